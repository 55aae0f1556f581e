/- Part 4 of a proof: closed runs of the given program, and the readings of its code that they use. -/
import Derived.Shelf.Spec.SlicesInsert
import Derived.Shelf.Spec.SlicesInsertGrow
import Derived.Shelf.Sort.Plain
import Derived.Shelf.Slices.In.SortNone
import Derived.Test.YtjkgcifieggcpaaGreatProg
import Derived.KernelRfl
import Derived.Test.YtjkgcifieggcpaaGreatP02
set_option linter.constructorNameAsVariable false
set_option linter.unusedVariables false
set_option linter.unusedSimpArgs false
set_option linter.unusedSectionVars false
namespace Pv
open Go Tw
inductive IRs:List MB->List HB->List PI->List gu->Prop where
 | nil {m h}:IRs m h [] []
 | cons {m h p t m1 h1 ps ts}:(aJ m).Nodup->(∀ b,b∈aJ m->b<h.length)->IR m h p t->Fr m h m1 h1->Up m m1->(p.mv=false->∀ (i:Nat),i<m.length->m1[i]? = some .gone->m[i]? = some .gone)->IRs m1 h1 ps ts->IRs m h (p::ps) (t::ts)
theorem UQ {fl b c:Nat} {ws:List Nat} (h:c∈xJ fl b ws):c∈ws∨(c=b∧b<fl):=by
 unfold xJ at h;split at h
 ·rename_i hl;split at h
  ·exact .inl h
  rcases List.mem_cons.1 h with h | h
  ·exact .inr ⟨h,hl⟩
  exact .inl h
 exact .inl h
theorem vI {fl c:Nat}:∀ {ks:List Key} {ws:List Nat},c∈dn fl ks ws->c∈ws∨(.h c∈ks∧c<fl)
 | [],ws,h=>.inl h
 | .h b::ks,ws,h=>by
  rcases vI (ks:=ks) h with h | ⟨h1,h2⟩
  ·rcases UQ h with h | ⟨rfl,h⟩
   ·exact .inl h
   exact .inr ⟨List.mem_cons_self,h⟩
  exact .inr ⟨List.mem_cons_of_mem _ h1,h2⟩
 | .l _::ks,ws,h=>by
  rcases vI (ks:=ks) h with h | ⟨h1,h2⟩
  ·exact .inl h
  exact .inr ⟨List.mem_cons_of_mem _ h1,h2⟩
theorem KH {m m1:List MB} (hU:Up m m1) (hg:∀ (i:Nat),i<m.length->m1[i]? = some .gone->m[i]? = some .gone) {i b:Nat} (h:xH m i b):xH m1 i b:=by
 obtain⟨mb,h1,h2⟩:=h;rcases hU i mb h1 with e | e
 ·exact⟨mb,e,h2⟩
 have:=hg i (List.getElem?_eq_some_iff.1 h1).1 e;rw[h1] at this;cases this;cases h2
theorem uj {m:List MB} (hn:(aJ m).Nodup) {i j b:Nat} (h1:xH m i b) (h2:xH m j b):i=j:=by
 obtain⟨_,a1,a2⟩:=h1;obtain⟨_,b1,b2⟩:=h2;exact dI hn a1 b1 a2 b2
theorem XP {ma mb:List MB} {ha hb:List HB} {pa pb:PI} {ta tb:gu} (na:(aJ ma).Nodup) (nb:(aJ mb).Nodup) (la:∀ b,b∈aJ ma->b<ha.length) (hab:Fr ma ha mb hb) (A:IR ma ha pa ta) (B:IR mb hb pb tb) (hc:Px pa pb=true)
  (DC:(∀ i b,xH ma i b->xH mb i b)∨pa.hp=false∨pb.hp=false):calm ta tb=true:=by
 simp only[Px,Bool.and_eq_true] at hc;obtain⟨c1,c2⟩:=hc;simp only[Ny,Bool.and_eq_true,List.all_eq_true,Bool.not_eq_true',Bool.or_eq_true] at c1 c2;obtain⟨c1,c1w⟩:=c1;obtain⟨c2,c2w⟩:=c2;simp only[calm,Bool.and_eq_true];constructor
 ·simp only[Dh,List.all_eq_true,Bool.and_eq_true,Bool.not_eq_true',Bool.and_eq_false_iff];intro k hk;cases k with
  | l j=>
   have:=c1 _ (A.wl j hk);simp only[List.contains_eq_mem,decide_eq_false_iff_not] at this ⊢;exact⟨⟨.inr rfl,fun h=>this.1.1.2 (B.tl j h)⟩,fun h=>this.1.2 (B.wl j h)⟩
  | h c=>
   rcases DC with UR | DC | DC
   ·-- nothing is given up
    have hca:c∈aJ ma:=by
     rcases A.wh c hk with⟨i,_,h2⟩ | ⟨_,h2⟩
     ·exact ND h2
     ·exact h2
    obtain⟨i0,hi0⟩:=fV hca;have SS:=UR _ _ hi0;have hcb:c∈aJ mb:=ND SS;rcases A.wh c hk with⟨i,h1,h2⟩ | ⟨h1,h2⟩
    ·have hii:=uj na hi0 h2;subst hii;have DF:=c1 _ h1;simp only[List.contains_eq_mem,decide_eq_false_iff_not,Key.RV,Bool.and_true] at DF;refine⟨⟨.inl ?_,?_⟩,?_⟩
     ·cases hq:tb.all with
      | false=>rfl
      | true=>rw[B.all hq] at DF;simp at DF
     ·simp only[List.contains_eq_mem,decide_eq_false_iff_not];intro hq;rcases (B.th c hq).1 with⟨j,g1,g2⟩ | g1
      ·have:=uj nb SS g2;subst this;exact DF.1.1.2 g1
      ·exact g1 hcb
     ·simp only[List.contains_eq_mem,decide_eq_false_iff_not];intro hq;rcases B.wh c hq with⟨j,g1,g2⟩ | ⟨g1,g2⟩
      ·have:=uj nb SS g2;subst this;exact DF.1.2 g1
      ·rw[g1] at DF;simp at DF
    ·rw[h1] at c1w;simp only[Bool.true_eq_false,false_or] at c1w;obtain⟨⟨⟨w1,w2⟩,w3⟩,w4⟩:=c1w;refine⟨⟨.inl ?_,?_⟩,?_⟩
     ·cases hq:tb.all with
      | false=>rfl
      | true=>rw[B.all hq] at w1;cases w1
     ·simp only[List.contains_eq_mem,decide_eq_false_iff_not];intro hq;rcases (B.th c hq).1 with⟨j,g1,g2⟩ | g1
      ·have:=w3 _ g1;simp[Key.RV] at this
      ·exact g1 hcb
     ·simp only[List.contains_eq_mem,decide_eq_false_iff_not];intro hq;rcases B.wh c hq with⟨j,g1,g2⟩ | ⟨g1,g2⟩
      ·have:=w4 _ g1;simp[Key.RV] at this
      ·rw[g1] at w2;cases w2
   ·exact absurd hk ((A.hp DC).2.2 c)
   ·obtain⟨g1,g2,g3⟩:=B.hp DC;refine⟨⟨.inl g1,?_⟩,?_⟩<;>simp only[List.contains_eq_mem,decide_eq_false_iff_not]
    ·exact g2 c
    ·exact g3 c
 ·simp only[Dh,List.all_eq_true,Bool.and_eq_true,Bool.not_eq_true',Bool.and_eq_false_iff];intro k hk;cases k with
  | l j=>
   have:=c2 _ (B.wl j hk);simp only[List.contains_eq_mem,decide_eq_false_iff_not] at this ⊢;exact⟨⟨.inr rfl,fun h=>this.1.1.2 (A.tl j h)⟩,fun h=>this.1.2 (A.wl j h)⟩
  | h c=>
   rcases DC with UR | DC | DC
   ·have hcb:c∈aJ mb:=by
     rcases B.wh c hk with⟨i,_,h2⟩ | ⟨_,h2⟩
     ·exact ND h2
     ·exact h2
    obtain⟨j0,hj0⟩:=fV hcb;have back:c<ha.length->c∈aJ ma:=fun aN=>by
     rcases hab.new c hcb with h1 | h1
     ·exact h1
     ·omega
    have a5A:∀ i,xH ma i c->i=j0:=fun i hi=>uj nb (UR _ _ hi) hj0;rcases B.wh c hk with⟨j,h1,h2⟩ | ⟨h1,h2⟩
    ·have hii:=uj nb hj0 h2;subst hii;have DF:=c2 _ h1;simp only[List.contains_eq_mem,decide_eq_false_iff_not,Key.RV,Bool.and_true] at DF;refine⟨⟨.inl ?_,?_⟩,?_⟩
     ·cases hq:ta.all with
      | false=>rfl
      | true=>rw[A.all hq] at DF;simp at DF
     ·simp only[List.contains_eq_mem,decide_eq_false_iff_not];intro hq;obtain⟨g0,glt⟩:=A.th c hq;rcases g0 with⟨i,g1,g2⟩ | g1
      ·have:=a5A i g2;subst this;exact DF.1.1.2 g1
      ·exact g1 (back glt)
     ·simp only[List.contains_eq_mem,decide_eq_false_iff_not];intro hq;rcases A.wh c hq with⟨i,g1,g2⟩ | ⟨g1,g2⟩
      ·have:=a5A i g2;subst this;exact DF.1.2 g1
      ·rw[g1] at DF;simp at DF
    ·rw[h1] at c2w;simp only[Bool.true_eq_false,false_or] at c2w;obtain⟨⟨⟨w1,w2⟩,w3⟩,w4⟩:=c2w;refine⟨⟨.inl ?_,?_⟩,?_⟩
     ·cases hq:ta.all with
      | false=>rfl
      | true=>rw[A.all hq] at w1;cases w1
     ·simp only[List.contains_eq_mem,decide_eq_false_iff_not];intro hq;obtain⟨g0,glt⟩:=A.th c hq;rcases g0 with⟨i,g1,g2⟩ | g1
      ·have:=w3 _ g1;simp[Key.RV] at this
      ·exact g1 (back glt)
     ·simp only[List.contains_eq_mem,decide_eq_false_iff_not];intro hq;rcases A.wh c hq with⟨i,g1,g2⟩ | ⟨g1,g2⟩
      ·have:=w4 _ g1;simp[Key.RV] at this
      ·rw[g1] at w2;cases w2
   ·obtain⟨g1,g2,g3⟩:=A.hp DC;refine⟨⟨.inl g1,?_⟩,?_⟩<;>simp only[List.contains_eq_mem,decide_eq_false_iff_not]
    ·exact g2 c
    ·exact g3 c
   ·exact absurd hk ((B.hp DC).2.2 c)
theorem UU:∀ {ps:List PI} {ts:List gu} {m:List MB} {h:List HB},IRs m h ps ts->∀ {j:Nat} {p:PI},ps[j]? = some p->∃ t mj hj,ts[j]? = some t∧IR mj hj p t∧(aJ mj).Nodup∧(∀ b,b∈aJ mj->b<hj.length)∧Fr m h mj hj∧((∀ (i:Nat) q,i<j->ps[i]? = some q->q.mv=false)->∀ i b,xH m i b->xH mj i b)
 | _,_,_,_,.nil,j,p,hj=>by simp at hj
 | _,_,m,h,.cons n1 n2 i1 f1 u1 g1 rest,j,p,hj=>by
  cases j with
  | zero=>
   simp only[List.getElem?_cons_zero,Option.some.injEq] at hj;subst hj;exact⟨_,m,h,rfl,i1,n1,n2,.refl,fun _ i b hb=>hb⟩
  | succ j=>
   obtain⟨t,mj,BG,e1,e2,e3,e4,e5,e6⟩:=UU rest (j:=j) (by simpa using hj);refine⟨t,mj,BG,by simpa using e1,e2,e3,e4,f1.trans e5,fun hq i b hb=>e6 (fun i q hl hi=>hq (i+1) q (by omega) (by simpa using hi)) i b ?_⟩;exact KH u1 (g1 (hq 0 _ (by omega) rfl)) hb
theorem PW:∀ {ps:List PI} {ts:List gu} {m:List MB} {h:List HB},IRs m h ps ts->∀ {i j:Nat} {p q:PI},i<j->ps[i]? = some p->ps[j]? = some q->Px p q=true->((∀ (k:Nat) q,i<=k->k<j->ps[k]? = some q->q.mv=false)∨p.hp=false∨q.hp=false)->∃ a b,ts[i]? = some a∧ts[j]? = some b∧calm a b=true
 | _,_,_,_,.nil,i,j,p,q,_,hi,_,_,_=>by simp at hi
 | _,_,m,h,.cons n1 n2 i1 f1 u1 g1 rest,i,j,p,q,BJ,hi,hj,hc,DC=>by
  cases j with
  | zero=>omega
  | succ j=>
   cases i with
   | zero=>
    simp only[List.getElem?_cons_zero,Option.some.injEq] at hi;subst hi;obtain⟨t,mj,BG,e1,e2,e3,e4,e5,e6⟩:=UU rest (j:=j) (by simpa using hj);refine⟨_,t,rfl,by simpa using e1,XP n1 e3 n2 (f1.trans e5) i1 e2 hc ?_⟩;refine DC.imp_left fun hq i b hb=>e6 (fun i q hl hi=>hq (i+1) q (by omega) (by omega) (by simpa using hi)) i b (KH u1 (g1 (hq 0 _ (by omega) (by omega) rfl)) hb)
   | succ i=>
    obtain⟨a,b,e1,e2,e3⟩:=PW rest (i:=i) (j:=j) (by omega) (by simpa using hi) (by simpa using hj) hc (DC.imp_left fun hq k q h1 h2 hi=>hq (k+1) q (by omega) (by omega) (by simpa using hi));exact⟨a,b,by simpa using e1,by simpa using e2,e3⟩
theorem UW {ps:List PI} {ts:List gu} {m:List MB} {h:List HB} (hI:IRs m h ps ts):∀ {prs:List (Nat×Nat)},(∀ q∈prs,q.1<q.2)->IU ps prs=true->lN ts prs=true
 | [],_,_=>rfl
 | (i,j)::r,aN,hd=>by
  simp only[IU,Bool.and_eq_true] at hd;obtain⟨h1,h2⟩:=hd;split at h1
  ·rename_i a b ha hb;simp only[Bool.and_eq_true,Bool.or_eq_true,Bool.not_eq_true'] at h1;obtain⟨x,y,e1,e2,e3⟩:=PW hI (aN _ List.mem_cons_self) ha hb h1.1 (by
    rcases h1.2 with (h3 | h3) | h3
    ·exact .inr (.inl h3)
    ·exact .inr (.inr h3)
    left;intro k q Lj BX hk;cases hq:q.mv with
    | false=>rfl
    | true=>
     refine absurd (List.any_eq_true.2 ⟨q,List.mem_of_getElem? (i:=k-i) ?_,hq⟩) (by rw[h3];simp);rw[List.getElem?_take,if_pos (by omega),List.getElem?_drop,<-hk];congr 1;omega)
   simp only[lN,e1,e2,e3,Bool.true_and];exact UW hI (fun q hq=>aN q (List.mem_cons_of_mem _ hq)) h2
  cases h1
theorem a2c {ops:List Oper}:∀ q∈eH ops,q.1<q.2:=by
 intro q hq;unfold eH at hq;have:=(List.mem_filter.1 hq).1;unfold gJ at this;simp only[List.mem_flatMap,List.mem_map,List.mem_filter,List.mem_range] at this;obtain⟨j,_,i,⟨hi,_⟩,rfl⟩:=this;exact hi
theorem Ht {ts:List gu} (hw:∀ t∈ts,t.ws=[]):∀ {prs:List (Nat×Nat)},(∀ q∈prs,q.1<ts.length∧q.2<ts.length)->lN ts prs=true
 | [],_=>rfl
 | (i,j)::r,hl=>by
  obtain⟨h1,h2⟩:=hl _ List.mem_cons_self;simp only[lN,List.getElem?_eq_getElem h1,List.getElem?_eq_getElem h2,Bool.and_eq_true];refine⟨?_,Ht hw fun q hq=>hl q (List.mem_cons_of_mem _ hq)⟩;simp[calm,Dh,hw _ (List.getElem_mem h1),hw _ (List.getElem_mem h2)]
theorem a2d {ops:List Oper}:∀ q∈eH ops,q.1<ops.length∧q.2<ops.length:=by
 intro q hq;unfold eH at hq;have:=(List.mem_filter.1 hq).1;unfold gJ at this;simp only[List.mem_flatMap,List.mem_map,List.mem_filter,List.mem_range] at this;obtain⟨j,hj,i,⟨hi,_⟩,rfl⟩:=this;exact⟨by simp only;omega,hj⟩
section
variable {X:iQ} {P:Program} {A W:Nat->Prop} {m m':List MB} {h:List HB}
structure SR (X:iQ) (P:Program) (A W:Nat->Prop) (fl:Nat) (m:List MB) (ps:aV X.Γ) (ts:St):Prop where
 st:nR X P A m ps ts
 own:∀ b,b∈aJ m->W b∨fl<=b
 ws:∀ b,b∈ts.ws->W b
 fl:fl<=ts.heap.length
def FK (B:Nat) (m m1:List MB):Prop:=∀ (i:Nat) mb,i<B->m[i]? = some mb->m1[i]? = some mb∨m1[i]? = some .gone
theorem Up.b {B:Nat} {m m1:List MB} (h:Up m m1):FK B m m1:=fun i mb _ hi=>h i mb hi
theorem FK.trans {B:Nat} {m m1 m2:List MB} (a:FK B m m1) (b:FK B m1 m2):FK B m m2:=fun i mb hB hi=>by
 rcases a i mb hB hi with h | h
 ·exact b i mb hB h
 ·rcases b i _ hB h with h | h<;>exact .inr h
theorem FK.refl {B:Nat} {m:List MB}:FK B m m:=fun _ _ _ h=>.inl h
def um (X:iQ) (P:Program) (B:Nat) (ps fJ:aV X.Γ):Prop:=
 ∀ (A W:Nat->Prop) (fl:Nat) (m:List MB) (ts:St),SR X P A W fl m ps ts->∃ m1,SR X P A W fl m1 fJ ts∧Fr m ts.heap m1 ts.heap∧FK B m m1
theorem um.refl {B:Nat} {ps:aV X.Γ}:um X P B ps ps:=fun _ _ _ m _ hS=>⟨m,hS,.refl,.refl⟩
theorem um.trans {B:Nat} {a b c:aV X.Γ} (h1:um X P B a b) (h2:um X P B b c):um X P B a c:=fun A W fl m ts hS=>by
 obtain⟨m1,g1,g2,g3⟩:=h1 A W fl m ts hS;obtain⟨m2,g4,g5,g6⟩:=h2 A W fl m1 ts g1;exact⟨m2,g4,g2.trans g5,g3.trans g6⟩
theorem XQ {env:List (Nat×PE X.Γ)} {env':List (Nat×EV)} (he:gX X P A m h env env'):gX X P A m h (Xv env) env':=by
 induction he with
 | nil=>exact .nil
 | cons h1 _ ih=>
  rename_i k v x r r' _;cases v with
  | val v=>obtain⟨y,rfl,h2⟩:=cu h1;exact .cons (ji (yI h2)) ih
  | loc=>exact .cons h1 ih
  | undef=>exact .cons h1 ih
theorem XR {t i:Nat} (hi:m[i]? = some (.bK (.nil .slc))):∀ {env:List (Nat×PE X.Γ)} {env':List (Nat×EV)} {r:List (Nat×PE X.Γ)},gX X P A m h env env'->Nr t i env=some r->gX X P A m h r env':=by
 intro env env' r he
 induction he generalizing r with
 | nil=>intro h;cases h
 | cons h1 h2 ih=>
  rename_i k v x q q';intro hn;simp only[Nr] at hn;split at hn
  ·split at hn
   ·cases hn;obtain⟨y,rfl,h3⟩:=cu h1;have:y=.nil .slc:=by
     cases h3 with
     | nil=>rfl
     | gone hi _ _=>simp[aG] at hi
    subst this;exact .cons (ji (.own hi rfl)) h2
   cases hn
  simp only[Option.map_eq_some_iff] at hn;obtain⟨q2,h3,rfl⟩:=hn;exact .cons h1 (ih h3)
theorem PX {i off:Nat} (hi:m[i]? = some (.bK (.nil .slc))) {cs r:List (PV X.Γ)} {xs:List TV} (hv:aH X P A m h cs xs) (hn:Xw off i cs=some r):aH X P A m h r xs:=by
 unfold Xw at hn;split at hn
 ·rename_i hc;cases hn;refine⟨by rw[List.length_set,hv.1],fun j a b ha hb=>?_⟩;by_cases e:off=j
  ·subst e;rw[List.getElem?_set_self',hc] at ha;cases ha;have:b=.nil .slc:=by
    cases hv.2 _ _ _ hc hb with
    | nil=>rfl
    | gone hi _ _=>simp[aG] at hi
   subst this;exact .own hi rfl
  rw[List.getElem?_set_ne e] at ha;exact hv.2 j a b ha hb
 cases hn
theorem SR.J6 {fl:Nat} {ps:aV X.Γ} {ts:St} (hS:SR X P A W fl m ps ts) (e:Nat):∃ m1,HR X P A m1 (ps.heap++[.list false false e []]) ts.heap∧Fr m ts.heap m1 ts.heap∧Up m m1∧m1[ps.heap.length]? = some (.bK (.nil .slc))∧(∀ b,b∈aJ m1->b∈aJ m):=by
 obtain⟨h1,h2,h3⟩:=hS.st.heap.a0v (pb:=.list false false e []) (mb:=.bK (.nil .slc)) rfl LR.nil;refine⟨_,h1,h2,h3,by rw[<-hS.st.heap.len];simp,fun b hb=>?_⟩;rw[dK,List.mem_append,fG] at hb;simpa[MB.own] using hb
theorem UY (hX:aX X P) {B:Nat} {g:G} {ps fJ:aV X.Γ} (hg:tK B ps g=some fJ):um X P B ps fJ:=by
 intro A W fl m ts hS;cases g with
 | lit=>
  simp only[tK,Option.some.injEq] at hg;subst hg;exact⟨m,⟨⟨hS.st.heap,hS.st.llen,hS.st.loc,XQ hS.st.env⟩,hS.own,hS.ws,hS.fl⟩,.refl,.refl⟩
 | Nr t e=>
  simp only[tK,Option.map_eq_some_iff] at hg;obtain⟨env,h1,rfl⟩:=hg;obtain⟨m1,e1,e2,e3,e4,e5⟩:=hS.J6 e;exact⟨m1,⟨⟨e1,hS.st.llen,fun k cs hk=>let ⟨cs',q1,q2⟩:=hS.st.loc k cs hk;⟨cs',q1,q2.step e2 e3⟩,XR e4 (hS.st.env.step e2 e3) h1⟩,fun b hb=>hS.own b (e5 b hb),hS.ws,hS.fl⟩,e2,e3.b⟩
 | a4W k off e=>
  simp only[tK] at hg;split at hg
  ·rename_i cs hk;simp only[Option.map_eq_some_iff] at hg;obtain⟨Jm,h1,rfl⟩:=hg;obtain⟨m1,e1,e2,e3,e4,e5⟩:=hS.J6 e;refine⟨m1,⟨⟨e1,by simp[hS.st.llen],fun j ds hj=>?_,hS.st.env.step e2 e3⟩,fun b hb=>hS.own b (e5 b hb),hS.ws,hS.fl⟩,e2,e3.b⟩;by_cases e0:k=j
   ·subst e0;rw[List.getElem?_set_self',hk] at hj;cases hj;obtain⟨cs',q1,q2⟩:=hS.st.loc k cs hk;exact⟨cs',q1,PX e4 (q2.step e2 e3) h1⟩
   rw[List.getElem?_set_ne e0] at hj;obtain⟨cs',q1,q2⟩:=hS.st.loc j ds hj;exact⟨cs',q1,q2.step e2 e3⟩
  cases hg
 | a4X i off e=>
  simp only[tK] at hg;split at hg
  rotate_left
  ·cases hg
  rename_i cs hi;simp only[Option.map_eq_some_iff] at hg;obtain⟨Jm,h1,rfl⟩:=hg;obtain⟨m1,e1,e2,e3,e4,e5⟩:=hS.J6 e;have aN:i<ps.heap.length:=(List.getElem?_eq_some_iff.1 hi).1;have hr2:HR X P A m1 (ps.heap.set i (.cells Jm)++[.list false false e []]) ts.heap:=by
   refine e1.next .refl .refl (by simp[e1.len]) e1.nodup fun j b hj=>?_;by_cases e0:i=j
   ·subst e0;right;rw[List.getElem?_append_left (by simpa using aN),List.getElem?_set_self',hi] at hj;cases hj;obtain⟨mb,q1,q2⟩:=e1.at_ i (.cells cs) (by rw[List.getElem?_append_left aN];exact hi);refine⟨mb,q1,?_⟩;cases mb with
    | cO c=>obtain⟨xs,q3,q4⟩:=q2;exact⟨xs,q3,PX e4 q4 h1⟩
    | _=>exact q2.elim
   left;have:(ps.heap++[PB.list false false e []])[j]? = some b:=by
    rw[<-hj];rcases Nat.lt_or_ge j ps.heap.length with h9 | h9
    ·rw[List.getElem?_append_left h9,List.getElem?_append_left (by simpa using h9),List.getElem?_set_ne e0]
    rw[List.getElem?_append_right h9,List.getElem?_append_right (by simpa using h9),List.length_set]
   obtain⟨mb,q1,_⟩:=e1.at_ j b this;exact⟨mb,this,q1,q1,fun _ _=>rfl⟩
  exact⟨m1,⟨⟨hr2,hS.st.llen,fun k cs hk=>let ⟨cs',q1,q2⟩:=hS.st.loc k cs hk;⟨cs',q1,q2.step e2 e3⟩,hS.st.env.step e2 e3⟩,fun b hb=>hS.own b (e5 b hb),hS.ws,hS.fl⟩,e2,e3.b⟩
 | flag i=>
  simp only[tK] at hg;split at hg
  rotate_left
  ·cases hg
  rename_i k ex t l hi;cases hg;have hr:=hS.st.heap;refine⟨m,⟨⟨?_,hS.st.llen,hS.st.loc,hS.st.env⟩,hS.own,hS.ws,hS.fl⟩,.refl,.refl⟩;refine hr.next .refl .refl (by simp[hr.len]) hr.nodup fun j b hj=>?_;by_cases e0:i=j
  ·subst e0;right;rw[List.getElem?_set_self',hi] at hj;cases hj;obtain⟨mb,q1,q2⟩:=hr.at_ i _ hi;refine⟨mb,q1,?_⟩;cases mb with
   | bK y=>
    cases (q2:LR X P _ _ _ _ _ _ _ y) with
    | nil=>exact LR.nil
    | emp p0 p1 p2 p3 p4=>exact LR.emp p0 p1 p2 p3 p4
    | some p1 p2 p3 p4 p5 p6 p7 p8 p9=>exact LR.some p1 p2 p3 p4 p5 (by simp) (by simp) p8 p9
   | _=>exact q2.elim
  left;rw[List.getElem?_set_ne e0] at hj;obtain⟨mb,q1,_⟩:=hr.at_ j b hj;exact⟨mb,hj,q1,q1,fun _ _=>rfl⟩
 | gc ks=>
  simp only[tK] at hg;split at hg
  rotate_left
  ·cases hg
  rename_i hc;simp only[Bool.and_eq_true,decide_eq_true_eq,List.all_eq_true] at hc;obtain⟨⟨DJ,lH⟩,hB⟩:=hc;split at hg
  rotate_left
  ·cases hg
  rename_i env loc b1 b2 h1 h2 h3 h4;split at hg
  rotate_left
  ·cases hg
  rename_i b3 h5;cases hg;have hr:=hS.st.heap;have hp:=vH h4;have a9L:∀ k∈ks,k<m.length:=fun k hk=>by
   obtain⟨i,hi⟩:=List.getElem?_of_mem hk;obtain⟨b,q1,_⟩:=hp.2 hi;rw[hr.len];exact (List.getElem?_eq_some_iff.1 q1).1
  have hBm:B<=m.length:=by rw[hr.len];exact hB
  let m1:List MB:=m.take B++ks.map fun k=>m.getD k .gone
  have a2e:(m.take B).length=B:=by rw[List.length_take];omega
  have JF:∀ i,i<B->m1[i]? = m[i]?:=fun i hi=>by
   show (m.take B++_)[i]? = _;rw[List.getElem?_append_left (by omega),List.getElem?_take,if_pos hi]
  have TI:∀ p k,ks[p]? = some k->m1[p+B]? = m[k]?:=fun p k hp=>by
   show (m.take B++_)[p+B]? = _;rw[List.getElem?_append_right (by omega),a2e,Nat.add_sub_cancel,List.getElem?_map,hp];have:=a9L k (List.mem_of_getElem? hp);simp[List.getD_eq_getElem?_getD,this]
  have hg:∀ i j,(fun i=>if i<B then some i else (ni ks i).map (·+B)) i=some j->m1[j]? = m[i]?:=fun i j BJ=>by
   simp only at BJ;split at BJ
   ·rename_i hi;cases BJ;exact JF i hi
   simp only[Option.map_eq_some_iff] at BJ;obtain⟨p,hp,rfl⟩:=BJ;exact TI p i (EG hp)
  have hold:∀ j mb,m1[j]? = some mb->∃ i,m[i]? = some mb∧((j<B∧i=j)∨∃ p,j=p+B∧ks[p]? = some i):=fun j mb hj=>by
   rcases Nat.lt_or_ge j B with aN | zB
   ·exact⟨j,by rw[<-JF j aN];exact hj,.inl ⟨aN,rfl⟩⟩
   have Ls:j-B<ks.length:=by
    have:=(List.getElem?_eq_some_iff.1 hj).1;have h9:m1.length=B+ks.length:=by show (m.take B++_).length=_;rw[List.length_append,a2e,List.length_map]
    omega
   have hp:=List.getElem?_eq_getElem Ls;have hh:=TI (j-B) _ hp;rw[show j-B+B=j by omega,hj] at hh;exact⟨_,hh.symm,.inr ⟨j-B,by omega,hp⟩⟩
  have mD:∀ b,b∈aJ m1->b∈aJ m:=fun b hb=>by
   obtain⟨j,mb,q1,q2⟩:=fV hb;obtain⟨i,q3,_⟩:=hold j mb q1;exact aC q3 q2
  have hA:∀ b,AA A m b->AA A m1 b:=fun b hb=>⟨hb.1,fun hm=>hb.2 (mD b hm)⟩;have a2f:(aJ m1).Nodup:=eX fun i j c q1 q2=>by
   obtain⟨ma,a1,a2⟩:=q1;obtain⟨mc,c1,c2⟩:=q2;obtain⟨i',a3,a4⟩:=hold i ma a1;obtain⟨j',c3,c4⟩:=hold j mc c1;have e:=dI hr.nodup a3 c3 a2 c2;subst e;rcases a4 with⟨a5,a6⟩ | ⟨p,a5,a6⟩<;>rcases c4 with⟨c5,c6⟩ | ⟨q,c5,c6⟩
   ·omega
   ·have:=DJ _ (List.mem_of_getElem? c6);omega
   ·have:=DJ _ (List.mem_of_getElem? a6);omega
   have qK:=(List.getElem?_eq_some_iff.1 a6).1;have:p=q:=(List.getElem?_inj qK lH).1 (by rw[a6,c6]);omega
  have hFr:Fr m ts.heap m1 ts.heap:=⟨Nat.le_refl _,fun _ _ _=>rfl,fun b hb=>.inl (mD b hb),fun b cs hc=>⟨cs,hc,Nat.le_refl _⟩⟩;have uT:=kS h3;have Tn:=kS h5;have Sj:=EI h2;refine⟨m1,⟨⟨⟨?_,fun j b hj=>?_,a2f,hr.up,fun b hb=>hr.yH b (mD b hb)⟩,by rw[Sj.1];exact hS.st.llen,fun k cs hk=>?_,EH hX hg hA hS.st.env h1⟩,fun b hb=>hS.own b (mD b hb),hS.ws,hS.fl⟩,hFr,fun i mb hi hm=>.inl (by rw[JF i hi];exact hm)⟩
  ·show (m.take B++_).length=_;rw[List.length_append,List.length_append,List.length_map,uT.1,Tn.1,hp.1,a2e,List.length_take];omega
  ·have OW:b1.length=B:=by rw[uT.1,List.length_take];omega
   rcases Nat.lt_or_ge j B with aN | zB
   ·rw[List.getElem?_append_left (by omega)] at hj;obtain⟨b0,q1,q2⟩:=uT.2 hj;rw[List.getElem?_take,if_pos aN] at q1;obtain⟨mb,q3,q4⟩:=hr.at_ j b0 q1;exact⟨mb,by rw[JF j aN];exact q3,vG hX hg hA (fun c _ h9 h8=>h9 (mD c h8)) q4 q2⟩
   rw[List.getElem?_append_right (by omega),OW] at hj;obtain⟨b0,q1,q2⟩:=Tn.2 hj;have Ls:j-B<ks.length:=by rw[<-hp.1];exact (List.getElem?_eq_some_iff.1 q1).1
   obtain⟨b9,q5,q6⟩:=hp.2 (List.getElem?_eq_getElem Ls);rw[q1] at q6;cases q6;obtain⟨mb,q3,q4⟩:=hr.at_ _ _ q5;refine⟨mb,?_,vG hX hg hA (fun c _ h9 h8=>h9 (mD c h8)) q4 q2⟩;have:=TI (j-B) _ (List.getElem?_eq_getElem Ls);rw[show j-B+B=j by omega] at this;rw[this];exact q3
  obtain⟨cs0,q1,q2⟩:=Sj.2 hk;obtain⟨cs',q3,q4⟩:=hS.st.loc k cs0 q1;exact⟨cs',q3,ql hX hg hA q4 q2⟩
 | mv i=>
  simp only[tK] at hg;split at hg
  rotate_left
  ·cases hg
  rename_i b0 hi;split at hg
  rotate_left
  ·cases hg
  rename_i env loc b1 b2 h1 h2 h3 h4;cases hg;have hr:=hS.st.heap;have aN:i<ps.heap.length:=(List.getElem?_eq_some_iff.1 hi).1;obtain⟨mi,mi1,mi2⟩:=hr.at_ i b0 hi
  let m1:List MB:=m.set i .gone++[mi]
  have kF:(m.set i .gone).length=ps.heap.length:=by rw[List.length_set,hr.len]
  have JF:∀ j,j<ps.heap.length->j≠i->m1[j]? = m[j]?:=fun j hj hn=>by
   show (m.set i .gone++[mi])[j]? = _;rw[List.getElem?_append_left (by omega),List.getElem?_set_ne (fun e=>hn e.symm)]
  have Ig:m1[i]? = some .gone:=by
   show (m.set i .gone++[mi])[i]? = _;rw[List.getElem?_append_left (by omega),List.getElem?_set_self',mi1];rfl
  have TI:m1[ps.heap.length]? = some mi:=by
   show (m.set i .gone++[mi])[ps.heap.length]? = _;rw[List.getElem?_append_right (by omega),kF,Nat.sub_self];rfl
  have hg:∀ a b,(fun j=>if j=i then some ps.heap.length else if j<ps.heap.length then some j else none) a=some b->m1[b]? = m[a]?:=fun a b hab=>by
   simp only at hab;split at hab
   ·rename_i e;subst e;cases hab;rw[TI,mi1]
   split at hab
   ·rename_i e1 e2;cases hab;exact JF a e2 e1
   cases hab
  have hold:∀ j mb,m1[j]? = some mb->mb=.gone∨∃ k,m[k]? = some mb∧((j<ps.heap.length∧k=j∧j≠i)∨(j=ps.heap.length∧k=i)):=fun j mb hj=>by
   have Ls:j<ps.heap.length+1:=by
    have:=(List.getElem?_eq_some_iff.1 hj).1;have h9:m1.length=ps.heap.length+1:=by show (m.set i .gone++[mi]).length=_;rw[List.length_append,kF];rfl
    omega
   by_cases e:j=i
   ·subst e;rw[Ig] at hj;cases hj;exact .inl rfl
   rcases Nat.lt_or_ge j ps.heap.length with h5 | h5
   ·exact .inr ⟨j,by rw[<-JF j h5 e];exact hj,.inl ⟨h5,rfl,e⟩⟩
   have:j=ps.heap.length:=(by omega);subst this;rw[TI] at hj;cases hj;exact .inr ⟨i,mi1,.inr ⟨rfl,rfl⟩⟩
  have mD:∀ b,b∈aJ m1->b∈aJ m:=fun b hb=>by
   obtain⟨j,mb,q1,q2⟩:=fV hb;rcases hold j mb q1 with rfl | ⟨k,q3,_⟩
   ·cases q2
   exact aC q3 q2
  have hA:∀ b,AA A m b->AA A m1 b:=fun b hb=>⟨hb.1,fun hm=>hb.2 (mD b hm)⟩;have a2f:(aJ m1).Nodup:=eX fun j k c q1 q2=>by
   obtain⟨ma,a1,a2⟩:=q1;obtain⟨mc,c1,c2⟩:=q2;rcases hold j ma a1 with rfl | ⟨j',a3,a4⟩
   ·cases a2
   rcases hold k mc c1 with rfl | ⟨k',c3,c4⟩
   ·cases c2
   have e:=dI hr.nodup a3 c3 a2 c2;subst e;rcases a4 with⟨a5,a6,a7⟩ | ⟨a5,a6⟩<;>rcases c4 with⟨c5,c6,c7⟩ | ⟨c5,c6⟩<;>omega
  have hFr:Fr m ts.heap m1 ts.heap:=⟨Nat.le_refl _,fun _ _ _=>rfl,fun b hb=>.inl (mD b hb),fun b cs hc=>⟨cs,hc,Nat.le_refl _⟩⟩;have uT:=kS h3;have Sj:=EI h2;have a5B:b1.length=ps.heap.length:=by rw[uT.1,List.length_set]
  refine⟨m1,⟨⟨⟨?_,fun j b hj=>?_,a2f,hr.up,fun b hb=>hr.yH b (mD b hb)⟩,by rw[Sj.1];exact hS.st.llen,fun k cs hk=>?_,EH hX hg hA hS.st.env h1⟩,fun b hb=>hS.own b (mD b hb),hS.ws,hS.fl⟩,hFr,fun j mb _ hj=>?_⟩
  ·show (m.set i .gone++[mi]).length=_;rw[List.length_append,List.length_append,kF,a5B];rfl
  ·rcases Nat.lt_or_ge j ps.heap.length with h5 | h5
   ·rw[List.getElem?_append_left (by omega)] at hj;obtain⟨b9,q1,q2⟩:=uT.2 hj;by_cases e:j=i
    ·subst e;rw[List.getElem?_set_self',hi] at q1;cases q1;have q2:some (PB.gone (Γ:=X.Γ))=some b:=q2;cases q2;exact⟨.gone,Ig,trivial⟩
    rw[List.getElem?_set_ne (fun e2=>e e2.symm)] at q1;obtain⟨mb,q3,q4⟩:=hr.at_ j b9 q1;exact⟨mb,by rw[JF j h5 e];exact q3,vG hX hg hA (fun c _ h9 h8=>h9 (mD c h8)) q4 q2⟩
   rw[List.getElem?_append_right (by omega),a5B] at hj;have:j-ps.heap.length=0:=by
    have:=(List.getElem?_eq_some_iff.1 hj).1;simp at this;omega
   rw[this] at hj;cases hj;refine⟨mi,?_,vG hX hg hA (fun c _ h9 h8=>h9 (mD c h8)) mi2 h4⟩;rw[show j=ps.heap.length by omega];exact TI
  ·obtain⟨cs0,q1,q2⟩:=Sj.2 hk;obtain⟨cs',q3,q4⟩:=hS.st.loc k cs0 q1;exact⟨cs',q3,ql hX hg hA q4 q2⟩
  by_cases e:j=i
  ·subst e;exact .inr Ig
  have:j<ps.heap.length:=by rw[<-hr.len];exact (List.getElem?_eq_some_iff.1 hj).1
  exact .inl (by rw[JF j this e];exact hj)
theorem jd (hX:aX X P) {B:Nat}:∀ {gs:List G} {ps fJ:aV X.Γ},jX B gs ps=some fJ->um X P B ps fJ
 | [],ps,fJ,h=>by simp only[jX,Option.some.injEq] at h;subst h;exact .refl
 | g::gs,ps,fJ,h=>by
  simp only[jX] at h;split at h
  ·rename_i s hs;exact (UY hX hs).trans (jd hX h)
  cases h
end
section
variable {X:iQ} {P:Program} {T:iF} {A W:Nat->Prop} {m m':List MB}
variable {call:ay} {kX:iO X.Γ} {ρ:Type} {y:ρ}
theorem SR.su {fl:Nat} {ps:aV X.Γ} {ts:St} (hS:SR X P A W fl m ps ts) {x:Operand} {b:Bool} (hb:lJ ts.env x=some (.bool b)):SR X P A W fl m (ps.su x b) ts:=⟨hS.st.su hb,hS.own,hS.ws,hS.fl⟩
theorem nR.put {ps:aV X.Γ} {ts:St} (hR:nR X P A m ps ts) {d:Option Nat} {pe:PE X.Γ} {ev:EV} (h:CP X P (AA A m) m ts.heap pe ev):nR X P A m (ps.put d pe) (ts.put d ev):=by
 cases d with
 | none=>exact hR
 | some d=>exact⟨hR.heap,hR.llen,hR.loc,.cons h hR.env⟩
theorem qm {ts:St} {d:Option Nat} {ev:EV}:(ts.put d ev).heap=ts.heap∧(ts.put d ev).ws=ts.ws:=by cases d<;>exact⟨rfl,rfl⟩
theorem KI {H:List (PB X.Γ)} {h:List HB} (hr:HR X P A m H h) {i:Nat} {b:PB X.Γ} (hb:H[i]? = some b):jY b=true↔m[i]? = some .gone:=by
 obtain⟨mb,h1,h2⟩:=hr.at_ i b hb;cases b with
 | gone=>
  cases mb with
  | gone=>exact⟨fun _=>h1,fun _=>rfl⟩
  | _=>exact h2.elim
 | cells cs=>cases mb with
  | gone=>exact h2.elim
  | _=>simp[jY,h1]
 | fF cs=>cases mb with
  | gone=>exact h2.elim
  | _=>simp[jY,h1]
 | list k ex t l=>cases mb with
  | gone=>exact h2.elim
  | _=>simp[jY,h1]
 | map es=>cases mb with
  | gone=>exact h2.elim
  | _=>simp[jY,h1]
 | mark=>cases mb with
  | gone=>exact h2.elim
  | _=>simp[jY,h1]
 | rQ=>cases mb with
  | gone=>exact h2.elim
  | _=>simp[jY,h1]
 | vU=>cases mb with
  | gone=>exact h2.elim
  | _=>simp[jY,h1]
 | bn=>cases mb with
  | gone=>exact h2.elim
  | _=>simp[jY,h1]
 | loop=>cases mb with
  | gone=>exact h2.elim
  | _=>simp[jY,h1]
theorem Bj:∀ {H H1:List (PB X.Γ)},qc H H1=true->∀ {i:Nat} {b:PB X.Γ},H[i]? = some b->∃ b1,H1[i]? = some b1∧jY b=jY b1
 | [],H1,_,i,b,hi=>by simp at hi
 | a::H,[],h,i,b,hi=>by simp[qc] at h
 | a::H,a1::H1,h,i,b,hi=>by
  simp only[qc,Bool.and_eq_true,beq_iff_eq] at h;cases i with
  | zero=>simp only[List.getElem?_cons_zero,Option.some.injEq] at hi;subst hi;exact⟨a1,rfl,h.1⟩
  | succ i=>obtain⟨b1,e1,e2⟩:=Bj h.2 (i:=i) (by simpa using hi);exact⟨b1,by simpa using e1,e2⟩
theorem a2g {H H1:List (PB X.Γ)} {h h1:List HB} {m1:List MB} (hr:HR X P A m H h) (hr1:HR X P A m1 H1 h1) (hs:(!qc H H1)=false):∀ (i:Nat),i<m.length->m1[i]? = some .gone->m[i]? = some .gone:=by
 intro i hi hg;have nO:i<H.length:=by rw[<-hr.len];exact hi
 have hb:=List.getElem?_eq_getElem nO;obtain⟨b1,e1,e2⟩:=Bj (by simpa using hs) hb;have:=(KI hr1 e1).2 hg;rw[<-e2] at this;exact (KI hr hb).1 this
theorem Cb {fl:Nat} {ops:Array Oper} {ps:aV X.Γ} {ts:St} (hS:SR X P A W fl m ps ts) {o:Oper} {an:PT X.Γ} {k:Bool->aV X.Γ->PT X.Γ->OT ρ} (hk:(Nw X ops ps o an k).Ends y) :
  ∃ w fJ Bg,rJ ops ts.env o=some w∧SR X P A W fl m fJ ts∧(k w fJ Bg).Ends y∧fJ.heap=ps.heap:=by
 unfold Nw at hk;unfold rJ;split at hk
 ·rename_i hg;exact⟨true,ps,an,by simp only[hg],hS,hk,rfl⟩
 ·rename_i j want hg;simp only[hg];split at hk
  ·rename_i d hd;simp only[hd];split at hk
   ·rename_i b hb;obtain⟨ev,h1,h2⟩:=iY hS.st.env hb;obtain⟨tv,rfl,h3⟩:=cu h2;obtain⟨t,Bg,rfl,hk⟩:=NJ hk h3;exact⟨t==want,_,Bg,by simp only[h1],hS.su (x:=.tmp d) (by simp only[lJ,Aw,h1]),hk,rfl⟩
   ·rename_i hb;obtain⟨ev,h1,h2⟩:=iY hS.st.env hb;have:=zZ h2;subst this;exact⟨false,ps,an,by simp only[h1],hS,hk,rfl⟩
   ·exact hk.elim
  ·exact hk.elim
theorem Ed (hX:aX X P) (hO:lC X P call kX) {site:Nat->Bool} {fl nt:Nat} {ops:Array Oper}:∀ {os:List Oper} {m:List MB} {ps:aV X.Γ} {ts:St} {an:PT X.Γ} {k:aV X.Γ->List PI->PT X.Γ->OT ρ},SR X P A W fl m ps ts->(Kq X P kX (qC X P call) site nt ops os ps an k).Ends y ->
  ∃ dX is pis fJ Bg m1,dN P call site fl nt ops os ts=some (dX,is)∧(k fJ pis Bg).Ends y∧SR X P A W fl m1 fJ dX∧Fr m ts.heap m1 dX.heap∧Up m m1∧IRs m ts.heap pis is∧is.length=os.length
 | [],m,ps,ts,an,k,hS,hk=>⟨ts,[],[],ps,an,m,rfl,hk,hS,.refl,.refl,.nil,rfl⟩
 | o::os,m,ps,ts,an,k,hS,hk=>by
  simp only[Kq] at hk;split at hk
  ·exact hk.elim
  ·rename_i hd;obtain⟨w,fJ,Bo,hw,hS1,hk,hh⟩:=Cb hS hk;cases w with
   | true=>
    simp only at hk;obtain⟨pe,rW,pi,an2,⟨ev,Rl,ti,m2,e1,e2,e3,e4,e5,e6,e7,e8,e9⟩,hk⟩:=a1W hX hO hS1.st hk;have hS2:SR X P A W fl m2 (rW.put o.dst pe) (({ Rl with ws:=dn fl ti.ws ts.ws }).put o.dst ev):=by
     refine⟨nR.put (ts:={ Rl with ws:=dn fl ti.ws ts.ws }) ⟨e4.heap,e4.llen,e4.loc,e4.env⟩ e5,fun b hb=>?_,fun b hb=>?_,?_⟩
     ·rcases e6.new b hb with h1 | h1
      ·exact hS.own b h1
      ·exact .inr (Nat.le_trans hS.fl h1)
     ·rw[qm.2] at hb;rcases vI hb with h1 | ⟨h1,h2⟩
      ·exact hS.ws b h1
      ·rcases hS.own b (e9 b h1) with h3 | h3
       ·exact h3
       ·omega
     ·rw[qm.1];exact Nat.le_trans hS.fl e6.len
    obtain⟨ts3,is,pis,ps3,an3,m3,g1,g2,g3,g4,g5,g6,g7⟩:=Ed hX hO (os:=os) hS2 hk;rw[qm.1] at g4 g6;refine⟨ts3,ti::is,_,ps3,an3,m3,?_,g2,g3,e6.trans g4,e7.trans g5,.cons hS.st.heap.nodup (fun b hb=>hS.st.heap.inb hb) ⟨e8.all,e8.tl,e8.wl,e8.wh,e8.th,e8.hp⟩ e6 e7 (a2g hS1.st.heap e4.heap) g6,by simp[g7]⟩;simp only[dN,hd,hw,e1,g1];rfl
   | false=>
    simp only at hk;have hS2:SR X P A W fl m (fJ.put o.dst .undef) (ts.put o.dst .undef):=by
     refine⟨hS1.st.put trivial,hS.own,fun b hb=>?_,?_⟩
     ·rw[qm.2] at hb;exact hS.ws b hb
     ·rw[qm.1];exact hS.fl
    obtain⟨ts3,is,pis,ps3,an3,m3,g1,g2,g3,g4,g5,g6,g7⟩:=Ed hX hO (os:=os) hS2 hk;rw[qm.1] at g4 g6;refine⟨ts3,aA::is,_,ps3,an3,m3,?_,g2,g3,g4,g5,.cons hS.st.heap.nodup (fun b hb=>hS.st.heap.inb hb) .none .refl .refl (fun _ i _ hg=>hg) g6,by simp[g7]⟩;simp only[dN,hd,hw,g1];rfl
def iq (X:iQ) (P:Program) (T:iF) (call:ay) (L f:Nat) (eu:Bool) (nt B:Nat) (c:Code) (ps:aV X.Γ) (e:Ex) (fJ:aV X.Γ):Prop:=
 ∀ (A W:Nat->Prop) (fl:Nat) (m:List MB) (ts:St),SR X P A W fl m ps ts->∃ dX m1,exec P T call L f eu fl nt c ts=some (e,dX)∧SR X P A W fl m1 fJ dX∧Fr m ts.heap m1 dX.heap∧FK B m m1
theorem nR.pick {ps:aV X.Γ} {ts:St} (hR:nR X P A m ps ts) (live:List Nat):nR X P A m { ps with env:=iL live ps.env } { ts with env:=Tw.pick live ts.env }:=
 ⟨hR.heap,hR.llen,hR.loc,J4 hR.env live⟩
theorem SR.pick {fl:Nat} {ps:aV X.Γ} {ts:St} (hS:SR X P A W fl m ps ts) (live:List Nat):SR X P A W fl m { ps with env:=iL live ps.env } { ts with env:=Tw.pick live ts.env }:=⟨hS.st.pick live,hS.own,hS.ws,hS.fl⟩
theorem SR.head {fl:Nat} {ps:aV X.Γ} {ts:St} (hS:SR X P A W fl m ps ts) (live:List Nat):SR X P A W fl m (kY X live ps) (dO live ts):=by
 have h1:=hS.pick live;have ht:=a1G h1.st.env;refine⟨⟨h1.st.heap,?_,fun k cs hk=>?_,h1.st.env⟩,h1.own,h1.ws,h1.fl⟩
 ·simp only[kY,dO,List.length_take];have:=h1.st.llen;simp only at this ht;omega
 simp only[kY,dO] at hk ⊢;rw[List.getElem?_take] at hk;split at hk
 ·rename_i aN;obtain⟨cs',g1,g2⟩:=h1.st.loc k cs hk;refine⟨cs',?_,g2⟩;rw[List.getElem?_take,if_pos (by simp only at ht;omega)];exact g1
 cases hk
theorem CO {g:St->Option (Ex×St)}:∀ {k j:Nat} {s:St} {r:Ex×St},iter g k s=some r->k<=j->iter g j s=some r
 | 0,_,s,r,h,_=>by simp[iter] at h
 | k+1,j,s,r,h,hj=>by
  obtain⟨j,rfl⟩:∃ i,j=i+1:=⟨j-1,by omega⟩;simp only[iter] at h ⊢;split at h
  ·rename_i s1 hs;exact CO h (by omega)
  rename_i hn;exact h
section
variable {L f:Nat} {eu:Bool} {nt B:Nat}
theorem Cc (hX:aX X P) {c:Code} {A W:Nat->Prop} {fl:Nat} {m:List MB} {ps:aV X.Γ} {ts:St} {k:Ex->aV X.Γ->PT X.Γ->OT ρ} (hS:SR X P A W fl m ps ts):∀ {an:PT X.Γ},(oZ X (iq X P T call L f eu nt B) B c ps k an).Ends y ->
  ∃ e dX fJ Bg m1,exec P T call L f eu fl nt c ts=some (e,dX)∧(k e fJ Bg).Ends y∧SR X P A W fl m1 fJ dX∧Fr m ts.heap m1 dX.heap∧FK B m m1:=by
 intro an
 induction an with
 | a x r=>
  intro hk;cases x with
  | loop e s'=>
   simp only[oZ] at hk;obtain⟨JF,hk⟩:=hk;obtain⟨dX,m1,h1,h2,h3,h4⟩:=JF A W fl m ts hS;exact⟨_,dX,_,_,m1,h1,hk,h2,h3,h4⟩
  | lg gs e s'=>
   simp only[oZ] at hk;split at hk
   ·rename_i hgs;obtain⟨JF,hk⟩:=hk;obtain⟨m0,e1,e2,e3⟩:=jd hX hgs A W fl m ts hS;obtain⟨dX,m1,h1,h2,h3,h4⟩:=JF A W fl m0 ts e1;exact⟨_,dX,_,_,m1,h1,hk,h2,e2.trans h3,e3.trans h4⟩
   ·exact hk.elim
  | _=>simp only[oZ] at hk;exact hk.elim
 | z c' a b iha ihb=>
  intro hk;simp only[oZ] at hk;rcases hk with⟨_,hk⟩ | ⟨_,hk⟩
  ·exact iha hk
  ·exact ihb hk
 | _=>intro hk;simp only[oZ] at hk;exact hk.elim
theorem jV (hX:aX X P) (hO:lC X P call kX):∀ (c:Code) {A W:Nat->Prop} {fl:Nat} {m:List MB} {ps:aV X.Γ} {ts:St} {an:PT X.Γ} {k:Ex->aV X.Γ->PT X.Γ->OT ρ},SR X P A W fl m ps ts->(fO X P T kX (qC X P call) (iq X P T call L f eu nt B) B L f eu nt c ps an k).Ends y ->
  ∃ e dX fJ Bg m1,exec P T call L f eu fl nt c ts=some (e,dX)∧(k e fJ Bg).Ends y∧SR X P A W fl m1 fJ dX∧Fr m ts.heap m1 dX.heap∧FK B m m1:=by
 intro c
 induction c with
 | skip=>intro A W fl m ps ts an k hS hk;exact⟨.norm,ts,ps,an,m,rfl,hk,hS,.refl,.refl⟩
 | label=>intro A W fl m ps ts an k hS hk;exact⟨.norm,ts,ps,an,m,rfl,hk,hS,.refl,.refl⟩
 | exit id=>intro A W fl m ps ts an k hS hk;exact⟨.exit id,ts,ps,an,m,rfl,hk,hS,.refl,.refl⟩
 | ret=>intro A W fl m ps ts an k hS hk;exact⟨.ret,ts,ps,an,m,rfl,hk,hS,.refl,.refl⟩
 | region id ops draw=>
  intro A W fl m ps ts an k hS hk;simp only[fO] at hk;obtain⟨dX,is,pis,fJ,Bo,m1,g1,hk,g3,g4,g5,g6,g7⟩:=Ed hX hO hS hk;have fin:∀ {an2:PT X.Γ},(!draw||(fE ops.toList&&lN is (eH ops.toList)))=true->(k .norm { fJ with env:=iL (T.fM f id) fJ.env } an2).Ends y->∃ e dX fJ Bg m1,exec P T call L f eu fl nt (.region id ops draw) ts=some (e,dX)∧(k e fJ Bg).Ends y∧SR X P A W fl m1 fJ dX∧Fr m ts.heap m1 dX.heap∧FK B m m1:=by
   intro an2 hc hk;exact⟨.norm,{ dX with env:=Tw.pick (T.fM f id) dX.env },_,an2,m1,by simp only[exec,g1,hc,if_true],hk,g3.pick _,g4,g5.b⟩
  cases draw with
  | false=>exact fin rfl hk
  | true=>
   simp only at hk;split at hk
   ·rename_i r;split at hk
    ·rename_i DK;obtain⟨jT,hk⟩:=hk;refine fin ?_ hk;rw[jT];simp only[Bool.not_true,Bool.false_or,Bool.true_and];refine Ht (fun t ht=>?_) fun q hq=>by rw[g7];exact a2d q hq
     have key:∀ {ps:List PI} {ts:List gu} {m:List MB} {h:List HB},IRs m h ps ts->(ps.all fun i=>i.i.ws.isEmpty&&!i.wall)=true->∀ t∈ts,t.ws=[]:=by
      intro ps ts m h hI
      induction hI with
      | nil=>intro _ t ht;cases ht
      | cons _ _ i1 _ _ _ _ ih=>
       intro ha t ht;simp only[List.all_cons,Bool.and_eq_true,List.isEmpty_iff,Bool.not_eq_true'] at ha;rcases List.mem_cons.1 ht with rfl | ht
       ·refine List.eq_nil_iff_forall_not_mem.2 fun x hx=>?_;cases x with
        | l j=>have:=i1.wl j hx;rw[ha.1.1] at this;cases this
        | h b=>
         rcases i1.wh b hx with⟨i,h1,_⟩ | ⟨h1,_⟩
         ·rw[ha.1.1] at h1;cases h1
         ·rw[ha.1.2] at h1;cases h1
       ·exact ih ha.2 t ht
     exact key g6 DK t ht
    ·exact hk.elim
   ·split at hk
    ·rename_i hc;simp only[Bool.and_eq_true] at hc;refine fin ?_ hk;rw[hc.1,UW g6 a2c hc.2];rfl
    ·exact hk.elim
 | seq a b iha ihb=>
  intro A W fl m ps ts an k hS hk;simp only[fO] at hk;obtain⟨e,dX,fJ,Bo,m1,h1,hk,h3,h4,h5⟩:=iha hS hk;cases e with
  | norm=>
   obtain⟨e2,Rl,rW,an2,m2,g1,g2,g3,g4,g5⟩:=ihb h3 hk;exact⟨e2,Rl,rW,an2,m2,by simp only[exec,h1,g1],g2,g3,h4.trans g4,h5.trans g5⟩
  | exit id=>exact⟨_,dX,fJ,Bo,m1,by simp only[exec,h1],hk,h3,h4,h5⟩
  | ret=>exact⟨_,dX,fJ,Bo,m1,by simp only[exec,h1],hk,h3,h4,h5⟩
 | cond c a b iha ihb=>
  intro A W fl m ps ts an k hS hk;simp only[fO] at hk;split at hk
  ·rename_i u hu;obtain⟨tu,h1,h2⟩:=Ku hS.st.env hu;obtain⟨t,Bg,rfl,hk⟩:=NJ hk h2;cases t with
   | true=>
    obtain⟨e,dX,fJ,Bo,m1,g1,g2,g3,g4,g5⟩:=iha (hS.su h1) hk;exact⟨e,dX,fJ,Bo,m1,by simp only[exec,h1,g1],g2,g3,g4,g5⟩
   | false=>
    obtain⟨e,dX,fJ,Bo,m1,g1,g2,g3,g4,g5⟩:=ihb (hS.su h1) hk;exact⟨e,dX,fJ,Bo,m1,by simp only[exec,h1,g1],g2,g3,g4,g5⟩
  ·exact hk.elim
 | block id b ih=>
  intro A W fl m ps ts an k hS hk;simp only[fO] at hk;obtain⟨e,dX,fJ,Bo,m1,h1,hk,h3,h4,h5⟩:=ih hS hk;cases e with
  | norm=>exact⟨_,dX,fJ,Bo,m1,by simp only[exec,h1],hk,h3,h4,h5⟩
  | ret=>exact⟨_,dX,fJ,Bo,m1,by simp only[exec,h1],hk,h3,h4,h5⟩
  | exit i=>exact⟨_,dX,fJ,Bo,m1,by simp only[exec,h1],hk,h3,h4,h5⟩
 | scope b ih=>
  intro A W fl m ps ts an k hS hk;simp only[fO] at hk;obtain⟨e,dX,fJ,Bo,m1,h1,hk,h3,h4,h5⟩:=ih hS hk;exact⟨e,dX,fJ,Bo,m1,by simp only[exec,h1],hk,h3,h4,h5⟩
 | loop b ih=>
  intro A W fl m ps ts an k hS hk;simp only[fO] at hk;split at hk
  ·rename_i j r;obtain⟨hj,hk⟩:=hk;have go:∀ (j:Nat) {m:List MB} {ps:aV X.Γ} {ts:St} {an:PT X.Γ},SR X P A W fl m ps ts->(IV X (fun s an k=>fO X P T kX (qC X P call) (iq X P T call L f eu nt B) B L f eu nt b (kY X (T.dG f (bY b)) s) an k) j ps an k).Ends y ->
     ∃ e dX fJ Bg m1,iter (fun s=>exec P T call L f eu fl nt b (dO (T.dG f (bY b)) s)) j ts=some (e,dX)∧(k e fJ Bg).Ends y∧SR X P A W fl m1 fJ dX∧Fr m ts.heap m1 dX.heap∧FK B m m1:=by
    intro j
    induction j with
    | zero=>intro m ps ts an _ hk;exact hk.elim
    | succ j ihj=>
     intro m ps ts an hS hk;simp only[IV] at hk;obtain⟨e,dX,fJ,Bo,m1,h1,hk,h3,h4,h5⟩:=ih (hS.head _) hk;cases e with
     | norm=>
      obtain⟨e2,Rl,rW,an2,m2,g1,g2,g3,g4,g5⟩:=ihj h3 hk;exact⟨e2,Rl,rW,an2,m2,by simp only[iter,h1,g1],g2,g3,h4.trans g4,h5.trans g5⟩
     | exit id=>exact⟨_,dX,fJ,Bo,m1,by simp only[iter,h1],hk,h3,h4,h5⟩
     | ret=>exact⟨_,dX,fJ,Bo,m1,by simp only[iter,h1],hk,h3,h4,h5⟩
   obtain⟨e,dX,fJ,Bo,m1,h1,h2,h3,h4,h5⟩:=go j hS hk;exact⟨e,dX,fJ,Bo,m1,by simp only[exec];exact CO h1 hj,h2,h3,h4,h5⟩
  ·exact Cc hX hS hk
 | rangeFunc g qs mG body iha ihb=>
  intro A W fl m ps ts an k hS hk;simp only[fO] at hk;exact Cc hX hS hk
 | _=>intro A W fl m ps ts an k hS hk;simp only[fO] at hk;exact hk.elim
end
end
section
variable {X:iQ} {P:Program} {T:iF} {A W:Nat->Prop} {m m':List MB}
variable {call:ay} {kX:iO X.Γ} {L:Nat}
def ntP (P:Program) (f:Nat):Nat:=match FP P f with
 | some t=>t.nt
 | none=>0
abbrev KJ (X:iQ) (P:Program) (T:iF) (call:ay) (L f B:Nat):Py X.Γ:=iq X P T call L f false (ntP P f) B
theorem J7 {A:Nat->Prop} {h:List HB}:∀ {k:Nat} {vs:List (PV X.Γ)} {xs:List TV},aH X P A m h vs xs->gX X P A m h (vk X k vs) (gq k xs)
 | k,[],xs,hv=>by rw[hv.inv0];exact .nil
 | k,v::vs,xs,hv=>by
  obtain⟨x,r,rfl,h1,h2⟩:=hv.inv;exact .cons h1 (J7 h2)
theorem DX (hX:aX X P) {ps:aV X.Γ} {ts:St} (hR:nR X P A m ps ts):∀ {rs:List ResultVar} {vs:List (PV X.Γ)},Ep X P ps rs=some vs->∃ ws,l9 P ts rs=some ws∧aH X P (AA A m) m ts.heap vs ws
 | [],vs,h=>by simp only[Ep,Option.some.injEq] at h;subst h;exact⟨[],rfl,.nil⟩
 | r::rs,vs,h=>by
  simp only[Ep] at h;split at h
  rotate_left
  ·cases h
  rename_i v vs' h1 h2;cases h;obtain⟨ws,g1,g2⟩:=DX hX hR h2;have:∃ w,SI P ts r=some w∧VR X P (AA A m) m ts.heap v w:=by
   unfold a5b at h1;unfold SI;split at h1
   ·rename_i t;split at h1
    ·rename_i u hu;cases h1;obtain⟨ev,e1,e2⟩:=iY hR.env hu;obtain⟨w,rfl,e3⟩:=cu e2;exact⟨w,by simp only[e1],yI e3⟩
    cases h1
   rename_i a t;split at h1
   ·rename_i pa ha;simp only[Option.map_eq_some_iff] at h1;obtain⟨⟨u,i⟩,e1,rfl⟩:=h1;obtain⟨ev,e2,e3⟩:=iY hR.env ha;obtain⟨w,ti,e4,e5,_,_⟩:=xP hX hR e3 e1;exact⟨w,by simp only[e2,e4,Option.map_some],e5⟩
   cases h1
  obtain⟨w,g3,g4⟩:=this;exact⟨w::ws,by simp only[l9,g3,g1],.cons g4 g2⟩
theorem PY {A:Nat->Prop} {h:List HB} {vs:List (PV X.Γ)} {ws:List TV} (hv:aH X P A m h vs ws):VR X P A m h (Uw X vs) (one ws):=by
 match vs,ws,hv with
 | [],ws,hv=>rw[hv.inv0];exact .bH rfl (by simp)
 | [v],ws,hv=>
  obtain⟨x,r,rfl,h1,h2⟩:=hv.inv;have:=h2.inv0;subst this;exact h1
 | v::u::vs,ws,hv=>
  obtain⟨x,r,rfl,h1,h2⟩:=hv.inv;obtain⟨z,r,rfl,h3,h4⟩:=h2.inv;exact .bH hv.1 hv.2
theorem DY (hX:aX X P) (hO:lC X P call kX) {f:Nat} {vs:List (PV X.Γ)} {H:List (PB X.Γ)} {an:PT X.Γ} {v:PV X.Γ} {H1:List (PB X.Γ)} (hk:(Pz X P T kX (qC X P call) (KJ X P T call L f H.length) L f vs H an).Ends (v,H1))
  {h:List HB} (hr:HR X P A m H h) {xs:List TV} (hv:aH X P (AA A m) m h vs xs):∃ w h1 ws m1,QO P T call L f xs h=some (w,h1,ws)∧HR X P A m1 H1 h1∧VR X P (AA A m1) m1 h1 v w∧Fr m h m1 h1∧FK H.length m m1∧(∀ b∈ws,b∈aJ m)∧¬(T.exts.contains f||T.Lh.contains f)=true:=by
 unfold Pz at hk;split at hk
 ·rename_i t ht;have hnx:¬(T.exts.contains f||T.Lh.contains f)=true:=fun hx=>by rw[if_pos hx] at ht;cases ht
  rw[if_neg hnx] at ht;have hnt:ntP P f=t.nt:=by unfold ntP;rw[ht]
  have hS:SR X P A (fun b=>b∈aJ m) h.length m ⟨vk X 0 vs,[],H⟩ ⟨gq 0 xs,[],h,[]⟩:=
   ⟨⟨hr,rfl,fun k cs hk=>by simp at hk,J7 hv⟩,fun b hb=>.inl hb,fun b hb=>(by cases hb),Nat.le_refl _⟩
  rw[show KJ X P T call L f H.length=iq X P T call L f false t.nt H.length by unfold KJ;rw[hnt]] at hk;obtain⟨e,dX,fJ,Bo,m1,h1,hk,h3,h4,h5⟩:=jV hX hO t.body hS hk;have fin:∀ {e:Ex},exec P T call L f false h.length t.nt t.body ⟨gq 0 xs,[],h,[]⟩=some (e,dX)->(e=.norm∨e=.ret)->∀ {us:List (PV X.Γ)},Ep X P fJ t.results=some us->(Uw X us,fJ.heap)=(v,H1)->∃ w h1 ws m1,QO P T call L f xs h=some (w,h1,ws)∧HR X P A m1 H1 h1∧VR X P (AA A m1) m1 h1 v w∧Fr m h m1 h1∧FK H.length m m1∧(∀ b∈ws,b∈aJ m)∧¬(T.exts.contains f||T.Lh.contains f)=true:=by
   intro e he hee us X4 hv;cases hv;obtain⟨ws,g1,g2⟩:=DX hX h3.st X4;refine⟨one ws,dX.heap,dX.ws,m1,?_,h3.st.heap,PY g2,h4,h5,h3.ws,hnx⟩;unfold QO;rcases hee with rfl | rfl<;>simp only[ht,he,g1]
  cases e with
  | exit id=>exact hk.elim
  | norm=>
   cases Bo with
   | n=>
    simp only at hk;split at hk
    ·rename_i us X4;exact fin h1 (.inl rfl) X4 hk
    ·exact hk.elim
   | _=>exact hk.elim
  | ret=>
   cases Bo with
   | n=>
    simp only at hk;split at hk
    ·rename_i us X4;exact fin h1 (.inr rfl) X4 hk
    ·exact hk.elim
   | _=>exact hk.elim
 ·exact hk.elim
theorem a2i (hX:aX X P) {n f:Nat} (hn:0<n) (hO:lC X P (AZ P T L (n-1)) kX) {first xs cap:List (PV X.Γ)} {H H1:List (PB X.Γ)} {an:PT X.Γ} {v:PV X.Γ}
  (hk:(Pz X P T kX (qC X P (AZ P T L (n-1))) (KJ X P T (AZ P T L (n-1)) L f H.length) L f (first++xs++cap) H an).Ends (v,H1)):qC X P (AZ P T L n) (.fn f first cap) xs H v H1:=by
 intro A m h tf nH hr hf hx;obtain⟨n,rfl⟩:∃ j,n=j+1:=⟨n-1,by omega⟩;cases hf with
 | gone hi _ _=>simp[aG] at hi
 | fn p1 p2 p3 p4=>
  obtain⟨w,h1,ws,m1,g1,g2,g3,g4,g5,g6,g7⟩:=DY hX hO hk hr ((aH.app ⟨p1,p2⟩ hx).app ⟨p3,p4⟩);refine⟨w,h1,ws,m1,by simp only[AZ];simp only[Bool.or_eq_true,not_or] at g7;rw[if_neg g7.1,if_neg g7.2];exact g1,g2,g3,g4,fun i mb hi=>g5 i mb ?_ hi,g6⟩;rw[<-hr.len];exact (List.getElem?_eq_some_iff.1 hi).1
def a2j:Ex->aV X.Γ->PT X.Γ->OT (Ex×aV X.Γ):=fun e s an=>match an with
 | .n=>.ret (e,s)
 | _=>.bad
section
variable {f nt B:Nat} {eu:Bool}
theorem UZ (hX:aX X P) (hO:lC X P call kX) {c:Code} {ps:aV X.Γ} {an:PT X.Γ} {e:Ex} {fJ:aV X.Γ} (hk:(fO X P T kX (qC X P call) (iq X P T call L f eu nt B) B L f eu nt c ps an a2j).Ends (e,fJ)):iq X P T call L f eu nt B c ps e fJ:=by
 intro A W fl m ts hS;obtain⟨e1,dX,rW,Bo,m1,h1,h2,h3,h4,h5⟩:=jV hX hO c hS hk;cases Bo with
 | n=>cases h2;exact⟨dX,m1,h1,h3,h4,h5⟩
 | _=>exact h2.elim
end
end
def OT.map {ρ σ:Type} (f:ρ->σ):OT ρ->OT σ
 | .bad=>.bad
 | .ret r=>.ret (f r)
 | .o p r=>.o p (r.map f)
 | .br c t e=>.br c (t.map f) (e.map f)
inductive Fp {Γ:Nat->Type} {ρ:Type} (R:ρ->Prop):PT Γ->OT ρ->Prop where
 | r {v:ρ} (h:R v):Fp R .n (.ret v)
 | g {v:ρ} (gs:List G) (h:R v):Fp R (.a (.lg gs .norm ⟨[],[],[]⟩) .n) (.ret v)
 | o {p:Prop} {an:PT Γ} {o:OT ρ} (h:p) (f:Fp R an o):Fp R an (.o p o)
 | s {c:Bool} {a b:PT Γ} {x y:OT ρ} (f:c=true->Fp R a x) (g:c=false->Fp R b y):Fp R (.s a b) (.br c x y)
 | z {c:Bool} {a b:PT Γ} {x y:OT ρ} (f:c=true->Fp R a x) (g:c=false->Fp R b y):Fp R (.z c a b) (.br c x y)
 | b {c t:Bool} {an:PT Γ} {o:OT ρ} (h:c=t) (f:Fp R an o):Fp R (.a (.br t) an) (.o (c=t) o)
 | q {p:Prop} {an:PT Γ} {o:OT ρ} (w:TV) (h:p) (f:Fp R an o):Fp R (.a (.rd w) an) (.o p o)
 | c {p:Prop} {an:PT Γ} {o:OT ρ} (v:PV Γ) (H:List (PB Γ)) (h:p) (f:Fp R an o):Fp R (.a (.call v H) an) (.o p o)
 | kf {p:Prop} {an:PT Γ} {o:OT ρ} (ks:List Nat) (v:PV Γ) (H:List (PB Γ)) (h:p) (f:Fp R an o):Fp R (.a (.fr ks v H) an) (.o p o)
 | kg {p:Prop} {an:PT Γ} {o:OT ρ} (ks rs:List Nat) (v:PV Γ) (H:List (PB Γ)) (h:p) (f:Fp R an o):Fp R (.a (.frR ks rs v H) an) (.o p o)
 | l {p:Prop} {an:PT Γ} {o:OT ρ} (gs:List G) (e:Ex) (s:aV Γ) (h:p) (f:Fp R an o):Fp R (.a (.lg gs e s) an) (.o p o)
 | f {p:Prop} {an:PT Γ} {o:OT ρ} (e:Ex) (s:aV Γ) (h:p) (f:Fp R an o):Fp R (.a (.loop e s) an) (.o p o)
 | m {p:Prop} {an:PT Γ} {o:OT ρ} (k:Nat) (h:p) (f:Fp R an o):Fp R (.l k an) (.o p o)
 | a {an:PT Γ} {o:OT ρ} (x:PA Γ) (f:Fp R an o):Fp R (.a x an) o
theorem Fp.ends {Γ:Nat->Type} {ρ:Type} {R:ρ->Prop} {an:PT Γ} {o:OT ρ} (h:Fp R an o):∃ y,o.Ends y∧R y:=by
 induction h with
 | r h=>exact⟨_,rfl,h⟩
 | g _ h=>exact⟨_,rfl,h⟩
 | s _ _ i1 i2=>
  rename_i c _ _ _ _ _ _;cases c with
  | true=>obtain⟨y,h1,h2⟩:=i1 rfl;exact⟨y,.inl ⟨rfl,h1⟩,h2⟩
  | false=>obtain⟨y,h1,h2⟩:=i2 rfl;exact⟨y,.inr ⟨rfl,h1⟩,h2⟩
 | z _ _ i1 i2=>
  rename_i c _ _ _ _ _ _;cases c with
  | true=>obtain⟨y,h1,h2⟩:=i1 rfl;exact⟨y,.inl ⟨rfl,h1⟩,h2⟩
  | false=>obtain⟨y,h1,h2⟩:=i2 rfl;exact⟨y,.inr ⟨rfl,h1⟩,h2⟩
 | a _ _ i=>exact i
 | o h _ i=>obtain⟨y,h1,h2⟩:=i;exact⟨y,⟨h,h1⟩,h2⟩
 | b h _ i=>obtain⟨y,h1,h2⟩:=i;exact⟨y,⟨h,h1⟩,h2⟩
 | q _ h _ i=>obtain⟨y,h1,h2⟩:=i;exact⟨y,⟨h,h1⟩,h2⟩
 | c _ _ h _ i=>obtain⟨y,h1,h2⟩:=i;exact⟨y,⟨h,h1⟩,h2⟩
 | kg _ _ _ _ h _ i=>obtain⟨y,h1,h2⟩:=i;exact⟨y,⟨h,h1⟩,h2⟩
 | kf _ _ _ h _ i=>obtain⟨y,h1,h2⟩:=i;exact⟨y,⟨h,h1⟩,h2⟩
 | l _ _ _ h _ i=>obtain⟨y,h1,h2⟩:=i;exact⟨y,⟨h,h1⟩,h2⟩
 | f _ _ h _ i=>obtain⟨y,h1,h2⟩:=i;exact⟨y,⟨h,h1⟩,h2⟩
 | m _ h _ i=>obtain⟨y,h1,h2⟩:=i;exact⟨y,⟨h,h1⟩,h2⟩
section
variable {X:iQ} {P:Program} {T:iF} {L:Nat}
def a5D (hd:aV X.Γ->aV X.Γ) (B:Nat):Ex->aV X.Γ->PT X.Γ->OT (Ex×aV X.Γ):=fun e s an=>match an with
 | .n=>match e with
  | .norm=>.ret (.norm,hd s)
  | e=>.ret (e,s)
 | .a (.lg gs _ _) .n=>match e with
  | .norm=>match jX B gs (hd s) with
   | some s=>.ret (.norm,s)
   | none=>.bad
  | e=>match jX B gs s with
   | some s=>.ret (e,s)
   | none=>.bad
 | _=>.bad
section
variable {f nt B:Nat} {eu:Bool} {call:ay} {kX:iO X.Γ}
def vJ (X:iQ) (P:Program) (T:iF) (call:ay) (L f:Nat) (eu:Bool) (nt B:Nat) (b:Code) (n:Nat) (ps:aV X.Γ) (e:Ex) (fJ:aV X.Γ):Prop:=
 ∀ (A W:Nat->Prop) (fl:Nat) (m:List MB) (ts:St),SR X P A W fl m ps (dO (T.dG f (bY b)) ts)->∃ dX m1,iter (fun s=>exec P T call L f eu fl nt b (dO (T.dG f (bY b)) s)) n ts=some (e,dX)∧SR X P A W fl m1 fJ dX∧Fr m ts.heap m1 dX.heap∧FK B m m1
def Rnd (X:iQ) (P:Program) (T:iF) (call:ay) (L f:Nat) (eu:Bool) (nt B:Nat) (b:Code) (n:Nat) (e:Ex) (s:aV X.Γ):Ex×aV X.Γ->Prop
 | (.norm,s')=>vJ X P T call L f eu nt B b n s' e s
 | (e',s')=>e'=e∧s'=s
theorem PZ {b:Code} {n:Nat} {e e':Ex} {s s':aV X.Γ} (hn:e'≠.norm) (h:Rnd X P T call L f eu nt B b n e s (e',s')):e'=e∧s'=s:=by
 cases e' with
 | norm=>exact absurd rfl hn
 | exit id=>exact h
 | ret=>exact h
theorem round (hX:aX X P) (hO:lC X P call kX) {b:Code} {n:Nat} {ps:aV X.Γ} {an:PT X.Γ} {e:Ex} {s:aV X.Γ} {o:OT (Ex×aV X.Γ)}
  (hk:fO X P T kX (qC X P call) (iq X P T call L f eu nt B) B L f eu nt b ps an (a5D (kY X (T.dG f (bY b))) B)=o) (ht:Fp (Rnd X P T call L f eu nt B b n e s) an o):vJ X P T call L f eu nt B b (n+1) ps e s:=by
 obtain⟨⟨e',s'⟩,h1,h2⟩:=ht.ends;rw[<-hk] at h1;intro A W fl m ts hS;obtain⟨e1,dX,rW,Bo,m1,g1,g2,g3,g4,g5⟩:=jV hX hO b hS h1;have out:∀ {e1:Ex} {m2:List MB},exec P T call L f eu fl nt b (dO (T.dG f (bY b)) ts)=some (e1,dX)->e1≠.norm->e1=e∧s'=s->SR X P A W fl m2 s' dX->Fr m ts.heap m2 dX.heap->FK B m m2->∃ dX m1,iter (fun s=>exec P T call L f eu fl nt b (dO (T.dG f (bY b)) s)) (n+1) ts=some (e,dX)∧SR X P A W fl m1 s dX∧Fr m ts.heap m1 dX.heap∧FK B m m1:=by
  intro e1 m2 ge hn hh q1 q2 q3;obtain⟨rfl,rfl⟩:=hh;refine⟨dX,m2,?_,q1,q2,q3⟩;cases e1 with
  | norm=>exact absurd rfl hn
  | exit id=>simp only[iter,ge]
  | ret=>simp only[iter,ge]
 have on:∀ {m2:List MB},exec P T call L f eu fl nt b (dO (T.dG f (bY b)) ts)=some (.norm,dX)->SR X P A W fl m2 s' (dO (T.dG f (bY b)) dX)->Fr m ts.heap m2 dX.heap->FK B m m2->vJ X P T call L f eu nt B b n s' e s->∃ dX m1,iter (fun s=>exec P T call L f eu fl nt b (dO (T.dG f (bY b)) s)) (n+1) ts=some (e,dX)∧SR X P A W fl m1 s dX∧Fr m ts.heap m1 dX.heap∧FK B m m1:=by
  intro m2 ge q1 q2 q3 hr;obtain⟨Rl,m3,r1,r2,r3,r4⟩:=hr A W fl m2 dX q1;exact⟨Rl,m3,by simp only[iter,ge,r1],r2,q2.trans r3,q3.trans r4⟩
 unfold a5D at g2;split at g2
 ·split at g2
  ·cases g2;exact on g1 (g3.head _) g4 g5 h2
  ·rename_i e1 dZ;cases g2;exact out g1 (fun h=>dZ h) (PZ (fun h=>dZ h) h2) g3 g4 g5
 ·split at g2
  ·split at g2
   ·rename_i hg;cases g2;obtain⟨m2,q1,q2,q3⟩:=jd hX hg _ _ _ _ _ (g3.head _);exact on g1 q1 (g4.trans q2) (g5.trans q3) h2
   ·exact g2.elim
  ·rename_i e1 dZ;split at g2
   ·rename_i hg;cases g2;obtain⟨m2,q1,q2,q3⟩:=jd hX hg _ _ _ _ _ g3;exact out g1 (fun h=>dZ h) (PZ (fun h=>dZ h) h2) q1 (g4.trans q2) (g5.trans q3)
   ·exact g2.elim
 ·exact g2.elim
end
structure Ar (X:iQ) (P:Program) (α:Type) where
 put:α->PV X.Γ
 get:PV X.Γ->Option α
 ok:∀ {v:PV X.Γ} {a:α},get v=some a->∀ {A:Nat->Prop} {m:List MB} {h:List HB} {x:TV},VR X P A m h v x->VR X P A m h (put a) x
structure NS (X:iQ) (P:Program) (α:Type) where
 put:α->List (PV X.Γ)
 get:List (PV X.Γ)->Option α
 ok:∀ {v:List (PV X.Γ)} {a:α},get v=some a->∀ {A:Nat->Prop} {m:List MB} {h:List HB} {x:List TV},aH X P A m h v x->aH X P A m h (put a) x
def a2k (k:IntKind):Ar X P Int where
 put n:=.int k n
 get v:=match v with
  | .int k' n=>if k'=k then some n else none
  | _=>none
 ok:=by
  intro v a hg A m h x hv;split at hg
  ·split at hg
   ·rename_i e;subst e;cases hg;exact hv
   ·cases hg
  ·cases hg
def a5F:Ar X P Bool where
 put n:=.bool n
 get v:=match v with
  | .bool n=>some n
  | .lit n=>some n
  | _=>none
 ok:=by
  intro v a hg A m h x hv;split at hg
  ·cases hg;exact hv
  ·cases hg;exact yI hv
  ·cases hg
theorem VR.less {A:Nat->Prop} {m:List MB} {h:List HB} {t:Nat} {l:List (X.Γ t)} {fu:Bool} {x:TV} (hv:VR X P A m h (.bK t l fu) x):VR X P A m h (.bK t l false) x:=by
 cases hv with
 | gone hi _ _=>simp[aG] at hi
 | jZ=>exact .jZ
 | bK a c c2 s z o k f e r=>exact .bK a c c2 s z o k (fun h=>by cases h) e r
def Ro (t:Nat):Ar X P (List (X.Γ t)) where
 put l:=.bK t l false
 get v:=match v with
  | .bK t' l _=>pW t t' l
  | .nil .slc=>some []
  | _=>none
 ok:=by
  intro v a hg A m h x hv;split at hg
  ·obtain⟨rfl,rfl⟩:=jm hg;exact hv.less
  ·cases hg;cases hv with
   | nil=>exact .jZ
   | gone hi _ _=>simp[aG] at hi
  ·cases hg
def a5G (hX:aX X P) (t:Nat):Ar X P (X.Γ t) where
 put a:=.agg (X.enc t a)
 get v:=match v with
  | .agg cs=>X.dec t cs
  | _=>none
 ok:=by
  intro v a hg A m h x hv;split at hg
  ·cases hv with
   | gone hi _ _=>simp[aG] at hi
   | agg h1 h2=>obtain⟨h3,h4⟩:=hX.dec hg ⟨h1,h2⟩;exact .agg h3 h4
  ·cases hg
def fnA (f:FuncId):Ar X P Unit where
 put _:=.fn f [] []
 get v:=match v with
  | .fn g [] []=>if g=f then some () else none
  | _=>none
 ok:=by
  intro v a hg A m h x hv;split at hg
  ·split at hg
   ·rename_i e;subst e;exact hv
   ·cases hg
  ·cases hg
def a9R:NS X P Unit where
 put _:=[]
 get v:=match v with
  | []=>some ()
  | _=>none
 ok:=by
  intro v a hg A m h x hv;split at hg
  ·exact hv
  ·cases hg
def NT {α β:Type} (a:Ar X P α) (l:NS X P β):NS X P (α×β) where
 put x:=a.put x.1::l.put x.2
 get v:=match v with
  | v::vs=>match a.get v,l.get vs with
   | some x,some y=>some (x,y)
   | _,_=>none
  | _=>none
 ok:=by
  intro v x hg A m h xs hv;split at hg
  ·split at hg
   ·rename_i e1 e2;cases hg;obtain⟨y,r,rfl,h1,h2⟩:=hv.inv;exact .cons (a.ok e1 h1) (l.ok e2 h2)
   ·cases hg
  ·cases hg
def a5H {α:Type} (a:Ar X P α):NS X P α where
 put x:=[a.put x]
 get v:=match v with
  | [v]=>a.get v
  | _=>none
 ok:=by
  intro v x hg A m h xs hv;split at hg
  ·obtain⟨y,r,rfl,h1,h2⟩:=hv.inv;have:=h2.inv0;subst this;exact .cons (a.ok hg h1) .nil
  ·cases hg
def V3 {α:Type} (l:NS X P α):Ar X P α where
 put x:=.bH (l.put x)
 get v:=match v with
  | .bH cs=>l.get cs
  | _=>none
 ok:=by
  intro v x hg A m h xs hv;split at hg
  ·cases hv with
   | gone hi _ _=>simp[aG] at hi
   | bH h1 h2=>obtain⟨h3,h4⟩:=l.ok hg ⟨h1,h2⟩;exact .bH h3 h4
  ·cases hg
def XT {α:Type} (l:NS X P α):Ar X P α where
 put x:=.agg (l.put x)
 get v:=match v with
  | .agg cs=>l.get cs
  | _=>none
 ok:=by
  intro v x hg A m h xs hv;split at hg
  ·cases hv with
   | gone hi _ _=>simp[aG] at hi
   | agg h1 h2=>obtain⟨h3,h4⟩:=l.ok hg ⟨h1,h2⟩;exact .agg h3 h4
  ·cases hg
def a5I {α β:Type} (a:Ar X P α) (f:α->β) (g:β->α) (hgf:∀ x,g (f x)=x):Ar X P β where
 put x:=a.put (g x)
 get v:=match a.get v with
  | some x=>some (f x)
  | none=>none
 ok:=by
  intro v x hg A m h xs hv;split at hg
  ·rename_i y hy;cases hg;rw[hgf];exact a.ok hy hv
  ·cases hg
def Good (X:iQ) (P:Program) (T:iF) (L:Nat) (kX:iO X.Γ):Prop:=∃ N,∀ n,N<=n->lC X P (AZ P T L n) kX
def NU:iO X.Γ:=fun _ _=>none
def dL {α β:Type} (f:FuncId) (a:NS X P α) (r:Ar X P β) (S:α->β) (pre:α->List Prop) (kX:iO X.Γ):iO X.Γ:=fun g vs=>
 match Nat.beq g f with
 | true=>match a.get vs with
  | some x=>some (r.put (S x),[],pre x)
  | none=>kX g vs
 | false=>kX g vs
theorem Good.nil:Good X P T L (NU (X:=X)):=⟨0,fun n _ f vs v ext ps h=>by cases h⟩
theorem Good.add {α β:Type} {f:FuncId} {a:NS X P α} {r:Ar X P β} {S:α->β} {pre:α->List Prop} {kX:iO X.Γ} (hg:Good X P T L kX)
  (hf:∀ n,lC X P (AZ P T L n) kX->∀ x,(∀ p∈pre x,p)->Con X P (AZ P T L (n+1)) f (a.put x) (r.put (S x)) []):Good X P T L (dL f a r S pre kX):=by
 obtain⟨N,hN⟩:=hg;refine⟨N+1,fun n hn=>?_⟩;obtain⟨k,rfl⟩:∃ k,n=k+1:=⟨n-1,by omega⟩;intro g vs v ext ps ho hp;unfold dL at ho;split at ho
 ·rename_i e;have e:=Nat.eq_of_beq_eq_true e;subst e;split at ho
  ·rename_i x hx;cases ho;intro A h first args cap hup hv
   exact hf k (hN k (by omega)) x hp A h first args cap hup (a.ok hx hv)
  ·exact hN (k+1) (by omega) g vs v ext ps ho hp
 ·exact hN (k+1) (by omega) g vs v ext ps ho hp
def Is {β:Type} (r:Ar X P β) (s:β):Option (PV X.Γ)->Prop:=fun v=>v=some (r.put s)∨∃ w,v=some w∧r.get w=some s
theorem Fp.v {β:Type} {r:Ar X P β} {s:β} (u:β) (h:u=s):Fp (Is r s) (.n:PT X.Γ) (.ret (some (r.put u))):=.r (.inl (by rw[h]))
theorem Fp.k {τ:Type} {R:τ->Prop} {call:ay} {fv v:PV X.Γ} {xs:List (PV X.Γ)} {H H1:List (PB X.Γ)} {an:PT X.Γ} {o:OT τ} (h:qC X P call fv xs H v H1) (t:Fp R an o):Fp R (.a (.call v H1) an) (.o (qC X P call fv xs H v H1) o):=.c v H1 h t
theorem Fp.fr {τ:Type} {R:τ->Prop} {call:ay} {fv v:PV X.Γ} {xs:List (PV X.Γ)} {H H1:List (PB X.Γ)} {an:PT X.Γ} {o:OT τ} (ks:List Nat) (h:qC X P call fv xs H v H1) (t:Fp R an o):Fp R (.a (.fr ks v H1) an) (.o (qC X P call fv xs H v H1) o):=.kf ks v H1 h t
theorem Fp.frR {τ:Type} {R:τ->Prop} {call:ay} {fv v:PV X.Γ} {xs:List (PV X.Γ)} {H H1 H2:List (PB X.Γ)} {an:PT X.Γ} {o:OT τ} (ks rs:List Nat) (h:qC X P call fv xs H v H1) (t:Fp R an o):Fp R (.a (.frR ks rs v H2) an) (.o (qC X P call fv xs H v H1) o):=.kg ks rs v H2 h t
def a1 {α:Type} (a:Ar X P α):NS X P α:=a5H a
def a2 {α β:Type} (a:Ar X P α) (b:Ar X P β):NS X P (α×β):=NT a (a5H b)
def a3 {α β γ:Type} (a:Ar X P α) (b:Ar X P β) (c:Ar X P γ):NS X P (α×β×γ):=NT a (a2 b c)
def a4 {α β γ δ:Type} (a:Ar X P α) (b:Ar X P β) (c:Ar X P γ) (d:Ar X P δ):NS X P (α×β×γ×δ):=NT a (a3 b c d)
def np {α:Type}:α->List Prop:=fun _=>[]
end
end Pv
namespace Tw
def G5 {σ ρ:Type}:σ⊕ρ->Bool
 | .inl _=>true
 | .inr _=>false
def a2l {σ ρ:Type} (d:ρ):σ⊕ρ->ρ
 | .inl _=>d
 | .inr r=>r
end Tw
namespace Pv
open Go Tw
def kZ:Code->List Code
 | .seq a b=>kZ a++kZ b
 | .cond _ a b=>kZ a++kZ b
 | .block _ b=>kZ b
 | .loop b=>b::kZ b
 | .scope b=>kZ b
 | .rangeFunc _ _ a b=>kZ a++kZ b
 | _=>[]
def a5K (P:Program) (f k:Nat):Code:=
 match FP P f with
 | some t=>(kZ t.body).getD k .skip
 | none=>.skip
theorem XU {k:Nat} (h:k<=aO):IntKind.i64.wrap ((k:Int)+1)=((k+1:Nat):Int):=by
 simp only[IntKind.wrap,IntKind.bits,IntKind.signed];unfold aO at h;have:((k:Int)+1)%(2^64:Int)=(k:Int)+1:=Int.emod_eq_of_lt (by omega) (by omega);simp only[this];rw[if_neg (by simp;omega)];omega
theorem a2m {k n:Nat} (h:k<n):decide ((k:Int)<(n:Int))=true:=by simp[h]
theorem a5L (n:Nat):decide ((n:Int)<(n:Int))=false:=by simp
section
variable {X:iQ} {P:Program} {T:iF} {L:Nat} {f nt B:Nat} {eu:Bool} {call:ay} {b:Code} {σ α ρ:Type}
theorem Fp.w {τ:Type} {R:τ->Prop} {c:Code} {e:Ex} {s s':aV X.Γ} {an:PT X.Γ} {o:OT τ} (h:iq X P T call L f eu nt B c s e s') (t:Fp R an o):Fp R (.a (.lg [] e s') an) (.o (iq X P T call L f eu nt B c s e s') o):=.l [] e s' h t
theorem Fp.go {n:Nat} {e:Ex} {s s':aV X.Γ} (h:vJ X P T call L f eu nt B b n s' e s):Fp (Rnd X P T call L f eu nt B b n e s) (.n:PT X.Γ) (.ret (.norm,s')):=Fp.r (v:=(Ex.norm,s')) h
theorem Fp.ex {n i:Nat} {s:aV X.Γ}:Fp (Rnd X P T call L f eu nt B b n (.exit i) s) (.n:PT X.Γ) (.ret (.exit i,s)):=Fp.r (v:=(Ex.exit i,s)) ⟨rfl,rfl⟩
def Rn (X:iQ) (P:Program) (T:iF) (call:ay) (L f:Nat) (eu:Bool) (nt B:Nat) (b:Code) (n:Nat) {τ:Type} (K:τ->Ex×aV X.Γ) (x:τ):Ex×aV X.Γ->Prop:=Rnd X P T call L f eu nt B b n (K x).1 (K x).2
section
variable {τ:Type} {K:τ->Ex×aV X.Γ} {n:Nat}
theorem Fp.ls {c:Bool} {t e:τ} {a d:PT X.Γ} {x y:OT (Ex×aV X.Γ)} (h1:Fp (Rn X P T call L f eu nt B b n K t) a x) (h2:Fp (Rn X P T call L f eu nt B b n K e) d y):Fp (Rn X P T call L f eu nt B b n K (if c=true then t else e)) (.s a d) (.br c x y):=
 .s (fun h=>by subst h;exact h1) (fun h=>by subst h;exact h2)
theorem Fp.nx {x:τ} {s':aV X.Γ} (h:vJ X P T call L f eu nt B b n s' (K x).1 (K x).2):Fp (Rn X P T call L f eu nt B b n K x) (.n:PT X.Γ) (.ret (.norm,s')):=Fp.r (v:=(Ex.norm,s')) h
end
end
def NV {Γ:Nat->Type}:PE Γ->Bool
 | .val _=>true
 | _=>false
section
variable {X:iQ} {P:Program} {T:iF} {A W:Nat->Prop} {m m':List MB} {h h':List HB} {L f nt B:Nat}
theorem V4 {env:List (Nat×PE X.Γ)} {env':List (Nat×EV)} (he:gX X P A m h env env') (hv:(env.all fun p=>NV p.2)=true):env'.all isVal=true:=by
 induction he with
 | nil=>rfl
 | cons h1 _ ih=>
  rename_i k v x r r' _;simp only[List.all_cons,Bool.and_eq_true] at hv ⊢;refine⟨?_,ih hv.2⟩;cases v with
  | val v=>obtain⟨y,rfl,_⟩:=cu h1;rfl
  | _=>simp[NV] at hv
abbrev gB (B:Nat):Nat->Option Nat:=fun i=>if i<B then some i else (ni [] i).map (·+B)
theorem qo {g:Nat->Option Nat}:∀ {a:List (PV X.Γ)},(∀ (i:Nat) x,a[i]? = some x->bT g x=some x)->bT.jf g a=some a
 | [],_=>rfl
 | c::cs,h=>by
  simp only[bT.jf,h 0 c rfl,qo (a:=cs) fun i x hi=>h (i+1) x (by simpa using hi)]
theorem yT {α β:Type} {a:List α} {b:List β} (hl:a.length=b.length) {i:Nat} {x:α} (hi:a[i]? = some x):∃ y,b[i]? = some y:=by
 have:i<b.length:=by rw[<-hl];exact (List.getElem?_eq_some_iff.1 hi).1
 exact⟨b[i],List.getElem?_eq_getElem this⟩
theorem V5 {v:PV X.Γ} {x:TV} (hv:VR X P A m h v x) {B:Nat} (hB:m.length<=B):bT (gB B) v=some v:=by
 have key:∀ {b:Nat} {mb:MB},m[b]? = some mb->gB B b=some b:=fun e=>by
  have:=(List.getElem?_eq_some_iff.1 e).1;simp only[gB];rw[if_pos (by omega)]
 induction hv with
 | bool=>rfl
 | lit=>rfl
 | int=>rfl
 | str=>rfl
 | nil=>rfl
 | ptr e=>simp only[bT,key e,Option.map_some]
 | slc e=>simp only[bT,key e,Option.map_some]
 | own e _=>simp only[bT,key e,Option.map_some]
 | win e _ _=>simp only[bT,key e,Option.map_some]
 | qg e=>simp only[bT,key e,Option.map_some]
 | map e=>simp only[bT,key e,Option.map_some]
 | iter e=>simp only[bT,key e,Option.map_some]
 | jk e=>simp only[bT,key e,Option.map_some]
 | row e _ _=>simp only[bT,key e,Option.map_some]
 | jZ=>rfl
 | bK=>rfl
 | el=>rfl
 | fn h1 _ h3 _ i2 i4=>
  simp only[bT];rw[qo fun i x hi=>let ⟨y,hy⟩:=yT h1 hi;i2 i x y hi hy,qo fun i x hi=>let ⟨y,hy⟩:=yT h3 hi;i4 i x y hi hy]
 | agg h1 _ i2=>simp only[bT];rw[qo fun i x hi=>let ⟨y,hy⟩:=yT h1 hi;i2 i x y hi hy];rfl
 | bH h1 _ i2=>simp only[bT];rw[qo fun i x hi=>let ⟨y,hy⟩:=yT h1 hi;i2 i x y hi hy];rfl
 | @gone v i x hi e _=>
  have:=key (b:=i) (mb:=(m[i]?).getD .gone) (by cases q:m[i]? with | none=>rw[q] at e;cases e | some y=>rfl);cases v<;>simp only[aG,Option.some.injEq] at hi<;>first | (subst hi;simp only[bT,this,Option.map_some]) | cases hi
theorem Q5 {v:List (PV X.Γ)} {x:List TV} (hv:aH X P A m h v x) {B:Nat} (hB:m.length<=B):bT.jf (gB B) v=some v:=
 qo fun i a hi=>let ⟨y,hy⟩:=yT hv.1 hi;V5 (hv.2 i a y hi hy) hB
theorem V6 {v:List (Nat×PE X.Γ)} {x:List (Nat×EV)} (hv:gX X P A m h v x) {B:Nat} (hB:m.length<=B):jG (gB B) v=some v:=by
 induction hv with
 | nil=>rfl
 | cons h1 _ ih=>
  rename_i k v x r r' _;simp only[jG,ih];cases v with
  | val v=>obtain⟨y,rfl,h2⟩:=cu h1;simp only[Ns,V5 h2 hB,Option.map_some]
  | _=>rfl
theorem XV {b:PB X.Γ} {mb:MB} (hb:BR X P A m h b mb) {B:Nat} (hB:m.length<=B):pY (gB B) b=some b:=by
 cases b with
 | cells cs=>
  cases mb with
  | cO c=>obtain⟨_,_,h2⟩:=hb;simp only[pY,Q5 h2 hB,Option.map_some]
  | _=>exact hb.elim
 | fF cs=>
  cases mb with
  | cZ c=>obtain⟨_,_,_,h2⟩:=hb;simp only[pY,Q5 h2 hB,Option.map_some]
  | _=>exact hb.elim
 | map es=>rfl
 | bn r n seen=>
  cases mb with
  | cO c=>
   obtain⟨_,_,h2,_⟩:=hb;obtain⟨mb,h3⟩:=Option.isSome_iff_exists.1 h2;have aN:r<B:=Nat.lt_of_lt_of_le (List.getElem?_eq_some_iff.1 h3).1 hB;have:gB B r=some r:=(by simp[gB,aN]);simp only[pY,this,Option.map_some]
  | _=>exact hb.elim
 | loop=>
  cases mb with
  | cO c=>obtain⟨_,_,h2⟩:=hb;simp only[pY,V6 h2 hB,Option.map_some]
  | _=>exact hb.elim
 | _=>rfl
theorem KL {B:Nat}:∀ {H:List (PB X.Γ)},(∀ (i:Nat) b,H[i]? = some b->pY (gB B) b=some b)->iM (gB B) H=some H
 | [],_=>rfl
 | c::cs,h=>by
  simp only[iM,h 0 c rfl,KL (H:=cs) fun i x hi=>h (i+1) x (by simpa using hi)]
theorem qC.drop (hX:aX X P) {call:ay} {fv:PV X.Γ} {xs:List (PV X.Γ)} {H H1:List (PB X.Γ)} {v:PV X.Γ} (hs:qC X P call fv xs H v H1) (h1:H1.take H.length=H) (hv:bT (gB H.length) v=some v):qC X P call fv xs H v H:=by
 intro A m h tf nH hr hf hx;obtain⟨w,h',ws,m1,c1,c2,c3,c4,c5,c6⟩:=hs A m h tf nH hr hf hx;have hg:jX H.length [.gc []] (⟨[(0,.val v)],[],H1⟩:aV X.Γ)=some ⟨[(0,.val v)],[],H⟩:=by
  have hb:iM (gB H.length) H=some H:=KL fun i b hi=>let ⟨mb,_,h2⟩:=hr.at_ i b hi;XV h2 (Nat.le_of_eq hr.len)
  have hl:H.length<=H1.length:=by have:=congrArg List.length h1;simp at this;omega
  have e:jG (gB H.length) [(0,PE.val v)]=some [(0,.val v)]:=by simp only[jG,Ns,hv,Option.map_some]
  have rM:iM (fun i=>if i<H.length then some i else (ni [] i).map (·+H.length)) H=some H:=hb;have e':jG (fun i=>if i<H.length then some i else (ni [] i).map (·+H.length)) [(0,PE.val v)]=some [(0,.val v)]:=e;simp only[jX,tK,List.all_nil,List.nodup_nil,decide_true,Bool.and_self,Bool.true_and,hl,if_true,e',Ko,h1,rM,tJ,iM,List.append_nil]
 obtain⟨m2,q1,q2,q3⟩:=jd hX hg A (fun _=>True) 0 m1 ⟨[(0,.val w)],[],h',[]⟩ ⟨⟨c2,rfl,fun k cs hk=>by simp at hk,.cons c3 .nil⟩,fun b _=>.inl trivial,fun b hb=>(by cases hb),Nat.zero_le _⟩;obtain⟨w',e1,e2⟩:=iY q1.st.env (t:=0) (v:=.val v) rfl;simp only[aT,if_true,Option.some.injEq] at e1;subst e1;refine⟨w,h',ws,m2,c1,q1.st.heap,e2,c4.trans q2,fun i mb hi=>?_,c6⟩;have aN:i<H.length:=by rw[<-hr.len];exact (List.getElem?_eq_some_iff.1 hi).1
 rcases c5 i mb hi with g | g
 ·exact q3 i mb aN g
 rcases q3 i _ aN g with g | g<;>exact .inr g
end
section
variable {X:iQ} {P:Program}
theorem qC.frame (hX:aX X P) {call:ay} {ks:List Nat} {H' Hp H H1 LC:List (PB X.Γ)} {fv fv' v v':PV X.Γ} {xs xs':List (PV X.Γ)} (hs:qC X P call fv xs H v H1)
  (lH:ks.Nodup) (hp:tJ H' ks=some Hp) (hH:iM (ni ks) Hp=some H) (hf:bT (ni ks) fv'=some fv) (hx:bT.jf (ni ks) xs'=some xs)
  (hv:bT (bk ks H'.length) v=some v') (hH1:iM (bk ks H'.length) H1=some LC) (Sr:zX (H1.drop ks.length)=true) :
  qC X P call fv' xs' H' v' (putAt ks LC H'++LC.drop ks.length):=fun A m' h tf nH hr hf' FU=>by
 obtain⟨w,h1,ws,m1,c1,c2,c3,c4,c5,c6⟩:=Ad hX hs.w lH hp hH hf hx hv hH1 Sr A m' h tf nH hr hf' FU;exact⟨w,h1,ws,m1,c1,c2,c3,c4,c5,fun b hb=>by obtain⟨_,k,_,_,mb,h8,h9⟩:=c6 b hb;exact aC h8 h9⟩
end
section
variable {X:iQ} {P:Program} {T:iF} {L:Nat}
def a9S {α:Type} (f:FuncId) (a:NS X P α) (v:α->PV X.Γ) (ext:α->List (PB X.Γ)) (pre:α->List Prop) (kX:iO X.Γ):iO X.Γ:=fun g vs=>
 match Nat.beq g f with
 | true=>match a.get vs with
  | some x=>some (v x,ext x,pre x)
  | none=>kX g vs
 | false=>kX g vs
def IsE (v:PV X.Γ) (H:List (PB X.Γ)):PV X.Γ×List (PB X.Γ)->Prop:=fun y=>y=(v,H)
theorem Fp.er {v:PV X.Γ} {H:List (PB X.Γ)}:Fp (IsE v H) (.n:PT X.Γ) (.ret (v,H)):=.r rfl
end
section
variable {X:iQ} {P:Program} {T:iF} {L:Nat}
theorem a2n (hX:aX X P) {n f:Nat} {kX:iO X.Γ} (hO:lC X P (AZ P T L n) kX) {first xs cap:List (PV X.Γ)} {H H1:List (PB X.Γ)} {v:PV X.Γ} {an:PT X.Γ} {o:OT (PV X.Γ×List (PB X.Γ))}
  (hk:Pz X P T kX (qC X P (AZ P T L n)) (KJ X P T (AZ P T L n) L f H.length) L f (first++xs++cap) H an=o) (ht:Fp (IsE v H1) an o):qC X P (AZ P T L (n+1)) (.fn f first cap) xs H v H1:=by
 obtain⟨y,h1,h2⟩:=ht.ends;cases h2;rw[<-hk] at h1;exact a2i hX (n:=n+1) (by omega) hO h1
end
section
variable {X:iQ} {P:Program}
theorem qC.gs (hX:aX X P) {call:ay} {fv:PV X.Γ} {xs:List (PV X.Γ)} {H H1 H2:List (PB X.Γ)} {v v':PV X.Γ} (hs:qC X P call fv xs H v H1) (gs:List G) (hg:jX H.length gs (⟨[(0,.val v)],[],H1⟩:aV X.Γ)=some ⟨[(0,.val v')],[],H2⟩):qC X P call fv xs H v' H2:=by
 intro A m h tf nH hr hf hx;obtain⟨w,h',ws,m1,c1,c2,c3,c4,c5,c6⟩:=hs A m h tf nH hr hf hx;obtain⟨m2,q1,q2,q3⟩:=jd hX hg A (fun _=>True) 0 m1 ⟨[(0,.val w)],[],h',[]⟩ ⟨⟨c2,rfl,fun k cs hk=>by simp at hk,.cons c3 .nil⟩,fun b _=>.inl trivial,fun b hb=>(by cases hb),Nat.zero_le _⟩;obtain⟨w',e1,e2⟩:=iY q1.st.env (t:=0) (v:=.val v') rfl;simp only[aT,if_true,Option.some.injEq] at e1;subst e1;refine⟨w,h',ws,m2,c1,q1.st.heap,e2,c4.trans q2,fun i mb hi=>?_,c6⟩;have aN:i<H.length:=by rw[<-hr.len];exact (List.getElem?_eq_some_iff.1 hi).1
 rcases c5 i mb hi with g | g
 ·exact q3 i mb aN g
 rcases q3 i _ aN g with g | g<;>exact .inr g
theorem qC.cut (hX:aX X P) {call:ay} {fv:PV X.Γ} {xs:List (PV X.Γ)} {H H1 H2:List (PB X.Γ)} {v:PV X.Γ} (hs:qC X P call fv xs H v H1) (h1:H1.take H.length=H2) (hb:iM (gB H.length) H2=some H2) (hl:decide (H.length<=H1.length)=true) (hv:bT (gB H.length) v=some v):qC X P call fv xs H v H2:=by
 intro A m h tf nH hr hf hx;obtain⟨w,h',ws,m1,c1,c2,c3,c4,c5,c6⟩:=hs A m h tf nH hr hf hx;have hl:=of_decide_eq_true hl;have hg:jX H.length [.gc []] (⟨[(0,.val v)],[],H1⟩:aV X.Γ)=some ⟨[(0,.val v)],[],H2⟩:=by
  have e:jG (gB H.length) [(0,PE.val v)]=some [(0,.val v)]:=by simp only[jG,Ns,hv,Option.map_some]
  have rM:iM (fun i=>if i<H.length then some i else (ni [] i).map (·+H.length)) H2=some H2:=hb;have e':jG (fun i=>if i<H.length then some i else (ni [] i).map (·+H.length)) [(0,PE.val v)]=some [(0,.val v)]:=e;simp only[jX,tK,List.all_nil,List.nodup_nil,decide_true,Bool.and_self,Bool.true_and,hl,if_true,e',Ko,h1,rM,tJ,iM,List.append_nil]
 obtain⟨m2,q1,q2,q3⟩:=jd hX hg A (fun _=>True) 0 m1 ⟨[(0,.val w)],[],h',[]⟩ ⟨⟨c2,rfl,fun k cs hk=>by simp at hk,.cons c3 .nil⟩,fun b _=>.inl trivial,fun b hb=>(by cases hb),Nat.zero_le _⟩;obtain⟨w',e1,e2⟩:=iY q1.st.env (t:=0) (v:=.val v) rfl;simp only[aT,if_true,Option.some.injEq] at e1;subst e1;refine⟨w,h',ws,m2,c1,q1.st.heap,e2,c4.trans q2,fun i mb hi=>?_,c6⟩;have aN:i<H.length:=by rw[<-hr.len];exact (List.getElem?_eq_some_iff.1 hi).1
 rcases c5 i mb hi with g | g
 ·exact q3 i mb aN g
 rcases q3 i _ aN g with g | g<;>exact .inr g
end
section
variable {X:iQ} {P:Program} {T:iF} {L f nt B:Nat} {eu:Bool} {call:ay} {kX:iO X.Γ}
theorem Fp.xx {y:Ex×aV X.Γ}:Fp (fun z=>z=y) (.n:PT X.Γ) (.ret y):=.r rfl
end
theorem lC.as {X:iQ} {P:Program} {call:ay} {α β:Type} {f:FuncId} {a:NS X P α} {r:Ar X P β} {S:α->β} {pre:α->List Prop} {kX:iO X.Γ} (hO:lC X P call kX)
  (h:∀ x,(∀ p∈pre x,p)->Con X P call f (a.put x) (r.put (S x)) []):lC X P call (dL f a r S pre kX):=by
 intro g vs v ext ps ho hp;unfold dL at ho;split at ho
 ·rename_i e;have e:=Nat.eq_of_beq_eq_true e;subst e;split at ho
  ·rename_i x hx;cases ho;intro A hh first args cap hup hv
   exact h x hp A hh first args cap hup (a.ok hx hv)
  ·exact hO g vs v ext ps ho hp
 ·exact hO g vs v ext ps ho hp
section
variable {X:iQ} {P:Program}
theorem Con.gs (hX:aX X P) {call:ay} {f:FuncId} {vs:List (PV X.Γ)} {v v':PV X.Γ} {ext ext':List (PB X.Γ)} (hc:Con X P call f vs v ext) (gs:List G) (hg:jX 0 gs (⟨[(0,.val v)],[],ext⟩:aV X.Γ)=some ⟨[(0,.val v')],[],ext'⟩):Con X P call f vs v' ext':=by
 intro A h first args cap hup hv
 obtain⟨w,h',m',c1,c2,c3,c4⟩:=hc A h first args cap hup hv
 obtain⟨m2,q1,q2,q3⟩:=jd hX hg A (fun _=>True) 0 m' ⟨[(0,.val w)],[],h',[]⟩ ⟨⟨c2,rfl,fun k cs hk=>by simp at hk,.cons c3 .nil⟩,fun b _=>.inl trivial,fun b hb=>(by cases hb),Nat.zero_le _⟩;obtain⟨w',e1,e2⟩:=iY q1.st.env (t:=0) (v:=.val v') rfl;simp only[aT,if_true,Option.some.injEq] at e1;subst e1;exact⟨w,h',m2,c1,q1.st.heap,e2,c4.trans q2⟩
end
end Pv
namespace Go.Proofs.YtjkgcifieggcpaaGreat
open Go Tw
structure B where
 lo:Int
 hi:Int
 f:Int
 deriving DecidableEq
structure O where
 code:Int
 a:Int
 b:Int
 c:Int
 n:Int
 deriving DecidableEq
structure K where
 name:ByteArray
 lo:Int
 hi:Int
structure V where
 f:Int
 n:Int
 deriving DecidableEq
abbrev B0:B:=⟨0,0,0⟩
abbrev O0:O:=⟨0,0,0,0,0⟩
abbrev K0:K:=⟨ByteArray.empty,0,0⟩
abbrev V0:V:=⟨0,0⟩
structure C where
 cs:List K
 os:List O
 rs:List Int
def Rq (x:Int) (lo:Int) (hi:Int):Bool:=
 if (decide ((x)<(lo)))=true then true else decide ((x)>(hi))
def EK (l:List Int) (lo:Int) (hi:Int):Bool:=
 !(l.any ((fun x=>Rq x lo hi)))
theorem wrap_small {z:Int} (h0:-(2^62)<=z) (h1:z<2^62):IntKind.i64.wrap z=z:=by
 simp only[IntKind.wrap,IntKind.bits,IntKind.signed];rcases Int.lt_or_le z 0 with h | h
 ·have:z%(2^64:Int)=z+2^64:=by
   have:=Int.add_mul_emod_self_left z (2^64) 1;rw[Int.mul_one] at this;rw[<-this];exact Int.emod_eq_of_lt (by omega) (by omega)
  simp only[this];rw[if_pos (by simp;omega)];omega
 have:z%(2^64:Int)=z:=Int.emod_eq_of_lt h (by omega);simp only[this];rw[if_neg (by simp;omega)]
def yU (k:Int) (least:Int) (aO:Int):Bool:=
 if (decide ((k)>=(least)))=true then decide ((k)<=(aO)) else false
theorem vK {x y:Int} (hx0:-20000<=x) (Xb:x<=20000) (WV:0<=y) (hy1:y<=20000):IntKind.i64.wrap (x*y)=x*y:=by
 have h1:x*y<=20000*y:=Int.mul_le_mul_of_nonneg_right Xb WV;have h2:-20000*y<=x*y:=Int.mul_le_mul_of_nonneg_right hx0 WV;exact wrap_small (by omega) (by omega)
def NW (x:Int) (lo:Int) (hi:Int):Bool:=
 if (decide ((x)<(lo)))=true then true else decide ((x)>(hi))
def Hu (l:List Int) (lo:Int) (hi:Int):Bool:=
 !(l.any ((fun x=>NW x lo hi)))
def V7 (v:V):Bool:=
 if ((v.f)==0)=true then Hu (([v.n]:List Int)) (-9999) 9999 else if (decide ((v.f)<=4))=true then (v.n)==0 else false
abbrev szK (k:K):Int:=IntKind.i64.wrap (IntKind.i64.wrap (k.hi-k.lo)+1)
structure Good (r:B):Prop where
 num:-9999<=r.lo∧r.lo<=r.hi∧r.hi<=9999∨r.lo=1∧r.hi=0
 f0:0<=r.f
 f1:r.f<=15
theorem wr {z:Int} (h1:-1000000000<=z) (h2:z<=1000000000):IntKind.i64.wrap z=z:=wrap_small (by omega) (by omega)
def szN (k:K):Nat:=(k.hi-k.lo+1).toNat
structure KOk (k:K):Prop where
 lo:-9999<=k.lo
 le:k.lo<=k.hi
 hi:k.hi<=9999
 sz:k.hi-k.lo+1<=12
theorem KOk.n {k:K} (h:KOk k):szK k=szN k∧0<szN k∧szN k<=12:=by
 have:=h.le;have:=h.sz;have:=h.lo;have:=h.hi;unfold szK szN;rw[wr (z:=k.hi-k.lo) (by omega) (by omega),wr (by omega) (by omega)];omega
end Go.Proofs.YtjkgcifieggcpaaGreat
namespace Pv
open Go Tw
def Rt {σ ρ:Type} (g:Nat->σ->σ⊕ρ):Nat->Nat->σ->σ⊕ρ
 | 0,_,s=>.inl s
 | m+1,k,s=>match g k s with
  | .inl s'=>Rt g m (k+1) s'
  | .inr r=>.inr r
def uo {σ:Type} (g:Nat->σ->σ):Nat->Nat->σ->σ
 | 0,_,s=>s
 | m+1,k,s=>uo g m (k+1) (g k s)
theorem EL {σ:Type} {g:Nat->σ->σ}:∀ (m k:Nat) (s:σ),uo g (m+1) k s=g (k+m) (uo g m k s)
 | 0,_,_=>rfl
 | m+1,k,s=>by
  rw[uo,EL m (k+1),show k+1+m=k+(m+1) by omega];rfl
theorem Ru {σ:Type} {g:Nat->σ->σ} (Q:Nat->σ->Prop) {m k:Nat} {s:σ} (h0:Q k s) (hs:∀ j s,k<=j->j<k+m->Q j s->Q (j+1) (g j s)):Q (k+m) (uo g m k s):=by
 induction m with
 | zero=>exact h0
 | succ m ih=>rw[EL];exact hs (k+m) _ (by omega) (by omega) (ih fun j s h1 h2 h3=>hs j s h1 (by omega) h3)
theorem KN {c:Nat->Bool} {ρ:Type} {r:Nat->ρ}:∀ (m k:Nat),G5 (Rt (σ:=Unit) (fun k _=>if c k=true then .inr (r k) else .inl ()) m k ())=true↔∀ j,k<=j->j<k+m->c j=false
 | 0,k=>by simp[Rt,G5];omega
 | m+1,k=>by
  simp only[Rt];by_cases hc:c k=true
  ·simp only[hc,if_true,G5,Bool.false_eq_true,false_iff];intro h;have:=h k (Nat.le_refl _) (by omega);rw[hc] at this;cases this
  simp only[hc,Bool.false_eq_true,if_false];rw[KN m (k+1)];constructor
  ·intro h j h1 h2;rcases Nat.lt_or_ge k j with h3 | h3
   ·exact h j h3 (by omega)
   rw[show j=k by omega];simpa using hc
  intro h j h1 h2;exact h j (by omega) (by omega)
abbrev gS (c:Nat->Bool) (k:Nat) (_:Unit):Unit⊕Nat:=if c k=true then .inr k else .inl ()
abbrev pz (c:Nat->Bool) (N:Nat):Unit⊕Nat:=Rt (gS c) N 0 ()
theorem J8 {c:Nat->Bool} {N:Nat}:G5 (pz c N)=true↔∀ j,j<N->c j=false:=by
 unfold pz gS;rw[KN (r:=fun k=>k)];exact⟨fun h j hj=>h j (by omega) (by omega),fun h j _ hj=>h j (by omega)⟩
abbrev a5M (c:Nat->Bool) (a N:Nat):Unit⊕Nat:=Rt (gS c) (N-a) a ()
theorem V8 {α:Type} {l:List α} {d:α} {p:α->Prop}:(∀ j,j<l.length->p (l.getD j d))↔∀ a∈l,p a:=by
 constructor
 ·intro h a ha;obtain⟨j,hj,rfl⟩:=List.mem_iff_getElem.1 ha;simpa[List.getD,List.getElem?_eq_getElem hj] using h j hj
 intro h j hj;have:l.getD j d=l[j]:=by simp[List.getD,List.getElem?_eq_getElem hj]
 rw[this];exact h _ (List.getElem_mem hj)
end Pv
namespace fZ
open Go Tw Pv
def dD:List Int->Int
 | []=>1
 | a::t=>a*dD t
def a2o:List Int->Int->List Int
 | [],_=>[]
 | a::t,n=>(n/dD t)%a::a2o t n
def XW:List Int->List Int->Int
 | a::t,d::p=>d*dD t+XW t p
 | _,_=>0
def Ae:List Int->List Int->Bool
 | [],[]=>true
 | a::t,d::p=>decide (0<=d∧d<a)&&Ae t p
 | _,_=>false
def BN (s:List Int):Prop:=∀ a∈s,1<=a∧a<=12
instance (s:List Int):Decidable (BN s):=inferInstanceAs (Decidable (∀ a∈s,1<=a∧a<=12))
structure nI (s:List Int):Prop where
 len:s.length<=6
 sz:BN s
 many:dD s<=2000
def EM (n:Nat) (o:List Int):Bool:=decide (o.length=n∧(∀ a∈o,0<=a∧a<n)∧o.Nodup)
theorem CX {z:Int} (h0:-(2^62)<=z) (h1:z<2^62):IntKind.i64.wrap z=z:=by
 simp only[IntKind.wrap,IntKind.bits,IntKind.signed];rcases Int.lt_or_le z 0 with h | h
 ·have:z%(2^64:Int)=z+2^64:=by
   have:=Int.add_mul_emod_self_left z (2^64) 1;rw[Int.mul_one] at this;rw[<-this];exact Int.emod_eq_of_lt (by omega) (by omega)
  simp only[this];rw[if_pos (by simp;omega)];omega
 have:z%(2^64:Int)=z:=Int.emod_eq_of_lt h (by omega);simp only[this];rw[if_neg (by simp;omega)]
theorem BN.tail {a:Int} {t:List Int} (h:BN (a::t)):BN t:=fun b hb=>h b (List.mem_cons_of_mem _ hb)
theorem qp:∀ {s:List Int},BN s->1<=dD s
 | [],_=>Int.le_refl _
 | a::t,h=>by
  have h1:=h a (List.mem_cons_self ..);have h2:=qp h.tail;have:=Int.mul_le_mul h1.1 h2 (by omega) (by omega);simpa[dD] using this
theorem Hw:∀ (s t:List Int),dD (s++t)=dD s*dD t
 | [],t=>by simp[dD]
 | a::s,t=>by simp[dD,Hw s t,Int.mul_assoc]
theorem KO:∀ {s p:List Int},Ae s p=true↔p.length=s.length∧∀ j,j<s.length->0<=p.getD j 0∧p.getD j 0<s.getD j 0
 | [],[]=>by simp[Ae]
 | a::t,d::p=>by
  simp only[Ae,Bool.and_eq_true,decide_eq_true_eq,KO (s:=t),List.length_cons];constructor
  ·rintro⟨h1,h2,h3⟩;refine⟨by omega,fun j hj=>?_⟩;cases j with
   | zero=>simpa using h1
   | succ j=>simpa using h3 j (by omega)
  rintro⟨h1,h2⟩;exact⟨by simpa using h2 0 (by omega),by omega,fun j hj=>by simpa using h2 (j+1) (by omega)⟩
 | [],_::_=>by simp[Ae]
 | _::_,[]=>by simp[Ae]
theorem KP {s:List Int} {k:Nat} (h:k<s.length):s.getD k 0∈s:=by
 have:s.getD k 0=s[k]:=by simp[List.getD,List.getElem?_eq_getElem h]
 rw[this];exact List.getElem_mem h
theorem DV {l:List Int} {i j:Nat} {a:Int} (h:i<l.length):(l.set i a).getD j 0=if i=j then a else l.getD j 0:=by
 simp only[List.getD_eq_getElem?_getD,List.getElem?_set];split<;>simp_all
def Bq (s:List Int):Int:=uo (fun k n=>if IntKind.i64.wrap (n*s.getD k 0)<3000 then IntKind.i64.wrap (n*s.getD k 0) else 3000) s.length 0 1
theorem KQ {s:List Int} (hs:BN s):Bq s=min 3000 (dD s):=by
 have:=Ru (g:=fun k n=>if IntKind.i64.wrap (n*s.getD k 0)<3000 then IntKind.i64.wrap (n*s.getD k 0) else 3000) (m:=s.length) (k:=0) (s:=(1:Int)) (fun k n=>n=min 3000 (dD (s.take k))) (by simp[dD];decide) (fun j n h1 h2 h3=>by
  have hj:j<s.length:=by omega
  have ha:=hs _ (KP hj);have hp:1<=dD (s.take j):=qp fun a ha=>hs a (List.mem_of_mem_take ha);have e:dD (s.take (j+1))=dD (s.take j)*s.getD j 0:=by
   rw[List.take_succ_eq_append_getElem hj,Hw];simp[dD,List.getD,List.getElem?_eq_getElem hj]
  have Oz:1<=n:=by omega
  have hn1:n<=3000:=by omega
  have h4:n*s.getD j 0<=3000*12:=Int.mul_le_mul hn1 ha.2 (by omega) (by omega);have h5:1<=n*s.getD j 0:=by have:=Int.mul_le_mul Oz ha.1 (by omega) (by omega);omega
  rw[CX (by omega) (by omega),e];by_cases hc:dD (s.take j)<=3000
  ·have:n=dD (s.take j):=(by omega);rw[this];split<;>omega
  have:n=3000:=by omega
  subst this;have h6:3000*s.getD j 0<=dD (s.take j)*s.getD j 0:=Int.mul_le_mul_of_nonneg_right (by omega) (by omega);have h7:3000<=3000*s.getD j 0:=by omega
  split<;>omega)
 rw[Nat.zero_add,List.take_length] at this;exact this
theorem nI.a5N {s:List Int} (h:nI s):Bq s=dD s:=by rw[KQ h.sz];have:=h.many;omega
abbrev cnt (s:List Int):Nat:=(dD s).toNat
theorem nI.a9T {s:List Int} (h:nI s):((cnt s:Nat):Int)=dD s:=by have:=qp h.sz;show ((dD s).toNat:Int)=_;omega
theorem nI.cnt {s:List Int} (h:nI s):((cnt s:Nat):Int)=Bq s:=by rw[h.a5N,h.a9T]
theorem nI.lt {s:List Int} (h:nI s) {k:Nat} (hk:k<fZ.cnt s):decide ((k:Int)<Bq s)=true:=by rw[<-h.cnt];exact a2m hk
theorem nI.no {s:List Int} (h:nI s):decide (((fZ.cnt s:Nat):Int)<Bq s)=false:=by rw[<-h.cnt];exact a5L _
theorem nI.a9U {s:List Int} (h:nI s):s.length<=aO:=by have:=h.len;unfold aO;omega
end fZ
namespace Tw
open Go Go.Proofs Go.Shelf
section
variable {P:Program} {ρ:Ren}
theorem Ry {M:Mp} {w:World} {h:List HB} (hV:Valid M mg (iD h) w) {b off len cap:Nat} {ex:Bool} {y:Value} (hx:VR M.h (.slc b off len cap 1 ex) y) (h0:0<len) {k:BK} {cs r:List TV} (hb:h[b]? = some (.cells k cs)) (hk:k≠.ro)
  (hl:k=.last->off+cap=cs.length) (hr:sub cs off len=some r) :
  ∃ ls p cap',M (.h b)=some (.cells ls)∧p∈ls∧y=.slice (some ⟨p.c,off,none⟩) len cap'∧len<=cap'∧cap<=cap'∧off+cap<=p.ext∧off+cap'<=p.tot∧cap'<2^63∧Dk M.h w k cs p∧p.base=0∧(∀ c∈cs,bV c=true) ∧
   ∃ xs:List Value,aH M.h r xs∧∀ (j:Nat) (v:Value),xs[j]? = some v->w.cell? ⟨p.c,off+j,none⟩=some v:=by
 cases hx with
 | slc hm hp vS hle qM hex ha a9V=>
  rename_i ls p a cap';obtain⟨cO,h1,h2⟩:=hV.ok _ _ hm trivial;have hg:iD h (.h b)=some (.cells k cs):=by simp[St.get,hb]
  rw[hg] at h1;cases h1;have hp:=hp.resolve_left (by omega);have qK:=h2.2.1 p hp;have lQ:=qK.base hk;rcases ha with ha | ⟨rfl,ha⟩
  ·omega
  obtain⟨xs,g1,g2⟩:=qK.slice hr (by omega) (fun e=>by have:=hl e;have:=qK.ext;omega);rw[lQ] at g2 ha ⊢;simp only[Nat.zero_add,Nat.mul_one] at g2 ha vS ⊢;exact⟨ls,p,cap',hm,hp,rfl,by omega,qM,vS,ha,a9V,qK,lQ,h2.1,xs,g1,g2⟩
end
open Go.Sort
theorem a2p {N:Np} {k:IntKind} {n:Int} {y:Value} (h:VR N (.int k n) y):y=.int k n:=by cases h;rfl
section
variable {P:Program} {M:Mp} {D:Key->Prop} {C:Ct} {w w':World}
theorem a2q (h:Valid M D C w) {k:Key} {ls:List Pl} {p:Pl} {cs cs':List TV} {kk oM:BK}
  (hk:M k=some (.cells ls)) (hd:D k) (hc:C k=some (.cells kk cs)) (hp:p∈ls) (qJ:(kk=.own∧oM=.own)∨((kk=.grow∨kk=.last)∧oM=.last∧p.ext=cs.length))
  (hl:cs'.length=cs.length) (hn:∀ c∈cs',bV c=true) {jP:Array Value} {S9:TypeId} (oU:w'.heap[p.c]? = some (.cells jP S9 (0,0))) (hs':jP.size=p.tot)
  (MS:∀ c,c<w.heap.size->c≠p.c->w'.heap[c]? = w.heap[c]?) (nP:w.heap.size<=w'.heap.size) (ho:w'.os=w.os) (hou:w'.output=w.output) (ht:w'.tape=w.tape)
  (a9W:∀ (i:Nat) (c:TV) (v:Value),cs'[i]? = some c->jP[i]? = some v->VR M.h c v) :
  Valid M D (gK C k (.cells oM cs')) w'∧Ext M C w M (gK C k (.cells oM cs')) w' [k]:=by
 obtain⟨hb,he,h1,qK,lH,huq,arr,ty,hr,hs,hle,hv⟩:=h.wrB hk hd hc hp qJ;have dZ:kk≠.ro:=by rcases qJ with⟨e,_⟩ | ⟨e | e,_⟩<;>rw[e]<;>simp
 have RZ:∀ b0,C k=some b0->wr b0=true:=fun b0 lQ=>by rw[hc] at lQ;cases lQ;cases kk<;>simp_all [wr]
 have je:aP M k (.cells ls)=M:=zL hk;have bg:∀ c,c<w.heap.size->c∉ah (.cells ls)->w'.heap[c]? = w.heap[c]?:=fun c Xr hc=>MS c Xr (fun e=>hc (by rw[e];exact List.mem_map.2 ⟨p,hp,rfl⟩));have dh:∀ c∈ah (.cells ls),(∃ l0,M k=some l0∧c∈ah l0)∨w.heap.size<=c:=fun c hc=>.inl ⟨_,hk,hc⟩;have mQ:lG M (aP M k (.cells ls)):=by rw[je];exact .refl _
 have aN:∀ q∈ls,q.c<w.heap.size:=fun q hq=>h.inb _ _ hk q.c (List.mem_map.2 ⟨q,hq,rfl⟩);refine⟨?_,?_⟩
 ·have:=h.upd (D':=D) (w':=w') k (.cells oM cs') (.cells ls) (fun j hj=>.inl hj) (fun l0 h0=>by
   rw[hk] at h0;cases h0;exact⟨hd,.refl _,RZ⟩) bg dh nP (by
   rw[je];refine⟨hn,fun q hq=>?_,fun e=>?_,fun e=>⟨lH,fun q1 lS q2 FH e1 e2=>by rw[huq q1 lS (by omega),huq q2 FH (by omega)]⟩⟩
   ·have Jj:=qK q hq;by_cases Qq:q.c=p.c
    ·have:=Dq lH hp hq Qq;subst this;exact⟨⟨jP,S9,(0,0),oU,hs',fun _=>rfl,fun _ i c v _ a b=>a9W i c v a (by simpa[hb] using b)⟩,by omega,by omega,fun _=>hb⟩
    ·obtain⟨a9X,ty2,fz2,t1,t2,t3,t4⟩:=Jj.row;refine⟨⟨a9X,ty2,fz2,(MS q.c (aN q hq) Qq).trans t1,t2,fun _=>t3 dZ,fun hz i c v hi a b=>?_⟩,Jj.fit,by have:=Jj.ext;omega,fun _=>Jj.base dZ⟩;exfalso;apply Qq;rcases qJ with⟨e,_⟩ | ⟨_,e,_⟩
     ·obtain⟨b',g1,g2⟩:=h.ok k _ hk hd;rw[hc] at g1;cases g1;obtain⟨q',g3,_⟩:=g2.2.2.1 e;rw[g3] at hq hp;simp at hq hp;rw[hq,hp]
     ·rw[huq q hq (by rw[hz e];omega)]
   ·rcases qJ with⟨e0,_⟩ | ⟨_,e1,_⟩
    ·obtain⟨b',g1,g2⟩:=h.ok k _ hk hd;rw[hc] at g1;cases g1;obtain⟨q',g3,g4⟩:=g2.2.2.1 e0;exact⟨q',g3,by omega⟩
    ·rw[e1] at e;cases e)
  rwa [je] at this
 ·have:=Ext.upd (M:=M) (C:=C) (w:=w) (w':=w') k (.cells oM cs') (.cells ls) [k] (.inl ⟨by simp[hc],rfl,by simp[hk],RZ⟩) mQ bg dh nP ho hou ht
  rwa [je] at this
end
def KT:List TV->Option (List Int)
 | []=>some []
 | .int .i64 n::r=>(KT r).map (n::·)
 | _=>none
theorem EO:∀ {cs:List TV} {zs:List Int},KT cs=some zs->cs=zs.map fun n=>TV.int .i64 n
 | [],zs,h=>by simp[KT] at h;subst h;rfl
 | c::r,zs,h=>by
  unfold KT at h;split at h
  ·rename_i e;cases e
  ·rename_i n r' e;cases e;simp only[Option.map_eq_some_iff] at h;obtain⟨ys,h1,rfl⟩:=h;rw[EO h1];rfl
  cases h
def wH (l:List Int):List Int:=l.mergeSort fun x y=>decide (x<=y)
def V9 (g:List Int->List Int) (fI:Nat):ay
 | .fn f [] [],[d],h=>
  if f=fI then
   match d with
   | .nil .slc=>some (.bH [],h,[])
   | .slc _ _ 0 _ _ _=>some (.bH [],h,[])
   | .slc b 0 n n' 1 _=>match h[b]? with
    | some (.cells k cs)=>match sH k true,KT cs with
     | some k',some zs=>if n=n'∧cs.length=n∧0<n∧n<=2^20 then some (.bH [],h.set b (.cells k' ((g zs).map fun x=>TV.int .i64 x)),[b]) else none
     | _,_=>none
    | _=>none
   | _=>none
  else none
 | _,_,_=>none
def Va:Nat->ay:=V9 wH
section
variable {P:Program} {ρ:Ren}
theorem Vb (L:Lays.n189 P ρ):aj P (Va (ρ.f 189)):=by
 intro fv args h v h' ws hc M w x xs hV xY hx yg;unfold Va V9 at hc;split at hc
 case h_2=>cases hc
 rename_i f d;split at hc
 case isFalse=>cases hc
 rename_i hf;subst hf;cases hx with
 | @fn _ _ _ ys zs h1 h1a h3 h3a=>
 have:ys=[]:=List.eq_nil_of_length_eq_zero h1.symm;subst this;have:zs=[]:=List.eq_nil_of_length_eq_zero h3.symm;subst this;obtain⟨dv,r1,rfl,hdv,yg⟩:=yg.dJ;have:=yg.jr;subst this;have enters:∀ {R:Value->World->Prop},Calls P (ρ.f 189) #[dv] w (yc R) ->
   ∃ d,(∀ w,(Deferred.ofValue (.func (.func (ρ.f 189)) [].toArray [].toArray) [dv].toArray).run P w=.ok d w)∧((BZ P d w R∧∃ f a b,(TV.fn (ρ.f 189) [] [])=.fn f a b)∨(Ir P d w R∧∃ l,(TV.fn (ρ.f 189) [] [])=.jk l)):=by
  intro R J9;refine⟨{ target:=.fn (.func (ρ.f 189)) #[],args:=#[dv] },fun w=>by simp[Deferred.ofValue],.inl ⟨⟨ρ.f 189,_,?_,fun n=>callsIn_wide.2 J9⟩,_,_,_,rfl⟩⟩;have e1:=L.f189;have e2 : ¬ (Body.n189 ρ).name = "runtime.NumGoroutine" := by simp [Body.n189]
  obtain⟨c,e3⟩:∃ c,(Body.n189 ρ).body=some c:=⟨_,rfl⟩;simp[invoke,callFunc,program,Sem.run,e1,e2,e3]
 split at hc
 ·simp only[Option.some.injEq,Prod.mk.injEq] at hc;obtain⟨rfl,rfl,rfl⟩:=hc;cases hdv;refine enters ((Any.slices_Sort_int_none L none 0 w).mono fun e w' ⟨he,hw⟩=>?_);subst he;subst hw;exact⟨M,hV,xY,.refl _ _ _,.FQ .nil⟩
 ·simp only[Option.some.injEq,Prod.mk.injEq] at hc;obtain⟨rfl,rfl,rfl⟩:=hc;cases hdv;refine enters ((Any.slices_Sort_int_none L _ _ w).mono fun e w' ⟨he,hw⟩=>?_);subst he;subst hw;exact⟨M,hV,xY,.refl _ _ _,.FQ .nil⟩
 ·rename_i b n n' ex _;split at hc
  case h_2=>cases hc
  rename_i k cs hb;split at hc
  case h_2=>cases hc
  rename_i k' zs jH hzs;split at hc
  case isFalse=>cases hc
  rename_i xU;obtain⟨rfl,pG,Oz,aeJ⟩:=xU;simp only[Option.some.injEq,Prod.mk.injEq] at hc;obtain⟨rfl,rfl,rfl⟩:=hc;have Qu:=EO hzs;have OA:zs.length=n:=by rw[<-pG,Qu,List.length_map]
  have hk:k≠.ro:=by rintro rfl;cases jH
  have a5O:sub cs 0 n=some cs:=by
   unfold sub;rw[if_pos (by omega)];simp[<-pG]
  obtain⟨ls,p,cap',k1,k2,rfl,k3,k4,k5,k6,k7,k8,k9,k10,csv,k11,k12⟩:=Ry hV hdv Oz hb hk (fun _=>by omega) a5O;have hpe:p.ext=cs.length:=by have:=k8.ext;omega
  obtain⟨arr,ty,fz,z1,z2,z3,_⟩:=k8.row;have:=z3 hk;subst this;have aN:=(Array.getElem?_eq_some_iff.1 z1).1;have hcv:csv=zs.map fun n=>Value.int .i64 n:=by
   apply List.ext_getElem?;intro i;by_cases hi:i<n
   ·have SS:i<cs.length:=(by omega);have WH:i<csv.length:=by rw[<-k11.len];exact SS
    have:=k11.at_ i cs[i] csv[i] (by simp[SS]) (by simp[WH]);have RY:cs[i]? = (zs.map fun n=>TV.int .i64 n)[i]?:=(by rw[<-Qu]);rw[List.getElem?_eq_getElem SS,List.getElem?_map,List.getElem?_eq_getElem (by omega)] at RY;simp only[Option.map_some,Option.some.injEq] at RY;rw[RY] at this;rw[List.getElem?_eq_getElem WH,List.getElem?_map,List.getElem?_eq_getElem (by omega)];rw[a2p this];rfl
   ·rw[List.getElem?_eq_none (by rw[<-k11.len];omega),List.getElem?_eq_none (by rw[List.length_map];omega)]
  have hH:Holds (Value.int .i64) w p.c 0 zs.toArray:=fun j hj=>by
   simp only[List.size_toArray] at hj;refine⟨?_,by simp[World.frozen?,z1]⟩;refine k12 j _ ?_;rw[hcv,List.getElem?_map,List.getElem?_eq_getElem hj];simp[hj]
  have J9:=Any.slices_Sort_int L p.c 0 cap' zs w hH aN (by omega);rw[OA] at J9;refine enters (J9.mono fun e w' ⟨he,N,os,hw⟩=>?_);subst he;have hsl:(wH zs).length=n:=by unfold wH;rw[List.length_mergeSort,OA]
  have hgb:iD h (.h b)=some (.cells k cs):=by simp[St.get,hb]
  have qJ:(k=.own∧k'=.own)∨((k=.grow∨k=.last)∧k'=.last∧p.ext=cs.length):=by
   rcases AP jH with e | ⟨a,b,_⟩
   ·exact .inl e
   ·exact .inr ⟨a,b,hpe⟩
  have oU:w'.heap[p.c]? = some (.cells (putCells (Value.int .i64) 0 (wH zs).toArray arr) ty (0,0)):=by
   rw[hw,heap_grow_old _ _ (by simp[putRow,mapBlock,Sort.ahead];exact aN)];simp only[putRow,mapBlock,Sort.ahead,Array.getElem?_modify,if_true,z1,Option.map_some,onCells];rfl
  have MS:∀ c,c<w.heap.size->c≠p.c->w'.heap[c]? = w.heap[c]?:=fun c Xr dZ=>by
   rw[hw,heap_grow_old _ _ (by simp[putRow,mapBlock,Sort.ahead];exact Xr)];simp only[putRow,mapBlock,Sort.ahead,Array.getElem?_modify];rw[if_neg (fun e=>dZ e.symm)]
  obtain⟨g1,g2⟩:=a2q (w':=w') (cs':=(wH zs).map fun x=>TV.int .i64 x) hV k1 trivial hgb k2 qJ (by rw[List.length_map,hsl,pG]) (fun c hc=>by
   obtain⟨y,_,rfl⟩:=List.mem_map.1 hc;rfl) oU (by simp[putCells,z2]) MS (by rw[hw];simp[putRow,mapBlock,Sort.ahead]) (by rw[hw];rfl) (by rw[hw];rfl) (by rw[hw];rfl) (fun i c u hc hu=>by
   rw[List.getElem?_map] at hc;simp only[Option.map_eq_some_iff] at hc;obtain⟨y,hy,rfl⟩:=hc;have hi:i<(wH zs).length:=(List.getElem?_eq_some_iff.1 hy).1;have hia:i<arr.size:=(by omega);simp only[putCells,Array.getElem?_mapIdx,Array.getElem?_eq_getElem hia,Option.map_some,Option.some.injEq] at hu;rw[if_pos ⟨Nat.zero_le _,by simp;omega⟩] at hu;subst hu;have:(wH zs).toArray[i-0]! = y:=by
    have h9:=(List.getElem?_eq_some_iff.1 hy).2;simp[hi,h9]
   rw[this];exact .int _ _)
  have mD:=(List.getElem?_eq_some_iff.1 hb).1;have JC:iD (h.set b (.cells k' ((wH zs).map fun x=>TV.int .i64 x)))=gK (iD h) (.h b) (.cells k' ((wH zs).map fun x=>TV.int .i64 x)):=dU ⟨[],[],h,[]⟩ b _ mD [] [];exact⟨M,by rw[JC];exact g1,xY,by rw[JC];exact g2,.FQ .nil⟩
 ·cases hc
theorem aj.or {P:Program} {c1 c2:ay} (h1:aj P c1) (h2:aj P c2):aj P (fun f xs h=>(c1 f xs h).orElse fun _=>c2 f xs h):=by
 intro fv args h v h' ws hc;cases he:c1 fv args h with
 | some r=>
  simp only[he,Option.orElse_some,Option.some.injEq] at hc;subst hc;exact h1 _ _ _ _ _ _ he
 | none=>
  simp only[he,Option.orElse_none] at hc;exact h2 _ _ _ _ _ _ hc
end
def NY (x:Int):List Int->List Int
 | []=>[x]
 | y::l=>match decide (x<=y) with
  | true=>x::y::l
  | false=>y::NY x l
def Rz:List Int->List Int
 | []=>[]
 | x::l=>NY x (Rz l)
theorem Af (x:Int):∀ l,(NY x l).Perm (x::l)
 | []=>.refl _
 | y::l=>by
  unfold NY;split
  ·exact .refl _
  exact ((Af x l).cons y).trans (.swap x y l)
theorem Hy:∀ l,(Rz l).Perm l
 | []=>.refl _
 | x::l=>(Af x (Rz l)).trans ((Hy l).cons x)
theorem Bv (x:Int):∀ {l:List Int},l.Pairwise (·<=·)->(NY x l).Pairwise (·<=·)
 | [],_=>by simp[NY]
 | y::l,h=>by
  unfold NY;have h1:=List.pairwise_cons.1 h;split
  ·rename_i e;have e:=of_decide_eq_true e;exact List.pairwise_cons.2 ⟨fun a ha=>by
    rcases List.mem_cons.1 ha with rfl | ha
    ·exact e
    exact Int.le_trans e (h1.1 a ha),h⟩
  rename_i e;have e:=of_decide_eq_false e;exact List.pairwise_cons.2 ⟨fun a ha=>by
   rcases List.mem_cons.1 ((Af x l).mem_iff.1 ha) with rfl | ha
   ·omega
   exact h1.1 a ha,Bv x h1.2⟩
theorem Bz:∀ l,(Rz l).Pairwise (·<=·)
 | []=>.nil
 | x::l=>Bv x (Bz l)
theorem XY:Rz=wH:=by
 funext l
 refine List.Perm.eq_of_pairwise (le:=(·<=·)) (fun a b _ _ h1 h2=>by omega) (Bz l) ?_ ((Hy l).trans (List.mergeSort_perm l _).symm);have:=List.pairwise_mergeSort (le:=fun x y:Int=>decide (x<=y)) (fun a b c h1 h2=>by simp at *;omega) (fun a b=>by simp;omega) l;exact this.imp fun h=>by simpa using h
def a5P (f:Nat) (b:Bool):ay:=fun fv args h=>match fv,args with
 | .fn g [] [],[]=>if g=f then some (.bool b,h,[]) else none
 | _,_=>none
def isT:Option (TV×List HB×List Nat)->Bool
 | some (.bool true,_,[])=>true
 | _=>false
end Tw
namespace Go.Proofs.YtjkgcifieggcpaaGreat
open Go Tw Go.Shelf
def RD:Go.Shelf.Ren:=⟨fun | 189=>104 | 125=>141 | 257=>140 | 128=>193 | 129=>194 | 294=>184 | 295=>185 | 296=>186 | 297=>187 | 298=>188 | 299=>189 | 216=>190 | 300=>191 | 301=>192 | 328=>227 | 329=>228 | 330=>229 | 331=>230 | 332=>231 | 215=>232 | 343=>253 | n=>n,fun | 28=>22 | 3=>3 | 46=>71 | 0=>0 | 51=>220 | 53=>222 | 4=>4 | 183=>212 | 182=>211 | 131=>217 | 5=>5 | 9=>9 | 218=>249 | 222=>253 | 228=>273 | 229=>274 | n=>n,fun | n=>n⟩
theorem a5Q:Go.Proofs.Lays.n189 Tryz.prog RD where
 mixed:=by kernel_rfl
 f125:=Tryz.func141.trans (congrArg some (by kernel_rfl))
 f128:=Tryz.func193.trans (congrArg some (by kernel_rfl))
 f129:=Tryz.func194.trans (congrArg some (by kernel_rfl))
 f189:=Tryz.func104.trans (congrArg some (by kernel_rfl))
 f215:=Tryz.func232.trans (congrArg some (by kernel_rfl))
 f216:=Tryz.func190.trans (congrArg some (by kernel_rfl))
 f257:=Tryz.func140.trans (congrArg some (by kernel_rfl))
 f294:=Tryz.func184.trans (congrArg some (by kernel_rfl))
 f295:=Tryz.func185.trans (congrArg some (by kernel_rfl))
 f296:=Tryz.func186.trans (congrArg some (by kernel_rfl))
 f297:=Tryz.func187.trans (congrArg some (by kernel_rfl))
 f298:=Tryz.func188.trans (congrArg some (by kernel_rfl))
 f299:=Tryz.func189.trans (congrArg some (by kernel_rfl))
 f300:=Tryz.func191.trans (congrArg some (by kernel_rfl))
 f301:=Tryz.func192.trans (congrArg some (by kernel_rfl))
 f328:=Tryz.func227.trans (congrArg some (by kernel_rfl))
 f329:=Tryz.func228.trans (congrArg some (by kernel_rfl))
 f330:=Tryz.func229.trans (congrArg some (by kernel_rfl))
 f331:=Tryz.func230.trans (congrArg some (by kernel_rfl))
 f332:=Tryz.func231.trans (congrArg some (by kernel_rfl))
 f343:=Tryz.func253.trans (congrArg some (by kernel_rfl))
 t0:=Tryz.underlying0
 a0:=Tryz.isAgg0
 z0:=Tryz.sizeOf0
 v0:=Tryz.zeroValue0
 t3:=Tryz.underlying3
 a3:=Tryz.isAgg3
 z3:=Tryz.sizeOf3
 v3:=Tryz.zeroValue3
 t4:=Tryz.underlying4
 a4:=Tryz.isAgg4
 z4:=Tryz.sizeOf4
 v4:=Tryz.zeroValue4
 t5:=Tryz.underlying5
 a5:=Tryz.isAgg5
 z5:=Tryz.sizeOf5
 v5:=Tryz.zeroValue5
 t9:=Tryz.underlying9
 a9:=Tryz.isAgg9
 z9:=Tryz.sizeOf9
 v9:=Tryz.zeroValue9
 t28:=Tryz.underlying22
 a28:=Tryz.isAgg22
 z28:=Tryz.sizeOf22
 v28:=Tryz.zeroValue22
 t46:=Tryz.underlying71
 a46:=Tryz.isAgg71
 z46:=Tryz.sizeOf71
 v46:=Tryz.zeroValue71
 t51:=Tryz.underlying220
 a51:=Tryz.isAgg220
 z51:=Tryz.sizeOf220
 v51:=Tryz.zeroValue220
 t53:=Tryz.underlying222
 a53:=Tryz.isAgg222
 z53:=Tryz.sizeOf222
 v53:=Tryz.zeroValue222
 t131:=Tryz.underlying217
 a131:=Tryz.isAgg217
 z131:=Tryz.sizeOf217
 v131:=Tryz.zeroValue217
 t182:=Tryz.underlying211
 a182:=Tryz.isAgg211
 z182:=Tryz.sizeOf211
 v182:=Tryz.zeroValue211
 t183:=Tryz.underlying212
 a183:=Tryz.isAgg212
 z183:=Tryz.sizeOf212
 v183:=Tryz.zeroValue212
 t218:=Tryz.underlying249
 a218:=Tryz.isAgg249
 z218:=Tryz.sizeOf249
 v218:=Tryz.zeroValue249
 t222:=Tryz.underlying253
 a222:=Tryz.isAgg253
 z222:=Tryz.sizeOf253
 v222:=Tryz.zeroValue253
 t228:=Tryz.underlying273
 a228:=Tryz.isAgg273
 z228:=Tryz.sizeOf273
 v228:=Tryz.zeroValue273
 t229:=Tryz.underlying274
 a229:=Tryz.isAgg274
 z229:=Tryz.sizeOf274
 v229:=Tryz.zeroValue274
def aa1:ay:=fun f xs h=>(a5P 17 true f xs h).orElse fun _=>Va 104 f xs h
def Tb:Tw.iF:={
 live:=[(3,[(0,[1]),(1,[1,12]),(2,[2]),(3,[1,3,4]),(4,[1,3,4,5,6]),(5,[1,3,4,5,6,7]),(6,[1,3,4,5,6,7,37]),(7,[2]),(8,[1,3,4,5,6,7,39]),(9,[2]),(10,[1,3,4,5,6,8,9]),(11,[1,5,6,88]),(12,[2]),(13,[2])]),
  (4,[(0,[1]),(1,[1,10]),(2,[2]),(3,[1,3,4]),(4,[1,3,4,5]),(5,[1,3,4,5,20]),(6,[2]),(7,[1,3,4,7]),(8,[1,3,4,39]),(9,[2]),(10,[2])]),
  (6,[(0,[1,2]),(1,[1,2,22]),(2,[4]),(3,[1,2,5]),(4,[1,2,5,6]),(5,[1,2,5,6,31]),(6,[1,2,5,6]),(7,[1,2,5,6]),(8,[2,5,7]),(9,[2,5,7,55]),(10,[2,5,7]),(11,[2,5,7]),(12,[2,5]),(13,[2,5,87]),(14,[4]),(15,[2,5,8,9]),(16,[2,5,8,9,10,11]),(17,[2,5,8,9,10,11,12,13]),(18,[2,5,8,9,10,11,12,13,14,15]),(19,[5,8,9,10,11,12,13,14,15,16,17]),(20,[8,9,10,11,12,13,14,15,16,17,18,19]),(21,[4])]),
  (7,[(0,[1]),(1,[1,12]),(2,[2]),(3,[1,3,4]),(4,[1,3,4,5,6]),(5,[1,3,4,5,6,7]),(6,[1,3,4,5,6,7,27]),(7,[2]),(8,[1,3,4,5,6,8,9]),(9,[1,5,6,76]),(10,[2]),(11,[2])]),
  (8,[(0,[1]),(1,[1,12]),(2,[2]),(3,[1,3,4]),(4,[1,3,4,5,6]),(5,[1,3,4,5,6,7]),(6,[1,3,4,5,6,7,27]),(7,[2]),(8,[1,3,4,5,6,8,9]),(9,[2])]),
  (16,[(0,[1]),(1,[1,31]),(2,[2]),(3,[1,3]),(4,[1,3,36]),(5,[1,3]),(6,[1,3,46]),(7,[2]),(8,[2])]),
  (17,[(0,[]),(1,[1,2]),(2,[1,2,3,4]),(3,[1,2,3,4,5,6]),(4,[1,2,3,4,5,6,7,8]),(5,[1,2,3,4,5,6,7,8,9,10]),(6,[1,2,3,4,5,6,7,8,9,10,11,12]),(7,[0])]),
  (18,[(0,[1]),(1,[2,3])]),
  (19,[(0,[1]),(1,[2,3])]),
  (20,[(0,[1]),(1,[2])]),
  (21,[(0,[0,1,2]),(1,[0,1,2,7]),(2,[0,1,2,7,16]),(3,[6]),(4,[0,1,2,20]),(5,[6]),(6,[0,1,2,22,23,24]),(7,[0,1,2,22,23,24,25]),(8,[0,1,2,9,22,23,24]),(9,[0,1,2,10,22,23,24]),(10,[0,1,2,10,22,23,24,31]),(11,[6]),(12,[0,1,2,22,23,24]),(13,[2,11]),(14,[42]),(15,[6]),(16,[6])]),
  (22,[(0,[0]),(1,[2])]),
  (23,[(0,[0]),(1,[0,3]),(2,[0,3,4]),(3,[0,3,4,8]),(4,[0,3,4]),(5,[0,3,4]),(6,[2])]),
  (24,[(0,[1,2]),(1,[1,2,6]),(2,[1,2,6,7]),(3,[1,2,6,7,8]),(4,[1,2,6,7,8,16]),(5,[1,2,6,7,8]),(6,[1,2,6,7,8,9]),(7,[1,2,6,7,8,9,33]),(8,[1,2,6,7,8]),(9,[4,5])]),
  (25,[(0,[1,2]),(1,[2])]),
  (26,[(0,[0,1]),(1,[0,1,10]),(2,[4]),(3,[0,1,5]),(4,[0,1,5,14]),(5,[0,1,5]),(6,[0,1,5,25]),(7,[4]),(8,[4])]),
  (27,[(0,[0,1]),(1,[0,1,10]),(2,[4]),(3,[0,1,5]),(4,[0,1,5,14]),(5,[0,1,5]),(6,[0,1,5,26]),(7,[4]),(8,[4])]),
  (28,[(0,[1,2]),(1,[1,2,5]),(2,[1,2,5,6]),(3,[1,2,5,6,18]),(4,[1,2,5,6]),(5,[1,2,5,6,7]),(6,[1,2,5,6,7,8]),(7,[1,2,5,6,7,8,29]),(8,[1,2,5,6,7,8]),(9,[1,2,5,6,7,8]),(10,[1,2,5,6,53]),(11,[1,2,5,6,9]),(12,[1,2,5,6,9,10]),(13,[1,2,5,6,9,10,67]),(14,[1,2,5,6,9,10]),(15,[1,2,5,6,9,10,11]),(16,[1,2,5,6]),(17,[4])]),
  (29,[(0,[1]),(1,[2,3])]),
  (30,[(0,[1]),(1,[2])]),
  (31,[(0,[1,2]),(1,[2])]),
  (32,[(0,[1]),(1,[1,3]),(2,[1,3,4]),(3,[1,3,4,17]),(4,[1,3,4]),(5,[1,3,4,22]),(6,[1,3,4]),(7,[2])]),
  (33,[(0,[1]),(1,[1,25]),(2,[2]),(3,[1,3]),(4,[1,3,30]),(5,[1,3]),(6,[1,3,40]),(7,[2]),(8,[2])]),
  (34,[(0,[1,2]),(1,[4,5])]),
  (35,[(0,[1,2,3]),(1,[6])]),
  (37,[(0,[1,2]),(1,[1,2,5]),(2,[1,2,5,12]),(3,[1,2,5]),(4,[1,2,5,6]),(5,[1,2,5,6,7]),(6,[1,2,5,6,7,19]),(7,[1,2,5,6,7]),(8,[1,2,5,6,7]),(9,[1,2,5,49]),(10,[4]),(11,[4])]),
  (40,[(0,[0,1]),(1,[0,1,10]),(2,[4]),(3,[0,1,5]),(4,[0,1,5,14]),(5,[0,1,5]),(6,[0,1,5,26]),(7,[4]),(8,[4])]),
  (41,[(0,[1]),(1,[2])]),
  (42,[(0,[0,1,2,6]),(1,[0,2,6,7]),(2,[6,7]),(3,[6])]),
  (43,[(0,[1]),(1,[1,3]),(2,[1,3,7]),(3,[2]),(4,[1,3,4]),(5,[1,3,4,12]),(6,[1,3,4]),(7,[1,3,4]),(8,[2])]),
  (44,[(0,[1]),(1,[2,3])]),
  (45,[(0,[1]),(1,[2,3])]),
  (46,[(0,[1]),(1,[2,3])]),
  (47,[(0,[1]),(1,[2,3])]),
  (48,[(0,[0,3,4]),(1,[0,3,4,5]),(2,[4])]),
  (49,[(0,[0]),(1,[0])]),
  (50,[(0,[0,2]),(1,[0,2,3]),(2,[0,2,3,4]),(3,[0,2,3,4,8]),(4,[0,2,3,4]),(5,[0,2,3,4]),(6,[2])]),
  (51,[(0,[0]),(1,[0,3]),(2,[0,3,4]),(3,[0,3,4,9]),(4,[0,3,4]),(5,[0,3,4,17]),(6,[0,3,4]),(7,[2])]),
  (55,[(0,[0,1]),(1,[0,1,10]),(2,[4]),(3,[0,1,5]),(4,[0,1,5,19]),(5,[0,1,5]),(6,[0,1,5,30]),(7,[4]),(8,[4])]),
  (56,[(0,[0,1,5,6]),(1,[0,1,5,6,7]),(2,[0,1,5,6,7,8]),(3,[0,1,5,6,7,8,12]),(4,[0,1,5,6,7,8]),(5,[0,1,5,6,7,8]),(6,[6])]),
  (59,[(0,[0]),(1,[0,3]),(2,[0,3,4]),(3,[0,3,4,8]),(4,[0,3,4]),(5,[0,3,4]),(6,[2])]),
  (60,[(0,[1,2]),(1,[1,2,3]),(2,[1,2,3,4]),(3,[1,2,3,4,21]),(4,[1,2,3,4]),(5,[1,2,3,4]),(6,[2])]),
  (61,[(0,[2,3]),(1,[2,3,43]),(2,[4]),(3,[2,3,5]),(4,[2,3,5,48]),(5,[2,3,5]),(6,[2,3,5,79]),(7,[4]),(8,[4])]),
  (62,[(0,[0,1]),(1,[0,1,8]),(2,[4]),(3,[0,1,5]),(4,[0,1,5,12]),(5,[0,1,5]),(6,[0,1,5,20]),(7,[4]),(8,[0,1,23]),(9,[4]),(10,[27]),(11,[4]),(12,[4])]),
  (63,[(0,[0]),(1,[2])]),
  (64,[(0,[0,1,2]),(1,[8,9]),(2,[8,9,18]),(3,[6,7]),(4,[6,7])]),
  (65,[(0,[0,1,2]),(1,[8,9]),(2,[8,9,18]),(3,[6,7]),(4,[6,7])]),
  (66,[(0,[0,1,2]),(1,[0,1,2,7]),(2,[0,1,2,7,15]),(3,[6]),(4,[0,1,2,19]),(5,[6]),(6,[0,1,2,8]),(7,[0,1,2,8,23]),(8,[0,1,2,8]),(9,[0,1,2,8,9]),(10,[0,1,2,8,9,33]),(11,[6]),(12,[0,1,2,10]),(13,[0,1,2,10,38]),(14,[0,1,2,10]),(15,[0,1,2,10,60]),(16,[6]),(17,[6])]),
  (67,[(0,[0,1]),(1,[0,1,9]),(2,[4]),(3,[0,1,13]),(4,[4]),(5,[0,1,5]),(6,[0,1,5,17,18,19]),(7,[0,1,5,17,18,19,20]),(8,[0,1,5,7,17,18,19]),(9,[0,1,5,17,18,19]),(10,[0,1,5,17,18,19]),(11,[0,1,28]),(12,[4]),(13,[0,8]),(14,[0,8]),(15,[38]),(16,[4]),(17,[4])]),
  (68,[(0,[0,2]),(1,[2,5,6,7]),(2,[2,5,6,7,8]),(3,[2,4,5,6,7]),(4,[2,5,6,7]),(5,[2,5,6,7]),(6,[2])]),
  (69,[(0,[1]),(1,[4]),(2,[2])]),
  (70,[(0,[2,3]),(1,[4])]),
  (71,[(0,[0,3]),(1,[4])]),
  (72,[(0,[1,2,3]),(1,[1,3,7]),(2,[6]),(3,[6])]),
  (73,[(0,[0,3,4]),(1,[0,3,4,5]),(2,[0,3,4,5,6]),(3,[0,3,4,5,6,10]),(4,[0,3,4,5,6]),(5,[0,3,4,5,6]),(6,[4,5]),(7,[4])]),
  (74,[(0,[0,1,4]),(1,[4])]),
  (75,[(0,[0,1,2,7]),(1,[2,10,11]),(2,[2,10,11,23]),(3,[8,9]),(4,[2,10,27]),(5,[8,9]),(6,[2,10,12]),(7,[10,12,34,35]),(8,[10,12,34,35,36]),(9,[10,12,13,34,35]),(10,[10,12,14,34,35]),(11,[10,12,14,34,35,46]),(12,[10,12,34,35]),(13,[10,12,34,35]),(14,[8,9])]),
  (76,[(0,[0,1,2,7]),(1,[0,1,7,9]),(2,[0,1,7,9,16]),(3,[8]),(4,[0,1,7,10]),(5,[0,1,7,10,21]),(6,[8]),(7,[34]),(8,[8]),(9,[8])]),
  (77,[(0,[0,1,2,4,8]),(1,[4,12,13]),(2,[4,12,13,25]),(3,[10,11]),(4,[4,12,14,15]),(5,[4,12,14,33]),(6,[10,11]),(7,[4,12,36]),(8,[10,11]),(9,[10,11])]),
  (78,[(0,[0,1,2,4,5,9]),(1,[5,13,14]),(2,[12])]),
  (83,[(0,[1,2,3,4,8]),(1,[1,2,3,4,8,21]),(2,[4,8,10]),(3,[4,8,10,11]),(4,[4,8,10,11,33]),(5,[4,8,10,11]),(6,[4,8,10,11,42]),(7,[8,9]),(8,[4,8]),(9,[8,9]),(10,[1,2,3,4,8,12]),(11,[1,2,3,4,8,12,13]),(12,[1,2,3,4,8,12,13,70]),(13,[1,2,3,4,8,12,13]),(14,[1,2,3,4,8,12,13,14]),(15,[1,2,3,4,8,12,13,14]),(16,[1,2,3,4,8,12,13,14]),(17,[1,2,3,4,8,12,13,15]),(18,[1,2,3,4,8,12,13]),(19,[4,8,12,96]),(20,[8,9]),(21,[4,8,12,16]),(22,[4,8,12,16,106]),(23,[4,8,12,16]),(24,[4,8,12,16,128]),(25,[8,9]),(26,[4,8]),(27,[8,9])]),
  (84,[(0,[1]),(1,[1,3]),(2,[1,3,10]),(3,[2]),(4,[1,15]),(5,[2]),(6,[18]),(7,[2]),(8,[2])]),
  (85,[(0,[1,2,4]),(1,[1,2,4,5]),(2,[1,2,4,5,9]),(3,[1,2,4,5]),(4,[4])]),
  (86,[(0,[0,1]),(1,[0,1,5]),(2,[0,1,5,6]),(3,[0,1,5,6,14]),(4,[0,1,5,6]),(5,[0,1,5,6]),(6,[0,1,5,6]),(7,[4])]),
  (87,[(0,[0,1,2,7]),(1,[10,11]),(2,[10,11,21]),(3,[8,9]),(4,[8,9])]),
  (88,[(0,[0,1,2]),(1,[8,9]),(2,[8,9,18]),(3,[6,7]),(4,[6,7])]),
  (89,[(0,[0,1,2,7]),(1,[10,11]),(2,[10,11,21]),(3,[8,9]),(4,[8,9])]),
  (90,[(0,[0,1,2]),(1,[8,9]),(2,[8,9,18]),(3,[6,7]),(4,[6,7])]),
  (92,[(0,[0,1]),(1,[0,1,10]),(2,[4]),(3,[0,1,5]),(4,[0,1,5,14]),(5,[0,1,5]),(6,[0,1,5,25]),(7,[4]),(8,[4])]),
  (93,[(0,[0,1,2]),(1,[6])]),
  (94,[(0,[0,1]),(1,[0,1,5]),(2,[0,5,6]),(3,[0,5,6,11]),(4,[0,5,6]),(5,[0,5,6]),(6,[4])]),
  (95,[(0,[0,1]),(1,[0,1,11]),(2,[4]),(3,[0,1,5]),(4,[0,1,5,15]),(5,[0,1,5]),(6,[0,1,5,26]),(7,[4]),(8,[0,1,5,6]),(9,[0,1,5,6,29]),(10,[0,1,5,6]),(11,[0,1,5,6,40]),(12,[4]),(13,[4])]),
  (96,[(0,[0,1,2]),(1,[0,1,2,8]),(2,[0,1,2,8,16]),(3,[6,7]),(4,[0,1,2,9,10]),(5,[0,1,2,9,10,26]),(6,[6,7]),(7,[6,7])]),
  (97,[(0,[0,1]),(1,[1,10]),(2,[1,10,12]),(3,[1,5,10]),(4,[1,10,18]),(5,[4]),(6,[4])]),
  (98,[(0,[2,3,4,5]),(1,[2,3,4,5,8]),(2,[2,3,4,5,6]),(3,[4,5,6,14]),(4,[4,5]),(5,[4,5])]),
  (99,[(0,[0,2]),(1,[2,5,6,7]),(2,[2,5,6,7,8]),(3,[2,4,5,6,7]),(4,[2,5,6,7]),(5,[2,5,6,7]),(6,[2])]),
  (100,[(0,[2,3,4]),(1,[2,3,4,8]),(2,[2,3,4,5]),(3,[2,3,4,5,6]),(4,[4,5,21]),(5,[]),(6,[4])]),
  (101,[(0,[1]),(1,[1,3]),(2,[1,3,7]),(3,[2]),(4,[11]),(5,[2]),(6,[2])]),
  (102,[(0,[2,3,4]),(1,[6])]),
  (103,[(0,[0]),(1,[0,4]),(2,[2]),(3,[2])]),
  (104,[(0,[0,2]),(1,[])]),
  (105,[(0,[0,1]),(1,[0,1,10]),(2,[4]),(3,[0,1,12,13]),(4,[0,1,12,13,14]),(5,[0,1,5,12,13]),(6,[0,1,12,13,24]),(7,[4]),(8,[0,1,12,13]),(9,[4])]),
  (106,[(0,[0]),(1,[0,3]),(2,[3,7,8]),(3,[3,7,8,9]),(4,[3,4,7,8]),(5,[3,7,8]),(6,[3,7,8]),(7,[2])]),
  (107,[(0,[1,2]),(1,[1,2,3]),(2,[2,3,17]),(3,[2,3]),(4,[2,3])]),
  (108,[(0,[0,1]),(1,[4])]),
  (109,[(0,[1,2]),(1,[3])]),
  (110,[(0,[1,2]),(1,[4])]),
  (111,[(0,[1]),(1,[1,3]),(2,[3,4]),(3,[3,4,5]),(4,[3,4,5,11]),(5,[3,4,5]),(6,[3,4,5]),(7,[2])]),
  (112,[(0,[0,1,2,7]),(1,[0,1,2,7,10]),(2,[0,1,2,7,10,30]),(3,[8,9]),(4,[2,7,11]),(5,[2,7,11,12,13]),(6,[2,7,11,12,13,45]),(7,[8,9]),(8,[2,11,12,49]),(9,[8,9]),(10,[2,11,12,14]),(11,[2,11,14,60,61,62]),(12,[2,11,14,60,61,62,63]),(13,[2,11,14,15,16,60,61,62]),(14,[2,11,14,60,61,62]),(15,[2,11,14,60,61,62]),(16,[11,14,75,76,77]),(17,[11,14,75,76,77,78]),(18,[11,14,17,18,75,76,77]),(19,[11,14,17,19,75,76,77]),(20,[11,14,17,75,76,77,87,88,89]),(21,[11,14,17,75,76,77,87,88,89,90]),(22,[11,14,17,21,22,75,76,77,87,88,89]),(23,[11,14,17,21,75,76,77,87,88,89,95]),(24,[11,14,17,75,76,77,87,88,89]),(25,[11,14,17,75,76,77,87,88,89]),(26,[11,14,75,76,77]),(27,[11,108,109,110]),(28,[11,108,109,110,111]),(29,[11,24,108,109,110]),(30,[11,108,109,110]),(31,[11,108,109,110]),(32,[8,9])]),
  (113,[(0,[0,1]),(1,[1,10]),(2,[1,10,12]),(3,[1,5,10]),(4,[1,10,23]),(5,[4]),(6,[4])]),
  (114,[(0,[0]),(1,[2])]),
  (115,[(0,[0,1]),(1,[4])]),
  (116,[(0,[0]),(1,[0,3]),(2,[0,3,6]),(3,[0,3,6,7]),(4,[0,3,4,6]),(5,[0,3,4,6,11]),(6,[0,3,6]),(7,[0,3,6]),(8,[2])]),
  (117,[(0,[0,1,4]),(1,[0,4,8,9,10]),(2,[0,4,8,9,10,11]),(3,[0,4,7,8,9,10]),(4,[0,4,7,8,9,10,30]),(5,[4,5]),(6,[0,4,8,9,10]),(7,[0,4,8,9,10]),(8,[4,5])]),
  (118,[(0,[0,1]),(1,[0,1,5]),(2,[0,1,5,7]),(3,[0,5,7,30,31,32]),(4,[0,5,7,30,31,32,33]),(5,[0,5,7,9,30,31,32]),(6,[0,5,7,10,30,31,32]),(7,[0,5,7,30,31,32]),(8,[0,5,7,30,31,32]),(9,[0,5,7,30,31,32]),(10,[5,7,12]),(11,[5,7,12]),(12,[5,7]),(13,[4])]),
  (119,[(0,[0,1,2]),(1,[0,1,2,14]),(2,[6]),(3,[1,2,15,16,17]),(4,[1,2,15,16,17,18]),(5,[1,2,7,8,15,16,17]),(6,[1,2,8,9,15,16,17]),(7,[1,2,15,16,17,30]),(8,[6]),(9,[1,2,15,16,17]),(10,[6])]),
  (120,[(0,[2,3]),(1,[2,3,5]),(2,[2,3,5,6]),(3,[4])]),
  (121,[(0,[1]),(1,[2])]),
  (122,[(0,[1,2,4]),(1,[1,2,4,14]),(2,[4]),(3,[4])]),
  (124,[(0,[0,4,5,6]),(1,[0,4,5,6,8]),(2,[6]),(3,[0,4,5,6,13]),(4,[6]),(5,[0,4,5,6,22]),(6,[6]),(7,[0,4,5,6,31]),(8,[6]),(9,[0,4,5,6,39]),(10,[6]),(11,[0,4,5,6,44]),(12,[0,4,5,6,44,45]),(13,[6]),(14,[0,4,5,6,44,53]),(15,[6]),(16,[0,4,5,6,44,61]),(17,[6]),(18,[0,4,5,6,44,69]),(19,[6]),(20,[0,4,5,6,44,77]),(21,[6]),(22,[0,4,5,6,85]),(23,[6]),(24,[0,4,5,6,95]),(25,[6]),(26,[0,4,5,6,7]),(27,[4,5,6,7,103]),(28,[6]),(29,[6])]),
  (125,[(0,[0,3,4]),(1,[0,3,4,5]),(2,[4]),(3,[3,4,10]),(4,[4]),(5,[4])]),
  (126,[(0,[0,1]),(1,[0,1,5]),(2,[0,1,5,6]),(3,[0,1,5,6,10]),(4,[0,1,5,6]),(5,[0,1,5,6]),(6,[4])]),
  (127,[(0,[1]),(1,[1,3]),(2,[1,3,8]),(3,[1,3]),(4,[1,3,20]),(5,[2]),(6,[2])]),
  (128,[(0,[1]),(1,[1,3]),(2,[1,3,11]),(3,[1,3]),(4,[1,3,20]),(5,[2]),(6,[1,4]),(7,[1,4,25]),(8,[1,4]),(9,[1,4,5]),(10,[1,4,5,52]),(11,[2]),(12,[1,4,5,6]),(13,[1,4,5,6,57]),(14,[1,4,5,6]),(15,[1,4,5,6,81]),(16,[2]),(17,[2])]),
  (129,[(0,[0,1]),(1,[4])]),
  (130,[(0,[0,1,2,6]),(1,[0,1,2,6,8]),(2,[0,1,2,6,8,17]),(3,[6,7]),(4,[2,6,9]),(5,[2,6,9,10]),(6,[2,6,9,10,31]),(7,[6,7]),(8,[6,9,34,35,36]),(9,[6,9,34,35,36,37]),(10,[6,9,12,34,35,36]),(11,[6,9,34,35,36]),(12,[6,9,34,35,36]),(13,[6,7])]),
  (132,[(0,[0,1,5,6]),(1,[0,1,5,6,8]),(2,[0,1,5,6,8,13]),(3,[6,7]),(4,[0,1,5,6,18]),(5,[6,7]),(6,[6,7])]),
  (133,[(0,[0,1]),(1,[4])]),
  (134,[(0,[1]),(1,[2])]),
  (135,[(0,[0,1]),(1,[3])]),
  (136,[(0,[0,1]),(1,[4])]),
  (137,[(0,[1]),(1,[1,3]),(2,[1,3,13]),(3,[1,3]),(4,[1,3,4]),(5,[1,3,4,18]),(6,[1,3,4]),(7,[1,3,4,31]),(8,[2]),(9,[1,5]),(10,[1,5,36]),(11,[1,5]),(12,[1,5,44]),(13,[2]),(14,[1,5,6]),(15,[1,5,6,47]),(16,[1,5,6]),(17,[1,5,6,77]),(18,[2]),(19,[1,7,8]),(20,[2])]),
  (138,[(0,[0,1]),(1,[4])]),
  (139,[(0,[0,1,2]),(1,[4])]),
  (140,[(0,[0,1,2,3,8]),(1,[0,1,2,3,8,9]),(2,[0,1,2,3,8,9,10]),(3,[0,1,2,3,8,9,10,23]),(4,[]),(5,[0,1,2,3,8,9,10,29]),(6,[]),(7,[0,1,2,3,8,9,10,35]),(8,[0,1,2,3,8,9,10]),(9,[0,1,2,3,8,9,10]),(10,[0,1,2,3,8,9,10,11,12]),(11,[0,1,2,3,8,9,10,11,12,50]),(12,[0,1,2,3,8,9,10,11]),(13,[0,1,2,3,8,9,10,11]),(14,[0,1,2,3,8,9,10,11,12]),(15,[0,1,2,3,8,9,10,11,68]),(16,[0,1,2,3,8,9,10,11,72]),(17,[0,1,2,3,8,9,10,11,87]),(18,[0,2,3,8,9,13]),(19,[0,1,2,3,8,9]),(20,[0,1,2,3,10,14,15]),(21,[0,1,2,3,9,10,14]),(22,[0,1,2,3,9,10,14,16,17]),(23,[0,1,2,3,9,14,16,17,18]),(24,[0,1,2,3,9,14,16,17,18,113]),(25,[0,1,2,3,8,9,14]),(26,[0,2,3,8,9,14]),(27,[0,1,2,3,8,9]),(28,[0,1,2,3,8,9,14]),(29,[0,1,3,8,9,14]),(30,[0,1,2,3,8,9])]),
  (141,[(0,[0]),(1,[2]),(2,[2])]),
  (142,[(0,[1,2]),(1,[1,2,4]),(2,[1,2,4,11]),(3,[2,3]),(4,[1,2]),(5,[1,2,21]),(6,[2,3]),(7,[1,2,27]),(8,[1,2,27]),(9,[2,27]),(10,[2,3]),(11,[2,3])]),
  (143,[(0,[2,3]),(1,[2,3,5]),(2,[4])]),
  (144,[(0,[1,2]),(1,[1,2,3]),(2,[1,2,3,4]),(3,[1,2,3,4,5]),(4,[1,2,3,5]),(5,[2,3]),(6,[2])]),
  (145,[(0,[0,1]),(1,[0,1,7,8]),(2,[0,1,7,8,9]),(3,[0,1,5,7,8]),(4,[0,1,5,7,8,16]),(5,[4]),(6,[0,1,7,8]),(7,[4])]),
  (146,[(0,[1]),(1,[4,5]),(2,[4,5,12]),(3,[2,3]),(4,[2,3])]),
  (147,[(0,[1]),(1,[2])]),
  (148,[(0,[0,1]),(1,[4])]),
  (149,[(0,[1,2]),(1,[1,2,4]),(2,[1,2,4,9]),(3,[2,3]),(4,[2,3])]),
  (150,[(0,[3,4,5,6]),(1,[3,4,5,6,8]),(2,[3,4,5,6,8,16]),(3,[6,7]),(4,[3,4,5,6,10]),(5,[3,4,5,6,10,27]),(6,[6,7]),(7,[6,7])]),
  (151,[(0,[2,3,4]),(1,[2,3,4,6]),(2,[2,3,4,6,13]),(3,[4,5]),(4,[2,3,4,8]),(5,[2,3,4,8,23]),(6,[4,5]),(7,[4,5])]),
  (152,[(0,[1,2]),(1,[2])]),
  (153,[(0,[2,3]),(1,[4])]),
  (154,[(0,[0,1]),(1,[0,1,10]),(2,[4]),(3,[0,1,12,13]),(4,[0,1,12,13,14]),(5,[0,1,5,12,13]),(6,[0,1,12,13,24]),(7,[4]),(8,[0,1,12,13]),(9,[4])]),
  (155,[(0,[0,1,2]),(1,[0,1,2,14]),(2,[6]),(3,[1,2,15,16,17]),(4,[1,2,15,16,17,18]),(5,[1,2,7,8,15,16,17]),(6,[1,2,8,9,15,16,17]),(7,[1,2,15,16,17,30]),(8,[6]),(9,[1,2,15,16,17]),(10,[6])]),
  (156,[(0,[0,1]),(1,[0,1,10]),(2,[4]),(3,[0,1,5]),(4,[0,1,5,14]),(5,[0,1,5]),(6,[0,1,5,27]),(7,[4]),(8,[4])]),
  (157,[(0,[0,2]),(1,[2])]),
  (158,[(0,[0,2]),(1,[0,2,8]),(2,[2]),(3,[2])]),
  (159,[(0,[0,2]),(1,[2,3]),(2,[2]),(3,[2])]),
  (160,[(0,[0,2]),(1,[2])]),
  (161,[(0,[0,1]),(1,[0,1,7]),(2,[0,1]),(3,[0,1,5]),(4,[0,1,5,17]),(5,[0,1,5]),(6,[0,1,5,24]),(7,[0,1,5]),(8,[4])]),
  (162,[(0,[1]),(1,[1,5]),(2,[2]),(3,[2])]),
  (163,[(0,[1,2,3]),(1,[1,2,3,8]),(2,[6]),(3,[6])]),
  (164,[(0,[1,2]),(1,[1,2,5]),(2,[1,2,5,14]),(3,[1,2,5]),(4,[1,2,5,28]),(5,[4]),(6,[4])]),
  (165,[(0,[0,1,5,6]),(1,[6])]),
  (166,[(0,[0]),(1,[0])]),
  (167,[(0,[0]),(1,[0,6,7,8]),(2,[0,6,7,8,9]),(3,[0,4,6,7,8]),(4,[0,5,6,7,8]),(5,[0,5,6,7,8,15]),(6,[2]),(7,[0,6,7,8]),(8,[30]),(9,[2]),(10,[2])]),
  (168,[(0,[0,1,2]),(1,[0,1,2]),(2,[0,1,2,7]),(3,[0,1,2,7,16]),(4,[6]),(5,[0,1,2,7,8]),(6,[0,1,2,7,8,22]),(7,[6]),(8,[0,1,2,7,8,31]),(9,[0,1,2,7,9]),(10,[0,1,7,9]),(11,[9]),(12,[6]),(13,[0,1,2,7,8]),(14,[0,1,2,7,8,68]),(15,[0,1,2]),(16,[0]),(17,[6]),(18,[0,1,7]),(19,[0]),(20,[6])]),
  (169,[(0,[0]),(1,[0,4]),(2,[2]),(3,[2])]),
  (170,[(0,[0,1,4]),(1,[4])]),
  (171,[(0,[0,2]),(1,[2,4]),(2,[2]),(3,[2])]),
  (172,[(0,[1,2]),(1,[1,2,3]),(2,[1,2,3,4]),(3,[1,2,3,4,5]),(4,[1,2,3,5]),(5,[2,3]),(6,[2,6]),(7,[2])]),
  (177,[(0,[1]),(1,[5]),(2,[2]),(3,[2])]),
  (178,[(0,[1,2]),(1,[1,2,3]),(2,[1,3]),(3,[3,11,12]),(4,[3,11,12,13]),(5,[3,4,11,12]),(6,[3,11,12,18]),(7,[3,11,12])]),
  (179,[(0,[0,1,2,3,4,5]),(1,[0,1,2,3,4,5,12]),(2,[9]),(3,[0,2,4,5,10]),(4,[0,2,4,5,10,25]),(5,[0,2,4,5,10]),(6,[0,2,4,5,10,38]),(7,[9]),(8,[9])]),
  (180,[(0,[0,1]),(1,[0,1,7,8]),(2,[0,1,7,8,9]),(3,[0,1,5,7,8]),(4,[0,1,5,7,8,16]),(5,[4]),(6,[0,1,7,8]),(7,[4])]),
  (181,[(0,[1,2,3,4]),(1,[1,2,3,4,13]),(2,[1,2,3,18]),(3,[2,3]),(4,[8,9]),(5,[1,2,3,4,28]),(6,[8,9]),(7,[1,2,3,4,10]),(8,[1,2,3,4,10,11]),(9,[1,2,3,4,10,11,40]),(10,[1,2,3,4,10,11]),(11,[1,2,3,4,10,11]),(12,[8,9])]),
  (182,[(0,[0,1]),(1,[0,1,5]),(2,[0,1,5,9]),(3,[0,1,5]),(4,[0,1,5,17]),(5,[4]),(6,[4])]),
  (183,[(0,[0,1]),(1,[0,1,7,8]),(2,[0,1,7,8,9]),(3,[0,1,5,7,8]),(4,[0,1,5,7,8,16]),(5,[4]),(6,[0,1,7,8]),(7,[4])]),
  (184,[(0,[0,1,2,6]),(1,[0,1,2,6,12]),(2,[0,1,2,6]),(3,[0,1,2,6,7]),(4,[0,1,2,6,7,30]),(5,[0,1,2,6,7]),(6,[0,1,2,6,7])]),
  (185,[(0,[0,1,2,6]),(1,[0,1,2,6,7]),(2,[0,6,7,8]),(3,[0,6,7,8,9]),(4,[0,6,7,8,9,19]),(5,[0,6,7,8,9]),(6,[0,6,7,8,9]),(7,[0,6,7,10]),(8,[0,6,7,10,30]),(9,[0,6,7,10]),(10,[0,6,7,10]),(11,[0,6,7,10])]),
  (186,[(0,[0,1,6]),(1,[0,1,6,15]),(2,[0,1,6,7]),(3,[0,1,6,7,8]),(4,[0,1,6,7,8,9]),(5,[0,1,6,7,8,9,33]),(6,[0,1,6,7,8,9]),(7,[0,1,6,7,8,9,10]),(8,[0,1,6,7,8,9,10,43]),(9,[0,1,6,7,8,9,10]),(10,[0,1,6,7,8,9])]),
  (187,[(0,[0,1,2]),(1,[0,1,8]),(2,[0,1,8,9]),(3,[0,1,8,9,10]),(4,[0,1,8,9,10,11]),(5,[0,8,9,10,11,12]),(6,[0,8,9,10,11,12,32]),(7,[0,9,10,11,12,34]),(8,[0,9,10,11,12]),(9,[0,9,10,11,12]),(10,[0,9,10,11,12]),(11,[9,11]),(12,[11,49]),(13,[6,7]),(14,[11,49,51]),(15,[6,7]),(16,[11,54]),(17,[6,7])]),
  (188,[(0,[0,2,6]),(1,[0,6,7]),(2,[0,6,7,13]),(3,[0,6,7]),(4,[0,6,7]),(5,[0,6,7])]),
  (189,[(0,[0,1,2]),(1,[0,1,2,7]),(2,[0,1,2,7,8]),(3,[0,1,2,7,8,14]),(4,[0,1,2,7,8]),(5,[0,1,2,7,8,32]),(6,[0,1,2,7,8]),(7,[0,1,2,7,8,37]),(8,[6]),(9,[0,1,2,7,8,41]),(10,[6]),(11,[0,1,2,7,8]),(12,[0,1,2,7,8,61]),(13,[0,1,2,7,8,9]),(14,[0,1,2,7,8,9,65]),(15,[0,1,2,7,8,9]),(16,[0,1,2,7,8,9,78]),(17,[0,1,2,7,8,9]),(18,[0,1,2,7,8,98]),(19,[0,1,2,7,8,10]),(20,[0,1,2,7,8,10,103]),(21,[0,1,2,7,8,10]),(22,[0,1,2,7,8,10,116]),(23,[0,1,2,7,8,10]),(24,[6])]),
  (190,[(0,[0,1]),(1,[4])]),
  (191,[(0,[0,1,2,3]),(1,[0,1,2]),(2,[0,1,9,10]),(3,[0,1,9,10,43]),(4,[0,1,9,10]),(5,[0,1,9,10,59]),(6,[0,1,9,10]),(7,[0,1,9,10,64]),(8,[0,1,9,10]),(9,[0,1,9,10]),(10,[0,1,9,10]),(11,[8])]),
  (192,[(0,[0,1,2,3]),(1,[0,1,2]),(2,[0,1,10,11]),(3,[0,1,10,11,43]),(4,[0,1,10,11]),(5,[0,1,10,11,60]),(6,[0,1,10,11]),(7,[0,1,10,11,65]),(8,[11]),(9,[8,9]),(10,[0,1,10,11]),(11,[0,1,10,11]),(12,[0,1,10,11]),(13,[0,1,10,11,112]),(14,[0,1,10,11]),(15,[0,1,10,11,129]),(16,[0,1,10,11]),(17,[0,1,10,11,134]),(18,[0,1,10,11]),(19,[0,1,10,11]),(20,[0,1,10,11]),(21,[11]),(22,[8,9])]),
  (193,[(0,[0,2]),(1,[0,2,4]),(2,[0]),(3,[0,2]),(4,[0,2,8]),(5,[0,2]),(6,[0,2]),(7,[2])]),
  (194,[(0,[0,2]),(1,[0,2,4]),(2,[0]),(3,[0,2]),(4,[0,2,8]),(5,[0,2]),(6,[0,2]),(7,[0,2,14]),(8,[0,2]),(9,[0,2]),(10,[2])]),
  (195,[(0,[0,3]),(1,[4])]),
  (196,[(0,[1]),(1,[1,5]),(2,[2]),(3,[2])]),
  (197,[(0,[0,3]),(1,[4])]),
  (198,[(0,[2,3]),(1,[2,3,5]),(2,[2,3,5,34]),(3,[4]),(4,[4])]),
  (199,[(0,[1,2,3,4]),(1,[1,2,3,4,10]),(2,[8]),(3,[8])]),
  (200,[(0,[2,3]),(1,[4])]),
  (201,[(0,[1]),(1,[2])]),
  (202,[(0,[0,1,2,3,4]),(1,[0,1,2,3,4,14]),(2,[6]),(3,[0,1,2,3,4,7,8]),(4,[0,1,2,3,4,7,30]),(5,[6]),(6,[0,1,3,4,9]),(7,[0,1,3,4,9,10]),(8,[0,1,3,4,9,10,43,44,45]),(9,[0,1,3,4,9,10,43,44,45,46]),(10,[0,1,3,4,9,10,11,12,43,44,45]),(11,[0,1,3,4,9,10,43,44,45]),(12,[0,1,3,4,9,10,43,44,45]),(13,[0,3]),(14,[6])]),
  (203,[(0,[0,3]),(1,[0,3,5,6]),(2,[0,3,5,17]),(3,[0,3,5]),(4,[0,3,5]),(5,[5]),(6,[4])]),
  (204,[(0,[0]),(1,[2])]),
  (205,[(0,[0,1,5]),(1,[0,1,5,12]),(2,[6]),(3,[0,1,5,7]),(4,[0,1,5,7]),(5,[0,1,5,7,8,9]),(6,[0,1,5,7,8,32]),(7,[0,1,5,7,8]),(8,[0,1,5,8]),(9,[8]),(10,[6])]),
  (206,[(0,[1,2]),(1,[1,2,7]),(2,[1,2,4]),(3,[]),(4,[2])]),
  (207,[(0,[0,4,5,6]),(1,[0,4,5,6,11]),(2,[0,4,5,6,11,12]),(3,[6,7]),(4,[0,4,5,6,20]),(5,[6,7]),(6,[4,5,6,8]),(7,[4,5,6,8,38]),(8,[6,7]),(9,[4,5,6,8,9,10]),(10,[4,5,6,8,9,47]),(11,[6,7]),(12,[6,7])]),
  (208,[(0,[0,1,3]),(1,[3,4]),(2,[3])]),
  (209,[(0,[0,3,4]),(1,[3,4,6]),(2,[3,4,6,17]),(3,[4,5]),(4,[3,4,6,7,8]),(5,[3,4,6,7,25]),(6,[4,5]),(7,[4,5])]),
  (210,[(0,[0,1,3]),(1,[3,4]),(2,[3])]),
  (211,[(0,[1,2]),(1,[4])]),
  (212,[(0,[2,3]),(1,[4])]),
  (214,[(0,[])]),
  (215,[(0,[0,1]),(1,[0,1,10]),(2,[0,1]),(3,[0,5,6]),(4,[0,6,26]),(5,[0,6]),(6,[0,7]),(7,[7,8]),(8,[7,8,37]),(9,[7,8]),(10,[4])]),
  (216,[(0,[1,2]),(1,[4])]),
  (217,[(0,[1]),(1,[2])]),
  (218,[(0,[1,2,3,4,5,6]),(1,[1,2,3,4,5,6,32]),(2,[1,2,3,4,5,6]),(3,[1,2,3,4,5,6,40]),(4,[3]),(5,[8]),(6,[1,2,3,4,5,6,9]),(7,[1,2,3,4,5,6,9,10]),(8,[1,2,3,4,5,6,9,10,68]),(9,[8]),(10,[1,2,3,4,5,6,9,11,12]),(11,[1,2,3,4,5,6,9,11,84]),(12,[8]),(13,[1,2,3,4,5,6,9,13]),(14,[1,2,3,4,5,6,9,13,93,94]),(15,[1,2,3,4,5,6,9,13,93,94,95]),(16,[1,2,3,4,5,6,9,13,14,93,94]),(17,[1,2,3,4,5,6,9,13,93,94]),(18,[1,2,3,4,5,6,9,13,93,94]),(19,[3,5,6,13]),(20,[5,6]),(21,[8])]),
  (219,[(0,[2,3,4]),(1,[2,4,10,11,12]),(2,[2,4,10,11,12,13]),(3,[2,4,7,8,10,11,12]),(4,[2,4,10,11,12,32]),(5,[6]),(6,[2,4,10,11,12]),(7,[6])]),
  (220,[(0,[2,3,4]),(1,[3,4,8,9,10]),(2,[3,4,8,9,10,11]),(3,[3,4,5,6,8,9,10]),(4,[3,4,8,9,10]),(5,[3,4,8,9,10]),(6,[4])]),
  (221,[(0,[2,3,4,5,8]),(1,[2,3,5,8,12,13,14]),(2,[2,3,5,8,12,13,14,15]),(3,[2,3,5,8,9,10,12,13,14]),(4,[2,3,5,8,9,10,12,13,14,34]),(5,[2,3,5,8,12,13,14]),(6,[2,3,5,8,12,13,14]),(7,[8])]),
  (222,[(0,[1,2]),(1,[2,6,7,8]),(2,[2,6,7,8,9]),(3,[2,3,4,6,7,8]),(4,[2,6,7,8]),(5,[2,6,7,8]),(6,[2])]),
  (223,[(0,[1,2]),(1,[2,4,5]),(2,[2,4,5,12]),(3,[2,3]),(4,[2,3])]),
  (225,[(0,[1]),(1,[1,5]),(2,[2]),(3,[2])]),
  (226,[(0,[0,1]),(1,[0,1,5]),(2,[0,1,5,9]),(3,[0,1,5]),(4,[0,1,5,17]),(5,[4]),(6,[4])]),
  (227,[(0,[0,2,3,8]),(1,[0,2,3,8,9]),(2,[0,2,3,8,9,16]),(3,[0,2,3,8,9,36]),(4,[0,2,3,8,9]),(5,[0,2,3,8,9,52]),(6,[0,2,3,9]),(7,[0,2,3,8])]),
  (228,[(0,[0]),(1,[2])]),
  (229,[(0,[0]),(1,[0]),(2,[0]),(3,[0]),(4,[2])]),
  (230,[(0,[0,1,2]),(1,[6])]),
  (231,[(0,[0,1,2,3,4]),(1,[0,1,2,3,4]),(2,[0,1,2,4]),(3,[2]),(4,[10])]),
  (232,[(0,[0]),(1,[2])]),
  (233,[(0,[0,1]),(1,[4])]),
  (234,[(0,[1,2]),(1,[3])]),
  (235,[(0,[0,1]),(1,[3])]),
  (236,[(0,[0,1,2,3]),(1,[5])]),
  (237,[(0,[1,2]),(1,[4])]),
  (238,[(0,[0,1]),(1,[3])]),
  (239,[(0,[1,2]),(1,[1,2,4]),(2,[1,2,4,5]),(3,[1,2,4,5]),(4,[1,2,4,5,17]),(5,[1,2,4,5,6]),(6,[1,2,4,5,6,35]),(7,[1,2,4,5,6]),(8,[1,2,4,5,6]),(9,[1,2,4,5,6,42]),(10,[1,2,4,5])]),
  (240,[(0,[1,2,3]),(1,[1,2,3,7]),(2,[1,2,3,7,12]),(3,[1,2,3,7]),(4,[1,2,3,7]),(5,[6])]),
  (241,[]),
  (242,[(0,[3,4,5,6]),(1,[3,4,5,6,8]),(2,[6,7]),(3,[3,4,5,6,16]),(4,[6,7]),(5,[4,5,6,21]),(6,[6,7]),(7,[6,7])]),
  (243,[(0,[0,2]),(1,[0,2,6]),(2,[2]),(3,[2])]),
  (244,[(0,[0]),(1,[3]),(2,[3,4]),(3,[2]),(4,[3,6]),(5,[2]),(6,[3,8]),(7,[2]),(8,[3,10]),(9,[2]),(10,[3,13]),(11,[2]),(12,[3,16]),(13,[2]),(14,[3,19]),(15,[2]),(16,[22]),(17,[2]),(18,[2])]),
  (245,[(0,[0]),(1,[2])]),
  (246,[(0,[0,2]),(1,[0,2,4]),(2,[0,2,4,8]),(3,[2,3]),(4,[2,3])]),
  (247,[(0,[0]),(1,[3]),(2,[3,4]),(3,[2]),(4,[6]),(5,[2]),(6,[2])]),
  (248,[(0,[1,2]),(1,[3])]),
  (249,[(0,[0,1]),(1,[0]),(2,[])]),
  (250,[(0,[0,1]),(1,[6,7]),(2,[4,5]),(3,[8,9]),(4,[4,5])]),
  (251,[(0,[1,2]),(1,[3])]),
  (252,[(0,[2,3,4]),(1,[6])]),
  (253,[(0,[0,1,2,3]),(1,[1,2,3,18]),(2,[1,2]),(3,[8,9]),(4,[8,9])]),
  (254,[(0,[0,1]),(1,[0,1,7,8]),(2,[0,1,7,8,9]),(3,[0,1,5,7,8]),(4,[0,1,5,7,8,16]),(5,[4]),(6,[0,1,7,8]),(7,[4])]),
  (255,[(0,[0,1]),(1,[0,1,7,8]),(2,[0,1,7,8,9]),(3,[0,1,5,7,8]),(4,[0,1,5,7,8,16]),(5,[4]),(6,[0,1,7,8]),(7,[4])]),
  (256,[(0,[0,2]),(1,[2])]),
  (257,[(0,[0,1,4]),(1,[4])]),
  (258,[(0,[0,1,4]),(1,[4])]),
  (259,[(0,[0,1,4]),(1,[4])]),
  (260,[(0,[1]),(1,[2])]),
  (261,[(0,[0]),(1,[4])]),
  (262,[(0,[1]),(1,[4])]),
  (263,[(0,[1]),(1,[2])]),
  (264,[(0,[0]),(1,[2])]),
  (265,[(0,[0]),(1,[2])]),
  (266,[(0,[0]),(1,[2])]),
  (267,[(0,[1]),(1,[2])]),
  (268,[(0,[1]),(1,[2])]),
  (269,[(0,[0,2]),(1,[2])]),
  (270,[(0,[0,2]),(1,[2])]),
  (271,[(0,[0,2]),(1,[2,3]),(2,[2]),(3,[2])]),
  (272,[(0,[0,2,3]),(1,[0,2,3,9]),(2,[0,2,3]),(3,[0,2,3])]),
  (273,[(0,[0,1]),(1,[6]),(2,[4,5])]),
  (274,[(0,[0,1]),(1,[0,1,6]),(2,[0,1,6,7]),(3,[0,1,6,7,8]),(4,[0,1,6,7,8,9]),(5,[0,1,6,7,8,9,10]),(6,[0,1,6,7,9,11]),(7,[0,1,6,7,9,11,12]),(8,[0,1,6,7,9,12,13]),(9,[0,1,7,9,12,13]),(10,[0,1,4]),(11,[4,5])]),
  (275,[(0,[0,1,2]),(1,[4])]),
  (276,[(0,[0,1,2,5]),(1,[0,1,2,5,7]),(2,[5]),(3,[5])]),
  (277,[(0,[0,1]),(1,[1,4,5]),(2,[1,4,5,20]),(3,[4,5]),(4,[4,5])]),
  (278,[(0,[0,1,2,5]),(1,[5])]),
  (279,[(0,[0,1]),(1,[0,1,5]),(2,[0,1,5,6]),(3,[0,1,6,11]),(4,[12]),(5,[4]),(6,[4]),(7,[0,1,13]),(8,[4]),(9,[0,1,16]),(10,[4]),(11,[19]),(12,[4]),(13,[4])])],
 head:=[(6,[(5,[1,2,5,6]),(9,[2,5,7])]),
  (16,[(4,[1,3])]),
  (21,[(7,[0,1,2,22,23,24])]),
  (23,[(3,[0,3,4])]),
  (24,[(4,[1,2,6,7,8])]),
  (26,[(4,[0,1,5])]),
  (27,[(4,[0,1,5])]),
  (28,[(3,[1,2,5,6]),(7,[1,2,5,6,7,8]),(13,[1,2,5,6,9,10])]),
  (32,[(3,[1,3,4])]),
  (33,[(4,[1,3])]),
  (37,[(2,[1,2,5]),(6,[1,2,5,6,7])]),
  (40,[(4,[0,1,5])]),
  (43,[(5,[1,3,4])]),
  (50,[(3,[0,2,3,4])]),
  (51,[(3,[0,3,4])]),
  (55,[(4,[0,1,5])]),
  (56,[(3,[0,1,5,6,7,8])]),
  (59,[(3,[0,3,4])]),
  (60,[(3,[1,2,3,4])]),
  (61,[(4,[2,3,5])]),
  (62,[(4,[0,1,5])]),
  (66,[(7,[0,1,2,8]),(13,[0,1,2,10])]),
  (67,[(7,[0,1,5,17,18,19])]),
  (68,[(2,[2,5,6,7])]),
  (73,[(3,[0,3,4,5,6])]),
  (75,[(8,[10,12,34,35])]),
  (83,[(4,[4,8,10,11]),(12,[1,2,3,4,8,12,13]),(22,[4,8,12,16])]),
  (85,[(2,[1,2,4,5])]),
  (86,[(3,[0,1,5,6])]),
  (92,[(4,[0,1,5])]),
  (94,[(3,[0,5,6])]),
  (95,[(4,[0,1,5]),(9,[0,1,5,6])]),
  (97,[(2,[1,10])]),
  (99,[(2,[2,5,6,7])]),
  (105,[(4,[0,1,12,13])]),
  (106,[(3,[3,7,8])]),
  (111,[(4,[3,4,5])]),
  (112,[(12,[2,11,14,60,61,62]),(17,[11,14,75,76,77]),(21,[11,14,17,75,76,77,87,88,89]),(28,[11,108,109,110])]),
  (113,[(2,[1,10])]),
  (116,[(3,[0,3,6])]),
  (117,[(2,[0,4,8,9,10])]),
  (118,[(4,[0,5,7,30,31,32])]),
  (119,[(4,[1,2,15,16,17])]),
  (126,[(3,[0,1,5,6])]),
  (127,[(2,[1,3])]),
  (128,[(2,[1,3]),(7,[1,4]),(13,[1,4,5,6])]),
  (130,[(9,[6,9,34,35,36])]),
  (137,[(2,[1,3]),(5,[1,3,4]),(10,[1,5]),(15,[1,5,6])]),
  (140,[(2,[0,1,2,3,8,9])]),
  (145,[(2,[0,1,7,8])]),
  (154,[(4,[0,1,12,13])]),
  (155,[(4,[1,2,15,16,17])]),
  (156,[(4,[0,1,5])]),
  (161,[(4,[0,1,5]),(6,[0,1,5])]),
  (164,[(2,[1,2,5])]),
  (167,[(2,[0,6,7,8])]),
  (178,[(4,[3,11,12])]),
  (179,[(4,[0,2,4,5,10])]),
  (180,[(2,[0,1,7,8])]),
  (181,[(9,[1,2,3,4,10,11])]),
  (182,[(2,[0,1,5])]),
  (183,[(2,[0,1,7,8])]),
  (184,[(1,[0,1,2,6]),(4,[0,1,2,6,7])]),
  (185,[(4,[0,6,7,8,9]),(8,[0,6,7,10])]),
  (186,[(5,[0,1,6,7,8,9])]),
  (188,[(2,[0,6,7])]),
  (189,[(3,[0,1,2,7,8]),(5,[0,1,2,7,8]),(14,[0,1,2,7,8,9]),(20,[0,1,2,7,8,10])]),
  (191,[(3,[0,1,9,10]),(5,[0,1,9,10])]),
  (192,[(3,[0,1,10,11]),(5,[0,1,10,11]),(13,[0,1,10,11]),(15,[0,1,10,11])]),
  (202,[(9,[0,1,3,4,9,10,43,44,45])]),
  (215,[(8,[7,8])]),
  (218,[(1,[1,2,3,4,5,6]),(15,[1,2,3,4,5,6,9,13,93,94])]),
  (219,[(2,[2,4,10,11,12])]),
  (220,[(2,[3,4,8,9,10])]),
  (221,[(2,[2,3,5,8,12,13,14])]),
  (222,[(2,[2,6,7,8])]),
  (226,[(2,[0,1,5])]),
  (227,[(1,[0,2,3,8])]),
  (239,[(4,[1,2,4,5]),(6,[1,2,4,5,6])]),
  (240,[(2,[1,2,3,7])]),
  (254,[(2,[0,1,7,8])]),
  (255,[(2,[0,1,7,8])]),
  (272,[(1,[0,2,3])])],
 site:=[(71,[3]),(98,[2,3,4,5]),(100,[2,3,4,5]),(102,[3,4]),(112,[39]),(134,[1]),(144,[1,3,4,5]),(150,[3]),(151,[2]),(172,[1,3,4,5]),(174,[1,3]),(178,[2,3]),(186,[7]),(187,[9]),(195,[3]),(197,[3]),(198,[2,3,5]),(201,[14]),(205,[5,7]),(206,[1,2]),(211,[2]),(216,[2]),(252,[3,4]),(260,[1]),(263,[1])] }
def T:Tw.iF:={ Tb with exts:=[17,104],ext:=aa1,Lh:=[97,113] }
open Pv
structure Rw where
 fr:List Int
 to:List Int
 cell:V
 deriving DecidableEq
structure Br where
 var:Int
 kids:List Int
 deriving DecidableEq
structure Dg where
 sizes:List Int
 order:List Int
 ends:List V
 nodes:List Br
 root:Int
 deriving DecidableEq
structure Ld where
 s:List Int
 cells:List V
 deriving DecidableEq
structure Fc where
 name:ByteArray
 d:Dg
 deriving DecidableEq
structure Pc where
 facts:Int
 goal:Bool
 deriving DecidableEq
abbrev Dg0:Dg:=⟨[],[],[],[],0⟩
abbrev Fc0:Fc:=⟨⟨#[]⟩,Dg0⟩
abbrev Ag:Pc:=⟨0,false⟩
abbrev Rw0:Rw:=⟨[],[],V0⟩
abbrev SB:Br:=⟨0,[]⟩
abbrev Ld0:Ld:=⟨[],[]⟩
inductive Kd where
 | i64 | u8 | u16 | u64 | b | o | k | v | rw | br | tb | vs | ld | dg | is | fc | pc | bl | bs | no
def Kd.T:Kd->Type
 | .i64 | .u8 | .u16 | .u64=>Int
 | .dg=>Dg
 | .is=>List Int
 | .fc=>Fc
 | .pc=>Pc
 | .bl=>Bool
 | .bs=>List Bool
 | .b=>B
 | .o=>O
 | .k=>K
 | .v=>V
 | .rw=>Rw
 | .br=>Br
 | .tb=>List Rw
 | .vs=>List V
 | .ld=>Ld
 | .no=>Unit
def kd (t:Nat):Kd:=match t with
 | 3=>.i64
 | 5=>.u8
 | 900001=>.b
 | 900002=>.o
 | 900003=>.k
 | 82=>.u16
 | 141=>.u64
 | 27=>.dg
 | 22=>.is
 | 66=>.fc
 | 164=>.pc
 | 4=>.bl
 | 45=>.bs
 | 79=>.v
 | 900004=>.rw
 | 102=>.br
 | 900005=>.tb
 | 24=>.vs
 | 900006=>.ld
 | _=>.no
def bM (t:Nat):Type:=(kd t).T
def Kd.z:(k:Kd)->k.T
 | .i64 | .u8 | .u16 | .u64=>(0:Int)
 | .dg=>Dg0
 | .is=>([]:List Int)
 | .fc=>Fc0
 | .pc=>Ag
 | .bl=>false
 | .bs=>([]:List Bool)
 | .b=>B0
 | .o=>O0
 | .k=>K0
 | .v=>V0
 | .rw=>Rw0
 | .br=>SB
 | .tb=>([]:List Rw)
 | .vs=>([]:List V)
 | .ld=>Ld0
 | .no=>()
abbrev lI (l:List Int):PV bM:=.bK 3 l false
abbrev lV (l:List V):PV bM:=.bK 79 l false
abbrev lRw (l:List Rw):PV bM:=.bK 900004 l false
abbrev lBr (l:List Br):PV bM:=.bK 102 l false
abbrev lDg (l:List Dg):PV bM:=.bK 27 l false
abbrev lB (l:List Bool):PV bM:=.bK 4 l false
def B.ps (b:B):List (PV bM):=[.int .i64 b.lo,.int .i64 b.hi,.int .u8 b.f]
def O.ps (o:O):List (PV bM):=[.int .u8 o.code,.int .i64 o.a,.int .i64 o.b,.int .i64 o.c,.int .i64 o.n]
def K.ps (c:K):List (PV bM):=[.str c.name,.int .i64 c.lo,.int .i64 c.hi]
def V.ps (v:V):List (PV bM):=[.int .u8 v.f,.int .i64 v.n]
def Rw.ps (r:Rw):List (PV bM):=[lI r.fr,lI r.to,.int .u8 r.cell.f,.int .i64 r.cell.n]
def Br.ps (b:Br):List (PV bM):=[.int .i64 b.var,lI b.kids]
def Ld.ps (x:Ld):List (PV bM):=[lI x.s,lV x.cells]
def Dg.ps (d:Dg):List (PV bM):=[lI d.sizes,lI d.order,lV d.ends,lBr d.nodes,.int .i64 d.root]
def Fc.ps (x:Fc):List (PV bM):=.str x.name::x.d.ps
def Pc.ps (x:Pc):List (PV bM):=[.int .u64 x.facts,.bool x.goal]
def B.un (l:List (PV bM)):Option B:=match l with
 | [.int .i64 a,.int .i64 b,.int .u8 c]=>some ⟨a,b,c⟩
 | _=>none
def O.un (l:List (PV bM)):Option O:=match l with
 | [.int .u8 c,.int .i64 x,.int .i64 y,.int .i64 z,.int .i64 n]=>some ⟨c,x,y,z,n⟩
 | _=>none
def K.un (l:List (PV bM)):Option K:=match l with
 | [.str c,.int .i64 x,.int .i64 y]=>some ⟨c,x,y⟩
 | _=>none
def V.un (l:List (PV bM)):Option V:=match l with
 | [.int .u8 c,.int .i64 x]=>some ⟨c,x⟩
 | _=>none
def I.un (k:IntKind) (l:List (PV bM)):Option Int:=match l with
 | [.int k' x]=>if k'=k then some x else none
 | _=>none
def L.un (t:Nat) (v:PV bM):Option (List (bM t)):=match v with
 | .bK t' l _=>pW t t' l
 | .nil .slc=>some []
 | _=>none
def Rw.un (l:List (PV bM)):Option Rw:=match l with
 | [a,b,.int .u8 c,.int .i64 x]=>match L.un 3 a,L.un 3 b with
  | some a,some b=>some ⟨a,b,⟨c,x⟩⟩
  | _,_=>none
 | _=>none
def Br.un (l:List (PV bM)):Option Br:=match l with
 | [.int .i64 x,a]=>match L.un 3 a with
  | some a=>some ⟨x,a⟩
  | none=>none
 | _=>none
def Tb.un (l:List (PV bM)):Option (List Rw):=match l with
 | [a]=>L.un 900004 a
 | _=>none
def Vs.un (l:List (PV bM)):Option (List V):=match l with
 | [a]=>L.un 79 a
 | _=>none
def Ld.un (l:List (PV bM)):Option Ld:=match l with
 | [a,b]=>match L.un 3 a,L.un 79 b with
  | some a,some b=>some ⟨a,b⟩
  | _,_=>none
 | _=>none
def Dg.un (l:List (PV bM)):Option Dg:=match l with
 | [a,b,c,d,.int .i64 r]=>match L.un 3 a,L.un 3 b,L.un 79 c,L.un 102 d with
  | some a,some b,some c,some d=>some ⟨a,b,c,d,r⟩
  | _,_,_,_=>none
 | _=>none
def Is.un (l:List (PV bM)):Option (List Int):=match l with
 | [a]=>L.un 3 a
 | _=>none
def Fc.un (l:List (PV bM)):Option Fc:=match l with
 | .str n::r=>(Dg.un r).map (⟨n,·⟩)
 | _=>none
def Pc.un (l:List (PV bM)):Option Pc:=match l with
 | [.int .u64 n,.bool b]=>some ⟨n,b⟩
 | _=>none
def Bl.un (l:List (PV bM)):Option Bool:=match l with
 | [.bool b]=>some b
 | _=>none
def Bs.un (l:List (PV bM)):Option (List Bool):=match l with
 | [a]=>L.un 4 a
 | _=>none
def Kd.enc:(k:Kd)->k.T->List (PV bM)
 | .i64=>fun n=>[.int .i64 n]
 | .u8=>fun n=>[.int .u8 n]
 | .u16=>fun n=>[.int .u16 n]
 | .u64=>fun n=>[.int .u64 n]
 | .dg=>Dg.ps
 | .is=>fun l=>[lI l]
 | .fc=>Fc.ps
 | .pc=>Pc.ps
 | .bl=>fun b=>[.bool b]
 | .bs=>fun l=>[lB l]
 | .b=>B.ps
 | .o=>O.ps
 | .k=>K.ps
 | .v=>V.ps
 | .rw=>Rw.ps
 | .br=>Br.ps
 | .tb=>fun l=>[lRw l]
 | .vs=>fun l=>[lV l]
 | .ld=>Ld.ps
 | .no=>fun _=>[]
def Kd.dec:(k:Kd)->List (PV bM)->Option k.T
 | .i64=>I.un .i64
 | .u8=>I.un .u8
 | .u16=>I.un .u16
 | .u64=>I.un .u64
 | .dg=>Dg.un
 | .is=>Is.un
 | .fc=>Fc.un
 | .pc=>Pc.un
 | .bl=>Bl.un
 | .bs=>Bs.un
 | .b=>B.un
 | .o=>O.un
 | .k=>K.un
 | .v=>V.un
 | .rw=>Rw.un
 | .br=>Br.un
 | .tb=>Tb.un
 | .vs=>Vs.un
 | .ld=>Ld.un
 | .no=>fun _=>none
noncomputable def X0:iQ:=⟨bM,fun t=>(kd t).z,fun t=>(kd t).enc,fun t=>(kd t).dec⟩
theorem B.lU {l:List (PV bM)} {b:B} (h:B.un l=some b):B.ps b=l:=by
 unfold B.un at h;split at h
 ·cases h;rfl
 cases h
theorem O.lU {l:List (PV bM)} {b:O} (h:O.un l=some b):O.ps b=l:=by
 unfold O.un at h;split at h
 ·cases h;rfl
 cases h
theorem K.lU {l:List (PV bM)} {b:K} (h:K.un l=some b):K.ps b=l:=by
 unfold K.un at h;split at h
 ·cases h;rfl
 cases h
theorem V.lU {l:List (PV bM)} {b:V} (h:V.un l=some b):V.ps b=l:=by
 unfold V.un at h;split at h
 ·cases h;rfl
 cases h
theorem I.lU {k:IntKind} {l:List (PV bM)} {b:Int} (h:I.un k l=some b):[PV.int k b]=l:=by
 unfold I.un at h;split at h
 ·split at h
  ·rename_i e;cases h;rw[e]
  cases h
 cases h
section
variable {A:Nat->Prop} {m:List MB} {h:List HB}
theorem L.dR {t:Nat} {v:PV bM} {l:List (bM t)} (hu:L.un t v=some l) {x:TV} (hv:VR X0 Tryz.prog A m h v x):VR X0 Tryz.prog A m h (.bK t l false) x:=(Ro (X:=X0) (P:=Tryz.prog) t).ok (a:=l) (v:=v) (by
 cases v with
 | nil k=>cases k<;>first | exact hu | cases hu
 | bK t' l' f=>exact hu
 | _=>cases hu) hv
theorem Rw.dR {l:List (PV bM)} {r:Rw} (hu:Rw.un l=some r) {xs:List TV} (hv:aH X0 Tryz.prog A m h l xs):aH X0 Tryz.prog A m h r.ps xs:=by
 unfold Rw.un at hu;split at hu
 ·split at hu
  ·rename_i e1 e2;cases hu;obtain⟨x1,r1,rfl,h1,hv⟩:=hv.inv;obtain⟨x2,r2,rfl,h2,hv⟩:=hv.inv;exact .cons (L.dR e1 h1) (.cons (L.dR e2 h2) hv)
  cases hu
 cases hu
theorem Br.dR {l:List (PV bM)} {r:Br} (hu:Br.un l=some r) {xs:List TV} (hv:aH X0 Tryz.prog A m h l xs):aH X0 Tryz.prog A m h r.ps xs:=by
 unfold Br.un at hu;split at hu
 ·split at hu
  ·rename_i e1;cases hu;obtain⟨x1,r1,rfl,h1,hv⟩:=hv.inv;obtain⟨x2,r2,rfl,h2,hv⟩:=hv.inv;exact .cons h1 (.cons (L.dR e1 h2) hv)
  cases hu
 cases hu
theorem Ld.dR {l:List (PV bM)} {r:Ld} (hu:Ld.un l=some r) {xs:List TV} (hv:aH X0 Tryz.prog A m h l xs):aH X0 Tryz.prog A m h r.ps xs:=by
 unfold Ld.un at hu;split at hu
 ·split at hu
  ·rename_i e1 e2;cases hu;obtain⟨x1,r1,rfl,h1,hv⟩:=hv.inv;obtain⟨x2,r2,rfl,h2,hv⟩:=hv.inv;exact .cons (L.dR e1 h1) (.cons (L.dR e2 h2) hv)
  cases hu
 cases hu
theorem Tb.dR {l:List (PV bM)} {r:List Rw} (hu:Tb.un l=some r) {xs:List TV} (hv:aH X0 Tryz.prog A m h l xs):aH X0 Tryz.prog A m h [lRw r] xs:=by
 rcases l with _ | ⟨a,_ | ⟨b,l⟩⟩
 ·cases hu
 ·obtain⟨x1,r1,rfl,h1,hv⟩:=hv.inv;exact .cons (L.dR hu h1) hv
 cases hu
theorem Vs.dR {l:List (PV bM)} {r:List V} (hu:Vs.un l=some r) {xs:List TV} (hv:aH X0 Tryz.prog A m h l xs):aH X0 Tryz.prog A m h [lV r] xs:=by
 rcases l with _ | ⟨a,_ | ⟨b,l⟩⟩
 ·cases hu
 ·obtain⟨x1,r1,rfl,h1,hv⟩:=hv.inv;exact .cons (L.dR hu h1) hv
 cases hu
theorem Dg.dR {l:List (PV bM)} {r:Dg} (hu:Dg.un l=some r) {xs:List TV} (hv:aH X0 Tryz.prog A m h l xs):aH X0 Tryz.prog A m h r.ps xs:=by
 unfold Dg.un at hu;split at hu
 ·split at hu
  ·rename_i e1 e2 e3 e4;cases hu;obtain⟨x1,r1,rfl,h1,hv⟩:=hv.inv;obtain⟨x2,r2,rfl,h2,hv⟩:=hv.inv;obtain⟨x3,r3,rfl,h3,hv⟩:=hv.inv;obtain⟨x4,r4,rfl,h4,hv⟩:=hv.inv;exact .cons (L.dR e1 h1) (.cons (L.dR e2 h2) (.cons (L.dR e3 h3) (.cons (L.dR e4 h4) hv)))
  cases hu
 cases hu
theorem Is.dR {l:List (PV bM)} {r:List Int} (hu:Is.un l=some r) {xs:List TV} (hv:aH X0 Tryz.prog A m h l xs):aH X0 Tryz.prog A m h [lI r] xs:=by
 rcases l with _ | ⟨a,_ | ⟨b,l⟩⟩
 ·cases hu
 ·obtain⟨x1,r1,rfl,h1,hv⟩:=hv.inv;exact .cons (L.dR hu h1) hv
 cases hu
theorem Bs.dR {l:List (PV bM)} {r:List Bool} (hu:Bs.un l=some r) {xs:List TV} (hv:aH X0 Tryz.prog A m h l xs):aH X0 Tryz.prog A m h [lB r] xs:=by
 rcases l with _ | ⟨a,_ | ⟨b,l⟩⟩
 ·cases hu
 ·obtain⟨x1,r1,rfl,h1,hv⟩:=hv.inv;exact .cons (L.dR hu h1) hv
 cases hu
theorem Bl.lU {l:List (PV bM)} {b:Bool} (h:Bl.un l=some b):[PV.bool b]=l:=by
 unfold Bl.un at h;split at h
 ·cases h;rfl
 cases h
theorem Fc.dR {l:List (PV bM)} {r:Fc} (hu:Fc.un l=some r) {xs:List TV} (hv:aH X0 Tryz.prog A m h l xs):aH X0 Tryz.prog A m h r.ps xs:=by
 unfold Fc.un at hu;split at hu
 ·obtain⟨d,e1,rfl⟩:=Option.map_eq_some_iff.1 hu;obtain⟨x1,r1,rfl,h1,hv⟩:=hv.inv;exact .cons h1 (Dg.dR e1 hv)
 cases hu
theorem Pc.lU {l:List (PV bM)} {b:Pc} (h:Pc.un l=some b):Pc.ps b=l:=by
 unfold Pc.un at h;split at h
 ·cases h;rfl
 cases h
theorem XZ:∀ (k:Kd) {l:List (PV bM)} {a:k.T},k.dec l=some a->∀ {xs:List TV},aH X0 Tryz.prog A m h l xs->aH X0 Tryz.prog A m h (k.enc a) xs
 | .i64,_,_,e,_,hv=>by rw[show Kd.enc .i64 _=_ from I.lU e];exact hv
 | .u8,_,_,e,_,hv=>by rw[show Kd.enc .u8 _=_ from I.lU e];exact hv
 | .u16,_,_,e,_,hv=>by rw[show Kd.enc .u16 _=_ from I.lU e];exact hv
 | .u64,_,_,e,_,hv=>by rw[show Kd.enc .u64 _=_ from I.lU e];exact hv
 | .dg,_,_,e,_,hv=>Dg.dR e hv
 | .is,_,_,e,_,hv=>Is.dR e hv
 | .fc,_,_,e,_,hv=>Fc.dR e hv
 | .pc,_,_,e,_,hv=>by rw[show Kd.enc .pc _=_ from Pc.lU e];exact hv
 | .bl,_,_,e,_,hv=>by rw[show Kd.enc .bl _=_ from Bl.lU e];exact hv
 | .bs,_,_,e,_,hv=>Bs.dR e hv
 | .b,_,_,e,_,hv=>by rw[show Kd.enc .b _=_ from B.lU e];exact hv
 | .o,_,_,e,_,hv=>by rw[show Kd.enc .o _=_ from O.lU e];exact hv
 | .k,_,_,e,_,hv=>by rw[show Kd.enc .k _=_ from K.lU e];exact hv
 | .v,_,_,e,_,hv=>by rw[show Kd.enc .v _=_ from V.lU e];exact hv
 | .rw,_,_,e,_,hv=>Rw.dR e hv
 | .br,_,_,e,_,hv=>Br.dR e hv
 | .tb,_,_,e,_,hv=>Tb.dR e hv
 | .vs,_,_,e,_,hv=>Vs.dR e hv
 | .ld,_,_,e,_,hv=>Ld.dR e hv
 | .no,_,_,e,_,_=>by cases e
end
theorem RF:∀ (k:Kd) (a:k.T),dW.wE (k.enc a)=true:=by
 intro k a;cases k<;>rfl
theorem hX:aX X0 Tryz.prog:=⟨fun {t} vs a e {A m hh xs} hv=>XZ (kd t) e hv,fun t a=>RF (kd t) a⟩
abbrev Arg (α:Type):=Ar X0 Tryz.prog α
noncomputable def iA:Arg Int:=a2k .i64
noncomputable def hA:Arg Int:=a2k .u16
noncomputable def tA:Arg Bool:=a5F
noncomputable def vA:Arg V:=a5G hX 79
noncomputable def brA:Arg Br:=a5G hX 102
noncomputable def qw:Arg (List Int):=Ro 3
noncomputable def vsA:Arg (List V):=Ro 79
noncomputable def Ya:Arg (List Br):=Ro 102
noncomputable def aa3:Arg (List Dg):=Ro 27
noncomputable def a5R:Arg (List Fc):=Ro 66
noncomputable def pA:Arg Int:=a2k .u64
noncomputable def dA:Arg Dg:=a5I (XT (NT qw (a4 qw vsA Ya iA))) (fun p=>⟨p.1,p.2.1,p.2.2.1,p.2.2.2.1,p.2.2.2.2⟩) (fun d=>(d.sizes,d.order,d.ends,d.nodes,d.root)) fun _=>rfl
abbrev LL:Nat:=2^24
noncomputable abbrev ApN (n:Nat):ay:=AZ Tryz.prog T LL n
abbrev Ok (n:Nat) (kX:iO bM):Prop:=lC X0 Tryz.prog (ApN n) kX
abbrev xi (n:Int):PE bM:=.val (.int .i64 n)
abbrev xt (b:Bool):PE bM:=.val (.bool b)
abbrev xl (b:Bool):PE bM:=.val (.lit b)
abbrev xv (v:V):PE bM:=.val (.agg v.ps)
abbrev xL (t:Nat) (l:List (bM t)):PE bM:=.val (.bK t l false)
abbrev Rh (n f k m:Nat) (s:aV bM) (e:Ex) (p:aV bM):Prop:=vJ X0 Tryz.prog T (ApN n) LL f false (ntP Tryz.prog f) 0 (a5K Tryz.prog f k) m s e p
abbrev wQ (a b v:Int) (x:List (Nat×PE bM)):aV bM:=⟨[(0,xi a),(1,xi b),(5,xi v)]++x,[],[]⟩
theorem q0 {n:Nat} (hO:Ok n (NU (X:=X0))) (a b:Int) (lQ:0<b) (uT:b<=10000) (ha0:0<=a) (ha1:a<=10000):∀ (d:Nat),(d:Int)<=a/b->Rh n 161 0 (d+1) (wQ a b (a/b-d) []) (.exit 0) (wQ a b (a/b) [(17,xl false)]):=by
 have lS:a/b<=a:=Int.ediv_le_self b ha0;have aN:a<(a/b+1)*b:=by have:=Int.lt_ediv_add_one_mul_self a lQ;exact this
 have hle:a/b*b<=a:=Int.ediv_mul_le a (by omega);intro d
 induction d with
 | zero=>
  intro hd;rw[show a/b-((0:Nat):Int)=a/b by omega];exact round hX hO (by kernel_rfl) (.b (show decide (IntKind.i64.wrap (IntKind.i64.wrap (a/b+1)*b)<=a)=false by rw[wrap_small (z:=a/b+1) (by omega) (by omega),vK (by omega) (by omega) (by omega) (by omega)];simp only[decide_eq_false_iff_not];omega) .ex)
 | succ d ih=>
  intro hd;have X9:(d:Int)+1<=a/b:=by omega
  have Ij:(a/b-d)*b<=a:=by
   have:(a/b-d)*b<=(a/b)*b:=Int.mul_le_mul_of_nonneg_right (by omega) (by omega);omega
  have h:=ih (by omega);rw[<-show IntKind.i64.wrap (a/b-((d+1:Nat):Int)+1)=a/b-d by rw[wrap_small (by omega) (by omega)];omega] at h;exact round hX hO (by kernel_rfl) (.b (show decide (IntKind.i64.wrap (IntKind.i64.wrap (a/b-((d+1:Nat):Int)+1)*b)<=a)=true by
   rw[wrap_small (z:=a/b-((d+1:Nat):Int)+1) (by omega) (by omega),show a/b-((d+1:Nat):Int)+1=a/b-d by omega,vK (by omega) (by omega) (by omega) (by omega)];simp only[decide_eq_true_eq];exact Ij) (.go h))
theorem q1 {n:Nat} (hO:Ok n (NU (X:=X0))) (a b:Int) (lQ:0<b) (uT:b<=10000) (ha0:-10000<=a) (ha1:a<=10000):∀ (d:Nat),(d:Int)<=10000->Rh n 161 1 (d+1) (wQ a b (a/b+d) []) (.exit 2) (wQ a b (a/b) [(24,xl false)]):=by
 have lS:a/b<=10000:=by
  rcases Int.lt_or_le a 0 with h | h
  ·have:=Int.ediv_neg_of_neg_of_pos h lQ;omega
  have:=Int.ediv_le_self b h;omega
 have aN:a<(a/b+1)*b:=by have:=Int.lt_ediv_add_one_mul_self a lQ;exact this
 have hle:a/b*b<=a:=Int.ediv_mul_le a (by omega);have Jj:-10000<=a/b:=by
  have h1:(-10000:Int)*b<=a:=by
   have:(-10000:Int)*b<=(-10000)*1:=(by omega);omega
  exact (Int.le_ediv_iff_mul_le lQ).mpr h1
 intro d
 induction d with
 | zero=>
  intro hd;rw[show a/b+((0:Nat):Int)=a/b by omega];exact round hX hO (by kernel_rfl) (.b (show decide (IntKind.i64.wrap (a/b*b)>a)=false by rw[vK (by omega) (by omega) (by omega) (by omega)];simp only[decide_eq_false_iff_not];omega) .ex)
 | succ d ih=>
  intro hd;have Ij:a<(a/b+(d+1:Nat))*b:=by
   have:(a/b+1)*b<=(a/b+(d+1:Nat))*b:=Int.mul_le_mul_of_nonneg_right (by omega) (by omega);omega
  have h:=ih (by omega);rw[<-show IntKind.i64.wrap (a/b+((d+1:Nat):Int)-1)=a/b+d by rw[wrap_small (by omega) (by omega)];omega] at h;exact round hX hO (by kernel_rfl) (.b (show decide (IntKind.i64.wrap ((a/b+((d+1:Nat):Int))*b)>a)=true by
   rw[vK (by omega) (by omega) (by omega) (by omega)];simp only[decide_eq_true_eq];exact Ij) (.go h))
abbrev inN (x:Int):Prop:=-10000<=x∧x<=10000
theorem oG {α:Type} {l:List α} {k:Nat} (h:k<l.length) (d:α):l[k]? = some (l.getD k d):=by simp[List.getD,List.getElem?_eq_getElem h]
abbrev aa4 (f:Nat) (a c:List (PV bM)) (H:List (PB bM)) (l:List Int) (i:Int) (x:List (Nat×PE bM)):aV bM:=⟨[(0,xL 3 l),(1,.val (.fn f a c)),(7,xi l.length),(8,xi i)]++x,[],H⟩
def z183 (f:Nat) (a c:List (PV bM)) (H:List (PB bM)) (l:List Int):Unit⊕(Nat×Int×Unit)->Ex×aV bM
 | .inl _=>(.exit 0,aa4 f a c H l l.length [(9,xl false)])
 | .inr r=>(.ret,⟨[(4,xi r.1)],[],H⟩)
noncomputable def a5S:iO bM:=dL 252 (a3 iA iA qw) tA (fun p=>Hu p.2.2 p.1 p.2.1) (fun p=>[p.2.2.length<=aO]) (NU (X:=X0))
noncomputable def a5T:iO bM:=dL 225 (a1 vA) tA (fun p=>V7 p) np a5S
open Go Tw Pv fZ
noncomputable def aa5:iO bM:=dL 93 (a3 iA iA iA) tA (fun p=>yU p.1 p.2.1 p.2.2) np a5T
noncomputable def aa6:iO bM:=dL 26 (a2 qw qw) tA (fun p=>decide (p.1=p.2)) (fun p=>[p.1.length<=aO]) aa5
noncomputable def aa7:iO bM:=dL 94 (a2 qw iA) iA (fun p=>Bq p.1) (fun p=>[p.1.length<=aO,p.2=0]) aa6
noncomputable def aa8:iO bM:=dL 63 (a1 qw) iA (fun p=>Bq p) (fun p=>[p.length<=aO]) aa7
abbrev xw (s:List Int):Int:=IntKind.i64.wrap ((s.length:Int)-1)
theorem a5U {s:List Int} (h:s.length<=aO):xw s=(s.length:Int)-1:=by unfold xw;unfold aO at h;exact CX (by omega) (by omega)
theorem Ja {k lo hi:Int}:yU k lo hi=true↔lo<=k∧k<=hi:=by
 unfold yU;split
 ·rename_i h;simp at h ⊢;omega
 rename_i h;simp at h ⊢;omega
noncomputable def aa9:iO bM:=dL 95 (a2 qw qw) tA (fun p=>EM p.1.length p.2) (fun p=>[p.1.length<=aO,p.2.length<=aO]) aa8
abbrev cSz (a:List Int) (k:Nat):Bool:=!(yU (a.getD k 0) 1 12)
theorem Yb {a:List Int}:G5 (pz (cSz a) a.length)=decide (BN a):=by
 rw[Bool.eq_iff_iff,J8,decide_eq_true_eq,BN,<-V8 (d:=0)];refine forall_congr' fun j=>forall_congr' fun hj=>?_;simp only[cSz,Bool.not_eq_false',Ja]
def jy (s o:List Int):Int:=if decide ((s.length:Int)>6)=true then 5 else if G5 (pz (cSz s) s.length)=true then (if decide (Bq s>2000)=true then 5 else if (!(EM s.length o))=true then 4 else 0) else 3
noncomputable def aad:iO bM:=dL 62 (a2 qw qw) iA (fun p=>jy p.1 p.2) (fun p=>[p.2.length<=aO]) aa9
theorem NZ (s o:List Int):jy s o=if 6<s.length then 5 else if BN s then (if 2000<dD s then 5 else if EM s.length o=true then 0 else 4) else 3:=by
 unfold jy;rw[Yb];by_cases h1:6<s.length
 ·rw[if_pos h1,if_pos (by simp;omega)]
 rw[if_neg h1,if_neg (by simp;omega)];by_cases h2:BN s
 ·rw[if_pos (by simpa using h2),if_pos h2,KQ h2];by_cases h3:2000<dD s
  ·rw[if_pos h3,if_pos (by simp;omega)]
  rw[if_neg h3,if_neg (by simp;omega)];cases EM s.length o<;>simp
 rw[if_neg (by simpa using h2),if_neg h2]
theorem O1 {s o:List Int}:jy s o=0↔nI s∧EM s.length o=true:=by
 rw[NZ];constructor
 ·intro h;split at h
  ·cases h
  split at h
  ·split at h
   ·cases h
   split at h
   ·exact⟨⟨by omega,by assumption,by omega⟩,by assumption⟩
   cases h
  cases h
 rintro⟨⟨h1,h2,h3⟩,h4⟩;rw[if_neg (by omega),if_pos h2,if_neg (by omega),if_pos h4]
noncomputable def aae:iO bM:=dL 86 (a2 qw iA) qw (fun p=>a2o p.1 p.2) (fun p=>[p.1.length<=aO,BN p.1,0<=p.2,p.2<2^62]) aad
noncomputable def a5V:iO bM:=dL 126 (a2 qw qw) iA (fun p=>XW p.1 p.2) (fun p=>[Ae p.1 p.2=true,nI p.1]) aae
def vOk (v:V):Bool:=if (v.f==0)=true then yU v.n (-9999) 9999 else if (decide (v.f<=4))=true then v.n==0 else false
noncomputable def a5W:iO bM:=dL 162 (a1 vA) tA (fun p=>vOk p) np a5V
open Go Tw Pv fZ
def a0E (n:Nat):List Int:=(List.range n).map fun (k:Nat)=>(k:Int)
abbrev aaf (r:Rw) (p:List Int) (k:Nat):Bool:=if decide (p.getD k 0<r.fr.getD k 0)=true then true else decide (p.getD k 0>r.to.getD k 0)
def aag (r:Rw) (p:List Int):Bool:=G5 (pz (aaf r p) p.length)
def aah (t:List Rw) (p:List Int) (k:Nat) (x:Int×Int):Int×Int:=if aag (t.getD k Rw0) p=true then (IntKind.i64.wrap (x.1+1),(k:Int)) else x
def Vd (t:List Rw) (p:List Int):Int×Int:=uo (aah t p) t.length 0 (0,-1)
def a5X (t:List Rw) (n:Nat):Prop:=∀ r∈t,r.fr.length=n∧r.to.length=n
structure Laid (s:List Int) (t:List Rw):Prop where
 fine:nI s
 len:t.length<=4000
 rows:a5X t s.length
 own:∀ p,Ae s p=true->CB (Vd t p).2 t.length
open Go Tw Pv fZ
abbrev V.tv (v:V):TV:=.agg [.int .u8 v.f,.int .i64 v.n]
abbrev B.tv (b:B):TV:=.agg [.int .i64 b.lo,.int .i64 b.hi,.int .u8 b.f]
theorem aai:Tryz.prog.underlying 3=some (.int .i64):=by kernel_rfl
theorem uU8:Tryz.prog.underlying 5=some (.int .u8):=by kernel_rfl
theorem aaj : Tryz.prog.underlying 79 = some (.struct #[⟨"Fault", 5, 0, false, "", "", 0⟩, ⟨"N", 3, 1, false, "", "", 8⟩]) := by kernel_rfl
theorem a5Y (d:Nat) (a b:V):au Tryz.prog (Op.equalIn (d+2) 79 (.agg #[.int .u8 a.f,.int .i64 a.n]) (.agg #[.int .u8 b.f,.int .i64 b.n]))=some (decide (a=b)):=by
 rw[oC (d+1) 79 _ _ _ aaj (by kernel_rfl)];have p0:∀ x y:Value,au Tryz.prog (part 5 #[x,y] 0)=some x:=by intro x y;kernel_rfl
 have p1:∀ x y:Value,au Tryz.prog (part 3 #[x,y] 1)=some y:=by intro x y;kernel_rfl
 have n1 : ("Fault" : String) ≠ "_" := by decide
 have n2 : ("N" : String) ≠ "_" := by decide
 have q1 := iW (f := ⟨"Fault", 5, 0, false, "", "", 0⟩) (fs := [⟨"N", 3, 1, false, "", "", 8⟩]) n1 (p0 (.int .u8 a.f) (.int .i64 a.n)) (p0 (.int .u8 b.f) (.int .i64 b.n)) (ng d _ _ _ _ _ uU8);have q2 := iW (f := ⟨"N", 3, 1, false, "", "", 8⟩) (fs := []) n2 (p1 (.int .u8 a.f) (.int .i64 a.n)) (p1 (.int .u8 b.f) (.int .i64 b.n)) (ng d _ _ _ _ _ aai);rw[q1,q2];rw[show au Tryz.prog (Op.eqFields (d+1) #[.int .u8 a.f,.int .i64 a.n] #[.int .u8 b.f,.int .i64 b.n] [])=some true from rfl];rcases a with⟨a1,a2⟩;rcases b with⟨b1,b2⟩;by_cases h1:a1=b1<;>by_cases h2:a2=b2<;>simp[h1,h2]
theorem G6 (x y:Operand) (a b:V):kH Tryz.prog .eql 79 x y (V.tv a) (V.tv b)=some (.bool (decide (a=b))):=(IL rfl rfl (by kernel_rfl) (by decide) (a5Y 9998 a b)).1
open Go Tw Pv fZ
def cO (l:List V) (w j:Nat):List V:=(l.take ((j+1)*w)).drop (j*w)
theorem Q7 {l:List V} {w n j:Nat} (hl:l.length=n*w) (hj:j<n):(cO l w j).length=w:=by
 unfold cO;have h1:(j+1)*w<=n*w:=Nat.mul_le_mul_right w hj;rw[List.length_drop,List.length_take,Nat.min_eq_left (by omega),Nat.add_mul];omega
structure Ve (s:List Int) (l:List V):Prop where
 fine:nI s
 len:(l.length:Int)=dD s
theorem Ve.w {a:Int} {s:List Int} {l:List V} (h:Ve (a::s) l):l.length=a.toNat*(l.length/a.toNat)∧((l.length/a.toNat:Nat):Int)=dD s∧1<=a∧a<=12:=by
 have ha:=h.fine.sz a (List.mem_cons_self ..);have hl:=h.len;have hp:=qp h.fine.sz.tail;simp only[dD] at hl;have e:l.length=a.toNat*(dD s).toNat:=by
  have:((a.toNat*(dD s).toNat:Nat):Int)=a*dD s:=by
   rw[Int.natCast_mul,Int.toNat_of_nonneg (by omega),Int.toNat_of_nonneg (by omega)]
  omega
 have e2:l.length/a.toNat=(dD s).toNat:=by rw[e,Nat.mul_div_cancel_left _ (by omega)]
 rw[e2];exact⟨e,by omega,ha⟩
theorem Ve.cO {a:Int} {s:List Int} {l:List V} (h:Ve (a::s) l) {j:Nat} (hj:j<a.toNat):Ve s (cO l (l.length/a.toNat) j):=by
 obtain⟨h1,h2,h3⟩:=h.w;refine⟨⟨?_,h.fine.sz.tail,?_⟩,?_⟩
 ·have:=h.fine.len;simp at this;omega
 ·have:=h.fine.many;have hp:=qp h.fine.sz.tail;simp only[dD] at this;have:1*dD s<=a*dD s:=Int.mul_le_mul_of_nonneg_right h3.1 (by omega);omega
 rw[Q7 h1 hj];exact h2
open Go Tw Pv fZ
theorem a0F {j:Nat} (h:j<=aO):IntKind.i64.wrap ((j:Int)+1)=((j+1:Nat):Int):=XU h
theorem Yc {j w:Nat} (hj:j<=20) (hw:w<=5000):IntKind.i64.wrap ((j:Int)*(w:Int))=((j*w:Nat):Int):=by
 have:j*w<=20*5000:=Nat.mul_le_mul hj hw;rw[<-Int.natCast_mul,CX (by omega) (by omega)]
theorem m20 {j:Nat} (h:j<=20):j<=aO:=by unfold aO;omega
structure Prt (l:List V) (w n:Nat):Prop where
 n12:n<=12
 w2:w<=5000
 len:l.length=n*w
section
variable {l:List V} {w n j:Nat} (h:Prt l w n)
include h
theorem Prt.b1 (hj:j<=20):0<=IntKind.i64.wrap ((j:Int)*(w:Int)):=by rw[Yc hj h.w2];omega
theorem Prt.b2 (hj:j<20):IntKind.i64.wrap ((j:Int)*(w:Int))<=IntKind.i64.wrap (IntKind.i64.wrap ((j:Int)+1)*(w:Int)):=by
 rw[a0F (m20 (by omega)),Yc (by omega) h.w2,Yc (by omega) h.w2,Nat.add_mul];omega
theorem Prt.b3 (hj:j<n):IntKind.i64.wrap (IntKind.i64.wrap ((j:Int)+1)*(w:Int))<=(l.length:Int):=by
 have:=h.n12;rw[a0F (m20 (by omega)),Yc (by omega) h.w2,h.len];have:(j+1)*w<=n*w:=Nat.mul_le_mul_right w hj;omega
theorem Prt.mo (hj:j<n):(cO l w j).length<=aO:=by rw[Q7 h.len hj];have:=h.w2;unfold aO;omega
end
open Go Tw Pv fZ
structure wS (s:List Int) (ts:List (List Rw)):Prop where
 fine:nI s
 laid:∀ t∈ts,Laid s t
 inn:∀ t∈ts,∀ r∈t,inN r.cell.n
 len:1<=ts.length∧ts.length<=3
open Go Tw Pv fZ
abbrev iG (d:Dg) (r:Int):Br:=d.nodes.getD r.toNat SB
abbrev a0G (d:Dg) (r:Int) (k:Nat):Bool:=d.order.getD k 0==(iG d r).var
def O4 (d:Dg) (r:Int):Int:=if decide (r<0)=true then (d.order.length:Int) else if G5 (pz (a0G d r) d.order.length)=true then (d.order.length:Int) else ((a2l 0 (pz (a0G d r) d.order.length):Nat):Int)
noncomputable def a6a:iO bM:=dL 164 (a2 dA iA) iA (fun p=>O4 p.1 p.2) (fun p=>[p.1.order.length<=aO,0<=p.2->CB p.2 p.1.nodes.length]) a5W
def yV (d:Dg) (r below:Int):Bool:=if decide (r>=0)=true then decide (r<below) else yU (IntKind.i64.wrap (-1-r)) 0 (IntKind.i64.wrap ((d.ends.length:Int)-1))
noncomputable def a6b:iO bM:=dL 163 (a3 dA iA iA) tA (fun p=>yV p.1 p.2.1 p.2.2) np a6a
abbrev a6c (b:Br) (k:Nat):Bool:=b.kids.getD k 0 != b.kids.getD 0 0
def Vf (b:Br):Bool:=if G5 (a5M (a6c b) 1 (max 1 b.kids.length))=true then true else false
noncomputable def a6d:iO bM:=dL 127 (a1 brA) tA (fun p=>Vf p) (fun p=>[p.kids.length<=aO]) a6b
noncomputable def a6e:iO bM:=dL 226 (a2 qw iA) tA (fun p=>decide (p.2∈p.1)) (fun p=>[p.1.length<=aO]) a6d
abbrev aak (l:List Int) (k:Nat):Bool:=l.getD k 0 != (k:Int)
abbrev aal (l:List Int) (m i:Int) (x:List (Nat×PE bM)):aV bM:=⟨[(0,xL 3 l),(1,xi m),(5,xi i)]++x,[],[]⟩
def z182 (l:List Int) (m:Int):Unit⊕Nat->Ex×aV bM
 | .inl _=>(.exit 0,aal l m l.length [(9,xl false)])
 | .inr _=>(.ret,⟨[(4,xl false)],[],[]⟩)
def EP (l:List Int) (m:Int):Bool:=if G5 (pz (aak l) l.length)=true then ((l.length:Int)==m) else false
noncomputable def a6f:iO bM:=dL 182 (a2 qw iA) tA (fun p=>EP p.1 p.2) (fun p=>[p.1.length<=aO]) a6e
abbrev cLk (d:Dg) (i k:Nat):Bool:=if (!(yV d ((d.nodes.getD i SB).kids.getD k 0) i))=true then true else decide (O4 d ((d.nodes.getD i SB).kids.getD k 0)<=O4 d i)
abbrev CY (d:Dg) (i:Nat):Br:=d.nodes.getD i SB
structure DgL (d:Dg):Prop where
 order:d.order.length<=aO
 nodes:d.nodes.length<=aO
 ends:d.ends.length<=aO
 fine:nI d.sizes
abbrev cLn (d:Dg) (i:Nat):Bool:=if (!(yU (CY d i).var 0 (xw d.sizes)))=true then true else if (((CY d i).kids.length:Int) != d.sizes.getD (CY d i).var.toNat 0)=true then true else if G5 (pz (cLk d i) (CY d i).kids.length)=true then false else true
theorem Vg {d:Dg} (h:nI d.sizes) {v:Int} (e:yU v 0 (xw d.sizes)=true):CB v d.sizes.length:=by
 rw[Ja,a5U h.a9U] at e;exact⟨e.1,by omega⟩
theorem Vh {d:Dg} (h:nI d.sizes) {v:Int} (e:CB v d.sizes.length) {l:List Int} (hl:(((l.length:Int)) != d.sizes.getD v.toNat 0)=false):l.length<=12:=by
 have:=h.sz _ (KP (s:=d.sizes) (k:=v.toNat) (by have:=e.2;have:=e.1;omega));have hl:(l.length:Int)=d.sizes.getD v.toNat 0:=by simpa using hl
 omega
abbrev cLe (d:Dg) (k:Nat):Bool:=!(vOk (d.ends.getD k V0))
def vM (d:Dg):Bool:=if G5 (pz (cLe d) d.ends.length)=true then (if G5 (pz (cLn d) d.nodes.length)=true then yV d d.root d.nodes.length else false) else false
noncomputable def a6g:iO bM:=dL 128 (a1 dA) tA (fun p=>vM p) (fun p=>[DgL p]) a6f
def iE (d:Dg):Int:=if (jy d.sizes d.order != 0)=true then jy d.sizes d.order else if decide ((d.nodes.length:Int)>6000)=true then 5 else if (!(vM d))=true then 4 else 0
theorem a2s {k:Nat} (h:decide ((k:Int)>6000)=false):k<=aO:=by simp at h;unfold aO;omega
theorem O5 {s o:List Int} (h:(jy s o != 0)=false):nI s:=(O1.1 (by simpa using h)).1
noncomputable def aao:iO bM:=dL 84 (a1 dA) iA (fun p=>iE p) (fun p=>[p.order.length<=aO,p.ends.length<=aO]) a6g
open Go Tw Pv fZ
abbrev BO (r:Int):Int:=IntKind.i64.wrap (-1-r)
def Yd (d:Dg):Nat->Int->List Int×List Int->List Int×List Int
 | 0,_,x=>x
 | F+1,r,x=>if decide (r<0)=true then (if (!(decide (BO r∈x.2)))=true then (x.1,x.2++[BO r]) else x) else if decide (r∈x.1)=true then x
  else ((uo (fun k y=>Yd d F ((iG d r).kids.getD k 0) y) (iG d r).kids.length 0 x).1++[r],(uo (fun k y=>Yd d F ((iG d r).kids.getD k 0) y) (iG d r).kids.length 0 x).2)
def ES (d:Dg) (r:Int) (b:Nat):Prop:=r<b∧(r<0->CB (BO r) d.ends.length)
structure SC (d:Dg):Prop extends DgL d where
 kid:∀ i,i<d.nodes.length->∀ k,k<(CY d i).kids.length->ES d ((CY d i).kids.getD k 0) i
 aap:∀ i,i<d.nodes.length->(CY d i).kids.length<=12
 var:∀ i,i<d.nodes.length->CB (CY d i).var d.sizes.length
 ksz:∀ i,i<d.nodes.length->((CY d i).kids.length:Int)=d.sizes.getD (CY d i).var.toNat 0
 root:ES d d.root d.nodes.length
structure a6h (d:Dg) (x:List Int×List Int):Prop where
 n1:x.1.Nodup
 n2:∀ a∈x.1,CB a d.nodes.length
 e1:x.2.Nodup
 e2:∀ a∈x.2,CB a d.ends.length
theorem vN:∀ (N:Nat) (l:List Int),l.Nodup->(∀ a∈l,CB a N)->l.length<=N
 | 0,[],_,_=>Nat.le_refl _
 | 0,a::l,_,h=>by obtain⟨h1,h2⟩:=h a (List.mem_cons_self ..);omega
 | N+1,l,hn,h=>by
  have h1:=vN N (l.erase (N:Int)) (hn.erase _) fun a ha=>by
   have h2:=(List.Nodup.mem_erase_iff hn).1 ha;have h3:=h a h2.2;exact⟨h3.1,by have:=h3.2;have:=h2.1;omega⟩
  by_cases hm:(N:Int)∈l
  ·rw[List.length_erase_of_mem hm] at h1;omega
  rw[List.erase_of_not_mem hm] at h1;omega
theorem a6h.len {d:Dg} {x:List Int×List Int} (h:a6h d x):x.1.length<=d.nodes.length∧x.2.length<=d.ends.length:=⟨vN _ _ h.n1 h.n2,vN _ _ h.e1 h.e2⟩
abbrev ls (l:List Int):PB bM:=.list false false 3 l
noncomputable def nlA:Arg Unit where
 put _:=.nil .slc
 get v:=match v with
  | .nil .slc=>some ()
  | _=>none
 ok:=by
  intro v a hg A m h x hv;split at hg
  ·exact hv
  ·cases hg
def srN (d:Dg) (r:Int):List Int:=(Yd d 6002 r ([],[])).1
def srE (d:Dg) (r:Int):List Int:=(Yd d 6002 r ([],[])).2
noncomputable def a6i:iO bM:=dL 181 (a4 dA iA nlA nlA) (V3 (a2 qw qw)) (fun p=>(srN p.1 p.2.1,srE p.1 p.2.1)) (fun p=>[SC p.1,ES p.1 p.2.1 p.1.nodes.length,p.1.nodes.length<=6000]) aao
open Go Tw Pv fZ
abbrev cD1 (d:Dg) (i j:Nat):Bool:=decide (d.ends.getD j V0=d.ends.getD i V0)
abbrev cD0 (d:Dg) (i:Nat):Bool:=if G5 (pz (cD1 d i) i)=true then false else true
abbrev cD3 (d:Dg) (i j:Nat):Bool:=if ((CY d j).var==(CY d i).var)=true then decide ((CY d j).kids=(CY d i).kids) else false
abbrev cD2 (d:Dg) (i:Nat):Bool:=if Vf (CY d i)=true then true else if G5 (pz (cD3 d i) i)=true then false else true
def KU (d:Dg):Bool:=if G5 (pz (cD0 d) d.ends.length)=true then (if G5 (pz (cD2 d) d.nodes.length)=true then (if EP (srN d d.root) (d.nodes.length:Int)=true then EP (srE d d.root) (d.ends.length:Int) else false) else false) else false
noncomputable def a6j:iO bM:=dL 137 (a1 dA) tA (fun p=>KU p) (fun p=>[SC p,p.nodes.length<=6000]) a6i
theorem KW {d:Dg} (hm:d.ends.length<=aO) {r:Int} {b:Nat} (h:yV d r b=true):ES d r b:=by
 unfold yV at h;by_cases c:0<=r
 ·rw[if_pos (by simpa using c)] at h;exact⟨by simpa using h,fun h2=>by omega⟩
 rw[if_neg (by simpa using c),Ja] at h;have e:IntKind.i64.wrap ((d.ends.length:Int)-1)=(d.ends.length:Int)-1:=by unfold aO at hm;exact CX (by omega) (by omega)
 rw[e] at h;obtain⟨h1,h2⟩:=h;exact⟨by omega,fun _=>⟨h1,show BO r<_ by show IntKind.i64.wrap (-1-r)<_;omega⟩⟩
theorem Vj {d:Dg} (h:DgL d) (hl:vM d=true):SC d:=by
 unfold vM at hl;split at hl
 rotate_left
 ·cases hl
 split at hl
 rotate_left
 ·cases hl
 rename_i h1 h2;have h2:=J8.1 h2;have key:∀ i,i<d.nodes.length->yU (CY d i).var 0 (xw d.sizes)=true∧(((CY d i).kids.length:Int) != d.sizes.getD (CY d i).var.toNat 0)=false∧G5 (pz (cLk d i) (CY d i).kids.length)=true:=fun i hi=>by
  have:=h2 i hi;unfold cLn at this;split at this
  ·cases this
  split at this
  ·cases this
  split at this
  ·rename_i a b c;exact⟨by simpa using a,by simpa using b,c⟩
  cases this
 refine⟨h,fun i hi k hk=>?_,fun i hi=>?_,fun i hi=>?_,fun i hi=>?_,KW h.ends hl⟩
 ·have:=J8.1 (key i hi).2.2 k hk;unfold cLk at this;split at this
  ·cases this
  rename_i a;exact KW h.ends (by simpa using a)
 ·exact Vh h.fine (Vg h.fine (key i hi).1) (key i hi).2.1
 ·exact Vg h.fine (key i hi).1
 simpa using (key i hi).2.1
theorem wI {d:Dg} (ho:d.order.length<=aO) (he:d.ends.length<=aO) (h:(iE d != 0)=false):SC d∧d.nodes.length<=6000:=by
 unfold iE at h;split at h
 ·rename_i h1;simp at h h1;exact absurd h h1
 split at h
 ·cases h
 split at h
 ·cases h
 rename_i h1 h2 h3;have h2:decide ((d.nodes.length:Int)>6000)=false:=by simpa using h2
 exact⟨Vj ⟨ho,a2s h2,he,O5 (by simpa using h1)⟩ (by simpa using h3),by simp at h2;omega⟩
def a6k (d:Dg):Int:=if (iE d != 0)=true then iE d else if (!(KU d))=true then 4 else 0
noncomputable def a6l:iO bM:=dL 101 (a1 dA) iA (fun p=>a6k p) (fun p=>[p.order.length<=aO,p.ends.length<=aO]) a6j
open Go Tw Pv fZ
def atF (d:Dg) (p:List Int):Nat->Int->Int
 | 0,r=>r
 | F+1,r=>if r<0 then r else atF d p F ((iG d r).kids.getD (p.getD (iG d r).var.toNat 0).toNat 0)
theorem Vk {d:Dg} (h:SC d) {p:List Int} (hp:Ae d.sizes p=true) {r:Int} (hr:CB r d.nodes.length):CB (iG d r).var p.length∧CB (p.getD (iG d r).var.toNat 0) (iG d r).kids.length∧ES d ((iG d r).kids.getD (p.getD (iG d r).var.toNat 0).toNat 0) r.toNat:=by
 obtain⟨r1,r2⟩:=hr;have hl:r.toNat<d.nodes.length:=by omega
 have hv:=h.var r.toNat hl;have hk:=h.ksz r.toNat hl;obtain⟨v1,v2⟩:=hv;obtain⟨p1,p2⟩:=KO.1 hp;have p3:=p2 (iG d r).var.toNat (by show (CY d r.toNat).var.toNat<_;omega);have k1:CB (p.getD (iG d r).var.toNat 0) (iG d r).kids.length:=⟨p3.1,by show _<((CY d r.toNat).kids.length:Int);rw[hk];exact p3.2⟩;refine⟨⟨v1,by rw[p1];exact v2⟩,k1,h.kid r.toNat hl _ ?_⟩;obtain⟨k2,k3⟩:=k1;show _<(iG d r).kids.length;omega
abbrev atR (d:Dg) (p:List Int):Int:=atF d p 6001 d.root
def a6m (d:Dg) (p:List Int):V:=d.ends.getD (BO (atR d p)).toNat V0
noncomputable def aaq:iO bM:=dL 85 (a2 dA qw) vA (fun p=>a6m p.1 p.2) (fun p=>[SC p.1,p.1.nodes.length<=6000,Ae p.1.sizes p.2=true]) a6l
structure DgU (d:Dg):Prop where
 t:SC d
 nodes:d.nodes.length<=6000
 ok:(iE d != 0)=false
theorem DgU.of {d:Dg} (ho:d.order.length<=aO) (he:d.ends.length<=aO) (h:(iE d != 0)=false):DgU d:=⟨(wI ho he h).1,(wI ho he h).2,h⟩
open Go Tw Pv fZ
abbrev lsI (l:List Int):List (PB bM):=[.list false false 3 l]
noncomputable def a6n:iO bM:=a9S 103 (a1 qw) (fun _=>.own 0) (fun p=>lsI p) (fun p=>[p.length<=aO]) aaq
noncomputable def a6o:iO bM:=dL 106 (a1 iA) qw (fun p=>a0E p.toNat) (fun p=>[0<=p,p<=(aO:Int)]) a6n
noncomputable def a6p:iO bM:=dL 105 (a2 qw qw) tA (fun p=>decide (p.1=p.2)) (fun p=>[p.1.length<=aO]) a6o
noncomputable def a6q:iO bM:=dL 102 (a3 iA iA qw) tA (fun p=>EK p.2.2 p.1 p.2.1) (fun p=>[p.2.2.length<=aO]) a6p
noncomputable def aar:iO bM:=dL 67 (a2 qw qw) iA (fun p=>jy p.1 p.2) (fun p=>[p.1.length<=aO,p.2.length<=2^20]) a6q
open Go Tw Pv fZ
def Hz (v:V):Bool:=if decide (v.f>0)=true then (if decide (v.f<=4)=true then v.n==0 else false) else EK [v.n] (-9999) 9999
noncomputable def a6r:iO bM:=dL 196 (a1 vA) tA (fun p=>Hz p) np aar
noncomputable abbrev frA:NS X0 Tryz.prog (List Int×List Int):=a2 qw qw
abbrev cIx (l:List Int) (v:Int) (k:Nat):Bool:=v==l.getD k 0
def CZ (l:List Int) (v:Int):Int:=if G5 (pz (cIx l v) l.length)=true then -1 else ((a2l 0 (pz (cIx l v) l.length):Nat):Int)
noncomputable def a6s:iO bM:=dL 255 (a2 qw iA) iA (fun p=>CZ p.1 p.2) (fun p=>[p.1.length<=aO]) a6r
noncomputable def a6t:iO bM:=dL 237 (a2 (XT (a2 qw qw)) iA) iA (fun p=>CZ p.1.2 p.2) (fun p=>[p.1.2.length<=aO]) a6s
noncomputable def a6u:iO bM:=dL 204 (a1 iA) iA (fun p=>IntKind.i64.wrap (-1-p)) np a6t
structure Lo where
 s:List Int
 o:List Int
 d:Dg
abbrev Lo.ps (l:Lo):List (PV bM):=[.bK 3 l.s false,.bK 3 l.o false]++l.d.ps
noncomputable def loA:Arg Lo:=a5I (XT (NT qw (NT qw (NT qw (a4 qw vsA Ya iA))))) (fun p=>⟨p.1,p.2.1,⟨p.2.2.1,p.2.2.2.1,p.2.2.2.2.1,p.2.2.2.2.2.1,p.2.2.2.2.2.2⟩⟩) (fun l=>(l.s,l.o,l.d.sizes,l.d.order,l.d.ends,l.d.nodes,l.d.root)) fun _=>rfl
def Jb (l:Lo) (kid below aas:Int):Bool:=if decide (kid<0)=true then decide (IntKind.i64.wrap (-1-kid)<(l.d.ends.length:Int)) else if decide (kid<below)=true then decide (CZ l.o (l.d.nodes.getD kid.toNat SB).var>aas) else false
noncomputable def a6v:iO bM:=dL 199 (a4 loA iA iA iA) tA (fun p=>Jb p.1 p.2.1 p.2.2.1 p.2.2.2) (fun p=>[p.1.o.length<=aO,0<=p.2.1->p.2.1<p.2.2.1->CB p.2.1 p.1.d.nodes.length]) a6u
abbrev Vl (l:Lo) (i:Int):Br:=l.d.nodes.getD i.toNat SB
def a2v (l:Lo) (i:Int):Bool:=if (!(EK [(Vl l i).var] 0 (xw l.s)))=true then false else if (((Vl l i).kids.length:Int) != l.s.getD (Vl l i).var.toNat 0)=true then false else (Vl l i).kids.all fun x=>Jb l x i (CZ l.o (Vl l i).var)
abbrev loD (d:Dg):Lo:=⟨d.sizes,d.order,d⟩
abbrev lo0:Lo:=⟨[],[],⟨[],[],[],[],0⟩⟩
def qx (d:Dg):Lo×Int:=if (jy d.sizes d.order != 0)=true then (lo0,jy d.sizes d.order) else if decide ((d.nodes.length:Int)>6000)=true then (loD d,5) else if (!(d.ends.all Hz))=true then (loD d,4) else if (!((a0E d.nodes.length).all (a2v (loD d))))=true then (loD d,4) else if (!(Jb (loD d) d.root d.nodes.length (-1)))=true then (loD d,4) else (loD d,0)
noncomputable def a6w:iO bM:=dL 142 (a1 dA) (V3 (a2 loA iA)) (fun p=>qx p) (fun p=>[p.sizes.length<=aO,p.order.length<=2^20,p.ends.length<=aO]) a6v
open Go Tw Pv fZ
def W64 (x:Int):Prop:=-(2^63)<=x∧x<2^63
structure DgR (d:Dg):Prop where
 kid:∀ i,i<d.nodes.length->∀ k,k<(CY d i).kids.length->W64 ((CY d i).kids.getD k 0)
 root:W64 d.root
 fault:∀ v∈d.ends,0<=v.f
end Go.Proofs.YtjkgcifieggcpaaGreat
namespace Pv
open Go Tw
structure G7 (X:iQ) (P:Program) (kt:TypeId) (α:Type) [DecidableEq α] where
 pv:α->PV X.Γ
 tv:α->TV
 v:α->Value
 hp:∀ x,tC (pv x)=some (tv x)
 ht:∀ x,(tv x).rU=some (v x)
 hc:∀ em x,au P (Instr.checkKey em 10000 kt (v x))=some ()
 hf:∀ (x:α) (l:List α),au P (Instr.findKey kt (v x) (l.map fun y=>⟨v y,.bool false,0⟩))=some ((l.findIdx? fun y=>decide (x=y)).map fun i=>(i,.bool false))
 hk:∃ kind,au P (underlying kt)=some kind∧((∀ x y,Instr.sameNow kind (v x) (v y)=some (decide (x=y)))∨∀ x y,Instr.sameNow kind (v x) (v y)=none∧au P (Op.equal kt (v x) (v y))=some (decide (x=y)))
variable {X:iQ} {P:Program} {kt:TypeId} {α:Type} [DecidableEq α] (C:G7 X P kt α)
abbrev G7.es (l:List (α×PV X.Γ)):List (PV X.Γ×PV X.Γ):=l.map fun e=>(C.pv e.1,e.2)
theorem G7.Rf:∀ l:List α,Tw.rV (l.map C.tv)=some (l.map C.v)
 | []=>rfl
 | a::l=>by
  show (match (C.tv a).rU,Tw.rV (l.map C.tv) with | some v,some vs=>some (v::vs) | _,_=>none)=_;rw[C.ht,G7.Rf l];rfl
theorem G7.find (x:α) (l:List α) (r:Option Nat) (hr:(l.findIdx? fun y=>decide (x=y))=r) (hs:∀ (i:Nat) y,l[i]? = some y->decide (x=y)=(some i==r)):oz P kt (C.v x) (l.map C.tv)=some r:=by
 unfold oz;rw[C.Rf];simp only[];rw[aY,C.hc,Option.bind_some,List.map_map];show (match au P (Instr.findKey kt (C.v x) (l.map fun y=>⟨C.v y,.bool false,0⟩)) with | some r=>if Jq P kt (C.v x) (l.map C.v) (Option.map (fun (q:Nat×Value)=>q.1) r) then some (Option.map (fun (q:Nat×Value)=>q.1) r) else none | none=>none)=_;rw[C.hf,hr];have e:Option.map (fun (q:Nat×Value)=>q.1) (r.map fun i=>(i,Value.bool false))=r:=by cases r<;>rfl
 simp only[e];rw[if_pos];obtain⟨kind,h1,h2⟩:=C.hk;simp only[Jq,h1,Bool.and_eq_true,Bool.or_eq_true,List.all_eq_true];constructor
 ·cases r with
  | none=>rfl
  | some j=>
   have:=(List.findIdx?_eq_some_iff_getElem.1 hr).1;simpa using this
 have hz:∀ p∈(l.map C.v).zipIdx,∃ y,p.1=C.v y∧decide (x=y)=(some p.2==r):=fun p hp=>by
  have:=List.mem_zipIdx_iff_getElem?.1 hp;rw[List.getElem?_map,Option.map_eq_some_iff] at this;obtain⟨y,hy,e⟩:=this;exact⟨y,e.symm,hs _ _ hy⟩
 rcases h2 with h2 | h2
 ·left;intro p hp;obtain⟨y,e1,e2⟩:=hz p hp;rw[e1,h2,e2];simp
 right;intro p hp;obtain⟨y,e1,e2⟩:=hz p hp;rw[e1,(h2 x y).1,(h2 x y).2,e2];simp
theorem G7.pk:∀ l:List (α×PV X.Γ),oq X (C.es l)=some ((l.map (·.1)).map C.tv)
 | []=>rfl
 | a::l=>by
  show (match tC (C.pv a.1),oq X (C.es l) with | some v,some vs=>some (v::vs) | _,_=>none)=_;rw[C.hp,G7.pk l];rfl
theorem G7.ck (x:α):∃ kv,(C.tv x).rU=some kv∧au P (Instr.checkKey false 10000 kt kv)=some ():=⟨C.v x,C.ht x,C.hc false x⟩
theorem G7.fresh {l:List (α×PV X.Γ)} {x:α} (h:x∉l.map (·.1)):Eo X P kt (C.es l) (C.tv x):=by
 refine⟨C.v x,_,C.ht x,C.pk l,?_⟩;have hno:∀ y∈l.map (·.1),decide (x=y)=false:=fun y hy=>by
  simp only[decide_eq_false_iff_not];intro e;exact h (e▸hy)
 exact C.find x _ none (List.findIdx?_eq_none_iff.2 hno) fun i y hy=>by rw[hno y (List.mem_of_getElem? hy)];rfl
theorem Vm {t:TypeId} {d:TypeDesc} (h:P.underlying t=some d):au P (underlying t)=some d:=by
 simp only[underlying,aY];show Option.bind (some P) _=_;simp[h];rfl
theorem Vo {v:α->Value} (he:∀ x y,au P (Op.equal kt (v x) (v y))=some (decide (x=y))) (x:α):∀ (l:List α) (i:Nat),au P (Instr.findAsking kt (v x) (l.map fun y=>⟨v y,.bool false,0⟩) i)=some ((l.findIdx? fun y=>decide (x=y)).map fun j=>(j+i,.bool false))
 | [],i=>rfl
 | y::l,i=>by
  simp only[List.map_cons,Instr.findAsking];rw[aY,he,Option.bind_some,List.findIdx?_cons];cases decide (x=y) with
  | true=>simp only[if_true,Option.map_some,Nat.zero_add];rfl
  | false=>
   simp only[Bool.false_eq_true,if_false];rw[Vo he x l (i+1)];cases l.findIdx? fun y=>decide (x=y) with
   | none=>rfl
   | some j=>simp;omega
theorem Ye {v:α->Value} {fs:Array Field} (hu:P.underlying kt=some (.struct fs)) (he:∀ x y,au P (Op.equal kt (v x) (v y))=some (decide (x=y))) (x:α) (l:List α):au P (Instr.findKey kt (v x) (l.map fun y=>⟨v y,.bool false,0⟩))=some ((l.findIdx? fun y=>decide (x=y)).map fun i=>(i,.bool false)):=by
 have h:=Vo he x l 0;unfold Instr.findKey;rw[aY,Vm hu,Option.bind_some];cases l with
 | nil=>rfl
 | cons y l=>
  rw[show Instr.findNow (.struct fs) (v x) ((y::l).map fun y=>⟨v y,.bool false,0⟩) 0=none by simp[Instr.findNow,Instr.sameNow]];exact h
theorem Yf {v:α->Value} {fs:Array Field} (hu:P.underlying kt=some (.struct fs)) (he:∀ x y,au P (Op.equal kt (v x) (v y))=some (decide (x=y))) :
  ∃ kind,au P (underlying kt)=some kind∧((∀ x y,Instr.sameNow kind (v x) (v y)=some (decide (x=y)))∨∀ x y,Instr.sameNow kind (v x) (v y)=none∧au P (Op.equal kt (v x) (v y))=some (decide (x=y))):=
 ⟨_,Vm hu,.inr fun x y=>⟨by simp[Instr.sameNow],he x y⟩⟩
end Pv
namespace Go.Proofs.YtjkgcifieggcpaaGreat
open Go Tw Pv fZ
def Vp (E:List V) (v:V):List V:=if v∈E then E else E++[v]
open Go Tw Pv fZ
abbrev Ky:=Int×{l:List Int // l.length=12}
abbrev Ky.l (x:Ky):List Int:=x.1::x.2.val
open Go Tw Pv fZ
def a2x (l:List Int):List Int:=(l++[0,0,0,0,0,0,0,0,0,0,0,0]).take 12
theorem Vq (l:List Int):(a2x l).length=12:=by unfold a2x;simp
def a2y (c:Int) (ks:List Int):Ky:=(c,⟨a2x ks,Vq ks⟩)
abbrev kyB (b:Br):Ky:=a2y b.var b.kids
def Yg (nd:List Br) (c:Int) (ks:List Int):List Br:=if (ks.all fun x=>x==ks.getD 0 0)=true then nd else if a2y c ks∈nd.map kyB then nd else nd++[⟨c,ks⟩]
def Q8 (nd:List Br) (c:Int) (ks:List Int):Int:=if (ks.all fun x=>x==ks.getD 0 0)=true then ks.getD 0 0 else ((nd.map kyB).idxOf (a2y c ks):Nat)
open Go Tw Pv fZ
structure Cs where
 e:List V
 n:List Br
 k:List (Int×Int)
def a2z (d:Dg) (r:Int):V:=d.ends.getD (IntKind.i64.wrap (-1-r)).toNat V0
def knV (k:List (Int×Int)) (r:Int):Int:=((k.find? fun p=>p.1==r).getD (0,0)).2
def Vr (d:Dg):Nat->Int->Cs->Int×Cs
 | 0,_,x=>(0,x)
 | F+1,r,x=>if decide (r<0)=true then (IntKind.i64.wrap (-1-(x.e.idxOf (a2z d r):Nat)),⟨Vp x.e (a2z d r),x.n,x.k⟩) else if decide (r∈x.k.map (·.1))=true then (knV x.k r,x)
  else
   let y:=uo (fun j (y:List Int×Cs)=>(y.1.set j (Vr d F ((iG d r).kids.getD j 0) y.2).1,(Vr d F ((iG d r).kids.getD j 0) y.2).2)) (iG d r).kids.length 0 (List.replicate (iG d r).kids.length 0,x)
   (Q8 y.2.n (iG d r).var y.1,⟨y.2.e,Yg y.2.n (iG d r).var y.1,y.2.k++[(r,Q8 y.2.n (iG d r).var y.1)]⟩)
structure a6x (d:Dg) (x:Cs):Prop where
 e1:x.e.Nodup
 e2:∀ v∈x.e,v∈d.ends
 n1:(x.n.map kyB).Nodup
 n2:x.n.length<=x.k.length
 k1:(x.k.map (·.1)).Nodup
 k2:∀ a∈x.k.map (·.1),CB a d.nodes.length
theorem a6x.aap {d:Dg} {x:Cs} (h:a6x d x):x.k.length<=d.nodes.length:=by
 have:=vN _ _ h.k1 h.k2;simpa using this
open Go Tw Pv fZ
noncomputable def a6y:iO bM:=dL 154 (a2 vsA vsA) tA (fun p=>decide (p.1=p.2)) (fun p=>[p.1.length<=aO]) a6w
def Vt (x y:Br):Bool:=if (x.var==y.var)=true then decide (x.kids=y.kids) else false
noncomputable def a6z:iO bM:=dL 200 (a2 brA brA) tA (fun p=>Vt p.1 p.2) (fun p=>[p.1.kids.length<=aO]) a6y
abbrev cEB (a b:List Br) (k:Nat):Bool:=!(Vt (a.getD k SB) (b.getD k SB))
def Q9 (a b:List Br):Bool:=if ((a.length:Int) != (b.length:Int))=true then false else if G5 (pz (cEB a b) a.length)=true then true else false
noncomputable def a6A:iO bM:=dL 155 (a3 Ya Ya (fnA 200)) tA (fun p=>Q9 p.1 p.2.1) (fun p=>[p.1.length<=aO,∀ k,k<p.1.length->(p.1.getD k SB).kids.length<=aO]) a6z
def a0H (a b:Dg):Bool:=if decide (a.sizes=b.sizes)=true then (if decide (a.order=b.order)=true then (if decide (a.ends=b.ends)=true then (if Q9 a.nodes b.nodes=true then a.root==b.root else false) else false) else false) else false
noncomputable def a6B:iO bM:=dL 143 (a2 dA dA) tA (fun p=>a0H p.1 p.2) (fun p=>[p.1.sizes.length<=aO,p.1.order.length<=aO,p.1.ends.length<=aO,p.1.nodes.length<=aO,∀ k,k<p.1.nodes.length->(p.1.nodes.getD k SB).kids.length<=aO]) a6A
open Go Tw Pv fZ
def phi (s:List Int×List Int) (x:Int):Int:=if x<0 then IntKind.i64.wrap (-1-(s.2.idxOf (BO x):Nat)) else (s.1.idxOf x:Nat)
def Cov (s:List Int×List Int) (x:Int):Prop:=(x<0->BO x∈s.2)∧(0<=x->x∈s.1)
open Go Tw Pv fZ
def Ext (s t:List Int×List Int):Prop:=∃ a b,t=(s.1++a,s.2++b)
theorem Ext.refl (s:List Int×List Int):Ext s s:=⟨[],[],by simp⟩
theorem Ext.trans {s t u:List Int×List Int} (h:Ext s t) (h2:Ext t u):Ext s u:=by
 obtain⟨a,b,rfl⟩:=h;obtain⟨c,e,rfl⟩:=h2;exact⟨a++c,b++e,by simp⟩
theorem Cov.ext {s t:List Int×List Int} {x:Int} (h:Cov s x) (he:Ext s t):Cov t x:=by
 obtain⟨a,b,rfl⟩:=he;exact⟨fun c=>List.mem_append_left _ (h.1 c),fun c=>List.mem_append_left _ (h.2 c)⟩
open Go Tw Pv fZ
abbrev cl0:Cs:=⟨[],[],[]⟩
def Qa (d:Dg):Dg:=⟨d.sizes,d.order,(Vr d 6002 d.root cl0).2.e,(Vr d 6002 d.root cl0).2.n,(Vr d 6002 d.root cl0).1⟩
open Go Tw Pv fZ
structure ClP (l:Lo):Prop where
 s:l.s=l.d.sizes
 o:l.o=l.d.order
 t:SC l.d
 e:l.d.ends.length+1<=aO
 n:l.d.nodes.length<=6000
 k:∀ i,i<l.d.nodes.length->1<=(CY l.d i).kids.length
 sl:l.d.sizes.length<=aO
 ol:l.d.order.length<=aO
noncomputable def a6C:iO bM:=dL 144 (a1 loA) dA (fun l=>Qa l.d) (fun l=>[ClP l]) a6B
open Go Tw Pv fZ
def oH (d:Dg):Lo×Int:=if (qx d).2==0 then (if (!(a0H (Qa (qx d).1.d) d))=true then ((qx d).1,4) else qx d) else qx d
noncomputable def a6D:iO bM:=dL 107 (a1 dA) (V3 (a2 loA iA)) (fun p=>oH p) (fun p=>[DgR p,p.sizes.length<=aO,p.order.length<=2^20,p.ends.length+1<=aO]) a6C
end Go.Proofs.YtjkgcifieggcpaaGreat
namespace fZ
def HY:List Int->List Int->List Int->Option (List Int)
 | f::fs,t::ts,x::p=>match HY fs ts p with
  | some q=>some (x::q)
  | none=>if x=t then none else some ((x+1)::fs)
 | _,_,_=>none
def LeB:List Int->List Int->Prop
 | t::ts,x::p=>x<=t∧LeB ts p
 | [],[]=>True
 | _,_=>False
theorem LeB.len:∀ {t p:List Int},LeB t p->p.length=t.length
 | [],[],_=>rfl
 | t::ts,x::p,h=>by simp[LeB.len h.2]
 | [],_::_,h=>h.elim
 | _::_,[],h=>h.elim
theorem LeB.next:∀ {f t p q:List Int},LeB t p->LeB t f->HY f t p=some q->LeB t q
 | f::fs,t::ts,x::p,q,h,hf,e=>by
  simp only[HY] at e;split at e
  ·rename_i r h1;cases e;exact⟨h.1,h.2.next hf.2 h1⟩
  split at e
  ·cases e
  cases e;exact⟨by have:=h.1;omega,hf.2⟩
 | [],_,_,_,_,_,e=>by simp[HY] at e
 | _::_,[],_,_,_,_,e=>by simp[HY] at e
 | _::_,_::_,[],_,_,_,e=>by simp[HY] at e
def car (f t:List Int):Nat->List Int->Nat×List Int
 | 0,p=>(0,p)
 | k+1,p=>if p.getD k 0=t.getD k 0 then car f t k (p.set k (f.getD k 0)) else (k+1,p)
end fZ
namespace Go.Proofs.YtjkgcifieggcpaaGreat
open Go Tw Pv fZ
noncomputable def a6E:iO bM:=dL 241 (a1 iA) (V3 a9R) (fun p=>()) np a6D
noncomputable def a6F:iO bM:=dL 240 (a3 loA qw (fnA 241)) iA (fun p=>BO (atR p.1.d p.2.1)) (fun p=>[SC p.1.d,p.1.d.nodes.length<=6000,Ae p.1.d.sizes p.2.1=true]) a6E
abbrev zsI (s:List Int):List Int:=s.map fun _=>(0:Int)
abbrev esI (s:List Int):List Int:=s.map (·-1)
abbrev cr (s p:List Int):Nat×List Int:=car (zsI s) (esI s) p.length p
def cellsD (d:Dg):List V:=(List.range (cnt d.sizes)).map fun (k:Nat)=>a6m d (a2o d.sizes k)
structure LsP (l:Lo):Prop where
 s:l.s=l.d.sizes
 o:l.o=l.d.order
 t:SC l.d
 n:l.d.nodes.length<=6000
noncomputable def a6G:iO bM:=dL 206 (a1 loA) vsA (fun l=>cellsD l.d) (fun l=>[LsP l]) a6F
def Yh (p:Dg):List V×Int:=if ((oH p).2 != 0)=true then ([],(oH p).2) else (cellsD (oH p).1.d,0)
noncomputable def a6H:iO bM:=dL 146 (a1 dA) (V3 (a2 vsA iA)) (fun p=>Yh p) (fun p=>[DgR p,p.sizes.length<=aO,p.order.length<=2^20,p.ends.length+1<=aO]) a6G
open Go Tw Pv fZ
def aaw (N:List Br) (c:Int) (ks:List Int):Int:=if (ks.all fun x=>x==ks.getD 0 0)=true then ks.getD 0 0 else (N.idxOf (⟨c,ks⟩:Br):Nat)
def aax (N:List Br) (c:Int) (ks:List Int):List Br:=if (ks.all fun x=>x==ks.getD 0 0)=true then N else if (⟨c,ks⟩:Br)∈N then N else N++[⟨c,ks⟩]
abbrev EN:Type:=List V×List Br
def gPt (f:List Int->EN->Int×EN) (c:Int) (p:List Int) (j:Nat) (y:List Int×EN):List Int×EN:=(y.1++[(f (p.set c.toNat j) y.2).1],(f (p.set c.toNat j) y.2).2)
def Yi (s:List Int) (l:List V):List Int->List Int->EN->Int×EN
 | [],p,x=>(IntKind.i64.wrap (-1-(x.1.idxOf (l.getD (XW s p).toNat V0):Nat)),(Vp x.1 (l.getD (XW s p).toNat V0),x.2))
 | c::r,p,x=>
  let y:=uo (gPt (Yi s l r) c p) (s.getD c.toNat 0).toNat 0 ([],x)
  (aaw y.2.2 c y.1,(y.2.1,aax y.2.2 c y.1))
def wO (s:List Int):List Int->Nat
 | []=>1
 | c::r=>(s.getD c.toNat 0).toNat*wO s r
structure PtP (s o:List Int) (l:List V):Prop where
 fine:nI s
 ord:∀ c∈o,CB c s.length
 len:(l.length:Int)=dD s
 afa:o.length<=aO
 slen:s.length<=aO
end Go.Proofs.YtjkgcifieggcpaaGreat
namespace Pv
open Go Tw
section
variable {X:iQ} {P:Program}
theorem qC.pre (hX:aX X P) {call:ay} {f:FuncId} {cs Jm xs:List (PV X.Γ)} {H H0 H1:List (PB X.Γ)} {v:PV X.Γ} (gs:List G) (hs:qC X P call (.fn f [] []) (.agg Jm::xs) H0 v H1) (hg:jX H.length gs (⟨[],[cs],H⟩:aV X.Γ)=some ⟨[],[Jm],H0⟩):qC X P call (.fn f [] []) (.agg cs::xs) H v H1:=by
 intro A m h tf nH hr hf hx;obtain⟨x0,r,rfl,v0,vr⟩:=hx.inv;cases v0 with
 | gone hi _ _=>simp[aG] at hi
 | agg a1 a2=>
  rename_i cs';obtain⟨m2,q1,q2,q3⟩:=jd hX hg A (fun b=>b∈aJ m) h.length m ⟨[],[cs'],h,[]⟩ ⟨⟨hr,rfl,fun k c hk=>by
   cases k with
   | zero=>simp only[List.getElem?_cons_zero,Option.some.injEq] at hk;subst hk;exact⟨cs',rfl,a1,a2⟩
   | succ k=>simp at hk,.nil⟩,fun b hb=>.inl hb,fun b hb=>(by cases hb),Nat.le_refl _⟩
  have up:Up m m2:=fun i mb hi=>q3 i mb (by rw[<-hr.len];exact (List.getElem?_eq_some_iff.1 hi).1) hi;obtain⟨c2,e1,w1⟩:=q1.st.loc 0 Jm rfl;simp only[List.getElem?_cons_zero,Option.some.injEq] at e1;subst e1;obtain⟨w,h',ws,m1,k1,k2,k3,k4,k5,k6⟩:=hs A m2 h tf (.agg cs'::r) q1.st.heap (hf.step q2 up) (.cons (.agg w1.1 w1.2) (vr.step q2 up));refine⟨w,h',ws,m1,k1,k2,k3,q2.trans k4,fun i mb hi=>?_,fun b hb=>?_⟩
  ·rcases up i mb hi with g | g
   ·exact k5 i mb g
   rcases k5 i _ g with g | g<;>exact .inr g
  have hb:=k6 b hb;rcases q1.own b hb with g | g
  ·exact g
  have:=q1.st.heap.inb hb;have:b<h.length:=this;omega
end
section
variable {X:iQ} {P:Program}
theorem I4 {A:Nat->Prop} {m:List MB} {h:List HB}:∀ {a b:List (PV X.Γ)} {z:List TV},aH X P A m h (a++b) z->∃ x y,z=x++y∧aH X P A m h a x∧aH X P A m h b y
 | [],b,z,hz=>⟨[],z,rfl,.nil,hz⟩
 | v::a,b,z,hz=>by
  obtain⟨x0,r,rfl,v0,vr⟩:=aH.inv (v:=v) (vs:=a++b) hz;obtain⟨x,y,rfl,h1,h2⟩:=I4 vr;exact⟨x0::x,y,rfl,.cons v0 h1,h2⟩
theorem qC.fz (hX:aX X P) {call:ay} {f:FuncId} {cs ws rest xs:List (PV X.Γ)} {H H1:List (PB X.Γ)} {v:PV X.Γ} (is:List Nat) (hs:qC X P call (.fn f [] []) (.agg (ws++rest)::xs) (aK is H) v H1) (hv:views H cs=some ws) (ho:∀ i,i∈qV.mZ cs->i∈is):qC X P call (.fn f [] []) (.agg (cs++rest)::xs) H v H1:=by
 intro A m h tf nH hr hf hx;obtain⟨x0,r,rfl,v0,vr⟩:=hx.inv;cases v0 with
 | gone hi _ _=>simp[aG] at hi
 | agg a1 a2=>
  rename_i cs';have ha:aH X P (AA A m) m h (cs++rest) cs':=⟨a1,a2⟩;obtain⟨c1,c2,rfl,b1,b2⟩:=I4 ha;have hF:=gU (h:=h) is m;have w1:=(ku (m':=aS is m) hX hr b1 hv ho).mono fun b hb=>FA.gone hr hb;have w2:=b2.step hF.1 hF.2;have w3:=w1.app w2;obtain⟨w,h',FD,m1,k1,k2,k3,k4,k5,k6⟩:=hs A (aS is m) h tf (.agg (c1++c2)::r) (hr.aK is) (hf.step hF.1 hF.2) (.cons (.agg w3.1 w3.2) (vr.step hF.1 hF.2));refine⟨w,h',FD,m1,k1,k2,k3,hF.1.trans k4,hF.2.trans k5,fun b hb=>?_⟩;rcases hF.1.new b (k6 b hb) with g | g
  ·exact g
  have:=(hr.aK is).inb (k6 b hb);omega
end
section
variable {X:iQ} {P:Program} {A:Nat->Prop} {m:List MB} {H:List (PB X.Γ)} {h:List HB}
theorem HR.fz (hX:aX X P) (hr:HR X P A m H h) {i k t:Nat} {ko ex:Bool} {l:List (X.Γ t)} (hi:H[i]? = some (.fF [.own k])) (hk:H[k]? = some (.list ko ex t l)):HR X P A (aS [k] m) ((H.set i (.fF [.bK t l false])).set k .gone) h:=by
 have hg:=hr.aK [k];have dZ:i≠k:=fun e=>by subst e;rw[hi] at hk;cases hk
 refine⟨by rw[fU,hr.len];simp,fun j b hj=>?_,hg.nodup,hg.up,hg.yH⟩;by_cases e:j=i
 ·subst e;obtain⟨mb,h1,h2⟩:=hr.at_ j _ hi;have aN:j<H.length:=(List.getElem?_eq_some_iff.1 hi).1;rw[List.getElem?_set_ne (Ne.symm dZ),List.getElem?_set_self aN] at hj;cases hj;refine⟨mb,?_,?_⟩
  ·rw[tY [k] h1];simp[dZ]
  cases mb with
  | cZ b0=>
   obtain⟨g1,cs',g2,g3⟩:=h2;refine⟨fun hm=>?_,cs',g2,?_⟩
   ·obtain⟨i2,mb2,_,g5,g6⟩:=rE hm;exact g1 (aC g5 g6)
   have hv:views H [(.own k:PV X.Γ)]=some [.bK t l false]:=(by simp[view.views,view,hk]);exact (ku (m':=aS [k] m) hX hr g3 hv (is:=[k]) (fun i hi=>by simpa[qV.mZ,qV] using hi)).mono fun b hb=>FA.gone hr hb
  | _=>exact h2.elim
 have:(Pv.aK [k] H)[j]? = some b:=by
  show (H.set k .gone)[j]? = some b;by_cases e2:j=k
  ·subst e2;have aN:j<H.length:=(List.getElem?_eq_some_iff.1 hk).1;rw[List.getElem?_set_self (by simpa using aN)] at hj;rw[List.getElem?_set_self aN];exact hj
  rw[List.getElem?_set_ne (Ne.symm e2),List.getElem?_set_ne (Ne.symm e)] at hj;rw[List.getElem?_set_ne (Ne.symm e2)];exact hj
 exact hg.at_ j b this
end
end Pv

namespace Go.Proofs.YtjkgcifieggcpaaGreat
open Go Tw Pv fZ
def aay (s o:List Int) (l:List V):Dg:=⟨s,o,(Yi s l o (List.replicate s.length 0) ([],[])).2.1,(Yi s l o (List.replicate s.length 0) ([],[])).2.2,(Yi s l o (List.replicate s.length 0) ([],[])).1⟩
noncomputable def aaz:iO bM:=dL 42 (a3 qw qw vsA) dA (fun p=>aay p.1 p.2.1 p.2.2) (fun p=>[PtP p.1 p.2.1 p.2.2,p.2.1.length<=6,wO p.1 p.2.1<=aO]) a6H
open Go Tw Pv fZ
inductive To (d:Dg) (q:List Int):Int->V->Prop
 | fin {r:Int} (h:r<0):To d q r (d.ends.getD (BO r).toNat V0)
 | step {r:Int} {c:V} (h:0<=r) (t:To d q ((iG d r).kids.getD (q.getD (iG d r).var.toNat 0).toNat 0) c):To d q r c
theorem To.at_ {d:Dg} (h:SC d) {q:List Int} (hq:Ae d.sizes q=true) {r:Int} {c:V} (t:To d q r c):∀ F:Nat,r<F->ES d r d.nodes.length->c=d.ends.getD (BO (atF d q F r)).toNat V0:=by
 induction t with
 | fin hr=>
  intro F _ _;cases F with
  | zero=>rfl
  | succ F=>rw[atF,if_pos hr]
 | step hr _ ih=>
  intro F hF hk;cases F with
  | zero=>omega
  | succ F=>
   rw[atF,if_neg (by omega)];have:=(Vk h hq ⟨hr,hk.1⟩).2.2;exact ih F (by have:=this.1;omega) ⟨by have:=this.1;have:=hk.1;omega,this.2⟩
theorem To.of {d:Dg} (h:SC d) {q:List Int} (hq:Ae d.sizes q=true):∀ (F:Nat) (r:Int),r<F->ES d r d.nodes.length->To d q r (d.ends.getD (BO (atF d q F r)).toNat V0)
 | 0,r,hr,_=>.fin (by omega)
 | F+1,r,hr,hk=>by
  rw[atF];split
  ·rename_i c;exact .fin c
  rename_i c;have:=(Vk h hq ⟨by omega,hk.1⟩).2.2;exact .step (by omega) (To.of h hq F _ (by have:=this.1;omega) ⟨by have:=this.1;have:=hk.1;omega,this.2⟩)
def Pre (x y:EN):Prop:=x.1 <+: y.1∧x.2 <+: y.2
theorem Pre.rfl {x:EN}:Pre x x:=⟨List.prefix_rfl,List.prefix_rfl⟩
theorem Pre.trans {x y z:EN} (a:Pre x y) (b:Pre y z):Pre x z:=⟨a.1.trans b.1,a.2.trans b.2⟩
theorem Vu {α:Type} {a b:List α} {d:α} (h:a <+: b) {k:Nat} (hk:k<a.length):b.getD k d=a.getD k d:=by
 obtain⟨t,rfl⟩:=h;simp[List.getD,List.getElem?_append_left hk]
def Agr (s r q p:List Int):Prop:=∀ k:Nat,k<s.length->(k:Int)∉r->q.getD k 0=p.getD k 0
theorem Agr.set {s r q p:List Int} {c:Int} (hc:CB c s.length) (hp:p.length=s.length) (h:Agr s (c::r) q p):Agr s r q (p.set c.toNat (q.getD c.toNat 0)):=fun k hk hr=>by
 by_cases e:k=c.toNat
 ·subst e;have e2:(p.set c.toNat (q.getD c.toNat 0)).getD c.toNat 0=q.getD c.toNat 0:=by
   simp[List.getD,List.getElem?_set_self (show c.toNat<p.length by omega)]
  exact e2.symm
 ·rw[show (p.set c.toNat (q.getD c.toNat 0)).getD k 0=p.getD k 0 by rw[List.getD,List.getElem?_set_ne (Ne.symm e)];rfl];exact h k hk (by simp only[List.mem_cons,not_or];exact⟨fun e2=>e (by omega),hr⟩)
theorem Agr.back {s r q p:List Int} {c j:Int} (hc:CB c s.length) (h:Agr s r q (p.set c.toNat j)):Agr s (c::r) q p:=fun k hk hr=>by
 simp only[List.mem_cons,not_or] at hr;have hc:=hc.1;have e:k≠c.toNat:=fun e=>hr.1 (by omega);have:=h k hk hr.2;rw[this,List.getD,List.getElem?_set_ne (Ne.symm e)];rfl
open Go Tw Pv fZ
def rkN (o:List Int) (N:List Br) (r:Int):Nat:=if r<0 then o.length else o.idxOf (N.getD r.toNat SB).var
def a2B (o:List Int) (x:EN) (v:Int) (b a:Nat):Prop:=(v<0->CB (BO v) x.1.length)∧v<(b:Int)∧a<=rkN o x.2 v
theorem a2B.mono {o:List Int} {x y:EN} {v:Int} {b b' a a':Nat} (h:a2B o x v b a) (hp:Pre x y) (hb:b<=b') (hx:b<=x.2.length) (ha:a'<=a):a2B o y v b' a':=by
 obtain⟨h1,h2,h3⟩:=h;refine⟨fun hv=>⟨(h1 hv).1,by have:=(h1 hv).2;have:=hp.1.length_le;omega⟩,by omega,?_⟩;unfold rkN at h3 ⊢;split
 ·rename_i c;rw[if_pos c] at h3;omega
 rename_i c;rw[if_neg c] at h3;rw[Vu hp.2 (by omega)];omega
open Go Tw Pv fZ
structure OfP (s o:List Int) (l:List V):Prop where
 fine:nI s
 ord:EM s.length o=true
 len:(l.length:Int)=dD s
theorem OfP.p {s o:List Int} {l:List V} (h:OfP s o l):PtP s o l∧o.Nodup∧o.length=s.length:=by
 have ho:=h.ord;unfold EM at ho;rw[decide_eq_true_eq] at ho;have:=h.fine.len;exact⟨⟨h.fine,fun c hc=>⟨(ho.2.1 c hc).1,(ho.2.1 c hc).2⟩,h.len,by unfold aO;omega,by unfold aO;omega⟩,ho.2.2,ho.1⟩
open Go Tw Pv fZ
def Kn (d:Dg) (x:Cs) (v:Int):Prop:=if v<0 then a2z d v∈x.e else v∈x.k.map (·.1)
def O6 (x y:Cs):Prop:=x.e <+: y.e∧x.n <+: y.n∧x.k <+: y.k
theorem O6.rfl {x:Cs}:O6 x x:=⟨List.prefix_rfl,List.prefix_rfl,List.prefix_rfl⟩
theorem O6.trans {x y z:Cs} (a:O6 x y) (b:O6 y z):O6 x z:=⟨a.1.trans b.1,a.2.1.trans b.2.1,a.2.2.trans b.2.2⟩
theorem Kn.mono {d:Dg} {x y:Cs} {v:Int} (h:Kn d x v) (hp:O6 x y):Kn d y v:=by
 unfold Kn at h ⊢;split
 ·rename_i c;rw[if_pos c] at h;exact hp.1.subset h
 rename_i c;rw[if_neg c] at h;obtain⟨t,ht⟩:=hp.2.2;rw[<-ht,List.map_append,List.mem_append];exact .inl h
open Go Tw Pv fZ
noncomputable def aaA:iO bM:=dL 69 (a1 dA) iA (fun p=>(oH p).2) (fun p=>[DgR p,p.sizes.length<=aO,p.order.length<=2^20,p.ends.length+1<=aO]) aaz
open Go Tw Pv fZ
theorem Vw {α:Type} {l:List α} {k:Nat} {d:α} (h:k<l.length):l.getD k d∈l:=by simp[List.getD,List.getElem?_eq_getElem h]
def a0J (f:List Int×List Int) (d:Dg):Bool:=if decide (d.sizes=f.1)=true then decide (d.order=f.2) else false
structure DgP (d:Dg):Prop where
 r:DgR d
 s:d.sizes.length<=aO
 o:d.order.length<=2^20
 e:d.ends.length+1<=aO
abbrev cCk (l:List Dg) (k:Nat):Bool:=(oH (l.getD k Dg0)).2 != 0
open Go Tw Pv fZ
def lW (l:List Fc):List Dg:=l.map (·.d)
noncomputable def aaC:iO bM:=dL 68 (a1 a5R) aa3 (fun l=>lW l) (fun l=>[l.length<=aO]) aaA
noncomputable def aaD:iO bM:=dL 70 (a2 (XT frA) dA) tA (fun p=>(if decide (p.2.sizes=p.1.1)=true then decide (p.2.order=p.1.2) else false)) (fun p=>[p.2.sizes.length<=aO,p.2.order.length<=aO]) aaC
abbrev wBc (s o:List Int) (f:List Fc) (i:Int) (x:List (Nat×PE bM)):aV bM:=⟨[(0,xL 3 s),(1,xL 3 o),(2,xL 66 f),(22,xL 27 (lW f)),(23,xi (lW f).length),(24,xi i)]++x,[],[]⟩
def zBc (s o:List Int) (f:List Fc):Unit⊕Nat->Ex×aV bM
 | .inl _=>(.exit 0,wBc s o f (lW f).length [(25,xl false)])
 | .inr k=>(.ret,⟨[(6,xi (oH ((lW f).getD k Dg0)).2)],[((lW f).getD k Dg0).ps],[]⟩)
def a6I (s o:List Int) (f:List Fc):Int:=if (jy s o != 0)=true then jy s o else if decide ((f.length:Int)>8)=true then 5 else if G5 (pz (cCk (lW f)) (lW f).length)=true then (if (!((lW f).all (a0J (s,o))))=true then 2 else 0) else (oH ((lW f).getD (a2l 0 (pz (cCk (lW f)) (lW f).length)) Dg0)).2
abbrev Bo (s o:List Int) (f:List Fc) (k:Nat) (c:Bool):PT bM:=(.s .n (.s .n (.z c (.a (.lg [] (zBc s o f (.inl ())).1 (zBc s o f (.inl ())).2) (.a (.fr [] (lDg (lW f)) []) (.a (.fr [] (.bool ((lW f).all (a0J (s,o)))) []) (.s .n .n)))) (.a (.lg [] (zBc s o f (.inr k)).1 (zBc s o f (.inr k)).2) .n))))
noncomputable def aaE:iO bM:=dL 21 (a3 qw qw a5R) iA (fun p=>a6I p.1 p.2.1 p.2.2) (fun p=>[p.1.length<=aO,p.2.1.length<=2^20,p.2.2.length<=aO,∀ d∈lW p.2.2,DgP d]) aaD
open Go Tw Pv fZ
theorem aaF:Tryz.prog.underlying 141=some (.int .u64):=by kernel_rfl
theorem a6J:Tryz.prog.underlying 4=some .bool:=by kernel_rfl
theorem uPc : Tryz.prog.underlying 164 = some (.struct #[⟨"facts", 141, 0, false, "", "mist/blame", 0⟩, ⟨"goal", 4, 1, false, "", "mist/blame", 8⟩]) := by kernel_rfl
theorem RG {P:Program} (d:Nat) (t:TypeId) (a b:Bool) (h:P.underlying t=some .bool):au P (Op.equalIn (d+1) t (.bool a) (.bool b))=some (decide (a=b)):=by
 have hu:au P (underlying t)=some .bool:=by
  simp only[underlying,aY,show au P program=some P from rfl,Option.bind_some,h];rfl
 simp only[Op.equalIn,aY,hu,Option.bind_some,if_true];cases a<;>cases b<;>rfl
theorem a6K (d:Nat) (a b:Pc):au Tryz.prog (Op.equalIn (d+2) 164 (.agg #[.int .u64 a.facts,.bool a.goal]) (.agg #[.int .u64 b.facts,.bool b.goal]))=some (decide (a=b)):=by
 rw[oC (d+1) 164 _ _ _ uPc (by kernel_rfl)];have p0:∀ x y:Value,au Tryz.prog (part 141 #[x,y] 0)=some x:=by intro x y;kernel_rfl
 have p1:∀ x y:Value,au Tryz.prog (part 4 #[x,y] 1)=some y:=by intro x y;kernel_rfl
 have n1 : ("facts" : String) ≠ "_" := by decide
 have n2 : ("goal" : String) ≠ "_" := by decide
 have q1 := iW (f := ⟨"facts", 141, 0, false, "", "mist/blame", 0⟩) (fs := [⟨"goal", 4, 1, false, "", "mist/blame", 8⟩]) n1 (p0 (.int .u64 a.facts) (.bool a.goal)) (p0 (.int .u64 b.facts) (.bool b.goal)) (ng d _ _ _ _ _ aaF);have q2 := iW (f := ⟨"goal", 4, 1, false, "", "mist/blame", 8⟩) (fs := []) n2 (p1 (.int .u64 a.facts) (.bool a.goal)) (p1 (.int .u64 b.facts) (.bool b.goal)) (RG d _ _ _ a6J);rw[q1,q2];rw[show au Tryz.prog (Op.eqFields (d+1) #[.int .u64 a.facts,.bool a.goal] #[.int .u64 b.facts,.bool b.goal] [])=some true from rfl];rcases a with⟨a1,a2⟩;rcases b with⟨b1,b2⟩;by_cases h1:a1=b1<;>by_cases h2:a2=b2<;>simp[h1,h2]
noncomputable def kP:G7 X0 Tryz.prog 164 Pc where
 pv x:=.agg x.ps
 tv x:=.agg [.int .u64 x.facts,.bool x.goal]
 v x:=.agg #[.int .u64 x.facts,.bool x.goal]
 hp _:=rfl
 ht _:=rfl
 hc em x:=by kernel_rfl
 hf x l:=Ye uPc (fun a b=>a6K 9998 a b) x l
 hk:=Yf uPc fun a b=>a6K 9998 a b
abbrev V1:V:=⟨0,1⟩
noncomputable def a6L:iO bM:=dL 147 (a1 vA) tA (fun p=>decide (p=V1)) np aaE
noncomputable def a6M:iO bM:=dL 121 (a1 vA) tA (fun p=>decide (p=V1)) np a6L
def KY (a b:Int):Int:=IntKind.u64.wrap (((BitVec.ofInt 64 a &&& ~~~BitVec.ofInt 64 b).toNat:Nat):Int)
def a6N (a b:Int):Bool:=IntKind.u64.wrap (((BitVec.ofInt 64 (a1A .u64 a b) &&& BitVec.ofInt 64 1).toNat:Nat):Int)==1
noncomputable def a6O:iO bM:=dL 133 (a2 pA pA) tA (fun p=>(KY p.1 p.2==0)) np a6M
noncomputable def a6P:iO bM:=dL 148 (a2 pA iA) tA (fun p=>a6N p.1 p.2) (fun p=>[0<=p.2]) a6O
noncomputable def a0K:iO bM:=dL 115 (a2 pA pA) pA (fun p=>KY p.1 p.2) np a6P
open Go Tw Pv fZ
noncomputable abbrev D5 (m:List Pc):List (PV bM×PV bM):=kP.es (m.map fun e=>(e,.bool true))
open Go Tw Pv fZ
structure aaH (s o:List Int) (f:List Fc) (g:Dg):Prop where
 ls:s.length<=aO
 lo:o.length<=2^20
 lf:f.length<=aO
 ld:∀ d∈lW f,DgP d
 lg:DgP g
section
variable {n:Nat} (hO:Ok n a0K) {s o:List Int} {f:List Fc} {g:Dg} (hp:aaH s o f g)
include hO hp
end
end Go.Proofs.YtjkgcifieggcpaaGreat
namespace Pv
open Go Tw
section
variable {P:Program} {T:iF} {call:ay} {cd:nZ} {L f:Nat} {fl nt:Nat}
def gW:Code->Bool
 | .rangeFunc ..=>false
 | .region _ ops _=>(qR ops).isNone
 | .seq a b=>gW a&&gW b
 | .cond _ a b=>gW a&&gW b
 | .block _ b=>gW b
 | .scope b=>gW b
 | .loop b=>gW b
 | _=>true
theorem Vx:∀ (c:Code) {s s':St} {e:Ex} {Q:Ex->St->Prop},gW c=true->exec P T call L f false fl nt c s=some (e,s')->Q e s'->bJ P T call cd L f fl nt c s Q:=by
 intro c
 induction c with
 | region id ops draw=>
  intro s s' e Q hn h hq;simp only[gW,Option.isNone_iff_eq_none] at hn;simp only[bJ,hn];exact⟨_,_,h,hq⟩
 | seq x y JK ihy=>
  intro s s' e Q hn h hq;simp only[gW,Bool.and_eq_true] at hn;simp only[bJ];simp only[exec] at h;split at h
  ·rename_i s1 hx;exact JK hn.1 hx (ihy hn.2 h hq)
  rename_i dZ;refine JK hn.1 h ?_;cases e with
  | norm=>exact (dZ s' h).elim
  | exit i=>exact hq
  | ret=>exact hq
 | cond c x y JK ihy=>
  intro s s' e Q hn h hq;simp only[gW,Bool.and_eq_true] at hn;simp only[bJ];simp only[exec] at h;split at h
  ·rename_i hc;simp only[hc];exact JK hn.1 h hq
  ·rename_i hc;simp only[hc];exact ihy hn.2 h hq
  cases h
 | block id b ih=>
  intro s s' e Q hn h hq;simp only[gW] at hn;simp only[bJ];simp only[exec] at h;split at h
  ·rename_i i s1 hb;cases h;exact ih hn hb hq
  rename_i dZ;refine ih hn h ?_;cases e with
  | exit i=>exact (dZ i s' h).elim
  | norm=>exact hq
  | ret=>exact hq
 | scope b ih=>
  intro s s' e Q hn h hq;simp only[gW] at hn;simp only[bJ];simp only[exec] at h;exact ih hn h hq
 | loop b ih=>
  intro s s' e Q hn h hq;simp only[gW] at hn;simp only[bJ];simp only[exec] at h;have:∀ (k:Nat) {s:St},iter (fun s=>exec P T call L f false fl nt b (dO (T.dG f (bY b)) s)) k s=some (e,s')->yC (fun s Q=>bJ P T call cd L f fl nt b (dO (T.dG f (bY b)) s) Q) k s Q:=by
   intro k
   induction k with
   | zero=>intro s h;simp[iter] at h
   | succ k ihk=>
    intro s h;simp only[iter] at h;split at h
    ·rename_i s1 h1;exact ih hn h1 (ihk h)
    rename_i dZ;refine ih hn h ?_;cases e with
    | norm=>exact (dZ s' h).elim
    | exit i=>exact hq
    | ret=>exact hq
  exact this L h
 | rangeFunc=>intro s s' e Q hn;cases hn
 | _=>
  intro s s' e Q hn h hq;simp only[bJ];exact⟨_,_,h,hq⟩
end
section
variable {X:iQ} {P:Program} {T:iF} {call:ay} {cd:nZ} {L f nt B:Nat}
def bf (X:iQ) (P:Program) (T:iF) (call:ay) (cd:nZ) (L f nt B:Nat) (c:Code) (ps:aV X.Γ) (Q:Ex->aV X.Γ->Prop):Prop:=
 ∀ (A W:Nat->Prop) (fl:Nat) (m:List MB) (ts:St) (R:Ex->St->Prop),SR X P A W fl m ps ts->(∀ e dX fJ m1,Q e fJ->SR X P A W fl m1 fJ dX->Fr m ts.heap m1 dX.heap->FK B m m1->R e dX)->bJ P T call cd L f fl nt c ts R
theorem bf.mono {c:Code} {ps:aV X.Γ} {Q Q':Ex->aV X.Γ->Prop} (hq:∀ e s,Q e s->Q' e s) (h:bf X P T call cd L f nt B c ps Q):bf X P T call cd L f nt B c ps Q':=fun A W fl m ts R hS hR=>
 h A W fl m ts R hS fun e dX fJ m1 a1=>hR e dX fJ m1 (hq _ _ a1)
theorem iq.Lh {c:Code} {ps fJ:aV X.Γ} {e:Ex} {Q:Ex->aV X.Γ->Prop} (hn:gW c=true) (h:iq X P T call L f false nt B c ps e fJ) (hq:Q e fJ):bf X P T call cd L f nt B c ps Q:=fun A W fl m ts R hS hR=>by
 obtain⟨dX,m1,h1,h2,h3,h4⟩:=h A W fl m ts hS;exact Vx c hn h1 (hR _ _ fJ m1 hq h2 h3 h4)
theorem bf.seq {a b:Code} {ps:aV X.Γ} {Q R:Ex->aV X.Γ->Prop} (ha:bf X P T call cd L f nt B a ps R) (hb:∀ s,R .norm s->bf X P T call cd L f nt B b s Q) (he:∀ i s,R (.exit i) s->Q (.exit i) s) (hr:∀ s,R .ret s->Q .ret s):bf X P T call cd L f nt B (.seq a b) ps Q:=fun A W fl m ts R' hS hR=>by
 simp only[bJ];refine ha A W fl m ts _ hS fun e dX fJ m1 a1 a2 a3 a4=>?_;cases e with
 | norm=>exact hb fJ a1 A W fl m1 dX R' a2 fun e Rl rW m2 b1 b2 b3 b4=>hR e Rl rW m2 b1 b2 (a3.trans b3) (a4.trans b4)
 | exit i=>exact hR _ _ fJ m1 (he _ _ a1) a2 a3 a4
 | ret=>exact hR _ _ fJ m1 (hr _ a1) a2 a3 a4
theorem bf.block {id:Nat} {b:Code} {ps:aV X.Γ} {Q:Ex->aV X.Γ->Prop} (h:bf X P T call cd L f nt B b ps fun e s=>Q (match e with | .exit i=>if i=id then .norm else .exit i | e=>e) s):bf X P T call cd L f nt B (.block id b) ps Q:=fun A W fl m ts R hS hR=>by
 simp only[bJ];exact h A W fl m ts _ hS fun e dX fJ m1 a1 a2 a3 a4=>hR _ dX fJ m1 a1 a2 a3 a4
theorem bf.scope {b:Code} {ps:aV X.Γ} {Q:Ex->aV X.Γ->Prop} (h:bf X P T call cd L f nt B b ps Q):bf X P T call cd L f nt B (.scope b) ps Q:=fun A W fl m ts R hS=>by
 simp only[bJ];exact h A W fl m ts R hS
theorem bf.loop {b:Code} {Q:Ex->aV X.Γ->Prop} (I:Nat->aV X.Γ->Prop)
  (h:∀ k s,I k s->bf X P T call cd L f nt B b (kY X (T.dG f (bY b)) s) fun e s=>match e with | .norm=>∃ j,j<k∧I j s | e=>Q e s) {k:Nat} {ps:aV X.Γ} (hi:I k ps) (hk:k<L):bf X P T call cd L f nt B (.loop b) ps Q:=fun A W fl m ts R hS hR=>by
 simp only[bJ];have key:∀ (n k:Nat) (ps:aV X.Γ) (m1:List MB) (dX:St),k<n->I k ps->SR X P A W fl m1 ps dX->Fr m ts.heap m1 dX.heap->FK B m m1->yC (fun s Q=>bJ P T call cd L f fl nt b (dO (T.dG f (bY b)) s) Q) n dX R:=by
  intro n
  induction n with
  | zero=>intro k ps m ts hk;omega
  | succ n ih=>
   intro k ps m1 dX hk hi hS hF hU;simp only[yC];refine h k ps hi A W fl m1 _ _ (hS.head _) fun e Rl rW m2 a1 a2 a3 a4=>?_;have a3:Fr m1 dX.heap m2 Rl.heap:=a3;cases e with
   | norm=>
    obtain⟨j,hj,BJ⟩:=a1;exact ih j rW m2 Rl (by omega) BJ a2 (hF.trans a3) (hU.trans a4)
   | exit i=>exact hR _ _ rW m2 a1 a2 (hF.trans a3) (hU.trans a4)
   | ret=>exact hR _ _ rW m2 a1 a2 (hF.trans a3) (hU.trans a4)
 exact key L k ps m ts hk hi hS .refl Up.refl.b
theorem bf.cond {c:Operand} {a b:Code} {ps:aV X.Γ} {t:Bool} {Q:Ex->aV X.Γ->Prop} (hc:wB ps.env c=some (.bool t)) (h:bf X P T call cd L f nt B (if t then a else b) ps Q):bf X P T call cd L f nt B (.cond c a b) ps Q:=fun A W fl m ts R hS=>by
 obtain⟨x,g1,g2⟩:=fK hS.st.env hc;have hx:x=.bool t:=by
  cases g2 with
  | bool=>rfl
  | gone hi _ _=>simp[aG] at hi
 subst hx;simp only[bJ,g1];cases t with
 | true=>exact h A W fl m ts R hS
 | false=>exact h A W fl m ts R hS
theorem bf.next {id it nx mo b r n:Nat} {seen:List Nat} {ops:Array Oper} {draw:Bool} {o1 o2:Oper} {ps:aV X.Γ} {es:List (PV X.Γ×PV X.Γ)} {Q:Ex->aV X.Γ->Prop} (hn:qR ops=some (it,nx,o1,o2)) (hd:nx<nt) (hd2:mo<nt)
  (h2:o2.op=.extract (.tmp nx) 0) (h3:o2.dst=some mo) (h4:o2.guard=none)
  (JJ:wB ps.env (.tmp it)=some (.iter b)) (hb:ps.heap[b]? = some (.bn r n seen)) (hr:En X ps.heap r=some es) (hl:es.length=n)
  (lX:(∀ j,j<n->j∈seen)->Q .norm { ps with env:=iL (T.fM f id) ((mo,.val (.bool false))::(nx,.val (.bH [.bool false]))::ps.env) })
  (pick:∀ j e,j∉seen->es[j]? = some e->Q .norm { ps with env:=iL (T.fM f id) ((mo,.val (.bool true))::(nx,.val (.bH [.bool true,e.1,e.2]))::ps.env),heap:=ps.heap.set b (.bn r n (j::seen)) }) :
  bf X P T call cd L f nt B (.region id ops draw) ps Q:=fun A W fl m ts R hS Sv=>by
 obtain⟨x,g1,g2⟩:=fK hS.st.env JJ;obtain⟨mb,q1,q2⟩:=hS.st.heap.at_ b _ hb;obtain⟨cr,fQ,q3,z1,z2,z3⟩:=ug hS.st.heap hr;cases mb with
 | cO cb=>
   obtain⟨c,p1,p2,p3⟩:=q2;have:=p3 cr (by rcases q3 with q | ⟨q,_⟩;exact .inl q;exact .inr q);subst this;cases g2 with
   | gone hi e _=>simp only[aG,Option.some.injEq] at hi;subst hi;rw[q1] at e;cases e
   | iter e1=>
    rw[q1] at e1;cases e1;have aaI:aT it ts.env=some (.val (.iter cb)):=by
     unfold lJ at g1;split at g1
     ·rename_i v hv;cases g1;exact hv
     ·cases g1
    have run:∀ (s:St) (t:Bool) (vs:List TV),dN P call (fun d=>T.zI f d) fl nt ops [o2] (s.put (some nx) (.val (.bH (.bool t::vs))))=some ({ s with env:=(mo,.val (.bool t))::(nx,.val (.bH (.bool t::vs)))::s.env },[aA]):=by
     intro s t vs;have e1:vV nt o2=true:=(by simp[vV,h3,hd2]);have e2:∀ env,rJ ops env o2=some true:=fun env=>(by simp[rJ,h4]);simp only[dN,e1,e2,Bool.not_true,Bool.false_eq_true,if_false,jq,h2];simp[St.put,lJ,Aw,aT,h3,dn,aA]
    simp only[bJ,hn];refine⟨hd,cb,cr,n,seen,fQ,aaI,p1,z1,by rw[<-z2];exact hl,fun DK=>?_,fun j e hj he=>?_⟩
    ·refine⟨_,_,run ts false [],Sv _ _ { ps with env:=_ } m (lX DK) ?_ .refl Up.refl.b⟩;have hS2:nR X P A m { ps with env:=(mo,.val (.bool false))::(nx,.val (.bH [.bool false]))::ps.env } { ts with env:=(mo,.val (.bool false))::(nx,.val (.bH [.bool false]))::ts.env }:=
      ⟨hS.st.heap,hS.st.llen,hS.st.loc,.cons (.bool false) (.cons (aH.cons (.bool false) .nil |> fun h=>.bH h.1 h.2) hS.st.env)⟩
     exact SR.pick ⟨hS2,hS.own,hS.ws,hS.fl⟩ _
    ·have aN:j<es.length:=by rw[z2];exact (List.getElem?_eq_some_iff.1 he).1
     have hej:=List.getElem?_eq_getElem aN;have hv:=z3 j _ _ hej he;have hcb:=(List.getElem?_eq_some_iff.1 p1).1;obtain⟨u1,u2⟩:=hS.st.heap.set (pb:=.bn r n (j::seen)) (hb:=.bn cr n (j::seen)) q1 (c:=cb) rfl (fun cs hc=>by simp[aB,p1] at hc) fun hF=>⟨cr,by simp[hcb],p2,p3⟩;refine⟨_,_,run _ true [e.1,e.2],Sv _ _ { ps with env:=_,heap:=_ } m (pick j _ hj hej) ?_ u2 Up.refl.b⟩;have hS1:=hS.st.step u1 u2 .refl;have hS2:nR X P A m { ps with env:=(mo,.val (.bool true))::(nx,.val (.bH [.bool true,es[j].1,es[j].2]))::ps.env,heap:=ps.heap.set b (.bn r n (j::seen)) } { ts with env:=(mo,.val (.bool true))::(nx,.val (.bH [.bool true,e.1,e.2]))::ts.env,heap:=ts.heap.set cb (.bn cr n (j::seen)),ws:=dn fl [.h cb] ts.ws }:=
      ⟨hS1.heap,hS1.llen,hS1.loc,.cons (.bool true) (.cons (aH.cons (.bool true) (aH.cons (pq hv.1) (aH.cons (pq hv.2) .nil)) |> fun h=>.bH h.1 h.2) hS1.env)⟩
     refine SR.pick ⟨hS2,hS.own,fun b2 vX=>?_,by simpa using hS.fl⟩ _;rcases iV.1 vX with h5 | ⟨h5,h6⟩
     ·exact hS.ws b2 h5
     ·simp at h5;subst h5;exact (hS.own _ (aC q1 rfl)).resolve_right (by omega)
 | _=>exact q2.elim
def aaJ (X:iQ) (P:Program) (cd:nZ) (fv:PV X.Γ) (xs:List (PV X.Γ)) (H:List (PB X.Γ)) (K:PV X.Γ->List (PB X.Γ)->Prop):Prop:=
 ∀ (A:Nat->Prop) (m:List MB) (h:List HB) (tf:TV) (nH:List TV) (R:TV->List HB->List Nat->Prop),HR X P A m H h->VR X P (AA A m) m h fv tf->aH X P (AA A m) m h xs nH ->
  (∀ w h1 ws m1 v H1,K v H1->HR X P A m1 H1 h1->VR X P (AA A m1) m1 h1 v w->Fr m h m1 h1->Up m m1->(∀ b∈ws,b∈aJ m)->R w h1 ws)->cd tf nH h R
theorem bf.range (hX:aX X P) {g:Operand} {qs:Array Nat} {mG body:Code} {ps:aV X.Γ} {f1:FuncId} {a1 b1:List (PV X.Γ)} {K:PV X.Γ->List (PB X.Γ)->Prop} {Q:Ex->aV X.Γ->Prop}
  (hg:wB ps.env g=some (.fn f1 a1 b1)) (hd:T.din.contains f1=true) (DK:(ps.env.all fun p=>NV p.2)=true)
  (aaK:aaJ X P cd (.fn f1 a1 b1) [.jk (ps.heap.length+1)] (ps.heap++[.mark]++[.loop true f nt ps.env qs.toList mG body none]) K)
  (hk:∀ v H1,K v H1->∃ rd f2 Dj e2 rW a2 b2 gG e,H1[ps.heap.length+1]? = some (.loop rd f2 Dj e2 rW a2 b2 gG)∧Di rd gG=some e∧Q e { ps with heap:=H1.set (ps.heap.length+1) (.loop false f2 Dj e2 rW a2 b2 (some .skip)) }) :
  bf X P T call cd L f nt B (.rangeFunc g qs mG body) ps Q:=by
 intro A W fl m ts R hS hR;obtain⟨tg,g1,g2⟩:=fK hS.st.env hg;have hm:=hS.st.heap.len;obtain⟨p1,p2,p3⟩:=hS.st.heap.push (pb:=.mark) (hb:=.mark) (mb:=.cO ts.heap.length) (.inl rfl) (by simp[BR]);obtain⟨q1,q2,q3⟩:=p1.push (pb:=.loop true f nt ps.env qs.toList mG body none) (hb:=.loop true f nt ts.env qs.toList mG body none) (mb:=.cO (ts.heap.length+1)) (.inl (by simp[MB.own])) (by
  refine⟨ts.env,by simp,?_⟩;refine gX.step (m:=m) (h:=ts.heap) (A:=A) ?_ ?_ hS.st.env
  ·have r2:Fr (m++[MB.cO ts.heap.length]) (ts.heap++[HB.mark]) (m++[MB.cO ts.heap.length]++[MB.cO (ts.heap.length+1)]) (ts.heap++[HB.mark]++[HB.loop true f nt ts.env qs.toList mG body none]):=by
    refine⟨by simp,fun b hb _=>by rw[List.getElem?_append_left hb],fun b hb=>?_,fun b cs hc=>⟨cs,?_,Nat.le_refl _⟩⟩
    ·rw[dK,List.mem_append,fG] at hb;rcases hb with hb | hb
     ·exact .inl hb
     ·simp[MB.own] at hb;subst hb;exact .inr (by simp)
    ·rw[bZ (List.getElem?_append_left (bU hc)),hc]
   exact p2.trans r2
  ·exact p3.trans (nC _))
 have hF:=p2.trans q2;have hU:=p3.trans q3;have hyl:VR X P (AA A (m++[MB.cO ts.heap.length]++[MB.cO (ts.heap.length+1)])) (m++[MB.cO ts.heap.length]++[MB.cO (ts.heap.length+1)]) (ts.heap++[HB.mark]++[HB.loop true f nt ts.env qs.toList mG body none]) (.jk (ps.heap.length+1)) (.jk (ts.heap.length+1)):=by
  refine .jk ?_;rw[<-hm,List.getElem?_append_right (by simp)];simp
 have hg':∃ a1' b1',tg=.fn f1 a1' b1':=by
  cases g2 with
  | gone hi _ _=>simp[aG] at hi
  | fn _ _ _ _=>exact⟨_,_,rfl⟩
 obtain⟨a1',b1',rfl⟩:=hg';have aaN:U5 T ts.env g=true:=by unfold U5;rw[g1];exact hd
 simp only[bJ,aaN,if_true];refine⟨f1,a1',b1',g1,V4 hS.st.env DK,?_⟩;rw[show ts.heap++[HB.mark,HB.loop true f nt ts.env qs.toList mG body none]=ts.heap++[HB.mark]++[HB.loop true f nt ts.env qs.toList mG body none] by simp];refine aaK A _ _ _ [.jk (ts.heap.length+1)] _ q1 (g2.step hF hU) (.cons hyl .nil) fun w h1 ws m1 v H1 NM c2 c3 c4 c5 c6=>?_;obtain⟨rd,f2,Dj,e2,rW,a2,b2,gG,e,hl,hj,hq⟩:=hk v H1 NM;have Ij:m1[ps.heap.length+1]? = some (.cO (ts.heap.length+1)):=by
  rcases c5 (ps.heap.length+1) (.cO (ts.heap.length+1)) (by rw[<-hm,List.getElem?_append_right (by simp)];simp) with e | e
  ·exact e
  ·obtain⟨mb,k1,k2⟩:=c2.at_ _ _ hl;rw[e] at k1;cases k1;exact k2.elim
 obtain⟨mb,k1,k2⟩:=c2.at_ _ _ hl;rw[Ij] at k1;cases k1;obtain⟨OE,k3,k4⟩:=k2;obtain⟨s1,s2⟩:=c2.set (i:=ps.heap.length+1) (c:=ts.heap.length+1) (pb:=.loop false f2 Dj e2 rW a2 b2 (some .skip)) (hb:=.loop false f2 Dj OE rW a2 b2 (some .skip)) Ij rfl (fun cs hc=>by unfold aB at hc;rw[k3] at hc;cases hc) (fun hF=>⟨OE,by rw[List.getElem?_set_self (List.getElem?_eq_some_iff.1 k3).1],k4.step hF .refl⟩);have hF2:=hF.trans (c4.trans s2);have hU2:=hU.trans c5;refine⟨_,_,_,_,_,_,_,_,e,k3,hj,hR _ _ _ m1 hq ⟨?_,fun b hb=>?_,fun b hb=>?_,?_⟩ hF2 hU2.b⟩
 ·have q:=hS.st.step s1 hF2 hU2;exact⟨q.heap,q.llen,q.loc,q.env⟩
 ·rcases hF2.new b hb with k | k
  ·exact hS.own b k
  ·exact .inr (Nat.le_trans hS.fl k)
 ·rcases vI hb with k | ⟨k,k'⟩
  ·exact hS.ws b k
  ·obtain⟨b',rM,e⟩:=List.mem_map.1 k;cases e;rcases hF.new b (c6 b rM) with k2 | k2
   ·rcases hS.own b k2 with k3 | k3
    ·exact k3
    ·omega
   ·have:=hS.fl;omega
 ·exact Nat.le_trans hS.fl hF2.len
end
section
variable {X:iQ} {P:Program} {A B:Nat->Prop} {m m' m1:List MB} {h h':List HB} {g:Nat->Option Nat}
def wJ:List (PB X.Γ)->Bool
 | []=>true
 | .fF _::H=>wJ H
 | .vU _::H=>wJ H
 | .gone::H=>wJ H
 | _=>false
theorem KZ:∀ {H:List (PB X.Γ)},wJ H=true->∀ (i:Nat) b,H[i]? = some b->wJ [b]=true
 | [],_,i,b,h=>by simp at h
 | a::H,hn,i,b,h=>by
  cases i with
  | zero=>simp at h;subst h;cases a<;>simp_all [wJ]
  | succ i=>
   have SQ:wJ H=true:=by cases a<;>simp_all [wJ]
   exact KZ SQ i b (by simpa using h)
theorem O7 {H:List (PB X.Γ)} (hn:wJ H=true) (hr:HR X P A m H h):aJ m=[]:=by
 refine List.eq_nil_iff_forall_not_mem.2 fun b hb=>?_;obtain⟨i,mb,h1,h2⟩:=fV hb;have hl:i<H.length:=by rw[<-hr.len];exact (List.getElem?_eq_some_iff.1 h1).1
 obtain⟨BM,g1,g2⟩:=hr.at_ i _ (List.getElem?_eq_getElem hl);rw[h1] at g1;cases g1;have h3:=KZ hn i _ (List.getElem?_eq_getElem hl);generalize H[i]=b9 at g2 h3;cases b9<;>first | (cases h3;done) | skip
 all_goals (cases mb<;>first | exact g2.elim | cases h2)
theorem ET {v:PV X.Γ} {t:TV} (h:mY v=some t):(∀ l,zT t l=l)∧(∀ g,jI g t=some t)∧∀ fl,QG fl t=t:=by
 cases v<;>simp only[mY,Option.some.injEq,reduceCtorEq] at h<;>subst h<;>exact⟨fun _=>rfl,fun _=>rfl,fun _=>rfl⟩
theorem BA:∀ {vs:List (PV X.Γ)} {ts:List TV},jW vs=some ts->(∀ l,zT.AX ts l=l)∧∀ g,jI.sW g ts=some ts
 | [],ts,h=>by simp only[jW,Option.some.injEq] at h;subst h;exact⟨fun _=>rfl,fun _=>rfl⟩
 | v::vs,ts,h=>by
  simp only[jW] at h;split at h
  ·rename_i a b h1 h2;cases h;have e1:=ET h1;have e2:=BA h2;exact⟨fun l=>by simp only[zT.AX,e2.1,e1.1],fun g=>by simp only[jI.sW,e1.2.1,e2.2]⟩
  cases h
theorem Yj {v:PV X.Γ} {t:TV} (h:tC v=some t):(∀ l,zT t l=l)∧(∀ g,jI g t=some t)∧∀ fl,QG fl t=t:=by
 unfold tC at h;split at h
 ·simp only[Option.map_eq_some_iff] at h;obtain⟨ts,h1,rfl⟩:=h;have e:=BA h1;exact⟨fun l=>by simp only[zT,e.1],fun g=>by simp only[jI,e.2,Option.map_some],fun _=>rfl⟩
 exact ET h
def a6Q (X:iQ) (P:Program) (rQ:Bool) (u:PV X.Γ) (Hs:List (PB X.Γ)) (tv:Nat->TV) (tN:List HB):Prop:=
 ∀ (A:Nat->Prop) (m:List MB) (h h1:List HB) (w:TV),HR X P A m Hs h1->VR X P (AA A m) m h1 u w->(∀ b,b∈aJ m->h.length<=b)->QH rQ h w h1=some (tv h.length,h++tN)
theorem O8 {rQ:Bool} {u:PV X.Γ} {Hs:List (PB X.Γ)} {tu:TV} (hu:tC u=some tu) (ht:∀ cs,tu≠.bH cs):a6Q X P rQ u Hs (fun _=>tu) []:=fun A m h h1 w hr hw _=>by
 have:=iP hw hu;subst this;obtain⟨e1,e2,e3⟩:=Yj hu;have e4:Xm h.length w=w:=by
  cases w with
  | bH cs=>exact absurd rfl (ht cs)
  | _=>exact e3 h.length
 unfold QH;simp only[e1,sZ,e2,E5,e4,List.map_nil,List.append_nil]
end
def G8:Code->Code
 | .seq a _=>a
 | .block _ b=>b
 | .loop b=>b
 | .scope b=>b
 | .cond _ a _=>a
 | c=>c
def O9:Code->Code
 | .seq _ b=>b
 | .cond _ _ b=>b
 | c=>c
def a6R:Code->Array Oper
 | .region _ o _=>o
 | _=>#[]
def fnP (P:Program) (f:Nat):FnT:=match FP P f with
 | some t=>t
 | none=>⟨0,.skip,[]⟩
def Oa (ops:Array Oper) (it nx mo:Nat):Bool:=match qR ops with
 | some (a,b,_,o2)=>a==it&&b==nx&&(match o2.op,o2.dst,o2.guard with
  | .extract (.tmp k) 0,some d,none=>k==nx&&d==mo
  | _,_,_=>false)
 | none=>false
theorem RH {ops:Array Oper} {it nx mo:Nat} (h:Oa ops it nx mo=true):∃ o1 o2,qR ops=some (it,nx,o1,o2)∧o2.op=.extract (.tmp nx) 0∧o2.dst=some mo∧o2.guard=none:=by
 unfold Oa at h;split at h
 ·rename_i a b o1 o2 e;simp only[Bool.and_eq_true,beq_iff_eq] at h;obtain⟨⟨rfl,rfl⟩,h⟩:=h;split at h
  ·rename_i k d e1 e2 e3;simp only[Bool.and_eq_true,beq_iff_eq] at h;obtain⟨rfl,rfl⟩:=h;exact⟨o1,o2,e,e1,e2,e3⟩
  cases h
 cases h
section
variable {X:iQ} {P:Program} {T:iF} {call:ay} {cd:nZ} {kX:iO X.Γ} {L f nt B:Nat}
theorem SE (hX:aX X P) (hO:lC X P call kX) {c:Code} {ps fJ:aV X.Γ} {an:PT X.Γ} {o:OT (Ex×aV X.Γ)} {e:Ex} (hk:fO X P T kX (qC X P call) (iq X P T call L f false nt B) B L f false nt c ps an a2j=o) (ht:Fp (fun r=>r=(e,fJ)) an o):iq X P T call L f false nt B c ps e fJ:=by
 obtain⟨y,h1,h2⟩:=ht.ends;subst h2;rw[<-hk] at h1;exact UZ hX hO h1
theorem Yk {n j:Nat} {seen:List Nat} (hj:j<n) (hn:j∉seen):((List.range n).filter fun i=>!(j::seen).contains i).length<((List.range n).filter fun i=>!seen.contains i).length:=by
 have e:((List.range n).filter fun i=>!(j::seen).contains i)=((List.range n).filter fun i=>!seen.contains i).filter fun i=>!(i==j):=by
  rw[List.filter_filter];refine List.filter_congr fun i _=>?_;rw[List.contains_cons];cases i==j<;>simp
 rw[e];refine List.length_filter_lt_length_iff_exists.2 ⟨j,List.mem_filter.2 ⟨List.mem_range.2 hj,by simpa using hn⟩,by simp⟩
theorem I5 (hX:aX X P) (hO:lC X P call kX) {body r0 r1 x r6:Code} {i0 i1 id it nx mo b r n:Nat} {ops:Array Oper} {draw:Bool} {st0 s1:aV X.Γ} {sI:aV X.Γ} {sX:Nat->PV X.Γ×PV X.Γ->List Nat->aV X.Γ} {sR sE:List Nat->aV X.Γ} {sB:Nat->PV X.Γ×PV X.Γ->List Nat->aV X.Γ} {es:List (PV X.Γ×PV X.Γ)} {bad:Nat->Bool} {Q:Ex->aV X.Γ->Prop}
  (hb:body=.seq r0 (.seq (.seq r1 (.block i0 (.loop (.seq (.region id ops draw) (.seq (.cond (.tmp mo) .skip (.exit i0)) (.block i1 x)))))) (.seq r6 .ret)))
  (n0:gW r0=true) (n1:gW r1=true) (nx':gW x=true) (n6:gW r6=true)
  (h0:iq X P T call L f false nt B r0 st0 .norm s1) (h1:iq X P T call L f false nt B r1 s1 .norm sI)
  (hI:kY X (T.dG f (bY (.seq (.region id ops draw) (.seq (.cond (.tmp mo) .skip (.exit i0)) (.block i1 x))))) sI=sR []) (hh:∀ j e seen,kY X (T.dG f (bY (.seq (.region id ops draw) (.seq (.cond (.tmp mo) .skip (.exit i0)) (.block i1 x))))) (sX j e seen)=sR seen)
  (hnx:Oa ops it nx mo=true) (hd:nx<nt) (hd2:mo<nt)
  (JJ:∀ seen,wB (sR seen).env (.tmp it)=some (.iter b)) (hbk:∀ seen,(sR seen).heap[b]? = some (.bn r n seen)) (hr:∀ seen,En X (sR seen).heap r=some es) (hl:es.length=n) (hL:n<L)
  (m1:∀ seen,wB (iL (T.fM f id) ((mo,.val (.bool false))::(nx,.val (.bH [.bool false]))::(sR seen).env)) (.tmp mo)=some (.bool false))
  (m2:∀ seen (e:PV X.Γ×PV X.Γ),wB (iL (T.fM f id) ((mo,.val (.bool true))::(nx,.val (.bH [.bool true,e.1,e.2]))::(sR seen).env)) (.tmp mo)=some (.bool true))
  (h6:∀ seen,iq X P T call L f false nt B r6 { sR seen with env:=iL (T.fM f id) ((mo,.val (.bool false))::(nx,.val (.bH [.bool false]))::(sR seen).env) } .norm (sE seen))
  (hx:∀ j e seen,es[j]? = some e->(bad j=true->iq X P T call L f false nt B x { sR seen with env:=iL (T.fM f id) ((mo,.val (.bool true))::(nx,.val (.bH [.bool true,e.1,e.2]))::(sR seen).env),heap:=(sR seen).heap.set b (.bn r n (j::seen)) } .ret (sB j e (j::seen)))
   ∧ (bad j=false->iq X P T call L f false nt B x { sR seen with env:=iL (T.fM f id) ((mo,.val (.bool true))::(nx,.val (.bH [.bool true,e.1,e.2]))::(sR seen).env),heap:=(sR seen).heap.set b (.bn r n (j::seen)) } .norm (sX j e (j::seen))))
  (qB:∀ j e seen,j<n->bad j=true->Q .ret (sB j e seen)) (qE:(∀ j,j<n->bad j=false)->∀ seen,Q .ret (sE seen)):bf X P T call cd L f nt B body st0 Q:=by
 subst hb;obtain⟨o1,o2,hn,h2,h3,h4⟩:=RH hnx;have a2C:∀ {c:Code} {e:Ex} {s:aV X.Γ} {Q':Ex->aV X.Γ->Prop},gW c=true->fO X P T kX (qC X P call) (iq X P T call L f false nt B) B L f false nt c s .n a2j=.ret (e,s)->Q' e s->bf X P T call cd L f nt B c s Q':=fun hc hk hq=>iq.Lh hc (SE hX hO hk (.r rfl)) hq;refine bf.seq (R:=fun e s=>e=.norm∧s=s1) (iq.Lh n0 h0 ⟨rfl,rfl⟩) (fun s hs=>?_) (fun i s h=>by cases h.1) (fun s h=>by cases h.1);obtain⟨_,rfl⟩:=hs;refine bf.seq (R:=fun e s=>(e=.norm∧(∀ j,j<n->bad j=false)∧∃ seen,s={ sR seen with env:=iL (T.fM f id) ((mo,.val (.bool false))::(nx,.val (.bH [.bool false]))::(sR seen).env) })∨(e=.ret∧Q e s)) ?_ (fun s hs=>?_) (fun i s h=>?_) (fun s h=>?_)
 ·refine bf.seq (R:=fun e s'=>e=.norm∧s'=sI) (iq.Lh n1 h1 ⟨rfl,rfl⟩) (fun s' hs=>?_) (fun i s h=>by cases h.1) (fun s h=>by cases h.1);obtain⟨_,rfl⟩:=hs;refine bf.block ?_;refine bf.loop (fun k s=>∃ seen,kY X (T.dG f (bY (.seq (.region id ops draw) (.seq (.cond (.tmp mo) .skip (.exit i0)) (.block i1 x))))) s=sR seen∧(∀ j∈seen,j<n->bad j=false)∧k=((List.range n).filter fun i=>!seen.contains i).length) (fun k s hi=>?_) (k:=n) ⟨[],hI,fun j hj=>(by cases hj),by rw[show ((List.range n).filter fun i=>!([]:List Nat).contains i)=List.range n from List.filter_eq_self.2 fun a _=>rfl,List.length_range]⟩ hL;obtain⟨seen,hp,hs,rfl⟩:=hi;rw[hp];refine bf.seq (R:=fun e s=>e=.norm∧(((∀ j,j<n->bad j=false)∧s={ sR seen with env:=iL (T.fM f id) ((mo,.val (.bool false))::(nx,.val (.bH [.bool false]))::(sR seen).env) })∨∃ j e,j∉seen∧es[j]? = some e∧s={ sR seen with env:=iL (T.fM f id) ((mo,.val (.bool true))::(nx,.val (.bH [.bool true,e.1,e.2]))::(sR seen).env),heap:=(sR seen).heap.set b (.bn r n (j::seen)) })) ?_ (fun s hs=>?_) (fun i s h=>by cases h.1) (fun s h=>by cases h.1)
  ·exact bf.next hn hd hd2 h2 h3 h4 (JJ seen) (hbk seen) (hr seen) hl (fun ho=>⟨rfl,.inl ⟨fun j hj=>hs j (ho j hj) hj,rfl⟩⟩) (fun j e hj he=>⟨rfl,.inr ⟨j,e,hj,he,rfl⟩⟩)
  ·obtain⟨_,⟨h5,rfl⟩ | ⟨j,e,hj,he,rfl⟩⟩:=hs
   ·refine bf.seq (R:=fun e s=>e=.exit i0∧s={ sR seen with env:=iL (T.fM f id) ((mo,.val (.bool false))::(nx,.val (.bH [.bool false]))::(sR seen).env) }) (bf.cond (t:=false) (m1 seen) (a2C (c:=.exit i0) rfl rfl ⟨rfl,rfl⟩)) (fun s h=>by cases h.1) (fun i s h=>?_) (fun s h=>by cases h.1);obtain⟨h7,rfl⟩:=h;cases h7;dsimp only;rw[if_pos rfl];exact .inl ⟨rfl,h5,seen,rfl⟩
   ·have hjn:j<n:=by rw[<-hl];exact (List.getElem?_eq_some_iff.1 he).1
    refine bf.seq (R:=fun e1 s=>e1=.norm∧s={ sR seen with env:=iL (T.fM f id) ((mo,.val (.bool true))::(nx,.val (.bH [.bool true,e.1,e.2]))::(sR seen).env),heap:=(sR seen).heap.set b (.bn r n (j::seen)) }) (bf.cond (t:=true) (m2 seen e) (a2C (c:=.skip) rfl rfl ⟨rfl,rfl⟩)) (fun s h=>?_) (fun i s h=>by cases h.1) (fun s h=>by cases h.1);obtain⟨_,rfl⟩:=h;refine bf.block ?_;obtain⟨x1,x2⟩:=hx j e seen he;cases hbj:bad j
    ·refine iq.Lh nx' (x2 hbj) ?_;exact⟨_,Yk hjn hj,j::seen,hh j e _,fun k hk hkn=>by
      rcases List.mem_cons.1 hk with rfl | hk
      ·exact hbj
      ·exact hs k hk hkn,rfl⟩
    ·refine iq.Lh nx' (x1 hbj) ?_;exact .inr ⟨rfl,qB j _ _ hjn hbj⟩
 ·rcases hs with⟨_,h5,seen,rfl⟩ | ⟨h,_⟩
  ·refine bf.seq (R:=fun e s=>e=.norm∧s=sE seen) (iq.Lh n6 (h6 seen) ⟨rfl,rfl⟩) (fun s hs=>?_) (fun i s h=>by cases h.1) (fun s h=>by cases h.1);obtain⟨_,rfl⟩:=hs;exact a2C (c:=.ret) rfl rfl (qE h5 seen)
  ·cases h
 ·rcases h with⟨h,_⟩ | ⟨h,_⟩<;>cases h
 ·rcases h with⟨h,_⟩ | ⟨_,h⟩
  ·cases h
  ·exact h
end
end Pv
namespace Go.Proofs.YtjkgcifieggcpaaGreat
open Go Tw Pv fZ
def bC (a:Int) (p:Pc):Bool:=KY a p.facts==0
def bE (a:Int) (p:Pc):Bool:=(KY a p.facts==0)&&!p.goal
def uq (m:List Pc) (a:Int):Bool:=!(m.any (bC a))
def uw (m:List Pc) (a:Int):Bool:=!(m.any (bE a))
theorem yX {m:List Pc} {c:Pc->Bool}:m.any c=true↔∃ j,j<m.length∧c (m.getD j Ag)=true:=by
 rw[List.any_eq_true];constructor
 ·rintro⟨x,hx,hc⟩;obtain⟨j,hj,rfl⟩:=List.mem_iff_getElem.1 hx;exact⟨j,hj,by simpa[List.getD,List.getElem?_eq_getElem hj] using hc⟩
 rintro⟨j,hj,hc⟩;exact⟨_,Vw (d:=Ag) hj,hc⟩
noncomputable abbrev bdC:Code:=(fnP Tryz.prog 97).body
noncomputable abbrev bdE:Code:=(fnP Tryz.prog 113).body
abbrev cR0 (c:Code):Code:=G8 c
abbrev cR1 (c:Code):Code:=G8 (G8 (O9 c))
abbrev cLb (c:Code):Code:=G8 (G8 (O9 (G8 (O9 c))))
abbrev cX (c:Code):Code:=G8 (O9 (O9 (cLb c)))
abbrev cR6 (c:Code):Code:=G8 (O9 (O9 c))
section
variable {n:Nat} (hO:Ok n a0K) (s o:List Int) (f:List Fc) (g:Dg) (m:List Pc) (a:Int)
theorem Ob {m:List Pc} {j:Nat} {e:PV bM×PV bM} (h:(D5 m)[j]? = some e):e=(.agg (m.getD j Ag).ps,.bool true):=by
 have e2:D5 m=m.map fun x=>((PV.agg x.ps:PV bM),(PV.bool true:PV bM)):=List.map_map;rw[e2,List.getElem?_map] at h;cases h2:m[j]? with
 | none=>rw[h2] at h;cases h
 | some x=>rw[h2] at h;cases h;rw[List.getD_eq_getElem?_getD,h2];rfl
theorem xG {m:List Pc}:(D5 m).length=m.length:=(List.length_map ..).trans (List.length_map ..)
include hO
end
end Go.Proofs.YtjkgcifieggcpaaGreat
namespace Pv
open Go Tw
section
variable {X:iQ} {P:Program}
theorem Qb (hX:aX X P) {T:iF} {L n f:Nat} {t:FnT} {xs:List (PV X.Γ)} {H:List (PB X.Γ)} {v:PV X.Γ} {tv:TV} (hd:T.Lh.contains f=true) (hx:T.exts.contains f=false) (ht:FP P f=some t) (hN:wJ H=true) (hv:tC v=some tv)
  (hE:bf X P T (AZ P T L n) (IE P T (AZ P T L n) L) L f t.nt H.length t.body ⟨vk X 0 xs,[],H⟩ fun e s=>(e=.norm∨e=.ret)∧∃ us,Ep X P s t.results=some us∧Uw X us=v)
  {A:Nat->Prop} {m:List MB} {h:List HB} {nH:List TV} (hr:HR X P A m H h) (yg:aH X P (AA A m) m h xs nH):AZ P T L (n+1) (.fn f [] []) nH h=some (tv,h,[]):=by
 have hb:=O7 hN hr;have hS:SR X P A (fun _=>False) h.length m ⟨vk X 0 xs,[],H⟩ ⟨gq 0 nH,[],h,[]⟩:=
  ⟨⟨hr,rfl,fun k cs hk=>by simp at hk,J7 yg⟩,fun b h1=>(by rw[hb] at h1;cases h1),fun b hb=>(by cases hb),Nat.le_refl _⟩
 have hO:JW P T (AZ P T L n) L f t nH h (tv,h++[]):=by
  refine hE A _ _ m _ _ hS fun e dX fJ m1 ⟨he,us,X4,hpv⟩ h3 h4 h5=>?_;obtain⟨ws,g1,g2⟩:=DX hX h3.st X4;have hd:a6Q X P (T.a0Z.contains f) (Uw X us) fJ.heap (fun _=>tv) []:=by
   rw[hpv];exact O8 hv fun cs hc=>by subst hc;cases v<;>simp[tC,mY] at hv
  exact⟨he,ws,g1,List.eq_nil_iff_forall_not_mem.2 fun b hb=>h3.ws b hb,hd A m1 h dX.heap _ h3.st.heap (PY g2) fun b hb=>(h3.own b hb).resolve_left id⟩
 rw[List.append_nil] at hO;have:=Xp ht hO;show (if T.exts.contains f=true then _ else if T.Lh.contains f=true then _ else _)=_;rw[hx,hd,if_neg (by simp),if_pos rfl,List.nil_append,List.append_nil];exact this
end
end Pv
