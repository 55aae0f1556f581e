/- Part 2 of a proof: Any diagram with any digit for any choice is the document's, or the error is; for all diagrams, choices and digits. -/
import Derived.Scope
import Derived.Maps.RangeRun
import Derived.Deep.Slices
import Derived.ChangeArms
import Derived.Carry
import Derived.Laws.StructEq
import Derived.Test.YtmobpoiejckagaaGreatP00
set_option linter.unusedVariables false
set_option linter.unusedSimpArgs false
set_option linter.unusedSectionVars false
noncomputable section
namespace Tw
open Go
structure iP(P:Program)(call:aY)(site:Nat->Bool)(nt:Nat)(ops:Array Oper)(M0:Mp)(h0:List HB)(w0:World)(S:Nat->St)(I:Nat->lZ):Prop where
 base:wH M0 h0 w0
 step:∀j o,ops[j]? = some o->uo P call site h0.length nt ops o (S j) (I j) (S (j+1))
 ok:∀j,j<=ops.size->∃M a w,Rel M0 h0 w0 nt M (S j) a w
 fac:∀j o,ops[j]? = some o->∃M w M' w' v,S (j+1)=St.put { S (j+1)with env:=(S j).env } o.dst v∧Ext M (S j).get w M' (S (j+1)).get w' (I j).ws
 stat:nI ops.toList=true
 calm:∀x y a b,(x,y)∈o7 ops.toList->ops[x]? = some a->ops[y]? = some b->Bh a b=true∨((∀k∈(I x).ws,¬og (I y) k)∧(∀k∈(I y).ws,¬og (I x) k))
theorem NU{P:Program}{call:aY}{site:Nat->Bool}{fl nt:Nat}{ops:Array Oper}:∀(os:List Oper) (s s':St) (is:List lZ),lC P call site fl nt ops os s=some (s',is) ->
  ∃(S:Nat->St) (I:Nat->lZ),S 0=s∧S os.length=s'∧(∀j o,os[j]? = some o->uo P call site fl nt ops o (S j) (I j) (S (j+1)))∧∀j,j<os.length->is[j]? = some (I j)
 | [],s,s',is,h=>by
  simp only[lC,a03,a0u]at h;obtain⟨rfl,rfl⟩:=h;exact⟨fun _=>s,fun _=>cZ,rfl,rfl,by simp,by simp⟩
 |o::os,s,s',is,h=>by
  obtain⟨i,s1,is',hS,hr,rfl⟩:=CQ h;obtain⟨S,I,e1,e2,e3,e4⟩:=NU os s1 s' is' hr;refine⟨fun j=>match j with| 0=>s|j+1=>S j,fun j=>match j with| 0=>i|j+1=>I j,rfl,e2,?_,?_⟩
  .intro j o' ho;cases j with
   |zero=>simp at ho;subst ho;simp only[e1];exact hS
   |succ j=>exact e3 j o' (by simpa using ho)
  .intro j hj;cases j with
   |zero=>rfl
   |succ j=>simpa using e4 j (by simpa using hj)
theorem a4Y{P:Program}{call:aY}{site:Nat->Bool}{nt:Nat}{ops:Array Oper}{M0:Mp}{h0:List HB}{w0:World}(hC:iF P call)(hB:wH M0 h0 w0){s s':St}{is:List lZ}{M:Mp}{a:Act}{w:World}
  (h:lC P call site h0.length nt ops ops.toList s=some (s',is)) (hR:Rel M0 h0 w0 nt M s a w) (hs:nI ops.toList=true) (hd:Bj is (mV ops.toList)=true) :
  ∃S I,S 0=s∧S ops.size=s'∧iP P call site nt ops M0 h0 w0 S I:=by
 obtain⟨S,I,e1,e2,e3,e4⟩:=NU _ _ _ _ h;have e3':∀j o,ops[j]? = some o->uo P call site h0.length nt ops o (S j) (I j) (S (j+1)):=fun j o ho=>e3 j o (by simpa using ho);have QI:∀j,j<=ops.size->∃M a w,Rel M0 h0 w0 nt M (S j) a w:=by
  intro j
  induction j with
  |zero=>intro _;exact⟨M,a,w,by rw[e1];exact hR⟩
  |succ j ih=>
   intro hj;obtain⟨M1,a1,w1,xC⟩:=ih (by omega);have ho:ops[j]? = some ops[j]:=a4a (by omega);obtain⟨x,w',vT⟩:=(Gx hC xC (e3' j _ ho)).1;obtain⟨M',FB⟩:=NR hB xC (e3' j _ ho) vT;exact⟨M',_,w',FB⟩
 refine⟨S,I,e1,by simpa using e2,hB,e3',QI,?_,hs,?_⟩
 .intro j o ho;have hj:j<ops.size:=(a2q.1 ho).1;obtain⟨M1,a1,w1,xC⟩:=QI j (by omega);obtain⟨x,w',v,M',he,hp⟩:=(Gx hC xC (e3' j _ ho)).1;exact⟨M1,w1,M',w',v,he,hp.ext⟩
 .intro x y a b hp ha hb;have hx:x<ops.size:=(a2q.1 ha).1;have hy:y<ops.size:=(a2q.1 hb).1;exact a2w hd hp (by simpa using ha) (by simpa using hb) (e4 x (by simpa using hx)) (e4 y (by simpa using hy)) (e3' x a ha) (e3' y b hb)
def oq(M:Mp)(C:Ct):Mp:=fun k=>if(C k).isSome=true then M k else none
theorem dQ{M:Mp}{C:Ct}{k:Key}{l:Lc}(h:oq M C k=some l):(C k).isSome=true∧M k=some l:=by
 unfold oq at h;split at h
 .rename_i h1;exact⟨h1,h⟩
 cases h
theorem qR{M:Mp}{C:Ct}{k:Key}{l:Lc}(hc:(C k).isSome=true)(h:M k=some l):oq M C k=some l:=by simp[oq,hc,h]
theorem yS{M M':Mp}{C C':Ct}(hm:su M M')(hc:∀k,(C k).isSome=true->(C' k).isSome=true):su (oq M C) (oq M' C'):=by
 intro k l h;obtain⟨h1,h2⟩:=dQ h;obtain⟨l',h3,h4⟩:=hm k l h2;exact⟨l',qR (hc k h1) h3,h4⟩
theorem a0A{M:Mp}{C:Ct}:su (oq M C) M:=fun k l h=>⟨l,(dQ h).2,.refl l⟩
def Good(W D:Nat->Prop)(τ:Nat):Prop:=(∀j,D j->W j->j<τ)∧(∀j,j<τ->W j->D j)∧(τ=0∨W (τ-1))
def a4Z(D:Nat->Prop)(i j:Nat):Prop:=(j<i∧¬D j)∨(i<j∧D j)
theorem Good.le{W D:Nat->Prop}{τ i:Nat}(h:Good W D τ)(hi:¬D i)(hn:∀j,W j->¬a4Z D i j):τ<=i∧∀j,τ<=j->j<i->¬W j:=by
 obtain⟨h1,h2,h3⟩:=h;constructor
 .refine acO fun aQ=>?_;rcases h3 with rfl|h3
  .omega
  have hd:=h2 (τ-1) (by omega) h3;have iE:τ-1≠i:=fun e=>hi (e▸hd);exact hn _ h3 (.inr ⟨by omega,hd⟩)
 intro j hj hji hw;exact hn j hw (.inl ⟨hji,fun hd=>by have:=h1 j hd hw;omega⟩)
theorem Good.next{W D:Nat->Prop}{i:Nat}(hw:W i)(hn:∀j,W j->¬a4Z D i j):Good W (fun j=>D j∨j=i) (i+1):=by
 refine⟨fun j hd hj=>?_,fun j hj VW=>?_,.inr (by simpa using hw)⟩
 .rcases hd with hd|rfl
  .refine Nat.lt_of_not_le fun h=>hn j hj (.inr ⟨by omega,hd⟩)
  omega
 by_cases he:j=i
 .exact .inr he
 refine .inl (abR fun hd=>hn j VW (.inl ⟨by omega,hd⟩))
theorem Good.other{W D:Nat->Prop}{τ i:Nat}(h:Good W D τ)(hw:¬W i):Good W (fun j=>D j∨j=i) τ:=
 ⟨fun j hd hj=>hd.elim (fun h1=>h.1 j h1 hj) (fun e=>absurd (e▸hj) hw),fun j hj VW=>.inl (h.2.1 j hj VW),h.2.2⟩
section
variable {P:Program} {call:aY} {site:Nat->Bool} {nt:Nat} {ops:Array Oper} {M0:Mp} {h0:List HB} {w0:World} {S:Nat->St} {I:Nat->lZ}
def Wk(ops:Array Oper)(S:Nat->St)(I:Nat->lZ)(k:Key)(j:Nat):Prop:=∃o,ops[j]? = some o∧(k∈(I j).ws∨((S j).get k=none∧((S (j+1)).get k).isSome=true))
def Wt(ops:Array Oper)(t j:Nat):Prop:=∃o,ops[j]? = some o∧o.dst=some t
theorem iP.has(hZ:iP P call site nt ops M0 h0 w0 S I){j:Nat}{o:Oper}(ho:ops[j]? = some o){k:Key}(hk:((S j).get k).isSome=true):((S (j+1)).get k).isSome=true:=by
 obtain⟨M,w,M',w',v,he,hx⟩:=hZ.fac j o ho;exact hx.has k hk
theorem iP.wsub(hZ:iP P call site nt ops M0 h0 w0 S I){j:Nat}{o:Oper}(ho:ops[j]? = some o){k:Key}(hk:k∈(I j).ws):((S j).get k).isSome=true:=by
 obtain⟨M,w,M',w',v,he,hx⟩:=hZ.fac j o ho;exact hx.wsub k hk
theorem iP.nD(hZ:iP P call site nt ops M0 h0 w0 S I){j:Nat}{o:Oper}(ho:ops[j]? = some o){k:Key}(hn:¬Wk ops S I k j):(S (j+1)).get k=(S j).get k:=by
 obtain⟨M,w,M',w',v,he,hx⟩:=hZ.fac j o ho;cases hk:(S j).get k with
 |some b=>
  rw[hx.nD k (by simp[hk]) (fun h=>hn ⟨o,ho,.inl h⟩),hk]
 |none=>
  cases o9:(S (j+1)).get k with
  |none=>rfl
  |some b=>exact absurd ⟨o,ho,.inr ⟨hk,by simp[o9]⟩⟩ hn
theorem iP.mono(hZ:iP P call site nt ops M0 h0 w0 S I){k:Key}:∀{i j:Nat},i<=j->j<=ops.size->((S i).get k).isSome=true->((S j).get k).isSome=true:=by
 intro i j A8
 induction A8 with
 |refl=>exact fun _ h=>h
 |step hle ih=>
  rename_i j;intro hj h;exact hZ.has (o:=ops[j]'(by simp at hj;omega)) (a4a _) (ih (by simp at hj;omega) h)
theorem iP.const(hZ:iP P call site nt ops M0 h0 w0 S I){k:Key}:∀{i j:Nat},i<=j->j<=ops.size->(∀x,i<=x->x<j->¬Wk ops S I k x)->(S j).get k=(S i).get k:=by
 intro i j A8
 induction A8 with
 |refl=>exact fun _ _=>rfl
 |step hle ih=>
  rename_i j;intro hj h;simp only[agS]at *;rw[hZ.nD (o:=ops[j]'(by omega)) (a4a _) (h j hle (by omega))];exact ih (by omega) fun x h1 h2=>h x h1 (by omega)
theorem iP.a95(hZ:iP P call site nt ops M0 h0 w0 S I){j:Nat}{o:Oper}(ho:ops[j]? = some o){t:Nat}(hn:¬Wt ops t j):dM t (S (j+1)).env=dM t (S j).env:=by
 obtain⟨M,w,M',w',v,he,hx⟩:=hZ.fac j o ho;rw[he,yQ,a0p (fun h=>hn ⟨o,ho,h⟩)]
theorem iP.YQ(hZ:iP P call site nt ops M0 h0 w0 S I){t:Nat}:∀{i j:Nat},i<=j->j<=ops.size->(∀x,i<=x->x<j->¬Wt ops t x)->dM t (S j).env=dM t (S i).env:=by
 intro i j A8
 induction A8 with
 |refl=>exact fun _ _=>rfl
 |step hle ih=>
  rename_i j;intro hj h;simp only[agS]at *;rw[hZ.a95 (o:=ops[j]'(by omega)) (a4a _) (h j hle (by omega))];exact ih (by omega) fun x h1 h2=>h x h1 (by omega)
theorem iP.YR(hZ:iP P call site nt ops M0 h0 w0 S I){b:Nat}:∀{i j:Nat},i<=j->j<=ops.size->b∈(S i).ws->b∈(S j).ws:=by
 intro i j A8
 induction A8 with
 |refl=>exact fun _ h=>h
 |step hle ih=>
  rename_i j;intro hj h;simp only[agS]at *;rw[(hZ.step j (ops[j]'(by omega)) (a4a _)).a0z];exact oh.2 (.inl (ih (by omega) h))
theorem iP.abD(hZ:iP P call site nt ops M0 h0 w0 S I){j:Nat}{o:Oper}(ho:ops[j]? = some o){k:Key}(hk:k∈(I j).ws)(h0k:(l9 h0 k).isSome=true):k∈(S ops.size).ws.map .h:=by
 obtain⟨b,rfl,hb⟩:=CP h0k;have hj:j<ops.size:=(a2q.1 ho).1;refine a1e.2 ⟨b,hZ.YR (i:=j+1) (by omega) (a0w _) ?_,rfl⟩;rw[(hZ.step j o ho).a0z];exact oh.2 (.inr ⟨hk,hb⟩)
theorem iP.old(hZ:iP P call site nt ops M0 h0 w0 S I){j:Nat}(hj:j<=ops.size){k:Key}(h0k:(l9 h0 k).isSome=true):((S j).get k).isSome=true:=by
 obtain⟨M,a,w,hR⟩:=hZ.ok j hj;exact hR.ext.has k h0k
theorem iP.mark(hZ:iP P call site nt ops M0 h0 w0 S I){k:Key}(hk:(S 0).get k=some .mark):∀j,j<=ops.size->(S j).get k=some .mark:=by
 intro j
 induction j with
 |zero=>exact fun _=>hk
 |succ j ih=>
  intro hj;obtain⟨M,w,M',w',v,he,hx⟩:=hZ.fac j ops[j] (a4a (by omega));have h1:=ih (by omega);rw[hx.nD k (by simp[h1]) (fun CJ=>by have:=(hx.wrote k CJ).2 _ h1;cases this),h1]
structure Inv(nt:Nat)(ops:Array Oper)(M0:Mp)(h0:List HB)(w0:World)(S:Nat->St)(I:Nat->lZ)(D:Nat->Prop)(M:Mp)(a:Act)(w:World):Prop where
 closed:∀j o,ops[j]? = some o->D j->uq D o
 size:nt<=a.tmps.size
 mem:∀k l,M k=some l->∃τ,τ<=ops.size∧Good (Wk ops S I k) D τ∧∃b,(S τ).get k=some b∧pO (oq M (S τ).get).h w b l ∧
  (wr b=true->∀k' l',k≠k'->M k'=some l'->∀c∈aI l,c∉aI l')
 inb:∀k l,M k=some l->∀c∈aI l,c<w.heap.size
 slot:∀t,∃τ,τ<=ops.size∧Good (Wt ops t) D τ∧∀e,dM t (S τ).env=some e->ER (oq M (S τ).get) e (a.tmps.getD t Go.undef)
 Rl:∀j o k,ops[j]? = some o->D j->k∈(I j).ws->(M k).isSome=true
 Iu:su M0 M
 frame:∀c,c<w0.heap.size->(∀k∈(S ops.size).ws.map Key.h,∀l,M0 k=some l->c∉aI l)->w.heap[c]? = w0.heap[c]?
 lD:∀k,((l9 h0 k).isSome=true∨(S ops.size).get k=none)->k∉(S ops.size).ws.map Key.h->M k=M0 k
 fresh:∀k l,M k=some l->∀c∈aI l,c<w0.heap.size->∃l0,M0 k=some l0∧c∈aI l0
 EI:w0.heap.size<=w.heap.size
 os:w.os=w0.os
 output:w.output=w0.output
 tape:w.tape=w0.tape
 marks:∀d∈a.defers,∃k r,d=⟨.collected r,#[]⟩∧l9 h0 (.h k)=none∧(∃o,M (.h k)=some (.obj r o))∧(∀j,j<=ops.size->(S j).get (.h k)=some .mark)∧w.heap[r]? = some (.deferred (some []))
 apart:a.defers.Pairwise (·≠·)
theorem a2x(hZ:iP P call site nt ops M0 h0 w0 S I){M:Mp}{a:Act}{w:World}(hR:Rel M0 h0 w0 nt M (S 0) a w):Inv nt ops M0 h0 w0 S I (fun _=>False) M a w where
 closed:=fun _ _ _ h=>h.elim
 size:=hR.size
 mem:=fun k l hk=>by
  obtain⟨b,h1,h2⟩:=hR.val.ok k l hk trivial;have hm:su M (oq M (S 0).get):=fun k l h=>⟨l,qR (hR.val.has h) h,.refl l⟩;exact⟨0,by omega,⟨fun _ h=>h.elim,fun _ h=>by omega,.inl rfl⟩,b,h1,h2.mono hm.h fun _ _=>rfl,fun hw k' l' iE o9=>hR.val.own k k' l l' b iE hk o9 trivial h1 hw⟩
 inb:=hR.val.inb
 slot:=fun t=>⟨0,by omega,⟨fun _ h=>h.elim,fun _ h=>by omega,.inl rfl⟩,fun e he=>by
  have hm:su M (oq M (S 0).get):=fun k l h=>⟨l,qR (hR.val.has h) h,.refl l⟩;exact(hR.env t e he).mono hm fun k l h=>qR (hR.val.has h) h⟩
 Rl:=fun _ _ _ _ h=>h.elim
 Iu:=hR.ext.Iu
 frame:=fun c hc hf=>hR.ext.frame c hc fun k hk l hl=>by
  obtain⟨b,hb,rfl⟩:=a1e.1 hk;exact hf _ (a1e.2 ⟨b,hZ.YR (a4C _) (a0w _) hb,rfl⟩) l hl
 lD:=fun k hk hn=>by
  refine hR.ext.lD k (hk.imp id fun h=>?_) (fun h=>hn ?_)
  .cases hc:(S 0).get k with
   |none=>rfl
   |some b=>have:=hZ.mono (k:=k) (a4C _) (a0w _) (by simp[hc]);simp[h]at this
  .obtain⟨b,hb,rfl⟩:=a1e.1 h;exact a1e.2 ⟨b,hZ.YR (a4C _) (a0w _) hb,rfl⟩
 fresh:=hR.ext.fresh
 EI:=hR.ext.size
 os:=hR.ext.os
 output:=hR.ext.output
 tape:=hR.ext.tape
 marks:=fun d hd=>by
  obtain⟨k,r,h1,h2,h3,h4,h5⟩:=hR.marks d hd;exact⟨k,r,h1,h2,h3,hZ.mark h4,h5⟩
 apart:=hR.apart
theorem Wk.lt{k:Key}{j:Nat}(h:Wk ops S I k j):j<ops.size:=by
 obtain⟨o,ho,_⟩:=h;exact(a2q.1 ho).1
theorem a0B(hZ:iP P call site nt ops M0 h0 w0 S I){D:Nat->Prop}{M:Mp}{a:Act}{w:World}(h:Inv nt ops M0 h0 w0 S I D M a w)(hD:∀j,j<ops.size->D j):Rel M0 h0 w0 nt M (S ops.size) a w:=by
 have key:∀k l,M k=some l->∃b,(S ops.size).get k=some b∧pO M.h w b l∧(wr b=true->∀k' l',k≠k'->M k'=some l'->∀c∈aI l,c∉aI l'):=by
  intro k l hk;obtain⟨τ,ht,hg,b,h1,h2,h3⟩:=h.mem k l hk;refine⟨b,?_,h2.mono a0A.h fun _ _=>rfl,h3⟩;rw[hZ.const ht (a0w _) fun x h4 h5 hw=>?_,h1];have:=hg.1 x (hD x h5) hw;omega
 refine⟨⟨?_,?_,h.inb⟩,?_,?_,h.size,fun d hd=>by
  obtain⟨k,r,h1,h2,h3,h4,h5⟩:=h.marks d hd;exact⟨k,r,h1,h2,h3,h4 _ (a0w _),h5⟩,h.apart⟩
 .intro k l hk _;obtain⟨b,h1,h2,_⟩:=key k l hk;exact⟨b,h1,h2⟩
 .intro k k' l l' b iE hk o9 _ hb hw;obtain⟨b',h1,_,h3⟩:=key k l hk;rw[hb]at h1;cases h1;exact h3 hw k' l' iE o9
 .obtain⟨M',a',w',FB⟩:=hZ.ok ops.size (a0w _);exact⟨h.Iu,h.frame,FB.ext.nD,h.lD,h.fresh,h.EI,FB.ext.has,FB.ext.wsub,FB.ext.wrote,h.os,h.output,h.tape⟩
 intro t e he;obtain⟨τ,ht,hg,h1⟩:=h.slot t;rw[hZ.YQ ht (a0w _) fun x h4 h5 hw=>by have:=hg.1 x (hD x h5) hw;omega]at he;exact(h1 e he).mono a0A fun k l hk=>(dQ hk).2
theorem IV{a b:Oper}(h:Bh a b=true):∃t m k,a.op=.lookup t (.tmp m) (.tmp k) false∧b.op=.mapEntry t (.tmp m) (.tmp k)∧a.guard=none∧b.guard=none:=by
 unfold Bh at h;split at h
 .rename_i h1 h2 h3 h4;simp only[a2n,a7H]at h;obtain⟨⟨rfl,rfl⟩,rfl⟩:=h;exact⟨_,_,_,h1,h2,h3,h4⟩
 cases h
theorem a96(hZ:iP P call site nt ops M0 h0 w0 S I){x:Nat}{a b:Oper}(ha:ops[x]? = some a)(h:Bh a b=true):(I x).ws=[]:=by
 obtain⟨t,m,k,e,_⟩:=IV h;exact(hZ.step x a ha).w (by rw[e];rfl)
theorem Inv.conf(hZ:iP P call site nt ops M0 h0 w0 S I){D:Nat->Prop}{M:Mp}{a:Act}{w:World}(h:Inv nt ops M0 h0 w0 S I D M a w){i j:Nat}{oi oj:Oper}(hi:ops[i]? = some oi)(hj:ops[j]? = some oj)
  (jA:¬D i) (hw:uq D oi) (hc:a4Z D i j):((i<j∧Bh oi oj=true)∨∀k∈(I j).ws,¬og (I i) k)∧oj.apart ops oi=true∧oi.apart ops oj=true:=by
 have qm:∀j o,ops.toList[j]? = some o->D j->uq D o:=fun j o ho=>h.closed j o (by simpa using ho);have vZ:ops.toList[i]? = some oi:=by simpa using hi
 have DV:ops.toList[j]? = some oj:=by simpa using hj
 have li:i<ops.toList.length:=(a0d.1 vZ).1;have lj:j<ops.toList.length:=(a0d.1 DV).1;rcases hc with⟨aQ,hd⟩|⟨aQ,hd⟩
 .have hp:=yE aQ li fun CJ=>hd (U6 qm i oi vZ hw j CJ);have h1:=hZ.calm j i oj oi hp hj hi;have h2:=Aa hZ.stat hp DV vZ;refine⟨.inr ?_,h2.1,h2.2⟩;rcases h1 with h1|h1
  .rw[a96 hZ hj h1];intro k hk;cases hk
  .exact h1.1
 .have hp:=yE aQ lj fun CJ=>jA (U6 qm j oj DV (qm j oj DV hd) i CJ);have h1:=hZ.calm i j oi oj hp hi hj;have h2:=Aa hZ.stat hp vZ DV;exact⟨h1.imp (fun h=>⟨aQ,h⟩) fun h=>h.2,h2.2,h2.1⟩
end
section
variable {P:Program} {call:aY} {site:Nat->Bool} {nt:Nat} {ops:Array Oper} {M0:Mp} {h0:List HB} {w0:World} {S:Nat->St} {I:Nat->lZ}
variable {D:Nat->Prop} {M:Mp} {a:Act} {w:World} {i:Nat} {oi:Oper}
theorem Inv.Ac(hZ:iP P call site nt ops M0 h0 w0 S I)(h:Inv nt ops M0 h0 w0 S I D M a w){j:Nat}{o:Oper}(hj:ops[j]? = some o)(hd:¬D j){k:Key}(h1:(S j).get k=none)(h2:((S (j+1)).get k).isSome=true):M k=none:=by
 cases hm:M k with
 |none=>rfl
 |some l=>
  obtain⟨τ,ht,hg,b,h3,_⟩:=h.mem k l hm;have hlj:j<ops.size:=(a2q.1 hj).1;by_cases hle:τ<=j
  .have:=hZ.mono hle (by omega) (k:=k) (by simp[h3]);simp[h1]at this
  exact absurd (hg.2.1 j (by omega) ⟨o,hj,.inr ⟨h1,h2⟩⟩) hd
theorem Inv.a5a(hZ:iP P call site nt ops M0 h0 w0 S I)(h:Inv nt ops M0 h0 w0 S I D M a w)(hi:ops[i]? = some oi)(jA:¬D i)(hw:uq D oi)(hns:∀o,Bh oi o=false){k:Key}{l:Lc}(hk:M k=some l)
  (hs:((S i).get k).isSome=true) (ht:og (I i) k):∀j,Wk ops S I k j->¬a4Z D i j:=by
 intro j hwk hc;have hlj:=hwk.lt;obtain⟨oj,hj,h1|⟨h1,h2⟩⟩:=hwk
 .exact(h.conf hZ hi hj jA hw hc).1.resolve_left (fun h=>by have:=hns oj;rw[h.2]at this;cases this) k h1 ht
 .rcases hc with⟨aQ,hd⟩|⟨aQ,hd⟩
  .have:=h.Ac hZ hj hd h1 h2;rw[hk]at this;cases this
  .have:=hZ.mono (k:=k) (a99 aQ) (by omega) hs;simp[h1]at this
theorem Inv.cur(hZ:iP P call site nt ops M0 h0 w0 S I)(h:Inv nt ops M0 h0 w0 S I D M a w)(hi:ops[i]? = some oi)(jA:¬D i)(hw:uq D oi)(hns:∀o,Bh oi o=false){k:Key}{l:Lc}(hk:M k=some l)
  (hs:((S i).get k).isSome=true) (ht:og (I i) k):∃b,(S i).get k=some b∧pO (oq M (S i).get).h w b l∧(wr b=true->∀k' l',k≠k'->M k'=some l'->∀c∈aI l,c∉aI l'):=by
 have hli:i<ops.size:=(a2q.1 hi).1;obtain⟨τ,hτ,hg,b,h1,h2,h3⟩:=h.mem k l hk;obtain⟨g1,g2⟩:=hg.le jA (h.a5a hZ hi jA hw hns hk hs ht);refine⟨b,?_,h2.mono (yS (.refl M) fun k' o9=>hZ.mono g1 (by omega) o9).h fun _ _=>rfl,h3⟩;rw[hZ.const g1 (by omega) g2,h1]
theorem Inv.LK(hZ:iP P call site nt ops M0 h0 w0 S I)(h:Inv nt ops M0 h0 w0 S I D M a w)(hi:ops[i]? = some oi)(jA:¬D i)(hw:uq D oi){t:Nat}(ht:t∈oi.looksAt ops){e:EV}
  (he:dM t (S i).env=some e):ER (oq M (S i).get) e (a.tmps.getD t Go.undef):=by
 have hli:i<ops.size:=(a2q.1 hi).1;obtain⟨τ,hτ,hg,h1⟩:=h.slot t;obtain⟨g1,g2⟩:=hg.le jA fun j hwt hc=>by
  obtain⟨oj,hj,hd⟩:=hwt;exact(Oper.apart_spec (h.conf hZ hi hj jA hw hc).2.1).1 t hd ht
 rw[hZ.YQ g1 (by omega) g2]at he;exact(h1 e he).mono (yS (.refl M) fun k' o9=>hZ.mono g1 (by omega) o9) fun k l hk=>by
  obtain⟨x1,x2⟩:=dQ hk;exact qR (hZ.mono g1 (by omega) x1) x2
def lW(M' M:Mp):Mp:=fun k=>match M' k with
 |some l=>some l
 |none=>M k
theorem a2z(hC:iF P call)(hZ:iP P call site nt ops M0 h0 w0 S I)(h:Inv nt ops M0 h0 w0 S I D M a w)(hi:ops[i]? = some oi)(jA:¬D i)(hw:uq D oi)(hns:∀o,Bh oi o=false)
  {r:Option Nat} {n:Nat} {Q:Exit->Act->World->Prop} {K:Act->World->Prop} (hK:∀M' a' w',Inv nt ops M0 h0 w0 S I (fun j=>D j∨j=i) M' a' w'->a'.defers=a.defers->K a' w') :
  wpOpIn (nK r) n P ops Q i K a w:=by
 have hli:i<ops.size:=(a2q.1 hi).1;have hS:=hZ.step i oi hi;have hV:Valid (oq M (S i).get) (og (I i)) (S i).get w:=by
  refine⟨fun k l hk ht=>?_,fun k k' l l' b iE hk o9 ht hb Yn=>?_,fun k l hk=>h.inb k l (dQ hk).2⟩
  .obtain⟨x1,x2⟩:=dQ hk;obtain⟨b,h1,h2,_⟩:=h.cur hZ hi jA hw hns x2 x1 ht;exact⟨b,h1,h2⟩
  .obtain⟨x1,x2⟩:=dQ hk;obtain⟨b',h1,_,h3⟩:=h.cur hZ hi jA hw hns x2 x1 ht;rw[hb]at h1;cases h1;exact h3 Yn k' l' iE (dQ o9).2
 have yL:oq M (S i).get (.h (S i).heap.length)=none:=by simp[oq,St.get]
 have hnl:oq M (S i).get (.l (S i).loc.length)=none:=by simp[oq,St.get]
 have yP:∀j l,oq M (S i).get (.l j)=some l->∀k' l',Key.l j≠k'->oq M (S i).get k'=some l'->∀c∈aI l,c∉aI l':=by
  intro j l hj k' l' iE o9;obtain⟨τ,_,_,b,h1,_,h3⟩:=h.mem _ _ (dQ hj).2;refine h3 ?_ k' l' iE (dQ o9).2;simp only[St.get,a0f]at h1;obtain⟨_,_,rfl⟩:=h1;rfl
 have hE:Gq (oq M (S i).get) (S i).env a oi.op.operands:=by
  intro x hx e he;cases x with
  |tmp t=>exact h.LK hZ hi jA hw (a5N _ (a7d.2 ⟨.tmp t,by simpa using hx,rfl⟩)) he
  |const v=>
   simp only[Ir,a0f]at he;obtain⟨t,h1,rfl⟩:=he;exact .val (.yA h1)
  |func f=>
   simp only[Ir,a03]at he;subst he;exact .val (VR.fn (xs:=[]) (ys:=[]) rfl (by simp) rfl (by simp))
  |global g=>simp[Ir]at he
 have hG:LH (oq M (S i).get) (S i).env a.tmps ops oi:=by
  intro j want d hg hd e he;exact h.LK hZ hi jA hw (abE _ (by simp[hg,hd])) he
 refine(a0x hC hS hV yL hnl yP hE hG fun _ ht _=>ht).2 r n Q i K hi fun x w' vT=>?_;obtain⟨v,M',he,hp⟩:=vT;have hX:=hp.ext;have F1:∀k l,M' k=some l->((S (i+1)).get k).isSome=true:=by
  intro k l hk;cases hc:(S (i+1)).get k with
  |some b=>rfl
  |none=>
   have hn:k∉(I i).ws:=fun CJ=>by
    have:=hX.has k (hX.wsub k CJ);simp[hc]at this
   have:=hX.lD k (.inr hc) hn;rw[hk]at this;have:=hX.has k (dQ this.symm).1;simp[hc]at this
 have F5:∀k l l',M k=some l->M' k=some l'->((S i).get k).isSome=true:=by
  intro k l l' hk o9;cases hc:(S i).get k with
  |some b=>rfl
  |none=>
   have:=h.Ac hZ hi jA hc (F1 k l' o9);rw[hk]at this;cases this
 have F4:su M (lW M' M):=by
  intro k l hk;cases hm:M' k with
  |none=>exact⟨l,by simp[lW,hm,hk],.refl l⟩
  |some l'=>
   obtain⟨l'',h1,h2⟩:=hX.Iu k l (qR (F5 k l l' hk hm) hk);exact⟨l'',by simp[lW,h1],h2⟩
 have F2:∀k,¬Wk ops S I k i->lW M' M k=M k:=by
  intro k hn;cases hm:M' k with
  |none=>simp[lW,hm]
  |some l'=>
   cases hc:(S i).get k with
   |none=>
    exact absurd ⟨oi,hi,.inr ⟨hc,F1 k l' hm⟩⟩ hn
   |some b=>
    have h1:=hX.lD k (.inl (by simp[hc])) fun CJ=>hn ⟨oi,hi,.inl CJ⟩;rw[hm]at h1;simp only[lW,hm,(dQ h1.symm).2]
 have F6:su M' (oq (lW M' M) (S (i+1)).get):=fun k l hk=>⟨l,qR (F1 k l hk) (by simp[lW,hk]),.refl l⟩;have F7:∀k l,M (.l k)=some l->lW M' M (.l k)=some l:=by
  intro k l hk;cases hm:M' (.l k)with
  |none=>simp[lW,hm,hk]
  |some l'=>
   have:=hp.loc k l (qR (F5 _ l l' hk hm) hk);simp[lW,this]
 have a5c:∀k∈(I i).ws,∀l,M k=some l->∀k' l',k≠k'->M k'=some l'->∀c∈aI l,c∉aI l':=by
  intro k hk l hl;have hs:=hX.wsub k hk;obtain⟨b,h1,_,h3⟩:=h.cur hZ hi jA hw hns hl hs (.inr (.inl hk));exact h3 ((hX.wrote k hk).2 b h1)
 have hWM:∀k l,Wk ops S I k i->lW M' M k=some l->M' k=some l∧(og (I i) k∨((S i).get k=none∧((S (i+1)).get k).isSome=true)):=by
  intro k l hW hk;obtain⟨o,ho,h1|⟨h1,h2⟩⟩:=hW
  .obtain⟨l0,qJ⟩:=a5v.1 (hX.wrote k h1).1;obtain⟨l',h2,_⟩:=hX.Iu k l0 qJ;simp only[lW,h2]at hk;exact⟨h2.trans hk,.inl (.inr (.inl h1))⟩
  .have:=h.Ac hZ hi jA h1 h2;cases hm:M' k with
   |none=>simp[lW,hm,this]at hk
   |some l'=>simp only[lW,hm]at hk;exact⟨hk,.inr ⟨h1,h2⟩⟩
 have ant:∀k,Wk ops S I k i->∀j,Wk ops S I k j->¬a4Z D i j:=by
  intro k hW;obtain⟨o,ho,h1|⟨h1,h2⟩⟩:=hW
  .obtain⟨l0,qJ⟩:=a5v.1 (hX.wrote k h1).1;exact h.a5a hZ hi jA hw hns (dQ qJ).2 (hX.wsub k h1) (.inr (.inl h1))
  .intro j hwk hc;have hlj:=hwk.lt;obtain⟨oj,hj,g1|⟨g1,g2⟩⟩:=hwk
   .have hsj:=hZ.wsub hj g1;rcases hc with⟨aQ,hd⟩|⟨aQ,hd⟩
    .have:=hZ.mono (k:=k) (a99 aQ) (by omega) hsj;simp[h1]at this
    .have:=h.Rl j oj k hj hd g1;rw[h.Ac hZ hi jA h1 h2]at this;cases this
   .rcases hc with⟨aQ,hd⟩|⟨aQ,hd⟩
    .have:=hZ.mono (k:=k) (i:=j+1) (j:=i) aQ (by omega) g2;simp[h1]at this
    .have:=hZ.mono (k:=k) (i:=i+1) (j:=j) aQ (by omega) h2;simp[g1]at this
 refine hK (lW M' M) _ w' ?_ jL;refine
  {closed:=fun j o ho hd e hm hb=>?_
   size:=by rw[Gw];exact h.size
   mem:=fun k l hk=>?_
   inb:=fun k l hk c hc=>?_
   slot:=fun t=>?_
   Rl:=fun j o k ho hd hk=>?_
   Iu:=h.Iu.trans F4
   frame:=fun c hc hf=>?_
   lD:=fun k hk hn=>?_
   fresh:=fun k l hk c hc aQ=>?_
   EI:=a4T h.EI hX.size
   os:=hX.os.trans h.os
   output:=hX.output.trans h.output
   tape:=hX.tape.trans h.tape
   marks:=fun d hd=>by
    rw[jL]at hd;obtain⟨k,r,h1,h2,⟨o,h3⟩,h4,h5⟩:=h.marks d hd;obtain⟨l',g1,g2⟩:=F4 _ _ h3;obtain⟨o',hl⟩:∃o',l'=.obj r o':=by
     cases l' with
     |cells ls=>exact g2.elim
     |obj r' o'=>cases g2.1;exact⟨o',rfl⟩
    refine⟨k,r,h1,h2,⟨o',by rw[g1,hl]⟩,h4,?_⟩;rw[hX.frame r (a2q.1 h5).1 fun k' o9 l0 qJ hc=>?_,h5];have iE:k'≠.h k:=fun e=>by
     have:=(hX.wrote _ o9).2 _ (e▸h4 i (by omega));cases this
    exact a5c k' o9 l0 (dQ qJ).2 _ _ iE h3 r hc (by simp[aI])
   apart:=by rw[jL];exact h.apart }
 .rcases hd with hd|rfl
  .exact .inl (h.closed j o ho hd e hm hb)
  .rw[hi]at ho;cases ho;exact .inl (hw e hm hb)
 .by_cases hW:Wk ops S I k i
  .obtain⟨hm,hD⟩:=hWM k l hW hk;obtain⟨b,h1,h2⟩:=hp.val.ok k l hm hD;refine⟨i+1,by omega,Good.next hW (ant k hW),b,h1,h2.mono F6.h fun _ _=>rfl,fun Yn k' l' iE o9=>?_⟩;cases hm':M' k' with
   |some l''=>
    simp only[lW,hm']at o9;cases o9;exact hp.val.own k k' l l' b iE hm hm' hD h1 Yn
   |none=>
    simp only[lW,hm']at o9;intro c hc Qi;obtain⟨l0,g1,g2⟩:=hX.fresh k l hm c hc (h.inb k' l' o9 c Qi);obtain⟨g3,g4⟩:=dQ g1;obtain⟨o,ho,g5|⟨g5,_⟩⟩:=hW
    .exact a5c k g5 l0 g4 k' l' iE o9 c g2 Qi
    .simp[g5]at g3
  .rw[F2 k hW]at hk;obtain⟨τ,hτ,hg,b,h1,h2,h3⟩:=h.mem k l hk;refine⟨τ,hτ,hg.other hW,b,h1,h2.mono (yS F4 fun _ hs=>hs).h fun c hc=>?_,fun Yn k' l' iE o9=>?_⟩
   .refine hX.frame c (h.inb k l hk c hc) fun k'' ahH l'' anu anv=>?_;have iE:k''≠k:=fun e=>hW ⟨oi,hi,.inl (e▸ahH)⟩;exact a5c k'' ahH l'' (dQ anu).2 k l iE hk c anv hc
   .cases hm':M' k' with
    |some l''=>
     simp only[lW,hm']at o9;cases o9;intro c hc Qi;obtain⟨l0,g1,g2⟩:=hX.fresh k' l' hm' c Qi (h.inb k l hk c hc);exact h3 Yn k' l0 iE (dQ g1).2 c hc g2
    |none=>
     simp only[lW,hm']at o9;exact h3 Yn k' l' iE o9
 .cases hm:M' k with
  |some l'=>
   simp only[lW,hm]at hk;cases hk;exact hp.val.inb k l hm c hc
  |none=>
   simp only[lW,hm]at hk;exact a90 (h.inb k l hk c hc) hX.size
 .by_cases hT:oi.dst=some t
  .refine⟨i+1,by omega,Good.next (W:=Wt ops t) ⟨oi,hi,hT⟩ (fun j hwt hc=>?_),fun e hl=>?_⟩
   .obtain⟨oj,hj,hd⟩:=hwt;exact(Oper.apart_spec (h.conf hZ hi hj jA hw hc).2.2).2.1 t hT hd
   .rw[he,yQ,a0q hT]at hl;cases hl;have h1:=hS.dst hT;have h2:=h.size;rw[yR,a0q ⟨hT,by omega⟩];exact hp.er.mono F6 fun k l hk=>qR (F1 _ l hk) (by simp[lW,hk])
  .obtain⟨τ,hτ,hg,h1⟩:=h.slot t;refine⟨τ,hτ,hg.other fun⟨o,ho,hd⟩=>?_,fun e hl=>?_⟩
   .rw[hi]at ho;cases ho;exact hT hd
   .rw[yR,a0p fun hh=>hT hh.1];refine(h1 e hl).mono (yS F4 fun _ hs=>hs) fun k l hk=>?_;obtain⟨g1,g2⟩:=dQ hk;exact qR g1 (F7 k l g2)
 .have hM:∀k,(M k).isSome=true->(lW M' M k).isSome=true:=by
   intro k hk;obtain⟨l,hl⟩:=a5v.1 hk;obtain⟨l',h1,_⟩:=F4 k l hl;simp[h1]
  rcases hd with hd|rfl
  .exact hM k (h.Rl j o k ho hd hk)
  .obtain⟨l0,qJ⟩:=a5v.1 (hX.wrote k hk).1;exact hM k (by simp[(dQ qJ).2])
 .rw[<-h.frame c hc hf];refine hX.frame c (a90 hc h.EI) fun k hk l hl qm=>?_;obtain⟨l0,h1,h2⟩:=h.fresh k l (dQ hl).2 c qm hc;exact hf k (hZ.abD hi hk (hZ.base.val.has h1)) l0 h1 h2
 .rw[<-h.lD k hk hn];refine F2 k fun hW=>?_;obtain⟨o,ho,h1|⟨h1,h2⟩⟩:=hW
  .rcases hk with hk|hk
   .exact hn (hZ.abD hi h1 hk)
   .have:=hZ.mono (k:=k) (i:=i) (a99 hli) (a0w _) (hX.wsub k h1);simp[hk]at this
  .rcases hk with hk|hk
   .have:=hZ.old (a99 hli) hk;simp[h1]at this
   .have:=hZ.mono (k:=k) (i:=i+1) hli (a0w _) h2;simp[hk]at this
 .cases hm:M' k with
  |some l'=>
   simp only[lW,hm]at hk;cases hk;obtain⟨l0,h1,h2⟩:=hX.fresh k l hm c hc (a90 aQ h.EI);exact h.fresh k l0 (dQ h1).2 c h2 aQ
  |none=>
   simp only[lW,hm]at hk;exact h.fresh k l hk c hc aQ
def TP(listed:Array Bool):Nat->Nat
 | 0=>0
 |k+1=>TP listed k+if listed.getD k false=true then 0 else 1
theorem a2B{t:TypeId}{m k v:TV}{e:EV}{s s1:St}{inf:lZ}(he:Cc P t s m k=some (e,s1,inf))(hl:gZ P t s.heap m k false=some v):gZ P t s1.heap m k false=some v∧∃a x,v=.int a x:=by
 unfold Cc at he;split at he
 .split at he
  .rename_i hk;cases he;unfold a0e at hk;rw[hl]at hk;split at hk
   .rename_i h1 h2;cases h1;simp only[a2n,a1o,a7H]at hk;obtain⟨rfl,rfl⟩:=hk;exact⟨h2,_,_,rfl⟩
   cases hk
  cases he
 cases he
theorem U7{t:TypeId}{r:Nat}{k:TV}{h h':List HB}(e:h'[r]? = h[r]?):gZ P t h' (.map r) k false=gZ P t h (.map r) k false:=by
 unfold gZ;simp only[e]
theorem Inv.a0C(hZ:iP P call site nt ops M0 h0 w0 S I)(h:Inv nt ops M0 h0 w0 S I D M a w)(hi:ops[i]? = some oi)(jA:¬D i)(hw:uq D oi){x:Nat}{ox:Oper}(hx:ops[x]? = some ox)(hix:i<x)(hdx:D x){t:Nat}
  (ht:t∈oi.looksAt ops) (ht2:t∈ox.looksAt ops):dM t (S x).env=dM t (S i).env:=by
 have hlx:x<ops.size:=(a2q.1 hx).1;refine hZ.YQ (a99 hix) (a99 hlx) fun y h1 h2 hwt=>?_;obtain⟨oy,hy,hd⟩:=hwt;have Fh:ops.toList[x]? = some ox:=by simpa using hx
 have hy':ops.toList[y]? = some oy:=by simpa using hy
 have qm:∀j o,ops.toList[j]? = some o->D j->uq D o:=fun j o ho=>h.closed j o (by simpa using ho);by_cases CJ:y∈VT ops.toList x
 .have hdy:=U6 qm x ox Fh (qm x ox Fh hdx) y CJ;have iE:i<y:=by
   rcases a4h i y with h3|h3
   .exact h3
   .have:y=i:=(by omega);subst this;exact absurd hdy jA
  exact(Oper.apart_spec (h.conf hZ hi hy jA hw (.inr ⟨iE,hdy⟩)).2.1).1 t hd ht
 .have hp:=yE h2 (by simpa using hlx) CJ;have:=(Aa hZ.stat hp hy' Fh).1;rw[show ops.toList.toArray=ops by simp]at this;exact(Oper.apart_spec this).1 t hd ht2
theorem LM{t:TypeId}{m k:Nat}(jK:oi.op=.lookup t (.tmp m) (.tmp k) false):m∈oi.looksAt ops∧k∈oi.looksAt ops:=by
 constructor
 .exact a5N _ (a7d.2 ⟨.tmp m,by simp[jK,Op.operands],rfl⟩)
 exact a5N _ (a7d.2 ⟨.tmp k,by simp[jK,Op.operands],rfl⟩)
theorem VX{ox:Oper}{t:TypeId}{m k:Nat}(jK:ox.op=.mapEntry t (.tmp m) (.tmp k)):m∈ox.looksAt ops∧k∈ox.looksAt ops:=by
 constructor
 .exact a5N _ (a7d.2 ⟨.tmp m,by simp[jK,Op.operands],rfl⟩)
 exact a5N _ (a7d.2 ⟨.tmp k,by simp[jK,Op.operands],rfl⟩)
theorem a0D{env:List (Nat×EV)}{m:Nat}{v:TV}(h:qK env (.tmp m)=some v):dM m env=some (.val v):=by
 unfold qK at h;split at h
 .rename_i x hx;cases h;exact hx
 cases h
theorem a5d{env env':List (Nat×EV)}{m:Nat}(h:dM m env=dM m env'):qK env (.tmp m)=qK env' (.tmp m):=by
 unfold qK Ir;simp only[h]
theorem Inv.chain(hZ:iP P call site nt ops M0 h0 w0 S I)(h:Inv nt ops M0 h0 w0 S I D M a w)(hi:ops[i]? = some oi)(jA:¬D i)(hw:uq D oi){t:TypeId}{m k r τ x:Nat}{kv z:TV}{ox:Oper}(jK:oi.op=.lookup t (.tmp m) (.tmp k) false)
  (e1:qK (S i).env (.tmp m)=some (.map r)) (e2:qK (S i).env (.tmp k)=some kv) (hs:((S i).get (.h r)).isSome=true) (hg:Good (Wk ops S I (.h r)) D τ) (hwk:Wk ops S I (.h r) x) (hix:i<=x) (hxτ:x<τ) (NQ:x<ops.size) (a5e:og (I i) (.h r))
  (ih:gZ P t (S x).heap (.map r) kv false=some z) (hx:ops[x]? = some ox):gZ P t (S (x+1)).heap (.map r) kv false=some z∧∃a b,z=.int a b:=by
 have hdx:=hg.2.1 x hxτ hwk;have iE:i<x:=by
  rcases a4h i x with h3|h3
  .exact h3
  .have:x=i:=(by omega);subst this;exact absurd hdx jA
 obtain⟨oy,hy,g1|⟨g1,_⟩⟩:=hwk
 .rw[hx]at hy;cases hy;rcases(h.conf hZ hi hx jA hw (.inr ⟨iE,hdx⟩)).1 with⟨_,h6⟩|h6
  .obtain⟨t',m',k',p1,p2,p3,p4⟩:=IV h6;rw[jK]at p1;cases p1;have hm:=h.a0C hZ hi jA hw hx iE hdx (LM (ops:=ops) jK).1 (VX (ops:=ops) p2).1;have hk:=h.a0C hZ hi jA hw hx iE hdx (LM (ops:=ops) jK).2 (VX (ops:=ops) p2).2;obtain⟨_,⟨_,v,s1,q1,q2⟩|⟨q1,_⟩⟩:=hZ.step x ox hx
   .simp only[pz,p2,a5d hm,a5d hk,e1,e2]at q1;have:=a2B q1 ih;rw[q2];have e5:(St.put { s1 with ws:=jX h0.length (I x).ws (S x).ws } ox.dst v).heap=s1.heap:=by
     cases ox.dst<;>rfl
    rw[e5];exact this
   .unfold Ce at q1;rw[p4]at q1;cases q1
  .exact absurd a5e (h6 _ g1)
 .have:=hZ.mono hix (by omega) hs;rw[g1]at this;cases this
theorem Inv.look(hZ:iP P call site nt ops M0 h0 w0 S I)(h:Inv nt ops M0 h0 w0 S I D M a w)(hi:ops[i]? = some oi)(jA:¬D i)(hw:uq D oi){t:TypeId}{m k:Nat}(jK:oi.op=.lookup t (.tmp m) (.tmp k) false)
  {mv kv z:TV} (e1:qK (S i).env (.tmp m)=some mv) (e2:qK (S i).env (.tmp k)=some kv) (e3:gZ P t (S i).heap mv kv false=some z) (e4:∀r,mv=.map r->I i=iq [.h r]) :
  ∃x,(Instr.lookup t (a.tmps.getD m Go.undef) (a.tmps.getD k Go.undef) false).run P w=.ok x w∧VR (oq M (S i).get).h z x:=by
 have hli:i<ops.size:=(a2q.1 hi).1;have am:VR (oq M (S i).get).h mv (a.tmps.getD m Go.undef):=by
  have:=h.LK hZ hi jA hw (LM (ops:=ops) jK).1 (a0D e1);cases this;assumption
 have ak:VR (oq M (S i).get).h kv (a.tmps.getD k Go.undef):=by
  have:=h.LK hZ hi jA hw (LM (ops:=ops) jK).2 (a0D e2);cases this;assumption
 have plain:(∀r,mv≠.map r)->∃x,(Instr.lookup t (a.tmps.getD m Go.undef) (a.tmps.getD k Go.undef) false).run P w=.ok x w∧VR (oq M (S i).get).h z x:=fun hm=>by
  have hV:Valid (oq M (S i).get) (fun _=>False) (S i).get w:=⟨fun _ _ _ h=>h.elim,fun _ _ _ _ _ _ _ _ h=>h.elim,fun k l hk=>h.inb k l (dQ hk).2⟩;obtain⟨x,g1,g2⟩:=DZ hV e3 am ak fun j hj=>by
   split at hj
   .exact absurd rfl (hm _)
   .cases hj
  exact⟨x,g2,g1⟩
 by_cases a4J:∃r,mv=.map r
 case neg=>exact plain fun r e=>a4J ⟨r,e⟩
 obtain⟨r,rfl⟩:=a4J;have e4:I i=iq [.h r]:=e4 r rfl;have a5e:og (I i) (.h r):=by rw[e4];exact .inl (by simp[iq])
 generalize hX:a.tmps.getD m Go.undef=X at am ⊢;cases am with
 |map hr=>
  rename_i r1 o;have hr:oq M (S i).get (.h r)=some (.obj r1 o):=hr;obtain⟨hs,hM⟩:=dQ hr;obtain⟨τ,hτ,hg,b,h1,h2,h3⟩:=h.mem _ _ hM;have own:∀{N:Mp},(∀k l,N k=some l->M k=some l)->∀(C:Ct) (bb:HB),C (.h r)=some bb->(wr bb=true->wr b=true)->pO N.h w bb (.obj r1 o)->N (.h r)=some (.obj r1 o)->Valid N (fun k=>k=.h r) C w:=fun{N} hN C bb hb Yn QI hNr=>
   ⟨fun k l hk e=>by subst e;rw[hNr]at hk;cases hk;exact⟨bb,hb,QI⟩,fun k k' l l' b' iE hk o9 e qI hwb=>by
    subst e;rw[hNr]at hk;cases hk;rw[hb]at qI;cases qI;exact h3 (Yn hwb) k' l' iE (hN _ _ o9),fun k l hk=>h.inb k l (hN _ _ hk)⟩
  by_cases hτi:τ<=i
  .have hb:(S i).get (.h r)=some b:=by
    rw[hZ.const hτi (a99 hli) fun x h4 h5 hwk=>?_,h1];obtain⟨ox,hx,g1|⟨g1,g2⟩⟩:=hwk
    .have hnx:¬D x:=fun hd=>by have:=hg.1 x hd ⟨ox,hx,.inl g1⟩;omega
     rcases(h.conf hZ hi hx jA hw (.inl ⟨h5,hnx⟩)).1 with⟨h6,_⟩|h6
     .omega
     .exact h6 _ g1 a5e
    .have:=hZ.mono (k:=.h r) h4 (by omega) (by rw[h1];rfl);rw[g1]at this;cases this
   have hV:=own (N:=oq M (S i).get) (fun k l hk=>(dQ hk).2) (S i).get b hb id (h2.mono (yS (.refl M) fun k' o9=>hZ.mono hτi (by omega) o9).h fun _ _=>rfl) hr;obtain⟨x,g1,g2⟩:=DZ hV e3 (.map hr) ak fun j hj=>(by simpa using hj);exact⟨x,g2,g1⟩
  .have chain:∀x,i<=x->x<=τ->gZ P t (S x).heap (.map r) kv false=some z:=by
    intro x hix
    induction hix with
    |refl=>exact fun _=>e3
    |step hle ih=>
     rename_i x;intro hxτ;have hxτ:x<τ:=hxτ;have ih:=ih (by omega);have hx:=a4a (xs:=ops) (i:=x) (by omega);by_cases hwk:Wk ops S I (.h r) x
     .obtain⟨l1,l2⟩:=h.chain hZ hi jA hw jK e1 e2 hs hg hwk hle hxτ (by omega) a5e ih hx;exact l1
     .rw[U7 (h:=(S x).heap) (hZ.nD hx hwk)];exact ih
   obtain⟨a1,a2,hz⟩:∃a1 a2,z=.int a1 a2:=by
    rcases hg.2.2 with h4|h4
    .omega
    .have hx:=a4a (xs:=ops) (i:=τ-1) (by omega);exact(h.chain hZ hi jA hw jK e1 e2 hs hg h4 (by omega) (by omega) (by omega) a5e (chain (τ-1) (by omega) (by omega)) hx).2
   have le:su (oq M (S i).get) (oq M (S τ).get):=yS (.refl M) fun k' o9=>hZ.mono (by omega) hτ o9;have uV:oq M (S τ).get (.h r)=some (.obj r1 o):=qR (by rw[h1];rfl) hM;have hV:=own (N:=oq M (S τ).get) (fun k l hk=>(dQ hk).2) (S τ).get b h1 id h2 uV;obtain⟨x,g1,g2⟩:=DZ hV (chain τ (by omega) (a0w _)) (.map uV) (ak.mono le.h) fun j hj=>(by simpa using hj);subst hz;refine⟨x,g2,?_⟩;cases g1;exact .int _ _
 |_=>exact absurd rfl ‹_›
theorem a5f(hC:iF P call)(hZ:iP P call site nt ops M0 h0 w0 S I)(h:Inv nt ops M0 h0 w0 S I D M a w)(hi:ops[i]? = some oi)(jA:¬D i)(hw:uq D oi)
  {r:Option Nat} {n:Nat} {Q:Exit->Act->World->Prop} {K:Act->World->Prop} (hK:∀M' a' w',Inv nt ops M0 h0 w0 S I (fun j=>D j∨j=i) M' a' w'->a'.defers=a.defers->K a' w') :
  wpOpIn (nK r) n P ops Q i K a w:=by
 by_cases hl:∃t m k,oi.op=.lookup t (.tmp m) (.tmp k) false∧oi.guard=none
 case neg=>
  refine a2z hC hZ h hi jA hw (fun o=>?_) hK;cases e:Bh oi o
  .rfl
  .obtain⟨t,m,k,e1,_,e3,_⟩:=IV e;exact absurd ⟨t,m,k,e1,e3⟩ hl
 obtain⟨t,m,k,jK,hgd⟩:=hl;have hli:i<ops.size:=(a2q.1 hi).1;have hS:=hZ.step i oi hi;obtain⟨adM,⟨_,v,s1,q1,q2⟩|⟨q1,_⟩⟩:=hS
 case inr=>unfold Ce at q1;rw[hgd]at q1;cases q1
 simp only[pz,jK]at q1;split at q1
 case h_2=>cases q1
 rename_i mv kv e1 e2;simp only[a0f,a0u]at q1;obtain⟨z,e3,rfl,rfl,e4⟩:=q1;obtain⟨x,g1,g2⟩:=h.look hZ hi jA hw jK e1 e2 e3 fun r e=>by subst e;exact e4.symm
 have Yz:(I i).ws=[]:=by rw[<-e4];rfl
 have yD:(S (i+1)).get=(S i).get:=by
  funext key
  rw[q2];cases key<;>cases oi.dst<;>rfl
 have hnW:∀key,¬Wk ops S I key i:=fun key hk=>by
  obtain⟨o,_,h1|⟨h1,h2⟩⟩:=hk
  .rw[Yz]at h1;cases h1
  .rw[yD,h1]at h2;cases h2
 unfold wpOpIn;rw[hi];have hwd:Region.wanted oi (yielded ops a.tmps)=true:=by simp[Region.wanted,hgd]
 simp only[hwd,a2y];refine⟨fun f hf=>by simp[Oper.about,jK]at hf,?_⟩;have vH:(oi.semAt (nK r).round a.eval).run P w=.ok (.value x) w:=by
  simp only[a8z]at g1;simp[Oper.semAt,execOp,jK,Act.eval,g1]
 rw[vH,Oper.uponIn_value];refine hK M _ w ?_ jL;refine{ h with
  closed:=fun j o ho hd e hm hb=>?_
  size:=by rw[Gw];exact h.size
  mem:=fun key l hk=>?_
  slot:=fun s=>?_
  Rl:=fun j o key ho hd hk=>?_
  marks:=fun d hd=>by rw[jL]at hd;exact h.marks d hd
  apart:=by rw[jL];exact h.apart }
 .rcases hd with hd|rfl
  .exact .inl (h.closed j o ho hd e hm hb)
  .rw[hi]at ho;cases ho;exact .inl (hw e hm hb)
 .obtain⟨τ,hτ,hg,b,h1,h2,h3⟩:=h.mem key l hk;exact⟨τ,hτ,hg.other (hnW key),b,h1,h2,h3⟩
 .by_cases hT:oi.dst=some s
  .refine⟨i+1,by omega,Good.next (W:=Wt ops s) ⟨oi,hi,hT⟩ (fun j hwt hc=>?_),fun e hl=>?_⟩
   .obtain⟨oj,hj,hd⟩:=hwt;exact(Oper.apart_spec (h.conf hZ hi hj jA hw hc).2.2).2.1 s hT hd
   .rw[q2,yQ,a0q hT]at hl;cases hl;have h1:s<nt:=(hZ.step i oi hi).dst hT;have h2:=h.size;rw[yR,a0q ⟨hT,by omega⟩,yD];exact .val g2
  .obtain⟨τ,hτ,hg,h1⟩:=h.slot s;refine⟨τ,hτ,hg.other fun⟨o,ho,hd⟩=>?_,fun e hl=>?_⟩
   .rw[hi]at ho;cases ho;exact hT hd
   .rw[yR,a0p fun hh=>hT hh.1];exact h1 e hl
 .rcases hd with hd|rfl
  .exact h.Rl j o key ho hd hk
  .rw[Yz]at hk;cases hk
theorem a5g(listed:Array Bool):∀k,TP listed k<=k
 | 0=>a0w _
 |k+1=>by have:=a5g listed k;simp only[TP];split<;>omega
theorem VY{listed:Array Bool}:∀{k:Nat},TP listed k=0->∀j,j<k->listed.getD j false=true
 | 0,_,j,hj=>by omega
 |k+1,h,j,hj=>by
  simp only[TP]at h;by_cases he:j=k
  .subst he;split at h
   .assumption
   omega
  exact VY (k:=k) (by omega) j (by omega)
theorem yU{listed:Array Bool}{i:Nat}(hi:i<listed.size)(j:Nat):(listed.setIfInBounds i true).getD j false=if j=i then true else listed.getD j false:=by
 simp only[a8z,a8J];by_cases h:i=j
 .subst h;simp[hi]
 simp[h,Ne.symm h]
theorem a0E{listed:Array Bool}{i:Nat}(hi:i<listed.size)(hn:listed.getD i false=false):∀k,TP (listed.setIfInBounds i true) k+(if i<k then 1 else 0)=TP listed k
 | 0=>by simp[TP]
 |k+1=>by
  have ih:=a0E hi hn k;simp only[TP,yU hi];by_cases he:k=i
  .subst he;simp only[a2y,hn];simp at ih ⊢;omega
  simp only[he,a3U];by_cases aQ:i<k
  .rw[a0q aQ]at ih;rw[a0q (by omega:i<k+1)];omega
  rw[a0p aQ]at ih;rw[a0p (by omega:¬i<k+1)];omega
theorem sO{listed:Array Bool}(uT:listed.size=ops.size){i:Nat}:i∈Region.ready .any ops listed↔∃o,ops[i]? = some o∧listed.getD i false=false∧uq (fun j=>listed.getD j false=true) o:=by
 simp only[Region.ready,a8B,a4o,a2n];constructor
 .rintro⟨h1,h2,h3⟩;refine⟨ops[i],a4a h1,?_,?_⟩
  .have hl:i<listed.size:=(by omega);simp only[Array.getD,hl,dite_true]at h2 ⊢;simpa using h2
  intro e he hb;rw[a4a h1]at h3;simp only[a1b,a4M,acG]at h3;have:=h3 e he;simpa[hb]using this
 rintro⟨o,ho,h2,h3⟩;have h1:i<ops.size:=(a2q.1 ho).1;refine⟨h1,?_,?_⟩
 .have hl:i<listed.size:=by omega
  simp only[Array.getD,hl,dite_true]at h2 ⊢;simpa using h2
 rw[ho];simp only[a1b,a4M,acG];intro e he;cases hb:Region.binds .any e with
 |false=>rfl
 |true=>simpa using h3 e he hb
theorem adN(hC:iF P call)(hZ:iP P call site nt ops M0 h0 w0 S I){r:Option Nat}{n:Nat}{Q:Exit->Act->World->Prop}{ds:List Deferred}
  (hQ:∀M' a' w',Rel M0 h0 w0 nt M' (S ops.size) a' w'->a'.defers=ds->Q .normal a' w'):∀(fuel:Nat) (listed:Array Bool) (M:Mp) (a:Act) (w:World),listed.size=ops.size ->
  Inv nt ops M0 h0 w0 S I (fun j=>listed.getD j false=true) M a w->TP listed ops.size<=fuel->a.defers=ds->wpAnyIn (nK r) n P .any ops Q fuel listed a w:=by
 intro fuel;have Fv:∀(listed:Array Bool),listed.size=ops.size->Region.ready .any ops listed=[]->∀j,j<ops.size->listed.getD j false=true:=by
  intro listed uT hr j
  induction j using Nat.strongRecOn with
  |_ j ih=>
   intro hj;cases hd:listed.getD j false with
   |true=>rfl
   |false=>
    have:j∈Region.ready .any ops listed:=(sO uT).2 ⟨ops[j],a4a hj,hd,fun e he hb=>by
     have aQ:=VU hZ.stat (i:=j) (o:=ops[j]) (by simp) he hb;exact ih e.on aQ (by omega)⟩
    rw[hr]at this;cases this
 induction fuel with
 |zero=>
  intro listed M a w uT hI hu hd;have hz:=VY (Nat.le_zero.1 hu);refine⟨?_,hQ M a w (a0B hZ hI hz) hd⟩;refine a7S.2 fun i hi=>?_;obtain⟨o,ho,h1,_⟩:=(sO uT).1 hi;rw[hz i (a2q.1 ho).1]at h1;cases h1
 |succ fuel ih=>
  intro listed M a w uT hI hu hd;refine⟨fun hr=>hQ M a w (a0B hZ hI (Fv listed uT hr)) hd,fun i hi=>?_⟩;obtain⟨o,ho,h1,h2⟩:=(sO uT).1 hi;have hli:i<ops.size:=(a2q.1 ho).1;refine a5f hC hZ hI ho (by simp[h1]) h2 fun M' a' w' hI' YL=>ih _ M' a' w' (by simp[uT]) ?_ ?_ (YL.trans hd)
  .have:(fun j=>(listed.setIfInBounds i true).getD j false=true)=fun j=>listed.getD j false=true∨j=i:=by
    funext j
    rw[yU (by omega)];by_cases he:j=i
    .simp[he]
    .simp[he]
   rw[this];exact hI'
  .have:=a0E (listed:=listed) (i:=i) (by omega) h1 ops.size;rw[a0q hli]at this;omega
theorem YS(hC:iF P call)(hB:wH M0 h0 w0)(hm:P.follows .mixedOrders=true){r:Option Nat}{n:Nat}{Q:Exit->Act->World->Prop}{id:Nat}{s s':St}{is:List lZ}{M:Mp}{a:Act}{w:World}
  (h:lC P call site h0.length nt ops ops.toList s=some (s',is)) (hs:nI ops.toList=true) (hd:Bj is (mV ops.toList)=true) (hR:Rel M0 h0 w0 nt M s a w)
  (hQ:∀M' a' w',Rel M0 h0 w0 nt M' s' a' w'->a'.defers=a.defers->Q .normal a' w'):(Code.region id ops true).wpIn (nK r) n P Q a w:=by
 obtain⟨S,I,e1,e2,hZ⟩:=a4Y hC hB h hR hs hd;refine wpIn_region_any hm ?_;have FB:Rel M0 h0 w0 nt M (S 0) a { w with drawn:=w.drawn+1 }:=by
  rw[e1];exact⟨hR.val.of_heap rfl,hR.ext.drew rfl rfl rfl rfl,hR.env,hR.size,hR.marks,hR.apart⟩
 refine adN hC hZ (ds:=a.defers) (fun M' a' w' hr hd=>hQ M' a' w' (by rw[e2]at hr;exact hr) hd) ops.size _ M a _ (by simp) ?_ (a5g _ _) rfl;have:(fun j=>(Array.replicate ops.size false).getD j false=true)=fun _=>False:=by
  funext j
  simp only[a8z,Array.getElem?_replicate];split<;>simp
 rw[this];exact a2x hZ FB
end
theorem NV{F:Fence}{n:Nat}{P:Program}{Q:Exit->Act->World->Prop}{a:Act}{w:World}{c:Code}(h:c.wpIn F n P (Exit.noGoto Q) a w):(Code.scope c).wpIn F n P Q a w:=by
 intro b k cs hro hb hr;have h0:(lone (b.atR a (.code (.scope c)::k)) cs w).fenced P F:=fenced_calm hb hr rfl;have s0:step P (lone (b.atR a (.code (.scope c)::k)) cs w)=.next (lone (b.atR a (.code c::.inScope c::k)) cs w):=step_lone_go (by simp[stepG,stepG.exec,Frame.atR]);have s1:∀a1 w1,step P (lone (b.atR a1 (.inScope c::k)) cs w1)=.next (lone (b.atR a1 k) cs w1):=fun a1 w1=>step_lone_go (by simp[stepG,stepG.exec,Frame.atR]);obtain⟨e,a₁,w₁,hq,VP⟩:=h b (.inScope c::k) cs hro hb hr;cases e with
 |normal=>exact⟨.normal,a₁,w₁,hq,.head h0 s0 (StepsIn.trans VP (.one (fenced_calm hb hr rfl) (s1 _ _)))⟩
 |exit id'=>
  have hx:exitTo id' (.inScope c::k)=exitTo id' k:=by simp[exitTo]
  exact⟨.exit id',a₁,w₁,hq,fun k' hk=>.head h0 s0 (VP.1 k' (by rw[hx];exact hk)),
   fun hr' hk=>let ⟨k₁,h1,h2⟩:=VP.2 hr' (by rw[hx];exact hk);⟨k₁,h1,.head h0 s0 h2⟩⟩
 |goto l=>exact hq.elim
 |ret=>exact⟨_,a₁,w₁,hq,.of_steps (.one h0 s0) VP⟩
 |panic ch=>exact⟨_,a₁,w₁,hq,.of_steps (.one h0 s0) VP⟩
 |outgrown=>exact⟨_,a₁,w₁,hq,.of_steps (.one h0 s0) VP⟩
def YT:Ex->Exit
 |.norm=>.normal
 |.exit id=>.exit id
 |.ret=>.ret
theorem FC{t:Nat}{e:EV}{env:List (Nat×EV)}:∀{live:List Nat},dM t (pick live env)=some e->dM t env=some e
 | [],h=>by simp[pick,dM]at h
 |x::r,h=>by
  simp only[pick]at h;split at h
  .rename_i v hv;simp only[dM]at h;split at h
   .rename_i hx;subst hx;rw[hv,h]
   exact FC h
  exact FC h
theorem a5h{t k off:Nat}:∀{env:List (Nat×EV)},dM t env=some (.loc k off)->k<Ci env
 | [],h=>by simp[dM]at h
 |(x,v)::r,h=>by
  simp only[dM]at h;split at h
  .cases h;simp only[Ci];omega
  have:=a5h h;cases v<;>simp only[Ci]<;>omega
section
variable {M0:Mp} {h0:List HB} {w0:World} {nt:Nat} {M:Mp} {s:St} {a:Act} {w:World}
theorem Rel.pick(hR:Rel M0 h0 w0 nt M s a w)(live:List Nat):Rel M0 h0 w0 nt M { s with env:=Tw.pick live s.env } a w:=by
 have hg:St.get { s with env:=Tw.pick live s.env }=s.get:=getEnv s _ _;refine⟨by rw[hg];exact hR.val,by rw[hg];exact hR.ext,fun t e h=>hR.env t e (FC h),hR.size,?_,hR.apart⟩;rw[hg];exact hR.marks
def VZ(n:Nat)(M:Mp):Mp
 |.h b=>M (.h b)
 |.l j=>if j<n then M (.l j)else none
theorem Rel.head(hB:wH M0 h0 w0)(hR:Rel M0 h0 w0 nt M s a w)(live:List Nat):Rel M0 h0 w0 nt (VZ (Ci (Tw.pick live s.env)) M) (kE live s) a w:=by
 have hR:=hR.pick live;generalize he:Tw.pick live s.env=env at hR ⊢;have hs:kE live s={ s with env:=env,loc:=s.loc.take (Ci env) }:=by simp[kE,he]
 rw[hs];have oz:∀k l,VZ (Ci env) M k=some l->M k=some l:=by
  intro k l h;cases k with
  |h b=>exact h
  |l j=>
   simp only[VZ]at h;split at h
   .exact h
   cases h
 have yD:∀k l,VZ (Ci env) M k=some l->St.get { s with env:=env,loc:=s.loc.take (Ci env) } k=St.get { s with env:=env } k:=by
  intro k l h;cases k with
  |h b=>rfl
  |l j=>
   simp only[VZ]at h;split at h
   .rename_i hj;simp[St.get,hj]
   cases h
 refine⟨⟨?_,?_,fun k l hk=>hR.val.inb k l (oz k l hk)⟩,?_,?_,hR.size,?_,hR.apart⟩
 .intro k l hk _;obtain⟨b,h1,h2⟩:=hR.val.ok k l (oz k l hk) trivial;exact⟨b,by rw[yD k l hk];exact h1,h2⟩
 .intro k k' l l' b iE hk o9 _ hb hw;rw[yD k l hk]at hb;exact hR.val.own k k' l l' b iE (oz k l hk) (oz k' l' o9) trivial hb hw
 .have hX:=hR.ext;have hk:∀k,(l9 h0 k).isSome=true->∃b,k=.h b:=fun k h=>let ⟨b,e,_⟩:=CP h;⟨b,e⟩
  exact
   {Iu:=fun k l h=>by
     cases k with
     |l j=>rw[hB.loc j]at h;cases h
     |h b=>exact hX.Iu _ _ h
    frame:=hX.frame
    nD:=fun k h hn=>by obtain⟨b,rfl⟩:=hk k h;exact hX.nD _ h hn
    lD:=fun k h hn=>by
     cases k with
     |h b=>exact hX.lD (.h b) h hn
     |l j=>
      rw[hB.loc j];simp only[VZ];split
      .rename_i hj;cases hm:M (.l j)with
       |none=>rfl
       |some l=>
        have h1:=hR.val.has hm;rcases h with h|h
        .obtain⟨b,hb⟩:=hk _ h;cases hb
        .have:=yD (.l j) l (by simp[VZ,hj,hm]);rw[h]at this;rw[<-this]at h1;cases h1
      .rfl
    fresh:=fun k l h=>hX.fresh k l (oz k l h)
    size:=hX.size
    has:=fun k h=>by obtain⟨b,rfl⟩:=hk k h;exact hX.has _ h
    wsub:=hX.wsub
    wrote:=hX.wrote
    os:=hX.os
    output:=hX.output
    tape:=hX.tape }
 .intro t e h;have:=hR.env t e h;generalize a.tmps.getD t Go.undef=z at this;cases this with
  |val hv=>exact .val hv
  |undef=>exact .undef
  |loc hm hb=>
   have aQ:=a5h (env:=env) h;exact .loc (by simp[VZ,aQ,hm]) hb
  |ent hm hi hv=>exact .ent (show M _=_ from hm) hi hv
  |Et hm hi=>exact .Et (show M _=_ from hm) hi
 intro d hd;obtain⟨k,r,h1,h2,h3,h4,h5⟩:=hR.marks d hd;exact⟨k,r,h1,h2,h3,h4,h5⟩
theorem a0F(hV:Valid M uK s.get w)(b:HB)(o:Obj)(QI:pO (dK M (.h s.heap.length) (.obj w.heap.size [])).h (w.alloc o) b (.obj w.heap.size [])) :
  Valid (dK M (.h s.heap.length) (.obj w.heap.size [])) uK (St.get { s with heap:=s.heap++[b] }) (w.alloc o) ∧
  Ext M s.get w (dK M (.h s.heap.length) (.obj w.heap.size [])) (St.get { s with heap:=s.heap++[b] }) (w.alloc o) []∧M (.h s.heap.length)=none:=by
 have yD:s.get (.h s.heap.length)=none:=by simp[St.get]
 have yL:M (.h s.heap.length)=none:=by
  cases h:M (.h s.heap.length)with
  |none=>rfl
  |some l=>have:=hV.has h;simp[yD]at this
 have hle:su M (dK M (.h s.heap.length) (.obj w.heap.size [])):=mG fun l0 h0=>by rw[yL]at h0;cases h0
 have gJ:∀c,c<w.heap.size->c∉aI (.obj w.heap.size [])->(w.alloc o).heap[c]? = w.heap[c]?:=fun c hc _=>wz w _ c hc;have gq:∀c∈aI (.obj w.heap.size []),(∃l0,M (.h s.heap.length)=some l0∧c∈aI l0)∨w.heap.size<=c:=fun c hc=>.inr (by simp[aI]at hc;omega);rw[kJ];exact⟨hV.upd _ _ _ (fun j _=>.inl trivial) (fun l0 h0=>by rw[yL]at h0;cases h0) gJ gq (by simp) QI,
  Ext.upd _ _ _ [] (.inr ⟨yD,yL,rfl⟩) hle gJ gq (by simp) rfl rfl rfl,yL⟩
theorem E5(hV:Valid M uK s.get w){k r:Nat}{q:List Nat}{b b':HB}{o':Obj}(hm:M (.h k)=some (.obj r q))(hb:s.heap[k]? = some b)(hw:wr b=true)
  (QI:pO M.h { w with heap:=w.heap.setIfInBounds r o' } b' (.obj r q)) :
  Valid M uK (St.get { s with heap:=s.heap.set k b' }) { w with heap:=w.heap.setIfInBounds r o' } ∧
  Ext M s.get w M (St.get { s with heap:=s.heap.set k b' }) { w with heap:=w.heap.setIfInBounds r o' } [.h k]:=by
 have hg:s.get (.h k)=some b:=by simp[St.get,hb]
 have yN:=(a0d.1 hb).1;have qB:dK M (.h k) (.obj r q)=M:=II hm;have gJ:∀c,c<w.heap.size->c∉aI (.obj r q)->(w.heap.setIfInBounds r o')[c]? = w.heap[c]?:=fun c _ hc=>by
  rw[a8J,a0p (by simp[aI]at hc;omega)]
 have gq:∀c∈aI (.obj r q),(∃l0,M (.h k)=some l0∧c∈aI l0)∨w.heap.size<=c:=fun c hc=>.inl ⟨_,hm,hc⟩;rw[jy s k _ yN];constructor
 .have:=hV.upd (D':=uK) (w':={ w with heap:=w.heap.setIfInBounds r o' }) (.h k) b' (.obj r q) (fun j hj=>.inl hj) (fun l0 h0=>by
   rw[hm]at h0;cases h0;exact⟨trivial,.refl _,fun b0 zO=>by rw[hg]at zO;cases zO;exact hw⟩) gJ gq (by simp) (by rw[qB];exact QI)
  rwa [qB]at this
 .have:=Ext.upd (M:=M) (C:=s.get) (w:=w) (w':={ w with heap:=w.heap.setIfInBounds r o' }) (.h k) b' (.obj r q) [.h k] (.inl ⟨by simp[hg],rfl,by simp[hm],fun b0 zO=>by rw[hg]at zO;cases zO;exact hw⟩) (by rw[qB];exact .refl _) gJ gq (by simp) rfl rfl rfl
  rwa [qB]at this
theorem Rel.next(hB:wH M0 h0 w0)(hR:Rel M0 h0 w0 nt M s a w){M':Mp}{s':St}{w':World}{ks:List Key}(hV:Valid M' uK s'.get w')(hX:Ext M s.get w M' s'.get w' ks)
  (he:s'.env=s.env) (Yz:s'.ws=jX h0.length ks s.ws) (hl:∀k l,M (.l k)=some l->M' (.l k)=some l):Rel M0 h0 w0 nt M' s' a w':=by
 refine⟨hV,?_,?_,hR.size,Ri hR hX,hR.apart⟩
 .refine hR.ext.trans hX (fun k l hk=>hB.val.has hk) (fun k hk CJ=>?_) (fun k hk=>?_)
  .obtain⟨b,rfl,hb⟩:=CP hk;rw[Yz];refine a1e.2 ⟨b,oh.2 ?_,rfl⟩;rcases CJ with h1|h1
   .obtain⟨b',h2,h3⟩:=a1e.1 h1;cases h3;exact .inl h2
   .exact .inr ⟨h1,hb⟩
  .rw[Yz]at hk;obtain⟨b,hb,rfl⟩:=a1e.1 hk;rcases oh.1 hb with h1|⟨h1,h2⟩
   .have:Key.h b∈s.ws.map .h:=a1e.2 ⟨b,h1,rfl⟩;exact⟨hR.ext.wsub _ this,.inl this⟩
   .exact⟨YO h2,.inr h1⟩
 .rw[he];intro t e h;exact(hR.env t e h).mono hX.Iu hl
theorem Rel.long(hR:Rel M0 h0 w0 nt M s a w):h0.length<=s.heap.length:=by
 refine acO fun h=>?_;have:=hR.ext.has _ (YO h);simp[St.get]at this
end
theorem least{J:Nat->Prop}(h:∃k,J k):∃k,J k∧∀j,J j->k<=j:=by
 obtain⟨k,hk⟩:=h
 induction k using Nat.strongRecOn with
 |_ k ih=>
  by_cases hj:∃j,j<k∧J j
  .obtain⟨j,h1,h2⟩:=hj;exact ih j h1 h2
  exact⟨k,hk,fun j h=>acO fun aQ=>hj ⟨j,aQ,h⟩⟩
def leastOf(J:Nat->Prop):Nat:=open Classical in if h:∃k,J k then Classical.choose (least h)else 0
theorem leastOf_spec{J:Nat->Prop}(h:∃k,J k):J (leastOf J)∧∀j,J j->leastOf J<=j:=by
 unfold leastOf;rw[dif_pos h];exact a8X (least h)
section
variable {P:Program} {T:qH} {call:aY} {L f:Nat} {gY:Bool} {nt:Nat} {M0:Mp} {h0:List HB} {w0:World} {r:Option Nat}
def U8(P:Program)(M0:Mp)(h0:List HB)(w0:World)(nt:Nat)(r:Option Nat)(c:Code)(s:St)(e:Ex)(s':St):Prop:=
 ∀(n:Nat) (Q:Exit->Act->World->Prop) (M:Mp) (a:Act) (w:World),Rel M0 h0 w0 nt M s a w->(∀M' a' w',Rel M0 h0 w0 nt M' s' a' w'->Q (YT e) a' w')->c.wpIn (nK r) n P Q a w
theorem LP(hB:wH M0 h0 w0){c:Code}{live:List Nat}{g:St->Option (Ex×St)}(ih:∀s e s',g s=some (e,s')->U8 P M0 h0 w0 nt r c (kE live s) e s'){k:Nat}{s:St}{e:Ex}{s':St}
  (h:iter g k s=some (e,s')):U8 P M0 h0 w0 nt r (.loop c) s e s':=by
 intro n Q M a w hR hQ
 let J:Act->World->Nat->Prop:=fun a w k=>∃s M,iter g k s=some (e,s')∧Rel M0 h0 w0 nt M s a w
 refine wpIn_loop (fun a w=>∃k,J a w k) (fun a w=>leastOf (J a w)) ⟨k,s,M,h,hR⟩ ?_;intro a1 w1 hI;obtain⟨⟨s1,M1,Qm,xC⟩,_⟩:=leastOf_spec hI;generalize leastOf (J a1 w1)=k1 at Qm ⊢;cases k1 with
 |zero=>simp[iter]at Qm
 |succ k1=>
  simp only[iter]at Qm;split at Qm
  .rename_i s2 hg;refine ih s1 .norm s2 hg n _ _ a1 w1 (xC.head hB live) fun M2 a2 w2 Ro=>?_;have hJ:J a2 w2 k1:=⟨s2,M2,Qm,Ro⟩;exact⟨⟨k1,hJ⟩,Nat.lt_succ_of_le ((leastOf_spec ⟨k1,hJ⟩).2 k1 hJ)⟩
  .rename_i iE;refine ih s1 e s' Qm n _ _ a1 w1 (xC.head hB live) fun M2 a2 w2 Ro=>?_;cases e with
   |norm=>exact(iE s' Qm).elim
   |exit id=>exact hQ M2 a2 w2 Ro
   |ret=>exact hQ M2 a2 w2 Ro
theorem a2C{env:List (Nat×EV)}(h:env.all isVal=true){t:Nat}{e:EV}(hl:dM t env=some e):(∃v,e=.val v)∨e=.undef:=by
 induction env with
 |nil=>simp[dM]at hl
 |cons x r ih=>
  obtain⟨k,v⟩:=x;simp only[abM,a2n]at h;simp only[dM]at hl;split at hl
  .cases hl;cases e with
   |val v=>exact .inl ⟨v,rfl⟩
   |undef=>exact .inr rfl
   |_=>simp[isVal]at h
  exact ih h.2 hl
theorem Rq(hB:wH M0 h0 w0){g:Operand}{ps:Array Tmp}{uI body:Code}{s:St}{f1:FuncId}{a1 b1:List TV}{K:TV->List HB->List Nat->Prop}{QT:Ex->St->Prop}
  (hg:qK s.env g=some (.fn f1 a1 b1)) (hv:s.env.all isVal=true)
  (hC:∀(M:Mp) (w:World) (x:Value) (xs:List Value),Valid M uK (l9 (s.heap++[.mark,.loop true f nt s.env ps.toList uI body none])) w->(∀k,M (.l k)=none)->VR M.h (.fn f1 a1 b1) x->bZ M.h [.kW (s.heap.length+1)] xs ->
   ∃d,(∀w,(Deferred.ofValue x xs.toArray).run P w=.ok d w)∧LG P d w fun y w'=>∃v h ws,K v h ws∧jJ M (s.heap++[.mark,.loop true f nt s.env ps.toList uI body none]) w v h ws y w')
  (hK:∀v h ws,K v h ws->∃rd f2 Qg e2 Cj a2 b2 jI e,h[s.heap.length+1]? = some (.loop rd f2 Qg e2 Cj a2 b2 jI)∧QH rd jI=some e∧QT e { s with heap:=h.set (s.heap.length+1) (.loop false f2 Qg e2 Cj a2 b2 (some .skip)),ws:=jX h0.length (ws.map .h) s.ws })
  (n:Nat) (Q:Exit->Act->World->Prop) (M:Mp) (a:Act) (w:World) (hR:Rel M0 h0 w0 nt M s a w) (hQ:∀e s' M' a' w',QT e s'->Rel M0 h0 w0 nt M' s' a' w'->Q (YT e) a' w'):(Code.rangeFunc g ps uI body).wpIn (nK none) n P Q a w:=by
 refine wpIn_rangeFunc fun fn _=>?_
 let lp:Loop:={ state:=.ready,pending:=none,fn:=fn,tmps:=a.tmps,params:=ps,assign:=uI,body:=body,defers:=w.heap.size }
 let w1:=(w.alloc (.deferred (some []))).alloc (.loop lp)
 obtain⟨v1,x1,n1⟩:=a0F hR.val .mark (.deferred (some [])) (show w.heap.size<(w.alloc _).heap.size by simp)
 let M1:=dK M (.h s.heap.length) (.obj w.heap.size [])
 let s1:St:={ s with heap:=s.heap++[.mark] }
 have xC:Rel M0 h0 w0 nt M1 s1 a (w.alloc (.deferred (some []))):=hR.next hB v1 x1 rfl rfl (qP n1);have a0G:s1.heap.length=s.heap.length+1:=by simp[s1]
 have anw:(w.alloc (.deferred (some []))).heap.size=w.heap.size+1:=by simp
 have anx:pO (dK M1 (.h s1.heap.length) (.obj (w.alloc (.deferred (some []))).heap.size [])).h w1 (.loop true f nt s.env ps.toList uI body none) (.obj (w.alloc (.deferred (some []))).heap.size []):=by
  refine⟨lp,heap_alloc_new _ _,?_⟩;exact
   {ps:=rfl,uI:=rfl,body:=rfl,size:=hR.size
    KU:=fun t v hl=>by
     have h1:=(xC.env t _ hl).vC;have hm:su M1 (dK M1 (.h s1.heap.length) (.obj (w.alloc (.deferred (some []))).heap.size [])):=mG fun l0 h0=>by
      rw[xC.nh]at h0;cases h0
     exact h1.mono hm.h
    TP:=fun t hl=>by
     have h1:=hR.env t _ hl;show a.tmps.getD t Go.undef=Go.undef;generalize a.tmps.getD t Go.undef=z at h1;cases h1;rfl
    nol:=fun t e hl=>by rcases a2C hv hl with⟨v,e⟩|e<;>cases e<;>rfl
    ready:=fun _=>⟨rfl,rfl⟩
    busy:=by simp
    done:=by simp }
 obtain⟨v2,x2,n2⟩:=a0F xC.val (.loop true f nt s.env ps.toList uI body none) (.loop lp) anx
 let M2:=dK M1 (.h s1.heap.length) (.obj (w.alloc (.deferred (some []))).heap.size [])
 let s2:St:={ s1 with heap:=s1.heap++[.loop true f nt s.env ps.toList uI body none] }
 have a2D:Rel M0 h0 w0 nt M2 s2 a w1:=xC.next hB v2 x2 rfl rfl (qP n2);have arF:=hR.long;have hmk:M2 (.h s.heap.length)=some (.obj w.heap.size []):=by
  simp only[M2,M1,dK,a0G];simp
 have Ro:Rel M0 h0 w0 nt M2 s2 { a with defers:=[{ target:=.collected w.heap.size,args:=#[] }]++a.defers } w1:=by
  refine⟨a2D.val,a2D.ext,a2D.env,a2D.size,fun d hd=>?_,?_⟩
  .rcases a2r.1 hd with rfl|hd
   .refine⟨s.heap.length,w.heap.size,rfl,by simp[l9,St.get];omega,⟨_,hmk⟩,by simp[s2,s1,St.get],?_⟩;have e1:w1.heap[w.heap.size]? = (w.alloc (.deferred (some []))).heap[w.heap.size]?:=wz _ _ _ (by simp);rw[e1];exact heap_alloc_new _ _
   .exact a2D.marks d hd
  .refine List.pairwise_cons.2 ⟨fun d hd e=>?_,a2D.apart⟩;obtain⟨k,r',e1,_,_,_,e5⟩:=hR.marks d hd;rw[e1]at e;have:w.heap.size=r':=by injection e with e e';injection e
   have:=(a2q.1 e5).1;omega
 have QK:M2 (.h (s.heap.length+1))=some (.obj (w.heap.size+1) []):=by
  simp only[M2,dK,a0G,anw,a2y]
 have anz:s2.heap=s.heap++[.mark,.loop true f nt s.env ps.toList uI body none]:=by simp[s2,s1]
 rw[<-anz]at hC;have hV2:=Fz Ro.val (fun _ _ _=>trivial);have hgx:VR M2.only.h (.fn f1 a1 b1) (a.eval g):=(YC Ro.env hg);have hyx:bZ M2.only.h [.kW (s.heap.length+1)] [.func (.yield (w.heap.size+1)) #[] #[]]:=.cons (.kW QK) .nil;obtain⟨d,hd,uU⟩:=hC M2.only w1 (a.eval g) [.func (.yield (w.heap.size+1)) #[] #[]] hV2 (fun _=>rfl) hgx hyx;obtain⟨f3,as3,hinv,qm⟩:=uU;refine⟨w.heap.size+1,[{ target:=.collected w.heap.size,args:=#[] }],w1,d,w1,f3,as3,w1,?_,?_,fun _ _=>trivial,hinv,fun h=>by simp[Fence.wide]at h,?_⟩
 .simp[Instr.enterLoop,newObj,Sem.run,w1,lp]
 .have:=hd w1;simpa[resolve,rangeCall,Act.eval]using this
 .refine CallsIn.mono (F:=nK none) (qm (n-1)) fun en w3 W9=>?_;cases en with
  |panicked c=>exact W9.elim
  |outgrown=>exact W9.elim
  |returned y=>
   obtain⟨v,h,ws,hk,W9⟩:=W9;obtain⟨rd,f2,Qg,e2,Cj,a2,b2,jI,e,hh,hj,hq⟩:=hK v h ws hk;obtain⟨M3,hp⟩:=Rh Ro.val Ro.loc (show jJ M2.only s2.heap w1 v h ws y w3 from W9);have hR3:Rel M0 h0 w0 nt M3 { s2 with heap:=h,ws:=jX h0.length (ws.map .h) s.ws } _ w3:=Ro.next hB (s':={ s2 with heap:=h,ws:=jX h0.length (ws.map .h) s.ws }) (hp.val.sub fun _ _=>.inl trivial) hp.ext rfl rfl hp.loc;obtain⟨l',g1,g2⟩:=hp.ext.Iu _ _ QK;obtain⟨q3,hl3⟩:∃q3,M3 (.h (s.heap.length+1))=some (.obj (w.heap.size+1) q3):=by
    cases l' with
    |cells ls=>exact g2.elim
    |obj r' o'=>cases g2.1;exact⟨o',g1⟩
   obtain⟨gy,k1,k2⟩:=hR3.val.ok _ _ hl3 trivial;have k1':gy=.loop rd f2 Qg e2 Cj a2 b2 jI:=by
    simp only[St.get,hh,a03]at k1;exact k1.symm
   subst k1';obtain⟨lp3,l1,l2⟩:=k2;have hnb:lp3.state≠.busy∧lp3.pending=sK e:=by
    unfold QH at hj;split at hj
    .cases hj;obtain⟨q1,q2⟩:=l2.ready rfl;exact⟨by rw[q1];simp,q2⟩
    .cases hj;obtain⟨q1,q2⟩:=l2.done rfl _ rfl (by simp);exact⟨by rw[q1];simp,q2⟩
    .cases hj;obtain⟨q1,q2⟩:=l2.done rfl _ rfl (by simp);exact⟨by rw[q1];simp,q2⟩
    .cases hj
   obtain⟨v4,x4⟩:=E5 (s:={ s2 with heap:=h,ws:=jX h0.length (ws.map .h) s.ws }) hR3.val hl3 hh rfl (b':=.loop false f2 Qg e2 Cj a2 b2 (some .skip)) (o':=.loop { lp3 with state:=.exhausted }) ⟨{ lp3 with state:=.exhausted },by simp[(a2q.1 l1).1],
    {ps:=l2.ps,uI:=l2.uI,body:=l2.body,size:=l2.size,KU:=l2.KU,TP:=l2.TP,nol:=l2.nol,ready:=by simp,busy:=by simp,done:=fun _ j hj iE=>by simp at hj;exact absurd hj.symm iE }⟩
   have hR4:=hR3.next hB (s':={ s with heap:=h.set (s.heap.length+1) (.loop false f2 Qg e2 Cj a2 b2 (some .skip)),ws:=jX h0.length (ws.map .h) s.ws }) v4 x4 rfl
    (by simp only[jX,Eu];rw[a0p (by omega)]) (fun _ _ h=>h)
   refine⟨lp3.pending,{ w3 with heap:=w3.heap.setIfInBounds (w.heap.size+1) (.loop { lp3 with state:=.exhausted }) },?_,?_⟩
   .have h1:=hnb.1;cases vT:lp3.state<;>simp_all [Instr.endLoop,Instr.getLoop,getObj,setObj,Sem.run]<;>rfl
   .have h2:=hQ _ _ _ _ _ hq hR4;have h3:=hnb.2;generalize lp3.pending=pe at h2 h3 ⊢;subst h3;cases e with
    |norm=>exact h2
    |ret=>exact wpIn_ret h2
    |exit id=>exact wpIn_exit h2
theorem a5i(hC:iF P call)(hB:wH M0 h0 w0){g:Operand}{ps:Array Tmp}{uI body:Code}{s s':St}{e:Ex}{f1:FuncId}{a1 b1:List TV}{v:TV}{h:List HB}{ws:List Nat}{rd:Bool}{f2 Qg:Nat}{e2:List (Nat×EV)}{Cj:List Nat}{a2 b2:Code}{jI:Option Code}
  (hg:qK s.env g=some (.fn f1 a1 b1)) (hv:s.env.all isVal=true) (xU:call (.fn f1 a1 b1) [.kW (s.heap.length+1)] (s.heap++[.mark,.loop true f nt s.env ps.toList uI body none])=some (v,h,ws))
  (hh:h[s.heap.length+1]? = some (.loop rd f2 Qg e2 Cj a2 b2 jI)) (hj:QH rd jI=some e)
  (hs:s'={ s with heap:=h.set (s.heap.length+1) (.loop false f2 Qg e2 Cj a2 b2 (some .skip)),ws:=jX h0.length (ws.map .h) s.ws }) :
  U8 P M0 h0 w0 nt none (.rangeFunc g ps uI body) s e s':=by
 intro n Q M a w hR hQ;refine Rq (f:=f) (s:=s) hB (K:=fun v' h' TQ=>v'=v∧h'=h∧TQ=ws) (QT:=fun e1 s1=>e1=e∧s1=s') hg hv (fun M w x xs hV hl hx NQ=>?_) ?_ n Q M a w hR ?_
 .obtain⟨d,hd,uU⟩:=hC _ _ _ _ _ _ xU M w x xs hV hl hx NQ;refine⟨d,hd,?_⟩;rcases uU with⟨⟨f3,as3,h1,h2⟩,_⟩|⟨_,_,hx⟩
  .refine⟨f3,as3,h1,fun n=>CallsIn.mono (F:=nK none) (h2 n) fun en w3 W9=>?_⟩;cases en with
   |panicked c=>exact W9.elim
   |outgrown=>exact W9.elim
   |returned y=>exact⟨v,h,ws,⟨rfl,rfl,rfl⟩,W9⟩
  .cases hx
 .rintro _ _ _ ⟨rfl,rfl,rfl⟩;exact⟨_,_,_,_,_,_,_,_,_,hh,hj,rfl,hs.symm⟩
 .rintro _ _ M' a' w' ⟨rfl,rfl⟩ FB;exact hQ M' a' w' FB
theorem vI(hm:P.follows .mixedOrders=true)(hC:iF P call)(hB:wH M0 h0 w0)(hr:gY=false->r=none):∀(c:Code) (s s':St) (e:Ex),exec P T call L f gY h0.length nt c s=some (e,s')->U8 P M0 h0 w0 nt r c s e s':=by
 intro c
 induction c with
 |skip=>
  intro s s' e h n Q M a w hR hQ;simp only[exec,a03,a0u]at h;obtain⟨rfl,rfl⟩:=h;exact wpIn_skip (hQ _ _ _ hR)
 |label l=>
  intro s s' e h n Q M a w hR hQ;simp only[exec,a03,a0u]at h;obtain⟨rfl,rfl⟩:=h;exact wpIn_label (hQ _ _ _ hR)
 |exit id=>
  intro s s' e h n Q M a w hR hQ;simp only[exec,a03,a0u]at h;obtain⟨rfl,rfl⟩:=h;exact wpIn_exit (hQ _ _ _ hR)
 |ret=>
  intro s s' e h n Q M a w hR hQ;simp only[exec,a03,a0u]at h;obtain⟨rfl,rfl⟩:=h;exact wpIn_ret (hQ _ _ _ hR)
 |region id ops draw=>
  intro s s' e h n Q M a w hR hQ;simp only[exec]at h;split at h
  .rename_i s1 xu vH;split at h
   .rename_i hd;simp only[a03,a0u]at h;obtain⟨rfl,rfl⟩:=h;cases draw with
    |false=>exact a2v hC hB vH hR fun M' a' w' FB _=>hQ _ _ _ (FB.pick _)
    |true=>
     simp only[a8N,afS,a2n]at hd;exact YS hC hB hm vH hd.1 hd.2 hR fun M' a' w' FB _=>hQ _ _ _ (FB.pick _)
   simp at h
  simp at h
 |seq x y Wh ihy=>
  intro s s' e h n Q M a w hR hQ;simp only[exec]at h;split at h
  .rename_i s1 hx;exact wpIn_seq (Wh s s1 .norm hx n _ M a w hR fun M1 a1 w1 xC=>ihy s1 s' e h n Q M1 a1 w1 xC hQ)
  rename_i iE;refine wpIn_seq (Wh s s' e h n _ M a w hR fun M1 a1 w1 xC=>?_);cases e with
  |norm=>exact(iE s' h).elim
  |exit id=>exact hQ _ _ _ xC
  |ret=>exact hQ _ _ _ xC
 |cond c x y Wh ihy=>
  intro s s' e h n Q M a w hR hQ;simp only[exec]at h;have hev:∀b,qK s.env c=some (.bool b)->a.eval c=.bool b:=by
   intro b hb;have:=YC hR.env hb;generalize a.eval c=z at this;cases this;rfl
  split at h
  .rename_i hc;exact wpIn_cond_true (hev _ hc) (Wh s s' e h n Q M a w hR hQ)
  .rename_i hc;exact wpIn_cond_false (hev _ hc) (ihy s s' e h n Q M a w hR hQ)
  simp at h
 |block id b ih=>
  intro s s' e h n Q M a w hR hQ;simp only[exec]at h;split at h
  .rename_i i s1 hb;simp only[a03,a0u]at h;obtain⟨rfl,rfl⟩:=h;refine wpIn_block (ih s s1 (.exit i) hb n _ M a w hR fun M1 a1 w1 xC=>?_);have:=hQ _ _ _ xC;by_cases hi:i=id
   .simp only[hi,a2y]at this;simp only[YT,Exit.inBlock,hi,a2y];exact this
   simp only[hi,a3U]at this;simp only[YT,Exit.inBlock,hi,a3U];exact this
  rename_i iE;refine wpIn_block (ih s s' e h n _ M a w hR fun M1 a1 w1 xC=>?_);cases e with
  |norm=>exact hQ _ _ _ xC
  |exit i=>exact(iE i s' h).elim
  |ret=>exact hQ _ _ _ xC
 |scope b ih=>
  intro s s' e h n Q M a w hR hQ;simp only[exec]at h;refine NV (ih s s' e h n _ M a w hR fun M1 a1 w1 xC=>?_);have:=hQ _ _ _ xC;cases e<;>exact this
 |loop b ih=>
  intro s s' e h;simp only[exec]at h;exact LP hB (live:=T.eP f (dU b)) (fun s e s' hs=>ih _ _ _ hs) h
 |rangeFunc g ps uI body iha ihb=>
  intro s s' e h;simp only[exec]at h;split at h
  .rename_i f1 a1 b1 hg;split at h
   .rename_i hv;simp only[a2n,a8H]at hv;rw[hr hv.2];split at h
    .rename_i v h1 ws xU;split at h
     .rename_i rd f2 Qg e2 Cj a2 b2 jI hh;split at h
      .rename_i e' hj;simp only[a03,a0u]at h;obtain⟨rfl,rfl⟩:=h;exact a5i hC hB hg hv.1 xU hh hj rfl
      simp at h
     simp at h
    simp at h
   simp at h
  simp at h
 |_=>intro s s' e h;simp[exec]at h
end
def a2E(tmps:Array Value):ResultVar->Sem Value
 |.tmp t=>pure (tmps.getD t Go.undef)
 |.cell b t=>do loadVar t (<-asAddr (tmps.getD b Go.undef))
theorem YU(fn:Func)(tmps:Array Value):results fn tmps=(do
  let vs <-fn.results.mapM (a2E tmps)
  pure (if h:vs.size=1 then vs[0]else .tuple vs)):=by
 have key:∀g:ResultVar->Sem Value,(∀r,g r=a2E tmps r)->(do
   let vs <-fn.results.mapM g
   pure (if h:vs.size=1 then vs[0]else Value.tuple vs):Sem Value)=(do
   let vs <-fn.results.mapM (a2E tmps)
   pure (if h:vs.size=1 then vs[0]else Value.tuple vs)):=fun g hg=>by rw[show g=a2E tmps from funext hg]
 exact key _ fun r=>by cases r<;>rfl
section
variable {P:Program} {T:qH} {call:aY} {L:Nat} {nt:Nat} {M0:Mp} {h0:List HB} {w0:World} {M:Mp} {s:St} {a:Act} {w:World}
theorem IW(hR:Rel M0 h0 w0 nt M s a w){r:ResultVar}{v:TV}(h:a4v P s r=some v) :
  ∃x,VR M.h v x∧(a2E a.tmps r).run P w=.ok x w:=by
 unfold a4v at h;split at h
 .rename_i t;split at h
  .rename_i v' hv;simp only[a03]at h;subst h;exact⟨_,(hR.env t _ hv).vC,rfl⟩
  .simp at h
 .rename_i b t;split at h
  .rename_i e he;simp only[a0f]at h;obtain⟨⟨v',i⟩,hl,rfl⟩:=h;have hx:=hR.env b _ he;obtain⟨_,y,h1,h2⟩:=Gl hR.val hl hx (fun _ _=>trivial);refine⟨y,h1,?_⟩;show(do loadVar t (<-asAddr (a.tmps.getD b Go.undef)):Sem Value).run P w=_;generalize a.tmps.getD b Go.undef=z at hx h2;have hz:∃ad,z=.pointer (some ad):=by
    cases hx with
    |loc hm hb=>exact⟨_,rfl⟩
    |undef|ent|Et=>simp[loadT]at hl
    |val hv=>
     cases hv with
     |ptr=>exact⟨_,rfl⟩
     |_=>simp[loadT]at hl
   obtain⟨ad,rfl⟩:=hz;simpa[asAddr,Instr.loadAt,Instr.sureAddr]using h2
  .simp at h
theorem a0H(hR:Rel M0 h0 w0 nt M s a w):∀{rs:List ResultVar} {vs:List TV},xK P s rs=some vs ->
  ∃xs,bZ M.h vs xs∧(rs.mapM (a2E a.tmps)).run P w=.ok xs w
 | [],vs,h=>by simp[xK]at h;subst h;exact⟨[],.nil,by simp⟩
 |r::rs,vs,h=>by
  simp only[xK]at h;split at h
  .rename_i v vs' h1 h2;simp only[a03]at h;subst h;obtain⟨x,g1,g2⟩:=IW hR h1;obtain⟨xs,g3,g4⟩:=a0H hR h2;exact⟨x::xs,.cons g1 g3,by simp only[List.mapM_cons,Sem.run_bind,g2,g4,Result.andThen_ok,Sem.run_pure]⟩
  .simp at h
theorem NW(hR:Rel M0 h0 w0 nt M s a w){fn:Func}{vs:List TV}(h:xK P s fn.results.toList=some vs):∃y,VR M.h (one vs) y∧(results fn a.tmps).run P w=.ok y w:=by
 obtain⟨xs,h1,h2⟩:=a0H hR h;have vH:(results fn a.tmps).run P w=.ok (if h:xs.toArray.size=1 then xs.toArray[0]else .tuple xs.toArray) w:=by
  rw[YU,Array.mapM_eq_mapM_toList];simp only[Sem.run_bind,Sem.run_map,h2,Result.andThen_ok,Sem.run_pure]
 refine⟨_,?_,vH⟩
 match vs,xs,h1 with
 | [],xs,h1=>
  have:=h1.qc;subst this;exact .Qh .nil
 | [v],xs,h1=>
  obtain⟨x,xs',rfl,hx,Fh⟩:=h1.iO;have:=Fh.qc;subst this;exact hx
 |v::v'::vs,xs,h1=>
  obtain⟨x,xs',rfl,hx,Fh⟩:=h1.iO;obtain⟨x',atS,rfl,hy,hy'⟩:=Fh.iO;simp only[one,List.size_toArray,a4d];rw[dif_neg (by omega)];exact .Qh h1
theorem a2F(hB:wH M0 h0 w0){d:Deferred}{ds:List Deferred}(hR:Rel M0 h0 w0 nt M s a w)(hd:a.defers=d::ds) :
  ∃r w',d.target=.collected r∧(Instr.takeDeferred r).run P w=.ok [] w'∧Rel M0 h0 w0 nt M s { a with defers:=ds } w':=by
 obtain⟨k,r,rfl,h2,⟨o,h3⟩,h4,h5⟩:=hR.marks d (by rw[hd];exact a3l);have aQ:=(a2q.1 h5).1;have hap:=hR.apart;rw[hd]at hap;obtain⟨ha1,ha2⟩:=List.pairwise_cons.1 hap;refine⟨r,{ w with heap:=w.heap.setIfInBounds r (.deferred none) },rfl,?_,?_⟩
 .simp[Instr.takeDeferred,getObj,setObj,Sem.run,h5]
 have YV:∀c,c≠r->(w.heap.setIfInBounds r (.deferred none))[c]? = w.heap[c]?:=fun c hc=>by
  rw[a8J,a0p (fun e=>hc e.symm)]
 refine⟨⟨?_,hR.val.own,fun k l hk c hc=>by simpa using hR.val.inb k l hk c hc⟩,?_,hR.env,hR.size,?_,ha2⟩
 .intro k' l o9 _;obtain⟨b,g1,g2⟩:=hR.val.ok k' l o9 trivial;refine⟨b,g1,?_⟩;by_cases CJ:r∈aI l
  .cases b with
   |cells kk cs=>
    cases l with
    |obj r' _=>exact g2.elim
    |cells ls=>
     obtain⟨p,hp,e⟩:=a1e.1 CJ;obtain⟨arr,ty,fz,e1,_⟩:=(g2.2.1 p hp).row;rw[e,h5]at e1;cases e1
   |mZ cs=>
    cases l with
    |obj r' _=>exact g2.elim
    |cells ls=>
     obtain⟨p,hp,e⟩:=a1e.1 CJ;obtain⟨_,_,g2⟩:=g2;obtain⟨arr,ty,fz,e1,_⟩:=(g2.2.1 p hp).row;rw[e,h5]at e1;cases e1
   |map es=>
    cases l with
    |cells ls=>exact g2.elim
    |obj r' _=>
     simp[aI]at CJ;subst CJ;obtain⟨xs,e1,_⟩:=g2;rw[h5]at e1;cases e1
   |dn m n seen=>
    cases l with
    |cells ls=>exact g2.elim
    |obj r' _=>
     simp[aI]at CJ;subst CJ;obtain⟨_,_,_,_,e1,_⟩:=g2;rw[h5]at e1;cases e1
   |loop rd f nt env ps a b jI=>
    cases l with
    |cells ls=>exact g2.elim
    |obj r' _=>
     simp[aI]at CJ;subst CJ;obtain⟨lp,e1,_⟩:=g2;rw[h5]at e1;cases e1
   |mark=>
    cases l with
    |cells ls=>exact g2.elim
    |obj r' _=>
     show r'<(w.heap.setIfInBounds r (.deferred none)).size;have g2':r'<w.heap.size:=g2;simpa using g2'
  .exact g2.mono (.refl _) fun c hc=>YV c fun e=>CJ (e▸hc)
 .have hX:=hR.ext;refine⟨hX.Iu,fun c hc hf=>?_,hX.nD,hX.lD,hX.fresh,by simpa using hX.size,hX.has,hX.wsub,hX.wrote,hX.os,hX.output,hX.tape⟩;rw[<-hX.frame c hc hf];refine YV c fun e=>?_;obtain⟨l0,g1,_⟩:=hX.fresh _ _ h3 c (by simp[aI,e]) hc;have:=hB.val.has g1;rw[h2]at this;cases this
 .intro d' YL;obtain⟨k',r',e1,e2,e3,e4,e5⟩:=hR.marks d' (by rw[hd];exact a3n _ YL);refine⟨k',r',e1,e2,e3,e4,?_⟩;rw[YV r' fun e=>ha1 d' YL (by rw[e1,e]),e5]
theorem NY(hB:wH M0 h0 w0){F:Fence}{n:Nat}{fn:Func}{R:Ending->World->Prop}:∀(ds:List Deferred) (a:Act) (w:World),a.defers=ds->Rel M0 h0 w0 nt M s a w ->
  (∀w',Rel M0 h0 w0 nt M s { a with defers:=[] } w'->∃v,(results fn a.tmps).run P w'=.ok v w'∧R (.returned v) w')->LeavesInM F n P fn a.tmps R ds .returning w
 | [],a,w,hd,hR,hK=>by
  simp only[LeavesInM,LeavesIn];exact hK w (by
   have:a={ a with defers:=[] }:=by cases a;simp at hd;subst hd;rfl
   rw[<-this];exact hR)
 |d::ds,a,w,hd,hR,hK=>by
  obtain⟨r,w',h1,h2,h3⟩:=a2F (P:=P) hB hR hd;refine⟨by simp,.inl ⟨r,w',h1,h2,?_⟩⟩;exact NY hB ds { a with defers:=ds } w' rfl h3 hK
end
section
variable {P:Program} {T:qH} {call:aY} {L:Nat} {nt:Nat} {M:Mp} {h:List HB} {w:World} {M':Mp} {s:St} {a:Act} {w':World}
theorem YW(hB:wH M h w)(hR:Rel M h w nt M' s a w'){v:TV}{y:Value}(hv:VR M'.h v y):jJ M h w v s.heap s.ws y w':=by
 refine⟨M'.only,Fz hR.val (fun _ _ _=>trivial),fun _=>rfl,?_,hv⟩;have hX:=hR.ext;have hk:∀k,(l9 h k).isSome=true->∃b,k=.h b:=fun k hk=>let ⟨b,e,_⟩:=CP hk;⟨b,e⟩
 exact
  {Iu:=fun k l hl=>by
    cases k with
    |l j=>rw[hB.loc j]at hl;cases hl
    |h b=>exact hX.Iu _ _ hl
   frame:=hX.frame
   nD:=fun k e hn=>by obtain⟨b,rfl⟩:=hk k e;exact hX.nD _ e hn
   lD:=fun k e hn=>by
    cases k with
    |h b=>exact hX.lD (.h b) e hn
    |l j=>exact(hB.loc j).symm
   fresh:=fun k l hl=>by
    cases k with
    |h b=>exact hX.fresh (.h b) l hl
    |l j=>cases hl
   size:=hX.size
   has:=fun k e=>by obtain⟨b,rfl⟩:=hk k e;exact hX.has _ e
   wsub:=hX.wsub
   wrote:=hX.wrote
   os:=hX.os
   output:=hX.output
   tape:=hX.tape }
theorem IX{N:Np}:∀{args:List TV} {xs:List Value} {k t:Nat} {e:EV},bZ N args xs->dM t (nJ k args)=some e->∃i v x,t=k+i∧e=.val v∧xs[i]? = some x∧VR N v x
 | [],xs,k,t,e,h,hl=>by simp[nJ,dM]at hl
 |v::vs,xs,k,t,e,h,hl=>by
  obtain⟨x,xs',rfl,h1,h2⟩:=h.iO;simp only[nJ,dM]at hl;split at hl
  .rename_i hk;cases hl;exact⟨0,v,x,by omega,rfl,rfl,h1⟩
  obtain⟨i,v',x',e1,e2,e3,e4⟩:=IX h2 hl;exact⟨i+1,v',x',by omega,e2,by simpa using e3,e4⟩
end
open Go.ChangeMaps
def Ad(ops:Array Oper):Option (Nat×Nat×Oper×Oper):=
 match ops.toList with
 | [a,b]=>match a.op,a.dst,a.guard with
  |.next (.tmp it) false,some nx,none=>if a.after.toList.all (fun e=>!Region.binds .any e)&&b.after.toList.any (fun e=>Region.binds .any e&&e.on==0)&&b.after.toList.all (fun e=>!Region.binds .any e||e.on==0)then some (it,nx,a,b)else none
  |_,_,_=>none
 |_=>none
def a0I(fl:Nat)(s:St)(it:Nat)(K:St->TV->Prop):Prop:=
 ∃b r n seen es,dM it s.env=some (.val (.iter b))∧s.heap[b]? = some (.dn r n seen)∧s.heap[r]? = some (.map es)∧es.length=n ∧
  ((∀j,j<n->j∈seen)->K s (.dF [.bool false])) ∧
  ∀j e,j∉seen->es[j]? = some e->K { s with heap:=s.heap.set b (.dn r n (j::seen)),ws:=jX fl [.h b] s.ws } (.dF [.bool true,e.1,e.2])
def GH(g:St->(Ex->St->Prop)->Prop):Nat->St->(Ex->St->Prop)->Prop
 | 0,_,_=>False
 |n+1,s,Q=>g s fun e s=>match e with
  |.norm=>GH g n s Q
  |e=>Q e s
abbrev uX:=TV->List TV->List HB->(TV->List HB->List Nat->Prop)->Prop
def CS:uX:=fun _ _ _ _=>False
def a5j(T:qH)(env:List (Nat×EV))(g:Operand):Bool:=match qK env g with
 |some (.fn f1 _ _)=>T.din.contains f1
 |_=>false
def adO(cd:uX)(f fl nt:Nat)(g:Operand)(ps:Array Tmp)(uI body:Code)(s:St)(Q:Ex->St->Prop):Prop:=
 ∃f1 a1 b1,qK s.env g=some (.fn f1 a1 b1)∧s.env.all isVal=true∧cd (.fn f1 a1 b1) [.kW (s.heap.length+1)] (s.heap++[.mark,.loop true f nt s.env ps.toList uI body none]) fun _ h ws=>
  ∃rd f2 Qg e2 Cj a2 b2 jI e,h[s.heap.length+1]? = some (.loop rd f2 Qg e2 Cj a2 b2 jI)∧QH rd jI=some e∧Q e { s with heap:=h.set (s.heap.length+1) (.loop false f2 Qg e2 Cj a2 b2 (some .skip)),ws:=jX fl (ws.map .h) s.ws }
def fJ(P:Program)(T:qH)(call:aY)(cd:uX)(L:Nat)(f:Nat)(fl nt:Nat):Code->St->(Ex->St->Prop)->Prop
 |.region id ops draw,s,Q=>match Ad ops with
  |some (it,nx,_,b)=>nx<nt∧a0I fl s it fun s v=>∃s2 is,lC P call (fun d=>T.TM f d) fl nt ops [b] (s.put (some nx) (.val v))=some (s2,is)∧Q .norm { s2 with env:=pick (T.iD f id) s2.env }
  |none=>∃e s',exec P T call L f false fl nt (.region id ops draw) s=some (e,s')∧Q e s'
 |.seq a b,s,Q=>fJ P T call cd L f fl nt a s fun e s=>match e with
  |.norm=>fJ P T call cd L f fl nt b s Q
  |e=>Q e s
 |.cond c a b,s,Q=>match qK s.env c with
  |some (.bool true)=>fJ P T call cd L f fl nt a s Q
  |some (.bool false)=>fJ P T call cd L f fl nt b s Q
  |_=>False
 |.block id b,s,Q=>fJ P T call cd L f fl nt b s fun e s=>Q (match e with|.exit i=>if i=id then .norm else .exit i|e=>e) s
 |.scope b,s,Q=>fJ P T call cd L f fl nt b s Q
 |.loop b,s,Q=>GH (fun s Q=>fJ P T call cd L f fl nt b (kE (T.eP f (dU b)) s) Q) L s Q
 |.rangeFunc g ps uI body,s,Q=>if a5j T s.env g=true then adO cd f fl nt g ps uI body s Q else ∃e s',exec P T call L f false fl nt (.rangeFunc g ps uI body) s=some (e,s')∧Q e s'
 |c,s,Q=>∃e s',exec P T call L f false fl nt c s=some (e,s')∧Q e s'
section
variable {P:Program} {T:qH} {call:aY} {L f:Nat} {nt:Nat} {M0:Mp} {h0:List HB} {w0:World} {r:Option Nat} {ops:Array Oper} {M:Mp} {s:St} {a:Act} {w:World}
theorem adP(hm:P.follows .mixedOrders=true){id:Nat}{o1 o2:Oper}{draw:Bool}{F:Fence}{n:Nat}{Q:Exit->Act->World->Prop}(a97:ops=#[o1,o2])(h1:o1.after.toList.all (fun e=>!Region.binds .any e)=true)(h2:o2.after.toList.any (fun e=>Region.binds .any e&&e.on==0)=true)(h3:o2.after.toList.all (fun e=>!Region.binds .any e||e.on==0)=true)
  (h:∀w',(w'=w∨w'={ w with drawn:=w.drawn+1 })->wpOpIn F n P ops Q 0 (wpOpIn F n P ops Q 1 (Q .normal)) a w'):(Code.region id ops draw).wpIn F n P Q a w:=by
 cases draw with
 |false=>
  refine wpIn_region ?_;have:=h w (.inl rfl);have e:List.range ops.size=[0,1]:=by rw[a97];rfl
  rw[e,wpOpsIn_cons];refine wpOpIn_mono (fun a w hx=>?_) this;rw[wpOpsIn_cons];exact wpOpIn_mono (fun a w hx=>hx) hx
 |true=>
  refine wpIn_region_any hm ?_;have uT:ops.size=2:=by rw[a97];rfl
  have w1:∀D,uq D o1:=fun D e he hb=>by
   have:=a4x.1 h1 e (by simpa using he);simp[hb]at this
  have w2:∀D,uq D o2->D 0:=fun D hD=>by
   obtain⟨e,he,hb⟩:=agq.1 h2;simp only[a2n,a7H]at hb;have:=hD e (by simpa using he) hb.1
   rwa [hb.2]at this
  have g0:ops[0]? = some o1:=by rw[a97];rfl
  have g1:ops[1]? = some o2:=by rw[a97];rfl
  have g2:∀i,2<=i->ops[i]? = none:=fun i hi=>Array.getElem?_eq_none (by omega);rw[uT];have r0:∀i,i∈Region.ready .any ops (Array.replicate 2 false)↔i=0:=by
   intro i;rw[sO (by simp[uT])];constructor
   .rintro⟨o,ho,_,hw⟩
    match i with
    | 0=>rfl
    | 1=>
     rw[g1]at ho;cases ho;have:=w2 _ hw;simp at this
    |i+2=>rw[g2 _ (by omega)]at ho;cases ho
   .rintro rfl;exact⟨o1,g0,by simp,w1 _⟩
  have r1:∀i,i∈Region.ready .any ops ((Array.replicate 2 false).setIfInBounds 0 true)↔i=1:=by
   intro i;rw[sO (by simp[uT])];constructor
   .rintro⟨o,ho,hl,_⟩
    match i with
    | 0=>simp at hl
    | 1=>rfl
    |i+2=>rw[g2 _ (by omega)]at ho;cases ho
   .rintro rfl;refine⟨o2,g1,by simp,fun e he hb=>?_⟩;have:=a4x.1 h3 e (by simpa using he);simp only[hb,a8N,afS,a7H]at this;rw[this];simp
  have r2:Region.ready .any ops (((Array.replicate 2 false).setIfInBounds 0 true).setIfInBounds 1 true)=[]:=by
   refine a7S.2 fun i hi=>?_;obtain⟨o,ho,hl,_⟩:=(sO (by simp[uT])).1 hi
   match i with
   | 0=>simp at hl
   | 1=>simp at hl
   |i+2=>rw[g2 _ (by omega)]at ho;cases ho
  refine⟨fun h0=>?_,fun i hi=>?_⟩
  .have:=(r0 0).2 rfl;rw[h0]at this;cases this
  .have:=(r0 i).1 hi;subst this;refine wpOpIn_mono (fun a w hx=>?_) (h _ (.inr rfl));refine⟨fun h0=>?_,fun i hi=>?_⟩
   .have:=(r1 1).2 rfl;rw[h0]at this;cases this
   .have:=(r1 i).1 hi;subst this;exact wpOpIn_mono (fun a w hx=>⟨r2,hx⟩) hx
theorem Rel.ahL(hR:Rel M0 h0 w0 nt M s a w){d:Nat}{v:EV}{x:Value}(hd:d<nt)(hx:ER M v x):Rel M0 h0 w0 nt M (s.put (some d) v) (a.put (some d) x) w:=by
 have hg:(s.put (some d) v).get=s.get:=getEnv s _ _;refine⟨by rw[hg];exact hR.val,by rw[hg];exact hR.ext,?_,by rw[Gw];exact hR.size,?_,by rw[jL];exact hR.apart⟩
 .intro t e hl;rw[yQ]at hl;rw[yR];by_cases YL:some d=some t
  .rw[a0q YL]at hl;have:=hR.size;cases YL;rw[a0q ⟨rfl,by omega⟩];cases hl;exact hx
  rw[a0p YL]at hl;rw[a0p (fun h=>YL h.1)];exact hR.env t e hl
 rw[jL,hg];exact hR.marks
theorem a98(hB:wH M0 h0 w0){F:Fence}{n:Nat}{Q:Exit->Act->World->Prop}{o:Oper}{it nx i:Nat}{K:Act->World->Prop}{K':St->TV->Prop}(ho:ops[i]? = some o)(jK:o.op=.next (.tmp it) false)(adM:o.dst=some nx)(hg:o.guard=none)(hd:nx<nt)
  (hR:Rel M0 h0 w0 nt M s a w) (hN:a0I h0.length s it K') (hK:∀s1 v a1 w1,K' s1 v->Rel M0 h0 w0 nt M (s1.put (some nx) (.val v)) a1 w1->K a1 w1):wpOpIn F n P ops Q i K a w:=by
 obtain⟨b,r,n',seen,es,Qm,hb,hr,hn,ahM,ahN⟩:=hN;have hx:=hR.env it _ Qm;obtain⟨r',o',hm⟩:∃r' o',a.tmps.getD it Go.undef=.pointer (some ⟨r',0,none⟩)∧M (.h b)=some (.obj r' o'):=by
  generalize a.tmps.getD it Go.undef=xv at hx;cases hx with
  |val hx=>cases hx with
   |iter h=>exact⟨_,_,rfl,h⟩
 obtain⟨hm,hmb⟩:=hm;obtain⟨gy,c1,c2⟩:=hR.val.ok _ _ hmb trivial;simp only[St.get,hb,a03]at c1;subst c1;obtain⟨rb,q,sa,d1,d2,d3,d4⟩:=c2;obtain⟨gy,c1,c2⟩:=hR.val.ok (.h r) _ d1 trivial;simp only[St.get,hr,a03]at c1;subst c1;obtain⟨xs,g1,g2⟩:=c2;have hnn:xs.size=n':=by rw[<-g2.len];exact hn
 have hold:∀x∈xs.toList,x.born<n':=fun x hx=>by
  obtain⟨k,hk⟩:=a8I.1 hx;have o9:xs[k]? = some x:=by simpa using hk
  rw[(g2.at_ k x o9).1,<-hnn];exact(a2q.1 o9).1
 have abH:∀k j,q[k]? = some j->(k∈sa.toList↔j∈seen):=by
  intro k j hkj;have e1:k∈sa.toList->j∈seen:=fun hk=>by
   have:(q[k]?:Option Nat)∈sa.toList.map (fun i=>q[i]?):=a1e.2 ⟨k,hk,rfl⟩;rw[d4,hkj]at this;obtain⟨j',h1,h2⟩:=a1e.1 this;cases h2;simpa using h1
  have e2:j∈seen->k∈sa.toList:=fun hj=>by
   have:some j∈seen.reverse.map some:=a1e.2 ⟨j,by simpa using hj,rfl⟩;rw[<-d4]at this;obtain⟨k',h1,h2⟩:=a1e.1 this;have i1:=a0d.1 h2;have i2:=a0d.1 hkj;have:=(aa8 g2.nod (h₀:=i1.1) (h₁:=i2.1)).1 (i1.2.trans i2.2.symm);rw[<-this];exact h1
  exact⟨e1,e2⟩
 have abI:∀x,x∈(leftOf xs sa).toList↔x∈xs.toList∧x.born∉sa.toList:=fun x=>by
  simp[leftOf]
 have abJ:a.eval (.tmp it)=.pointer (some ⟨r',0,none⟩):=by simpa[Act.eval]using hm
 unfold wpOpIn;rw[ho];have hw:Region.wanted o (yielded ops a.tmps)=true:=by simp[Region.wanted,hg]
 simp only[hw,a2y];refine⟨fun f hf=>by simp[Oper.about,jK]at hf,?_⟩;rcases run_next_at (P:=P) w o.type r' rb n' n' sa xs xs.size d2 g1 hold (a0w _)with⟨h1,h2⟩|⟨e,h1,w1,h2,h3⟩
 .have vH:(o.semAt F.round a.eval).run P w=.ok (.value (.tuple #[.bool false])) w:=by
   simp[Oper.semAt,execOp,jK,abJ,h2]
  rw[vH,Oper.uponIn_value,adM];refine hK s _ _ _ (ahM fun j hj=>?_) (hR.ahL hd (.val (.Qh (.cons (.bool false) .nil))));obtain⟨k,hk⟩:=a8I.1 (g2.sur j (by omega));refine(abH k j hk).1 ?_;apply abR;intro hns;have hkx:k<xs.size:=by rw[<-g2.ord];exact(a0d.1 hk).1
  have:xs[k]∈(leftOf xs sa).toList:=(abI _).2 ⟨by simp,by rw[(g2.at_ k _ (a4a hkx)).1];exact hns⟩;have h0:(leftOf xs sa).toList=[]:=a4c (by simpa using h1);rw[h0]at this;cases this
 .obtain⟨hex,LD⟩:=(abI e).1 h1;obtain⟨k,hk⟩:=a8I.1 hex;have o9:xs[k]? = some e:=by simpa using hk
  obtain⟨z1,j,e',z2,z3,z4,z5⟩:=g2.at_ k e o9;have hj:j∉seen:=fun h=>LD (by rw[z1];exact(abH k j z2).2 h);have xC:Rel M0 h0 w0 nt M s a w1:=by
   rcases h2 with rfl|rfl
   .exact hR
   .exact⟨hR.val.of_heap rfl,hR.ext.drew rfl rfl rfl rfl,hR.env,hR.size,hR.marks,hR.apart⟩
  have hh:w1.heap=w.heap:=by rcases h2 with rfl|rfl<;>rfl
  have vH:(o.semAt F.round a.eval).run P w=.ok (.value (.tuple #[.bool true,e.key,e.val])) (setBlock w1 r' (.mapIter (some rb) n' (sa.push e.born) xs.size)):=by
   simp[Oper.semAt,execOp,jK,abJ,h3]
  rw[vH,Oper.uponIn_value,adM];have aQ:r'<w1.heap.size:=by rw[hh];exact(a2q.1 d2).1
  obtain⟨v4,x4⟩:=E5 (o':=.mapIter (some rb) n' (sa.push e.born) xs.size) (b':=.dn r n' (j::seen)) xC.val hmb hb rfl ⟨rb,q,sa.push e.born,d1,by simp[aQ,hnn],d3,by
   rw[Array.toList_push,a4f,d4,z1];simp[z2]⟩
  have Ro:=xC.next hB (s':={ s with heap:=s.heap.set b (.dn r n' (j::seen)),ws:=jX h0.length [.h b] s.ws }) v4 x4 rfl rfl (fun _ _ h=>h);exact hK _ _ _ _ (ahN j e' hj z3) (Ro.ahL hd (.val (.Qh (.cons (.bool true) (.cons z4 (.cons z5 .nil))))))
theorem U9{it nx:Nat}{o1 o2:Oper}(h:Ad ops=some (it,nx,o1,o2)):ops=#[o1,o2]∧o1.op=.next (.tmp it) false∧o1.dst=some nx∧o1.guard=none∧o1.after.toList.all (fun e=>!Region.binds .any e)=true∧o2.after.toList.any (fun e=>Region.binds .any e&&e.on==0)=true∧o2.after.toList.all (fun e=>!Region.binds .any e||e.on==0)=true:=by
 unfold Ad at h;split at h
 .rename_i x y hl;split at h
  .rename_i it' nx' h1 h2 h3;split at h
   .rename_i hc;simp only[a03,a0u]at h;obtain⟨rfl,rfl,rfl,rfl⟩:=h;simp only[a2n]at hc;exact⟨adB (by simpa using hl),h1,h2,h3,hc.1.1,hc.1.2,hc.2⟩
   cases h
  cases h
 cases h
def LQ(P:Program)(M0:Mp)(h0:List HB)(w0:World)(nt:Nat)(c:Code)(s:St)(QT:Ex->St->Prop):Prop:=
 ∀(n:Nat) (Q:Exit->Act->World->Prop) (M:Mp) (a:Act) (w:World),Rel M0 h0 w0 nt M s a w->(∀e s' M' a' w',QT e s'->Rel M0 h0 w0 nt M' s' a' w'->Q (YT e) a' w')->c.wpIn (nK none) n P Q a w
theorem a5k(hB:wH M0 h0 w0){c:Code}{live:List Nat}{g:St->(Ex->St->Prop)->Prop}(ih:∀s QT,g s QT->LQ P M0 h0 w0 nt c (kE live s) QT){k:Nat}{s:St}{QT:Ex->St->Prop}
  (h:GH g k s QT):LQ P M0 h0 w0 nt (.loop c) s QT:=by
 intro n Q M a w hR hQ
 let J:Act->World->Nat->Prop:=fun a w k=>∃s M,GH g k s QT∧Rel M0 h0 w0 nt M s a w
 refine wpIn_loop (fun a w=>∃k,J a w k) (fun a w=>leastOf (J a w)) ⟨k,s,M,h,hR⟩ ?_;intro a1 w1 hI;obtain⟨⟨s1,M1,Qm,xC⟩,_⟩:=leastOf_spec hI;generalize leastOf (J a1 w1)=k1 at Qm ⊢;cases k1 with
 |zero=>exact Qm.elim
 |succ k1=>
  refine ih s1 _ Qm n _ _ a1 w1 (xC.head hB live) fun e s2 M2 a2 w2 hq Ro=>?_;cases e with
  |norm=>
   have hJ:J a2 w2 k1:=⟨s2,M2,hq,Ro⟩;exact⟨⟨k1,hJ⟩,Nat.lt_succ_of_le ((leastOf_spec ⟨k1,hJ⟩).2 k1 hJ)⟩
  |exit id=>exact hQ _ _ M2 a2 w2 hq Ro
  |ret=>exact hQ _ _ M2 a2 w2 hq Ro
def LU(P:Program)(cd:uX):Prop:=
 ∀f1 a1 b1 args h K,cd (.fn f1 a1 b1) args h K->∀(M:Mp) (w:World) (x:Value) (xs:List Value),Valid M uK (l9 h) w->(∀k,M (.l k)=none)->VR M.h (.fn f1 a1 b1) x->bZ M.h args xs ->
  ∃d,(∀w,(Deferred.ofValue x xs.toArray).run P w=.ok d w)∧LG P d w fun y w'=>∃v h' ws,K v h' ws∧jJ M h w v h' ws y w'
theorem a5l(hm:P.follows .mixedOrders=true)(hC:iF P call){cd:uX}(hD:LU P cd)(hB:wH M0 h0 w0):∀(c:Code) (s:St) (QT:Ex->St->Prop),fJ P T call cd L f h0.length nt c s QT->LQ P M0 h0 w0 nt c s QT:=by
 have plain:∀(c:Code) (s:St) (QT:Ex->St->Prop),(∃e s',exec P T call L f false h0.length nt c s=some (e,s')∧QT e s')->LQ P M0 h0 w0 nt c s QT:=by
  rintro c s QT ⟨e,s',h1,h2⟩ n Q M a w hR hQ;exact vI (gY:=false) hm hC hB (fun _=>rfl) c s s' e h1 n Q M a w hR fun M' a' w' FB=>hQ e s' M' a' w' h2 FB
 intro c
 induction c with
 |region id ops draw=>
  intro s QT h;simp only[fJ]at h;split at h
  .rename_i it nx o1 o2 hn;obtain⟨hd,hN⟩:=h;obtain⟨e1,e2,e3,e4,e5,e6,e7⟩:=U9 hn;intro n Q M a w hR hQ;refine adP hm e1 e5 e6 e7 fun w' hw'=>?_;have FB:Rel M0 h0 w0 nt M s a w':=by
    rcases hw' with rfl|rfl
    .exact hR
    exact⟨hR.val.of_heap rfl,hR.ext.drew rfl rfl rfl rfl,hR.env,hR.size,hR.marks,hR.apart⟩
   refine a98 hB (i:=0) (o:=o1) (by rw[e1];rfl) e2 e3 e4 hd FB hN ?_;rintro s1 v a1 w1 ⟨s2,is,vH,hq⟩ xC;have YX:ops[1]? = some o2:=by rw[e1];rfl
   obtain⟨i,s3,is',hS,hr,_⟩:=CQ vH;simp only[lC,a03,a0u]at hr;obtain⟨rfl,rfl⟩:=hr;refine(Gx hC xC hS).2 none n Q 1 _ YX fun x w2 vT=>?_;obtain⟨M',Ro⟩:=NR hB xC hS vT;exact hQ .norm _ _ _ _ hq (Ro.pick _)
  exact plain _ _ _ h
 |seq x y Wh ihy=>
  intro s QT h n Q M a w hR hQ;simp only[fJ]at h;refine wpIn_seq (Wh s _ h n _ M a w hR fun e s1 M1 a1 w1 hq xC=>?_);cases e with
  |norm=>exact ihy s1 _ hq n Q M1 a1 w1 xC hQ
  |exit id=>exact hQ _ _ _ _ _ hq xC
  |ret=>exact hQ _ _ _ _ _ hq xC
 |cond c x y Wh ihy=>
  intro s QT h n Q M a w hR hQ;simp only[fJ]at h;have hev:∀b,qK s.env c=some (.bool b)->a.eval c=.bool b:=by
   intro b hb;have:=YC hR.env hb;generalize a.eval c=z at this;cases this;rfl
  split at h
  .rename_i hc;exact wpIn_cond_true (hev _ hc) (Wh s _ h n Q M a w hR hQ)
  .rename_i hc;exact wpIn_cond_false (hev _ hc) (ihy s _ h n Q M a w hR hQ)
  exact h.elim
 |block id b ih=>
  intro s QT h n Q M a w hR hQ;simp only[fJ]at h;refine wpIn_block (ih s _ h n _ M a w hR fun e s1 M1 a1 w1 hq xC=>?_);have:=hQ _ _ _ _ _ hq xC;cases e with
  |norm=>exact this
  |ret=>exact this
  |exit i=>
   by_cases hi:i=id
   .simp only[hi,a2y]at this;simp only[YT,Exit.inBlock,hi,a2y];exact this
   simp only[hi,a3U]at this;simp only[YT,Exit.inBlock,hi,a3U];exact this
 |scope b ih=>
  intro s QT h n Q M a w hR hQ;simp only[fJ]at h;refine NV (ih s _ h n _ M a w hR fun e s1 M1 a1 w1 hq xC=>?_);have:=hQ _ _ _ _ _ hq xC;cases e<;>exact this
 |loop b ih=>
  intro s QT h;simp only[fJ]at h;exact a5k hB (live:=T.eP f (dU b)) (fun s QT hs=>ih _ _ hs) h
 |rangeFunc g ps uI body=>
  intro s QT h;simp only[fJ]at h;split at h
  .obtain⟨f1,a1,b1,hg,hv,hc⟩:=h;intro n Q M a w hR hQ;exact Rq hB hg hv (fun M w x xs=>hD _ _ _ _ _ _ hc M w x xs) (fun v h ws hk=>hk) n Q M a w hR hQ
  exact plain _ _ _ h
 |_=>
  intro s QT h;simp only[fJ]at h;exact plain _ _ _ h
end
def nG(g:Nat->Option Nat):TV->Option TV
 |.ptr b o l=>(g b).map fun b=>.ptr b o l
 |.slc b o n c z e=>(g b).map fun b=>.slc b o n c z e
 |.map r=>(g r).map .map
 |.kW _=>none
 |.iter _=>none
 |.fn f a c=>match yV g a,yV g c with
  |some a,some c=>some (.fn f a c)
  |_,_=>none
 |.agg cs=>(yV g cs).map .agg
 |.dF cs=>(yV g cs).map .dF
 |.bool b=>some (.bool b)
 |.int k n=>some (.int k n)
 |.str s=>some (.str s)
 |.nil k=>some (.nil k)
where
 yV (g:Nat->Option Nat):List TV->Option (List TV)
 | []=>some []
 |c::cs=>match nG g c,yV g cs with
  |some v,some vs=>some (v::vs)
  |_,_=>none
theorem NZ{g:Nat->Option Nat}:∀{az Yr:List TV},nG.yV g az=some Yr->az.length=Yr.length∧∀(i:Nat) c',Yr[i]? = some c'->∃c,az[i]? = some c∧nG g c=some c'
 | [],Yr,h=>by cases h;exact⟨rfl,fun i c h=>by simp at h⟩
 |a::az,Yr,h=>by
  simp only[nG.yV]at h;split at h
  .rename_i v vs e1 e2;cases h;obtain⟨h1,h2⟩:=NZ e2;refine⟨by simp[h1],fun i c' hi=>?_⟩;cases i with
   |zero=>simp at hi;subst hi;exact⟨a,rfl,e1⟩
   |succ i=>exact h2 i c' (by simpa using hi)
  cases h
section
variable {g:Nat->Option Nat} {N N':Np}
theorem LV(hg:∀b b',g b=some b'->N' b'=N b){v:TV}{x:Value}(h:VR N v x):∀{v'},nG g v=some v'->VR N' v' x:=by
 have dD:∀{az:List TV} {xs:List Value},az.length=xs.length->(∀(i:Nat) (c:TV) (v:Value),az[i]? = some c->xs[i]? = some v->∀{v'},nG g c=some v'->VR N' v' v)->∀{Yr},nG.yV g az=some Yr->Yr.length=xs.length∧∀(i:Nat) (c:TV) (v:Value),Yr[i]? = some c->xs[i]? = some v->VR N' c v:=by
  intro az xs hl ha Yr hr;obtain⟨h1,h2⟩:=NZ hr;exact⟨by rw[<-h1,hl],fun i c v e1 e2=>by obtain⟨c0,f1,f2⟩:=h2 i c e1;exact ha i c0 v f1 e2 f2⟩
 induction h with
 |bool b=>intro v' h;cases h;exact .bool b
 |int k n=>intro v' h;cases h;exact .int k n
 |str s=>intro v' h;cases h;exact .str s
 |a2j=>intro v' h;cases h;exact .a2j
 |TN=>intro v' h;cases h;exact .TN
 |Yy=>intro v' h;cases h;exact .Yy
 |nfn=>intro v' h;cases h;exact .nfn
 |a2k=>intro v' h;cases h;exact .a2k
 |ptr hb hp h ht=>
  intro v' hr;simp only[nG,a0f]at hr;obtain⟨b',e,rfl⟩:=hr;exact .ptr (by rw[hg _ _ e];exact hb) hp h ht
 |slc hb hp h hl hc hx ha hk=>
  intro v' hr;simp only[nG,a0f]at hr;obtain⟨b',e,rfl⟩:=hr;exact .slc (by rw[hg _ _ e];exact hb) hp h hl hc hx ha hk
 |map h=>
  intro v' hr;simp only[nG,a0f]at hr;obtain⟨b',e,rfl⟩:=hr;exact .map (by rw[hg _ _ e];exact h)
 |kW h=>intro v' hr;simp[nG]at hr
 |fn h1 h2 h3 h4 i2 i4=>
  intro v' hr;simp only[nG]at hr;split at hr
  .rename_i a c e1 e2;cases hr;obtain⟨p1,p2⟩:=dD h1 i2 e1;obtain⟨q1,q2⟩:=dD h3 i4 e2;exact .fn p1 p2 q1 q2
  cases hr
 |iter h=>intro v' hr;simp[nG]at hr
 |agg h1 h2 i2=>
  intro v' hr;simp only[nG,a0f]at hr;obtain⟨a,e,rfl⟩:=hr;obtain⟨p1,p2⟩:=dD h1 i2 e;exact .agg p1 p2
 |dF h1 h2 i2=>
  intro v' hr;simp only[nG,a0f]at hr;obtain⟨a,e,rfl⟩:=hr;obtain⟨p1,p2⟩:=dD h1 i2 e;exact .dF p1 p2
def oW(g:Nat->Option Nat):List (TV×TV)->Option (List (TV×TV))
 | []=>some []
 |(k,v)::r=>match nG g k,nG g v,oW g r with
  |some k,some v,some r=>some ((k,v)::r)
  |_,_,_=>none
theorem Wi:∀{az Yr:List (TV×TV)},oW g az=some Yr->az.length=Yr.length∧∀(i:Nat) c',Yr[i]? = some c'->∃c,az[i]? = some c∧nG g c.1=some c'.1∧nG g c.2=some c'.2
 | [],Yr,h=>by cases h;exact⟨rfl,fun i c h=>by simp at h⟩
 |(k,v)::az,Yr,h=>by
  simp only[oW]at h;split at h
  .rename_i k' v' vs e0 e1 e2;cases h;obtain⟨h1,h2⟩:=Wi e2;refine⟨by simp[h1],fun i c' hi=>?_⟩;cases i with
   |zero=>simp at hi;subst hi;exact⟨(k,v),rfl,e0,e1⟩
   |succ i=>exact h2 i c' (by simpa using hi)
  cases h
def uw(g:Nat->Option Nat):HB->Option HB
 |.cells k cs=>(nG.yV g cs).map (.cells k)
 |.map es=>(oW g es).map .map
 |.mark=>some .mark
 |_=>none
theorem a5m{v v':TV}(h:nG g v=some v'):iU v'=iU v:=by
 cases v<;>simp only[nG,a0f,a03]at h
 all_goals first
  |(obtain⟨b,_,rfl⟩:=h;rfl)
  |(subst h;rfl)
  |(split at h<;>cases h;rfl)
  |cases h
theorem a5n(hg:∀b b',g b=some b'->N' b'=N b){w:World}{b b':HB}{l:Lc}(h:pO N w b l)(hr:uw g b=some b'):pO N' w b' l:=by
 cases b with
 |cells k cs=>
  cases l with
  |obj r _=>exact h.elim
  |cells ls=>
   simp only[uw,a0f]at hr;obtain⟨cs',e,rfl⟩:=hr;obtain⟨h1,h2⟩:=NZ e;refine⟨fun c hc=>?_,fun p hp=>?_,fun hk=>by rw[<-h1];exact h.2.2.1 hk,fun hk=>by rw[<-h1];exact h.2.2.2 hk⟩
   .obtain⟨i,hi⟩:=a8I.1 hc;obtain⟨c0,f1,f2⟩:=h2 i c hi;rw[a5m f2];exact h.1 c0 (a4s f1)
   obtain⟨⟨arr,ty,fz,a1,a2,a3,a4⟩,b1,b2,b3⟩:=h.2.1 p hp;exact⟨⟨arr,ty,fz,a1,a2,a3,fun hk i c v hi hc hv=>by obtain⟨c0,f1,f2⟩:=h2 i c hc;exact LV hg (a4 (by rw[h1];exact hk) i c0 v hi f1 hv) f2⟩,b1,by rw[<-h1];exact b2,b3⟩
 |map es=>
  cases l with
  |cells ls=>exact h.elim
  |obj r=>
   simp only[uw,a0f]at hr;obtain⟨gu,e,rfl⟩:=hr;obtain⟨h1,h2⟩:=Wi e;obtain⟨xs,a0,a1,a2,a3,a4,a5⟩:=h;refine⟨xs,a0,by rw[<-h1];exact a1,a2,a3,by rw[<-h1];exact a4,fun i x hx=>?_⟩;obtain⟨b1,j,e0,b2,b3,b4,b5⟩:=a5 i x hx;have hl:j<gu.length:=by rw[<-h1];exact(a0d.1 b3).1
   obtain⟨c0,f1,f2,f3⟩:=h2 j _ (a0g hl);rw[b3]at f1;cases f1;exact⟨b1,j,_,b2,a0g hl,LV hg b4 f2,LV hg b5 f3⟩
 |mark=>simp only[uw,a03]at hr;subst hr;cases l<;>exact h
 |_=>simp[uw]at hr
theorem adQ{b b':HB}(h:uw g b=some b'):wr b'=wr b:=by
 cases b with
 |cells k cs=>simp only[uw,a0f]at h;obtain⟨_,_,rfl⟩:=h;cases k<;>rfl
 |map es=>simp only[uw,a0f]at h;obtain⟨_,_,rfl⟩:=h;rfl
 |mark=>simp only[uw,a03]at h;subst h;rfl
 |_=>simp[uw]at h
end
def a5o:List Nat->Nat->Option Nat
 | [],_=>none
 |a::l,i=>match Nat.beq a i with
  |true=>some 0
  |false=>(a5o l i).map (·+1)
theorem a0J:∀{l:List Nat} {i p:Nat},a5o l i=some p->l[p]? = some i
 | [],i,p,h=>by cases h
 |a::l,i,p,h=>by
  simp only[a5o]at h;split at h
  .rename_i e;cases h;rw[a8K e];rfl
  simp only[a0f]at h;obtain⟨q,e,rfl⟩:=h;rw[a9r];exact a0J e
def Wj(fl:Nat)(nD:List Nat)(b:Nat):Option Nat:=match Nat.blt b fl with
 |true=>some b
 |false=>(a5o nD b).map (·+fl)
def CU(g:Nat->Option Nat)(h:List HB):List Nat->Option (List HB)
 | []=>some []
 |b::l=>match h[b]? with
  |some x=>match uw g x,CU g h l with
   |some y,some r=>some (y::r)
   |_,_=>none
  |none=>none
theorem O1{g:Nat->Option Nat}{h:List HB}:∀{l:List Nat} {bs:List HB},CU g h l=some bs->l.length=bs.length∧∀(i:Nat) y,bs[i]? = some y->∃c x,l[i]? = some c∧h[c]? = some x∧uw g x=some y
 | [],bs,e=>by cases e;exact⟨rfl,fun i y h=>by simp at h⟩
 |b::l,bs,e=>by
  simp only[CU]at e;split at e
  .rename_i x hx;split at e
   .rename_i y r e1 e2;cases e;obtain⟨h1,h2⟩:=O1 e2;refine⟨by simp[h1],fun i y' hi=>?_⟩;cases i with
    |zero=>simp at hi;subst hi;exact⟨b,x,rfl,hx,e1⟩
    |succ i=>exact h2 i y' (by simpa using hi)
   cases e
  cases e
theorem jJ.gc{M:Mp}{h h' bs:List HB}{w w':World}{v v':TV}{y:Value}{nD:List Nat}(hV:Valid M uK (l9 h) w)(hl:∀k,M (.l k)=none)(hR:jJ M h w v h' [] y w')(hn:nD.Nodup)(hk:∀b∈nD,h.length<=b)(hv:nG (Wj h.length nD) v=some v')(hb:CU (Wj h.length nD) h' nD=some bs):jJ M h w v' (h++bs) [] y w':=by
 obtain⟨M',YK,hl',hX,hv'⟩:=hR;have YZ:∀b l,M (.h b)=some l->b<h.length:=fun b l hb=>by
  have:=hV.has hb;simp only[l9,St.get]at this;rcases a4h b h.length with h1|h1
  .exact h1
  rw[a4e h1]at this;simp at this
 have hold:∀b,b<h.length->M' (.h b)=M (.h b):=fun b hb=>hX.lD (.h b) (.inl (by simp[l9,St.get,hb])) (by simp);have hoc:∀b,b<h.length->l9 h' (.h b)=l9 h (.h b):=fun b hb=>hX.nD (.h b) (by simp[l9,St.get,hb]) (by simp);obtain⟨p1,p2⟩:=O1 hb
 let κ:Nat->Option Nat:=fun b=>if b<h.length then some b else nD[b-h.length]?
 let M2:Mp:=fun k=>match k with
  |.l _=>none
  |.h b=>match κ b with
   |some c=>M' (.h c)
   |none=>none
 have hκ:∀b c,κ b=some c->M2 (.h b)=M' (.h c):=fun b c e=>by show(match κ b with|some c=>M' (.h c)|none=>none)=_;rw[e]
 have hκn:∀b,κ b=none->M2 (.h b)=none:=fun b e=>by show(match κ b with|some c=>M' (.h c)|none=>none)=_;rw[e]
 have hM2:∀b l,M2 (.h b)=some l->∃c,κ b=some c∧M' (.h c)=some l:=fun b l e=>by
  cases e2:κ b with
  |none=>rw[hκn b e2]at e;cases e
  |some c=>rw[hκ b c e2]at e;exact⟨c,rfl,e⟩
 have klt:∀b,b<h.length->κ b=some b:=fun b hb=>by simp only[κ,a0q hb]
 have kge:∀b,¬b<h.length->κ b=nD[b-h.length]?:=fun b hb=>by simp only[κ,a0p hb]
 have hg:∀b b',Wj h.length nD b=some b'->M2.h b'=M'.h b:=fun b b' e=>by
  unfold Wj at e;split at e
  .rename_i aQ;have aQ:b<h.length:=agI aQ;cases e;exact hκ _ _ (klt b aQ)
  simp only[a0f]at e;obtain⟨p,e1,rfl⟩:=e;exact hκ _ _ (by rw[kge _ (by omega),Nat.add_sub_cancel];exact a0J e1)
 have hle:su M.h M2.h:=fun b l e=>⟨l,by show M2 (.h b)=some l;rw[hκ b b (klt b (YZ b l e)),hold b (YZ b l e)];exact e,.refl l⟩;have Wn:∀c,c<w.heap.size->w'.heap[c]? = w.heap[c]?:=fun c hc=>hX.frame c hc (by simp);have hC:∀b,b<h.length->l9 (h++bs) (.h b)=l9 h (.h b):=fun b hb=>by simp only[l9,St.get];rw[a0k hb]
 have hC2:∀b,¬b<h.length->l9 (h++bs) (.h b)=bs[b-h.length]?:=fun b hb=>by simp only[l9,St.get];rw[a1d (by omega)]
 refine⟨M2,⟨fun k l kQ _=>?_,fun k k' l l' b iE h1 h2 _ hc hw=>?_,fun k l kQ=>?_⟩,fun _=>rfl,⟨fun k l e=>?_,fun c hc _=>Wn c hc,fun k hs _=>?_,fun k hs _=>?_,fun k l e c hc hs=>?_,hX.size,fun k hs=>?_,by simp,by simp,hX.os,hX.output,hX.tape⟩,LV hg hv' hv⟩
 .cases k with
  |l k=>cases kQ
  |h b=>
   obtain⟨c,e1,e2⟩:=hM2 b l kQ;by_cases xR:b<h.length
   .have:=klt b xR;rw[this]at e1;cases e1;rw[hold b xR]at e2;obtain⟨x,f1,f2⟩:=hV.ok _ l e2 trivial;exact⟨x,by rw[hC b xR];exact f1,f2.mono hle fun c hc=>Wn c (hV.inb _ l e2 c hc)⟩
   rw[kge b xR]at e1;have aQ:b-h.length<bs.length:=by rw[<-p1];exact(a0d.1 e1).1
   obtain⟨c',x,f1,f2,f3⟩:=p2 _ _ (a0g aQ);rw[e1]at f1;cases f1;obtain⟨x',g1,g2⟩:=YK.ok _ l e2 trivial;have g1:h'[c]? = some x':=g1;rw[f2]at g1;cases g1;exact⟨_,by rw[hC2 b xR];exact a0g aQ,a5n hg g2 f3⟩
 .cases k with
  |l k=>cases h1
  |h b1=>
   cases k' with
   |l k=>cases h2
   |h b2=>
    obtain⟨c1,e1,e2⟩:=hM2 b1 l h1;obtain⟨c2,e3,e4⟩:=hM2 b2 l' h2;have NJ:c1≠c2:=fun e=>by
     subst e;by_cases q1:b1<h.length<;>by_cases q2:b2<h.length
     .rw[klt _ q1]at e1;rw[klt _ q2]at e3;cases e1;cases e3;exact iE rfl
     .rw[klt _ q1]at e1;rw[kge _ q2]at e3;cases e1;have:=hk _ (a4s e3);omega
     .rw[kge _ q1]at e1;rw[klt _ q2]at e3;cases e3;have:=hk _ (a4s e1);omega
     rw[kge _ q1]at e1;rw[kge _ q2]at e3;have i1:=(a0d.1 e1);have i2:=(a0d.1 e3);have:=(aa8 hn (h₀:=i1.1) (h₁:=i2.1)).1 (i1.2.trans i2.2.symm);exact iE (by rw[show b1=b2 by omega])
    obtain⟨x,g1,g2⟩:∃x,l9 h' (.h c1)=some x∧wr x=true:=by
     by_cases q1:b1<h.length
     .rw[klt _ q1]at e1;cases e1;exact⟨b,by rw[hoc _ q1,<-hC _ q1];exact hc,hw⟩
     rw[hC2 _ q1]at hc;obtain⟨c',x,f1,f2,f3⟩:=p2 _ _ hc;rw[kge _ q1,f1]at e1;cases e1;exact⟨x,f2,by rw[<-adQ f3];exact hw⟩
    exact YK.own (.h c1) (.h c2) l l' x (fun e=>NJ (by cases e;rfl)) e2 e4 trivial g1 g2
 .cases k with
  |l k=>cases kQ
  |h b=>obtain⟨c,e1,e2⟩:=hM2 b l kQ;exact YK.inb _ l e2
 .cases k with
  |l k=>rw[hl k]at e;cases e
  |h b=>exact hle b l e
 .cases k with
  |l k=>simp[l9,St.get]at hs
  |h b=>
   refine hC b ?_;simp only[l9,St.get]at hs;rcases a4h b h.length with h1|h1
   .exact h1
   rw[a4e h1]at hs;simp at hs
 .cases k with
  |l k=>rw[hl k]
  |h b=>
   by_cases xR:b<h.length
   .rw[hκ b b (klt b xR),hold b xR]
   have h1:M (.h b)=none:=by
    cases e:M (.h b)with
    |none=>rfl
    |some l=>exact absurd (YZ b l e) xR
   rw[h1];refine hκn b ?_;rw[kge b xR];rcases hs with hs|hs
   .simp only[l9,St.get]at hs;rw[a4e (by omega)]at hs;simp at hs
   rw[hC2 b xR]at hs;rw[List.getElem?_eq_none_iff]at hs ⊢;omega
 .cases k with
  |l k=>cases e
  |h b=>
   obtain⟨c',e1,e2⟩:=hM2 b l e;obtain⟨l0,f1,f2⟩:=hX.fresh _ l e2 c hc hs;have:=YZ _ _ f1;by_cases xR:b<h.length
   .rw[klt b xR]at e1;cases e1;exact⟨l0,f1,f2⟩
   rw[kge b xR]at e1;have:=hk _ (a4s e1);omega
 cases k with
 |l k=>simp[l9,St.get]at hs
 |h b=>
  simp only[l9,St.get]at hs ⊢;rcases a4h b h.length with h1|h1
  .simp[a0k h1,h1]
  rw[a4e h1]at hs;simp at hs
def BJ:TV->List Nat->List Nat
 |.ptr b _ _,l=>b::l
 |.slc b _ _ _ _ _,l=>b::l
 |.map b,l=>b::l
 |.fn _ a c,l=>EM a (EM c l)
 |.agg cs,l=>EM cs l
 |.dF cs,l=>EM cs l
 |_,l=>l
where
 EM:List TV->List Nat->List Nat
 | [],l=>l
 |c::cs,l=>BJ c (EM cs l)
def a9a:Option HB->List Nat->List Nat
 |some (.cells _ cs),l=>BJ.EM cs l
 |some (.map es),l=>a0K es l
 |_,l=>l
where
 a0K:List (TV×TV)->List Nat->List Nat
 | [],l=>l
 |e::es,l=>BJ e.1 (BJ e.2 (a0K es l))
def a5q(b:Nat):List Nat->Bool
 | []=>false
 |a::l=>match Nat.beq a b with
  |true=>true
  |false=>a5q b l
theorem a0L:∀{l:List Nat} {b:Nat},a5q b l=false->b∉l
 | [],b,_=>by simp
 |a::l,b,h=>by
  simp only[a5q]at h;split at h
  .cases h
  rename_i e;rw[a2r];rintro (rfl|h2)
  .rw[Nat.beq_refl]at e;cases e
  exact a0L h h2
def wI(h:List HB)(fl:Nat):Nat->List Nat->List Nat->List Nat
 | 0,_,acc=>acc
 |_+1,[],acc=>acc
 |n+1,b::t,acc=>match Nat.blt b fl||a5q b acc with
  |true=>wI h fl n t acc
  |false=>wI h fl n (a9a h[b]? t) (b::acc)
theorem IY{h:List HB}{fl:Nat}:∀(n:Nat) (t acc:List Nat),acc.Nodup->(∀b∈acc,fl<=b)->(wI h fl n t acc).Nodup∧∀b∈wI h fl n t acc,fl<=b
 | 0,_,_,h1,h2=>⟨h1,h2⟩
 |_+1,[],_,h1,h2=>⟨h1,h2⟩
 |n+1,b::t,acc,h1,h2=>by
  simp only[wI];split
  .exact IY n t acc h1 h2
  rename_i e;simp only[a9o]at e;have e1:fl<=b:=by
   rcases a4h b fl with h3|h3
   .rw[show Nat.blt b fl=true from Nat.ble_eq_true_of_le h3]at e;cases e.1
   exact h3
  exact IY n _ _ (a4m.2 ⟨a0L e.2,h1⟩) fun c hc=>by
   rcases a2r.1 hc with rfl|hc
   .exact e1
   exact h2 c hc
def Rt:TV->List Int
 |.bool b=>[if b then 1 else 0]
 |.int _ n=>[n]
 |.agg cs=>codes cs
 |_=>[]
where
 codes:List TV->List Int
 | []=>[]
 |c::cs=>Rt c++codes cs
def lG:List Int->List Int->Bool
 | [],_=>true
 |_::_,[]=>false
 |a::az,b::bs=>if a<b then true else if b<a then false else lG az bs
section
variable {α:Type} (key:α->List Int)
def Ey(e:α):List α->List α
 | []=>[e]
 |x::l=>if lG (key e) (key x)then e::x::l else x::Ey e l
def yX:List α->List α
 | []=>[]
 |e::l=>Ey key e (yX l)
theorem Ru(e:α):∀l,(Ey key e l).Perm (e::l)
 | []=>.refl _
 |x::l=>by
  unfold Ey;split
  .exact .refl _
  exact((Ru e l).cons x).trans (.swap e x l)
theorem qo:∀l,(yX key l).Perm l
 | []=>.refl _
 |e::l=>(Ru key e _).trans ((qo l).cons e)
end
abbrev Rx:List (TV×TV)->List (TV×TV):=yX fun e=>Rt e.1
abbrev Ry:List TV->List TV:=yX Rt
theorem FD(l):(Rx l).Perm l:=qo _ l
structure Ix{α:Type}(l1 l2:List α)(f g:Nat->Nat):Prop where
 to:∀i,i<l1.length->f i<l1.length∧g (f i)=i∧l2[f i]? = l1[i]?
 fro:∀j,j<l1.length->g j<l1.length∧f (g j)=j
theorem a0M{α:Type}{l1 l2:List α}(h:l1.Perm l2):∃f g,Ix l1 l2 f g:=by
 induction h with
 |nil=>exact⟨id,id,⟨fun i hi=>by simp at hi,fun i hi=>by simp at hi⟩⟩
 |cons x h ih=>
  obtain⟨f,g,h1,h2⟩:=ih;refine⟨fun i=>match i with| 0=>0|i+1=>f i+1,fun i=>match i with| 0=>0|i+1=>g i+1,⟨fun i hi=>?_,fun j hj=>?_⟩⟩
  .cases i with
   |zero=>simp
   |succ i=>
    obtain⟨a,b,c⟩:=h1 i (by simpa using hi);exact⟨by simpa using a,by simp[b],by simpa using c⟩
  cases j with
  |zero=>simp
  |succ j=>
   obtain⟨a,b⟩:=h2 j (by simpa using hj);exact⟨by simpa using a,by simp[b]⟩
 |swap x y l=>
  refine⟨fun i=>match i with| 0=>1| 1=>0|i+2=>i+2,fun i=>match i with| 0=>1| 1=>0|i+2=>i+2,⟨fun i hi=>?_,fun j hj=>?_⟩⟩
  .match i with
   | 0=>simp
   | 1=>simp
   |i+2=>simp at hi ⊢;exact hi
  match j with
  | 0=>simp
  | 1=>simp
  |j+2=>simp at hj ⊢;exact hj
 |trans h h' ih ih'=>
  obtain⟨f,g,h1,h2⟩:=ih;obtain⟨f',g',h3,h4⟩:=ih';have hl:=h.length_eq;refine⟨fun i=>f' (f i),fun j=>g (g' j),⟨fun i hi=>?_,fun j hj=>?_⟩⟩
  .obtain⟨a,b,c⟩:=h1 i hi;obtain⟨a',b',c'⟩:=h3 (f i) (by omega);exact⟨by omega,by simp only[b',b],by rw[c',c]⟩
  obtain⟨a,b⟩:=h4 j (by omega);obtain⟨a',b'⟩:=h2 (g' j) (by omega);exact⟨a',by simp only[b',b]⟩
theorem wu.perm{N:Np}{o:List Nat}{es gu:List (TV×TV)}{xs:Array MapEntry}(h:wu N o es xs){f g:Nat->Nat}(hf:Ix es gu f g)(hl:gu.length=es.length):wu N (o.map f) gu xs:=by
 have aQ:∀j∈o,j<es.length:=fun j hj=>by
  obtain⟨i,hi⟩:=a8I.1 hj;have:i<xs.size:=by rw[<-h.ord];exact(a0d.1 hi).1
  obtain⟨_,j',e,z1,z2,_⟩:=h.at_ i _ (a4a this);rw[hi]at z1;cases z1;exact(a0d.1 z2).1
 refine⟨by rw[hl,h.len],by rw[a4l,h.ord],?_,fun j hj=>?_,fun i x hx=>?_⟩
 .have:∀l:List Nat,(∀j∈l,j<es.length)->l.Nodup->(l.map f).Nodup:=by
   intro l
   induction l with
   |nil=>simp
   |cons a l ih=>
    intro h1 h2;rw[a4m]at h2;rw[a4g,a4m];refine⟨fun hm=>?_,ih (fun j hj=>h1 j (by simp[hj])) h2.2⟩;obtain⟨b,hb,e⟩:=a1e.1 hm;have e1:=(hf.to a (h1 a (by simp))).2.1;have e2:=(hf.to b (h1 b (by simp[hb]))).2.1;rw[e,e1]at e2;exact h2.1 (e2▸hb)
  exact this o aQ h.nod
 .obtain⟨a,b⟩:=hf.fro j (by omega);exact a1e.2 ⟨g j,h.sur _ a,b⟩
 obtain⟨z1,j,e,z2,z3,z4⟩:=h.at_ i x hx;exact⟨z1,f j,e,by rw[a4q,z2];rfl,by rw[(hf.to j (a0d.1 z3).1).2.2];exact z3,z4⟩
def LcW:Lc->Lc->Prop
 |.cells ls,.cells xM=>ls=xM
 |.obj r _,.obj r' _=>r=r'
 |_,_=>False
def a9b(N N':Np):Prop:=∀b l,N b=some l->∃l',N' b=some l'∧LcW l l'
theorem VR.EO{N N':Np}(hm:a9b N N'){v:TV}{x:Value}(h:VR N v x):VR N' v x:=by
 induction h with
 |bool b=>exact .bool b
 |int k n=>exact .int k n
 |str s=>exact .str s
 |a2j=>exact .a2j
 |TN=>exact .TN
 |Yy=>exact .Yy
 |nfn=>exact .nfn
 |a2k=>exact .a2k
 |ptr hb hp h ht=>
  obtain⟨l',h1,h2⟩:=hm _ _ hb;cases l' with
  |obj r _=>exact h2.elim
  |cells xM=>cases h2;exact .ptr h1 hp h ht
 |slc hb hp h hl hc hx ha hk=>
  obtain⟨l',h1,h2⟩:=hm _ _ hb;cases l' with
  |obj r _=>exact h2.elim
  |cells xM=>cases h2;exact .slc h1 hp h hl hc hx ha hk
 |map h=>
  obtain⟨l',h1,h2⟩:=hm _ _ h;cases l' with
  |obj r _=>cases h2;exact .map h1
  |cells xM=>exact h2.elim
 |kW h=>
  obtain⟨l',h1,h2⟩:=hm _ _ h;cases l' with
  |obj r _=>cases h2;exact .kW h1
  |cells xM=>exact h2.elim
 |iter h=>
  obtain⟨l',h1,h2⟩:=hm _ _ h;cases l' with
  |obj r _=>cases h2;exact .iter h1
  |cells xM=>exact h2.elim
 |fn h1 _ h3 _ ih2 ih4=>exact .fn h1 ih2 h3 ih4
 |agg h1 _ ih=>exact .agg h1 ih
 |dF h1 _ ih=>exact .dF h1 ih
theorem wu.EO{N N':Np}(hm:a9b N N'){o:List Nat}{es:List (TV×TV)}{xs:Array MapEntry}(h:wu N o es xs):wu N' o es xs:=
 ⟨h.len,h.ord,h.nod,h.sur,fun i x hx=>let ⟨b,j,e,h1,h2,h3,h4⟩:=h.at_ i x hx;⟨b,j,e,h1,h2,h3.EO hm,h4.EO hm⟩⟩
theorem mF.EO{N N':Np}{w:World}{k:BK}{cs:List TV}{ls:List Pl}(hm:a9b N N')(h:mF N w k cs ls):mF N' w k cs ls:=by
 refine⟨h.1,fun p hp=>?_,h.2.2⟩;obtain⟨⟨arr,ty,fz,h1,h2,h3,h4⟩,p1,p2,p3⟩:=h.2.1 p hp;exact⟨⟨arr,ty,fz,h1,h2,h3,fun z i c v a b d=>(h4 z i c v a b d).EO hm⟩,p1,p2,p3⟩
theorem mF.last{N:Np}{w:World}{k:BK}{cs:List TV}{ls:List Pl}(hk:k≠.ro)(h:mF N w k cs ls):mF N w .last cs ls:=by
 refine⟨h.1,fun p hp=>?_,fun e=>(by cases e),fun _=>?_⟩
 .obtain⟨⟨arr,ty,fz,h1,h2,h3,h4⟩,p1,p2,p3⟩:=h.2.1 p hp;exact⟨⟨arr,ty,fz,h1,h2,fun _=>h3 hk,fun z=>h4 fun _=>z rfl⟩,p1,p2,fun _=>p3 hk⟩
 cases k with
 |ro=>exact absurd rfl hk
 |own=>
  obtain⟨p,rfl,_⟩:=h.2.2.1 rfl;refine⟨by simp,fun p hp q hq _ _=>?_⟩;rw[a2A]at hp hq;rw[hp,hq]
 |grow=>exact h.2.2.2 (.inl rfl)
 |last=>exact h.2.2.2 (.inr rfl)
def L8(fl:Nat):TV->TV
 |.slc b off len cap sz ex=>if b<fl then .slc b off len cap sz ex else .slc b off len len sz false
 |v=>v
def Ua(fl:Nat):TV->TV
 |.dF cs=>.dF (cs.map (L8 fl))
 |v=>L8 fl v
def Qn(mZ:Bool):HB->HB
 |.cells .ro cs=>.cells .ro cs
 |.cells _ cs=>if mZ then .mZ (Ry cs)else .cells .last cs
 |.map es=>.map (Rx es)
 |x=>x
def O4(mZ:Bool)(h:List HB)(v:TV)(h1:List HB):Option (TV×List HB):=
 match wI h1 h.length 5000 (BJ v []) []with
 |nD=>match nG (Wj h.length nD) v,CU (Wj h.length nD) h1 nD with
  |some v',some bs=>some (Ua h.length v',h++bs.map (Qn mZ))
  |_,_=>none
def fS(es:List (TV×TV)):Nat->Nat:=Classical.choose (a0M (FD es).symm)
theorem ahO(es:List (TV×TV)):∃g,Ix es (Rx es) (fS es) g:=a8X (a0M (FD es).symm)
def mapOf(h bs:List HB)(b:Nat):Option (List (TV×TV)):=
 if b<h.length then none else match bs[b-h.length]? with
  |some (.map es)=>some es
  |_=>none
def Ae(h bs:List HB)(b:Nat)(l:Lc):Lc:=
 match mapOf h bs b,l with
 |some es,.obj r o=>.obj r (o.map (fS es))
 |_,l=>l
theorem xX{h bs:List HB}{b:Nat}{l:Lc}:aI (Ae h bs b l)=aI l:=by
 unfold Ae;split<;>rfl
theorem LcW.refl(l:Lc):LcW l l:=by
 cases l<;>rfl
theorem adS{h bs:List HB}{b:Nat}{l:Lc}:LcW l (Ae h bs b l):=by
 unfold Ae;split
 .rfl
 exact .refl _
theorem O5{h bs:List HB}{b:Nat}{l:Lc}(hb:b<h.length):Ae h bs b l=l:=by
 unfold Ae mapOf;rw[a0q hb]
theorem a9c{mZ:Bool}{x:HB}(h:wr (Qn mZ x)=true):wr x=true:=by
 cases x with
 |cells k cs=>cases k<;>first|exact h|rfl
 |_=>first|exact h|rfl
theorem a0N{N:Np}{fl:Nat}{v:TV}{x:Value}(h:VR N v x):VR N (L8 fl v) x:=by
 cases h with
 |slc hb hp h hl hc hx ha hk=>
  simp only[L8];split
  .exact .slc hb hp h hl hc hx ha hk
  exact .slc hb hp (a4T (Nat.add_le_add_left (a3m _ hl) _) h) (a0w _) (a4T hl hc) (fun e=>by cases e) ha hk
 |_=>first|(constructor;done)|(constructor<;>assumption)
theorem a9d{N:Np}{fl:Nat}{v:TV}{x:Value}(h:VR N v x):VR N (Ua fl v) x:=by
 cases h with
 |dF h1 h2=>
  refine .dF (by simpa using h1) fun i c v hc hv=>?_;rw[a4q]at hc;obtain⟨c0,e1,rfl⟩:=a0f.1 hc;exact a0N (h2 i c0 v e1 hv)
 |slc hb hp h hl hc hx ha hk=>exact a0N (.slc hb hp h hl hc hx ha hk)
 |_=>first|(constructor;done)|(constructor<;>assumption)
theorem jJ.nrm{M:Mp}{h bs:List HB}{w w':World}{v:TV}{y:Value}(mZ:Bool)(hV:Valid M uK (l9 h) w)(hl:∀k,M (.l k)=none)(hn:∀x∈bs,∀m n seen,x≠.dn m n seen)(hR:jJ M h w v (h++bs) [] y w'):jJ M h w (Ua h.length v) (h++bs.map (Qn mZ)) [] y w':=by
 obtain⟨M',YK,hl',hX,hv'⟩:=hR;have YZ:∀b l,M (.h b)=some l->b<h.length:=fun b l hb=>by
  have:=hV.has hb;simp only[l9,St.get]at this;rcases a4h b h.length with h1|h1
  .exact h1
  rw[a4e h1]at this;simp at this
 have hold:∀b,b<h.length->M' (.h b)=M (.h b):=fun b hb=>hX.lD (.h b) (.inl (by simp[l9,St.get,hb])) (by simp)
 let M2:Mp:=fun k=>match k with
  |.l _=>none
  |.h b=>(M' (.h b)).map (Ae h bs b)
 have hM2:∀b,M2 (.h b)=(M' (.h b)).map (Ae h bs b):=fun b=>rfl;have inv:∀b l2,M2 (.h b)=some l2->∃l,M' (.h b)=some l∧l2=Ae h bs b l:=fun b l2 e=>by
  rw[hM2]at e;obtain⟨l,e1,e2⟩:=a0f.1 e;exact⟨l,e1,e2.symm⟩
 have hmW:a9b M'.h M2.h:=fun b l e=>by
  have e:M' (.h b)=some l:=e;exact⟨_,(show M2 (.h b)=_ by rw[hM2,e];rfl),adS⟩
 have hle:su M.h M2.h:=fun b l e=>by
  have e:M (.h b)=some l:=e;have hb:=YZ b l e;exact⟨l,(show M2 (.h b)=_ by rw[hM2,hold b hb,e];simp[O5 hb]),.refl l⟩
 have Wn:∀c,c<w.heap.size->w'.heap[c]? = w.heap[c]?:=fun c hc=>hX.frame c hc (by simp);have hC:∀b,b<h.length->l9 (h++bs.map (Qn mZ)) (.h b)=l9 h (.h b):=fun b hb=>by simp only[l9,St.get];rw[a0k hb]
 have hC1:∀b,¬b<h.length->l9 (h++bs) (.h b)=bs[b-h.length]?:=fun b hb=>by simp only[l9,St.get];rw[a1d (by omega)]
 have hC2:∀b,¬b<h.length->l9 (h++bs.map (Qn mZ)) (.h b)=(bs[b-h.length]?).map (Qn mZ):=fun b hb=>by simp only[l9,St.get];rw[a1d (by omega),a4q]
 have hCo:∀b,b<h.length->l9 (h++bs) (.h b)=l9 h (.h b):=fun b hb=>by simp only[l9,St.get];rw[a0k hb]
 refine⟨M2,⟨fun k l kQ _=>?_,fun k k' l l' b iE q1 q2 _ hc hw=>?_,fun k l kQ=>?_⟩,fun _=>rfl,⟨fun k l e=>?_,hX.frame,fun k hs hn=>?_,fun k hs hn=>?_,fun k l e c hc hs=>?_,hX.size,fun k hs=>?_,by simp,by simp,hX.os,hX.output,hX.tape⟩,a9d (hv'.EO hmW)⟩
 .cases k with
  |l k=>cases kQ
  |h b=>
   obtain⟨l0,e1,rfl⟩:=inv b l kQ;by_cases hb:b<h.length
   .rw[O5 hb,hC b hb];rw[hold b hb]at e1;obtain⟨x,f1,f2⟩:=hV.ok _ l0 e1 trivial;exact⟨x,f1,f2.mono hle fun c hc=>Wn c (hV.inb _ l0 e1 c hc)⟩
   obtain⟨x,x1,x2⟩:=YK.ok _ l0 e1 trivial;rw[hC1 b hb]at x1;refine⟨Qn mZ x,by rw[hC2 b hb,x1];rfl,?_⟩;cases x with
   |cells k cs=>
    cases l0 with
    |obj r o=>exact x2.elim
    |cells ls=>
     have x3:mF M2.h w' k cs ls:=mF.EO hmW x2;have e:Ae h bs b (.cells ls)=.cells ls:=by unfold Ae;split<;>first|rfl|simp_all
     rw[e];have go:k≠.ro->pO M2.h w' (if mZ then .mZ (Ry cs)else .cells .last cs) (.cells ls):=fun hk=>by
      cases mZ with
      |true=>exact⟨cs,(qo _ cs).symm,x3.last hk⟩
      |false=>exact x3.last hk
     cases k with
     |ro=>exact x3
     |own=>exact go (by simp)
     |grow=>exact go (by simp)
     |last=>exact go (by simp)
   |mZ cs=>
    cases l0 with
    |obj r o=>exact x2.elim
    |cells ls=>
     have e:Ae h bs b (.cells ls)=.cells ls:=by unfold Ae;split<;>first|rfl|simp_all
     rw[e];obtain⟨cs',h1,h2⟩:=x2;exact⟨cs',h1,mF.EO hmW h2⟩
   |map es=>
    cases l0 with
    |cells ls=>exact x2.elim
    |obj r o=>
     obtain⟨xs,y1,y2⟩:=x2;have e:Ae h bs b (.obj r o)=.obj r (o.map (fS es)):=by
      have:mapOf h bs b=some es:=by unfold mapOf;rw[a0p hb,x1]
      unfold Ae;rw[this]
     rw[e];obtain⟨g,hg⟩:=ahO es;exact⟨xs,y1,(y2.EO hmW).perm hg (FD es).length_eq⟩
   |mark=>
    have e:∀r o,Ae h bs b (.obj r o)=.obj r o:=fun r o=>by
     have:mapOf h bs b=none:=by unfold mapOf;rw[a0p hb,x1]
     unfold Ae;rw[this]
    cases l0 with
    |cells ls=>exact x2.elim
    |obj r o=>rw[e];exact x2
   |dn m n seen=>exact absurd rfl (hn _ (a4s x1) m n seen)
   |loop rd f nt env ps a b9 jI=>
    have e:∀r o,Ae h bs b (.obj r o)=.obj r o:=fun r o=>by
     have:mapOf h bs b=none:=by unfold mapOf;rw[a0p hb,x1]
     unfold Ae;rw[this]
    cases l0 with
    |cells ls=>exact x2.elim
    |obj r o=>
     rw[e];obtain⟨lp,h1,h2⟩:=x2;exact⟨lp,h1,{ h2 with KU:=fun t v e=>(h2.KU t v e).EO hmW }⟩
 .cases k with
  |l k=>cases q1
  |h b1=>
   cases k' with
   |l k=>cases q2
   |h b2=>
    obtain⟨l1,e1,rfl⟩:=inv b1 l q1;obtain⟨l2,e2,rfl⟩:=inv b2 l' q2;rw[xX,xX];obtain⟨x,g1,g2⟩:∃x,l9 (h++bs) (.h b1)=some x∧wr x=true:=by
     by_cases q1:b1<h.length
     .exact⟨b,by rw[hCo _ q1,<-hC _ q1];exact hc,hw⟩
     rw[hC2 _ q1]at hc;obtain⟨x,f1,rfl⟩:=a0f.1 hc;exact⟨x,by rw[hC1 _ q1];exact f1,a9c hw⟩
    exact YK.own (.h b1) (.h b2) l1 l2 x iE e1 e2 trivial g1 g2
 .cases k with
  |l k=>cases kQ
  |h b=>
   obtain⟨l0,e1,rfl⟩:=inv b l kQ;rw[xX];exact YK.inb _ l0 e1
 .cases k with
  |l k=>rw[hl k]at e;cases e
  |h b=>exact hle b l e
 .cases k with
  |l k=>simp[l9,St.get]at hs
  |h b=>exact hC b (by simpa[l9,St.get]using hs)
 .cases k with
  |l k=>rw[hl k]
  |h b=>
   by_cases hb:b<h.length
   .rw[hM2,hold b hb];cases M (.h b)with
    |none=>rfl
    |some l=>simp only[a1b];rw[O5 hb]
   have h0:M (.h b)=none:=by
    cases e:M (.h b)with
    |none=>rfl
    |some l=>exact absurd (YZ b l e) hb
   have DW:l9 (h++bs) (.h b)=none:=by
    rcases hs with hs|hs
    .have:b<h.length:=(by simpa[l9,St.get]using hs);omega
    rw[hC2 _ hb]at hs;rw[hC1 _ hb];simpa using hs
   have:M' (.h b)=M (.h b):=hX.lD (.h b) (.inr DW) (by simp);rw[h0,hM2,this,h0];rfl
 .cases k with
  |l k=>cases e
  |h b=>
   obtain⟨l0,e1,rfl⟩:=inv b l e;rw[xX]at hc;exact hX.fresh _ l0 e1 c hc hs
 cases k with
 |l k=>simp[l9,St.get]at hs
 |h b=>
  have hb:b<h.length:=by simpa[l9,St.get]using hs
  rw[hC b hb];exact hs
theorem Wp{g:Nat->Option Nat}{x y:HB}(h:uw g x=some y):∀m n seen,y≠.dn m n seen:=by
 cases x<;>simp only[uw,a0f,a03]at h
 all_goals first
  |(obtain⟨_,_,rfl⟩:=h;simp)
  |(subst h;simp)
  |cases h
theorem jJ.norm{M:Mp}{h h1 h2:List HB}{w w':World}{v v2:TV}{y:Value}{mZ:Bool}(hV:Valid M uK (l9 h) w)(hl:∀k,M (.l k)=none)(ho:O4 mZ h v h1=some (v2,h2))(hR:jJ M h w v h1 [] y w'):jJ M h w v2 h2 [] y w':=by
 unfold O4 at ho;simp only at ho;obtain⟨k1,k2⟩:=IY (h:=h1) (fl:=h.length) 5000 (BJ v []) [] .nil (by simp);split at ho
 .rename_i v' bs e1 e2;cases ho;refine jJ.nrm mZ hV hl (fun x hx=>?_) (hR.gc hV hl k1 k2 e1 e2);obtain⟨i,hi⟩:=a8I.1 hx;obtain⟨_,_,_,_,e⟩:=(O1 e2).2 i x hi;exact Wp e
 cases ho
section
variable {P:Program} {T:qH} {call:aY} {L:Nat} {nt:Nat} {M:Mp} {h:List HB} {w:World}
def Qo(tmps:Array Value):List (Nat×Value)->Array Value
 | []=>tmps
 |(t,a)::r=>Qo (tmps.setIfInBounds t a) r
theorem Rz:∀{l:List (Nat×Value)} {tmps:Array Value},(Qo tmps l).size=tmps.size
 | [],_=>rfl
 |(t,a)::r,tmps=>by rw[Qo,Rz];simp
theorem O6:∀(l:List (Nat×Value)) (tmps:Array Value),l.foldl (fun tmps (t,a)=>tmps.setIfInBounds t a) tmps=Qo tmps l
 | [],_=>rfl
 |(t,a)::r,tmps=>by rw[adi,O6 r];rfl
theorem RD{N:Np}{nt:Nat}:∀{ps:List Nat} {args:List TV} {xs:List Value} {env:List (Nat×EV)} {tmps:Array Value},bZ N args xs->args.length=ps.length->(∀p∈ps,p<nt)->nt<=tmps.size ->
  (∀t v,dM t env=some (.val v)->VR N v (tmps.getD t Go.undef))->(∀t,dM t env=some .undef->tmps.getD t Go.undef=Go.undef)->(∀t e,dM t env=some e->isVal (t,e)=true) ->
  (∀t v,dM t (sJ env ps args)=some (.val v)->VR N v ((Qo tmps (ps.zip xs)).getD t Go.undef))∧(∀t,dM t (sJ env ps args)=some .undef->(Qo tmps (ps.zip xs)).getD t Go.undef=Go.undef) ∧
   (∀t e,dM t (sJ env ps args)=some e->isVal (t,e)=true)
 | [],[],xs,env,tmps,_,_,_,_,h1,h2,h3=>⟨h1,h2,h3⟩
 | [],v::vs,xs,env,tmps,_,hl,_,_,_,_,_=>by simp at hl
 |p::ps,[],xs,env,tmps,_,hl,_,_,_,_,_=>by simp at hl
 |p::ps,v::vs,xs,env,tmps,hx,hl,hp,hn,h1,h2,h3=>by
  obtain⟨x,xs',rfl,hx1,hx2⟩:=hx.iO;have hpn:=hp p a3l;simp only[sJ,List.zip_cons_cons,Qo];have hg:∀t,(tmps.setIfInBounds p x).getD t Go.undef=if p=t then x else tmps.getD t Go.undef:=by
   intro t;simp only[a8z,a8J];by_cases h:p=t
   .subst h;simp[show p<tmps.size by omega]
   .simp[h]
  refine RD hx2 (by simpa using hl) (fun q hq=>hp q (a3n _ hq)) (by simpa using hn) ?_ ?_ ?_
  .intro t v' he;rw[hg];simp only[dM]at he;split at he
   .rename_i h;rw[a0q h];cases he;exact hx1
   .rename_i h;rw[a0p h];exact h1 t v' he
  .intro t he;rw[hg];simp only[dM]at he;split at he
   .cases he
   .rename_i h;rw[a0p h];exact h2 t he
  .intro t e he;simp only[dM]at he;split at he
   .cases he;rfl
   .exact h3 t e he
theorem a5r(hm:P.follows .mixedOrders=true)(hC:iF P call){l l':Nat}{q:List Nat}{args:List TV}{v:TV}{h':List HB}{ws:List Nat}(hf:Nl P T call L l args h=some (v,h',ws))(hB:wH M h w)(hl:M (.h l)=some (.obj l' q))
  {xs:List Value} (hx:bZ M.h args xs):U3 P { target:=.fn (.yield l') #[],args:=xs.toArray } w (jJ M h w v h' ws):=by
 unfold Nl at hf;split at hf
 .rename_i f nt env ps uI body jI hh;split at hf
  .rename_i hc;obtain⟨hlen,hps⟩:=hc;have anF:∀p∈ps,p<nt:=fun p hp=>(by simpa using a4x.1 hps p hp);obtain⟨gy,k1,k2⟩:=hB.val.ok _ _ hl trivial;simp only[l9,St.get,hh,a03]at k1;subst k1;obtain⟨lp,l1,l2⟩:=k2;have hlb:l<h.length:=(a0d.1 hh).1;have hpa:lp.params.size=xs.length:=by
    have:=l2.ps;rw[<-hx.len,hlen,<-this];simp
   have anG:(lp.params.zip xs.toArray).foldl (fun tmps (t,a)=>tmps.setIfInBounds t a) lp.tmps=Qo lp.tmps (ps.zip xs):=by
    rw[<-Array.foldl_toList,Array.toList_zip,l2.ps];exact O6 _ _
   refine⟨l',lp.fn,Qo lp.tmps (ps.zip xs),uI,body,?_,fun n=>?_⟩
   .have h1:(Instr.yield l' xs.toArray).run P w=.ok (.round l' lp.fn ((lp.params.zip xs.toArray).foldl (fun tmps (t,a)=>tmps.setIfInBounds t a) lp.tmps) lp.assign lp.body) w:=by
     simp[Instr.yield,Instr.getLoop,getObj,Sem.run,l1,hpa]
    rw[anG,l2.uI,l2.body]at h1;exact h1
   obtain⟨p1,p2,p3⟩:=RD hx hlen anF l2.size l2.KU l2.TP l2.nol;have hR0:Rel M h w nt M ⟨sJ env ps args,[],h,[]⟩ { tmps:=Qo lp.tmps (ps.zip xs),defers:=[] } w:=by
    have hg:St.get ⟨sJ env ps args,[],h,[]⟩=l9 h:=getEnv ⟨[],[],h,[]⟩ _ _;refine⟨by rw[hg];exact hB.val,by rw[hg];exact .refl _ _ _,fun t e he=>?_,by rw[Rz];exact l2.size,by simp,.nil⟩;cases e with
    |val v=>exact .val (p1 t v he)
    |undef=>
     have:=p2 t he;simp only at this ⊢;rw[this];exact .undef
    |_=>exact absurd (p3 t _ he) (by simp[isVal])
   refine roundIn_of_wpIn (F:=Fence.wide) trivial ?_;split at hf
   .rename_i s1 hex;refine vI (gY:=true) (r:=some l') hm hC hB (by simp) _ _ _ _ hex n _ M _ w hR0 fun M1 a1 w1 xC=>?_;split at hf
    .rename_i f' nt' env' ps' a' b' abK hh1;obtain⟨q1,hl1⟩:∃q1,M1 (.h l)=some (.obj l' q1):=by
      obtain⟨l0,g1,g2⟩:=xC.ext.Iu _ _ hl;cases l0 with
      |cells ls=>exact g2.elim
      |obj r' o'=>cases g2.1;exact⟨o',g1⟩
     obtain⟨gy,k1,k2⟩:=xC.val.ok _ _ hl1 trivial;simp only[St.get,hh1,a03]at k1;subst k1;obtain⟨lp1,m1,m2⟩:=k2;obtain⟨v2,x2⟩:=E5 xC.val hl1 hh1 rfl (b':=.loop false f' nt' env' ps' a' b' none) (o':=.loop { lp1 with state:=.busy }) ⟨{ lp1 with state:=.busy },by simp[(a2q.1 m1).1],
      {ps:=m2.ps,uI:=m2.uI,body:=m2.body,size:=m2.size,KU:=m2.KU,TP:=m2.TP,nol:=m2.nol,ready:=by simp,busy:=fun _ _=>rfl,done:=by simp }⟩
     have Ro:=xC.next hB (s':={ s1 with heap:=s1.heap.set l (.loop false f' nt' env' ps' a' b' none),ws:=Eu h.length l s1.ws }) v2 x2 rfl rfl (fun _ _ e=>e);refine⟨{ w1 with heap:=w1.heap.setIfInBounds l' (.loop { lp1 with state:=.busy }) },?_,?_⟩
     .simp[Instr.beginRound,Instr.getLoop,getObj,setObj,Sem.run,m1,(m2.ready rfl).1]
     .split at hf
      .rename_i e s2 anI;refine vI (gY:=true) (r:=some l') hm hC hB (by simp) _ _ _ _ anI n _ M1 _ _ Ro fun M3 a3 w3 hR3=>?_;split at hf
       .rename_i f3 nt3 ahQ ps3 a3' b3 hh3;simp only[a03,a0u]at hf;obtain⟨rfl,rfl,rfl⟩:=hf;obtain⟨q3,hl3⟩:∃q3,M3 (.h l)=some (.obj l' q3):=by
         obtain⟨l0,g1,g2⟩:=hR3.ext.Iu _ _ hl;cases l0 with
         |cells ls=>exact g2.elim
         |obj r' o'=>cases g2.1;exact⟨o',g1⟩
        obtain⟨gy,k1,k2⟩:=hR3.val.ok _ _ hl3 trivial;simp only[St.get,hh3,a03]at k1;subst k1;obtain⟨lp3,q1,q2⟩:=k2
        let lp4:Loop:={ lp3 with state:=if(sK e).isNone then .ready else .done,pending:=sK e }
        obtain⟨v4,x4⟩:=E5 hR3.val hl3 hh3 rfl (b':=.loop (pF e) f3 nt3 ahQ ps3 a3' b3 (sK e)) (o':=.loop lp4) ⟨lp4,by simp[(a2q.1 q1).1],
         {ps:=q2.ps,uI:=q2.uI,body:=q2.body,size:=q2.size,KU:=q2.KU,TP:=q2.TP,nol:=q2.nol
          ready:=fun hn=>by cases e<;>simp[pF]at hn;exact⟨rfl,rfl⟩
          busy:=fun hn hp=>by cases e<;>simp[pF,sK]at hn hp
          done:=fun hn j hj _=>by cases e<;>simp[pF]at hn<;>(simp only[sK,a03]at hj;subst hj;exact⟨rfl,rfl⟩) }⟩
        have hR4:=hR3.next hB (s':={ s2 with heap:=s2.heap.set l (.loop (pF e) f3 nt3 ahQ ps3 a3' b3 (sK e)),ws:=Eu h.length l s2.ws }) v4 x4 rfl rfl (fun _ _ e=>e);have O7:=YW hB hR4 (v:=.bool (pF e)) (y:=.bool (pF e)) (.bool _);have adT:(Instr.endRound l' (sK e)).run P w3=.ok (.bool (pF e)) { w3 with heap:=w3.heap.setIfInBounds l' (.loop lp4) }:=by
         cases e<;>simp[Instr.endRound,Instr.getLoop,getObj,setObj,Sem.run,q1,pF,sK,lp4]
        cases e with
        |norm=>exact⟨_,_,adT,O7⟩
        |exit id=>exact⟨_,_,adT,O7⟩
        |ret=>exact⟨_,_,adT,O7⟩
       .cases hf
      .cases hf
    .cases hf
   .cases hf
  .cases hf
 .cases hf
end
def Z4(cd:uX):Prop:=∀fv args h K1 K2,cd fv args h K1->cd fv args h K2->∃v h' ws,K1 v h' ws∧K2 v h' ws
theorem Wq:Z4 CS:=fun _ _ _ _ _ h _=>h.elim
theorem a2G{P:Program}:LU P CS:=fun _ _ _ _ _ _ h=>h.elim
section
variable {P:Program} {T:qH} {call:aY} {cd:uX} {L f:Nat} {fl nt:Nat}
theorem O8{g:St->(Ex->St->Prop)->Prop}(hg:∀s Q1 Q2,g s Q1->g s Q2->∃e s',Q1 e s'∧Q2 e s'):∀(k:Nat) {s:St} {Q1 Q2:Ex->St->Prop},GH g k s Q1->GH g k s Q2->∃e s',Q1 e s'∧Q2 e s'
 | 0,_,_,_,h,_=>h.elim
 |k+1,s,Q1,Q2,h1,h2=>by
  obtain⟨e,s',q1,q2⟩:=hg _ _ _ h1 h2;cases e with
  |norm=>exact O8 hg k q1 q2
  |exit i=>exact⟨_,_,q1,q2⟩
  |ret=>exact⟨_,_,q1,q2⟩
theorem Z5{s:St}{it:Nat}{K1 K2:St->TV->Prop}(h1:a0I fl s it K1)(h2:a0I fl s it K2):∃s1 v,K1 s1 v∧K2 s1 v:=by
 obtain⟨b,r,n,seen,es,a1,a2,a3,a4,a5,a6⟩:=h1;obtain⟨b',r',n',arN,gu,c1,c2,c3,c4,c5,c6⟩:=h2;rw[a1]at c1;cases c1;rw[a2]at c2;cases c2;rw[a3]at c3;cases c3;by_cases h:∀j,j<n->j∈seen
 .exact⟨_,_,a5 h,c5 h⟩
 obtain⟨j,hj⟩:=Classical.not_forall.1 h;obtain⟨hj1,rX⟩:=Classical.not_imp.1 hj;have hl:j<es.length:=by omega
 exact⟨_,_,a6 j _ rX (a0g hl),c6 j _ rX (a0g hl)⟩
theorem O9(hcd:Z4 cd):∀(c:Code) {s:St} {Q1 Q2:Ex->St->Prop},fJ P T call cd L f fl nt c s Q1->fJ P T call cd L f fl nt c s Q2->∃e s',Q1 e s'∧Q2 e s':=by
 have plain:∀(c:Code) {s:St} {Q1 Q2:Ex->St->Prop},(∃e s',exec P T call L f false fl nt c s=some (e,s')∧Q1 e s')->(∃e s',exec P T call L f false fl nt c s=some (e,s')∧Q2 e s')->∃e s',Q1 e s'∧Q2 e s':=by
  rintro c s Q1 Q2 ⟨e,s1,h1,h2⟩ ⟨e',s2,h3,h4⟩;rw[h1]at h3;cases h3;exact⟨_,_,h2,h4⟩
 intro c
 induction c with
 |region id ops draw=>
  intro s Q1 Q2 h1 h2;simp only[fJ]at h1 h2;split at h1
  .rename_i it nx o1 o2 hn;simp only[hn]at h2;obtain⟨s1,v,⟨s2,is,k1,k2⟩,⟨s3,is',k3,k4⟩⟩:=Z5 h1.2 h2.2;rw[k1]at k3;cases k3;exact⟨_,_,k2,k4⟩
  rename_i hn;simp only[hn]at h2;exact plain _ h1 h2
 |seq x y Wh ihy=>
  intro s Q1 Q2 h1 h2;simp only[fJ]at h1 h2;obtain⟨e,s1,q1,q2⟩:=Wh h1 h2;cases e with
  |norm=>exact ihy q1 q2
  |exit i=>exact⟨_,_,q1,q2⟩
  |ret=>exact⟨_,_,q1,q2⟩
 |cond c x y Wh ihy=>
  intro s Q1 Q2 h1 h2;simp only[fJ]at h1 h2;split at h1
  .rename_i hc;simp only[hc]at h2;exact Wh h1 h2
  .rename_i hc;simp only[hc]at h2;exact ihy h1 h2
  exact h1.elim
 |block id b ih=>
  intro s Q1 Q2 h1 h2;simp only[fJ]at h1 h2;obtain⟨e,s1,q1,q2⟩:=ih h1 h2;exact⟨_,_,q1,q2⟩
 |scope b ih=>
  intro s Q1 Q2 h1 h2;simp only[fJ]at h1 h2;exact ih h1 h2
 |loop b ih=>
  intro s Q1 Q2 h1 h2;simp only[fJ]at h1 h2;exact O8 (g:=fun s Q=>fJ P T call cd L f fl nt b (kE (T.eP f (dU b)) s) Q) (fun s Q1 Q2 a b=>ih a b) L h1 h2
 |rangeFunc g ps uI body=>
  intro s Q1 Q2 h1 h2;simp only[fJ]at h1 h2;split at h1
  .rename_i hd;rw[a0q hd]at h2;obtain⟨f1,a1,b1,e1,_,k1⟩:=h1;obtain⟨f2,a2,b2,e2,_,k2⟩:=h2;rw[e1]at e2;cases e2;obtain⟨v,h',ws,⟨_,_,_,_,_,_,_,_,_,c1,c2,c3⟩,⟨_,_,_,_,_,_,_,_,_,d1,d2,d3⟩⟩:=hcd _ _ _ _ _ k1 k2;rw[c1]at d1;cases d1;rw[c2]at d2;cases d2;exact⟨_,_,c3,d3⟩
  rename_i hd;rw[a0p hd]at h2;exact plain _ h1 h2
 |_=>
  intro s Q1 Q2 h1 h2;simp only[fJ]at h1 h2;exact plain _ h1 h2
def uN(P:Program)(T:qH)(call:aY)(L:Nat):uX:=fun fv args h K=>match fv with
 |.fn f a b=>∃t,TL P f=some t∧fJ P T call CS L f h.length t.nt t.body ⟨nJ 0 (a++args++b),[],h,[]⟩ fun e s=>(e=.norm∨e=.ret)∧∃vs,xK P s t.results=some vs∧K (one vs) s.heap s.ws
 |_=>False
theorem Ws:Z4 (uN P T call L):=fun fv args h K1 K2 h1 h2=>by
 cases fv with
 |fn f a b=>
  obtain⟨t,e1,k1⟩:=h1;obtain⟨t',e2,k2⟩:=h2;rw[e1]at e2;cases e2;obtain⟨e,s,⟨_,vs,a1,a2⟩,⟨_,vs',a3,a4⟩⟩:=O9 Wq _ k1 k2;rw[a1]at a3;cases a3;exact⟨_,_,_,a2,a4⟩
 |_=>exact h1.elim
def Wu(P:Program)(T:qH)(call:aY)(L:Nat)(f:Nat)(t:FnT)(args:List TV)(h:List HB)(r:TV×List HB):Prop:=
 fJ P T call (uN P T call L) L f h.length t.nt t.body ⟨nJ 0 args,[],h,[]⟩ fun e s=>(e=.norm∨e=.ret)∧∃vs,xK P s t.results=some vs∧s.ws=[]∧O4 (T.a8S.contains f) h (one vs) s.heap=some r
open Classical in
def a2H(P:Program)(T:qH)(call:aY)(L:Nat)(f:Nat)(args:List TV)(h:List HB):Option (TV×List HB×List Nat):=
 match TL P f with
 |some t=>if hx:∃r,Wu P T call L f t args h r then some ((Classical.choose hx).1,(Classical.choose hx).2,[])else none
 |none=>none
theorem a2I{args:List TV}{h:List HB}{r:TV×List HB×List Nat}(hf:a2H P T call L f args h=some r):∃t,TL P f=some t∧Wu P T call L f t args h (r.1,r.2.1)∧r.2.2=[]:=by
 unfold a2H at hf;split at hf
 .rename_i t ht;split at hf
  .rename_i hx;cases hf;exact⟨t,ht,a8X hx,rfl⟩
  cases hf
 cases hf
theorem a9f{args:List TV}{h:List HB}{r:TV×List HB}{t:FnT}(ht:TL P f=some t)(hr:Wu P T call L f t args h r):a2H P T call L f args h=some (r.1,r.2,[]):=by
 unfold a2H;rw[ht];simp only[];have hx:∃r,Wu P T call L f t args h r:=⟨r,hr⟩;rw[dif_pos hx];obtain⟨e,s,⟨_,vs,a1,_,a2⟩,⟨_,vs',a3,_,a4⟩⟩:=O9 Ws _ (a8X hx) hr;rw[a1]at a3;cases a3;rw[a2]at a4;cases a4;rfl
end
section
variable {P:Program} {T:qH} {call:aY} {cd:uX} {L:Nat} {nt:Nat} {M:Mp} {h:List HB} {w:World}
theorem a0O(hm:P.follows .mixedOrders=true)(hC:iF P call)(hD:LU P cd){f:Nat}{args:List TV}{t:FnT}{K:TV->List HB->List Nat->Prop}(ht:TL P f=some t)
  (hO:fJ P T call cd L f h.length t.nt t.body ⟨nJ 0 args,[],h,[]⟩ fun e s=>(e=.norm∨e=.ret)∧∃vs,xK P s t.results=some vs∧K (one vs) s.heap s.ws) (hB:wH M h w) {xs:List Value} (hx:bZ M.h args xs) :
  ∃ fn c, P.funcs[f]? = some fn ∧ (fn.name == "runtime.NumGoroutine") = false ∧ fn.body = some c ∧ ∀ n, CallsIn Fence.wide n P f xs.toArray w (L6 fun y w' => ∃ v h' ws, K v h' ws ∧ jJ M h w v h' ws y w') := by
 unfold TL at ht;split at ht
 .rename_i fn hfn;split at ht
  .cases ht
  .rename_i a5s;split at ht
   .rename_i c hc;cases ht;refine⟨fn,c,hfn,by simpa using a5s,hc,fun n=>?_⟩;have hR0:Rel M h w fn.ntmps M ⟨nJ 0 args,[],h,[]⟩ { tmps:=xs.toArray++Array.replicate (fn.ntmps-xs.toArray.size) Go.undef,defers:=[] } w:=by
     have hg:St.get ⟨nJ 0 args,[],h,[]⟩=l9 h:=getEnv ⟨[],[],h,[]⟩ _ _;refine⟨by rw[hg];exact hB.val,by rw[hg];exact .refl _ _ _,fun t e hl=>?_,by simp;omega,by simp,.nil⟩;obtain⟨i,v',x,e1,rfl,e3,e4⟩:=IX hx hl;have hi:i<xs.length:=(a0d.1 e3).1;have:(xs.toArray++Array.replicate (fn.ntmps-xs.toArray.size) Go.undef).getD t Go.undef=x:=by
      rw[a8z,a9O (by simp;omega)];have:t=i:=(by omega);subst this;simp[e3]
     rw[this];exact .val e4
    have O7:∀(s:St) (vs:List TV),xK P s fn.results.toList=some vs->K (one vs) s.heap s.ws->∀(M':Mp) (a':Act) (w':World),Rel M h w fn.ntmps M' s a' w'->LeavesInM Fence.wide n P fn a'.tmps (L6 fun y w'=>∃v h' ws,K v h' ws∧jJ M h w v h' ws y w') a'.defers .returning w':=by
     intro s vs hvs hs M' a' w' FB;refine NY hB a'.defers a' w' rfl FB fun w'' a5t=>?_;obtain⟨y,g1,g2⟩:=NW (P:=P) a5t hvs;exact⟨y,g2,_,_,_,hs,YW hB a5t g1⟩
    refine callsIn_of_wp_marks (F:=Fence.wide) hfn hc trivial ?_;refine a5l hm hC hD hB _ _ _ hO n _ M _ w hR0 fun e s M' a' w' hq FB=>?_;obtain⟨he,vs,h1,h2⟩:=hq;rcases he with rfl|rfl
    .exact O7 s vs h1 h2 M' a' w' FB
    .exact O7 s vs h1 h2 M' a' w' FB
   .cases ht
 .cases ht
theorem a2J(hm:P.follows .mixedOrders=true)(hC:iF P call):LU P (uN P T call L):=by
 intro f1 a1 b1 args h K hc M w x xs hV hl hx NQ;obtain⟨t,ht,hO⟩:=hc;cases hx with
 |fn h1 h2 h3 h4=>
  rename_i ys zs;have EP:bZ M.h (a1++args++b1) (ys++xs++zs):=(bZ.append ⟨h1,h2⟩ NQ).append ⟨h3,h4⟩;obtain⟨fn,c,e1,e2,e3,e4⟩:=a0O hm hC a2G ht hO ⟨hV,hl⟩ EP;refine⟨{ target:=.fn (.func f1) zs.toArray,args:=ys.toArray++xs.toArray },fun w=>by simp[Deferred.ofValue],f1,(ys++xs++zs).toArray,?_,e4⟩;have e2' : ¬ fn.name = "runtime.NumGoroutine" := by simpa using e2
  simp[invoke,callFunc,program,Sem.run,e1,e2',e3]
theorem a9g(hm:P.follows .mixedOrders=true)(hC:iF P call){f:Nat}{args:List TV}{v:TV}{h':List HB}{ws:List Nat}(hf:a2H P T call L f args h=some (v,h',ws))(hB:wH M h w){xs:List Value}(hx:bZ M.h args xs) :
  ∃ fn c, P.funcs[f]? = some fn ∧ (fn.name == "runtime.NumGoroutine") = false ∧ fn.body = some c ∧ ∀ n, CallsIn Fence.wide n P f xs.toArray w (L6 (jJ M h w v h' ws)) := by
 obtain⟨t,ht,hO,hw⟩:=a2I hf;simp only at hw;subst hw;obtain⟨fn,c,e1,e2,e3,e4⟩:=a0O (K:=fun v1 h1 ws1=>ws1=[]∧O4 (T.a8S.contains f) h v1 h1=some (v,h')) hm hC (a2J hm hC) ht hO hB hx;refine⟨fn,c,e1,e2,e3,fun n=>CallsIn.mono (F:=Fence.wide) (e4 n) fun en w3 W9=>?_⟩;cases en with
 |panicked c=>exact W9.elim
 |outgrown=>exact W9.elim
 |returned y=>
  obtain⟨v1,h1,ws1,⟨rfl,ho⟩,hR⟩:=W9;exact jJ.norm hB.val hB.loc ho hR
end
section
variable {H:Type}
def Wv(g:DataW H->List HB->Option (List TV×List HB))(n:Nat):List (DataW H)->List HB->Option (List TV×List HB)
 | [],h=>some ([],h)
 |d::ds,h=>match g d h with
  |some (c,h1)=>if c.length=n then(match Wv g n ds h1 with
   |some (cs,h2)=>some (c++cs,h2)
   |none=>none)else none
  |none=>none
def Oa(P:Program)(g:TypeId->DataW H->List HB->Option (List TV×List HB)):Nat->List Field->List (DataW H)->List HB->Option (List TV×List HB)
 |_,[],[],h=>some ([],h)
 |o,f::fs,d::ds,h=>match g f.type d h with
  |some (c,h1)=>if f.offset=o∧c.length=P.cellsOf f.type then(match Oa P g (o+c.length) fs ds h1 with
   |some (cs,h2)=>some (c++cs,h2)
   |none=>none)else none
  |none=>none
 |_,_,_,_=>none
def CV(P:Program):Nat->TypeId->DataW H->List HB->Option (List TV×List HB)
 | 0,_,_,_=>none
 |g+1,t,d,h=>match P.underlying t,d with
  |some .bool,.lit (.bool b)=>some ([.bool b],h)
  |some (.int _),.lit (.int k n)=>some ([.int k n],h)
  |some .string,.lit (.string bs)=>some ([.str ⟨bs.toArray⟩],h)
  |some (.slice _),.nil=>some ([.nil .slc],h)
  |some (.slice e),.slice xs ys=>match Wv (CV P g e) (P.cellsOf e) (xs++ys) h with
   |some (cs,h1)=>if P.cellsOf e=0 then none else some ([.slc h1.length 0 xs.length (xs.length+ys.length) (P.cellsOf e) true],h1++[.cells .ro cs])
   |none=>none
  |some (.struct fs),.agg ds=>match Oa P (CV P g) 0 fs.toList ds h with
   |some (cs,h1)=>if cs.length=P.cellsOf t then some (cs,h1)else none
   |none=>none
  |_,_=>none
variable {enc:TypeId×Value->H} {P:Program} {w:World}
structure uO(M:Mp)(h:List HB)(w:World):Prop where
 base:wH M h w
 ro:∀b∈h,wr b=false
def Reads(enc:TypeId×Value->H)(P:Program)(w:World)(t:TypeId)(cs:List Value)(d:DataW H):Prop:=
 ∃fuel ps,DataW.trod enc P w 0 (fun _=>true) true fuel t cs=some (d,ps)
def a5u(enc:TypeId×Value->H)(P:Program)(w:World)(g:TypeId->DataW H->List HB->Option (List TV×List HB)):Prop:=
 ∀t d h r,g t d h=some r->∀cs,Reads enc P w t cs d->∀M,uO M h w->∃M',uO M' r.2 w∧su M M'∧bZ M'.h r.1 cs∧∀c∈r.1,iU c=true
theorem a0P{g:TypeId->DataW H->List HB->Option (List TV×List HB)}(hg:a5u enc P w g){e:TypeId}{n:Nat}:∀(ds:List (DataW H)) (LW:List (List Value)) (h:List HB) (r:List TV×List HB),Wv (g e) n ds h=some r ->
  LW.length=ds.length->(∀(i:Nat) (d:DataW H) (cs:List Value),ds[i]? = some d->LW[i]? = some cs->Reads enc P w e cs d)->∀M,uO M h w ->
  ∃M',uO M' r.2 w∧su M M'∧bZ M'.h r.1 LW.flatten∧(∀c∈r.1,iU c=true)∧r.1.length=ds.length*n∧∀cs∈LW,cs.length=n
 | [],LW,h,r,hr,hl,hd,M,hB=>by
  simp only[Wv,a03]at hr;subst hr;have:LW=[]:=a4c (by simpa using hl);subst this;exact⟨M,hB,.refl M,.nil,by simp,by simp,by simp⟩
 |d::ds,[],h,r,hr,hl,hd,M,hB=>by simp at hl
 |d::ds,cs::LW,h,r,hr,hl,hd,M,hB=>by
  simp only[Wv]at hr;split at hr
  .rename_i c h1 hc;split at hr
   .rename_i hn;split at hr
    .rename_i cs' h2 QY;simp only[a03]at hr;subst hr;obtain⟨M1,b1,m1,v1,o1⟩:=hg e d h (c,h1) hc cs (hd 0 d cs rfl rfl) M hB;obtain⟨M2,b2,m2,v2,o2,l2,u2⟩:=a0P hg ds LW h1 (cs',h2) QY (by simpa using hl) (fun i d' adV e1 e2=>hd (i+1) d' adV (by simpa using e1) (by simpa using e2)) M1 b1;refine⟨M2,b2,m1.trans m2,?_,?_,?_,?_⟩
     .rw[List.flatten_cons];exact(v1.mono m2.h).append v2
     .intro x hx;rcases a2Y.1 hx with hx|hx
      .exact o1 x hx
      .exact o2 x hx
     .simp only[a1s,l2,hn,a4d,a3k,a9D];omega
     .intro x hx;rcases a2r.1 hx with rfl|hx
      .have:=v1.len;simp only at this;omega
      .exact u2 x hx
    .cases hr
   .cases hr
  .cases hr
theorem a0Q{g:TypeId->DataW H->List HB->Option (List TV×List HB)}(hg:a5u enc P w g){cs:List Value}:∀(fs:List Field) (ds:List (DataW H)) (o:Nat) (h:List HB) (r:List TV×List HB),Oa P g o fs ds h=some r ->
  (∀(i:Nat) (f:Field) (d:DataW H),fs[i]? = some f->ds[i]? = some d->Reads enc P w f.type ((cs.drop f.offset).take (P.cellsOf f.type)) d)->∀M,uO M h w ->
  ∃M',uO M' r.2 w∧su M M'∧bZ M'.h r.1 ((cs.drop o).take r.1.length)∧∀c∈r.1,iU c=true
 | [],[],o,h,r,hr,hd,M,hB=>by
  simp only[Oa,a03]at hr;subst hr;exact⟨M,hB,.refl M,by simpa using bZ.nil,by simp⟩
 | [],d::ds,o,h,r,hr,hd,M,hB=>by simp[Oa]at hr
 |f::fs,[],o,h,r,hr,hd,M,hB=>by simp[Oa]at hr
 |f::fs,d::ds,o,h,r,hr,hd,M,hB=>by
  simp only[Oa]at hr;split at hr
  .rename_i c h1 hc;split at hr
   .rename_i hn;obtain⟨ho,hn⟩:=hn;split at hr
    .rename_i cs' h2 QY;simp only[a03]at hr;subst hr;obtain⟨M1,b1,m1,v1,o1⟩:=hg f.type d h (c,h1) hc _ (hd 0 f d rfl rfl) M hB;obtain⟨M2,b2,m2,v2,o2⟩:=a0Q hg fs ds (o+c.length) h1 (cs',h2) QY (fun i f' d' e1 e2=>hd (i+1) f' d' (by simpa using e1) (by simpa using e2)) M1 b1;refine⟨M2,b2,m1.trans m2,?_,?_⟩
     .have:=(v1.mono m2.h).append v2;rw[ho,<-hn]at this;simp only at this ⊢;rw[a1s,List.take_add,af5];exact this
     .intro x hx;rcases a2Y.1 hx with hx|hx
      .exact o1 x hx
      .exact o2 x hx
    .cases hr
   .cases hr
  .cases hr
theorem Kt{n:Nat}:∀{LW:List (List Value)},(∀cs∈LW,cs.length=n)->∀(i j:Nat),j<n->LW.flatten[i*n+j]? = (LW[i]?).bind (·[j]?)
 | [],_,i,j,_=>by simp
 |cs::LW,h,0,j,hj=>by
  have:=h cs a3l;simp only[List.flatten_cons,abV,a3Z];rw[a0k (by omega)];simp
 |cs::LW,h,i+1,j,hj=>by
  have hc:=h cs a3l;simp only[List.flatten_cons];rw[a1d (by rw[hc,a3k,a9D];omega),hc];rw[show(i+1)*n+j-n=i*n+j by rw[a3k,a9D];omega];rw[Kt (fun x hx=>h x (a3n _ hx)) i j hj];simp
theorem a0R{M:Mp}{h:List HB}(hB:uO M h w){cs:List TV}{ls:List Pl}(h1:∀c∈cs,iU c=true)(h2:∀p∈ls,Nq M.h w .ro cs p) :
  ∃M',uO M' (h++[.cells .ro cs]) w∧su M M'∧M' (.h h.length)=some (.cells ls):=by
 have yD:l9 h (.h h.length)=none:=by simp[l9,St.get]
 have yL:M (.h h.length)=none:=by
  cases hm:M (.h h.length)with
  |none=>rfl
  |some l=>have:=hB.base.val.has hm;rw[yD]at this;cases this
 have hle:su M (dK M (.h h.length) (.cells ls)):=mG fun l0 h0=>by rw[yL]at h0;cases h0
 have hg:l9 (h++[.cells .ro cs])=lT (l9 h) (.h h.length) (.cells .ro cs):=kJ ⟨[],[],h,[]⟩ _ [] [];have hro:∀b∈h++[HB.cells .ro cs],wr b=false:=fun b hb=>by
  rcases a2Y.1 hb with hb|hb
  .exact hB.ro b hb
  .simp at hb;subst hb;rfl
 refine⟨dK M (.h h.length) (.cells ls),⟨⟨⟨?_,?_,?_⟩,fun k=>?_⟩,hro⟩,hle,by simp[dK]⟩
 .intro k l hk _;rw[hg];by_cases xP:k=.h h.length
  .subst xP;simp only[dK,a2y,a03]at hk;subst hk;exact⟨.cells .ro cs,by simp[lT],h1,fun p hp=>(h2 p hp).mono hle.h rfl,by simp,by simp⟩
  .simp only[dK,xP,a3U]at hk;obtain⟨b,g1,g2⟩:=hB.base.val.ok k l hk trivial;exact⟨b,by simp[lT,xP,g1],g2.mono hle.h fun _ _=>rfl⟩
 .intro k k' l l' b iE hk o9 _ hb hw;have:wr b=false:=by
   cases k with
   |h x=>exact hro b (a4s hb)
   |l x=>simp[l9,St.get]at hb
  rw[this]at hw;cases hw
 .intro k l hk c hc;by_cases xP:k=.h h.length
  .subst xP;simp only[dK,a2y,a03]at hk;subst hk;obtain⟨p,hp,rfl⟩:=a1e.1 hc;obtain⟨arr,ty,fz,g1,_⟩:=(h2 p hp).row;exact(a2q.1 g1).1
  .simp only[dK,xP,a3U]at hk;exact hB.base.val.inb k l hk c hc
 .simp[dK];exact hB.base.loc k
theorem a0S:∀g,a5u enc P w (CV P g)
 | 0=>by intro t d h r hr;simp[CV]at hr
 |g+1=>by
  intro t d h r hr cs hd M hB;obtain⟨fuel,ps,hd⟩:=hd;have ih:=a0S g;simp only[CV]at hr;split at hr
  .-- bool
   rename_i b hu;simp only[a03]at hr;subst hr;refine⟨M,hB,.refl M,?_,by simp[iU]⟩;cases fuel with
   |zero=>simp[DataW.trod]at hd
   |succ n=>
    unfold DataW.trod at hd;rw[hu]at hd;split at hd<;>simp_all
    exact .cons (.bool _) .nil
  .-- int
   rename_i k0 k n hu;simp only[a03]at hr;subst hr;refine⟨M,hB,.refl M,?_,by simp[iU]⟩;cases fuel with
   |zero=>simp[DataW.trod]at hd
   |succ n=>
    unfold DataW.trod at hd;rw[hu]at hd;split at hd<;>simp_all
    exact .cons (.int _ _) .nil
  .-- string
   rename_i bs hu;simp only[a03]at hr;subst hr;refine⟨M,hB,.refl M,?_,by simp[iU]⟩;cases fuel with
   |zero=>simp[DataW.trod]at hd
   |succ n=>
    unfold DataW.trod at hd;rw[hu]at hd;split at hd<;>simp_all
    obtain⟨_,rfl,_⟩:=hd;exact .cons (.str _) .nil
  .-- nil slice
   rename_i e hu;simp only[a03]at hr;subst hr;refine⟨M,hB,.refl M,?_,by simp[iU]⟩;rcases Deep.open_slice hu hd with⟨rfl,_⟩|⟨a,len,cap,m,n,Dt,Pl,_,_,_,_,_,hx,_⟩
   .exact .cons .TN .nil
   cases hx
  .-- a slice
   rename_i e xs ys hu;split at hr
   rotate_left
   .cases hr
   rename_i cells h1 hl;split at hr
   .cases hr
   rename_i hn0;simp only[a03]at hr;subst hr;rcases Deep.open_slice hu hd with⟨rfl,hx⟩|⟨a,len,cap,m,n,Dt,Pl,rfl,_,hlc,ahR,hm,hx,JW⟩
   .cases hx
   simp only[a2y]at hm;have hm':=hm.symm;subst hm';simp only[a0u,DataW.slice.injEq]at hx;obtain⟨⟨NQ,hys⟩,_⟩:=hx;have lxs:xs.length=len:=by rw[NQ];simp
   have lys:ys.length=cap-len:=by rw[hys];simp
   have hds:∀i,i<cap->(xs++ys)[i]? = some (Dt i):=by
    intro i hi;by_cases h1:i<len
    .rw[a0k (by omega),NQ];simp[h1]
    rw[a1d (by omega),lxs,hys];have h2:i-len<cap-len:=(by omega);simp[h2,show len+(i-len)=i by omega]
   have hn:=JW
   let LW:List (List Value):=(List.range cap).map fun i=>(w.cells? 0 (a.add (i*P.cellsOf e)) (P.cellsOf e)).getD []
   have QY:∀i,i<cap->∃cs',LW[i]? = some cs'∧w.cells? 0 (a.add (i*P.cellsOf e)) (P.cellsOf e)=some cs'∧DataW.trod enc P w 0 (fun _=>true) true n e cs'=some (Dt i,Pl i):=by
    intro i hi;obtain⟨cs',e1,e2⟩:=JW i hi;exact⟨cs',by simp[LW,hi,e1],e1,e2⟩
   have ahS:LW.length=cap:=(by simp[LW]);obtain⟨M1,b1,m1,v1,o1,l1,u1⟩:=a0P ih (xs++ys) LW h (cells,h1) hl (by simp[ahS,lxs,lys];omega) (fun i d cs e1 e2=>by
    have hi:i<cap:=by rw[<-ahS];exact(a0d.1 e2).1
    obtain⟨cs',f1,f2,f3⟩:=QY i hi;rw[f1]at e2;cases e2;rw[hds i hi]at e1;cases e1;exact⟨n,_,f3⟩) M hB
   simp only at b1 v1 o1 l1;have l1':cells.length=cap*P.cellsOf e:=by rw[l1];simp[lxs,lys];congr 1;omega
   have a4K:0<P.cellsOf e:=(by omega);have e1:xs.length+ys.length=cap:=(by omega);show ∃M',uO M' (h1++[.cells .ro cells]) w∧su M M'∧bZ M'.h [.slc h1.length 0 xs.length (xs.length+ys.length) (P.cellsOf e) true] [.slice (some a) len cap]∧∀c∈[TV.slc h1.length 0 xs.length (xs.length+ys.length) (P.cellsOf e) true],iU c=true;rw[e1,lxs];by_cases hc0:cap=0
   .obtain⟨M2,b2,m2,k2⟩:=a0R b1 (cs:=cells) (ls:=[]) o1 (by simp);refine⟨M2,b2,m1.trans m2,.cons (.slc (p:=⟨0,0,0,0⟩) k2 (.inl hc0) ?_ ?_ ?_ ?_ (.inl hc0) (by unfold maxLen at ahR;omega)) .nil,by intro c hc;simp at hc;subst hc;rfl⟩
    .simp[hc0]
    .omega
    .omega
    intro _;omega
   have Wx:∀k,k<cap*P.cellsOf e->w.cell? (a.add k)=LW.flatten[k]?:=by
    intro k hk;have hj:k%P.cellsOf e<P.cellsOf e:=Nat.mod_lt _ a4K;have hi:k/P.cellsOf e<cap:=by rw[Nat.div_lt_iff_lt_mul a4K];exact hk
    have xP:k/P.cellsOf e*P.cellsOf e+k%P.cellsOf e=k:=by
     rw[Nat.mul_comm];exact Nat.div_add_mod k _
    obtain⟨cs',f1,f2,_⟩:=QY _ hi;obtain⟨_,_,f3⟩:=World.cells?_some f2;have f4:=f3 _ hj;rw[Deep.add_add,xP]at f4;have f5:=Kt u1 (k/P.cellsOf e) (k%P.cellsOf e) hj;rw[xP,f1]at f5;rw[f4,f5];rfl
   have ahv:0<cap*P.cellsOf e:=Nat.mul_pos (by omega) a4K;have lfl:LW.flatten.length=cap*P.cellsOf e:=(by rw[<-v1.len,l1']);have h00:=Wx 0 ahv;have hv0:LW.flatten[0]? = some (LW.flatten[0]'(by omega)):=a0g _;rw[hv0,Addr.add,a0q rfl]at h00;have yF:∃arr ty fz,w.heap[a.block]? = some (.cells arr ty fz)∧a.spot=none:=by
    unfold World.cell? at h00;split at h00
    .rename_i c ty fz hh;split at h00
     .cases h00
     rename_i hsp;exact⟨c,ty,fz,hh,by simpa using hsp⟩
    cases h00
   obtain⟨arr,ty,fz,hh,hsp⟩:=yF;have Wy:∀k,w.cell? (a.add k)=arr[a.off+k]?:=by
    intro k;unfold World.cell? Addr.add;by_cases hk:k=0
    .subst hk;simp[hh,hsp]
    simp[hk,hh]
   have hbound:a.off+cap*P.cellsOf e<=arr.size:=by
    have h1:=Wx (cap*P.cellsOf e-1) (by omega);rw[Wy,a0g (by omega)]at h1;have:=(a2q.1 h1).1;omega
   obtain⟨M2,b2,m2,k2⟩:=a0R b1 (cs:=cells) (ls:=[⟨a.block,a.off,cap*P.cellsOf e,arr.size⟩]) o1 (by
    intro p hp;simp at hp;subst hp;refine⟨⟨arr,ty,fz,hh,rfl,by simp,fun _ i c v hi e1 e2=>?_⟩,hbound,agJ l1'.symm,by simp⟩;simp only at hi e2;rw[<-Wy,Wx i hi]at e2;exact v1.at_ i c v e1 e2)
   refine⟨M2,b2,m1.trans m2,.cons (.slc (p:=⟨a.block,a.off,cap*P.cellsOf e,arr.size⟩) k2 (.inr (by simp)) ?_ ?_ ?_ ?_ (.inr ⟨?_,?_⟩) (by unfold maxLen at ahR;omega)) .nil,by intro c hc;simp at hc;subst hc;rfl⟩
   .simp
   .omega
   .omega
   .intro _;omega
   .cases a;simp_all
   simpa using hbound
  .-- a struct
   rename_i fs ds hu;split at hr
   .rename_i cs' h1 hl;split at hr
    .rename_i hlen;simp only[a03]at hr;subst hr;obtain⟨zs,n,_,hx,qm,Yp,JW⟩:=DataW.trod_struct hu hd;simp only[a0u,DataW.agg.injEq]at hx;obtain⟨rfl,_⟩:=hx;obtain⟨M',b1,m1,v1,o1⟩:=a0Q ih fs.toList _ 0 h (cs',h1) hl (cs:=cs) (fun i f d e1 e2=>by
      have e1':fs[i]? = some f:=(by simpa using e1);simp only[a4q,a0f]at e2;obtain⟨z,hz,rfl⟩:=e2;exact⟨n,z.2,by rw[JW i f e1',hz]⟩) M hB
     refine⟨M',b1,m1,?_,o1⟩;simp only at v1 ⊢;rw[hlen,<-qm]at v1;simpa using v1
    cases hr
   cases hr
  cases hr
end
open Go.ChangeShapes Go.WideShapes Go.RowKit
section
variable {H:Type} {enc:TypeId×Value->H} {P:Program} {W W':World}
def L9(P:Program)(g:Nat):List TypeId->List (DataW H)->List HB->Option (List TV×List HB)
 | [],[],h=>some ([],h)
 |t::ts,d::ds,h=>match CV P g t d h with
  |some (c,h1)=>match uJ P t,c,L9 P g ts ds h1 with
   |some true,c,some (az,h2)=>some (.agg c::az,h2)
   |some false,[x],some (az,h2)=>some (x::az,h2)
   |_,_,_=>none
  |none=>none
 |_,_,_=>none
theorem Z7{r:Reach}{b:Nat}{t:TypeId}{v:Value}(ha:uJ P t=some false)(h:Value.okWide P W r b t v):v.cells.toList=[v]:=by
 unfold uJ at ha;unfold Value.okWide at h;cases hu:P.underlying t with
 |none=>simp[hu]at ha
 |some u=>
  rw[hu]at ha h;cases v with
  |agg cs=>cases u<;>simp_all [Cell.okWide,Cell.ok]
  |_=>rfl
theorem Z8{r:Reach}{b:Nat}{t:TypeId}{v:Value}(ha:uJ P t=some true)(h:Value.okWide P W r b t v):∃cs,v=.agg cs:=by
 unfold uJ at ha;unfold Value.okWide at h;cases hu:P.underlying t with
 |none=>simp[hu]at ha
 |some u=>
  rw[hu]at ha h;cases u<;>simp_all<;>exact⟨_,h.choose_spec.1⟩
theorem Ub{r:Reach}{b g:Nat}:∀{ts:List TypeId} {vs:List Value} {ds:List (DataW H)} {ps:List MemPlace} {h:List HB} {x:List TV×List HB} {M:Mp},
  DataW.TrodAll enc P W 0 (fun _=>true) true ts vs ds ps->(∀(j:Nat) t v,ts[j]? = some t->vs[j]? = some v->Value.okWide P W r b t v)->L9 P g ts ds h=some x->uO M h W ->
  ∃M',uO M' x.2 W∧su M M'∧bZ M'.h x.1 vs
 | [],vs,ds,ps,h,x,M,ht,ho,he,hB=>by
  obtain⟨rfl,rfl,rfl⟩:=trodAll_nil ht;simp only[L9,a03]at he;subst he;exact⟨M,hB,.refl M,.nil⟩
 |t::ts,vs,ds,ps,h,x,M,ht,ho,he,hB=>by
  obtain⟨v,vs',d,ds',p,q,rfl,rfl,rfl,hd,NH⟩:=trodAll_cons ht;simp only[L9]at he;split at he
  .rename_i c h1 hc;obtain⟨fuel,hf⟩:=hd;obtain⟨M1,b1,m1,v1,o1⟩:=a0S (enc:=enc) (P:=P) (w:=W) g t d h (c,h1) hc v.cells.toList ⟨fuel,p,hf⟩ M hB;split at he
   .rename_i az h2 ha hr;simp only[a03]at he;subst he;obtain⟨M2,b2,m2,v2⟩:=Ub (x:=(az,h2)) NH (fun j t' v' e1 e2=>ho (j+1) t' v' (by simpa using e1) (by simpa using e2)) hr b1;obtain⟨cs,rfl⟩:=Z8 ha (ho 0 t v rfl rfl);refine⟨M2,b2,m1.trans m2,.cons ?_ v2⟩;have:=VR.agg' (v1.mono m2.h);simpa[Value.cells]using this
   .rename_i y az h2 ha hr;simp only[a03]at he;subst he;obtain⟨M2,b2,m2,v2⟩:=Ub (x:=(az,h2)) NH (fun j t' v' e1 e2=>ho (j+1) t' v' (by simpa using e1) (by simpa using e2)) hr b1;have h1c:=Z7 ha (ho 0 t v rfl rfl);rw[h1c]at v1;obtain⟨z,zs,e1,e2,e3⟩:=(v1.mono m2.h).iO;simp only[adR]at e1;obtain⟨rfl,rfl⟩:=e1;exact⟨M2,b2,m1.trans m2,.cons e2 v2⟩
   .cases he
  .cases he
theorem ES(hl:laidOutB P=true)(hb:Below W.heap.size W W'):∀{ts:List TypeId} {vs:List Value} {ds:List (DataW H)} {ps:List MemPlace},
  (ts.all fun t=>P.readableRec t&&decide (t<P.types.size))=true->DataW.TrodAll enc P W 0 (fun _=>true) true ts vs ds ps->(∀x∈ps,x.block<W.heap.size) ->
  DataW.TrodAll enc P W' 0 (fun b=>decide (b<W.heap.size)) true ts vs ds ps
 | [],_,_,_,_,h,_=>by
  obtain⟨rfl,rfl,rfl⟩:=trodAll_nil h;rfl
 |t::ts,_,_,_,ho,h,aQ=>by
  obtain⟨v,vs',d,ds',p,q,rfl,rfl,rfl,hd,NH⟩:=trodAll_cons h;simp only[abM,a2n,a1o]at ho;exact⟨p,q,Below.trod hl ho.1.1 ho.1.2 hd hb (fun x hx=>aQ x (a5N _ hx)),ES hl hb ho.2 NH (fun x hx=>aQ x (abE _ hx)),rfl⟩
theorem a2K{f:Func}{s:ChangeSpec}{args:Array Value}{ds:List (DataW H)}{before:List MemPlace}{tb:TypeId}(hl:laidOutB P=true)(hv:s.vars=[])(hs:s.fn H ds={ results:=[.lit (.bool true)],args:=ds })
  (hf:f.resultTypes=#[tb]) (htb:P.underlying tb=some .bool) (hp:(f.params.toList.all fun t=>P.readableRec t&&decide (t<P.types.size))=true)
  (hW:DataW.Whole enc P f.params.toList s.vars false W args.toList ds [] before) (hb:Below W.heap.size W W'):s.post enc P f false true false false W args (.bool true) W':=by
 have hW':=hW;obtain⟨p,q,hA,hV,rfl,hfz,jA⟩:=hW;rw[hv]at hV;have hq:q=[]:=hV;subst hq;have aQ:∀x∈p,x.block<W.heap.size:=fun x hx=>by simpa using hW'.lt x (a5N _ hx)
 refine⟨ds,[],p++[],[],p,[],hW',?_,?_,?_,hb.frame _,by simp⟩
 .rw[a5T,hs,hf];refine⟨[],[],⟨1,?_⟩,rfl,rfl⟩;simp[DataW.trod,htb,Value.cells]
 .rw[a5T,hs];exact ES hl hb hp hA aQ
 .rw[a5T,hs,hv];rfl
end
def Uc(P:Program)(T:qH)(call:aY)(L:Nat)(f:Nat)(args:List TV)(h:List HB):Option (TV×List HB×List Nat):=
 match TL P f with
 |some t=>match exec P T call L f false h.length t.nt t.body ⟨nJ 0 args,[],h,[]⟩with
  |some (.norm,s)|some (.ret,s)=>match xK P s t.results with
   |some vs=>some (one vs,s.heap,s.ws)
   |none=>none
  |_=>none
 |none=>none
def lq(P:Program)(T:qH)(L:Nat):Nat->aY
 | 0,_,_,_=>none
 |n+1,.fn f first cap,args,h=>if T.exts.contains f=true then T.ext (.fn f first cap) args h else if T.dem.contains f=true then a2H P T (lq P T L n) L f (first++args++cap) h else Uc P T (lq P T L n) L f (first++args++cap) h
 |n+1,.kW l,args,h=>Nl P T (lq P T L n) L l args h
 |_,_,_,_=>none
def runN(P:Program)(T:qH)(L n f:Nat)(args:List TV)(h:List HB):Option (TV×List HB×List Nat):=lq P T L n (.fn f [] []) args h
section
variable {P:Program} {T:qH} {call:aY} {L:Nat} {nt:Nat} {M:Mp} {h:List HB} {w:World}
theorem a0T(hm:P.follows .mixedOrders=true)(hC:iF P call){f:Nat}{args:List TV}{v:TV}{h':List HB}{ws:List Nat}(hf:Uc P T call L f args h=some (v,h',ws))(hB:wH M h w){xs:List Value}(hx:bZ M.h args xs) :
  ∃ fn c, P.funcs[f]? = some fn ∧ (fn.name == "runtime.NumGoroutine") = false ∧ fn.body = some c ∧ ∀ n, CallsIn Fence.wide n P f xs.toArray w (L6 (jJ M h w v h' ws)) := by
 unfold Uc TL at hf;split at hf
 .rename_i t ht;split at ht
  .rename_i fn hfn;split at ht
   .cases ht
   .rename_i a5s;split at ht
    .rename_i c hc;cases ht;refine⟨fn,c,hfn,by simpa using a5s,hc,fun n=>?_⟩;have hR0:Rel M h w fn.ntmps M ⟨nJ 0 args,[],h,[]⟩ { tmps:=xs.toArray++Array.replicate (fn.ntmps-xs.toArray.size) Go.undef,defers:=[] } w:=by
      have hg:St.get ⟨nJ 0 args,[],h,[]⟩=l9 h:=getEnv ⟨[],[],h,[]⟩ _ _;refine⟨by rw[hg];exact hB.val,by rw[hg];exact .refl _ _ _,fun t e hl=>?_,by simp;omega,by simp,.nil⟩;obtain⟨i,v',x,e1,rfl,e3,e4⟩:=IX hx hl;have hi:i<xs.length:=(a0d.1 e3).1;have:(xs.toArray++Array.replicate (fn.ntmps-xs.toArray.size) Go.undef).getD t Go.undef=x:=by
       rw[a8z,a9O (by simp;omega)];have:t=i:=(by omega);subst this;simp[e3]
      rw[this];exact .val e4
     have O7:∀(s:St),(match xK P s fn.results.toList with
       |some vs=>some (one vs,s.heap,s.ws)
       |none=>none)=some (v,h',ws)->∀(M':Mp) (a':Act) (w':World),Rel M h w fn.ntmps M' s a' w'->LeavesInM Fence.wide n P fn a'.tmps (L6 (jJ M h w v h' ws)) a'.defers .returning w':=by
      intro s hs M' a' w' FB;split at hs
      .rename_i vs hvs;refine NY hB a'.defers a' w' rfl FB fun w'' a5t=>?_;obtain⟨y,g1,g2⟩:=NW (P:=P) a5t hvs;refine⟨y,g2,?_⟩;simp only[a03,a0u]at hs;obtain⟨rfl,rfl,rfl⟩:=hs;exact YW hB a5t g1
      .cases hs
     refine callsIn_of_wp_marks (F:=Fence.wide) hfn hc trivial ?_;split at hf
     .rename_i s hex;exact vI (gY:=false) hm hC hB (fun _=>rfl) _ _ _ _ hex n _ M _ w hR0 fun M' a' w' FB=>O7 s hf M' a' w' FB
     .rename_i s hex;exact vI (gY:=false) hm hC hB (fun _=>rfl) _ _ _ _ hex n _ M _ w hR0 fun M' a' w' FB=>O7 s hf M' a' w' FB
     .cases hf
    .cases ht
  .cases ht
 .cases hf
theorem Z9(hm:P.follows .mixedOrders=true)(hE:iF P T.ext):∀n,iF P (lq P T L n)
 | 0=>by
  intro fv args h v h' ws hc;simp[lq]at hc
 |n+1=>by
  intro fv args h v h' ws hc M w x xs hV hl hx NQ;have ih:=Z9 hm hE n;cases fv with
  |fn f first cap=>
   simp only[lq]at hc;split at hc
   .exact hE _ _ _ _ _ _ hc M w x xs hV hl hx NQ
   rename_i hnx;cases hx with
   |fn h1 h2 h3 h4=>
    rename_i ys zs;have EP:bZ M.h (first++args++cap) (ys++xs++zs):=(bZ.append ⟨h1,h2⟩ NQ).append ⟨h3,h4⟩;obtain ⟨fn, c, e1, e2, e3, e4⟩ : ∃ fn c, P.funcs[f]? = some fn ∧ (fn.name == "runtime.NumGoroutine") = false ∧ fn.body = some c ∧ ∀ n, CallsIn Fence.wide n P f (ys ++ xs ++ zs).toArray w (L6 (jJ M h w v h' ws)) := by
     split at hc
     .exact a9g hm ih hc ⟨hV,hl⟩ EP
     exact a0T hm ih hc ⟨hV,hl⟩ EP
    refine⟨{ target:=.fn (.func f) zs.toArray,args:=ys.toArray++xs.toArray },fun w=>by simp[Deferred.ofValue],.inl ⟨⟨f,(ys++xs++zs).toArray,?_,e4⟩,f,first,cap,rfl⟩⟩;have e2' : ¬ fn.name = "runtime.NumGoroutine" := (by simpa using e2);simp[invoke,callFunc,program,Sem.run,e1,e2',e3]
  |kW l=>
   simp only[lq]at hc;cases hx with
   |kW hm'=>
    rename_i l' _;refine⟨{ target:=.fn (.yield l') #[],args:=xs.toArray },fun w=>by simp[Deferred.ofValue],.inr ⟨a5r hm ih hc ⟨hV,hl⟩ hm' NQ,l,rfl⟩⟩
  |_=>simp[lq]at hc
theorem a9h(hm:P.follows .mixedOrders=true)(hE:iF P T.ext){n f:Nat}{args:List TV}{v:TV}{h':List HB}{ws:List Nat}(hnf:T.exts.contains f=false)(jA:T.dem.contains f=false)(hr:runN P T L (n+1) f args h=some (v,h',ws))(hV:Valid M uK (l9 h) w)(hl:∀k,M (.l k)=none)
  {xs:List Value} (hx:bZ M.h args xs) (k:Nat):CallsIn Fence.wide k P f xs.toArray w (L6 (jJ M h w v h' ws)):=by
 simp only[runN,lq,hnf,jA,a2V,a3U]at hr;have EP:bZ M.h ([]++args++[]) xs:=by simpa using hx
 obtain⟨fn,c,_,_,_,e4⟩:=a0T hm (Z9 hm hE n) hr ⟨hV,hl⟩ EP;exact e4 k
end
section
variable {H:Type} {enc:TypeId×Value->H} {P:Program} {W W':World}
theorem Za{T:qH}{L n g a9i:Nat}{f:Func}{s:ChangeSpec}{args:Array Value}{ds:List (DataW H)}{before:List MemPlace}{tb:TypeId}{r:Reach}{b:Nat}(hm:P.follows .mixedOrders=true)
  (hl:laidOutB P=true) (hv:s.vars=[]) (hs:s.fn H ds={ results:=[.lit (.bool true)],args:=ds })
  (hf:f.resultTypes=#[tb]) (htb:P.underlying tb=some .bool) (hp:(f.params.toList.all fun t=>P.readableRec t&&decide (t<P.types.size))=true)
  (hW:DataW.Whole enc P f.params.toList s.vars false W args.toList ds [] before)
  (WA:∀(j:Nat) t v,f.params[j]? = some t->args[j]? = some v->Value.okWide P W r b t v)
  {az:List TV} {h h':List HB} (he:L9 P g f.params.toList ds []=some (az,h)) (hE:iF P T.ext) (hnf:T.exts.contains a9i=false) (jA:T.dem.contains a9i=false) (hr:runN P T L (n+1) a9i az h=some (.bool true,h',[])) :
  Calls P a9i args W fun e W'=>∃v,e=.returned v∧s.post enc P f false true false false W args v W':=by
 obtain⟨p,q,hA,_⟩:=id hW;have h0:uO (fun _=>none) [] W:=⟨⟨⟨by simp,by simp,by simp⟩,by simp⟩,by simp⟩;obtain⟨M',b1,_,v1⟩:=Ub hA (fun j t v e1 e2=>WA j t v (by simpa using e1) (by simpa using e2)) he h0;have hc:=a9h hm hE hnf jA hr b1.base.val b1.base.loc v1 0;refine(callsIn_wide.1 hc).mono fun e W' hR=>?_;cases e with
 |panicked c=>exact hR.elim
 |outgrown=>exact hR.elim
 |returned v=>
  obtain⟨M2,_,_,hX,hv'⟩:=hR;cases hv';refine⟨_,rfl,a2K hl hv hs hf htb hp hW ⟨hX.os,hX.tape,hX.output,hX.size,fun k hk=>hX.frame k hk (by simp)⟩⟩
end
end Tw
namespace Pv
open Go Tw
inductive PV(Γ:Nat->Type) where
 |bool (b:Bool)
 |lit (b:Bool)
 |int (k:IntKind) (n:Int)
 |str (s:ByteArray)
 |nil (k:NK)
 |ptr (b off lim:Nat)
 |slc (b off len cap sz:Nat) (ex:Bool)
 |own (b:Nat)
 |win (b o n:Nat)
 |map (r:Nat)
 |fn (f:FuncId) (first cap:List (PV Γ))
 |kW (l:Nat)
 |agg (cs:List (PV Γ))
 |dF (cs:List (PV Γ))
 |dD (t:Nat) (l:List (Γ t)) (full:Bool)
 |el (t:Nat) (a:Γ t) (off:Nat)
 |row (b j off:Nat)
 |iter (b:Nat)
inductive PE(Γ:Nat->Type) where
 |val (v:PV Γ)
 |loc (k off:Nat)
 |undef
 |ent (r j:Nat) (v:PV Γ)
 |Et (r j:Nat)
inductive PB(Γ:Nat->Type) where
 |cells (cs:List (PV Γ))
 |aF (cs:List (PV Γ))
 |list (k ex:Bool) (t:Nat) (l:List (Γ t))
 |map (es:List (PV Γ×PV Γ))
 |mark
 |loop (ready:Bool) (f:FuncId) (nt:Nat) (env:List (Nat×PE Γ)) (ps:List Nat) (assign body:Code) (jI:Option Code)
 |dn (r n:Nat) (seen:List Nat)
 |iG (es:List (PV Γ×PV Γ))
 |mZ (cs:List (PV Γ))
 |gone
structure aS(Γ:Nat->Type) where
 env:List (Nat×PE Γ)
 loc:List (List (PV Γ))
 heap:List (PB Γ)
structure kR where
 Γ:Nat->Type
 d0:(t:Nat)->Γ t
 enc:(t:Nat)->Γ t->List (PV Γ)
 dec:(t:Nat)->List (PV Γ)->Option (Γ t)
section
variable {Γ:Nat->Type}
def qU:PV Γ->Option TV
 |.bool b=>some (.bool b)
 |.int k n=>some (.int k n)
 |.str s=>some (.str s)
 |.nil k=>some (.nil k)
 |_=>none
def iK:List (PV Γ)->Option (List TV)
 | []=>some []
 |c::cs=>match qU c,iK cs with
  |some v,some vs=>some (v::vs)
  |_,_=>none
def qg:PV Γ->Option TV
 |.agg cs=>(iK cs).map .agg
 |v=>qU v
def Ud:List (PV Γ)->Option (List TV)
 | []=>some []
 |c::cs=>match qg c,Ud cs with
  |some v,some vs=>some (v::vs)
  |_,_=>none
def ofC:TV->Option (PV Γ)
 |.bool b=>some (.bool b)
 |.int k n=>some (.int k n)
 |.str s=>some (.str s)
 |.nil k=>some (.nil k)
 |_=>none
def BZ:List TV->Option (List (PV Γ))
 | []=>some []
 |c::cs=>match ofC c,BZ cs with
  |some v,some vs=>some (v::vs)
  |_,_=>none
def Yt:TV->Option (PV Γ)
 |.agg cs=>(BZ cs).map .agg
 |v=>ofC v
def PV.cells:PV Γ->List (PV Γ)
 |.agg cs=>cs
 |v=>[v]
def Zb:PV Γ->Bool
 |.agg _|.dF _=>false
 |_=>true
def ET(t:Nat):List (Nat×PE Γ)->Option (PE Γ)
 | []=>none
 |(k,v)::r=>if k=t then some v else ET t r
def aS.put(s:aS Γ)(dst:Option Nat)(v:PE Γ):aS Γ:=
 match dst with
 |some d=>{ s with env:=(d,v)::s.env }
 |none=>s
def jd(live:List Nat)(env:List (Nat×PE Γ)):List (Nat×PE Γ):=
 match live with
 | []=>[]
 |t::r=>match ET t env with
  |some v=>(t,v)::jd r env
  |none=>jd r env
def BL(t:Nat)(b:Bool):List (Nat×PE Γ)->List (Nat×PE Γ)
 | []=>[]
 |(k,v)::r=>if k=t then(k,.val (.lit b))::r else(k,v)::BL t b r
def aS.BL(s:aS Γ)(x:Operand)(b:Bool):aS Γ:=
 match x with
 |.tmp t=>{ s with env:=Pv.BL t b s.env }
 |_=>s
def FH(env:List (Nat×PE Γ)):Operand->Option (PE Γ)
 |.tmp t=>ET t env
 |.const v=>match TV.Vw v with
  |some (.bool b)=>some (.val (.lit b))
  |some x=>(Yt x).map .val
  |none=>none
 |.func f=>some (.val (.fn f [] []))
 |.global _=>none
def a0U:PV Γ->PV Γ
 |.lit b=>.bool b
 |v=>v
def zS(env:List (Nat×PE Γ))(x:Operand):Option (PV Γ):=
 match FH env x with
 |some (.val v)=>some (a0U v)
 |_=>none
def a0V(env:List (Nat×PE Γ))(x:Operand):Option (PV Γ):=
 match FH env x with
 |some (.val v)=>some v
 |_=>none
def Zc(env:List (Nat×PE Γ)):List Operand->Option (List (PV Γ))
 | []=>some []
 |x::xs=>match zS env x,Zc env xs with
  |some v,some vs=>some (v::vs)
  |_,_=>none
def a2L(env:List (Nat×PE Γ)):List (Nat×Operand)->Option (List (Nat×PV Γ))
 | []=>some []
 |(i,x)::xs=>match zS env x,a2L env xs with
  |some v,some vs=>some ((i,v)::vs)
  |_,_=>none
def Ob(env:List (Nat×PE Γ)):Option Operand->Option (Option (PV Γ))
 |none=>some none
 |some x=>match zS env x with
  |some v=>some (some v)
  |none=>none
def adX(cs:List (PV Γ))(off n:Nat):Option (List (PV Γ)):=
 if off+n<=cs.length then some ((cs.drop off).take n)else none
def Oc(cs:List (PV Γ))(off:Nat)(new:List (PV Γ)):Option (List (PV Γ)):=
 if off+new.length<=cs.length then some (cs.take off++new++cs.drop (off+new.length))else none
def GI(P:Program)(t:TypeId)(cs:List (PV Γ))(off:Nat):Option (PV Γ):=
 match uJ P t,dG P t with
 |some true,some n=>(adX cs off n).map .agg
 |some false,some n=>if n=1 then cs[off]? else none
 |_,_=>none
def RF(P:Program)(t:TypeId):Option (List (PV Γ)):=
 match JM P t with
 |some z=>BZ z
 |none=>none
def Oe(place:Nat->Option (Nat×Nat)):List (PV Γ)->List (Nat×PV Γ)->Option (List (PV Γ))
 |cs,[]=>some cs
 |cs,(i,v)::r=>match place i with
  |some (off,size)=>if v.cells.length=size then(match Oc cs off v.cells with|some cs'=>Oe place cs' r|none=>none)else none
  |none=>none
def Zd(P:Program)(t:TypeId)(parts:List (Nat×PV Γ)):Option (PV Γ):=
 match RF P t,P.underlying t with
 |some z,some (.struct fs)=>if C9 P fs.toList then(Oe (TJ P fs) z parts).map .agg else none
 |some z,some (.array _ e)=>match dG P e with
  |some n=>(Oe (fun i=>some (i*n,n)) z parts).map .agg
  |none=>none
 |_,_=>none
def Ze(z:List (PV Γ)):Nat->List (PV Γ)
 | 0=>[]
 |n+1=>z++Ze z n
def E8(site:Bool)(s:aS Γ)(cs:List (PV Γ)):PE Γ×aS Γ:=
 if site then(.val (.ptr s.heap.length 0 cs.length),{ s with heap:=s.heap++[.cells cs] })
 else(.loc s.loc.length 0,{ s with loc:=s.loc++[cs] })
def view(H:List (PB Γ)):PV Γ->Option (PV Γ)
 |.own i=>match H[i]? with
  |some (.list _ _ t l)=>some (.dD t l false)
  |_=>none
 |.win i o n=>match H[i]? with
  |some (.list _ _ t l)=>some (.dD t ((l.drop o).take n) false)
  |_=>none
 |.fn f a c=>match views H a,views H c with
  |some a,some c=>some (.fn f a c)
  |_,_=>none
 |.agg cs=>(views H cs).map .agg
 |.dF cs=>(views H cs).map .dF
 |.ptr _ _ _=>none
 |.slc _ _ _ _ _ _=>none
 |.map _=>none
 |.iter _=>none
 |.kW _=>none
 |.el _ _ _=>none
 |.row _ _ _=>none
 |.bool b=>some (.bool b)
 |.lit b=>some (.bool b)
 |.int k n=>some (.int k n)
 |.str s=>some (.str s)
 |.nil k=>some (.nil k)
 |.dD t l f=>some (.dD t l f)
where
 views (H:List (PB Γ)):List (PV Γ)->Option (List (PV Γ))
 | []=>some []
 |c::cs=>match view H c,views H cs with
  |some v,some vs=>some (v::vs)
  |_,_=>none
abbrev views(H:List (PB Γ)):=view.views H
def kL:PV Γ->List Nat
 |.own i=>[i]
 |.win i _ _=>[i]
 |.fn _ a c=>jY a++jY c
 |.agg cs=>jY cs
 |.dF cs=>jY cs
 |_=>[]
where
 jY:List (PV Γ)->List Nat
 | []=>[]
 |c::cs=>kL c++jY cs
def xE:PV Γ->Bool
 |.dD _ _ _=>true
 |.el _ _ _=>true
 |.fn _ a c=>GK a||GK c
 |.agg cs=>GK cs
 |.dF cs=>GK cs
 |_=>false
where
 GK:List (PV Γ)->Bool
 | []=>false
 |c::cs=>xE c||GK cs
def jf:PV Γ->Bool
 |.ptr _ _ _=>false
 |.slc _ _ _ _ _ _=>false
 |.own _=>false
 |.win _ _ _=>false
 |.map _=>false
 |.iter _=>false
 |.kW _=>false
 |.row _ _ _=>false
 |.fn _ a c=>GL a&&GL c
 |.agg cs=>GL cs
 |.dF cs=>GL cs
 |_=>true
where
 GL:List (PV Γ)->Bool
 | []=>true
 |c::cs=>jf c&&GL cs
def shift(k:Nat):PV Γ->PV Γ
 |.ptr b off lim=>.ptr (b+k) off lim
 |.slc b off len cap sz ex=>.slc (b+k) off len cap sz ex
 |.own b=>.own (b+k)
 |.win b o n=>.win (b+k) o n
 |.map r=>.map (r+k)
 |.iter r=>.iter (r+k)
 |.fn f a c=>.fn f (shifts k a) (shifts k c)
 |.kW l=>.kW (l+k)
 |.agg cs=>.agg (shifts k cs)
 |.dF cs=>.dF (shifts k cs)
 |.row b j off=>.row (b+k) j off
 |.bool b=>.bool b
 |.lit b=>.lit b
 |.int k n=>.int k n
 |.str s=>.str s
 |.nil k=>.nil k
 |.dD t l f=>.dD t l f
 |.el t a off=>.el t a off
where
 shifts (k:Nat):List (PV Γ)->List (PV Γ)
 | []=>[]
 |c::cs=>shift k c::shifts k cs
def WB(i:Nat)(H:List (PB Γ)):List (PB Γ):=H.set i .gone
def aZ:List Nat->List (PB Γ)->List (PB Γ)
 | [],H=>H
 |i::is,H=>aZ is (WB i H)
end
section
variable (X:kR)
def FI(k:Nat):PB X.Γ->Option (PB X.Γ)
 |.cells cs=>some (.cells (shift.shifts k cs))
 |.list w ex t l=>some (.list w ex t l)
 |.gone=>some .gone
 |_=>none
def qV(k:Nat):List (PB X.Γ)->Option (List (PB X.Γ))
 | []=>some []
 |b::bs=>match FI X k b,qV k bs with
  |some b,some bs=>some (b::bs)
  |_,_=>none
def hasB:PB X.Γ->Bool
 |.cells cs=>xE.GK cs
 |.gone=>false
 |_=>true
def a9j(H:List (PB X.Γ))(t:Nat)(cs:List (PV X.Γ)):Option (X.Γ t×List Nat):=
 match views H cs with
 |some vs=>match X.dec t vs with
  |some a=>some (a,kL.jY cs)
  |none=>none
 |none=>none
def xY(H:List (PB X.Γ))(t sz:Nat):Nat->List (PV X.Γ)->Option (List (X.Γ t)×List Nat)
 | 0,_=>some ([],[])
 |n+1,cs=>if sz<=cs.length then match a9j X H t (cs.take sz),xY H t sz n (cs.drop sz)with
  |some (a,is),some (l,js)=>some (a::l,is++js)
  |_,_=>none
  else none
def CW{Γ:Nat->Type}(t t':Nat)(l:List (Γ t')):Option (List (Γ t)):=
 if h:t'=t then some (h▸l)else none
def Af(H:List (PB X.Γ))(e sz:Nat):PV X.Γ->Option (List (X.Γ e)×List Nat)
 |.nil .slc=>some ([],[])
 |.dD t l _=>(CW e t l).map fun l=>(l,[])
 |.own i=>match H[i]? with
  |some (.list _ _ t l)=>(CW e t l).map fun l=>(l,[])
  |_=>none
 |.win i o n=>match H[i]? with
  |some (.list _ _ t l)=>(CW e t l).map fun l=>((l.drop o).take n,[])
  |_=>none
 |.slc b off len _ sz' _=>match H[b]? with
  |some (.cells cs)=>if sz'=sz∧off+len*sz<=cs.length then xY X H e sz len (cs.drop off)else none
  |_=>none
 |_=>none
def Ag(P:Program)(t:TypeId)(s:aS X.Γ):PE X.Γ->Option (PV X.Γ×lZ)
 |.loc k off=>match s.loc[k]? with
  |some cs=>(GI P t cs off).map fun v=>(v,xq (.l k))
  |none=>none
 |.val (.ptr b off lim)=>match s.heap[b]?,dG P t with
  |some (.cells cs),some n=>if off+n<=lim then(GI P t cs off).map fun v=>(v,xq (.h b))else none
  |some (.aF cs),some n=>if off+n<=lim then(GI P t cs off).map fun v=>(v,cZ)else none
  |_,_=>none
 |.val (.row b j off)=>match s.heap[b]? with
  |some (.list _ _ e l)=>(GI P t (X.enc e (l.getD j (X.d0 e))) off).map fun v=>(v,xq (.h b))
  |_=>none
 |.val (.el e a off)=>(GI P t (X.enc e a) off).map fun v=>(v,cZ)
 |_=>none
def Ue(P:Program)(t:TypeId)(s:aS X.Γ)(a:PE X.Γ)(v:PV X.Γ):Option (aS X.Γ×lZ):=
 match dG P t with
 |some n=>
  if v.cells.length=n∧v.cells.all Zb=true then
   match a with
   |.loc k off=>match s.loc[k]? with
    |some cs=>(Oc cs off v.cells).map fun cs'=>({ s with loc:=s.loc.set k cs' },pq (.l k))
    |none=>none
   |.val (.ptr b off lim)=>if off+n<=lim then(match s.heap[b]? with
    |some (.cells cs)=>(Oc cs off v.cells).map fun cs'=>({ s with heap:=s.heap.set b (.cells cs') },pq (.h b))
    |_=>none)else none
   |.val (.row b j off)=>match s.heap[b]? with
    |some (.list k ex e l)=>match Oc (X.enc e (l.getD j (X.d0 e))) off v.cells with
     |some cs=>match a9j X s.heap e cs with
      |some (x,is)=>if is.contains b then none else some ({ s with heap:=aZ is (s.heap.set b (.list k ex e (l.set j x))) },pq (.h b))
      |none=>none
     |none=>none
    |_=>none
   |_=>none
  else none
 |none=>none
def ahT:PE X.Γ->aS X.Γ->Option Nat
 |.val (.el e a _),_=>some (X.enc e a).length
 |.val (.row b j _),s=>match s.heap[b]? with
  |some (.list _ _ e l)=>some (X.enc e (l.getD j (X.d0 e))).length
  |_=>none
 |_,_=>none
def GN(s:aS X.Γ)(o:Nat):PE X.Γ->Option (PE X.Γ)
 |.loc k off=>some (.loc k (off+o))
 |.val (.ptr b off lim)=>match s.heap[b]? with
  |some (.cells _)=>if off+o<=lim then some (.val (.ptr b (off+o) lim))else none
  |some (.aF _)=>if off+o<=lim then some (.val (.ptr b (off+o) lim))else none
  |_=>none
 |.val (.el e a off)=>if off+o<=(X.enc e a).length then some (.val (.el e a (off+o)))else none
 |.val (.row b j off)=>match ahT X (.val (.row b j off)) s with
  |some n=>if off+o<=n then some (.val (.row b j (off+o)))else none
  |none=>none
 |_=>none
def fK(i:Int)(n:Nat):Prop:=0<=i∧i<(n:Int)
def a2M(n:Nat):PV X.Γ->Option Nat
 |.int _ i=>if 0<=i∧i<n then some i.toNat else none
 |_=>none
def FK(P:Program)(t:TypeId)(s:aS X.Γ)(x:PE X.Γ)(i:PV X.Γ):Option (PE X.Γ×List Prop):=
 match P.underlying t with
 |some (.slice e)=>match dG P e,x,i with
  |some n,.val (.dD t' l _),.int _ iv=>if t'=e then some (.val (.el t' (l.getD iv.toNat (X.d0 t')) 0),[fK iv l.length])else none
  |some n,.val (.own b),.int _ iv=>match s.heap[b]? with
   |some (.list _ _ t' l)=>if t'=e then some (.val (.row b iv.toNat 0),[fK iv l.length])else none
   |_=>none
  |some n,.val (.win b o m),.int _ iv=>match s.heap[b]? with
   |some (.list _ _ t' l)=>if t'=e then some (.val (.row b (o+iv.toNat) 0),[fK iv m])else none
   |_=>none
  |some n,.val (.slc b off len cap sz _),i=>match s.heap[b]? with
   |some (.cells _)=>if n=sz then(a2M X len i).map fun j=>(.val (.ptr b (off+j*n) (off+cap*n)),[])else none
   |_=>none
  |_,_,_=>none
 |some (.array len e)=>match dG P e with
  |some n=>match a2M X len i with
   |some j=>(GN X s (j*n) x).map fun a=>(a,[])
   |none=>none
  |none=>none
 |_=>none
def adY(P:Program)(at_:Array TypeId)(H:List (PB X.Γ))(x:PV X.Γ):Option (PV X.Γ×lZ):=
 match at_[0]? with
 |some t=>match P.underlying t,x with
  |some .string,.str s=>some (.int .i64 s.size,cZ)
  |some (.array n _),_=>some (.int .i64 n,cZ)
  |some (.slice _),.slc b _ len _ _ _=>match H[b]? with
   |some (.cells _)=>some (.int .i64 len,cZ)
   |_=>none
  |some (.slice _),.nil .slc=>some (.int .i64 0,cZ)
  |some (.slice _),.dD _ l _=>some (.int .i64 (l.length:Nat),cZ)
  |some (.slice _),.own b=>match H[b]? with
   |some (.list _ _ _ l)=>some (.int .i64 (l.length:Nat),cZ)
   |_=>none
  |some (.slice _),.win b _ n=>match H[b]? with
   |some (.list _ _ _ _)=>some (.int .i64 n,cZ)
   |_=>none
  |some (.map _ _),.nil .map=>some (.int .i64 0,cZ)
  |some (.map _ _),.map r=>match H[r]? with
   |some (.map es)=>some (.int .i64 es.length,xq (.h r))
   |_=>none
  |_,_=>none
 |none=>none
def ah:Nat:=2^20
def CX:PV X.Γ->List Key
 |.slc b _ _ _ _ _=>[.h b]
 |.own b=>[.h b]
 |.win b _ _=>[.h b]
 |_=>[]
def Uf(P:Program)(at_:Array TypeId)(H:List (PB X.Γ))(d x:PV X.Γ):Option (PV X.Γ×List (PB X.Γ)×lZ×List Prop):=
 match at_[0]?,at_[1]? with
 |some st,some xt=>
  if TK P xt||(P.underlying xt).isNone then none else
  match jG P st with
  |some (e,size)=>if tY P e ah then match Af X H e size x with
   |some (rows,is)=>match d with
    |.nil .slc=>some (.own H.length,aZ is H++[.list true false e rows],iq (CX X x),[rows.length<=ah])
    |.own b=>match H[b]? with
     |some (.list k ex t l)=>if is.contains b then none else match CW e t l with
      |some l=>some (.own H.length,aZ (b::is) H++[.list (k&&ex) false e (l++rows)],⟨false,.h b::CX X x,[.h b]⟩,[l.length+rows.length<=ah])
      |none=>none
     |_=>none
    |.dD t l true=>match CW e t l with
     |some l=>some (.own H.length,aZ is H++[.list true false e (l++rows)],iq (CX X x),[l.length+rows.length<=ah,l=[]∨rows≠[]])
     |none=>none
    |_=>none
   |none=>none
   else none
  |none=>none
 |_,_=>none
def Og{α:Type}(l:List α)(o k:Nat)(rows:List α):List α:=l.take o++rows.take k++l.drop (o+k)
def Ez(e:Nat):List (X.Γ e)->List (PV X.Γ)
 | []=>[]
 |a::l=>X.enc e a++Ez e l
def a5w(P:Program)(at_:Array TypeId)(H:List (PB X.Γ))(d x:PV X.Γ):Option (PV X.Γ×List (PB X.Γ)×lZ):=
 match at_[0]? with
 |some st=>match jG P st with
  |some (e,size)=>match Af X H e size x with
   |some (rows,[])=>match d with
    |.nil .slc=>some (.int .i64 0,H,iq (CX X x))
    |.own b=>match H[b]? with
     |some (.list k ex t l)=>match CW e t l with
      |some l=>some (.int .i64 ((min rows.length l.length:Nat):Int),H.set b (.list k ex e (Og l 0 (min rows.length l.length) rows)),⟨false,.h b::CX X x,[.h b]⟩)
      |none=>none
     |_=>none
    |.win b o n=>match H[b]? with
     |some (.list k ex t l)=>match CW e t l with
      |some l=>some (.int .i64 ((min rows.length n:Nat):Int),H.set b (.list k ex e (Og l o (min rows.length n) rows)),⟨false,.h b::CX X x,[.h b]⟩)
      |none=>none
     |_=>none
    |.slc b off len _ sz _=>match H[b]? with
     |some (.cells cs)=>if sz=size∧0<min rows.length len then(Oc cs off ((Ez X e rows).take (min rows.length len*size))).map fun cs'=>(.int .i64 ((min rows.length len:Nat):Int),H.set b (.cells cs'),⟨false,.h b::CX X x,[.h b]⟩)else none
     |_=>none
    |_=>none
   |_=>none
  |none=>none
 |none=>none
def xZ(P:Program)(t:TypeId)(len:Nat)(H:List (PB X.Γ))(ps:List (Nat×PV X.Γ))(raw:Bool):Option (PV X.Γ×List (PB X.Γ)):=
 match jG P t with
 |some (e,n)=>if len*n<=2^24∧ps.all (fun p=>p.2.cells.all Zb)=true then
   match RF P e with
   |some z=>if z.length=n then
     match Oe (fun i=>some (i*n,n)) (Ze z len) ps with
     |some cs=>match(if raw=true then none else xY X H e n len cs)with
      |some (rows,is)=>some (.own H.length,aZ is H++[.list true true e rows])
      |none=>some (.slc H.length 0 len len n true,H++[.cells cs])
     |none=>none
    else none
   |none=>none
  else none
 |none=>none
def FM(P:Program)(t:TypeId)(H:List (PB X.Γ))(l c:PV X.Γ):Option (PV X.Γ×List (PB X.Γ)×List Prop):=
 match jG P t,l,c with
 |some (e,n),.int _ l,.int _ c=>if tY P e ah then
   match RF P e with
   |some z=>if z.length=n then
     match X.dec e z with
     |some a=>some (.own H.length,H++[.list true true e (List.replicate l.toNat a)],[l=c,0<=l,l<=ah])
     |none=>none
    else none
   |none=>none
  else none
 |_,_,_=>none
def yY(d:Nat):Option (PV X.Γ)->Option Int
 |none=>some d
 |some (.int _ i)=>some i
 |some _=>none
def Zf(P:Program)(t:TypeId)(H:List (PB X.Γ))(x:PV X.Γ)(lo hi mx:Option (PV X.Γ)):Option (PV X.Γ×List Prop):=
 match P.underlying t,x with
 |some (.slice e),.dD t' l fu=>match dG P e,yY X 0 lo,yY X l.length hi,mx with
  |some _,some a,some b,none=>if t'=e then some (.dD t' ((l.take b.toNat).drop a.toNat) false,[0<=a,a<=b,b<=l.length])else none
  |some _,some a,some b,some (.int _ m)=>if t'=e∧hi.isSome then(if fu=true then some (.dD t' l true,[a=0,b=l.length,m=b])else some (.dD t' ((l.take b.toNat).drop a.toNat) true,[0<=a,a<=b,b<=l.length,m=b,a=b]))else none
  |_,_,_,_=>none
 |some (.slice e),.own i=>match H[i]? with
  |some (.list _ _ t' l)=>match dG P e,yY X 0 lo,yY X l.length hi,mx with
   |some _,some a,some b,none=>if t'=e then some (.win i a.toNat (b.toNat-a.toNat),[0<=a,a<=b,b<=l.length])else none
   |some _,some a,some b,some (.int _ m)=>if t'=e∧hi.isSome then some (.win i a.toNat (b.toNat-a.toNat),[0<=a,a<=b,b<=l.length,m=b,a=b])else none
   |_,_,_,_=>none
  |_=>none
 |some (.slice e),.nil .slc=>match dG P e,yY X 0 lo,yY X 0 hi,mx with
  |some _,some a,some b,none=>some (.nil .slc,[a=0,b=0])
  |some _,some a,some b,some (.int _ m)=>if hi.isSome then some (.nil .slc,[a=0,b=0,m=0])else none
  |_,_,_,_=>none
 |_,_=>none
def IZ(P:Program)(t:TypeId)(H:List (PB X.Γ))(x:PE X.Γ)(lo hi mx:Option (PV X.Γ)):Option (PV X.Γ×List (PB X.Γ)×List Prop):=
 match P.underlying t,x with
 |some (.array n e),.val (.ptr b off lim)=>match dG P e with
  |some size=>
   if size=0∨lim<off+n*size∨2^24<n then none else
   match mx with
   |some _=>none
   |none=>match lo,hi with
    |none,none=>match H[b]? with
     |some (.cells _)=>some (.slc b off n n size true,H,[])
     |_=>none
    |lo,hi=>match H[b]?,yY X 0 lo,yY X n hi with
     |some (.cells cs),some a,some z=>if cs.length<off+n*size then none else match xY X H e size n (cs.drop off)with
      |some (rows,is)=>some (.dD e ((rows.take z.toNat).drop a.toNat) false,aZ (b::is) H,[0<=a,a<=z,z<=n])
      |none=>none
     |_,_,_=>none
  |none=>none
 |_,_=>none
def FN(P:Program)(t:TypeId)(H:List (PB X.Γ))(x:PE X.Γ)(lo hi:Option (PV X.Γ)):Option (PV X.Γ):=
 match P.underlying t,x with
 |some (.array n e),.val (.ptr b off lim)=>match dG P e,H[b]?,yY X 0 lo,yY X n hi with
  |some size,some (.cells _),some a,some z=>if size=0∨lim<off+n*size∨2^24<n then none else if 0<=a∧a<=z∧z<=n then some (.slc b (off+a.toNat*size) (z.toNat-a.toNat) (n-a.toNat) size true)else none
  |_,_,_,_=>none
 |_,_=>none
def a0W(P:Program)(t:TypeId)(x y:PV X.Γ):Bool:=
 let abL:PV X.Γ->Option NK
  |.fn _ _ _=>some .fn
  |.el _ _ _=>some .ptr
  |_=>none
 let ahU:PV X.Γ->Option NK
  |.nil k=>some k
  |_=>none
 match JQ P t with
 |some k=>(ahU x==some k&&abL y==some k)||(abL x==some k&&ahU y==some k)
 |none=>false
def adZ(P:Program)(op:BinOp)(t:TypeId)(x y:Operand)(a b:PV X.Γ):Option (PV X.Γ):=
 match qg a,qg b with
 |some u,some v=>match sF P op t x y u v with
  |some r=>Yt r
  |none=>none
 |_,_=>if a0W X P t a b then(match op with
  |.eql=>some (.bool false)
  |.neq=>some (.bool true)
  |_=>none)else none
def LX(P:Program)(op:BinOp)(t:TypeId)(b:PV X.Γ)(q:Prop):Option (PV X.Γ×Prop):=
 match b,JQ P t with
 |.nil .slc,some .slc=>match op with
  |.eql=>some (.bool false,q)
  |.neq=>some (.bool true,q)
  |_=>none
 |_,_=>none
def Ug(P:Program)(op:BinOp)(t:TypeId)(H:List (PB X.Γ))(a b:PV X.Γ):Option (PV X.Γ×Prop):=
 match a with
 |.dD _ l _=>LX X P op t b (l≠[])
 |.own i=>match H[i]? with
  |some (.list _ _ _ l)=>LX X P op t b (l≠[])
  |_=>none
 |_=>none
def pun(P:Program)(op:UnOp)(a:PV X.Γ):Option (PV X.Γ):=
 match qg a with
 |some u=>match unT P op u with
  |some r=>Yt r
  |none=>none
 |none=>none
def a5x(P:Program)(src dst:TypeId)(a:PV X.Γ):Option (PV X.Γ):=
 match qg a with
 |some u=>match QF P src dst u with
  |some r=>Yt r
  |none=>none
 |none=>match P.underlying src,P.underlying dst,a with
  |_,_,_=>none
def LY(P:Program)(mx:Bool)(at_:Array TypeId)(t:TypeId)(az:List (PV X.Γ)):Option (PV X.Γ):=
 match Ud az with
 |some us=>match DU P mx at_ t us with
  |some r=>Yt r
  |none=>none
 |none=>none
def Zg(P:Program)(t:TypeId)(x:PV X.Γ)(i:Nat):Option (PV X.Γ):=
 match P.underlying t,x with
 |some (.struct fs),.agg cs=>match fs[i]? with
  |some f=>GI P f.type cs f.offset
  |none=>none
 |_,_=>none
def Zh(P:Program)(t:TypeId)(x i:PV X.Γ):Option (PV X.Γ):=
 match P.underlying t,x with
 |some (.array len e),.agg cs=>match dG P e,a2M X len i with
  |some n,some j=>GI P e cs (j*n)
  |_,_=>none
 |_,_=>none
def uY:List (PV X.Γ×PV X.Γ)->Option (List TV)
 | []=>some []
 |(k,_)::r=>match qg k,uY r with
  |some v,some vs=>some (v::vs)
  |_,_=>none
def uZ(P:Program)(kt:TypeId)(k:Value)(ks:List TV):Option (Option Nat):=
 match BI ks with
 |some ks=>match aB P (do Instr.checkKey ks.isEmpty 10000 kt k;Instr.findKey kt k (ks.map fun x=>⟨x,.bool false,0⟩))with
  |some r=>if VB P kt k ks (r.map (·.1))then some (r.map (·.1))else none
  |none=>none
 |none=>none
end
end Pv
namespace Tw
open Go
abbrev Uh(k:IntKind)(x y:Int):Int:=k.wrap (x.tdiv y)
abbrev Oh(_k:IntKind)(x y:Int):Int:=x.tmod y
abbrev ahV(k:IntKind)(x y:Int):Int:=k.wrap (x*2^(min y.toNat k.bits))
abbrev ahW(k:IntKind)(x y:Int):Int:=x.fdiv (2^(min y.toNat k.bits))
end Tw

namespace Tw
open Go
section
variable {P:Program}
theorem y9(d:Nat)(t:TypeId)(xs ys:Array Value)(fs:Array Field)(ht:P.underlying t=some (.struct fs))(hp:P.stoodInHeld t=false) :
  aB P (Op.equalIn (d+1) t (.agg xs) (.agg ys))=aB P (Op.eqFields d xs ys fs.toList):=by
 have hu:aB P (underlying t)=some (.struct fs):=by
  simp only[underlying,bI];have:aB P program=some P:=rfl;simp[this,ht,aB];rfl
 simp only[Op.equalIn,bI,hu,a4p,show aB P program=some P from rfl,hp,a2V,a3U];rw[<-Array.forIn_toList];generalize fs.toList=fs;clear ht hu
 induction fs with
 |nil=>simp[Op.eqFields,aB,bI];rfl
 |cons f fs ih=>
  simp only[List.forIn_cons,Op.eqFields,bI]at ih ⊢;split
  .simp only[bI];generalize aB P (part f.type xs f.offset)=r1;cases r1 with
   |none=>simp
   |some a=>
    simp only[a4p];generalize aB P (part f.type ys f.offset)=r2;cases r2 with
    |none=>simp
    |some b=>
     simp only[a4p];generalize aB P (Op.equalIn d f.type a b)=r3;cases r3 with
     |none=>simp
     |some r=>
      cases r with
      |false=>simp only[a4p,abt,a2y];rfl
      |true=>simp only[a4p,a8N,a2V,a3U];exact ih
  .exact ih
theorem qW(d:Nat)(t:TypeId)(k k':IntKind)(a b:Int)(h:P.underlying t=some (.int k')):aB P (Op.equalIn (d+1) t (.int k a) (.int k b))=some (a==b):=by
 have hu:aB P (underlying t)=some (.int k'):=by
  simp only[underlying,bI,show aB P program=some P from rfl,a4p,h];rfl
 simp only[Op.equalIn,bI,hu,a4p,a2y];rfl
theorem oC {d : Nat} {xs ys : Array Value} {f : Field} {fs : List Field} {a b : Value} {r : Bool} (hn : f.name ≠ "_") (ha : aB P (part f.type xs f.offset) = some a) (hb : aB P (part f.type ys f.offset) = some b)
  (hr:aB P (Op.equalIn d f.type a b)=some r):aB P (Op.eqFields d xs ys (f::fs))=if r=true then aB P (Op.eqFields d xs ys fs)else some false:=by
 simp only[Op.eqFields];rw[a0q hn];simp only[bI,ha,hb,hr,a4p];cases r with
 |true=>rfl
 |false=>rfl
theorem GR{t:TypeId}{x y:Operand}{xs ys:List TV}{us vs:List Value}{r:Bool}(hx:TV.TF xs=some us)(hy:TV.TF ys=some vs)(hg:P.eqGuardType P.depth t=false)
  {d:Nat} (hd:d=10000) (h:aB P (Op.equalIn d t (.agg us.toArray) (.agg vs.toArray))=some r):sF P .eql t x y (.agg xs) (.agg ys)=some (.bool r)∧sF P .neq t x y (.agg xs) (.agg ys)=some (.bool (!r)):=by
 subst hd;constructor
 all_goals
  simp only[sF,TV.yx,hx,hy,a1b];simp only[eqGuard,binOp,Op.equal,Op.maxDepth,bI,show aB P program=some P from rfl,hg,a4p,a8N,abt,a2V,a3U,a2y,h];rfl
theorem a5y{t:TypeId}{x y:Operand}{k k':IntKind}{a b:Int}(h:0<=b):sF P .shl t x y (.int k a) (.int k' b)=some (.int k (ahV k a b)):=by
 simp only[sF,TV.yx,TV.toC,eqGuard,binOp,Op.shift];rw[a0p (show ¬b<0 by omega)];rfl
theorem a5z{t:TypeId}{x y:Operand}{k k':IntKind}{a b:Int}(h:0<=b):sF P .shr t x y (.int k a) (.int k' b)=some (.int k (ahW k a b)):=by
 simp only[sF,TV.yx,TV.toC,eqGuard,binOp,Op.shift];rw[a0p (show ¬b<0 by omega)];rfl
theorem a5A{t:TypeId}{x y:Operand}{k:IntKind}{a b:Int}(h:b≠0):sF P .quo t x y (.int k a) (.int k b)=some (.int k (Uh k a b)):=by
 simp only[sF,TV.yx,TV.toC,eqGuard,binOp,Op.intDiv];rw[a0p h];cases k<;>rfl
theorem a5B{t:TypeId}{x y:Operand}{k:IntKind}{a b:Int}(h:b≠0):sF P .rem t x y (.int k a) (.int k b)=some (.int k (Oh k a b)):=by
 simp only[sF,TV.yx,TV.toC,eqGuard,binOp,Op.intDiv];rw[a0p h];cases k<;>rfl
end
end Tw
namespace Pv
open Go Tw
def wJ:List Nat->Nat->Option Nat
 | [],_=>none
 |a::l,i=>if a=i then some 0 else(wJ l i).map (·+1)
inductive G where
 |lit
 |GU (t e:Nat)
 |Oi (k off e:Nat)
 |Ui (i off e:Nat)
 |flag (i:Nat)
 |gc (ks:List Nat)
 |mv (i:Nat)
 |fz (i:Nat)
section
variable {Γ:Nat->Type}
def fQ(g:Nat->Option Nat):PV Γ->Option (PV Γ)
 |.ptr b off lim=>(g b).map fun b=>.ptr b off lim
 |.slc b off len cap sz ex=>(g b).map fun b=>.slc b off len cap sz ex
 |.own b=>(g b).map .own
 |.win b o n=>(g b).map fun b=>.win b o n
 |.map r=>(g r).map .map
 |.iter r=>(g r).map .iter
 |.fn f a c=>match oZ g a,oZ g c with
  |some a,some c=>some (.fn f a c)
  |_,_=>none
 |.kW l=>(g l).map .kW
 |.agg cs=>(oZ g cs).map .agg
 |.dF cs=>(oZ g cs).map .dF
 |.row b j off=>(g b).map fun b=>.row b j off
 |.bool b=>some (.bool b)
 |.lit b=>some (.lit b)
 |.int k n=>some (.int k n)
 |.str s=>some (.str s)
 |.nil k=>some (.nil k)
 |.dD t l f=>some (.dD t l f)
 |.el t a off=>some (.el t a off)
where
 oZ (g:Nat->Option Nat):List (PV Γ)->Option (List (PV Γ))
 | []=>some []
 |c::cs=>match fQ g c,oZ g cs with
  |some v,some vs=>some (v::vs)
  |_,_=>none
def Oj(g:Nat->Option Nat):PE Γ->Option (PE Γ)
 |.val v=>(fQ g v).map .val
 |.ent r j v=>(g r).map fun r=>.ent r j v
 |.Et r j=>(g r).map fun r=>.Et r j
 |e=>some e
def oW(g:Nat->Option Nat):List (Nat×PE Γ)->Option (List (Nat×PE Γ))
 | []=>some []
 |(k,v)::r=>match Oj g v,oW g r with
  |some v,some r=>some ((k,v)::r)
  |_,_=>none
def WC(g:Nat->Option Nat):List (List (PV Γ))->Option (List (List (PV Γ)))
 | []=>some []
 |l::r=>match fQ.oZ g l,WC g r with
  |some l,some r=>some (l::r)
  |_,_=>none
def yZ(g:Nat->Option Nat):PB Γ->Option (PB Γ)
 |.cells cs=>(fQ.oZ g cs).map .cells
 |.aF cs=>(fQ.oZ g cs).map .aF
 |.map es=>some (.map es)
 |.dn r n seen=>(g r).map fun r=>.dn r n seen
 |.loop rd f nt env ps a b jI=>(oW g env).map fun env=>.loop rd f nt env ps a b jI
 |b=>some b
def nM(g:Nat->Option Nat):List (PB Γ)->Option (List (PB Γ))
 | []=>some []
 |b::r=>match yZ g b,nM g r with
  |some b,some r=>some (b::r)
  |_,_=>none
def CY(H:List (PB Γ)):List Nat->Option (List (PB Γ))
 | []=>some []
 |i::is=>match H[i]?,CY H is with
  |some b,some r=>some (b::r)
  |_,_=>none
def a9k:List (Nat×PE Γ)->List (Nat×PE Γ)
 | []=>[]
 |(k,.val v)::r=>(k,.val (a0U v))::a9k r
 |x::r=>x::a9k r
def GU(t i:Nat):List (Nat×PE Γ)->Option (List (Nat×PE Γ))
 | []=>none
 |(k,v)::r=>if k=t then(match v with
   |.val (.nil .slc)=>some ((k,.val (.own i))::r)
   |_=>none)else(GU t i r).map ((k,v)::·)
def a9l(off i:Nat)(cs:List (PV Γ)):Option (List (PV Γ)):=
 match cs[off]? with
 |some (.nil .slc)=>some (cs.set off (.own i))
 |_=>none
def fzV(H:List (PB Γ))(i:Nat)(v:PV Γ):Option (PV Γ):=match(kL v).contains i with
 |false=>some v
 |true=>match(kL v).all fun j=>Nat.beq j i with
  |true=>view H v
  |false=>none
def a5C(H:List (PB Γ))(i:Nat):List (PV Γ)->Option (List (PV Γ))
 | []=>some []
 |v::vs=>match fzV H i v,a5C H i vs with
  |some w,some ws=>some (w::ws)
  |_,_=>none
def fzE(H:List (PB Γ))(i:Nat):List (Nat×PE Γ)->Option (List (Nat×PE Γ))
 | []=>some []
 |(k,.val v)::r=>match fzV H i v,fzE H i r with
  |some w,some ws=>some ((k,.val w)::ws)
  |_,_=>none
 |(_,.ent _ _ _)::_|(_,.Et _ _)::_=>none
 |e::r=>(fzE H i r).map (e::·)
def fzL(H:List (PB Γ))(i:Nat):List (List (PV Γ))->Option (List (List (PV Γ)))
 | []=>some []
 |c::r=>match a5C H i c,fzL H i r with
  |some w,some ws=>some (w::ws)
  |_,_=>none
def Bv(B:Nat)(s:aS Γ):G->Option (aS Γ)
 |.lit=>some { s with env:=a9k s.env }
 |.GU t e=>(GU t s.heap.length s.env).map fun env=>{ s with env:=env,heap:=s.heap++[.list false false e []] }
 |.Oi k off e=>match s.loc[k]? with
  |some cs=>(a9l off s.heap.length cs).map fun cs=>{ s with loc:=s.loc.set k cs,heap:=s.heap++[.list false false e []] }
  |none=>none
 |.Ui i off e=>match s.heap[i]? with
  |some (.cells cs)=>(a9l off s.heap.length cs).map fun cs=>{ s with heap:=s.heap.set i (.cells cs)++[.list false false e []] }
  |_=>none
 |.flag i=>match s.heap[i]? with
  |some (.list _ _ t l)=>some { s with heap:=s.heap.set i (.list false false t l) }
  |_=>none
 |.gc ks=>if ks.all (fun k=>decide (B<=k))&&decide ks.Nodup&&decide (B<=s.heap.length)then
   let g:Nat->Option Nat:=fun i=>if i<B then some i else(wJ ks i).map (·+B)
   match oW g s.env,WC g s.loc,nM g (s.heap.take B),CY s.heap ks with
   |some env,some loc,some h1,some h2=>match nM g h2 with
    |some h2=>some ⟨env,loc,h1++h2⟩
    |none=>none
   |_,_,_,_=>none
  else none
 |.fz i=>match fzE s.heap i s.env,fzL s.heap i s.loc with
  |some env,some loc=>some ⟨env,loc,aZ [i] s.heap⟩
  |_,_=>none
 |.mv i=>match s.heap[i]? with
  |some b=>
   let g:Nat->Option Nat:=fun j=>if j=i then some s.heap.length else if j<s.heap.length then some j else none
   match oW g s.env,WC g s.loc,nM g (s.heap.set i .gone),yZ g b with
   |some env,some loc,some h1,some b1=>some ⟨env,loc,h1++[b1]⟩
   |_,_,_,_=>none
  |none=>none
def kT(B:Nat):List G->aS Γ->Option (aS Γ)
 | [],s=>some s
 |g::gs,s=>match Bv B s g with
  |some s=>kT B gs s
  |none=>none
end
def anN:BinOp->Bool
 |.quo|.rem|.shl|.shr=>true
 |_=>false
def ae0{Γ:Nat->Type}(op:BinOp):PV Γ->PV Γ->Option (PV Γ×List Prop)
 |.int k x,.int k' y=>match op with
  |.quo=>if k'=k then some (.int k (Uh k x y),[y≠0])else none
  |.rem=>if k'=k then some (.int k (Oh k x y),[y≠0])else none
  |.shl=>some (.int k (ahV k x y),[0<=y])
  |.shr=>some (.int k (ahW k x y),[0<=y])
  |_=>none
 |_,_=>none
def putAt{α:Type}:List Nat->List α->List α->List α
 |k::ks,b::bs,l=>putAt ks bs (l.set k b)
 |_,_,l=>l
def bk(ks:List Nat)(n:Nat):Nat->Option Nat:=fun j=>match ks[j]? with
 |some k=>some k
 |none=>some (n+(j-ks.length))
def roB{Γ:Nat->Type}:List Nat->List (PB Γ)->List (PB Γ)->Option (List (PB Γ)×List (PB Γ))
 | [],H,H1=>some (H,H1)
 |r::rs,H,H1=>match H[r]?,H1[r]? with
  |some (.cells a),some (.cells b)=>roB rs (H.set r (.aF a)) (H1.set r (.aF b))
  |some (.map a),some (.map b)=>roB rs (H.set r (.iG a)) (H1.set r (.iG b))
  |_,_=>none
def J3{Γ:Nat->Type}:List (PB Γ)->Bool
 | []=>true
 |.aF _::_=>false
 |.iG _::_=>false
 |_::H=>J3 H
def a2N{α:Type}(rs:List Nat):Nat->List α->List α
 |_,[]=>[]
 |i,k::ks=>if rs.contains i then a2N rs (i+1) ks else k::a2N rs (i+1) ks
inductive PA(Γ:Nat->Type) where
 |br (b:Bool)
 |rd (v:TV)
 |ix (j:Nat)
 |no
 |call (v:PV Γ) (H:List (PB Γ))
 |fr (ks:List Nat) (v:PV Γ) (H:List (PB Γ))
 |Qq (ks rs:List Nat) (v:PV Γ) (H:List (PB Γ))
 |loop (e:Ex) (s:aS Γ)
 |lg (gs:List G) (e:Ex) (s:aS Γ)
 |calm
inductive PT(Γ:Nat->Type) where
 |n
 |a (x:PA Γ) (r:PT Γ)
 |s (t e:PT Γ)
 |z (c:Bool) (t e:PT Γ)
 |l (m:Nat) (r:PT Γ)
inductive OT(ρ:Type) where
 |bad
 |ret (r:ρ)
 |o (p:Prop) (r:OT ρ)
 |br (c:Bool) (t e:OT ρ)
def OT.Ends{ρ:Type}:OT ρ->ρ->Prop
 |.bad,_=>False
 |.ret r,x=>r=x
 |.o p r,x=>p∧r.Ends x
 |.br c t e,x=>(c=true∧t.Ends x)∨(c=false∧e.Ends x)
def owe{ρ:Type}:List Prop->OT ρ->OT ρ
 | [],x=>x
 |p::ps,x=>.o p (owe ps x)
abbrev fA(Γ:Nat->Type):=FuncId->List (PV Γ)->Option (PV Γ×List (PB Γ)×List Prop)
structure PI where
 i:lZ
 wall:Bool
 mv:Bool
 hp:Bool
def xG:PI:=⟨cZ,false,false,false⟩
def Uj{Γ:Nat->Type}:PE Γ->Bool
 |.loc _ _=>true
 |_=>false
def qX{Γ:Nat->Type}:PB Γ->Bool
 |.gone=>true
 |_=>false
def zf{Γ:Nat->Type}:List (PB Γ)->List (PB Γ)->Bool
 | [],_=>true
 |b::H,b'::H'=>(qX b==qX b')&&zf H H'
 |_::_,[]=>false
def ae1{Γ:Nat->Type}:PV Γ->Bool
 |.agg _=>true
 |_=>false
def Zi{Γ:Nat->Type}:PV Γ->Bool
 |.str _=>true
 |_=>false
section
variable (X:kR) (P:Program) (T:qH) (fP:fA X.Γ) {ρ:Type}
def byB(u:PV X.Γ)(an:PT X.Γ)(k:Bool->PT X.Γ->OT ρ):OT ρ:=
 match u with
 |.lit t=>k t an
 |.bool u=>match an with
  |.s x y=>.br u (k true x) (k false y)
  |.a (.br t) r=>.o (u=t) (k t r)
  |_=>.bad
 |_=>.bad
def Ku(H:List (PB X.Γ))(r:Nat):Option (List (PV X.Γ×PV X.Γ)):=
 match H[r]? with
 |some (.map es)=>some es
 |some (.iG es)=>some es
 |_=>none
def a5D(H:List (PB X.Γ)):PV X.Γ->Option (List (PV X.Γ×PV X.Γ))
 |.nil .map=>some []
 |.map r=>Ku X H r
 |_=>none
def RG:PV X.Γ->List Key
 |.map r=>[.h r]
 |_=>[]
def qp(kt:TypeId)(es:List (PV X.Γ×PV X.Γ))(tk:TV)(v:PV X.Γ):Prop:=∃kv ks j k0,tk.yx=some kv∧uY X es=some ks∧uZ P kt kv ks=some (some j)∧es[j]? = some (k0,v)
def nN(kt:TypeId)(es:List (PV X.Γ×PV X.Γ))(tk:TV):Prop:=∃kv ks,tk.yx=some kv∧uY X es=some ks∧uZ P kt kv ks=some none
def ahX(kt:TypeId)(es:List (PV X.Γ×PV X.Γ))(tk:TV)(k v:PV X.Γ):Prop:=∃kv ks j old ov,tk.yx=some kv∧aB P (Instr.checkKey false 10000 kt kv)=some ()∧uY X es=some ks∧uZ P kt kv ks=some (some j)∧es[j]? = some (k,v)∧ks[j]? = some old∧old.yx=some ov∧Instr.sameBits 10000 ov kv=true
def Ol(e:TypeId):Option (PV X.Γ):=match P.info? e with
 |some i=>match i.zero with
  |some z=>match TV.Vw z with
   |some z=>Yt z
   |none=>none
  |none=>none
 |none=>none
def Zj(t:TypeId)(s:aS X.Γ)(m k:PV X.Γ)(ok:Bool)(an:PT X.Γ)(c:PE X.Γ->PI->PT X.Γ->OT ρ):OT ρ:=
 match P.underlying t,qg k,a5D X s.heap m with
 |some (.map kt e),some tk,some es=>match an with
  |.a (.call v _) r=>.o (qp X P kt es tk v) (c (.val (if ok then .dF [v,.bool true]else v)) ⟨iq (RG X m),false,false,true⟩ r)
  |.a .calm r=>match Ol X P e with
   |some z=>.o (nN X P kt es tk) (c (.val (if ok then .dF [z,.bool false]else z)) ⟨iq (RG X m),false,false,true⟩ r)
   |none=>.bad
  |.a (.rd _) r=>match Ol X P e with
   |some z=>.o (nN X P kt es tk) (c (.val (if ok then .dF [z,.bool false]else z)) ⟨iq (RG X m),false,false,true⟩ r)
   |none=>.bad
  |an=>match tk.yx,uY X es with
   |some kv,some ks=>match an with
    |.a (.ix j) r=>match es[j]? with
     |some (_,v)=>.o (uZ P kt kv ks=some (some j)) (c (.val (if ok then .dF [v,.bool true]else v)) ⟨iq (RG X m),false,false,true⟩ r)
     |none=>.bad
    |.a .no r=>match Ol X P e with
     |some z=>.o (uZ P kt kv ks=some none) (c (.val (if ok then .dF [z,.bool false]else z)) ⟨iq (RG X m),false,false,true⟩ r)
     |none=>.bad
    |_=>.bad
   |_,_=>.bad
 |_,_,_=>.bad
def a5E(t:TypeId)(s:aS X.Γ)(m k v:PV X.Γ)(an:PT X.Γ)(c:aS X.Γ->PI->PT X.Γ->OT ρ):OT ρ:=
 match P.underlying t,qg k,m,qg v with
 |some (.map kt _),some tk,.map r,some _=>match s.heap[r]? with
  |some (.map es)=>match an with
   |.a .calm rest=>.o (∃kv,tk.yx=some kv∧aB P (Instr.checkKey false 10000 kt kv)=some ()) (.o (nN X P kt es tk) (c { s with heap:=s.heap.set r (.map (es++[(k,v)])) } ⟨pq (.h r),false,false,true⟩ rest))
   |.a (.rd _) rest=>.o (∃kv,tk.yx=some kv∧aB P (Instr.checkKey false 10000 kt kv)=some ()) (.o (nN X P kt es tk) (c { s with heap:=s.heap.set r (.map (es++[(k,v)])) } ⟨pq (.h r),false,false,true⟩ rest))
   |.a (.call _ _) rest=>.o (ahX X P kt es tk k v) (c s ⟨pq (.h r),false,false,true⟩ rest)
   |an=>match tk.yx,uY X es with
    |some kv,some ks=>match an with
     |.a (.ix j) rest=>match es[j]?,ks[j]? with
      |some _,some old=>match old.yx with
       |some ov=>.o (aB P (Instr.checkKey false 10000 kt kv)=some ()) (.o (uZ P kt kv ks=some (some j)) (.o (Instr.sameBits 10000 ov kv=true) (c { s with heap:=s.heap.set r (.map (es.set j (k,v))) } ⟨pq (.h r),false,false,true⟩ rest)))
       |none=>.bad
      |_,_=>.bad
     |.a .no rest=>.o (aB P (Instr.checkKey false 10000 kt kv)=some ()) (.o (uZ P kt kv ks=some none) (c { s with heap:=s.heap.set r (.map (es++[(k,v)])) } ⟨pq (.h r),false,false,true⟩ rest))
     |_=>.bad
    |_,_=>.bad
  |_=>.bad
 |_,_,_,_=>.bad
def a5F(kt:TypeId)(es:List (PV X.Γ×PV X.Γ))(tk:TV)(k v:PV X.Γ)(j:Nat):Prop:=∃kv ks old ov,tk.yx=some kv∧aB P (Instr.checkKey false 10000 kt kv)=some ()∧uY X es=some ks∧uZ P kt kv ks=some (some j)∧es[j]? = some (k,v)∧ks[j]? = some old∧old.yx=some ov∧Instr.sameBits 10000 ov kv=true
def ae2(kt:TypeId)(es:List (PV X.Γ×PV X.Γ))(tk:TV)(j:Nat):Prop:=∃kv ks,tk.yx=some kv∧uY X es=some ks∧uZ P kt kv ks=some (some j)
def J4{Γ:Nat->Type}(es:List (PV Γ×PV Γ))(j:Nat)(v:PV Γ):List (PV Γ×PV Γ):=es.modify j fun e=>(e.1,v)
def a5G(t:TypeId)(s:aS X.Γ)(m k:PV X.Γ)(an:PT X.Γ)(c:PE X.Γ->aS X.Γ->PI->PT X.Γ->OT ρ):OT ρ:=
 match P.underlying t,qg k,m with
 |some (.map kt e),some tk,.map r=>match s.heap[r]? with
  |some (.map es)=>match an with
   |.a (.call v _) (.a (.ix j) rest)=>match v with
    |.int a x=>.o (a5F X P kt es tk k (.int a x) j) (c (.ent r j (.int a x)) s ⟨pq (.h r),false,false,true⟩ rest)
    |_=>.bad
   |.a .calm rest=>match Ol X P e with
    |some (.int a x)=>.o (∃kv,tk.yx=some kv∧aB P (Instr.checkKey false 10000 kt kv)=some ()) (.o (nN X P kt es tk) (.o (ae2 X P kt (es++[(k,.int a x)]) tk es.length) (c (.ent r es.length (.int a x)) { s with heap:=s.heap.set r (.map (es++[(k,.int a x)])) } ⟨pq (.h r),false,false,true⟩ rest)))
    |_=>.bad
   |_=>.bad
  |_=>.bad
 |_,_,_=>.bad
def a5H(s:aS X.Γ)(m:PV X.Γ)(e:PE X.Γ)(v:PV X.Γ)(c:aS X.Γ->PI->OT ρ):OT ρ:=
 match m,e,qg v with
 |.map r,.Et r' j,some _=>if r=r' then match s.heap[r]? with
  |some (.map es)=>.o (j<es.length) (c { s with heap:=s.heap.set r (.map (J4 es j v)) } ⟨pq (.h r),false,false,true⟩)
  |_=>.bad
  else .bad
 |_,_,_=>.bad
abbrev a2O(Γ:Nat->Type):=PV Γ->List (PV Γ)->List (PB Γ)->PV Γ->List (PB Γ)->Prop
def a5I(RH:a2O X.Γ)(s:aS X.Γ)(fv:PV X.Γ)(xs:List (PV X.Γ))(an:PT X.Γ)(k:PE X.Γ->aS X.Γ->PI->PT X.Γ->OT ρ):OT ρ:=
 match an with
 |.a (.call v H) r=>.o (RH fv xs s.heap v H) (k (.val v) { s with heap:=H } ⟨⟨true,[],[]⟩,true,false,true⟩ r)
 |.a (.fr ks v H) r=>match decide ks.Nodup&&J3 (H.drop ks.length),CY s.heap ks with
  |true,some Hp=>match nM (wJ ks) Hp,fQ (wJ ks) fv,fQ.oZ (wJ ks) xs with
   |some Hs,some fv1,some xs1=>match fQ (bk ks s.heap.length) v,nM (bk ks s.heap.length) H with
    |some v1,some H1=>.o (RH fv1 xs1 Hs v H) (k (.val v1) { s with heap:=putAt ks H1 s.heap++H1.drop ks.length } ⟨⟨true,[],ks.map .h⟩,false,false,true⟩ r)
    |_,_=>.bad
   |_,_,_=>.bad
  |_,_=>.bad
 |.a (.Qq ks rs v H) r=>match decide ks.Nodup&&J3 (H.drop ks.length),CY s.heap ks with
  |true,some Hp=>match nM (wJ ks) Hp,fQ (wJ ks) fv,fQ.oZ (wJ ks) xs with
   |some Hs,some fv1,some xs1=>match fQ (bk ks s.heap.length) v,nM (bk ks s.heap.length) H,roB rs Hs H with
    |some v1,some H1,some (Hs',H')=>.o (RH fv1 xs1 Hs' v H') (k (.val v1) { s with heap:=putAt ks H1 s.heap++H1.drop ks.length } ⟨⟨true,[],(a2N rs 0 ks).map .h⟩,false,false,true⟩ r)
    |_,_,_=>.bad
   |_,_,_=>.bad
  |_,_=>.bad
 |an=>match fv with
  |.fn f first cap=>match views s.heap (first++xs++cap)with
   |some vs=>match fP f vs with
    |some (v,ext,ps)=>match qV X s.heap.length ext with
     |some ext'=>owe ps (k (.val (shift s.heap.length v)) { s with heap:=(if xE v||ext.any (hasB X)then aZ (kL.jY (first++xs++cap)) s.heap else s.heap)++ext' } ⟨⟨true,[],[]⟩,false,false,true⟩ an)
     |none=>.bad
    |none=>.bad
   |none=>.bad
  |_=>.bad
def ae3(RH:a2O X.Γ)(site:Nat->Bool)(s:aS X.Γ)(o:Oper)(an:PT X.Γ)(k:PE X.Γ->aS X.Γ->PI->PT X.Γ->OT ρ):OT ρ:=
 match o.op with
 |.move x|.assign x=>match FH s.env x with
  |some v=>k v s xG an
  |none=>.bad
 |.pick c a b=>match a0V s.env c with
  |some u=>byB X u an fun t an=>match FH s.env (if t then a else b)with
   |some v=>k v (s.BL c t) xG an
   |none=>.bad
  |none=>.bad
 |.alloc e=>match RF P e with
  |some z=>match E8 (site (o.dst.getD 0)) s z with
   |(v,s)=>k v s xG an
  |none=>.bad
 |.box _ x=>match zS s.env x with
  |some v=>if v.cells.all Zb then(match E8 (site (o.dst.getD 0)) s v.cells with
   |(v,s)=>k v s xG an)else .bad
  |none=>.bad
 |.build t ps=>match a2L s.env ps.toList with
  |some ps=>match Zd P t ps with
   |some v=>k (.val v) s xG an
   |none=>.bad
  |none=>.bad
 |.buildSlice t len ps=>match a2L s.env ps.toList with
  |some ps=>match an with
   |.a (.Qq [] _ _ _) r=>match xZ X P t len s.heap ps true with
    |some (v,H)=>k (.val v) { s with heap:=H } xG r
    |none=>.bad
   |an=>match xZ X P t len s.heap ps false with
    |some (v,H)=>k (.val v) { s with heap:=H } xG an
    |none=>.bad
  |none=>.bad
 |.load t a=>match FH s.env a with
  |some a=>match Ag X P t s a with
   |some (v,i)=>k (.val v) s ⟨i,false,false,!Uj a⟩ an
   |none=>.bad
  |none=>.bad
 |.store t a x=>match FH s.env a,zS s.env x with
  |some a,some v=>match Ue X P t s a v with
   |some (s,i)=>k .undef s ⟨i,false,false,!Uj a⟩ an
   |none=>.bad
  |_,_=>.bad
 |.nilCheck x=>match FH s.env x with
  |some (.loc a b)=>k (.loc a b) s xG an
  |some (.val (.ptr a b c))=>match s.heap[a]? with
   |some (.cells _)=>k (.val (.ptr a b c)) s xG an
   |some (.aF _)=>k (.val (.ptr a b c)) s xG an
   |_=>.bad
  |some (.val (.row a b c))=>match s.heap[a]? with
   |some (.list _ _ _ _)=>k (.val (.row a b c)) s xG an
   |_=>.bad
  |some (.val (.el a b c))=>k (.val (.el a b c)) s xG an
  |some (.val (.fn a b c))=>k (.val (.fn a b c)) s xG an
  |_=>.bad
 |.binOp op t x y _=>match zS s.env x,zS s.env y with
  |some a,some b=>if anN op then(match ae0 op a b with
    |some (v,ps)=>owe ps (k (.val v) s xG an)
    |none=>.bad)
   else match Ug X P op t s.heap a b with
   |some (v,q)=>.o q (k (.val v) s xG an)
   |none=>if ae1 a||Zi a then(match an with
    |.a (.rd w) r=>match Yt w,qg a,qg b with
     |some v,some ta,some tb=>.o (sF P op t x y ta tb=some w) (k (.val v) s xG r)
     |_,_,_=>.bad
    |_=>.bad)
   else match adZ X P op t x y a b with
    |some v=>k (.val v) s xG an
    |none=>.bad
  |_,_=>.bad
 |.unOp op _ x=>match zS s.env x with
  |some a=>match pun X P op a with
   |some v=>k (.val v) s xG an
   |none=>.bad
  |none=>.bad
 |.convert src dst x=>match zS s.env x with
  |some a=>if Zi a then(match an with
    |.a (.rd w) r=>match Yt w,qg a with
     |some v,some ta=>.o (QF P src dst ta=some w) (k (.val v) s xG r)
     |_,_=>.bad
    |_=>.bad)
   else match a5x X P src dst a with
    |some v=>k (.val v) s xG an
    |none=>.bad
  |none=>.bad
 |.makeFunc (.func f) first cap=>match Zc s.env first.toList,Zc s.env cap.toList with
  |some a,some b=>k (.val (.fn f a b)) s xG an
  |_,_=>.bad
 |.makeMap t r=>match Ob s.env r,P.underlying t with
  |some none,_=>k (.val (.map s.heap.length)) { s with heap:=s.heap++[.map []] } xG an
  |some (some (.int _ _)),some (.map _ _)=>k (.val (.map s.heap.length)) { s with heap:=s.heap++[.map []] } xG an
  |_,_=>.bad
 |.makeSlice t l c=>match zS s.env l,zS s.env c with
  |some l,some c=>match FM X P t s.heap l c with
   |some (v,H,ps)=>owe ps (k (.val v) { s with heap:=H } xG an)
   |none=>.bad
  |_,_=>.bad
 |.slice t x lo hi mx=>match FH s.env x,Ob s.env lo,Ob s.env hi,Ob s.env mx with
  |some x,some lo,some hi,some mx=>match P.underlying t with
   |some (.array _ _)=>match an with
    |.a .no r=>match mx,FN X P t s.heap x lo hi with
     |none,some v=>k (.val v) s xG r
     |_,_=>.bad
    |an=>match IZ X P t s.heap x lo hi mx with
     |some (v,H,ps)=>owe ps (k (.val v) { s with heap:=H } xG an)
     |none=>.bad
   |_=>match x with
    |.val (.str b)=>(match an with
     |.a (.rd w) r=>match Yt w,(match lo with|none=>some none|some v=>(qg v).map some),(match hi with|none=>some none|some v=>(qg v).map some)with
      |some v,some tl,some th=>if mx.isNone then .o (qN P t (.str b) tl th none=some w) (k (.val v) s xG r)else .bad
      |_,_,_=>.bad
     |_=>.bad)
    |.val x=>match Zf X P t s.heap x lo hi mx with
     |some (v,ps)=>owe ps (k (.val v) s xG an)
     |none=>.bad
    |_=>.bad
  |_,_,_,_=>.bad
 |.fieldAddr t x f=>match FH s.env x,Gf P t f with
  |some a,some n=>match GN X s n a with
   |some v=>k v s xG an
   |none=>.bad
  |_,_=>.bad
 |.field t x f=>match zS s.env x with
  |some a=>match Zg X P t a f with
   |some v=>k (.val v) s xG an
   |none=>.bad
  |none=>.bad
 |.indexAddr t x i=>match FH s.env x,zS s.env i with
  |some a,some i=>match FK X P t s a i with
   |some (v,ps)=>owe ps (k v s xG an)
   |none=>.bad
  |_,_=>.bad
 |.index t x i=>match zS s.env x,zS s.env i with
  |some a,some i=>if Zi a then(match an with
    |.a (.rd w) r=>match Yt w,qg a,qg i with
     |some v,some ta,some ti=>.o (IC P t ta ti=some w) (k (.val v) s xG r)
     |_,_,_=>.bad
    |_=>.bad)
   else match Zh X P t a i with
    |some v=>k (.val v) s xG an
    |none=>.bad
  |_,_=>.bad
 |.lookup t m i ok=>match zS s.env m,zS s.env i with
  |some m,some i=>Zj X P t s m i ok an fun v q an=>k v s q an
  |_,_=>.bad
 |.mapUpdate t m i x|.insert t m i x=>match zS s.env m,zS s.env i,zS s.env x with
  |some m,some i,some v=>a5E X P t s m i v an fun s q an=>k .undef s q an
  |_,_,_=>.bad
 |.mapEntry t m i=>match zS s.env m,zS s.env i with
  |some m,some i=>a5G X P t s m i an k
  |_,_=>.bad
 |.entryStore _ m e x=>match zS s.env m,FH s.env e,zS s.env x with
  |some m,some e,some v=>a5H X s m e v fun s q=>k .undef s q an
  |_,_,_=>.bad
 |.extract t i=>match FH s.env t with
  |some (.val (.dF vs))=>match vs[i]? with
   |some v=>k (.val v) s xG an
   |none=>.bad
  |some (.ent r j v)=>match i with
   | 0=>k (.val v) s xG an
   | 1=>k (.Et r j) s xG an
   |_=>.bad
  |_=>.bad
 |.call c=>match Zc s.env c.args.toList with
  |some az=>match c.callee with
   |.builtin .len=>match az with
    | [x]=>match adY X P c.argTypes s.heap x with
     |some (v,i)=>k (.val v) s ⟨i,false,false,true⟩ an
     |none=>.bad
    |_=>.bad
   |.builtin .append=>match az with
    | [d,x]=>match Uf X P c.argTypes s.heap d x with
     |some (v,H,i,ps)=>owe ps (k (.val v) { s with heap:=H } ⟨i,false,false,true⟩ an)
     |none=>.bad
    |_=>.bad
   |.builtin .copy=>match az with
    | [d,x]=>match a5w X P c.argTypes s.heap d x with
     |some (v,H,i)=>k (.val v) { s with heap:=H } ⟨i,false,false,true⟩ an
     |none=>.bad
    |_=>.bad
   |.builtin .min=>match LY X P false c.argTypes o.type az with
    |some v=>k (.val v) s xG an
    |none=>.bad
   |.builtin .max=>match LY X P true c.argTypes o.type az with
    |some v=>k (.val v) s xG an
    |none=>.bad
   |.value f=>match zS s.env f with
    |some fv=>a5I X fP RH s fv az an k
    |none=>.bad
   |_=>.bad
  |none=>.bad
 |.range t x=>match zS s.env x,P.underlying t with
  |some (.map r),some (.map _ _)=>match Ku X s.heap r with
   |some es=>k (.val (.iter s.heap.length)) { s with heap:=s.heap++[.dn r es.length []] } ⟨iq [.h r],false,false,true⟩ an
   |_=>.bad
  |_,_=>.bad
 |.entry x=>match zS s.env x with
  |some (.iter b)=>match s.heap[b]? with
   |some (.dn r n (i::_))=>match Ku X s.heap r with
    |some es=>match an with
     |.a (.call (.dF [kk,vv]) _) rest=>.o (es.length=n∧es[i]? = some (kk,vv)) (k (.val (.dF [kk,vv])) s ⟨iq [.h b,.h r],false,false,true⟩ rest)
     |an=>if es.length=n then(match es[i]? with
      |some e=>k (.val (.dF [e.1,e.2])) s ⟨iq [.h b,.h r],false,false,true⟩ an
      |none=>.bad)else .bad
    |_=>.bad
   |_=>.bad
  |_=>.bad
 |_=>.bad
def Zk(ops:Array Oper)(s:aS X.Γ)(o:Oper)(an:PT X.Γ)(k:Bool->aS X.Γ->PT X.Γ->OT ρ):OT ρ:=
 match o.guard with
 |none=>k true s an
 |some (j,want)=>match(ops[j]?).bind (·.dst)with
  |some d=>match ET d s.env with
   |some (.val b)=>byB X b an fun t an=>k (t==want) (s.BL (.tmp d) t) an
   |some .undef=>k false s an
   |_=>.bad
  |none=>.bad
def Zl(a b:PI):Bool:=
 (a.i.ws.all fun k=>!(b.i.all&&k.isH)&&!b.i.ts.contains k&&!b.i.ws.contains k&&!(b.wall&&k.isH)) &&
 (!a.wall||(!b.i.all&&!b.wall&&b.i.ts.all (fun k=>!k.isH)&&b.i.ws.all (fun k=>!k.isH)))
def a0X(a b:PI):Bool:=Zl a b&&Zl b a
def Uk(xu:List PI):List (Nat×Nat)->Bool
 | []=>true
 |(i,j)::r=>(match xu[i]?,xu[j]? with
  |some a,some b=>a0X a b&&(!a.hp||!b.hp||!((xu.drop i).take (j-i)).any (·.mv))
  |_,_=>false)&&Uk xu r
def WE(RH:a2O X.Γ)(site:Nat->Bool)(nt:Nat)(ops:Array Oper):List Oper->aS X.Γ->PT X.Γ->(aS X.Γ->List PI->PT X.Γ->OT ρ)->OT ρ
 | [],s,an,k=>k s [] an
 |o::os,s,an,k=>if !Nc nt o then .bad else Zk X ops s o an fun w s an=>match w with
  |true=>ae3 X P fP RH site s o an fun v s1 i an=>WE RH site nt ops os (s1.put o.dst v) an fun s' is an=>k s' (⟨i.i,i.wall,!zf s.heap s1.heap,i.hp⟩::is) an
  |false=>WE RH site nt ops os (s.put o.dst .undef) an fun s' is an=>k s' (xG::is) an
def Ul:List (Nat×PE X.Γ)->Nat
 | []=>0
 |(_,.loc k _)::r=>max (k+1) (Ul r)
 |_::r=>Ul r
def gU(live:List Nat)(s:aS X.Γ):aS X.Γ:=
 let env:=jd live s.env
 { s with env:=env,loc:=s.loc.take (Ul X env) }
def Um(step:aS X.Γ->PT X.Γ->(Ex->aS X.Γ->PT X.Γ->OT ρ)->OT ρ):Nat->aS X.Γ->PT X.Γ->(Ex->aS X.Γ->PT X.Γ->OT ρ)->OT ρ
 | 0,_,_,_=>.bad
 |m+1,s,an,k=>step s an fun e s an=>match e with
  |.norm=>Um step m s an k
  |e=>k e s an
abbrev a0Y(Γ:Nat->Type):=Code->aS Γ->Ex->aS Γ->Prop
def yG(lo:a0Y X.Γ)(B:Nat)(c:Code)(s:aS X.Γ)(k:Ex->aS X.Γ->PT X.Γ->OT ρ):PT X.Γ->OT ρ
 |.a (.loop e s') r=>.o (lo c s e s') (k e s' r)
 |.a (.lg gs e s') r=>match kT B gs s with
  |some s0=>.o (lo c s0 e s') (k e s' r)
  |none=>.bad
 |.z c' a b=>.br c' (yG lo B c s k a) (yG lo B c s k b)
 |_=>.bad
def jM(RH:a2O X.Γ)(lo:a0Y X.Γ)(B:Nat)(L:Nat)(f:Nat)(gY:Bool)(nt:Nat):Code->aS X.Γ->PT X.Γ->(Ex->aS X.Γ->PT X.Γ->OT ρ)->OT ρ
 |.skip,s,an,k=>k .norm s an
 |.label _,s,an,k=>k .norm s an
 |.region id ops draw,s,an,k=>WE X P fP RH (fun d=>gY||T.TM f d) nt ops ops.toList s an fun s' xu an=>
  match draw with
  |false=>k .norm { s' with env:=jd (T.iD f id) s'.env } an
  |true=>match an with
   |.a .calm r=>if xu.all (fun i=>i.i.ws.isEmpty&&!i.wall)then .o (nI ops.toList=true) (k .norm { s' with env:=jd (T.iD f id) s'.env } r)else .bad
   |an=>if nI ops.toList&&Uk xu (mV ops.toList)then k .norm { s' with env:=jd (T.iD f id) s'.env } an else .bad
 |.seq a b,s,an,k=>jM RH lo B L f gY nt a s an fun e s an=>match e with
  |.norm=>jM RH lo B L f gY nt b s an k
  |e=>k e s an
 |.cond c a b,s,an,k=>match a0V s.env c with
  |some u=>byB X u an fun t an=>match t with
   |true=>jM RH lo B L f gY nt a (s.BL c true) an k
   |false=>jM RH lo B L f gY nt b (s.BL c false) an k
  |none=>.bad
 |.block id b,s,an,k=>jM RH lo B L f gY nt b s an fun e s an=>match e with
  |.exit i=>k (if i=id then .norm else .exit i) s an
  |e=>k e s an
 |.scope b,s,an,k=>jM RH lo B L f gY nt b s an k
 |.loop b,s,an,k=>match an with
  |.l m r=>.o (m<=L) (Um X (fun s an k=>jM RH lo B L f gY nt b (gU X (T.eP f (dU b)) s) an k) m s r k)
  |an=>yG X lo B (.loop b) s k an
 |.exit id,s,an,k=>k (.exit id) s an
 |.ret,s,an,k=>k .ret s an
 |.rangeFunc g ps uI body,s,an,k=>yG X lo B (.rangeFunc g ps uI body) s k an
 |_,_,_,_=>.bad
def ai0(s:aS X.Γ):ResultVar->Option (PV X.Γ)
 |.tmp t=>match ET t s.env with
  |some (.val v)=>some (a0U v)
  |_=>none
 |.cell a t=>match ET a s.env with
  |some a=>(Ag X P t s a).map (·.1)
  |none=>none
def EU(s:aS X.Γ):List ResultVar->Option (List (PV X.Γ))
 | []=>some []
 |r::rs=>match ai0 X P s r,EU s rs with
  |some v,some vs=>some (v::vs)
  |_,_=>none
def Zm:List (PV X.Γ)->PV X.Γ
 | [v]=>v
 |vs=>.dF vs
def lu:Nat->List (PV X.Γ)->List (Nat×PE X.Γ)
 |_,[]=>[]
 |k,v::vs=>(k,.val v)::lu (k+1) vs
def CZ(RH:a2O X.Γ)(lo:a0Y X.Γ)(L:Nat)(f:Nat)(args:List (PV X.Γ))(H:List (PB X.Γ))(an:PT X.Γ):OT (PV X.Γ×List (PB X.Γ)):=
 match(if(T.exts.contains f||T.dem.contains f)=true then none else TL P f)with
 |some t=>jM X P T fP RH lo H.length L f false t.nt t.body ⟨lu X 0 args,[],H⟩ an fun e s an=>match e,an with
  |.exit _,_=>.bad
  |_,.n=>match EU X P s t.results with
   |some vs=>.ret (Zm X vs,s.heap)
   |none=>.bad
  |_,_=>.bad
 |none=>.bad
end
inductive MB where
 |gy (b:Nat)
 |ji (b:Nat)
 |dD (x:TV)
 |gone
def MB.own:MB->Option Nat
 |.gy b=>some b
 |.dD (.slc b _ len _ _ _)=>if len=0 then none else some b
 |_=>none
def bD(m:List MB):List Nat:=m.filterMap MB.own
def bC{Γ:Nat->Type}:PV Γ->Option Nat
 |.ptr b _ _=>some b
 |.slc b _ _ _ _ _=>some b
 |.own b=>some b
 |.win b _ _=>some b
 |.map b=>some b
 |.iter b=>some b
 |.kW b=>some b
 |.row b _ _=>some b
 |_=>none
def roV{Γ:Nat->Type}(c:Nat):PV Γ->Option TV
 |.ptr _ off lim=>some (.ptr c off lim)
 |.slc _ off len cap sz ex=>some (.slc c off len cap sz ex)
 |.map _=>some (.map c)
 |.iter _=>some (.iter c)
 |.kW _=>some (.kW c)
 |_=>none
inductive D5{Γ:Nat->Type}(v:PV Γ)(x:TV):Option MB->Prop where
 |g:D5 v x (some .gone)
 |r (c):roV c v=some x->D5 v x (some (.ji c))
theorem D5.of{Γ:Nat->Type}{v:PV Γ}{x:TV}{o:Option MB}(e:o=some .gone):D5 v x o:=by subst e;exact .g
theorem D5.as{Γ:Nat->Type}{v w:PV Γ}{x:TV}{o:Option MB}(h:D5 v x o)(e:∀c,roV c w=roV c v):D5 w x o:=by
 cases h with
 |g=>exact .g
 |r c h=>exact .r c ((e c).trans h)
theorem D5.ofR{Γ:Nat->Type}{v:PV Γ}{x:TV}{o:Option MB}{c:Nat}(e:o=some (.ji c))(h:roV c v=some x):D5 v x o:=by subst e;exact .r c h
section
variable (X:kR) (P:Program)
inductive VR(A:Nat->Prop)(m:List MB)(h:List HB):PV X.Γ->TV->Prop where
 |bool (b):VR A m h (.bool b) (.bool b)
 |lit (b):VR A m h (.lit b) (.bool b)
 |int (k n):VR A m h (.int k n) (.int k n)
 |str (s):VR A m h (.str s) (.str s)
 |nil (k):VR A m h (.nil k) (.nil k)
 |ptr {b c off lim}:m[b]? = some (.gy c)->VR A m h (.ptr b off lim) (.ptr c off lim)
 |slc {b c off len cap sz ex}:m[b]? = some (.gy c)->VR A m h (.slc b off len cap sz ex) (.slc c off len cap sz ex)
 |own {i x}:m[i]? = some (.dD x)->iU x=true->VR A m h (.own i) x
 |win {i o n c off len cap cap' sz ex ex'}:m[i]? = some (.dD (.slc c off len cap sz ex))->o+n<=len->n<=cap'->(n=0∨o+cap'=cap)->VR A m h (.win i o n) (.slc c (off+o*sz) n cap' sz ex')
 |Ah {i}:m[i]? = some (.dD (.nil .slc))->VR A m h (.win i 0 0) (.nil .slc)
 |map {r c}:m[r]? = some (.gy c)->VR A m h (.map r) (.map c)
 |iter {r c}:m[r]? = some (.gy c)->VR A m h (.iter r) (.iter c)
 |fn {f a a' c c'}:a.length=a'.length->(∀(i:Nat) x y,a[i]? = some x->a'[i]? = some y->VR A m h x y)->c.length=c'.length->(∀(i:Nat) x y,c[i]? = some x->c'[i]? = some y->VR A m h x y)->VR A m h (.fn f a c) (.fn f a' c')
 |kW {l c}:m[l]? = some (.gy c)->VR A m h (.kW l) (.kW c)
 |agg {cs cs'}:cs.length=cs'.length->(∀(i:Nat) x y,cs[i]? = some x->cs'[i]? = some y->VR A m h x y)->VR A m h (.agg cs) (.agg cs')
 |dF {cs cs'}:cs.length=cs'.length->(∀(i:Nat) x y,cs[i]? = some x->cs'[i]? = some y->VR A m h x y)->VR A m h (.dF cs) (.dF cs')
 |oD {t fu}:VR A m h (.dD t [] fu) (.nil .slc)
 |dD {t l fu b off cap sz ex cs}:A b->aW h b=some cs->(l≠[]->mg h b (off+cap*sz)=some cs)->dG P t=some sz->0<sz->off+l.length*sz<=cs.length->l.length<=cap->(fu=true->ex=true∧cap=l.length)->(∀(j:Nat) a,l[j]? = some a->(X.enc t a).length=sz) ->
   (∀(j:Nat) a (i:Nat) c v,l[j]? = some a->(X.enc t a)[i]? = some c->cs[off+j*sz+i]? = some v->VR A m h c v)->VR A m h (.dD t l fu) (.slc b off l.length cap sz ex)
 |el {t a off b o sz lim cs}:A b->mg h b lim=some cs->o+sz<=lim->o+sz<=cs.length->(X.enc t a).length=sz->off<=sz ->
   (∀(i:Nat) c v,(X.enc t a)[i]? = some c->cs[o+i]? = some v->VR A m h c v)->VR A m h (.el t a off) (.ptr b (o+off) lim)
 |row {i j off c len cap sz ex}:m[i]? = some (.dD (.slc c 0 len cap sz ex))->j<len->off<=sz->VR A m h (.row i j off) (.ptr c (j*sz+off) (cap*sz))
 |gone {v i x}:bC v=some i->D5 v x m[i]?->iU x=true->VR A m h v x
def bZ(A:Nat->Prop)(m:List MB)(h:List HB)(a:List (PV X.Γ))(b:List TV):Prop:=a.length=b.length∧∀(i:Nat) x y,a[i]? = some x->b[i]? = some y->VR X P A m h x y
def eF(A:Nat->Prop)(m:List MB)(h:List HB)(t:Nat)(l:List (X.Γ t))(cs:List TV)(off sz:Nat):Prop:=
 (∀(j:Nat) a,l[j]? = some a->(X.enc t a).length=sz)∧off+l.length*sz<=cs.length∧∀(j:Nat) a (i:Nat) c v,l[j]? = some a->(X.enc t a)[i]? = some c->cs[off+j*sz+i]? = some v->VR X P A m h c v
inductive LR(A:Nat->Prop)(m:List MB)(h:List HB)(k ex:Bool)(t:Nat):List (X.Γ t)->TV->Prop where
 |nil:LR A m h k ex t [] (.nil .slc)
 |emp {b off sz cs}:A b->aW h b=some cs->off<=cs.length->dG P t=some sz->0<sz->LR A m h k ex t [] (.slc b off 0 0 sz true)
 |some {l b sz e kk cs}:l≠[]->dG P t=some sz->0<sz->h[b]? = some (.cells kk cs)->kk≠.ro->(k=true->kk=.own)->(ex=true->e=true)->cs.length=l.length*sz->eF X P A m h t l cs 0 sz->LR A m h k ex t l (.slc b 0 l.length l.length sz e)
def Iy(A:Nat->Prop)(m:List MB)(h:List HB):PE X.Γ->EV->Prop
 |.val v,.val x=>VR X P A m h v x
 |.loc k o,.loc k' o'=>k=k'∧o=o'
 |.undef,.undef=>True
 |.ent r j v,.ent c j' x=>VR X P A m h (.map r) (.map c)∧j=j'∧qg v=some x
 |.Et r j,.Et c j'=>VR X P A m h (.map r) (.map c)∧j=j'
 |_,_=>False
inductive jV(A:Nat->Prop)(m:List MB)(h:List HB):List (Nat×PE X.Γ)->List (Nat×EV)->Prop where
 |nil:jV A m h [] []
 |cons {k v x r r'}:Iy X P A m h v x->jV A m h r r'->jV A m h ((k,v)::r) ((k,x)::r')
def BR(A:Nat->Prop)(m:List MB)(h:List HB):PB X.Γ->MB->Prop
 |.cells cs,.gy b=>∃cs',h[b]? = some (.cells .own cs')∧bZ X P A m h cs cs'
 |.aF cs,.ji b=>b∉bD m∧∃cs',h[b]? = some (.cells .own cs')∧bZ X P A m h cs cs'
 |.list k ex t l,.dD x=>LR X P A m h k ex t l x
 |.map es,.gy b=>∃gu,h[b]? = some (.map gu)∧es.length=gu.length∧∀(i:Nat) x y,es[i]? = some x->gu[i]? = some y->qg x.1=some y.1∧qg x.2=some y.2
 |.iG es,.ji b=>b∉bD m∧∃gu,h[b]? = some (.map gu)∧es.length=gu.length∧∀(i:Nat) x y,es[i]? = some x->gu[i]? = some y->qg x.1=some y.1∧qg x.2=some y.2
 |.mZ cs,.gy b=>∃cs',h[b]? = some (.mZ cs')∧Ud cs=some cs'
 |.mark,.gy b=>h[b]? = some .mark
 |.dn r n seen,.gy b=>∃c,h[b]? = some (.dn c n seen)∧(m[r]?).isSome=true∧∀c',(m[r]? = some (.gy c')∨m[r]? = some (.ji c'))->c'=c
 |.loop rd f nt env ps a c jI,.gy b=>∃env',h[b]? = some (.loop rd f nt env' ps a c jI)∧jV X P A m h env env'
 |.gone,.gone=>True
 |_,_=>False
def AA(A:Nat->Prop)(m:List MB):Nat->Prop:=fun b=>A b∧b∉bD m
structure HR(A:Nat->Prop)(m:List MB)(H:List (PB X.Γ))(h:List HB):Prop where
 len:m.length=H.length
 at_:∀(i:Nat) b,H[i]? = some b->∃mb,m[i]? = some mb∧BR X P (AA A m) m h b mb
 nodup:(bD m).Nodup
 up:∀b,h.length<=b->A b
 D6:∀b,b∈bD m->A b
end
structure Fr(m:List MB)(h:List HB)(m':List MB)(h':List HB):Prop where
 len:h.length<=h'.length
 same:∀b,b<h.length->b∉bD m->h'[b]? = h[b]?
 new:∀b,b∈bD m'->b∈bD m∨h.length<=b
 grow:∀b cs,aW h b=some cs->∃cs',aW h' b=some cs'∧cs.length<=cs'.length
def Up(m m':List MB):Prop:=∀(i:Nat) mb,m[i]? = some mb->m'[i]? = some mb∨m'[i]? = some .gone
theorem Fr.refl{m:List MB}{h:List HB}:Fr m h m h:=⟨a0w _,fun _ _ _=>rfl,fun _ hb=>.inl hb,fun _ cs hc=>⟨cs,hc,a0w _⟩⟩
theorem Up.refl{m:List MB}:Up m m:=fun _ _ h=>.inl h
theorem Fr.trans{m m' m'':List MB}{h h' h'':List HB}(a:Fr m h m' h')(b:Fr m' h' m'' h''):Fr m h m'' h'':=by
 refine⟨a4T a.len b.len,fun c hc hn=>?_,fun c hc=>?_,fun c cs hc=>?_⟩
 .rw[b.same c (by have:=a.len;omega) (fun hm=>?_),a.same c hc hn];rcases a.new c hm with h1|h1
  .exact hn h1
  omega
 .rcases b.new c hc with h1|h1
  .exact a.new c h1
  have:=a.len;exact .inr (by omega)
 obtain⟨cs',h1,h2⟩:=a.grow c cs hc;obtain⟨adV,h3,h4⟩:=b.grow c cs' h1;exact⟨adV,h3,by omega⟩
theorem Up.trans{m m' m'':List MB}(a:Up m m')(b:Up m' m''):Up m m'':=fun i mb hi=>by
 rcases a i mb hi with h|h
 .exact b i mb h
 .rcases b i _ h with h|h<;>exact .inr h
theorem gV{h:List HB}{b:Nat}{cs:List TV}(hc:aW h b=some cs):b<h.length:=by
 unfold aW at hc;split at hc
 .rename_i e;exact(a0d.1 e).1
 cases hc
theorem fV{h h':List HB}{b:Nat}(e:h'[b]? = h[b]?):aW h' b=aW h b:=by
 unfold aW;rw[e]
theorem yc{h h':List HB}{b lim:Nat}(e:h'[b]? = h[b]?):mg h' b lim=mg h b lim:=by
 unfold mg;rw[e]
theorem Ai{h:List HB}{b lim:Nat}{cs:List TV}(hc:mg h b lim=some cs):aW h b=some cs:=by
 obtain⟨k,h1,_⟩:=xO hc;unfold aW;rw[h1]
theorem a2P{h:List HB}{b lim:Nat}{cs:List TV}(hc:mg h b lim=some cs):b<h.length:=gV (Ai hc)
theorem wK{h:List HB}{b lim:Nat}{k:BK}{cs:List TV}(hc:h[b]? = some (.cells k cs))(hl:lim=cs.length):mg h b lim=some cs:=by
 unfold mg;simp[hc,hl]
theorem WG{h:List HB}{b off lim:Nat}{cs new:List TV}(hc:h[b]? = some (.cells .own cs)):TI h b off lim new=(vY cs off new).map fun cs'=>h.set b (.cells .own cs'):=by
 unfold TI;simp[hc,zU]
theorem a0Z{h:List HB}{b off lim:Nat}{k k':BK}{cs new:List TV}(hc:h[b]? = some (.cells k cs))(hk:zU k true=some k')(hl:lim=cs.length):TI h b off lim new=(vY cs off new).map fun cs'=>h.set b (.cells k' cs'):=by
 unfold TI;simp[hc,hl,hk]
theorem J5{k:BK}(h:k≠.ro):∃k',zU k true=some k'∧k'≠.ro∧(k=.own->k'=.own):=by
 cases k<;>simp_all [zU]
theorem wL{h:List HB}{b lim:Nat}{k:BK}{cs:List TV}(hc:h[b]? = some (.cells k cs))(hl:k≠.last):mg h b lim=some cs:=by
 unfold mg;simp[hc,hl]
section
variable {X:kR} {P:Program} {A:Nat->Prop} {m m':List MB} {h h':List HB}
theorem VR.step(hF:Fr m h m' h')(hU:Up m m'){v:PV X.Γ}{x:TV}(hv:VR X P (AA A m) m h v x):VR X P (AA A m') m' h' v x:=by
 have hA:∀b cs,AA A m b->aW h b=some cs->AA A m' b∧h'[b]? = h[b]?:=by
  intro b cs ha hc;have aQ:=gV hc;refine⟨⟨ha.1,fun hm=>?_⟩,hF.same b aQ ha.2⟩;rcases hF.new b hm with h1|h1
  .exact ha.2 h1
  omega
 induction hv with
 |bool=>exact .bool _
 |lit=>exact .lit _
 |int=>exact .int _ _
 |str=>exact .str _
 |nil=>exact .nil _
 |ptr e=>rcases hU _ _ e with e|e;exact .ptr e;exact .gone rfl (.of e) rfl
 |slc e=>rcases hU _ _ e with e|e;exact .slc e;exact .gone rfl (.of e) rfl
 |own e o=>rcases hU _ _ e with e|e;exact .own e o;exact .gone rfl (.of e) o
 |win e q q' q2=>rcases hU _ _ e with e|e;exact .win e q q' q2;exact .gone rfl (.of e) rfl
 |Ah e=>rcases hU _ _ e with e|e;exact .Ah e;exact .gone rfl (.of e) rfl
 |map e=>rcases hU _ _ e with e|e;exact .map e;exact .gone rfl (.of e) rfl
 |iter e=>rcases hU _ _ e with e|e;exact .iter e;exact .gone rfl (.of e) rfl
 |fn h1 _ h3 _ i2 i4=>exact .fn h1 i2 h3 i4
 |kW e=>rcases hU _ _ e with e|e;exact .kW e;exact .gone rfl (.of e) rfl
 |agg h1 _ i2=>exact .agg h1 i2
 |dF h1 _ i2=>exact .dF h1 i2
 |oD=>exact .oD
 |dD a c c2 s z o k f e _ ih=>obtain⟨a',c'⟩:=hA _ _ a c;exact .dD a' ((fV c').trans c) (fun hl=>(yc c').trans (c2 hl)) s z o k f e ih
 |el a c l o e q _ ih=>obtain⟨a',c'⟩:=hA _ _ a (Ai c);exact .el a' ((yc c').trans c) l o e q ih
 |row e j q=>rcases hU _ _ e with e|e;exact .row e j q;exact .gone rfl (.of e) rfl
 | @gone v i0 x i e o=>
  generalize hq:m[i0]? = q at e;cases e with
  |g=>rcases hU _ _ hq with e|e<;>exact .gone i (.of e) o
  |r c hv=>rcases hU _ _ hq with e|e;exact .gone i (.ofR e hv) o;exact .gone i (.of e) o
theorem bZ.step(hF:Fr m h m' h')(hU:Up m m'){v:List (PV X.Γ)}{x:List TV}(hv:bZ X P (AA A m) m h v x):bZ X P (AA A m') m' h' v x:=
 ⟨hv.1,fun i a b ha hb=>(hv.2 i a b ha hb).step hF hU⟩
theorem eF.step(hF:Fr m h m' h')(hU:Up m m'){t:Nat}{l:List (X.Γ t)}{cs:List TV}{off sz:Nat}(hv:eF X P (AA A m) m h t l cs off sz):eF X P (AA A m') m' h' t l cs off sz:=
 ⟨hv.1,hv.2.1,fun j a i c v h1 h2 h3=>(hv.2.2 j a i c v h1 h2 h3).step hF hU⟩
theorem Iy.step(hF:Fr m h m' h')(hU:Up m m'){v:PE X.Γ}{x:EV}(hv:Iy X P (AA A m) m h v x):Iy X P (AA A m') m' h' v x:=by
 cases v<;>cases x<;>first|exact VR.step hF hU hv|exact hv|exact⟨VR.step hF hU hv.1,hv.2⟩
theorem jV.step(hF:Fr m h m' h')(hU:Up m m'){v:List (Nat×PE X.Γ)}{x:List (Nat×EV)}(hv:jV X P (AA A m) m h v x):jV X P (AA A m') m' h' v x:=by
 induction hv with
 |nil=>exact .nil
 |cons h1 _ ih=>exact .cons (h1.step hF hU) ih
theorem BR.step(hF:Fr m h m' h')(hU:Up m m'){b:PB X.Γ}{mb:MB}(hs:∀c,mb.own=some c->h'[c]? = h[c]?)(hb:BR X P (AA A m) m h b mb):BR X P (AA A m') m' h' b mb:=by
 cases b with
 |cells cs=>
  cases mb with
  |gy b=>obtain⟨cs',h1,h2⟩:=hb;exact⟨cs',by rw[hs b rfl,h1],h2.step hF hU⟩
  |_=>exact hb.elim
 |aF cs=>
  cases mb with
  |ji b=>
   obtain⟨h0,cs',h1,h2⟩:=hb;have aQ:=(a0d.1 h1).1;refine⟨fun hm=>?_,cs',by rw[hF.same _ aQ h0,h1],h2.step hF hU⟩;rcases hF.new _ hm with g|g
   .exact h0 g
   omega
  |_=>exact hb.elim
 |list k ex t l=>
  cases mb with
  |dD x=>
   cases(hb:LR X P (AA A m) m h k ex t l x)with
   |nil=>exact LR.nil
   |emp h0 h1 h2 h3 h4=>
    have aQ:=gV h1;refine LR.emp ⟨h0.1,fun hm=>?_⟩ (by rw[fV (hF.same _ aQ h0.2),h1]) h2 h3 h4;rcases hF.new _ hm with g|g
    .exact h0.2 g
    omega
   |some h1 h2 h3 h4 h5 h6 h7 h8 h9=>
    have ho:=hs _ (by simp only[MB.own];rw[a0p (by simpa using h1)]);exact LR.some h1 h2 h3 (by rw[ho,h4]) h5 h6 h7 h8 (h9.step hF hU)
  |_=>exact hb.elim
 |map es=>
  cases mb with
  |gy b=>obtain⟨gu,h1,h2,h3⟩:=hb;exact⟨gu,by rw[hs b rfl,h1],h2,h3⟩
  |_=>exact hb.elim
 |mZ cs=>
  cases mb with
  |gy b=>obtain⟨gu,h1,h2⟩:=hb;exact⟨gu,by rw[hs b rfl,h1],h2⟩
  |_=>exact hb.elim
 |iG es=>
  cases mb with
  |ji b=>
   obtain⟨h0,gu,h1,h2⟩:=hb;have aQ:=(a0d.1 h1).1;refine⟨fun hm=>?_,gu,by rw[hF.same _ aQ h0,h1],h2⟩;rcases hF.new _ hm with g|g
   .exact h0 g
   omega
  |_=>exact hb.elim
 |dn r n seen=>
  cases mb with
  |gy b=>
   obtain⟨c,h1,h2,h3⟩:=hb;obtain⟨mb,h4⟩:=a5v.1 h2;refine⟨c,by rw[hs b rfl,h1],by rcases hU _ _ h4 with e|e<;>rw[e]<;>rfl,fun c' hc=>h3 c' ?_⟩;rcases hU _ _ h4 with e|e
   .rw[h4,<-e];exact hc
   rw[e]at hc;simp at hc
  |_=>exact hb.elim
 |mark=>
  cases mb with
  |gy b=>show h'[b]? = _;rw[hs b rfl];exact hb
  |_=>exact hb.elim
 |loop rd f nt env ps a c jI=>
  cases mb with
  |gy b=>obtain⟨e',h1,h2⟩:=hb;exact⟨e',by rw[hs b rfl,h1],h2.step hF hU⟩
  |_=>exact hb.elim
 |gone=>
  cases mb with
  |gone=>trivial
  |_=>exact hb.elim
theorem bf{i:Nat}{mb:MB}{b:Nat}(hi:m[i]? = some mb)(ho:mb.own=some b):b∈bD m:=
 a7d.2 ⟨mb,a4s hi,ho⟩
theorem iW(hn:(bD m).Nodup):∀{i j:Nat} {a b:MB} {c:Nat},m[i]? = some a->m[j]? = some b->a.own=some c->b.own=some c->i=j:=by
 unfold bD at hn
 induction m with
 |nil=>intro i j a b c h;simp at h
 |cons x r ih=>
  intro i j a b c hi hj ha hb;have hr:(r.filterMap MB.own).Nodup:=by
   simp only[a8Q]at hn;split at hn
   .exact hn
   exact(a4m.1 hn).2
  have hx:∀{k:Nat} {y:MB},r[k]? = some y->y.own=some c->x.own=some c->False:=by
   intro k y hk hy hxc;simp only[a8Q,hxc]at hn;exact(a4m.1 hn).1 (a7d.2 ⟨y,a4s hk,hy⟩)
  cases i with
  |zero=>
   cases j with
   |zero=>rfl
   |succ j=>
    simp only[a2Q,a03]at hi;subst hi;exact(hx (by simpa using hj) hb ha).elim
  |succ i=>
   cases j with
   |zero=>
    simp only[a2Q,a03]at hj;subst hj;exact(hx (by simpa using hi) ha hb).elim
   |succ j=>
    have:=ih hr (i:=i) (j:=j) (by simpa using hi) (by simpa using hj) ha hb;omega
end
end Pv
