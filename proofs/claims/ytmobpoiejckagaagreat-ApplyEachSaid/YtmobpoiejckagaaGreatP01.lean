/- Part 2 of a proof: What Op2 makes has, at any place, the cell that value.Op2 returns of the cells there; for two diagrams that fit, and an operation. -/
import Derived.Scope
import Derived.Maps.RangeRun
import Derived.Deep.Slices
import Derived.ChangeArms
import Derived.Carry
import Derived.Laws.StructEq
import Derived.Test.YtmobpoiejckagaaGreatP00
set_option linter.unusedVariables false
set_option linter.unusedSimpArgs false
set_option linter.unusedSectionVars false
noncomputable section
namespace Tw
open Go
structure iL(P:Program)(call:aY)(site:Nat->Bool)(nt:Nat)(ops:Array Oper)(M0:Mp)(h0:List HB)(w0:World)(S:Nat->St)(I:Nat->mg):Prop where
 base:wI M0 h0 w0
 step:∀j o,ops[j]? = some o->uo P call site h0.length nt ops o (S j) (I j) (S (j+1))
 ok:∀j,j<=ops.size->∃M a w,Rel M0 h0 w0 nt M (S j) a w
 fac:∀j o,ops[j]? = some o->∃M w M' w' v,S (j+1)=St.put { S (j+1)with env:=(S j).env } o.dst v∧Ext M (S j).get w M' (S (j+1)).get w' (I j).ws
 stat:nK ops.toList=true
 calm:∀x y a b,(x,y)∈oz ops.toList->ops[x]? = some a->ops[y]? = some b->Bd a b=true∨((∀k∈(I x).ws,¬oG (I y) k)∧(∀k∈(I y).ws,¬oG (I x) k))
theorem NT{P:Program}{call:aY}{site:Nat->Bool}{fl nt:Nat}{ops:Array Oper}:∀(os:List Oper) (s s':St) (is:List mg),l7 P call site fl nt ops os s=some (s',is) ->
  ∃(S:Nat->St) (I:Nat->mg),S 0=s∧S os.length=s'∧(∀j o,os[j]? = some o->uo P call site fl nt ops o (S j) (I j) (S (j+1)))∧∀j,j<os.length->is[j]? = some (I j)
 | [],s,s',is,h=>by
  simp only[l7,a05,a0t]at h;obtain⟨rfl,rfl⟩:=h;exact⟨fun _=>s,fun _=>cu,rfl,rfl,by simp,by simp⟩
 |o::os,s,s',is,h=>by
  obtain⟨i,s1,is',hS,hr,rfl⟩:=CB h;obtain⟨S,I,e1,e2,e3,e4⟩:=NT os s1 s' is' hr;refine⟨fun j=>match j with| 0=>s|j+1=>S j,fun j=>match j with| 0=>i|j+1=>I j,rfl,e2,?_,?_⟩
  .intro j o' ho;cases j with
   |zero=>simp at ho;subst ho;simp only[e1];exact hS
   |succ j=>exact e3 j o' (by simpa using ho)
  .intro j hj;cases j with
   |zero=>rfl
   |succ j=>simpa using e4 j (by simpa using hj)
theorem a5b{P:Program}{call:aY}{site:Nat->Bool}{nt:Nat}{ops:Array Oper}{M0:Mp}{h0:List HB}{w0:World}(hC:iD P call)(hB:wI M0 h0 w0){s s':St}{is:List mg}{M:Mp}{a:Act}{w:World}
  (h:l7 P call site h0.length nt ops ops.toList s=some (s',is)) (hR:Rel M0 h0 w0 nt M s a w) (hs:nK ops.toList=true) (hd:Bf is (mW ops.toList)=true) :
  ∃S I,S 0=s∧S ops.size=s'∧iL P call site nt ops M0 h0 w0 S I:=by
 obtain⟨S,I,e1,e2,e3,e4⟩:=NT _ _ _ _ h;have e3':∀j o,ops[j]? = some o->uo P call site h0.length nt ops o (S j) (I j) (S (j+1)):=fun j o ho=>e3 j o (by simpa using ho);have QF:∀j,j<=ops.size->∃M a w,Rel M0 h0 w0 nt M (S j) a w:=by
  intro j
  induction j with
  |zero=>intro _;exact⟨M,a,w,by rw[e1];exact hR⟩
  |succ j ih=>
   intro hj;obtain⟨M1,a1,w1,xG⟩:=ih (by omega);have ho:ops[j]? = some ops[j]:=a4c (by omega);obtain⟨x,w',vT⟩:=(GH hC xG (e3' j _ ho)).1;obtain⟨M',Fz⟩:=NQ hB xG (e3' j _ ho) vT;exact⟨M',_,w',Fz⟩
 refine⟨S,I,e1,by simpa using e2,hB,e3',QF,?_,hs,?_⟩
 .intro j o ho;have hj:j<ops.size:=(a2p.1 ho).1;obtain⟨M1,a1,w1,xG⟩:=QF j (by omega);obtain⟨x,w',v,M',he,hp⟩:=(GH hC xG (e3' j _ ho)).1;exact⟨M1,w1,M',w',v,he,hp.ext⟩
 .intro x y a b hp ha hb;have hx:x<ops.size:=(a2p.1 ha).1;have hy:y<ops.size:=(a2p.1 hb).1;exact a2u hd hp (by simpa using ha) (by simpa using hb) (e4 x (by simpa using hx)) (e4 y (by simpa using hy)) (e3' x a ha) (e3' y b hb)
def oJ(M:Mp)(C:Ct):Mp:=fun k=>if(C k).isSome=true then M k else none
theorem dP{M:Mp}{C:Ct}{k:Key}{l:Lc}(h:oJ M C k=some l):(C k).isSome=true∧M k=some l:=by
 unfold oJ at h;split at h
 .rename_i h1;exact⟨h1,h⟩
 cases h
theorem qV{M:Mp}{C:Ct}{k:Key}{l:Lc}(hc:(C k).isSome=true)(h:M k=some l):oJ M C k=some l:=by simp[oJ,hc,h]
theorem yX{M M':Mp}{C C':Ct}(hm:rZ M M')(hc:∀k,(C k).isSome=true->(C' k).isSome=true):rZ (oJ M C) (oJ M' C'):=by
 intro k l h;obtain⟨h1,h2⟩:=dP h;obtain⟨l',h3,h4⟩:=hm k l h2;exact⟨l',qV (hc k h1) h3,h4⟩
theorem a0z{M:Mp}{C:Ct}:rZ (oJ M C) M:=fun k l h=>⟨l,(dP h).2,.refl l⟩
def Good(W D:Nat->Prop)(τ:Nat):Prop:=(∀j,D j->W j->j<τ)∧(∀j,j<τ->W j->D j)∧(τ=0∨W (τ-1))
def a5c(D:Nat->Prop)(i j:Nat):Prop:=(j<i∧¬D j)∨(i<j∧D j)
theorem Good.le{W D:Nat->Prop}{τ i:Nat}(h:Good W D τ)(hi:¬D i)(hn:∀j,W j->¬a5c D i j):τ<=i∧∀j,τ<=j->j<i->¬W j:=by
 obtain⟨h1,h2,h3⟩:=h;constructor
 .refine ad3 fun aQ=>?_;rcases h3 with rfl|h3
  .omega
  have hd:=h2 (τ-1) (by omega) h3;have iC:τ-1≠i:=fun e=>hi (e▸hd);exact hn _ h3 (.inr ⟨by omega,hd⟩)
 intro j hj hji hw;exact hn j hw (.inl ⟨hji,fun hd=>by have:=h1 j hd hw;omega⟩)
theorem Good.next{W D:Nat->Prop}{i:Nat}(hw:W i)(hn:∀j,W j->¬a5c D i j):Good W (fun j=>D j∨j=i) (i+1):=by
 refine⟨fun j hd hj=>?_,fun j hj Yt=>?_,.inr (by simpa using hw)⟩
 .rcases hd with hd|rfl
  .refine Nat.lt_of_not_le fun h=>hn j hj (.inr ⟨by omega,hd⟩)
  omega
 by_cases he:j=i
 .exact .inr he
 refine .inl (abW fun hd=>hn j Yt (.inl ⟨by omega,hd⟩))
theorem Good.other{W D:Nat->Prop}{τ i:Nat}(h:Good W D τ)(hw:¬W i):Good W (fun j=>D j∨j=i) τ:=
 ⟨fun j hd hj=>hd.elim (fun h1=>h.1 j h1 hj) (fun e=>absurd (e▸hj) hw),fun j hj Yt=>.inl (h.2.1 j hj Yt),h.2.2⟩
section
variable {P:Program} {call:aY} {site:Nat->Bool} {nt:Nat} {ops:Array Oper} {M0:Mp} {h0:List HB} {w0:World} {S:Nat->St} {I:Nat->mg}
def Wk(ops:Array Oper)(S:Nat->St)(I:Nat->mg)(k:Key)(j:Nat):Prop:=∃o,ops[j]? = some o∧(k∈(I j).ws∨((S j).get k=none∧((S (j+1)).get k).isSome=true))
def Wt(ops:Array Oper)(t j:Nat):Prop:=∃o,ops[j]? = some o∧o.dst=some t
theorem iL.has(hZ:iL P call site nt ops M0 h0 w0 S I){j:Nat}{o:Oper}(ho:ops[j]? = some o){k:Key}(hk:((S j).get k).isSome=true):((S (j+1)).get k).isSome=true:=by
 obtain⟨M,w,M',w',v,he,hx⟩:=hZ.fac j o ho;exact hx.has k hk
theorem iL.wsub(hZ:iL P call site nt ops M0 h0 w0 S I){j:Nat}{o:Oper}(ho:ops[j]? = some o){k:Key}(hk:k∈(I j).ws):((S j).get k).isSome=true:=by
 obtain⟨M,w,M',w',v,he,hx⟩:=hZ.fac j o ho;exact hx.wsub k hk
theorem iL.nH(hZ:iL P call site nt ops M0 h0 w0 S I){j:Nat}{o:Oper}(ho:ops[j]? = some o){k:Key}(hn:¬Wk ops S I k j):(S (j+1)).get k=(S j).get k:=by
 obtain⟨M,w,M',w',v,he,hx⟩:=hZ.fac j o ho;cases hk:(S j).get k with
 |some b=>
  rw[hx.nH k (by simp[hk]) (fun h=>hn ⟨o,ho,.inl h⟩),hk]
 |none=>
  cases oD:(S (j+1)).get k with
  |none=>rfl
  |some b=>exact absurd ⟨o,ho,.inr ⟨hk,by simp[oD]⟩⟩ hn
theorem iL.mono(hZ:iL P call site nt ops M0 h0 w0 S I){k:Key}:∀{i j:Nat},i<=j->j<=ops.size->((S i).get k).isSome=true->((S j).get k).isSome=true:=by
 intro i j zZ
 induction zZ with
 |refl=>exact fun _ h=>h
 |step hle ih=>
  rename_i j;intro hj h;exact hZ.has (o:=ops[j]'(by simp at hj;omega)) (a4c _) (ih (by simp at hj;omega) h)
theorem iL.const(hZ:iL P call site nt ops M0 h0 w0 S I){k:Key}:∀{i j:Nat},i<=j->j<=ops.size->(∀x,i<=x->x<j->¬Wk ops S I k x)->(S j).get k=(S i).get k:=by
 intro i j zZ
 induction zZ with
 |refl=>exact fun _ _=>rfl
 |step hle ih=>
  rename_i j;intro hj h;simp only[agM]at *;rw[hZ.nH (o:=ops[j]'(by omega)) (a4c _) (h j hle (by omega))];exact ih (by omega) fun x h1 h2=>h x h1 (by omega)
theorem iL.a9b(hZ:iL P call site nt ops M0 h0 w0 S I){j:Nat}{o:Oper}(ho:ops[j]? = some o){t:Nat}(hn:¬Wt ops t j):dM t (S (j+1)).env=dM t (S j).env:=by
 obtain⟨M,w,M',w',v,he,hx⟩:=hZ.fac j o ho;rw[he,yU,a0o (fun h=>hn ⟨o,ho,h⟩)]
theorem iL.YR(hZ:iL P call site nt ops M0 h0 w0 S I){t:Nat}:∀{i j:Nat},i<=j->j<=ops.size->(∀x,i<=x->x<j->¬Wt ops t x)->dM t (S j).env=dM t (S i).env:=by
 intro i j zZ
 induction zZ with
 |refl=>exact fun _ _=>rfl
 |step hle ih=>
  rename_i j;intro hj h;simp only[agM]at *;rw[hZ.a9b (o:=ops[j]'(by omega)) (a4c _) (h j hle (by omega))];exact ih (by omega) fun x h1 h2=>h x h1 (by omega)
theorem iL.YS(hZ:iL P call site nt ops M0 h0 w0 S I){b:Nat}:∀{i j:Nat},i<=j->j<=ops.size->b∈(S i).ws->b∈(S j).ws:=by
 intro i j zZ
 induction zZ with
 |refl=>exact fun _ h=>h
 |step hle ih=>
  rename_i j;intro hj h;simp only[agM]at *;rw[(hZ.step j (ops[j]'(by omega)) (a4c _)).a0y];exact oH.2 (.inl (ih (by omega) h))
theorem iL.abH(hZ:iL P call site nt ops M0 h0 w0 S I){j:Nat}{o:Oper}(ho:ops[j]? = some o){k:Key}(hk:k∈(I j).ws)(h0k:(kX h0 k).isSome=true):k∈(S ops.size).ws.map .h:=by
 obtain⟨b,rfl,hb⟩:=Cm h0k;have hj:j<ops.size:=(a2p.1 ho).1;refine a1l.2 ⟨b,hZ.YS (i:=j+1) (by omega) (a1b _) ?_,rfl⟩;rw[(hZ.step j o ho).a0y];exact oH.2 (.inr ⟨hk,hb⟩)
theorem iL.old(hZ:iL P call site nt ops M0 h0 w0 S I){j:Nat}(hj:j<=ops.size){k:Key}(h0k:(kX h0 k).isSome=true):((S j).get k).isSome=true:=by
 obtain⟨M,a,w,hR⟩:=hZ.ok j hj;exact hR.ext.has k h0k
theorem iL.mark(hZ:iL P call site nt ops M0 h0 w0 S I){k:Key}(hk:(S 0).get k=some .mark):∀j,j<=ops.size->(S j).get k=some .mark:=by
 intro j
 induction j with
 |zero=>exact fun _=>hk
 |succ j ih=>
  intro hj;obtain⟨M,w,M',w',v,he,hx⟩:=hZ.fac j ops[j] (a4c (by omega));have h1:=ih (by omega);rw[hx.nH k (by simp[h1]) (fun EK=>by have:=(hx.wrote k EK).2 _ h1;cases this),h1]
structure Inv(nt:Nat)(ops:Array Oper)(M0:Mp)(h0:List HB)(w0:World)(S:Nat->St)(I:Nat->mg)(D:Nat->Prop)(M:Mp)(a:Act)(w:World):Prop where
 closed:∀j o,ops[j]? = some o->D j->uq D o
 size:nt<=a.tmps.size
 mem:∀k l,M k=some l->∃τ,τ<=ops.size∧Good (Wk ops S I k) D τ∧∃b,(S τ).get k=some b∧pK (oJ M (S τ).get).h w b l ∧
  (wr b=true->∀k' l',k≠k'->M k'=some l'->∀c∈aI l,c∉aI l')
 inb:∀k l,M k=some l->∀c∈aI l,c<w.heap.size
 slot:∀t,∃τ,τ<=ops.size∧Good (Wt ops t) D τ∧∀e,dM t (S τ).env=some e->ER (oJ M (S τ).get) e (a.tmps.getD t Go.undef)
 Rj:∀j o k,ops[j]? = some o->D j->k∈(I j).ws->(M k).isSome=true
 Iu:rZ M0 M
 frame:∀c,c<w0.heap.size->(∀k∈(S ops.size).ws.map Key.h,∀l,M0 k=some l->c∉aI l)->w.heap[c]? = w0.heap[c]?
 l9:∀k,((kX h0 k).isSome=true∨(S ops.size).get k=none)->k∉(S ops.size).ws.map Key.h->M k=M0 k
 fresh:∀k l,M k=some l->∀c∈aI l,c<w0.heap.size->∃l0,M0 k=some l0∧c∈aI l0
 EH:w0.heap.size<=w.heap.size
 os:w.os=w0.os
 output:w.output=w0.output
 tape:w.tape=w0.tape
 marks:∀d∈a.defers,∃k r,d=⟨.collected r,#[]⟩∧kX h0 (.h k)=none∧(∃o,M (.h k)=some (.obj r o))∧(∀j,j<=ops.size->(S j).get (.h k)=some .mark)∧w.heap[r]? = some (.deferred (some []))
 apart:a.defers.Pairwise (·≠·)
theorem a2v(hZ:iL P call site nt ops M0 h0 w0 S I){M:Mp}{a:Act}{w:World}(hR:Rel M0 h0 w0 nt M (S 0) a w):Inv nt ops M0 h0 w0 S I (fun _=>False) M a w where
 closed:=fun _ _ _ h=>h.elim
 size:=hR.size
 mem:=fun k l hk=>by
  obtain⟨b,h1,h2⟩:=hR.val.ok k l hk trivial;have hm:rZ M (oJ M (S 0).get):=fun k l h=>⟨l,qV (hR.val.has h) h,.refl l⟩;exact⟨0,by omega,⟨fun _ h=>h.elim,fun _ h=>by omega,.inl rfl⟩,b,h1,h2.mono hm.h fun _ _=>rfl,fun hw k' l' iC oD=>hR.val.own k k' l l' b iC hk oD trivial h1 hw⟩
 inb:=hR.val.inb
 slot:=fun t=>⟨0,by omega,⟨fun _ h=>h.elim,fun _ h=>by omega,.inl rfl⟩,fun e he=>by
  have hm:rZ M (oJ M (S 0).get):=fun k l h=>⟨l,qV (hR.val.has h) h,.refl l⟩;exact(hR.env t e he).mono hm fun k l h=>qV (hR.val.has h) h⟩
 Rj:=fun _ _ _ _ h=>h.elim
 Iu:=hR.ext.Iu
 frame:=fun c hc hf=>hR.ext.frame c hc fun k hk l hl=>by
  obtain⟨b,hb,rfl⟩:=a1l.1 hk;exact hf _ (a1l.2 ⟨b,hZ.YS (a4K _) (a1b _) hb,rfl⟩) l hl
 l9:=fun k hk hn=>by
  refine hR.ext.l9 k (hk.imp id fun h=>?_) (fun h=>hn ?_)
  .cases hc:(S 0).get k with
   |none=>rfl
   |some b=>have:=hZ.mono (k:=k) (a4K _) (a1b _) (by simp[hc]);simp[h]at this
  .obtain⟨b,hb,rfl⟩:=a1l.1 h;exact a1l.2 ⟨b,hZ.YS (a4K _) (a1b _) hb,rfl⟩
 fresh:=hR.ext.fresh
 EH:=hR.ext.size
 os:=hR.ext.os
 output:=hR.ext.output
 tape:=hR.ext.tape
 marks:=fun d hd=>by
  obtain⟨k,r,h1,h2,h3,h4,h5⟩:=hR.marks d hd;exact⟨k,r,h1,h2,h3,hZ.mark h4,h5⟩
 apart:=hR.apart
theorem Wk.lt{k:Key}{j:Nat}(h:Wk ops S I k j):j<ops.size:=by
 obtain⟨o,ho,_⟩:=h;exact(a2p.1 ho).1
theorem a0A(hZ:iL P call site nt ops M0 h0 w0 S I){D:Nat->Prop}{M:Mp}{a:Act}{w:World}(h:Inv nt ops M0 h0 w0 S I D M a w)(hD:∀j,j<ops.size->D j):Rel M0 h0 w0 nt M (S ops.size) a w:=by
 have key:∀k l,M k=some l->∃b,(S ops.size).get k=some b∧pK M.h w b l∧(wr b=true->∀k' l',k≠k'->M k'=some l'->∀c∈aI l,c∉aI l'):=by
  intro k l hk;obtain⟨τ,ht,hg,b,h1,h2,h3⟩:=h.mem k l hk;refine⟨b,?_,h2.mono a0z.h fun _ _=>rfl,h3⟩;rw[hZ.const ht (a1b _) fun x h4 h5 hw=>?_,h1];have:=hg.1 x (hD x h5) hw;omega
 refine⟨⟨?_,?_,h.inb⟩,?_,?_,h.size,fun d hd=>by
  obtain⟨k,r,h1,h2,h3,h4,h5⟩:=h.marks d hd;exact⟨k,r,h1,h2,h3,h4 _ (a1b _),h5⟩,h.apart⟩
 .intro k l hk _;obtain⟨b,h1,h2,_⟩:=key k l hk;exact⟨b,h1,h2⟩
 .intro k k' l l' b iC hk oD _ hb hw;obtain⟨b',h1,_,h3⟩:=key k l hk;rw[hb]at h1;cases h1;exact h3 hw k' l' iC oD
 .obtain⟨M',a',w',Fz⟩:=hZ.ok ops.size (a1b _);exact⟨h.Iu,h.frame,Fz.ext.nH,h.l9,h.fresh,h.EH,Fz.ext.has,Fz.ext.wsub,Fz.ext.wrote,h.os,h.output,h.tape⟩
 intro t e he;obtain⟨τ,ht,hg,h1⟩:=h.slot t;rw[hZ.YR ht (a1b _) fun x h4 h5 hw=>by have:=hg.1 x (hD x h5) hw;omega]at he;exact(h1 e he).mono a0z fun k l hk=>(dP hk).2
theorem IQ{a b:Oper}(h:Bd a b=true):∃t m k,a.op=.lookup t (.tmp m) (.tmp k) false∧b.op=.mapEntry t (.tmp m) (.tmp k)∧a.guard=none∧b.guard=none:=by
 unfold Bd at h;split at h
 .rename_i h1 h2 h3 h4;simp only[a2o,a6H]at h;obtain⟨⟨rfl,rfl⟩,rfl⟩:=h;exact⟨_,_,_,h1,h2,h3,h4⟩
 cases h
theorem a9c(hZ:iL P call site nt ops M0 h0 w0 S I){x:Nat}{a b:Oper}(ha:ops[x]? = some a)(h:Bd a b=true):(I x).ws=[]:=by
 obtain⟨t,m,k,e,_⟩:=IQ h;exact(hZ.step x a ha).w (by rw[e];rfl)
theorem Inv.conf(hZ:iL P call site nt ops M0 h0 w0 S I){D:Nat->Prop}{M:Mp}{a:Act}{w:World}(h:Inv nt ops M0 h0 w0 S I D M a w){i j:Nat}{oi oj:Oper}(hi:ops[i]? = some oi)(hj:ops[j]? = some oj)
  (jA:¬D i) (hw:uq D oi) (hc:a5c D i j):((i<j∧Bd oi oj=true)∨∀k∈(I j).ws,¬oG (I i) k)∧oj.apart ops oi=true∧oi.apart ops oj=true:=by
 have qm:∀j o,ops.toList[j]? = some o->D j->uq D o:=fun j o ho=>h.closed j o (by simpa using ho);have xE:ops.toList[i]? = some oi:=by simpa using hi
 have DR:ops.toList[j]? = some oj:=by simpa using hj
 have li:i<ops.toList.length:=(a0c.1 xE).1;have lj:j<ops.toList.length:=(a0c.1 DR).1;rcases hc with⟨aQ,hd⟩|⟨aQ,hd⟩
 .have hp:=yG aQ li fun EK=>hd (U6 qm i oi xE hw j EK);have h1:=hZ.calm j i oj oi hp hj hi;have h2:=A8 hZ.stat hp DR xE;refine⟨.inr ?_,h2.1,h2.2⟩;rcases h1 with h1|h1
  .rw[a9c hZ hj h1];intro k hk;cases hk
  .exact h1.1
 .have hp:=yG aQ lj fun EK=>jA (U6 qm j oj DR (qm j oj DR hd) i EK);have h1:=hZ.calm i j oi oj hp hi hj;have h2:=A8 hZ.stat hp xE DR;exact⟨h1.imp (fun h=>⟨aQ,h⟩) fun h=>h.2,h2.2,h2.1⟩
end
section
variable {P:Program} {call:aY} {site:Nat->Bool} {nt:Nat} {ops:Array Oper} {M0:Mp} {h0:List HB} {w0:World} {S:Nat->St} {I:Nat->mg}
variable {D:Nat->Prop} {M:Mp} {a:Act} {w:World} {i:Nat} {oi:Oper}
theorem Inv.Aa(hZ:iL P call site nt ops M0 h0 w0 S I)(h:Inv nt ops M0 h0 w0 S I D M a w){j:Nat}{o:Oper}(hj:ops[j]? = some o)(hd:¬D j){k:Key}(h1:(S j).get k=none)(h2:((S (j+1)).get k).isSome=true):M k=none:=by
 cases hm:M k with
 |none=>rfl
 |some l=>
  obtain⟨τ,ht,hg,b,h3,_⟩:=h.mem k l hm;have hlj:j<ops.size:=(a2p.1 hj).1;by_cases hle:τ<=j
  .have:=hZ.mono hle (by omega) (k:=k) (by simp[h3]);simp[h1]at this
  exact absurd (hg.2.1 j (by omega) ⟨o,hj,.inr ⟨h1,h2⟩⟩) hd
theorem Inv.a5d(hZ:iL P call site nt ops M0 h0 w0 S I)(h:Inv nt ops M0 h0 w0 S I D M a w)(hi:ops[i]? = some oi)(jA:¬D i)(hw:uq D oi)(hns:∀o,Bd oi o=false){k:Key}{l:Lc}(hk:M k=some l)
  (hs:((S i).get k).isSome=true) (ht:oG (I i) k):∀j,Wk ops S I k j->¬a5c D i j:=by
 intro j hwk hc;have hlj:=hwk.lt;obtain⟨oj,hj,h1|⟨h1,h2⟩⟩:=hwk
 .exact(h.conf hZ hi hj jA hw hc).1.resolve_left (fun h=>by have:=hns oj;rw[h.2]at this;cases this) k h1 ht
 .rcases hc with⟨aQ,hd⟩|⟨aQ,hd⟩
  .have:=h.Aa hZ hj hd h1 h2;rw[hk]at this;cases this
  .have:=hZ.mono (k:=k) (a9f aQ) (by omega) hs;simp[h1]at this
theorem Inv.cur(hZ:iL P call site nt ops M0 h0 w0 S I)(h:Inv nt ops M0 h0 w0 S I D M a w)(hi:ops[i]? = some oi)(jA:¬D i)(hw:uq D oi)(hns:∀o,Bd oi o=false){k:Key}{l:Lc}(hk:M k=some l)
  (hs:((S i).get k).isSome=true) (ht:oG (I i) k):∃b,(S i).get k=some b∧pK (oJ M (S i).get).h w b l∧(wr b=true->∀k' l',k≠k'->M k'=some l'->∀c∈aI l,c∉aI l'):=by
 have hli:i<ops.size:=(a2p.1 hi).1;obtain⟨τ,hτ,hg,b,h1,h2,h3⟩:=h.mem k l hk;obtain⟨g1,g2⟩:=hg.le jA (h.a5d hZ hi jA hw hns hk hs ht);refine⟨b,?_,h2.mono (yX (.refl M) fun k' oD=>hZ.mono g1 (by omega) oD).h fun _ _=>rfl,h3⟩;rw[hZ.const g1 (by omega) g2,h1]
theorem Inv.LK(hZ:iL P call site nt ops M0 h0 w0 S I)(h:Inv nt ops M0 h0 w0 S I D M a w)(hi:ops[i]? = some oi)(jA:¬D i)(hw:uq D oi){t:Nat}(ht:t∈oi.looksAt ops){e:EV}
  (he:dM t (S i).env=some e):ER (oJ M (S i).get) e (a.tmps.getD t Go.undef):=by
 have hli:i<ops.size:=(a2p.1 hi).1;obtain⟨τ,hτ,hg,h1⟩:=h.slot t;obtain⟨g1,g2⟩:=hg.le jA fun j hwt hc=>by
  obtain⟨oj,hj,hd⟩:=hwt;exact(Oper.apart_spec (h.conf hZ hi hj jA hw hc).2.1).1 t hd ht
 rw[hZ.YR g1 (by omega) g2]at he;exact(h1 e he).mono (yX (.refl M) fun k' oD=>hZ.mono g1 (by omega) oD) fun k l hk=>by
  obtain⟨x1,x2⟩:=dP hk;exact qV (hZ.mono g1 (by omega) x1) x2
def lZ(M' M:Mp):Mp:=fun k=>match M' k with
 |some l=>some l
 |none=>M k
theorem a2x(hC:iD P call)(hZ:iL P call site nt ops M0 h0 w0 S I)(h:Inv nt ops M0 h0 w0 S I D M a w)(hi:ops[i]? = some oi)(jA:¬D i)(hw:uq D oi)(hns:∀o,Bd oi o=false)
  {r:Option Nat} {n:Nat} {Q:Exit->Act->World->Prop} {K:Act->World->Prop} (hK:∀M' a' w',Inv nt ops M0 h0 w0 S I (fun j=>D j∨j=i) M' a' w'->a'.defers=a.defers->K a' w') :
  wpOpIn (nN r) n P ops Q i K a w:=by
 have hli:i<ops.size:=(a2p.1 hi).1;have hS:=hZ.step i oi hi;have hV:Valid (oJ M (S i).get) (oG (I i)) (S i).get w:=by
  refine⟨fun k l hk ht=>?_,fun k k' l l' b iC hk oD ht hb Yo=>?_,fun k l hk=>h.inb k l (dP hk).2⟩
  .obtain⟨x1,x2⟩:=dP hk;obtain⟨b,h1,h2,_⟩:=h.cur hZ hi jA hw hns x2 x1 ht;exact⟨b,h1,h2⟩
  .obtain⟨x1,x2⟩:=dP hk;obtain⟨b',h1,_,h3⟩:=h.cur hZ hi jA hw hns x2 x1 ht;rw[hb]at h1;cases h1;exact h3 Yo k' l' iC (dP oD).2
 have yO:oJ M (S i).get (.h (S i).heap.length)=none:=by simp[oJ,St.get]
 have hnl:oJ M (S i).get (.l (S i).loc.length)=none:=by simp[oJ,St.get]
 have yS:∀j l,oJ M (S i).get (.l j)=some l->∀k' l',Key.l j≠k'->oJ M (S i).get k'=some l'->∀c∈aI l,c∉aI l':=by
  intro j l hj k' l' iC oD;obtain⟨τ,_,_,b,h1,_,h3⟩:=h.mem _ _ (dP hj).2;refine h3 ?_ k' l' iC (dP oD).2;simp only[St.get,a0e]at h1;obtain⟨_,_,rfl⟩:=h1;rfl
 have hE:Gu (oJ M (S i).get) (S i).env a oi.op.operands:=by
  intro x hx e he;cases x with
  |tmp t=>exact h.LK hZ hi jA hw (a5U _ (a6m.2 ⟨.tmp t,by simpa using hx,rfl⟩)) he
  |const v=>
   simp only[Ir,a0e]at he;obtain⟨t,h1,rfl⟩:=he;exact .val (.yC h1)
  |func f=>
   simp only[Ir,a05]at he;subst he;exact .val (VR.fn (xs:=[]) (ys:=[]) rfl (by simp) rfl (by simp))
  |global g=>simp[Ir]at he
 have hG:LH (oJ M (S i).get) (S i).env a.tmps ops oi:=by
  intro j want d hg hd e he;exact h.LK hZ hi jA hw (abJ _ (by simp[hg,hd])) he
 refine(a0w hC hS hV yO hnl yS hE hG fun _ ht _=>ht).2 r n Q i K hi fun x w' vT=>?_;obtain⟨v,M',he,hp⟩:=vT;have hX:=hp.ext;have F1:∀k l,M' k=some l->((S (i+1)).get k).isSome=true:=by
  intro k l hk;cases hc:(S (i+1)).get k with
  |some b=>rfl
  |none=>
   have hn:k∉(I i).ws:=fun EK=>by
    have:=hX.has k (hX.wsub k EK);simp[hc]at this
   have:=hX.l9 k (.inr hc) hn;rw[hk]at this;have:=hX.has k (dP this.symm).1;simp[hc]at this
 have F5:∀k l l',M k=some l->M' k=some l'->((S i).get k).isSome=true:=by
  intro k l l' hk oD;cases hc:(S i).get k with
  |some b=>rfl
  |none=>
   have:=h.Aa hZ hi jA hc (F1 k l' oD);rw[hk]at this;cases this
 have F4:rZ M (lZ M' M):=by
  intro k l hk;cases hm:M' k with
  |none=>exact⟨l,by simp[lZ,hm,hk],.refl l⟩
  |some l'=>
   obtain⟨l'',h1,h2⟩:=hX.Iu k l (qV (F5 k l l' hk hm) hk);exact⟨l'',by simp[lZ,h1],h2⟩
 have F2:∀k,¬Wk ops S I k i->lZ M' M k=M k:=by
  intro k hn;cases hm:M' k with
  |none=>simp[lZ,hm]
  |some l'=>
   cases hc:(S i).get k with
   |none=>
    exact absurd ⟨oi,hi,.inr ⟨hc,F1 k l' hm⟩⟩ hn
   |some b=>
    have h1:=hX.l9 k (.inl (by simp[hc])) fun EK=>hn ⟨oi,hi,.inl EK⟩;rw[hm]at h1;simp only[lZ,hm,(dP h1.symm).2]
 have F6:rZ M' (oJ (lZ M' M) (S (i+1)).get):=fun k l hk=>⟨l,qV (F1 k l hk) (by simp[lZ,hk]),.refl l⟩;have F7:∀k l,M (.l k)=some l->lZ M' M (.l k)=some l:=by
  intro k l hk;cases hm:M' (.l k)with
  |none=>simp[lZ,hm,hk]
  |some l'=>
   have:=hp.loc k l (qV (F5 _ l l' hk hm) hk);simp[lZ,this]
 have a5f:∀k∈(I i).ws,∀l,M k=some l->∀k' l',k≠k'->M k'=some l'->∀c∈aI l,c∉aI l':=by
  intro k hk l hl;have hs:=hX.wsub k hk;obtain⟨b,h1,_,h3⟩:=h.cur hZ hi jA hw hns hl hs (.inr (.inl hk));exact h3 ((hX.wrote k hk).2 b h1)
 have hWM:∀k l,Wk ops S I k i->lZ M' M k=some l->M' k=some l∧(oG (I i) k∨((S i).get k=none∧((S (i+1)).get k).isSome=true)):=by
  intro k l hW hk;obtain⟨o,ho,h1|⟨h1,h2⟩⟩:=hW
  .obtain⟨l0,qL⟩:=a5y.1 (hX.wrote k h1).1;obtain⟨l',h2,_⟩:=hX.Iu k l0 qL;simp only[lZ,h2]at hk;exact⟨h2.trans hk,.inl (.inr (.inl h1))⟩
  .have:=h.Aa hZ hi jA h1 h2;cases hm:M' k with
   |none=>simp[lZ,hm,this]at hk
   |some l'=>simp only[lZ,hm]at hk;exact⟨hk,.inr ⟨h1,h2⟩⟩
 have anb:∀k,Wk ops S I k i->∀j,Wk ops S I k j->¬a5c D i j:=by
  intro k hW;obtain⟨o,ho,h1|⟨h1,h2⟩⟩:=hW
  .obtain⟨l0,qL⟩:=a5y.1 (hX.wrote k h1).1;exact h.a5d hZ hi jA hw hns (dP qL).2 (hX.wsub k h1) (.inr (.inl h1))
  .intro j hwk hc;have hlj:=hwk.lt;obtain⟨oj,hj,g1|⟨g1,g2⟩⟩:=hwk
   .have hsj:=hZ.wsub hj g1;rcases hc with⟨aQ,hd⟩|⟨aQ,hd⟩
    .have:=hZ.mono (k:=k) (a9f aQ) (by omega) hsj;simp[h1]at this
    .have:=h.Rj j oj k hj hd g1;rw[h.Aa hZ hi jA h1 h2]at this;cases this
   .rcases hc with⟨aQ,hd⟩|⟨aQ,hd⟩
    .have:=hZ.mono (k:=k) (i:=j+1) (j:=i) aQ (by omega) g2;simp[h1]at this
    .have:=hZ.mono (k:=k) (i:=i+1) (j:=j) aQ (by omega) h2;simp[g1]at this
 refine hK (lZ M' M) _ w' ?_ jJ;refine
  {closed:=fun j o ho hd e hm hb=>?_
   size:=by rw[Gz];exact h.size
   mem:=fun k l hk=>?_
   inb:=fun k l hk c hc=>?_
   slot:=fun t=>?_
   Rj:=fun j o k ho hd hk=>?_
   Iu:=h.Iu.trans F4
   frame:=fun c hc hf=>?_
   l9:=fun k hk hn=>?_
   fresh:=fun k l hk c hc aQ=>?_
   EH:=a4U h.EH hX.size
   os:=hX.os.trans h.os
   output:=hX.output.trans h.output
   tape:=hX.tape.trans h.tape
   marks:=fun d hd=>by
    rw[jJ]at hd;obtain⟨k,r,h1,h2,⟨o,h3⟩,h4,h5⟩:=h.marks d hd;obtain⟨l',g1,g2⟩:=F4 _ _ h3;obtain⟨o',hl⟩:∃o',l'=.obj r o':=by
     cases l' with
     |cells ls=>exact g2.elim
     |obj r' o'=>cases g2.1;exact⟨o',rfl⟩
    refine⟨k,r,h1,h2,⟨o',by rw[g1,hl]⟩,h4,?_⟩;rw[hX.frame r (a2p.1 h5).1 fun k' oD l0 qL hc=>?_,h5];have iC:k'≠.h k:=fun e=>by
     have:=(hX.wrote _ oD).2 _ (e▸h4 i (by omega));cases this
    exact a5f k' oD l0 (dP qL).2 _ _ iC h3 r hc (by simp[aI])
   apart:=by rw[jJ];exact h.apart }
 .rcases hd with hd|rfl
  .exact .inl (h.closed j o ho hd e hm hb)
  .rw[hi]at ho;cases ho;exact .inl (hw e hm hb)
 .by_cases hW:Wk ops S I k i
  .obtain⟨hm,hD⟩:=hWM k l hW hk;obtain⟨b,h1,h2⟩:=hp.val.ok k l hm hD;refine⟨i+1,by omega,Good.next hW (anb k hW),b,h1,h2.mono F6.h fun _ _=>rfl,fun Yo k' l' iC oD=>?_⟩;cases hm':M' k' with
   |some l''=>
    simp only[lZ,hm']at oD;cases oD;exact hp.val.own k k' l l' b iC hm hm' hD h1 Yo
   |none=>
    simp only[lZ,hm']at oD;intro c hc Vw;obtain⟨l0,g1,g2⟩:=hX.fresh k l hm c hc (h.inb k' l' oD c Vw);obtain⟨g3,g4⟩:=dP g1;obtain⟨o,ho,g5|⟨g5,_⟩⟩:=hW
    .exact a5f k g5 l0 g4 k' l' iC oD c g2 Vw
    .simp[g5]at g3
  .rw[F2 k hW]at hk;obtain⟨τ,hτ,hg,b,h1,h2,h3⟩:=h.mem k l hk;refine⟨τ,hτ,hg.other hW,b,h1,h2.mono (yX F4 fun _ hs=>hs).h fun c hc=>?_,fun Yo k' l' iC oD=>?_⟩
   .refine hX.frame c (h.inb k l hk c hc) fun k'' ahy l'' anc ane=>?_;have iC:k''≠k:=fun e=>hW ⟨oi,hi,.inl (e▸ahy)⟩;exact a5f k'' ahy l'' (dP anc).2 k l iC hk c ane hc
   .cases hm':M' k' with
    |some l''=>
     simp only[lZ,hm']at oD;cases oD;intro c hc Vw;obtain⟨l0,g1,g2⟩:=hX.fresh k' l' hm' c Vw (h.inb k l hk c hc);exact h3 Yo k' l0 iC (dP g1).2 c hc g2
    |none=>
     simp only[lZ,hm']at oD;exact h3 Yo k' l' iC oD
 .cases hm:M' k with
  |some l'=>
   simp only[lZ,hm]at hk;cases hk;exact hp.val.inb k l hm c hc
  |none=>
   simp only[lZ,hm]at hk;exact a99 (h.inb k l hk c hc) hX.size
 .by_cases hT:oi.dst=some t
  .refine⟨i+1,by omega,Good.next (W:=Wt ops t) ⟨oi,hi,hT⟩ (fun j hwt hc=>?_),fun e hl=>?_⟩
   .obtain⟨oj,hj,hd⟩:=hwt;exact(Oper.apart_spec (h.conf hZ hi hj jA hw hc).2.2).2.1 t hT hd
   .rw[he,yU,a0p hT]at hl;cases hl;have h1:=hS.dst hT;have h2:=h.size;rw[yV,a0p ⟨hT,by omega⟩];exact hp.er.mono F6 fun k l hk=>qV (F1 _ l hk) (by simp[lZ,hk])
  .obtain⟨τ,hτ,hg,h1⟩:=h.slot t;refine⟨τ,hτ,hg.other fun⟨o,ho,hd⟩=>?_,fun e hl=>?_⟩
   .rw[hi]at ho;cases ho;exact hT hd
   .rw[yV,a0o fun hh=>hT hh.1];refine(h1 e hl).mono (yX F4 fun _ hs=>hs) fun k l hk=>?_;obtain⟨g1,g2⟩:=dP hk;exact qV g1 (F7 k l g2)
 .have hM:∀k,(M k).isSome=true->(lZ M' M k).isSome=true:=by
   intro k hk;obtain⟨l,hl⟩:=a5y.1 hk;obtain⟨l',h1,_⟩:=F4 k l hl;simp[h1]
  rcases hd with hd|rfl
  .exact hM k (h.Rj j o k ho hd hk)
  .obtain⟨l0,qL⟩:=a5y.1 (hX.wrote k hk).1;exact hM k (by simp[(dP qL).2])
 .rw[<-h.frame c hc hf];refine hX.frame c (a99 hc h.EH) fun k hk l hl qm=>?_;obtain⟨l0,h1,h2⟩:=h.fresh k l (dP hl).2 c qm hc;exact hf k (hZ.abH hi hk (hZ.base.val.has h1)) l0 h1 h2
 .rw[<-h.l9 k hk hn];refine F2 k fun hW=>?_;obtain⟨o,ho,h1|⟨h1,h2⟩⟩:=hW
  .rcases hk with hk|hk
   .exact hn (hZ.abH hi h1 hk)
   .have:=hZ.mono (k:=k) (i:=i) (a9f hli) (a1b _) (hX.wsub k h1);simp[hk]at this
  .rcases hk with hk|hk
   .have:=hZ.old (a9f hli) hk;simp[h1]at this
   .have:=hZ.mono (k:=k) (i:=i+1) hli (a1b _) h2;simp[hk]at this
 .cases hm:M' k with
  |some l'=>
   simp only[lZ,hm]at hk;cases hk;obtain⟨l0,h1,h2⟩:=hX.fresh k l hm c hc (a99 aQ h.EH);exact h.fresh k l0 (dP h1).2 c h2 aQ
  |none=>
   simp only[lZ,hm]at hk;exact h.fresh k l hk c hc aQ
def TP(listed:Array Bool):Nat->Nat
 | 0=>0
 |k+1=>TP listed k+if listed.getD k false=true then 0 else 1
theorem a2z{t:TypeId}{m k v:TV}{e:EV}{s s1:St}{inf:mg}(he:BX P t s m k=some (e,s1,inf))(hl:gX P t s.heap m k false=some v):gX P t s1.heap m k false=some v∧∃a x,v=.int a x:=by
 unfold BX at he;split at he
 .split at he
  .rename_i hk;cases he;unfold a0d at hk;rw[hl]at hk;split at hk
   .rename_i h1 h2;cases h1;simp only[a2o,a1Q,a6H]at hk;obtain⟨rfl,rfl⟩:=hk;exact⟨h2,_,_,rfl⟩
   cases hk
  cases he
 cases he
theorem U7{t:TypeId}{r:Nat}{k:TV}{h h':List HB}(e:h'[r]? = h[r]?):gX P t h' (.map r) k false=gX P t h (.map r) k false:=by
 unfold gX;simp only[e]
theorem Inv.a0B(hZ:iL P call site nt ops M0 h0 w0 S I)(h:Inv nt ops M0 h0 w0 S I D M a w)(hi:ops[i]? = some oi)(jA:¬D i)(hw:uq D oi){x:Nat}{ox:Oper}(hx:ops[x]? = some ox)(hix:i<x)(hdx:D x){t:Nat}
  (ht:t∈oi.looksAt ops) (ht2:t∈ox.looksAt ops):dM t (S x).env=dM t (S i).env:=by
 have hlx:x<ops.size:=(a2p.1 hx).1;refine hZ.YR (a9f hix) (a9f hlx) fun y h1 h2 hwt=>?_;obtain⟨oy,hy,hd⟩:=hwt;have Fg:ops.toList[x]? = some ox:=by simpa using hx
 have hy':ops.toList[y]? = some oy:=by simpa using hy
 have qm:∀j o,ops.toList[j]? = some o->D j->uq D o:=fun j o ho=>h.closed j o (by simpa using ho);by_cases EK:y∈VT ops.toList x
 .have hdy:=U6 qm x ox Fg (qm x ox Fg hdx) y EK;have iC:i<y:=by
   rcases a4l i y with h3|h3
   .exact h3
   .have:y=i:=(by omega);subst this;exact absurd hdy jA
  exact(Oper.apart_spec (h.conf hZ hi hy jA hw (.inr ⟨iC,hdy⟩)).2.1).1 t hd ht
 .have hp:=yG h2 (by simpa using hlx) EK;have:=(A8 hZ.stat hp hy' Fg).1;rw[show ops.toList.toArray=ops by simp]at this;exact(Oper.apart_spec this).1 t hd ht2
theorem LM{t:TypeId}{m k:Nat}(jf:oi.op=.lookup t (.tmp m) (.tmp k) false):m∈oi.looksAt ops∧k∈oi.looksAt ops:=by
 constructor
 .exact a5U _ (a6m.2 ⟨.tmp m,by simp[jf,Op.operands],rfl⟩)
 exact a5U _ (a6m.2 ⟨.tmp k,by simp[jf,Op.operands],rfl⟩)
theorem VW{ox:Oper}{t:TypeId}{m k:Nat}(jf:ox.op=.mapEntry t (.tmp m) (.tmp k)):m∈ox.looksAt ops∧k∈ox.looksAt ops:=by
 constructor
 .exact a5U _ (a6m.2 ⟨.tmp m,by simp[jf,Op.operands],rfl⟩)
 exact a5U _ (a6m.2 ⟨.tmp k,by simp[jf,Op.operands],rfl⟩)
theorem a0C{env:List (Nat×EV)}{m:Nat}{v:TV}(h:qM env (.tmp m)=some v):dM m env=some (.val v):=by
 unfold qM at h;split at h
 .rename_i x hx;cases h;exact hx
 cases h
theorem a5g{env env':List (Nat×EV)}{m:Nat}(h:dM m env=dM m env'):qM env (.tmp m)=qM env' (.tmp m):=by
 unfold qM Ir;simp only[h]
theorem Inv.chain(hZ:iL P call site nt ops M0 h0 w0 S I)(h:Inv nt ops M0 h0 w0 S I D M a w)(hi:ops[i]? = some oi)(jA:¬D i)(hw:uq D oi){t:TypeId}{m k r τ x:Nat}{kv z:TV}{ox:Oper}(jf:oi.op=.lookup t (.tmp m) (.tmp k) false)
  (e1:qM (S i).env (.tmp m)=some (.map r)) (e2:qM (S i).env (.tmp k)=some kv) (hs:((S i).get (.h r)).isSome=true) (hg:Good (Wk ops S I (.h r)) D τ) (hwk:Wk ops S I (.h r) x) (hix:i<=x) (hxτ:x<τ) (NP:x<ops.size) (a5h:oG (I i) (.h r))
  (ih:gX P t (S x).heap (.map r) kv false=some z) (hx:ops[x]? = some ox):gX P t (S (x+1)).heap (.map r) kv false=some z∧∃a b,z=.int a b:=by
 have hdx:=hg.2.1 x hxτ hwk;have iC:i<x:=by
  rcases a4l i x with h3|h3
  .exact h3
  .have:x=i:=(by omega);subst this;exact absurd hdx jA
 obtain⟨oy,hy,g1|⟨g1,_⟩⟩:=hwk
 .rw[hx]at hy;cases hy;rcases(h.conf hZ hi hx jA hw (.inr ⟨iC,hdx⟩)).1 with⟨_,h6⟩|h6
  .obtain⟨t',m',k',p1,p2,p3,p4⟩:=IQ h6;rw[jf]at p1;cases p1;have hm:=h.a0B hZ hi jA hw hx iC hdx (LM (ops:=ops) jf).1 (VW (ops:=ops) p2).1;have hk:=h.a0B hZ hi jA hw hx iC hdx (LM (ops:=ops) jf).2 (VW (ops:=ops) p2).2;obtain⟨_,⟨_,v,s1,q1,q2⟩|⟨q1,_⟩⟩:=hZ.step x ox hx
   .simp only[pF,p2,a5g hm,a5g hk,e1,e2]at q1;have:=a2z q1 ih;rw[q2];have e5:(St.put { s1 with ws:=jU h0.length (I x).ws (S x).ws } ox.dst v).heap=s1.heap:=by
     cases ox.dst<;>rfl
    rw[e5];exact this
   .unfold BZ at q1;rw[p4]at q1;cases q1
  .exact absurd a5h (h6 _ g1)
 .have:=hZ.mono hix (by omega) hs;rw[g1]at this;cases this
theorem Inv.look(hZ:iL P call site nt ops M0 h0 w0 S I)(h:Inv nt ops M0 h0 w0 S I D M a w)(hi:ops[i]? = some oi)(jA:¬D i)(hw:uq D oi){t:TypeId}{m k:Nat}(jf:oi.op=.lookup t (.tmp m) (.tmp k) false)
  {mv kv z:TV} (e1:qM (S i).env (.tmp m)=some mv) (e2:qM (S i).env (.tmp k)=some kv) (e3:gX P t (S i).heap mv kv false=some z) (e4:∀r,mv=.map r->I i=gY [.h r]) :
  ∃x,(Instr.lookup t (a.tmps.getD m Go.undef) (a.tmps.getD k Go.undef) false).run P w=.ok x w∧VR (oJ M (S i).get).h z x:=by
 have hli:i<ops.size:=(a2p.1 hi).1;have am:VR (oJ M (S i).get).h mv (a.tmps.getD m Go.undef):=by
  have:=h.LK hZ hi jA hw (LM (ops:=ops) jf).1 (a0C e1);cases this;assumption
 have ak:VR (oJ M (S i).get).h kv (a.tmps.getD k Go.undef):=by
  have:=h.LK hZ hi jA hw (LM (ops:=ops) jf).2 (a0C e2);cases this;assumption
 have plain:(∀r,mv≠.map r)->∃x,(Instr.lookup t (a.tmps.getD m Go.undef) (a.tmps.getD k Go.undef) false).run P w=.ok x w∧VR (oJ M (S i).get).h z x:=fun hm=>by
  have hV:Valid (oJ M (S i).get) (fun _=>False) (S i).get w:=⟨fun _ _ _ h=>h.elim,fun _ _ _ _ _ _ _ _ h=>h.elim,fun k l hk=>h.inb k l (dP hk).2⟩;obtain⟨x,g1,g2⟩:=DV hV e3 am ak fun j hj=>by
   split at hj
   .exact absurd rfl (hm _)
   .cases hj
  exact⟨x,g2,g1⟩
 by_cases a4M:∃r,mv=.map r
 case neg=>exact plain fun r e=>a4M ⟨r,e⟩
 obtain⟨r,rfl⟩:=a4M;have e4:I i=gY [.h r]:=e4 r rfl;have a5h:oG (I i) (.h r):=by rw[e4];exact .inl (by simp[gY])
 generalize hX:a.tmps.getD m Go.undef=X at am ⊢;cases am with
 |map hr=>
  rename_i r1 o;have hr:oJ M (S i).get (.h r)=some (.obj r1 o):=hr;obtain⟨hs,hM⟩:=dP hr;obtain⟨τ,hτ,hg,b,h1,h2,h3⟩:=h.mem _ _ hM;have own:∀{N:Mp},(∀k l,N k=some l->M k=some l)->∀(C:Ct) (bb:HB),C (.h r)=some bb->(wr bb=true->wr b=true)->pK N.h w bb (.obj r1 o)->N (.h r)=some (.obj r1 o)->Valid N (fun k=>k=.h r) C w:=fun{N} hN C bb hb Yo QF hNr=>
   ⟨fun k l hk e=>by subst e;rw[hNr]at hk;cases hk;exact⟨bb,hb,QF⟩,fun k k' l l' b' iC hk oD e qK hwb=>by
    subst e;rw[hNr]at hk;cases hk;rw[hb]at qK;cases qK;exact h3 (Yo hwb) k' l' iC (hN _ _ oD),fun k l hk=>h.inb k l (hN _ _ hk)⟩
  by_cases hτi:τ<=i
  .have hb:(S i).get (.h r)=some b:=by
    rw[hZ.const hτi (a9f hli) fun x h4 h5 hwk=>?_,h1];obtain⟨ox,hx,g1|⟨g1,g2⟩⟩:=hwk
    .have hnx:¬D x:=fun hd=>by have:=hg.1 x hd ⟨ox,hx,.inl g1⟩;omega
     rcases(h.conf hZ hi hx jA hw (.inl ⟨h5,hnx⟩)).1 with⟨h6,_⟩|h6
     .omega
     .exact h6 _ g1 a5h
    .have:=hZ.mono (k:=.h r) h4 (by omega) (by rw[h1];rfl);rw[g1]at this;cases this
   have hV:=own (N:=oJ M (S i).get) (fun k l hk=>(dP hk).2) (S i).get b hb id (h2.mono (yX (.refl M) fun k' oD=>hZ.mono hτi (by omega) oD).h fun _ _=>rfl) hr;obtain⟨x,g1,g2⟩:=DV hV e3 (.map hr) ak fun j hj=>(by simpa using hj);exact⟨x,g2,g1⟩
  .have chain:∀x,i<=x->x<=τ->gX P t (S x).heap (.map r) kv false=some z:=by
    intro x hix
    induction hix with
    |refl=>exact fun _=>e3
    |step hle ih=>
     rename_i x;intro hxτ;have hxτ:x<τ:=hxτ;have ih:=ih (by omega);have hx:=a4c (xs:=ops) (i:=x) (by omega);by_cases hwk:Wk ops S I (.h r) x
     .obtain⟨l1,l2⟩:=h.chain hZ hi jA hw jf e1 e2 hs hg hwk hle hxτ (by omega) a5h ih hx;exact l1
     .rw[U7 (h:=(S x).heap) (hZ.nH hx hwk)];exact ih
   obtain⟨a1,a2,hz⟩:∃a1 a2,z=.int a1 a2:=by
    rcases hg.2.2 with h4|h4
    .omega
    .have hx:=a4c (xs:=ops) (i:=τ-1) (by omega);exact(h.chain hZ hi jA hw jf e1 e2 hs hg h4 (by omega) (by omega) (by omega) a5h (chain (τ-1) (by omega) (by omega)) hx).2
   have le:rZ (oJ M (S i).get) (oJ M (S τ).get):=yX (.refl M) fun k' oD=>hZ.mono (by omega) hτ oD;have wJ:oJ M (S τ).get (.h r)=some (.obj r1 o):=qV (by rw[h1];rfl) hM;have hV:=own (N:=oJ M (S τ).get) (fun k l hk=>(dP hk).2) (S τ).get b h1 id h2 wJ;obtain⟨x,g1,g2⟩:=DV hV (chain τ (by omega) (a1b _)) (.map wJ) (ak.mono le.h) fun j hj=>(by simpa using hj);subst hz;refine⟨x,g2,?_⟩;cases g1;exact .int _ _
 |_=>exact absurd rfl ‹_›
theorem a5i(hC:iD P call)(hZ:iL P call site nt ops M0 h0 w0 S I)(h:Inv nt ops M0 h0 w0 S I D M a w)(hi:ops[i]? = some oi)(jA:¬D i)(hw:uq D oi)
  {r:Option Nat} {n:Nat} {Q:Exit->Act->World->Prop} {K:Act->World->Prop} (hK:∀M' a' w',Inv nt ops M0 h0 w0 S I (fun j=>D j∨j=i) M' a' w'->a'.defers=a.defers->K a' w') :
  wpOpIn (nN r) n P ops Q i K a w:=by
 by_cases hl:∃t m k,oi.op=.lookup t (.tmp m) (.tmp k) false∧oi.guard=none
 case neg=>
  refine a2x hC hZ h hi jA hw (fun o=>?_) hK;cases e:Bd oi o
  .rfl
  .obtain⟨t,m,k,e1,_,e3,_⟩:=IQ e;exact absurd ⟨t,m,k,e1,e3⟩ hl
 obtain⟨t,m,k,jf,hgd⟩:=hl;have hli:i<ops.size:=(a2p.1 hi).1;have hS:=hZ.step i oi hi;obtain⟨adP,⟨_,v,s1,q1,q2⟩|⟨q1,_⟩⟩:=hS
 case inr=>unfold BZ at q1;rw[hgd]at q1;cases q1
 simp only[pF,jf]at q1;split at q1
 case h_2=>cases q1
 rename_i mv kv e1 e2;simp only[a0e,a0t]at q1;obtain⟨z,e3,rfl,rfl,e4⟩:=q1;obtain⟨x,g1,g2⟩:=h.look hZ hi jA hw jf e1 e2 e3 fun r e=>by subst e;exact e4.symm
 have YA:(I i).ws=[]:=by rw[<-e4];rfl
 have yF:(S (i+1)).get=(S i).get:=by
  funext key
  rw[q2];cases key<;>cases oi.dst<;>rfl
 have hnW:∀key,¬Wk ops S I key i:=fun key hk=>by
  obtain⟨o,_,h1|⟨h1,h2⟩⟩:=hk
  .rw[YA]at h1;cases h1
  .rw[yF,h1]at h2;cases h2
 unfold wpOpIn;rw[hi];have hwd:Region.wanted oi (yielded ops a.tmps)=true:=by simp[Region.wanted,hgd]
 simp only[hwd,a2w];refine⟨fun f hf=>by simp[Oper.about,jf]at hf,?_⟩;have vI:(oi.semAt (nN r).round a.eval).run P w=.ok (.value x) w:=by
  simp only[a8q]at g1;simp[Oper.semAt,execOp,jf,Act.eval,g1]
 rw[vI,Oper.uponIn_value];refine hK M _ w ?_ jJ;refine{ h with
  closed:=fun j o ho hd e hm hb=>?_
  size:=by rw[Gz];exact h.size
  mem:=fun key l hk=>?_
  slot:=fun s=>?_
  Rj:=fun j o key ho hd hk=>?_
  marks:=fun d hd=>by rw[jJ]at hd;exact h.marks d hd
  apart:=by rw[jJ];exact h.apart }
 .rcases hd with hd|rfl
  .exact .inl (h.closed j o ho hd e hm hb)
  .rw[hi]at ho;cases ho;exact .inl (hw e hm hb)
 .obtain⟨τ,hτ,hg,b,h1,h2,h3⟩:=h.mem key l hk;exact⟨τ,hτ,hg.other (hnW key),b,h1,h2,h3⟩
 .by_cases hT:oi.dst=some s
  .refine⟨i+1,by omega,Good.next (W:=Wt ops s) ⟨oi,hi,hT⟩ (fun j hwt hc=>?_),fun e hl=>?_⟩
   .obtain⟨oj,hj,hd⟩:=hwt;exact(Oper.apart_spec (h.conf hZ hi hj jA hw hc).2.2).2.1 s hT hd
   .rw[q2,yU,a0p hT]at hl;cases hl;have h1:s<nt:=(hZ.step i oi hi).dst hT;have h2:=h.size;rw[yV,a0p ⟨hT,by omega⟩,yF];exact .val g2
  .obtain⟨τ,hτ,hg,h1⟩:=h.slot s;refine⟨τ,hτ,hg.other fun⟨o,ho,hd⟩=>?_,fun e hl=>?_⟩
   .rw[hi]at ho;cases ho;exact hT hd
   .rw[yV,a0o fun hh=>hT hh.1];exact h1 e hl
 .rcases hd with hd|rfl
  .exact h.Rj j o key ho hd hk
  .rw[YA]at hk;cases hk
theorem a5j(listed:Array Bool):∀k,TP listed k<=k
 | 0=>a1b _
 |k+1=>by have:=a5j listed k;simp only[TP];split<;>omega
theorem VX{listed:Array Bool}:∀{k:Nat},TP listed k=0->∀j,j<k->listed.getD j false=true
 | 0,_,j,hj=>by omega
 |k+1,h,j,hj=>by
  simp only[TP]at h;by_cases he:j=k
  .subst he;split at h
   .assumption
   omega
  exact VX (k:=k) (by omega) j (by omega)
theorem yY{listed:Array Bool}{i:Nat}(hi:i<listed.size)(j:Nat):(listed.setIfInBounds i true).getD j false=if j=i then true else listed.getD j false:=by
 simp only[a8q,a8R];by_cases h:i=j
 .subst h;simp[hi]
 simp[h,Ne.symm h]
theorem a0D{listed:Array Bool}{i:Nat}(hi:i<listed.size)(hn:listed.getD i false=false):∀k,TP (listed.setIfInBounds i true) k+(if i<k then 1 else 0)=TP listed k
 | 0=>by simp[TP]
 |k+1=>by
  have ih:=a0D hi hn k;simp only[TP,yY hi];by_cases he:k=i
  .subst he;simp only[a2w,hn];simp at ih ⊢;omega
  simp only[he,a3T];by_cases aQ:i<k
  .rw[a0p aQ]at ih;rw[a0p (by omega:i<k+1)];omega
  rw[a0o aQ]at ih;rw[a0o (by omega:¬i<k+1)];omega
theorem sO{listed:Array Bool}(uX:listed.size=ops.size){i:Nat}:i∈Region.ready .any ops listed↔∃o,ops[i]? = some o∧listed.getD i false=false∧uq (fun j=>listed.getD j false=true) o:=by
 simp only[Region.ready,a8J,a4s,a2o];constructor
 .rintro⟨h1,h2,h3⟩;refine⟨ops[i],a4c h1,?_,?_⟩
  .have hl:i<listed.size:=(by omega);simp only[Array.getD,hl,dite_true]at h2 ⊢;simpa using h2
  intro e he hb;rw[a4c h1]at h3;simp only[a0v,a5e,acW]at h3;have:=h3 e he;simpa[hb]using this
 rintro⟨o,ho,h2,h3⟩;have h1:i<ops.size:=(a2p.1 ho).1;refine⟨h1,?_,?_⟩
 .have hl:i<listed.size:=by omega
  simp only[Array.getD,hl,dite_true]at h2 ⊢;simpa using h2
 rw[ho];simp only[a0v,a5e,acW];intro e he;cases hb:Region.binds .any e with
 |false=>rfl
 |true=>simpa using h3 e he hb
theorem adQ(hC:iD P call)(hZ:iL P call site nt ops M0 h0 w0 S I){r:Option Nat}{n:Nat}{Q:Exit->Act->World->Prop}{ds:List Deferred}
  (hQ:∀M' a' w',Rel M0 h0 w0 nt M' (S ops.size) a' w'->a'.defers=ds->Q .normal a' w'):∀(fuel:Nat) (listed:Array Bool) (M:Mp) (a:Act) (w:World),listed.size=ops.size ->
  Inv nt ops M0 h0 w0 S I (fun j=>listed.getD j false=true) M a w->TP listed ops.size<=fuel->a.defers=ds->wpAnyIn (nN r) n P .any ops Q fuel listed a w:=by
 intro fuel;have Fq:∀(listed:Array Bool),listed.size=ops.size->Region.ready .any ops listed=[]->∀j,j<ops.size->listed.getD j false=true:=by
  intro listed uX hr j
  induction j using Nat.strongRecOn with
  |_ j ih=>
   intro hj;cases hd:listed.getD j false with
   |true=>rfl
   |false=>
    have:j∈Region.ready .any ops listed:=(sO uX).2 ⟨ops[j],a4c hj,hd,fun e he hb=>by
     have aQ:=VU hZ.stat (i:=j) (o:=ops[j]) (by simp) he hb;exact ih e.on aQ (by omega)⟩
    rw[hr]at this;cases this
 induction fuel with
 |zero=>
  intro listed M a w uX hI hu hd;have hz:=VX (Nat.le_zero.1 hu);refine⟨?_,hQ M a w (a0A hZ hI hz) hd⟩;refine a7h.2 fun i hi=>?_;obtain⟨o,ho,h1,_⟩:=(sO uX).1 hi;rw[hz i (a2p.1 ho).1]at h1;cases h1
 |succ fuel ih=>
  intro listed M a w uX hI hu hd;refine⟨fun hr=>hQ M a w (a0A hZ hI (Fq listed uX hr)) hd,fun i hi=>?_⟩;obtain⟨o,ho,h1,h2⟩:=(sO uX).1 hi;have hli:i<ops.size:=(a2p.1 ho).1;refine a5i hC hZ hI ho (by simp[h1]) h2 fun M' a' w' hI' YM=>ih _ M' a' w' (by simp[uX]) ?_ ?_ (YM.trans hd)
  .have:(fun j=>(listed.setIfInBounds i true).getD j false=true)=fun j=>listed.getD j false=true∨j=i:=by
    funext j
    rw[yY (by omega)];by_cases he:j=i
    .simp[he]
    .simp[he]
   rw[this];exact hI'
  .have:=a0D (listed:=listed) (i:=i) (by omega) h1 ops.size;rw[a0p hli]at this;omega
theorem YT(hC:iD P call)(hB:wI M0 h0 w0)(hm:P.follows .mixedOrders=true){r:Option Nat}{n:Nat}{Q:Exit->Act->World->Prop}{id:Nat}{s s':St}{is:List mg}{M:Mp}{a:Act}{w:World}
  (h:l7 P call site h0.length nt ops ops.toList s=some (s',is)) (hs:nK ops.toList=true) (hd:Bf is (mW ops.toList)=true) (hR:Rel M0 h0 w0 nt M s a w)
  (hQ:∀M' a' w',Rel M0 h0 w0 nt M' s' a' w'->a'.defers=a.defers->Q .normal a' w'):(Code.region id ops true).wpIn (nN r) n P Q a w:=by
 obtain⟨S,I,e1,e2,hZ⟩:=a5b hC hB h hR hs hd;refine wpIn_region_any hm ?_;have Fz:Rel M0 h0 w0 nt M (S 0) a { w with drawn:=w.drawn+1 }:=by
  rw[e1];exact⟨hR.val.of_heap rfl,hR.ext.drew rfl rfl rfl rfl,hR.env,hR.size,hR.marks,hR.apart⟩
 refine adQ hC hZ (ds:=a.defers) (fun M' a' w' hr hd=>hQ M' a' w' (by rw[e2]at hr;exact hr) hd) ops.size _ M a _ (by simp) ?_ (a5j _ _) rfl;have:(fun j=>(Array.replicate ops.size false).getD j false=true)=fun _=>False:=by
  funext j
  simp only[a8q,Array.getElem?_replicate];split<;>simp
 rw[this];exact a2v hZ Fz
end
theorem NU{F:Fence}{n:Nat}{P:Program}{Q:Exit->Act->World->Prop}{a:Act}{w:World}{c:Code}(h:c.wpIn F n P (Exit.noGoto Q) a w):(Code.scope c).wpIn F n P Q a w:=by
 intro b k cs hro hb hr;have h0:(lone (b.atR a (.code (.scope c)::k)) cs w).fenced P F:=fenced_calm hb hr rfl;have s0:step P (lone (b.atR a (.code (.scope c)::k)) cs w)=.next (lone (b.atR a (.code c::.inScope c::k)) cs w):=step_lone_go (by simp[stepG,stepG.exec,Frame.atR]);have s1:∀a1 w1,step P (lone (b.atR a1 (.inScope c::k)) cs w1)=.next (lone (b.atR a1 k) cs w1):=fun a1 w1=>step_lone_go (by simp[stepG,stepG.exec,Frame.atR]);obtain⟨e,a₁,w₁,hq,VP⟩:=h b (.inScope c::k) cs hro hb hr;cases e with
 |normal=>exact⟨.normal,a₁,w₁,hq,.head h0 s0 (StepsIn.trans VP (.one (fenced_calm hb hr rfl) (s1 _ _)))⟩
 |exit id'=>
  have hx:exitTo id' (.inScope c::k)=exitTo id' k:=by simp[exitTo]
  exact⟨.exit id',a₁,w₁,hq,fun k' hk=>.head h0 s0 (VP.1 k' (by rw[hx];exact hk)),
   fun hr' hk=>let ⟨k₁,h1,h2⟩:=VP.2 hr' (by rw[hx];exact hk);⟨k₁,h1,.head h0 s0 h2⟩⟩
 |goto l=>exact hq.elim
 |ret=>exact⟨_,a₁,w₁,hq,.of_steps (.one h0 s0) VP⟩
 |panic ch=>exact⟨_,a₁,w₁,hq,.of_steps (.one h0 s0) VP⟩
 |outgrown=>exact⟨_,a₁,w₁,hq,.of_steps (.one h0 s0) VP⟩
def YU:Ex->Exit
 |.norm=>.normal
 |.exit id=>.exit id
 |.ret=>.ret
theorem FB{t:Nat}{e:EV}{env:List (Nat×EV)}:∀{live:List Nat},dM t (pick live env)=some e->dM t env=some e
 | [],h=>by simp[pick,dM]at h
 |x::r,h=>by
  simp only[pick]at h;split at h
  .rename_i v hv;simp only[dM]at h;split at h
   .rename_i hx;subst hx;rw[hv,h]
   exact FB h
  exact FB h
theorem a5k{t k off:Nat}:∀{env:List (Nat×EV)},dM t env=some (.loc k off)->k<C9 env
 | [],h=>by simp[dM]at h
 |(x,v)::r,h=>by
  simp only[dM]at h;split at h
  .cases h;simp only[C9];omega
  have:=a5k h;cases v<;>simp only[C9]<;>omega
section
variable {M0:Mp} {h0:List HB} {w0:World} {nt:Nat} {M:Mp} {s:St} {a:Act} {w:World}
theorem Rel.pick(hR:Rel M0 h0 w0 nt M s a w)(live:List Nat):Rel M0 h0 w0 nt M { s with env:=Tw.pick live s.env } a w:=by
 have hg:St.get { s with env:=Tw.pick live s.env }=s.get:=getEnv s _ _;refine⟨by rw[hg];exact hR.val,by rw[hg];exact hR.ext,fun t e h=>hR.env t e (FB h),hR.size,?_,hR.apart⟩;rw[hg];exact hR.marks
def VY(n:Nat)(M:Mp):Mp
 |.h b=>M (.h b)
 |.l j=>if j<n then M (.l j)else none
theorem Rel.head(hB:wI M0 h0 w0)(hR:Rel M0 h0 w0 nt M s a w)(live:List Nat):Rel M0 h0 w0 nt (VY (C9 (Tw.pick live s.env)) M) (jW live s) a w:=by
 have hR:=hR.pick live;generalize he:Tw.pick live s.env=env at hR ⊢;have hs:jW live s={ s with env:=env,loc:=s.loc.take (C9 env) }:=by simp[jW,he]
 rw[hs];have oK:∀k l,VY (C9 env) M k=some l->M k=some l:=by
  intro k l h;cases k with
  |h b=>exact h
  |l j=>
   simp only[VY]at h;split at h
   .exact h
   cases h
 have yF:∀k l,VY (C9 env) M k=some l->St.get { s with env:=env,loc:=s.loc.take (C9 env) } k=St.get { s with env:=env } k:=by
  intro k l h;cases k with
  |h b=>rfl
  |l j=>
   simp only[VY]at h;split at h
   .rename_i hj;simp[St.get,hj]
   cases h
 refine⟨⟨?_,?_,fun k l hk=>hR.val.inb k l (oK k l hk)⟩,?_,?_,hR.size,?_,hR.apart⟩
 .intro k l hk _;obtain⟨b,h1,h2⟩:=hR.val.ok k l (oK k l hk) trivial;exact⟨b,by rw[yF k l hk];exact h1,h2⟩
 .intro k k' l l' b iC hk oD _ hb hw;rw[yF k l hk]at hb;exact hR.val.own k k' l l' b iC (oK k l hk) (oK k' l' oD) trivial hb hw
 .have hX:=hR.ext;have hk:∀k,(kX h0 k).isSome=true->∃b,k=.h b:=fun k h=>let ⟨b,e,_⟩:=Cm h;⟨b,e⟩
  exact
   {Iu:=fun k l h=>by
     cases k with
     |l j=>rw[hB.loc j]at h;cases h
     |h b=>exact hX.Iu _ _ h
    frame:=hX.frame
    nH:=fun k h hn=>by obtain⟨b,rfl⟩:=hk k h;exact hX.nH _ h hn
    l9:=fun k h hn=>by
     cases k with
     |h b=>exact hX.l9 (.h b) h hn
     |l j=>
      rw[hB.loc j];simp only[VY];split
      .rename_i hj;cases hm:M (.l j)with
       |none=>rfl
       |some l=>
        have h1:=hR.val.has hm;rcases h with h|h
        .obtain⟨b,hb⟩:=hk _ h;cases hb
        .have:=yF (.l j) l (by simp[VY,hj,hm]);rw[h]at this;rw[<-this]at h1;cases h1
      .rfl
    fresh:=fun k l h=>hX.fresh k l (oK k l h)
    size:=hX.size
    has:=fun k h=>by obtain⟨b,rfl⟩:=hk k h;exact hX.has _ h
    wsub:=hX.wsub
    wrote:=hX.wrote
    os:=hX.os
    output:=hX.output
    tape:=hX.tape }
 .intro t e h;have:=hR.env t e h;generalize a.tmps.getD t Go.undef=z at this;cases this with
  |val hv=>exact .val hv
  |undef=>exact .undef
  |loc hm hb=>
   have aQ:=a5k (env:=env) h;exact .loc (by simp[VY,aQ,hm]) hb
  |ent hm hi hv=>exact .ent (show M _=_ from hm) hi hv
  |Es hm hi=>exact .Es (show M _=_ from hm) hi
 intro d hd;obtain⟨k,r,h1,h2,h3,h4,h5⟩:=hR.marks d hd;exact⟨k,r,h1,h2,h3,h4,h5⟩
theorem a0E(hV:Valid M uM s.get w)(b:HB)(o:Obj)(QF:pK (dL M (.h s.heap.length) (.obj w.heap.size [])).h (w.alloc o) b (.obj w.heap.size [])) :
  Valid (dL M (.h s.heap.length) (.obj w.heap.size [])) uM (St.get { s with heap:=s.heap++[b] }) (w.alloc o) ∧
  Ext M s.get w (dL M (.h s.heap.length) (.obj w.heap.size [])) (St.get { s with heap:=s.heap++[b] }) (w.alloc o) []∧M (.h s.heap.length)=none:=by
 have yF:s.get (.h s.heap.length)=none:=by simp[St.get]
 have yO:M (.h s.heap.length)=none:=by
  cases h:M (.h s.heap.length)with
  |none=>rfl
  |some l=>have:=hV.has h;simp[yF]at this
 have hle:rZ M (dL M (.h s.heap.length) (.obj w.heap.size [])):=mJ fun l0 h0=>by rw[yO]at h0;cases h0
 have fZ:∀c,c<w.heap.size->c∉aI (.obj w.heap.size [])->(w.alloc o).heap[c]? = w.heap[c]?:=fun c hc _=>wB w _ c hc;have fP:∀c∈aI (.obj w.heap.size []),(∃l0,M (.h s.heap.length)=some l0∧c∈aI l0)∨w.heap.size<=c:=fun c hc=>.inr (by simp[aI]at hc;omega);rw[ku];exact⟨hV.upd _ _ _ (fun j _=>.inl trivial) (fun l0 h0=>by rw[yO]at h0;cases h0) fZ fP (by simp) QF,
  Ext.upd _ _ _ [] (.inr ⟨yF,yO,rfl⟩) hle fZ fP (by simp) rfl rfl rfl,yO⟩
theorem DW(hV:Valid M uM s.get w){k r:Nat}{q:List Nat}{b b':HB}{o':Obj}(hm:M (.h k)=some (.obj r q))(hb:s.heap[k]? = some b)(hw:wr b=true)
  (QF:pK M.h { w with heap:=w.heap.setIfInBounds r o' } b' (.obj r q)) :
  Valid M uM (St.get { s with heap:=s.heap.set k b' }) { w with heap:=w.heap.setIfInBounds r o' } ∧
  Ext M s.get w M (St.get { s with heap:=s.heap.set k b' }) { w with heap:=w.heap.setIfInBounds r o' } [.h k]:=by
 have hg:s.get (.h k)=some b:=by simp[St.get,hb]
 have yQ:=(a0c.1 hb).1;have qF:dL M (.h k) (.obj r q)=M:=IE hm;have fZ:∀c,c<w.heap.size->c∉aI (.obj r q)->(w.heap.setIfInBounds r o')[c]? = w.heap[c]?:=fun c _ hc=>by
  rw[a8R,a0o (by simp[aI]at hc;omega)]
 have fP:∀c∈aI (.obj r q),(∃l0,M (.h k)=some l0∧c∈aI l0)∨w.heap.size<=c:=fun c hc=>.inl ⟨_,hm,hc⟩;rw[jy s k _ yQ];constructor
 .have:=hV.upd (D':=uM) (w':={ w with heap:=w.heap.setIfInBounds r o' }) (.h k) b' (.obj r q) (fun j hj=>.inl hj) (fun l0 h0=>by
   rw[hm]at h0;cases h0;exact⟨trivial,.refl _,fun b0 zN=>by rw[hg]at zN;cases zN;exact hw⟩) fZ fP (by simp) (by rw[qF];exact QF)
  rwa [qF]at this
 .have:=Ext.upd (M:=M) (C:=s.get) (w:=w) (w':={ w with heap:=w.heap.setIfInBounds r o' }) (.h k) b' (.obj r q) [.h k] (.inl ⟨by simp[hg],rfl,by simp[hm],fun b0 zN=>by rw[hg]at zN;cases zN;exact hw⟩) (by rw[qF];exact .refl _) fZ fP (by simp) rfl rfl rfl
  rwa [qF]at this
theorem Rel.next(hB:wI M0 h0 w0)(hR:Rel M0 h0 w0 nt M s a w){M':Mp}{s':St}{w':World}{ks:List Key}(hV:Valid M' uM s'.get w')(hX:Ext M s.get w M' s'.get w' ks)
  (he:s'.env=s.env) (YA:s'.ws=jU h0.length ks s.ws) (hl:∀k l,M (.l k)=some l->M' (.l k)=some l):Rel M0 h0 w0 nt M' s' a w':=by
 refine⟨hV,?_,?_,hR.size,Rf hR hX,hR.apart⟩
 .refine hR.ext.trans hX (fun k l hk=>hB.val.has hk) (fun k hk EK=>?_) (fun k hk=>?_)
  .obtain⟨b,rfl,hb⟩:=Cm hk;rw[YA];refine a1l.2 ⟨b,oH.2 ?_,rfl⟩;rcases EK with h1|h1
   .obtain⟨b',h2,h3⟩:=a1l.1 h1;cases h3;exact .inl h2
   .exact .inr ⟨h1,hb⟩
  .rw[YA]at hk;obtain⟨b,hb,rfl⟩:=a1l.1 hk;rcases oH.1 hb with h1|⟨h1,h2⟩
   .have:Key.h b∈s.ws.map .h:=a1l.2 ⟨b,h1,rfl⟩;exact⟨hR.ext.wsub _ this,.inl this⟩
   .exact⟨YP h2,.inr h1⟩
 .rw[he];intro t e h;exact(hR.env t e h).mono hX.Iu hl
theorem Rel.long(hR:Rel M0 h0 w0 nt M s a w):h0.length<=s.heap.length:=by
 refine ad3 fun h=>?_;have:=hR.ext.has _ (YP h);simp[St.get]at this
end
theorem least{J:Nat->Prop}(h:∃k,J k):∃k,J k∧∀j,J j->k<=j:=by
 obtain⟨k,hk⟩:=h
 induction k using Nat.strongRecOn with
 |_ k ih=>
  by_cases hj:∃j,j<k∧J j
  .obtain⟨j,h1,h2⟩:=hj;exact ih j h1 h2
  exact⟨k,hk,fun j h=>ad3 fun aQ=>hj ⟨j,aQ,h⟩⟩
def leastOf(J:Nat->Prop):Nat:=open Classical in if h:∃k,J k then Classical.choose (least h)else 0
theorem leastOf_spec{J:Nat->Prop}(h:∃k,J k):J (leastOf J)∧∀j,J j->leastOf J<=j:=by
 unfold leastOf;rw[dif_pos h];exact a96 (least h)
section
variable {P:Program} {T:qJ} {call:aY} {L f:Nat} {gW:Bool} {nt:Nat} {M0:Mp} {h0:List HB} {w0:World} {r:Option Nat}
def U8(P:Program)(M0:Mp)(h0:List HB)(w0:World)(nt:Nat)(r:Option Nat)(c:Code)(s:St)(e:Ex)(s':St):Prop:=
 ∀(n:Nat) (Q:Exit->Act->World->Prop) (M:Mp) (a:Act) (w:World),Rel M0 h0 w0 nt M s a w->(∀M' a' w',Rel M0 h0 w0 nt M' s' a' w'->Q (YU e) a' w')->c.wpIn (nN r) n P Q a w
theorem LP(hB:wI M0 h0 w0){c:Code}{live:List Nat}{g:St->Option (Ex×St)}(ih:∀s e s',g s=some (e,s')->U8 P M0 h0 w0 nt r c (jW live s) e s'){k:Nat}{s:St}{e:Ex}{s':St}
  (h:iter g k s=some (e,s')):U8 P M0 h0 w0 nt r (.loop c) s e s':=by
 intro n Q M a w hR hQ
 let J:Act->World->Nat->Prop:=fun a w k=>∃s M,iter g k s=some (e,s')∧Rel M0 h0 w0 nt M s a w
 refine wpIn_loop (fun a w=>∃k,J a w k) (fun a w=>leastOf (J a w)) ⟨k,s,M,h,hR⟩ ?_;intro a1 w1 hI;obtain⟨⟨s1,M1,Qj,xG⟩,_⟩:=leastOf_spec hI;generalize leastOf (J a1 w1)=k1 at Qj ⊢;cases k1 with
 |zero=>simp[iter]at Qj
 |succ k1=>
  simp only[iter]at Qj;split at Qj
  .rename_i s2 hg;refine ih s1 .norm s2 hg n _ _ a1 w1 (xG.head hB live) fun M2 a2 w2 Rk=>?_;have hJ:J a2 w2 k1:=⟨s2,M2,Qj,Rk⟩;exact⟨⟨k1,hJ⟩,Nat.lt_succ_of_le ((leastOf_spec ⟨k1,hJ⟩).2 k1 hJ)⟩
  .rename_i iC;refine ih s1 e s' Qj n _ _ a1 w1 (xG.head hB live) fun M2 a2 w2 Rk=>?_;cases e with
   |norm=>exact(iC s' Qj).elim
   |exit id=>exact hQ M2 a2 w2 Rk
   |ret=>exact hQ M2 a2 w2 Rk
theorem a2A{env:List (Nat×EV)}(h:env.all isVal=true){t:Nat}{e:EV}(hl:dM t env=some e):(∃v,e=.val v)∨e=.undef:=by
 induction env with
 |nil=>simp[dM]at hl
 |cons x r ih=>
  obtain⟨k,v⟩:=x;simp only[abP,a2o]at h;simp only[dM]at hl;split at hl
  .cases hl;cases e with
   |val v=>exact .inl ⟨v,rfl⟩
   |undef=>exact .inr rfl
   |_=>simp[isVal]at h
  exact ih h.2 hl
theorem Rl(hB:wI M0 h0 w0){g:Operand}{ps:Array Tmp}{uJ body:Code}{s:St}{f1:FuncId}{a1 b1:List TV}{K:TV->List HB->List Nat->Prop}{QT:Ex->St->Prop}
  (hg:qM s.env g=some (.fn f1 a1 b1)) (hv:s.env.all isVal=true)
  (hC:∀(M:Mp) (w:World) (x:Value) (xs:List Value),Valid M uM (kX (s.heap++[.mark,.loop true f nt s.env ps.toList uJ body none])) w->(∀k,M (.l k)=none)->VR M.h (.fn f1 a1 b1) x->bU M.h [.kP (s.heap.length+1)] xs ->
   ∃d,(∀w,(Deferred.ofValue x xs.toArray).run P w=.ok d w)∧LG P d w fun y w'=>∃v h ws,K v h ws∧jI M (s.heap++[.mark,.loop true f nt s.env ps.toList uJ body none]) w v h ws y w')
  (hK:∀v h ws,K v h ws->∃rd f2 Qd e2 Cb a2 b2 jH e,h[s.heap.length+1]? = some (.loop rd f2 Qd e2 Cb a2 b2 jH)∧QE rd jH=some e∧QT e { s with heap:=h.set (s.heap.length+1) (.loop false f2 Qd e2 Cb a2 b2 (some .skip)),ws:=jU h0.length (ws.map .h) s.ws })
  (n:Nat) (Q:Exit->Act->World->Prop) (M:Mp) (a:Act) (w:World) (hR:Rel M0 h0 w0 nt M s a w) (hQ:∀e s' M' a' w',QT e s'->Rel M0 h0 w0 nt M' s' a' w'->Q (YU e) a' w'):(Code.rangeFunc g ps uJ body).wpIn (nN none) n P Q a w:=by
 refine wpIn_rangeFunc fun fn _=>?_
 let lp:Loop:={ state:=.ready,pending:=none,fn:=fn,tmps:=a.tmps,params:=ps,assign:=uJ,body:=body,defers:=w.heap.size }
 let w1:=(w.alloc (.deferred (some []))).alloc (.loop lp)
 obtain⟨v1,x1,n1⟩:=a0E hR.val .mark (.deferred (some [])) (show w.heap.size<(w.alloc _).heap.size by simp)
 let M1:=dL M (.h s.heap.length) (.obj w.heap.size [])
 let s1:St:={ s with heap:=s.heap++[.mark] }
 have xG:Rel M0 h0 w0 nt M1 s1 a (w.alloc (.deferred (some []))):=hR.next hB v1 x1 rfl rfl (qR n1);have a0F:s1.heap.length=s.heap.length+1:=by simp[s1]
 have anf:(w.alloc (.deferred (some []))).heap.size=w.heap.size+1:=by simp
 have ang:pK (dL M1 (.h s1.heap.length) (.obj (w.alloc (.deferred (some []))).heap.size [])).h w1 (.loop true f nt s.env ps.toList uJ body none) (.obj (w.alloc (.deferred (some []))).heap.size []):=by
  refine⟨lp,heap_alloc_new _ _,?_⟩;exact
   {ps:=rfl,uJ:=rfl,body:=rfl,size:=hR.size
    KU:=fun t v hl=>by
     have h1:=(xG.env t _ hl).vG;have hm:rZ M1 (dL M1 (.h s1.heap.length) (.obj (w.alloc (.deferred (some []))).heap.size [])):=mJ fun l0 h0=>by
      rw[xG.nh]at h0;cases h0
     exact h1.mono hm.h
    TP:=fun t hl=>by
     have h1:=hR.env t _ hl;show a.tmps.getD t Go.undef=Go.undef;generalize a.tmps.getD t Go.undef=z at h1;cases h1;rfl
    nol:=fun t e hl=>by rcases a2A hv hl with⟨v,e⟩|e<;>cases e<;>rfl
    ready:=fun _=>⟨rfl,rfl⟩
    busy:=by simp
    done:=by simp }
 obtain⟨v2,x2,n2⟩:=a0E xG.val (.loop true f nt s.env ps.toList uJ body none) (.loop lp) ang
 let M2:=dL M1 (.h s1.heap.length) (.obj (w.alloc (.deferred (some []))).heap.size [])
 let s2:St:={ s1 with heap:=s1.heap++[.loop true f nt s.env ps.toList uJ body none] }
 have a2B:Rel M0 h0 w0 nt M2 s2 a w1:=xG.next hB v2 x2 rfl rfl (qR n2);have ark:=hR.long;have hmk:M2 (.h s.heap.length)=some (.obj w.heap.size []):=by
  simp only[M2,M1,dL,a0F];simp
 have Rk:Rel M0 h0 w0 nt M2 s2 { a with defers:=[{ target:=.collected w.heap.size,args:=#[] }]++a.defers } w1:=by
  refine⟨a2B.val,a2B.ext,a2B.env,a2B.size,fun d hd=>?_,?_⟩
  .rcases a2y.1 hd with rfl|hd
   .refine⟨s.heap.length,w.heap.size,rfl,by simp[kX,St.get];omega,⟨_,hmk⟩,by simp[s2,s1,St.get],?_⟩;have e1:w1.heap[w.heap.size]? = (w.alloc (.deferred (some []))).heap[w.heap.size]?:=wB _ _ _ (by simp);rw[e1];exact heap_alloc_new _ _
   .exact a2B.marks d hd
  .refine List.pairwise_cons.2 ⟨fun d hd e=>?_,a2B.apart⟩;obtain⟨k,r',e1,_,_,_,e5⟩:=hR.marks d hd;rw[e1]at e;have:w.heap.size=r':=by injection e with e e';injection e
   have:=(a2p.1 e5).1;omega
 have QH:M2 (.h (s.heap.length+1))=some (.obj (w.heap.size+1) []):=by
  simp only[M2,dL,a0F,anf,a2w]
 have anh:s2.heap=s.heap++[.mark,.loop true f nt s.env ps.toList uJ body none]:=by simp[s2,s1]
 rw[<-anh]at hC;have hV2:=Fv Rk.val (fun _ _ _=>trivial);have hgx:VR M2.only.h (.fn f1 a1 b1) (a.eval g):=(YD Rk.env hg);have hyx:bU M2.only.h [.kP (s.heap.length+1)] [.func (.yield (w.heap.size+1)) #[] #[]]:=.cons (.kP QH) .nil;obtain⟨d,hd,uY⟩:=hC M2.only w1 (a.eval g) [.func (.yield (w.heap.size+1)) #[] #[]] hV2 (fun _=>rfl) hgx hyx;obtain⟨f3,as3,hinv,qm⟩:=uY;refine⟨w.heap.size+1,[{ target:=.collected w.heap.size,args:=#[] }],w1,d,w1,f3,as3,w1,?_,?_,fun _ _=>trivial,hinv,fun h=>by simp[Fence.wide]at h,?_⟩
 .simp[Instr.enterLoop,newObj,Sem.run,w1,lp]
 .have:=hd w1;simpa[resolve,rangeCall,Act.eval]using this
 .refine CallsIn.mono (F:=nN none) (qm (n-1)) fun en w3 VZ=>?_;cases en with
  |panicked c=>exact VZ.elim
  |outgrown=>exact VZ.elim
  |returned y=>
   obtain⟨v,h,ws,hk,VZ⟩:=VZ;obtain⟨rd,f2,Qd,e2,Cb,a2,b2,jH,e,hh,hj,hq⟩:=hK v h ws hk;obtain⟨M3,hp⟩:=QZ Rk.val Rk.loc (show jI M2.only s2.heap w1 v h ws y w3 from VZ);have hR3:Rel M0 h0 w0 nt M3 { s2 with heap:=h,ws:=jU h0.length (ws.map .h) s.ws } _ w3:=Rk.next hB (s':={ s2 with heap:=h,ws:=jU h0.length (ws.map .h) s.ws }) (hp.val.sub fun _ _=>.inl trivial) hp.ext rfl rfl hp.loc;obtain⟨l',g1,g2⟩:=hp.ext.Iu _ _ QH;obtain⟨q3,hl3⟩:∃q3,M3 (.h (s.heap.length+1))=some (.obj (w.heap.size+1) q3):=by
    cases l' with
    |cells ls=>exact g2.elim
    |obj r' o'=>cases g2.1;exact⟨o',g1⟩
   obtain⟨fU,k1,k2⟩:=hR3.val.ok _ _ hl3 trivial;have k1':fU=.loop rd f2 Qd e2 Cb a2 b2 jH:=by
    simp only[St.get,hh,a05]at k1;exact k1.symm
   subst k1';obtain⟨lp3,l1,l2⟩:=k2;have hnb:lp3.state≠.busy∧lp3.pending=sK e:=by
    unfold QE at hj;split at hj
    .cases hj;obtain⟨q1,q2⟩:=l2.ready rfl;exact⟨by rw[q1];simp,q2⟩
    .cases hj;obtain⟨q1,q2⟩:=l2.done rfl _ rfl (by simp);exact⟨by rw[q1];simp,q2⟩
    .cases hj;obtain⟨q1,q2⟩:=l2.done rfl _ rfl (by simp);exact⟨by rw[q1];simp,q2⟩
    .cases hj
   obtain⟨v4,x4⟩:=DW (s:={ s2 with heap:=h,ws:=jU h0.length (ws.map .h) s.ws }) hR3.val hl3 hh rfl (b':=.loop false f2 Qd e2 Cb a2 b2 (some .skip)) (o':=.loop { lp3 with state:=.exhausted }) ⟨{ lp3 with state:=.exhausted },by simp[(a2p.1 l1).1],
    {ps:=l2.ps,uJ:=l2.uJ,body:=l2.body,size:=l2.size,KU:=l2.KU,TP:=l2.TP,nol:=l2.nol,ready:=by simp,busy:=by simp,done:=fun _ j hj iC=>by simp at hj;exact absurd hj.symm iC }⟩
   have hR4:=hR3.next hB (s':={ s with heap:=h.set (s.heap.length+1) (.loop false f2 Qd e2 Cb a2 b2 (some .skip)),ws:=jU h0.length (ws.map .h) s.ws }) v4 x4 rfl
    (by simp only[jU,Et];rw[a0o (by omega)]) (fun _ _ h=>h)
   refine⟨lp3.pending,{ w3 with heap:=w3.heap.setIfInBounds (w.heap.size+1) (.loop { lp3 with state:=.exhausted }) },?_,?_⟩
   .have h1:=hnb.1;cases vT:lp3.state<;>simp_all [Instr.endLoop,Instr.getLoop,getObj,setObj,Sem.run]<;>rfl
   .have h2:=hQ _ _ _ _ _ hq hR4;have h3:=hnb.2;generalize lp3.pending=pe at h2 h3 ⊢;subst h3;cases e with
    |norm=>exact h2
    |ret=>exact wpIn_ret h2
    |exit id=>exact wpIn_exit h2
theorem a5l(hC:iD P call)(hB:wI M0 h0 w0){g:Operand}{ps:Array Tmp}{uJ body:Code}{s s':St}{e:Ex}{f1:FuncId}{a1 b1:List TV}{v:TV}{h:List HB}{ws:List Nat}{rd:Bool}{f2 Qd:Nat}{e2:List (Nat×EV)}{Cb:List Nat}{a2 b2:Code}{jH:Option Code}
  (hg:qM s.env g=some (.fn f1 a1 b1)) (hv:s.env.all isVal=true) (xY:call (.fn f1 a1 b1) [.kP (s.heap.length+1)] (s.heap++[.mark,.loop true f nt s.env ps.toList uJ body none])=some (v,h,ws))
  (hh:h[s.heap.length+1]? = some (.loop rd f2 Qd e2 Cb a2 b2 jH)) (hj:QE rd jH=some e)
  (hs:s'={ s with heap:=h.set (s.heap.length+1) (.loop false f2 Qd e2 Cb a2 b2 (some .skip)),ws:=jU h0.length (ws.map .h) s.ws }) :
  U8 P M0 h0 w0 nt none (.rangeFunc g ps uJ body) s e s':=by
 intro n Q M a w hR hQ;refine Rl (f:=f) (s:=s) hB (K:=fun v' h' TQ=>v'=v∧h'=h∧TQ=ws) (QT:=fun e1 s1=>e1=e∧s1=s') hg hv (fun M w x xs hV hl hx NP=>?_) ?_ n Q M a w hR ?_
 .obtain⟨d,hd,uY⟩:=hC _ _ _ _ _ _ xY M w x xs hV hl hx NP;refine⟨d,hd,?_⟩;rcases uY with⟨⟨f3,as3,h1,h2⟩,_⟩|⟨_,_,hx⟩
  .refine⟨f3,as3,h1,fun n=>CallsIn.mono (F:=nN none) (h2 n) fun en w3 VZ=>?_⟩;cases en with
   |panicked c=>exact VZ.elim
   |outgrown=>exact VZ.elim
   |returned y=>exact⟨v,h,ws,⟨rfl,rfl,rfl⟩,VZ⟩
  .cases hx
 .rintro _ _ _ ⟨rfl,rfl,rfl⟩;exact⟨_,_,_,_,_,_,_,_,_,hh,hj,rfl,hs.symm⟩
 .rintro _ _ M' a' w' ⟨rfl,rfl⟩ Fz;exact hQ M' a' w' Fz
theorem vJ(hm:P.follows .mixedOrders=true)(hC:iD P call)(hB:wI M0 h0 w0)(hr:gW=false->r=none):∀(c:Code) (s s':St) (e:Ex),exec P T call L f gW h0.length nt c s=some (e,s')->U8 P M0 h0 w0 nt r c s e s':=by
 intro c
 induction c with
 |skip=>
  intro s s' e h n Q M a w hR hQ;simp only[exec,a05,a0t]at h;obtain⟨rfl,rfl⟩:=h;exact wpIn_skip (hQ _ _ _ hR)
 |label l=>
  intro s s' e h n Q M a w hR hQ;simp only[exec,a05,a0t]at h;obtain⟨rfl,rfl⟩:=h;exact wpIn_label (hQ _ _ _ hR)
 |exit id=>
  intro s s' e h n Q M a w hR hQ;simp only[exec,a05,a0t]at h;obtain⟨rfl,rfl⟩:=h;exact wpIn_exit (hQ _ _ _ hR)
 |ret=>
  intro s s' e h n Q M a w hR hQ;simp only[exec,a05,a0t]at h;obtain⟨rfl,rfl⟩:=h;exact wpIn_ret (hQ _ _ _ hR)
 |region id ops draw=>
  intro s s' e h n Q M a w hR hQ;simp only[exec]at h;split at h
  .rename_i s1 xC vI;split at h
   .rename_i hd;simp only[a05,a0t]at h;obtain⟨rfl,rfl⟩:=h;cases draw with
    |false=>exact a2t hC hB vI hR fun M' a' w' Fz _=>hQ _ _ _ (Fz.pick _)
    |true=>
     simp only[a8U,agA,a2o]at hd;exact YT hC hB hm vI hd.1 hd.2 hR fun M' a' w' Fz _=>hQ _ _ _ (Fz.pick _)
   simp at h
  simp at h
 |seq x y W9 ihy=>
  intro s s' e h n Q M a w hR hQ;simp only[exec]at h;split at h
  .rename_i s1 hx;exact wpIn_seq (W9 s s1 .norm hx n _ M a w hR fun M1 a1 w1 xG=>ihy s1 s' e h n Q M1 a1 w1 xG hQ)
  rename_i iC;refine wpIn_seq (W9 s s' e h n _ M a w hR fun M1 a1 w1 xG=>?_);cases e with
  |norm=>exact(iC s' h).elim
  |exit id=>exact hQ _ _ _ xG
  |ret=>exact hQ _ _ _ xG
 |cond c x y W9 ihy=>
  intro s s' e h n Q M a w hR hQ;simp only[exec]at h;have hev:∀b,qM s.env c=some (.bool b)->a.eval c=.bool b:=by
   intro b hb;have:=YD hR.env hb;generalize a.eval c=z at this;cases this;rfl
  split at h
  .rename_i hc;exact wpIn_cond_true (hev _ hc) (W9 s s' e h n Q M a w hR hQ)
  .rename_i hc;exact wpIn_cond_false (hev _ hc) (ihy s s' e h n Q M a w hR hQ)
  simp at h
 |block id b ih=>
  intro s s' e h n Q M a w hR hQ;simp only[exec]at h;split at h
  .rename_i i s1 hb;simp only[a05,a0t]at h;obtain⟨rfl,rfl⟩:=h;refine wpIn_block (ih s s1 (.exit i) hb n _ M a w hR fun M1 a1 w1 xG=>?_);have:=hQ _ _ _ xG;by_cases hi:i=id
   .simp only[hi,a2w]at this;simp only[YU,Exit.inBlock,hi,a2w];exact this
   simp only[hi,a3T]at this;simp only[YU,Exit.inBlock,hi,a3T];exact this
  rename_i iC;refine wpIn_block (ih s s' e h n _ M a w hR fun M1 a1 w1 xG=>?_);cases e with
  |norm=>exact hQ _ _ _ xG
  |exit i=>exact(iC i s' h).elim
  |ret=>exact hQ _ _ _ xG
 |scope b ih=>
  intro s s' e h n Q M a w hR hQ;simp only[exec]at h;refine NU (ih s s' e h n _ M a w hR fun M1 a1 w1 xG=>?_);have:=hQ _ _ _ xG;cases e<;>exact this
 |loop b ih=>
  intro s s' e h;simp only[exec]at h;exact LP hB (live:=T.eH f (dV b)) (fun s e s' hs=>ih _ _ _ hs) h
 |rangeFunc g ps uJ body iha ihb=>
  intro s s' e h;simp only[exec]at h;split at h
  .rename_i f1 a1 b1 hg;split at h
   .rename_i hv;simp only[a2o,a8t]at hv;rw[hr hv.2];split at h
    .rename_i v h1 ws xY;split at h
     .rename_i rd f2 Qd e2 Cb a2 b2 jH hh;split at h
      .rename_i e' hj;simp only[a05,a0t]at h;obtain⟨rfl,rfl⟩:=h;exact a5l hC hB hg hv.1 xY hh hj rfl
      simp at h
     simp at h
    simp at h
   simp at h
  simp at h
 |_=>intro s s' e h;simp[exec]at h
end
def a2C(tmps:Array Value):ResultVar->Sem Value
 |.tmp t=>pure (tmps.getD t Go.undef)
 |.cell b t=>do loadVar t (<-asAddr (tmps.getD b Go.undef))
theorem YV(fn:Func)(tmps:Array Value):results fn tmps=(do
  let vs <-fn.results.mapM (a2C tmps)
  pure (if h:vs.size=1 then vs[0]else .tuple vs)):=by
 have key:∀g:ResultVar->Sem Value,(∀r,g r=a2C tmps r)->(do
   let vs <-fn.results.mapM g
   pure (if h:vs.size=1 then vs[0]else Value.tuple vs):Sem Value)=(do
   let vs <-fn.results.mapM (a2C tmps)
   pure (if h:vs.size=1 then vs[0]else Value.tuple vs)):=fun g hg=>by rw[show g=a2C tmps from funext hg]
 exact key _ fun r=>by cases r<;>rfl
section
variable {P:Program} {T:qJ} {call:aY} {L:Nat} {nt:Nat} {M0:Mp} {h0:List HB} {w0:World} {M:Mp} {s:St} {a:Act} {w:World}
theorem IU(hR:Rel M0 h0 w0 nt M s a w){r:ResultVar}{v:TV}(h:a4y P s r=some v) :
  ∃x,VR M.h v x∧(a2C a.tmps r).run P w=.ok x w:=by
 unfold a4y at h;split at h
 .rename_i t;split at h
  .rename_i v' hv;simp only[a05]at h;subst h;exact⟨_,(hR.env t _ hv).vG,rfl⟩
  .simp at h
 .rename_i b t;split at h
  .rename_i e he;simp only[a0e]at h;obtain⟨⟨v',i⟩,hl,rfl⟩:=h;have hx:=hR.env b _ he;obtain⟨_,y,h1,h2⟩:=Gp hR.val hl hx (fun _ _=>trivial);refine⟨y,h1,?_⟩;show(do loadVar t (<-asAddr (a.tmps.getD b Go.undef)):Sem Value).run P w=_;generalize a.tmps.getD b Go.undef=z at hx h2;have hz:∃ad,z=.pointer (some ad):=by
    cases hx with
    |loc hm hb=>exact⟨_,rfl⟩
    |undef|ent|Es=>simp[loadT]at hl
    |val hv=>
     cases hv with
     |ptr=>exact⟨_,rfl⟩
     |_=>simp[loadT]at hl
   obtain⟨ad,rfl⟩:=hz;simpa[asAddr,Instr.loadAt,Instr.sureAddr]using h2
  .simp at h
theorem a0G(hR:Rel M0 h0 w0 nt M s a w):∀{rs:List ResultVar} {vs:List TV},xO P s rs=some vs ->
  ∃xs,bU M.h vs xs∧(rs.mapM (a2C a.tmps)).run P w=.ok xs w
 | [],vs,h=>by simp[xO]at h;subst h;exact⟨[],.nil,by simp⟩
 |r::rs,vs,h=>by
  simp only[xO]at h;split at h
  .rename_i v vs' h1 h2;simp only[a05]at h;subst h;obtain⟨x,g1,g2⟩:=IU hR h1;obtain⟨xs,g3,g4⟩:=a0G hR h2;exact⟨x::xs,.cons g1 g3,by simp only[List.mapM_cons,Sem.run_bind,g2,g4,Result.andThen_ok,Sem.run_pure]⟩
  .simp at h
theorem NV(hR:Rel M0 h0 w0 nt M s a w){fn:Func}{vs:List TV}(h:xO P s fn.results.toList=some vs):∃y,VR M.h (one vs) y∧(results fn a.tmps).run P w=.ok y w:=by
 obtain⟨xs,h1,h2⟩:=a0G hR h;have vI:(results fn a.tmps).run P w=.ok (if h:xs.toArray.size=1 then xs.toArray[0]else .tuple xs.toArray) w:=by
  rw[YV,Array.mapM_eq_mapM_toList];simp only[Sem.run_bind,Sem.run_map,h2,Result.andThen_ok,Sem.run_pure]
 refine⟨_,?_,vI⟩
 match vs,xs,h1 with
 | [],xs,h1=>
  have:=h1.qc;subst this;exact .Qe .nil
 | [v],xs,h1=>
  obtain⟨x,xs',rfl,hx,Fg⟩:=h1.iK;have:=Fg.qc;subst this;exact hx
 |v::v'::vs,xs,h1=>
  obtain⟨x,xs',rfl,hx,Fg⟩:=h1.iK;obtain⟨x',atu,rfl,hy,hy'⟩:=Fg.iK;simp only[one,List.size_toArray,a4i];rw[dif_neg (by omega)];exact .Qe h1
theorem a2D(hB:wI M0 h0 w0){d:Deferred}{ds:List Deferred}(hR:Rel M0 h0 w0 nt M s a w)(hd:a.defers=d::ds) :
  ∃r w',d.target=.collected r∧(Instr.takeDeferred r).run P w=.ok [] w'∧Rel M0 h0 w0 nt M s { a with defers:=ds } w':=by
 obtain⟨k,r,rfl,h2,⟨o,h3⟩,h4,h5⟩:=hR.marks d (by rw[hd];exact a3m);have aQ:=(a2p.1 h5).1;have hap:=hR.apart;rw[hd]at hap;obtain⟨ha1,ha2⟩:=List.pairwise_cons.1 hap;refine⟨r,{ w with heap:=w.heap.setIfInBounds r (.deferred none) },rfl,?_,?_⟩
 .simp[Instr.takeDeferred,getObj,setObj,Sem.run,h5]
 have YW:∀c,c≠r->(w.heap.setIfInBounds r (.deferred none))[c]? = w.heap[c]?:=fun c hc=>by
  rw[a8R,a0o (fun e=>hc e.symm)]
 refine⟨⟨?_,hR.val.own,fun k l hk c hc=>by simpa using hR.val.inb k l hk c hc⟩,?_,hR.env,hR.size,?_,ha2⟩
 .intro k' l oD _;obtain⟨b,g1,g2⟩:=hR.val.ok k' l oD trivial;refine⟨b,g1,?_⟩;by_cases EK:r∈aI l
  .cases b with
   |cells kk cs=>
    cases l with
    |obj r' _=>exact g2.elim
    |cells ls=>
     obtain⟨p,hp,e⟩:=a1l.1 EK;obtain⟨arr,ty,fz,e1,_⟩:=(g2.2.1 p hp).row;rw[e,h5]at e1;cases e1
   |ng cs=>
    cases l with
    |obj r' _=>exact g2.elim
    |cells ls=>
     obtain⟨p,hp,e⟩:=a1l.1 EK;obtain⟨_,_,g2⟩:=g2;obtain⟨arr,ty,fz,e1,_⟩:=(g2.2.1 p hp).row;rw[e,h5]at e1;cases e1
   |map es=>
    cases l with
    |cells ls=>exact g2.elim
    |obj r' _=>
     simp[aI]at EK;subst EK;obtain⟨xs,e1,_⟩:=g2;rw[h5]at e1;cases e1
   |cZ m n seen=>
    cases l with
    |cells ls=>exact g2.elim
    |obj r' _=>
     simp[aI]at EK;subst EK;obtain⟨_,_,_,_,e1,_⟩:=g2;rw[h5]at e1;cases e1
   |loop rd f nt env ps a b jH=>
    cases l with
    |cells ls=>exact g2.elim
    |obj r' _=>
     simp[aI]at EK;subst EK;obtain⟨lp,e1,_⟩:=g2;rw[h5]at e1;cases e1
   |mark=>
    cases l with
    |cells ls=>exact g2.elim
    |obj r' _=>
     show r'<(w.heap.setIfInBounds r (.deferred none)).size;have g2':r'<w.heap.size:=g2;simpa using g2'
  .exact g2.mono (.refl _) fun c hc=>YW c fun e=>EK (e▸hc)
 .have hX:=hR.ext;refine⟨hX.Iu,fun c hc hf=>?_,hX.nH,hX.l9,hX.fresh,by simpa using hX.size,hX.has,hX.wsub,hX.wrote,hX.os,hX.output,hX.tape⟩;rw[<-hX.frame c hc hf];refine YW c fun e=>?_;obtain⟨l0,g1,_⟩:=hX.fresh _ _ h3 c (by simp[aI,e]) hc;have:=hB.val.has g1;rw[h2]at this;cases this
 .intro d' YM;obtain⟨k',r',e1,e2,e3,e4,e5⟩:=hR.marks d' (by rw[hd];exact a3n _ YM);refine⟨k',r',e1,e2,e3,e4,?_⟩;rw[YW r' fun e=>ha1 d' YM (by rw[e1,e]),e5]
theorem NW(hB:wI M0 h0 w0){F:Fence}{n:Nat}{fn:Func}{R:Ending->World->Prop}:∀(ds:List Deferred) (a:Act) (w:World),a.defers=ds->Rel M0 h0 w0 nt M s a w ->
  (∀w',Rel M0 h0 w0 nt M s { a with defers:=[] } w'->∃v,(results fn a.tmps).run P w'=.ok v w'∧R (.returned v) w')->LeavesInM F n P fn a.tmps R ds .returning w
 | [],a,w,hd,hR,hK=>by
  simp only[LeavesInM,LeavesIn];exact hK w (by
   have:a={ a with defers:=[] }:=by cases a;simp at hd;subst hd;rfl
   rw[<-this];exact hR)
 |d::ds,a,w,hd,hR,hK=>by
  obtain⟨r,w',h1,h2,h3⟩:=a2D (P:=P) hB hR hd;refine⟨by simp,.inl ⟨r,w',h1,h2,?_⟩⟩;exact NW hB ds { a with defers:=ds } w' rfl h3 hK
end
section
variable {P:Program} {T:qJ} {call:aY} {L:Nat} {nt:Nat} {M:Mp} {h:List HB} {w:World} {M':Mp} {s:St} {a:Act} {w':World}
theorem YX(hB:wI M h w)(hR:Rel M h w nt M' s a w'){v:TV}{y:Value}(hv:VR M'.h v y):jI M h w v s.heap s.ws y w':=by
 refine⟨M'.only,Fv hR.val (fun _ _ _=>trivial),fun _=>rfl,?_,hv⟩;have hX:=hR.ext;have hk:∀k,(kX h k).isSome=true->∃b,k=.h b:=fun k hk=>let ⟨b,e,_⟩:=Cm hk;⟨b,e⟩
 exact
  {Iu:=fun k l hl=>by
    cases k with
    |l j=>rw[hB.loc j]at hl;cases hl
    |h b=>exact hX.Iu _ _ hl
   frame:=hX.frame
   nH:=fun k e hn=>by obtain⟨b,rfl⟩:=hk k e;exact hX.nH _ e hn
   l9:=fun k e hn=>by
    cases k with
    |h b=>exact hX.l9 (.h b) e hn
    |l j=>exact(hB.loc j).symm
   fresh:=fun k l hl=>by
    cases k with
    |h b=>exact hX.fresh (.h b) l hl
    |l j=>cases hl
   size:=hX.size
   has:=fun k e=>by obtain⟨b,rfl⟩:=hk k e;exact hX.has _ e
   wsub:=hX.wsub
   wrote:=hX.wrote
   os:=hX.os
   output:=hX.output
   tape:=hX.tape }
theorem IV{N:Np}:∀{args:List TV} {xs:List Value} {k t:Nat} {e:EV},bU N args xs->dM t (nM k args)=some e->∃i v x,t=k+i∧e=.val v∧xs[i]? = some x∧VR N v x
 | [],xs,k,t,e,h,hl=>by simp[nM,dM]at hl
 |v::vs,xs,k,t,e,h,hl=>by
  obtain⟨x,xs',rfl,h1,h2⟩:=h.iK;simp only[nM,dM]at hl;split at hl
  .rename_i hk;cases hl;exact⟨0,v,x,by omega,rfl,rfl,h1⟩
  obtain⟨i,v',x',e1,e2,e3,e4⟩:=IV h2 hl;exact⟨i+1,v',x',by omega,e2,by simpa using e3,e4⟩
end
open Go.ChangeMaps
def Ac(ops:Array Oper):Option (Nat×Nat×Oper×Oper):=
 match ops.toList with
 | [a,b]=>match a.op,a.dst,a.guard with
  |.next (.tmp it) false,some nx,none=>if a.after.toList.all (fun e=>!Region.binds .any e)&&b.after.toList.any (fun e=>Region.binds .any e&&e.on==0)&&b.after.toList.all (fun e=>!Region.binds .any e||e.on==0)then some (it,nx,a,b)else none
  |_,_,_=>none
 |_=>none
def a0H(fl:Nat)(s:St)(it:Nat)(K:St->TV->Prop):Prop:=
 ∃b r n seen es,dM it s.env=some (.val (.iter b))∧s.heap[b]? = some (.cZ r n seen)∧s.heap[r]? = some (.map es)∧es.length=n ∧
  ((∀j,j<n->j∈seen)->K s (.dI [.bool false])) ∧
  ∀j e,j∉seen->es[j]? = some e->K { s with heap:=s.heap.set b (.cZ r n (j::seen)),ws:=jU fl [.h b] s.ws } (.dI [.bool true,e.1,e.2])
def GL(g:St->(Ex->St->Prop)->Prop):Nat->St->(Ex->St->Prop)->Prop
 | 0,_,_=>False
 |n+1,s,Q=>g s fun e s=>match e with
  |.norm=>GL g n s Q
  |e=>Q e s
abbrev uZ:=TV->List TV->List HB->(TV->List HB->List Nat->Prop)->Prop
def CG:uZ:=fun _ _ _ _=>False
def a5m(T:qJ)(env:List (Nat×EV))(g:Operand):Bool:=match qM env g with
 |some (.fn f1 _ _)=>T.din.contains f1
 |_=>false
def adR(cd:uZ)(f fl nt:Nat)(g:Operand)(ps:Array Tmp)(uJ body:Code)(s:St)(Q:Ex->St->Prop):Prop:=
 ∃f1 a1 b1,qM s.env g=some (.fn f1 a1 b1)∧s.env.all isVal=true∧cd (.fn f1 a1 b1) [.kP (s.heap.length+1)] (s.heap++[.mark,.loop true f nt s.env ps.toList uJ body none]) fun _ h ws=>
  ∃rd f2 Qd e2 Cb a2 b2 jH e,h[s.heap.length+1]? = some (.loop rd f2 Qd e2 Cb a2 b2 jH)∧QE rd jH=some e∧Q e { s with heap:=h.set (s.heap.length+1) (.loop false f2 Qd e2 Cb a2 b2 (some .skip)),ws:=jU fl (ws.map .h) s.ws }
def fF(P:Program)(T:qJ)(call:aY)(cd:uZ)(L:Nat)(f:Nat)(fl nt:Nat):Code->St->(Ex->St->Prop)->Prop
 |.region id ops draw,s,Q=>match Ac ops with
  |some (it,nx,_,b)=>nx<nt∧a0H fl s it fun s v=>∃s2 is,l7 P call (fun d=>T.TM f d) fl nt ops [b] (s.put (some nx) (.val v))=some (s2,is)∧Q .norm { s2 with env:=pick (T.iy f id) s2.env }
  |none=>∃e s',exec P T call L f false fl nt (.region id ops draw) s=some (e,s')∧Q e s'
 |.seq a b,s,Q=>fF P T call cd L f fl nt a s fun e s=>match e with
  |.norm=>fF P T call cd L f fl nt b s Q
  |e=>Q e s
 |.cond c a b,s,Q=>match qM s.env c with
  |some (.bool true)=>fF P T call cd L f fl nt a s Q
  |some (.bool false)=>fF P T call cd L f fl nt b s Q
  |_=>False
 |.block id b,s,Q=>fF P T call cd L f fl nt b s fun e s=>Q (match e with|.exit i=>if i=id then .norm else .exit i|e=>e) s
 |.scope b,s,Q=>fF P T call cd L f fl nt b s Q
 |.loop b,s,Q=>GL (fun s Q=>fF P T call cd L f fl nt b (jW (T.eH f (dV b)) s) Q) L s Q
 |.rangeFunc g ps uJ body,s,Q=>if a5m T s.env g=true then adR cd f fl nt g ps uJ body s Q else ∃e s',exec P T call L f false fl nt (.rangeFunc g ps uJ body) s=some (e,s')∧Q e s'
 |c,s,Q=>∃e s',exec P T call L f false fl nt c s=some (e,s')∧Q e s'
section
variable {P:Program} {T:qJ} {call:aY} {L f:Nat} {nt:Nat} {M0:Mp} {h0:List HB} {w0:World} {r:Option Nat} {ops:Array Oper} {M:Mp} {s:St} {a:Act} {w:World}
theorem YZ(hm:P.follows .mixedOrders=true){id:Nat}{o1 o2:Oper}{draw:Bool}{F:Fence}{n:Nat}{Q:Exit->Act->World->Prop}(a9d:ops=#[o1,o2])(h1:o1.after.toList.all (fun e=>!Region.binds .any e)=true)(h2:o2.after.toList.any (fun e=>Region.binds .any e&&e.on==0)=true)(h3:o2.after.toList.all (fun e=>!Region.binds .any e||e.on==0)=true)
  (h:∀w',(w'=w∨w'={ w with drawn:=w.drawn+1 })->wpOpIn F n P ops Q 0 (wpOpIn F n P ops Q 1 (Q .normal)) a w'):(Code.region id ops draw).wpIn F n P Q a w:=by
 cases draw with
 |false=>
  refine wpIn_region ?_;have:=h w (.inl rfl);have e:List.range ops.size=[0,1]:=by rw[a9d];rfl
  rw[e,wpOpsIn_cons];refine wpOpIn_mono (fun a w hx=>?_) this;rw[wpOpsIn_cons];exact wpOpIn_mono (fun a w hx=>hx) hx
 |true=>
  refine wpIn_region_any hm ?_;have uX:ops.size=2:=by rw[a9d];rfl
  have w1:∀D,uq D o1:=fun D e he hb=>by
   have:=a4A.1 h1 e (by simpa using he);simp[hb]at this
  have w2:∀D,uq D o2->D 0:=fun D hD=>by
   obtain⟨e,he,hb⟩:=agC.1 h2;simp only[a2o,a6H]at hb;have:=hD e (by simpa using he) hb.1
   rwa [hb.2]at this
  have g0:ops[0]? = some o1:=by rw[a9d];rfl
  have g1:ops[1]? = some o2:=by rw[a9d];rfl
  have g2:∀i,2<=i->ops[i]? = none:=fun i hi=>Array.getElem?_eq_none (by omega);rw[uX];have r0:∀i,i∈Region.ready .any ops (Array.replicate 2 false)↔i=0:=by
   intro i;rw[sO (by simp[uX])];constructor
   .rintro⟨o,ho,_,hw⟩
    match i with
    | 0=>rfl
    | 1=>
     rw[g1]at ho;cases ho;have:=w2 _ hw;simp at this
    |i+2=>rw[g2 _ (by omega)]at ho;cases ho
   .rintro rfl;exact⟨o1,g0,by simp,w1 _⟩
  have r1:∀i,i∈Region.ready .any ops ((Array.replicate 2 false).setIfInBounds 0 true)↔i=1:=by
   intro i;rw[sO (by simp[uX])];constructor
   .rintro⟨o,ho,hl,_⟩
    match i with
    | 0=>simp at hl
    | 1=>rfl
    |i+2=>rw[g2 _ (by omega)]at ho;cases ho
   .rintro rfl;refine⟨o2,g1,by simp,fun e he hb=>?_⟩;have:=a4A.1 h3 e (by simpa using he);simp only[hb,a8U,agA,a6H]at this;rw[this];simp
  have r2:Region.ready .any ops (((Array.replicate 2 false).setIfInBounds 0 true).setIfInBounds 1 true)=[]:=by
   refine a7h.2 fun i hi=>?_;obtain⟨o,ho,hl,_⟩:=(sO (by simp[uX])).1 hi
   match i with
   | 0=>simp at hl
   | 1=>simp at hl
   |i+2=>rw[g2 _ (by omega)]at ho;cases ho
  refine⟨fun h0=>?_,fun i hi=>?_⟩
  .have:=(r0 0).2 rfl;rw[h0]at this;cases this
  .have:=(r0 i).1 hi;subst this;refine wpOpIn_mono (fun a w hx=>?_) (h _ (.inr rfl));refine⟨fun h0=>?_,fun i hi=>?_⟩
   .have:=(r1 1).2 rfl;rw[h0]at this;cases this
   .have:=(r1 i).1 hi;subst this;exact wpOpIn_mono (fun a w hx=>⟨r2,hx⟩) hx
theorem Rel.ahC(hR:Rel M0 h0 w0 nt M s a w){d:Nat}{v:EV}{x:Value}(hd:d<nt)(hx:ER M v x):Rel M0 h0 w0 nt M (s.put (some d) v) (a.put (some d) x) w:=by
 have hg:(s.put (some d) v).get=s.get:=getEnv s _ _;refine⟨by rw[hg];exact hR.val,by rw[hg];exact hR.ext,?_,by rw[Gz];exact hR.size,?_,by rw[jJ];exact hR.apart⟩
 .intro t e hl;rw[yU]at hl;rw[yV];by_cases YM:some d=some t
  .rw[a0p YM]at hl;have:=hR.size;cases YM;rw[a0p ⟨rfl,by omega⟩];cases hl;exact hx
  rw[a0o YM]at hl;rw[a0o (fun h=>YM h.1)];exact hR.env t e hl
 rw[jJ,hg];exact hR.marks
theorem a9e(hB:wI M0 h0 w0){F:Fence}{n:Nat}{Q:Exit->Act->World->Prop}{o:Oper}{it nx i:Nat}{K:Act->World->Prop}{K':St->TV->Prop}(ho:ops[i]? = some o)(jf:o.op=.next (.tmp it) false)(adP:o.dst=some nx)(hg:o.guard=none)(hd:nx<nt)
  (hR:Rel M0 h0 w0 nt M s a w) (hN:a0H h0.length s it K') (hK:∀s1 v a1 w1,K' s1 v->Rel M0 h0 w0 nt M (s1.put (some nx) (.val v)) a1 w1->K a1 w1):wpOpIn F n P ops Q i K a w:=by
 obtain⟨b,r,n',seen,es,Qj,hb,hr,hn,ahD,ahE⟩:=hN;have hx:=hR.env it _ Qj;obtain⟨r',o',hm⟩:∃r' o',a.tmps.getD it Go.undef=.pointer (some ⟨r',0,none⟩)∧M (.h b)=some (.obj r' o'):=by
  generalize a.tmps.getD it Go.undef=xv at hx;cases hx with
  |val hx=>cases hx with
   |iter h=>exact⟨_,_,rfl,h⟩
 obtain⟨hm,hmb⟩:=hm;obtain⟨fU,c1,c2⟩:=hR.val.ok _ _ hmb trivial;simp only[St.get,hb,a05]at c1;subst c1;obtain⟨rb,q,sa,d1,d2,d3,d4⟩:=c2;obtain⟨fU,c1,c2⟩:=hR.val.ok (.h r) _ d1 trivial;simp only[St.get,hr,a05]at c1;subst c1;obtain⟨xs,g1,g2⟩:=c2;have hnn:xs.size=n':=by rw[<-g2.len];exact hn
 have hold:∀x∈xs.toList,x.born<n':=fun x hx=>by
  obtain⟨k,hk⟩:=a8Q.1 hx;have oD:xs[k]? = some x:=by simpa using hk
  rw[(g2.at_ k x oD).1,<-hnn];exact(a2p.1 oD).1
 have abK:∀k j,q[k]? = some j->(k∈sa.toList↔j∈seen):=by
  intro k j hkj;have e1:k∈sa.toList->j∈seen:=fun hk=>by
   have:(q[k]?:Option Nat)∈sa.toList.map (fun i=>q[i]?):=a1l.2 ⟨k,hk,rfl⟩;rw[d4,hkj]at this;obtain⟨j',h1,h2⟩:=a1l.1 this;cases h2;simpa using h1
  have e2:j∈seen->k∈sa.toList:=fun hj=>by
   have:some j∈seen.reverse.map some:=a1l.2 ⟨j,by simpa using hj,rfl⟩;rw[<-d4]at this;obtain⟨k',h1,h2⟩:=a1l.1 this;have i1:=a0c.1 h2;have i2:=a0c.1 hkj;have:=(aae g2.nod (h₀:=i1.1) (h₁:=i2.1)).1 (i1.2.trans i2.2.symm);rw[<-this];exact h1
  exact⟨e1,e2⟩
 have abL:∀x,x∈(leftOf xs sa).toList↔x∈xs.toList∧x.born∉sa.toList:=fun x=>by
  simp[leftOf]
 have abM:a.eval (.tmp it)=.pointer (some ⟨r',0,none⟩):=by simpa[Act.eval]using hm
 unfold wpOpIn;rw[ho];have hw:Region.wanted o (yielded ops a.tmps)=true:=by simp[Region.wanted,hg]
 simp only[hw,a2w];refine⟨fun f hf=>by simp[Oper.about,jf]at hf,?_⟩;rcases run_next_at (P:=P) w o.type r' rb n' n' sa xs xs.size d2 g1 hold (a1b _)with⟨h1,h2⟩|⟨e,h1,w1,h2,h3⟩
 .have vI:(o.semAt F.round a.eval).run P w=.ok (.value (.tuple #[.bool false])) w:=by
   simp[Oper.semAt,execOp,jf,abM,h2]
  rw[vI,Oper.uponIn_value,adP];refine hK s _ _ _ (ahD fun j hj=>?_) (hR.ahC hd (.val (.Qe (.cons (.bool false) .nil))));obtain⟨k,hk⟩:=a8Q.1 (g2.sur j (by omega));refine(abK k j hk).1 ?_;apply abW;intro hns;have hkx:k<xs.size:=by rw[<-g2.ord];exact(a0c.1 hk).1
  have:xs[k]∈(leftOf xs sa).toList:=(abL _).2 ⟨by simp,by rw[(g2.at_ k _ (a4c hkx)).1];exact hns⟩;have h0:(leftOf xs sa).toList=[]:=a4g (by simpa using h1);rw[h0]at this;cases this
 .obtain⟨hex,LD⟩:=(abL e).1 h1;obtain⟨k,hk⟩:=a8Q.1 hex;have oD:xs[k]? = some e:=by simpa using hk
  obtain⟨z1,j,e',z2,z3,z4,z5⟩:=g2.at_ k e oD;have hj:j∉seen:=fun h=>LD (by rw[z1];exact(abK k j z2).2 h);have xG:Rel M0 h0 w0 nt M s a w1:=by
   rcases h2 with rfl|rfl
   .exact hR
   .exact⟨hR.val.of_heap rfl,hR.ext.drew rfl rfl rfl rfl,hR.env,hR.size,hR.marks,hR.apart⟩
  have hh:w1.heap=w.heap:=by rcases h2 with rfl|rfl<;>rfl
  have vI:(o.semAt F.round a.eval).run P w=.ok (.value (.tuple #[.bool true,e.key,e.val])) (setBlock w1 r' (.mapIter (some rb) n' (sa.push e.born) xs.size)):=by
   simp[Oper.semAt,execOp,jf,abM,h3]
  rw[vI,Oper.uponIn_value,adP];have aQ:r'<w1.heap.size:=by rw[hh];exact(a2p.1 d2).1
  obtain⟨v4,x4⟩:=DW (o':=.mapIter (some rb) n' (sa.push e.born) xs.size) (b':=.cZ r n' (j::seen)) xG.val hmb hb rfl ⟨rb,q,sa.push e.born,d1,by simp[aQ,hnn],d3,by
   rw[Array.toList_push,a4j,d4,z1];simp[z2]⟩
  have Rk:=xG.next hB (s':={ s with heap:=s.heap.set b (.cZ r n' (j::seen)),ws:=jU h0.length [.h b] s.ws }) v4 x4 rfl rfl (fun _ _ h=>h);exact hK _ _ _ _ (ahE j e' hj z3) (Rk.ahC hd (.val (.Qe (.cons (.bool true) (.cons z4 (.cons z5 .nil))))))
theorem U9{it nx:Nat}{o1 o2:Oper}(h:Ac ops=some (it,nx,o1,o2)):ops=#[o1,o2]∧o1.op=.next (.tmp it) false∧o1.dst=some nx∧o1.guard=none∧o1.after.toList.all (fun e=>!Region.binds .any e)=true∧o2.after.toList.any (fun e=>Region.binds .any e&&e.on==0)=true∧o2.after.toList.all (fun e=>!Region.binds .any e||e.on==0)=true:=by
 unfold Ac at h;split at h
 .rename_i x y hl;split at h
  .rename_i it' nx' h1 h2 h3;split at h
   .rename_i hc;simp only[a05,a0t]at h;obtain⟨rfl,rfl,rfl,rfl⟩:=h;simp only[a2o]at hc;exact⟨adG (by simpa using hl),h1,h2,h3,hc.1.1,hc.1.2,hc.2⟩
   cases h
  cases h
 cases h
def LQ(P:Program)(M0:Mp)(h0:List HB)(w0:World)(nt:Nat)(c:Code)(s:St)(QT:Ex->St->Prop):Prop:=
 ∀(n:Nat) (Q:Exit->Act->World->Prop) (M:Mp) (a:Act) (w:World),Rel M0 h0 w0 nt M s a w->(∀e s' M' a' w',QT e s'->Rel M0 h0 w0 nt M' s' a' w'->Q (YU e) a' w')->c.wpIn (nN none) n P Q a w
theorem a5n(hB:wI M0 h0 w0){c:Code}{live:List Nat}{g:St->(Ex->St->Prop)->Prop}(ih:∀s QT,g s QT->LQ P M0 h0 w0 nt c (jW live s) QT){k:Nat}{s:St}{QT:Ex->St->Prop}
  (h:GL g k s QT):LQ P M0 h0 w0 nt (.loop c) s QT:=by
 intro n Q M a w hR hQ
 let J:Act->World->Nat->Prop:=fun a w k=>∃s M,GL g k s QT∧Rel M0 h0 w0 nt M s a w
 refine wpIn_loop (fun a w=>∃k,J a w k) (fun a w=>leastOf (J a w)) ⟨k,s,M,h,hR⟩ ?_;intro a1 w1 hI;obtain⟨⟨s1,M1,Qj,xG⟩,_⟩:=leastOf_spec hI;generalize leastOf (J a1 w1)=k1 at Qj ⊢;cases k1 with
 |zero=>exact Qj.elim
 |succ k1=>
  refine ih s1 _ Qj n _ _ a1 w1 (xG.head hB live) fun e s2 M2 a2 w2 hq Rk=>?_;cases e with
  |norm=>
   have hJ:J a2 w2 k1:=⟨s2,M2,hq,Rk⟩;exact⟨⟨k1,hJ⟩,Nat.lt_succ_of_le ((leastOf_spec ⟨k1,hJ⟩).2 k1 hJ)⟩
  |exit id=>exact hQ _ _ M2 a2 w2 hq Rk
  |ret=>exact hQ _ _ M2 a2 w2 hq Rk
def LU(P:Program)(cd:uZ):Prop:=
 ∀f1 a1 b1 args h K,cd (.fn f1 a1 b1) args h K->∀(M:Mp) (w:World) (x:Value) (xs:List Value),Valid M uM (kX h) w->(∀k,M (.l k)=none)->VR M.h (.fn f1 a1 b1) x->bU M.h args xs ->
  ∃d,(∀w,(Deferred.ofValue x xs.toArray).run P w=.ok d w)∧LG P d w fun y w'=>∃v h' ws,K v h' ws∧jI M h w v h' ws y w'
theorem a5o(hm:P.follows .mixedOrders=true)(hC:iD P call){cd:uZ}(hD:LU P cd)(hB:wI M0 h0 w0):∀(c:Code) (s:St) (QT:Ex->St->Prop),fF P T call cd L f h0.length nt c s QT->LQ P M0 h0 w0 nt c s QT:=by
 have plain:∀(c:Code) (s:St) (QT:Ex->St->Prop),(∃e s',exec P T call L f false h0.length nt c s=some (e,s')∧QT e s')->LQ P M0 h0 w0 nt c s QT:=by
  rintro c s QT ⟨e,s',h1,h2⟩ n Q M a w hR hQ;exact vJ (gW:=false) hm hC hB (fun _=>rfl) c s s' e h1 n Q M a w hR fun M' a' w' Fz=>hQ e s' M' a' w' h2 Fz
 intro c
 induction c with
 |region id ops draw=>
  intro s QT h;simp only[fF]at h;split at h
  .rename_i it nx o1 o2 hn;obtain⟨hd,hN⟩:=h;obtain⟨e1,e2,e3,e4,e5,e6,e7⟩:=U9 hn;intro n Q M a w hR hQ;refine YZ hm e1 e5 e6 e7 fun w' hw'=>?_;have Fz:Rel M0 h0 w0 nt M s a w':=by
    rcases hw' with rfl|rfl
    .exact hR
    exact⟨hR.val.of_heap rfl,hR.ext.drew rfl rfl rfl rfl,hR.env,hR.size,hR.marks,hR.apart⟩
   refine a9e hB (i:=0) (o:=o1) (by rw[e1];rfl) e2 e3 e4 hd Fz hN ?_;rintro s1 v a1 w1 ⟨s2,is,vI,hq⟩ xG;have Z4:ops[1]? = some o2:=by rw[e1];rfl
   obtain⟨i,s3,is',hS,hr,_⟩:=CB vI;simp only[l7,a05,a0t]at hr;obtain⟨rfl,rfl⟩:=hr;refine(GH hC xG hS).2 none n Q 1 _ Z4 fun x w2 vT=>?_;obtain⟨M',Rk⟩:=NQ hB xG hS vT;exact hQ .norm _ _ _ _ hq (Rk.pick _)
  exact plain _ _ _ h
 |seq x y W9 ihy=>
  intro s QT h n Q M a w hR hQ;simp only[fF]at h;refine wpIn_seq (W9 s _ h n _ M a w hR fun e s1 M1 a1 w1 hq xG=>?_);cases e with
  |norm=>exact ihy s1 _ hq n Q M1 a1 w1 xG hQ
  |exit id=>exact hQ _ _ _ _ _ hq xG
  |ret=>exact hQ _ _ _ _ _ hq xG
 |cond c x y W9 ihy=>
  intro s QT h n Q M a w hR hQ;simp only[fF]at h;have hev:∀b,qM s.env c=some (.bool b)->a.eval c=.bool b:=by
   intro b hb;have:=YD hR.env hb;generalize a.eval c=z at this;cases this;rfl
  split at h
  .rename_i hc;exact wpIn_cond_true (hev _ hc) (W9 s _ h n Q M a w hR hQ)
  .rename_i hc;exact wpIn_cond_false (hev _ hc) (ihy s _ h n Q M a w hR hQ)
  exact h.elim
 |block id b ih=>
  intro s QT h n Q M a w hR hQ;simp only[fF]at h;refine wpIn_block (ih s _ h n _ M a w hR fun e s1 M1 a1 w1 hq xG=>?_);have:=hQ _ _ _ _ _ hq xG;cases e with
  |norm=>exact this
  |ret=>exact this
  |exit i=>
   by_cases hi:i=id
   .simp only[hi,a2w]at this;simp only[YU,Exit.inBlock,hi,a2w];exact this
   simp only[hi,a3T]at this;simp only[YU,Exit.inBlock,hi,a3T];exact this
 |scope b ih=>
  intro s QT h n Q M a w hR hQ;simp only[fF]at h;refine NU (ih s _ h n _ M a w hR fun e s1 M1 a1 w1 hq xG=>?_);have:=hQ _ _ _ _ _ hq xG;cases e<;>exact this
 |loop b ih=>
  intro s QT h;simp only[fF]at h;exact a5n hB (live:=T.eH f (dV b)) (fun s QT hs=>ih _ _ hs) h
 |rangeFunc g ps uJ body=>
  intro s QT h;simp only[fF]at h;split at h
  .obtain⟨f1,a1,b1,hg,hv,hc⟩:=h;intro n Q M a w hR hQ;exact Rl hB hg hv (fun M w x xs=>hD _ _ _ _ _ _ hc M w x xs) (fun v h ws hk=>hk) n Q M a w hR hQ
  exact plain _ _ _ h
 |_=>
  intro s QT h;simp only[fF]at h;exact plain _ _ _ h
end
def nI(g:Nat->Option Nat):TV->Option TV
 |.ptr b o l=>(g b).map fun b=>.ptr b o l
 |.slc b o n c z e=>(g b).map fun b=>.slc b o n c z e
 |.map r=>(g r).map .map
 |.kP _=>none
 |.iter _=>none
 |.fn f a c=>match yZ g a,yZ g c with
  |some a,some c=>some (.fn f a c)
  |_,_=>none
 |.agg cs=>(yZ g cs).map .agg
 |.dI cs=>(yZ g cs).map .dI
 |.bool b=>some (.bool b)
 |.int k n=>some (.int k n)
 |.str s=>some (.str s)
 |.nil k=>some (.nil k)
where
 yZ (g:Nat->Option Nat):List TV->Option (List TV)
 | []=>some []
 |c::cs=>match nI g c,yZ g cs with
  |some v,some vs=>some (v::vs)
  |_,_=>none
theorem NY{g:Nat->Option Nat}:∀{az Yu:List TV},nI.yZ g az=some Yu->az.length=Yu.length∧∀(i:Nat) c',Yu[i]? = some c'->∃c,az[i]? = some c∧nI g c=some c'
 | [],Yu,h=>by cases h;exact⟨rfl,fun i c h=>by simp at h⟩
 |a::az,Yu,h=>by
  simp only[nI.yZ]at h;split at h
  .rename_i v vs e1 e2;cases h;obtain⟨h1,h2⟩:=NY e2;refine⟨by simp[h1],fun i c' hi=>?_⟩;cases i with
   |zero=>simp at hi;subst hi;exact⟨a,rfl,e1⟩
   |succ i=>exact h2 i c' (by simpa using hi)
  cases h
section
variable {g:Nat->Option Nat} {N N':Np}
theorem LV(hg:∀b b',g b=some b'->N' b'=N b){v:TV}{x:Value}(h:VR N v x):∀{v'},nI g v=some v'->VR N' v' x:=by
 have dB:∀{az:List TV} {xs:List Value},az.length=xs.length->(∀(i:Nat) (c:TV) (v:Value),az[i]? = some c->xs[i]? = some v->∀{v'},nI g c=some v'->VR N' v' v)->∀{Yu},nI.yZ g az=some Yu->Yu.length=xs.length∧∀(i:Nat) (c:TV) (v:Value),Yu[i]? = some c->xs[i]? = some v->VR N' c v:=by
  intro az xs hl ha Yu hr;obtain⟨h1,h2⟩:=NY hr;exact⟨by rw[<-h1,hl],fun i c v e1 e2=>by obtain⟨c0,f1,f2⟩:=h2 i c e1;exact ha i c0 v f1 e2 f2⟩
 induction h with
 |bool b=>intro v' h;cases h;exact .bool b
 |int k n=>intro v' h;cases h;exact .int k n
 |str s=>intro v' h;cases h;exact .str s
 |a2g=>intro v' h;cases h;exact .a2g
 |TN=>intro v' h;cases h;exact .TN
 |Yz=>intro v' h;cases h;exact .Yz
 |nfn=>intro v' h;cases h;exact .nfn
 |a2h=>intro v' h;cases h;exact .a2h
 |ptr hb hp h ht=>
  intro v' hr;simp only[nI,a0e]at hr;obtain⟨b',e,rfl⟩:=hr;exact .ptr (by rw[hg _ _ e];exact hb) hp h ht
 |slc hb hp h hl hc hx ha hk=>
  intro v' hr;simp only[nI,a0e]at hr;obtain⟨b',e,rfl⟩:=hr;exact .slc (by rw[hg _ _ e];exact hb) hp h hl hc hx ha hk
 |map h=>
  intro v' hr;simp only[nI,a0e]at hr;obtain⟨b',e,rfl⟩:=hr;exact .map (by rw[hg _ _ e];exact h)
 |kP h=>intro v' hr;simp[nI]at hr
 |fn h1 h2 h3 h4 i2 i4=>
  intro v' hr;simp only[nI]at hr;split at hr
  .rename_i a c e1 e2;cases hr;obtain⟨p1,p2⟩:=dB h1 i2 e1;obtain⟨q1,q2⟩:=dB h3 i4 e2;exact .fn p1 p2 q1 q2
  cases hr
 |iter h=>intro v' hr;simp[nI]at hr
 |agg h1 h2 i2=>
  intro v' hr;simp only[nI,a0e]at hr;obtain⟨a,e,rfl⟩:=hr;obtain⟨p1,p2⟩:=dB h1 i2 e;exact .agg p1 p2
 |dI h1 h2 i2=>
  intro v' hr;simp only[nI,a0e]at hr;obtain⟨a,e,rfl⟩:=hr;obtain⟨p1,p2⟩:=dB h1 i2 e;exact .dI p1 p2
def oV(g:Nat->Option Nat):List (TV×TV)->Option (List (TV×TV))
 | []=>some []
 |(k,v)::r=>match nI g k,nI g v,oV g r with
  |some k,some v,some r=>some ((k,v)::r)
  |_,_,_=>none
theorem Wh:∀{az Yu:List (TV×TV)},oV g az=some Yu->az.length=Yu.length∧∀(i:Nat) c',Yu[i]? = some c'->∃c,az[i]? = some c∧nI g c.1=some c'.1∧nI g c.2=some c'.2
 | [],Yu,h=>by cases h;exact⟨rfl,fun i c h=>by simp at h⟩
 |(k,v)::az,Yu,h=>by
  simp only[oV]at h;split at h
  .rename_i k' v' vs e0 e1 e2;cases h;obtain⟨h1,h2⟩:=Wh e2;refine⟨by simp[h1],fun i c' hi=>?_⟩;cases i with
   |zero=>simp at hi;subst hi;exact⟨(k,v),rfl,e0,e1⟩
   |succ i=>exact h2 i c' (by simpa using hi)
  cases h
def uw(g:Nat->Option Nat):HB->Option HB
 |.cells k cs=>(nI.yZ g cs).map (.cells k)
 |.map es=>(oV g es).map .map
 |.mark=>some .mark
 |_=>none
theorem a5p{v v':TV}(h:nI g v=some v'):iR v'=iR v:=by
 cases v<;>simp only[nI,a0e,a05]at h
 all_goals first
  |(obtain⟨b,_,rfl⟩:=h;rfl)
  |(subst h;rfl)
  |(split at h<;>cases h;rfl)
  |cases h
theorem a5q(hg:∀b b',g b=some b'->N' b'=N b){w:World}{b b':HB}{l:Lc}(h:pK N w b l)(hr:uw g b=some b'):pK N' w b' l:=by
 cases b with
 |cells k cs=>
  cases l with
  |obj r _=>exact h.elim
  |cells ls=>
   simp only[uw,a0e]at hr;obtain⟨cs',e,rfl⟩:=hr;obtain⟨h1,h2⟩:=NY e;refine⟨fun c hc=>?_,fun p hp=>?_,fun hk=>by rw[<-h1];exact h.2.2.1 hk,fun hk=>by rw[<-h1];exact h.2.2.2 hk⟩
   .obtain⟨i,hi⟩:=a8Q.1 hc;obtain⟨c0,f1,f2⟩:=h2 i c hi;rw[a5p f2];exact h.1 c0 (a4u f1)
   obtain⟨⟨arr,ty,fz,a1,a2,a3,a4⟩,b1,b2,b3⟩:=h.2.1 p hp;exact⟨⟨arr,ty,fz,a1,a2,a3,fun hk i c v hi hc hv=>by obtain⟨c0,f1,f2⟩:=h2 i c hc;exact LV hg (a4 (by rw[h1];exact hk) i c0 v hi f1 hv) f2⟩,b1,by rw[<-h1];exact b2,b3⟩
 |map es=>
  cases l with
  |cells ls=>exact h.elim
  |obj r=>
   simp only[uw,a0e]at hr;obtain⟨fQ,e,rfl⟩:=hr;obtain⟨h1,h2⟩:=Wh e;obtain⟨xs,a0,a1,a2,a3,a4,a5⟩:=h;refine⟨xs,a0,by rw[<-h1];exact a1,a2,a3,by rw[<-h1];exact a4,fun i x hx=>?_⟩;obtain⟨b1,j,e0,b2,b3,b4,b5⟩:=a5 i x hx;have hl:j<fQ.length:=by rw[<-h1];exact(a0c.1 b3).1
   obtain⟨c0,f1,f2,f3⟩:=h2 j _ (a0f hl);rw[b3]at f1;cases f1;exact⟨b1,j,_,b2,a0f hl,LV hg b4 f2,LV hg b5 f3⟩
 |mark=>simp only[uw,a05]at hr;subst hr;cases l<;>exact h
 |_=>simp[uw]at hr
theorem adS{b b':HB}(h:uw g b=some b'):wr b'=wr b:=by
 cases b with
 |cells k cs=>simp only[uw,a0e]at h;obtain⟨_,_,rfl⟩:=h;cases k<;>rfl
 |map es=>simp only[uw,a0e]at h;obtain⟨_,_,rfl⟩:=h;rfl
 |mark=>simp only[uw,a05]at h;subst h;rfl
 |_=>simp[uw]at h
end
def a5r:List Nat->Nat->Option Nat
 | [],_=>none
 |a::l,i=>match Nat.beq a i with
  |true=>some 0
  |false=>(a5r l i).map (·+1)
theorem a0I:∀{l:List Nat} {i p:Nat},a5r l i=some p->l[p]? = some i
 | [],i,p,h=>by cases h
 |a::l,i,p,h=>by
  simp only[a5r]at h;split at h
  .rename_i e;cases h;rw[a8S e];rfl
  simp only[a0e]at h;obtain⟨q,e,rfl⟩:=h;rw[a9A];exact a0I e
def Wi(fl:Nat)(nH:List Nat)(b:Nat):Option Nat:=match Nat.blt b fl with
 |true=>some b
 |false=>(a5r nH b).map (·+fl)
def CJ(g:Nat->Option Nat)(h:List HB):List Nat->Option (List HB)
 | []=>some []
 |b::l=>match h[b]? with
  |some x=>match uw g x,CJ g h l with
   |some y,some r=>some (y::r)
   |_,_=>none
  |none=>none
theorem NZ{g:Nat->Option Nat}{h:List HB}:∀{l:List Nat} {bs:List HB},CJ g h l=some bs->l.length=bs.length∧∀(i:Nat) y,bs[i]? = some y->∃c x,l[i]? = some c∧h[c]? = some x∧uw g x=some y
 | [],bs,e=>by cases e;exact⟨rfl,fun i y h=>by simp at h⟩
 |b::l,bs,e=>by
  simp only[CJ]at e;split at e
  .rename_i x hx;split at e
   .rename_i y r e1 e2;cases e;obtain⟨h1,h2⟩:=NZ e2;refine⟨by simp[h1],fun i y' hi=>?_⟩;cases i with
    |zero=>simp at hi;subst hi;exact⟨b,x,rfl,hx,e1⟩
    |succ i=>exact h2 i y' (by simpa using hi)
   cases e
  cases e
theorem jI.gc{M:Mp}{h h' bs:List HB}{w w':World}{v v':TV}{y:Value}{nH:List Nat}(hV:Valid M uM (kX h) w)(hl:∀k,M (.l k)=none)(hR:jI M h w v h' [] y w')(hn:nH.Nodup)(hk:∀b∈nH,h.length<=b)(hv:nI (Wi h.length nH) v=some v')(hb:CJ (Wi h.length nH) h' nH=some bs):jI M h w v' (h++bs) [] y w':=by
 obtain⟨M',YL,hl',hX,hv'⟩:=hR;have Z5:∀b l,M (.h b)=some l->b<h.length:=fun b l hb=>by
  have:=hV.has hb;simp only[kX,St.get]at this;rcases a4l b h.length with h1|h1
  .exact h1
  rw[a4h h1]at this;simp at this
 have hold:∀b,b<h.length->M' (.h b)=M (.h b):=fun b hb=>hX.l9 (.h b) (.inl (by simp[kX,St.get,hb])) (by simp);have hoc:∀b,b<h.length->kX h' (.h b)=kX h (.h b):=fun b hb=>hX.nH (.h b) (by simp[kX,St.get,hb]) (by simp);obtain⟨p1,p2⟩:=NZ hb
 let κ:Nat->Option Nat:=fun b=>if b<h.length then some b else nH[b-h.length]?
 let M2:Mp:=fun k=>match k with
  |.l _=>none
  |.h b=>match κ b with
   |some c=>M' (.h c)
   |none=>none
 have hκ:∀b c,κ b=some c->M2 (.h b)=M' (.h c):=fun b c e=>by show(match κ b with|some c=>M' (.h c)|none=>none)=_;rw[e]
 have hκn:∀b,κ b=none->M2 (.h b)=none:=fun b e=>by show(match κ b with|some c=>M' (.h c)|none=>none)=_;rw[e]
 have hM2:∀b l,M2 (.h b)=some l->∃c,κ b=some c∧M' (.h c)=some l:=fun b l e=>by
  cases e2:κ b with
  |none=>rw[hκn b e2]at e;cases e
  |some c=>rw[hκ b c e2]at e;exact⟨c,rfl,e⟩
 have klt:∀b,b<h.length->κ b=some b:=fun b hb=>by simp only[κ,a0p hb]
 have kge:∀b,¬b<h.length->κ b=nH[b-h.length]?:=fun b hb=>by simp only[κ,a0o hb]
 have hg:∀b b',Wi h.length nH b=some b'->M2.h b'=M'.h b:=fun b b' e=>by
  unfold Wi at e;split at e
  .rename_i aQ;have aQ:b<h.length:=agE aQ;cases e;exact hκ _ _ (klt b aQ)
  simp only[a0e]at e;obtain⟨p,e1,rfl⟩:=e;exact hκ _ _ (by rw[kge _ (by omega),Nat.add_sub_cancel];exact a0I e1)
 have hle:rZ M.h M2.h:=fun b l e=>⟨l,by show M2 (.h b)=some l;rw[hκ b b (klt b (Z5 b l e)),hold b (Z5 b l e)];exact e,.refl l⟩;have Wj:∀c,c<w.heap.size->w'.heap[c]? = w.heap[c]?:=fun c hc=>hX.frame c hc (by simp);have hC:∀b,b<h.length->kX (h++bs) (.h b)=kX h (.h b):=fun b hb=>by simp only[kX,St.get];rw[a0j hb]
 have hC2:∀b,¬b<h.length->kX (h++bs) (.h b)=bs[b-h.length]?:=fun b hb=>by simp only[kX,St.get];rw[a1c (by omega)]
 refine⟨M2,⟨fun k l kC _=>?_,fun k k' l l' b iC h1 h2 _ hc hw=>?_,fun k l kC=>?_⟩,fun _=>rfl,⟨fun k l e=>?_,fun c hc _=>Wj c hc,fun k hs _=>?_,fun k hs _=>?_,fun k l e c hc hs=>?_,hX.size,fun k hs=>?_,by simp,by simp,hX.os,hX.output,hX.tape⟩,LV hg hv' hv⟩
 .cases k with
  |l k=>cases kC
  |h b=>
   obtain⟨c,e1,e2⟩:=hM2 b l kC;by_cases xX:b<h.length
   .have:=klt b xX;rw[this]at e1;cases e1;rw[hold b xX]at e2;obtain⟨x,f1,f2⟩:=hV.ok _ l e2 trivial;exact⟨x,by rw[hC b xX];exact f1,f2.mono hle fun c hc=>Wj c (hV.inb _ l e2 c hc)⟩
   rw[kge b xX]at e1;have aQ:b-h.length<bs.length:=by rw[<-p1];exact(a0c.1 e1).1
   obtain⟨c',x,f1,f2,f3⟩:=p2 _ _ (a0f aQ);rw[e1]at f1;cases f1;obtain⟨x',g1,g2⟩:=YL.ok _ l e2 trivial;have g1:h'[c]? = some x':=g1;rw[f2]at g1;cases g1;exact⟨_,by rw[hC2 b xX];exact a0f aQ,a5q hg g2 f3⟩
 .cases k with
  |l k=>cases h1
  |h b1=>
   cases k' with
   |l k=>cases h2
   |h b2=>
    obtain⟨c1,e1,e2⟩:=hM2 b1 l h1;obtain⟨c2,e3,e4⟩:=hM2 b2 l' h2;have NH:c1≠c2:=fun e=>by
     subst e;by_cases q1:b1<h.length<;>by_cases q2:b2<h.length
     .rw[klt _ q1]at e1;rw[klt _ q2]at e3;cases e1;cases e3;exact iC rfl
     .rw[klt _ q1]at e1;rw[kge _ q2]at e3;cases e1;have:=hk _ (a4u e3);omega
     .rw[kge _ q1]at e1;rw[klt _ q2]at e3;cases e3;have:=hk _ (a4u e1);omega
     rw[kge _ q1]at e1;rw[kge _ q2]at e3;have i1:=(a0c.1 e1);have i2:=(a0c.1 e3);have:=(aae hn (h₀:=i1.1) (h₁:=i2.1)).1 (i1.2.trans i2.2.symm);exact iC (by rw[show b1=b2 by omega])
    obtain⟨x,g1,g2⟩:∃x,kX h' (.h c1)=some x∧wr x=true:=by
     by_cases q1:b1<h.length
     .rw[klt _ q1]at e1;cases e1;exact⟨b,by rw[hoc _ q1,<-hC _ q1];exact hc,hw⟩
     rw[hC2 _ q1]at hc;obtain⟨c',x,f1,f2,f3⟩:=p2 _ _ hc;rw[kge _ q1,f1]at e1;cases e1;exact⟨x,f2,by rw[<-adS f3];exact hw⟩
    exact YL.own (.h c1) (.h c2) l l' x (fun e=>NH (by cases e;rfl)) e2 e4 trivial g1 g2
 .cases k with
  |l k=>cases kC
  |h b=>obtain⟨c,e1,e2⟩:=hM2 b l kC;exact YL.inb _ l e2
 .cases k with
  |l k=>rw[hl k]at e;cases e
  |h b=>exact hle b l e
 .cases k with
  |l k=>simp[kX,St.get]at hs
  |h b=>
   refine hC b ?_;simp only[kX,St.get]at hs;rcases a4l b h.length with h1|h1
   .exact h1
   rw[a4h h1]at hs;simp at hs
 .cases k with
  |l k=>rw[hl k]
  |h b=>
   by_cases xX:b<h.length
   .rw[hκ b b (klt b xX),hold b xX]
   have h1:M (.h b)=none:=by
    cases e:M (.h b)with
    |none=>rfl
    |some l=>exact absurd (Z5 b l e) xX
   rw[h1];refine hκn b ?_;rw[kge b xX];rcases hs with hs|hs
   .simp only[kX,St.get]at hs;rw[a4h (by omega)]at hs;simp at hs
   rw[hC2 b xX]at hs;rw[List.getElem?_eq_none_iff]at hs ⊢;omega
 .cases k with
  |l k=>cases e
  |h b=>
   obtain⟨c',e1,e2⟩:=hM2 b l e;obtain⟨l0,f1,f2⟩:=hX.fresh _ l e2 c hc hs;have:=Z5 _ _ f1;by_cases xX:b<h.length
   .rw[klt b xX]at e1;cases e1;exact⟨l0,f1,f2⟩
   rw[kge b xX]at e1;have:=hk _ (a4u e1);omega
 cases k with
 |l k=>simp[kX,St.get]at hs
 |h b=>
  simp only[kX,St.get]at hs ⊢;rcases a4l b h.length with h1|h1
  .simp[a0j h1,h1]
  rw[a4h h1]at hs;simp at hs
def BD:TV->List Nat->List Nat
 |.ptr b _ _,l=>b::l
 |.slc b _ _ _ _ _,l=>b::l
 |.map b,l=>b::l
 |.fn _ a c,l=>EM a (EM c l)
 |.agg cs,l=>EM cs l
 |.dI cs,l=>EM cs l
 |_,l=>l
where
 EM:List TV->List Nat->List Nat
 | [],l=>l
 |c::cs,l=>BD c (EM cs l)
def a9g:Option HB->List Nat->List Nat
 |some (.cells _ cs),l=>BD.EM cs l
 |some (.map es),l=>a0J es l
 |_,l=>l
where
 a0J:List (TV×TV)->List Nat->List Nat
 | [],l=>l
 |e::es,l=>BD e.1 (BD e.2 (a0J es l))
def a5t(b:Nat):List Nat->Bool
 | []=>false
 |a::l=>match Nat.beq a b with
  |true=>true
  |false=>a5t b l
theorem a0K:∀{l:List Nat} {b:Nat},a5t b l=false->b∉l
 | [],b,_=>by simp
 |a::l,b,h=>by
  simp only[a5t]at h;split at h
  .cases h
  rename_i e;rw[a2y];rintro (rfl|h2)
  .rw[Nat.beq_refl]at e;cases e
  exact a0K h h2
def wK(h:List HB)(fl:Nat):Nat->List Nat->List Nat->List Nat
 | 0,_,acc=>acc
 |_+1,[],acc=>acc
 |n+1,b::t,acc=>match Nat.blt b fl||a5t b acc with
  |true=>wK h fl n t acc
  |false=>wK h fl n (a9g h[b]? t) (b::acc)
theorem IW{h:List HB}{fl:Nat}:∀(n:Nat) (t acc:List Nat),acc.Nodup->(∀b∈acc,fl<=b)->(wK h fl n t acc).Nodup∧∀b∈wK h fl n t acc,fl<=b
 | 0,_,_,h1,h2=>⟨h1,h2⟩
 |_+1,[],_,h1,h2=>⟨h1,h2⟩
 |n+1,b::t,acc,h1,h2=>by
  simp only[wK];split
  .exact IW n t acc h1 h2
  rename_i e;simp only[a9x]at e;have e1:fl<=b:=by
   rcases a4l b fl with h3|h3
   .rw[show Nat.blt b fl=true from Nat.ble_eq_true_of_le h3]at e;cases e.1
   exact h3
  exact IW n _ _ (a4r.2 ⟨a0K e.2,h1⟩) fun c hc=>by
   rcases a2y.1 hc with rfl|hc
   .exact e1
   exact h2 c hc
def Ro:TV->List Int
 |.bool b=>[if b then 1 else 0]
 |.int _ n=>[n]
 |.agg cs=>codes cs
 |_=>[]
where
 codes:List TV->List Int
 | []=>[]
 |c::cs=>Ro c++codes cs
def lu:List Int->List Int->Bool
 | [],_=>true
 |_::_,[]=>false
 |a::az,b::bs=>if a<b then true else if b<a then false else lu az bs
section
variable {α:Type} (key:α->List Int)
def Ew(e:α):List α->List α
 | []=>[e]
 |x::l=>if lu (key e) (key x)then e::x::l else x::Ew e l
def zf:List α->List α
 | []=>[]
 |e::l=>Ew key e (zf l)
theorem Rq(e:α):∀l,(Ew key e l).Perm (e::l)
 | []=>.refl _
 |x::l=>by
  unfold Ew;split
  .exact .refl _
  exact((Rq e l).cons x).trans (.swap e x l)
theorem qo:∀l,(zf key l).Perm l
 | []=>.refl _
 |e::l=>(Rq key e _).trans ((qo l).cons e)
end
abbrev Rt:List (TV×TV)->List (TV×TV):=zf fun e=>Ro e.1
abbrev Ru:List TV->List TV:=zf Ro
theorem FC(l):(Rt l).Perm l:=qo _ l
structure Ix{α:Type}(l1 l2:List α)(f g:Nat->Nat):Prop where
 to:∀i,i<l1.length->f i<l1.length∧g (f i)=i∧l2[f i]? = l1[i]?
 fro:∀j,j<l1.length->g j<l1.length∧f (g j)=j
theorem a0L{α:Type}{l1 l2:List α}(h:l1.Perm l2):∃f g,Ix l1 l2 f g:=by
 induction h with
 |nil=>exact⟨id,id,⟨fun i hi=>by simp at hi,fun i hi=>by simp at hi⟩⟩
 |cons x h ih=>
  obtain⟨f,g,h1,h2⟩:=ih;refine⟨fun i=>match i with| 0=>0|i+1=>f i+1,fun i=>match i with| 0=>0|i+1=>g i+1,⟨fun i hi=>?_,fun j hj=>?_⟩⟩
  .cases i with
   |zero=>simp
   |succ i=>
    obtain⟨a,b,c⟩:=h1 i (by simpa using hi);exact⟨by simpa using a,by simp[b],by simpa using c⟩
  cases j with
  |zero=>simp
  |succ j=>
   obtain⟨a,b⟩:=h2 j (by simpa using hj);exact⟨by simpa using a,by simp[b]⟩
 |swap x y l=>
  refine⟨fun i=>match i with| 0=>1| 1=>0|i+2=>i+2,fun i=>match i with| 0=>1| 1=>0|i+2=>i+2,⟨fun i hi=>?_,fun j hj=>?_⟩⟩
  .match i with
   | 0=>simp
   | 1=>simp
   |i+2=>simp at hi ⊢;exact hi
  match j with
  | 0=>simp
  | 1=>simp
  |j+2=>simp at hj ⊢;exact hj
 |trans h h' ih ih'=>
  obtain⟨f,g,h1,h2⟩:=ih;obtain⟨f',g',h3,h4⟩:=ih';have hl:=h.length_eq;refine⟨fun i=>f' (f i),fun j=>g (g' j),⟨fun i hi=>?_,fun j hj=>?_⟩⟩
  .obtain⟨a,b,c⟩:=h1 i hi;obtain⟨a',b',c'⟩:=h3 (f i) (by omega);exact⟨by omega,by simp only[b',b],by rw[c',c]⟩
  obtain⟨a,b⟩:=h4 j (by omega);obtain⟨a',b'⟩:=h2 (g' j) (by omega);exact⟨a',by simp only[b',b]⟩
theorem wz.perm{N:Np}{o:List Nat}{es fQ:List (TV×TV)}{xs:Array MapEntry}(h:wz N o es xs){f g:Nat->Nat}(hf:Ix es fQ f g)(hl:fQ.length=es.length):wz N (o.map f) fQ xs:=by
 have aQ:∀j∈o,j<es.length:=fun j hj=>by
  obtain⟨i,hi⟩:=a8Q.1 hj;have:i<xs.size:=by rw[<-h.ord];exact(a0c.1 hi).1
  obtain⟨_,j',e,z1,z2,_⟩:=h.at_ i _ (a4c this);rw[hi]at z1;cases z1;exact(a0c.1 z2).1
 refine⟨by rw[hl,h.len],by rw[a4n,h.ord],?_,fun j hj=>?_,fun i x hx=>?_⟩
 .have:∀l:List Nat,(∀j∈l,j<es.length)->l.Nodup->(l.map f).Nodup:=by
   intro l
   induction l with
   |nil=>simp
   |cons a l ih=>
    intro h1 h2;rw[a4r]at h2;rw[a4k,a4r];refine⟨fun hm=>?_,ih (fun j hj=>h1 j (by simp[hj])) h2.2⟩;obtain⟨b,hb,e⟩:=a1l.1 hm;have e1:=(hf.to a (h1 a (by simp))).2.1;have e2:=(hf.to b (h1 b (by simp[hb]))).2.1;rw[e,e1]at e2;exact h2.1 (e2▸hb)
  exact this o aQ h.nod
 .obtain⟨a,b⟩:=hf.fro j (by omega);exact a1l.2 ⟨g j,h.sur _ a,b⟩
 obtain⟨z1,j,e,z2,z3,z4⟩:=h.at_ i x hx;exact⟨z1,f j,e,by rw[a4q,z2];rfl,by rw[(hf.to j (a0c.1 z3).1).2.2];exact z3,z4⟩
def LcW:Lc->Lc->Prop
 |.cells ls,.cells xP=>ls=xP
 |.obj r _,.obj r' _=>r=r'
 |_,_=>False
def a9h(N N':Np):Prop:=∀b l,N b=some l->∃l',N' b=some l'∧LcW l l'
theorem VR.EO{N N':Np}(hm:a9h N N'){v:TV}{x:Value}(h:VR N v x):VR N' v x:=by
 induction h with
 |bool b=>exact .bool b
 |int k n=>exact .int k n
 |str s=>exact .str s
 |a2g=>exact .a2g
 |TN=>exact .TN
 |Yz=>exact .Yz
 |nfn=>exact .nfn
 |a2h=>exact .a2h
 |ptr hb hp h ht=>
  obtain⟨l',h1,h2⟩:=hm _ _ hb;cases l' with
  |obj r _=>exact h2.elim
  |cells xP=>cases h2;exact .ptr h1 hp h ht
 |slc hb hp h hl hc hx ha hk=>
  obtain⟨l',h1,h2⟩:=hm _ _ hb;cases l' with
  |obj r _=>exact h2.elim
  |cells xP=>cases h2;exact .slc h1 hp h hl hc hx ha hk
 |map h=>
  obtain⟨l',h1,h2⟩:=hm _ _ h;cases l' with
  |obj r _=>cases h2;exact .map h1
  |cells xP=>exact h2.elim
 |kP h=>
  obtain⟨l',h1,h2⟩:=hm _ _ h;cases l' with
  |obj r _=>cases h2;exact .kP h1
  |cells xP=>exact h2.elim
 |iter h=>
  obtain⟨l',h1,h2⟩:=hm _ _ h;cases l' with
  |obj r _=>cases h2;exact .iter h1
  |cells xP=>exact h2.elim
 |fn h1 _ h3 _ ih2 ih4=>exact .fn h1 ih2 h3 ih4
 |agg h1 _ ih=>exact .agg h1 ih
 |dI h1 _ ih=>exact .dI h1 ih
theorem wz.EO{N N':Np}(hm:a9h N N'){o:List Nat}{es:List (TV×TV)}{xs:Array MapEntry}(h:wz N o es xs):wz N' o es xs:=
 ⟨h.len,h.ord,h.nod,h.sur,fun i x hx=>let ⟨b,j,e,h1,h2,h3,h4⟩:=h.at_ i x hx;⟨b,j,e,h1,h2,h3.EO hm,h4.EO hm⟩⟩
theorem mG.EO{N N':Np}{w:World}{k:BK}{cs:List TV}{ls:List Pl}(hm:a9h N N')(h:mG N w k cs ls):mG N' w k cs ls:=by
 refine⟨h.1,fun p hp=>?_,h.2.2⟩;obtain⟨⟨arr,ty,fz,h1,h2,h3,h4⟩,p1,p2,p3⟩:=h.2.1 p hp;exact⟨⟨arr,ty,fz,h1,h2,h3,fun z i c v a b d=>(h4 z i c v a b d).EO hm⟩,p1,p2,p3⟩
theorem mG.last{N:Np}{w:World}{k:BK}{cs:List TV}{ls:List Pl}(hk:k≠.ro)(h:mG N w k cs ls):mG N w .last cs ls:=by
 refine⟨h.1,fun p hp=>?_,fun e=>(by cases e),fun _=>?_⟩
 .obtain⟨⟨arr,ty,fz,h1,h2,h3,h4⟩,p1,p2,p3⟩:=h.2.1 p hp;exact⟨⟨arr,ty,fz,h1,h2,fun _=>h3 hk,fun z=>h4 fun _=>z rfl⟩,p1,p2,fun _=>p3 hk⟩
 cases k with
 |ro=>exact absurd rfl hk
 |own=>
  obtain⟨p,rfl,_⟩:=h.2.2.1 rfl;refine⟨by simp,fun p hp q hq _ _=>?_⟩;rw[a2U]at hp hq;rw[hp,hq]
 |grow=>exact h.2.2.2 (.inl rfl)
 |last=>exact h.2.2.2 (.inr rfl)
def L6(fl:Nat):TV->TV
 |.slc b off len cap sz ex=>if b<fl then .slc b off len cap sz ex else .slc b off len len sz false
 |v=>v
def Ua(fl:Nat):TV->TV
 |.dI cs=>.dI (cs.map (L6 fl))
 |v=>L6 fl v
def Qk(ng:Bool):HB->HB
 |.cells .ro cs=>.cells .ro cs
 |.cells _ cs=>if ng then .ng (Ru cs)else .cells .last cs
 |.map es=>.map (Rt es)
 |x=>x
def O1(ng:Bool)(h:List HB)(v:TV)(h1:List HB):Option (TV×List HB):=
 match wK h1 h.length 5000 (BD v []) []with
 |nH=>match nI (Wi h.length nH) v,CJ (Wi h.length nH) h1 nH with
  |some v',some bs=>some (Ua h.length v',h++bs.map (Qk ng))
  |_,_=>none
def fS(es:List (TV×TV)):Nat->Nat:=Classical.choose (a0L (FC es).symm)
theorem ahF(es:List (TV×TV)):∃g,Ix es (Rt es) (fS es) g:=a96 (a0L (FC es).symm)
def mapOf(h bs:List HB)(b:Nat):Option (List (TV×TV)):=
 if b<h.length then none else match bs[b-h.length]? with
  |some (.map es)=>some es
  |_=>none
def Ad(h bs:List HB)(b:Nat)(l:Lc):Lc:=
 match mapOf h bs b,l with
 |some es,.obj r o=>.obj r (o.map (fS es))
 |_,l=>l
theorem xZ{h bs:List HB}{b:Nat}{l:Lc}:aI (Ad h bs b l)=aI l:=by
 unfold Ad;split<;>rfl
theorem LcW.refl(l:Lc):LcW l l:=by
 cases l<;>rfl
theorem adU{h bs:List HB}{b:Nat}{l:Lc}:LcW l (Ad h bs b l):=by
 unfold Ad;split
 .rfl
 exact .refl _
theorem O4{h bs:List HB}{b:Nat}{l:Lc}(hb:b<h.length):Ad h bs b l=l:=by
 unfold Ad mapOf;rw[a0p hb]
theorem a9i{ng:Bool}{x:HB}(h:wr (Qk ng x)=true):wr x=true:=by
 cases x with
 |cells k cs=>cases k<;>first|exact h|rfl
 |_=>first|exact h|rfl
theorem a0M{N:Np}{fl:Nat}{v:TV}{x:Value}(h:VR N v x):VR N (L6 fl v) x:=by
 cases h with
 |slc hb hp h hl hc hx ha hk=>
  simp only[L6];split
  .exact .slc hb hp h hl hc hx ha hk
  exact .slc hb hp (a4U (Nat.add_le_add_left (a3X _ hl) _) h) (a1b _) (a4U hl hc) (fun e=>by cases e) ha hk
 |_=>first|(constructor;done)|(constructor<;>assumption)
theorem a9j{N:Np}{fl:Nat}{v:TV}{x:Value}(h:VR N v x):VR N (Ua fl v) x:=by
 cases h with
 |dI h1 h2=>
  refine .dI (by simpa using h1) fun i c v hc hv=>?_;rw[a4q]at hc;obtain⟨c0,e1,rfl⟩:=a0e.1 hc;exact a0M (h2 i c0 v e1 hv)
 |slc hb hp h hl hc hx ha hk=>exact a0M (.slc hb hp h hl hc hx ha hk)
 |_=>first|(constructor;done)|(constructor<;>assumption)
theorem jI.nrm{M:Mp}{h bs:List HB}{w w':World}{v:TV}{y:Value}(ng:Bool)(hV:Valid M uM (kX h) w)(hl:∀k,M (.l k)=none)(hn:∀x∈bs,∀m n seen,x≠.cZ m n seen)(hR:jI M h w v (h++bs) [] y w'):jI M h w (Ua h.length v) (h++bs.map (Qk ng)) [] y w':=by
 obtain⟨M',YL,hl',hX,hv'⟩:=hR;have Z5:∀b l,M (.h b)=some l->b<h.length:=fun b l hb=>by
  have:=hV.has hb;simp only[kX,St.get]at this;rcases a4l b h.length with h1|h1
  .exact h1
  rw[a4h h1]at this;simp at this
 have hold:∀b,b<h.length->M' (.h b)=M (.h b):=fun b hb=>hX.l9 (.h b) (.inl (by simp[kX,St.get,hb])) (by simp)
 let M2:Mp:=fun k=>match k with
  |.l _=>none
  |.h b=>(M' (.h b)).map (Ad h bs b)
 have hM2:∀b,M2 (.h b)=(M' (.h b)).map (Ad h bs b):=fun b=>rfl;have inv:∀b l2,M2 (.h b)=some l2->∃l,M' (.h b)=some l∧l2=Ad h bs b l:=fun b l2 e=>by
  rw[hM2]at e;obtain⟨l,e1,e2⟩:=a0e.1 e;exact⟨l,e1,e2.symm⟩
 have hmW:a9h M'.h M2.h:=fun b l e=>by
  have e:M' (.h b)=some l:=e;exact⟨_,(show M2 (.h b)=_ by rw[hM2,e];rfl),adU⟩
 have hle:rZ M.h M2.h:=fun b l e=>by
  have e:M (.h b)=some l:=e;have hb:=Z5 b l e;exact⟨l,(show M2 (.h b)=_ by rw[hM2,hold b hb,e];simp[O4 hb]),.refl l⟩
 have Wj:∀c,c<w.heap.size->w'.heap[c]? = w.heap[c]?:=fun c hc=>hX.frame c hc (by simp);have hC:∀b,b<h.length->kX (h++bs.map (Qk ng)) (.h b)=kX h (.h b):=fun b hb=>by simp only[kX,St.get];rw[a0j hb]
 have hC1:∀b,¬b<h.length->kX (h++bs) (.h b)=bs[b-h.length]?:=fun b hb=>by simp only[kX,St.get];rw[a1c (by omega)]
 have hC2:∀b,¬b<h.length->kX (h++bs.map (Qk ng)) (.h b)=(bs[b-h.length]?).map (Qk ng):=fun b hb=>by simp only[kX,St.get];rw[a1c (by omega),a4q]
 have hCo:∀b,b<h.length->kX (h++bs) (.h b)=kX h (.h b):=fun b hb=>by simp only[kX,St.get];rw[a0j hb]
 refine⟨M2,⟨fun k l kC _=>?_,fun k k' l l' b iC q1 q2 _ hc hw=>?_,fun k l kC=>?_⟩,fun _=>rfl,⟨fun k l e=>?_,hX.frame,fun k hs hn=>?_,fun k hs hn=>?_,fun k l e c hc hs=>?_,hX.size,fun k hs=>?_,by simp,by simp,hX.os,hX.output,hX.tape⟩,a9j (hv'.EO hmW)⟩
 .cases k with
  |l k=>cases kC
  |h b=>
   obtain⟨l0,e1,rfl⟩:=inv b l kC;by_cases hb:b<h.length
   .rw[O4 hb,hC b hb];rw[hold b hb]at e1;obtain⟨x,f1,f2⟩:=hV.ok _ l0 e1 trivial;exact⟨x,f1,f2.mono hle fun c hc=>Wj c (hV.inb _ l0 e1 c hc)⟩
   obtain⟨x,x1,x2⟩:=YL.ok _ l0 e1 trivial;rw[hC1 b hb]at x1;refine⟨Qk ng x,by rw[hC2 b hb,x1];rfl,?_⟩;cases x with
   |cells k cs=>
    cases l0 with
    |obj r o=>exact x2.elim
    |cells ls=>
     have x3:mG M2.h w' k cs ls:=mG.EO hmW x2;have e:Ad h bs b (.cells ls)=.cells ls:=by unfold Ad;split<;>first|rfl|simp_all
     rw[e];have go:k≠.ro->pK M2.h w' (if ng then .ng (Ru cs)else .cells .last cs) (.cells ls):=fun hk=>by
      cases ng with
      |true=>exact⟨cs,(qo _ cs).symm,x3.last hk⟩
      |false=>exact x3.last hk
     cases k with
     |ro=>exact x3
     |own=>exact go (by simp)
     |grow=>exact go (by simp)
     |last=>exact go (by simp)
   |ng cs=>
    cases l0 with
    |obj r o=>exact x2.elim
    |cells ls=>
     have e:Ad h bs b (.cells ls)=.cells ls:=by unfold Ad;split<;>first|rfl|simp_all
     rw[e];obtain⟨cs',h1,h2⟩:=x2;exact⟨cs',h1,mG.EO hmW h2⟩
   |map es=>
    cases l0 with
    |cells ls=>exact x2.elim
    |obj r o=>
     obtain⟨xs,y1,y2⟩:=x2;have e:Ad h bs b (.obj r o)=.obj r (o.map (fS es)):=by
      have:mapOf h bs b=some es:=by unfold mapOf;rw[a0o hb,x1]
      unfold Ad;rw[this]
     rw[e];obtain⟨g,hg⟩:=ahF es;exact⟨xs,y1,(y2.EO hmW).perm hg (FC es).length_eq⟩
   |mark=>
    have e:∀r o,Ad h bs b (.obj r o)=.obj r o:=fun r o=>by
     have:mapOf h bs b=none:=by unfold mapOf;rw[a0o hb,x1]
     unfold Ad;rw[this]
    cases l0 with
    |cells ls=>exact x2.elim
    |obj r o=>rw[e];exact x2
   |cZ m n seen=>exact absurd rfl (hn _ (a4u x1) m n seen)
   |loop rd f nt env ps a b9 jH=>
    have e:∀r o,Ad h bs b (.obj r o)=.obj r o:=fun r o=>by
     have:mapOf h bs b=none:=by unfold mapOf;rw[a0o hb,x1]
     unfold Ad;rw[this]
    cases l0 with
    |cells ls=>exact x2.elim
    |obj r o=>
     rw[e];obtain⟨lp,h1,h2⟩:=x2;exact⟨lp,h1,{ h2 with KU:=fun t v e=>(h2.KU t v e).EO hmW }⟩
 .cases k with
  |l k=>cases q1
  |h b1=>
   cases k' with
   |l k=>cases q2
   |h b2=>
    obtain⟨l1,e1,rfl⟩:=inv b1 l q1;obtain⟨l2,e2,rfl⟩:=inv b2 l' q2;rw[xZ,xZ];obtain⟨x,g1,g2⟩:∃x,kX (h++bs) (.h b1)=some x∧wr x=true:=by
     by_cases q1:b1<h.length
     .exact⟨b,by rw[hCo _ q1,<-hC _ q1];exact hc,hw⟩
     rw[hC2 _ q1]at hc;obtain⟨x,f1,rfl⟩:=a0e.1 hc;exact⟨x,by rw[hC1 _ q1];exact f1,a9i hw⟩
    exact YL.own (.h b1) (.h b2) l1 l2 x iC e1 e2 trivial g1 g2
 .cases k with
  |l k=>cases kC
  |h b=>
   obtain⟨l0,e1,rfl⟩:=inv b l kC;rw[xZ];exact YL.inb _ l0 e1
 .cases k with
  |l k=>rw[hl k]at e;cases e
  |h b=>exact hle b l e
 .cases k with
  |l k=>simp[kX,St.get]at hs
  |h b=>exact hC b (by simpa[kX,St.get]using hs)
 .cases k with
  |l k=>rw[hl k]
  |h b=>
   by_cases hb:b<h.length
   .rw[hM2,hold b hb];cases M (.h b)with
    |none=>rfl
    |some l=>simp only[a0v];rw[O4 hb]
   have h0:M (.h b)=none:=by
    cases e:M (.h b)with
    |none=>rfl
    |some l=>exact absurd (Z5 b l e) hb
   have DT:kX (h++bs) (.h b)=none:=by
    rcases hs with hs|hs
    .have:b<h.length:=(by simpa[kX,St.get]using hs);omega
    rw[hC2 _ hb]at hs;rw[hC1 _ hb];simpa using hs
   have:M' (.h b)=M (.h b):=hX.l9 (.h b) (.inr DT) (by simp);rw[h0,hM2,this,h0];rfl
 .cases k with
  |l k=>cases e
  |h b=>
   obtain⟨l0,e1,rfl⟩:=inv b l e;rw[xZ]at hc;exact hX.fresh _ l0 e1 c hc hs
 cases k with
 |l k=>simp[kX,St.get]at hs
 |h b=>
  have hb:b<h.length:=by simpa[kX,St.get]using hs
  rw[hC b hb];exact hs
theorem Wn{g:Nat->Option Nat}{x y:HB}(h:uw g x=some y):∀m n seen,y≠.cZ m n seen:=by
 cases x<;>simp only[uw,a0e,a05]at h
 all_goals first
  |(obtain⟨_,_,rfl⟩:=h;simp)
  |(subst h;simp)
  |cases h
theorem jI.norm{M:Mp}{h h1 h2:List HB}{w w':World}{v v2:TV}{y:Value}{ng:Bool}(hV:Valid M uM (kX h) w)(hl:∀k,M (.l k)=none)(ho:O1 ng h v h1=some (v2,h2))(hR:jI M h w v h1 [] y w'):jI M h w v2 h2 [] y w':=by
 unfold O1 at ho;simp only at ho;obtain⟨k1,k2⟩:=IW (h:=h1) (fl:=h.length) 5000 (BD v []) [] .nil (by simp);split at ho
 .rename_i v' bs e1 e2;cases ho;refine jI.nrm ng hV hl (fun x hx=>?_) (hR.gc hV hl k1 k2 e1 e2);obtain⟨i,hi⟩:=a8Q.1 hx;obtain⟨_,_,_,_,e⟩:=(NZ e2).2 i x hi;exact Wn e
 cases ho
section
variable {P:Program} {T:qJ} {call:aY} {L:Nat} {nt:Nat} {M:Mp} {h:List HB} {w:World}
def Ql(tmps:Array Value):List (Nat×Value)->Array Value
 | []=>tmps
 |(t,a)::r=>Ql (tmps.setIfInBounds t a) r
theorem Rx:∀{l:List (Nat×Value)} {tmps:Array Value},(Ql tmps l).size=tmps.size
 | [],_=>rfl
 |(t,a)::r,tmps=>by rw[Ql,Rx];simp
theorem O5:∀(l:List (Nat×Value)) (tmps:Array Value),l.foldl (fun tmps (t,a)=>tmps.setIfInBounds t a) tmps=Ql tmps l
 | [],_=>rfl
 |(t,a)::r,tmps=>by rw[adr,O5 r];rfl
theorem Ry{N:Np}{nt:Nat}:∀{ps:List Nat} {args:List TV} {xs:List Value} {env:List (Nat×EV)} {tmps:Array Value},bU N args xs->args.length=ps.length->(∀p∈ps,p<nt)->nt<=tmps.size ->
  (∀t v,dM t env=some (.val v)->VR N v (tmps.getD t Go.undef))->(∀t,dM t env=some .undef->tmps.getD t Go.undef=Go.undef)->(∀t e,dM t env=some e->isVal (t,e)=true) ->
  (∀t v,dM t (sJ env ps args)=some (.val v)->VR N v ((Ql tmps (ps.zip xs)).getD t Go.undef))∧(∀t,dM t (sJ env ps args)=some .undef->(Ql tmps (ps.zip xs)).getD t Go.undef=Go.undef) ∧
   (∀t e,dM t (sJ env ps args)=some e->isVal (t,e)=true)
 | [],[],xs,env,tmps,_,_,_,_,h1,h2,h3=>⟨h1,h2,h3⟩
 | [],v::vs,xs,env,tmps,_,hl,_,_,_,_,_=>by simp at hl
 |p::ps,[],xs,env,tmps,_,hl,_,_,_,_,_=>by simp at hl
 |p::ps,v::vs,xs,env,tmps,hx,hl,hp,hn,h1,h2,h3=>by
  obtain⟨x,xs',rfl,hx1,hx2⟩:=hx.iK;have hpn:=hp p a3m;simp only[sJ,List.zip_cons_cons,Ql];have hg:∀t,(tmps.setIfInBounds p x).getD t Go.undef=if p=t then x else tmps.getD t Go.undef:=by
   intro t;simp only[a8q,a8R];by_cases h:p=t
   .subst h;simp[show p<tmps.size by omega]
   .simp[h]
  refine Ry hx2 (by simpa using hl) (fun q hq=>hp q (a3n _ hq)) (by simpa using hn) ?_ ?_ ?_
  .intro t v' he;rw[hg];simp only[dM]at he;split at he
   .rename_i h;rw[a0p h];cases he;exact hx1
   .rename_i h;rw[a0o h];exact h1 t v' he
  .intro t he;rw[hg];simp only[dM]at he;split at he
   .cases he
   .rename_i h;rw[a0o h];exact h2 t he
  .intro t e he;simp only[dM]at he;split at he
   .cases he;rfl
   .exact h3 t e he
theorem a5u(hm:P.follows .mixedOrders=true)(hC:iD P call){l l':Nat}{q:List Nat}{args:List TV}{v:TV}{h':List HB}{ws:List Nat}(hf:Nk P T call L l args h=some (v,h',ws))(hB:wI M h w)(hl:M (.h l)=some (.obj l' q))
  {xs:List Value} (hx:bU M.h args xs):U3 P { target:=.fn (.yield l') #[],args:=xs.toArray } w (jI M h w v h' ws):=by
 unfold Nk at hf;split at hf
 .rename_i f nt env ps uJ body jH hh;split at hf
  .rename_i hc;obtain⟨hlen,hps⟩:=hc;have anm:∀p∈ps,p<nt:=fun p hp=>(by simpa using a4A.1 hps p hp);obtain⟨fU,k1,k2⟩:=hB.val.ok _ _ hl trivial;simp only[kX,St.get,hh,a05]at k1;subst k1;obtain⟨lp,l1,l2⟩:=k2;have hlb:l<h.length:=(a0c.1 hh).1;have hpa:lp.params.size=xs.length:=by
    have:=l2.ps;rw[<-hx.len,hlen,<-this];simp
   have ano:(lp.params.zip xs.toArray).foldl (fun tmps (t,a)=>tmps.setIfInBounds t a) lp.tmps=Ql lp.tmps (ps.zip xs):=by
    rw[<-Array.foldl_toList,Array.toList_zip,l2.ps];exact O5 _ _
   refine⟨l',lp.fn,Ql lp.tmps (ps.zip xs),uJ,body,?_,fun n=>?_⟩
   .have h1:(Instr.yield l' xs.toArray).run P w=.ok (.round l' lp.fn ((lp.params.zip xs.toArray).foldl (fun tmps (t,a)=>tmps.setIfInBounds t a) lp.tmps) lp.assign lp.body) w:=by
     simp[Instr.yield,Instr.getLoop,getObj,Sem.run,l1,hpa]
    rw[ano,l2.uJ,l2.body]at h1;exact h1
   obtain⟨p1,p2,p3⟩:=Ry hx hlen anm l2.size l2.KU l2.TP l2.nol;have hR0:Rel M h w nt M ⟨sJ env ps args,[],h,[]⟩ { tmps:=Ql lp.tmps (ps.zip xs),defers:=[] } w:=by
    have hg:St.get ⟨sJ env ps args,[],h,[]⟩=kX h:=getEnv ⟨[],[],h,[]⟩ _ _;refine⟨by rw[hg];exact hB.val,by rw[hg];exact .refl _ _ _,fun t e he=>?_,by rw[Rx];exact l2.size,by simp,.nil⟩;cases e with
    |val v=>exact .val (p1 t v he)
    |undef=>
     have:=p2 t he;simp only at this ⊢;rw[this];exact .undef
    |_=>exact absurd (p3 t _ he) (by simp[isVal])
   refine roundIn_of_wpIn (F:=Fence.wide) trivial ?_;split at hf
   .rename_i s1 hex;refine vJ (gW:=true) (r:=some l') hm hC hB (by simp) _ _ _ _ hex n _ M _ w hR0 fun M1 a1 w1 xG=>?_;split at hf
    .rename_i f' nt' env' ps' a' b' abN hh1;obtain⟨q1,hl1⟩:∃q1,M1 (.h l)=some (.obj l' q1):=by
      obtain⟨l0,g1,g2⟩:=xG.ext.Iu _ _ hl;cases l0 with
      |cells ls=>exact g2.elim
      |obj r' o'=>cases g2.1;exact⟨o',g1⟩
     obtain⟨fU,k1,k2⟩:=xG.val.ok _ _ hl1 trivial;simp only[St.get,hh1,a05]at k1;subst k1;obtain⟨lp1,m1,m2⟩:=k2;obtain⟨v2,x2⟩:=DW xG.val hl1 hh1 rfl (b':=.loop false f' nt' env' ps' a' b' none) (o':=.loop { lp1 with state:=.busy }) ⟨{ lp1 with state:=.busy },by simp[(a2p.1 m1).1],
      {ps:=m2.ps,uJ:=m2.uJ,body:=m2.body,size:=m2.size,KU:=m2.KU,TP:=m2.TP,nol:=m2.nol,ready:=by simp,busy:=fun _ _=>rfl,done:=by simp }⟩
     have Rk:=xG.next hB (s':={ s1 with heap:=s1.heap.set l (.loop false f' nt' env' ps' a' b' none),ws:=Et h.length l s1.ws }) v2 x2 rfl rfl (fun _ _ e=>e);refine⟨{ w1 with heap:=w1.heap.setIfInBounds l' (.loop { lp1 with state:=.busy }) },?_,?_⟩
     .simp[Instr.beginRound,Instr.getLoop,getObj,setObj,Sem.run,m1,(m2.ready rfl).1]
     .split at hf
      .rename_i e s2 anq;refine vJ (gW:=true) (r:=some l') hm hC hB (by simp) _ _ _ _ anq n _ M1 _ _ Rk fun M3 a3 w3 hR3=>?_;split at hf
       .rename_i f3 nt3 ahH ps3 a3' b3 hh3;simp only[a05,a0t]at hf;obtain⟨rfl,rfl,rfl⟩:=hf;obtain⟨q3,hl3⟩:∃q3,M3 (.h l)=some (.obj l' q3):=by
         obtain⟨l0,g1,g2⟩:=hR3.ext.Iu _ _ hl;cases l0 with
         |cells ls=>exact g2.elim
         |obj r' o'=>cases g2.1;exact⟨o',g1⟩
        obtain⟨fU,k1,k2⟩:=hR3.val.ok _ _ hl3 trivial;simp only[St.get,hh3,a05]at k1;subst k1;obtain⟨lp3,q1,q2⟩:=k2
        let lp4:Loop:={ lp3 with state:=if(sK e).isNone then .ready else .done,pending:=sK e }
        obtain⟨v4,x4⟩:=DW hR3.val hl3 hh3 rfl (b':=.loop (pG e) f3 nt3 ahH ps3 a3' b3 (sK e)) (o':=.loop lp4) ⟨lp4,by simp[(a2p.1 q1).1],
         {ps:=q2.ps,uJ:=q2.uJ,body:=q2.body,size:=q2.size,KU:=q2.KU,TP:=q2.TP,nol:=q2.nol
          ready:=fun hn=>by cases e<;>simp[pG]at hn;exact⟨rfl,rfl⟩
          busy:=fun hn hp=>by cases e<;>simp[pG,sK]at hn hp
          done:=fun hn j hj _=>by cases e<;>simp[pG]at hn<;>(simp only[sK,a05]at hj;subst hj;exact⟨rfl,rfl⟩) }⟩
        have hR4:=hR3.next hB (s':={ s2 with heap:=s2.heap.set l (.loop (pG e) f3 nt3 ahH ps3 a3' b3 (sK e)),ws:=Et h.length l s2.ws }) v4 x4 rfl rfl (fun _ _ e=>e);have O6:=YX hB hR4 (v:=.bool (pG e)) (y:=.bool (pG e)) (.bool _);have adV:(Instr.endRound l' (sK e)).run P w3=.ok (.bool (pG e)) { w3 with heap:=w3.heap.setIfInBounds l' (.loop lp4) }:=by
         cases e<;>simp[Instr.endRound,Instr.getLoop,getObj,setObj,Sem.run,q1,pG,sK,lp4]
        cases e with
        |norm=>exact⟨_,_,adV,O6⟩
        |exit id=>exact⟨_,_,adV,O6⟩
        |ret=>exact⟨_,_,adV,O6⟩
       .cases hf
      .cases hf
    .cases hf
   .cases hf
  .cases hf
 .cases hf
end
def Z7(cd:uZ):Prop:=∀fv args h K1 K2,cd fv args h K1->cd fv args h K2->∃v h' ws,K1 v h' ws∧K2 v h' ws
theorem Wp:Z7 CG:=fun _ _ _ _ _ h _=>h.elim
theorem a2E{P:Program}:LU P CG:=fun _ _ _ _ _ _ h=>h.elim
section
variable {P:Program} {T:qJ} {call:aY} {cd:uZ} {L f:Nat} {fl nt:Nat}
theorem O7{g:St->(Ex->St->Prop)->Prop}(hg:∀s Q1 Q2,g s Q1->g s Q2->∃e s',Q1 e s'∧Q2 e s'):∀(k:Nat) {s:St} {Q1 Q2:Ex->St->Prop},GL g k s Q1->GL g k s Q2->∃e s',Q1 e s'∧Q2 e s'
 | 0,_,_,_,h,_=>h.elim
 |k+1,s,Q1,Q2,h1,h2=>by
  obtain⟨e,s',q1,q2⟩:=hg _ _ _ h1 h2;cases e with
  |norm=>exact O7 hg k q1 q2
  |exit i=>exact⟨_,_,q1,q2⟩
  |ret=>exact⟨_,_,q1,q2⟩
theorem Z8{s:St}{it:Nat}{K1 K2:St->TV->Prop}(h1:a0H fl s it K1)(h2:a0H fl s it K2):∃s1 v,K1 s1 v∧K2 s1 v:=by
 obtain⟨b,r,n,seen,es,a1,a2,a3,a4,a5,a6⟩:=h1;obtain⟨b',r',n',arv,fQ,c1,c2,c3,c4,c5,c6⟩:=h2;rw[a1]at c1;cases c1;rw[a2]at c2;cases c2;rw[a3]at c3;cases c3;by_cases h:∀j,j<n->j∈seen
 .exact⟨_,_,a5 h,c5 h⟩
 obtain⟨j,hj⟩:=Classical.not_forall.1 h;obtain⟨hj1,rV⟩:=Classical.not_imp.1 hj;have hl:j<es.length:=by omega
 exact⟨_,_,a6 j _ rV (a0f hl),c6 j _ rV (a0f hl)⟩
theorem O8(hcd:Z7 cd):∀(c:Code) {s:St} {Q1 Q2:Ex->St->Prop},fF P T call cd L f fl nt c s Q1->fF P T call cd L f fl nt c s Q2->∃e s',Q1 e s'∧Q2 e s':=by
 have plain:∀(c:Code) {s:St} {Q1 Q2:Ex->St->Prop},(∃e s',exec P T call L f false fl nt c s=some (e,s')∧Q1 e s')->(∃e s',exec P T call L f false fl nt c s=some (e,s')∧Q2 e s')->∃e s',Q1 e s'∧Q2 e s':=by
  rintro c s Q1 Q2 ⟨e,s1,h1,h2⟩ ⟨e',s2,h3,h4⟩;rw[h1]at h3;cases h3;exact⟨_,_,h2,h4⟩
 intro c
 induction c with
 |region id ops draw=>
  intro s Q1 Q2 h1 h2;simp only[fF]at h1 h2;split at h1
  .rename_i it nx o1 o2 hn;simp only[hn]at h2;obtain⟨s1,v,⟨s2,is,k1,k2⟩,⟨s3,is',k3,k4⟩⟩:=Z8 h1.2 h2.2;rw[k1]at k3;cases k3;exact⟨_,_,k2,k4⟩
  rename_i hn;simp only[hn]at h2;exact plain _ h1 h2
 |seq x y W9 ihy=>
  intro s Q1 Q2 h1 h2;simp only[fF]at h1 h2;obtain⟨e,s1,q1,q2⟩:=W9 h1 h2;cases e with
  |norm=>exact ihy q1 q2
  |exit i=>exact⟨_,_,q1,q2⟩
  |ret=>exact⟨_,_,q1,q2⟩
 |cond c x y W9 ihy=>
  intro s Q1 Q2 h1 h2;simp only[fF]at h1 h2;split at h1
  .rename_i hc;simp only[hc]at h2;exact W9 h1 h2
  .rename_i hc;simp only[hc]at h2;exact ihy h1 h2
  exact h1.elim
 |block id b ih=>
  intro s Q1 Q2 h1 h2;simp only[fF]at h1 h2;obtain⟨e,s1,q1,q2⟩:=ih h1 h2;exact⟨_,_,q1,q2⟩
 |scope b ih=>
  intro s Q1 Q2 h1 h2;simp only[fF]at h1 h2;exact ih h1 h2
 |loop b ih=>
  intro s Q1 Q2 h1 h2;simp only[fF]at h1 h2;exact O7 (g:=fun s Q=>fF P T call cd L f fl nt b (jW (T.eH f (dV b)) s) Q) (fun s Q1 Q2 a b=>ih a b) L h1 h2
 |rangeFunc g ps uJ body=>
  intro s Q1 Q2 h1 h2;simp only[fF]at h1 h2;split at h1
  .rename_i hd;rw[a0p hd]at h2;obtain⟨f1,a1,b1,e1,_,k1⟩:=h1;obtain⟨f2,a2,b2,e2,_,k2⟩:=h2;rw[e1]at e2;cases e2;obtain⟨v,h',ws,⟨_,_,_,_,_,_,_,_,_,c1,c2,c3⟩,⟨_,_,_,_,_,_,_,_,_,d1,d2,d3⟩⟩:=hcd _ _ _ _ _ k1 k2;rw[c1]at d1;cases d1;rw[c2]at d2;cases d2;exact⟨_,_,c3,d3⟩
  rename_i hd;rw[a0o hd]at h2;exact plain _ h1 h2
 |_=>
  intro s Q1 Q2 h1 h2;simp only[fF]at h1 h2;exact plain _ h1 h2
def uO(P:Program)(T:qJ)(call:aY)(L:Nat):uZ:=fun fv args h K=>match fv with
 |.fn f a b=>∃t,TL P f=some t∧fF P T call CG L f h.length t.nt t.body ⟨nM 0 (a++args++b),[],h,[]⟩ fun e s=>(e=.norm∨e=.ret)∧∃vs,xO P s t.results=some vs∧K (one vs) s.heap s.ws
 |_=>False
theorem Wq:Z7 (uO P T call L):=fun fv args h K1 K2 h1 h2=>by
 cases fv with
 |fn f a b=>
  obtain⟨t,e1,k1⟩:=h1;obtain⟨t',e2,k2⟩:=h2;rw[e1]at e2;cases e2;obtain⟨e,s,⟨_,vs,a1,a2⟩,⟨_,vs',a3,a4⟩⟩:=O8 Wp _ k1 k2;rw[a1]at a3;cases a3;exact⟨_,_,_,a2,a4⟩
 |_=>exact h1.elim
def Ws(P:Program)(T:qJ)(call:aY)(L:Nat)(f:Nat)(t:FnT)(args:List TV)(h:List HB)(r:TV×List HB):Prop:=
 fF P T call (uO P T call L) L f h.length t.nt t.body ⟨nM 0 args,[],h,[]⟩ fun e s=>(e=.norm∨e=.ret)∧∃vs,xO P s t.results=some vs∧s.ws=[]∧O1 (T.a8Y.contains f) h (one vs) s.heap=some r
open Classical in
def a2F(P:Program)(T:qJ)(call:aY)(L:Nat)(f:Nat)(args:List TV)(h:List HB):Option (TV×List HB×List Nat):=
 match TL P f with
 |some t=>if hx:∃r,Ws P T call L f t args h r then some ((Classical.choose hx).1,(Classical.choose hx).2,[])else none
 |none=>none
theorem a2G{args:List TV}{h:List HB}{r:TV×List HB×List Nat}(hf:a2F P T call L f args h=some r):∃t,TL P f=some t∧Ws P T call L f t args h (r.1,r.2.1)∧r.2.2=[]:=by
 unfold a2F at hf;split at hf
 .rename_i t ht;split at hf
  .rename_i hx;cases hf;exact⟨t,ht,a96 hx,rfl⟩
  cases hf
 cases hf
theorem a9l{args:List TV}{h:List HB}{r:TV×List HB}{t:FnT}(ht:TL P f=some t)(hr:Ws P T call L f t args h r):a2F P T call L f args h=some (r.1,r.2,[]):=by
 unfold a2F;rw[ht];simp only[];have hx:∃r,Ws P T call L f t args h r:=⟨r,hr⟩;rw[dif_pos hx];obtain⟨e,s,⟨_,vs,a1,_,a2⟩,⟨_,vs',a3,_,a4⟩⟩:=O8 Wq _ (a96 hx) hr;rw[a1]at a3;cases a3;rw[a2]at a4;cases a4;rfl
end
section
variable {P:Program} {T:qJ} {call:aY} {cd:uZ} {L:Nat} {nt:Nat} {M:Mp} {h:List HB} {w:World}
theorem a0N(hm:P.follows .mixedOrders=true)(hC:iD P call)(hD:LU P cd){f:Nat}{args:List TV}{t:FnT}{K:TV->List HB->List Nat->Prop}(ht:TL P f=some t)
  (hO:fF P T call cd L f h.length t.nt t.body ⟨nM 0 args,[],h,[]⟩ fun e s=>(e=.norm∨e=.ret)∧∃vs,xO P s t.results=some vs∧K (one vs) s.heap s.ws) (hB:wI M h w) {xs:List Value} (hx:bU M.h args xs) :
  ∃ fn c, P.funcs[f]? = some fn ∧ (fn.name == "runtime.NumGoroutine") = false ∧ fn.body = some c ∧ ∀ n, CallsIn Fence.wide n P f xs.toArray w (KZ fun y w' => ∃ v h' ws, K v h' ws ∧ jI M h w v h' ws y w') := by
 unfold TL at ht;split at ht
 .rename_i fn hfn;split at ht
  .cases ht
  .rename_i a5v;split at ht
   .rename_i c hc;cases ht;refine⟨fn,c,hfn,by simpa using a5v,hc,fun n=>?_⟩;have hR0:Rel M h w fn.ntmps M ⟨nM 0 args,[],h,[]⟩ { tmps:=xs.toArray++Array.replicate (fn.ntmps-xs.toArray.size) Go.undef,defers:=[] } w:=by
     have hg:St.get ⟨nM 0 args,[],h,[]⟩=kX h:=getEnv ⟨[],[],h,[]⟩ _ _;refine⟨by rw[hg];exact hB.val,by rw[hg];exact .refl _ _ _,fun t e hl=>?_,by simp;omega,by simp,.nil⟩;obtain⟨i,v',x,e1,rfl,e3,e4⟩:=IV hx hl;have hi:i<xs.length:=(a0c.1 e3).1;have:(xs.toArray++Array.replicate (fn.ntmps-xs.toArray.size) Go.undef).getD t Go.undef=x:=by
      rw[a8q,a9V (by simp;omega)];have:t=i:=(by omega);subst this;simp[e3]
     rw[this];exact .val e4
    have O6:∀(s:St) (vs:List TV),xO P s fn.results.toList=some vs->K (one vs) s.heap s.ws->∀(M':Mp) (a':Act) (w':World),Rel M h w fn.ntmps M' s a' w'->LeavesInM Fence.wide n P fn a'.tmps (KZ fun y w'=>∃v h' ws,K v h' ws∧jI M h w v h' ws y w') a'.defers .returning w':=by
     intro s vs hvs hs M' a' w' Fz;refine NW hB a'.defers a' w' rfl Fz fun w'' a5w=>?_;obtain⟨y,g1,g2⟩:=NV (P:=P) a5w hvs;exact⟨y,g2,_,_,_,hs,YX hB a5w g1⟩
    refine callsIn_of_wp_marks (F:=Fence.wide) hfn hc trivial ?_;refine a5o hm hC hD hB _ _ _ hO n _ M _ w hR0 fun e s M' a' w' hq Fz=>?_;obtain⟨he,vs,h1,h2⟩:=hq;rcases he with rfl|rfl
    .exact O6 s vs h1 h2 M' a' w' Fz
    .exact O6 s vs h1 h2 M' a' w' Fz
   .cases ht
 .cases ht
theorem a2H(hm:P.follows .mixedOrders=true)(hC:iD P call):LU P (uO P T call L):=by
 intro f1 a1 b1 args h K hc M w x xs hV hl hx NP;obtain⟨t,ht,hO⟩:=hc;cases hx with
 |fn h1 h2 h3 h4=>
  rename_i ys zs;have EP:bU M.h (a1++args++b1) (ys++xs++zs):=(bU.append ⟨h1,h2⟩ NP).append ⟨h3,h4⟩;obtain⟨fn,c,e1,e2,e3,e4⟩:=a0N hm hC a2E ht hO ⟨hV,hl⟩ EP;refine⟨{ target:=.fn (.func f1) zs.toArray,args:=ys.toArray++xs.toArray },fun w=>by simp[Deferred.ofValue],f1,(ys++xs++zs).toArray,?_,e4⟩;have e2' : ¬ fn.name = "runtime.NumGoroutine" := by simpa using e2
  simp[invoke,callFunc,program,Sem.run,e1,e2',e3]
theorem a9m(hm:P.follows .mixedOrders=true)(hC:iD P call){f:Nat}{args:List TV}{v:TV}{h':List HB}{ws:List Nat}(hf:a2F P T call L f args h=some (v,h',ws))(hB:wI M h w){xs:List Value}(hx:bU M.h args xs) :
  ∃ fn c, P.funcs[f]? = some fn ∧ (fn.name == "runtime.NumGoroutine") = false ∧ fn.body = some c ∧ ∀ n, CallsIn Fence.wide n P f xs.toArray w (KZ (jI M h w v h' ws)) := by
 obtain⟨t,ht,hO,hw⟩:=a2G hf;simp only at hw;subst hw;obtain⟨fn,c,e1,e2,e3,e4⟩:=a0N (K:=fun v1 h1 ws1=>ws1=[]∧O1 (T.a8Y.contains f) h v1 h1=some (v,h')) hm hC (a2H hm hC) ht hO hB hx;refine⟨fn,c,e1,e2,e3,fun n=>CallsIn.mono (F:=Fence.wide) (e4 n) fun en w3 VZ=>?_⟩;cases en with
 |panicked c=>exact VZ.elim
 |outgrown=>exact VZ.elim
 |returned y=>
  obtain⟨v1,h1,ws1,⟨rfl,ho⟩,hR⟩:=VZ;exact jI.norm hB.val hB.loc ho hR
end
section
variable {H:Type}
def Wu(g:DataW H->List HB->Option (List TV×List HB))(n:Nat):List (DataW H)->List HB->Option (List TV×List HB)
 | [],h=>some ([],h)
 |d::ds,h=>match g d h with
  |some (c,h1)=>if c.length=n then(match Wu g n ds h1 with
   |some (cs,h2)=>some (c++cs,h2)
   |none=>none)else none
  |none=>none
def O9(P:Program)(g:TypeId->DataW H->List HB->Option (List TV×List HB)):Nat->List Field->List (DataW H)->List HB->Option (List TV×List HB)
 |_,[],[],h=>some ([],h)
 |o,f::fs,d::ds,h=>match g f.type d h with
  |some (c,h1)=>if f.offset=o∧c.length=P.cellsOf f.type then(match O9 P g (o+c.length) fs ds h1 with
   |some (cs,h2)=>some (c++cs,h2)
   |none=>none)else none
  |none=>none
 |_,_,_,_=>none
def CO(P:Program):Nat->TypeId->DataW H->List HB->Option (List TV×List HB)
 | 0,_,_,_=>none
 |g+1,t,d,h=>match P.underlying t,d with
  |some .bool,.lit (.bool b)=>some ([.bool b],h)
  |some (.int _),.lit (.int k n)=>some ([.int k n],h)
  |some .string,.lit (.string bs)=>some ([.str ⟨bs.toArray⟩],h)
  |some (.slice _),.nil=>some ([.nil .slc],h)
  |some (.slice e),.slice xs ys=>match Wu (CO P g e) (P.cellsOf e) (xs++ys) h with
   |some (cs,h1)=>if P.cellsOf e=0 then none else some ([.slc h1.length 0 xs.length (xs.length+ys.length) (P.cellsOf e) true],h1++[.cells .ro cs])
   |none=>none
  |some (.struct fs),.agg ds=>match O9 P (CO P g) 0 fs.toList ds h with
   |some (cs,h1)=>if cs.length=P.cellsOf t then some (cs,h1)else none
   |none=>none
  |_,_=>none
variable {enc:TypeId×Value->H} {P:Program} {w:World}
structure uP(M:Mp)(h:List HB)(w:World):Prop where
 base:wI M h w
 ro:∀b∈h,wr b=false
def Reads(enc:TypeId×Value->H)(P:Program)(w:World)(t:TypeId)(cs:List Value)(d:DataW H):Prop:=
 ∃fuel ps,DataW.trod enc P w 0 (fun _=>true) true fuel t cs=some (d,ps)
def a5x(enc:TypeId×Value->H)(P:Program)(w:World)(g:TypeId->DataW H->List HB->Option (List TV×List HB)):Prop:=
 ∀t d h r,g t d h=some r->∀cs,Reads enc P w t cs d->∀M,uP M h w->∃M',uP M' r.2 w∧rZ M M'∧bU M'.h r.1 cs∧∀c∈r.1,iR c=true
theorem a0O{g:TypeId->DataW H->List HB->Option (List TV×List HB)}(hg:a5x enc P w g){e:TypeId}{n:Nat}:∀(ds:List (DataW H)) (LW:List (List Value)) (h:List HB) (r:List TV×List HB),Wu (g e) n ds h=some r ->
  LW.length=ds.length->(∀(i:Nat) (d:DataW H) (cs:List Value),ds[i]? = some d->LW[i]? = some cs->Reads enc P w e cs d)->∀M,uP M h w ->
  ∃M',uP M' r.2 w∧rZ M M'∧bU M'.h r.1 LW.flatten∧(∀c∈r.1,iR c=true)∧r.1.length=ds.length*n∧∀cs∈LW,cs.length=n
 | [],LW,h,r,hr,hl,hd,M,hB=>by
  simp only[Wu,a05]at hr;subst hr;have:LW=[]:=a4g (by simpa using hl);subst this;exact⟨M,hB,.refl M,.nil,by simp,by simp,by simp⟩
 |d::ds,[],h,r,hr,hl,hd,M,hB=>by simp at hl
 |d::ds,cs::LW,h,r,hr,hl,hd,M,hB=>by
  simp only[Wu]at hr;split at hr
  .rename_i c h1 hc;split at hr
   .rename_i hn;split at hr
    .rename_i cs' h2 QV;simp only[a05]at hr;subst hr;obtain⟨M1,b1,m1,v1,o1⟩:=hg e d h (c,h1) hc cs (hd 0 d cs rfl rfl) M hB;obtain⟨M2,b2,m2,v2,o2,l2,u2⟩:=a0O hg ds LW h1 (cs',h2) QV (by simpa using hl) (fun i d' adX e1 e2=>hd (i+1) d' adX (by simpa using e1) (by simpa using e2)) M1 b1;refine⟨M2,b2,m1.trans m2,?_,?_,?_,?_⟩
     .rw[List.flatten_cons];exact(v1.mono m2.h).append v2
     .intro x hx;rcases a3k.1 hx with hx|hx
      .exact o1 x hx
      .exact o2 x hx
     .simp only[a2j,l2,hn,a4i,a3E,abB];omega
     .intro x hx;rcases a2y.1 hx with rfl|hx
      .have:=v1.len;simp only at this;omega
      .exact u2 x hx
    .cases hr
   .cases hr
  .cases hr
theorem a0P{g:TypeId->DataW H->List HB->Option (List TV×List HB)}(hg:a5x enc P w g){cs:List Value}:∀(fs:List Field) (ds:List (DataW H)) (o:Nat) (h:List HB) (r:List TV×List HB),O9 P g o fs ds h=some r ->
  (∀(i:Nat) (f:Field) (d:DataW H),fs[i]? = some f->ds[i]? = some d->Reads enc P w f.type ((cs.drop f.offset).take (P.cellsOf f.type)) d)->∀M,uP M h w ->
  ∃M',uP M' r.2 w∧rZ M M'∧bU M'.h r.1 ((cs.drop o).take r.1.length)∧∀c∈r.1,iR c=true
 | [],[],o,h,r,hr,hd,M,hB=>by
  simp only[O9,a05]at hr;subst hr;exact⟨M,hB,.refl M,by simpa using bU.nil,by simp⟩
 | [],d::ds,o,h,r,hr,hd,M,hB=>by simp[O9]at hr
 |f::fs,[],o,h,r,hr,hd,M,hB=>by simp[O9]at hr
 |f::fs,d::ds,o,h,r,hr,hd,M,hB=>by
  simp only[O9]at hr;split at hr
  .rename_i c h1 hc;split at hr
   .rename_i hn;obtain⟨ho,hn⟩:=hn;split at hr
    .rename_i cs' h2 QV;simp only[a05]at hr;subst hr;obtain⟨M1,b1,m1,v1,o1⟩:=hg f.type d h (c,h1) hc _ (hd 0 f d rfl rfl) M hB;obtain⟨M2,b2,m2,v2,o2⟩:=a0P hg fs ds (o+c.length) h1 (cs',h2) QV (fun i f' d' e1 e2=>hd (i+1) f' d' (by simpa using e1) (by simpa using e2)) M1 b1;refine⟨M2,b2,m1.trans m2,?_,?_⟩
     .have:=(v1.mono m2.h).append v2;rw[ho,<-hn]at this;simp only at this ⊢;rw[a2j,List.take_add,afK];exact this
     .intro x hx;rcases a3k.1 hx with hx|hx
      .exact o1 x hx
      .exact o2 x hx
    .cases hr
   .cases hr
  .cases hr
theorem Kt{n:Nat}:∀{LW:List (List Value)},(∀cs∈LW,cs.length=n)->∀(i j:Nat),j<n->LW.flatten[i*n+j]? = (LW[i]?).bind (·[j]?)
 | [],_,i,j,_=>by simp
 |cs::LW,h,0,j,hj=>by
  have:=h cs a3m;simp only[List.flatten_cons,acQ,a4e];rw[a0j (by omega)];simp
 |cs::LW,h,i+1,j,hj=>by
  have hc:=h cs a3m;simp only[List.flatten_cons];rw[a1c (by rw[hc,a3E,abB];omega),hc];rw[show(i+1)*n+j-n=i*n+j by rw[a3E,abB];omega];rw[Kt (fun x hx=>h x (a3n _ hx)) i j hj];simp
theorem a0Q{M:Mp}{h:List HB}(hB:uP M h w){cs:List TV}{ls:List Pl}(h1:∀c∈cs,iR c=true)(h2:∀p∈ls,Nl M.h w .ro cs p) :
  ∃M',uP M' (h++[.cells .ro cs]) w∧rZ M M'∧M' (.h h.length)=some (.cells ls):=by
 have yF:kX h (.h h.length)=none:=by simp[kX,St.get]
 have yO:M (.h h.length)=none:=by
  cases hm:M (.h h.length)with
  |none=>rfl
  |some l=>have:=hB.base.val.has hm;rw[yF]at this;cases this
 have hle:rZ M (dL M (.h h.length) (.cells ls)):=mJ fun l0 h0=>by rw[yO]at h0;cases h0
 have hg:kX (h++[.cells .ro cs])=lX (kX h) (.h h.length) (.cells .ro cs):=ku ⟨[],[],h,[]⟩ _ [] [];have hro:∀b∈h++[HB.cells .ro cs],wr b=false:=fun b hb=>by
  rcases a3k.1 hb with hb|hb
  .exact hB.ro b hb
  .simp at hb;subst hb;rfl
 refine⟨dL M (.h h.length) (.cells ls),⟨⟨⟨?_,?_,?_⟩,fun k=>?_⟩,hro⟩,hle,by simp[dL]⟩
 .intro k l hk _;rw[hg];by_cases xR:k=.h h.length
  .subst xR;simp only[dL,a2w,a05]at hk;subst hk;exact⟨.cells .ro cs,by simp[lX],h1,fun p hp=>(h2 p hp).mono hle.h rfl,by simp,by simp⟩
  .simp only[dL,xR,a3T]at hk;obtain⟨b,g1,g2⟩:=hB.base.val.ok k l hk trivial;exact⟨b,by simp[lX,xR,g1],g2.mono hle.h fun _ _=>rfl⟩
 .intro k k' l l' b iC hk oD _ hb hw;have:wr b=false:=by
   cases k with
   |h x=>exact hro b (a4u hb)
   |l x=>simp[kX,St.get]at hb
  rw[this]at hw;cases hw
 .intro k l hk c hc;by_cases xR:k=.h h.length
  .subst xR;simp only[dL,a2w,a05]at hk;subst hk;obtain⟨p,hp,rfl⟩:=a1l.1 hc;obtain⟨arr,ty,fz,g1,_⟩:=(h2 p hp).row;exact(a2p.1 g1).1
  .simp only[dL,xR,a3T]at hk;exact hB.base.val.inb k l hk c hc
 .simp[dL];exact hB.base.loc k
theorem a0R:∀g,a5x enc P w (CO P g)
 | 0=>by intro t d h r hr;simp[CO]at hr
 |g+1=>by
  intro t d h r hr cs hd M hB;obtain⟨fuel,ps,hd⟩:=hd;have ih:=a0R g;simp only[CO]at hr;split at hr
  .-- bool
   rename_i b hu;simp only[a05]at hr;subst hr;refine⟨M,hB,.refl M,?_,by simp[iR]⟩;cases fuel with
   |zero=>simp[DataW.trod]at hd
   |succ n=>
    unfold DataW.trod at hd;rw[hu]at hd;split at hd<;>simp_all
    exact .cons (.bool _) .nil
  .-- int
   rename_i k0 k n hu;simp only[a05]at hr;subst hr;refine⟨M,hB,.refl M,?_,by simp[iR]⟩;cases fuel with
   |zero=>simp[DataW.trod]at hd
   |succ n=>
    unfold DataW.trod at hd;rw[hu]at hd;split at hd<;>simp_all
    exact .cons (.int _ _) .nil
  .-- string
   rename_i bs hu;simp only[a05]at hr;subst hr;refine⟨M,hB,.refl M,?_,by simp[iR]⟩;cases fuel with
   |zero=>simp[DataW.trod]at hd
   |succ n=>
    unfold DataW.trod at hd;rw[hu]at hd;split at hd<;>simp_all
    obtain⟨_,rfl,_⟩:=hd;exact .cons (.str _) .nil
  .-- nil slice
   rename_i e hu;simp only[a05]at hr;subst hr;refine⟨M,hB,.refl M,?_,by simp[iR]⟩;rcases Deep.open_slice hu hd with⟨rfl,_⟩|⟨a,len,cap,m,n,Dt,Pl,_,_,_,_,_,hx,_⟩
   .exact .cons .TN .nil
   cases hx
  .-- a slice
   rename_i e xs ys hu;split at hr
   rotate_left
   .cases hr
   rename_i cells h1 hl;split at hr
   .cases hr
   rename_i hn0;simp only[a05]at hr;subst hr;rcases Deep.open_slice hu hd with⟨rfl,hx⟩|⟨a,len,cap,m,n,Dt,Pl,rfl,_,hlc,ahI,hm,hx,JW⟩
   .cases hx
   simp only[a2w]at hm;have hm':=hm.symm;subst hm';simp only[a0t,DataW.slice.injEq]at hx;obtain⟨⟨NP,hys⟩,_⟩:=hx;have lxs:xs.length=len:=by rw[NP];simp
   have lys:ys.length=cap-len:=by rw[hys];simp
   have hds:∀i,i<cap->(xs++ys)[i]? = some (Dt i):=by
    intro i hi;by_cases h1:i<len
    .rw[a0j (by omega),NP];simp[h1]
    rw[a1c (by omega),lxs,hys];have h2:i-len<cap-len:=(by omega);simp[h2,show len+(i-len)=i by omega]
   have hn:=JW
   let LW:List (List Value):=(List.range cap).map fun i=>(w.cells? 0 (a.add (i*P.cellsOf e)) (P.cellsOf e)).getD []
   have QV:∀i,i<cap->∃cs',LW[i]? = some cs'∧w.cells? 0 (a.add (i*P.cellsOf e)) (P.cellsOf e)=some cs'∧DataW.trod enc P w 0 (fun _=>true) true n e cs'=some (Dt i,Pl i):=by
    intro i hi;obtain⟨cs',e1,e2⟩:=JW i hi;exact⟨cs',by simp[LW,hi,e1],e1,e2⟩
   have ahJ:LW.length=cap:=(by simp[LW]);obtain⟨M1,b1,m1,v1,o1,l1,u1⟩:=a0O ih (xs++ys) LW h (cells,h1) hl (by simp[ahJ,lxs,lys];omega) (fun i d cs e1 e2=>by
    have hi:i<cap:=by rw[<-ahJ];exact(a0c.1 e2).1
    obtain⟨cs',f1,f2,f3⟩:=QV i hi;rw[f1]at e2;cases e2;rw[hds i hi]at e1;cases e1;exact⟨n,_,f3⟩) M hB
   simp only at b1 v1 o1 l1;have l1':cells.length=cap*P.cellsOf e:=by rw[l1];simp[lxs,lys];congr 1;omega
   have a4N:0<P.cellsOf e:=(by omega);have e1:xs.length+ys.length=cap:=(by omega);show ∃M',uP M' (h1++[.cells .ro cells]) w∧rZ M M'∧bU M'.h [.slc h1.length 0 xs.length (xs.length+ys.length) (P.cellsOf e) true] [.slice (some a) len cap]∧∀c∈[TV.slc h1.length 0 xs.length (xs.length+ys.length) (P.cellsOf e) true],iR c=true;rw[e1,lxs];by_cases hc0:cap=0
   .obtain⟨M2,b2,m2,k2⟩:=a0Q b1 (cs:=cells) (ls:=[]) o1 (by simp);refine⟨M2,b2,m1.trans m2,.cons (.slc (p:=⟨0,0,0,0⟩) k2 (.inl hc0) ?_ ?_ ?_ ?_ (.inl hc0) (by unfold maxLen at ahI;omega)) .nil,by intro c hc;simp at hc;subst hc;rfl⟩
    .simp[hc0]
    .omega
    .omega
    intro _;omega
   have Wv:∀k,k<cap*P.cellsOf e->w.cell? (a.add k)=LW.flatten[k]?:=by
    intro k hk;have hj:k%P.cellsOf e<P.cellsOf e:=Nat.mod_lt _ a4N;have hi:k/P.cellsOf e<cap:=by rw[Nat.div_lt_iff_lt_mul a4N];exact hk
    have xR:k/P.cellsOf e*P.cellsOf e+k%P.cellsOf e=k:=by
     rw[Nat.mul_comm];exact Nat.div_add_mod k _
    obtain⟨cs',f1,f2,_⟩:=QV _ hi;obtain⟨_,_,f3⟩:=World.cells?_some f2;have f4:=f3 _ hj;rw[Deep.add_add,xR]at f4;have f5:=Kt u1 (k/P.cellsOf e) (k%P.cellsOf e) hj;rw[xR,f1]at f5;rw[f4,f5];rfl
   have ahm:0<cap*P.cellsOf e:=Nat.mul_pos (by omega) a4N;have lfl:LW.flatten.length=cap*P.cellsOf e:=(by rw[<-v1.len,l1']);have h00:=Wv 0 ahm;have hv0:LW.flatten[0]? = some (LW.flatten[0]'(by omega)):=a0f _;rw[hv0,Addr.add,a0p rfl]at h00;have yH:∃arr ty fz,w.heap[a.block]? = some (.cells arr ty fz)∧a.spot=none:=by
    unfold World.cell? at h00;split at h00
    .rename_i c ty fz hh;split at h00
     .cases h00
     rename_i hsp;exact⟨c,ty,fz,hh,by simpa using hsp⟩
    cases h00
   obtain⟨arr,ty,fz,hh,hsp⟩:=yH;have Wx:∀k,w.cell? (a.add k)=arr[a.off+k]?:=by
    intro k;unfold World.cell? Addr.add;by_cases hk:k=0
    .subst hk;simp[hh,hsp]
    simp[hk,hh]
   have hbound:a.off+cap*P.cellsOf e<=arr.size:=by
    have h1:=Wv (cap*P.cellsOf e-1) (by omega);rw[Wx,a0f (by omega)]at h1;have:=(a2p.1 h1).1;omega
   obtain⟨M2,b2,m2,k2⟩:=a0Q b1 (cs:=cells) (ls:=[⟨a.block,a.off,cap*P.cellsOf e,arr.size⟩]) o1 (by
    intro p hp;simp at hp;subst hp;refine⟨⟨arr,ty,fz,hh,rfl,by simp,fun _ i c v hi e1 e2=>?_⟩,hbound,agF l1'.symm,by simp⟩;simp only at hi e2;rw[<-Wx,Wv i hi]at e2;exact v1.at_ i c v e1 e2)
   refine⟨M2,b2,m1.trans m2,.cons (.slc (p:=⟨a.block,a.off,cap*P.cellsOf e,arr.size⟩) k2 (.inr (by simp)) ?_ ?_ ?_ ?_ (.inr ⟨?_,?_⟩) (by unfold maxLen at ahI;omega)) .nil,by intro c hc;simp at hc;subst hc;rfl⟩
   .simp
   .omega
   .omega
   .intro _;omega
   .cases a;simp_all
   simpa using hbound
  .-- a struct
   rename_i fs ds hu;split at hr
   .rename_i cs' h1 hl;split at hr
    .rename_i hlen;simp only[a05]at hr;subst hr;obtain⟨zs,n,_,hx,qm,Yq,JW⟩:=DataW.trod_struct hu hd;simp only[a0t,DataW.agg.injEq]at hx;obtain⟨rfl,_⟩:=hx;obtain⟨M',b1,m1,v1,o1⟩:=a0P ih fs.toList _ 0 h (cs',h1) hl (cs:=cs) (fun i f d e1 e2=>by
      have e1':fs[i]? = some f:=(by simpa using e1);simp only[a4q,a0e]at e2;obtain⟨z,hz,rfl⟩:=e2;exact⟨n,z.2,by rw[JW i f e1',hz]⟩) M hB
     refine⟨M',b1,m1,?_,o1⟩;simp only at v1 ⊢;rw[hlen,<-qm]at v1;simpa using v1
    cases hr
   cases hr
  cases hr
end
open Go.ChangeShapes Go.WideShapes Go.RowKit
section
variable {H:Type} {enc:TypeId×Value->H} {P:Program} {W W':World}
def L8(P:Program)(g:Nat):List TypeId->List (DataW H)->List HB->Option (List TV×List HB)
 | [],[],h=>some ([],h)
 |t::ts,d::ds,h=>match CO P g t d h with
  |some (c,h1)=>match uK P t,c,L8 P g ts ds h1 with
   |some true,c,some (az,h2)=>some (.agg c::az,h2)
   |some false,[x],some (az,h2)=>some (x::az,h2)
   |_,_,_=>none
  |none=>none
 |_,_,_=>none
theorem Z9{r:Reach}{b:Nat}{t:TypeId}{v:Value}(ha:uK P t=some false)(h:Value.okWide P W r b t v):v.cells.toList=[v]:=by
 unfold uK at ha;unfold Value.okWide at h;cases hu:P.underlying t with
 |none=>simp[hu]at ha
 |some u=>
  rw[hu]at ha h;cases v with
  |agg cs=>cases u<;>simp_all [Cell.okWide,Cell.ok]
  |_=>rfl
theorem Za{r:Reach}{b:Nat}{t:TypeId}{v:Value}(ha:uK P t=some true)(h:Value.okWide P W r b t v):∃cs,v=.agg cs:=by
 unfold uK at ha;unfold Value.okWide at h;cases hu:P.underlying t with
 |none=>simp[hu]at ha
 |some u=>
  rw[hu]at ha h;cases u<;>simp_all<;>exact⟨_,h.choose_spec.1⟩
theorem Ub{r:Reach}{b g:Nat}:∀{ts:List TypeId} {vs:List Value} {ds:List (DataW H)} {ps:List MemPlace} {h:List HB} {x:List TV×List HB} {M:Mp},
  DataW.TrodAll enc P W 0 (fun _=>true) true ts vs ds ps->(∀(j:Nat) t v,ts[j]? = some t->vs[j]? = some v->Value.okWide P W r b t v)->L8 P g ts ds h=some x->uP M h W ->
  ∃M',uP M' x.2 W∧rZ M M'∧bU M'.h x.1 vs
 | [],vs,ds,ps,h,x,M,ht,ho,he,hB=>by
  obtain⟨rfl,rfl,rfl⟩:=trodAll_nil ht;simp only[L8,a05]at he;subst he;exact⟨M,hB,.refl M,.nil⟩
 |t::ts,vs,ds,ps,h,x,M,ht,ho,he,hB=>by
  obtain⟨v,vs',d,ds',p,q,rfl,rfl,rfl,hd,NG⟩:=trodAll_cons ht;simp only[L8]at he;split at he
  .rename_i c h1 hc;obtain⟨fuel,hf⟩:=hd;obtain⟨M1,b1,m1,v1,o1⟩:=a0R (enc:=enc) (P:=P) (w:=W) g t d h (c,h1) hc v.cells.toList ⟨fuel,p,hf⟩ M hB;split at he
   .rename_i az h2 ha hr;simp only[a05]at he;subst he;obtain⟨M2,b2,m2,v2⟩:=Ub (x:=(az,h2)) NG (fun j t' v' e1 e2=>ho (j+1) t' v' (by simpa using e1) (by simpa using e2)) hr b1;obtain⟨cs,rfl⟩:=Za ha (ho 0 t v rfl rfl);refine⟨M2,b2,m1.trans m2,.cons ?_ v2⟩;have:=VR.agg' (v1.mono m2.h);simpa[Value.cells]using this
   .rename_i y az h2 ha hr;simp only[a05]at he;subst he;obtain⟨M2,b2,m2,v2⟩:=Ub (x:=(az,h2)) NG (fun j t' v' e1 e2=>ho (j+1) t' v' (by simpa using e1) (by simpa using e2)) hr b1;have h1c:=Z9 ha (ho 0 t v rfl rfl);rw[h1c]at v1;obtain⟨z,zs,e1,e2,e3⟩:=(v1.mono m2.h).iK;simp only[aeb]at e1;obtain⟨rfl,rfl⟩:=e1;exact⟨M2,b2,m1.trans m2,.cons e2 v2⟩
   .cases he
  .cases he
theorem ES(hl:laidOutB P=true)(hb:Below W.heap.size W W'):∀{ts:List TypeId} {vs:List Value} {ds:List (DataW H)} {ps:List MemPlace},
  (ts.all fun t=>P.readableRec t&&decide (t<P.types.size))=true->DataW.TrodAll enc P W 0 (fun _=>true) true ts vs ds ps->(∀x∈ps,x.block<W.heap.size) ->
  DataW.TrodAll enc P W' 0 (fun b=>decide (b<W.heap.size)) true ts vs ds ps
 | [],_,_,_,_,h,_=>by
  obtain⟨rfl,rfl,rfl⟩:=trodAll_nil h;rfl
 |t::ts,_,_,_,ho,h,aQ=>by
  obtain⟨v,vs',d,ds',p,q,rfl,rfl,rfl,hd,NG⟩:=trodAll_cons h;simp only[abP,a2o,a1Q]at ho;exact⟨p,q,Below.trod hl ho.1.1 ho.1.2 hd hb (fun x hx=>aQ x (a5U _ hx)),ES hl hb ho.2 NG (fun x hx=>aQ x (abJ _ hx)),rfl⟩
theorem a2I{f:Func}{s:ChangeSpec}{args:Array Value}{ds:List (DataW H)}{before:List MemPlace}{tb:TypeId}(hl:laidOutB P=true)(hv:s.vars=[])(hs:s.fn H ds={ results:=[.lit (.bool true)],args:=ds })
  (hf:f.resultTypes=#[tb]) (htb:P.underlying tb=some .bool) (hp:(f.params.toList.all fun t=>P.readableRec t&&decide (t<P.types.size))=true)
  (hW:DataW.Whole enc P f.params.toList s.vars false W args.toList ds [] before) (hb:Below W.heap.size W W'):s.post enc P f false true false false W args (.bool true) W':=by
 have hW':=hW;obtain⟨p,q,hA,hV,rfl,hfz,jA⟩:=hW;rw[hv]at hV;have hq:q=[]:=hV;subst hq;have aQ:∀x∈p,x.block<W.heap.size:=fun x hx=>by simpa using hW'.lt x (a5U _ hx)
 refine⟨ds,[],p++[],[],p,[],hW',?_,?_,?_,hb.frame _,by simp⟩
 .rw[a5W,hs,hf];refine⟨[],[],⟨1,?_⟩,rfl,rfl⟩;simp[DataW.trod,htb,Value.cells]
 .rw[a5W,hs];exact ES hl hb hp hA aQ
 .rw[a5W,hs,hv];rfl
end
def Uc(P:Program)(T:qJ)(call:aY)(L:Nat)(f:Nat)(args:List TV)(h:List HB):Option (TV×List HB×List Nat):=
 match TL P f with
 |some t=>match exec P T call L f false h.length t.nt t.body ⟨nM 0 args,[],h,[]⟩with
  |some (.norm,s)|some (.ret,s)=>match xO P s t.results with
   |some vs=>some (one vs,s.heap,s.ws)
   |none=>none
  |_=>none
 |none=>none
def kY(P:Program)(T:qJ)(L:Nat):Nat->aY
 | 0,_,_,_=>none
 |n+1,.fn f first cap,args,h=>if T.exts.contains f=true then T.ext (.fn f first cap) args h else if T.dem.contains f=true then a2F P T (kY P T L n) L f (first++args++cap) h else Uc P T (kY P T L n) L f (first++args++cap) h
 |n+1,.kP l,args,h=>Nk P T (kY P T L n) L l args h
 |_,_,_,_=>none
def runN(P:Program)(T:qJ)(L n f:Nat)(args:List TV)(h:List HB):Option (TV×List HB×List Nat):=kY P T L n (.fn f [] []) args h
section
variable {P:Program} {T:qJ} {call:aY} {L:Nat} {nt:Nat} {M:Mp} {h:List HB} {w:World}
theorem a0S(hm:P.follows .mixedOrders=true)(hC:iD P call){f:Nat}{args:List TV}{v:TV}{h':List HB}{ws:List Nat}(hf:Uc P T call L f args h=some (v,h',ws))(hB:wI M h w){xs:List Value}(hx:bU M.h args xs) :
  ∃ fn c, P.funcs[f]? = some fn ∧ (fn.name == "runtime.NumGoroutine") = false ∧ fn.body = some c ∧ ∀ n, CallsIn Fence.wide n P f xs.toArray w (KZ (jI M h w v h' ws)) := by
 unfold Uc TL at hf;split at hf
 .rename_i t ht;split at ht
  .rename_i fn hfn;split at ht
   .cases ht
   .rename_i a5v;split at ht
    .rename_i c hc;cases ht;refine⟨fn,c,hfn,by simpa using a5v,hc,fun n=>?_⟩;have hR0:Rel M h w fn.ntmps M ⟨nM 0 args,[],h,[]⟩ { tmps:=xs.toArray++Array.replicate (fn.ntmps-xs.toArray.size) Go.undef,defers:=[] } w:=by
      have hg:St.get ⟨nM 0 args,[],h,[]⟩=kX h:=getEnv ⟨[],[],h,[]⟩ _ _;refine⟨by rw[hg];exact hB.val,by rw[hg];exact .refl _ _ _,fun t e hl=>?_,by simp;omega,by simp,.nil⟩;obtain⟨i,v',x,e1,rfl,e3,e4⟩:=IV hx hl;have hi:i<xs.length:=(a0c.1 e3).1;have:(xs.toArray++Array.replicate (fn.ntmps-xs.toArray.size) Go.undef).getD t Go.undef=x:=by
       rw[a8q,a9V (by simp;omega)];have:t=i:=(by omega);subst this;simp[e3]
      rw[this];exact .val e4
     have O6:∀(s:St),(match xO P s fn.results.toList with
       |some vs=>some (one vs,s.heap,s.ws)
       |none=>none)=some (v,h',ws)->∀(M':Mp) (a':Act) (w':World),Rel M h w fn.ntmps M' s a' w'->LeavesInM Fence.wide n P fn a'.tmps (KZ (jI M h w v h' ws)) a'.defers .returning w':=by
      intro s hs M' a' w' Fz;split at hs
      .rename_i vs hvs;refine NW hB a'.defers a' w' rfl Fz fun w'' a5w=>?_;obtain⟨y,g1,g2⟩:=NV (P:=P) a5w hvs;refine⟨y,g2,?_⟩;simp only[a05,a0t]at hs;obtain⟨rfl,rfl,rfl⟩:=hs;exact YX hB a5w g1
      .cases hs
     refine callsIn_of_wp_marks (F:=Fence.wide) hfn hc trivial ?_;split at hf
     .rename_i s hex;exact vJ (gW:=false) hm hC hB (fun _=>rfl) _ _ _ _ hex n _ M _ w hR0 fun M' a' w' Fz=>O6 s hf M' a' w' Fz
     .rename_i s hex;exact vJ (gW:=false) hm hC hB (fun _=>rfl) _ _ _ _ hex n _ M _ w hR0 fun M' a' w' Fz=>O6 s hf M' a' w' Fz
     .cases hf
    .cases ht
  .cases ht
 .cases hf
theorem Zb(hm:P.follows .mixedOrders=true)(hE:iD P T.ext):∀n,iD P (kY P T L n)
 | 0=>by
  intro fv args h v h' ws hc;simp[kY]at hc
 |n+1=>by
  intro fv args h v h' ws hc M w x xs hV hl hx NP;have ih:=Zb hm hE n;cases fv with
  |fn f first cap=>
   simp only[kY]at hc;split at hc
   .exact hE _ _ _ _ _ _ hc M w x xs hV hl hx NP
   rename_i hnx;cases hx with
   |fn h1 h2 h3 h4=>
    rename_i ys zs;have EP:bU M.h (first++args++cap) (ys++xs++zs):=(bU.append ⟨h1,h2⟩ NP).append ⟨h3,h4⟩;obtain ⟨fn, c, e1, e2, e3, e4⟩ : ∃ fn c, P.funcs[f]? = some fn ∧ (fn.name == "runtime.NumGoroutine") = false ∧ fn.body = some c ∧ ∀ n, CallsIn Fence.wide n P f (ys ++ xs ++ zs).toArray w (KZ (jI M h w v h' ws)) := by
     split at hc
     .exact a9m hm ih hc ⟨hV,hl⟩ EP
     exact a0S hm ih hc ⟨hV,hl⟩ EP
    refine⟨{ target:=.fn (.func f) zs.toArray,args:=ys.toArray++xs.toArray },fun w=>by simp[Deferred.ofValue],.inl ⟨⟨f,(ys++xs++zs).toArray,?_,e4⟩,f,first,cap,rfl⟩⟩;have e2' : ¬ fn.name = "runtime.NumGoroutine" := (by simpa using e2);simp[invoke,callFunc,program,Sem.run,e1,e2',e3]
  |kP l=>
   simp only[kY]at hc;cases hx with
   |kP hm'=>
    rename_i l' _;refine⟨{ target:=.fn (.yield l') #[],args:=xs.toArray },fun w=>by simp[Deferred.ofValue],.inr ⟨a5u hm ih hc ⟨hV,hl⟩ hm' NP,l,rfl⟩⟩
  |_=>simp[kY]at hc
theorem a9n(hm:P.follows .mixedOrders=true)(hE:iD P T.ext){n f:Nat}{args:List TV}{v:TV}{h':List HB}{ws:List Nat}(hnf:T.exts.contains f=false)(jA:T.dem.contains f=false)(hr:runN P T L (n+1) f args h=some (v,h',ws))(hV:Valid M uM (kX h) w)(hl:∀k,M (.l k)=none)
  {xs:List Value} (hx:bU M.h args xs) (k:Nat):CallsIn Fence.wide k P f xs.toArray w (KZ (jI M h w v h' ws)):=by
 simp only[runN,kY,hnf,jA,a2P,a3T]at hr;have EP:bU M.h ([]++args++[]) xs:=by simpa using hx
 obtain⟨fn,c,_,_,_,e4⟩:=a0S hm (Zb hm hE n) hr ⟨hV,hl⟩ EP;exact e4 k
end
section
variable {H:Type} {enc:TypeId×Value->H} {P:Program} {W W':World}
theorem Zc{T:qJ}{L n g a9o:Nat}{f:Func}{s:ChangeSpec}{args:Array Value}{ds:List (DataW H)}{before:List MemPlace}{tb:TypeId}{r:Reach}{b:Nat}(hm:P.follows .mixedOrders=true)
  (hl:laidOutB P=true) (hv:s.vars=[]) (hs:s.fn H ds={ results:=[.lit (.bool true)],args:=ds })
  (hf:f.resultTypes=#[tb]) (htb:P.underlying tb=some .bool) (hp:(f.params.toList.all fun t=>P.readableRec t&&decide (t<P.types.size))=true)
  (hW:DataW.Whole enc P f.params.toList s.vars false W args.toList ds [] before)
  (Wy:∀(j:Nat) t v,f.params[j]? = some t->args[j]? = some v->Value.okWide P W r b t v)
  {az:List TV} {h h':List HB} (he:L8 P g f.params.toList ds []=some (az,h)) (hE:iD P T.ext) (hnf:T.exts.contains a9o=false) (jA:T.dem.contains a9o=false) (hr:runN P T L (n+1) a9o az h=some (.bool true,h',[])) :
  Calls P a9o args W fun e W'=>∃v,e=.returned v∧s.post enc P f false true false false W args v W':=by
 obtain⟨p,q,hA,_⟩:=id hW;have h0:uP (fun _=>none) [] W:=⟨⟨⟨by simp,by simp,by simp⟩,by simp⟩,by simp⟩;obtain⟨M',b1,_,v1⟩:=Ub hA (fun j t v e1 e2=>Wy j t v (by simpa using e1) (by simpa using e2)) he h0;have hc:=a9n hm hE hnf jA hr b1.base.val b1.base.loc v1 0;refine(callsIn_wide.1 hc).mono fun e W' hR=>?_;cases e with
 |panicked c=>exact hR.elim
 |outgrown=>exact hR.elim
 |returned v=>
  obtain⟨M2,_,_,hX,hv'⟩:=hR;cases hv';refine⟨_,rfl,a2I hl hv hs hf htb hp hW ⟨hX.os,hX.tape,hX.output,hX.size,fun k hk=>hX.frame k hk (by simp)⟩⟩
end
end Tw
namespace Pv
open Go Tw
inductive PV(Γ:Nat->Type) where
 |bool (b:Bool)
 |lit (b:Bool)
 |int (k:IntKind) (n:Int)
 |str (s:ByteArray)
 |nil (k:NK)
 |ptr (b off lim:Nat)
 |slc (b off len cap sz:Nat) (ex:Bool)
 |own (b:Nat)
 |win (b o n:Nat)
 |map (r:Nat)
 |fn (f:FuncId) (first cap:List (PV Γ))
 |kP (l:Nat)
 |agg (cs:List (PV Γ))
 |dI (cs:List (PV Γ))
 |dB (t:Nat) (l:List (Γ t)) (full:Bool)
 |el (t:Nat) (a:Γ t) (off:Nat)
 |row (b j off:Nat)
 |iter (b:Nat)
inductive PE(Γ:Nat->Type) where
 |val (v:PV Γ)
 |loc (k off:Nat)
 |undef
 |ent (r j:Nat) (v:PV Γ)
 |Es (r j:Nat)
inductive PB(Γ:Nat->Type) where
 |cells (cs:List (PV Γ))
 |aC (cs:List (PV Γ))
 |list (k ex:Bool) (t:Nat) (l:List (Γ t))
 |map (es:List (PV Γ×PV Γ))
 |mark
 |loop (ready:Bool) (f:FuncId) (nt:Nat) (env:List (Nat×PE Γ)) (ps:List Nat) (assign body:Code) (jH:Option Code)
 |cZ (r n:Nat) (seen:List Nat)
 |iE (es:List (PV Γ×PV Γ))
 |ng (cs:List (PV Γ))
 |gone
structure aS(Γ:Nat->Type) where
 env:List (Nat×PE Γ)
 loc:List (List (PV Γ))
 heap:List (PB Γ)
structure kQ where
 Γ:Nat->Type
 d0:(t:Nat)->Γ t
 enc:(t:Nat)->Γ t->List (PV Γ)
 dec:(t:Nat)->List (PV Γ)->Option (Γ t)
section
variable {Γ:Nat->Type}
def qW:PV Γ->Option TV
 |.bool b=>some (.bool b)
 |.int k n=>some (.int k n)
 |.str s=>some (.str s)
 |.nil k=>some (.nil k)
 |_=>none
def iI:List (PV Γ)->Option (List TV)
 | []=>some []
 |c::cs=>match qW c,iI cs with
  |some v,some vs=>some (v::vs)
  |_,_=>none
def qg:PV Γ->Option TV
 |.agg cs=>(iI cs).map .agg
 |v=>qW v
def Ud:List (PV Γ)->Option (List TV)
 | []=>some []
 |c::cs=>match qg c,Ud cs with
  |some v,some vs=>some (v::vs)
  |_,_=>none
def ofC:TV->Option (PV Γ)
 |.bool b=>some (.bool b)
 |.int k n=>some (.int k n)
 |.str s=>some (.str s)
 |.nil k=>some (.nil k)
 |_=>none
def BP:List TV->Option (List (PV Γ))
 | []=>some []
 |c::cs=>match ofC c,BP cs with
  |some v,some vs=>some (v::vs)
  |_,_=>none
def Yv:TV->Option (PV Γ)
 |.agg cs=>(BP cs).map .agg
 |v=>ofC v
def PV.cells:PV Γ->List (PV Γ)
 |.agg cs=>cs
 |v=>[v]
def Zd:PV Γ->Bool
 |.agg _|.dI _=>false
 |_=>true
def ET(t:Nat):List (Nat×PE Γ)->Option (PE Γ)
 | []=>none
 |(k,v)::r=>if k=t then some v else ET t r
def aS.put(s:aS Γ)(dst:Option Nat)(v:PE Γ):aS Γ:=
 match dst with
 |some d=>{ s with env:=(d,v)::s.env }
 |none=>s
def jd(live:List Nat)(env:List (Nat×PE Γ)):List (Nat×PE Γ):=
 match live with
 | []=>[]
 |t::r=>match ET t env with
  |some v=>(t,v)::jd r env
  |none=>jd r env
def BF(t:Nat)(b:Bool):List (Nat×PE Γ)->List (Nat×PE Γ)
 | []=>[]
 |(k,v)::r=>if k=t then(k,.val (.lit b))::r else(k,v)::BF t b r
def aS.BF(s:aS Γ)(x:Operand)(b:Bool):aS Γ:=
 match x with
 |.tmp t=>{ s with env:=Pv.BF t b s.env }
 |_=>s
def FD(env:List (Nat×PE Γ)):Operand->Option (PE Γ)
 |.tmp t=>ET t env
 |.const v=>match TV.Vu v with
  |some (.bool b)=>some (.val (.lit b))
  |some x=>(Yv x).map .val
  |none=>none
 |.func f=>some (.val (.fn f [] []))
 |.global _=>none
def a0T:PV Γ->PV Γ
 |.lit b=>.bool b
 |v=>v
def zQ(env:List (Nat×PE Γ))(x:Operand):Option (PV Γ):=
 match FD env x with
 |some (.val v)=>some (a0T v)
 |_=>none
def a0U(env:List (Nat×PE Γ))(x:Operand):Option (PV Γ):=
 match FD env x with
 |some (.val v)=>some v
 |_=>none
def Ze(env:List (Nat×PE Γ)):List Operand->Option (List (PV Γ))
 | []=>some []
 |x::xs=>match zQ env x,Ze env xs with
  |some v,some vs=>some (v::vs)
  |_,_=>none
def a2J(env:List (Nat×PE Γ)):List (Nat×Operand)->Option (List (Nat×PV Γ))
 | []=>some []
 |(i,x)::xs=>match zQ env x,a2J env xs with
  |some v,some vs=>some ((i,v)::vs)
  |_,_=>none
def Oa(env:List (Nat×PE Γ)):Option Operand->Option (Option (PV Γ))
 |none=>some none
 |some x=>match zQ env x with
  |some v=>some (some v)
  |none=>none
def adZ(cs:List (PV Γ))(off n:Nat):Option (List (PV Γ)):=
 if off+n<=cs.length then some ((cs.drop off).take n)else none
def Ob(cs:List (PV Γ))(off:Nat)(new:List (PV Γ)):Option (List (PV Γ)):=
 if off+new.length<=cs.length then some (cs.take off++new++cs.drop (off+new.length))else none
def GN(P:Program)(t:TypeId)(cs:List (PV Γ))(off:Nat):Option (PV Γ):=
 match uK P t,dD P t with
 |some true,some n=>(adZ cs off n).map .agg
 |some false,some n=>if n=1 then cs[off]? else none
 |_,_=>none
def Rz(P:Program)(t:TypeId):Option (List (PV Γ)):=
 match JL P t with
 |some z=>BP z
 |none=>none
def Oc(place:Nat->Option (Nat×Nat)):List (PV Γ)->List (Nat×PV Γ)->Option (List (PV Γ))
 |cs,[]=>some cs
 |cs,(i,v)::r=>match place i with
  |some (off,size)=>if v.cells.length=size then(match Ob cs off v.cells with|some cs'=>Oc place cs' r|none=>none)else none
  |none=>none
def Zf(P:Program)(t:TypeId)(parts:List (Nat×PV Γ)):Option (PV Γ):=
 match Rz P t,P.underlying t with
 |some z,some (.struct fs)=>if BQ P fs.toList then(Oc (TJ P fs) z parts).map .agg else none
 |some z,some (.array _ e)=>match dD P e with
  |some n=>(Oc (fun i=>some (i*n,n)) z parts).map .agg
  |none=>none
 |_,_=>none
def Zg(z:List (PV Γ)):Nat->List (PV Γ)
 | 0=>[]
 |n+1=>z++Zg z n
def DX(site:Bool)(s:aS Γ)(cs:List (PV Γ)):PE Γ×aS Γ:=
 if site then(.val (.ptr s.heap.length 0 cs.length),{ s with heap:=s.heap++[.cells cs] })
 else(.loc s.loc.length 0,{ s with loc:=s.loc++[cs] })
def view(H:List (PB Γ)):PV Γ->Option (PV Γ)
 |.own i=>match H[i]? with
  |some (.list _ _ t l)=>some (.dB t l false)
  |_=>none
 |.win i o n=>match H[i]? with
  |some (.list _ _ t l)=>some (.dB t ((l.drop o).take n) false)
  |_=>none
 |.fn f a c=>match views H a,views H c with
  |some a,some c=>some (.fn f a c)
  |_,_=>none
 |.agg cs=>(views H cs).map .agg
 |.dI cs=>(views H cs).map .dI
 |.ptr _ _ _=>none
 |.slc _ _ _ _ _ _=>none
 |.map _=>none
 |.iter _=>none
 |.kP _=>none
 |.el _ _ _=>none
 |.row _ _ _=>none
 |.bool b=>some (.bool b)
 |.lit b=>some (.bool b)
 |.int k n=>some (.int k n)
 |.str s=>some (.str s)
 |.nil k=>some (.nil k)
 |.dB t l f=>some (.dB t l f)
where
 views (H:List (PB Γ)):List (PV Γ)->Option (List (PV Γ))
 | []=>some []
 |c::cs=>match view H c,views H cs with
  |some v,some vs=>some (v::vs)
  |_,_=>none
abbrev views(H:List (PB Γ)):=view.views H
def kU:PV Γ->List Nat
 |.own i=>[i]
 |.win i _ _=>[i]
 |.fn _ a c=>kD a++kD c
 |.agg cs=>kD cs
 |.dI cs=>kD cs
 |_=>[]
where
 kD:List (PV Γ)->List Nat
 | []=>[]
 |c::cs=>kU c++kD cs
def xH:PV Γ->Bool
 |.dB _ _ _=>true
 |.el _ _ _=>true
 |.fn _ a c=>GR a||GR c
 |.agg cs=>GR cs
 |.dI cs=>GR cs
 |_=>false
where
 GR:List (PV Γ)->Bool
 | []=>false
 |c::cs=>xH c||GR cs
def jh:PV Γ->Bool
 |.ptr _ _ _=>false
 |.slc _ _ _ _ _ _=>false
 |.own _=>false
 |.win _ _ _=>false
 |.map _=>false
 |.iter _=>false
 |.kP _=>false
 |.row _ _ _=>false
 |.fn _ a c=>GU a&&GU c
 |.agg cs=>GU cs
 |.dI cs=>GU cs
 |_=>true
where
 GU:List (PV Γ)->Bool
 | []=>true
 |c::cs=>jh c&&GU cs
def shift(k:Nat):PV Γ->PV Γ
 |.ptr b off lim=>.ptr (b+k) off lim
 |.slc b off len cap sz ex=>.slc (b+k) off len cap sz ex
 |.own b=>.own (b+k)
 |.win b o n=>.win (b+k) o n
 |.map r=>.map (r+k)
 |.iter r=>.iter (r+k)
 |.fn f a c=>.fn f (shifts k a) (shifts k c)
 |.kP l=>.kP (l+k)
 |.agg cs=>.agg (shifts k cs)
 |.dI cs=>.dI (shifts k cs)
 |.row b j off=>.row (b+k) j off
 |.bool b=>.bool b
 |.lit b=>.lit b
 |.int k n=>.int k n
 |.str s=>.str s
 |.nil k=>.nil k
 |.dB t l f=>.dB t l f
 |.el t a off=>.el t a off
where
 shifts (k:Nat):List (PV Γ)->List (PV Γ)
 | []=>[]
 |c::cs=>shift k c::shifts k cs
def WA(i:Nat)(H:List (PB Γ)):List (PB Γ):=H.set i .gone
def aX:List Nat->List (PB Γ)->List (PB Γ)
 | [],H=>H
 |i::is,H=>aX is (WA i H)
end
section
variable (X:kQ)
def FH(k:Nat):PB X.Γ->Option (PB X.Γ)
 |.cells cs=>some (.cells (shift.shifts k cs))
 |.list w ex t l=>some (.list w ex t l)
 |.gone=>some .gone
 |_=>none
def qX(k:Nat):List (PB X.Γ)->Option (List (PB X.Γ))
 | []=>some []
 |b::bs=>match FH X k b,qX k bs with
  |some b,some bs=>some (b::bs)
  |_,_=>none
def hasB:PB X.Γ->Bool
 |.cells cs=>xH.GR cs
 |.gone=>false
 |_=>true
def a9p(H:List (PB X.Γ))(t:Nat)(cs:List (PV X.Γ)):Option (X.Γ t×List Nat):=
 match views H cs with
 |some vs=>match X.dec t vs with
  |some a=>some (a,kU.kD cs)
  |none=>none
 |none=>none
def y9(H:List (PB X.Γ))(t sz:Nat):Nat->List (PV X.Γ)->Option (List (X.Γ t)×List Nat)
 | 0,_=>some ([],[])
 |n+1,cs=>if sz<=cs.length then match a9p X H t (cs.take sz),y9 H t sz n (cs.drop sz)with
  |some (a,is),some (l,js)=>some (a::l,is++js)
  |_,_=>none
  else none
def CP{Γ:Nat->Type}(t t':Nat)(l:List (Γ t')):Option (List (Γ t)):=
 if h:t'=t then some (h▸l)else none
def Ae(H:List (PB X.Γ))(e sz:Nat):PV X.Γ->Option (List (X.Γ e)×List Nat)
 |.nil .slc=>some ([],[])
 |.dB t l _=>(CP e t l).map fun l=>(l,[])
 |.own i=>match H[i]? with
  |some (.list _ _ t l)=>(CP e t l).map fun l=>(l,[])
  |_=>none
 |.win i o n=>match H[i]? with
  |some (.list _ _ t l)=>(CP e t l).map fun l=>((l.drop o).take n,[])
  |_=>none
 |.slc b off len _ sz' _=>match H[b]? with
  |some (.cells cs)=>if sz'=sz∧off+len*sz<=cs.length then y9 X H e sz len (cs.drop off)else none
  |_=>none
 |_=>none
def Af(P:Program)(t:TypeId)(s:aS X.Γ):PE X.Γ->Option (PV X.Γ×mg)
 |.loc k off=>match s.loc[k]? with
  |some cs=>(GN P t cs off).map fun v=>(v,xq (.l k))
  |none=>none
 |.val (.ptr b off lim)=>match s.heap[b]?,dD P t with
  |some (.cells cs),some n=>if off+n<=lim then(GN P t cs off).map fun v=>(v,xq (.h b))else none
  |some (.aC cs),some n=>if off+n<=lim then(GN P t cs off).map fun v=>(v,cu)else none
  |_,_=>none
 |.val (.row b j off)=>match s.heap[b]? with
  |some (.list _ _ e l)=>(GN P t (X.enc e (l.getD j (X.d0 e))) off).map fun v=>(v,xq (.h b))
  |_=>none
 |.val (.el e a off)=>(GN P t (X.enc e a) off).map fun v=>(v,cu)
 |_=>none
def Ue(P:Program)(t:TypeId)(s:aS X.Γ)(a:PE X.Γ)(v:PV X.Γ):Option (aS X.Γ×mg):=
 match dD P t with
 |some n=>
  if v.cells.length=n∧v.cells.all Zd=true then
   match a with
   |.loc k off=>match s.loc[k]? with
    |some cs=>(Ob cs off v.cells).map fun cs'=>({ s with loc:=s.loc.set k cs' },pz (.l k))
    |none=>none
   |.val (.ptr b off lim)=>if off+n<=lim then(match s.heap[b]? with
    |some (.cells cs)=>(Ob cs off v.cells).map fun cs'=>({ s with heap:=s.heap.set b (.cells cs') },pz (.h b))
    |_=>none)else none
   |.val (.row b j off)=>match s.heap[b]? with
    |some (.list k ex e l)=>match Ob (X.enc e (l.getD j (X.d0 e))) off v.cells with
     |some cs=>match a9p X s.heap e cs with
      |some (x,is)=>if is.contains b then none else some ({ s with heap:=aX is (s.heap.set b (.list k ex e (l.set j x))) },pz (.h b))
      |none=>none
     |none=>none
    |_=>none
   |_=>none
  else none
 |none=>none
def ahK:PE X.Γ->aS X.Γ->Option Nat
 |.val (.el e a _),_=>some (X.enc e a).length
 |.val (.row b j _),s=>match s.heap[b]? with
  |some (.list _ _ e l)=>some (X.enc e (l.getD j (X.d0 e))).length
  |_=>none
 |_,_=>none
def GV(s:aS X.Γ)(o:Nat):PE X.Γ->Option (PE X.Γ)
 |.loc k off=>some (.loc k (off+o))
 |.val (.ptr b off lim)=>match s.heap[b]? with
  |some (.cells _)=>if off+o<=lim then some (.val (.ptr b (off+o) lim))else none
  |some (.aC _)=>if off+o<=lim then some (.val (.ptr b (off+o) lim))else none
  |_=>none
 |.val (.el e a off)=>if off+o<=(X.enc e a).length then some (.val (.el e a (off+o)))else none
 |.val (.row b j off)=>match ahK X (.val (.row b j off)) s with
  |some n=>if off+o<=n then some (.val (.row b j (off+o)))else none
  |none=>none
 |_=>none
def gq(i:Int)(n:Nat):Prop:=0<=i∧i<(n:Int)
def a2K(n:Nat):PV X.Γ->Option Nat
 |.int _ i=>if 0<=i∧i<n then some i.toNat else none
 |_=>none
def FI(P:Program)(t:TypeId)(s:aS X.Γ)(x:PE X.Γ)(i:PV X.Γ):Option (PE X.Γ×List Prop):=
 match P.underlying t with
 |some (.slice e)=>match dD P e,x,i with
  |some n,.val (.dB t' l _),.int _ iv=>if t'=e then some (.val (.el t' (l.getD iv.toNat (X.d0 t')) 0),[gq iv l.length])else none
  |some n,.val (.own b),.int _ iv=>match s.heap[b]? with
   |some (.list _ _ t' l)=>if t'=e then some (.val (.row b iv.toNat 0),[gq iv l.length])else none
   |_=>none
  |some n,.val (.win b o m),.int _ iv=>match s.heap[b]? with
   |some (.list _ _ t' l)=>if t'=e then some (.val (.row b (o+iv.toNat) 0),[gq iv m])else none
   |_=>none
  |some n,.val (.slc b off len cap sz _),i=>match s.heap[b]? with
   |some (.cells _)=>if n=sz then(a2K X len i).map fun j=>(.val (.ptr b (off+j*n) (off+cap*n)),[])else none
   |_=>none
  |_,_,_=>none
 |some (.array len e)=>match dD P e with
  |some n=>match a2K X len i with
   |some j=>(GV X s (j*n) x).map fun a=>(a,[])
   |none=>none
  |none=>none
 |_=>none
def ae0(P:Program)(at_:Array TypeId)(H:List (PB X.Γ))(x:PV X.Γ):Option (PV X.Γ×mg):=
 match at_[0]? with
 |some t=>match P.underlying t,x with
  |some .string,.str s=>some (.int .i64 s.size,cu)
  |some (.array n _),_=>some (.int .i64 n,cu)
  |some (.slice _),.slc b _ len _ _ _=>match H[b]? with
   |some (.cells _)=>some (.int .i64 len,cu)
   |_=>none
  |some (.slice _),.nil .slc=>some (.int .i64 0,cu)
  |some (.slice _),.dB _ l _=>some (.int .i64 (l.length:Nat),cu)
  |some (.slice _),.own b=>match H[b]? with
   |some (.list _ _ _ l)=>some (.int .i64 (l.length:Nat),cu)
   |_=>none
  |some (.slice _),.win b _ n=>match H[b]? with
   |some (.list _ _ _ _)=>some (.int .i64 n,cu)
   |_=>none
  |some (.map _ _),.nil .map=>some (.int .i64 0,cu)
  |some (.map _ _),.map r=>match H[r]? with
   |some (.map es)=>some (.int .i64 es.length,xq (.h r))
   |_=>none
  |_,_=>none
 |none=>none
def ah:Nat:=2^20
def CQ:PV X.Γ->List Key
 |.slc b _ _ _ _ _=>[.h b]
 |.own b=>[.h b]
 |.win b _ _=>[.h b]
 |_=>[]
def Uf(P:Program)(at_:Array TypeId)(H:List (PB X.Γ))(d x:PV X.Γ):Option (PV X.Γ×List (PB X.Γ)×mg×List Prop):=
 match at_[0]?,at_[1]? with
 |some st,some xt=>
  if TK P xt||(P.underlying xt).isNone then none else
  match jF P st with
  |some (e,size)=>if tY P e ah then match Ae X H e size x with
   |some (rows,is)=>match d with
    |.nil .slc=>some (.own H.length,aX is H++[.list true false e rows],gY (CQ X x),[rows.length<=ah])
    |.own b=>match H[b]? with
     |some (.list k ex t l)=>if is.contains b then none else match CP e t l with
      |some l=>some (.own H.length,aX (b::is) H++[.list (k&&ex) false e (l++rows)],⟨false,.h b::CQ X x,[.h b]⟩,[l.length+rows.length<=ah])
      |none=>none
     |_=>none
    |.dB t l true=>match CP e t l with
     |some l=>some (.own H.length,aX is H++[.list true false e (l++rows)],gY (CQ X x),[l.length+rows.length<=ah,l=[]∨rows≠[]])
     |none=>none
    |_=>none
   |none=>none
   else none
  |none=>none
 |_,_=>none
def Oe{α:Type}(l:List α)(o k:Nat)(rows:List α):List α:=l.take o++rows.take k++l.drop (o+k)
def Ey(e:Nat):List (X.Γ e)->List (PV X.Γ)
 | []=>[]
 |a::l=>X.enc e a++Ey e l
def a5z(P:Program)(at_:Array TypeId)(H:List (PB X.Γ))(d x:PV X.Γ):Option (PV X.Γ×List (PB X.Γ)×mg):=
 match at_[0]? with
 |some st=>match jF P st with
  |some (e,size)=>match Ae X H e size x with
   |some (rows,[])=>match d with
    |.nil .slc=>some (.int .i64 0,H,gY (CQ X x))
    |.own b=>match H[b]? with
     |some (.list k ex t l)=>match CP e t l with
      |some l=>some (.int .i64 ((min rows.length l.length:Nat):Int),H.set b (.list k ex e (Oe l 0 (min rows.length l.length) rows)),⟨false,.h b::CQ X x,[.h b]⟩)
      |none=>none
     |_=>none
    |.win b o n=>match H[b]? with
     |some (.list k ex t l)=>match CP e t l with
      |some l=>some (.int .i64 ((min rows.length n:Nat):Int),H.set b (.list k ex e (Oe l o (min rows.length n) rows)),⟨false,.h b::CQ X x,[.h b]⟩)
      |none=>none
     |_=>none
    |.slc b off len _ sz _=>match H[b]? with
     |some (.cells cs)=>if sz=size∧0<min rows.length len then(Ob cs off ((Ey X e rows).take (min rows.length len*size))).map fun cs'=>(.int .i64 ((min rows.length len:Nat):Int),H.set b (.cells cs'),⟨false,.h b::CQ X x,[.h b]⟩)else none
     |_=>none
    |_=>none
   |_=>none
  |none=>none
 |none=>none
def yc(P:Program)(t:TypeId)(len:Nat)(H:List (PB X.Γ))(ps:List (Nat×PV X.Γ))(raw:Bool):Option (PV X.Γ×List (PB X.Γ)):=
 match jF P t with
 |some (e,n)=>if len*n<=2^24∧ps.all (fun p=>p.2.cells.all Zd)=true then
   match Rz P e with
   |some z=>if z.length=n then
     match Oc (fun i=>some (i*n,n)) (Zg z len) ps with
     |some cs=>match(if raw=true then none else y9 X H e n len cs)with
      |some (rows,is)=>some (.own H.length,aX is H++[.list true true e rows])
      |none=>some (.slc H.length 0 len len n true,H++[.cells cs])
     |none=>none
    else none
   |none=>none
  else none
 |none=>none
def FK(P:Program)(t:TypeId)(H:List (PB X.Γ))(l c:PV X.Γ):Option (PV X.Γ×List (PB X.Γ)×List Prop):=
 match jF P t,l,c with
 |some (e,n),.int _ l,.int _ c=>if tY P e ah then
   match Rz P e with
   |some z=>if z.length=n then
     match X.dec e z with
     |some a=>some (.own H.length,H++[.list true true e (List.replicate l.toNat a)],[l=c,0<=l,l<=ah])
     |none=>none
    else none
   |none=>none
  else none
 |_,_,_=>none
def zi(d:Nat):Option (PV X.Γ)->Option Int
 |none=>some d
 |some (.int _ i)=>some i
 |some _=>none
def Zh(P:Program)(t:TypeId)(H:List (PB X.Γ))(x:PV X.Γ)(lo hi mx:Option (PV X.Γ)):Option (PV X.Γ×List Prop):=
 match P.underlying t,x with
 |some (.slice e),.dB t' l fu=>match dD P e,zi X 0 lo,zi X l.length hi,mx with
  |some _,some a,some b,none=>if t'=e then some (.dB t' ((l.take b.toNat).drop a.toNat) false,[0<=a,a<=b,b<=l.length])else none
  |some _,some a,some b,some (.int _ m)=>if t'=e∧hi.isSome then(if fu=true then some (.dB t' l true,[a=0,b=l.length,m=b])else some (.dB t' ((l.take b.toNat).drop a.toNat) true,[0<=a,a<=b,b<=l.length,m=b,a=b]))else none
  |_,_,_,_=>none
 |some (.slice e),.own i=>match H[i]? with
  |some (.list _ _ t' l)=>match dD P e,zi X 0 lo,zi X l.length hi,mx with
   |some _,some a,some b,none=>if t'=e then some (.win i a.toNat (b.toNat-a.toNat),[0<=a,a<=b,b<=l.length])else none
   |some _,some a,some b,some (.int _ m)=>if t'=e∧hi.isSome then some (.win i a.toNat (b.toNat-a.toNat),[0<=a,a<=b,b<=l.length,m=b,a=b])else none
   |_,_,_,_=>none
  |_=>none
 |some (.slice e),.nil .slc=>match dD P e,zi X 0 lo,zi X 0 hi,mx with
  |some _,some a,some b,none=>some (.nil .slc,[a=0,b=0])
  |some _,some a,some b,some (.int _ m)=>if hi.isSome then some (.nil .slc,[a=0,b=0,m=0])else none
  |_,_,_,_=>none
 |_,_=>none
def IX(P:Program)(t:TypeId)(H:List (PB X.Γ))(x:PE X.Γ)(lo hi mx:Option (PV X.Γ)):Option (PV X.Γ×List (PB X.Γ)×List Prop):=
 match P.underlying t,x with
 |some (.array n e),.val (.ptr b off lim)=>match dD P e with
  |some size=>
   if size=0∨lim<off+n*size∨2^24<n then none else
   match mx with
   |some _=>none
   |none=>match lo,hi with
    |none,none=>match H[b]? with
     |some (.cells _)=>some (.slc b off n n size true,H,[])
     |_=>none
    |lo,hi=>match H[b]?,zi X 0 lo,zi X n hi with
     |some (.cells cs),some a,some z=>if cs.length<off+n*size then none else match y9 X H e size n (cs.drop off)with
      |some (rows,is)=>some (.dB e ((rows.take z.toNat).drop a.toNat) false,aX (b::is) H,[0<=a,a<=z,z<=n])
      |none=>none
     |_,_,_=>none
  |none=>none
 |_,_=>none
def FM(P:Program)(t:TypeId)(H:List (PB X.Γ))(x:PE X.Γ)(lo hi:Option (PV X.Γ)):Option (PV X.Γ):=
 match P.underlying t,x with
 |some (.array n e),.val (.ptr b off lim)=>match dD P e,H[b]?,zi X 0 lo,zi X n hi with
  |some size,some (.cells _),some a,some z=>if size=0∨lim<off+n*size∨2^24<n then none else if 0<=a∧a<=z∧z<=n then some (.slc b (off+a.toNat*size) (z.toNat-a.toNat) (n-a.toNat) size true)else none
  |_,_,_,_=>none
 |_,_=>none
def a0V(P:Program)(t:TypeId)(x y:PV X.Γ):Bool:=
 let abO:PV X.Γ->Option NK
  |.fn _ _ _=>some .fn
  |.el _ _ _=>some .ptr
  |_=>none
 let ahL:PV X.Γ->Option NK
  |.nil k=>some k
  |_=>none
 match JO P t with
 |some k=>(ahL x==some k&&abO y==some k)||(abO x==some k&&ahL y==some k)
 |none=>false
def ae1(P:Program)(op:BinOp)(t:TypeId)(x y:Operand)(a b:PV X.Γ):Option (PV X.Γ):=
 match qg a,qg b with
 |some u,some v=>match sF P op t x y u v with
  |some r=>Yv r
  |none=>none
 |_,_=>if a0V X P t a b then(match op with
  |.eql=>some (.bool false)
  |.neq=>some (.bool true)
  |_=>none)else none
def LX(P:Program)(op:BinOp)(t:TypeId)(b:PV X.Γ)(q:Prop):Option (PV X.Γ×Prop):=
 match b,JO P t with
 |.nil .slc,some .slc=>match op with
  |.eql=>some (.bool false,q)
  |.neq=>some (.bool true,q)
  |_=>none
 |_,_=>none
def Ug(P:Program)(op:BinOp)(t:TypeId)(H:List (PB X.Γ))(a b:PV X.Γ):Option (PV X.Γ×Prop):=
 match a with
 |.dB _ l _=>LX X P op t b (l≠[])
 |.own i=>match H[i]? with
  |some (.list _ _ _ l)=>LX X P op t b (l≠[])
  |_=>none
 |_=>none
def pun(P:Program)(op:UnOp)(a:PV X.Γ):Option (PV X.Γ):=
 match qg a with
 |some u=>match unT P op u with
  |some r=>Yv r
  |none=>none
 |none=>none
def a5A(P:Program)(src dst:TypeId)(a:PV X.Γ):Option (PV X.Γ):=
 match qg a with
 |some u=>match QC P src dst u with
  |some r=>Yv r
  |none=>none
 |none=>match P.underlying src,P.underlying dst,a with
  |_,_,_=>none
def LY(P:Program)(mx:Bool)(at_:Array TypeId)(t:TypeId)(az:List (PV X.Γ)):Option (PV X.Γ):=
 match Ud az with
 |some us=>match DN P mx at_ t us with
  |some r=>Yv r
  |none=>none
 |none=>none
def Zi(P:Program)(t:TypeId)(x:PV X.Γ)(i:Nat):Option (PV X.Γ):=
 match P.underlying t,x with
 |some (.struct fs),.agg cs=>match fs[i]? with
  |some f=>GN P f.type cs f.offset
  |none=>none
 |_,_=>none
def Zj(P:Program)(t:TypeId)(x i:PV X.Γ):Option (PV X.Γ):=
 match P.underlying t,x with
 |some (.array len e),.agg cs=>match dD P e,a2K X len i with
  |some n,some j=>GN P e cs (j*n)
  |_,_=>none
 |_,_=>none
def vg:List (PV X.Γ×PV X.Γ)->Option (List TV)
 | []=>some []
 |(k,_)::r=>match qg k,vg r with
  |some v,some vs=>some (v::vs)
  |_,_=>none
def vk(P:Program)(kt:TypeId)(k:Value)(ks:List TV):Option (Option Nat):=
 match BA ks with
 |some ks=>match aB P (do Instr.checkKey ks.isEmpty 10000 kt k;Instr.findKey kt k (ks.map fun x=>⟨x,.bool false,0⟩))with
  |some r=>if VB P kt k ks (r.map (·.1))then some (r.map (·.1))else none
  |none=>none
 |none=>none
end
end Pv
namespace Tw
open Go
abbrev Uh(k:IntKind)(x y:Int):Int:=k.wrap (x.tdiv y)
abbrev BG(_k:IntKind)(x y:Int):Int:=x.tmod y
abbrev ahM(k:IntKind)(x y:Int):Int:=k.wrap (x*2^(min y.toNat k.bits))
abbrev ahN(k:IntKind)(x y:Int):Int:=x.fdiv (2^(min y.toNat k.bits))
end Tw

namespace Tw
open Go
section
variable {P:Program}
theorem yg(d:Nat)(t:TypeId)(xs ys:Array Value)(fs:Array Field)(ht:P.underlying t=some (.struct fs))(hp:P.stoodInHeld t=false) :
  aB P (Op.equalIn (d+1) t (.agg xs) (.agg ys))=aB P (Op.eqFields d xs ys fs.toList):=by
 have hu:aB P (underlying t)=some (.struct fs):=by
  simp only[underlying,bI];have:aB P program=some P:=rfl;simp[this,ht,aB];rfl
 simp only[Op.equalIn,bI,hu,a4t,show aB P program=some P from rfl,hp,a2P,a3T];rw[<-Array.forIn_toList];generalize fs.toList=fs;clear ht hu
 induction fs with
 |nil=>simp[Op.eqFields,aB,bI];rfl
 |cons f fs ih=>
  simp only[List.forIn_cons,Op.eqFields,bI]at ih ⊢;split
  .simp only[bI];generalize aB P (part f.type xs f.offset)=r1;cases r1 with
   |none=>simp
   |some a=>
    simp only[a4t];generalize aB P (part f.type ys f.offset)=r2;cases r2 with
    |none=>simp
    |some b=>
     simp only[a4t];generalize aB P (Op.equalIn d f.type a b)=r3;cases r3 with
     |none=>simp
     |some r=>
      cases r with
      |false=>simp only[a4t,abw,a2w];rfl
      |true=>simp only[a4t,a8U,a2P,a3T];exact ih
  .exact ih
theorem qY(d:Nat)(t:TypeId)(k k':IntKind)(a b:Int)(h:P.underlying t=some (.int k')):aB P (Op.equalIn (d+1) t (.int k a) (.int k b))=some (a==b):=by
 have hu:aB P (underlying t)=some (.int k'):=by
  simp only[underlying,bI,show aB P program=some P from rfl,a4t,h];rfl
 simp only[Op.equalIn,bI,hu,a4t,a2w];rfl
theorem oL {d : Nat} {xs ys : Array Value} {f : Field} {fs : List Field} {a b : Value} {r : Bool} (hn : f.name ≠ "_") (ha : aB P (part f.type xs f.offset) = some a) (hb : aB P (part f.type ys f.offset) = some b)
  (hr:aB P (Op.equalIn d f.type a b)=some r):aB P (Op.eqFields d xs ys (f::fs))=if r=true then aB P (Op.eqFields d xs ys fs)else some false:=by
 simp only[Op.eqFields];rw[a0p hn];simp only[bI,ha,hb,hr,a4t];cases r with
 |true=>rfl
 |false=>rfl
theorem GX{t:TypeId}{x y:Operand}{xs ys:List TV}{us vs:List Value}{r:Bool}(hx:TV.TF xs=some us)(hy:TV.TF ys=some vs)(hg:P.eqGuardType P.depth t=false)
  {d:Nat} (hd:d=10000) (h:aB P (Op.equalIn d t (.agg us.toArray) (.agg vs.toArray))=some r):sF P .eql t x y (.agg xs) (.agg ys)=some (.bool r)∧sF P .neq t x y (.agg xs) (.agg ys)=some (.bool (!r)):=by
 subst hd;constructor
 all_goals
  simp only[sF,TV.yB,hx,hy,a0v];simp only[eqGuard,binOp,Op.equal,Op.maxDepth,bI,show aB P program=some P from rfl,hg,a4t,a8U,abw,a2P,a3T,a2w,h];rfl
theorem a5B{t:TypeId}{x y:Operand}{k k':IntKind}{a b:Int}(h:0<=b):sF P .shl t x y (.int k a) (.int k' b)=some (.int k (ahM k a b)):=by
 simp only[sF,TV.yB,TV.toC,eqGuard,binOp,Op.shift];rw[a0o (show ¬b<0 by omega)];rfl
theorem a5C{t:TypeId}{x y:Operand}{k k':IntKind}{a b:Int}(h:0<=b):sF P .shr t x y (.int k a) (.int k' b)=some (.int k (ahN k a b)):=by
 simp only[sF,TV.yB,TV.toC,eqGuard,binOp,Op.shift];rw[a0o (show ¬b<0 by omega)];rfl
theorem a5D{t:TypeId}{x y:Operand}{k:IntKind}{a b:Int}(h:b≠0):sF P .quo t x y (.int k a) (.int k b)=some (.int k (Uh k a b)):=by
 simp only[sF,TV.yB,TV.toC,eqGuard,binOp,Op.intDiv];rw[a0o h];cases k<;>rfl
theorem a5E{t:TypeId}{x y:Operand}{k:IntKind}{a b:Int}(h:b≠0):sF P .rem t x y (.int k a) (.int k b)=some (.int k (BG k a b)):=by
 simp only[sF,TV.yB,TV.toC,eqGuard,binOp,Op.intDiv];rw[a0o h];cases k<;>rfl
end
end Tw
namespace Pv
open Go Tw
def wL:List Nat->Nat->Option Nat
 | [],_=>none
 |a::l,i=>if a=i then some 0 else(wL l i).map (·+1)
inductive G where
 |lit
 |IY (t e:Nat)
 |a2L (k off e:Nat)
 |Ui (i off e:Nat)
 |flag (i:Nat)
 |gc (ks:List Nat)
 |mv (i:Nat)
 |fz (i:Nat)
section
variable {Γ:Nat->Type}
def fH(g:Nat->Option Nat):PV Γ->Option (PV Γ)
 |.ptr b off lim=>(g b).map fun b=>.ptr b off lim
 |.slc b off len cap sz ex=>(g b).map fun b=>.slc b off len cap sz ex
 |.own b=>(g b).map .own
 |.win b o n=>(g b).map fun b=>.win b o n
 |.map r=>(g r).map .map
 |.iter r=>(g r).map .iter
 |.fn f a c=>match oW g a,oW g c with
  |some a,some c=>some (.fn f a c)
  |_,_=>none
 |.kP l=>(g l).map .kP
 |.agg cs=>(oW g cs).map .agg
 |.dI cs=>(oW g cs).map .dI
 |.row b j off=>(g b).map fun b=>.row b j off
 |.bool b=>some (.bool b)
 |.lit b=>some (.lit b)
 |.int k n=>some (.int k n)
 |.str s=>some (.str s)
 |.nil k=>some (.nil k)
 |.dB t l f=>some (.dB t l f)
 |.el t a off=>some (.el t a off)
where
 oW (g:Nat->Option Nat):List (PV Γ)->Option (List (PV Γ))
 | []=>some []
 |c::cs=>match fH g c,oW g cs with
  |some v,some vs=>some (v::vs)
  |_,_=>none
def Og(g:Nat->Option Nat):PE Γ->Option (PE Γ)
 |.val v=>(fH g v).map .val
 |.ent r j v=>(g r).map fun r=>.ent r j v
 |.Es r j=>(g r).map fun r=>.Es r j
 |e=>some e
def oV(g:Nat->Option Nat):List (Nat×PE Γ)->Option (List (Nat×PE Γ))
 | []=>some []
 |(k,v)::r=>match Og g v,oV g r with
  |some v,some r=>some ((k,v)::r)
  |_,_=>none
def WB(g:Nat->Option Nat):List (List (PV Γ))->Option (List (List (PV Γ)))
 | []=>some []
 |l::r=>match fH.oW g l,WB g r with
  |some l,some r=>some (l::r)
  |_,_=>none
def zk(g:Nat->Option Nat):PB Γ->Option (PB Γ)
 |.cells cs=>(fH.oW g cs).map .cells
 |.aC cs=>(fH.oW g cs).map .aC
 |.map es=>some (.map es)
 |.cZ r n seen=>(g r).map fun r=>.cZ r n seen
 |.loop rd f nt env ps a b jH=>(oV g env).map fun env=>.loop rd f nt env ps a b jH
 |b=>some b
def nO(g:Nat->Option Nat):List (PB Γ)->Option (List (PB Γ))
 | []=>some []
 |b::r=>match zk g b,nO g r with
  |some b,some r=>some (b::r)
  |_,_=>none
def CS(H:List (PB Γ)):List Nat->Option (List (PB Γ))
 | []=>some []
 |i::is=>match H[i]?,CS H is with
  |some b,some r=>some (b::r)
  |_,_=>none
def a9q:List (Nat×PE Γ)->List (Nat×PE Γ)
 | []=>[]
 |(k,.val v)::r=>(k,.val (a0T v))::a9q r
 |x::r=>x::a9q r
def IY(t i:Nat):List (Nat×PE Γ)->Option (List (Nat×PE Γ))
 | []=>none
 |(k,v)::r=>if k=t then(match v with
   |.val (.nil .slc)=>some ((k,.val (.own i))::r)
   |_=>none)else(IY t i r).map ((k,v)::·)
def a9r(off i:Nat)(cs:List (PV Γ)):Option (List (PV Γ)):=
 match cs[off]? with
 |some (.nil .slc)=>some (cs.set off (.own i))
 |_=>none
def fzV(H:List (PB Γ))(i:Nat)(v:PV Γ):Option (PV Γ):=match(kU v).contains i with
 |false=>some v
 |true=>match(kU v).all fun j=>Nat.beq j i with
  |true=>view H v
  |false=>none
def a5F(H:List (PB Γ))(i:Nat):List (PV Γ)->Option (List (PV Γ))
 | []=>some []
 |v::vs=>match fzV H i v,a5F H i vs with
  |some w,some ws=>some (w::ws)
  |_,_=>none
def fzE(H:List (PB Γ))(i:Nat):List (Nat×PE Γ)->Option (List (Nat×PE Γ))
 | []=>some []
 |(k,.val v)::r=>match fzV H i v,fzE H i r with
  |some w,some ws=>some ((k,.val w)::ws)
  |_,_=>none
 |(_,.ent _ _ _)::_|(_,.Es _ _)::_=>none
 |e::r=>(fzE H i r).map (e::·)
def fzL(H:List (PB Γ))(i:Nat):List (List (PV Γ))->Option (List (List (PV Γ)))
 | []=>some []
 |c::r=>match a5F H i c,fzL H i r with
  |some w,some ws=>some (w::ws)
  |_,_=>none
def Bj(B:Nat)(s:aS Γ):G->Option (aS Γ)
 |.lit=>some { s with env:=a9q s.env }
 |.IY t e=>(IY t s.heap.length s.env).map fun env=>{ s with env:=env,heap:=s.heap++[.list false false e []] }
 |.a2L k off e=>match s.loc[k]? with
  |some cs=>(a9r off s.heap.length cs).map fun cs=>{ s with loc:=s.loc.set k cs,heap:=s.heap++[.list false false e []] }
  |none=>none
 |.Ui i off e=>match s.heap[i]? with
  |some (.cells cs)=>(a9r off s.heap.length cs).map fun cs=>{ s with heap:=s.heap.set i (.cells cs)++[.list false false e []] }
  |_=>none
 |.flag i=>match s.heap[i]? with
  |some (.list _ _ t l)=>some { s with heap:=s.heap.set i (.list false false t l) }
  |_=>none
 |.gc ks=>if ks.all (fun k=>decide (B<=k))&&decide ks.Nodup&&decide (B<=s.heap.length)then
   let g:Nat->Option Nat:=fun i=>if i<B then some i else(wL ks i).map (·+B)
   match oV g s.env,WB g s.loc,nO g (s.heap.take B),CS s.heap ks with
   |some env,some loc,some h1,some h2=>match nO g h2 with
    |some h2=>some ⟨env,loc,h1++h2⟩
    |none=>none
   |_,_,_,_=>none
  else none
 |.fz i=>match fzE s.heap i s.env,fzL s.heap i s.loc with
  |some env,some loc=>some ⟨env,loc,aX [i] s.heap⟩
  |_,_=>none
 |.mv i=>match s.heap[i]? with
  |some b=>
   let g:Nat->Option Nat:=fun j=>if j=i then some s.heap.length else if j<s.heap.length then some j else none
   match oV g s.env,WB g s.loc,nO g (s.heap.set i .gone),zk g b with
   |some env,some loc,some h1,some b1=>some ⟨env,loc,h1++[b1]⟩
   |_,_,_,_=>none
  |none=>none
def lC(B:Nat):List G->aS Γ->Option (aS Γ)
 | [],s=>some s
 |g::gs,s=>match Bj B s g with
  |some s=>lC B gs s
  |none=>none
end
def anw:BinOp->Bool
 |.quo|.rem|.shl|.shr=>true
 |_=>false
def ae2{Γ:Nat->Type}(op:BinOp):PV Γ->PV Γ->Option (PV Γ×List Prop)
 |.int k x,.int k' y=>match op with
  |.quo=>if k'=k then some (.int k (Uh k x y),[y≠0])else none
  |.rem=>if k'=k then some (.int k (BG k x y),[y≠0])else none
  |.shl=>some (.int k (ahM k x y),[0<=y])
  |.shr=>some (.int k (ahN k x y),[0<=y])
  |_=>none
 |_,_=>none
def putAt{α:Type}:List Nat->List α->List α->List α
 |k::ks,b::bs,l=>putAt ks bs (l.set k b)
 |_,_,l=>l
def bk(ks:List Nat)(n:Nat):Nat->Option Nat:=fun j=>match ks[j]? with
 |some k=>some k
 |none=>some (n+(j-ks.length))
def roB{Γ:Nat->Type}:List Nat->List (PB Γ)->List (PB Γ)->Option (List (PB Γ)×List (PB Γ))
 | [],H,H1=>some (H,H1)
 |r::rs,H,H1=>match H[r]?,H1[r]? with
  |some (.cells a),some (.cells b)=>roB rs (H.set r (.aC a)) (H1.set r (.aC b))
  |some (.map a),some (.map b)=>roB rs (H.set r (.iE a)) (H1.set r (.iE b))
  |_,_=>none
def IZ{Γ:Nat->Type}:List (PB Γ)->Bool
 | []=>true
 |.aC _::_=>false
 |.iE _::_=>false
 |_::H=>IZ H
def a2M{α:Type}(rs:List Nat):Nat->List α->List α
 |_,[]=>[]
 |i,k::ks=>if rs.contains i then a2M rs (i+1) ks else k::a2M rs (i+1) ks
inductive PA(Γ:Nat->Type) where
 |br (b:Bool)
 |rd (v:TV)
 |ix (j:Nat)
 |no
 |call (v:PV Γ) (H:List (PB Γ))
 |fr (ks:List Nat) (v:PV Γ) (H:List (PB Γ))
 |Qm (ks rs:List Nat) (v:PV Γ) (H:List (PB Γ))
 |loop (e:Ex) (s:aS Γ)
 |lg (gs:List G) (e:Ex) (s:aS Γ)
 |calm
inductive PT(Γ:Nat->Type) where
 |n
 |a (x:PA Γ) (r:PT Γ)
 |s (t e:PT Γ)
 |z (c:Bool) (t e:PT Γ)
 |l (m:Nat) (r:PT Γ)
inductive OT(ρ:Type) where
 |bad
 |ret (r:ρ)
 |o (p:Prop) (r:OT ρ)
 |br (c:Bool) (t e:OT ρ)
def OT.Ends{ρ:Type}:OT ρ->ρ->Prop
 |.bad,_=>False
 |.ret r,x=>r=x
 |.o p r,x=>p∧r.Ends x
 |.br c t e,x=>(c=true∧t.Ends x)∨(c=false∧e.Ends x)
def owe{ρ:Type}:List Prop->OT ρ->OT ρ
 | [],x=>x
 |p::ps,x=>.o p (owe ps x)
abbrev eY(Γ:Nat->Type):=FuncId->List (PV Γ)->Option (PV Γ×List (PB Γ)×List Prop)
structure PI where
 i:mg
 wall:Bool
 mv:Bool
 hp:Bool
def xI:PI:=⟨cu,false,false,false⟩
def Uj{Γ:Nat->Type}:PE Γ->Bool
 |.loc _ _=>true
 |_=>false
def qZ{Γ:Nat->Type}:PB Γ->Bool
 |.gone=>true
 |_=>false
def zl{Γ:Nat->Type}:List (PB Γ)->List (PB Γ)->Bool
 | [],_=>true
 |b::H,b'::H'=>(qZ b==qZ b')&&zl H H'
 |_::_,[]=>false
def ae3{Γ:Nat->Type}:PV Γ->Bool
 |.agg _=>true
 |_=>false
def Zk{Γ:Nat->Type}:PV Γ->Bool
 |.str _=>true
 |_=>false
section
variable (X:kQ) (P:Program) (T:qJ) (fJ:eY X.Γ) {ρ:Type}
def byB(u:PV X.Γ)(an:PT X.Γ)(k:Bool->PT X.Γ->OT ρ):OT ρ:=
 match u with
 |.lit t=>k t an
 |.bool u=>match an with
  |.s x y=>.br u (k true x) (k false y)
  |.a (.br t) r=>.o (u=t) (k t r)
  |_=>.bad
 |_=>.bad
def Ku(H:List (PB X.Γ))(r:Nat):Option (List (PV X.Γ×PV X.Γ)):=
 match H[r]? with
 |some (.map es)=>some es
 |some (.iE es)=>some es
 |_=>none
def a5G(H:List (PB X.Γ)):PV X.Γ->Option (List (PV X.Γ×PV X.Γ))
 |.nil .map=>some []
 |.map r=>Ku X H r
 |_=>none
def RD:PV X.Γ->List Key
 |.map r=>[.h r]
 |_=>[]
def qp(kt:TypeId)(es:List (PV X.Γ×PV X.Γ))(tk:TV)(v:PV X.Γ):Prop:=∃kv ks j k0,tk.yB=some kv∧vg X es=some ks∧vk P kt kv ks=some (some j)∧es[j]? = some (k0,v)
def nP(kt:TypeId)(es:List (PV X.Γ×PV X.Γ))(tk:TV):Prop:=∃kv ks,tk.yB=some kv∧vg X es=some ks∧vk P kt kv ks=some none
def ahO(kt:TypeId)(es:List (PV X.Γ×PV X.Γ))(tk:TV)(k v:PV X.Γ):Prop:=∃kv ks j old ov,tk.yB=some kv∧aB P (Instr.checkKey false 10000 kt kv)=some ()∧vg X es=some ks∧vk P kt kv ks=some (some j)∧es[j]? = some (k,v)∧ks[j]? = some old∧old.yB=some ov∧Instr.sameBits 10000 ov kv=true
def Oh(e:TypeId):Option (PV X.Γ):=match P.info? e with
 |some i=>match i.zero with
  |some z=>match TV.Vu z with
   |some z=>Yv z
   |none=>none
  |none=>none
 |none=>none
def Zl(t:TypeId)(s:aS X.Γ)(m k:PV X.Γ)(ok:Bool)(an:PT X.Γ)(c:PE X.Γ->PI->PT X.Γ->OT ρ):OT ρ:=
 match P.underlying t,qg k,a5G X s.heap m with
 |some (.map kt e),some tk,some es=>match an with
  |.a (.call v _) r=>.o (qp X P kt es tk v) (c (.val (if ok then .dI [v,.bool true]else v)) ⟨gY (RD X m),false,false,true⟩ r)
  |.a .calm r=>match Oh X P e with
   |some z=>.o (nP X P kt es tk) (c (.val (if ok then .dI [z,.bool false]else z)) ⟨gY (RD X m),false,false,true⟩ r)
   |none=>.bad
  |.a (.rd _) r=>match Oh X P e with
   |some z=>.o (nP X P kt es tk) (c (.val (if ok then .dI [z,.bool false]else z)) ⟨gY (RD X m),false,false,true⟩ r)
   |none=>.bad
  |an=>match tk.yB,vg X es with
   |some kv,some ks=>match an with
    |.a (.ix j) r=>match es[j]? with
     |some (_,v)=>.o (vk P kt kv ks=some (some j)) (c (.val (if ok then .dI [v,.bool true]else v)) ⟨gY (RD X m),false,false,true⟩ r)
     |none=>.bad
    |.a .no r=>match Oh X P e with
     |some z=>.o (vk P kt kv ks=some none) (c (.val (if ok then .dI [z,.bool false]else z)) ⟨gY (RD X m),false,false,true⟩ r)
     |none=>.bad
    |_=>.bad
   |_,_=>.bad
 |_,_,_=>.bad
def a5H(t:TypeId)(s:aS X.Γ)(m k v:PV X.Γ)(an:PT X.Γ)(c:aS X.Γ->PI->PT X.Γ->OT ρ):OT ρ:=
 match P.underlying t,qg k,m,qg v with
 |some (.map kt _),some tk,.map r,some _=>match s.heap[r]? with
  |some (.map es)=>match an with
   |.a .calm rest=>.o (∃kv,tk.yB=some kv∧aB P (Instr.checkKey false 10000 kt kv)=some ()) (.o (nP X P kt es tk) (c { s with heap:=s.heap.set r (.map (es++[(k,v)])) } ⟨pz (.h r),false,false,true⟩ rest))
   |.a (.rd _) rest=>.o (∃kv,tk.yB=some kv∧aB P (Instr.checkKey false 10000 kt kv)=some ()) (.o (nP X P kt es tk) (c { s with heap:=s.heap.set r (.map (es++[(k,v)])) } ⟨pz (.h r),false,false,true⟩ rest))
   |.a (.call _ _) rest=>.o (ahO X P kt es tk k v) (c s ⟨pz (.h r),false,false,true⟩ rest)
   |an=>match tk.yB,vg X es with
    |some kv,some ks=>match an with
     |.a (.ix j) rest=>match es[j]?,ks[j]? with
      |some _,some old=>match old.yB with
       |some ov=>.o (aB P (Instr.checkKey false 10000 kt kv)=some ()) (.o (vk P kt kv ks=some (some j)) (.o (Instr.sameBits 10000 ov kv=true) (c { s with heap:=s.heap.set r (.map (es.set j (k,v))) } ⟨pz (.h r),false,false,true⟩ rest)))
       |none=>.bad
      |_,_=>.bad
     |.a .no rest=>.o (aB P (Instr.checkKey false 10000 kt kv)=some ()) (.o (vk P kt kv ks=some none) (c { s with heap:=s.heap.set r (.map (es++[(k,v)])) } ⟨pz (.h r),false,false,true⟩ rest))
     |_=>.bad
    |_,_=>.bad
  |_=>.bad
 |_,_,_,_=>.bad
def a5I(kt:TypeId)(es:List (PV X.Γ×PV X.Γ))(tk:TV)(k v:PV X.Γ)(j:Nat):Prop:=∃kv ks old ov,tk.yB=some kv∧aB P (Instr.checkKey false 10000 kt kv)=some ()∧vg X es=some ks∧vk P kt kv ks=some (some j)∧es[j]? = some (k,v)∧ks[j]? = some old∧old.yB=some ov∧Instr.sameBits 10000 ov kv=true
def ae4(kt:TypeId)(es:List (PV X.Γ×PV X.Γ))(tk:TV)(j:Nat):Prop:=∃kv ks,tk.yB=some kv∧vg X es=some ks∧vk P kt kv ks=some (some j)
def J3{Γ:Nat->Type}(es:List (PV Γ×PV Γ))(j:Nat)(v:PV Γ):List (PV Γ×PV Γ):=es.modify j fun e=>(e.1,v)
def a5J(t:TypeId)(s:aS X.Γ)(m k:PV X.Γ)(an:PT X.Γ)(c:PE X.Γ->aS X.Γ->PI->PT X.Γ->OT ρ):OT ρ:=
 match P.underlying t,qg k,m with
 |some (.map kt e),some tk,.map r=>match s.heap[r]? with
  |some (.map es)=>match an with
   |.a (.call v _) (.a (.ix j) rest)=>match v with
    |.int a x=>.o (a5I X P kt es tk k (.int a x) j) (c (.ent r j (.int a x)) s ⟨pz (.h r),false,false,true⟩ rest)
    |_=>.bad
   |.a .calm rest=>match Oh X P e with
    |some (.int a x)=>.o (∃kv,tk.yB=some kv∧aB P (Instr.checkKey false 10000 kt kv)=some ()) (.o (nP X P kt es tk) (.o (ae4 X P kt (es++[(k,.int a x)]) tk es.length) (c (.ent r es.length (.int a x)) { s with heap:=s.heap.set r (.map (es++[(k,.int a x)])) } ⟨pz (.h r),false,false,true⟩ rest)))
    |_=>.bad
   |_=>.bad
  |_=>.bad
 |_,_,_=>.bad
def a5K(s:aS X.Γ)(m:PV X.Γ)(e:PE X.Γ)(v:PV X.Γ)(c:aS X.Γ->PI->OT ρ):OT ρ:=
 match m,e,qg v with
 |.map r,.Es r' j,some _=>if r=r' then match s.heap[r]? with
  |some (.map es)=>.o (j<es.length) (c { s with heap:=s.heap.set r (.map (J3 es j v)) } ⟨pz (.h r),false,false,true⟩)
  |_=>.bad
  else .bad
 |_,_,_=>.bad
abbrev a2N(Γ:Nat->Type):=PV Γ->List (PV Γ)->List (PB Γ)->PV Γ->List (PB Γ)->Prop
def a5L(RF:a2N X.Γ)(s:aS X.Γ)(fv:PV X.Γ)(xs:List (PV X.Γ))(an:PT X.Γ)(k:PE X.Γ->aS X.Γ->PI->PT X.Γ->OT ρ):OT ρ:=
 match an with
 |.a (.call v H) r=>.o (RF fv xs s.heap v H) (k (.val v) { s with heap:=H } ⟨⟨true,[],[]⟩,true,false,true⟩ r)
 |.a (.fr ks v H) r=>match decide ks.Nodup&&IZ (H.drop ks.length),CS s.heap ks with
  |true,some Hp=>match nO (wL ks) Hp,fH (wL ks) fv,fH.oW (wL ks) xs with
   |some Hs,some fv1,some xs1=>match fH (bk ks s.heap.length) v,nO (bk ks s.heap.length) H with
    |some v1,some H1=>.o (RF fv1 xs1 Hs v H) (k (.val v1) { s with heap:=putAt ks H1 s.heap++H1.drop ks.length } ⟨⟨true,[],ks.map .h⟩,false,false,true⟩ r)
    |_,_=>.bad
   |_,_,_=>.bad
  |_,_=>.bad
 |.a (.Qm ks rs v H) r=>match decide ks.Nodup&&IZ (H.drop ks.length),CS s.heap ks with
  |true,some Hp=>match nO (wL ks) Hp,fH (wL ks) fv,fH.oW (wL ks) xs with
   |some Hs,some fv1,some xs1=>match fH (bk ks s.heap.length) v,nO (bk ks s.heap.length) H,roB rs Hs H with
    |some v1,some H1,some (Hs',H')=>.o (RF fv1 xs1 Hs' v H') (k (.val v1) { s with heap:=putAt ks H1 s.heap++H1.drop ks.length } ⟨⟨true,[],(a2M rs 0 ks).map .h⟩,false,false,true⟩ r)
    |_,_,_=>.bad
   |_,_,_=>.bad
  |_,_=>.bad
 |an=>match fv with
  |.fn f first cap=>match views s.heap (first++xs++cap)with
   |some vs=>match fJ f vs with
    |some (v,ext,ps)=>match qX X s.heap.length ext with
     |some ext'=>owe ps (k (.val (shift s.heap.length v)) { s with heap:=(if xH v||ext.any (hasB X)then aX (kU.kD (first++xs++cap)) s.heap else s.heap)++ext' } ⟨⟨true,[],[]⟩,false,false,true⟩ an)
     |none=>.bad
    |none=>.bad
   |none=>.bad
  |_=>.bad
def ae5(RF:a2N X.Γ)(site:Nat->Bool)(s:aS X.Γ)(o:Oper)(an:PT X.Γ)(k:PE X.Γ->aS X.Γ->PI->PT X.Γ->OT ρ):OT ρ:=
 match o.op with
 |.move x|.assign x=>match FD s.env x with
  |some v=>k v s xI an
  |none=>.bad
 |.pick c a b=>match a0U s.env c with
  |some u=>byB X u an fun t an=>match FD s.env (if t then a else b)with
   |some v=>k v (s.BF c t) xI an
   |none=>.bad
  |none=>.bad
 |.alloc e=>match Rz P e with
  |some z=>match DX (site (o.dst.getD 0)) s z with
   |(v,s)=>k v s xI an
  |none=>.bad
 |.box _ x=>match zQ s.env x with
  |some v=>if v.cells.all Zd then(match DX (site (o.dst.getD 0)) s v.cells with
   |(v,s)=>k v s xI an)else .bad
  |none=>.bad
 |.build t ps=>match a2J s.env ps.toList with
  |some ps=>match Zf P t ps with
   |some v=>k (.val v) s xI an
   |none=>.bad
  |none=>.bad
 |.buildSlice t len ps=>match a2J s.env ps.toList with
  |some ps=>match an with
   |.a (.Qm [] _ _ _) r=>match yc X P t len s.heap ps true with
    |some (v,H)=>k (.val v) { s with heap:=H } xI r
    |none=>.bad
   |an=>match yc X P t len s.heap ps false with
    |some (v,H)=>k (.val v) { s with heap:=H } xI an
    |none=>.bad
  |none=>.bad
 |.load t a=>match FD s.env a with
  |some a=>match Af X P t s a with
   |some (v,i)=>k (.val v) s ⟨i,false,false,!Uj a⟩ an
   |none=>.bad
  |none=>.bad
 |.store t a x=>match FD s.env a,zQ s.env x with
  |some a,some v=>match Ue X P t s a v with
   |some (s,i)=>k .undef s ⟨i,false,false,!Uj a⟩ an
   |none=>.bad
  |_,_=>.bad
 |.nilCheck x=>match FD s.env x with
  |some (.loc a b)=>k (.loc a b) s xI an
  |some (.val (.ptr a b c))=>match s.heap[a]? with
   |some (.cells _)=>k (.val (.ptr a b c)) s xI an
   |some (.aC _)=>k (.val (.ptr a b c)) s xI an
   |_=>.bad
  |some (.val (.row a b c))=>match s.heap[a]? with
   |some (.list _ _ _ _)=>k (.val (.row a b c)) s xI an
   |_=>.bad
  |some (.val (.el a b c))=>k (.val (.el a b c)) s xI an
  |some (.val (.fn a b c))=>k (.val (.fn a b c)) s xI an
  |_=>.bad
 |.binOp op t x y _=>match zQ s.env x,zQ s.env y with
  |some a,some b=>if anw op then(match ae2 op a b with
    |some (v,ps)=>owe ps (k (.val v) s xI an)
    |none=>.bad)
   else match Ug X P op t s.heap a b with
   |some (v,q)=>.o q (k (.val v) s xI an)
   |none=>if ae3 a||Zk a then(match an with
    |.a (.rd w) r=>match Yv w,qg a,qg b with
     |some v,some ta,some tb=>.o (sF P op t x y ta tb=some w) (k (.val v) s xI r)
     |_,_,_=>.bad
    |_=>.bad)
   else match ae1 X P op t x y a b with
    |some v=>k (.val v) s xI an
    |none=>.bad
  |_,_=>.bad
 |.unOp op _ x=>match zQ s.env x with
  |some a=>match pun X P op a with
   |some v=>k (.val v) s xI an
   |none=>.bad
  |none=>.bad
 |.convert src dst x=>match zQ s.env x with
  |some a=>if Zk a then(match an with
    |.a (.rd w) r=>match Yv w,qg a with
     |some v,some ta=>.o (QC P src dst ta=some w) (k (.val v) s xI r)
     |_,_=>.bad
    |_=>.bad)
   else match a5A X P src dst a with
    |some v=>k (.val v) s xI an
    |none=>.bad
  |none=>.bad
 |.makeFunc (.func f) first cap=>match Ze s.env first.toList,Ze s.env cap.toList with
  |some a,some b=>k (.val (.fn f a b)) s xI an
  |_,_=>.bad
 |.makeMap t r=>match Oa s.env r,P.underlying t with
  |some none,_=>k (.val (.map s.heap.length)) { s with heap:=s.heap++[.map []] } xI an
  |some (some (.int _ _)),some (.map _ _)=>k (.val (.map s.heap.length)) { s with heap:=s.heap++[.map []] } xI an
  |_,_=>.bad
 |.makeSlice t l c=>match zQ s.env l,zQ s.env c with
  |some l,some c=>match FK X P t s.heap l c with
   |some (v,H,ps)=>owe ps (k (.val v) { s with heap:=H } xI an)
   |none=>.bad
  |_,_=>.bad
 |.slice t x lo hi mx=>match FD s.env x,Oa s.env lo,Oa s.env hi,Oa s.env mx with
  |some x,some lo,some hi,some mx=>match P.underlying t with
   |some (.array _ _)=>match an with
    |.a .no r=>match mx,FM X P t s.heap x lo hi with
     |none,some v=>k (.val v) s xI r
     |_,_=>.bad
    |an=>match IX X P t s.heap x lo hi mx with
     |some (v,H,ps)=>owe ps (k (.val v) { s with heap:=H } xI an)
     |none=>.bad
   |_=>match x with
    |.val (.str b)=>(match an with
     |.a (.rd w) r=>match Yv w,(match lo with|none=>some none|some v=>(qg v).map some),(match hi with|none=>some none|some v=>(qg v).map some)with
      |some v,some tl,some th=>if mx.isNone then .o (qP P t (.str b) tl th none=some w) (k (.val v) s xI r)else .bad
      |_,_,_=>.bad
     |_=>.bad)
    |.val x=>match Zh X P t s.heap x lo hi mx with
     |some (v,ps)=>owe ps (k (.val v) s xI an)
     |none=>.bad
    |_=>.bad
  |_,_,_,_=>.bad
 |.fieldAddr t x f=>match FD s.env x,Gi P t f with
  |some a,some n=>match GV X s n a with
   |some v=>k v s xI an
   |none=>.bad
  |_,_=>.bad
 |.field t x f=>match zQ s.env x with
  |some a=>match Zi X P t a f with
   |some v=>k (.val v) s xI an
   |none=>.bad
  |none=>.bad
 |.indexAddr t x i=>match FD s.env x,zQ s.env i with
  |some a,some i=>match FI X P t s a i with
   |some (v,ps)=>owe ps (k v s xI an)
   |none=>.bad
  |_,_=>.bad
 |.index t x i=>match zQ s.env x,zQ s.env i with
  |some a,some i=>if Zk a then(match an with
    |.a (.rd w) r=>match Yv w,qg a,qg i with
     |some v,some ta,some ti=>.o (Iz P t ta ti=some w) (k (.val v) s xI r)
     |_,_,_=>.bad
    |_=>.bad)
   else match Zj X P t a i with
    |some v=>k (.val v) s xI an
    |none=>.bad
  |_,_=>.bad
 |.lookup t m i ok=>match zQ s.env m,zQ s.env i with
  |some m,some i=>Zl X P t s m i ok an fun v q an=>k v s q an
  |_,_=>.bad
 |.mapUpdate t m i x|.insert t m i x=>match zQ s.env m,zQ s.env i,zQ s.env x with
  |some m,some i,some v=>a5H X P t s m i v an fun s q an=>k .undef s q an
  |_,_,_=>.bad
 |.mapEntry t m i=>match zQ s.env m,zQ s.env i with
  |some m,some i=>a5J X P t s m i an k
  |_,_=>.bad
 |.entryStore _ m e x=>match zQ s.env m,FD s.env e,zQ s.env x with
  |some m,some e,some v=>a5K X s m e v fun s q=>k .undef s q an
  |_,_,_=>.bad
 |.extract t i=>match FD s.env t with
  |some (.val (.dI vs))=>match vs[i]? with
   |some v=>k (.val v) s xI an
   |none=>.bad
  |some (.ent r j v)=>match i with
   | 0=>k (.val v) s xI an
   | 1=>k (.Es r j) s xI an
   |_=>.bad
  |_=>.bad
 |.call c=>match Ze s.env c.args.toList with
  |some az=>match c.callee with
   |.builtin .len=>match az with
    | [x]=>match ae0 X P c.argTypes s.heap x with
     |some (v,i)=>k (.val v) s ⟨i,false,false,true⟩ an
     |none=>.bad
    |_=>.bad
   |.builtin .append=>match az with
    | [d,x]=>match Uf X P c.argTypes s.heap d x with
     |some (v,H,i,ps)=>owe ps (k (.val v) { s with heap:=H } ⟨i,false,false,true⟩ an)
     |none=>.bad
    |_=>.bad
   |.builtin .copy=>match az with
    | [d,x]=>match a5z X P c.argTypes s.heap d x with
     |some (v,H,i)=>k (.val v) { s with heap:=H } ⟨i,false,false,true⟩ an
     |none=>.bad
    |_=>.bad
   |.builtin .min=>match LY X P false c.argTypes o.type az with
    |some v=>k (.val v) s xI an
    |none=>.bad
   |.builtin .max=>match LY X P true c.argTypes o.type az with
    |some v=>k (.val v) s xI an
    |none=>.bad
   |.value f=>match zQ s.env f with
    |some fv=>a5L X fJ RF s fv az an k
    |none=>.bad
   |_=>.bad
  |none=>.bad
 |.range t x=>match zQ s.env x,P.underlying t with
  |some (.map r),some (.map _ _)=>match Ku X s.heap r with
   |some es=>k (.val (.iter s.heap.length)) { s with heap:=s.heap++[.cZ r es.length []] } ⟨gY [.h r],false,false,true⟩ an
   |_=>.bad
  |_,_=>.bad
 |.entry x=>match zQ s.env x with
  |some (.iter b)=>match s.heap[b]? with
   |some (.cZ r n (i::_))=>match Ku X s.heap r with
    |some es=>match an with
     |.a (.call (.dI [kk,vv]) _) rest=>.o (es.length=n∧es[i]? = some (kk,vv)) (k (.val (.dI [kk,vv])) s ⟨gY [.h b,.h r],false,false,true⟩ rest)
     |an=>if es.length=n then(match es[i]? with
      |some e=>k (.val (.dI [e.1,e.2])) s ⟨gY [.h b,.h r],false,false,true⟩ an
      |none=>.bad)else .bad
    |_=>.bad
   |_=>.bad
  |_=>.bad
 |_=>.bad
def Zm(ops:Array Oper)(s:aS X.Γ)(o:Oper)(an:PT X.Γ)(k:Bool->aS X.Γ->PT X.Γ->OT ρ):OT ρ:=
 match o.guard with
 |none=>k true s an
 |some (j,want)=>match(ops[j]?).bind (·.dst)with
  |some d=>match ET d s.env with
   |some (.val b)=>byB X b an fun t an=>k (t==want) (s.BF (.tmp d) t) an
   |some .undef=>k false s an
   |_=>.bad
  |none=>.bad
def Zn(a b:PI):Bool:=
 (a.i.ws.all fun k=>!(b.i.all&&k.isH)&&!b.i.ts.contains k&&!b.i.ws.contains k&&!(b.wall&&k.isH)) &&
 (!a.wall||(!b.i.all&&!b.wall&&b.i.ts.all (fun k=>!k.isH)&&b.i.ws.all (fun k=>!k.isH)))
def a0W(a b:PI):Bool:=Zn a b&&Zn b a
def Uk(xC:List PI):List (Nat×Nat)->Bool
 | []=>true
 |(i,j)::r=>(match xC[i]?,xC[j]? with
  |some a,some b=>a0W a b&&(!a.hp||!b.hp||!((xC.drop i).take (j-i)).any (·.mv))
  |_,_=>false)&&Uk xC r
def WC(RF:a2N X.Γ)(site:Nat->Bool)(nt:Nat)(ops:Array Oper):List Oper->aS X.Γ->PT X.Γ->(aS X.Γ->List PI->PT X.Γ->OT ρ)->OT ρ
 | [],s,an,k=>k s [] an
 |o::os,s,an,k=>if !Nb nt o then .bad else Zm X ops s o an fun w s an=>match w with
  |true=>ae5 X P fJ RF site s o an fun v s1 i an=>WC RF site nt ops os (s1.put o.dst v) an fun s' is an=>k s' (⟨i.i,i.wall,!zl s.heap s1.heap,i.hp⟩::is) an
  |false=>WC RF site nt ops os (s.put o.dst .undef) an fun s' is an=>k s' (xI::is) an
def Ul:List (Nat×PE X.Γ)->Nat
 | []=>0
 |(_,.loc k _)::r=>max (k+1) (Ul r)
 |_::r=>Ul r
def gQ(live:List Nat)(s:aS X.Γ):aS X.Γ:=
 let env:=jd live s.env
 { s with env:=env,loc:=s.loc.take (Ul X env) }
def Um(step:aS X.Γ->PT X.Γ->(Ex->aS X.Γ->PT X.Γ->OT ρ)->OT ρ):Nat->aS X.Γ->PT X.Γ->(Ex->aS X.Γ->PT X.Γ->OT ρ)->OT ρ
 | 0,_,_,_=>.bad
 |m+1,s,an,k=>step s an fun e s an=>match e with
  |.norm=>Um step m s an k
  |e=>k e s an
abbrev a0X(Γ:Nat->Type):=Code->aS Γ->Ex->aS Γ->Prop
def yI(lo:a0X X.Γ)(B:Nat)(c:Code)(s:aS X.Γ)(k:Ex->aS X.Γ->PT X.Γ->OT ρ):PT X.Γ->OT ρ
 |.a (.loop e s') r=>.o (lo c s e s') (k e s' r)
 |.a (.lg gs e s') r=>match lC B gs s with
  |some s0=>.o (lo c s0 e s') (k e s' r)
  |none=>.bad
 |.z c' a b=>.br c' (yI lo B c s k a) (yI lo B c s k b)
 |_=>.bad
def jK(RF:a2N X.Γ)(lo:a0X X.Γ)(B:Nat)(L:Nat)(f:Nat)(gW:Bool)(nt:Nat):Code->aS X.Γ->PT X.Γ->(Ex->aS X.Γ->PT X.Γ->OT ρ)->OT ρ
 |.skip,s,an,k=>k .norm s an
 |.label _,s,an,k=>k .norm s an
 |.region id ops draw,s,an,k=>WC X P fJ RF (fun d=>gW||T.TM f d) nt ops ops.toList s an fun s' xC an=>
  match draw with
  |false=>k .norm { s' with env:=jd (T.iy f id) s'.env } an
  |true=>match an with
   |.a .calm r=>if xC.all (fun i=>i.i.ws.isEmpty&&!i.wall)then .o (nK ops.toList=true) (k .norm { s' with env:=jd (T.iy f id) s'.env } r)else .bad
   |an=>if nK ops.toList&&Uk xC (mW ops.toList)then k .norm { s' with env:=jd (T.iy f id) s'.env } an else .bad
 |.seq a b,s,an,k=>jK RF lo B L f gW nt a s an fun e s an=>match e with
  |.norm=>jK RF lo B L f gW nt b s an k
  |e=>k e s an
 |.cond c a b,s,an,k=>match a0U s.env c with
  |some u=>byB X u an fun t an=>match t with
   |true=>jK RF lo B L f gW nt a (s.BF c true) an k
   |false=>jK RF lo B L f gW nt b (s.BF c false) an k
  |none=>.bad
 |.block id b,s,an,k=>jK RF lo B L f gW nt b s an fun e s an=>match e with
  |.exit i=>k (if i=id then .norm else .exit i) s an
  |e=>k e s an
 |.scope b,s,an,k=>jK RF lo B L f gW nt b s an k
 |.loop b,s,an,k=>match an with
  |.l m r=>.o (m<=L) (Um X (fun s an k=>jK RF lo B L f gW nt b (gQ X (T.eH f (dV b)) s) an k) m s r k)
  |an=>yI X lo B (.loop b) s k an
 |.exit id,s,an,k=>k (.exit id) s an
 |.ret,s,an,k=>k .ret s an
 |.rangeFunc g ps uJ body,s,an,k=>yI X lo B (.rangeFunc g ps uJ body) s k an
 |_,_,_,_=>.bad
def ahR(s:aS X.Γ):ResultVar->Option (PV X.Γ)
 |.tmp t=>match ET t s.env with
  |some (.val v)=>some (a0T v)
  |_=>none
 |.cell a t=>match ET a s.env with
  |some a=>(Af X P t s a).map (·.1)
  |none=>none
def EU(s:aS X.Γ):List ResultVar->Option (List (PV X.Γ))
 | []=>some []
 |r::rs=>match ahR X P s r,EU s rs with
  |some v,some vs=>some (v::vs)
  |_,_=>none
def Zo:List (PV X.Γ)->PV X.Γ
 | [v]=>v
 |vs=>.dI vs
def kZ:Nat->List (PV X.Γ)->List (Nat×PE X.Γ)
 |_,[]=>[]
 |k,v::vs=>(k,.val v)::kZ (k+1) vs
def CU(RF:a2N X.Γ)(lo:a0X X.Γ)(L:Nat)(f:Nat)(args:List (PV X.Γ))(H:List (PB X.Γ))(an:PT X.Γ):OT (PV X.Γ×List (PB X.Γ)):=
 match(if(T.exts.contains f||T.dem.contains f)=true then none else TL P f)with
 |some t=>jK X P T fJ RF lo H.length L f false t.nt t.body ⟨kZ X 0 args,[],H⟩ an fun e s an=>match e,an with
  |.exit _,_=>.bad
  |_,.n=>match EU X P s t.results with
   |some vs=>.ret (Zo X vs,s.heap)
   |none=>.bad
  |_,_=>.bad
 |none=>.bad
end
inductive MB where
 |fU (b:Nat)
 |jl (b:Nat)
 |dB (x:TV)
 |gone
def MB.own:MB->Option Nat
 |.fU b=>some b
 |.dB (.slc b _ len _ _ _)=>if len=0 then none else some b
 |_=>none
def bn(m:List MB):List Nat:=m.filterMap MB.own
def bf{Γ:Nat->Type}:PV Γ->Option Nat
 |.ptr b _ _=>some b
 |.slc b _ _ _ _ _=>some b
 |.own b=>some b
 |.win b _ _=>some b
 |.map b=>some b
 |.iter b=>some b
 |.kP b=>some b
 |.row b _ _=>some b
 |_=>none
def roV{Γ:Nat->Type}(c:Nat):PV Γ->Option TV
 |.ptr _ off lim=>some (.ptr c off lim)
 |.slc _ off len cap sz ex=>some (.slc c off len cap sz ex)
 |.map _=>some (.map c)
 |.iter _=>some (.iter c)
 |.kP _=>some (.kP c)
 |_=>none
inductive CV{Γ:Nat->Type}(v:PV Γ)(x:TV):Option MB->Prop where
 |g:CV v x (some .gone)
 |r (c):roV c v=some x->CV v x (some (.jl c))
theorem CV.of{Γ:Nat->Type}{v:PV Γ}{x:TV}{o:Option MB}(e:o=some .gone):CV v x o:=by subst e;exact .g
theorem CV.as{Γ:Nat->Type}{v w:PV Γ}{x:TV}{o:Option MB}(h:CV v x o)(e:∀c,roV c w=roV c v):CV w x o:=by
 cases h with
 |g=>exact .g
 |r c h=>exact .r c ((e c).trans h)
theorem CV.ofR{Γ:Nat->Type}{v:PV Γ}{x:TV}{o:Option MB}{c:Nat}(e:o=some (.jl c))(h:roV c v=some x):CV v x o:=by subst e;exact .r c h
section
variable (X:kQ) (P:Program)
inductive VR(A:Nat->Prop)(m:List MB)(h:List HB):PV X.Γ->TV->Prop where
 |bool (b):VR A m h (.bool b) (.bool b)
 |lit (b):VR A m h (.lit b) (.bool b)
 |int (k n):VR A m h (.int k n) (.int k n)
 |str (s):VR A m h (.str s) (.str s)
 |nil (k):VR A m h (.nil k) (.nil k)
 |ptr {b c off lim}:m[b]? = some (.fU c)->VR A m h (.ptr b off lim) (.ptr c off lim)
 |slc {b c off len cap sz ex}:m[b]? = some (.fU c)->VR A m h (.slc b off len cap sz ex) (.slc c off len cap sz ex)
 |own {i x}:m[i]? = some (.dB x)->iR x=true->VR A m h (.own i) x
 |win {i o n c off len cap cap' sz ex ex'}:m[i]? = some (.dB (.slc c off len cap sz ex))->o+n<=len->n<=cap'->(n=0∨o+cap'=cap)->VR A m h (.win i o n) (.slc c (off+o*sz) n cap' sz ex')
 |Ag {i}:m[i]? = some (.dB (.nil .slc))->VR A m h (.win i 0 0) (.nil .slc)
 |map {r c}:m[r]? = some (.fU c)->VR A m h (.map r) (.map c)
 |iter {r c}:m[r]? = some (.fU c)->VR A m h (.iter r) (.iter c)
 |fn {f a a' c c'}:a.length=a'.length->(∀(i:Nat) x y,a[i]? = some x->a'[i]? = some y->VR A m h x y)->c.length=c'.length->(∀(i:Nat) x y,c[i]? = some x->c'[i]? = some y->VR A m h x y)->VR A m h (.fn f a c) (.fn f a' c')
 |kP {l c}:m[l]? = some (.fU c)->VR A m h (.kP l) (.kP c)
 |agg {cs cs'}:cs.length=cs'.length->(∀(i:Nat) x y,cs[i]? = some x->cs'[i]? = some y->VR A m h x y)->VR A m h (.agg cs) (.agg cs')
 |dI {cs cs'}:cs.length=cs'.length->(∀(i:Nat) x y,cs[i]? = some x->cs'[i]? = some y->VR A m h x y)->VR A m h (.dI cs) (.dI cs')
 |oM {t fu}:VR A m h (.dB t [] fu) (.nil .slc)
 |dB {t l fu b off cap sz ex cs}:A b->aV h b=some cs->(l≠[]->mD h b (off+cap*sz)=some cs)->dD P t=some sz->0<sz->off+l.length*sz<=cs.length->l.length<=cap->(fu=true->ex=true∧cap=l.length)->(∀(j:Nat) a,l[j]? = some a->(X.enc t a).length=sz) ->
   (∀(j:Nat) a (i:Nat) c v,l[j]? = some a->(X.enc t a)[i]? = some c->cs[off+j*sz+i]? = some v->VR A m h c v)->VR A m h (.dB t l fu) (.slc b off l.length cap sz ex)
 |el {t a off b o sz lim cs}:A b->mD h b lim=some cs->o+sz<=lim->o+sz<=cs.length->(X.enc t a).length=sz->off<=sz ->
   (∀(i:Nat) c v,(X.enc t a)[i]? = some c->cs[o+i]? = some v->VR A m h c v)->VR A m h (.el t a off) (.ptr b (o+off) lim)
 |row {i j off c len cap sz ex}:m[i]? = some (.dB (.slc c 0 len cap sz ex))->j<len->off<=sz->VR A m h (.row i j off) (.ptr c (j*sz+off) (cap*sz))
 |gone {v i x}:bf v=some i->CV v x m[i]?->iR x=true->VR A m h v x
def bU(A:Nat->Prop)(m:List MB)(h:List HB)(a:List (PV X.Γ))(b:List TV):Prop:=a.length=b.length∧∀(i:Nat) x y,a[i]? = some x->b[i]? = some y->VR X P A m h x y
def eu(A:Nat->Prop)(m:List MB)(h:List HB)(t:Nat)(l:List (X.Γ t))(cs:List TV)(off sz:Nat):Prop:=
 (∀(j:Nat) a,l[j]? = some a->(X.enc t a).length=sz)∧off+l.length*sz<=cs.length∧∀(j:Nat) a (i:Nat) c v,l[j]? = some a->(X.enc t a)[i]? = some c->cs[off+j*sz+i]? = some v->VR X P A m h c v
inductive LR(A:Nat->Prop)(m:List MB)(h:List HB)(k ex:Bool)(t:Nat):List (X.Γ t)->TV->Prop where
 |nil:LR A m h k ex t [] (.nil .slc)
 |emp {b off sz cs}:A b->aV h b=some cs->off<=cs.length->dD P t=some sz->0<sz->LR A m h k ex t [] (.slc b off 0 0 sz true)
 |some {l b sz e kk cs}:l≠[]->dD P t=some sz->0<sz->h[b]? = some (.cells kk cs)->kk≠.ro->(k=true->kk=.own)->(ex=true->e=true)->cs.length=l.length*sz->eu X P A m h t l cs 0 sz->LR A m h k ex t l (.slc b 0 l.length l.length sz e)
def Iy(A:Nat->Prop)(m:List MB)(h:List HB):PE X.Γ->EV->Prop
 |.val v,.val x=>VR X P A m h v x
 |.loc k o,.loc k' o'=>k=k'∧o=o'
 |.undef,.undef=>True
 |.ent r j v,.ent c j' x=>VR X P A m h (.map r) (.map c)∧j=j'∧qg v=some x
 |.Es r j,.Es c j'=>VR X P A m h (.map r) (.map c)∧j=j'
 |_,_=>False
inductive jR(A:Nat->Prop)(m:List MB)(h:List HB):List (Nat×PE X.Γ)->List (Nat×EV)->Prop where
 |nil:jR A m h [] []
 |cons {k v x r r'}:Iy X P A m h v x->jR A m h r r'->jR A m h ((k,v)::r) ((k,x)::r')
def BR(A:Nat->Prop)(m:List MB)(h:List HB):PB X.Γ->MB->Prop
 |.cells cs,.fU b=>∃cs',h[b]? = some (.cells .own cs')∧bU X P A m h cs cs'
 |.aC cs,.jl b=>b∉bn m∧∃cs',h[b]? = some (.cells .own cs')∧bU X P A m h cs cs'
 |.list k ex t l,.dB x=>LR X P A m h k ex t l x
 |.map es,.fU b=>∃fQ,h[b]? = some (.map fQ)∧es.length=fQ.length∧∀(i:Nat) x y,es[i]? = some x->fQ[i]? = some y->qg x.1=some y.1∧qg x.2=some y.2
 |.iE es,.jl b=>b∉bn m∧∃fQ,h[b]? = some (.map fQ)∧es.length=fQ.length∧∀(i:Nat) x y,es[i]? = some x->fQ[i]? = some y->qg x.1=some y.1∧qg x.2=some y.2
 |.ng cs,.fU b=>∃cs',h[b]? = some (.ng cs')∧Ud cs=some cs'
 |.mark,.fU b=>h[b]? = some .mark
 |.cZ r n seen,.fU b=>∃c,h[b]? = some (.cZ c n seen)∧(m[r]?).isSome=true∧∀c',(m[r]? = some (.fU c')∨m[r]? = some (.jl c'))->c'=c
 |.loop rd f nt env ps a c jH,.fU b=>∃env',h[b]? = some (.loop rd f nt env' ps a c jH)∧jR X P A m h env env'
 |.gone,.gone=>True
 |_,_=>False
def AA(A:Nat->Prop)(m:List MB):Nat->Prop:=fun b=>A b∧b∉bn m
structure HR(A:Nat->Prop)(m:List MB)(H:List (PB X.Γ))(h:List HB):Prop where
 len:m.length=H.length
 at_:∀(i:Nat) b,H[i]? = some b->∃mb,m[i]? = some mb∧BR X P (AA A m) m h b mb
 nodup:(bn m).Nodup
 up:∀b,h.length<=b->A b
 CW:∀b,b∈bn m->A b
end
structure Fr(m:List MB)(h:List HB)(m':List MB)(h':List HB):Prop where
 len:h.length<=h'.length
 same:∀b,b<h.length->b∉bn m->h'[b]? = h[b]?
 new:∀b,b∈bn m'->b∈bn m∨h.length<=b
 grow:∀b cs,aV h b=some cs->∃cs',aV h' b=some cs'∧cs.length<=cs'.length
def Up(m m':List MB):Prop:=∀(i:Nat) mb,m[i]? = some mb->m'[i]? = some mb∨m'[i]? = some .gone
theorem Fr.refl{m:List MB}{h:List HB}:Fr m h m h:=⟨a1b _,fun _ _ _=>rfl,fun _ hb=>.inl hb,fun _ cs hc=>⟨cs,hc,a1b _⟩⟩
theorem Up.refl{m:List MB}:Up m m:=fun _ _ h=>.inl h
theorem Fr.trans{m m' m'':List MB}{h h' h'':List HB}(a:Fr m h m' h')(b:Fr m' h' m'' h''):Fr m h m'' h'':=by
 refine⟨a4U a.len b.len,fun c hc hn=>?_,fun c hc=>?_,fun c cs hc=>?_⟩
 .rw[b.same c (by have:=a.len;omega) (fun hm=>?_),a.same c hc hn];rcases a.new c hm with h1|h1
  .exact hn h1
  omega
 .rcases b.new c hc with h1|h1
  .exact a.new c h1
  have:=a.len;exact .inr (by omega)
 obtain⟨cs',h1,h2⟩:=a.grow c cs hc;obtain⟨adX,h3,h4⟩:=b.grow c cs' h1;exact⟨adX,h3,by omega⟩
theorem Up.trans{m m' m'':List MB}(a:Up m m')(b:Up m' m''):Up m m'':=fun i mb hi=>by
 rcases a i mb hi with h|h
 .exact b i mb h
 .rcases b i _ h with h|h<;>exact .inr h
theorem gU{h:List HB}{b:Nat}{cs:List TV}(hc:aV h b=some cs):b<h.length:=by
 unfold aV at hc;split at hc
 .rename_i e;exact(a0c.1 e).1
 cases hc
theorem fK{h h':List HB}{b:Nat}(e:h'[b]? = h[b]?):aV h' b=aV h b:=by
 unfold aV;rw[e]
theorem yh{h h':List HB}{b lim:Nat}(e:h'[b]? = h[b]?):mD h' b lim=mD h b lim:=by
 unfold mD;rw[e]
theorem Ah{h:List HB}{b lim:Nat}{cs:List TV}(hc:mD h b lim=some cs):aV h b=some cs:=by
 obtain⟨k,h1,_⟩:=xQ hc;unfold aV;rw[h1]
theorem a2O{h:List HB}{b lim:Nat}{cs:List TV}(hc:mD h b lim=some cs):b<h.length:=gU (Ah hc)
theorem wM{h:List HB}{b lim:Nat}{k:BK}{cs:List TV}(hc:h[b]? = some (.cells k cs))(hl:lim=cs.length):mD h b lim=some cs:=by
 unfold mD;simp[hc,hl]
theorem WE{h:List HB}{b off lim:Nat}{cs new:List TV}(hc:h[b]? = some (.cells .own cs)):TI h b off lim new=(wo cs off new).map fun cs'=>h.set b (.cells .own cs'):=by
 unfold TI;simp[hc,zT]
theorem a0Y{h:List HB}{b off lim:Nat}{k k':BK}{cs new:List TV}(hc:h[b]? = some (.cells k cs))(hk:zT k true=some k')(hl:lim=cs.length):TI h b off lim new=(wo cs off new).map fun cs'=>h.set b (.cells k' cs'):=by
 unfold TI;simp[hc,hl,hk]
theorem J4{k:BK}(h:k≠.ro):∃k',zT k true=some k'∧k'≠.ro∧(k=.own->k'=.own):=by
 cases k<;>simp_all [zT]
theorem wP{h:List HB}{b lim:Nat}{k:BK}{cs:List TV}(hc:h[b]? = some (.cells k cs))(hl:k≠.last):mD h b lim=some cs:=by
 unfold mD;simp[hc,hl]
section
variable {X:kQ} {P:Program} {A:Nat->Prop} {m m':List MB} {h h':List HB}
theorem VR.step(hF:Fr m h m' h')(hU:Up m m'){v:PV X.Γ}{x:TV}(hv:VR X P (AA A m) m h v x):VR X P (AA A m') m' h' v x:=by
 have hA:∀b cs,AA A m b->aV h b=some cs->AA A m' b∧h'[b]? = h[b]?:=by
  intro b cs ha hc;have aQ:=gU hc;refine⟨⟨ha.1,fun hm=>?_⟩,hF.same b aQ ha.2⟩;rcases hF.new b hm with h1|h1
  .exact ha.2 h1
  omega
 induction hv with
 |bool=>exact .bool _
 |lit=>exact .lit _
 |int=>exact .int _ _
 |str=>exact .str _
 |nil=>exact .nil _
 |ptr e=>rcases hU _ _ e with e|e;exact .ptr e;exact .gone rfl (.of e) rfl
 |slc e=>rcases hU _ _ e with e|e;exact .slc e;exact .gone rfl (.of e) rfl
 |own e o=>rcases hU _ _ e with e|e;exact .own e o;exact .gone rfl (.of e) o
 |win e q q' q2=>rcases hU _ _ e with e|e;exact .win e q q' q2;exact .gone rfl (.of e) rfl
 |Ag e=>rcases hU _ _ e with e|e;exact .Ag e;exact .gone rfl (.of e) rfl
 |map e=>rcases hU _ _ e with e|e;exact .map e;exact .gone rfl (.of e) rfl
 |iter e=>rcases hU _ _ e with e|e;exact .iter e;exact .gone rfl (.of e) rfl
 |fn h1 _ h3 _ i2 i4=>exact .fn h1 i2 h3 i4
 |kP e=>rcases hU _ _ e with e|e;exact .kP e;exact .gone rfl (.of e) rfl
 |agg h1 _ i2=>exact .agg h1 i2
 |dI h1 _ i2=>exact .dI h1 i2
 |oM=>exact .oM
 |dB a c c2 s z o k f e _ ih=>obtain⟨a',c'⟩:=hA _ _ a c;exact .dB a' ((fK c').trans c) (fun hl=>(yh c').trans (c2 hl)) s z o k f e ih
 |el a c l o e q _ ih=>obtain⟨a',c'⟩:=hA _ _ a (Ah c);exact .el a' ((yh c').trans c) l o e q ih
 |row e j q=>rcases hU _ _ e with e|e;exact .row e j q;exact .gone rfl (.of e) rfl
 | @gone v i0 x i e o=>
  generalize hq:m[i0]? = q at e;cases e with
  |g=>rcases hU _ _ hq with e|e<;>exact .gone i (.of e) o
  |r c hv=>rcases hU _ _ hq with e|e;exact .gone i (.ofR e hv) o;exact .gone i (.of e) o
theorem bU.step(hF:Fr m h m' h')(hU:Up m m'){v:List (PV X.Γ)}{x:List TV}(hv:bU X P (AA A m) m h v x):bU X P (AA A m') m' h' v x:=
 ⟨hv.1,fun i a b ha hb=>(hv.2 i a b ha hb).step hF hU⟩
theorem eu.step(hF:Fr m h m' h')(hU:Up m m'){t:Nat}{l:List (X.Γ t)}{cs:List TV}{off sz:Nat}(hv:eu X P (AA A m) m h t l cs off sz):eu X P (AA A m') m' h' t l cs off sz:=
 ⟨hv.1,hv.2.1,fun j a i c v h1 h2 h3=>(hv.2.2 j a i c v h1 h2 h3).step hF hU⟩
theorem Iy.step(hF:Fr m h m' h')(hU:Up m m'){v:PE X.Γ}{x:EV}(hv:Iy X P (AA A m) m h v x):Iy X P (AA A m') m' h' v x:=by
 cases v<;>cases x<;>first|exact VR.step hF hU hv|exact hv|exact⟨VR.step hF hU hv.1,hv.2⟩
theorem jR.step(hF:Fr m h m' h')(hU:Up m m'){v:List (Nat×PE X.Γ)}{x:List (Nat×EV)}(hv:jR X P (AA A m) m h v x):jR X P (AA A m') m' h' v x:=by
 induction hv with
 |nil=>exact .nil
 |cons h1 _ ih=>exact .cons (h1.step hF hU) ih
theorem BR.step(hF:Fr m h m' h')(hU:Up m m'){b:PB X.Γ}{mb:MB}(hs:∀c,mb.own=some c->h'[c]? = h[c]?)(hb:BR X P (AA A m) m h b mb):BR X P (AA A m') m' h' b mb:=by
 cases b with
 |cells cs=>
  cases mb with
  |fU b=>obtain⟨cs',h1,h2⟩:=hb;exact⟨cs',by rw[hs b rfl,h1],h2.step hF hU⟩
  |_=>exact hb.elim
 |aC cs=>
  cases mb with
  |jl b=>
   obtain⟨h0,cs',h1,h2⟩:=hb;have aQ:=(a0c.1 h1).1;refine⟨fun hm=>?_,cs',by rw[hF.same _ aQ h0,h1],h2.step hF hU⟩;rcases hF.new _ hm with g|g
   .exact h0 g
   omega
  |_=>exact hb.elim
 |list k ex t l=>
  cases mb with
  |dB x=>
   cases(hb:LR X P (AA A m) m h k ex t l x)with
   |nil=>exact LR.nil
   |emp h0 h1 h2 h3 h4=>
    have aQ:=gU h1;refine LR.emp ⟨h0.1,fun hm=>?_⟩ (by rw[fK (hF.same _ aQ h0.2),h1]) h2 h3 h4;rcases hF.new _ hm with g|g
    .exact h0.2 g
    omega
   |some h1 h2 h3 h4 h5 h6 h7 h8 h9=>
    have ho:=hs _ (by simp only[MB.own];rw[a0o (by simpa using h1)]);exact LR.some h1 h2 h3 (by rw[ho,h4]) h5 h6 h7 h8 (h9.step hF hU)
  |_=>exact hb.elim
 |map es=>
  cases mb with
  |fU b=>obtain⟨fQ,h1,h2,h3⟩:=hb;exact⟨fQ,by rw[hs b rfl,h1],h2,h3⟩
  |_=>exact hb.elim
 |ng cs=>
  cases mb with
  |fU b=>obtain⟨fQ,h1,h2⟩:=hb;exact⟨fQ,by rw[hs b rfl,h1],h2⟩
  |_=>exact hb.elim
 |iE es=>
  cases mb with
  |jl b=>
   obtain⟨h0,fQ,h1,h2⟩:=hb;have aQ:=(a0c.1 h1).1;refine⟨fun hm=>?_,fQ,by rw[hF.same _ aQ h0,h1],h2⟩;rcases hF.new _ hm with g|g
   .exact h0 g
   omega
  |_=>exact hb.elim
 |cZ r n seen=>
  cases mb with
  |fU b=>
   obtain⟨c,h1,h2,h3⟩:=hb;obtain⟨mb,h4⟩:=a5y.1 h2;refine⟨c,by rw[hs b rfl,h1],by rcases hU _ _ h4 with e|e<;>rw[e]<;>rfl,fun c' hc=>h3 c' ?_⟩;rcases hU _ _ h4 with e|e
   .rw[h4,<-e];exact hc
   rw[e]at hc;simp at hc
  |_=>exact hb.elim
 |mark=>
  cases mb with
  |fU b=>show h'[b]? = _;rw[hs b rfl];exact hb
  |_=>exact hb.elim
 |loop rd f nt env ps a c jH=>
  cases mb with
  |fU b=>obtain⟨e',h1,h2⟩:=hb;exact⟨e',by rw[hs b rfl,h1],h2.step hF hU⟩
  |_=>exact hb.elim
 |gone=>
  cases mb with
  |gone=>trivial
  |_=>exact hb.elim
theorem aZ{i:Nat}{mb:MB}{b:Nat}(hi:m[i]? = some mb)(ho:mb.own=some b):b∈bn m:=
 a6m.2 ⟨mb,a4u hi,ho⟩
theorem iU(hn:(bn m).Nodup):∀{i j:Nat} {a b:MB} {c:Nat},m[i]? = some a->m[j]? = some b->a.own=some c->b.own=some c->i=j:=by
 unfold bn at hn
 induction m with
 |nil=>intro i j a b c h;simp at h
 |cons x r ih=>
  intro i j a b c hi hj ha hb;have hr:(r.filterMap MB.own).Nodup:=by
   simp only[a8V]at hn;split at hn
   .exact hn
   exact(a4r.1 hn).2
  have hx:∀{k:Nat} {y:MB},r[k]? = some y->y.own=some c->x.own=some c->False:=by
   intro k y hk hy hxc;simp only[a8V,hxc]at hn;exact(a4r.1 hn).1 (a6m.2 ⟨y,a4u hk,hy⟩)
  cases i with
  |zero=>
   cases j with
   |zero=>rfl
   |succ j=>
    simp only[a2V,a05]at hi;subst hi;exact(hx (by simpa using hj) hb ha).elim
  |succ i=>
   cases j with
   |zero=>
    simp only[a2V,a05]at hj;subst hj;exact(hx (by simpa using hi) ha hb).elim
   |succ j=>
    have:=ih hr (i:=i) (j:=j) (by simpa using hi) (by simpa using hj) ha hb;omega
end
end Pv
