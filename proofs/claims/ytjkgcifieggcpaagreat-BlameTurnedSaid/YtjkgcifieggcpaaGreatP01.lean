/- Part 2 of a proof: closed runs of the given program, and the readings of its code that they use. -/
import Derived.Scope
import Derived.Maps.RangeRun
import Derived.Deep.Slices
import Derived.ChangeArms
import Derived.Carry
import Derived.Laws.StructEq
import Derived.Test.YtjkgcifieggcpaaGreatP00
set_option linter.unusedVariables false
set_option linter.unusedSimpArgs false
set_option linter.unusedSectionVars false
namespace Tw
open Go
structure fD (P:Program) (call:ay) (site:Nat->Bool) (nt:Nat) (ops:Array Oper) (M0:Mp) (h0:List HB) (w0:World) (S:Nat->St) (I:Nat->gy):Prop where
 base:lK M0 h0 w0
 step:∀ j o,ops[j]? = some o->lu P call site h0.length nt ops o (S j) (I j) (S (j+1))
 ok:∀ j,j<=ops.size->∃ M a w,Rel M0 h0 w0 nt M (S j) a w
 fac:∀ j o,ops[j]? = some o->∃ M w M' w' v,S (j+1)=St.put { S (j+1) with env:=(S j).env } o.dst v∧Ext M (S j).get w M' (S (j+1)).get w' (I j).ws
 stat:fF ops.toList=true
 calm:∀ x y a b,(x,y)∈gQ ops.toList->ops[x]? = some a->ops[y]? = some b->(∀ k∈(I x).ws,¬jw (I y) k)∧(∀ k∈(I y).ws,¬jw (I x) k)
theorem DX {P:Program} {call:ay} {site:Nat->Bool} {fl nt:Nat} {ops:Array Oper}:∀ (os:List Oper) (s s':St) (is:List gy),dN P call site fl nt ops os s=some (s',is) ->
  ∃ (S:Nat->St) (I:Nat->gy),S 0=s∧S os.length=s'∧(∀ j o,os[j]? = some o->lu P call site fl nt ops o (S j) (I j) (S (j+1)))∧∀ j,j<os.length->is[j]? = some (I j)
 | [],s,s',is,h=>by
  simp only[dN,Option.some.injEq,Prod.mk.injEq] at h;obtain⟨rfl,rfl⟩:=h;exact⟨fun _=>s,fun _=>aA,rfl,rfl,by simp,by simp⟩
 | o::os,s,s',is,h=>by
  obtain⟨i,s1,is',hS,hr,rfl⟩:=sZ h;obtain⟨S,I,e1,e2,e3,e4⟩:=DX os s1 s' is' hr;refine⟨fun j=>match j with | 0=>s | j+1=>S j,fun j=>match j with | 0=>i | j+1=>I j,rfl,e2,?_,?_⟩
  ·intro j o' ho;cases j with
   | zero=>simp at ho;subst ho;simp only[e1];exact hS
   | succ j=>exact e3 j o' (by simpa using ho)
  ·intro j hj;cases j with
   | zero=>rfl
   | succ j=>simpa using e4 j (by simpa using hj)
theorem U0 {P:Program} {call:ay} {site:Nat->Bool} {nt:Nat} {ops:Array Oper} {M0:Mp} {h0:List HB} {w0:World} (hC:aj P call) (hB:lK M0 h0 w0) {s s':St} {is:List gy} {M:Mp} {a:Act} {w:World}
  (h:dN P call site h0.length nt ops ops.toList s=some (s',is)) (hR:Rel M0 h0 w0 nt M s a w) (hs:fF ops.toList=true) (hd:lN is (eH ops.toList)=true) :
  ∃ S I,S 0=s∧S ops.size=s'∧fD P call site nt ops M0 h0 w0 S I:=by
 obtain⟨S,I,e1,e2,e3,e4⟩:=DX _ _ _ _ h;have e3':∀ j o,ops[j]? = some o->lu P call site h0.length nt ops o (S j) (I j) (S (j+1)):=fun j o ho=>e3 j o (by simpa using ho);have Ju:∀ j,j<=ops.size->∃ M a w,Rel M0 h0 w0 nt M (S j) a w:=by
  intro j
  induction j with
  | zero=>intro _;exact⟨M,a,w,by rw[e1];exact hR⟩
  | succ j ih=>
   intro hj;obtain⟨M1,a1,w1,nV⟩:=ih (by omega);have ho:ops[j]? = some ops[j]:=Array.getElem?_eq_getElem (by omega);obtain⟨x,w',jT⟩:=(yw hC nV (e3' j _ ho)).1;obtain⟨M',sD⟩:=DU hB nV (e3' j _ ho) jT;exact⟨M',_,w',sD⟩
 refine⟨S,I,e1,by simpa using e2,hB,e3',Ju,?_,hs,?_⟩
 ·intro j o ho;have hj:j<ops.size:=(Array.getElem?_eq_some_iff.1 ho).1;obtain⟨M1,a1,w1,nV⟩:=Ju j (by omega);obtain⟨x,w',v,M',he,hp⟩:=(yw hC nV (e3' j _ ho)).1;exact⟨M1,w1,M',w',v,he,hp.ext⟩
 ·intro x y a b hp ha hb;have hx:x<ops.size:=(Array.getElem?_eq_some_iff.1 ha).1;have hy:y<ops.size:=(Array.getElem?_eq_some_iff.1 hb).1;exact QE hd hp (by simpa using ha) (by simpa using hb) (e4 x (by simpa using hx)) (e4 y (by simpa using hy)) (e3' x a ha) (e3' y b hb)
def mX (M:Mp) (C:Ct):Mp:=fun k=>if (C k).isSome=true then M k else none
theorem bF {M:Mp} {C:Ct} {k:Key} {l:Lc} (h:mX M C k=some l):(C k).isSome=true∧M k=some l:=by
 unfold mX at h;split at h
 ·rename_i h1;exact⟨h1,h⟩
 cases h
theorem kU {M:Mp} {C:Ct} {k:Key} {l:Lc} (hc:(C k).isSome=true) (h:M k=some l):mX M C k=some l:=by simp[mX,hc,h]
theorem yD {M M':Mp} {C C':Ct} (hm:lG M M') (hc:∀ k,(C k).isSome=true->(C' k).isSome=true):lG (mX M C) (mX M' C'):=by
 intro k l h;obtain⟨h1,h2⟩:=bF h;obtain⟨l',h3,h4⟩:=hm k l h2;exact⟨l',kU (hc k h1) h3,h4⟩
theorem OQ {M:Mp} {C:Ct}:lG (mX M C) M:=fun k l h=>⟨l,(bF h).2,.refl l⟩
def Good (W D:Nat->Prop) (τ:Nat):Prop:=(∀ j,D j->W j->j<τ)∧(∀ j,j<τ->W j->D j)∧(τ=0∨W (τ-1))
def U1 (D:Nat->Prop) (i j:Nat):Prop:=(j<i∧¬D j)∨(i<j∧D j)
theorem Good.le {W D:Nat->Prop} {τ i:Nat} (h:Good W D τ) (hi:¬D i) (hn:∀ j,W j->¬U1 D i j):τ<=i∧∀ j,τ<=j->j<i->¬W j:=by
 obtain⟨h1,h2,h3⟩:=h;constructor
 ·refine Nat.le_of_not_lt fun aN=>?_;rcases h3 with rfl | h3
  ·omega
  have hd:=h2 (τ-1) (by omega) h3;have dZ:τ-1≠i:=fun e=>hi (e▸hd);exact hn _ h3 (.inr ⟨by omega,hd⟩)
 intro j hj hji hw;exact hn j hw (.inl ⟨hji,fun hd=>by have:=h1 j hd hw;omega⟩)
theorem Good.next {W D:Nat->Prop} {i:Nat} (hw:W i) (hn:∀ j,W j->¬U1 D i j):Good W (fun j=>D j∨j=i) (i+1):=by
 refine⟨fun j hd hj=>?_,fun j hj hwj=>?_,.inr (by simpa using hw)⟩
 ·rcases hd with hd | rfl
  ·refine Nat.lt_of_not_le fun h=>hn j hj (.inr ⟨by omega,hd⟩)
  omega
 by_cases he:j=i
 ·exact .inr he
 refine .inl (Classical.byContradiction fun hd=>hn j hwj (.inl ⟨by omega,hd⟩))
theorem Good.other {W D:Nat->Prop} {τ i:Nat} (h:Good W D τ) (hw:¬W i):Good W (fun j=>D j∨j=i) τ:=
 ⟨fun j hd hj=>hd.elim (fun h1=>h.1 j h1 hj) (fun e=>absurd (e▸hj) hw),fun j hj hwj=>.inl (h.2.1 j hj hwj),h.2.2⟩
section
variable {P:Program} {call:ay} {site:Nat->Bool} {nt:Nat} {ops:Array Oper} {M0:Mp} {h0:List HB} {w0:World} {S:Nat->St} {I:Nat->gy}
def Wk (ops:Array Oper) (S:Nat->St) (I:Nat->gy) (k:Key) (j:Nat):Prop:=∃ o,ops[j]? = some o∧(k∈(I j).ws∨((S j).get k=none∧((S (j+1)).get k).isSome=true))
def Wt (ops:Array Oper) (t j:Nat):Prop:=∃ o,ops[j]? = some o∧o.dst=some t
theorem fD.has (hZ:fD P call site nt ops M0 h0 w0 S I) {j:Nat} {o:Oper} (ho:ops[j]? = some o) {k:Key} (hk:((S j).get k).isSome=true):((S (j+1)).get k).isSome=true:=by
 obtain⟨M,w,M',w',v,he,hx⟩:=hZ.fac j o ho;exact hx.has k hk
theorem fD.wsub (hZ:fD P call site nt ops M0 h0 w0 S I) {j:Nat} {o:Oper} (ho:ops[j]? = some o) {k:Key} (hk:k∈(I j).ws):((S j).get k).isSome=true:=by
 obtain⟨M,w,M',w',v,he,hx⟩:=hZ.fac j o ho;exact hx.wsub k hk
theorem fD.iC (hZ:fD P call site nt ops M0 h0 w0 S I) {j:Nat} {o:Oper} (ho:ops[j]? = some o) {k:Key} (hn:¬Wk ops S I k j):(S (j+1)).get k=(S j).get k:=by
 obtain⟨M,w,M',w',v,he,hx⟩:=hZ.fac j o ho;cases hk:(S j).get k with
 | some b=>
  rw[hx.iC k (by simp[hk]) (fun h=>hn ⟨o,ho,.inl h⟩),hk]
 | none=>
  cases jH:(S (j+1)).get k with
  | none=>rfl
  | some b=>exact absurd ⟨o,ho,.inr ⟨hk,by simp[jH]⟩⟩ hn
theorem fD.mono (hZ:fD P call site nt ops M0 h0 w0 S I) {k:Key}:∀ {i j:Nat},i<=j->j<=ops.size->((S i).get k).isSome=true->((S j).get k).isSome=true:=by
 intro i j BN
 induction BN with
 | refl=>exact fun _ h=>h
 | step hle ih=>
  rename_i j;intro hj h;exact hZ.has (o:=ops[j]'(by simp at hj;omega)) (Array.getElem?_eq_getElem _) (ih (by simp at hj;omega) h)
theorem fD.const (hZ:fD P call site nt ops M0 h0 w0 S I) {k:Key}:∀ {i j:Nat},i<=j->j<=ops.size->(∀ x,i<=x->x<j->¬Wk ops S I k x)->(S j).get k=(S i).get k:=by
 intro i j BN
 induction BN with
 | refl=>exact fun _ _=>rfl
 | step hle ih=>
  rename_i j;intro hj h;simp only[Nat.succ_eq_add_one] at *;rw[hZ.iC (o:=ops[j]'(by omega)) (Array.getElem?_eq_getElem _) (h j hle (by omega))];exact ih (by omega) fun x h1 h2=>h x h1 (by omega)
theorem fD.Xl (hZ:fD P call site nt ops M0 h0 w0 S I) {j:Nat} {o:Oper} (ho:ops[j]? = some o) {t:Nat} (hn:¬Wt ops t j):aT t (S (j+1)).env=aT t (S j).env:=by
 obtain⟨M,w,M',w',v,he,hx⟩:=hZ.fac j o ho;rw[he,uX,if_neg (fun h=>hn ⟨o,ho,h⟩)]
theorem fD.U2 (hZ:fD P call site nt ops M0 h0 w0 S I) {t:Nat}:∀ {i j:Nat},i<=j->j<=ops.size->(∀ x,i<=x->x<j->¬Wt ops t x)->aT t (S j).env=aT t (S i).env:=by
 intro i j BN
 induction BN with
 | refl=>exact fun _ _=>rfl
 | step hle ih=>
  rename_i j;intro hj h;simp only[Nat.succ_eq_add_one] at *;rw[hZ.Xl (o:=ops[j]'(by omega)) (Array.getElem?_eq_getElem _) (h j hle (by omega))];exact ih (by omega) fun x h1 h2=>h x h1 (by omega)
theorem fD.MP (hZ:fD P call site nt ops M0 h0 w0 S I) {b:Nat}:∀ {i j:Nat},i<=j->j<=ops.size->b∈(S i).ws->b∈(S j).ws:=by
 intro i j BN
 induction BN with
 | refl=>exact fun _ h=>h
 | step hle ih=>
  rename_i j;intro hj h;simp only[Nat.succ_eq_add_one] at *;rw[(hZ.step j (ops[j]'(by omega)) (Array.getElem?_eq_getElem _)).OM];exact iW.2 (.inl (ih (by omega) h))
theorem fD.a0p (hZ:fD P call site nt ops M0 h0 w0 S I) {j:Nat} {o:Oper} (ho:ops[j]? = some o) {k:Key} (hk:k∈(I j).ws) (h0k:(iD h0 k).isSome=true):k∈(S ops.size).ws.map .h:=by
 obtain⟨b,rfl,hb⟩:=sW h0k;have hj:j<ops.size:=(Array.getElem?_eq_some_iff.1 ho).1;refine List.mem_map.2 ⟨b,hZ.MP (i:=j+1) (by omega) (Nat.le_refl _) ?_,rfl⟩;rw[(hZ.step j o ho).OM];exact iW.2 (.inr ⟨hk,hb⟩)
theorem fD.old (hZ:fD P call site nt ops M0 h0 w0 S I) {j:Nat} (hj:j<=ops.size) {k:Key} (h0k:(iD h0 k).isSome=true):((S j).get k).isSome=true:=by
 obtain⟨M,a,w,hR⟩:=hZ.ok j hj;exact hR.ext.has k h0k
theorem fD.mark (hZ:fD P call site nt ops M0 h0 w0 S I) {k:Key} (hk:(S 0).get k=some .mark):∀ j,j<=ops.size->(S j).get k=some .mark:=by
 intro j
 induction j with
 | zero=>exact fun _=>hk
 | succ j ih=>
  intro hj;obtain⟨M,w,M',w',v,he,hx⟩:=hZ.fac j ops[j] (Array.getElem?_eq_getElem (by omega));have h1:=ih (by omega);rw[hx.iC k (by simp[h1]) (fun vU=>by have:=(hx.wrote k vU).2 _ h1;cases this),h1]
structure Inv (nt:Nat) (ops:Array Oper) (M0:Mp) (h0:List HB) (w0:World) (S:Nat->St) (I:Nat->gy) (D:Nat->Prop) (M:Mp) (a:Act) (w:World):Prop where
 closed:∀ j o,ops[j]? = some o->D j->rP D o
 size:nt<=a.tmps.size
 mem:∀ k l,M k=some l->∃ τ,τ<=ops.size∧Good (Wk ops S I k) D τ∧∃ b,(S τ).get k=some b∧jF (mX M (S τ).get).h w b l ∧
  (wr b=true->∀ k' l',k≠k'->M k'=some l'->∀ c∈ah l,c∉ah l')
 inb:∀ k l,M k=some l->∀ c∈ah l,c<w.heap.size
 slot:∀ t,∃ τ,τ<=ops.size∧Good (Wt ops t) D τ∧∀ e,aT t (S τ).env=some e->ER (mX M (S τ).get) e (a.tmps.getD t Go.undef)
 OU:∀ j o k,ops[j]? = some o->D j->k∈(I j).ws->(M k).isSome=true
 zN:lG M0 M
 frame:∀ c,c<w0.heap.size->(∀ k∈(S ops.size).ws.map Key.h,∀ l,M0 k=some l->c∉ah l)->w.heap[c]? = w0.heap[c]?
 gZ:∀ k,((iD h0 k).isSome=true∨(S ops.size).get k=none)->k∉(S ops.size).ws.map Key.h->M k=M0 k
 fresh:∀ k l,M k=some l->∀ c∈ah l,c<w0.heap.size->∃ l0,M0 k=some l0∧c∈ah l0
 vY:w0.heap.size<=w.heap.size
 os:w.os=w0.os
 output:w.output=w0.output
 tape:w.tape=w0.tape
 marks:∀ d∈a.defers,∃ k r,d=⟨.collected r,#[]⟩∧iD h0 (.h k)=none∧(∃ o,M (.h k)=some (.obj r o))∧(∀ j,j<=ops.size->(S j).get (.h k)=some .mark)∧w.heap[r]? = some (.deferred (some []))
 apart:a.defers.Pairwise (·≠·)
theorem QF (hZ:fD P call site nt ops M0 h0 w0 S I) {M:Mp} {a:Act} {w:World} (hR:Rel M0 h0 w0 nt M (S 0) a w):Inv nt ops M0 h0 w0 S I (fun _=>False) M a w where
 closed:=fun _ _ _ h=>h.elim
 size:=hR.size
 mem:=fun k l hk=>by
  obtain⟨b,h1,h2⟩:=hR.val.ok k l hk trivial;have hm:lG M (mX M (S 0).get):=fun k l h=>⟨l,kU (hR.val.has h) h,.refl l⟩;exact⟨0,by omega,⟨fun _ h=>h.elim,fun _ h=>by omega,.inl rfl⟩,b,h1,h2.mono hm.h fun _ _=>rfl,fun hw k' l' dZ jH=>hR.val.own k k' l l' b dZ hk jH trivial h1 hw⟩
 inb:=hR.val.inb
 slot:=fun t=>⟨0,by omega,⟨fun _ h=>h.elim,fun _ h=>by omega,.inl rfl⟩,fun e he=>by
  have hm:lG M (mX M (S 0).get):=fun k l h=>⟨l,kU (hR.val.has h) h,.refl l⟩;exact (hR.env t e he).mono hm fun k l h=>kU (hR.val.has h) h⟩
 OU:=fun _ _ _ _ h=>h.elim
 zN:=hR.ext.zN
 frame:=fun c hc hf=>hR.ext.frame c hc fun k hk l hl=>by
  obtain⟨b,hb,rfl⟩:=List.mem_map.1 hk;exact hf _ (List.mem_map.2 ⟨b,hZ.MP (Nat.zero_le _) (Nat.le_refl _) hb,rfl⟩) l hl
 gZ:=fun k hk hn=>by
  refine hR.ext.gZ k (hk.imp id fun h=>?_) (fun h=>hn ?_)
  ·cases hc:(S 0).get k with
   | none=>rfl
   | some b=>have:=hZ.mono (k:=k) (Nat.zero_le _) (Nat.le_refl _) (by simp[hc]);simp[h] at this
  ·obtain⟨b,hb,rfl⟩:=List.mem_map.1 h;exact List.mem_map.2 ⟨b,hZ.MP (Nat.zero_le _) (Nat.le_refl _) hb,rfl⟩
 fresh:=hR.ext.fresh
 vY:=hR.ext.size
 os:=hR.ext.os
 output:=hR.ext.output
 tape:=hR.ext.tape
 marks:=fun d hd=>by
  obtain⟨k,r,h1,h2,h3,h4,h5⟩:=hR.marks d hd;exact⟨k,r,h1,h2,h3,hZ.mark h4,h5⟩
 apart:=hR.apart
theorem Wk.lt {k:Key} {j:Nat} (h:Wk ops S I k j):j<ops.size:=by
 obtain⟨o,ho,_⟩:=h;exact (Array.getElem?_eq_some_iff.1 ho).1
theorem Wt.lt {t j:Nat} (h:Wt ops t j):j<ops.size:=by
 obtain⟨o,ho,_⟩:=h;exact (Array.getElem?_eq_some_iff.1 ho).1
theorem OV (hZ:fD P call site nt ops M0 h0 w0 S I) {D:Nat->Prop} {M:Mp} {a:Act} {w:World} (h:Inv nt ops M0 h0 w0 S I D M a w) (hD:∀ j,j<ops.size->D j):Rel M0 h0 w0 nt M (S ops.size) a w:=by
 have key:∀ k l,M k=some l->∃ b,(S ops.size).get k=some b∧jF M.h w b l∧(wr b=true->∀ k' l',k≠k'->M k'=some l'->∀ c∈ah l,c∉ah l'):=by
  intro k l hk;obtain⟨τ,ht,hg,b,h1,h2,h3⟩:=h.mem k l hk;refine⟨b,?_,h2.mono OQ.h fun _ _=>rfl,h3⟩;rw[hZ.const ht (Nat.le_refl _) fun x h4 h5 hw=>?_,h1];have:=hg.1 x (hD x h5) hw;omega
 refine⟨⟨?_,?_,h.inb⟩,?_,?_,h.size,fun d hd=>by
  obtain⟨k,r,h1,h2,h3,h4,h5⟩:=h.marks d hd;exact⟨k,r,h1,h2,h3,h4 _ (Nat.le_refl _),h5⟩,h.apart⟩
 ·intro k l hk _;obtain⟨b,h1,h2,_⟩:=key k l hk;exact⟨b,h1,h2⟩
 ·intro k k' l l' b dZ hk jH _ hb hw;obtain⟨b',h1,_,h3⟩:=key k l hk;rw[hb] at h1;cases h1;exact h3 hw k' l' dZ jH
 ·obtain⟨M',a',w',sD⟩:=hZ.ok ops.size (Nat.le_refl _);exact⟨h.zN,h.frame,sD.ext.iC,h.gZ,h.fresh,h.vY,sD.ext.has,sD.ext.wsub,sD.ext.wrote,h.os,h.output,h.tape⟩
 intro t e he;obtain⟨τ,ht,hg,h1⟩:=h.slot t;rw[hZ.U2 ht (Nat.le_refl _) fun x h4 h5 hw=>by have:=hg.1 x (hD x h5) hw;omega] at he;exact (h1 e he).mono OQ fun k l hk=>(bF hk).2
theorem Inv.conf (hZ:fD P call site nt ops M0 h0 w0 S I) {D:Nat->Prop} {M:Mp} {a:Act} {w:World} (h:Inv nt ops M0 h0 w0 S I D M a w) {i j:Nat} {oi oj:Oper} (hi:ops[i]? = some oi) (hj:ops[j]? = some oj)
  (lH:¬D i) (hw:rP D oi) (hc:U1 D i j):(∀ k∈(I j).ws,¬jw (I i) k)∧(∀ k∈(I i).ws,¬jw (I j) k)∧oj.apart ops oi=true∧oi.apart ops oj=true:=by
 have pK:∀ j o,ops.toList[j]? = some o->D j->rP D o:=fun j o ho=>h.closed j o (by simpa using ho);have nP:ops.toList[i]? = some oi:=by simpa using hi
 have BJ:ops.toList[j]? = some oj:=by simpa using hj
 have li:i<ops.toList.length:=(List.getElem?_eq_some_iff.1 nP).1;have lj:j<ops.toList.length:=(List.getElem?_eq_some_iff.1 BJ).1;rcases hc with⟨aN,hd⟩ | ⟨aN,hd⟩
 ·have hp:=wo aN li fun vU=>hd (OO pK i oi nP hw j vU);have h1:=hZ.calm j i oj oi hp hj hi;have h2:=yB hZ.stat hp BJ nP;exact⟨h1.1,h1.2,h2.1,h2.2⟩
 ·have hp:=wo aN lj fun vU=>lH (OO pK j oj BJ (pK j oj BJ hd) i vU);have h1:=hZ.calm i j oi oj hp hi hj;have h2:=yB hZ.stat hp nP BJ;exact⟨h1.2,h1.1,h2.2,h2.1⟩
end
section
variable {P:Program} {call:ay} {site:Nat->Bool} {nt:Nat} {ops:Array Oper} {M0:Mp} {h0:List HB} {w0:World} {S:Nat->St} {I:Nat->gy}
variable {D:Nat->Prop} {M:Mp} {a:Act} {w:World} {i:Nat} {oi:Oper}
theorem Inv.qV (hZ:fD P call site nt ops M0 h0 w0 S I) (h:Inv nt ops M0 h0 w0 S I D M a w) {j:Nat} {o:Oper} (hj:ops[j]? = some o) (hd:¬D j) {k:Key} (h1:(S j).get k=none) (h2:((S (j+1)).get k).isSome=true):M k=none:=by
 cases hm:M k with
 | none=>rfl
 | some l=>
  obtain⟨τ,ht,hg,b,h3,_⟩:=h.mem k l hm;have hlj:j<ops.size:=(Array.getElem?_eq_some_iff.1 hj).1;by_cases hle:τ<=j
  ·have:=hZ.mono hle (by omega) (k:=k) (by simp[h3]);simp[h1] at this
  exact absurd (hg.2.1 j (by omega) ⟨o,hj,.inr ⟨h1,h2⟩⟩) hd
theorem Inv.U3 (hZ:fD P call site nt ops M0 h0 w0 S I) (h:Inv nt ops M0 h0 w0 S I D M a w) (hi:ops[i]? = some oi) (lH:¬D i) (hw:rP D oi) {k:Key} {l:Lc} (hk:M k=some l)
  (hs:((S i).get k).isSome=true) (ht:jw (I i) k):∀ j,Wk ops S I k j->¬U1 D i j:=by
 intro j hwk hc;have hlj:=hwk.lt;obtain⟨oj,hj,h1 | ⟨h1,h2⟩⟩:=hwk
 ·exact (h.conf hZ hi hj lH hw hc).1 k h1 ht
 ·rcases hc with⟨aN,hd⟩ | ⟨aN,hd⟩
  ·have:=h.qV hZ hj hd h1 h2;rw[hk] at this;cases this
  ·have:=hZ.mono (k:=k) (Nat.le_of_lt aN) (by omega) hs;simp[h1] at this
theorem Inv.cur (hZ:fD P call site nt ops M0 h0 w0 S I) (h:Inv nt ops M0 h0 w0 S I D M a w) (hi:ops[i]? = some oi) (lH:¬D i) (hw:rP D oi) {k:Key} {l:Lc} (hk:M k=some l)
  (hs:((S i).get k).isSome=true) (ht:jw (I i) k):∃ b,(S i).get k=some b∧jF (mX M (S i).get).h w b l∧(wr b=true->∀ k' l',k≠k'->M k'=some l'->∀ c∈ah l,c∉ah l'):=by
 have hli:i<ops.size:=(Array.getElem?_eq_some_iff.1 hi).1;obtain⟨τ,hτ,hg,b,h1,h2,h3⟩:=h.mem k l hk;obtain⟨g1,g2⟩:=hg.le lH (h.U3 hZ hi lH hw hk hs ht);refine⟨b,?_,h2.mono (yD (.refl M) fun k' jH=>hZ.mono g1 (by omega) jH).h fun _ _=>rfl,h3⟩;rw[hZ.const g1 (by omega) g2,h1]
theorem Inv.OW (hZ:fD P call site nt ops M0 h0 w0 S I) (h:Inv nt ops M0 h0 w0 S I D M a w) (hi:ops[i]? = some oi) (lH:¬D i) (hw:rP D oi) {t:Nat} (ht:t∈oi.looksAt ops) {e:EV}
  (he:aT t (S i).env=some e):ER (mX M (S i).get) e (a.tmps.getD t Go.undef):=by
 have hli:i<ops.size:=(Array.getElem?_eq_some_iff.1 hi).1;obtain⟨τ,hτ,hg,h1⟩:=h.slot t;obtain⟨g1,g2⟩:=hg.le lH fun j hwt hc=>by
  obtain⟨oj,hj,hd⟩:=hwt;exact (Oper.apart_spec (h.conf hZ hi hj lH hw hc).2.2.1).1 t hd ht
 rw[hZ.U2 g1 (by omega) g2] at he;exact (h1 e he).mono (yD (.refl M) fun k' jH=>hZ.mono g1 (by omega) jH) fun k l hk=>by
  obtain⟨x1,x2⟩:=bF hk;exact kU (hZ.mono g1 (by omega) x1) x2
def ig (M' M:Mp):Mp:=fun k=>match M' k with
 | some l=>some l
 | none=>M k
theorem U4 (hC:aj P call) (hZ:fD P call site nt ops M0 h0 w0 S I) (h:Inv nt ops M0 h0 w0 S I D M a w) (hi:ops[i]? = some oi) (lH:¬D i) (hw:rP D oi)
  {r:Option Nat} {n:Nat} {Q:Exit->Act->World->Prop} {K:Act->World->Prop} (hK:∀ M' a' w',Inv nt ops M0 h0 w0 S I (fun j=>D j∨j=i) M' a' w'->a'.defers=a.defers->K a' w') :
  wpOpIn (jD r) n P ops Q i K a w:=by
 have hli:i<ops.size:=(Array.getElem?_eq_some_iff.1 hi).1;have hS:=hZ.step i oi hi;have hV:Valid (mX M (S i).get) (jw (I i)) (S i).get w:=by
  refine⟨fun k l hk ht=>?_,fun k k' l l' b dZ hk jH ht hb Sr=>?_,fun k l hk=>h.inb k l (bF hk).2⟩
  ·obtain⟨x1,x2⟩:=bF hk;obtain⟨b,h1,h2,_⟩:=h.cur hZ hi lH hw x2 x1 ht;exact⟨b,h1,h2⟩
  ·obtain⟨x1,x2⟩:=bF hk;obtain⟨b',h1,_,h3⟩:=h.cur hZ hi lH hw x2 x1 ht;rw[hb] at h1;cases h1;exact h3 Sr k' l' dZ (bF jH).2
 have pX:mX M (S i).get (.h (S i).heap.length)=none:=by simp[mX,St.get]
 have Sz:mX M (S i).get (.l (S i).loc.length)=none:=by simp[mX,St.get]
 have y7:∀ j l,mX M (S i).get (.l j)=some l->∀ k' l',Key.l j≠k'->mX M (S i).get k'=some l'->∀ c∈ah l,c∉ah l':=by
  intro j l hj k' l' dZ jH;obtain⟨τ,_,_,b,h1,_,h3⟩:=h.mem _ _ (bF hj).2;refine h3 ?_ k' l' dZ (bF jH).2;simp only[St.get,Option.map_eq_some_iff] at h1;obtain⟨_,_,rfl⟩:=h1;rfl
 have hE:y8 (mX M (S i).get) (S i).env a oi.op.operands:=by
  intro x hx e he;cases x with
  | tmp t=>exact h.OW hZ hi lH hw (List.mem_append_left _ (List.mem_filterMap.2 ⟨.tmp t,by simpa using hx,rfl⟩)) he
  | const v=>
   simp only[AL,Option.map_eq_some_iff] at he;obtain⟨t,h1,rfl⟩:=he;exact .val (.sS h1)
  | func f=>
   simp only[AL,Option.some.injEq] at he;subst he;exact .val (VR.fn (xs:=[]) (ys:=[]) rfl (by simp) rfl (by simp))
  | global g=>simp[AL] at he
 have hG:Ce (mX M (S i).get) (S i).env a.tmps ops oi:=by
  intro j want d hg hd e he;exact h.OW hZ hi lH hw (List.mem_append_right _ (by simp[hg,hd])) he
 refine (OJ hC hS hV pX Sz y7 hE hG fun _ ht _=>ht).2 r n Q i K hi fun x w' jT=>?_;obtain⟨v,M',he,hp⟩:=jT;have hX:=hp.ext;have F1:∀ k l,M' k=some l->((S (i+1)).get k).isSome=true:=by
  intro k l hk;cases hc:(S (i+1)).get k with
  | some b=>rfl
  | none=>
   have hn:k∉(I i).ws:=fun vU=>by
    have:=hX.has k (hX.wsub k vU);simp[hc] at this
   have:=hX.gZ k (.inr hc) hn;rw[hk] at this;have:=hX.has k (bF this.symm).1;simp[hc] at this
 have F5:∀ k l l',M k=some l->M' k=some l'->((S i).get k).isSome=true:=by
  intro k l l' hk jH;cases hc:(S i).get k with
  | some b=>rfl
  | none=>
   have:=h.qV hZ hi lH hc (F1 k l' jH);rw[hk] at this;cases this
 have F4:lG M (ig M' M):=by
  intro k l hk;cases hm:M' k with
  | none=>exact⟨l,by simp[ig,hm,hk],.refl l⟩
  | some l'=>
   obtain⟨l'',h1,h2⟩:=hX.zN k l (kU (F5 k l l' hk hm) hk);exact⟨l'',by simp[ig,h1],h2⟩
 have F2:∀ k,¬Wk ops S I k i->ig M' M k=M k:=by
  intro k hn;cases hm:M' k with
  | none=>simp[ig,hm]
  | some l'=>
   cases hc:(S i).get k with
   | none=>
    exact absurd ⟨oi,hi,.inr ⟨hc,F1 k l' hm⟩⟩ hn
   | some b=>
    have h1:=hX.gZ k (.inl (by simp[hc])) fun vU=>hn ⟨oi,hi,.inl vU⟩;rw[hm] at h1;simp only[ig,hm,(bF h1.symm).2]
 have F6:lG M' (mX (ig M' M) (S (i+1)).get):=fun k l hk=>⟨l,kU (F1 k l hk) (by simp[ig,hk]),.refl l⟩;have F7:∀ k l,M (.l k)=some l->ig M' M (.l k)=some l:=by
  intro k l hk;cases hm:M' (.l k) with
  | none=>simp[ig,hm,hk]
  | some l'=>
   have:=hp.loc k l (kU (F5 _ l l' hk hm) hk);simp[ig,this]
 have U5:∀ k∈(I i).ws,∀ l,M k=some l->∀ k' l',k≠k'->M k'=some l'->∀ c∈ah l,c∉ah l':=by
  intro k hk l hl;have hs:=hX.wsub k hk;obtain⟨b,h1,_,h3⟩:=h.cur hZ hi lH hw hl hs (.inr (.inl hk));exact h3 ((hX.wrote k hk).2 b h1)
 have hWM:∀ k l,Wk ops S I k i->ig M' M k=some l->M' k=some l∧(jw (I i) k∨((S i).get k=none∧((S (i+1)).get k).isSome=true)):=by
  intro k l hW hk;obtain⟨o,ho,h1 | ⟨h1,h2⟩⟩:=hW
  ·obtain⟨l0,kF⟩:=Option.isSome_iff_exists.1 (hX.wrote k h1).1;obtain⟨l',h2,_⟩:=hX.zN k l0 kF;simp only[ig,h2] at hk;exact⟨h2.trans hk,.inl (.inr (.inl h1))⟩
  ·have:=h.qV hZ hi lH h1 h2;cases hm:M' k with
   | none=>simp[ig,hm,this] at hk
   | some l'=>simp only[ig,hm] at hk;exact⟨hk,.inr ⟨h1,h2⟩⟩
 have a90:∀ k,Wk ops S I k i->∀ j,Wk ops S I k j->¬U1 D i j:=by
  intro k hW;obtain⟨o,ho,h1 | ⟨h1,h2⟩⟩:=hW
  ·obtain⟨l0,kF⟩:=Option.isSome_iff_exists.1 (hX.wrote k h1).1;exact h.U3 hZ hi lH hw (bF kF).2 (hX.wsub k h1) (.inr (.inl h1))
  ·intro j hwk hc;have hlj:=hwk.lt;obtain⟨oj,hj,g1 | ⟨g1,g2⟩⟩:=hwk
   ·have hsj:=hZ.wsub hj g1;rcases hc with⟨aN,hd⟩ | ⟨aN,hd⟩
    ·have:=hZ.mono (k:=k) (Nat.le_of_lt aN) (by omega) hsj;simp[h1] at this
    ·have:=h.OU j oj k hj hd g1;rw[h.qV hZ hi lH h1 h2] at this;cases this
   ·rcases hc with⟨aN,hd⟩ | ⟨aN,hd⟩
    ·have:=hZ.mono (k:=k) (i:=j+1) (j:=i) aN (by omega) g2;simp[h1] at this
    ·have:=hZ.mono (k:=k) (i:=i+1) (j:=j) aN (by omega) h2;simp[g1] at this
 refine hK (ig M' M) _ w' ?_ iK;refine
  {closed:=fun j o ho hd e hm hb=>?_
   size:=by rw[DT];exact h.size
   mem:=fun k l hk=>?_
   inb:=fun k l hk c hc=>?_
   slot:=fun t=>?_
   OU:=fun j o k ho hd hk=>?_
   zN:=h.zN.trans F4
   frame:=fun c hc hf=>?_
   gZ:=fun k hk hn=>?_
   fresh:=fun k l hk c hc aN=>?_
   vY:=Nat.le_trans h.vY hX.size
   os:=hX.os.trans h.os
   output:=hX.output.trans h.output
   tape:=hX.tape.trans h.tape
   marks:=fun d hd=>by
    rw[iK] at hd;obtain⟨k,r,h1,h2,⟨o,h3⟩,h4,h5⟩:=h.marks d hd;obtain⟨l',g1,g2⟩:=F4 _ _ h3;obtain⟨o',hl⟩:∃ o',l'=.obj r o':=by
     cases l' with
     | cells ls=>exact g2.elim
     | obj r' o'=>cases g2.1;exact⟨o',rfl⟩
    refine⟨k,r,h1,h2,⟨o',by rw[g1,hl]⟩,h4,?_⟩;rw[hX.frame r (Array.getElem?_eq_some_iff.1 h5).1 fun k' jH l0 kF hc=>?_,h5];have dZ:k'≠.h k:=fun e=>by
     have:=(hX.wrote _ jH).2 _ (e▸h4 i (by omega));cases this
    exact U5 k' jH l0 (bF kF).2 _ _ dZ h3 r hc (by simp[ah])
   apart:=by rw[iK];exact h.apart }
 ·rcases hd with hd | rfl
  ·exact .inl (h.closed j o ho hd e hm hb)
  ·rw[hi] at ho;cases ho;exact .inl (hw e hm hb)
 ·by_cases hW:Wk ops S I k i
  ·obtain⟨hm,hD⟩:=hWM k l hW hk;obtain⟨b,h1,h2⟩:=hp.val.ok k l hm hD;refine⟨i+1,by omega,Good.next hW (a90 k hW),b,h1,h2.mono F6.h fun _ _=>rfl,fun Sr k' l' dZ jH=>?_⟩;cases MQ:M' k' with
   | some l''=>
    simp only[ig,MQ] at jH;cases jH;exact hp.val.own k k' l l' b dZ hm MQ hD h1 Sr
   | none=>
    simp only[ig,MQ] at jH;intro c hc Gi;obtain⟨l0,g1,g2⟩:=hX.fresh k l hm c hc (h.inb k' l' jH c Gi);obtain⟨g3,g4⟩:=bF g1;obtain⟨o,ho,g5 | ⟨g5,_⟩⟩:=hW
    ·exact U5 k g5 l0 g4 k' l' dZ jH c g2 Gi
    ·simp[g5] at g3
  ·rw[F2 k hW] at hk;obtain⟨τ,hτ,hg,b,h1,h2,h3⟩:=h.mem k l hk;refine⟨τ,hτ,hg.other hW,b,h1,h2.mono (yD F4 fun _ hs=>hs).h fun c hc=>?_,fun Sr k' l' dZ jH=>?_⟩
   ·refine hX.frame c (h.inb k l hk c hc) fun k'' a4L l'' a94 a95=>?_;have dZ:k''≠k:=fun e=>hW ⟨oi,hi,.inl (e▸a4L)⟩;exact U5 k'' a4L l'' (bF a94).2 k l dZ hk c a95 hc
   ·cases MQ:M' k' with
    | some l''=>
     simp only[ig,MQ] at jH;cases jH;intro c hc Gi;obtain⟨l0,g1,g2⟩:=hX.fresh k' l' MQ c Gi (h.inb k l hk c hc);exact h3 Sr k' l0 dZ (bF g1).2 c hc g2
    | none=>
     simp only[ig,MQ] at jH;exact h3 Sr k' l' dZ jH
 ·cases hm:M' k with
  | some l'=>
   simp only[ig,hm] at hk;cases hk;exact hp.val.inb k l hm c hc
  | none=>
   simp only[ig,hm] at hk;exact Nat.lt_of_lt_of_le (h.inb k l hk c hc) hX.size
 ·by_cases hT:oi.dst=some t
  ·refine⟨i+1,by omega,Good.next (W:=Wt ops t) ⟨oi,hi,hT⟩ (fun j hwt hc=>?_),fun e hl=>?_⟩
   ·obtain⟨oj,hj,hd⟩:=hwt;exact (Oper.apart_spec (h.conf hZ hi hj lH hw hc).2.2.2).2.1 t hT hd
   ·rw[he,uX,if_pos hT] at hl;cases hl;have h1:=hS.dst hT;have h2:=h.size;rw[yu,if_pos ⟨hT,by omega⟩];exact hp.er.mono F6 fun k l hk=>kU (F1 _ l hk) (by simp[ig,hk])
  ·obtain⟨τ,hτ,hg,h1⟩:=h.slot t;refine⟨τ,hτ,hg.other fun⟨o,ho,hd⟩=>?_,fun e hl=>?_⟩
   ·rw[hi] at ho;cases ho;exact hT hd
   ·rw[yu,if_neg fun hh=>hT hh.1];refine (h1 e hl).mono (yD F4 fun _ hs=>hs) fun k l hk=>?_;obtain⟨g1,g2⟩:=bF hk;exact kU g1 (F7 k l g2)
 ·have hM:∀ k,(M k).isSome=true->(ig M' M k).isSome=true:=by
   intro k hk;obtain⟨l,hl⟩:=Option.isSome_iff_exists.1 hk;obtain⟨l',h1,_⟩:=F4 k l hl;simp[h1]
  rcases hd with hd | rfl
  ·exact hM k (h.OU j o k ho hd hk)
  ·obtain⟨l0,kF⟩:=Option.isSome_iff_exists.1 (hX.wrote k hk).1;exact hM k (by simp[(bF kF).2])
 ·rw[<-h.frame c hc hf];refine hX.frame c (Nat.lt_of_lt_of_le hc h.vY) fun k hk l hl pK=>?_;obtain⟨l0,h1,h2⟩:=h.fresh k l (bF hl).2 c pK hc;exact hf k (hZ.a0p hi hk (hZ.base.val.has h1)) l0 h1 h2
 ·rw[<-h.gZ k hk hn];refine F2 k fun hW=>?_;obtain⟨o,ho,h1 | ⟨h1,h2⟩⟩:=hW
  ·rcases hk with hk | hk
   ·exact hn (hZ.a0p hi h1 hk)
   ·have:=hZ.mono (k:=k) (i:=i) (Nat.le_of_lt hli) (Nat.le_refl _) (hX.wsub k h1);simp[hk] at this
  ·rcases hk with hk | hk
   ·have:=hZ.old (Nat.le_of_lt hli) hk;simp[h1] at this
   ·have:=hZ.mono (k:=k) (i:=i+1) hli (Nat.le_refl _) h2;simp[hk] at this
 ·cases hm:M' k with
  | some l'=>
   simp only[ig,hm] at hk;cases hk;obtain⟨l0,h1,h2⟩:=hX.fresh k l hm c hc (Nat.lt_of_lt_of_le aN h.vY);exact h.fresh k l0 (bF h1).2 c h2 aN
  | none=>
   simp only[ig,hm] at hk;exact h.fresh k l hk c hc aN
def Ii (listed:Array Bool):Nat->Nat
 | 0=>0
 | k+1=>Ii listed k+if listed.getD k false=true then 0 else 1
theorem U6 (listed:Array Bool):∀ k,Ii listed k<=k
 | 0=>Nat.le_refl _
 | k+1=>by have:=U6 listed k;simp only[Ii];split<;>omega
theorem JK {listed:Array Bool}:∀ {k:Nat},Ii listed k=0->∀ j,j<k->listed.getD j false=true
 | 0,_,j,hj=>by omega
 | k+1,h,j,hj=>by
  simp only[Ii] at h;by_cases he:j=k
  ·subst he;split at h
   ·assumption
   omega
  exact JK (k:=k) (by omega) j (by omega)
theorem DY {listed:Array Bool} {i:Nat} (hi:i<listed.size) (j:Nat):(listed.setIfInBounds i true).getD j false=if j=i then true else listed.getD j false:=by
 simp only[Array.getD_eq_getD_getElem?,Array.getElem?_setIfInBounds];by_cases h:i=j
 ·subst h;simp[hi]
 simp[h,Ne.symm h]
theorem OX {listed:Array Bool} {i:Nat} (hi:i<listed.size) (hn:listed.getD i false=false):∀ k,Ii (listed.setIfInBounds i true) k+(if i<k then 1 else 0)=Ii listed k
 | 0=>by simp[Ii]
 | k+1=>by
  have ih:=OX hi hn k;simp only[Ii,DY hi];by_cases he:k=i
  ·subst he;simp only[if_true,hn];simp at ih ⊢;omega
  simp only[he,if_false];by_cases aN:i<k
  ·rw[if_pos aN] at ih;rw[if_pos (by omega:i<k+1)];omega
  rw[if_neg aN] at ih;rw[if_neg (by omega:¬i<k+1)];omega
theorem kM {listed:Array Bool} (nR:listed.size=ops.size) {i:Nat}:i∈Region.ready .any ops listed↔∃ o,ops[i]? = some o∧listed.getD i false=false∧rP (fun j=>listed.getD j false=true) o:=by
 simp only[Region.ready,List.mem_filter,List.mem_range,Bool.and_eq_true];constructor
 ·rintro⟨h1,h2,h3⟩;refine⟨ops[i],Array.getElem?_eq_getElem h1,?_,?_⟩
  ·have hl:i<listed.size:=(by omega);simp only[Array.getD,hl,dite_true] at h2 ⊢;simpa using h2
  intro e he hb;rw[Array.getElem?_eq_getElem h1] at h3;simp only[Option.map_some,Option.getD_some,Array.all_eq_true_iff_forall_mem] at h3;have:=h3 e he;simpa[hb] using this
 rintro⟨o,ho,h2,h3⟩;have h1:i<ops.size:=(Array.getElem?_eq_some_iff.1 ho).1;refine⟨h1,?_,?_⟩
 ·have hl:i<listed.size:=by omega
  simp only[Array.getD,hl,dite_true] at h2 ⊢;simpa using h2
 rw[ho];simp only[Option.map_some,Option.getD_some,Array.all_eq_true_iff_forall_mem];intro e he;cases hb:Region.binds .any e with
 | false=>rfl
 | true=>simpa using h3 e he hb
theorem a1t (hC:aj P call) (hZ:fD P call site nt ops M0 h0 w0 S I) {r:Option Nat} {n:Nat} {Q:Exit->Act->World->Prop} {ds:List Deferred}
  (hQ:∀ M' a' w',Rel M0 h0 w0 nt M' (S ops.size) a' w'->a'.defers=ds->Q .normal a' w'):∀ (fuel:Nat) (listed:Array Bool) (M:Mp) (a:Act) (w:World),listed.size=ops.size ->
  Inv nt ops M0 h0 w0 S I (fun j=>listed.getD j false=true) M a w->Ii listed ops.size<=fuel->a.defers=ds->wpAnyIn (jD r) n P .any ops Q fuel listed a w:=by
 intro fuel;have DR:∀ (listed:Array Bool),listed.size=ops.size->Region.ready .any ops listed=[]->∀ j,j<ops.size->listed.getD j false=true:=by
  intro listed nR hr j
  induction j using Nat.strongRecOn with
  | _ j ih=>
   intro hj;cases hd:listed.getD j false with
   | true=>rfl
   | false=>
    have:j∈Region.ready .any ops listed:=(kM nR).2 ⟨ops[j],Array.getElem?_eq_getElem hj,hd,fun e he hb=>by
     have aN:=JJ hZ.stat (i:=j) (o:=ops[j]) (by simp) he hb;exact ih e.on aN (by omega)⟩
    rw[hr] at this;cases this
 induction fuel with
 | zero=>
  intro listed M a w nR hI hu hd;have hz:=JK (Nat.le_zero.1 hu);refine⟨?_,hQ M a w (OV hZ hI hz) hd⟩;refine List.eq_nil_iff_forall_not_mem.2 fun i hi=>?_;obtain⟨o,ho,h1,_⟩:=(kM nR).1 hi;rw[hz i (Array.getElem?_eq_some_iff.1 ho).1] at h1;cases h1
 | succ fuel ih=>
  intro listed M a w nR hI hu hd;refine⟨fun hr=>hQ M a w (OV hZ hI (DR listed nR hr)) hd,fun i hi=>?_⟩;obtain⟨o,ho,h1,h2⟩:=(kM nR).1 hi;have hli:i<ops.size:=(Array.getElem?_eq_some_iff.1 ho).1;refine U4 hC hZ hI ho (by simp[h1]) h2 fun M' a' w' hI' MF=>ih _ M' a' w' (by simp[nR]) ?_ ?_ (MF.trans hd)
  ·have:(fun j=>(listed.setIfInBounds i true).getD j false=true)=fun j=>listed.getD j false=true∨j=i:=by
    funext j
    rw[DY (by omega)];by_cases he:j=i
    ·simp[he]
    ·simp[he]
   rw[this];exact hI'
  ·have:=OX (listed:=listed) (i:=i) (by omega) h1 ops.size;rw[if_pos hli] at this;omega
theorem MR (hC:aj P call) (hB:lK M0 h0 w0) (hm:P.follows .mixedOrders=true) {r:Option Nat} {n:Nat} {Q:Exit->Act->World->Prop} {id:Nat} {s s':St} {is:List gy} {M:Mp} {a:Act} {w:World}
  (h:dN P call site h0.length nt ops ops.toList s=some (s',is)) (hs:fF ops.toList=true) (hd:lN is (eH ops.toList)=true) (hR:Rel M0 h0 w0 nt M s a w)
  (hQ:∀ M' a' w',Rel M0 h0 w0 nt M' s' a' w'->a'.defers=a.defers->Q .normal a' w'):(Code.region id ops true).wpIn (jD r) n P Q a w:=by
 obtain⟨S,I,e1,e2,hZ⟩:=U0 hC hB h hR hs hd;refine wpIn_region_any hm ?_;have sD:Rel M0 h0 w0 nt M (S 0) a { w with drawn:=w.drawn+1 }:=by
  rw[e1];exact⟨hR.val.of_heap rfl,hR.ext.drew rfl rfl rfl rfl,hR.env,hR.size,hR.marks,hR.apart⟩
 refine a1t hC hZ (ds:=a.defers) (fun M' a' w' hr hd=>hQ M' a' w' (by rw[e2] at hr;exact hr) hd) ops.size _ M a _ (by simp) ?_ (U6 _ _) rfl;have:(fun j=>(Array.replicate ops.size false).getD j false=true)=fun _=>False:=by
  funext j
  simp only[Array.getD_eq_getD_getElem?,Array.getElem?_replicate];split<;>simp
 rw[this];exact QF hZ sD
end
theorem DZ {F:Fence} {n:Nat} {P:Program} {Q:Exit->Act->World->Prop} {a:Act} {w:World} {c:Code} (h:c.wpIn F n P (Exit.noGoto Q) a w):(Code.scope c).wpIn F n P Q a w:=by
 intro b k cs SE hb hr;have h0:(lone (b.atR a (.code (.scope c)::k)) cs w).fenced P F:=fenced_calm hb hr rfl;have s0:step P (lone (b.atR a (.code (.scope c)::k)) cs w)=.next (lone (b.atR a (.code c::.inScope c::k)) cs w):=step_lone_go (by simp[stepG,stepG.exec,Frame.atR]);have s1:∀ a1 w1,step P (lone (b.atR a1 (.inScope c::k)) cs w1)=.next (lone (b.atR a1 k) cs w1):=fun a1 w1=>step_lone_go (by simp[stepG,stepG.exec,Frame.atR]);obtain⟨e,a₁,w₁,hq,FY⟩:=h b (.inScope c::k) cs SE hb hr;cases e with
 | normal=>exact⟨.normal,a₁,w₁,hq,.head h0 s0 (StepsIn.trans FY (.one (fenced_calm hb hr rfl) (s1 _ _)))⟩
 | exit id'=>
  have hx:exitTo id' (.inScope c::k)=exitTo id' k:=by simp[exitTo]
  exact⟨.exit id',a₁,w₁,hq,fun k' hk=>.head h0 s0 (FY.1 k' (by rw[hx];exact hk)),
   fun hr' hk=>let ⟨k₁,h1,h2⟩:=FY.2 hr' (by rw[hx];exact hk);⟨k₁,h1,.head h0 s0 h2⟩⟩
 | goto l=>exact hq.elim
 | ret=>exact⟨_,a₁,w₁,hq,.of_steps (.one h0 s0) FY⟩
 | panic ch=>exact⟨_,a₁,w₁,hq,.of_steps (.one h0 s0) FY⟩
 | outgrown=>exact⟨_,a₁,w₁,hq,.of_steps (.one h0 s0) FY⟩
def MS:Ex->Exit
 | .norm=>.normal
 | .exit id=>.exit id
 | .ret=>.ret
theorem wZ {t:Nat} {e:EV} {env:List (Nat×EV)}:∀ {live:List Nat},aT t (pick live env)=some e->aT t env=some e
 | [],h=>by simp[pick,aT] at h
 | x::r,h=>by
  simp only[pick] at h;split at h
  ·rename_i v hv;simp only[aT] at h;split at h
   ·rename_i hx;subst hx;rw[hv,h]
   exact wZ h
  exact wZ h
theorem U7 {t k off:Nat}:∀ {env:List (Nat×EV)},aT t env=some (.loc k off)->k<vP env
 | [],h=>by simp[aT] at h
 | (x,v)::r,h=>by
  simp only[aT] at h;split at h
  ·cases h;simp only[vP];omega
  have:=U7 h;cases v<;>simp only[vP]<;>omega
section
variable {M0:Mp} {h0:List HB} {w0:World} {nt:Nat} {M:Mp} {s:St} {a:Act} {w:World}
theorem Rel.pick (hR:Rel M0 h0 w0 nt M s a w) (live:List Nat):Rel M0 h0 w0 nt M { s with env:=Tw.pick live s.env } a w:=by
 have hg:St.get { s with env:=Tw.pick live s.env }=s.get:=getEnv s _ _;refine⟨by rw[hg];exact hR.val,by rw[hg];exact hR.ext,fun t e h=>hR.env t e (wZ h),hR.size,?_,hR.apart⟩;rw[hg];exact hR.marks
def JL (n:Nat) (M:Mp):Mp
 | .h b=>M (.h b)
 | .l j=>if j<n then M (.l j) else none
theorem Rel.head (hB:lK M0 h0 w0) (hR:Rel M0 h0 w0 nt M s a w) (live:List Nat):Rel M0 h0 w0 nt (JL (vP (Tw.pick live s.env)) M) (dO live s) a w:=by
 have hR:=hR.pick live;generalize he:Tw.pick live s.env=env at hR ⊢;have hs:dO live s={ s with env:=env,loc:=s.loc.take (vP env) }:=by simp[dO,he]
 rw[hs];have ji:∀ k l,JL (vP env) M k=some l->M k=some l:=by
  intro k l h;cases k with
  | h b=>exact h
  | l j=>
   simp only[JL] at h;split at h
   ·exact h
   cases h
 have rZ:∀ k l,JL (vP env) M k=some l->St.get { s with env:=env,loc:=s.loc.take (vP env) } k=St.get { s with env:=env } k:=by
  intro k l h;cases k with
  | h b=>rfl
  | l j=>
   simp only[JL] at h;split at h
   ·rename_i hj;simp[St.get,hj]
   cases h
 refine⟨⟨?_,?_,fun k l hk=>hR.val.inb k l (ji k l hk)⟩,?_,?_,hR.size,?_,hR.apart⟩
 ·intro k l hk _;obtain⟨b,h1,h2⟩:=hR.val.ok k l (ji k l hk) trivial;exact⟨b,by rw[rZ k l hk];exact h1,h2⟩
 ·intro k k' l l' b dZ hk jH _ hb hw;rw[rZ k l hk] at hb;exact hR.val.own k k' l l' b dZ (ji k l hk) (ji k' l' jH) trivial hb hw
 ·have hX:=hR.ext;have hk:∀ k,(iD h0 k).isSome=true->∃ b,k=.h b:=fun k h=>let ⟨b,e,_⟩:=sW h;⟨b,e⟩
  exact
   {zN:=fun k l h=>by
     cases k with
     | l j=>rw[hB.loc j] at h;cases h
     | h b=>exact hX.zN _ _ h
    frame:=hX.frame
    iC:=fun k h hn=>by obtain⟨b,rfl⟩:=hk k h;exact hX.iC _ h hn
    gZ:=fun k h hn=>by
     cases k with
     | h b=>exact hX.gZ (.h b) h hn
     | l j=>
      rw[hB.loc j];simp only[JL];split
      ·rename_i hj;cases hm:M (.l j) with
       | none=>rfl
       | some l=>
        have h1:=hR.val.has hm;rcases h with h | h
        ·obtain⟨b,hb⟩:=hk _ h;cases hb
        ·have:=rZ (.l j) l (by simp[JL,hj,hm]);rw[h] at this;rw[<-this] at h1;cases h1
      ·rfl
    fresh:=fun k l h=>hX.fresh k l (ji k l h)
    size:=hX.size
    has:=fun k h=>by obtain⟨b,rfl⟩:=hk k h;exact hX.has _ h
    wsub:=hX.wsub
    wrote:=hX.wrote
    os:=hX.os
    output:=hX.output
    tape:=hX.tape }
 ·intro t e h;have:=hR.env t e h;generalize a.tmps.getD t Go.undef=z at this;cases this with
  | val hv=>exact .val hv
  | undef=>exact .undef
  | loc hm hb=>
   have aN:=U7 (env:=env) h;exact .loc (by simp[JL,aN,hm]) hb
 intro d hd;obtain⟨k,r,h1,h2,h3,h4,h5⟩:=hR.marks d hd;exact⟨k,r,h1,h2,h3,h4,h5⟩
theorem OY (hV:Valid M mg s.get w) (b:HB) (o:Obj) (Ju:jF (aQ M (.h s.heap.length) (.obj w.heap.size [])).h (w.alloc o) b (.obj w.heap.size [])) :
  Valid (aQ M (.h s.heap.length) (.obj w.heap.size [])) mg (St.get { s with heap:=s.heap++[b] }) (w.alloc o) ∧
  Ext M s.get w (aQ M (.h s.heap.length) (.obj w.heap.size [])) (St.get { s with heap:=s.heap++[b] }) (w.alloc o) []∧M (.h s.heap.length)=none:=by
 have rZ:s.get (.h s.heap.length)=none:=by simp[St.get]
 have pX:M (.h s.heap.length)=none:=by
  cases h:M (.h s.heap.length) with
  | none=>rfl
  | some l=>have:=hV.has h;simp[rZ] at this
 have hle:lG M (aQ M (.h s.heap.length) (.obj w.heap.size [])):=iI fun l0 h0=>by rw[pX] at h0;cases h0
 have bg:∀ c,c<w.heap.size->c∉ah (.obj w.heap.size [])->(w.alloc o).heap[c]? = w.heap[c]?:=fun c hc _=>jM w _ c hc;have dh:∀ c∈ah (.obj w.heap.size []),(∃ l0,M (.h s.heap.length)=some l0∧c∈ah l0)∨w.heap.size<=c:=fun c hc=>.inr (by simp[ah] at hc;omega);rw[fQ];exact⟨hV.upd _ _ _ (fun j _=>.inl trivial) (fun l0 h0=>by rw[pX] at h0;cases h0) bg dh (by simp) Ju,
  Ext.upd _ _ _ [] (.inr ⟨rZ,pX,rfl⟩) hle bg dh (by simp) rfl rfl rfl,pX⟩
theorem uY (hV:Valid M mg s.get w) {k r:Nat} {q:List Nat} {b b':HB} {o':Obj} (hm:M (.h k)=some (.obj r q)) (hb:s.heap[k]? = some b) (hw:wr b=true)
  (Ju:jF M.h { w with heap:=w.heap.setIfInBounds r o' } b' (.obj r q)) :
  Valid M mg (St.get { s with heap:=s.heap.set k b' }) { w with heap:=w.heap.setIfInBounds r o' } ∧
  Ext M s.get w M (St.get { s with heap:=s.heap.set k b' }) { w with heap:=w.heap.setIfInBounds r o' } [.h k]:=by
 have hg:s.get (.h k)=some b:=by simp[St.get,hb]
 have mD:=(List.getElem?_eq_some_iff.1 hb).1;have jf:aQ M (.h k) (.obj r q)=M:=zO hm;have bg:∀ c,c<w.heap.size->c∉ah (.obj r q)->(w.heap.setIfInBounds r o')[c]? = w.heap[c]?:=fun c _ hc=>by
  rw[Array.getElem?_setIfInBounds,if_neg (by simp[ah] at hc;omega)]
 have dh:∀ c∈ah (.obj r q),(∃ l0,M (.h k)=some l0∧c∈ah l0)∨w.heap.size<=c:=fun c hc=>.inl ⟨_,hm,hc⟩;rw[dU s k _ mD];constructor
 ·have:=hV.upd (D':=mg) (w':={ w with heap:=w.heap.setIfInBounds r o' }) (.h k) b' (.obj r q) (fun j hj=>.inl hj) (fun l0 h0=>by
   rw[hm] at h0;cases h0;exact⟨trivial,.refl _,fun b0 lQ=>by rw[hg] at lQ;cases lQ;exact hw⟩) bg dh (by simp) (by rw[jf];exact Ju)
  rwa [jf] at this
 ·have:=Ext.upd (M:=M) (C:=s.get) (w:=w) (w':={ w with heap:=w.heap.setIfInBounds r o' }) (.h k) b' (.obj r q) [.h k] (.inl ⟨by simp[hg],rfl,by simp[hm],fun b0 lQ=>by rw[hg] at lQ;cases lQ;exact hw⟩) (by rw[jf];exact .refl _) bg dh (by simp) rfl rfl rfl
  rwa [jf] at this
theorem Rel.next (hB:lK M0 h0 w0) (hR:Rel M0 h0 w0 nt M s a w) {M':Mp} {s':St} {w':World} {ks:List Key} (hV:Valid M' mg s'.get w') (hX:Ext M s.get w M' s'.get w' ks)
  (he:s'.env=s.env) (Sl:s'.ws=dn h0.length ks s.ws) (hl:∀ k l,M (.l k)=some l->M' (.l k)=some l):Rel M0 h0 w0 nt M' s' a w':=by
 refine⟨hV,?_,?_,hR.size,GI hR hX,hR.apart⟩
 ·refine hR.ext.trans hX (fun k l hk=>hB.val.has hk) (fun k hk vU=>?_) (fun k hk=>?_)
  ·obtain⟨b,rfl,hb⟩:=sW hk;rw[Sl];refine List.mem_map.2 ⟨b,iW.2 ?_,rfl⟩;rcases vU with h1 | h1
   ·obtain⟨b',h2,h3⟩:=List.mem_map.1 h1;cases h3;exact .inl h2
   ·exact .inr ⟨h1,hb⟩
  ·rw[Sl] at hk;obtain⟨b,hb,rfl⟩:=List.mem_map.1 hk;rcases iW.1 hb with h1 | ⟨h1,h2⟩
   ·have:Key.h b∈s.ws.map .h:=List.mem_map.2 ⟨b,h1,rfl⟩;exact⟨hR.ext.wsub _ this,.inl this⟩
   ·exact⟨MI h2,.inr h1⟩
 ·rw[he];intro t e h;exact (hR.env t e h).mono hX.zN hl
theorem Rel.long (hR:Rel M0 h0 w0 nt M s a w):h0.length<=s.heap.length:=by
 refine Nat.le_of_not_lt fun h=>?_;have:=hR.ext.has _ (MI h);simp[St.get] at this
end
theorem least {J:Nat->Prop} (h:∃ k,J k):∃ k,J k∧∀ j,J j->k<=j:=by
 obtain⟨k,hk⟩:=h
 induction k using Nat.strongRecOn with
 | _ k ih=>
  by_cases hj:∃ j,j<k∧J j
  ·obtain⟨j,h1,h2⟩:=hj;exact ih j h1 h2
  exact⟨k,hk,fun j h=>Nat.le_of_not_lt fun aN=>hj ⟨j,aN,h⟩⟩
noncomputable def leastOf (J:Nat->Prop):Nat:=open Classical in if h:∃ k,J k then Classical.choose (least h) else 0
theorem leastOf_spec {J:Nat->Prop} (h:∃ k,J k):J (leastOf J)∧∀ j,J j->leastOf J<=j:=by
 unfold leastOf;rw[dif_pos h];exact Classical.choose_spec (least h)
section
variable {P:Program} {T:iF} {call:ay} {L f:Nat} {eu:Bool} {nt:Nat} {M0:Mp} {h0:List HB} {w0:World} {r:Option Nat}
def IC (P:Program) (M0:Mp) (h0:List HB) (w0:World) (nt:Nat) (r:Option Nat) (c:Code) (s:St) (e:Ex) (s':St):Prop:=
 ∀ (n:Nat) (Q:Exit->Act->World->Prop) (M:Mp) (a:Act) (w:World),Rel M0 h0 w0 nt M s a w->(∀ M' a' w',Rel M0 h0 w0 nt M' s' a' w'->Q (MS e) a' w')->c.wpIn (jD r) n P Q a w
theorem Cj (hB:lK M0 h0 w0) {c:Code} {live:List Nat} {g:St->Option (Ex×St)} (ih:∀ s e s',g s=some (e,s')->IC P M0 h0 w0 nt r c (dO live s) e s') {k:Nat} {s:St} {e:Ex} {s':St}
  (h:iter g k s=some (e,s')):IC P M0 h0 w0 nt r (.loop c) s e s':=by
 intro n Q M a w hR hQ
 let J:Act->World->Nat->Prop:=fun a w k=>∃ s M,iter g k s=some (e,s')∧Rel M0 h0 w0 nt M s a w
 refine wpIn_loop (fun a w=>∃ k,J a w k) (fun a w=>leastOf (J a w)) ⟨k,s,M,h,hR⟩ ?_;intro a1 w1 hI;obtain⟨⟨s1,M1,JM,nV⟩,_⟩:=leastOf_spec hI;generalize leastOf (J a1 w1)=k1 at JM ⊢;cases k1 with
 | zero=>simp[iter] at JM
 | succ k1=>
  simp only[iter] at JM;split at JM
  ·rename_i s2 hg;refine ih s1 .norm s2 hg n _ _ a1 w1 (nV.head hB live) fun M2 a2 w2 GN=>?_;have hJ:J a2 w2 k1:=⟨s2,M2,JM,GN⟩;exact⟨⟨k1,hJ⟩,Nat.lt_succ_of_le ((leastOf_spec ⟨k1,hJ⟩).2 k1 hJ)⟩
  ·rename_i dZ;refine ih s1 e s' JM n _ _ a1 w1 (nV.head hB live) fun M2 a2 w2 GN=>?_;cases e with
   | norm=>exact (dZ s' JM).elim
   | exit id=>exact hQ M2 a2 w2 GN
   | ret=>exact hQ M2 a2 w2 GN
theorem QG {env:List (Nat×EV)} (h:env.all isVal=true) {t:Nat} {e:EV} (hl:aT t env=some e):(∃ v,e=.val v)∨e=.undef:=by
 induction env with
 | nil=>simp[aT] at hl
 | cons x r ih=>
  obtain⟨k,v⟩:=x;simp only[List.all_cons,Bool.and_eq_true] at h;simp only[aT] at hl;split at hl
  ·cases hl;cases e with
   | val v=>exact .inl ⟨v,rfl⟩
   | undef=>exact .inr rfl
   | loc k off=>simp[isVal] at h
  exact ih h.2 hl
theorem GR (hB:lK M0 h0 w0) {g:Operand} {ps:Array Tmp} {mG body:Code} {s:St} {f1:FuncId} {a1 b1:List TV} {K:TV->List HB->List Nat->Prop} {QT:Ex->St->Prop}
  (hg:lJ s.env g=some (.fn f1 a1 b1)) (hv:s.env.all isVal=true)
  (hC:∀ (M:Mp) (w:World) (x:Value) (xs:List Value),Valid M mg (iD (s.heap++[.mark,.loop true f nt s.env ps.toList mG body none])) w->(∀ k,M (.l k)=none)->VR M.h (.fn f1 a1 b1) x->aH M.h [.jk (s.heap.length+1)] xs ->
   ∃ d,(∀ w,(Deferred.ofValue x xs.toArray).run P w=.ok d w)∧Cc P d w fun y w'=>∃ v h ws,K v h ws∧eP M (s.heap++[.mark,.loop true f nt s.env ps.toList mG body none]) w v h ws y w')
  (hK:∀ v h ws,K v h ws->∃ rd f2 Dn e2 rY a2 b2 gK e,h[s.heap.length+1]? = some (.loop rd f2 Dn e2 rY a2 b2 gK)∧Dl rd gK=some e∧QT e { s with heap:=h.set (s.heap.length+1) (.loop false f2 Dn e2 rY a2 b2 (some .skip)),ws:=dn h0.length (ws.map .h) s.ws })
  (n:Nat) (Q:Exit->Act->World->Prop) (M:Mp) (a:Act) (w:World) (hR:Rel M0 h0 w0 nt M s a w) (hQ:∀ e s' M' a' w',QT e s'->Rel M0 h0 w0 nt M' s' a' w'->Q (MS e) a' w'):(Code.rangeFunc g ps mG body).wpIn (jD none) n P Q a w:=by
 refine wpIn_rangeFunc fun fn _=>?_
 let lp:Loop:={ state:=.ready,pending:=none,fn:=fn,tmps:=a.tmps,params:=ps,assign:=mG,body:=body,defers:=w.heap.size }
 let w1:=(w.alloc (.deferred (some []))).alloc (.loop lp)
 obtain⟨v1,x1,n1⟩:=OY hR.val .mark (.deferred (some [])) (show w.heap.size<(w.alloc _).heap.size by simp)
 let M1:=aQ M (.h s.heap.length) (.obj w.heap.size [])
 let s1:St:={ s with heap:=s.heap++[.mark] }
 have nV:Rel M0 h0 w0 nt M1 s1 a (w.alloc (.deferred (some []))):=hR.next hB v1 x1 rfl rfl (jQ n1);have OZ:s1.heap.length=s.heap.length+1:=by simp[s1]
 have a96:(w.alloc (.deferred (some []))).heap.size=w.heap.size+1:=by simp
 have a97:jF (aQ M1 (.h s1.heap.length) (.obj (w.alloc (.deferred (some []))).heap.size [])).h w1 (.loop true f nt s.env ps.toList mG body none) (.obj (w.alloc (.deferred (some []))).heap.size []):=by
  refine⟨lp,heap_alloc_new _ _,?_⟩;exact
   {ps:=rfl,mG:=rfl,body:=rfl,size:=hR.size
    BI:=fun t v hl=>by
     have h1:=(nV.env t _ hl).lZ;have hm:lG M1 (aQ M1 (.h s1.heap.length) (.obj (w.alloc (.deferred (some []))).heap.size [])):=iI fun l0 h0=>by
      rw[nV.nh] at h0;cases h0
     exact h1.mono hm.h
    Ii:=fun t hl=>by
     have h1:=hR.env t _ hl;show a.tmps.getD t Go.undef=Go.undef;generalize a.tmps.getD t Go.undef=z at h1;cases h1;rfl
    nol:=fun t k o hl=>by rcases QG hv hl with⟨v,e⟩ | e<;>cases e
    ready:=fun _=>⟨rfl,rfl⟩
    busy:=by simp
    done:=by simp }
 obtain⟨v2,x2,n2⟩:=OY nV.val (.loop true f nt s.env ps.toList mG body none) (.loop lp) a97
 let M2:=aQ M1 (.h s1.heap.length) (.obj (w.alloc (.deferred (some []))).heap.size [])
 let s2:St:={ s1 with heap:=s1.heap++[.loop true f nt s.env ps.toList mG body none] }
 have QH:Rel M0 h0 w0 nt M2 s2 a w1:=nV.next hB v2 x2 rfl rfl (jQ n2);have abN:=hR.long;have hmk:M2 (.h s.heap.length)=some (.obj w.heap.size []):=by
  simp only[M2,M1,aQ,OZ];simp
 have GN:Rel M0 h0 w0 nt M2 s2 { a with defers:=[{ target:=.collected w.heap.size,args:=#[] }]++a.defers } w1:=by
  refine⟨QH.val,QH.ext,QH.env,QH.size,fun d hd=>?_,?_⟩
  ·rcases List.mem_cons.1 hd with rfl | hd
   ·refine⟨s.heap.length,w.heap.size,rfl,by simp[iD,St.get];omega,⟨_,hmk⟩,by simp[s2,s1,St.get],?_⟩;have e1:w1.heap[w.heap.size]? = (w.alloc (.deferred (some []))).heap[w.heap.size]?:=jM _ _ _ (by simp);rw[e1];exact heap_alloc_new _ _
   ·exact QH.marks d hd
  ·refine List.pairwise_cons.2 ⟨fun d hd e=>?_,QH.apart⟩;obtain⟨k,r',e1,_,_,_,e5⟩:=hR.marks d hd;rw[e1] at e;have:w.heap.size=r':=by injection e with e e';injection e
   have:=(Array.getElem?_eq_some_iff.1 e5).1;omega
 have SA:M2 (.h (s.heap.length+1))=some (.obj (w.heap.size+1) []):=by
  simp only[M2,aQ,OZ,a96,if_true]
 have a98:s2.heap=s.heap++[.mark,.loop true f nt s.env ps.toList mG body none]:=by simp[s2,s1]
 rw[<-a98] at hC;have hV2:=wY GN.val (fun _ _ _=>trivial);have hgx:VR M2.only.h (.fn f1 a1 b1) (a.eval g):=(LU GN.env hg);have hyx:aH M2.only.h [.jk (s.heap.length+1)] [.func (.yield (w.heap.size+1)) #[] #[]]:=.cons (.jk SA) .nil;obtain⟨d,hd,yt⟩:=hC M2.only w1 (a.eval g) [.func (.yield (w.heap.size+1)) #[] #[]] hV2 (fun _=>rfl) hgx hyx;obtain⟨f3,as3,hinv,pK⟩:=yt;refine⟨w.heap.size+1,[{ target:=.collected w.heap.size,args:=#[] }],w1,d,w1,f3,as3,w1,?_,?_,fun _ _=>trivial,hinv,fun h=>by simp[Fence.wide] at h,?_⟩
 ·simp[Instr.enterLoop,newObj,Sem.run,w1,lp]
 ·have:=hd w1;simpa[resolve,rangeCall,Act.eval] using this
 ·refine CallsIn.mono (F:=jD none) (pK (n-1)) fun en w3 QI=>?_;cases en with
  | panicked c=>exact QI.elim
  | outgrown=>exact QI.elim
  | returned y=>
   obtain⟨v,h,ws,hk,QI⟩:=QI;obtain⟨rd,f2,Dn,e2,rY,a2,b2,gK,e,hh,hj,hq⟩:=hK v h ws hk;obtain⟨M3,hp⟩:=GH GN.val GN.loc (show eP M2.only s2.heap w1 v h ws y w3 from QI);have hR3:Rel M0 h0 w0 nt M3 { s2 with heap:=h,ws:=dn h0.length (ws.map .h) s.ws } _ w3:=GN.next hB (s':={ s2 with heap:=h,ws:=dn h0.length (ws.map .h) s.ws }) (hp.val.sub fun _ _=>.inl trivial) hp.ext rfl rfl hp.loc;obtain⟨l',g1,g2⟩:=hp.ext.zN _ _ SA;obtain⟨q3,hl3⟩:∃ q3,M3 (.h (s.heap.length+1))=some (.obj (w.heap.size+1) q3):=by
    cases l' with
    | cells ls=>exact g2.elim
    | obj r' o'=>cases g2.1;exact⟨o',g1⟩
   obtain⟨cO,k1,k2⟩:=hR3.val.ok _ _ hl3 trivial;have k1':cO=.loop rd f2 Dn e2 rY a2 b2 gK:=by
    simp only[St.get,hh,Option.some.injEq] at k1;exact k1.symm
   subst k1';obtain⟨WY,l1,l2⟩:=k2;have LC:WY.state≠.busy∧WY.pending=mP e:=by
    unfold Dl at hj;split at hj
    ·cases hj;obtain⟨q1,q2⟩:=l2.ready rfl;exact⟨by rw[q1];simp,q2⟩
    ·cases hj;obtain⟨q1,q2⟩:=l2.done rfl _ rfl (by simp);exact⟨by rw[q1];simp,q2⟩
    ·cases hj;obtain⟨q1,q2⟩:=l2.done rfl _ rfl (by simp);exact⟨by rw[q1];simp,q2⟩
    ·cases hj
   obtain⟨v4,x4⟩:=uY (s:={ s2 with heap:=h,ws:=dn h0.length (ws.map .h) s.ws }) hR3.val hl3 hh rfl (b':=.loop false f2 Dn e2 rY a2 b2 (some .skip)) (o':=.loop { WY with state:=.exhausted }) ⟨{ WY with state:=.exhausted },by simp[(Array.getElem?_eq_some_iff.1 l1).1],
    {ps:=l2.ps,mG:=l2.mG,body:=l2.body,size:=l2.size,BI:=l2.BI,Ii:=l2.Ii,nol:=l2.nol,ready:=by simp,busy:=by simp,done:=fun _ j hj dZ=>by simp at hj;exact absurd hj.symm dZ }⟩
   have hR4:=hR3.next hB (s':={ s with heap:=h.set (s.heap.length+1) (.loop false f2 Dn e2 rY a2 b2 (some .skip)),ws:=dn h0.length (ws.map .h) s.ws }) v4 x4 rfl
    (by simp only[dn,xM];rw[if_neg (by omega)]) (fun _ _ h=>h)
   refine⟨WY.pending,{ w3 with heap:=w3.heap.setIfInBounds (w.heap.size+1) (.loop { WY with state:=.exhausted }) },?_,?_⟩
   ·have h1:=LC.1;cases jT:WY.state<;>simp_all [Instr.endLoop,Instr.getLoop,getObj,setObj,Sem.run]<;>rfl
   ·have h2:=hQ _ _ _ _ _ hq hR4;have h3:=LC.2;generalize WY.pending=pe at h2 h3 ⊢;subst h3;cases e with
    | norm=>exact h2
    | ret=>exact wpIn_ret h2
    | exit id=>exact wpIn_exit h2
theorem U8 (hC:aj P call) (hB:lK M0 h0 w0) {g:Operand} {ps:Array Tmp} {mG body:Code} {s s':St} {e:Ex} {f1:FuncId} {a1 b1:List TV} {v:TV} {h:List HB} {ws:List Nat} {rd:Bool} {f2 Dn:Nat} {e2:List (Nat×EV)} {rY:List Nat} {a2 b2:Code} {gK:Option Code}
  (hg:lJ s.env g=some (.fn f1 a1 b1)) (hv:s.env.all isVal=true) (nZ:call (.fn f1 a1 b1) [.jk (s.heap.length+1)] (s.heap++[.mark,.loop true f nt s.env ps.toList mG body none])=some (v,h,ws))
  (hh:h[s.heap.length+1]? = some (.loop rd f2 Dn e2 rY a2 b2 gK)) (hj:Dl rd gK=some e)
  (hs:s'={ s with heap:=h.set (s.heap.length+1) (.loop false f2 Dn e2 rY a2 b2 (some .skip)),ws:=dn h0.length (ws.map .h) s.ws }) :
  IC P M0 h0 w0 nt none (.rangeFunc g ps mG body) s e s':=by
 intro n Q M a w hR hQ;refine GR (f:=f) (s:=s) hB (K:=fun v' h' FK=>v'=v∧h'=h∧FK=ws) (QT:=fun e1 s1=>e1=e∧s1=s') hg hv (fun M w x xs hV hl hx yj=>?_) ?_ n Q M a w hR ?_
 ·obtain⟨d,hd,yt⟩:=hC _ _ _ _ _ _ nZ M w x xs hV hl hx yj;refine⟨d,hd,?_⟩;rcases yt with⟨⟨f3,as3,h1,h2⟩,_⟩ | ⟨_,_,hx⟩
  ·refine⟨f3,as3,h1,fun n=>CallsIn.mono (F:=jD none) (h2 n) fun en w3 QI=>?_⟩;cases en with
   | panicked c=>exact QI.elim
   | outgrown=>exact QI.elim
   | returned y=>exact⟨v,h,ws,⟨rfl,rfl,rfl⟩,QI⟩
  ·cases hx
 ·rintro _ _ _ ⟨rfl,rfl,rfl⟩;exact⟨_,_,_,_,_,_,_,_,_,hh,hj,rfl,hs.symm⟩
 ·rintro _ _ M' a' w' ⟨rfl,rfl⟩ sD;exact hQ M' a' w' sD
theorem jV (hm:P.follows .mixedOrders=true) (hC:aj P call) (hB:lK M0 h0 w0) (hr:eu=false->r=none):∀ (c:Code) (s s':St) (e:Ex),exec P T call L f eu h0.length nt c s=some (e,s')->IC P M0 h0 w0 nt r c s e s':=by
 intro c
 induction c with
 | skip=>
  intro s s' e h n Q M a w hR hQ;simp only[exec,Option.some.injEq,Prod.mk.injEq] at h;obtain⟨rfl,rfl⟩:=h;exact wpIn_skip (hQ _ _ _ hR)
 | label l=>
  intro s s' e h n Q M a w hR hQ;simp only[exec,Option.some.injEq,Prod.mk.injEq] at h;obtain⟨rfl,rfl⟩:=h;exact wpIn_label (hQ _ _ _ hR)
 | exit id=>
  intro s s' e h n Q M a w hR hQ;simp only[exec,Option.some.injEq,Prod.mk.injEq] at h;obtain⟨rfl,rfl⟩:=h;exact wpIn_exit (hQ _ _ _ hR)
 | ret=>
  intro s s' e h n Q M a w hR hQ;simp only[exec,Option.some.injEq,Prod.mk.injEq] at h;obtain⟨rfl,rfl⟩:=h;exact wpIn_ret (hQ _ _ _ hR)
 | region id ops draw=>
  intro s s' e h n Q M a w hR hQ;simp only[exec] at h;split at h
  ·rename_i s1 nU kE;split at h
   ·rename_i hd;simp only[Option.some.injEq,Prod.mk.injEq] at h;obtain⟨rfl,rfl⟩:=h;cases draw with
    | false=>exact QD hC hB kE hR fun M' a' w' sD _=>hQ _ _ _ (sD.pick _)
    | true=>
     simp only[Bool.not_true,Bool.false_or,Bool.and_eq_true] at hd;exact MR hC hB hm kE hd.1 hd.2 hR fun M' a' w' sD _=>hQ _ _ _ (sD.pick _)
   simp at h
  simp at h
 | seq x y JO ihy=>
  intro s s' e h n Q M a w hR hQ;simp only[exec] at h;split at h
  ·rename_i s1 hx;exact wpIn_seq (JO s s1 .norm hx n _ M a w hR fun M1 a1 w1 nV=>ihy s1 s' e h n Q M1 a1 w1 nV hQ)
  rename_i dZ;refine wpIn_seq (JO s s' e h n _ M a w hR fun M1 a1 w1 nV=>?_);cases e with
  | norm=>exact (dZ s' h).elim
  | exit id=>exact hQ _ _ _ nV
  | ret=>exact hQ _ _ _ nV
 | cond c x y JO ihy=>
  intro s s' e h n Q M a w hR hQ;simp only[exec] at h;have hev:∀ b,lJ s.env c=some (.bool b)->a.eval c=.bool b:=by
   intro b hb;have:=LU hR.env hb;generalize a.eval c=z at this;cases this;rfl
  split at h
  ·rename_i hc;exact wpIn_cond_true (hev _ hc) (JO s s' e h n Q M a w hR hQ)
  ·rename_i hc;exact wpIn_cond_false (hev _ hc) (ihy s s' e h n Q M a w hR hQ)
  simp at h
 | block id b ih=>
  intro s s' e h n Q M a w hR hQ;simp only[exec] at h;split at h
  ·rename_i i s1 hb;simp only[Option.some.injEq,Prod.mk.injEq] at h;obtain⟨rfl,rfl⟩:=h;refine wpIn_block (ih s s1 (.exit i) hb n _ M a w hR fun M1 a1 w1 nV=>?_);have:=hQ _ _ _ nV;by_cases hi:i=id
   ·simp only[hi,if_true] at this;simp only[MS,Exit.inBlock,hi,if_true];exact this
   simp only[hi,if_false] at this;simp only[MS,Exit.inBlock,hi,if_false];exact this
  rename_i dZ;refine wpIn_block (ih s s' e h n _ M a w hR fun M1 a1 w1 nV=>?_);cases e with
  | norm=>exact hQ _ _ _ nV
  | exit i=>exact (dZ i s' h).elim
  | ret=>exact hQ _ _ _ nV
 | scope b ih=>
  intro s s' e h n Q M a w hR hQ;simp only[exec] at h;refine DZ (ih s s' e h n _ M a w hR fun M1 a1 w1 nV=>?_);have:=hQ _ _ _ nV;cases e<;>exact this
 | loop b ih=>
  intro s s' e h;simp only[exec] at h;exact Cj hB (live:=T.dG f (bZ b)) (fun s e s' hs=>ih _ _ _ hs) h
 | rangeFunc g ps mG body iha ihb=>
  intro s s' e h;simp only[exec] at h;split at h
  ·rename_i f1 a1 b1 hg;split at h
   ·rename_i hv;simp only[Bool.and_eq_true,Bool.not_eq_true'] at hv;rw[hr hv.2];split at h
    ·rename_i v h1 ws nZ;split at h
     ·rename_i rd f2 Dn e2 rY a2 b2 gK hh;split at h
      ·rename_i e' hj;simp only[Option.some.injEq,Prod.mk.injEq] at h;obtain⟨rfl,rfl⟩:=h;exact U8 hC hB hg hv.1 nZ hh hj rfl
      simp at h
     simp at h
    simp at h
   simp at h
  simp at h
 | _=>intro s s' e h;simp[exec] at h
end
def QJ (tmps:Array Value):ResultVar->Sem Value
 | .tmp t=>pure (tmps.getD t Go.undef)
 | .cell b t=>do loadVar t (<-asAddr (tmps.getD b Go.undef))
theorem MV (fn:Func) (tmps:Array Value):results fn tmps=(do
  let vs <-fn.results.mapM (QJ tmps)
  pure (if h:vs.size=1 then vs[0] else .tuple vs)):=by
 have key:∀ g:ResultVar->Sem Value,(∀ r,g r=QJ tmps r)->(do
   let vs <-fn.results.mapM g
   pure (if h:vs.size=1 then vs[0] else Value.tuple vs):Sem Value)=(do
   let vs <-fn.results.mapM (QJ tmps)
   pure (if h:vs.size=1 then vs[0] else Value.tuple vs)):=fun g hg=>by rw[show g=QJ tmps from funext hg]
 exact key _ fun r=>by cases r<;>rfl
section
variable {P:Program} {T:iF} {call:ay} {L:Nat} {nt:Nat} {M0:Mp} {h0:List HB} {w0:World} {M:Mp} {s:St} {a:Act} {w:World}
theorem E5 (hR:Rel M0 h0 w0 nt M s a w) {r:ResultVar} {v:TV} (h:SV P s r=some v) :
  ∃ x,VR M.h v x∧(QJ a.tmps r).run P w=.ok x w:=by
 unfold SV at h;split at h
 ·rename_i t;split at h
  ·rename_i v' hv;simp only[Option.some.injEq] at h;subst h;exact⟨_,(hR.env t _ hv).lZ,rfl⟩
  ·simp at h
 ·rename_i b t;split at h
  ·rename_i e he;simp only[Option.map_eq_some_iff] at h;obtain⟨⟨v',i⟩,hl,rfl⟩:=h;have hx:=hR.env b _ he;obtain⟨_,y,h1,h2⟩:=xR hR.val hl hx (fun _ _=>trivial);refine⟨y,h1,?_⟩;show (do loadVar t (<-asAddr (a.tmps.getD b Go.undef)):Sem Value).run P w=_;generalize a.tmps.getD b Go.undef=z at hx h2;have hz:∃ ad,z=.pointer (some ad):=by
    cases hx with
    | loc hm hb=>exact⟨_,rfl⟩
    | undef=>simp[loadT] at hl
    | val hv=>
     cases hv with
     | ptr=>exact⟨_,rfl⟩
     | _=>simp[loadT] at hl
   obtain⟨ad,rfl⟩:=hz;simpa[asAddr,Instr.loadAt,Instr.sureAddr] using h2
  ·simp at h
theorem P5 (hR:Rel M0 h0 w0 nt M s a w):∀ {rs:List ResultVar} {vs:List TV},l9 P s rs=some vs ->
  ∃ xs,aH M.h vs xs∧(rs.mapM (QJ a.tmps)).run P w=.ok xs w
 | [],vs,h=>by simp[l9] at h;subst h;exact⟨[],.nil,by simp⟩
 | r::rs,vs,h=>by
  simp only[l9] at h;split at h
  ·rename_i v vs' h1 h2;simp only[Option.some.injEq] at h;subst h;obtain⟨x,g1,g2⟩:=E5 hR h1;obtain⟨xs,g3,g4⟩:=P5 hR h2;exact⟨x::xs,.cons g1 g3,by simp only[List.mapM_cons,Sem.run_bind,g2,g4,Result.andThen_ok,Sem.run_pure]⟩
  ·simp at h
theorem xg (hR:Rel M0 h0 w0 nt M s a w) {fn:Func} {vs:List TV} (h:l9 P s fn.results.toList=some vs):∃ y,VR M.h (one vs) y∧(results fn a.tmps).run P w=.ok y w:=by
 obtain⟨xs,h1,h2⟩:=P5 hR h;have kE:(results fn a.tmps).run P w=.ok (if h:xs.toArray.size=1 then xs.toArray[0] else .tuple xs.toArray) w:=by
  rw[MV,Array.mapM_eq_mapM_toList];simp only[Sem.run_bind,Sem.run_map,h2,Result.andThen_ok,Sem.run_pure]
 refine⟨_,?_,kE⟩
 match vs,xs,h1 with
 | [],xs,h1=>
  have:=h1.jr;subst this;exact .FV .nil
 | [v],xs,h1=>
  obtain⟨x,xs',rfl,hx,FX⟩:=h1.dJ;have:=FX.jr;subst this;exact hx
 | v::v'::vs,xs,h1=>
  obtain⟨x,xs',rfl,hx,FX⟩:=h1.dJ;obtain⟨x',aee,rfl,hy,hy'⟩:=FX.dJ;simp only[one,List.size_toArray,List.length_cons];rw[dif_neg (by omega)];exact .FV h1
theorem QK (hB:lK M0 h0 w0) {d:Deferred} {ds:List Deferred} (hR:Rel M0 h0 w0 nt M s a w) (hd:a.defers=d::ds) :
  ∃ r w',d.target=.collected r∧(Instr.takeDeferred r).run P w=.ok [] w'∧Rel M0 h0 w0 nt M s { a with defers:=ds } w':=by
 obtain⟨k,r,rfl,h2,⟨o,h3⟩,h4,h5⟩:=hR.marks d (by rw[hd];exact List.mem_cons_self);have aN:=(Array.getElem?_eq_some_iff.1 h5).1;have hap:=hR.apart;rw[hd] at hap;obtain⟨ha1,ha2⟩:=List.pairwise_cons.1 hap;refine⟨r,{ w with heap:=w.heap.setIfInBounds r (.deferred none) },rfl,?_,?_⟩
 ·simp[Instr.takeDeferred,getObj,setObj,Sem.run,h5]
 have MW:∀ c,c≠r->(w.heap.setIfInBounds r (.deferred none))[c]? = w.heap[c]?:=fun c hc=>by
  rw[Array.getElem?_setIfInBounds,if_neg (fun e=>hc e.symm)]
 refine⟨⟨?_,hR.val.own,fun k l hk c hc=>by simpa using hR.val.inb k l hk c hc⟩,?_,hR.env,hR.size,?_,ha2⟩
 ·intro k' l jH _;obtain⟨b,g1,g2⟩:=hR.val.ok k' l jH trivial;refine⟨b,g1,?_⟩;by_cases vU:r∈ah l
  ·cases b with
   | cells kk cs=>
    cases l with
    | obj r' _=>exact g2.elim
    | cells ls=>
     obtain⟨p,hp,e⟩:=List.mem_map.1 vU;obtain⟨arr,ty,fz,e1,_⟩:=(g2.2.1 p hp).row;rw[e,h5] at e1;cases e1
   | rV cs=>
    cases l with
    | obj r' _=>exact g2.elim
    | cells ls=>
     obtain⟨p,hp,e⟩:=List.mem_map.1 vU;obtain⟨_,_,g2⟩:=g2;obtain⟨arr,ty,fz,e1,_⟩:=(g2.2.1 p hp).row;rw[e,h5] at e1;cases e1
   | map es=>
    cases l with
    | cells ls=>exact g2.elim
    | obj r' _=>
     simp[ah] at vU;subst vU;obtain⟨xs,e1,_⟩:=g2;rw[h5] at e1;cases e1
   | bn m n seen=>
    cases l with
    | cells ls=>exact g2.elim
    | obj r' _=>
     simp[ah] at vU;subst vU;obtain⟨_,_,_,_,e1,_⟩:=g2;rw[h5] at e1;cases e1
   | loop rd f nt env ps a b gK=>
    cases l with
    | cells ls=>exact g2.elim
    | obj r' _=>
     simp[ah] at vU;subst vU;obtain⟨lp,e1,_⟩:=g2;rw[h5] at e1;cases e1
   | mark=>
    cases l with
    | cells ls=>exact g2.elim
    | obj r' _=>
     show r'<(w.heap.setIfInBounds r (.deferred none)).size;have g2':r'<w.heap.size:=g2;simpa using g2'
  ·exact g2.mono (.refl _) fun c hc=>MW c fun e=>vU (e▸hc)
 ·have hX:=hR.ext;refine⟨hX.zN,fun c hc hf=>?_,hX.iC,hX.gZ,hX.fresh,by simpa using hX.size,hX.has,hX.wsub,hX.wrote,hX.os,hX.output,hX.tape⟩;rw[<-hX.frame c hc hf];refine MW c fun e=>?_;obtain⟨l0,g1,_⟩:=hX.fresh _ _ h3 c (by simp[ah,e]) hc;have:=hB.val.has g1;rw[h2] at this;cases this
 ·intro d' MF;obtain⟨k',r',e1,e2,e3,e4,e5⟩:=hR.marks d' (by rw[hd];exact List.mem_cons_of_mem _ MF);refine⟨k',r',e1,e2,e3,e4,?_⟩;rw[MW r' fun e=>ha1 d' MF (by rw[e1,e]),e5]
theorem yE (hB:lK M0 h0 w0) {F:Fence} {n:Nat} {fn:Func} {R:Ending->World->Prop}:∀ (ds:List Deferred) (a:Act) (w:World),a.defers=ds->Rel M0 h0 w0 nt M s a w ->
  (∀ w',Rel M0 h0 w0 nt M s { a with defers:=[] } w'->∃ v,(results fn a.tmps).run P w'=.ok v w'∧R (.returned v) w')->LeavesInM F n P fn a.tmps R ds .returning w
 | [],a,w,hd,hR,hK=>by
  simp only[LeavesInM,LeavesIn];exact hK w (by
   have:a={ a with defers:=[] }:=by cases a;simp at hd;subst hd;rfl
   rw[<-this];exact hR)
 | d::ds,a,w,hd,hR,hK=>by
  obtain⟨r,w',h1,h2,h3⟩:=QK (P:=P) hB hR hd;refine⟨by simp,.inl ⟨r,w',h1,h2,?_⟩⟩;exact yE hB ds { a with defers:=ds } w' rfl h3 hK
end
theorem U9 {N N':Np} {v:TV} {y:Value} (h:v.Df=true) (hv:VR N v y):VR N' v y:=by
 cases hv<;>first | (constructor;done) | (simp[TV.Df] at h;done)
theorem QL {N N':Np} {vs:List TV} {ys:List Value} (h:vs.all TV.Df=true) (hv:aH N vs ys):aH N' vs ys:=
 ⟨hv.len,fun i c v h1 h2=>U9 (List.all_eq_true.1 h c (List.mem_of_getElem? h1)) (hv.at_ i c v h1 h2)⟩
theorem JQ {N N':Np} {v:TV} {y:Value} (h:v.Js=true) (hv:VR N v y):VR N' v y:=by
 cases hv with
 | agg h1 h2=>exact .agg' (QL h ⟨h1,h2⟩)
 | _=>first | (constructor;done) | (simp[TV.Js,TV.Df] at h;done)
theorem Xm {N N':Np} {v:TV} {y:Value} (h:v.flat=true) (hv:VR N v y):VR N' v y:=by
 cases hv with
 | bH h1 h2=>
  simp only[TV.flat] at h;exact .bH h1 fun i c v e1 e2=>JQ (List.all_eq_true.1 h c (List.mem_of_getElem? e1)) (h2 i c v e1 e2)
 | agg h1 h2=>exact JQ h (.agg h1 h2)
 | _=>first | (constructor;done) | (simp[TV.flat,TV.Js,TV.Df] at h;done)
section
variable {P:Program} {T:iF} {call:ay} {L:Nat} {nt:Nat} {M:Mp} {h:List HB} {w:World} {M':Mp} {s:St} {a:Act} {w':World}
theorem IE (hB:lK M h w) (hR:Rel M h w nt M' s a w') {v:TV} {y:Value} (hv:VR M'.h v y):eP M h w v s.heap s.ws y w':=by
 refine⟨M'.only,wY hR.val (fun _ _ _=>trivial),fun _=>rfl,?_,hv⟩;have hX:=hR.ext;have hk:∀ k,(iD h k).isSome=true->∃ b,k=.h b:=fun k hk=>let ⟨b,e,_⟩:=sW hk;⟨b,e⟩
 exact
  {zN:=fun k l hl=>by
    cases k with
    | l j=>rw[hB.loc j] at hl;cases hl
    | h b=>exact hX.zN _ _ hl
   frame:=hX.frame
   iC:=fun k e hn=>by obtain⟨b,rfl⟩:=hk k e;exact hX.iC _ e hn
   gZ:=fun k e hn=>by
    cases k with
    | h b=>exact hX.gZ (.h b) e hn
    | l j=>exact (hB.loc j).symm
   fresh:=fun k l hl=>by
    cases k with
    | h b=>exact hX.fresh (.h b) l hl
    | l j=>cases hl
   size:=hX.size
   has:=fun k e=>by obtain⟨b,rfl⟩:=hk k e;exact hX.has _ e
   wsub:=hX.wsub
   wrote:=hX.wrote
   os:=hX.os
   output:=hX.output
   tape:=hX.tape }
theorem Ua (hB:lK M h w) (hR:Rel M h w nt M' s a w') (Sl:s.ws=[]) {v:TV} {y:Value} (hv:VR M'.h v y) (hf:v.flat=true):eP M h w v h [] y w':=by
 have hX:=hR.ext;rw[Sl] at hX;have MX:∀ c,c<w.heap.size->w'.heap[c]? = w.heap[c]?:=fun c hc=>hX.frame c hc (by simp);refine⟨M,⟨fun k l hk _=>?_,hB.val.own,fun k l hk c hc=>Nat.lt_of_lt_of_le (hB.val.inb k l hk c hc) hX.size⟩,hB.loc,?_,Xm hf hv⟩
 ·obtain⟨b,h1,h2⟩:=hB.val.ok k l hk trivial;exact⟨b,h1,h2.mono (.refl _) fun c hc=>MX c (hB.val.inb k l hk c hc)⟩
 exact⟨.refl _,fun c hc _=>MX c hc,fun _ _ _=>rfl,fun _ _ _=>rfl,fun k l hk c hc _=>⟨l,hk,hc⟩,hX.size,fun _ e=>e,by simp,by simp,hX.os,hX.output,hX.tape⟩
theorem uZ {N:Np}:∀ {args:List TV} {xs:List Value} {k t:Nat} {e:EV},aH N args xs->aT t (gu k args)=some e->∃ i v x,t=k+i∧e=.val v∧xs[i]? = some x∧VR N v x
 | [],xs,k,t,e,h,hl=>by simp[gu,aT] at hl
 | v::vs,xs,k,t,e,h,hl=>by
  obtain⟨x,xs',rfl,h1,h2⟩:=h.dJ;simp only[gu,aT] at hl;split at hl
  ·rename_i hk;cases hl;exact⟨0,v,x,by omega,rfl,rfl,h1⟩
  obtain⟨i,v',x',e1,e2,e3,e4⟩:=uZ h2 hl;exact⟨i+1,v',x',by omega,e2,by simpa using e3,e4⟩
theorem E8 (hm:P.follows .mixedOrders=true) (hC:aj P call) {f:Nat} {args:List TV} {v:TV} {h':List HB} {ws:List Nat} (hf:SX P T call L f args h=some (v,h',ws)) (hB:lK M h w) {xs:List Value} (hx:aH M.h args xs) :
  ∃ fn c, P.funcs[f]? = some fn ∧ (fn.name == "runtime.NumGoroutine") = false ∧ fn.body = some c ∧ ∀ n, CallsIn Fence.wide n P f xs.toArray w (yh (eP M h w v h' ws)) := by
 unfold SX FU at hf;split at hf
 ·rename_i t ht;split at ht
  ·rename_i fn hfn;split at ht
   ·cases ht
   ·rename_i JR;split at ht
    ·rename_i c hc;cases ht;refine⟨fn,c,hfn,by simpa using JR,hc,fun n=>?_⟩;have SG:Rel M h w fn.ntmps M ⟨gu 0 args,[],h,[]⟩ { tmps:=xs.toArray++Array.replicate (fn.ntmps-xs.toArray.size) Go.undef,defers:=[] } w:=by
      have hg:St.get ⟨gu 0 args,[],h,[]⟩=iD h:=getEnv ⟨[],[],h,[]⟩ _ _;refine⟨by rw[hg];exact hB.val,by rw[hg];exact .refl _ _ _,fun t e hl=>?_,by simp;omega,by simp,.nil⟩;obtain⟨i,v',x,e1,rfl,e3,e4⟩:=uZ hx hl;have hi:i<xs.length:=(List.getElem?_eq_some_iff.1 e3).1;have:(xs.toArray++Array.replicate (fn.ntmps-xs.toArray.size) Go.undef).getD t Go.undef=x:=by
       rw[Array.getD_eq_getD_getElem?,Array.getElem?_append_left (by simp;omega)];have:t=i:=(by omega);subst this;simp[e3]
      rw[this];exact .val e4
     have BO:∀ (s:St),(match l9 P s fn.results.toList with
       | some vs=>if s.ws.isEmpty&&(one vs).flat then some (one vs,h,[]) else some (one vs,s.heap,s.ws)
       | none=>none)=some (v,h',ws)->∀ (M':Mp) (a':Act) (w':World),Rel M h w fn.ntmps M' s a' w'->LeavesInM Fence.wide n P fn a'.tmps (yh (eP M h w v h' ws)) a'.defers .returning w':=by
      intro s hs M' a' w' sD;split at hs
      ·rename_i vs Jl;refine yE hB a'.defers a' w' rfl sD fun w'' IG=>?_;obtain⟨y,g1,g2⟩:=xg (P:=P) IG Jl;refine⟨y,g2,?_⟩;split at hs
       ·rename_i TG;simp only[Bool.and_eq_true,List.isEmpty_iff] at TG;simp only[Option.some.injEq,Prod.mk.injEq] at hs;obtain⟨rfl,rfl,rfl⟩:=hs;exact Ua hB IG TG.1 g1 TG.2
       ·simp only[Option.some.injEq,Prod.mk.injEq] at hs;obtain⟨rfl,rfl,rfl⟩:=hs;exact IE hB IG g1
      ·cases hs
     refine callsIn_of_wp_marks (F:=Fence.wide) hfn hc trivial ?_;split at hf
     ·rename_i s hex;exact jV (eu:=false) hm hC hB (fun _=>rfl) _ _ _ _ hex n _ M _ w SG fun M' a' w' sD=>BO s hf M' a' w' sD
     ·rename_i s hex;exact jV (eu:=false) hm hC hB (fun _=>rfl) _ _ _ _ hex n _ M _ w SG fun M' a' w' sD=>BO s hf M' a' w' sD
     ·cases hf
    ·cases ht
  ·cases ht
 ·cases hf
end
open Go.ChangeMaps
def qW (ops:Array Oper):Option (Nat×Nat×Oper×Oper):=
 match ops.toList with
 | [a,b]=>match a.op,a.dst,a.guard with
  | .next (.tmp it) false,some nx,none=>if a.after.toList.all (fun e=>!Region.binds .any e)&&b.after.toList.any (fun e=>Region.binds .any e&&e.on==0)&&b.after.toList.all (fun e=>!Region.binds .any e||e.on==0) then some (it,nx,a,b) else none
  | _,_,_=>none
 | _=>none
def P6 (fl:Nat) (s:St) (it:Nat) (K:St->TV->Prop):Prop:=
 ∃ b r n seen es,aT it s.env=some (.val (.iter b))∧s.heap[b]? = some (.bn r n seen)∧s.heap[r]? = some (.map es)∧es.length=n ∧
  ((∀ j,j<n->j∈seen)->K s (.bH [.bool false])) ∧
  ∀ j e,j∉seen->es[j]? = some e->K { s with heap:=s.heap.set b (.bn r n (j::seen)),ws:=dn fl [.h b] s.ws } (.bH [.bool true,e.1,e.2])
def yF (g:St->(Ex->St->Prop)->Prop):Nat->St->(Ex->St->Prop)->Prop
 | 0,_,_=>False
 | n+1,s,Q=>g s fun e s=>match e with
  | .norm=>yF g n s Q
  | e=>Q e s
abbrev og:=TV->List TV->List HB->(TV->List HB->List Nat->Prop)->Prop
def MZ:og:=fun _ _ _ _=>False
def Ub (T:iF) (env:List (Nat×EV)) (g:Operand):Bool:=match lJ env g with
 | some (.fn f1 _ _)=>T.din.contains f1
 | _=>false
def a1u (cd:og) (f fl nt:Nat) (g:Operand) (ps:Array Tmp) (mG body:Code) (s:St) (Q:Ex->St->Prop):Prop:=
 ∃ f1 a1 b1,lJ s.env g=some (.fn f1 a1 b1)∧s.env.all isVal=true∧cd (.fn f1 a1 b1) [.jk (s.heap.length+1)] (s.heap++[.mark,.loop true f nt s.env ps.toList mG body none]) fun _ h ws=>
  ∃ rd f2 Dn e2 rY a2 b2 gK e,h[s.heap.length+1]? = some (.loop rd f2 Dn e2 rY a2 b2 gK)∧Dl rd gK=some e∧Q e { s with heap:=h.set (s.heap.length+1) (.loop false f2 Dn e2 rY a2 b2 (some .skip)),ws:=dn fl (ws.map .h) s.ws }
def bJ (P:Program) (T:iF) (call:ay) (cd:og) (L:Nat) (f:Nat) (fl nt:Nat):Code->St->(Ex->St->Prop)->Prop
 | .region id ops draw,s,Q=>match qW ops with
  | some (it,nx,_,b)=>nx<nt∧P6 fl s it fun s v=>∃ s2 is,dN P call (fun d=>T.zL f d) fl nt ops [b] (s.put (some nx) (.val v))=some (s2,is)∧Q .norm { s2 with env:=pick (T.fO f id) s2.env }
  | none=>∃ e s',exec P T call L f false fl nt (.region id ops draw) s=some (e,s')∧Q e s'
 | .seq a b,s,Q=>bJ P T call cd L f fl nt a s fun e s=>match e with
  | .norm=>bJ P T call cd L f fl nt b s Q
  | e=>Q e s
 | .cond c a b,s,Q=>match lJ s.env c with
  | some (.bool true)=>bJ P T call cd L f fl nt a s Q
  | some (.bool false)=>bJ P T call cd L f fl nt b s Q
  | _=>False
 | .block id b,s,Q=>bJ P T call cd L f fl nt b s fun e s=>Q (match e with | .exit i=>if i=id then .norm else .exit i | e=>e) s
 | .scope b,s,Q=>bJ P T call cd L f fl nt b s Q
 | .loop b,s,Q=>yF (fun s Q=>bJ P T call cd L f fl nt b (dO (T.dG f (bZ b)) s) Q) L s Q
 | .rangeFunc g ps mG body,s,Q=>if Ub T s.env g=true then a1u cd f fl nt g ps mG body s Q else ∃ e s',exec P T call L f false fl nt (.rangeFunc g ps mG body) s=some (e,s')∧Q e s'
 | c,s,Q=>∃ e s',exec P T call L f false fl nt c s=some (e,s')∧Q e s'
section
variable {P:Program} {T:iF} {call:ay} {L f:Nat} {nt:Nat} {M0:Mp} {h0:List HB} {w0:World} {r:Option Nat} {ops:Array Oper} {M:Mp} {s:St} {a:Act} {w:World}
theorem a1v (hm:P.follows .mixedOrders=true) {id:Nat} {o1 o2:Oper} {draw:Bool} {F:Fence} {n:Nat} {Q:Exit->Act->World->Prop} (Xn:ops=#[o1,o2]) (h1:o1.after.toList.all (fun e=>!Region.binds .any e)=true) (h2:o2.after.toList.any (fun e=>Region.binds .any e&&e.on==0)=true) (h3:o2.after.toList.all (fun e=>!Region.binds .any e||e.on==0)=true)
  (h:∀ w',(w'=w∨w'={ w with drawn:=w.drawn+1 })->wpOpIn F n P ops Q 0 (wpOpIn F n P ops Q 1 (Q .normal)) a w'):(Code.region id ops draw).wpIn F n P Q a w:=by
 cases draw with
 | false=>
  refine wpIn_region ?_;have:=h w (.inl rfl);have e:List.range ops.size=[0,1]:=by rw[Xn];rfl
  rw[e,wpOpsIn_cons];refine wpOpIn_mono (fun a w hx=>?_) this;rw[wpOpsIn_cons];exact wpOpIn_mono (fun a w hx=>hx) hx
 | true=>
  refine wpIn_region_any hm ?_;have nR:ops.size=2:=by rw[Xn];rfl
  have w1:∀ D,rP D o1:=fun D e he hb=>by
   have:=List.all_eq_true.1 h1 e (by simpa using he);simp[hb] at this
  have w2:∀ D,rP D o2->D 0:=fun D hD=>by
   obtain⟨e,he,hb⟩:=List.any_eq_true.1 h2;simp only[Bool.and_eq_true,beq_iff_eq] at hb;have:=hD e (by simpa using he) hb.1
   rwa [hb.2] at this
  have g0:ops[0]? = some o1:=by rw[Xn];rfl
  have g1:ops[1]? = some o2:=by rw[Xn];rfl
  have g2:∀ i,2<=i->ops[i]? = none:=fun i hi=>Array.getElem?_eq_none (by omega);rw[nR];have r0:∀ i,i∈Region.ready .any ops (Array.replicate 2 false)↔i=0:=by
   intro i;rw[kM (by simp[nR])];constructor
   ·rintro⟨o,ho,_,hw⟩
    match i with
    | 0=>rfl
    | 1=>
     rw[g1] at ho;cases ho;have:=w2 _ hw;simp at this
    | i+2=>rw[g2 _ (by omega)] at ho;cases ho
   ·rintro rfl;exact⟨o1,g0,by simp,w1 _⟩
  have r1:∀ i,i∈Region.ready .any ops ((Array.replicate 2 false).setIfInBounds 0 true)↔i=1:=by
   intro i;rw[kM (by simp[nR])];constructor
   ·rintro⟨o,ho,hl,_⟩
    match i with
    | 0=>simp at hl
    | 1=>rfl
    | i+2=>rw[g2 _ (by omega)] at ho;cases ho
   ·rintro rfl;refine⟨o2,g1,by simp,fun e he hb=>?_⟩;have:=List.all_eq_true.1 h3 e (by simpa using he);simp only[hb,Bool.not_true,Bool.false_or,beq_iff_eq] at this;rw[this];simp
  have r2:Region.ready .any ops (((Array.replicate 2 false).setIfInBounds 0 true).setIfInBounds 1 true)=[]:=by
   refine List.eq_nil_iff_forall_not_mem.2 fun i hi=>?_;obtain⟨o,ho,hl,_⟩:=(kM (by simp[nR])).1 hi
   match i with
   | 0=>simp at hl
   | 1=>simp at hl
   | i+2=>rw[g2 _ (by omega)] at ho;cases ho
  refine⟨fun h0=>?_,fun i hi=>?_⟩
  ·have:=(r0 0).2 rfl;rw[h0] at this;cases this
  ·have:=(r0 i).1 hi;subst this;refine wpOpIn_mono (fun a w hx=>?_) (h _ (.inr rfl));refine⟨fun h0=>?_,fun i hi=>?_⟩
   ·have:=(r1 1).2 rfl;rw[h0] at this;cases this
   ·have:=(r1 i).1 hi;subst this;exact wpOpIn_mono (fun a w hx=>⟨r2,hx⟩) hx
theorem Rel.a4N (hR:Rel M0 h0 w0 nt M s a w) {d:Nat} {v:EV} {x:Value} (hd:d<nt) (hx:ER M v x):Rel M0 h0 w0 nt M (s.put (some d) v) (a.put (some d) x) w:=by
 have hg:(s.put (some d) v).get=s.get:=getEnv s _ _;refine⟨by rw[hg];exact hR.val,by rw[hg];exact hR.ext,?_,by rw[DT];exact hR.size,?_,by rw[iK];exact hR.apart⟩
 ·intro t e hl;rw[uX] at hl;rw[yu];by_cases MF:some d=some t
  ·rw[if_pos MF] at hl;have:=hR.size;cases MF;rw[if_pos ⟨rfl,by omega⟩];cases hl;exact hx
  rw[if_neg MF] at hl;rw[if_neg (fun h=>MF h.1)];exact hR.env t e hl
 rw[iK,hg];exact hR.marks
theorem Xo (hB:lK M0 h0 w0) {F:Fence} {n:Nat} {Q:Exit->Act->World->Prop} {o:Oper} {it nx i:Nat} {K:Act->World->Prop} {K':St->TV->Prop} (ho:ops[i]? = some o) (AZ:o.op=.next (.tmp it) false) (a4O:o.dst=some nx) (hg:o.guard=none) (hd:nx<nt)
  (hR:Rel M0 h0 w0 nt M s a w) (hN:P6 h0.length s it K') (hK:∀ s1 v a1 w1,K' s1 v->Rel M0 h0 w0 nt M (s1.put (some nx) (.val v)) a1 w1->K a1 w1):wpOpIn F n P ops Q i K a w:=by
 obtain⟨b,r,n',seen,es,JM,hb,hr,hn,a4P,a4Q⟩:=hN;have hx:=hR.env it _ JM;obtain⟨r',o',hm⟩:∃ r' o',a.tmps.getD it Go.undef=.pointer (some ⟨r',0,none⟩)∧M (.h b)=some (.obj r' o'):=by
  generalize a.tmps.getD it Go.undef=xv at hx;cases hx with
  | val hx=>cases hx with
   | iter h=>exact⟨_,_,rfl,h⟩
 obtain⟨hm,hmb⟩:=hm;obtain⟨cO,c1,c2⟩:=hR.val.ok _ _ hmb trivial;simp only[St.get,hb,Option.some.injEq] at c1;subst c1;obtain⟨rb,q,sa,d1,d2,d3,d4⟩:=c2;obtain⟨cO,c1,c2⟩:=hR.val.ok (.h r) _ d1 trivial;simp only[St.get,hr,Option.some.injEq] at c1;subst c1;obtain⟨xs,g1,g2⟩:=c2;have hnn:xs.size=n':=by rw[<-g2.len];exact hn
 have hold:∀ x∈xs.toList,x.born<n':=fun x hx=>by
  obtain⟨k,hk⟩:=List.mem_iff_getElem?.1 hx;have jH:xs[k]? = some x:=by simpa using hk
  rw[(g2.at_ k x jH).1,<-hnn];exact (Array.getElem?_eq_some_iff.1 jH).1
 have a0t:∀ k j,q[k]? = some j->(k∈sa.toList↔j∈seen):=by
  intro k j hkj;have e1:k∈sa.toList->j∈seen:=fun hk=>by
   have:(q[k]?:Option Nat)∈sa.toList.map (fun i=>q[i]?):=List.mem_map.2 ⟨k,hk,rfl⟩;rw[d4,hkj] at this;obtain⟨j',h1,h2⟩:=List.mem_map.1 this;cases h2;simpa using h1
  have e2:j∈seen->k∈sa.toList:=fun hj=>by
   have:some j∈seen.reverse.map some:=List.mem_map.2 ⟨j,by simpa using hj,rfl⟩;rw[<-d4] at this;obtain⟨k',h1,h2⟩:=List.mem_map.1 this;have i1:=List.getElem?_eq_some_iff.1 h2;have i2:=List.getElem?_eq_some_iff.1 hkj;have:=(List.getElem_inj g2.nod (h₀:=i1.1) (h₁:=i2.1)).1 (i1.2.trans i2.2.symm);rw[<-this];exact h1
  exact⟨e1,e2⟩
 have a0u:∀ x,x∈(leftOf xs sa).toList↔x∈xs.toList∧x.born∉sa.toList:=fun x=>by
  simp[leftOf]
 have a0v:a.eval (.tmp it)=.pointer (some ⟨r',0,none⟩):=by simpa[Act.eval] using hm
 unfold wpOpIn;rw[ho];have hw:Region.wanted o (yielded ops a.tmps)=true:=by simp[Region.wanted,hg]
 simp only[hw,if_true];refine⟨fun f hf=>by simp[Oper.about,AZ] at hf,?_⟩;rcases run_next_at (P:=P) w o.type r' rb n' n' sa xs xs.size d2 g1 hold (Nat.le_refl _) with⟨h1,h2⟩ | ⟨e,h1,w1,h2,h3⟩
 ·have kE:(o.semAt F.round a.eval).run P w=.ok (.value (.tuple #[.bool false])) w:=by
   simp[Oper.semAt,execOp,AZ,a0v,h2]
  rw[kE,Oper.uponIn_value,a4O];refine hK s _ _ _ (a4P fun j hj=>?_) (hR.a4N hd (.val (.FV (.cons (.bool false) .nil))));obtain⟨k,hk⟩:=List.mem_iff_getElem?.1 (g2.sur j (by omega));refine (a0t k j hk).1 ?_;apply Classical.byContradiction;intro hns;have hkx:k<xs.size:=by rw[<-g2.ord];exact (List.getElem?_eq_some_iff.1 hk).1
  have:xs[k]∈(leftOf xs sa).toList:=(a0u _).2 ⟨by simp,by rw[(g2.at_ k _ (Array.getElem?_eq_getElem hkx)).1];exact hns⟩;have h0:(leftOf xs sa).toList=[]:=List.eq_nil_of_length_eq_zero (by simpa using h1);rw[h0] at this;cases this
 ·obtain⟨hex,Gz⟩:=(a0u e).1 h1;obtain⟨k,hk⟩:=List.mem_iff_getElem?.1 hex;have jH:xs[k]? = some e:=by simpa using hk
  obtain⟨z1,j,e',z2,z3,z4,z5⟩:=g2.at_ k e jH;have hj:j∉seen:=fun h=>Gz (by rw[z1];exact (a0t k j z2).2 h);have nV:Rel M0 h0 w0 nt M s a w1:=by
   rcases h2 with rfl | rfl
   ·exact hR
   ·exact⟨hR.val.of_heap rfl,hR.ext.drew rfl rfl rfl rfl,hR.env,hR.size,hR.marks,hR.apart⟩
  have hh:w1.heap=w.heap:=by rcases h2 with rfl | rfl<;>rfl
  have kE:(o.semAt F.round a.eval).run P w=.ok (.value (.tuple #[.bool true,e.key,e.val])) (setBlock w1 r' (.mapIter (some rb) n' (sa.push e.born) xs.size)):=by
   simp[Oper.semAt,execOp,AZ,a0v,h3]
  rw[kE,Oper.uponIn_value,a4O];have aN:r'<w1.heap.size:=by rw[hh];exact (Array.getElem?_eq_some_iff.1 d2).1
  obtain⟨v4,x4⟩:=uY (o':=.mapIter (some rb) n' (sa.push e.born) xs.size) (b':=.bn r n' (j::seen)) nV.val hmb hb rfl ⟨rb,q,sa.push e.born,d1,by simp[aN,hnn],d3,by
   rw[Array.toList_push,List.map_append,d4,z1];simp[z2]⟩
  have GN:=nV.next hB (s':={ s with heap:=s.heap.set b (.bn r n' (j::seen)),ws:=dn h0.length [.h b] s.ws }) v4 x4 rfl rfl (fun _ _ h=>h);exact hK _ _ _ _ (a4Q j e' hj z3) (GN.a4N hd (.val (.FV (.cons (.bool true) (.cons z4 (.cons z5 .nil))))))
theorem II {it nx:Nat} {o1 o2:Oper} (h:qW ops=some (it,nx,o1,o2)):ops=#[o1,o2]∧o1.op=.next (.tmp it) false∧o1.dst=some nx∧o1.guard=none∧o1.after.toList.all (fun e=>!Region.binds .any e)=true∧o2.after.toList.any (fun e=>Region.binds .any e&&e.on==0)=true∧o2.after.toList.all (fun e=>!Region.binds .any e||e.on==0)=true:=by
 unfold qW at h;split at h
 ·rename_i x y hl;split at h
  ·rename_i it' nx' h1 h2 h3;split at h
   ·rename_i hc;simp only[Option.some.injEq,Prod.mk.injEq] at h;obtain⟨rfl,rfl,rfl,rfl⟩:=h;simp only[Bool.and_eq_true] at hc;exact⟨Array.ext' (by simpa using hl),h1,h2,h3,hc.1.1,hc.1.2,hc.2⟩
   cases h
  cases h
 cases h
def Cm (P:Program) (M0:Mp) (h0:List HB) (w0:World) (nt:Nat) (c:Code) (s:St) (QT:Ex->St->Prop):Prop:=
 ∀ (n:Nat) (Q:Exit->Act->World->Prop) (M:Mp) (a:Act) (w:World),Rel M0 h0 w0 nt M s a w->(∀ e s' M' a' w',QT e s'->Rel M0 h0 w0 nt M' s' a' w'->Q (MS e) a' w')->c.wpIn (jD none) n P Q a w
theorem Uc (hB:lK M0 h0 w0) {c:Code} {live:List Nat} {g:St->(Ex->St->Prop)->Prop} (ih:∀ s QT,g s QT->Cm P M0 h0 w0 nt c (dO live s) QT) {k:Nat} {s:St} {QT:Ex->St->Prop}
  (h:yF g k s QT):Cm P M0 h0 w0 nt (.loop c) s QT:=by
 intro n Q M a w hR hQ
 let J:Act->World->Nat->Prop:=fun a w k=>∃ s M,yF g k s QT∧Rel M0 h0 w0 nt M s a w
 refine wpIn_loop (fun a w=>∃ k,J a w k) (fun a w=>leastOf (J a w)) ⟨k,s,M,h,hR⟩ ?_;intro a1 w1 hI;obtain⟨⟨s1,M1,JM,nV⟩,_⟩:=leastOf_spec hI;generalize leastOf (J a1 w1)=k1 at JM ⊢;cases k1 with
 | zero=>exact JM.elim
 | succ k1=>
  refine ih s1 _ JM n _ _ a1 w1 (nV.head hB live) fun e s2 M2 a2 w2 hq GN=>?_;cases e with
  | norm=>
   have hJ:J a2 w2 k1:=⟨s2,M2,hq,GN⟩;exact⟨⟨k1,hJ⟩,Nat.lt_succ_of_le ((leastOf_spec ⟨k1,hJ⟩).2 k1 hJ)⟩
  | exit id=>exact hQ _ _ M2 a2 w2 hq GN
  | ret=>exact hQ _ _ M2 a2 w2 hq GN
def CB (P:Program) (cd:og):Prop:=
 ∀ f1 a1 b1 args h K,cd (.fn f1 a1 b1) args h K->∀ (M:Mp) (w:World) (x:Value) (xs:List Value),Valid M mg (iD h) w->(∀ k,M (.l k)=none)->VR M.h (.fn f1 a1 b1) x->aH M.h args xs ->
  ∃ d,(∀ w,(Deferred.ofValue x xs.toArray).run P w=.ok d w)∧Cc P d w fun y w'=>∃ v h' ws,K v h' ws∧eP M h w v h' ws y w'
theorem Ud (hm:P.follows .mixedOrders=true) (hC:aj P call) {cd:og} (hD:CB P cd) (hB:lK M0 h0 w0):∀ (c:Code) (s:St) (QT:Ex->St->Prop),bJ P T call cd L f h0.length nt c s QT->Cm P M0 h0 w0 nt c s QT:=by
 have plain:∀ (c:Code) (s:St) (QT:Ex->St->Prop),(∃ e s',exec P T call L f false h0.length nt c s=some (e,s')∧QT e s')->Cm P M0 h0 w0 nt c s QT:=by
  rintro c s QT ⟨e,s',h1,h2⟩ n Q M a w hR hQ;exact jV (eu:=false) hm hC hB (fun _=>rfl) c s s' e h1 n Q M a w hR fun M' a' w' sD=>hQ e s' M' a' w' h2 sD
 intro c
 induction c with
 | region id ops draw=>
  intro s QT h;simp only[bJ] at h;split at h
  ·rename_i it nx o1 o2 hn;obtain⟨hd,hN⟩:=h;obtain⟨e1,e2,e3,e4,e5,e6,e7⟩:=II hn;intro n Q M a w hR hQ;refine a1v hm e1 e5 e6 e7 fun w' hw'=>?_;have sD:Rel M0 h0 w0 nt M s a w':=by
    rcases hw' with rfl | rfl
    ·exact hR
    exact⟨hR.val.of_heap rfl,hR.ext.drew rfl rfl rfl rfl,hR.env,hR.size,hR.marks,hR.apart⟩
   refine Xo hB (i:=0) (o:=o1) (by rw[e1];rfl) e2 e3 e4 hd sD hN ?_;rintro s1 v a1 w1 ⟨s2,is,kE,hq⟩ nV;have ho2:ops[1]? = some o2:=by rw[e1];rfl
   obtain⟨i,s3,is',hS,hr,_⟩:=sZ kE;simp only[dN,Option.some.injEq,Prod.mk.injEq] at hr;obtain⟨rfl,rfl⟩:=hr;refine (yw hC nV hS).2 none n Q 1 _ ho2 fun x w2 jT=>?_;obtain⟨M',GN⟩:=DU hB nV hS jT;exact hQ .norm _ _ _ _ hq (GN.pick _)
  exact plain _ _ _ h
 | seq x y JO ihy=>
  intro s QT h n Q M a w hR hQ;simp only[bJ] at h;refine wpIn_seq (JO s _ h n _ M a w hR fun e s1 M1 a1 w1 hq nV=>?_);cases e with
  | norm=>exact ihy s1 _ hq n Q M1 a1 w1 nV hQ
  | exit id=>exact hQ _ _ _ _ _ hq nV
  | ret=>exact hQ _ _ _ _ _ hq nV
 | cond c x y JO ihy=>
  intro s QT h n Q M a w hR hQ;simp only[bJ] at h;have hev:∀ b,lJ s.env c=some (.bool b)->a.eval c=.bool b:=by
   intro b hb;have:=LU hR.env hb;generalize a.eval c=z at this;cases this;rfl
  split at h
  ·rename_i hc;exact wpIn_cond_true (hev _ hc) (JO s _ h n Q M a w hR hQ)
  ·rename_i hc;exact wpIn_cond_false (hev _ hc) (ihy s _ h n Q M a w hR hQ)
  exact h.elim
 | block id b ih=>
  intro s QT h n Q M a w hR hQ;simp only[bJ] at h;refine wpIn_block (ih s _ h n _ M a w hR fun e s1 M1 a1 w1 hq nV=>?_);have:=hQ _ _ _ _ _ hq nV;cases e with
  | norm=>exact this
  | ret=>exact this
  | exit i=>
   by_cases hi:i=id
   ·simp only[hi,if_true] at this;simp only[MS,Exit.inBlock,hi,if_true];exact this
   simp only[hi,if_false] at this;simp only[MS,Exit.inBlock,hi,if_false];exact this
 | scope b ih=>
  intro s QT h n Q M a w hR hQ;simp only[bJ] at h;refine DZ (ih s _ h n _ M a w hR fun e s1 M1 a1 w1 hq nV=>?_);have:=hQ _ _ _ _ _ hq nV;cases e<;>exact this
 | loop b ih=>
  intro s QT h;simp only[bJ] at h;exact Uc hB (live:=T.dG f (bZ b)) (fun s QT hs=>ih _ _ hs) h
 | rangeFunc g ps mG body=>
  intro s QT h;simp only[bJ] at h;split at h
  ·obtain⟨f1,a1,b1,hg,hv,hc⟩:=h;intro n Q M a w hR hQ;exact GR hB hg hv (fun M w x xs=>hD _ _ _ _ _ _ hc M w x xs) (fun v h ws hk=>hk) n Q M a w hR hQ
  exact plain _ _ _ h
 | _=>
  intro s QT h;simp only[bJ] at h;exact plain _ _ _ h
end
def jI (g:Nat->Option Nat):TV->Option TV
 | .ptr b o l=>(g b).map fun b=>.ptr b o l
 | .slc b o n c z e=>(g b).map fun b=>.slc b o n c z e
 | .map r=>(g r).map .map
 | .jk _=>none
 | .iter _=>none
 | .fn f a c=>match tC g a,tC g c with
  | some a,some c=>some (.fn f a c)
  | _,_=>none
 | .agg cs=>(tC g cs).map .agg
 | .bH cs=>(tC g cs).map .bH
 | .bool b=>some (.bool b)
 | .int k n=>some (.int k n)
 | .str s=>some (.str s)
 | .nil k=>some (.nil k)
where
 tC (g:Nat->Option Nat):List TV->Option (List TV)
 | []=>some []
 | c::cs=>match jI g c,tC g cs with
  | some v,some vs=>some (v::vs)
  | _,_=>none
theorem Ea {g:Nat->Option Nat}:∀ {az LG:List TV},jI.tC g az=some LG->az.length=LG.length∧∀ (i:Nat) c',LG[i]? = some c'->∃ c,az[i]? = some c∧jI g c=some c'
 | [],LG,h=>by cases h;exact⟨rfl,fun i c h=>by simp at h⟩
 | a::az,LG,h=>by
  simp only[jI.tC] at h;split at h
  ·rename_i v vs e1 e2;cases h;obtain⟨h1,h2⟩:=Ea e2;refine⟨by simp[h1],fun i c' hi=>?_⟩;cases i with
   | zero=>simp at hi;subst hi;exact⟨a,rfl,e1⟩
   | succ i=>exact h2 i c' (by simpa using hi)
  cases h
section
variable {g:Nat->Option Nat} {N N':Np}
theorem CG (hg:∀ b b',g b=some b'->N' b'=N b) {v:TV} {x:Value} (h:VR N v x):∀ {v'},jI g v=some v'->VR N' v' x:=by
 have bK:∀ {az:List TV} {xs:List Value},az.length=xs.length->(∀ (i:Nat) (c:TV) (v:Value),az[i]? = some c->xs[i]? = some v->∀ {v'},jI g c=some v'->VR N' v' v)->∀ {LG},jI.tC g az=some LG->LG.length=xs.length∧∀ (i:Nat) (c:TV) (v:Value),LG[i]? = some c->xs[i]? = some v->VR N' c v:=by
  intro az xs hl ha LG hr;obtain⟨h1,h2⟩:=Ea hr;exact⟨by rw[<-h1,hl],fun i c v e1 e2=>by obtain⟨c0,f1,f2⟩:=h2 i c e1;exact ha i c0 v f1 e2 f2⟩
 induction h with
 | bool b=>intro v' h;cases h;exact .bool b
 | int k n=>intro v' h;cases h;exact .int k n
 | str s=>intro v' h;cases h;exact .str s
 | Qu=>intro v' h;cases h;exact .Qu
 | Ih=>intro v' h;cases h;exact .Ih
 | LP=>intro v' h;cases h;exact .LP
 | nfn=>intro v' h;cases h;exact .nfn
 | Qv=>intro v' h;cases h;exact .Qv
 | ptr hb hp h ht=>
  intro v' hr;simp only[jI,Option.map_eq_some_iff] at hr;obtain⟨b',e,rfl⟩:=hr;exact .ptr (by rw[hg _ _ e];exact hb) hp h ht
 | slc hb hp h hl hc hx ha hk=>
  intro v' hr;simp only[jI,Option.map_eq_some_iff] at hr;obtain⟨b',e,rfl⟩:=hr;exact .slc (by rw[hg _ _ e];exact hb) hp h hl hc hx ha hk
 | map h=>
  intro v' hr;simp only[jI,Option.map_eq_some_iff] at hr;obtain⟨b',e,rfl⟩:=hr;exact .map (by rw[hg _ _ e];exact h)
 | jk h=>intro v' hr;simp[jI] at hr
 | fn h1 h2 h3 h4 i2 i4=>
  intro v' hr;simp only[jI] at hr;split at hr
  ·rename_i a c e1 e2;cases hr;obtain⟨p1,p2⟩:=bK h1 i2 e1;obtain⟨q1,q2⟩:=bK h3 i4 e2;exact .fn p1 p2 q1 q2
  cases hr
 | iter h=>intro v' hr;simp[jI] at hr
 | agg h1 h2 i2=>
  intro v' hr;simp only[jI,Option.map_eq_some_iff] at hr;obtain⟨a,e,rfl⟩:=hr;obtain⟨p1,p2⟩:=bK h1 i2 e;exact .agg p1 p2
 | bH h1 h2 i2=>
  intro v' hr;simp only[jI,Option.map_eq_some_iff] at hr;obtain⟨a,e,rfl⟩:=hr;obtain⟨p1,p2⟩:=bK h1 i2 e;exact .bH p1 p2
def jG (g:Nat->Option Nat):List (TV×TV)->Option (List (TV×TV))
 | []=>some []
 | (k,v)::r=>match jI g k,jI g v,jG g r with
  | some k,some v,some r=>some ((k,v)::r)
  | _,_,_=>none
theorem JU:∀ {az LG:List (TV×TV)},jG g az=some LG->az.length=LG.length∧∀ (i:Nat) c',LG[i]? = some c'->∃ c,az[i]? = some c∧jI g c.1=some c'.1∧jI g c.2=some c'.2
 | [],LG,h=>by cases h;exact⟨rfl,fun i c h=>by simp at h⟩
 | (k,v)::az,LG,h=>by
  simp only[jG] at h;split at h
  ·rename_i k' v' vs e0 e1 e2;cases h;obtain⟨h1,h2⟩:=JU e2;refine⟨by simp[h1],fun i c' hi=>?_⟩;cases i with
   | zero=>simp at hi;subst hi;exact⟨(k,v),rfl,e0,e1⟩
   | succ i=>exact h2 i c' (by simpa using hi)
  cases h
def oh (g:Nat->Option Nat):HB->Option HB
 | .cells k cs=>(jI.tC g cs).map (.cells k)
 | .map es=>(jG g es).map .map
 | .mark=>some .mark
 | _=>none
theorem Ue {v v':TV} (h:jI g v=some v'):bW v'=bW v:=by
 cases v<;>simp only[jI,Option.map_eq_some_iff,Option.some.injEq] at h
 all_goals first
  | (obtain⟨b,_,rfl⟩:=h;rfl)
  | (subst h;rfl)
  | (split at h<;>cases h;rfl)
  | cases h
theorem Uf (hg:∀ b b',g b=some b'->N' b'=N b) {w:World} {b b':HB} {l:Lc} (h:jF N w b l) (hr:oh g b=some b'):jF N' w b' l:=by
 cases b with
 | cells k cs=>
  cases l with
  | obj r _=>exact h.elim
  | cells ls=>
   simp only[oh,Option.map_eq_some_iff] at hr;obtain⟨cs',e,rfl⟩:=hr;obtain⟨h1,h2⟩:=Ea e;refine⟨fun c hc=>?_,fun p hp=>?_,fun hk=>by rw[<-h1];exact h.2.2.1 hk,fun hk=>by rw[<-h1];exact h.2.2.2 hk⟩
   ·obtain⟨i,hi⟩:=List.mem_iff_getElem?.1 hc;obtain⟨c0,f1,f2⟩:=h2 i c hi;rw[Ue f2];exact h.1 c0 (List.mem_of_getElem? f1)
   obtain⟨⟨arr,ty,fz,a1,a2,a3,a4⟩,b1,b2,b3⟩:=h.2.1 p hp;exact⟨⟨arr,ty,fz,a1,a2,a3,fun hk i c v hi hc hv=>by obtain⟨c0,f1,f2⟩:=h2 i c hc;exact CG hg (a4 (by rw[h1];exact hk) i c0 v hi f1 hv) f2⟩,b1,by rw[<-h1];exact b2,b3⟩
 | map es=>
  cases l with
  | cells ls=>exact h.elim
  | obj r=>
   simp only[oh,Option.map_eq_some_iff] at hr;obtain⟨fU,e,rfl⟩:=hr;obtain⟨h1,h2⟩:=JU e;obtain⟨xs,a0,a1,a2,a3,a4,a5⟩:=h;refine⟨xs,a0,by rw[<-h1];exact a1,a2,a3,by rw[<-h1];exact a4,fun i x hx=>?_⟩;obtain⟨b1,j,e0,b2,b3,b4,b5⟩:=a5 i x hx;have hl:j<fU.length:=by rw[<-h1];exact (List.getElem?_eq_some_iff.1 b3).1
   obtain⟨c0,f1,f2,f3⟩:=h2 j _ (List.getElem?_eq_getElem hl);rw[b3] at f1;cases f1;exact⟨b1,j,_,b2,List.getElem?_eq_getElem hl,CG hg b4 f2,CG hg b5 f3⟩
 | mark=>simp only[oh,Option.some.injEq] at hr;subst hr;cases l<;>exact h
 | _=>simp[oh] at hr
theorem a1w {b b':HB} (h:oh g b=some b'):wr b'=wr b:=by
 cases b with
 | cells k cs=>simp only[oh,Option.map_eq_some_iff] at h;obtain⟨_,_,rfl⟩:=h;cases k<;>rfl
 | map es=>simp only[oh,Option.map_eq_some_iff] at h;obtain⟨_,_,rfl⟩:=h;rfl
 | mark=>simp only[oh,Option.some.injEq] at h;subst h;rfl
 | _=>simp[oh] at h
end
def Xp:List Nat->Nat->Option Nat
 | [],_=>none
 | a::l,i=>match Nat.beq a i with
  | true=>some 0
  | false=>(Xp l i).map (·+1)
theorem P7:∀ {l:List Nat} {i p:Nat},Xp l i=some p->l[p]? = some i
 | [],i,p,h=>by cases h
 | a::l,i,p,h=>by
  simp only[Xp] at h;split at h
  ·rename_i e;cases h;rw[Nat.eq_of_beq_eq_true e];rfl
  simp only[Option.map_eq_some_iff] at h;obtain⟨q,e,rfl⟩:=h;rw[List.getElem?_cons_succ];exact P7 e
def JV (fl:Nat) (iC:List Nat) (b:Nat):Option Nat:=match Nat.blt b fl with
 | true=>some b
 | false=>(Xp iC b).map (·+fl)
def Eb (g:Nat->Option Nat) (h:List HB):List Nat->Option (List HB)
 | []=>some []
 | b::l=>match h[b]? with
  | some x=>match oh g x,Eb g h l with
   | some y,some r=>some (y::r)
   | _,_=>none
  | none=>none
theorem Ec {g:Nat->Option Nat} {h:List HB}:∀ {l:List Nat} {bs:List HB},Eb g h l=some bs->l.length=bs.length∧∀ (i:Nat) y,bs[i]? = some y->∃ c x,l[i]? = some c∧h[c]? = some x∧oh g x=some y
 | [],bs,e=>by cases e;exact⟨rfl,fun i y h=>by simp at h⟩
 | b::l,bs,e=>by
  simp only[Eb] at e;split at e
  ·rename_i x hx;split at e
   ·rename_i y r e1 e2;cases e;obtain⟨h1,h2⟩:=Ec e2;refine⟨by simp[h1],fun i y' hi=>?_⟩;cases i with
    | zero=>simp at hi;subst hi;exact⟨b,x,rfl,hx,e1⟩
    | succ i=>exact h2 i y' (by simpa using hi)
   cases e
  cases e
theorem eP.gc {M:Mp} {h h' bs:List HB} {w w':World} {v v':TV} {y:Value} {iC:List Nat} (hV:Valid M mg (iD h) w) (hl:∀ k,M (.l k)=none) (hR:eP M h w v h' [] y w') (hn:iC.Nodup) (hk:∀ b∈iC,h.length<=b) (hv:jI (JV h.length iC) v=some v') (hb:Eb (JV h.length iC) h' iC=some bs):eP M h w v' (h++bs) [] y w':=by
 obtain⟨M',Me,hl',hX,WU⟩:=hR;have N7:∀ b l,M (.h b)=some l->b<h.length:=fun b l hb=>by
  have:=hV.has hb;simp only[iD,St.get] at this;rcases Nat.lt_or_ge b h.length with h1 | h1
  ·exact h1
  rw[List.getElem?_eq_none h1] at this;simp at this
 have hold:∀ b,b<h.length->M' (.h b)=M (.h b):=fun b hb=>hX.gZ (.h b) (.inl (by simp[iD,St.get,hb])) (by simp);have hoc:∀ b,b<h.length->iD h' (.h b)=iD h (.h b):=fun b hb=>hX.iC (.h b) (by simp[iD,St.get,hb]) (by simp);obtain⟨p1,p2⟩:=Ec hb
 let κ:Nat->Option Nat:=fun b=>if b<h.length then some b else iC[b-h.length]?
 let M2:Mp:=fun k=>match k with
  | .l _=>none
  | .h b=>match κ b with
   | some c=>M' (.h c)
   | none=>none
 have hκ:∀ b c,κ b=some c->M2 (.h b)=M' (.h c):=fun b c e=>by show (match κ b with | some c=>M' (.h c) | none=>none)=_;rw[e]
 have hκn:∀ b,κ b=none->M2 (.h b)=none:=fun b e=>by show (match κ b with | some c=>M' (.h c) | none=>none)=_;rw[e]
 have Ug:∀ b l,M2 (.h b)=some l->∃ c,κ b=some c∧M' (.h c)=some l:=fun b l e=>by
  cases e2:κ b with
  | none=>rw[hκn b e2] at e;cases e
  | some c=>rw[hκ b c e2] at e;exact⟨c,rfl,e⟩
 have WZ:∀ b,b<h.length->κ b=some b:=fun b hb=>by simp only[κ,if_pos hb]
 have Xq:∀ b,¬b<h.length->κ b=iC[b-h.length]?:=fun b hb=>by simp only[κ,if_neg hb]
 have hg:∀ b b',JV h.length iC b=some b'->M2.h b'=M'.h b:=fun b b' e=>by
  unfold JV at e;split at e
  ·rename_i aN;have aN:b<h.length:=Nat.le_of_ble_eq_true aN;cases e;exact hκ _ _ (WZ b aN)
  simp only[Option.map_eq_some_iff] at e;obtain⟨p,e1,rfl⟩:=e;exact hκ _ _ (by rw[Xq _ (by omega),Nat.add_sub_cancel];exact P7 e1)
 have hle:lG M.h M2.h:=fun b l e=>⟨l,by show M2 (.h b)=some l;rw[hκ b b (WZ b (N7 b l e)),hold b (N7 b l e)];exact e,.refl l⟩;have MX:∀ c,c<w.heap.size->w'.heap[c]? = w.heap[c]?:=fun c hc=>hX.frame c hc (by simp);have hC:∀ b,b<h.length->iD (h++bs) (.h b)=iD h (.h b):=fun b hb=>by simp only[iD,St.get];rw[List.getElem?_append_left hb]
 have hC2:∀ b,¬b<h.length->iD (h++bs) (.h b)=bs[b-h.length]?:=fun b hb=>by simp only[iD,St.get];rw[List.getElem?_append_right (by omega)]
 refine⟨M2,⟨fun k l Cb _=>?_,fun k k' l l' b dZ h1 h2 _ hc hw=>?_,fun k l Cb=>?_⟩,fun _=>rfl,⟨fun k l e=>?_,fun c hc _=>MX c hc,fun k hs _=>?_,fun k hs _=>?_,fun k l e c hc hs=>?_,hX.size,fun k hs=>?_,by simp,by simp,hX.os,hX.output,hX.tape⟩,CG hg WU hv⟩
 ·cases k with
  | l k=>cases Cb
  | h b=>
   obtain⟨c,e1,e2⟩:=Ug b l Cb;by_cases vZ:b<h.length
   ·have:=WZ b vZ;rw[this] at e1;cases e1;rw[hold b vZ] at e2;obtain⟨x,f1,f2⟩:=hV.ok _ l e2 trivial;exact⟨x,by rw[hC b vZ];exact f1,f2.mono hle fun c hc=>MX c (hV.inb _ l e2 c hc)⟩
   rw[Xq b vZ] at e1;have aN:b-h.length<bs.length:=by rw[<-p1];exact (List.getElem?_eq_some_iff.1 e1).1
   obtain⟨c',x,f1,f2,f3⟩:=p2 _ _ (List.getElem?_eq_getElem aN);rw[e1] at f1;cases f1;obtain⟨x',g1,g2⟩:=Me.ok _ l e2 trivial;have g1:h'[c]? = some x':=g1;rw[f2] at g1;cases g1;exact⟨_,by rw[hC2 b vZ];exact List.getElem?_eq_getElem aN,Uf hg g2 f3⟩
 ·cases k with
  | l k=>cases h1
  | h b1=>
   cases k' with
   | l k=>cases h2
   | h b2=>
    obtain⟨c1,e1,e2⟩:=Ug b1 l h1;obtain⟨c2,e3,e4⟩:=Ug b2 l' h2;have DK:c1≠c2:=fun e=>by
     subst e;by_cases q1:b1<h.length<;>by_cases q2:b2<h.length
     ·rw[WZ _ q1] at e1;rw[WZ _ q2] at e3;cases e1;cases e3;exact dZ rfl
     ·rw[WZ _ q1] at e1;rw[Xq _ q2] at e3;cases e1;have:=hk _ (List.mem_of_getElem? e3);omega
     ·rw[Xq _ q1] at e1;rw[WZ _ q2] at e3;cases e3;have:=hk _ (List.mem_of_getElem? e1);omega
     rw[Xq _ q1] at e1;rw[Xq _ q2] at e3;have i1:=(List.getElem?_eq_some_iff.1 e1);have i2:=(List.getElem?_eq_some_iff.1 e3);have:=(List.getElem_inj hn (h₀:=i1.1) (h₁:=i2.1)).1 (i1.2.trans i2.2.symm);exact dZ (by rw[show b1=b2 by omega])
    obtain⟨x,g1,g2⟩:∃ x,iD h' (.h c1)=some x∧wr x=true:=by
     by_cases q1:b1<h.length
     ·rw[WZ _ q1] at e1;cases e1;exact⟨b,by rw[hoc _ q1,<-hC _ q1];exact hc,hw⟩
     rw[hC2 _ q1] at hc;obtain⟨c',x,f1,f2,f3⟩:=p2 _ _ hc;rw[Xq _ q1,f1] at e1;cases e1;exact⟨x,f2,by rw[<-a1w f3];exact hw⟩
    exact Me.own (.h c1) (.h c2) l l' x (fun e=>DK (by cases e;rfl)) e2 e4 trivial g1 g2
 ·cases k with
  | l k=>cases Cb
  | h b=>obtain⟨c,e1,e2⟩:=Ug b l Cb;exact Me.inb _ l e2
 ·cases k with
  | l k=>rw[hl k] at e;cases e
  | h b=>exact hle b l e
 ·cases k with
  | l k=>simp[iD,St.get] at hs
  | h b=>
   refine hC b ?_;simp only[iD,St.get] at hs;rcases Nat.lt_or_ge b h.length with h1 | h1
   ·exact h1
   rw[List.getElem?_eq_none h1] at hs;simp at hs
 ·cases k with
  | l k=>rw[hl k]
  | h b=>
   by_cases vZ:b<h.length
   ·rw[hκ b b (WZ b vZ),hold b vZ]
   have h1:M (.h b)=none:=by
    cases e:M (.h b) with
    | none=>rfl
    | some l=>exact absurd (N7 b l e) vZ
   rw[h1];refine hκn b ?_;rw[Xq b vZ];rcases hs with hs | hs
   ·simp only[iD,St.get] at hs;rw[List.getElem?_eq_none (by omega)] at hs;simp at hs
   rw[hC2 b vZ] at hs;rw[List.getElem?_eq_none_iff] at hs ⊢;omega
 ·cases k with
  | l k=>cases e
  | h b=>
   obtain⟨c',e1,e2⟩:=Ug b l e;obtain⟨l0,f1,f2⟩:=hX.fresh _ l e2 c hc hs;have:=N7 _ _ f1;by_cases vZ:b<h.length
   ·rw[WZ b vZ] at e1;cases e1;exact⟨l0,f1,f2⟩
   rw[Xq b vZ] at e1;have:=hk _ (List.mem_of_getElem? e1);omega
 cases k with
 | l k=>simp[iD,St.get] at hs
 | h b=>
  simp only[iD,St.get] at hs ⊢;rcases Nat.lt_or_ge b h.length with h1 | h1
  ·simp[List.getElem?_append_left h1,h1]
  rw[List.getElem?_eq_none h1] at hs;simp at hs
def zW:TV->List Nat->List Nat
 | .ptr b _ _,l=>b::l
 | .slc b _ _ _ _ _,l=>b::l
 | .map b,l=>b::l
 | .fn _ a c,l=>Ba a (Ba c l)
 | .agg cs,l=>Ba cs l
 | .bH cs,l=>Ba cs l
 | _,l=>l
where
 Ba:List TV->List Nat->List Nat
 | [],l=>l
 | c::cs,l=>zW c (Ba cs l)
def a9d:Option HB->List Nat->List Nat
 | some (.cells _ cs),l=>zW.Ba cs l
 | some (.map es),l=>a0w es l
 | _,l=>l
where
 a0w:List (TV×TV)->List Nat->List Nat
 | [],l=>l
 | e::es,l=>zW e.1 (zW e.2 (a0w es l))
def Xr (b:Nat):List Nat->Bool
 | []=>false
 | a::l=>match Nat.beq a b with
  | true=>true
  | false=>Xr b l
theorem P8:∀ {l:List Nat} {b:Nat},Xr b l=false->b∉l
 | [],b,_=>by simp
 | a::l,b,h=>by
  simp only[Xr] at h;split at h
  ·cases h
  rename_i e;rw[List.mem_cons];rintro (rfl | h2)
  ·rw[Nat.beq_refl] at e;cases e
  exact P8 h h2
def tH (h:List HB) (fl:Nat):Nat->List Nat->List Nat->List Nat
 | 0,_,acc=>acc
 | _+1,[],acc=>acc
 | n+1,b::t,acc=>match Nat.blt b fl||Xr b acc with
  | true=>tH h fl n t acc
  | false=>tH h fl n (a9d h[b]? t) (b::acc)
theorem vg {h:List HB} {fl:Nat}:∀ (n:Nat) (t acc:List Nat),acc.Nodup->(∀ b∈acc,fl<=b)->(tH h fl n t acc).Nodup∧∀ b∈tH h fl n t acc,fl<=b
 | 0,_,_,h1,h2=>⟨h1,h2⟩
 | _+1,[],_,h1,h2=>⟨h1,h2⟩
 | n+1,b::t,acc,h1,h2=>by
  simp only[tH];split
  ·exact vg n t acc h1 h2
  rename_i e;simp only[Bool.or_eq_false_iff] at e;have e1:fl<=b:=by
   rcases Nat.lt_or_ge b fl with h3 | h3
   ·rw[show Nat.blt b fl=true from Nat.ble_eq_true_of_le h3] at e;cases e.1
   exact h3
  exact vg n _ _ (List.nodup_cons.2 ⟨P8 e.2,h1⟩) fun c hc=>by
   rcases List.mem_cons.1 hc with rfl | hc
   ·exact e1
   exact h2 c hc
def gcR (h:List HB):Option (TV×List HB×List Nat)->Option (TV×List HB×List Nat)
 | some (v,h',[])=>match tH h' h.length 5000 (zW v []) [] with
  | iC=>match jI (JV h.length iC) v,Eb (JV h.length iC) h' iC with
   | some v',some []=>some (v',h,[])
   | some v',some bs=>some (v',h++bs,[])
   | _,_=>some (v,h',[])
 | r=>r
theorem a1y {P:Program} {M:Mp} {h h2:List HB} {w:World} {v2:TV} {ws2:List Nat} {r:Option (TV×List HB×List Nat)} (hV:Valid M mg (iD h) w) (hl:∀ k,M (.l k)=none) (hr:gcR h r=some (v2,h2,ws2)):∃ v h' ws,r=some (v,h',ws)∧∀ y w',eP M h w v h' ws y w'->eP M h w v2 h2 ws2 y w':=by
 unfold gcR at hr;split at hr
 ·rename_i v h';refine⟨v,h',[],rfl,fun y w' hR=>?_⟩;simp only at hr;obtain⟨k1,k2⟩:=vg (h:=h') (fl:=h.length) 5000 (zW v []) [] .nil (by simp);split at hr
  ·rename_i v' e1 e2;cases hr;have:=hR.gc hV hl k1 k2 e1 e2;rw[List.append_nil] at this;exact this
  ·rename_i v' bs _ e1 e2;cases hr;exact hR.gc hV hl k1 k2 e1 e2
  cases hr;exact hR
 exact⟨v2,h2,ws2,hr,fun _ _ h=>h⟩
def Uh:TV->List Int
 | .bool b=>[if b then 1 else 0]
 | .int _ n=>[n]
 | .agg cs=>codes cs
 | _=>[]
where
 codes:List TV->List Int
 | []=>[]
 | c::cs=>Uh c++codes cs
def a0x:List Int->List Int->Bool
 | [],_=>true
 | _::_,[]=>false
 | a::az,b::bs=>if a<b then true else if b<a then false else a0x az bs
section
variable {α:Type} (key:α->List Int)
def Xt (e:α):List α->List α
 | []=>[e]
 | x::l=>if a0x (key e) (key x) then e::x::l else x::Xt e l
def P9:List α->List α
 | []=>[]
 | e::l=>Xt key e (P9 l)
theorem GU (e:α):∀ l,(Xt key e l).Perm (e::l)
 | []=>.refl _
 | x::l=>by
  unfold Xt;split
  ·exact .refl _
  exact ((GU e l).cons x).trans (.swap e x l)
theorem xk:∀ l,(P9 key l).Perm l
 | []=>.refl _
 | e::l=>(GU key e _).trans ((xk l).cons e)
end
abbrev Ui:List (TV×TV)->List (TV×TV):=P9 fun e=>Uh e.1
abbrev a0y:List TV->List TV:=P9 Uh
theorem xq (l):(Ui l).Perm l:=xk _ l
structure Ix {α:Type} (l1 l2:List α) (f g:Nat->Nat):Prop where
 to:∀ i,i<l1.length->f i<l1.length∧g (f i)=i∧l2[f i]? = l1[i]?
 fro:∀ j,j<l1.length->g j<l1.length∧f (g j)=j
theorem Pg {α:Type} {l1 l2:List α} (h:l1.Perm l2):∃ f g,Ix l1 l2 f g:=by
 induction h with
 | nil=>exact⟨id,id,⟨fun i hi=>by simp at hi,fun i hi=>by simp at hi⟩⟩
 | cons x h ih=>
  obtain⟨f,g,h1,h2⟩:=ih;refine⟨fun i=>match i with | 0=>0 | i+1=>f i+1,fun i=>match i with | 0=>0 | i+1=>g i+1,⟨fun i hi=>?_,fun j hj=>?_⟩⟩
  ·cases i with
   | zero=>simp
   | succ i=>
    obtain⟨a,b,c⟩:=h1 i (by simpa using hi);exact⟨by simpa using a,by simp[b],by simpa using c⟩
  cases j with
  | zero=>simp
  | succ j=>
   obtain⟨a,b⟩:=h2 j (by simpa using hj);exact⟨by simpa using a,by simp[b]⟩
 | swap x y l=>
  refine⟨fun i=>match i with | 0=>1 | 1=>0 | i+2=>i+2,fun i=>match i with | 0=>1 | 1=>0 | i+2=>i+2,⟨fun i hi=>?_,fun j hj=>?_⟩⟩
  ·match i with
   | 0=>simp
   | 1=>simp
   | i+2=>simp at hi ⊢;exact hi
  match j with
  | 0=>simp
  | 1=>simp
  | j+2=>simp at hj ⊢;exact hj
 | trans h h' ih ih'=>
  obtain⟨f,g,h1,h2⟩:=ih;obtain⟨f',g',h3,h4⟩:=ih';have hl:=h.length_eq;refine⟨fun i=>f' (f i),fun j=>g (g' j),⟨fun i hi=>?_,fun j hj=>?_⟩⟩
  ·obtain⟨a,b,c⟩:=h1 i hi;obtain⟨a',b',c'⟩:=h3 (f i) (by omega);exact⟨by omega,by simp only[b',b],by rw[c',c]⟩
  obtain⟨a,b⟩:=h4 j (by omega);obtain⟨a',b'⟩:=h2 (g' j) (by omega);exact⟨a',by simp only[b',b]⟩
theorem vS.perm {N:Np} {o:List Nat} {es fU:List (TV×TV)} {xs:Array MapEntry} (h:vS N o es xs) {f g:Nat->Nat} (hf:Ix es fU f g) (hl:fU.length=es.length):vS N (o.map f) fU xs:=by
 have aN:∀ j∈o,j<es.length:=fun j hj=>by
  obtain⟨i,hi⟩:=List.mem_iff_getElem?.1 hj;have:i<xs.size:=by rw[<-h.ord];exact (List.getElem?_eq_some_iff.1 hi).1
  obtain⟨_,j',e,z1,z2,_⟩:=h.at_ i _ (Array.getElem?_eq_getElem this);rw[hi] at z1;cases z1;exact (List.getElem?_eq_some_iff.1 z2).1
 refine⟨by rw[hl,h.len],by rw[List.length_map,h.ord],?_,fun j hj=>?_,fun i x hx=>?_⟩
 ·have:∀ l:List Nat,(∀ j∈l,j<es.length)->l.Nodup->(l.map f).Nodup:=by
   intro l
   induction l with
   | nil=>simp
   | cons a l ih=>
    intro h1 h2;rw[List.nodup_cons] at h2;rw[List.map_cons,List.nodup_cons];refine⟨fun hm=>?_,ih (fun j hj=>h1 j (by simp[hj])) h2.2⟩;obtain⟨b,hb,e⟩:=List.mem_map.1 hm;have e1:=(hf.to a (h1 a (by simp))).2.1;have e2:=(hf.to b (h1 b (by simp[hb]))).2.1;rw[e,e1] at e2;exact h2.1 (e2▸hb)
  exact this o aN h.nod
 ·obtain⟨a,b⟩:=hf.fro j (by omega);exact List.mem_map.2 ⟨g j,h.sur _ a,b⟩
 obtain⟨z1,j,e,z2,z3,z4⟩:=h.at_ i x hx;exact⟨z1,f j,e,by rw[List.getElem?_map,z2];rfl,by rw[(hf.to j (List.getElem?_eq_some_iff.1 z3).1).2.2];exact z3,z4⟩
def LcW:Lc->Lc->Prop
 | .cells ls,.cells iH=>ls=iH
 | .obj r _,.obj r' _=>r=r'
 | _,_=>False
def Xu (N N':Np):Prop:=∀ b l,N b=some l->∃ l',N' b=some l'∧LcW l l'
theorem VR.wu {N N':Np} (hm:Xu N N') {v:TV} {x:Value} (h:VR N v x):VR N' v x:=by
 induction h with
 | bool b=>exact .bool b
 | int k n=>exact .int k n
 | str s=>exact .str s
 | Qu=>exact .Qu
 | Ih=>exact .Ih
 | LP=>exact .LP
 | nfn=>exact .nfn
 | Qv=>exact .Qv
 | ptr hb hp h ht=>
  obtain⟨l',h1,h2⟩:=hm _ _ hb;cases l' with
  | obj r _=>exact h2.elim
  | cells iH=>cases h2;exact .ptr h1 hp h ht
 | slc hb hp h hl hc hx ha hk=>
  obtain⟨l',h1,h2⟩:=hm _ _ hb;cases l' with
  | obj r _=>exact h2.elim
  | cells iH=>cases h2;exact .slc h1 hp h hl hc hx ha hk
 | map h=>
  obtain⟨l',h1,h2⟩:=hm _ _ h;cases l' with
  | obj r _=>cases h2;exact .map h1
  | cells iH=>exact h2.elim
 | jk h=>
  obtain⟨l',h1,h2⟩:=hm _ _ h;cases l' with
  | obj r _=>cases h2;exact .jk h1
  | cells iH=>exact h2.elim
 | iter h=>
  obtain⟨l',h1,h2⟩:=hm _ _ h;cases l' with
  | obj r _=>cases h2;exact .iter h1
  | cells iH=>exact h2.elim
 | fn h1 _ h3 _ ih2 ih4=>exact .fn h1 ih2 h3 ih4
 | agg h1 _ ih=>exact .agg h1 ih
 | bH h1 _ ih=>exact .bH h1 ih
theorem vS.wu {N N':Np} (hm:Xu N N') {o:List Nat} {es:List (TV×TV)} {xs:Array MapEntry} (h:vS N o es xs):vS N' o es xs:=
 ⟨h.len,h.ord,h.nod,h.sur,fun i x hx=>let ⟨b,j,e,h1,h2,h3,h4⟩:=h.at_ i x hx;⟨b,j,e,h1,h2,h3.wu hm,h4.wu hm⟩⟩
theorem iy.wu {N N':Np} {w:World} {k:BK} {cs:List TV} {ls:List Pl} (hm:Xu N N') (h:iy N w k cs ls):iy N' w k cs ls:=by
 refine⟨h.1,fun p hp=>?_,h.2.2⟩;obtain⟨⟨arr,ty,fz,h1,h2,h3,h4⟩,p1,p2,p3⟩:=h.2.1 p hp;exact⟨⟨arr,ty,fz,h1,h2,h3,fun z i c v a b d=>(h4 z i c v a b d).wu hm⟩,p1,p2,p3⟩
theorem iy.last {N:Np} {w:World} {k:BK} {cs:List TV} {ls:List Pl} (hk:k≠.ro) (h:iy N w k cs ls):iy N w .last cs ls:=by
 refine⟨h.1,fun p hp=>?_,fun e=>(by cases e),fun _=>?_⟩
 ·obtain⟨⟨arr,ty,fz,h1,h2,h3,h4⟩,p1,p2,p3⟩:=h.2.1 p hp;exact⟨⟨arr,ty,fz,h1,h2,fun _=>h3 hk,fun z=>h4 fun _=>z rfl⟩,p1,p2,fun _=>p3 hk⟩
 cases k with
 | ro=>exact absurd rfl hk
 | own=>
  obtain⟨p,rfl,_⟩:=h.2.2.1 rfl;refine⟨by simp,fun p hp q hq _ _=>?_⟩;rw[List.mem_singleton] at hp hq;rw[hp,hq]
 | grow=>exact h.2.2.2 (.inl rfl)
 | last=>exact h.2.2.2 (.inr rfl)
def QM (fl:Nat):TV->TV
 | .slc b off len cap sz ex=>if b<fl then .slc b off len cap sz ex else .slc b off len len sz false
 | v=>v
def Xv (fl:Nat):TV->TV
 | .bH cs=>.bH (cs.map (QM fl))
 | v=>QM fl v
def N8 (rV:Bool):HB->HB
 | .cells .ro cs=>.cells .ro cs
 | .cells _ cs=>if rV then .rV (a0y cs) else .cells .last cs
 | .map es=>.map (Ui es)
 | x=>x
def QN (rV:Bool) (h:List HB) (v:TV) (h1:List HB):Option (TV×List HB):=
 match tH h1 h.length 5000 (zW v []) [] with
 | iC=>match jI (JV h.length iC) v,Eb (JV h.length iC) h1 iC with
  | some v',some bs=>some (Xv h.length v',h++bs.map (N8 rV))
  | _,_=>none
noncomputable def fS (es:List (TV×TV)):Nat->Nat:=Classical.choose (Pg (xq es).symm)
theorem a4R (es:List (TV×TV)):∃ g,Ix es (Ui es) (fS es) g:=Classical.choose_spec (Pg (xq es).symm)
def mapOf (h bs:List HB) (b:Nat):Option (List (TV×TV)):=
 if b<h.length then none else match bs[b-h.length]? with
  | some (.map es)=>some es
  | _=>none
noncomputable def qX (h bs:List HB) (b:Nat) (l:Lc):Lc:=
 match mapOf h bs b,l with
 | some es,.obj r o=>.obj r (o.map (fS es))
 | _,l=>l
theorem oq {h bs:List HB} {b:Nat} {l:Lc}:ah (qX h bs b l)=ah l:=by
 unfold qX;split<;>rfl
theorem LcW.refl (l:Lc):LcW l l:=by
 cases l<;>rfl
theorem a1z {h bs:List HB} {b:Nat} {l:Lc}:LcW l (qX h bs b l):=by
 unfold qX;split
 ·rfl
 exact .refl _
theorem Ed {h bs:List HB} {b:Nat} {l:Lc} (hb:b<h.length):qX h bs b l=l:=by
 unfold qX mapOf;rw[if_pos hb]
theorem Xw {rV:Bool} {x:HB} (h:wr (N8 rV x)=true):wr x=true:=by
 cases x with
 | cells k cs=>cases k<;>first | exact h | rfl
 | _=>first | exact h | rfl
theorem Ph {N:Np} {fl:Nat} {v:TV} {x:Value} (h:VR N v x):VR N (QM fl v) x:=by
 cases h with
 | slc hb hp h hl hc hx ha hk=>
  simp only[QM];split
  ·exact .slc hb hp h hl hc hx ha hk
  exact .slc hb hp (Nat.le_trans (Nat.add_le_add_left (Nat.mul_le_mul_right _ hl) _) h) (Nat.le_refl _) (Nat.le_trans hl hc) (fun e=>by cases e) ha hk
 | _=>first | (constructor;done) | (constructor<;>assumption)
theorem Xx {N:Np} {fl:Nat} {v:TV} {x:Value} (h:VR N v x):VR N (Xv fl v) x:=by
 cases h with
 | bH h1 h2=>
  refine .bH (by simpa using h1) fun i c v hc hv=>?_;rw[List.getElem?_map] at hc;obtain⟨c0,e1,rfl⟩:=Option.map_eq_some_iff.1 hc;exact Ph (h2 i c0 v e1 hv)
 | slc hb hp h hl hc hx ha hk=>exact Ph (.slc hb hp h hl hc hx ha hk)
 | _=>first | (constructor;done) | (constructor<;>assumption)
theorem eP.nrm {M:Mp} {h bs:List HB} {w w':World} {v:TV} {y:Value} (rV:Bool) (hV:Valid M mg (iD h) w) (hl:∀ k,M (.l k)=none) (hn:∀ x∈bs,∀ m n seen,x≠.bn m n seen) (hR:eP M h w v (h++bs) [] y w'):eP M h w (Xv h.length v) (h++bs.map (N8 rV)) [] y w':=by
 obtain⟨M',Me,hl',hX,WU⟩:=hR;have N7:∀ b l,M (.h b)=some l->b<h.length:=fun b l hb=>by
  have:=hV.has hb;simp only[iD,St.get] at this;rcases Nat.lt_or_ge b h.length with h1 | h1
  ·exact h1
  rw[List.getElem?_eq_none h1] at this;simp at this
 have hold:∀ b,b<h.length->M' (.h b)=M (.h b):=fun b hb=>hX.gZ (.h b) (.inl (by simp[iD,St.get,hb])) (by simp)
 let M2:Mp:=fun k=>match k with
  | .l _=>none
  | .h b=>(M' (.h b)).map (qX h bs b)
 have Ug:∀ b,M2 (.h b)=(M' (.h b)).map (qX h bs b):=fun b=>rfl;have inv:∀ b l2,M2 (.h b)=some l2->∃ l,M' (.h b)=some l∧l2=qX h bs b l:=fun b l2 e=>by
  rw[Ug] at e;obtain⟨l,e1,e2⟩:=Option.map_eq_some_iff.1 e;exact⟨l,e1,e2.symm⟩
 have hmW:Xu M'.h M2.h:=fun b l e=>by
  have e:M' (.h b)=some l:=e;exact⟨_,(show M2 (.h b)=_ by rw[Ug,e];rfl),a1z⟩
 have hle:lG M.h M2.h:=fun b l e=>by
  have e:M (.h b)=some l:=e;have hb:=N7 b l e;exact⟨l,(show M2 (.h b)=_ by rw[Ug,hold b hb,e];simp[Ed hb]),.refl l⟩
 have MX:∀ c,c<w.heap.size->w'.heap[c]? = w.heap[c]?:=fun c hc=>hX.frame c hc (by simp);have hC:∀ b,b<h.length->iD (h++bs.map (N8 rV)) (.h b)=iD h (.h b):=fun b hb=>by simp only[iD,St.get];rw[List.getElem?_append_left hb]
 have hC1:∀ b,¬b<h.length->iD (h++bs) (.h b)=bs[b-h.length]?:=fun b hb=>by simp only[iD,St.get];rw[List.getElem?_append_right (by omega)]
 have hC2:∀ b,¬b<h.length->iD (h++bs.map (N8 rV)) (.h b)=(bs[b-h.length]?).map (N8 rV):=fun b hb=>by simp only[iD,St.get];rw[List.getElem?_append_right (by omega),List.getElem?_map]
 have hCo:∀ b,b<h.length->iD (h++bs) (.h b)=iD h (.h b):=fun b hb=>by simp only[iD,St.get];rw[List.getElem?_append_left hb]
 refine⟨M2,⟨fun k l Cb _=>?_,fun k k' l l' b dZ q1 q2 _ hc hw=>?_,fun k l Cb=>?_⟩,fun _=>rfl,⟨fun k l e=>?_,hX.frame,fun k hs hn=>?_,fun k hs hn=>?_,fun k l e c hc hs=>?_,hX.size,fun k hs=>?_,by simp,by simp,hX.os,hX.output,hX.tape⟩,Xx (WU.wu hmW)⟩
 ·cases k with
  | l k=>cases Cb
  | h b=>
   obtain⟨l0,e1,rfl⟩:=inv b l Cb;by_cases hb:b<h.length
   ·rw[Ed hb,hC b hb];rw[hold b hb] at e1;obtain⟨x,f1,f2⟩:=hV.ok _ l0 e1 trivial;exact⟨x,f1,f2.mono hle fun c hc=>MX c (hV.inb _ l0 e1 c hc)⟩
   obtain⟨x,x1,x2⟩:=Me.ok _ l0 e1 trivial;rw[hC1 b hb] at x1;refine⟨N8 rV x,by rw[hC2 b hb,x1];rfl,?_⟩;cases x with
   | cells k cs=>
    cases l0 with
    | obj r o=>exact x2.elim
    | cells ls=>
     have x3:iy M2.h w' k cs ls:=iy.wu hmW x2;have e:qX h bs b (.cells ls)=.cells ls:=by unfold qX;split<;>first | rfl | simp_all
     rw[e];have go:k≠.ro->jF M2.h w' (if rV then .rV (a0y cs) else .cells .last cs) (.cells ls):=fun hk=>by
      cases rV with
      | true=>exact⟨cs,(xk _ cs).symm,x3.last hk⟩
      | false=>exact x3.last hk
     cases k with
     | ro=>exact x3
     | own=>exact go (by simp)
     | grow=>exact go (by simp)
     | last=>exact go (by simp)
   | rV cs=>
    cases l0 with
    | obj r o=>exact x2.elim
    | cells ls=>
     have e:qX h bs b (.cells ls)=.cells ls:=by unfold qX;split<;>first | rfl | simp_all
     rw[e];obtain⟨cs',h1,h2⟩:=x2;exact⟨cs',h1,iy.wu hmW h2⟩
   | map es=>
    cases l0 with
    | cells ls=>exact x2.elim
    | obj r o=>
     obtain⟨xs,y1,y2⟩:=x2;have e:qX h bs b (.obj r o)=.obj r (o.map (fS es)):=by
      have:mapOf h bs b=some es:=by unfold mapOf;rw[if_neg hb,x1]
      unfold qX;rw[this]
     rw[e];obtain⟨g,hg⟩:=a4R es;exact⟨xs,y1,(y2.wu hmW).perm hg (xq es).length_eq⟩
   | mark=>
    have e:∀ r o,qX h bs b (.obj r o)=.obj r o:=fun r o=>by
     have:mapOf h bs b=none:=by unfold mapOf;rw[if_neg hb,x1]
     unfold qX;rw[this]
    cases l0 with
    | cells ls=>exact x2.elim
    | obj r o=>rw[e];exact x2
   | bn m n seen=>exact absurd rfl (hn _ (List.mem_of_getElem? x1) m n seen)
   | loop rd f nt env ps a b9 gK=>
    have e:∀ r o,qX h bs b (.obj r o)=.obj r o:=fun r o=>by
     have:mapOf h bs b=none:=by unfold mapOf;rw[if_neg hb,x1]
     unfold qX;rw[this]
    cases l0 with
    | cells ls=>exact x2.elim
    | obj r o=>
     rw[e];obtain⟨lp,h1,h2⟩:=x2;exact⟨lp,h1,{ h2 with BI:=fun t v e=>(h2.BI t v e).wu hmW }⟩
 ·cases k with
  | l k=>cases q1
  | h b1=>
   cases k' with
   | l k=>cases q2
   | h b2=>
    obtain⟨l1,e1,rfl⟩:=inv b1 l q1;obtain⟨l2,e2,rfl⟩:=inv b2 l' q2;rw[oq,oq];obtain⟨x,g1,g2⟩:∃ x,iD (h++bs) (.h b1)=some x∧wr x=true:=by
     by_cases q1:b1<h.length
     ·exact⟨b,by rw[hCo _ q1,<-hC _ q1];exact hc,hw⟩
     rw[hC2 _ q1] at hc;obtain⟨x,f1,rfl⟩:=Option.map_eq_some_iff.1 hc;exact⟨x,by rw[hC1 _ q1];exact f1,Xw hw⟩
    exact Me.own (.h b1) (.h b2) l1 l2 x dZ e1 e2 trivial g1 g2
 ·cases k with
  | l k=>cases Cb
  | h b=>
   obtain⟨l0,e1,rfl⟩:=inv b l Cb;rw[oq];exact Me.inb _ l0 e1
 ·cases k with
  | l k=>rw[hl k] at e;cases e
  | h b=>exact hle b l e
 ·cases k with
  | l k=>simp[iD,St.get] at hs
  | h b=>exact hC b (by simpa[iD,St.get] using hs)
 ·cases k with
  | l k=>rw[hl k]
  | h b=>
   by_cases hb:b<h.length
   ·rw[Ug,hold b hb];cases M (.h b) with
    | none=>rfl
    | some l=>simp only[Option.map_some];rw[Ed hb]
   have h0:M (.h b)=none:=by
    cases e:M (.h b) with
    | none=>rfl
    | some l=>exact absurd (N7 b l e) hb
   have Td:iD (h++bs) (.h b)=none:=by
    rcases hs with hs | hs
    ·have:b<h.length:=(by simpa[iD,St.get] using hs);omega
    rw[hC2 _ hb] at hs;rw[hC1 _ hb];simpa using hs
   have:M' (.h b)=M (.h b):=hX.gZ (.h b) (.inr Td) (by simp);rw[h0,Ug,this,h0];rfl
 ·cases k with
  | l k=>cases e
  | h b=>
   obtain⟨l0,e1,rfl⟩:=inv b l e;rw[oq] at hc;exact hX.fresh _ l0 e1 c hc hs
 cases k with
 | l k=>simp[iD,St.get] at hs
 | h b=>
  have hb:b<h.length:=by simpa[iD,St.get] using hs
  rw[hC b hb];exact hs
theorem JW {g:Nat->Option Nat} {x y:HB} (h:oh g x=some y):∀ m n seen,y≠.bn m n seen:=by
 cases x<;>simp only[oh,Option.map_eq_some_iff,Option.some.injEq] at h
 all_goals first
  | (obtain⟨_,_,rfl⟩:=h;simp)
  | (subst h;simp)
  | cases h
theorem eP.norm {M:Mp} {h h1 h2:List HB} {w w':World} {v v2:TV} {y:Value} {rV:Bool} (hV:Valid M mg (iD h) w) (hl:∀ k,M (.l k)=none) (ho:QN rV h v h1=some (v2,h2)) (hR:eP M h w v h1 [] y w'):eP M h w v2 h2 [] y w':=by
 unfold QN at ho;simp only at ho;obtain⟨k1,k2⟩:=vg (h:=h1) (fl:=h.length) 5000 (zW v []) [] .nil (by simp);split at ho
 ·rename_i v' bs e1 e2;cases ho;refine eP.nrm rV hV hl (fun x hx=>?_) (hR.gc hV hl k1 k2 e1 e2);obtain⟨i,hi⟩:=List.mem_iff_getElem?.1 hx;obtain⟨_,_,_,_,e⟩:=(Ec e2).2 i x hi;exact JW e
 cases ho
section
variable {P:Program} {T:iF} {call:ay} {L:Nat} {nt:Nat} {M:Mp} {h:List HB} {w:World}
def FZ (tmps:Array Value):List (Nat×Value)->Array Value
 | []=>tmps
 | (t,a)::r=>FZ (tmps.setIfInBounds t a) r
theorem GV:∀ {l:List (Nat×Value)} {tmps:Array Value},(FZ tmps l).size=tmps.size
 | [],_=>rfl
 | (t,a)::r,tmps=>by rw[FZ,GV];simp
theorem Ee:∀ (l:List (Nat×Value)) (tmps:Array Value),l.foldl (fun tmps (t,a)=>tmps.setIfInBounds t a) tmps=FZ tmps l
 | [],_=>rfl
 | (t,a)::r,tmps=>by rw[List.foldl_cons,Ee r];rfl
theorem GX {N:Np} {nt:Nat}:∀ {ps:List Nat} {args:List TV} {xs:List Value} {env:List (Nat×EV)} {tmps:Array Value},aH N args xs->args.length=ps.length->(∀ p∈ps,p<nt)->nt<=tmps.size ->
  (∀ t v,aT t env=some (.val v)->VR N v (tmps.getD t Go.undef))->(∀ t,aT t env=some .undef->tmps.getD t Go.undef=Go.undef)->(∀ t k o,aT t env≠some (.loc k o)) ->
  (∀ t v,aT t (qJ env ps args)=some (.val v)->VR N v ((FZ tmps (ps.zip xs)).getD t Go.undef))∧(∀ t,aT t (qJ env ps args)=some .undef->(FZ tmps (ps.zip xs)).getD t Go.undef=Go.undef) ∧
   (∀ t k o,aT t (qJ env ps args)≠some (.loc k o))
 | [],[],xs,env,tmps,_,_,_,_,h1,h2,h3=>⟨h1,h2,h3⟩
 | [],v::vs,xs,env,tmps,_,hl,_,_,_,_,_=>by simp at hl
 | p::ps,[],xs,env,tmps,_,hl,_,_,_,_,_=>by simp at hl
 | p::ps,v::vs,xs,env,tmps,hx,hl,hp,hn,h1,h2,h3=>by
  obtain⟨x,xs',rfl,Xj,hx2⟩:=hx.dJ;have hpn:=hp p List.mem_cons_self;simp only[qJ,List.zip_cons_cons,FZ];have hg:∀ t,(tmps.setIfInBounds p x).getD t Go.undef=if p=t then x else tmps.getD t Go.undef:=by
   intro t;simp only[Array.getD_eq_getD_getElem?,Array.getElem?_setIfInBounds];by_cases h:p=t
   ·subst h;simp[show p<tmps.size by omega]
   ·simp[h]
  refine GX hx2 (by simpa using hl) (fun q hq=>hp q (List.mem_cons_of_mem _ hq)) (by simpa using hn) ?_ ?_ ?_
  ·intro t v' he;rw[hg];simp only[aT] at he;split at he
   ·rename_i h;rw[if_pos h];cases he;exact Xj
   ·rename_i h;rw[if_neg h];exact h1 t v' he
  ·intro t he;rw[hg];simp only[aT] at he;split at he
   ·cases he
   ·rename_i h;rw[if_neg h];exact h2 t he
  ·intro t k o he;simp only[aT] at he;split at he
   ·cases he
   ·exact h3 t k o he
theorem Ef (hm:P.follows .mixedOrders=true) (hC:aj P call) {l l':Nat} {q:List Nat} {args:List TV} {v:TV} {h':List HB} {ws:List Nat} (hf:zM P T call L l args h=some (v,h',ws)) (hB:lK M h w) (hl:M (.h l)=some (.obj l' q))
  {xs:List Value} (hx:aH M.h args xs):Iy P { target:=.fn (.yield l') #[],args:=xs.toArray } w (eP M h w v h' ws):=by
 unfold zM at hf;split at hf
 ·rename_i f nt env ps mG body gK hh;split at hf
  ·rename_i hc;obtain⟨hlen,hps⟩:=hc;have a9h:∀ p∈ps,p<nt:=fun p hp=>(by simpa using List.all_eq_true.1 hps p hp);obtain⟨cO,k1,k2⟩:=hB.val.ok _ _ hl trivial;simp only[iD,St.get,hh,Option.some.injEq] at k1;subst k1;obtain⟨lp,l1,l2⟩:=k2;have hlb:l<h.length:=(List.getElem?_eq_some_iff.1 hh).1;have hpa:lp.params.size=xs.length:=by
    have:=l2.ps;rw[<-hx.len,hlen,<-this];simp
   have a9i:(lp.params.zip xs.toArray).foldl (fun tmps (t,a)=>tmps.setIfInBounds t a) lp.tmps=FZ lp.tmps (ps.zip xs):=by
    rw[<-Array.foldl_toList,Array.toList_zip,l2.ps];exact Ee _ _
   refine⟨l',lp.fn,FZ lp.tmps (ps.zip xs),mG,body,?_,fun n=>?_⟩
   ·have h1:(Instr.yield l' xs.toArray).run P w=.ok (.round l' lp.fn ((lp.params.zip xs.toArray).foldl (fun tmps (t,a)=>tmps.setIfInBounds t a) lp.tmps) lp.assign lp.body) w:=by
     simp[Instr.yield,Instr.getLoop,getObj,Sem.run,l1,hpa]
    rw[a9i,l2.mG,l2.body] at h1;exact h1
   obtain⟨p1,p2,p3⟩:=GX hx hlen a9h l2.size l2.BI l2.Ii l2.nol;have SG:Rel M h w nt M ⟨qJ env ps args,[],h,[]⟩ { tmps:=FZ lp.tmps (ps.zip xs),defers:=[] } w:=by
    have hg:St.get ⟨qJ env ps args,[],h,[]⟩=iD h:=getEnv ⟨[],[],h,[]⟩ _ _;refine⟨by rw[hg];exact hB.val,by rw[hg];exact .refl _ _ _,fun t e he=>?_,by rw[GV];exact l2.size,by simp,.nil⟩;cases e with
    | val v=>exact .val (p1 t v he)
    | loc k o=>exact absurd he (p3 t k o)
    | undef=>
     have:=p2 t he;simp only at this ⊢;rw[this];exact .undef
   refine roundIn_of_wpIn (F:=Fence.wide) trivial ?_;split at hf
   ·rename_i s1 hex;refine jV (eu:=true) (r:=some l') hm hC hB (by simp) _ _ _ _ hex n _ M _ w SG fun M1 a1 w1 nV=>?_;split at hf
    ·rename_i f' WQ env' WR a' b' abU hh1;obtain⟨q1,hl1⟩:∃ q1,M1 (.h l)=some (.obj l' q1):=by
      obtain⟨l0,g1,g2⟩:=nV.ext.zN _ _ hl;cases l0 with
      | cells ls=>exact g2.elim
      | obj r' o'=>cases g2.1;exact⟨o',g1⟩
     obtain⟨cO,k1,k2⟩:=nV.val.ok _ _ hl1 trivial;simp only[St.get,hh1,Option.some.injEq] at k1;subst k1;obtain⟨lp1,m1,m2⟩:=k2;obtain⟨v2,x2⟩:=uY nV.val hl1 hh1 rfl (b':=.loop false f' WQ env' WR a' b' none) (o':=.loop { lp1 with state:=.busy }) ⟨{ lp1 with state:=.busy },by simp[(Array.getElem?_eq_some_iff.1 m1).1],
      {ps:=m2.ps,mG:=m2.mG,body:=m2.body,size:=m2.size,BI:=m2.BI,Ii:=m2.Ii,nol:=m2.nol,ready:=by simp,busy:=fun _ _=>rfl,done:=by simp }⟩
     have GN:=nV.next hB (s':={ s1 with heap:=s1.heap.set l (.loop false f' WQ env' WR a' b' none),ws:=xM h.length l s1.ws }) v2 x2 rfl rfl (fun _ _ e=>e);refine⟨{ w1 with heap:=w1.heap.setIfInBounds l' (.loop { lp1 with state:=.busy }) },?_,?_⟩
     ·simp[Instr.beginRound,Instr.getLoop,getObj,setObj,Sem.run,m1,(m2.ready rfl).1]
     ·split at hf
      ·rename_i e s2 a9k;refine jV (eu:=true) (r:=some l') hm hC hB (by simp) _ _ _ _ a9k n _ M1 _ _ GN fun M3 a3 w3 hR3=>?_;split at hf
       ·rename_i f3 nt3 a4T ps3 a3' b3 hh3;simp only[Option.some.injEq,Prod.mk.injEq] at hf;obtain⟨rfl,rfl,rfl⟩:=hf;obtain⟨q3,hl3⟩:∃ q3,M3 (.h l)=some (.obj l' q3):=by
         obtain⟨l0,g1,g2⟩:=hR3.ext.zN _ _ hl;cases l0 with
         | cells ls=>exact g2.elim
         | obj r' o'=>cases g2.1;exact⟨o',g1⟩
        obtain⟨cO,k1,k2⟩:=hR3.val.ok _ _ hl3 trivial;simp only[St.get,hh3,Option.some.injEq] at k1;subst k1;obtain⟨WY,q1,q2⟩:=k2
        let lp4:Loop:={ WY with state:=if (mP e).isNone then .ready else .done,pending:=mP e }
        obtain⟨v4,x4⟩:=uY hR3.val hl3 hh3 rfl (b':=.loop (kJ e) f3 nt3 a4T ps3 a3' b3 (mP e)) (o':=.loop lp4) ⟨lp4,by simp[(Array.getElem?_eq_some_iff.1 q1).1],
         {ps:=q2.ps,mG:=q2.mG,body:=q2.body,size:=q2.size,BI:=q2.BI,Ii:=q2.Ii,nol:=q2.nol
          ready:=fun hn=>by cases e<;>simp[kJ] at hn;exact⟨rfl,rfl⟩
          busy:=fun hn hp=>by cases e<;>simp[kJ,mP] at hn hp
          done:=fun hn j hj _=>by cases e<;>simp[kJ] at hn<;>(simp only[mP,Option.some.injEq] at hj;subst hj;exact⟨rfl,rfl⟩) }⟩
        have hR4:=hR3.next hB (s':={ s2 with heap:=s2.heap.set l (.loop (kJ e) f3 nt3 a4T ps3 a3' b3 (mP e)),ws:=xM h.length l s2.ws }) v4 x4 rfl rfl (fun _ _ e=>e);have BO:=IE hB hR4 (v:=.bool (kJ e)) (y:=.bool (kJ e)) (.bool _);have a1A:(Instr.endRound l' (mP e)).run P w3=.ok (.bool (kJ e)) { w3 with heap:=w3.heap.setIfInBounds l' (.loop lp4) }:=by
         cases e<;>simp[Instr.endRound,Instr.getLoop,getObj,setObj,Sem.run,q1,kJ,mP,lp4]
        cases e with
        | norm=>exact⟨_,_,a1A,BO⟩
        | exit id=>exact⟨_,_,a1A,BO⟩
        | ret=>exact⟨_,_,a1A,BO⟩
       ·cases hf
      ·cases hf
    ·cases hf
   ·cases hf
  ·cases hf
 ·cases hf
theorem a0z (hm:P.follows .mixedOrders=true):∀ n,aj P (ap P T L n)
 | 0=>by
  intro fv args h v h' ws hc;simp[ap] at hc
 | n+1=>by
  intro fv args h v h' ws hc M w x xs hV hl hx yj;have ih:=a0z hm n;cases fv with
  | fn f first cap=>
   simp only[ap] at hc;cases hx with
   | fn h1 h2 h3 h4=>
    rename_i ys zs;have wz:aH M.h (first++args++cap) (ys++xs++zs):=(aH.append ⟨h1,h2⟩ yj).append ⟨h3,h4⟩;obtain⟨fn,c,e1,e2,e3,e4⟩:=E8 hm ih hc ⟨hV,hl⟩ wz;refine⟨{ target:=.fn (.func f) zs.toArray,args:=ys.toArray++xs.toArray },fun w=>by simp[Deferred.ofValue],.inl ⟨⟨f,(ys++xs++zs).toArray,?_,e4⟩,f,first,cap,rfl⟩⟩;have OI : ¬ fn.name = "runtime.NumGoroutine" := (by simpa using e2);simp[invoke,callFunc,program,Sem.run,e1,OI,e3]
  | jk l=>
   simp only[ap] at hc;cases hx with
   | jk MQ=>
    rename_i l' _;refine⟨{ target:=.fn (.yield l') #[],args:=xs.toArray },fun w=>by simp[Deferred.ofValue],.inr ⟨Ef hm ih hc ⟨hV,hl⟩ MQ yj,l,rfl⟩⟩
  | _=>simp[ap] at hc
theorem Eh (hm:P.follows .mixedOrders=true) {n f:Nat} {args:List TV} {v:TV} {h':List HB} {ws:List Nat} (hr:run P T L (n+1) f args h=some (v,h',ws)) (hV:Valid M mg (iD h) w) (hl:∀ k,M (.l k)=none)
  {xs:List Value} (hx:aH M.h args xs) (k:Nat):CallsIn Fence.wide k P f xs.toArray w (yh (eP M h w v h' ws)):=by
 simp only[run,ap] at hr;have wz:aH M.h ([]++args++[]) xs:=by simpa using hx
 obtain⟨fn,c,_,_,_,e4⟩:=E8 hm (a0z hm n) hr ⟨hV,hl⟩ wz;exact e4 k
end
def N9 (cd:og):Prop:=∀ fv args h K1 K2,cd fv args h K1->cd fv args h K2->∃ v h' ws,K1 v h' ws∧K2 v h' ws
theorem JX:N9 MZ:=fun _ _ _ _ _ h _=>h.elim
theorem QO {P:Program}:CB P MZ:=fun _ _ _ _ _ _ h=>h.elim
section
variable {P:Program} {T:iF} {call:ay} {cd:og} {L f:Nat} {fl nt:Nat}
theorem Ei {g:St->(Ex->St->Prop)->Prop} (hg:∀ s Q1 Q2,g s Q1->g s Q2->∃ e s',Q1 e s'∧Q2 e s'):∀ (k:Nat) {s:St} {Q1 Q2:Ex->St->Prop},yF g k s Q1->yF g k s Q2->∃ e s',Q1 e s'∧Q2 e s'
 | 0,_,_,_,h,_=>h.elim
 | k+1,s,Q1,Q2,h1,h2=>by
  obtain⟨e,s',q1,q2⟩:=hg _ _ _ h1 h2;cases e with
  | norm=>exact Ei hg k q1 q2
  | exit i=>exact⟨_,_,q1,q2⟩
  | ret=>exact⟨_,_,q1,q2⟩
theorem Na {s:St} {it:Nat} {K1 K2:St->TV->Prop} (h1:P6 fl s it K1) (h2:P6 fl s it K2):∃ s1 v,K1 s1 v∧K2 s1 v:=by
 obtain⟨b,r,n,seen,es,a1,a2,a3,a4,a5,a6⟩:=h1;obtain⟨b',r',n',abY,fU,c1,c2,c3,c4,c5,c6⟩:=h2;rw[a1] at c1;cases c1;rw[a2] at c2;cases c2;rw[a3] at c3;cases c3;by_cases h:∀ j,j<n->j∈seen
 ·exact⟨_,_,a5 h,c5 h⟩
 obtain⟨j,hj⟩:=Classical.not_forall.1 h;obtain⟨hj1,LD⟩:=Classical.not_imp.1 hj;have hl:j<es.length:=by omega
 exact⟨_,_,a6 j _ LD (List.getElem?_eq_getElem hl),c6 j _ LD (List.getElem?_eq_getElem hl)⟩
theorem Ej (hcd:N9 cd):∀ (c:Code) {s:St} {Q1 Q2:Ex->St->Prop},bJ P T call cd L f fl nt c s Q1->bJ P T call cd L f fl nt c s Q2->∃ e s',Q1 e s'∧Q2 e s':=by
 have plain:∀ (c:Code) {s:St} {Q1 Q2:Ex->St->Prop},(∃ e s',exec P T call L f false fl nt c s=some (e,s')∧Q1 e s')->(∃ e s',exec P T call L f false fl nt c s=some (e,s')∧Q2 e s')->∃ e s',Q1 e s'∧Q2 e s':=by
  rintro c s Q1 Q2 ⟨e,s1,h1,h2⟩ ⟨e',s2,h3,h4⟩;rw[h1] at h3;cases h3;exact⟨_,_,h2,h4⟩
 intro c
 induction c with
 | region id ops draw=>
  intro s Q1 Q2 h1 h2;simp only[bJ] at h1 h2;split at h1
  ·rename_i it nx o1 o2 hn;simp only[hn] at h2;obtain⟨s1,v,⟨s2,is,k1,k2⟩,⟨s3,is',k3,k4⟩⟩:=Na h1.2 h2.2;rw[k1] at k3;cases k3;exact⟨_,_,k2,k4⟩
  rename_i hn;simp only[hn] at h2;exact plain _ h1 h2
 | seq x y JO ihy=>
  intro s Q1 Q2 h1 h2;simp only[bJ] at h1 h2;obtain⟨e,s1,q1,q2⟩:=JO h1 h2;cases e with
  | norm=>exact ihy q1 q2
  | exit i=>exact⟨_,_,q1,q2⟩
  | ret=>exact⟨_,_,q1,q2⟩
 | cond c x y JO ihy=>
  intro s Q1 Q2 h1 h2;simp only[bJ] at h1 h2;split at h1
  ·rename_i hc;simp only[hc] at h2;exact JO h1 h2
  ·rename_i hc;simp only[hc] at h2;exact ihy h1 h2
  exact h1.elim
 | block id b ih=>
  intro s Q1 Q2 h1 h2;simp only[bJ] at h1 h2;obtain⟨e,s1,q1,q2⟩:=ih h1 h2;exact⟨_,_,q1,q2⟩
 | scope b ih=>
  intro s Q1 Q2 h1 h2;simp only[bJ] at h1 h2;exact ih h1 h2
 | loop b ih=>
  intro s Q1 Q2 h1 h2;simp only[bJ] at h1 h2;exact Ei (g:=fun s Q=>bJ P T call cd L f fl nt b (dO (T.dG f (bZ b)) s) Q) (fun s Q1 Q2 a b=>ih a b) L h1 h2
 | rangeFunc g ps mG body=>
  intro s Q1 Q2 h1 h2;simp only[bJ] at h1 h2;split at h1
  ·rename_i hd;rw[if_pos hd] at h2;obtain⟨f1,a1,b1,e1,_,k1⟩:=h1;obtain⟨f2,a2,b2,e2,_,k2⟩:=h2;rw[e1] at e2;cases e2;obtain⟨v,h',ws,⟨_,_,_,_,_,_,_,_,_,c1,c2,c3⟩,⟨_,_,_,_,_,_,_,_,_,d1,d2,d3⟩⟩:=hcd _ _ _ _ _ k1 k2;rw[c1] at d1;cases d1;rw[c2] at d2;cases d2;exact⟨_,_,c3,d3⟩
  rename_i hd;rw[if_neg hd] at h2;exact plain _ h1 h2
 | _=>
  intro s Q1 Q2 h1 h2;simp only[bJ] at h1 h2;exact plain _ h1 h2
def IJ (P:Program) (T:iF) (call:ay) (L:Nat):og:=fun fv args h K=>match fv with
 | .fn f a b=>∃ t,FU P f=some t∧bJ P T call MZ L f h.length t.nt t.body ⟨gu 0 (a++args++b),[],h,[]⟩ fun e s=>(e=.norm∨e=.ret)∧∃ vs,l9 P s t.results=some vs∧K (one vs) s.heap s.ws
 | _=>False
theorem JY:N9 (IJ P T call L):=fun fv args h K1 K2 h1 h2=>by
 cases fv with
 | fn f a b=>
  obtain⟨t,e1,k1⟩:=h1;obtain⟨t',e2,k2⟩:=h2;rw[e1] at e2;cases e2;obtain⟨e,s,⟨_,vs,a1,a2⟩,⟨_,vs',a3,a4⟩⟩:=Ej JX _ k1 k2;rw[a1] at a3;cases a3;exact⟨_,_,_,a2,a4⟩
 | _=>exact h1.elim
def JZ (P:Program) (T:iF) (call:ay) (L:Nat) (f:Nat) (t:FnT) (args:List TV) (h:List HB) (r:TV×List HB):Prop:=
 bJ P T call (IJ P T call L) L f h.length t.nt t.body ⟨gu 0 args,[],h,[]⟩ fun e s=>(e=.norm∨e=.ret)∧∃ vs,l9 P s t.results=some vs∧s.ws=[]∧QN (T.a1b.contains f) h (one vs) s.heap=some r
open Classical in
noncomputable def QS (P:Program) (T:iF) (call:ay) (L:Nat) (f:Nat) (args:List TV) (h:List HB):Option (TV×List HB×List Nat):=
 match FU P f with
 | some t=>if hx:∃ r,JZ P T call L f t args h r then some ((Classical.choose hx).1,(Classical.choose hx).2,[]) else none
 | none=>none
theorem QU {args:List TV} {h:List HB} {r:TV×List HB×List Nat} (hf:QS P T call L f args h=some r):∃ t,FU P f=some t∧JZ P T call L f t args h (r.1,r.2.1)∧r.2.2=[]:=by
 unfold QS at hf;split at hf
 ·rename_i t ht;split at hf
  ·rename_i hx;cases hf;exact⟨t,ht,Classical.choose_spec hx,rfl⟩
  cases hf
 cases hf
theorem Xy {args:List TV} {h:List HB} {r:TV×List HB} {t:FnT} (ht:FU P f=some t) (hr:JZ P T call L f t args h r):QS P T call L f args h=some (r.1,r.2,[]):=by
 unfold QS;rw[ht];simp only[];have hx:∃ r,JZ P T call L f t args h r:=⟨r,hr⟩;rw[dif_pos hx];obtain⟨e,s,⟨_,vs,a1,_,a2⟩,⟨_,vs',a3,_,a4⟩⟩:=Ej JY _ (Classical.choose_spec hx) hr;rw[a1] at a3;cases a3;rw[a2] at a4;cases a4;rfl
end
section
variable {P:Program} {T:iF} {call:ay} {cd:og} {L:Nat} {nt:Nat} {M:Mp} {h:List HB} {w:World}
theorem Pj (hm:P.follows .mixedOrders=true) (hC:aj P call) (hD:CB P cd) {f:Nat} {args:List TV} {t:FnT} {K:TV->List HB->List Nat->Prop} (ht:FU P f=some t)
  (hO:bJ P T call cd L f h.length t.nt t.body ⟨gu 0 args,[],h,[]⟩ fun e s=>(e=.norm∨e=.ret)∧∃ vs,l9 P s t.results=some vs∧K (one vs) s.heap s.ws) (hB:lK M h w) {xs:List Value} (hx:aH M.h args xs) :
  ∃ fn c, P.funcs[f]? = some fn ∧ (fn.name == "runtime.NumGoroutine") = false ∧ fn.body = some c ∧ ∀ n, CallsIn Fence.wide n P f xs.toArray w (yh fun y w' => ∃ v h' ws, K v h' ws ∧ eP M h w v h' ws y w') := by
 unfold FU at ht;split at ht
 ·rename_i fn hfn;split at ht
  ·cases ht
  ·rename_i JR;split at ht
   ·rename_i c hc;cases ht;refine⟨fn,c,hfn,by simpa using JR,hc,fun n=>?_⟩;have SG:Rel M h w fn.ntmps M ⟨gu 0 args,[],h,[]⟩ { tmps:=xs.toArray++Array.replicate (fn.ntmps-xs.toArray.size) Go.undef,defers:=[] } w:=by
     have hg:St.get ⟨gu 0 args,[],h,[]⟩=iD h:=getEnv ⟨[],[],h,[]⟩ _ _;refine⟨by rw[hg];exact hB.val,by rw[hg];exact .refl _ _ _,fun t e hl=>?_,by simp;omega,by simp,.nil⟩;obtain⟨i,v',x,e1,rfl,e3,e4⟩:=uZ hx hl;have hi:i<xs.length:=(List.getElem?_eq_some_iff.1 e3).1;have:(xs.toArray++Array.replicate (fn.ntmps-xs.toArray.size) Go.undef).getD t Go.undef=x:=by
      rw[Array.getD_eq_getD_getElem?,Array.getElem?_append_left (by simp;omega)];have:t=i:=(by omega);subst this;simp[e3]
     rw[this];exact .val e4
    have BO:∀ (s:St) (vs:List TV),l9 P s fn.results.toList=some vs->K (one vs) s.heap s.ws->∀ (M':Mp) (a':Act) (w':World),Rel M h w fn.ntmps M' s a' w'->LeavesInM Fence.wide n P fn a'.tmps (yh fun y w'=>∃ v h' ws,K v h' ws∧eP M h w v h' ws y w') a'.defers .returning w':=by
     intro s vs Jl hs M' a' w' sD;refine yE hB a'.defers a' w' rfl sD fun w'' IG=>?_;obtain⟨y,g1,g2⟩:=xg (P:=P) IG Jl;exact⟨y,g2,_,_,_,hs,IE hB IG g1⟩
    refine callsIn_of_wp_marks (F:=Fence.wide) hfn hc trivial ?_;refine Ud hm hC hD hB _ _ _ hO n _ M _ w SG fun e s M' a' w' hq sD=>?_;obtain⟨he,vs,h1,h2⟩:=hq;rcases he with rfl | rfl
    ·exact BO s vs h1 h2 M' a' w' sD
    ·exact BO s vs h1 h2 M' a' w' sD
   ·cases ht
 ·cases ht
theorem QV (hm:P.follows .mixedOrders=true) (hC:aj P call):CB P (IJ P T call L):=by
 intro f1 a1 b1 args h K hc M w x xs hV hl hx yj;obtain⟨t,ht,hO⟩:=hc;cases hx with
 | fn h1 h2 h3 h4=>
  rename_i ys zs;have wz:aH M.h (a1++args++b1) (ys++xs++zs):=(aH.append ⟨h1,h2⟩ yj).append ⟨h3,h4⟩;obtain⟨fn,c,e1,e2,e3,e4⟩:=Pj hm hC QO ht hO ⟨hV,hl⟩ wz;refine⟨{ target:=.fn (.func f1) zs.toArray,args:=ys.toArray++xs.toArray },fun w=>by simp[Deferred.ofValue],f1,(ys++xs++zs).toArray,?_,e4⟩;have OI : ¬ fn.name = "runtime.NumGoroutine" := by simpa using e2
  simp[invoke,callFunc,program,Sem.run,e1,OI,e3]
theorem Xz (hm:P.follows .mixedOrders=true) (hC:aj P call) {f:Nat} {args:List TV} {v:TV} {h':List HB} {ws:List Nat} (hf:QS P T call L f args h=some (v,h',ws)) (hB:lK M h w) {xs:List Value} (hx:aH M.h args xs) :
  ∃ fn c, P.funcs[f]? = some fn ∧ (fn.name == "runtime.NumGoroutine") = false ∧ fn.body = some c ∧ ∀ n, CallsIn Fence.wide n P f xs.toArray w (yh (eP M h w v h' ws)) := by
 obtain⟨t,ht,hO,hw⟩:=QU hf;simp only at hw;subst hw;obtain⟨fn,c,e1,e2,e3,e4⟩:=Pj (K:=fun v1 h1 ws1=>ws1=[]∧QN (T.a1b.contains f) h v1 h1=some (v,h')) hm hC (QV hm hC) ht hO hB hx;refine⟨fn,c,e1,e2,e3,fun n=>CallsIn.mono (F:=Fence.wide) (e4 n) fun en w3 QI=>?_⟩;cases en with
 | panicked c=>exact QI.elim
 | outgrown=>exact QI.elim
 | returned y=>
  obtain⟨v1,h1,ws1,⟨rfl,ho⟩,hR⟩:=QI;exact eP.norm hB.val hB.loc ho hR
end
section
variable {H:Type}
def Uj (g:DataW H->List HB->Option (List TV×List HB)) (n:Nat):List (DataW H)->List HB->Option (List TV×List HB)
 | [],h=>some ([],h)
 | d::ds,h=>match g d h with
  | some (c,h1)=>if c.length=n then (match Uj g n ds h1 with
   | some (cs,h2)=>some (c++cs,h2)
   | none=>none) else none
  | none=>none
def Nb (P:Program) (g:TypeId->DataW H->List HB->Option (List TV×List HB)):Nat->List Field->List (DataW H)->List HB->Option (List TV×List HB)
 | _,[],[],h=>some ([],h)
 | o,f::fs,d::ds,h=>match g f.type d h with
  | some (c,h1)=>if f.offset=o∧c.length=P.cellsOf f.type then (match Nb P g (o+c.length) fs ds h1 with
   | some (cs,h2)=>some (c++cs,h2)
   | none=>none) else none
  | none=>none
 | _,_,_,_=>none
def QW (P:Program):Nat->TypeId->DataW H->List HB->Option (List TV×List HB)
 | 0,_,_,_=>none
 | g+1,t,d,h=>match P.underlying t,d with
  | some .bool,.lit (.bool b)=>some ([.bool b],h)
  | some (.int _),.lit (.int k n)=>some ([.int k n],h)
  | some .string,.lit (.string bs)=>some ([.str ⟨bs.toArray⟩],h)
  | some (.slice _),.nil=>some ([.nil .slc],h)
  | some (.slice e),.slice xs ys=>match Uj (QW P g e) (P.cellsOf e) (xs++ys) h with
   | some (cs,h1)=>if P.cellsOf e=0 then none else some ([.slc h1.length 0 xs.length (xs.length+ys.length) (P.cellsOf e) true],h1++[.cells .ro cs])
   | none=>none
  | some (.struct fs),.agg ds=>match Nb P (QW P g) 0 fs.toList ds h with
   | some (cs,h1)=>if cs.length=P.cellsOf t then some (cs,h1) else none
   | none=>none
  | _,_=>none
variable {enc:TypeId×Value->H} {P:Program} {w:World}
structure lM (M:Mp) (h:List HB) (w:World):Prop where
 base:lK M h w
 ro:∀ b∈h,wr b=false
def Reads (enc:TypeId×Value->H) (P:Program) (w:World) (t:TypeId) (cs:List Value) (d:DataW H):Prop:=
 ∃ fuel ps,DataW.trod enc P w 0 (fun _=>true) true fuel t cs=some (d,ps)
def Uk (enc:TypeId×Value->H) (P:Program) (w:World) (g:TypeId->DataW H->List HB->Option (List TV×List HB)):Prop:=
 ∀ t d h r,g t d h=some r->∀ cs,Reads enc P w t cs d->∀ M,lM M h w->∃ M',lM M' r.2 w∧lG M M'∧aH M'.h r.1 cs∧∀ c∈r.1,bW c=true
theorem Pm {g:TypeId->DataW H->List HB->Option (List TV×List HB)} (hg:Uk enc P w g) {e:TypeId} {n:Nat}:∀ (ds:List (DataW H)) (CJ:List (List Value)) (h:List HB) (r:List TV×List HB),Uj (g e) n ds h=some r ->
  CJ.length=ds.length->(∀ (i:Nat) (d:DataW H) (cs:List Value),ds[i]? = some d->CJ[i]? = some cs->Reads enc P w e cs d)->∀ M,lM M h w ->
  ∃ M',lM M' r.2 w∧lG M M'∧aH M'.h r.1 CJ.flatten∧(∀ c∈r.1,bW c=true)∧r.1.length=ds.length*n∧∀ cs∈CJ,cs.length=n
 | [],CJ,h,r,hr,hl,hd,M,hB=>by
  simp only[Uj,Option.some.injEq] at hr;subst hr;have:CJ=[]:=List.eq_nil_of_length_eq_zero (by simpa using hl);subst this;exact⟨M,hB,.refl M,.nil,by simp,by simp,by simp⟩
 | d::ds,[],h,r,hr,hl,hd,M,hB=>by simp at hl
 | d::ds,cs::CJ,h,r,hr,hl,hd,M,hB=>by
  simp only[Uj] at hr;split at hr
  ·rename_i c h1 hc;split at hr
   ·rename_i hn;split at hr
    ·rename_i cs' h2 QA;simp only[Option.some.injEq] at hr;subst hr;obtain⟨M1,b1,m1,v1,o1⟩:=hg e d h (c,h1) hc cs (hd 0 d cs rfl rfl) M hB;obtain⟨M2,b2,m2,v2,o2,l2,u2⟩:=Pm hg ds CJ h1 (cs',h2) QA (by simpa using hl) (fun i d' a1B e1 e2=>hd (i+1) d' a1B (by simpa using e1) (by simpa using e2)) M1 b1;refine⟨M2,b2,m1.trans m2,?_,?_,?_,?_⟩
     ·rw[List.flatten_cons];exact (v1.mono m2.h).append v2
     ·intro x hx;rcases List.mem_append.1 hx with hx | hx
      ·exact o1 x hx
      ·exact o2 x hx
     ·simp only[List.length_append,l2,hn,List.length_cons,Nat.add_mul,Nat.one_mul];omega
     ·intro x hx;rcases List.mem_cons.1 hx with rfl | hx
      ·have:=v1.len;simp only at this;omega
      ·exact u2 x hx
    ·cases hr
   ·cases hr
  ·cases hr
theorem Pn {g:TypeId->DataW H->List HB->Option (List TV×List HB)} (hg:Uk enc P w g) {cs:List Value}:∀ (fs:List Field) (ds:List (DataW H)) (o:Nat) (h:List HB) (r:List TV×List HB),Nb P g o fs ds h=some r ->
  (∀ (i:Nat) (f:Field) (d:DataW H),fs[i]? = some f->ds[i]? = some d->Reads enc P w f.type ((cs.drop f.offset).take (P.cellsOf f.type)) d)->∀ M,lM M h w ->
  ∃ M',lM M' r.2 w∧lG M M'∧aH M'.h r.1 ((cs.drop o).take r.1.length)∧∀ c∈r.1,bW c=true
 | [],[],o,h,r,hr,hd,M,hB=>by
  simp only[Nb,Option.some.injEq] at hr;subst hr;exact⟨M,hB,.refl M,by simpa using aH.nil,by simp⟩
 | [],d::ds,o,h,r,hr,hd,M,hB=>by simp[Nb] at hr
 | f::fs,[],o,h,r,hr,hd,M,hB=>by simp[Nb] at hr
 | f::fs,d::ds,o,h,r,hr,hd,M,hB=>by
  simp only[Nb] at hr;split at hr
  ·rename_i c h1 hc;split at hr
   ·rename_i hn;obtain⟨ho,hn⟩:=hn;split at hr
    ·rename_i cs' h2 QA;simp only[Option.some.injEq] at hr;subst hr;obtain⟨M1,b1,m1,v1,o1⟩:=hg f.type d h (c,h1) hc _ (hd 0 f d rfl rfl) M hB;obtain⟨M2,b2,m2,v2,o2⟩:=Pn hg fs ds (o+c.length) h1 (cs',h2) QA (fun i f' d' e1 e2=>hd (i+1) f' d' (by simpa using e1) (by simpa using e2)) M1 b1;refine⟨M2,b2,m1.trans m2,?_,?_⟩
     ·have:=(v1.mono m2.h).append v2;rw[ho,<-hn] at this;simp only at this ⊢;rw[List.length_append,List.take_add,List.drop_drop];exact this
     ·intro x hx;rcases List.mem_append.1 hx with hx | hx
      ·exact o1 x hx
      ·exact o2 x hx
    ·cases hr
   ·cases hr
  ·cases hr
theorem Bc {n:Nat}:∀ {CJ:List (List Value)},(∀ cs∈CJ,cs.length=n)->∀ (i j:Nat),j<n->CJ.flatten[i*n+j]? = (CJ[i]?).bind (·[j]?)
 | [],_,i,j,_=>by simp
 | cs::CJ,h,0,j,hj=>by
  have:=h cs List.mem_cons_self;simp only[List.flatten_cons,Nat.zero_mul,Nat.zero_add];rw[List.getElem?_append_left (by omega)];simp
 | cs::CJ,h,i+1,j,hj=>by
  have hc:=h cs List.mem_cons_self;simp only[List.flatten_cons];rw[List.getElem?_append_right (by rw[hc,Nat.add_mul,Nat.one_mul];omega),hc];rw[show (i+1)*n+j-n=i*n+j by rw[Nat.add_mul,Nat.one_mul];omega];rw[Bc (fun x hx=>h x (List.mem_cons_of_mem _ hx)) i j hj];simp
theorem Po {M:Mp} {h:List HB} (hB:lM M h w) {cs:List TV} {ls:List Pl} (h1:∀ c∈cs,bW c=true) (h2:∀ p∈ls,Dp M.h w .ro cs p) :
  ∃ M',lM M' (h++[.cells .ro cs]) w∧lG M M'∧M' (.h h.length)=some (.cells ls):=by
 have rZ:iD h (.h h.length)=none:=by simp[iD,St.get]
 have pX:M (.h h.length)=none:=by
  cases hm:M (.h h.length) with
  | none=>rfl
  | some l=>have:=hB.base.val.has hm;rw[rZ] at this;cases this
 have hle:lG M (aQ M (.h h.length) (.cells ls)):=iI fun l0 h0=>by rw[pX] at h0;cases h0
 have hg:iD (h++[.cells .ro cs])=gU (iD h) (.h h.length) (.cells .ro cs):=fQ ⟨[],[],h,[]⟩ _ [] [];have SE:∀ b∈h++[HB.cells .ro cs],wr b=false:=fun b hb=>by
  rcases List.mem_append.1 hb with hb | hb
  ·exact hB.ro b hb
  ·simp at hb;subst hb;rfl
 refine⟨aQ M (.h h.length) (.cells ls),⟨⟨⟨?_,?_,?_⟩,fun k=>?_⟩,SE⟩,hle,by simp[aQ]⟩
 ·intro k l hk _;rw[hg];by_cases qM:k=.h h.length
  ·subst qM;simp only[aQ,if_true,Option.some.injEq] at hk;subst hk;exact⟨.cells .ro cs,by simp[gU],h1,fun p hp=>(h2 p hp).mono hle.h rfl,by simp,by simp⟩
  ·simp only[aQ,qM,if_false] at hk;obtain⟨b,g1,g2⟩:=hB.base.val.ok k l hk trivial;exact⟨b,by simp[gU,qM,g1],g2.mono hle.h fun _ _=>rfl⟩
 ·intro k k' l l' b dZ hk jH _ hb hw;have:wr b=false:=by
   cases k with
   | h x=>exact SE b (List.mem_of_getElem? hb)
   | l x=>simp[iD,St.get] at hb
  rw[this] at hw;cases hw
 ·intro k l hk c hc;by_cases qM:k=.h h.length
  ·subst qM;simp only[aQ,if_true,Option.some.injEq] at hk;subst hk;obtain⟨p,hp,rfl⟩:=List.mem_map.1 hc;obtain⟨arr,ty,fz,g1,_⟩:=(h2 p hp).row;exact (Array.getElem?_eq_some_iff.1 g1).1
  ·simp only[aQ,qM,if_false] at hk;exact hB.base.val.inb k l hk c hc
 ·simp[aQ];exact hB.base.loc k
theorem Pq:∀ g,Uk enc P w (QW P g)
 | 0=>by intro t d h r hr;simp[QW] at hr
 | g+1=>by
  intro t d h r hr cs hd M hB;obtain⟨fuel,ps,hd⟩:=hd;have ih:=Pq g;simp only[QW] at hr;split at hr
  ·-- bool
   rename_i b hu;simp only[Option.some.injEq] at hr;subst hr;refine⟨M,hB,.refl M,?_,by simp[bW]⟩;cases fuel with
   | zero=>simp[DataW.trod] at hd
   | succ n=>
    unfold DataW.trod at hd;rw[hu] at hd;split at hd<;>simp_all
    exact .cons (.bool _) .nil
  ·-- int
   rename_i k0 k n hu;simp only[Option.some.injEq] at hr;subst hr;refine⟨M,hB,.refl M,?_,by simp[bW]⟩;cases fuel with
   | zero=>simp[DataW.trod] at hd
   | succ n=>
    unfold DataW.trod at hd;rw[hu] at hd;split at hd<;>simp_all
    exact .cons (.int _ _) .nil
  ·-- string
   rename_i bs hu;simp only[Option.some.injEq] at hr;subst hr;refine⟨M,hB,.refl M,?_,by simp[bW]⟩;cases fuel with
   | zero=>simp[DataW.trod] at hd
   | succ n=>
    unfold DataW.trod at hd;rw[hu] at hd;split at hd<;>simp_all
    obtain⟨_,rfl,_⟩:=hd;exact .cons (.str _) .nil
  ·-- nil slice
   rename_i e hu;simp only[Option.some.injEq] at hr;subst hr;refine⟨M,hB,.refl M,?_,by simp[bW]⟩;rcases Deep.open_slice hu hd with⟨rfl,_⟩ | ⟨a,len,cap,m,n,Dt,Pl,_,_,_,_,_,hx,_⟩
   ·exact .cons .Ih .nil
   cases hx
  ·-- a slice
   rename_i e xs ys hu;split at hr
   rotate_left
   ·cases hr
   rename_i cells h1 hl;split at hr
   ·cases hr
   rename_i OC;simp only[Option.some.injEq] at hr;subst hr;rcases Deep.open_slice hu hd with⟨rfl,hx⟩ | ⟨a,len,cap,m,n,Dt,Pl,rfl,_,Jo,a4U,hm,hx,Ij⟩
   ·cases hx
   simp only[if_true] at hm;have MQ:=hm.symm;subst MQ;simp only[Prod.mk.injEq,DataW.slice.injEq] at hx;obtain⟨⟨yj,hys⟩,_⟩:=hx;have lxs:xs.length=len:=by rw[yj];simp
   have lys:ys.length=cap-len:=by rw[hys];simp
   have hds:∀ i,i<cap->(xs++ys)[i]? = some (Dt i):=by
    intro i hi;by_cases h1:i<len
    ·rw[List.getElem?_append_left (by omega),yj];simp[h1]
    rw[List.getElem?_append_right (by omega),lxs,hys];have h2:i-len<cap-len:=(by omega);simp[h2,show len+(i-len)=i by omega]
   have hn:=Ij
   let CJ:List (List Value):=(List.range cap).map fun i=>(w.cells? 0 (a.add (i*P.cellsOf e)) (P.cellsOf e)).getD []
   have QA:∀ i,i<cap->∃ cs',CJ[i]? = some cs'∧w.cells? 0 (a.add (i*P.cellsOf e)) (P.cellsOf e)=some cs'∧DataW.trod enc P w 0 (fun _=>true) true n e cs'=some (Dt i,Pl i):=by
    intro i hi;obtain⟨cs',e1,e2⟩:=Ij i hi;exact⟨cs',by simp[CJ,hi,e1],e1,e2⟩
   have a4V:CJ.length=cap:=(by simp[CJ]);obtain⟨M1,b1,m1,v1,o1,l1,u1⟩:=Pm ih (xs++ys) CJ h (cells,h1) hl (by simp[a4V,lxs,lys];omega) (fun i d cs e1 e2=>by
    have hi:i<cap:=by rw[<-a4V];exact (List.getElem?_eq_some_iff.1 e2).1
    obtain⟨cs',f1,f2,f3⟩:=QA i hi;rw[f1] at e2;cases e2;rw[hds i hi] at e1;cases e1;exact⟨n,_,f3⟩) M hB
   simp only at b1 v1 o1 l1;have l1':cells.length=cap*P.cellsOf e:=by rw[l1];simp[lxs,lys];congr 1;omega
   have TN:0<P.cellsOf e:=(by omega);have e1:xs.length+ys.length=cap:=(by omega);show ∃ M',lM M' (h1++[.cells .ro cells]) w∧lG M M'∧aH M'.h [.slc h1.length 0 xs.length (xs.length+ys.length) (P.cellsOf e) true] [.slice (some a) len cap]∧∀ c∈[TV.slc h1.length 0 xs.length (xs.length+ys.length) (P.cellsOf e) true],bW c=true;rw[e1,lxs];by_cases XA:cap=0
   ·obtain⟨M2,b2,m2,k2⟩:=Po b1 (cs:=cells) (ls:=[]) o1 (by simp);refine⟨M2,b2,m1.trans m2,.cons (.slc (p:=⟨0,0,0,0⟩) k2 (.inl XA) ?_ ?_ ?_ ?_ (.inl XA) (by unfold maxLen at a4U;omega)) .nil,by intro c hc;simp at hc;subst hc;rfl⟩
    ·simp[XA]
    ·omega
    ·omega
    intro _;omega
   have Ul:∀ k,k<cap*P.cellsOf e->w.cell? (a.add k)=CJ.flatten[k]?:=by
    intro k hk;have hj:k%P.cellsOf e<P.cellsOf e:=Nat.mod_lt _ TN;have hi:k/P.cellsOf e<cap:=by rw[Nat.div_lt_iff_lt_mul TN];exact hk
    have qM:k/P.cellsOf e*P.cellsOf e+k%P.cellsOf e=k:=by
     rw[Nat.mul_comm];exact Nat.div_add_mod k _
    obtain⟨cs',f1,f2,_⟩:=QA _ hi;obtain⟨_,_,f3⟩:=World.cells?_some f2;have f4:=f3 _ hj;rw[Deep.add_add,qM] at f4;have f5:=Bc u1 (k/P.cellsOf e) (k%P.cellsOf e) hj;rw[qM,f1] at f5;rw[f4,f5];rfl
   have a4n:0<cap*P.cellsOf e:=Nat.mul_pos (by omega) TN;have lfl:CJ.flatten.length=cap*P.cellsOf e:=(by rw[<-v1.len,l1']);have WW:=Ul 0 a4n;have hv0:CJ.flatten[0]? = some (CJ.flatten[0]'(by omega)):=List.getElem?_eq_getElem _;rw[hv0,Addr.add,if_pos rfl] at WW;have oV:∃ arr ty fz,w.heap[a.block]? = some (.cells arr ty fz)∧a.spot=none:=by
    unfold World.cell? at WW;split at WW
    ·rename_i c ty fz hh;split at WW
     ·cases WW
     rename_i hsp;exact⟨c,ty,fz,hh,by simpa using hsp⟩
    cases WW
   obtain⟨arr,ty,fz,hh,hsp⟩:=oV;have Ko:∀ k,w.cell? (a.add k)=arr[a.off+k]?:=by
    intro k;unfold World.cell? Addr.add;by_cases hk:k=0
    ·subst hk;simp[hh,hsp]
    simp[hk,hh]
   have hbound:a.off+cap*P.cellsOf e<=arr.size:=by
    have h1:=Ul (cap*P.cellsOf e-1) (by omega);rw[Ko,List.getElem?_eq_getElem (by omega)] at h1;have:=(Array.getElem?_eq_some_iff.1 h1).1;omega
   obtain⟨M2,b2,m2,k2⟩:=Po b1 (cs:=cells) (ls:=[⟨a.block,a.off,cap*P.cellsOf e,arr.size⟩]) o1 (by
    intro p hp;simp at hp;subst hp;refine⟨⟨arr,ty,fz,hh,rfl,by simp,fun _ i c v hi e1 e2=>?_⟩,hbound,Nat.le_of_eq l1'.symm,by simp⟩;simp only at hi e2;rw[<-Ko,Ul i hi] at e2;exact v1.at_ i c v e1 e2)
   refine⟨M2,b2,m1.trans m2,.cons (.slc (p:=⟨a.block,a.off,cap*P.cellsOf e,arr.size⟩) k2 (.inr (by simp)) ?_ ?_ ?_ ?_ (.inr ⟨?_,?_⟩) (by unfold maxLen at a4U;omega)) .nil,by intro c hc;simp at hc;subst hc;rfl⟩
   ·simp
   ·omega
   ·omega
   ·intro _;omega
   ·cases a;simp_all
   simpa using hbound
  ·-- a struct
   rename_i fs ds hu;split at hr
   ·rename_i cs' h1 hl;split at hr
    ·rename_i hlen;simp only[Option.some.injEq] at hr;subst hr;obtain⟨zs,n,_,hx,pK,OD,Ij⟩:=DataW.trod_struct hu hd;simp only[Prod.mk.injEq,DataW.agg.injEq] at hx;obtain⟨rfl,_⟩:=hx;obtain⟨M',b1,m1,v1,o1⟩:=Pn ih fs.toList _ 0 h (cs',h1) hl (cs:=cs) (fun i f d e1 e2=>by
      have e1':fs[i]? = some f:=(by simpa using e1);simp only[List.getElem?_map,Option.map_eq_some_iff] at e2;obtain⟨z,hz,rfl⟩:=e2;exact⟨n,z.2,by rw[Ij i f e1',hz]⟩) M hB
     refine⟨M',b1,m1,?_,o1⟩;simp only at v1 ⊢;rw[hlen,<-pK] at v1;simpa using v1
    cases hr
   cases hr
  cases hr
end
open Go.ChangeShapes Go.WideShapes Go.RowKit
section
variable {H:Type} {enc:TypeId×Value->H} {P:Program} {W W':World}
def Um (P:Program) (g:Nat):List TypeId->List (DataW H)->List HB->Option (List TV×List HB)
 | [],[],h=>some ([],h)
 | t::ts,d::ds,h=>match QW P g t d h with
  | some (c,h1)=>match oL P t,c,Um P g ts ds h1 with
   | some true,c,some (az,h2)=>some (.agg c::az,h2)
   | some false,[x],some (az,h2)=>some (x::az,h2)
   | _,_,_=>none
  | none=>none
 | _,_,_=>none
theorem Nc {r:Reach} {b:Nat} {t:TypeId} {v:Value} (ha:oL P t=some false) (h:Value.okWide P W r b t v):v.cells.toList=[v]:=by
 unfold oL at ha;unfold Value.okWide at h;cases hu:P.underlying t with
 | none=>simp[hu] at ha
 | some u=>
  rw[hu] at ha h;cases v with
  | agg cs=>cases u<;>simp_all [Cell.okWide,Cell.ok]
  | _=>rfl
theorem Nh {r:Reach} {b:Nat} {t:TypeId} {v:Value} (ha:oL P t=some true) (h:Value.okWide P W r b t v):∃ cs,v=.agg cs:=by
 unfold oL at ha;unfold Value.okWide at h;cases hu:P.underlying t with
 | none=>simp[hu] at ha
 | some u=>
  rw[hu] at ha h;cases u<;>simp_all<;>exact⟨_,h.choose_spec.1⟩
theorem IK {r:Reach} {b g:Nat}:∀ {ts:List TypeId} {vs:List Value} {ds:List (DataW H)} {ps:List MemPlace} {h:List HB} {x:List TV×List HB} {M:Mp},
  DataW.TrodAll enc P W 0 (fun _=>true) true ts vs ds ps->(∀ (j:Nat) t v,ts[j]? = some t->vs[j]? = some v->Value.okWide P W r b t v)->Um P g ts ds h=some x->lM M h W ->
  ∃ M',lM M' x.2 W∧lG M M'∧aH M'.h x.1 vs
 | [],vs,ds,ps,h,x,M,ht,ho,he,hB=>by
  obtain⟨rfl,rfl,rfl⟩:=trodAll_nil ht;simp only[Um,Option.some.injEq] at he;subst he;exact⟨M,hB,.refl M,.nil⟩
 | t::ts,vs,ds,ps,h,x,M,ht,ho,he,hB=>by
  obtain⟨v,vs',d,ds',p,q,rfl,rfl,rfl,hd,JE⟩:=trodAll_cons ht;simp only[Um] at he;split at he
  ·rename_i c h1 hc;obtain⟨fuel,hf⟩:=hd;obtain⟨M1,b1,m1,v1,o1⟩:=Pq (enc:=enc) (P:=P) (w:=W) g t d h (c,h1) hc v.cells.toList ⟨fuel,p,hf⟩ M hB;split at he
   ·rename_i az h2 ha hr;simp only[Option.some.injEq] at he;subst he;obtain⟨M2,b2,m2,v2⟩:=IK (x:=(az,h2)) JE (fun j t' v' e1 e2=>ho (j+1) t' v' (by simpa using e1) (by simpa using e2)) hr b1;obtain⟨cs,rfl⟩:=Nh ha (ho 0 t v rfl rfl);refine⟨M2,b2,m1.trans m2,.cons ?_ v2⟩;have:=VR.agg' (v1.mono m2.h);simpa[Value.cells] using this
   ·rename_i y az h2 ha hr;simp only[Option.some.injEq] at he;subst he;obtain⟨M2,b2,m2,v2⟩:=IK (x:=(az,h2)) JE (fun j t' v' e1 e2=>ho (j+1) t' v' (by simpa using e1) (by simpa using e2)) hr b1;have h1c:=Nc ha (ho 0 t v rfl rfl);rw[h1c] at v1;obtain⟨z,zs,e1,e2,e3⟩:=(v1.mono m2.h).dJ;simp only[List.cons.injEq] at e1;obtain⟨rfl,rfl⟩:=e1;exact⟨M2,b2,m1.trans m2,.cons e2 v2⟩
   ·cases he
  ·cases he
theorem wB (hl:laidOutB P=true) (hb:Below W.heap.size W W'):∀ {ts:List TypeId} {vs:List Value} {ds:List (DataW H)} {ps:List MemPlace},
  (ts.all fun t=>P.readableRec t&&decide (t<P.types.size))=true->DataW.TrodAll enc P W 0 (fun _=>true) true ts vs ds ps->(∀ x∈ps,x.block<W.heap.size) ->
  DataW.TrodAll enc P W' 0 (fun b=>decide (b<W.heap.size)) true ts vs ds ps
 | [],_,_,_,_,h,_=>by
  obtain⟨rfl,rfl,rfl⟩:=trodAll_nil h;rfl
 | t::ts,_,_,_,ho,h,aN=>by
  obtain⟨v,vs',d,ds',p,q,rfl,rfl,rfl,hd,JE⟩:=trodAll_cons h;simp only[List.all_cons,Bool.and_eq_true,decide_eq_true_eq] at ho;exact⟨p,q,Below.trod hl ho.1.1 ho.1.2 hd hb (fun x hx=>aN x (List.mem_append_left _ hx)),wB hl hb ho.2 JE (fun x hx=>aN x (List.mem_append_right _ hx)),rfl⟩
theorem QX {f:Func} {s:ChangeSpec} {args:Array Value} {ds:List (DataW H)} {before:List MemPlace} {tb:TypeId} (hl:laidOutB P=true) (hv:s.vars=[]) (hs:s.fn H ds={ results:=[.lit (.bool true)],args:=ds })
  (hf:f.resultTypes=#[tb]) (htb:P.underlying tb=some .bool) (hp:(f.params.toList.all fun t=>P.readableRec t&&decide (t<P.types.size))=true)
  (hW:DataW.Whole enc P f.params.toList s.vars false W args.toList ds [] before) (hb:Below W.heap.size W W'):s.post enc P f false true false false W args (.bool true) W':=by
 have hW':=hW;obtain⟨p,q,hA,hV,rfl,hfz,lH⟩:=hW;rw[hv] at hV;have hq:q=[]:=hV;subst hq;have aN:∀ x∈p,x.block<W.heap.size:=fun x hx=>by simpa using hW'.lt x (List.mem_append_left _ hx)
 refine⟨ds,[],p++[],[],p,[],hW',?_,?_,?_,hb.frame _,by simp⟩
 ·rw[List.append_nil,hs,hf];refine⟨[],[],⟨1,?_⟩,rfl,rfl⟩;simp[DataW.trod,htb,Value.cells]
 ·rw[List.append_nil,hs];exact wB hl hb hp hA aN
 ·rw[List.append_nil,hs,hv];rfl
theorem a3B {T:iF} {L n g a4X:Nat} {f:Func} {s:ChangeSpec} {args:Array Value} {ds:List (DataW H)} {before:List MemPlace} {tb:TypeId} {r:Reach} {b:Nat} (hm:P.follows .mixedOrders=true)
  (hl:laidOutB P=true) (hv:s.vars=[]) (hs:s.fn H ds={ results:=[.lit (.bool true)],args:=ds })
  (hf:f.resultTypes=#[tb]) (htb:P.underlying tb=some .bool) (hp:(f.params.toList.all fun t=>P.readableRec t&&decide (t<P.types.size))=true)
  (hW:DataW.Whole enc P f.params.toList s.vars false W args.toList ds [] before)
  (a9n:∀ (j:Nat) t v,f.params[j]? = some t->args[j]? = some v->Value.okWide P W r b t v)
  {az:List TV} {h h':List HB} (he:Um P g f.params.toList ds []=some (az,h)) (hr:run P T L (n+1) a4X az h=some (.bool true,h',[])) :
  Calls P a4X args W fun e W'=>∃ v,e=.returned v∧s.post enc P f false true false false W args v W':=by
 obtain⟨p,q,hA,_⟩:=id hW;have h0:lM (fun _=>none) [] W:=⟨⟨⟨by simp,by simp,by simp⟩,by simp⟩,by simp⟩;obtain⟨M',b1,_,v1⟩:=IK hA (fun j t v e1 e2=>a9n j t v (by simpa using e1) (by simpa using e2)) he h0;have hc:=Eh hm hr b1.base.val b1.base.loc v1 0;refine (callsIn_wide.1 hc).mono fun e W' hR=>?_;cases e with
 | panicked c=>exact hR.elim
 | outgrown=>exact hR.elim
 | returned v=>
  obtain⟨M2,_,_,hX,WU⟩:=hR;cases WU;refine⟨_,rfl,QX hl hv hs hf htb hp hW ⟨hX.os,hX.tape,hX.output,hX.size,fun k hk=>hX.frame k hk (by simp)⟩⟩
end
def QY (P:Program) (T:iF) (call:ay) (L:Nat) (f:Nat) (args:List TV) (h:List HB):Option (TV×List HB×List Nat):=
 match FU P f with
 | some t=>match exec P T call L f false h.length t.nt t.body ⟨gu 0 args,[],h,[]⟩ with
  | some (.norm,s) | some (.ret,s)=>match l9 P s t.results with
   | some vs=>some (one vs,s.heap,s.ws)
   | none=>none
  | _=>none
 | none=>none
noncomputable def Bd (P:Program) (T:iF) (L:Nat):Nat->ay
 | 0,_,_,_=>none
 | n+1,.fn f first cap,args,h=>if T.exts.contains f=true then T.ext (.fn f first cap) args h else if T.Lm.contains f=true then QS P T (Bd P T L n) L f (first++args++cap) h else QY P T (Bd P T L n) L f (first++args++cap) h
 | n+1,.jk l,args,h=>zM P T (Bd P T L n) L l args h
 | _,_,_,_=>none
section
variable {P:Program} {T:iF} {call:ay} {L:Nat} {nt:Nat} {M:Mp} {h:List HB} {w:World}
theorem XB (hm:P.follows .mixedOrders=true) (hC:aj P call) {f:Nat} {args:List TV} {v:TV} {h':List HB} {ws:List Nat} (hf:QY P T call L f args h=some (v,h',ws)) (hB:lK M h w) {xs:List Value} (hx:aH M.h args xs) :
  ∃ fn c, P.funcs[f]? = some fn ∧ (fn.name == "runtime.NumGoroutine") = false ∧ fn.body = some c ∧ ∀ n, CallsIn Fence.wide n P f xs.toArray w (yh (eP M h w v h' ws)) := by
 unfold QY FU at hf;split at hf
 ·rename_i t ht;split at ht
  ·rename_i fn hfn;split at ht
   ·cases ht
   ·rename_i JR;split at ht
    ·rename_i c hc;cases ht;refine⟨fn,c,hfn,by simpa using JR,hc,fun n=>?_⟩;have SG:Rel M h w fn.ntmps M ⟨gu 0 args,[],h,[]⟩ { tmps:=xs.toArray++Array.replicate (fn.ntmps-xs.toArray.size) Go.undef,defers:=[] } w:=by
      have hg:St.get ⟨gu 0 args,[],h,[]⟩=iD h:=getEnv ⟨[],[],h,[]⟩ _ _;refine⟨by rw[hg];exact hB.val,by rw[hg];exact .refl _ _ _,fun t e hl=>?_,by simp;omega,by simp,.nil⟩;obtain⟨i,v',x,e1,rfl,e3,e4⟩:=uZ hx hl;have hi:i<xs.length:=(List.getElem?_eq_some_iff.1 e3).1;have:(xs.toArray++Array.replicate (fn.ntmps-xs.toArray.size) Go.undef).getD t Go.undef=x:=by
       rw[Array.getD_eq_getD_getElem?,Array.getElem?_append_left (by simp;omega)];have:t=i:=(by omega);subst this;simp[e3]
      rw[this];exact .val e4
     have BO:∀ (s:St),(match l9 P s fn.results.toList with
       | some vs=>some (one vs,s.heap,s.ws)
       | none=>none)=some (v,h',ws)->∀ (M':Mp) (a':Act) (w':World),Rel M h w fn.ntmps M' s a' w'->LeavesInM Fence.wide n P fn a'.tmps (yh (eP M h w v h' ws)) a'.defers .returning w':=by
      intro s hs M' a' w' sD;split at hs
      ·rename_i vs Jl;refine yE hB a'.defers a' w' rfl sD fun w'' IG=>?_;obtain⟨y,g1,g2⟩:=xg (P:=P) IG Jl;refine⟨y,g2,?_⟩;simp only[Option.some.injEq,Prod.mk.injEq] at hs;obtain⟨rfl,rfl,rfl⟩:=hs;exact IE hB IG g1
      ·cases hs
     refine callsIn_of_wp_marks (F:=Fence.wide) hfn hc trivial ?_;split at hf
     ·rename_i s hex;exact jV (eu:=false) hm hC hB (fun _=>rfl) _ _ _ _ hex n _ M _ w SG fun M' a' w' sD=>BO s hf M' a' w' sD
     ·rename_i s hex;exact jV (eu:=false) hm hC hB (fun _=>rfl) _ _ _ _ hex n _ M _ w SG fun M' a' w' sD=>BO s hf M' a' w' sD
     ·cases hf
    ·cases ht
  ·cases ht
 ·cases hf
theorem Un (hm:P.follows .mixedOrders=true) (hE:aj P T.ext):∀ n,aj P (Bd P T L n)
 | 0=>by
  intro fv args h v h' ws hc;simp[Bd] at hc
 | n+1=>by
  intro fv args h v h' ws hc M w x xs hV hl hx yj;have ih:=Un hm hE n;cases fv with
  | fn f first cap=>
   simp only[Bd] at hc;split at hc
   ·exact hE _ _ _ _ _ _ hc M w x xs hV hl hx yj
   rename_i hnx;cases hx with
   | fn h1 h2 h3 h4=>
    rename_i ys zs;have wz:aH M.h (first++args++cap) (ys++xs++zs):=(aH.append ⟨h1,h2⟩ yj).append ⟨h3,h4⟩;obtain ⟨fn, c, e1, e2, e3, e4⟩ : ∃ fn c, P.funcs[f]? = some fn ∧ (fn.name == "runtime.NumGoroutine") = false ∧ fn.body = some c ∧ ∀ n, CallsIn Fence.wide n P f (ys ++ xs ++ zs).toArray w (yh (eP M h w v h' ws)) := by
     split at hc
     ·exact Xz hm ih hc ⟨hV,hl⟩ wz
     exact XB hm ih hc ⟨hV,hl⟩ wz
    refine⟨{ target:=.fn (.func f) zs.toArray,args:=ys.toArray++xs.toArray },fun w=>by simp[Deferred.ofValue],.inl ⟨⟨f,(ys++xs++zs).toArray,?_,e4⟩,f,first,cap,rfl⟩⟩;have OI : ¬ fn.name = "runtime.NumGoroutine" := (by simpa using e2);simp[invoke,callFunc,program,Sem.run,e1,OI,e3]
  | jk l=>
   simp only[Bd] at hc;cases hx with
   | jk MQ=>
    rename_i l' _;refine⟨{ target:=.fn (.yield l') #[],args:=xs.toArray },fun w=>by simp[Deferred.ofValue],.inr ⟨Ef hm ih hc ⟨hV,hl⟩ MQ yj,l,rfl⟩⟩
  | _=>simp[Bd] at hc
end
end Tw
namespace Pv
open Go Tw
inductive PV (Γ:Nat->Type) where
 | bool (b:Bool)
 | lit (b:Bool)
 | int (k:IntKind) (n:Int)
 | str (s:ByteArray)
 | nil (k:NK)
 | ptr (b off lim:Nat)
 | slc (b off len cap sz:Nat) (ex:Bool)
 | own (b:Nat)
 | win (b o n:Nat)
 | map (r:Nat)
 | fn (f:FuncId) (first cap:List (PV Γ))
 | jk (l:Nat)
 | agg (cs:List (PV Γ))
 | bH (cs:List (PV Γ))
 | bK (t:Nat) (l:List (Γ t)) (full:Bool)
 | el (t:Nat) (a:Γ t) (off:Nat)
 | row (b j off:Nat)
 | iter (b:Nat)
inductive PE (Γ:Nat->Type) where
 | val (v:PV Γ)
 | loc (k off:Nat)
 | undef
inductive PB (Γ:Nat->Type) where
 | cells (cs:List (PV Γ))
 | fG (cs:List (PV Γ))
 | list (k ex:Bool) (t:Nat) (l:List (Γ t))
 | map (es:List (PV Γ×PV Γ))
 | mark
 | loop (ready:Bool) (f:FuncId) (nt:Nat) (env:List (Nat×PE Γ)) (ps:List Nat) (assign body:Code) (gK:Option Code)
 | bn (r n:Nat) (seen:List Nat)
 | vV (es:List (PV Γ×PV Γ))
 | rV (cs:List (PV Γ))
 | gone
structure aW (Γ:Nat->Type) where
 env:List (Nat×PE Γ)
 loc:List (List (PV Γ))
 heap:List (PB Γ)
structure iR where
 Γ:Nat->Type
 d0:(t:Nat)->Γ t
 enc:(t:Nat)->Γ t->List (PV Γ)
 dec:(t:Nat)->List (PV Γ)->Option (Γ t)
section
variable {Γ:Nat->Type}
def mY:PV Γ->Option TV
 | .bool b=>some (.bool b)
 | .int k n=>some (.int k n)
 | .str s=>some (.str s)
 | .nil k=>some (.nil k)
 | _=>none
def jW:List (PV Γ)->Option (List TV)
 | []=>some []
 | c::cs=>match mY c,jW cs with
  | some v,some vs=>some (v::vs)
  | _,_=>none
def tJ:PV Γ->Option TV
 | .agg cs=>(jW cs).map .agg
 | v=>mY v
def QZ:List (PV Γ)->Option (List TV)
 | []=>some []
 | c::cs=>match tJ c,QZ cs with
  | some v,some vs=>some (v::vs)
  | _,_=>none
def SQ:TV->Option (PV Γ)
 | .bool b=>some (.bool b)
 | .int k n=>some (.int k n)
 | .str s=>some (.str s)
 | .nil k=>some (.nil k)
 | _=>none
def wM:List TV->Option (List (PV Γ))
 | []=>some []
 | c::cs=>match SQ c,wM cs with
  | some v,some vs=>some (v::vs)
  | _,_=>none
def Rf:TV->Option (PV Γ)
 | .agg cs=>(wM cs).map .agg
 | v=>SQ v
def PV.cells:PV Γ->List (PV Γ)
 | .agg cs=>cs
 | v=>[v]
def Nj:PV Γ->Bool
 | .agg _ | .bH _=>false
 | _=>true
def wE (t:Nat):List (Nat×PE Γ)->Option (PE Γ)
 | []=>none
 | (k,v)::r=>if k=t then some v else wE t r
def aW.put (s:aW Γ) (dst:Option Nat) (v:PE Γ):aW Γ:=
 match dst with
 | some d=>{ s with env:=(d,v)::s.env }
 | none=>s
def iL (live:List Nat) (env:List (Nat×PE Γ)):List (Nat×PE Γ):=
 match live with
 | []=>[]
 | t::r=>match wE t env with
  | some v=>(t,v)::iL r env
  | none=>iL r env
def sF (t:Nat) (b:Bool):List (Nat×PE Γ)->List (Nat×PE Γ)
 | []=>[]
 | (k,v)::r=>if k=t then (k,.val (.lit b))::r else (k,v)::sF t b r
def aW.sF (s:aW Γ) (x:Operand) (b:Bool):aW Γ:=
 match x with
 | .tmp t=>{ s with env:=Pv.sF t b s.env }
 | _=>s
def zX (env:List (Nat×PE Γ)):Operand->Option (PE Γ)
 | .tmp t=>wE t env
 | .const v=>match TV.Jk v with
  | some (.bool b)=>some (.val (.lit b))
  | some x=>(Rf x).map .val
  | none=>none
 | .func f=>some (.val (.fn f [] []))
 | .global _=>none
def Px:PV Γ->PV Γ
 | .lit b=>.bool b
 | v=>v
def wF (env:List (Nat×PE Γ)) (x:Operand):Option (PV Γ):=
 match zX env x with
 | some (.val v)=>some (Px v)
 | _=>none
def Py (env:List (Nat×PE Γ)) (x:Operand):Option (PV Γ):=
 match zX env x with
 | some (.val v)=>some v
 | _=>none
def Nk (env:List (Nat×PE Γ)):List Operand->Option (List (PV Γ))
 | []=>some []
 | x::xs=>match wF env x,Nk env xs with
  | some v,some vs=>some (v::vs)
  | _,_=>none
def Ri (env:List (Nat×PE Γ)):List (Nat×Operand)->Option (List (Nat×PV Γ))
 | []=>some []
 | (i,x)::xs=>match wF env x,Ri env xs with
  | some v,some vs=>some ((i,v)::vs)
  | _,_=>none
def Em (env:List (Nat×PE Γ)):Option Operand->Option (Option (PV Γ))
 | none=>some none
 | some x=>match wF env x with
  | some v=>some (some v)
  | none=>none
def a1C (cs:List (PV Γ)) (off n:Nat):Option (List (PV Γ)):=
 if off+n<=cs.length then some ((cs.drop off).take n) else none
def En (cs:List (PV Γ)) (off:Nat) (new:List (PV Γ)):Option (List (PV Γ)):=
 if off+new.length<=cs.length then some (cs.take off++new++cs.drop (off+new.length)) else none
def yG (P:Program) (t:TypeId) (cs:List (PV Γ)) (off:Nat):Option (PV Γ):=
 match oL P t,aZ P t with
 | some true,some n=>(a1C cs off n).map .agg
 | some false,some n=>if n=1 then cs[off]? else none
 | _,_=>none
def GY (P:Program) (t:TypeId):Option (List (PV Γ)):=
 match xK P t with
 | some z=>wM z
 | none=>none
def Eo (place:Nat->Option (Nat×Nat)):List (PV Γ)->List (Nat×PV Γ)->Option (List (PV Γ))
 | cs,[]=>some cs
 | cs,(i,v)::r=>match place i with
  | some (off,size)=>if v.cells.length=size then (match En cs off v.cells with | some cs'=>Eo place cs' r | none=>none) else none
  | none=>none
def Nl (P:Program) (t:TypeId) (parts:List (Nat×PV Γ)):Option (PV Γ):=
 match GY P t,P.underlying t with
 | some z,some (.struct fs)=>if sN P fs.toList then (Eo (Ig P fs) z parts).map .agg else none
 | some z,some (.array _ e)=>match aZ P e with
  | some n=>(Eo (fun i=>some (i*n,n)) z parts).map .agg
  | none=>none
 | _,_=>none
def Nq (z:List (PV Γ)):Nat->List (PV Γ)
 | 0=>[]
 | n+1=>z++Nq z n
def vk (site:Bool) (s:aW Γ) (cs:List (PV Γ)):PE Γ×aW Γ:=
 if site then (.val (.ptr s.heap.length 0 cs.length),{ s with heap:=s.heap++[.cells cs] })
 else (.loc s.loc.length 0,{ s with loc:=s.loc++[cs] })
def view (H:List (PB Γ)):PV Γ->Option (PV Γ)
 | .own i=>match H[i]? with
  | some (.list _ _ t l)=>some (.bK t l false)
  | _=>none
 | .win i o n=>match H[i]? with
  | some (.list _ _ t l)=>some (.bK t ((l.drop o).take n) false)
  | _=>none
 | .fn f a c=>match views H a,views H c with
  | some a,some c=>some (.fn f a c)
  | _,_=>none
 | .agg cs=>(views H cs).map .agg
 | .bH cs=>(views H cs).map .bH
 | .ptr _ _ _=>none
 | .slc _ _ _ _ _ _=>none
 | .map _=>none
 | .iter _=>none
 | .jk _=>none
 | .el _ _ _=>none
 | .row _ _ _=>none
 | .bool b=>some (.bool b)
 | .lit b=>some (.bool b)
 | .int k n=>some (.int k n)
 | .str s=>some (.str s)
 | .nil k=>some (.nil k)
 | .bK t l f=>some (.bK t l f)
where
 views (H:List (PB Γ)):List (PV Γ)->Option (List (PV Γ))
 | []=>some []
 | c::cs=>match view H c,views H cs with
  | some v,some vs=>some (v::vs)
  | _,_=>none
abbrev views (H:List (PB Γ)):=view.views H
def oW:PV Γ->List Nat
 | .own i=>[i]
 | .win i _ _=>[i]
 | .fn _ a c=>mZ a++mZ c
 | .agg cs=>mZ cs
 | .bH cs=>mZ cs
 | _=>[]
where
 mZ:List (PV Γ)->List Nat
 | []=>[]
 | c::cs=>oW c++mZ cs
def sG:PV Γ->Bool
 | .bK _ _ _=>true
 | .el _ _ _=>true
 | .fn _ a c=>yH a||yH c
 | .agg cs=>yH cs
 | .bH cs=>yH cs
 | _=>false
where
 yH:List (PV Γ)->Bool
 | []=>false
 | c::cs=>sG c||yH cs
def dW:PV Γ->Bool
 | .ptr _ _ _=>false
 | .slc _ _ _ _ _ _=>false
 | .own _=>false
 | .win _ _ _=>false
 | .map _=>false
 | .iter _=>false
 | .jk _=>false
 | .row _ _ _=>false
 | .fn _ a c=>wH a&&wH c
 | .agg cs=>wH cs
 | .bH cs=>wH cs
 | _=>true
where
 wH:List (PV Γ)->Bool
 | []=>true
 | c::cs=>dW c&&wH cs
def shift (k:Nat):PV Γ->PV Γ
 | .ptr b off lim=>.ptr (b+k) off lim
 | .slc b off len cap sz ex=>.slc (b+k) off len cap sz ex
 | .own b=>.own (b+k)
 | .win b o n=>.win (b+k) o n
 | .map r=>.map (r+k)
 | .iter r=>.iter (r+k)
 | .fn f a c=>.fn f (shifts k a) (shifts k c)
 | .jk l=>.jk (l+k)
 | .agg cs=>.agg (shifts k cs)
 | .bH cs=>.bH (shifts k cs)
 | .row b j off=>.row (b+k) j off
 | .bool b=>.bool b
 | .lit b=>.lit b
 | .int k n=>.int k n
 | .str s=>.str s
 | .nil k=>.nil k
 | .bK t l f=>.bK t l f
 | .el t a off=>.el t a off
where
 shifts (k:Nat):List (PV Γ)->List (PV Γ)
 | []=>[]
 | c::cs=>shift k c::shifts k cs
def Kq (i:Nat) (H:List (PB Γ)):List (PB Γ):=H.set i .gone
def aI:List Nat->List (PB Γ)->List (PB Γ)
 | [],H=>H
 | i::is,H=>aI is (Kq i H)
end
section
variable (X:iR)
def xA (k:Nat):PB X.Γ->Option (PB X.Γ)
 | .cells cs=>some (.cells (shift.shifts k cs))
 | .list w ex t l=>some (.list w ex t l)
 | .gone=>some .gone
 | _=>none
def mF (k:Nat):List (PB X.Γ)->Option (List (PB X.Γ))
 | []=>some []
 | b::bs=>match xA X k b,mF k bs with
  | some b,some bs=>some (b::bs)
  | _,_=>none
def hasB:PB X.Γ->Bool
 | .cells cs=>sG.yH cs
 | .gone=>false
 | _=>true
def XC (H:List (PB X.Γ)) (t:Nat) (cs:List (PV X.Γ)):Option (X.Γ t×List Nat):=
 match views H cs with
 | some vs=>match X.dec t vs with
  | some a=>some (a,oW.mZ cs)
  | none=>none
 | none=>none
def qY (H:List (PB X.Γ)) (t sz:Nat):Nat->List (PV X.Γ)->Option (List (X.Γ t)×List Nat)
 | 0,_=>some ([],[])
 | n+1,cs=>if sz<=cs.length then match XC X H t (cs.take sz),qY H t sz n (cs.drop sz) with
  | some (a,is),some (l,js)=>some (a::l,is++js)
  | _,_=>none
  else none
def qc {Γ:Nat->Type} (t t':Nat) (l:List (Γ t')):Option (List (Γ t)):=
 if h:t'=t then some (h▸l) else none
def oZ (H:List (PB X.Γ)) (e sz:Nat):PV X.Γ->Option (List (X.Γ e)×List Nat)
 | .nil .slc=>some ([],[])
 | .bK t l _=>(qc e t l).map fun l=>(l,[])
 | .own i=>match H[i]? with
  | some (.list _ _ t l)=>(qc e t l).map fun l=>(l,[])
  | _=>none
 | .win i o n=>match H[i]? with
  | some (.list _ _ t l)=>(qc e t l).map fun l=>((l.drop o).take n,[])
  | _=>none
 | .slc b off len _ X3 _=>match H[b]? with
  | some (.cells cs)=>if X3=sz∧off+len*sz<=cs.length then qY X H e sz len (cs.drop off) else none
  | _=>none
 | _=>none
def qZ (P:Program) (t:TypeId) (s:aW X.Γ):PE X.Γ->Option (PV X.Γ×gy)
 | .loc k off=>match s.loc[k]? with
  | some cs=>(yG P t cs off).map fun v=>(v,nT (.l k))
  | none=>none
 | .val (.ptr b off lim)=>match s.heap[b]?,aZ P t with
  | some (.cells cs),some n=>if off+n<=lim then (yG P t cs off).map fun v=>(v,nT (.h b)) else none
  | some (.fG cs),some n=>if off+n<=lim then (yG P t cs off).map fun v=>(v,aA) else none
  | _,_=>none
 | .val (.row b j off)=>match s.heap[b]? with
  | some (.list _ _ e l)=>(yG P t (X.enc e (l.getD j (X.d0 e))) off).map fun v=>(v,nT (.h b))
  | _=>none
 | .val (.el e a off)=>(yG P t (X.enc e a) off).map fun v=>(v,aA)
 | _=>none
def IL (P:Program) (t:TypeId) (s:aW X.Γ) (a:PE X.Γ) (v:PV X.Γ):Option (aW X.Γ×gy):=
 match aZ P t with
 | some n=>
  if v.cells.length=n∧v.cells.all Nj=true then
   match a with
   | .loc k off=>match s.loc[k]? with
    | some cs=>(En cs off v.cells).map fun cs'=>({ s with loc:=s.loc.set k cs' },lF (.l k))
    | none=>none
   | .val (.ptr b off lim)=>if off+n<=lim then (match s.heap[b]? with
    | some (.cells cs)=>(En cs off v.cells).map fun cs'=>({ s with heap:=s.heap.set b (.cells cs') },lF (.h b))
    | _=>none) else none
   | .val (.row b j off)=>match s.heap[b]? with
    | some (.list k ex e l)=>match En (X.enc e (l.getD j (X.d0 e))) off v.cells with
     | some cs=>match XC X s.heap e cs with
      | some (x,is)=>if is.contains b then none else some ({ s with heap:=aI is (s.heap.set b (.list k ex e (l.set j x))) },lF (.h b))
      | none=>none
     | none=>none
    | _=>none
   | _=>none
  else none
 | none=>none
def a4Y:PE X.Γ->aW X.Γ->Option Nat
 | .val (.el e a _),_=>some (X.enc e a).length
 | .val (.row b j _),s=>match s.heap[b]? with
  | some (.list _ _ e l)=>some (X.enc e (l.getD j (X.d0 e))).length
  | _=>none
 | _,_=>none
def yI (s:aW X.Γ) (o:Nat):PE X.Γ->Option (PE X.Γ)
 | .loc k off=>some (.loc k (off+o))
 | .val (.ptr b off lim)=>match s.heap[b]? with
  | some (.cells _)=>if off+o<=lim then some (.val (.ptr b (off+o) lim)) else none
  | some (.fG _)=>if off+o<=lim then some (.val (.ptr b (off+o) lim)) else none
  | _=>none
 | .val (.el e a off)=>if off+o<=(X.enc e a).length then some (.val (.el e a (off+o))) else none
 | .val (.row b j off)=>match a4Y X (.val (.row b j off)) s with
  | some n=>if off+o<=n then some (.val (.row b j (off+o))) else none
  | none=>none
 | _=>none
def CO (i:Int) (n:Nat):Prop:=0<=i∧i<(n:Int)
def Rj (n:Nat):PV X.Γ->Option Nat
 | .int _ i=>if 0<=i∧i<n then some i.toNat else none
 | _=>none
def xB (P:Program) (t:TypeId) (s:aW X.Γ) (x:PE X.Γ) (i:PV X.Γ):Option (PE X.Γ×List Prop):=
 match P.underlying t with
 | some (.slice e)=>match aZ P e,x,i with
  | some n,.val (.bK t' l _),.int _ iv=>if t'=e then some (.val (.el t' (l.getD iv.toNat (X.d0 t')) 0),[CO iv l.length]) else none
  | some n,.val (.own b),.int _ iv=>match s.heap[b]? with
   | some (.list _ _ t' l)=>if t'=e then some (.val (.row b iv.toNat 0),[CO iv l.length]) else none
   | _=>none
  | some n,.val (.win b o m),.int _ iv=>match s.heap[b]? with
   | some (.list _ _ t' l)=>if t'=e then some (.val (.row b (o+iv.toNat) 0),[CO iv m]) else none
   | _=>none
  | some n,.val (.slc b off len cap sz _),i=>match s.heap[b]? with
   | some (.cells _)=>if n=sz then (Rj X len i).map fun j=>(.val (.ptr b (off+j*n) (off+cap*n)),[]) else none
   | _=>none
  | _,_,_=>none
 | some (.array len e)=>match aZ P e with
  | some n=>match Rj X len i with
   | some j=>(yI X s (j*n) x).map fun a=>(a,[])
   | none=>none
  | none=>none
 | _=>none
def a1D (P:Program) (at_:Array TypeId) (H:List (PB X.Γ)) (x:PV X.Γ):Option (PV X.Γ×gy):=
 match at_[0]? with
 | some t=>match P.underlying t,x with
  | some .string,.str s=>some (.int .i64 s.size,aA)
  | some (.array n _),_=>some (.int .i64 n,aA)
  | some (.slice _),.slc b _ len _ _ _=>match H[b]? with
   | some (.cells _)=>some (.int .i64 len,aA)
   | _=>none
  | some (.slice _),.nil .slc=>some (.int .i64 0,aA)
  | some (.slice _),.bK _ l _=>some (.int .i64 (l.length:Nat),aA)
  | some (.slice _),.own b=>match H[b]? with
   | some (.list _ _ _ l)=>some (.int .i64 (l.length:Nat),aA)
   | _=>none
  | some (.slice _),.win b _ n=>match H[b]? with
   | some (.list _ _ _ _)=>some (.int .i64 n,aA)
   | _=>none
  | some (.map _ _),.nil .map=>some (.int .i64 0,aA)
  | some (.map _ _),.map r=>match H[r]? with
   | some (.map es)=>some (.int .i64 es.length,nT (.h r))
   | _=>none
  | _,_=>none
 | none=>none
def aO:Nat:=2^20
def pq:PV X.Γ->List Key
 | .slc b _ _ _ _ _=>[.h b]
 | .own b=>[.h b]
 | .win b _ _=>[.h b]
 | _=>[]
def IQ (P:Program) (at_:Array TypeId) (H:List (PB X.Γ)) (d x:PV X.Γ):Option (PV X.Γ×List (PB X.Γ)×gy×List Prop):=
 match at_[0]?,at_[1]? with
 | some st,some xt=>
  if zI P xt||(P.underlying xt).isNone then none else
  match dM P st with
  | some (e,size)=>if jK P e aO then match oZ X H e size x with
   | some (rows,is)=>match d with
    | .nil .slc=>some (.own H.length,aI is H++[.list true false e rows],bY (pq X x),[rows.length<=aO])
    | .own b=>match H[b]? with
     | some (.list k ex t l)=>if is.contains b then none else match qc e t l with
      | some l=>some (.own H.length,aI (b::is) H++[.list (k&&ex) false e (l++rows)],⟨false,.h b::pq X x,[.h b]⟩,[l.length+rows.length<=aO])
      | none=>none
     | _=>none
    | .bK t l true=>match qc e t l with
     | some l=>some (.own H.length,aI is H++[.list true false e (l++rows)],bY (pq X x),[l.length+rows.length<=aO,l=[]∨rows≠[]])
     | none=>none
    | _=>none
   | none=>none
   else none
  | none=>none
 | _,_=>none
def Ep (P:Program) (at_:Array TypeId) (H:List (PB X.Γ)) (d x:PV X.Γ):Option (PV X.Γ×List (PB X.Γ)×gy×List Prop):=
 match at_[0]?,at_[1]? with
 | some st,some xt=>
  if zI P xt||(P.underlying xt).isNone then none else
  match dM P st with
  | some (e,size)=>if jK P e aO then match oZ X H e size x with
   | some (rows,is)=>match d with
    | .win b 0 n=>match H[b]? with
     | some (.list _ _ t l)=>if is.contains b then none else match qc e t l with
      | some l=>some (.own H.length,aI (b::is) H++[.list false false e (l.take n++rows)],⟨false,.h b::pq X x,[.h b]⟩,[l.length<n+rows.length,n+rows.length<=aO,n=0->l=[]])
      | none=>none
     | _=>none
    | _=>none
   | none=>none
   else none
  | none=>none
 | _,_=>none
def yJ {α:Type} (l:List α) (o k:Nat) (rows:List α):List α:=l.take o++rows.take k++l.drop (o+k)
def zY (P:Program) (at_:Array TypeId) (H:List (PB X.Γ)) (d x:PV X.Γ):Option (PV X.Γ×List (PB X.Γ)×gy×List Prop):=
 match at_[0]?,at_[1]? with
 | some st,some xt=>
  if zI P xt||(P.underlying xt).isNone then none else
  match dM P st with
  | some (e,size)=>match oZ X H e size x with
   | some (rows,[])=>match d with
    | .win b 0 n=>match H[b]? with
     | some (.list k ex t l)=>match qc e t l with
      | some l=>some (.win b 0 (n+rows.length),H.set b (.list k ex e (yJ l n rows.length rows)),⟨false,.h b::pq X x,[.h b]⟩,[rows≠[],n+rows.length<=l.length])
      | none=>none
     | _=>none
    | _=>none
   | _=>none
  | none=>none
 | _,_=>none
def a1E (e:Nat):List (X.Γ e)->List (PV X.Γ)
 | []=>[]
 | a::l=>X.enc e a++a1E e l
def Uo (P:Program) (at_:Array TypeId) (H:List (PB X.Γ)) (d x:PV X.Γ):Option (PV X.Γ×List (PB X.Γ)×gy):=
 match at_[0]? with
 | some st=>match dM P st with
  | some (e,size)=>match oZ X H e size x with
   | some (rows,[])=>match d with
    | .nil .slc=>some (.int .i64 0,H,bY (pq X x))
    | .own b=>match H[b]? with
     | some (.list k ex t l)=>match qc e t l with
      | some l=>some (.int .i64 ((min rows.length l.length:Nat):Int),H.set b (.list k ex e (yJ l 0 (min rows.length l.length) rows)),⟨false,.h b::pq X x,[.h b]⟩)
      | none=>none
     | _=>none
    | .win b o n=>match H[b]? with
     | some (.list k ex t l)=>match qc e t l with
      | some l=>some (.int .i64 ((min rows.length n:Nat):Int),H.set b (.list k ex e (yJ l o (min rows.length n) rows)),⟨false,.h b::pq X x,[.h b]⟩)
      | none=>none
     | _=>none
    | .slc b off len _ sz _=>match H[b]? with
     | some (.cells cs)=>if sz=size∧0<min rows.length len then (En cs off ((a1E X e rows).take (min rows.length len*size))).map fun cs'=>(.int .i64 ((min rows.length len:Nat):Int),H.set b (.cells cs'),⟨false,.h b::pq X x,[.h b]⟩) else none
     | _=>none
    | _=>none
   | _=>none
  | none=>none
 | none=>none
def tK (P:Program) (t:TypeId) (len:Nat) (H:List (PB X.Γ)) (ps:List (Nat×PV X.Γ)):Option (PV X.Γ×List (PB X.Γ)):=
 match dM P t with
 | some (e,n)=>if len*n<=2^24∧ps.all (fun p=>p.2.cells.all Nj)=true then
   match GY P e with
   | some z=>if z.length=n then
     match Eo (fun i=>some (i*n,n)) (Nq z len) ps with
     | some cs=>match qY X H e n len cs with
      | some (rows,is)=>some (.own H.length,aI is H++[.list true true e rows])
      | none=>some (.slc H.length 0 len len n true,H++[.cells cs])
     | none=>none
    else none
   | none=>none
  else none
 | none=>none
def xE (P:Program) (t:TypeId) (H:List (PB X.Γ)) (l c:PV X.Γ):Option (PV X.Γ×List (PB X.Γ)×List Prop):=
 match dM P t,l,c with
 | some (e,n),.int _ l,.int _ c=>if jK P e aO then
   match GY P e with
   | some z=>if z.length=n then
     match X.dec e z with
     | some a=>some (.own H.length,H++[.list true true e (List.replicate l.toNat a)],[l=c,0<=l,l<=aO])
     | none=>none
    else none
   | none=>none
  else none
 | _,_,_=>none
def qg (d:Nat):Option (PV X.Γ)->Option Int
 | none=>some d
 | some (.int _ i)=>some i
 | some _=>none
def Nr (P:Program) (t:TypeId) (H:List (PB X.Γ)) (x:PV X.Γ) (lo hi mx:Option (PV X.Γ)):Option (PV X.Γ×List Prop):=
 match P.underlying t,x with
 | some (.slice e),.bK t' l _=>match aZ P e,qg X 0 lo,qg X l.length hi,mx with
  | some _,some a,some b,none=>if t'=e then some (.bK t' ((l.take b.toNat).drop a.toNat) false,[0<=a,a<=b,b<=l.length]) else none
  | some _,some a,some b,some (.int _ m)=>if t'=e∧hi.isSome then some (.bK t' ((l.take b.toNat).drop a.toNat) true,[0<=a,a<=b,b<=l.length,m=b,a=b]) else none
  | _,_,_,_=>none
 | some (.slice e),.own i=>match H[i]? with
  | some (.list _ _ t' l)=>match aZ P e,qg X 0 lo,qg X l.length hi,mx with
   | some _,some a,some b,none=>if t'=e then some (.win i a.toNat (b.toNat-a.toNat),[0<=a,a<=b,b<=l.length]) else none
   | _,_,_,_=>none
  | _=>none
 | some (.slice e),.nil .slc=>match aZ P e,qg X 0 lo,qg X 0 hi,mx with
  | some _,some a,some b,none=>some (.nil .slc,[a=0,b=0])
  | some _,some a,some b,some (.int _ m)=>if hi.isSome then some (.nil .slc,[a=0,b=0,m=0]) else none
  | _,_,_,_=>none
 | _,_=>none
def zZ (P:Program) (t:TypeId) (H:List (PB X.Γ)) (x:PE X.Γ) (lo hi mx:Option (PV X.Γ)):Option (PV X.Γ×List (PB X.Γ)×List Prop):=
 match P.underlying t,x with
 | some (.array n e),.val (.ptr b off lim)=>match aZ P e with
  | some size=>
   if size=0∨lim<off+n*size∨2^24<n then none else
   match mx with
   | some _=>none
   | none=>match lo,hi with
    | none,none=>match H[b]? with
     | some (.cells _)=>some (.slc b off n n size true,H,[])
     | _=>none
    | lo,hi=>match H[b]?,qg X 0 lo,qg X n hi with
     | some (.cells cs),some a,some z=>if cs.length<off+n*size then none else match qY X H e size n (cs.drop off) with
      | some (rows,is)=>some (.bK e ((rows.take z.toNat).drop a.toNat) false,aI (b::is) H,[0<=a,a<=z,z<=n])
      | none=>none
     | _,_,_=>none
  | none=>none
 | _,_=>none
def xG (P:Program) (t:TypeId) (H:List (PB X.Γ)) (x:PE X.Γ) (lo hi:Option (PV X.Γ)):Option (PV X.Γ):=
 match P.underlying t,x with
 | some (.array n e),.val (.ptr b off lim)=>match aZ P e,H[b]?,qg X 0 lo,qg X n hi with
  | some size,some (.cells _),some a,some z=>if size=0∨lim<off+n*size∨2^24<n then none else if 0<=a∧a<=z∧z<=n then some (.slc b (off+a.toNat*size) (z.toNat-a.toNat) (n-a.toNat) size true) else none
  | _,_,_,_=>none
 | _,_=>none
def Pz (P:Program) (t:TypeId) (x y:PV X.Γ):Bool:=
 let a0A:PV X.Γ->Option NK
  | .fn _ _ _=>some .fn
  | .el _ _ _=>some .ptr
  | _=>none
 let a4Z:PV X.Γ->Option NK
  | .nil k=>some k
  | _=>none
 match AP P t with
 | some k=>(a4Z x==some k&&a0A y==some k)||(a0A x==some k&&a4Z y==some k)
 | none=>false
def a1F (P:Program) (op:BinOp) (t:TypeId) (x y:Operand) (a b:PV X.Γ):Option (PV X.Γ):=
 match tJ a,tJ b with
 | some u,some v=>match kH P op t x y u v with
  | some r=>Rf r
  | none=>none
 | _,_=>if Pz X P t a b then (match op with
  | .eql=>some (.bool false)
  | .neq=>some (.bool true)
  | _=>none) else none
def CP (P:Program) (op:BinOp) (t:TypeId) (b:PV X.Γ) (q:Prop):Option (PV X.Γ×Prop):=
 match b,AP P t with
 | .nil .slc,some .slc=>match op with
  | .eql=>some (.bool false,q)
  | .neq=>some (.bool true,q)
  | _=>none
 | _,_=>none
def IU (P:Program) (op:BinOp) (t:TypeId) (H:List (PB X.Γ)) (a b:PV X.Γ):Option (PV X.Γ×Prop):=
 match a with
 | .bK _ l _=>CP X P op t b (l≠[])
 | .own i=>match H[i]? with
  | some (.list _ _ _ l)=>CP X P op t b (l≠[])
  | _=>none
 | _=>none
def pun (P:Program) (op:UnOp) (a:PV X.Γ):Option (PV X.Γ):=
 match tJ a with
 | some u=>match unT P op u with
  | some r=>Rf r
  | none=>none
 | none=>none
def Ur (P:Program) (src dst:TypeId) (a:PV X.Γ):Option (PV X.Γ):=
 match tJ a with
 | some u=>match Dj P src dst u with
  | some r=>Rf r
  | none=>none
 | none=>match P.underlying src,P.underlying dst,a with
  | _,_,_=>none
def CQ (P:Program) (mx:Bool) (at_:Array TypeId) (t:TypeId) (az:List (PV X.Γ)):Option (PV X.Γ):=
 match QZ az with
 | some us=>match uT P mx at_ t us with
  | some r=>Rf r
  | none=>none
 | none=>none
def Ns (P:Program) (t:TypeId) (x:PV X.Γ) (i:Nat):Option (PV X.Γ):=
 match P.underlying t,x with
 | some (.struct fs),.agg cs=>match fs[i]? with
  | some f=>yG P f.type cs f.offset
  | none=>none
 | _,_=>none
def Nu (P:Program) (t:TypeId) (x i:PV X.Γ):Option (PV X.Γ):=
 match P.underlying t,x with
 | some (.array len e),.agg cs=>match aZ P e,Rj X len i with
  | some n,some j=>yG P e cs (j*n)
  | _,_=>none
 | _,_=>none
def oz:List (PV X.Γ×PV X.Γ)->Option (List TV)
 | []=>some []
 | (k,_)::r=>match tJ k,oz r with
  | some v,some vs=>some (v::vs)
  | _,_=>none
def oC (P:Program) (kt:TypeId) (k:Value) (ks:List TV):Option (Option Nat):=
 match rX ks with
 | some ks=>match au P (do Instr.checkKey ks.isEmpty 10000 kt k;Instr.findKey kt k (ks.map fun x=>⟨x,.bool false,0⟩)) with
  | some r=>if Jt P kt k ks (r.map (·.1)) then some (r.map (·.1)) else none
  | none=>none
 | none=>none
end
end Pv
namespace Tw
open Go
section
variable {P:Program}
abbrev onH (h:List HB):St:=⟨[],[],h,[]⟩
end
inductive Ans where
 | br (b:Bool)
 | dyn
 | calm
 | fa
 | bx
 | ev (v:EV) (i:gy)
 | ld (v:TV)
 | st (h:List HB) (ws:List Nat)
 | ix (j:Nat)
 | pt (b off lim:Nat)
 | up (h:List HB) (ws:List Nat)
 | hp (v:TV) (h:List HB) (i:gy) (ws:List Nat)
 | rd (v:TV)
 | mem (v:EV) (h:List HB) (i:gy) (ws:List Nat)
 | call (v:TV) (h:List HB) (ws FK:List Nat)
 | loop (e:Ex) (s:St)
def a5b (agg:Bool) (n:Nat) (h:List HB) (b off lim:Nat):Option TV:=
 match iw h b lim with
 | some cs=>if off+n<=lim then (if agg then (sub cs off n).map .agg else if n=1 then cs[off]? else none) else none
 | none=>none
def Kr:List Prop->Prop
 | []=>True
 | p::ps=>p∧Kr ps
theorem Kr.app:∀ {p q:List Prop},Kr (p++q)->Kr p∧Kr q
 | [],_,h=>⟨trivial,h⟩
 | _::_,_,h=>⟨⟨h.1,(Kr.app h.2).1⟩,(Kr.app h.2).2⟩
def kW:Code->List Code
 | .seq a b=>kW a++kW b
 | .cond _ a b=>kW a++kW b
 | .block _ b=>kW b
 | .loop b=>b::kW b
 | .scope b=>kW b
 | .rangeFunc _ _ a b=>kW a++kW b
 | _=>[]
def Us (P:Program) (f k:Nat):Code:=
 match FU P f with
 | some t=>(kW t.body).getD k .skip
 | none=>.skip
def a9p (P:Program) (f:Nat):Nat:=
 match FU P f with
 | some t=>t.nt
 | none=>0
section
variable (P:Program) (T:iF) (call:ay) (L f k:Nat) (fl:Nat)
def a1G (s:St):St:=dO (T.dG f (bZ (Us P f k))) s
def rounds (m:Nat) (s:St):Option (Ex×St):=
 iter (fun s=>exec P T call L f false fl (a9p P f) (Us P f k) (a1G P T f k s)) m s
end
inductive Fs (call:ay) (fl:Nat):List Ans->List Prop->Prop where
 | n:Fs call fl [] []
 | a {az:List Ans} {ps:List Prop} (x:Ans) (r:Fs call fl az ps):Fs call fl (x::az) ps
 | o {az:List Ans} {ps:List Prop} {p:Prop} (h:p) (r:Fs call fl az ps):Fs call fl az (p::ps)
namespace Fs
variable {call:ay} {fl:Nat} {az:List Ans} {ps:List Prop}
theorem all (h:Fs call fl az ps):Kr ps:=by
 induction h with
 | n=>trivial
 | a _ _ ih=>exact ih
 | o h _ ih=>exact⟨h,ih⟩
theorem b {c b:Bool} (h:c=b) (r:Fs call fl az ps):Fs call fl (.br b::az) ((c=b)::ps):=.a _ (.o h r)
theorem b2 {c b:Bool} (h:c=b) (r:Fs call fl az ps):Fs call fl (.br b::.br b::az) ((c=b)::(c=b)::ps):=.b h (.b h r)
theorem b3 {c b:Bool} (h:c=b) (r:Fs call fl az ps):Fs call fl (.br b::.br b::.br b::az) ((c=b)::(c=b)::(c=b)::ps):=.b h (.b2 h r)
theorem b4 {c b:Bool} (h:c=b) (r:Fs call fl az ps):Fs call fl (.br b::.br b::.br b::.br b::az) ((c=b)::(c=b)::(c=b)::(c=b)::ps):=.b2 h (.b2 h r)
theorem c {fv:TV} {xs:List TV} {h h':List HB} {v:TV} (e:call fv xs h=some (v,h',[])) (r:Fs call fl az ps):Fs call fl (.call v h' [] []::az) ((call fv xs h=some (v,h',[]))::(dn fl [] []=[])::ps):=.a _ (.o e (.o rfl r))
theorem l {g:Bool} {k:Nat} {h:List HB} {b off lim:Nat} {v:TV} (e:a5b g k h b off lim=some v) (r:Fs call fl az ps):Fs call fl (.ld v::az) ((a5b g k h b off lim=some v)::ps):=.a _ (.o e r)
theorem i {len:Nat} {iv:TV} {j:Nat} (e:idx len iv=some j) (r:Fs call fl az ps):Fs call fl (.ix j::az) ((idx len iv=some j)::ps):=.a _ (.o e r)
theorem p {P:Program} {t:TypeId} {xv iv:TV} {b off lim:Nat} (e:eF P t (.val xv) iv=some (.val (.ptr b off lim))) (r:Fs call fl az ps):Fs call fl (.pt b off lim::az) ((eF P t (.val xv) iv=some (.val (.ptr b off lim)))::ps):=.a _ (.o e r)
theorem r {X:Option TV} {v:TV} (e:X=some v) (r:Fs call fl az ps):Fs call fl (.rd v::az) ((X=some v)::ps):=.a _ (.o e r)
theorem k {X:Option (TV×gy)} {v:TV} (e:X=some (v,aA)) (r:Fs call fl az ps):Fs call fl (.rd v::az) ((X=some (v,aA))::ps):=.a _ (.o e r)
theorem w {P:Program} {T:iF} {L f k m:Nat} {q:St} {x:Ex} {s:St} (e:rounds P T call L f k fl m q=some (x,s)) (r:Fs call fl az ps):Fs call fl (.loop x s::az) ((rounds P T call L f k fl m q=some (x,s))::ps):=.a _ (.o e r)
theorem v {X:Option (Ex×St)} {x:Ex} {s:St} (e:X=some (x,s)) (r:Fs call fl az ps):Fs call fl (.loop x s::az) ((X=some (x,s))::ps):=.a _ (.o e r)
theorem g {P:Program} {at_:Array TypeId} {h h':List HB} {d x v:TV} {i:gy} (e:bQ P at_ (onH h) d x=some (v,onH h',i)) {ws FK:List Nat} (k:dn fl i.ws ws=FK) (r:Fs call fl az ps):Fs call fl (.hp v h' i FK::az) ((bQ P at_ (onH h) d x=some (v,onH h',i))::(dn fl i.ws ws=FK)::ps):=.a _ (.o e (.o k r))
theorem u {P:Program} {t:TypeId} {h h':List HB} {m:Nat} {k v:TV} (e:jL P t (onH h) (.map m) k v=some (onH h',lF (.h m))) {ws FK:List Nat} (q:xM fl m ws=FK) (r:Fs call fl az ps):Fs call fl (.up h' FK::az) ((jL P t (onH h) (.map m) k v=some (onH h',lF (.h m)))::(xM fl m ws=FK)::ps):=.a _ (.o e (.o q r))
theorem f {p:Prop} (e:p) (r:Fs call fl az ps):Fs call fl (.fa::az) (p::ps):=.a _ (.o e r)
theorem x {p:Prop} (e:p) (r:Fs call fl az ps):Fs call fl (.bx::az) (p::ps):=.a _ (.o e r)
theorem d {p:Prop} (e:p) (r:Fs call fl az ps):Fs call fl (.dyn::az) (p::ps):=.a _ (.o e r)
theorem m {p:Prop} (e:p) (r:Fs call fl az ps):Fs call fl (.calm::az) (p::ps):=.a _ (.o e r)
end Fs
abbrev u8 (n:Int):TV:=.int .u8 n
abbrev a5c (k:IntKind) (x y:Int):Int:=k.wrap (x.tdiv y)
abbrev a5d (_k:IntKind) (x y:Int):Int:=x.tmod y
abbrev a5e (k:IntKind) (x y:Int):Int:=k.wrap (x*2^(min y.toNat k.bits))
abbrev a1H (k:IntKind) (x y:Int):Int:=x.fdiv (2^(min y.toNat k.bits))
theorem CS {g:St->Option (Ex×St)}:∀ {m L:Nat} {s:St} {r:Ex×St},iter g m s=some r->m<=L->iter g L s=some r
 | 0,_,_,_,h,_=>by simp[iter] at h
 | m+1,L,s,r,h,hl=>by
  obtain⟨L,rfl⟩:∃ k,L=k+1:=⟨L-1,by omega⟩;unfold iter at h ⊢;split at h
  ·exact CS h (by omega)
  exact h
end Tw

namespace Tw
open Go
section
variable {P:Program}
theorem oD (d:Nat) (t:TypeId) (xs ys:Array Value) (fs:Array Field) (ht:P.underlying t=some (.struct fs)) (hp:P.stoodInHeld t=false) :
  au P (Op.equalIn (d+1) t (.agg xs) (.agg ys))=au P (Op.eqFields d xs ys fs.toList):=by
 have hu:au P (underlying t)=some (.struct fs):=by
  simp only[underlying,aY];have:au P program=some P:=rfl;simp[this,ht,au];rfl
 simp only[Op.equalIn,aY,hu,Option.bind_some,show au P program=some P from rfl,hp,Bool.false_eq_true,if_false];rw[<-Array.forIn_toList];generalize fs.toList=fs;clear ht hu
 induction fs with
 | nil=>simp[Op.eqFields,au,aY];rfl
 | cons f fs ih=>
  simp only[List.forIn_cons,Op.eqFields,aY] at ih ⊢;split
  ·simp only[aY];generalize au P (part f.type xs f.offset)=r1;cases r1 with
   | none=>simp
   | some a=>
    simp only[Option.bind_some];generalize au P (part f.type ys f.offset)=r2;cases r2 with
    | none=>simp
    | some b=>
     simp only[Option.bind_some];generalize au P (Op.equalIn d f.type a b)=r3;cases r3 with
     | none=>simp
     | some r=>
      cases r with
      | false=>simp only[Option.bind_some,Bool.not_false,if_true];rfl
      | true=>simp only[Option.bind_some,Bool.not_true,Bool.false_eq_true,if_false];exact ih
  ·exact ih
theorem ng (d:Nat) (t:TypeId) (k k':IntKind) (a b:Int) (h:P.underlying t=some (.int k')):au P (Op.equalIn (d+1) t (.int k a) (.int k b))=some (a==b):=by
 have hu:au P (underlying t)=some (.int k'):=by
  simp only[underlying,aY,show au P program=some P from rfl,Option.bind_some,h];rfl
 simp only[Op.equalIn,aY,hu,Option.bind_some,if_true];rfl
theorem iY {d : Nat} {xs ys : Array Value} {f : Field} {fs : List Field} {a b : Value} {r : Bool} (hn : f.name ≠ "_") (ha : au P (part f.type xs f.offset) = some a) (hb : au P (part f.type ys f.offset) = some b)
  (hr:au P (Op.equalIn d f.type a b)=some r):au P (Op.eqFields d xs ys (f::fs))=if r=true then au P (Op.eqFields d xs ys fs) else some false:=by
 simp only[Op.eqFields];rw[if_pos hn];simp only[aY,ha,hb,hr,Option.bind_some];cases r with
 | true=>rfl
 | false=>rfl
theorem IV {t:TypeId} {x y:Operand} {xs ys:List TV} {us vs:List Value} {r:Bool} (hx:TV.LJ xs=some us) (hy:TV.LJ ys=some vs) (hg:P.eqGuardType P.depth t=false)
  {d:Nat} (hd:d=10000) (h:au P (Op.equalIn d t (.agg us.toArray) (.agg vs.toArray))=some r):kH P .eql t x y (.agg xs) (.agg ys)=some (.bool r)∧kH P .neq t x y (.agg xs) (.agg ys)=some (.bool (!r)):=by
 subst hd;constructor
 all_goals
  simp only[kH,TV.rW,hx,hy,Option.map_some];simp only[eqGuard,binOp,Op.equal,Op.maxDepth,aY,show au P program=some P from rfl,hg,Option.bind_some,Bool.not_true,Bool.not_false,Bool.false_eq_true,if_false,if_true,h];rfl
theorem Ut {t:TypeId} {x y:Operand} {k k':IntKind} {a b:Int} (h:0<=b):kH P .shl t x y (.int k a) (.int k' b)=some (.int k (a5e k a b)):=by
 simp only[kH,TV.rW,TV.toC,eqGuard,binOp,Op.shift];rw[if_neg (show ¬b<0 by omega)];rfl
theorem Uu {t:TypeId} {x y:Operand} {k k':IntKind} {a b:Int} (h:0<=b):kH P .shr t x y (.int k a) (.int k' b)=some (.int k (a1H k a b)):=by
 simp only[kH,TV.rW,TV.toC,eqGuard,binOp,Op.shift];rw[if_neg (show ¬b<0 by omega)];rfl
theorem Uw {t:TypeId} {x y:Operand} {k:IntKind} {a b:Int} (h:b≠0):kH P .quo t x y (.int k a) (.int k b)=some (.int k (a5c k a b)):=by
 simp only[kH,TV.rW,TV.toC,eqGuard,binOp,Op.intDiv];rw[if_neg h];cases k<;>rfl
theorem Ux {t:TypeId} {x y:Operand} {k:IntKind} {a b:Int} (h:b≠0):kH P .rem t x y (.int k a) (.int k b)=some (.int k (a5d k a b)):=by
 simp only[kH,TV.rW,TV.toC,eqGuard,binOp,Op.intDiv];rw[if_neg h];cases k<;>rfl
end
end Tw
namespace Pv
open Go Tw
def ni:List Nat->Nat->Option Nat
 | [],_=>none
 | a::l,i=>if a=i then some 0 else (ni l i).map (·+1)
inductive G where
 | lit
 | Nv (t e:Nat)
 | a5f (k off e:Nat)
 | a5g (i off e:Nat)
 | flag (i:Nat)
 | gc (ks:List Nat)
 | mv (i:Nat)
 | fz (i:Nat)
section
variable {Γ:Nat->Type}
def bT (g:Nat->Option Nat):PV Γ->Option (PV Γ)
 | .ptr b off lim=>(g b).map fun b=>.ptr b off lim
 | .slc b off len cap sz ex=>(g b).map fun b=>.slc b off len cap sz ex
 | .own b=>(g b).map .own
 | .win b o n=>(g b).map fun b=>.win b o n
 | .map r=>(g r).map .map
 | .iter r=>(g r).map .iter
 | .fn f a c=>match jg g a,jg g c with
  | some a,some c=>some (.fn f a c)
  | _,_=>none
 | .jk l=>(g l).map .jk
 | .agg cs=>(jg g cs).map .agg
 | .bH cs=>(jg g cs).map .bH
 | .row b j off=>(g b).map fun b=>.row b j off
 | .bool b=>some (.bool b)
 | .lit b=>some (.lit b)
 | .int k n=>some (.int k n)
 | .str s=>some (.str s)
 | .nil k=>some (.nil k)
 | .bK t l f=>some (.bK t l f)
 | .el t a off=>some (.el t a off)
where
 jg (g:Nat->Option Nat):List (PV Γ)->Option (List (PV Γ))
 | []=>some []
 | c::cs=>match bT g c,jg g cs with
  | some v,some vs=>some (v::vs)
  | _,_=>none
def Nw (g:Nat->Option Nat):PE Γ->Option (PE Γ)
 | .val v=>(bT g v).map .val
 | e=>some e
def jG (g:Nat->Option Nat):List (Nat×PE Γ)->Option (List (Nat×PE Γ))
 | []=>some []
 | (k,v)::r=>match Nw g v,jG g r with
  | some v,some r=>some ((k,v)::r)
  | _,_=>none
def Kt (g:Nat->Option Nat):List (List (PV Γ))->Option (List (List (PV Γ)))
 | []=>some []
 | l::r=>match bT.jg g l,Kt g r with
  | some l,some r=>some (l::r)
  | _,_=>none
def qh (g:Nat->Option Nat):PB Γ->Option (PB Γ)
 | .cells cs=>(bT.jg g cs).map .cells
 | .fG cs=>(bT.jg g cs).map .fG
 | .map es=>some (.map es)
 | .bn r n seen=>(g r).map fun r=>.bn r n seen
 | .loop rd f nt env ps a b gK=>(jG g env).map fun env=>.loop rd f nt env ps a b gK
 | b=>some b
def iM (g:Nat->Option Nat):List (PB Γ)->Option (List (PB Γ))
 | []=>some []
 | b::r=>match qh g b,iM g r with
  | some b,some r=>some (b::r)
  | _,_=>none
def tV (H:List (PB Γ)):List Nat->Option (List (PB Γ))
 | []=>some []
 | i::is=>match H[i]?,tV H is with
  | some b,some r=>some (b::r)
  | _,_=>none
def XD:List (Nat×PE Γ)->List (Nat×PE Γ)
 | []=>[]
 | (k,.val v)::r=>(k,.val (Px v))::XD r
 | x::r=>x::XD r
def Nv (t i:Nat):List (Nat×PE Γ)->Option (List (Nat×PE Γ))
 | []=>none
 | (k,v)::r=>if k=t then (match v with
   | .val (.nil .slc)=>some ((k,.val (.own i))::r)
   | _=>none) else (Nv t i r).map ((k,v)::·)
def XE (off i:Nat) (cs:List (PV Γ)):Option (List (PV Γ)):=
 match cs[off]? with
 | some (.nil .slc)=>some (cs.set off (.own i))
 | _=>none
def fzV (H:List (PB Γ)) (i:Nat) (v:PV Γ):Option (PV Γ):=match (oW v).contains i with
 | false=>some v
 | true=>match (oW v).all fun j=>Nat.beq j i with
  | true=>view H v
  | false=>none
def Uy (H:List (PB Γ)) (i:Nat):List (PV Γ)->Option (List (PV Γ))
 | []=>some []
 | v::vs=>match fzV H i v,Uy H i vs with
  | some w,some ws=>some (w::ws)
  | _,_=>none
def fzE (H:List (PB Γ)) (i:Nat):List (Nat×PE Γ)->Option (List (Nat×PE Γ))
 | []=>some []
 | (k,.val v)::r=>match fzV H i v,fzE H i r with
  | some w,some ws=>some ((k,.val w)::ws)
  | _,_=>none
 | e::r=>(fzE H i r).map (e::·)
def fzL (H:List (PB Γ)) (i:Nat):List (List (PV Γ))->Option (List (List (PV Γ)))
 | []=>some []
 | c::r=>match Uy H i c,fzL H i r with
  | some w,some ws=>some (w::ws)
  | _,_=>none
def rQ (B:Nat) (s:aW Γ):G->Option (aW Γ)
 | .lit=>some { s with env:=XD s.env }
 | .Nv t e=>(Nv t s.heap.length s.env).map fun env=>{ s with env:=env,heap:=s.heap++[.list false false e []] }
 | .a5f k off e=>match s.loc[k]? with
  | some cs=>(XE off s.heap.length cs).map fun cs=>{ s with loc:=s.loc.set k cs,heap:=s.heap++[.list false false e []] }
  | none=>none
 | .a5g i off e=>match s.heap[i]? with
  | some (.cells cs)=>(XE off s.heap.length cs).map fun cs=>{ s with heap:=s.heap.set i (.cells cs)++[.list false false e []] }
  | _=>none
 | .flag i=>match s.heap[i]? with
  | some (.list _ _ t l)=>some { s with heap:=s.heap.set i (.list false false t l) }
  | _=>none
 | .gc ks=>if ks.all (fun k=>decide (B<=k))&&decide ks.Nodup&&decide (B<=s.heap.length) then
   let g:Nat->Option Nat:=fun i=>if i<B then some i else (ni ks i).map (·+B)
   match jG g s.env,Kt g s.loc,iM g (s.heap.take B),tV s.heap ks with
   | some env,some loc,some h1,some h2=>match iM g h2 with
    | some h2=>some ⟨env,loc,h1++h2⟩
    | none=>none
   | _,_,_,_=>none
  else none
 | .fz i=>match fzE s.heap i s.env,fzL s.heap i s.loc with
  | some env,some loc=>some ⟨env,loc,aI [i] s.heap⟩
  | _,_=>none
 | .mv i=>match s.heap[i]? with
  | some b=>
   let g:Nat->Option Nat:=fun j=>if j=i then some s.heap.length else if j<s.heap.length then some j else none
   match jG g s.env,Kt g s.loc,iM g (s.heap.set i .gone),qh g b with
   | some env,some loc,some h1,some b1=>some ⟨env,loc,h1++[b1]⟩
   | _,_,_,_=>none
  | none=>none
def jX (B:Nat):List G->aW Γ->Option (aW Γ)
 | [],s=>some s
 | g::gs,s=>match rQ B s g with
  | some s=>jX B gs s
  | none=>none
end
def a9q:BinOp->Bool
 | .quo | .rem | .shl | .shr=>true
 | _=>false
def a1J {Γ:Nat->Type} (op:BinOp):PV Γ->PV Γ->Option (PV Γ×List Prop)
 | .int k x,.int k' y=>match op with
  | .quo=>if k'=k then some (.int k (a5c k x y),[y≠0]) else none
  | .rem=>if k'=k then some (.int k (a5d k x y),[y≠0]) else none
  | .shl=>some (.int k (a5e k x y),[0<=y])
  | .shr=>some (.int k (a1H k x y),[0<=y])
  | _=>none
 | _,_=>none
def putAt {α:Type}:List Nat->List α->List α->List α
 | k::ks,b::bs,l=>putAt ks bs (l.set k b)
 | _,_,l=>l
def bk (ks:List Nat) (n:Nat):Nat->Option Nat:=fun j=>match ks[j]? with
 | some k=>some k
 | none=>some (n+(j-ks.length))
def roB {Γ:Nat->Type}:List Nat->List (PB Γ)->List (PB Γ)->Option (List (PB Γ)×List (PB Γ))
 | [],H,H1=>some (H,H1)
 | r::rs,H,H1=>match H[r]?,H1[r]? with
  | some (.cells a),some (.cells b)=>roB rs (H.set r (.fG a)) (H1.set r (.fG b))
  | some (.map a),some (.map b)=>roB rs (H.set r (.vV a)) (H1.set r (.vV b))
  | _,_=>none
def A8 {Γ:Nat->Type}:List (PB Γ)->Bool
 | []=>true
 | .fG _::_=>false
 | .vV _::_=>false
 | _::H=>A8 H
def Rk {α:Type} (rs:List Nat):Nat->List α->List α
 | _,[]=>[]
 | i,k::ks=>if rs.contains i then Rk rs (i+1) ks else k::Rk rs (i+1) ks
inductive PA (Γ:Nat->Type) where
 | br (b:Bool)
 | rd (v:TV)
 | ix (j:Nat)
 | no
 | call (v:PV Γ) (H:List (PB Γ))
 | fr (ks:List Nat) (v:PV Γ) (H:List (PB Γ))
 | frR (ks rs:List Nat) (v:PV Γ) (H:List (PB Γ))
 | loop (e:Ex) (s:aW Γ)
 | lg (gs:List G) (e:Ex) (s:aW Γ)
 | calm
inductive PT (Γ:Nat->Type) where
 | n
 | a (x:PA Γ) (r:PT Γ)
 | s (t e:PT Γ)
 | z (c:Bool) (t e:PT Γ)
 | l (m:Nat) (r:PT Γ)
inductive OT (ρ:Type) where
 | bad
 | ret (r:ρ)
 | o (p:Prop) (r:OT ρ)
 | br (c:Bool) (t e:OT ρ)
def OT.Ends {ρ:Type}:OT ρ->ρ->Prop
 | .bad,_=>False
 | .ret r,x=>r=x
 | .o p r,x=>p∧r.Ends x
 | .br c t e,x=>(c=true∧t.Ends x)∨(c=false∧e.Ends x)
def Uz {ρ:Type}:List Prop->OT ρ->OT ρ
 | [],x=>x
 | p::ps,x=>.o p (Uz ps x)
abbrev iO (Γ:Nat->Type):=FuncId->List (PV Γ)->Option (PV Γ×List (PB Γ)×List Prop)
structure PI where
 i:gy
 wall:Bool
 mv:Bool
 hp:Bool
def pO:PI:=⟨aA,false,false,false⟩
def IW {Γ:Nat->Type}:PE Γ->Bool
 | .loc _ _=>true
 | _=>false
def jY {Γ:Nat->Type}:PB Γ->Bool
 | .gone=>true
 | _=>false
def qj {Γ:Nat->Type}:List (PB Γ)->List (PB Γ)->Bool
 | [],_=>true
 | b::H,b'::H'=>(jY b==jY b')&&qj H H'
 | _::_,[]=>false
def a1K {Γ:Nat->Type}:PV Γ->Bool
 | .agg _=>true
 | _=>false
def Ny {Γ:Nat->Type}:PV Γ->Bool
 | .str _=>true
 | _=>false
section
variable (X:iR) (P:Program) (T:iF) (kX:iO X.Γ) {ρ:Type}
def byB (u:PV X.Γ) (an:PT X.Γ) (k:Bool->PT X.Γ->OT ρ):OT ρ:=
 match u with
 | .lit t=>k t an
 | .bool u=>match an with
  | .s x y=>.br u (k true x) (k false y)
  | .a (.br t) r=>.o (u=t) (k t r)
  | _=>.bad
 | _=>.bad
def Es (H:List (PB X.Γ)) (r:Nat):Option (List (PV X.Γ×PV X.Γ)):=
 match H[r]? with
 | some (.map es)=>some es
 | some (.vV es)=>some es
 | _=>none
def UA (H:List (PB X.Γ)):PV X.Γ->Option (List (PV X.Γ×PV X.Γ))
 | .nil .map=>some []
 | .map r=>Es X H r
 | _=>none
def GZ:PV X.Γ->List Key
 | .map r=>[.h r]
 | _=>[]
def a1L (kt:TypeId) (es:List (PV X.Γ×PV X.Γ)) (tk:TV) (v:PV X.Γ):Prop:=∃ kv ks j k0,tk.rW=some kv∧oz X es=some ks∧oC P kt kv ks=some (some j)∧es[j]? = some (k0,v)
def Et (kt:TypeId) (es:List (PV X.Γ×PV X.Γ)) (tk:TV):Prop:=∃ kv ks,tk.rW=some kv∧oz X es=some ks∧oC P kt kv ks=some none
def a5h (kt:TypeId) (es:List (PV X.Γ×PV X.Γ)) (tk:TV) (k v:PV X.Γ):Prop:=∃ kv ks j old ov,tk.rW=some kv∧au P (Instr.checkKey false 10000 kt kv)=some ()∧oz X es=some ks∧oC P kt kv ks=some (some j)∧es[j]? = some (k,v)∧ks[j]? = some old∧old.rW=some ov∧Instr.sameBits 10000 ov kv=true
def H6 (e:TypeId):Option (PV X.Γ):=match P.info? e with
 | some i=>match i.zero with
  | some z=>match TV.Jk z with
   | some z=>Rf z
   | none=>none
  | none=>none
 | none=>none
def Nz (t:TypeId) (s:aW X.Γ) (m k:PV X.Γ) (ok:Bool) (an:PT X.Γ) (c:PE X.Γ->PI->PT X.Γ->OT ρ):OT ρ:=
 match P.underlying t,tJ k,UA X s.heap m with
 | some (.map kt e),some tk,some es=>match an with
  | .a (.call v _) r=>.o (a1L X P kt es tk v) (c (.val (if ok then .bH [v,.bool true] else v)) ⟨bY (GZ X m),false,false,true⟩ r)
  | .a .calm r=>match H6 X P e with
   | some z=>.o (Et X P kt es tk) (c (.val (if ok then .bH [z,.bool false] else z)) ⟨bY (GZ X m),false,false,true⟩ r)
   | none=>.bad
  | .a (.rd _) r=>match H6 X P e with
   | some z=>.o (Et X P kt es tk) (c (.val (if ok then .bH [z,.bool false] else z)) ⟨bY (GZ X m),false,false,true⟩ r)
   | none=>.bad
  | an=>match tk.rW,oz X es with
   | some kv,some ks=>match an with
    | .a (.ix j) r=>match es[j]? with
     | some (_,v)=>.o (oC P kt kv ks=some (some j)) (c (.val (if ok then .bH [v,.bool true] else v)) ⟨bY (GZ X m),false,false,true⟩ r)
     | none=>.bad
    | .a .no r=>match H6 X P e with
     | some z=>.o (oC P kt kv ks=some none) (c (.val (if ok then .bH [z,.bool false] else z)) ⟨bY (GZ X m),false,false,true⟩ r)
     | none=>.bad
    | _=>.bad
   | _,_=>.bad
 | _,_,_=>.bad
def UC (t:TypeId) (s:aW X.Γ) (m k v:PV X.Γ) (an:PT X.Γ) (c:aW X.Γ->PI->PT X.Γ->OT ρ):OT ρ:=
 match P.underlying t,tJ k,m,tJ v with
 | some (.map kt _),some tk,.map r,some _=>match s.heap[r]? with
  | some (.map es)=>match an with
   | .a .calm rest=>.o (∃ kv,tk.rW=some kv∧au P (Instr.checkKey false 10000 kt kv)=some ()) (.o (Et X P kt es tk) (c { s with heap:=s.heap.set r (.map (es++[(k,v)])) } ⟨lF (.h r),false,false,true⟩ rest))
   | .a (.rd _) rest=>.o (∃ kv,tk.rW=some kv∧au P (Instr.checkKey false 10000 kt kv)=some ()) (.o (Et X P kt es tk) (c { s with heap:=s.heap.set r (.map (es++[(k,v)])) } ⟨lF (.h r),false,false,true⟩ rest))
   | .a (.call _ _) rest=>.o (a5h X P kt es tk k v) (c s ⟨lF (.h r),false,false,true⟩ rest)
   | an=>match tk.rW,oz X es with
    | some kv,some ks=>match an with
     | .a (.ix j) rest=>match es[j]?,ks[j]? with
      | some _,some old=>match old.rW with
       | some ov=>.o (au P (Instr.checkKey false 10000 kt kv)=some ()) (.o (oC P kt kv ks=some (some j)) (.o (Instr.sameBits 10000 ov kv=true) (c { s with heap:=s.heap.set r (.map (es.set j (k,v))) } ⟨lF (.h r),false,false,true⟩ rest)))
       | none=>.bad
      | _,_=>.bad
     | .a .no rest=>.o (au P (Instr.checkKey false 10000 kt kv)=some ()) (.o (oC P kt kv ks=some none) (c { s with heap:=s.heap.set r (.map (es++[(k,v)])) } ⟨lF (.h r),false,false,true⟩ rest))
     | _=>.bad
    | _,_=>.bad
  | _=>.bad
 | _,_,_,_=>.bad
abbrev Rl (Γ:Nat->Type):=PV Γ->List (PV Γ)->List (PB Γ)->PV Γ->List (PB Γ)->Prop
def UD (H7:Rl X.Γ) (s:aW X.Γ) (fv:PV X.Γ) (xs:List (PV X.Γ)) (an:PT X.Γ) (k:PE X.Γ->aW X.Γ->PI->PT X.Γ->OT ρ):OT ρ:=
 match an with
 | .a (.call v H) r=>.o (H7 fv xs s.heap v H) (k (.val v) { s with heap:=H } ⟨⟨true,[],[]⟩,true,false,true⟩ r)
 | .a (.fr ks v H) r=>match decide ks.Nodup&&A8 (H.drop ks.length),tV s.heap ks with
  | true,some Hp=>match iM (ni ks) Hp,bT (ni ks) fv,bT.jg (ni ks) xs with
   | some Hs,some fv1,some xs1=>match bT (bk ks s.heap.length) v,iM (bk ks s.heap.length) H with
    | some v1,some H1=>.o (H7 fv1 xs1 Hs v H) (k (.val v1) { s with heap:=putAt ks H1 s.heap++H1.drop ks.length } ⟨⟨true,[],ks.map .h⟩,false,false,true⟩ r)
    | _,_=>.bad
   | _,_,_=>.bad
  | _,_=>.bad
 | .a (.frR ks rs v H) r=>match decide ks.Nodup&&A8 (H.drop ks.length),tV s.heap ks with
  | true,some Hp=>match iM (ni ks) Hp,bT (ni ks) fv,bT.jg (ni ks) xs with
   | some Hs,some fv1,some xs1=>match bT (bk ks s.heap.length) v,iM (bk ks s.heap.length) H,roB rs Hs H with
    | some v1,some H1,some (Hs',H')=>.o (H7 fv1 xs1 Hs' v H') (k (.val v1) { s with heap:=putAt ks H1 s.heap++H1.drop ks.length } ⟨⟨true,[],(Rk rs 0 ks).map .h⟩,false,false,true⟩ r)
    | _,_,_=>.bad
   | _,_,_=>.bad
  | _,_=>.bad
 | an=>match fv with
  | .fn f first cap=>match views s.heap (first++xs++cap) with
   | some vs=>match kX f vs with
    | some (v,ext,ps)=>match mF X s.heap.length ext with
     | some ext'=>Uz ps (k (.val (shift s.heap.length v)) { s with heap:=(if sG v||ext.any (hasB X) then aI (oW.mZ (first++xs++cap)) s.heap else s.heap)++ext' } ⟨⟨true,[],[]⟩,false,false,true⟩ an)
     | none=>.bad
    | none=>.bad
   | none=>.bad
  | _=>.bad
def a1M (H7:Rl X.Γ) (site:Nat->Bool) (s:aW X.Γ) (o:Oper) (an:PT X.Γ) (k:PE X.Γ->aW X.Γ->PI->PT X.Γ->OT ρ):OT ρ:=
 match o.op with
 | .move x | .assign x=>match zX s.env x with
  | some v=>k v s pO an
  | none=>.bad
 | .pick c a b=>match Py s.env c with
  | some u=>byB X u an fun t an=>match zX s.env (if t then a else b) with
   | some v=>k v (s.sF c t) pO an
   | none=>.bad
  | none=>.bad
 | .alloc e=>match GY P e with
  | some z=>match vk (site (o.dst.getD 0)) s z with
   | (v,s)=>k v s pO an
  | none=>.bad
 | .box _ x=>match wF s.env x with
  | some v=>if v.cells.all Nj then (match vk (site (o.dst.getD 0)) s v.cells with
   | (v,s)=>k v s pO an) else .bad
  | none=>.bad
 | .build t ps=>match Ri s.env ps.toList with
  | some ps=>match Nl P t ps with
   | some v=>k (.val v) s pO an
   | none=>.bad
  | none=>.bad
 | .buildSlice t len ps=>match Ri s.env ps.toList with
  | some ps=>match tK X P t len s.heap ps with
   | some (v,H)=>k (.val v) { s with heap:=H } pO an
   | none=>.bad
  | none=>.bad
 | .load t a=>match zX s.env a with
  | some a=>match qZ X P t s a with
   | some (v,i)=>k (.val v) s ⟨i,false,false,!IW a⟩ an
   | none=>.bad
  | none=>.bad
 | .store t a x=>match zX s.env a,wF s.env x with
  | some a,some v=>match IL X P t s a v with
   | some (s,i)=>k .undef s ⟨i,false,false,!IW a⟩ an
   | none=>.bad
  | _,_=>.bad
 | .nilCheck x=>match zX s.env x with
  | some (.loc a b)=>k (.loc a b) s pO an
  | some (.val (.ptr a b c))=>match s.heap[a]? with
   | some (.cells _)=>k (.val (.ptr a b c)) s pO an
   | some (.fG _)=>k (.val (.ptr a b c)) s pO an
   | _=>.bad
  | some (.val (.row a b c))=>match s.heap[a]? with
   | some (.list _ _ _ _)=>k (.val (.row a b c)) s pO an
   | _=>.bad
  | some (.val (.el a b c))=>k (.val (.el a b c)) s pO an
  | some (.val (.fn a b c))=>k (.val (.fn a b c)) s pO an
  | _=>.bad
 | .binOp op t x y _=>match wF s.env x,wF s.env y with
  | some a,some b=>if a9q op then (match a1J op a b with
    | some (v,ps)=>Uz ps (k (.val v) s pO an)
    | none=>.bad)
   else match IU X P op t s.heap a b with
   | some (v,q)=>.o q (k (.val v) s pO an)
   | none=>if a1K a||Ny a then (match an with
    | .a (.rd w) r=>match Rf w,tJ a,tJ b with
     | some v,some ta,some tb=>.o (kH P op t x y ta tb=some w) (k (.val v) s pO r)
     | _,_,_=>.bad
    | _=>.bad)
   else match a1F X P op t x y a b with
    | some v=>k (.val v) s pO an
    | none=>.bad
  | _,_=>.bad
 | .unOp op _ x=>match wF s.env x with
  | some a=>match pun X P op a with
   | some v=>k (.val v) s pO an
   | none=>.bad
  | none=>.bad
 | .convert src dst x=>match wF s.env x with
  | some a=>if Ny a then (match an with
    | .a (.rd w) r=>match Rf w,tJ a with
     | some v,some ta=>.o (Dj P src dst ta=some w) (k (.val v) s pO r)
     | _,_=>.bad
    | _=>.bad)
   else match Ur X P src dst a with
    | some v=>k (.val v) s pO an
    | none=>.bad
  | none=>.bad
 | .makeFunc (.func f) first cap=>match Nk s.env first.toList,Nk s.env cap.toList with
  | some a,some b=>k (.val (.fn f a b)) s pO an
  | _,_=>.bad
 | .makeMap t r=>match Em s.env r,P.underlying t with
  | some none,_=>k (.val (.map s.heap.length)) { s with heap:=s.heap++[.map []] } pO an
  | some (some (.int _ _)),some (.map _ _)=>k (.val (.map s.heap.length)) { s with heap:=s.heap++[.map []] } pO an
  | _,_=>.bad
 | .makeSlice t l c=>match wF s.env l,wF s.env c with
  | some l,some c=>match xE X P t s.heap l c with
   | some (v,H,ps)=>Uz ps (k (.val v) { s with heap:=H } pO an)
   | none=>.bad
  | _,_=>.bad
 | .slice t x lo hi mx=>match zX s.env x,Em s.env lo,Em s.env hi,Em s.env mx with
  | some x,some lo,some hi,some mx=>match P.underlying t with
   | some (.array _ _)=>match an with
    | .a .no r=>match mx,xG X P t s.heap x lo hi with
     | none,some v=>k (.val v) s pO r
     | _,_=>.bad
    | an=>match zZ X P t s.heap x lo hi mx with
     | some (v,H,ps)=>Uz ps (k (.val v) { s with heap:=H } pO an)
     | none=>.bad
   | _=>match x with
    | .val (.str b)=>(match an with
     | .a (.rd w) r=>match Rf w,(match lo with | none=>some none | some v=>(tJ v).map some),(match hi with | none=>some none | some v=>(tJ v).map some) with
      | some v,some tl,some th=>if mx.isNone then .o (jB P t (.str b) tl th none=some w) (k (.val v) s pO r) else .bad
      | _,_,_=>.bad
     | _=>.bad)
    | .val x=>match Nr X P t s.heap x lo hi mx with
     | some (v,ps)=>Uz ps (k (.val v) s pO an)
     | none=>.bad
    | _=>.bad
  | _,_,_,_=>.bad
 | .fieldAddr t x f=>match zX s.env x,sO P t f with
  | some a,some n=>match yI X s n a with
   | some v=>k v s pO an
   | none=>.bad
  | _,_=>.bad
 | .field t x f=>match wF s.env x with
  | some a=>match Ns X P t a f with
   | some v=>k (.val v) s pO an
   | none=>.bad
  | none=>.bad
 | .indexAddr t x i=>match zX s.env x,wF s.env i with
  | some a,some i=>match xB X P t s a i with
   | some (v,ps)=>Uz ps (k v s pO an)
   | none=>.bad
  | _,_=>.bad
 | .index t x i=>match wF s.env x,wF s.env i with
  | some a,some i=>if Ny a then (match an with
    | .a (.rd w) r=>match Rf w,tJ a,tJ i with
     | some v,some ta,some ti=>.o (wP P t ta ti=some w) (k (.val v) s pO r)
     | _,_,_=>.bad
    | _=>.bad)
   else match Nu X P t a i with
    | some v=>k (.val v) s pO an
    | none=>.bad
  | _,_=>.bad
 | .lookup t m i ok=>match wF s.env m,wF s.env i with
  | some m,some i=>Nz X P t s m i ok an fun v q an=>k v s q an
  | _,_=>.bad
 | .mapUpdate t m i x | .insert t m i x=>match wF s.env m,wF s.env i,wF s.env x with
  | some m,some i,some v=>UC X P t s m i v an fun s q an=>k .undef s q an
  | _,_,_=>.bad
 | .extract t i=>match wF s.env t with
  | some (.bH vs)=>match vs[i]? with
   | some v=>k (.val v) s pO an
   | none=>.bad
  | _=>.bad
 | .call c=>match Nk s.env c.args.toList with
  | some az=>match c.callee with
   | .builtin .len=>match az with
    | [x]=>match a1D X P c.argTypes s.heap x with
     | some (v,i)=>k (.val v) s ⟨i,false,false,true⟩ an
     | none=>.bad
    | _=>.bad
   | .builtin .append=>match az with
    | [d,x]=>match IQ X P c.argTypes s.heap d x with
     | some (v,H,i,ps)=>Uz ps (k (.val v) { s with heap:=H } ⟨i,false,false,true⟩ an)
     | none=>match an with
      | .a .no rest=>match zY X P c.argTypes s.heap d x with
       | some (v,H,i,ps)=>Uz ps (k (.val v) { s with heap:=H } ⟨i,false,false,true⟩ rest)
       | none=>.bad
      | an=>match Ep X P c.argTypes s.heap d x with
       | some (v,H,i,ps)=>Uz ps (k (.val v) { s with heap:=H } ⟨i,false,false,true⟩ an)
       | none=>.bad
    | _=>.bad
   | .builtin .copy=>match az with
    | [d,x]=>match Uo X P c.argTypes s.heap d x with
     | some (v,H,i)=>k (.val v) { s with heap:=H } ⟨i,false,false,true⟩ an
     | none=>.bad
    | _=>.bad
   | .builtin .min=>match CQ X P false c.argTypes o.type az with
    | some v=>k (.val v) s pO an
    | none=>.bad
   | .builtin .max=>match CQ X P true c.argTypes o.type az with
    | some v=>k (.val v) s pO an
    | none=>.bad
   | .value f=>match wF s.env f with
    | some fv=>UD X kX H7 s fv az an k
    | none=>.bad
   | _=>.bad
  | none=>.bad
 | .range t x=>match wF s.env x,P.underlying t with
  | some (.map r),some (.map _ _)=>match Es X s.heap r with
   | some es=>k (.val (.iter s.heap.length)) { s with heap:=s.heap++[.bn r es.length []] } ⟨bY [.h r],false,false,true⟩ an
   | _=>.bad
  | _,_=>.bad
 | .entry x=>match wF s.env x with
  | some (.iter b)=>match s.heap[b]? with
   | some (.bn r n (i::_))=>match Es X s.heap r with
    | some es=>match an with
     | .a (.call (.bH [kk,vv]) _) rest=>.o (es.length=n∧es[i]? = some (kk,vv)) (k (.val (.bH [kk,vv])) s ⟨bY [.h b,.h r],false,false,true⟩ rest)
     | an=>if es.length=n then (match es[i]? with
      | some e=>k (.val (.bH [e.1,e.2])) s ⟨bY [.h b,.h r],false,false,true⟩ an
      | none=>.bad) else .bad
    | _=>.bad
   | _=>.bad
  | _=>.bad
 | _=>.bad
def NC (ops:Array Oper) (s:aW X.Γ) (o:Oper) (an:PT X.Γ) (k:Bool->aW X.Γ->PT X.Γ->OT ρ):OT ρ:=
 match o.guard with
 | none=>k true s an
 | some (j,want)=>match (ops[j]?).bind (·.dst) with
  | some d=>match wE d s.env with
   | some (.val b)=>byB X b an fun t an=>k (t==want) (s.sF (.tmp d) t) an
   | some .undef=>k false s an
   | _=>.bad
  | none=>.bad
def ND (a b:PI):Bool:=
 (a.i.ws.all fun k=>!(b.i.all&&k.Sj)&&!b.i.ts.contains k&&!b.i.ws.contains k&&!(b.wall&&k.Sj)) &&
 (!a.wall||(!b.i.all&&!b.wall&&b.i.ts.all (fun k=>!k.Sj)&&b.i.ws.all (fun k=>!k.Sj)))
def PD (a b:PI):Bool:=ND a b&&ND b a
def IY (nU:List PI):List (Nat×Nat)->Bool
 | []=>true
 | (i,j)::r=>(match nU[i]?,nU[j]? with
  | some a,some b=>PD a b&&(!a.hp||!b.hp||!((nU.drop i).take (j-i)).any (·.mv))
  | _,_=>false)&&IY nU r
def Ku (H7:Rl X.Γ) (site:Nat->Bool) (nt:Nat) (ops:Array Oper):List Oper->aW X.Γ->PT X.Γ->(aW X.Γ->List PI->PT X.Γ->OT ρ)->OT ρ
 | [],s,an,k=>k s [] an
 | o::os,s,an,k=>if !vX nt o then .bad else NC X ops s o an fun w s an=>match w with
  | true=>a1M X P kX H7 site s o an fun v s1 i an=>Ku H7 site nt ops os (s1.put o.dst v) an fun s' is an=>k s' (⟨i.i,i.wall,!qj s.heap s1.heap,i.hp⟩::is) an
  | false=>Ku H7 site nt ops os (s.put o.dst .undef) an fun s' is an=>k s' (pO::is) an
def NG:List (Nat×PE X.Γ)->Nat
 | []=>0
 | (_,.loc k _)::r=>max (k+1) (NG r)
 | _::r=>NG r
def kY (live:List Nat) (s:aW X.Γ):aW X.Γ:=
 let env:=iL live s.env
 { s with env:=env,loc:=s.loc.take (NG X env) }
def IZ (step:aW X.Γ->PT X.Γ->(Ex->aW X.Γ->PT X.Γ->OT ρ)->OT ρ):Nat->aW X.Γ->PT X.Γ->(Ex->aW X.Γ->PT X.Γ->OT ρ)->OT ρ
 | 0,_,_,_=>.bad
 | m+1,s,an,k=>step s an fun e s an=>match e with
  | .norm=>IZ step m s an k
  | e=>k e s an
abbrev PG (Γ:Nat->Type):=Code->aW Γ->Ex->aW Γ->Prop
def pz (lo:PG X.Γ) (B:Nat) (c:Code) (s:aW X.Γ) (k:Ex->aW X.Γ->PT X.Γ->OT ρ):PT X.Γ->OT ρ
 | .a (.loop e s') r=>.o (lo c s e s') (k e s' r)
 | .a (.lg gs e s') r=>match jX B gs s with
  | some s0=>.o (lo c s0 e s') (k e s' r)
  | none=>.bad
 | .z c' a b=>.br c' (pz lo B c s k a) (pz lo B c s k b)
 | _=>.bad
def fP (H7:Rl X.Γ) (lo:PG X.Γ) (B:Nat) (L:Nat) (f:Nat) (eu:Bool) (nt:Nat):Code->aW X.Γ->PT X.Γ->(Ex->aW X.Γ->PT X.Γ->OT ρ)->OT ρ
 | .skip,s,an,k=>k .norm s an
 | .label _,s,an,k=>k .norm s an
 | .region id ops draw,s,an,k=>Ku X P kX H7 (fun d=>eu||T.zL f d) nt ops ops.toList s an fun s' nU an=>
  match draw with
  | false=>k .norm { s' with env:=iL (T.fO f id) s'.env } an
  | true=>match an with
   | .a .calm r=>if nU.all (fun i=>i.i.ws.isEmpty&&!i.wall) then .o (fF ops.toList=true) (k .norm { s' with env:=iL (T.fO f id) s'.env } r) else .bad
   | an=>if fF ops.toList&&IY nU (eH ops.toList) then k .norm { s' with env:=iL (T.fO f id) s'.env } an else .bad
 | .seq a b,s,an,k=>fP H7 lo B L f eu nt a s an fun e s an=>match e with
  | .norm=>fP H7 lo B L f eu nt b s an k
  | e=>k e s an
 | .cond c a b,s,an,k=>match Py s.env c with
  | some u=>byB X u an fun t an=>match t with
   | true=>fP H7 lo B L f eu nt a (s.sF c true) an k
   | false=>fP H7 lo B L f eu nt b (s.sF c false) an k
  | none=>.bad
 | .block id b,s,an,k=>fP H7 lo B L f eu nt b s an fun e s an=>match e with
  | .exit i=>k (if i=id then .norm else .exit i) s an
  | e=>k e s an
 | .scope b,s,an,k=>fP H7 lo B L f eu nt b s an k
 | .loop b,s,an,k=>match an with
  | .l m r=>.o (m<=L) (IZ X (fun s an k=>fP H7 lo B L f eu nt b (kY X (T.dG f (bZ b)) s) an k) m s r k)
  | an=>pz X lo B (.loop b) s k an
 | .exit id,s,an,k=>k (.exit id) s an
 | .ret,s,an,k=>k .ret s an
 | .rangeFunc g ps mG body,s,an,k=>pz X lo B (.rangeFunc g ps mG body) s k an
 | _,_,_,_=>.bad
def a5k (s:aW X.Γ):ResultVar->Option (PV X.Γ)
 | .tmp t=>match wE t s.env with
  | some (.val v)=>some (Px v)
  | _=>none
 | .cell a t=>match wE a s.env with
  | some a=>(qZ X P t s a).map (·.1)
  | none=>none
def Eu (s:aW X.Γ):List ResultVar->Option (List (PV X.Γ))
 | []=>some []
 | r::rs=>match a5k X P s r,Eu s rs with
  | some v,some vs=>some (v::vs)
  | _,_=>none
def UE:List (PV X.Γ)->PV X.Γ
 | [v]=>v
 | vs=>.bH vs
def vw:Nat->List (PV X.Γ)->List (Nat×PE X.Γ)
 | _,[]=>[]
 | k,v::vs=>(k,.val v)::vw (k+1) vs
def PK (H7:Rl X.Γ) (lo:PG X.Γ) (L:Nat) (f:Nat) (args:List (PV X.Γ)) (H:List (PB X.Γ)) (an:PT X.Γ):OT (PV X.Γ×List (PB X.Γ)):=
 match (if (T.exts.contains f||T.Lm.contains f)=true then none else FU P f) with
 | some t=>fP X P T kX H7 lo H.length L f false t.nt t.body ⟨vw X 0 args,[],H⟩ an fun e s an=>match e,an with
  | .exit _,_=>.bad
  | _,.n=>match Eu X P s t.results with
   | some vs=>.ret (UE X vs,s.heap)
   | none=>.bad
  | _,_=>.bad
 | none=>.bad
end
inductive MB where
 | cO (b:Nat)
 | cZ (b:Nat)
 | bK (x:TV)
 | gone
def MB.own:MB->Option Nat
 | .cO b=>some b
 | .bK (.slc b _ len _ _ _)=>if len=0 then none else some b
 | _=>none
def aK (m:List MB):List Nat:=m.filterMap MB.own
def aG {Γ:Nat->Type}:PV Γ->Option Nat
 | .ptr b _ _=>some b
 | .slc b _ _ _ _ _=>some b
 | .own b=>some b
 | .win b _ _=>some b
 | .map b=>some b
 | .iter b=>some b
 | .jk b=>some b
 | .row b _ _=>some b
 | _=>none
def XF {Γ:Nat->Type} (c:Nat):PV Γ->Option TV
 | .ptr _ off lim=>some (.ptr c off lim)
 | .slc _ off len cap sz ex=>some (.slc c off len cap sz ex)
 | .map _=>some (.map c)
 | .iter _=>some (.iter c)
 | .jk _=>some (.jk c)
 | _=>none
inductive tX {Γ:Nat->Type} (v:PV Γ) (x:TV):Option MB->Prop where
 | g:tX v x (some .gone)
 | r (c):XF c v=some x->tX v x (some (.cZ c))
theorem tX.of {Γ:Nat->Type} {v:PV Γ} {x:TV} {o:Option MB} (e:o=some .gone):tX v x o:=by subst e;exact .g
theorem tX.as {Γ:Nat->Type} {v w:PV Γ} {x:TV} {o:Option MB} (h:tX v x o) (e:∀ c,XF c w=XF c v):tX w x o:=by
 cases h with
 | g=>exact .g
 | r c h=>exact .r c ((e c).trans h)
theorem tX.X4 {Γ:Nat->Type} {v:PV Γ} {x:TV} {o:Option MB} {c:Nat} (e:o=some (.cZ c)) (h:XF c v=some x):tX v x o:=by subst e;exact .r c h
section
variable (X:iR) (P:Program)
inductive VR (A:Nat->Prop) (m:List MB) (h:List HB):PV X.Γ->TV->Prop where
 | bool (b):VR A m h (.bool b) (.bool b)
 | lit (b):VR A m h (.lit b) (.bool b)
 | int (k n):VR A m h (.int k n) (.int k n)
 | str (s):VR A m h (.str s) (.str s)
 | nil (k):VR A m h (.nil k) (.nil k)
 | ptr {b c off lim}:m[b]? = some (.cO c)->VR A m h (.ptr b off lim) (.ptr c off lim)
 | slc {b c off len cap sz ex}:m[b]? = some (.cO c)->VR A m h (.slc b off len cap sz ex) (.slc c off len cap sz ex)
 | own {i x}:m[i]? = some (.bK x)->bW x=true->VR A m h (.own i) x
 | win {i o n c off len cap cap' sz ex}:m[i]? = some (.bK (.slc c off len cap sz ex))->o+n<=len->n<=cap'->o+cap'=cap->VR A m h (.win i o n) (.slc c (off+o*sz) n cap' sz ex)
 | ql {i}:m[i]? = some (.bK (.nil .slc))->VR A m h (.win i 0 0) (.nil .slc)
 | map {r c}:m[r]? = some (.cO c)->VR A m h (.map r) (.map c)
 | iter {r c}:m[r]? = some (.cO c)->VR A m h (.iter r) (.iter c)
 | fn {f a a' c c'}:a.length=a'.length->(∀ (i:Nat) x y,a[i]? = some x->a'[i]? = some y->VR A m h x y)->c.length=c'.length->(∀ (i:Nat) x y,c[i]? = some x->c'[i]? = some y->VR A m h x y)->VR A m h (.fn f a c) (.fn f a' c')
 | jk {l c}:m[l]? = some (.cO c)->VR A m h (.jk l) (.jk c)
 | agg {cs cs'}:cs.length=cs'.length->(∀ (i:Nat) x y,cs[i]? = some x->cs'[i]? = some y->VR A m h x y)->VR A m h (.agg cs) (.agg cs')
 | bH {cs cs'}:cs.length=cs'.length->(∀ (i:Nat) x y,cs[i]? = some x->cs'[i]? = some y->VR A m h x y)->VR A m h (.bH cs) (.bH cs')
 | jZ {t fu}:VR A m h (.bK t [] fu) (.nil .slc)
 | bK {t l fu b off cap sz ex cs}:A b->aB h b=some cs->(l≠[]->iw h b (off+cap*sz)=some cs)->aZ P t=some sz->0<sz->off+l.length*sz<=cs.length->l.length<=cap->(fu=true->ex=true∧cap=l.length)->(∀ (j:Nat) a,l[j]? = some a->(X.enc t a).length=sz) ->
   (∀ (j:Nat) a (i:Nat) c v,l[j]? = some a->(X.enc t a)[i]? = some c->cs[off+j*sz+i]? = some v->VR A m h c v)->VR A m h (.bK t l fu) (.slc b off l.length cap sz ex)
 | el {t a off b o sz lim cs}:A b->iw h b lim=some cs->o+sz<=lim->o+sz<=cs.length->(X.enc t a).length=sz->off<=sz ->
   (∀ (i:Nat) c v,(X.enc t a)[i]? = some c->cs[o+i]? = some v->VR A m h c v)->VR A m h (.el t a off) (.ptr b (o+off) lim)
 | row {i j off c len cap sz ex}:m[i]? = some (.bK (.slc c 0 len cap sz ex))->j<len->off<=sz->VR A m h (.row i j off) (.ptr c (j*sz+off) (cap*sz))
 | gone {v i x}:aG v=some i->tX v x m[i]?->bW x=true->VR A m h v x
def aH (A:Nat->Prop) (m:List MB) (h:List HB) (a:List (PV X.Γ)) (b:List TV):Prop:=a.length=b.length∧∀ (i:Nat) x y,a[i]? = some x->b[i]? = some y->VR X P A m h x y
def aX (A:Nat->Prop) (m:List MB) (h:List HB) (t:Nat) (l:List (X.Γ t)) (cs:List TV) (off sz:Nat):Prop:=
 (∀ (j:Nat) a,l[j]? = some a->(X.enc t a).length=sz)∧off+l.length*sz<=cs.length∧∀ (j:Nat) a (i:Nat) c v,l[j]? = some a->(X.enc t a)[i]? = some c->cs[off+j*sz+i]? = some v->VR X P A m h c v
inductive LR (A:Nat->Prop) (m:List MB) (h:List HB) (k ex:Bool) (t:Nat):List (X.Γ t)->TV->Prop where
 | nil:LR A m h k ex t [] (.nil .slc)
 | emp {b off sz cs}:A b->aB h b=some cs->off<=cs.length->aZ P t=some sz->0<sz->LR A m h k ex t [] (.slc b off 0 0 sz true)
 | some {l b sz e kk cs}:l≠[]->aZ P t=some sz->0<sz->h[b]? = some (.cells kk cs)->kk≠.ro->(k=true->kk=.own)->(ex=true->e=true)->cs.length=l.length*sz->aX X P A m h t l cs 0 sz->LR A m h k ex t l (.slc b 0 l.length l.length sz e)
def CU (A:Nat->Prop) (m:List MB) (h:List HB):PE X.Γ->EV->Prop
 | .val v,.val x=>VR X P A m h v x
 | .loc k o,.loc k' o'=>k=k'∧o=o'
 | .undef,.undef=>True
 | _,_=>False
inductive gG (A:Nat->Prop) (m:List MB) (h:List HB):List (Nat×PE X.Γ)->List (Nat×EV)->Prop where
 | nil:gG A m h [] []
 | cons {k v x r r'}:CU X P A m h v x->gG A m h r r'->gG A m h ((k,v)::r) ((k,x)::r')
def BR (A:Nat->Prop) (m:List MB) (h:List HB):PB X.Γ->MB->Prop
 | .cells cs,.cO b=>∃ cs',h[b]? = some (.cells .own cs')∧aH X P A m h cs cs'
 | .fG cs,.cZ b=>b∉aK m∧∃ cs',h[b]? = some (.cells .own cs')∧aH X P A m h cs cs'
 | .list k ex t l,.bK x=>LR X P A m h k ex t l x
 | .map es,.cO b=>∃ fU,h[b]? = some (.map fU)∧es.length=fU.length∧∀ (i:Nat) x y,es[i]? = some x->fU[i]? = some y->tJ x.1=some y.1∧tJ x.2=some y.2
 | .vV es,.cZ b=>b∉aK m∧∃ fU,h[b]? = some (.map fU)∧es.length=fU.length∧∀ (i:Nat) x y,es[i]? = some x->fU[i]? = some y->tJ x.1=some y.1∧tJ x.2=some y.2
 | .rV cs,.cO b=>∃ cs',h[b]? = some (.rV cs')∧QZ cs=some cs'
 | .mark,.cO b=>h[b]? = some .mark
 | .bn r n seen,.cO b=>∃ c,h[b]? = some (.bn c n seen)∧(m[r]?).isSome=true∧∀ c',(m[r]? = some (.cO c')∨m[r]? = some (.cZ c'))->c'=c
 | .loop rd f nt env ps a c gK,.cO b=>∃ env',h[b]? = some (.loop rd f nt env' ps a c gK)∧gG X P A m h env env'
 | .gone,.gone=>True
 | _,_=>False
def AA (A:Nat->Prop) (m:List MB):Nat->Prop:=fun b=>A b∧b∉aK m
structure HR (A:Nat->Prop) (m:List MB) (H:List (PB X.Γ)) (h:List HB):Prop where
 len:m.length=H.length
 at_:∀ (i:Nat) b,H[i]? = some b->∃ mb,m[i]? = some mb∧BR X P (AA A m) m h b mb
 nodup:(aK m).Nodup
 up:∀ b,h.length<=b->A b
 yK:∀ b,b∈aK m->A b
end
structure Fr (m:List MB) (h:List HB) (m':List MB) (h':List HB):Prop where
 len:h.length<=h'.length
 same:∀ b,b<h.length->b∉aK m->h'[b]? = h[b]?
 new:∀ b,b∈aK m'->b∈aK m∨h.length<=b
 grow:∀ b cs,aB h b=some cs->∃ cs',aB h' b=some cs'∧cs.length<=cs'.length
def Up (m m':List MB):Prop:=∀ (i:Nat) mb,m[i]? = some mb->m'[i]? = some mb∨m'[i]? = some .gone
theorem Fr.refl {m:List MB} {h:List HB}:Fr m h m h:=⟨Nat.le_refl _,fun _ _ _=>rfl,fun _ hb=>.inl hb,fun _ cs hc=>⟨cs,hc,Nat.le_refl _⟩⟩
theorem Up.refl {m:List MB}:Up m m:=fun _ _ h=>.inl h
theorem Fr.trans {m m' m'':List MB} {h h' h'':List HB} (a:Fr m h m' h') (b:Fr m' h' m'' h''):Fr m h m'' h'':=by
 refine⟨Nat.le_trans a.len b.len,fun c hc hn=>?_,fun c hc=>?_,fun c cs hc=>?_⟩
 ·rw[b.same c (by have:=a.len;omega) (fun hm=>?_),a.same c hc hn];rcases a.new c hm with h1 | h1
  ·exact hn h1
  omega
 ·rcases b.new c hc with h1 | h1
  ·exact a.new c h1
  have:=a.len;exact .inr (by omega)
 obtain⟨cs',h1,h2⟩:=a.grow c cs hc;obtain⟨a1B,h3,h4⟩:=b.grow c cs' h1;exact⟨a1B,h3,by omega⟩
theorem Up.trans {m m' m'':List MB} (a:Up m m') (b:Up m' m''):Up m m'':=fun i mb hi=>by
 rcases a i mb hi with h | h
 ·exact b i mb h
 ·rcases b i _ h with h | h<;>exact .inr h
theorem bU {h:List HB} {b:Nat} {cs:List TV} (hc:aB h b=some cs):b<h.length:=by
 unfold aB at hc;split at hc
 ·rename_i e;exact (List.getElem?_eq_some_iff.1 e).1
 cases hc
theorem cu {h h':List HB} {b:Nat} (e:h'[b]? = h[b]?):aB h' b=aB h b:=by
 unfold aB;rw[e]
theorem oG {h h':List HB} {b lim:Nat} (e:h'[b]? = h[b]?):iw h' b lim=iw h b lim:=by
 unfold iw;rw[e]
theorem ru {h:List HB} {b lim:Nat} {cs:List TV} (hc:iw h b lim=some cs):aB h b=some cs:=by
 obtain⟨k,h1,_⟩:=nX hc;unfold aB;rw[h1]
theorem Ro {h:List HB} {b lim:Nat} {cs:List TV} (hc:iw h b lim=some cs):b<h.length:=bU (ru hc)
theorem ny {h:List HB} {b lim:Nat} {k:BK} {cs:List TV} (hc:h[b]? = some (.cells k cs)) (hl:lim=cs.length):iw h b lim=some cs:=by
 unfold iw;simp[hc,hl]
theorem Kv {h:List HB} {b off lim:Nat} {cs new:List TV} (hc:h[b]? = some (.cells .own cs)):Ie h b off lim new=(lX cs off new).map fun cs'=>h.set b (.cells .own cs'):=by
 unfold Ie;simp[hc,sK]
theorem J4 {h:List HB} {b off lim:Nat} {k k':BK} {cs new:List TV} (hc:h[b]? = some (.cells k cs)) (hk:sK k true=some k') (hl:lim=cs.length):Ie h b off lim new=(lX cs off new).map fun cs'=>h.set b (.cells k' cs'):=by
 unfold Ie;simp[hc,hl,hk]
theorem Aa {k:BK} (h:k≠.ro):∃ k',sK k true=some k'∧k'≠.ro∧(k=.own->k'=.own):=by
 cases k<;>simp_all [sK]
theorem rE {h:List HB} {b lim:Nat} {k:BK} {cs:List TV} (hc:h[b]? = some (.cells k cs)) (hl:k≠.last):iw h b lim=some cs:=by
 unfold iw;simp[hc,hl]
section
variable {X:iR} {P:Program} {A:Nat->Prop} {m m':List MB} {h h':List HB}
theorem VR.step (hF:Fr m h m' h') (hU:Up m m') {v:PV X.Γ} {x:TV} (hv:VR X P (AA A m) m h v x):VR X P (AA A m') m' h' v x:=by
 have hA:∀ b cs,AA A m b->aB h b=some cs->AA A m' b∧h'[b]? = h[b]?:=by
  intro b cs ha hc;have aN:=bU hc;refine⟨⟨ha.1,fun hm=>?_⟩,hF.same b aN ha.2⟩;rcases hF.new b hm with h1 | h1
  ·exact ha.2 h1
  omega
 induction hv with
 | bool=>exact .bool _
 | lit=>exact .lit _
 | int=>exact .int _ _
 | str=>exact .str _
 | nil=>exact .nil _
 | ptr e=>rcases hU _ _ e with e | e;exact .ptr e;exact .gone rfl (.of e) rfl
 | slc e=>rcases hU _ _ e with e | e;exact .slc e;exact .gone rfl (.of e) rfl
 | own e o=>rcases hU _ _ e with e | e;exact .own e o;exact .gone rfl (.of e) o
 | win e q q' q2=>rcases hU _ _ e with e | e;exact .win e q q' q2;exact .gone rfl (.of e) rfl
 | ql e=>rcases hU _ _ e with e | e;exact .ql e;exact .gone rfl (.of e) rfl
 | map e=>rcases hU _ _ e with e | e;exact .map e;exact .gone rfl (.of e) rfl
 | iter e=>rcases hU _ _ e with e | e;exact .iter e;exact .gone rfl (.of e) rfl
 | fn h1 _ h3 _ i2 i4=>exact .fn h1 i2 h3 i4
 | jk e=>rcases hU _ _ e with e | e;exact .jk e;exact .gone rfl (.of e) rfl
 | agg h1 _ i2=>exact .agg h1 i2
 | bH h1 _ i2=>exact .bH h1 i2
 | jZ=>exact .jZ
 | bK a c c2 s z o k f e _ ih=>obtain⟨a',c'⟩:=hA _ _ a c;exact .bK a' ((cu c').trans c) (fun hl=>(oG c').trans (c2 hl)) s z o k f e ih
 | el a c l o e q _ ih=>obtain⟨a',c'⟩:=hA _ _ a (ru c);exact .el a' ((oG c').trans c) l o e q ih
 | row e j q=>rcases hU _ _ e with e | e;exact .row e j q;exact .gone rfl (.of e) rfl
 | @gone v i0 x i e o=>
  generalize hq:m[i0]? = q at e;cases e with
  | g=>rcases hU _ _ hq with e | e<;>exact .gone i (.of e) o
  | r c hv=>rcases hU _ _ hq with e | e;exact .gone i (.X4 e hv) o;exact .gone i (.of e) o
theorem aH.step (hF:Fr m h m' h') (hU:Up m m') {v:List (PV X.Γ)} {x:List TV} (hv:aH X P (AA A m) m h v x):aH X P (AA A m') m' h' v x:=
 ⟨hv.1,fun i a b ha hb=>(hv.2 i a b ha hb).step hF hU⟩
theorem aX.step (hF:Fr m h m' h') (hU:Up m m') {t:Nat} {l:List (X.Γ t)} {cs:List TV} {off sz:Nat} (hv:aX X P (AA A m) m h t l cs off sz):aX X P (AA A m') m' h' t l cs off sz:=
 ⟨hv.1,hv.2.1,fun j a i c v h1 h2 h3=>(hv.2.2 j a i c v h1 h2 h3).step hF hU⟩
theorem CU.step (hF:Fr m h m' h') (hU:Up m m') {v:PE X.Γ} {x:EV} (hv:CU X P (AA A m) m h v x):CU X P (AA A m') m' h' v x:=by
 cases v<;>cases x<;>first | exact VR.step hF hU hv | exact hv
theorem gG.step (hF:Fr m h m' h') (hU:Up m m') {v:List (Nat×PE X.Γ)} {x:List (Nat×EV)} (hv:gG X P (AA A m) m h v x):gG X P (AA A m') m' h' v x:=by
 induction hv with
 | nil=>exact .nil
 | cons h1 _ ih=>exact .cons (h1.step hF hU) ih
theorem BR.step (hF:Fr m h m' h') (hU:Up m m') {b:PB X.Γ} {mb:MB} (hs:∀ c,mb.own=some c->h'[c]? = h[c]?) (hb:BR X P (AA A m) m h b mb):BR X P (AA A m') m' h' b mb:=by
 cases b with
 | cells cs=>
  cases mb with
  | cO b=>obtain⟨cs',h1,h2⟩:=hb;exact⟨cs',by rw[hs b rfl,h1],h2.step hF hU⟩
  | _=>exact hb.elim
 | fG cs=>
  cases mb with
  | cZ b=>
   obtain⟨h0,cs',h1,h2⟩:=hb;have aN:=(List.getElem?_eq_some_iff.1 h1).1;refine⟨fun hm=>?_,cs',by rw[hF.same _ aN h0,h1],h2.step hF hU⟩;rcases hF.new _ hm with g | g
   ·exact h0 g
   omega
  | _=>exact hb.elim
 | list k ex t l=>
  cases mb with
  | bK x=>
   cases (hb:LR X P (AA A m) m h k ex t l x) with
   | nil=>exact LR.nil
   | emp h0 h1 h2 h3 h4=>
    have aN:=bU h1;refine LR.emp ⟨h0.1,fun hm=>?_⟩ (by rw[cu (hF.same _ aN h0.2),h1]) h2 h3 h4;rcases hF.new _ hm with g | g
    ·exact h0.2 g
    omega
   | some h1 h2 h3 h4 h5 h6 h7 h8 h9=>
    have ho:=hs _ (by simp only[MB.own];rw[if_neg (by simpa using h1)]);exact LR.some h1 h2 h3 (by rw[ho,h4]) h5 h6 h7 h8 (h9.step hF hU)
  | _=>exact hb.elim
 | map es=>
  cases mb with
  | cO b=>obtain⟨fU,h1,h2,h3⟩:=hb;exact⟨fU,by rw[hs b rfl,h1],h2,h3⟩
  | _=>exact hb.elim
 | rV cs=>
  cases mb with
  | cO b=>obtain⟨fU,h1,h2⟩:=hb;exact⟨fU,by rw[hs b rfl,h1],h2⟩
  | _=>exact hb.elim
 | vV es=>
  cases mb with
  | cZ b=>
   obtain⟨h0,fU,h1,h2⟩:=hb;have aN:=(List.getElem?_eq_some_iff.1 h1).1;refine⟨fun hm=>?_,fU,by rw[hF.same _ aN h0,h1],h2⟩;rcases hF.new _ hm with g | g
   ·exact h0 g
   omega
  | _=>exact hb.elim
 | bn r n seen=>
  cases mb with
  | cO b=>
   obtain⟨c,h1,h2,h3⟩:=hb;obtain⟨mb,h4⟩:=Option.isSome_iff_exists.1 h2;refine⟨c,by rw[hs b rfl,h1],by rcases hU _ _ h4 with e | e<;>rw[e]<;>rfl,fun c' hc=>h3 c' ?_⟩;rcases hU _ _ h4 with e | e
   ·rw[h4,<-e];exact hc
   rw[e] at hc;simp at hc
  | _=>exact hb.elim
 | mark=>
  cases mb with
  | cO b=>show h'[b]? = _;rw[hs b rfl];exact hb
  | _=>exact hb.elim
 | loop rd f nt env ps a c gK=>
  cases mb with
  | cO b=>obtain⟨e',h1,h2⟩:=hb;exact⟨e',by rw[hs b rfl,h1],h2.step hF hU⟩
  | _=>exact hb.elim
 | gone=>
  cases mb with
  | gone=>trivial
  | _=>exact hb.elim
theorem aC {i:Nat} {mb:MB} {b:Nat} (hi:m[i]? = some mb) (ho:mb.own=some b):b∈aK m:=
 List.mem_filterMap.2 ⟨mb,List.mem_of_getElem? hi,ho⟩
theorem dI (hn:(aK m).Nodup):∀ {i j:Nat} {a b:MB} {c:Nat},m[i]? = some a->m[j]? = some b->a.own=some c->b.own=some c->i=j:=by
 unfold aK at hn
 induction m with
 | nil=>intro i j a b c h;simp at h
 | cons x r ih=>
  intro i j a b c hi hj ha hb;have hr:(r.filterMap MB.own).Nodup:=by
   simp only[List.filterMap_cons] at hn;split at hn
   ·exact hn
   exact (List.nodup_cons.1 hn).2
  have hx:∀ {k:Nat} {y:MB},r[k]? = some y->y.own=some c->x.own=some c->False:=by
   intro k y hk hy hxc;simp only[List.filterMap_cons,hxc] at hn;exact (List.nodup_cons.1 hn).1 (List.mem_filterMap.2 ⟨y,List.mem_of_getElem? hk,hy⟩)
  cases i with
  | zero=>
   cases j with
   | zero=>rfl
   | succ j=>
    simp only[List.getElem?_cons_zero,Option.some.injEq] at hi;subst hi;exact (hx (by simpa using hj) hb ha).elim
  | succ i=>
   cases j with
   | zero=>
    simp only[List.getElem?_cons_zero,Option.some.injEq] at hj;subst hj;exact (hx (by simpa using hi) ha hb).elim
   | succ j=>
    have:=ih hr (i:=i) (j:=j) (by simpa using hi) (by simpa using hj) ha hb;omega
end
end Pv
