/- Part 2 of a proof: ApplyLooks -/
import Derived.Scope
import Derived.Maps.RangeRun
import Derived.Deep.Slices
import Derived.ChangeArms
import Derived.OpenShut
import Derived.Carry
import Derived.Laws.StructEq
import Derived.Test.YtmobpoiejckagaaGreatP00
set_option linter.unusedVariables false
set_option linter.unusedSimpArgs false
set_option linter.unusedSectionVars false
noncomputable section
namespace Tw
open Go
structure iO(P:LI1)(call:aY)(site:Nat->Bool)(nt:Nat)(ops:Array Oper)(M0:Mp)(h0:List HB)(w0:LI4)(S:Nat->St)(I:Nat->lN):Prop where
 base:vZ M0 h0 w0
 step:∀j o,ops[j]? = some o->um P call site h0.length nt ops o (S j) (I j) (S (j+1))
 ok:∀j,j<=ops.size->∃M a w,Rel M0 h0 w0 nt M (S j) a w
 fac:∀j o,ops[j]? = some o->∃M w M' w' v,S (j+1)=St.put { S (j+1)with env:=(S j).env } o.dst v∧Ext M (S j).get w M' (S (j+1)).get w' (I j).ws
 stat:nH ops.toList=true
 calm:∀x y a b,(x,y)∈nZ ops.toList->ops[x]? = some a->ops[y]? = some b->AZ a b=true∨((∀k∈(I x).ws,¬o9 (I y) k)∧(∀k∈(I y).ws,¬o9 (I x) k))
theorem NH{P:LI1}{call:aY}{site:Nat->Bool}{fl nt:Nat}{ops:Array Oper}:∀(os:List Oper) (s s':St) (is:List lN),kW P call site fl nt ops os s=some (s',is) ->
  ∃(S:Nat->St) (I:Nat->lN),S 0=s∧S os.length=s'∧(∀j o,os[j]? = some o->um P call site fl nt ops o (S j) (I j) (S (j+1)))∧∀j,j<os.length->is[j]? = some (I j)
 | [],s,s',is,h=>by simp only[kW,a00,a0i]at h;obtain⟨rfl,rfl⟩:=h;exact⟨fun _=>s,fun _=>bY,rfl,rfl,by simp,by simp⟩
 |o::os,s,s',is,h=>by
  obtain⟨i,s1,is',hS,hr,rfl⟩:=Cj h;obtain⟨S,I,e1,e2,e3,e4⟩:=NH os s1 s' is' hr;refine⟨fun j=>match j with| 0=>s|j+1=>S j,fun j=>match j with| 0=>i|j+1=>I j,rfl,e2,?_,?_⟩
  .intro j o' ho;cases j with
   |zero=>simp at ho;subst ho;simp only[e1];exact hS
   |succ j=>exact e3 j o' (by simpa using ho)
  .intro j hj;cases j with
   |zero=>rfl
   |succ j=>simpa using e4 j (by simpa using hj)
theorem a4V{P:LI1}{call:aY}{site:Nat->Bool}{nt:Nat}{ops:Array Oper}{M0:Mp}{h0:List HB}{w0:LI4}(hC:iC P call)(hB:vZ M0 h0 w0){s s':St}{is:List lN}{M:Mp}{a:Act}{w:LI4}
  (h:kW P call site h0.length nt ops ops.toList s=some (s',is)) (hR:Rel M0 h0 w0 nt M s a w) (hs:nH ops.toList=true) (hd:Ba is (mG ops.toList)=true) :
  ∃S I,S 0=s∧S ops.size=s'∧iO P call site nt ops M0 h0 w0 S I:=by
 obtain⟨S,I,e1,e2,e3,e4⟩:=NH _ _ _ _ h;have e3':∀j o,ops[j]? = some o->um P call site h0.length nt ops o (S j) (I j) (S (j+1)):=fun j o ho=>e3 j o (by simpa using ho);have QB:∀j,j<=ops.size->∃M a w,Rel M0 h0 w0 nt M (S j) a w:=by
  intro j
  induction j with
  |zero=>intro _;exact⟨M,a,w,by rw[e1];exact hR⟩
  |succ j ih=>
   intro hj;obtain⟨M1,a1,w1,wZ⟩:=ih (by omega);have ho:ops[j]? = some ops[j]:=a3Q (by omega);obtain⟨x,w',uN⟩:=(Gp hC wZ (e3' j _ ho)).1;obtain⟨M',Fa⟩:=NC hB wZ (e3' j _ ho) uN;exact⟨M',_,w',Fa⟩
 refine⟨S,I,e1,by simpa using e2,hB,e3',QB,?_,hs,?_⟩
 .intro j o ho;have hj:j<ops.size:=(a2h.1 ho).1;obtain⟨M1,a1,w1,wZ⟩:=QB j (by omega);obtain⟨x,w',v,M',he,hp⟩:=(Gp hC wZ (e3' j _ ho)).1;exact⟨M1,w1,M',w',v,he,hp.ext⟩
 .intro x y a b hp ha hb;have hx:x<ops.size:=(a2h.1 ha).1;have hy:y<ops.size:=(a2h.1 hb).1;exact a2n hd hp (by simpa using ha) (by simpa using hb) (e4 x (by simpa using hx)) (e4 y (by simpa using hy)) (e3' x a ha) (e3' y b hb)
def oh(M:Mp)(C:Ct):Mp:=fun k=>if(C k).isSome=true then M k else none
theorem dO{M:Mp}{C:Ct}{k:Key}{l:Lc}(h:oh M C k=some l):(C k).isSome=true∧M k=some l:=by
 unfold oh at h;split at h
 .rename_i h1;exact⟨h1,h⟩
 cases h
theorem qL{M:Mp}{C:Ct}{k:Key}{l:Lc}(hc:(C k).isSome=true)(h:M k=some l):oh M C k=some l:=by simp[oh,hc,h]
theorem yU{M M':Mp}{C C':Ct}(hm:rX M M')(hc:∀k,(C k).isSome=true->(C' k).isSome=true):rX (oh M C) (oh M' C'):=by intro k l h;obtain⟨h1,h2⟩:=dO h;obtain⟨l',h3,h4⟩:=hm k l h2;exact⟨l',qL (hc k h1) h3,h4⟩
theorem a0n{M:Mp}{C:Ct}:rX (oh M C) M:=fun k l h=>⟨l,(dO h).2,.refl l⟩
def Good(W D:Nat->Prop)(τ:Nat):Prop:=(∀j,D j->W j->j<τ)∧(∀j,j<τ->W j->D j)∧(τ=0∨W (τ-1))
def a4W(D:Nat->Prop)(i j:Nat):Prop:=(j<i∧¬D j)∨(i<j∧D j)
theorem Good.le{W D:Nat->Prop}{τ i:Nat}(h:Good W D τ)(hi:¬D i)(hn:∀j,W j->¬a4W D i j):τ<=i∧∀j,τ<=j->j<i->¬W j:=by
 obtain⟨h1,h2,h3⟩:=h;constructor
 .refine acH fun aT=>?_;rcases h3 with rfl|h3
  .omega
  have hd:=h2 (τ-1) (by omega) h3;have iq:τ-1≠i:=fun e=>hi (e▸hd);exact hn _ h3 (.inr ⟨by omega,hd⟩)
 intro j hj hji hw;exact hn j hw (.inl ⟨hji,fun hd=>by have:=h1 j hd hw;omega⟩)
theorem Good.next{W D:Nat->Prop}{i:Nat}(hw:W i)(hn:∀j,W j->¬a4W D i j):Good W (fun j=>D j∨j=i) (i+1):=by
 refine⟨fun j hd hj=>?_,fun j hj Yf=>?_,.inr (by simpa using hw)⟩
 .rcases hd with hd|rfl
  .refine Nat.lt_of_not_le fun h=>hn j hj (.inr ⟨by omega,hd⟩)
  omega
 by_cases he:j=i
 .exact .inr he
 refine .inl (abN fun hd=>hn j Yf (.inl ⟨by omega,hd⟩))
theorem Good.other{W D:Nat->Prop}{τ i:Nat}(h:Good W D τ)(hw:¬W i):Good W (fun j=>D j∨j=i) τ:=
 ⟨fun j hd hj=>hd.elim (fun h1=>h.1 j h1 hj) (fun e=>absurd (e▸hj) hw),fun j hj Yf=>.inl (h.2.1 j hj Yf),h.2.2⟩
section
variable {P:LI1} {call:aY} {site:Nat->Bool} {nt:Nat} {ops:Array Oper} {M0:Mp} {h0:List HB} {w0:LI4} {S:Nat->St} {I:Nat->lN}
def Wk(ops:Array Oper)(S:Nat->St)(I:Nat->lN)(k:Key)(j:Nat):Prop:=∃o,ops[j]? = some o∧(k∈(I j).ws∨((S j).get k=none∧((S (j+1)).get k).isSome=true))
def Wt(ops:Array Oper)(t j:Nat):Prop:=∃o,ops[j]? = some o∧o.dst=some t
theorem iO.has(hZ:iO P call site nt ops M0 h0 w0 S I){j:Nat}{o:Oper}(ho:ops[j]? = some o){k:Key}(hk:((S j).get k).isSome=true):((S (j+1)).get k).isSome=true:=by obtain⟨M,w,M',w',v,he,hx⟩:=hZ.fac j o ho;exact hx.has k hk
theorem iO.wsub(hZ:iO P call site nt ops M0 h0 w0 S I){j:Nat}{o:Oper}(ho:ops[j]? = some o){k:Key}(hk:k∈(I j).ws):((S j).get k).isSome=true:=by obtain⟨M,w,M',w',v,he,hx⟩:=hZ.fac j o ho;exact hx.wsub k hk
theorem iO.nD(hZ:iO P call site nt ops M0 h0 w0 S I){j:Nat}{o:Oper}(ho:ops[j]? = some o){k:Key}(hn:¬Wk ops S I k j):(S (j+1)).get k=(S j).get k:=by
 obtain⟨M,w,M',w',v,he,hx⟩:=hZ.fac j o ho;cases hk:(S j).get k with
 |some b=>
  rw[hx.nD k (by simp[hk]) (fun h=>hn ⟨o,ho,.inl h⟩),hk]
 |none=>
  cases o8:(S (j+1)).get k with
  |none=>rfl
  |some b=>exact absurd ⟨o,ho,.inr ⟨hk,by simp[o8]⟩⟩ hn
theorem iO.mono(hZ:iO P call site nt ops M0 h0 w0 S I){k:Key}:∀{i j:Nat},i<=j->j<=ops.size->((S i).get k).isSome=true->((S j).get k).isSome=true:=by
 intro i j zW
 induction zW with
 |refl=>exact fun _ h=>h
 |step hle ih=>
  rename_i j;intro hj h;exact hZ.has (o:=ops[j]'(by simp at hj;omega)) (a3Q _) (ih (by simp at hj;omega) h)
theorem iO.const(hZ:iO P call site nt ops M0 h0 w0 S I){k:Key}:∀{i j:Nat},i<=j->j<=ops.size->(∀x,i<=x->x<j->¬Wk ops S I k x)->(S j).get k=(S i).get k:=by
 intro i j zW
 induction zW with
 |refl=>exact fun _ _=>rfl
 |step hle ih=>
  rename_i j;intro hj h;simp only[agP]at *;rw[hZ.nD (o:=ops[j]'(by omega)) (a3Q _) (h j hle (by omega))];exact ih (by omega) fun x h1 h2=>h x h1 (by omega)
theorem iO.a98(hZ:iO P call site nt ops M0 h0 w0 S I){j:Nat}{o:Oper}(ho:ops[j]? = some o){t:Nat}(hn:¬Wt ops t j):dL t (S (j+1)).env=dL t (S j).env:=by obtain⟨M,w,M',w',v,he,hx⟩:=hZ.fac j o ho;rw[he,yR,a0c (fun h=>hn ⟨o,ho,h⟩)]
theorem iO.YF(hZ:iO P call site nt ops M0 h0 w0 S I){t:Nat}:∀{i j:Nat},i<=j->j<=ops.size->(∀x,i<=x->x<j->¬Wt ops t x)->dL t (S j).env=dL t (S i).env:=by
 intro i j zW
 induction zW with
 |refl=>exact fun _ _=>rfl
 |step hle ih=>
  rename_i j;intro hj h;simp only[agP]at *;rw[hZ.a98 (o:=ops[j]'(by omega)) (a3Q _) (h j hle (by omega))];exact ih (by omega) fun x h1 h2=>h x h1 (by omega)
theorem iO.YG(hZ:iO P call site nt ops M0 h0 w0 S I){b:Nat}:∀{i j:Nat},i<=j->j<=ops.size->b∈(S i).ws->b∈(S j).ws:=by
 intro i j zW
 induction zW with
 |refl=>exact fun _ h=>h
 |step hle ih=>
  rename_i j;intro hj h;simp only[agP]at *;rw[(hZ.step j (ops[j]'(by omega)) (a3Q _)).a0m];exact og.2 (.inl (ih (by omega) h))
theorem iO.abD(hZ:iO P call site nt ops M0 h0 w0 S I){j:Nat}{o:Oper}(ho:ops[j]? = some o){k:Key}(hk:k∈(I j).ws)(h0k:(kQ h0 k).isSome=true):k∈(S ops.size).ws.map .h:=by obtain⟨b,rfl,hb⟩:=Ci h0k;have hj:j<ops.size:=(a2h.1 ho).1;refine a1g.2 ⟨b,hZ.YG (i:=j+1) (by omega) (a0U _) ?_,rfl⟩;rw[(hZ.step j o ho).a0m];exact og.2 (.inr ⟨hk,hb⟩)
theorem iO.old(hZ:iO P call site nt ops M0 h0 w0 S I){j:Nat}(hj:j<=ops.size){k:Key}(h0k:(kQ h0 k).isSome=true):((S j).get k).isSome=true:=by obtain⟨M,a,w,hR⟩:=hZ.ok j hj;exact hR.ext.has k h0k
theorem iO.mark(hZ:iO P call site nt ops M0 h0 w0 S I){k:Key}(hk:(S 0).get k=some .mark):∀j,j<=ops.size->(S j).get k=some .mark:=by
 intro j
 induction j with
 |zero=>exact fun _=>hk
 |succ j ih=>
  intro hj;obtain⟨M,w,M',w',v,he,hx⟩:=hZ.fac j ops[j] (a3Q (by omega));have h1:=ih (by omega);rw[hx.nD k (by simp[h1]) (fun Ey=>by have:=(hx.wrote k Ey).2 _ h1;cases this),h1]
structure Inv(nt:Nat)(ops:Array Oper)(M0:Mp)(h0:List HB)(w0:LI4)(S:Nat->St)(I:Nat->lN)(D:Nat->Prop)(M:Mp)(a:Act)(w:LI4):Prop where
 closed:∀j o,ops[j]? = some o->D j->uo D o
 size:nt<=a.tmps.size
 mem:∀k l,M k=some l->∃τ,τ<=ops.size∧Good (Wk ops S I k) D τ∧∃b,(S τ).get k=some b∧pz (oh M (S τ).get).h w b l ∧
  (wr b=true->∀k' l',k≠k'->M k'=some l'->∀c∈aI l,c∉aI l')
 inb:∀k l,M k=some l->∀c∈aI l,c<w.heap.size
 slot:∀t,∃τ,τ<=ops.size∧Good (Wt ops t) D τ∧∀e,dL t (S τ).env=some e->ER (oh M (S τ).get) e (a.tmps.getD t Go.undef)
 QY:∀j o k,ops[j]? = some o->D j->k∈(I j).ws->(M k).isSome=true
 Io:rX M0 M
 frame:∀c,c<w0.heap.size->(∀k∈(S ops.size).ws.map Key.h,∀l,M0 k=some l->c∉aI l)->w.heap[c]? = w0.heap[c]?
 kX:∀k,((kQ h0 k).isSome=true∨(S ops.size).get k=none)->k∉(S ops.size).ws.map Key.h->M k=M0 k
 fresh:∀k l,M k=some l->∀c∈aI l,c<w0.heap.size->∃l0,M0 k=some l0∧c∈aI l0
 Es:w0.heap.size<=w.heap.size
 os:w.os=w0.os
 output:w.output=w0.output
 tape:w.tape=w0.tape
 marks:∀d∈a.defers,∃k r,d=⟨.collected r,#[]⟩∧kQ h0 (.h k)=none∧(∃o,M (.h k)=some (.obj r o))∧(∀j,j<=ops.size->(S j).get (.h k)=some .mark)∧w.heap[r]? = some (.deferred (some []))
 apart:a.defers.Pairwise (·≠·)
theorem a2o(hZ:iO P call site nt ops M0 h0 w0 S I){M:Mp}{a:Act}{w:LI4}(hR:Rel M0 h0 w0 nt M (S 0) a w):Inv nt ops M0 h0 w0 S I (fun _=>False) M a w where
 closed:=fun _ _ _ h=>h.elim
 size:=hR.size
 mem:=fun k l hk=>by obtain⟨b,h1,h2⟩:=hR.val.ok k l hk trivial;have hm:rX M (oh M (S 0).get):=fun k l h=>⟨l,qL (hR.val.has h) h,.refl l⟩;exact⟨0,by omega,⟨fun _ h=>h.elim,fun _ h=>by omega,.inl rfl⟩,b,h1,h2.mono hm.h fun _ _=>rfl,fun hw k' l' iq o8=>hR.val.own k k' l l' b iq hk o8 trivial h1 hw⟩
 inb:=hR.val.inb
 slot:=fun t=>⟨0,by omega,⟨fun _ h=>h.elim,fun _ h=>by omega,.inl rfl⟩,fun e he=>by have hm:rX M (oh M (S 0).get):=fun k l h=>⟨l,qL (hR.val.has h) h,.refl l⟩;exact(hR.env t e he).mono hm fun k l h=>qL (hR.val.has h) h⟩
 QY:=fun _ _ _ _ h=>h.elim
 Io:=hR.ext.Io
 frame:=fun c hc hf=>hR.ext.frame c hc fun k hk l hl=>by obtain⟨b,hb,rfl⟩:=a1g.1 hk;exact hf _ (a1g.2 ⟨b,hZ.YG (a4E _) (a0U _) hb,rfl⟩) l hl
 kX:=fun k hk hn=>by
  refine hR.ext.kX k (hk.imp id fun h=>?_) (fun h=>hn ?_)
  .cases hc:(S 0).get k with
   |none=>rfl
   |some b=>have:=hZ.mono (k:=k) (a4E _) (a0U _) (by simp[hc]);simp[h]at this
  .obtain⟨b,hb,rfl⟩:=a1g.1 h;exact a1g.2 ⟨b,hZ.YG (a4E _) (a0U _) hb,rfl⟩
 fresh:=hR.ext.fresh
 Es:=hR.ext.size
 os:=hR.ext.os
 output:=hR.ext.output
 tape:=hR.ext.tape
 marks:=fun d hd=>by obtain⟨k,r,h1,h2,h3,h4,h5⟩:=hR.marks d hd;exact⟨k,r,h1,h2,h3,hZ.mark h4,h5⟩
 apart:=hR.apart
theorem Wk.lt{k:Key}{j:Nat}(h:Wk ops S I k j):j<ops.size:=by obtain⟨o,ho,_⟩:=h;exact(a2h.1 ho).1
theorem a0o(hZ:iO P call site nt ops M0 h0 w0 S I){D:Nat->Prop}{M:Mp}{a:Act}{w:LI4}(h:Inv nt ops M0 h0 w0 S I D M a w)(hD:∀j,j<ops.size->D j):Rel M0 h0 w0 nt M (S ops.size) a w:=by
 have key:∀k l,M k=some l->∃b,(S ops.size).get k=some b∧pz M.h w b l∧(wr b=true->∀k' l',k≠k'->M k'=some l'->∀c∈aI l,c∉aI l'):=by intro k l hk;obtain⟨τ,ht,hg,b,h1,h2,h3⟩:=h.mem k l hk;refine⟨b,?_,h2.mono a0n.h fun _ _=>rfl,h3⟩;rw[hZ.const ht (a0U _) fun x h4 h5 hw=>?_,h1];have:=hg.1 x (hD x h5) hw;omega
 refine⟨⟨?_,?_,h.inb⟩,?_,?_,h.size,fun d hd=>by obtain⟨k,r,h1,h2,h3,h4,h5⟩:=h.marks d hd;exact⟨k,r,h1,h2,h3,h4 _ (a0U _),h5⟩,h.apart⟩
 .intro k l hk _;obtain⟨b,h1,h2,_⟩:=key k l hk;exact⟨b,h1,h2⟩
 .intro k k' l l' b iq hk o8 _ hb hw;obtain⟨b',h1,_,h3⟩:=key k l hk;rw[hb]at h1;cases h1;exact h3 hw k' l' iq o8
 .obtain⟨M',a',w',Fa⟩:=hZ.ok ops.size (a0U _);exact⟨h.Io,h.frame,Fa.ext.nD,h.kX,h.fresh,h.Es,Fa.ext.has,Fa.ext.wsub,Fa.ext.wrote,h.os,h.output,h.tape⟩
 intro t e he;obtain⟨τ,ht,hg,h1⟩:=h.slot t;rw[hZ.YF ht (a0U _) fun x h4 h5 hw=>by have:=hg.1 x (hD x h5) hw;omega]at he;exact(h1 e he).mono a0n fun k l hk=>(dO hk).2
theorem IK{a b:Oper}(h:AZ a b=true):∃t m k,a.op=.lookup t (.tmp m) (.tmp k) false∧b.op=.mapEntry t (.tmp m) (.tmp k)∧a.guard=none∧b.guard=none:=by
 unfold AZ at h;split at h
 .rename_i h1 h2 h3 h4;simp only[a2f,a7r]at h;obtain⟨⟨rfl,rfl⟩,rfl⟩:=h;exact⟨_,_,_,h1,h2,h3,h4⟩
 cases h
theorem a99(hZ:iO P call site nt ops M0 h0 w0 S I){x:Nat}{a b:Oper}(ha:ops[x]? = some a)(h:AZ a b=true):(I x).ws=[]:=by obtain⟨t,m,k,e,_⟩:=IK h;exact(hZ.step x a ha).w (by rw[e];rfl)
theorem Inv.conf(hZ:iO P call site nt ops M0 h0 w0 S I){D:Nat->Prop}{M:Mp}{a:Act}{w:LI4}(h:Inv nt ops M0 h0 w0 S I D M a w){i j:Nat}{oi oj:Oper}(hi:ops[i]? = some oi)(hj:ops[j]? = some oj)
  (jy:¬D i) (hw:uo D oi) (hc:a4W D i j):((i<j∧AZ oi oj=true)∨∀k∈(I j).ws,¬o9 (I i) k)∧oj.apart ops oi=true∧oi.apart ops oj=true:=by
 have pF:∀j o,ops.toList[j]? = some o->D j->uo D o:=fun j o ho=>h.closed j o (by simpa using ho);have wY:ops.toList[i]? = some oi:=by simpa using hi
 have Eu:ops.toList[j]? = some oj:=by simpa using hj
 have li:i<ops.toList.length:=(a01.1 wY).1;have lj:j<ops.toList.length:=(a01.1 Eu).1;rcases hc with⟨aT,hd⟩|⟨aT,hd⟩
 .have hp:=yC aT li fun Ey=>hd (TW pF i oi wY hw j Ey);have h1:=hZ.calm j i oj oi hp hj hi;have h2:=zX hZ.stat hp Eu wY;refine⟨.inr ?_,h2.1,h2.2⟩;rcases h1 with h1|h1
  .rw[a99 hZ hj h1];intro k hk;cases hk
  .exact h1.1
 .have hp:=yC aT lj fun Ey=>jy (TW pF j oj Eu (pF j oj Eu hd) i Ey);have h1:=hZ.calm i j oi oj hp hi hj;have h2:=zX hZ.stat hp wY Eu;exact⟨h1.imp (fun h=>⟨aT,h⟩) fun h=>h.2,h2.2,h2.1⟩
end
section
variable {P:LI1} {call:aY} {site:Nat->Bool} {nt:Nat} {ops:Array Oper} {M0:Mp} {h0:List HB} {w0:LI4} {S:Nat->St} {I:Nat->lN}
variable {D:Nat->Prop} {M:Mp} {a:Act} {w:LI4} {i:Nat} {oi:Oper}
theorem Inv.zY(hZ:iO P call site nt ops M0 h0 w0 S I)(h:Inv nt ops M0 h0 w0 S I D M a w){j:Nat}{o:Oper}(hj:ops[j]? = some o)(hd:¬D j){k:Key}(h1:(S j).get k=none)(h2:((S (j+1)).get k).isSome=true):M k=none:=by
 cases hm:M k with
 |none=>rfl
 |some l=>
  obtain⟨τ,ht,hg,b,h3,_⟩:=h.mem k l hm;have hlj:j<ops.size:=(a2h.1 hj).1;by_cases hle:τ<=j
  .have:=hZ.mono hle (by omega) (k:=k) (by simp[h3]);simp[h1]at this
  exact absurd (hg.2.1 j (by omega) ⟨o,hj,.inr ⟨h1,h2⟩⟩) hd
theorem Inv.a4X(hZ:iO P call site nt ops M0 h0 w0 S I)(h:Inv nt ops M0 h0 w0 S I D M a w)(hi:ops[i]? = some oi)(jy:¬D i)(hw:uo D oi)(hns:∀o,AZ oi o=false){k:Key}{l:Lc}(hk:M k=some l)
  (hs:((S i).get k).isSome=true) (ht:o9 (I i) k):∀j,Wk ops S I k j->¬a4W D i j:=by
 intro j hwk hc;have hlj:=hwk.lt;obtain⟨oj,hj,h1|⟨h1,h2⟩⟩:=hwk
 .exact(h.conf hZ hi hj jy hw hc).1.resolve_left (fun h=>by have:=hns oj;rw[h.2]at this;cases this) k h1 ht
 .rcases hc with⟨aT,hd⟩|⟨aT,hd⟩
  .have:=h.zY hZ hj hd h1 h2;rw[hk]at this;cases this
  .have:=hZ.mono (k:=k) (aaG aT) (by omega) hs;simp[h1]at this
theorem Inv.cur(hZ:iO P call site nt ops M0 h0 w0 S I)(h:Inv nt ops M0 h0 w0 S I D M a w)(hi:ops[i]? = some oi)(jy:¬D i)(hw:uo D oi)(hns:∀o,AZ oi o=false){k:Key}{l:Lc}(hk:M k=some l)
  (hs:((S i).get k).isSome=true) (ht:o9 (I i) k):∃b,(S i).get k=some b∧pz (oh M (S i).get).h w b l∧(wr b=true->∀k' l',k≠k'->M k'=some l'->∀c∈aI l,c∉aI l'):=by
 have hli:i<ops.size:=(a2h.1 hi).1;obtain⟨τ,hτ,hg,b,h1,h2,h3⟩:=h.mem k l hk;obtain⟨g1,g2⟩:=hg.le jy (h.a4X hZ hi jy hw hns hk hs ht);refine⟨b,?_,h2.mono (yU (.refl M) fun k' o8=>hZ.mono g1 (by omega) o8).h fun _ _=>rfl,h3⟩;rw[hZ.const g1 (by omega) g2,h1]
theorem Inv.Lr(hZ:iO P call site nt ops M0 h0 w0 S I)(h:Inv nt ops M0 h0 w0 S I D M a w)(hi:ops[i]? = some oi)(jy:¬D i)(hw:uo D oi){t:Nat}(ht:t∈oi.looksAt ops){e:EV}
  (he:dL t (S i).env=some e):ER (oh M (S i).get) e (a.tmps.getD t Go.undef):=by
 have hli:i<ops.size:=(a2h.1 hi).1;obtain⟨τ,hτ,hg,h1⟩:=h.slot t;obtain⟨g1,g2⟩:=hg.le jy fun j hwt hc=>by obtain⟨oj,hj,hd⟩:=hwt;exact(Oper.apart_spec (h.conf hZ hi hj jy hw hc).2.1).1 t hd ht
 rw[hZ.YF g1 (by omega) g2]at he;exact(h1 e he).mono (yU (.refl M) fun k' o8=>hZ.mono g1 (by omega) o8) fun k l hk=>by obtain⟨x1,x2⟩:=dO hk;exact qL (hZ.mono g1 (by omega) x1) x2
def lM(M' M:Mp):Mp:=fun k=>match M' k with
 |some l=>some l
 |none=>M k
theorem a2q(hC:iC P call)(hZ:iO P call site nt ops M0 h0 w0 S I)(h:Inv nt ops M0 h0 w0 S I D M a w)(hi:ops[i]? = some oi)(jy:¬D i)(hw:uo D oi)(hns:∀o,AZ oi o=false)
  {r:Option Nat} {n:Nat} {Q:Exit->Act->LI4->Prop} {K:Act->LI4->Prop} (hK:∀M' a' w',Inv nt ops M0 h0 w0 S I (fun j=>D j∨j=i) M' a' w'->a'.defers=a.defers->K a' w') :
  wpOpIn (nJ r) n P ops Q i K a w:=by
 have hli:i<ops.size:=(a2h.1 hi).1;have hS:=hZ.step i oi hi;have hV:Valid (oh M (S i).get) (o9 (I i)) (S i).get w:=by
  refine⟨fun k l hk ht=>?_,fun k k' l l' b iq hk o8 ht hb Ye=>?_,fun k l hk=>h.inb k l (dO hk).2⟩
  .obtain⟨x1,x2⟩:=dO hk;obtain⟨b,h1,h2,_⟩:=h.cur hZ hi jy hw hns x2 x1 ht;exact⟨b,h1,h2⟩
  .obtain⟨x1,x2⟩:=dO hk;obtain⟨b',h1,_,h3⟩:=h.cur hZ hi jy hw hns x2 x1 ht;rw[hb]at h1;cases h1;exact h3 Ye k' l' iq (dO o8).2
 have yM:oh M (S i).get (.h (S i).heap.length)=none:=by simp[oh,St.get]
 have hnl:oh M (S i).get (.l (S i).loc.length)=none:=by simp[oh,St.get]
 have yQ:∀j l,oh M (S i).get (.l j)=some l->∀k' l',Key.l j≠k'->oh M (S i).get k'=some l'->∀c∈aI l,c∉aI l':=by intro j l hj k' l' iq o8;obtain⟨τ,_,_,b,h1,_,h3⟩:=h.mem _ _ (dO hj).2;refine h3 ?_ k' l' iq (dO o8).2;simp only[St.get,a05]at h1;obtain⟨_,_,rfl⟩:=h1;rfl
 have hE:Gh (oh M (S i).get) (S i).env a oi.op.operands:=by
  intro x hx e he;cases x with
  |tmp t=>exact h.Lr hZ hi jy hw (a4p _ (a6G.2 ⟨.tmp t,by simpa using hx,rfl⟩)) he
  |const v=>
   simp only[Il,a05]at he;obtain⟨t,h1,rfl⟩:=he;exact .val (.yu h1)
  |func f=>
   simp only[Il,a00]at he;subst he;exact .val (VR.fn (xs:=[]) (ys:=[]) rfl (by simp) rfl (by simp))
  |global g=>simp[Il]at he
 have hG:Ll (oh M (S i).get) (S i).env a.tmps ops oi:=by intro j want d hg hd e he;exact h.Lr hZ hi jy hw (aaf _ (by simp[hg,hd])) he
 refine(a0k hC hS hV yM hnl yQ hE hG fun _ ht _=>ht).2 r n Q i K hi fun x w' uN=>?_;obtain⟨v,M',he,hp⟩:=uN;have hX:=hp.ext;have F1:∀k l,M' k=some l->((S (i+1)).get k).isSome=true:=by
  intro k l hk;cases hc:(S (i+1)).get k with
  |some b=>rfl
  |none=>
   have hn:k∉(I i).ws:=fun Ey=>by have:=hX.has k (hX.wsub k Ey);simp[hc]at this
   have:=hX.kX k (.inr hc) hn;rw[hk]at this;have:=hX.has k (dO this.symm).1;simp[hc]at this
 have F5:∀k l l',M k=some l->M' k=some l'->((S i).get k).isSome=true:=by
  intro k l l' hk o8;cases hc:(S i).get k with
  |some b=>rfl
  |none=>
   have:=h.zY hZ hi jy hc (F1 k l' o8);rw[hk]at this;cases this
 have F4:rX M (lM M' M):=by
  intro k l hk;cases hm:M' k with
  |none=>exact⟨l,by simp[lM,hm,hk],.refl l⟩
  |some l'=>
   obtain⟨l'',h1,h2⟩:=hX.Io k l (qL (F5 k l l' hk hm) hk);exact⟨l'',by simp[lM,h1],h2⟩
 have F2:∀k,¬Wk ops S I k i->lM M' M k=M k:=by
  intro k hn;cases hm:M' k with
  |none=>simp[lM,hm]
  |some l'=>
   cases hc:(S i).get k with
   |none=>
    exact absurd ⟨oi,hi,.inr ⟨hc,F1 k l' hm⟩⟩ hn
   |some b=>
    have h1:=hX.kX k (.inl (by simp[hc])) fun Ey=>hn ⟨oi,hi,.inl Ey⟩;rw[hm]at h1;simp only[lM,hm,(dO h1.symm).2]
 have F6:rX M' (oh (lM M' M) (S (i+1)).get):=fun k l hk=>⟨l,qL (F1 k l hk) (by simp[lM,hk]),.refl l⟩;have F7:∀k l,M (.l k)=some l->lM M' M (.l k)=some l:=by
  intro k l hk;cases hm:M' (.l k)with
  |none=>simp[lM,hm,hk]
  |some l'=>
   have:=hp.loc k l (qL (F5 _ l l' hk hm) hk);simp[lM,this]
 have a4Z:∀k∈(I i).ws,∀l,M k=some l->∀k' l',k≠k'->M k'=some l'->∀c∈aI l,c∉aI l':=by intro k hk l hl;have hs:=hX.wsub k hk;obtain⟨b,h1,_,h3⟩:=h.cur hZ hi jy hw hns hl hs (.inr (.inl hk));exact h3 ((hX.wrote k hk).2 b h1)
 have hWM:∀k l,Wk ops S I k i->lM M' M k=some l->M' k=some l∧(o9 (I i) k∨((S i).get k=none∧((S (i+1)).get k).isSome=true)):=by
  intro k l hW hk;obtain⟨o,ho,h1|⟨h1,h2⟩⟩:=hW
  .obtain⟨l0,qB⟩:=a4J.1 (hX.wrote k h1).1;obtain⟨l',h2,_⟩:=hX.Io k l0 qB;simp only[lM,h2]at hk;exact⟨h2.trans hk,.inl (.inr (.inl h1))⟩
  .have:=h.zY hZ hi jy h1 h2;cases hm:M' k with
   |none=>simp[lM,hm,this]at hk
   |some l'=>simp only[lM,hm]at hk;exact⟨hk,.inr ⟨h1,h2⟩⟩
 have anh:∀k,Wk ops S I k i->∀j,Wk ops S I k j->¬a4W D i j:=by
  intro k hW;obtain⟨o,ho,h1|⟨h1,h2⟩⟩:=hW
  .obtain⟨l0,qB⟩:=a4J.1 (hX.wrote k h1).1;exact h.a4X hZ hi jy hw hns (dO qB).2 (hX.wsub k h1) (.inr (.inl h1))
  .intro j hwk hc;have hlj:=hwk.lt;obtain⟨oj,hj,g1|⟨g1,g2⟩⟩:=hwk
   .have hsj:=hZ.wsub hj g1;rcases hc with⟨aT,hd⟩|⟨aT,hd⟩
    .have:=hZ.mono (k:=k) (aaG aT) (by omega) hsj;simp[h1]at this
    .have:=h.QY j oj k hj hd g1;rw[h.zY hZ hi jy h1 h2]at this;cases this
   .rcases hc with⟨aT,hd⟩|⟨aT,hd⟩
    .have:=hZ.mono (k:=k) (i:=j+1) (j:=i) aT (by omega) g2;simp[h1]at this
    .have:=hZ.mono (k:=k) (i:=i+1) (j:=j) aT (by omega) h2;simp[g1]at this
 refine hK (lM M' M) _ w' ?_ jK;refine
  {closed:=fun j o ho hd e hm hb=>?_
   size:=by rw[Gn];exact h.size
   mem:=fun k l hk=>?_
   inb:=fun k l hk c hc=>?_
   slot:=fun t=>?_
   QY:=fun j o k ho hd hk=>?_
   Io:=h.Io.trans F4
   frame:=fun c hc hf=>?_
   kX:=fun k hk hn=>?_
   fresh:=fun k l hk c hc aT=>?_
   Es:=a4A h.Es hX.size
   os:=hX.os.trans h.os
   output:=hX.output.trans h.output
   tape:=hX.tape.trans h.tape
   marks:=fun d hd=>by
    rw[jK]at hd;obtain⟨k,r,h1,h2,⟨o,h3⟩,h4,h5⟩:=h.marks d hd;obtain⟨l',g1,g2⟩:=F4 _ _ h3;obtain⟨o',hl⟩:∃o',l'=.obj r o':=by
     cases l' with
     |cells ls=>exact g2.elim
     |obj r' o'=>cases g2.1;exact⟨o',rfl⟩
    refine⟨k,r,h1,h2,⟨o',by rw[g1,hl]⟩,h4,?_⟩;rw[hX.frame r (a2h.1 h5).1 fun k' o8 l0 qB hc=>?_,h5];have iq:k'≠.h k:=fun e=>by have:=(hX.wrote _ o8).2 _ (e▸h4 i (by omega));cases this
    exact a4Z k' o8 l0 (dO qB).2 _ _ iq h3 r hc (by simp[aI])
   apart:=by rw[jK];exact h.apart }
 .rcases hd with hd|rfl
  .exact .inl (h.closed j o ho hd e hm hb)
  .rw[hi]at ho;cases ho;exact .inl (hw e hm hb)
 .by_cases hW:Wk ops S I k i
  .obtain⟨hm,hD⟩:=hWM k l hW hk;obtain⟨b,h1,h2⟩:=hp.val.ok k l hm hD;refine⟨i+1,by omega,Good.next hW (anh k hW),b,h1,h2.mono F6.h fun _ _=>rfl,fun Ye k' l' iq o8=>?_⟩;cases hm':M' k' with
   |some l''=>
    simp only[lM,hm']at o8;cases o8;exact hp.val.own k k' l l' b iq hm hm' hD h1 Ye
   |none=>
    simp only[lM,hm']at o8;intro c hc Vp;obtain⟨l0,g1,g2⟩:=hX.fresh k l hm c hc (h.inb k' l' o8 c Vp);obtain⟨g3,g4⟩:=dO g1;obtain⟨o,ho,g5|⟨g5,_⟩⟩:=hW
    .exact a4Z k g5 l0 g4 k' l' iq o8 c g2 Vp
    .simp[g5]at g3
  .rw[F2 k hW]at hk;obtain⟨τ,hτ,hg,b,h1,h2,h3⟩:=h.mem k l hk;refine⟨τ,hτ,hg.other hW,b,h1,h2.mono (yU F4 fun _ hs=>hs).h fun c hc=>?_,fun Ye k' l' iq o8=>?_⟩
   .refine hX.frame c (h.inb k l hk c hc) fun k'' ahH l'' ani anj=>?_;have iq:k''≠k:=fun e=>hW ⟨oi,hi,.inl (e▸ahH)⟩;exact a4Z k'' ahH l'' (dO ani).2 k l iq hk c anj hc
   .cases hm':M' k' with
    |some l''=>
     simp only[lM,hm']at o8;cases o8;intro c hc Vp;obtain⟨l0,g1,g2⟩:=hX.fresh k' l' hm' c Vp (h.inb k l hk c hc);exact h3 Ye k' l0 iq (dO g1).2 c hc g2
    |none=>
     simp only[lM,hm']at o8;exact h3 Ye k' l' iq o8
 .cases hm:M' k with
  |some l'=>
   simp only[lM,hm]at hk;cases hk;exact hp.val.inb k l hm c hc
  |none=>
   simp only[lM,hm]at hk;exact a8W (h.inb k l hk c hc) hX.size
 .by_cases hT:oi.dst=some t
  .refine⟨i+1,by omega,Good.next (W:=Wt ops t) ⟨oi,hi,hT⟩ (fun j hwt hc=>?_),fun e hl=>?_⟩
   .obtain⟨oj,hj,hd⟩:=hwt;exact(Oper.apart_spec (h.conf hZ hi hj jy hw hc).2.2).2.1 t hT hd
   .rw[he,yR,a0g hT]at hl;cases hl;have h1:=hS.dst hT;have h2:=h.size;rw[yS,a0g ⟨hT,by omega⟩];exact hp.er.mono F6 fun k l hk=>qL (F1 _ l hk) (by simp[lM,hk])
  .obtain⟨τ,hτ,hg,h1⟩:=h.slot t;refine⟨τ,hτ,hg.other fun⟨o,ho,hd⟩=>?_,fun e hl=>?_⟩
   .rw[hi]at ho;cases ho;exact hT hd
   .rw[yS,a0c fun hh=>hT hh.1];refine(h1 e hl).mono (yU F4 fun _ hs=>hs) fun k l hk=>?_;obtain⟨g1,g2⟩:=dO hk;exact qL g1 (F7 k l g2)
 .have hM:∀k,(M k).isSome=true->(lM M' M k).isSome=true:=by intro k hk;obtain⟨l,hl⟩:=a4J.1 hk;obtain⟨l',h1,_⟩:=F4 k l hl;simp[h1]
  rcases hd with hd|rfl
  .exact hM k (h.QY j o k ho hd hk)
  .obtain⟨l0,qB⟩:=a4J.1 (hX.wrote k hk).1;exact hM k (by simp[(dO qB).2])
 .rw[<-h.frame c hc hf];refine hX.frame c (a8W hc h.Es) fun k hk l hl pF=>?_;obtain⟨l0,h1,h2⟩:=h.fresh k l (dO hl).2 c pF hc;exact hf k (hZ.abD hi hk (hZ.base.val.has h1)) l0 h1 h2
 .rw[<-h.kX k hk hn];refine F2 k fun hW=>?_;obtain⟨o,ho,h1|⟨h1,h2⟩⟩:=hW
  .rcases hk with hk|hk
   .exact hn (hZ.abD hi h1 hk)
   .have:=hZ.mono (k:=k) (i:=i) (aaG hli) (a0U _) (hX.wsub k h1);simp[hk]at this
  .rcases hk with hk|hk
   .have:=hZ.old (aaG hli) hk;simp[h1]at this
   .have:=hZ.mono (k:=k) (i:=i+1) hli (a0U _) h2;simp[hk]at this
 .cases hm:M' k with
  |some l'=>
   simp only[lM,hm]at hk;cases hk;obtain⟨l0,h1,h2⟩:=hX.fresh k l hm c hc (a8W aT h.Es);exact h.fresh k l0 (dO h1).2 c h2 aT
  |none=>
   simp only[lM,hm]at hk;exact h.fresh k l hk c hc aT
def TF(listed:Array Bool):Nat->Nat
 | 0=>0
 |k+1=>TF listed k+if listed.getD k false=true then 0 else 1
theorem a2s{t:LI2}{m k v:TV}{e:EV}{s s1:St}{inf:lN}(he:BQ P t s m k=some (e,s1,inf))(hl:gU P t s.heap m k false=some v):gU P t s1.heap m k false=some v∧∃a x,v=.int a x:=by
 unfold BQ at he;split at he
 .split at he
  .rename_i hk;cases he;unfold ZY at hk;rw[hl]at hk;split at hk
   .rename_i h1 h2;cases h1;simp only[a2f,a1o,a7r]at hk;obtain⟨rfl,rfl⟩:=hk;exact⟨h2,_,_,rfl⟩
   cases hk
  cases he
 cases he
theorem TY{t:LI2}{r:Nat}{k:TV}{h h':List HB}(e:h'[r]? = h[r]?):gU P t h' (.map r) k false=gU P t h (.map r) k false:=by unfold gU;simp only[e]
theorem Inv.a0p(hZ:iO P call site nt ops M0 h0 w0 S I)(h:Inv nt ops M0 h0 w0 S I D M a w)(hi:ops[i]? = some oi)(jy:¬D i)(hw:uo D oi){x:Nat}{ox:Oper}(hx:ops[x]? = some ox)(hix:i<x)(hdx:D x){t:Nat}
  (ht:t∈oi.looksAt ops) (ht2:t∈ox.looksAt ops):dL t (S x).env=dL t (S i).env:=by
 have hlx:x<ops.size:=(a2h.1 hx).1;refine hZ.YF (aaG hix) (aaG hlx) fun y h1 h2 hwt=>?_;obtain⟨oy,hy,hd⟩:=hwt;have EW:ops.toList[x]? = some ox:=by simpa using hx
 have hy':ops.toList[y]? = some oy:=by simpa using hy
 have pF:∀j o,ops.toList[j]? = some o->D j->uo D o:=fun j o ho=>h.closed j o (by simpa using ho);by_cases Ey:y∈VN ops.toList x
 .have hdy:=TW pF x ox EW (pF x ox EW hdx) y Ey;have iq:i<y:=by
   rcases a4d i y with h3|h3
   .exact h3
   .have:y=i:=(by omega);subst this;exact absurd hdy jy
  exact(Oper.apart_spec (h.conf hZ hi hy jy hw (.inr ⟨iq,hdy⟩)).2.1).1 t hd ht
 .have hp:=yC h2 (by simpa using hlx) Ey;have:=(zX hZ.stat hp hy' EW).1;rw[show ops.toList.toArray=ops by simp]at this;exact(Oper.apart_spec this).1 t hd ht2
theorem Ls{t:LI2}{m k:Nat}(kH:oi.op=.lookup t (.tmp m) (.tmp k) false):m∈oi.looksAt ops∧k∈oi.looksAt ops:=by
 constructor
 .exact a4p _ (a6G.2 ⟨.tmp m,by simp[kH,Op.operands],rfl⟩)
 exact a4p _ (a6G.2 ⟨.tmp k,by simp[kH,Op.operands],rfl⟩)
theorem VP{ox:Oper}{t:LI2}{m k:Nat}(kH:ox.op=.mapEntry t (.tmp m) (.tmp k)):m∈ox.looksAt ops∧k∈ox.looksAt ops:=by
 constructor
 .exact a4p _ (a6G.2 ⟨.tmp m,by simp[kH,Op.operands],rfl⟩)
 exact a4p _ (a6G.2 ⟨.tmp k,by simp[kH,Op.operands],rfl⟩)
theorem a0q{env:List (Nat×EV)}{m:Nat}{v:TV}(h:qE env (.tmp m)=some v):dL m env=some (.val v):=by
 unfold qE at h;split at h
 .rename_i x hx;cases h;exact hx
 cases h
theorem a5a{env env':List (Nat×EV)}{m:Nat}(h:dL m env=dL m env'):qE env (.tmp m)=qE env' (.tmp m):=by unfold qE Il;simp only[h]
theorem Inv.chain(hZ:iO P call site nt ops M0 h0 w0 S I)(h:Inv nt ops M0 h0 w0 S I D M a w)(hi:ops[i]? = some oi)(jy:¬D i)(hw:uo D oi){t:LI2}{m k r τ x:Nat}{kv z:TV}{ox:Oper}(kH:oi.op=.lookup t (.tmp m) (.tmp k) false)
  (e1:qE (S i).env (.tmp m)=some (.map r)) (e2:qE (S i).env (.tmp k)=some kv) (hs:((S i).get (.h r)).isSome=true) (hg:Good (Wk ops S I (.h r)) D τ) (hwk:Wk ops S I (.h r) x) (hix:i<=x) (hxτ:x<τ) (Nz:x<ops.size) (a5b:o9 (I i) (.h r))
  (ih:gU P t (S x).heap (.map r) kv false=some z) (hx:ops[x]? = some ox):gU P t (S (x+1)).heap (.map r) kv false=some z∧∃a b,z=.int a b:=by
 have hdx:=hg.2.1 x hxτ hwk;have iq:i<x:=by
  rcases a4d i x with h3|h3
  .exact h3
  .have:x=i:=(by omega);subst this;exact absurd hdx jy
 obtain⟨oy,hy,g1|⟨g1,_⟩⟩:=hwk
 .rw[hx]at hy;cases hy;rcases(h.conf hZ hi hx jy hw (.inr ⟨iq,hdx⟩)).1 with⟨_,h6⟩|h6
  .obtain⟨t',m',k',p1,p2,p3,p4⟩:=IK h6;rw[kH]at p1;cases p1;have hm:=h.a0p hZ hi jy hw hx iq hdx (Ls (ops:=ops) kH).1 (VP (ops:=ops) p2).1;have hk:=h.a0p hZ hi jy hw hx iq hdx (Ls (ops:=ops) kH).2 (VP (ops:=ops) p2).2;obtain⟨_,⟨_,v,s1,q1,q2⟩|⟨q1,_⟩⟩:=hZ.step x ox hx
   .simp only[oP,p2,a5a hm,a5a hk,e1,e2]at q1;have:=a2s q1 ih;rw[q2];have e5:(St.put { s1 with ws:=jT h0.length (I x).ws (S x).ws } ox.dst v).heap=s1.heap:=by cases ox.dst<;>rfl
    rw[e5];exact this
   .unfold BU at q1;rw[p4]at q1;cases q1
  .exact absurd a5b (h6 _ g1)
 .have:=hZ.mono hix (by omega) hs;rw[g1]at this;cases this
theorem Inv.look(hZ:iO P call site nt ops M0 h0 w0 S I)(h:Inv nt ops M0 h0 w0 S I D M a w)(hi:ops[i]? = some oi)(jy:¬D i)(hw:uo D oi){t:LI2}{m k:Nat}(kH:oi.op=.lookup t (.tmp m) (.tmp k) false)
  {mv kv z:TV} (e1:qE (S i).env (.tmp m)=some mv) (e2:qE (S i).env (.tmp k)=some kv) (e3:gU P t (S i).heap mv kv false=some z) (e4:∀r,mv=.map r->I i=fJ [.h r]) :
  ∃x,(Instr.lookup t (a.tmps.getD m Go.undef) (a.tmps.getD k Go.undef) false).run P w=.ok x w∧VR (oh M (S i).get).h z x:=by
 have hli:i<ops.size:=(a2h.1 hi).1;have am:VR (oh M (S i).get).h mv (a.tmps.getD m Go.undef):=by have:=h.Lr hZ hi jy hw (Ls (ops:=ops) kH).1 (a0q e1);cases this;assumption
 have ak:VR (oh M (S i).get).h kv (a.tmps.getD k Go.undef):=by have:=h.Lr hZ hi jy hw (Ls (ops:=ops) kH).2 (a0q e2);cases this;assumption
 have plain:(∀r,mv≠.map r)->∃x,(Instr.lookup t (a.tmps.getD m Go.undef) (a.tmps.getD k Go.undef) false).run P w=.ok x w∧VR (oh M (S i).get).h z x:=fun hm=>by
  have hV:Valid (oh M (S i).get) (fun _=>False) (S i).get w:=⟨fun _ _ _ h=>h.elim,fun _ _ _ _ _ _ _ _ h=>h.elim,fun k l hk=>h.inb k l (dO hk).2⟩;obtain⟨x,g1,g2⟩:=DF hV e3 am ak fun j hj=>by
   split at hj
   .exact absurd rfl (hm _)
   .cases hj
  exact⟨x,g2,g1⟩
 by_cases a4G:∃r,mv=.map r
 case neg=>exact plain fun r e=>a4G ⟨r,e⟩
 obtain⟨r,rfl⟩:=a4G;have e4:I i=fJ [.h r]:=e4 r rfl;have a5b:o9 (I i) (.h r):=by rw[e4];exact .inl (by simp[fJ])
 generalize hX:a.tmps.getD m Go.undef=X at am ⊢;cases am with
 |map hr=>
  rename_i r1 o;have hr:oh M (S i).get (.h r)=some (.obj r1 o):=hr;obtain⟨hs,hM⟩:=dO hr;obtain⟨τ,hτ,hg,b,h1,h2,h3⟩:=h.mem _ _ hM;have own:∀{N:Mp},(∀k l,N k=some l->M k=some l)->∀(C:Ct) (bb:HB),C (.h r)=some bb->(wr bb=true->wr b=true)->pz N.h w bb (.obj r1 o)->N (.h r)=some (.obj r1 o)->Valid N (fun k=>k=.h r) C w:=fun{N} hN C bb hb Ye QB hNr=>
   ⟨fun k l hk e=>by subst e;rw[hNr]at hk;cases hk;exact⟨bb,hb,QB⟩,fun k k' l l' b' iq hk o8 e qy hwb=>by subst e;rw[hNr]at hk;cases hk;rw[hb]at qy;cases qy;exact h3 (Ye hwb) k' l' iq (hN _ _ o8),fun k l hk=>h.inb k l (hN _ _ hk)⟩
  by_cases hτi:τ<=i
  .have hb:(S i).get (.h r)=some b:=by
    rw[hZ.const hτi (aaG hli) fun x h4 h5 hwk=>?_,h1];obtain⟨ox,hx,g1|⟨g1,g2⟩⟩:=hwk
    .have hnx:¬D x:=fun hd=>by have:=hg.1 x hd ⟨ox,hx,.inl g1⟩;omega
     rcases(h.conf hZ hi hx jy hw (.inl ⟨h5,hnx⟩)).1 with⟨h6,_⟩|h6
     .omega
     .exact h6 _ g1 a5b
    .have:=hZ.mono (k:=.h r) h4 (by omega) (by rw[h1];rfl);rw[g1]at this;cases this
   have hV:=own (N:=oh M (S i).get) (fun k l hk=>(dO hk).2) (S i).get b hb id (h2.mono (yU (.refl M) fun k' o8=>hZ.mono hτi (by omega) o8).h fun _ _=>rfl) hr;obtain⟨x,g1,g2⟩:=DF hV e3 (.map hr) ak fun j hj=>(by simpa using hj);exact⟨x,g2,g1⟩
  .have chain:∀x,i<=x->x<=τ->gU P t (S x).heap (.map r) kv false=some z:=by
    intro x hix
    induction hix with
    |refl=>exact fun _=>e3
    |step hle ih=>
     rename_i x;intro hxτ;have hxτ:x<τ:=hxτ;have ih:=ih (by omega);have hx:=a3Q (xs:=ops) (i:=x) (by omega);by_cases hwk:Wk ops S I (.h r) x
     .obtain⟨l1,l2⟩:=h.chain hZ hi jy hw kH e1 e2 hs hg hwk hle hxτ (by omega) a5b ih hx;exact l1
     .rw[TY (h:=(S x).heap) (hZ.nD hx hwk)];exact ih
   obtain⟨a1,a2,hz⟩:∃a1 a2,z=.int a1 a2:=by
    rcases hg.2.2 with h4|h4
    .omega
    .have hx:=a3Q (xs:=ops) (i:=τ-1) (by omega);exact(h.chain hZ hi jy hw kH e1 e2 hs hg h4 (by omega) (by omega) (by omega) a5b (chain (τ-1) (by omega) (by omega)) hx).2
   have le:rX (oh M (S i).get) (oh M (S τ).get):=yU (.refl M) fun k' o8=>hZ.mono (by omega) hτ o8;have xg:oh M (S τ).get (.h r)=some (.obj r1 o):=qL (by rw[h1];rfl) hM;have hV:=own (N:=oh M (S τ).get) (fun k l hk=>(dO hk).2) (S τ).get b h1 id h2 xg;obtain⟨x,g1,g2⟩:=DF hV (chain τ (by omega) (a0U _)) (.map xg) (ak.mono le.h) fun j hj=>(by simpa using hj);subst hz;refine⟨x,g2,?_⟩;cases g1;exact .int _ _
 |_=>exact absurd rfl ‹_›
theorem a5c(hC:iC P call)(hZ:iO P call site nt ops M0 h0 w0 S I)(h:Inv nt ops M0 h0 w0 S I D M a w)(hi:ops[i]? = some oi)(jy:¬D i)(hw:uo D oi)
  {r:Option Nat} {n:Nat} {Q:Exit->Act->LI4->Prop} {K:Act->LI4->Prop} (hK:∀M' a' w',Inv nt ops M0 h0 w0 S I (fun j=>D j∨j=i) M' a' w'->a'.defers=a.defers->K a' w') :
  wpOpIn (nJ r) n P ops Q i K a w:=by
 by_cases hl:∃t m k,oi.op=.lookup t (.tmp m) (.tmp k) false∧oi.guard=none
 case neg=>
  refine a2q hC hZ h hi jy hw (fun o=>?_) hK;cases e:AZ oi o
  .rfl
  .obtain⟨t,m,k,e1,_,e3,_⟩:=IK e;exact absurd ⟨t,m,k,e1,e3⟩ hl
 obtain⟨t,m,k,kH,hgd⟩:=hl;have hli:i<ops.size:=(a2h.1 hi).1;have hS:=hZ.step i oi hi;obtain⟨adL,⟨_,v,s1,q1,q2⟩|⟨q1,_⟩⟩:=hS
 case inr=>unfold BU at q1;rw[hgd]at q1;cases q1
 simp only[oP,kH]at q1;split at q1
 case h_2=>cases q1
 rename_i mv kv e1 e2;simp only[a05,a0i]at q1;obtain⟨z,e3,rfl,rfl,e4⟩:=q1;obtain⟨x,g1,g2⟩:=h.look hZ hi jy hw kH e1 e2 e3 fun r e=>by subst e;exact e4.symm
 have Yn:(I i).ws=[]:=by rw[<-e4];rfl
 have yB:(S (i+1)).get=(S i).get:=by
  funext key
  rw[q2];cases key<;>cases oi.dst<;>rfl
 have hnW:∀key,¬Wk ops S I key i:=fun key hk=>by
  obtain⟨o,_,h1|⟨h1,h2⟩⟩:=hk
  .rw[Yn]at h1;cases h1
  .rw[yB,h1]at h2;cases h2
 unfold wpOpIn;rw[hi];have hwd:Region.wanted oi (yielded ops a.tmps)=true:=by simp[Region.wanted,hgd]
 simp only[hwd,a1U];refine⟨fun f hf=>by simp[Oper.about,kH]at hf,?_⟩;have vw:(oi.semAt (nJ r).round a.eval).run P w=.ok (.value x) w:=by simp only[a8l]at g1;simp[Oper.semAt,execOp,kH,Act.eval,g1]
 rw[vw,Oper.uponIn_value];refine hK M _ w ?_ jK;refine{ h with
  closed:=fun j o ho hd e hm hb=>?_
  size:=by rw[Gn];exact h.size
  mem:=fun key l hk=>?_
  slot:=fun s=>?_
  QY:=fun j o key ho hd hk=>?_
  marks:=fun d hd=>by rw[jK]at hd;exact h.marks d hd
  apart:=by rw[jK];exact h.apart }
 .rcases hd with hd|rfl
  .exact .inl (h.closed j o ho hd e hm hb)
  .rw[hi]at ho;cases ho;exact .inl (hw e hm hb)
 .obtain⟨τ,hτ,hg,b,h1,h2,h3⟩:=h.mem key l hk;exact⟨τ,hτ,hg.other (hnW key),b,h1,h2,h3⟩
 .by_cases hT:oi.dst=some s
  .refine⟨i+1,by omega,Good.next (W:=Wt ops s) ⟨oi,hi,hT⟩ (fun j hwt hc=>?_),fun e hl=>?_⟩
   .obtain⟨oj,hj,hd⟩:=hwt;exact(Oper.apart_spec (h.conf hZ hi hj jy hw hc).2.2).2.1 s hT hd
   .rw[q2,yR,a0g hT]at hl;cases hl;have h1:s<nt:=(hZ.step i oi hi).dst hT;have h2:=h.size;rw[yS,a0g ⟨hT,by omega⟩,yB];exact .val g2
  .obtain⟨τ,hτ,hg,h1⟩:=h.slot s;refine⟨τ,hτ,hg.other fun⟨o,ho,hd⟩=>?_,fun e hl=>?_⟩
   .rw[hi]at ho;cases ho;exact hT hd
   .rw[yS,a0c fun hh=>hT hh.1];exact h1 e hl
 .rcases hd with hd|rfl
  .exact h.QY j o key ho hd hk
  .rw[Yn]at hk;cases hk
theorem a5d(listed:Array Bool):∀k,TF listed k<=k
 | 0=>a0U _
 |k+1=>by have:=a5d listed k;simp only[TF];split<;>omega
theorem VQ{listed:Array Bool}:∀{k:Nat},TF listed k=0->∀j,j<k->listed.getD j false=true
 | 0,_,j,hj=>by omega
 |k+1,h,j,hj=>by
  simp only[TF]at h;by_cases he:j=k
  .subst he;split at h
   .assumption
   omega
  exact VQ (k:=k) (by omega) j (by omega)
theorem yV{listed:Array Bool}{i:Nat}(hi:i<listed.size)(j:Nat):(listed.setIfInBounds i true).getD j false=if j=i then true else listed.getD j false:=by
 simp only[a8l,a8J];by_cases h:i=j
 .subst h;simp[hi]
 simp[h,Ne.symm h]
theorem a0r{listed:Array Bool}{i:Nat}(hi:i<listed.size)(hn:listed.getD i false=false):∀k,TF (listed.setIfInBounds i true) k+(if i<k then 1 else 0)=TF listed k
 | 0=>by simp[TF]
 |k+1=>by
  have ih:=a0r hi hn k;simp only[TF,yV hi];by_cases he:k=i
  .subst he;simp only[a1U,hn];simp at ih ⊢;omega
  simp only[he,a3g];by_cases aT:i<k
  .rw[a0g aT]at ih;rw[a0g (by omega:i<k+1)];omega
  rw[a0c aT]at ih;rw[a0c (by omega:¬i<k+1)];omega
theorem sK{listed:Array Bool}(uT:listed.size=ops.size){i:Nat}:i∈Region.ready .any ops listed↔∃o,ops[i]? = some o∧listed.getD i false=false∧uo (fun j=>listed.getD j false=true) o:=by
 simp only[Region.ready,a7S,a4i,a2f];constructor
 .rintro⟨h1,h2,h3⟩;refine⟨ops[i],a3Q h1,?_,?_⟩
  .have hl:i<listed.size:=(by omega);simp only[Array.getD,hl,dite_true]at h2 ⊢;simpa using h2
  intro e he hb;rw[a3Q h1]at h3;simp only[a0j,a4r,acv]at h3;have:=h3 e he;simpa[hb]using this
 rintro⟨o,ho,h2,h3⟩;have h1:i<ops.size:=(a2h.1 ho).1;refine⟨h1,?_,?_⟩
 .have hl:i<listed.size:=by omega
  simp only[Array.getD,hl,dite_true]at h2 ⊢;simpa using h2
 rw[ho];simp only[a0j,a4r,acv];intro e he;cases hb:Region.binds .any e with
 |false=>rfl
 |true=>simpa using h3 e he hb
theorem adM(hC:iC P call)(hZ:iO P call site nt ops M0 h0 w0 S I){r:Option Nat}{n:Nat}{Q:Exit->Act->LI4->Prop}{ds:List Deferred}
  (hQ:∀M' a' w',Rel M0 h0 w0 nt M' (S ops.size) a' w'->a'.defers=ds->Q .normal a' w'):∀(fuel:Nat) (listed:Array Bool) (M:Mp) (a:Act) (w:LI4),listed.size=ops.size ->
  Inv nt ops M0 h0 w0 S I (fun j=>listed.getD j false=true) M a w->TF listed ops.size<=fuel->a.defers=ds->wpAnyIn (nJ r) n P .any ops Q fuel listed a w:=by
 intro fuel;have F8:∀(listed:Array Bool),listed.size=ops.size->Region.ready .any ops listed=[]->∀j,j<ops.size->listed.getD j false=true:=by
  intro listed uT hr j
  induction j using Nat.strongRecOn with
  |_ j ih=>
   intro hj;cases hd:listed.getD j false with
   |true=>rfl
   |false=>
    have:j∈Region.ready .any ops listed:=(sK uT).2 ⟨ops[j],a3Q hj,hd,fun e he hb=>by have aT:=VO hZ.stat (i:=j) (o:=ops[j]) (by simp) he hb;exact ih e.on aT (by omega)⟩
    rw[hr]at this;cases this
 induction fuel with
 |zero=>
  intro listed M a w uT hI hu hd;have hz:=VQ (Nat.le_zero.1 hu);refine⟨?_,hQ M a w (a0o hZ hI hz) hd⟩;refine a4Y.2 fun i hi=>?_;obtain⟨o,ho,h1,_⟩:=(sK uT).1 hi;rw[hz i (a2h.1 ho).1]at h1;cases h1
 |succ fuel ih=>
  intro listed M a w uT hI hu hd;refine⟨fun hr=>hQ M a w (a0o hZ hI (F8 listed uT hr)) hd,fun i hi=>?_⟩;obtain⟨o,ho,h1,h2⟩:=(sK uT).1 hi;have hli:i<ops.size:=(a2h.1 ho).1;refine a5c hC hZ hI ho (by simp[h1]) h2 fun M' a' w' hI' YA=>ih _ M' a' w' (by simp[uT]) ?_ ?_ (YA.trans hd)
  .have:(fun j=>(listed.setIfInBounds i true).getD j false=true)=fun j=>listed.getD j false=true∨j=i:=by
    funext j
    rw[yV (by omega)];by_cases he:j=i
    .simp[he]
    .simp[he]
   rw[this];exact hI'
  .have:=a0r (listed:=listed) (i:=i) (by omega) h1 ops.size;rw[a0g hli]at this;omega
theorem YH(hC:iC P call)(hB:vZ M0 h0 w0)(hm:P.follows .mixedOrders=true){r:Option Nat}{n:Nat}{Q:Exit->Act->LI4->Prop}{id:Nat}{s s':St}{is:List lN}{M:Mp}{a:Act}{w:LI4}
  (h:kW P call site h0.length nt ops ops.toList s=some (s',is)) (hs:nH ops.toList=true) (hd:Ba is (mG ops.toList)=true) (hR:Rel M0 h0 w0 nt M s a w)
  (hQ:∀M' a' w',Rel M0 h0 w0 nt M' s' a' w'->a'.defers=a.defers->Q .normal a' w'):(Code.region id ops true).wpIn (nJ r) n P Q a w:=by
 obtain⟨S,I,e1,e2,hZ⟩:=a4V hC hB h hR hs hd;refine wpIn_region_any hm ?_;have Fa:Rel M0 h0 w0 nt M (S 0) a { w with drawn:=w.drawn+1 }:=by rw[e1];exact⟨hR.val.of_heap rfl,hR.ext.drew rfl rfl rfl rfl,hR.env,hR.size,hR.marks,hR.apart⟩
 refine adM hC hZ (ds:=a.defers) (fun M' a' w' hr hd=>hQ M' a' w' (by rw[e2]at hr;exact hr) hd) ops.size _ M a _ (by simp) ?_ (a5d _ _) rfl;have:(fun j=>(Array.replicate ops.size false).getD j false=true)=fun _=>False:=by
  funext j
  simp only[a8l,Array.getElem?_replicate];split<;>simp
 rw[this];exact a2o hZ Fa
end
theorem NJ{F:Fence}{n:Nat}{P:LI1}{Q:Exit->Act->LI4->Prop}{a:Act}{w:LI4}{c:Code}(h:c.wpIn F n P (Exit.noGoto Q) a w):(Code.scope c).wpIn F n P Q a w:=by
 intro b k cs hro hb hr;have h0:(lone (b.atR a (.code (.scope c)::k)) cs w).fenced P F:=fenced_calm hb hr rfl;have s0:step P (lone (b.atR a (.code (.scope c)::k)) cs w)=.next (lone (b.atR a (.code c::.inScope c::k)) cs w):=step_lone_go (by simp[stepG,stepG.exec,Frame.atR]);have s1:∀a1 w1,step P (lone (b.atR a1 (.inScope c::k)) cs w1)=.next (lone (b.atR a1 k) cs w1):=fun a1 w1=>step_lone_go (by simp[stepG,stepG.exec,Frame.atR]);obtain⟨e,a₁,w₁,hq,VK⟩:=h b (.inScope c::k) cs hro hb hr;cases e with
 |normal=>exact⟨.normal,a₁,w₁,hq,.head h0 s0 (StepsIn.trans VK (.one (fenced_calm hb hr rfl) (s1 _ _)))⟩
 |exit id'=>
  have hx:exitTo id' (.inScope c::k)=exitTo id' k:=by simp[exitTo]
  exact⟨.exit id',a₁,w₁,hq,fun k' hk=>.head h0 s0 (VK.1 k' (by rw[hx];exact hk)),
   fun hr' hk=>let ⟨k₁,h1,h2⟩:=VK.2 hr' (by rw[hx];exact hk);⟨k₁,h1,.head h0 s0 h2⟩⟩
 |goto l=>exact hq.elim
 |ret=>exact⟨_,a₁,w₁,hq,.of_steps (.one h0 s0) VK⟩
 |panic ch=>exact⟨_,a₁,w₁,hq,.of_steps (.one h0 s0) VK⟩
 |outgrown=>exact⟨_,a₁,w₁,hq,.of_steps (.one h0 s0) VK⟩
def YI:Ex->Exit
 |.norm=>.normal
 |.exit id=>.exit id
 |.ret=>.ret
theorem Fb{t:Nat}{e:EV}{env:List (Nat×EV)}:∀{live:List Nat},dL t (pick live env)=some e->dL t env=some e
 | [],h=>by simp[pick,dL]at h
 |x::r,h=>by
  simp only[pick]at h;split at h
  .rename_i v hv;simp only[dL]at h;split at h
   .rename_i hx;subst hx;rw[hv,h]
   exact Fb h
  exact Fb h
theorem a5e{t k off:Nat}:∀{env:List (Nat×EV)},dL t env=some (.loc k off)->k<BX env
 | [],h=>by simp[dL]at h
 |(x,v)::r,h=>by
  simp only[dL]at h;split at h
  .cases h;simp only[BX];omega
  have:=a5e h;cases v<;>simp only[BX]<;>omega
section
variable {M0:Mp} {h0:List HB} {w0:LI4} {nt:Nat} {M:Mp} {s:St} {a:Act} {w:LI4}
theorem Rel.pick(hR:Rel M0 h0 w0 nt M s a w)(live:List Nat):Rel M0 h0 w0 nt M { s with env:=Tw.pick live s.env } a w:=by have hg:St.get { s with env:=Tw.pick live s.env }=s.get:=getEnv s _ _;refine⟨by rw[hg];exact hR.val,by rw[hg];exact hR.ext,fun t e h=>hR.env t e (Fb h),hR.size,?_,hR.apart⟩;rw[hg];exact hR.marks
def VT(n:Nat)(M:Mp):Mp
 |.h b=>M (.h b)
 |.l j=>if j<n then M (.l j)else none
theorem Rel.head(hB:vZ M0 h0 w0)(hR:Rel M0 h0 w0 nt M s a w)(live:List Nat):Rel M0 h0 w0 nt (VT (BX (Tw.pick live s.env)) M) (jU live s) a w:=by
 have hR:=hR.pick live;generalize he:Tw.pick live s.env=env at hR ⊢;have hs:jU live s={ s with env:=env,loc:=s.loc.take (BX env) }:=by simp[jU,he]
 rw[hs];have oV:∀k l,VT (BX env) M k=some l->M k=some l:=by
  intro k l h;cases k with
  |h b=>exact h
  |l j=>
   simp only[VT]at h;split at h
   .exact h
   cases h
 have yB:∀k l,VT (BX env) M k=some l->St.get { s with env:=env,loc:=s.loc.take (BX env) } k=St.get { s with env:=env } k:=by
  intro k l h;cases k with
  |h b=>rfl
  |l j=>
   simp only[VT]at h;split at h
   .rename_i hj;simp[St.get,hj]
   cases h
 refine⟨⟨?_,?_,fun k l hk=>hR.val.inb k l (oV k l hk)⟩,?_,?_,hR.size,?_,hR.apart⟩
 .intro k l hk _;obtain⟨b,h1,h2⟩:=hR.val.ok k l (oV k l hk) trivial;exact⟨b,by rw[yB k l hk];exact h1,h2⟩
 .intro k k' l l' b iq hk o8 _ hb hw;rw[yB k l hk]at hb;exact hR.val.own k k' l l' b iq (oV k l hk) (oV k' l' o8) trivial hb hw
 .have hX:=hR.ext;have hk:∀k,(kQ h0 k).isSome=true->∃b,k=.h b:=fun k h=>let ⟨b,e,_⟩:=Ci h;⟨b,e⟩
  exact
   {Io:=fun k l h=>by
     cases k with
     |l j=>rw[hB.loc j]at h;cases h
     |h b=>exact hX.Io _ _ h
    frame:=hX.frame
    nD:=fun k h hn=>by obtain⟨b,rfl⟩:=hk k h;exact hX.nD _ h hn
    kX:=fun k h hn=>by
     cases k with
     |h b=>exact hX.kX (.h b) h hn
     |l j=>
      rw[hB.loc j];simp only[VT];split
      .rename_i hj;cases hm:M (.l j)with
       |none=>rfl
       |some l=>
        have h1:=hR.val.has hm;rcases h with h|h
        .obtain⟨b,hb⟩:=hk _ h;cases hb
        .have:=yB (.l j) l (by simp[VT,hj,hm]);rw[h]at this;rw[<-this]at h1;cases h1
      .rfl
    fresh:=fun k l h=>hX.fresh k l (oV k l h)
    size:=hX.size
    has:=fun k h=>by obtain⟨b,rfl⟩:=hk k h;exact hX.has _ h
    wsub:=hX.wsub
    wrote:=hX.wrote
    os:=hX.os
    output:=hX.output
    tape:=hX.tape }
 .intro t e h;have:=hR.env t e h;generalize a.tmps.getD t Go.undef=z at this;cases this with
  |val hv=>exact .val hv
  |undef=>exact .undef
  |loc hm hb=>
   have aT:=a5e (env:=env) h;exact .loc (by simp[VT,aT,hm]) hb
  |ent hm hi hv=>exact .ent (show M _=_ from hm) hi hv
  |Ee hm hi=>exact .Ee (show M _=_ from hm) hi
 intro d hd;obtain⟨k,r,h1,h2,h3,h4,h5⟩:=hR.marks d hd;exact⟨k,r,h1,h2,h3,h4,h5⟩
theorem a0s(hV:Valid M uK s.get w)(b:HB)(o:Obj)(QB:pz (dJ M (.h s.heap.length) (.obj w.heap.size [])).h (w.alloc o) b (.obj w.heap.size [])) :
  Valid (dJ M (.h s.heap.length) (.obj w.heap.size [])) uK (St.get { s with heap:=s.heap++[b] }) (w.alloc o) ∧
  Ext M s.get w (dJ M (.h s.heap.length) (.obj w.heap.size [])) (St.get { s with heap:=s.heap++[b] }) (w.alloc o) []∧M (.h s.heap.length)=none:=by
 have yB:s.get (.h s.heap.length)=none:=by simp[St.get]
 have yM:M (.h s.heap.length)=none:=by
  cases h:M (.h s.heap.length)with
  |none=>rfl
  |some l=>have:=hV.has h;simp[yB]at this
 have hle:rX M (dJ M (.h s.heap.length) (.obj w.heap.size [])):=lU fun l0 h0=>by rw[yM]at h0;cases h0
 have gq:∀c,c<w.heap.size->c∉aI (.obj w.heap.size [])->(w.alloc o).heap[c]? = w.heap[c]?:=fun c hc _=>vU w _ c hc;have gV:∀c∈aI (.obj w.heap.size []),(∃l0,M (.h s.heap.length)=some l0∧c∈aI l0)∨w.heap.size<=c:=fun c hc=>.inr (by simp[aI]at hc;omega);rw[jW];exact⟨hV.upd _ _ _ (fun j _=>.inl trivial) (fun l0 h0=>by rw[yM]at h0;cases h0) gq gV (by simp) QB,
  Ext.upd _ _ _ [] (.inr ⟨yB,yM,rfl⟩) hle gq gV (by simp) rfl rfl rfl,yM⟩
theorem DI(hV:Valid M uK s.get w){k r:Nat}{q:List Nat}{b b':HB}{o':Obj}(hm:M (.h k)=some (.obj r q))(hb:s.heap[k]? = some b)(hw:wr b=true)
  (QB:pz M.h { w with heap:=w.heap.setIfInBounds r o' } b' (.obj r q)) :
  Valid M uK (St.get { s with heap:=s.heap.set k b' }) { w with heap:=w.heap.setIfInBounds r o' } ∧
  Ext M s.get w M (St.get { s with heap:=s.heap.set k b' }) { w with heap:=w.heap.setIfInBounds r o' } [.h k]:=by
 have hg:s.get (.h k)=some b:=by simp[St.get,hb]
 have yO:=(a01.1 hb).1;have qp:dJ M (.h k) (.obj r q)=M:=IB hm;have gq:∀c,c<w.heap.size->c∉aI (.obj r q)->(w.heap.setIfInBounds r o')[c]? = w.heap[c]?:=fun c _ hc=>by rw[a8J,a0c (by simp[aI]at hc;omega)]
 have gV:∀c∈aI (.obj r q),(∃l0,M (.h k)=some l0∧c∈aI l0)∨w.heap.size<=c:=fun c hc=>.inl ⟨_,hm,hc⟩;rw[jw s k _ yO];constructor
 .have:=hV.upd (D':=uK) (w':={ w with heap:=w.heap.setIfInBounds r o' }) (.h k) b' (.obj r q) (fun j hj=>.inl hj) (fun l0 h0=>by rw[hm]at h0;cases h0;exact⟨trivial,.refl _,fun b0 zL=>by rw[hg]at zL;cases zL;exact hw⟩) gq gV (by simp) (by rw[qp];exact QB)
  rwa [qp]at this
 .have:=Ext.upd (M:=M) (C:=s.get) (w:=w) (w':={ w with heap:=w.heap.setIfInBounds r o' }) (.h k) b' (.obj r q) [.h k] (.inl ⟨by simp[hg],rfl,by simp[hm],fun b0 zL=>by rw[hg]at zL;cases zL;exact hw⟩) (by rw[qp];exact .refl _) gq gV (by simp) rfl rfl rfl
  rwa [qp]at this
theorem Rel.next(hB:vZ M0 h0 w0)(hR:Rel M0 h0 w0 nt M s a w){M':Mp}{s':St}{w':LI4}{ks:List Key}(hV:Valid M' uK s'.get w')(hX:Ext M s.get w M' s'.get w' ks)
  (he:s'.env=s.env) (Yn:s'.ws=jT h0.length ks s.ws) (hl:∀k l,M (.l k)=some l->M' (.l k)=some l):Rel M0 h0 w0 nt M' s' a w':=by
 refine⟨hV,?_,?_,hR.size,QV hR hX,hR.apart⟩
 .refine hR.ext.trans hX (fun k l hk=>hB.val.has hk) (fun k hk Ey=>?_) (fun k hk=>?_)
  .obtain⟨b,rfl,hb⟩:=Ci hk;rw[Yn];refine a1g.2 ⟨b,og.2 ?_,rfl⟩;rcases Ey with h1|h1
   .obtain⟨b',h2,h3⟩:=a1g.1 h1;cases h3;exact .inl h2
   .exact .inr ⟨h1,hb⟩
  .rw[Yn]at hk;obtain⟨b,hb,rfl⟩:=a1g.1 hk;rcases og.1 hb with h1|⟨h1,h2⟩
   .have:Key.h b∈s.ws.map .h:=a1g.2 ⟨b,h1,rfl⟩;exact⟨hR.ext.wsub _ this,.inl this⟩
   .exact⟨YD h2,.inr h1⟩
 .rw[he];intro t e h;exact(hR.env t e h).mono hX.Io hl
theorem Rel.long(hR:Rel M0 h0 w0 nt M s a w):h0.length<=s.heap.length:=by refine acH fun h=>?_;have:=hR.ext.has _ (YD h);simp[St.get]at this
end
theorem least{J:Nat->Prop}(h:∃k,J k):∃k,J k∧∀j,J j->k<=j:=by
 obtain⟨k,hk⟩:=h
 induction k using Nat.strongRecOn with
 |_ k ih=>
  by_cases hj:∃j,j<k∧J j
  .obtain⟨j,h1,h2⟩:=hj;exact ih j h1 h2
  exact⟨k,hk,fun j h=>acH fun aT=>hj ⟨j,aT,h⟩⟩
def leastOf(J:Nat->Prop):Nat:=open Classical in if h:∃k,J k then Classical.choose (least h)else 0
theorem leastOf_spec{J:Nat->Prop}(h:∃k,J k):J (leastOf J)∧∀j,J j->leastOf J<=j:=by unfold leastOf;rw[dif_pos h];exact a8V (least h)
section
variable {P:LI1} {T:qx} {call:aY} {L f:Nat} {gQ:Bool} {nt:Nat} {M0:Mp} {h0:List HB} {w0:LI4} {r:Option Nat}
def U0(P:LI1)(M0:Mp)(h0:List HB)(w0:LI4)(nt:Nat)(r:Option Nat)(c:Code)(s:St)(e:Ex)(s':St):Prop:=
 ∀(n:Nat) (Q:Exit->Act->LI4->Prop) (M:Mp) (a:Act) (w:LI4),Rel M0 h0 w0 nt M s a w->(∀M' a' w',Rel M0 h0 w0 nt M' s' a' w'->Q (YI e) a' w')->c.wpIn (nJ r) n P Q a w
theorem Lu(hB:vZ M0 h0 w0){c:Code}{live:List Nat}{g:St->Option (Ex×St)}(ih:∀s e s',g s=some (e,s')->U0 P M0 h0 w0 nt r c (jU live s) e s'){k:Nat}{s:St}{e:Ex}{s':St}
  (h:iter g k s=some (e,s')):U0 P M0 h0 w0 nt r (.loop c) s e s':=by
 intro n Q M a w hR hQ
 let J:Act->LI4->Nat->Prop:=fun a w k=>∃s M,iter g k s=some (e,s')∧Rel M0 h0 w0 nt M s a w
 refine wpIn_loop (fun a w=>∃k,J a w k) (fun a w=>leastOf (J a w)) ⟨k,s,M,h,hR⟩ ?_;intro a1 w1 hI;obtain⟨⟨s1,M1,Qb,wZ⟩,_⟩:=leastOf_spec hI;generalize leastOf (J a1 w1)=k1 at Qb ⊢;cases k1 with
 |zero=>simp[iter]at Qb
 |succ k1=>
  simp only[iter]at Qb;split at Qb
  .rename_i s2 hg;refine ih s1 .norm s2 hg n _ _ a1 w1 (wZ.head hB live) fun M2 a2 w2 QZ=>?_;have hJ:J a2 w2 k1:=⟨s2,M2,Qb,QZ⟩;exact⟨⟨k1,hJ⟩,Nat.lt_succ_of_le ((leastOf_spec ⟨k1,hJ⟩).2 k1 hJ)⟩
  .rename_i iq;refine ih s1 e s' Qb n _ _ a1 w1 (wZ.head hB live) fun M2 a2 w2 QZ=>?_;cases e with
   |norm=>exact(iq s' Qb).elim
   |exit id=>exact hQ M2 a2 w2 QZ
   |ret=>exact hQ M2 a2 w2 QZ
theorem a2t{env:List (Nat×EV)}(h:env.all isVal=true){t:Nat}{e:EV}(hl:dL t env=some e):(∃v,e=.val v)∨e=.undef:=by
 induction env with
 |nil=>simp[dL]at hl
 |cons x r ih=>
  obtain⟨k,v⟩:=x;simp only[abC,a2f]at h;simp only[dL]at hl;split at hl
  .cases hl;cases e with
   |val v=>exact .inl ⟨v,rfl⟩
   |undef=>exact .inr rfl
   |_=>simp[isVal]at h
  exact ih h.2 hl
theorem Rf(hB:vZ M0 h0 w0){g:Operand}{ps:Array Tmp}{uJ body:Code}{s:St}{f1:FuncId}{a1 b1:List TV}{K:TV->List HB->List Nat->Prop}{QT:Ex->St->Prop}
  (hg:qE s.env g=some (.fn f1 a1 b1)) (hv:s.env.all isVal=true)
  (hC:∀(M:Mp) (w:LI4) (x:LI3) (xs:List LI3),Valid M uK (kQ (s.heap++[.mark,.loop true f nt s.env ps.toList uJ body none])) w->(∀k,M (.l k)=none)->VR M.h (.fn f1 a1 b1) x->bU M.h [.kG (s.heap.length+1)] xs ->
   ∃d,(∀w,(Deferred.ofValue x xs.toArray).run P w=.ok d w)∧Lj P d w fun y w'=>∃v h ws,K v h ws∧jJ M (s.heap++[.mark,.loop true f nt s.env ps.toList uJ body none]) w v h ws y w')
  (hK:∀v h ws,K v h ws->∃rd f2 Q5 e2 BZ a2 b2 jI e,h[s.heap.length+1]? = some (.loop rd f2 Q5 e2 BZ a2 b2 jI)∧QA rd jI=some e∧QT e { s with heap:=h.set (s.heap.length+1) (.loop false f2 Q5 e2 BZ a2 b2 (some .skip)),ws:=jT h0.length (ws.map .h) s.ws })
  (n:Nat) (Q:Exit->Act->LI4->Prop) (M:Mp) (a:Act) (w:LI4) (hR:Rel M0 h0 w0 nt M s a w) (hQ:∀e s' M' a' w',QT e s'->Rel M0 h0 w0 nt M' s' a' w'->Q (YI e) a' w'):(Code.rangeFunc g ps uJ body).wpIn (nJ none) n P Q a w:=by
 refine wpIn_rangeFunc fun fn _=>?_
 let lp:Loop:={ state:=.ready,pending:=none,fn:=fn,tmps:=a.tmps,params:=ps,assign:=uJ,body:=body,defers:=w.heap.size }
 let w1:=(w.alloc (.deferred (some []))).alloc (.loop lp)
 obtain⟨v1,x1,n1⟩:=a0s hR.val .mark (.deferred (some [])) (show w.heap.size<(w.alloc _).heap.size by simp)
 let M1:=dJ M (.h s.heap.length) (.obj w.heap.size [])
 let s1:St:={ s with heap:=s.heap++[.mark] }
 have wZ:Rel M0 h0 w0 nt M1 s1 a (w.alloc (.deferred (some []))):=hR.next hB v1 x1 rfl rfl (qJ n1);have a0t:s1.heap.length=s.heap.length+1:=by simp[s1]
 have ank:(w.alloc (.deferred (some []))).heap.size=w.heap.size+1:=by simp
 have anl:pz (dJ M1 (.h s1.heap.length) (.obj (w.alloc (.deferred (some []))).heap.size [])).h w1 (.loop true f nt s.env ps.toList uJ body none) (.obj (w.alloc (.deferred (some []))).heap.size []):=by
  refine⟨lp,heap_alloc_new _ _,?_⟩;exact
   {ps:=rfl,uJ:=rfl,body:=rfl,size:=hR.size
    KJ:=fun t v hl=>by
     have h1:=(wZ.env t _ hl).vg;have hm:rX M1 (dJ M1 (.h s1.heap.length) (.obj (w.alloc (.deferred (some []))).heap.size [])):=lU fun l0 h0=>by rw[wZ.nh]at h0;cases h0
     exact h1.mono hm.h
    TF:=fun t hl=>by have h1:=hR.env t _ hl;show a.tmps.getD t Go.undef=Go.undef;generalize a.tmps.getD t Go.undef=z at h1;cases h1;rfl
    nol:=fun t e hl=>by rcases a2t hv hl with⟨v,e⟩|e<;>cases e<;>rfl
    ready:=fun _=>⟨rfl,rfl⟩
    busy:=by simp
    done:=by simp }
 obtain⟨v2,x2,n2⟩:=a0s wZ.val (.loop true f nt s.env ps.toList uJ body none) (.loop lp) anl
 let M2:=dJ M1 (.h s1.heap.length) (.obj (w.alloc (.deferred (some []))).heap.size [])
 let s2:St:={ s1 with heap:=s1.heap++[.loop true f nt s.env ps.toList uJ body none] }
 have a2u:Rel M0 h0 w0 nt M2 s2 a w1:=wZ.next hB v2 x2 rfl rfl (qJ n2);have arx:=hR.long;have hmk:M2 (.h s.heap.length)=some (.obj w.heap.size []):=by simp only[M2,M1,dJ,a0t];simp
 have QZ:Rel M0 h0 w0 nt M2 s2 { a with defers:=[{ target:=.collected w.heap.size,args:=#[] }]++a.defers } w1:=by
  refine⟨a2u.val,a2u.ext,a2u.env,a2u.size,fun d hd=>?_,?_⟩
  .rcases a2d.1 hd with rfl|hd
   .refine⟨s.heap.length,w.heap.size,rfl,by simp[kQ,St.get];omega,⟨_,hmk⟩,by simp[s2,s1,St.get],?_⟩;have e1:w1.heap[w.heap.size]? = (w.alloc (.deferred (some []))).heap[w.heap.size]?:=vU _ _ _ (by simp);rw[e1];exact heap_alloc_new _ _
   .exact a2u.marks d hd
  .refine List.pairwise_cons.2 ⟨fun d hd e=>?_,a2u.apart⟩;obtain⟨k,r',e1,_,_,_,e5⟩:=hR.marks d hd;rw[e1]at e;have:w.heap.size=r':=by injection e with e e';injection e
   have:=(a2h.1 e5).1;omega
 have TG:M2 (.h (s.heap.length+1))=some (.obj (w.heap.size+1) []):=by simp only[M2,dJ,a0t,ank,a1U]
 have anm:s2.heap=s.heap++[.mark,.loop true f nt s.env ps.toList uJ body none]:=by simp[s2,s1]
 rw[<-anm]at hC;have hV2:=F9 QZ.val (fun _ _ _=>trivial);have hgx:VR M2.only.h (.fn f1 a1 b1) (a.eval g):=(Yq QZ.env hg);have hyx:bU M2.only.h [.kG (s.heap.length+1)] [.func (.yield (w.heap.size+1)) #[] #[]]:=.cons (.kG TG) .nil;obtain⟨d,hd,Bf⟩:=hC M2.only w1 (a.eval g) [.func (.yield (w.heap.size+1)) #[] #[]] hV2 (fun _=>rfl) hgx hyx;obtain⟨f3,as3,hinv,pF⟩:=Bf;refine⟨w.heap.size+1,[{ target:=.collected w.heap.size,args:=#[] }],w1,d,w1,f3,as3,w1,?_,?_,fun _ _=>trivial,hinv,fun h=>by simp[Fence.wide]at h,?_⟩
 .simp[Instr.enterLoop,newObj,Sem.run,w1,lp]
 .have:=hd w1;simpa[resolve,rangeCall,Act.eval]using this
 .refine CallsIn.mono (F:=nJ none) (pF (n-1)) fun en w3 VU=>?_;cases en with
  |panicked c=>exact VU.elim
  |outgrown=>exact VU.elim
  |returned y=>
   obtain⟨v,h,ws,hk,VU⟩:=VU;obtain⟨rd,f2,Q5,e2,BZ,a2,b2,jI,e,hh,hj,hq⟩:=hK v h ws hk;obtain⟨M3,hp⟩:=QU QZ.val QZ.loc (show jJ M2.only s2.heap w1 v h ws y w3 from VU);have hR3:Rel M0 h0 w0 nt M3 { s2 with heap:=h,ws:=jT h0.length (ws.map .h) s.ws } _ w3:=QZ.next hB (s':={ s2 with heap:=h,ws:=jT h0.length (ws.map .h) s.ws }) (hp.val.sub fun _ _=>.inl trivial) hp.ext rfl rfl hp.loc;obtain⟨l',g1,g2⟩:=hp.ext.Io _ _ TG;obtain⟨q3,hl3⟩:∃q3,M3 (.h (s.heap.length+1))=some (.obj (w.heap.size+1) q3):=by
    cases l' with
    |cells ls=>exact g2.elim
    |obj r' o'=>cases g2.1;exact⟨o',g1⟩
   obtain⟨fV,k1,k2⟩:=hR3.val.ok _ _ hl3 trivial;have k1':fV=.loop rd f2 Q5 e2 BZ a2 b2 jI:=by simp only[St.get,hh,a00]at k1;exact k1.symm
   subst k1';obtain⟨lp3,l1,l2⟩:=k2;have hnb:lp3.state≠.busy∧lp3.pending=sG e:=by
    unfold QA at hj;split at hj
    .cases hj;obtain⟨q1,q2⟩:=l2.ready rfl;exact⟨by rw[q1];simp,q2⟩
    .cases hj;obtain⟨q1,q2⟩:=l2.done rfl _ rfl (by simp);exact⟨by rw[q1];simp,q2⟩
    .cases hj;obtain⟨q1,q2⟩:=l2.done rfl _ rfl (by simp);exact⟨by rw[q1];simp,q2⟩
    .cases hj
   obtain⟨v4,x4⟩:=DI (s:={ s2 with heap:=h,ws:=jT h0.length (ws.map .h) s.ws }) hR3.val hl3 hh rfl (b':=.loop false f2 Q5 e2 BZ a2 b2 (some .skip)) (o':=.loop { lp3 with state:=.exhausted }) ⟨{ lp3 with state:=.exhausted },by simp[(a2h.1 l1).1],
    {ps:=l2.ps,uJ:=l2.uJ,body:=l2.body,size:=l2.size,KJ:=l2.KJ,TF:=l2.TF,nol:=l2.nol,ready:=by simp,busy:=by simp,done:=fun _ j hj iq=>by simp at hj;exact absurd hj.symm iq }⟩
   have hR4:=hR3.next hB (s':={ s with heap:=h.set (s.heap.length+1) (.loop false f2 Q5 e2 BZ a2 b2 (some .skip)),ws:=jT h0.length (ws.map .h) s.ws }) v4 x4 rfl
    (by simp only[jT,Ef];rw[a0c (by omega)]) (fun _ _ h=>h)
   refine⟨lp3.pending,{ w3 with heap:=w3.heap.setIfInBounds (w.heap.size+1) (.loop { lp3 with state:=.exhausted }) },?_,?_⟩
   .have h1:=hnb.1;cases uN:lp3.state<;>simp_all [Instr.endLoop,Instr.getLoop,getObj,setObj,Sem.run]<;>rfl
   .have h2:=hQ _ _ _ _ _ hq hR4;have h3:=hnb.2;generalize lp3.pending=pe at h2 h3 ⊢;subst h3;cases e with
    |norm=>exact h2
    |ret=>exact wpIn_ret h2
    |exit id=>exact wpIn_exit h2
theorem a5f(hC:iC P call)(hB:vZ M0 h0 w0){g:Operand}{ps:Array Tmp}{uJ body:Code}{s s':St}{e:Ex}{f1:FuncId}{a1 b1:List TV}{v:TV}{h:List HB}{ws:List Nat}{rd:Bool}{f2 Q5:Nat}{e2:List (Nat×EV)}{BZ:List Nat}{a2 b2:Code}{jI:Option Code}
  (hg:qE s.env g=some (.fn f1 a1 b1)) (hv:s.env.all isVal=true) (xO:call (.fn f1 a1 b1) [.kG (s.heap.length+1)] (s.heap++[.mark,.loop true f nt s.env ps.toList uJ body none])=some (v,h,ws))
  (hh:h[s.heap.length+1]? = some (.loop rd f2 Q5 e2 BZ a2 b2 jI)) (hj:QA rd jI=some e)
  (hs:s'={ s with heap:=h.set (s.heap.length+1) (.loop false f2 Q5 e2 BZ a2 b2 (some .skip)),ws:=jT h0.length (ws.map .h) s.ws }) :
  U0 P M0 h0 w0 nt none (.rangeFunc g ps uJ body) s e s':=by
 intro n Q M a w hR hQ;refine Rf (f:=f) (s:=s) hB (K:=fun v' h' Vy=>v'=v∧h'=h∧Vy=ws) (QT:=fun e1 s1=>e1=e∧s1=s') hg hv (fun M w x xs hV hl hx Nz=>?_) ?_ n Q M a w hR ?_
 .obtain⟨d,hd,Bf⟩:=hC _ _ _ _ _ _ xO M w x xs hV hl hx Nz;refine⟨d,hd,?_⟩;rcases Bf with⟨⟨f3,as3,h1,h2⟩,_⟩|⟨_,_,hx⟩
  .refine⟨f3,as3,h1,fun n=>CallsIn.mono (F:=nJ none) (h2 n) fun en w3 VU=>?_⟩;cases en with
   |panicked c=>exact VU.elim
   |outgrown=>exact VU.elim
   |returned y=>exact⟨v,h,ws,⟨rfl,rfl,rfl⟩,VU⟩
  .cases hx
 .rintro _ _ _ ⟨rfl,rfl,rfl⟩;exact⟨_,_,_,_,_,_,_,_,_,hh,hj,rfl,hs.symm⟩
 .rintro _ _ M' a' w' ⟨rfl,rfl⟩ Fa;exact hQ M' a' w' Fa
theorem vC(hm:P.follows .mixedOrders=true)(hC:iC P call)(hB:vZ M0 h0 w0)(hr:gQ=false->r=none):∀(c:Code) (s s':St) (e:Ex),exec P T call L f gQ h0.length nt c s=some (e,s')->U0 P M0 h0 w0 nt r c s e s':=by
 intro c
 induction c with
 |skip=>
  intro s s' e h n Q M a w hR hQ;simp only[exec,a00,a0i]at h;obtain⟨rfl,rfl⟩:=h;exact wpIn_skip (hQ _ _ _ hR)
 |label l=>
  intro s s' e h n Q M a w hR hQ;simp only[exec,a00,a0i]at h;obtain⟨rfl,rfl⟩:=h;exact wpIn_label (hQ _ _ _ hR)
 |exit id=>
  intro s s' e h n Q M a w hR hQ;simp only[exec,a00,a0i]at h;obtain⟨rfl,rfl⟩:=h;exact wpIn_exit (hQ _ _ _ hR)
 |ret=>
  intro s s' e h n Q M a w hR hQ;simp only[exec,a00,a0i]at h;obtain⟨rfl,rfl⟩:=h;exact wpIn_ret (hQ _ _ _ hR)
 |region id ops draw=>
  intro s s' e h n Q M a w hR hQ;simp only[exec]at h;split at h
  .rename_i s1 wX vw;split at h
   .rename_i hd;simp only[a00,a0i]at h;obtain⟨rfl,rfl⟩:=h;cases draw with
    |false=>exact a2m hC hB vw hR fun M' a' w' Fa _=>hQ _ _ _ (Fa.pick _)
    |true=>
     simp only[a8N,ag6,a2f]at hd;exact YH hC hB hm vw hd.1 hd.2 hR fun M' a' w' Fa _=>hQ _ _ _ (Fa.pick _)
   simp at h
  simp at h
 |seq x y VW ihy=>
  intro s s' e h n Q M a w hR hQ;simp only[exec]at h;split at h
  .rename_i s1 hx;exact wpIn_seq (VW s s1 .norm hx n _ M a w hR fun M1 a1 w1 wZ=>ihy s1 s' e h n Q M1 a1 w1 wZ hQ)
  rename_i iq;refine wpIn_seq (VW s s' e h n _ M a w hR fun M1 a1 w1 wZ=>?_);cases e with
  |norm=>exact(iq s' h).elim
  |exit id=>exact hQ _ _ _ wZ
  |ret=>exact hQ _ _ _ wZ
 |cond c x y VW ihy=>
  intro s s' e h n Q M a w hR hQ;simp only[exec]at h;have hev:∀b,qE s.env c=some (.bool b)->a.eval c=.bool b:=by intro b hb;have:=Yq hR.env hb;generalize a.eval c=z at this;cases this;rfl
  split at h
  .rename_i hc;exact wpIn_cond_true (hev _ hc) (VW s s' e h n Q M a w hR hQ)
  .rename_i hc;exact wpIn_cond_false (hev _ hc) (ihy s s' e h n Q M a w hR hQ)
  simp at h
 |block id b ih=>
  intro s s' e h n Q M a w hR hQ;simp only[exec]at h;split at h
  .rename_i i s1 hb;simp only[a00,a0i]at h;obtain⟨rfl,rfl⟩:=h;refine wpIn_block (ih s s1 (.exit i) hb n _ M a w hR fun M1 a1 w1 wZ=>?_);have:=hQ _ _ _ wZ;by_cases hi:i=id
   .simp only[hi,a1U]at this;simp only[YI,Exit.inBlock,hi,a1U];exact this
   simp only[hi,a3g]at this;simp only[YI,Exit.inBlock,hi,a3g];exact this
  rename_i iq;refine wpIn_block (ih s s' e h n _ M a w hR fun M1 a1 w1 wZ=>?_);cases e with
  |norm=>exact hQ _ _ _ wZ
  |exit i=>exact(iq i s' h).elim
  |ret=>exact hQ _ _ _ wZ
 |scope b ih=>
  intro s s' e h n Q M a w hR hQ;simp only[exec]at h;refine NJ (ih s s' e h n _ M a w hR fun M1 a1 w1 wZ=>?_);have:=hQ _ _ _ wZ;cases e<;>exact this
 |loop b ih=>
  intro s s' e h;simp only[exec]at h;exact Lu hB (live:=T.eX f (dQ b)) (fun s e s' hs=>ih _ _ _ hs) h
 |rangeFunc g ps uJ body iha ihb=>
  intro s s' e h;simp only[exec]at h;split at h
  .rename_i f1 a1 b1 hg;split at h
   .rename_i hv;simp only[a2f,a8C]at hv;rw[hr hv.2];split at h
    .rename_i v h1 ws xO;split at h
     .rename_i rd f2 Q5 e2 BZ a2 b2 jI hh;split at h
      .rename_i e' hj;simp only[a00,a0i]at h;obtain⟨rfl,rfl⟩:=h;exact a5f hC hB hg hv.1 xO hh hj rfl
      simp at h
     simp at h
    simp at h
   simp at h
  simp at h
 |_=>intro s s' e h;simp[exec]at h
end
def a2v(tmps:Array LI3):ResultVar->Sem LI3
 |.tmp t=>pure (tmps.getD t Go.undef)
 |.cell b t=>do loadVar t (<-asAddr (tmps.getD b Go.undef))
theorem YJ(fn:Func)(tmps:Array LI3):results fn tmps=(do
  let vs <-fn.results.mapM (a2v tmps)
  pure (if h:vs.size=1 then vs[0]else .tuple vs)):=by
 have key:∀g:ResultVar->Sem LI3,(∀r,g r=a2v tmps r)->(do
   let vs <-fn.results.mapM g
   pure (if h:vs.size=1 then vs[0]else Value.tuple vs):Sem LI3)=(do
   let vs <-fn.results.mapM (a2v tmps)
   pure (if h:vs.size=1 then vs[0]else Value.tuple vs)):=fun g hg=>by rw[show g=a2v tmps from funext hg]
 exact key _ fun r=>by cases r<;>rfl
section
variable {P:LI1} {T:qx} {call:aY} {L:Nat} {nt:Nat} {M0:Mp} {h0:List HB} {w0:LI4} {M:Mp} {s:St} {a:Act} {w:LI4}
theorem IL(hR:Rel M0 h0 w0 nt M s a w){r:ResultVar}{v:TV}(h:a4t P s r=some v) :
  ∃x,VR M.h v x∧(a2v a.tmps r).run P w=.ok x w:=by
 unfold a4t at h;split at h
 .rename_i t;split at h
  .rename_i v' hv;simp only[a00]at h;subst h;exact⟨_,(hR.env t _ hv).vg,rfl⟩
  .simp at h
 .rename_i b t;split at h
  .rename_i e he;simp only[a05]at h;obtain⟨⟨v',i⟩,hl,rfl⟩:=h;have hx:=hR.env b _ he;obtain⟨_,y,h1,h2⟩:=G7 hR.val hl hx (fun _ _=>trivial);refine⟨y,h1,?_⟩;show(do loadVar t (<-asAddr (a.tmps.getD b Go.undef)):Sem LI3).run P w=_;generalize a.tmps.getD b Go.undef=z at hx h2;have hz:∃ad,z=.pointer (some ad):=by
    cases hx with
    |loc hm hb=>exact⟨_,rfl⟩
    |undef|ent|Ee=>simp[loadT]at hl
    |val hv=>
     cases hv with
     |ptr=>exact⟨_,rfl⟩
     |_=>simp[loadT]at hl
   obtain⟨ad,rfl⟩:=hz;simpa[asAddr,Instr.loadAt,Instr.sureAddr]using h2
  .simp at h
theorem a0u(hR:Rel M0 h0 w0 nt M s a w):∀{rs:List ResultVar} {vs:List TV},xG P s rs=some vs ->
  ∃xs,bU M.h vs xs∧(rs.mapM (a2v a.tmps)).run P w=.ok xs w
 | [],vs,h=>by simp[xG]at h;subst h;exact⟨[],.nil,by simp⟩
 |r::rs,vs,h=>by
  simp only[xG]at h;split at h
  .rename_i v vs' h1 h2;simp only[a00]at h;subst h;obtain⟨x,g1,g2⟩:=IL hR h1;obtain⟨xs,g3,g4⟩:=a0u hR h2;exact⟨x::xs,.cons g1 g3,by simp only[List.mapM_cons,Sem.run_bind,g2,g4,Result.andThen_ok,Sem.run_pure]⟩
  .simp at h
theorem NM(hR:Rel M0 h0 w0 nt M s a w){fn:Func}{vs:List TV}(h:xG P s fn.results.toList=some vs):∃y,VR M.h (one vs) y∧(results fn a.tmps).run P w=.ok y w:=by
 obtain⟨xs,h1,h2⟩:=a0u hR h;have vw:(results fn a.tmps).run P w=.ok (if h:xs.toArray.size=1 then xs.toArray[0]else .tuple xs.toArray) w:=by rw[YJ,Array.mapM_eq_mapM_toList];simp only[Sem.run_bind,Sem.run_map,h2,Result.andThen_ok,Sem.run_pure]
 refine⟨_,?_,vw⟩
 match vs,xs,h1 with
 | [],xs,h1=>
  have:=h1.pR;subst this;exact .Q7 .nil
 | [v],xs,h1=>
  obtain⟨x,xs',rfl,hx,EW⟩:=h1.iM;have:=EW.pR;subst this;exact hx
 |v::v'::vs,xs,h1=>
  obtain⟨x,xs',rfl,hx,EW⟩:=h1.iM;obtain⟨x',atC,rfl,hy,hy'⟩:=EW.iM;simp only[one,List.size_toArray,a4b];rw[dif_neg (by omega)];exact .Q7 h1
theorem a2w(hB:vZ M0 h0 w0){d:Deferred}{ds:List Deferred}(hR:Rel M0 h0 w0 nt M s a w)(hd:a.defers=d::ds) :
  ∃r w',d.target=.collected r∧(Instr.takeDeferred r).run P w=.ok [] w'∧Rel M0 h0 w0 nt M s { a with defers:=ds } w':=by
 obtain⟨k,r,rfl,h2,⟨o,h3⟩,h4,h5⟩:=hR.marks d (by rw[hd];exact a2O);have aT:=(a2h.1 h5).1;have hap:=hR.apart;rw[hd]at hap;obtain⟨ha1,ha2⟩:=List.pairwise_cons.1 hap;refine⟨r,{ w with heap:=w.heap.setIfInBounds r (.deferred none) },rfl,?_,?_⟩
 .simp[Instr.takeDeferred,getObj,setObj,Sem.run,h5]
 have YK:∀c,c≠r->(w.heap.setIfInBounds r (.deferred none))[c]? = w.heap[c]?:=fun c hc=>by rw[a8J,a0c (fun e=>hc e.symm)]
 refine⟨⟨?_,hR.val.own,fun k l hk c hc=>by simpa using hR.val.inb k l hk c hc⟩,?_,hR.env,hR.size,?_,ha2⟩
 .intro k' l o8 _;obtain⟨b,g1,g2⟩:=hR.val.ok k' l o8 trivial;refine⟨b,g1,?_⟩;by_cases Ey:r∈aI l
  .cases b with
   |cells kk cs=>
    cases l with
    |obj r' _=>exact g2.elim
    |cells ls=>
     obtain⟨p,hp,e⟩:=a1g.1 Ey;obtain⟨arr,ty,fz,e1,_⟩:=(g2.2.1 p hp).row;rw[e,h5]at e1;cases e1
   |mP cs=>
    cases l with
    |obj r' _=>exact g2.elim
    |cells ls=>
     obtain⟨p,hp,e⟩:=a1g.1 Ey;obtain⟨_,_,g2⟩:=g2;obtain⟨arr,ty,fz,e1,_⟩:=(g2.2.1 p hp).row;rw[e,h5]at e1;cases e1
   |map es=>
    cases l with
    |cells ls=>exact g2.elim
    |obj r' _=>
     simp[aI]at Ey;subst Ey;obtain⟨xs,e1,_⟩:=g2;rw[h5]at e1;cases e1
   |cO m n seen=>
    cases l with
    |cells ls=>exact g2.elim
    |obj r' _=>
     simp[aI]at Ey;subst Ey;obtain⟨_,_,_,_,e1,_⟩:=g2;rw[h5]at e1;cases e1
   |loop rd f nt env ps a b jI=>
    cases l with
    |cells ls=>exact g2.elim
    |obj r' _=>
     simp[aI]at Ey;subst Ey;obtain⟨lp,e1,_⟩:=g2;rw[h5]at e1;cases e1
   |mark=>
    cases l with
    |cells ls=>exact g2.elim
    |obj r' _=>
     show r'<(w.heap.setIfInBounds r (.deferred none)).size;have g2':r'<w.heap.size:=g2;simpa using g2'
  .exact g2.mono (.refl _) fun c hc=>YK c fun e=>Ey (e▸hc)
 .have hX:=hR.ext;refine⟨hX.Io,fun c hc hf=>?_,hX.nD,hX.kX,hX.fresh,by simpa using hX.size,hX.has,hX.wsub,hX.wrote,hX.os,hX.output,hX.tape⟩;rw[<-hX.frame c hc hf];refine YK c fun e=>?_;obtain⟨l0,g1,_⟩:=hX.fresh _ _ h3 c (by simp[aI,e]) hc;have:=hB.val.has g1;rw[h2]at this;cases this
 .intro d' YA;obtain⟨k',r',e1,e2,e3,e4,e5⟩:=hR.marks d' (by rw[hd];exact a2P _ YA);refine⟨k',r',e1,e2,e3,e4,?_⟩;rw[YK r' fun e=>ha1 d' YA (by rw[e1,e]),e5]
theorem NP(hB:vZ M0 h0 w0){F:Fence}{n:Nat}{fn:Func}{R:Ending->LI4->Prop}:∀(ds:List Deferred) (a:Act) (w:LI4),a.defers=ds->Rel M0 h0 w0 nt M s a w ->
  (∀w',Rel M0 h0 w0 nt M s { a with defers:=[] } w'->∃v,(results fn a.tmps).run P w'=.ok v w'∧R (.returned v) w')->LeavesInM F n P fn a.tmps R ds .returning w
 | [],a,w,hd,hR,hK=>by
  simp only[LeavesInM,LeavesIn];exact hK w (by
   have:a={ a with defers:=[] }:=by cases a;simp at hd;subst hd;rfl
   rw[<-this];exact hR)
 |d::ds,a,w,hd,hR,hK=>by obtain⟨r,w',h1,h2,h3⟩:=a2w (P:=P) hB hR hd;refine⟨by simp,.inl ⟨r,w',h1,h2,?_⟩⟩;exact NP hB ds { a with defers:=ds } w' rfl h3 hK
end
section
variable {P:LI1} {T:qx} {call:aY} {L:Nat} {nt:Nat} {M:Mp} {h:List HB} {w:LI4} {M':Mp} {s:St} {a:Act} {w':LI4}
theorem YL(hB:vZ M h w)(hR:Rel M h w nt M' s a w'){v:TV}{y:LI3}(hv:VR M'.h v y):jJ M h w v s.heap s.ws y w':=by
 refine⟨M'.only,F9 hR.val (fun _ _ _=>trivial),fun _=>rfl,?_,hv⟩;have hX:=hR.ext;have hk:∀k,(kQ h k).isSome=true->∃b,k=.h b:=fun k hk=>let ⟨b,e,_⟩:=Ci hk;⟨b,e⟩
 exact
  {Io:=fun k l hl=>by
    cases k with
    |l j=>rw[hB.loc j]at hl;cases hl
    |h b=>exact hX.Io _ _ hl
   frame:=hX.frame
   nD:=fun k e hn=>by obtain⟨b,rfl⟩:=hk k e;exact hX.nD _ e hn
   kX:=fun k e hn=>by
    cases k with
    |h b=>exact hX.kX (.h b) e hn
    |l j=>exact(hB.loc j).symm
   fresh:=fun k l hl=>by
    cases k with
    |h b=>exact hX.fresh (.h b) l hl
    |l j=>cases hl
   size:=hX.size
   has:=fun k e=>by obtain⟨b,rfl⟩:=hk k e;exact hX.has _ e
   wsub:=hX.wsub
   wrote:=hX.wrote
   os:=hX.os
   output:=hX.output
   tape:=hX.tape }
theorem IQ{N:Np}:∀{args:List TV} {xs:List LI3} {k t:Nat} {e:EV},bU N args xs->dL t (nI k args)=some e->∃i v x,t=k+i∧e=.val v∧xs[i]? = some x∧VR N v x
 | [],xs,k,t,e,h,hl=>by simp[nI,dL]at hl
 |v::vs,xs,k,t,e,h,hl=>by
  obtain⟨x,xs',rfl,h1,h2⟩:=h.iM;simp only[nI,dL]at hl;split at hl
  .rename_i hk;cases hl;exact⟨0,v,x,by omega,rfl,rfl,h1⟩
  obtain⟨i,v',x',e1,e2,e3,e4⟩:=IQ h2 hl;exact⟨i+1,v',x',by omega,e2,by simpa using e3,e4⟩
end
open Go.ChangeMaps
def zZ(ops:Array Oper):Option (Nat×Nat×Oper×Oper):=
 match ops.toList with
 | [a,b]=>match a.op,a.dst,a.guard with
  |.next (.tmp it) false,some nx,none=>if a.after.toList.all (fun e=>!Region.binds .any e)&&b.after.toList.any (fun e=>Region.binds .any e&&e.on==0)&&b.after.toList.all (fun e=>!Region.binds .any e||e.on==0)then some (it,nx,a,b)else none
  |_,_,_=>none
 |_=>none
def a0v(fl:Nat)(s:St)(it:Nat)(K:St->TV->Prop):Prop:=
 ∃b r n seen es,dL it s.env=some (.val (.iter b))∧s.heap[b]? = some (.cO r n seen)∧s.heap[r]? = some (.map es)∧es.length=n ∧
  ((∀j,j<n->j∈seen)->K s (.dG [.bool false])) ∧
  ∀j e,j∉seen->es[j]? = some e->K { s with heap:=s.heap.set b (.cO r n (j::seen)),ws:=jT fl [.h b] s.ws } (.dG [.bool true,e.1,e.2])
def Gt(g:St->(Ex->St->Prop)->Prop):Nat->St->(Ex->St->Prop)->Prop
 | 0,_,_=>False
 |n+1,s,Q=>g s fun e s=>match e with
  |.norm=>Gt g n s Q
  |e=>Q e s
abbrev uU:=TV->List TV->List HB->(TV->List HB->List Nat->Prop)->Prop
def Cm:uU:=fun _ _ _ _=>False
def a5g(T:qx)(env:List (Nat×EV))(g:Operand):Bool:=match qE env g with
 |some (.fn f1 _ _)=>T.din.contains f1
 |_=>false
def adN(cd:uU)(f fl nt:Nat)(g:Operand)(ps:Array Tmp)(uJ body:Code)(s:St)(Q:Ex->St->Prop):Prop:=
 ∃f1 a1 b1,qE s.env g=some (.fn f1 a1 b1)∧s.env.all isVal=true∧cd (.fn f1 a1 b1) [.kG (s.heap.length+1)] (s.heap++[.mark,.loop true f nt s.env ps.toList uJ body none]) fun _ h ws=>
  ∃rd f2 Q5 e2 BZ a2 b2 jI e,h[s.heap.length+1]? = some (.loop rd f2 Q5 e2 BZ a2 b2 jI)∧QA rd jI=some e∧Q e { s with heap:=h.set (s.heap.length+1) (.loop false f2 Q5 e2 BZ a2 b2 (some .skip)),ws:=jT fl (ws.map .h) s.ws }
def fF(P:LI1)(T:qx)(call:aY)(cd:uU)(L:Nat)(f:Nat)(fl nt:Nat):Code->St->(Ex->St->Prop)->Prop
 |.region id ops draw,s,Q=>match zZ ops with
  |some (it,nx,_,b)=>nx<nt∧a0v fl s it fun s v=>∃s2 is,kW P call (fun d=>T.TB f d) fl nt ops [b] (s.put (some nx) (.val v))=some (s2,is)∧Q .norm { s2 with env:=pick (T.iw f id) s2.env }
  |none=>∃e s',exec P T call L f false fl nt (.region id ops draw) s=some (e,s')∧Q e s'
 |.seq a b,s,Q=>fF P T call cd L f fl nt a s fun e s=>match e with
  |.norm=>fF P T call cd L f fl nt b s Q
  |e=>Q e s
 |.cond c a b,s,Q=>match qE s.env c with
  |some (.bool true)=>fF P T call cd L f fl nt a s Q
  |some (.bool false)=>fF P T call cd L f fl nt b s Q
  |_=>False
 |.block id b,s,Q=>fF P T call cd L f fl nt b s fun e s=>Q (match e with|.exit i=>if i=id then .norm else .exit i|e=>e) s
 |.scope b,s,Q=>fF P T call cd L f fl nt b s Q
 |.loop b,s,Q=>Gt (fun s Q=>fF P T call cd L f fl nt b (jU (T.eX f (dQ b)) s) Q) L s Q
 |.rangeFunc g ps uJ body,s,Q=>if a5g T s.env g=true then adN cd f fl nt g ps uJ body s Q else ∃e s',exec P T call L f false fl nt (.rangeFunc g ps uJ body) s=some (e,s')∧Q e s'
 |c,s,Q=>∃e s',exec P T call L f false fl nt c s=some (e,s')∧Q e s'
section
variable {P:LI1} {T:qx} {call:aY} {L f:Nat} {nt:Nat} {M0:Mp} {h0:List HB} {w0:LI4} {r:Option Nat} {ops:Array Oper} {M:Mp} {s:St} {a:Act} {w:LI4}
theorem adO(hm:P.follows .mixedOrders=true){id:Nat}{o1 o2:Oper}{draw:Bool}{F:Fence}{n:Nat}{Q:Exit->Act->LI4->Prop}(a9a:ops=#[o1,o2])(h1:o1.after.toList.all (fun e=>!Region.binds .any e)=true)(h2:o2.after.toList.any (fun e=>Region.binds .any e&&e.on==0)=true)(h3:o2.after.toList.all (fun e=>!Region.binds .any e||e.on==0)=true)
  (h:∀w',(w'=w∨w'={ w with drawn:=w.drawn+1 })->wpOpIn F n P ops Q 0 (wpOpIn F n P ops Q 1 (Q .normal)) a w'):(Code.region id ops draw).wpIn F n P Q a w:=by
 cases draw with
 |false=>
  refine wpIn_region ?_;have:=h w (.inl rfl);have e:List.range ops.size=[0,1]:=by rw[a9a];rfl
  rw[e,wpOpsIn_cons];refine wpOpIn_mono (fun a w hx=>?_) this;rw[wpOpsIn_cons];exact wpOpIn_mono (fun a w hx=>hx) hx
 |true=>
  refine wpIn_region_any hm ?_;have uT:ops.size=2:=by rw[a9a];rfl
  have w1:∀D,uo D o1:=fun D e he hb=>by have:=a4o.1 h1 e (by simpa using he);simp[hb]at this
  have w2:∀D,uo D o2->D 0:=fun D hD=>by
   obtain⟨e,he,hb⟩:=agl.1 h2;simp only[a2f,a7r]at hb;have:=hD e (by simpa using he) hb.1
   rwa [hb.2]at this
  have g0:ops[0]? = some o1:=by rw[a9a];rfl
  have g1:ops[1]? = some o2:=by rw[a9a];rfl
  have g2:∀i,2<=i->ops[i]? = none:=fun i hi=>Array.getElem?_eq_none (by omega);rw[uT];have r0:∀i,i∈Region.ready .any ops (Array.replicate 2 false)↔i=0:=by
   intro i;rw[sK (by simp[uT])];constructor
   .rintro⟨o,ho,_,hw⟩
    match i with
    | 0=>rfl
    | 1=>
     rw[g1]at ho;cases ho;have:=w2 _ hw;simp at this
    |i+2=>rw[g2 _ (by omega)]at ho;cases ho
   .rintro rfl;exact⟨o1,g0,by simp,w1 _⟩
  have r1:∀i,i∈Region.ready .any ops ((Array.replicate 2 false).setIfInBounds 0 true)↔i=1:=by
   intro i;rw[sK (by simp[uT])];constructor
   .rintro⟨o,ho,hl,_⟩
    match i with
    | 0=>simp at hl
    | 1=>rfl
    |i+2=>rw[g2 _ (by omega)]at ho;cases ho
   .rintro rfl;refine⟨o2,g1,by simp,fun e he hb=>?_⟩;have:=a4o.1 h3 e (by simpa using he);simp only[hb,a8N,ag6,a7r]at this;rw[this];simp
  have r2:Region.ready .any ops (((Array.replicate 2 false).setIfInBounds 0 true).setIfInBounds 1 true)=[]:=by
   refine a4Y.2 fun i hi=>?_;obtain⟨o,ho,hl,_⟩:=(sK (by simp[uT])).1 hi
   match i with
   | 0=>simp at hl
   | 1=>simp at hl
   |i+2=>rw[g2 _ (by omega)]at ho;cases ho
  refine⟨fun h0=>?_,fun i hi=>?_⟩
  .have:=(r0 0).2 rfl;rw[h0]at this;cases this
  .have:=(r0 i).1 hi;subst this;refine wpOpIn_mono (fun a w hx=>?_) (h _ (.inr rfl));refine⟨fun h0=>?_,fun i hi=>?_⟩
   .have:=(r1 1).2 rfl;rw[h0]at this;cases this
   .have:=(r1 i).1 hi;subst this;exact wpOpIn_mono (fun a w hx=>⟨r2,hx⟩) hx
theorem Rel.ahL(hR:Rel M0 h0 w0 nt M s a w){d:Nat}{v:EV}{x:LI3}(hd:d<nt)(hx:ER M v x):Rel M0 h0 w0 nt M (s.put (some d) v) (a.put (some d) x) w:=by
 have hg:(s.put (some d) v).get=s.get:=getEnv s _ _;refine⟨by rw[hg];exact hR.val,by rw[hg];exact hR.ext,?_,by rw[Gn];exact hR.size,?_,by rw[jK];exact hR.apart⟩
 .intro t e hl;rw[yR]at hl;rw[yS];by_cases YA:some d=some t
  .rw[a0g YA]at hl;have:=hR.size;cases YA;rw[a0g ⟨rfl,by omega⟩];cases hl;exact hx
  rw[a0c YA]at hl;rw[a0c (fun h=>YA h.1)];exact hR.env t e hl
 rw[jK,hg];exact hR.marks
theorem a9b(hB:vZ M0 h0 w0){F:Fence}{n:Nat}{Q:Exit->Act->LI4->Prop}{o:Oper}{it nx i:Nat}{K:Act->LI4->Prop}{K':St->TV->Prop}(ho:ops[i]? = some o)(kH:o.op=.next (.tmp it) false)(adL:o.dst=some nx)(hg:o.guard=none)(hd:nx<nt)
  (hR:Rel M0 h0 w0 nt M s a w) (hN:a0v h0.length s it K') (hK:∀s1 v a1 w1,K' s1 v->Rel M0 h0 w0 nt M (s1.put (some nx) (.val v)) a1 w1->K a1 w1):wpOpIn F n P ops Q i K a w:=by
 obtain⟨b,r,n',seen,es,Qb,hb,hr,hn,ahM,ahN⟩:=hN;have hx:=hR.env it _ Qb;obtain⟨r',o',hm⟩:∃r' o',a.tmps.getD it Go.undef=.pointer (some ⟨r',0,none⟩)∧M (.h b)=some (.obj r' o'):=by
  generalize a.tmps.getD it Go.undef=xv at hx;cases hx with
  |val hx=>cases hx with
   |iter h=>exact⟨_,_,rfl,h⟩
 obtain⟨hm,hmb⟩:=hm;obtain⟨fV,c1,c2⟩:=hR.val.ok _ _ hmb trivial;simp only[St.get,hb,a00]at c1;subst c1;obtain⟨rb,q,sa,d1,d2,d3,d4⟩:=c2;obtain⟨fV,c1,c2⟩:=hR.val.ok (.h r) _ d1 trivial;simp only[St.get,hr,a00]at c1;subst c1;obtain⟨xs,g1,g2⟩:=c2;have hnn:xs.size=n':=by rw[<-g2.len];exact hn
 have hold:∀x∈xs.toList,x.born<n':=fun x hx=>by
  obtain⟨k,hk⟩:=a8I.1 hx;have o8:xs[k]? = some x:=by simpa using hk
  rw[(g2.at_ k x o8).1,<-hnn];exact(a2h.1 o8).1
 have abH:∀k j,q[k]? = some j->(k∈sa.toList↔j∈seen):=by
  intro k j hkj;have e1:k∈sa.toList->j∈seen:=fun hk=>by have:(q[k]?:Option Nat)∈sa.toList.map (fun i=>q[i]?):=a1g.2 ⟨k,hk,rfl⟩;rw[d4,hkj]at this;obtain⟨j',h1,h2⟩:=a1g.1 this;cases h2;simpa using h1
  have e2:j∈seen->k∈sa.toList:=fun hj=>by have:some j∈seen.reverse.map some:=a1g.2 ⟨j,by simpa using hj,rfl⟩;rw[<-d4]at this;obtain⟨k',h1,h2⟩:=a1g.1 this;have i1:=a01.1 h2;have i2:=a01.1 hkj;have:=(a9P g2.nod (h₀:=i1.1) (h₁:=i2.1)).1 (i1.2.trans i2.2.symm);rw[<-this];exact h1
  exact⟨e1,e2⟩
 have abI:∀x,x∈(leftOf xs sa).toList↔x∈xs.toList∧x.born∉sa.toList:=fun x=>by simp[leftOf]
 have abJ:a.eval (.tmp it)=.pointer (some ⟨r',0,none⟩):=by simpa[Act.eval]using hm
 unfold wpOpIn;rw[ho];have hw:Region.wanted o (yielded ops a.tmps)=true:=by simp[Region.wanted,hg]
 simp only[hw,a1U];refine⟨fun f hf=>by simp[Oper.about,kH]at hf,?_⟩;rcases run_next_at (P:=P) w o.type r' rb n' n' sa xs xs.size d2 g1 hold (a0U _)with⟨h1,h2⟩|⟨e,h1,w1,h2,h3⟩
 .have vw:(o.semAt F.round a.eval).run P w=.ok (.value (.tuple #[.bool false])) w:=by simp[Oper.semAt,execOp,kH,abJ,h2]
  rw[vw,Oper.uponIn_value,adL];refine hK s _ _ _ (ahM fun j hj=>?_) (hR.ahL hd (.val (.Q7 (.cons (.bool false) .nil))));obtain⟨k,hk⟩:=a8I.1 (g2.sur j (by omega));refine(abH k j hk).1 ?_;apply abN;intro hns;have hkx:k<xs.size:=by rw[<-g2.ord];exact(a01.1 hk).1
  have:xs[k]∈(leftOf xs sa).toList:=(abI _).2 ⟨by simp,by rw[(g2.at_ k _ (a3Q hkx)).1];exact hns⟩;have h0:(leftOf xs sa).toList=[]:=a3Y (by simpa using h1);rw[h0]at this;cases this
 .obtain⟨hex,Lh⟩:=(abI e).1 h1;obtain⟨k,hk⟩:=a8I.1 hex;have o8:xs[k]? = some e:=by simpa using hk
  obtain⟨z1,j,e',z2,z3,z4,z5⟩:=g2.at_ k e o8;have hj:j∉seen:=fun h=>Lh (by rw[z1];exact(abH k j z2).2 h);have wZ:Rel M0 h0 w0 nt M s a w1:=by
   rcases h2 with rfl|rfl
   .exact hR
   .exact⟨hR.val.of_heap rfl,hR.ext.drew rfl rfl rfl rfl,hR.env,hR.size,hR.marks,hR.apart⟩
  have hh:w1.heap=w.heap:=by rcases h2 with rfl|rfl<;>rfl
  have vw:(o.semAt F.round a.eval).run P w=.ok (.value (.tuple #[.bool true,e.key,e.val])) (setBlock w1 r' (.mapIter (some rb) n' (sa.push e.born) xs.size)):=by simp[Oper.semAt,execOp,kH,abJ,h3]
  rw[vw,Oper.uponIn_value,adL];have aT:r'<w1.heap.size:=by rw[hh];exact(a2h.1 d2).1
  obtain⟨v4,x4⟩:=DI (o':=.mapIter (some rb) n' (sa.push e.born) xs.size) (b':=.cO r n' (j::seen)) wZ.val hmb hb rfl ⟨rb,q,sa.push e.born,d1,by simp[aT,hnn],d3,by
   rw[Array.toList_push,a3Z,d4,z1];simp[z2]⟩
  have QZ:=wZ.next hB (s':={ s with heap:=s.heap.set b (.cO r n' (j::seen)),ws:=jT h0.length [.h b] s.ws }) v4 x4 rfl rfl (fun _ _ h=>h);exact hK _ _ _ _ (ahN j e' hj z3) (QZ.ahL hd (.val (.Q7 (.cons (.bool true) (.cons z4 (.cons z5 .nil))))))
theorem U1{it nx:Nat}{o1 o2:Oper}(h:zZ ops=some (it,nx,o1,o2)):ops=#[o1,o2]∧o1.op=.next (.tmp it) false∧o1.dst=some nx∧o1.guard=none∧o1.after.toList.all (fun e=>!Region.binds .any e)=true∧o2.after.toList.any (fun e=>Region.binds .any e&&e.on==0)=true∧o2.after.toList.all (fun e=>!Region.binds .any e||e.on==0)=true:=by
 unfold zZ at h;split at h
 .rename_i x y hl;split at h
  .rename_i it' nx' h1 h2 h3;split at h
   .rename_i hc;simp only[a00,a0i]at h;obtain⟨rfl,rfl,rfl,rfl⟩:=h;simp only[a2f]at hc;exact⟨adC (by simpa using hl),h1,h2,h3,hc.1.1,hc.1.2,hc.2⟩
   cases h
  cases h
 cases h
def LC(P:LI1)(M0:Mp)(h0:List HB)(w0:LI4)(nt:Nat)(c:Code)(s:St)(QT:Ex->St->Prop):Prop:=
 ∀(n:Nat) (Q:Exit->Act->LI4->Prop) (M:Mp) (a:Act) (w:LI4),Rel M0 h0 w0 nt M s a w->(∀e s' M' a' w',QT e s'->Rel M0 h0 w0 nt M' s' a' w'->Q (YI e) a' w')->c.wpIn (nJ none) n P Q a w
theorem a5h(hB:vZ M0 h0 w0){c:Code}{live:List Nat}{g:St->(Ex->St->Prop)->Prop}(ih:∀s QT,g s QT->LC P M0 h0 w0 nt c (jU live s) QT){k:Nat}{s:St}{QT:Ex->St->Prop}
  (h:Gt g k s QT):LC P M0 h0 w0 nt (.loop c) s QT:=by
 intro n Q M a w hR hQ
 let J:Act->LI4->Nat->Prop:=fun a w k=>∃s M,Gt g k s QT∧Rel M0 h0 w0 nt M s a w
 refine wpIn_loop (fun a w=>∃k,J a w k) (fun a w=>leastOf (J a w)) ⟨k,s,M,h,hR⟩ ?_;intro a1 w1 hI;obtain⟨⟨s1,M1,Qb,wZ⟩,_⟩:=leastOf_spec hI;generalize leastOf (J a1 w1)=k1 at Qb ⊢;cases k1 with
 |zero=>exact Qb.elim
 |succ k1=>
  refine ih s1 _ Qb n _ _ a1 w1 (wZ.head hB live) fun e s2 M2 a2 w2 hq QZ=>?_;cases e with
  |norm=>
   have hJ:J a2 w2 k1:=⟨s2,M2,hq,QZ⟩;exact⟨⟨k1,hJ⟩,Nat.lt_succ_of_le ((leastOf_spec ⟨k1,hJ⟩).2 k1 hJ)⟩
  |exit id=>exact hQ _ _ M2 a2 w2 hq QZ
  |ret=>exact hQ _ _ M2 a2 w2 hq QZ
def LD(P:LI1)(cd:uU):Prop:=
 ∀f1 a1 b1 args h K,cd (.fn f1 a1 b1) args h K->∀(M:Mp) (w:LI4) (x:LI3) (xs:List LI3),Valid M uK (kQ h) w->(∀k,M (.l k)=none)->VR M.h (.fn f1 a1 b1) x->bU M.h args xs ->
  ∃d,(∀w,(Deferred.ofValue x xs.toArray).run P w=.ok d w)∧Lj P d w fun y w'=>∃v h' ws,K v h' ws∧jJ M h w v h' ws y w'
theorem a5i(hm:P.follows .mixedOrders=true)(hC:iC P call){cd:uU}(hD:LD P cd)(hB:vZ M0 h0 w0):∀(c:Code) (s:St) (QT:Ex->St->Prop),fF P T call cd L f h0.length nt c s QT->LC P M0 h0 w0 nt c s QT:=by
 have plain:∀(c:Code) (s:St) (QT:Ex->St->Prop),(∃e s',exec P T call L f false h0.length nt c s=some (e,s')∧QT e s')->LC P M0 h0 w0 nt c s QT:=by rintro c s QT ⟨e,s',h1,h2⟩ n Q M a w hR hQ;exact vC (gQ:=false) hm hC hB (fun _=>rfl) c s s' e h1 n Q M a w hR fun M' a' w' Fa=>hQ e s' M' a' w' h2 Fa
 intro c
 induction c with
 |region id ops draw=>
  intro s QT h;simp only[fF]at h;split at h
  .rename_i it nx o1 o2 hn;obtain⟨hd,hN⟩:=h;obtain⟨e1,e2,e3,e4,e5,e6,e7⟩:=U1 hn;intro n Q M a w hR hQ;refine adO hm e1 e5 e6 e7 fun w' hw'=>?_;have Fa:Rel M0 h0 w0 nt M s a w':=by
    rcases hw' with rfl|rfl
    .exact hR
    exact⟨hR.val.of_heap rfl,hR.ext.drew rfl rfl rfl rfl,hR.env,hR.size,hR.marks,hR.apart⟩
   refine a9b hB (i:=0) (o:=o1) (by rw[e1];rfl) e2 e3 e4 hd Fa hN ?_;rintro s1 v a1 w1 ⟨s2,is,vw,hq⟩ wZ;have YM:ops[1]? = some o2:=by rw[e1];rfl
   obtain⟨i,s3,is',hS,hr,_⟩:=Cj vw;simp only[kW,a00,a0i]at hr;obtain⟨rfl,rfl⟩:=hr;refine(Gp hC wZ hS).2 none n Q 1 _ YM fun x w2 uN=>?_;obtain⟨M',QZ⟩:=NC hB wZ hS uN;exact hQ .norm _ _ _ _ hq (QZ.pick _)
  exact plain _ _ _ h
 |seq x y VW ihy=>
  intro s QT h n Q M a w hR hQ;simp only[fF]at h;refine wpIn_seq (VW s _ h n _ M a w hR fun e s1 M1 a1 w1 hq wZ=>?_);cases e with
  |norm=>exact ihy s1 _ hq n Q M1 a1 w1 wZ hQ
  |exit id=>exact hQ _ _ _ _ _ hq wZ
  |ret=>exact hQ _ _ _ _ _ hq wZ
 |cond c x y VW ihy=>
  intro s QT h n Q M a w hR hQ;simp only[fF]at h;have hev:∀b,qE s.env c=some (.bool b)->a.eval c=.bool b:=by intro b hb;have:=Yq hR.env hb;generalize a.eval c=z at this;cases this;rfl
  split at h
  .rename_i hc;exact wpIn_cond_true (hev _ hc) (VW s _ h n Q M a w hR hQ)
  .rename_i hc;exact wpIn_cond_false (hev _ hc) (ihy s _ h n Q M a w hR hQ)
  exact h.elim
 |block id b ih=>
  intro s QT h n Q M a w hR hQ;simp only[fF]at h;refine wpIn_block (ih s _ h n _ M a w hR fun e s1 M1 a1 w1 hq wZ=>?_);have:=hQ _ _ _ _ _ hq wZ;cases e with
  |norm=>exact this
  |ret=>exact this
  |exit i=>
   by_cases hi:i=id
   .simp only[hi,a1U]at this;simp only[YI,Exit.inBlock,hi,a1U];exact this
   simp only[hi,a3g]at this;simp only[YI,Exit.inBlock,hi,a3g];exact this
 |scope b ih=>
  intro s QT h n Q M a w hR hQ;simp only[fF]at h;refine NJ (ih s _ h n _ M a w hR fun e s1 M1 a1 w1 hq wZ=>?_);have:=hQ _ _ _ _ _ hq wZ;cases e<;>exact this
 |loop b ih=>
  intro s QT h;simp only[fF]at h;exact a5h hB (live:=T.eX f (dQ b)) (fun s QT hs=>ih _ _ hs) h
 |rangeFunc g ps uJ body=>
  intro s QT h;simp only[fF]at h;split at h
  .obtain⟨f1,a1,b1,hg,hv,hc⟩:=h;intro n Q M a w hR hQ;exact Rf hB hg hv (fun M w x xs=>hD _ _ _ _ _ _ hc M w x xs) (fun v h ws hk=>hk) n Q M a w hR hQ
  exact plain _ _ _ h
 |_=>
  intro s QT h;simp only[fF]at h;exact plain _ _ _ h
end
def nG(g:Nat->Option Nat):TV->Option TV
 |.ptr b o l=>(g b).map fun b=>.ptr b o l
 |.aP b o n c z e=>(g b).map fun b=>.aP b o n c z e
 |.map r=>(g r).map .map
 |.kG _=>none
 |.iter _=>none
 |.fn f a c=>match yX g a,yX g c with
  |some a,some c=>some (.fn f a c)
  |_,_=>none
 |.agg cs=>(yX g cs).map .agg
 |.dG cs=>(yX g cs).map .dG
 |.bool b=>some (.bool b)
 |.int k n=>some (.int k n)
 |.str s=>some (.str s)
 |.nil k=>some (.nil k)
where
 yX (g:Nat->Option Nat):List TV->Option (List TV)
 | []=>some []
 |c::cs=>match nG g c,yX g cs with
  |some v,some vs=>some (v::vs)
  |_,_=>none
theorem NQ{g:Nat->Option Nat}:∀{az Yg:List TV},nG.yX g az=some Yg->az.length=Yg.length∧∀(i:Nat) c',Yg[i]? = some c'->∃c,az[i]? = some c∧nG g c=some c'
 | [],Yg,h=>by cases h;exact⟨rfl,fun i c h=>by simp at h⟩
 |a::az,Yg,h=>by
  simp only[nG.yX]at h;split at h
  .rename_i v vs e1 e2;cases h;obtain⟨h1,h2⟩:=NQ e2;refine⟨by simp[h1],fun i c' hi=>?_⟩;cases i with
   |zero=>simp at hi;subst hi;exact⟨a,rfl,e1⟩
   |succ i=>exact h2 i c' (by simpa using hi)
  cases h
section
variable {g:Nat->Option Nat} {N N':Np}
theorem LG(hg:∀b b',g b=some b'->N' b'=N b){v:TV}{x:LI3}(h:VR N v x):∀{v'},nG g v=some v'->VR N' v' x:=by
 have dB:∀{az:List TV} {xs:List LI3},az.length=xs.length->(∀(i:Nat) (c:TV) (v:LI3),az[i]? = some c->xs[i]? = some v->∀{v'},nG g c=some v'->VR N' v' v)->∀{Yg},nG.yX g az=some Yg->Yg.length=xs.length∧∀(i:Nat) (c:TV) (v:LI3),Yg[i]? = some c->xs[i]? = some v->VR N' c v:=by intro az xs hl ha Yg hr;obtain⟨h1,h2⟩:=NQ hr;exact⟨by rw[<-h1,hl],fun i c v e1 e2=>by obtain⟨c0,f1,f2⟩:=h2 i c e1;exact ha i c0 v f1 e2 f2⟩
 induction h with
 |bool b=>intro v' h;cases h;exact .bool b
 |int k n=>intro v' h;cases h;exact .int k n
 |str s=>intro v' h;cases h;exact .str s
 |a1Z=>intro v' h;cases h;exact .a1Z
 |TD=>intro v' h;cases h;exact .TD
 |Ym=>intro v' h;cases h;exact .Ym
 |nfn=>intro v' h;cases h;exact .nfn
 |a2a=>intro v' h;cases h;exact .a2a
 |ptr hb hp h ht=>
  intro v' hr;simp only[nG,a05]at hr;obtain⟨b',e,rfl⟩:=hr;exact .ptr (by rw[hg _ _ e];exact hb) hp h ht
 |aP hb hp h hl hc hx ha hk=>
  intro v' hr;simp only[nG,a05]at hr;obtain⟨b',e,rfl⟩:=hr;exact .aP (by rw[hg _ _ e];exact hb) hp h hl hc hx ha hk
 |map h=>
  intro v' hr;simp only[nG,a05]at hr;obtain⟨b',e,rfl⟩:=hr;exact .map (by rw[hg _ _ e];exact h)
 |kG h=>intro v' hr;simp[nG]at hr
 |fn h1 h2 h3 h4 i2 i4=>
  intro v' hr;simp only[nG]at hr;split at hr
  .rename_i a c e1 e2;cases hr;obtain⟨p1,p2⟩:=dB h1 i2 e1;obtain⟨q1,q2⟩:=dB h3 i4 e2;exact .fn p1 p2 q1 q2
  cases hr
 |iter h=>intro v' hr;simp[nG]at hr
 |agg h1 h2 i2=>
  intro v' hr;simp only[nG,a05]at hr;obtain⟨a,e,rfl⟩:=hr;obtain⟨p1,p2⟩:=dB h1 i2 e;exact .agg p1 p2
 |dG h1 h2 i2=>
  intro v' hr;simp only[nG,a05]at hr;obtain⟨a,e,rfl⟩:=hr;obtain⟨p1,p2⟩:=dB h1 i2 e;exact .dG p1 p2
def oM(g:Nat->Option Nat):List (TV×TV)->Option (List (TV×TV))
 | []=>some []
 |(k,v)::r=>match nG g k,nG g v,oM g r with
  |some k,some v,some r=>some ((k,v)::r)
  |_,_,_=>none
theorem VX:∀{az Yg:List (TV×TV)},oM g az=some Yg->az.length=Yg.length∧∀(i:Nat) c',Yg[i]? = some c'->∃c,az[i]? = some c∧nG g c.1=some c'.1∧nG g c.2=some c'.2
 | [],Yg,h=>by cases h;exact⟨rfl,fun i c h=>by simp at h⟩
 |(k,v)::az,Yg,h=>by
  simp only[oM]at h;split at h
  .rename_i k' v' vs e0 e1 e2;cases h;obtain⟨h1,h2⟩:=VX e2;refine⟨by simp[h1],fun i c' hi=>?_⟩;cases i with
   |zero=>simp at hi;subst hi;exact⟨(k,v),rfl,e0,e1⟩
   |succ i=>exact h2 i c' (by simpa using hi)
  cases h
def uq(g:Nat->Option Nat):HB->Option HB
 |.cells k cs=>(nG.yX g cs).map (.cells k)
 |.map es=>(oM g es).map .map
 |.mark=>some .mark
 |_=>none
theorem a5j{v v':TV}(h:nG g v=some v'):iT v'=iT v:=by
 cases v<;>simp only[nG,a05,a00]at h
 all_goals first
  |(obtain⟨b,_,rfl⟩:=h;rfl)
  |(subst h;rfl)
  |(split at h<;>cases h;rfl)
  |cases h
theorem a5k(hg:∀b b',g b=some b'->N' b'=N b){w:LI4}{b b':HB}{l:Lc}(h:pz N w b l)(hr:uq g b=some b'):pz N' w b' l:=by
 cases b with
 |cells k cs=>
  cases l with
  |obj r _=>exact h.elim
  |cells ls=>
   simp only[uq,a05]at hr;obtain⟨cs',e,rfl⟩:=hr;obtain⟨h1,h2⟩:=NQ e;refine⟨fun c hc=>?_,fun p hp=>?_,fun hk=>by rw[<-h1];exact h.2.2.1 hk,fun hk=>by rw[<-h1];exact h.2.2.2 hk⟩
   .obtain⟨i,hi⟩:=a8I.1 hc;obtain⟨c0,f1,f2⟩:=h2 i c hi;rw[a5j f2];exact h.1 c0 (a4m f1)
   obtain⟨⟨arr,ty,fz,a1,a2,a3,a4⟩,b1,b2,b3⟩:=h.2.1 p hp;exact⟨⟨arr,ty,fz,a1,a2,a3,fun hk i c v hi hc hv=>by obtain⟨c0,f1,f2⟩:=h2 i c hc;exact LG hg (a4 (by rw[h1];exact hk) i c0 v hi f1 hv) f2⟩,b1,by rw[<-h1];exact b2,b3⟩
 |map es=>
  cases l with
  |cells ls=>exact h.elim
  |obj r=>
   simp only[uq,a05]at hr;obtain⟨fU,e,rfl⟩:=hr;obtain⟨h1,h2⟩:=VX e;obtain⟨xs,a0,a1,a2,a3,a4,a5⟩:=h;refine⟨xs,a0,by rw[<-h1];exact a1,a2,a3,by rw[<-h1];exact a4,fun i x hx=>?_⟩;obtain⟨b1,j,e0,b2,b3,b4,b5⟩:=a5 i x hx;have hl:j<fU.length:=by rw[<-h1];exact(a01.1 b3).1
   obtain⟨c0,f1,f2,f3⟩:=h2 j _ (a0a hl);rw[b3]at f1;cases f1;exact⟨b1,j,_,b2,a0a hl,LG hg b4 f2,LG hg b5 f3⟩
 |mark=>simp only[uq,a00]at hr;subst hr;cases l<;>exact h
 |_=>simp[uq]at hr
theorem adP{b b':HB}(h:uq g b=some b'):wr b'=wr b:=by
 cases b with
 |cells k cs=>simp only[uq,a05]at h;obtain⟨_,_,rfl⟩:=h;cases k<;>rfl
 |map es=>simp only[uq,a05]at h;obtain⟨_,_,rfl⟩:=h;rfl
 |mark=>simp only[uq,a00]at h;subst h;rfl
 |_=>simp[uq]at h
end
def a5l:List Nat->Nat->Option Nat
 | [],_=>none
 |a::l,i=>match Nat.beq a i with
  |true=>some 0
  |false=>(a5l l i).map (·+1)
theorem a0w:∀{l:List Nat} {i p:Nat},a5l l i=some p->l[p]? = some i
 | [],i,p,h=>by cases h
 |a::l,i,p,h=>by
  simp only[a5l]at h;split at h
  .rename_i e;cases h;rw[a8K e];rfl
  simp only[a05]at h;obtain⟨q,e,rfl⟩:=h;rw[a9p];exact a0w e
def VY(fl:Nat)(nD:List Nat)(b:Nat):Option Nat:=match Nat.blt b fl with
 |true=>some b
 |false=>(a5l nD b).map (·+fl)
def CB(g:Nat->Option Nat)(h:List HB):List Nat->Option (List HB)
 | []=>some []
 |b::l=>match h[b]? with
  |some x=>match uq g x,CB g h l with
   |some y,some r=>some (y::r)
   |_,_=>none
  |none=>none
theorem NR{g:Nat->Option Nat}{h:List HB}:∀{l:List Nat} {bs:List HB},CB g h l=some bs->l.length=bs.length∧∀(i:Nat) y,bs[i]? = some y->∃c x,l[i]? = some c∧h[c]? = some x∧uq g x=some y
 | [],bs,e=>by cases e;exact⟨rfl,fun i y h=>by simp at h⟩
 |b::l,bs,e=>by
  simp only[CB]at e;split at e
  .rename_i x hx;split at e
   .rename_i y r e1 e2;cases e;obtain⟨h1,h2⟩:=NR e2;refine⟨by simp[h1],fun i y' hi=>?_⟩;cases i with
    |zero=>simp at hi;subst hi;exact⟨b,x,rfl,hx,e1⟩
    |succ i=>exact h2 i y' (by simpa using hi)
   cases e
  cases e
theorem jJ.gc{M:Mp}{h h' bs:List HB}{w w':LI4}{v v':TV}{y:LI3}{nD:List Nat}(hV:Valid M uK (kQ h) w)(hl:∀k,M (.l k)=none)(hR:jJ M h w v h' [] y w')(hn:nD.Nodup)(hk:∀b∈nD,h.length<=b)(hv:nG (VY h.length nD) v=some v')(hb:CB (VY h.length nD) h' nD=some bs):jJ M h w v' (h++bs) [] y w':=by
 obtain⟨M',Yz,hl',hX,hv'⟩:=hR;have YN:∀b l,M (.h b)=some l->b<h.length:=fun b l hb=>by
  have:=hV.has hb;simp only[kQ,St.get]at this;rcases a4d b h.length with h1|h1
  .exact h1
  rw[a4a h1]at this;simp at this
 have hold:∀b,b<h.length->M' (.h b)=M (.h b):=fun b hb=>hX.kX (.h b) (.inl (by simp[kQ,St.get,hb])) (by simp);have hoc:∀b,b<h.length->kQ h' (.h b)=kQ h (.h b):=fun b hb=>hX.nD (.h b) (by simp[kQ,St.get,hb]) (by simp);obtain⟨p1,p2⟩:=NR hb
 let κ:Nat->Option Nat:=fun b=>if b<h.length then some b else nD[b-h.length]?
 let M2:Mp:=fun k=>match k with
  |.l _=>none
  |.h b=>match κ b with
   |some c=>M' (.h c)
   |none=>none
 have hκ:∀b c,κ b=some c->M2 (.h b)=M' (.h c):=fun b c e=>by show(match κ b with|some c=>M' (.h c)|none=>none)=_;rw[e]
 have hκn:∀b,κ b=none->M2 (.h b)=none:=fun b e=>by show(match κ b with|some c=>M' (.h c)|none=>none)=_;rw[e]
 have hM2:∀b l,M2 (.h b)=some l->∃c,κ b=some c∧M' (.h c)=some l:=fun b l e=>by
  cases e2:κ b with
  |none=>rw[hκn b e2]at e;cases e
  |some c=>rw[hκ b c e2]at e;exact⟨c,rfl,e⟩
 have klt:∀b,b<h.length->κ b=some b:=fun b hb=>by simp only[κ,a0g hb]
 have kge:∀b,¬b<h.length->κ b=nD[b-h.length]?:=fun b hb=>by simp only[κ,a0c hb]
 have hg:∀b b',VY h.length nD b=some b'->M2.h b'=M'.h b:=fun b b' e=>by
  unfold VY at e;split at e
  .rename_i aT;have aT:b<h.length:=agG aT;cases e;exact hκ _ _ (klt b aT)
  simp only[a05]at e;obtain⟨p,e1,rfl⟩:=e;exact hκ _ _ (by rw[kge _ (by omega),Nat.add_sub_cancel];exact a0w e1)
 have hle:rX M.h M2.h:=fun b l e=>⟨l,by show M2 (.h b)=some l;rw[hκ b b (klt b (YN b l e)),hold b (YN b l e)];exact e,.refl l⟩;have VZ:∀c,c<w.heap.size->w'.heap[c]? = w.heap[c]?:=fun c hc=>hX.frame c hc (by simp);have hC:∀b,b<h.length->kQ (h++bs) (.h b)=kQ h (.h b):=fun b hb=>by simp only[kQ,St.get];rw[a0b hb]
 have hC2:∀b,¬b<h.length->kQ (h++bs) (.h b)=bs[b-h.length]?:=fun b hb=>by simp only[kQ,St.get];rw[a0S (by omega)]
 refine⟨M2,⟨fun k l kN _=>?_,fun k k' l l' b iq h1 h2 _ hc hw=>?_,fun k l kN=>?_⟩,fun _=>rfl,⟨fun k l e=>?_,fun c hc _=>VZ c hc,fun k hs _=>?_,fun k hs _=>?_,fun k l e c hc hs=>?_,hX.size,fun k hs=>?_,by simp,by simp,hX.os,hX.output,hX.tape⟩,LG hg hv' hv⟩
 .cases k with
  |l k=>cases kN
  |h b=>
   obtain⟨c,e1,e2⟩:=hM2 b l kN;by_cases xM:b<h.length
   .have:=klt b xM;rw[this]at e1;cases e1;rw[hold b xM]at e2;obtain⟨x,f1,f2⟩:=hV.ok _ l e2 trivial;exact⟨x,by rw[hC b xM];exact f1,f2.mono hle fun c hc=>VZ c (hV.inb _ l e2 c hc)⟩
   rw[kge b xM]at e1;have aT:b-h.length<bs.length:=by rw[<-p1];exact(a01.1 e1).1
   obtain⟨c',x,f1,f2,f3⟩:=p2 _ _ (a0a aT);rw[e1]at f1;cases f1;obtain⟨x',g1,g2⟩:=Yz.ok _ l e2 trivial;have g1:h'[c]? = some x':=g1;rw[f2]at g1;cases g1;exact⟨_,by rw[hC2 b xM];exact a0a aT,a5k hg g2 f3⟩
 .cases k with
  |l k=>cases h1
  |h b1=>
   cases k' with
   |l k=>cases h2
   |h b2=>
    obtain⟨c1,e1,e2⟩:=hM2 b1 l h1;obtain⟨c2,e3,e4⟩:=hM2 b2 l' h2;have Nv:c1≠c2:=fun e=>by
     subst e;by_cases q1:b1<h.length<;>by_cases q2:b2<h.length
     .rw[klt _ q1]at e1;rw[klt _ q2]at e3;cases e1;cases e3;exact iq rfl
     .rw[klt _ q1]at e1;rw[kge _ q2]at e3;cases e1;have:=hk _ (a4m e3);omega
     .rw[kge _ q1]at e1;rw[klt _ q2]at e3;cases e3;have:=hk _ (a4m e1);omega
     rw[kge _ q1]at e1;rw[kge _ q2]at e3;have i1:=(a01.1 e1);have i2:=(a01.1 e3);have:=(a9P hn (h₀:=i1.1) (h₁:=i2.1)).1 (i1.2.trans i2.2.symm);exact iq (by rw[show b1=b2 by omega])
    obtain⟨x,g1,g2⟩:∃x,kQ h' (.h c1)=some x∧wr x=true:=by
     by_cases q1:b1<h.length
     .rw[klt _ q1]at e1;cases e1;exact⟨b,by rw[hoc _ q1,<-hC _ q1];exact hc,hw⟩
     rw[hC2 _ q1]at hc;obtain⟨c',x,f1,f2,f3⟩:=p2 _ _ hc;rw[kge _ q1,f1]at e1;cases e1;exact⟨x,f2,by rw[<-adP f3];exact hw⟩
    exact Yz.own (.h c1) (.h c2) l l' x (fun e=>Nv (by cases e;rfl)) e2 e4 trivial g1 g2
 .cases k with
  |l k=>cases kN
  |h b=>obtain⟨c,e1,e2⟩:=hM2 b l kN;exact Yz.inb _ l e2
 .cases k with
  |l k=>rw[hl k]at e;cases e
  |h b=>exact hle b l e
 .cases k with
  |l k=>simp[kQ,St.get]at hs
  |h b=>
   refine hC b ?_;simp only[kQ,St.get]at hs;rcases a4d b h.length with h1|h1
   .exact h1
   rw[a4a h1]at hs;simp at hs
 .cases k with
  |l k=>rw[hl k]
  |h b=>
   by_cases xM:b<h.length
   .rw[hκ b b (klt b xM),hold b xM]
   have h1:M (.h b)=none:=by
    cases e:M (.h b)with
    |none=>rfl
    |some l=>exact absurd (YN b l e) xM
   rw[h1];refine hκn b ?_;rw[kge b xM];rcases hs with hs|hs
   .simp only[kQ,St.get]at hs;rw[a4a (by omega)]at hs;simp at hs
   rw[hC2 b xM]at hs;rw[List.getElem?_eq_none_iff]at hs ⊢;omega
 .cases k with
  |l k=>cases e
  |h b=>
   obtain⟨c',e1,e2⟩:=hM2 b l e;obtain⟨l0,f1,f2⟩:=hX.fresh _ l e2 c hc hs;have:=YN _ _ f1;by_cases xM:b<h.length
   .rw[klt b xM]at e1;cases e1;exact⟨l0,f1,f2⟩
   rw[kge b xM]at e1;have:=hk _ (a4m e1);omega
 cases k with
 |l k=>simp[kQ,St.get]at hs
 |h b=>
  simp only[kQ,St.get]at hs ⊢;rcases a4d b h.length with h1|h1
  .simp[a0b h1,h1]
  rw[a4a h1]at hs;simp at hs
def BA:TV->List Nat->List Nat
 |.ptr b _ _,l=>b::l
 |.aP b _ _ _ _ _,l=>b::l
 |.map b,l=>b::l
 |.fn _ a c,l=>EC a (EC c l)
 |.agg cs,l=>EC cs l
 |.dG cs,l=>EC cs l
 |_,l=>l
where
 EC:List TV->List Nat->List Nat
 | [],l=>l
 |c::cs,l=>BA c (EC cs l)
def a9d:Option HB->List Nat->List Nat
 |some (.cells _ cs),l=>BA.EC cs l
 |some (.map es),l=>a0x es l
 |_,l=>l
where
 a0x:List (TV×TV)->List Nat->List Nat
 | [],l=>l
 |e::es,l=>BA e.1 (BA e.2 (a0x es l))
def a5n(b:Nat):List Nat->Bool
 | []=>false
 |a::l=>match Nat.beq a b with
  |true=>true
  |false=>a5n b l
theorem a0y:∀{l:List Nat} {b:Nat},a5n b l=false->b∉l
 | [],b,_=>by simp
 |a::l,b,h=>by
  simp only[a5n]at h;split at h
  .cases h
  rename_i e;rw[a2d];rintro (rfl|h2)
  .rw[Nat.beq_refl]at e;cases e
  exact a0y h h2
def wo(h:List HB)(fl:Nat):Nat->List Nat->List Nat->List Nat
 | 0,_,acc=>acc
 |_+1,[],acc=>acc
 |n+1,b::t,acc=>match Nat.blt b fl||a5n b acc with
  |true=>wo h fl n t acc
  |false=>wo h fl n (a9d h[b]? t) (b::acc)
theorem IU{h:List HB}{fl:Nat}:∀(n:Nat) (t acc:List Nat),acc.Nodup->(∀b∈acc,fl<=b)->(wo h fl n t acc).Nodup∧∀b∈wo h fl n t acc,fl<=b
 | 0,_,_,h1,h2=>⟨h1,h2⟩
 |_+1,[],_,h1,h2=>⟨h1,h2⟩
 |n+1,b::t,acc,h1,h2=>by
  simp only[wo];split
  .exact IU n t acc h1 h2
  rename_i e;simp only[a9c]at e;have e1:fl<=b:=by
   rcases a4d b fl with h3|h3
   .rw[show Nat.blt b fl=true from Nat.ble_eq_true_of_le h3]at e;cases e.1
   exact h3
  exact IU n _ _ (a4k.2 ⟨a0y e.2,h1⟩) fun c hc=>by
   rcases a2d.1 hc with rfl|hc
   .exact e1
   exact h2 c hc
def Rh:TV->LI0
 |.bool b=>[if b then 1 else 0]
 |.int _ n=>[n]
 |.agg cs=>codes cs
 |_=>[]
where
 codes:List TV->LI0
 | []=>[]
 |c::cs=>Rh c++codes cs
def kZ:LI0->LI0->Bool
 | [],_=>true
 |_::_,[]=>false
 |a::az,b::bs=>if a<b then true else if b<a then false else kZ az bs
section
variable {α:Type} (key:α->LI0)
def Eh(e:α):List α->List α
 | []=>[e]
 |x::l=>if kZ (key e) (key x)then e::x::l else x::Eh e l
def yY:List α->List α
 | []=>[]
 |e::l=>Eh key e (yY l)
theorem Ri(e:α):∀l,(Eh key e l).Perm (e::l)
 | []=>.refl _
 |x::l=>by
  unfold Eh;split
  .exact .refl _
  exact((Ri e l).cons x).trans (.swap e x l)
theorem lY:∀l,(yY key l).Perm l
 | []=>.refl _
 |e::l=>(Ri key e _).trans ((lY l).cons e)
end
abbrev Rj:List (TV×TV)->List (TV×TV):=yY fun e=>Rh e.1
abbrev Rk:List TV->List TV:=yY Rh
theorem Fe(l):(Rj l).Perm l:=lY _ l
structure Ix{α:Type}(l1 l2:List α)(f g:Nat->Nat):Prop where
 to:∀i,i<l1.length->f i<l1.length∧g (f i)=i∧l2[f i]? = l1[i]?
 fro:∀j,j<l1.length->g j<l1.length∧f (g j)=j
theorem a0z{α:Type}{l1 l2:List α}(h:l1.Perm l2):∃f g,Ix l1 l2 f g:=by
 induction h with
 |nil=>exact⟨id,id,⟨fun i hi=>by simp at hi,fun i hi=>by simp at hi⟩⟩
 |cons x h ih=>
  obtain⟨f,g,h1,h2⟩:=ih;refine⟨fun i=>match i with| 0=>0|i+1=>f i+1,fun i=>match i with| 0=>0|i+1=>g i+1,⟨fun i hi=>?_,fun j hj=>?_⟩⟩
  .cases i with
   |zero=>simp
   |succ i=>
    obtain⟨a,b,c⟩:=h1 i (by simpa using hi);exact⟨by simpa using a,by simp[b],by simpa using c⟩
  cases j with
  |zero=>simp
  |succ j=>
   obtain⟨a,b⟩:=h2 j (by simpa using hj);exact⟨by simpa using a,by simp[b]⟩
 |swap x y l=>
  refine⟨fun i=>match i with| 0=>1| 1=>0|i+2=>i+2,fun i=>match i with| 0=>1| 1=>0|i+2=>i+2,⟨fun i hi=>?_,fun j hj=>?_⟩⟩
  .match i with
   | 0=>simp
   | 1=>simp
   |i+2=>simp at hi ⊢;exact hi
  match j with
  | 0=>simp
  | 1=>simp
  |j+2=>simp at hj ⊢;exact hj
 |trans h h' ih ih'=>
  obtain⟨f,g,h1,h2⟩:=ih;obtain⟨f',g',h3,h4⟩:=ih';have hl:=h.length_eq;refine⟨fun i=>f' (f i),fun j=>g (g' j),⟨fun i hi=>?_,fun j hj=>?_⟩⟩
  .obtain⟨a,b,c⟩:=h1 i hi;obtain⟨a',b',c'⟩:=h3 (f i) (by omega);exact⟨by omega,by simp only[b',b],by rw[c',c]⟩
  obtain⟨a,b⟩:=h4 j (by omega);obtain⟨a',b'⟩:=h2 (g' j) (by omega);exact⟨a',by simp only[b',b]⟩
theorem vT.perm{N:Np}{o:List Nat}{es fU:List (TV×TV)}{xs:Array MapEntry}(h:vT N o es xs){f g:Nat->Nat}(hf:Ix es fU f g)(hl:fU.length=es.length):vT N (o.map f) fU xs:=by
 have aT:∀j∈o,j<es.length:=fun j hj=>by
  obtain⟨i,hi⟩:=a8I.1 hj;have:i<xs.size:=by rw[<-h.ord];exact(a01.1 hi).1
  obtain⟨_,j',e,z1,z2,_⟩:=h.at_ i _ (a3Q this);rw[hi]at z1;cases z1;exact(a01.1 z2).1
 refine⟨by rw[hl,h.len],by rw[a4h,h.ord],?_,fun j hj=>?_,fun i x hx=>?_⟩
 .have:∀l:List Nat,(∀j∈l,j<es.length)->l.Nodup->(l.map f).Nodup:=by
   intro l
   induction l with
   |nil=>simp
   |cons a l ih=>
    intro h1 h2;rw[a4k]at h2;rw[a4c,a4k];refine⟨fun hm=>?_,ih (fun j hj=>h1 j (by simp[hj])) h2.2⟩;obtain⟨b,hb,e⟩:=a1g.1 hm;have e1:=(hf.to a (h1 a (by simp))).2.1;have e2:=(hf.to b (h1 b (by simp[hb]))).2.1;rw[e,e1]at e2;exact h2.1 (e2▸hb)
  exact this o aT h.nod
 .obtain⟨a,b⟩:=hf.fro j (by omega);exact a1g.2 ⟨g j,h.sur _ a,b⟩
 obtain⟨z1,j,e,z2,z3,z4⟩:=h.at_ i x hx;exact⟨z1,f j,e,by rw[a4j,z2];rfl,by rw[(hf.to j (a01.1 z3).1).2.2];exact z3,z4⟩
def LcW:Lc->Lc->Prop
 |.cells ls,.cells xH=>ls=xH
 |.obj r _,.obj r' _=>r=r'
 |_,_=>False
def a9e(N N':Np):Prop:=∀b l,N b=some l->∃l',N' b=some l'∧LcW l l'
theorem VR.ED{N N':Np}(hm:a9e N N'){v:TV}{x:LI3}(h:VR N v x):VR N' v x:=by
 induction h with
 |bool b=>exact .bool b
 |int k n=>exact .int k n
 |str s=>exact .str s
 |a1Z=>exact .a1Z
 |TD=>exact .TD
 |Ym=>exact .Ym
 |nfn=>exact .nfn
 |a2a=>exact .a2a
 |ptr hb hp h ht=>
  obtain⟨l',h1,h2⟩:=hm _ _ hb;cases l' with
  |obj r _=>exact h2.elim
  |cells xH=>cases h2;exact .ptr h1 hp h ht
 |aP hb hp h hl hc hx ha hk=>
  obtain⟨l',h1,h2⟩:=hm _ _ hb;cases l' with
  |obj r _=>exact h2.elim
  |cells xH=>cases h2;exact .aP h1 hp h hl hc hx ha hk
 |map h=>
  obtain⟨l',h1,h2⟩:=hm _ _ h;cases l' with
  |obj r _=>cases h2;exact .map h1
  |cells xH=>exact h2.elim
 |kG h=>
  obtain⟨l',h1,h2⟩:=hm _ _ h;cases l' with
  |obj r _=>cases h2;exact .kG h1
  |cells xH=>exact h2.elim
 |iter h=>
  obtain⟨l',h1,h2⟩:=hm _ _ h;cases l' with
  |obj r _=>cases h2;exact .iter h1
  |cells xH=>exact h2.elim
 |fn h1 _ h3 _ ih2 ih4=>exact .fn h1 ih2 h3 ih4
 |agg h1 _ ih=>exact .agg h1 ih
 |dG h1 _ ih=>exact .dG h1 ih
theorem vT.ED{N N':Np}(hm:a9e N N'){o:List Nat}{es:List (TV×TV)}{xs:Array MapEntry}(h:vT N o es xs):vT N' o es xs:=
 ⟨h.len,h.ord,h.nod,h.sur,fun i x hx=>let ⟨b,j,e,h1,h2,h3,h4⟩:=h.at_ i x hx;⟨b,j,e,h1,h2,h3.ED hm,h4.ED hm⟩⟩
theorem lT.ED{N N':Np}{w:LI4}{k:BK}{cs:List TV}{ls:List Pl}(hm:a9e N N')(h:lT N w k cs ls):lT N' w k cs ls:=by refine⟨h.1,fun p hp=>?_,h.2.2⟩;obtain⟨⟨arr,ty,fz,h1,h2,h3,h4⟩,p1,p2,p3⟩:=h.2.1 p hp;exact⟨⟨arr,ty,fz,h1,h2,h3,fun z i c v a b d=>(h4 z i c v a b d).ED hm⟩,p1,p2,p3⟩
theorem lT.last{N:Np}{w:LI4}{k:BK}{cs:List TV}{ls:List Pl}(hk:k≠.ro)(h:lT N w k cs ls):lT N w .last cs ls:=by
 refine⟨h.1,fun p hp=>?_,fun e=>(by cases e),fun _=>?_⟩
 .obtain⟨⟨arr,ty,fz,h1,h2,h3,h4⟩,p1,p2,p3⟩:=h.2.1 p hp;exact⟨⟨arr,ty,fz,h1,h2,fun _=>h3 hk,fun z=>h4 fun _=>z rfl⟩,p1,p2,fun _=>p3 hk⟩
 cases k with
 |ro=>exact absurd rfl hk
 |own=>
  obtain⟨p,rfl,_⟩:=h.2.2.1 rfl;refine⟨by simp,fun p hp q hq _ _=>?_⟩;rw[a2p]at hp hq;rw[hp,hq]
 |grow=>exact h.2.2.2 (.inl rfl)
 |last=>exact h.2.2.2 (.inr rfl)
def KP(fl:Nat):TV->TV
 |.aP b off len cap sz ex=>if b<fl then .aP b off len cap sz ex else .aP b off len len sz false
 |v=>v
def U2(fl:Nat):TV->TV
 |.dG cs=>.dG (cs.map (KP fl))
 |v=>KP fl v
def Qc(mP:Bool):HB->HB
 |.cells .ro cs=>.cells .ro cs
 |.cells _ cs=>if mP then .mP (Rk cs)else .cells .last cs
 |.map es=>.map (Rj es)
 |x=>x
def NS(mP:Bool)(h:List HB)(v:TV)(h1:List HB):Option (TV×List HB):=
 match wo h1 h.length 5000 (BA v []) []with
 |nD=>match nG (VY h.length nD) v,CB (VY h.length nD) h1 nD with
  |some v',some bs=>some (U2 h.length v',h++bs.map (Qc mP))
  |_,_=>none
def fS(es:List (TV×TV)):Nat->Nat:=Classical.choose (a0z (Fe es).symm)
theorem ahO(es:List (TV×TV)):∃g,Ix es (Rj es) (fS es) g:=a8V (a0z (Fe es).symm)
def mapOf(h bs:List HB)(b:Nat):Option (List (TV×TV)):=
 if b<h.length then none else match bs[b-h.length]? with
  |some (.map es)=>some es
  |_=>none
def A8(h bs:List HB)(b:Nat)(l:Lc):Lc:=
 match mapOf h bs b,l with
 |some es,.obj r o=>.obj r (o.map (fS es))
 |_,l=>l
theorem xP{h bs:List HB}{b:Nat}{l:Lc}:aI (A8 h bs b l)=aI l:=by unfold A8;split<;>rfl
theorem LcW.refl(l:Lc):LcW l l:=by cases l<;>rfl
theorem adR{h bs:List HB}{b:Nat}{l:Lc}:LcW l (A8 h bs b l):=by
 unfold A8;split
 .rfl
 exact .refl _
theorem NT{h bs:List HB}{b:Nat}{l:Lc}(hb:b<h.length):A8 h bs b l=l:=by unfold A8 mapOf;rw[a0g hb]
theorem a9f{mP:Bool}{x:HB}(h:wr (Qc mP x)=true):wr x=true:=by
 cases x with
 |cells k cs=>cases k<;>first|exact h|rfl
 |_=>first|exact h|rfl
theorem a0A{N:Np}{fl:Nat}{v:TV}{x:LI3}(h:VR N v x):VR N (KP fl v) x:=by
 cases h with
 |aP hb hp h hl hc hx ha hk=>
  simp only[KP];split
  .exact .aP hb hp h hl hc hx ha hk
  exact .aP hb hp (a4A (Nat.add_le_add_left (a3l _ hl) _) h) (a0U _) (a4A hl hc) (fun e=>by cases e) ha hk
 |_=>first|(constructor;done)|(constructor<;>assumption)
theorem a9g{N:Np}{fl:Nat}{v:TV}{x:LI3}(h:VR N v x):VR N (U2 fl v) x:=by
 cases h with
 |dG h1 h2=>
  refine .dG (by simpa using h1) fun i c v hc hv=>?_;rw[a4j]at hc;obtain⟨c0,e1,rfl⟩:=a05.1 hc;exact a0A (h2 i c0 v e1 hv)
 |aP hb hp h hl hc hx ha hk=>exact a0A (.aP hb hp h hl hc hx ha hk)
 |_=>first|(constructor;done)|(constructor<;>assumption)
theorem jJ.nrm{M:Mp}{h bs:List HB}{w w':LI4}{v:TV}{y:LI3}(mP:Bool)(hV:Valid M uK (kQ h) w)(hl:∀k,M (.l k)=none)(hn:∀x∈bs,∀m n seen,x≠.cO m n seen)(hR:jJ M h w v (h++bs) [] y w'):jJ M h w (U2 h.length v) (h++bs.map (Qc mP)) [] y w':=by
 obtain⟨M',Yz,hl',hX,hv'⟩:=hR;have YN:∀b l,M (.h b)=some l->b<h.length:=fun b l hb=>by
  have:=hV.has hb;simp only[kQ,St.get]at this;rcases a4d b h.length with h1|h1
  .exact h1
  rw[a4a h1]at this;simp at this
 have hold:∀b,b<h.length->M' (.h b)=M (.h b):=fun b hb=>hX.kX (.h b) (.inl (by simp[kQ,St.get,hb])) (by simp)
 let M2:Mp:=fun k=>match k with
  |.l _=>none
  |.h b=>(M' (.h b)).map (A8 h bs b)
 have hM2:∀b,M2 (.h b)=(M' (.h b)).map (A8 h bs b):=fun b=>rfl;have inv:∀b l2,M2 (.h b)=some l2->∃l,M' (.h b)=some l∧l2=A8 h bs b l:=fun b l2 e=>by rw[hM2]at e;obtain⟨l,e1,e2⟩:=a05.1 e;exact⟨l,e1,e2.symm⟩
 have hmW:a9e M'.h M2.h:=fun b l e=>by have e:M' (.h b)=some l:=e;exact⟨_,(show M2 (.h b)=_ by rw[hM2,e];rfl),adR⟩
 have hle:rX M.h M2.h:=fun b l e=>by have e:M (.h b)=some l:=e;have hb:=YN b l e;exact⟨l,(show M2 (.h b)=_ by rw[hM2,hold b hb,e];simp[NT hb]),.refl l⟩
 have VZ:∀c,c<w.heap.size->w'.heap[c]? = w.heap[c]?:=fun c hc=>hX.frame c hc (by simp);have hC:∀b,b<h.length->kQ (h++bs.map (Qc mP)) (.h b)=kQ h (.h b):=fun b hb=>by simp only[kQ,St.get];rw[a0b hb]
 have hC1:∀b,¬b<h.length->kQ (h++bs) (.h b)=bs[b-h.length]?:=fun b hb=>by simp only[kQ,St.get];rw[a0S (by omega)]
 have hC2:∀b,¬b<h.length->kQ (h++bs.map (Qc mP)) (.h b)=(bs[b-h.length]?).map (Qc mP):=fun b hb=>by simp only[kQ,St.get];rw[a0S (by omega),a4j]
 have hCo:∀b,b<h.length->kQ (h++bs) (.h b)=kQ h (.h b):=fun b hb=>by simp only[kQ,St.get];rw[a0b hb]
 refine⟨M2,⟨fun k l kN _=>?_,fun k k' l l' b iq q1 q2 _ hc hw=>?_,fun k l kN=>?_⟩,fun _=>rfl,⟨fun k l e=>?_,hX.frame,fun k hs hn=>?_,fun k hs hn=>?_,fun k l e c hc hs=>?_,hX.size,fun k hs=>?_,by simp,by simp,hX.os,hX.output,hX.tape⟩,a9g (hv'.ED hmW)⟩
 .cases k with
  |l k=>cases kN
  |h b=>
   obtain⟨l0,e1,rfl⟩:=inv b l kN;by_cases hb:b<h.length
   .rw[NT hb,hC b hb];rw[hold b hb]at e1;obtain⟨x,f1,f2⟩:=hV.ok _ l0 e1 trivial;exact⟨x,f1,f2.mono hle fun c hc=>VZ c (hV.inb _ l0 e1 c hc)⟩
   obtain⟨x,x1,x2⟩:=Yz.ok _ l0 e1 trivial;rw[hC1 b hb]at x1;refine⟨Qc mP x,by rw[hC2 b hb,x1];rfl,?_⟩;cases x with
   |cells k cs=>
    cases l0 with
    |obj r o=>exact x2.elim
    |cells ls=>
     have x3:lT M2.h w' k cs ls:=lT.ED hmW x2;have e:A8 h bs b (.cells ls)=.cells ls:=by unfold A8;split<;>first|rfl|simp_all
     rw[e];have go:k≠.ro->pz M2.h w' (if mP then .mP (Rk cs)else .cells .last cs) (.cells ls):=fun hk=>by
      cases mP with
      |true=>exact⟨cs,(lY _ cs).symm,x3.last hk⟩
      |false=>exact x3.last hk
     cases k with
     |ro=>exact x3
     |own=>exact go (by simp)
     |grow=>exact go (by simp)
     |last=>exact go (by simp)
   |mP cs=>
    cases l0 with
    |obj r o=>exact x2.elim
    |cells ls=>
     have e:A8 h bs b (.cells ls)=.cells ls:=by unfold A8;split<;>first|rfl|simp_all
     rw[e];obtain⟨cs',h1,h2⟩:=x2;exact⟨cs',h1,lT.ED hmW h2⟩
   |map es=>
    cases l0 with
    |cells ls=>exact x2.elim
    |obj r o=>
     obtain⟨xs,y1,y2⟩:=x2;have e:A8 h bs b (.obj r o)=.obj r (o.map (fS es)):=by
      have:mapOf h bs b=some es:=by unfold mapOf;rw[a0c hb,x1]
      unfold A8;rw[this]
     rw[e];obtain⟨g,hg⟩:=ahO es;exact⟨xs,y1,(y2.ED hmW).perm hg (Fe es).length_eq⟩
   |mark=>
    have e:∀r o,A8 h bs b (.obj r o)=.obj r o:=fun r o=>by
     have:mapOf h bs b=none:=by unfold mapOf;rw[a0c hb,x1]
     unfold A8;rw[this]
    cases l0 with
    |cells ls=>exact x2.elim
    |obj r o=>rw[e];exact x2
   |cO m n seen=>exact absurd rfl (hn _ (a4m x1) m n seen)
   |loop rd f nt env ps a b9 jI=>
    have e:∀r o,A8 h bs b (.obj r o)=.obj r o:=fun r o=>by
     have:mapOf h bs b=none:=by unfold mapOf;rw[a0c hb,x1]
     unfold A8;rw[this]
    cases l0 with
    |cells ls=>exact x2.elim
    |obj r o=>
     rw[e];obtain⟨lp,h1,h2⟩:=x2;exact⟨lp,h1,{ h2 with KJ:=fun t v e=>(h2.KJ t v e).ED hmW }⟩
 .cases k with
  |l k=>cases q1
  |h b1=>
   cases k' with
   |l k=>cases q2
   |h b2=>
    obtain⟨l1,e1,rfl⟩:=inv b1 l q1;obtain⟨l2,e2,rfl⟩:=inv b2 l' q2;rw[xP,xP];obtain⟨x,g1,g2⟩:∃x,kQ (h++bs) (.h b1)=some x∧wr x=true:=by
     by_cases q1:b1<h.length
     .exact⟨b,by rw[hCo _ q1,<-hC _ q1];exact hc,hw⟩
     rw[hC2 _ q1]at hc;obtain⟨x,f1,rfl⟩:=a05.1 hc;exact⟨x,by rw[hC1 _ q1];exact f1,a9f hw⟩
    exact Yz.own (.h b1) (.h b2) l1 l2 x iq e1 e2 trivial g1 g2
 .cases k with
  |l k=>cases kN
  |h b=>
   obtain⟨l0,e1,rfl⟩:=inv b l kN;rw[xP];exact Yz.inb _ l0 e1
 .cases k with
  |l k=>rw[hl k]at e;cases e
  |h b=>exact hle b l e
 .cases k with
  |l k=>simp[kQ,St.get]at hs
  |h b=>exact hC b (by simpa[kQ,St.get]using hs)
 .cases k with
  |l k=>rw[hl k]
  |h b=>
   by_cases hb:b<h.length
   .rw[hM2,hold b hb];cases M (.h b)with
    |none=>rfl
    |some l=>simp only[a0j];rw[NT hb]
   have h0:M (.h b)=none:=by
    cases e:M (.h b)with
    |none=>rfl
    |some l=>exact absurd (YN b l e) hb
   have Dz:kQ (h++bs) (.h b)=none:=by
    rcases hs with hs|hs
    .have:b<h.length:=(by simpa[kQ,St.get]using hs);omega
    rw[hC2 _ hb]at hs;rw[hC1 _ hb];simpa using hs
   have:M' (.h b)=M (.h b):=hX.kX (.h b) (.inr Dz) (by simp);rw[h0,hM2,this,h0];rfl
 .cases k with
  |l k=>cases e
  |h b=>
   obtain⟨l0,e1,rfl⟩:=inv b l e;rw[xP]at hc;exact hX.fresh _ l0 e1 c hc hs
 cases k with
 |l k=>simp[kQ,St.get]at hs
 |h b=>
  have hb:b<h.length:=by simpa[kQ,St.get]using hs
  rw[hC b hb];exact hs
theorem W9{g:Nat->Option Nat}{x y:HB}(h:uq g x=some y):∀m n seen,y≠.cO m n seen:=by
 cases x<;>simp only[uq,a05,a00]at h
 all_goals first
  |(obtain⟨_,_,rfl⟩:=h;simp)
  |(subst h;simp)
  |cases h
theorem jJ.norm{M:Mp}{h h1 h2:List HB}{w w':LI4}{v v2:TV}{y:LI3}{mP:Bool}(hV:Valid M uK (kQ h) w)(hl:∀k,M (.l k)=none)(ho:NS mP h v h1=some (v2,h2))(hR:jJ M h w v h1 [] y w'):jJ M h w v2 h2 [] y w':=by
 unfold NS at ho;simp only at ho;obtain⟨k1,k2⟩:=IU (h:=h1) (fl:=h.length) 5000 (BA v []) [] .nil (by simp);split at ho
 .rename_i v' bs e1 e2;cases ho;refine jJ.nrm mP hV hl (fun x hx=>?_) (hR.gc hV hl k1 k2 e1 e2);obtain⟨i,hi⟩:=a8I.1 hx;obtain⟨_,_,_,_,e⟩:=(NR e2).2 i x hi;exact W9 e
 cases ho
section
variable {P:LI1} {T:qx} {call:aY} {L:Nat} {nt:Nat} {M:Mp} {h:List HB} {w:LI4}
def Qd(tmps:Array LI3):List (Nat×LI3)->Array LI3
 | []=>tmps
 |(t,a)::r=>Qd (tmps.setIfInBounds t a) r
theorem Rl:∀{l:List (Nat×LI3)} {tmps:Array LI3},(Qd tmps l).size=tmps.size
 | [],_=>rfl
 |(t,a)::r,tmps=>by rw[Qd,Rl];simp
theorem NU:∀(l:List (Nat×LI3)) (tmps:Array LI3),l.foldl (fun tmps (t,a)=>tmps.setIfInBounds t a) tmps=Qd tmps l
 | [],_=>rfl
 |(t,a)::r,tmps=>by rw[adk,NU r];rfl
theorem Ro{N:Np}{nt:Nat}:∀{ps:List Nat} {args:List TV} {xs:List LI3} {env:List (Nat×EV)} {tmps:Array LI3},bU N args xs->args.length=ps.length->(∀p∈ps,p<nt)->nt<=tmps.size ->
  (∀t v,dL t env=some (.val v)->VR N v (tmps.getD t Go.undef))->(∀t,dL t env=some .undef->tmps.getD t Go.undef=Go.undef)->(∀t e,dL t env=some e->isVal (t,e)=true) ->
  (∀t v,dL t (sF env ps args)=some (.val v)->VR N v ((Qd tmps (ps.zip xs)).getD t Go.undef))∧(∀t,dL t (sF env ps args)=some .undef->(Qd tmps (ps.zip xs)).getD t Go.undef=Go.undef) ∧
   (∀t e,dL t (sF env ps args)=some e->isVal (t,e)=true)
 | [],[],xs,env,tmps,_,_,_,_,h1,h2,h3=>⟨h1,h2,h3⟩
 | [],v::vs,xs,env,tmps,_,hl,_,_,_,_,_=>by simp at hl
 |p::ps,[],xs,env,tmps,_,hl,_,_,_,_,_=>by simp at hl
 |p::ps,v::vs,xs,env,tmps,hx,hl,hp,hn,h1,h2,h3=>by
  obtain⟨x,xs',rfl,hx1,hx2⟩:=hx.iM;have hpn:=hp p a2O;simp only[sF,List.zip_cons_cons,Qd];have hg:∀t,(tmps.setIfInBounds p x).getD t Go.undef=if p=t then x else tmps.getD t Go.undef:=by
   intro t;simp only[a8l,a8J];by_cases h:p=t
   .subst h;simp[show p<tmps.size by omega]
   .simp[h]
  refine Ro hx2 (by simpa using hl) (fun q hq=>hp q (a2P _ hq)) (by simpa using hn) ?_ ?_ ?_
  .intro t v' he;rw[hg];simp only[dL]at he;split at he
   .rename_i h;rw[a0g h];cases he;exact hx1
   .rename_i h;rw[a0c h];exact h1 t v' he
  .intro t he;rw[hg];simp only[dL]at he;split at he
   .cases he
   .rename_i h;rw[a0c h];exact h2 t he
  .intro t e he;simp only[dL]at he;split at he
   .cases he;rfl
   .exact h3 t e he
theorem a5o(hm:P.follows .mixedOrders=true)(hC:iC P call){l l':Nat}{q:List Nat}{args:List TV}{v:TV}{h':List HB}{ws:List Nat}(hf:N8 P T call L l args h=some (v,h',ws))(hB:vZ M h w)(hl:M (.h l)=some (.obj l' q))
  {xs:List LI3} (hx:bU M.h args xs):TR P { target:=.fn (.yield l') #[],args:=xs.toArray } w (jJ M h w v h' ws):=by
 unfold N8 at hf;split at hf
 .rename_i f nt env ps uJ body jI hh;split at hf
  .rename_i hc;obtain⟨hlen,hps⟩:=hc;have ant:∀p∈ps,p<nt:=fun p hp=>(by simpa using a4o.1 hps p hp);obtain⟨fV,k1,k2⟩:=hB.val.ok _ _ hl trivial;simp only[kQ,St.get,hh,a00]at k1;subst k1;obtain⟨lp,l1,l2⟩:=k2;have hlb:l<h.length:=(a01.1 hh).1;have hpa:lp.params.size=xs.length:=by have:=l2.ps;rw[<-hx.len,hlen,<-this];simp
   have anu:(lp.params.zip xs.toArray).foldl (fun tmps (t,a)=>tmps.setIfInBounds t a) lp.tmps=Qd lp.tmps (ps.zip xs):=by rw[<-Array.foldl_toList,Array.toList_zip,l2.ps];exact NU _ _
   refine⟨l',lp.fn,Qd lp.tmps (ps.zip xs),uJ,body,?_,fun n=>?_⟩
   .have h1:(Instr.yield l' xs.toArray).run P w=.ok (.round l' lp.fn ((lp.params.zip xs.toArray).foldl (fun tmps (t,a)=>tmps.setIfInBounds t a) lp.tmps) lp.assign lp.body) w:=by simp[Instr.yield,Instr.getLoop,getObj,Sem.run,l1,hpa]
    rw[anu,l2.uJ,l2.body]at h1;exact h1
   obtain⟨p1,p2,p3⟩:=Ro hx hlen ant l2.size l2.KJ l2.TF l2.nol;have hR0:Rel M h w nt M ⟨sF env ps args,[],h,[]⟩ { tmps:=Qd lp.tmps (ps.zip xs),defers:=[] } w:=by
    have hg:St.get ⟨sF env ps args,[],h,[]⟩=kQ h:=getEnv ⟨[],[],h,[]⟩ _ _;refine⟨by rw[hg];exact hB.val,by rw[hg];exact .refl _ _ _,fun t e he=>?_,by rw[Rl];exact l2.size,by simp,.nil⟩;cases e with
    |val v=>exact .val (p1 t v he)
    |undef=>
     have:=p2 t he;simp only at this ⊢;rw[this];exact .undef
    |_=>exact absurd (p3 t _ he) (by simp[isVal])
   refine roundIn_of_wpIn (F:=Fence.wide) trivial ?_;split at hf
   .rename_i s1 hex;refine vC (gQ:=true) (r:=some l') hm hC hB (by simp) _ _ _ _ hex n _ M _ w hR0 fun M1 a1 w1 wZ=>?_;split at hf
    .rename_i f' nt' env' ps' a' b' abK yI;obtain⟨q1,hl1⟩:∃q1,M1 (.h l)=some (.obj l' q1):=by
      obtain⟨l0,g1,g2⟩:=wZ.ext.Io _ _ hl;cases l0 with
      |cells ls=>exact g2.elim
      |obj r' o'=>cases g2.1;exact⟨o',g1⟩
     obtain⟨fV,k1,k2⟩:=wZ.val.ok _ _ hl1 trivial;simp only[St.get,yI,a00]at k1;subst k1;obtain⟨lp1,m1,m2⟩:=k2;obtain⟨v2,x2⟩:=DI wZ.val hl1 yI rfl (b':=.loop false f' nt' env' ps' a' b' none) (o':=.loop { lp1 with state:=.busy }) ⟨{ lp1 with state:=.busy },by simp[(a2h.1 m1).1],
      {ps:=m2.ps,uJ:=m2.uJ,body:=m2.body,size:=m2.size,KJ:=m2.KJ,TF:=m2.TF,nol:=m2.nol,ready:=by simp,busy:=fun _ _=>rfl,done:=by simp }⟩
     have QZ:=wZ.next hB (s':={ s1 with heap:=s1.heap.set l (.loop false f' nt' env' ps' a' b' none),ws:=Ef h.length l s1.ws }) v2 x2 rfl rfl (fun _ _ e=>e);refine⟨{ w1 with heap:=w1.heap.setIfInBounds l' (.loop { lp1 with state:=.busy }) },?_,?_⟩
     .simp[Instr.beginRound,Instr.getLoop,getObj,setObj,Sem.run,m1,(m2.ready rfl).1]
     .split at hf
      .rename_i e s2 anw;refine vC (gQ:=true) (r:=some l') hm hC hB (by simp) _ _ _ _ anw n _ M1 _ _ QZ fun M3 a3 w3 hR3=>?_;split at hf
       .rename_i f3 nt3 ahQ ps3 a3' b3 hh3;simp only[a00,a0i]at hf;obtain⟨rfl,rfl,rfl⟩:=hf;obtain⟨q3,hl3⟩:∃q3,M3 (.h l)=some (.obj l' q3):=by
         obtain⟨l0,g1,g2⟩:=hR3.ext.Io _ _ hl;cases l0 with
         |cells ls=>exact g2.elim
         |obj r' o'=>cases g2.1;exact⟨o',g1⟩
        obtain⟨fV,k1,k2⟩:=hR3.val.ok _ _ hl3 trivial;simp only[St.get,hh3,a00]at k1;subst k1;obtain⟨lp3,q1,q2⟩:=k2
        let lp4:Loop:={ lp3 with state:=if(sG e).isNone then .ready else .done,pending:=sG e }
        obtain⟨v4,x4⟩:=DI hR3.val hl3 hh3 rfl (b':=.loop (oQ e) f3 nt3 ahQ ps3 a3' b3 (sG e)) (o':=.loop lp4) ⟨lp4,by simp[(a2h.1 q1).1],
         {ps:=q2.ps,uJ:=q2.uJ,body:=q2.body,size:=q2.size,KJ:=q2.KJ,TF:=q2.TF,nol:=q2.nol
          ready:=fun hn=>by cases e<;>simp[oQ]at hn;exact⟨rfl,rfl⟩
          busy:=fun hn hp=>by cases e<;>simp[oQ,sG]at hn hp
          done:=fun hn j hj _=>by cases e<;>simp[oQ]at hn<;>(simp only[sG,a00]at hj;subst hj;exact⟨rfl,rfl⟩) }⟩
        have hR4:=hR3.next hB (s':={ s2 with heap:=s2.heap.set l (.loop (oQ e) f3 nt3 ahQ ps3 a3' b3 (sG e)),ws:=Ef h.length l s2.ws }) v4 x4 rfl rfl (fun _ _ e=>e);have NV:=YL hB hR4 (v:=.bool (oQ e)) (y:=.bool (oQ e)) (.bool _);have adS:(Instr.endRound l' (sG e)).run P w3=.ok (.bool (oQ e)) { w3 with heap:=w3.heap.setIfInBounds l' (.loop lp4) }:=by cases e<;>simp[Instr.endRound,Instr.getLoop,getObj,setObj,Sem.run,q1,oQ,sG,lp4]
        cases e with
        |norm=>exact⟨_,_,adS,NV⟩
        |exit id=>exact⟨_,_,adS,NV⟩
        |ret=>exact⟨_,_,adS,NV⟩
       .cases hf
      .cases hf
    .cases hf
   .cases hf
  .cases hf
 .cases hf
end
def YO(cd:uU):Prop:=∀fv args h K1 K2,cd fv args h K1->cd fv args h K2->∃v h' ws,K1 v h' ws∧K2 v h' ws
theorem Wh:YO Cm:=fun _ _ _ _ _ h _=>h.elim
theorem a2x{P:LI1}:LD P Cm:=fun _ _ _ _ _ _ h=>h.elim
section
variable {P:LI1} {T:qx} {call:aY} {cd:uU} {L f:Nat} {fl nt:Nat}
theorem NW{g:St->(Ex->St->Prop)->Prop}(hg:∀s Q1 Q2,g s Q1->g s Q2->∃e s',Q1 e s'∧Q2 e s'):∀(k:Nat) {s:St} {Q1 Q2:Ex->St->Prop},Gt g k s Q1->Gt g k s Q2->∃e s',Q1 e s'∧Q2 e s'
 | 0,_,_,_,h,_=>h.elim
 |k+1,s,Q1,Q2,h1,h2=>by
  obtain⟨e,s',q1,q2⟩:=hg _ _ _ h1 h2;cases e with
  |norm=>exact NW hg k q1 q2
  |exit i=>exact⟨_,_,q1,q2⟩
  |ret=>exact⟨_,_,q1,q2⟩
theorem YP{s:St}{it:Nat}{K1 K2:St->TV->Prop}(h1:a0v fl s it K1)(h2:a0v fl s it K2):∃s1 v,K1 s1 v∧K2 s1 v:=by
 obtain⟨b,r,n,seen,es,a1,a2,a3,a4,a5,a6⟩:=h1;obtain⟨b',r',n',arG,fU,c1,c2,c3,c4,c5,c6⟩:=h2;rw[a1]at c1;cases c1;rw[a2]at c2;cases c2;rw[a3]at c3;cases c3;by_cases h:∀j,j<n->j∈seen
 .exact⟨_,_,a5 h,c5 h⟩
 obtain⟨j,hj⟩:=Classical.not_forall.1 h;obtain⟨hj1,rU⟩:=Classical.not_imp.1 hj;have hl:j<es.length:=by omega
 exact⟨_,_,a6 j _ rU (a0a hl),c6 j _ rU (a0a hl)⟩
theorem NY(hcd:YO cd):∀(c:Code) {s:St} {Q1 Q2:Ex->St->Prop},fF P T call cd L f fl nt c s Q1->fF P T call cd L f fl nt c s Q2->∃e s',Q1 e s'∧Q2 e s':=by
 have plain:∀(c:Code) {s:St} {Q1 Q2:Ex->St->Prop},(∃e s',exec P T call L f false fl nt c s=some (e,s')∧Q1 e s')->(∃e s',exec P T call L f false fl nt c s=some (e,s')∧Q2 e s')->∃e s',Q1 e s'∧Q2 e s':=by rintro c s Q1 Q2 ⟨e,s1,h1,h2⟩ ⟨e',s2,h3,h4⟩;rw[h1]at h3;cases h3;exact⟨_,_,h2,h4⟩
 intro c
 induction c with
 |region id ops draw=>
  intro s Q1 Q2 h1 h2;simp only[fF]at h1 h2;split at h1
  .rename_i it nx o1 o2 hn;simp only[hn]at h2;obtain⟨s1,v,⟨s2,is,k1,k2⟩,⟨s3,is',k3,k4⟩⟩:=YP h1.2 h2.2;rw[k1]at k3;cases k3;exact⟨_,_,k2,k4⟩
  rename_i hn;simp only[hn]at h2;exact plain _ h1 h2
 |seq x y VW ihy=>
  intro s Q1 Q2 h1 h2;simp only[fF]at h1 h2;obtain⟨e,s1,q1,q2⟩:=VW h1 h2;cases e with
  |norm=>exact ihy q1 q2
  |exit i=>exact⟨_,_,q1,q2⟩
  |ret=>exact⟨_,_,q1,q2⟩
 |cond c x y VW ihy=>
  intro s Q1 Q2 h1 h2;simp only[fF]at h1 h2;split at h1
  .rename_i hc;simp only[hc]at h2;exact VW h1 h2
  .rename_i hc;simp only[hc]at h2;exact ihy h1 h2
  exact h1.elim
 |block id b ih=>
  intro s Q1 Q2 h1 h2;simp only[fF]at h1 h2;obtain⟨e,s1,q1,q2⟩:=ih h1 h2;exact⟨_,_,q1,q2⟩
 |scope b ih=>
  intro s Q1 Q2 h1 h2;simp only[fF]at h1 h2;exact ih h1 h2
 |loop b ih=>
  intro s Q1 Q2 h1 h2;simp only[fF]at h1 h2;exact NW (g:=fun s Q=>fF P T call cd L f fl nt b (jU (T.eX f (dQ b)) s) Q) (fun s Q1 Q2 a b=>ih a b) L h1 h2
 |rangeFunc g ps uJ body=>
  intro s Q1 Q2 h1 h2;simp only[fF]at h1 h2;split at h1
  .rename_i hd;rw[a0g hd]at h2;obtain⟨f1,a1,b1,e1,_,k1⟩:=h1;obtain⟨f2,a2,b2,e2,_,k2⟩:=h2;rw[e1]at e2;cases e2;obtain⟨v,h',ws,⟨_,_,_,_,_,_,_,_,_,c1,c2,c3⟩,⟨_,_,_,_,_,_,_,_,_,d1,d2,d3⟩⟩:=hcd _ _ _ _ _ k1 k2;rw[c1]at d1;cases d1;rw[c2]at d2;cases d2;exact⟨_,_,c3,d3⟩
  rename_i hd;rw[a0c hd]at h2;exact plain _ h1 h2
 |_=>
  intro s Q1 Q2 h1 h2;simp only[fF]at h1 h2;exact plain _ h1 h2
def uO(P:LI1)(T:qx)(call:aY)(L:Nat):uU:=fun fv args h K=>match fv with
 |.fn f a b=>∃t,TA P f=some t∧fF P T call Cm L f h.length t.nt t.body ⟨nI 0 (a++args++b),[],h,[]⟩ fun e s=>(e=.norm∨e=.ret)∧∃vs,xG P s t.results=some vs∧K (one vs) s.heap s.ws
 |_=>False
theorem Wi:YO (uO P T call L):=fun fv args h K1 K2 h1 h2=>by
 cases fv with
 |fn f a b=>
  obtain⟨t,e1,k1⟩:=h1;obtain⟨t',e2,k2⟩:=h2;rw[e1]at e2;cases e2;obtain⟨e,s,⟨_,vs,a1,a2⟩,⟨_,vs',a3,a4⟩⟩:=NY Wh _ k1 k2;rw[a1]at a3;cases a3;exact⟨_,_,_,a2,a4⟩
 |_=>exact h1.elim
def Wj(P:LI1)(T:qx)(call:aY)(L:Nat)(f:Nat)(t:FnT)(args:List TV)(h:List HB)(r:TV×List HB):Prop:=
 fF P T call (uO P T call L) L f h.length t.nt t.body ⟨nI 0 args,[],h,[]⟩ fun e s=>(e=.norm∨e=.ret)∧∃vs,xG P s t.results=some vs∧s.ws=[]∧NS (T.a8S.contains f) h (one vs) s.heap=some r
open Classical in
def a2y(P:LI1)(T:qx)(call:aY)(L:Nat)(f:Nat)(args:List TV)(h:List HB):Option (TV×List HB×List Nat):=
 match TA P f with
 |some t=>if hx:∃r,Wj P T call L f t args h r then some ((Classical.choose hx).1,(Classical.choose hx).2,[])else none
 |none=>none
theorem a2z{args:List TV}{h:List HB}{r:TV×List HB×List Nat}(hf:a2y P T call L f args h=some r):∃t,TA P f=some t∧Wj P T call L f t args h (r.1,r.2.1)∧r.2.2=[]:=by
 unfold a2y at hf;split at hf
 .rename_i t ht;split at hf
  .rename_i hx;cases hf;exact⟨t,ht,a8V hx,rfl⟩
  cases hf
 cases hf
theorem a9i{args:List TV}{h:List HB}{r:TV×List HB}{t:FnT}(ht:TA P f=some t)(hr:Wj P T call L f t args h r):a2y P T call L f args h=some (r.1,r.2,[]):=by unfold a2y;rw[ht];simp only[];have hx:∃r,Wj P T call L f t args h r:=⟨r,hr⟩;rw[dif_pos hx];obtain⟨e,s,⟨_,vs,a1,_,a2⟩,⟨_,vs',a3,_,a4⟩⟩:=NY Wi _ (a8V hx) hr;rw[a1]at a3;cases a3;rw[a2]at a4;cases a4;rfl
end
section
variable {P:LI1} {T:qx} {call:aY} {cd:uU} {L:Nat} {nt:Nat} {M:Mp} {h:List HB} {w:LI4}
theorem a0B(hm:P.follows .mixedOrders=true)(hC:iC P call)(hD:LD P cd){f:Nat}{args:List TV}{t:FnT}{K:TV->List HB->List Nat->Prop}(ht:TA P f=some t)
  (hO:fF P T call cd L f h.length t.nt t.body ⟨nI 0 args,[],h,[]⟩ fun e s=>(e=.norm∨e=.ret)∧∃vs,xG P s t.results=some vs∧K (one vs) s.heap s.ws) (hB:vZ M h w) {xs:List LI3} (hx:bU M.h args xs) :
  ∃ fn c, P.funcs[f]? = some fn ∧ (fn.name == "runtime.NumGoroutine") = false ∧ fn.body = some c ∧ ∀ n, CallsIn Fence.wide n P f xs.toArray w (KO fun y w' => ∃ v h' ws, K v h' ws ∧ jJ M h w v h' ws y w') := by
 unfold TA at ht;split at ht
 .rename_i fn hfn;split at ht
  .cases ht
  .rename_i a5p;split at ht
   .rename_i c hc;cases ht;refine⟨fn,c,hfn,by simpa using a5p,hc,fun n=>?_⟩;have hR0:Rel M h w fn.ntmps M ⟨nI 0 args,[],h,[]⟩ { tmps:=xs.toArray++Array.replicate (fn.ntmps-xs.toArray.size) Go.undef,defers:=[] } w:=by
     have hg:St.get ⟨nI 0 args,[],h,[]⟩=kQ h:=getEnv ⟨[],[],h,[]⟩ _ _;refine⟨by rw[hg];exact hB.val,by rw[hg];exact .refl _ _ _,fun t e hl=>?_,by simp;omega,by simp,.nil⟩;obtain⟨i,v',x,e1,rfl,e3,e4⟩:=IQ hx hl;have hi:i<xs.length:=(a01.1 e3).1;have:(xs.toArray++Array.replicate (fn.ntmps-xs.toArray.size) Go.undef).getD t Go.undef=x:=by rw[a8l,a9N (by simp;omega)];have:t=i:=(by omega);subst this;simp[e3]
     rw[this];exact .val e4
    have NV:∀(s:St) (vs:List TV),xG P s fn.results.toList=some vs->K (one vs) s.heap s.ws->∀(M':Mp) (a':Act) (w':LI4),Rel M h w fn.ntmps M' s a' w'->LeavesInM Fence.wide n P fn a'.tmps (KO fun y w'=>∃v h' ws,K v h' ws∧jJ M h w v h' ws y w') a'.defers .returning w':=by intro s vs hvs hs M' a' w' Fa;refine NP hB a'.defers a' w' rfl Fa fun w'' a5q=>?_;obtain⟨y,g1,g2⟩:=NM (P:=P) a5q hvs;exact⟨y,g2,_,_,_,hs,YL hB a5q g1⟩
    refine callsIn_of_wp_marks (F:=Fence.wide) hfn hc trivial ?_;refine a5i hm hC hD hB _ _ _ hO n _ M _ w hR0 fun e s M' a' w' hq Fa=>?_;obtain⟨he,vs,h1,h2⟩:=hq;rcases he with rfl|rfl
    .exact NV s vs h1 h2 M' a' w' Fa
    .exact NV s vs h1 h2 M' a' w' Fa
   .cases ht
 .cases ht
theorem a2A(hm:P.follows .mixedOrders=true)(hC:iC P call):LD P (uO P T call L):=by
 intro f1 a1 b1 args h K hc M w x xs hV hl hx Nz;obtain⟨t,ht,hO⟩:=hc;cases hx with
 |fn h1 h2 h3 h4=>
  rename_i ys zs;have EF:bU M.h (a1++args++b1) (ys++xs++zs):=(bU.append ⟨h1,h2⟩ Nz).append ⟨h3,h4⟩;obtain⟨fn,c,e1,e2,e3,e4⟩:=a0B hm hC a2x ht hO ⟨hV,hl⟩ EF;refine⟨{ target:=.fn (.func f1) zs.toArray,args:=ys.toArray++xs.toArray },fun w=>by simp[Deferred.ofValue],f1,(ys++xs++zs).toArray,?_,e4⟩;have e2' : ¬ fn.name = "runtime.NumGoroutine" := by simpa using e2
  simp[invoke,callFunc,program,Sem.run,e1,e2',e3]
theorem a9j(hm:P.follows .mixedOrders=true)(hC:iC P call){f:Nat}{args:List TV}{v:TV}{h':List HB}{ws:List Nat}(hf:a2y P T call L f args h=some (v,h',ws))(hB:vZ M h w){xs:List LI3}(hx:bU M.h args xs) :
  ∃ fn c, P.funcs[f]? = some fn ∧ (fn.name == "runtime.NumGoroutine") = false ∧ fn.body = some c ∧ ∀ n, CallsIn Fence.wide n P f xs.toArray w (KO (jJ M h w v h' ws)) := by
 obtain⟨t,ht,hO,hw⟩:=a2z hf;simp only at hw;subst hw;obtain⟨fn,c,e1,e2,e3,e4⟩:=a0B (K:=fun v1 h1 ws1=>ws1=[]∧NS (T.a8S.contains f) h v1 h1=some (v,h')) hm hC (a2A hm hC) ht hO hB hx;refine⟨fn,c,e1,e2,e3,fun n=>CallsIn.mono (F:=Fence.wide) (e4 n) fun en w3 VU=>?_⟩;cases en with
 |panicked c=>exact VU.elim
 |outgrown=>exact VU.elim
 |returned y=>
  obtain⟨v1,h1,ws1,⟨rfl,ho⟩,hR⟩:=VU;exact jJ.norm hB.val hB.loc ho hR
end
section
variable {H:Type}
def Wn(g:DataW H->List HB->Option (List TV×List HB))(n:Nat):List (DataW H)->List HB->Option (List TV×List HB)
 | [],h=>some ([],h)
 |d::ds,h=>match g d h with
  |some (c,h1)=>if c.length=n then(match Wn g n ds h1 with
   |some (cs,h2)=>some (c++cs,h2)
   |none=>none)else none
  |none=>none
def KQ(P:LI1)(g:LI2->DataW H->List HB->Option (List TV×List HB)):Nat->List Field->List (DataW H)->List HB->Option (List TV×List HB)
 |_,[],[],h=>some ([],h)
 |o,f::fs,d::ds,h=>match g f.type d h with
  |some (c,h1)=>if f.offset=o∧c.length=P.cellsOf f.type then(match KQ P g (o+c.length) fs ds h1 with
   |some (cs,h2)=>some (c++cs,h2)
   |none=>none)else none
  |none=>none
 |_,_,_,_=>none
def adU (P : Program) (n : Nat) (e : TypeId) : List Field := (List.range n).map fun i => ⟨"", e, i * P.cellsOf e, false, "", "", 0⟩
def CG(P:LI1):Nat->LI2->DataW H->List HB->Option (List TV×List HB)
 | 0,_,_,_=>none
 |g+1,t,d,h=>match P.underlying t,d with
  |some .bool,.lit (.bool b)=>some ([.bool b],h)
  |some (.int _),.lit (.int k n)=>some ([.int k n],h)
  |some .string,.lit (.string bs)=>some ([.str ⟨bs.toArray⟩],h)
  |some (.slice _),.nil=>some ([.nil .aP],h)
  |some (.slice e),.slice xs ys=>match Wn (CG P g e) (P.cellsOf e) (xs++ys) h with
   |some (cs,h1)=>if P.cellsOf e=0 then none else some ([.aP h1.length 0 xs.length (xs.length+ys.length) (P.cellsOf e) true],h1++[.cells .ro cs])
   |none=>none
  |some (.struct fs),.agg ds=>match KQ P (CG P g) 0 fs.toList ds h with
   |some (cs,h1)=>if cs.length=P.cellsOf t then some (cs,h1)else none
   |none=>none
  |some (.array n e),.agg ds=>match KQ P (CG P g) 0 (adU P n e) ds h with
   |some (cs,h1)=>if cs.length=P.cellsOf t then some (cs,h1)else none
   |none=>none
  |_,_=>none
variable {enc:LI2×LI3->H} {P:LI1} {w:LI4}
structure uP(M:Mp)(h:List HB)(w:LI4):Prop where
 base:vZ M h w
 ro:∀b∈h,wr b=false
def Reads(enc:LI2×LI3->H)(P:LI1)(w:LI4)(t:LI2)(cs:List LI3)(d:DataW H):Prop:=
 ∃fuel ps,DataW.trod enc P w 0 (fun _=>true) true fuel t cs=some (d,ps)
def a5r(enc:LI2×LI3->H)(P:LI1)(w:LI4)(g:LI2->DataW H->List HB->Option (List TV×List HB)):Prop:=
 ∀t d h r,g t d h=some r->∀cs,Reads enc P w t cs d->∀M,uP M h w->∃M',uP M' r.2 w∧rX M M'∧bU M'.h r.1 cs∧∀c∈r.1,iT c=true
theorem a0C{g:LI2->DataW H->List HB->Option (List TV×List HB)}(hg:a5r enc P w g){e:LI2}{n:Nat}:∀(ds:List (DataW H)) (LH:List (List LI3)) (h:List HB) (r:List TV×List HB),Wn (g e) n ds h=some r ->
  LH.length=ds.length->(∀(i:Nat) (d:DataW H) (cs:List LI3),ds[i]? = some d->LH[i]? = some cs->Reads enc P w e cs d)->∀M,uP M h w ->
  ∃M',uP M' r.2 w∧rX M M'∧bU M'.h r.1 LH.flatten∧(∀c∈r.1,iT c=true)∧r.1.length=ds.length*n∧∀cs∈LH,cs.length=n
 | [],LH,h,r,hr,hl,hd,M,hB=>by simp only[Wn,a00]at hr;subst hr;have:LH=[]:=a3Y (by simpa using hl);subst this;exact⟨M,hB,.refl M,.nil,by simp,by simp,by simp⟩
 |d::ds,[],h,r,hr,hl,hd,M,hB=>by simp at hl
 |d::ds,cs::LH,h,r,hr,hl,hd,M,hB=>by
  simp only[Wn]at hr;split at hr
  .rename_i c h1 hc;split at hr
   .rename_i hn;split at hr
    .rename_i cs' h2 QM;simp only[a00]at hr;subst hr;obtain⟨M1,b1,m1,v1,o1⟩:=hg e d h (c,h1) hc cs (hd 0 d cs rfl rfl) M hB;obtain⟨M2,b2,m2,v2,o2,l2,u2⟩:=a0C hg ds LH h1 (cs',h2) QM (by simpa using hl) (fun i d' adV e1 e2=>hd (i+1) d' adV (by simpa using e1) (by simpa using e2)) M1 b1;refine⟨M2,b2,m1.trans m2,?_,?_,?_,?_⟩
     .rw[List.flatten_cons];exact(v1.mono m2.h).append v2
     .intro x hx;rcases a3k.1 hx with hx|hx
      .exact o1 x hx
      .exact o2 x hx
     .simp only[a1I,l2,hn,a4b,a3m,adw];omega
     .intro x hx;rcases a2d.1 hx with rfl|hx
      .have:=v1.len;simp only at this;omega
      .exact u2 x hx
    .cases hr
   .cases hr
  .cases hr
theorem U3{g:LI2->DataW H->List HB->Option (List TV×List HB)}(hg:a5r enc P w g){cs:List LI3}:∀(fs:List Field) (ds:List (DataW H)) (o:Nat) (h:List HB) (r:List TV×List HB),KQ P g o fs ds h=some r ->
  (∀(i:Nat) (f:Field) (d:DataW H),fs[i]? = some f->ds[i]? = some d->Reads enc P w f.type ((cs.drop f.offset).take (P.cellsOf f.type)) d)->∀M,uP M h w ->
  ∃M',uP M' r.2 w∧rX M M'∧bU M'.h r.1 ((cs.drop o).take r.1.length)∧∀c∈r.1,iT c=true
 | [],[],o,h,r,hr,hd,M,hB=>by simp only[KQ,a00]at hr;subst hr;exact⟨M,hB,.refl M,by simpa using bU.nil,by simp⟩
 | [],d::ds,o,h,r,hr,hd,M,hB=>by simp[KQ]at hr
 |f::fs,[],o,h,r,hr,hd,M,hB=>by simp[KQ]at hr
 |f::fs,d::ds,o,h,r,hr,hd,M,hB=>by
  simp only[KQ]at hr;split at hr
  .rename_i c h1 hc;split at hr
   .rename_i hn;obtain⟨ho,hn⟩:=hn;split at hr
    .rename_i cs' h2 QM;simp only[a00]at hr;subst hr;obtain⟨M1,b1,m1,v1,o1⟩:=hg f.type d h (c,h1) hc _ (hd 0 f d rfl rfl) M hB;obtain⟨M2,b2,m2,v2,o2⟩:=U3 hg fs ds (o+c.length) h1 (cs',h2) QM (fun i f' d' e1 e2=>hd (i+1) f' d' (by simpa using e1) (by simpa using e2)) M1 b1;refine⟨M2,b2,m1.trans m2,?_,?_⟩
     .have:=(v1.mono m2.h).append v2;rw[ho,<-hn]at this;simp only at this ⊢;rw[a1I,List.take_add,afc];exact this
     .intro x hx;rcases a3k.1 hx with hx|hx
      .exact o1 x hx
      .exact o2 x hx
    .cases hr
   .cases hr
  .cases hr
theorem JX{n:Nat}:∀{LH:List (List LI3)},(∀cs∈LH,cs.length=n)->∀(i j:Nat),j<n->LH.flatten[i*n+j]? = (LH[i]?).bind (·[j]?)
 | [],_,i,j,_=>by simp
 |cs::LH,h,0,j,hj=>by have:=h cs a2O;simp only[List.flatten_cons,abT,a3T];rw[a0b (by omega)];simp
 |cs::LH,h,i+1,j,hj=>by have hc:=h cs a2O;simp only[List.flatten_cons];rw[a0S (by rw[hc,a3m,adw];omega),hc];rw[show(i+1)*n+j-n=i*n+j by rw[a3m,adw];omega];rw[JX (fun x hx=>h x (a2P _ hx)) i j hj];simp
theorem a0D{M:Mp}{h:List HB}(hB:uP M h w){cs:List TV}{ls:List Pl}(h1:∀c∈cs,iT c=true)(h2:∀p∈ls,N9 M.h w .ro cs p) :
  ∃M',uP M' (h++[.cells .ro cs]) w∧rX M M'∧M' (.h h.length)=some (.cells ls):=by
 have yB:kQ h (.h h.length)=none:=by simp[kQ,St.get]
 have yM:M (.h h.length)=none:=by
  cases hm:M (.h h.length)with
  |none=>rfl
  |some l=>have:=hB.base.val.has hm;rw[yB]at this;cases this
 have hle:rX M (dJ M (.h h.length) (.cells ls)):=lU fun l0 h0=>by rw[yM]at h0;cases h0
 have hg:kQ (h++[.cells .ro cs])=lJ (kQ h) (.h h.length) (.cells .ro cs):=jW ⟨[],[],h,[]⟩ _ [] [];have hro:∀b∈h++[HB.cells .ro cs],wr b=false:=fun b hb=>by
  rcases a3k.1 hb with hb|hb
  .exact hB.ro b hb
  .simp at hb;subst hb;rfl
 refine⟨dJ M (.h h.length) (.cells ls),⟨⟨⟨?_,?_,?_⟩,fun k=>?_⟩,hro⟩,hle,by simp[dJ]⟩
 .intro k l hk _;rw[hg];by_cases xJ:k=.h h.length
  .subst xJ;simp only[dJ,a1U,a00]at hk;subst hk;exact⟨.cells .ro cs,by simp[lJ],h1,fun p hp=>(h2 p hp).mono hle.h rfl,by simp,by simp⟩
  .simp only[dJ,xJ,a3g]at hk;obtain⟨b,g1,g2⟩:=hB.base.val.ok k l hk trivial;exact⟨b,by simp[lJ,xJ,g1],g2.mono hle.h fun _ _=>rfl⟩
 .intro k k' l l' b iq hk o8 _ hb hw;have:wr b=false:=by
   cases k with
   |h x=>exact hro b (a4m hb)
   |l x=>simp[kQ,St.get]at hb
  rw[this]at hw;cases hw
 .intro k l hk c hc;by_cases xJ:k=.h h.length
  .subst xJ;simp only[dJ,a1U,a00]at hk;subst hk;obtain⟨p,hp,rfl⟩:=a1g.1 hc;obtain⟨arr,ty,fz,g1,_⟩:=(h2 p hp).row;exact(a2h.1 g1).1
  .simp only[dJ,xJ,a3g]at hk;exact hB.base.val.inb k l hk c hc
 .simp[dJ];exact hB.base.loc k
theorem a0E:∀g,a5r enc P w (CG P g)
 | 0=>by intro t d h r hr;simp[CG]at hr
 |g+1=>by
  intro t d h r hr cs hd M hB;obtain⟨fuel,ps,hd⟩:=hd;have ih:=a0E g;simp only[CG]at hr;split at hr
  .-- bool
   rename_i b hu;simp only[a00]at hr;subst hr;refine⟨M,hB,.refl M,?_,by simp[iT]⟩;cases fuel with
   |zero=>simp[DataW.trod]at hd
   |succ n=>
    unfold DataW.trod at hd;rw[hu]at hd;split at hd<;>simp_all
    exact .cons (.bool _) .nil
  .-- int
   rename_i k0 k n hu;simp only[a00]at hr;subst hr;refine⟨M,hB,.refl M,?_,by simp[iT]⟩;cases fuel with
   |zero=>simp[DataW.trod]at hd
   |succ n=>
    unfold DataW.trod at hd;rw[hu]at hd;split at hd<;>simp_all
    exact .cons (.int _ _) .nil
  .-- string
   rename_i bs hu;simp only[a00]at hr;subst hr;refine⟨M,hB,.refl M,?_,by simp[iT]⟩;cases fuel with
   |zero=>simp[DataW.trod]at hd
   |succ n=>
    unfold DataW.trod at hd;rw[hu]at hd;split at hd<;>simp_all
    obtain⟨_,rfl,_⟩:=hd;exact .cons (.str _) .nil
  .-- nil slice
   rename_i e hu;simp only[a00]at hr;subst hr;refine⟨M,hB,.refl M,?_,by simp[iT]⟩;rcases Deep.open_slice hu hd with⟨rfl,_⟩|⟨a,len,cap,m,n,Dt,Pl,_,_,_,_,_,hx,_⟩
   .exact .cons .TD .nil
   cases hx
  .-- a slice
   rename_i e xs ys hu;split at hr
   rotate_left
   .cases hr
   rename_i cells h1 hl;split at hr
   .cases hr
   rename_i hn0;simp only[a00]at hr;subst hr;rcases Deep.open_slice hu hd with⟨rfl,hx⟩|⟨a,len,cap,m,n,Dt,Pl,rfl,_,hlc,ahR,hm,hx,Iq⟩
   .cases hx
   simp only[a1U]at hm;have hm':=hm.symm;subst hm';simp only[a0i,DataW.slice.injEq]at hx;obtain⟨⟨Nz,hys⟩,_⟩:=hx;have lxs:xs.length=len:=by rw[Nz];simp
   have lys:ys.length=cap-len:=by rw[hys];simp
   have hds:∀i,i<cap->(xs++ys)[i]? = some (Dt i):=by
    intro i hi;by_cases h1:i<len
    .rw[a0b (by omega),Nz];simp[h1]
    rw[a0S (by omega),lxs,hys];have h2:i-len<cap-len:=(by omega);simp[h2,show len+(i-len)=i by omega]
   have hn:=Iq
   let LH:List (List LI3):=(List.range cap).map fun i=>(w.cells? 0 (a.add (i*P.cellsOf e)) (P.cellsOf e)).getD []
   have QM:∀i,i<cap->∃cs',LH[i]? = some cs'∧w.cells? 0 (a.add (i*P.cellsOf e)) (P.cellsOf e)=some cs'∧DataW.trod enc P w 0 (fun _=>true) true n e cs'=some (Dt i,Pl i):=by intro i hi;obtain⟨cs',e1,e2⟩:=Iq i hi;exact⟨cs',by simp[LH,hi,e1],e1,e2⟩
   have ahS:LH.length=cap:=(by simp[LH]);obtain⟨M1,b1,m1,v1,o1,l1,u1⟩:=a0C ih (xs++ys) LH h (cells,h1) hl (by simp[ahS,lxs,lys];omega) (fun i d cs e1 e2=>by
    have hi:i<cap:=by rw[<-ahS];exact(a01.1 e2).1
    obtain⟨cs',f1,f2,f3⟩:=QM i hi;rw[f1]at e2;cases e2;rw[hds i hi]at e1;cases e1;exact⟨n,_,f3⟩) M hB
   simp only at b1 v1 o1 l1;have l1':cells.length=cap*P.cellsOf e:=by rw[l1];simp[lxs,lys];congr 1;omega
   have a4H:0<P.cellsOf e:=(by omega);have e1:xs.length+ys.length=cap:=(by omega);show ∃M',uP M' (h1++[.cells .ro cells]) w∧rX M M'∧bU M'.h [.aP h1.length 0 xs.length (xs.length+ys.length) (P.cellsOf e) true] [.slice (some a) len cap]∧∀c∈[TV.aP h1.length 0 xs.length (xs.length+ys.length) (P.cellsOf e) true],iT c=true;rw[e1,lxs];by_cases hc0:cap=0
   .obtain⟨M2,b2,m2,k2⟩:=a0D b1 (cs:=cells) (ls:=[]) o1 (by simp);refine⟨M2,b2,m1.trans m2,.cons (.aP (p:=⟨0,0,0,0⟩) k2 (.inl hc0) ?_ ?_ ?_ ?_ (.inl hc0) (by unfold maxLen at ahR;omega)) .nil,by intro c hc;simp at hc;subst hc;rfl⟩
    .simp[hc0]
    .omega
    .omega
    intro _;omega
   have Wp:∀k,k<cap*P.cellsOf e->w.cell? (a.add k)=LH.flatten[k]?:=by
    intro k hk;have hj:k%P.cellsOf e<P.cellsOf e:=Nat.mod_lt _ a4H;have hi:k/P.cellsOf e<cap:=by rw[Nat.div_lt_iff_lt_mul a4H];exact hk
    have xJ:k/P.cellsOf e*P.cellsOf e+k%P.cellsOf e=k:=by rw[Nat.mul_comm];exact Nat.div_add_mod k _
    obtain⟨cs',f1,f2,_⟩:=QM _ hi;obtain⟨_,_,f3⟩:=World.cells?_some f2;have f4:=f3 _ hj;rw[Deep.add_add,xJ]at f4;have f5:=JX u1 (k/P.cellsOf e) (k%P.cellsOf e) hj;rw[xJ,f1]at f5;rw[f4,f5];rfl
   have ahu:0<cap*P.cellsOf e:=Nat.mul_pos (by omega) a4H;have lfl:LH.flatten.length=cap*P.cellsOf e:=(by rw[<-v1.len,l1']);have h00:=Wp 0 ahu;have hv0:LH.flatten[0]? = some (LH.flatten[0]'(by omega)):=a0a _;rw[hv0,Addr.add,a0g rfl]at h00;have yD:∃arr ty fz,w.heap[a.block]? = some (.cells arr ty fz)∧a.spot=none:=by
    unfold World.cell? at h00;split at h00
    .rename_i c ty fz hh;split at h00
     .cases h00
     rename_i hsp;exact⟨c,ty,fz,hh,by simpa using hsp⟩
    cases h00
   obtain⟨arr,ty,fz,hh,hsp⟩:=yD;have Wq:∀k,w.cell? (a.add k)=arr[a.off+k]?:=by
    intro k;unfold World.cell? Addr.add;by_cases hk:k=0
    .subst hk;simp[hh,hsp]
    simp[hk,hh]
   have hbound:a.off+cap*P.cellsOf e<=arr.size:=by have h1:=Wp (cap*P.cellsOf e-1) (by omega);rw[Wq,a0a (by omega)]at h1;have:=(a2h.1 h1).1;omega
   obtain⟨M2,b2,m2,k2⟩:=a0D b1 (cs:=cells) (ls:=[⟨a.block,a.off,cap*P.cellsOf e,arr.size⟩]) o1 (by intro p hp;simp at hp;subst hp;refine⟨⟨arr,ty,fz,hh,rfl,by simp,fun _ i c v hi e1 e2=>?_⟩,hbound,agH l1'.symm,by simp⟩;simp only at hi e2;rw[<-Wq,Wp i hi]at e2;exact v1.at_ i c v e1 e2)
   refine⟨M2,b2,m1.trans m2,.cons (.aP (p:=⟨a.block,a.off,cap*P.cellsOf e,arr.size⟩) k2 (.inr (by simp)) ?_ ?_ ?_ ?_ (.inr ⟨?_,?_⟩) (by unfold maxLen at ahR;omega)) .nil,by intro c hc;simp at hc;subst hc;rfl⟩
   .simp
   .omega
   .omega
   .intro _;omega
   .cases a;simp_all
   simpa using hbound
  .-- a struct
   rename_i fs ds hu;split at hr
   .rename_i cs' h1 hl;split at hr
    .rename_i hlen;simp only[a00]at hr;subst hr;obtain⟨zs,n,_,hx,pF,VH,Iq⟩:=DataW.trod_struct hu hd;simp only[a0i,DataW.agg.injEq]at hx;obtain⟨rfl,_⟩:=hx;obtain⟨M',b1,m1,v1,o1⟩:=U3 ih fs.toList _ 0 h (cs',h1) hl (cs:=cs) (fun i f d e1 e2=>by have e1':fs[i]? = some f:=(by simpa using e1);simp only[a4j,a05]at e2;obtain⟨z,hz,rfl⟩:=e2;exact⟨n,z.2,by rw[Iq i f e1',hz]⟩) M hB
     refine⟨M',b1,m1,?_,o1⟩;simp only at v1 ⊢;rw[hlen,<-pF]at v1;simpa using v1
    cases hr
   cases hr
  .-- an array
   rename_i k e ds hu;split at hr
   .rename_i cs' h1 hl;split at hr
    .rename_i hlen;simp only[a00]at hr;subst hr;obtain⟨zs,n,_,hx,pF,VH,Iq⟩:=DataW.trod_array hu hd;simp only[a0i,DataW.agg.injEq]at hx;obtain⟨rfl,_⟩:=hx;obtain⟨M',b1,m1,v1,o1⟩:=U3 ih (adU P k e) _ 0 h (cs',h1) hl (cs:=cs) (fun i f d e1 e2=>by simp only[adU,a4j,a05,ad2]at e1 e2;obtain⟨z,hz,rfl⟩:=e2;obtain⟨j,hj,rfl⟩:=e1;obtain⟨hi,rfl⟩:=a01.1 hj;simp only[a8D,agX]at hi ⊢;exact⟨n,z.2,by rw[Iq i hi,hz]⟩) M hB
     refine⟨M',b1,m1,?_,o1⟩;simp only at v1 ⊢;rw[hlen,<-pF]at v1;simpa using v1
    cases hr
   cases hr
  cases hr
end
open Go.ChangeShapes Go.WideShapes Go.RowKit
section
variable {H:Type} {enc:LI2×LI3->H} {P:LI1} {W W':LI4}
def U4(P:LI1)(g:Nat):List LI2->List (DataW H)->List HB->Option (List TV×List HB)
 | [],[],h=>some ([],h)
 |t::ts,d::ds,h=>match CG P g t d h with
  |some (c,h1)=>match vP P t,c,U4 P g ts ds h1 with
   |some true,c,some (az,h2)=>some (.agg c::az,h2)
   |some false,[x],some (az,h2)=>some (x::az,h2)
   |_,_,_=>none
  |none=>none
 |_,_,_=>none
theorem YQ{r:Reach}{b:Nat}{t:LI2}{v:LI3}(ha:vP P t=some false)(h:Value.okWide P W r b t v):v.cells.toList=[v]:=by
 unfold vP at ha;unfold Value.okWide at h;cases hu:P.underlying t with
 |none=>simp[hu]at ha
 |some u=>
  rw[hu]at ha h;cases v with
  |agg cs=>cases u<;>simp_all [Cell.okWide,Cell.ok]
  |_=>rfl
theorem YR{r:Reach}{b:Nat}{t:LI2}{v:LI3}(ha:vP P t=some true)(h:Value.okWide P W r b t v):∃cs,v=.agg cs:=by
 unfold vP at ha;unfold Value.okWide at h;cases hu:P.underlying t with
 |none=>simp[hu]at ha
 |some u=>
  rw[hu]at ha h;cases u<;>simp_all<;>exact⟨_,h.choose_spec.1⟩
theorem U5{r:Reach}{b g:Nat}:∀{ts:List LI2} {vs:List LI3} {ds:List (DataW H)} {ps:List MemPlace} {h:List HB} {x:List TV×List HB} {M:Mp},
  DataW.TrodAll enc P W 0 (fun _=>true) true ts vs ds ps->(∀(j:Nat) t v,ts[j]? = some t->vs[j]? = some v->Value.okWide P W r b t v)->U4 P g ts ds h=some x->uP M h W ->
  ∃M',uP M' x.2 W∧rX M M'∧bU M'.h x.1 vs
 | [],vs,ds,ps,h,x,M,ht,ho,he,hB=>by obtain⟨rfl,rfl,rfl⟩:=trodAll_nil ht;simp only[U4,a00]at he;subst he;exact⟨M,hB,.refl M,.nil⟩
 |t::ts,vs,ds,ps,h,x,M,ht,ho,he,hB=>by
  obtain⟨v,vs',d,ds',p,q,rfl,rfl,rfl,hd,Nu⟩:=trodAll_cons ht;simp only[U4]at he;split at he
  .rename_i c h1 hc;obtain⟨fuel,hf⟩:=hd;obtain⟨M1,b1,m1,v1,o1⟩:=a0E (enc:=enc) (P:=P) (w:=W) g t d h (c,h1) hc v.cells.toList ⟨fuel,p,hf⟩ M hB;split at he
   .rename_i az h2 ha hr;simp only[a00]at he;subst he;obtain⟨M2,b2,m2,v2⟩:=U5 (x:=(az,h2)) Nu (fun j t' v' e1 e2=>ho (j+1) t' v' (by simpa using e1) (by simpa using e2)) hr b1;obtain⟨cs,rfl⟩:=YR ha (ho 0 t v rfl rfl);refine⟨M2,b2,m1.trans m2,.cons ?_ v2⟩;have:=VR.agg' (v1.mono m2.h);simpa[Value.cells]using this
   .rename_i y az h2 ha hr;simp only[a00]at he;subst he;obtain⟨M2,b2,m2,v2⟩:=U5 (x:=(az,h2)) Nu (fun j t' v' e1 e2=>ho (j+1) t' v' (by simpa using e1) (by simpa using e2)) hr b1;have h1c:=YQ ha (ho 0 t v rfl rfl);rw[h1c]at v1;obtain⟨z,zs,e1,e2,e3⟩:=(v1.mono m2.h).iM;simp only[adW]at e1;obtain⟨rfl,rfl⟩:=e1;exact⟨M2,b2,m1.trans m2,.cons e2 v2⟩
   .cases he
  .cases he
theorem EG(hl:laidOutB P=true)(hb:Below W.heap.size W W'):∀{ts:List LI2} {vs:List LI3} {ds:List (DataW H)} {ps:List MemPlace},
  (ts.all fun t=>P.readableRec t&&decide (t<P.types.size))=true->DataW.TrodAll enc P W 0 (fun _=>true) true ts vs ds ps->(∀x∈ps,x.block<W.heap.size) ->
  DataW.TrodAll enc P W' 0 (fun b=>decide (b<W.heap.size)) true ts vs ds ps
 | [],_,_,_,_,h,_=>by obtain⟨rfl,rfl,rfl⟩:=trodAll_nil h;rfl
 |t::ts,_,_,_,ho,h,aT=>by obtain⟨v,vs',d,ds',p,q,rfl,rfl,rfl,hd,Nu⟩:=trodAll_cons h;simp only[abC,a2f,a1o]at ho;exact⟨p,q,Below.trod hl ho.1.1 ho.1.2 hd hb (fun x hx=>aT x (a4p _ hx)),EG hl hb ho.2 Nu (fun x hx=>aT x (aaf _ hx)),rfl⟩
theorem a2B{f:Func}{s:ChangeSpec}{args:Array LI3}{ds:List (DataW H)}{before:List MemPlace}{tb:LI2}(hl:laidOutB P=true)(hv:s.vars=[])(hs:s.fn H ds={ results:=[.lit (.bool true)],args:=ds })
  (hf:f.resultTypes=#[tb]) (htb:P.underlying tb=some .bool) (hp:(f.params.toList.all fun t=>P.readableRec t&&decide (t<P.types.size))=true)
  (hW:DataW.Whole enc P f.params.toList s.vars false W args.toList ds [] before) (hb:Below W.heap.size W W'):s.post enc P f false true false false W args (.bool true) W':=by
 have hW':=hW;obtain⟨p,q,hA,hV,rfl,hfz,jy⟩:=hW;rw[hv]at hV;have hq:q=[]:=hV;subst hq;have aT:∀x∈p,x.block<W.heap.size:=fun x hx=>by simpa using hW'.lt x (a4p _ hx)
 refine⟨ds,[],p++[],[],p,[],hW',?_,?_,?_,hb.frame _,by simp⟩
 .rw[a6L,hs,hf];refine⟨[],[],⟨1,?_⟩,rfl,rfl⟩;simp[DataW.trod,htb,Value.cells]
 .rw[a6L,hs];exact EG hl hb hp hA aT
 .rw[a6L,hs,hv];rfl
end
def U6(P:LI1)(T:qx)(call:aY)(L:Nat)(f:Nat)(args:List TV)(h:List HB):Option (TV×List HB×List Nat):=
 match TA P f with
 |some t=>match exec P T call L f false h.length t.nt t.body ⟨nI 0 args,[],h,[]⟩with
  |some (.norm,s)|some (.ret,s)=>match xG P s t.results with
   |some vs=>some (one vs,s.heap,s.ws)
   |none=>none
  |_=>none
 |none=>none
def kR(P:LI1)(T:qx)(L:Nat):Nat->aY
 | 0,_,_,_=>none
 |n+1,.fn f first cap,args,h=>if T.exts.contains f=true then T.ext (.fn f first cap) args h else if T.dem.contains f=true then a2y P T (kR P T L n) L f (first++args++cap) h else U6 P T (kR P T L n) L f (first++args++cap) h
 |n+1,.kG l,args,h=>N8 P T (kR P T L n) L l args h
 |_,_,_,_=>none
def runN(P:LI1)(T:qx)(L n f:Nat)(args:List TV)(h:List HB):Option (TV×List HB×List Nat):=kR P T L n (.fn f [] []) args h
section
variable {P:LI1} {T:qx} {call:aY} {L:Nat} {nt:Nat} {M:Mp} {h:List HB} {w:LI4}
theorem a0F(hm:P.follows .mixedOrders=true)(hC:iC P call){f:Nat}{args:List TV}{v:TV}{h':List HB}{ws:List Nat}(hf:U6 P T call L f args h=some (v,h',ws))(hB:vZ M h w){xs:List LI3}(hx:bU M.h args xs) :
  ∃ fn c, P.funcs[f]? = some fn ∧ (fn.name == "runtime.NumGoroutine") = false ∧ fn.body = some c ∧ ∀ n, CallsIn Fence.wide n P f xs.toArray w (KO (jJ M h w v h' ws)) := by
 unfold U6 TA at hf;split at hf
 .rename_i t ht;split at ht
  .rename_i fn hfn;split at ht
   .cases ht
   .rename_i a5p;split at ht
    .rename_i c hc;cases ht;refine⟨fn,c,hfn,by simpa using a5p,hc,fun n=>?_⟩;have hR0:Rel M h w fn.ntmps M ⟨nI 0 args,[],h,[]⟩ { tmps:=xs.toArray++Array.replicate (fn.ntmps-xs.toArray.size) Go.undef,defers:=[] } w:=by
      have hg:St.get ⟨nI 0 args,[],h,[]⟩=kQ h:=getEnv ⟨[],[],h,[]⟩ _ _;refine⟨by rw[hg];exact hB.val,by rw[hg];exact .refl _ _ _,fun t e hl=>?_,by simp;omega,by simp,.nil⟩;obtain⟨i,v',x,e1,rfl,e3,e4⟩:=IQ hx hl;have hi:i<xs.length:=(a01.1 e3).1;have:(xs.toArray++Array.replicate (fn.ntmps-xs.toArray.size) Go.undef).getD t Go.undef=x:=by rw[a8l,a9N (by simp;omega)];have:t=i:=(by omega);subst this;simp[e3]
      rw[this];exact .val e4
     have NV:∀(s:St),(match xG P s fn.results.toList with
       |some vs=>some (one vs,s.heap,s.ws)
       |none=>none)=some (v,h',ws)->∀(M':Mp) (a':Act) (w':LI4),Rel M h w fn.ntmps M' s a' w'->LeavesInM Fence.wide n P fn a'.tmps (KO (jJ M h w v h' ws)) a'.defers .returning w':=by
      intro s hs M' a' w' Fa;split at hs
      .rename_i vs hvs;refine NP hB a'.defers a' w' rfl Fa fun w'' a5q=>?_;obtain⟨y,g1,g2⟩:=NM (P:=P) a5q hvs;refine⟨y,g2,?_⟩;simp only[a00,a0i]at hs;obtain⟨rfl,rfl,rfl⟩:=hs;exact YL hB a5q g1
      .cases hs
     refine callsIn_of_wp_marks (F:=Fence.wide) hfn hc trivial ?_;split at hf
     .rename_i s hex;exact vC (gQ:=false) hm hC hB (fun _=>rfl) _ _ _ _ hex n _ M _ w hR0 fun M' a' w' Fa=>NV s hf M' a' w' Fa
     .rename_i s hex;exact vC (gQ:=false) hm hC hB (fun _=>rfl) _ _ _ _ hex n _ M _ w hR0 fun M' a' w' Fa=>NV s hf M' a' w' Fa
     .cases hf
    .cases ht
  .cases ht
 .cases hf
theorem YS(hm:P.follows .mixedOrders=true)(hE:iC P T.ext):∀n,iC P (kR P T L n)
 | 0=>by intro fv args h v h' ws hc;simp[kR]at hc
 |n+1=>by
  intro fv args h v h' ws hc M w x xs hV hl hx Nz;have ih:=YS hm hE n;cases fv with
  |fn f first cap=>
   simp only[kR]at hc;split at hc
   .exact hE _ _ _ _ _ _ hc M w x xs hV hl hx Nz
   rename_i hnx;cases hx with
   |fn h1 h2 h3 h4=>
    rename_i ys zs;have EF:bU M.h (first++args++cap) (ys++xs++zs):=(bU.append ⟨h1,h2⟩ Nz).append ⟨h3,h4⟩;obtain ⟨fn, c, e1, e2, e3, e4⟩ : ∃ fn c, P.funcs[f]? = some fn ∧ (fn.name == "runtime.NumGoroutine") = false ∧ fn.body = some c ∧ ∀ n, CallsIn Fence.wide n P f (ys ++ xs ++ zs).toArray w (KO (jJ M h w v h' ws)) := by
     split at hc
     .exact a9j hm ih hc ⟨hV,hl⟩ EF
     exact a0F hm ih hc ⟨hV,hl⟩ EF
    refine⟨{ target:=.fn (.func f) zs.toArray,args:=ys.toArray++xs.toArray },fun w=>by simp[Deferred.ofValue],.inl ⟨⟨f,(ys++xs++zs).toArray,?_,e4⟩,f,first,cap,rfl⟩⟩;have e2' : ¬ fn.name = "runtime.NumGoroutine" := (by simpa using e2);simp[invoke,callFunc,program,Sem.run,e1,e2',e3]
  |kG l=>
   simp only[kR]at hc;cases hx with
   |kG hm'=>
    rename_i l' _;refine⟨{ target:=.fn (.yield l') #[],args:=xs.toArray },fun w=>by simp[Deferred.ofValue],.inr ⟨a5o hm ih hc ⟨hV,hl⟩ hm' Nz,l,rfl⟩⟩
  |_=>simp[kR]at hc
theorem a9k(hm:P.follows .mixedOrders=true)(hE:iC P T.ext){n f:Nat}{args:List TV}{v:TV}{h':List HB}{ws:List Nat}(hnf:T.exts.contains f=false)(jy:T.dem.contains f=false)(hr:runN P T L (n+1) f args h=some (v,h',ws))(hV:Valid M uK (kQ h) w)(hl:∀k,M (.l k)=none)
  {xs:List LI3} (hx:bU M.h args xs) (k:Nat):CallsIn Fence.wide k P f xs.toArray w (KO (jJ M h w v h' ws)):=by
 simp only[runN,kR,hnf,jy,a2i,a3g]at hr;have EF:bU M.h ([]++args++[]) xs:=by simpa using hx
 obtain⟨fn,c,_,_,_,e4⟩:=a0F hm (YS hm hE n) hr ⟨hV,hl⟩ EF;exact e4 k
end
section
variable {H:Type} {enc:LI2×LI3->H} {P:LI1} {W W':LI4}
theorem YT{T:qx}{L n g a9l:Nat}{f:Func}{s:ChangeSpec}{args:Array LI3}{ds:List (DataW H)}{before:List MemPlace}{tb:LI2}{r:Reach}{b:Nat}(hm:P.follows .mixedOrders=true)
  (hl:laidOutB P=true) (hv:s.vars=[]) (hs:s.fn H ds={ results:=[.lit (.bool true)],args:=ds })
  (hf:f.resultTypes=#[tb]) (htb:P.underlying tb=some .bool) (hp:(f.params.toList.all fun t=>P.readableRec t&&decide (t<P.types.size))=true)
  (hW:DataW.Whole enc P f.params.toList s.vars false W args.toList ds [] before)
  (adX:∀(j:Nat) t v,f.params[j]? = some t->args[j]? = some v->Value.okWide P W r b t v)
  {az:List TV} {h h':List HB} (he:U4 P g f.params.toList ds []=some (az,h)) (hE:iC P T.ext) (hnf:T.exts.contains a9l=false) (jy:T.dem.contains a9l=false) (hr:runN P T L (n+1) a9l az h=some (.bool true,h',[])) :
  Calls P a9l args W fun e W'=>∃v,e=.returned v∧s.post enc P f false true false false W args v W':=by
 obtain⟨p,q,hA,_⟩:=id hW;have h0:uP (fun _=>none) [] W:=⟨⟨⟨by simp,by simp,by simp⟩,by simp⟩,by simp⟩;obtain⟨M',b1,_,v1⟩:=U5 hA (fun j t v e1 e2=>adX j t v (by simpa using e1) (by simpa using e2)) he h0;have hc:=a9k hm hE hnf jy hr b1.base.val b1.base.loc v1 0;refine(callsIn_wide.1 hc).mono fun e W' hR=>?_;cases e with
 |panicked c=>exact hR.elim
 |outgrown=>exact hR.elim
 |returned v=>
  obtain⟨M2,_,_,hX,hv'⟩:=hR;cases hv';refine⟨_,rfl,a2B hl hv hs hf htb hp hW ⟨hX.os,hX.tape,hX.output,hX.size,fun k hk=>hX.frame k hk (by simp)⟩⟩
end
end Tw
namespace Pv
open Go Tw
inductive PV(Γ:Nat->Type) where
 |bool (b:Bool)
 |lit (b:Bool)
 |int (k:IntKind) (n:Int)
 |str (s:ByteArray)
 |nil (k:NK)
 |ptr (b off lim:Nat)
 |aP (b off len cap sz:Nat) (ex:Bool)
 |own (b:Nat)
 |win (b o n:Nat)
 |FU (b:Nat)
 |map (r:Nat)
 |fn (f:FuncId) (first cap:List (PV Γ))
 |kG (l:Nat)
 |agg (cs:List (PV Γ))
 |dG (cs:List (PV Γ))
 |dB (t:Nat) (l:List (Γ t)) (full:Bool)
 |el (t:Nat) (a:Γ t) (off:Nat)
 |row (b j off:Nat)
 |iter (b:Nat)
inductive PE(Γ:Nat->Type) where
 |val (v:PV Γ)
 |loc (k off:Nat)
 |undef
 |ent (r j:Nat) (v:PV Γ)
 |Ee (r j:Nat)
inductive PB(Γ:Nat->Type) where
 |cells (cs:List (PV Γ))
 |aF (cs:List (PV Γ))
 |list (k ex:Bool) (t:Nat) (l:List (Γ t))
 |map (es:List (PV Γ×PV Γ))
 |mark
 |loop (ready:Bool) (f:FuncId) (nt:Nat) (env:List (Nat×PE Γ)) (ps:List Nat) (assign body:Code) (jI:Option Code)
 |cO (r n:Nat) (seen:List Nat)
 |iD (es:List (PV Γ×PV Γ))
 |mP (cs:List (PV Γ))
 |gone
structure aS(Γ:Nat->Type) where
 env:List (Nat×PE Γ)
 loc:List (List (PV Γ))
 heap:List (PB Γ)
structure kJ where
 Γ:Nat->Type
 d0:(t:Nat)->Γ t
 enc:(t:Nat)->Γ t->List (PV Γ)
 dec:(t:Nat)->List (PV Γ)->Option (Γ t)
section
variable {Γ:Nat->Type}
def qM:PV Γ->Option TV
 |.bool b=>some (.bool b)
 |.int k n=>some (.int k n)
 |.str s=>some (.str s)
 |.nil k=>some (.nil k)
 |_=>none
def iJ:List (PV Γ)->Option (List TV)
 | []=>some []
 |c::cs=>match qM c,iJ cs with
  |some v,some vs=>some (v::vs)
  |_,_=>none
def pU:PV Γ->Option TV
 |.agg cs=>(iJ cs).map .agg
 |v=>qM v
def U7:List (PV Γ)->Option (List TV)
 | []=>some []
 |c::cs=>match pU c,U7 cs with
  |some v,some vs=>some (v::vs)
  |_,_=>none
def ZX:TV->Option (PV Γ)
 |.bool b=>some (.bool b)
 |.int k n=>some (.int k n)
 |.str s=>some (.str s)
 |.nil k=>some (.nil k)
 |_=>none
def BN:List TV->Option (List (PV Γ))
 | []=>some []
 |c::cs=>match ZX c,BN cs with
  |some v,some vs=>some (v::vs)
  |_,_=>none
def Yh:TV->Option (PV Γ)
 |.agg cs=>(BN cs).map .agg
 |v=>ZX v
def PV.cells:PV Γ->List (PV Γ)
 |.agg cs=>cs
 |v=>[v]
def YU:PV Γ->Bool
 |.agg _|.dG _=>false
 |_=>true
def EH(t:Nat):List (Nat×PE Γ)->Option (PE Γ)
 | []=>none
 |(k,v)::r=>if k=t then some v else EH t r
def aS.put(s:aS Γ)(dst:Option Nat)(v:PE Γ):aS Γ:=
 match dst with
 |some d=>{ s with env:=(d,v)::s.env }
 |none=>s
def jd(live:List Nat)(env:List (Nat×PE Γ)):List (Nat×PE Γ):=
 match live with
 | []=>[]
 |t::r=>match EH t env with
  |some v=>(t,v)::jd r env
  |none=>jd r env
def BD(t:Nat)(b:Bool):List (Nat×PE Γ)->List (Nat×PE Γ)
 | []=>[]
 |(k,v)::r=>if k=t then(k,.val (.lit b))::r else(k,v)::BD t b r
def aS.BD(s:aS Γ)(x:Operand)(b:Bool):aS Γ:=
 match x with
 |.tmp t=>{ s with env:=Pv.BD t b s.env }
 |_=>s
def Fg(env:List (Nat×PE Γ)):Operand->Option (PE Γ)
 |.tmp t=>EH t env
 |.const v=>match TV.Vo v with
  |some (.bool b)=>some (.val (.lit b))
  |some x=>(Yh x).map .val
  |none=>none
 |.func f=>some (.val (.fn f [] []))
 |.global _=>none
def a0G:PV Γ->PV Γ
 |.lit b=>.bool b
 |v=>v
def zM(env:List (Nat×PE Γ))(x:Operand):Option (PV Γ):=
 match Fg env x with
 |some (.val v)=>some (a0G v)
 |_=>none
def a0H(env:List (Nat×PE Γ))(x:Operand):Option (PV Γ):=
 match Fg env x with
 |some (.val v)=>some v
 |_=>none
def YV(env:List (Nat×PE Γ)):List Operand->Option (List (PV Γ))
 | []=>some []
 |x::xs=>match zM env x,YV env xs with
  |some v,some vs=>some (v::vs)
  |_,_=>none
def a2C(env:List (Nat×PE Γ)):List (Nat×Operand)->Option (List (Nat×PV Γ))
 | []=>some []
 |(i,x)::xs=>match zM env x,a2C env xs with
  |some v,some vs=>some ((i,v)::vs)
  |_,_=>none
def NZ(env:List (Nat×PE Γ)):Option Operand->Option (Option (PV Γ))
 |none=>some none
 |some x=>match zM env x with
  |some v=>some (some v)
  |none=>none
def adY(cs:List (PV Γ))(off n:Nat):Option (List (PV Γ)):=
 if off+n<=cs.length then some ((cs.drop off).take n)else none
def O1(cs:List (PV Γ))(off:Nat)(new:List (PV Γ)):Option (List (PV Γ)):=
 if off+new.length<=cs.length then some (cs.take off++new++cs.drop (off+new.length))else none
def Gu(P:LI1)(t:LI2)(cs:List (PV Γ))(off:Nat):Option (PV Γ):=
 match vP P t,dw P t with
 |some true,some n=>(adY cs off n).map .agg
 |some false,some n=>if n=1 then cs[off]? else none
 |_,_=>none
def Rq(P:LI1)(t:LI2):Option (List (PV Γ)):=
 match JI P t with
 |some z=>BN z
 |none=>none
def O4(place:Nat->Option (Nat×Nat)):List (PV Γ)->List (Nat×PV Γ)->Option (List (PV Γ))
 |cs,[]=>some cs
 |cs,(i,v)::r=>match place i with
  |some (off,size)=>if v.cells.length=size then(match O1 cs off v.cells with|some cs'=>O4 place cs' r|none=>none)else none
  |none=>none
def YW(P:LI1)(t:LI2)(parts:List (Nat×PV Γ)):Option (PV Γ):=
 match Rq P t,P.underlying t with
 |some z,some (.struct fs)=>if BO P fs.toList then(O4 (Tv P fs) z parts).map .agg else none
 |some z,some (.array _ e)=>match dw P e with
  |some n=>(O4 (fun i=>some (i*n,n)) z parts).map .agg
  |none=>none
 |_,_=>none
def YX(z:List (PV Γ)):Nat->List (PV Γ)
 | 0=>[]
 |n+1=>z++YX z n
def DK(site:Bool)(s:aS Γ)(cs:List (PV Γ)):PE Γ×aS Γ:=
 if site then(.val (.ptr s.heap.length 0 cs.length),{ s with heap:=s.heap++[.cells cs] })
 else(.loc s.loc.length 0,{ s with loc:=s.loc++[cs] })
def view(H:List (PB Γ)):PV Γ->Option (PV Γ)
 |.own i=>match H[i]? with
  |some (.list _ _ t l)=>some (.dB t l false)
  |_=>none
 |.win i o n=>match H[i]? with
  |some (.list _ _ t l)=>some (.dB t ((l.drop o).take n) false)
  |_=>none
 |.fn f a c=>match views H a,views H c with
  |some a,some c=>some (.fn f a c)
  |_,_=>none
 |.agg cs=>(views H cs).map .agg
 |.dG cs=>(views H cs).map .dG
 |.ptr _ _ _=>none
 |.aP _ _ _ _ _ _=>none
 |.map _=>none
 |.iter _=>none
 |.kG _=>none
 |.el _ _ _=>none
 |.row _ _ _=>none
 |.FU _=>none
 |.bool b=>some (.bool b)
 |.lit b=>some (.bool b)
 |.int k n=>some (.int k n)
 |.str s=>some (.str s)
 |.nil k=>some (.nil k)
 |.dB t l f=>some (.dB t l f)
where
 views (H:List (PB Γ)):List (PV Γ)->Option (List (PV Γ))
 | []=>some []
 |c::cs=>match view H c,views H cs with
  |some v,some vs=>some (v::vs)
  |_,_=>none
abbrev views(H:List (PB Γ)):=view.views H
def kP:PV Γ->List Nat
 |.own i=>[i]
 |.win i _ _=>[i]
 |.FU i=>[i]
 |.fn _ a c=>jX a++jX c
 |.agg cs=>jX cs
 |.dG cs=>jX cs
 |_=>[]
where
 jX:List (PV Γ)->List Nat
 | []=>[]
 |c::cs=>kP c++jX cs
def xk:PV Γ->Bool
 |.dB _ _ _=>true
 |.el _ _ _=>true
 |.fn _ a c=>Gv a||Gv c
 |.agg cs=>Gv cs
 |.dG cs=>Gv cs
 |_=>false
where
 Gv:List (PV Γ)->Bool
 | []=>false
 |c::cs=>xk c||Gv cs
def jk:PV Γ->Bool
 |.ptr _ _ _=>false
 |.aP _ _ _ _ _ _=>false
 |.own _=>false
 |.win _ _ _=>false
 |.FU _=>false
 |.map _=>false
 |.iter _=>false
 |.kG _=>false
 |.row _ _ _=>false
 |.fn _ a c=>Gw a&&Gw c
 |.agg cs=>Gw cs
 |.dG cs=>Gw cs
 |_=>true
where
 Gw:List (PV Γ)->Bool
 | []=>true
 |c::cs=>jk c&&Gw cs
def shift(k:Nat):PV Γ->PV Γ
 |.ptr b off lim=>.ptr (b+k) off lim
 |.aP b off len cap sz ex=>.aP (b+k) off len cap sz ex
 |.own b=>.own (b+k)
 |.win b o n=>.win (b+k) o n
 |.FU b=>.FU (b+k)
 |.map r=>.map (r+k)
 |.iter r=>.iter (r+k)
 |.fn f a c=>.fn f (shifts k a) (shifts k c)
 |.kG l=>.kG (l+k)
 |.agg cs=>.agg (shifts k cs)
 |.dG cs=>.dG (shifts k cs)
 |.row b j off=>.row (b+k) j off
 |.bool b=>.bool b
 |.lit b=>.lit b
 |.int k n=>.int k n
 |.str s=>.str s
 |.nil k=>.nil k
 |.dB t l f=>.dB t l f
 |.el t a off=>.el t a off
where
 shifts (k:Nat):List (PV Γ)->List (PV Γ)
 | []=>[]
 |c::cs=>shift k c::shifts k cs
def Ws(i:Nat)(H:List (PB Γ)):List (PB Γ):=H.set i .gone
def bf:List Nat->List (PB Γ)->List (PB Γ)
 | [],H=>H
 |i::is,H=>bf is (Ws i H)
end
section
variable (X:kJ)
def Fh(k:Nat):PB X.Γ->Option (PB X.Γ)
 |.cells cs=>some (.cells (shift.shifts k cs))
 |.list w ex t l=>some (.list w ex t l)
 |.gone=>some .gone
 |_=>none
def qN(k:Nat):List (PB X.Γ)->Option (List (PB X.Γ))
 | []=>some []
 |b::bs=>match Fh X k b,qN k bs with
  |some b,some bs=>some (b::bs)
  |_,_=>none
def hasB:PB X.Γ->Bool
 |.cells cs=>xk.Gv cs
 |.gone=>false
 |_=>true
def a9m(H:List (PB X.Γ))(t:Nat)(cs:List (PV X.Γ)):Option (X.Γ t×List Nat):=
 match views H cs with
 |some vs=>match X.dec t vs with
  |some a=>some (a,kP.jX cs)
  |none=>none
 |none=>none
def xQ(H:List (PB X.Γ))(t sz:Nat):Nat->List (PV X.Γ)->Option (List (X.Γ t)×List Nat)
 | 0,_=>some ([],[])
 |n+1,cs=>if sz<=cs.length then match a9m X H t (cs.take sz),xQ H t sz n (cs.drop sz)with
  |some (a,is),some (l,js)=>some (a::l,is++js)
  |_,_=>none
  else none
def Bg{Γ:Nat->Type}(t t':Nat)(l:List (Γ t')):Option (List (Γ t)):=
 if h:t'=t then some (h▸l)else none
def Aa(H:List (PB X.Γ))(e sz:Nat):PV X.Γ->Option (List (X.Γ e)×List Nat)
 |.nil .aP=>some ([],[])
 |.dB t l _=>(Bg e t l).map fun l=>(l,[])
 |.own i=>match H[i]? with
  |some (.list _ _ t l)=>(Bg e t l).map fun l=>(l,[])
  |_=>none
 |.win i o n=>match H[i]? with
  |some (.list _ _ t l)=>(Bg e t l).map fun l=>((l.drop o).take n,[])
  |_=>none
 |.aP b off len _ sz' _=>match H[b]? with
  |some (.cells cs)=>if sz'=sz∧off+len*sz<=cs.length then xQ X H e sz len (cs.drop off)else none
  |_=>none
 |_=>none
def Ac(P:LI1)(t:LI2)(s:aS X.Γ):PE X.Γ->Option (PV X.Γ×lN)
 |.loc k off=>match s.loc[k]? with
  |some cs=>(Gu P t cs off).map fun v=>(v,wW (.l k))
  |none=>none
 |.val (.ptr b off lim)=>match s.heap[b]?,dw P t with
  |some (.cells cs),some n=>if off+n<=lim then(Gu P t cs off).map fun v=>(v,wW (.h b))else none
  |some (.aF cs),some n=>if off+n<=lim then(Gu P t cs off).map fun v=>(v,bY)else none
  |_,_=>none
 |.val (.row b j off)=>match s.heap[b]? with
  |some (.list _ _ e l)=>(Gu P t (X.enc e (l.getD j (X.d0 e))) off).map fun v=>(v,wW (.h b))
  |_=>none
 |.val (.el e a off)=>(Gu P t (X.enc e a) off).map fun v=>(v,bY)
 |_=>none
def U8(P:LI1)(t:LI2)(s:aS X.Γ)(a:PE X.Γ)(v:PV X.Γ):Option (aS X.Γ×lN):=
 match dw P t with
 |some n=>
  if v.cells.length=n∧v.cells.all YU=true then
   match a with
   |.loc k off=>match s.loc[k]? with
    |some cs=>(O1 cs off v.cells).map fun cs'=>({ s with loc:=s.loc.set k cs' },oO (.l k))
    |none=>none
   |.val (.ptr b off lim)=>if off+n<=lim then(match s.heap[b]? with
    |some (.cells cs)=>(O1 cs off v.cells).map fun cs'=>({ s with heap:=s.heap.set b (.cells cs') },oO (.h b))
    |_=>none)else none
   |.val (.row b j off)=>match s.heap[b]? with
    |some (.list k ex e l)=>match O1 (X.enc e (l.getD j (X.d0 e))) off v.cells with
     |some cs=>match a9m X s.heap e cs with
      |some (x,is)=>if is.contains b then none else some ({ s with heap:=bf is (s.heap.set b (.list k ex e (l.set j x))) },oO (.h b))
      |none=>none
     |none=>none
    |_=>none
   |_=>none
  else none
 |none=>none
def ahT:PE X.Γ->aS X.Γ->Option Nat
 |.val (.el e a _),_=>some (X.enc e a).length
 |.val (.row b j _),s=>match s.heap[b]? with
  |some (.list _ _ e l)=>some (X.enc e (l.getD j (X.d0 e))).length
  |_=>none
 |_,_=>none
def Gx(s:aS X.Γ)(o:Nat):PE X.Γ->Option (PE X.Γ)
 |.loc k off=>some (.loc k (off+o))
 |.val (.ptr b off lim)=>match s.heap[b]? with
  |some (.cells _)=>if off+o<=lim then some (.val (.ptr b (off+o) lim))else none
  |some (.aF _)=>if off+o<=lim then some (.val (.ptr b (off+o) lim))else none
  |_=>none
 |.val (.el e a off)=>if off+o<=(X.enc e a).length then some (.val (.el e a (off+o)))else none
 |.val (.row b j off)=>match ahT X (.val (.row b j off)) s with
  |some n=>if off+o<=n then some (.val (.row b j (off+o)))else none
  |none=>none
 |_=>none
def gW(i:Int)(n:Nat):Prop:=0<=i∧i<(n:Int)
def a2D(n:Nat):PV X.Γ->Option Nat
 |.int _ i=>if 0<=i∧i<n then some i.toNat else none
 |_=>none
def Fj(P:LI1)(t:LI2)(s:aS X.Γ)(x:PE X.Γ)(i:PV X.Γ):Option (PE X.Γ×List Prop):=
 match P.underlying t with
 |some (.slice e)=>match dw P e,x,i with
  |some n,.val (.dB t' l _),.int _ iv=>if t'=e then some (.val (.el t' (l.getD iv.toNat (X.d0 t')) 0),[gW iv l.length])else none
  |some n,.val (.own b),.int _ iv=>match s.heap[b]? with
   |some (.list _ _ t' l)=>if t'=e then some (.val (.row b iv.toNat 0),[gW iv l.length])else none
   |_=>none
  |some n,.val (.win b o m),.int _ iv=>match s.heap[b]? with
   |some (.list _ _ t' l)=>if t'=e then some (.val (.row b (o+iv.toNat) 0),[gW iv m])else none
   |_=>none
  |some n,.val (.aP b off len cap sz _),i=>match s.heap[b]? with
   |some (.cells _)=>if n=sz then(a2D X len i).map fun j=>(.val (.ptr b (off+j*n) (off+cap*n)),[])else none
   |_=>none
  |_,_,_=>none
 |some (.array len e)=>match dw P e with
  |some n=>match a2D X len i with
   |some j=>(Gx X s (j*n) x).map fun a=>(a,[])
   |none=>none
  |none=>none
 |_=>none
def adZ(P:LI1)(at_:Array LI2)(H:List (PB X.Γ))(x:PV X.Γ):Option (PV X.Γ×lN):=
 match at_[0]? with
 |some t=>match P.underlying t,x with
  |some .string,.str s=>some (.int .i64 s.size,bY)
  |some (.array n _),_=>some (.int .i64 n,bY)
  |some (.slice _),.aP b _ len _ _ _=>match H[b]? with
   |some (.cells _)=>some (.int .i64 len,bY)
   |_=>none
  |some (.slice _),.nil .aP=>some (.int .i64 0,bY)
  |some (.slice _),.dB _ l _=>some (.int .i64 (l.length:Nat),bY)
  |some (.slice _),.own b=>match H[b]? with
   |some (.list _ _ _ l)=>some (.int .i64 (l.length:Nat),bY)
   |_=>none
  |some (.slice _),.win b _ n=>match H[b]? with
   |some (.list _ _ _ _)=>some (.int .i64 n,bY)
   |_=>none
  |some (.map _ _),.nil .map=>some (.int .i64 0,bY)
  |some (.map _ _),.map r=>match H[r]? with
   |some (.map es)=>some (.int .i64 es.length,wW (.h r))
   |_=>none
  |_,_=>none
 |none=>none
def ah:Nat:=2^20
def yE:PV X.Γ->List Key
 |.aP b _ _ _ _ _=>[.h b]
 |.own b=>[.h b]
 |.win b _ _=>[.h b]
 |.FU b=>[.h b]
 |_=>[]
def U9(P:LI1)(at_:Array LI2)(H:List (PB X.Γ))(d x:PV X.Γ):Option (PV X.Γ×List (PB X.Γ)×lN×List Prop):=
 match at_[0]?,at_[1]? with
 |some st,some xt=>
  if Tz P xt||(P.underlying xt).isNone then none else
  match jE P st with
  |some (e,size)=>if tV P e ah then match Aa X H e size x with
   |some (rows,is)=>match d with
    |.nil .aP=>some (.own H.length,bf is H++[.list true false e rows],fJ (yE X x),[rows.length<=ah])
    |.own b=>match H[b]? with
     |some (.list k ex t l)=>if is.contains b then none else match Bg e t l with
      |some l=>some (.own H.length,bf (b::is) H++[.list (k&&ex) false e (l++rows)],⟨false,.h b::yE X x,[.h b]⟩,[l.length+rows.length<=ah])
      |none=>none
     |_=>none
    |.dB t l true=>match Bg e t l with
     |some l=>some (.own H.length,bf is H++[.list true false e (l++rows)],fJ (yE X x),[l.length+rows.length<=ah,l=[]∨rows≠[]])
     |none=>none
    |.FU b=>match H[b]? with
     |some (.list _ _ t l)=>match Bg e t l with
      |some l=>some (.own H.length,bf is H++[.list true false e (l++rows)],fJ (.h b::yE X x),[l.length+rows.length<=ah,rows≠[]])
      |none=>none
     |_=>none
    |_=>none
   |none=>none
   else none
  |none=>none
 |_,_=>none
def O5{α:Type}(l:List α)(o k:Nat)(rows:List α):List α:=l.take o++rows.take k++l.drop (o+k)
def Ei(e:Nat):List (X.Γ e)->List (PV X.Γ)
 | []=>[]
 |a::l=>X.enc e a++Ei e l
def a5t(P:LI1)(at_:Array LI2)(H:List (PB X.Γ))(d x:PV X.Γ):Option (PV X.Γ×List (PB X.Γ)×lN):=
 match at_[0]? with
 |some st=>match jE P st with
  |some (e,size)=>match Aa X H e size x with
   |some (rows,[])=>match d with
    |.nil .aP=>some (.int .i64 0,H,fJ (yE X x))
    |.own b=>match H[b]? with
     |some (.list k ex t l)=>match Bg e t l with
      |some l=>some (.int .i64 ((min rows.length l.length:Nat):Int),H.set b (.list k ex e (O5 l 0 (min rows.length l.length) rows)),⟨false,.h b::yE X x,[.h b]⟩)
      |none=>none
     |_=>none
    |.win b o n=>match H[b]? with
     |some (.list k ex t l)=>match Bg e t l with
      |some l=>some (.int .i64 ((min rows.length n:Nat):Int),H.set b (.list k ex e (O5 l o (min rows.length n) rows)),⟨false,.h b::yE X x,[.h b]⟩)
      |none=>none
     |_=>none
    |.aP b off len _ sz _=>match H[b]? with
     |some (.cells cs)=>if sz=size∧0<min rows.length len then(O1 cs off ((Ei X e rows).take (min rows.length len*size))).map fun cs'=>(.int .i64 ((min rows.length len:Nat):Int),H.set b (.cells cs'),⟨false,.h b::yE X x,[.h b]⟩)else none
     |_=>none
    |_=>none
   |_=>none
  |none=>none
 |none=>none
def xR(P:LI1)(t:LI2)(len:Nat)(H:List (PB X.Γ))(ps:List (Nat×PV X.Γ))(raw:Bool):Option (PV X.Γ×List (PB X.Γ)):=
 match jE P t with
 |some (e,n)=>if len*n<=2^24∧ps.all (fun p=>p.2.cells.all YU)=true then
   match Rq P e with
   |some z=>if z.length=n then
     match O4 (fun i=>some (i*n,n)) (YX z len) ps with
     |some cs=>match(if raw=true then none else xQ X H e n len cs)with
      |some (rows,is)=>some (.own H.length,bf is H++[.list true true e rows])
      |none=>some (.aP H.length 0 len len n true,H++[.cells cs])
     |none=>none
    else none
   |none=>none
  else none
 |none=>none
def Fq(P:LI1)(t:LI2)(H:List (PB X.Γ))(l c:PV X.Γ):Option (PV X.Γ×List (PB X.Γ)×List Prop):=
 match jE P t,l,c with
 |some (e,n),.int _ l,.int _ c=>if tV P e ah then
   match Rq P e with
   |some z=>if z.length=n then
     match X.dec e z with
     |some a=>some (.own H.length,H++[.list true true e (List.replicate l.toNat a)],[l=c,0<=l,l<=ah])
     |none=>none
    else none
   |none=>none
  else none
 |_,_,_=>none
def yZ(d:Nat):Option (PV X.Γ)->Option Int
 |none=>some d
 |some (.int _ i)=>some i
 |some _=>none
def YZ(P:LI1)(t:LI2)(H:List (PB X.Γ))(x:PV X.Γ)(lo hi mx:Option (PV X.Γ)):Option (PV X.Γ×List Prop):=
 match P.underlying t,x with
 |some (.slice e),.dB t' l fu=>match dw P e,yZ X 0 lo,yZ X l.length hi,mx with
  |some _,some a,some b,none=>if t'=e then some (.dB t' ((l.take b.toNat).drop a.toNat) false,[0<=a,a<=b,b<=l.length])else none
  |some _,some a,some b,some (.int _ m)=>if t'=e∧hi.isSome then(if fu=true then some (.dB t' l true,[a=0,b=l.length,m=b])else some (.dB t' ((l.take b.toNat).drop a.toNat) true,[0<=a,a<=b,b<=l.length,m=b,a=b]))else none
  |_,_,_,_=>none
 |some (.slice e),.own i=>match H[i]? with
  |some (.list _ _ t' l)=>match dw P e,yZ X 0 lo,yZ X l.length hi,mx with
   |some _,some a,some b,none=>if t'=e then some (.win i a.toNat (b.toNat-a.toNat),[0<=a,a<=b,b<=l.length])else none
   |some _,some a,some b,some (.int _ m)=>if t'=e∧hi.isSome then some (.FU i,[a=0,b=l.length,m=b])else none
   |_,_,_,_=>none
  |_=>none
 |some (.slice e),.nil .aP=>match dw P e,yZ X 0 lo,yZ X 0 hi,mx with
  |some _,some a,some b,none=>some (.nil .aP,[a=0,b=0])
  |some _,some a,some b,some (.int _ m)=>if hi.isSome then some (.nil .aP,[a=0,b=0,m=0])else none
  |_,_,_,_=>none
 |_,_=>none
def IV(P:LI1)(t:LI2)(H:List (PB X.Γ))(x:PE X.Γ)(lo hi mx:Option (PV X.Γ)):Option (PV X.Γ×List (PB X.Γ)×List Prop):=
 match P.underlying t,x with
 |some (.array n e),.val (.ptr b off lim)=>match dw P e with
  |some size=>
   if size=0∨lim<off+n*size∨2^24<n then none else
   match mx with
   |some _=>none
   |none=>match lo,hi with
    |none,none=>match H[b]? with
     |some (.cells _)=>some (.aP b off n n size true,H,[])
     |_=>none
    |lo,hi=>match H[b]?,yZ X 0 lo,yZ X n hi with
     |some (.cells cs),some a,some z=>if cs.length<off+n*size then none else match xQ X H e size n (cs.drop off)with
      |some (rows,is)=>some (.dB e ((rows.take z.toNat).drop a.toNat) false,bf (b::is) H,[0<=a,a<=z,z<=n])
      |none=>none
     |_,_,_=>none
  |none=>none
 |_,_=>none
def Fv(P:LI1)(t:LI2)(H:List (PB X.Γ))(x:PE X.Γ)(lo hi:Option (PV X.Γ)):Option (PV X.Γ):=
 match P.underlying t,x with
 |some (.array n e),.val (.ptr b off lim)=>match dw P e,H[b]?,yZ X 0 lo,yZ X n hi with
  |some size,some (.cells _),some a,some z=>if size=0∨lim<off+n*size∨2^24<n then none else if 0<=a∧a<=z∧z<=n then some (.aP b (off+a.toNat*size) (z.toNat-a.toNat) (n-a.toNat) size true)else none
  |_,_,_,_=>none
 |_,_=>none
def a0I(P:LI1)(t:LI2)(x y:PV X.Γ):Bool:=
 let abL:PV X.Γ->Option NK
  |.fn _ _ _=>some .fn
  |.el _ _ _=>some .ptr
  |_=>none
 let ahU:PV X.Γ->Option NK
  |.nil k=>some k
  |_=>none
 match JK P t with
 |some k=>(ahU x==some k&&abL y==some k)||(abL x==some k&&ahU y==some k)
 |none=>false
def ae0(P:LI1)(op:BinOp)(t:LI2)(x y:Operand)(a b:PV X.Γ):Option (PV X.Γ):=
 match pU a,pU b with
 |some u,some v=>match su P op t x y u v with
  |some r=>Yh r
  |none=>none
 |_,_=>if a0I X P t a b then(match op with
  |.eql=>some (.bool false)
  |.neq=>some (.bool true)
  |_=>none)else none
def LJ(P:LI1)(op:BinOp)(t:LI2)(b:PV X.Γ)(q:Prop):Option (PV X.Γ×Prop):=
 match b,JK P t with
 |.nil .aP,some .aP=>match op with
  |.eql=>some (.bool false,q)
  |.neq=>some (.bool true,q)
  |_=>none
 |_,_=>none
def Ua(P:LI1)(op:BinOp)(t:LI2)(H:List (PB X.Γ))(a b:PV X.Γ):Option (PV X.Γ×Prop):=
 match a with
 |.dB _ l _=>LJ X P op t b (l≠[])
 |.own i=>match H[i]? with
  |some (.list _ _ _ l)=>LJ X P op t b (l≠[])
  |_=>none
 |_=>none
def pun(P:LI1)(op:UnOp)(a:PV X.Γ):Option (PV X.Γ):=
 match pU a with
 |some u=>match unT P op u with
  |some r=>Yh r
  |none=>none
 |none=>none
def a5u(P:LI1)(src dst:LI2)(a:PV X.Γ):Option (PV X.Γ):=
 match pU a with
 |some u=>match Qy P src dst u with
  |some r=>Yh r
  |none=>none
 |none=>match P.underlying src,P.underlying dst,a with
  |_,_,_=>none
def LK(P:LI1)(mx:Bool)(at_:Array LI2)(t:LI2)(az:List (PV X.Γ)):Option (PV X.Γ):=
 match U7 az with
 |some us=>match Dy P mx at_ t us with
  |some r=>Yh r
  |none=>none
 |none=>none
def Z4(P:LI1)(t:LI2)(x:PV X.Γ)(i:Nat):Option (PV X.Γ):=
 match P.underlying t,x with
 |some (.struct fs),.agg cs=>match fs[i]? with
  |some f=>Gu P f.type cs f.offset
  |none=>none
 |_,_=>none
def Z5(P:LI1)(t:LI2)(x i:PV X.Γ):Option (PV X.Γ):=
 match P.underlying t,x with
 |some (.array len e),.agg cs=>match dw P e,a2D X len i with
  |some n,some j=>Gu P e cs (j*n)
  |_,_=>none
 |_,_=>none
def uV:List (PV X.Γ×PV X.Γ)->Option (List TV)
 | []=>some []
 |(k,_)::r=>match pU k,uV r with
  |some v,some vs=>some (v::vs)
  |_,_=>none
def uX(P:LI1)(kt:LI2)(k:LI3)(ks:List TV):Option (Option Nat):=
 match Bz ks with
 |some ks=>match aB P (do Instr.checkKey ks.isEmpty 10000 kt k;Instr.findKey kt k (ks.map fun x=>⟨x,.bool false,0⟩))with
  |some r=>if Vw P kt k ks (r.map (·.1))then some (r.map (·.1))else none
  |none=>none
 |none=>none
end
end Pv
namespace Tw
open Go
abbrev Ub(k:IntKind)(x y:Int):Int:=k.wrap (x.tdiv y)
abbrev O6(_k:IntKind)(x y:Int):Int:=x.tmod y
abbrev ahV(k:IntKind)(x y:Int):Int:=k.wrap (x*2^(min y.toNat k.bits))
abbrev ahW(k:IntKind)(x y:Int):Int:=x.fdiv (2^(min y.toNat k.bits))
end Tw

namespace Tw
open Go
section
variable {P:LI1}
theorem xU(d:Nat)(t:LI2)(xs ys:Array LI3)(fs:Array Field)(ht:P.underlying t=some (.struct fs))(hp:P.stoodInHeld t=false) :
  aB P (Op.equalIn (d+1) t (.agg xs) (.agg ys))=aB P (Op.eqFields d xs ys fs.toList):=by
 have hu:aB P (underlying t)=some (.struct fs):=by simp only[underlying,bI];have:aB P program=some P:=rfl;simp[this,ht,aB];rfl
 simp only[Op.equalIn,bI,hu,a4l,show aB P program=some P from rfl,hp,a2i,a3g];rw[<-Array.forIn_toList];generalize fs.toList=fs;clear ht hu
 induction fs with
 |nil=>simp[Op.eqFields,aB,bI];rfl
 |cons f fs ih=>
  simp only[List.forIn_cons,Op.eqFields,bI]at ih ⊢;split
  .simp only[bI];generalize aB P (part f.type xs f.offset)=r1;cases r1 with
   |none=>simp
   |some a=>
    simp only[a4l];generalize aB P (part f.type ys f.offset)=r2;cases r2 with
    |none=>simp
    |some b=>
     simp only[a4l];generalize aB P (Op.equalIn d f.type a b)=r3;cases r3 with
     |none=>simp
     |some r=>
      cases r with
      |false=>simp only[a4l,abp,a1U];rfl
      |true=>simp only[a4l,a8N,a2i,a3g];exact ih
  .exact ih
theorem qO(d:Nat)(t:LI2)(k k':IntKind)(a b:Int)(h:P.underlying t=some (.int k')):aB P (Op.equalIn (d+1) t (.int k a) (.int k b))=some (a==b):=by
 have hu:aB P (underlying t)=some (.int k'):=by simp only[underlying,bI,show aB P program=some P from rfl,a4l,h];rfl
 simp only[Op.equalIn,bI,hu,a4l,a1U];rfl
theorem oq {d : Nat} {xs ys : Array Value} {f : Field} {fs : List Field} {a b : Value} {r : Bool} (hn : f.name ≠ "_") (ha : aB P (part f.type xs f.offset) = some a) (hb : aB P (part f.type ys f.offset) = some b)
  (hr:aB P (Op.equalIn d f.type a b)=some r):aB P (Op.eqFields d xs ys (f::fs))=if r=true then aB P (Op.eqFields d xs ys fs)else some false:=by
 simp only[Op.eqFields];rw[a0g hn];simp only[bI,ha,hb,hr,a4l];cases r with
 |true=>rfl
 |false=>rfl
theorem Gy{t:LI2}{x y:Operand}{xs ys:List TV}{us vs:List LI3}{r:Bool}(hx:TV.Tn xs=some us)(hy:TV.Tn ys=some vs)(hg:P.eqGuardType P.depth t=false)
  {d:Nat} (hd:d=10000) (h:aB P (Op.equalIn d t (.agg us.toArray) (.agg vs.toArray))=some r):su P .eql t x y (.agg xs) (.agg ys)=some (.bool r)∧su P .neq t x y (.agg xs) (.agg ys)=some (.bool (!r)):=by
 subst hd;constructor
 all_goals
  simp only[su,TV.yt,hx,hy,a0j];simp only[eqGuard,binOp,Op.equal,Op.maxDepth,bI,show aB P program=some P from rfl,hg,a4l,a8N,abp,a2i,a3g,a1U,h];rfl
theorem a5v{t:LI2}{x y:Operand}{k k':IntKind}{a b:Int}(h:0<=b):su P .shl t x y (.int k a) (.int k' b)=some (.int k (ahV k a b)):=by simp only[su,TV.yt,TV.toC,eqGuard,binOp,Op.shift];rw[a0c (show ¬b<0 by omega)];rfl
theorem a5w{t:LI2}{x y:Operand}{k k':IntKind}{a b:Int}(h:0<=b):su P .shr t x y (.int k a) (.int k' b)=some (.int k (ahW k a b)):=by simp only[su,TV.yt,TV.toC,eqGuard,binOp,Op.shift];rw[a0c (show ¬b<0 by omega)];rfl
theorem a5x{t:LI2}{x y:Operand}{k:IntKind}{a b:Int}(h:b≠0):su P .quo t x y (.int k a) (.int k b)=some (.int k (Ub k a b)):=by simp only[su,TV.yt,TV.toC,eqGuard,binOp,Op.intDiv];rw[a0c h];cases k<;>rfl
theorem a5y{t:LI2}{x y:Operand}{k:IntKind}{a b:Int}(h:b≠0):su P .rem t x y (.int k a) (.int k b)=some (.int k (O6 k a b)):=by simp only[su,TV.yt,TV.toC,eqGuard,binOp,Op.intDiv];rw[a0c h];cases k<;>rfl
end
end Tw
namespace Pv
open Go Tw
def wu:List Nat->Nat->Option Nat
 | [],_=>none
 |a::l,i=>if a=i then some 0 else(wu l i).map (·+1)
inductive G where
 |lit
 |Ej (t e:Nat)
 |a2E (k off e:Nat)
 |Uc (i off e:Nat)
 |flag (i:Nat)
 |gc (ks:List Nat)
 |mv (i:Nat)
 |fz (i:Nat)
section
variable {Γ:Nat->Type}
def fE(g:Nat->Option Nat):PV Γ->Option (PV Γ)
 |.ptr b off lim=>(g b).map fun b=>.ptr b off lim
 |.aP b off len cap sz ex=>(g b).map fun b=>.aP b off len cap sz ex
 |.own b=>(g b).map .own
 |.win b o n=>(g b).map fun b=>.win b o n
 |.FU b=>(g b).map .FU
 |.map r=>(g r).map .map
 |.iter r=>(g r).map .iter
 |.fn f a c=>match oN g a,oN g c with
  |some a,some c=>some (.fn f a c)
  |_,_=>none
 |.kG l=>(g l).map .kG
 |.agg cs=>(oN g cs).map .agg
 |.dG cs=>(oN g cs).map .dG
 |.row b j off=>(g b).map fun b=>.row b j off
 |.bool b=>some (.bool b)
 |.lit b=>some (.lit b)
 |.int k n=>some (.int k n)
 |.str s=>some (.str s)
 |.nil k=>some (.nil k)
 |.dB t l f=>some (.dB t l f)
 |.el t a off=>some (.el t a off)
where
 oN (g:Nat->Option Nat):List (PV Γ)->Option (List (PV Γ))
 | []=>some []
 |c::cs=>match fE g c,oN g cs with
  |some v,some vs=>some (v::vs)
  |_,_=>none
def O7(g:Nat->Option Nat):PE Γ->Option (PE Γ)
 |.val v=>(fE g v).map .val
 |.ent r j v=>(g r).map fun r=>.ent r j v
 |.Ee r j=>(g r).map fun r=>.Ee r j
 |e=>some e
def oM(g:Nat->Option Nat):List (Nat×PE Γ)->Option (List (Nat×PE Γ))
 | []=>some []
 |(k,v)::r=>match O7 g v,oM g r with
  |some v,some r=>some ((k,v)::r)
  |_,_=>none
def Wu(g:Nat->Option Nat):List (List (PV Γ))->Option (List (List (PV Γ)))
 | []=>some []
 |l::r=>match fE.oN g l,Wu g r with
  |some l,some r=>some (l::r)
  |_,_=>none
def zf(g:Nat->Option Nat):PB Γ->Option (PB Γ)
 |.cells cs=>(fE.oN g cs).map .cells
 |.aF cs=>(fE.oN g cs).map .aF
 |.map es=>some (.map es)
 |.cO r n seen=>(g r).map fun r=>.cO r n seen
 |.loop rd f nt env ps a b jI=>(oM g env).map fun env=>.loop rd f nt env ps a b jI
 |b=>some b
def nK(g:Nat->Option Nat):List (PB Γ)->Option (List (PB Γ))
 | []=>some []
 |b::r=>match zf g b,nK g r with
  |some b,some r=>some (b::r)
  |_,_=>none
def CJ(H:List (PB Γ)):List Nat->Option (List (PB Γ))
 | []=>some []
 |i::is=>match H[i]?,CJ H is with
  |some b,some r=>some (b::r)
  |_,_=>none
def a9n:List (Nat×PE Γ)->List (Nat×PE Γ)
 | []=>[]
 |(k,.val v)::r=>(k,.val (a0G v))::a9n r
 |x::r=>x::a9n r
def Ej(t i:Nat):List (Nat×PE Γ)->Option (List (Nat×PE Γ))
 | []=>none
 |(k,v)::r=>if k=t then(match v with
   |.val (.nil .aP)=>some ((k,.val (.own i))::r)
   |_=>none)else(Ej t i r).map ((k,v)::·)
def a9o(off i:Nat)(cs:List (PV Γ)):Option (List (PV Γ)):=
 match cs[off]? with
 |some (.nil .aP)=>some (cs.set off (.own i))
 |_=>none
def fzV(H:List (PB Γ))(i:Nat)(v:PV Γ):Option (PV Γ):=match(kP v).contains i with
 |false=>some v
 |true=>match(kP v).all fun j=>Nat.beq j i with
  |true=>view H v
  |false=>none
def a5z(H:List (PB Γ))(i:Nat):List (PV Γ)->Option (List (PV Γ))
 | []=>some []
 |v::vs=>match fzV H i v,a5z H i vs with
  |some w,some ws=>some (w::ws)
  |_,_=>none
def fzE(H:List (PB Γ))(i:Nat):List (Nat×PE Γ)->Option (List (Nat×PE Γ))
 | []=>some []
 |(k,.val v)::r=>match fzV H i v,fzE H i r with
  |some w,some ws=>some ((k,.val w)::ws)
  |_,_=>none
 |(_,.ent _ _ _)::_|(_,.Ee _ _)::_=>none
 |e::r=>(fzE H i r).map (e::·)
def fzL(H:List (PB Γ))(i:Nat):List (List (PV Γ))->Option (List (List (PV Γ)))
 | []=>some []
 |c::r=>match a5z H i c,fzL H i r with
  |some w,some ws=>some (w::ws)
  |_,_=>none
def Bh(B:Nat)(s:aS Γ):G->Option (aS Γ)
 |.lit=>some { s with env:=a9n s.env }
 |.Ej t e=>(Ej t s.heap.length s.env).map fun env=>{ s with env:=env,heap:=s.heap++[.list false false e []] }
 |.a2E k off e=>match s.loc[k]? with
  |some cs=>(a9o off s.heap.length cs).map fun cs=>{ s with loc:=s.loc.set k cs,heap:=s.heap++[.list false false e []] }
  |none=>none
 |.Uc i off e=>match s.heap[i]? with
  |some (.cells cs)=>(a9o off s.heap.length cs).map fun cs=>{ s with heap:=s.heap.set i (.cells cs)++[.list false false e []] }
  |_=>none
 |.flag i=>match s.heap[i]? with
  |some (.list _ _ t l)=>some { s with heap:=s.heap.set i (.list false false t l) }
  |_=>none
 |.gc ks=>if ks.all (fun k=>decide (B<=k))&&decide ks.Nodup&&decide (B<=s.heap.length)then
   let g:Nat->Option Nat:=fun i=>if i<B then some i else(wu ks i).map (·+B)
   match oM g s.env,Wu g s.loc,nK g (s.heap.take B),CJ s.heap ks with
   |some env,some loc,some h1,some h2=>match nK g h2 with
    |some h2=>some ⟨env,loc,h1++h2⟩
    |none=>none
   |_,_,_,_=>none
  else none
 |.fz i=>match fzE s.heap i s.env,fzL s.heap i s.loc with
  |some env,some loc=>some ⟨env,loc,bf [i] s.heap⟩
  |_,_=>none
 |.mv i=>match s.heap[i]? with
  |some b=>
   let g:Nat->Option Nat:=fun j=>if j=i then some s.heap.length else if j<s.heap.length then some j else none
   match oM g s.env,Wu g s.loc,nK g (s.heap.set i .gone),zf g b with
   |some env,some loc,some h1,some b1=>some ⟨env,loc,h1++[b1]⟩
   |_,_,_,_=>none
  |none=>none
def l7(B:Nat):List G->aS Γ->Option (aS Γ)
 | [],s=>some s
 |g::gs,s=>match Bh B s g with
  |some s=>l7 B gs s
  |none=>none
end
def anD:BinOp->Bool
 |.quo|.rem|.shl|.shr=>true
 |_=>false
def ae1{Γ:Nat->Type}(op:BinOp):PV Γ->PV Γ->Option (PV Γ×List Prop)
 |.int k x,.int k' y=>match op with
  |.quo=>if k'=k then some (.int k (Ub k x y),[y≠0])else none
  |.rem=>if k'=k then some (.int k (O6 k x y),[y≠0])else none
  |.shl=>some (.int k (ahV k x y),[0<=y])
  |.shr=>some (.int k (ahW k x y),[0<=y])
  |_=>none
 |_,_=>none
def putAt{α:Type}:List Nat->List α->List α->List α
 |k::ks,b::bs,l=>putAt ks bs (l.set k b)
 |_,_,l=>l
def bk(ks:List Nat)(n:Nat):Nat->Option Nat:=fun j=>match ks[j]? with
 |some k=>some k
 |none=>some (n+(j-ks.length))
def roB{Γ:Nat->Type}:List Nat->List (PB Γ)->List (PB Γ)->Option (List (PB Γ)×List (PB Γ))
 | [],H,H1=>some (H,H1)
 |r::rs,H,H1=>match H[r]?,H1[r]? with
  |some (.cells a),some (.cells b)=>roB rs (H.set r (.aF a)) (H1.set r (.aF b))
  |some (.map a),some (.map b)=>roB rs (H.set r (.iD a)) (H1.set r (.iD b))
  |_,_=>none
def IW{Γ:Nat->Type}:List (PB Γ)->Bool
 | []=>true
 |.aF _::_=>false
 |.iD _::_=>false
 |_::H=>IW H
def a2F{α:Type}(rs:List Nat):Nat->List α->List α
 |_,[]=>[]
 |i,k::ks=>if rs.contains i then a2F rs (i+1) ks else k::a2F rs (i+1) ks
inductive PA(Γ:Nat->Type) where
 |br (b:Bool)
 |rd (v:TV)
 |ix (j:Nat)
 |no
 |call (v:PV Γ) (H:List (PB Γ))
 |fr (ks:List Nat) (v:PV Γ) (H:List (PB Γ))
 |Qe (ks rs:List Nat) (v:PV Γ) (H:List (PB Γ))
 |loop (e:Ex) (s:aS Γ)
 |lg (gs:List G) (e:Ex) (s:aS Γ)
 |calm
inductive PT(Γ:Nat->Type) where
 |n
 |a (x:PA Γ) (r:PT Γ)
 |s (t e:PT Γ)
 |z (c:Bool) (t e:PT Γ)
 |l (m:Nat) (r:PT Γ)
inductive OT(ρ:Type) where
 |bad
 |ret (r:ρ)
 |o (p:Prop) (r:OT ρ)
 |br (c:Bool) (t e:OT ρ)
def OT.Ends{ρ:Type}:OT ρ->ρ->Prop
 |.bad,_=>False
 |.ret r,x=>r=x
 |.o p r,x=>p∧r.Ends x
 |.br c t e,x=>(c=true∧t.Ends x)∨(c=false∧e.Ends x)
def owe{ρ:Type}:List Prop->OT ρ->OT ρ
 | [],x=>x
 |p::ps,x=>.o p (owe ps x)
abbrev eY(Γ:Nat->Type):=FuncId->List (PV Γ)->Option (PV Γ×List (PB Γ)×List Prop)
structure PI where
 i:lN
 wall:Bool
 mv:Bool
 hp:Bool
def xq:PI:=⟨bY,false,false,false⟩
def Ud{Γ:Nat->Type}:PE Γ->Bool
 |.loc _ _=>true
 |_=>false
def qP{Γ:Nat->Type}:PB Γ->Bool
 |.gone=>true
 |_=>false
def zi{Γ:Nat->Type}:List (PB Γ)->List (PB Γ)->Bool
 | [],_=>true
 |b::H,b'::H'=>(qP b==qP b')&&zi H H'
 |_::_,[]=>false
def ae2{Γ:Nat->Type}:PV Γ->Bool
 |.agg _=>true
 |_=>false
def Z7{Γ:Nat->Type}:PV Γ->Bool
 |.str _=>true
 |_=>false
section
variable (X:kJ) (P:LI1) (T:qx) (fO:eY X.Γ) {ρ:Type}
def byB(u:PV X.Γ)(an:PT X.Γ)(k:Bool->PT X.Γ->OT ρ):OT ρ:=
 match u with
 |.lit t=>k t an
 |.bool u=>match an with
  |.s x y=>.br u (k true x) (k false y)
  |.a (.br t) r=>.o (u=t) (k t r)
  |_=>.bad
 |_=>.bad
def JY(H:List (PB X.Γ))(r:Nat):Option (List (PV X.Γ×PV X.Γ)):=
 match H[r]? with
 |some (.map es)=>some es
 |some (.iD es)=>some es
 |_=>none
def a5A(H:List (PB X.Γ)):PV X.Γ->Option (List (PV X.Γ×PV X.Γ))
 |.nil .map=>some []
 |.map r=>JY X H r
 |_=>none
def Rt:PV X.Γ->List Key
 |.map r=>[.h r]
 |_=>[]
def qg(kt:LI2)(es:List (PV X.Γ×PV X.Γ))(tk:TV)(v:PV X.Γ):Prop:=∃kv ks j k0,tk.yt=some kv∧uV X es=some ks∧uX P kt kv ks=some (some j)∧es[j]? = some (k0,v)
def nM(kt:LI2)(es:List (PV X.Γ×PV X.Γ))(tk:TV):Prop:=∃kv ks,tk.yt=some kv∧uV X es=some ks∧uX P kt kv ks=some none
def ahX(kt:LI2)(es:List (PV X.Γ×PV X.Γ))(tk:TV)(k v:PV X.Γ):Prop:=∃kv ks j old ov,tk.yt=some kv∧aB P (Instr.checkKey false 10000 kt kv)=some ()∧uV X es=some ks∧uX P kt kv ks=some (some j)∧es[j]? = some (k,v)∧ks[j]? = some old∧old.yt=some ov∧Instr.sameBits 10000 ov kv=true
def O8(e:LI2):Option (PV X.Γ):=match P.info? e with
 |some i=>match i.zero with
  |some z=>match TV.Vo z with
   |some z=>Yh z
   |none=>none
  |none=>none
 |none=>none
def Z8(t:LI2)(s:aS X.Γ)(m k:PV X.Γ)(ok:Bool)(an:PT X.Γ)(c:PE X.Γ->PI->PT X.Γ->OT ρ):OT ρ:=
 match P.underlying t,pU k,a5A X s.heap m with
 |some (.map kt e),some tk,some es=>match an with
  |.a (.call v _) r=>.o (qg X P kt es tk v) (c (.val (if ok then .dG [v,.bool true]else v)) ⟨fJ (Rt X m),false,false,true⟩ r)
  |.a .calm r=>match O8 X P e with
   |some z=>.o (nM X P kt es tk) (c (.val (if ok then .dG [z,.bool false]else z)) ⟨fJ (Rt X m),false,false,true⟩ r)
   |none=>.bad
  |.a (.rd _) r=>match O8 X P e with
   |some z=>.o (nM X P kt es tk) (c (.val (if ok then .dG [z,.bool false]else z)) ⟨fJ (Rt X m),false,false,true⟩ r)
   |none=>.bad
  |an=>match tk.yt,uV X es with
   |some kv,some ks=>match an with
    |.a (.ix j) r=>match es[j]? with
     |some (_,v)=>.o (uX P kt kv ks=some (some j)) (c (.val (if ok then .dG [v,.bool true]else v)) ⟨fJ (Rt X m),false,false,true⟩ r)
     |none=>.bad
    |.a .no r=>match O8 X P e with
     |some z=>.o (uX P kt kv ks=some none) (c (.val (if ok then .dG [z,.bool false]else z)) ⟨fJ (Rt X m),false,false,true⟩ r)
     |none=>.bad
    |_=>.bad
   |_,_=>.bad
 |_,_,_=>.bad
def a5B(t:LI2)(s:aS X.Γ)(m k v:PV X.Γ)(an:PT X.Γ)(c:aS X.Γ->PI->PT X.Γ->OT ρ):OT ρ:=
 match P.underlying t,pU k,m,pU v with
 |some (.map kt _),some tk,.map r,some _=>match s.heap[r]? with
  |some (.map es)=>match an with
   |.a .calm rest=>.o (∃kv,tk.yt=some kv∧aB P (Instr.checkKey false 10000 kt kv)=some ()) (.o (nM X P kt es tk) (c { s with heap:=s.heap.set r (.map (es++[(k,v)])) } ⟨oO (.h r),false,false,true⟩ rest))
   |.a (.rd _) rest=>.o (∃kv,tk.yt=some kv∧aB P (Instr.checkKey false 10000 kt kv)=some ()) (.o (nM X P kt es tk) (c { s with heap:=s.heap.set r (.map (es++[(k,v)])) } ⟨oO (.h r),false,false,true⟩ rest))
   |.a (.call _ _) rest=>.o (ahX X P kt es tk k v) (c s ⟨oO (.h r),false,false,true⟩ rest)
   |an=>match tk.yt,uV X es with
    |some kv,some ks=>match an with
     |.a (.ix j) rest=>match es[j]?,ks[j]? with
      |some _,some old=>match old.yt with
       |some ov=>.o (aB P (Instr.checkKey false 10000 kt kv)=some ()) (.o (uX P kt kv ks=some (some j)) (.o (Instr.sameBits 10000 ov kv=true) (c { s with heap:=s.heap.set r (.map (es.set j (k,v))) } ⟨oO (.h r),false,false,true⟩ rest)))
       |none=>.bad
      |_,_=>.bad
     |.a .no rest=>.o (aB P (Instr.checkKey false 10000 kt kv)=some ()) (.o (uX P kt kv ks=some none) (c { s with heap:=s.heap.set r (.map (es++[(k,v)])) } ⟨oO (.h r),false,false,true⟩ rest))
     |_=>.bad
    |_,_=>.bad
  |_=>.bad
 |_,_,_,_=>.bad
def a5C(kt:LI2)(es:List (PV X.Γ×PV X.Γ))(tk:TV)(k v:PV X.Γ)(j:Nat):Prop:=∃kv ks old ov,tk.yt=some kv∧aB P (Instr.checkKey false 10000 kt kv)=some ()∧uV X es=some ks∧uX P kt kv ks=some (some j)∧es[j]? = some (k,v)∧ks[j]? = some old∧old.yt=some ov∧Instr.sameBits 10000 ov kv=true
def ae3(kt:LI2)(es:List (PV X.Γ×PV X.Γ))(tk:TV)(j:Nat):Prop:=∃kv ks,tk.yt=some kv∧uV X es=some ks∧uX P kt kv ks=some (some j)
def IX{Γ:Nat->Type}(es:List (PV Γ×PV Γ))(j:Nat)(v:PV Γ):List (PV Γ×PV Γ):=es.modify j fun e=>(e.1,v)
def a5D(t:LI2)(s:aS X.Γ)(m k:PV X.Γ)(an:PT X.Γ)(c:PE X.Γ->aS X.Γ->PI->PT X.Γ->OT ρ):OT ρ:=
 match P.underlying t,pU k,m with
 |some (.map kt e),some tk,.map r=>match s.heap[r]? with
  |some (.map es)=>match an with
   |.a (.call v _) (.a (.ix j) rest)=>match v with
    |.int a x=>.o (a5C X P kt es tk k (.int a x) j) (c (.ent r j (.int a x)) s ⟨oO (.h r),false,false,true⟩ rest)
    |_=>.bad
   |.a .calm rest=>match O8 X P e with
    |some (.int a x)=>.o (∃kv,tk.yt=some kv∧aB P (Instr.checkKey false 10000 kt kv)=some ()) (.o (nM X P kt es tk) (.o (ae3 X P kt (es++[(k,.int a x)]) tk es.length) (c (.ent r es.length (.int a x)) { s with heap:=s.heap.set r (.map (es++[(k,.int a x)])) } ⟨oO (.h r),false,false,true⟩ rest)))
    |_=>.bad
   |_=>.bad
  |_=>.bad
 |_,_,_=>.bad
def a5E(s:aS X.Γ)(m:PV X.Γ)(e:PE X.Γ)(v:PV X.Γ)(c:aS X.Γ->PI->OT ρ):OT ρ:=
 match m,e,pU v with
 |.map r,.Ee r' j,some _=>if r=r' then match s.heap[r]? with
  |some (.map es)=>.o (j<es.length) (c { s with heap:=s.heap.set r (.map (IX es j v)) } ⟨oO (.h r),false,false,true⟩)
  |_=>.bad
  else .bad
 |_,_,_=>.bad
abbrev a2G(Γ:Nat->Type):=PV Γ->List (PV Γ)->List (PB Γ)->PV Γ->List (PB Γ)->Prop
def a5F(Ru:a2G X.Γ)(s:aS X.Γ)(fv:PV X.Γ)(xs:List (PV X.Γ))(an:PT X.Γ)(k:PE X.Γ->aS X.Γ->PI->PT X.Γ->OT ρ):OT ρ:=
 match an with
 |.a (.call v H) r=>.o (Ru fv xs s.heap v H) (k (.val v) { s with heap:=H } ⟨⟨true,[],[]⟩,true,false,true⟩ r)
 |.a (.fr ks v H) r=>match decide ks.Nodup&&IW (H.drop ks.length),CJ s.heap ks with
  |true,some Hp=>match nK (wu ks) Hp,fE (wu ks) fv,fE.oN (wu ks) xs with
   |some Hs,some fv1,some xs1=>match fE (bk ks s.heap.length) v,nK (bk ks s.heap.length) H with
    |some v1,some H1=>.o (Ru fv1 xs1 Hs v H) (k (.val v1) { s with heap:=putAt ks H1 s.heap++H1.drop ks.length } ⟨⟨true,[],ks.map .h⟩,false,false,true⟩ r)
    |_,_=>.bad
   |_,_,_=>.bad
  |_,_=>.bad
 |.a (.Qe ks rs v H) r=>match decide ks.Nodup&&IW (H.drop ks.length),CJ s.heap ks with
  |true,some Hp=>match nK (wu ks) Hp,fE (wu ks) fv,fE.oN (wu ks) xs with
   |some Hs,some fv1,some xs1=>match fE (bk ks s.heap.length) v,nK (bk ks s.heap.length) H,roB rs Hs H with
    |some v1,some H1,some (Hs',H')=>.o (Ru fv1 xs1 Hs' v H') (k (.val v1) { s with heap:=putAt ks H1 s.heap++H1.drop ks.length } ⟨⟨true,[],(a2F rs 0 ks).map .h⟩,false,false,true⟩ r)
    |_,_,_=>.bad
   |_,_,_=>.bad
  |_,_=>.bad
 |an=>match fv with
  |.fn f first cap=>match views s.heap (first++xs++cap)with
   |some vs=>match fO f vs with
    |some (v,ext,ps)=>match qN X s.heap.length ext with
     |some ext'=>owe ps (k (.val (shift s.heap.length v)) { s with heap:=(if xk v||ext.any (hasB X)then bf (kP.jX (first++xs++cap)) s.heap else s.heap)++ext' } ⟨⟨true,[],[]⟩,false,false,true⟩ an)
     |none=>.bad
    |none=>.bad
   |none=>.bad
  |_=>.bad
def ae4(Ru:a2G X.Γ)(site:Nat->Bool)(s:aS X.Γ)(o:Oper)(an:PT X.Γ)(k:PE X.Γ->aS X.Γ->PI->PT X.Γ->OT ρ):OT ρ:=
 match o.op with
 |.move x|.assign x=>match Fg s.env x with
  |some v=>k v s xq an
  |none=>.bad
 |.pick c a b=>match a0H s.env c with
  |some u=>byB X u an fun t an=>match Fg s.env (if t then a else b)with
   |some v=>k v (s.BD c t) xq an
   |none=>.bad
  |none=>.bad
 |.alloc e=>match Rq P e with
  |some z=>match DK (site (o.dst.getD 0)) s z with
   |(v,s)=>k v s xq an
  |none=>.bad
 |.box _ x=>match zM s.env x with
  |some v=>if v.cells.all YU then(match DK (site (o.dst.getD 0)) s v.cells with
   |(v,s)=>k v s xq an)else .bad
  |none=>.bad
 |.build t ps=>match a2C s.env ps.toList with
  |some ps=>match YW P t ps with
   |some v=>k (.val v) s xq an
   |none=>.bad
  |none=>.bad
 |.buildSlice t len ps=>match a2C s.env ps.toList with
  |some ps=>match an with
   |.a (.Qe [] _ _ _) r=>match xR X P t len s.heap ps true with
    |some (v,H)=>k (.val v) { s with heap:=H } xq r
    |none=>.bad
   |an=>match xR X P t len s.heap ps false with
    |some (v,H)=>k (.val v) { s with heap:=H } xq an
    |none=>.bad
  |none=>.bad
 |.load t a=>match Fg s.env a with
  |some a=>match Ac X P t s a with
   |some (v,i)=>k (.val v) s ⟨i,false,false,!Ud a⟩ an
   |none=>.bad
  |none=>.bad
 |.store t a x=>match Fg s.env a,zM s.env x with
  |some a,some v=>match U8 X P t s a v with
   |some (s,i)=>k .undef s ⟨i,false,false,!Ud a⟩ an
   |none=>.bad
  |_,_=>.bad
 |.nilCheck x=>match Fg s.env x with
  |some (.loc a b)=>k (.loc a b) s xq an
  |some (.val (.ptr a b c))=>match s.heap[a]? with
   |some (.cells _)=>k (.val (.ptr a b c)) s xq an
   |some (.aF _)=>k (.val (.ptr a b c)) s xq an
   |_=>.bad
  |some (.val (.row a b c))=>match s.heap[a]? with
   |some (.list _ _ _ _)=>k (.val (.row a b c)) s xq an
   |_=>.bad
  |some (.val (.el a b c))=>k (.val (.el a b c)) s xq an
  |some (.val (.fn a b c))=>k (.val (.fn a b c)) s xq an
  |_=>.bad
 |.binOp op t x y _=>match zM s.env x,zM s.env y with
  |some a,some b=>if anD op then(match ae1 op a b with
    |some (v,ps)=>owe ps (k (.val v) s xq an)
    |none=>.bad)
   else match Ua X P op t s.heap a b with
   |some (v,q)=>.o q (k (.val v) s xq an)
   |none=>if ae2 a||Z7 a then(match an with
    |.a (.rd w) r=>match Yh w,pU a,pU b with
     |some v,some ta,some tb=>.o (su P op t x y ta tb=some w) (k (.val v) s xq r)
     |_,_,_=>.bad
    |_=>.bad)
   else match ae0 X P op t x y a b with
    |some v=>k (.val v) s xq an
    |none=>.bad
  |_,_=>.bad
 |.unOp op _ x=>match zM s.env x with
  |some a=>match pun X P op a with
   |some v=>k (.val v) s xq an
   |none=>.bad
  |none=>.bad
 |.convert src dst x=>match zM s.env x with
  |some a=>if Z7 a then(match an with
    |.a (.rd w) r=>match Yh w,pU a with
     |some v,some ta=>.o (Qy P src dst ta=some w) (k (.val v) s xq r)
     |_,_=>.bad
    |_=>.bad)
   else match a5u X P src dst a with
    |some v=>k (.val v) s xq an
    |none=>.bad
  |none=>.bad
 |.makeFunc (.func f) first cap=>match YV s.env first.toList,YV s.env cap.toList with
  |some a,some b=>k (.val (.fn f a b)) s xq an
  |_,_=>.bad
 |.makeMap t r=>match NZ s.env r,P.underlying t with
  |some none,_=>k (.val (.map s.heap.length)) { s with heap:=s.heap++[.map []] } xq an
  |some (some (.int _ _)),some (.map _ _)=>k (.val (.map s.heap.length)) { s with heap:=s.heap++[.map []] } xq an
  |_,_=>.bad
 |.makeSlice t l c=>match zM s.env l,zM s.env c with
  |some l,some c=>match Fq X P t s.heap l c with
   |some (v,H,ps)=>owe ps (k (.val v) { s with heap:=H } xq an)
   |none=>.bad
  |_,_=>.bad
 |.slice t x lo hi mx=>match Fg s.env x,NZ s.env lo,NZ s.env hi,NZ s.env mx with
  |some x,some lo,some hi,some mx=>match P.underlying t with
   |some (.array _ _)=>match an with
    |.a .no r=>match mx,Fv X P t s.heap x lo hi with
     |none,some v=>k (.val v) s xq r
     |_,_=>.bad
    |an=>match IV X P t s.heap x lo hi mx with
     |some (v,H,ps)=>owe ps (k (.val v) { s with heap:=H } xq an)
     |none=>.bad
   |_=>match x with
    |.val (.str b)=>(match an with
     |.a (.rd w) r=>match Yh w,(match lo with|none=>some none|some v=>(pU v).map some),(match hi with|none=>some none|some v=>(pU v).map some)with
      |some v,some tl,some th=>if mx.isNone then .o (qH P t (.str b) tl th none=some w) (k (.val v) s xq r)else .bad
      |_,_,_=>.bad
     |_=>.bad)
    |.val x=>match YZ X P t s.heap x lo hi mx with
     |some (v,ps)=>owe ps (k (.val v) s xq an)
     |none=>.bad
    |_=>.bad
  |_,_,_,_=>.bad
 |.fieldAddr t x f=>match Fg s.env x,FX P t f with
  |some a,some n=>match Gx X s n a with
   |some v=>k v s xq an
   |none=>.bad
  |_,_=>.bad
 |.field t x f=>match zM s.env x with
  |some a=>match Z4 X P t a f with
   |some v=>k (.val v) s xq an
   |none=>.bad
  |none=>.bad
 |.indexAddr t x i=>match Fg s.env x,zM s.env i with
  |some a,some i=>match Fj X P t s a i with
   |some (v,ps)=>owe ps (k v s xq an)
   |none=>.bad
  |_,_=>.bad
 |.index t x i=>match zM s.env x,zM s.env i with
  |some a,some i=>if Z7 a then(match an with
    |.a (.rd w) r=>match Yh w,pU a,pU i with
     |some v,some ta,some ti=>.o (Iw P t ta ti=some w) (k (.val v) s xq r)
     |_,_,_=>.bad
    |_=>.bad)
   else match Z5 X P t a i with
    |some v=>k (.val v) s xq an
    |none=>.bad
  |_,_=>.bad
 |.lookup t m i ok=>match zM s.env m,zM s.env i with
  |some m,some i=>Z8 X P t s m i ok an fun v q an=>k v s q an
  |_,_=>.bad
 |.mapUpdate t m i x|.insert t m i x=>match zM s.env m,zM s.env i,zM s.env x with
  |some m,some i,some v=>a5B X P t s m i v an fun s q an=>k .undef s q an
  |_,_,_=>.bad
 |.mapEntry t m i=>match zM s.env m,zM s.env i with
  |some m,some i=>a5D X P t s m i an k
  |_,_=>.bad
 |.entryStore _ m e x=>match zM s.env m,Fg s.env e,zM s.env x with
  |some m,some e,some v=>a5E X s m e v fun s q=>k .undef s q an
  |_,_,_=>.bad
 |.extract t i=>match Fg s.env t with
  |some (.val (.dG vs))=>match vs[i]? with
   |some v=>k (.val v) s xq an
   |none=>.bad
  |some (.ent r j v)=>match i with
   | 0=>k (.val v) s xq an
   | 1=>k (.Ee r j) s xq an
   |_=>.bad
  |_=>.bad
 |.call c=>match YV s.env c.args.toList with
  |some az=>match c.callee with
   |.builtin .len=>match az with
    | [x]=>match adZ X P c.argTypes s.heap x with
     |some (v,i)=>k (.val v) s ⟨i,false,false,true⟩ an
     |none=>.bad
    |_=>.bad
   |.builtin .append=>match az with
    | [d,x]=>match U9 X P c.argTypes s.heap d x with
     |some (v,H,i,ps)=>owe ps (k (.val v) { s with heap:=H } ⟨i,false,false,true⟩ an)
     |none=>.bad
    |_=>.bad
   |.builtin .copy=>match az with
    | [d,x]=>match a5t X P c.argTypes s.heap d x with
     |some (v,H,i)=>k (.val v) { s with heap:=H } ⟨i,false,false,true⟩ an
     |none=>.bad
    |_=>.bad
   |.builtin .min=>match LK X P false c.argTypes o.type az with
    |some v=>k (.val v) s xq an
    |none=>.bad
   |.builtin .max=>match LK X P true c.argTypes o.type az with
    |some v=>k (.val v) s xq an
    |none=>.bad
   |.value f=>match zM s.env f with
    |some fv=>a5F X fO Ru s fv az an k
    |none=>.bad
   |_=>.bad
  |none=>.bad
 |.range t x=>match zM s.env x,P.underlying t with
  |some (.map r),some (.map _ _)=>match JY X s.heap r with
   |some es=>k (.val (.iter s.heap.length)) { s with heap:=s.heap++[.cO r es.length []] } ⟨fJ [.h r],false,false,true⟩ an
   |_=>.bad
  |_,_=>.bad
 |.entry x=>match zM s.env x with
  |some (.iter b)=>match s.heap[b]? with
   |some (.cO r n (i::_))=>match JY X s.heap r with
    |some es=>match an with
     |.a (.call (.dG [kk,vv]) _) rest=>.o (es.length=n∧es[i]? = some (kk,vv)) (k (.val (.dG [kk,vv])) s ⟨fJ [.h b,.h r],false,false,true⟩ rest)
     |an=>if es.length=n then(match es[i]? with
      |some e=>k (.val (.dG [e.1,e.2])) s ⟨fJ [.h b,.h r],false,false,true⟩ an
      |none=>.bad)else .bad
    |_=>.bad
   |_=>.bad
  |_=>.bad
 |_=>.bad
def Z9(ops:Array Oper)(s:aS X.Γ)(o:Oper)(an:PT X.Γ)(k:Bool->aS X.Γ->PT X.Γ->OT ρ):OT ρ:=
 match o.guard with
 |none=>k true s an
 |some (j,want)=>match(ops[j]?).bind (·.dst)with
  |some d=>match EH d s.env with
   |some (.val b)=>byB X b an fun t an=>k (t==want) (s.BD (.tmp d) t) an
   |some .undef=>k false s an
   |_=>.bad
  |none=>.bad
def Za(a b:PI):Bool:=
 (a.i.ws.all fun k=>!(b.i.all&&k.isH)&&!b.i.ts.contains k&&!b.i.ws.contains k&&!(b.wall&&k.isH)) &&
 (!a.wall||(!b.i.all&&!b.wall&&b.i.ts.all (fun k=>!k.isH)&&b.i.ws.all (fun k=>!k.isH)))
def a0J(a b:PI):Bool:=Za a b&&Za b a
def Ue(wX:List PI):List (Nat×Nat)->Bool
 | []=>true
 |(i,j)::r=>(match wX[i]?,wX[j]? with
  |some a,some b=>a0J a b&&(!a.hp||!b.hp||!((wX.drop i).take (j-i)).any (·.mv))
  |_,_=>false)&&Ue wX r
def Wv(Ru:a2G X.Γ)(site:Nat->Bool)(nt:Nat)(ops:Array Oper):List Oper->aS X.Γ->PT X.Γ->(aS X.Γ->List PI->PT X.Γ->OT ρ)->OT ρ
 | [],s,an,k=>k s [] an
 |o::os,s,an,k=>if !MW nt o then .bad else Z9 X ops s o an fun w s an=>match w with
  |true=>ae4 X P fO Ru site s o an fun v s1 i an=>Wv Ru site nt ops os (s1.put o.dst v) an fun s' is an=>k s' (⟨i.i,i.wall,!zi s.heap s1.heap,i.hp⟩::is) an
  |false=>Wv Ru site nt ops os (s.put o.dst .undef) an fun s' is an=>k s' (xq::is) an
def Uf:List (Nat×PE X.Γ)->Nat
 | []=>0
 |(_,.loc k _)::r=>max (k+1) (Uf r)
 |_::r=>Uf r
def gJ(live:List Nat)(s:aS X.Γ):aS X.Γ:=
 let env:=jd live s.env
 { s with env:=env,loc:=s.loc.take (Uf X env) }
def Ug(step:aS X.Γ->PT X.Γ->(Ex->aS X.Γ->PT X.Γ->OT ρ)->OT ρ):Nat->aS X.Γ->PT X.Γ->(Ex->aS X.Γ->PT X.Γ->OT ρ)->OT ρ
 | 0,_,_,_=>.bad
 |m+1,s,an,k=>step s an fun e s an=>match e with
  |.norm=>Ug step m s an k
  |e=>k e s an
abbrev a0K(Γ:Nat->Type):=Code->aS Γ->Ex->aS Γ->Prop
def yF(lo:a0K X.Γ)(B:Nat)(c:Code)(s:aS X.Γ)(k:Ex->aS X.Γ->PT X.Γ->OT ρ):PT X.Γ->OT ρ
 |.a (.loop e s') r=>.o (lo c s e s') (k e s' r)
 |.a (.lg gs e s') r=>match l7 B gs s with
  |some s0=>.o (lo c s0 e s') (k e s' r)
  |none=>.bad
 |.z c' a b=>.br c' (yF lo B c s k a) (yF lo B c s k b)
 |_=>.bad
def jL(Ru:a2G X.Γ)(lo:a0K X.Γ)(B:Nat)(L:Nat)(f:Nat)(gQ:Bool)(nt:Nat):Code->aS X.Γ->PT X.Γ->(Ex->aS X.Γ->PT X.Γ->OT ρ)->OT ρ
 |.skip,s,an,k=>k .norm s an
 |.label _,s,an,k=>k .norm s an
 |.region id ops draw,s,an,k=>Wv X P fO Ru (fun d=>gQ||T.TB f d) nt ops ops.toList s an fun s' wX an=>
  match draw with
  |false=>k .norm { s' with env:=jd (T.iw f id) s'.env } an
  |true=>match an with
   |.a .calm r=>if wX.all (fun i=>i.i.ws.isEmpty&&!i.wall)then .o (nH ops.toList=true) (k .norm { s' with env:=jd (T.iw f id) s'.env } r)else .bad
   |an=>if nH ops.toList&&Ue wX (mG ops.toList)then k .norm { s' with env:=jd (T.iw f id) s'.env } an else .bad
 |.seq a b,s,an,k=>jL Ru lo B L f gQ nt a s an fun e s an=>match e with
  |.norm=>jL Ru lo B L f gQ nt b s an k
  |e=>k e s an
 |.cond c a b,s,an,k=>match a0H s.env c with
  |some u=>byB X u an fun t an=>match t with
   |true=>jL Ru lo B L f gQ nt a (s.BD c true) an k
   |false=>jL Ru lo B L f gQ nt b (s.BD c false) an k
  |none=>.bad
 |.block id b,s,an,k=>jL Ru lo B L f gQ nt b s an fun e s an=>match e with
  |.exit i=>k (if i=id then .norm else .exit i) s an
  |e=>k e s an
 |.scope b,s,an,k=>jL Ru lo B L f gQ nt b s an k
 |.loop b,s,an,k=>match an with
  |.l m r=>.o (m<=L) (Ug X (fun s an k=>jL Ru lo B L f gQ nt b (gJ X (T.eX f (dQ b)) s) an k) m s r k)
  |an=>yF X lo B (.loop b) s k an
 |.exit id,s,an,k=>k (.exit id) s an
 |.ret,s,an,k=>k .ret s an
 |.rangeFunc g ps uJ body,s,an,k=>yF X lo B (.rangeFunc g ps uJ body) s k an
 |_,_,_,_=>.bad
def ai0(s:aS X.Γ):ResultVar->Option (PV X.Γ)
 |.tmp t=>match EH t s.env with
  |some (.val v)=>some (a0G v)
  |_=>none
 |.cell a t=>match EH a s.env with
  |some a=>(Ac X P t s a).map (·.1)
  |none=>none
def EI(s:aS X.Γ):List ResultVar->Option (List (PV X.Γ))
 | []=>some []
 |r::rs=>match ai0 X P s r,EI s rs with
  |some v,some vs=>some (v::vs)
  |_,_=>none
def Zb:List (PV X.Γ)->PV X.Γ
 | [v]=>v
 |vs=>.dG vs
def kT:Nat->List (PV X.Γ)->List (Nat×PE X.Γ)
 |_,[]=>[]
 |k,v::vs=>(k,.val v)::kT (k+1) vs
def CO(Ru:a2G X.Γ)(lo:a0K X.Γ)(L:Nat)(f:Nat)(args:List (PV X.Γ))(H:List (PB X.Γ))(an:PT X.Γ):OT (PV X.Γ×List (PB X.Γ)):=
 match(if(T.exts.contains f||T.dem.contains f)=true then none else TA P f)with
 |some t=>jL X P T fO Ru lo H.length L f false t.nt t.body ⟨kT X 0 args,[],H⟩ an fun e s an=>match e,an with
  |.exit _,_=>.bad
  |_,.n=>match EI X P s t.results with
   |some vs=>.ret (Zb X vs,s.heap)
   |none=>.bad
  |_,_=>.bad
 |none=>.bad
end
inductive MB where
 |fV (b:Nat)
 |jl (b:Nat)
 |dB (x:TV)
 |gone
def MB.own:MB->Option Nat
 |.fV b=>some b
 |.dB (.aP b _ len _ _ _)=>if len=0 then none else some b
 |_=>none
def bg(m:List MB):List Nat:=m.filterMap MB.own
def bn{Γ:Nat->Type}:PV Γ->Option Nat
 |.ptr b _ _=>some b
 |.aP b _ _ _ _ _=>some b
 |.own b=>some b
 |.win b _ _=>some b
 |.FU b=>some b
 |.map b=>some b
 |.iter b=>some b
 |.kG b=>some b
 |.row b _ _=>some b
 |_=>none
def roV{Γ:Nat->Type}(c:Nat):PV Γ->Option TV
 |.ptr _ off lim=>some (.ptr c off lim)
 |.aP _ off len cap sz ex=>some (.aP c off len cap sz ex)
 |.map _=>some (.map c)
 |.iter _=>some (.iter c)
 |.kG _=>some (.kG c)
 |_=>none
inductive CP{Γ:Nat->Type}(v:PV Γ)(x:TV):Option MB->Prop where
 |g:CP v x (some .gone)
 |r (c):roV c v=some x->CP v x (some (.jl c))
theorem CP.of{Γ:Nat->Type}{v:PV Γ}{x:TV}{o:Option MB}(e:o=some .gone):CP v x o:=by subst e;exact .g
theorem CP.as{Γ:Nat->Type}{v w:PV Γ}{x:TV}{o:Option MB}(h:CP v x o)(e:∀c,roV c w=roV c v):CP w x o:=by
 cases h with
 |g=>exact .g
 |r c h=>exact .r c ((e c).trans h)
theorem CP.ofR{Γ:Nat->Type}{v:PV Γ}{x:TV}{o:Option MB}{c:Nat}(e:o=some (.jl c))(h:roV c v=some x):CP v x o:=by subst e;exact .r c h
section
variable (X:kJ) (P:LI1)
inductive VR(A:Nat->Prop)(m:List MB)(h:List HB):PV X.Γ->TV->Prop where
 |bool (b):VR A m h (.bool b) (.bool b)
 |lit (b):VR A m h (.lit b) (.bool b)
 |int (k n):VR A m h (.int k n) (.int k n)
 |str (s):VR A m h (.str s) (.str s)
 |nil (k):VR A m h (.nil k) (.nil k)
 |ptr {b c off lim}:m[b]? = some (.fV c)->VR A m h (.ptr b off lim) (.ptr c off lim)
 |aP {b c off len cap sz ex}:m[b]? = some (.fV c)->VR A m h (.aP b off len cap sz ex) (.aP c off len cap sz ex)
 |own {i x}:m[i]? = some (.dB x)->iT x=true->VR A m h (.own i) x
 |win {i o n c off len cap cap' sz ex ex'}:m[i]? = some (.dB (.aP c off len cap sz ex))->o+n<=len->n<=cap'->(n=0∨o+cap'=cap)->VR A m h (.win i o n) (.aP c (off+o*sz) n cap' sz ex')
 |BF {i}:m[i]? = some (.dB (.nil .aP))->VR A m h (.win i 0 0) (.nil .aP)
 |FU {i c off n sz ex}:m[i]? = some (.dB (.aP c off n n sz ex))->VR A m h (.FU i) (.aP c off n n sz true)
 |IY {i}:m[i]? = some (.dB (.nil .aP))->VR A m h (.FU i) (.nil .aP)
 |map {r c}:m[r]? = some (.fV c)->VR A m h (.map r) (.map c)
 |iter {r c}:m[r]? = some (.fV c)->VR A m h (.iter r) (.iter c)
 |fn {f a a' c c'}:a.length=a'.length->(∀(i:Nat) x y,a[i]? = some x->a'[i]? = some y->VR A m h x y)->c.length=c'.length->(∀(i:Nat) x y,c[i]? = some x->c'[i]? = some y->VR A m h x y)->VR A m h (.fn f a c) (.fn f a' c')
 |kG {l c}:m[l]? = some (.fV c)->VR A m h (.kG l) (.kG c)
 |agg {cs cs'}:cs.length=cs'.length->(∀(i:Nat) x y,cs[i]? = some x->cs'[i]? = some y->VR A m h x y)->VR A m h (.agg cs) (.agg cs')
 |dG {cs cs'}:cs.length=cs'.length->(∀(i:Nat) x y,cs[i]? = some x->cs'[i]? = some y->VR A m h x y)->VR A m h (.dG cs) (.dG cs')
 |oW {t fu}:VR A m h (.dB t [] fu) (.nil .aP)
 |dB {t l fu b off cap sz ex cs}:A b->aX h b=some cs->(l≠[]->lQ h b (off+cap*sz)=some cs)->dw P t=some sz->0<sz->off+l.length*sz<=cs.length->l.length<=cap->(fu=true->ex=true∧cap=l.length)->(∀(j:Nat) a,l[j]? = some a->(X.enc t a).length=sz) ->
   (∀(j:Nat) a (i:Nat) c v,l[j]? = some a->(X.enc t a)[i]? = some c->cs[off+j*sz+i]? = some v->VR A m h c v)->VR A m h (.dB t l fu) (.aP b off l.length cap sz ex)
 |el {t a off b o sz lim cs}:A b->lQ h b lim=some cs->o+sz<=lim->o+sz<=cs.length->(X.enc t a).length=sz->off<=sz ->
   (∀(i:Nat) c v,(X.enc t a)[i]? = some c->cs[o+i]? = some v->VR A m h c v)->VR A m h (.el t a off) (.ptr b (o+off) lim)
 |row {i j off c len cap sz ex}:m[i]? = some (.dB (.aP c 0 len cap sz ex))->j<len->off<=sz->VR A m h (.row i j off) (.ptr c (j*sz+off) (cap*sz))
 |gone {v i x}:bn v=some i->CP v x m[i]?->iT x=true->VR A m h v x
def bU(A:Nat->Prop)(m:List MB)(h:List HB)(a:List (PV X.Γ))(b:List TV):Prop:=a.length=b.length∧∀(i:Nat) x y,a[i]? = some x->b[i]? = some y->VR X P A m h x y
def dW(A:Nat->Prop)(m:List MB)(h:List HB)(t:Nat)(l:List (X.Γ t))(cs:List TV)(off sz:Nat):Prop:=
 (∀(j:Nat) a,l[j]? = some a->(X.enc t a).length=sz)∧off+l.length*sz<=cs.length∧∀(j:Nat) a (i:Nat) c v,l[j]? = some a->(X.enc t a)[i]? = some c->cs[off+j*sz+i]? = some v->VR X P A m h c v
inductive LR(A:Nat->Prop)(m:List MB)(h:List HB)(k ex:Bool)(t:Nat):List (X.Γ t)->TV->Prop where
 |nil:LR A m h k ex t [] (.nil .aP)
 |emp {b off sz cs}:A b->aX h b=some cs->off<=cs.length->dw P t=some sz->0<sz->LR A m h k ex t [] (.aP b off 0 0 sz true)
 |some {l b sz e kk cs}:l≠[]->dw P t=some sz->0<sz->h[b]? = some (.cells kk cs)->kk≠.ro->(k=true->kk=.own)->(ex=true->e=true)->cs.length=l.length*sz->dW X P A m h t l cs 0 sz->LR A m h k ex t l (.aP b 0 l.length l.length sz e)
def Iu(A:Nat->Prop)(m:List MB)(h:List HB):PE X.Γ->EV->Prop
 |.val v,.val x=>VR X P A m h v x
 |.loc k o,.loc k' o'=>k=k'∧o=o'
 |.undef,.undef=>True
 |.ent r j v,.ent c j' x=>VR X P A m h (.map r) (.map c)∧j=j'∧pU v=some x
 |.Ee r j,.Ee c j'=>VR X P A m h (.map r) (.map c)∧j=j'
 |_,_=>False
inductive jS(A:Nat->Prop)(m:List MB)(h:List HB):List (Nat×PE X.Γ)->List (Nat×EV)->Prop where
 |nil:jS A m h [] []
 |cons {k v x r r'}:Iu X P A m h v x->jS A m h r r'->jS A m h ((k,v)::r) ((k,x)::r')
def BR(A:Nat->Prop)(m:List MB)(h:List HB):PB X.Γ->MB->Prop
 |.cells cs,.fV b=>∃cs',h[b]? = some (.cells .own cs')∧bU X P A m h cs cs'
 |.aF cs,.jl b=>b∉bg m∧∃cs',h[b]? = some (.cells .own cs')∧bU X P A m h cs cs'
 |.list k ex t l,.dB x=>LR X P A m h k ex t l x
 |.map es,.fV b=>∃fU,h[b]? = some (.map fU)∧es.length=fU.length∧∀(i:Nat) x y,es[i]? = some x->fU[i]? = some y->pU x.1=some y.1∧pU x.2=some y.2
 |.iD es,.jl b=>b∉bg m∧∃fU,h[b]? = some (.map fU)∧es.length=fU.length∧∀(i:Nat) x y,es[i]? = some x->fU[i]? = some y->pU x.1=some y.1∧pU x.2=some y.2
 |.mP cs,.fV b=>∃cs',h[b]? = some (.mP cs')∧U7 cs=some cs'
 |.mark,.fV b=>h[b]? = some .mark
 |.cO r n seen,.fV b=>∃c,h[b]? = some (.cO c n seen)∧(m[r]?).isSome=true∧∀c',(m[r]? = some (.fV c')∨m[r]? = some (.jl c'))->c'=c
 |.loop rd f nt env ps a c jI,.fV b=>∃env',h[b]? = some (.loop rd f nt env' ps a c jI)∧jS X P A m h env env'
 |.gone,.gone=>True
 |_,_=>False
def AA(A:Nat->Prop)(m:List MB):Nat->Prop:=fun b=>A b∧b∉bg m
structure HR(A:Nat->Prop)(m:List MB)(H:List (PB X.Γ))(h:List HB):Prop where
 len:m.length=H.length
 at_:∀(i:Nat) b,H[i]? = some b->∃mb,m[i]? = some mb∧BR X P (AA A m) m h b mb
 nodup:(bg m).Nodup
 up:∀b,h.length<=b->A b
 CQ:∀b,b∈bg m->A b
end
structure Fr(m:List MB)(h:List HB)(m':List MB)(h':List HB):Prop where
 len:h.length<=h'.length
 same:∀b,b<h.length->b∉bg m->h'[b]? = h[b]?
 new:∀b,b∈bg m'->b∈bg m∨h.length<=b
 grow:∀b cs,aX h b=some cs->∃cs',aX h' b=some cs'∧cs.length<=cs'.length
def Up(m m':List MB):Prop:=∀(i:Nat) mb,m[i]? = some mb->m'[i]? = some mb∨m'[i]? = some .gone
theorem Fr.refl{m:List MB}{h:List HB}:Fr m h m h:=⟨a0U _,fun _ _ _=>rfl,fun _ hb=>.inl hb,fun _ cs hc=>⟨cs,hc,a0U _⟩⟩
theorem Up.refl{m:List MB}:Up m m:=fun _ _ h=>.inl h
theorem Fr.trans{m m' m'':List MB}{h h' h'':List HB}(a:Fr m h m' h')(b:Fr m' h' m'' h''):Fr m h m'' h'':=by
 refine⟨a4A a.len b.len,fun c hc hn=>?_,fun c hc=>?_,fun c cs hc=>?_⟩
 .rw[b.same c (by have:=a.len;omega) (fun hm=>?_),a.same c hc hn];rcases a.new c hm with h1|h1
  .exact hn h1
  omega
 .rcases b.new c hc with h1|h1
  .exact a.new c h1
  have:=a.len;exact .inr (by omega)
 obtain⟨cs',h1,h2⟩:=a.grow c cs hc;obtain⟨adV,h3,h4⟩:=b.grow c cs' h1;exact⟨adV,h3,by omega⟩
theorem Up.trans{m m' m'':List MB}(a:Up m m')(b:Up m' m''):Up m m'':=fun i mb hi=>by
 rcases a i mb hi with h|h
 .exact b i mb h
 .rcases b i _ h with h|h<;>exact .inr h
theorem fM{h:List HB}{b:Nat}{cs:List TV}(hc:aX h b=some cs):b<h.length:=by
 unfold aX at hc;split at hc
 .rename_i e;exact(a01.1 e).1
 cases hc
theorem fP{h h':List HB}{b:Nat}(e:h'[b]? = h[b]?):aX h' b=aX h b:=by unfold aX;rw[e]
theorem xX{h h':List HB}{b lim:Nat}(e:h'[b]? = h[b]?):lQ h' b lim=lQ h b lim:=by unfold lQ;rw[e]
theorem Ad{h:List HB}{b lim:Nat}{cs:List TV}(hc:lQ h b lim=some cs):aX h b=some cs:=by obtain⟨k,h1,_⟩:=xI hc;unfold aX;rw[h1]
theorem a2H{h:List HB}{b lim:Nat}{cs:List TV}(hc:lQ h b lim=some cs):b<h.length:=fM (Ad hc)
theorem wz{h:List HB}{b lim:Nat}{k:BK}{cs:List TV}(hc:h[b]? = some (.cells k cs))(hl:lim=cs.length):lQ h b lim=some cs:=by unfold lQ;simp[hc,hl]
theorem Wx{h:List HB}{b off lim:Nat}{cs new:List TV}(hc:h[b]? = some (.cells .own cs)):Tt h b off lim new=(vO cs off new).map fun cs'=>h.set b (.cells .own cs'):=by unfold Tt;simp[hc,zO]
theorem a0L{h:List HB}{b off lim:Nat}{k k':BK}{cs new:List TV}(hc:h[b]? = some (.cells k cs))(hk:zO k true=some k')(hl:lim=cs.length):Tt h b off lim new=(vO cs off new).map fun cs'=>h.set b (.cells k' cs'):=by unfold Tt;simp[hc,hl,hk]
theorem IZ{k:BK}(h:k≠.ro):∃k',zO k true=some k'∧k'≠.ro∧(k=.own->k'=.own):=by cases k<;>simp_all [zO]
theorem wB{h:List HB}{b lim:Nat}{k:BK}{cs:List TV}(hc:h[b]? = some (.cells k cs))(hl:k≠.last):lQ h b lim=some cs:=by unfold lQ;simp[hc,hl]
section
variable {X:kJ} {P:LI1} {A:Nat->Prop} {m m':List MB} {h h':List HB}
theorem VR.step(hF:Fr m h m' h')(hU:Up m m'){v:PV X.Γ}{x:TV}(hv:VR X P (AA A m) m h v x):VR X P (AA A m') m' h' v x:=by
 have hA:∀b cs,AA A m b->aX h b=some cs->AA A m' b∧h'[b]? = h[b]?:=by
  intro b cs ha hc;have aT:=fM hc;refine⟨⟨ha.1,fun hm=>?_⟩,hF.same b aT ha.2⟩;rcases hF.new b hm with h1|h1
  .exact ha.2 h1
  omega
 induction hv with
 |bool=>exact .bool _
 |lit=>exact .lit _
 |int=>exact .int _ _
 |str=>exact .str _
 |nil=>exact .nil _
 |ptr e=>rcases hU _ _ e with e|e;exact .ptr e;exact .gone rfl (.of e) rfl
 |aP e=>rcases hU _ _ e with e|e;exact .aP e;exact .gone rfl (.of e) rfl
 |own e o=>rcases hU _ _ e with e|e;exact .own e o;exact .gone rfl (.of e) o
 |win e q q' q2=>rcases hU _ _ e with e|e;exact .win e q q' q2;exact .gone rfl (.of e) rfl
 |BF e=>rcases hU _ _ e with e|e;exact .BF e;exact .gone rfl (.of e) rfl
 |FU e=>rcases hU _ _ e with e|e;exact .FU e;exact .gone rfl (.of e) rfl
 |IY e=>rcases hU _ _ e with e|e;exact .IY e;exact .gone rfl (.of e) rfl
 |map e=>rcases hU _ _ e with e|e;exact .map e;exact .gone rfl (.of e) rfl
 |iter e=>rcases hU _ _ e with e|e;exact .iter e;exact .gone rfl (.of e) rfl
 |fn h1 _ h3 _ i2 i4=>exact .fn h1 i2 h3 i4
 |kG e=>rcases hU _ _ e with e|e;exact .kG e;exact .gone rfl (.of e) rfl
 |agg h1 _ i2=>exact .agg h1 i2
 |dG h1 _ i2=>exact .dG h1 i2
 |oW=>exact .oW
 |dB a c c2 s z o k f e _ ih=>obtain⟨a',c'⟩:=hA _ _ a c;exact .dB a' ((fP c').trans c) (fun hl=>(xX c').trans (c2 hl)) s z o k f e ih
 |el a c l o e q _ ih=>obtain⟨a',c'⟩:=hA _ _ a (Ad c);exact .el a' ((xX c').trans c) l o e q ih
 |row e j q=>rcases hU _ _ e with e|e;exact .row e j q;exact .gone rfl (.of e) rfl
 | @gone v i0 x i e o=>
  generalize hq:m[i0]? = q at e;cases e with
  |g=>rcases hU _ _ hq with e|e<;>exact .gone i (.of e) o
  |r c hv=>rcases hU _ _ hq with e|e;exact .gone i (.ofR e hv) o;exact .gone i (.of e) o
theorem bU.step(hF:Fr m h m' h')(hU:Up m m'){v:List (PV X.Γ)}{x:List TV}(hv:bU X P (AA A m) m h v x):bU X P (AA A m') m' h' v x:=
 ⟨hv.1,fun i a b ha hb=>(hv.2 i a b ha hb).step hF hU⟩
theorem dW.step(hF:Fr m h m' h')(hU:Up m m'){t:Nat}{l:List (X.Γ t)}{cs:List TV}{off sz:Nat}(hv:dW X P (AA A m) m h t l cs off sz):dW X P (AA A m') m' h' t l cs off sz:=
 ⟨hv.1,hv.2.1,fun j a i c v h1 h2 h3=>(hv.2.2 j a i c v h1 h2 h3).step hF hU⟩
theorem Iu.step(hF:Fr m h m' h')(hU:Up m m'){v:PE X.Γ}{x:EV}(hv:Iu X P (AA A m) m h v x):Iu X P (AA A m') m' h' v x:=by cases v<;>cases x<;>first|exact VR.step hF hU hv|exact hv|exact⟨VR.step hF hU hv.1,hv.2⟩
theorem jS.step(hF:Fr m h m' h')(hU:Up m m'){v:List (Nat×PE X.Γ)}{x:List (Nat×EV)}(hv:jS X P (AA A m) m h v x):jS X P (AA A m') m' h' v x:=by
 induction hv with
 |nil=>exact .nil
 |cons h1 _ ih=>exact .cons (h1.step hF hU) ih
theorem BR.step(hF:Fr m h m' h')(hU:Up m m'){b:PB X.Γ}{mb:MB}(hs:∀c,mb.own=some c->h'[c]? = h[c]?)(hb:BR X P (AA A m) m h b mb):BR X P (AA A m') m' h' b mb:=by
 cases b with
 |cells cs=>
  cases mb with
  |fV b=>obtain⟨cs',h1,h2⟩:=hb;exact⟨cs',by rw[hs b rfl,h1],h2.step hF hU⟩
  |_=>exact hb.elim
 |aF cs=>
  cases mb with
  |jl b=>
   obtain⟨h0,cs',h1,h2⟩:=hb;have aT:=(a01.1 h1).1;refine⟨fun hm=>?_,cs',by rw[hF.same _ aT h0,h1],h2.step hF hU⟩;rcases hF.new _ hm with g|g
   .exact h0 g
   omega
  |_=>exact hb.elim
 |list k ex t l=>
  cases mb with
  |dB x=>
   cases(hb:LR X P (AA A m) m h k ex t l x)with
   |nil=>exact LR.nil
   |emp h0 h1 h2 h3 h4=>
    have aT:=fM h1;refine LR.emp ⟨h0.1,fun hm=>?_⟩ (by rw[fP (hF.same _ aT h0.2),h1]) h2 h3 h4;rcases hF.new _ hm with g|g
    .exact h0.2 g
    omega
   |some h1 h2 h3 h4 h5 h6 h7 h8 h9=>
    have ho:=hs _ (by simp only[MB.own];rw[a0c (by simpa using h1)]);exact LR.some h1 h2 h3 (by rw[ho,h4]) h5 h6 h7 h8 (h9.step hF hU)
  |_=>exact hb.elim
 |map es=>
  cases mb with
  |fV b=>obtain⟨fU,h1,h2,h3⟩:=hb;exact⟨fU,by rw[hs b rfl,h1],h2,h3⟩
  |_=>exact hb.elim
 |mP cs=>
  cases mb with
  |fV b=>obtain⟨fU,h1,h2⟩:=hb;exact⟨fU,by rw[hs b rfl,h1],h2⟩
  |_=>exact hb.elim
 |iD es=>
  cases mb with
  |jl b=>
   obtain⟨h0,fU,h1,h2⟩:=hb;have aT:=(a01.1 h1).1;refine⟨fun hm=>?_,fU,by rw[hF.same _ aT h0,h1],h2⟩;rcases hF.new _ hm with g|g
   .exact h0 g
   omega
  |_=>exact hb.elim
 |cO r n seen=>
  cases mb with
  |fV b=>
   obtain⟨c,h1,h2,h3⟩:=hb;obtain⟨mb,h4⟩:=a4J.1 h2;refine⟨c,by rw[hs b rfl,h1],by rcases hU _ _ h4 with e|e<;>rw[e]<;>rfl,fun c' hc=>h3 c' ?_⟩;rcases hU _ _ h4 with e|e
   .rw[h4,<-e];exact hc
   rw[e]at hc;simp at hc
  |_=>exact hb.elim
 |mark=>
  cases mb with
  |fV b=>show h'[b]? = _;rw[hs b rfl];exact hb
  |_=>exact hb.elim
 |loop rd f nt env ps a c jI=>
  cases mb with
  |fV b=>obtain⟨e',h1,h2⟩:=hb;exact⟨e',by rw[hs b rfl,h1],h2.step hF hU⟩
  |_=>exact hb.elim
 |gone=>
  cases mb with
  |gone=>trivial
  |_=>exact hb.elim
theorem aZ{i:Nat}{mb:MB}{b:Nat}(hi:m[i]? = some mb)(ho:mb.own=some b):b∈bg m:=
 a6G.2 ⟨mb,a4m hi,ho⟩
theorem iV(hn:(bg m).Nodup):∀{i j:Nat} {a b:MB} {c:Nat},m[i]? = some a->m[j]? = some b->a.own=some c->b.own=some c->i=j:=by
 unfold bg at hn
 induction m with
 |nil=>intro i j a b c h;simp at h
 |cons x r ih=>
  intro i j a b c hi hj ha hb;have hr:(r.filterMap MB.own).Nodup:=by
   simp only[a8P]at hn;split at hn
   .exact hn
   exact(a4k.1 hn).2
  have hx:∀{k:Nat} {y:MB},r[k]? = some y->y.own=some c->x.own=some c->False:=by intro k y hk hy hxc;simp only[a8P,hxc]at hn;exact(a4k.1 hn).1 (a6G.2 ⟨y,a4m hk,hy⟩)
  cases i with
  |zero=>
   cases j with
   |zero=>rfl
   |succ j=>
    simp only[a2r,a00]at hi;subst hi;exact(hx (by simpa using hj) hb ha).elim
  |succ i=>
   cases j with
   |zero=>
    simp only[a2r,a00]at hj;subst hj;exact(hx (by simpa using hi) ha hb).elim
   |succ j=>
    have:=ih hr (i:=i) (j:=j) (by simpa using hi) (by simpa using hj) ha hb;omega
end
end Pv
