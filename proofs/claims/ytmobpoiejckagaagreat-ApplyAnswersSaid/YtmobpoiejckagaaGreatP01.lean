/- Part 2 of a proof: ApplyAnswers -/
import Derived.Scope
import Derived.Maps.RangeRun
import Derived.Deep.Slices
import Derived.ChangeArms
import Derived.OpenShut
import Derived.Carry
import Derived.Laws.StructEq
import Derived.Test.YtmobpoiejckagaaGreatP00
set_option linter.unusedVariables false
set_option linter.unusedSimpArgs false
set_option linter.unusedSectionVars false
noncomputable section
namespace Tw
open Go
structure je(P:LI1)(call:dO)(site:Nat->Bool)(nt:Nat)(ops:Array Oper)(M0:Mp)(h0:List HB)(w0:LI4)(S:Nat->St)(I:Nat->yH):Prop where
 base:xJ M0 h0 w0
 step:∀j o,ops[j]? = some o->vN P call site h0.length nt ops o (S j) (I j) (S (j+1))
 ok:∀j,j<=ops.size->∃M a w,Rel M0 h0 w0 nt M (S j) a w
 fac:∀j o,ops[j]? = some o->∃M w M' w' v,S (j+1)=St.put { S (j+1)with env:=(S j).env } o.dst v/\Ext M (S j).get w M' (S (j+1)).get w' (I j).ws
 stat:o7 ops.toList=true
 calm:∀x y a b,(x,y)∈oN ops.toList->ops[x]? = some a->ops[y]? = some b->Cc a b=true\/((∀k∈(I x).ws,¬oU (I y) k)/\(∀k∈(I y).ws,¬oU (I x) k))
theorem P8{P call site fl nt ops}:∀(os) (s s') (is),lU P call site fl nt ops os s=some (s',is) ->∃(S:Nat->St) (I:Nat->yH),S 0=s/\S os.length=s'/\(∀j o,os[j]? = some o->vN P call site fl nt ops o (S j) (I j) (S (j+1)))/\∀j,j<os.length->is[j]? = some (I j)
 | [],s,s',is,h=>by simp only[lU,a09,a1k]at h;obtain⟨rfl,rfl⟩:=h;exact⟨fun _=>s,fun _=>dn,rfl,rfl,by simp,by simp⟩
 |o::os,s,s',is,h=>by
  obtain⟨i,s1,is',hS,hr,rfl⟩:=DL h;obtain⟨S,I,e1,e2,e3,e4⟩:=P8 os s1 s' is' hr;refine⟨fun j=>match j with| 0=>s|j+1=>S j,fun j=>match j with| 0=>i|j+1=>I j,rfl,e2,?_,?_⟩
  .intro j o' ho;cases j with
   |zero=>simp at ho;subst ho;simp only[e1];exact hS
   |succ j=>exact e3 j o' (by simpa using ho)
  .intro j hj;cases j with
   |zero=>rfl
   |succ j=>simpa using e4 j (by simpa using hj)
theorem a6F{P call site nt ops M0 h0 w0}(hC:iM P call)(hB:xJ M0 h0 w0){s s' is M a w}(h:lU P call site h0.length nt ops ops.toList s=some (s',is)) (hR:Rel M0 h0 w0 nt M s a w) (hs:o7 ops.toList=true) (hd:Ce is (nH ops.toList)=true) :∃S I,S 0=s/\S ops.size=s'/\je P call site nt ops M0 h0 w0 S I:=by
 obtain⟨S,I,e1,e2,e3,e4⟩:=P8 _ _ _ _ h;have e3':∀j o,ops[j]? = some o->vN P call site h0.length nt ops o (S j) (I j) (S (j+1)):=fun j o ho=>e3 j o (by simpa using ho);have RF:∀j,j<=ops.size->∃M a w,Rel M0 h0 w0 nt M (S j) a w:=by
  intro j
  induction j with
  |zero=>intro _;exact⟨M,a,w,by rw[e1];exact hR⟩
  |succ j ih=>
   intro hj;obtain⟨M1,a1,w1,yD⟩:=ih (by omega);have ho:ops[j]? = some ops[j]:=a4o (by omega);obtain⟨x,w',vK⟩:=(Iz hC yD (e3' j _ ho)).1;obtain⟨M',GY⟩:=P5 hB yD (e3' j _ ho) vK;exact⟨M',_,w',GY⟩
 refine⟨S,I,e1,by simpa using e2,hB,e3',RF,?_,hs,?_⟩
 .intro j o ho;have hj:j<ops.size:=(a2I.1 ho).1;obtain⟨M1,a1,w1,yD⟩:=RF j (by omega);obtain⟨x,w',v,M',he,hp⟩:=(Iz hC yD (e3' j _ ho)).1;exact⟨M1,w1,M',w',v,he,hp.ext⟩
 .intro x y a b hp ha hb;have hx:x<ops.size:=(a2I.1 ha).1;have hy:y<ops.size:=(a2I.1 hb).1;exact a3S hd hp (by simpa using ha) (by simpa using hb) (e4 x (by simpa using hx)) (e4 y (by simpa using hy)) (e3' x a ha) (e3' y b hb)
def oW(M:Mp)(C:Ct):Mp:=fun k=>if(C k).isSome=true then M k else none
theorem dV{M C k l}(h:oW M C k=some l):(C k).isSome=true/\M k=some l:=by
 unfold oW at h;split at h
 .rename_i h1;exact⟨h1,h⟩
 cases h
theorem rX{M C k l}(hc:(C k).isSome=true)(h:M k=some l):oW M C k=some l:=by simp[oW,hc,h]
theorem zS{M M':Mp}{C C'}(hm:tZ M M')(hc:∀k,(C k).isSome=true->(C' k).isSome=true):tZ (oW M C) (oW M' C'):=by intro k l h;obtain⟨h1,h2⟩:=dV h;obtain⟨l',h3,h4⟩:=hm k l h2;exact⟨l',rX (hc k h1) h3,h4⟩
theorem a1I{M C}:tZ (oW M C) M:=fun k l h=>⟨l,(dV h).2,.refl l⟩
def Good(W D:Nat->Prop)(τ:Nat):Prop:=(∀j,D j->W j->j<τ)/\(∀j,j<τ->W j->D j)/\(τ=0\/W (τ-1))
def a6G(D:Nat->Prop)(i j:Nat):Prop:=(j<i/\¬D j)\/(i<j/\D j)
theorem Good.le{W D τ i}(h:Good W D τ)(hi:¬D i)(hn:∀j,W j->¬a6G D i j):τ<=i/\∀j,τ<=j->j<i->¬W j:=by
 obtain⟨h1,h2,h3⟩:=h;constructor
 .refine adv fun aQ=>?_;rcases h3 with rfl|h3
  .omega
  have hd:=h2 (τ-1) (by omega) h3;have iI:τ-1≠i:=fun e=>hi (e▸hd);exact hn _ h3 (.inr ⟨by omega,hd⟩)
 intro j hj hji hw;exact hn j hw (.inl ⟨hji,fun hd=>by have:=h1 j hd hw;omega⟩)
theorem Good.next{W D i}(hw:W i)(hn:∀j,W j->¬a6G D i j):Good W (fun j=>D j\/j=i) (i+1):=by
 refine⟨fun j hd hj=>?_,fun j hj Zy=>?_,.inr (by simpa using hw)⟩
 .rcases hd with hd|rfl
  .refine Nat.lt_of_not_le fun h=>hn j hj (.inr ⟨by omega,hd⟩)
  omega
 by_cases he:j=i
 .exact .inr he
 refine .inl (ade fun hd=>hn j Zy (.inl ⟨by omega,hd⟩))
theorem Good.other{W D τ i}(h:Good W D τ)(hw:¬W i):Good W (fun j=>D j\/j=i) τ:=
 ⟨fun j hd hj=>hd.elim (fun h1=>h.1 j h1 hj) (fun e=>absurd (e▸hj) hw),fun j hj Zy=>.inl (h.2.1 j hj Zy),h.2.2⟩
section
variable{P:LI1}{call:dO}{site:Nat->Bool}{nt:Nat}{ops:Array Oper}{M0:Mp}{h0:List HB}{w0:LI4}{S:Nat->St}{I:Nat->yH}
def Wk(ops:Array Oper)(S:Nat->St)(I:Nat->yH)(k:Key)(j:Nat):Prop:=∃o,ops[j]? = some o/\(k∈(I j).ws\/((S j).get k=none/\((S (j+1)).get k).isSome=true))
def Wt(ops:Array Oper)(t j:Nat):Prop:=∃o,ops[j]? = some o/\o.dst=some t
theorem je.has(hZ:je P call site nt ops M0 h0 w0 S I){j o}(ho:ops[j]? = some o){k}(hk:((S j).get k).isSome=true):((S (j+1)).get k).isSome=true:=by obtain⟨M,w,M',w',v,he,hx⟩:=hZ.fac j o ho;exact hx.has k hk
theorem je.wsub(hZ:je P call site nt ops M0 h0 w0 S I){j o}(ho:ops[j]? = some o){k}(hk:k∈(I j).ws):((S j).get k).isSome=true:=by obtain⟨M,w,M',w',v,he,hx⟩:=hZ.fac j o ho;exact hx.wsub k hk
theorem je.nX(hZ:je P call site nt ops M0 h0 w0 S I){j o}(ho:ops[j]? = some o){k}(hn:¬Wk ops S I k j):(S (j+1)).get k=(S j).get k:=by
 obtain⟨M,w,M',w',v,he,hx⟩:=hZ.fac j o ho;cases hk:(S j).get k with
 |some b=>
  rw[hx.nX k (by simp[hk]) (fun h=>hn ⟨o,ho,.inl h⟩),hk]
 |none=>
  cases oQ:(S (j+1)).get k with
  |none=>rfl
  |some b=>exact absurd ⟨o,ho,.inr ⟨hk,by simp[oQ]⟩⟩ hn
theorem je.mono(hZ:je P call site nt ops M0 h0 w0 S I){k}:∀{i j},i<=j->j<=ops.size->((S i).get k).isSome=true->((S j).get k).isSome=true:=by
 intro i j AZ
 induction AZ with
 |refl=>exact fun _ h=>h
 |step hle ih=>
  rename_i j;intro hj h;exact hZ.has (o:=ops[j]'(by simp at hj;omega)) (a4o _) (ih (by simp at hj;omega) h)
theorem je.const(hZ:je P call site nt ops M0 h0 w0 S I){k}:∀{i j},i<=j->j<=ops.size->(∀x,i<=x->x<j->¬Wk ops S I k x)->(S j).get k=(S i).get k:=by
 intro i j AZ
 induction AZ with
 |refl=>exact fun _ _=>rfl
 |step hle ih=>
  rename_i j;intro hj h;simp only[aiu]at *;rw[hZ.nX (o:=ops[j]'(by omega)) (a4o _) (h j hle (by omega))];exact ih (by omega) fun x h1 h2=>h x h1 (by omega)
theorem je.aaG(hZ:je P call site nt ops M0 h0 w0 S I){j o}(ho:ops[j]? = some o){t}(hn:¬Wt ops t j):dR t (S (j+1)).env=dR t (S j).env:=by obtain⟨M,w,M',w',v,he,hx⟩:=hZ.fac j o ho;rw[he,zO,a18 (fun h=>hn ⟨o,ho,h⟩)]
theorem je.a02(hZ:je P call site nt ops M0 h0 w0 S I){t}:∀{i j},i<=j->j<=ops.size->(∀x,i<=x->x<j->¬Wt ops t x)->dR t (S j).env=dR t (S i).env:=by
 intro i j AZ
 induction AZ with
 |refl=>exact fun _ _=>rfl
 |step hle ih=>
  rename_i j;intro hj h;simp only[aiu]at *;rw[hZ.aaG (o:=ops[j]'(by omega)) (a4o _) (h j hle (by omega))];exact ih (by omega) fun x h1 h2=>h x h1 (by omega)
theorem je.a03(hZ:je P call site nt ops M0 h0 w0 S I){b}:∀{i j},i<=j->j<=ops.size->b∈(S i).ws->b∈(S j).ws:=by
 intro i j AZ
 induction AZ with
 |refl=>exact fun _ h=>h
 |step hle ih=>
  rename_i j;intro hj h;simp only[aiu]at *;rw[(hZ.step j (ops[j]'(by omega)) (a4o _)).a1H];exact oV.2 (.inl (ih (by omega) h))
theorem je.adn(hZ:je P call site nt ops M0 h0 w0 S I){j o}(ho:ops[j]? = some o){k}(hk:k∈(I j).ws)(h0k:(lD h0 k).isSome=true):k∈(S ops.size).ws.map .h:=by obtain⟨b,rfl,hb⟩:=DK h0k;have hj:j<ops.size:=(a2I.1 ho).1;refine a1w.2 ⟨b,hZ.a03 (i:=j+1) (by omega) (a1l _) ?_,rfl⟩;rw[(hZ.step j o ho).a1H];exact oV.2 (.inr ⟨hk,hb⟩)
theorem je.old(hZ:je P call site nt ops M0 h0 w0 S I){j}(hj:j<=ops.size){k}(h0k:(lD h0 k).isSome=true):((S j).get k).isSome=true:=by obtain⟨M,a,w,hR⟩:=hZ.ok j hj;exact hR.ext.has k h0k
theorem je.mark(hZ:je P call site nt ops M0 h0 w0 S I){k}(hk:(S 0).get k=some .mark):∀j,j<=ops.size->(S j).get k=some .mark:=by
 intro j
 induction j with
 |zero=>exact fun _=>hk
 |succ j ih=>
  intro hj;obtain⟨M,w,M',w',v,he,hx⟩:=hZ.fac j ops[j] (a4o (by omega));have h1:=ih (by omega);rw[hx.nX k (by simp[h1]) (fun Gi=>by have:=(hx.wrote k Gi).2 _ h1;cases this),h1]
structure Inv(nt:Nat)(ops:Array Oper)(M0:Mp)(h0:List HB)(w0:LI4)(S:Nat->St)(I:Nat->yH)(D:Nat->Prop)(M:Mp)(a:Act)(w:LI4):Prop where
 closed:∀j o,ops[j]? = some o->D j->vO D o
 size:nt<=a.tmps.size
 mem:∀k l,M k=some l->∃τ,τ<=ops.size/\Good (Wk ops S I k) D τ/\∃b,(S τ).get k=some b/\pV (oW M (S τ).get).h w b l /\
  (wr b=true->∀k' l',k≠k'->M k'=some l'->∀c∈aI l,c∉aI l')
 inb:∀k l,M k=some l->∀c∈aI l,c<w.heap.size
 slot:∀t,∃τ,τ<=ops.size/\Good (Wt ops t) D τ/\∀e,dR t (S τ).env=some e->ER (oW M (S τ).get) e (a.tmps.getD t Go.undef)
 TI:∀j o k,ops[j]? = some o->D j->k∈(I j).ws->(M k).isSome=true
 JI:tZ M0 M
 frame:∀c,c<w0.heap.size->(∀k∈(S ops.size).ws.map Key.h,∀l,M0 k=some l->c∉aI l)->w.heap[c]? = w0.heap[c]?
 kR:∀k,((lD h0 k).isSome=true\/(S ops.size).get k=none)->k∉(S ops.size).ws.map Key.h->M k=M0 k
 fresh:∀k l,M k=some l->∀c∈aI l,c<w0.heap.size->∃l0,M0 k=some l0/\c∈aI l0
 Gf:w0.heap.size<=w.heap.size
 os:w.os=w0.os
 output:w.output=w0.output
 tape:w.tape=w0.tape
 marks:∀d∈a.defers,∃k r,d=⟨.collected r,#[]⟩/\lD h0 (.h k)=none/\(∃o,M (.h k)=some (.obj r o))/\(∀j,j<=ops.size->(S j).get (.h k)=some .mark)/\w.heap[r]? = some (.deferred (some []))
 apart:a.defers.Pairwise (·≠·)
theorem a3T(hZ:je P call site nt ops M0 h0 w0 S I){M:Mp}{a:Act}{w:LI4}(hR:Rel M0 h0 w0 nt M (S 0) a w):Inv nt ops M0 h0 w0 S I (fun _=>False) M a w where
 closed:=fun _ _ _ h=>h.elim
 size:=hR.size
 mem:=fun k l hk=>by obtain⟨b,h1,h2⟩:=hR.val.ok k l hk trivial;have hm:tZ M (oW M (S 0).get):=fun k l h=>⟨l,rX (hR.val.has h) h,.refl l⟩;exact⟨0,by omega,⟨fun _ h=>h.elim,fun _ h=>by omega,.inl rfl⟩,b,h1,h2.mono hm.h fun _ _=>rfl,fun hw k' l' iI oQ=>hR.val.own k k' l l' b iI hk oQ trivial h1 hw⟩
 inb:=hR.val.inb
 slot:=fun t=>⟨0,by omega,⟨fun _ h=>h.elim,fun _ h=>by omega,.inl rfl⟩,fun e he=>by have hm:tZ M (oW M (S 0).get):=fun k l h=>⟨l,rX (hR.val.has h) h,.refl l⟩;exact(hR.env t e he).mono hm fun k l h=>rX (hR.val.has h) h⟩
 TI:=fun _ _ _ _ h=>h.elim
 JI:=hR.ext.JI
 frame:=fun c hc hf=>hR.ext.frame c hc fun k hk l hl=>by obtain⟨b,hb,rfl⟩:=a1w.1 hk;exact hf _ (a1w.2 ⟨b,hZ.a03 (a5U _) (a1l _) hb,rfl⟩) l hl
 kR:=fun k hk hn=>by
  refine hR.ext.kR k (hk.imp id fun h=>?_) (fun h=>hn ?_)
  .cases hc:(S 0).get k with
   |none=>rfl
   |some b=>have:=hZ.mono (k:=k) (a5U _) (a1l _) (by simp[hc]);simp[h]at this
  .obtain⟨b,hb,rfl⟩:=a1w.1 h;exact a1w.2 ⟨b,hZ.a03 (a5U _) (a1l _) hb,rfl⟩
 fresh:=hR.ext.fresh
 Gf:=hR.ext.size
 os:=hR.ext.os
 output:=hR.ext.output
 tape:=hR.ext.tape
 marks:=fun d hd=>by obtain⟨k,r,h1,h2,h3,h4,h5⟩:=hR.marks d hd;exact⟨k,r,h1,h2,h3,hZ.mark h4,h5⟩
 apart:=hR.apart
theorem Wk.lt{k j}(h:Wk ops S I k j):j<ops.size:=by obtain⟨o,ho,_⟩:=h;exact(a2I.1 ho).1
theorem a1J(hZ:je P call site nt ops M0 h0 w0 S I){D M a w}(h:Inv nt ops M0 h0 w0 S I D M a w)(hD:∀j,j<ops.size->D j):Rel M0 h0 w0 nt M (S ops.size) a w:=by
 have key:∀k l,M k=some l->∃b,(S ops.size).get k=some b/\pV M.h w b l/\(wr b=true->∀k' l',k≠k'->M k'=some l'->∀c∈aI l,c∉aI l'):=by intro k l hk;obtain⟨τ,ht,hg,b,h1,h2,h3⟩:=h.mem k l hk;refine⟨b,?_,h2.mono a1I.h fun _ _=>rfl,h3⟩;rw[hZ.const ht (a1l _) fun x h4 h5 hw=>?_,h1];have:=hg.1 x (hD x h5) hw;omega
 refine⟨⟨?_,?_,h.inb⟩,?_,?_,h.size,fun d hd=>by obtain⟨k,r,h1,h2,h3,h4,h5⟩:=h.marks d hd;exact⟨k,r,h1,h2,h3,h4 _ (a1l _),h5⟩,h.apart⟩
 .intro k l hk _;obtain⟨b,h1,h2,_⟩:=key k l hk;exact⟨b,h1,h2⟩
 .intro k k' l l' b iI hk oQ _ hb hw;obtain⟨b',h1,_,h3⟩:=key k l hk;rw[hb]at h1;cases h1;exact h3 hw k' l' iI oQ
 .obtain⟨M',a',w',GY⟩:=hZ.ok ops.size (a1l _);exact⟨h.JI,h.frame,GY.ext.nX,h.kR,h.fresh,h.Gf,GY.ext.has,GY.ext.wsub,GY.ext.wrote,h.os,h.output,h.tape⟩
 intro t e he;obtain⟨τ,ht,hg,h1⟩:=h.slot t;rw[hZ.a02 ht (a1l _) fun x h4 h5 hw=>by have:=hg.1 x (hD x h5) hw;omega]at he;exact(h1 e he).mono a1I fun k l hk=>(dV hk).2
theorem Kq{a b}(h:Cc a b=true):∃t m k,a.op=.lookup t (.tmp m) (.tmp k) false/\b.op=.mapEntry t (.tmp m) (.tmp k)/\a.guard=none/\b.guard=none:=by
 unfold Cc at h;split at h
 .rename_i h1 h2 h3 h4;simp only[a2n,a6x]at h;obtain⟨⟨rfl,rfl⟩,rfl⟩:=h;exact⟨_,_,_,h1,h2,h3,h4⟩
 cases h
theorem aaH(hZ:je P call site nt ops M0 h0 w0 S I){x a b}(ha:ops[x]? = some a)(h:Cc a b=true):(I x).ws=[]:=by obtain⟨t,m,k,e,_⟩:=Kq h;exact(hZ.step x a ha).w (by rw[e];rfl)
theorem Inv.conf(hZ:je P call site nt ops M0 h0 w0 S I){D M a w}(h:Inv nt ops M0 h0 w0 S I D M a w){i j oi oj}(hi:ops[i]? = some oi)(hj:ops[j]? = some oj)(jD:¬D i) (hw:vO D oi) (hc:a6G D i j):((i<j/\Cc oi oj=true)\/∀k∈(I j).ws,¬oU (I i) k)/\oj.apart ops oi=true/\oi.apart ops oj=true:=by
 have nP:∀j o,ops.toList[j]? = some o->D j->vO D o:=fun j o ho=>h.closed j o (by simpa using ho);have wS:ops.toList[i]? = some oi:=by simpa using hi
 have EM:ops.toList[j]? = some oj:=by simpa using hj
 have li:i<ops.toList.length:=(a0x.1 wS).1;have lj:j<ops.toList.length:=(a0x.1 EM).1;rcases hc with⟨aQ,hd⟩|⟨aQ,hd⟩
 .have hp:=zA aQ li fun Gi=>hd (Vk nP i oi wS hw j Gi);have h1:=hZ.calm j i oj oi hp hj hi;have h2:=Ba hZ.stat hp EM wS;refine⟨.inr ?_,h2.1,h2.2⟩;rcases h1 with h1|h1
  .rw[aaH hZ hj h1];intro k hk;cases hk
  .exact h1.1
 .have hp:=zA aQ lj fun Gi=>jD (Vk nP j oj EM (nP j oj EM hd) i Gi);have h1:=hZ.calm i j oi oj hp hi hj;have h2:=Ba hZ.stat hp wS EM;exact⟨h1.imp (fun h=>⟨aQ,h⟩) fun h=>h.2,h2.2,h2.1⟩
variable{D:Nat->Prop}{M:Mp}{a:Act}{w:LI4}{i:Nat}{oi:Oper}
theorem Inv.Bc(hZ:je P call site nt ops M0 h0 w0 S I)(h:Inv nt ops M0 h0 w0 S I D M a w){j o}(hj:ops[j]? = some o)(hd:¬D j){k}(h1:(S j).get k=none)(h2:((S (j+1)).get k).isSome=true):M k=none:=by
 cases hm:M k with
 |none=>rfl
 |some l=>
  obtain⟨τ,ht,hg,b,h3,_⟩:=h.mem k l hm;have hlj:j<ops.size:=(a2I.1 hj).1;by_cases hle:τ<=j
  .have:=hZ.mono hle (by omega) (k:=k) (by simp[h3]);simp[h1]at this
  exact absurd (hg.2.1 j (by omega) ⟨o,hj,.inr ⟨h1,h2⟩⟩) hd
theorem Inv.a6H(hZ:je P call site nt ops M0 h0 w0 S I)(h:Inv nt ops M0 h0 w0 S I D M a w)(hi:ops[i]? = some oi)(jD:¬D i)(hw:vO D oi)(hns:∀o,Cc oi o=false){k l}(hk:M k=some l)(hs:((S i).get k).isSome=true) (ht:oU (I i) k):∀j,Wk ops S I k j->¬a6G D i j:=by
 intro j hwk hc;have hlj:=hwk.lt;obtain⟨oj,hj,h1|⟨h1,h2⟩⟩:=hwk
 .exact(h.conf hZ hi hj jD hw hc).1.resolve_left (fun h=>by have:=hns oj;rw[h.2]at this;cases this) k h1 ht
 .rcases hc with⟨aQ,hd⟩|⟨aQ,hd⟩
  .have:=h.Bc hZ hj hd h1 h2;rw[hk]at this;cases this
  .have:=hZ.mono (k:=k) (aas aQ) (by omega) hs;simp[h1]at this
theorem Inv.cur(hZ:je P call site nt ops M0 h0 w0 S I)(h:Inv nt ops M0 h0 w0 S I D M a w)(hi:ops[i]? = some oi)(jD:¬D i)(hw:vO D oi)(hns:∀o,Cc oi o=false){k l}(hk:M k=some l)(hs:((S i).get k).isSome=true) (ht:oU (I i) k):∃b,(S i).get k=some b/\pV (oW M (S i).get).h w b l/\(wr b=true->∀k' l',k≠k'->M k'=some l'->∀c∈aI l,c∉aI l'):=by
 have hli:i<ops.size:=(a2I.1 hi).1;obtain⟨τ,hτ,hg,b,h1,h2,h3⟩:=h.mem k l hk;obtain⟨g1,g2⟩:=hg.le jD (h.a6H hZ hi jD hw hns hk hs ht);refine⟨b,?_,h2.mono (zS (.refl M) fun k' oQ=>hZ.mono g1 (by omega) oQ).h fun _ _=>rfl,h3⟩;rw[hZ.const g1 (by omega) g2,h1]
theorem Inv.NS(hZ:je P call site nt ops M0 h0 w0 S I)(h:Inv nt ops M0 h0 w0 S I D M a w)(hi:ops[i]? = some oi)(jD:¬D i)(hw:vO D oi){t:Nat}(ht:t∈oi.looksAt ops){e}(he:dR t (S i).env=some e):ER (oW M (S i).get) e (a.tmps.getD t Go.undef):=by
 have hli:i<ops.size:=(a2I.1 hi).1;obtain⟨τ,hτ,hg,h1⟩:=h.slot t;obtain⟨g1,g2⟩:=hg.le jD fun j hwt hc=>by obtain⟨oj,hj,hd⟩:=hwt;exact(Oper.apart_spec (h.conf hZ hi hj jD hw hc).2.1).1 t hd ht
 rw[hZ.a02 g1 (by omega) g2]at he;exact(h1 e he).mono (zS (.refl M) fun k' oQ=>hZ.mono g1 (by omega) oQ) fun k l hk=>by obtain⟨x1,x2⟩:=dV hk;exact rX (hZ.mono g1 (by omega) x1) x2
def mW(M' M:Mp):Mp:=fun k=>match M' k with
 |some l=>some l
 |none=>M k
theorem a3V(hC:iM P call)(hZ:je P call site nt ops M0 h0 w0 S I)(h:Inv nt ops M0 h0 w0 S I D M a w)(hi:ops[i]? = some oi)(jD:¬D i)(hw:vO D oi)(hns:∀o,Cc oi o=false){r n Q K} (hK:∀M' a' w',Inv nt ops M0 h0 w0 S I (fun j=>D j\/j=i) M' a' w'->a'.defers=a.defers->K a' w') :wpOpIn (og r) n P ops Q i K a w:=by
 have hli:i<ops.size:=(a2I.1 hi).1;have hS:=hZ.step i oi hi;have hV:Valid (oW M (S i).get) (oU (I i)) (S i).get w:=by
  refine⟨fun k l hk ht=>?_,fun k k' l l' b iI hk oQ ht hb V7=>?_,fun k l hk=>h.inb k l (dV hk).2⟩
  .obtain⟨x1,x2⟩:=dV hk;obtain⟨b,h1,h2,_⟩:=h.cur hZ hi jD hw hns x2 x1 ht;exact⟨b,h1,h2⟩
  .obtain⟨x1,x2⟩:=dV hk;obtain⟨b',h1,_,h3⟩:=h.cur hZ hi jD hw hns x2 x1 ht;rw[hb]at h1;cases h1;exact h3 V7 k' l' iI (dV oQ).2
 have zL:oW M (S i).get (.h (S i).heap.length)=none:=by simp[oW,St.get]
 have hnl:oW M (S i).get (.l (S i).loc.length)=none:=by simp[oW,St.get]
 have vM:∀j l,oW M (S i).get (.l j)=some l->∀k' l',Key.l j≠k'->oW M (S i).get k'=some l'->∀c∈aI l,c∉aI l':=by intro j l hj k' l' iI oQ;obtain⟨τ,_,_,b,h1,_,h3⟩:=h.mem _ _ (dV hj).2;refine h3 ?_ k' l' iI (dV oQ).2;simp only[St.get,a0A]at h1;obtain⟨_,_,rfl⟩:=h1;rfl
 have hE:Io (oW M (S i).get) (S i).env a oi.op.operands:=by
  intro x hx e he;cases x with
  |tmp t=>exact h.NS hZ hi jD hw (a6l _ (a6u.2 ⟨.tmp t,by simpa using hx,rfl⟩)) he
  |const v=>
   simp only[JH,a0A]at he;obtain⟨t,h1,rfl⟩:=he;exact .val (.zl h1)
  |func f=>
   simp only[JH,a09]at he;subst he;exact .val (VR.fn (xs:=[]) (ys:=[]) rfl (by simp) rfl (by simp))
  |global g=>simp[JH]at he
 have hG:NQ (oW M (S i).get) (S i).env a.tmps ops oi:=by intro j want d hg hd e he;exact h.NS hZ hi jD hw (abS _ (by simp[hg,hd])) he
 refine(a1F hC hS hV zL hnl vM hE hG fun _ ht _=>ht).2 r n Q i K hi fun x w' vK=>?_;obtain⟨v,M',he,hp⟩:=vK;have hX:=hp.ext;have F1:∀k l,M' k=some l->((S (i+1)).get k).isSome=true:=by
  intro k l hk;cases hc:(S (i+1)).get k with
  |some b=>rfl
  |none=>
   have hn:k∉(I i).ws:=fun Gi=>by have:=hX.has k (hX.wsub k Gi);simp[hc]at this
   have:=hX.kR k (.inr hc) hn;rw[hk]at this;have:=hX.has k (dV this.symm).1;simp[hc]at this
 have F5:∀k l l',M k=some l->M' k=some l'->((S i).get k).isSome=true:=by
  intro k l l' hk oQ;cases hc:(S i).get k with
  |some b=>rfl
  |none=>
   have:=h.Bc hZ hi jD hc (F1 k l' oQ);rw[hk]at this;cases this
 have F4:tZ M (mW M' M):=by
  intro k l hk;cases hm:M' k with
  |none=>exact⟨l,by simp[mW,hm,hk],.refl l⟩
  |some l'=>
   obtain⟨l'',h1,h2⟩:=hX.JI k l (rX (F5 k l l' hk hm) hk);exact⟨l'',by simp[mW,h1],h2⟩
 have F2:∀k,¬Wk ops S I k i->mW M' M k=M k:=by
  intro k hn;cases hm:M' k with
  |none=>simp[mW,hm]
  |some l'=>
   cases hc:(S i).get k with
   |none=>
    exact absurd ⟨oi,hi,.inr ⟨hc,F1 k l' hm⟩⟩ hn
   |some b=>
    have h1:=hX.kR k (.inl (by simp[hc])) fun Gi=>hn ⟨oi,hi,.inl Gi⟩;rw[hm]at h1;simp only[mW,hm,(dV h1.symm).2]
 have F6:tZ M' (oW (mW M' M) (S (i+1)).get):=fun k l hk=>⟨l,rX (F1 k l hk) (by simp[mW,hk]),.refl l⟩;have F7:∀k l,M (.l k)=some l->mW M' M (.l k)=some l:=by
  intro k l hk;cases hm:M' (.l k)with
  |none=>simp[mW,hm,hk]
  |some l'=>
   have:=hp.loc k l (rX (F5 _ l l' hk hm) hk);simp[mW,this]
 have a6J:∀k∈(I i).ws,∀l,M k=some l->∀k' l',k≠k'->M k'=some l'->∀c∈aI l,c∉aI l':=by intro k hk l hl;have hs:=hX.wsub k hk;obtain⟨b,h1,_,h3⟩:=h.cur hZ hi jD hw hns hl hs (.inr (.inl hk));exact h3 ((hX.wrote k hk).2 b h1)
 have hWM:∀k l,Wk ops S I k i->mW M' M k=some l->M' k=some l/\(oU (I i) k\/((S i).get k=none/\((S (i+1)).get k).isSome=true)):=by
  intro k l hW hk;obtain⟨o,ho,h1|⟨h1,h2⟩⟩:=hW
  .obtain⟨l0,qW⟩:=a5Z.1 (hX.wrote k h1).1;obtain⟨l',h2,_⟩:=hX.JI k l0 qW;simp only[mW,h2]at hk;exact⟨h2.trans hk,.inl (.inr (.inl h1))⟩
  .have:=h.Bc hZ hi jD h1 h2;cases hm:M' k with
   |none=>simp[mW,hm,this]at hk
   |some l'=>simp only[mW,hm]at hk;exact⟨hk,.inr ⟨h1,h2⟩⟩
 have apC:∀k,Wk ops S I k i->∀j,Wk ops S I k j->¬a6G D i j:=by
  intro k hW;obtain⟨o,ho,h1|⟨h1,h2⟩⟩:=hW
  .obtain⟨l0,qW⟩:=a5Z.1 (hX.wrote k h1).1;exact h.a6H hZ hi jD hw hns (dV qW).2 (hX.wsub k h1) (.inr (.inl h1))
  .intro j hwk hc;have hlj:=hwk.lt;obtain⟨oj,hj,g1|⟨g1,g2⟩⟩:=hwk
   .have hsj:=hZ.wsub hj g1;rcases hc with⟨aQ,hd⟩|⟨aQ,hd⟩
    .have:=hZ.mono (k:=k) (aas aQ) (by omega) hsj;simp[h1]at this
    .have:=h.TI j oj k hj hd g1;rw[h.Bc hZ hi jD h1 h2]at this;cases this
   .rcases hc with⟨aQ,hd⟩|⟨aQ,hd⟩
    .have:=hZ.mono (k:=k) (i:=j+1) (j:=i) aQ (by omega) g2;simp[h1]at this
    .have:=hZ.mono (k:=k) (i:=i+1) (j:=j) aQ (by omega) h2;simp[g1]at this
 refine hK (mW M' M) _ w' ?_ jX;refine
  {closed:=fun j o ho hd e hm hb=>?_
   size:=by rw[Iy];exact h.size
   mem:=fun k l hk=>?_
   inb:=fun k l hk c hc=>?_
   slot:=fun t=>?_
   TI:=fun j o k ho hd hk=>?_
   JI:=h.JI.trans F4
   frame:=fun c hc hf=>?_
   kR:=fun k hk hn=>?_
   fresh:=fun k l hk c hc aQ=>?_
   Gf:=a5Y h.Gf hX.size
   os:=hX.os.trans h.os
   output:=hX.output.trans h.output
   tape:=hX.tape.trans h.tape
   marks:=fun d hd=>by
    rw[jX]at hd;obtain⟨k,r,h1,h2,⟨o,h3⟩,h4,h5⟩:=h.marks d hd;obtain⟨l',g1,g2⟩:=F4 _ _ h3;obtain⟨o',hl⟩:∃o',l'=.obj r o':=by
     cases l' with
     |cells ls=>exact g2.elim
     |obj r' o'=>cases g2.1;exact⟨o',rfl⟩
    refine⟨k,r,h1,h2,⟨o',by rw[g1,hl]⟩,h4,?_⟩;rw[hX.frame r (a2I.1 h5).1 fun k' oQ l0 qW hc=>?_,h5];have iI:k'≠.h k:=fun e=>by have:=(hX.wrote _ oQ).2 _ (e▸h4 i (by omega));cases this
    exact a6J k' oQ l0 (dV qW).2 _ _ iI h3 r hc (by simp[aI])
   apart:=by rw[jX];exact h.apart }
 .rcases hd with hd|rfl
  .exact .inl (h.closed j o ho hd e hm hb)
  .rw[hi]at ho;cases ho;exact .inl (hw e hm hb)
 .by_cases hW:Wk ops S I k i
  .obtain⟨hm,hD⟩:=hWM k l hW hk;obtain⟨b,h1,h2⟩:=hp.val.ok k l hm hD;refine⟨i+1,by omega,Good.next hW (apC k hW),b,h1,h2.mono F6.h fun _ _=>rfl,fun V7 k' l' iI oQ=>?_⟩;cases hm':M' k' with
   |some l''=>
    simp only[mW,hm']at oQ;cases oQ;exact hp.val.own k k' l l' b iI hm hm' hD h1 V7
   |none=>
    simp only[mW,hm']at oQ;intro c hc Xc;obtain⟨l0,g1,g2⟩:=hX.fresh k l hm c hc (h.inb k' l' oQ c Xc);obtain⟨g3,g4⟩:=dV g1;obtain⟨o,ho,g5|⟨g5,_⟩⟩:=hW
    .exact a6J k g5 l0 g4 k' l' iI oQ c g2 Xc
    .simp[g5]at g3
  .rw[F2 k hW]at hk;obtain⟨τ,hτ,hg,b,h1,h2,h3⟩:=h.mem k l hk;refine⟨τ,hτ,hg.other hW,b,h1,h2.mono (zS F4 fun _ hs=>hs).h fun c hc=>?_,fun V7 k' l' iI oQ=>?_⟩
   .refine hX.frame c (h.inb k l hk c hc) fun k'' ajx l'' apD apE=>?_;have iI:k''≠k:=fun e=>hW ⟨oi,hi,.inl (e▸ajx)⟩;exact a6J k'' ajx l'' (dV apD).2 k l iI hk c apE hc
   .cases hm':M' k' with
    |some l''=>
     simp only[mW,hm']at oQ;cases oQ;intro c hc Xc;obtain⟨l0,g1,g2⟩:=hX.fresh k' l' hm' c Xc (h.inb k l hk c hc);exact h3 V7 k' l0 iI (dV g1).2 c hc g2
    |none=>
     simp only[mW,hm']at oQ;exact h3 V7 k' l' iI oQ
 .cases hm:M' k with
  |some l'=>
   simp only[mW,hm]at hk;cases hk;exact hp.val.inb k l hm c hc
  |none=>
   simp only[mW,hm]at hk;exact aar (h.inb k l hk c hc) hX.size
 .by_cases hT:oi.dst=some t
  .refine⟨i+1,by omega,Good.next (W:=Wt ops t) ⟨oi,hi,hT⟩ (fun j hwt hc=>?_),fun e hl=>?_⟩
   .obtain⟨oj,hj,hd⟩:=hwt;exact(Oper.apart_spec (h.conf hZ hi hj jD hw hc).2.2).2.1 t hT hd
   .rw[he,zO,a1e hT]at hl;cases hl;have h1:=hS.dst hT;have h2:=h.size;rw[zQ,a1e ⟨hT,by omega⟩];exact hp.er.mono F6 fun k l hk=>rX (F1 _ l hk) (by simp[mW,hk])
  .obtain⟨τ,hτ,hg,h1⟩:=h.slot t;refine⟨τ,hτ,hg.other fun⟨o,ho,hd⟩=>?_,fun e hl=>?_⟩
   .rw[hi]at ho;cases ho;exact hT hd
   .rw[zQ,a18 fun hh=>hT hh.1];refine(h1 e hl).mono (zS F4 fun _ hs=>hs) fun k l hk=>?_;obtain⟨g1,g2⟩:=dV hk;exact rX g1 (F7 k l g2)
 .have hM:∀k,(M k).isSome=true->(mW M' M k).isSome=true:=by intro k hk;obtain⟨l,hl⟩:=a5Z.1 hk;obtain⟨l',h1,_⟩:=F4 k l hl;simp[h1]
  rcases hd with hd|rfl
  .exact hM k (h.TI j o k ho hd hk)
  .obtain⟨l0,qW⟩:=a5Z.1 (hX.wrote k hk).1;exact hM k (by simp[(dV qW).2])
 .rw[<-h.frame c hc hf];refine hX.frame c (aar hc h.Gf) fun k hk l hl nP=>?_;obtain⟨l0,h1,h2⟩:=h.fresh k l (dV hl).2 c nP hc;exact hf k (hZ.adn hi hk (hZ.base.val.has h1)) l0 h1 h2
 .rw[<-h.kR k hk hn];refine F2 k fun hW=>?_;obtain⟨o,ho,h1|⟨h1,h2⟩⟩:=hW
  .rcases hk with hk|hk
   .exact hn (hZ.adn hi h1 hk)
   .have:=hZ.mono (k:=k) (i:=i) (aas hli) (a1l _) (hX.wsub k h1);simp[hk]at this
  .rcases hk with hk|hk
   .have:=hZ.old (aas hli) hk;simp[h1]at this
   .have:=hZ.mono (k:=k) (i:=i+1) hli (a1l _) h2;simp[hk]at this
 .cases hm:M' k with
  |some l'=>
   simp only[mW,hm]at hk;cases hk;obtain⟨l0,h1,h2⟩:=hX.fresh k l hm c hc (aar aQ h.Gf);exact h.fresh k l0 (dV h1).2 c h2 aQ
  |none=>
   simp only[mW,hm]at hk;exact h.fresh k l hk c hc aQ
def V6(listed:Array Bool):Nat->Nat
 | 0=>0
 |k+1=>V6 listed k+if listed.getD k false=true then 0 else 1
theorem a3X{t m k v e s s1 inf}(he:Dv P t s m k=some (e,s1,inf))(hl:iC P t s.heap m k false=some v):iC P t s1.heap m k false=some v/\∃a x,v=.int a x:=by
 unfold Dv at he;split at he
 .split at he
  .rename_i hk;cases he;unfold a1m at hk;rw[hl]at hk;split at hk
   .rename_i h1 h2;cases h1;simp only[a2n,a1x,a6x]at hk;obtain⟨rfl,rfl⟩:=hk;exact⟨h2,_,_,rfl⟩
   cases hk
  cases he
 cases he
theorem Vl{t r k h h'}(e:h'[r]? = h[r]?):iC P t h' (.map r) k false=iC P t h (.map r) k false:=by unfold iC;simp only[e]
theorem Inv.a1K(hZ:je P call site nt ops M0 h0 w0 S I)(h:Inv nt ops M0 h0 w0 S I D M a w)(hi:ops[i]? = some oi)(jD:¬D i)(hw:vO D oi){x ox}(hx:ops[x]? = some ox)(hix:i<x)(hdx:D x){t:Nat}(ht:t∈oi.looksAt ops) (ht2:t∈ox.looksAt ops):dR t (S x).env=dR t (S i).env:=by
 have hlx:x<ops.size:=(a2I.1 hx).1;refine hZ.a02 (aas hix) (aas hlx) fun y h1 h2 hwt=>?_;obtain⟨oy,hy,hd⟩:=hwt;have GN:ops.toList[x]? = some ox:=by simpa using hx
 have hy':ops.toList[y]? = some oy:=by simpa using hy
 have nP:∀j o,ops.toList[j]? = some o->D j->vO D o:=fun j o ho=>h.closed j o (by simpa using ho);by_cases Gi:y∈Xy ops.toList x
 .have hdy:=Vk nP x ox GN (nP x ox GN hdx) y Gi;have iI:i<y:=by
   rcases a4W i y with h3|h3
   .exact h3
   .have:y=i:=(by omega);subst this;exact absurd hdy jD
  exact(Oper.apart_spec (h.conf hZ hi hy jD hw (.inr ⟨iI,hdy⟩)).2.1).1 t hd ht
 .have hp:=zA h2 (by simpa using hlx) Gi;have:=(Ba hZ.stat hp hy' GN).1;rw[show ops.toList.toArray=ops by simp]at this;exact(Oper.apart_spec this).1 t hd ht2
theorem NT{t}{m k:Nat}(jy:oi.op=.lookup t (.tmp m) (.tmp k) false):m∈oi.looksAt ops/\k∈oi.looksAt ops:=by
 constructor
 .exact a6l _ (a6u.2 ⟨.tmp m,by simp[jy,Op.operands],rfl⟩)
 exact a6l _ (a6u.2 ⟨.tmp k,by simp[jy,Op.operands],rfl⟩)
theorem XA{ox:Oper}{t}{m k:Nat}(jy:ox.op=.mapEntry t (.tmp m) (.tmp k)):m∈ox.looksAt ops/\k∈ox.looksAt ops:=by
 constructor
 .exact a6l _ (a6u.2 ⟨.tmp m,by simp[jy,Op.operands],rfl⟩)
 exact a6l _ (a6u.2 ⟨.tmp k,by simp[jy,Op.operands],rfl⟩)
theorem a1L{env}{m:Nat}{v}(h:rJ env (.tmp m)=some v):dR m env=some (.val v):=by
 unfold rJ at h;split at h
 .rename_i x hx;cases h;exact hx
 cases h
theorem a6K{env env' m}(h:dR m env=dR m env'):rJ env (.tmp m)=rJ env' (.tmp m):=by unfold rJ JH;simp only[h]
theorem Inv.chain(hZ:je P call site nt ops M0 h0 w0 S I)(h:Inv nt ops M0 h0 w0 S I D M a w)(hi:ops[i]? = some oi)(jD:¬D i)(hw:vO D oi){t}{m k r τ x:Nat}{kv z ox}(jy:oi.op=.lookup t (.tmp m) (.tmp k) false)(e1:rJ (S i).env (.tmp m)=some (.map r)) (e2:rJ (S i).env (.tmp k)=some kv) (hs:((S i).get (.h r)).isSome=true) (hg:Good (Wk ops S I (.h r)) D τ) (hwk:Wk ops S I (.h r) x) (hix:i<=x) (hxτ:x<τ) (GV:x<ops.size) (a6L:oU (I i) (.h r))(ih:iC P t (S x).heap (.map r) kv false=some z) (hx:ops[x]? = some ox):iC P t (S (x+1)).heap (.map r) kv false=some z/\∃a b,z=.int a b:=by
 have hdx:=hg.2.1 x hxτ hwk;have iI:i<x:=by
  rcases a4W i x with h3|h3
  .exact h3
  .have:x=i:=(by omega);subst this;exact absurd hdx jD
 obtain⟨oy,hy,g1|⟨g1,_⟩⟩:=hwk
 .rw[hx]at hy;cases hy;rcases(h.conf hZ hi hx jD hw (.inr ⟨iI,hdx⟩)).1 with⟨_,h6⟩|h6
  .obtain⟨t',m',k',p1,p2,p3,p4⟩:=Kq h6;rw[jy]at p1;cases p1;have hm:=h.a1K hZ hi jD hw hx iI hdx (NT (ops:=ops) jy).1 (XA (ops:=ops) p2).1;have hk:=h.a1K hZ hi jD hw hx iI hdx (NT (ops:=ops) jy).2 (XA (ops:=ops) p2).2;obtain⟨_,⟨_,v,s1,q1,q2⟩|⟨q1,_⟩⟩:=hZ.step x ox hx
   .simp only[pU,p2,a6K hm,a6K hk,e1,e2]at q1;have:=a3X q1 ih;rw[q2];have e5:(St.put { s1 with ws:=kM h0.length (I x).ws (S x).ws } ox.dst v).heap=s1.heap:=by cases ox.dst<;>rfl
    rw[e5];exact this
   .unfold Dw at q1;rw[p4]at q1;cases q1
  .exact absurd a6L (h6 _ g1)
 .have:=hZ.mono hix (by omega) hs;rw[g1]at this;cases this
theorem Inv.look(hZ:je P call site nt ops M0 h0 w0 S I)(h:Inv nt ops M0 h0 w0 S I D M a w)(hi:ops[i]? = some oi)(jD:¬D i)(hw:vO D oi){t}{m k:Nat}(jy:oi.op=.lookup t (.tmp m) (.tmp k) false){mv kv z} (e1:rJ (S i).env (.tmp m)=some mv) (e2:rJ (S i).env (.tmp k)=some kv) (e3:iC P t (S i).heap mv kv false=some z) (e4:∀r,mv=.map r->I i=fU [.h r]) :∃x,(Instr.lookup t (a.tmps.getD m Go.undef) (a.tmps.getD k Go.undef) false).run P w=.ok x w/\VR (oW M (S i).get).h z x:=by
 have hli:i<ops.size:=(a2I.1 hi).1;have am:VR (oW M (S i).get).h mv (a.tmps.getD m Go.undef):=by have:=h.NS hZ hi jD hw (NT (ops:=ops) jy).1 (a1L e1);cases this;assumption
 have ak:VR (oW M (S i).get).h kv (a.tmps.getD k Go.undef):=by have:=h.NS hZ hi jD hw (NT (ops:=ops) jy).2 (a1L e2);cases this;assumption
 have plain:(∀r,mv≠.map r)->∃x,(Instr.lookup t (a.tmps.getD m Go.undef) (a.tmps.getD k Go.undef) false).run P w=.ok x w/\VR (oW M (S i).get).h z x:=fun hm=>by
  have hV:Valid (oW M (S i).get) (fun _=>False) (S i).get w:=⟨fun _ _ _ h=>h.elim,fun _ _ _ _ _ _ _ _ h=>h.elim,fun k l hk=>h.inb k l (dV hk).2⟩;obtain⟨x,g1,g2⟩:=ET hV e3 am ak fun j hj=>by
   split at hj
   .exact absurd rfl (hm _)
   .cases hj
  exact⟨x,g2,g1⟩
 by_cases a6r:∃r,mv=.map r
 case neg=>exact plain fun r e=>a6r ⟨r,e⟩
 obtain⟨r,rfl⟩:=a6r;have e4:I i=fU [.h r]:=e4 r rfl;have a6L:oU (I i) (.h r):=by rw[e4];exact .inl (by simp[fU])
 generalize hX:a.tmps.getD m Go.undef=X at am ⊢;cases am with
 |map hr=>
  rename_i r1 o;have hr:oW M (S i).get (.h r)=some (.obj r1 o):=hr;obtain⟨hs,hM⟩:=dV hr;obtain⟨τ,hτ,hg,b,h1,h2,h3⟩:=h.mem _ _ hM;have own:∀{N:Mp},(∀k l,N k=some l->M k=some l)->∀(C:Ct) (bb:HB),C (.h r)=some bb->(wr bb=true->wr b=true)->pV N.h w bb (.obj r1 o)->N (.h r)=some (.obj r1 o)->Valid N (fun k=>k=.h r) C w:=fun{N} hN C bb hb V7 RF hNr=>
   ⟨fun k l hk e=>by subst e;rw[hNr]at hk;cases hk;exact⟨bb,hb,RF⟩,fun k k' l l' b' iI hk oQ e qZ hwb=>by subst e;rw[hNr]at hk;cases hk;rw[hb]at qZ;cases qZ;exact h3 (V7 hwb) k' l' iI (hN _ _ oQ),fun k l hk=>h.inb k l (hN _ _ hk)⟩
  by_cases hτi:τ<=i
  .have hb:(S i).get (.h r)=some b:=by
    rw[hZ.const hτi (aas hli) fun x h4 h5 hwk=>?_,h1];obtain⟨ox,hx,g1|⟨g1,g2⟩⟩:=hwk
    .have hnx:¬D x:=fun hd=>by have:=hg.1 x hd ⟨ox,hx,.inl g1⟩;omega
     rcases(h.conf hZ hi hx jD hw (.inl ⟨h5,hnx⟩)).1 with⟨h6,_⟩|h6
     .omega
     .exact h6 _ g1 a6L
    .have:=hZ.mono (k:=.h r) h4 (by omega) (by rw[h1];rfl);rw[g1]at this;cases this
   have hV:=own (N:=oW M (S i).get) (fun k l hk=>(dV hk).2) (S i).get b hb id (h2.mono (zS (.refl M) fun k' oQ=>hZ.mono hτi (by omega) oQ).h fun _ _=>rfl) hr;obtain⟨x,g1,g2⟩:=ET hV e3 (.map hr) ak fun j hj=>(by simpa using hj);exact⟨x,g2,g1⟩
  .have chain:∀x,i<=x->x<=τ->iC P t (S x).heap (.map r) kv false=some z:=by
    intro x hix
    induction hix with
    |refl=>exact fun _=>e3
    |step hle ih=>
     rename_i x;intro hxτ;have hxτ:x<τ:=hxτ;have ih:=ih (by omega);have hx:=a4o (xs:=ops) (i:=x) (by omega);by_cases hwk:Wk ops S I (.h r) x
     .obtain⟨l1,l2⟩:=h.chain hZ hi jD hw jy e1 e2 hs hg hwk hle hxτ (by omega) a6L ih hx;exact l1
     .rw[Vl (h:=(S x).heap) (hZ.nX hx hwk)];exact ih
   obtain⟨a1,a2,hz⟩:∃a1 a2,z=.int a1 a2:=by
    rcases hg.2.2 with h4|h4
    .omega
    .have hx:=a4o (xs:=ops) (i:=τ-1) (by omega);exact(h.chain hZ hi jD hw jy e1 e2 hs hg h4 (by omega) (by omega) (by omega) a6L (chain (τ-1) (by omega) (by omega)) hx).2
   have le:tZ (oW M (S i).get) (oW M (S τ).get):=zS (.refl M) fun k' oQ=>hZ.mono (by omega) hτ oQ;have xK:oW M (S τ).get (.h r)=some (.obj r1 o):=rX (by rw[h1];rfl) hM;have hV:=own (N:=oW M (S τ).get) (fun k l hk=>(dV hk).2) (S τ).get b h1 id h2 xK;obtain⟨x,g1,g2⟩:=ET hV (chain τ (by omega) (a1l _)) (.map xK) (ak.mono le.h) fun j hj=>(by simpa using hj);subst hz;refine⟨x,g2,?_⟩;cases g1;exact .int _ _
 |_=>exact absurd rfl ‹_›
theorem a6M(hC:iM P call)(hZ:je P call site nt ops M0 h0 w0 S I)(h:Inv nt ops M0 h0 w0 S I D M a w)(hi:ops[i]? = some oi)(jD:¬D i)(hw:vO D oi){r n Q K} (hK:∀M' a' w',Inv nt ops M0 h0 w0 S I (fun j=>D j\/j=i) M' a' w'->a'.defers=a.defers->K a' w') :wpOpIn (og r) n P ops Q i K a w:=by
 by_cases hl:∃t m k,oi.op=.lookup t (.tmp m) (.tmp k) false/\oi.guard=none
 case neg=>
  refine a3V hC hZ h hi jD hw (fun o=>?_) hK;cases e:Cc oi o
  .rfl
  .obtain⟨t,m,k,e1,_,e3,_⟩:=Kq e;exact absurd ⟨t,m,k,e1,e3⟩ hl
 obtain⟨t,m,k,jy,hgd⟩:=hl;have hli:i<ops.size:=(a2I.1 hi).1;have hS:=hZ.step i oi hi;obtain⟨afC,⟨_,v,s1,q1,q2⟩|⟨q1,_⟩⟩:=hS
 case inr=>unfold Dw at q1;rw[hgd]at q1;cases q1
 simp only[pU,jy]at q1;split at q1
 case h_2=>cases q1
 rename_i mv kv e1 e2;simp only[a0A,a1k]at q1;obtain⟨z,e3,rfl,rfl,e4⟩:=q1;obtain⟨x,g1,g2⟩:=h.look hZ hi jD hw jy e1 e2 e3 fun r e=>by subst e;exact e4.symm
 have ZI:(I i).ws=[]:=by rw[<-e4];rfl
 have zy:(S (i+1)).get=(S i).get:=by
  funext key
  rw[q2];cases key<;>cases oi.dst<;>rfl
 have hnW:∀key,¬Wk ops S I key i:=fun key hk=>by
  obtain⟨o,_,h1|⟨h1,h2⟩⟩:=hk
  .rw[ZI]at h1;cases h1
  .rw[zy,h1]at h2;cases h2
 unfold wpOpIn;rw[hi];have hwd:Region.wanted oi (yielded ops a.tmps)=true:=by simp[Region.wanted,hgd]
 simp only[hwd,a2p];refine⟨fun f hf=>by simp[Oper.about,jy]at hf,?_⟩;have uF:(oi.semAt (og r).round a.eval).run P w=.ok (.value x) w:=by simp only[a8t]at g1;simp[Oper.semAt,execOp,jy,Act.eval,g1]
 rw[uF,Oper.uponIn_value];refine hK M _ w ?_ jX;refine{ h with
  closed:=fun j o ho hd e hm hb=>?_
  size:=by rw[Iy];exact h.size
  mem:=fun key l hk=>?_
  slot:=fun s=>?_
  TI:=fun j o key ho hd hk=>?_
  marks:=fun d hd=>by rw[jX]at hd;exact h.marks d hd
  apart:=by rw[jX];exact h.apart }
 .rcases hd with hd|rfl
  .exact .inl (h.closed j o ho hd e hm hb)
  .rw[hi]at ho;cases ho;exact .inl (hw e hm hb)
 .obtain⟨τ,hτ,hg,b,h1,h2,h3⟩:=h.mem key l hk;exact⟨τ,hτ,hg.other (hnW key),b,h1,h2,h3⟩
 .by_cases hT:oi.dst=some s
  .refine⟨i+1,by omega,Good.next (W:=Wt ops s) ⟨oi,hi,hT⟩ (fun j hwt hc=>?_),fun e hl=>?_⟩
   .obtain⟨oj,hj,hd⟩:=hwt;exact(Oper.apart_spec (h.conf hZ hi hj jD hw hc).2.2).2.1 s hT hd
   .rw[q2,zO,a1e hT]at hl;cases hl;have h1:s<nt:=(hZ.step i oi hi).dst hT;have h2:=h.size;rw[zQ,a1e ⟨hT,by omega⟩,zy];exact .val g2
  .obtain⟨τ,hτ,hg,h1⟩:=h.slot s;refine⟨τ,hτ,hg.other fun⟨o,ho,hd⟩=>?_,fun e hl=>?_⟩
   .rw[hi]at ho;cases ho;exact hT hd
   .rw[zQ,a18 fun hh=>hT hh.1];exact h1 e hl
 .rcases hd with hd|rfl
  .exact h.TI j o key ho hd hk
  .rw[ZI]at hk;cases hk
theorem a6N(listed):∀k,V6 listed k<=k
 | 0=>a1l _
 |k+1=>by have:=a6N listed k;simp only[V6];split<;>omega
theorem XB{listed}:∀{k},V6 listed k=0->∀j,j<k->listed.getD j false=true
 | 0,_,j,hj=>by omega
 |k+1,h,j,hj=>by
  simp only[V6]at h;by_cases he:j=k
  .subst he;split at h
   .assumption
   omega
  exact XB (k:=k) (by omega) j (by omega)
theorem zT{listed:Array Bool}{i}(hi:i<listed.size)(j):(listed.setIfInBounds i true).getD j false=if j=i then true else listed.getD j false:=by
 simp only[a8t,aa3];by_cases h:i=j
 .subst h;simp[hi]
 simp[h,afJ h]
theorem a1M{listed i}(hi:i<listed.size)(hn:listed.getD i false=false):∀k,V6 (listed.setIfInBounds i true) k+(if i<k then 1 else 0)=V6 listed k
 | 0=>by simp[V6]
 |k+1=>by
  have ih:=a1M hi hn k;simp only[V6,zT hi];by_cases he:k=i
  .subst he;simp only[a2p,hn];simp at ih ⊢;omega
  simp only[he,a3U];by_cases aQ:i<k
  .rw[a1e aQ]at ih;rw[a1e (by omega:i<k+1)];omega
  rw[a18 aQ]at ih;rw[a18 (by omega:¬i<k+1)];omega
theorem uI{listed}(qV:listed.size=ops.size){i}:i∈Region.ready .any ops listed↔∃o,ops[i]? = some o/\listed.getD i false=false/\vO (fun j=>listed.getD j false=true) o:=by
 simp only[Region.ready,a5X,a5m,a2n];constructor
 .rintro⟨h1,h2,h3⟩;refine⟨ops[i],a4o h1,?_,?_⟩
  .have hl:i<listed.size:=(by omega);simp only[Array.getD,hl,dite_true]at h2 ⊢;simpa using h2
  intro e he hb;rw[a4o h1]at h3;simp only[a1n,a5V,adp]at h3;have:=h3 e he;simpa[hb]using this
 rintro⟨o,ho,h2,h3⟩;have h1:i<ops.size:=(a2I.1 ho).1;refine⟨h1,?_,?_⟩
 .have hl:i<listed.size:=by omega
  simp only[Array.getD,hl,dite_true]at h2 ⊢;simpa using h2
 rw[ho];simp only[a1n,a5V,adp];intro e he;cases hb:Region.binds .any e with
 |false=>rfl
 |true=>simpa using h3 e he hb
theorem afD(hC:iM P call)(hZ:je P call site nt ops M0 h0 w0 S I){r n Q ds}(hQ:∀M' a' w',Rel M0 h0 w0 nt M' (S ops.size) a' w'->a'.defers=ds->Q .normal a' w'):∀(fuel) (listed) (M) (a) (w),listed.size=ops.size ->Inv nt ops M0 h0 w0 S I (fun j=>listed.getD j false=true) M a w->V6 listed ops.size<=fuel->a.defers=ds->wpAnyIn (og r) n P .any ops Q fuel listed a w:=by
 intro fuel;have AY:∀(listed:Array Bool),listed.size=ops.size->Region.ready .any ops listed=[]->∀j,j<ops.size->listed.getD j false=true:=by
  intro listed qV hr j
  induction j using Nat.strongRecOn with
  |_ j ih=>
   intro hj;cases hd:listed.getD j false with
   |true=>rfl
   |false=>
    have:j∈Region.ready .any ops listed:=(uI qV).2 ⟨ops[j],a4o hj,hd,fun e he hb=>by have aQ:=Xz hZ.stat (i:=j) (o:=ops[j]) (by simp) he hb;exact ih e.on aQ (by omega)⟩
    rw[hr]at this;cases this
 induction fuel with
 |zero=>
  intro listed M a w qV hI hu hd;have hz:=XB (Nat.le_zero.1 hu);refine⟨?_,hQ M a w (a1J hZ hI hz) hd⟩;refine a6W.2 fun i hi=>?_;obtain⟨o,ho,h1,_⟩:=(uI qV).1 hi;rw[hz i (a2I.1 ho).1]at h1;cases h1
 |succ fuel ih=>
  intro listed M a w qV hI hu hd;refine⟨fun hr=>hQ M a w (a1J hZ hI (AY listed qV hr)) hd,fun i hi=>?_⟩;obtain⟨o,ho,h1,h2⟩:=(uI qV).1 hi;have hli:i<ops.size:=(a2I.1 ho).1;refine a6M hC hZ hI ho (by simp[h1]) h2 fun M' a' w' hI' ZW=>ih _ M' a' w' (by simp[qV]) ?_ ?_ (ZW.trans hd)
  .have:(fun j=>(listed.setIfInBounds i true).getD j false=true)=fun j=>listed.getD j false=true\/j=i:=by
    funext j
    rw[zT (by omega)];by_cases he:j=i
    .simp[he]
    .simp[he]
   rw[this];exact hI'
  .have:=a1M (listed:=listed) (i:=i) (by omega) h1 ops.size;rw[a1e hli]at this;omega
theorem a04(hC:iM P call)(hB:xJ M0 h0 w0)(hm:P.follows .mixedOrders=true){r n Q id s s' is M a w}(h:lU P call site h0.length nt ops ops.toList s=some (s',is)) (hs:o7 ops.toList=true) (hd:Ce is (nH ops.toList)=true) (hR:Rel M0 h0 w0 nt M s a w)(hQ:∀M' a' w',Rel M0 h0 w0 nt M' s' a' w'->a'.defers=a.defers->Q .normal a' w'):(Code.region id ops true).wpIn (og r) n P Q a w:=by
 obtain⟨S,I,e1,e2,hZ⟩:=a6F hC hB h hR hs hd;refine wpIn_region_any hm ?_;have GY:Rel M0 h0 w0 nt M (S 0) a { w with drawn:=w.drawn+1 }:=by rw[e1];exact⟨hR.val.of_heap rfl,hR.ext.drew rfl rfl rfl rfl,hR.env,hR.size,hR.marks,hR.apart⟩
 refine afD hC hZ (ds:=a.defers) (fun M' a' w' hr hd=>hQ M' a' w' (by rw[e2]at hr;exact hr) hd) ops.size _ M a _ (by simp) ?_ (a6N _ _) rfl;have:(fun j=>(Array.replicate ops.size false).getD j false=true)=fun _=>False:=by
  funext j
  simp only[a8t,Array.getElem?_replicate];split<;>simp
 rw[this];exact a3T hZ GY
end
theorem P9{F n P Q a w c}(h:c.wpIn F n P (Exit.noGoto Q) a w):(Code.scope c).wpIn F n P Q a w:=by
 intro b k cs hro hb hr;have h0:(lone (b.atR a (.code (.scope c)::k)) cs w).fenced P F:=fenced_calm hb hr rfl;have s0:step P (lone (b.atR a (.code (.scope c)::k)) cs w)=.next (lone (b.atR a (.code c::.inScope c::k)) cs w):=step_lone_go (by simp[stepG,stepG.exec,Frame.atR]);have s1:∀a1 w1,step P (lone (b.atR a1 (.inScope c::k)) cs w1)=.next (lone (b.atR a1 k) cs w1):=fun a1 w1=>step_lone_go (by simp[stepG,stepG.exec,Frame.atR]);obtain⟨e,a₁,w₁,hq,Xw⟩:=h b (.inScope c::k) cs hro hb hr;cases e with
 |normal=>exact⟨.normal,a₁,w₁,hq,.head h0 s0 (StepsIn.trans Xw (.one (fenced_calm hb hr rfl) (s1 _ _)))⟩
 |exit id'=>
  have hx:exitTo id' (.inScope c::k)=exitTo id' k:=by simp[exitTo]
  exact⟨.exit id',a₁,w₁,hq,fun k' hk=>.head h0 s0 (Xw.1 k' (by rw[hx];exact hk)),
   fun hr' hk=>let ⟨k₁,h1,h2⟩:=Xw.2 hr' (by rw[hx];exact hk);⟨k₁,h1,.head h0 s0 h2⟩⟩
 |goto l=>exact hq.elim
 |ret=>exact⟨_,a₁,w₁,hq,.of_steps (.one h0 s0) Xw⟩
 |panic ch=>exact⟨_,a₁,w₁,hq,.of_steps (.one h0 s0) Xw⟩
 |outgrown=>exact⟨_,a₁,w₁,hq,.of_steps (.one h0 s0) Xw⟩
def a05:Ex->Exit
 |.norm=>.normal
 |.exit id=>.exit id
 |.ret=>.ret
theorem GZ{t e env}:∀{live},dR t (pick live env)=some e->dR t env=some e
 | [],h=>by simp[pick,dR]at h
 |x::r,h=>by
  simp only[pick]at h;split at h
  .rename_i v hv;simp only[dR]at h;split at h
   .rename_i hx;subst hx;rw[hv,h]
   exact GZ h
  exact GZ h
theorem a6O{t k off}:∀{env},dR t env=some (.loc k off)->k<Dx env
 | [],h=>by simp[dR]at h
 |(x,v)::r,h=>by
  simp only[dR]at h;split at h
  .cases h;simp only[Dx];omega
  have:=a6O h;cases v<;>simp only[Dx]<;>omega
section
variable{M0:Mp}{h0:List HB}{w0:LI4}{nt:Nat}{M:Mp}{s:St}{a:Act}{w:LI4}
theorem Rel.pick(hR:Rel M0 h0 w0 nt M s a w)(live):Rel M0 h0 w0 nt M { s with env:=Tw.pick live s.env } a w:=by have hg:St.get { s with env:=Tw.pick live s.env }=s.get:=getEnv s _ _;refine⟨by rw[hg];exact hR.val,by rw[hg];exact hR.ext,fun t e h=>hR.env t e (GZ h),hR.size,?_,hR.apart⟩;rw[hg];exact hR.marks
def XC(n:Nat)(M:Mp):Mp
 |.h b=>M (.h b)
 |.l j=>if j<n then M (.l j)else none
theorem Rel.head(hB:xJ M0 h0 w0)(hR:Rel M0 h0 w0 nt M s a w)(live):Rel M0 h0 w0 nt (XC (Dx (Tw.pick live s.env)) M) (kN live s) a w:=by
 have hR:=hR.pick live;generalize he:Tw.pick live s.env=env at hR ⊢;have hs:kN live s={ s with env:=env,loc:=s.loc.take (Dx env) }:=by simp[kN,he]
 rw[hs];have lX:∀k l,XC (Dx env) M k=some l->M k=some l:=by
  intro k l h;cases k with
  |h b=>exact h
  |l j=>
   simp only[XC]at h;split at h
   .exact h
   cases h
 have zy:∀k l,XC (Dx env) M k=some l->St.get { s with env:=env,loc:=s.loc.take (Dx env) } k=St.get { s with env:=env } k:=by
  intro k l h;cases k with
  |h b=>rfl
  |l j=>
   simp only[XC]at h;split at h
   .rename_i hj;simp[St.get,hj]
   cases h
 refine⟨⟨?_,?_,fun k l hk=>hR.val.inb k l (lX k l hk)⟩,?_,?_,hR.size,?_,hR.apart⟩
 .intro k l hk _;obtain⟨b,h1,h2⟩:=hR.val.ok k l (lX k l hk) trivial;exact⟨b,by rw[zy k l hk];exact h1,h2⟩
 .intro k k' l l' b iI hk oQ _ hb hw;rw[zy k l hk]at hb;exact hR.val.own k k' l l' b iI (lX k l hk) (lX k' l' oQ) trivial hb hw
 .have hX:=hR.ext;have hk:∀k,(lD h0 k).isSome=true->∃b,k=.h b:=fun k h=>let ⟨b,e,_⟩:=DK h;⟨b,e⟩
  exact
   {JI:=fun k l h=>by
     cases k with
     |l j=>rw[hB.loc j]at h;cases h
     |h b=>exact hX.JI _ _ h
    frame:=hX.frame
    nX:=fun k h hn=>by obtain⟨b,rfl⟩:=hk k h;exact hX.nX _ h hn
    kR:=fun k h hn=>by
     cases k with
     |h b=>exact hX.kR (.h b) h hn
     |l j=>
      rw[hB.loc j];simp only[XC];split
      .rename_i hj;cases hm:M (.l j)with
       |none=>rfl
       |some l=>
        have h1:=hR.val.has hm;rcases h with h|h
        .obtain⟨b,hb⟩:=hk _ h;cases hb
        .have:=zy (.l j) l (by simp[XC,hj,hm]);rw[h]at this;rw[<-this]at h1;cases h1
      .rfl
    fresh:=fun k l h=>hX.fresh k l (lX k l h)
    size:=hX.size
    has:=fun k h=>by obtain⟨b,rfl⟩:=hk k h;exact hX.has _ h
    wsub:=hX.wsub
    wrote:=hX.wrote
    os:=hX.os
    output:=hX.output
    tape:=hX.tape }
 .intro t e h;have:=hR.env t e h;generalize a.tmps.getD t Go.undef=z at this;cases this with
  |val hv=>exact .val hv
  |undef=>exact .undef
  |loc hm hb=>
   have aQ:=a6O (env:=env) h;exact .loc (by simp[XC,aQ,hm]) hb
  |ent hm hi hv=>exact .ent (show M _=_ from hm) hi hv
  |FK hm hi=>exact .FK (show M _=_ from hm) hi
 intro d hd;obtain⟨k,r,h1,h2,h3,h4,h5⟩:=hR.marks d hd;exact⟨k,r,h1,h2,h3,h4,h5⟩
theorem a1N(hV:Valid M rU s.get w)(b o)(RF:pV (dN M (.h s.heap.length) (.obj w.heap.size [])).h (w.alloc o) b (.obj w.heap.size [])) :Valid (dN M (.h s.heap.length) (.obj w.heap.size [])) rU (St.get { s with heap:=s.heap++[b] }) (w.alloc o) /\Ext M s.get w (dN M (.h s.heap.length) (.obj w.heap.size [])) (St.get { s with heap:=s.heap++[b] }) (w.alloc o) []/\M (.h s.heap.length)=none:=by
 have zy:s.get (.h s.heap.length)=none:=by simp[St.get]
 have zL:M (.h s.heap.length)=none:=by
  cases h:M (.h s.heap.length)with
  |none=>rfl
  |some l=>have:=hV.has h;simp[zy]at this
 have hle:tZ M (dN M (.h s.heap.length) (.obj w.heap.size [])):=lS fun l0 h0=>by rw[zL]at h0;cases h0
 have fO:∀c,c<w.heap.size->c∉aI (.obj w.heap.size [])->(w.alloc o).heap[c]? = w.heap[c]?:=fun c hc _=>vI w _ c hc;have fZ:∀c∈aI (.obj w.heap.size []),(∃l0,M (.h s.heap.length)=some l0/\c∈aI l0)\/w.heap.size<=c:=fun c hc=>.inr (by simp[aI]at hc;omega);rw[kT];exact⟨hV.upd _ _ _ (fun j _=>.inl trivial) (fun l0 h0=>by rw[zL]at h0;cases h0) fO fZ (by simp) RF,
  Ext.upd _ _ _ [] (.inr ⟨zy,zL,rfl⟩) hle fO fZ (by simp) rfl rfl rfl,zL⟩
theorem EW(hV:Valid M rU s.get w){k r q b b' o'}(hm:M (.h k)=some (.obj r q))(hb:s.heap[k]? = some b)(hw:wr b=true)(RF:pV M.h { w with heap:=w.heap.setIfInBounds r o' } b' (.obj r q)) :Valid M rU (St.get { s with heap:=s.heap.set k b' }) { w with heap:=w.heap.setIfInBounds r o' } /\Ext M s.get w M (St.get { s with heap:=s.heap.set k b' }) { w with heap:=w.heap.setIfInBounds r o' } [.h k]:=by
 have hg:s.get (.h k)=some b:=by simp[St.get,hb]
 have yO:=(a0x.1 hb).1;have qU:dN M (.h k) (.obj r q)=M:=JR hm;have fO:∀c,c<w.heap.size->c∉aI (.obj r q)->(w.heap.setIfInBounds r o')[c]? = w.heap[c]?:=fun c _ hc=>by rw[aa3,a18 (by simp[aI]at hc;omega)]
 have fZ:∀c∈aI (.obj r q),(∃l0,M (.h k)=some l0/\c∈aI l0)\/w.heap.size<=c:=fun c hc=>.inl ⟨_,hm,hc⟩;rw[jm s k _ yO];constructor
 .have:=hV.upd (D':=rU) (w':={ w with heap:=w.heap.setIfInBounds r o' }) (.h k) b' (.obj r q) (fun j hj=>.inl hj) (fun l0 h0=>by rw[hm]at h0;cases h0;exact⟨trivial,.refl _,fun b0 yu=>by rw[hg]at yu;cases yu;exact hw⟩) fO fZ (by simp) (by rw[qU];exact RF)
  rwa [qU]at this
 .have:=Ext.upd (M:=M) (C:=s.get) (w:=w) (w':={ w with heap:=w.heap.setIfInBounds r o' }) (.h k) b' (.obj r q) [.h k] (.inl ⟨by simp[hg],rfl,by simp[hm],fun b0 yu=>by rw[hg]at yu;cases yu;exact hw⟩) (by rw[qU];exact .refl _) fO fZ (by simp) rfl rfl rfl
  rwa [qU]at this
theorem Rel.next(hB:xJ M0 h0 w0)(hR:Rel M0 h0 w0 nt M s a w){M' s' w' ks}(hV:Valid M' rU s'.get w')(hX:Ext M s.get w M' s'.get w' ks)(he:s'.env=s.env) (ZI:s'.ws=kM h0.length ks s.ws) (hl:∀k l,M (.l k)=some l->M' (.l k)=some l):Rel M0 h0 w0 nt M' s' a w':=by
 refine⟨hV,?_,?_,hR.size,TD hR hX,hR.apart⟩
 .refine hR.ext.trans hX (fun k l hk=>hB.val.has hk) (fun k hk Gi=>?_) (fun k hk=>?_)
  .obtain⟨b,rfl,hb⟩:=DK hk;rw[ZI];refine a1w.2 ⟨b,oV.2 ?_,rfl⟩;rcases Gi with h1|h1
   .obtain⟨b',h2,h3⟩:=a1w.1 h1;cases h3;exact .inl h2
   .exact .inr ⟨h1,hb⟩
  .rw[ZI]at hk;obtain⟨b,hb,rfl⟩:=a1w.1 hk;rcases oV.1 hb with h1|⟨h1,h2⟩
   .have:Key.h b∈s.ws.map .h:=a1w.2 ⟨b,h1,rfl⟩;exact⟨hR.ext.wsub _ this,.inl this⟩
   .exact⟨a00 h2,.inr h1⟩
 .rw[he];intro t e h;exact(hR.env t e h).mono hX.JI hl
theorem Rel.long(hR:Rel M0 h0 w0 nt M s a w):h0.length<=s.heap.length:=by refine adv fun h=>?_;have:=hR.ext.has _ (a00 h);simp[St.get]at this
end
theorem least{J:Nat->Prop}(h:∃k,J k):∃k,J k/\∀j,J j->k<=j:=by
 obtain⟨k,hk⟩:=h
 induction k using Nat.strongRecOn with
 |_ k ih=>
  by_cases hj:∃j,j<k/\J j
  .obtain⟨j,h1,h2⟩:=hj;exact ih j h1 h2
  exact⟨k,hk,fun j h=>adv fun aQ=>hj ⟨j,aQ,h⟩⟩
def leastOf(J:Nat->Prop):Nat:=open Classical in if h:∃k,J k then Classical.choose (least h)else 0
theorem leastOf_spec{J}(h:∃k,J k):J (leastOf J)/\∀j,J j->leastOf J<=j:=by unfold leastOf;rw[dif_pos h];exact aap (least h)
section
variable{P:LI1}{T:vH}{call:dO}{L f:Nat}{iy:Bool}{nt:Nat}{M0:Mp}{h0:List HB}{w0:LI4}{r:Option Nat}
def Vm(P:LI1)(M0:Mp)(h0:List HB)(w0:LI4)(nt:Nat)(r:Option Nat)(c:Code)(s:St)(e:Ex)(s':St):Prop:=
 ∀(n:Nat) (Q:Exit->Act->LI4->Prop) (M:Mp) (a:Act) (w:LI4),Rel M0 h0 w0 nt M s a w->(∀M' a' w',Rel M0 h0 w0 nt M' s' a' w'->Q (a05 e) a' w')->c.wpIn (og r) n P Q a w
theorem NU(hB:xJ M0 h0 w0){c live g}(ih:∀s e s',g s=some (e,s')->Vm P M0 h0 w0 nt r c (kN live s) e s'){k s e s'}(h:iter g k s=some (e,s')):Vm P M0 h0 w0 nt r (.loop c) s e s':=by
 intro n Q M a w hR hQ
 let J:Act->LI4->Nat->Prop:=fun a w k=>∃s M,iter g k s=some (e,s')/\Rel M0 h0 w0 nt M s a w
 refine wpIn_loop (fun a w=>∃k,J a w k) (fun a w=>leastOf (J a w)) ⟨k,s,M,h,hR⟩ ?_;intro a1 w1 hI;obtain⟨⟨s1,M1,RZ,yD⟩,_⟩:=leastOf_spec hI;generalize leastOf (J a1 w1)=k1 at RZ ⊢;cases k1 with
 |zero=>simp[iter]at RZ
 |succ k1=>
  simp only[iter]at RZ;split at RZ
  .rename_i s2 hg;refine ih s1 .norm s2 hg n _ _ a1 w1 (yD.head hB live) fun M2 a2 w2 TJ=>?_;have hJ:J a2 w2 k1:=⟨s2,M2,RZ,TJ⟩;exact⟨⟨k1,hJ⟩,Nat.lt_succ_of_le ((leastOf_spec ⟨k1,hJ⟩).2 k1 hJ)⟩
  .rename_i iI;refine ih s1 e s' RZ n _ _ a1 w1 (yD.head hB live) fun M2 a2 w2 TJ=>?_;cases e with
   |norm=>exact(iI s' RZ).elim
   |exit id=>exact hQ M2 a2 w2 TJ
   |ret=>exact hQ M2 a2 w2 TJ
theorem a3Y{env}(h:env.all isVal=true){t e}(hl:dR t env=some e):(∃v,e=.val v)\/e=.undef:=by
 induction env with
 |nil=>simp[dR]at hl
 |cons x r ih=>
  obtain⟨k,v⟩:=x;simp only[acp,a2n]at h;simp only[dR]at hl;split at hl
  .cases hl;cases e with
   |val v=>exact .inl ⟨v,rfl⟩
   |undef=>exact .inr rfl
   |_=>simp[isVal]at h
  exact ih h.2 hl
theorem TK(hB:xJ M0 h0 w0){g ps vY body s f1 a1 b1}{K:TV->List HB->List Nat->Prop}{QT:Ex->St->Prop}(hg:rJ s.env g=some (.fn f1 a1 b1)) (hv:s.env.all isVal=true)(hC:∀(M) (w) (x) (xs),Valid M rU (lD (s.heap++[.mark,.loop true f nt s.env ps.toList vY body none])) w->(∀k,M (.l k)=none)->VR M.h (.fn f1 a1 b1) x->bZ M.h [.lC (s.heap.length+1)] xs ->∃d,(∀w,(Deferred.ofValue x xs.toArray).run P w=.ok d w)/\EU P d w fun y w'=>∃v h ws,K v h ws/\jE M (s.heap++[.mark,.loop true f nt s.env ps.toList vY body none]) w v h ws y w')(hK:∀v h ws,K v h ws->∃rd f2 RP e2 Dy a2 b2 jW e,h[s.heap.length+1]? = some (.loop rd f2 RP e2 Dy a2 b2 jW)/\SX rd jW=some e/\QT e { s with heap:=h.set (s.heap.length+1) (.loop false f2 RP e2 Dy a2 b2 (some .skip)),ws:=kM h0.length (ws.map .h) s.ws })(n Q M a w) (hR:Rel M0 h0 w0 nt M s a w) (hQ:∀e s' M' a' w',QT e s'->Rel M0 h0 w0 nt M' s' a' w'->Q (a05 e) a' w'):(Code.rangeFunc g ps vY body).wpIn (og none) n P Q a w:=by
 refine wpIn_rangeFunc fun fn _=>?_
 let lp:Loop:={ state:=.ready,pending:=none,fn:=fn,tmps:=a.tmps,params:=ps,assign:=vY,body:=body,defers:=w.heap.size }
 let w1:=(w.alloc (.deferred (some []))).alloc (.loop lp)
 obtain⟨v1,x1,n1⟩:=a1N hR.val .mark (.deferred (some [])) (show w.heap.size<(w.alloc _).heap.size by simp)
 let M1:=dN M (.h s.heap.length) (.obj w.heap.size [])
 let s1:St:={ s with heap:=s.heap++[.mark] }
 have yD:Rel M0 h0 w0 nt M1 s1 a (w.alloc (.deferred (some []))):=hR.next hB v1 x1 rfl rfl (rV n1);have a1O:s1.heap.length=s.heap.length+1:=by simp[s1]
 have S9:(w.alloc (.deferred (some []))).heap.size=w.heap.size+1:=by simp
 have apF:pV (dN M1 (.h s1.heap.length) (.obj (w.alloc (.deferred (some []))).heap.size [])).h w1 (.loop true f nt s.env ps.toList vY body none) (.obj (w.alloc (.deferred (some []))).heap.size []):=by
  refine⟨lp,heap_alloc_new _ _,?_⟩;exact
   {ps:=rfl,vY:=rfl,body:=rfl,size:=hR.size
    Nj:=fun t v hl=>by
     have h1:=(yD.env t _ hl).uZ;have hm:tZ M1 (dN M1 (.h s1.heap.length) (.obj (w.alloc (.deferred (some []))).heap.size [])):=lS fun l0 h0=>by rw[yD.nh]at h0;cases h0
     exact h1.mono hm.h
    V6:=fun t hl=>by have h1:=hR.env t _ hl;show a.tmps.getD t Go.undef=Go.undef;generalize a.tmps.getD t Go.undef=z at h1;cases h1;rfl
    nol:=fun t e hl=>by rcases a3Y hv hl with⟨v,e⟩|e<;>cases e<;>rfl
    ready:=fun _=>⟨rfl,rfl⟩
    busy:=by simp
    done:=by simp }
 obtain⟨v2,x2,n2⟩:=a1N yD.val (.loop true f nt s.env ps.toList vY body none) (.loop lp) apF
 let M2:=dN M1 (.h s1.heap.length) (.obj (w.alloc (.deferred (some []))).heap.size [])
 let s2:St:={ s1 with heap:=s1.heap++[.loop true f nt s.env ps.toList vY body none] }
 have a3Z:Rel M0 h0 w0 nt M2 s2 a w1:=yD.next hB v2 x2 rfl rfl (rV n2);have au1:=hR.long;have hmk:M2 (.h s.heap.length)=some (.obj w.heap.size []):=by simp only[M2,M1,dN,a1O];simp
 have TJ:Rel M0 h0 w0 nt M2 s2 { a with defers:=[{ target:=.collected w.heap.size,args:=#[] }]++a.defers } w1:=by
  refine⟨a3Z.val,a3Z.ext,a3Z.env,a3Z.size,fun d hd=>?_,?_⟩
  .rcases a1E.1 hd with rfl|hd
   .refine⟨s.heap.length,w.heap.size,rfl,by simp[lD,St.get];omega,⟨_,hmk⟩,by simp[s2,s1,St.get],?_⟩;have e1:w1.heap[w.heap.size]? = (w.alloc (.deferred (some []))).heap[w.heap.size]?:=vI _ _ _ (by simp);rw[e1];exact heap_alloc_new _ _
   .exact a3Z.marks d hd
  .refine List.pairwise_cons.2 ⟨fun d hd e=>?_,a3Z.apart⟩;obtain⟨k,r',e1,_,_,_,e5⟩:=hR.marks d hd;rw[e1]at e;have:w.heap.size=r':=by injection e with e e';injection e
   have:=(a2I.1 e5).1;omega
 have Td:M2 (.h (s.heap.length+1))=some (.obj (w.heap.size+1) []):=by simp only[M2,dN,a1O,S9,a2p]
 have apG:s2.heap=s.heap++[.mark,.loop true f nt s.env ps.toList vY body none]:=by simp[s2,s1]
 rw[<-apG]at hC;have hV2:=GX TJ.val (fun _ _ _=>trivial);have hgx:VR M2.only.h (.fn f1 a1 b1) (a.eval g):=(ZL TJ.env hg);have hyx:bZ M2.only.h [.lC (s.heap.length+1)] [.func (.yield (w.heap.size+1)) #[] #[]]:=.cons (.lC Td) .nil;obtain⟨d,hd,wF⟩:=hC M2.only w1 (a.eval g) [.func (.yield (w.heap.size+1)) #[] #[]] hV2 (fun _=>rfl) hgx hyx;obtain⟨f3,as3,hinv,nP⟩:=wF;refine⟨w.heap.size+1,[{ target:=.collected w.heap.size,args:=#[] }],w1,d,w1,f3,as3,w1,?_,?_,fun _ _=>trivial,hinv,fun h=>by simp[Fence.wide]at h,?_⟩
 .simp[Instr.enterLoop,newObj,Sem.run,w1,lp]
 .have:=hd w1;simpa[resolve,rangeCall,Act.eval]using this
 .refine CallsIn.mono (F:=og none) (nP (n-1)) fun en w3 XD=>?_;cases en with
  |panicked c=>exact XD.elim
  |outgrown=>exact XD.elim
  |returned y=>
   obtain⟨v,h,ws,hk,XD⟩:=XD;obtain⟨rd,f2,RP,e2,Dy,a2,b2,jW,e,hh,hj,hq⟩:=hK v h ws hk;obtain⟨M3,hp⟩:=TB TJ.val TJ.loc (show jE M2.only s2.heap w1 v h ws y w3 from XD);have hR3:Rel M0 h0 w0 nt M3 { s2 with heap:=h,ws:=kM h0.length (ws.map .h) s.ws } _ w3:=TJ.next hB (s':={ s2 with heap:=h,ws:=kM h0.length (ws.map .h) s.ws }) (hp.val.sub fun _ _=>.inl trivial) hp.ext rfl rfl hp.loc;obtain⟨l',g1,g2⟩:=hp.ext.JI _ _ Td;obtain⟨q3,hl3⟩:∃q3,M3 (.h (s.heap.length+1))=some (.obj (w.heap.size+1) q3):=by
    cases l' with
    |cells ls=>exact g2.elim
    |obj r' o'=>cases g2.1;exact⟨o',g1⟩
   obtain⟨gQ,k1,k2⟩:=hR3.val.ok _ _ hl3 trivial;have k1':gQ=.loop rd f2 RP e2 Dy a2 b2 jW:=by simp only[St.get,hh,a09]at k1;exact k1.symm
   subst k1';obtain⟨lp3,l1,l2⟩:=k2;have hnb:lp3.state≠.busy/\lp3.pending=uz e:=by
    unfold SX at hj;split at hj
    .cases hj;obtain⟨q1,q2⟩:=l2.ready rfl;exact⟨by rw[q1];simp,q2⟩
    .cases hj;obtain⟨q1,q2⟩:=l2.done rfl _ rfl (by simp);exact⟨by rw[q1];simp,q2⟩
    .cases hj;obtain⟨q1,q2⟩:=l2.done rfl _ rfl (by simp);exact⟨by rw[q1];simp,q2⟩
    .cases hj
   obtain⟨v4,x4⟩:=EW (s:={ s2 with heap:=h,ws:=kM h0.length (ws.map .h) s.ws }) hR3.val hl3 hh rfl (b':=.loop false f2 RP e2 Dy a2 b2 (some .skip)) (o':=.loop { lp3 with state:=.exhausted }) ⟨{ lp3 with state:=.exhausted },by simp[(a2I.1 l1).1],
    {ps:=l2.ps,vY:=l2.vY,body:=l2.body,size:=l2.size,Nj:=l2.Nj,V6:=l2.V6,nol:=l2.nol,ready:=by simp,busy:=by simp,done:=fun _ j hj iI=>by simp at hj;exact absurd hj.symm iI }⟩
   have hR4:=hR3.next hB (s':={ s with heap:=h.set (s.heap.length+1) (.loop false f2 RP e2 Dy a2 b2 (some .skip)),ws:=kM h0.length (ws.map .h) s.ws }) v4 x4 rfl
    (by simp only[kM,FM];rw[a18 (by omega)]) (fun _ _ h=>h)
   refine⟨lp3.pending,{ w3 with heap:=w3.heap.setIfInBounds (w.heap.size+1) (.loop { lp3 with state:=.exhausted }) },?_,?_⟩
   .have h1:=hnb.1;cases vK:lp3.state<;>simp_all [Instr.endLoop,Instr.getLoop,getObj,setObj,Sem.run]<;>rfl
   .have h2:=hQ _ _ _ _ _ hq hR4;have h3:=hnb.2;generalize lp3.pending=pe at h2 h3 ⊢;subst h3;cases e with
    |norm=>exact h2
    |ret=>exact wpIn_ret h2
    |exit id=>exact wpIn_exit h2
theorem a6P(hC:iM P call)(hB:xJ M0 h0 w0){g ps vY body s s' e f1 a1 b1 v h ws rd}{f2 RP:Nat}{e2 Dy a2 b2 jW}(hg:rJ s.env g=some (.fn f1 a1 b1)) (hv:s.env.all isVal=true) (yP:call (.fn f1 a1 b1) [.lC (s.heap.length+1)] (s.heap++[.mark,.loop true f nt s.env ps.toList vY body none])=some (v,h,ws))(hh:h[s.heap.length+1]? = some (.loop rd f2 RP e2 Dy a2 b2 jW)) (hj:SX rd jW=some e)(hs:s'={ s with heap:=h.set (s.heap.length+1) (.loop false f2 RP e2 Dy a2 b2 (some .skip)),ws:=kM h0.length (ws.map .h) s.ws }) :Vm P M0 h0 w0 nt none (.rangeFunc g ps vY body) s e s':=by
 intro n Q M a w hR hQ;refine TK (f:=f) (s:=s) hB (K:=fun v' h' Xl=>v'=v/\h'=h/\Xl=ws) (QT:=fun e1 s1=>e1=e/\s1=s') hg hv (fun M w x xs hV hl hx GV=>?_) ?_ n Q M a w hR ?_
 .obtain⟨d,hd,wF⟩:=hC _ _ _ _ _ _ yP M w x xs hV hl hx GV;refine⟨d,hd,?_⟩;rcases wF with⟨⟨f3,as3,h1,h2⟩,_⟩|⟨_,_,hx⟩
  .refine⟨f3,as3,h1,fun n=>CallsIn.mono (F:=og none) (h2 n) fun en w3 XD=>?_⟩;cases en with
   |panicked c=>exact XD.elim
   |outgrown=>exact XD.elim
   |returned y=>exact⟨v,h,ws,⟨rfl,rfl,rfl⟩,XD⟩
  .cases hx
 .rintro _ _ _ ⟨rfl,rfl,rfl⟩;exact⟨_,_,_,_,_,_,_,_,_,hh,hj,rfl,hs.symm⟩
 .rintro _ _ M' a' w' ⟨rfl,rfl⟩ GY;exact hQ M' a' w' GY
theorem wP(hm:P.follows .mixedOrders=true)(hC:iM P call)(hB:xJ M0 h0 w0)(hr:iy=false->r=none):∀(c) (s s') (e),exec P T call L f iy h0.length nt c s=some (e,s')->Vm P M0 h0 w0 nt r c s e s':=by
 intro c
 induction c with
 |skip=>
  intro s s' e h n Q M a w hR hQ;simp only[exec,a09,a1k]at h;obtain⟨rfl,rfl⟩:=h;exact wpIn_skip (hQ _ _ _ hR)
 |label l=>
  intro s s' e h n Q M a w hR hQ;simp only[exec,a09,a1k]at h;obtain⟨rfl,rfl⟩:=h;exact wpIn_label (hQ _ _ _ hR)
 |exit id=>
  intro s s' e h n Q M a w hR hQ;simp only[exec,a09,a1k]at h;obtain⟨rfl,rfl⟩:=h;exact wpIn_exit (hQ _ _ _ hR)
 |ret=>
  intro s s' e h n Q M a w hR hQ;simp only[exec,a09,a1k]at h;obtain⟨rfl,rfl⟩:=h;exact wpIn_ret (hQ _ _ _ hR)
 |region id ops draw=>
  intro s s' e h n Q M a w hR hQ;simp only[exec]at h;split at h
  .rename_i s1 yB uF;split at h
   .rename_i hd;simp only[a09,a1k]at h;obtain⟨rfl,rfl⟩:=h;cases draw with
    |false=>exact a3R hC hB uF hR fun M' a' w' GY _=>hQ _ _ _ (GY.pick _)
    |true=>
     simp only[aah,agp,a2n]at hd;exact a04 hC hB hm uF hd.1 hd.2 hR fun M' a' w' GY _=>hQ _ _ _ (GY.pick _)
   simp at h
  simp at h
 |seq x y XE ihy=>
  intro s s' e h n Q M a w hR hQ;simp only[exec]at h;split at h
  .rename_i s1 hx;exact wpIn_seq (XE s s1 .norm hx n _ M a w hR fun M1 a1 w1 yD=>ihy s1 s' e h n Q M1 a1 w1 yD hQ)
  rename_i iI;refine wpIn_seq (XE s s' e h n _ M a w hR fun M1 a1 w1 yD=>?_);cases e with
  |norm=>exact(iI s' h).elim
  |exit id=>exact hQ _ _ _ yD
  |ret=>exact hQ _ _ _ yD
 |cond c x y XE ihy=>
  intro s s' e h n Q M a w hR hQ;simp only[exec]at h;have hev:∀b,rJ s.env c=some (.bool b)->a.eval c=.bool b:=by intro b hb;have:=ZL hR.env hb;generalize a.eval c=z at this;cases this;rfl
  split at h
  .rename_i hc;exact wpIn_cond_true (hev _ hc) (XE s s' e h n Q M a w hR hQ)
  .rename_i hc;exact wpIn_cond_false (hev _ hc) (ihy s s' e h n Q M a w hR hQ)
  simp at h
 |block id b ih=>
  intro s s' e h n Q M a w hR hQ;simp only[exec]at h;split at h
  .rename_i i s1 hb;simp only[a09,a1k]at h;obtain⟨rfl,rfl⟩:=h;refine wpIn_block (ih s s1 (.exit i) hb n _ M a w hR fun M1 a1 w1 yD=>?_);have:=hQ _ _ _ yD;by_cases hi:i=id
   .simp only[hi,a2p]at this;simp only[a05,Exit.inBlock,hi,a2p];exact this
   simp only[hi,a3U]at this;simp only[a05,Exit.inBlock,hi,a3U];exact this
  rename_i iI;refine wpIn_block (ih s s' e h n _ M a w hR fun M1 a1 w1 yD=>?_);cases e with
  |norm=>exact hQ _ _ _ yD
  |exit i=>exact(iI i s' h).elim
  |ret=>exact hQ _ _ _ yD
 |scope b ih=>
  intro s s' e h n Q M a w hR hQ;simp only[exec]at h;refine P9 (ih s s' e h n _ M a w hR fun M1 a1 w1 yD=>?_);have:=hQ _ _ _ yD;cases e<;>exact this
 |loop b ih=>
  intro s s' e h;simp only[exec]at h;exact NU hB (live:=T.eY f (dZ b)) (fun s e s' hs=>ih _ _ _ hs) h
 |rangeFunc g ps vY body iha ihb=>
  intro s s' e h;simp only[exec]at h;split at h
  .rename_i f1 a1 b1 hg;split at h
   .rename_i hv;simp only[a2n,a6A]at hv;rw[hr hv.2];split at h
    .rename_i v h1 ws yP;split at h
     .rename_i rd f2 RP e2 Dy a2 b2 jW hh;split at h
      .rename_i e' hj;simp only[a09,a1k]at h;obtain⟨rfl,rfl⟩:=h;exact a6P hC hB hg hv.1 yP hh hj rfl
      simp at h
     simp at h
    simp at h
   simp at h
  simp at h
 |_=>intro s s' e h;simp[exec]at h
end
def a4a(tmps:Array LI3):ResultVar->Sem LI3
 |.tmp t=>pure (tmps.getD t Go.undef)
 |.cell b t=>do loadVar t (<-asAddr (tmps.getD b Go.undef))
theorem a06(fn:Func)(tmps:Array LI3):results fn tmps=(do
  let vs <-fn.results.mapM (a4a tmps)
  pure (if h:vs.size=1 then vs[0]else .tuple vs)):=by
 have key:∀g:ResultVar->Sem LI3,(∀r,g r=a4a tmps r)->(do
   let vs <-fn.results.mapM g
   pure (if h:vs.size=1 then vs[0]else Value.tuple vs):Sem LI3)=(do
   let vs <-fn.results.mapM (a4a tmps)
   pure (if h:vs.size=1 then vs[0]else Value.tuple vs)):=fun g hg=>by rw[show g=a4a tmps from funext hg]
 exact key _ fun r=>by cases r<;>rfl
section
variable{P:LI1}{T:vH}{call:dO}{L:Nat}{nt:Nat}{M0:Mp}{h0:List HB}{w0:LI4}{M:Mp}{s:St}{a:Act}{w:LI4}
theorem Kr(hR:Rel M0 h0 w0 nt M s a w){r v}(h:a6e P s r=some v) :∃x,VR M.h v x/\(a4a a.tmps r).run P w=.ok x w:=by
 unfold a6e at h;split at h
 .rename_i t;split at h
  .rename_i v' hv;simp only[a09]at h;subst h;exact⟨_,(hR.env t _ hv).uZ,rfl⟩
  .simp at h
 .rename_i b t;split at h
  .rename_i e he;simp only[a0A]at h;obtain⟨⟨v',i⟩,hl,rfl⟩:=h;have hx:=hR.env b _ he;obtain⟨_,y,h1,h2⟩:=Ih hR.val hl hx (fun _ _=>trivial);refine⟨y,h1,?_⟩;show(do loadVar t (<-asAddr (a.tmps.getD b Go.undef)):Sem LI3).run P w=_;generalize a.tmps.getD b Go.undef=z at hx h2;have hz:∃ad,z=.pointer (some ad):=by
    cases hx with
    |loc hm hb=>exact⟨_,rfl⟩
    |undef|ent|FK=>simp[loadT]at hl
    |val hv=>
     cases hv with
     |ptr=>exact⟨_,rfl⟩
     |_=>simp[loadT]at hl
   obtain⟨ad,rfl⟩:=hz;simpa[asAddr,Instr.loadAt,Instr.sureAddr]using h2
  .simp at h
theorem a1P(hR:Rel M0 h0 w0 nt M s a w):∀{rs} {vs},yJ P s rs=some vs ->∃xs,bZ M.h vs xs/\(rs.mapM (a4a a.tmps)).run P w=.ok xs w
 | [],vs,h=>by simp[yJ]at h;subst h;exact⟨[],.nil,by simp⟩
 |r::rs,vs,h=>by
  simp only[yJ]at h;split at h
  .rename_i v vs' h1 h2;simp only[a09]at h;subst h;obtain⟨x,g1,g2⟩:=Kr hR h1;obtain⟨xs,g3,g4⟩:=a1P hR h2;exact⟨x::xs,.cons g1 g3,by simp only[List.mapM_cons,Sem.run_bind,g2,g4,Result.andThen_ok,Sem.run_pure]⟩
  .simp at h
theorem Pg(hR:Rel M0 h0 w0 nt M s a w){fn vs}(h:yJ P s fn.results.toList=some vs):∃y,VR M.h (one vs) y/\(results fn a.tmps).run P w=.ok y w:=by
 obtain⟨xs,h1,h2⟩:=a1P hR h;have uF:(results fn a.tmps).run P w=.ok (if h:xs.toArray.size=1 then xs.toArray[0]else .tuple xs.toArray) w:=by rw[a06,Array.mapM_eq_mapM_toList];simp only[Sem.run_bind,Sem.run_map,h2,Result.andThen_ok,Sem.run_pure]
 refine⟨_,?_,uF⟩
 match vs,xs,h1 with
 | [],xs,h1=>
  have:=h1.oO;subst this;exact .RQ .nil
 | [v],xs,h1=>
  obtain⟨x,xs',rfl,hx,GN⟩:=h1.iq;have:=GN.oO;subst this;exact hx
 |v::v'::vs,xs,h1=>
  obtain⟨x,xs',rfl,hx,GN⟩:=h1.iq;obtain⟨x',avK,rfl,hy,hy'⟩:=GN.iq;simp only[one,af6,a4C];rw[dif_neg (by omega)];exact .RQ h1
theorem a4b(hB:xJ M0 h0 w0){d ds}(hR:Rel M0 h0 w0 nt M s a w)(hd:a.defers=d::ds) :∃r w',d.target=.collected r/\(Instr.takeDeferred r).run P w=.ok [] w'/\Rel M0 h0 w0 nt M s { a with defers:=ds } w':=by
 obtain⟨k,r,rfl,h2,⟨o,h3⟩,h4,h5⟩:=hR.marks d (by rw[hd];exact a3K);have aQ:=(a2I.1 h5).1;have hap:=hR.apart;rw[hd]at hap;obtain⟨ha1,ha2⟩:=List.pairwise_cons.1 hap;refine⟨r,{ w with heap:=w.heap.setIfInBounds r (.deferred none) },rfl,?_,?_⟩
 .simp[Instr.takeDeferred,getObj,setObj,Sem.run,h5]
 have a07:∀c,c≠r->(w.heap.setIfInBounds r (.deferred none))[c]? = w.heap[c]?:=fun c hc=>by rw[aa3,a18 (fun e=>hc e.symm)]
 refine⟨⟨?_,hR.val.own,fun k l hk c hc=>by simpa using hR.val.inb k l hk c hc⟩,?_,hR.env,hR.size,?_,ha2⟩
 .intro k' l oQ _;obtain⟨b,g1,g2⟩:=hR.val.ok k' l oQ trivial;refine⟨b,g1,?_⟩;by_cases Gi:r∈aI l
  .cases b with
   |cells kk cs=>
    cases l with
    |obj r' _=>exact g2.elim
    |cells ls=>
     obtain⟨p,hp,e⟩:=a1w.1 Gi;obtain⟨arr,ty,fz,e1,_⟩:=(g2.2.1 p hp).row;rw[e,h5]at e1;cases e1
   |nN cs=>
    cases l with
    |obj r' _=>exact g2.elim
    |cells ls=>
     obtain⟨p,hp,e⟩:=a1w.1 Gi;obtain⟨_,_,g2⟩:=g2;obtain⟨arr,ty,fz,e1,_⟩:=(g2.2.1 p hp).row;rw[e,h5]at e1;cases e1
   |map es=>
    cases l with
    |cells ls=>exact g2.elim
    |obj r' _=>
     simp[aI]at Gi;subst Gi;obtain⟨xs,e1,_⟩:=g2;rw[h5]at e1;cases e1
   |dB m n seen=>
    cases l with
    |cells ls=>exact g2.elim
    |obj r' _=>
     simp[aI]at Gi;subst Gi;obtain⟨_,_,_,_,e1,_⟩:=g2;rw[h5]at e1;cases e1
   |loop rd f nt env ps a b jW=>
    cases l with
    |cells ls=>exact g2.elim
    |obj r' _=>
     simp[aI]at Gi;subst Gi;obtain⟨lp,e1,_⟩:=g2;rw[h5]at e1;cases e1
   |mark=>
    cases l with
    |cells ls=>exact g2.elim
    |obj r' _=>
     show r'<(w.heap.setIfInBounds r (.deferred none)).size;have g2':r'<w.heap.size:=g2;simpa using g2'
  .exact g2.mono (.refl _) fun c hc=>a07 c fun e=>Gi (e▸hc)
 .have hX:=hR.ext;refine⟨hX.JI,fun c hc hf=>?_,hX.nX,hX.kR,hX.fresh,by simpa using hX.size,hX.has,hX.wsub,hX.wrote,hX.os,hX.output,hX.tape⟩;rw[<-hX.frame c hc hf];refine a07 c fun e=>?_;obtain⟨l0,g1,_⟩:=hX.fresh _ _ h3 c (by simp[aI,e]) hc;have:=hB.val.has g1;rw[h2]at this;cases this
 .intro d' ZW;obtain⟨k',r',e1,e2,e3,e4,e5⟩:=hR.marks d' (by rw[hd];exact a3I _ ZW);refine⟨k',r',e1,e2,e3,e4,?_⟩;rw[a07 r' fun e=>ha1 d' ZW (by rw[e1,e]),e5]
theorem Ph(hB:xJ M0 h0 w0){F n fn R}:∀(ds) (a) (w),a.defers=ds->Rel M0 h0 w0 nt M s a w ->(∀w',Rel M0 h0 w0 nt M s { a with defers:=[] } w'->∃v,(results fn a.tmps).run P w'=.ok v w'/\R (.returned v) w')->LeavesInM F n P fn a.tmps R ds .returning w
 | [],a,w,hd,hR,hK=>by
  simp only[LeavesInM,LeavesIn];exact hK w (by
   have:a={ a with defers:=[] }:=by cases a;simp at hd;subst hd;rfl
   rw[<-this];exact hR)
 |d::ds,a,w,hd,hR,hK=>by obtain⟨r,w',h1,h2,h3⟩:=a4b (P:=P) hB hR hd;refine⟨by simp,.inl ⟨r,w',h1,h2,?_⟩⟩;exact Ph hB ds { a with defers:=ds } w' rfl h3 hK
end
section
variable{P:LI1}{T:vH}{call:dO}{L:Nat}{nt:Nat}{M:Mp}{h:List HB}{w:LI4}{M':Mp}{s:St}{a:Act}{w':LI4}
theorem a08(hB:xJ M h w)(hR:Rel M h w nt M' s a w'){v y}(hv:VR M'.h v y):jE M h w v s.heap s.ws y w':=by
 refine⟨M'.only,GX hR.val (fun _ _ _=>trivial),fun _=>rfl,?_,hv⟩;have hX:=hR.ext;have hk:∀k,(lD h k).isSome=true->∃b,k=.h b:=fun k hk=>let ⟨b,e,_⟩:=DK hk;⟨b,e⟩
 exact
  {JI:=fun k l hl=>by
    cases k with
    |l j=>rw[hB.loc j]at hl;cases hl
    |h b=>exact hX.JI _ _ hl
   frame:=hX.frame
   nX:=fun k e hn=>by obtain⟨b,rfl⟩:=hk k e;exact hX.nX _ e hn
   kR:=fun k e hn=>by
    cases k with
    |h b=>exact hX.kR (.h b) e hn
    |l j=>exact(hB.loc j).symm
   fresh:=fun k l hl=>by
    cases k with
    |h b=>exact hX.fresh (.h b) l hl
    |l j=>cases hl
   size:=hX.size
   has:=fun k e=>by obtain⟨b,rfl⟩:=hk k e;exact hX.has _ e
   wsub:=hX.wsub
   wrote:=hX.wrote
   os:=hX.os
   output:=hX.output
   tape:=hX.tape }
theorem Kt{N}:∀{args} {xs} {k t} {e},bZ N args xs->dR t (o8 k args)=some e->∃i v x,t=k+i/\e=.val v/\xs[i]? = some x/\VR N v x
 | [],xs,k,t,e,h,hl=>by simp[o8,dR]at hl
 |v::vs,xs,k,t,e,h,hl=>by
  obtain⟨x,xs',rfl,h1,h2⟩:=h.iq;simp only[o8,dR]at hl;split at hl
  .rename_i hk;cases hl;exact⟨0,v,x,by omega,rfl,rfl,h1⟩
  obtain⟨i,v',x',e1,e2,e3,e4⟩:=Kt h2 hl;exact⟨i+1,v',x',by omega,e2,by simpa using e3,e4⟩
end
open Go.ChangeMaps
def Bd(ops:Array Oper):Option (Nat×Nat×Oper×Oper):=
 match ops.toList with
 | [a,b]=>match a.op,a.dst,a.guard with
  |.next (.tmp it) false,some nx,none=>if a.after.toList.all (fun e=>!Region.binds .any e)&&b.after.toList.any (fun e=>Region.binds .any e&&e.on==0)&&b.after.toList.all (fun e=>!Region.binds .any e||e.on==0)then some (it,nx,a,b)else none
  |_,_,_=>none
 |_=>none
def a1Q(fl:Nat)(s:St)(it:Nat)(K:St->TV->Prop):Prop:=
 ∃b r n seen es,dR it s.env=some (.val (.iter b))/\s.heap[b]? = some (.dB r n seen)/\s.heap[r]? = some (.map es)/\es.length=n /\
  ((∀j,j<n->j∈seen)->K s (.dM [.bool false])) /\
  ∀j e,j∉seen->es[j]? = some e->K { s with heap:=s.heap.set b (.dB r n (j::seen)),ws:=kM fl [.h b] s.ws } (.dM [.bool true,e.1,e.2])
def IE(g:St->(Ex->St->Prop)->Prop):Nat->St->(Ex->St->Prop)->Prop
 | 0,_,_=>False
 |n+1,s,Q=>g s fun e s=>match e with
  |.norm=>IE g n s Q
  |e=>Q e s
abbrev xM:=TV->List TV->List HB->(TV->List HB->List Nat->Prop)->Prop
def DN:xM:=fun _ _ _ _=>False
def a6Q(T:vH)(env:List (Nat×EV))(g:Operand):Bool:=match rJ env g with
 |some (.fn f1 _ _)=>T.din.contains f1
 |_=>false
def afE(cd:xM)(f fl nt:Nat)(g:Operand)(ps:Array Tmp)(vY body:Code)(s:St)(Q:Ex->St->Prop):Prop:=
 ∃f1 a1 b1,rJ s.env g=some (.fn f1 a1 b1)/\s.env.all isVal=true/\cd (.fn f1 a1 b1) [.lC (s.heap.length+1)] (s.heap++[.mark,.loop true f nt s.env ps.toList vY body none]) fun _ h ws=>
  ∃rd f2 RP e2 Dy a2 b2 jW e,h[s.heap.length+1]? = some (.loop rd f2 RP e2 Dy a2 b2 jW)/\SX rd jW=some e/\Q e { s with heap:=h.set (s.heap.length+1) (.loop false f2 RP e2 Dy a2 b2 (some .skip)),ws:=kM fl (ws.map .h) s.ws }
def fM(P:LI1)(T:vH)(call:dO)(cd:xM)(L:Nat)(f:Nat)(fl nt:Nat):Code->St->(Ex->St->Prop)->Prop
 |.region id ops draw,s,Q=>match Bd ops with
  |some (it,nx,_,b)=>nx<nt/\a1Q fl s it fun s v=>∃s2 is,lU P call (fun d=>T.V4 f d) fl nt ops [b] (s.put (some nx) (.val v))=some (s2,is)/\Q .norm { s2 with env:=pick (T.iL f id) s2.env }
  |none=>∃e s',exec P T call L f false fl nt (.region id ops draw) s=some (e,s')/\Q e s'
 |.seq a b,s,Q=>fM P T call cd L f fl nt a s fun e s=>match e with
  |.norm=>fM P T call cd L f fl nt b s Q
  |e=>Q e s
 |.cond c a b,s,Q=>match rJ s.env c with
  |some (.bool true)=>fM P T call cd L f fl nt a s Q
  |some (.bool false)=>fM P T call cd L f fl nt b s Q
  |_=>False
 |.block id b,s,Q=>fM P T call cd L f fl nt b s fun e s=>Q (match e with|.exit i=>if i=id then .norm else .exit i|e=>e) s
 |.scope b,s,Q=>fM P T call cd L f fl nt b s Q
 |.loop b,s,Q=>IE (fun s Q=>fM P T call cd L f fl nt b (kN (T.eY f (dZ b)) s) Q) L s Q
 |.rangeFunc g ps vY body,s,Q=>if a6Q T s.env g=true then afE cd f fl nt g ps vY body s Q else ∃e s',exec P T call L f false fl nt (.rangeFunc g ps vY body) s=some (e,s')/\Q e s'
 |c,s,Q=>∃e s',exec P T call L f false fl nt c s=some (e,s')/\Q e s'
section
variable{P:LI1}{T:vH}{call:dO}{L f:Nat}{nt:Nat}{M0:Mp}{h0:List HB}{w0:LI4}{r:Option Nat}{ops:Array Oper}{M:Mp}{s:St}{a:Act}{w:LI4}
theorem Vo(hm:P.follows .mixedOrders=true){id o1 o2 draw F n Q}(aaI:ops=#[o1,o2])(h1:o1.after.toList.all (fun e=>!Region.binds .any e)=true)(h2:o2.after.toList.any (fun e=>Region.binds .any e&&e.on==0)=true)(h3:o2.after.toList.all (fun e=>!Region.binds .any e||e.on==0)=true)(h:∀w',(w'=w\/w'={ w with drawn:=w.drawn+1 })->wpOpIn F n P ops Q 0 (wpOpIn F n P ops Q 1 (Q .normal)) a w'):(Code.region id ops draw).wpIn F n P Q a w:=by
 cases draw with
 |false=>
  refine wpIn_region ?_;have:=h w (.inl rfl);have e:List.range ops.size=[0,1]:=by rw[aaI];rfl
  rw[e,wpOpsIn_cons];refine wpOpIn_mono (fun a w hx=>?_) this;rw[wpOpsIn_cons];exact wpOpIn_mono (fun a w hx=>hx) hx
 |true=>
  refine wpIn_region_any hm ?_;have qV:ops.size=2:=by rw[aaI];rfl
  have w1:∀D,vO D o1:=fun D e he hb=>by have:=a5L.1 h1 e (by simpa using he);simp[hb]at this
  have w2:∀D,vO D o2->D 0:=fun D hD=>by
   obtain⟨e,he,hb⟩:=agF.1 h2;simp only[a2n,a6x]at hb;have:=hD e (by simpa using he) hb.1
   rwa [hb.2]at this
  have g0:ops[0]? = some o1:=by rw[aaI];rfl
  have g1:ops[1]? = some o2:=by rw[aaI];rfl
  have g2:∀i,2<=i->ops[i]? = none:=fun i hi=>Array.getElem?_eq_none (by omega);rw[qV];have r0:∀i,i∈Region.ready .any ops (Array.replicate 2 false)↔i=0:=by
   intro i;rw[uI (by simp[qV])];constructor
   .rintro⟨o,ho,_,hw⟩
    match i with
    | 0=>rfl
    | 1=>
     rw[g1]at ho;cases ho;have:=w2 _ hw;simp at this
    |i+2=>rw[g2 _ (by omega)]at ho;cases ho
   .rintro rfl;exact⟨o1,g0,by simp,w1 _⟩
  have r1:∀i,i∈Region.ready .any ops ((Array.replicate 2 false).setIfInBounds 0 true)↔i=1:=by
   intro i;rw[uI (by simp[qV])];constructor
   .rintro⟨o,ho,hl,_⟩
    match i with
    | 0=>simp at hl
    | 1=>rfl
    |i+2=>rw[g2 _ (by omega)]at ho;cases ho
   .rintro rfl;refine⟨o2,g1,by simp,fun e he hb=>?_⟩;have:=a5L.1 h3 e (by simpa using he);simp only[hb,aah,agp,a6x]at this;rw[this];simp
  have r2:Region.ready .any ops (((Array.replicate 2 false).setIfInBounds 0 true).setIfInBounds 1 true)=[]:=by
   refine a6W.2 fun i hi=>?_;obtain⟨o,ho,hl,_⟩:=(uI (by simp[qV])).1 hi
   match i with
   | 0=>simp at hl
   | 1=>simp at hl
   |i+2=>rw[g2 _ (by omega)]at ho;cases ho
  refine⟨fun h0=>?_,fun i hi=>?_⟩
  .have:=(r0 0).2 rfl;rw[h0]at this;cases this
  .have:=(r0 i).1 hi;subst this;refine wpOpIn_mono (fun a w hx=>?_) (h _ (.inr rfl));refine⟨fun h0=>?_,fun i hi=>?_⟩
   .have:=(r1 1).2 rfl;rw[h0]at this;cases this
   .have:=(r1 i).1 hi;subst this;exact wpOpIn_mono (fun a w hx=>⟨r2,hx⟩) hx
theorem Rel.ajB(hR:Rel M0 h0 w0 nt M s a w){d v x}(hd:d<nt)(hx:ER M v x):Rel M0 h0 w0 nt M (s.put (some d) v) (a.put (some d) x) w:=by
 have hg:(s.put (some d) v).get=s.get:=getEnv s _ _;refine⟨by rw[hg];exact hR.val,by rw[hg];exact hR.ext,?_,by rw[Iy];exact hR.size,?_,by rw[jX];exact hR.apart⟩
 .intro t e hl;rw[zO]at hl;rw[zQ];by_cases ZW:some d=some t
  .rw[a1e ZW]at hl;have:=hR.size;cases ZW;rw[a1e ⟨rfl,by omega⟩];cases hl;exact hx
  rw[a18 ZW]at hl;rw[a18 (fun h=>ZW h.1)];exact hR.env t e hl
 rw[jX,hg];exact hR.marks
theorem aaJ(hB:xJ M0 h0 w0){F n Q o}{it nx i:Nat}{K K'}(ho:ops[i]? = some o)(jy:o.op=.next (.tmp it) false)(afC:o.dst=some nx)(hg:o.guard=none)(hd:nx<nt)(hR:Rel M0 h0 w0 nt M s a w) (hN:a1Q h0.length s it K') (hK:∀s1 v a1 w1,K' s1 v->Rel M0 h0 w0 nt M (s1.put (some nx) (.val v)) a1 w1->K a1 w1):wpOpIn F n P ops Q i K a w:=by
 obtain⟨b,r,n',seen,es,RZ,hb,hr,hn,ajC,ajD⟩:=hN;have hx:=hR.env it _ RZ;obtain⟨r',o',hm⟩:∃r' o',a.tmps.getD it Go.undef=.pointer (some ⟨r',0,none⟩)/\M (.h b)=some (.obj r' o'):=by
  generalize a.tmps.getD it Go.undef=xv at hx;cases hx with
  |val hx=>cases hx with
   |iter h=>exact⟨_,_,rfl,h⟩
 obtain⟨hm,hmb⟩:=hm;obtain⟨gQ,c1,c2⟩:=hR.val.ok _ _ hmb trivial;simp only[St.get,hb,a09]at c1;subst c1;obtain⟨rb,q,sa,d1,d2,d3,d4⟩:=c2;obtain⟨gQ,c1,c2⟩:=hR.val.ok (.h r) _ d1 trivial;simp only[St.get,hr,a09]at c1;subst c1;obtain⟨xs,g1,g2⟩:=c2;have hnn:xs.size=n':=by rw[<-g2.len];exact hn
 have hold:∀x∈xs.toList,x.born<n':=fun x hx=>by
  obtain⟨k,hk⟩:=a9O.1 hx;have oQ:xs[k]? = some x:=by simpa using hk
  rw[(g2.at_ k x oQ).1,<-hnn];exact(a2I.1 oQ).1
 have adq:∀k j,q[k]? = some j->(k∈sa.toList↔j∈seen):=by
  intro k j hkj;have e1:k∈sa.toList->j∈seen:=fun hk=>by have:(q[k]?:Option Nat)∈sa.toList.map (fun i=>q[i]?):=a1w.2 ⟨k,hk,rfl⟩;rw[d4,hkj]at this;obtain⟨j',h1,h2⟩:=a1w.1 this;cases h2;simpa using h1
  have e2:j∈seen->k∈sa.toList:=fun hj=>by have:some j∈seen.reverse.map some:=a1w.2 ⟨j,by simpa using hj,rfl⟩;rw[<-d4]at this;obtain⟨k',h1,h2⟩:=a1w.1 this;have i1:=a0x.1 h2;have i2:=a0x.1 hkj;have:=(aaZ g2.nod (h₀:=i1.1) (h₁:=i2.1)).1 (i1.2.trans i2.2.symm);rw[<-this];exact h1
  exact⟨e1,e2⟩
 have adr:∀x,x∈(leftOf xs sa).toList↔x∈xs.toList/\x.born∉sa.toList:=fun x=>by simp[leftOf]
 have ads:a.eval (.tmp it)=.pointer (some ⟨r',0,none⟩):=by simpa[Act.eval]using hm
 unfold wpOpIn;rw[ho];have hw:Region.wanted o (yielded ops a.tmps)=true:=by simp[Region.wanted,hg]
 simp only[hw,a2p];refine⟨fun f hf=>by simp[Oper.about,jy]at hf,?_⟩;rcases run_next_at (P:=P) w o.type r' rb n' n' sa xs xs.size d2 g1 hold (a1l _)with⟨h1,h2⟩|⟨e,h1,w1,h2,h3⟩
 .have uF:(o.semAt F.round a.eval).run P w=.ok (.value (.tuple #[.bool false])) w:=by simp[Oper.semAt,execOp,jy,ads,h2]
  rw[uF,Oper.uponIn_value,afC];refine hK s _ _ _ (ajC fun j hj=>?_) (hR.ajB hd (.val (.RQ (.cons (.bool false) .nil))));obtain⟨k,hk⟩:=a9O.1 (g2.sur j (by omega));refine(adq k j hk).1 ?_;apply ade;intro hns;have hkx:k<xs.size:=by rw[<-g2.ord];exact(a0x.1 hk).1
  have:xs[k]∈(leftOf xs sa).toList:=(adr _).2 ⟨by simp,by rw[(g2.at_ k _ (a4o hkx)).1];exact hns⟩;have h0:(leftOf xs sa).toList=[]:=a4u (by simpa using h1);rw[h0]at this;cases this
 .obtain⟨hex,NP⟩:=(adr e).1 h1;obtain⟨k,hk⟩:=a9O.1 hex;have oQ:xs[k]? = some e:=by simpa using hk
  obtain⟨z1,j,e',z2,z3,z4,z5⟩:=g2.at_ k e oQ;have hj:j∉seen:=fun h=>NP (by rw[z1];exact(adq k j z2).2 h);have yD:Rel M0 h0 w0 nt M s a w1:=by
   rcases h2 with rfl|rfl
   .exact hR
   .exact⟨hR.val.of_heap rfl,hR.ext.drew rfl rfl rfl rfl,hR.env,hR.size,hR.marks,hR.apart⟩
  have hh:w1.heap=w.heap:=by rcases h2 with rfl|rfl<;>rfl
  have uF:(o.semAt F.round a.eval).run P w=.ok (.value (.tuple #[.bool true,e.key,e.val])) (setBlock w1 r' (.mapIter (some rb) n' (sa.push e.born) xs.size)):=by simp[Oper.semAt,execOp,jy,ads,h3]
  rw[uF,Oper.uponIn_value,afC];have aQ:r'<w1.heap.size:=by rw[hh];exact(a2I.1 d2).1
  obtain⟨v4,x4⟩:=EW (o':=.mapIter (some rb) n' (sa.push e.born) xs.size) (b':=.dB r n' (j::seen)) yD.val hmb hb rfl ⟨rb,q,sa.push e.born,d1,by simp[aQ,hnn],d3,by
   rw[Array.toList_push,a4Q,d4,z1];simp[z2]⟩
  have TJ:=yD.next hB (s':={ s with heap:=s.heap.set b (.dB r n' (j::seen)),ws:=kM h0.length [.h b] s.ws }) v4 x4 rfl rfl (fun _ _ h=>h);exact hK _ _ _ _ (ajD j e' hj z3) (TJ.ajB hd (.val (.RQ (.cons (.bool true) (.cons z4 (.cons z5 .nil))))))
theorem Vp{it nx o1 o2}(h:Bd ops=some (it,nx,o1,o2)):ops=#[o1,o2]/\o1.op=.next (.tmp it) false/\o1.dst=some nx/\o1.guard=none/\o1.after.toList.all (fun e=>!Region.binds .any e)=true/\o2.after.toList.any (fun e=>Region.binds .any e&&e.on==0)=true/\o2.after.toList.all (fun e=>!Region.binds .any e||e.on==0)=true:=by
 unfold Bd at h;split at h
 .rename_i x y hl;split at h
  .rename_i it' nx' h1 h2 h3;split at h
   .rename_i hc;simp only[a09,a1k]at h;obtain⟨rfl,rfl,rfl,rfl⟩:=h;simp only[a2n]at hc;exact⟨afh (by simpa using hl),h1,h2,h3,hc.1.1,hc.1.2,hc.2⟩
   cases h
  cases h
 cases h
def NV(P:LI1)(M0:Mp)(h0:List HB)(w0:LI4)(nt:Nat)(c:Code)(s:St)(QT:Ex->St->Prop):Prop:=
 ∀(n:Nat) (Q:Exit->Act->LI4->Prop) (M:Mp) (a:Act) (w:LI4),Rel M0 h0 w0 nt M s a w->(∀e s' M' a' w',QT e s'->Rel M0 h0 w0 nt M' s' a' w'->Q (a05 e) a' w')->c.wpIn (og none) n P Q a w
theorem a6R(hB:xJ M0 h0 w0){c live g}(ih:∀s QT,g s QT->NV P M0 h0 w0 nt c (kN live s) QT){k s QT}(h:IE g k s QT):NV P M0 h0 w0 nt (.loop c) s QT:=by
 intro n Q M a w hR hQ
 let J:Act->LI4->Nat->Prop:=fun a w k=>∃s M,IE g k s QT/\Rel M0 h0 w0 nt M s a w
 refine wpIn_loop (fun a w=>∃k,J a w k) (fun a w=>leastOf (J a w)) ⟨k,s,M,h,hR⟩ ?_;intro a1 w1 hI;obtain⟨⟨s1,M1,RZ,yD⟩,_⟩:=leastOf_spec hI;generalize leastOf (J a1 w1)=k1 at RZ ⊢;cases k1 with
 |zero=>exact RZ.elim
 |succ k1=>
  refine ih s1 _ RZ n _ _ a1 w1 (yD.head hB live) fun e s2 M2 a2 w2 hq TJ=>?_;cases e with
  |norm=>
   have hJ:J a2 w2 k1:=⟨s2,M2,hq,TJ⟩;exact⟨⟨k1,hJ⟩,Nat.lt_succ_of_le ((leastOf_spec ⟨k1,hJ⟩).2 k1 hJ)⟩
  |exit id=>exact hQ _ _ M2 a2 w2 hq TJ
  |ret=>exact hQ _ _ M2 a2 w2 hq TJ
def NW(P:LI1)(cd:xM):Prop:=
 ∀f1 a1 b1 args h K,cd (.fn f1 a1 b1) args h K->∀(M:Mp) (w:LI4) (x:LI3) (xs:List LI3),Valid M rU (lD h) w->(∀k,M (.l k)=none)->VR M.h (.fn f1 a1 b1) x->bZ M.h args xs ->
  ∃d,(∀w,(Deferred.ofValue x xs.toArray).run P w=.ok d w)/\EU P d w fun y w'=>∃v h' ws,K v h' ws/\jE M h w v h' ws y w'
theorem a6S(hm:P.follows .mixedOrders=true)(hC:iM P call){cd}(hD:NW P cd)(hB:xJ M0 h0 w0):∀(c) (s) (QT),fM P T call cd L f h0.length nt c s QT->NV P M0 h0 w0 nt c s QT:=by
 have plain:∀(c:Code) (s:St) (QT:Ex->St->Prop),(∃e s',exec P T call L f false h0.length nt c s=some (e,s')/\QT e s')->NV P M0 h0 w0 nt c s QT:=by rintro c s QT ⟨e,s',h1,h2⟩ n Q M a w hR hQ;exact wP (iy:=false) hm hC hB (fun _=>rfl) c s s' e h1 n Q M a w hR fun M' a' w' GY=>hQ e s' M' a' w' h2 GY
 intro c
 induction c with
 |region id ops draw=>
  intro s QT h;simp only[fM]at h;split at h
  .rename_i it nx o1 o2 hn;obtain⟨hd,hN⟩:=h;obtain⟨e1,e2,e3,e4,e5,e6,e7⟩:=Vp hn;intro n Q M a w hR hQ;refine Vo hm e1 e5 e6 e7 fun w' hw'=>?_;have GY:Rel M0 h0 w0 nt M s a w':=by
    rcases hw' with rfl|rfl
    .exact hR
    exact⟨hR.val.of_heap rfl,hR.ext.drew rfl rfl rfl rfl,hR.env,hR.size,hR.marks,hR.apart⟩
   refine aaJ hB (i:=0) (o:=o1) (by rw[e1];rfl) e2 e3 e4 hd GY hN ?_;rintro s1 v a1 w1 ⟨s2,is,uF,hq⟩ yD;have ho2:ops[1]? = some o2:=by rw[e1];rfl
   obtain⟨i,s3,is',hS,hr,_⟩:=DL uF;simp only[lU,a09,a1k]at hr;obtain⟨rfl,rfl⟩:=hr;refine(Iz hC yD hS).2 none n Q 1 _ ho2 fun x w2 vK=>?_;obtain⟨M',TJ⟩:=P5 hB yD hS vK;exact hQ .norm _ _ _ _ hq (TJ.pick _)
  exact plain _ _ _ h
 |seq x y XE ihy=>
  intro s QT h n Q M a w hR hQ;simp only[fM]at h;refine wpIn_seq (XE s _ h n _ M a w hR fun e s1 M1 a1 w1 hq yD=>?_);cases e with
  |norm=>exact ihy s1 _ hq n Q M1 a1 w1 yD hQ
  |exit id=>exact hQ _ _ _ _ _ hq yD
  |ret=>exact hQ _ _ _ _ _ hq yD
 |cond c x y XE ihy=>
  intro s QT h n Q M a w hR hQ;simp only[fM]at h;have hev:∀b,rJ s.env c=some (.bool b)->a.eval c=.bool b:=by intro b hb;have:=ZL hR.env hb;generalize a.eval c=z at this;cases this;rfl
  split at h
  .rename_i hc;exact wpIn_cond_true (hev _ hc) (XE s _ h n Q M a w hR hQ)
  .rename_i hc;exact wpIn_cond_false (hev _ hc) (ihy s _ h n Q M a w hR hQ)
  exact h.elim
 |block id b ih=>
  intro s QT h n Q M a w hR hQ;simp only[fM]at h;refine wpIn_block (ih s _ h n _ M a w hR fun e s1 M1 a1 w1 hq yD=>?_);have:=hQ _ _ _ _ _ hq yD;cases e with
  |norm=>exact this
  |ret=>exact this
  |exit i=>
   by_cases hi:i=id
   .simp only[hi,a2p]at this;simp only[a05,Exit.inBlock,hi,a2p];exact this
   simp only[hi,a3U]at this;simp only[a05,Exit.inBlock,hi,a3U];exact this
 |scope b ih=>
  intro s QT h n Q M a w hR hQ;simp only[fM]at h;refine P9 (ih s _ h n _ M a w hR fun e s1 M1 a1 w1 hq yD=>?_);have:=hQ _ _ _ _ _ hq yD;cases e<;>exact this
 |loop b ih=>
  intro s QT h;simp only[fM]at h;exact a6R hB (live:=T.eY f (dZ b)) (fun s QT hs=>ih _ _ hs) h
 |rangeFunc g ps vY body=>
  intro s QT h;simp only[fM]at h;split at h
  .obtain⟨f1,a1,b1,hg,hv,hc⟩:=h;intro n Q M a w hR hQ;exact TK hB hg hv (fun M w x xs=>hD _ _ _ _ _ _ hc M w x xs) (fun v h ws hk=>hk) n Q M a w hR hQ
  exact plain _ _ _ h
 |_=>
  intro s QT h;simp only[fM]at h;exact plain _ _ _ h
end
def nY(g:Nat->Option Nat):TV->Option TV
 |.ptr b o l=>(g b).map fun b=>.ptr b o l
 |.aO b o n c z e=>(g b).map fun b=>.aO b o n c z e
 |.map r=>(g r).map .map
 |.lC _=>none
 |.iter _=>none
 |.fn f a c=>match zU g a,zU g c with
  |some a,some c=>some (.fn f a c)
  |_,_=>none
 |.agg cs=>(zU g cs).map .agg
 |.dM cs=>(zU g cs).map .dM
 |.bool b=>some (.bool b)
 |.int k n=>some (.int k n)
 |.str s=>some (.str s)
 |.nil k=>some (.nil k)
where
 zU (g:Nat->Option Nat):List TV->Option (List TV)
 | []=>some []
 |c::cs=>match nY g c,zU g cs with
  |some v,some vs=>some (v::vs)
  |_,_=>none
theorem Pj{g}:∀{az Zz},nY.zU g az=some Zz->az.length=Zz.length/\∀(i:Nat) c',Zz[i]? = some c'->∃c,az[i]? = some c/\nY g c=some c'
 | [],Zz,h=>by cases h;exact⟨rfl,fun i c h=>by simp at h⟩
 |a::az,Zz,h=>by
  simp only[nY.zU]at h;split at h
  .rename_i v vs e1 e2;cases h;obtain⟨h1,h2⟩:=Pj e2;refine⟨by simp[h1],fun i c' hi=>?_⟩;cases i with
   |zero=>simp at hi;subst hi;exact⟨a,rfl,e1⟩
   |succ i=>exact h2 i c' (by simpa using hi)
  cases h
section
variable{g:Nat->Option Nat}{N N':Np}
theorem NY(hg:∀b b',g b=some b'->N' b'=N b){v x}(h:VR N v x):∀{v'},nY g v=some v'->VR N' v' x:=by
 have dD:∀{az:List TV} {xs:List LI3},az.length=xs.length->(∀(i:Nat) (c:TV) (v:LI3),az[i]? = some c->xs[i]? = some v->∀{v'},nY g c=some v'->VR N' v' v)->∀{Zz},nY.zU g az=some Zz->Zz.length=xs.length/\∀(i:Nat) (c:TV) (v:LI3),Zz[i]? = some c->xs[i]? = some v->VR N' c v:=by intro az xs hl ha Zz hr;obtain⟨h1,h2⟩:=Pj hr;exact⟨by rw[<-h1,hl],fun i c v e1 e2=>by obtain⟨c0,f1,f2⟩:=h2 i c e1;exact ha i c0 v f1 e2 f2⟩
 induction h with
 |bool b=>intro v' h;cases h;exact .bool b
 |int k n=>intro v' h;cases h;exact .int k n
 |str s=>intro v' h;cases h;exact .str s
 |a3C=>intro v' h;cases h;exact .a3C
 |V5=>intro v' h;cases h;exact .V5
 |ZH=>intro v' h;cases h;exact .ZH
 |nfn=>intro v' h;cases h;exact .nfn
 |a3D=>intro v' h;cases h;exact .a3D
 |ptr hb hp h ht=>
  intro v' hr;simp only[nY,a0A]at hr;obtain⟨b',e,rfl⟩:=hr;exact .ptr (by rw[hg _ _ e];exact hb) hp h ht
 |aO hb hp h hl hc hx ha hk=>
  intro v' hr;simp only[nY,a0A]at hr;obtain⟨b',e,rfl⟩:=hr;exact .aO (by rw[hg _ _ e];exact hb) hp h hl hc hx ha hk
 |map h=>
  intro v' hr;simp only[nY,a0A]at hr;obtain⟨b',e,rfl⟩:=hr;exact .map (by rw[hg _ _ e];exact h)
 |lC h=>intro v' hr;simp[nY]at hr
 |fn h1 h2 h3 h4 i2 i4=>
  intro v' hr;simp only[nY]at hr;split at hr
  .rename_i a c e1 e2;cases hr;obtain⟨p1,p2⟩:=dD h1 i2 e1;obtain⟨q1,q2⟩:=dD h3 i4 e2;exact .fn p1 p2 q1 q2
  cases hr
 |iter h=>intro v' hr;simp[nY]at hr
 |agg h1 h2 i2=>
  intro v' hr;simp only[nY,a0A]at hr;obtain⟨a,e,rfl⟩:=hr;obtain⟨p1,p2⟩:=dD h1 i2 e;exact .agg p1 p2
 |dM h1 h2 i2=>
  intro v' hr;simp only[nY,a0A]at hr;obtain⟨a,e,rfl⟩:=hr;obtain⟨p1,p2⟩:=dD h1 i2 e;exact .dM p1 p2
def pW(g:Nat->Option Nat):List (TV×TV)->Option (List (TV×TV))
 | []=>some []
 |(k,v)::r=>match nY g k,nY g v,pW g r with
  |some k,some v,some r=>some ((k,v)::r)
  |_,_,_=>none
theorem XF:∀{az Zz},pW g az=some Zz->az.length=Zz.length/\∀(i:Nat) c',Zz[i]? = some c'->∃c,az[i]? = some c/\nY g c.1=some c'.1/\nY g c.2=some c'.2
 | [],Zz,h=>by cases h;exact⟨rfl,fun i c h=>by simp at h⟩
 |(k,v)::az,Zz,h=>by
  simp only[pW]at h;split at h
  .rename_i k' v' vs e0 e1 e2;cases h;obtain⟨h1,h2⟩:=XF e2;refine⟨by simp[h1],fun i c' hi=>?_⟩;cases i with
   |zero=>simp at hi;subst hi;exact⟨(k,v),rfl,e0,e1⟩
   |succ i=>exact h2 i c' (by simpa using hi)
  cases h
def vP(g:Nat->Option Nat):HB->Option HB
 |.cells k cs=>(nY.zU g cs).map (.cells k)
 |.map es=>(pW g es).map .map
 |.mark=>some .mark
 |_=>none
theorem a6T{v v'}(h:nY g v=some v'):iO v'=iO v:=by
 cases v<;>simp only[nY,a0A,a09]at h
 all_goals first
  |(obtain⟨b,_,rfl⟩:=h;rfl)
  |(subst h;rfl)
  |(split at h<;>cases h;rfl)
  |cases h
theorem a6U(hg:∀b b',g b=some b'->N' b'=N b){w b b' l}(h:pV N w b l)(hr:vP g b=some b'):pV N' w b' l:=by
 cases b with
 |cells k cs=>
  cases l with
  |obj r _=>exact h.elim
  |cells ls=>
   simp only[vP,a0A]at hr;obtain⟨cs',e,rfl⟩:=hr;obtain⟨h1,h2⟩:=Pj e;refine⟨fun c hc=>?_,fun p hp=>?_,fun hk=>by rw[<-h1];exact h.2.2.1 hk,fun hk=>by rw[<-h1];exact h.2.2.2 hk⟩
   .obtain⟨i,hi⟩:=a9O.1 hc;obtain⟨c0,f1,f2⟩:=h2 i c hi;rw[a6T f2];exact h.1 c0 (a5N f1)
   obtain⟨⟨arr,ty,fz,a1,a2,a3,a4⟩,b1,b2,b3⟩:=h.2.1 p hp;exact⟨⟨arr,ty,fz,a1,a2,a3,fun hk i c v hi hc hv=>by obtain⟨c0,f1,f2⟩:=h2 i c hc;exact NY hg (a4 (by rw[h1];exact hk) i c0 v hi f1 hv) f2⟩,b1,by rw[<-h1];exact b2,b3⟩
 |map es=>
  cases l with
  |cells ls=>exact h.elim
  |obj r=>
   simp only[vP,a0A]at hr;obtain⟨gV,e,rfl⟩:=hr;obtain⟨h1,h2⟩:=XF e;obtain⟨xs,a0,a1,a2,a3,a4,a5⟩:=h;refine⟨xs,a0,by rw[<-h1];exact a1,a2,a3,by rw[<-h1];exact a4,fun i x hx=>?_⟩;obtain⟨b1,j,e0,b2,b3,b4,b5⟩:=a5 i x hx;have hl:j<gV.length:=by rw[<-h1];exact(a0x.1 b3).1
   obtain⟨c0,f1,f2,f3⟩:=h2 j _ (a0Q hl);rw[b3]at f1;cases f1;exact⟨b1,j,_,b2,a0Q hl,NY hg b4 f2,NY hg b5 f3⟩
 |mark=>simp only[vP,a09]at hr;subst hr;cases l<;>exact h
 |_=>simp[vP]at hr
theorem afF{b b'}(h:vP g b=some b'):wr b'=wr b:=by
 cases b with
 |cells k cs=>simp only[vP,a0A]at h;obtain⟨_,_,rfl⟩:=h;cases k<;>rfl
 |map es=>simp only[vP,a0A]at h;obtain⟨_,_,rfl⟩:=h;rfl
 |mark=>simp only[vP,a09]at h;subst h;rfl
 |_=>simp[vP]at h
end
def a6V:List Nat->Nat->Option Nat
 | [],_=>none
 |a::l,i=>match Nat.beq a i with
  |true=>some 0
  |false=>(a6V l i).map (·+1)
theorem a1R:∀{l} {i p},a6V l i=some p->l[p]? = some i
 | [],i,p,h=>by cases h
 |a::l,i,p,h=>by
  simp only[a6V]at h;split at h
  .rename_i e;cases h;rw[aad e];rfl
  simp only[a0A]at h;obtain⟨q,e,rfl⟩:=h;rw[aaD];exact a1R e
def XG(fl:Nat)(nX:List Nat)(b:Nat):Option Nat:=match Nat.blt b fl with
 |true=>some b
 |false=>(a6V nX b).map (·+fl)
def DR(g:Nat->Option Nat)(h:List HB):List Nat->Option (List HB)
 | []=>some []
 |b::l=>match h[b]? with
  |some x=>match vP g x,DR g h l with
   |some y,some r=>some (y::r)
   |_,_=>none
  |none=>none
theorem Pm{g h}:∀{l} {bs},DR g h l=some bs->l.length=bs.length/\∀(i:Nat) y,bs[i]? = some y->∃c x,l[i]? = some c/\h[c]? = some x/\vP g x=some y
 | [],bs,e=>by cases e;exact⟨rfl,fun i y h=>by simp at h⟩
 |b::l,bs,e=>by
  simp only[DR]at e;split at e
  .rename_i x hx;split at e
   .rename_i y r e1 e2;cases e;obtain⟨h1,h2⟩:=Pm e2;refine⟨by simp[h1],fun i y' hi=>?_⟩;cases i with
    |zero=>simp at hi;subst hi;exact⟨b,x,rfl,hx,e1⟩
    |succ i=>exact h2 i y' (by simpa using hi)
   cases e
  cases e
theorem jE.gc{M h h' bs w w' v v' y nX}(hV:Valid M rU (lD h) w)(hl:∀k,M (.l k)=none)(hR:jE M h w v h' [] y w')(hn:nX.Nodup)(hk:∀b∈nX,h.length<=b)(hv:nY (XG h.length nX) v=some v')(hb:DR (XG h.length nX) h' nX=some bs):jE M h w v' (h++bs) [] y w':=by
 obtain⟨M',ZV,hl',hX,hv'⟩:=hR;have a0a:∀b l,M (.h b)=some l->b<h.length:=fun b l hb=>by
  have:=hV.has hb;simp only[lD,St.get]at this;rcases a4W b h.length with h1|h1
  .exact h1
  rw[a4O h1]at this;simp at this
 have hold:∀b,b<h.length->M' (.h b)=M (.h b):=fun b hb=>hX.kR (.h b) (.inl (by simp[lD,St.get,hb])) (by simp);have hoc:∀b,b<h.length->lD h' (.h b)=lD h (.h b):=fun b hb=>hX.nX (.h b) (by simp[lD,St.get,hb]) (by simp);obtain⟨p1,p2⟩:=Pm hb
 let κ:Nat->Option Nat:=fun b=>if b<h.length then some b else nX[b-h.length]?
 let M2:Mp:=fun k=>match k with
  |.l _=>none
  |.h b=>match κ b with
   |some c=>M' (.h c)
   |none=>none
 have hκ:∀b c,κ b=some c->M2 (.h b)=M' (.h c):=fun b c e=>by show(match κ b with|some c=>M' (.h c)|none=>none)=_;rw[e]
 have hκn:∀b,κ b=none->M2 (.h b)=none:=fun b e=>by show(match κ b with|some c=>M' (.h c)|none=>none)=_;rw[e]
 have hM2:∀b l,M2 (.h b)=some l->∃c,κ b=some c/\M' (.h c)=some l:=fun b l e=>by
  cases e2:κ b with
  |none=>rw[hκn b e2]at e;cases e
  |some c=>rw[hκ b c e2]at e;exact⟨c,rfl,e⟩
 have klt:∀b,b<h.length->κ b=some b:=fun b hb=>by simp only[κ,a1e hb]
 have kge:∀b,¬b<h.length->κ b=nX[b-h.length]?:=fun b hb=>by simp only[κ,a18 hb]
 have hg:∀b b',XG h.length nX b=some b'->M2.h b'=M'.h b:=fun b b' e=>by
  unfold XG at e;split at e
  .rename_i aQ;have aQ:b<h.length:=ah4 aQ;cases e;exact hκ _ _ (klt b aQ)
  simp only[a0A]at e;obtain⟨p,e1,rfl⟩:=e;exact hκ _ _ (by rw[kge _ (by omega),Nat.add_sub_cancel];exact a1R e1)
 have hle:tZ M.h M2.h:=fun b l e=>⟨l,by show M2 (.h b)=some l;rw[hκ b b (klt b (a0a b l e)),hold b (a0a b l e)];exact e,.refl l⟩;have RG:∀c,c<w.heap.size->w'.heap[c]? = w.heap[c]?:=fun c hc=>hX.frame c hc (by simp);have hC:∀b,b<h.length->lD (h++bs) (.h b)=lD h (.h b):=fun b hb=>by simp only[lD,St.get];rw[a0U hb]
 have hC2:∀b,¬b<h.length->lD (h++bs) (.h b)=bs[b-h.length]?:=fun b hb=>by simp only[lD,St.get];rw[a1r (by omega)]
 refine⟨M2,⟨fun k l kU _=>?_,fun k k' l l' b iI h1 h2 _ hc hw=>?_,fun k l kU=>?_⟩,fun _=>rfl,⟨fun k l e=>?_,fun c hc _=>RG c hc,fun k hs _=>?_,fun k hs _=>?_,fun k l e c hc hs=>?_,hX.size,fun k hs=>?_,by simp,by simp,hX.os,hX.output,hX.tape⟩,NY hg hv' hv⟩
 .cases k with
  |l k=>cases kU
  |h b=>
   obtain⟨c,e1,e2⟩:=hM2 b l kU;by_cases yN:b<h.length
   .have:=klt b yN;rw[this]at e1;cases e1;rw[hold b yN]at e2;obtain⟨x,f1,f2⟩:=hV.ok _ l e2 trivial;exact⟨x,by rw[hC b yN];exact f1,f2.mono hle fun c hc=>RG c (hV.inb _ l e2 c hc)⟩
   rw[kge b yN]at e1;have aQ:b-h.length<bs.length:=by rw[<-p1];exact(a0x.1 e1).1
   obtain⟨c',x,f1,f2,f3⟩:=p2 _ _ (a0Q aQ);rw[e1]at f1;cases f1;obtain⟨x',g1,g2⟩:=ZV.ok _ l e2 trivial;have g1:h'[c]? = some x':=g1;rw[f2]at g1;cases g1;exact⟨_,by rw[hC2 b yN];exact a0Q aQ,a6U hg g2 f3⟩
 .cases k with
  |l k=>cases h1
  |h b1=>
   cases k' with
   |l k=>cases h2
   |h b2=>
    obtain⟨c1,e1,e2⟩:=hM2 b1 l h1;obtain⟨c2,e3,e4⟩:=hM2 b2 l' h2;have OX:c1≠c2:=fun e=>by
     subst e;by_cases q1:b1<h.length<;>by_cases q2:b2<h.length
     .rw[klt _ q1]at e1;rw[klt _ q2]at e3;cases e1;cases e3;exact iI rfl
     .rw[klt _ q1]at e1;rw[kge _ q2]at e3;cases e1;have:=hk _ (a5N e3);omega
     .rw[kge _ q1]at e1;rw[klt _ q2]at e3;cases e3;have:=hk _ (a5N e1);omega
     rw[kge _ q1]at e1;rw[kge _ q2]at e3;have i1:=(a0x.1 e1);have i2:=(a0x.1 e3);have:=(aaZ hn (h₀:=i1.1) (h₁:=i2.1)).1 (i1.2.trans i2.2.symm);exact iI (by rw[show b1=b2 by omega])
    obtain⟨x,g1,g2⟩:∃x,lD h' (.h c1)=some x/\wr x=true:=by
     by_cases q1:b1<h.length
     .rw[klt _ q1]at e1;cases e1;exact⟨b,by rw[hoc _ q1,<-hC _ q1];exact hc,hw⟩
     rw[hC2 _ q1]at hc;obtain⟨c',x,f1,f2,f3⟩:=p2 _ _ hc;rw[kge _ q1,f1]at e1;cases e1;exact⟨x,f2,by rw[<-afF f3];exact hw⟩
    exact ZV.own (.h c1) (.h c2) l l' x (fun e=>OX (by cases e;rfl)) e2 e4 trivial g1 g2
 .cases k with
  |l k=>cases kU
  |h b=>obtain⟨c,e1,e2⟩:=hM2 b l kU;exact ZV.inb _ l e2
 .cases k with
  |l k=>rw[hl k]at e;cases e
  |h b=>exact hle b l e
 .cases k with
  |l k=>simp[lD,St.get]at hs
  |h b=>
   refine hC b ?_;simp only[lD,St.get]at hs;rcases a4W b h.length with h1|h1
   .exact h1
   rw[a4O h1]at hs;simp at hs
 .cases k with
  |l k=>rw[hl k]
  |h b=>
   by_cases yN:b<h.length
   .rw[hκ b b (klt b yN),hold b yN]
   have h1:M (.h b)=none:=by
    cases e:M (.h b)with
    |none=>rfl
    |some l=>exact absurd (a0a b l e) yN
   rw[h1];refine hκn b ?_;rw[kge b yN];rcases hs with hs|hs
   .simp only[lD,St.get]at hs;rw[a4O (by omega)]at hs;simp at hs
   rw[hC2 b yN]at hs;rw[List.getElem?_eq_none_iff]at hs ⊢;omega
 .cases k with
  |l k=>cases e
  |h b=>
   obtain⟨c',e1,e2⟩:=hM2 b l e;obtain⟨l0,f1,f2⟩:=hX.fresh _ l e2 c hc hs;have:=a0a _ _ f1;by_cases yN:b<h.length
   .rw[klt b yN]at e1;cases e1;exact⟨l0,f1,f2⟩
   rw[kge b yN]at e1;have:=hk _ (a5N e1);omega
 cases k with
 |l k=>simp[lD,St.get]at hs
 |h b=>
  simp only[lD,St.get]at hs ⊢;rcases a4W b h.length with h1|h1
  .simp[a0U h1,h1]
  rw[a4O h1]at hs;simp at hs
def CW:TV->List Nat->List Nat
 |.ptr b _ _,l=>b::l
 |.aO b _ _ _ _ _,l=>b::l
 |.map b,l=>b::l
 |.fn _ a c,l=>Gm a (Gm c l)
 |.agg cs,l=>Gm cs l
 |.dM cs,l=>Gm cs l
 |_,l=>l
where
 Gm:List TV->List Nat->List Nat
 | [],l=>l
 |c::cs,l=>CW c (Gm cs l)
def aaL:Option HB->List Nat->List Nat
 |some (.cells _ cs),l=>CW.Gm cs l
 |some (.map es),l=>a1S es l
 |_,l=>l
where
 a1S:List (TV×TV)->List Nat->List Nat
 | [],l=>l
 |e::es,l=>CW e.1 (CW e.2 (a1S es l))
def a6X(b:Nat):List Nat->Bool
 | []=>false
 |a::l=>match Nat.beq a b with
  |true=>true
  |false=>a6X b l
theorem a1T:∀{l} {b},a6X b l=false->b∉l
 | [],b,_=>by simp
 |a::l,b,h=>by
  simp only[a6X]at h;split at h
  .cases h
  rename_i e;rw[a1E];rintro (rfl|h2)
  .rw[Nat.beq_refl]at e;cases e
  exact a1T h h2
def xO(h:List HB)(fl:Nat):Nat->List Nat->List Nat->List Nat
 | 0,_,acc=>acc
 |_+1,[],acc=>acc
 |n+1,b::t,acc=>match Nat.blt b fl||a6X b acc with
  |true=>xO h fl n t acc
  |false=>xO h fl n (aaL h[b]? t) (b::acc)
theorem Ku{h fl}:∀(n) (t acc),acc.Nodup->(∀b∈acc,fl<=b)->(xO h fl n t acc).Nodup/\∀b∈xO h fl n t acc,fl<=b
 | 0,_,_,h1,h2=>⟨h1,h2⟩
 |_+1,[],_,h1,h2=>⟨h1,h2⟩
 |n+1,b::t,acc,h1,h2=>by
  simp only[xO];split
  .exact Ku n t acc h1 h2
  rename_i e;simp only[aaC]at e;have e1:fl<=b:=by
   rcases a4W b fl with h3|h3
   .rw[show Nat.blt b fl=true from Nat.ble_eq_true_of_le h3]at e;cases e.1
   exact h3
  exact Ku n _ _ (a5I.2 ⟨a1T e.2,h1⟩) fun c hc=>by
   rcases a1E.1 hc with rfl|hc
   .exact e1
   exact h2 c hc
def TL:TV->LI0
 |.bool b=>[if b then 1 else 0]
 |.int _ n=>[n]
 |.agg cs=>codes cs
 |_=>[]
where
 codes:List TV->LI0
 | []=>[]
 |c::cs=>TL c++codes cs
def lY:LI0->LI0->Bool
 | [],_=>true
 |_::_,[]=>false
 |a::az,b::bs=>if a<b then true else if b<a then false else lY az bs
section
variable{α:Type}(key:α->LI0)
def FT(e:α):List α->List α
 | []=>[e]
 |x::l=>if lY (key e) (key x)then e::x::l else x::FT e l
def zV:List α->List α
 | []=>[]
 |e::l=>FT key e (zV l)
theorem TM(e):∀l,(FT key e l).Perm (e::l)
 | []=>.refl _
 |x::l=>by
  unfold FT;split
  .exact .refl _
  exact((TM e l).cons x).trans (.swap e x l)
theorem oh:∀l,(zV key l).Perm l
 | []=>.refl _
 |e::l=>(TM key e _).trans ((oh l).cons e)
end
abbrev TN:List (TV×TV)->List (TV×TV):=zV fun e=>TL e.1
abbrev TP:List TV->List TV:=zV TL
theorem H6(l):(TN l).Perm l:=oh _ l
structure Ix{α:Type}(l1 l2:List α)(f g:Nat->Nat):Prop where
 to:∀i,i<l1.length->f i<l1.length/\g (f i)=i/\l2[f i]? = l1[i]?
 fro:∀j,j<l1.length->g j<l1.length/\f (g j)=j
theorem a1U{α}{l1 l2:List α}(h:l1.Perm l2):∃f g,Ix l1 l2 f g:=by
 induction h with
 |nil=>exact⟨id,id,⟨fun i hi=>by simp at hi,fun i hi=>by simp at hi⟩⟩
 |cons x h ih=>
  obtain⟨f,g,h1,h2⟩:=ih;refine⟨fun i=>match i with| 0=>0|i+1=>f i+1,fun i=>match i with| 0=>0|i+1=>g i+1,⟨fun i hi=>?_,fun j hj=>?_⟩⟩
  .cases i with
   |zero=>simp
   |succ i=>
    obtain⟨a,b,c⟩:=h1 i (by simpa using hi);exact⟨by simpa using a,by simp[b],by simpa using c⟩
  cases j with
  |zero=>simp
  |succ j=>
   obtain⟨a,b⟩:=h2 j (by simpa using hj);exact⟨by simpa using a,by simp[b]⟩
 |swap x y l=>
  refine⟨fun i=>match i with| 0=>1| 1=>0|i+2=>i+2,fun i=>match i with| 0=>1| 1=>0|i+2=>i+2,⟨fun i hi=>?_,fun j hj=>?_⟩⟩
  .match i with
   | 0=>simp
   | 1=>simp
   |i+2=>simp at hi ⊢;exact hi
  match j with
  | 0=>simp
  | 1=>simp
  |j+2=>simp at hj ⊢;exact hj
 |trans h h' ih ih'=>
  obtain⟨f,g,h1,h2⟩:=ih;obtain⟨f',g',h3,h4⟩:=ih';have hl:=h.length_eq;refine⟨fun i=>f' (f i),fun j=>g (g' j),⟨fun i hi=>?_,fun j hj=>?_⟩⟩
  .obtain⟨a,b,c⟩:=h1 i hi;obtain⟨a',b',c'⟩:=h3 (f i) (by omega);exact⟨by omega,by simp only[b',b],by rw[c',c]⟩
  obtain⟨a,b⟩:=h4 j (by omega);obtain⟨a',b'⟩:=h2 (g' j) (by omega);exact⟨a',by simp only[b',b]⟩
theorem xC.perm{N o es gV xs}(h:xC N o es xs){f g}(hf:Ix es gV f g)(hl:gV.length=es.length):xC N (o.map f) gV xs:=by
 have aQ:∀j∈o,j<es.length:=fun j hj=>by
  obtain⟨i,hi⟩:=a9O.1 hj;have:i<xs.size:=by rw[<-h.ord];exact(a0x.1 hi).1
  obtain⟨_,j',e,z1,z2,_⟩:=h.at_ i _ (a4o this);rw[hi]at z1;cases z1;exact(a0x.1 z2).1
 refine⟨by rw[hl,h.len],by rw[a4X,h.ord],?_,fun j hj=>?_,fun i x hx=>?_⟩
 .have:∀l:List Nat,(∀j∈l,j<es.length)->l.Nodup->(l.map f).Nodup:=by
   intro l
   induction l with
   |nil=>simp
   |cons a l ih=>
    intro h1 h2;rw[a5I]at h2;rw[a4U,a5I];refine⟨fun hm=>?_,ih (fun j hj=>h1 j (by simp[hj])) h2.2⟩;obtain⟨b,hb,e⟩:=a1w.1 hm;have e1:=(hf.to a (h1 a (by simp))).2.1;have e2:=(hf.to b (h1 b (by simp[hb]))).2.1;rw[e,e1]at e2;exact h2.1 (e2▸hb)
  exact this o aQ h.nod
 .obtain⟨a,b⟩:=hf.fro j (by omega);exact a1w.2 ⟨g j,h.sur _ a,b⟩
 obtain⟨z1,j,e,z2,z3,z4⟩:=h.at_ i x hx;exact⟨z1,f j,e,by rw[a4V,z2];rfl,by rw[(hf.to j (a0x.1 z3).1).2.2];exact z3,z4⟩
def LcW:Lc->Lc->Prop
 |.cells ls,.cells qw=>ls=qw
 |.obj r _,.obj r' _=>r=r'
 |_,_=>False
def aaM(N N':Np):Prop:=∀b l,N b=some l->∃l',N' b=some l'/\LcW l l'
theorem VR.Gn{N N'}(hm:aaM N N'){v x}(h:VR N v x):VR N' v x:=by
 induction h with
 |bool b=>exact .bool b
 |int k n=>exact .int k n
 |str s=>exact .str s
 |a3C=>exact .a3C
 |V5=>exact .V5
 |ZH=>exact .ZH
 |nfn=>exact .nfn
 |a3D=>exact .a3D
 |ptr hb hp h ht=>
  obtain⟨l',h1,h2⟩:=hm _ _ hb;cases l' with
  |obj r _=>exact h2.elim
  |cells qw=>cases h2;exact .ptr h1 hp h ht
 |aO hb hp h hl hc hx ha hk=>
  obtain⟨l',h1,h2⟩:=hm _ _ hb;cases l' with
  |obj r _=>exact h2.elim
  |cells qw=>cases h2;exact .aO h1 hp h hl hc hx ha hk
 |map h=>
  obtain⟨l',h1,h2⟩:=hm _ _ h;cases l' with
  |obj r _=>cases h2;exact .map h1
  |cells qw=>exact h2.elim
 |lC h=>
  obtain⟨l',h1,h2⟩:=hm _ _ h;cases l' with
  |obj r _=>cases h2;exact .lC h1
  |cells qw=>exact h2.elim
 |iter h=>
  obtain⟨l',h1,h2⟩:=hm _ _ h;cases l' with
  |obj r _=>cases h2;exact .iter h1
  |cells qw=>exact h2.elim
 |fn h1 _ h3 _ ih2 ih4=>exact .fn h1 ih2 h3 ih4
 |agg h1 _ ih=>exact .agg h1 ih
 |dM h1 _ ih=>exact .dM h1 ih
theorem xC.Gn{N N'}(hm:aaM N N'){o es xs}(h:xC N o es xs):xC N' o es xs:=
 ⟨h.len,h.ord,h.nod,h.sur,fun i x hx=>let ⟨b,j,e,h1,h2,h3,h4⟩:=h.at_ i x hx;⟨b,j,e,h1,h2,h3.Gn hm,h4.Gn hm⟩⟩
theorem ni.Gn{N N' w k cs ls}(hm:aaM N N')(h:ni N w k cs ls):ni N' w k cs ls:=by refine⟨h.1,fun p hp=>?_,h.2.2⟩;obtain⟨⟨arr,ty,fz,h1,h2,h3,h4⟩,p1,p2,p3⟩:=h.2.1 p hp;exact⟨⟨arr,ty,fz,h1,h2,h3,fun z i c v a b d=>(h4 z i c v a b d).Gn hm⟩,p1,p2,p3⟩
theorem ni.last{N w k cs ls}(hk:k≠.ro)(h:ni N w k cs ls):ni N w .last cs ls:=by
 refine⟨h.1,fun p hp=>?_,fun e=>(by cases e),fun _=>?_⟩
 .obtain⟨⟨arr,ty,fz,h1,h2,h3,h4⟩,p1,p2,p3⟩:=h.2.1 p hp;exact⟨⟨arr,ty,fz,h1,h2,fun _=>h3 hk,fun z=>h4 fun _=>z rfl⟩,p1,p2,fun _=>p3 hk⟩
 cases k with
 |ro=>exact absurd rfl hk
 |own=>
  obtain⟨p,rfl,_⟩:=h.2.2.1 rfl;refine⟨by simp,fun p hp q hq _ _=>?_⟩;rw[a1D]at hp hq;rw[hp,hq]
 |grow=>exact h.2.2.2 (.inl rfl)
 |last=>exact h.2.2.2 (.inr rfl)
def Nl(fl:Nat):TV->TV
 |.aO b off len cap sz ex=>if b<fl then .aO b off len cap sz ex else .aO b off len len sz false
 |v=>v
def Vq(fl:Nat):TV->TV
 |.dM cs=>.dM (cs.map (Nl fl))
 |v=>Nl fl v
def Si(nN:Bool):HB->HB
 |.cells .ro cs=>.cells .ro cs
 |.cells _ cs=>if nN then .nN (TP cs)else .cells .last cs
 |.map es=>.map (TN es)
 |x=>x
def Pn(nN:Bool)(h:List HB)(v:TV)(h1:List HB):Option (TV×List HB):=
 match xO h1 h.length 5000 (CW v []) []with
 |nX=>match nY (XG h.length nX) v,DR (XG h.length nX) h1 nX with
  |some v',some bs=>some (Vq h.length v',h++bs.map (Si nN))
  |_,_=>none
def fS(es:List (TV×TV)):Nat->Nat:=Classical.choose (a1U (H6 es).symm)
theorem ajE(es):∃g,Ix es (TN es) (fS es) g:=aap (a1U (H6 es).symm)
def mapOf(h bs:List HB)(b:Nat):Option (List (TV×TV)):=
 if b<h.length then none else match bs[b-h.length]? with
  |some (.map es)=>some es
  |_=>none
def Bf(h bs:List HB)(b:Nat)(l:Lc):Lc:=
 match mapOf h bs b,l with
 |some es,.obj r o=>.obj r (o.map (fS es))
 |_,l=>l
theorem yQ{h bs b l}:aI (Bf h bs b l)=aI l:=by unfold Bf;split<;>rfl
theorem LcW.refl(l):LcW l l:=by cases l<;>rfl
theorem afH{h bs b l}:LcW l (Bf h bs b l):=by
 unfold Bf;split
 .rfl
 exact .refl _
theorem Po{h bs b l}(hb:b<h.length):Bf h bs b l=l:=by unfold Bf mapOf;rw[a1e hb]
theorem aaN{nN x}(h:wr (Si nN x)=true):wr x=true:=by
 cases x with
 |cells k cs=>cases k<;>first|exact h|rfl
 |_=>first|exact h|rfl
theorem a1V{N fl v x}(h:VR N v x):VR N (Nl fl v) x:=by
 cases h with
 |aO hb hp h hl hc hx ha hk=>
  simp only[Nl];split
  .exact .aO hb hp h hl hc hx ha hk
  exact .aO hb hp (a5Y (Nat.add_le_add_left (a3N _ hl) _) h) (a1l _) (a5Y hl hc) (fun e=>by cases e) ha hk
 |_=>first|(constructor;done)|(constructor<;>assumption)
theorem aaO{N fl v x}(h:VR N v x):VR N (Vq fl v) x:=by
 cases h with
 |dM h1 h2=>
  refine .dM (by simpa using h1) fun i c v hc hv=>?_;rw[a4V]at hc;obtain⟨c0,e1,rfl⟩:=a0A.1 hc;exact a1V (h2 i c0 v e1 hv)
 |aO hb hp h hl hc hx ha hk=>exact a1V (.aO hb hp h hl hc hx ha hk)
 |_=>first|(constructor;done)|(constructor<;>assumption)
theorem jE.nrm{M h bs w w' v y}(nN)(hV:Valid M rU (lD h) w)(hl:∀k,M (.l k)=none)(hn:∀x∈bs,∀m n seen,x≠.dB m n seen)(hR:jE M h w v (h++bs) [] y w'):jE M h w (Vq h.length v) (h++bs.map (Si nN)) [] y w':=by
 obtain⟨M',ZV,hl',hX,hv'⟩:=hR;have a0a:∀b l,M (.h b)=some l->b<h.length:=fun b l hb=>by
  have:=hV.has hb;simp only[lD,St.get]at this;rcases a4W b h.length with h1|h1
  .exact h1
  rw[a4O h1]at this;simp at this
 have hold:∀b,b<h.length->M' (.h b)=M (.h b):=fun b hb=>hX.kR (.h b) (.inl (by simp[lD,St.get,hb])) (by simp)
 let M2:Mp:=fun k=>match k with
  |.l _=>none
  |.h b=>(M' (.h b)).map (Bf h bs b)
 have hM2:∀b,M2 (.h b)=(M' (.h b)).map (Bf h bs b):=fun b=>rfl;have inv:∀b l2,M2 (.h b)=some l2->∃l,M' (.h b)=some l/\l2=Bf h bs b l:=fun b l2 e=>by rw[hM2]at e;obtain⟨l,e1,e2⟩:=a0A.1 e;exact⟨l,e1,e2.symm⟩
 have hmW:aaM M'.h M2.h:=fun b l e=>by have e:M' (.h b)=some l:=e;exact⟨_,(show M2 (.h b)=_ by rw[hM2,e];rfl),afH⟩
 have hle:tZ M.h M2.h:=fun b l e=>by have e:M (.h b)=some l:=e;have hb:=a0a b l e;exact⟨l,(show M2 (.h b)=_ by rw[hM2,hold b hb,e];simp[Po hb]),.refl l⟩
 have RG:∀c,c<w.heap.size->w'.heap[c]? = w.heap[c]?:=fun c hc=>hX.frame c hc (by simp);have hC:∀b,b<h.length->lD (h++bs.map (Si nN)) (.h b)=lD h (.h b):=fun b hb=>by simp only[lD,St.get];rw[a0U hb]
 have hC1:∀b,¬b<h.length->lD (h++bs) (.h b)=bs[b-h.length]?:=fun b hb=>by simp only[lD,St.get];rw[a1r (by omega)]
 have hC2:∀b,¬b<h.length->lD (h++bs.map (Si nN)) (.h b)=(bs[b-h.length]?).map (Si nN):=fun b hb=>by simp only[lD,St.get];rw[a1r (by omega),a4V]
 have hCo:∀b,b<h.length->lD (h++bs) (.h b)=lD h (.h b):=fun b hb=>by simp only[lD,St.get];rw[a0U hb]
 refine⟨M2,⟨fun k l kU _=>?_,fun k k' l l' b iI q1 q2 _ hc hw=>?_,fun k l kU=>?_⟩,fun _=>rfl,⟨fun k l e=>?_,hX.frame,fun k hs hn=>?_,fun k hs hn=>?_,fun k l e c hc hs=>?_,hX.size,fun k hs=>?_,by simp,by simp,hX.os,hX.output,hX.tape⟩,aaO (hv'.Gn hmW)⟩
 .cases k with
  |l k=>cases kU
  |h b=>
   obtain⟨l0,e1,rfl⟩:=inv b l kU;by_cases hb:b<h.length
   .rw[Po hb,hC b hb];rw[hold b hb]at e1;obtain⟨x,f1,f2⟩:=hV.ok _ l0 e1 trivial;exact⟨x,f1,f2.mono hle fun c hc=>RG c (hV.inb _ l0 e1 c hc)⟩
   obtain⟨x,x1,x2⟩:=ZV.ok _ l0 e1 trivial;rw[hC1 b hb]at x1;refine⟨Si nN x,by rw[hC2 b hb,x1];rfl,?_⟩;cases x with
   |cells k cs=>
    cases l0 with
    |obj r o=>exact x2.elim
    |cells ls=>
     have x3:ni M2.h w' k cs ls:=ni.Gn hmW x2;have e:Bf h bs b (.cells ls)=.cells ls:=by unfold Bf;split<;>first|rfl|simp_all
     rw[e];have go:k≠.ro->pV M2.h w' (if nN then .nN (TP cs)else .cells .last cs) (.cells ls):=fun hk=>by
      cases nN with
      |true=>exact⟨cs,(oh _ cs).symm,x3.last hk⟩
      |false=>exact x3.last hk
     cases k with
     |ro=>exact x3
     |own=>exact go (by simp)
     |grow=>exact go (by simp)
     |last=>exact go (by simp)
   |nN cs=>
    cases l0 with
    |obj r o=>exact x2.elim
    |cells ls=>
     have e:Bf h bs b (.cells ls)=.cells ls:=by unfold Bf;split<;>first|rfl|simp_all
     rw[e];obtain⟨cs',h1,h2⟩:=x2;exact⟨cs',h1,ni.Gn hmW h2⟩
   |map es=>
    cases l0 with
    |cells ls=>exact x2.elim
    |obj r o=>
     obtain⟨xs,y1,y2⟩:=x2;have e:Bf h bs b (.obj r o)=.obj r (o.map (fS es)):=by
      have:mapOf h bs b=some es:=by unfold mapOf;rw[a18 hb,x1]
      unfold Bf;rw[this]
     rw[e];obtain⟨g,hg⟩:=ajE es;exact⟨xs,y1,(y2.Gn hmW).perm hg (H6 es).length_eq⟩
   |mark=>
    have e:∀r o,Bf h bs b (.obj r o)=.obj r o:=fun r o=>by
     have:mapOf h bs b=none:=by unfold mapOf;rw[a18 hb,x1]
     unfold Bf;rw[this]
    cases l0 with
    |cells ls=>exact x2.elim
    |obj r o=>rw[e];exact x2
   |dB m n seen=>exact absurd rfl (hn _ (a5N x1) m n seen)
   |loop rd f nt env ps a b9 jW=>
    have e:∀r o,Bf h bs b (.obj r o)=.obj r o:=fun r o=>by
     have:mapOf h bs b=none:=by unfold mapOf;rw[a18 hb,x1]
     unfold Bf;rw[this]
    cases l0 with
    |cells ls=>exact x2.elim
    |obj r o=>
     rw[e];obtain⟨lp,h1,h2⟩:=x2;exact⟨lp,h1,{ h2 with Nj:=fun t v e=>(h2.Nj t v e).Gn hmW }⟩
 .cases k with
  |l k=>cases q1
  |h b1=>
   cases k' with
   |l k=>cases q2
   |h b2=>
    obtain⟨l1,e1,rfl⟩:=inv b1 l q1;obtain⟨l2,e2,rfl⟩:=inv b2 l' q2;rw[yQ,yQ];obtain⟨x,g1,g2⟩:∃x,lD (h++bs) (.h b1)=some x/\wr x=true:=by
     by_cases q1:b1<h.length
     .exact⟨b,by rw[hCo _ q1,<-hC _ q1];exact hc,hw⟩
     rw[hC2 _ q1]at hc;obtain⟨x,f1,rfl⟩:=a0A.1 hc;exact⟨x,by rw[hC1 _ q1];exact f1,aaN hw⟩
    exact ZV.own (.h b1) (.h b2) l1 l2 x iI e1 e2 trivial g1 g2
 .cases k with
  |l k=>cases kU
  |h b=>
   obtain⟨l0,e1,rfl⟩:=inv b l kU;rw[yQ];exact ZV.inb _ l0 e1
 .cases k with
  |l k=>rw[hl k]at e;cases e
  |h b=>exact hle b l e
 .cases k with
  |l k=>simp[lD,St.get]at hs
  |h b=>exact hC b (by simpa[lD,St.get]using hs)
 .cases k with
  |l k=>rw[hl k]
  |h b=>
   by_cases hb:b<h.length
   .rw[hM2,hold b hb];cases M (.h b)with
    |none=>rfl
    |some l=>simp only[a1n];rw[Po hb]
   have h0:M (.h b)=none:=by
    cases e:M (.h b)with
    |none=>rfl
    |some l=>exact absurd (a0a b l e) hb
   have EO:lD (h++bs) (.h b)=none:=by
    rcases hs with hs|hs
    .have:b<h.length:=(by simpa[lD,St.get]using hs);omega
    rw[hC2 _ hb]at hs;rw[hC1 _ hb];simpa using hs
   have:M' (.h b)=M (.h b):=hX.kR (.h b) (.inr EO) (by simp);rw[h0,hM2,this,h0];rfl
 .cases k with
  |l k=>cases e
  |h b=>
   obtain⟨l0,e1,rfl⟩:=inv b l e;rw[yQ]at hc;exact hX.fresh _ l0 e1 c hc hs
 cases k with
 |l k=>simp[lD,St.get]at hs
 |h b=>
  have hb:b<h.length:=by simpa[lD,St.get]using hs
  rw[hC b hb];exact hs
theorem XH{g x y}(h:vP g x=some y):∀m n seen,y≠.dB m n seen:=by
 cases x<;>simp only[vP,a0A,a09]at h
 all_goals first
  |(obtain⟨_,_,rfl⟩:=h;simp)
  |(subst h;simp)
  |cases h
theorem jE.norm{M h h1 h2 w w' v v2 y nN}(hV:Valid M rU (lD h) w)(hl:∀k,M (.l k)=none)(ho:Pn nN h v h1=some (v2,h2))(hR:jE M h w v h1 [] y w'):jE M h w v2 h2 [] y w':=by
 unfold Pn at ho;simp only at ho;obtain⟨k1,k2⟩:=Ku (h:=h1) (fl:=h.length) 5000 (CW v []) [] .nil (by simp);split at ho
 .rename_i v' bs e1 e2;cases ho;refine jE.nrm nN hV hl (fun x hx=>?_) (hR.gc hV hl k1 k2 e1 e2);obtain⟨i,hi⟩:=a9O.1 hx;obtain⟨_,_,_,_,e⟩:=(Pm e2).2 i x hi;exact XH e
 cases ho
section
variable{P:LI1}{T:vH}{call:dO}{L:Nat}{nt:Nat}{M:Mp}{h:List HB}{w:LI4}
def Sj(tmps:Array LI3):List (Nat×LI3)->Array LI3
 | []=>tmps
 |(t,a)::r=>Sj (tmps.setIfInBounds t a) r
theorem TQ:∀{l} {tmps:Array LI3},(Sj tmps l).size=tmps.size
 | [],_=>rfl
 |(t,a)::r,tmps=>by rw[Sj,TQ];simp
theorem Pq:∀(l:List (Nat×LI3)) (tmps:Array LI3),l.foldl (fun tmps (t,a)=>tmps.setIfInBounds t a) tmps=Sj tmps l
 | [],_=>rfl
 |(t,a)::r,tmps=>by rw[aeR,Pq r];rfl
theorem TR{N nt}:∀{ps} {args} {xs} {env} {tmps:Array LI3},bZ N args xs->args.length=ps.length->(∀p∈ps,p<nt)->nt<=tmps.size ->(∀t v,dR t env=some (.val v)->VR N v (tmps.getD t Go.undef))->(∀t,dR t env=some .undef->tmps.getD t Go.undef=Go.undef)->(∀t e,dR t env=some e->isVal (t,e)=true) ->(∀t v,dR t (uy env ps args)=some (.val v)->VR N v ((Sj tmps (ps.zip xs)).getD t Go.undef))/\(∀t,dR t (uy env ps args)=some .undef->(Sj tmps (ps.zip xs)).getD t Go.undef=Go.undef) /\(∀t e,dR t (uy env ps args)=some e->isVal (t,e)=true)
 | [],[],xs,env,tmps,_,_,_,_,h1,h2,h3=>⟨h1,h2,h3⟩
 | [],v::vs,xs,env,tmps,_,hl,_,_,_,_,_=>by simp at hl
 |p::ps,[],xs,env,tmps,_,hl,_,_,_,_,_=>by simp at hl
 |p::ps,v::vs,xs,env,tmps,hx,hl,hp,hn,h1,h2,h3=>by
  obtain⟨x,xs',rfl,hx1,hx2⟩:=hx.iq;have hpn:=hp p a3K;simp only[uy,List.zip_cons_cons,Sj];have hg:∀t,(tmps.setIfInBounds p x).getD t Go.undef=if p=t then x else tmps.getD t Go.undef:=by
   intro t;simp only[a8t,aa3];by_cases h:p=t
   .subst h;simp[show p<tmps.size by omega]
   .simp[h]
  refine TR hx2 (by simpa using hl) (fun q hq=>hp q (a3I _ hq)) (by simpa using hn) ?_ ?_ ?_
  .intro t v' he;rw[hg];simp only[dR]at he;split at he
   .rename_i h;rw[a1e h];cases he;exact hx1
   .rename_i h;rw[a18 h];exact h1 t v' he
  .intro t he;rw[hg];simp only[dR]at he;split at he
   .cases he
   .rename_i h;rw[a18 h];exact h2 t he
  .intro t e he;simp only[dR]at he;split at he
   .cases he;rfl
   .exact h3 t e he
theorem a6Y(hm:P.follows .mixedOrders=true)(hC:iM P call){l l' q args v h' ws}(hf:OE P T call L l args h=some (v,h',ws))(hB:xJ M h w)(hl:M (.h l)=some (.obj l' q)){xs} (hx:bZ M.h args xs):Iw P { target:=.fn (.yield l') #[],args:=xs.toArray } w (jE M h w v h' ws):=by
 unfold OE at hf;split at hf
 .rename_i f nt env ps vY body jW hh;split at hf
  .rename_i hc;obtain⟨hlen,hps⟩:=hc;have apL:∀p∈ps,p<nt:=fun p hp=>(by simpa using a5L.1 hps p hp);obtain⟨gQ,k1,k2⟩:=hB.val.ok _ _ hl trivial;simp only[lD,St.get,hh,a09]at k1;subst k1;obtain⟨lp,l1,l2⟩:=k2;have hlb:l<h.length:=(a0x.1 hh).1;have hpa:lp.params.size=xs.length:=by have:=l2.ps;rw[<-hx.len,hlen,<-this];simp
   have apM:(lp.params.zip xs.toArray).foldl (fun tmps (t,a)=>tmps.setIfInBounds t a) lp.tmps=Sj lp.tmps (ps.zip xs):=by rw[<-Array.foldl_toList,Array.toList_zip,l2.ps];exact Pq _ _
   refine⟨l',lp.fn,Sj lp.tmps (ps.zip xs),vY,body,?_,fun n=>?_⟩
   .have h1:(Instr.yield l' xs.toArray).run P w=.ok (.round l' lp.fn ((lp.params.zip xs.toArray).foldl (fun tmps (t,a)=>tmps.setIfInBounds t a) lp.tmps) lp.assign lp.body) w:=by simp[Instr.yield,Instr.getLoop,getObj,Sem.run,l1,hpa]
    rw[apM,l2.vY,l2.body]at h1;exact h1
   obtain⟨p1,p2,p3⟩:=TR hx hlen apL l2.size l2.Nj l2.V6 l2.nol;have hR0:Rel M h w nt M ⟨uy env ps args,[],h,[]⟩ { tmps:=Sj lp.tmps (ps.zip xs),defers:=[] } w:=by
    have hg:St.get ⟨uy env ps args,[],h,[]⟩=lD h:=getEnv ⟨[],[],h,[]⟩ _ _;refine⟨by rw[hg];exact hB.val,by rw[hg];exact .refl _ _ _,fun t e he=>?_,by rw[TQ];exact l2.size,by simp,.nil⟩;cases e with
    |val v=>exact .val (p1 t v he)
    |undef=>
     have:=p2 t he;simp only at this ⊢;rw[this];exact .undef
    |_=>exact absurd (p3 t _ he) (by simp[isVal])
   refine roundIn_of_wpIn (F:=Fence.wide) trivial ?_;split at hf
   .rename_i s1 hex;refine wP (iy:=true) (r:=some l') hm hC hB (by simp) _ _ _ _ hex n _ M _ w hR0 fun M1 a1 w1 yD=>?_;split at hf
    .rename_i f' nt' env' ps' a' b' adt zq;obtain⟨q1,hl1⟩:∃q1,M1 (.h l)=some (.obj l' q1):=by
      obtain⟨l0,g1,g2⟩:=yD.ext.JI _ _ hl;cases l0 with
      |cells ls=>exact g2.elim
      |obj r' o'=>cases g2.1;exact⟨o',g1⟩
     obtain⟨gQ,k1,k2⟩:=yD.val.ok _ _ hl1 trivial;simp only[St.get,zq,a09]at k1;subst k1;obtain⟨lp1,m1,m2⟩:=k2;obtain⟨v2,x2⟩:=EW yD.val hl1 zq rfl (b':=.loop false f' nt' env' ps' a' b' none) (o':=.loop { lp1 with state:=.busy }) ⟨{ lp1 with state:=.busy },by simp[(a2I.1 m1).1],
      {ps:=m2.ps,vY:=m2.vY,body:=m2.body,size:=m2.size,Nj:=m2.Nj,V6:=m2.V6,nol:=m2.nol,ready:=by simp,busy:=fun _ _=>rfl,done:=by simp }⟩
     have TJ:=yD.next hB (s':={ s1 with heap:=s1.heap.set l (.loop false f' nt' env' ps' a' b' none),ws:=FM h.length l s1.ws }) v2 x2 rfl rfl (fun _ _ e=>e);refine⟨{ w1 with heap:=w1.heap.setIfInBounds l' (.loop { lp1 with state:=.busy }) },?_,?_⟩
     .simp[Instr.beginRound,Instr.getLoop,getObj,setObj,Sem.run,m1,(m2.ready rfl).1]
     .split at hf
      .rename_i e s2 apP;refine wP (iy:=true) (r:=some l') hm hC hB (by simp) _ _ _ _ apP n _ M1 _ _ TJ fun M3 a3 w3 hR3=>?_;split at hf
       .rename_i f3 nt3 ajG ps3 a3' b3 hh3;simp only[a09,a1k]at hf;obtain⟨rfl,rfl,rfl⟩:=hf;obtain⟨q3,hl3⟩:∃q3,M3 (.h l)=some (.obj l' q3):=by
         obtain⟨l0,g1,g2⟩:=hR3.ext.JI _ _ hl;cases l0 with
         |cells ls=>exact g2.elim
         |obj r' o'=>cases g2.1;exact⟨o',g1⟩
        obtain⟨gQ,k1,k2⟩:=hR3.val.ok _ _ hl3 trivial;simp only[St.get,hh3,a09]at k1;subst k1;obtain⟨lp3,q1,q2⟩:=k2
        let lp4:Loop:={ lp3 with state:=if(uz e).isNone then .ready else .done,pending:=uz e }
        obtain⟨v4,x4⟩:=EW hR3.val hl3 hh3 rfl (b':=.loop (qh e) f3 nt3 ajG ps3 a3' b3 (uz e)) (o':=.loop lp4) ⟨lp4,by simp[(a2I.1 q1).1],
         {ps:=q2.ps,vY:=q2.vY,body:=q2.body,size:=q2.size,Nj:=q2.Nj,V6:=q2.V6,nol:=q2.nol
          ready:=fun hn=>by cases e<;>simp[qh]at hn;exact⟨rfl,rfl⟩
          busy:=fun hn hp=>by cases e<;>simp[qh,uz]at hn hp
          done:=fun hn j hj _=>by cases e<;>simp[qh]at hn<;>(simp only[uz,a09]at hj;subst hj;exact⟨rfl,rfl⟩) }⟩
        have hR4:=hR3.next hB (s':={ s2 with heap:=s2.heap.set l (.loop (qh e) f3 nt3 ajG ps3 a3' b3 (uz e)),ws:=FM h.length l s2.ws }) v4 x4 rfl rfl (fun _ _ e=>e);have Px:=a08 hB hR4 (v:=.bool (qh e)) (y:=.bool (qh e)) (.bool _);have afI:(Instr.endRound l' (uz e)).run P w3=.ok (.bool (qh e)) { w3 with heap:=w3.heap.setIfInBounds l' (.loop lp4) }:=by cases e<;>simp[Instr.endRound,Instr.getLoop,getObj,setObj,Sem.run,q1,qh,uz,lp4]
        cases e with
        |norm=>exact⟨_,_,afI,Px⟩
        |exit id=>exact⟨_,_,afI,Px⟩
        |ret=>exact⟨_,_,afI,Px⟩
       .cases hf
      .cases hf
    .cases hf
   .cases hf
  .cases hf
 .cases hf
end
def a0b(cd:xM):Prop:=∀fv args h K1 K2,cd fv args h K1->cd fv args h K2->∃v h' ws,K1 v h' ws/\K2 v h' ws
theorem XI:a0b DN:=fun _ _ _ _ _ h _=>h.elim
theorem a4c{P}:NW P DN:=fun _ _ _ _ _ _ h=>h.elim
section
variable{P:LI1}{T:vH}{call:dO}{cd:xM}{L f:Nat}{fl nt:Nat}
theorem Py{g}(hg:∀s Q1 Q2,g s Q1->g s Q2->∃e s',Q1 e s'/\Q2 e s'):∀(k) {s} {Q1 Q2},IE g k s Q1->IE g k s Q2->∃e s',Q1 e s'/\Q2 e s'
 | 0,_,_,_,h,_=>h.elim
 |k+1,s,Q1,Q2,h1,h2=>by
  obtain⟨e,s',q1,q2⟩:=hg _ _ _ h1 h2;cases e with
  |norm=>exact Py hg k q1 q2
  |exit i=>exact⟨_,_,q1,q2⟩
  |ret=>exact⟨_,_,q1,q2⟩
theorem a0c{s it K1 K2}(h1:a1Q fl s it K1)(h2:a1Q fl s it K2):∃s1 v,K1 s1 v/\K2 s1 v:=by
 obtain⟨b,r,n,seen,es,a1,a2,a3,a4,a5,a6⟩:=h1;obtain⟨b',r',n',au9,gV,c1,c2,c3,c4,c5,c6⟩:=h2;rw[a1]at c1;cases c1;rw[a2]at c2;cases c2;rw[a3]at c3;cases c3;by_cases h:∀j,j<n->j∈seen
 .exact⟨_,_,a5 h,c5 h⟩
 obtain⟨j,hj⟩:=Classical.not_forall.1 h;obtain⟨hj1,tY⟩:=Classical.not_imp.1 hj;have hl:j<es.length:=by omega
 exact⟨_,_,a6 j _ tY (a0Q hl),c6 j _ tY (a0Q hl)⟩
theorem Pz(hcd:a0b cd):∀(c) {s} {Q1 Q2},fM P T call cd L f fl nt c s Q1->fM P T call cd L f fl nt c s Q2->∃e s',Q1 e s'/\Q2 e s':=by
 have plain:∀(c:Code) {s:St} {Q1 Q2:Ex->St->Prop},(∃e s',exec P T call L f false fl nt c s=some (e,s')/\Q1 e s')->(∃e s',exec P T call L f false fl nt c s=some (e,s')/\Q2 e s')->∃e s',Q1 e s'/\Q2 e s':=by rintro c s Q1 Q2 ⟨e,s1,h1,h2⟩ ⟨e',s2,h3,h4⟩;rw[h1]at h3;cases h3;exact⟨_,_,h2,h4⟩
 intro c
 induction c with
 |region id ops draw=>
  intro s Q1 Q2 h1 h2;simp only[fM]at h1 h2;split at h1
  .rename_i it nx o1 o2 hn;simp only[hn]at h2;obtain⟨s1,v,⟨s2,is,k1,k2⟩,⟨s3,is',k3,k4⟩⟩:=a0c h1.2 h2.2;rw[k1]at k3;cases k3;exact⟨_,_,k2,k4⟩
  rename_i hn;simp only[hn]at h2;exact plain _ h1 h2
 |seq x y XE ihy=>
  intro s Q1 Q2 h1 h2;simp only[fM]at h1 h2;obtain⟨e,s1,q1,q2⟩:=XE h1 h2;cases e with
  |norm=>exact ihy q1 q2
  |exit i=>exact⟨_,_,q1,q2⟩
  |ret=>exact⟨_,_,q1,q2⟩
 |cond c x y XE ihy=>
  intro s Q1 Q2 h1 h2;simp only[fM]at h1 h2;split at h1
  .rename_i hc;simp only[hc]at h2;exact XE h1 h2
  .rename_i hc;simp only[hc]at h2;exact ihy h1 h2
  exact h1.elim
 |block id b ih=>
  intro s Q1 Q2 h1 h2;simp only[fM]at h1 h2;obtain⟨e,s1,q1,q2⟩:=ih h1 h2;exact⟨_,_,q1,q2⟩
 |scope b ih=>
  intro s Q1 Q2 h1 h2;simp only[fM]at h1 h2;exact ih h1 h2
 |loop b ih=>
  intro s Q1 Q2 h1 h2;simp only[fM]at h1 h2;exact Py (g:=fun s Q=>fM P T call cd L f fl nt b (kN (T.eY f (dZ b)) s) Q) (fun s Q1 Q2 a b=>ih a b) L h1 h2
 |rangeFunc g ps vY body=>
  intro s Q1 Q2 h1 h2;simp only[fM]at h1 h2;split at h1
  .rename_i hd;rw[a1e hd]at h2;obtain⟨f1,a1,b1,e1,_,k1⟩:=h1;obtain⟨f2,a2,b2,e2,_,k2⟩:=h2;rw[e1]at e2;cases e2;obtain⟨v,h',ws,⟨_,_,_,_,_,_,_,_,_,c1,c2,c3⟩,⟨_,_,_,_,_,_,_,_,_,d1,d2,d3⟩⟩:=hcd _ _ _ _ _ k1 k2;rw[c1]at d1;cases d1;rw[c2]at d2;cases d2;exact⟨_,_,c3,d3⟩
  rename_i hd;rw[a18 hd]at h2;exact plain _ h1 h2
 |_=>
  intro s Q1 Q2 h1 h2;simp only[fM]at h1 h2;exact plain _ h1 h2
def wo(P:LI1)(T:vH)(call:dO)(L:Nat):xM:=fun fv args h K=>match fv with
 |.fn f a b=>∃t,V3 P f=some t/\fM P T call DN L f h.length t.nt t.body ⟨o8 0 (a++args++b),[],h,[]⟩ fun e s=>(e=.norm\/e=.ret)/\∃vs,yJ P s t.results=some vs/\K (one vs) s.heap s.ws
 |_=>False
theorem XJ:a0b (wo P T call L):=fun fv args h K1 K2 h1 h2=>by
 cases fv with
 |fn f a b=>
  obtain⟨t,e1,k1⟩:=h1;obtain⟨t',e2,k2⟩:=h2;rw[e1]at e2;cases e2;obtain⟨e,s,⟨_,vs,a1,a2⟩,⟨_,vs',a3,a4⟩⟩:=Pz XI _ k1 k2;rw[a1]at a3;cases a3;exact⟨_,_,_,a2,a4⟩
 |_=>exact h1.elim
def XK(P:LI1)(T:vH)(call:dO)(L:Nat)(f:Nat)(t:FnT)(args:List TV)(h:List HB)(r:TV×List HB):Prop:=
 fM P T call (wo P T call L) L f h.length t.nt t.body ⟨o8 0 args,[],h,[]⟩ fun e s=>(e=.norm\/e=.ret)/\∃vs,yJ P s t.results=some vs/\s.ws=[]/\Pn (T.aat.contains f) h (one vs) s.heap=some r
open Classical in
def a4d(P:LI1)(T:vH)(call:dO)(L:Nat)(f:Nat)(args:List TV)(h:List HB):Option (TV×List HB×List Nat):=
 match V3 P f with
 |some t=>if hx:∃r,XK P T call L f t args h r then some ((Classical.choose hx).1,(Classical.choose hx).2,[])else none
 |none=>none
theorem a4e{args h r}(hf:a4d P T call L f args h=some r):∃t,V3 P f=some t/\XK P T call L f t args h (r.1,r.2.1)/\r.2.2=[]:=by
 unfold a4d at hf;split at hf
 .rename_i t ht;split at hf
  .rename_i hx;cases hf;exact⟨t,ht,aap hx,rfl⟩
  cases hf
 cases hf
theorem aaQ{args h r t}(ht:V3 P f=some t)(hr:XK P T call L f t args h r):a4d P T call L f args h=some (r.1,r.2,[]):=by unfold a4d;rw[ht];simp only[];have hx:∃r,XK P T call L f t args h r:=⟨r,hr⟩;rw[dif_pos hx];obtain⟨e,s,⟨_,vs,a1,_,a2⟩,⟨_,vs',a3,_,a4⟩⟩:=Pz XJ _ (aap hx) hr;rw[a1]at a3;cases a3;rw[a2]at a4;cases a4;rfl
end
section
variable{P:LI1}{T:vH}{call:dO}{cd:xM}{L:Nat}{nt:Nat}{M:Mp}{h:List HB}{w:LI4}
theorem a1W(hm:P.follows .mixedOrders=true)(hC:iM P call)(hD:NW P cd){f args t}{K:TV->List HB->List Nat->Prop}(ht:V3 P f=some t)(hO:fM P T call cd L f h.length t.nt t.body ⟨o8 0 args,[],h,[]⟩ fun e s=>(e=.norm\/e=.ret)/\∃vs,yJ P s t.results=some vs/\K (one vs) s.heap s.ws) (hB:xJ M h w) {xs} (hx:bZ M.h args xs) :
  ∃ fn c, P.funcs[f]? = some fn ∧ (fn.name == "runtime.NumGoroutine") = false ∧ fn.body = some c ∧ ∀ n, CallsIn Fence.wide n P f xs.toArray w (Ko fun y w' => ∃ v h' ws, K v h' ws ∧ jE M h w v h' ws y w') := by
 unfold V3 at ht;split at ht
 .rename_i fn hfn;split at ht
  .cases ht
  .rename_i a6Z;split at ht
   .rename_i c hc;cases ht;refine⟨fn,c,hfn,by simpa using a6Z,hc,fun n=>?_⟩;have hR0:Rel M h w fn.ntmps M ⟨o8 0 args,[],h,[]⟩ { tmps:=xs.toArray++Array.replicate (fn.ntmps-xs.toArray.size) Go.undef,defers:=[] } w:=by
     have hg:St.get ⟨o8 0 args,[],h,[]⟩=lD h:=getEnv ⟨[],[],h,[]⟩ _ _;refine⟨by rw[hg];exact hB.val,by rw[hg];exact .refl _ _ _,fun t e hl=>?_,by simp;omega,by simp,.nil⟩;obtain⟨i,v',x,e1,rfl,e3,e4⟩:=Kt hx hl;have hi:i<xs.length:=(a0x.1 e3).1;have:(xs.toArray++Array.replicate (fn.ntmps-xs.toArray.size) Go.undef).getD t Go.undef=x:=by rw[a8t,aaY (by simp;omega)];have:t=i:=(by omega);subst this;simp[e3]
     rw[this];exact .val e4
    have Px:∀(s:St) (vs:List TV),yJ P s fn.results.toList=some vs->K (one vs) s.heap s.ws->∀(M':Mp) (a':Act) (w':LI4),Rel M h w fn.ntmps M' s a' w'->LeavesInM Fence.wide n P fn a'.tmps (Ko fun y w'=>∃v h' ws,K v h' ws/\jE M h w v h' ws y w') a'.defers .returning w':=by intro s vs RS hs M' a' w' GY;refine Ph hB a'.defers a' w' rfl GY fun w'' a7a=>?_;obtain⟨y,g1,g2⟩:=Pg (P:=P) a7a RS;exact⟨y,g2,_,_,_,hs,a08 hB a7a g1⟩
    refine callsIn_of_wp_marks (F:=Fence.wide) hfn hc trivial ?_;refine a6S hm hC hD hB _ _ _ hO n _ M _ w hR0 fun e s M' a' w' hq GY=>?_;obtain⟨he,vs,h1,h2⟩:=hq;rcases he with rfl|rfl
    .exact Px s vs h1 h2 M' a' w' GY
    .exact Px s vs h1 h2 M' a' w' GY
   .cases ht
 .cases ht
theorem a4f(hm:P.follows .mixedOrders=true)(hC:iM P call):NW P (wo P T call L):=by
 intro f1 a1 b1 args h K hc M w x xs hV hl hx GV;obtain⟨t,ht,hO⟩:=hc;cases hx with
 |fn h1 h2 h3 h4=>
  rename_i ys zs;have Gp:bZ M.h (a1++args++b1) (ys++xs++zs):=(bZ.append ⟨h1,h2⟩ GV).append ⟨h3,h4⟩;obtain⟨fn,c,e1,e2,e3,e4⟩:=a1W hm hC a4c ht hO ⟨hV,hl⟩ Gp;refine⟨{ target:=.fn (.func f1) zs.toArray,args:=ys.toArray++xs.toArray },fun w=>by simp[Deferred.ofValue],f1,(ys++xs++zs).toArray,?_,e4⟩;have e2' : ¬ fn.name = "runtime.NumGoroutine" := by simpa using e2
  simp[invoke,callFunc,program,Sem.run,e1,e2',e3]
theorem aaR(hm:P.follows .mixedOrders=true)(hC:iM P call){f args v h' ws}(hf:a4d P T call L f args h=some (v,h',ws))(hB:xJ M h w){xs}(hx:bZ M.h args xs) :
  ∃ fn c, P.funcs[f]? = some fn ∧ (fn.name == "runtime.NumGoroutine") = false ∧ fn.body = some c ∧ ∀ n, CallsIn Fence.wide n P f xs.toArray w (Ko (jE M h w v h' ws)) := by
 obtain⟨t,ht,hO,hw⟩:=a4e hf;simp only at hw;subst hw;obtain⟨fn,c,e1,e2,e3,e4⟩:=a1W (K:=fun v1 h1 ws1=>ws1=[]/\Pn (T.aat.contains f) h v1 h1=some (v,h')) hm hC (a4f hm hC) ht hO hB hx;refine⟨fn,c,e1,e2,e3,fun n=>CallsIn.mono (F:=Fence.wide) (e4 n) fun en w3 XD=>?_⟩;cases en with
 |panicked c=>exact XD.elim
 |outgrown=>exact XD.elim
 |returned y=>
  obtain⟨v1,h1,ws1,⟨rfl,ho⟩,hR⟩:=XD;exact jE.norm hB.val hB.loc ho hR
end
section
variable{H:Type}
def XL(g:DataW H->List HB->Option (List TV×List HB))(n:Nat):List (DataW H)->List HB->Option (List TV×List HB)
 | [],h=>some ([],h)
 |d::ds,h=>match g d h with
  |some (c,h1)=>if c.length=n then(match XL g n ds h1 with
   |some (cs,h2)=>some (c++cs,h2)
   |none=>none)else none
  |none=>none
def Nq(P:LI1)(g:LI2->DataW H->List HB->Option (List TV×List HB)):Nat->List Field->List (DataW H)->List HB->Option (List TV×List HB)
 |_,[],[],h=>some ([],h)
 |o,f::fs,d::ds,h=>match g f.type d h with
  |some (c,h1)=>if f.offset=o/\c.length=P.cellsOf f.type then(match Nq P g (o+c.length) fs ds h1 with
   |some (cs,h2)=>some (c++cs,h2)
   |none=>none)else none
  |none=>none
 |_,_,_,_=>none
def afK (P : Program) (n : Nat) (e : TypeId) : List Field := (List.range n).map fun i => ⟨"", e, i * P.cellsOf e, false, "", "", 0⟩
def DT(P:LI1):Nat->LI2->DataW H->List HB->Option (List TV×List HB)
 | 0,_,_,_=>none
 |g+1,t,d,h=>match P.underlying t,d with
  |some .bool,.lit (.bool b)=>some ([.bool b],h)
  |some (.int _),.lit (.int k n)=>some ([.int k n],h)
  |some .string,.lit (.string bs)=>some ([.str ⟨bs.toArray⟩],h)
  |some (.slice _),.nil=>some ([.nil .aO],h)
  |some (.slice e),.slice xs ys=>match XL (DT P g e) (P.cellsOf e) (xs++ys) h with
   |some (cs,h1)=>if P.cellsOf e=0 then none else some ([.aO h1.length 0 xs.length (xs.length+ys.length) (P.cellsOf e) true],h1++[.cells .ro cs])
   |none=>none
  |some (.struct fs),.agg ds=>match Nq P (DT P g) 0 fs.toList ds h with
   |some (cs,h1)=>if cs.length=P.cellsOf t then some (cs,h1)else none
   |none=>none
  |some (.array n e),.agg ds=>match Nq P (DT P g) 0 (afK P n e) ds h with
   |some (cs,h1)=>if cs.length=P.cellsOf t then some (cs,h1)else none
   |none=>none
  |_,_=>none
variable{enc:LI2×LI3->H}{P:LI1}{w:LI4}
structure wu(M:Mp)(h:List HB)(w:LI4):Prop where
 base:xJ M h w
 ro:∀b∈h,wr b=false
def Reads(enc:LI2×LI3->H)(P:LI1)(w:LI4)(t:LI2)(cs:List LI3)(d:DataW H):Prop:=
 ∃fuel ps,DataW.trod enc P w 0 (fun _=>true) true fuel t cs=some (d,ps)
def a7b(enc:LI2×LI3->H)(P:LI1)(w:LI4)(g:LI2->DataW H->List HB->Option (List TV×List HB)):Prop:=
 ∀t d h r,g t d h=some r->∀cs,Reads enc P w t cs d->∀M,wu M h w->∃M',wu M' r.2 w/\tZ M M'/\bZ M'.h r.1 cs/\∀c∈r.1,iO c=true
theorem a1X{g}(hg:a7b enc P w g){e n}:∀(ds) (NZ:List (List LI3)) (h:List HB) (r:List TV×List HB),XL (g e) n ds h=some r ->NZ.length=ds.length->(∀(i:Nat) (d) (cs),ds[i]? = some d->NZ[i]? = some cs->Reads enc P w e cs d)->∀M,wu M h w ->∃M',wu M' r.2 w/\tZ M M'/\bZ M'.h r.1 NZ.flatten/\(∀c∈r.1,iO c=true)/\r.1.length=ds.length*n/\∀cs∈NZ,cs.length=n
 | [],NZ,h,r,hr,hl,hd,M,hB=>by simp only[XL,a09]at hr;subst hr;have:NZ=[]:=a4u (by simpa using hl);subst this;exact⟨M,hB,.refl M,.nil,by simp,by simp,by simp⟩
 |d::ds,[],h,r,hr,hl,hd,M,hB=>by simp at hl
 |d::ds,cs::NZ,h,r,hr,hl,hd,M,hB=>by
  simp only[XL]at hr;split at hr
  .rename_i c h1 hc;split at hr
   .rename_i hn;split at hr
    .rename_i cs' h2 JW;simp only[a09]at hr;subst hr;obtain⟨M1,b1,m1,v1,o1⟩:=hg e d h (c,h1) hc cs (hd 0 d cs rfl rfl) M hB;obtain⟨M2,b2,m2,v2,o2,l2,u2⟩:=a1X hg ds NZ h1 (cs',h2) JW (by simpa using hl) (fun i d' afL e1 e2=>hd (i+1) d' afL (by simpa using e1) (by simpa using e2)) M1 b1;refine⟨M2,b2,m1.trans m2,?_,?_,?_,?_⟩
     .rw[List.flatten_cons];exact(v1.mono m2.h).append v2
     .intro x hx;rcases a3M.1 hx with hx|hx
      .exact o1 x hx
      .exact o2 x hx
     .simp only[a1B,l2,hn,a4C,a3W,abn];omega
     .intro x hx;rcases a1E.1 hx with rfl|hx
      .have:=v1.len;simp only at this;omega
      .exact u2 x hx
    .cases hr
   .cases hr
  .cases hr
theorem Vr{g}(hg:a7b enc P w g){cs:List LI3}:∀(fs) (ds) (o:Nat) (h:List HB) (r:List TV×List HB),Nq P g o fs ds h=some r ->(∀(i:Nat) (f) (d),fs[i]? = some f->ds[i]? = some d->Reads enc P w f.type ((cs.drop f.offset).take (P.cellsOf f.type)) d)->∀M,wu M h w ->∃M',wu M' r.2 w/\tZ M M'/\bZ M'.h r.1 ((cs.drop o).take r.1.length)/\∀c∈r.1,iO c=true
 | [],[],o,h,r,hr,hd,M,hB=>by simp only[Nq,a09]at hr;subst hr;exact⟨M,hB,.refl M,by simpa using bZ.nil,by simp⟩
 | [],d::ds,o,h,r,hr,hd,M,hB=>by simp[Nq]at hr
 |f::fs,[],o,h,r,hr,hd,M,hB=>by simp[Nq]at hr
 |f::fs,d::ds,o,h,r,hr,hd,M,hB=>by
  simp only[Nq]at hr;split at hr
  .rename_i c h1 hc;split at hr
   .rename_i hn;obtain⟨ho,hn⟩:=hn;split at hr
    .rename_i cs' h2 JW;simp only[a09]at hr;subst hr;obtain⟨M1,b1,m1,v1,o1⟩:=hg f.type d h (c,h1) hc _ (hd 0 f d rfl rfl) M hB;obtain⟨M2,b2,m2,v2,o2⟩:=Vr hg fs ds (o+c.length) h1 (cs',h2) JW (fun i f' d' e1 e2=>hd (i+1) f' d' (by simpa using e1) (by simpa using e2)) M1 b1;refine⟨M2,b2,m1.trans m2,?_,?_⟩
     .have:=(v1.mono m2.h).append v2;rw[ho,<-hn]at this;simp only at this ⊢;rw[a1B,List.take_add,afG];exact this
     .intro x hx;rcases a3M.1 hx with hx|hx
      .exact o1 x hx
      .exact o2 x hx
    .cases hr
   .cases hr
  .cases hr
theorem MJ{n}:∀{NZ:List (List LI3)},(∀cs∈NZ,cs.length=n)->∀(i j),j<n->NZ.flatten[i*n+j]? = (NZ[i]?).bind (·[j]?)
 | [],_,i,j,_=>by simp
 |cs::NZ,h,0,j,hj=>by have:=h cs a3K;simp only[List.flatten_cons,ado,a3L];rw[a0U (by omega)];simp
 |cs::NZ,h,i+1,j,hj=>by have hc:=h cs a3K;simp only[List.flatten_cons];rw[a1r (by rw[hc,a3W,abn];omega),hc];rw[show(i+1)*n+j-n=i*n+j by rw[a3W,abn];omega];rw[MJ (fun x hx=>h x (a3I _ hx)) i j hj];simp
theorem a1Y{M h}(hB:wu M h w){cs ls}(h1:∀c∈cs,iO c=true)(h2:∀p∈ls,JQ M.h w .ro cs p) :∃M',wu M' (h++[.cells .ro cs]) w/\tZ M M'/\M' (.h h.length)=some (.cells ls):=by
 have zy:lD h (.h h.length)=none:=by simp[lD,St.get]
 have zL:M (.h h.length)=none:=by
  cases hm:M (.h h.length)with
  |none=>rfl
  |some l=>have:=hB.base.val.has hm;rw[zy]at this;cases this
 have hle:tZ M (dN M (.h h.length) (.cells ls)):=lS fun l0 h0=>by rw[zL]at h0;cases h0
 have hg:lD (h++[.cells .ro cs])=mQ (lD h) (.h h.length) (.cells .ro cs):=kT ⟨[],[],h,[]⟩ _ [] [];have hro:∀b∈h++[HB.cells .ro cs],wr b=false:=fun b hb=>by
  rcases a3M.1 hb with hb|hb
  .exact hB.ro b hb
  .simp at hb;subst hb;rfl
 refine⟨dN M (.h h.length) (.cells ls),⟨⟨⟨?_,?_,?_⟩,fun k=>?_⟩,hro⟩,hle,by simp[dN]⟩
 .intro k l hk _;rw[hg];by_cases yL:k=.h h.length
  .subst yL;simp only[dN,a2p,a09]at hk;subst hk;exact⟨.cells .ro cs,by simp[mQ],h1,fun p hp=>(h2 p hp).mono hle.h rfl,by simp,by simp⟩
  .simp only[dN,yL,a3U]at hk;obtain⟨b,g1,g2⟩:=hB.base.val.ok k l hk trivial;exact⟨b,by simp[mQ,yL,g1],g2.mono hle.h fun _ _=>rfl⟩
 .intro k k' l l' b iI hk oQ _ hb hw;have:wr b=false:=by
   cases k with
   |h x=>exact hro b (a5N hb)
   |l x=>simp[lD,St.get]at hb
  rw[this]at hw;cases hw
 .intro k l hk c hc;by_cases yL:k=.h h.length
  .subst yL;simp only[dN,a2p,a09]at hk;subst hk;obtain⟨p,hp,rfl⟩:=a1w.1 hc;obtain⟨arr,ty,fz,g1,_⟩:=(h2 p hp).row;exact(a2I.1 g1).1
  .simp only[dN,yL,a3U]at hk;exact hB.base.val.inb k l hk c hc
 .simp[dN];exact hB.base.loc k
theorem a1Z:∀g,a7b enc P w (DT P g)
 | 0=>by intro t d h r hr;simp[DT]at hr
 |g+1=>by
  intro t d h r hr cs hd M hB;obtain⟨fuel,ps,hd⟩:=hd;have ih:=a1Z g;simp only[DT]at hr;split at hr
  .-- bool
   rename_i b hu;simp only[a09]at hr;subst hr;refine⟨M,hB,.refl M,?_,by simp[iO]⟩;cases fuel with
   |zero=>simp[DataW.trod]at hd
   |succ n=>
    unfold DataW.trod at hd;rw[hu]at hd;split at hd<;>simp_all
    exact .cons (.bool _) .nil
  .-- int
   rename_i k0 k n hu;simp only[a09]at hr;subst hr;refine⟨M,hB,.refl M,?_,by simp[iO]⟩;cases fuel with
   |zero=>simp[DataW.trod]at hd
   |succ n=>
    unfold DataW.trod at hd;rw[hu]at hd;split at hd<;>simp_all
    exact .cons (.int _ _) .nil
  .-- string
   rename_i bs hu;simp only[a09]at hr;subst hr;refine⟨M,hB,.refl M,?_,by simp[iO]⟩;cases fuel with
   |zero=>simp[DataW.trod]at hd
   |succ n=>
    unfold DataW.trod at hd;rw[hu]at hd;split at hd<;>simp_all
    obtain⟨_,rfl,_⟩:=hd;exact .cons (.str _) .nil
  .-- nil slice
   rename_i e hu;simp only[a09]at hr;subst hr;refine⟨M,hB,.refl M,?_,by simp[iO]⟩;rcases Deep.open_slice hu hd with⟨rfl,_⟩|⟨a,len,cap,m,n,Dt,Pl,_,_,_,_,_,hx,_⟩
   .exact .cons .V5 .nil
   cases hx
  .-- a slice
   rename_i e xs ys hu;split at hr
   rotate_left
   .cases hr
   rename_i cells h1 hl;split at hr
   .cases hr
   rename_i Xt;simp only[a09]at hr;subst hr;rcases Deep.open_slice hu hd with⟨rfl,hx⟩|⟨a,len,cap,m,n,Dt,Pl,rfl,_,ZQ,ajH,hm,hx,JJ⟩
   .cases hx
   simp only[a2p]at hm;have hm':=hm.symm;subst hm';simp only[a1k,DataW.slice.injEq]at hx;obtain⟨⟨GV,hys⟩,_⟩:=hx;have lxs:xs.length=len:=by rw[GV];simp
   have lys:ys.length=cap-len:=by rw[hys];simp
   have hds:∀i,i<cap->(xs++ys)[i]? = some (Dt i):=by
    intro i hi;by_cases h1:i<len
    .rw[a0U (by omega),GV];simp[h1]
    rw[a1r (by omega),lxs,hys];have h2:i-len<cap-len:=(by omega);simp[h2,show len+(i-len)=i by omega]
   have hn:=JJ
   let NZ:List (List LI3):=(List.range cap).map fun i=>(w.cells? 0 (a.add (i*P.cellsOf e)) (P.cellsOf e)).getD []
   have JW:∀i,i<cap->∃cs',NZ[i]? = some cs'/\w.cells? 0 (a.add (i*P.cellsOf e)) (P.cellsOf e)=some cs'/\DataW.trod enc P w 0 (fun _=>true) true n e cs'=some (Dt i,Pl i):=by intro i hi;obtain⟨cs',e1,e2⟩:=JJ i hi;exact⟨cs',by simp[NZ,hi,e1],e1,e2⟩
   have ajI:NZ.length=cap:=(by simp[NZ]);obtain⟨M1,b1,m1,v1,o1,l1,u1⟩:=a1X ih (xs++ys) NZ h (cells,h1) hl (by simp[ajI,lxs,lys];omega) (fun i d cs e1 e2=>by
    have hi:i<cap:=by rw[<-ajI];exact(a0x.1 e2).1
    obtain⟨cs',f1,f2,f3⟩:=JW i hi;rw[f1]at e2;cases e2;rw[hds i hi]at e1;cases e1;exact⟨n,_,f3⟩) M hB
   simp only at b1 v1 o1 l1;have l1':cells.length=cap*P.cellsOf e:=by rw[l1];simp[lxs,lys];congr 1;omega
   have a6s:0<P.cellsOf e:=(by omega);have e1:xs.length+ys.length=cap:=(by omega);show ∃M',wu M' (h1++[.cells .ro cells]) w/\tZ M M'/\bZ M'.h [.aO h1.length 0 xs.length (xs.length+ys.length) (P.cellsOf e) true] [.slice (some a) len cap]/\∀c∈[TV.aO h1.length 0 xs.length (xs.length+ys.length) (P.cellsOf e) true],iO c=true;rw[e1,lxs];by_cases hc0:cap=0
   .obtain⟨M2,b2,m2,k2⟩:=a1Y b1 (cs:=cells) (ls:=[]) o1 (by simp);refine⟨M2,b2,m1.trans m2,.cons (.aO (p:=⟨0,0,0,0⟩) k2 (.inl hc0) ?_ ?_ ?_ ?_ (.inl hc0) (by unfold maxLen at ajH;omega)) .nil,by intro c hc;simp at hc;subst hc;rfl⟩
    .simp[hc0]
    .omega
    .omega
    intro _;omega
   have XM:∀k,k<cap*P.cellsOf e->w.cell? (a.add k)=NZ.flatten[k]?:=by
    intro k hk;have hj:k%P.cellsOf e<P.cellsOf e:=Nat.mod_lt _ a6s;have hi:k/P.cellsOf e<cap:=by rw[Nat.div_lt_iff_lt_mul a6s];exact hk
    have yL:k/P.cellsOf e*P.cellsOf e+k%P.cellsOf e=k:=by rw[Nat.mul_comm];exact Nat.div_add_mod k _
    obtain⟨cs',f1,f2,_⟩:=JW _ hi;obtain⟨_,_,f3⟩:=World.cells?_some f2;have f4:=f3 _ hj;rw[Deep.add_add,yL]at f4;have f5:=MJ u1 (k/P.cellsOf e) (k%P.cellsOf e) hj;rw[yL,f1]at f5;rw[f4,f5];rfl
   have ajm:0<cap*P.cellsOf e:=Nat.mul_pos (by omega) a6s;have lfl:NZ.flatten.length=cap*P.cellsOf e:=(by rw[<-v1.len,l1']);have h00:=XM 0 ajm;have hv0:NZ.flatten[0]? = some (NZ.flatten[0]'(by omega)):=a0Q _;rw[hv0,Addr.add,a1e rfl]at h00;have wz:∃arr ty fz,w.heap[a.block]? = some (.cells arr ty fz)/\a.spot=none:=by
    unfold World.cell? at h00;split at h00
    .rename_i c ty fz hh;split at h00
     .cases h00
     rename_i hsp;exact⟨c,ty,fz,hh,by simpa using hsp⟩
    cases h00
   obtain⟨arr,ty,fz,hh,hsp⟩:=wz;have XO:∀k,w.cell? (a.add k)=arr[a.off+k]?:=by
    intro k;unfold World.cell? Addr.add;by_cases hk:k=0
    .subst hk;simp[hh,hsp]
    simp[hk,hh]
   have hbound:a.off+cap*P.cellsOf e<=arr.size:=by have h1:=XM (cap*P.cellsOf e-1) (by omega);rw[XO,a0Q (by omega)]at h1;have:=(a2I.1 h1).1;omega
   obtain⟨M2,b2,m2,k2⟩:=a1Y b1 (cs:=cells) (ls:=[⟨a.block,a.off,cap*P.cellsOf e,arr.size⟩]) o1 (by intro p hp;simp at hp;subst hp;refine⟨⟨arr,ty,fz,hh,rfl,by simp,fun _ i c v hi e1 e2=>?_⟩,hbound,aht l1'.symm,by simp⟩;simp only at hi e2;rw[<-XO,XM i hi]at e2;exact v1.at_ i c v e1 e2)
   refine⟨M2,b2,m1.trans m2,.cons (.aO (p:=⟨a.block,a.off,cap*P.cellsOf e,arr.size⟩) k2 (.inr (by simp)) ?_ ?_ ?_ ?_ (.inr ⟨?_,?_⟩) (by unfold maxLen at ajH;omega)) .nil,by intro c hc;simp at hc;subst hc;rfl⟩
   .simp
   .omega
   .omega
   .intro _;omega
   .cases a;simp_all
   simpa using hbound
  .-- a struct
   rename_i fs ds hu;split at hr
   .rename_i cs' h1 hl;split at hr
    .rename_i hlen;simp only[a09]at hr;subst hr;obtain⟨zs,n,_,hx,nP,Xu,JJ⟩:=DataW.trod_struct hu hd;simp only[a1k,DataW.agg.injEq]at hx;obtain⟨rfl,_⟩:=hx;obtain⟨M',b1,m1,v1,o1⟩:=Vr ih fs.toList _ 0 h (cs',h1) hl (cs:=cs) (fun i f d e1 e2=>by have e1':fs[i]? = some f:=(by simpa using e1);simp only[a4V,a0A]at e2;obtain⟨z,hz,rfl⟩:=e2;exact⟨n,z.2,by rw[JJ i f e1',hz]⟩) M hB
     refine⟨M',b1,m1,?_,o1⟩;simp only at v1 ⊢;rw[hlen,<-nP]at v1;simpa using v1
    cases hr
   cases hr
  .-- an array
   rename_i k e ds hu;split at hr
   .rename_i cs' h1 hl;split at hr
    .rename_i hlen;simp only[a09]at hr;subst hr;obtain⟨zs,n,_,hx,nP,Xu,JJ⟩:=DataW.trod_array hu hd;simp only[a1k,DataW.agg.injEq]at hx;obtain⟨rfl,_⟩:=hx;obtain⟨M',b1,m1,v1,o1⟩:=Vr ih (afK P k e) _ 0 h (cs',h1) hl (cs:=cs) (fun i f d e1 e2=>by simp only[afK,a4V,a0A,aak]at e1 e2;obtain⟨z,hz,rfl⟩:=e2;obtain⟨j,hj,rfl⟩:=e1;obtain⟨hi,rfl⟩:=a0x.1 hj;simp only[a6I,afv]at hi ⊢;exact⟨n,z.2,by rw[JJ i hi,hz]⟩) M hB
     refine⟨M',b1,m1,?_,o1⟩;simp only at v1 ⊢;rw[hlen,<-nP]at v1;simpa using v1
    cases hr
   cases hr
  cases hr
end
open Go.ChangeShapes Go.WideShapes Go.RowKit
section
variable{H:Type}{enc:LI2×LI3->H}{P:LI1}{W W':LI4}
def Vt(P:LI1)(g:Nat):List LI2->List (DataW H)->List HB->Option (List TV×List HB)
 | [],[],h=>some ([],h)
 |t::ts,d::ds,h=>match DT P g t d h with
  |some (c,h1)=>match xq P t,c,Vt P g ts ds h1 with
   |some true,c,some (az,h2)=>some (.agg c::az,h2)
   |some false,[x],some (az,h2)=>some (x::az,h2)
   |_,_,_=>none
  |none=>none
 |_,_,_=>none
theorem a0d{r b t v}(ha:xq P t=some false)(h:Value.okWide P W r b t v):v.cells.toList=[v]:=by
 unfold xq at ha;unfold Value.okWide at h;cases hu:P.underlying t with
 |none=>simp[hu]at ha
 |some u=>
  rw[hu]at ha h;cases v with
  |agg cs=>cases u<;>simp_all [Cell.okWide,Cell.ok]
  |_=>rfl
theorem a0e{r b t v}(ha:xq P t=some true)(h:Value.okWide P W r b t v):∃cs,v=.agg cs:=by
 unfold xq at ha;unfold Value.okWide at h;cases hu:P.underlying t with
 |none=>simp[hu]at ha
 |some u=>
  rw[hu]at ha h;cases u<;>simp_all<;>exact⟨_,h.choose_spec.1⟩
theorem Vu{r b g}:∀{ts} {vs} {ds} {ps:List MemPlace} {h:List HB} {x:List TV×List HB} {M:Mp},DataW.TrodAll enc P W 0 (fun _=>true) true ts vs ds ps->(∀(j:Nat) t v,ts[j]? = some t->vs[j]? = some v->Value.okWide P W r b t v)->Vt P g ts ds h=some x->wu M h W ->∃M',wu M' x.2 W/\tZ M M'/\bZ M'.h x.1 vs
 | [],vs,ds,ps,h,x,M,ht,ho,he,hB=>by obtain⟨rfl,rfl,rfl⟩:=trodAll_nil ht;simp only[Vt,a09]at he;subst he;exact⟨M,hB,.refl M,.nil⟩
 |t::ts,vs,ds,ps,h,x,M,ht,ho,he,hB=>by
  obtain⟨v,vs',d,ds',p,q,rfl,rfl,rfl,hd,OV⟩:=trodAll_cons ht;simp only[Vt]at he;split at he
  .rename_i c h1 hc;obtain⟨fuel,hf⟩:=hd;obtain⟨M1,b1,m1,v1,o1⟩:=a1Z (enc:=enc) (P:=P) (w:=W) g t d h (c,h1) hc v.cells.toList ⟨fuel,p,hf⟩ M hB;split at he
   .rename_i az h2 ha hr;simp only[a09]at he;subst he;obtain⟨M2,b2,m2,v2⟩:=Vu (x:=(az,h2)) OV (fun j t' v' e1 e2=>ho (j+1) t' v' (by simpa using e1) (by simpa using e2)) hr b1;obtain⟨cs,rfl⟩:=a0e ha (ho 0 t v rfl rfl);refine⟨M2,b2,m1.trans m2,.cons ?_ v2⟩;have:=VR.agg' (v1.mono m2.h);simpa[Value.cells]using this
   .rename_i y az h2 ha hr;simp only[a09]at he;subst he;obtain⟨M2,b2,m2,v2⟩:=Vu (x:=(az,h2)) OV (fun j t' v' e1 e2=>ho (j+1) t' v' (by simpa using e1) (by simpa using e2)) hr b1;have h1c:=a0d ha (ho 0 t v rfl rfl);rw[h1c]at v1;obtain⟨z,zs,e1,e2,e3⟩:=(v1.mono m2.h).iq;simp only[afq]at e1;obtain⟨rfl,rfl⟩:=e1;exact⟨M2,b2,m1.trans m2,.cons e2 v2⟩
   .cases he
  .cases he
theorem Gq(hl:laidOutB P=true)(hb:Below W.heap.size W W'):∀{ts} {vs} {ds} {ps:List MemPlace},(ts.all fun t=>P.readableRec t&&decide (t<P.types.size))=true->DataW.TrodAll enc P W 0 (fun _=>true) true ts vs ds ps->(∀x∈ps,x.block<W.heap.size) ->DataW.TrodAll enc P W' 0 (fun b=>decide (b<W.heap.size)) true ts vs ds ps
 | [],_,_,_,_,h,_=>by obtain⟨rfl,rfl,rfl⟩:=trodAll_nil h;rfl
 |t::ts,_,_,_,ho,h,aQ=>by obtain⟨v,vs',d,ds',p,q,rfl,rfl,rfl,hd,OV⟩:=trodAll_cons h;simp only[acp,a2n,a1x]at ho;exact⟨p,q,Below.trod hl ho.1.1 ho.1.2 hd hb (fun x hx=>aQ x (a6l _ hx)),Gq hl hb ho.2 OV (fun x hx=>aQ x (abS _ hx)),rfl⟩
theorem a4h{f}{s:ChangeSpec}{args ds before tb}(hl:laidOutB P=true)(hv:s.vars=[])(hs:s.fn H ds={ results:=[.lit (.bool true)],args:=ds })(hf:f.resultTypes=#[tb]) (htb:P.underlying tb=some .bool) (hp:(f.params.toList.all fun t=>P.readableRec t&&decide (t<P.types.size))=true)(hW:DataW.Whole enc P f.params.toList s.vars false W args.toList ds [] before) (hb:Below W.heap.size W W'):s.post enc P f false true false false W args (.bool true) W':=by
 have hW':=hW;obtain⟨p,q,hA,hV,rfl,hfz,jD⟩:=hW;rw[hv]at hV;have hq:q=[]:=hV;subst hq;have aQ:∀x∈p,x.block<W.heap.size:=fun x hx=>by simpa using hW'.lt x (a6l _ hx)
 refine⟨ds,[],p++[],[],p,[],hW',?_,?_,?_,hb.frame _,by simp⟩
 .rw[a6g,hs,hf];refine⟨[],[],⟨1,?_⟩,rfl,rfl⟩;simp[DataW.trod,htb,Value.cells]
 .rw[a6g,hs];exact Gq hl hb hp hA aQ
 .rw[a6g,hs,hv];rfl
end
def Nr(P:LI1)(T:vH)(call:dO)(L:Nat)(f:Nat)(args:List TV)(h:List HB):Option (TV×List HB×List Nat):=
 match V3 P f with
 |some t=>match exec P T call L f false h.length t.nt t.body ⟨o8 0 args,[],h,[]⟩with
  |some (.norm,s)|some (.ret,s)=>match yJ P s t.results with
   |some vs=>some (one vs,s.heap,s.ws)
   |none=>none
  |_=>none
 |none=>none
def kW(P:LI1)(T:vH)(L:Nat):Nat->dO
 | 0,_,_,_=>none
 |n+1,.fn f first cap,args,h=>if T.exts.contains f=true then T.ext (.fn f first cap) args h else if T.dem.contains f=true then a4d P T (kW P T L n) L f (first++args++cap) h else Nr P T (kW P T L n) L f (first++args++cap) h
 |n+1,.lC l,args,h=>OE P T (kW P T L n) L l args h
 |_,_,_,_=>none
def runN(P:LI1)(T:vH)(L n f:Nat)(args:List TV)(h:List HB):Option (TV×List HB×List Nat):=kW P T L n (.fn f [] []) args h
section
variable{P:LI1}{T:vH}{call:dO}{L:Nat}{nt:Nat}{M:Mp}{h:List HB}{w:LI4}
theorem a2a(hm:P.follows .mixedOrders=true)(hC:iM P call){f args v h' ws}(hf:Nr P T call L f args h=some (v,h',ws))(hB:xJ M h w){xs}(hx:bZ M.h args xs) :
  ∃ fn c, P.funcs[f]? = some fn ∧ (fn.name == "runtime.NumGoroutine") = false ∧ fn.body = some c ∧ ∀ n, CallsIn Fence.wide n P f xs.toArray w (Ko (jE M h w v h' ws)) := by
 unfold Nr V3 at hf;split at hf
 .rename_i t ht;split at ht
  .rename_i fn hfn;split at ht
   .cases ht
   .rename_i a6Z;split at ht
    .rename_i c hc;cases ht;refine⟨fn,c,hfn,by simpa using a6Z,hc,fun n=>?_⟩;have hR0:Rel M h w fn.ntmps M ⟨o8 0 args,[],h,[]⟩ { tmps:=xs.toArray++Array.replicate (fn.ntmps-xs.toArray.size) Go.undef,defers:=[] } w:=by
      have hg:St.get ⟨o8 0 args,[],h,[]⟩=lD h:=getEnv ⟨[],[],h,[]⟩ _ _;refine⟨by rw[hg];exact hB.val,by rw[hg];exact .refl _ _ _,fun t e hl=>?_,by simp;omega,by simp,.nil⟩;obtain⟨i,v',x,e1,rfl,e3,e4⟩:=Kt hx hl;have hi:i<xs.length:=(a0x.1 e3).1;have:(xs.toArray++Array.replicate (fn.ntmps-xs.toArray.size) Go.undef).getD t Go.undef=x:=by rw[a8t,aaY (by simp;omega)];have:t=i:=(by omega);subst this;simp[e3]
      rw[this];exact .val e4
     have Px:∀(s:St),(match yJ P s fn.results.toList with
       |some vs=>some (one vs,s.heap,s.ws)
       |none=>none)=some (v,h',ws)->∀(M':Mp) (a':Act) (w':LI4),Rel M h w fn.ntmps M' s a' w'->LeavesInM Fence.wide n P fn a'.tmps (Ko (jE M h w v h' ws)) a'.defers .returning w':=by
      intro s hs M' a' w' GY;split at hs
      .rename_i vs RS;refine Ph hB a'.defers a' w' rfl GY fun w'' a7a=>?_;obtain⟨y,g1,g2⟩:=Pg (P:=P) a7a RS;refine⟨y,g2,?_⟩;simp only[a09,a1k]at hs;obtain⟨rfl,rfl,rfl⟩:=hs;exact a08 hB a7a g1
      .cases hs
     refine callsIn_of_wp_marks (F:=Fence.wide) hfn hc trivial ?_;split at hf
     .rename_i s hex;exact wP (iy:=false) hm hC hB (fun _=>rfl) _ _ _ _ hex n _ M _ w hR0 fun M' a' w' GY=>Px s hf M' a' w' GY
     .rename_i s hex;exact wP (iy:=false) hm hC hB (fun _=>rfl) _ _ _ _ hex n _ M _ w hR0 fun M' a' w' GY=>Px s hf M' a' w' GY
     .cases hf
    .cases ht
  .cases ht
 .cases hf
theorem a0f(hm:P.follows .mixedOrders=true)(hE:iM P T.ext):∀n,iM P (kW P T L n)
 | 0=>by intro fv args h v h' ws hc;simp[kW]at hc
 |n+1=>by
  intro fv args h v h' ws hc M w x xs hV hl hx GV;have ih:=a0f hm hE n;cases fv with
  |fn f first cap=>
   simp only[kW]at hc;split at hc
   .exact hE _ _ _ _ _ _ hc M w x xs hV hl hx GV
   rename_i hnx;cases hx with
   |fn h1 h2 h3 h4=>
    rename_i ys zs;have Gp:bZ M.h (first++args++cap) (ys++xs++zs):=(bZ.append ⟨h1,h2⟩ GV).append ⟨h3,h4⟩;obtain ⟨fn, c, e1, e2, e3, e4⟩ : ∃ fn c, P.funcs[f]? = some fn ∧ (fn.name == "runtime.NumGoroutine") = false ∧ fn.body = some c ∧ ∀ n, CallsIn Fence.wide n P f (ys ++ xs ++ zs).toArray w (Ko (jE M h w v h' ws)) := by
     split at hc
     .exact aaR hm ih hc ⟨hV,hl⟩ Gp
     exact a2a hm ih hc ⟨hV,hl⟩ Gp
    refine⟨{ target:=.fn (.func f) zs.toArray,args:=ys.toArray++xs.toArray },fun w=>by simp[Deferred.ofValue],.inl ⟨⟨f,(ys++xs++zs).toArray,?_,e4⟩,f,first,cap,rfl⟩⟩;have e2' : ¬ fn.name = "runtime.NumGoroutine" := (by simpa using e2);simp[invoke,callFunc,program,Sem.run,e1,e2',e3]
  |lC l=>
   simp only[kW]at hc;cases hx with
   |lC hm'=>
    rename_i l' _;refine⟨{ target:=.fn (.yield l') #[],args:=xs.toArray },fun w=>by simp[Deferred.ofValue],.inr ⟨a6Y hm ih hc ⟨hV,hl⟩ hm' GV,l,rfl⟩⟩
  |_=>simp[kW]at hc
theorem aaS(hm:P.follows .mixedOrders=true)(hE:iM P T.ext){n f args v h' ws}(hnf:T.exts.contains f=false)(jD:T.dem.contains f=false)(hr:runN P T L (n+1) f args h=some (v,h',ws))(hV:Valid M rU (lD h) w)(hl:∀k,M (.l k)=none){xs} (hx:bZ M.h args xs) (k):CallsIn Fence.wide k P f xs.toArray w (Ko (jE M h w v h' ws)):=by
 simp only[runN,kW,hnf,jD,a2K,a3U]at hr;have Gp:bZ M.h ([]++args++[]) xs:=by simpa using hx
 obtain⟨fn,c,_,_,_,e4⟩:=a2a hm (a0f hm hE n) hr ⟨hV,hl⟩ Gp;exact e4 k
end
section
variable{H:Type}{enc:LI2×LI3->H}{P:LI1}{W W':LI4}
theorem a0g{T L n g aaT f}{s:ChangeSpec}{args ds before tb r b}(hm:P.follows .mixedOrders=true)(hl:laidOutB P=true) (hv:s.vars=[]) (hs:s.fn H ds={ results:=[.lit (.bool true)],args:=ds })(hf:f.resultTypes=#[tb]) (htb:P.underlying tb=some .bool) (hp:(f.params.toList.all fun t=>P.readableRec t&&decide (t<P.types.size))=true)(hW:DataW.Whole enc P f.params.toList s.vars false W args.toList ds [] before)(XP:∀(j:Nat) t v,f.params[j]? = some t->args[j]? = some v->Value.okWide P W r b t v){az h h'} (he:Vt P g f.params.toList ds []=some (az,h)) (hE:iM P T.ext) (hnf:T.exts.contains aaT=false) (jD:T.dem.contains aaT=false) (hr:runN P T L (n+1) aaT az h=some (.bool true,h',[])) :Calls P aaT args W fun e W'=>∃v,e=.returned v/\s.post enc P f false true false false W args v W':=by
 obtain⟨p,q,hA,_⟩:=id hW;have h0:wu (fun _=>none) [] W:=⟨⟨⟨by simp,by simp,by simp⟩,by simp⟩,by simp⟩;obtain⟨M',b1,_,v1⟩:=Vu hA (fun j t v e1 e2=>XP j t v (by simpa using e1) (by simpa using e2)) he h0;have hc:=aaS hm hE hnf jD hr b1.base.val b1.base.loc v1 0;refine(callsIn_wide.1 hc).mono fun e W' hR=>?_;cases e with
 |panicked c=>exact hR.elim
 |outgrown=>exact hR.elim
 |returned v=>
  obtain⟨M2,_,_,hX,hv'⟩:=hR;cases hv';refine⟨_,rfl,a4h hl hv hs hf htb hp hW ⟨hX.os,hX.tape,hX.output,hX.size,fun k hk=>hX.frame k hk (by simp)⟩⟩
end
end Tw
namespace Pv
open Go Tw
inductive PV(Γ:Nat->Type) where
 |bool (b:Bool)
 |lit (b:Bool)
 |int (k:IntKind) (n:Int)
 |str (s:ByteArray)
 |nil (k:NK)
 |ptr (b off lim:Nat)
 |aO (b off len cap sz:Nat) (ex:Bool)
 |own (b:Nat)
 |win (b o n:Nat)
 |I9 (b:Nat)
 |map (r:Nat)
 |fn (f:FuncId) (first cap:List (PV Γ))
 |lC (l:Nat)
 |agg (cs:List (PV Γ))
 |dM (cs:List (PV Γ))
 |dD (t:Nat) (l:List (Γ t)) (full:Bool)
 |el (t:Nat) (a:Γ t) (off:Nat)
 |row (b j off:Nat)
 |iter (b:Nat)
inductive PE(Γ:Nat->Type) where
 |val (v:PV Γ)
 |loc (k off:Nat)
 |undef
 |ent (r j:Nat) (v:PV Γ)
 |FK (r j:Nat)
inductive PB(Γ:Nat->Type) where
 |cells (cs:List (PV Γ))
 |aF (cs:List (PV Γ))
 |list (k ex:Bool) (t:Nat) (l:List (Γ t))
 |map (es:List (PV Γ×PV Γ))
 |mark
 |loop (ready:Bool) (f:FuncId) (nt:Nat) (env:List (Nat×PE Γ)) (ps:List Nat) (assign body:Code) (jW:Option Code)
 |dB (r n:Nat) (seen:List Nat)
 |iP (es:List (PV Γ×PV Γ))
 |nN (cs:List (PV Γ))
 |gone
structure bV(Γ:Nat->Type) where
 env:List (Nat×PE Γ)
 loc:List (List (PV Γ))
 heap:List (PB Γ)
structure mV where
 Γ:Nat->Type
 d0:(t:Nat)->Γ t
 enc:(t:Nat)->Γ t->List (PV Γ)
 dec:(t:Nat)->List (PV Γ)->Option (Γ t)
section
variable{Γ:Nat->Type}
def rY:PV Γ->Option TV
 |.bool b=>some (.bool b)
 |.int k n=>some (.int k n)
 |.str s=>some (.str s)
 |.nil k=>some (.nil k)
 |_=>none
def iZ:List (PV Γ)->Option (List TV)
 | []=>some []
 |c::cs=>match rY c,iZ cs with
  |some v,some vs=>some (v::vs)
  |_,_=>none
def qE:PV Γ->Option TV
 |.agg cs=>(iZ cs).map .agg
 |v=>rY v
def Vw:List (PV Γ)->Option (List TV)
 | []=>some []
 |c::cs=>match qE c,Vw cs with
  |some v,some vs=>some (v::vs)
  |_,_=>none
def ofC:TV->Option (PV Γ)
 |.bool b=>some (.bool b)
 |.int k n=>some (.int k n)
 |.str s=>some (.str s)
 |.nil k=>some (.nil k)
 |_=>none
def Dn:List TV->Option (List (PV Γ))
 | []=>some []
 |c::cs=>match ofC c,Dn cs with
  |some v,some vs=>some (v::vs)
  |_,_=>none
def ZA:TV->Option (PV Γ)
 |.agg cs=>(Dn cs).map .agg
 |v=>ofC v
def PV.cells:PV Γ->List (PV Γ)
 |.agg cs=>cs
 |v=>[v]
def a0h:PV Γ->Bool
 |.agg _|.dM _=>false
 |_=>true
def Gs(t:Nat):List (Nat×PE Γ)->Option (PE Γ)
 | []=>none
 |(k,v)::r=>if k=t then some v else Gs t r
def bV.put(s:bV Γ)(dst:Option Nat)(v:PE Γ):bV Γ:=
 match dst with
 |some d=>{ s with env:=(d,v)::s.env }
 |none=>s
def jF(live:List Nat)(env:List (Nat×PE Γ)):List (Nat×PE Γ):=
 match live with
 | []=>[]
 |t::r=>match Gs t env with
  |some v=>(t,v)::jF r env
  |none=>jF r env
def CX(t:Nat)(b:Bool):List (Nat×PE Γ)->List (Nat×PE Γ)
 | []=>[]
 |(k,v)::r=>if k=t then(k,.val (.lit b))::r else(k,v)::CX t b r
def bV.CX(s:bV Γ)(x:Operand)(b:Bool):bV Γ:=
 match x with
 |.tmp t=>{ s with env:=Pv.CX t b s.env }
 |_=>s
def H7(env:List (Nat×PE Γ)):Operand->Option (PE Γ)
 |.tmp t=>Gs t env
 |.const v=>match TV.Xb v with
  |some (.bool b)=>some (.val (.lit b))
  |some x=>(ZA x).map .val
  |none=>none
 |.func f=>some (.val (.fn f [] []))
 |.global _=>none
def a2b:PV Γ->PV Γ
 |.lit b=>.bool b
 |v=>v
def Az(env:List (Nat×PE Γ))(x:Operand):Option (PV Γ):=
 match H7 env x with
 |some (.val v)=>some (a2b v)
 |_=>none
def a2c(env:List (Nat×PE Γ))(x:Operand):Option (PV Γ):=
 match H7 env x with
 |some (.val v)=>some v
 |_=>none
def a0i(env:List (Nat×PE Γ)):List Operand->Option (List (PV Γ))
 | []=>some []
 |x::xs=>match Az env x,a0i env xs with
  |some v,some vs=>some (v::vs)
  |_,_=>none
def a4i(env:List (Nat×PE Γ)):List (Nat×Operand)->Option (List (Nat×PV Γ))
 | []=>some []
 |(i,x)::xs=>match Az env x,a4i env xs with
  |some v,some vs=>some ((i,v)::vs)
  |_,_=>none
def PD(env:List (Nat×PE Γ)):Option Operand->Option (Option (PV Γ))
 |none=>some none
 |some x=>match Az env x with
  |some v=>some (some v)
  |none=>none
def afN(cs:List (PV Γ))(off n:Nat):Option (List (PV Γ)):=
 if off+n<=cs.length then some ((cs.drop off).take n)else none
def PG(cs:List (PV Γ))(off:Nat)(new:List (PV Γ)):Option (List (PV Γ)):=
 if off+new.length<=cs.length then some (cs.take off++new++cs.drop (off+new.length))else none
def IG(P:LI1)(t:LI2)(cs:List (PV Γ))(off:Nat):Option (PV Γ):=
 match xq P t,dI P t with
 |some true,some n=>(afN cs off n).map .agg
 |some false,some n=>if n=1 then cs[off]? else none
 |_,_=>none
def TT(P:LI1)(t:LI2):Option (List (PV Γ)):=
 match LY P t with
 |some z=>Dn z
 |none=>none
def PK(place:Nat->Option (Nat×Nat)):List (PV Γ)->List (Nat×PV Γ)->Option (List (PV Γ))
 |cs,[]=>some cs
 |cs,(i,v)::r=>match place i with
  |some (off,size)=>if v.cells.length=size then(match PG cs off v.cells with|some cs'=>PK place cs' r|none=>none)else none
  |none=>none
def a0j(P:LI1)(t:LI2)(parts:List (Nat×PV Γ)):Option (PV Γ):=
 match TT P t,P.underlying t with
 |some z,some (.struct fs)=>if Dq P fs.toList then(PK (UY P fs) z parts).map .agg else none
 |some z,some (.array _ e)=>match dI P e with
  |some n=>(PK (fun i=>some (i*n,n)) z parts).map .agg
  |none=>none
 |_,_=>none
def a0k(z:List (PV Γ)):Nat->List (PV Γ)
 | 0=>[]
 |n+1=>z++a0k z n
def EX(site:Bool)(s:bV Γ)(cs:List (PV Γ)):PE Γ×bV Γ:=
 if site then(.val (.ptr s.heap.length 0 cs.length),{ s with heap:=s.heap++[.cells cs] })
 else(.loc s.loc.length 0,{ s with loc:=s.loc++[cs] })
def view(H:List (PB Γ)):PV Γ->Option (PV Γ)
 |.own i=>match H[i]? with
  |some (.list _ _ t l)=>some (.dD t l false)
  |_=>none
 |.win i o n=>match H[i]? with
  |some (.list _ _ t l)=>some (.dD t ((l.drop o).take n) false)
  |_=>none
 |.fn f a c=>match views H a,views H c with
  |some a,some c=>some (.fn f a c)
  |_,_=>none
 |.agg cs=>(views H cs).map .agg
 |.dM cs=>(views H cs).map .dM
 |.ptr _ _ _=>none
 |.aO _ _ _ _ _ _=>none
 |.map _=>none
 |.iter _=>none
 |.lC _=>none
 |.el _ _ _=>none
 |.row _ _ _=>none
 |.I9 _=>none
 |.bool b=>some (.bool b)
 |.lit b=>some (.bool b)
 |.int k n=>some (.int k n)
 |.str s=>some (.str s)
 |.nil k=>some (.nil k)
 |.dD t l f=>some (.dD t l f)
where
 views (H:List (PB Γ)):List (PV Γ)->Option (List (PV Γ))
 | []=>some []
 |c::cs=>match view H c,views H cs with
  |some v,some vs=>some (v::vs)
  |_,_=>none
abbrev views(H:List (PB Γ)):=view.views H
def lN:PV Γ->List Nat
 |.own i=>[i]
 |.win i _ _=>[i]
 |.I9 i=>[i]
 |.fn _ a c=>kX a++kX c
 |.agg cs=>kX cs
 |.dM cs=>kX cs
 |_=>[]
where
 kX:List (PV Γ)->List Nat
 | []=>[]
 |c::cs=>lN c++kX cs
def yE:PV Γ->Bool
 |.dD _ _ _=>true
 |.el _ _ _=>true
 |.fn _ a c=>II a||II c
 |.agg cs=>II cs
 |.dM cs=>II cs
 |_=>false
where
 II:List (PV Γ)->Bool
 | []=>false
 |c::cs=>yE c||II cs
def jH:PV Γ->Bool
 |.ptr _ _ _=>false
 |.aO _ _ _ _ _ _=>false
 |.own _=>false
 |.win _ _ _=>false
 |.I9 _=>false
 |.map _=>false
 |.iter _=>false
 |.lC _=>false
 |.row _ _ _=>false
 |.fn _ a c=>IJ a&&IJ c
 |.agg cs=>IJ cs
 |.dM cs=>IJ cs
 |_=>true
where
 IJ:List (PV Γ)->Bool
 | []=>true
 |c::cs=>jH c&&IJ cs
def shift(k:Nat):PV Γ->PV Γ
 |.ptr b off lim=>.ptr (b+k) off lim
 |.aO b off len cap sz ex=>.aO (b+k) off len cap sz ex
 |.own b=>.own (b+k)
 |.win b o n=>.win (b+k) o n
 |.I9 b=>.I9 (b+k)
 |.map r=>.map (r+k)
 |.iter r=>.iter (r+k)
 |.fn f a c=>.fn f (shifts k a) (shifts k c)
 |.lC l=>.lC (l+k)
 |.agg cs=>.agg (shifts k cs)
 |.dM cs=>.dM (shifts k cs)
 |.row b j off=>.row (b+k) j off
 |.bool b=>.bool b
 |.lit b=>.lit b
 |.int k n=>.int k n
 |.str s=>.str s
 |.nil k=>.nil k
 |.dD t l f=>.dD t l f
 |.el t a off=>.el t a off
where
 shifts (k:Nat):List (PV Γ)->List (PV Γ)
 | []=>[]
 |c::cs=>shift k c::shifts k cs
def XQ(i:Nat)(H:List (PB Γ)):List (PB Γ):=H.set i .gone
def aX:List Nat->List (PB Γ)->List (PB Γ)
 | [],H=>H
 |i::is,H=>aX is (XQ i H)
end
section
variable(X:mV)
def H8(k:Nat):PB X.Γ->Option (PB X.Γ)
 |.cells cs=>some (.cells (shift.shifts k cs))
 |.list w ex t l=>some (.list w ex t l)
 |.gone=>some .gone
 |_=>none
def rZ(k:Nat):List (PB X.Γ)->Option (List (PB X.Γ))
 | []=>some []
 |b::bs=>match H8 X k b,rZ k bs with
  |some b,some bs=>some (b::bs)
  |_,_=>none
def hasB:PB X.Γ->Bool
 |.cells cs=>yE.II cs
 |.gone=>false
 |_=>true
def aaU(H:List (PB X.Γ))(t)(cs:List (PV X.Γ)):Option (X.Γ t×List Nat):=
 match views H cs with
 |some vs=>match X.dec t vs with
  |some a=>some (a,lN.kX cs)
  |none=>none
 |none=>none
def yR(H:List (PB X.Γ))(t sz:Nat):Nat->List (PV X.Γ)->Option (List (X.Γ t)×List Nat)
 | 0,_=>some ([],[])
 |n+1,cs=>if sz<=cs.length then match aaU X H t (cs.take sz),yR H t sz n (cs.drop sz)with
  |some (a,is),some (l,js)=>some (a::l,is++js)
  |_,_=>none
  else none
def Cm{Γ:Nat->Type}(t t')(l:List (Γ t')):Option (List (Γ t)):=
 if h:t'=t then some (h▸l)else none
def Bg(H:List (PB X.Γ))(e sz:Nat):PV X.Γ->Option (List (X.Γ e)×List Nat)
 |.nil .aO=>some ([],[])
 |.dD t l _=>(Cm e t l).map fun l=>(l,[])
 |.own i=>match H[i]? with
  |some (.list _ _ t l)=>(Cm e t l).map fun l=>(l,[])
  |_=>none
 |.win i o n=>match H[i]? with
  |some (.list _ _ t l)=>(Cm e t l).map fun l=>((l.drop o).take n,[])
  |_=>none
 |.aO b off len _ sz' _=>match H[b]? with
  |some (.cells cs)=>if sz'=sz/\off+len*sz<=cs.length then yR X H e sz len (cs.drop off)else none
  |_=>none
 |_=>none
def Bh(P:LI1)(t:LI2)(s:bV X.Γ):PE X.Γ->Option (PV X.Γ×yH)
 |.loc k off=>match s.loc[k]? with
  |some cs=>(IG P t cs off).map fun v=>(v,yA (.l k))
  |none=>none
 |.val (.ptr b off lim)=>match s.heap[b]?,dI P t with
  |some (.cells cs),some n=>if off+n<=lim then(IG P t cs off).map fun v=>(v,yA (.h b))else none
  |some (.aF cs),some n=>if off+n<=lim then(IG P t cs off).map fun v=>(v,dn)else none
  |_,_=>none
 |.val (.row b j off)=>match s.heap[b]? with
  |some (.list _ _ e l)=>(IG P t (X.enc e (l.getD j (X.d0 e))) off).map fun v=>(v,yA (.h b))
  |_=>none
 |.val (.el e a off)=>(IG P t (X.enc e a) off).map fun v=>(v,dn)
 |_=>none
def Vx(P:LI1)(t:LI2)(s:bV X.Γ)(a:PE X.Γ)(v:PV X.Γ):Option (bV X.Γ×yH):=
 match dI P t with
 |some n=>
  if v.cells.length=n/\v.cells.all a0h=true then
   match a with
   |.loc k off=>match s.loc[k]? with
    |some cs=>(PG cs off v.cells).map fun cs'=>({ s with loc:=s.loc.set k cs' },qg (.l k))
    |none=>none
   |.val (.ptr b off lim)=>if off+n<=lim then(match s.heap[b]? with
    |some (.cells cs)=>(PG cs off v.cells).map fun cs'=>({ s with heap:=s.heap.set b (.cells cs') },qg (.h b))
    |_=>none)else none
   |.val (.row b j off)=>match s.heap[b]? with
    |some (.list k ex e l)=>match PG (X.enc e (l.getD j (X.d0 e))) off v.cells with
     |some cs=>match aaU X s.heap e cs with
      |some (x,is)=>if is.contains b then none else some ({ s with heap:=aX is (s.heap.set b (.list k ex e (l.set j x))) },qg (.h b))
      |none=>none
     |none=>none
    |_=>none
   |_=>none
  else none
 |none=>none
def ajK:PE X.Γ->bV X.Γ->Option Nat
 |.val (.el e a _),_=>some (X.enc e a).length
 |.val (.row b j _),s=>match s.heap[b]? with
  |some (.list _ _ e l)=>some (X.enc e (l.getD j (X.d0 e))).length
  |_=>none
 |_,_=>none
def IK(s:bV X.Γ)(o:Nat):PE X.Γ->Option (PE X.Γ)
 |.loc k off=>some (.loc k (off+o))
 |.val (.ptr b off lim)=>match s.heap[b]? with
  |some (.cells _)=>if off+o<=lim then some (.val (.ptr b (off+o) lim))else none
  |some (.aF _)=>if off+o<=lim then some (.val (.ptr b (off+o) lim))else none
  |_=>none
 |.val (.el e a off)=>if off+o<=(X.enc e a).length then some (.val (.el e a (off+o)))else none
 |.val (.row b j off)=>match ajK X (.val (.row b j off)) s with
  |some n=>if off+o<=n then some (.val (.row b j (off+o)))else none
  |none=>none
 |_=>none
def gG(i:Int)(n:Nat):Prop:=0<=i/\i<(n:Int)
def a4j(n:Nat):PV X.Γ->Option Nat
 |.int _ i=>if 0<=i/\i<n then some i.toNat else none
 |_=>none
def H9(P:LI1)(t:LI2)(s:bV X.Γ)(x:PE X.Γ)(i:PV X.Γ):Option (PE X.Γ×List Prop):=
 match P.underlying t with
 |some (.slice e)=>match dI P e,x,i with
  |some n,.val (.dD t' l _),.int _ iv=>if t'=e then some (.val (.el t' (l.getD iv.toNat (X.d0 t')) 0),[gG iv l.length])else none
  |some n,.val (.own b),.int _ iv=>match s.heap[b]? with
   |some (.list _ _ t' l)=>if t'=e then some (.val (.row b iv.toNat 0),[gG iv l.length])else none
   |_=>none
  |some n,.val (.win b o m),.int _ iv=>match s.heap[b]? with
   |some (.list _ _ t' l)=>if t'=e then some (.val (.row b (o+iv.toNat) 0),[gG iv m])else none
   |_=>none
  |some n,.val (.aO b off len cap sz _),i=>match s.heap[b]? with
   |some (.cells _)=>if n=sz then(a4j X len i).map fun j=>(.val (.ptr b (off+j*n) (off+cap*n)),[])else none
   |_=>none
  |_,_,_=>none
 |some (.array len e)=>match dI P e with
  |some n=>match a4j X len i with
   |some j=>(IK X s (j*n) x).map fun a=>(a,[])
   |none=>none
  |none=>none
 |_=>none
def afO(P:LI1)(at_:Array LI2)(H:List (PB X.Γ))(x:PV X.Γ):Option (PV X.Γ×yH):=
 match at_[0]? with
 |some t=>match P.underlying t,x with
  |some .string,.str s=>some (.int .i64 s.size,dn)
  |some (.array n _),_=>some (.int .i64 n,dn)
  |some (.slice _),.aO b _ len _ _ _=>match H[b]? with
   |some (.cells _)=>some (.int .i64 len,dn)
   |_=>none
  |some (.slice _),.nil .aO=>some (.int .i64 0,dn)
  |some (.slice _),.dD _ l _=>some (.int .i64 (l.length:Nat),dn)
  |some (.slice _),.own b=>match H[b]? with
   |some (.list _ _ _ l)=>some (.int .i64 (l.length:Nat),dn)
   |_=>none
  |some (.slice _),.win b _ n=>match H[b]? with
   |some (.list _ _ _ _)=>some (.int .i64 n,dn)
   |_=>none
  |some (.map _ _),.nil .map=>some (.int .i64 0,dn)
  |some (.map _ _),.map r=>match H[r]? with
   |some (.map es)=>some (.int .i64 es.length,yA (.h r))
   |_=>none
  |_,_=>none
 |none=>none
def ah:Nat:=2^20
def zB:PV X.Γ->List Key
 |.aO b _ _ _ _ _=>[.h b]
 |.own b=>[.h b]
 |.win b _ _=>[.h b]
 |.I9 b=>[.h b]
 |_=>[]
def Vy(P:LI1)(at_:Array LI2)(H:List (PB X.Γ))(d x:PV X.Γ):Option (PV X.Γ×List (PB X.Γ)×yH×List Prop):=
 match at_[0]?,at_[1]? with
 |some st,some xt=>
  if UZ P xt||(P.underlying xt).isNone then none else
  match jU P st with
  |some (e,size)=>if uY P e ah then match Bg X H e size x with
   |some (rows,is)=>match d with
    |.nil .aO=>some (.own H.length,aX is H++[.list true false e rows],fU (zB X x),[rows.length<=ah])
    |.own b=>match H[b]? with
     |some (.list k ex t l)=>if is.contains b then none else match Cm e t l with
      |some l=>some (.own H.length,aX (b::is) H++[.list (k&&ex) false e (l++rows)],⟨false,.h b::zB X x,[.h b]⟩,[l.length+rows.length<=ah])
      |none=>none
     |_=>none
    |.dD t l true=>match Cm e t l with
     |some l=>some (.own H.length,aX is H++[.list true false e (l++rows)],fU (zB X x),[l.length+rows.length<=ah,l=[]\/rows≠[]])
     |none=>none
    |.I9 b=>match H[b]? with
     |some (.list _ _ t l)=>match Cm e t l with
      |some l=>some (.own H.length,aX is H++[.list true false e (l++rows)],fU (.h b::zB X x),[l.length+rows.length<=ah,rows≠[]])
      |none=>none
     |_=>none
    |_=>none
   |none=>none
   else none
  |none=>none
 |_,_=>none
def PL{α:Type}(l:List α)(o k:Nat)(rows:List α):List α:=l.take o++rows.take k++l.drop (o+k)
def FU(e):List (X.Γ e)->List (PV X.Γ)
 | []=>[]
 |a::l=>X.enc e a++FU e l
def a7c(P:LI1)(at_:Array LI2)(H:List (PB X.Γ))(d x:PV X.Γ):Option (PV X.Γ×List (PB X.Γ)×yH):=
 match at_[0]? with
 |some st=>match jU P st with
  |some (e,size)=>match Bg X H e size x with
   |some (rows,[])=>match d with
    |.nil .aO=>some (.int .i64 0,H,fU (zB X x))
    |.own b=>match H[b]? with
     |some (.list k ex t l)=>match Cm e t l with
      |some l=>some (.int .i64 ((min rows.length l.length:Nat):Int),H.set b (.list k ex e (PL l 0 (min rows.length l.length) rows)),⟨false,.h b::zB X x,[.h b]⟩)
      |none=>none
     |_=>none
    |.win b o n=>match H[b]? with
     |some (.list k ex t l)=>match Cm e t l with
      |some l=>some (.int .i64 ((min rows.length n:Nat):Int),H.set b (.list k ex e (PL l o (min rows.length n) rows)),⟨false,.h b::zB X x,[.h b]⟩)
      |none=>none
     |_=>none
    |.aO b off len _ sz _=>match H[b]? with
     |some (.cells cs)=>if sz=size/\0<min rows.length len then(PG cs off ((FU X e rows).take (min rows.length len*size))).map fun cs'=>(.int .i64 ((min rows.length len:Nat):Int),H.set b (.cells cs'),⟨false,.h b::zB X x,[.h b]⟩)else none
     |_=>none
    |_=>none
   |_=>none
  |none=>none
 |none=>none
def vS(P:LI1)(t:LI2)(len:Nat)(H:List (PB X.Γ))(ps:List (Nat×PV X.Γ))(raw:Bool):Option (PV X.Γ×List (PB X.Γ)):=
 match jU P t with
 |some (e,n)=>if len*n<=2^24/\ps.all (fun p=>p.2.cells.all a0h)=true then
   match TT P e with
   |some z=>if z.length=n then
     match PK (fun i=>some (i*n,n)) (a0k z len) ps with
     |some cs=>match(if raw=true then none else yR X H e n len cs)with
      |some (rows,is)=>some (.own H.length,aX is H++[.list true true e rows])
      |none=>some (.aO H.length 0 len len n true,H++[.cells cs])
     |none=>none
    else none
   |none=>none
  else none
 |none=>none
def Vz(r:Option (PV X.Γ×List (PB X.Γ)))(i:Nat):Option (PV X.Γ×List (PB X.Γ)):=match r with
 |some (.own j,H)=>if i=j then(match H[i]? with
  |some (.list _ _ t l)=>some (.dD t l false,aX [i] H)
  |_=>none)else none
 |_=>none
def He(P:LI1)(t:LI2)(H:List (PB X.Γ))(l c:PV X.Γ):Option (PV X.Γ×List (PB X.Γ)×List Prop):=
 match jU P t,l,c with
 |some (e,n),.int _ l,.int _ c=>if uY P e ah then
   match TT P e with
   |some z=>if z.length=n then
     match X.dec e z with
     |some a=>some (.own H.length,H++[.list true true e (List.replicate l.toNat a)],[l=c,0<=l,l<=ah])
     |none=>none
    else none
   |none=>none
  else none
 |_,_,_=>none
def zW(d:Nat):Option (PV X.Γ)->Option Int
 |none=>some d
 |some (.int _ i)=>some i
 |some _=>none
def a0l(P:LI1)(t:LI2)(H:List (PB X.Γ))(x:PV X.Γ)(lo hi mx:Option (PV X.Γ)):Option (PV X.Γ×List Prop):=
 match P.underlying t,x with
 |some (.slice e),.dD t' l fu=>match dI P e,zW X 0 lo,zW X l.length hi,mx with
  |some _,some a,some b,none=>if t'=e then some (.dD t' ((l.take b.toNat).drop a.toNat) false,[0<=a,a<=b,b<=l.length])else none
  |some _,some a,some b,some (.int _ m)=>if t'=e/\hi.isSome then(if fu=true then some (.dD t' l true,[a=0,b=l.length,m=b])else some (.dD t' ((l.take b.toNat).drop a.toNat) true,[0<=a,a<=b,b<=l.length,m=b,a=b]))else none
  |_,_,_,_=>none
 |some (.slice e),.own i=>match H[i]? with
  |some (.list _ _ t' l)=>match dI P e,zW X 0 lo,zW X l.length hi,mx with
   |some _,some a,some b,none=>if t'=e then some (.win i a.toNat (b.toNat-a.toNat),[0<=a,a<=b,b<=l.length])else none
   |some _,some a,some b,some (.int _ m)=>if t'=e/\hi.isSome then some (.I9 i,[a=0,b=l.length,m=b])else none
   |_,_,_,_=>none
  |_=>none
 |some (.slice e),.nil .aO=>match dI P e,zW X 0 lo,zW X 0 hi,mx with
  |some _,some a,some b,none=>some (.nil .aO,[a=0,b=0])
  |some _,some a,some b,some (.int _ m)=>if hi.isSome then some (.nil .aO,[a=0,b=0,m=0])else none
  |_,_,_,_=>none
 |_,_=>none
def Kv(P:LI1)(t:LI2)(H:List (PB X.Γ))(x:PE X.Γ)(lo hi mx:Option (PV X.Γ)):Option (PV X.Γ×List (PB X.Γ)×List Prop):=
 match P.underlying t,x with
 |some (.array n e),.val (.ptr b off lim)=>match dI P e with
  |some size=>
   if size=0\/lim<off+n*size\/2^24<n then none else
   match mx with
   |some _=>none
   |none=>match lo,hi with
    |none,none=>match H[b]? with
     |some (.cells _)=>some (.aO b off n n size true,H,[])
     |_=>none
    |lo,hi=>match H[b]?,zW X 0 lo,zW X n hi with
     |some (.cells cs),some a,some z=>if cs.length<off+n*size then none else match yR X H e size n (cs.drop off)with
      |some (rows,is)=>some (.dD e ((rows.take z.toNat).drop a.toNat) false,aX (b::is) H,[0<=a,a<=z,z<=n])
      |none=>none
     |_,_,_=>none
  |none=>none
 |_,_=>none
def Hf(P:LI1)(t:LI2)(H:List (PB X.Γ))(x:PE X.Γ)(lo hi:Option (PV X.Γ)):Option (PV X.Γ):=
 match P.underlying t,x with
 |some (.array n e),.val (.ptr b off lim)=>match dI P e,H[b]?,zW X 0 lo,zW X n hi with
  |some size,some (.cells _),some a,some z=>if size=0\/lim<off+n*size\/2^24<n then none else if 0<=a/\a<=z/\z<=n then some (.aO b (off+a.toNat*size) (z.toNat-a.toNat) (n-a.toNat) size true)else none
  |_,_,_,_=>none
 |_,_=>none
def a2d(P:LI1)(t:LI2)(x y:PV X.Γ):Bool:=
 let adu:PV X.Γ->Option NK
  |.fn _ _ _=>some .fn
  |.el _ _ _=>some .ptr
  |_=>none
 let ajL:PV X.Γ->Option NK
  |.nil k=>some k
  |_=>none
 match Mc P t with
 |some k=>(ajL x==some k&&adu y==some k)||(adu x==some k&&ajL y==some k)
 |none=>false
def afP(P:LI1)(op:BinOp)(t:LI2)(x y:Operand)(a b:PV X.Γ):Option (PV X.Γ):=
 match qE a,qE b with
 |some u,some v=>match uq P op t x y u v with
  |some r=>ZA r
  |none=>none
 |_,_=>if a2d X P t a b then(match op with
  |.eql=>some (.bool false)
  |.neq=>some (.bool true)
  |_=>none)else none
def O1(P:LI1)(op:BinOp)(t:LI2)(b:PV X.Γ)(q:Prop):Option (PV X.Γ×Prop):=
 match b,Mc P t with
 |.nil .aO,some .aO=>match op with
  |.eql=>some (.bool false,q)
  |.neq=>some (.bool true,q)
  |_=>none
 |_,_=>none
def VA(P:LI1)(op:BinOp)(t:LI2)(H:List (PB X.Γ))(a b:PV X.Γ):Option (PV X.Γ×Prop):=
 match a with
 |.dD _ l _=>O1 X P op t b (l≠[])
 |.own i=>match H[i]? with
  |some (.list _ _ _ l)=>O1 X P op t b (l≠[])
  |_=>none
 |_=>none
def pun(P:LI1)(op:UnOp)(a:PV X.Γ):Option (PV X.Γ):=
 match qE a with
 |some u=>match unT P op u with
  |some r=>ZA r
  |none=>none
 |none=>none
def a7d(P:LI1)(src dst:LI2)(a:PV X.Γ):Option (PV X.Γ):=
 match qE a with
 |some u=>match SS P src dst u with
  |some r=>ZA r
  |none=>none
 |none=>match P.underlying src,P.underlying dst,a with
  |_,_,_=>none
def O4(P:LI1)(mx:Bool)(at_:Array LI2)(t:LI2)(az:List (PV X.Γ)):Option (PV X.Γ):=
 match Vw az with
 |some us=>match EL P mx at_ t us with
  |some r=>ZA r
  |none=>none
 |none=>none
def a0m(P:LI1)(t:LI2)(x:PV X.Γ)(i:Nat):Option (PV X.Γ):=
 match P.underlying t,x with
 |some (.struct fs),.agg cs=>match fs[i]? with
  |some f=>IG P f.type cs f.offset
  |none=>none
 |_,_=>none
def a0n(P:LI1)(t:LI2)(x i:PV X.Γ):Option (PV X.Γ):=
 match P.underlying t,x with
 |some (.array len e),.agg cs=>match dI P e,a4j X len i with
  |some n,some j=>IG P e cs (j*n)
  |_,_=>none
 |_,_=>none
def wH:List (PV X.Γ×PV X.Γ)->Option (List TV)
 | []=>some []
 |(k,_)::r=>match qE k,wH r with
  |some v,some vs=>some (v::vs)
  |_,_=>none
def wI(P:LI1)(kt:LI2)(k:LI3)(ks:List TV):Option (Option Nat):=
 match CS ks with
 |some ks=>match aC P (do Instr.checkKey ks.isEmpty 10000 kt k;Instr.findKey kt k (ks.map fun x=>⟨x,.bool false,0⟩))with
  |some r=>if Xj P kt k ks (r.map (·.1))then some (r.map (·.1))else none
  |none=>none
 |none=>none
end
end Pv
namespace Tw
open Go
abbrev VB(k:IntKind)(x y:Int):Int:=k.wrap (x.tdiv y)
abbrev PN(_k:IntKind)(x y:Int):Int:=x.tmod y
abbrev ajM(k:IntKind)(x y:Int):Int:=k.wrap (x*2^(min y.toNat k.bits))
abbrev ajN(k:IntKind)(x y:Int):Int:=x.fdiv (2^(min y.toNat k.bits))
end Tw

namespace Tw
open Go
section
variable{P:LI1}
theorem yS(d t xs ys fs)(ht:P.underlying t=some (.struct fs))(hp:P.stoodInHeld t=false) :aC P (Op.equalIn (d+1) t (.agg xs) (.agg ys))=aC P (Op.eqFields d xs ys fs.toList):=by
 have hu:aC P (underlying t)=some (.struct fs):=by simp only[underlying,bM];have:aC P program=some P:=rfl;simp[this,ht,aC];rfl
 simp only[Op.equalIn,bM,hu,a5J,show aC P program=some P from rfl,hp,a2K,a3U];rw[<-Array.forIn_toList];generalize fs.toList=fs;clear ht hu
 induction fs with
 |nil=>simp[Op.eqFields,aC,bM];rfl
 |cons f fs ih=>
  simp only[List.forIn_cons,Op.eqFields,bM]at ih ⊢;split
  .simp only[bM];generalize aC P (part f.type xs f.offset)=r1;cases r1 with
   |none=>simp
   |some a=>
    simp only[a5J];generalize aC P (part f.type ys f.offset)=r2;cases r2 with
    |none=>simp
    |some b=>
     simp only[a5J];generalize aC P (Op.equalIn d f.type a b)=r3;cases r3 with
     |none=>simp
     |some r=>
      cases r with
      |false=>simp only[a5J,abf,a2p];rfl
      |true=>simp only[a5J,aah,a2K,a3U];exact ih
  .exact ih
theorem su(d t k k' a b)(h:P.underlying t=some (.int k')):aC P (Op.equalIn (d+1) t (.int k a) (.int k b))=some (a==b):=by
 have hu:aC P (underlying t)=some (.int k'):=by simp only[underlying,bM,show aC P program=some P from rfl,a5J,h];rfl
 simp only[Op.equalIn,bM,hu,a5J,a2p];rfl
theorem oZ {d xs ys f fs a b r} (hn : f.name ≠ "_") (ha : aC P (part f.type xs f.offset) = some a) (hb : aC P (part f.type ys f.offset) = some b)
  (hr:aC P (Op.equalIn d f.type a b)=some r):aC P (Op.eqFields d xs ys (f::fs))=if r=true then aC P (Op.eqFields d xs ys fs)else some false:=by
 simp only[Op.eqFields];rw[a1e hn];simp only[bM,ha,hb,hr,a5J];cases r with
 |true=>rfl
 |false=>rfl
theorem IL{t x y xs ys us vs r}(hx:TV.UR xs=some us)(hy:TV.UR ys=some vs)(hg:P.eqGuardType P.depth t=false){d} (hd:d=10000) (h:aC P (Op.equalIn d t (.agg us.toArray) (.agg vs.toArray))=some r):uq P .eql t x y (.agg xs) (.agg ys)=some (.bool r)/\uq P .neq t x y (.agg xs) (.agg ys)=some (.bool (!r)):=by
 subst hd;constructor
 all_goals
  simp only[uq,TV.zk,hx,hy,a1n];simp only[eqGuard,binOp,Op.equal,Op.maxDepth,bM,show aC P program=some P from rfl,hg,a5J,aah,abf,a2K,a3U,a2p,h];rfl
theorem a7e{t x y k k' a b}(h:0<=b):uq P .shl t x y (.int k a) (.int k' b)=some (.int k (ajM k a b)):=by simp only[uq,TV.zk,TV.toC,eqGuard,binOp,Op.shift];rw[a18 (show ¬b<0 by omega)];rfl
theorem a7f{t x y k k' a b}(h:0<=b):uq P .shr t x y (.int k a) (.int k' b)=some (.int k (ajN k a b)):=by simp only[uq,TV.zk,TV.toC,eqGuard,binOp,Op.shift];rw[a18 (show ¬b<0 by omega)];rfl
theorem a7g{t x y k a b}(h:b≠0):uq P .quo t x y (.int k a) (.int k b)=some (.int k (VB k a b)):=by simp only[uq,TV.zk,TV.toC,eqGuard,binOp,Op.intDiv];rw[a18 h];cases k<;>rfl
theorem a7h{t x y k a b}(h:b≠0):uq P .rem t x y (.int k a) (.int k b)=some (.int k (PN k a b)):=by simp only[uq,TV.zk,TV.toC,eqGuard,binOp,Op.intDiv];rw[a18 h];cases k<;>rfl
end
end Tw
namespace Pv
open Go Tw
def xP:List Nat->Nat->Option Nat
 | [],_=>none
 |a::l,i=>if a=i then some 0 else(xP l i).map (·+1)
inductive G where
 |lit
 |IQ (t e:Nat)
 |a4k (k off e:Nat)
 |VD (i off e:Nat)
 |flag (i:Nat)
 |gc (ks:List Nat)
 |mv (i:Nat)
 |fz (i:Nat)
section
variable{Γ:Nat->Type}
def fJ(g:Nat->Option Nat):PV Γ->Option (PV Γ)
 |.ptr b off lim=>(g b).map fun b=>.ptr b off lim
 |.aO b off len cap sz ex=>(g b).map fun b=>.aO b off len cap sz ex
 |.own b=>(g b).map .own
 |.win b o n=>(g b).map fun b=>.win b o n
 |.I9 b=>(g b).map .I9
 |.map r=>(g r).map .map
 |.iter r=>(g r).map .iter
 |.fn f a c=>match qc g a,qc g c with
  |some a,some c=>some (.fn f a c)
  |_,_=>none
 |.lC l=>(g l).map .lC
 |.agg cs=>(qc g cs).map .agg
 |.dM cs=>(qc g cs).map .dM
 |.row b j off=>(g b).map fun b=>.row b j off
 |.bool b=>some (.bool b)
 |.lit b=>some (.lit b)
 |.int k n=>some (.int k n)
 |.str s=>some (.str s)
 |.nil k=>some (.nil k)
 |.dD t l f=>some (.dD t l f)
 |.el t a off=>some (.el t a off)
where
 qc (g:Nat->Option Nat):List (PV Γ)->Option (List (PV Γ))
 | []=>some []
 |c::cs=>match fJ g c,qc g cs with
  |some v,some vs=>some (v::vs)
  |_,_=>none
def PO(g:Nat->Option Nat):PE Γ->Option (PE Γ)
 |.val v=>(fJ g v).map .val
 |.ent r j v=>(g r).map fun r=>.ent r j v
 |.FK r j=>(g r).map fun r=>.FK r j
 |e=>some e
def pW(g:Nat->Option Nat):List (Nat×PE Γ)->Option (List (Nat×PE Γ))
 | []=>some []
 |(k,v)::r=>match PO g v,pW g r with
  |some v,some r=>some ((k,v)::r)
  |_,_=>none
def XR(g:Nat->Option Nat):List (List (PV Γ))->Option (List (List (PV Γ)))
 | []=>some []
 |l::r=>match fJ.qc g l,XR g r with
  |some l,some r=>some (l::r)
  |_,_=>none
def zX(g:Nat->Option Nat):PB Γ->Option (PB Γ)
 |.cells cs=>(fJ.qc g cs).map .cells
 |.aF cs=>(fJ.qc g cs).map .aF
 |.map es=>some (.map es)
 |.dB r n seen=>(g r).map fun r=>.dB r n seen
 |.loop rd f nt env ps a b jW=>(pW g env).map fun env=>.loop rd f nt env ps a b jW
 |b=>some b
def oq(g:Nat->Option Nat):List (PB Γ)->Option (List (PB Γ))
 | []=>some []
 |b::r=>match zX g b,oq g r with
  |some b,some r=>some (b::r)
  |_,_=>none
def DU(H:List (PB Γ)):List Nat->Option (List (PB Γ))
 | []=>some []
 |i::is=>match H[i]?,DU H is with
  |some b,some r=>some (b::r)
  |_,_=>none
def aaV:List (Nat×PE Γ)->List (Nat×PE Γ)
 | []=>[]
 |(k,.val v)::r=>(k,.val (a2b v))::aaV r
 |x::r=>x::aaV r
def IQ(t i:Nat):List (Nat×PE Γ)->Option (List (Nat×PE Γ))
 | []=>none
 |(k,v)::r=>if k=t then(match v with
   |.val (.nil .aO)=>some ((k,.val (.own i))::r)
   |_=>none)else(IQ t i r).map ((k,v)::·)
def aaW(off i:Nat)(cs:List (PV Γ)):Option (List (PV Γ)):=
 match cs[off]? with
 |some (.nil .aO)=>some (cs.set off (.own i))
 |_=>none
def fzV(H:List (PB Γ))(i:Nat)(v:PV Γ):Option (PV Γ):=match(lN v).contains i with
 |false=>some v
 |true=>match(lN v).all fun j=>Nat.beq j i with
  |true=>view H v
  |false=>none
def a7i(H:List (PB Γ))(i:Nat):List (PV Γ)->Option (List (PV Γ))
 | []=>some []
 |v::vs=>match fzV H i v,a7i H i vs with
  |some w,some ws=>some (w::ws)
  |_,_=>none
def fzE(H:List (PB Γ))(i:Nat):List (Nat×PE Γ)->Option (List (Nat×PE Γ))
 | []=>some []
 |(k,.val v)::r=>match fzV H i v,fzE H i r with
  |some w,some ws=>some ((k,.val w)::ws)
  |_,_=>none
 |(_,.ent _ _ _)::_|(_,.FK _ _)::_=>none
 |e::r=>(fzE H i r).map (e::·)
def fzL(H:List (PB Γ))(i:Nat):List (List (PV Γ))->Option (List (List (PV Γ)))
 | []=>some []
 |c::r=>match a7i H i c,fzL H i r with
  |some w,some ws=>some (w::ws)
  |_,_=>none
def CB(B:Nat)(s:bV Γ):G->Option (bV Γ)
 |.lit=>some { s with env:=aaV s.env }
 |.IQ t e=>(IQ t s.heap.length s.env).map fun env=>{ s with env:=env,heap:=s.heap++[.list false false e []] }
 |.a4k k off e=>match s.loc[k]? with
  |some cs=>(aaW off s.heap.length cs).map fun cs=>{ s with loc:=s.loc.set k cs,heap:=s.heap++[.list false false e []] }
  |none=>none
 |.VD i off e=>match s.heap[i]? with
  |some (.cells cs)=>(aaW off s.heap.length cs).map fun cs=>{ s with heap:=s.heap.set i (.cells cs)++[.list false false e []] }
  |_=>none
 |.flag i=>match s.heap[i]? with
  |some (.list _ _ t l)=>some { s with heap:=s.heap.set i (.list false false t l) }
  |_=>none
 |.gc ks=>if ks.all (fun k=>decide (B<=k))&&decide ks.Nodup&&decide (B<=s.heap.length)then
   let g:Nat->Option Nat:=fun i=>if i<B then some i else(xP ks i).map (·+B)
   match pW g s.env,XR g s.loc,oq g (s.heap.take B),DU s.heap ks with
   |some env,some loc,some h1,some h2=>match oq g h2 with
    |some h2=>some ⟨env,loc,h1++h2⟩
    |none=>none
   |_,_,_,_=>none
  else none
 |.fz i=>match fzE s.heap i s.env,fzL s.heap i s.loc with
  |some env,some loc=>some ⟨env,loc,aX [i] s.heap⟩
  |_,_=>none
 |.mv i=>match s.heap[i]? with
  |some b=>
   let g:Nat->Option Nat:=fun j=>if j=i then some s.heap.length else if j<s.heap.length then some j else none
   match pW g s.env,XR g s.loc,oq g (s.heap.set i .gone),zX g b with
   |some env,some loc,some h1,some b1=>some ⟨env,loc,h1++[b1]⟩
   |_,_,_,_=>none
  |none=>none
def lZ(B:Nat):List G->bV Γ->Option (bV Γ)
 | [],s=>some s
 |g::gs,s=>match CB B s g with
  |some s=>lZ B gs s
  |none=>none
end
def apT:BinOp->Bool
 |.quo|.rem|.shl|.shr=>true
 |_=>false
def afQ{Γ}(op:BinOp):PV Γ->PV Γ->Option (PV Γ×List Prop)
 |.int k x,.int k' y=>match op with
  |.quo=>if k'=k then some (.int k (VB k x y),[y≠0])else none
  |.rem=>if k'=k then some (.int k (PN k x y),[y≠0])else none
  |.shl=>some (.int k (ajM k x y),[0<=y])
  |.shr=>some (.int k (ajN k x y),[0<=y])
  |_=>none
 |_,_=>none
def putAt{α:Type}:List Nat->List α->List α->List α
 |k::ks,b::bs,l=>putAt ks bs (l.set k b)
 |_,_,l=>l
def bk(ks:List Nat)(n:Nat):Nat->Option Nat:=fun j=>match ks[j]? with
 |some k=>some k
 |none=>some (n+(j-ks.length))
def roB{Γ}:List Nat->List (PB Γ)->List (PB Γ)->Option (List (PB Γ)×List (PB Γ))
 | [],H,H1=>some (H,H1)
 |r::rs,H,H1=>match H[r]?,H1[r]? with
  |some (.cells a),some (.cells b)=>roB rs (H.set r (.aF a)) (H1.set r (.aF b))
  |some (.map a),some (.map b)=>roB rs (H.set r (.iP a)) (H1.set r (.iP b))
  |_,_=>none
def Kw{Γ}:List (PB Γ)->Bool
 | []=>true
 |.aF _::_=>false
 |.iP _::_=>false
 |_::H=>Kw H
def a4l{α:Type}(rs:List Nat):Nat->List α->List α
 |_,[]=>[]
 |i,k::ks=>if rs.contains i then a4l rs (i+1) ks else k::a4l rs (i+1) ks
inductive PA(Γ:Nat->Type) where
 |br (b:Bool)
 |rd (v:TV)
 |ix (j:Nat)
 |no
 |call (v:PV Γ) (H:List (PB Γ))
 |fr (ks:List Nat) (v:PV Γ) (H:List (PB Γ))
 |RH (ks rs:List Nat) (v:PV Γ) (H:List (PB Γ))
 |loop (e:Ex) (s:bV Γ)
 |lg (gs:List G) (e:Ex) (s:bV Γ)
 |calm
inductive PT(Γ:Nat->Type) where
 |n
 |a (x:PA Γ) (r:PT Γ)
 |s (t e:PT Γ)
 |z (c:Bool) (t e:PT Γ)
 |l (m:Nat) (r:PT Γ)
inductive OT(ρ:Type) where
 |bad
 |ret (r:ρ)
 |o (p:Prop) (r:OT ρ)
 |br (c:Bool) (t e:OT ρ)
def OT.Ends{ρ}:OT ρ->ρ->Prop
 |.bad,_=>False
 |.ret r,x=>r=x
 |.o p r,x=>p/\r.Ends x
 |.br c t e,x=>(c=true/\t.Ends x)\/(c=false/\e.Ends x)
def owe{ρ}:List Prop->OT ρ->OT ρ
 | [],x=>x
 |p::ps,x=>.o p (owe ps x)
abbrev gZ(Γ:Nat->Type):=FuncId->List (PV Γ)->Option (PV Γ×List (PB Γ)×List Prop)
structure PI where
 i:yH
 wall:Bool
 mv:Bool
 hp:Bool
def yw:PI:=⟨dn,false,false,false⟩
def VE{Γ}:PE Γ->Bool
 |.loc _ _=>true
 |_=>false
def sD{Γ}:PB Γ->Bool
 |.gone=>true
 |_=>false
def zY{Γ}:List (PB Γ)->List (PB Γ)->Bool
 | [],_=>true
 |b::H,b'::H'=>(sD b==sD b')&&zY H H'
 |_::_,[]=>false
def afR{Γ}:PV Γ->Bool
 |.agg _=>true
 |_=>false
def a0o{Γ}:PV Γ->Bool
 |.str _=>true
 |_=>false
section
variable(X:mV)(P:LI1)(T:vH)(gq:gZ X.Γ){ρ:Type}
def byB(u:PV X.Γ)(an:PT X.Γ)(k:Bool->PT X.Γ->OT ρ):OT ρ:=
 match u with
 |.lit t=>k t an
 |.bool u=>match an with
  |.s x y=>.br u (k true x) (k false y)
  |.a (.br t) r=>.o (u=t) (k t r)
  |_=>.bad
 |_=>.bad
def ML(H:List (PB X.Γ))(r:Nat):Option (List (PV X.Γ×PV X.Γ)):=
 match H[r]? with
 |some (.map es)=>some es
 |some (.iP es)=>some es
 |_=>none
def a7j(H:List (PB X.Γ)):PV X.Γ->Option (List (PV X.Γ×PV X.Γ))
 |.nil .map=>some []
 |.map r=>ML X H r
 |_=>none
def TU:PV X.Γ->List Key
 |.map r=>[.h r]
 |_=>[]
def qJ(kt:LI2)(es:List (PV X.Γ×PV X.Γ))(tk:TV)(v:PV X.Γ):Prop:=∃kv ks j k0,tk.zk=some kv/\wH X es=some ks/\wI P kt kv ks=some (some j)/\es[j]? = some (k0,v)
def oz(kt:LI2)(es:List (PV X.Γ×PV X.Γ))(tk:TV):Prop:=∃kv ks,tk.zk=some kv/\wH X es=some ks/\wI P kt kv ks=some none
def ajO(kt:LI2)(es:List (PV X.Γ×PV X.Γ))(tk:TV)(k v:PV X.Γ):Prop:=∃kv ks j old ov,tk.zk=some kv/\aC P (Instr.checkKey false 10000 kt kv)=some ()/\wH X es=some ks/\wI P kt kv ks=some (some j)/\es[j]? = some (k,v)/\ks[j]? = some old/\old.zk=some ov/\Instr.sameBits 10000 ov kv=true
def PS(e:LI2):Option (PV X.Γ):=match P.info? e with
 |some i=>match i.zero with
  |some z=>match TV.Xb z with
   |some z=>ZA z
   |none=>none
  |none=>none
 |none=>none
def a0p(t:LI2)(s:bV X.Γ)(m k:PV X.Γ)(ok:Bool)(an:PT X.Γ)(c:PE X.Γ->PI->PT X.Γ->OT ρ):OT ρ:=
 match P.underlying t,qE k,a7j X s.heap m with
 |some (.map kt e),some tk,some es=>match an with
  |.a (.call v _) r=>.o (qJ X P kt es tk v) (c (.val (if ok then .dM [v,.bool true]else v)) ⟨fU (TU X m),false,false,true⟩ r)
  |.a .calm r=>match PS X P e with
   |some z=>.o (oz X P kt es tk) (c (.val (if ok then .dM [z,.bool false]else z)) ⟨fU (TU X m),false,false,true⟩ r)
   |none=>.bad
  |.a (.rd _) r=>match PS X P e with
   |some z=>.o (oz X P kt es tk) (c (.val (if ok then .dM [z,.bool false]else z)) ⟨fU (TU X m),false,false,true⟩ r)
   |none=>.bad
  |an=>match tk.zk,wH X es with
   |some kv,some ks=>match an with
    |.a (.ix j) r=>match es[j]? with
     |some (_,v)=>.o (wI P kt kv ks=some (some j)) (c (.val (if ok then .dM [v,.bool true]else v)) ⟨fU (TU X m),false,false,true⟩ r)
     |none=>.bad
    |.a .no r=>match PS X P e with
     |some z=>.o (wI P kt kv ks=some none) (c (.val (if ok then .dM [z,.bool false]else z)) ⟨fU (TU X m),false,false,true⟩ r)
     |none=>.bad
    |_=>.bad
   |_,_=>.bad
 |_,_,_=>.bad
def a7k(t:LI2)(s:bV X.Γ)(m k v:PV X.Γ)(an:PT X.Γ)(c:bV X.Γ->PI->PT X.Γ->OT ρ):OT ρ:=
 match P.underlying t,qE k,m,qE v with
 |some (.map kt _),some tk,.map r,some _=>match s.heap[r]? with
  |some (.map es)=>match an with
   |.a .calm rest=>.o (∃kv,tk.zk=some kv/\aC P (Instr.checkKey false 10000 kt kv)=some ()) (.o (oz X P kt es tk) (c { s with heap:=s.heap.set r (.map (es++[(k,v)])) } ⟨qg (.h r),false,false,true⟩ rest))
   |.a (.rd _) rest=>.o (∃kv,tk.zk=some kv/\aC P (Instr.checkKey false 10000 kt kv)=some ()) (.o (oz X P kt es tk) (c { s with heap:=s.heap.set r (.map (es++[(k,v)])) } ⟨qg (.h r),false,false,true⟩ rest))
   |.a (.call _ _) rest=>.o (ajO X P kt es tk k v) (c s ⟨qg (.h r),false,false,true⟩ rest)
   |an=>match tk.zk,wH X es with
    |some kv,some ks=>match an with
     |.a (.ix j) rest=>match es[j]?,ks[j]? with
      |some _,some old=>match old.zk with
       |some ov=>.o (aC P (Instr.checkKey false 10000 kt kv)=some ()) (.o (wI P kt kv ks=some (some j)) (.o (Instr.sameBits 10000 ov kv=true) (c { s with heap:=s.heap.set r (.map (es.set j (k,v))) } ⟨qg (.h r),false,false,true⟩ rest)))
       |none=>.bad
      |_,_=>.bad
     |.a .no rest=>.o (aC P (Instr.checkKey false 10000 kt kv)=some ()) (.o (wI P kt kv ks=some none) (c { s with heap:=s.heap.set r (.map (es++[(k,v)])) } ⟨qg (.h r),false,false,true⟩ rest))
     |_=>.bad
    |_,_=>.bad
  |_=>.bad
 |_,_,_,_=>.bad
def a7l(kt:LI2)(es:List (PV X.Γ×PV X.Γ))(tk:TV)(k v:PV X.Γ)(j:Nat):Prop:=∃kv ks old ov,tk.zk=some kv/\aC P (Instr.checkKey false 10000 kt kv)=some ()/\wH X es=some ks/\wI P kt kv ks=some (some j)/\es[j]? = some (k,v)/\ks[j]? = some old/\old.zk=some ov/\Instr.sameBits 10000 ov kv=true
def afS(kt:LI2)(es:List (PV X.Γ×PV X.Γ))(tk:TV)(j:Nat):Prop:=∃kv ks,tk.zk=some kv/\wH X es=some ks/\wI P kt kv ks=some (some j)
def Kz{Γ}(es:List (PV Γ×PV Γ))(j:Nat)(v:PV Γ):List (PV Γ×PV Γ):=es.modify j fun e=>(e.1,v)
def a7m(t:LI2)(s:bV X.Γ)(m k:PV X.Γ)(an:PT X.Γ)(c:PE X.Γ->bV X.Γ->PI->PT X.Γ->OT ρ):OT ρ:=
 match P.underlying t,qE k,m with
 |some (.map kt e),some tk,.map r=>match s.heap[r]? with
  |some (.map es)=>match an with
   |.a (.call v _) (.a (.ix j) rest)=>match v with
    |.int a x=>.o (a7l X P kt es tk k (.int a x) j) (c (.ent r j (.int a x)) s ⟨qg (.h r),false,false,true⟩ rest)
    |_=>.bad
   |.a .calm rest=>match PS X P e with
    |some (.int a x)=>.o (∃kv,tk.zk=some kv/\aC P (Instr.checkKey false 10000 kt kv)=some ()) (.o (oz X P kt es tk) (.o (afS X P kt (es++[(k,.int a x)]) tk es.length) (c (.ent r es.length (.int a x)) { s with heap:=s.heap.set r (.map (es++[(k,.int a x)])) } ⟨qg (.h r),false,false,true⟩ rest)))
    |_=>.bad
   |_=>.bad
  |_=>.bad
 |_,_,_=>.bad
def a7n(s:bV X.Γ)(m:PV X.Γ)(e:PE X.Γ)(v:PV X.Γ)(c:bV X.Γ->PI->OT ρ):OT ρ:=
 match m,e,qE v with
 |.map r,.FK r' j,some _=>if r=r' then match s.heap[r]? with
  |some (.map es)=>.o (j<es.length) (c { s with heap:=s.heap.set r (.map (Kz es j v)) } ⟨qg (.h r),false,false,true⟩)
  |_=>.bad
  else .bad
 |_,_,_=>.bad
abbrev a4m(Γ:Nat->Type):=PV Γ->List (PV Γ)->List (PB Γ)->PV Γ->List (PB Γ)->Prop
def a7o(TW:a4m X.Γ)(s:bV X.Γ)(fv:PV X.Γ)(xs:List (PV X.Γ))(an:PT X.Γ)(k:PE X.Γ->bV X.Γ->PI->PT X.Γ->OT ρ):OT ρ:=
 match an with
 |.a (.call v H) r=>.o (TW fv xs s.heap v H) (k (.val v) { s with heap:=H } ⟨⟨true,[],[]⟩,true,false,true⟩ r)
 |.a (.fr ks v H) r=>match decide ks.Nodup&&Kw (H.drop ks.length),DU s.heap ks with
  |true,some Hp=>match oq (xP ks) Hp,fJ (xP ks) fv,fJ.qc (xP ks) xs with
   |some Hs,some fv1,some xs1=>match fJ (bk ks s.heap.length) v,oq (bk ks s.heap.length) H with
    |some v1,some H1=>.o (TW fv1 xs1 Hs v H) (k (.val v1) { s with heap:=putAt ks H1 s.heap++H1.drop ks.length } ⟨⟨true,[],ks.map .h⟩,false,false,true⟩ r)
    |_,_=>.bad
   |_,_,_=>.bad
  |_,_=>.bad
 |.a (.RH ks rs v H) r=>match decide ks.Nodup&&Kw (H.drop ks.length),DU s.heap ks with
  |true,some Hp=>match oq (xP ks) Hp,fJ (xP ks) fv,fJ.qc (xP ks) xs with
   |some Hs,some fv1,some xs1=>match fJ (bk ks s.heap.length) v,oq (bk ks s.heap.length) H,roB rs Hs H with
    |some v1,some H1,some (Hs',H')=>.o (TW fv1 xs1 Hs' v H') (k (.val v1) { s with heap:=putAt ks H1 s.heap++H1.drop ks.length } ⟨⟨true,[],(a4l rs 0 ks).map .h⟩,false,false,true⟩ r)
    |_,_,_=>.bad
   |_,_,_=>.bad
  |_,_=>.bad
 |an=>match fv with
  |.fn f first cap=>match views s.heap (first++xs++cap)with
   |some vs=>match gq f vs with
    |some (v,ext,ps)=>match rZ X s.heap.length ext with
     |some ext'=>owe ps (k (.val (shift s.heap.length v)) { s with heap:=(if yE v||ext.any (hasB X)then aX (lN.kX (first++xs++cap)) s.heap else s.heap)++ext' } ⟨⟨true,[],[]⟩,false,false,true⟩ an)
     |none=>.bad
    |none=>.bad
   |none=>.bad
  |_=>.bad
def afT(TW:a4m X.Γ)(site:Nat->Bool)(s:bV X.Γ)(o:Oper)(an:PT X.Γ)(k:PE X.Γ->bV X.Γ->PI->PT X.Γ->OT ρ):OT ρ:=
 match o.op with
 |.move x|.assign x=>match H7 s.env x with
  |some v=>k v s yw an
  |none=>.bad
 |.pick c a b=>match a2c s.env c with
  |some u=>byB X u an fun t an=>match H7 s.env (if t then a else b)with
   |some v=>k v (s.CX c t) yw an
   |none=>.bad
  |none=>.bad
 |.alloc e=>match TT P e with
  |some z=>match EX (site (o.dst.getD 0)) s z with
   |(v,s)=>k v s yw an
  |none=>.bad
 |.box _ x=>match Az s.env x with
  |some v=>if v.cells.all a0h then(match EX (site (o.dst.getD 0)) s v.cells with
   |(v,s)=>k v s yw an)else .bad
  |none=>.bad
 |.build t ps=>match a4i s.env ps.toList with
  |some ps=>match a0j P t ps with
   |some v=>k (.val v) s yw an
   |none=>.bad
  |none=>.bad
 |.buildSlice t len ps=>match a4i s.env ps.toList with
  |some ps=>match an with
   |.a (.RH [] [] _ _) r=>match vS X P t len s.heap ps true with
    |some (v,H)=>k (.val v) { s with heap:=H } yw r
    |none=>.bad
   |.a (.RH [] (i::_) _ _) r=>match Vz X (vS X P t len s.heap ps false) i with
    |some (v,H)=>k (.val v) { s with heap:=H } yw r
    |none=>.bad
   |an=>match vS X P t len s.heap ps false with
    |some (v,H)=>k (.val v) { s with heap:=H } yw an
    |none=>.bad
  |none=>.bad
 |.load t a=>match H7 s.env a with
  |some a=>match Bh X P t s a with
   |some (v,i)=>k (.val v) s ⟨i,false,false,!VE a⟩ an
   |none=>.bad
  |none=>.bad
 |.store t a x=>match H7 s.env a,Az s.env x with
  |some a,some v=>match Vx X P t s a v with
   |some (s,i)=>k .undef s ⟨i,false,false,!VE a⟩ an
   |none=>.bad
  |_,_=>.bad
 |.nilCheck x=>match H7 s.env x with
  |some (.loc a b)=>k (.loc a b) s yw an
  |some (.val (.ptr a b c))=>match s.heap[a]? with
   |some (.cells _)=>k (.val (.ptr a b c)) s yw an
   |some (.aF _)=>k (.val (.ptr a b c)) s yw an
   |_=>.bad
  |some (.val (.row a b c))=>match s.heap[a]? with
   |some (.list _ _ _ _)=>k (.val (.row a b c)) s yw an
   |_=>.bad
  |some (.val (.el a b c))=>k (.val (.el a b c)) s yw an
  |some (.val (.fn a b c))=>k (.val (.fn a b c)) s yw an
  |_=>.bad
 |.binOp op t x y _=>match Az s.env x,Az s.env y with
  |some a,some b=>if apT op then(match afQ op a b with
    |some (v,ps)=>owe ps (k (.val v) s yw an)
    |none=>.bad)
   else match VA X P op t s.heap a b with
   |some (v,q)=>.o q (k (.val v) s yw an)
   |none=>if afR a||a0o a then(match an with
    |.a (.rd w) r=>match ZA w,qE a,qE b with
     |some v,some ta,some tb=>.o (uq P op t x y ta tb=some w) (k (.val v) s yw r)
     |_,_,_=>.bad
    |_=>.bad)
   else match afP X P op t x y a b with
    |some v=>k (.val v) s yw an
    |none=>.bad
  |_,_=>.bad
 |.unOp op _ x=>match Az s.env x with
  |some a=>match pun X P op a with
   |some v=>k (.val v) s yw an
   |none=>.bad
  |none=>.bad
 |.convert src dst x=>match Az s.env x with
  |some a=>if a0o a then(match an with
    |.a (.rd w) r=>match ZA w,qE a with
     |some v,some ta=>.o (SS P src dst ta=some w) (k (.val v) s yw r)
     |_,_=>.bad
    |_=>.bad)
   else match a7d X P src dst a with
    |some v=>k (.val v) s yw an
    |none=>.bad
  |none=>.bad
 |.makeFunc (.func f) first cap=>match a0i s.env first.toList,a0i s.env cap.toList with
  |some a,some b=>k (.val (.fn f a b)) s yw an
  |_,_=>.bad
 |.makeMap t r=>match PD s.env r,P.underlying t with
  |some none,_=>k (.val (.map s.heap.length)) { s with heap:=s.heap++[.map []] } yw an
  |some (some (.int _ _)),some (.map _ _)=>k (.val (.map s.heap.length)) { s with heap:=s.heap++[.map []] } yw an
  |_,_=>.bad
 |.makeSlice t l c=>match Az s.env l,Az s.env c with
  |some l,some c=>match He X P t s.heap l c with
   |some (v,H,ps)=>owe ps (k (.val v) { s with heap:=H } yw an)
   |none=>.bad
  |_,_=>.bad
 |.slice t x lo hi mx=>match H7 s.env x,PD s.env lo,PD s.env hi,PD s.env mx with
  |some x,some lo,some hi,some mx=>match P.underlying t with
   |some (.array _ _)=>match an with
    |.a .no r=>match mx,Hf X P t s.heap x lo hi with
     |none,some v=>k (.val v) s yw r
     |_,_=>.bad
    |an=>match Kv X P t s.heap x lo hi mx with
     |some (v,H,ps)=>owe ps (k (.val v) { s with heap:=H } yw an)
     |none=>.bad
   |_=>match x with
    |.val (.str b)=>(match an with
     |.a (.rd w) r=>match ZA w,(match lo with|none=>some none|some v=>(qE v).map some),(match hi with|none=>some none|some v=>(qE v).map some)with
      |some v,some tl,some th=>if mx.isNone then .o (rP P t (.str b) tl th none=some w) (k (.val v) s yw r)else .bad
      |_,_,_=>.bad
     |_=>.bad)
    |.val x=>match a0l X P t s.heap x lo hi mx with
     |some (v,ps)=>owe ps (k (.val v) s yw an)
     |none=>.bad
    |_=>.bad
  |_,_,_,_=>.bad
 |.fieldAddr t x f=>match H7 s.env x,Ia P t f with
  |some a,some n=>match IK X s n a with
   |some v=>k v s yw an
   |none=>.bad
  |_,_=>.bad
 |.field t x f=>match Az s.env x with
  |some a=>match a0m X P t a f with
   |some v=>k (.val v) s yw an
   |none=>.bad
  |none=>.bad
 |.indexAddr t x i=>match H7 s.env x,Az s.env i with
  |some a,some i=>match H9 X P t s a i with
   |some (v,ps)=>owe ps (k v s yw an)
   |none=>.bad
  |_,_=>.bad
 |.index t x i=>match Az s.env x,Az s.env i with
  |some a,some i=>if a0o a then(match an with
    |.a (.rd w) r=>match ZA w,qE a,qE i with
     |some v,some ta,some ti=>.o (JL P t ta ti=some w) (k (.val v) s yw r)
     |_,_,_=>.bad
    |_=>.bad)
   else match a0n X P t a i with
    |some v=>k (.val v) s yw an
    |none=>.bad
  |_,_=>.bad
 |.lookup t m i ok=>match Az s.env m,Az s.env i with
  |some m,some i=>a0p X P t s m i ok an fun v q an=>k v s q an
  |_,_=>.bad
 |.mapUpdate t m i x|.insert t m i x=>match Az s.env m,Az s.env i,Az s.env x with
  |some m,some i,some v=>a7k X P t s m i v an fun s q an=>k .undef s q an
  |_,_,_=>.bad
 |.mapEntry t m i=>match Az s.env m,Az s.env i with
  |some m,some i=>a7m X P t s m i an k
  |_,_=>.bad
 |.entryStore _ m e x=>match Az s.env m,H7 s.env e,Az s.env x with
  |some m,some e,some v=>a7n X s m e v fun s q=>k .undef s q an
  |_,_,_=>.bad
 |.extract t i=>match H7 s.env t with
  |some (.val (.dM vs))=>match vs[i]? with
   |some v=>k (.val v) s yw an
   |none=>.bad
  |some (.ent r j v)=>match i with
   | 0=>k (.val v) s yw an
   | 1=>k (.FK r j) s yw an
   |_=>.bad
  |_=>.bad
 |.call c=>match a0i s.env c.args.toList with
  |some az=>match c.callee with
   |.builtin .len=>match az with
    | [x]=>match afO X P c.argTypes s.heap x with
     |some (v,i)=>k (.val v) s ⟨i,false,false,true⟩ an
     |none=>.bad
    |_=>.bad
   |.builtin .append=>match az with
    | [d,x]=>match Vy X P c.argTypes s.heap d x with
     |some (v,H,i,ps)=>owe ps (k (.val v) { s with heap:=H } ⟨i,false,false,true⟩ an)
     |none=>.bad
    |_=>.bad
   |.builtin .copy=>match az with
    | [d,x]=>match a7c X P c.argTypes s.heap d x with
     |some (v,H,i)=>k (.val v) { s with heap:=H } ⟨i,false,false,true⟩ an
     |none=>.bad
    |_=>.bad
   |.builtin .min=>match O4 X P false c.argTypes o.type az with
    |some v=>k (.val v) s yw an
    |none=>.bad
   |.builtin .max=>match O4 X P true c.argTypes o.type az with
    |some v=>k (.val v) s yw an
    |none=>.bad
   |.value f=>match Az s.env f with
    |some fv=>a7o X gq TW s fv az an k
    |none=>.bad
   |_=>.bad
  |none=>.bad
 |.range t x=>match Az s.env x,P.underlying t with
  |some (.map r),some (.map _ _)=>match ML X s.heap r with
   |some es=>k (.val (.iter s.heap.length)) { s with heap:=s.heap++[.dB r es.length []] } ⟨fU [.h r],false,false,true⟩ an
   |_=>.bad
  |_,_=>.bad
 |.entry x=>match Az s.env x with
  |some (.iter b)=>match s.heap[b]? with
   |some (.dB r n (i::_))=>match ML X s.heap r with
    |some es=>match an with
     |.a (.call (.dM [kk,vv]) _) rest=>.o (es.length=n/\es[i]? = some (kk,vv)) (k (.val (.dM [kk,vv])) s ⟨fU [.h b,.h r],false,false,true⟩ rest)
     |an=>if es.length=n then(match es[i]? with
      |some e=>k (.val (.dM [e.1,e.2])) s ⟨fU [.h b,.h r],false,false,true⟩ an
      |none=>.bad)else .bad
    |_=>.bad
   |_=>.bad
  |_=>.bad
 |_=>.bad
def a0q(ops:Array Oper)(s:bV X.Γ)(o:Oper)(an:PT X.Γ)(k:Bool->bV X.Γ->PT X.Γ->OT ρ):OT ρ:=
 match o.guard with
 |none=>k true s an
 |some (j,want)=>match(ops[j]?).bind (·.dst)with
  |some d=>match Gs d s.env with
   |some (.val b)=>byB X b an fun t an=>k (t==want) (s.CX (.tmp d) t) an
   |some .undef=>k false s an
   |_=>.bad
  |none=>.bad
def a0r(a b:PI):Bool:=
 (a.i.ws.all fun k=>!(b.i.all&&k.isH)&&!b.i.ts.contains k&&!b.i.ws.contains k&&!(b.wall&&k.isH)) &&
 (!a.wall||(!b.i.all&&!b.wall&&b.i.ts.all (fun k=>!k.isH)&&b.i.ws.all (fun k=>!k.isH)))
def a2e(a b:PI):Bool:=a0r a b&&a0r b a
def VF(yB:List PI):List (Nat×Nat)->Bool
 | []=>true
 |(i,j)::r=>(match yB[i]?,yB[j]? with
  |some a,some b=>a2e a b&&(!a.hp||!b.hp||!((yB.drop i).take (j-i)).any (·.mv))
  |_,_=>false)&&VF yB r
def XT(TW:a4m X.Γ)(site:Nat->Bool)(nt:Nat)(ops:Array Oper):List Oper->bV X.Γ->PT X.Γ->(bV X.Γ->List PI->PT X.Γ->OT ρ)->OT ρ
 | [],s,an,k=>k s [] an
 |o::os,s,an,k=>if !OA nt o then .bad else a0q X ops s o an fun w s an=>match w with
  |true=>afT X P gq TW site s o an fun v s1 i an=>XT TW site nt ops os (s1.put o.dst v) an fun s' is an=>k s' (⟨i.i,i.wall,!zY s.heap s1.heap,i.hp⟩::is) an
  |false=>XT TW site nt ops os (s.put o.dst .undef) an fun s' is an=>k s' (yw::is) an
def VG:List (Nat×PE X.Γ)->Nat
 | []=>0
 |(_,.loc k _)::r=>max (k+1) (VG r)
 |_::r=>VG r
def gY(live:List Nat)(s:bV X.Γ):bV X.Γ:=
 let env:=jF live s.env
 { s with env:=env,loc:=s.loc.take (VG X env) }
def VH(step:bV X.Γ->PT X.Γ->(Ex->bV X.Γ->PT X.Γ->OT ρ)->OT ρ):Nat->bV X.Γ->PT X.Γ->(Ex->bV X.Γ->PT X.Γ->OT ρ)->OT ρ
 | 0,_,_,_=>.bad
 |m+1,s,an,k=>step s an fun e s an=>match e with
  |.norm=>VH step m s an k
  |e=>k e s an
abbrev a2f(Γ:Nat->Type):=Code->bV Γ->Ex->bV Γ->Prop
def zC(lo:a2f X.Γ)(B:Nat)(c:Code)(s:bV X.Γ)(k:Ex->bV X.Γ->PT X.Γ->OT ρ):PT X.Γ->OT ρ
 |.a (.loop e s') r=>.o (lo c s e s') (k e s' r)
 |.a (.lg gs e s') r=>match lZ B gs s with
  |some s0=>.o (lo c s0 e s') (k e s' r)
  |none=>.bad
 |.z c' a b=>.br c' (zC lo B c s k a) (zC lo B c s k b)
 |_=>.bad
def jY(TW:a4m X.Γ)(lo:a2f X.Γ)(B:Nat)(L:Nat)(f:Nat)(iy:Bool)(nt:Nat):Code->bV X.Γ->PT X.Γ->(Ex->bV X.Γ->PT X.Γ->OT ρ)->OT ρ
 |.skip,s,an,k=>k .norm s an
 |.label _,s,an,k=>k .norm s an
 |.region id ops draw,s,an,k=>XT X P gq TW (fun d=>iy||T.V4 f d) nt ops ops.toList s an fun s' yB an=>
  match draw with
  |false=>k .norm { s' with env:=jF (T.iL f id) s'.env } an
  |true=>match an with
   |.a .calm r=>if yB.all (fun i=>i.i.ws.isEmpty&&!i.wall)then .o (o7 ops.toList=true) (k .norm { s' with env:=jF (T.iL f id) s'.env } r)else .bad
   |an=>if o7 ops.toList&&VF yB (nH ops.toList)then k .norm { s' with env:=jF (T.iL f id) s'.env } an else .bad
 |.seq a b,s,an,k=>jY TW lo B L f iy nt a s an fun e s an=>match e with
  |.norm=>jY TW lo B L f iy nt b s an k
  |e=>k e s an
 |.cond c a b,s,an,k=>match a2c s.env c with
  |some u=>byB X u an fun t an=>match t with
   |true=>jY TW lo B L f iy nt a (s.CX c true) an k
   |false=>jY TW lo B L f iy nt b (s.CX c false) an k
  |none=>.bad
 |.block id b,s,an,k=>jY TW lo B L f iy nt b s an fun e s an=>match e with
  |.exit i=>k (if i=id then .norm else .exit i) s an
  |e=>k e s an
 |.scope b,s,an,k=>jY TW lo B L f iy nt b s an k
 |.loop b,s,an,k=>match an with
  |.l m r=>.o (m<=L) (VH X (fun s an k=>jY TW lo B L f iy nt b (gY X (T.eY f (dZ b)) s) an k) m s r k)
  |an=>zC X lo B (.loop b) s k an
 |.exit id,s,an,k=>k (.exit id) s an
 |.ret,s,an,k=>k .ret s an
 |.rangeFunc g ps vY body,s,an,k=>zC X lo B (.rangeFunc g ps vY body) s k an
 |_,_,_,_=>.bad
def ajR(s:bV X.Γ):ResultVar->Option (PV X.Γ)
 |.tmp t=>match Gs t s.env with
  |some (.val v)=>some (a2b v)
  |_=>none
 |.cell a t=>match Gs a s.env with
  |some a=>(Bh X P t s a).map (·.1)
  |none=>none
def Gt(s:bV X.Γ):List ResultVar->Option (List (PV X.Γ))
 | []=>some []
 |r::rs=>match ajR X P s r,Gt s rs with
  |some v,some vs=>some (v::vs)
  |_,_=>none
def a0s:List (PV X.Γ)->PV X.Γ
 | [v]=>v
 |vs=>.dM vs
def lT:Nat->List (PV X.Γ)->List (Nat×PE X.Γ)
 |_,[]=>[]
 |k,v::vs=>(k,.val v)::lT (k+1) vs
def DV(TW:a4m X.Γ)(lo:a2f X.Γ)(L:Nat)(f:Nat)(args:List (PV X.Γ))(H:List (PB X.Γ))(an:PT X.Γ):OT (PV X.Γ×List (PB X.Γ)):=
 match(if(T.exts.contains f||T.dem.contains f)=true then none else V3 P f)with
 |some t=>jY X P T gq TW lo H.length L f false t.nt t.body ⟨lT X 0 args,[],H⟩ an fun e s an=>match e,an with
  |.exit _,_=>.bad
  |_,.n=>match Gt X P s t.results with
   |some vs=>.ret (a0s X vs,s.heap)
   |none=>.bad
  |_,_=>.bad
 |none=>.bad
end
inductive MB where
 |gQ (b:Nat)
 |jJ (b:Nat)
 |dD (x:TV)
 |gone
def MB.own:MB->Option Nat
 |.gQ b=>some b
 |.dD (.aO b _ len _ _ _)=>if len=0 then none else some b
 |_=>none
def aZ(m:List MB):List Nat:=m.filterMap MB.own
def bf{Γ}:PV Γ->Option Nat
 |.ptr b _ _=>some b
 |.aO b _ _ _ _ _=>some b
 |.own b=>some b
 |.win b _ _=>some b
 |.I9 b=>some b
 |.map b=>some b
 |.iter b=>some b
 |.lC b=>some b
 |.row b _ _=>some b
 |_=>none
def roV{Γ}(c:Nat):PV Γ->Option TV
 |.ptr _ off lim=>some (.ptr c off lim)
 |.aO _ off len cap sz ex=>some (.aO c off len cap sz ex)
 |.map _=>some (.map c)
 |.iter _=>some (.iter c)
 |.lC _=>some (.lC c)
 |_=>none
inductive DW{Γ:Nat->Type}(v:PV Γ)(x:TV):Option MB->Prop where
 |g:DW v x (some .gone)
 |r (c):roV c v=some x->DW v x (some (.jJ c))
theorem DW.of{Γ}{v:PV Γ}{x o}(e:o=some .gone):DW v x o:=by subst e;exact .g
theorem DW.as{Γ}{v w:PV Γ}{x o}(h:DW v x o)(e:∀c,roV c w=roV c v):DW w x o:=by
 cases h with
 |g=>exact .g
 |r c h=>exact .r c ((e c).trans h)
theorem DW.ofR{Γ}{v:PV Γ}{x o c}(e:o=some (.jJ c))(h:roV c v=some x):DW v x o:=by subst e;exact .r c h
section
variable(X:mV)(P:LI1)
inductive VR(A:Nat->Prop)(m:List MB)(h:List HB):PV X.Γ->TV->Prop where
 |bool (b):VR A m h (.bool b) (.bool b)
 |lit (b):VR A m h (.lit b) (.bool b)
 |int (k n):VR A m h (.int k n) (.int k n)
 |str (s):VR A m h (.str s) (.str s)
 |nil (k):VR A m h (.nil k) (.nil k)
 |ptr {b c off lim}:m[b]? = some (.gQ c)->VR A m h (.ptr b off lim) (.ptr c off lim)
 |aO {b c off len cap sz ex}:m[b]? = some (.gQ c)->VR A m h (.aO b off len cap sz ex) (.aO c off len cap sz ex)
 |own {i x}:m[i]? = some (.dD x)->iO x=true->VR A m h (.own i) x
 |win {i o n c off len cap cap' sz ex ex'}:m[i]? = some (.dD (.aO c off len cap sz ex))->o+n<=len->n<=cap'->(n=0\/o+cap'=cap)->VR A m h (.win i o n) (.aO c (off+o*sz) n cap' sz ex')
 |CY {i}:m[i]? = some (.dD (.nil .aO))->VR A m h (.win i 0 0) (.nil .aO)
 |I9 {i c off n sz ex}:m[i]? = some (.dD (.aO c off n n sz ex))->VR A m h (.I9 i) (.aO c off n n sz true)
 |KA {i}:m[i]? = some (.dD (.nil .aO))->VR A m h (.I9 i) (.nil .aO)
 |map {r c}:m[r]? = some (.gQ c)->VR A m h (.map r) (.map c)
 |iter {r c}:m[r]? = some (.gQ c)->VR A m h (.iter r) (.iter c)
 |fn {f a a' c c'}:a.length=a'.length->(∀(i:Nat) x y,a[i]? = some x->a'[i]? = some y->VR A m h x y)->c.length=c'.length->(∀(i:Nat) x y,c[i]? = some x->c'[i]? = some y->VR A m h x y)->VR A m h (.fn f a c) (.fn f a' c')
 |lC {l c}:m[l]? = some (.gQ c)->VR A m h (.lC l) (.lC c)
 |agg {cs cs'}:cs.length=cs'.length->(∀(i:Nat) x y,cs[i]? = some x->cs'[i]? = some y->VR A m h x y)->VR A m h (.agg cs) (.agg cs')
 |dM {cs cs'}:cs.length=cs'.length->(∀(i:Nat) x y,cs[i]? = some x->cs'[i]? = some y->VR A m h x y)->VR A m h (.dM cs) (.dM cs')
 |ql {t fu}:VR A m h (.dD t [] fu) (.nil .aO)
 |dD {t l fu b off cap sz ex cs}:A b->aU h b=some cs->(l≠[]->mZ h b (off+cap*sz)=some cs)->dI P t=some sz->0<sz->off+l.length*sz<=cs.length->l.length<=cap->(fu=true->ex=true/\cap=l.length)->(∀(j:Nat) a,l[j]? = some a->(X.enc t a).length=sz) ->
   (∀(j:Nat) a (i:Nat) c v,l[j]? = some a->(X.enc t a)[i]? = some c->cs[off+j*sz+i]? = some v->VR A m h c v)->VR A m h (.dD t l fu) (.aO b off l.length cap sz ex)
 |el {t a off b o sz lim cs}:A b->mZ h b lim=some cs->o+sz<=lim->o+sz<=cs.length->(X.enc t a).length=sz->off<=sz ->
   (∀(i:Nat) c v,(X.enc t a)[i]? = some c->cs[o+i]? = some v->VR A m h c v)->VR A m h (.el t a off) (.ptr b (o+off) lim)
 |row {i j off c len cap sz ex}:m[i]? = some (.dD (.aO c 0 len cap sz ex))->j<len->off<=sz->VR A m h (.row i j off) (.ptr c (j*sz+off) (cap*sz))
 |gone {v i x}:bf v=some i->DW v x m[i]?->iO x=true->VR A m h v x
def bZ(A:Nat->Prop)(m:List MB)(h:List HB)(a:List (PV X.Γ))(b:List TV):Prop:=a.length=b.length/\∀(i:Nat) x y,a[i]? = some x->b[i]? = some y->VR X P A m h x y
def eG(A:Nat->Prop)(m:List MB)(h:List HB)(t:Nat)(l:List (X.Γ t))(cs:List TV)(off sz:Nat):Prop:=
 (∀(j:Nat) a,l[j]? = some a->(X.enc t a).length=sz)/\off+l.length*sz<=cs.length/\∀(j:Nat) a (i:Nat) c v,l[j]? = some a->(X.enc t a)[i]? = some c->cs[off+j*sz+i]? = some v->VR X P A m h c v
inductive LR(A:Nat->Prop)(m:List MB)(h:List HB)(k ex:Bool)(t:Nat):List (X.Γ t)->TV->Prop where
 |nil:LR A m h k ex t [] (.nil .aO)
 |emp {b off sz cs}:A b->aU h b=some cs->off<=cs.length->dI P t=some sz->0<sz->LR A m h k ex t [] (.aO b off 0 0 sz true)
 |some {l b sz e kk cs}:l≠[]->dI P t=some sz->0<sz->h[b]? = some (.cells kk cs)->kk≠.ro->(k=true->kk=.own)->(ex=true->e=true)->cs.length=l.length*sz->eG X P A m h t l cs 0 sz->LR A m h k ex t l (.aO b 0 l.length l.length sz e)
def JK(A:Nat->Prop)(m:List MB)(h:List HB):PE X.Γ->EV->Prop
 |.val v,.val x=>VR X P A m h v x
 |.loc k o,.loc k' o'=>k=k'/\o=o'
 |.undef,.undef=>True
 |.ent r j v,.ent c j' x=>VR X P A m h (.map r) (.map c)/\j=j'/\qE v=some x
 |.FK r j,.FK c j'=>VR X P A m h (.map r) (.map c)/\j=j'
 |_,_=>False
inductive kJ(A:Nat->Prop)(m:List MB)(h:List HB):List (Nat×PE X.Γ)->List (Nat×EV)->Prop where
 |nil:kJ A m h [] []
 |cons {k v x r r'}:JK X P A m h v x->kJ A m h r r'->kJ A m h ((k,v)::r) ((k,x)::r')
def BR(A:Nat->Prop)(m:List MB)(h:List HB):PB X.Γ->MB->Prop
 |.cells cs,.gQ b=>∃cs',h[b]? = some (.cells .own cs')/\bZ X P A m h cs cs'
 |.aF cs,.jJ b=>b∉aZ m/\∃cs',h[b]? = some (.cells .own cs')/\bZ X P A m h cs cs'
 |.list k ex t l,.dD x=>LR X P A m h k ex t l x
 |.map es,.gQ b=>∃gV,h[b]? = some (.map gV)/\es.length=gV.length/\∀(i:Nat) x y,es[i]? = some x->gV[i]? = some y->qE x.1=some y.1/\qE x.2=some y.2
 |.iP es,.jJ b=>b∉aZ m/\∃gV,h[b]? = some (.map gV)/\es.length=gV.length/\∀(i:Nat) x y,es[i]? = some x->gV[i]? = some y->qE x.1=some y.1/\qE x.2=some y.2
 |.nN cs,.gQ b=>∃cs',h[b]? = some (.nN cs')/\Vw cs=some cs'
 |.mark,.gQ b=>h[b]? = some .mark
 |.dB r n seen,.gQ b=>∃c,h[b]? = some (.dB c n seen)/\(m[r]?).isSome=true/\∀c',(m[r]? = some (.gQ c')\/m[r]? = some (.jJ c'))->c'=c
 |.loop rd f nt env ps a c jW,.gQ b=>∃env',h[b]? = some (.loop rd f nt env' ps a c jW)/\kJ X P A m h env env'
 |.gone,.gone=>True
 |_,_=>False
def AA(A:Nat->Prop)(m:List MB):Nat->Prop:=fun b=>A b/\b∉aZ m
structure HR(A:Nat->Prop)(m:List MB)(H:List (PB X.Γ))(h:List HB):Prop where
 len:m.length=H.length
 at_:∀(i:Nat) b,H[i]? = some b->∃mb,m[i]? = some mb/\BR X P (AA A m) m h b mb
 nodup:(aZ m).Nodup
 up:∀b,h.length<=b->A b
 DX:∀b,b∈aZ m->A b
end
structure Fr(m:List MB)(h:List HB)(m':List MB)(h':List HB):Prop where
 len:h.length<=h'.length
 same:∀b,b<h.length->b∉aZ m->h'[b]? = h[b]?
 new:∀b,b∈aZ m'->b∈aZ m\/h.length<=b
 grow:∀b cs,aU h b=some cs->∃cs',aU h' b=some cs'/\cs.length<=cs'.length
def Up(m m':List MB):Prop:=∀(i:Nat) mb,m[i]? = some mb->m'[i]? = some mb\/m'[i]? = some .gone
theorem Fr.refl{m h}:Fr m h m h:=⟨a1l _,fun _ _ _=>rfl,fun _ hb=>.inl hb,fun _ cs hc=>⟨cs,hc,a1l _⟩⟩
theorem Up.refl{m}:Up m m:=fun _ _ h=>.inl h
theorem Fr.trans{m m' m'' h h' h''}(a:Fr m h m' h')(b:Fr m' h' m'' h''):Fr m h m'' h'':=by
 refine⟨a5Y a.len b.len,fun c hc hn=>?_,fun c hc=>?_,fun c cs hc=>?_⟩
 .rw[b.same c (by have:=a.len;omega) (fun hm=>?_),a.same c hc hn];rcases a.new c hm with h1|h1
  .exact hn h1
  omega
 .rcases b.new c hc with h1|h1
  .exact a.new c h1
  have:=a.len;exact .inr (by omega)
 obtain⟨cs',h1,h2⟩:=a.grow c cs hc;obtain⟨afL,h3,h4⟩:=b.grow c cs' h1;exact⟨afL,h3,by omega⟩
theorem Up.trans{m m' m''}(a:Up m m')(b:Up m' m''):Up m m'':=fun i mb hi=>by
 rcases a i mb hi with h|h
 .exact b i mb h
 .rcases b i _ h with h|h<;>exact .inr h
theorem fH{h b cs}(hc:aU h b=some cs):b<h.length:=by
 unfold aU at hc;split at hc
 .rename_i e;exact(a0x.1 e).1
 cases hc
theorem fE{h h' b}(e:h'[b]? = h[b]?):aU h' b=aU h b:=by unfold aU;rw[e]
theorem yU{h h' b lim}(e:h'[b]? = h[b]?):mZ h' b lim=mZ h b lim:=by unfold mZ;rw[e]
theorem Bj{h b lim cs}(hc:mZ h b lim=some cs):aU h b=some cs:=by obtain⟨k,h1,_⟩:=yK hc;unfold aU;rw[h1]
theorem a4n{h b lim cs}(hc:mZ h b lim=some cs):b<h.length:=fH (Bj hc)
theorem xQ{h b lim k cs}(hc:h[b]? = some (.cells k cs))(hl:lim=cs.length):mZ h b lim=some cs:=by unfold mZ;simp[hc,hl]
theorem XU{h b off lim cs new}(hc:h[b]? = some (.cells .own cs)):UW h b off lim new=(xk cs off new).map fun cs'=>h.set b (.cells .own cs'):=by unfold UW;simp[hc,AL]
theorem a2g{h b off lim k k' cs new}(hc:h[b]? = some (.cells k cs))(hk:AL k true=some k')(hl:lim=cs.length):UW h b off lim new=(xk cs off new).map fun cs'=>h.set b (.cells k' cs'):=by unfold UW;simp[hc,hl,hk]
theorem KC{k}(h:k≠.ro):∃k',AL k true=some k'/\k'≠.ro/\(k=.own->k'=.own):=by cases k<;>simp_all [AL]
theorem xR{h b lim k cs}(hc:h[b]? = some (.cells k cs))(hl:k≠.last):mZ h b lim=some cs:=by unfold mZ;simp[hc,hl]
section
variable{X:mV}{P:LI1}{A:Nat->Prop}{m m':List MB}{h h':List HB}
theorem VR.step(hF:Fr m h m' h')(hU:Up m m'){v x}(hv:VR X P (AA A m) m h v x):VR X P (AA A m') m' h' v x:=by
 have hA:∀b cs,AA A m b->aU h b=some cs->AA A m' b/\h'[b]? = h[b]?:=by
  intro b cs ha hc;have aQ:=fH hc;refine⟨⟨ha.1,fun hm=>?_⟩,hF.same b aQ ha.2⟩;rcases hF.new b hm with h1|h1
  .exact ha.2 h1
  omega
 induction hv with
 |bool=>exact .bool _
 |lit=>exact .lit _
 |int=>exact .int _ _
 |str=>exact .str _
 |nil=>exact .nil _
 |ptr e=>rcases hU _ _ e with e|e;exact .ptr e;exact .gone rfl (.of e) rfl
 |aO e=>rcases hU _ _ e with e|e;exact .aO e;exact .gone rfl (.of e) rfl
 |own e o=>rcases hU _ _ e with e|e;exact .own e o;exact .gone rfl (.of e) o
 |win e q q' q2=>rcases hU _ _ e with e|e;exact .win e q q' q2;exact .gone rfl (.of e) rfl
 |CY e=>rcases hU _ _ e with e|e;exact .CY e;exact .gone rfl (.of e) rfl
 |I9 e=>rcases hU _ _ e with e|e;exact .I9 e;exact .gone rfl (.of e) rfl
 |KA e=>rcases hU _ _ e with e|e;exact .KA e;exact .gone rfl (.of e) rfl
 |map e=>rcases hU _ _ e with e|e;exact .map e;exact .gone rfl (.of e) rfl
 |iter e=>rcases hU _ _ e with e|e;exact .iter e;exact .gone rfl (.of e) rfl
 |fn h1 _ h3 _ i2 i4=>exact .fn h1 i2 h3 i4
 |lC e=>rcases hU _ _ e with e|e;exact .lC e;exact .gone rfl (.of e) rfl
 |agg h1 _ i2=>exact .agg h1 i2
 |dM h1 _ i2=>exact .dM h1 i2
 |ql=>exact .ql
 |dD a c c2 s z o k f e _ ih=>obtain⟨a',c'⟩:=hA _ _ a c;exact .dD a' ((fE c').trans c) (fun hl=>(yU c').trans (c2 hl)) s z o k f e ih
 |el a c l o e q _ ih=>obtain⟨a',c'⟩:=hA _ _ a (Bj c);exact .el a' ((yU c').trans c) l o e q ih
 |row e j q=>rcases hU _ _ e with e|e;exact .row e j q;exact .gone rfl (.of e) rfl
 | @gone v i0 x i e o=>
  generalize hq:m[i0]? = q at e;cases e with
  |g=>rcases hU _ _ hq with e|e<;>exact .gone i (.of e) o
  |r c hv=>rcases hU _ _ hq with e|e;exact .gone i (.ofR e hv) o;exact .gone i (.of e) o
theorem bZ.step(hF:Fr m h m' h')(hU:Up m m'){v x}(hv:bZ X P (AA A m) m h v x):bZ X P (AA A m') m' h' v x:=
 ⟨hv.1,fun i a b ha hb=>(hv.2 i a b ha hb).step hF hU⟩
theorem eG.step(hF:Fr m h m' h')(hU:Up m m'){t l cs off sz}(hv:eG X P (AA A m) m h t l cs off sz):eG X P (AA A m') m' h' t l cs off sz:=
 ⟨hv.1,hv.2.1,fun j a i c v h1 h2 h3=>(hv.2.2 j a i c v h1 h2 h3).step hF hU⟩
theorem JK.step(hF:Fr m h m' h')(hU:Up m m'){v x}(hv:JK X P (AA A m) m h v x):JK X P (AA A m') m' h' v x:=by cases v<;>cases x<;>first|exact VR.step hF hU hv|exact hv|exact⟨VR.step hF hU hv.1,hv.2⟩
theorem kJ.step(hF:Fr m h m' h')(hU:Up m m'){v x}(hv:kJ X P (AA A m) m h v x):kJ X P (AA A m') m' h' v x:=by
 induction hv with
 |nil=>exact .nil
 |cons h1 _ ih=>exact .cons (h1.step hF hU) ih
theorem BR.step(hF:Fr m h m' h')(hU:Up m m'){b mb}(hs:∀c,mb.own=some c->h'[c]? = h[c]?)(hb:BR X P (AA A m) m h b mb):BR X P (AA A m') m' h' b mb:=by
 cases b with
 |cells cs=>
  cases mb with
  |gQ b=>obtain⟨cs',h1,h2⟩:=hb;exact⟨cs',by rw[hs b rfl,h1],h2.step hF hU⟩
  |_=>exact hb.elim
 |aF cs=>
  cases mb with
  |jJ b=>
   obtain⟨h0,cs',h1,h2⟩:=hb;have aQ:=(a0x.1 h1).1;refine⟨fun hm=>?_,cs',by rw[hF.same _ aQ h0,h1],h2.step hF hU⟩;rcases hF.new _ hm with g|g
   .exact h0 g
   omega
  |_=>exact hb.elim
 |list k ex t l=>
  cases mb with
  |dD x=>
   cases(hb:LR X P (AA A m) m h k ex t l x)with
   |nil=>exact LR.nil
   |emp h0 h1 h2 h3 h4=>
    have aQ:=fH h1;refine LR.emp ⟨h0.1,fun hm=>?_⟩ (by rw[fE (hF.same _ aQ h0.2),h1]) h2 h3 h4;rcases hF.new _ hm with g|g
    .exact h0.2 g
    omega
   |some h1 h2 h3 h4 h5 h6 h7 h8 h9=>
    have ho:=hs _ (by simp only[MB.own];rw[a18 (by simpa using h1)]);exact LR.some h1 h2 h3 (by rw[ho,h4]) h5 h6 h7 h8 (h9.step hF hU)
  |_=>exact hb.elim
 |map es=>
  cases mb with
  |gQ b=>obtain⟨gV,h1,h2,h3⟩:=hb;exact⟨gV,by rw[hs b rfl,h1],h2,h3⟩
  |_=>exact hb.elim
 |nN cs=>
  cases mb with
  |gQ b=>obtain⟨gV,h1,h2⟩:=hb;exact⟨gV,by rw[hs b rfl,h1],h2⟩
  |_=>exact hb.elim
 |iP es=>
  cases mb with
  |jJ b=>
   obtain⟨h0,gV,h1,h2⟩:=hb;have aQ:=(a0x.1 h1).1;refine⟨fun hm=>?_,gV,by rw[hF.same _ aQ h0,h1],h2⟩;rcases hF.new _ hm with g|g
   .exact h0 g
   omega
  |_=>exact hb.elim
 |dB r n seen=>
  cases mb with
  |gQ b=>
   obtain⟨c,h1,h2,h3⟩:=hb;obtain⟨mb,h4⟩:=a5Z.1 h2;refine⟨c,by rw[hs b rfl,h1],by rcases hU _ _ h4 with e|e<;>rw[e]<;>rfl,fun c' hc=>h3 c' ?_⟩;rcases hU _ _ h4 with e|e
   .rw[h4,<-e];exact hc
   rw[e]at hc;simp at hc
  |_=>exact hb.elim
 |mark=>
  cases mb with
  |gQ b=>show h'[b]? = _;rw[hs b rfl];exact hb
  |_=>exact hb.elim
 |loop rd f nt env ps a c jW=>
  cases mb with
  |gQ b=>obtain⟨e',h1,h2⟩:=hb;exact⟨e',by rw[hs b rfl,h1],h2.step hF hU⟩
  |_=>exact hb.elim
 |gone=>
  cases mb with
  |gone=>trivial
  |_=>exact hb.elim
theorem aY{i:Nat}{mb b}(hi:m[i]? = some mb)(ho:mb.own=some b):b∈aZ m:=
 a6u.2 ⟨mb,a5N hi,ho⟩
theorem jc(hn:(aZ m).Nodup):∀{i j:Nat} {a b} {c},m[i]? = some a->m[j]? = some b->a.own=some c->b.own=some c->i=j:=by
 unfold aZ at hn
 induction m with
 |nil=>intro i j a b c h;simp at h
 |cons x r ih=>
  intro i j a b c hi hj ha hb;have hr:(r.filterMap MB.own).Nodup:=by
   simp only[aal]at hn;split at hn
   .exact hn
   exact(a5I.1 hn).2
  have hx:∀{k:Nat} {y:MB},r[k]? = some y->y.own=some c->x.own=some c->False:=by intro k y hk hy hxc;simp only[aal,hxc]at hn;exact(a5I.1 hn).1 (a6u.2 ⟨y,a5N hk,hy⟩)
  cases i with
  |zero=>
   cases j with
   |zero=>rfl
   |succ j=>
    simp only[a3E,a09]at hi;subst hi;exact(hx (by simpa using hj) hb ha).elim
  |succ i=>
   cases j with
   |zero=>
    simp only[a3E,a09]at hj;subst hj;exact(hx (by simpa using hi) ha hb).elim
   |succ j=>
    have:=ih hr (i:=i) (j:=j) (by simpa using hi) (by simpa using hj) ha hb;omega
end
section
variable{X:mV}{P:LI1}{A:Nat->Prop}{m m':List MB}{h h':List HB}{H H':List (PB X.Γ)}
theorem HR.next(hr:HR X P A m H h)(hF:Fr m h m' h')(hU:Up m m')(hl:m'.length=H'.length)(hn:(aZ m').Nodup)(JJ:∀(i:Nat) b,H'[i]? = some b->(∃mb,H[i]? = some b/\m[i]? = some mb/\m'[i]? = some mb/\∀c,mb.own=some c->h'[c]? = h[c]?)\/∃mb,m'[i]? = some mb/\BR X P (AA A m') m' h' b mb):HR X P A m' H' h':=by
 refine⟨hl,fun i b hb=>?_,hn,fun b hb=>hr.up b (by have:=hF.len;omega),fun b hb=>?_⟩
 .rcases JJ i b hb with⟨mb,h1,h2,h3,h4⟩|h1
  .obtain⟨Ns,g1,g2⟩:=hr.at_ i b h1;rw[h2]at g1;cases g1;exact⟨mb,h3,g2.step hF hU h4⟩
  .exact h1
 .rcases hF.new b hb with h1|h1
  .exact hr.DX b h1
  .exact hr.up b h1
theorem BR.has{B b mb c}(hb:BR X P B m h b mb)(ho:mb.own=some c):c<h.length:=by
 have key:∀{y},h[c]? = some y->c<h.length:=fun e=>(a0x.1 e).1;cases b with
 |cells cs=>
  cases mb with
  |gQ b=>cases ho;obtain⟨_,h1,_⟩:=hb;exact key h1
  |_=>exact hb.elim
 |aF cs=>
  cases mb with
  |jJ b=>cases ho
  |_=>exact hb.elim
 |list k ex t l=>
  cases mb with
  |dD x=>
   cases(hb:LR X P B m h k ex t l x)with
   |nil=>cases ho
   |emp=>simp[MB.own]at ho
   |some h1 _ _ h4=>
    simp only[MB.own]at ho;split at ho
    .cases ho
    cases ho;exact key h4
  |_=>exact hb.elim
 |map es=>
  cases mb with
  |gQ b=>cases ho;obtain⟨_,h1,_⟩:=hb;exact key h1
  |_=>exact hb.elim
 |nN cs=>
  cases mb with
  |gQ b=>cases ho;obtain⟨_,h1,_⟩:=hb;exact key h1
  |_=>exact hb.elim
 |iP es=>
  cases mb with
  |jJ b=>cases ho
  |_=>exact hb.elim
 |dB r n seen=>
  cases mb with
  |gQ b=>cases ho;obtain⟨_,h1,_⟩:=hb;exact key h1
  |_=>exact hb.elim
 |mark=>
  cases mb with
  |gQ b=>cases ho;exact key hb
  |_=>exact hb.elim
 |loop=>
  cases mb with
  |gQ b=>cases ho;obtain⟨_,h1,_⟩:=hb;exact key h1
  |_=>exact hb.elim
 |gone=>
  cases mb with
  |gone=>cases ho
  |_=>exact hb.elim
theorem HR.inb(hr:HR X P A m H h){c}(hc:c∈aZ m):c<h.length:=by
 obtain⟨mb,hm,ho⟩:=a6u.1 hc;obtain⟨i,hi⟩:=a9f hm;have:i<H.length:=by rw[<-hr.len];exact(a0x.1 hi).1
 obtain⟨Ns,h1,h2⟩:=hr.at_ i H[i] (a0Q this);rw[hi]at h1;cases h1;exact h2.has ho
theorem jA(a b):aZ (a++b)=aZ a++aZ b:=List.filterMap_append ..
theorem kY(mb):aZ [mb]=mb.own.toList:=by unfold aZ;simp[aal];cases mb.own<;>rfl
theorem xU(ms):Up m (m++ms):=fun i mb hi=>.inl (by rw[a0U (a0x.1 hi).1];exact hi)
theorem HR.push(hr:HR X P A m H h){pb hb mb}(ho:mb.own=some h.length\/mb.own=none)(qZ:BR X P (AA A (m++[mb])) (m++[mb]) (h++[hb]) pb mb) :HR X P A (m++[mb]) (H++[pb]) (h++[hb])/\Fr m h (m++[mb]) (h++[hb])/\Up m (m++[mb]):=by
 have hF:Fr m h (m++[mb]) (h++[hb]):=by
  refine⟨by simp,fun b hb _=>by rw[a0U hb],fun b hb=>?_,fun b cs hc=>⟨cs,?_,a1l _⟩⟩
  .rw[jA,a3M,kY]at hb;rcases hb with hb|hb
   .exact .inl hb
   .rcases ho with ho|ho<;>rw[ho]at hb<;>simp at hb
    exact .inr (by omega)
  .rw[fE (a0U (fH hc)),hc]
 refine⟨hr.next hF (xU _) (by simp[hr.len]) ?_ fun i b hi=>?_,hF,xU _⟩
 .rw[jA,kY];refine a9N.2 ⟨hr.nodup,?_,?_⟩
  .cases mb.own<;>simp
  .intro a ha b hb e;subst e;have:=hr.inb ha;rcases ho with ho|ho<;>rw[ho]at hb<;>simp at hb
   omega
 .rcases a4W i H.length with aQ|CU
  .left;rw[a0U aQ]at hi;obtain⟨Ns,h1,h2⟩:=hr.at_ i b hi;refine⟨Ns,hi,h1,by rw[a0U (by rw[hr.len];exact aQ)];exact h1,fun c hc=>?_⟩;rw[a0U (h2.has hc)]
  .right;rw[a1r CU]at hi;have:i-H.length=0:=by
    rcases abp (i-H.length)with h|h
    .exact h
    .rw[a4O (by simp;omega)]at hi;cases hi
   rw[this]at hi;simp only[a3E,a09]at hi;subst hi;exact⟨mb,by rw[a1r (by rw[hr.len];exact CU),hr.len,this];rfl,qZ⟩
theorem HR.adx(hr:HR X P A m H h){pb mb}(ho:mb.own=none)(qZ:BR X P (AA A (m++[mb])) (m++[mb]) h pb mb) :HR X P A (m++[mb]) (H++[pb]) h/\Fr m h (m++[mb]) h/\Up m (m++[mb]):=by
 have yO:aZ (m++[mb])=aZ m:=by rw[jA,kY,ho];simp
 have hF:Fr m h (m++[mb]) h:=⟨a1l _,fun _ _ _=>rfl,fun b hb=>.inl (yO▸hb),fun b cs hc=>⟨cs,hc,a1l _⟩⟩;refine⟨hr.next hF (xU _) (by simp[hr.len]) (by rw[yO];exact hr.nodup) fun i b hi=>?_,hF,xU _⟩;rcases a4W i H.length with aQ|CU
 .left;rw[a0U aQ]at hi;obtain⟨Ns,h1,h2⟩:=hr.at_ i b hi;exact⟨Ns,hi,h1,by rw[a0U (by rw[hr.len];exact aQ)];exact h1,fun c hc=>rfl⟩
 .right;rw[a1r CU]at hi;have:i-H.length=0:=by
   rcases abp (i-H.length)with h|h
   .exact h
   .rw[a4O (by simp;omega)]at hi;cases hi
  rw[this]at hi;simp only[a3E,a09]at hi;subst hi;exact⟨mb,by rw[a1r (by rw[hr.len];exact CU),hr.len,this];rfl,qZ⟩
theorem HR.set(hr:HR X P A m H h){i c mb pb hb}(hi:m[i]? = some mb)(ho:mb.own=some c)(hg:∀cs,aU h c=some cs->∃cs',aU (h.set c hb) c=some cs'/\cs.length<=cs'.length)(qZ:Fr m h m (h.set c hb)->BR X P (AA A m) m (h.set c hb) pb mb):HR X P A m (H.set i pb) (h.set c hb)/\Fr m h m (h.set c hb):=by
 have hF:Fr m h m (h.set c hb):=by
  refine⟨by simp,fun b hb hn=>?_,fun b hb=>.inl hb,fun b cs hc=>?_⟩
  .rw[a1y];intro e;subst e;exact hn (aY hi ho)
  .by_cases e:c=b
   .subst e;exact hg cs hc
   .exact⟨cs,by rw[fE (a1y e),hc],a1l _⟩
 refine⟨hr.next hF .refl (by simp[hr.len]) hr.nodup fun j b hj=>?_,hF⟩;by_cases e:i=j
 .subst e;rw[a5G ]at hj;right;have:H[i]?.isSome:=by
   have:i<H.length:=by rw[<-hr.len];exact(a0x.1 hi).1
   simp[this]
  obtain⟨y,hy⟩:=a5Z.1 this;rw[hy]at hj;cases hj;exact⟨mb,hi,qZ hF⟩
 .rw[a1y e]at hj;left;obtain⟨Ns,h1,h2⟩:=hr.at_ j b hj;refine⟨Ns,hj,h1,h1,fun d hd=>a1y fun e2=>?_⟩;subst e2;exact e (jc hr.nodup hi h1 ho hd)
theorem Gu{i}:∀{m} {b},b∈aZ (m.set i .gone)->b∈aZ m:=by
 intro m b hb;obtain⟨mb,hm,ho⟩:=a6u.1 hb;obtain⟨j,hj⟩:=a9f hm;by_cases e:i=j
 .subst e;rw[a5G]at hj;cases hx:m[i]? with
  |none=>rw[hx]at hj;cases hj
  |some y=>rw[hx]at hj;cases hj;cases ho
 rw[a1y e]at hj;exact aY hj ho
theorem PU{i}:∀{m},(aZ m).Nodup->(aZ (m.set i .gone)).Nodup:=by
 unfold aZ;intro m
 induction m generalizing i with
 |nil=>intro h;simp
 |cons x r ih=>
  intro hn;cases i with
  |zero=>
   simp only[List.set_cons_zero,aal,MB.own];simp only[aal]at hn;split at hn
   .exact hn
   exact(a5I.1 hn).2
  |succ i=>
   simp only[List.set_cons_succ,aal];simp only[aal]at hn;split at hn
   .exact ih hn
   refine a5I.2 ⟨fun hb=>(a5I.1 hn).1 ?_,ih (a5I.1 hn).2⟩;exact Gu (m:=r) hb
theorem a2h{i}:Fr m h (m.set i .gone) h:=⟨a1l _,fun _ _ _=>rfl,fun _ hb=>.inl (Gu hb),fun _ cs hc=>⟨cs,hc,a1l _⟩⟩
theorem a2i{i}:Up m (m.set i .gone):=fun j mb hj=>by
 by_cases e:i=j
 .subst e;right;rw[a5G,hj];rfl
 .left;rw[a1y e];exact hj
theorem HR.gone(hr:HR X P A m H h)(i):HR X P A (m.set i .gone) (H.set i .gone) h:=by
 refine hr.next a2h a2i (by simp[hr.len]) (PU hr.nodup) fun j b hj=>?_;by_cases e:i=j
 .subst e;right;rw[a5G]at hj;cases hx:H[i]? with
  |none=>rw[hx]at hj;cases hj
  |some y=>
   rw[hx]at hj;cases hj;obtain⟨mb,h1,_⟩:=hr.at_ i y hx;exact⟨.gone,by rw[a5G,h1];rfl,trivial⟩
 rw[a1y e]at hj;left;obtain⟨mb,h1,_⟩:=hr.at_ j b hj;exact⟨mb,hj,h1,by rw[a1y e];exact h1,fun _ _=>rfl⟩
def bW:List Nat->List MB->List MB
 | [],m=>m
 |i::is,m=>bW is (m.set i .gone)
theorem iK:∀(is) (m),Fr m h (bW is m) h/\Up m (bW is m)
 | [],m=>⟨.refl,.refl⟩
 |i::is,m=>⟨a2h.trans (iK is _).1,a2i.trans (iK is _).2⟩
theorem HR.aX:∀(is:List Nat) {m:List MB} {H:List (PB X.Γ)},HR X P A m H h->HR X P A (bW is m) (aX is H) h
 | [],_,_,hr=>hr
 |i::is,_,_,hr=>HR.aX is (hr.gone i)
theorem oC:∀(is) (H:List (PB X.Γ)),(Pv.aX is H).length=H.length
 | [],_=>rfl
 |i::is,H=>by rw[Pv.aX,oC is];simp[XQ]
theorem nD:∀(is) (m),(bW is m).length=m.length
 | [],_=>rfl
 |i::is,m=>by rw[bW,nD is];simp
theorem IU:∀(is) {m} {i} {mb},m[i]? = some mb->(bW is m)[i]? = some (if is.contains i then .gone else mb)
 | [],_,_,_,h=>by simpa[bW]using h
 |j::is,m,i,mb,h=>by
  rw[bW];by_cases e:j=i
  .subst e;have:(m.set j .gone)[j]? = some .gone:=by rw[a5G,h];rfl
   rw[IU is this];simp
  rw[IU is (by rw[a1y e];exact h)];have:(i==j)=false:=by simp;omega
  simp only[aiz,this,agp]
end
end Pv
