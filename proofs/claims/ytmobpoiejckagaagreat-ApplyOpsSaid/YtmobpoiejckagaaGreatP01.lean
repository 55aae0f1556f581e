/- Part 2 of a proof: ApplyOps -/
import Derived.Scope
import Derived.Maps.RangeRun
import Derived.Deep.Slices
import Derived.ChangeArms
import Derived.Carry
import Derived.Laws.StructEq
import Derived.Test.YtmobpoiejckagaaGreatP00
set_option linter.unusedVariables false
set_option linter.unusedSimpArgs false
set_option linter.unusedSectionVars false
noncomputable section
namespace Tw
open Go
structure iZ(P:LI1)(call:bn)(site:Nat->Bool)(nt:Nat)(ops:Array Oper)(M0:Mp)(h0:List HB)(w0:LI4)(S:Nat->St)(I:Nat->ni):Prop where
 base:xK M0 h0 w0
 step:∀j o,ops[j]? = some o->uY P call site h0.length nt ops o (S j) (I j) (S (j+1))
 ok:∀j,j<=ops.size->∃M a w,Rel M0 h0 w0 nt M (S j) a w
 fac:∀j o,ops[j]? = some o->∃M w M' w' v,S (j+1)=St.put { S (j+1)with env:=(S j).env } o.dst v∧Ext M (S j).get w M' (S (j+1)).get w' (I j).ws
 stat:oC ops.toList=true
 calm:∀x y a b,(x,y)∈pz ops.toList->ops[x]? = some a->ops[y]? = some b->CJ a b=true∨((∀k∈(I x).ws,¬pI (I y) k)∧(∀k∈(I y).ws,¬pI (I x) k))
theorem OI{P:LI1}{call:bn}{site:Nat->Bool}{fl nt:Nat}{ops:Array Oper}:∀(os:List Oper) (s s':St) (is:List ni),lS P call site fl nt ops os s=some (s',is) ->
  ∃(S:Nat->St) (I:Nat->ni),S 0=s∧S os.length=s'∧(∀j o,os[j]? = some o->uY P call site fl nt ops o (S j) (I j) (S (j+1)))∧∀j,j<os.length->is[j]? = some (I j)
 | [],s,s',is,h=>by simp only[lS,a0k,a0T]at h;obtain⟨rfl,rfl⟩:=h;exact⟨fun _=>s,fun _=>cZ,rfl,rfl,by simp,by simp⟩
 |o::os,s,s',is,h=>by
  obtain⟨i,s1,is',hS,hr,rfl⟩:=DC h;obtain⟨S,I,e1,e2,e3,e4⟩:=OI os s1 s' is' hr;refine⟨fun j=>match j with| 0=>s|j+1=>S j,fun j=>match j with| 0=>i|j+1=>I j,rfl,e2,?_,?_⟩
  .intro j o' ho;cases j with
   |zero=>simp at ho;subst ho;simp only[e1];exact hS
   |succ j=>exact e3 j o' (by simpa using ho)
  .intro j hj;cases j with
   |zero=>rfl
   |succ j=>simpa using e4 j (by simpa using hj)
theorem a6e{P:LI1}{call:bn}{site:Nat->Bool}{nt:Nat}{ops:Array Oper}{M0:Mp}{h0:List HB}{w0:LI4}(hC:iO P call)(hB:xK M0 h0 w0){s s':St}{is:List ni}{M:Mp}{a:Act}{w:LI4}
  (h:lS P call site h0.length nt ops ops.toList s=some (s',is)) (hR:Rel M0 h0 w0 nt M s a w) (hs:oC ops.toList=true) (hd:CO is (nP ops.toList)=true) :
  ∃S I,S 0=s∧S ops.size=s'∧iZ P call site nt ops M0 h0 w0 S I:=by
 obtain⟨S,I,e1,e2,e3,e4⟩:=OI _ _ _ _ h;have e3':∀j o,ops[j]? = some o->uY P call site h0.length nt ops o (S j) (I j) (S (j+1)):=fun j o ho=>e3 j o (by simpa using ho);have Sl:∀j,j<=ops.size->∃M a w,Rel M0 h0 w0 nt M (S j) a w:=by
  intro j
  induction j with
  |zero=>intro _;exact⟨M,a,w,by rw[e1];exact hR⟩
  |succ j ih=>
   intro hj;obtain⟨M1,a1,w1,yC⟩:=ih (by omega);have ho:ops[j]? = some ops[j]:=a4w (by omega);obtain⟨x,w',wS⟩:=(I4 hC yC (e3' j _ ho)).1;obtain⟨M',Gl⟩:=OE hB yC (e3' j _ ho) wS;exact⟨M',_,w',Gl⟩
 refine⟨S,I,e1,by simpa using e2,hB,e3',Sl,?_,hs,?_⟩
 .intro j o ho;have hj:j<ops.size:=(a2t.1 ho).1;obtain⟨M1,a1,w1,yC⟩:=Sl j (by omega);obtain⟨x,w',v,M',he,hp⟩:=(I4 hC yC (e3' j _ ho)).1;exact⟨M1,w1,M',w',v,he,hp.ext⟩
 .intro x y a b hp ha hb;have hx:x<ops.size:=(a2t.1 ha).1;have hy:y<ops.size:=(a2t.1 hb).1;exact a3A hd hp (by simpa using ha) (by simpa using hb) (e4 x (by simpa using hx)) (e4 y (by simpa using hy)) (e3' x a ha) (e3' y b hb)
def pK(M:Mp)(C:Ct):Mp:=fun k=>if(C k).isSome=true then M k else none
theorem dV{M:Mp}{C:Ct}{k:Key}{l:Lc}(h:pK M C k=some l):(C k).isSome=true∧M k=some l:=by
 unfold pK at h;split at h
 .rename_i h1;exact⟨h1,h⟩
 cases h
theorem rV{M:Mp}{C:Ct}{k:Key}{l:Lc}(hc:(C k).isSome=true)(h:M k=some l):pK M C k=some l:=by simp[pK,hc,h]
theorem zQ{M M':Mp}{C C':Ct}(hm:tV M M')(hc:∀k,(C k).isSome=true->(C' k).isSome=true):tV (pK M C) (pK M' C'):=by intro k l h;obtain⟨h1,h2⟩:=dV h;obtain⟨l',h3,h4⟩:=hm k l h2;exact⟨l',rV (hc k h1) h3,h4⟩
theorem a1t{M:Mp}{C:Ct}:tV (pK M C) M:=fun k l h=>⟨l,(dV h).2,.refl l⟩
def Good(W D:Nat->Prop)(τ:Nat):Prop:=(∀j,D j->W j->j<τ)∧(∀j,j<τ->W j->D j)∧(τ=0∨W (τ-1))
def a6f(D:Nat->Prop)(i j:Nat):Prop:=(j<i∧¬D j)∨(i<j∧D j)
theorem Good.le{W D:Nat->Prop}{τ i:Nat}(h:Good W D τ)(hi:¬D i)(hn:∀j,W j->¬a6f D i j):τ<=i∧∀j,τ<=j->j<i->¬W j:=by
 obtain⟨h1,h2,h3⟩:=h;constructor
 .refine acX fun aQ=>?_;rcases h3 with rfl|h3
  .omega
  have hd:=h2 (τ-1) (by omega) h3;have iM:τ-1≠i:=fun e=>hi (e▸hd);exact hn _ h3 (.inr ⟨by omega,hd⟩)
 intro j hj hji hw;exact hn j hw (.inl ⟨hji,fun hd=>by have:=h1 j hd hw;omega⟩)
theorem Good.next{W D:Nat->Prop}{i:Nat}(hw:W i)(hn:∀j,W j->¬a6f D i j):Good W (fun j=>D j∨j=i) (i+1):=by
 refine⟨fun j hd hj=>?_,fun j hj Xk=>?_,.inr (by simpa using hw)⟩
 .rcases hd with hd|rfl
  .refine Nat.lt_of_not_le fun h=>hn j hj (.inr ⟨by omega,hd⟩)
  omega
 by_cases he:j=i
 .exact .inr he
 refine .inl (acL fun hd=>hn j Xk (.inl ⟨by omega,hd⟩))
theorem Good.other{W D:Nat->Prop}{τ i:Nat}(h:Good W D τ)(hw:¬W i):Good W (fun j=>D j∨j=i) τ:=
 ⟨fun j hd hj=>hd.elim (fun h1=>h.1 j h1 hj) (fun e=>absurd (e▸hj) hw),fun j hj Xk=>.inl (h.2.1 j hj Xk),h.2.2⟩
section
variable {P:LI1} {call:bn} {site:Nat->Bool} {nt:Nat} {ops:Array Oper} {M0:Mp} {h0:List HB} {w0:LI4} {S:Nat->St} {I:Nat->ni}
def Wk(ops:Array Oper)(S:Nat->St)(I:Nat->ni)(k:Key)(j:Nat):Prop:=∃o,ops[j]? = some o∧(k∈(I j).ws∨((S j).get k=none∧((S (j+1)).get k).isSome=true))
def Wt(ops:Array Oper)(t j:Nat):Prop:=∃o,ops[j]? = some o∧o.dst=some t
theorem iZ.has(hZ:iZ P call site nt ops M0 h0 w0 S I){j:Nat}{o:Oper}(ho:ops[j]? = some o){k:Key}(hk:((S j).get k).isSome=true):((S (j+1)).get k).isSome=true:=by obtain⟨M,w,M',w',v,he,hx⟩:=hZ.fac j o ho;exact hx.has k hk
theorem iZ.wsub(hZ:iZ P call site nt ops M0 h0 w0 S I){j:Nat}{o:Oper}(ho:ops[j]? = some o){k:Key}(hk:k∈(I j).ws):((S j).get k).isSome=true:=by obtain⟨M,w,M',w',v,he,hx⟩:=hZ.fac j o ho;exact hx.wsub k hk
theorem iZ.oh(hZ:iZ P call site nt ops M0 h0 w0 S I){j:Nat}{o:Oper}(ho:ops[j]? = some o){k:Key}(hn:¬Wk ops S I k j):(S (j+1)).get k=(S j).get k:=by
 obtain⟨M,w,M',w',v,he,hx⟩:=hZ.fac j o ho;cases hk:(S j).get k with
 |some b=>
  rw[hx.oh k (by simp[hk]) (fun h=>hn ⟨o,ho,.inl h⟩),hk]
 |none=>
  cases pG:(S (j+1)).get k with
  |none=>rfl
  |some b=>exact absurd ⟨o,ho,.inr ⟨hk,by simp[pG]⟩⟩ hn
theorem iZ.mono(hZ:iZ P call site nt ops M0 h0 w0 S I){k:Key}:∀{i j:Nat},i<=j->j<=ops.size->((S i).get k).isSome=true->((S j).get k).isSome=true:=by
 intro i j Bd
 induction Bd with
 |refl=>exact fun _ h=>h
 |step hle ih=>
  rename_i j;intro hj h;exact hZ.has (o:=ops[j]'(by simp at hj;omega)) (a4w _) (ih (by simp at hj;omega) h)
theorem iZ.const(hZ:iZ P call site nt ops M0 h0 w0 S I){k:Key}:∀{i j:Nat},i<=j->j<=ops.size->(∀x,i<=x->x<j->¬Wk ops S I k x)->(S j).get k=(S i).get k:=by
 intro i j Bd
 induction Bd with
 |refl=>exact fun _ _=>rfl
 |step hle ih=>
  rename_i j;intro hj h;simp only[ai1]at *;rw[hZ.oh (o:=ops[j]'(by omega)) (a4w _) (h j hle (by omega))];exact ih (by omega) fun x h1 h2=>h x h1 (by omega)
theorem iZ.aa4(hZ:iZ P call site nt ops M0 h0 w0 S I){j:Nat}{o:Oper}(ho:ops[j]? = some o){t:Nat}(hn:¬Wt ops t j):dR t (S (j+1)).env=dR t (S j).env:=by obtain⟨M,w,M',w',v,he,hx⟩:=hZ.fac j o ho;rw[he,zN,a0F (fun h=>hn ⟨o,ho,h⟩)]
theorem iZ.ZN(hZ:iZ P call site nt ops M0 h0 w0 S I){t:Nat}:∀{i j:Nat},i<=j->j<=ops.size->(∀x,i<=x->x<j->¬Wt ops t x)->dR t (S j).env=dR t (S i).env:=by
 intro i j Bd
 induction Bd with
 |refl=>exact fun _ _=>rfl
 |step hle ih=>
  rename_i j;intro hj h;simp only[ai1]at *;rw[hZ.aa4 (o:=ops[j]'(by omega)) (a4w _) (h j hle (by omega))];exact ih (by omega) fun x h1 h2=>h x h1 (by omega)
theorem iZ.ZO(hZ:iZ P call site nt ops M0 h0 w0 S I){b:Nat}:∀{i j:Nat},i<=j->j<=ops.size->b∈(S i).ws->b∈(S j).ws:=by
 intro i j Bd
 induction Bd with
 |refl=>exact fun _ h=>h
 |step hle ih=>
  rename_i j;intro hj h;simp only[ai1]at *;rw[(hZ.step j (ops[j]'(by omega)) (a4w _)).a1s];exact pJ.2 (.inl (ih (by omega) h))
theorem iZ.acO(hZ:iZ P call site nt ops M0 h0 w0 S I){j:Nat}{o:Oper}(ho:ops[j]? = some o){k:Key}(hk:k∈(I j).ws)(h0k:(lK h0 k).isSome=true):k∈(S ops.size).ws.map .h:=by obtain⟨b,rfl,hb⟩:=Dz h0k;have hj:j<ops.size:=(a2t.1 ho).1;refine a1e.2 ⟨b,hZ.ZO (i:=j+1) (by omega) (a15 _) ?_,rfl⟩;rw[(hZ.step j o ho).a1s];exact pJ.2 (.inr ⟨hk,hb⟩)
theorem iZ.old(hZ:iZ P call site nt ops M0 h0 w0 S I){j:Nat}(hj:j<=ops.size){k:Key}(h0k:(lK h0 k).isSome=true):((S j).get k).isSome=true:=by obtain⟨M,a,w,hR⟩:=hZ.ok j hj;exact hR.ext.has k h0k
theorem iZ.mark(hZ:iZ P call site nt ops M0 h0 w0 S I){k:Key}(hk:(S 0).get k=some .mark):∀j,j<=ops.size->(S j).get k=some .mark:=by
 intro j
 induction j with
 |zero=>exact fun _=>hk
 |succ j ih=>
  intro hj;obtain⟨M,w,M',w',v,he,hx⟩:=hZ.fac j ops[j] (a4w (by omega));have h1:=ih (by omega);rw[hx.oh k (by simp[h1]) (fun Dx=>by have:=(hx.wrote k Dx).2 _ h1;cases this),h1]
structure Inv(nt:Nat)(ops:Array Oper)(M0:Mp)(h0:List HB)(w0:LI4)(S:Nat->St)(I:Nat->ni)(D:Nat->Prop)(M:Mp)(a:Act)(w:LI4):Prop where
 closed:∀j o,ops[j]? = some o->D j->uZ D o
 size:nt<=a.tmps.size
 mem:∀k l,M k=some l->∃τ,τ<=ops.size∧Good (Wk ops S I k) D τ∧∃b,(S τ).get k=some b∧qA (pK M (S τ).get).h w b l ∧
  (wr b=true->∀k' l',k≠k'->M k'=some l'->∀c∈aK l,c∉aK l')
 inb:∀k l,M k=some l->∀c∈aK l,c<w.heap.size
 slot:∀t,∃τ,τ<=ops.size∧Good (Wt ops t) D τ∧∀e,dR t (S τ).env=some e->ER (pK M (S τ).get) e (a.tmps.getD t Go.undef)
 SX:∀j o k,ops[j]? = some o->D j->k∈(I j).ws->(M k).isSome=true
 Jl:tV M0 M
 frame:∀c,c<w0.heap.size->(∀k∈(S ops.size).ws.map Key.h,∀l,M0 k=some l->c∉aK l)->w.heap[c]? = w0.heap[c]?
 lT:∀k,((lK h0 k).isSome=true∨(S ops.size).get k=none)->k∉(S ops.size).ws.map Key.h->M k=M0 k
 fresh:∀k l,M k=some l->∀c∈aK l,c<w0.heap.size->∃l0,M0 k=some l0∧c∈aK l0
 FH:w0.heap.size<=w.heap.size
 os:w.os=w0.os
 output:w.output=w0.output
 tape:w.tape=w0.tape
 marks:∀d∈a.defers,∃k r,d=⟨.collected r,#[]⟩∧lK h0 (.h k)=none∧(∃o,M (.h k)=some (.obj r o))∧(∀j,j<=ops.size->(S j).get (.h k)=some .mark)∧w.heap[r]? = some (.deferred (some []))
 apart:a.defers.Pairwise (·≠·)
theorem a3B(hZ:iZ P call site nt ops M0 h0 w0 S I){M:Mp}{a:Act}{w:LI4}(hR:Rel M0 h0 w0 nt M (S 0) a w):Inv nt ops M0 h0 w0 S I (fun _=>False) M a w where
 closed:=fun _ _ _ h=>h.elim
 size:=hR.size
 mem:=fun k l hk=>by obtain⟨b,h1,h2⟩:=hR.val.ok k l hk trivial;have hm:tV M (pK M (S 0).get):=fun k l h=>⟨l,rV (hR.val.has h) h,.refl l⟩;exact⟨0,by omega,⟨fun _ h=>h.elim,fun _ h=>by omega,.inl rfl⟩,b,h1,h2.mono hm.h fun _ _=>rfl,fun hw k' l' iM pG=>hR.val.own k k' l l' b iM hk pG trivial h1 hw⟩
 inb:=hR.val.inb
 slot:=fun t=>⟨0,by omega,⟨fun _ h=>h.elim,fun _ h=>by omega,.inl rfl⟩,fun e he=>by have hm:tV M (pK M (S 0).get):=fun k l h=>⟨l,rV (hR.val.has h) h,.refl l⟩;exact(hR.env t e he).mono hm fun k l h=>rV (hR.val.has h) h⟩
 SX:=fun _ _ _ _ h=>h.elim
 Jl:=hR.ext.Jl
 frame:=fun c hc hf=>hR.ext.frame c hc fun k hk l hl=>by obtain⟨b,hb,rfl⟩:=a1e.1 hk;exact hf _ (a1e.2 ⟨b,hZ.ZO (a5u _) (a15 _) hb,rfl⟩) l hl
 lT:=fun k hk hn=>by
  refine hR.ext.lT k (hk.imp id fun h=>?_) (fun h=>hn ?_)
  .cases hc:(S 0).get k with
   |none=>rfl
   |some b=>have:=hZ.mono (k:=k) (a5u _) (a15 _) (by simp[hc]);simp[h]at this
  .obtain⟨b,hb,rfl⟩:=a1e.1 h;exact a1e.2 ⟨b,hZ.ZO (a5u _) (a15 _) hb,rfl⟩
 fresh:=hR.ext.fresh
 FH:=hR.ext.size
 os:=hR.ext.os
 output:=hR.ext.output
 tape:=hR.ext.tape
 marks:=fun d hd=>by obtain⟨k,r,h1,h2,h3,h4,h5⟩:=hR.marks d hd;exact⟨k,r,h1,h2,h3,hZ.mark h4,h5⟩
 apart:=hR.apart
theorem Wk.lt{k:Key}{j:Nat}(h:Wk ops S I k j):j<ops.size:=by obtain⟨o,ho,_⟩:=h;exact(a2t.1 ho).1
theorem a1u(hZ:iZ P call site nt ops M0 h0 w0 S I){D:Nat->Prop}{M:Mp}{a:Act}{w:LI4}(h:Inv nt ops M0 h0 w0 S I D M a w)(hD:∀j,j<ops.size->D j):Rel M0 h0 w0 nt M (S ops.size) a w:=by
 have key:∀k l,M k=some l->∃b,(S ops.size).get k=some b∧qA M.h w b l∧(wr b=true->∀k' l',k≠k'->M k'=some l'->∀c∈aK l,c∉aK l'):=by intro k l hk;obtain⟨τ,ht,hg,b,h1,h2,h3⟩:=h.mem k l hk;refine⟨b,?_,h2.mono a1t.h fun _ _=>rfl,h3⟩;rw[hZ.const ht (a15 _) fun x h4 h5 hw=>?_,h1];have:=hg.1 x (hD x h5) hw;omega
 refine⟨⟨?_,?_,h.inb⟩,?_,?_,h.size,fun d hd=>by obtain⟨k,r,h1,h2,h3,h4,h5⟩:=h.marks d hd;exact⟨k,r,h1,h2,h3,h4 _ (a15 _),h5⟩,h.apart⟩
 .intro k l hk _;obtain⟨b,h1,h2,_⟩:=key k l hk;exact⟨b,h1,h2⟩
 .intro k k' l l' b iM hk pG _ hb hw;obtain⟨b',h1,_,h3⟩:=key k l hk;rw[hb]at h1;cases h1;exact h3 hw k' l' iM pG
 .obtain⟨M',a',w',Gl⟩:=hZ.ok ops.size (a15 _);exact⟨h.Jl,h.frame,Gl.ext.oh,h.lT,h.fresh,h.FH,Gl.ext.has,Gl.ext.wsub,Gl.ext.wrote,h.os,h.output,h.tape⟩
 intro t e he;obtain⟨τ,ht,hg,h1⟩:=h.slot t;rw[hZ.ZN ht (a15 _) fun x h4 h5 hw=>by have:=hg.1 x (hD x h5) hw;omega]at he;exact(h1 e he).mono a1t fun k l hk=>(dV hk).2
theorem Jz{a b:Oper}(h:CJ a b=true):∃t m k,a.op=.lookup t (.tmp m) (.tmp k) false∧b.op=.mapEntry t (.tmp m) (.tmp k)∧a.guard=none∧b.guard=none:=by
 unfold CJ at h;split at h
 .rename_i h1 h2 h3 h4;simp only[a2c,a6Z]at h;obtain⟨⟨rfl,rfl⟩,rfl⟩:=h;exact⟨_,_,_,h1,h2,h3,h4⟩
 cases h
theorem aa5(hZ:iZ P call site nt ops M0 h0 w0 S I){x:Nat}{a b:Oper}(ha:ops[x]? = some a)(h:CJ a b=true):(I x).ws=[]:=by obtain⟨t,m,k,e,_⟩:=Jz h;exact(hZ.step x a ha).w (by rw[e];rfl)
theorem Inv.conf(hZ:iZ P call site nt ops M0 h0 w0 S I){D:Nat->Prop}{M:Mp}{a:Act}{w:LI4}(h:Inv nt ops M0 h0 w0 S I D M a w){i j:Nat}{oi oj:Oper}(hi:ops[i]? = some oi)(hj:ops[j]? = some oj)
  (jL:¬D i) (hw:uZ D oi) (hc:a6f D i j):((i<j∧CJ oi oj=true)∨∀k∈(I j).ws,¬pI (I i) k)∧oj.apart ops oi=true∧oi.apart ops oj=true:=by
 have qM:∀j o,ops.toList[j]? = some o->D j->uZ D o:=fun j o ho=>h.closed j o (by simpa using ho);have xk:ops.toList[i]? = some oi:=by simpa using hi
 have Ey:ops.toList[j]? = some oj:=by simpa using hj
 have li:i<ops.toList.length:=(a0n.1 xk).1;have lj:j<ops.toList.length:=(a0n.1 Ey).1;rcases hc with⟨aQ,hd⟩|⟨aQ,hd⟩
 .have hp:=zy aQ li fun Dx=>hd (V8 qM i oi xk hw j Dx);have h1:=hZ.calm j i oj oi hp hj hi;have h2:=Bf hZ.stat hp Ey xk;refine⟨.inr ?_,h2.1,h2.2⟩;rcases h1 with h1|h1
  .rw[aa5 hZ hj h1];intro k hk;cases hk
  .exact h1.1
 .have hp:=zy aQ lj fun Dx=>jL (V8 qM j oj Ey (qM j oj Ey hd) i Dx);have h1:=hZ.calm i j oi oj hp hi hj;have h2:=Bf hZ.stat hp xk Ey;exact⟨h1.imp (fun h=>⟨aQ,h⟩) fun h=>h.2,h2.2,h2.1⟩
end
section
variable {P:LI1} {call:bn} {site:Nat->Bool} {nt:Nat} {ops:Array Oper} {M0:Mp} {h0:List HB} {w0:LI4} {S:Nat->St} {I:Nat->ni}
variable {D:Nat->Prop} {M:Mp} {a:Act} {w:LI4} {i:Nat} {oi:Oper}
theorem Inv.Bg(hZ:iZ P call site nt ops M0 h0 w0 S I)(h:Inv nt ops M0 h0 w0 S I D M a w){j:Nat}{o:Oper}(hj:ops[j]? = some o)(hd:¬D j){k:Key}(h1:(S j).get k=none)(h2:((S (j+1)).get k).isSome=true):M k=none:=by
 cases hm:M k with
 |none=>rfl
 |some l=>
  obtain⟨τ,ht,hg,b,h3,_⟩:=h.mem k l hm;have hlj:j<ops.size:=(a2t.1 hj).1;by_cases hle:τ<=j
  .have:=hZ.mono hle (by omega) (k:=k) (by simp[h3]);simp[h1]at this
  exact absurd (hg.2.1 j (by omega) ⟨o,hj,.inr ⟨h1,h2⟩⟩) hd
theorem Inv.a6g(hZ:iZ P call site nt ops M0 h0 w0 S I)(h:Inv nt ops M0 h0 w0 S I D M a w)(hi:ops[i]? = some oi)(jL:¬D i)(hw:uZ D oi)(hns:∀o,CJ oi o=false){k:Key}{l:Lc}(hk:M k=some l)
  (hs:((S i).get k).isSome=true) (ht:pI (I i) k):∀j,Wk ops S I k j->¬a6f D i j:=by
 intro j hwk hc;have hlj:=hwk.lt;obtain⟨oj,hj,h1|⟨h1,h2⟩⟩:=hwk
 .exact(h.conf hZ hi hj jL hw hc).1.resolve_left (fun h=>by have:=hns oj;rw[h.2]at this;cases this) k h1 ht
 .rcases hc with⟨aQ,hd⟩|⟨aQ,hd⟩
  .have:=h.Bg hZ hj hd h1 h2;rw[hk]at this;cases this
  .have:=hZ.mono (k:=k) (a9U aQ) (by omega) hs;simp[h1]at this
theorem Inv.cur(hZ:iZ P call site nt ops M0 h0 w0 S I)(h:Inv nt ops M0 h0 w0 S I D M a w)(hi:ops[i]? = some oi)(jL:¬D i)(hw:uZ D oi)(hns:∀o,CJ oi o=false){k:Key}{l:Lc}(hk:M k=some l)
  (hs:((S i).get k).isSome=true) (ht:pI (I i) k):∃b,(S i).get k=some b∧qA (pK M (S i).get).h w b l∧(wr b=true->∀k' l',k≠k'->M k'=some l'->∀c∈aK l,c∉aK l'):=by
 have hli:i<ops.size:=(a2t.1 hi).1;obtain⟨τ,hτ,hg,b,h1,h2,h3⟩:=h.mem k l hk;obtain⟨g1,g2⟩:=hg.le jL (h.a6g hZ hi jL hw hns hk hs ht);refine⟨b,?_,h2.mono (zQ (.refl M) fun k' pG=>hZ.mono g1 (by omega) pG).h fun _ _=>rfl,h3⟩;rw[hZ.const g1 (by omega) g2,h1]
theorem Inv.Nh(hZ:iZ P call site nt ops M0 h0 w0 S I)(h:Inv nt ops M0 h0 w0 S I D M a w)(hi:ops[i]? = some oi)(jL:¬D i)(hw:uZ D oi){t:Nat}(ht:t∈oi.looksAt ops){e:EV}
  (he:dR t (S i).env=some e):ER (pK M (S i).get) e (a.tmps.getD t Go.undef):=by
 have hli:i<ops.size:=(a2t.1 hi).1;obtain⟨τ,hτ,hg,h1⟩:=h.slot t;obtain⟨g1,g2⟩:=hg.le jL fun j hwt hc=>by obtain⟨oj,hj,hd⟩:=hwt;exact(Oper.apart_spec (h.conf hZ hi hj jL hw hc).2.1).1 t hd ht
 rw[hZ.ZN g1 (by omega) g2]at he;exact(h1 e he).mono (zQ (.refl M) fun k' pG=>hZ.mono g1 (by omega) pG) fun k l hk=>by obtain⟨x1,x2⟩:=dV hk;exact rV (hZ.mono g1 (by omega) x1) x2
def ng(M' M:Mp):Mp:=fun k=>match M' k with
 |some l=>some l
 |none=>M k
theorem a3D(hC:iO P call)(hZ:iZ P call site nt ops M0 h0 w0 S I)(h:Inv nt ops M0 h0 w0 S I D M a w)(hi:ops[i]? = some oi)(jL:¬D i)(hw:uZ D oi)(hns:∀o,CJ oi o=false)
  {r:Option Nat} {n:Nat} {Q:Exit->Act->LI4->Prop} {K:Act->LI4->Prop} (hK:∀M' a' w',Inv nt ops M0 h0 w0 S I (fun j=>D j∨j=i) M' a' w'->a'.defers=a.defers->K a' w') :
  wpOpIn (oG r) n P ops Q i K a w:=by
 have hli:i<ops.size:=(a2t.1 hi).1;have hS:=hZ.step i oi hi;have hV:Valid (pK M (S i).get) (pI (I i)) (S i).get w:=by
  refine⟨fun k l hk ht=>?_,fun k k' l l' b iM hk pG ht hb Zj=>?_,fun k l hk=>h.inb k l (dV hk).2⟩
  .obtain⟨x1,x2⟩:=dV hk;obtain⟨b,h1,h2,_⟩:=h.cur hZ hi jL hw hns x2 x1 ht;exact⟨b,h1,h2⟩
  .obtain⟨x1,x2⟩:=dV hk;obtain⟨b',h1,_,h3⟩:=h.cur hZ hi jL hw hns x2 x1 ht;rw[hb]at h1;cases h1;exact h3 Zj k' l' iM (dV pG).2
 have zI:pK M (S i).get (.h (S i).heap.length)=none:=by simp[pK,St.get]
 have hnl:pK M (S i).get (.l (S i).loc.length)=none:=by simp[pK,St.get]
 have zM:∀j l,pK M (S i).get (.l j)=some l->∀k' l',Key.l j≠k'->pK M (S i).get k'=some l'->∀c∈aK l,c∉aK l':=by intro j l hj k' l' iM pG;obtain⟨τ,_,_,b,h1,_,h3⟩:=h.mem _ _ (dV hj).2;refine h3 ?_ k' l' iM (dV pG).2;simp only[St.get,a0A]at h1;obtain⟨_,_,rfl⟩:=h1;rfl
 have hE:Ht (pK M (S i).get) (S i).env a oi.op.operands:=by
  intro x hx e he;cases x with
  |tmp t=>exact h.Nh hZ hi jL hw (a5O _ (a6v.2 ⟨.tmp t,by simpa using hx,rfl⟩)) he
  |const v=>
   simp only[Jk,a0A]at he;obtain⟨t,h1,rfl⟩:=he;exact .val (.zl h1)
  |func f=>
   simp only[Jk,a0k]at he;subst he;exact .val (VR.fn (xs:=[]) (ys:=[]) rfl (by simp) rfl (by simp))
  |global g=>simp[Jk]at he
 have hG:Nb (pK M (S i).get) (S i).env a.tmps ops oi:=by intro j want d hg hd e he;exact h.Nh hZ hi jL hw (abS _ (by simp[hg,hd])) he
 refine(a1q hC hS hV zI hnl zM hE hG fun _ ht _=>ht).2 r n Q i K hi fun x w' wS=>?_;obtain⟨v,M',he,hp⟩:=wS;have hX:=hp.ext;have F1:∀k l,M' k=some l->((S (i+1)).get k).isSome=true:=by
  intro k l hk;cases hc:(S (i+1)).get k with
  |some b=>rfl
  |none=>
   have hn:k∉(I i).ws:=fun Dx=>by have:=hX.has k (hX.wsub k Dx);simp[hc]at this
   have:=hX.lT k (.inr hc) hn;rw[hk]at this;have:=hX.has k (dV this.symm).1;simp[hc]at this
 have F5:∀k l l',M k=some l->M' k=some l'->((S i).get k).isSome=true:=by
  intro k l l' hk pG;cases hc:(S i).get k with
  |some b=>rfl
  |none=>
   have:=h.Bg hZ hi jL hc (F1 k l' pG);rw[hk]at this;cases this
 have F4:tV M (ng M' M):=by
  intro k l hk;cases hm:M' k with
  |none=>exact⟨l,by simp[ng,hm,hk],.refl l⟩
  |some l'=>
   obtain⟨l'',h1,h2⟩:=hX.Jl k l (rV (F5 k l l' hk hm) hk);exact⟨l'',by simp[ng,h1],h2⟩
 have F2:∀k,¬Wk ops S I k i->ng M' M k=M k:=by
  intro k hn;cases hm:M' k with
  |none=>simp[ng,hm]
  |some l'=>
   cases hc:(S i).get k with
   |none=>
    exact absurd ⟨oi,hi,.inr ⟨hc,F1 k l' hm⟩⟩ hn
   |some b=>
    have h1:=hX.lT k (.inl (by simp[hc])) fun Dx=>hn ⟨oi,hi,.inl Dx⟩;rw[hm]at h1;simp only[ng,hm,(dV h1.symm).2]
 have F6:tV M' (pK (ng M' M) (S (i+1)).get):=fun k l hk=>⟨l,rV (F1 k l hk) (by simp[ng,hk]),.refl l⟩;have F7:∀k l,M (.l k)=some l->ng M' M (.l k)=some l:=by
  intro k l hk;cases hm:M' (.l k)with
  |none=>simp[ng,hm,hk]
  |some l'=>
   have:=hp.loc k l (rV (F5 _ l l' hk hm) hk);simp[ng,this]
 have a6i:∀k∈(I i).ws,∀l,M k=some l->∀k' l',k≠k'->M k'=some l'->∀c∈aK l,c∉aK l':=by intro k hk l hl;have hs:=hX.wsub k hk;obtain⟨b,h1,_,h3⟩:=h.cur hZ hi jL hw hns hl hs (.inr (.inl hk));exact h3 ((hX.wrote k hk).2 b h1)
 have hWM:∀k l,Wk ops S I k i->ng M' M k=some l->M' k=some l∧(pI (I i) k∨((S i).get k=none∧((S (i+1)).get k).isSome=true)):=by
  intro k l hW hk;obtain⟨o,ho,h1|⟨h1,h2⟩⟩:=hW
  .obtain⟨l0,rG⟩:=a5N.1 (hX.wrote k h1).1;obtain⟨l',h2,_⟩:=hX.Jl k l0 rG;simp only[ng,h2]at hk;exact⟨h2.trans hk,.inl (.inr (.inl h1))⟩
  .have:=h.Bg hZ hi jL h1 h2;cases hm:M' k with
   |none=>simp[ng,hm,this]at hk
   |some l'=>simp only[ng,hm]at hk;exact⟨hk,.inr ⟨h1,h2⟩⟩
 have ap9:∀k,Wk ops S I k i->∀j,Wk ops S I k j->¬a6f D i j:=by
  intro k hW;obtain⟨o,ho,h1|⟨h1,h2⟩⟩:=hW
  .obtain⟨l0,rG⟩:=a5N.1 (hX.wrote k h1).1;exact h.a6g hZ hi jL hw hns (dV rG).2 (hX.wsub k h1) (.inr (.inl h1))
  .intro j hwk hc;have hlj:=hwk.lt;obtain⟨oj,hj,g1|⟨g1,g2⟩⟩:=hwk
   .have hsj:=hZ.wsub hj g1;rcases hc with⟨aQ,hd⟩|⟨aQ,hd⟩
    .have:=hZ.mono (k:=k) (a9U aQ) (by omega) hsj;simp[h1]at this
    .have:=h.SX j oj k hj hd g1;rw[h.Bg hZ hi jL h1 h2]at this;cases this
   .rcases hc with⟨aQ,hd⟩|⟨aQ,hd⟩
    .have:=hZ.mono (k:=k) (i:=j+1) (j:=i) aQ (by omega) g2;simp[h1]at this
    .have:=hZ.mono (k:=k) (i:=i+1) (j:=j) aQ (by omega) h2;simp[g1]at this
 refine hK (ng M' M) _ w' ?_ jZ;refine
  {closed:=fun j o ho hd e hm hb=>?_
   size:=by rw[HY];exact h.size
   mem:=fun k l hk=>?_
   inb:=fun k l hk c hc=>?_
   slot:=fun t=>?_
   SX:=fun j o k ho hd hk=>?_
   Jl:=h.Jl.trans F4
   frame:=fun c hc hf=>?_
   lT:=fun k hk hn=>?_
   fresh:=fun k l hk c hc aQ=>?_
   FH:=a5M h.FH hX.size
   os:=hX.os.trans h.os
   output:=hX.output.trans h.output
   tape:=hX.tape.trans h.tape
   marks:=fun d hd=>by
    rw[jZ]at hd;obtain⟨k,r,h1,h2,⟨o,h3⟩,h4,h5⟩:=h.marks d hd;obtain⟨l',g1,g2⟩:=F4 _ _ h3;obtain⟨o',hl⟩:∃o',l'=.obj r o':=by
     cases l' with
     |cells ls=>exact g2.elim
     |obj r' o'=>cases g2.1;exact⟨o',rfl⟩
    refine⟨k,r,h1,h2,⟨o',by rw[g1,hl]⟩,h4,?_⟩;rw[hX.frame r (a2t.1 h5).1 fun k' pG l0 rG hc=>?_,h5];have iM:k'≠.h k:=fun e=>by have:=(hX.wrote _ pG).2 _ (e▸h4 i (by omega));cases this
    exact a6i k' pG l0 (dV rG).2 _ _ iM h3 r hc (by simp[aK])
   apart:=by rw[jZ];exact h.apart }
 .rcases hd with hd|rfl
  .exact .inl (h.closed j o ho hd e hm hb)
  .rw[hi]at ho;cases ho;exact .inl (hw e hm hb)
 .by_cases hW:Wk ops S I k i
  .obtain⟨hm,hD⟩:=hWM k l hW hk;obtain⟨b,h1,h2⟩:=hp.val.ok k l hm hD;refine⟨i+1,by omega,Good.next hW (ap9 k hW),b,h1,h2.mono F6.h fun _ _=>rfl,fun Zj k' l' iM pG=>?_⟩;cases hm':M' k' with
   |some l''=>
    simp only[ng,hm']at pG;cases pG;exact hp.val.own k k' l l' b iM hm hm' hD h1 Zj
   |none=>
    simp only[ng,hm']at pG;intro c hc Rq;obtain⟨l0,g1,g2⟩:=hX.fresh k l hm c hc (h.inb k' l' pG c Rq);obtain⟨g3,g4⟩:=dV g1;obtain⟨o,ho,g5|⟨g5,_⟩⟩:=hW
    .exact a6i k g5 l0 g4 k' l' iM pG c g2 Rq
    .simp[g5]at g3
  .rw[F2 k hW]at hk;obtain⟨τ,hτ,hg,b,h1,h2,h3⟩:=h.mem k l hk;refine⟨τ,hτ,hg.other hW,b,h1,h2.mono (zQ F4 fun _ hs=>hs).h fun c hc=>?_,fun Zj k' l' iM pG=>?_⟩
   .refine hX.frame c (h.inb k l hk c hc) fun k'' aj0 l'' apa apb=>?_;have iM:k''≠k:=fun e=>hW ⟨oi,hi,.inl (e▸aj0)⟩;exact a6i k'' aj0 l'' (dV apa).2 k l iM hk c apb hc
   .cases hm':M' k' with
    |some l''=>
     simp only[ng,hm']at pG;cases pG;intro c hc Rq;obtain⟨l0,g1,g2⟩:=hX.fresh k' l' hm' c Rq (h.inb k l hk c hc);exact h3 Zj k' l0 iM (dV g1).2 c hc g2
    |none=>
     simp only[ng,hm']at pG;exact h3 Zj k' l' iM pG
 .cases hm:M' k with
  |some l'=>
   simp only[ng,hm]at hk;cases hk;exact hp.val.inb k l hm c hc
  |none=>
   simp only[ng,hm]at hk;exact a9T (h.inb k l hk c hc) hX.size
 .by_cases hT:oi.dst=some t
  .refine⟨i+1,by omega,Good.next (W:=Wt ops t) ⟨oi,hi,hT⟩ (fun j hwt hc=>?_),fun e hl=>?_⟩
   .obtain⟨oj,hj,hd⟩:=hwt;exact(Oper.apart_spec (h.conf hZ hi hj jL hw hc).2.2).2.1 t hT hd
   .rw[he,zN,a0I hT]at hl;cases hl;have h1:=hS.dst hT;have h2:=h.size;rw[zO,a0I ⟨hT,by omega⟩];exact hp.er.mono F6 fun k l hk=>rV (F1 _ l hk) (by simp[ng,hk])
  .obtain⟨τ,hτ,hg,h1⟩:=h.slot t;refine⟨τ,hτ,hg.other fun⟨o,ho,hd⟩=>?_,fun e hl=>?_⟩
   .rw[hi]at ho;cases ho;exact hT hd
   .rw[zO,a0F fun hh=>hT hh.1];refine(h1 e hl).mono (zQ F4 fun _ hs=>hs) fun k l hk=>?_;obtain⟨g1,g2⟩:=dV hk;exact rV g1 (F7 k l g2)
 .have hM:∀k,(M k).isSome=true->(ng M' M k).isSome=true:=by intro k hk;obtain⟨l,hl⟩:=a5N.1 hk;obtain⟨l',h1,_⟩:=F4 k l hl;simp[h1]
  rcases hd with hd|rfl
  .exact hM k (h.SX j o k ho hd hk)
  .obtain⟨l0,rG⟩:=a5N.1 (hX.wrote k hk).1;exact hM k (by simp[(dV rG).2])
 .rw[<-h.frame c hc hf];refine hX.frame c (a9T hc h.FH) fun k hk l hl qM=>?_;obtain⟨l0,h1,h2⟩:=h.fresh k l (dV hl).2 c qM hc;exact hf k (hZ.acO hi hk (hZ.base.val.has h1)) l0 h1 h2
 .rw[<-h.lT k hk hn];refine F2 k fun hW=>?_;obtain⟨o,ho,h1|⟨h1,h2⟩⟩:=hW
  .rcases hk with hk|hk
   .exact hn (hZ.acO hi h1 hk)
   .have:=hZ.mono (k:=k) (i:=i) (a9U hli) (a15 _) (hX.wsub k h1);simp[hk]at this
  .rcases hk with hk|hk
   .have:=hZ.old (a9U hli) hk;simp[h1]at this
   .have:=hZ.mono (k:=k) (i:=i+1) hli (a15 _) h2;simp[hk]at this
 .cases hm:M' k with
  |some l'=>
   simp only[ng,hm]at hk;cases hk;obtain⟨l0,h1,h2⟩:=hX.fresh k l hm c hc (a9T aQ h.FH);exact h.fresh k l0 (dV h1).2 c h2 aQ
  |none=>
   simp only[ng,hm]at hk;exact h.fresh k l hk c hc aQ
def UN(listed:Array Bool):Nat->Nat
 | 0=>0
 |k+1=>UN listed k+if listed.getD k false=true then 0 else 1
theorem a3F{t:LI2}{m k v:TV}{e:EV}{s s1:St}{inf:ni}(he:Dl P t s m k=some (e,s1,inf))(hl:iD P t s.heap m k false=some v):iD P t s1.heap m k false=some v∧∃a x,v=.int a x:=by
 unfold Dl at he;split at he
 .split at he
  .rename_i hk;cases he;unfold a18 at hk;rw[hl]at hk;split at hk
   .rename_i h1 h2;cases h1;simp only[a2c,a1n,a6Z]at hk;obtain⟨rfl,rfl⟩:=hk;exact⟨h2,_,_,rfl⟩
   cases hk
  cases he
 cases he
theorem V9{t:LI2}{r:Nat}{k:TV}{h h':List HB}(e:h'[r]? = h[r]?):iD P t h' (.map r) k false=iD P t h (.map r) k false:=by unfold iD;simp only[e]
theorem Inv.a1v(hZ:iZ P call site nt ops M0 h0 w0 S I)(h:Inv nt ops M0 h0 w0 S I D M a w)(hi:ops[i]? = some oi)(jL:¬D i)(hw:uZ D oi){x:Nat}{ox:Oper}(hx:ops[x]? = some ox)(hix:i<x)(hdx:D x){t:Nat}
  (ht:t∈oi.looksAt ops) (ht2:t∈ox.looksAt ops):dR t (S x).env=dR t (S i).env:=by
 have hlx:x<ops.size:=(a2t.1 hx).1;refine hZ.ZN (a9U hix) (a9U hlx) fun y h1 h2 hwt=>?_;obtain⟨oy,hy,hd⟩:=hwt;have Gf:ops.toList[x]? = some ox:=by simpa using hx
 have hy':ops.toList[y]? = some oy:=by simpa using hy
 have qM:∀j o,ops.toList[j]? = some o->D j->uZ D o:=fun j o ho=>h.closed j o (by simpa using ho);by_cases Dx:y∈Xi ops.toList x
 .have hdy:=V8 qM x ox Gf (qM x ox Gf hdx) y Dx;have iM:i<y:=by
   rcases a5h i y with h3|h3
   .exact h3
   .have:y=i:=(by omega);subst this;exact absurd hdy jL
  exact(Oper.apart_spec (h.conf hZ hi hy jL hw (.inr ⟨iM,hdy⟩)).2.1).1 t hd ht
 .have hp:=zy h2 (by simpa using hlx) Dx;have:=(Bf hZ.stat hp hy' Gf).1;rw[show ops.toList.toArray=ops by simp]at this;exact(Oper.apart_spec this).1 t hd ht2
theorem Nj{t:LI2}{m k:Nat}(jY:oi.op=.lookup t (.tmp m) (.tmp k) false):m∈oi.looksAt ops∧k∈oi.looksAt ops:=by
 constructor
 .exact a5O _ (a6v.2 ⟨.tmp m,by simp[jY,Op.operands],rfl⟩)
 exact a5O _ (a6v.2 ⟨.tmp k,by simp[jY,Op.operands],rfl⟩)
theorem Xl{ox:Oper}{t:LI2}{m k:Nat}(jY:ox.op=.mapEntry t (.tmp m) (.tmp k)):m∈ox.looksAt ops∧k∈ox.looksAt ops:=by
 constructor
 .exact a5O _ (a6v.2 ⟨.tmp m,by simp[jY,Op.operands],rfl⟩)
 exact a5O _ (a6v.2 ⟨.tmp k,by simp[jY,Op.operands],rfl⟩)
theorem a1w{env:List (Nat×EV)}{m:Nat}{v:TV}(h:rH env (.tmp m)=some v):dR m env=some (.val v):=by
 unfold rH at h;split at h
 .rename_i x hx;cases h;exact hx
 cases h
theorem a6j{env env':List (Nat×EV)}{m:Nat}(h:dR m env=dR m env'):rH env (.tmp m)=rH env' (.tmp m):=by unfold rH Jk;simp only[h]
theorem Inv.chain(hZ:iZ P call site nt ops M0 h0 w0 S I)(h:Inv nt ops M0 h0 w0 S I D M a w)(hi:ops[i]? = some oi)(jL:¬D i)(hw:uZ D oi){t:LI2}{m k r τ x:Nat}{kv z:TV}{ox:Oper}(jY:oi.op=.lookup t (.tmp m) (.tmp k) false)
  (e1:rH (S i).env (.tmp m)=some (.map r)) (e2:rH (S i).env (.tmp k)=some kv) (hs:((S i).get (.h r)).isSome=true) (hg:Good (Wk ops S I (.h r)) D τ) (hwk:Wk ops S I (.h r) x) (hix:i<=x) (hxτ:x<τ) (OD:x<ops.size) (a6k:pI (I i) (.h r))
  (ih:iD P t (S x).heap (.map r) kv false=some z) (hx:ops[x]? = some ox):iD P t (S (x+1)).heap (.map r) kv false=some z∧∃a b,z=.int a b:=by
 have hdx:=hg.2.1 x hxτ hwk;have iM:i<x:=by
  rcases a5h i x with h3|h3
  .exact h3
  .have:x=i:=(by omega);subst this;exact absurd hdx jL
 obtain⟨oy,hy,g1|⟨g1,_⟩⟩:=hwk
 .rw[hx]at hy;cases hy;rcases(h.conf hZ hi hx jL hw (.inr ⟨iM,hdx⟩)).1 with⟨_,h6⟩|h6
  .obtain⟨t',m',k',p1,p2,p3,p4⟩:=Jz h6;rw[jY]at p1;cases p1;have hm:=h.a1v hZ hi jL hw hx iM hdx (Nj (ops:=ops) jY).1 (Xl (ops:=ops) p2).1;have hk:=h.a1v hZ hi jL hw hx iM hdx (Nj (ops:=ops) jY).2 (Xl (ops:=ops) p2).2;obtain⟨_,⟨_,v,s1,q1,q2⟩|⟨q1,_⟩⟩:=hZ.step x ox hx
   .simp only[qp,p2,a6j hm,a6j hk,e1,e2]at q1;have:=a3F q1 ih;rw[q2];have e5:(St.put { s1 with ws:=kN h0.length (I x).ws (S x).ws } ox.dst v).heap=s1.heap:=by cases ox.dst<;>rfl
    rw[e5];exact this
   .unfold Dn at q1;rw[p4]at q1;cases q1
  .exact absurd a6k (h6 _ g1)
 .have:=hZ.mono hix (by omega) hs;rw[g1]at this;cases this
theorem Inv.look(hZ:iZ P call site nt ops M0 h0 w0 S I)(h:Inv nt ops M0 h0 w0 S I D M a w)(hi:ops[i]? = some oi)(jL:¬D i)(hw:uZ D oi){t:LI2}{m k:Nat}(jY:oi.op=.lookup t (.tmp m) (.tmp k) false)
  {mv kv z:TV} (e1:rH (S i).env (.tmp m)=some mv) (e2:rH (S i).env (.tmp k)=some kv) (e3:iD P t (S i).heap mv kv false=some z) (e4:∀r,mv=.map r->I i=iE [.h r]) :
  ∃x,(Instr.lookup t (a.tmps.getD m Go.undef) (a.tmps.getD k Go.undef) false).run P w=.ok x w∧VR (pK M (S i).get).h z x:=by
 have hli:i<ops.size:=(a2t.1 hi).1;have am:VR (pK M (S i).get).h mv (a.tmps.getD m Go.undef):=by have:=h.Nh hZ hi jL hw (Nj (ops:=ops) jY).1 (a1w e1);cases this;assumption
 have ak:VR (pK M (S i).get).h kv (a.tmps.getD k Go.undef):=by have:=h.Nh hZ hi jL hw (Nj (ops:=ops) jY).2 (a1w e2);cases this;assumption
 have plain:(∀r,mv≠.map r)->∃x,(Instr.lookup t (a.tmps.getD m Go.undef) (a.tmps.getD k Go.undef) false).run P w=.ok x w∧VR (pK M (S i).get).h z x:=fun hm=>by
  have hV:Valid (pK M (S i).get) (fun _=>False) (S i).get w:=⟨fun _ _ _ h=>h.elim,fun _ _ _ _ _ _ _ _ h=>h.elim,fun k l hk=>h.inb k l (dV hk).2⟩;obtain⟨x,g1,g2⟩:=EF hV e3 am ak fun j hj=>by
   split at hj
   .exact absurd rfl (hm _)
   .cases hj
  exact⟨x,g2,g1⟩
 by_cases a5P:∃r,mv=.map r
 case neg=>exact plain fun r e=>a5P ⟨r,e⟩
 obtain⟨r,rfl⟩:=a5P;have e4:I i=iE [.h r]:=e4 r rfl;have a6k:pI (I i) (.h r):=by rw[e4];exact .inl (by simp[iE])
 generalize hX:a.tmps.getD m Go.undef=X at am ⊢;cases am with
 |map hr=>
  rename_i r1 o;have hr:pK M (S i).get (.h r)=some (.obj r1 o):=hr;obtain⟨hs,hM⟩:=dV hr;obtain⟨τ,hτ,hg,b,h1,h2,h3⟩:=h.mem _ _ hM;have own:∀{N:Mp},(∀k l,N k=some l->M k=some l)->∀(C:Ct) (bb:HB),C (.h r)=some bb->(wr bb=true->wr b=true)->qA N.h w bb (.obj r1 o)->N (.h r)=some (.obj r1 o)->Valid N (fun k=>k=.h r) C w:=fun{N} hN C bb hb Zj Sl hNr=>
   ⟨fun k l hk e=>by subst e;rw[hNr]at hk;cases hk;exact⟨bb,hb,Sl⟩,fun k k' l l' b' iM hk pG e rC hwb=>by subst e;rw[hNr]at hk;cases hk;rw[hb]at rC;cases rC;exact h3 (Zj hwb) k' l' iM (hN _ _ pG),fun k l hk=>h.inb k l (hN _ _ hk)⟩
  by_cases hτi:τ<=i
  .have hb:(S i).get (.h r)=some b:=by
    rw[hZ.const hτi (a9U hli) fun x h4 h5 hwk=>?_,h1];obtain⟨ox,hx,g1|⟨g1,g2⟩⟩:=hwk
    .have hnx:¬D x:=fun hd=>by have:=hg.1 x hd ⟨ox,hx,.inl g1⟩;omega
     rcases(h.conf hZ hi hx jL hw (.inl ⟨h5,hnx⟩)).1 with⟨h6,_⟩|h6
     .omega
     .exact h6 _ g1 a6k
    .have:=hZ.mono (k:=.h r) h4 (by omega) (by rw[h1];rfl);rw[g1]at this;cases this
   have hV:=own (N:=pK M (S i).get) (fun k l hk=>(dV hk).2) (S i).get b hb id (h2.mono (zQ (.refl M) fun k' pG=>hZ.mono hτi (by omega) pG).h fun _ _=>rfl) hr;obtain⟨x,g1,g2⟩:=EF hV e3 (.map hr) ak fun j hj=>(by simpa using hj);exact⟨x,g2,g1⟩
  .have chain:∀x,i<=x->x<=τ->iD P t (S x).heap (.map r) kv false=some z:=by
    intro x hix
    induction hix with
    |refl=>exact fun _=>e3
    |step hle ih=>
     rename_i x;intro hxτ;have hxτ:x<τ:=hxτ;have ih:=ih (by omega);have hx:=a4w (xs:=ops) (i:=x) (by omega);by_cases hwk:Wk ops S I (.h r) x
     .obtain⟨l1,l2⟩:=h.chain hZ hi jL hw jY e1 e2 hs hg hwk hle hxτ (by omega) a6k ih hx;exact l1
     .rw[V9 (h:=(S x).heap) (hZ.oh hx hwk)];exact ih
   obtain⟨a1,a2,hz⟩:∃a1 a2,z=.int a1 a2:=by
    rcases hg.2.2 with h4|h4
    .omega
    .have hx:=a4w (xs:=ops) (i:=τ-1) (by omega);exact(h.chain hZ hi jL hw jY e1 e2 hs hg h4 (by omega) (by omega) (by omega) a6k (chain (τ-1) (by omega) (by omega)) hx).2
   have le:tV (pK M (S i).get) (pK M (S τ).get):=zQ (.refl M) fun k' pG=>hZ.mono (by omega) hτ pG;have vZ:pK M (S τ).get (.h r)=some (.obj r1 o):=rV (by rw[h1];rfl) hM;have hV:=own (N:=pK M (S τ).get) (fun k l hk=>(dV hk).2) (S τ).get b h1 id h2 vZ;obtain⟨x,g1,g2⟩:=EF hV (chain τ (by omega) (a15 _)) (.map vZ) (ak.mono le.h) fun j hj=>(by simpa using hj);subst hz;refine⟨x,g2,?_⟩;cases g1;exact .int _ _
 |_=>exact absurd rfl ‹_›
theorem a6l(hC:iO P call)(hZ:iZ P call site nt ops M0 h0 w0 S I)(h:Inv nt ops M0 h0 w0 S I D M a w)(hi:ops[i]? = some oi)(jL:¬D i)(hw:uZ D oi)
  {r:Option Nat} {n:Nat} {Q:Exit->Act->LI4->Prop} {K:Act->LI4->Prop} (hK:∀M' a' w',Inv nt ops M0 h0 w0 S I (fun j=>D j∨j=i) M' a' w'->a'.defers=a.defers->K a' w') :
  wpOpIn (oG r) n P ops Q i K a w:=by
 by_cases hl:∃t m k,oi.op=.lookup t (.tmp m) (.tmp k) false∧oi.guard=none
 case neg=>
  refine a3D hC hZ h hi jL hw (fun o=>?_) hK;cases e:CJ oi o
  .rfl
  .obtain⟨t,m,k,e1,_,e3,_⟩:=Jz e;exact absurd ⟨t,m,k,e1,e3⟩ hl
 obtain⟨t,m,k,jY,hgd⟩:=hl;have hli:i<ops.size:=(a2t.1 hi).1;have hS:=hZ.step i oi hi;obtain⟨af0,⟨_,v,s1,q1,q2⟩|⟨q1,_⟩⟩:=hS
 case inr=>unfold Dn at q1;rw[hgd]at q1;cases q1
 simp only[qp,jY]at q1;split at q1
 case h_2=>cases q1
 rename_i mv kv e1 e2;simp only[a0A,a0T]at q1;obtain⟨z,e3,rfl,rfl,e4⟩:=q1;obtain⟨x,g1,g2⟩:=h.look hZ hi jL hw jY e1 e2 e3 fun r e=>by subst e;exact e4.symm
 have Zw:(I i).ws=[]:=by rw[<-e4];rfl
 have zu:(S (i+1)).get=(S i).get:=by
  funext key
  rw[q2];cases key<;>cases oi.dst<;>rfl
 have hnW:∀key,¬Wk ops S I key i:=fun key hk=>by
  obtain⟨o,_,h1|⟨h1,h2⟩⟩:=hk
  .rw[Zw]at h1;cases h1
  .rw[zu,h1]at h2;cases h2
 unfold wpOpIn;rw[hi];have hwd:Region.wanted oi (yielded ops a.tmps)=true:=by simp[Region.wanted,hgd]
 simp only[hwd,a2s];refine⟨fun f hf=>by simp[Oper.about,jY]at hf,?_⟩;have wI:(oi.semAt (oG r).round a.eval).run P w=.ok (.value x) w:=by simp only[a8W]at g1;simp[Oper.semAt,execOp,jY,Act.eval,g1]
 rw[wI,Oper.uponIn_value];refine hK M _ w ?_ jZ;refine{ h with
  closed:=fun j o ho hd e hm hb=>?_
  size:=by rw[HY];exact h.size
  mem:=fun key l hk=>?_
  slot:=fun s=>?_
  SX:=fun j o key ho hd hk=>?_
  marks:=fun d hd=>by rw[jZ]at hd;exact h.marks d hd
  apart:=by rw[jZ];exact h.apart }
 .rcases hd with hd|rfl
  .exact .inl (h.closed j o ho hd e hm hb)
  .rw[hi]at ho;cases ho;exact .inl (hw e hm hb)
 .obtain⟨τ,hτ,hg,b,h1,h2,h3⟩:=h.mem key l hk;exact⟨τ,hτ,hg.other (hnW key),b,h1,h2,h3⟩
 .by_cases hT:oi.dst=some s
  .refine⟨i+1,by omega,Good.next (W:=Wt ops s) ⟨oi,hi,hT⟩ (fun j hwt hc=>?_),fun e hl=>?_⟩
   .obtain⟨oj,hj,hd⟩:=hwt;exact(Oper.apart_spec (h.conf hZ hi hj jL hw hc).2.2).2.1 s hT hd
   .rw[q2,zN,a0I hT]at hl;cases hl;have h1:s<nt:=(hZ.step i oi hi).dst hT;have h2:=h.size;rw[zO,a0I ⟨hT,by omega⟩,zu];exact .val g2
  .obtain⟨τ,hτ,hg,h1⟩:=h.slot s;refine⟨τ,hτ,hg.other fun⟨o,ho,hd⟩=>?_,fun e hl=>?_⟩
   .rw[hi]at ho;cases ho;exact hT hd
   .rw[zO,a0F fun hh=>hT hh.1];exact h1 e hl
 .rcases hd with hd|rfl
  .exact h.SX j o key ho hd hk
  .rw[Zw]at hk;cases hk
theorem a6m(listed:Array Bool):∀k,UN listed k<=k
 | 0=>a15 _
 |k+1=>by have:=a6m listed k;simp only[UN];split<;>omega
theorem Xm{listed:Array Bool}:∀{k:Nat},UN listed k=0->∀j,j<k->listed.getD j false=true
 | 0,_,j,hj=>by omega
 |k+1,h,j,hj=>by
  simp only[UN]at h;by_cases he:j=k
  .subst he;split at h
   .assumption
   omega
  exact Xm (k:=k) (by omega) j (by omega)
theorem zS{listed:Array Bool}{i:Nat}(hi:i<listed.size)(j:Nat):(listed.setIfInBounds i true).getD j false=if j=i then true else listed.getD j false:=by
 simp only[a8W,a9I];by_cases h:i=j
 .subst h;simp[hi]
 simp[h,Ne.symm h]
theorem a1x{listed:Array Bool}{i:Nat}(hi:i<listed.size)(hn:listed.getD i false=false):∀k,UN (listed.setIfInBounds i true) k+(if i<k then 1 else 0)=UN listed k
 | 0=>by simp[UN]
 |k+1=>by
  have ih:=a1x hi hn k;simp only[UN,zS hi];by_cases he:k=i
  .subst he;simp only[a2s,hn];simp at ih ⊢;omega
  simp only[he,a3U];by_cases aQ:i<k
  .rw[a0I aQ]at ih;rw[a0I (by omega:i<k+1)];omega
  rw[a0F aQ]at ih;rw[a0F (by omega:¬i<k+1)];omega
theorem um{listed:Array Bool}(vW:listed.size=ops.size){i:Nat}:i∈Region.ready .any ops listed↔∃o,ops[i]? = some o∧listed.getD i false=false∧uZ (fun j=>listed.getD j false=true) o:=by
 simp only[Region.ready,a9n,a5f,a2c];constructor
 .rintro⟨h1,h2,h3⟩;refine⟨ops[i],a4w h1,?_,?_⟩
  .have hl:i<listed.size:=(by omega);simp only[Array.getD,hl,dite_true]at h2 ⊢;simpa using h2
  intro e he hb;rw[a4w h1]at h3;simp only[a19,a5z,acW]at h3;have:=h3 e he;simpa[hb]using this
 rintro⟨o,ho,h2,h3⟩;have h1:i<ops.size:=(a2t.1 ho).1;refine⟨h1,?_,?_⟩
 .have hl:i<listed.size:=by omega
  simp only[Array.getD,hl,dite_true]at h2 ⊢;simpa using h2
 rw[ho];simp only[a19,a5z,acW];intro e he;cases hb:Region.binds .any e with
 |false=>rfl
 |true=>simpa using h3 e he hb
theorem af2(hC:iO P call)(hZ:iZ P call site nt ops M0 h0 w0 S I){r:Option Nat}{n:Nat}{Q:Exit->Act->LI4->Prop}{ds:List Deferred}
  (hQ:∀M' a' w',Rel M0 h0 w0 nt M' (S ops.size) a' w'->a'.defers=ds->Q .normal a' w'):∀(fuel:Nat) (listed:Array Bool) (M:Mp) (a:Act) (w:LI4),listed.size=ops.size ->
  Inv nt ops M0 h0 w0 S I (fun j=>listed.getD j false=true) M a w->UN listed ops.size<=fuel->a.defers=ds->wpAnyIn (oG r) n P .any ops Q fuel listed a w:=by
 intro fuel;have Gi:∀(listed:Array Bool),listed.size=ops.size->Region.ready .any ops listed=[]->∀j,j<ops.size->listed.getD j false=true:=by
  intro listed vW hr j
  induction j using Nat.strongRecOn with
  |_ j ih=>
   intro hj;cases hd:listed.getD j false with
   |true=>rfl
   |false=>
    have:j∈Region.ready .any ops listed:=(um vW).2 ⟨ops[j],a4w hj,hd,fun e he hb=>by have aQ:=Xj hZ.stat (i:=j) (o:=ops[j]) (by simp) he hb;exact ih e.on aQ (by omega)⟩
    rw[hr]at this;cases this
 induction fuel with
 |zero=>
  intro listed M a w vW hI hu hd;have hz:=Xm (Nat.le_zero.1 hu);refine⟨?_,hQ M a w (a1u hZ hI hz) hd⟩;refine a7B.2 fun i hi=>?_;obtain⟨o,ho,h1,_⟩:=(um vW).1 hi;rw[hz i (a2t.1 ho).1]at h1;cases h1
 |succ fuel ih=>
  intro listed M a w vW hI hu hd;refine⟨fun hr=>hQ M a w (a1u hZ hI (Gi listed vW hr)) hd,fun i hi=>?_⟩;obtain⟨o,ho,h1,h2⟩:=(um vW).1 hi;have hli:i<ops.size:=(a2t.1 ho).1;refine a6l hC hZ hI ho (by simp[h1]) h2 fun M' a' w' hI' ZI=>ih _ M' a' w' (by simp[vW]) ?_ ?_ (ZI.trans hd)
  .have:(fun j=>(listed.setIfInBounds i true).getD j false=true)=fun j=>listed.getD j false=true∨j=i:=by
    funext j
    rw[zS (by omega)];by_cases he:j=i
    .simp[he]
    .simp[he]
   rw[this];exact hI'
  .have:=a1x (listed:=listed) (i:=i) (by omega) h1 ops.size;rw[a0I hli]at this;omega
theorem ZP(hC:iO P call)(hB:xK M0 h0 w0)(hm:P.follows .mixedOrders=true){r:Option Nat}{n:Nat}{Q:Exit->Act->LI4->Prop}{id:Nat}{s s':St}{is:List ni}{M:Mp}{a:Act}{w:LI4}
  (h:lS P call site h0.length nt ops ops.toList s=some (s',is)) (hs:oC ops.toList=true) (hd:CO is (nP ops.toList)=true) (hR:Rel M0 h0 w0 nt M s a w)
  (hQ:∀M' a' w',Rel M0 h0 w0 nt M' s' a' w'->a'.defers=a.defers->Q .normal a' w'):(Code.region id ops true).wpIn (oG r) n P Q a w:=by
 obtain⟨S,I,e1,e2,hZ⟩:=a6e hC hB h hR hs hd;refine wpIn_region_any hm ?_;have Gl:Rel M0 h0 w0 nt M (S 0) a { w with drawn:=w.drawn+1 }:=by rw[e1];exact⟨hR.val.of_heap rfl,hR.ext.drew rfl rfl rfl rfl,hR.env,hR.size,hR.marks,hR.apart⟩
 refine af2 hC hZ (ds:=a.defers) (fun M' a' w' hr hd=>hQ M' a' w' (by rw[e2]at hr;exact hr) hd) ops.size _ M a _ (by simp) ?_ (a6m _ _) rfl;have:(fun j=>(Array.replicate ops.size false).getD j false=true)=fun _=>False:=by
  funext j
  simp only[a8W,Array.getElem?_replicate];split<;>simp
 rw[this];exact a3B hZ Gl
end
theorem OJ{F:Fence}{n:Nat}{P:LI1}{Q:Exit->Act->LI4->Prop}{a:Act}{w:LI4}{c:Code}(h:c.wpIn F n P (Exit.noGoto Q) a w):(Code.scope c).wpIn F n P Q a w:=by
 intro b k cs hro hb hr;have h0:(lone (b.atR a (.code (.scope c)::k)) cs w).fenced P F:=fenced_calm hb hr rfl;have s0:step P (lone (b.atR a (.code (.scope c)::k)) cs w)=.next (lone (b.atR a (.code c::.inScope c::k)) cs w):=step_lone_go (by simp[stepG,stepG.exec,Frame.atR]);have s1:∀a1 w1,step P (lone (b.atR a1 (.inScope c::k)) cs w1)=.next (lone (b.atR a1 k) cs w1):=fun a1 w1=>step_lone_go (by simp[stepG,stepG.exec,Frame.atR]);obtain⟨e,a₁,w₁,hq,Xg⟩:=h b (.inScope c::k) cs hro hb hr;cases e with
 |normal=>exact⟨.normal,a₁,w₁,hq,.head h0 s0 (StepsIn.trans Xg (.one (fenced_calm hb hr rfl) (s1 _ _)))⟩
 |exit id'=>
  have hx:exitTo id' (.inScope c::k)=exitTo id' k:=by simp[exitTo]
  exact⟨.exit id',a₁,w₁,hq,fun k' hk=>.head h0 s0 (Xg.1 k' (by rw[hx];exact hk)),
   fun hr' hk=>let ⟨k₁,h1,h2⟩:=Xg.2 hr' (by rw[hx];exact hk);⟨k₁,h1,.head h0 s0 h2⟩⟩
 |goto l=>exact hq.elim
 |ret=>exact⟨_,a₁,w₁,hq,.of_steps (.one h0 s0) Xg⟩
 |panic ch=>exact⟨_,a₁,w₁,hq,.of_steps (.one h0 s0) Xg⟩
 |outgrown=>exact⟨_,a₁,w₁,hq,.of_steps (.one h0 s0) Xg⟩
def ZQ:Ex->Exit
 |.norm=>.normal
 |.exit id=>.exit id
 |.ret=>.ret
theorem Gm{t:Nat}{e:EV}{env:List (Nat×EV)}:∀{live:List Nat},dR t (pick live env)=some e->dR t env=some e
 | [],h=>by simp[pick,dR]at h
 |x::r,h=>by
  simp only[pick]at h;split at h
  .rename_i v hv;simp only[dR]at h;split at h
   .rename_i hx;subst hx;rw[hv,h]
   exact Gm h
  exact Gm h
theorem a6n{t k off:Nat}:∀{env:List (Nat×EV)},dR t env=some (.loc k off)->k<Dq env
 | [],h=>by simp[dR]at h
 |(x,v)::r,h=>by
  simp only[dR]at h;split at h
  .cases h;simp only[Dq];omega
  have:=a6n h;cases v<;>simp only[Dq]<;>omega
section
variable {M0:Mp} {h0:List HB} {w0:LI4} {nt:Nat} {M:Mp} {s:St} {a:Act} {w:LI4}
theorem Rel.pick(hR:Rel M0 h0 w0 nt M s a w)(live:List Nat):Rel M0 h0 w0 nt M { s with env:=Tw.pick live s.env } a w:=by have hg:St.get { s with env:=Tw.pick live s.env }=s.get:=getEnv s _ _;refine⟨by rw[hg];exact hR.val,by rw[hg];exact hR.ext,fun t e h=>hR.env t e (Gm h),hR.size,?_,hR.apart⟩;rw[hg];exact hR.marks
def Xn(n:Nat)(M:Mp):Mp
 |.h b=>M (.h b)
 |.l j=>if j<n then M (.l j)else none
theorem Rel.head(hB:xK M0 h0 w0)(hR:Rel M0 h0 w0 nt M s a w)(live:List Nat):Rel M0 h0 w0 nt (Xn (Dq (Tw.pick live s.env)) M) (kR live s) a w:=by
 have hR:=hR.pick live;generalize he:Tw.pick live s.env=env at hR ⊢;have hs:kR live s={ s with env:=env,loc:=s.loc.take (Dq env) }:=by simp[kR,he]
 rw[hs];have pO:∀k l,Xn (Dq env) M k=some l->M k=some l:=by
  intro k l h;cases k with
  |h b=>exact h
  |l j=>
   simp only[Xn]at h;split at h
   .exact h
   cases h
 have zu:∀k l,Xn (Dq env) M k=some l->St.get { s with env:=env,loc:=s.loc.take (Dq env) } k=St.get { s with env:=env } k:=by
  intro k l h;cases k with
  |h b=>rfl
  |l j=>
   simp only[Xn]at h;split at h
   .rename_i hj;simp[St.get,hj]
   cases h
 refine⟨⟨?_,?_,fun k l hk=>hR.val.inb k l (pO k l hk)⟩,?_,?_,hR.size,?_,hR.apart⟩
 .intro k l hk _;obtain⟨b,h1,h2⟩:=hR.val.ok k l (pO k l hk) trivial;exact⟨b,by rw[zu k l hk];exact h1,h2⟩
 .intro k k' l l' b iM hk pG _ hb hw;rw[zu k l hk]at hb;exact hR.val.own k k' l l' b iM (pO k l hk) (pO k' l' pG) trivial hb hw
 .have hX:=hR.ext;have hk:∀k,(lK h0 k).isSome=true->∃b,k=.h b:=fun k h=>let ⟨b,e,_⟩:=Dz h;⟨b,e⟩
  exact
   {Jl:=fun k l h=>by
     cases k with
     |l j=>rw[hB.loc j]at h;cases h
     |h b=>exact hX.Jl _ _ h
    frame:=hX.frame
    oh:=fun k h hn=>by obtain⟨b,rfl⟩:=hk k h;exact hX.oh _ h hn
    lT:=fun k h hn=>by
     cases k with
     |h b=>exact hX.lT (.h b) h hn
     |l j=>
      rw[hB.loc j];simp only[Xn];split
      .rename_i hj;cases hm:M (.l j)with
       |none=>rfl
       |some l=>
        have h1:=hR.val.has hm;rcases h with h|h
        .obtain⟨b,hb⟩:=hk _ h;cases hb
        .have:=zu (.l j) l (by simp[Xn,hj,hm]);rw[h]at this;rw[<-this]at h1;cases h1
      .rfl
    fresh:=fun k l h=>hX.fresh k l (pO k l h)
    size:=hX.size
    has:=fun k h=>by obtain⟨b,rfl⟩:=hk k h;exact hX.has _ h
    wsub:=hX.wsub
    wrote:=hX.wrote
    os:=hX.os
    output:=hX.output
    tape:=hX.tape }
 .intro t e h;have:=hR.env t e h;generalize a.tmps.getD t Go.undef=z at this;cases this with
  |val hv=>exact .val hv
  |undef=>exact .undef
  |loc hm hb=>
   have aQ:=a6n (env:=env) h;exact .loc (by simp[Xn,aQ,hm]) hb
  |ent hm hi hv=>exact .ent (show M _=_ from hm) hi hv
  |Fa hm hi=>exact .Fa (show M _=_ from hm) hi
 intro d hd;obtain⟨k,r,h1,h2,h3,h4,h5⟩:=hR.marks d hd;exact⟨k,r,h1,h2,h3,h4,h5⟩
theorem a1y(hV:Valid M vN s.get w)(b:HB)(o:Obj)(Sl:qA (dQ M (.h s.heap.length) (.obj w.heap.size [])).h (w.alloc o) b (.obj w.heap.size [])) :
  Valid (dQ M (.h s.heap.length) (.obj w.heap.size [])) vN (St.get { s with heap:=s.heap++[b] }) (w.alloc o) ∧
  Ext M s.get w (dQ M (.h s.heap.length) (.obj w.heap.size [])) (St.get { s with heap:=s.heap++[b] }) (w.alloc o) []∧M (.h s.heap.length)=none:=by
 have zu:s.get (.h s.heap.length)=none:=by simp[St.get]
 have zI:M (.h s.heap.length)=none:=by
  cases h:M (.h s.heap.length)with
  |none=>rfl
  |some l=>have:=hV.has h;simp[zu]at this
 have hle:tV M (dQ M (.h s.heap.length) (.obj w.heap.size [])):=nG fun l0 h0=>by rw[zI]at h0;cases h0
 have gV:∀c,c<w.heap.size->c∉aK (.obj w.heap.size [])->(w.alloc o).heap[c]? = w.heap[c]?:=fun c hc _=>xE w _ c hc;have gG:∀c∈aK (.obj w.heap.size []),(∃l0,M (.h s.heap.length)=some l0∧c∈aK l0)∨w.heap.size<=c:=fun c hc=>.inr (by simp[aK]at hc;omega);rw[kW];exact⟨hV.upd _ _ _ (fun j _=>.inl trivial) (fun l0 h0=>by rw[zI]at h0;cases h0) gV gG (by simp) Sl,
  Ext.upd _ _ _ [] (.inr ⟨zu,zI,rfl⟩) hle gV gG (by simp) rfl rfl rfl,zI⟩
theorem EG(hV:Valid M vN s.get w){k r:Nat}{q:List Nat}{b b':HB}{o':Obj}(hm:M (.h k)=some (.obj r q))(hb:s.heap[k]? = some b)(hw:wr b=true)
  (Sl:qA M.h { w with heap:=w.heap.setIfInBounds r o' } b' (.obj r q)) :
  Valid M vN (St.get { s with heap:=s.heap.set k b' }) { w with heap:=w.heap.setIfInBounds r o' } ∧
  Ext M s.get w M (St.get { s with heap:=s.heap.set k b' }) { w with heap:=w.heap.setIfInBounds r o' } [.h k]:=by
 have hg:s.get (.h k)=some b:=by simp[St.get,hb]
 have zK:=(a0n.1 hb).1;have qW:dQ M (.h k) (.obj r q)=M:=Js hm;have gV:∀c,c<w.heap.size->c∉aK (.obj r q)->(w.heap.setIfInBounds r o')[c]? = w.heap[c]?:=fun c _ hc=>by rw[a9I,a0F (by simp[aK]at hc;omega)]
 have gG:∀c∈aK (.obj r q),(∃l0,M (.h k)=some l0∧c∈aK l0)∨w.heap.size<=c:=fun c hc=>.inl ⟨_,hm,hc⟩;rw[jK s k _ zK];constructor
 .have:=hV.upd (D':=vN) (w':={ w with heap:=w.heap.setIfInBounds r o' }) (.h k) b' (.obj r q) (fun j hj=>.inl hj) (fun l0 h0=>by rw[hm]at h0;cases h0;exact⟨trivial,.refl _,fun b0 uN=>by rw[hg]at uN;cases uN;exact hw⟩) gV gG (by simp) (by rw[qW];exact Sl)
  rwa [qW]at this
 .have:=Ext.upd (M:=M) (C:=s.get) (w:=w) (w':={ w with heap:=w.heap.setIfInBounds r o' }) (.h k) b' (.obj r q) [.h k] (.inl ⟨by simp[hg],rfl,by simp[hm],fun b0 uN=>by rw[hg]at uN;cases uN;exact hw⟩) (by rw[qW];exact .refl _) gV gG (by simp) rfl rfl rfl
  rwa [qW]at this
theorem Rel.next(hB:xK M0 h0 w0)(hR:Rel M0 h0 w0 nt M s a w){M':Mp}{s':St}{w':LI4}{ks:List Key}(hV:Valid M' vN s'.get w')(hX:Ext M s.get w M' s'.get w' ks)
  (he:s'.env=s.env) (Zw:s'.ws=kN h0.length ks s.ws) (hl:∀k l,M (.l k)=some l->M' (.l k)=some l):Rel M0 h0 w0 nt M' s' a w':=by
 refine⟨hV,?_,?_,hR.size,SQ hR hX,hR.apart⟩
 .refine hR.ext.trans hX (fun k l hk=>hB.val.has hk) (fun k hk Dx=>?_) (fun k hk=>?_)
  .obtain⟨b,rfl,hb⟩:=Dz hk;rw[Zw];refine a1e.2 ⟨b,pJ.2 ?_,rfl⟩;rcases Dx with h1|h1
   .obtain⟨b',h2,h3⟩:=a1e.1 h1;cases h3;exact .inl h2
   .exact .inr ⟨h1,hb⟩
  .rw[Zw]at hk;obtain⟨b,hb,rfl⟩:=a1e.1 hk;rcases pJ.1 hb with h1|⟨h1,h2⟩
   .have:Key.h b∈s.ws.map .h:=a1e.2 ⟨b,h1,rfl⟩;exact⟨hR.ext.wsub _ this,.inl this⟩
   .exact⟨ZL h2,.inr h1⟩
 .rw[he];intro t e h;exact(hR.env t e h).mono hX.Jl hl
theorem Rel.long(hR:Rel M0 h0 w0 nt M s a w):h0.length<=s.heap.length:=by refine acX fun h=>?_;have:=hR.ext.has _ (ZL h);simp[St.get]at this
end
theorem least{J:Nat->Prop}(h:∃k,J k):∃k,J k∧∀j,J j->k<=j:=by
 obtain⟨k,hk⟩:=h
 induction k using Nat.strongRecOn with
 |_ k ih=>
  by_cases hj:∃j,j<k∧J j
  .obtain⟨j,h1,h2⟩:=hj;exact ih j h1 h2
  exact⟨k,hk,fun j h=>acX fun aQ=>hj ⟨j,aQ,h⟩⟩
def leastOf(J:Nat->Prop):Nat:=open Classical in if h:∃k,J k then Classical.choose (least h)else 0
theorem leastOf_spec{J:Nat->Prop}(h:∃k,J k):J (leastOf J)∧∀j,J j->leastOf J<=j:=by unfold leastOf;rw[dif_pos h];exact a9R (least h)
section
variable {P:LI1} {T:ru} {call:bn} {L f:Nat} {iy:Bool} {nt:Nat} {M0:Mp} {h0:List HB} {w0:LI4} {r:Option Nat}
def Va(P:LI1)(M0:Mp)(h0:List HB)(w0:LI4)(nt:Nat)(r:Option Nat)(c:Code)(s:St)(e:Ex)(s':St):Prop:=
 ∀(n:Nat) (Q:Exit->Act->LI4->Prop) (M:Mp) (a:Act) (w:LI4),Rel M0 h0 w0 nt M s a w->(∀M' a' w',Rel M0 h0 w0 nt M' s' a' w'->Q (ZQ e) a' w')->c.wpIn (oG r) n P Q a w
theorem Nk(hB:xK M0 h0 w0){c:Code}{live:List Nat}{g:St->Option (Ex×St)}(ih:∀s e s',g s=some (e,s')->Va P M0 h0 w0 nt r c (kR live s) e s'){k:Nat}{s:St}{e:Ex}{s':St}
  (h:iter g k s=some (e,s')):Va P M0 h0 w0 nt r (.loop c) s e s':=by
 intro n Q M a w hR hQ
 let J:Act->LI4->Nat->Prop:=fun a w k=>∃s M,iter g k s=some (e,s')∧Rel M0 h0 w0 nt M s a w
 refine wpIn_loop (fun a w=>∃k,J a w k) (fun a w=>leastOf (J a w)) ⟨k,s,M,h,hR⟩ ?_;intro a1 w1 hI;obtain⟨⟨s1,M1,Ry,yC⟩,_⟩:=leastOf_spec hI;generalize leastOf (J a1 w1)=k1 at Ry ⊢;cases k1 with
 |zero=>simp[iter]at Ry
 |succ k1=>
  simp only[iter]at Ry;split at Ry
  .rename_i s2 hg;refine ih s1 .norm s2 hg n _ _ a1 w1 (yC.head hB live) fun M2 a2 w2 SY=>?_;have hJ:J a2 w2 k1:=⟨s2,M2,Ry,SY⟩;exact⟨⟨k1,hJ⟩,Nat.lt_succ_of_le ((leastOf_spec ⟨k1,hJ⟩).2 k1 hJ)⟩
  .rename_i iM;refine ih s1 e s' Ry n _ _ a1 w1 (yC.head hB live) fun M2 a2 w2 SY=>?_;cases e with
   |norm=>exact(iM s' Ry).elim
   |exit id=>exact hQ M2 a2 w2 SY
   |ret=>exact hQ M2 a2 w2 SY
theorem a3G{env:List (Nat×EV)}(h:env.all isVal=true){t:Nat}{e:EV}(hl:dR t env=some e):(∃v,e=.val v)∨e=.undef:=by
 induction env with
 |nil=>simp[dR]at hl
 |cons x r ih=>
  obtain⟨k,v⟩:=x;simp only[acF,a2c]at h;simp only[dR]at hl;split at hl
  .cases hl;cases e with
   |val v=>exact .inl ⟨v,rfl⟩
   |undef=>exact .inr rfl
   |_=>simp[isVal]at h
  exact ih h.2 hl
theorem Tc(hB:xK M0 h0 w0){g:Operand}{ps:Array Tmp}{vM body:Code}{s:St}{f1:FuncId}{a1 b1:List TV}{K:TV->List HB->List Nat->Prop}{QT:Ex->St->Prop}
  (hg:rH s.env g=some (.fn f1 a1 b1)) (hv:s.env.all isVal=true)
  (hC:∀(M:Mp) (w:LI4) (x:LI3) (xs:List LI3),Valid M vN (lK (s.heap++[.mark,.loop true f nt s.env ps.toList vM body none])) w->(∀k,M (.l k)=none)->VR M.h (.fn f1 a1 b1) x->bZ M.h [.lF (s.heap.length+1)] xs ->
   ∃d,(∀w,(Deferred.ofValue x xs.toArray).run P w=.ok d w)∧Na P d w fun y w'=>∃v h ws,K v h ws∧jX M (s.heap++[.mark,.loop true f nt s.env ps.toList vM body none]) w v h ws y w')
  (hK:∀v h ws,K v h ws->∃rd f2 Rl e2 Du a2 b2 jW e,h[s.heap.length+1]? = some (.loop rd f2 Rl e2 Du a2 b2 jW)∧Sj rd jW=some e∧QT e { s with heap:=h.set (s.heap.length+1) (.loop false f2 Rl e2 Du a2 b2 (some .skip)),ws:=kN h0.length (ws.map .h) s.ws })
  (n:Nat) (Q:Exit->Act->LI4->Prop) (M:Mp) (a:Act) (w:LI4) (hR:Rel M0 h0 w0 nt M s a w) (hQ:∀e s' M' a' w',QT e s'->Rel M0 h0 w0 nt M' s' a' w'->Q (ZQ e) a' w'):(Code.rangeFunc g ps vM body).wpIn (oG none) n P Q a w:=by
 refine wpIn_rangeFunc fun fn _=>?_
 let lp:Loop:={ state:=.ready,pending:=none,fn:=fn,tmps:=a.tmps,params:=ps,assign:=vM,body:=body,defers:=w.heap.size }
 let w1:=(w.alloc (.deferred (some []))).alloc (.loop lp)
 obtain⟨v1,x1,n1⟩:=a1y hR.val .mark (.deferred (some [])) (show w.heap.size<(w.alloc _).heap.size by simp)
 let M1:=dQ M (.h s.heap.length) (.obj w.heap.size [])
 let s1:St:={ s with heap:=s.heap++[.mark] }
 have yC:Rel M0 h0 w0 nt M1 s1 a (w.alloc (.deferred (some []))):=hR.next hB v1 x1 rfl rfl (rQ n1);have a1z:s1.heap.length=s.heap.length+1:=by simp[s1]
 have apc:(w.alloc (.deferred (some []))).heap.size=w.heap.size+1:=by simp
 have apd:qA (dQ M1 (.h s1.heap.length) (.obj (w.alloc (.deferred (some []))).heap.size [])).h w1 (.loop true f nt s.env ps.toList vM body none) (.obj (w.alloc (.deferred (some []))).heap.size []):=by
  refine⟨lp,heap_alloc_new _ _,?_⟩;exact
   {ps:=rfl,vM:=rfl,body:=rfl,size:=hR.size
    Md:=fun t v hl=>by
     have h1:=(yC.env t _ hl).wF;have hm:tV M1 (dQ M1 (.h s1.heap.length) (.obj (w.alloc (.deferred (some []))).heap.size [])):=nG fun l0 h0=>by rw[yC.nh]at h0;cases h0
     exact h1.mono hm.h
    UN:=fun t hl=>by have h1:=hR.env t _ hl;show a.tmps.getD t Go.undef=Go.undef;generalize a.tmps.getD t Go.undef=z at h1;cases h1;rfl
    nol:=fun t e hl=>by rcases a3G hv hl with⟨v,e⟩|e<;>cases e<;>rfl
    ready:=fun _=>⟨rfl,rfl⟩
    busy:=by simp
    done:=by simp }
 obtain⟨v2,x2,n2⟩:=a1y yC.val (.loop true f nt s.env ps.toList vM body none) (.loop lp) apd
 let M2:=dQ M1 (.h s1.heap.length) (.obj (w.alloc (.deferred (some []))).heap.size [])
 let s2:St:={ s1 with heap:=s1.heap++[.loop true f nt s.env ps.toList vM body none] }
 have a3H:Rel M0 h0 w0 nt M2 s2 a w1:=yC.next hB v2 x2 rfl rfl (rQ n2);have atO:=hR.long;have hmk:M2 (.h s.heap.length)=some (.obj w.heap.size []):=by simp only[M2,M1,dQ,a1z];simp
 have SY:Rel M0 h0 w0 nt M2 s2 { a with defers:=[{ target:=.collected w.heap.size,args:=#[] }]++a.defers } w1:=by
  refine⟨a3H.val,a3H.ext,a3H.env,a3H.size,fun d hd=>?_,?_⟩
  .rcases a2x.1 hd with rfl|hd
   .refine⟨s.heap.length,w.heap.size,rfl,by simp[lK,St.get];omega,⟨_,hmk⟩,by simp[s2,s1,St.get],?_⟩;have e1:w1.heap[w.heap.size]? = (w.alloc (.deferred (some []))).heap[w.heap.size]?:=xE _ _ _ (by simp);rw[e1];exact heap_alloc_new _ _
   .exact a3H.marks d hd
  .refine List.pairwise_cons.2 ⟨fun d hd e=>?_,a3H.apart⟩;obtain⟨k,r',e1,_,_,_,e5⟩:=hR.marks d hd;rw[e1]at e;have:w.heap.size=r':=by injection e with e e';injection e
   have:=(a2t.1 e5).1;omega
 have Sr:M2 (.h (s.heap.length+1))=some (.obj (w.heap.size+1) []):=by simp only[M2,dQ,a1z,apc,a2s]
 have ape:s2.heap=s.heap++[.mark,.loop true f nt s.env ps.toList vM body none]:=by simp[s2,s1]
 rw[<-ape]at hC;have hV2:=Gj SY.val (fun _ _ _=>trivial);have hgx:VR M2.only.h (.fn f1 a1 b1) (a.eval g):=(Zy SY.env hg);have hyx:bZ M2.only.h [.lF (s.heap.length+1)] [.func (.yield (w.heap.size+1)) #[] #[]]:=.cons (.lF Sr) .nil;obtain⟨d,hd,vY⟩:=hC M2.only w1 (a.eval g) [.func (.yield (w.heap.size+1)) #[] #[]] hV2 (fun _=>rfl) hgx hyx;obtain⟨f3,as3,hinv,qM⟩:=vY;refine⟨w.heap.size+1,[{ target:=.collected w.heap.size,args:=#[] }],w1,d,w1,f3,as3,w1,?_,?_,fun _ _=>trivial,hinv,fun h=>by simp[Fence.wide]at h,?_⟩
 .simp[Instr.enterLoop,newObj,Sem.run,w1,lp]
 .have:=hd w1;simpa[resolve,rangeCall,Act.eval]using this
 .refine CallsIn.mono (F:=oG none) (qM (n-1)) fun en w3 Xo=>?_;cases en with
  |panicked c=>exact Xo.elim
  |outgrown=>exact Xo.elim
  |returned y=>
   obtain⟨v,h,ws,hk,Xo⟩:=Xo;obtain⟨rd,f2,Rl,e2,Du,a2,b2,jW,e,hh,hj,hq⟩:=hK v h ws hk;obtain⟨M3,hp⟩:=SN SY.val SY.loc (show jX M2.only s2.heap w1 v h ws y w3 from Xo);have hR3:Rel M0 h0 w0 nt M3 { s2 with heap:=h,ws:=kN h0.length (ws.map .h) s.ws } _ w3:=SY.next hB (s':={ s2 with heap:=h,ws:=kN h0.length (ws.map .h) s.ws }) (hp.val.sub fun _ _=>.inl trivial) hp.ext rfl rfl hp.loc;obtain⟨l',g1,g2⟩:=hp.ext.Jl _ _ Sr;obtain⟨q3,hl3⟩:∃q3,M3 (.h (s.heap.length+1))=some (.obj (w.heap.size+1) q3):=by
    cases l' with
    |cells ls=>exact g2.elim
    |obj r' o'=>cases g2.1;exact⟨o',g1⟩
   obtain⟨gK,k1,k2⟩:=hR3.val.ok _ _ hl3 trivial;have k1':gK=.loop rd f2 Rl e2 Du a2 b2 jW:=by simp only[St.get,hh,a0k]at k1;exact k1.symm
   subst k1';obtain⟨lp3,l1,l2⟩:=k2;have hnb:lp3.state≠.busy∧lp3.pending=uh e:=by
    unfold Sj at hj;split at hj
    .cases hj;obtain⟨q1,q2⟩:=l2.ready rfl;exact⟨by rw[q1];simp,q2⟩
    .cases hj;obtain⟨q1,q2⟩:=l2.done rfl _ rfl (by simp);exact⟨by rw[q1];simp,q2⟩
    .cases hj;obtain⟨q1,q2⟩:=l2.done rfl _ rfl (by simp);exact⟨by rw[q1];simp,q2⟩
    .cases hj
   obtain⟨v4,x4⟩:=EG (s:={ s2 with heap:=h,ws:=kN h0.length (ws.map .h) s.ws }) hR3.val hl3 hh rfl (b':=.loop false f2 Rl e2 Du a2 b2 (some .skip)) (o':=.loop { lp3 with state:=.exhausted }) ⟨{ lp3 with state:=.exhausted },by simp[(a2t.1 l1).1],
    {ps:=l2.ps,vM:=l2.vM,body:=l2.body,size:=l2.size,Md:=l2.Md,UN:=l2.UN,nol:=l2.nol,ready:=by simp,busy:=by simp,done:=fun _ j hj iM=>by simp at hj;exact absurd hj.symm iM }⟩
   have hR4:=hR3.next hB (s':={ s with heap:=h.set (s.heap.length+1) (.loop false f2 Rl e2 Du a2 b2 (some .skip)),ws:=kN h0.length (ws.map .h) s.ws }) v4 x4 rfl
    (by simp only[kN,Fb];rw[a0F (by omega)]) (fun _ _ h=>h)
   refine⟨lp3.pending,{ w3 with heap:=w3.heap.setIfInBounds (w.heap.size+1) (.loop { lp3 with state:=.exhausted }) },?_,?_⟩
   .have h1:=hnb.1;cases wS:lp3.state<;>simp_all [Instr.endLoop,Instr.getLoop,getObj,setObj,Sem.run]<;>rfl
   .have h2:=hQ _ _ _ _ _ hq hR4;have h3:=hnb.2;generalize lp3.pending=pe at h2 h3 ⊢;subst h3;cases e with
    |norm=>exact h2
    |ret=>exact wpIn_ret h2
    |exit id=>exact wpIn_exit h2
theorem a6o(hC:iO P call)(hB:xK M0 h0 w0){g:Operand}{ps:Array Tmp}{vM body:Code}{s s':St}{e:Ex}{f1:FuncId}{a1 b1:List TV}{v:TV}{h:List HB}{ws:List Nat}{rd:Bool}{f2 Rl:Nat}{e2:List (Nat×EV)}{Du:List Nat}{a2 b2:Code}{jW:Option Code}
  (hg:rH s.env g=some (.fn f1 a1 b1)) (hv:s.env.all isVal=true) (yO:call (.fn f1 a1 b1) [.lF (s.heap.length+1)] (s.heap++[.mark,.loop true f nt s.env ps.toList vM body none])=some (v,h,ws))
  (hh:h[s.heap.length+1]? = some (.loop rd f2 Rl e2 Du a2 b2 jW)) (hj:Sj rd jW=some e)
  (hs:s'={ s with heap:=h.set (s.heap.length+1) (.loop false f2 Rl e2 Du a2 b2 (some .skip)),ws:=kN h0.length (ws.map .h) s.ws }) :
  Va P M0 h0 w0 nt none (.rangeFunc g ps vM body) s e s':=by
 intro n Q M a w hR hQ;refine Tc (f:=f) (s:=s) hB (K:=fun v' h' UO=>v'=v∧h'=h∧UO=ws) (QT:=fun e1 s1=>e1=e∧s1=s') hg hv (fun M w x xs hV hl hx OD=>?_) ?_ n Q M a w hR ?_
 .obtain⟨d,hd,vY⟩:=hC _ _ _ _ _ _ yO M w x xs hV hl hx OD;refine⟨d,hd,?_⟩;rcases vY with⟨⟨f3,as3,h1,h2⟩,_⟩|⟨_,_,hx⟩
  .refine⟨f3,as3,h1,fun n=>CallsIn.mono (F:=oG none) (h2 n) fun en w3 Xo=>?_⟩;cases en with
   |panicked c=>exact Xo.elim
   |outgrown=>exact Xo.elim
   |returned y=>exact⟨v,h,ws,⟨rfl,rfl,rfl⟩,Xo⟩
  .cases hx
 .rintro _ _ _ ⟨rfl,rfl,rfl⟩;exact⟨_,_,_,_,_,_,_,_,_,hh,hj,rfl,hs.symm⟩
 .rintro _ _ M' a' w' ⟨rfl,rfl⟩ Gl;exact hQ M' a' w' Gl
theorem wJ(hm:P.follows .mixedOrders=true)(hC:iO P call)(hB:xK M0 h0 w0)(hr:iy=false->r=none):∀(c:Code) (s s':St) (e:Ex),exec P T call L f iy h0.length nt c s=some (e,s')->Va P M0 h0 w0 nt r c s e s':=by
 intro c
 induction c with
 |skip=>
  intro s s' e h n Q M a w hR hQ;simp only[exec,a0k,a0T]at h;obtain⟨rfl,rfl⟩:=h;exact wpIn_skip (hQ _ _ _ hR)
 |label l=>
  intro s s' e h n Q M a w hR hQ;simp only[exec,a0k,a0T]at h;obtain⟨rfl,rfl⟩:=h;exact wpIn_label (hQ _ _ _ hR)
 |exit id=>
  intro s s' e h n Q M a w hR hQ;simp only[exec,a0k,a0T]at h;obtain⟨rfl,rfl⟩:=h;exact wpIn_exit (hQ _ _ _ hR)
 |ret=>
  intro s s' e h n Q M a w hR hQ;simp only[exec,a0k,a0T]at h;obtain⟨rfl,rfl⟩:=h;exact wpIn_ret (hQ _ _ _ hR)
 |region id ops draw=>
  intro s s' e h n Q M a w hR hQ;simp only[exec]at h;split at h
  .rename_i s1 yB wI;split at h
   .rename_i hd;simp only[a0k,a0T]at h;obtain⟨rfl,rfl⟩:=h;cases draw with
    |false=>exact a3z hC hB wI hR fun M' a' w' Gl _=>hQ _ _ _ (Gl.pick _)
    |true=>
     simp only[a9M,ah4,a2c]at hd;exact ZP hC hB hm wI hd.1 hd.2 hR fun M' a' w' Gl _=>hQ _ _ _ (Gl.pick _)
   simp at h
  simp at h
 |seq x y Xp ihy=>
  intro s s' e h n Q M a w hR hQ;simp only[exec]at h;split at h
  .rename_i s1 hx;exact wpIn_seq (Xp s s1 .norm hx n _ M a w hR fun M1 a1 w1 yC=>ihy s1 s' e h n Q M1 a1 w1 yC hQ)
  rename_i iM;refine wpIn_seq (Xp s s' e h n _ M a w hR fun M1 a1 w1 yC=>?_);cases e with
  |norm=>exact(iM s' h).elim
  |exit id=>exact hQ _ _ _ yC
  |ret=>exact hQ _ _ _ yC
 |cond c x y Xp ihy=>
  intro s s' e h n Q M a w hR hQ;simp only[exec]at h;have hev:∀b,rH s.env c=some (.bool b)->a.eval c=.bool b:=by intro b hb;have:=Zy hR.env hb;generalize a.eval c=z at this;cases this;rfl
  split at h
  .rename_i hc;exact wpIn_cond_true (hev _ hc) (Xp s s' e h n Q M a w hR hQ)
  .rename_i hc;exact wpIn_cond_false (hev _ hc) (ihy s s' e h n Q M a w hR hQ)
  simp at h
 |block id b ih=>
  intro s s' e h n Q M a w hR hQ;simp only[exec]at h;split at h
  .rename_i i s1 hb;simp only[a0k,a0T]at h;obtain⟨rfl,rfl⟩:=h;refine wpIn_block (ih s s1 (.exit i) hb n _ M a w hR fun M1 a1 w1 yC=>?_);have:=hQ _ _ _ yC;by_cases hi:i=id
   .simp only[hi,a2s]at this;simp only[ZQ,Exit.inBlock,hi,a2s];exact this
   simp only[hi,a3U]at this;simp only[ZQ,Exit.inBlock,hi,a3U];exact this
  rename_i iM;refine wpIn_block (ih s s' e h n _ M a w hR fun M1 a1 w1 yC=>?_);cases e with
  |norm=>exact hQ _ _ _ yC
  |exit i=>exact(iM i s' h).elim
  |ret=>exact hQ _ _ _ yC
 |scope b ih=>
  intro s s' e h n Q M a w hR hQ;simp only[exec]at h;refine OJ (ih s s' e h n _ M a w hR fun M1 a1 w1 yC=>?_);have:=hQ _ _ _ yC;cases e<;>exact this
 |loop b ih=>
  intro s s' e h;simp only[exec]at h;exact Nk hB (live:=T.fC f (eu b)) (fun s e s' hs=>ih _ _ _ hs) h
 |rangeFunc g ps vM body iha ihb=>
  intro s s' e h;simp only[exec]at h;split at h
  .rename_i f1 a1 b1 hg;split at h
   .rename_i hv;simp only[a2c,a9m]at hv;rw[hr hv.2];split at h
    .rename_i v h1 ws yO;split at h
     .rename_i rd f2 Rl e2 Du a2 b2 jW hh;split at h
      .rename_i e' hj;simp only[a0k,a0T]at h;obtain⟨rfl,rfl⟩:=h;exact a6o hC hB hg hv.1 yO hh hj rfl
      simp at h
     simp at h
    simp at h
   simp at h
  simp at h
 |_=>intro s s' e h;simp[exec]at h
end
def a3I(tmps:Array LI3):ResultVar->Sem LI3
 |.tmp t=>pure (tmps.getD t Go.undef)
 |.cell b t=>do loadVar t (<-asAddr (tmps.getD b Go.undef))
theorem ZR(fn:Func)(tmps:Array LI3):results fn tmps=(do
  let vs <-fn.results.mapM (a3I tmps)
  pure (if h:vs.size=1 then vs[0]else .tuple vs)):=by
 have key:∀g:ResultVar->Sem LI3,(∀r,g r=a3I tmps r)->(do
   let vs <-fn.results.mapM g
   pure (if h:vs.size=1 then vs[0]else Value.tuple vs):Sem LI3)=(do
   let vs <-fn.results.mapM (a3I tmps)
   pure (if h:vs.size=1 then vs[0]else Value.tuple vs)):=fun g hg=>by rw[show g=a3I tmps from funext hg]
 exact key _ fun r=>by cases r<;>rfl
section
variable {P:LI1} {T:ru} {call:bn} {L:Nat} {nt:Nat} {M0:Mp} {h0:List HB} {w0:LI4} {M:Mp} {s:St} {a:Act} {w:LI4}
theorem JA(hR:Rel M0 h0 w0 nt M s a w){r:ResultVar}{v:TV}(h:a5B P s r=some v) :
  ∃x,VR M.h v x∧(a3I a.tmps r).run P w=.ok x w:=by
 unfold a5B at h;split at h
 .rename_i t;split at h
  .rename_i v' hv;simp only[a0k]at h;subst h;exact⟨_,(hR.env t _ hv).wF,rfl⟩
  .simp at h
 .rename_i b t;split at h
  .rename_i e he;simp only[a0A]at h;obtain⟨⟨v',i⟩,hl,rfl⟩:=h;have hx:=hR.env b _ he;obtain⟨_,y,h1,h2⟩:=Hg hR.val hl hx (fun _ _=>trivial);refine⟨y,h1,?_⟩;show(do loadVar t (<-asAddr (a.tmps.getD b Go.undef)):Sem LI3).run P w=_;generalize a.tmps.getD b Go.undef=z at hx h2;have hz:∃ad,z=.pointer (some ad):=by
    cases hx with
    |loc hm hb=>exact⟨_,rfl⟩
    |undef|ent|Fa=>simp[loadT]at hl
    |val hv=>
     cases hv with
     |ptr=>exact⟨_,rfl⟩
     |_=>simp[loadT]at hl
   obtain⟨ad,rfl⟩:=hz;simpa[asAddr,Instr.loadAt,Instr.sureAddr]using h2
  .simp at h
theorem a1A(hR:Rel M0 h0 w0 nt M s a w):∀{rs:List ResultVar} {vs:List TV},yI P s rs=some vs ->
  ∃xs,bZ M.h vs xs∧(rs.mapM (a3I a.tmps)).run P w=.ok xs w
 | [],vs,h=>by simp[yI]at h;subst h;exact⟨[],.nil,by simp⟩
 |r::rs,vs,h=>by
  simp only[yI]at h;split at h
  .rename_i v vs' h1 h2;simp only[a0k]at h;subst h;obtain⟨x,g1,g2⟩:=JA hR h1;obtain⟨xs,g3,g4⟩:=a1A hR h2;exact⟨x::xs,.cons g1 g3,by simp only[List.mapM_cons,Sem.run_bind,g2,g4,Result.andThen_ok,Sem.run_pure]⟩
  .simp at h
theorem OL(hR:Rel M0 h0 w0 nt M s a w){fn:Func}{vs:List TV}(h:yI P s fn.results.toList=some vs):∃y,VR M.h (one vs) y∧(results fn a.tmps).run P w=.ok y w:=by
 obtain⟨xs,h1,h2⟩:=a1A hR h;have wI:(results fn a.tmps).run P w=.ok (if h:xs.toArray.size=1 then xs.toArray[0]else .tuple xs.toArray) w:=by rw[ZR,Array.mapM_eq_mapM_toList];simp only[Sem.run_bind,Sem.run_map,h2,Result.andThen_ok,Sem.run_pure]
 refine⟨_,?_,wI⟩
 match vs,xs,h1 with
 | [],xs,h1=>
  have:=h1.qI;subst this;exact .Ro .nil
 | [v],xs,h1=>
  obtain⟨x,xs',rfl,hx,Gf⟩:=h1.iY;have:=Gf.qI;subst this;exact hx
 |v::v'::vs,xs,h1=>
  obtain⟨x,xs',rfl,hx,Gf⟩:=h1.iY;obtain⟨x',avN,rfl,hy,hy'⟩:=Gf.iY;simp only[one,List.size_toArray,a4O];rw[dif_neg (by omega)];exact .Ro h1
theorem a3J(hB:xK M0 h0 w0){d:Deferred}{ds:List Deferred}(hR:Rel M0 h0 w0 nt M s a w)(hd:a.defers=d::ds) :
  ∃r w',d.target=.collected r∧(Instr.takeDeferred r).run P w=.ok [] w'∧Rel M0 h0 w0 nt M s { a with defers:=ds } w':=by
 obtain⟨k,r,rfl,h2,⟨o,h3⟩,h4,h5⟩:=hR.marks d (by rw[hd];exact a3E);have aQ:=(a2t.1 h5).1;have hap:=hR.apart;rw[hd]at hap;obtain⟨ha1,ha2⟩:=List.pairwise_cons.1 hap;refine⟨r,{ w with heap:=w.heap.setIfInBounds r (.deferred none) },rfl,?_,?_⟩
 .simp[Instr.takeDeferred,getObj,setObj,Sem.run,h5]
 have ZT:∀c,c≠r->(w.heap.setIfInBounds r (.deferred none))[c]? = w.heap[c]?:=fun c hc=>by rw[a9I,a0F (fun e=>hc e.symm)]
 refine⟨⟨?_,hR.val.own,fun k l hk c hc=>by simpa using hR.val.inb k l hk c hc⟩,?_,hR.env,hR.size,?_,ha2⟩
 .intro k' l pG _;obtain⟨b,g1,g2⟩:=hR.val.ok k' l pG trivial;refine⟨b,g1,?_⟩;by_cases Dx:r∈aK l
  .cases b with
   |cells kk cs=>
    cases l with
    |obj r' _=>exact g2.elim
    |cells ls=>
     obtain⟨p,hp,e⟩:=a1e.1 Dx;obtain⟨arr,ty,fz,e1,_⟩:=(g2.2.1 p hp).row;rw[e,h5]at e1;cases e1
   |nX cs=>
    cases l with
    |obj r' _=>exact g2.elim
    |cells ls=>
     obtain⟨p,hp,e⟩:=a1e.1 Dx;obtain⟨_,_,g2⟩:=g2;obtain⟨arr,ty,fz,e1,_⟩:=(g2.2.1 p hp).row;rw[e,h5]at e1;cases e1
   |map es=>
    cases l with
    |cells ls=>exact g2.elim
    |obj r' _=>
     simp[aK]at Dx;subst Dx;obtain⟨xs,e1,_⟩:=g2;rw[h5]at e1;cases e1
   |dD m n seen=>
    cases l with
    |cells ls=>exact g2.elim
    |obj r' _=>
     simp[aK]at Dx;subst Dx;obtain⟨_,_,_,_,e1,_⟩:=g2;rw[h5]at e1;cases e1
   |loop rd f nt env ps a b jW=>
    cases l with
    |cells ls=>exact g2.elim
    |obj r' _=>
     simp[aK]at Dx;subst Dx;obtain⟨lp,e1,_⟩:=g2;rw[h5]at e1;cases e1
   |mark=>
    cases l with
    |cells ls=>exact g2.elim
    |obj r' _=>
     show r'<(w.heap.setIfInBounds r (.deferred none)).size;have g2':r'<w.heap.size:=g2;simpa using g2'
  .exact g2.mono (.refl _) fun c hc=>ZT c fun e=>Dx (e▸hc)
 .have hX:=hR.ext;refine⟨hX.Jl,fun c hc hf=>?_,hX.oh,hX.lT,hX.fresh,by simpa using hX.size,hX.has,hX.wsub,hX.wrote,hX.os,hX.output,hX.tape⟩;rw[<-hX.frame c hc hf];refine ZT c fun e=>?_;obtain⟨l0,g1,_⟩:=hX.fresh _ _ h3 c (by simp[aK,e]) hc;have:=hB.val.has g1;rw[h2]at this;cases this
 .intro d' ZI;obtain⟨k',r',e1,e2,e3,e4,e5⟩:=hR.marks d' (by rw[hd];exact a4a _ ZI);refine⟨k',r',e1,e2,e3,e4,?_⟩;rw[ZT r' fun e=>ha1 d' ZI (by rw[e1,e]),e5]
theorem OM(hB:xK M0 h0 w0){F:Fence}{n:Nat}{fn:Func}{R:Ending->LI4->Prop}:∀(ds:List Deferred) (a:Act) (w:LI4),a.defers=ds->Rel M0 h0 w0 nt M s a w ->
  (∀w',Rel M0 h0 w0 nt M s { a with defers:=[] } w'->∃v,(results fn a.tmps).run P w'=.ok v w'∧R (.returned v) w')->LeavesInM F n P fn a.tmps R ds .returning w
 | [],a,w,hd,hR,hK=>by
  simp only[LeavesInM,LeavesIn];exact hK w (by
   have:a={ a with defers:=[] }:=by cases a;simp at hd;subst hd;rfl
   rw[<-this];exact hR)
 |d::ds,a,w,hd,hR,hK=>by obtain⟨r,w',h1,h2,h3⟩:=a3J (P:=P) hB hR hd;refine⟨by simp,.inl ⟨r,w',h1,h2,?_⟩⟩;exact OM hB ds { a with defers:=ds } w' rfl h3 hK
end
section
variable {P:LI1} {T:ru} {call:bn} {L:Nat} {nt:Nat} {M:Mp} {h:List HB} {w:LI4} {M':Mp} {s:St} {a:Act} {w':LI4}
theorem ZU(hB:xK M h w)(hR:Rel M h w nt M' s a w'){v:TV}{y:LI3}(hv:VR M'.h v y):jX M h w v s.heap s.ws y w':=by
 refine⟨M'.only,Gj hR.val (fun _ _ _=>trivial),fun _=>rfl,?_,hv⟩;have hX:=hR.ext;have hk:∀k,(lK h k).isSome=true->∃b,k=.h b:=fun k hk=>let ⟨b,e,_⟩:=Dz hk;⟨b,e⟩
 exact
  {Jl:=fun k l hl=>by
    cases k with
    |l j=>rw[hB.loc j]at hl;cases hl
    |h b=>exact hX.Jl _ _ hl
   frame:=hX.frame
   oh:=fun k e hn=>by obtain⟨b,rfl⟩:=hk k e;exact hX.oh _ e hn
   lT:=fun k e hn=>by
    cases k with
    |h b=>exact hX.lT (.h b) e hn
    |l j=>exact(hB.loc j).symm
   fresh:=fun k l hl=>by
    cases k with
    |h b=>exact hX.fresh (.h b) l hl
    |l j=>cases hl
   size:=hX.size
   has:=fun k e=>by obtain⟨b,rfl⟩:=hk k e;exact hX.has _ e
   wsub:=hX.wsub
   wrote:=hX.wrote
   os:=hX.os
   output:=hX.output
   tape:=hX.tape }
theorem JB{N:Np}:∀{args:List TV} {xs:List LI3} {k t:Nat} {e:EV},bZ N args xs->dR t (oD k args)=some e->∃i v x,t=k+i∧e=.val v∧xs[i]? = some x∧VR N v x
 | [],xs,k,t,e,h,hl=>by simp[oD,dR]at hl
 |v::vs,xs,k,t,e,h,hl=>by
  obtain⟨x,xs',rfl,h1,h2⟩:=h.iY;simp only[oD,dR]at hl;split at hl
  .rename_i hk;cases hl;exact⟨0,v,x,by omega,rfl,rfl,h1⟩
  obtain⟨i,v',x',e1,e2,e3,e4⟩:=JB h2 hl;exact⟨i+1,v',x',by omega,e2,by simpa using e3,e4⟩
end
open Go.ChangeMaps
def Bh(ops:Array Oper):Option (Nat×Nat×Oper×Oper):=
 match ops.toList with
 | [a,b]=>match a.op,a.dst,a.guard with
  |.next (.tmp it) false,some nx,none=>if a.after.toList.all (fun e=>!Region.binds .any e)&&b.after.toList.any (fun e=>Region.binds .any e&&e.on==0)&&b.after.toList.all (fun e=>!Region.binds .any e||e.on==0)then some (it,nx,a,b)else none
  |_,_,_=>none
 |_=>none
def a1B(fl:Nat)(s:St)(it:Nat)(K:St->TV->Prop):Prop:=
 ∃b r n seen es,dR it s.env=some (.val (.iter b))∧s.heap[b]? = some (.dD r n seen)∧s.heap[r]? = some (.map es)∧es.length=n ∧
  ((∀j,j<n->j∈seen)->K s (.dJ [.bool false])) ∧
  ∀j e,j∉seen->es[j]? = some e->K { s with heap:=s.heap.set b (.dD r n (j::seen)),ws:=kN fl [.h b] s.ws } (.dJ [.bool true,e.1,e.2])
def I8(g:St->(Ex->St->Prop)->Prop):Nat->St->(Ex->St->Prop)->Prop
 | 0,_,_=>False
 |n+1,s,Q=>g s fun e s=>match e with
  |.norm=>I8 g n s Q
  |e=>Q e s
abbrev wo:=TV->List TV->List HB->(TV->List HB->List Nat->Prop)->Prop
def DF:wo:=fun _ _ _ _=>False
def a6p(T:ru)(env:List (Nat×EV))(g:Operand):Bool:=match rH env g with
 |some (.fn f1 _ _)=>T.din.contains f1
 |_=>false
def af5(cd:wo)(f fl nt:Nat)(g:Operand)(ps:Array Tmp)(vM body:Code)(s:St)(Q:Ex->St->Prop):Prop:=
 ∃f1 a1 b1,rH s.env g=some (.fn f1 a1 b1)∧s.env.all isVal=true∧cd (.fn f1 a1 b1) [.lF (s.heap.length+1)] (s.heap++[.mark,.loop true f nt s.env ps.toList vM body none]) fun _ h ws=>
  ∃rd f2 Rl e2 Du a2 b2 jW e,h[s.heap.length+1]? = some (.loop rd f2 Rl e2 Du a2 b2 jW)∧Sj rd jW=some e∧Q e { s with heap:=h.set (s.heap.length+1) (.loop false f2 Rl e2 Du a2 b2 (some .skip)),ws:=kN fl (ws.map .h) s.ws }
def fO(P:LI1)(T:ru)(call:bn)(cd:wo)(L:Nat)(f:Nat)(fl nt:Nat):Code->St->(Ex->St->Prop)->Prop
 |.region id ops draw,s,Q=>match Bh ops with
  |some (it,nx,_,b)=>nx<nt∧a1B fl s it fun s v=>∃s2 is,lS P call (fun d=>T.UL f d) fl nt ops [b] (s.put (some nx) (.val v))=some (s2,is)∧Q .norm { s2 with env:=pick (T.iK f id) s2.env }
  |none=>∃e s',exec P T call L f false fl nt (.region id ops draw) s=some (e,s')∧Q e s'
 |.seq a b,s,Q=>fO P T call cd L f fl nt a s fun e s=>match e with
  |.norm=>fO P T call cd L f fl nt b s Q
  |e=>Q e s
 |.cond c a b,s,Q=>match rH s.env c with
  |some (.bool true)=>fO P T call cd L f fl nt a s Q
  |some (.bool false)=>fO P T call cd L f fl nt b s Q
  |_=>False
 |.block id b,s,Q=>fO P T call cd L f fl nt b s fun e s=>Q (match e with|.exit i=>if i=id then .norm else .exit i|e=>e) s
 |.scope b,s,Q=>fO P T call cd L f fl nt b s Q
 |.loop b,s,Q=>I8 (fun s Q=>fO P T call cd L f fl nt b (kR (T.fC f (eu b)) s) Q) L s Q
 |.rangeFunc g ps vM body,s,Q=>if a6p T s.env g=true then af5 cd f fl nt g ps vM body s Q else ∃e s',exec P T call L f false fl nt (.rangeFunc g ps vM body) s=some (e,s')∧Q e s'
 |c,s,Q=>∃e s',exec P T call L f false fl nt c s=some (e,s')∧Q e s'
section
variable {P:LI1} {T:ru} {call:bn} {L f:Nat} {nt:Nat} {M0:Mp} {h0:List HB} {w0:LI4} {r:Option Nat} {ops:Array Oper} {M:Mp} {s:St} {a:Act} {w:LI4}
theorem af6(hm:P.follows .mixedOrders=true){id:Nat}{o1 o2:Oper}{draw:Bool}{F:Fence}{n:Nat}{Q:Exit->Act->LI4->Prop}(aa6:ops=#[o1,o2])(h1:o1.after.toList.all (fun e=>!Region.binds .any e)=true)(h2:o2.after.toList.any (fun e=>Region.binds .any e&&e.on==0)=true)(h3:o2.after.toList.all (fun e=>!Region.binds .any e||e.on==0)=true)
  (h:∀w',(w'=w∨w'={ w with drawn:=w.drawn+1 })->wpOpIn F n P ops Q 0 (wpOpIn F n P ops Q 1 (Q .normal)) a w'):(Code.region id ops draw).wpIn F n P Q a w:=by
 cases draw with
 |false=>
  refine wpIn_region ?_;have:=h w (.inl rfl);have e:List.range ops.size=[0,1]:=by rw[aa6];rfl
  rw[e,wpOpsIn_cons];refine wpOpIn_mono (fun a w hx=>?_) this;rw[wpOpsIn_cons];exact wpOpIn_mono (fun a w hx=>hx) hx
 |true=>
  refine wpIn_region_any hm ?_;have vW:ops.size=2:=by rw[aa6];rfl
  have w1:∀D,uZ D o1:=fun D e he hb=>by have:=a5s.1 h1 e (by simpa using he);simp[hb]at this
  have w2:∀D,uZ D o2->D 0:=fun D hD=>by
   obtain⟨e,he,hb⟩:=ahe.1 h2;simp only[a2c,a6Z]at hb;have:=hD e (by simpa using he) hb.1
   rwa [hb.2]at this
  have g0:ops[0]? = some o1:=by rw[aa6];rfl
  have g1:ops[1]? = some o2:=by rw[aa6];rfl
  have g2:∀i,2<=i->ops[i]? = none:=fun i hi=>Array.getElem?_eq_none (by omega);rw[vW];have r0:∀i,i∈Region.ready .any ops (Array.replicate 2 false)↔i=0:=by
   intro i;rw[um (by simp[vW])];constructor
   .rintro⟨o,ho,_,hw⟩
    match i with
    | 0=>rfl
    | 1=>
     rw[g1]at ho;cases ho;have:=w2 _ hw;simp at this
    |i+2=>rw[g2 _ (by omega)]at ho;cases ho
   .rintro rfl;exact⟨o1,g0,by simp,w1 _⟩
  have r1:∀i,i∈Region.ready .any ops ((Array.replicate 2 false).setIfInBounds 0 true)↔i=1:=by
   intro i;rw[um (by simp[vW])];constructor
   .rintro⟨o,ho,hl,_⟩
    match i with
    | 0=>simp at hl
    | 1=>rfl
    |i+2=>rw[g2 _ (by omega)]at ho;cases ho
   .rintro rfl;refine⟨o2,g1,by simp,fun e he hb=>?_⟩;have:=a5s.1 h3 e (by simpa using he);simp only[hb,a9M,ah4,a6Z]at this;rw[this];simp
  have r2:Region.ready .any ops (((Array.replicate 2 false).setIfInBounds 0 true).setIfInBounds 1 true)=[]:=by
   refine a7B.2 fun i hi=>?_;obtain⟨o,ho,hl,_⟩:=(um (by simp[vW])).1 hi
   match i with
   | 0=>simp at hl
   | 1=>simp at hl
   |i+2=>rw[g2 _ (by omega)]at ho;cases ho
  refine⟨fun h0=>?_,fun i hi=>?_⟩
  .have:=(r0 0).2 rfl;rw[h0]at this;cases this
  .have:=(r0 i).1 hi;subst this;refine wpOpIn_mono (fun a w hx=>?_) (h _ (.inr rfl));refine⟨fun h0=>?_,fun i hi=>?_⟩
   .have:=(r1 1).2 rfl;rw[h0]at this;cases this
   .have:=(r1 i).1 hi;subst this;exact wpOpIn_mono (fun a w hx=>⟨r2,hx⟩) hx
theorem Rel.aj6(hR:Rel M0 h0 w0 nt M s a w){d:Nat}{v:EV}{x:LI3}(hd:d<nt)(hx:ER M v x):Rel M0 h0 w0 nt M (s.put (some d) v) (a.put (some d) x) w:=by
 have hg:(s.put (some d) v).get=s.get:=getEnv s _ _;refine⟨by rw[hg];exact hR.val,by rw[hg];exact hR.ext,?_,by rw[HY];exact hR.size,?_,by rw[jZ];exact hR.apart⟩
 .intro t e hl;rw[zN]at hl;rw[zO];by_cases ZI:some d=some t
  .rw[a0I ZI]at hl;have:=hR.size;cases ZI;rw[a0I ⟨rfl,by omega⟩];cases hl;exact hx
  rw[a0F ZI]at hl;rw[a0F (fun h=>ZI h.1)];exact hR.env t e hl
 rw[jZ,hg];exact hR.marks
theorem aa7(hB:xK M0 h0 w0){F:Fence}{n:Nat}{Q:Exit->Act->LI4->Prop}{o:Oper}{it nx i:Nat}{K:Act->LI4->Prop}{K':St->TV->Prop}(ho:ops[i]? = some o)(jY:o.op=.next (.tmp it) false)(af0:o.dst=some nx)(hg:o.guard=none)(hd:nx<nt)
  (hR:Rel M0 h0 w0 nt M s a w) (hN:a1B h0.length s it K') (hK:∀s1 v a1 w1,K' s1 v->Rel M0 h0 w0 nt M (s1.put (some nx) (.val v)) a1 w1->K a1 w1):wpOpIn F n P ops Q i K a w:=by
 obtain⟨b,r,n',seen,es,Ry,hb,hr,hn,aj7,aj8⟩:=hN;have hx:=hR.env it _ Ry;obtain⟨r',o',hm⟩:∃r' o',a.tmps.getD it Go.undef=.pointer (some ⟨r',0,none⟩)∧M (.h b)=some (.obj r' o'):=by
  generalize a.tmps.getD it Go.undef=xv at hx;cases hx with
  |val hx=>cases hx with
   |iter h=>exact⟨_,_,rfl,h⟩
 obtain⟨hm,hmb⟩:=hm;obtain⟨gK,c1,c2⟩:=hR.val.ok _ _ hmb trivial;simp only[St.get,hb,a0k]at c1;subst c1;obtain⟨rb,q,sa,d1,d2,d3,d4⟩:=c2;obtain⟨gK,c1,c2⟩:=hR.val.ok (.h r) _ d1 trivial;simp only[St.get,hr,a0k]at c1;subst c1;obtain⟨xs,g1,g2⟩:=c2;have hnn:xs.size=n':=by rw[<-g2.len];exact hn
 have hold:∀x∈xs.toList,x.born<n':=fun x hx=>by
  obtain⟨k,hk⟩:=a9H.1 hx;have pG:xs[k]? = some x:=by simpa using hk
  rw[(g2.at_ k x pG).1,<-hnn];exact(a2t.1 pG).1
 have acR:∀k j,q[k]? = some j->(k∈sa.toList↔j∈seen):=by
  intro k j hkj;have e1:k∈sa.toList->j∈seen:=fun hk=>by have:(q[k]?:Option Nat)∈sa.toList.map (fun i=>q[i]?):=a1e.2 ⟨k,hk,rfl⟩;rw[d4,hkj]at this;obtain⟨j',h1,h2⟩:=a1e.1 this;cases h2;simpa using h1
  have e2:j∈seen->k∈sa.toList:=fun hj=>by have:some j∈seen.reverse.map some:=a1e.2 ⟨j,by simpa using hj,rfl⟩;rw[<-d4]at this;obtain⟨k',h1,h2⟩:=a1e.1 this;have i1:=a0n.1 h2;have i2:=a0n.1 hkj;have:=(aaD g2.nod (h₀:=i1.1) (h₁:=i2.1)).1 (i1.2.trans i2.2.symm);rw[<-this];exact h1
  exact⟨e1,e2⟩
 have acS:∀x,x∈(leftOf xs sa).toList↔x∈xs.toList∧x.born∉sa.toList:=fun x=>by simp[leftOf]
 have acT:a.eval (.tmp it)=.pointer (some ⟨r',0,none⟩):=by simpa[Act.eval]using hm
 unfold wpOpIn;rw[ho];have hw:Region.wanted o (yielded ops a.tmps)=true:=by simp[Region.wanted,hg]
 simp only[hw,a2s];refine⟨fun f hf=>by simp[Oper.about,jY]at hf,?_⟩;rcases run_next_at (P:=P) w o.type r' rb n' n' sa xs xs.size d2 g1 hold (a15 _)with⟨h1,h2⟩|⟨e,h1,w1,h2,h3⟩
 .have wI:(o.semAt F.round a.eval).run P w=.ok (.value (.tuple #[.bool false])) w:=by simp[Oper.semAt,execOp,jY,acT,h2]
  rw[wI,Oper.uponIn_value,af0];refine hK s _ _ _ (aj7 fun j hj=>?_) (hR.aj6 hd (.val (.Ro (.cons (.bool false) .nil))));obtain⟨k,hk⟩:=a9H.1 (g2.sur j (by omega));refine(acR k j hk).1 ?_;apply acL;intro hns;have hkx:k<xs.size:=by rw[<-g2.ord];exact(a0n.1 hk).1
  have:xs[k]∈(leftOf xs sa).toList:=(acS _).2 ⟨by simp,by rw[(g2.at_ k _ (a4w hkx)).1];exact hns⟩;have h0:(leftOf xs sa).toList=[]:=a4J (by simpa using h1);rw[h0]at this;cases this
 .obtain⟨hex,N9⟩:=(acS e).1 h1;obtain⟨k,hk⟩:=a9H.1 hex;have pG:xs[k]? = some e:=by simpa using hk
  obtain⟨z1,j,e',z2,z3,z4,z5⟩:=g2.at_ k e pG;have hj:j∉seen:=fun h=>N9 (by rw[z1];exact(acR k j z2).2 h);have yC:Rel M0 h0 w0 nt M s a w1:=by
   rcases h2 with rfl|rfl
   .exact hR
   .exact⟨hR.val.of_heap rfl,hR.ext.drew rfl rfl rfl rfl,hR.env,hR.size,hR.marks,hR.apart⟩
  have hh:w1.heap=w.heap:=by rcases h2 with rfl|rfl<;>rfl
  have wI:(o.semAt F.round a.eval).run P w=.ok (.value (.tuple #[.bool true,e.key,e.val])) (setBlock w1 r' (.mapIter (some rb) n' (sa.push e.born) xs.size)):=by simp[Oper.semAt,execOp,jY,acT,h3]
  rw[wI,Oper.uponIn_value,af0];have aQ:r'<w1.heap.size:=by rw[hh];exact(a2t.1 d2).1
  obtain⟨v4,x4⟩:=EG (o':=.mapIter (some rb) n' (sa.push e.born) xs.size) (b':=.dD r n' (j::seen)) yC.val hmb hb rfl ⟨rb,q,sa.push e.born,d1,by simp[aQ,hnn],d3,by
   rw[Array.toList_push,a4Z,d4,z1];simp[z2]⟩
  have SY:=yC.next hB (s':={ s with heap:=s.heap.set b (.dD r n' (j::seen)),ws:=kN h0.length [.h b] s.ws }) v4 x4 rfl rfl (fun _ _ h=>h);exact hK _ _ _ _ (aj8 j e' hj z3) (SY.aj6 hd (.val (.Ro (.cons (.bool true) (.cons z4 (.cons z5 .nil))))))
theorem Vb{it nx:Nat}{o1 o2:Oper}(h:Bh ops=some (it,nx,o1,o2)):ops=#[o1,o2]∧o1.op=.next (.tmp it) false∧o1.dst=some nx∧o1.guard=none∧o1.after.toList.all (fun e=>!Region.binds .any e)=true∧o2.after.toList.any (fun e=>Region.binds .any e&&e.on==0)=true∧o2.after.toList.all (fun e=>!Region.binds .any e||e.on==0)=true:=by
 unfold Bh at h;split at h
 .rename_i x y hl;split at h
  .rename_i it' nx' h1 h2 h3;split at h
   .rename_i hc;simp only[a0k,a0T]at h;obtain⟨rfl,rfl,rfl,rfl⟩:=h;simp only[a2c]at hc;exact⟨aeI (by simpa using hl),h1,h2,h3,hc.1.1,hc.1.2,hc.2⟩
   cases h
  cases h
 cases h
def Nl(P:LI1)(M0:Mp)(h0:List HB)(w0:LI4)(nt:Nat)(c:Code)(s:St)(QT:Ex->St->Prop):Prop:=
 ∀(n:Nat) (Q:Exit->Act->LI4->Prop) (M:Mp) (a:Act) (w:LI4),Rel M0 h0 w0 nt M s a w->(∀e s' M' a' w',QT e s'->Rel M0 h0 w0 nt M' s' a' w'->Q (ZQ e) a' w')->c.wpIn (oG none) n P Q a w
theorem a6q(hB:xK M0 h0 w0){c:Code}{live:List Nat}{g:St->(Ex->St->Prop)->Prop}(ih:∀s QT,g s QT->Nl P M0 h0 w0 nt c (kR live s) QT){k:Nat}{s:St}{QT:Ex->St->Prop}
  (h:I8 g k s QT):Nl P M0 h0 w0 nt (.loop c) s QT:=by
 intro n Q M a w hR hQ
 let J:Act->LI4->Nat->Prop:=fun a w k=>∃s M,I8 g k s QT∧Rel M0 h0 w0 nt M s a w
 refine wpIn_loop (fun a w=>∃k,J a w k) (fun a w=>leastOf (J a w)) ⟨k,s,M,h,hR⟩ ?_;intro a1 w1 hI;obtain⟨⟨s1,M1,Ry,yC⟩,_⟩:=leastOf_spec hI;generalize leastOf (J a1 w1)=k1 at Ry ⊢;cases k1 with
 |zero=>exact Ry.elim
 |succ k1=>
  refine ih s1 _ Ry n _ _ a1 w1 (yC.head hB live) fun e s2 M2 a2 w2 hq SY=>?_;cases e with
  |norm=>
   have hJ:J a2 w2 k1:=⟨s2,M2,hq,SY⟩;exact⟨⟨k1,hJ⟩,Nat.lt_succ_of_le ((leastOf_spec ⟨k1,hJ⟩).2 k1 hJ)⟩
  |exit id=>exact hQ _ _ M2 a2 w2 hq SY
  |ret=>exact hQ _ _ M2 a2 w2 hq SY
def Nq(P:LI1)(cd:wo):Prop:=
 ∀f1 a1 b1 args h K,cd (.fn f1 a1 b1) args h K->∀(M:Mp) (w:LI4) (x:LI3) (xs:List LI3),Valid M vN (lK h) w->(∀k,M (.l k)=none)->VR M.h (.fn f1 a1 b1) x->bZ M.h args xs ->
  ∃d,(∀w,(Deferred.ofValue x xs.toArray).run P w=.ok d w)∧Na P d w fun y w'=>∃v h' ws,K v h' ws∧jX M h w v h' ws y w'
theorem a6r(hm:P.follows .mixedOrders=true)(hC:iO P call){cd:wo}(hD:Nq P cd)(hB:xK M0 h0 w0):∀(c:Code) (s:St) (QT:Ex->St->Prop),fO P T call cd L f h0.length nt c s QT->Nl P M0 h0 w0 nt c s QT:=by
 have plain:∀(c:Code) (s:St) (QT:Ex->St->Prop),(∃e s',exec P T call L f false h0.length nt c s=some (e,s')∧QT e s')->Nl P M0 h0 w0 nt c s QT:=by rintro c s QT ⟨e,s',h1,h2⟩ n Q M a w hR hQ;exact wJ (iy:=false) hm hC hB (fun _=>rfl) c s s' e h1 n Q M a w hR fun M' a' w' Gl=>hQ e s' M' a' w' h2 Gl
 intro c
 induction c with
 |region id ops draw=>
  intro s QT h;simp only[fO]at h;split at h
  .rename_i it nx o1 o2 hn;obtain⟨hd,hN⟩:=h;obtain⟨e1,e2,e3,e4,e5,e6,e7⟩:=Vb hn;intro n Q M a w hR hQ;refine af6 hm e1 e5 e6 e7 fun w' hw'=>?_;have Gl:Rel M0 h0 w0 nt M s a w':=by
    rcases hw' with rfl|rfl
    .exact hR
    exact⟨hR.val.of_heap rfl,hR.ext.drew rfl rfl rfl rfl,hR.env,hR.size,hR.marks,hR.apart⟩
   refine aa7 hB (i:=0) (o:=o1) (by rw[e1];rfl) e2 e3 e4 hd Gl hN ?_;rintro s1 v a1 w1 ⟨s2,is,wI,hq⟩ yC;have ZV:ops[1]? = some o2:=by rw[e1];rfl
   obtain⟨i,s3,is',hS,hr,_⟩:=DC wI;simp only[lS,a0k,a0T]at hr;obtain⟨rfl,rfl⟩:=hr;refine(I4 hC yC hS).2 none n Q 1 _ ZV fun x w2 wS=>?_;obtain⟨M',SY⟩:=OE hB yC hS wS;exact hQ .norm _ _ _ _ hq (SY.pick _)
  exact plain _ _ _ h
 |seq x y Xp ihy=>
  intro s QT h n Q M a w hR hQ;simp only[fO]at h;refine wpIn_seq (Xp s _ h n _ M a w hR fun e s1 M1 a1 w1 hq yC=>?_);cases e with
  |norm=>exact ihy s1 _ hq n Q M1 a1 w1 yC hQ
  |exit id=>exact hQ _ _ _ _ _ hq yC
  |ret=>exact hQ _ _ _ _ _ hq yC
 |cond c x y Xp ihy=>
  intro s QT h n Q M a w hR hQ;simp only[fO]at h;have hev:∀b,rH s.env c=some (.bool b)->a.eval c=.bool b:=by intro b hb;have:=Zy hR.env hb;generalize a.eval c=z at this;cases this;rfl
  split at h
  .rename_i hc;exact wpIn_cond_true (hev _ hc) (Xp s _ h n Q M a w hR hQ)
  .rename_i hc;exact wpIn_cond_false (hev _ hc) (ihy s _ h n Q M a w hR hQ)
  exact h.elim
 |block id b ih=>
  intro s QT h n Q M a w hR hQ;simp only[fO]at h;refine wpIn_block (ih s _ h n _ M a w hR fun e s1 M1 a1 w1 hq yC=>?_);have:=hQ _ _ _ _ _ hq yC;cases e with
  |norm=>exact this
  |ret=>exact this
  |exit i=>
   by_cases hi:i=id
   .simp only[hi,a2s]at this;simp only[ZQ,Exit.inBlock,hi,a2s];exact this
   simp only[hi,a3U]at this;simp only[ZQ,Exit.inBlock,hi,a3U];exact this
 |scope b ih=>
  intro s QT h n Q M a w hR hQ;simp only[fO]at h;refine OJ (ih s _ h n _ M a w hR fun e s1 M1 a1 w1 hq yC=>?_);have:=hQ _ _ _ _ _ hq yC;cases e<;>exact this
 |loop b ih=>
  intro s QT h;simp only[fO]at h;exact a6q hB (live:=T.fC f (eu b)) (fun s QT hs=>ih _ _ hs) h
 |rangeFunc g ps vM body=>
  intro s QT h;simp only[fO]at h;split at h
  .obtain⟨f1,a1,b1,hg,hv,hc⟩:=h;intro n Q M a w hR hQ;exact Tc hB hg hv (fun M w x xs=>hD _ _ _ _ _ _ hc M w x xs) (fun v h ws hk=>hk) n Q M a w hR hQ
  exact plain _ _ _ h
 |_=>
  intro s QT h;simp only[fO]at h;exact plain _ _ _ h
end
def oq(g:Nat->Option Nat):TV->Option TV
 |.ptr b o l=>(g b).map fun b=>.ptr b o l
 |.aP b o n c z e=>(g b).map fun b=>.aP b o n c z e
 |.map r=>(g r).map .map
 |.lF _=>none
 |.iter _=>none
 |.fn f a c=>match zT g a,zT g c with
  |some a,some c=>some (.fn f a c)
  |_,_=>none
 |.agg cs=>(zT g cs).map .agg
 |.dJ cs=>(zT g cs).map .dJ
 |.bool b=>some (.bool b)
 |.int k n=>some (.int k n)
 |.str s=>some (.str s)
 |.nil k=>some (.nil k)
where
 zT (g:Nat->Option Nat):List TV->Option (List TV)
 | []=>some []
 |c::cs=>match oq g c,zT g cs with
  |some v,some vs=>some (v::vs)
  |_,_=>none
theorem OO{g:Nat->Option Nat}:∀{az Zn:List TV},oq.zT g az=some Zn->az.length=Zn.length∧∀(i:Nat) c',Zn[i]? = some c'->∃c,az[i]? = some c∧oq g c=some c'
 | [],Zn,h=>by cases h;exact⟨rfl,fun i c h=>by simp at h⟩
 |a::az,Zn,h=>by
  simp only[oq.zT]at h;split at h
  .rename_i v vs e1 e2;cases h;obtain⟨h1,h2⟩:=OO e2;refine⟨by simp[h1],fun i c' hi=>?_⟩;cases i with
   |zero=>simp at hi;subst hi;exact⟨a,rfl,e1⟩
   |succ i=>exact h2 i c' (by simpa using hi)
  cases h
section
variable {g:Nat->Option Nat} {N N':Np}
theorem Nr(hg:∀b b',g b=some b'->N' b'=N b){v:TV}{x:LI3}(h:VR N v x):∀{v'},oq g v=some v'->VR N' v' x:=by
 have dH:∀{az:List TV} {xs:List LI3},az.length=xs.length->(∀(i:Nat) (c:TV) (v:LI3),az[i]? = some c->xs[i]? = some v->∀{v'},oq g c=some v'->VR N' v' v)->∀{Zn},oq.zT g az=some Zn->Zn.length=xs.length∧∀(i:Nat) (c:TV) (v:LI3),Zn[i]? = some c->xs[i]? = some v->VR N' c v:=by intro az xs hl ha Zn hr;obtain⟨h1,h2⟩:=OO hr;exact⟨by rw[<-h1,hl],fun i c v e1 e2=>by obtain⟨c0,f1,f2⟩:=h2 i c e1;exact ha i c0 v f1 e2 f2⟩
 induction h with
 |bool b=>intro v' h;cases h;exact .bool b
 |int k n=>intro v' h;cases h;exact .int k n
 |str s=>intro v' h;cases h;exact .str s
 |a3m=>intro v' h;cases h;exact .a3m
 |UM=>intro v' h;cases h;exact .UM
 |Zv=>intro v' h;cases h;exact .Zv
 |nfn=>intro v' h;cases h;exact .nfn
 |a3n=>intro v' h;cases h;exact .a3n
 |ptr hb hp h ht=>
  intro v' hr;simp only[oq,a0A]at hr;obtain⟨b',e,rfl⟩:=hr;exact .ptr (by rw[hg _ _ e];exact hb) hp h ht
 |aP hb hp h hl hc hx ha hk=>
  intro v' hr;simp only[oq,a0A]at hr;obtain⟨b',e,rfl⟩:=hr;exact .aP (by rw[hg _ _ e];exact hb) hp h hl hc hx ha hk
 |map h=>
  intro v' hr;simp only[oq,a0A]at hr;obtain⟨b',e,rfl⟩:=hr;exact .map (by rw[hg _ _ e];exact h)
 |lF h=>intro v' hr;simp[oq]at hr
 |fn h1 h2 h3 h4 i2 i4=>
  intro v' hr;simp only[oq]at hr;split at hr
  .rename_i a c e1 e2;cases hr;obtain⟨p1,p2⟩:=dH h1 i2 e1;obtain⟨q1,q2⟩:=dH h3 i4 e2;exact .fn p1 p2 q1 q2
  cases hr
 |iter h=>intro v' hr;simp[oq]at hr
 |agg h1 h2 i2=>
  intro v' hr;simp only[oq,a0A]at hr;obtain⟨a,e,rfl⟩:=hr;obtain⟨p1,p2⟩:=dH h1 i2 e;exact .agg p1 p2
 |dJ h1 h2 i2=>
  intro v' hr;simp only[oq,a0A]at hr;obtain⟨a,e,rfl⟩:=hr;obtain⟨p1,p2⟩:=dH h1 i2 e;exact .dJ p1 p2
def ql(g:Nat->Option Nat):List (TV×TV)->Option (List (TV×TV))
 | []=>some []
 |(k,v)::r=>match oq g k,oq g v,ql g r with
  |some k,some v,some r=>some ((k,v)::r)
  |_,_,_=>none
theorem Xq:∀{az Zn:List (TV×TV)},ql g az=some Zn->az.length=Zn.length∧∀(i:Nat) c',Zn[i]? = some c'->∃c,az[i]? = some c∧oq g c.1=some c'.1∧oq g c.2=some c'.2
 | [],Zn,h=>by cases h;exact⟨rfl,fun i c h=>by simp at h⟩
 |(k,v)::az,Zn,h=>by
  simp only[ql]at h;split at h
  .rename_i k' v' vs e0 e1 e2;cases h;obtain⟨h1,h2⟩:=Xq e2;refine⟨by simp[h1],fun i c' hi=>?_⟩;cases i with
   |zero=>simp at hi;subst hi;exact⟨(k,v),rfl,e0,e1⟩
   |succ i=>exact h2 i c' (by simpa using hi)
  cases h
def vg(g:Nat->Option Nat):HB->Option HB
 |.cells k cs=>(oq.zT g cs).map (.cells k)
 |.map es=>(ql g es).map .map
 |.mark=>some .mark
 |_=>none
theorem a6s{v v':TV}(h:oq g v=some v'):jk v'=jk v:=by
 cases v<;>simp only[oq,a0A,a0k]at h
 all_goals first
  |(obtain⟨b,_,rfl⟩:=h;rfl)
  |(subst h;rfl)
  |(split at h<;>cases h;rfl)
  |cases h
theorem a6t(hg:∀b b',g b=some b'->N' b'=N b){w:LI4}{b b':HB}{l:Lc}(h:qA N w b l)(hr:vg g b=some b'):qA N' w b' l:=by
 cases b with
 |cells k cs=>
  cases l with
  |obj r _=>exact h.elim
  |cells ls=>
   simp only[vg,a0A]at hr;obtain⟨cs',e,rfl⟩:=hr;obtain⟨h1,h2⟩:=OO e;refine⟨fun c hc=>?_,fun p hp=>?_,fun hk=>by rw[<-h1];exact h.2.2.1 hk,fun hk=>by rw[<-h1];exact h.2.2.2 hk⟩
   .obtain⟨i,hi⟩:=a9H.1 hc;obtain⟨c0,f1,f2⟩:=h2 i c hi;rw[a6s f2];exact h.1 c0 (a5q f1)
   obtain⟨⟨arr,ty,fz,a1,a2,a3,a4⟩,b1,b2,b3⟩:=h.2.1 p hp;exact⟨⟨arr,ty,fz,a1,a2,a3,fun hk i c v hi hc hv=>by obtain⟨c0,f1,f2⟩:=h2 i c hc;exact Nr hg (a4 (by rw[h1];exact hk) i c0 v hi f1 hv) f2⟩,b1,by rw[<-h1];exact b2,b3⟩
 |map es=>
  cases l with
  |cells ls=>exact h.elim
  |obj r=>
   simp only[vg,a0A]at hr;obtain⟨gJ,e,rfl⟩:=hr;obtain⟨h1,h2⟩:=Xq e;obtain⟨xs,a0,a1,a2,a3,a4,a5⟩:=h;refine⟨xs,a0,by rw[<-h1];exact a1,a2,a3,by rw[<-h1];exact a4,fun i x hx=>?_⟩;obtain⟨b1,j,e0,b2,b3,b4,b5⟩:=a5 i x hx;have hl:j<gJ.length:=by rw[<-h1];exact(a0n.1 b3).1
   obtain⟨c0,f1,f2,f3⟩:=h2 j _ (a0D hl);rw[b3]at f1;cases f1;exact⟨b1,j,_,b2,a0D hl,Nr hg b4 f2,Nr hg b5 f3⟩
 |mark=>simp only[vg,a0k]at hr;subst hr;cases l<;>exact h
 |_=>simp[vg]at hr
theorem af7{b b':HB}(h:vg g b=some b'):wr b'=wr b:=by
 cases b with
 |cells k cs=>simp only[vg,a0A]at h;obtain⟨_,_,rfl⟩:=h;cases k<;>rfl
 |map es=>simp only[vg,a0A]at h;obtain⟨_,_,rfl⟩:=h;rfl
 |mark=>simp only[vg,a0k]at h;subst h;rfl
 |_=>simp[vg]at h
end
def a6u:List Nat->Nat->Option Nat
 | [],_=>none
 |a::l,i=>match Nat.beq a i with
  |true=>some 0
  |false=>(a6u l i).map (·+1)
theorem a1C:∀{l:List Nat} {i p:Nat},a6u l i=some p->l[p]? = some i
 | [],i,p,h=>by cases h
 |a::l,i,p,h=>by
  simp only[a6u]at h;split at h
  .rename_i e;cases h;rw[a9J e];rfl
  simp only[a0A]at h;obtain⟨q,e,rfl⟩:=h;rw[aaf];exact a1C e
def Xr(fl:Nat)(oh:List Nat)(b:Nat):Option Nat:=match Nat.blt b fl with
 |true=>some b
 |false=>(a6u oh b).map (·+fl)
def DI(g:Nat->Option Nat)(h:List HB):List Nat->Option (List HB)
 | []=>some []
 |b::l=>match h[b]? with
  |some x=>match vg g x,DI g h l with
   |some y,some r=>some (y::r)
   |_,_=>none
  |none=>none
theorem OQ{g:Nat->Option Nat}{h:List HB}:∀{l:List Nat} {bs:List HB},DI g h l=some bs->l.length=bs.length∧∀(i:Nat) y,bs[i]? = some y->∃c x,l[i]? = some c∧h[c]? = some x∧vg g x=some y
 | [],bs,e=>by cases e;exact⟨rfl,fun i y h=>by simp at h⟩
 |b::l,bs,e=>by
  simp only[DI]at e;split at e
  .rename_i x hx;split at e
   .rename_i y r e1 e2;cases e;obtain⟨h1,h2⟩:=OQ e2;refine⟨by simp[h1],fun i y' hi=>?_⟩;cases i with
    |zero=>simp at hi;subst hi;exact⟨b,x,rfl,hx,e1⟩
    |succ i=>exact h2 i y' (by simpa using hi)
   cases e
  cases e
theorem jX.gc{M:Mp}{h h' bs:List HB}{w w':LI4}{v v':TV}{y:LI3}{oh:List Nat}(hV:Valid M vN (lK h) w)(hl:∀k,M (.l k)=none)(hR:jX M h w v h' [] y w')(hn:oh.Nodup)(hk:∀b∈oh,h.length<=b)(hv:oq (Xr h.length oh) v=some v')(hb:DI (Xr h.length oh) h' oh=some bs):jX M h w v' (h++bs) [] y w':=by
 obtain⟨M',ZH,hl',hX,hv'⟩:=hR;have ZW:∀b l,M (.h b)=some l->b<h.length:=fun b l hb=>by
  have:=hV.has hb;simp only[lK,St.get]at this;rcases a5h b h.length with h1|h1
  .exact h1
  rw[a4Y h1]at this;simp at this
 have hold:∀b,b<h.length->M' (.h b)=M (.h b):=fun b hb=>hX.lT (.h b) (.inl (by simp[lK,St.get,hb])) (by simp);have hoc:∀b,b<h.length->lK h' (.h b)=lK h (.h b):=fun b hb=>hX.oh (.h b) (by simp[lK,St.get,hb]) (by simp);obtain⟨p1,p2⟩:=OQ hb
 let κ:Nat->Option Nat:=fun b=>if b<h.length then some b else oh[b-h.length]?
 let M2:Mp:=fun k=>match k with
  |.l _=>none
  |.h b=>match κ b with
   |some c=>M' (.h c)
   |none=>none
 have hκ:∀b c,κ b=some c->M2 (.h b)=M' (.h c):=fun b c e=>by show(match κ b with|some c=>M' (.h c)|none=>none)=_;rw[e]
 have hκn:∀b,κ b=none->M2 (.h b)=none:=fun b e=>by show(match κ b with|some c=>M' (.h c)|none=>none)=_;rw[e]
 have hM2:∀b l,M2 (.h b)=some l->∃c,κ b=some c∧M' (.h c)=some l:=fun b l e=>by
  cases e2:κ b with
  |none=>rw[hκn b e2]at e;cases e
  |some c=>rw[hκ b c e2]at e;exact⟨c,rfl,e⟩
 have klt:∀b,b<h.length->κ b=some b:=fun b hb=>by simp only[κ,a0I hb]
 have kge:∀b,¬b<h.length->κ b=oh[b-h.length]?:=fun b hb=>by simp only[κ,a0F hb]
 have hg:∀b b',Xr h.length oh b=some b'->M2.h b'=M'.h b:=fun b b' e=>by
  unfold Xr at e;split at e
  .rename_i aQ;have aQ:b<h.length:=ahx aQ;cases e;exact hκ _ _ (klt b aQ)
  simp only[a0A]at e;obtain⟨p,e1,rfl⟩:=e;exact hκ _ _ (by rw[kge _ (by omega),Nat.add_sub_cancel];exact a1C e1)
 have hle:tV M.h M2.h:=fun b l e=>⟨l,by show M2 (.h b)=some l;rw[hκ b b (klt b (ZW b l e)),hold b (ZW b l e)];exact e,.refl l⟩;have Xt:∀c,c<w.heap.size->w'.heap[c]? = w.heap[c]?:=fun c hc=>hX.frame c hc (by simp);have hC:∀b,b<h.length->lK (h++bs) (.h b)=lK h (.h b):=fun b hb=>by simp only[lK,St.get];rw[a0E hb]
 have hC2:∀b,¬b<h.length->lK (h++bs) (.h b)=bs[b-h.length]?:=fun b hb=>by simp only[lK,St.get];rw[a1a (by omega)]
 refine⟨M2,⟨fun k l lG _=>?_,fun k k' l l' b iM h1 h2 _ hc hw=>?_,fun k l lG=>?_⟩,fun _=>rfl,⟨fun k l e=>?_,fun c hc _=>Xt c hc,fun k hs _=>?_,fun k hs _=>?_,fun k l e c hc hs=>?_,hX.size,fun k hs=>?_,by simp,by simp,hX.os,hX.output,hX.tape⟩,Nr hg hv' hv⟩
 .cases k with
  |l k=>cases lG
  |h b=>
   obtain⟨c,e1,e2⟩:=hM2 b l lG;by_cases yN:b<h.length
   .have:=klt b yN;rw[this]at e1;cases e1;rw[hold b yN]at e2;obtain⟨x,f1,f2⟩:=hV.ok _ l e2 trivial;exact⟨x,by rw[hC b yN];exact f1,f2.mono hle fun c hc=>Xt c (hV.inb _ l e2 c hc)⟩
   rw[kge b yN]at e1;have aQ:b-h.length<bs.length:=by rw[<-p1];exact(a0n.1 e1).1
   obtain⟨c',x,f1,f2,f3⟩:=p2 _ _ (a0D aQ);rw[e1]at f1;cases f1;obtain⟨x',g1,g2⟩:=ZH.ok _ l e2 trivial;have g1:h'[c]? = some x':=g1;rw[f2]at g1;cases g1;exact⟨_,by rw[hC2 b yN];exact a0D aQ,a6t hg g2 f3⟩
 .cases k with
  |l k=>cases h1
  |h b1=>
   cases k' with
   |l k=>cases h2
   |h b2=>
    obtain⟨c1,e1,e2⟩:=hM2 b1 l h1;obtain⟨c2,e3,e4⟩:=hM2 b2 l' h2;have OA:c1≠c2:=fun e=>by
     subst e;by_cases q1:b1<h.length<;>by_cases q2:b2<h.length
     .rw[klt _ q1]at e1;rw[klt _ q2]at e3;cases e1;cases e3;exact iM rfl
     .rw[klt _ q1]at e1;rw[kge _ q2]at e3;cases e1;have:=hk _ (a5q e3);omega
     .rw[kge _ q1]at e1;rw[klt _ q2]at e3;cases e3;have:=hk _ (a5q e1);omega
     rw[kge _ q1]at e1;rw[kge _ q2]at e3;have i1:=(a0n.1 e1);have i2:=(a0n.1 e3);have:=(aaD hn (h₀:=i1.1) (h₁:=i2.1)).1 (i1.2.trans i2.2.symm);exact iM (by rw[show b1=b2 by omega])
    obtain⟨x,g1,g2⟩:∃x,lK h' (.h c1)=some x∧wr x=true:=by
     by_cases q1:b1<h.length
     .rw[klt _ q1]at e1;cases e1;exact⟨b,by rw[hoc _ q1,<-hC _ q1];exact hc,hw⟩
     rw[hC2 _ q1]at hc;obtain⟨c',x,f1,f2,f3⟩:=p2 _ _ hc;rw[kge _ q1,f1]at e1;cases e1;exact⟨x,f2,by rw[<-af7 f3];exact hw⟩
    exact ZH.own (.h c1) (.h c2) l l' x (fun e=>OA (by cases e;rfl)) e2 e4 trivial g1 g2
 .cases k with
  |l k=>cases lG
  |h b=>obtain⟨c,e1,e2⟩:=hM2 b l lG;exact ZH.inb _ l e2
 .cases k with
  |l k=>rw[hl k]at e;cases e
  |h b=>exact hle b l e
 .cases k with
  |l k=>simp[lK,St.get]at hs
  |h b=>
   refine hC b ?_;simp only[lK,St.get]at hs;rcases a5h b h.length with h1|h1
   .exact h1
   rw[a4Y h1]at hs;simp at hs
 .cases k with
  |l k=>rw[hl k]
  |h b=>
   by_cases yN:b<h.length
   .rw[hκ b b (klt b yN),hold b yN]
   have h1:M (.h b)=none:=by
    cases e:M (.h b)with
    |none=>rfl
    |some l=>exact absurd (ZW b l e) yN
   rw[h1];refine hκn b ?_;rw[kge b yN];rcases hs with hs|hs
   .simp only[lK,St.get]at hs;rw[a4Y (by omega)]at hs;simp at hs
   rw[hC2 b yN]at hs;rw[List.getElem?_eq_none_iff]at hs ⊢;omega
 .cases k with
  |l k=>cases e
  |h b=>
   obtain⟨c',e1,e2⟩:=hM2 b l e;obtain⟨l0,f1,f2⟩:=hX.fresh _ l e2 c hc hs;have:=ZW _ _ f1;by_cases yN:b<h.length
   .rw[klt b yN]at e1;cases e1;exact⟨l0,f1,f2⟩
   rw[kge b yN]at e1;have:=hk _ (a5q e1);omega
 cases k with
 |l k=>simp[lK,St.get]at hs
 |h b=>
  simp only[lK,St.get]at hs ⊢;rcases a5h b h.length with h1|h1
  .simp[a0E h1,h1]
  rw[a4Y h1]at hs;simp at hs
def D5:TV->List Nat->List Nat
 |.ptr b _ _,l=>b::l
 |.aP b _ _ _ _ _,l=>b::l
 |.map b,l=>b::l
 |.fn _ a c,l=>FN a (FN c l)
 |.agg cs,l=>FN cs l
 |.dJ cs,l=>FN cs l
 |_,l=>l
where
 FN:List TV->List Nat->List Nat
 | [],l=>l
 |c::cs,l=>D5 c (FN cs l)
def aa9:Option HB->List Nat->List Nat
 |some (.cells _ cs),l=>D5.FN cs l
 |some (.map es),l=>a1D es l
 |_,l=>l
where
 a1D:List (TV×TV)->List Nat->List Nat
 | [],l=>l
 |e::es,l=>D5 e.1 (D5 e.2 (a1D es l))
def a6w(b:Nat):List Nat->Bool
 | []=>false
 |a::l=>match Nat.beq a b with
  |true=>true
  |false=>a6w b l
theorem a1E:∀{l:List Nat} {b:Nat},a6w b l=false->b∉l
 | [],b,_=>by simp
 |a::l,b,h=>by
  simp only[a6w]at h;split at h
  .cases h
  rename_i e;rw[a2x];rintro (rfl|h2)
  .rw[Nat.beq_refl]at e;cases e
  exact a1E h h2
def xM(h:List HB)(fl:Nat):Nat->List Nat->List Nat->List Nat
 | 0,_,acc=>acc
 |_+1,[],acc=>acc
 |n+1,b::t,acc=>match Nat.blt b fl||a6w b acc with
  |true=>xM h fl n t acc
  |false=>xM h fl n (aa9 h[b]? t) (b::acc)
theorem JC{h:List HB}{fl:Nat}:∀(n:Nat) (t acc:List Nat),acc.Nodup->(∀b∈acc,fl<=b)->(xM h fl n t acc).Nodup∧∀b∈xM h fl n t acc,fl<=b
 | 0,_,_,h1,h2=>⟨h1,h2⟩
 |_+1,[],_,h1,h2=>⟨h1,h2⟩
 |n+1,b::t,acc,h1,h2=>by
  simp only[xM];split
  .exact JC n t acc h1 h2
  rename_i e;simp only[aa8]at e;have e1:fl<=b:=by
   rcases a5h b fl with h3|h3
   .rw[show Nat.blt b fl=true from Nat.ble_eq_true_of_le h3]at e;cases e.1
   exact h3
  exact JC n _ _ (a5n.2 ⟨a1E e.2,h1⟩) fun c hc=>by
   rcases a2x.1 hc with rfl|hc
   .exact e1
   exact h2 c hc
def Td:TV->LI0
 |.bool b=>[if b then 1 else 0]
 |.int _ n=>[n]
 |.agg cs=>codes cs
 |_=>[]
where
 codes:List TV->LI0
 | []=>[]
 |c::cs=>Td c++codes cs
def lW:LI0->LI0->Bool
 | [],_=>true
 |_::_,[]=>false
 |a::az,b::bs=>if a<b then true else if b<a then false else lW az bs
section
variable {α:Type} (key:α->LI0)
def Fg(e:α):List α->List α
 | []=>[e]
 |x::l=>if lW (key e) (key x)then e::x::l else x::Fg e l
def zU:List α->List α
 | []=>[]
 |e::l=>Fg key e (zU l)
theorem Tf(e:α):∀l,(Fg key e l).Perm (e::l)
 | []=>.refl _
 |x::l=>by
  unfold Fg;split
  .exact .refl _
  exact((Tf e l).cons x).trans (.swap e x l)
theorem qN:∀l,(zU key l).Perm l
 | []=>.refl _
 |e::l=>(Tf key e _).trans ((qN l).cons e)
end
abbrev Ti:List (TV×TV)->List (TV×TV):=zU fun e=>Td e.1
abbrev Tj:List TV->List TV:=zU Td
theorem Gn(l):(Ti l).Perm l:=qN _ l
structure Ix{α:Type}(l1 l2:List α)(f g:Nat->Nat):Prop where
 to:∀i,i<l1.length->f i<l1.length∧g (f i)=i∧l2[f i]? = l1[i]?
 fro:∀j,j<l1.length->g j<l1.length∧f (g j)=j
theorem a1F{α:Type}{l1 l2:List α}(h:l1.Perm l2):∃f g,Ix l1 l2 f g:=by
 induction h with
 |nil=>exact⟨id,id,⟨fun i hi=>by simp at hi,fun i hi=>by simp at hi⟩⟩
 |cons x h ih=>
  obtain⟨f,g,h1,h2⟩:=ih;refine⟨fun i=>match i with| 0=>0|i+1=>f i+1,fun i=>match i with| 0=>0|i+1=>g i+1,⟨fun i hi=>?_,fun j hj=>?_⟩⟩
  .cases i with
   |zero=>simp
   |succ i=>
    obtain⟨a,b,c⟩:=h1 i (by simpa using hi);exact⟨by simpa using a,by simp[b],by simpa using c⟩
  cases j with
  |zero=>simp
  |succ j=>
   obtain⟨a,b⟩:=h2 j (by simpa using hj);exact⟨by simpa using a,by simp[b]⟩
 |swap x y l=>
  refine⟨fun i=>match i with| 0=>1| 1=>0|i+2=>i+2,fun i=>match i with| 0=>1| 1=>0|i+2=>i+2,⟨fun i hi=>?_,fun j hj=>?_⟩⟩
  .match i with
   | 0=>simp
   | 1=>simp
   |i+2=>simp at hi ⊢;exact hi
  match j with
  | 0=>simp
  | 1=>simp
  |j+2=>simp at hj ⊢;exact hj
 |trans h h' ih ih'=>
  obtain⟨f,g,h1,h2⟩:=ih;obtain⟨f',g',h3,h4⟩:=ih';have hl:=h.length_eq;refine⟨fun i=>f' (f i),fun j=>g (g' j),⟨fun i hi=>?_,fun j hj=>?_⟩⟩
  .obtain⟨a,b,c⟩:=h1 i hi;obtain⟨a',b',c'⟩:=h3 (f i) (by omega);exact⟨by omega,by simp only[b',b],by rw[c',c]⟩
  obtain⟨a,b⟩:=h4 j (by omega);obtain⟨a',b'⟩:=h2 (g' j) (by omega);exact⟨a',by simp only[b',b]⟩
theorem xC.perm{N:Np}{o:List Nat}{es gJ:List (TV×TV)}{xs:Array MapEntry}(h:xC N o es xs){f g:Nat->Nat}(hf:Ix es gJ f g)(hl:gJ.length=es.length):xC N (o.map f) gJ xs:=by
 have aQ:∀j∈o,j<es.length:=fun j hj=>by
  obtain⟨i,hi⟩:=a9H.1 hj;have:i<xs.size:=by rw[<-h.ord];exact(a0n.1 hi).1
  obtain⟨_,j',e,z1,z2,_⟩:=h.at_ i _ (a4w this);rw[hi]at z1;cases z1;exact(a0n.1 z2).1
 refine⟨by rw[hl,h.len],by rw[a5c,h.ord],?_,fun j hj=>?_,fun i x hx=>?_⟩
 .have:∀l:List Nat,(∀j∈l,j<es.length)->l.Nodup->(l.map f).Nodup:=by
   intro l
   induction l with
   |nil=>simp
   |cons a l ih=>
    intro h1 h2;rw[a5n]at h2;rw[a5g,a5n];refine⟨fun hm=>?_,ih (fun j hj=>h1 j (by simp[hj])) h2.2⟩;obtain⟨b,hb,e⟩:=a1e.1 hm;have e1:=(hf.to a (h1 a (by simp))).2.1;have e2:=(hf.to b (h1 b (by simp[hb]))).2.1;rw[e,e1]at e2;exact h2.1 (e2▸hb)
  exact this o aQ h.nod
 .obtain⟨a,b⟩:=hf.fro j (by omega);exact a1e.2 ⟨g j,h.sur _ a,b⟩
 obtain⟨z1,j,e,z2,z3,z4⟩:=h.at_ i x hx;exact⟨z1,f j,e,by rw[a5m,z2];rfl,by rw[(hf.to j (a0n.1 z3).1).2.2];exact z3,z4⟩
def LcW:Lc->Lc->Prop
 |.cells ls,.cells yJ=>ls=yJ
 |.obj r _,.obj r' _=>r=r'
 |_,_=>False
def aac(N N':Np):Prop:=∀b l,N b=some l->∃l',N' b=some l'∧LcW l l'
theorem VR.FP{N N':Np}(hm:aac N N'){v:TV}{x:LI3}(h:VR N v x):VR N' v x:=by
 induction h with
 |bool b=>exact .bool b
 |int k n=>exact .int k n
 |str s=>exact .str s
 |a3m=>exact .a3m
 |UM=>exact .UM
 |Zv=>exact .Zv
 |nfn=>exact .nfn
 |a3n=>exact .a3n
 |ptr hb hp h ht=>
  obtain⟨l',h1,h2⟩:=hm _ _ hb;cases l' with
  |obj r _=>exact h2.elim
  |cells yJ=>cases h2;exact .ptr h1 hp h ht
 |aP hb hp h hl hc hx ha hk=>
  obtain⟨l',h1,h2⟩:=hm _ _ hb;cases l' with
  |obj r _=>exact h2.elim
  |cells yJ=>cases h2;exact .aP h1 hp h hl hc hx ha hk
 |map h=>
  obtain⟨l',h1,h2⟩:=hm _ _ h;cases l' with
  |obj r _=>cases h2;exact .map h1
  |cells yJ=>exact h2.elim
 |lF h=>
  obtain⟨l',h1,h2⟩:=hm _ _ h;cases l' with
  |obj r _=>cases h2;exact .lF h1
  |cells yJ=>exact h2.elim
 |iter h=>
  obtain⟨l',h1,h2⟩:=hm _ _ h;cases l' with
  |obj r _=>cases h2;exact .iter h1
  |cells yJ=>exact h2.elim
 |fn h1 _ h3 _ ih2 ih4=>exact .fn h1 ih2 h3 ih4
 |agg h1 _ ih=>exact .agg h1 ih
 |dJ h1 _ ih=>exact .dJ h1 ih
theorem xC.FP{N N':Np}(hm:aac N N'){o:List Nat}{es:List (TV×TV)}{xs:Array MapEntry}(h:xC N o es xs):xC N' o es xs:=
 ⟨h.len,h.ord,h.nod,h.sur,fun i x hx=>let ⟨b,j,e,h1,h2,h3,h4⟩:=h.at_ i x hx;⟨b,j,e,h1,h2,h3.FP hm,h4.FP hm⟩⟩
theorem nD.FP{N N':Np}{w:LI4}{k:BK}{cs:List TV}{ls:List Pl}(hm:aac N N')(h:nD N w k cs ls):nD N' w k cs ls:=by refine⟨h.1,fun p hp=>?_,h.2.2⟩;obtain⟨⟨arr,ty,fz,h1,h2,h3,h4⟩,p1,p2,p3⟩:=h.2.1 p hp;exact⟨⟨arr,ty,fz,h1,h2,h3,fun z i c v a b d=>(h4 z i c v a b d).FP hm⟩,p1,p2,p3⟩
theorem nD.last{N:Np}{w:LI4}{k:BK}{cs:List TV}{ls:List Pl}(hk:k≠.ro)(h:nD N w k cs ls):nD N w .last cs ls:=by
 refine⟨h.1,fun p hp=>?_,fun e=>(by cases e),fun _=>?_⟩
 .obtain⟨⟨arr,ty,fz,h1,h2,h3,h4⟩,p1,p2,p3⟩:=h.2.1 p hp;exact⟨⟨arr,ty,fz,h1,h2,fun _=>h3 hk,fun z=>h4 fun _=>z rfl⟩,p1,p2,fun _=>p3 hk⟩
 cases k with
 |ro=>exact absurd rfl hk
 |own=>
  obtain⟨p,rfl,_⟩:=h.2.2.1 rfl;refine⟨by simp,fun p hp q hq _ _=>?_⟩;rw[a2U]at hp hq;rw[hp,hq]
 |grow=>exact h.2.2.2 (.inl rfl)
 |last=>exact h.2.2.2 (.inr rfl)
def MH(fl:Nat):TV->TV
 |.aP b off len cap sz ex=>if b<fl then .aP b off len cap sz ex else .aP b off len len sz false
 |v=>v
def Vd(fl:Nat):TV->TV
 |.dJ cs=>.dJ (cs.map (MH fl))
 |v=>MH fl v
def Rz(nX:Bool):HB->HB
 |.cells .ro cs=>.cells .ro cs
 |.cells _ cs=>if nX then .nX (Tj cs)else .cells .last cs
 |.map es=>.map (Ti es)
 |x=>x
def OU(nX:Bool)(h:List HB)(v:TV)(h1:List HB):Option (TV×List HB):=
 match xM h1 h.length 5000 (D5 v []) []with
 |oh=>match oq (Xr h.length oh) v,DI (Xr h.length oh) h1 oh with
  |some v',some bs=>some (Vd h.length v',h++bs.map (Rz nX))
  |_,_=>none
def fS(es:List (TV×TV)):Nat->Nat:=Classical.choose (a1F (Gn es).symm)
theorem aj9(es:List (TV×TV)):∃g,Ix es (Ti es) (fS es) g:=a9R (a1F (Gn es).symm)
def mapOf(h bs:List HB)(b:Nat):Option (List (TV×TV)):=
 if b<h.length then none else match bs[b-h.length]? with
  |some (.map es)=>some es
  |_=>none
def Bj(h bs:List HB)(b:Nat)(l:Lc):Lc:=
 match mapOf h bs b,l with
 |some es,.obj r o=>.obj r (o.map (fS es))
 |_,l=>l
theorem yP{h bs:List HB}{b:Nat}{l:Lc}:aK (Bj h bs b l)=aK l:=by unfold Bj;split<;>rfl
theorem LcW.refl(l:Lc):LcW l l:=by cases l<;>rfl
theorem af9{h bs:List HB}{b:Nat}{l:Lc}:LcW l (Bj h bs b l):=by
 unfold Bj;split
 .rfl
 exact .refl _
theorem OV{h bs:List HB}{b:Nat}{l:Lc}(hb:b<h.length):Bj h bs b l=l:=by unfold Bj mapOf;rw[a0I hb]
theorem aad{nX:Bool}{x:HB}(h:wr (Rz nX x)=true):wr x=true:=by
 cases x with
 |cells k cs=>cases k<;>first|exact h|rfl
 |_=>first|exact h|rfl
theorem a1G{N:Np}{fl:Nat}{v:TV}{x:LI3}(h:VR N v x):VR N (MH fl v) x:=by
 cases h with
 |aP hb hp h hl hc hx ha hk=>
  simp only[MH];split
  .exact .aP hb hp h hl hc hx ha hk
  exact .aP hb hp (a5M (Nat.add_le_add_left (a3Z _ hl) _) h) (a15 _) (a5M hl hc) (fun e=>by cases e) ha hk
 |_=>first|(constructor;done)|(constructor<;>assumption)
theorem aae{N:Np}{fl:Nat}{v:TV}{x:LI3}(h:VR N v x):VR N (Vd fl v) x:=by
 cases h with
 |dJ h1 h2=>
  refine .dJ (by simpa using h1) fun i c v hc hv=>?_;rw[a5m]at hc;obtain⟨c0,e1,rfl⟩:=a0A.1 hc;exact a1G (h2 i c0 v e1 hv)
 |aP hb hp h hl hc hx ha hk=>exact a1G (.aP hb hp h hl hc hx ha hk)
 |_=>first|(constructor;done)|(constructor<;>assumption)
theorem jX.nrm{M:Mp}{h bs:List HB}{w w':LI4}{v:TV}{y:LI3}(nX:Bool)(hV:Valid M vN (lK h) w)(hl:∀k,M (.l k)=none)(hn:∀x∈bs,∀m n seen,x≠.dD m n seen)(hR:jX M h w v (h++bs) [] y w'):jX M h w (Vd h.length v) (h++bs.map (Rz nX)) [] y w':=by
 obtain⟨M',ZH,hl',hX,hv'⟩:=hR;have ZW:∀b l,M (.h b)=some l->b<h.length:=fun b l hb=>by
  have:=hV.has hb;simp only[lK,St.get]at this;rcases a5h b h.length with h1|h1
  .exact h1
  rw[a4Y h1]at this;simp at this
 have hold:∀b,b<h.length->M' (.h b)=M (.h b):=fun b hb=>hX.lT (.h b) (.inl (by simp[lK,St.get,hb])) (by simp)
 let M2:Mp:=fun k=>match k with
  |.l _=>none
  |.h b=>(M' (.h b)).map (Bj h bs b)
 have hM2:∀b,M2 (.h b)=(M' (.h b)).map (Bj h bs b):=fun b=>rfl;have inv:∀b l2,M2 (.h b)=some l2->∃l,M' (.h b)=some l∧l2=Bj h bs b l:=fun b l2 e=>by rw[hM2]at e;obtain⟨l,e1,e2⟩:=a0A.1 e;exact⟨l,e1,e2.symm⟩
 have hmW:aac M'.h M2.h:=fun b l e=>by have e:M' (.h b)=some l:=e;exact⟨_,(show M2 (.h b)=_ by rw[hM2,e];rfl),af9⟩
 have hle:tV M.h M2.h:=fun b l e=>by have e:M (.h b)=some l:=e;have hb:=ZW b l e;exact⟨l,(show M2 (.h b)=_ by rw[hM2,hold b hb,e];simp[OV hb]),.refl l⟩
 have Xt:∀c,c<w.heap.size->w'.heap[c]? = w.heap[c]?:=fun c hc=>hX.frame c hc (by simp);have hC:∀b,b<h.length->lK (h++bs.map (Rz nX)) (.h b)=lK h (.h b):=fun b hb=>by simp only[lK,St.get];rw[a0E hb]
 have hC1:∀b,¬b<h.length->lK (h++bs) (.h b)=bs[b-h.length]?:=fun b hb=>by simp only[lK,St.get];rw[a1a (by omega)]
 have hC2:∀b,¬b<h.length->lK (h++bs.map (Rz nX)) (.h b)=(bs[b-h.length]?).map (Rz nX):=fun b hb=>by simp only[lK,St.get];rw[a1a (by omega),a5m]
 have hCo:∀b,b<h.length->lK (h++bs) (.h b)=lK h (.h b):=fun b hb=>by simp only[lK,St.get];rw[a0E hb]
 refine⟨M2,⟨fun k l lG _=>?_,fun k k' l l' b iM q1 q2 _ hc hw=>?_,fun k l lG=>?_⟩,fun _=>rfl,⟨fun k l e=>?_,hX.frame,fun k hs hn=>?_,fun k hs hn=>?_,fun k l e c hc hs=>?_,hX.size,fun k hs=>?_,by simp,by simp,hX.os,hX.output,hX.tape⟩,aae (hv'.FP hmW)⟩
 .cases k with
  |l k=>cases lG
  |h b=>
   obtain⟨l0,e1,rfl⟩:=inv b l lG;by_cases hb:b<h.length
   .rw[OV hb,hC b hb];rw[hold b hb]at e1;obtain⟨x,f1,f2⟩:=hV.ok _ l0 e1 trivial;exact⟨x,f1,f2.mono hle fun c hc=>Xt c (hV.inb _ l0 e1 c hc)⟩
   obtain⟨x,x1,x2⟩:=ZH.ok _ l0 e1 trivial;rw[hC1 b hb]at x1;refine⟨Rz nX x,by rw[hC2 b hb,x1];rfl,?_⟩;cases x with
   |cells k cs=>
    cases l0 with
    |obj r o=>exact x2.elim
    |cells ls=>
     have x3:nD M2.h w' k cs ls:=nD.FP hmW x2;have e:Bj h bs b (.cells ls)=.cells ls:=by unfold Bj;split<;>first|rfl|simp_all
     rw[e];have go:k≠.ro->qA M2.h w' (if nX then .nX (Tj cs)else .cells .last cs) (.cells ls):=fun hk=>by
      cases nX with
      |true=>exact⟨cs,(qN _ cs).symm,x3.last hk⟩
      |false=>exact x3.last hk
     cases k with
     |ro=>exact x3
     |own=>exact go (by simp)
     |grow=>exact go (by simp)
     |last=>exact go (by simp)
   |nX cs=>
    cases l0 with
    |obj r o=>exact x2.elim
    |cells ls=>
     have e:Bj h bs b (.cells ls)=.cells ls:=by unfold Bj;split<;>first|rfl|simp_all
     rw[e];obtain⟨cs',h1,h2⟩:=x2;exact⟨cs',h1,nD.FP hmW h2⟩
   |map es=>
    cases l0 with
    |cells ls=>exact x2.elim
    |obj r o=>
     obtain⟨xs,y1,y2⟩:=x2;have e:Bj h bs b (.obj r o)=.obj r (o.map (fS es)):=by
      have:mapOf h bs b=some es:=by unfold mapOf;rw[a0F hb,x1]
      unfold Bj;rw[this]
     rw[e];obtain⟨g,hg⟩:=aj9 es;exact⟨xs,y1,(y2.FP hmW).perm hg (Gn es).length_eq⟩
   |mark=>
    have e:∀r o,Bj h bs b (.obj r o)=.obj r o:=fun r o=>by
     have:mapOf h bs b=none:=by unfold mapOf;rw[a0F hb,x1]
     unfold Bj;rw[this]
    cases l0 with
    |cells ls=>exact x2.elim
    |obj r o=>rw[e];exact x2
   |dD m n seen=>exact absurd rfl (hn _ (a5q x1) m n seen)
   |loop rd f nt env ps a b9 jW=>
    have e:∀r o,Bj h bs b (.obj r o)=.obj r o:=fun r o=>by
     have:mapOf h bs b=none:=by unfold mapOf;rw[a0F hb,x1]
     unfold Bj;rw[this]
    cases l0 with
    |cells ls=>exact x2.elim
    |obj r o=>
     rw[e];obtain⟨lp,h1,h2⟩:=x2;exact⟨lp,h1,{ h2 with Md:=fun t v e=>(h2.Md t v e).FP hmW }⟩
 .cases k with
  |l k=>cases q1
  |h b1=>
   cases k' with
   |l k=>cases q2
   |h b2=>
    obtain⟨l1,e1,rfl⟩:=inv b1 l q1;obtain⟨l2,e2,rfl⟩:=inv b2 l' q2;rw[yP,yP];obtain⟨x,g1,g2⟩:∃x,lK (h++bs) (.h b1)=some x∧wr x=true:=by
     by_cases q1:b1<h.length
     .exact⟨b,by rw[hCo _ q1,<-hC _ q1];exact hc,hw⟩
     rw[hC2 _ q1]at hc;obtain⟨x,f1,rfl⟩:=a0A.1 hc;exact⟨x,by rw[hC1 _ q1];exact f1,aad hw⟩
    exact ZH.own (.h b1) (.h b2) l1 l2 x iM e1 e2 trivial g1 g2
 .cases k with
  |l k=>cases lG
  |h b=>
   obtain⟨l0,e1,rfl⟩:=inv b l lG;rw[yP];exact ZH.inb _ l0 e1
 .cases k with
  |l k=>rw[hl k]at e;cases e
  |h b=>exact hle b l e
 .cases k with
  |l k=>simp[lK,St.get]at hs
  |h b=>exact hC b (by simpa[lK,St.get]using hs)
 .cases k with
  |l k=>rw[hl k]
  |h b=>
   by_cases hb:b<h.length
   .rw[hM2,hold b hb];cases M (.h b)with
    |none=>rfl
    |some l=>simp only[a19];rw[OV hb]
   have h0:M (.h b)=none:=by
    cases e:M (.h b)with
    |none=>rfl
    |some l=>exact absurd (ZW b l e) hb
   have Ez:lK (h++bs) (.h b)=none:=by
    rcases hs with hs|hs
    .have:b<h.length:=(by simpa[lK,St.get]using hs);omega
    rw[hC2 _ hb]at hs;rw[hC1 _ hb];simpa using hs
   have:M' (.h b)=M (.h b):=hX.lT (.h b) (.inr Ez) (by simp);rw[h0,hM2,this,h0];rfl
 .cases k with
  |l k=>cases e
  |h b=>
   obtain⟨l0,e1,rfl⟩:=inv b l e;rw[yP]at hc;exact hX.fresh _ l0 e1 c hc hs
 cases k with
 |l k=>simp[lK,St.get]at hs
 |h b=>
  have hb:b<h.length:=by simpa[lK,St.get]using hs
  rw[hC b hb];exact hs
theorem Xu{g:Nat->Option Nat}{x y:HB}(h:vg g x=some y):∀m n seen,y≠.dD m n seen:=by
 cases x<;>simp only[vg,a0A,a0k]at h
 all_goals first
  |(obtain⟨_,_,rfl⟩:=h;simp)
  |(subst h;simp)
  |cases h
theorem jX.norm{M:Mp}{h h1 h2:List HB}{w w':LI4}{v v2:TV}{y:LI3}{nX:Bool}(hV:Valid M vN (lK h) w)(hl:∀k,M (.l k)=none)(ho:OU nX h v h1=some (v2,h2))(hR:jX M h w v h1 [] y w'):jX M h w v2 h2 [] y w':=by
 unfold OU at ho;simp only at ho;obtain⟨k1,k2⟩:=JC (h:=h1) (fl:=h.length) 5000 (D5 v []) [] .nil (by simp);split at ho
 .rename_i v' bs e1 e2;cases ho;refine jX.nrm nX hV hl (fun x hx=>?_) (hR.gc hV hl k1 k2 e1 e2);obtain⟨i,hi⟩:=a9H.1 hx;obtain⟨_,_,_,_,e⟩:=(OQ e2).2 i x hi;exact Xu e
 cases ho
section
variable {P:LI1} {T:ru} {call:bn} {L:Nat} {nt:Nat} {M:Mp} {h:List HB} {w:LI4}
def RD(tmps:Array LI3):List (Nat×LI3)->Array LI3
 | []=>tmps
 |(t,a)::r=>RD (tmps.setIfInBounds t a) r
theorem Tn:∀{l:List (Nat×LI3)} {tmps:Array LI3},(RD tmps l).size=tmps.size
 | [],_=>rfl
 |(t,a)::r,tmps=>by rw[RD,Tn];simp
theorem OW:∀(l:List (Nat×LI3)) (tmps:Array LI3),l.foldl (fun tmps (t,a)=>tmps.setIfInBounds t a) tmps=RD tmps l
 | [],_=>rfl
 |(t,a)::r,tmps=>by rw[aeb,OW r];rfl
theorem Tq{N:Np}{nt:Nat}:∀{ps:List Nat} {args:List TV} {xs:List LI3} {env:List (Nat×EV)} {tmps:Array LI3},bZ N args xs->args.length=ps.length->(∀p∈ps,p<nt)->nt<=tmps.size ->
  (∀t v,dR t env=some (.val v)->VR N v (tmps.getD t Go.undef))->(∀t,dR t env=some .undef->tmps.getD t Go.undef=Go.undef)->(∀t e,dR t env=some e->isVal (t,e)=true) ->
  (∀t v,dR t (ug env ps args)=some (.val v)->VR N v ((RD tmps (ps.zip xs)).getD t Go.undef))∧(∀t,dR t (ug env ps args)=some .undef->(RD tmps (ps.zip xs)).getD t Go.undef=Go.undef) ∧
   (∀t e,dR t (ug env ps args)=some e->isVal (t,e)=true)
 | [],[],xs,env,tmps,_,_,_,_,h1,h2,h3=>⟨h1,h2,h3⟩
 | [],v::vs,xs,env,tmps,_,hl,_,_,_,_,_=>by simp at hl
 |p::ps,[],xs,env,tmps,_,hl,_,_,_,_,_=>by simp at hl
 |p::ps,v::vs,xs,env,tmps,hx,hl,hp,hn,h1,h2,h3=>by
  obtain⟨x,xs',rfl,hx1,hx2⟩:=hx.iY;have hpn:=hp p a3E;simp only[ug,List.zip_cons_cons,RD];have hg:∀t,(tmps.setIfInBounds p x).getD t Go.undef=if p=t then x else tmps.getD t Go.undef:=by
   intro t;simp only[a8W,a9I];by_cases h:p=t
   .subst h;simp[show p<tmps.size by omega]
   .simp[h]
  refine Tq hx2 (by simpa using hl) (fun q hq=>hp q (a4a _ hq)) (by simpa using hn) ?_ ?_ ?_
  .intro t v' he;rw[hg];simp only[dR]at he;split at he
   .rename_i h;rw[a0I h];cases he;exact hx1
   .rename_i h;rw[a0F h];exact h1 t v' he
  .intro t he;rw[hg];simp only[dR]at he;split at he
   .cases he
   .rename_i h;rw[a0F h];exact h2 t he
  .intro t e he;simp only[dR]at he;split at he
   .cases he;rfl
   .exact h3 t e he
theorem a6x(hm:P.follows .mixedOrders=true)(hC:iO P call){l l':Nat}{q:List Nat}{args:List TV}{v:TV}{h':List HB}{ws:List Nat}(hf:Oh P T call L l args h=some (v,h',ws))(hB:xK M h w)(hl:M (.h l)=some (.obj l' q))
  {xs:List LI3} (hx:bZ M.h args xs):V5 P { target:=.fn (.yield l') #[],args:=xs.toArray } w (jX M h w v h' ws):=by
 unfold Oh at hf;split at hf
 .rename_i f nt env ps vM body jW hh;split at hf
  .rename_i hc;obtain⟨hlen,hps⟩:=hc;have apk:∀p∈ps,p<nt:=fun p hp=>(by simpa using a5s.1 hps p hp);obtain⟨gK,k1,k2⟩:=hB.val.ok _ _ hl trivial;simp only[lK,St.get,hh,a0k]at k1;subst k1;obtain⟨lp,l1,l2⟩:=k2;have hlb:l<h.length:=(a0n.1 hh).1;have hpa:lp.params.size=xs.length:=by have:=l2.ps;rw[<-hx.len,hlen,<-this];simp
   have apl:(lp.params.zip xs.toArray).foldl (fun tmps (t,a)=>tmps.setIfInBounds t a) lp.tmps=RD lp.tmps (ps.zip xs):=by rw[<-Array.foldl_toList,Array.toList_zip,l2.ps];exact OW _ _
   refine⟨l',lp.fn,RD lp.tmps (ps.zip xs),vM,body,?_,fun n=>?_⟩
   .have h1:(Instr.yield l' xs.toArray).run P w=.ok (.round l' lp.fn ((lp.params.zip xs.toArray).foldl (fun tmps (t,a)=>tmps.setIfInBounds t a) lp.tmps) lp.assign lp.body) w:=by simp[Instr.yield,Instr.getLoop,getObj,Sem.run,l1,hpa]
    rw[apl,l2.vM,l2.body]at h1;exact h1
   obtain⟨p1,p2,p3⟩:=Tq hx hlen apk l2.size l2.Md l2.UN l2.nol;have hR0:Rel M h w nt M ⟨ug env ps args,[],h,[]⟩ { tmps:=RD lp.tmps (ps.zip xs),defers:=[] } w:=by
    have hg:St.get ⟨ug env ps args,[],h,[]⟩=lK h:=getEnv ⟨[],[],h,[]⟩ _ _;refine⟨by rw[hg];exact hB.val,by rw[hg];exact .refl _ _ _,fun t e he=>?_,by rw[Tn];exact l2.size,by simp,.nil⟩;cases e with
    |val v=>exact .val (p1 t v he)
    |undef=>
     have:=p2 t he;simp only at this ⊢;rw[this];exact .undef
    |_=>exact absurd (p3 t _ he) (by simp[isVal])
   refine roundIn_of_wpIn (F:=Fence.wide) trivial ?_;split at hf
   .rename_i s1 hex;refine wJ (iy:=true) (r:=some l') hm hC hB (by simp) _ _ _ _ hex n _ M _ w hR0 fun M1 a1 w1 yC=>?_;split at hf
    .rename_i f' nt' env' ps' a' b' acU vX;obtain⟨q1,hl1⟩:∃q1,M1 (.h l)=some (.obj l' q1):=by
      obtain⟨l0,g1,g2⟩:=yC.ext.Jl _ _ hl;cases l0 with
      |cells ls=>exact g2.elim
      |obj r' o'=>cases g2.1;exact⟨o',g1⟩
     obtain⟨gK,k1,k2⟩:=yC.val.ok _ _ hl1 trivial;simp only[St.get,vX,a0k]at k1;subst k1;obtain⟨lp1,m1,m2⟩:=k2;obtain⟨v2,x2⟩:=EG yC.val hl1 vX rfl (b':=.loop false f' nt' env' ps' a' b' none) (o':=.loop { lp1 with state:=.busy }) ⟨{ lp1 with state:=.busy },by simp[(a2t.1 m1).1],
      {ps:=m2.ps,vM:=m2.vM,body:=m2.body,size:=m2.size,Md:=m2.Md,UN:=m2.UN,nol:=m2.nol,ready:=by simp,busy:=fun _ _=>rfl,done:=by simp }⟩
     have SY:=yC.next hB (s':={ s1 with heap:=s1.heap.set l (.loop false f' nt' env' ps' a' b' none),ws:=Fb h.length l s1.ws }) v2 x2 rfl rfl (fun _ _ e=>e);refine⟨{ w1 with heap:=w1.heap.setIfInBounds l' (.loop { lp1 with state:=.busy }) },?_,?_⟩
     .simp[Instr.beginRound,Instr.getLoop,getObj,setObj,Sem.run,m1,(m2.ready rfl).1]
     .split at hf
      .rename_i e s2 apn;refine wJ (iy:=true) (r:=some l') hm hC hB (by simp) _ _ _ _ apn n _ M1 _ _ SY fun M3 a3 w3 hR3=>?_;split at hf
       .rename_i f3 nt3 ajb ps3 a3' b3 hh3;simp only[a0k,a0T]at hf;obtain⟨rfl,rfl,rfl⟩:=hf;obtain⟨q3,hl3⟩:∃q3,M3 (.h l)=some (.obj l' q3):=by
         obtain⟨l0,g1,g2⟩:=hR3.ext.Jl _ _ hl;cases l0 with
         |cells ls=>exact g2.elim
         |obj r' o'=>cases g2.1;exact⟨o',g1⟩
        obtain⟨gK,k1,k2⟩:=hR3.val.ok _ _ hl3 trivial;simp only[St.get,hh3,a0k]at k1;subst k1;obtain⟨lp3,q1,q2⟩:=k2
        let lp4:Loop:={ lp3 with state:=if(uh e).isNone then .ready else .done,pending:=uh e }
        obtain⟨v4,x4⟩:=EG hR3.val hl3 hh3 rfl (b':=.loop (qw e) f3 nt3 ajb ps3 a3' b3 (uh e)) (o':=.loop lp4) ⟨lp4,by simp[(a2t.1 q1).1],
         {ps:=q2.ps,vM:=q2.vM,body:=q2.body,size:=q2.size,Md:=q2.Md,UN:=q2.UN,nol:=q2.nol
          ready:=fun hn=>by cases e<;>simp[qw]at hn;exact⟨rfl,rfl⟩
          busy:=fun hn hp=>by cases e<;>simp[qw,uh]at hn hp
          done:=fun hn j hj _=>by cases e<;>simp[qw]at hn<;>(simp only[uh,a0k]at hj;subst hj;exact⟨rfl,rfl⟩) }⟩
        have hR4:=hR3.next hB (s':={ s2 with heap:=s2.heap.set l (.loop (qw e) f3 nt3 ajb ps3 a3' b3 (uh e)),ws:=Fb h.length l s2.ws }) v4 x4 rfl rfl (fun _ _ e=>e);have OX:=ZU hB hR4 (v:=.bool (qw e)) (y:=.bool (qw e)) (.bool _);have afa:(Instr.endRound l' (uh e)).run P w3=.ok (.bool (qw e)) { w3 with heap:=w3.heap.setIfInBounds l' (.loop lp4) }:=by cases e<;>simp[Instr.endRound,Instr.getLoop,getObj,setObj,Sem.run,q1,qw,uh,lp4]
        cases e with
        |norm=>exact⟨_,_,afa,OX⟩
        |exit id=>exact⟨_,_,afa,OX⟩
        |ret=>exact⟨_,_,afa,OX⟩
       .cases hf
      .cases hf
    .cases hf
   .cases hf
  .cases hf
 .cases hf
end
def ZX(cd:wo):Prop:=∀fv args h K1 K2,cd fv args h K1->cd fv args h K2->∃v h' ws,K1 v h' ws∧K2 v h' ws
theorem Xv:ZX DF:=fun _ _ _ _ _ h _=>h.elim
theorem a3K{P:LI1}:Nq P DF:=fun _ _ _ _ _ _ h=>h.elim
section
variable {P:LI1} {T:ru} {call:bn} {cd:wo} {L f:Nat} {fl nt:Nat}
theorem OY{g:St->(Ex->St->Prop)->Prop}(hg:∀s Q1 Q2,g s Q1->g s Q2->∃e s',Q1 e s'∧Q2 e s'):∀(k:Nat) {s:St} {Q1 Q2:Ex->St->Prop},I8 g k s Q1->I8 g k s Q2->∃e s',Q1 e s'∧Q2 e s'
 | 0,_,_,_,h,_=>h.elim
 |k+1,s,Q1,Q2,h1,h2=>by
  obtain⟨e,s',q1,q2⟩:=hg _ _ _ h1 h2;cases e with
  |norm=>exact OY hg k q1 q2
  |exit i=>exact⟨_,_,q1,q2⟩
  |ret=>exact⟨_,_,q1,q2⟩
theorem ZY{s:St}{it:Nat}{K1 K2:St->TV->Prop}(h1:a1B fl s it K1)(h2:a1B fl s it K2):∃s1 v,K1 s1 v∧K2 s1 v:=by
 obtain⟨b,r,n,seen,es,a1,a2,a3,a4,a5,a6⟩:=h1;obtain⟨b',r',n',atX,gJ,c1,c2,c3,c4,c5,c6⟩:=h2;rw[a1]at c1;cases c1;rw[a2]at c2;cases c2;rw[a3]at c3;cases c3;by_cases h:∀j,j<n->j∈seen
 .exact⟨_,_,a5 h,c5 h⟩
 obtain⟨j,hj⟩:=Classical.not_forall.1 h;obtain⟨hj1,tH⟩:=Classical.not_imp.1 hj;have hl:j<es.length:=by omega
 exact⟨_,_,a6 j _ tH (a0D hl),c6 j _ tH (a0D hl)⟩
theorem OZ(hcd:ZX cd):∀(c:Code) {s:St} {Q1 Q2:Ex->St->Prop},fO P T call cd L f fl nt c s Q1->fO P T call cd L f fl nt c s Q2->∃e s',Q1 e s'∧Q2 e s':=by
 have plain:∀(c:Code) {s:St} {Q1 Q2:Ex->St->Prop},(∃e s',exec P T call L f false fl nt c s=some (e,s')∧Q1 e s')->(∃e s',exec P T call L f false fl nt c s=some (e,s')∧Q2 e s')->∃e s',Q1 e s'∧Q2 e s':=by rintro c s Q1 Q2 ⟨e,s1,h1,h2⟩ ⟨e',s2,h3,h4⟩;rw[h1]at h3;cases h3;exact⟨_,_,h2,h4⟩
 intro c
 induction c with
 |region id ops draw=>
  intro s Q1 Q2 h1 h2;simp only[fO]at h1 h2;split at h1
  .rename_i it nx o1 o2 hn;simp only[hn]at h2;obtain⟨s1,v,⟨s2,is,k1,k2⟩,⟨s3,is',k3,k4⟩⟩:=ZY h1.2 h2.2;rw[k1]at k3;cases k3;exact⟨_,_,k2,k4⟩
  rename_i hn;simp only[hn]at h2;exact plain _ h1 h2
 |seq x y Xp ihy=>
  intro s Q1 Q2 h1 h2;simp only[fO]at h1 h2;obtain⟨e,s1,q1,q2⟩:=Xp h1 h2;cases e with
  |norm=>exact ihy q1 q2
  |exit i=>exact⟨_,_,q1,q2⟩
  |ret=>exact⟨_,_,q1,q2⟩
 |cond c x y Xp ihy=>
  intro s Q1 Q2 h1 h2;simp only[fO]at h1 h2;split at h1
  .rename_i hc;simp only[hc]at h2;exact Xp h1 h2
  .rename_i hc;simp only[hc]at h2;exact ihy h1 h2
  exact h1.elim
 |block id b ih=>
  intro s Q1 Q2 h1 h2;simp only[fO]at h1 h2;obtain⟨e,s1,q1,q2⟩:=ih h1 h2;exact⟨_,_,q1,q2⟩
 |scope b ih=>
  intro s Q1 Q2 h1 h2;simp only[fO]at h1 h2;exact ih h1 h2
 |loop b ih=>
  intro s Q1 Q2 h1 h2;simp only[fO]at h1 h2;exact OY (g:=fun s Q=>fO P T call cd L f fl nt b (kR (T.fC f (eu b)) s) Q) (fun s Q1 Q2 a b=>ih a b) L h1 h2
 |rangeFunc g ps vM body=>
  intro s Q1 Q2 h1 h2;simp only[fO]at h1 h2;split at h1
  .rename_i hd;rw[a0I hd]at h2;obtain⟨f1,a1,b1,e1,_,k1⟩:=h1;obtain⟨f2,a2,b2,e2,_,k2⟩:=h2;rw[e1]at e2;cases e2;obtain⟨v,h',ws,⟨_,_,_,_,_,_,_,_,_,c1,c2,c3⟩,⟨_,_,_,_,_,_,_,_,_,d1,d2,d3⟩⟩:=hcd _ _ _ _ _ k1 k2;rw[c1]at d1;cases d1;rw[c2]at d2;cases d2;exact⟨_,_,c3,d3⟩
  rename_i hd;rw[a0F hd]at h2;exact plain _ h1 h2
 |_=>
  intro s Q1 Q2 h1 h2;simp only[fO]at h1 h2;exact plain _ h1 h2
def vP(P:LI1)(T:ru)(call:bn)(L:Nat):wo:=fun fv args h K=>match fv with
 |.fn f a b=>∃t,UK P f=some t∧fO P T call DF L f h.length t.nt t.body ⟨oD 0 (a++args++b),[],h,[]⟩ fun e s=>(e=.norm∨e=.ret)∧∃vs,yI P s t.results=some vs∧K (one vs) s.heap s.ws
 |_=>False
theorem Xw:ZX (vP P T call L):=fun fv args h K1 K2 h1 h2=>by
 cases fv with
 |fn f a b=>
  obtain⟨t,e1,k1⟩:=h1;obtain⟨t',e2,k2⟩:=h2;rw[e1]at e2;cases e2;obtain⟨e,s,⟨_,vs,a1,a2⟩,⟨_,vs',a3,a4⟩⟩:=OZ Xv _ k1 k2;rw[a1]at a3;cases a3;exact⟨_,_,_,a2,a4⟩
 |_=>exact h1.elim
def Xx(P:LI1)(T:ru)(call:bn)(L:Nat)(f:Nat)(t:FnT)(args:List TV)(h:List HB)(r:TV×List HB):Prop:=
 fO P T call (vP P T call L) L f h.length t.nt t.body ⟨oD 0 args,[],h,[]⟩ fun e s=>(e=.norm∨e=.ret)∧∃vs,yI P s t.results=some vs∧s.ws=[]∧OU (T.a9V.contains f) h (one vs) s.heap=some r
open Classical in
def a3L(P:LI1)(T:ru)(call:bn)(L:Nat)(f:Nat)(args:List TV)(h:List HB):Option (TV×List HB×List Nat):=
 match UK P f with
 |some t=>if hx:∃r,Xx P T call L f t args h r then some ((Classical.choose hx).1,(Classical.choose hx).2,[])else none
 |none=>none
theorem a3M{args:List TV}{h:List HB}{r:TV×List HB×List Nat}(hf:a3L P T call L f args h=some r):∃t,UK P f=some t∧Xx P T call L f t args h (r.1,r.2.1)∧r.2.2=[]:=by
 unfold a3L at hf;split at hf
 .rename_i t ht;split at hf
  .rename_i hx;cases hf;exact⟨t,ht,a9R hx,rfl⟩
  cases hf
 cases hf
theorem aag{args:List TV}{h:List HB}{r:TV×List HB}{t:FnT}(ht:UK P f=some t)(hr:Xx P T call L f t args h r):a3L P T call L f args h=some (r.1,r.2,[]):=by unfold a3L;rw[ht];simp only[];have hx:∃r,Xx P T call L f t args h r:=⟨r,hr⟩;rw[dif_pos hx];obtain⟨e,s,⟨_,vs,a1,_,a2⟩,⟨_,vs',a3,_,a4⟩⟩:=OZ Xw _ (a9R hx) hr;rw[a1]at a3;cases a3;rw[a2]at a4;cases a4;rfl
end
section
variable {P:LI1} {T:ru} {call:bn} {cd:wo} {L:Nat} {nt:Nat} {M:Mp} {h:List HB} {w:LI4}
theorem a1H(hm:P.follows .mixedOrders=true)(hC:iO P call)(hD:Nq P cd){f:Nat}{args:List TV}{t:FnT}{K:TV->List HB->List Nat->Prop}(ht:UK P f=some t)
  (hO:fO P T call cd L f h.length t.nt t.body ⟨oD 0 args,[],h,[]⟩ fun e s=>(e=.norm∨e=.ret)∧∃vs,yI P s t.results=some vs∧K (one vs) s.heap s.ws) (hB:xK M h w) {xs:List LI3} (hx:bZ M.h args xs) :
  ∃ fn c, P.funcs[f]? = some fn ∧ (fn.name == "runtime.NumGoroutine") = false ∧ fn.body = some c ∧ ∀ n, CallsIn Fence.wide n P f xs.toArray w (MG fun y w' => ∃ v h' ws, K v h' ws ∧ jX M h w v h' ws y w') := by
 unfold UK at ht;split at ht
 .rename_i fn hfn;split at ht
  .cases ht
  .rename_i a6y;split at ht
   .rename_i c hc;cases ht;refine⟨fn,c,hfn,by simpa using a6y,hc,fun n=>?_⟩;have hR0:Rel M h w fn.ntmps M ⟨oD 0 args,[],h,[]⟩ { tmps:=xs.toArray++Array.replicate (fn.ntmps-xs.toArray.size) Go.undef,defers:=[] } w:=by
     have hg:St.get ⟨oD 0 args,[],h,[]⟩=lK h:=getEnv ⟨[],[],h,[]⟩ _ _;refine⟨by rw[hg];exact hB.val,by rw[hg];exact .refl _ _ _,fun t e hl=>?_,by simp;omega,by simp,.nil⟩;obtain⟨i,v',x,e1,rfl,e3,e4⟩:=JB hx hl;have hi:i<xs.length:=(a0n.1 e3).1;have:(xs.toArray++Array.replicate (fn.ntmps-xs.toArray.size) Go.undef).getD t Go.undef=x:=by rw[a8W,aaz (by simp;omega)];have:t=i:=(by omega);subst this;simp[e3]
     rw[this];exact .val e4
    have OX:∀(s:St) (vs:List TV),yI P s fn.results.toList=some vs->K (one vs) s.heap s.ws->∀(M':Mp) (a':Act) (w':LI4),Rel M h w fn.ntmps M' s a' w'->LeavesInM Fence.wide n P fn a'.tmps (MG fun y w'=>∃v h' ws,K v h' ws∧jX M h w v h' ws y w') a'.defers .returning w':=by intro s vs hvs hs M' a' w' Gl;refine OM hB a'.defers a' w' rfl Gl fun w'' a6z=>?_;obtain⟨y,g1,g2⟩:=OL (P:=P) a6z hvs;exact⟨y,g2,_,_,_,hs,ZU hB a6z g1⟩
    refine callsIn_of_wp_marks (F:=Fence.wide) hfn hc trivial ?_;refine a6r hm hC hD hB _ _ _ hO n _ M _ w hR0 fun e s M' a' w' hq Gl=>?_;obtain⟨he,vs,h1,h2⟩:=hq;rcases he with rfl|rfl
    .exact OX s vs h1 h2 M' a' w' Gl
    .exact OX s vs h1 h2 M' a' w' Gl
   .cases ht
 .cases ht
theorem a3N(hm:P.follows .mixedOrders=true)(hC:iO P call):Nq P (vP P T call L):=by
 intro f1 a1 b1 args h K hc M w x xs hV hl hx OD;obtain⟨t,ht,hO⟩:=hc;cases hx with
 |fn h1 h2 h3 h4=>
  rename_i ys zs;have FQ:bZ M.h (a1++args++b1) (ys++xs++zs):=(bZ.append ⟨h1,h2⟩ OD).append ⟨h3,h4⟩;obtain⟨fn,c,e1,e2,e3,e4⟩:=a1H hm hC a3K ht hO ⟨hV,hl⟩ FQ;refine⟨{ target:=.fn (.func f1) zs.toArray,args:=ys.toArray++xs.toArray },fun w=>by simp[Deferred.ofValue],f1,(ys++xs++zs).toArray,?_,e4⟩;have e2' : ¬ fn.name = "runtime.NumGoroutine" := by simpa using e2
  simp[invoke,callFunc,program,Sem.run,e1,e2',e3]
theorem aah(hm:P.follows .mixedOrders=true)(hC:iO P call){f:Nat}{args:List TV}{v:TV}{h':List HB}{ws:List Nat}(hf:a3L P T call L f args h=some (v,h',ws))(hB:xK M h w){xs:List LI3}(hx:bZ M.h args xs) :
  ∃ fn c, P.funcs[f]? = some fn ∧ (fn.name == "runtime.NumGoroutine") = false ∧ fn.body = some c ∧ ∀ n, CallsIn Fence.wide n P f xs.toArray w (MG (jX M h w v h' ws)) := by
 obtain⟨t,ht,hO,hw⟩:=a3M hf;simp only at hw;subst hw;obtain⟨fn,c,e1,e2,e3,e4⟩:=a1H (K:=fun v1 h1 ws1=>ws1=[]∧OU (T.a9V.contains f) h v1 h1=some (v,h')) hm hC (a3N hm hC) ht hO hB hx;refine⟨fn,c,e1,e2,e3,fun n=>CallsIn.mono (F:=Fence.wide) (e4 n) fun en w3 Xo=>?_⟩;cases en with
 |panicked c=>exact Xo.elim
 |outgrown=>exact Xo.elim
 |returned y=>
  obtain⟨v1,h1,ws1,⟨rfl,ho⟩,hR⟩:=Xo;exact jX.norm hB.val hB.loc ho hR
end
section
variable {H:Type}
def Xy(g:DataW H->List HB->Option (List TV×List HB))(n:Nat):List (DataW H)->List HB->Option (List TV×List HB)
 | [],h=>some ([],h)
 |d::ds,h=>match g d h with
  |some (c,h1)=>if c.length=n then(match Xy g n ds h1 with
   |some (cs,h2)=>some (c++cs,h2)
   |none=>none)else none
  |none=>none
def P5(P:LI1)(g:LI2->DataW H->List HB->Option (List TV×List HB)):Nat->List Field->List (DataW H)->List HB->Option (List TV×List HB)
 |_,[],[],h=>some ([],h)
 |o,f::fs,d::ds,h=>match g f.type d h with
  |some (c,h1)=>if f.offset=o∧c.length=P.cellsOf f.type then(match P5 P g (o+c.length) fs ds h1 with
   |some (cs,h2)=>some (c++cs,h2)
   |none=>none)else none
  |none=>none
 |_,_,_,_=>none
def Fh(P:LI1):Nat->LI2->DataW H->List HB->Option (List TV×List HB)
 | 0,_,_,_=>none
 |g+1,t,d,h=>match P.underlying t,d with
  |some .bool,.lit (.bool b)=>some ([.bool b],h)
  |some (.int _),.lit (.int k n)=>some ([.int k n],h)
  |some .string,.lit (.string bs)=>some ([.str ⟨bs.toArray⟩],h)
  |some (.slice _),.nil=>some ([.nil .aP],h)
  |some (.slice e),.slice xs ys=>match Xy (Fh P g e) (P.cellsOf e) (xs++ys) h with
   |some (cs,h1)=>if P.cellsOf e=0 then none else some ([.aP h1.length 0 xs.length (xs.length+ys.length) (P.cellsOf e) true],h1++[.cells .ro cs])
   |none=>none
  |some (.struct fs),.agg ds=>match P5 P (Fh P g) 0 fs.toList ds h with
   |some (cs,h1)=>if cs.length=P.cellsOf t then some (cs,h1)else none
   |none=>none
  |_,_=>none
variable {enc:LI2×LI3->H} {P:LI1} {w:LI4}
structure vS(M:Mp)(h:List HB)(w:LI4):Prop where
 base:xK M h w
 ro:∀b∈h,wr b=false
def Reads(enc:LI2×LI3->H)(P:LI1)(w:LI4)(t:LI2)(cs:List LI3)(d:DataW H):Prop:=
 ∃fuel ps,DataW.trod enc P w 0 (fun _=>true) true fuel t cs=some (d,ps)
def a6A(enc:LI2×LI3->H)(P:LI1)(w:LI4)(g:LI2->DataW H->List HB->Option (List TV×List HB)):Prop:=
 ∀t d h r,g t d h=some r->∀cs,Reads enc P w t cs d->∀M,vS M h w->∃M',vS M' r.2 w∧tV M M'∧bZ M'.h r.1 cs∧∀c∈r.1,jk c=true
theorem a1I{g:LI2->DataW H->List HB->Option (List TV×List HB)}(hg:a6A enc P w g){e:LI2}{n:Nat}:∀(ds:List (DataW H)) (Ns:List (List LI3)) (h:List HB) (r:List TV×List HB),Xy (g e) n ds h=some r ->
  Ns.length=ds.length->(∀(i:Nat) (d:DataW H) (cs:List LI3),ds[i]? = some d->Ns[i]? = some cs->Reads enc P w e cs d)->∀M,vS M h w ->
  ∃M',vS M' r.2 w∧tV M M'∧bZ M'.h r.1 Ns.flatten∧(∀c∈r.1,jk c=true)∧r.1.length=ds.length*n∧∀cs∈Ns,cs.length=n
 | [],Ns,h,r,hr,hl,hd,M,hB=>by simp only[Xy,a0k]at hr;subst hr;have:Ns=[]:=a4J (by simpa using hl);subst this;exact⟨M,hB,.refl M,.nil,by simp,by simp,by simp⟩
 |d::ds,[],h,r,hr,hl,hd,M,hB=>by simp at hl
 |d::ds,cs::Ns,h,r,hr,hl,hd,M,hB=>by
  simp only[Xy]at hr;split at hr
  .rename_i c h1 hc;split at hr
   .rename_i hn;split at hr
    .rename_i cs' h2 SI;simp only[a0k]at hr;subst hr;obtain⟨M1,b1,m1,v1,o1⟩:=hg e d h (c,h1) hc cs (hd 0 d cs rfl rfl) M hB;obtain⟨M2,b2,m2,v2,o2,l2,u2⟩:=a1I hg ds Ns h1 (cs',h2) SI (by simpa using hl) (fun i d' afc e1 e2=>hd (i+1) d' afc (by simpa using e1) (by simpa using e2)) M1 b1;refine⟨M2,b2,m1.trans m2,?_,?_,?_,?_⟩
     .rw[List.flatten_cons];exact(v1.mono m2.h).append v2
     .intro x hx;rcases a3v.1 hx with hx|hx
      .exact o1 x hx
      .exact o2 x hx
     .simp only[a1p,l2,hn,a4O,a3C,aav];omega
     .intro x hx;rcases a2x.1 hx with rfl|hx
      .have:=v1.len;simp only at this;omega
      .exact u2 x hx
    .cases hr
   .cases hr
  .cases hr
theorem a1J{g:LI2->DataW H->List HB->Option (List TV×List HB)}(hg:a6A enc P w g){cs:List LI3}:∀(fs:List Field) (ds:List (DataW H)) (o:Nat) (h:List HB) (r:List TV×List HB),P5 P g o fs ds h=some r ->
  (∀(i:Nat) (f:Field) (d:DataW H),fs[i]? = some f->ds[i]? = some d->Reads enc P w f.type ((cs.drop f.offset).take (P.cellsOf f.type)) d)->∀M,vS M h w ->
  ∃M',vS M' r.2 w∧tV M M'∧bZ M'.h r.1 ((cs.drop o).take r.1.length)∧∀c∈r.1,jk c=true
 | [],[],o,h,r,hr,hd,M,hB=>by simp only[P5,a0k]at hr;subst hr;exact⟨M,hB,.refl M,by simpa using bZ.nil,by simp⟩
 | [],d::ds,o,h,r,hr,hd,M,hB=>by simp[P5]at hr
 |f::fs,[],o,h,r,hr,hd,M,hB=>by simp[P5]at hr
 |f::fs,d::ds,o,h,r,hr,hd,M,hB=>by
  simp only[P5]at hr;split at hr
  .rename_i c h1 hc;split at hr
   .rename_i hn;obtain⟨ho,hn⟩:=hn;split at hr
    .rename_i cs' h2 SI;simp only[a0k]at hr;subst hr;obtain⟨M1,b1,m1,v1,o1⟩:=hg f.type d h (c,h1) hc _ (hd 0 f d rfl rfl) M hB;obtain⟨M2,b2,m2,v2,o2⟩:=a1J hg fs ds (o+c.length) h1 (cs',h2) SI (fun i f' d' e1 e2=>hd (i+1) f' d' (by simpa using e1) (by simpa using e2)) M1 b1;refine⟨M2,b2,m1.trans m2,?_,?_⟩
     .have:=(v1.mono m2.h).append v2;rw[ho,<-hn]at this;simp only at this ⊢;rw[a1p,List.take_add,afL];exact this
     .intro x hx;rcases a3v.1 hx with hx|hx
      .exact o1 x hx
      .exact o2 x hx
    .cases hr
   .cases hr
  .cases hr
theorem Lj{n:Nat}:∀{Ns:List (List LI3)},(∀cs∈Ns,cs.length=n)->∀(i j:Nat),j<n->Ns.flatten[i*n+j]? = (Ns[i]?).bind (·[j]?)
 | [],_,i,j,_=>by simp
 |cs::Ns,h,0,j,hj=>by have:=h cs a3E;simp only[List.flatten_cons,acQ,a4v];rw[a0E (by omega)];simp
 |cs::Ns,h,i+1,j,hj=>by have hc:=h cs a3E;simp only[List.flatten_cons];rw[a1a (by rw[hc,a3C,aav];omega),hc];rw[show(i+1)*n+j-n=i*n+j by rw[a3C,aav];omega];rw[Lj (fun x hx=>h x (a4a _ hx)) i j hj];simp
theorem a1K{M:Mp}{h:List HB}(hB:vS M h w){cs:List TV}{ls:List Pl}(h1:∀c∈cs,jk c=true)(h2:∀p∈ls,Oi M.h w .ro cs p) :
  ∃M',vS M' (h++[.cells .ro cs]) w∧tV M M'∧M' (.h h.length)=some (.cells ls):=by
 have zu:lK h (.h h.length)=none:=by simp[lK,St.get]
 have zI:M (.h h.length)=none:=by
  cases hm:M (.h h.length)with
  |none=>rfl
  |some l=>have:=hB.base.val.has hm;rw[zu]at this;cases this
 have hle:tV M (dQ M (.h h.length) (.cells ls)):=nG fun l0 h0=>by rw[zI]at h0;cases h0
 have hg:lK (h++[.cells .ro cs])=mY (lK h) (.h h.length) (.cells .ro cs):=kW ⟨[],[],h,[]⟩ _ [] [];have hro:∀b∈h++[HB.cells .ro cs],wr b=false:=fun b hb=>by
  rcases a3v.1 hb with hb|hb
  .exact hB.ro b hb
  .simp at hb;subst hb;rfl
 refine⟨dQ M (.h h.length) (.cells ls),⟨⟨⟨?_,?_,?_⟩,fun k=>?_⟩,hro⟩,hle,by simp[dQ]⟩
 .intro k l hk _;rw[hg];by_cases yL:k=.h h.length
  .subst yL;simp only[dQ,a2s,a0k]at hk;subst hk;exact⟨.cells .ro cs,by simp[mY],h1,fun p hp=>(h2 p hp).mono hle.h rfl,by simp,by simp⟩
  .simp only[dQ,yL,a3U]at hk;obtain⟨b,g1,g2⟩:=hB.base.val.ok k l hk trivial;exact⟨b,by simp[mY,yL,g1],g2.mono hle.h fun _ _=>rfl⟩
 .intro k k' l l' b iM hk pG _ hb hw;have:wr b=false:=by
   cases k with
   |h x=>exact hro b (a5q hb)
   |l x=>simp[lK,St.get]at hb
  rw[this]at hw;cases hw
 .intro k l hk c hc;by_cases yL:k=.h h.length
  .subst yL;simp only[dQ,a2s,a0k]at hk;subst hk;obtain⟨p,hp,rfl⟩:=a1e.1 hc;obtain⟨arr,ty,fz,g1,_⟩:=(h2 p hp).row;exact(a2t.1 g1).1
  .simp only[dQ,yL,a3U]at hk;exact hB.base.val.inb k l hk c hc
 .simp[dQ];exact hB.base.loc k
theorem a1L:∀g,a6A enc P w (Fh P g)
 | 0=>by intro t d h r hr;simp[Fh]at hr
 |g+1=>by
  intro t d h r hr cs hd M hB;obtain⟨fuel,ps,hd⟩:=hd;have ih:=a1L g;simp only[Fh]at hr;split at hr
  .-- bool
   rename_i b hu;simp only[a0k]at hr;subst hr;refine⟨M,hB,.refl M,?_,by simp[jk]⟩;cases fuel with
   |zero=>simp[DataW.trod]at hd
   |succ n=>
    unfold DataW.trod at hd;rw[hu]at hd;split at hd<;>simp_all
    exact .cons (.bool _) .nil
  .-- int
   rename_i k0 k n hu;simp only[a0k]at hr;subst hr;refine⟨M,hB,.refl M,?_,by simp[jk]⟩;cases fuel with
   |zero=>simp[DataW.trod]at hd
   |succ n=>
    unfold DataW.trod at hd;rw[hu]at hd;split at hd<;>simp_all
    exact .cons (.int _ _) .nil
  .-- string
   rename_i bs hu;simp only[a0k]at hr;subst hr;refine⟨M,hB,.refl M,?_,by simp[jk]⟩;cases fuel with
   |zero=>simp[DataW.trod]at hd
   |succ n=>
    unfold DataW.trod at hd;rw[hu]at hd;split at hd<;>simp_all
    obtain⟨_,rfl,_⟩:=hd;exact .cons (.str _) .nil
  .-- nil slice
   rename_i e hu;simp only[a0k]at hr;subst hr;refine⟨M,hB,.refl M,?_,by simp[jk]⟩;rcases Deep.open_slice hu hd with⟨rfl,_⟩|⟨a,len,cap,m,n,Dt,Pl,_,_,_,_,_,hx,_⟩
   .exact .cons .UM .nil
   cases hx
  .-- a slice
   rename_i e xs ys hu;split at hr
   rotate_left
   .cases hr
   rename_i cells h1 hl;split at hr
   .cases hr
   rename_i hn0;simp only[a0k]at hr;subst hr;rcases Deep.open_slice hu hd with⟨rfl,hx⟩|⟨a,len,cap,m,n,Dt,Pl,rfl,_,hlc,ajc,hm,hx,KZ⟩
   .cases hx
   simp only[a2s]at hm;have hm':=hm.symm;subst hm';simp only[a0T,DataW.slice.injEq]at hx;obtain⟨⟨OD,hys⟩,_⟩:=hx;have lxs:xs.length=len:=by rw[OD];simp
   have lys:ys.length=cap-len:=by rw[hys];simp
   have hds:∀i,i<cap->(xs++ys)[i]? = some (Dt i):=by
    intro i hi;by_cases h1:i<len
    .rw[a0E (by omega),OD];simp[h1]
    rw[a1a (by omega),lxs,hys];have h2:i-len<cap-len:=(by omega);simp[h2,show len+(i-len)=i by omega]
   have hn:=KZ
   let Ns:List (List LI3):=(List.range cap).map fun i=>(w.cells? 0 (a.add (i*P.cellsOf e)) (P.cellsOf e)).getD []
   have SI:∀i,i<cap->∃cs',Ns[i]? = some cs'∧w.cells? 0 (a.add (i*P.cellsOf e)) (P.cellsOf e)=some cs'∧DataW.trod enc P w 0 (fun _=>true) true n e cs'=some (Dt i,Pl i):=by intro i hi;obtain⟨cs',e1,e2⟩:=KZ i hi;exact⟨cs',by simp[Ns,hi,e1],e1,e2⟩
   have ajd:Ns.length=cap:=(by simp[Ns]);obtain⟨M1,b1,m1,v1,o1,l1,u1⟩:=a1I ih (xs++ys) Ns h (cells,h1) hl (by simp[ajd,lxs,lys];omega) (fun i d cs e1 e2=>by
    have hi:i<cap:=by rw[<-ajd];exact(a0n.1 e2).1
    obtain⟨cs',f1,f2,f3⟩:=SI i hi;rw[f1]at e2;cases e2;rw[hds i hi]at e1;cases e1;exact⟨n,_,f3⟩) M hB
   simp only at b1 v1 o1 l1;have l1':cells.length=cap*P.cellsOf e:=by rw[l1];simp[lxs,lys];congr 1;omega
   have a5Q:0<P.cellsOf e:=(by omega);have e1:xs.length+ys.length=cap:=(by omega);show ∃M',vS M' (h1++[.cells .ro cells]) w∧tV M M'∧bZ M'.h [.aP h1.length 0 xs.length (xs.length+ys.length) (P.cellsOf e) true] [.slice (some a) len cap]∧∀c∈[TV.aP h1.length 0 xs.length (xs.length+ys.length) (P.cellsOf e) true],jk c=true;rw[e1,lxs];by_cases hc0:cap=0
   .obtain⟨M2,b2,m2,k2⟩:=a1K b1 (cs:=cells) (ls:=[]) o1 (by simp);refine⟨M2,b2,m1.trans m2,.cons (.aP (p:=⟨0,0,0,0⟩) k2 (.inl hc0) ?_ ?_ ?_ ?_ (.inl hc0) (by unfold maxLen at ajc;omega)) .nil,by intro c hc;simp at hc;subst hc;rfl⟩
    .simp[hc0]
    .omega
    .omega
    intro _;omega
   have Xz:∀k,k<cap*P.cellsOf e->w.cell? (a.add k)=Ns.flatten[k]?:=by
    intro k hk;have hj:k%P.cellsOf e<P.cellsOf e:=Nat.mod_lt _ a5Q;have hi:k/P.cellsOf e<cap:=by rw[Nat.div_lt_iff_lt_mul a5Q];exact hk
    have yL:k/P.cellsOf e*P.cellsOf e+k%P.cellsOf e=k:=by rw[Nat.mul_comm];exact Nat.div_add_mod k _
    obtain⟨cs',f1,f2,_⟩:=SI _ hi;obtain⟨_,_,f3⟩:=World.cells?_some f2;have f4:=f3 _ hj;rw[Deep.add_add,yL]at f4;have f5:=Lj u1 (k/P.cellsOf e) (k%P.cellsOf e) hj;rw[yL,f1]at f5;rw[f4,f5];rfl
   have aiO:0<cap*P.cellsOf e:=Nat.mul_pos (by omega) a5Q;have lfl:Ns.flatten.length=cap*P.cellsOf e:=(by rw[<-v1.len,l1']);have h00:=Xz 0 aiO;have hv0:Ns.flatten[0]? = some (Ns.flatten[0]'(by omega)):=a0D _;rw[hv0,Addr.add,a0I rfl]at h00;have zA:∃arr ty fz,w.heap[a.block]? = some (.cells arr ty fz)∧a.spot=none:=by
    unfold World.cell? at h00;split at h00
    .rename_i c ty fz hh;split at h00
     .cases h00
     rename_i hsp;exact⟨c,ty,fz,hh,by simpa using hsp⟩
    cases h00
   obtain⟨arr,ty,fz,hh,hsp⟩:=zA;have XA:∀k,w.cell? (a.add k)=arr[a.off+k]?:=by
    intro k;unfold World.cell? Addr.add;by_cases hk:k=0
    .subst hk;simp[hh,hsp]
    simp[hk,hh]
   have hbound:a.off+cap*P.cellsOf e<=arr.size:=by have h1:=Xz (cap*P.cellsOf e-1) (by omega);rw[XA,a0D (by omega)]at h1;have:=(a2t.1 h1).1;omega
   obtain⟨M2,b2,m2,k2⟩:=a1K b1 (cs:=cells) (ls:=[⟨a.block,a.off,cap*P.cellsOf e,arr.size⟩]) o1 (by intro p hp;simp at hp;subst hp;refine⟨⟨arr,ty,fz,hh,rfl,by simp,fun _ i c v hi e1 e2=>?_⟩,hbound,ahA l1'.symm,by simp⟩;simp only at hi e2;rw[<-XA,Xz i hi]at e2;exact v1.at_ i c v e1 e2)
   refine⟨M2,b2,m1.trans m2,.cons (.aP (p:=⟨a.block,a.off,cap*P.cellsOf e,arr.size⟩) k2 (.inr (by simp)) ?_ ?_ ?_ ?_ (.inr ⟨?_,?_⟩) (by unfold maxLen at ajc;omega)) .nil,by intro c hc;simp at hc;subst hc;rfl⟩
   .simp
   .omega
   .omega
   .intro _;omega
   .cases a;simp_all
   simpa using hbound
  .-- a struct
   rename_i fs ds hu;split at hr
   .rename_i cs' h1 hl;split at hr
    .rename_i hlen;simp only[a0k]at hr;subst hr;obtain⟨zs,n,_,hx,qM,Zl,KZ⟩:=DataW.trod_struct hu hd;simp only[a0T,DataW.agg.injEq]at hx;obtain⟨rfl,_⟩:=hx;obtain⟨M',b1,m1,v1,o1⟩:=a1J ih fs.toList _ 0 h (cs',h1) hl (cs:=cs) (fun i f d e1 e2=>by have e1':fs[i]? = some f:=(by simpa using e1);simp only[a5m,a0A]at e2;obtain⟨z,hz,rfl⟩:=e2;exact⟨n,z.2,by rw[KZ i f e1',hz]⟩) M hB
     refine⟨M',b1,m1,?_,o1⟩;simp only at v1 ⊢;rw[hlen,<-qM]at v1;simpa using v1
    cases hr
   cases hr
  cases hr
end
open Go.ChangeShapes Go.WideShapes Go.RowKit
section
variable {H:Type} {enc:LI2×LI3->H} {P:LI1} {W W':LI4}
def Ve(P:LI1)(g:Nat):List LI2->List (DataW H)->List HB->Option (List TV×List HB)
 | [],[],h=>some ([],h)
 |t::ts,d::ds,h=>match Fh P g t d h with
  |some (c,h1)=>match xg P t,c,Ve P g ts ds h1 with
   |some true,c,some (az,h2)=>some (.agg c::az,h2)
   |some false,[x],some (az,h2)=>some (x::az,h2)
   |_,_,_=>none
  |none=>none
 |_,_,_=>none
theorem a00{r:Reach}{b:Nat}{t:LI2}{v:LI3}(ha:xg P t=some false)(h:Value.okWide P W r b t v):v.cells.toList=[v]:=by
 unfold xg at ha;unfold Value.okWide at h;cases hu:P.underlying t with
 |none=>simp[hu]at ha
 |some u=>
  rw[hu]at ha h;cases v with
  |agg cs=>cases u<;>simp_all [Cell.okWide,Cell.ok]
  |_=>rfl
theorem a01{r:Reach}{b:Nat}{t:LI2}{v:LI3}(ha:xg P t=some true)(h:Value.okWide P W r b t v):∃cs,v=.agg cs:=by
 unfold xg at ha;unfold Value.okWide at h;cases hu:P.underlying t with
 |none=>simp[hu]at ha
 |some u=>
  rw[hu]at ha h;cases u<;>simp_all<;>exact⟨_,h.choose_spec.1⟩
theorem Vf{r:Reach}{b g:Nat}:∀{ts:List LI2} {vs:List LI3} {ds:List (DataW H)} {ps:List MemPlace} {h:List HB} {x:List TV×List HB} {M:Mp},
  DataW.TrodAll enc P W 0 (fun _=>true) true ts vs ds ps->(∀(j:Nat) t v,ts[j]? = some t->vs[j]? = some v->Value.okWide P W r b t v)->Ve P g ts ds h=some x->vS M h W ->
  ∃M',vS M' x.2 W∧tV M M'∧bZ M'.h x.1 vs
 | [],vs,ds,ps,h,x,M,ht,ho,he,hB=>by obtain⟨rfl,rfl,rfl⟩:=trodAll_nil ht;simp only[Ve,a0k]at he;subst he;exact⟨M,hB,.refl M,.nil⟩
 |t::ts,vs,ds,ps,h,x,M,ht,ho,he,hB=>by
  obtain⟨v,vs',d,ds',p,q,rfl,rfl,rfl,hd,Oz⟩:=trodAll_cons ht;simp only[Ve]at he;split at he
  .rename_i c h1 hc;obtain⟨fuel,hf⟩:=hd;obtain⟨M1,b1,m1,v1,o1⟩:=a1L (enc:=enc) (P:=P) (w:=W) g t d h (c,h1) hc v.cells.toList ⟨fuel,p,hf⟩ M hB;split at he
   .rename_i az h2 ha hr;simp only[a0k]at he;subst he;obtain⟨M2,b2,m2,v2⟩:=Vf (x:=(az,h2)) Oz (fun j t' v' e1 e2=>ho (j+1) t' v' (by simpa using e1) (by simpa using e2)) hr b1;obtain⟨cs,rfl⟩:=a01 ha (ho 0 t v rfl rfl);refine⟨M2,b2,m1.trans m2,.cons ?_ v2⟩;have:=VR.agg' (v1.mono m2.h);simpa[Value.cells]using this
   .rename_i y az h2 ha hr;simp only[a0k]at he;subst he;obtain⟨M2,b2,m2,v2⟩:=Vf (x:=(az,h2)) Oz (fun j t' v' e1 e2=>ho (j+1) t' v' (by simpa using e1) (by simpa using e2)) hr b1;have h1c:=a00 ha (ho 0 t v rfl rfl);rw[h1c]at v1;obtain⟨z,zs,e1,e2,e3⟩:=(v1.mono m2.h).iY;simp only[aeX]at e1;obtain⟨rfl,rfl⟩:=e1;exact⟨M2,b2,m1.trans m2,.cons e2 v2⟩
   .cases he
  .cases he
theorem FT(hl:laidOutB P=true)(hb:Below W.heap.size W W'):∀{ts:List LI2} {vs:List LI3} {ds:List (DataW H)} {ps:List MemPlace},
  (ts.all fun t=>P.readableRec t&&decide (t<P.types.size))=true->DataW.TrodAll enc P W 0 (fun _=>true) true ts vs ds ps->(∀x∈ps,x.block<W.heap.size) ->
  DataW.TrodAll enc P W' 0 (fun b=>decide (b<W.heap.size)) true ts vs ds ps
 | [],_,_,_,_,h,_=>by obtain⟨rfl,rfl,rfl⟩:=trodAll_nil h;rfl
 |t::ts,_,_,_,ho,h,aQ=>by obtain⟨v,vs',d,ds',p,q,rfl,rfl,rfl,hd,Oz⟩:=trodAll_cons h;simp only[acF,a2c,a1n]at ho;exact⟨p,q,Below.trod hl ho.1.1 ho.1.2 hd hb (fun x hx=>aQ x (a5O _ hx)),FT hl hb ho.2 Oz (fun x hx=>aQ x (abS _ hx)),rfl⟩
theorem a3O{f:Func}{s:ChangeSpec}{args:Array LI3}{ds:List (DataW H)}{before:List MemPlace}{tb:LI2}(hl:laidOutB P=true)(hv:s.vars=[])(hs:s.fn H ds={ results:=[.lit (.bool true)],args:=ds })
  (hf:f.resultTypes=#[tb]) (htb:P.underlying tb=some .bool) (hp:(f.params.toList.all fun t=>P.readableRec t&&decide (t<P.types.size))=true)
  (hW:DataW.Whole enc P f.params.toList s.vars false W args.toList ds [] before) (hb:Below W.heap.size W W'):s.post enc P f false true false false W args (.bool true) W':=by
 have hW':=hW;obtain⟨p,q,hA,hV,rfl,hfz,jL⟩:=hW;rw[hv]at hV;have hq:q=[]:=hV;subst hq;have aQ:∀x∈p,x.block<W.heap.size:=fun x hx=>by simpa using hW'.lt x (a5O _ hx)
 refine⟨ds,[],p++[],[],p,[],hW',?_,?_,?_,hb.frame _,by simp⟩
 .rw[a5Z,hs,hf];refine⟨[],[],⟨1,?_⟩,rfl,rfl⟩;simp[DataW.trod,htb,Value.cells]
 .rw[a5Z,hs];exact FT hl hb hp hA aQ
 .rw[a5Z,hs,hv];rfl
end
def Vg(P:LI1)(T:ru)(call:bn)(L:Nat)(f:Nat)(args:List TV)(h:List HB):Option (TV×List HB×List Nat):=
 match UK P f with
 |some t=>match exec P T call L f false h.length t.nt t.body ⟨oD 0 args,[],h,[]⟩with
  |some (.norm,s)|some (.ret,s)=>match yI P s t.results with
   |some vs=>some (one vs,s.heap,s.ws)
   |none=>none
  |_=>none
 |none=>none
def lM(P:LI1)(T:ru)(L:Nat):Nat->bn
 | 0,_,_,_=>none
 |n+1,.fn f first cap,args,h=>if T.exts.contains f=true then T.ext (.fn f first cap) args h else if T.dem.contains f=true then a3L P T (lM P T L n) L f (first++args++cap) h else Vg P T (lM P T L n) L f (first++args++cap) h
 |n+1,.lF l,args,h=>Oh P T (lM P T L n) L l args h
 |_,_,_,_=>none
def runN(P:LI1)(T:ru)(L n f:Nat)(args:List TV)(h:List HB):Option (TV×List HB×List Nat):=lM P T L n (.fn f [] []) args h
section
variable {P:LI1} {T:ru} {call:bn} {L:Nat} {nt:Nat} {M:Mp} {h:List HB} {w:LI4}
theorem a1M(hm:P.follows .mixedOrders=true)(hC:iO P call){f:Nat}{args:List TV}{v:TV}{h':List HB}{ws:List Nat}(hf:Vg P T call L f args h=some (v,h',ws))(hB:xK M h w){xs:List LI3}(hx:bZ M.h args xs) :
  ∃ fn c, P.funcs[f]? = some fn ∧ (fn.name == "runtime.NumGoroutine") = false ∧ fn.body = some c ∧ ∀ n, CallsIn Fence.wide n P f xs.toArray w (MG (jX M h w v h' ws)) := by
 unfold Vg UK at hf;split at hf
 .rename_i t ht;split at ht
  .rename_i fn hfn;split at ht
   .cases ht
   .rename_i a6y;split at ht
    .rename_i c hc;cases ht;refine⟨fn,c,hfn,by simpa using a6y,hc,fun n=>?_⟩;have hR0:Rel M h w fn.ntmps M ⟨oD 0 args,[],h,[]⟩ { tmps:=xs.toArray++Array.replicate (fn.ntmps-xs.toArray.size) Go.undef,defers:=[] } w:=by
      have hg:St.get ⟨oD 0 args,[],h,[]⟩=lK h:=getEnv ⟨[],[],h,[]⟩ _ _;refine⟨by rw[hg];exact hB.val,by rw[hg];exact .refl _ _ _,fun t e hl=>?_,by simp;omega,by simp,.nil⟩;obtain⟨i,v',x,e1,rfl,e3,e4⟩:=JB hx hl;have hi:i<xs.length:=(a0n.1 e3).1;have:(xs.toArray++Array.replicate (fn.ntmps-xs.toArray.size) Go.undef).getD t Go.undef=x:=by rw[a8W,aaz (by simp;omega)];have:t=i:=(by omega);subst this;simp[e3]
      rw[this];exact .val e4
     have OX:∀(s:St),(match yI P s fn.results.toList with
       |some vs=>some (one vs,s.heap,s.ws)
       |none=>none)=some (v,h',ws)->∀(M':Mp) (a':Act) (w':LI4),Rel M h w fn.ntmps M' s a' w'->LeavesInM Fence.wide n P fn a'.tmps (MG (jX M h w v h' ws)) a'.defers .returning w':=by
      intro s hs M' a' w' Gl;split at hs
      .rename_i vs hvs;refine OM hB a'.defers a' w' rfl Gl fun w'' a6z=>?_;obtain⟨y,g1,g2⟩:=OL (P:=P) a6z hvs;refine⟨y,g2,?_⟩;simp only[a0k,a0T]at hs;obtain⟨rfl,rfl,rfl⟩:=hs;exact ZU hB a6z g1
      .cases hs
     refine callsIn_of_wp_marks (F:=Fence.wide) hfn hc trivial ?_;split at hf
     .rename_i s hex;exact wJ (iy:=false) hm hC hB (fun _=>rfl) _ _ _ _ hex n _ M _ w hR0 fun M' a' w' Gl=>OX s hf M' a' w' Gl
     .rename_i s hex;exact wJ (iy:=false) hm hC hB (fun _=>rfl) _ _ _ _ hex n _ M _ w hR0 fun M' a' w' Gl=>OX s hf M' a' w' Gl
     .cases hf
    .cases ht
  .cases ht
 .cases hf
theorem a02(hm:P.follows .mixedOrders=true)(hE:iO P T.ext):∀n,iO P (lM P T L n)
 | 0=>by intro fv args h v h' ws hc;simp[lM]at hc
 |n+1=>by
  intro fv args h v h' ws hc M w x xs hV hl hx OD;have ih:=a02 hm hE n;cases fv with
  |fn f first cap=>
   simp only[lM]at hc;split at hc
   .exact hE _ _ _ _ _ _ hc M w x xs hV hl hx OD
   rename_i hnx;cases hx with
   |fn h1 h2 h3 h4=>
    rename_i ys zs;have FQ:bZ M.h (first++args++cap) (ys++xs++zs):=(bZ.append ⟨h1,h2⟩ OD).append ⟨h3,h4⟩;obtain ⟨fn, c, e1, e2, e3, e4⟩ : ∃ fn c, P.funcs[f]? = some fn ∧ (fn.name == "runtime.NumGoroutine") = false ∧ fn.body = some c ∧ ∀ n, CallsIn Fence.wide n P f (ys ++ xs ++ zs).toArray w (MG (jX M h w v h' ws)) := by
     split at hc
     .exact aah hm ih hc ⟨hV,hl⟩ FQ
     exact a1M hm ih hc ⟨hV,hl⟩ FQ
    refine⟨{ target:=.fn (.func f) zs.toArray,args:=ys.toArray++xs.toArray },fun w=>by simp[Deferred.ofValue],.inl ⟨⟨f,(ys++xs++zs).toArray,?_,e4⟩,f,first,cap,rfl⟩⟩;have e2' : ¬ fn.name = "runtime.NumGoroutine" := (by simpa using e2);simp[invoke,callFunc,program,Sem.run,e1,e2',e3]
  |lF l=>
   simp only[lM]at hc;cases hx with
   |lF hm'=>
    rename_i l' _;refine⟨{ target:=.fn (.yield l') #[],args:=xs.toArray },fun w=>by simp[Deferred.ofValue],.inr ⟨a6x hm ih hc ⟨hV,hl⟩ hm' OD,l,rfl⟩⟩
  |_=>simp[lM]at hc
theorem aai(hm:P.follows .mixedOrders=true)(hE:iO P T.ext){n f:Nat}{args:List TV}{v:TV}{h':List HB}{ws:List Nat}(hnf:T.exts.contains f=false)(jL:T.dem.contains f=false)(hr:runN P T L (n+1) f args h=some (v,h',ws))(hV:Valid M vN (lK h) w)(hl:∀k,M (.l k)=none)
  {xs:List LI3} (hx:bZ M.h args xs) (k:Nat):CallsIn Fence.wide k P f xs.toArray w (MG (jX M h w v h' ws)):=by
 simp only[runN,lM,hnf,jL,a3u,a3U]at hr;have FQ:bZ M.h ([]++args++[]) xs:=by simpa using hx
 obtain⟨fn,c,_,_,_,e4⟩:=a1M hm (a02 hm hE n) hr ⟨hV,hl⟩ FQ;exact e4 k
end
section
variable {H:Type} {enc:LI2×LI3->H} {P:LI1} {W W':LI4}
theorem a03{T:ru}{L n g aaj:Nat}{f:Func}{s:ChangeSpec}{args:Array LI3}{ds:List (DataW H)}{before:List MemPlace}{tb:LI2}{r:Reach}{b:Nat}(hm:P.follows .mixedOrders=true)
  (hl:laidOutB P=true) (hv:s.vars=[]) (hs:s.fn H ds={ results:=[.lit (.bool true)],args:=ds })
  (hf:f.resultTypes=#[tb]) (htb:P.underlying tb=some .bool) (hp:(f.params.toList.all fun t=>P.readableRec t&&decide (t<P.types.size))=true)
  (hW:DataW.Whole enc P f.params.toList s.vars false W args.toList ds [] before)
  (XB:∀(j:Nat) t v,f.params[j]? = some t->args[j]? = some v->Value.okWide P W r b t v)
  {az:List TV} {h h':List HB} (he:Ve P g f.params.toList ds []=some (az,h)) (hE:iO P T.ext) (hnf:T.exts.contains aaj=false) (jL:T.dem.contains aaj=false) (hr:runN P T L (n+1) aaj az h=some (.bool true,h',[])) :
  Calls P aaj args W fun e W'=>∃v,e=.returned v∧s.post enc P f false true false false W args v W':=by
 obtain⟨p,q,hA,_⟩:=id hW;have h0:vS (fun _=>none) [] W:=⟨⟨⟨by simp,by simp,by simp⟩,by simp⟩,by simp⟩;obtain⟨M',b1,_,v1⟩:=Vf hA (fun j t v e1 e2=>XB j t v (by simpa using e1) (by simpa using e2)) he h0;have hc:=aai hm hE hnf jL hr b1.base.val b1.base.loc v1 0;refine(callsIn_wide.1 hc).mono fun e W' hR=>?_;cases e with
 |panicked c=>exact hR.elim
 |outgrown=>exact hR.elim
 |returned v=>
  obtain⟨M2,_,_,hX,hv'⟩:=hR;cases hv';refine⟨_,rfl,a3O hl hv hs hf htb hp hW ⟨hX.os,hX.tape,hX.output,hX.size,fun k hk=>hX.frame k hk (by simp)⟩⟩
end
end Tw
namespace Pv
open Go Tw
inductive PV(Γ:Nat->Type) where
 |bool (b:Bool)
 |lit (b:Bool)
 |int (k:IntKind) (n:Int)
 |str (s:ByteArray)
 |nil (k:NK)
 |ptr (b off lim:Nat)
 |aP (b off len cap sz:Nat) (ex:Bool)
 |own (b:Nat)
 |win (b o n:Nat)
 |map (r:Nat)
 |fn (f:FuncId) (first cap:List (PV Γ))
 |lF (l:Nat)
 |agg (cs:List (PV Γ))
 |dJ (cs:List (PV Γ))
 |dH (t:Nat) (l:List (Γ t)) (full:Bool)
 |el (t:Nat) (a:Γ t) (off:Nat)
 |row (b j off:Nat)
 |iter (b:Nat)
inductive PE(Γ:Nat->Type) where
 |val (v:PV Γ)
 |loc (k off:Nat)
 |undef
 |ent (r j:Nat) (v:PV Γ)
 |Fa (r j:Nat)
inductive PB(Γ:Nat->Type) where
 |cells (cs:List (PV Γ))
 |aG (cs:List (PV Γ))
 |list (k ex:Bool) (t:Nat) (l:List (Γ t))
 |map (es:List (PV Γ×PV Γ))
 |mark
 |loop (ready:Bool) (f:FuncId) (nt:Nat) (env:List (Nat×PE Γ)) (ps:List Nat) (assign body:Code) (jW:Option Code)
 |dD (r n:Nat) (seen:List Nat)
 |iP (es:List (PV Γ×PV Γ))
 |nX (cs:List (PV Γ))
 |gone
structure aT(Γ:Nat->Type) where
 env:List (Nat×PE Γ)
 loc:List (List (PV Γ))
 heap:List (PB Γ)
structure lC where
 Γ:Nat->Type
 d0:(t:Nat)->Γ t
 enc:(t:Nat)->Γ t->List (PV Γ)
 dec:(t:Nat)->List (PV Γ)->Option (Γ t)
section
variable {Γ:Nat->Type}
def rW:PV Γ->Option TV
 |.bool b=>some (.bool b)
 |.int k n=>some (.int k n)
 |.str s=>some (.str s)
 |.nil k=>some (.nil k)
 |_=>none
def iU:List (PV Γ)->Option (List TV)
 | []=>some []
 |c::cs=>match rW c,iU cs with
  |some v,some vs=>some (v::vs)
  |_,_=>none
def qJ:PV Γ->Option TV
 |.agg cs=>(iU cs).map .agg
 |v=>rW v
def Vh:List (PV Γ)->Option (List TV)
 | []=>some []
 |c::cs=>match qJ c,Vh cs with
  |some v,some vs=>some (v::vs)
  |_,_=>none
def ofC:TV->Option (PV Γ)
 |.bool b=>some (.bool b)
 |.int k n=>some (.int k n)
 |.str s=>some (.str s)
 |.nil k=>some (.nil k)
 |_=>none
def Di:List TV->Option (List (PV Γ))
 | []=>some []
 |c::cs=>match ofC c,Di cs with
  |some v,some vs=>some (v::vs)
  |_,_=>none
def Zo:TV->Option (PV Γ)
 |.agg cs=>(Di cs).map .agg
 |v=>ofC v
def PV.cells:PV Γ->List (PV Γ)
 |.agg cs=>cs
 |v=>[v]
def a04:PV Γ->Bool
 |.agg _|.dJ _=>false
 |_=>true
def FU(t:Nat):List (Nat×PE Γ)->Option (PE Γ)
 | []=>none
 |(k,v)::r=>if k=t then some v else FU t r
def aT.put(s:aT Γ)(dst:Option Nat)(v:PE Γ):aT Γ:=
 match dst with
 |some d=>{ s with env:=(d,v)::s.env }
 |none=>s
def jy(live:List Nat)(env:List (Nat×PE Γ)):List (Nat×PE Γ):=
 match live with
 | []=>[]
 |t::r=>match FU t env with
  |some v=>(t,v)::jy r env
  |none=>jy r env
def D6(t:Nat)(b:Bool):List (Nat×PE Γ)->List (Nat×PE Γ)
 | []=>[]
 |(k,v)::r=>if k=t then(k,.val (.lit b))::r else(k,v)::D6 t b r
def aT.D6(s:aT Γ)(x:Operand)(b:Bool):aT Γ:=
 match x with
 |.tmp t=>{ s with env:=Pv.D6 t b s.env }
 |_=>s
def Gp(env:List (Nat×PE Γ)):Operand->Option (PE Γ)
 |.tmp t=>FU t env
 |.const v=>match TV.WV v with
  |some (.bool b)=>some (.val (.lit b))
  |some x=>(Zo x).map .val
  |none=>none
 |.func f=>some (.val (.fn f [] []))
 |.global _=>none
def a1N:PV Γ->PV Γ
 |.lit b=>.bool b
 |v=>v
def AQ(env:List (Nat×PE Γ))(x:Operand):Option (PV Γ):=
 match Gp env x with
 |some (.val v)=>some (a1N v)
 |_=>none
def a1O(env:List (Nat×PE Γ))(x:Operand):Option (PV Γ):=
 match Gp env x with
 |some (.val v)=>some v
 |_=>none
def a05(env:List (Nat×PE Γ)):List Operand->Option (List (PV Γ))
 | []=>some []
 |x::xs=>match AQ env x,a05 env xs with
  |some v,some vs=>some (v::vs)
  |_,_=>none
def a3P(env:List (Nat×PE Γ)):List (Nat×Operand)->Option (List (Nat×PV Γ))
 | []=>some []
 |(i,x)::xs=>match AQ env x,a3P env xs with
  |some v,some vs=>some ((i,v)::vs)
  |_,_=>none
def P6(env:List (Nat×PE Γ)):Option Operand->Option (Option (PV Γ))
 |none=>some none
 |some x=>match AQ env x with
  |some v=>some (some v)
  |none=>none
def afe(cs:List (PV Γ))(off n:Nat):Option (List (PV Γ)):=
 if off+n<=cs.length then some ((cs.drop off).take n)else none
def P7(cs:List (PV Γ))(off:Nat)(new:List (PV Γ)):Option (List (PV Γ)):=
 if off+new.length<=cs.length then some (cs.take off++new++cs.drop (off+new.length))else none
def I9(P:LI1)(t:LI2)(cs:List (PV Γ))(off:Nat):Option (PV Γ):=
 match xg P t,dI P t with
 |some true,some n=>(afe cs off n).map .agg
 |some false,some n=>if n=1 then cs[off]? else none
 |_,_=>none
def Tt(P:LI1)(t:LI2):Option (List (PV Γ)):=
 match KR P t with
 |some z=>Di z
 |none=>none
def P8(place:Nat->Option (Nat×Nat)):List (PV Γ)->List (Nat×PV Γ)->Option (List (PV Γ))
 |cs,[]=>some cs
 |cs,(i,v)::r=>match place i with
  |some (off,size)=>if v.cells.length=size then(match P7 cs off v.cells with|some cs'=>P8 place cs' r|none=>none)else none
  |none=>none
def a06(P:LI1)(t:LI2)(parts:List (Nat×PV Γ)):Option (PV Γ):=
 match Tt P t,P.underlying t with
 |some z,some (.struct fs)=>if Dj P fs.toList then(P8 (UH P fs) z parts).map .agg else none
 |some z,some (.array _ e)=>match dI P e with
  |some n=>(P8 (fun i=>some (i*n,n)) z parts).map .agg
  |none=>none
 |_,_=>none
def a07(z:List (PV Γ)):Nat->List (PV Γ)
 | 0=>[]
 |n+1=>z++a07 z n
def EH(site:Bool)(s:aT Γ)(cs:List (PV Γ)):PE Γ×aT Γ:=
 if site then(.val (.ptr s.heap.length 0 cs.length),{ s with heap:=s.heap++[.cells cs] })
 else(.loc s.loc.length 0,{ s with loc:=s.loc++[cs] })
def view(H:List (PB Γ)):PV Γ->Option (PV Γ)
 |.own i=>match H[i]? with
  |some (.list _ _ t l)=>some (.dH t l false)
  |_=>none
 |.win i o n=>match H[i]? with
  |some (.list _ _ t l)=>some (.dH t ((l.drop o).take n) false)
  |_=>none
 |.fn f a c=>match views H a,views H c with
  |some a,some c=>some (.fn f a c)
  |_,_=>none
 |.agg cs=>(views H cs).map .agg
 |.dJ cs=>(views H cs).map .dJ
 |.ptr _ _ _=>none
 |.aP _ _ _ _ _ _=>none
 |.map _=>none
 |.iter _=>none
 |.lF _=>none
 |.el _ _ _=>none
 |.row _ _ _=>none
 |.bool b=>some (.bool b)
 |.lit b=>some (.bool b)
 |.int k n=>some (.int k n)
 |.str s=>some (.str s)
 |.nil k=>some (.nil k)
 |.dH t l f=>some (.dH t l f)
where
 views (H:List (PB Γ)):List (PV Γ)->Option (List (PV Γ))
 | []=>some []
 |c::cs=>match view H c,views H cs with
  |some v,some vs=>some (v::vs)
  |_,_=>none
abbrev views(H:List (PB Γ)):=view.views H
def kX:PV Γ->List Nat
 |.own i=>[i]
 |.win i _ _=>[i]
 |.fn _ a c=>kP a++kP c
 |.agg cs=>kP cs
 |.dJ cs=>kP cs
 |_=>[]
where
 kP:List (PV Γ)->List Nat
 | []=>[]
 |c::cs=>kX c++kP cs
def yD:PV Γ->Bool
 |.dH _ _ _=>true
 |.el _ _ _=>true
 |.fn _ a c=>Ia a||Ia c
 |.agg cs=>Ia cs
 |.dJ cs=>Ia cs
 |_=>false
where
 Ia:List (PV Γ)->Bool
 | []=>false
 |c::cs=>yD c||Ia cs
def jC:PV Γ->Bool
 |.ptr _ _ _=>false
 |.aP _ _ _ _ _ _=>false
 |.own _=>false
 |.win _ _ _=>false
 |.map _=>false
 |.iter _=>false
 |.lF _=>false
 |.row _ _ _=>false
 |.fn _ a c=>Ib a&&Ib c
 |.agg cs=>Ib cs
 |.dJ cs=>Ib cs
 |_=>true
where
 Ib:List (PV Γ)->Bool
 | []=>true
 |c::cs=>jC c&&Ib cs
def shift(k:Nat):PV Γ->PV Γ
 |.ptr b off lim=>.ptr (b+k) off lim
 |.aP b off len cap sz ex=>.aP (b+k) off len cap sz ex
 |.own b=>.own (b+k)
 |.win b o n=>.win (b+k) o n
 |.map r=>.map (r+k)
 |.iter r=>.iter (r+k)
 |.fn f a c=>.fn f (shifts k a) (shifts k c)
 |.lF l=>.lF (l+k)
 |.agg cs=>.agg (shifts k cs)
 |.dJ cs=>.dJ (shifts k cs)
 |.row b j off=>.row (b+k) j off
 |.bool b=>.bool b
 |.lit b=>.lit b
 |.int k n=>.int k n
 |.str s=>.str s
 |.nil k=>.nil k
 |.dH t l f=>.dH t l f
 |.el t a off=>.el t a off
where
 shifts (k:Nat):List (PV Γ)->List (PV Γ)
 | []=>[]
 |c::cs=>shift k c::shifts k cs
def XC(i:Nat)(H:List (PB Γ)):List (PB Γ):=H.set i .gone
def bC:List Nat->List (PB Γ)->List (PB Γ)
 | [],H=>H
 |i::is,H=>bC is (XC i H)
end
section
variable (X:lC)
def Gq(k:Nat):PB X.Γ->Option (PB X.Γ)
 |.cells cs=>some (.cells (shift.shifts k cs))
 |.list w ex t l=>some (.list w ex t l)
 |.gone=>some .gone
 |_=>none
def rX(k:Nat):List (PB X.Γ)->Option (List (PB X.Γ))
 | []=>some []
 |b::bs=>match Gq X k b,rX k bs with
  |some b,some bs=>some (b::bs)
  |_,_=>none
def hasB:PB X.Γ->Bool
 |.cells cs=>yD.Ia cs
 |.gone=>false
 |_=>true
def aak(H:List (PB X.Γ))(t:Nat)(cs:List (PV X.Γ)):Option (X.Γ t×List Nat):=
 match views H cs with
 |some vs=>match X.dec t vs with
  |some a=>some (a,kX.kP cs)
  |none=>none
 |none=>none
def yQ(H:List (PB X.Γ))(t sz:Nat):Nat->List (PV X.Γ)->Option (List (X.Γ t)×List Nat)
 | 0,_=>some ([],[])
 |n+1,cs=>if sz<=cs.length then match aak X H t (cs.take sz),yQ H t sz n (cs.drop sz)with
  |some (a,is),some (l,js)=>some (a::l,is++js)
  |_,_=>none
  else none
def DK{Γ:Nat->Type}(t t':Nat)(l:List (Γ t')):Option (List (Γ t)):=
 if h:t'=t then some (h▸l)else none
def Bo(H:List (PB X.Γ))(e sz:Nat):PV X.Γ->Option (List (X.Γ e)×List Nat)
 |.nil .aP=>some ([],[])
 |.dH t l _=>(DK e t l).map fun l=>(l,[])
 |.own i=>match H[i]? with
  |some (.list _ _ t l)=>(DK e t l).map fun l=>(l,[])
  |_=>none
 |.win i o n=>match H[i]? with
  |some (.list _ _ t l)=>(DK e t l).map fun l=>((l.drop o).take n,[])
  |_=>none
 |.aP b off len _ sz' _=>match H[b]? with
  |some (.cells cs)=>if sz'=sz∧off+len*sz<=cs.length then yQ X H e sz len (cs.drop off)else none
  |_=>none
 |_=>none
def Bq(P:LI1)(t:LI2)(s:aT X.Γ):PE X.Γ->Option (PV X.Γ×ni)
 |.loc k off=>match s.loc[k]? with
  |some cs=>(I9 P t cs off).map fun v=>(v,yA (.l k))
  |none=>none
 |.val (.ptr b off lim)=>match s.heap[b]?,dI P t with
  |some (.cells cs),some n=>if off+n<=lim then(I9 P t cs off).map fun v=>(v,yA (.h b))else none
  |some (.aG cs),some n=>if off+n<=lim then(I9 P t cs off).map fun v=>(v,cZ)else none
  |_,_=>none
 |.val (.row b j off)=>match s.heap[b]? with
  |some (.list _ _ e l)=>(I9 P t (X.enc e (l.getD j (X.d0 e))) off).map fun v=>(v,yA (.h b))
  |_=>none
 |.val (.el e a off)=>(I9 P t (X.enc e a) off).map fun v=>(v,cZ)
 |_=>none
def Vj(P:LI1)(t:LI2)(s:aT X.Γ)(a:PE X.Γ)(v:PV X.Γ):Option (aT X.Γ×ni):=
 match dI P t with
 |some n=>
  if v.cells.length=n∧v.cells.all a04=true then
   match a with
   |.loc k off=>match s.loc[k]? with
    |some cs=>(P7 cs off v.cells).map fun cs'=>({ s with loc:=s.loc.set k cs' },qo (.l k))
    |none=>none
   |.val (.ptr b off lim)=>if off+n<=lim then(match s.heap[b]? with
    |some (.cells cs)=>(P7 cs off v.cells).map fun cs'=>({ s with heap:=s.heap.set b (.cells cs') },qo (.h b))
    |_=>none)else none
   |.val (.row b j off)=>match s.heap[b]? with
    |some (.list k ex e l)=>match P7 (X.enc e (l.getD j (X.d0 e))) off v.cells with
     |some cs=>match aak X s.heap e cs with
      |some (x,is)=>if is.contains b then none else some ({ s with heap:=bC is (s.heap.set b (.list k ex e (l.set j x))) },qo (.h b))
      |none=>none
     |none=>none
    |_=>none
   |_=>none
  else none
 |none=>none
def aje:PE X.Γ->aT X.Γ->Option Nat
 |.val (.el e a _),_=>some (X.enc e a).length
 |.val (.row b j _),s=>match s.heap[b]? with
  |some (.list _ _ e l)=>some (X.enc e (l.getD j (X.d0 e))).length
  |_=>none
 |_,_=>none
def Ic(s:aT X.Γ)(o:Nat):PE X.Γ->Option (PE X.Γ)
 |.loc k off=>some (.loc k (off+o))
 |.val (.ptr b off lim)=>match s.heap[b]? with
  |some (.cells _)=>if off+o<=lim then some (.val (.ptr b (off+o) lim))else none
  |some (.aG _)=>if off+o<=lim then some (.val (.ptr b (off+o) lim))else none
  |_=>none
 |.val (.el e a off)=>if off+o<=(X.enc e a).length then some (.val (.el e a (off+o)))else none
 |.val (.row b j off)=>match aje X (.val (.row b j off)) s with
  |some n=>if off+o<=n then some (.val (.row b j (off+o)))else none
  |none=>none
 |_=>none
def fD(i:Int)(n:Nat):Prop:=0<=i∧i<(n:Int)
def a3Q(n:Nat):PV X.Γ->Option Nat
 |.int _ i=>if 0<=i∧i<n then some i.toNat else none
 |_=>none
def Gs(P:LI1)(t:LI2)(s:aT X.Γ)(x:PE X.Γ)(i:PV X.Γ):Option (PE X.Γ×List Prop):=
 match P.underlying t with
 |some (.slice e)=>match dI P e,x,i with
  |some n,.val (.dH t' l _),.int _ iv=>if t'=e then some (.val (.el t' (l.getD iv.toNat (X.d0 t')) 0),[fD iv l.length])else none
  |some n,.val (.own b),.int _ iv=>match s.heap[b]? with
   |some (.list _ _ t' l)=>if t'=e then some (.val (.row b iv.toNat 0),[fD iv l.length])else none
   |_=>none
  |some n,.val (.win b o m),.int _ iv=>match s.heap[b]? with
   |some (.list _ _ t' l)=>if t'=e then some (.val (.row b (o+iv.toNat) 0),[fD iv m])else none
   |_=>none
  |some n,.val (.aP b off len cap sz _),i=>match s.heap[b]? with
   |some (.cells _)=>if n=sz then(a3Q X len i).map fun j=>(.val (.ptr b (off+j*n) (off+cap*n)),[])else none
   |_=>none
  |_,_,_=>none
 |some (.array len e)=>match dI P e with
  |some n=>match a3Q X len i with
   |some j=>(Ic X s (j*n) x).map fun a=>(a,[])
   |none=>none
  |none=>none
 |_=>none
def aff(P:LI1)(at_:Array LI2)(H:List (PB X.Γ))(x:PV X.Γ):Option (PV X.Γ×ni):=
 match at_[0]? with
 |some t=>match P.underlying t,x with
  |some .string,.str s=>some (.int .i64 s.size,cZ)
  |some (.array n _),_=>some (.int .i64 n,cZ)
  |some (.slice _),.aP b _ len _ _ _=>match H[b]? with
   |some (.cells _)=>some (.int .i64 len,cZ)
   |_=>none
  |some (.slice _),.nil .aP=>some (.int .i64 0,cZ)
  |some (.slice _),.dH _ l _=>some (.int .i64 (l.length:Nat),cZ)
  |some (.slice _),.own b=>match H[b]? with
   |some (.list _ _ _ l)=>some (.int .i64 (l.length:Nat),cZ)
   |_=>none
  |some (.slice _),.win b _ n=>match H[b]? with
   |some (.list _ _ _ _)=>some (.int .i64 n,cZ)
   |_=>none
  |some (.map _ _),.nil .map=>some (.int .i64 0,cZ)
  |some (.map _ _),.map r=>match H[r]? with
   |some (.map es)=>some (.int .i64 es.length,yA (.h r))
   |_=>none
  |_,_=>none
 |none=>none
def ah:Nat:=2^20
def DL:PV X.Γ->List Key
 |.aP b _ _ _ _ _=>[.h b]
 |.own b=>[.h b]
 |.win b _ _=>[.h b]
 |_=>[]
def Vk(P:LI1)(at_:Array LI2)(H:List (PB X.Γ))(d x:PV X.Γ):Option (PV X.Γ×List (PB X.Γ)×ni×List Prop):=
 match at_[0]?,at_[1]? with
 |some st,some xt=>
  if UJ P xt||(P.underlying xt).isNone then none else
  match jU P st with
  |some (e,size)=>if uM P e ah then match Bo X H e size x with
   |some (rows,is)=>match d with
    |.nil .aP=>some (.own H.length,bC is H++[.list true false e rows],iE (DL X x),[rows.length<=ah])
    |.own b=>match H[b]? with
     |some (.list k ex t l)=>if is.contains b then none else match DK e t l with
      |some l=>some (.own H.length,bC (b::is) H++[.list (k&&ex) false e (l++rows)],⟨false,.h b::DL X x,[.h b]⟩,[l.length+rows.length<=ah])
      |none=>none
     |_=>none
    |.dH t l true=>match DK e t l with
     |some l=>some (.own H.length,bC is H++[.list true false e (l++rows)],iE (DL X x),[l.length+rows.length<=ah,l=[]∨rows≠[]])
     |none=>none
    |_=>none
   |none=>none
   else none
  |none=>none
 |_,_=>none
def P9{α:Type}(l:List α)(o k:Nat)(rows:List α):List α:=l.take o++rows.take k++l.drop (o+k)
def Fj(e:Nat):List (X.Γ e)->List (PV X.Γ)
 | []=>[]
 |a::l=>X.enc e a++Fj e l
def a6C(P:LI1)(at_:Array LI2)(H:List (PB X.Γ))(d x:PV X.Γ):Option (PV X.Γ×List (PB X.Γ)×ni):=
 match at_[0]? with
 |some st=>match jU P st with
  |some (e,size)=>match Bo X H e size x with
   |some (rows,[])=>match d with
    |.nil .aP=>some (.int .i64 0,H,iE (DL X x))
    |.own b=>match H[b]? with
     |some (.list k ex t l)=>match DK e t l with
      |some l=>some (.int .i64 ((min rows.length l.length:Nat):Int),H.set b (.list k ex e (P9 l 0 (min rows.length l.length) rows)),⟨false,.h b::DL X x,[.h b]⟩)
      |none=>none
     |_=>none
    |.win b o n=>match H[b]? with
     |some (.list k ex t l)=>match DK e t l with
      |some l=>some (.int .i64 ((min rows.length n:Nat):Int),H.set b (.list k ex e (P9 l o (min rows.length n) rows)),⟨false,.h b::DL X x,[.h b]⟩)
      |none=>none
     |_=>none
    |.aP b off len _ sz _=>match H[b]? with
     |some (.cells cs)=>if sz=size∧0<min rows.length len then(P7 cs off ((Fj X e rows).take (min rows.length len*size))).map fun cs'=>(.int .i64 ((min rows.length len:Nat):Int),H.set b (.cells cs'),⟨false,.h b::DL X x,[.h b]⟩)else none
     |_=>none
    |_=>none
   |_=>none
  |none=>none
 |none=>none
def yR(P:LI1)(t:LI2)(len:Nat)(H:List (PB X.Γ))(ps:List (Nat×PV X.Γ))(raw:Bool):Option (PV X.Γ×List (PB X.Γ)):=
 match jU P t with
 |some (e,n)=>if len*n<=2^24∧ps.all (fun p=>p.2.cells.all a04)=true then
   match Tt P e with
   |some z=>if z.length=n then
     match P8 (fun i=>some (i*n,n)) (a07 z len) ps with
     |some cs=>match(if raw=true then none else yQ X H e n len cs)with
      |some (rows,is)=>some (.own H.length,bC is H++[.list true true e rows])
      |none=>some (.aP H.length 0 len len n true,H++[.cells cs])
     |none=>none
    else none
   |none=>none
  else none
 |none=>none
def Gt(P:LI1)(t:LI2)(H:List (PB X.Γ))(l c:PV X.Γ):Option (PV X.Γ×List (PB X.Γ)×List Prop):=
 match jU P t,l,c with
 |some (e,n),.int _ l,.int _ c=>if uM P e ah then
   match Tt P e with
   |some z=>if z.length=n then
     match X.dec e z with
     |some a=>some (.own H.length,H++[.list true true e (List.replicate l.toNat a)],[l=c,0<=l,l<=ah])
     |none=>none
    else none
   |none=>none
  else none
 |_,_,_=>none
def zV(d:Nat):Option (PV X.Γ)->Option Int
 |none=>some d
 |some (.int _ i)=>some i
 |some _=>none
def a08(P:LI1)(t:LI2)(H:List (PB X.Γ))(x:PV X.Γ)(lo hi mx:Option (PV X.Γ)):Option (PV X.Γ×List Prop):=
 match P.underlying t,x with
 |some (.slice e),.dH t' l fu=>match dI P e,zV X 0 lo,zV X l.length hi,mx with
  |some _,some a,some b,none=>if t'=e then some (.dH t' ((l.take b.toNat).drop a.toNat) false,[0<=a,a<=b,b<=l.length])else none
  |some _,some a,some b,some (.int _ m)=>if t'=e∧hi.isSome then(if fu=true then some (.dH t' l true,[a=0,b=l.length,m=b])else some (.dH t' ((l.take b.toNat).drop a.toNat) true,[0<=a,a<=b,b<=l.length,m=b,a=b]))else none
  |_,_,_,_=>none
 |some (.slice e),.own i=>match H[i]? with
  |some (.list _ _ t' l)=>match dI P e,zV X 0 lo,zV X l.length hi,mx with
   |some _,some a,some b,none=>if t'=e then some (.win i a.toNat (b.toNat-a.toNat),[0<=a,a<=b,b<=l.length])else none
   |some _,some a,some b,some (.int _ m)=>if t'=e∧hi.isSome then some (.win i a.toNat (b.toNat-a.toNat),[0<=a,a<=b,b<=l.length,m=b,a=b])else none
   |_,_,_,_=>none
  |_=>none
 |some (.slice e),.nil .aP=>match dI P e,zV X 0 lo,zV X 0 hi,mx with
  |some _,some a,some b,none=>some (.nil .aP,[a=0,b=0])
  |some _,some a,some b,some (.int _ m)=>if hi.isSome then some (.nil .aP,[a=0,b=0,m=0])else none
  |_,_,_,_=>none
 |_,_=>none
def JD(P:LI1)(t:LI2)(H:List (PB X.Γ))(x:PE X.Γ)(lo hi mx:Option (PV X.Γ)):Option (PV X.Γ×List (PB X.Γ)×List Prop):=
 match P.underlying t,x with
 |some (.array n e),.val (.ptr b off lim)=>match dI P e with
  |some size=>
   if size=0∨lim<off+n*size∨2^24<n then none else
   match mx with
   |some _=>none
   |none=>match lo,hi with
    |none,none=>match H[b]? with
     |some (.cells _)=>some (.aP b off n n size true,H,[])
     |_=>none
    |lo,hi=>match H[b]?,zV X 0 lo,zV X n hi with
     |some (.cells cs),some a,some z=>if cs.length<off+n*size then none else match yQ X H e size n (cs.drop off)with
      |some (rows,is)=>some (.dH e ((rows.take z.toNat).drop a.toNat) false,bC (b::is) H,[0<=a,a<=z,z<=n])
      |none=>none
     |_,_,_=>none
  |none=>none
 |_,_=>none
def Gu(P:LI1)(t:LI2)(H:List (PB X.Γ))(x:PE X.Γ)(lo hi:Option (PV X.Γ)):Option (PV X.Γ):=
 match P.underlying t,x with
 |some (.array n e),.val (.ptr b off lim)=>match dI P e,H[b]?,zV X 0 lo,zV X n hi with
  |some size,some (.cells _),some a,some z=>if size=0∨lim<off+n*size∨2^24<n then none else if 0<=a∧a<=z∧z<=n then some (.aP b (off+a.toNat*size) (z.toNat-a.toNat) (n-a.toNat) size true)else none
  |_,_,_,_=>none
 |_,_=>none
def a1P(P:LI1)(t:LI2)(x y:PV X.Γ):Bool:=
 let acV:PV X.Γ->Option NK
  |.fn _ _ _=>some .fn
  |.el _ _ _=>some .ptr
  |_=>none
 let ajf:PV X.Γ->Option NK
  |.nil k=>some k
  |_=>none
 match KU P t with
 |some k=>(ajf x==some k&&acV y==some k)||(acV x==some k&&ajf y==some k)
 |none=>false
def afg(P:LI1)(op:BinOp)(t:LI2)(x y:Operand)(a b:PV X.Γ):Option (PV X.Γ):=
 match qJ a,qJ b with
 |some u,some v=>match tZ P op t x y u v with
  |some r=>Zo r
  |none=>none
 |_,_=>if a1P X P t a b then(match op with
  |.eql=>some (.bool false)
  |.neq=>some (.bool true)
  |_=>none)else none
def Nu(P:LI1)(op:BinOp)(t:LI2)(b:PV X.Γ)(q:Prop):Option (PV X.Γ×Prop):=
 match b,KU P t with
 |.nil .aP,some .aP=>match op with
  |.eql=>some (.bool false,q)
  |.neq=>some (.bool true,q)
  |_=>none
 |_,_=>none
def Vl(P:LI1)(op:BinOp)(t:LI2)(H:List (PB X.Γ))(a b:PV X.Γ):Option (PV X.Γ×Prop):=
 match a with
 |.dH _ l _=>Nu X P op t b (l≠[])
 |.own i=>match H[i]? with
  |some (.list _ _ _ l)=>Nu X P op t b (l≠[])
  |_=>none
 |_=>none
def pun(P:LI1)(op:UnOp)(a:PV X.Γ):Option (PV X.Γ):=
 match qJ a with
 |some u=>match unT P op u with
  |some r=>Zo r
  |none=>none
 |none=>none
def a6D(P:LI1)(src dst:LI2)(a:PV X.Γ):Option (PV X.Γ):=
 match qJ a with
 |some u=>match S9 P src dst u with
  |some r=>Zo r
  |none=>none
 |none=>match P.underlying src,P.underlying dst,a with
  |_,_,_=>none
def Nv(P:LI1)(mx:Bool)(at_:Array LI2)(t:LI2)(az:List (PV X.Γ)):Option (PV X.Γ):=
 match Vh az with
 |some us=>match Ew P mx at_ t us with
  |some r=>Zo r
  |none=>none
 |none=>none
def a09(P:LI1)(t:LI2)(x:PV X.Γ)(i:Nat):Option (PV X.Γ):=
 match P.underlying t,x with
 |some (.struct fs),.agg cs=>match fs[i]? with
  |some f=>I9 P f.type cs f.offset
  |none=>none
 |_,_=>none
def a0a(P:LI1)(t:LI2)(x i:PV X.Γ):Option (PV X.Γ):=
 match P.underlying t,x with
 |some (.array len e),.agg cs=>match dI P e,a3Q X len i with
  |some n,some j=>I9 P e cs (j*n)
  |_,_=>none
 |_,_=>none
def wu:List (PV X.Γ×PV X.Γ)->Option (List TV)
 | []=>some []
 |(k,_)::r=>match qJ k,wu r with
  |some v,some vs=>some (v::vs)
  |_,_=>none
def wz(P:LI1)(kt:LI2)(k:LI3)(ks:List TV):Option (Option Nat):=
 match CZ ks with
 |some ks=>match aF P (do Instr.checkKey ks.isEmpty 10000 kt k;Instr.findKey kt k (ks.map fun x=>⟨x,.bool false,0⟩))with
  |some r=>if X4 P kt k ks (r.map (·.1))then some (r.map (·.1))else none
  |none=>none
 |none=>none
end
end Pv
namespace Tw
open Go
abbrev Vm(k:IntKind)(x y:Int):Int:=k.wrap (x.tdiv y)
abbrev Pg(_k:IntKind)(x y:Int):Int:=x.tmod y
abbrev ajg(k:IntKind)(x y:Int):Int:=k.wrap (x*2^(min y.toNat k.bits))
abbrev ajh(k:IntKind)(x y:Int):Int:=x.fdiv (2^(min y.toNat k.bits))
end Tw

namespace Tw
open Go
section
variable {P:LI1}
theorem yS(d:Nat)(t:LI2)(xs ys:Array LI3)(fs:Array Field)(ht:P.underlying t=some (.struct fs))(hp:P.stoodInHeld t=false) :
  aF P (Op.equalIn (d+1) t (.agg xs) (.agg ys))=aF P (Op.eqFields d xs ys fs.toList):=by
 have hu:aF P (underlying t)=some (.struct fs):=by simp only[underlying,bM];have:aF P program=some P:=rfl;simp[this,ht,aF];rfl
 simp only[Op.equalIn,bM,hu,a5o,show aF P program=some P from rfl,hp,a3u,a3U];rw[<-Array.forIn_toList];generalize fs.toList=fs;clear ht hu
 induction fs with
 |nil=>simp[Op.eqFields,aF,bM];rfl
 |cons f fs ih=>
  simp only[List.forIn_cons,Op.eqFields,bM]at ih ⊢;split
  .simp only[bM];generalize aF P (part f.type xs f.offset)=r1;cases r1 with
   |none=>simp
   |some a=>
    simp only[a5o];generalize aF P (part f.type ys f.offset)=r2;cases r2 with
    |none=>simp
    |some b=>
     simp only[a5o];generalize aF P (Op.equalIn d f.type a b)=r3;cases r3 with
     |none=>simp
     |some r=>
      cases r with
      |false=>simp only[a5o,aaO,a2s];rfl
      |true=>simp only[a5o,a9M,a3u,a3U];exact ih
  .exact ih
theorem rY(d:Nat)(t:LI2)(k k':IntKind)(a b:Int)(h:P.underlying t=some (.int k')):aF P (Op.equalIn (d+1) t (.int k a) (.int k b))=some (a==b):=by
 have hu:aF P (underlying t)=some (.int k'):=by simp only[underlying,bM,show aF P program=some P from rfl,a5o,h];rfl
 simp only[Op.equalIn,bM,hu,a5o,a2s];rfl
theorem pR {d : Nat} {xs ys : Array Value} {f : Field} {fs : List Field} {a b : Value} {r : Bool} (hn : f.name ≠ "_") (ha : aF P (part f.type xs f.offset) = some a) (hb : aF P (part f.type ys f.offset) = some b)
  (hr:aF P (Op.equalIn d f.type a b)=some r):aF P (Op.eqFields d xs ys (f::fs))=if r=true then aF P (Op.eqFields d xs ys fs)else some false:=by
 simp only[Op.eqFields];rw[a0I hn];simp only[bM,ha,hb,hr,a5o];cases r with
 |true=>rfl
 |false=>rfl
theorem Ie{t:LI2}{x y:Operand}{xs ys:List TV}{us vs:List LI3}{r:Bool}(hx:TV.UE xs=some us)(hy:TV.UE ys=some vs)(hg:P.eqGuardType P.depth t=false)
  {d:Nat} (hd:d=10000) (h:aF P (Op.equalIn d t (.agg us.toArray) (.agg vs.toArray))=some r):tZ P .eql t x y (.agg xs) (.agg ys)=some (.bool r)∧tZ P .neq t x y (.agg xs) (.agg ys)=some (.bool (!r)):=by
 subst hd;constructor
 all_goals
  simp only[tZ,TV.zk,hx,hy,a19];simp only[eqGuard,binOp,Op.equal,Op.maxDepth,bM,show aF P program=some P from rfl,hg,a5o,a9M,aaO,a3u,a3U,a2s,h];rfl
theorem a6E{t:LI2}{x y:Operand}{k k':IntKind}{a b:Int}(h:0<=b):tZ P .shl t x y (.int k a) (.int k' b)=some (.int k (ajg k a b)):=by simp only[tZ,TV.zk,TV.toC,eqGuard,binOp,Op.shift];rw[a0F (show ¬b<0 by omega)];rfl
theorem a6F{t:LI2}{x y:Operand}{k k':IntKind}{a b:Int}(h:0<=b):tZ P .shr t x y (.int k a) (.int k' b)=some (.int k (ajh k a b)):=by simp only[tZ,TV.zk,TV.toC,eqGuard,binOp,Op.shift];rw[a0F (show ¬b<0 by omega)];rfl
theorem a6G{t:LI2}{x y:Operand}{k:IntKind}{a b:Int}(h:b≠0):tZ P .quo t x y (.int k a) (.int k b)=some (.int k (Vm k a b)):=by simp only[tZ,TV.zk,TV.toC,eqGuard,binOp,Op.intDiv];rw[a0F h];cases k<;>rfl
theorem a6H{t:LI2}{x y:Operand}{k:IntKind}{a b:Int}(h:b≠0):tZ P .rem t x y (.int k a) (.int k b)=some (.int k (Pg k a b)):=by simp only[tZ,TV.zk,TV.toC,eqGuard,binOp,Op.intDiv];rw[a0F h];cases k<;>rfl
end
end Tw
namespace Pv
open Go Tw
def xO:List Nat->Nat->Option Nat
 | [],_=>none
 |a::l,i=>if a=i then some 0 else(xO l i).map (·+1)
inductive G where
 |lit
 |Gv (t e:Nat)
 |Ph (k off e:Nat)
 |Vo (i off e:Nat)
 |flag (i:Nat)
 |gc (ks:List Nat)
 |mv (i:Nat)
 |fz (i:Nat)
section
variable {Γ:Nat->Type}
def fZ(g:Nat->Option Nat):PV Γ->Option (PV Γ)
 |.ptr b off lim=>(g b).map fun b=>.ptr b off lim
 |.aP b off len cap sz ex=>(g b).map fun b=>.aP b off len cap sz ex
 |.own b=>(g b).map .own
 |.win b o n=>(g b).map fun b=>.win b o n
 |.map r=>(g r).map .map
 |.iter r=>(g r).map .iter
 |.fn f a c=>match qm g a,qm g c with
  |some a,some c=>some (.fn f a c)
  |_,_=>none
 |.lF l=>(g l).map .lF
 |.agg cs=>(qm g cs).map .agg
 |.dJ cs=>(qm g cs).map .dJ
 |.row b j off=>(g b).map fun b=>.row b j off
 |.bool b=>some (.bool b)
 |.lit b=>some (.lit b)
 |.int k n=>some (.int k n)
 |.str s=>some (.str s)
 |.nil k=>some (.nil k)
 |.dH t l f=>some (.dH t l f)
 |.el t a off=>some (.el t a off)
where
 qm (g:Nat->Option Nat):List (PV Γ)->Option (List (PV Γ))
 | []=>some []
 |c::cs=>match fZ g c,qm g cs with
  |some v,some vs=>some (v::vs)
  |_,_=>none
def Pj(g:Nat->Option Nat):PE Γ->Option (PE Γ)
 |.val v=>(fZ g v).map .val
 |.ent r j v=>(g r).map fun r=>.ent r j v
 |.Fa r j=>(g r).map fun r=>.Fa r j
 |e=>some e
def ql(g:Nat->Option Nat):List (Nat×PE Γ)->Option (List (Nat×PE Γ))
 | []=>some []
 |(k,v)::r=>match Pj g v,ql g r with
  |some v,some r=>some ((k,v)::r)
  |_,_=>none
def XD(g:Nat->Option Nat):List (List (PV Γ))->Option (List (List (PV Γ)))
 | []=>some []
 |l::r=>match fZ.qm g l,XD g r with
  |some l,some r=>some (l::r)
  |_,_=>none
def zW(g:Nat->Option Nat):PB Γ->Option (PB Γ)
 |.cells cs=>(fZ.qm g cs).map .cells
 |.aG cs=>(fZ.qm g cs).map .aG
 |.map es=>some (.map es)
 |.dD r n seen=>(g r).map fun r=>.dD r n seen
 |.loop rd f nt env ps a b jW=>(ql g env).map fun env=>.loop rd f nt env ps a b jW
 |b=>some b
def oH(g:Nat->Option Nat):List (PB Γ)->Option (List (PB Γ))
 | []=>some []
 |b::r=>match zW g b,oH g r with
  |some b,some r=>some (b::r)
  |_,_=>none
def DN(H:List (PB Γ)):List Nat->Option (List (PB Γ))
 | []=>some []
 |i::is=>match H[i]?,DN H is with
  |some b,some r=>some (b::r)
  |_,_=>none
def aal:List (Nat×PE Γ)->List (Nat×PE Γ)
 | []=>[]
 |(k,.val v)::r=>(k,.val (a1N v))::aal r
 |x::r=>x::aal r
def Gv(t i:Nat):List (Nat×PE Γ)->Option (List (Nat×PE Γ))
 | []=>none
 |(k,v)::r=>if k=t then(match v with
   |.val (.nil .aP)=>some ((k,.val (.own i))::r)
   |_=>none)else(Gv t i r).map ((k,v)::·)
def aam(off i:Nat)(cs:List (PV Γ)):Option (List (PV Γ)):=
 match cs[off]? with
 |some (.nil .aP)=>some (cs.set off (.own i))
 |_=>none
def fzV(H:List (PB Γ))(i:Nat)(v:PV Γ):Option (PV Γ):=match(kX v).contains i with
 |false=>some v
 |true=>match(kX v).all fun j=>Nat.beq j i with
  |true=>view H v
  |false=>none
def a6I(H:List (PB Γ))(i:Nat):List (PV Γ)->Option (List (PV Γ))
 | []=>some []
 |v::vs=>match fzV H i v,a6I H i vs with
  |some w,some ws=>some (w::ws)
  |_,_=>none
def fzE(H:List (PB Γ))(i:Nat):List (Nat×PE Γ)->Option (List (Nat×PE Γ))
 | []=>some []
 |(k,.val v)::r=>match fzV H i v,fzE H i r with
  |some w,some ws=>some ((k,.val w)::ws)
  |_,_=>none
 |(_,.ent _ _ _)::_|(_,.Fa _ _)::_=>none
 |e::r=>(fzE H i r).map (e::·)
def fzL(H:List (PB Γ))(i:Nat):List (List (PV Γ))->Option (List (List (PV Γ)))
 | []=>some []
 |c::r=>match a6I H i c,fzL H i r with
  |some w,some ws=>some (w::ws)
  |_,_=>none
def CS(B:Nat)(s:aT Γ):G->Option (aT Γ)
 |.lit=>some { s with env:=aal s.env }
 |.Gv t e=>(Gv t s.heap.length s.env).map fun env=>{ s with env:=env,heap:=s.heap++[.list false false e []] }
 |.Ph k off e=>match s.loc[k]? with
  |some cs=>(aam off s.heap.length cs).map fun cs=>{ s with loc:=s.loc.set k cs,heap:=s.heap++[.list false false e []] }
  |none=>none
 |.Vo i off e=>match s.heap[i]? with
  |some (.cells cs)=>(aam off s.heap.length cs).map fun cs=>{ s with heap:=s.heap.set i (.cells cs)++[.list false false e []] }
  |_=>none
 |.flag i=>match s.heap[i]? with
  |some (.list _ _ t l)=>some { s with heap:=s.heap.set i (.list false false t l) }
  |_=>none
 |.gc ks=>if ks.all (fun k=>decide (B<=k))&&decide ks.Nodup&&decide (B<=s.heap.length)then
   let g:Nat->Option Nat:=fun i=>if i<B then some i else(xO ks i).map (·+B)
   match ql g s.env,XD g s.loc,oH g (s.heap.take B),DN s.heap ks with
   |some env,some loc,some h1,some h2=>match oH g h2 with
    |some h2=>some ⟨env,loc,h1++h2⟩
    |none=>none
   |_,_,_,_=>none
  else none
 |.fz i=>match fzE s.heap i s.env,fzL s.heap i s.loc with
  |some env,some loc=>some ⟨env,loc,bC [i] s.heap⟩
  |_,_=>none
 |.mv i=>match s.heap[i]? with
  |some b=>
   let g:Nat->Option Nat:=fun j=>if j=i then some s.heap.length else if j<s.heap.length then some j else none
   match ql g s.env,XD g s.loc,oH g (s.heap.set i .gone),zW g b with
   |some env,some loc,some h1,some b1=>some ⟨env,loc,h1++[b1]⟩
   |_,_,_,_=>none
  |none=>none
def lD(B:Nat):List G->aT Γ->Option (aT Γ)
 | [],s=>some s
 |g::gs,s=>match CS B s g with
  |some s=>lD B gs s
  |none=>none
end
def apt:BinOp->Bool
 |.quo|.rem|.shl|.shr=>true
 |_=>false
def afh{Γ:Nat->Type}(op:BinOp):PV Γ->PV Γ->Option (PV Γ×List Prop)
 |.int k x,.int k' y=>match op with
  |.quo=>if k'=k then some (.int k (Vm k x y),[y≠0])else none
  |.rem=>if k'=k then some (.int k (Pg k x y),[y≠0])else none
  |.shl=>some (.int k (ajg k x y),[0<=y])
  |.shr=>some (.int k (ajh k x y),[0<=y])
  |_=>none
 |_,_=>none
def putAt{α:Type}:List Nat->List α->List α->List α
 |k::ks,b::bs,l=>putAt ks bs (l.set k b)
 |_,_,l=>l
def bk(ks:List Nat)(n:Nat):Nat->Option Nat:=fun j=>match ks[j]? with
 |some k=>some k
 |none=>some (n+(j-ks.length))
def roB{Γ:Nat->Type}:List Nat->List (PB Γ)->List (PB Γ)->Option (List (PB Γ)×List (PB Γ))
 | [],H,H1=>some (H,H1)
 |r::rs,H,H1=>match H[r]?,H1[r]? with
  |some (.cells a),some (.cells b)=>roB rs (H.set r (.aG a)) (H1.set r (.aG b))
  |some (.map a),some (.map b)=>roB rs (H.set r (.iP a)) (H1.set r (.iP b))
  |_,_=>none
def JE{Γ:Nat->Type}:List (PB Γ)->Bool
 | []=>true
 |.aG _::_=>false
 |.iP _::_=>false
 |_::H=>JE H
def a3R{α:Type}(rs:List Nat):Nat->List α->List α
 |_,[]=>[]
 |i,k::ks=>if rs.contains i then a3R rs (i+1) ks else k::a3R rs (i+1) ks
inductive PA(Γ:Nat->Type) where
 |br (b:Bool)
 |rd (v:TV)
 |ix (j:Nat)
 |no
 |call (v:PV Γ) (H:List (PB Γ))
 |fr (ks:List Nat) (v:PV Γ) (H:List (PB Γ))
 |Pm (ks rs:List Nat) (v:PV Γ) (H:List (PB Γ))
 |loop (e:Ex) (s:aT Γ)
 |lg (gs:List G) (e:Ex) (s:aT Γ)
 |calm
inductive PT(Γ:Nat->Type) where
 |n
 |a (x:PA Γ) (r:PT Γ)
 |s (t e:PT Γ)
 |z (c:Bool) (t e:PT Γ)
 |l (m:Nat) (r:PT Γ)
inductive OT(ρ:Type) where
 |bad
 |ret (r:ρ)
 |o (p:Prop) (r:OT ρ)
 |br (c:Bool) (t e:OT ρ)
def OT.Ends{ρ:Type}:OT ρ->ρ->Prop
 |.bad,_=>False
 |.ret r,x=>r=x
 |.o p r,x=>p∧r.Ends x
 |.br c t e,x=>(c=true∧t.Ends x)∨(c=false∧e.Ends x)
def owe{ρ:Type}:List Prop->OT ρ->OT ρ
 | [],x=>x
 |p::ps,x=>.o p (owe ps x)
abbrev dZ(Γ:Nat->Type):=FuncId->List (PV Γ)->Option (PV Γ×List (PB Γ)×List Prop)
structure PI where
 i:ni
 wall:Bool
 mv:Bool
 hp:Bool
def yE:PI:=⟨cZ,false,false,false⟩
def Vp{Γ:Nat->Type}:PE Γ->Bool
 |.loc _ _=>true
 |_=>false
def rZ{Γ:Nat->Type}:PB Γ->Bool
 |.gone=>true
 |_=>false
def zX{Γ:Nat->Type}:List (PB Γ)->List (PB Γ)->Bool
 | [],_=>true
 |b::H,b'::H'=>(rZ b==rZ b')&&zX H H'
 |_::_,[]=>false
def afi{Γ:Nat->Type}:PV Γ->Bool
 |.agg _=>true
 |_=>false
def a0b{Γ:Nat->Type}:PV Γ->Bool
 |.str _=>true
 |_=>false
section
variable (X:lC) (P:LI1) (T:ru) (fV:dZ X.Γ) {ρ:Type}
def byB(u:PV X.Γ)(an:PT X.Γ)(k:Bool->PT X.Γ->OT ρ):OT ρ:=
 match u with
 |.lit t=>k t an
 |.bool u=>match an with
  |.s x y=>.br u (k true x) (k false y)
  |.a (.br t) r=>.o (u=t) (k t r)
  |_=>.bad
 |_=>.bad
def Ll(H:List (PB X.Γ))(r:Nat):Option (List (PV X.Γ×PV X.Γ)):=
 match H[r]? with
 |some (.map es)=>some es
 |some (.iP es)=>some es
 |_=>none
def a6J(H:List (PB X.Γ)):PV X.Γ->Option (List (PV X.Γ×PV X.Γ))
 |.nil .map=>some []
 |.map r=>Ll X H r
 |_=>none
def Tv:PV X.Γ->List Key
 |.map r=>[.h r]
 |_=>[]
def qO(kt:LI2)(es:List (PV X.Γ×PV X.Γ))(tk:TV)(v:PV X.Γ):Prop:=∃kv ks j k0,tk.zk=some kv∧wu X es=some ks∧wz P kt kv ks=some (some j)∧es[j]? = some (k0,v)
def oJ(kt:LI2)(es:List (PV X.Γ×PV X.Γ))(tk:TV):Prop:=∃kv ks,tk.zk=some kv∧wu X es=some ks∧wz P kt kv ks=some none
def aji(kt:LI2)(es:List (PV X.Γ×PV X.Γ))(tk:TV)(k v:PV X.Γ):Prop:=∃kv ks j old ov,tk.zk=some kv∧aF P (Instr.checkKey false 10000 kt kv)=some ()∧wu X es=some ks∧wz P kt kv ks=some (some j)∧es[j]? = some (k,v)∧ks[j]? = some old∧old.zk=some ov∧Instr.sameBits 10000 ov kv=true
def Pn(e:LI2):Option (PV X.Γ):=match P.info? e with
 |some i=>match i.zero with
  |some z=>match TV.WV z with
   |some z=>Zo z
   |none=>none
  |none=>none
 |none=>none
def a0c(t:LI2)(s:aT X.Γ)(m k:PV X.Γ)(ok:Bool)(an:PT X.Γ)(c:PE X.Γ->PI->PT X.Γ->OT ρ):OT ρ:=
 match P.underlying t,qJ k,a6J X s.heap m with
 |some (.map kt e),some tk,some es=>match an with
  |.a (.call v _) r=>.o (qO X P kt es tk v) (c (.val (if ok then .dJ [v,.bool true]else v)) ⟨iE (Tv X m),false,false,true⟩ r)
  |.a .calm r=>match Pn X P e with
   |some z=>.o (oJ X P kt es tk) (c (.val (if ok then .dJ [z,.bool false]else z)) ⟨iE (Tv X m),false,false,true⟩ r)
   |none=>.bad
  |.a (.rd _) r=>match Pn X P e with
   |some z=>.o (oJ X P kt es tk) (c (.val (if ok then .dJ [z,.bool false]else z)) ⟨iE (Tv X m),false,false,true⟩ r)
   |none=>.bad
  |an=>match tk.zk,wu X es with
   |some kv,some ks=>match an with
    |.a (.ix j) r=>match es[j]? with
     |some (_,v)=>.o (wz P kt kv ks=some (some j)) (c (.val (if ok then .dJ [v,.bool true]else v)) ⟨iE (Tv X m),false,false,true⟩ r)
     |none=>.bad
    |.a .no r=>match Pn X P e with
     |some z=>.o (wz P kt kv ks=some none) (c (.val (if ok then .dJ [z,.bool false]else z)) ⟨iE (Tv X m),false,false,true⟩ r)
     |none=>.bad
    |_=>.bad
   |_,_=>.bad
 |_,_,_=>.bad
def a6K(t:LI2)(s:aT X.Γ)(m k v:PV X.Γ)(an:PT X.Γ)(c:aT X.Γ->PI->PT X.Γ->OT ρ):OT ρ:=
 match P.underlying t,qJ k,m,qJ v with
 |some (.map kt _),some tk,.map r,some _=>match s.heap[r]? with
  |some (.map es)=>match an with
   |.a .calm rest=>.o (∃kv,tk.zk=some kv∧aF P (Instr.checkKey false 10000 kt kv)=some ()) (.o (oJ X P kt es tk) (c { s with heap:=s.heap.set r (.map (es++[(k,v)])) } ⟨qo (.h r),false,false,true⟩ rest))
   |.a (.rd _) rest=>.o (∃kv,tk.zk=some kv∧aF P (Instr.checkKey false 10000 kt kv)=some ()) (.o (oJ X P kt es tk) (c { s with heap:=s.heap.set r (.map (es++[(k,v)])) } ⟨qo (.h r),false,false,true⟩ rest))
   |.a (.call _ _) rest=>.o (aji X P kt es tk k v) (c s ⟨qo (.h r),false,false,true⟩ rest)
   |an=>match tk.zk,wu X es with
    |some kv,some ks=>match an with
     |.a (.ix j) rest=>match es[j]?,ks[j]? with
      |some _,some old=>match old.zk with
       |some ov=>.o (aF P (Instr.checkKey false 10000 kt kv)=some ()) (.o (wz P kt kv ks=some (some j)) (.o (Instr.sameBits 10000 ov kv=true) (c { s with heap:=s.heap.set r (.map (es.set j (k,v))) } ⟨qo (.h r),false,false,true⟩ rest)))
       |none=>.bad
      |_,_=>.bad
     |.a .no rest=>.o (aF P (Instr.checkKey false 10000 kt kv)=some ()) (.o (wz P kt kv ks=some none) (c { s with heap:=s.heap.set r (.map (es++[(k,v)])) } ⟨qo (.h r),false,false,true⟩ rest))
     |_=>.bad
    |_,_=>.bad
  |_=>.bad
 |_,_,_,_=>.bad
def a6L(kt:LI2)(es:List (PV X.Γ×PV X.Γ))(tk:TV)(k v:PV X.Γ)(j:Nat):Prop:=∃kv ks old ov,tk.zk=some kv∧aF P (Instr.checkKey false 10000 kt kv)=some ()∧wu X es=some ks∧wz P kt kv ks=some (some j)∧es[j]? = some (k,v)∧ks[j]? = some old∧old.zk=some ov∧Instr.sameBits 10000 ov kv=true
def afj(kt:LI2)(es:List (PV X.Γ×PV X.Γ))(tk:TV)(j:Nat):Prop:=∃kv ks,tk.zk=some kv∧wu X es=some ks∧wz P kt kv ks=some (some j)
def JF{Γ:Nat->Type}(es:List (PV Γ×PV Γ))(j:Nat)(v:PV Γ):List (PV Γ×PV Γ):=es.modify j fun e=>(e.1,v)
def a6M(t:LI2)(s:aT X.Γ)(m k:PV X.Γ)(an:PT X.Γ)(c:PE X.Γ->aT X.Γ->PI->PT X.Γ->OT ρ):OT ρ:=
 match P.underlying t,qJ k,m with
 |some (.map kt e),some tk,.map r=>match s.heap[r]? with
  |some (.map es)=>match an with
   |.a (.call v _) (.a (.ix j) rest)=>match v with
    |.int a x=>.o (a6L X P kt es tk k (.int a x) j) (c (.ent r j (.int a x)) s ⟨qo (.h r),false,false,true⟩ rest)
    |_=>.bad
   |.a .calm rest=>match Pn X P e with
    |some (.int a x)=>.o (∃kv,tk.zk=some kv∧aF P (Instr.checkKey false 10000 kt kv)=some ()) (.o (oJ X P kt es tk) (.o (afj X P kt (es++[(k,.int a x)]) tk es.length) (c (.ent r es.length (.int a x)) { s with heap:=s.heap.set r (.map (es++[(k,.int a x)])) } ⟨qo (.h r),false,false,true⟩ rest)))
    |_=>.bad
   |_=>.bad
  |_=>.bad
 |_,_,_=>.bad
def a6N(s:aT X.Γ)(m:PV X.Γ)(e:PE X.Γ)(v:PV X.Γ)(c:aT X.Γ->PI->OT ρ):OT ρ:=
 match m,e,qJ v with
 |.map r,.Fa r' j,some _=>if r=r' then match s.heap[r]? with
  |some (.map es)=>.o (j<es.length) (c { s with heap:=s.heap.set r (.map (JF es j v)) } ⟨qo (.h r),false,false,true⟩)
  |_=>.bad
  else .bad
 |_,_,_=>.bad
abbrev a3S(Γ:Nat->Type):=PV Γ->List (PV Γ)->List (PB Γ)->PV Γ->List (PB Γ)->Prop
def a6O(Tz:a3S X.Γ)(s:aT X.Γ)(fv:PV X.Γ)(xs:List (PV X.Γ))(an:PT X.Γ)(k:PE X.Γ->aT X.Γ->PI->PT X.Γ->OT ρ):OT ρ:=
 match an with
 |.a (.call v H) r=>.o (Tz fv xs s.heap v H) (k (.val v) { s with heap:=H } ⟨⟨true,[],[]⟩,true,false,true⟩ r)
 |.a (.fr ks v H) r=>match decide ks.Nodup&&JE (H.drop ks.length),DN s.heap ks with
  |true,some Hp=>match oH (xO ks) Hp,fZ (xO ks) fv,fZ.qm (xO ks) xs with
   |some Hs,some fv1,some xs1=>match fZ (bk ks s.heap.length) v,oH (bk ks s.heap.length) H with
    |some v1,some H1=>.o (Tz fv1 xs1 Hs v H) (k (.val v1) { s with heap:=putAt ks H1 s.heap++H1.drop ks.length } ⟨⟨true,[],ks.map .h⟩,false,false,true⟩ r)
    |_,_=>.bad
   |_,_,_=>.bad
  |_,_=>.bad
 |.a (.Pm ks rs v H) r=>match decide ks.Nodup&&JE (H.drop ks.length),DN s.heap ks with
  |true,some Hp=>match oH (xO ks) Hp,fZ (xO ks) fv,fZ.qm (xO ks) xs with
   |some Hs,some fv1,some xs1=>match fZ (bk ks s.heap.length) v,oH (bk ks s.heap.length) H,roB rs Hs H with
    |some v1,some H1,some (Hs',H')=>.o (Tz fv1 xs1 Hs' v H') (k (.val v1) { s with heap:=putAt ks H1 s.heap++H1.drop ks.length } ⟨⟨true,[],(a3R rs 0 ks).map .h⟩,false,false,true⟩ r)
    |_,_,_=>.bad
   |_,_,_=>.bad
  |_,_=>.bad
 |an=>match fv with
  |.fn f first cap=>match views s.heap (first++xs++cap)with
   |some vs=>match fV f vs with
    |some (v,ext,ps)=>match rX X s.heap.length ext with
     |some ext'=>owe ps (k (.val (shift s.heap.length v)) { s with heap:=(if yD v||ext.any (hasB X)then bC (kX.kP (first++xs++cap)) s.heap else s.heap)++ext' } ⟨⟨true,[],[]⟩,false,false,true⟩ an)
     |none=>.bad
    |none=>.bad
   |none=>.bad
  |_=>.bad
def afk(Tz:a3S X.Γ)(site:Nat->Bool)(s:aT X.Γ)(o:Oper)(an:PT X.Γ)(k:PE X.Γ->aT X.Γ->PI->PT X.Γ->OT ρ):OT ρ:=
 match o.op with
 |.move x|.assign x=>match Gp s.env x with
  |some v=>k v s yE an
  |none=>.bad
 |.pick c a b=>match a1O s.env c with
  |some u=>byB X u an fun t an=>match Gp s.env (if t then a else b)with
   |some v=>k v (s.D6 c t) yE an
   |none=>.bad
  |none=>.bad
 |.alloc e=>match Tt P e with
  |some z=>match EH (site (o.dst.getD 0)) s z with
   |(v,s)=>k v s yE an
  |none=>.bad
 |.box _ x=>match AQ s.env x with
  |some v=>if v.cells.all a04 then(match EH (site (o.dst.getD 0)) s v.cells with
   |(v,s)=>k v s yE an)else .bad
  |none=>.bad
 |.build t ps=>match a3P s.env ps.toList with
  |some ps=>match a06 P t ps with
   |some v=>k (.val v) s yE an
   |none=>.bad
  |none=>.bad
 |.buildSlice t len ps=>match a3P s.env ps.toList with
  |some ps=>match an with
   |.a (.Pm [] _ _ _) r=>match yR X P t len s.heap ps true with
    |some (v,H)=>k (.val v) { s with heap:=H } yE r
    |none=>.bad
   |an=>match yR X P t len s.heap ps false with
    |some (v,H)=>k (.val v) { s with heap:=H } yE an
    |none=>.bad
  |none=>.bad
 |.load t a=>match Gp s.env a with
  |some a=>match Bq X P t s a with
   |some (v,i)=>k (.val v) s ⟨i,false,false,!Vp a⟩ an
   |none=>.bad
  |none=>.bad
 |.store t a x=>match Gp s.env a,AQ s.env x with
  |some a,some v=>match Vj X P t s a v with
   |some (s,i)=>k .undef s ⟨i,false,false,!Vp a⟩ an
   |none=>.bad
  |_,_=>.bad
 |.nilCheck x=>match Gp s.env x with
  |some (.loc a b)=>k (.loc a b) s yE an
  |some (.val (.ptr a b c))=>match s.heap[a]? with
   |some (.cells _)=>k (.val (.ptr a b c)) s yE an
   |some (.aG _)=>k (.val (.ptr a b c)) s yE an
   |_=>.bad
  |some (.val (.row a b c))=>match s.heap[a]? with
   |some (.list _ _ _ _)=>k (.val (.row a b c)) s yE an
   |_=>.bad
  |some (.val (.el a b c))=>k (.val (.el a b c)) s yE an
  |some (.val (.fn a b c))=>k (.val (.fn a b c)) s yE an
  |_=>.bad
 |.binOp op t x y _=>match AQ s.env x,AQ s.env y with
  |some a,some b=>if apt op then(match afh op a b with
    |some (v,ps)=>owe ps (k (.val v) s yE an)
    |none=>.bad)
   else match Vl X P op t s.heap a b with
   |some (v,q)=>.o q (k (.val v) s yE an)
   |none=>if afi a||a0b a then(match an with
    |.a (.rd w) r=>match Zo w,qJ a,qJ b with
     |some v,some ta,some tb=>.o (tZ P op t x y ta tb=some w) (k (.val v) s yE r)
     |_,_,_=>.bad
    |_=>.bad)
   else match afg X P op t x y a b with
    |some v=>k (.val v) s yE an
    |none=>.bad
  |_,_=>.bad
 |.unOp op _ x=>match AQ s.env x with
  |some a=>match pun X P op a with
   |some v=>k (.val v) s yE an
   |none=>.bad
  |none=>.bad
 |.convert src dst x=>match AQ s.env x with
  |some a=>if a0b a then(match an with
    |.a (.rd w) r=>match Zo w,qJ a with
     |some v,some ta=>.o (S9 P src dst ta=some w) (k (.val v) s yE r)
     |_,_=>.bad
    |_=>.bad)
   else match a6D X P src dst a with
    |some v=>k (.val v) s yE an
    |none=>.bad
  |none=>.bad
 |.makeFunc (.func f) first cap=>match a05 s.env first.toList,a05 s.env cap.toList with
  |some a,some b=>k (.val (.fn f a b)) s yE an
  |_,_=>.bad
 |.makeMap t r=>match P6 s.env r,P.underlying t with
  |some none,_=>k (.val (.map s.heap.length)) { s with heap:=s.heap++[.map []] } yE an
  |some (some (.int _ _)),some (.map _ _)=>k (.val (.map s.heap.length)) { s with heap:=s.heap++[.map []] } yE an
  |_,_=>.bad
 |.makeSlice t l c=>match AQ s.env l,AQ s.env c with
  |some l,some c=>match Gt X P t s.heap l c with
   |some (v,H,ps)=>owe ps (k (.val v) { s with heap:=H } yE an)
   |none=>.bad
  |_,_=>.bad
 |.slice t x lo hi mx=>match Gp s.env x,P6 s.env lo,P6 s.env hi,P6 s.env mx with
  |some x,some lo,some hi,some mx=>match P.underlying t with
   |some (.array _ _)=>match an with
    |.a .no r=>match mx,Gu X P t s.heap x lo hi with
     |none,some v=>k (.val v) s yE r
     |_,_=>.bad
    |an=>match JD X P t s.heap x lo hi mx with
     |some (v,H,ps)=>owe ps (k (.val v) { s with heap:=H } yE an)
     |none=>.bad
   |_=>match x with
    |.val (.str b)=>(match an with
     |.a (.rd w) r=>match Zo w,(match lo with|none=>some none|some v=>(qJ v).map some),(match hi with|none=>some none|some v=>(qJ v).map some)with
      |some v,some tl,some th=>if mx.isNone then .o (rO P t (.str b) tl th none=some w) (k (.val v) s yE r)else .bad
      |_,_,_=>.bad
     |_=>.bad)
    |.val x=>match a08 X P t s.heap x lo hi mx with
     |some (v,ps)=>owe ps (k (.val v) s yE an)
     |none=>.bad
    |_=>.bad
  |_,_,_,_=>.bad
 |.fieldAddr t x f=>match Gp s.env x,H6 P t f with
  |some a,some n=>match Ic X s n a with
   |some v=>k v s yE an
   |none=>.bad
  |_,_=>.bad
 |.field t x f=>match AQ s.env x with
  |some a=>match a09 X P t a f with
   |some v=>k (.val v) s yE an
   |none=>.bad
  |none=>.bad
 |.indexAddr t x i=>match Gp s.env x,AQ s.env i with
  |some a,some i=>match Gs X P t s a i with
   |some (v,ps)=>owe ps (k v s yE an)
   |none=>.bad
  |_,_=>.bad
 |.index t x i=>match AQ s.env x,AQ s.env i with
  |some a,some i=>if a0b a then(match an with
    |.a (.rd w) r=>match Zo w,qJ a,qJ i with
     |some v,some ta,some ti=>.o (Jp P t ta ti=some w) (k (.val v) s yE r)
     |_,_,_=>.bad
    |_=>.bad)
   else match a0a X P t a i with
    |some v=>k (.val v) s yE an
    |none=>.bad
  |_,_=>.bad
 |.lookup t m i ok=>match AQ s.env m,AQ s.env i with
  |some m,some i=>a0c X P t s m i ok an fun v q an=>k v s q an
  |_,_=>.bad
 |.mapUpdate t m i x|.insert t m i x=>match AQ s.env m,AQ s.env i,AQ s.env x with
  |some m,some i,some v=>a6K X P t s m i v an fun s q an=>k .undef s q an
  |_,_,_=>.bad
 |.mapEntry t m i=>match AQ s.env m,AQ s.env i with
  |some m,some i=>a6M X P t s m i an k
  |_,_=>.bad
 |.entryStore _ m e x=>match AQ s.env m,Gp s.env e,AQ s.env x with
  |some m,some e,some v=>a6N X s m e v fun s q=>k .undef s q an
  |_,_,_=>.bad
 |.extract t i=>match Gp s.env t with
  |some (.val (.dJ vs))=>match vs[i]? with
   |some v=>k (.val v) s yE an
   |none=>.bad
  |some (.ent r j v)=>match i with
   | 0=>k (.val v) s yE an
   | 1=>k (.Fa r j) s yE an
   |_=>.bad
  |_=>.bad
 |.call c=>match a05 s.env c.args.toList with
  |some az=>match c.callee with
   |.builtin .len=>match az with
    | [x]=>match aff X P c.argTypes s.heap x with
     |some (v,i)=>k (.val v) s ⟨i,false,false,true⟩ an
     |none=>.bad
    |_=>.bad
   |.builtin .append=>match az with
    | [d,x]=>match Vk X P c.argTypes s.heap d x with
     |some (v,H,i,ps)=>owe ps (k (.val v) { s with heap:=H } ⟨i,false,false,true⟩ an)
     |none=>.bad
    |_=>.bad
   |.builtin .copy=>match az with
    | [d,x]=>match a6C X P c.argTypes s.heap d x with
     |some (v,H,i)=>k (.val v) { s with heap:=H } ⟨i,false,false,true⟩ an
     |none=>.bad
    |_=>.bad
   |.builtin .min=>match Nv X P false c.argTypes o.type az with
    |some v=>k (.val v) s yE an
    |none=>.bad
   |.builtin .max=>match Nv X P true c.argTypes o.type az with
    |some v=>k (.val v) s yE an
    |none=>.bad
   |.value f=>match AQ s.env f with
    |some fv=>a6O X fV Tz s fv az an k
    |none=>.bad
   |_=>.bad
  |none=>.bad
 |.range t x=>match AQ s.env x,P.underlying t with
  |some (.map r),some (.map _ _)=>match Ll X s.heap r with
   |some es=>k (.val (.iter s.heap.length)) { s with heap:=s.heap++[.dD r es.length []] } ⟨iE [.h r],false,false,true⟩ an
   |_=>.bad
  |_,_=>.bad
 |.entry x=>match AQ s.env x with
  |some (.iter b)=>match s.heap[b]? with
   |some (.dD r n (i::_))=>match Ll X s.heap r with
    |some es=>match an with
     |.a (.call (.dJ [kk,vv]) _) rest=>.o (es.length=n∧es[i]? = some (kk,vv)) (k (.val (.dJ [kk,vv])) s ⟨iE [.h b,.h r],false,false,true⟩ rest)
     |an=>if es.length=n then(match es[i]? with
      |some e=>k (.val (.dJ [e.1,e.2])) s ⟨iE [.h b,.h r],false,false,true⟩ an
      |none=>.bad)else .bad
    |_=>.bad
   |_=>.bad
  |_=>.bad
 |_=>.bad
def a0d(ops:Array Oper)(s:aT X.Γ)(o:Oper)(an:PT X.Γ)(k:Bool->aT X.Γ->PT X.Γ->OT ρ):OT ρ:=
 match o.guard with
 |none=>k true s an
 |some (j,want)=>match(ops[j]?).bind (·.dst)with
  |some d=>match FU d s.env with
   |some (.val b)=>byB X b an fun t an=>k (t==want) (s.D6 (.tmp d) t) an
   |some .undef=>k false s an
   |_=>.bad
  |none=>.bad
def a0e(a b:PI):Bool:=
 (a.i.ws.all fun k=>!(b.i.all&&k.isH)&&!b.i.ts.contains k&&!b.i.ws.contains k&&!(b.wall&&k.isH)) &&
 (!a.wall||(!b.i.all&&!b.wall&&b.i.ts.all (fun k=>!k.isH)&&b.i.ws.all (fun k=>!k.isH)))
def a1Q(a b:PI):Bool:=a0e a b&&a0e b a
def Vq(yB:List PI):List (Nat×Nat)->Bool
 | []=>true
 |(i,j)::r=>(match yB[i]?,yB[j]? with
  |some a,some b=>a1Q a b&&(!a.hp||!b.hp||!((yB.drop i).take (j-i)).any (·.mv))
  |_,_=>false)&&Vq yB r
def XE(Tz:a3S X.Γ)(site:Nat->Bool)(nt:Nat)(ops:Array Oper):List Oper->aT X.Γ->PT X.Γ->(aT X.Γ->List PI->PT X.Γ->OT ρ)->OT ρ
 | [],s,an,k=>k s [] an
 |o::os,s,an,k=>if !Ob nt o then .bad else a0d X ops s o an fun w s an=>match w with
  |true=>afk X P fV Tz site s o an fun v s1 i an=>XE Tz site nt ops os (s1.put o.dst v) an fun s' is an=>k s' (⟨i.i,i.wall,!zX s.heap s1.heap,i.hp⟩::is) an
  |false=>XE Tz site nt ops os (s.put o.dst .undef) an fun s' is an=>k s' (yE::is) an
def Vr:List (Nat×PE X.Γ)->Nat
 | []=>0
 |(_,.loc k _)::r=>max (k+1) (Vr r)
 |_::r=>Vr r
def gY(live:List Nat)(s:aT X.Γ):aT X.Γ:=
 let env:=jy live s.env
 { s with env:=env,loc:=s.loc.take (Vr X env) }
def Vt(step:aT X.Γ->PT X.Γ->(Ex->aT X.Γ->PT X.Γ->OT ρ)->OT ρ):Nat->aT X.Γ->PT X.Γ->(Ex->aT X.Γ->PT X.Γ->OT ρ)->OT ρ
 | 0,_,_,_=>.bad
 |m+1,s,an,k=>step s an fun e s an=>match e with
  |.norm=>Vt step m s an k
  |e=>k e s an
abbrev a1R(Γ:Nat->Type):=Code->aT Γ->Ex->aT Γ->Prop
def zB(lo:a1R X.Γ)(B:Nat)(c:Code)(s:aT X.Γ)(k:Ex->aT X.Γ->PT X.Γ->OT ρ):PT X.Γ->OT ρ
 |.a (.loop e s') r=>.o (lo c s e s') (k e s' r)
 |.a (.lg gs e s') r=>match lD B gs s with
  |some s0=>.o (lo c s0 e s') (k e s' r)
  |none=>.bad
 |.z c' a b=>.br c' (zB lo B c s k a) (zB lo B c s k b)
 |_=>.bad
def ku(Tz:a3S X.Γ)(lo:a1R X.Γ)(B:Nat)(L:Nat)(f:Nat)(iy:Bool)(nt:Nat):Code->aT X.Γ->PT X.Γ->(Ex->aT X.Γ->PT X.Γ->OT ρ)->OT ρ
 |.skip,s,an,k=>k .norm s an
 |.label _,s,an,k=>k .norm s an
 |.region id ops draw,s,an,k=>XE X P fV Tz (fun d=>iy||T.UL f d) nt ops ops.toList s an fun s' yB an=>
  match draw with
  |false=>k .norm { s' with env:=jy (T.iK f id) s'.env } an
  |true=>match an with
   |.a .calm r=>if yB.all (fun i=>i.i.ws.isEmpty&&!i.wall)then .o (oC ops.toList=true) (k .norm { s' with env:=jy (T.iK f id) s'.env } r)else .bad
   |an=>if oC ops.toList&&Vq yB (nP ops.toList)then k .norm { s' with env:=jy (T.iK f id) s'.env } an else .bad
 |.seq a b,s,an,k=>ku Tz lo B L f iy nt a s an fun e s an=>match e with
  |.norm=>ku Tz lo B L f iy nt b s an k
  |e=>k e s an
 |.cond c a b,s,an,k=>match a1O s.env c with
  |some u=>byB X u an fun t an=>match t with
   |true=>ku Tz lo B L f iy nt a (s.D6 c true) an k
   |false=>ku Tz lo B L f iy nt b (s.D6 c false) an k
  |none=>.bad
 |.block id b,s,an,k=>ku Tz lo B L f iy nt b s an fun e s an=>match e with
  |.exit i=>k (if i=id then .norm else .exit i) s an
  |e=>k e s an
 |.scope b,s,an,k=>ku Tz lo B L f iy nt b s an k
 |.loop b,s,an,k=>match an with
  |.l m r=>.o (m<=L) (Vt X (fun s an k=>ku Tz lo B L f iy nt b (gY X (T.fC f (eu b)) s) an k) m s r k)
  |an=>zB X lo B (.loop b) s k an
 |.exit id,s,an,k=>k (.exit id) s an
 |.ret,s,an,k=>k .ret s an
 |.rangeFunc g ps vM body,s,an,k=>zB X lo B (.rangeFunc g ps vM body) s k an
 |_,_,_,_=>.bad
def ajl(s:aT X.Γ):ResultVar->Option (PV X.Γ)
 |.tmp t=>match FU t s.env with
  |some (.val v)=>some (a1N v)
  |_=>none
 |.cell a t=>match FU a s.env with
  |some a=>(Bq X P t s a).map (·.1)
  |none=>none
def FV(s:aT X.Γ):List ResultVar->Option (List (PV X.Γ))
 | []=>some []
 |r::rs=>match ajl X P s r,FV s rs with
  |some v,some vs=>some (v::vs)
  |_,_=>none
def a0f:List (PV X.Γ)->PV X.Γ
 | [v]=>v
 |vs=>.dJ vs
def lN:Nat->List (PV X.Γ)->List (Nat×PE X.Γ)
 |_,[]=>[]
 |k,v::vs=>(k,.val v)::lN (k+1) vs
def DR(Tz:a3S X.Γ)(lo:a1R X.Γ)(L:Nat)(f:Nat)(args:List (PV X.Γ))(H:List (PB X.Γ))(an:PT X.Γ):OT (PV X.Γ×List (PB X.Γ)):=
 match(if(T.exts.contains f||T.dem.contains f)=true then none else UK P f)with
 |some t=>ku X P T fV Tz lo H.length L f false t.nt t.body ⟨lN X 0 args,[],H⟩ an fun e s an=>match e,an with
  |.exit _,_=>.bad
  |_,.n=>match FV X P s t.results with
   |some vs=>.ret (a0f X vs,s.heap)
   |none=>.bad
  |_,_=>.bad
 |none=>.bad
end
inductive MB where
 |gK (b:Nat)
 |jF (b:Nat)
 |dH (x:TV)
 |gone
def MB.own:MB->Option Nat
 |.gK b=>some b
 |.dH (.aP b _ len _ _ _)=>if len=0 then none else some b
 |_=>none
def bI(m:List MB):List Nat:=m.filterMap MB.own
def bH{Γ:Nat->Type}:PV Γ->Option Nat
 |.ptr b _ _=>some b
 |.aP b _ _ _ _ _=>some b
 |.own b=>some b
 |.win b _ _=>some b
 |.map b=>some b
 |.iter b=>some b
 |.lF b=>some b
 |.row b _ _=>some b
 |_=>none
def roV{Γ:Nat->Type}(c:Nat):PV Γ->Option TV
 |.ptr _ off lim=>some (.ptr c off lim)
 |.aP _ off len cap sz ex=>some (.aP c off len cap sz ex)
 |.map _=>some (.map c)
 |.iter _=>some (.iter c)
 |.lF _=>some (.lF c)
 |_=>none
inductive DT{Γ:Nat->Type}(v:PV Γ)(x:TV):Option MB->Prop where
 |g:DT v x (some .gone)
 |r (c):roV c v=some x->DT v x (some (.jF c))
theorem DT.of{Γ:Nat->Type}{v:PV Γ}{x:TV}{o:Option MB}(e:o=some .gone):DT v x o:=by subst e;exact .g
theorem DT.as{Γ:Nat->Type}{v w:PV Γ}{x:TV}{o:Option MB}(h:DT v x o)(e:∀c,roV c w=roV c v):DT w x o:=by
 cases h with
 |g=>exact .g
 |r c h=>exact .r c ((e c).trans h)
theorem DT.ofR{Γ:Nat->Type}{v:PV Γ}{x:TV}{o:Option MB}{c:Nat}(e:o=some (.jF c))(h:roV c v=some x):DT v x o:=by subst e;exact .r c h
section
variable (X:lC) (P:LI1)
inductive VR(A:Nat->Prop)(m:List MB)(h:List HB):PV X.Γ->TV->Prop where
 |bool (b):VR A m h (.bool b) (.bool b)
 |lit (b):VR A m h (.lit b) (.bool b)
 |int (k n):VR A m h (.int k n) (.int k n)
 |str (s):VR A m h (.str s) (.str s)
 |nil (k):VR A m h (.nil k) (.nil k)
 |ptr {b c off lim}:m[b]? = some (.gK c)->VR A m h (.ptr b off lim) (.ptr c off lim)
 |aP {b c off len cap sz ex}:m[b]? = some (.gK c)->VR A m h (.aP b off len cap sz ex) (.aP c off len cap sz ex)
 |own {i x}:m[i]? = some (.dH x)->jk x=true->VR A m h (.own i) x
 |win {i o n c off len cap cap' sz ex ex'}:m[i]? = some (.dH (.aP c off len cap sz ex))->o+n<=len->n<=cap'->(n=0∨o+cap'=cap)->VR A m h (.win i o n) (.aP c (off+o*sz) n cap' sz ex')
 |Bv {i}:m[i]? = some (.dH (.nil .aP))->VR A m h (.win i 0 0) (.nil .aP)
 |map {r c}:m[r]? = some (.gK c)->VR A m h (.map r) (.map c)
 |iter {r c}:m[r]? = some (.gK c)->VR A m h (.iter r) (.iter c)
 |fn {f a a' c c'}:a.length=a'.length->(∀(i:Nat) x y,a[i]? = some x->a'[i]? = some y->VR A m h x y)->c.length=c'.length->(∀(i:Nat) x y,c[i]? = some x->c'[i]? = some y->VR A m h x y)->VR A m h (.fn f a c) (.fn f a' c')
 |lF {l c}:m[l]? = some (.gK c)->VR A m h (.lF l) (.lF c)
 |agg {cs cs'}:cs.length=cs'.length->(∀(i:Nat) x y,cs[i]? = some x->cs'[i]? = some y->VR A m h x y)->VR A m h (.agg cs) (.agg cs')
 |dJ {cs cs'}:cs.length=cs'.length->(∀(i:Nat) x y,cs[i]? = some x->cs'[i]? = some y->VR A m h x y)->VR A m h (.dJ cs) (.dJ cs')
 |pU {t fu}:VR A m h (.dH t [] fu) (.nil .aP)
 |dH {t l fu b off cap sz ex cs}:A b->aX h b=some cs->(l≠[]->ny h b (off+cap*sz)=some cs)->dI P t=some sz->0<sz->off+l.length*sz<=cs.length->l.length<=cap->(fu=true->ex=true∧cap=l.length)->(∀(j:Nat) a,l[j]? = some a->(X.enc t a).length=sz) ->
   (∀(j:Nat) a (i:Nat) c v,l[j]? = some a->(X.enc t a)[i]? = some c->cs[off+j*sz+i]? = some v->VR A m h c v)->VR A m h (.dH t l fu) (.aP b off l.length cap sz ex)
 |el {t a off b o sz lim cs}:A b->ny h b lim=some cs->o+sz<=lim->o+sz<=cs.length->(X.enc t a).length=sz->off<=sz ->
   (∀(i:Nat) c v,(X.enc t a)[i]? = some c->cs[o+i]? = some v->VR A m h c v)->VR A m h (.el t a off) (.ptr b (o+off) lim)
 |row {i j off c len cap sz ex}:m[i]? = some (.dH (.aP c 0 len cap sz ex))->j<len->off<=sz->VR A m h (.row i j off) (.ptr c (j*sz+off) (cap*sz))
 |gone {v i x}:bH v=some i->DT v x m[i]?->jk x=true->VR A m h v x
def bZ(A:Nat->Prop)(m:List MB)(h:List HB)(a:List (PV X.Γ))(b:List TV):Prop:=a.length=b.length∧∀(i:Nat) x y,a[i]? = some x->b[i]? = some y->VR X P A m h x y
def eX(A:Nat->Prop)(m:List MB)(h:List HB)(t:Nat)(l:List (X.Γ t))(cs:List TV)(off sz:Nat):Prop:=
 (∀(j:Nat) a,l[j]? = some a->(X.enc t a).length=sz)∧off+l.length*sz<=cs.length∧∀(j:Nat) a (i:Nat) c v,l[j]? = some a->(X.enc t a)[i]? = some c->cs[off+j*sz+i]? = some v->VR X P A m h c v
inductive LR(A:Nat->Prop)(m:List MB)(h:List HB)(k ex:Bool)(t:Nat):List (X.Γ t)->TV->Prop where
 |nil:LR A m h k ex t [] (.nil .aP)
 |emp {b off sz cs}:A b->aX h b=some cs->off<=cs.length->dI P t=some sz->0<sz->LR A m h k ex t [] (.aP b off 0 0 sz true)
 |some {l b sz e kk cs}:l≠[]->dI P t=some sz->0<sz->h[b]? = some (.cells kk cs)->kk≠.ro->(k=true->kk=.own)->(ex=true->e=true)->cs.length=l.length*sz->eX X P A m h t l cs 0 sz->LR A m h k ex t l (.aP b 0 l.length l.length sz e)
def Jo(A:Nat->Prop)(m:List MB)(h:List HB):PE X.Γ->EV->Prop
 |.val v,.val x=>VR X P A m h v x
 |.loc k o,.loc k' o'=>k=k'∧o=o'
 |.undef,.undef=>True
 |.ent r j v,.ent c j' x=>VR X P A m h (.map r) (.map c)∧j=j'∧qJ v=some x
 |.Fa r j,.Fa c j'=>VR X P A m h (.map r) (.map c)∧j=j'
 |_,_=>False
inductive kM(A:Nat->Prop)(m:List MB)(h:List HB):List (Nat×PE X.Γ)->List (Nat×EV)->Prop where
 |nil:kM A m h [] []
 |cons {k v x r r'}:Jo X P A m h v x->kM A m h r r'->kM A m h ((k,v)::r) ((k,x)::r')
def BR(A:Nat->Prop)(m:List MB)(h:List HB):PB X.Γ->MB->Prop
 |.cells cs,.gK b=>∃cs',h[b]? = some (.cells .own cs')∧bZ X P A m h cs cs'
 |.aG cs,.jF b=>b∉bI m∧∃cs',h[b]? = some (.cells .own cs')∧bZ X P A m h cs cs'
 |.list k ex t l,.dH x=>LR X P A m h k ex t l x
 |.map es,.gK b=>∃gJ,h[b]? = some (.map gJ)∧es.length=gJ.length∧∀(i:Nat) x y,es[i]? = some x->gJ[i]? = some y->qJ x.1=some y.1∧qJ x.2=some y.2
 |.iP es,.jF b=>b∉bI m∧∃gJ,h[b]? = some (.map gJ)∧es.length=gJ.length∧∀(i:Nat) x y,es[i]? = some x->gJ[i]? = some y->qJ x.1=some y.1∧qJ x.2=some y.2
 |.nX cs,.gK b=>∃cs',h[b]? = some (.nX cs')∧Vh cs=some cs'
 |.mark,.gK b=>h[b]? = some .mark
 |.dD r n seen,.gK b=>∃c,h[b]? = some (.dD c n seen)∧(m[r]?).isSome=true∧∀c',(m[r]? = some (.gK c')∨m[r]? = some (.jF c'))->c'=c
 |.loop rd f nt env ps a c jW,.gK b=>∃env',h[b]? = some (.loop rd f nt env' ps a c jW)∧kM X P A m h env env'
 |.gone,.gone=>True
 |_,_=>False
def AA(A:Nat->Prop)(m:List MB):Nat->Prop:=fun b=>A b∧b∉bI m
structure HR(A:Nat->Prop)(m:List MB)(H:List (PB X.Γ))(h:List HB):Prop where
 len:m.length=H.length
 at_:∀(i:Nat) b,H[i]? = some b->∃mb,m[i]? = some mb∧BR X P (AA A m) m h b mb
 nodup:(bI m).Nodup
 up:∀b,h.length<=b->A b
 DU:∀b,b∈bI m->A b
end
structure Fr(m:List MB)(h:List HB)(m':List MB)(h':List HB):Prop where
 len:h.length<=h'.length
 same:∀b,b<h.length->b∉bI m->h'[b]? = h[b]?
 new:∀b,b∈bI m'->b∈bI m∨h.length<=b
 grow:∀b cs,aX h b=some cs->∃cs',aX h' b=some cs'∧cs.length<=cs'.length
def Up(m m':List MB):Prop:=∀(i:Nat) mb,m[i]? = some mb->m'[i]? = some mb∨m'[i]? = some .gone
theorem Fr.refl{m:List MB}{h:List HB}:Fr m h m h:=⟨a15 _,fun _ _ _=>rfl,fun _ hb=>.inl hb,fun _ cs hc=>⟨cs,hc,a15 _⟩⟩
theorem Up.refl{m:List MB}:Up m m:=fun _ _ h=>.inl h
theorem Fr.trans{m m' m'':List MB}{h h' h'':List HB}(a:Fr m h m' h')(b:Fr m' h' m'' h''):Fr m h m'' h'':=by
 refine⟨a5M a.len b.len,fun c hc hn=>?_,fun c hc=>?_,fun c cs hc=>?_⟩
 .rw[b.same c (by have:=a.len;omega) (fun hm=>?_),a.same c hc hn];rcases a.new c hm with h1|h1
  .exact hn h1
  omega
 .rcases b.new c hc with h1|h1
  .exact a.new c h1
  have:=a.len;exact .inr (by omega)
 obtain⟨cs',h1,h2⟩:=a.grow c cs hc;obtain⟨afc,h3,h4⟩:=b.grow c cs' h1;exact⟨afc,h3,by omega⟩
theorem Up.trans{m m' m'':List MB}(a:Up m m')(b:Up m' m''):Up m m'':=fun i mb hi=>by
 rcases a i mb hi with h|h
 .exact b i mb h
 .rcases b i _ h with h|h<;>exact .inr h
theorem gZ{h:List HB}{b:Nat}{cs:List TV}(hc:aX h b=some cs):b<h.length:=by
 unfold aX at hc;split at hc
 .rename_i e;exact(a0n.1 e).1
 cases hc
theorem gq{h h':List HB}{b:Nat}(e:h'[b]? = h[b]?):aX h' b=aX h b:=by unfold aX;rw[e]
theorem yU{h h':List HB}{b lim:Nat}(e:h'[b]? = h[b]?):ny h' b lim=ny h b lim:=by unfold ny;rw[e]
theorem Bz{h:List HB}{b lim:Nat}{cs:List TV}(hc:ny h b lim=some cs):aX h b=some cs:=by obtain⟨k,h1,_⟩:=yK hc;unfold aX;rw[h1]
theorem a3T{h:List HB}{b lim:Nat}{cs:List TV}(hc:ny h b lim=some cs):b<h.length:=gZ (Bz hc)
theorem xP{h:List HB}{b lim:Nat}{k:BK}{cs:List TV}(hc:h[b]? = some (.cells k cs))(hl:lim=cs.length):ny h b lim=some cs:=by unfold ny;simp[hc,hl]
theorem XF{h:List HB}{b off lim:Nat}{cs new:List TV}(hc:h[b]? = some (.cells .own cs)):UG h b off lim new=(wZ cs off new).map fun cs'=>h.set b (.cells .own cs'):=by unfold UG;simp[hc,AV]
theorem a1S{h:List HB}{b off lim:Nat}{k k':BK}{cs new:List TV}(hc:h[b]? = some (.cells k cs))(hk:AV k true=some k')(hl:lim=cs.length):UG h b off lim new=(wZ cs off new).map fun cs'=>h.set b (.cells k' cs'):=by unfold UG;simp[hc,hl,hk]
theorem JG{k:BK}(h:k≠.ro):∃k',AV k true=some k'∧k'≠.ro∧(k=.own->k'=.own):=by cases k<;>simp_all [AV]
theorem xQ{h:List HB}{b lim:Nat}{k:BK}{cs:List TV}(hc:h[b]? = some (.cells k cs))(hl:k≠.last):ny h b lim=some cs:=by unfold ny;simp[hc,hl]
section
variable {X:lC} {P:LI1} {A:Nat->Prop} {m m':List MB} {h h':List HB}
theorem VR.step(hF:Fr m h m' h')(hU:Up m m'){v:PV X.Γ}{x:TV}(hv:VR X P (AA A m) m h v x):VR X P (AA A m') m' h' v x:=by
 have hA:∀b cs,AA A m b->aX h b=some cs->AA A m' b∧h'[b]? = h[b]?:=by
  intro b cs ha hc;have aQ:=gZ hc;refine⟨⟨ha.1,fun hm=>?_⟩,hF.same b aQ ha.2⟩;rcases hF.new b hm with h1|h1
  .exact ha.2 h1
  omega
 induction hv with
 |bool=>exact .bool _
 |lit=>exact .lit _
 |int=>exact .int _ _
 |str=>exact .str _
 |nil=>exact .nil _
 |ptr e=>rcases hU _ _ e with e|e;exact .ptr e;exact .gone rfl (.of e) rfl
 |aP e=>rcases hU _ _ e with e|e;exact .aP e;exact .gone rfl (.of e) rfl
 |own e o=>rcases hU _ _ e with e|e;exact .own e o;exact .gone rfl (.of e) o
 |win e q q' q2=>rcases hU _ _ e with e|e;exact .win e q q' q2;exact .gone rfl (.of e) rfl
 |Bv e=>rcases hU _ _ e with e|e;exact .Bv e;exact .gone rfl (.of e) rfl
 |map e=>rcases hU _ _ e with e|e;exact .map e;exact .gone rfl (.of e) rfl
 |iter e=>rcases hU _ _ e with e|e;exact .iter e;exact .gone rfl (.of e) rfl
 |fn h1 _ h3 _ i2 i4=>exact .fn h1 i2 h3 i4
 |lF e=>rcases hU _ _ e with e|e;exact .lF e;exact .gone rfl (.of e) rfl
 |agg h1 _ i2=>exact .agg h1 i2
 |dJ h1 _ i2=>exact .dJ h1 i2
 |pU=>exact .pU
 |dH a c c2 s z o k f e _ ih=>obtain⟨a',c'⟩:=hA _ _ a c;exact .dH a' ((gq c').trans c) (fun hl=>(yU c').trans (c2 hl)) s z o k f e ih
 |el a c l o e q _ ih=>obtain⟨a',c'⟩:=hA _ _ a (Bz c);exact .el a' ((yU c').trans c) l o e q ih
 |row e j q=>rcases hU _ _ e with e|e;exact .row e j q;exact .gone rfl (.of e) rfl
 | @gone v i0 x i e o=>
  generalize hq:m[i0]? = q at e;cases e with
  |g=>rcases hU _ _ hq with e|e<;>exact .gone i (.of e) o
  |r c hv=>rcases hU _ _ hq with e|e;exact .gone i (.ofR e hv) o;exact .gone i (.of e) o
theorem bZ.step(hF:Fr m h m' h')(hU:Up m m'){v:List (PV X.Γ)}{x:List TV}(hv:bZ X P (AA A m) m h v x):bZ X P (AA A m') m' h' v x:=
 ⟨hv.1,fun i a b ha hb=>(hv.2 i a b ha hb).step hF hU⟩
theorem eX.step(hF:Fr m h m' h')(hU:Up m m'){t:Nat}{l:List (X.Γ t)}{cs:List TV}{off sz:Nat}(hv:eX X P (AA A m) m h t l cs off sz):eX X P (AA A m') m' h' t l cs off sz:=
 ⟨hv.1,hv.2.1,fun j a i c v h1 h2 h3=>(hv.2.2 j a i c v h1 h2 h3).step hF hU⟩
theorem Jo.step(hF:Fr m h m' h')(hU:Up m m'){v:PE X.Γ}{x:EV}(hv:Jo X P (AA A m) m h v x):Jo X P (AA A m') m' h' v x:=by cases v<;>cases x<;>first|exact VR.step hF hU hv|exact hv|exact⟨VR.step hF hU hv.1,hv.2⟩
theorem kM.step(hF:Fr m h m' h')(hU:Up m m'){v:List (Nat×PE X.Γ)}{x:List (Nat×EV)}(hv:kM X P (AA A m) m h v x):kM X P (AA A m') m' h' v x:=by
 induction hv with
 |nil=>exact .nil
 |cons h1 _ ih=>exact .cons (h1.step hF hU) ih
theorem BR.step(hF:Fr m h m' h')(hU:Up m m'){b:PB X.Γ}{mb:MB}(hs:∀c,mb.own=some c->h'[c]? = h[c]?)(hb:BR X P (AA A m) m h b mb):BR X P (AA A m') m' h' b mb:=by
 cases b with
 |cells cs=>
  cases mb with
  |gK b=>obtain⟨cs',h1,h2⟩:=hb;exact⟨cs',by rw[hs b rfl,h1],h2.step hF hU⟩
  |_=>exact hb.elim
 |aG cs=>
  cases mb with
  |jF b=>
   obtain⟨h0,cs',h1,h2⟩:=hb;have aQ:=(a0n.1 h1).1;refine⟨fun hm=>?_,cs',by rw[hF.same _ aQ h0,h1],h2.step hF hU⟩;rcases hF.new _ hm with g|g
   .exact h0 g
   omega
  |_=>exact hb.elim
 |list k ex t l=>
  cases mb with
  |dH x=>
   cases(hb:LR X P (AA A m) m h k ex t l x)with
   |nil=>exact LR.nil
   |emp h0 h1 h2 h3 h4=>
    have aQ:=gZ h1;refine LR.emp ⟨h0.1,fun hm=>?_⟩ (by rw[gq (hF.same _ aQ h0.2),h1]) h2 h3 h4;rcases hF.new _ hm with g|g
    .exact h0.2 g
    omega
   |some h1 h2 h3 h4 h5 h6 h7 h8 h9=>
    have ho:=hs _ (by simp only[MB.own];rw[a0F (by simpa using h1)]);exact LR.some h1 h2 h3 (by rw[ho,h4]) h5 h6 h7 h8 (h9.step hF hU)
  |_=>exact hb.elim
 |map es=>
  cases mb with
  |gK b=>obtain⟨gJ,h1,h2,h3⟩:=hb;exact⟨gJ,by rw[hs b rfl,h1],h2,h3⟩
  |_=>exact hb.elim
 |nX cs=>
  cases mb with
  |gK b=>obtain⟨gJ,h1,h2⟩:=hb;exact⟨gJ,by rw[hs b rfl,h1],h2⟩
  |_=>exact hb.elim
 |iP es=>
  cases mb with
  |jF b=>
   obtain⟨h0,gJ,h1,h2⟩:=hb;have aQ:=(a0n.1 h1).1;refine⟨fun hm=>?_,gJ,by rw[hF.same _ aQ h0,h1],h2⟩;rcases hF.new _ hm with g|g
   .exact h0 g
   omega
  |_=>exact hb.elim
 |dD r n seen=>
  cases mb with
  |gK b=>
   obtain⟨c,h1,h2,h3⟩:=hb;obtain⟨mb,h4⟩:=a5N.1 h2;refine⟨c,by rw[hs b rfl,h1],by rcases hU _ _ h4 with e|e<;>rw[e]<;>rfl,fun c' hc=>h3 c' ?_⟩;rcases hU _ _ h4 with e|e
   .rw[h4,<-e];exact hc
   rw[e]at hc;simp at hc
  |_=>exact hb.elim
 |mark=>
  cases mb with
  |gK b=>show h'[b]? = _;rw[hs b rfl];exact hb
  |_=>exact hb.elim
 |loop rd f nt env ps a c jW=>
  cases mb with
  |gK b=>obtain⟨e',h1,h2⟩:=hb;exact⟨e',by rw[hs b rfl,h1],h2.step hF hU⟩
  |_=>exact hb.elim
 |gone=>
  cases mb with
  |gone=>trivial
  |_=>exact hb.elim
theorem bD{i:Nat}{mb:MB}{b:Nat}(hi:m[i]? = some mb)(ho:mb.own=some b):b∈bI m:=
 a6v.2 ⟨mb,a5q hi,ho⟩
theorem jm(hn:(bI m).Nodup):∀{i j:Nat} {a b:MB} {c:Nat},m[i]? = some a->m[j]? = some b->a.own=some c->b.own=some c->i=j:=by
 unfold bI at hn
 induction m with
 |nil=>intro i j a b c h;simp at h
 |cons x r ih=>
  intro i j a b c hi hj ha hb;have hr:(r.filterMap MB.own).Nodup:=by
   simp only[a9O]at hn;split at hn
   .exact hn
   exact(a5n.1 hn).2
  have hx:∀{k:Nat} {y:MB},r[k]? = some y->y.own=some c->x.own=some c->False:=by intro k y hk hy hxc;simp only[a9O,hxc]at hn;exact(a5n.1 hn).1 (a6v.2 ⟨y,a5q hk,hy⟩)
  cases i with
  |zero=>
   cases j with
   |zero=>rfl
   |succ j=>
    simp only[a3p,a0k]at hi;subst hi;exact(hx (by simpa using hj) hb ha).elim
  |succ i=>
   cases j with
   |zero=>
    simp only[a3p,a0k]at hj;subst hj;exact(hx (by simpa using hi) ha hb).elim
   |succ j=>
    have:=ih hr (i:=i) (j:=j) (by simpa using hi) (by simpa using hj) ha hb;omega
end
end Pv
