/- What Op2 makes has, at any place, the cell that value.Op2 returns of the cells there; for two diagrams that fit, and an operation. -/
import Derived.ProofKit
import Derived.Test.YtmobpoiejckagaaGreatRows
import Derived.Test.YtmobpoiejckagaaGreatP05
set_option linter.constructorNameAsVariable false
set_option linter.unusedVariables false
set_option linter.unusedSimpArgs false
set_option linter.unusedSectionVars false
open Go.IntKind (i64)
noncomputable section
namespace Go.Proofs.YtmobpoiejckagaaGreat
open Go Tw Pv dh
abbrev a08:Code:=(Tz Qp 88).body
abbrev lpB:Code:=eF (eF (eG (eF (eG a08))))
abbrev xB:Code:=eF (eG (eG lpB))
def DI(t:List (V×Int))(js:List Nat):List Int:=(js.reverse.filter fun j=>!decide ((PX t j).1.f>0)).map fun j=>(PX t j).1.n
def fOf(t:List (V×Int))(js:List Nat):Bool:=js.any fun j=>decide ((PX t j).1.f>0)
theorem a3N(t:List (V×Int))(j:Nat)(js:List Nat):DI t (j::js)=DI t js++(if decide ((PX t j).1.f>0)=true then []else [(PX t j).1.n]):=by
 unfold DI;rw[List.reverse_cons,List.filter_append,a4j];congr 1;cases h:decide ((PX t j).1.f>0)
 .rw[adl (by rw[h];rfl),a0o (by simp)];rfl
 rw[adf (by rw[h];simp),a0p rfl];rfl
def lY(t:List (V×Int)):List Int:=gV ((t.filter fun e=>!decide (e.1.f>0)).map fun e=>e.1.n)
def uI(t:List (V×Int)):Bool:=t.any fun e=>decide (e.1.f>0)
theorem a09{l l':List Int}(h:l.Perm l'):gV l=gV l':=by
 unfold gV;have hs:∀l:List Int,(l.mergeSort fun x y=>decide (x<=y)).Pairwise fun a b=>decide (a<=b)=true:=fun l=>
  List.pairwise_mergeSort (fun a b c h1 h2=>by simp at *;omega) (fun a b=>by simp;omega) l
 exact List.Perm.eq_of_pairwise (le:=fun a b=>decide (a<=b)=true) (fun a b _ _ h1 h2=>by simp at h1 h2;omega) (hs l) (hs l') ((adT l _).trans (h.trans (adT l' _).symm))
theorem afR{t:List (V×Int)}{js:List Nat}(hn:js.Nodup)(hl:∀j∈js,j<t.length)(ha:∀j,j<t.length->j∈js):gV (DI t js)=lY t∧fOf t js=uI t:=by
 have hp:(js.reverse).Perm (List.range t.length):=(List.reverse_perm js).trans ((a7n hn adM).2 fun j=>⟨fun h=>a4s.2 (hl j h),fun h=>ha j (a4s.1 h)⟩);constructor
 .refine a09 ?_;unfold DI;have e:((t.filter fun e=>!decide (e.1.f>0)).map fun e=>e.1.n)=((List.range t.length).filter fun j=>!decide ((PX t j).1.f>0)).map fun j=>(PX t j).1.n:=by
   conv=>lhs;rw[afP t]
   rw[List.filter_map,a7X];rfl
  rw[e];exact(hp.filter _).map _
 unfold fOf uI;rw[a4H,agC,agC];constructor
 .rintro⟨j,hj,h⟩;exact⟨PX t j,dS (d:=((V0,0):V×Int)) (hl j hj),h⟩
 rintro⟨e,he,h⟩;obtain⟨j,hj,rfl⟩:=a4J.1 he;exact⟨j,ha j hj,by rw[(Vj (a0f hj)).1];exact h⟩
abbrev sBl(t:List (V×Int))(l:List Int)(b:Bool)(js:List Nat):aS aF:=match l with
 | []=>⟨[(2,.val (.nil .slc)),(3,xl b),(6,.val (.iter 1))],[],[.iE (kV.im t),.cZ 0 t.length js]⟩
 |x::l=>⟨[(2,.val (.own 2)),(3,xl b),(6,.val (.iter 1))],[],[.iE (kV.im t),.cZ 0 t.length js,.list false false 3 (x::l)]⟩
theorem afS{n:Nat}:aW X0 Qp (bQ (n+1)) (.fn 137 [] []) [.nil .slc] [] (.dI []) []:=by
 intro A m h tf rW hr hf hx;obtain⟨x,r,rfl,h1,h2⟩:=hx.inv;have:=h2.inv0;subst this;have htf:=hf.UD;subst htf;have hx:x=.nil .slc:=jL h1 rfl;subst hx;exact⟨.dI [],h,[],m,rfl,hr,.dI rfl (fun i x y hx=>by simp at hx),.refl,.refl,fun b hb=>by cases hb⟩
section
variable {n:Nat} {t:List (V×Int)}
set_option maxRecDepth 20000 in
theorem aaT(h:JD t):aJ X0 Qp T (bQ (n+1)) (uO Qp T (bQ (n+1)) LL) LL 88 (BM Qp 88) 1 (.block 0 (.loop lpB)) (sBl t [] false [])
  fun e s=>e=.norm∧∃l seen,gV l=lY t∧s={ sBl t l (uI t) seen with env:=jd (T.iy 88 2) ((8,.val (.bool false))::(7,.val (.dI [.bool false]))::(sBl t l (uI t) seen).env) }:=by
 have e1:lpB=.seq (.region 2 (a7S (eF lpB)) false) (.seq (.cond (.tmp 8) .skip (.exit 0)) (.block 1 xB)):=by kernel_rfl
 have hlen:=h.len;rw[e1];refine PS hX (n:=t.length) (b:=1) (r:=0) (it:=6) (nx:=7) (mo:=8) (es:=kV.im t) (fun seen s=>seen.Nodup∧(∀j∈seen,j<t.length)∧∃gs,lC 1 gs (gQ X0 (T.eH 88 (dV lpB)) s)=some (sBl t (DI t seen) (fOf t seen) seen)) (by kernel_rfl) (a7C (by kernel_rfl)) (a7C (by kernel_rfl)) (kV.pJ t) (by unfold LL;omega)
  ⟨a5Y,(fun j hj=>(by cases hj)),[],(by kernel_rfl)⟩ (fun seen s hi=>?_)
 obtain⟨jA,aQ,gs,h3⟩:=hi;rw[<-e1];refine⟨gs,_,h3,?_,?_,?_,fun ho=>?_,fun j e hj he=>?_⟩
 .cases DI t seen<;>kernel_rfl
 .cases DI t seen<;>kernel_rfl
 .cases DI t seen<;>kernel_rfl
 .obtain⟨a1,a2⟩:=afR jA aQ ho;refine⟨?_,DI t seen,seen,a1,?_⟩
  .cases DI t seen<;>kernel_rfl
  .rw[a2]
 .rw[kV.AX,a0e]at he;obtain⟨⟨v,w⟩,rV,rfl⟩:=he;obtain⟨q1,q2,q3⟩:=Vj rV;have G6:(j::seen).Nodup:=a4r.2 ⟨hj,jA⟩;have G7:∀k∈j::seen,k<t.length:=fun k hk=>by
   rcases a2y.1 hk with rfl|hk
   .exact q2
   .exact aQ k hk
  have hll:(DI t seen).length<=2000:=by
   have h1:(DI t seen).length<=seen.length:=by
    unfold DI;rw[a4n];exact a4U (a98 ..) (by simp)
   have h2:seen.length<=t.length:=by
    have:=(JB jA aQ).length_eq;have h3:=a98 (fun j=>seen.contains j) (List.range t.length);rw[a8I]at h3;omega
   omega
  have DT:=a3N t j seen;have hf2:fOf t (j::seen)=(decide (v.f>0)||fOf t seen):=by unfold fOf;rw[adq,q1]
  rw[q1]at DT;generalize fOf t seen=b at hf2;have DT:DI t (j::seen)=DI t seen++(if decide (v.f>0)=true then []else [v.n]):=DT;generalize DI t seen=l at DT hll;cases hv:decide (v.f>0)
  .rw[hv,a0o (by simp)]at DT;rw[hv,agA]at hf2;have hv1:decide (v.f>0)=false:=hv;cases l with
   |nil=>
    have a1:[v.n].length<=ah:=by rw[a4f];unfold ah;omega
    refine⟨by kernel_rfl,aJ.step (e:=.norm) (by kernel_rfl) (zL (ps1:=⟨[(2,.val (.own 3)),(3,xl b),(6,.val (.iter 1))],[v.ps],[.iE (kV.im t),.cZ 0 t.length (j::seen),.list true true 3 [v.n],.list true false 3 [v.n]]⟩) hX fV (by kernel_rfl) (.c (.dI [.agg v.ps,.int .i64 w]) [] (Ba rV) (.b hv1 (.o a1 (.r rfl))))) ⟨.inl rfl,G6,G7,[.flag 3,.gc [1,3]],?_⟩⟩;rw[DT,hf2]
    kernel_rfl
   |cons x l=>
    have a1:(x::l).length+[v.n].length<=ah:=by rw[a4f];unfold ah;omega
    refine⟨by kernel_rfl,aJ.step (e:=.norm) (by kernel_rfl) (zL (ps1:=⟨[(2,.val (.own 4)),(3,xl b),(6,.val (.iter 1))],[v.ps],[.iE (kV.im t),.cZ 0 t.length (j::seen),.gone,.list true true 3 [v.n],.list false false 3 (x::l++[v.n])]⟩) hX fV (by kernel_rfl) (.c (.dI [.agg v.ps,.int .i64 w]) [] (Ba rV) (.b hv1 (.o a1 (.r rfl))))) ⟨.inl rfl,G6,G7,[.gc [1,4]],?_⟩⟩;rw[DT,hf2]
    kernel_rfl
  .rw[hv,a0p rfl,a5W]at DT;rw[hv,Bool.true_or]at hf2;have hv1:decide (v.f>0)=true:=hv;cases l with
   |nil=>
    refine⟨by kernel_rfl,aJ.step (e:=.exit 1) (by kernel_rfl) (zL (ps1:=⟨[(2,.val (.nil .slc)),(3,xl true),(6,.val (.iter 1))],[v.ps],[.iE (kV.im t),.cZ 0 t.length (j::seen)]⟩) hX fV (by kernel_rfl) (.c (.dI [.agg v.ps,.int .i64 w]) [] (Ba rV) (.b hv1 (.r rfl)))) ⟨.inr rfl,G6,G7,[],?_⟩⟩;rw[DT,hf2]
    kernel_rfl
   |cons x l=>
    refine⟨by kernel_rfl,aJ.step (e:=.exit 1) (by kernel_rfl) (zL (ps1:=⟨[(2,.val (.own 2)),(3,xl true),(6,.val (.iter 1))],[v.ps],[.iE (kV.im t),.cZ 0 t.length (j::seen),.list false false 3 (x::l)]⟩) hX fV (by kernel_rfl) (.c (.dI [.agg v.ps,.int .i64 w]) [] (Ba rV) (.b hv1 (.r rfl)))) ⟨.inr rfl,G6,G7,[],?_⟩⟩;rw[DT,hf2]
    kernel_rfl
theorem Ep:∀l:List Int,iI (Ey X0 3 l)=some (l.map fun n=>TV.int .i64 n)
 | []=>rfl
 |a::l=>by
  have:=Ep l;show(match qW (PV.int .i64 a:PV aF),iI (Ey X0 3 l)with
   |some a,some b=>some (a::b)
   |_,_=>none)=_
  rw[this];rfl
theorem a3O{ng:Bool}{b:Bool}{Hs:List (PB aF)}:a3F X0 Qp ng (.dI [.nil .slc,.bool b]) Hs (fun _=>.dI [.nil .slc,.bool b]) []:=fun A m h h1 w hr hw _=>by
 cases hw with
 |gone hi _ _=>simp[bf]at hi
 |dI a1 a2=>
  obtain⟨x,r,rfl,v0,v1⟩:=Pv.bU.inv (⟨a1,a2⟩:Pv.bU X0 Qp _ _ _ _ _);obtain⟨y,r,rfl,v2,v3⟩:=v1.inv;have:=v3.inv0;subst this;have:=jL v2 (show qg (PV.bool b:PV aF)=some (TV.bool b)from rfl);subst this;have:=jL v0 (show qg (PV.nil .slc:PV aF)=some (TV.nil .slc)from rfl);subst this;unfold O1;simp only[BD,BD.EM,wK,nI,nI.yZ,CJ,Ua,L6,a4k,abG,a5W,a0v]
set_option maxRecDepth 20000 in
theorem ads(h:JD t):(lY t=[]->aW X0 Qp (bQ (n+2)) (.fn 88 [] []) [.map 0] [.iE (kV.im t)] (.dI [.nil .slc,.bool (uI t)]) [.iE (kV.im t)]) ∧
  (lY t≠[]->aW X0 Qp (bQ (n+2)) (.fn 88 [] []) [.map 0] [.iE (kV.im t)] (.dI [.own 1,.bool (uI t)]) [.iE (kV.im t),.list false false 3 (lY t)]):=by
 have e0:(Tz Qp 88).body=.seq (eF a08) (.seq (.seq (eF (eF (eG a08))) (.block 0 (.loop lpB))) (eG (eG a08))):=by kernel_rfl
 have x0:dN X0 Qp T (bQ (n+1)) LL 88 false (BM Qp 88) 1 (eF a08) ⟨kZ X0 0 [.map 0],[],[.iE (kV.im t)]⟩ .norm ⟨[(0,.val (.map 0)),(2,.val (.nil .slc)),(3,xl false)],[],[.iE (kV.im t)]⟩:=zL hX fV (an:=.n) (by kernel_rfl) (.r rfl);have x1:dN X0 Qp T (bQ (n+1)) LL 88 false (BM Qp 88) 1 (eF (eF (eG a08))) ⟨[(0,.val (.map 0)),(2,.val (.nil .slc)),(3,xl false)],[],[.iE (kV.im t)]⟩ .norm ⟨[(2,.val (.nil .slc)),(3,xl false),(6,.val (.iter 1))],[],[.iE (kV.im t),.cZ 0 (kV.im t).length []]⟩:=zL hX fV (an:=.n) (by kernel_rfl) (.r rfl);rw[kV.pJ t]at x1;have run:∀Q:Ex->aS aF->Prop,(∀l seen,gV l=lY t->aJ X0 Qp T (bQ (n+1)) (uO Qp T (bQ (n+1)) LL) LL 88 (BM Qp 88) 1 (eG (eG a08)) { sBl t l (uI t) seen with env:=jd (T.iy 88 2) ((8,.val (.bool false))::(7,.val (.dI [.bool false]))::(sBl t l (uI t) seen).env) } Q) ->
   aJ X0 Qp T (bQ (n+1)) (uO Qp T (bQ (n+1)) LL) LL 88 (BM Qp 88) 1 (Tz Qp 88).body ⟨kZ X0 0 [.map 0],[],[.iE (kV.im t)]⟩ Q:=fun Q hQ=>by
  rw[e0];refine aJ.AZ (by kernel_rfl) x0 (aJ.seq (R:=fun e s=>e=.norm∧∃l seen,gV l=lY t∧s={ sBl t l (uI t) seen with env:=jd (T.iy 88 2) ((8,.val (.bool false))::(7,.val (.dI [.bool false]))::(sBl t l (uI t) seen).env) }) (aJ.AZ (by kernel_rfl) x1 (aaT (n:=n) h)) (fun s hs=>?_) (fun i s h=>by cases h.1) (fun s h=>by cases h.1));obtain⟨_,l,seen,h1,rfl⟩:=hs;exact hQ l seen h1
 have hlen:∀l:List Int,gV l=lY t->l.length<=2^20:=fun l hl=>by
  have h1:(gV l).length=l.length:=by unfold gV;rw[aaf]
  have h2:(lY t).length<=t.length:=by
   unfold lY gV;rw[aaf,a4n];exact a98 ..
  have:=h.len;rw[hl]at h1;omega
 have apO:gV []=([]:List Int):=by simp[gV]
 constructor
 .intro hn;have:=DF (X:=X0) (P:=Qp) (T:=T) (L:=LL) (n:=n+1) (f:=88) (first:=[]) (cap:=[]) (xs:=[.map 0]) (H:=[.iE (kV.im t)]) (N:=[]) (v:=.dI [.nil .slc,.bool (uI t)]) (tv:=fun _=>.dI [.nil .slc,.bool (uI t)]) (tN:=[]) (t:=Tz Qp 88) hX (by kernel_rfl) (by kernel_rfl) (by kernel_rfl) rfl (fun A m h hr=>⟨m,by simpa using hr,Pv.bU.cons (.nil .slc) (.cons (.bool _) .nil) |> fun h=>.dI h.1 h.2,by simpa using Fr.refl,.refl⟩) (run _ fun l seen hl=>?_)
  .exact this
  .rw[hn]at hl;have qL:l=[]:=by
    have h1:(gV l).length=l.length:=by unfold gV;rw[aaf]
    rw[hl]at h1;exact a4g h1.symm
   subst qL;exact aJ.step (by kernel_rfl) (zL (e:=.ret) (ps1:=⟨[(2,.val (.nil .slc)),(3,xl (uI t))],[],[.iE (kV.im t),.cZ 0 t.length seen]⟩) hX fV (by kernel_rfl) (.fr [] (afS (n:=n)) (.r rfl))) ⟨.inr rfl,[.nil .slc,.bool (uI t)],by kernel_rfl,a3O⟩
 .intro hn;have:=DF (X:=X0) (P:=Qp) (T:=T) (L:=LL) (n:=n+1) (f:=88) (first:=[]) (cap:=[]) (xs:=[.map 0]) (H:=[.iE (kV.im t)]) (N:=[.list false false 3 (lY t)]) (v:=.dI [.own 1,.bool (uI t)]) (tv:=fun n=>.dI [.slc n 0 (lY t).length (lY t).length 1 false,.bool (uI t)]) (tN:=[.cells .last ((lY t).map fun n=>TV.int .i64 n)]) (t:=Tz Qp 88) hX (by kernel_rfl) (by kernel_rfl) (by kernel_rfl) rfl (fun A m h hr=>aaP hX (H:=[.iE (kV.im t)]) (ty:=3) (l:=lY t) hn (Ep _) KI (by decide) (fun _ _ _=>rfl) rfl hr) (run _ fun l seen hl=>?_)
  .exact this
  .cases l with
   |nil=>rw[apO]at hl;exact absurd hl.symm hn
   |cons x l=>
    have hs:=acK (n:=n) (k:=false) (ex:=false) (x::l) (hlen _ hl);rw[hl]at hs;exact aJ.step (by kernel_rfl) (zL (e:=.ret) (ps1:=⟨[(2,.val (.own 2)),(3,xl (uI t))],[],[.iE (kV.im t),.cZ 0 t.length seen,.list false false 3 (lY t)]⟩) hX fV (by kernel_rfl) (.fr [2] hs (.r rfl))) ⟨.inr rfl,[.own 2,.bool (uI t)],by kernel_rfl,a7R hX (i:=2) (ty:=3) (l:=lY t) rfl hn (Ep _) KI rfl⟩
end
open Go Tw Pv dh
abbrev vF:PV aF:=.fn 139 [] [.ptr 1 0 1]
abbrev a8b:Code:=(Tz Qp 138).body
abbrev afT:Code:=(Tz Qp 139).body
abbrev lpW:Code:=eF (eF (eG afT))
abbrev xW:Code:=eF (eG (eG lpW))
abbrev a8c:List (Nat×PE aF):=[(2,.val (.ptr 2 0 1)),(4,.val (.nil .slc)),(6,.val vF)]
abbrev PY(rd:Bool)(jH:Option Code):PB aF:=.loop rd 138 (BM Qp 138) a8c [7] (wZ Qp 138) (AB Qp 138) jH
abbrev H3(t:List (V×Int))(x:PV aF):List (PB aF):=[.iE (kV.im t),.aC [.map 0],.cells [x]]
theorem one_le(w:Int):[w].length<=ah:=by rw[a4f];unfold ah;omega
theorem apP{n:Nat}(t:List (V×Int))(w:Int):aW X0 Qp (bQ (n+1)) (.kP 4) [.int .i64 w] (H3 t (.nil .slc)++[.mark,PY true none]) (.bool true) (H3 t (.own 6)++[.mark,PY true none,.list true true 3 [w],.list true false 3 [w]]):=by
 have q1:dN X0 Qp T (bQ n) LL 138 true (BM Qp 138) 5 (wZ Qp 138) ⟨ug a8c [7] [.int .i64 w],[],H3 t (.nil .slc)++[.mark,PY true none]⟩ .norm ⟨[(2,.val (.ptr 2 0 1)),(5,xi w)],[],H3 t (.nil .slc)++[.mark,PY true none]⟩:=yt hX fV (by kernel_rfl) .xx;have q2:dN X0 Qp T (bQ n) LL 138 true (BM Qp 138) 5 (AB Qp 138) ⟨[(2,.val (.ptr 2 0 1)),(5,xi w)],[],H3 t (.nil .slc)++[.mark,PY false none]⟩ .norm ⟨[],[],H3 t (.own 6)++[.mark,PY false none,.list true true 3 [w],.list true false 3 [w]]⟩:=yt hX fV (by kernel_rfl) (.o (one_le w) .xx);exact Ht hX (l:=4) rfl rfl (by kernel_rfl) q1 rfl q2 rfl
theorem apQ{n:Nat}(t:List (V×Int))(l:List Int)(w:Int)(hl:l.length+[w].length<=ah):aW X0 Qp (bQ (n+1)) (.kP 4) [.int .i64 w] (H3 t (.own 5)++[.mark,PY true none,.list false false 3 l]) (.bool true) (H3 t (.own 7)++[.mark,PY true none,.gone,.list true true 3 [w],.list false false 3 (l++[w])]):=by
 have q1:dN X0 Qp T (bQ n) LL 138 true (BM Qp 138) 6 (wZ Qp 138) ⟨ug a8c [7] [.int .i64 w],[],H3 t (.own 5)++[.mark,PY true none,.list false false 3 l]⟩ .norm ⟨[(2,.val (.ptr 2 0 1)),(5,xi w)],[],H3 t (.own 5)++[.mark,PY true none,.list false false 3 l]⟩:=yt hX fV (by kernel_rfl) .xx;have q2:dN X0 Qp T (bQ n) LL 138 true (BM Qp 138) 6 (AB Qp 138) ⟨[(2,.val (.ptr 2 0 1)),(5,xi w)],[],H3 t (.own 5)++[.mark,PY false none,.list false false 3 l]⟩ .norm ⟨[],[],H3 t (.own 7)++[.mark,PY false none,.gone,.list true true 3 [w],.list false false 3 (l++[w])]⟩:=yt hX fV (by kernel_rfl) (.o hl .xx);exact Ht hX (l:=4) rfl rfl (by kernel_rfl) q1 rfl q2 rfl
def ED(t:List (V×Int))(js:List Nat):List Int:=js.reverse.map fun j=>(PX t j).2
theorem a3P(t:List (V×Int))(j:Nat)(js:List Nat):ED t (j::js)=ED t js++[(PX t j).2]:=by simp[ED]
abbrev sWl(t:List (V×Int))(l:List Int)(js:List Nat):aS aF:=match l with
 | []=>⟨[(0,.val (.kP 4)),(6,.val (.iter 5))],[],H3 t (.nil .slc)++[.mark,PY true none,.cZ 0 t.length js]⟩
 |x::l=>⟨[(0,.val (.kP 4)),(6,.val (.iter 5))],[],H3 t (.own 6)++[.mark,PY true none,.cZ 0 t.length js,.list false false 3 (x::l)]⟩
section
variable {n:Nat} {t:List (V×Int)}
set_option maxRecDepth 20000 in
theorem aaU(h:JD t):aJ X0 Qp T (bQ (n+1)) CG LL 139 (BM Qp 139) 5 (.block 0 (.loop lpW)) (sWl t [] [])
  fun e s=>e=.norm∧∃l seen,l.Perm (t.map (·.2))∧s={ sWl t l seen with env:=jd (T.iy 139 1) ((8,.val (.bool false))::(7,.val (.dI [.bool false]))::(sWl t l seen).env) }:=by
 have e1:lpW=.seq (.region 1 (a7S (eF lpW)) false) (.seq (.cond (.tmp 8) .skip (.exit 0)) (.block 1 xW)):=by kernel_rfl
 have hlen:=h.len;rw[e1];refine PS hX (n:=t.length) (b:=5) (r:=0) (it:=6) (nx:=7) (mo:=8) (es:=kV.im t) (fun seen s=>seen.Nodup∧(∀j∈seen,j<t.length)∧∃gs,lC 5 gs (gQ X0 (T.eH 139 (dV lpW)) s)=some (sWl t (ED t seen) seen)) (by kernel_rfl) (a7C (by kernel_rfl)) (a7C (by kernel_rfl)) (kV.pJ t) (by unfold LL;omega)
  ⟨a5Y,(fun j hj=>(by cases hj)),[],(by kernel_rfl)⟩ (fun seen s hi=>?_)
 obtain⟨jA,aQ,gs,h3⟩:=hi;rw[<-e1];refine⟨gs,_,h3,?_,?_,?_,fun ho=>?_,fun j e hj he=>?_⟩
 .cases ED t seen<;>kernel_rfl
 .cases ED t seen<;>kernel_rfl
 .cases ED t seen<;>kernel_rfl
 .refine⟨?_,ED t seen,seen,?_,rfl⟩
  .cases ED t seen<;>kernel_rfl
  .have hp:(seen.reverse).Perm (List.range t.length):=(List.reverse_perm seen).trans ((a7n jA adM).2 fun j=>⟨fun h=>a4s.2 (aQ j h),fun h=>ho j (a4s.1 h)⟩);unfold ED
   conv=>rhs;rw[afP t]
   rw[a7X];exact hp.map _
 .rw[kV.AX,a0e]at he;obtain⟨⟨v,w⟩,rV,rfl⟩:=he;obtain⟨q1,q2,q3⟩:=Vj rV;have G6:(j::seen).Nodup:=a4r.2 ⟨hj,jA⟩;have G7:∀k∈j::seen,k<t.length:=fun k hk=>by
   rcases a2y.1 hk with rfl|hk
   .exact q2
   .exact aQ k hk
  have hll:(ED t seen).length<=2000:=by
   have h2:seen.length<=t.length:=by
    have:=(JB jA aQ).length_eq;have h3:=a98 (fun j=>seen.contains j) (List.range t.length);rw[a8I]at h3;omega
   have h1:(ED t seen).length=seen.length:=(by simp[ED]);omega
  have DT:=a3P t j seen;rw[q1]at DT;have DT:ED t (j::seen)=ED t seen++[w]:=DT;generalize ED t seen=l at DT hll;cases l with
  |nil=>
   refine⟨by kernel_rfl,aJ.step (e:=.norm) (by kernel_rfl) (zL (ps1:=⟨[(0,.val (.kP 4)),(6,.val (.iter 5)),(14,xl false)],[],H3 t (.own 7)++[.mark,PY true none,.cZ 0 t.length (j::seen),.list true true 3 [w],.list true false 3 [w]]⟩) hX fV (by kernel_rfl) (.c (.dI [.agg v.ps,.int .i64 w]) [] (Ba rV) (.fr [0,1,2,3,4] (apP (n:=n) t w) (.b (rfl:(!true)=false) (.r rfl))))) ⟨.inl rfl,G6,G7,[.flag 7,.gc [5,7]],?_⟩⟩;rw[DT]
   kernel_rfl
  |cons x l=>
   have a1:(x::l).length+[w].length<=ah:=by rw[a4f];unfold ah;omega
   refine⟨by kernel_rfl,aJ.step (e:=.norm) (by kernel_rfl) (zL (ps1:=⟨[(0,.val (.kP 4)),(6,.val (.iter 5)),(14,xl false)],[],H3 t (.own 8)++[.mark,PY true none,.cZ 0 t.length (j::seen),.gone,.list true true 3 [w],.list false false 3 (x::l++[w])]⟩) hX fV (by kernel_rfl) (.c (.dI [.agg v.ps,.int .i64 w]) [] (Ba rV) (.fr [0,1,2,3,4,6] (apQ (n:=n) t (x::l) w a1) (.b (rfl:(!true)=false) (.r rfl))))) ⟨.inl rfl,G6,G7,[.gc [5,8]],?_⟩⟩;rw[DT]
   kernel_rfl
end
open Go Tw Pv dh
def rQ(t:List (V×Int)):List Int:=zf (fun n=>[n]) (t.map fun e:V×Int=>e.2)
abbrev QB(n:Int):TV:=.int .i64 n
abbrev Lm(n:Int):PV aF:=.int .i64 n
theorem a3Q{t:List (V×Int)}{l:List Int}(h:l.Perm (t.map fun e:V×Int=>e.2)):Ru (l.map QB)=(rQ t).map QB:=by
 unfold Ru;rw[Tj (g:=QB) (key:=fun n=>[n]) (a7G:=Ro) (fun _=>rfl),EZ h fun a _ b _ e=>by simpa using e];rfl
theorem JE:∀l:List Int,Ud (l.map Lm)=some (l.map QB)
 | []=>rfl
 |a::l=>by
  have:=JE l;show(match qg (Lm a),Ud (l.map Lm)with
   |some a,some b=>some (a::b)
   |_,_=>none)=_
  rw[this];rfl
section
variable {n:Nat} {t:List (V×Int)}
set_option maxRecDepth 20000 in
theorem akD(h:JD t)(ht:t≠[]):aaM X0 Qp (uO Qp T (bQ (n+1)) LL) vF [.kP 4] (H3 t (.nil .slc)++[.mark,PY true none]) fun v H1=>∃(l:List Int) (seen:List Nat),l.Perm (t.map fun e:V×Int=>e.2)∧H1=H3 t (.own 6)++[.mark,PY true none,.cZ 0 t.length seen,.list false false 3 l]:=by
 refine a1U (t:=Tz Qp 139) hX (by kernel_rfl) ?_;have e0:(Tz Qp 139).body=.seq (eF afT) (.block 0 (.loop lpW)):=by kernel_rfl
 rw[e0];have x0:dN X0 Qp T (bQ (n+1)) LL 139 false (BM Qp 139) 5 (eF afT) ⟨kZ X0 0 [.kP 4,.ptr 1 0 1],[],H3 t (.nil .slc)++[.mark,PY true none]⟩ .norm ⟨[(0,.val (.kP 4)),(6,.val (.iter 5))],[],H3 t (.nil .slc)++[.mark,PY true none,.cZ 0 (kV.im t).length []]⟩:=zL hX fV (an:=.n) (by kernel_rfl) (.r rfl);rw[kV.pJ t]at x0;refine aJ.AZ (by kernel_rfl) x0 ((aaU (n:=n) h).mono fun e s h1=>?_);obtain⟨rfl,l,seen,h2,rfl⟩:=h1;cases l with
 |nil=>
  have:=h2.length_eq;rw[a4n]at this;exact absurd (a4g this.symm) ht
 |cons x l=>exact⟨.inl rfl,[],by kernel_rfl,x::l,seen,h2,rfl⟩
set_option maxRecDepth 20000 in
theorem aaV(h:JD t)(ht:t≠[]):aW X0 Qp (bQ (n+2)) (.fn 138 [] []) [.nil .slc,vF] [.iE (kV.im t),.aC [.map 0]] (.slc 2 0 t.length t.length 1 false) [.iE (kV.im t),.aC [.map 0],.ng ((rQ t).map Lm)]:=by
 have e0:(Tz Qp 138).body=.seq (eF a8b) (.seq (.seq (eF (eF (eG a8b))) (.block 0 (.rangeFunc (.tmp 6) #[7] (wZ Qp 138) (AB Qp 138)))) (eG (eG a8b))):=by kernel_rfl
 have x0:dN X0 Qp T (bQ (n+1)) LL 138 false (BM Qp 138) 2 (eF a8b) ⟨kZ X0 0 [.nil .slc,vF],[],[.iE (kV.im t),.aC [.map 0]]⟩ .norm ⟨[(1,.val vF),(2,.val (.ptr 2 0 1)),(4,.val (.nil .slc))],[],H3 t (.nil .slc)⟩:=zL hX fV (an:=.n) (by kernel_rfl) (.r rfl);have x1:dN X0 Qp T (bQ (n+1)) LL 138 false (BM Qp 138) 2 (eF (eF (eG a8b))) ⟨[(1,.val vF),(2,.val (.ptr 2 0 1)),(4,.val (.nil .slc))],[],H3 t (.nil .slc)⟩ .norm ⟨a8c,[],H3 t (.nil .slc)⟩:=zL hX fV (an:=.n) (by kernel_rfl) (.r rfl);have:=DF (X:=X0) (P:=Qp) (T:=T) (L:=LL) (n:=n+1) (f:=138) (first:=[]) (cap:=[]) (xs:=[.nil .slc,vF]) (H:=[.iE (kV.im t),.aC [.map 0]]) (N:=[.ng ((rQ t).map Lm)]) (v:=.slc 2 0 t.length t.length 1 false) (tv:=fun k=>.slc k 0 t.length t.length 1 false) (tN:=[.ng ((rQ t).map QB)]) (t:=Tz Qp 138) hX (by kernel_rfl) (by kernel_rfl) (by kernel_rfl) rfl (fun A m h hr=>aaO (H:=[.iE (kV.im t),.aC [.map 0]]) (n:=t.length) (sz:=1) (JE _) hr) ?_
 .exact this
 rw[e0];refine aJ.AZ (by kernel_rfl) x0 (aJ.seq (R:=fun e s=>e=.norm∧∃(l:List Int) (seen:List Nat),l.Perm (t.map fun e:V×Int=>e.2)∧s=⟨a8c,[],H3 t (.own 6)++[.mark,PY false (some .skip),.cZ 0 t.length seen,.list false false 3 l]⟩) (aJ.AZ (by kernel_rfl) x1 (aJ.block ?_)) (fun s hs=>?_) (fun i s h=>by cases h.1) (fun s h=>by cases h.1))
 .refine aJ.range (f1:=139) (a1:=[]) (b1:=[.ptr 1 0 1]) (K:=fun v H1=>∃(l:List Int) (seen:List Nat),l.Perm (t.map fun e:V×Int=>e.2)∧H1=H3 t (.own 6)++[.mark,PY true none,.cZ 0 t.length seen,.list false false 3 l]) hX rfl (by kernel_rfl) (by kernel_rfl) (akD (n:=n) h ht) (fun v H1 hk=>?_);obtain⟨l,seen,h1,rfl⟩:=hk;exact⟨true,_,_,_,_,_,_,none,.norm,rfl,rfl,rfl,l,seen,h1,rfl⟩
 obtain⟨_,l,seen,h1,rfl⟩:=hs;have hl:l≠[]:=fun e=>by
  subst e;have:=h1.length_eq;rw[a4n]at this;exact absurd (a4g this.symm) ht
 have hlen:t.length=l.length:=by rw[h1.length_eq,a4n]
 refine aJ.step (by kernel_rfl) (zL (e:=.ret) (ps1:=⟨[(4,.val (.own 6))],[],H3 t (.own 6)++[.mark,PY false (some .skip),.cZ 0 t.length seen,.list false false 3 l]⟩) hX fV (an:=.n) (by kernel_rfl) (.r rfl)) ⟨.inr rfl,[.own 6],by kernel_rfl,?_⟩;rw[<-a3Q h1,hlen];exact a7Q hX (i:=6) (ty:=3) (l:=l) rfl hl (Ep _) KI
end
def PZ:List Int->Int
 | []=>0
 |x::l=>l.foldl max x
theorem Yb:∀(l:List Int) (x:Int),(l.foldl max x=x∨l.foldl max x∈l)∧x<=l.foldl max x∧∀y∈l,y<=l.foldl max x
 | [],x=>⟨.inl rfl,a9s _,fun y hy=>by cases hy⟩
 |a::l,x=>by
  obtain⟨h1,h2,h3⟩:=Yb l (max x a);rw[adr];have hm:max x a=x∨max x a=a:=by omega
  refine⟨?_,by omega,fun y hy=>?_⟩
  .rcases h1 with h1|h1
   .rcases hm with e|e
    .exact .inl (h1.trans e)
    rw[h1,e];exact .inr (by simp)
   exact .inr (by simp[h1])
  rcases a2y.1 hy with rfl|hy
  .omega
  exact h3 y hy
theorem Yc{l:List Int}(h:l≠[]):PZ l∈l∧∀y∈l,y<=PZ l:=by
 cases l with
 |nil=>exact absurd rfl h
 |cons x l=>
  obtain⟨h1,h2,h3⟩:=Yb l x;refine⟨?_,fun y hy=>?_⟩
  .rcases h1 with h1|h1
   .show l.foldl max x∈_;rw[h1];simp
   exact a3n _ h1
  rcases a2y.1 hy with rfl|hy
  .exact h2
  exact h3 y hy
theorem a3R{l l':List Int}(h:l.Perm l')(hl:l≠[]):PZ l=PZ l':=by
 have hl':l'≠[]:=fun e=>by subst e;exact hl h.eq_nil
 obtain⟨a1,a2⟩:=Yc hl;obtain⟨b1,b2⟩:=Yc hl';have:=a2 _ (h.mem_iff.2 b1);have:=b2 _ (h.mem_iff.1 a1);omega
open Go Tw Pv dh
abbrev ApM(n:Nat):aY:=kY Qp Tm (2^24) n
theorem okM{n:Nat}:jE X0 Qp (ApM n) a9S:=fun _ _ _ _ _ h _=>by cases h
def gMx(l:List Int)(k:Nat)(m:Int):Int:=if l.getD (i64.wrap ((k:Int)+1)).toNat 0>m then l.getD (i64.wrap ((k:Int)+1)).toNat 0 else m
theorem a1Z{x:Int}{r:List Int}(h:r.length<=ah):∀k,k<=r.length->aT (gMx (x::r)) k 0 x=(r.take k).foldl max x
 | 0,_=>rfl
 |k+1,hk=>by
  rw[tJ,a1Z h k (by omega)];unfold gMx;rw[a4e,yj (by omega),a4L];have e:(x::r).getD (k+1) 0=r[k]'(by omega):=by simp[List.getD,a0f (show k<r.length by omega)]
  rw[e,a8p (by omega),List.foldl_append];simp only[adr,List.foldl_nil];omega
abbrev wMx(l:List Int)(m i:Int)(x:List (Nat×PE aF)):aS aF:=⟨[(0,xL 3 l),(3,xi m),(4,xi (i64.wrap (i+1)))]++x,[],[]⟩
set_option maxRecDepth 20000 in
theorem akF{l:List Int}(h0:l≠[])(hl:l.length<=2000):aW X0 Qp (ApM 2) (.fn 94 [] []) [.dB 3 l false] [] (.int .i64 (PZ l)) []:=by
 cases l with
 |nil=>exact absurd rfl h0
 |cons x r=>
  have hr:r.length<=ah:=by have:(x::r).length=r.length+1:=rfl;unfold ah;omega
  have lp:dN X0 Qp Tm (ApM 1) LL 94 false (BM Qp 94) 0 (.loop (RZ Qp 94 0)) ⟨[(0,xL 3 (x::r)),(3,xi x),(4,xi 1)],[],[]⟩ (.exit 0) (wMx (x::r) (aT (gMx (x::r)) r.length 0 x) r.length [(15,xl false)]):=by
   refine KD (X:=X0) (N:=r.length) (g:=gMx (x::r)) (s0:=x) (st:=fun i m=>wMx (x::r) m i []) (fin:=fun m=>wMx (x::r) m r.length [(15,xl false)]) (fun _ _=>True) (by kernel_rfl) hr Qu trivial (fun _ _ _ _=>trivial) (fun k m hk _ n e p g9=>?_) (fun m _=>?_)
   .have e1:i64.wrap ((k:Int)+1)=((k+1:Nat):Int):=yj (by omega);have t1:decide (i64.wrap ((k:Int)+1)<((x::r).length:Int))=true:=by rw[e1,a1Q,a4i];omega
    have i1:gq (i64.wrap ((k:Int)+1)) (x::r).length:=by rw[e1];exact aH (by rw[a4i];omega)
    exact round hX okM (by kernel_rfl) (.b t1 (.o i1 (.go g9)))
   have e1:i64.wrap ((r.length:Int)+1)=((r.length+1:Nat):Int):=yj (by omega);have t1:decide (i64.wrap ((r.length:Int)+1)<((x::r).length:Int))=false:=by rw[e1,a3g,a4i];omega
   exact round hX okM (by kernel_rfl) (.b t1 .ex)
  have e:aT (gMx (x::r)) r.length 0 x=PZ (x::r):=by
   rw[a1Z hr _ (a1b _),adb];rfl
  rw[e]at lp;have hc:((x::r).length:Int)=r.length+1:=by simp
  have t0:decide (((x::r).length:Int)<1)=false:=by rw[a3g,hc];omega
  have i0:gq 0 (x::r).length:=⟨by decide,by rw[hc];omega⟩;exact rG hX okM (first:=[]) (cap:=[]) (by kernel_rfl) (.b t0 (.o i0 (.w lp .er)))
theorem aaW(n:Nat)(x:TV)(h:List HB):kY Qp T LL (n+1) (.fn 94 [] []) [x] h=a3d 94 (ApM 2) (.fn 94 [] []) [x] h:=rfl
theorem akG{n:Nat}{vs:List Int}(h0:vs≠[])(hl:vs.length<=2000):aW X0 Qp (bQ (n+1)) (.fn 94 [] []) [.slc 0 0 vs.length vs.length 1 false] [.ng (vs.map Lm)] (.int .i64 (PZ vs)) [.ng (vs.map Lm)]:=by
 intro A m h tf rW hr hf hx;obtain⟨x,r,rfl,h1,h2⟩:=hx.inv;have:=h2.inv0;subst this;have htf:=hf.UD;subst htf;obtain⟨mb,g1,g2⟩:=hr.at_ 0 _ rfl;cases mb with
 |fU c=>
  obtain⟨ts,g3,g4⟩:=g2;have g5:=g4.symm.trans (JE vs);cases g5;have hx2:x=.slc c 0 vs.length vs.length 1 false:=by
   cases h1 with
   |slc e=>rw[g1]at e;cases e;rfl
   |gone hi e _=>simp only[bf,a05]at hi;subst hi;rw[g1]at e;cases e
  subst hx2;have FQ:c∈bn m:=aZ g1 rfl;have aQ:=(a0c.1 g3).1;show ∃w h1 ws m1,kY Qp T LL (n+1) _ _ h=_∧_;rw[aaW,a9Y (k:=.i64) (n:=PZ vs)]
  .exact⟨_,h,[],m,rfl,hr,.int _ _,.refl,.refl,fun b hb=>by cases hb⟩
  .refine⟨⟨_,_,rfl⟩,rfl,fun h' hu=>?_⟩;obtain⟨cs',p1,p2⟩:=hu.2 c _ g3;obtain⟨l,hp,rfl⟩:∃l:List Int,l.Perm vs∧cs'=l.map QB:=by
    have hq:∀y∈cs',∃i:Int,y=QB i:=fun y hy=>by
     obtain⟨i,_,rfl⟩:=a1l.1 (p1.mem_iff.1 hy);exact⟨i,rfl⟩
    have hun:∀L:List TV,(∀y∈L,∃i:Int,y=QB i)->∃l:List Int,L=l.map QB:=by
     intro L
     induction L with
     |nil=>exact fun _=>⟨[],rfl⟩
     |cons y L ih=>
      intro hL;obtain⟨i,rfl⟩:=hL y (by simp);obtain⟨l,rfl⟩:=ih fun z hz=>hL z (by simp[hz]);exact⟨i::l,rfl⟩
    obtain⟨l,rfl⟩:=hun cs' hq;refine⟨l,?_,rfl⟩;have:=p1.map fun y=>match y with|.int _ n=>n|_=>0
    rw[a7X,a7X]at this;simpa[Function.comp_def]using this
   have hlen:l.length=vs.length:=hp.length_eq;have qL:l≠[]:=fun e=>by subst e;exact h0 (a4g hlen.symm)
   have akH:h'.length=h.length:=by
    have e:=fun b=>Sv hu b;refine Nat.le_antisymm (ad3 fun hb=>?_) (ad3 fun hb=>?_)
    .have:=e h.length;rw[a0f hb,a4h (a1b _)]at this;cases this
    have:=e h'.length;rw[a0f hb,a4h (a1b _)]at this;cases this
   have hm:=akF qL (by omega);have hvr:Pv.VR X0 Qp (AA A []) [] h' (.dB 3 l false) (.slc c 0 vs.length vs.length 1 false):=by
    rw[<-hlen];refine Pv.VR.dB (cs:=l.map QB) ⟨hr.CW c FQ,by simp[bn]⟩ (by simp only[aV,p2]) (fun _=>by simp[mD,p2]) KI (by decide) (by simp;exact a1b _) (a1b _) (by intro h;cases h) ?_ ?_
    .intro j a _;rfl
    have hrw:=SG (A:=AA A []) (m:=[]) (h:=h') l;intro j a i c v a1 a2 a3;exact hrw.2.2 j a i c v a1 a2 a3
   obtain⟨w,h2,ws,m1,c1,c2,c3,c4,c5,c6⟩:=hm A [] h' (.fn 94 [] []) [.slc c 0 vs.length vs.length 1 false] ⟨rfl,fun i b hi=>by simp at hi,by simp[bn],fun b hb=>hr.up b (by rw[<-akH];exact hb),fun b hb=>by simp[bn]at hb⟩ (.fn rfl (fun i x y hi=>by simp at hi) rfl (fun i x y hi=>by simp at hi)) (.cons hvr .nil)
   .have hw:w=.int .i64 (PZ vs):=by
     rw[<-a3R hp qL];exact c3.a1k
    subst hw;have YA:ws=[]:=a7h.2 fun b hb=>by have:=c6 b hb;simp[bn]at this
    subst YA;exact⟨h2,c1⟩
  obtain⟨h',hu⟩:∃h',OQ h h':=⟨_,Xh h (fun b=>match h[b]? with|some (.ng cs)=>cs|_=>[]) fun b cs e=>by rw[e]⟩;exact⟨h',hu⟩
 |_=>exact g2.elim
open Go Tw Pv dh
theorem akI{n:Nat}(hO:Ok n qI){k:Int}(hk:0<=k∧k<=6):aW X0 Qp (bQ (n+1)) (.fn 124 [] []) [.own 0,.int .i64 k] [.list true true 3 ([-1]:List Int)] (.own 1) [.list true true 3 ([-1]:List Int),.list true true 3 (List.replicate k.toNat (-1):List Int)]:=by
 rcases a7w hk with rfl|rfl|rfl|rfl|rfl|rfl|rfl
 .exact fO hO (first:=[]) (cap:=[]) (.b (rfl:decide ((0:Int)<0)=false) (.o (rfl:(1:Int)=1) (.o (⟨by decide,by decide⟩:(0:Int)<=0∧(0:Int)<=6) (.b (rfl:decide ((0:Int)>0)=false) (.b (rfl:decide ((0:Int)>9223372036854775807)=false) (.o (rfl:(0:Int)=0) (.o (show(0:Int)<=0 by decide) (.o (show(0:Int)<=(ah:Int) by decide) (.m 8 le8 (.b (rfl:decide ((0:Int)<0)=false) .er))))))))))
 .exact fO hO (first:=[]) (cap:=[]) (.b (rfl:decide ((1:Int)<0)=false) (.o (rfl:(1:Int)=1) (.o (⟨by decide,by decide⟩:(0:Int)<=1∧(1:Int)<=6) (.b (rfl:decide ((0:Int)>0)=false) (.b (rfl:decide ((1:Int)>9223372036854775807)=false) (.o (rfl:(1:Int)=1) (.o (show(0:Int)<=1 by decide) (.o (show(1:Int)<=(ah:Int) by decide) (.m 8 le8 (.b (rfl:decide ((1:Int)<1)=false) .er))))))))))
 .exact fO hO (first:=[]) (cap:=[]) (.b (rfl:decide ((2:Int)<0)=false) (.o (rfl:(1:Int)=1) (.o (⟨by decide,by decide⟩:(0:Int)<=2∧(2:Int)<=6) (.b (rfl:decide ((0:Int)>0)=false) (.b (rfl:decide ((2:Int)>9223372036854775807)=false) (.o (rfl:(2:Int)=2) (.o (show(0:Int)<=2 by decide) (.o (show(2:Int)<=(ah:Int) by decide) (.m 8 le8 (.b (rfl:decide ((1:Int)<2)=true) (.o (show(0:Int)<=1 by decide) (.o (show(1:Int)<=2 by decide) (.o (show(2:Int)<=2 by decide) (.o (show(0:Int)<=0 by decide) (.o (show(0:Int)<=1 by decide) (.o (show(1:Int)<=2 by decide) (.b (rfl:decide ((2:Int)<2)=false) .er)))))))))))))))))
 .exact fO hO (first:=[]) (cap:=[]) (.b (rfl:decide ((3:Int)<0)=false) (.o (rfl:(1:Int)=1) (.o (⟨by decide,by decide⟩:(0:Int)<=3∧(3:Int)<=6) (.b (rfl:decide ((0:Int)>0)=false) (.b (rfl:decide ((3:Int)>9223372036854775807)=false) (.o (rfl:(3:Int)=3) (.o (show(0:Int)<=3 by decide) (.o (show(3:Int)<=(ah:Int) by decide) (.m 8 le8 (.b (rfl:decide ((1:Int)<3)=true) (.o (show(0:Int)<=1 by decide) (.o (show(1:Int)<=3 by decide) (.o (show(3:Int)<=3 by decide) (.o (show(0:Int)<=0 by decide) (.o (show(0:Int)<=1 by decide) (.o (show(1:Int)<=3 by decide) (.b (rfl:decide ((2:Int)<3)=true) (.o (show(0:Int)<=2 by decide) (.o (show(2:Int)<=3 by decide) (.o (show(3:Int)<=3 by decide) (.o (show(0:Int)<=0 by decide) (.o (show(0:Int)<=2 by decide) (.o (show(2:Int)<=3 by decide) (.b (rfl:decide ((3:Int)<3)=false) .er))))))))))))))))))))))))
 .exact fO hO (first:=[]) (cap:=[]) (.b (rfl:decide ((4:Int)<0)=false) (.o (rfl:(1:Int)=1) (.o (⟨by decide,by decide⟩:(0:Int)<=4∧(4:Int)<=6) (.b (rfl:decide ((0:Int)>0)=false) (.b (rfl:decide ((4:Int)>9223372036854775807)=false) (.o (rfl:(4:Int)=4) (.o (show(0:Int)<=4 by decide) (.o (show(4:Int)<=(ah:Int) by decide) (.m 8 le8 (.b (rfl:decide ((1:Int)<4)=true) (.o (show(0:Int)<=1 by decide) (.o (show(1:Int)<=4 by decide) (.o (show(4:Int)<=4 by decide) (.o (show(0:Int)<=0 by decide) (.o (show(0:Int)<=1 by decide) (.o (show(1:Int)<=4 by decide) (.b (rfl:decide ((2:Int)<4)=true) (.o (show(0:Int)<=2 by decide) (.o (show(2:Int)<=4 by decide) (.o (show(4:Int)<=4 by decide) (.o (show(0:Int)<=0 by decide) (.o (show(0:Int)<=2 by decide) (.o (show(2:Int)<=4 by decide) (.b (rfl:decide ((4:Int)<4)=false) .er))))))))))))))))))))))))
 .exact fO hO (first:=[]) (cap:=[]) (.b (rfl:decide ((5:Int)<0)=false) (.o (rfl:(1:Int)=1) (.o (⟨by decide,by decide⟩:(0:Int)<=5∧(5:Int)<=6) (.b (rfl:decide ((0:Int)>0)=false) (.b (rfl:decide ((5:Int)>9223372036854775807)=false) (.o (rfl:(5:Int)=5) (.o (show(0:Int)<=5 by decide) (.o (show(5:Int)<=(ah:Int) by decide) (.m 8 le8 (.b (rfl:decide ((1:Int)<5)=true) (.o (show(0:Int)<=1 by decide) (.o (show(1:Int)<=5 by decide) (.o (show(5:Int)<=5 by decide) (.o (show(0:Int)<=0 by decide) (.o (show(0:Int)<=1 by decide) (.o (show(1:Int)<=5 by decide) (.b (rfl:decide ((2:Int)<5)=true) (.o (show(0:Int)<=2 by decide) (.o (show(2:Int)<=5 by decide) (.o (show(5:Int)<=5 by decide) (.o (show(0:Int)<=0 by decide) (.o (show(0:Int)<=2 by decide) (.o (show(2:Int)<=5 by decide) (.b (rfl:decide ((4:Int)<5)=true) (.o (show(0:Int)<=4 by decide) (.o (show(4:Int)<=5 by decide) (.o (show(5:Int)<=5 by decide) (.o (show(0:Int)<=0 by decide) (.o (show(0:Int)<=4 by decide) (.o (show(4:Int)<=5 by decide) (.b (rfl:decide ((5:Int)<5)=false) .er)))))))))))))))))))))))))))))))
 exact fO hO (first:=[]) (cap:=[]) (.b (rfl:decide ((6:Int)<0)=false) (.o (rfl:(1:Int)=1) (.o (⟨by decide,by decide⟩:(0:Int)<=6∧(6:Int)<=6) (.b (rfl:decide ((0:Int)>0)=false) (.b (rfl:decide ((6:Int)>9223372036854775807)=false) (.o (rfl:(6:Int)=6) (.o (show(0:Int)<=6 by decide) (.o (show(6:Int)<=(ah:Int) by decide) (.m 8 le8 (.b (rfl:decide ((1:Int)<6)=true) (.o (show(0:Int)<=1 by decide) (.o (show(1:Int)<=6 by decide) (.o (show(6:Int)<=6 by decide) (.o (show(0:Int)<=0 by decide) (.o (show(0:Int)<=1 by decide) (.o (show(1:Int)<=6 by decide) (.b (rfl:decide ((2:Int)<6)=true) (.o (show(0:Int)<=2 by decide) (.o (show(2:Int)<=6 by decide) (.o (show(6:Int)<=6 by decide) (.o (show(0:Int)<=0 by decide) (.o (show(0:Int)<=2 by decide) (.o (show(2:Int)<=6 by decide) (.b (rfl:decide ((4:Int)<6)=true) (.o (show(0:Int)<=4 by decide) (.o (show(4:Int)<=6 by decide) (.o (show(6:Int)<=6 by decide) (.o (show(0:Int)<=0 by decide) (.o (show(0:Int)<=4 by decide) (.o (show(4:Int)<=6 by decide) (.b (rfl:decide ((6:Int)<6)=false) .er)))))))))))))))))))))))))))))))
def dU(D:List Dg):Jb:=⟨(D.getD 0 jX).aA,(D.getD 0 jX).aG,D,List.replicate (D.getD 0 jX).aA.length (-1)⟩
theorem akJ{n f:Nat}(hO:Ok (n+1) qI)(Aw:Ok n qI){D:List Dg}(h0:0<D.length)(h6:(D.getD 0 jX).aA.length<=6){k ex:Bool}:aW X0 Qp (bQ (n+2)) (.fn 78 [] []) [.fn f [] [],.own 0] [.list k ex 26 D] (.agg [lI (dU D).s,lI (dU D).o,.own 0,.own 1,.fn f [] []]) [.list k ex 26 D,.list true true 3 (dU D).g]:=by
 have i0:gq 0 D.length:=aH h0;have hs:=akI Aw (k:=((D.getD 0 jX).aA.length:Int)) ⟨by omega,by omega⟩;rw[a4L]at hs;have h:aW X0 Qp (bQ (n+2)) (.fn 78 [] []) [.fn f [] [],.own 0] [.list k ex 26 D] (.agg [lI (dU D).s,lI (dU D).o,.own 0,.own 2,.fn f [] []]) [.list k ex 26 D,.list true true 3 ([-1]:List Int),.list true true 3 (dU D).g]:=fO hO (first:=[]) (cap:=[]) (.o i0 (.o i0 (.o i0 (.fr [1] hs .er))));exact aW.gs hX h [.gc [2]] rfl
theorem akK{n f:Nat}(u:Int)(hO:Ok (n+1) qI)(Aw:Ok n qI){D:List Dg}(h0:0<D.length)(h6:(D.getD 0 jX).aA.length<=6){k ex:Bool}:aW X0 Qp (bQ (n+2)) (.fn 78 [] []) [.fn f [] [.ptr 1 0 1],.own 0] [.list k ex 26 D,.aC [.int .u8 u]] (.agg [lI (dU D).s,lI (dU D).o,.own 0,.own 2,.fn f [] [.ptr 1 0 1]]) [.list k ex 26 D,.aC [.int .u8 u],.list true true 3 (dU D).g]:=by
 have i0:gq 0 D.length:=aH h0;have hs:=akI Aw (k:=((D.getD 0 jX).aA.length:Int)) ⟨by omega,by omega⟩;rw[a4L]at hs;have h:aW X0 Qp (bQ (n+2)) (.fn 78 [] []) [.fn f [] [.ptr 1 0 1],.own 0] [.list k ex 26 D,.aC [.int .u8 u]] (.agg [lI (dU D).s,lI (dU D).o,.own 0,.own 3,.fn f [] [.ptr 1 0 1]]) [.list k ex 26 D,.aC [.int .u8 u],.list true true 3 ([-1]:List Int),.list true true 3 (dU D).g]:=fO hO (first:=[]) (cap:=[]) (.o i0 (.o i0 (.o i0 (.fr [2] hs .er))));exact aW.gs hX h [.gc [3]] rfl
theorem apT{n f:Nat}{J:Jb}{d:Dg}{k ex k2 Lr:Bool}(h:aW X0 Qp (bQ n) (.fn 80 [] []) [.agg (J.ps (.fn f [] []))] [] (dA.put d) []):aW X0 Qp (bQ n) (.fn 80 [] []) [.agg [lI J.s,lI J.o,.own 0,.own 1,.fn f [] []]] [.list k ex 26 J.D,.list k2 Lr 3 J.g] (dA.put d) [.gone,.gone]:=by
 have h1:=aW.frame hX (ks:=[]) (H':=[.gone,.gone]) (Hp:=[]) (Q9:=[]) (v':=dA.put d) (fv':=.fn 80 [] []) (xs':=[.agg (J.ps (.fn f [] []))]) h (by decide) rfl rfl rfl rfl rfl rfl rfl;exact aW.fz hX (H:=[.list k ex 26 J.D,.list k2 Lr 3 J.g]) (cs:=[lI J.s,lI J.o,.own 0,.own 1]) (rest:=[.fn f [] []]) [0,1] h1 rfl (fun i hi=>by simpa[kU.kD,kU]using hi)
theorem apU{n f:Nat}{u:Int}{J:Jb}{d:Dg}{k ex k2 Lr:Bool}(h:aW X0 Qp (bQ n) (.fn 80 [] []) [.agg (J.ps (.fn f [] [.ptr 0 0 1]))] [.aC [.int .u8 u]] (dA.put d) [.aC [.int .u8 u]]):aW X0 Qp (bQ n) (.fn 80 [] []) [.agg [lI J.s,lI J.o,.own 0,.own 2,.fn f [] [.ptr 1 0 1]]] [.list k ex 26 J.D,.aC [.int .u8 u],.list k2 Lr 3 J.g] (dA.put d) [.gone,.aC [.int .u8 u],.gone]:=by
 have h1:=aW.frame hX (ks:=[1]) (H':=[.gone,.aC [.int .u8 u],.gone]) (Hp:=[.aC [.int .u8 u]]) (Q9:=[.aC [.int .u8 u]]) (v':=dA.put d) (fv':=.fn 80 [] []) (xs':=[.agg (J.ps (.fn f [] [.ptr 1 0 1]))]) h (by decide) rfl rfl rfl rfl rfl rfl rfl;exact aW.fz hX (H:=[.list k ex 26 J.D,.aC [.int .u8 u],.list k2 Lr 3 J.g]) (cs:=[lI J.s,lI J.o,.own 0,.own 2]) (rest:=[.fn f [] [.ptr 1 0 1]]) [0,2] h1 rfl (fun i hi=>by simpa[kU.kD,kU]using hi)
open Go Tw Pv dh
structure DgG(d:Dg):Prop where
 t:BH d
 n:d.aj.length<=6000
 ord:jV d.aA.length d.aG=true
 rk:∀i,i<d.aj.length->∀k,k<(fA d i).ay.length->d.aG.idxOf (fA d i).var+1<=EC d.aG d.aj ((fA d i).ay.getD k 0)
 two:∀i,i<d.aj.length->2<=(fA d i).ay.length
 c:∀v∈d.aK,En v
 dd:DgD d
 l0:bD d=0
theorem a0a{d:Dg}(hp:oZ d)(h:lU d=0):DgG d:=by
 have h0:bD d=0∧pV d=true:=by
  unfold lU at h;split at h
  .rename_i c;rw[h]at c;cases c
  rename_i c;split at h
  .cases h
  rename_i c2;exact⟨by simpa using c,by simpa using c2⟩
 have ho:d.aG.length<=ah:=by have:=hp.o;unfold ah;omega
 have he:d.aK.length<=ah:=by have:=hp.e;omega
 obtain⟨t,n⟩:=iW ho he (by rw[h0.1];rfl);obtain⟨D,_⟩:=XC.1 h0.2;have hf:bW d.aA d.aG=0∧lT d=true:=by
  have hl:=h0.1;unfold bD at hl;split at hl
  .rename_i c;rw[hl]at c;cases c
  rename_i c;split at hl
  .cases hl
  split at hl
  .cases hl
  rename_i _ c2;exact⟨by simpa using c,by simpa using c2⟩
 obtain⟨bY,ord⟩:=kN.1 hf.1;refine⟨t,n,ord,XK h0.1,fun i hi=>?_,fun v hv=>?_,D,h0.1⟩
 .have:=D.flat i hi;rcases hk:(fA d i).ay with _|⟨a,_|⟨b,r⟩⟩
  .rw[hk]at this;simp at this
  .rw[hk]at this;simp at this
  simp
 refine⟨?_,hp.r.fault v hv⟩;have hl:=hf.2;unfold lT at hl;obtain⟨k,hk,e⟩:=a8W hv;have hs:jS (bG (cLe d) d.aK.length)=true:=by
  revert hl;cases jS (bG (cLe d) d.aK.length)<;>simp
 have:=dK.1 hs k hk;unfold cLe at this;rw[a3l,a0f hk]at this;simpa[e]using this
theorem Vk{l:List Dg}(hp:∀d∈l,oZ d)(h:bK l=0):∀d∈l,DgG d∧d.aA=(l.getD 0 jX).aA∧d.aG=(l.getD 0 jX).aG:=by
 intro d hd;unfold bK at h;split at h
 .rename_i c;split at h
  .cases h
  rename_i c2;simp only[adH,abD,a4A]at c2;have e:=c2 d hd;unfold Dw at e;split at e
  .rename_i e1;refine⟨a0a (hp d hd) ?_,by simpa using e1,by simpa using e⟩;obtain⟨k,hk,e9⟩:=a8W hd;have:=dK.1 c k hk;unfold cCk at this;rw[a3l,a0f hk,a5e,e9]at this;have h9:=hp d hd;rw[XE h9.r h9.s (by have:=h9.o;unfold ah;omega) h9.e]at this;simpa using this
  cases e
 rename_i c;obtain⟨j,_,e,_,e2⟩:=Ed (by simpa using c);rw[e2]at h;unfold cCk at e;have h':(vP (l.getD j jX)).2=0:=h;rw[h']at e;cases e
theorem adt{D:List Dg}(h3:D.length<=3)(h0:0<D.length)(h1:∀d∈D,DgG d∧d.aA=(D.getD 0 jX).aA∧d.aG=(D.getD 0 jX).aG):jG (dU D):=by
 have QJ:D.getD 0 jX∈D:=dS h0;obtain⟨g0,_,_⟩:=h1 _ QJ;refine⟨h3,g0.t.bY,g0.ord,fun k hk=>?_,a8s,fun c hc hg=>?_⟩
 .obtain⟨g,e1,e2⟩:=h1 (kW D k) (dS hk);exact⟨g.t,g.n,e1,e2,g.rk,g.two⟩
 exfalso;revert hg;show ¬(0<=(List.replicate (D.getD 0 jX).aA.length (-1:Int)).getD c.toNat 0);have:=hc.1;have:=hc.2;rw[a3l,agd,a0p (show c.toNat<(D.getD 0 jX).aA.length by have:c<((D.getD 0 jX).aA.length:Int):=hc.2;omega)];decide
theorem yK{D:List Dg}(h3:D.length<=3)(h0:0<D.length)(hp:∀d∈D,oZ d)(h:bK D=0):jG (dU D):=adt h3 h0 (Vk hp h)
open Go Tw Pv dh
theorem Il{J:Jb}(hJ:jG J)(hc:∀k,k<J.D.length->∀v∈(kW J.D k).aK,En v){op:List V->V}(h:∀l:List V,l.length=J.D.length->(∀v∈l,En v)->En (op l)):pq J op:=fun t hd=>h _ (by simp[aU]) fun v hv=>by
 unfold aU at hv;obtain⟨k,hk,rfl⟩:=a1l.1 hv;have hk:=a4s.1 hk;have h3:(jD (t.get k)).toNat<(kW J.D k).aK.length:=by
  obtain⟨h1,h2⟩:=(Jt hJ hd hk).2;omega
 exact hc k hk _ (dS h3)
theorem Jb.inD{D:List Dg}(hp:∀d∈D,oZ d)(h:bK D=0):∀k,k<D.length->∀v∈(kW D k).aK,En v:=fun k hk=>(Vk hp h _ (dS hk)).1.c
theorem JF{n f:Nat}(h2:2<=n)(hO:∀m,n-2<=m->Ok m qI){D:List Dg}(h0:0<D.length)(h6:(D.getD 0 jX).aA.length<=6){k ex:Bool}:aW X0 Qp (bQ n) (.fn 78 [] []) [.fn f [] [],.own 0] [.list k ex 26 D] (.agg [lI (dU D).s,lI (dU D).o,.own 0,.own 1,.fn f [] []]) [.list k ex 26 D,.list true true 3 (dU D).g]:=by
 have h:=akJ (n:=n-2) (f:=f) (hO _ (by omega)) (hO _ (by omega)) h0 h6 (k:=k) (ex:=ex)
 rwa [show n-2+2=n by omega]at h
theorem afU{n f:Nat}(u:Int)(h2:2<=n)(hO:∀m,n-2<=m->Ok m qI){D:List Dg}(h0:0<D.length)(h6:(D.getD 0 jX).aA.length<=6){k ex:Bool}:aW X0 Qp (bQ n) (.fn 78 [] []) [.fn f [] [.ptr 1 0 1],.own 0] [.list k ex 26 D,.aC [.int .u8 u]] (.agg [lI (dU D).s,lI (dU D).o,.own 0,.own 2,.fn f [] [.ptr 1 0 1]]) [.list k ex 26 D,.aC [.int .u8 u],.list true true 3 (dU D).g]:=by
 have h:=akK (n:=n-2) (f:=f) u (hO _ (by omega)) (hO _ (by omega)) h0 h6 (k:=k) (ex:=ex)
 rwa [show n-2+2=n by omega]at h
theorem a8d{n f:Nat}{J:Jb}(hJ:jG J){op:List V->V}(jf:pq J op)(h2:20<=n)(hO:∀m,n-20<=m->Ok m Ia)(hs:∀m,n-20<=m->∀l:List V,l.length=J.D.length->aW X0 Qp (bQ m) (.fn f [] []) [lV l] [] (.agg (op l).ps) []){k ex k2 Lr:Bool}:aW X0 Qp (bQ n) (.fn 80 [] []) [.agg [lI J.s,lI J.o,.own 0,.own 1,.fn f [] []]] [.list k ex 26 J.D,.list k2 Lr 3 J.g] (dA.put (uU J op)) [.gone,.gone]:=by
 have h6:=(jG.o2 hJ).2.1;have h7:=hJ.bY.len;have h:=afI (N:=n-20) hJ jf hs hO (m:=n-1) (by omega);rw[show n-1+1=n by omega]at h;exact apT h
theorem akM{n f:Nat}(u:Int){J:Jb}(hJ:jG J){op:List V->V}(jf:pq J op)(h2:20<=n)(hO:∀m,n-20<=m->Ok m Ia)(hs:∀m,n-20<=m->∀l:List V,l.length=J.D.length->aW X0 Qp (bQ m) (.fn f [] [.ptr 0 0 1]) [lV l] [.aC [.int .u8 u]] (.agg (op l).ps) [.aC [.int .u8 u]]){k ex k2 Lr:Bool}:aW X0 Qp (bQ n) (.fn 80 [] []) [.agg [lI J.s,lI J.o,.own 0,.own 2,.fn f [] [.ptr 1 0 1]]] [.list k ex 26 J.D,.aC [.int .u8 u],.list k2 Lr 3 J.g] (dA.put (uU J op)) [.gone,.aC [.int .u8 u],.gone]:=by
 have h6:=(jG.o2 hJ).2.1;have h7:=hJ.bY.len;have h:=afJ (N:=n-20) u hJ jf hs hO (m:=n-1) (by omega);rw[show n-1+1=n by omega]at h;exact apU h
abbrev MZ(a b x:Int):Bool:=if decide (x>=a)=true then decide (x<=b)else false
theorem a8e{k:Nat}{x:Int}(h:(!(MZ 0 (i64.wrap ((k:Int)-1)) x))=false)(hk:k<=ah):gq x k:=by
 rw[wrap_small (by unfold ah at hk;omega) (by unfold ah at hk;omega)]at h;unfold MZ at h;by_cases h1:x>=0
 .simp[h1]at h;exact⟨h1,by omega⟩
 simp[h1]at h
theorem aaX{z x:Int}(h:(!(MZ 0 (i64.wrap (z-1)) x))=false)(h0:0<=z)(h1:z<=12):0<=x∧x<z:=by
 rw[wrap_small (by omega) (by omega)]at h;unfold MZ at h;by_cases h1:x>=0
 .simp[h1]at h;exact⟨h1,by omega⟩
 simp[h1]at h
def akN(d:Dg)(c g:Int):Jb:=⟨d.aA,d.aG,[d],(dU [d]).g.set c.toNat g⟩
abbrev op0(l:List V):V:=l.getD 0 V0
theorem aaY{d:Dg}(hp:oZ d)(h:bK [d]=0){c g:Int}(hc:gq c d.aA.length)(hg:0<=g∧g<d.aA.getD c.toNat 0):jG (akN d c g):=by
 have hJ:=yK (D:=[d]) (by simp) (by simp) (fun x hx=>by rw[a2U.1 hx];exact hp) h;refine⟨hJ.d3,hJ.bY,hJ.ord,fun k hk=>have h:=hJ.dg k hk;⟨h.t,h.n,h.s,h.o,h.rk,h.two⟩,?_,fun c2 JY h2=>?_⟩
 .show((dU [d]).g.set c.toNat g).length=_;rw[a4v];exact hJ.gl
 have hl:(dU [d]).g.length=d.aA.length:=hJ.gl;have a0:=hc.1;have a1:=hc.2;have b0:=JY.1;have b1:c2<(d.aA.length:Int):=JY.2
 change 0<=((dU [d]).g.set c.toNat g).getD c2.toNat 0 at h2
 show((dU [d]).g.set c.toNat g).getD c2.toNat 0<d.aA.getD c2.toNat 0;by_cases e:c.toNat=c2.toNat
 .rw[<-e,a3l,a2l (by omega)];exact hg.2
 rw[a3l,a1q e,<-a3l]at h2 ⊢;exact hJ.gv c2 JY h2
theorem akO{m:Nat}(hO:Ok m qI){l:List V}(h:0<l.length):aW X0 Qp (bQ m) (.fn 79 [] []) [lV l] [] (.agg (op0 l).ps) []:=oq.ZW hX (first:=[]) (cap:=[]) (hO 79 [lV l] (vA.put (op0 l)) [] [0<l.length] (by kernel_rfl) (fun p h9=>by rw[a2U.1 h9];exact h)) rfl rfl rfl rfl
def KQ(p:Dg×Int×Int):Dg×Int:=if(bK [p.1] != 0)=true then(jX,bK [p.1])else if(!(MZ 0 (i64.wrap ((p.1.aA.length:Int)-1)) p.2.1))=true then(jX,3)else if(!(MZ 0 (i64.wrap (p.1.aA.getD p.2.1.toNat 0-1)) p.2.2))=true then(jX,3)else(uU (akN p.1 p.2.1 p.2.2) op0,0)
def akP:eY aF:=bZ 20 (a3 dA iA iA) (dQ (a2 dA iA)) KQ (fun p=>[oZ p.1]) qI
theorem a3S:(1:Nat)<=ah:=by unfold ah;omega
theorem apW:Gd akP:=Good.X6 24 KO XO fun n hn hO Gh p hp=>by
 have h1:oZ p.1:=hp _ (.head _);have h2:∀d∈[p.1],oZ d:=fun x hx=>by rw[a2U.1 hx];exact h1
 have h3:0<[p.1].length∧[p.1].length<=ah:=⟨by simp,a3S⟩;obtain⟨d,c,g⟩:=p;show oq X0 Qp _ _ _ ((dQ (a2 dA iA)).put (KQ (d,c,g))) _;unfold KQ;have hJ:(bK [d] != 0)=false->jG (dU [d]):=fun e1=>yK (D:=[d]) (by simp) (by simp) h2 (by simpa using e1);have hc:(bK [d] != 0)=false->(!(MZ 0 (i64.wrap ((d.aA.length:Int)-1)) c))=false->gq c d.aA.length:=fun _ e2=>a8e e2 h1.s;have s1:=fun(e1:(bK [d] != 0)=false)=>JF (n:=n) (f:=79) (by omega) (fun m hm=>hO m (by omega)) (D:=[d]) (by simp) (hJ e1).bY.len (k:=true) (ex:=true);have s2:=fun(e1:(bK [d] != 0)=false) (e2:(!(MZ 0 (i64.wrap ((d.aA.length:Int)-1)) c))=false) (e3:(!(MZ 0 (i64.wrap (d.aA.getD c.toNat 0-1)) g))=false)=>
  have hz:=(hJ e1).bY.sz (d.aA.getD c.toNat 0) (dn (show c.toNat<d.aA.length by obtain⟨a,b⟩:=hc e1 e2;omega));have hR:=aaY h1 (by simpa using e1) (hc e1 e2) (aaX e3 (Int.le_trans (by decide) hz.1) hz.2)
  a8d (n:=n) (f:=79) hR (Il hR (Jb.inD h2 (show bK [d]=0 by simpa using e1)) fun l hl hv=>hv _ (dS (by rw[hl];exact Nat.zero_lt_one))) (by omega) (fun m hm=>Gh m (by omega)) (fun m hm l hl=>akO (hO m (by omega)) (by rw[hl];exact Nat.zero_lt_one)) (k:=true) (ex:=true) (k2:=true) (Lr:=true)
 have i2:=fun(e1:(bK [d] != 0)=false) (e2:(!(MZ 0 (i64.wrap ((d.aA.length:Int)-1)) c))=false)=>show gq c (dU [d]).g.length by rw[(hJ e1).gl];exact hc e1 e2
 exact aN (hO n (by omega)) (.o h2 (.o h3 (.sh (fun _=>.rn (.dI [.agg [.nil .slc,.nil .slc,.nil .slc,.nil .slc,.int .i64 0],.int .i64 (bK [d])]) rfl) fun e1=>.sh (fun _=>.rn (.dI [.agg [.nil .slc,.nil .slc,.nil .slc,.nil .slc,.int .i64 0],.int .i64 3]) rfl) fun e2=>.o (hc e1 e2) (.sh (fun _=>.rn (.dI [.agg [.nil .slc,.nil .slc,.nil .slc,.nil .slc,.int .i64 0],.int .i64 3]) rfl) fun e3=>.fr [1] (s1 e1) (.o (i2 e1 e2) (.fr [1,2] (s2 e1 e2 e3) .rr))))))
end Go.Proofs.YtmobpoiejckagaaGreat
namespace Pv
open Go Tw
theorem Good.a8f{X:kQ}{P:Program}{T:qJ}{L:Nat}{α β:Type}{f:FuncId}{a:UA X P α}{r:Ar X P β}{S:α->β}{pre:α->List Prop}{fJ X7 a7k akQ:eY X.Γ}(d:Nat)(hg:Good X P T L fJ)(hg2:Good X P T L X7)(hg3:Good X P T L a7k)(hg4:Good X P T L akQ)
  (hf:∀n,d<=n->(∀m,n-d<=m->jE X P (kY P T L m) fJ)->(∀m,n-d<=m->jE X P (kY P T L m) X7)->(∀m,n-d<=m->jE X P (kY P T L m) a7k)->(∀m,n-d<=m->jE X P (kY P T L m) akQ)->∀x,(∀p∈pre x,p)->oq X P (kY P T L (n+1)) f (a.put x) (r.put (S x)) []):Good X P T L (bZ f a r S pre fJ):=by
 obtain⟨N2,hN2⟩:=hg2;obtain⟨N3,hN3⟩:=hg3;obtain⟨N4,hN4⟩:=hg4;obtain⟨M,hM⟩:=hg;refine⟨M+N2+N3+N4+d+1,fun n hn=>?_⟩;obtain⟨k,rfl⟩:∃k,n=k+1:=⟨n-1,by omega⟩;intro g vs v ext ps ho hp;unfold bZ at ho;split at ho
 .rename_i e;have e:=a8S e;subst e;split at ho
  .rename_i x hx;cases ho;intro A h first args cap Iw hv
   exact hf k (by omega) (fun m hm=>hM m (by omega)) (fun m hm=>hN2 m (by omega)) (fun m hm=>hN3 m (by omega)) (fun m hm=>hN4 m (by omega)) x hp A h first args cap Iw (a.ok hx hv)
  .exact hM (k+1) (by omega) g vs v ext ps ho hp
 .exact hM (k+1) (by omega) g vs v ext ps ho hp
end Pv
namespace Go.Proofs.YtmobpoiejckagaaGreat
open Go Tw Pv dh
def sD(k:Int):Bool:=decide (7<=k∧k<=16)
def jc(k:Int)(a b:V):V×Int:=if sD k=true then Hy k a b else(V0,2)
theorem bne{a b:Int}(h:a≠b):(a==b)=false:=by simpa using h
def a8g:eY aF:=ZG 101 (a1 uA) (fun _=>.nil .fn) (fun _=>[]) (fun p=>[sD p=false]) akP
theorem afV:Gd a8g:=apW.X5 0 fun n _ hO p hp=>by
 have h:¬(7<=p∧p<=16):=by simpa[sD]using hp _ (.head _)
 exact Bq hX (hO n (by omega)) (by kernel_rfl) (.b (bne (show p≠7 by omega)) (.b (bne (show p≠8 by omega)) (.b (bne (show p≠9 by omega)) (.b (bne (show p≠10 by omega)) (.b (bne (show p≠11 by omega)) (.b (bne (show p≠12 by omega)) (.b (bne (show p≠13 by omega)) (.b (bne (show p≠14 by omega)) .er))))))))
def Yd:eY aF:=bZ 45 (a3 uA vA vA) (dQ (a2 vA iA)) (fun p=>jc p.1 p.2.1 p.2.2) np a8g
theorem a2a:Gd Yd:=afV.deep 1 fun n hn hO p hp=>by
 obtain⟨k,a,b⟩:=p;cases h:sD k
 .have h9:¬(7<=k∧k<=16):=by simpa[sD]using h
  show oq X0 Qp _ _ _ ((dQ (a2 vA iA)).put (jc k a b)) _;unfold jc;rw[h];exact aN (hO n (by omega)) (.b (bne (show k≠15 by omega)) (.b (bne (show k≠16 by omega)) (.o h (.b (rfl:true=true) .rr))))
 .show oq X0 Qp _ _ _ ((dQ (a2 vA iA)).put (jc k a b)) _;unfold jc;rw[a0p h];exact hO (n+1) (by omega) 45 ((a3 uA vA vA).put (k,a,b)) ((dQ (a2 vA iA)).put (Hy k a b)) [] [7<=k∧k<=16] (by kernel_rfl) (fun q hq=>by rw[a2U.1 hq];simpa[sD]using h)
open Go Tw Pv dh
theorem oU{v:V}:En v↔kR v:=by
 unfold En vOk nX;constructor
 .rintro⟨h,h0⟩;split at h
  .rename_i e;split at h
   .rename_i e2;simp at e e2 h;exact⟨h0,by omega,fun _=>⟨e2,h⟩,fun hz=>absurd e hz⟩
   cases h
  split at h
  .rename_i e e2;simp at e e2 h;exact⟨h0,e2,fun hz=>absurd hz e,fun _=>h⟩
  cases h
 intro h;refine⟨?_,h.f0⟩;by_cases e:v.f=0
 .rw[a0p (by simpa using e),a0p (by simpa using(h.n e).1)];simpa using(h.n e).2
 rw[a0o (by simpa using e),a0p (by simpa using h.f1)];simpa using h.z e
theorem aaZ{k:Int}{a b:V}:(Hy k a b).1=gJ k a b:=by
 unfold Hy gJ
 repeat' split
 all_goals rfl
theorem a2b{k:Int}(h:sD k=true){a b:V}(ha:En a)(hb:En b):En (jc k a b).1∧(jc k a b).1=bH k a b:=by
 have:=aeK (by simpa[sD]using h) (oU.1 ha) (oU.1 hb);unfold jc;rw[a0p h,aaZ,this.1];exact⟨oU.2 this.2,rfl⟩
theorem ab1{k:Int}{a b:V}(h:((jc k a b).2 != 0)=false):sD k=true:=by
 unfold jc at h;cases e:sD k
 .rw[e]at h;simp at h
 rfl
theorem Vl:En jY:=⟨by decide,by decide⟩
theorem afW:En V0:=⟨by decide,by decide⟩
abbrev Ls(u:Int)(l:List V):V:=(jc u (l.getD 0 V0) (l.getD 1 V0)).1
abbrev ab2(l:List V):V:=(iw (l.getD 0 V0) (l.getD 1 V0) (l.getD 2 V0)).1
theorem akR{m:Nat}{u:Int}(h1:1<=m)(hO:Ok (m-1) Yd){l:List V}(h:l.length=2):aW X0 Qp (bQ m) (.fn 112 [] [.ptr 0 0 1]) [lV l] [.aC [.int .u8 u]] (.agg (Ls u l).ps) [.aC [.int .u8 u]]:=by
 obtain⟨m,rfl⟩:∃k,m=k+1:=⟨m-1,by omega⟩;exact fO hO (first:=[]) (cap:=[.ptr 0 0 1]) (.o (aH (by omega:0<l.length)) (.o (aH (by omega:1<l.length)) .er))
theorem apX{m:Nat}(h1:1<=m)(hO:Ok (m-1) Yd){l:List V}(h:l.length=3):aW X0 Qp (bQ m) (.fn 113 [] []) [lV l] [] (.agg (ab2 l).ps) []:=by
 obtain⟨m,rfl⟩:∃k,m=k+1:=⟨m-1,by omega⟩;exact fO hO (first:=[]) (cap:=[]) (.o (aH (by omega:0<l.length)) (.o (aH (by omega:1<l.length)) (.o (aH (by omega:2<l.length)) .er)))
theorem akS{m:Nat}(hO:Ok m Yd){l:List V}(h:l.length<=ah):aW X0 Qp (bQ m) (.fn 117 [] []) [lV l] [] (.agg (og l).ps) []:=oq.ZW hX (first:=[]) (cap:=[]) (hO 117 [lV l] (vA.put (og l)) [] [l.length<=ah] (by kernel_rfl) (fun p h9=>by rw[a2U.1 h9];exact h)) rfl rfl rfl rfl
theorem ab3(l:List V):En (og l):=by unfold og;split;exact Vl;exact afW
theorem a0b{a b c:V}(ha:En a)(hb:En b)(hc:En c):En (iw a b c).1:=by
 have:=a2Z (oU.1 ha) (oU.1 hb) (oU.1 hc);rw[this.1];exact oU.2 this.2
def nD(p:Int×Dg×Dg):Dg×Int:=if(bK [p.2.1,p.2.2] != 0)=true then(jX,bK [p.2.1,p.2.2])else if((jc p.1 jY jY).2 != 0)=true then(jX,(jc p.1 jY jY).2)else(uU (dU [p.2.1,p.2.2]) (Ls p.1),0)
def Ye(p:Dg×Dg×Dg):Dg×Int:=if(bK [p.1,p.2.1,p.2.2] != 0)=true then(jX,bK [p.1,p.2.1,p.2.2])else(uU (dU [p.1,p.2.1,p.2.2]) ab2,0)
def zM(p:Dg):Dg×Int:=if(bK [p] != 0)=true then(jX,bK [p])else(uU (dU [p]) og,0)
theorem Yf{P:Dg->Prop}{a b:Dg}(ha:P a)(hb:P b):∀d∈[a,b],P d:=fun x hx=>by
 rcases a2y.1 hx with rfl|hx
 .exact ha
 .rw[a2U.1 hx];exact hb
theorem apY{P:Dg->Prop}{a b c:Dg}(ha:P a)(hb:P b)(hc:P c):∀d∈[a,b,c],P d:=fun x hx=>by
 rcases a2y.1 hx with rfl|hx
 .exact ha
 .exact Yf hb hc x hx
abbrev rnE(e:Int):PV aF:=.dI [.agg [.nil .slc,.nil .slc,.nil .slc,.nil .slc,.int .i64 0],.int .i64 e]
abbrev HcA(D:List Dg)(u:Int)(g:List Int):List (PB aF):=[.list true true 26 D,.cells [.int .u8 u],.list true true 3 g]
abbrev HcB(u:Int):List (PB aF):=[.gone,.cells [.int .u8 u],.gone]
theorem rE(e:Int):Fp (Γ:=X0.Γ) (Is (X:=X0) (P:=Qp) (dQ (a2 dA iA)) (jX,e)) .n (.ret (some (rnE e))):=by
 have h:(dQ (a2 dA iA)).get (rnE e)=some (jX,e):=rfl;exact Fp.rn (X:=X0) (P:=Qp) (rnE e) h
def akT:eY aF:=bZ 62 (a3 uA dA dA) (dQ (a2 dA iA)) nD (fun p=>[oZ p.2.1,oZ p.2.2]) Yd
theorem ab4:(2:Nat)<=ah:=by unfold ah;omega
theorem afX:(3:Nat)<=ah:=by unfold ah;omega
theorem aq0:Gd akT:=Good.a8f 24 a2a XO KO a2a fun n hn hO Gh hO3 hO4 p hp=>by
 obtain⟨u,d,e⟩:=p;have h1:∀x∈[d,e],oZ x:=Yf (hp _ (.head _)) (hp _ (.tail _ (.head _)));have h3:0<[d,e].length∧[d,e].length<=ah:=⟨by simp,ab4⟩;have hJ:(bK [d,e] != 0)=false->jG (dU [d,e]):=fun e1=>yK (D:=[d,e]) (by simp) (by simp) h1 (by simpa using e1);have s1:=fun(e1:(bK [d,e] != 0)=false)=>afU (n:=n) (f:=112) u (by omega) (fun m hm=>hO3 m (by omega)) (D:=[d,e]) (by simp) (hJ e1).bY.len (k:=true) (ex:=true);have s2:=fun(e1:(bK [d,e] != 0)=false) (e2:((jc u jY jY).2 != 0)=false)=>akM (n:=n) (f:=112) u (hJ e1) (op:=Ls u) (Il (hJ e1) (Jb.inD h1 (show bK [d,e]=0 by simpa using e1)) fun l hl hv=>(a2b (ab1 e2) (hv _ (dS (show 0<l.length by rw[hl];exact Nat.zero_lt_two))) (hv _ (dS (show 1<l.length by rw[hl];exact Nat.one_lt_two)))).1) (by omega) (fun m hm=>Gh m (by omega)) (fun m hm l hl=>akR (by omega) (hO4 _ (by omega)) hl) (k:=true) (ex:=true) (k2:=true) (Lr:=true);show oq X0 Qp _ _ _ ((dQ (a2 dA iA)).put (if(bK [d,e] != 0)=true then(jX,bK [d,e])else if((jc u jY jY).2 != 0)=true then(jX,(jc u jY jY).2)else(uU (dU [d,e]) (Ls u),0))) _;exact aN (hO n (by omega)) (.o h1 (.o h3 (.sh (fun _=>rE _) fun e1=>.sh (fun _=>rE _) fun e2=>.Qm (H2:=HcA [d,e] u (dU [d,e]).g) [2,0] [1] (s1 e1) (.Qm (H2:=HcB u) [2,0,3] [1] (s2 e1 e2) .rr))))
def akV:eY aF:=bZ 63 (a3 dA dA dA) (dQ (a2 dA iA)) Ye (fun p=>[oZ p.1,oZ p.2.1,oZ p.2.2]) akT
theorem aq1:Gd akV:=Good.a8f 24 aq0 XO KO a2a fun n hn hO Gh hO3 hO4 p hp=>by
 obtain⟨a,b,c⟩:=p;have h1:∀x∈[a,b,c],oZ x:=apY (hp _ (.head _)) (hp _ (.tail _ (.head _))) (hp _ (.tail _ (.tail _ (.head _))));have h3:0<[a,b,c].length∧[a,b,c].length<=ah:=⟨by simp,afX⟩;have hJ:(bK [a,b,c] != 0)=false->jG (dU [a,b,c]):=fun e1=>yK (D:=[a,b,c]) (by simp) (by simp) h1 (by simpa using e1);have s1:=fun(e1:(bK [a,b,c] != 0)=false)=>JF (n:=n) (f:=113) (by omega) (fun m hm=>hO3 m (by omega)) (D:=[a,b,c]) (by simp) (hJ e1).bY.len (k:=true) (ex:=true);have s2:=fun(e1:(bK [a,b,c] != 0)=false)=>a8d (n:=n) (f:=113) (hJ e1) (op:=ab2) (Il (hJ e1) (Jb.inD h1 (show bK [a,b,c]=0 by simpa using e1)) fun l hl hv=>a0b (hv _ (dS (show 0<l.length by rw[hl];exact Nat.succ_pos 2))) (hv _ (dS (show 1<l.length by rw[hl];exact Nat.succ_lt_succ (Nat.succ_pos 1)))) (hv _ (dS (show 2<l.length by rw[hl];exact Nat.lt_succ_self 2)))) (by omega) (fun m hm=>Gh m (by omega)) (fun m hm l hl=>apX (by omega) (hO4 _ (by omega)) hl) (k:=true) (ex:=true) (k2:=true) (Lr:=true);show oq X0 Qp _ _ _ ((dQ (a2 dA iA)).put (if(bK [a,b,c] != 0)=true then(jX,bK [a,b,c])else(uU (dU [a,b,c]) ab2,0))) _;exact aN (hO n (by omega)) (.o h1 (.o h3 (.sh (fun _=>rE _) fun e1=>.fr [1] (s1 e1) (.fr [1,2] (s2 e1) .rr))))
def akW:eY aF:=bZ 67 (a1 dA) (dQ (a2 dA iA)) zM (fun p=>[oZ p]) akV
theorem aq2:Gd akW:=Good.a8f 24 aq1 XO KO a2a fun n hn hO Gh hO3 hO4 d hp=>by
 have h1:∀x∈[d],oZ x:=fun x hx=>by rw[a2U.1 hx];exact hp _ (.head _)
 have h3:0<[d].length∧[d].length<=ah:=⟨by simp,a3S⟩;have hJ:(bK [d] != 0)=false->jG (dU [d]):=fun e1=>yK (D:=[d]) (by simp) (by simp) h1 (by simpa using e1);have s1:=fun(e1:(bK [d] != 0)=false)=>JF (n:=n) (f:=117) (by omega) (fun m hm=>hO3 m (by omega)) (D:=[d]) (by simp) (hJ e1).bY.len (k:=true) (ex:=true);have s2:=fun(e1:(bK [d] != 0)=false)=>a8d (n:=n) (f:=117) (hJ e1) (op:=og) (fun t hd=>ab3 _) (by omega) (fun m hm=>Gh m (by omega)) (fun m hm l hl=>akS (hO4 m (by omega)) (by rw[hl];exact a3S)) (k:=true) (ex:=true) (k2:=true) (Lr:=true);show oq X0 Qp _ _ _ ((dQ (a2 dA iA)).put (if(bK [d] != 0)=true then(jX,bK [d])else(uU (dU [d]) og,0))) _;exact aN (hO n (by omega)) (.o h1 (.o h3 (.sh (fun _=>rE _) fun e1=>.fr [1] (s1 e1) (.fr [1,2] (s2 e1) .rr))))
open Go Tw Pv dh
def oh(v:V):Int:=if(!(D8 v))=true then 2 else 0
def Yg:eY aF:=bZ 106 (a1 vA) iA (fun p=>oh p) np akW
theorem adu:Gd Yg:=aq2.add fun n hO p hp=>aN hO (.ss .rr .rr)
theorem a8i{n f:Nat}{J:Jb}{k ex k2 Lr:Bool}(h:aW X0 Qp (bQ n) (.fn 87 [] []) [.agg (J.ps (.fn f [] []))] [] (.map 0) [.map (kV.im (eX J))]):aW X0 Qp (bQ n) (.fn 87 [] []) [.agg [lI J.s,lI J.o,.own 0,.own 1,.fn f [] []]] [.list k ex 26 J.D,.list k2 Lr 3 J.g] (.map 2) [.gone,.gone,.map (kV.im (eX J))]:=by
 have h1:=aW.frame hX (ks:=[]) (H':=[.gone,.gone]) (Hp:=[]) (Q9:=[.map (kV.im (eX J))]) (v':=.map 2) (fv':=.fn 87 [] []) (xs':=[.agg (J.ps (.fn f [] []))]) h (by decide) rfl rfl rfl rfl rfl rfl rfl;exact aW.fz hX (H:=[.list k ex 26 J.D,.list k2 Lr 3 J.g]) (cs:=[lI J.s,lI J.o,.own 0,.own 1]) (rest:=[.fn f [] []]) [0,1] h1 rfl (fun i hi=>by simpa[kU.kD,kU]using hi)
open Go Tw Pv dh
def look(t:List (V×Int))(v:V):Int:=((t.find? fun e=>decide (e.1=v)).map (·.2)).getD 0
theorem Io{t:List (V×Int)}(hn:(t.map (·.1)).Nodup)(v:V):(qp X0 Qp 39 (kV.im t) (kV.tv v) (.int .i64 (look t v)))∨(look t v=0∧nP X0 Qp 39 (kV.im t) (kV.tv v)):=by
 by_cases h:v∈t.map (·.1)
 .obtain⟨e,he,hv⟩:=a1l.1 h;obtain⟨e2,h2⟩:=a5y.1 (List.find?_isSome (p:=fun e:V×Int=>decide (e.1=v)) |>.2 ⟨e,he,show decide (e.1=v)=true by simpa using hv⟩);have h3:e2.1=v:=by simpa using List.find?_some h2
  refine .inl (kV.found (by rw[zK];exact hn) (a1l.2 ⟨e2,List.mem_of_find?_eq_some h2,?_⟩));unfold look;rw[h2,h3];rfl
 refine .inr ⟨?_,kV.fresh (by rw[zK];exact h)⟩;unfold look;rw[afn.2 fun e he=>by
  simp only[a1Q];intro hv;exact h (a1l.2 ⟨e,he,hv⟩)]
 rfl
abbrev akX:PV aF:=.agg [.nil .slc,.nil .slc,.nil .slc,.nil .slc,.nil .fn]
abbrev a8j(J:Jb)(f:Nat)(a b:Nat):PV aF:=.agg [lI J.s,lI J.o,.own a,.own b,.fn f [] []]
abbrev HO(D:List Dg)(g:List Int):List (PB aF):=[.list true true 26 D,.list true true 3 g]
theorem a8k{P:Dg->Prop}{d:Dg}(h:P d):∀x∈[d],P x:=fun x hx=>by rw[a2U.1 hx];exact h
theorem akY{n:Nat}(hO:Ok n Yg){d:Dg}{v:V}(hp:oZ d)(e1:(bK [d] != 0)=true):aW X0 Qp (bQ (n+1)) (.fn 86 [] []) [.agg d.ps,.agg v.ps] [] (.dI [akX,.int .i64 (bK [d])]) []:=by
 have h1:∀x∈[d],oZ x:=a8k hp;have h3:0<[d].length∧[d].length<=ah:=⟨by simp,a3S⟩;exact aW.drop hX (rG hX hO (first:=[]) (cap:=[]) (H1:=[.list true true 26 [d]]) (by kernel_rfl) (.o h1 (.o h3 (.b e1 .er)))) rfl rfl
theorem akZ{n:Nat}(hO:Ok n Yg){d:Dg}{v:V}(hp:oZ d)(e1:(bK [d] != 0)=false)(e2:(oh v != 0)=true):aW X0 Qp (bQ (n+1)) (.fn 86 [] []) [.agg d.ps,.agg v.ps] [] (.dI [akX,.int .i64 4]) []:=by
 have h1:∀x∈[d],oZ x:=a8k hp;have h3:0<[d].length∧[d].length<=ah:=⟨by simp,a3S⟩;exact aW.drop hX (rG hX hO (first:=[]) (cap:=[]) (H1:=[.list true true 26 [d]]) (by kernel_rfl) (.o h1 (.o h3 (.b e1 (.b e2 .er))))) rfl rfl
theorem al0{n:Nat}(h2:2<=n)(Aw:Ok n Yg)(hO:∀m,n-2<=m->Ok m qI){d:Dg}{v:V}(hp:oZ d)(e1:(bK [d] != 0)=false)(e2:(oh v != 0)=false):aW X0 Qp (bQ (n+1)) (.fn 86 [] []) [.agg d.ps,.agg v.ps] [] (.dI [a8j (dU [d]) 79 0 1,.int .i64 0]) (HO [d] (dU [d]).g):=by
 have h1:∀x∈[d],oZ x:=a8k hp;have h3:0<[d].length∧[d].length<=ah:=⟨by simp,a3S⟩;have hJ:jG (dU [d]):=yK (D:=[d]) (by simp) (by simp) h1 (by simpa using e1);have s1:=JF (n:=n) (f:=79) h2 hO (D:=[d]) (by simp) hJ.bY.len (k:=true) (ex:=true);have h:aW X0 Qp (bQ (n+1)) (.fn 86 [] []) [.agg d.ps,.agg v.ps] [] (.dI [a8j (dU [d]) 79 1 2,.int .i64 0]) [.list true true 26 [d],.list true true 26 [d],.list true true 3 (dU [d]).g]:=fO Aw (first:=[]) (cap:=[]) (.o h1 (.o h3 (.b e1 (.b e2 (.fr [1] s1 .er)))));exact aW.gs hX h [.gc [1,2]] rfl
theorem Bc(J:Jb):((eX J).map (·.1)).Nodup:=(((qo Y9 (AQ (uV J))).map (·.1)).nodup_iff).2 (G5 (uV J)).1
theorem Yh(φ:V->Int)(J:Jb):dG φ (eX J)=dW φ (uV J):=by
 unfold eX;rw[a3B φ (qo Y9 (AQ (uV J))),Tf]
theorem Yi{α:Type}:∀l:List α,dW (fun _=>1) l=(l.length:Int)
 | []=>rfl
 |a::l=>by
  have:=Yi l;simp only[dW,a4i];omega
theorem TA{J:Jb}(hJ:jG J):JD (eX J):=by
 refine⟨fun e he=>(G5 (uV J)).2 e ((qo Y9 (AQ (uV J))).mem_iff.1 he),?_⟩;rw[Yh,Yi];have h1:(uV J).length<=(XW J).length:=by
  unfold uV a07;rw[a4n];exact a4U (a98 _ _) (by rw[a4n];exact a1b _)
 have h2:(XW J).length<=EY J.s:=a4U (a98 _ _) (by rw[a4n,a8I];exact a1b _);have h3:=hJ.bY.a6v;have h4:=hJ.bY.many;omega
def Vm(p:Dg×V):Int×Int:=if(bK [p.1] != 0)=true then(0,bK [p.1])else if(oh p.2 != 0)=true then(0,4)else(look (eX (dU [p.1])) p.2,0)
def afY:eY aF:=bZ 27 (a2 dA vA) (dQ (a2 iA iA)) Vm (fun p=>[oZ p.1]) Yg
theorem aq3:Gd afY:=Good.X6 24 adu KO fun n hn hO Gh p hp=>by
 obtain⟨d,v⟩:=p;have h1:oZ d:=hp _ (.head _);obtain⟨n,rfl⟩:∃k,n=k+1:=⟨n-1,by omega⟩;have Aw:=hO (n+1) (by omega);cases e1:(bK [d] != 0)
 .cases e2:(oh v != 0)
  .have s1:=al0 (n:=n) (by omega) (hO n (by omega)) (fun m hm=>Gh m (by omega)) h1 e1 e2;have hJ:jG (dU [d]):=yK (D:=[d]) (by simp) (by simp) (a8k h1) (by simpa using e1);have s2:=a8i (k:=true) (ex:=true) (k2:=true) (Lr:=true) (PW hJ (n:=n-1) (f:=79) (Gh _ (by omega)) (show 0<[d].length by simp));rw[show n-1+2=n+1 by omega]at s2;show oq X0 Qp _ _ _ ((dQ (a2 iA iA)).put (if(bK [d] != 0)=true then(0,bK [d])else if(oh v != 0)=true then(0,4)else(look (eX (dU [d])) v,0))) _;rw[e1,e2];rcases Io (Bc (dU [d])) v with hf|⟨hz,hf⟩
   .exact aN Aw (.fr [] s1 (.b (rfl:((0:Int) != 0)=false) (.fr [0,1] s2 (.c (.int .i64 (look (eX (dU [d])) v)) [] hf .rr))))
   .rw[hz];exact aN Aw (.fr [] s1 (.b (rfl:((0:Int) != 0)=false) (.fr [0,1] s2 (.a .calm (.o hf .rr)))))
  .have s1:=akZ (n:=n) (hO n (by omega)) h1 e1 e2;show oq X0 Qp _ _ _ ((dQ (a2 iA iA)).put (if(bK [d] != 0)=true then(0,bK [d])else if(oh v != 0)=true then(0,4)else(look (eX (dU [d])) v,0))) _;rw[e1,e2];exact aN Aw (.fr [] s1 (.b (rfl:((4:Int) != 0)=true) .rr))
 .have s1:=akY (n:=n) (v:=v) (hO n (by omega)) h1 e1;show oq X0 Qp _ _ _ ((dQ (a2 iA iA)).put (if(bK [d] != 0)=true then(0,bK [d])else if(oh v != 0)=true then(0,4)else(look (eX (dU [d])) v,0))) _;rw[a0p e1];exact aN Aw (.fr [] s1 (.b e1 .rr))
open Go Tw Pv dh
structure An where
 q:Int
 none:Bool
 yes:Bool
 n:Int
 lo:Int
 hi:Int
 fault:Bool
 set:List Int
deriving DecidableEq
abbrev An0:An:=⟨0,false,false,0,0,0,false,[]⟩
def al1:Ar X0 Qp Unit where
 put _:=.nil .slc
 get v:=match v with
  |.nil .slc=>some ()
  |_=>none
 ok:=by
  intro v a hg A m h x hv;split at hg
  .exact hv
  .cases hg
def Vz:Arg An:=aeD (a6l (La uA (La tA (La tA (La iA (La iA (a4 iA tA rO al1)))))))
 (fun p=>⟨p.1,p.2.1,p.2.2.1,p.2.2.2.1,p.2.2.2.2.1,p.2.2.2.2.2.1,p.2.2.2.2.2.2.1,p.2.2.2.2.2.2.2.1⟩) (fun a=>(a.q,a.none,a.yes,a.n,a.lo,a.hi,a.fault,a.set,())) fun _=>rfl
abbrev anW(a:An)(s:PV aF):PV aF:=.agg [.int .u8 a.q,.bool a.none,.bool a.yes,.int .i64 a.n,.int .i64 a.lo,.int .i64 a.hi,.bool a.fault,s,.nil .slc]
theorem rA(a:An)(h:a.set=[])(e:Int):Fp (Γ:=X0.Γ) (Is (X:=X0) (P:=Qp) (dQ (a2 Vz iA)) (a,e)) .n (.ret (some (.dI [anW a (.nil .slc),.int .i64 e]))):=by
 obtain⟨q,no,y,n,l,hi,f,s⟩:=a;cases h;have h:(dQ (a2 Vz iA)).get (.dI [anW ⟨q,no,y,n,l,hi,f,[]⟩ (.nil .slc),.int .i64 e])=some (⟨q,no,y,n,l,hi,f,[]⟩,e):=rfl;exact Fp.rn (X:=X0) (P:=Qp) _ h
def a8l(q:Int)(t:List (V×Int)):An×Int:=
 if(q==1)=true then(⟨q,false,look t jY==dG (fun _=>1) t,0,0,0,false,[]⟩,0)
 else if(q==2)=true then(⟨q,false,decide (look t jY>0),0,0,0,false,[]⟩,0)
 else if(q==3)=true then(⟨q,false,false,look t jY,0,0,false,[]⟩,0)
 else if(q==4)=true then(if lY t=[]then(⟨q,true,false,0,0,0,uI t,[]⟩,0)else(⟨q,((lY t).length:Int)==0,false,0,(lY t).getD 0 0,(lY t).getD (i64.wrap ((lY t).length-1)).toNat 0,uI t,[]⟩,0))
 else(⟨q,false,false,0,0,0,uI t,lY t⟩,0)
def G8(q:Int)(t:List (V×Int)):An×Int:=if t=[]then(⟨q,true,false,0,0,0,false,[]⟩,0)else a8l q t
def a2c(p:Int×Dg×Dg):An×Int:=if(bK [p.2.1,p.2.2] != 0)=true then(An0,bK [p.2.1,p.2.2])else if decide (p.1<1)=true then(An0,2)else if decide (p.1>5)=true then(An0,2)else G8 p.1 (eX (dU [p.2.1,p.2.2]))
def a8m:eY aF:=bZ 33 (a3 uA dA dA) (dQ (a2 Vz iA)) a2c (fun p=>[oZ p.2.1,oZ p.2.2]) afY
theorem afZ{t:List (V×Int)}(h:JD t):(lY t).length<=2000:=by
 unfold lY;rw[show ∀l:List Int,(gV l).length=l.length from fun l=>(adT l _).length_eq,a4n];exact a4U (a98 _ _) h.len
abbrev HMt(t:List (V×Int)):List (PB aF):=[.map (kV.im t)]
abbrev HMn(t:List (V×Int)):List (PB aF):=[.map (kV.im t),.list false false 3 (lY t)]
section
variable {n:Nat} {q:Int} {d e:Dg} (hO:Ok n afY) (h1:∀ x∈[d,e],oZ x) (e1:(bK [d,e] != 0)=false) (e2:decide (q<1)=false) (e3:decide (q>5)=false) {t:List (V×Int)} (ht:JD t)
 (s1:aW X0 Tryz.prog (bQ n) (.fn 78 [] []) [.fn 79 [] [],.own 0] [.list true true 26 [d,e]] (a8j (dU [d,e]) 79 0 1) (HO [d,e] (dU [d,e]).g))
 (s2:aW X0 Tryz.prog (bQ n) (.fn 87 [] []) [a8j (dU [d,e]) 79 0 1] (HO [d,e] (dU [d,e]).g) (.map 2) [.gone,.gone,.map (kV.im t)])
 (s3:aW X0 Tryz.prog (bQ n) (.fn 90 [] []) [.map 0] [.iE (kV.im t)] (.int .i64 (dG (fun _=>1) t)) [.iE (kV.im t)])
 (s4:lY t=[]->aW X0 Tryz.prog (bQ n) (.fn 88 [] []) [.map 0] [.iE (kV.im t)] (.dI [.nil .slc,.bool (uI t)]) [.iE (kV.im t)])
 (s5:lY t≠[]->aW X0 Tryz.prog (bQ n) (.fn 88 [] []) [.map 0] [.iE (kV.im t)] (.dI [.own 1,.bool (uI t)]) [.iE (kV.im t),.list false false 3 (lY t)])
include hO h1 e1 e2 e3 s1 s2
theorem ab5(h:t=[]):oq X0 Qp (bQ (n+1)) 33 ((a3 uA dA dA).put (q,d,e)) ((dQ (a2 Vz iA)).put (⟨q,true,false,0,0,0,false,[]⟩,0)) []:=by
 subst h;have h3:0<[d,e].length∧[d,e].length<=ah:=⟨by simp,ab4⟩;exact aN hO (.o h1 (.o h3 (.b e1 (.b e2 (.b e3 (.fr [1] s1 (.fr [1,2] s2 (.b (show(((kV.im ([]:List (V×Int))).length:Int)==0)=true from rfl) (rA _ rfl _)))))))))
variable (hd:(t.map (·.1)).Nodup)
include ht s3 s4 s5 hd
theorem a8n(h:t≠[]):oq X0 Qp (bQ (n+1)) 33 ((a3 uA dA dA).put (q,d,e)) ((dQ (a2 Vz iA)).put (a8l q t)) []:=by
 have h3:0<[d,e].length∧[d,e].length<=ah:=⟨by simp,ab4⟩;have hl:(((kV.im t).length:Int)==0)=false:=by
  rw[kV.pJ];cases t with
  |nil=>exact absurd rfl h
  |cons a r=>exact bne (by simp only[a4i];omega)
 have QH:=afZ ht;have s0:aW X0 Qp (bQ n) (.fn 89 [] []) [] [] (.agg jY.ps) []:=oq.ZW hX (first:=[]) (cap:=[]) (hO 89 [] (vA.put jY) [] [] (by kernel_rfl) (fun p h=>by cases h)) rfl rfl rfl rfl;unfold a8l;by_cases hn:lY t=[]
 .rw[a0p hn];rcases Io hd jY with hf|⟨hz,hf⟩
  .exact aN hO (.o h1 (.o h3 (.b e1 (.b e2 (.b e3 (.fr [1] s1 (.fr [1,2] s2 (.b hl (.Qm (H2:=HMt t) [3] [0] (s4 hn) (.ss (.fr [] s0 (.c (.int .i64 (look t jY)) [] hf (.Qm (H2:=HMt t) [3] [0] s3 (rA _ rfl _)))) (.ss (.fr [] s0 (.c (.int .i64 (look t jY)) [] hf (rA _ rfl _))) (.ss (.fr [] s0 (.c (.int .i64 (look t jY)) [] hf (rA _ rfl _))) (.ss (.b (c:=!((0:Int)==0)) (t:=false) rfl (rA _ rfl _)) (rA ⟨q,false,false,0,0,0,uI t,lY t⟩ hn _))))))))))))))
  rw[hz];exact aN hO (.o h1 (.o h3 (.b e1 (.b e2 (.b e3 (.fr [1] s1 (.fr [1,2] s2 (.b hl (.Qm (H2:=HMt t) [3] [0] (s4 hn) (.ss (.a .calm (.o hf (.Qm (H2:=HMt t) [3] [0] s3 (rA _ rfl _)))) (.ss (.a .calm (.o hf (rA _ rfl _))) (.ss (.a .calm (.o hf (rA _ rfl _))) (.ss (.b (c:=!((0:Int)==0)) (t:=false) rfl (rA _ rfl _)) (rA ⟨q,false,false,0,0,0,uI t,lY t⟩ hn _))))))))))))))
 rw[a0o hn];have hp:0<(lY t).length:=aaQ.2 hn;have hb:(!(((lY t).length:Int)==0))=true:=by rw[bne (by omega)];rfl
 have i0:gq 0 (lY t).length:=aH hp;have i1:gq (i64.wrap ((lY t).length-1)) (lY t).length:=by
  rw[wrap_small (by omega) (by omega)];exact⟨by omega,by omega⟩
 rcases Io hd jY with hf|⟨hz,hf⟩
 .exact aN hO (.o h1 (.o h3 (.b e1 (.b e2 (.b e3 (.fr [1] s1 (.fr [1,2] s2 (.b hl (.Qm (H2:=HMn t) [3] [0] (s5 hn) (.ss (.fr [] s0 (.c (.int .i64 (look t jY)) [] hf (.Qm (H2:=HMt t) [3] [0] s3 (rA _ rfl _)))) (.ss (.fr [] s0 (.c (.int .i64 (look t jY)) [] hf (rA _ rfl _))) (.ss (.fr [] s0 (.c (.int .i64 (look t jY)) [] hf (rA _ rfl _))) (.ss (.b hb (.o i0 (.o i1 (rA _ rfl _)))) .rr)))))))))))))
 rw[hz];exact aN hO (.o h1 (.o h3 (.b e1 (.b e2 (.b e3 (.fr [1] s1 (.fr [1,2] s2 (.b hl (.Qm (H2:=HMn t) [3] [0] (s5 hn) (.ss (.a .calm (.o hf (.Qm (H2:=HMt t) [3] [0] s3 (rA _ rfl _)))) (.ss (.a .calm (.o hf (rA _ rfl _))) (.ss (.a .calm (.o hf (rA _ rfl _))) (.ss (.b hb (.o i0 (.o i1 (rA _ rfl _)))) .rr)))))))))))))
end
theorem al2:Gd a8m:=Good.X6 24 aq3 KO fun n hn hO Gh p hp=>by
 obtain⟨q,d,e⟩:=p;have h1:∀x∈[d,e],oZ x:=Yf (hp _ (.head _)) (hp _ (.tail _ (.head _)));have h3:0<[d,e].length∧[d,e].length<=ah:=⟨by simp,ab4⟩;have Aw:=hO n (by omega);show oq X0 Qp _ _ _ ((dQ (a2 Vz iA)).put (if(bK [d,e] != 0)=true then(An0,bK [d,e])else if decide (q<1)=true then(An0,2)else if decide (q>5)=true then(An0,2)else G8 q (eX (dU [d,e])))) _;cases e1:(bK [d,e] != 0)
 .cases e2:decide (q<1)
  .cases e3:decide (q>5)
   .have hJ:=yK (D:=[d,e]) (by simp) (by simp) h1 (by simpa using e1);have ht:=TA hJ;have s1:=JF (n:=n) (f:=79) (by omega) (fun m hm=>Gh m (by omega)) (D:=[d,e]) (by simp) hJ.bY.len (k:=true) (ex:=true);have s2:=a8i (k:=true) (ex:=true) (k2:=true) (Lr:=true) (PW hJ (n:=n-2) (f:=79) (Gh _ (by omega)) (show 0<[d,e].length by simp));have s3:=apL (n:=n-1) ht;have s4:=(ads (n:=n-2) ht).1;have s5:=(ads (n:=n-2) ht).2;rw[show n-2+2=n by omega]at s2 s4 s5;rw[show n-1+1=n by omega]at s3;show oq X0 Qp _ _ _ ((dQ (a2 Vz iA)).put (G8 q (eX (dU [d,e])))) _;unfold G8;by_cases h:eX (dU [d,e])=[]
    .rw[a0p h];exact ab5 Aw h1 e1 e2 e3 s1 s2 h
    .rw[a0o h];exact a8n Aw h1 e1 e2 e3 ht s1 s2 s3 s4 s5 (Bc _) h
   .exact aN Aw (.o h1 (.o h3 (.b e1 (.b e2 (.b e3 (rA _ rfl _))))))
  .exact aN Aw (.o h1 (.o h3 (.b e1 (.b e2 (rA _ rfl _)))))
 .exact aN Aw (.o h1 (.o h3 (.b e1 (rA _ rfl _))))
open Go Tw Pv dh
section
variable {n:Nat} {t:List (V×Int)} (h:JD t) (ht:t≠[])
theorem al3{k:Bool}:aW X0 Qp (bQ (n+1)) (.fn 96 [] []) [.map 0] [.map (kV.im t)] vF [.map (kV.im t),.cells [.map 0]]:=
 fO fV (first:=[]) (cap:=[]) .er
include h ht
theorem al4:aW X0 Qp (bQ (n+3)) (.fn 95 [] []) [vF] [.iE (kV.im t),.aC [.map 0]] (.slc 2 0 t.length t.length 1 false) [.iE (kV.im t),.aC [.map 0],.ng ((rQ t).map Lm)]:=by
 have h1:=aaV (n:=n) h ht;exact fO fV (first:=[]) (cap:=[]) (.k h1 .er)
omit ht in
theorem a8o:(rQ t).length=t.length:=by
 unfold rQ;rw[(qo _ _).length_eq,a4n]
theorem al5:aW X0 Qp (bQ (n+1)) (.fn 94 [] []) [.slc 0 0 t.length t.length 1 false] [.ng ((rQ t).map Lm)] (.int .i64 (PZ (rQ t))) [.ng ((rQ t).map Lm)]:=by
 have hl:=a8o h;have h0:rQ t≠[]:=fun e=>ht (a7v.1 (by rw[<-hl,e];rfl));have:=akG (n:=n) h0 (by rw[hl];exact h.len)
 rwa [hl]at this
end
end Go.Proofs.YtmobpoiejckagaaGreat
namespace Pv
open Go Tw
section
variable {X:kQ} {P:Program}
theorem aW.lend(hX:bM X P){call:aY}{f:FuncId}{cs ws rest xs:List (PV X.Γ)}{H:List (PB X.Γ)}{es:List (PV X.Γ×PV X.Γ)}(is:List Nat)(hs:aW X P call (.fn f [] []) (.agg (ws++rest)::xs) (aX is H) (.map H.length) (aX is H++[.map es]))
  (hv:views H cs=some ws) (ho:∀i,i∈kU.kD cs->i∈is) (hg:aX is H=List.replicate H.length .gone):aW X P call (.fn f [] []) (.agg (cs++rest)::xs) H (.map H.length) (H++[.map es]):=by
 intro A m h tf rW hr hf hx;obtain⟨x0,r,rfl,v0,vr⟩:=hx.inv;cases v0 with
 |gone hi _ _=>simp[bf]at hi
 |agg a1 a2=>
  rename_i cs';have ha:bU X P (AA A m) m h (cs++rest) cs':=⟨a1,a2⟩;obtain⟨c1,c2,rfl,b1,b2⟩:=Ej ha;have hF:=iq (h:=h) is m;have w1:=(lF (m':=bT is m) hX hr b1 hv ho).mono fun b hb=>FA.gone hr hb;have w2:=b2.step hF.1 hF.2;have w3:=w1.app w2;have Zu:=hr.aX is;obtain⟨w,h',TQ,m1,k1,k2,k3,k4,k5,k6⟩:=hs A (bT is m) h tf (.agg (c1++c2)::r) Zu (hf.step hF.1 hF.2) (.cons (.agg w3.1 w3.2) (vr.step hF.1 hF.2));have e0:∀b,b∉bn (bT is m):=fun b hb=>by
   unfold bn at hb;obtain⟨mb,h1,h2⟩:=a6m.1 hb;obtain⟨i,hi,e⟩:=a8W h1;have JV:i<H.length:=by have:=Zu.len;rw[nR]at this;omega
   obtain⟨mb2,g1,g2⟩:=Zu.at_ i .gone (by rw[hg,agd,a0p JV]);rw[a0f hi,e]at g1;cases g1;cases mb with
   |gone=>cases h2
   |_=>exact g2.elim
  obtain⟨mb,g1,g2⟩:=k2.at_ H.length (.map es) (by rw[a1c (by rw[nR];exact a1b _),nR];simp);cases mb with
  |fU c=>
   have hc:c∈bn m1:=a6m.2 ⟨_,a4u g1,rfl⟩;have JY:h.length<=c:=(k4.new c hc).resolve_left (e0 c);have xX:bn (m++[.fU c])=bn m++[c]:=by unfold bn;rw[List.filterMap_append];rfl
   have hF2:Fr m h (m++[.fU c]) h':=⟨k4.len,fun b hb _=>k4.same b hb (e0 b),fun b hb=>by
    rw[xX]at hb;rcases a3k.1 hb with hb|hb
    .exact .inl hb
    .rw[a2U.1 hb];exact .inr JY,k4.grow⟩
   have hU2:Up m (m++[.fU c]):=fun i mb hi=>.inl (by rw[a0j (a0c.1 hi).1];exact hi);have hm:(m++[MB.fU c])[H.length]? = some (.fU c):=by rw[<-hr.len];simp
   refine⟨w,h',TQ,m++[.fU c],k1,⟨by simp[hr.len],fun i b hi=>?_,?_,k2.up,fun b hb=>?_⟩,?_,hF2,hU2,fun b hb=>absurd (k6 b hb) (e0 b)⟩
   .by_cases aQ:i<H.length
    .rw[a0j aQ]at hi;obtain⟨mb,q1,q2⟩:=hr.at_ i b hi;exact⟨mb,by rw[a0j (by rw[hr.len];exact aQ)];exact q1,q2.step hF2 hU2 fun d hd=>k4.same d (BR.has q2 hd) (e0 d)⟩
    .have JV:i=H.length:=by
      have:=(a0c.1 hi).1;rw[a2j,a4f]at this;omega
     subst JV;rw[a1c (a1b _)]at hi;simp at hi;subst hi;exact⟨_,hm,g2⟩
   .rw[xX];refine a8P.2 ⟨hr.nodup,by simp,fun a ha b hb=>?_⟩;rw[a2U.1 hb];have:=hr.inb ha;omega
   .rw[xX]at hb;rcases a3k.1 hb with hb|hb
    .exact hr.CW b hb
    .rw[a2U.1 hb];exact k2.CW c hc
   .cases k3 with
    |map e=>rw[g1]at e;cases e;exact .map hm
    |gone hi e o=>simp only[bf,a05]at hi;subst hi;rw[g1]at e;cases e
  |_=>exact g2.elim
variable {A:Nat->Prop} {m m':List MB} {H:List (PB X.Γ)} {h:List HB}
theorem ab6(hX:bM X P){k:Bool}{t i:Nat}{l:List (X.Γ t)}{x:TV}(hl:LR X P (AA A m) m h k true t l x)(hi:m[i]? = some (.dB x)){is:List Nat}(hs:i∈is):VR X P (FA A m is) m' h (.dB t l true) x:=by
 cases hl with
 |nil=>exact .oM
 |emp h0 h1 h2 h3 h4=>exact .dB (.inl h0) h1 (fun e=>absurd rfl e) h3 h4 (by simpa using h2) (a1b _) (fun _=>⟨rfl,rfl⟩) (fun j a hj=>by simp at hj) (fun j a i c v hj=>by simp at hj)
 |some h1 h2 h3 h4 h5 h6 h7 h8 h9=>
  refine .dB (cs:=_) (.inr ⟨i,_,hs,hi,?_⟩) (by unfold aV;rw[h4]) (fun _=>wM h4 (by omega)) h2 h3 (by omega) (a1b _) (fun _=>⟨h7 rfl,rfl⟩) h9.1 ?_
  .simp only[MB.own];rw[a0o (by simpa using h1)]
  intro j a q c v e1 e2 e3;exact((h9.2.2 j a q c v e1 e2 e3).mono fun b hb=>.inl hb).jh hX (fB (hX.jh _ _) e2)
theorem aW.full(hX:bM X P){call:aY}{fv v:PV X.Γ}{xs:List (PV X.Γ)}{H H1:List (PB X.Γ)}{i t:Nat}{k:Bool}{l:List (X.Γ t)}(hk:H[i]? = some (.list k true t l))(hs:aW X P call fv (.dB t l true::xs) (aX [i] H) v H1):aW X P call fv (.own i::xs) H v H1:=by
 intro A m h tf rW hr hf hx;obtain⟨x0,r,rfl,v0,vr⟩:=hx.inv;obtain⟨mb,g1,g2⟩:=hr.at_ i _ hk;cases mb with
 |dB y=>
  have hy:x0=y:=by
   cases v0 with
   |own e _=>rw[g1]at e;cases e;rfl
   |gone hi e _=>simp only[bf,a05]at hi;subst hi;rw[g1]at e;cases e
  subst hy;have hF:=iq (h:=h) [i] m;have w1:VR X P (AA A (bT [i] m)) (bT [i] m) h (.dB t l true) x0:=(ab6 (m':=bT [i] m) hX g2 g1 (is:=[i]) (by simp)).mono fun b hb=>FA.gone hr hb;obtain⟨w,h',TQ,m1,k1,k2,k3,k4,k5,k6⟩:=hs A (bT [i] m) h tf (x0::r) (hr.aX [i]) (hf.step hF.1 hF.2) (.cons w1 (vr.step hF.1 hF.2));refine⟨w,h',TQ,m1,k1,k2,k3,hF.1.trans k4,hF.2.trans k5,fun b hb=>?_⟩;rcases hF.1.new b (k6 b hb)with g|g
  .exact g
  have:=(hr.aX [i]).inb (k6 b hb);omega
 |_=>exact g2.elim
end
end Pv
namespace Go.Proofs.YtmobpoiejckagaaGreat
open Go Tw Pv dh
abbrev lkC(no:Bool)(n:Int)(s:PV aF):List (PV aF):=[.int .u8 8,.bool no,.bool false,.int .i64 n,.int .i64 0,.int .i64 0,.bool false,s,.nil .slc]
abbrev wLk(l:List Dg)(d:Dg)(n:Int)(s:PV aF)(H:List (PB aF))(i:Int)(x:List (Nat×PE aF)):aS aF:=⟨[(3,.loc 0 0),(4,.loc 1 0),(31,.val (.dB 26 l true)),(32,xi l.length),(33,xi i)]++x,[d.ps,lkC false n s],H⟩
abbrev hLk(b:Int):List (PB aF):=[.list true true 3 ([b]:List Int)]
def al6(l:List Dg)(d:Dg)(i:Int)(x:List (Nat×PE aF)):Option (Int×Int)->aS aF
 |none=>wLk l d 0 (.nil .slc) [] i x
 |some (b,z)=>wLk l d z (.own 0) (hLk b) i x
def tLk(l:List Dg)(d:Dg)(k:Nat):List (V×Int):=eX (dU [l.getD k jX,d])
def mLk(l:List Dg)(d:Dg)(k:Nat):Int:=PZ (rQ (tLk l d k))
def gLk(l:List Dg)(d:Dg)(k:Nat)(s:Option (Int×Int)):Option (Int×Int)⊕(Option (Int×Int)×Nat):=
 if tLk l d k=[]then .inr (s,k)else match s with
  |none=>.inl (some ((k:Int),mLk l d k))
  |some (b,z)=>if decide (mLk l d k<z)=true then .inl (some ((k:Int),mLk l d k))else .inl (some (b,z))
def zLk(l:List Dg)(d:Dg):Option (Int×Int)⊕(Option (Int×Int)×Nat)->Ex×aS aF
 |.inl s=>(.exit 1,al6 l d l.length [(34,xl false)] s)
 |.inr (none,k)=>(.ret,⟨[(4,.loc 1 0),(5,xi 0)],[d.ps,lkC true 0 (.nil .slc),(l.getD k jX).ps],[]⟩)
 |.inr (some (b,z),k)=>(.ret,⟨[(4,.loc 1 0),(5,xi 0)],[d.ps,lkC true z (.own 0),(l.getD k jX).ps],hLk b⟩)
structure LkP(l:List Dg)(d:Dg):Prop where
 p:∀x∈l++[d],oZ x
 g:∀x∈l++[d],DgG x∧x.aA=((l++[d]).getD 0 jX).aA∧x.aG=((l++[d]).getD 0 jX).aG
theorem LkP.j{l:List Dg}{d:Dg}(h:LkP l d){k:Nat}(hk:k<l.length):jG (dU [l.getD k jX,d]):=by
 have h1:=h.g (l.getD k jX) (a5U _ (dS hk));have h2:=h.g d (abJ _ (a2U.2 rfl));exact adt (D:=[l.getD k jX,d]) (by simp) (by simp) (Yf (P:=fun x=>DgG x∧x.aA=(l.getD k jX).aA∧x.aG=(l.getD k jX).aG) ⟨h1.1,rfl,rfl⟩ ⟨h2.1,h2.2.1.trans h1.2.1.symm,h2.2.2.trans h1.2.2.symm⟩)
theorem lLk{n:Nat}(hn:24<=n)(hO:∀m,n-24<=m->Ok m qI){l:List Dg}{d:Dg}(h:LkP l d)(hl:l.length<=ah):Lp n 39 0 (wLk l d 0 (.nil .slc) [] 0 []) (zLk l d (kJ (gLk l d) l.length 0 none)).1 (zLk l d (kJ (gLk l d) l.length 0 none)).2:=by
 refine iV (st:=fun i s=>al6 l d i [] s) (g:=gLk l d) (out:=zLk l d) (s0:=none) (fun k s=>k=0↔s=none) (by kernel_rfl) hl (by simp) (fun k s m hk hi ih=>?_) (fun s _=>?_)
 .have hJ:=h.j hk;have ht:JD (tLk l d k):=TA hJ;have s1:=JF (n:=n) (f:=79) (by omega) (fun m hm=>hO m (by omega)) (D:=[l.getD k jX,d]) (by simp) hJ.bY.len (k:=true) (ex:=true);have s2:=a8i (k:=true) (ex:=true) (k2:=true) (Lr:=true) (PW hJ (n:=n-2) (f:=79) (hO _ (by omega)) (show 0<[l.getD k jX,d].length by simp));rw[show n-2+2=n by omega]at s2
  change aW _ _ _ _ _ _ _ [.gone,.gone,.map (kV.im (tLk l d k))]at s2
  unfold gLk;by_cases h0:tLk l d k=[]
  .rw[a0p h0];rw[h0]at s2;have hz:(((kV.im ([]:List (V×Int))).length:Int)==0)=true:=rfl;rcases s with _|⟨b,z⟩
   .exact aO fV (.b (bC hk) (.o (aH hk) (.fr [0] s1 (.fr [0,1] s2 (.b hz (.ouG [.gc []] nofun))))))
   exact aO fV (.b (bC hk) (.o (aH hk) (.fr [1] s1 (.fr [1,2] s2 (.b hz (.ouG [.gc [0]] nofun))))))
  rw[a0o h0];have hz:(((kV.im (tLk l d k)).length:Int)==0)=false:=by
   rw[kV.pJ];exact bne (by have:=aaQ.2 h0;omega)
  have s3:=al3 (n:=n-1) (t:=tLk l d k) (k:=true);have s4:=al4 (n:=n-3) ht h0;have s5:=al5 (n:=n-1) ht h0;rw[show n-1+1=n by omega]at s3 s5;rw[show n-3+3=n by omega]at s4;rcases s with _|⟨b,z⟩
  .have hk0:k=0:=hi.2 rfl;have hb:((k:Int)==0)=true:=by rw[hk0];rfl
   exact aO fV (.b (bC hk) (.o (aH hk) (.fr [0] s1 (.fr [0,1] s2 (.b hz (.fr [2] s3 (.Qm (H2:=[.map (kV.im (tLk l d k)),.cells [.map 0],.ng ((rQ (tLk l d k)).map Lm)]) [2,3] [0,1] s4 (.fr [4] s5 (.b hb (.nxG [.gc [5]] (ih _ (by simp))))))))))))
  have hk0:k≠0:=fun e=>by cases hi.1 e
  have hb:((k:Int)==0)=false:=bne (by omega);exact aO fV (.b (bC hk) (.o (aH hk) (.fr [1] s1 (.fr [1,2] s2 (.b hz (.fr [3] s3 (.Qm (H2:=[.map (kV.im (tLk l d k)),.cells [.map 0],.ng ((rQ (tLk l d k)).map Lm)]) [3,4] [0,1] s4 (.fr [5] s5 (.b hb (.ls (.nxG [.gc [6]] (ih _ (by simp))) (.nxG [.gc [0]] (ih _ (by simp)))))))))))))
 rcases s with _|⟨b,z⟩
 .exact aO fV (.b (fD l.length) (.ou nofun))
 exact aO fV (.b (fD l.length) (.ou nofun))
theorem ag2{n:Nat}{l:List Dg}:aW X0 Qp (bQ (n+1)) (.fn 93 [] []) [.dB 26 l true] [] (.dB 26 l true) []:=fO fV (first:=[]) (cap:=[]) (.o (rfl:((0:Nat):Int)=0) (.o (rfl:(l.length:Int)=(l.length:Int)) (.o (rfl:(l.length:Int)=(l.length:Int)) .er)))
def al7:Option (Int×Int)⊕(Option (Int×Int)×Nat)->An
 |.inl none=>⟨8,false,false,0,0,0,false,[]⟩
 |.inl (some (b,z))=>⟨8,false,false,z,0,0,false,[b]⟩
 |.inr (none,_)=>⟨8,true,false,0,0,0,false,[]⟩
 |.inr (some (b,z),_)=>⟨8,true,false,z,0,0,false,[b]⟩
def N7(p:List Dg×Dg):An×Int:=if decide ((p.1.length:Int)>4)=true then(An0,5)else if(bK (p.1++[p.2]) != 0)=true then(An0,bK (p.1++[p.2]))else if((p.1.length:Int)==0)=true then(An0,7)else(al7 (kJ (gLk p.1 p.2) p.1.length 0 none),0)
theorem ab7{n:Nat}(hn:24<=n)(Aw:Ok n a8m)(Gh:∀m,n-24<=m->Ok m qI){l:List Dg}{d:Dg}(h1:∀x∈l++[d],oZ x)(h2:l.length<=1000):oq X0 Qp (bQ (n+1)) 39 [.dB 26 l true,.agg d.ps] ((dQ (a2 Vz iA)).put (N7 (l,d))) []:=by
 have hl:l.length<=ah:=by unfold ah;omega
 have h3:0<(l++[d]).length∧(l++[d]).length<=ah:=by rw[a2j,a4f];unfold ah;omega
 have h4:l.length+[d].length<=ah:=by rw[a4f];unfold ah;omega
 have h5:l=[]∨[d]≠[]:=.inr (by simp);have s0:=ag2 (n:=n-1) (l:=l);rw[show n-1+1=n by omega]at s0;show oq X0 Qp _ _ _ ((dQ (a2 Vz iA)).put (if decide ((l.length:Int)>4)=true then(An0,5)else if(bK (l++[d]) != 0)=true then(An0,bK (l++[d]))else if((l.length:Int)==0)=true then(An0,7)else(al7 (kJ (gLk l d) l.length 0 none),0))) _;cases e1:decide ((l.length:Int)>4)
 .cases e2:(bK (l++[d]) != 0)
  .cases e3:((l.length:Int)==0)
   .have hk:LkP l d:=⟨h1,Vk h1 (by simpa using e2)⟩;have lp:=lLk (n:=n) hn Gh hk hl;revert lp;rcases kJ (gLk l d) l.length 0 none with(_|⟨b,z⟩)|⟨_|⟨b,z⟩,k⟩
    .intro lp;exact aN Aw (.b e1 (.fr [] s0 (.o h4 (.o h5 (.o h1 (.o h3 (.b e2 (.b e3 (.wG [.gc []] lp (rA ⟨8,false,false,0,0,0,false,[]⟩ rfl _))))))))))
    .intro lp;exact aN Aw (.b e1 (.fr [] s0 (.o h4 (.o h5 (.o h1 (.o h3 (.b e2 (.b e3 (.wG [.gc []] lp .rr)))))))))
    .intro lp;exact aN Aw (.b e1 (.fr [] s0 (.o h4 (.o h5 (.o h1 (.o h3 (.b e2 (.b e3 (.wG [.gc []] lp (rA ⟨8,true,false,0,0,0,false,[]⟩ rfl _))))))))))
    intro lp;exact aN Aw (.b e1 (.fr [] s0 (.o h4 (.o h5 (.o h1 (.o h3 (.b e2 (.b e3 (.wG [.gc []] lp .rr)))))))))
   exact aN Aw (.b e1 (.fr [] s0 (.o h4 (.o h5 (.o h1 (.o h3 (.b e2 (.b e3 (rA _ rfl _)))))))))
  exact aN Aw (.b e1 (.fr [] s0 (.o h4 (.o h5 (.o h1 (.o h3 (.b e2 (rA _ rfl _))))))))
 exact aN Aw (.b e1 (rA _ rfl _))
theorem al8{n:Nat}(hn:24<=n)(Aw:Ok n a8m)(Gh:∀m,n-24<=m->Ok m qI){k:Bool}{l:List Dg}{d:Dg}(h1:∀x∈l++[d],oZ x)(h2:l.length<=1000):aW X0 Qp (bQ (n+1)) (.fn 39 [] []) [.own 0,.agg d.ps] [.list k true 26 l] ((dQ (a2 Vz iA)).put (N7 (l,d))) [.gone]:=by
 have h:=oq.ZW hX (first:=[]) (cap:=[]) (xs:=[.dB 26 l true,.agg d.ps]) (ab7 hn Aw Gh h1 h2) rfl rfl rfl rfl;have h2:=aW.frame hX (ks:=[]) (H':=[.gone]) (Hp:=[]) (Q9:=[]) (v':=(dQ (a2 Vz iA)).put (N7 (l,d))) (fv':=.fn 39 [] []) (xs':=[.dB 26 l true,.agg d.ps]) h (by decide) rfl rfl rfl rfl rfl rfl rfl;exact aW.full hX (i:=0) (k:=k) (t:=26) (l:=l) rfl h2
open Go Tw Pv dh
def jg(d:Dg)(g:List Int):Jb:=⟨d.aA,d.aG,[d],g⟩
structure GOk(d:Dg)(g:List Int):Prop where
 len:g.length=d.aA.length
 v:∀c,gq c d.aA.length->0<=g.getD c.toNat 0->g.getD c.toNat 0<d.aA.getD c.toNat 0
theorem al9{d:Dg}(hJ:jG (dU [d])){g:List Int}(h:GOk d g):jG (jg d g):=⟨hJ.d3,hJ.bY,hJ.ord,fun k hk=>have h:=hJ.dg k hk;⟨h.t,h.n,h.s,h.o,h.rk,h.two⟩,h.len,h.v⟩
theorem GOk.set{d:Dg}{g:List Int}(h:GOk d g){c k:Nat}(hk:(k:Int)<d.aA.getD (c:Int).toNat 0):GOk d (g.set (c:Int).toNat (k:Int)):=by
 refine⟨by rw[a4v];exact h.len,fun c2 JY h2=>?_⟩;by_cases e:(c:Int).toNat=c2.toNat
 .obtain⟨q0,q1⟩:=JY;rw[<-e,a3l,a2l (by rw[h.len];omega)];exact hk
 rw[a3l,a1q e,<-a3l]at h2 ⊢;exact h.v c2 JY h2
theorem aq8{d:Dg}(hJ:jG (dU [d])):GOk d (dU [d]).g:=⟨hJ.gl,hJ.gv⟩
abbrev jcF(d:Dg):List (PV aF):=[lI d.aA,lI d.aG,.own 0,.own 1,.fn 79 [] []]
abbrev hF(d:Dg)(g:List Int):List (PB aF):=[.list true true 26 [d],.list true true 3 g]
abbrev wFo(d:Dg)(v:V)(g:List Int)(c:Int)(x:List (Nat×PE aF)):aS aF:=⟨[(3,.loc 1 0),(6,.loc 2 0),(29,xL 3 d.aA),(30,xi d.aA.length),(31,xi c)]++x,[d.ps,v.ps,jcF d],hF d g⟩
abbrev wFi(d:Dg)(v:V)(g:List Int)(c:Int)(i:Int)(x:List (Nat×PE aF)):aS aF:=⟨[(3,.loc 1 0),(6,.loc 2 0),(8,xi c),(29,xL 3 d.aA),(30,xi d.aA.length),(31,xi c),(36,xi (d.aA.getD c.toNat 0)),(37,xi i)]++x,[d.ps,v.ps,jcF d],hF d g⟩
theorem adv{n f:Nat}{J:Jb}{k ex k2 Lr:Bool}(h:aW X0 Qp (bQ n) (.fn 87 [] []) [.agg (J.ps (.fn f [] []))] [] (.map 0) [.map (kV.im (eX J))]):aW X0 Qp (bQ n) (.fn 87 [] []) [a8j J f 0 1] [.list k ex 26 J.D,.list k2 Lr 3 J.g] (.map 2) [.list k ex 26 J.D,.list k2 Lr 3 J.g,.map (kV.im (eX J))]:=by
 have h1:=aW.frame hX (ks:=[]) (H':=[.gone,.gone]) (Hp:=[]) (Q9:=[.map (kV.im (eX J))]) (v':=.map 2) (fv':=.fn 87 [] []) (xs':=[.agg (J.ps (.fn f [] []))]) h (by decide) rfl rfl rfl rfl rfl rfl rfl;exact aW.lend hX (H:=[.list k ex 26 J.D,.list k2 Lr 3 J.g]) (cs:=[lI J.s,lI J.o,.own 0,.own 1]) (rest:=[.fn f [] []]) [0,1] h1 rfl (fun i hi=>by simpa[kU.kD,kU]using hi) rfl
def lkF(d:Dg)(v:V)(g:List Int):Int:=look (eX (jg d g)) v
def gIn(d:Dg)(v:V)(c:Nat)(k:Nat)(g:List Int):List Int⊕(List Int×Nat):=if decide (lkF d v (g.set (c:Int).toNat (k:Int))>0)=true then .inr (g.set (c:Int).toNat (k:Int),k)else .inl (g.set (c:Int).toNat (k:Int))
def oIn:List Int⊕(List Int×Nat)->List Int
 |.inl g=>g
 |.inr r=>r.1
def nIn(d:Dg)(c:Nat):Nat:=(d.aA.getD (c:Int).toNat 0).toNat
def a3U(d:Dg)(v:V)(c:Nat)(g:List Int):List Int:=oIn (kJ (gIn d v c) (nIn d c) 0 g)
def zFi(d:Dg)(v:V)(c:Nat):List Int⊕(List Int×Nat)->Ex×aS aF
 |.inl g=>(.exit 3,wFi d v g (c:Int) (nIn d c) [(38,xl false)])
 |.inr (g,k)=>(.exit 2,wFi d v g (c:Int) k [(49,xl true)])
theorem a8r{d:Dg}{v:V}{c:Nat}:∀(m k:Nat) (g:List Int),k+m<=nIn d c->GOk d g->GOk d (oIn (kJ (gIn d v c) m k g))
 | 0,_,g,_,h=>h
 |m+1,k,g,hk,h=>by
  have h1:GOk d (g.set (c:Int).toNat (k:Int)):=h.set (by unfold nIn at hk;omega);simp only[kJ,gIn];by_cases e:decide (lkF d v (g.set (c:Int).toNat (k:Int))>0)=true
  .rw[a0p e];exact h1
  rw[a0o e];exact a8r m (k+1) _ (by omega) h1
section
variable {n:Nat} (hn:24<=n) (hO:∀ m,n-24<=m->Ok m qI) {d:Dg} (hJ:jG (dU [d])) {v:V}
include hn hO hJ
theorem lFi{c:Nat}(hc:c<d.aA.length){g:List Int}(hg:GOk d g):Lp n 28 1 (wFi d v g (c:Int) 0 []) (zFi d v c (kJ (gIn d v c) (nIn d c) 0 g)).1 (zFi d v c (kJ (gIn d v c) (nIn d c) 0 g)).2:=by
 have hz:=hJ.bY.sz (d.aA.getD (c:Int).toNat 0) (dn (show(c:Int).toNat<d.aA.length by simpa using hc));have hN:((nIn d c:Nat):Int)=d.aA.getD (c:Int).toNat 0:=by unfold nIn;omega
 refine iV (st:=fun i g=>wFi d v g (c:Int) i []) (g:=gIn d v c) (out:=zFi d v c) (s0:=g) (fun k g=>GOk d g) (by kernel_rfl) (by unfold ah;omega) hg (fun k g m hk hi ih=>?_) (fun g _=>?_)
 .have t1:decide ((k:Int)<d.aA.getD (c:Int).toNat 0)=true:=by rw[<-hN,a1Q];omega
  have hg2:GOk d (g.set (c:Int).toNat (k:Int)):=hi.set (by rw[<-hN];omega);have i1:gq (c:Int) g.length:=by rw[hi.len];exact aH hc
  have s2:=adv (k:=true) (ex:=true) (k2:=true) (Lr:=true) (PW (al9 hJ hg2) (n:=n-2) (f:=79) (hO _ (by omega)) (show 0<[d].length by simp));rw[show n-2+2=n by omega]at s2;unfold gIn lkF;rcases Io (Bc (jg d (g.set (c:Int).toNat (k:Int)))) v with hf|⟨hz2,hf⟩
  .exact aO fV (.b t1 (.o i1 (.fr [0,1] s2 (.c (.int .i64 (look (eX (jg d (g.set (c:Int).toNat (k:Int)))) v)) [] hf (.ls (.ouG [.gc [0,1]] nofun) (.nxG [.gc [0,1]] (ih _ hg2)))))))
  rw[hz2];exact aO fV (.b t1 (.o i1 (.fr [0,1] s2 (.a .calm (.o hf (.ls (.ouG [.gc [0,1]] nofun) (.nxG [.gc [0,1]] (ih _ hg2))))))))
 have t1:decide (((nIn d c:Nat):Int)<d.aA.getD (c:Int).toNat 0)=false:=by rw[<-hN];exact fD _
 exact aO fV (.b t1 (.ou nofun))
set_option maxRecDepth 20000 in
theorem lFo:Lp n 28 0 (wFo d v (dU [d]).g 0 []) (.exit 1) (wFo d v (aT (a3U d v) d.aA.length 0 (dU [d]).g) d.aA.length [(32,xl false)]):=by
 have hl:d.aA.length<=ah:=by have:d.aA.length<=6:=hJ.bY.len;unfold ah;omega
 refine KD (X:=X0) (N:=d.aA.length) (g:=a3U d v) (s0:=(dU [d]).g) (st:=fun c g=>wFo d v g c []) (fin:=fun g=>wFo d v g d.aA.length [(32,xl false)]) (fun _ g=>GOk d g) (by kernel_rfl) hl Qu (aq8 hJ) (fun c g hc hg=>a8r (nIn d c) 0 g (by omega) hg) (fun c g hc hg m e p g9=>?_) (fun g _=>?_)
 .have lp:=lFi hn hO hJ (v:=v) hc hg;unfold a3U at g9;revert lp g9;rcases kJ (gIn d v c) (nIn d c) 0 g with g1|⟨g1,k⟩
  .intro g9 lp;exact aO fV (.b (bC hc) (.o (aH hc) (.w lp (.go g9))))
  intro g9 lp;exact aO fV (.b (bC hc) (.o (aH hc) (.w lp (.go g9))))
 exact aO fV (.b (fD d.aA.length) .ex)
end
open Go Tw Pv dh
def Ip(p:Dg×V):List Int×Int:=if(bK [p.1] != 0)=true then([],bK [p.1])else if(oh p.2 != 0)=true then([],4)else if(look (eX (dU [p.1])) p.2==0)=true then([],7)else(aT (a3U p.1 p.2) p.1.aA.length 0 (dU [p.1]).g,0)
def ala:eY aF:=bZ 28 (a2 dA vA) (dQ (a2 rO iA)) Ip (fun p=>[oZ p.1]) a8m
theorem rF(e:Int):Fp (Γ:=X0.Γ) (Is (X:=X0) (P:=Qp) (dQ (a2 rO iA)) (([]:List Int),e)) .n (.ret (some (.dI [.nil .slc,.int .i64 e]))):=by
 have h:(dQ (a2 rO iA)).get (.dI [.nil .slc,.int .i64 e])=some (([]:List Int),e):=rfl;exact Fp.rn (X:=X0) (P:=Qp) _ h
theorem aqb:Gd ala:=Good.ad8 30 al2 KO adu fun n hn hO Gh hO3 p hp=>by
 obtain⟨d,v⟩:=p;have h1:oZ d:=hp _ (.head _);obtain⟨n,rfl⟩:∃k,n=k+1:=⟨n-1,by omega⟩;have Aw:=hO (n+1) (by omega);show oq X0 Qp _ _ _ ((dQ (a2 rO iA)).put (if(bK [d] != 0)=true then([],bK [d])else if(oh v != 0)=true then([],4)else if(look (eX (dU [d])) v==0)=true then([],7)else(aT (a3U d v) d.aA.length 0 (dU [d]).g,0))) _;cases e1:(bK [d] != 0)
 .cases e2:(oh v != 0)
  .have s1:=al0 (n:=n) (by omega) (hO3 n (by omega)) (fun m hm=>Gh m (by omega)) h1 e1 e2;have hJ:jG (dU [d]):=yK (D:=[d]) (by simp) (by simp) (a8k h1) (by simpa using e1);have s2:=adv (k:=true) (ex:=true) (k2:=true) (Lr:=true) (PW hJ (n:=n-1) (f:=79) (Gh _ (by omega)) (show 0<[d].length by simp));rw[show n-1+2=n+1 by omega]at s2;have lp:=lFo (n:=n+1) (by omega) (fun m hm=>Gh m (by omega)) hJ (v:=v);show oq X0 Qp _ _ _ ((dQ (a2 rO iA)).put (if(look (eX (dU [d])) v==0)=true then([],7)else(aT (a3U d v) d.aA.length 0 (dU [d]).g,0))) _;rcases Io (Bc (dU [d])) v with hf|⟨hz,hf⟩
   .exact aN Aw (.fr [] s1 (.b (rfl:((0:Int) != 0)=false) (.fr [0,1] s2 (.c (.int .i64 (look (eX (dU [d])) v)) [] hf (.ss (rF _) (.wG [.gc [0,1]] lp .rr))))))
   .rw[hz];exact aN Aw (.fr [] s1 (.b (rfl:((0:Int) != 0)=false) (.fr [0,1] s2 (.a .calm (.o hf (.ss (rF _) (.wG [.gc [0,1]] lp .rr)))))))
  .have s1:=akZ (n:=n) (v:=v) (hO3 n (by omega)) h1 e1 e2;exact aN Aw (.fr [] s1 (.b (rfl:((4:Int) != 0)=true) (rF _)))
 .have s1:=akY (n:=n) (v:=v) (hO3 n (by omega)) h1 e1;exact aN Aw (.fr [] s1 (.b e1 (rF _)))
end Go.Proofs.YtmobpoiejckagaaGreat
namespace Pv
open Go Tw
section
variable {X:kQ} {P:Program}
theorem aW.cell1(hX:bM X P){call:aY}{fv v:PV X.Γ}{RP ws1 cs WJ ws2:List (PV X.Γ)}{H H1:List (PB X.Γ)}{i e sz:Nat}{row:X.Γ e}(is:List Nat)(hi:H[i]? = some (.cells cs))(hz:dD P e=some sz)(h0:0<sz)(hl:cs.length=sz)(Zu:(X.enc e row).length=sz)
  (hs:aW X P call fv [.agg (ws1++(.dB e [row] false::ws2))] (aX (i::is) H) v H1) (v1:views H RP=some ws1) (v2:views H cs=some (X.enc e row)) (v3:views H WJ=some ws2)
  (o1:∀j,j∈kU.kD RP->j∈i::is) (o2:∀j,j∈kU.kD cs->j∈i::is) (o3:∀j,j∈kU.kD WJ->j∈i::is):aW X P call fv [.agg (RP++(.slc i 0 1 1 sz true::WJ))] H v H1:=by
 intro A m h tf rW hr hf hx;obtain⟨x0,r,rfl,v0,vr⟩:=hx.inv;cases v0 with
 |gone hi _ _=>simp[bf]at hi
 |agg a1 a2=>
  rename_i cs';have ha:bU X P (AA A m) m h (RP++(.slc i 0 1 1 sz true::WJ)) cs':=⟨a1,a2⟩;obtain⟨c1,c2,rfl,b1,b2⟩:=Ej ha;obtain⟨y,c3,rfl,b3,b4⟩:=b2.inv;obtain⟨mb,g1,g2⟩:=hr.at_ i _ hi;cases mb with
  |fU b=>
   obtain⟨ts,g3,g4⟩:=g2;have hy:y=.slc b 0 1 1 sz true:=by
    cases b3 with
    |slc q=>rw[g1]at q;cases q;rfl
    |gone hi q _=>simp only[bf,a05]at hi;subst hi;rw[g1]at q;cases q
   subst hy;have hF:=iq (h:=h) (i::is) m;have w1:=(lF (m':=bT (i::is) m) hX hr b1 v1 o1).mono fun b hb=>FA.gone hr hb;have w3:=(lF (m':=bT (i::is) m) hX hr b4 v3 o3).mono fun b hb=>FA.gone hr hb;have w2:=lF (m':=bT (i::is) m) hX hr g4 v2 o2;have hb:FA A m (i::is) b:=.inr ⟨i,_,a3m,g1,rfl⟩;have q2:VR X P (FA A m (i::is)) (bT (i::is) m) h (.dB e [row] false) (.slc b 0 [row].length 1 sz true):=.dB (cs:=ts) hb (by unfold aV;rw[g3]) (fun _=>wP g3 (by simp)) hz h0 (by rw[<-g4.1,hl];simp) (a1b _) (fun e=>by cases e)
    (fun j a hj=>by
     cases j with
     |zero=>simp only[a2V,a05]at hj;subst hj;exact Zu
     |succ j=>simp at hj) (fun j a q c w hj hq hw=>by
     cases j with
     |zero=>simp only[a2V,a05]at hj;subst hj;exact w2.2 q c w hq (by simpa using hw)
     |succ j=>simp at hj)
   have w4:=w1.app (.cons (q2.mono fun b hb=>FA.gone hr hb) w3);obtain⟨w,h',TQ,m1,k1,k2,k3,k4,k5,k6⟩:=hs A (bT (i::is) m) h tf (.agg (c1++(.slc b 0 1 1 sz true::c3))::r) (hr.aX (i::is)) (hf.step hF.1 hF.2) (.cons (.agg w4.1 w4.2) (vr.step hF.1 hF.2));refine⟨w,h',TQ,m1,k1,k2,k3,hF.1.trans k4,hF.2.trans k5,fun b hb=>?_⟩;rcases hF.1.new b (k6 b hb)with g|g
   .exact g
   .have:=(hr.aX (i::is)).inb (k6 b hb);omega
  |_=>exact g2.elim
end
end Pv
namespace Go.Proofs.YtmobpoiejckagaaGreat
open Go Tw Pv dh
abbrev dz:List (PV aF):=[.nil .slc,.nil .slc,.nil .slc,.nil .slc,.int .i64 0]
abbrev cCh(s o:List Int):List (PV aF):=[lI s,lI o,.own 1,.slc 0 0 1 1 2 true,.int .i64 0]
abbrev hCh(c:Int)(x:List V×List Int):List (PB aF):=[.cells [.int .i64 c,.own 2],.list false false 39 x.1,.list false false 3 x.2]
abbrev wCh(s o:List Int)(c w n:Int)(y:List V×List Int)(i:Int)(x:List (Nat×PE aF)):aS aF:=⟨[(3,xi w),(8,.loc 0 0),(11,.loc 1 0),(47,xi n),(48,xi i)]++x,[dz,cCh s o],hCh c y⟩
def gCh(w:Int)(i:Nat)(y:List V×List Int):List V×List Int:=(y.1++[⟨0,i64.wrap (w+(i:Int))⟩],y.2++[i64.wrap (-1-(i:Int))])
def chE(w:Int)(n:Nat):List V:=(List.range n).map fun(i:Nat)=>(⟨0,i64.wrap (w+(i:Int))⟩:V)
def chK(n:Nat):List Int:=(List.range n).map fun(i:Nat)=>i64.wrap (-1-(i:Int))
theorem Yj(w:Int):∀n,aT (gCh w) n 0 ([],[])=(chE w n,chK n)
 | 0=>rfl
 |n+1=>by
  rw[tJ,Yj w n,a4e];unfold gCh chE chK;rw[adx,a4j,a4j];rfl
theorem lCh{n:Nat}{s o:List Int}{c w:Int}{z:Nat}(hz:z<=12)(h0:s.getD c.toNat 0=(z:Int)):Lp n 57 0 (wCh s o c w (s.getD c.toNat 0) ([],[]) 0 []) (.exit 0) (wCh s o c w (s.getD c.toNat 0) (chE w z,chK z) z [(49,xl false)]):=by
 rw[<-Yj w z,h0];refine KD (X:=X0) (N:=z) (g:=gCh w) (s0:=([],[])) (st:=fun i y=>wCh s o c w (z:Int) y i []) (fin:=fun y=>wCh s o c w (z:Int) y z [(49,xl false)]) (fun k y=>y.1.length=k∧y.2.length=k) (by kernel_rfl) (by unfold ah;omega) Qu ⟨rfl,rfl⟩ (fun k y hk hi=>?_) (fun k y hk hi m e p g9=>?_) (fun y _=>?_)
 .unfold gCh;simp[hi.1,hi.2]
 .obtain⟨E,K⟩:=y;have a1:E.length+[(⟨0,i64.wrap (w+(k:Int))⟩:V)].length<=ah:=by rw[a4f];have:E.length=k:=hi.1;unfold ah;omega
  have a2:K.length+[i64.wrap (-1-(k:Int))].length<=ah:=by rw[a4f];have:K.length=k:=hi.2;unfold ah;omega
  exact aO fV (.b (bC hk) (.o a1 (.o a2 (.goG [.gc [0,4,6]] g9))))
 exact aO fV (.b (fD z) .ex)
def chD(s o:List Int)(c w:Int)(z:Nat):Dg:=⟨s,o,chE w z,[⟨c,chK z⟩],0⟩
theorem ab8{n:Nat}(hO:Ok n a7s){s o:List Int}{c:Int}{y:List V×List Int}(hd:let d:Dg:=⟨s,o,y.1,[⟨c,y.2⟩],0⟩;Ez d∧d.aA.length<=ah∧d.aG.length<=2^20∧d.aK.length<=ah∧(((bF d).2 != 0)=false->ClP (bF d).1)) :
  aW X0 Qp (bQ n) (.fn 108 [] []) [.agg (cCh s o)] (hCh c y) ((dQ (a2 dA iA)).put (zG ⟨s,o,y.1,[⟨c,y.2⟩],0⟩)) [.gone,.gone,.gone]:=by
 obtain⟨h1,h2,h3,h4,h5⟩:=hd;have k0:aW X0 Qp (bQ n) (.fn 108 [] []) [.agg (⟨s,o,y.1,[⟨c,y.2⟩],0⟩:Dg).ps] [] ((dQ (a2 dA iA)).put (zG ⟨s,o,y.1,[⟨c,y.2⟩],0⟩)) []:=oq.ZW hX (first:=[]) (cap:=[]) (hO 108 [.agg (⟨s,o,y.1,[⟨c,y.2⟩],0⟩:Dg).ps] ((dQ (a2 dA iA)).put (zG ⟨s,o,y.1,[⟨c,y.2⟩],0⟩)) [] _ (by kernel_rfl) (fun p h=>by
  rcases a2y.1 h with rfl|h
  .exact h1
  rcases a2y.1 h with rfl|h
  .exact h2
  rcases a2y.1 h with rfl|h
  .exact h3
  rcases a2y.1 h with rfl|h
  .exact h4
  rw[a2U.1 h];exact h5)) rfl rfl rfl rfl
 have k1:=aW.frame hX (ks:=[]) (H':=[.gone,.gone,.gone]) (Hp:=[]) (Q9:=[]) (v':=(dQ (a2 dA iA)).put (zG ⟨s,o,y.1,[⟨c,y.2⟩],0⟩)) (fv':=.fn 108 [] []) (xs':=[.agg (⟨s,o,y.1,[⟨c,y.2⟩],0⟩:Dg).ps]) k0 (by decide) rfl rfl rfl rfl rfl rfl rfl;exact aW.cell1 hX (H:=hCh c y) (RP:=[lI s,lI o,.own 1]) (ws1:=[lI s,lI o,lV y.1]) (cs:=[.int .i64 c,.own 2]) (WJ:=[.int .i64 0]) (ws2:=[.int .i64 0]) (i:=0) (e:=105) (sz:=2) (row:=(⟨c,y.2⟩:Br)) [1,2] rfl (by kernel_rfl) (by decide) rfl rfl k1 rfl rfl rfl (fun j hj=>by simp[kU.kD,kU]at hj ⊢;omega) (fun j hj=>by simp[kU.kD,kU]at hj ⊢;omega) (fun j hj=>by simp[kU.kD,kU]at hj)
open Go Tw Pv dh
theorem ab9(w:Int)(z:Nat):(chE w z).length=z:=by simp[chE]
theorem abb(z:Nat):(chK z).length=z:=by simp[chK]
structure ChP(s o:List Int)(c w:Int)(z:Nat):Prop where
 f:bW s o=0
 ic:gq c s.length
 ez:s.getD c.toNat 0=(z:Int)
 z12:z<=12
 w0:-9999<=w
 w1:w+z<=10000
section
variable {s o:List Int} {c w:Int} {z:Nat} (h:ChP s o c w z)
include h
theorem abd{v:V}(hv:v∈chE w z):∃j,j<z∧v=⟨0,w+(j:Int)⟩:=by
 unfold chE at hv;obtain⟨j,hj,rfl⟩:=a1l.1 hv;have:=a4s.1 hj;have:=h.w0;have:=h.w1;have:=h.z12;exact⟨j,by omega,by rw[wrap_small (by omega) (by omega)]⟩
theorem abe{k:Nat}(hk:k<z):(chK z).getD k 0=-1-(k:Int):=by
 have:=h.z12;unfold chK;rw[a3l,a4q,ade hk];show i64.wrap (-1-(k:Int))=_;rw[wrap_small (by omega) (by omega)]
theorem ag3:∀v∈chE w z,En v:=fun v hv=>by
 obtain⟨j,hj,rfl⟩:=abd h hv;have:=h.w0;have:=h.w1;exact oU.2 ⟨by show(0:Int)<=0;omega,by show(0:Int)<=4;omega,fun _=>⟨by show -9999<=w+(j:Int);omega,by show w+(j:Int)<=9999;omega⟩,fun hz=>absurd rfl hz⟩
theorem alb:Ez (chD s o c w z):=⟨fun i hi k hk=>by
 have:i=0:=by have:i<1:=hi;omega
 subst this;have hk3:k<z:=by rw[<-abb z];exact hk
 show FV ((chK z).getD k 0);rw[abe h hk3,<-wrap_small (z:=-1-(k:Int)) (by have:=h.z12;omega) (by omega)];exact PD _,by show FV 0;rw[<-wrap_small (z:=0) (by omega) (by omega)];exact PD _,fun v hv=>(ag3 h v hv).2⟩
theorem abf:Ez (chD s o c w z)∧(chD s o c w z).aA.length<=ah∧(chD s o c w z).aG.length<=2^20∧(chD s o c w z).aK.length<=ah∧(((bF (chD s o c w z)).2 != 0)=false->ClP (bF (chD s o c w z)).1):=by
 obtain⟨bY,ord⟩:=kN.1 h.f;have hr:=alb h;have h6:s.length<=6:=bY.len;have QW:o.length=s.length:=by unfold jV at ord;rw[a1Q]at ord;exact ord.1
 have hl:=ab9 w z;have hz:=h.z12;have e1:(chD s o c w z).aK.length+1<=ah:=by show(chE w z).length+1<=ah;rw[hl];unfold ah;omega
 have e2:(chD s o c w z).aA.length<=ah:=by show s.length<=ah;unfold ah;omega
 refine⟨hr,e2,by show o.length<=2^20;omega,by omega,fun h0=>?_⟩;obtain⟨q1,q2⟩:=wY hr e1 e2 (by show o.length<=ah;unfold ah;omega) (by simpa using h0);rw[q1];exact q2
end
def Q5(p:List Int×List Int×Int×Int):Dg×Int:=if(bW p.1 p.2.1 != 0)=true then(jX,bW p.1 p.2.1)else if(!(MZ 0 (i64.wrap ((p.1.length:Int)-1)) p.2.2.1))=true then(jX,3)else if(!(MZ (-9999) (i64.wrap (i64.wrap (9999-p.1.getD p.2.2.1.toNat 0)+1)) p.2.2.2))=true then(jX,3)else zG (chD p.1 p.2.1 p.2.2.1 p.2.2.2 (p.1.getD p.2.2.1.toNat 0).toNat)
theorem ag4{a b x:Int}(h:(!(MZ a b x))=false):a<=x∧x<=b:=by
 unfold MZ at h;by_cases h1:x>=a
 .simp[h1]at h;exact⟨h1,h⟩
 simp[h1]at h
theorem ag5{s o:List Int}{c w:Int}(e1:(bW s o != 0)=false)(hc:gq c s.length)(e3:(!(MZ (-9999) (i64.wrap (i64.wrap (9999-s.getD c.toNat 0)+1)) w))=false):ChP s o c w (s.getD c.toNat 0).toNat:=by
 have f:bW s o=0:=by simpa using e1
 obtain⟨bY,ord⟩:=kN.1 f;have hz:=bY.sz (s.getD c.toNat 0) (dn (show c.toNat<s.length by obtain⟨a,b⟩:=hc;omega));obtain⟨z0,z1⟩:=hz;obtain⟨w0,w1⟩:=ag4 e3;rw[wrap_small (z:=9999-s.getD c.toNat 0) (by omega) (by omega),wrap_small (by omega) (by omega)]at w1;exact⟨f,hc,by omega,by omega,w0,by omega⟩
def ag6:eY aF:=bZ 57 (a4 rO rO iA iA) (dQ (a2 dA iA)) Q5 (fun p=>[p.1.length<=ah,p.2.1.length<=2^20]) ala
theorem aqe:Gd ag6:=Good.X6 0 aqb adh fun n hn hO Gh p hp=>by
 obtain⟨s,o,c,w⟩:=p;have h1:s.length<=ah:=hp _ (.head _);have h2:o.length<=2^20:=hp _ (.tail _ (.head _));have hc:(!(MZ 0 (i64.wrap ((s.length:Int)-1)) c))=false->gq c s.length:=fun e2=>a8e e2 h1;have hP:=fun(e1:(bW s o != 0)=false) (e2:(!(MZ 0 (i64.wrap ((s.length:Int)-1)) c))=false) (e3:(!(MZ (-9999) (i64.wrap (i64.wrap (9999-s.getD c.toNat 0)+1)) w))=false)=>ag5 e1 (hc e2) e3;have lp:=fun(e1:(bW s o != 0)=false) (e2:(!(MZ 0 (i64.wrap ((s.length:Int)-1)) c))=false) (e3:(!(MZ (-9999) (i64.wrap (i64.wrap (9999-s.getD c.toNat 0)+1)) w))=false)=>lCh (n:=n) (s:=s) (o:=o) (c:=c) (w:=w) (hP e1 e2 e3).z12 (hP e1 e2 e3).ez;have s1:=fun(e1:(bW s o != 0)=false) (e2:(!(MZ 0 (i64.wrap ((s.length:Int)-1)) c))=false) (e3:(!(MZ (-9999) (i64.wrap (i64.wrap (9999-s.getD c.toNat 0)+1)) w))=false)=>ab8 (n:=n) (Gh n (by omega)) (s:=s) (o:=o) (c:=c) (y:=(chE w (s.getD c.toNat 0).toNat,chK (s.getD c.toNat 0).toNat)) (abf (hP e1 e2 e3));show oq X0 Qp _ _ _ ((dQ (a2 dA iA)).put (if(bW s o != 0)=true then(jX,bW s o)else if(!(MZ 0 (i64.wrap ((s.length:Int)-1)) c))=true then(jX,3)else if(!(MZ (-9999) (i64.wrap (i64.wrap (9999-s.getD c.toNat 0)+1)) w))=true then(jX,3)else zG (chD s o c w (s.getD c.toNat 0).toNat))) _;exact aN (hO n (by omega)) (.o h1 (.o h2 (.sh (fun _=>rE _) fun e1=>.sh (fun _=>rE _) fun e2=>.o (hc e2) (.sh (fun _=>rE _) fun e3=>.a (.Qm [] [] (.nil .slc) []) (.o (hc e2) (.wG [.a2L 1 2 39,.Ui 0 1 3] (lp e1 e2 e3) (.fr [0,1,2] (s1 e1 e2 e3) .rr)))))))
open Go Tw Pv dh
structure a3V(d:Dg):Prop where
 t:BH d
 n:d.aj.length<=6000
 l:bD d=0
 f:uS d.aA
 o:d.aG.length<=ah
 e:d.aK.length<=ah
def gLs(d:Dg)(k:Nat)(l:List V):List V:=l++[wW d (jT d.aA k)]
theorem ag7(d:Dg):aT (gLs d) (EY d.aA) 0 []=cellsD d:=by
 have:=dF (g:=gLs d) (m:=EY d.aA) (k:=0) (s:=[]) (fun k l=>l=(List.range k).map fun(k:Nat)=>wW d (jT d.aA k)) rfl (fun j l _ _ e=>by rw[gLs,e,adx,a4j];rfl);rw[a4e]at this;exact this
abbrev wLs(d:Dg)(y:List V)(i:Int)(x:List (Nat×PE aF)):aS aF:=⟨[(1,.loc 0 0),(3,.val (.own 0)),(4,xi i)]++x,[d.ps],[.list false false 39 y]⟩
theorem lLs{n:Nat}(hO:Ok n ag6)(d:Dg)(h:a3V d):OU n 44 0 0 (wLs d [] 0 []) (.exit 0) (wLs d (cellsD d) (EY d.aA) [(12,xl false)]):=by
 have hs:d.aA.length<=ah:=by have:=h.f.len;unfold ah;omega
 have hc:EY d.aA<=ah:=by have:=h.f.EY;have:=h.f.a6u;have:=h.f.many;unfold ah;omega
 rw[<-ag7 d];refine yu (σ:=List V) (N:=EY d.aA) (g:=gLs d) (s0:=[]) (st:=fun i y=>wLs d y i []) (fin:=fun y=>wLs d y (EY d.aA) [(12,xl false)]) (fun k y=>y.length=k) (by kernel_rfl) hc rfl (fun j y hj hy=>by simp[gLs,hy]) (fun j y hj hy m e p g9=>?_) (fun y _=>?_)
 .have h2:y.length+[wW d (jT d.aA j)].length<=ah:=by rw[hy,a4f];omega
  exact aO hO (.o hs (.b (h.f.lt hj) (.o hs (.o h.f.sz (.o (show(0:Int)<=(j:Int) by omega) (.o (show(j:Int)<2^62 by unfold ah at hc;omega) (.o h.t (.o h.n (.o (vX (j:Int) h.f.sz) (.o h2 (.goG [.gc [2]] g9)))))))))))
 exact aO hO (.o hs (.b h.f.no .ex))
def ald:eY aF:=bZ 44 (a1 dA) vsA cellsD (fun d=>[a3V d]) ag6
theorem aqf:Gd ald:=aqe.add fun n hO p hp=>by
 have h:a3V p:=hp _ (.head _);have hb:(bD p != 0)=false:=by rw[h.l];rfl
 exact aN hO (.o h.o (.o h.e (.b hb (.wG [.IY 3 39] (lLs (n:=n) hO p h) .rr))))
def ale:eY aF:=bZ 81 (a1 rO) rO (fun p=>p) (fun p=>[p.length<=ah]) ald
theorem aqg:Gd ale:=aqf.add fun n hO p hp=>aN hO (.o (hp _ (.head _)) .rr)
def alf:eY aF:=bZ 82 (a1 vsA) vsA (fun p=>p) (fun p=>[p.length<=ah]) ale
theorem aqh:Gd alf:=aqg.add fun n hO p hp=>aN hO (.o (hp _ (.head _)) .rr)
def ag8:eY aF:=bZ 48 (a1 iA) vA (fun p=>(⟨0,p⟩:V)) np alf
theorem aqi:Gd ag8:=aqh.add fun n hO p hp=>aN hO .rr
open Go Tw Pv dh
structure JG(d:Dg):Prop where
 s:d.aA.length<=ah
 o:d.aG.length<=ah
 e:d.aK.length<=ah
 n:d.aj.length<=ah
 k:∀b∈d.aj,b.ay.length<=ah
abbrev ag9(a b:Dg)(i:Int)(x:List (Nat×PE aF)):aS aF:=⟨[(2,.loc 0 0),(3,.loc 1 0),(5,xi i)]++x,[a.ps,b.ps],[]⟩
def a8u(a b:Dg)(k:Nat):Bool:=if((a.aj.getD k kM).var != (b.aj.getD k kM).var)=true then true else !(decide ((a.aj.getD k kM).ay=(b.aj.getD k kM).ay))
def aga(a b:Dg):Unit⊕Nat->Ex×aS aF
 |.inl _=>(.exit 0,ag9 a b a.aj.length [(48,xl false)])
 |.inr _=>(.ret,⟨[(4,xl false)],[a.ps,b.ps],[]⟩)
theorem alg{n:Nat}(hO:Ok n ag8){a b:Dg}(h:JG a)(hl:a.aj.length=b.aj.length):Lp n 72 0 (ag9 a b 0 []) (aga a b (bG (a8u a b) a.aj.length)).1 (aga a b (bG (a8u a b) a.aj.length)).2:=by
 refine iV (st:=fun i _=>ag9 a b i []) (g:=gS (a8u a b)) (out:=aga a b) (fun _ _=>True) (by kernel_rfl) h.n trivial (fun k u m hk _ ih=>?_) (fun _ _=>?_)
 .have i1:gq (k:Int) a.aj.length:=aH hk;have i2:gq (k:Int) b.aj.length:=aH (by omega);have h9:=h.k _ (dS (d:=kM) hk);unfold gS a8u;cases e1:((a.aj.getD k kM).var != (b.aj.getD k kM).var)
  .exact aO hO (.b (bC hk) (.o i1 (.o i2 (.b e1 (.o i1 (.o i2 (.o h9 (.ls (.ou nofun) (.nx (ih _ trivial))))))))))
  exact aO hO (.b (bC hk) (.o i1 (.o i2 (.b e1 (.ou nofun)))))
 exact aO hO (.b (fD a.aj.length) (.ou nofun))
def alh(a b:Dg):Bool:=if(!(decide (a.aA=b.aA)))=true then false else if(!(decide (a.aG=b.aG)))=true then false else if(!(decide (a.aK=b.aK)))=true then false else if((a.aj.length:Int) != (b.aj.length:Int))=true then false else if(a.root != b.root)=true then false else if jS (bG (a8u a b) a.aj.length)=true then true else false
def ali:eY aF:=bZ 72 (a2 dA dA) tA (fun p=>alh p.1 p.2) (fun p=>[JG p.1]) ag8
theorem aqj:Gd ali:=aqi.add fun n hO p hp=>aN hO (.o (show JG p.1 from hp _ (.head _)).s (.ss .rr (.o (show JG p.1 from hp _ (.head _)).o (.ss .rr (.o (show JG p.1 from hp _ (.head _)).e (.ss .rr (.sh (fun _=>.rr) fun h4=>.ss .rr (.zh (fun h=>.w (kG (alg hO (show JG p.1 from hp _ (.head _)) (show p.1.aj.length=p.2.aj.length by simp at h4;omega)) () h) .rr) fun h=>.w (kH (alg hO (show JG p.1 from hp _ (.head _)) (show p.1.aj.length=p.2.aj.length by simp at h4;omega)) 0 h) .rr))))))))
def alj:eY aF:=bZ 25 (a3 dA iA dA) tA (fun p=>(if(p.2.1==0)=true then alh p.1 p.2.2 else false)) (fun p=>[JG p.1]) ali
theorem aqk:Gd alj:=aqj.add fun n hO p hp=>aN hO (.ss (.o (hp _ (.head _)) .rr) .rr)
def Vo(s o:List Int):Bool:=if decide ((s.length:Int)>8)=true then false else if decide ((o.length:Int)>8)=true then false else if(bW s o != 0)=true then true else decide (EX s<=200)
def agb:eY aF:=bZ 54 (a2 rO rO) tA (fun p=>Vo p.1 p.2) np alj
theorem aql:Gd agb:=aqk.add fun n hO p hp=>aN hO (.sh (fun _=>.rr) fun h1=>.sh (fun _=>.rr) fun h2=>.o (show p.2.length<=ah by simp at h2;unfold ah;omega) (.ss .rr (.o (show p.1.length<=ah by simp at h1;unfold ah;omega) .rr)))
open Go Tw Pv dh
abbrev wCp(d:Dg)(acc:List Br)(i:Int)(x:List (Nat×PE aF)):aS aF:=⟨[(1,.loc 0 0),(2,.loc 1 0),(3,.loc 2 0),(4,xi i)]++x,[d.ps,[.nil .slc,.nil .slc,.nil .slc,.nil .slc,.int .i64 0],[lI d.aA,lI d.aG,lV d.aK,.own 0,.int .i64 d.root]],[.list false false 105 acc]⟩
theorem lCp{n:Nat}{d:Dg}(hO:Ok n agb)(h:JG d):Lp n 21 0 (wCp d [] 0 []) (.exit 0) (wCp d d.aj d.aj.length [(21,xl false)]):=by
 have e:aT (fun k (a:List Br)=>a++[d.aj.getD k kM]) d.aj.length 0 []=d.aj:=by
  rw[Xf,SA d.aj kM fun r=>r,List.map_id']
 rw[show wCp d d.aj d.aj.length [(21,xl false)]=wCp d (aT (fun k (a:List Br)=>a++[d.aj.getD k kM]) d.aj.length 0 []) d.aj.length [(21,xl false)] by rw[e]];refine yu (σ:=List Br) (N:=d.aj.length) (g:=fun k (a:List Br)=>a++[d.aj.getD k kM]) (s0:=([]:List Br)) (st:=fun i a=>wCp d a i []) (fin:=fun a=>wCp d a d.aj.length [(21,xl false)]) (fun k a=>a.length=k) (by kernel_rfl) h.n rfl (fun k a _ h=>by simp[h]) (fun k a hk ha m e p g9=>?_) (fun a _=>?_)
 .have hm:=h.k (d.aj.getD k kM) (dS hk);have hn:=h.n;have hal:a.length+[d.aj.getD k kM].length<=ah:=by have:a.length=k:=ha;rw[a4f];omega
  exact aO hO (.b (bC hk) (.o (aH hk) (.o (aH hk) (.o hm (.o hal (.goG [.gc [2]] g9))))))
 exact aO hO (.b (fD d.aj.length) .ex)
def agc:eY aF:=bZ 21 (a1 dA) dA (fun p=>p) (fun p=>[JG p]) agb
theorem aqn:Gd agc:=aql.add fun n hO p hp=>aN hO (.o (show JG p from hp _ (.head _)).s (.o (show JG p from hp _ (.head _)).o (.o (show JG p from hp _ (.head _)).e (.wG [.a2L 2 3 105] (lCp hO (hp _ (.head _))) .rr))))
abbrev wTh(d:Dg)(i:Int)(x:List (Nat×PE aF)):aS aF:=⟨[(1,.loc 0 0),(3,xi i)]++x,[d.ps],[]⟩
def cTh(d:Dg)(k:Nat):Bool:=decide (((d.aj.getD k kM).ay.length:Int)>14)
def zTh(d:Dg):Unit⊕Nat->Ex×aS aF
 |.inl _=>(.exit 0,wTh d d.aj.length [(26,xl false)])
 |.inr _=>(.ret,⟨[(2,xl false)],[d.ps],[]⟩)
theorem lTh{n:Nat}(hO:Ok n agc){d:Dg}(h:d.aj.length<=ah):Lp n 18 0 (wTh d 0 []) (zTh d (bG (cTh d) d.aj.length)).1 (zTh d (bG (cTh d) d.aj.length)).2:=by
 refine iV (st:=fun i _=>wTh d i []) (g:=gS (cTh d)) (out:=zTh d) (fun _ _=>True) (by kernel_rfl) h trivial (fun k u m hk _ ih=>?_) (fun _ _=>?_)
 .unfold gS cTh;exact aO hO (.b (bC hk) (.o (aH hk) (.ls (.ou nofun) (.nx (ih _ trivial)))))
 exact aO hO (.b (fD d.aj.length) (.ou nofun))
def DK(d:Dg):Bool:=if(!(Vo d.aA d.aG))=true then false else if decide ((d.aK.length:Int)>40)=true then false else if decide ((d.aj.length:Int)>60)=true then false else if jS (bG (cTh d) d.aj.length)=true then true else false
def alk:eY aF:=bZ 18 (a1 dA) tA (fun p=>DK p) np agc
theorem aqr:Gd alk:=aqn.add fun n hO p hp=>aN hO (.ss .rr (.ss .rr (.sh (fun _=>.rr) fun h3=>.zh (fun h=>.w (kG (lTh hO (show p.aj.length<=ah by simp at h3;unfold ah;omega)) () h) .rr) fun h=>.w (kH (lTh hO (show p.aj.length<=ah by simp at h3;unfold ah;omega)) 0 h) .rr)))
theorem DL{d:Dg}(h:DK d=true):JG d∧d.aA.length<=8∧d.aG.length<=8∧d.aK.length<=40∧d.aj.length<=60:=by
 unfold DK at h;split at h
 .cases h
 rename_i h1;split at h
 .cases h
 rename_i h2;split at h
 .cases h
 rename_i h3;split at h
 .rename_i h4;have h1:Vo d.aA d.aG=true:=by simpa using h1
  unfold Vo at h1;split at h1
  .cases h1
  rename_i q1;split at h1
  .cases h1
  rename_i q2;simp at h2 h3 q1 q2;refine⟨⟨by unfold ah;omega,by unfold ah;omega,by unfold ah;omega,by unfold ah;omega,fun b hb=>?_⟩,by omega,by omega,by omega,by omega⟩;obtain⟨k,hk,e⟩:=a8W hb;have:=dK.1 h4 k hk;unfold cTh at this;rw[a3l,a0f hk,a5e,e]at this;simp at this;unfold ah;omega
 cases h
open Go Tw Pv dh
def dX:Dg:=⟨[2,3],[0,1],[⟨0,1⟩,⟨0,2⟩],[⟨0,[-1,-2]⟩],0⟩
def dY:Dg:=⟨[2,3],[0,1],[⟨0,0⟩,⟨0,1⟩,⟨0,2⟩],[⟨1,[-1,-2,-3]⟩],0⟩
def cL(l:List Int):List V:=l.map fun n=>⟨0,n⟩
theorem a3W:Q5 ([2,3],[0,1],0,1)=(dX,0):=by kernel_rfl
def dIf:Dg:=(Ye (dY,dX,dY)).1
theorem alm:(Ye (dY,dX,dY)).2=0∧lU dIf=0∧cellsD dIf=cL [0,1,1,0,2,2]:=⟨by kernel_rfl,by kernel_rfl,by kernel_rfl⟩
def dRs:Dg:=(KQ (dY,1,2)).1
theorem agf:(KQ (dY,1,2)).2=0∧lU dRs=0∧cellsD dRs=cL [2,2,2,2,2,2]:=⟨by kernel_rfl,by kernel_rfl,by kernel_rfl⟩
def dWh:Dg:=(zM dY).1
theorem a8v:(zM dY).2=0∧lU dWh=0∧cellsD dWh=cL [0,1,0,0,1,0]:=⟨by kernel_rfl,by kernel_rfl,by kernel_rfl⟩
theorem abg:Vm (dY,⟨0,2⟩)=(2,0):=by kernel_rfl
theorem a8w:Ip (dX,⟨0,2⟩)=([1,0],0):=by kernel_rfl
def G9:Dg:=(nD (10,dX,dY)).1
theorem agh:(nD (10,dX,dY)).2=0:=by kernel_rfl
def dLe:Dg:=(nD (14,dX,dY)).1
theorem aln:(nD (14,dX,dY)).2=0:=by kernel_rfl
theorem abh:N7 ([dX,dY],dLe)=(⟨8,false,false,2,0,0,false,[0]⟩,0):=by kernel_rfl
def Vp:List (V×Int):=eX (dU [G9,dX])
theorem alo:lY Vp=[0,1]:=by
 have e:((Vp.filter fun e=>!decide (e.1.f>0)).map fun e=>e.1.n)=[0,1]:=by kernel_rfl
 unfold lY;rw[e];unfold gV;exact List.mergeSort_of_pairwise (by simp)
theorem agj:a2c (4,G9,dX)=(⟨4,false,false,0,0,1,true,[]⟩,0):=by
 have e1:bK [G9,dX]=0:=by kernel_rfl
 have e2:uI Vp=true:=by kernel_rfl
 have e3:Vp≠[]:=by
  intro h;have h2:Vp.length=0:=by rw[h];rfl
  have h3:Vp.length=3:=by kernel_rfl
  omega
 show(if(bK [G9,dX] != 0)=true then(An0,bK [G9,dX])else G8 4 Vp)=_;rw[e1];show G8 4 Vp=_;unfold G8;rw[a0o e3];show(if lY Vp=[]then _ else _)=_;rw[alo,e2];rfl
open Go Tw Pv dh
def agk:eY aF:=bZ 73 aeC (dQ (a2 dA dA)) (fun p=>(dX,dY)) np alk
theorem aqs:Gd agk:=aqr.add fun n hO p hp=>aN hO .rr
abbrev anP(a:An):List (PV aF):=[.int .u8 a.q,.bool a.none,.bool a.yes,.int .i64 a.n,.int .i64 a.lo,.int .i64 a.hi,.bool a.fault,lI a.set,.nil .slc]
abbrev wSa(a b:An)(i:Int)(x:List (Nat×PE aF)):aS aF:=⟨[(2,.loc 0 0),(3,.loc 1 0),(5,xi i)]++x,[anP a,anP b],[]⟩
theorem lSa{n:Nat}(hO:Ok n agk){a b:An}:Lp n 35 0 (wSa a b 0 []) (.exit 0) (wSa a b 0 [(74,xl false)]):=by
 have:=KD (X:=X0) (P:=Qp) (T:=T) (L:=LL) (call:=bQ n) (f:=35) (gW:=false) (nt:=BM Qp 35) (B:=0) (b:=RZ Qp 35 0) (σ:=Unit) (N:=0) (g:=fun _ s=>s) (s0:=()) (st:=fun i _=>wSa a b i []) (fin:=fun _=>wSa a b 0 [(74,xl false)]) (w:=wSa a b 0 []) (e:=.exit 0) (fun _ _=>True) (by kernel_rfl) (a4K _) Qu trivial (fun _ _ _ _=>trivial) (fun k s hk=>absurd hk (Nat.not_lt_zero _)) (fun s _=>aO hO (.b (rfl:decide ((0:Int)<0)=false) .ex));exact this
def abj(a b:An):Bool:=if(a.q != b.q)=true then false else if(!(a.none==b.none))=true then false else if(!(a.yes==b.yes))=true then false else if(a.n != b.n)=true then false else if(a.lo != b.lo)=true then false else if(a.hi != b.hi)=true then false else if(!(a.fault==b.fault))=true then false else if(!(decide (a.set=b.set)))=true then false else true
def agl:eY aF:=bZ 35 (a2 Vz Vz) tA (fun p=>abj p.1 p.2) (fun p=>[p.1.set.length<=ah]) agk
theorem aqt:Gd agl:=aqs.add fun n hO p hp=>aN hO (.ss .rr (.ss .rr (.ss .rr (.ss .rr (.ss .rr (.ss .rr (.ss .rr (.o (hp _ (.head _)) (.ss .rr (.b (rfl:((0:Int) != 0)=false) (.w (lSa (a:=p.1) (b:=p.2) hO) .rr)))))))))))
open Go Tw Pv dh
theorem Iq{d:Dg}(ho:d.aG.length<=ah)(he:d.aK.length<=ah)(h:(lU d==0)=true):a3V d:=by
 have h:lU d=0:=by simpa using h
 have h0:bD d=0:=by
  unfold lU at h;split at h
  .rename_i c;rw[h]at c;cases c
  rename_i c;simpa using c
 obtain⟨t,n⟩:=iW ho he (by rw[h0];rfl);exact⟨t,n,h0,t.bY,ho,he⟩
abbrev wLz(d:Dg)(e:Int)(l:List Int)(acc:List V)(i:Int)(x:List (Nat×PE aF)):aS aF:=⟨[(1,xi e),(2,xL 3 l),(3,.loc 0 0),(7,.val (.own 0)),(8,xi i)]++x,[d.ps],[.list false false 39 acc]⟩
theorem lLz{n:Nat}(hO:Ok n agl)(d:Dg)(e:Int){l:List Int}(hl:l.length<=1000):Lp n 74 0 (wLz d e l [] 0 []) (.exit 0) (wLz d e l (cL l) l.length [(12,xl false)]):=by
 have e1:aT (fun k (a:List V)=>a++[(⟨0,l.getD k 0⟩:V)]) l.length 0 []=cL l:=by
  rw[Xf,SA l 0 fun r=>(⟨0,r⟩:V)];rfl
 rw[<-e1];refine yu (σ:=List V) (N:=l.length) (g:=fun k (a:List V)=>a++[(⟨0,l.getD k 0⟩:V)]) (s0:=([]:List V)) (st:=fun i a=>wLz d e l a i []) (fin:=fun a=>wLz d e l a l.length [(12,xl false)]) (fun k a=>a.length=k) (by kernel_rfl) (by unfold ah;omega) rfl (fun k a _ h=>by simp[h]) (fun k a hk ha m e p g9=>?_) (fun a _=>?_)
 .have hal:a.length+[(⟨0,l.getD k 0⟩:V)].length<=ah:=by have:a.length=k:=ha;rw[a4f];unfold ah;omega
  exact aO hO (.b (bC hk) (.o (aH hk) (.o hal (.goG [.gc [2]] g9))))
 exact aO hO (.b (fD l.length) .ex)
def alq(p:Dg×Int×List Int):Bool:=if(p.2.1==0)=true then(if(lU p.1==0)=true then decide (cellsD p.1=cL p.2.2)else false)else false
def abk:eY aF:=bZ 74 (a3 dA iA rO) tA (fun p=>alq p) (fun p=>[p.1.aG.length<=ah,p.1.aK.length<=ah,p.2.2.length<=1000,(cellsD p.1).length<=ah]) agl
theorem aqu:Gd abk:=aqt.add fun n hO p hp=>aN hO (.wG [.IY 7 39] (lLz hO p.1 p.2.1 (hp _ (.tail _ (.tail _ (.head _))))) (.ss (.o (hp _ (.head _)) (.o (hp _ (.tail _ (.head _))) (.sh (fun h=>.o (Iq (hp _ (.head _)) (hp _ (.tail _ (.head _))) h) (.o (hp _ (.tail _ (.tail _ (.tail _ (.head _))))) .rr)) (fun _=>.rr)))) .rr))
open Go Tw Pv dh
theorem Vq{d:Dg}(h:((d.aj.all fun n=>n.ay.all fun k=>decide (-1000<=k)&&decide (k<=1000))&&(decide (-1000<=d.root)&&decide (d.root<=1000))&&(d.aK.all fun v=>decide (0<=v.f))&&(decide (d.aA.length<=100)&&decide (d.aG.length<=100)&&decide (d.aK.length<=100)))=true):oZ d:=by
 simp only[a2o,a1Q,a4A]at h;obtain⟨⟨⟨h1,h2⟩,h3⟩,⟨h4,h5⟩,h6⟩:=h;refine⟨⟨fun i hi k hk=>?_,?_,h3⟩,by unfold ah;omega,by omega,by unfold ah;omega⟩
 .have h7:=h1 _ (dS (d:=(⟨0,[]⟩:Br)) hi) _ (dS (d:=(0:Int)) hk);show FV ((fA d i).ay.getD k 0);unfold FV;have h8:((d.aj.getD i ⟨0,[]⟩).ay.getD k 0)=(fA d i).ay.getD k 0:=rfl;rw[h8]at h7;omega
 unfold FV;omega
theorem pX:oZ dX:=Vq (by kernel_rfl)
theorem pY:oZ dY:=Vq (by kernel_rfl)
theorem a8x:oZ G9:=Vq (by kernel_rfl)
theorem pLe:oZ dLe:=Vq (by kernel_rfl)
abbrev dvA(d:Dg):PV aF:=(dQ (a2 dA iA)).put (d,0)
theorem agm:(dRs,(0:Int))=KQ (dY,1,2):=aby rfl agf.1.symm
theorem a8y:(dWh,(0:Int))=zM dY:=aby rfl a8v.1.symm
theorem agn:(G9,(0:Int))=nD (10,dX,dY):=aby rfl agh.symm
theorem als:(dLe,(0:Int))=nD (14,dX,dY):=aby rfl aln.symm
section
variable {n:Nat} (hO:Ok n abk)
include hO
theorem alu:aW X0 Qp (bQ n) (.fn 73 [] []) [] [] ((dQ (a2 dA dA)).put (dX,dY)) []:=
 rH hX hO (f:=73) (first:=[]) (xs:=[]) (cap:=[]) (vs:=[]) (v:=(dQ (a2 dA dA)).put (dX,dY)) (H:=[]) (ps:=[]) rfl (by kernel_rfl) (fun _ h=>by cases h) rfl
theorem abl{j k:Bool}:aW X0 Qp (bQ n) (.fn 57 [] []) [.own 0,.own 1,.int .i64 0,.int .i64 1] [.list j k 3 ([2,3]:List Int),.list j k 3 ([0,1]:List Int)] (dvA dX) [.gone,.gone]:=by
 unfold dvA;rw[<-a3W];exact rH hX hO (f:=57) (first:=[]) (xs:=[.own 0,.own 1,.int .i64 0,.int .i64 1]) (cap:=[]) (vs:=[.dB 3 ([2,3]:List Int) false,.dB 3 ([0,1]:List Int) false,.int .i64 0,.int .i64 1]) (v:=(dQ (a2 dA iA)).put (Q5 ([2,3],[0,1],0,1))) (H:=[.list j k 3 ([2,3]:List Int),.list j k 3 ([0,1]:List Int)]) (ps:=[([2,3]:List Int).length<=ah,([0,1]:List Int).length<=2^20]) rfl (by kernel_rfl) (by simp[ah]) rfl
theorem aIf:aW X0 Qp (bQ n) (.fn 63 [] []) [.agg dY.ps,.agg dX.ps,.agg dY.ps] [] (dvA dIf) []:=by
 have e:(dIf,(0:Int))=Ye (dY,dX,dY):=aby rfl alm.1.symm;unfold dvA;rw[e];exact rH hX hO (f:=63) (first:=[]) (cap:=[]) (vs:=[.agg dY.ps,.agg dX.ps,.agg dY.ps]) (v:=(dQ (a2 dA iA)).put (Ye (dY,dX,dY))) (H:=[]) (ps:=[oZ dY,oZ dX,oZ dY]) rfl (by kernel_rfl) (by simp[pX,pY]) rfl
theorem aqv:aW X0 Qp (bQ n) (.fn 20 [] []) [.agg dY.ps,.int .i64 1,.int .i64 2] [] (dvA dRs) []:=by
 rw[show(dvA dRs:PV aF)=((dQ (a2 dA iA)).put (KQ (dY,1,2)))from by rw[<-agm]];exact rH hX hO (f:=20) (first:=[]) (xs:=[.agg dY.ps,.int .i64 1,.int .i64 2]) (cap:=[]) (vs:=[.agg dY.ps,.int .i64 1,.int .i64 2]) (v:=((dQ (a2 dA iA)).put (KQ (dY,1,2)))) (H:=[]) (ps:=[oZ dY]) rfl (by kernel_rfl) (by simp[pX,pY,a8x,pLe]) rfl
theorem agp:aW X0 Qp (bQ n) (.fn 67 [] []) [.agg dY.ps] [] (dvA dWh) []:=by
 rw[show(dvA dWh:PV aF)=((dQ (a2 dA iA)).put (zM dY))from by rw[<-a8y]];exact rH hX hO (f:=67) (first:=[]) (xs:=[.agg dY.ps]) (cap:=[]) (vs:=[.agg dY.ps]) (v:=((dQ (a2 dA iA)).put (zM dY))) (H:=[]) (ps:=[oZ dY]) rfl (by kernel_rfl) (by simp[pX,pY,a8x,pLe]) rfl
theorem alv:aW X0 Qp (bQ n) (.fn 27 [] []) [.agg dY.ps,.agg (⟨0,2⟩:V).ps] [] ((dQ (a2 iA iA)).put (2,0)) []:=by
 rw[show((dQ (a2 iA iA)).put (2,0):PV aF)=((dQ (a2 iA iA)).put (Vm (dY,⟨0,2⟩)))from by rw[abg]];exact MJ hX hO (f:=27) (first:=[]) (xs:=[.agg dY.ps,.agg (⟨0,2⟩:V).ps]) (cap:=[]) (vs:=[.agg dY.ps,.agg (⟨0,2⟩:V).ps]) (v:=((dQ (a2 iA iA)).put (Vm (dY,⟨0,2⟩)))) (H:=[]) (ps:=[oZ dY]) rfl (by kernel_rfl) (by simp[pY]) rfl
theorem agq:aW X0 Qp (bQ n) (.fn 28 [] []) [.agg dX.ps,.agg (⟨0,2⟩:V).ps] [] ((dQ (a2 rO iA)).put ([1,0],0)) []:=by
 rw[show((dQ (a2 rO iA)).put ([1,0],0):PV aF)=((dQ (a2 rO iA)).put (Ip (dX,⟨0,2⟩)))from by rw[a8w]];exact rH hX hO (f:=28) (first:=[]) (xs:=[.agg dX.ps,.agg (⟨0,2⟩:V).ps]) (cap:=[]) (vs:=[.agg dX.ps,.agg (⟨0,2⟩:V).ps]) (v:=((dQ (a2 rO iA)).put (Ip (dX,⟨0,2⟩)))) (H:=[]) (ps:=[oZ dX]) rfl (by kernel_rfl) (by simp[pX]) rfl
theorem aqw:aW X0 Qp (bQ n) (.fn 62 [] []) [.int .u8 10,.agg dX.ps,.agg dY.ps] [] (dvA G9) []:=by
 rw[show(dvA G9:PV aF)=((dQ (a2 dA iA)).put (nD (10,dX,dY)))from by rw[<-agn]];exact rH hX hO (f:=62) (first:=[]) (xs:=[.int .u8 10,.agg dX.ps,.agg dY.ps]) (cap:=[]) (vs:=[.int .u8 10,.agg dX.ps,.agg dY.ps]) (v:=((dQ (a2 dA iA)).put (nD (10,dX,dY)))) (H:=[]) (ps:=[oZ dX,oZ dY]) rfl (by kernel_rfl) (by simp[pX,pY,a8x,pLe]) rfl
theorem aLe:aW X0 Qp (bQ n) (.fn 62 [] []) [.int .u8 14,.agg dX.ps,.agg dY.ps] [] (dvA dLe) []:=by
 rw[show(dvA dLe:PV aF)=((dQ (a2 dA iA)).put (nD (14,dX,dY)))from by rw[<-als]];exact rH hX hO (f:=62) (first:=[]) (xs:=[.int .u8 14,.agg dX.ps,.agg dY.ps]) (cap:=[]) (vs:=[.int .u8 14,.agg dX.ps,.agg dY.ps]) (v:=((dQ (a2 dA iA)).put (nD (14,dX,dY)))) (H:=[]) (ps:=[oZ dX,oZ dY]) rfl (by kernel_rfl) (by simp[pX,pY,a8x,pLe]) rfl
abbrev a8z:An:=⟨4,false,false,0,0,1,true,[]⟩
abbrev adz:An:=⟨8,false,false,2,0,0,false,[0]⟩
theorem aqx:aW X0 Qp (bQ n) (.fn 33 [] []) [.int .u8 4,.agg G9.ps,.agg dX.ps] [] ((dQ (a2 Vz iA)).put (a8z,0)) []:=by
 rw[show((dQ (a2 Vz iA)).put (a8z,0):PV aF)=((dQ (a2 Vz iA)).put (a2c (4,G9,dX)))from by rw[agj]];exact rH hX hO (f:=33) (first:=[]) (xs:=[.int .u8 4,.agg G9.ps,.agg dX.ps]) (cap:=[]) (vs:=[.int .u8 4,.agg G9.ps,.agg dX.ps]) (v:=((dQ (a2 Vz iA)).put (a2c (4,G9,dX)))) (H:=[]) (ps:=[oZ G9,oZ dX]) rfl (by kernel_rfl) (by simp[a8x,pX]) rfl
end
open Go Tw Pv dh
theorem alx{n:Nat}(hn:24<=n)(Aw:Ok n a8m)(Gh:∀m,n-24<=m->Ok m qI){k:Bool}:aW X0 Qp (bQ (n+1)) (.fn 39 [] []) [.own 0,.agg dLe.ps] [.list k true 26 [dX,dY]] ((dQ (a2 Vz iA)).put (adz,0)) [.gone]:=by
 rw[<-abh];exact al8 (l:=[dX,dY]) (d:=dLe) hn Aw Gh (fun x h=>by
  rcases a2y.1 h with rfl|h
  .exact pX
  rcases a2y.1 h with rfl|h
  .exact pY
  rw[a2U.1 h];exact pLe) (by show 2<=1000;omega)
theorem aly{n:Nat}(hO:Ok n abk):aW X0 Qp (bQ n) (.fn 48 [] []) [.int .i64 2] [] (.agg (⟨0,2⟩:V).ps) []:=
 MJ hX hO (f:=48) (first:=[]) (xs:=[.int .i64 2]) (cap:=[]) (vs:=[.int .i64 2]) (v:=.agg (⟨0,2⟩:V).ps) (H:=[]) (ps:=[]) rfl (by kernel_rfl) (fun _ h=>by cases h) rfl
theorem TB{a b:Nat}(h:Nat.ble a b=true):a<=b:=agE h
theorem aqy:JG dX:=⟨TB (by kernel_rfl),TB (by kernel_rfl),TB (by kernel_rfl),TB (by kernel_rfl),fun b h=>by rw[a2U.1 h];exact TB (by kernel_rfl)⟩
def alz:eY aF:=bZ 19 aeC tA (fun _=>true) np abk
theorem aqz:Gd alz:=Good.ad8 25 aqu al2 KO fun n hn hO Gh hO3 p hp=>by
 obtain⟨m,rfl⟩:∃m,n=m+1:=⟨n-1,by omega⟩;have FT:=hO (m+1) (by omega);exact aN FT (.fr [] (alu FT) (.fr [0,1] (abl FT (j:=true) (k:=true)) (.fr [] (aIf FT) (.fr [] (aqv FT) (.fr [] (agp FT) (.fr [] (aly FT) (.fr [] (alv FT) (.fr [] (aly FT) (.fr [] (agq FT) (.fr [] (aqw FT) (.fr [] (aqx FT) (.fr [] (aLe FT) (.fr [2] (alx (k:=true) (by omega) (Gh m (by omega)) (fun k hk=>hO3 k (by omega))) (.o aqy (.b (c:=true) (t:=true) rfl (.o (TB (by kernel_rfl):dIf.aG.length<=ah) (.o (TB (by kernel_rfl):dIf.aK.length<=ah) (.o (TB (by kernel_rfl):([0,0,0,0,0,0]:List Int).length<=1000) (.o (TB (by kernel_rfl):(cellsD dIf).length<=ah) (.b (c:=true) (t:=true) rfl (.o (TB (by kernel_rfl):dRs.aG.length<=ah) (.o (TB (by kernel_rfl):dRs.aK.length<=ah) (.o (TB (by kernel_rfl):([0,0,0,0,0,0]:List Int).length<=1000) (.o (TB (by kernel_rfl):(cellsD dRs).length<=ah) (.b (c:=true) (t:=true) rfl (.o (TB (by kernel_rfl):dWh.aG.length<=ah) (.o (TB (by kernel_rfl):dWh.aK.length<=ah) (.o (TB (by kernel_rfl):([0,0,0,0,0,0]:List Int).length<=1000) (.o (TB (by kernel_rfl):(cellsD dWh).length<=ah) (.b (c:=true) (t:=true) rfl (.b (c:=true) (t:=true) rfl (.b (c:=true) (t:=true) rfl (.b (c:=true) (t:=true) rfl (.o (TB (by kernel_rfl):([1,0]:List Int).length<=ah) (.b (c:=true) (t:=true) rfl (.b (c:=true) (t:=true) rfl (.b (c:=true) (t:=true) rfl (.o (TB (by kernel_rfl):a8z.set.length<=ah) (.b (c:=true) (t:=true) rfl (.b (c:=true) (t:=true) rfl (.b (c:=true) (t:=true) rfl (.o (TB (by kernel_rfl):adz.set.length<=ah) .rr))))))))))))))))))))))))))))))))))))))))))
open Go Tw Pv dh
theorem aqA:En V0:=⟨by decide,by decide⟩
theorem Vr{l:List V}(h:∀v∈l,En v)(i:Nat):En (l.getD i V0):=by
 by_cases c:i<l.length
 .exact h _ (dS c)
 rw[a3l,a4h (by omega)];exact aqA
theorem Yk{d:Dg}(h:∀v∈d.aK,En v):∀v∈cellsD d,En v:=fun v hv=>by
 obtain⟨k,_,rfl⟩:=a1l.1 hv;exact Vr h _
theorem tX(d:Dg):(cellsD d).length=EY d.aA:=by simp[cellsD]
theorem agr{d:Dg}(h:lU d=0)(ho:d.aG.length<=ah)(he:d.aK.length<=ah):JG d:=by
 have l:=Iq ho he (by rw[h];rfl);have h6:=l.f.len;have n6:=l.n;refine⟨by unfold ah;omega,ho,he,by unfold ah;omega,fun b hb=>?_⟩;obtain⟨i,hi,rfl⟩:=a8W hb;have:=l.t.Jj i hi;have e:fA d i=d.aj[i]:=by show d.aj.getD i kM=_;rw[a3l,a0f hi,a5e]
 rw[e]at this;unfold ah;omega
structure DgF(d:Dg):Prop where
 r:Ez d
 k:lU d=0
 f:JG d
 e:d.aK.length<=2000
 o:d.aG.length=d.aA.length
 s:uS d.aA
theorem ags{s o:List Int}{l:List V}(h:OfP s o l)(hv:∀v∈l,En v):DgF (qy s o l):=by
 obtain⟨h1,h2,_⟩:=FY h fun v m=>(hv v m).1;obtain⟨r,k⟩:=aay h (fun v m=>(hv v m).1) fun v m=>(hv v m).2;have ho:=h.p.2.2;have h6:=h.bY.len;exact⟨r,k,agr k (by show o.length<=ah;unfold ah;omega) (by unfold ah;omega),h2,ho,h.bY⟩
theorem alA{J:Jb}(hJ:jG J){op:List V->V}(jf:pq J op):DgF (uU J op):=by
 rw[(Ie hJ jf).2];exact ags ⟨hJ.bY,hJ.ord,by rw[tX];show((EY J.s:Nat):Int)=_;exact hJ.bY.a6v⟩ (Yk (vZ hJ jf).2.2)
theorem a8A{d:Dg}(h:DK d=true)(r:Ez d):oZ d:=by
 obtain⟨f,h1,h2,h3,_⟩:=DL h;exact⟨r,f.s,by omega,by unfold ah;omega⟩
open Go Tw Pv dh
def Q7(p:Dg×Dg):Bool:=if decide (p.1.aA=p.2.aA)=true then decide (p.1.aG=p.2.aG)else false
def abm:eY aF:=bZ 70 (a2 dA dA) tA (fun p=>Q7 p) (fun p=>[p.1.aA.length<=ah,p.1.aG.length<=ah]) alz
theorem aqB:Gd abm:=aqz.add fun n hO p hp=>aN hO (.o (hp _ (.head _)) (.ss (.o (hp _ (.tail _ (.head _))) .rr) .rr))
theorem a8B(a b:Dg):Q7 (a,b)=Dw (a.aA,a.aG) b:=by
 unfold Q7 Dw;rw[a4H];by_cases h:a.aA=b.aA
 .by_cases h2:a.aG=b.aG
  .simp[h,h2]
  simp only[h,decide_true,a2w,a1Q];exact⟨fun e=>absurd e h2,fun e=>absurd e.symm h2⟩
 have h3:¬b.aA=a.aA:=fun e=>h e.symm;simp[h,h3]
abbrev wCa(l:List Dg)(i:Int)(x:List (Nat×PE aF)):aS aF:=⟨[(0,xL 26 l),(3,xi i)]++x,[],[]⟩
abbrev wCb(l:List Dg)(i:Int)(x:List (Nat×PE aF)):aS aF:=⟨[(0,xL 26 l),(5,xi i)]++x,[],[]⟩
def Yl(l:List Dg)(k:Nat):Bool:=lU (l.getD k jX) != 0
def cA2(l:List Dg)(k:Nat):Bool:=!(Q7 (l.getD 0 jX,l.getD k jX))
def zA1(l:List Dg):Unit⊕Nat->Ex×aS aF
 |.inl _=>(.exit 0,wCa l l.length [(9,xl false)])
 |.inr k=>(.ret,⟨[(2,xi (lU (l.getD k jX)))],[],[]⟩)
def zA2(l:List Dg):Unit⊕Nat->Ex×aS aF
 |.inl _=>(.exit 2,wCb l l.length [(23,xl false)])
 |.inr _=>(.ret,⟨[(2,xi 2)],[],[]⟩)
theorem lA1{n:Nat}(hO:Ok n abm){l:List Dg}(hf:∀d∈l,JG d)(hl:l.length<=ah):Lp n 34 0 (wCa l 0 []) (zA1 l (bG (Yl l) l.length)).1 (zA1 l (bG (Yl l) l.length)).2:=by
 refine iV (st:=fun i _=>wCa l i []) (g:=gS (Yl l)) (out:=zA1 l) (fun _ _=>True) (by kernel_rfl) hl trivial (fun k u m hk _ ih=>?_) (fun _ _=>?_)
 .have h:=hf _ (dS (d:=jX) hk);unfold gS Yl;exact aO hO (.b (bC hk) (.o (aH hk) (.o h.o (.o h.e (.ls (.ou nofun) (.nx (ih _ trivial)))))))
 exact aO hO (.b (fD l.length) (.ou nofun))
theorem lA2{n:Nat}(hO:Ok n abm){l:List Dg}(hf:∀d∈l,JG d)(h0:0<l.length)(hl:l.length<=ah):Lp n 34 1 (wCb l 1 []) (zA2 l (kJ (gS (cA2 l)) (l.length-1) 1 ())).1 (zA2 l (kJ (gS (cA2 l)) (l.length-1) 1 ())).2:=by
 refine a1p (a:=1) (st:=fun i _=>wCb l i []) (g:=gS (cA2 l)) (out:=zA2 l) (fun _ _=>True) (by kernel_rfl) h0 hl trivial (fun k u m hk0 hk _ ih=>?_) (fun _ _=>?_)
 .have h:=hf _ (dS (d:=jX) h0);unfold gS cA2;exact aO hO (.b (bC hk) (.o (aH h0) (.o (aH hk) (.o h.s (.o h.o (.ls (.ou nofun) (.nx (ih _ trivial))))))))
 exact aO hO (.b (fD l.length) (.ou nofun))
def JH(l:List Dg):Int:=match bG (Yl l) l.length with
 |.inr k=>lU (l.getD k jX)
 |.inl _=>match kJ (gS (cA2 l)) (l.length-1) 1 ()with
  |.inr _=>2
  |.inl _=>0
def alB:eY aF:=bZ 34 (a1 ait) iA JH (fun l=>[∀d∈l,JG d,0<l.length∧l.length<=ah]) abm
theorem aqG:Gd alB:=aqB.add fun n hO l hp=>by
 have hf:∀d∈l,JG d:=hp _ (.head _);obtain⟨h0,hl⟩:0<l.length∧l.length<=ah:=hp _ (.tail _ (.head _));have lp:=lA1 hO hf hl;have lp2:=lA2 hO hf h0 hl;show oq X0 Qp _ _ _ (iA.put (match bG (Yl l) l.length with
  |.inr k=>lU (l.getD k jX)
  |.inl _=>match kJ (gS (cA2 l)) (l.length-1) 1 ()with
   |.inr _=>2
   |.inl _=>0)) _
 revert lp lp2;rcases bG (Yl l) l.length with _|k
 .rcases kJ (gS (cA2 l)) (l.length-1) 1 ()with _|j
  .intro lp lp2;exact aN hO (.w lp (.w lp2 .rr))
  .intro lp lp2;exact aN hO (.w lp (.w lp2 .rr))
 .intro lp lp2;exact aN hO (.w lp .rr)
theorem abn{l:List Dg}(hp:∀d∈l,oZ d)(h0:0<l.length):JH l=bK l:=by
 have hd:l.getD 0 jX∈l:=dS h0;have ec:∀k,k<l.length->(vP (l.getD k jX)).2=lU (l.getD k jX):=fun k hk=>by
  have h:=hp _ (dS (d:=jX) hk);rw[XE h.r h.s (by have:=h.o;unfold ah;omega) h.e]
 have eb:∀k,k<l.length->cCk l k=Yl l k:=fun k hk=>by unfold cCk Yl;rw[ec k hk]
 unfold JH bK;cases e1:jS (bG (cCk l) l.length)
 .obtain⟨j,hj,h1,h2,h3⟩:=Ed e1;have e2:jS (bG (Yl l) l.length)=false:=by
   cases e:jS (bG (Yl l) l.length)
   .rfl
   have:=dK.1 e j hj;rw[<-eb j hj,h1]at this;cases this
  obtain⟨i,hi,g1,g2,g3⟩:=Ed e2;have:i=j:=by
   by_cases c:i<j
   .have:=h2 i c;rw[eb i hi,g1]at this;cases this
   by_cases c2:j<i
   .have:=g2 j c2;rw[<-eb j hj,h1]at this;cases this
   omega
  subst this;rw[g3,h3,a0o (by simp)];exact(ec i hi).symm
 have h1:=dK.1 e1;have e2:jS (bG (Yl l) l.length)=true:=dK.2 fun j hj=>by rw[<-eb j hj];exact h1 j hj
 rw[a0p rfl];rcases e3:bG (Yl l) l.length with u|k
 rotate_left
 .rw[e3]at e2;cases e2
 show(match kJ (gS (cA2 l)) (l.length-1) 1 ()with
  |.inr _=>(2:Int)
  |.inl _=>0)=_
 have hs:Dw ((l.getD 0 jX).aA,(l.getD 0 jX).aG) (l.getD 0 jX)=true:=by simp[Dw]
 rcases e4:kJ (gS (cA2 l)) (l.length-1) 1 ()with u|j
 .have h2:=(Hz (r:=fun k=>k) (c:=cA2 l) (m:=l.length-1) (k:=1)).1 (by unfold gS at e4;rw[e4];rfl);rw[a0o];rw[adH,abD,a4A];intro d Zx;obtain⟨k,hk,rfl⟩:=a8W Zx;have ek:l[k]=l.getD k jX:=by rw[a3l,a0f hk,a5e]
  rw[ek];by_cases c:k=0
  .subst c;exact hs
  have:=h2 k (by omega) (by omega);unfold cA2 at this;rw[a8B]at this;simpa using this
 have h2:=Xc (r:=fun k=>k) (c:=cA2 l) (m:=l.length-1) (k:=1) (by unfold gS at e4;rw[e4];rfl);obtain⟨i,hi1,JV,h3,_⟩:=h2;rw[a0p];rw[a8t,List.all_eq_false];unfold cA2 at h3;rw[a8B]at h3;exact⟨l.getD i jX,dS (by omega),by simpa using h3⟩
open Go Tw Pv dh
def Ym(p:Dg×Dg):Bool:=if DK p.1=true then(if DK p.2=true then(JH [p.1,p.2]==0)else false)else false
theorem abo(a b:Dg):0<[a,b].length∧[a,b].length<=ah:=⟨by simp,by show 2<=ah;unfold ah;omega⟩
def alC:eY aF:=bZ 42 (a2 dA dA) tA (fun p=>Ym p) np alB
theorem aqH:Gd alC:=aqG.add fun n hO p hp=>aN hO (.sh (fun h1=>.sh (fun h2=>.o (Yf (DL h1).1 (DL h2).1) (.o (abo p.1 p.2) .rr)) fun _=>.rr) fun _=>.rr)
open Go Tw Pv dh
theorem KR{a b c:V}(ha:En a)(hb:En b)(hc:En c):(iw a b c).2=0:=by
 unfold iw;rw[a0o (by rw[a2W (oU.1 ha) (oU.1 hb) (oU.1 hc)];simp)]
 repeat' split
 all_goals rfl
theorem Yn{k:Int}{a b:V}(h:sD k=true)(ha:En a)(hb:En b):(jc k a b).2=0:=by
 have h9:7<=k∧k<=16:=by simpa[sD]using h
 have e2:¬(!(gG [a,b]))=true:=by rw[aip (oU.1 ha) (oU.1 hb)];simp
 unfold jc;rw[a0p h];rcases nine h9 with rfl|rfl|rfl|rfl|rfl|rfl|rfl|rfl|rfl|rfl
 .show(nZ a b).2=0;unfold nZ;rw[a0o e2];split<;>rfl
 .show(o7 a b).2=0;unfold o7;rw[a0o e2];split<;>rfl
 .show(o8 a b).2=0;unfold o8;rw[a0o e2];split<;>rfl
 .show(lH a b).2=0;unfold lH;rw[a0o e2];split<;>rfl
 .show(lJ a b).2=0;unfold lJ;rw[a0o e2];split<;>rfl
 .show(lK a b).2=0;unfold lK;rw[a0o e2];split<;>rfl
 .show(lM a b).2=0;unfold lM;rw[a0o e2];split<;>rfl
 .show(lN a b).2=0;unfold lN;rw[a0o e2];split<;>rfl
 .show(iw a b (mV 0)).2=0;exact KR ha hb ⟨by kernel_rfl,by decide⟩
 show(iw a (mV 1) b).2=0;exact KR ha ⟨by kernel_rfl,by decide⟩ hb
theorem abp{s q:List Int}(hq:jM s q=true):ov (List.replicate s.length (-1)) q=q:=by
 have hl:=uH hq;refine(oP (d:=(0:Int)) (by simp[ov,adW,hl])).2 fun k hk=>?_;have kC:k<s.length:=by simp[ov,adW,hl]at hk;exact hk
 rw[Ju (by rw[a8s,hl]),a0p (by rw[a8s];exact kC),a0o];rw[a3l,agd,a0p kC];decide
theorem a3Y{D:List Dg}{op:List V->V}(hJ:jG (dU D)):Dz (dU D) op=(List.range (EY (D.getD 0 jX).aA)).map fun(k:Nat)=>op (D.map fun d=>wW d (jT (D.getD 0 jX).aA k)):=by
 unfold Dz;refine a4P fun k _=>?_;have h:ov (dU D).g (jT (dU D).s k)=jT (D.getD 0 jX).aA k:=abp (vX _ hJ.bY.sz);rw[h];rfl
theorem a3Z{J:Jb}(hJ:jG J){op:List V->V}(jf:pq J op):∀v∈Dz J op,En v:=by
 rw[<-Tc hJ jf];exact Yk (vZ hJ jf).2.2
theorem a8C{J:Jb}(hJ:jG J){op:List V->V}(jf:pq J op):cellsD (uU J op)=Dz J op:=by
 rw[mk_eq hJ jf];exact Py ⟨hJ.bY,hJ.ord,by unfold Dz;rw[a4n,a8I];exact hJ.bY.a6v⟩ fun v m=>(a3Z hJ jf v m).1
theorem alD{a b:Dg}(ha:oZ a)(hb:oZ b)(h:bK [a,b]=0){c:Int}(hc:sD c=true):jG (dU [a,b])∧pq (dU [a,b]) (Ls c):=by
 have h1:=Yf (P:=oZ) ha hb;have hJ:=yK (D:=[a,b]) (by simp) (by simp) h1 h;exact⟨hJ,Il hJ (Jb.inD h1 h) fun l hl hv=>(a2b hc (hv _ (dS (show 0<l.length by rw[hl];exact Nat.zero_lt_two))) (hv _ (dS (show 1<l.length by rw[hl];exact Nat.one_lt_two)))).1⟩
theorem abq{a b:Dg}(h:bK [a,b]=0){c:Int}(hc:sD c=true):nD (c,a,b)=(uU (dU [a,b]) (Ls c),0):=by
 show(if(bK [a,b] != 0)=true then(jX,bK [a,b])else if((jc c jY jY).2 != 0)=true then(jX,(jc c jY jY).2)else(uU (dU [a,b]) (Ls c),0))=_;rw[h,Yn hc Vl Vl,a0o (by simp),a0o (by simp)]
open Go Tw Pv dh
theorem a8D{J:Jb}(hJ:jG J){op:List V->V}(jf:pq J op):(uU J op).aA=J.s∧(uU J op).aG=J.o:=by
 rw[mk_eq hJ jf];exact⟨rfl,rfl⟩
theorem a8E{a d:Dg}(h1:a.aA=d.aA)(h2:a.aG=d.aG):Q7 (a,d)=true:=by simp[Q7,h1,h2]
def agt:eY aF:=bZ 43 (a3 uA dA dA) (dQ (a2 dA tA)) (fun p=>(uU (dU [p.2.1,p.2.2]) (Ls p.1),true)) (fun p=>[JG p.2.1∧JG p.2.2,oZ p.2.1∧oZ p.2.2,bK [p.2.1,p.2.2]=0,sD p.1=true]) alC
theorem aqI:Gd agt:=aqH.add fun n hO p hp=>by
 obtain⟨c,a,b⟩:=p;obtain⟨fa,fb⟩:JG a∧JG b:=hp _ (.head _);obtain⟨pa,pb⟩:oZ a∧oZ b:=hp _ (.tail _ (.head _));have hk:bK [a,b]=0:=hp _ (.tail _ (.tail _ (.head _)));have hc:sD c=true:=hp _ (.tail _ (.tail _ (.tail _ (.head _))));have q:=abq hk hc;obtain⟨hJ,hj⟩:=alD pa pb hk hc;have hD:=alA hJ hj;obtain⟨m1,m2⟩:=a8D hJ hj;have t1:((nD (c,a,b)).2==0)=true:=by rw[q];rfl
 have t2:(nD (c,a,b)).1.aG.length<=ah:=by rw[q];exact hD.f.o
 have t3:(nD (c,a,b)).1.aK.length<=ah:=by rw[q];exact hD.f.e
 have t4:(lU (nD (c,a,b)).1==0)=true:=by rw[q];show(lU (uU (dU [a,b]) (Ls c))==0)=true;rw[hD.k];rfl
 exact aN hO (.o fa (.o fb (.o pa (.o pb (.b t1 (.o t2 (.o t3 (.b t4 (.o fa.s (.o fa.o (.v ((nD (c,a,b)).1,Q7 (a,(nD (c,a,b)).1)) (by rw[q];exact aby rfl (a8E m1.symm m2.symm)))))))))))))
theorem a4a{l:List Dg}(h:JH l=0):∀d∈l,lU d=0:=by
 have e:jS (bG (Yl l) l.length)=true:=by
  cases e:jS (bG (Yl l) l.length)
  .obtain⟨j,hj,h1,_,h3⟩:=Ed e;unfold JH at h;rw[h3]at h;have h:lU (l.getD j jX)=0:=h;unfold Yl at h1;rw[h]at h1;cases h1
  rfl
 intro d hd;obtain⟨k,hk,rfl⟩:=a8W hd;have:=dK.1 e k hk;unfold Yl at this;rw[a3l,a0f hk,a5e]at this;simpa using this
theorem YZ{a b:Dg}(h:Ym (a,b)=true)(ra:Ez a)(rb:Ez b):(JG a∧JG b)∧(oZ a∧oZ b)∧bK [a,b]=0∧(a3V a∧a3V b)∧a.aA=b.aA∧a.aG=b.aG∧lU a=0∧lU b=0:=by
 unfold Ym at h;split at h
 .rename_i h1;split at h
  .rename_i h2;have h1:DK a=true:=h1;have h2:DK b=true:=h2;have fa:=(DL h1).1;have fb:=(DL h2).1;have pa:=a8A h1 ra;have pb:=a8A h2 rb;have hk:bK [a,b]=0:=by
    rw[<-abn (Yf pa pb) (by simp)];simpa using h
   have hg:=Vk (Yf (P:=oZ) pa pb) hk;obtain⟨ga,_,_⟩:=hg a (by simp);obtain⟨gb,e1,e2⟩:=hg b (by simp);have hd:=a4a (l:=[a,b]) (by simpa using h);exact⟨⟨fa,fb⟩,⟨pa,pb⟩,hk,⟨Iq fa.o fa.e (by rw[hd a (by simp)];rfl),Iq fb.o fb.e (by rw[hd b (by simp)];rfl)⟩,e1.symm,e2.symm,hd a (by simp),hd b (by simp)⟩
  cases h
 cases h
open Go Tw Pv dh
abbrev wEa(c:Int)(x y z:List V)(i:Int)(e:List (Nat×PE aF))(loc:List (List (PV aF))):aS aF:=⟨[(7,xu c),(10,xL 39 x),(11,xL 39 y),(12,xL 39 z),(13,xi i)]++e,loc,[]⟩
theorem lEa{n:Nat}(hO:Ok n agt){a b d:Dg}{c:Int}{x y z:List V}(hl:x.length<=ah)(hy:y.length=x.length)(hz:z.length=x.length)(hk:∀k,k<x.length->jc c (x.getD k V0) (y.getD k V0)=(z.getD k V0,0)):Lp n 7 0 (wEa c x y z 0 [] [a.ps,b.ps,d.ps]) (.exit 0) (wEa c x y z x.length [(42,xl false)] []):=by
 refine KD (X:=X0) (N:=x.length) (g:=fun _ (u:Unit)=>u) (s0:=()) (st:=fun i _=>wEa c x y z i [] []) (fin:=fun _=>wEa c x y z x.length [(42,xl false)] []) (fun _ _=>True) (by kernel_rfl) hl Qu trivial (fun _ _ _ _=>trivial) (fun k _ kC _ m e p g9=>?_) (fun _ _=>?_)
 .have t1:((jc c (x.getD k V0) (y.getD k V0)).2 != 0)=false:=by rw[hk k kC];rfl
  have t2:(!(decide ((jc c (x.getD k V0) (y.getD k V0)).1=z.getD k V0)))=false:=by rw[hk k kC];simp
  exact aO hO (.b (bC kC) (.o (aH kC) (.o (aH (by omega:k<y.length)) (.b t1 (.o (aH (by omega:k<z.length)) (.q (.bool (!(decide ((jc c (x.getD k V0) (y.getD k V0)).1=z.getD k V0)))) (neV (.tmp 61) (.tmp 65) (jc c (x.getD k V0) (y.getD k V0)).1 (z.getD k V0)) (.b t2 (.go g9))))))))
 exact aO hO (.b (fD x.length) .ex)
theorem abr{w:Int}(h0:0<=w)(h1:w<=255):sD (IntKind.u8.wrap (7+BG .u8 w 10))=true:=by
 have e:BG .u8 w 10=w%10:=by
  show w.tmod 10=_;exact Int.tmod_eq_emod_of_nonneg h0
 have r0:=aec w (show(10:Int)≠0 by omega);have r1:=agT w (show(0:Int)<10 by omega);have e2:IntKind.u8.wrap (7+w%10)=7+w%10:=by
  simp only[IntKind.wrap,IntKind.bits,IntKind.signed];have:(7+w%10)%2^8=7+w%10:=a7B (by omega) (by omega);simp;omega
 rw[e,e2];simp only[sD,a1Q];omega
def oc7:eY aF:=bZ 7 (a3 dA dA uA) tA (fun _=>true) (fun p=>[Ez p.1∧Ez p.2.1,0<=p.2.2∧p.2.2<=255]) agt
theorem gc7:Gd oc7:=aqI.add fun n hO p hp=>by
 obtain⟨a,b,w⟩:=p;obtain⟨ra,rb⟩:Ez a∧Ez b:=hp _ (.head _);obtain⟨w0,w1⟩:0<=w∧w<=255:=hp _ (.tail _ (.head _));cases ht:(!(Ym (a,b)))
 .have ht:Ym (a,b)=true:=by simpa using ht
  obtain⟨hf,hP,hk,⟨la,lb⟩,es,eo,ka,kb⟩:=YZ ht ra rb;have hc:=abr w0 w1;obtain⟨hJ,hj⟩:=alD hP.1 hP.2 hk hc;have hD:=alA hJ hj;have lD:=Iq hD.f.o hD.f.e (by rw[hD.k];rfl);have ga:=a0a hP.1 ka;have gb:=a0a hP.2 kb;have hl:(cellsD a).length<=ah:=by rw[tX];have:=la.f.EY;have:=la.f.a6u;have:=la.f.many;unfold ah;omega
  have ez:=a8C hJ hj;rw[a3Y hJ]at ez;have lp:=lEa hO (a:=a) (b:=b) (d:=uU (dU [a,b]) (Ls (IntKind.u8.wrap (7+BG .u8 w 10)))) (c:=IntKind.u8.wrap (7+BG .u8 w 10)) (x:=cellsD a) (y:=cellsD b) (z:=cellsD (uU (dU [a,b]) (Ls (IntKind.u8.wrap (7+BG .u8 w 10))))) hl (by rw[tX,tX,es]) (by rw[ez,a4n,a8I,tX];rfl) (fun k kC=>by
   rw[tX]at kC;have gx:(cellsD a).getD k V0=wW a (jT a.aA (k:Int)):=by
    unfold cellsD;rw[a3l,a4q,ade kC];rfl
   have gy:(cellsD b).getD k V0=wW b (jT a.aA (k:Int)):=by
    unfold cellsD;rw[a3l,a4q,ade (by rw[<-es];exact kC),<-es];rfl
   have gz:(cellsD (uU (dU [a,b]) (Ls (IntKind.u8.wrap (7+BG .u8 w 10))))).getD k V0=(jc (IntKind.u8.wrap (7+BG .u8 w 10)) (wW a (jT a.aA (k:Int))) (wW b (jT a.aA (k:Int)))).1:=by
    rw[ez,a3l,a4q,ade (show k<EY ([a,b].getD 0 jX).aA from kC)];rfl
   rw[gx,gy,gz];exact aby rfl (Yn hc (Vr ga.c _) (Vr gb.c _)))
  exact aN hO (.b (congrArg Bool.not ht) (.o (show(10:Int)≠0 by decide) (.o hf (.o hP (.o hk (.o hc (.b (rfl:(!true)=false) (.o la (.o lb (.o lD (.w lp .rr)))))))))))
 .exact aN hO (.b ht .rr)
end Go.Proofs.YtmobpoiejckagaaGreat
namespace Tw
open Go Go.ChangeShapes Go.WideShapes Go.RowKit
theorem JI{H:Type}{enc:TypeId×Value->H}{P:Program}{w:World}{t:TypeId}{ts:List TypeId}{vs:List Value}{ds:List (DataW H)}{ps:List MemPlace}(h:DataW.TrodAll enc P w 0 (fun _=>true) true (t::ts) vs ds ps):∃d e,ds=d::e∧Rd enc P w t d∧∃vs ps,DataW.TrodAll enc P w 0 (fun _=>true) true ts vs e ps:=by
 obtain⟨v,vs',d,ds',p,q,rfl,rfl,rfl,⟨fuel,hd⟩,NG⟩:=trodAll_cons h;exact⟨d,ds',rfl,⟨_,fuel,p,hd⟩,_,_,NG⟩
section
variable {H:Type} {P:Program} {g:Nat} {t:TypeId} {ts:List TypeId} {d:DataW H} {ds:List (DataW H)} {h h1 h2:List HB} {xs:List TV}
theorem a8F{cs:List TV}(ha:uK P t=some true)(he:CO P g t d h=some (cs,h1))(hr:L8 P g ts ds h1=some (xs,h2)):L8 P g (t::ts) (d::ds) h=some (.agg cs::xs,h2):=by
 simp only[L8,he,ha,hr]
theorem agu{x:TV}(ha:uK P t=some false)(he:CO P g t d h=some ([x],h1))(hr:L8 P g ts ds h1=some (xs,h2)):L8 P g (t::ts) (d::ds) h=some (x::xs,h2):=by
 simp only[L8,he,ha,hr]
theorem agv:L8 (H:=H) P g [] [] h=some ([],h):=rfl
end
end Tw
namespace Pv
open Go Tw
section
variable {X:kQ} {P:Program} {H:Type} {nC:TypeId×Value->H} {w:World}
abbrev AT:Nat->Prop:=fun _=>True
def RdP(nC:TypeId×Value->H)(X:kQ)(P:Program)(w:World)(g t:Nat){α:Type}(ps:α->List (PV X.Γ))(Q:α->Prop):Prop:=
 ∀d,Rd nC P w t d->∃a,Q a∧∀h,∃xs ext,CO P g t d h=some (xs,h++ext)∧∀e,bU X P AT [] (h++ext++e) (ps a) xs
theorem a2d{t g:Nat}{k:IntKind}(ht:P.underlying t=some (.int k)):RdP nC X P w (g+1) t (fun n:Int=>[.int k n]) (fun n=>(Lit.int k n).wf=true):=fun d hd=>by
 obtain⟨n,rfl,hn⟩:=aeS ht hd;exact⟨n,hn,fun h=>⟨[.int k n],[],by simp[CO,ht],fun e=>.cons (.int _ _) .nil⟩⟩
theorem TD{e g sz:Nat}{Q:X.Γ e->Prop}(hlen:∀a,(X.enc e a).length=sz)(hr:RdP nC X P w g e (X.enc e) Q):∀(ds:List (DataW H)),(∀y∈ds,Rd nC P w e y) ->
  ∃l:List (X.Γ e),l.length=ds.length∧(∀a∈l,Q a)∧∀h,∃cs ext,Wu (CO P g e) sz ds h=some (cs,h++ext)∧cs.length=l.length*sz∧∀e2 (j:Nat) a (i:Nat) c v,l[j]? = some a->(X.enc e a)[i]? = some c->cs[j*sz+i]? = some v->VR X P AT [] (h++ext++e2) c v
 | [],_=>⟨[],rfl,by simp,fun h=>⟨[],[],by simp[Wu],by simp,fun e2 j a i c v h1=>by simp at h1⟩⟩
 |d::ds,hd=>by
  obtain⟨a,qa,ha⟩:=hr d (hd d (a3m ..));obtain⟨l,l1,l2,l3⟩:=TD hlen hr ds fun y hy=>hd y (a3n _ hy);refine⟨a::l,by simp[l1],fun b hb=>(a2y.1 hb).elim (fun e=>e▸qa) (l2 b),fun h=>?_⟩;obtain⟨xs,e1,h1,v1⟩:=ha h;obtain⟨cs,e2,h2,c2,v2⟩:=l3 (h++e1);have hx:xs.length=sz:=by rw[<-(v1 []).1];exact hlen a
  refine⟨xs++cs,e1++e2,?_,by simp only[a2j,a4i,hx,c2,a3E];omega,fun e3 j b i c v hj hi hv=>?_⟩
  .simp only[Wu,h1,hx,a2w,h2,a4W]
  .cases j with
   |zero=>
    simp only[a2V,a05]at hj;subst hj;have JV:i<sz:=by rw[<-hlen a];exact(a0c.1 hi).1
    rw[acQ,a4e,a0j (by omega)]at hv;have:=(v1 (e2++e3)).2 i c v hi hv;simp only[a4W]at this ⊢;exact this
   |succ j=>
    rw[a9A]at hj;rw[a1c (by rw[hx,a3E];omega),hx,show(j+1)*sz+i-sz=j*sz+i by rw[a3E];omega]at hv;have:=v2 e3 j b i c v hj hi hv;simp only[a4W]at this ⊢;exact this
theorem Q8{t e g sz:Nat}{Q:X.Γ e->Prop}(ht:P.underlying t=some (.slice e))(uX:P.cellsOf e=sz)(hz:dD P e=some sz)(h0:0<sz)(hlen:∀a,(X.enc e a).length=sz)(hr:RdP nC X P w g e (X.enc e) Q):RdP nC X P w (g+1) t (fun l:List (X.Γ e)=>[.dB e l false]) (fun l=>∀a∈l,Q a):=fun d hd=>by
 rcases a6y ht hd with rfl|⟨xs,ys,rfl,hy⟩
 .exact⟨[],by simp,fun h=>⟨[.nil .slc],[],by simp[CO,ht],fun e=>.cons .oM .nil⟩⟩
 .obtain⟨l,l1,l2,l3⟩:=TD hlen hr (xs++ys) hy;have hl:xs.length<=l.length:=by rw[l1,a2j];omega
  refine⟨l.take xs.length,fun a ha=>l2 a (a9t ha),fun h=>?_⟩;obtain⟨cs,e1,h1,c1,v1⟩:=l3 h;refine⟨[.slc (h++e1).length 0 xs.length (xs.length+ys.length) sz true],e1++[.cells .ro cs],?_,fun e2=>.cons ?_ .nil⟩
  .have iC:¬sz=0:=(by omega);simp only[CO,ht,uX,h1,iC,a3T,a4W]
  .have hln:(l.take xs.length).length=xs.length:=(by rw[a4d,a7M hl]);have hb:(h++(e1++[HB.cells .ro cs])++e2)[(h++e1).length]? = some (.cells .ro cs):=by
    rw[show h++(e1++[HB.cells .ro cs])++e2=(h++e1)++(HB.cells .ro cs::e2) by simp,a1c (a1b _),agG];rfl
   have wE:(l.take xs.length).length<=xs.length+ys.length:=(by omega);have rV:∀(j:Nat) a,(l.take xs.length)[j]? = some a->l[j]? = some a:=fun j a hj=>by
    rw[a4p]at hj;split at hj
    .exact hj
    .cases hj
   have hle:(l.take xs.length).length*sz<=cs.length:=by rw[c1,hln];exact a3X sz hl
   generalize xs.length+ys.length=cp at wE ⊢;generalize l.take xs.length=l' at wE rV hle hln ⊢;rw[<-hln];exact VR.dB (X:=X) (P:=P) (A:=AT) (m:=[]) (t:=e) (l:=l') (fu:=false) (b:=(h++e1).length) (off:=0) (cap:=cp) (sz:=sz) (ex:=true) (cs:=cs) trivial (by unfold aV;rw[hb]) (fun _=>by unfold mD;rw[hb];simp) hz h0 (by omega) wE (by simp) (fun j a _=>hlen a) (fun j a i c v hj hi hv=>by
    rw[a4e]at hv;have:=v1 ([HB.cells .ro cs]++e2) j a i c v (rV j a hj) hi hv;simp only[a4W]at this ⊢;exact this)
def RdF(nC:TypeId×Value->H)(X:kQ)(P:Program)(w:World)(g o:Nat)(fs:List Field){α:Type}(ps:α->List (PV X.Γ))(Q:α->Prop):Prop:=
 ∀ds:List (DataW H),ds.length=fs.length->(∀(i:Nat) f d,fs[i]? = some f->ds[i]? = some d->Rd nC P w f.type d)->∃a,Q a∧∀h,∃xs ext,O9 P (CO P g) o fs ds h=some (xs,h++ext)∧∀e,bU X P AT [] (h++ext++e) (ps a) xs
theorem Vt{g o:Nat}:RdF nC X P w g o [] (fun _:Unit=>[]) (fun _=>True):=fun ds hl _=>by
 have:=a4g hl;subst this;exact⟨(),trivial,fun h=>⟨[],[],by simp[O9],fun e=>.nil⟩⟩
theorem rU{g o n:Nat}{f:Field}{fs:List Field}{α β:Type}{p1:α->List (PV X.Γ)}{p2:β->List (PV X.Γ)}{Q1:α->Prop}{Q2:β->Prop}(ho:f.offset=o)(hc:P.cellsOf f.type=n)(hn:∀a,(p1 a).length=n)(h1:RdP nC X P w g f.type p1 Q1)(h2:RdF nC X P w g (o+n) fs p2 Q2):RdF nC X P w g o (f::fs) (fun x:α×β=>p1 x.1++p2 x.2) (fun x=>Q1 x.1∧Q2 x.2):=fun ds hl hd=>by
 cases ds with
 |nil=>cases hl
 |cons d ds=>
  obtain⟨a,qa,ha⟩:=h1 d (hd 0 f d rfl rfl);obtain⟨b,qb,hb⟩:=h2 ds (by simpa using hl) fun i f' d' e1 e2=>hd (i+1) f' d' e1 e2;refine⟨(a,b),⟨qa,qb⟩,fun h=>?_⟩;obtain⟨xs,e1,g1,v1⟩:=ha h;obtain⟨ys,e2,g2,v2⟩:=hb (h++e1);have hx:xs.length=n:=by rw[<-(v1 []).1];exact hn a
  refine⟨xs++ys,e1++e2,?_,fun e=>?_⟩
  .simp only[O9,g1,ho,hx,hc,ad9,a2w,g2,a4W]
  .have w1:=v1 (e2++e);have w2:=v2 e;simp only[a4W]at w1 w2 ⊢;exact w1.app w2
theorem Gf{t g n:Nat}{fs:Array Field}{α:Type}{ps:α->List (PV X.Γ)}{Q:α->Prop}(ht:P.underlying t=some (.struct fs))(hc:P.cellsOf t=n)(hn:∀a,(ps a).length=n)(hf:RdF nC X P w g 0 fs.toList ps Q):RdP nC X P w (g+1) t ps Q:=fun d hd=>by
 obtain⟨ds,rfl,hl,JW⟩:=a3e ht hd;obtain⟨a,qa,ha⟩:=hf ds (by simpa using hl) fun i f d e1 e2=>JW i f d (by simpa using e1) e2;refine⟨a,qa,fun h=>?_⟩;obtain⟨xs,e1,g1,v1⟩:=ha h;have hx:xs.length=n:=by rw[<-(v1 []).1];exact hn a
 refine⟨xs,e1,?_,v1⟩;rw[Xj ht,g1];simp[hx,hc]
theorem RdP.iso{t g:Nat}{α β:Type}{ps:α->List (PV X.Γ)}{Q:α->Prop}(h:RdP nC X P w g t ps Q)(f:α->β){p2:β->List (PV X.Γ)}{Q2:β->Prop}(hp:∀a,p2 (f a)=ps a)(hq:∀a,Q a->Q2 (f a)):RdP nC X P w g t p2 Q2:=fun d hd=>by
 obtain⟨a,qa,ha⟩:=h d hd;exact⟨f a,hq a qa,fun h=>by rw[hp];exact ha h⟩
theorem agw{T:qJ}{L n f:Nat}{vs:List (PV X.Γ)}{xs:List TV}{h:List HB}(hc:oq X P (kY P T L (n+1)) f vs (PV.bool true) [])(hv:bU X P AT [] h vs xs):∃h',kY P T L (n+1) (TV.fn f [] []) xs h=some (TV.bool true,h',[]):=by
 obtain⟨x,h',m',c1,_,c3,_⟩:=hc AT h [] xs [] (fun _ _=>trivial) (by simpa using hv);have:x=TV.bool true:=by
  cases c3 with
  |bool=>rfl
  |gone hi _ _=>simp[bf]at hi
 subst this;exact⟨h',c1⟩
end
end Pv
namespace Go.Proofs.YtmobpoiejckagaaGreat
open Go Tw Pv
section
variable {H:Type} {nC:TypeId×Value->H} {w:World}
abbrev RdX(nC:TypeId×Value->H)(w:World)(g t:Nat){α:Type}(ps:α->List (PV aF))(Q:α->Prop):Prop:=RdP nC X0 Tryz.prog w g t ps Q
theorem a2e:Tryz.prog.cellsOf 3=1:=by kernel_rfl
theorem aqK:Tryz.prog.cellsOf 5=1:=by kernel_rfl
theorem adB:Tryz.prog.cellsOf 39=2:=by kernel_rfl
theorem zI0:dD Tryz.prog 3=some 1:=by kernel_rfl
theorem abt{g:Nat}:RdX nC w (g+1) 3 (fun n:Int=>[.int .i64 n]) (fun n=>(Lit.int .i64 n).wf=true):=a2d Tryz.underlying3
theorem rU8{g:Nat}:RdX nC w (g+1) 5 (fun n:Int=>[.int .u8 n]) (fun n=>0<=n∧n<=255):=(a2d Tryz.underlying5).iso id (fun _=>rfl) fun n h=>by
 simp only[Lit.wf,a2o,a1Q]at h;exact h
theorem a8G{g:Nat}:RdX nC w (g+2) 22 (fun l:List Int=>[lI l]) (fun l=>∀a∈l,(Lit.int .i64 a).wf=true):=Q8 (e:=3) Tryz.underlying22 a2e zI0 (by decide) (fun _=>rfl) abt
theorem aqL{g:Nat}:RdX nC w (g+2) 39 V.ps (fun v=>0<=v.f∧v.f<=255):=
 (Gf Tryz.underlying39 adB (fun _=>rfl) (rU rfl aqK (fun _=>rfl) rU8 (rU rfl a2e (fun _=>rfl) abt Vt))).iso (fun x=>⟨x.1,x.2.1⟩) (fun _=>rfl) fun _ h=>h.1
theorem alE:dD Tryz.prog 39=some 2:=by kernel_rfl
theorem alF{g:Nat}:RdX nC w (g+3) 23 (fun l:List V=>[lV l]) (fun l=>∀v∈l,0<=v.f∧v.f<=255):=Q8 (e:=39) Tryz.underlying23 adB alE (by decide) (fun _=>rfl) aqL
theorem agx:Tryz.prog.cellsOf 22=1:=by kernel_rfl
end
open Go Tw Pv dh
section
variable {H:Type} {nC:TypeId×Value->H} {w:World}
theorem alG:Tryz.prog.cellsOf 105=2:=by kernel_rfl
theorem aqM:dD Tryz.prog 105=some 2:=by kernel_rfl
theorem alH:Tryz.prog.cellsOf 24=1:=by kernel_rfl
theorem aqN:Tryz.prog.cellsOf 23=1:=by kernel_rfl
theorem aqO:Tryz.prog.cellsOf 26=5:=by kernel_rfl
theorem rBr{g:Nat}:RdX nC w (g+3) 105 Br.ps (fun b=>∀a∈b.ay,(Lit.int .i64 a).wf=true):=
 (Gf Tryz.underlying105 alG (fun _=>rfl) (rU rfl a2e (fun _=>rfl) abt (rU rfl agx (fun _=>rfl) a8G Vt))).iso (fun x=>⟨x.1,x.2.1⟩) (fun _=>rfl) fun _ h=>h.2.1
theorem aqP{g:Nat}:RdX nC w (g+4) 24 (fun l:List Br=>[lBr l]) (fun l=>∀b∈l,∀a∈b.ay,(Lit.int .i64 a).wf=true):=Q8 (e:=105) Tryz.underlying24 alG aqM (by decide) (fun _=>rfl) rBr
theorem a8H{a:Int}(h:(Lit.int .i64 a).wf=true):FV a:=by
 simp only[Lit.wf,a2o,a1Q]at h;obtain⟨h1,h2⟩:=h;have e1:i64.min=-(2^63):=by decide
 have e2:i64.max=2^63-1:=by decide
 exact⟨by omega,by omega⟩
theorem rDg{g:Nat}:RdX nC w (g+5) 26 Dg.ps Ez:=
 (Gf Tryz.underlying26 aqO (fun _=>rfl) (rU rfl agx (fun _=>rfl) a8G (rU rfl agx (fun _=>rfl) a8G (rU rfl aqN (fun _=>rfl) alF (rU rfl alH (fun _=>rfl) aqP (rU rfl a2e (fun _=>rfl) abt Vt)))))).iso (fun x=>⟨x.1,x.2.1,x.2.2.1,x.2.2.2.1,x.2.2.2.2.1⟩) (fun _=>rfl) fun x h=>by
  obtain⟨_,_,h3,h4,h5,_⟩:=h;refine⟨fun i hi k hk=>?_,a8H h5,fun v hv=>(h3 v hv).1⟩;have hb:fA ⟨x.1,x.2.1,x.2.2.1,x.2.2.2.1,x.2.2.2.2.1⟩ i∈x.2.2.2.1:=by
   show(x.2.2.2.1).getD i kM∈_;rw[List.getD,a0f hi];exact a4z _
  refine a8H (h4 _ hb _ ?_);rw[List.getD,a0f hk];exact a4z _
end
open Go.ChangeShapes Go.WideShapes Go.ChangeAt Go.RowKit
theorem Tryz.own:ownKnob Tryz.prog.godebug=none:=by kernel_rfl
theorem Tryz.laidOut:laidOutB Tryz.prog=true:=by kernel_rfl
theorem Tryz.mixed:Tryz.prog.follows .mixedOrders=true:=by kernel_rfl
theorem agy:iD Tryz.prog T.ext:=by
 show iD Tryz.prog aeR;intro fv args h v h' ws hc;unfold aeR at hc;split at hc
 .split at hc
  .exact a9X (Zb (T:=Tm) Tryz.mixed (fun _ _ _ _ _ _ h=>by cases h) 2) _ _ _ _ _ _ hc
  exact Xg abZ _ _ _ _ _ _ hc
 exact Xg abZ _ _ _ _ _ _ hc
theorem Tryz.tys7:Tryz.f7.params.toList=[26,26,5]:=by kernel_rfl
set_option maxRecDepth 100000 in
theorem JJ(os:Os)(started:os.Started)(H:Type)(enc:TypeId×Value->H) :
  ReturnsInHanded {} Tryz.checked os 7 .any (Rows.applyEachSpec.pre6 enc Tryz.prog Tryz.f7 Rows.applyEachRow.domain false) (Rows.applyEachSpec.post enc Tryz.prog Tryz.f7 false true false false):=by
 refine returnsInHanded_of_change (C:=Tryz.checked) Tryz.own started (by kernel_rfl) Tryz.func7
  (ChangeSpec.witness6 (enc:=enc) (C:=Tryz.checked) false ⟨#[],#[.agg #[.slice none 0 0,.slice none 0 0,.slice none 0 0,.slice none 0 0,.int .i64 0],.agg #[.slice none 0 0,.slice none 0 0,.slice none 0 0,.slice none 0 0,.int .i64 0],.int .u8 0],[]⟩ 8 (by kernel_rfl) (by kernel_rfl) (by kernel_rfl) (by kernel_rfl)) ?_
 intro W base args ds gs before alI hW avg _;have Wy:∀(j:Nat) t v,Tryz.f7.params[j]? = some t->args[j]? = some v->Value.okWide Tryz.prog W .any base t v:=alI;have hW':=hW;obtain⟨p,q,aqQ,hV,rfl,hfz,jA⟩:=hW;have hTA:DataW.TrodAll enc Tryz.prog W 0 (fun _=>true) true Tryz.f7.params.toList args.toList ds p:=aqQ;obtain⟨rfl,rfl⟩:=trodVars_none hV;rw[Tryz.tys7]at hTA;obtain⟨d0,_,rfl,r0,_,_,hTA⟩:=JI hTA;obtain⟨d1,_,rfl,r1,_,_,hTA⟩:=JI hTA;obtain⟨d2,_,rfl,r2,_,_,hTA⟩:=JI hTA;obtain⟨_,rfl,_⟩:=trodAll_nil hTA;obtain⟨a0,q0,h0⟩:=rDg (g:=2) d0 r0;obtain⟨a1,q1,h1⟩:=rDg (g:=2) d1 r1;obtain⟨a2,q2,h2⟩:=rU8 (g:=6) d2 r2;obtain⟨x0,e0,g0,v0⟩:=h0 ([]);obtain⟨x1,e1,g1,v1⟩:=h1 ([]++e0);obtain⟨x2,e2,g2,v2⟩:=h2 ([]++e0++e1);have w0:=v0 (e1++e2);simp only[a4W,aag,a5W]at w0;have w1:=v1 (e2);simp only[a4W,aag,a5W]at w1;have w2:=v2 ([]);simp only[a4W,aag,a5W]at w2;obtain⟨y2,_,rfl,u2,z2⟩:=w2.inv;cases z2.inv0;obtain⟨N,hN⟩:=gc7;have aqR:=hN (N+1) (by omega) 7 ((Pv.a3 dA dA uA).put (a0,a1,a2)) (tA.put true) [] [Ez a0∧Ez a1,0<=a2∧a2<=255] rfl (by
  intro p hp;simp only[a2y,List.not_mem_nil,or_false]at hp;rcases hp with rfl|rfl
  .exact⟨q0,q1⟩
  .exact q2)
 obtain⟨h',hr⟩:=agw (h:=[]++e0++e1++e2) aqR (by simp only[a4W,aag,a5W];exact .cons (.agg w0.1 w0.2) (.cons (.agg w1.1 w1.2) (.cons u2 .nil)));exact Zc (P:=Tryz.prog) (T:=T) (L:=LL) (n:=N) (g:=7) Tryz.mixed Tryz.laidOut rfl rfl (by kernel_rfl) Tryz.underlying4 (by kernel_rfl) hW' Wy
  (by rw[Tryz.tys7];exact(a8F (by kernel_rfl) g0 (a8F (by kernel_rfl) g1 (agu (by kernel_rfl) g2 agv)))) agy (by kernel_rfl) (by kernel_rfl) hr
theorem JK:joinedFacts Tryz.pinned.checked.prog 7 Tryz.f7 Rows.applyEachSpec Rows.applyEachRow=true:=by kernel_rfl
theorem ApplyEach_holds:Rows.ApplyEachSaid:=
 OpenClaim.holds_of_wide 7 Tryz.f7 rfl rfl rfl rfl rfl rfl rfl ⟨rfl,rfl,rfl,rfl,rfl⟩ rfl rfl rfl rfl rfl (by kernel_rfl) Tryz.func7 JK
  (a7C (by kernel_rfl)) (by unfold Func.isWrapper;first|(rw[a0p (by decide +kernel)];kernel_rfl)|(rw[a0o (by decide +kernel)];exact⟨rfl,rfl⟩))
  (fun os started H enc _=>JJ os started H enc)
end Go.Proofs.YtmobpoiejckagaaGreat
