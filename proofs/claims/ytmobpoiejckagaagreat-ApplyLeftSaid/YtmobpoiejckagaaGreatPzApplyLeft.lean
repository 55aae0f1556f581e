/- ApplyLeft: if the condition is met somewhere, the best look leaves at least 1 of these places, and at most all of them; a look at a diagram that has one cell everywhere leaves all; no other diagram of the list leaves fewer (the Go function of this name returns true for every input). -/
import Derived.ProofKit
import Derived.Test.YtmobpoiejckagaaGreatRows
import Derived.Test.YtmobpoiejckagaaGreatP05
set_option linter.constructorNameAsVariable false
set_option linter.unusedVariables false
set_option linter.unusedSimpArgs false
set_option linter.unusedSectionVars false
open Go.IntKind (i64)
noncomputable section
namespace Go.Proofs.YtmobpoiejckagaaGreat
open Go Tw Pv bP
abbrev a0s:Code:=(TG Qp 88).body
abbrev lpB:Code:=eP (eP (eU (eP (eU a0s))))
abbrev xB:Code:=eP (eU (eU lpB))
def DW(t:List (V×Int))(js:List Nat):LI0:=(js.reverse.filter fun j=>!decide ((Qs t j).1.f>0)).map fun j=>(Qs t j).1.n
def fOf(t:List (V×Int))(js:List Nat):Bool:=js.any fun j=>decide ((Qs t j).1.f>0)
theorem a4q(t:List (V×Int))(j:Nat)(js:List Nat):DW t (j::js)=DW t js++(if decide ((Qs t j).1.f>0)=true then []else [(Qs t j).1.n]):=by
 unfold DW;rw[List.reverse_cons,List.filter_append,a4J];congr 1;cases h:decide ((Qs t j).1.f>0)
 .rw[adW (by rw[h];rfl),a0E (by simp)];rfl
 rw[adV (by rw[h];simp),a0F rfl];rfl
def mg(t:List (V×Int)):LI0:=gV ((t.filter fun e=>!decide (e.1.f>0)).map fun e=>e.1.n)
def uS(t:List (V×Int)):Bool:=t.any fun e=>decide (e.1.f>0)
theorem a0t{l l':LI0}(h:l.Perm l'):gV l=gV l':=by
 unfold gV;have hs:∀l:LI0,(l.mergeSort fun x y=>decide (x<=y)).Pairwise fun a b=>decide (a<=b)=true:=fun l=>
  List.pairwise_mergeSort (fun a b c h1 h2=>by simp at *;omega) (fun a b=>by simp;omega) l
 exact List.Perm.eq_of_pairwise (le:=fun a b=>decide (a<=b)=true) (fun a b _ _ h1 h2=>by simp at h1 h2;omega) (hs l) (hs l') ((aey l _).trans (h.trans (aey l' _).symm))
theorem agH{t:List (V×Int)}{js:List Nat}(hn:js.Nodup)(hl:∀j∈js,j<t.length)(ha:∀j,j<t.length->j∈js):gV (DW t js)=mg t∧fOf t js=uS t:=by
 have hp:(js.reverse).Perm (List.range t.length):=(List.reverse_perm js).trans ((a7x hn aeu).2 fun j=>⟨fun h=>a4P.2 (hl j h),fun h=>ha j (a4P.1 h)⟩);constructor
 .refine a0t ?_;unfold DW;have e:((t.filter fun e=>!decide (e.1.f>0)).map fun e=>e.1.n)=((List.range t.length).filter fun j=>!decide ((Qs t j).1.f>0)).map fun j=>(Qs t j).1.n:=by
   conv=>lhs;rw[agF t]
   rw[List.filter_map,a6B];rfl
  rw[e];exact(hp.filter _).map _
 unfold fOf uS;rw[a5b,ahq,ahq];constructor
 .rintro⟨j,hj,h⟩;exact⟨Qs t j,dI (d:=((V0,0):V×Int)) (hl j hj),h⟩
 rintro⟨e,he,h⟩;obtain⟨j,hj,rfl⟩:=a5d.1 he;exact⟨j,ha j hj,by rw[(VU (a0q hj)).1];exact h⟩
abbrev sBl(t:List (V×Int))(l:LI0)(b:Bool)(js:List Nat):aU aG:=match l with
 | []=>⟨[(2,.val (.nil .aP)),(3,xl b),(6,.val (.iter 1))],[],[.iG (kV.im t),.dn 0 t.length js]⟩
 |x::l=>⟨[(2,.val (.own 2)),(3,xl b),(6,.val (.iter 1))],[],[.iG (kV.im t),.dn 0 t.length js,.list false false 3 (x::l)]⟩
theorem agI{n:Nat}:iJ (n+1) (.fn 137 [] []) [.nil .aP] [] (.dJ []) []:=by intro A m h tf qP hr hf hx;obtain⟨x,r,rfl,h1,h2⟩:=hx.inv;have:=h2.inv0;subst this;have htf:=hf.Vf;subst htf;have hx:x=.nil .aP:=jU h1 rfl;subst hx;exact⟨.dJ [],h,[],m,rfl,hr,.dJ rfl (fun i x y hx=>by simp at hx),.refl,.refl,fun b hb=>by cases hb⟩
section
variable {n:Nat} {t:List (V×Int)}
set_option maxRecDepth 20000 in
theorem abx(h:Kt t):aJ X0 Qp T (iE (n+1)) (uY Qp T (iE (n+1)) LL) LL 88 (Cc Qp 88) 1 (.block 0 (.loop lpB)) (sBl t [] false [])
  fun e s=>e=.norm∧∃l seen,gV l=mg t∧s={ sBl t l (uS t) seen with env:=jm (T.iy 88 2) ((8,.val (.bool false))::(7,.val (.dJ [.bool false]))::(sBl t l (uS t) seen).env) }:=by
 have e1:lpB=.seq (.region 2 (a7l (eP lpB)) false) (.seq (.cond (.tmp 8) .skip (.exit 0)) (.block 1 xB)):=by kernel_rfl
 have hlen:=h.len;rw[e1];refine PG hX (n:=t.length) (b:=1) (r:=0) (it:=6) (nx:=7) (mo:=8) (es:=kV.im t) (fun seen s=>seen.Nodup∧(∀j∈seen,j<t.length)∧∃gs,lJ 1 gs (gU X0 (T.eX 88 (dW lpB)) s)=some (sBl t (DW t seen) (fOf t seen) seen)) (by kernel_rfl) (a7X (by kernel_rfl)) (a7X (by kernel_rfl)) (kV.pO t) (by unfold LL;omega)
  ⟨a6x,(fun j hj=>(by cases hj)),[],(by kernel_rfl)⟩ (fun seen s hi=>?_)
 obtain⟨jH,aT,gs,h3⟩:=hi;rw[<-e1];refine⟨gs,_,h3,?_,?_,?_,fun ho=>?_,fun j e hj he=>?_⟩
 .cases DW t seen<;>kernel_rfl
 .cases DW t seen<;>kernel_rfl
 .cases DW t seen<;>kernel_rfl
 .obtain⟨a1,a2⟩:=agH jH aT ho;refine⟨?_,DW t seen,seen,a1,?_⟩
  .cases DW t seen<;>kernel_rfl
  .rw[a2]
 .rw[kV.Bj,a0l]at he;obtain⟨⟨v,w⟩,sF,rfl⟩:=he;obtain⟨q1,q2,q3⟩:=VU sF;have Gn:(j::seen).Nodup:=a4U.2 ⟨hj,jH⟩;have Gp:∀k∈j::seen,k<t.length:=fun k hk=>by
   rcases a1Y.1 hk with rfl|hk
   .exact q2
   .exact aT k hk
  have hll:(DW t seen).length<=2000:=by
   have h1:(DW t seen).length<=seen.length:=by unfold DW;rw[a4S];exact a5x (a9C ..) (by simp)
   have h2:seen.length<=t.length:=by have:=(Kq jH aT).length_eq;have h3:=a9C (fun j=>seen.contains j) (List.range t.length);rw[a9m]at h3;omega
   omega
  have Eb:=a4q t j seen;have hf2:fOf t (j::seen)=(decide (v.f>0)||fOf t seen):=by unfold fOf;rw[ae2,q1]
  rw[q1]at Eb;generalize fOf t seen=b at hf2;have Eb:DW t (j::seen)=DW t seen++(if decide (v.f>0)=true then []else [v.n]):=Eb;generalize DW t seen=l at Eb hll;cases hv:decide (v.f>0)
  .rw[hv,a0E (by simp)]at Eb;rw[hv,ah7]at hf2;have YR:decide (v.f>0)=false:=hv;cases l with
   |nil=>
    have a1:[v.n].length<=ah:=by rw[a4H];unfold ah;omega
    refine⟨by kernel_rfl,aJ.step (e:=.norm) (by kernel_rfl) (zL (ps1:=⟨[(2,.val (.own 3)),(3,xl b),(6,.val (.iter 1))],[v.ps],[.iG (kV.im t),.dn 0 t.length (j::seen),.list true true 3 [v.n],.list true false 3 [v.n]]⟩) hX gG (by kernel_rfl) (.c (.dJ [.agg v.ps,.int .i64 w]) [] (Bv sF) (.b YR (.o a1 (.r rfl))))) ⟨.inl rfl,Gn,Gp,[.flag 3,.gc [1,3]],?_⟩⟩;rw[Eb,hf2]
    kernel_rfl
   |cons x l=>
    have a1:(x::l).length+[v.n].length<=ah:=by rw[a4H];unfold ah;omega
    refine⟨by kernel_rfl,aJ.step (e:=.norm) (by kernel_rfl) (zL (ps1:=⟨[(2,.val (.own 4)),(3,xl b),(6,.val (.iter 1))],[v.ps],[.iG (kV.im t),.dn 0 t.length (j::seen),.gone,.list true true 3 [v.n],.list false false 3 (x::l++[v.n])]⟩) hX gG (by kernel_rfl) (.c (.dJ [.agg v.ps,.int .i64 w]) [] (Bv sF) (.b YR (.o a1 (.r rfl))))) ⟨.inl rfl,Gn,Gp,[.gc [1,4]],?_⟩⟩;rw[Eb,hf2]
    kernel_rfl
  .rw[hv,a0F rfl,a6f]at Eb;rw[hv,Bool.true_or]at hf2;have YR:decide (v.f>0)=true:=hv;cases l with
   |nil=>
    refine⟨by kernel_rfl,aJ.step (e:=.exit 1) (by kernel_rfl) (zL (ps1:=⟨[(2,.val (.nil .aP)),(3,xl true),(6,.val (.iter 1))],[v.ps],[.iG (kV.im t),.dn 0 t.length (j::seen)]⟩) hX gG (by kernel_rfl) (.c (.dJ [.agg v.ps,.int .i64 w]) [] (Bv sF) (.b YR (.r rfl)))) ⟨.inr rfl,Gn,Gp,[],?_⟩⟩;rw[Eb,hf2]
    kernel_rfl
   |cons x l=>
    refine⟨by kernel_rfl,aJ.step (e:=.exit 1) (by kernel_rfl) (zL (ps1:=⟨[(2,.val (.own 2)),(3,xl true),(6,.val (.iter 1))],[v.ps],[.iG (kV.im t),.dn 0 t.length (j::seen),.list false false 3 (x::l)]⟩) hX gG (by kernel_rfl) (.c (.dJ [.agg v.ps,.int .i64 w]) [] (Bv sF) (.b YR (.r rfl)))) ⟨.inr rfl,Gn,Gp,[],?_⟩⟩;rw[Eb,hf2]
    kernel_rfl
theorem EG:∀l:LI0,iO (EM X0 3 l)=some (l.map fun n=>TV.int .i64 n)
 | []=>rfl
 |a::l=>by
  have:=EG l;show(match ru (PV.int .i64 a:PV aG),iO (EM X0 3 l)with
   |some a,some b=>some (a::b)
   |_,_=>none)=_
  rw[this];rfl
theorem a4r{ny:Bool}{b:Bool}{Hs:List (PB aG)}:a3G X0 Qp ny (.dJ [.nil .aP,.bool b]) Hs (fun _=>.dJ [.nil .aP,.bool b]) []:=fun A m h h1 w hr hw _=>by
 cases hw with
 |gone hi _ _=>simp[bn]at hi
 |dJ a1 a2=>
  obtain⟨x,r,rfl,v0,v1⟩:=Pv.bY.inv (⟨a1,a2⟩:Pv.bY X0 Qp _ _ _ _ _);obtain⟨y,r,rfl,v2,v3⟩:=v1.inv;have:=v3.inv0;subst this;have:=jU v2 (show qw (PV.bool b:PV aG)=some (TV.bool b)from rfl);subst this;have:=jU v0 (show qw (PV.nil .aP:PV aG)=some (TV.nil .aP)from rfl);subst this;unfold Oo;simp only[BO,BO.F8,wL,nP,nP.zA,D6,UE,LG,a4M,abL,a6f,a0O]
set_option maxRecDepth 20000 in
theorem ae7(h:Kt t):(mg t=[]->iJ (n+2) (.fn 88 [] []) [.map 0] [.iG (kV.im t)] (.dJ [.nil .aP,.bool (uS t)]) [.iG (kV.im t)]) ∧
  (mg t≠[]->iJ (n+2) (.fn 88 [] []) [.map 0] [.iG (kV.im t)] (.dJ [.own 1,.bool (uS t)]) [.iG (kV.im t),.list false false 3 (mg t)]):=by
 have e0:(TG Qp 88).body=.seq (eP a0s) (.seq (.seq (eP (eP (eU a0s))) (.block 0 (.loop lpB))) (eU (eU a0s))):=by kernel_rfl
 have x0:dR X0 Qp T (iE (n+1)) LL 88 false (Cc Qp 88) 1 (eP a0s) ⟨lu X0 0 [.map 0],[],[.iG (kV.im t)]⟩ .norm ⟨[(0,.val (.map 0)),(2,.val (.nil .aP)),(3,xl false)],[],[.iG (kV.im t)]⟩:=zL hX gG (an:=.n) (by kernel_rfl) (.r rfl);have x1:dR X0 Qp T (iE (n+1)) LL 88 false (Cc Qp 88) 1 (eP (eP (eU a0s))) ⟨[(0,.val (.map 0)),(2,.val (.nil .aP)),(3,xl false)],[],[.iG (kV.im t)]⟩ .norm ⟨[(2,.val (.nil .aP)),(3,xl false),(6,.val (.iter 1))],[],[.iG (kV.im t),.dn 0 (kV.im t).length []]⟩:=zL hX gG (an:=.n) (by kernel_rfl) (.r rfl);rw[kV.pO t]at x1;have run:∀Q:Ex->aU aG->Prop,(∀l seen,gV l=mg t->aJ X0 Qp T (iE (n+1)) (uY Qp T (iE (n+1)) LL) LL 88 (Cc Qp 88) 1 (eU (eU a0s)) { sBl t l (uS t) seen with env:=jm (T.iy 88 2) ((8,.val (.bool false))::(7,.val (.dJ [.bool false]))::(sBl t l (uS t) seen).env) } Q) ->
   aJ X0 Qp T (iE (n+1)) (uY Qp T (iE (n+1)) LL) LL 88 (Cc Qp 88) 1 (TG Qp 88).body ⟨lu X0 0 [.map 0],[],[.iG (kV.im t)]⟩ Q:=fun Q hQ=>by
  rw[e0];refine aJ.Bq (by kernel_rfl) x0 (aJ.seq (R:=fun e s=>e=.norm∧∃l seen,gV l=mg t∧s={ sBl t l (uS t) seen with env:=jm (T.iy 88 2) ((8,.val (.bool false))::(7,.val (.dJ [.bool false]))::(sBl t l (uS t) seen).env) }) (aJ.Bq (by kernel_rfl) x1 (abx (n:=n) h)) (fun s hs=>?_) (fun i s h=>by cases h.1) (fun s h=>by cases h.1));obtain⟨_,l,seen,h1,rfl⟩:=hs;exact hQ l seen h1
 have hlen:∀l:LI0,gV l=mg t->l.length<=2^20:=fun l hl=>by
  have h1:(gV l).length=l.length:=by unfold gV;rw[aaR]
  have h2:(mg t).length<=t.length:=by unfold mg gV;rw[aaR,a4S];exact a9C ..
  have:=h.len;rw[hl]at h1;omega
 have aqF:gV []=([]:LI0):=by simp[gV]
 constructor
 .intro hn;have:=Dy (X:=X0) (P:=Qp) (T:=T) (L:=LL) (n:=n+1) (f:=88) (first:=[]) (cap:=[]) (xs:=[.map 0]) (H:=[.iG (kV.im t)]) (N:=[]) (v:=.dJ [.nil .aP,.bool (uS t)]) (tv:=fun _=>.dJ [.nil .aP,.bool (uS t)]) (tN:=[]) (t:=TG Qp 88) hX (by kernel_rfl) (by kernel_rfl) (by kernel_rfl) rfl (fun A m h hr=>⟨m,by simpa using hr,Pv.bY.cons (.nil .aP) (.cons (.bool _) .nil) |> fun h=>.dJ h.1 h.2,by simpa using Fr.refl,.refl⟩) (run _ fun l seen hl=>?_)
  .exact this
  .rw[hn]at hl;have qO:l=[]:=by
    have h1:(gV l).length=l.length:=by unfold gV;rw[aaR]
    rw[hl]at h1;exact a4I h1.symm
   subst qO;exact aJ.step (by kernel_rfl) (zL (e:=.ret) (ps1:=⟨[(2,.val (.nil .aP)),(3,xl (uS t))],[],[.iG (kV.im t),.dn 0 t.length seen]⟩) hX gG (by kernel_rfl) (.fr [] (agI (n:=n)) (.r rfl))) ⟨.inr rfl,[.nil .aP,.bool (uS t)],by kernel_rfl,a4r⟩
 .intro hn;have:=Dy (X:=X0) (P:=Qp) (T:=T) (L:=LL) (n:=n+1) (f:=88) (first:=[]) (cap:=[]) (xs:=[.map 0]) (H:=[.iG (kV.im t)]) (N:=[.list false false 3 (mg t)]) (v:=.dJ [.own 1,.bool (uS t)]) (tv:=fun n=>.dJ [.aP n 0 (mg t).length (mg t).length 1 false,.bool (uS t)]) (tN:=[.cells .last ((mg t).map fun n=>TV.int .i64 n)]) (t:=TG Qp 88) hX (by kernel_rfl) (by kernel_rfl) (by kernel_rfl) rfl (fun A m h hr=>aaC hX (H:=[.iG (kV.im t)]) (ty:=3) (l:=mg t) hn (EG _) La (by decide) (fun _ _ _=>rfl) rfl hr) (run _ fun l seen hl=>?_)
  .exact this
  .cases l with
   |nil=>rw[aqF]at hl;exact absurd hl.symm hn
   |cons x l=>
    have hs:=adw (n:=n) (k:=false) (ex:=false) (x::l) (hlen _ hl);rw[hl]at hs;exact aJ.step (by kernel_rfl) (zL (e:=.ret) (ps1:=⟨[(2,.val (.own 2)),(3,xl (uS t))],[],[.iG (kV.im t),.dn 0 t.length seen,.list false false 3 (mg t)]⟩) hX gG (by kernel_rfl) (.fr [2] hs (.r rfl))) ⟨.inr rfl,[.own 2,.bool (uS t)],by kernel_rfl,a7k hX (i:=2) (ty:=3) (l:=mg t) rfl hn (EG _) La rfl⟩
end
open Go Tw Pv bP
abbrev vF:PV aG:=.fn 139 [] [.ptr 1 0 1]
abbrev a8H:Code:=(TG Qp 138).body
abbrev agJ:Code:=(TG Qp 139).body
abbrev lpW:Code:=eP (eP (eU agJ))
abbrev xW:Code:=eP (eU (eU lpW))
abbrev a8I:List (Nat×PE aG):=[(2,.val (.ptr 2 0 1)),(4,.val (.nil .aP)),(6,.val vF)]
abbrev Qu(rd:Bool)(jQ:Option Code):PB aG:=.loop rd 138 (Cc Qp 138) a8I [7] (wV Qp 138) (AU Qp 138) jQ
abbrev H3(t:List (V×Int))(x:PV aG):List (PB aG):=[.iG (kV.im t),.aF [.map 0],.cells [x]]
theorem one_le(w:Int):[w].length<=ah:=by rw[a4H];unfold ah;omega
theorem aqG{n:Nat}(t:List (V×Int))(w:Int):iJ (n+1) (.kU 4) [.int .i64 w] (H3 t (.nil .aP)++[.mark,Qu true none]) (.bool true) (H3 t (.own 6)++[.mark,Qu true none,.list true true 3 [w],.list true false 3 [w]]):=by have q1:dR X0 Qp T (iE n) LL 138 true (Cc Qp 138) 5 (wV Qp 138) ⟨uw a8I [7] [.int .i64 w],[],H3 t (.nil .aP)++[.mark,Qu true none]⟩ .norm ⟨[(2,.val (.ptr 2 0 1)),(5,xi w)],[],H3 t (.nil .aP)++[.mark,Qu true none]⟩:=yB hX gG (by kernel_rfl) .xx;have q2:dR X0 Qp T (iE n) LL 138 true (Cc Qp 138) 5 (AU Qp 138) ⟨[(2,.val (.ptr 2 0 1)),(5,xi w)],[],H3 t (.nil .aP)++[.mark,Qu false none]⟩ .norm ⟨[],[],H3 t (.own 6)++[.mark,Qu false none,.list true true 3 [w],.list true false 3 [w]]⟩:=yB hX gG (by kernel_rfl) (.o (one_le w) .xx);exact Ic hX (l:=4) rfl rfl (by kernel_rfl) q1 rfl q2 rfl
theorem aqH{n:Nat}(t:List (V×Int))(l:LI0)(w:Int)(hl:l.length+[w].length<=ah):iJ (n+1) (.kU 4) [.int .i64 w] (H3 t (.own 5)++[.mark,Qu true none,.list false false 3 l]) (.bool true) (H3 t (.own 7)++[.mark,Qu true none,.gone,.list true true 3 [w],.list false false 3 (l++[w])]):=by have q1:dR X0 Qp T (iE n) LL 138 true (Cc Qp 138) 6 (wV Qp 138) ⟨uw a8I [7] [.int .i64 w],[],H3 t (.own 5)++[.mark,Qu true none,.list false false 3 l]⟩ .norm ⟨[(2,.val (.ptr 2 0 1)),(5,xi w)],[],H3 t (.own 5)++[.mark,Qu true none,.list false false 3 l]⟩:=yB hX gG (by kernel_rfl) .xx;have q2:dR X0 Qp T (iE n) LL 138 true (Cc Qp 138) 6 (AU Qp 138) ⟨[(2,.val (.ptr 2 0 1)),(5,xi w)],[],H3 t (.own 5)++[.mark,Qu false none,.list false false 3 l]⟩ .norm ⟨[],[],H3 t (.own 7)++[.mark,Qu false none,.gone,.list true true 3 [w],.list false false 3 (l++[w])]⟩:=yB hX gG (by kernel_rfl) (.o hl .xx);exact Ic hX (l:=4) rfl rfl (by kernel_rfl) q1 rfl q2 rfl
def EP(t:List (V×Int))(js:List Nat):LI0:=js.reverse.map fun j=>(Qs t j).2
theorem a4s(t:List (V×Int))(j:Nat)(js:List Nat):EP t (j::js)=EP t js++[(Qs t j).2]:=by simp[EP]
abbrev sWl(t:List (V×Int))(l:LI0)(js:List Nat):aU aG:=match l with
 | []=>⟨[(0,.val (.kU 4)),(6,.val (.iter 5))],[],H3 t (.nil .aP)++[.mark,Qu true none,.dn 0 t.length js]⟩
 |x::l=>⟨[(0,.val (.kU 4)),(6,.val (.iter 5))],[],H3 t (.own 6)++[.mark,Qu true none,.dn 0 t.length js,.list false false 3 (x::l)]⟩
section
variable {n:Nat} {t:List (V×Int)}
set_option maxRecDepth 20000 in
theorem aby(h:Kt t):aJ X0 Qp T (iE (n+1)) D5 LL 139 (Cc Qp 139) 5 (.block 0 (.loop lpW)) (sWl t [] [])
  fun e s=>e=.norm∧∃l seen,l.Perm (t.map (·.2))∧s={ sWl t l seen with env:=jm (T.iy 139 1) ((8,.val (.bool false))::(7,.val (.dJ [.bool false]))::(sWl t l seen).env) }:=by
 have e1:lpW=.seq (.region 1 (a7l (eP lpW)) false) (.seq (.cond (.tmp 8) .skip (.exit 0)) (.block 1 xW)):=by kernel_rfl
 have hlen:=h.len;rw[e1];refine PG hX (n:=t.length) (b:=5) (r:=0) (it:=6) (nx:=7) (mo:=8) (es:=kV.im t) (fun seen s=>seen.Nodup∧(∀j∈seen,j<t.length)∧∃gs,lJ 5 gs (gU X0 (T.eX 139 (dW lpW)) s)=some (sWl t (EP t seen) seen)) (by kernel_rfl) (a7X (by kernel_rfl)) (a7X (by kernel_rfl)) (kV.pO t) (by unfold LL;omega)
  ⟨a6x,(fun j hj=>(by cases hj)),[],(by kernel_rfl)⟩ (fun seen s hi=>?_)
 obtain⟨jH,aT,gs,h3⟩:=hi;rw[<-e1];refine⟨gs,_,h3,?_,?_,?_,fun ho=>?_,fun j e hj he=>?_⟩
 .cases EP t seen<;>kernel_rfl
 .cases EP t seen<;>kernel_rfl
 .cases EP t seen<;>kernel_rfl
 .refine⟨?_,EP t seen,seen,?_,rfl⟩
  .cases EP t seen<;>kernel_rfl
  .have hp:(seen.reverse).Perm (List.range t.length):=(List.reverse_perm seen).trans ((a7x jH aeu).2 fun j=>⟨fun h=>a4P.2 (aT j h),fun h=>ho j (a4P.1 h)⟩);unfold EP
   conv=>rhs;rw[agF t]
   rw[a6B];exact hp.map _
 .rw[kV.Bj,a0l]at he;obtain⟨⟨v,w⟩,sF,rfl⟩:=he;obtain⟨q1,q2,q3⟩:=VU sF;have Gn:(j::seen).Nodup:=a4U.2 ⟨hj,jH⟩;have Gp:∀k∈j::seen,k<t.length:=fun k hk=>by
   rcases a1Y.1 hk with rfl|hk
   .exact q2
   .exact aT k hk
  have hll:(EP t seen).length<=2000:=by
   have h2:seen.length<=t.length:=by have:=(Kq jH aT).length_eq;have h3:=a9C (fun j=>seen.contains j) (List.range t.length);rw[a9m]at h3;omega
   have h1:(EP t seen).length=seen.length:=(by simp[EP]);omega
  have Eb:=a4s t j seen;rw[q1]at Eb;have Eb:EP t (j::seen)=EP t seen++[w]:=Eb;generalize EP t seen=l at Eb hll;cases l with
  |nil=>
   refine⟨by kernel_rfl,aJ.step (e:=.norm) (by kernel_rfl) (zL (ps1:=⟨[(0,.val (.kU 4)),(6,.val (.iter 5)),(14,xl false)],[],H3 t (.own 7)++[.mark,Qu true none,.dn 0 t.length (j::seen),.list true true 3 [w],.list true false 3 [w]]⟩) hX gG (by kernel_rfl) (.c (.dJ [.agg v.ps,.int .i64 w]) [] (Bv sF) (.fr [0,1,2,3,4] (aqG (n:=n) t w) (.b (rfl:(!true)=false) (.r rfl))))) ⟨.inl rfl,Gn,Gp,[.flag 7,.gc [5,7]],?_⟩⟩;rw[Eb]
   kernel_rfl
  |cons x l=>
   have a1:(x::l).length+[w].length<=ah:=by rw[a4H];unfold ah;omega
   refine⟨by kernel_rfl,aJ.step (e:=.norm) (by kernel_rfl) (zL (ps1:=⟨[(0,.val (.kU 4)),(6,.val (.iter 5)),(14,xl false)],[],H3 t (.own 8)++[.mark,Qu true none,.dn 0 t.length (j::seen),.gone,.list true true 3 [w],.list false false 3 (x::l++[w])]⟩) hX gG (by kernel_rfl) (.c (.dJ [.agg v.ps,.int .i64 w]) [] (Bv sF) (.fr [0,1,2,3,4,6] (aqH (n:=n) t (x::l) w a1) (.b (rfl:(!true)=false) (.r rfl))))) ⟨.inl rfl,Gn,Gp,[.gc [5,8]],?_⟩⟩;rw[Eb]
   kernel_rfl
end
open Go Tw Pv bP
def lY(t:List (V×Int)):LI0:=zB (fun n=>[n]) (t.map fun e:V×Int=>e.2)
abbrev Ro(n:Int):TV:=.int .i64 n
abbrev LV(n:Int):PV aG:=.int .i64 n
theorem a4t{t:List (V×Int)}{l:LI0}(h:l.Perm (t.map fun e:V×Int=>e.2)):SA (l.map Ro)=(lY t).map Ro:=by unfold SA;rw[TD (g:=Ro) (key:=fun n=>[n]) (a7e:=Sr) (fun _=>rfl),Fq h fun a _ b _ e=>by simpa using e];rfl
theorem Ku:∀l:LI0,UK (l.map LV)=some (l.map Ro)
 | []=>rfl
 |a::l=>by
  have:=Ku l;show(match qw (LV a),UK (l.map LV)with
   |some a,some b=>some (a::b)
   |_,_=>none)=_
  rw[this];rfl
section
variable {n:Nat} {t:List (V×Int)}
set_option maxRecDepth 20000 in
theorem alv(h:Kt t)(ht:t≠[]):aaz X0 Qp (uY Qp T (iE (n+1)) LL) vF [.kU 4] (H3 t (.nil .aP)++[.mark,Qu true none]) fun v H1=>∃(l:LI0) (seen:List Nat),l.Perm (t.map fun e:V×Int=>e.2)∧H1=H3 t (.own 6)++[.mark,Qu true none,.dn 0 t.length seen,.list false false 3 l]:=by
 refine a1O (t:=TG Qp 139) hX (by kernel_rfl) ?_;have e0:(TG Qp 139).body=.seq (eP agJ) (.block 0 (.loop lpW)):=by kernel_rfl
 rw[e0];have x0:dR X0 Qp T (iE (n+1)) LL 139 false (Cc Qp 139) 5 (eP agJ) ⟨lu X0 0 [.kU 4,.ptr 1 0 1],[],H3 t (.nil .aP)++[.mark,Qu true none]⟩ .norm ⟨[(0,.val (.kU 4)),(6,.val (.iter 5))],[],H3 t (.nil .aP)++[.mark,Qu true none,.dn 0 (kV.im t).length []]⟩:=zL hX gG (an:=.n) (by kernel_rfl) (.r rfl);rw[kV.pO t]at x0;refine aJ.Bq (by kernel_rfl) x0 ((aby (n:=n) h).mono fun e s h1=>?_);obtain⟨rfl,l,seen,h2,rfl⟩:=h1;cases l with
 |nil=>
  have:=h2.length_eq;rw[a4S]at this;exact absurd (a4I this.symm) ht
 |cons x l=>exact⟨.inl rfl,[],by kernel_rfl,x::l,seen,h2,rfl⟩
set_option maxRecDepth 20000 in
theorem abz(h:Kt t)(ht:t≠[]):iJ (n+2) (.fn 138 [] []) [.nil .aP,vF] [.iG (kV.im t),.aF [.map 0]] (.aP 2 0 t.length t.length 1 false) [.iG (kV.im t),.aF [.map 0],.ny ((lY t).map LV)]:=by
 have e0:(TG Qp 138).body=.seq (eP a8H) (.seq (.seq (eP (eP (eU a8H))) (.block 0 (.rangeFunc (.tmp 6) #[7] (wV Qp 138) (AU Qp 138)))) (eU (eU a8H))):=by kernel_rfl
 have x0:dR X0 Qp T (iE (n+1)) LL 138 false (Cc Qp 138) 2 (eP a8H) ⟨lu X0 0 [.nil .aP,vF],[],[.iG (kV.im t),.aF [.map 0]]⟩ .norm ⟨[(1,.val vF),(2,.val (.ptr 2 0 1)),(4,.val (.nil .aP))],[],H3 t (.nil .aP)⟩:=zL hX gG (an:=.n) (by kernel_rfl) (.r rfl);have x1:dR X0 Qp T (iE (n+1)) LL 138 false (Cc Qp 138) 2 (eP (eP (eU a8H))) ⟨[(1,.val vF),(2,.val (.ptr 2 0 1)),(4,.val (.nil .aP))],[],H3 t (.nil .aP)⟩ .norm ⟨a8I,[],H3 t (.nil .aP)⟩:=zL hX gG (an:=.n) (by kernel_rfl) (.r rfl);have:=Dy (X:=X0) (P:=Qp) (T:=T) (L:=LL) (n:=n+1) (f:=138) (first:=[]) (cap:=[]) (xs:=[.nil .aP,vF]) (H:=[.iG (kV.im t),.aF [.map 0]]) (N:=[.ny ((lY t).map LV)]) (v:=.aP 2 0 t.length t.length 1 false) (tv:=fun k=>.aP k 0 t.length t.length 1 false) (tN:=[.ny ((lY t).map Ro)]) (t:=TG Qp 138) hX (by kernel_rfl) (by kernel_rfl) (by kernel_rfl) rfl (fun A m h hr=>aaB (H:=[.iG (kV.im t),.aF [.map 0]]) (n:=t.length) (sz:=1) (Ku _) hr) ?_
 .exact this
 rw[e0];refine aJ.Bq (by kernel_rfl) x0 (aJ.seq (R:=fun e s=>e=.norm∧∃(l:LI0) (seen:List Nat),l.Perm (t.map fun e:V×Int=>e.2)∧s=⟨a8I,[],H3 t (.own 6)++[.mark,Qu false (some .skip),.dn 0 t.length seen,.list false false 3 l]⟩) (aJ.Bq (by kernel_rfl) x1 (aJ.block ?_)) (fun s hs=>?_) (fun i s h=>by cases h.1) (fun s h=>by cases h.1))
 .refine aJ.range (f1:=139) (a1:=[]) (b1:=[.ptr 1 0 1]) (K:=fun v H1=>∃(l:LI0) (seen:List Nat),l.Perm (t.map fun e:V×Int=>e.2)∧H1=H3 t (.own 6)++[.mark,Qu true none,.dn 0 t.length seen,.list false false 3 l]) hX rfl (by kernel_rfl) (by kernel_rfl) (alv (n:=n) h ht) (fun v H1 hk=>?_);obtain⟨l,seen,h1,rfl⟩:=hk;exact⟨true,_,_,_,_,_,_,none,.norm,rfl,rfl,rfl,l,seen,h1,rfl⟩
 obtain⟨_,l,seen,h1,rfl⟩:=hs;have hl:l≠[]:=fun e=>by subst e;have:=h1.length_eq;rw[a4S]at this;exact absurd (a4I this.symm) ht
 have hlen:t.length=l.length:=by rw[h1.length_eq,a4S]
 refine aJ.step (by kernel_rfl) (zL (e:=.ret) (ps1:=⟨[(4,.val (.own 6))],[],H3 t (.own 6)++[.mark,Qu false (some .skip),.dn 0 t.length seen,.list false false 3 l]⟩) hX gG (an:=.n) (by kernel_rfl) (.r rfl)) ⟨.inr rfl,[.own 6],by kernel_rfl,?_⟩;rw[<-a4t h1,hlen];exact a7j hX (i:=6) (ty:=3) (l:=l) rfl hl (EG _) La
end
def Kv:LI0->Int
 | []=>0
 |x::l=>l.foldl max x
theorem Yz:∀(l:LI0) (x:Int),(l.foldl max x=x∨l.foldl max x∈l)∧x<=l.foldl max x∧∀y∈l,y<=l.foldl max x
 | [],x=>⟨.inl rfl,a9r _,fun y hy=>by cases hy⟩
 |a::l,x=>by
  obtain⟨h1,h2,h3⟩:=Yz l (max x a);rw[ae5];have hm:max x a=x∨max x a=a:=by omega
  refine⟨?_,by omega,fun y hy=>?_⟩
  .rcases h1 with h1|h1
   .rcases hm with e|e
    .exact .inl (h1.trans e)
    rw[h1,e];exact .inr (by simp)
   exact .inr (by simp[h1])
  rcases a1Y.1 hy with rfl|hy
  .omega
  exact h3 y hy
theorem Qv{l:LI0}(h:l≠[]):Kv l∈l∧∀y∈l,y<=Kv l:=by
 cases l with
 |nil=>exact absurd rfl h
 |cons x l=>
  obtain⟨h1,h2,h3⟩:=Yz l x;refine⟨?_,fun y hy=>?_⟩
  .rcases h1 with h1|h1
   .show l.foldl max x∈_;rw[h1];simp
   exact a3y _ h1
  rcases a1Y.1 hy with rfl|hy
  .exact h2
  exact h3 y hy
theorem a4u{l l':LI0}(h:l.Perm l')(hl:l≠[]):Kv l=Kv l':=by
 have hl':l'≠[]:=fun e=>by subst e;exact hl h.eq_nil
 obtain⟨a1,a2⟩:=Qv hl;obtain⟨b1,b2⟩:=Qv hl';have:=a2 _ (h.mem_iff.2 b1);have:=b2 _ (h.mem_iff.1 a1);omega
open Go Tw Pv bP
abbrev ApM(n:Nat):aZ:=lq Qp Tm (2^24) n
theorem okM{n:Nat}:jK X0 Qp (ApM n) aas:=fun _ _ _ _ _ h _=>by cases h
def gMx(l:LI0)(k:Nat)(m:Int):Int:=if l.getD (i64.wrap ((k:Int)+1)).toNat 0>m then l.getD (i64.wrap ((k:Int)+1)).toNat 0 else m
theorem a2z{x:Int}{r:LI0}(h:r.length<=ah):∀k,k<=r.length->aS (gMx (x::r)) k 0 x=(r.take k).foldl max x
 | 0,_=>rfl
 |k+1,hk=>by
  rw[tV,a2z h k (by omega)];unfold gMx;rw[a3W,yA (by omega),a5p];have e:(x::r).getD (k+1) 0=r[k]'(by omega):=by simp[List.getD,a0q (show k<r.length by omega)]
  rw[e,a8n (by omega),List.foldl_append];simp only[ae5,List.foldl_nil];omega
abbrev wMx(l:LI0)(m i:Int)(x:List (Nat×PE aG)):aU aG:=⟨[(0,xL 3 l),(3,xi m),(4,xi (i64.wrap (i+1)))]++x,[],[]⟩
set_option maxRecDepth 20000 in
theorem aly{l:LI0}(h0:l≠[])(hl:l.length<=2000):dG X0 Qp (ApM 2) (.fn 94 [] []) [.dF 3 l false] [] (.int .i64 (Kv l)) []:=by
 cases l with
 |nil=>exact absurd rfl h0
 |cons x r=>
  have hr:r.length<=ah:=by have:(x::r).length=r.length+1:=rfl;unfold ah;omega
  have lp:dR X0 Qp Tm (ApM 1) LL 94 false (Cc Qp 94) 0 (.loop (Tf Qp 94 0)) ⟨[(0,xL 3 (x::r)),(3,xi x),(4,xi 1)],[],[]⟩ (.exit 0) (wMx (x::r) (aS (gMx (x::r)) r.length 0 x) r.length [(15,xl false)]):=by
   refine P9 (X:=X0) (N:=r.length) (g:=gMx (x::r)) (s0:=x) (st:=fun i m=>wMx (x::r) m i []) (fin:=fun m=>wMx (x::r) m r.length [(15,xl false)]) (fun _ _=>True) (by kernel_rfl) hr TK trivial (fun _ _ _ _=>trivial) (fun k m hk _ n e p g9=>?_) (fun m _=>?_)
   .have e1:i64.wrap ((k:Int)+1)=((k+1:Nat):Int):=yA (by omega);have t1:decide (i64.wrap ((k:Int)+1)<((x::r).length:Int))=true:=by rw[e1,a1z,a4K];omega
    have i1:gu (i64.wrap ((k:Int)+1)) (x::r).length:=by rw[e1];exact aH (by rw[a4K];omega)
    exact round hX okM (by kernel_rfl) (.b t1 (.o i1 (.go g9)))
   have e1:i64.wrap ((r.length:Int)+1)=((r.length+1:Nat):Int):=yA (by omega);have t1:decide (i64.wrap ((r.length:Int)+1)<((x::r).length:Int))=false:=by rw[e1,a3b,a4K];omega
   exact round hX okM (by kernel_rfl) (.b t1 .ex)
  have e:aS (gMx (x::r)) r.length 0 x=Kv (x::r):=by rw[a2z hr _ (a0P _),adC];rfl
  rw[e]at lp;have hc:((x::r).length:Int)=r.length+1:=by simp
  have t0:decide (((x::r).length:Int)<1)=false:=by rw[a3b,hc];omega
  have i0:gu 0 (x::r).length:=⟨by decide,by rw[hc];omega⟩;exact nH hX okM (first:=[]) (cap:=[]) (by kernel_rfl) (.b t0 (.o i0 (.w lp .er)))
theorem abA(n:Nat)(x:TV)(h:List HB):lq Qp T LL (n+1) (.fn 94 [] []) [x] h=a3C 94 (ApM 2) (.fn 94 [] []) [x] h:=rfl
theorem alz{n:Nat}{vs:LI0}(h0:vs≠[])(hl:vs.length<=2000):iJ (n+1) (.fn 94 [] []) [.aP 0 0 vs.length vs.length 1 false] [.ny (vs.map LV)] (.int .i64 (Kv vs)) [.ny (vs.map LV)]:=by
 intro A m h tf qP hr hf hx;obtain⟨x,r,rfl,h1,h2⟩:=hx.inv;have:=h2.inv0;subst this;have htf:=hf.Vf;subst htf;obtain⟨mb,g1,g2⟩:=hr.at_ 0 _ rfl;cases mb with
 |gq c=>
  obtain⟨ts,g3,g4⟩:=g2;have g5:=g4.symm.trans (Ku vs);cases g5;have hx2:x=.aP c 0 vs.length vs.length 1 false:=by
   cases h1 with
   |aP e=>rw[g1]at e;cases e;rfl
   |gone hi e _=>simp only[bn,a0d]at hi;subst hi;rw[g1]at e;cases e
  subst hx2;have Gf:c∈bg m:=bf g1 rfl;have aT:=(a0h.1 g3).1;show ∃w h1 ws m1,lq Qp T LL (n+1) _ _ h=_∧_;rw[abA,aay (k:=.i64) (n:=Kv vs)]
  .exact⟨_,h,[],m,rfl,hr,.int _ _,.refl,.refl,fun b hb=>by cases hb⟩
  .refine⟨⟨_,_,rfl⟩,rfl,fun h' hu=>?_⟩;obtain⟨cs',p1,p2⟩:=hu.2 c _ g3;obtain⟨l,hp,rfl⟩:∃l:LI0,l.Perm vs∧cs'=l.map Ro:=by
    have hq:∀y∈cs',∃i:Int,y=Ro i:=fun y hy=>by obtain⟨i,_,rfl⟩:=a0V.1 (p1.mem_iff.1 hy);exact⟨i,rfl⟩
    have hun:∀L:List TV,(∀y∈L,∃i:Int,y=Ro i)->∃l:LI0,L=l.map Ro:=by
     intro L
     induction L with
     |nil=>exact fun _=>⟨[],rfl⟩
     |cons y L ih=>
      intro hL;obtain⟨i,rfl⟩:=hL y (by simp);obtain⟨l,rfl⟩:=ih fun z hz=>hL z (by simp[hz]);exact⟨i::l,rfl⟩
    obtain⟨l,rfl⟩:=hun cs' hq;refine⟨l,?_,rfl⟩;have:=p1.map fun y=>match y with|.int _ n=>n|_=>0
    rw[a6B,a6B]at this;simpa[Function.comp_def]using this
   have hlen:l.length=vs.length:=hp.length_eq;have qO:l≠[]:=fun e=>by subst e;exact h0 (a4I hlen.symm)
   have alA:h'.length=h.length:=by
    have e:=fun b=>Tv hu b;refine Nat.le_antisymm (acK fun hb=>?_) (acK fun hb=>?_)
    .have:=e h.length;rw[a0q hb,a4L (a0P _)]at this;cases this
    have:=e h'.length;rw[a0q hb,a4L (a0P _)]at this;cases this
   have hm:=aly qO (by omega);have hvr:Pv.VR X0 Qp (AA A []) [] h' (.dF 3 l false) (.aP c 0 vs.length vs.length 1 false):=by
    rw[<-hlen];refine Pv.VR.dF (cs:=l.map Ro) ⟨hr.Df c Gf,by simp[bg]⟩ (by simp only[aW,p2]) (fun _=>by simp[mG,p2]) La (by decide) (by simp;exact a0P _) (a0P _) (by intro h;cases h) ?_ ?_
    .intro j a _;rfl
    have hrw:=TQ (A:=AA A []) (m:=[]) (h:=h') l;intro j a i c v a1 a2 a3;exact hrw.2.2 j a i c v a1 a2 a3
   obtain⟨w,h2,ws,m1,c1,c2,c3,c4,c5,c6⟩:=hm A [] h' (.fn 94 [] []) [.aP c 0 vs.length vs.length 1 false] ⟨rfl,fun i b hi=>by simp at hi,by simp[bg],fun b hb=>hr.up b (by rw[<-alA];exact hb),fun b hb=>by simp[bg]at hb⟩ (.fn rfl (fun i x y hi=>by simp at hi) rfl (fun i x y hi=>by simp at hi)) (.cons hvr .nil)
   .have hw:w=.int .i64 (Kv vs):=by rw[<-a4u hp qO];exact c3.a1J
    subst hw;have YZ:ws=[]:=a5D.2 fun b hb=>by have:=c6 b hb;simp[bg]at this
    subst YZ;exact⟨h2,c1⟩
  obtain⟨h',hu⟩:∃h',Pn h h':=⟨_,XF h (fun b=>match h[b]? with|some (.ny cs)=>cs|_=>[]) fun b cs e=>by rw[e]⟩;exact⟨h',hu⟩
 |_=>exact g2.elim
open Go Tw Pv bP
theorem alB{n:Nat}(hO:Ok n su){k:Int}(hk:0<=k∧k<=6):iJ (n+1) (.fn 124 [] []) [.own 0,.int .i64 k] [.list true true 3 ([-1]:LI0)] (.own 1) [.list true true 3 ([-1]:LI0),.list true true 3 (List.replicate k.toNat (-1):LI0)]:=by
 rcases a8i hk with rfl|rfl|rfl|rfl|rfl|rfl|rfl
 .exact fA hO (first:=[]) (cap:=[]) (.b (rfl:decide ((0:Int)<0)=false) (.o (rfl:(1:Int)=1) (.o (⟨by decide,by decide⟩:(0:Int)<=0∧(0:Int)<=6) (.b (rfl:decide ((0:Int)>0)=false) (.b (rfl:decide ((0:Int)>9223372036854775807)=false) (.o (rfl:(0:Int)=0) (.o (show(0:Int)<=0 by decide) (.o (show(0:Int)<=(ah:Int) by decide) (.m 8 le8 (.b (rfl:decide ((0:Int)<0)=false) .er))))))))))
 .exact fA hO (first:=[]) (cap:=[]) (.b (rfl:decide ((1:Int)<0)=false) (.o (rfl:(1:Int)=1) (.o (⟨by decide,by decide⟩:(0:Int)<=1∧(1:Int)<=6) (.b (rfl:decide ((0:Int)>0)=false) (.b (rfl:decide ((1:Int)>9223372036854775807)=false) (.o (rfl:(1:Int)=1) (.o (show(0:Int)<=1 by decide) (.o (show(1:Int)<=(ah:Int) by decide) (.m 8 le8 (.b (rfl:decide ((1:Int)<1)=false) .er))))))))))
 .exact fA hO (first:=[]) (cap:=[]) (.b (rfl:decide ((2:Int)<0)=false) (.o (rfl:(1:Int)=1) (.o (⟨by decide,by decide⟩:(0:Int)<=2∧(2:Int)<=6) (.b (rfl:decide ((0:Int)>0)=false) (.b (rfl:decide ((2:Int)>9223372036854775807)=false) (.o (rfl:(2:Int)=2) (.o (show(0:Int)<=2 by decide) (.o (show(2:Int)<=(ah:Int) by decide) (.m 8 le8 (.b (rfl:decide ((1:Int)<2)=true) (.o (show(0:Int)<=1 by decide) (.o (show(1:Int)<=2 by decide) (.o (show(2:Int)<=2 by decide) (.o (show(0:Int)<=0 by decide) (.o (show(0:Int)<=1 by decide) (.o (show(1:Int)<=2 by decide) (.b (rfl:decide ((2:Int)<2)=false) .er)))))))))))))))))
 .exact fA hO (first:=[]) (cap:=[]) (.b (rfl:decide ((3:Int)<0)=false) (.o (rfl:(1:Int)=1) (.o (⟨by decide,by decide⟩:(0:Int)<=3∧(3:Int)<=6) (.b (rfl:decide ((0:Int)>0)=false) (.b (rfl:decide ((3:Int)>9223372036854775807)=false) (.o (rfl:(3:Int)=3) (.o (show(0:Int)<=3 by decide) (.o (show(3:Int)<=(ah:Int) by decide) (.m 8 le8 (.b (rfl:decide ((1:Int)<3)=true) (.o (show(0:Int)<=1 by decide) (.o (show(1:Int)<=3 by decide) (.o (show(3:Int)<=3 by decide) (.o (show(0:Int)<=0 by decide) (.o (show(0:Int)<=1 by decide) (.o (show(1:Int)<=3 by decide) (.b (rfl:decide ((2:Int)<3)=true) (.o (show(0:Int)<=2 by decide) (.o (show(2:Int)<=3 by decide) (.o (show(3:Int)<=3 by decide) (.o (show(0:Int)<=0 by decide) (.o (show(0:Int)<=2 by decide) (.o (show(2:Int)<=3 by decide) (.b (rfl:decide ((3:Int)<3)=false) .er))))))))))))))))))))))))
 .exact fA hO (first:=[]) (cap:=[]) (.b (rfl:decide ((4:Int)<0)=false) (.o (rfl:(1:Int)=1) (.o (⟨by decide,by decide⟩:(0:Int)<=4∧(4:Int)<=6) (.b (rfl:decide ((0:Int)>0)=false) (.b (rfl:decide ((4:Int)>9223372036854775807)=false) (.o (rfl:(4:Int)=4) (.o (show(0:Int)<=4 by decide) (.o (show(4:Int)<=(ah:Int) by decide) (.m 8 le8 (.b (rfl:decide ((1:Int)<4)=true) (.o (show(0:Int)<=1 by decide) (.o (show(1:Int)<=4 by decide) (.o (show(4:Int)<=4 by decide) (.o (show(0:Int)<=0 by decide) (.o (show(0:Int)<=1 by decide) (.o (show(1:Int)<=4 by decide) (.b (rfl:decide ((2:Int)<4)=true) (.o (show(0:Int)<=2 by decide) (.o (show(2:Int)<=4 by decide) (.o (show(4:Int)<=4 by decide) (.o (show(0:Int)<=0 by decide) (.o (show(0:Int)<=2 by decide) (.o (show(2:Int)<=4 by decide) (.b (rfl:decide ((4:Int)<4)=false) .er))))))))))))))))))))))))
 .exact fA hO (first:=[]) (cap:=[]) (.b (rfl:decide ((5:Int)<0)=false) (.o (rfl:(1:Int)=1) (.o (⟨by decide,by decide⟩:(0:Int)<=5∧(5:Int)<=6) (.b (rfl:decide ((0:Int)>0)=false) (.b (rfl:decide ((5:Int)>9223372036854775807)=false) (.o (rfl:(5:Int)=5) (.o (show(0:Int)<=5 by decide) (.o (show(5:Int)<=(ah:Int) by decide) (.m 8 le8 (.b (rfl:decide ((1:Int)<5)=true) (.o (show(0:Int)<=1 by decide) (.o (show(1:Int)<=5 by decide) (.o (show(5:Int)<=5 by decide) (.o (show(0:Int)<=0 by decide) (.o (show(0:Int)<=1 by decide) (.o (show(1:Int)<=5 by decide) (.b (rfl:decide ((2:Int)<5)=true) (.o (show(0:Int)<=2 by decide) (.o (show(2:Int)<=5 by decide) (.o (show(5:Int)<=5 by decide) (.o (show(0:Int)<=0 by decide) (.o (show(0:Int)<=2 by decide) (.o (show(2:Int)<=5 by decide) (.b (rfl:decide ((4:Int)<5)=true) (.o (show(0:Int)<=4 by decide) (.o (show(4:Int)<=5 by decide) (.o (show(5:Int)<=5 by decide) (.o (show(0:Int)<=0 by decide) (.o (show(0:Int)<=4 by decide) (.o (show(4:Int)<=5 by decide) (.b (rfl:decide ((5:Int)<5)=false) .er)))))))))))))))))))))))))))))))
 exact fA hO (first:=[]) (cap:=[]) (.b (rfl:decide ((6:Int)<0)=false) (.o (rfl:(1:Int)=1) (.o (⟨by decide,by decide⟩:(0:Int)<=6∧(6:Int)<=6) (.b (rfl:decide ((0:Int)>0)=false) (.b (rfl:decide ((6:Int)>9223372036854775807)=false) (.o (rfl:(6:Int)=6) (.o (show(0:Int)<=6 by decide) (.o (show(6:Int)<=(ah:Int) by decide) (.m 8 le8 (.b (rfl:decide ((1:Int)<6)=true) (.o (show(0:Int)<=1 by decide) (.o (show(1:Int)<=6 by decide) (.o (show(6:Int)<=6 by decide) (.o (show(0:Int)<=0 by decide) (.o (show(0:Int)<=1 by decide) (.o (show(1:Int)<=6 by decide) (.b (rfl:decide ((2:Int)<6)=true) (.o (show(0:Int)<=2 by decide) (.o (show(2:Int)<=6 by decide) (.o (show(6:Int)<=6 by decide) (.o (show(0:Int)<=0 by decide) (.o (show(0:Int)<=2 by decide) (.o (show(2:Int)<=6 by decide) (.b (rfl:decide ((4:Int)<6)=true) (.o (show(0:Int)<=4 by decide) (.o (show(4:Int)<=6 by decide) (.o (show(6:Int)<=6 by decide) (.o (show(0:Int)<=0 by decide) (.o (show(0:Int)<=4 by decide) (.o (show(4:Int)<=6 by decide) (.b (rfl:decide ((6:Int)<6)=false) .er)))))))))))))))))))))))))))))))
def dP(D:List Dg):Jb:=⟨(D.getD 0 jk).ay,(D.getD 0 jk).aB,D,List.replicate (D.getD 0 jk).ay.length (-1)⟩
theorem alC{n f:Nat}(hO:Ok (n+1) su)(BU:Ok n su){D:List Dg}(h0:0<D.length)(h6:(D.getD 0 jk).ay.length<=6){k ex:Bool}:iJ (n+2) (.fn 78 [] []) [.fn f [] [],.own 0] [.list k ex 26 D] (.agg [lI (dP D).s,lI (dP D).o,.own 0,.own 1,.fn f [] []]) [.list k ex 26 D,.list true true 3 (dP D).g]:=by have i0:gu 0 D.length:=aH h0;have hs:=alB BU (k:=((D.getD 0 jk).ay.length:Int)) ⟨by omega,by omega⟩;rw[a5p]at hs;have h:iJ (n+2) (.fn 78 [] []) [.fn f [] [],.own 0] [.list k ex 26 D] (.agg [lI (dP D).s,lI (dP D).o,.own 0,.own 2,.fn f [] []]) [.list k ex 26 D,.list true true 3 ([-1]:LI0),.list true true 3 (dP D).g]:=fA hO (first:=[]) (cap:=[]) (.o i0 (.o i0 (.o i0 (.fr [1] hs .er))));exact dG.gs hX h [.gc [2]] rfl
theorem alD{n f:Nat}(u:Int)(hO:Ok (n+1) su)(BU:Ok n su){D:List Dg}(h0:0<D.length)(h6:(D.getD 0 jk).ay.length<=6){k ex:Bool}:iJ (n+2) (.fn 78 [] []) [.fn f [] [.ptr 1 0 1],.own 0] [.list k ex 26 D,.aF [.int .u8 u]] (.agg [lI (dP D).s,lI (dP D).o,.own 0,.own 2,.fn f [] [.ptr 1 0 1]]) [.list k ex 26 D,.aF [.int .u8 u],.list true true 3 (dP D).g]:=by have i0:gu 0 D.length:=aH h0;have hs:=alB BU (k:=((D.getD 0 jk).ay.length:Int)) ⟨by omega,by omega⟩;rw[a5p]at hs;have h:iJ (n+2) (.fn 78 [] []) [.fn f [] [.ptr 1 0 1],.own 0] [.list k ex 26 D,.aF [.int .u8 u]] (.agg [lI (dP D).s,lI (dP D).o,.own 0,.own 3,.fn f [] [.ptr 1 0 1]]) [.list k ex 26 D,.aF [.int .u8 u],.list true true 3 ([-1]:LI0),.list true true 3 (dP D).g]:=fA hO (first:=[]) (cap:=[]) (.o i0 (.o i0 (.o i0 (.fr [2] hs .er))));exact dG.gs hX h [.gc [3]] rfl
theorem aqK{n f:Nat}{J:Jb}{d:Dg}{k ex k2 LW:Bool}(h:iJ n (.fn 80 [] []) [.agg (J.ps (.fn f [] []))] [] (dA.put d) []):iJ n (.fn 80 [] []) [.agg [lI J.s,lI J.o,.own 0,.own 1,.fn f [] []]] [.list k ex 26 J.D,.list k2 LW 3 J.g] (dA.put d) [.gone,.gone]:=by have h1:=dG.frame hX (ks:=[]) (H':=[.gone,.gone]) (Hp:=[]) (QD:=[]) (v':=dA.put d) (fv':=.fn 80 [] []) (xs':=[.agg (J.ps (.fn f [] []))]) h (by decide) rfl rfl rfl rfl rfl rfl rfl;exact dG.fz hX (H:=[.list k ex 26 J.D,.list k2 LW 3 J.g]) (cs:=[lI J.s,lI J.o,.own 0,.own 1]) (rest:=[.fn f [] []]) [0,1] h1 rfl (fun i hi=>by simpa[l7.kH,l7]using hi)
theorem aqL{n f:Nat}{u:Int}{J:Jb}{d:Dg}{k ex k2 LW:Bool}(h:iJ n (.fn 80 [] []) [.agg (J.ps (.fn f [] [.ptr 0 0 1]))] [.aF [.int .u8 u]] (dA.put d) [.aF [.int .u8 u]]):iJ n (.fn 80 [] []) [.agg [lI J.s,lI J.o,.own 0,.own 2,.fn f [] [.ptr 1 0 1]]] [.list k ex 26 J.D,.aF [.int .u8 u],.list k2 LW 3 J.g] (dA.put d) [.gone,.aF [.int .u8 u],.gone]:=by have h1:=dG.frame hX (ks:=[1]) (H':=[.gone,.aF [.int .u8 u],.gone]) (Hp:=[.aF [.int .u8 u]]) (QD:=[.aF [.int .u8 u]]) (v':=dA.put d) (fv':=.fn 80 [] []) (xs':=[.agg (J.ps (.fn f [] [.ptr 1 0 1]))]) h (by decide) rfl rfl rfl rfl rfl rfl rfl;exact dG.fz hX (H:=[.list k ex 26 J.D,.aF [.int .u8 u],.list k2 LW 3 J.g]) (cs:=[lI J.s,lI J.o,.own 0,.own 2]) (rest:=[.fn f [] [.ptr 1 0 1]]) [0,2] h1 rfl (fun i hi=>by simpa[l7.kH,l7]using hi)
open Go Tw Pv bP
structure DgG(d:Dg):Prop where
 t:BX d
 n:d.aj.length<=6000
 ord:jW d.ay.length d.aB=true
 rk:∀i,i<d.aj.length->∀k,k<(fB d i).aA.length->d.aB.idxOf (fB d i).var+1<=EO d.aB d.aj ((fB d i).aA.getD k 0)
 two:∀i,i<d.aj.length->2<=(fB d i).aA.length
 c:∀v∈d.aK,J4 v
 dd:DgD d
 l0:aX d=0
theorem agK{d:Dg}(hp:nM d)(h:iW d=0):DgG d:=by
 have h0:aX d=0∧qh d=true:=by
  unfold iW at h;split at h
  .rename_i c;rw[h]at c;cases c
  rename_i c;split at h
  .cases h
  rename_i c2;exact⟨by simpa using c,by simpa using c2⟩
 have ho:d.aB.length<=ah:=by have:=hp.o;unfold ah;omega
 have he:d.aK.length<=ah:=by have:=hp.e;omega
 obtain⟨t,n⟩:=jL ho he (by rw[h0.1];rfl);obtain⟨D,_⟩:=Ye.1 h0.2;have hf:bK d.ay d.aB=0∧lW d=true:=by
  have hl:=h0.1;unfold aX at hl;split at hl
  .rename_i c;rw[hl]at c;cases c
  rename_i c;split at hl
  .cases hl
  split at hl
  .cases hl
  rename_i _ c2;exact⟨by simpa using c,by simpa using c2⟩
 obtain⟨cu,ord⟩:=jw.1 hf.1;refine⟨t,n,ord,Yl h0.1,fun i hi=>?_,fun v hv=>?_,D,h0.1⟩
 .have:=D.flat i hi;rcases hk:(fB d i).aA with _|⟨a,_|⟨b,r⟩⟩
  .rw[hk]at this;simp at this
  .rw[hk]at this;simp at this
  simp
 refine⟨?_,hp.r.fault v hv⟩;have hl:=hf.2;unfold lW at hl;obtain⟨k,hk,e⟩:=a8B hv;have hs:jZ (bG (cLe d) d.aK.length)=true:=by revert hl;cases jZ (bG (cLe d) d.aK.length)<;>simp
 have:=dL.1 hs k hk;unfold cLe at this;rw[a3s,a0q hk]at this;simpa[e]using this
theorem Qw{l:List Dg}(hp:∀d∈l,nM d)(h:bF l=0):∀d∈l,DgG d∧d.ay=(l.getD 0 jk).ay∧d.aB=(l.getD 0 jk).aB:=by
 intro d hd;unfold bF at h;split at h
 .rename_i c;split at h
  .cases h
  rename_i c2;simp only[aeo,acg,a4W]at c2;have e:=c2 d hd;unfold xq at e;split at e
  .rename_i e1;refine⟨agK (hp d hd) ?_,by simpa using e1,by simpa using e⟩;obtain⟨k,hk,e9⟩:=a8B hd;have:=dL.1 c k hk;unfold cCk at this;rw[a3s,a0q hk,a5e,e9]at this;have h9:=hp d hd;rw[Iw h9.r h9.s (by have:=h9.o;unfold ah;omega) h9.e]at this;simpa using this
  cases e
 rename_i c;obtain⟨j,_,e,_,e2⟩:=AQ (by simpa using c);rw[e2]at h;unfold cCk at e;have h':(uy (l.getD j jk)).2=0:=h;rw[h']at e;cases e
theorem ae8{D:List Dg}(h3:D.length<=3)(h0:0<D.length)(h1:∀d∈D,DgG d∧d.ay=(D.getD 0 jk).ay∧d.aB=(D.getD 0 jk).aB):kC (dP D):=by
 have RG:D.getD 0 jk∈D:=dI h0;obtain⟨g0,_,_⟩:=h1 _ RG;refine⟨h3,g0.t.cu,g0.ord,fun k hk=>?_,a6E,fun c hc hg=>?_⟩
 .obtain⟨g,e1,e2⟩:=h1 (lC D k) (dI hk);exact⟨g.t,g.n,e1,e2,g.rk,g.two⟩
 exfalso;revert hg;show ¬(0<=(List.replicate (D.getD 0 jk).ay.length (-1:Int)).getD c.toNat 0);have:=hc.1;have:=hc.2;rw[a3s,adT,a0F (show c.toNat<(D.getD 0 jk).ay.length by have:c<((D.getD 0 jk).ay.length:Int):=hc.2;omega)];decide
theorem yV{D:List Dg}(h3:D.length<=3)(h0:0<D.length)(hp:∀d∈D,nM d)(h:bF D=0):kC (dP D):=ae8 h3 h0 (Qw hp h)
open Go Tw Pv bP
theorem Qx{J:Jb}(hJ:kC J)(hc:∀k,k<J.D.length->∀v∈(lC J.D k).aK,J4 v){op:List V->V}(h:∀l:List V,l.length=J.D.length->(∀v∈l,J4 v)->J4 (op l)):xu J op:=fun t hd=>h _ (by simp[aV]) fun v hv=>by
 unfold aV at hv;obtain⟨k,hk,rfl⟩:=a0V.1 hv;have hk:=a4P.1 hk;have h3:(je (t.get k)).toNat<(lC J.D k).aK.length:=by obtain⟨h1,h2⟩:=(JV hJ hd hk).2;omega
 exact hc k hk _ (dI h3)
theorem Jb.inD{D:List Dg}(hp:∀d∈D,nM d)(h:bF D=0):∀k,k<D.length->∀v∈(lC D k).aK,J4 v:=fun k hk=>(Qw hp h _ (dI hk)).1.c
theorem Kw{n f:Nat}(h2:2<=n)(hO:∀m,n-2<=m->Ok m su){D:List Dg}(h0:0<D.length)(h6:(D.getD 0 jk).ay.length<=6){k ex:Bool}:iJ n (.fn 78 [] []) [.fn f [] [],.own 0] [.list k ex 26 D] (.agg [lI (dP D).s,lI (dP D).o,.own 0,.own 1,.fn f [] []]) [.list k ex 26 D,.list true true 3 (dP D).g]:=by
 have h:=alC (n:=n-2) (f:=f) (hO _ (by omega)) (hO _ (by omega)) h0 h6 (k:=k) (ex:=ex)
 rwa [show n-2+2=n by omega]at h
theorem agL{n f:Nat}(u:Int)(h2:2<=n)(hO:∀m,n-2<=m->Ok m su){D:List Dg}(h0:0<D.length)(h6:(D.getD 0 jk).ay.length<=6){k ex:Bool}:iJ n (.fn 78 [] []) [.fn f [] [.ptr 1 0 1],.own 0] [.list k ex 26 D,.aF [.int .u8 u]] (.agg [lI (dP D).s,lI (dP D).o,.own 0,.own 2,.fn f [] [.ptr 1 0 1]]) [.list k ex 26 D,.aF [.int .u8 u],.list true true 3 (dP D).g]:=by
 have h:=alD (n:=n-2) (f:=f) u (hO _ (by omega)) (hO _ (by omega)) h0 h6 (k:=k) (ex:=ex)
 rwa [show n-2+2=n by omega]at h
theorem a8J{n f:Nat}{J:Jb}(hJ:kC J){op:List V->V}(kW:xu J op)(h2:20<=n)(hO:∀m,n-20<=m->Ok m Iz)(hs:∀m,n-20<=m->∀l:List V,l.length=J.D.length->dG X0 Qp (iE m) (.fn f [] []) [lV l] [] (.agg (op l).ps) []){k ex k2 LW:Bool}:iJ n (.fn 80 [] []) [.agg [lI J.s,lI J.o,.own 0,.own 1,.fn f [] []]] [.list k ex 26 J.D,.list k2 LW 3 J.g] (dA.put (JX J op)) [.gone,.gone]:=by have h6:=(kC.o2 hJ).2.1;have h7:=hJ.cu.len;have h:=agy (N:=n-20) hJ kW hs hO (m:=n-1) (by omega);rw[show n-1+1=n by omega]at h;exact aqK h
theorem alF{n f:Nat}(u:Int){J:Jb}(hJ:kC J){op:List V->V}(kW:xu J op)(h2:20<=n)(hO:∀m,n-20<=m->Ok m Iz)(hs:∀m,n-20<=m->∀l:List V,l.length=J.D.length->dG X0 Qp (iE m) (.fn f [] [.ptr 0 0 1]) [lV l] [.aF [.int .u8 u]] (.agg (op l).ps) [.aF [.int .u8 u]]){k ex k2 LW:Bool}:iJ n (.fn 80 [] []) [.agg [lI J.s,lI J.o,.own 0,.own 2,.fn f [] [.ptr 1 0 1]]] [.list k ex 26 J.D,.aF [.int .u8 u],.list k2 LW 3 J.g] (dA.put (JX J op)) [.gone,.aF [.int .u8 u],.gone]:=by have h6:=(kC.o2 hJ).2.1;have h7:=hJ.cu.len;have h:=agz (N:=n-20) u hJ kW hs hO (m:=n-1) (by omega);rw[show n-1+1=n by omega]at h;exact aqL h
abbrev Ny(a b x:Int):Bool:=if decide (x>=a)=true then decide (x<=b)else false
theorem a8K{k:Nat}{x:Int}(h:(!(Ny 0 (i64.wrap ((k:Int)-1)) x))=false)(hk:k<=ah):gu x k:=by
 rw[wrap_small (by unfold ah at hk;omega) (by unfold ah at hk;omega)]at h;unfold Ny at h;by_cases h1:x>=0
 .simp[h1]at h;exact⟨h1,by omega⟩
 simp[h1]at h
theorem abB{z x:Int}(h:(!(Ny 0 (i64.wrap (z-1)) x))=false)(h0:0<=z)(h1:z<=12):0<=x∧x<z:=by
 rw[wrap_small (by omega) (by omega)]at h;unfold Ny at h;by_cases h1:x>=0
 .simp[h1]at h;exact⟨h1,by omega⟩
 simp[h1]at h
def alG(d:Dg)(c g:Int):Jb:=⟨d.ay,d.aB,[d],(dP [d]).g.set c.toNat g⟩
abbrev op0(l:List V):V:=l.getD 0 V0
theorem abC{d:Dg}(hp:nM d)(h:bF [d]=0){c g:Int}(hc:gu c d.ay.length)(hg:0<=g∧g<d.ay.getD c.toNat 0):kC (alG d c g):=by
 have hJ:=yV (D:=[d]) (by simp) (by simp) (fun x hx=>by rw[a1S.1 hx];exact hp) h;refine⟨hJ.d3,hJ.cu,hJ.ord,fun k hk=>have h:=hJ.dg k hk;⟨h.t,h.n,h.s,h.o,h.rk,h.two⟩,?_,fun c2 Gu h2=>?_⟩
 .show((dP [d]).g.set c.toNat g).length=_;rw[a4Y];exact hJ.gl
 have hl:(dP [d]).g.length=d.ay.length:=hJ.gl;have a0:=hc.1;have a1:=hc.2;have b0:=Gu.1;have b1:c2<(d.ay.length:Int):=Gu.2
 change 0<=((dP [d]).g.set c.toNat g).getD c2.toNat 0 at h2
 show((dP [d]).g.set c.toNat g).getD c2.toNat 0<d.ay.getD c2.toNat 0;by_cases e:c.toNat=c2.toNat
 .rw[<-e,a3s,a2M (by omega)];exact hg.2
 rw[a3s,a1B e,<-a3s]at h2 ⊢;exact hJ.gv c2 Gu h2
theorem alH{m:Nat}(hO:Ok m su){l:List V}(h:0<l.length):dG X0 Qp (iE m) (.fn 79 [] []) [lV l] [] (.agg (op0 l).ps) []:=nS.Ql hX (first:=[]) (cap:=[]) (hO 79 [lV l] (vA.put (op0 l)) [] [0<l.length] (by kernel_rfl) (fun p h9=>by rw[a1S.1 h9];exact h)) rfl rfl rfl rfl
def Ll(p:Dg×Int×Int):Dg×Int:=if(bF [p.1] != 0)=true then(jk,bF [p.1])else if(!(Ny 0 (i64.wrap ((p.1.ay.length:Int)-1)) p.2.1))=true then(jk,3)else if(!(Ny 0 (i64.wrap (p.1.ay.getD p.2.1.toNat 0-1)) p.2.2))=true then(jk,3)else(JX (alG p.1 p.2.1 p.2.2) op0,0)
def alI:eY aG:=bZ 20 (a3 dA iA iA) (dO (a2 dA iA)) Ll (fun p=>[nM p.1]) su
theorem a4v:(1:Nat)<=ah:=by unfold ah;omega
theorem aqO:Gd alI:=Good.Xy 24 IG Yn fun n hn hO Gw p hp=>by
 have h1:nM p.1:=hp _ gY;have h2:∀d∈[p.1],nM d:=fun x hx=>by rw[a1S.1 hx];exact h1
 have h3:0<[p.1].length∧[p.1].length<=ah:=⟨by simp,a4v⟩;obtain⟨d,c,g⟩:=p;show nS X0 Qp _ _ _ ((dO (a2 dA iA)).put (Ll (d,c,g))) _;unfold Ll;have hJ:(bF [d] != 0)=false->kC (dP [d]):=fun e1=>yV (D:=[d]) (by simp) (by simp) h2 (by simpa using e1);have hc:(bF [d] != 0)=false->(!(Ny 0 (i64.wrap ((d.ay.length:Int)-1)) c))=false->gu c d.ay.length:=fun _ e2=>a8K e2 h1.s;have s1:=fun(e1:(bF [d] != 0)=false)=>Kw (n:=n) (f:=79) (by omega) (fun m hm=>hO m (by omega)) (D:=[d]) (by simp) (hJ e1).cu.len (k:=true) (ex:=true);have s2:=fun(e1:(bF [d] != 0)=false) (e2:(!(Ny 0 (i64.wrap ((d.ay.length:Int)-1)) c))=false) (e3:(!(Ny 0 (i64.wrap (d.ay.getD c.toNat 0-1)) g))=false)=>
  have hz:=(hJ e1).cu.sz (d.ay.getD c.toNat 0) (dB (show c.toNat<d.ay.length by obtain⟨a,b⟩:=hc e1 e2;omega));have hR:=abC h1 (by simpa using e1) (hc e1 e2) (abB e3 (Int.le_trans (by decide) hz.1) hz.2)
  a8J (n:=n) (f:=79) hR (Qx hR (Jb.inD h2 (show bF [d]=0 by simpa using e1)) fun l hl hv=>hv _ (dI (by rw[hl];exact Nat.zero_lt_one))) (by omega) (fun m hm=>Gw m (by omega)) (fun m hm l hl=>alH (hO m (by omega)) (by rw[hl];exact Nat.zero_lt_one)) (k:=true) (ex:=true) (k2:=true) (LW:=true)
 have i2:=fun(e1:(bF [d] != 0)=false) (e2:(!(Ny 0 (i64.wrap ((d.ay.length:Int)-1)) c))=false)=>show gu c (dP [d]).g.length by rw[(hJ e1).gl];exact hc e1 e2
 exact aO (hO n (by omega)) (.o h2 (.o h3 (.sh (fun _=>.rn (.dJ [.agg [.nil .aP,.nil .aP,.nil .aP,.nil .aP,.int .i64 0],.int .i64 (bF [d])]) rfl) fun e1=>.sh (fun _=>.rn (.dJ [.agg [.nil .aP,.nil .aP,.nil .aP,.nil .aP,.int .i64 0],.int .i64 3]) rfl) fun e2=>.o (hc e1 e2) (.sh (fun _=>.rn (.dJ [.agg [.nil .aP,.nil .aP,.nil .aP,.nil .aP,.int .i64 0],.int .i64 3]) rfl) fun e3=>.fr [1] (s1 e1) (.o (i2 e1 e2) (.fr [1,2] (s2 e1 e2 e3) .rr))))))
open Go Tw Pv bP
def Fv(k:Int):Bool:=decide (7<=k∧k<=16)
def pR(k:Int)(a b:V):V×Int:=if Fv k=true then Il k a b else(V0,2)
theorem bne{a b:Int}(h:a≠b):(a==b)=false:=by simpa using h
def a8L:eY aG:=a05 101 (a1 uA) (fun _=>.nil .fn) (fun _=>[]) (fun p=>[Fv p=false]) alI
theorem agM:Gd a8L:=aqO.Xx 0 fun n _ hO p hp=>by
 have h:¬(7<=p∧p<=16):=by simpa[Fv]using hp _ gY
 exact BJ hX (hO n (by omega)) (by kernel_rfl) (.b (bne (show p≠7 by omega)) (.b (bne (show p≠8 by omega)) (.b (bne (show p≠9 by omega)) (.b (bne (show p≠10 by omega)) (.b (bne (show p≠11 by omega)) (.b (bne (show p≠12 by omega)) (.b (bne (show p≠13 by omega)) (.b (bne (show p≠14 by omega)) .er))))))))
def YA:eY aG:=bZ 45 (a3 uA vA vA) (dO (a2 vA iA)) (fun p=>pR p.1 p.2.1 p.2.2) np a8L
theorem a2A:Gd YA:=agM.deep 1 fun n hn hO p hp=>by
 obtain⟨k,a,b⟩:=p;cases h:Fv k
 .have h9:¬(7<=k∧k<=16):=by simpa[Fv]using h
  show nS X0 Qp _ _ _ ((dO (a2 vA iA)).put (pR k a b)) _;unfold pR;rw[h];exact aO (hO n (by omega)) (.b (bne (show k≠15 by omega)) (.b (bne (show k≠16 by omega)) (.o h (.b (rfl:true=true) .rr))))
 .show nS X0 Qp _ _ _ ((dO (a2 vA iA)).put (pR k a b)) _;unfold pR;rw[a0F h];exact hO (n+1) (by omega) 45 ((a3 uA vA vA).put (k,a,b)) ((dO (a2 vA iA)).put (Il k a b)) [] [7<=k∧k<=16] (by kernel_rfl) (fun q hq=>by rw[a1S.1 hq];simpa[Fv]using h)
open Go Tw Pv bP
theorem yH{v:V}:J4 v↔kY v:=by
 unfold J4 vOk nJ;constructor
 .rintro⟨h,h0⟩;split at h
  .rename_i e;split at h
   .rename_i e2;simp at e e2 h;exact⟨h0,by omega,fun _=>⟨e2,h⟩,fun hz=>absurd e hz⟩
   cases h
  split at h
  .rename_i e e2;simp at e e2 h;exact⟨h0,e2,fun hz=>absurd hz e,fun _=>h⟩
  cases h
 intro h;refine⟨?_,h.f0⟩;by_cases e:v.f=0
 .rw[a0F (by simpa using e),a0F (by simpa using(h.n e).1)];simpa using(h.n e).2
 rw[a0E (by simpa using e),a0F (by simpa using h.f1)];simpa using h.z e
theorem abD{k:Int}{a b:V}:(Il k a b).1=gQ k a b:=by
 unfold Il gQ
 repeat' split
 all_goals rfl
theorem abE{k:Int}(h:Fv k=true){a b:V}(ha:J4 a)(hb:J4 b):J4 (pR k a b).1∧(pR k a b).1=bI k a b:=by have:=afJ (by simpa[Fv]using h) (yH.1 ha) (yH.1 hb);unfold pR;rw[a0F h,abD,this.1];exact⟨yH.2 this.2,rfl⟩
theorem abG{k:Int}{a b:V}(h:((pR k a b).2 != 0)=false):Fv k=true:=by
 unfold pR at h;cases e:Fv k
 .rw[e]at h;simp at h
 rfl
theorem a2B:J4 iC:=⟨by decide,by decide⟩
theorem agN:J4 V0:=⟨by decide,by decide⟩
abbrev abH(u:Int)(l:List V):V:=(pR u (l.getD 0 V0) (l.getD 1 V0)).1
abbrev abI(l:List V):V:=(jO (l.getD 0 V0) (l.getD 1 V0) (l.getD 2 V0)).1
theorem alJ{m:Nat}{u:Int}(h1:1<=m)(hO:Ok (m-1) YA){l:List V}(h:l.length=2):dG X0 Qp (iE m) (.fn 112 [] [.ptr 0 0 1]) [lV l] [.aF [.int .u8 u]] (.agg (abH u l).ps) [.aF [.int .u8 u]]:=by obtain⟨m,rfl⟩:∃k,m=k+1:=⟨m-1,by omega⟩;exact fA hO (first:=[]) (cap:=[.ptr 0 0 1]) (.o (aH (by omega:0<l.length)) (.o (aH (by omega:1<l.length)) .er))
theorem aqP{m:Nat}(h1:1<=m)(hO:Ok (m-1) YA){l:List V}(h:l.length=3):dG X0 Qp (iE m) (.fn 113 [] []) [lV l] [] (.agg (abI l).ps) []:=by obtain⟨m,rfl⟩:∃k,m=k+1:=⟨m-1,by omega⟩;exact fA hO (first:=[]) (cap:=[]) (.o (aH (by omega:0<l.length)) (.o (aH (by omega:1<l.length)) (.o (aH (by omega:2<l.length)) .er)))
theorem alK{m:Nat}(hO:Ok m YA){l:List V}(h:l.length<=ah):dG X0 Qp (iE m) (.fn 117 [] []) [lV l] [] (.agg (oC l).ps) []:=nS.Ql hX (first:=[]) (cap:=[]) (hO 117 [lV l] (vA.put (oC l)) [] [l.length<=ah] (by kernel_rfl) (fun p h9=>by rw[a1S.1 h9];exact h)) rfl rfl rfl rfl
theorem abJ(l:List V):J4 (oC l):=by unfold oC;split;exact a2B;exact agN
theorem a0u{a b c:V}(ha:J4 a)(hb:J4 b)(hc:J4 c):J4 (jO a b c).1:=by have:=a3M (yH.1 ha) (yH.1 hb) (yH.1 hc);rw[this.1];exact yH.2 this.2
def xC(p:Int×Dg×Dg):Dg×Int:=if(bF [p.2.1,p.2.2] != 0)=true then(jk,bF [p.2.1,p.2.2])else if((pR p.1 iC iC).2 != 0)=true then(jk,(pR p.1 iC iC).2)else(JX (dP [p.2.1,p.2.2]) (abH p.1),0)
def YB(p:Dg×Dg×Dg):Dg×Int:=if(bF [p.1,p.2.1,p.2.2] != 0)=true then(jk,bF [p.1,p.2.1,p.2.2])else(JX (dP [p.1,p.2.1,p.2.2]) abI,0)
def zY(p:Dg):Dg×Int:=if(bF [p] != 0)=true then(jk,bF [p])else(JX (dP [p]) oC,0)
theorem LX{P:Dg->Prop}{a b:Dg}(ha:P a)(hb:P b):∀d∈[a,b],P d:=fun x hx=>by
 rcases a1Y.1 hx with rfl|hx
 .exact ha
 .rw[a1S.1 hx];exact hb
theorem a8M{P:Dg->Prop}{a b c:Dg}(ha:P a)(hb:P b)(hc:P c):∀d∈[a,b,c],P d:=fun x hx=>by
 rcases a1Y.1 hx with rfl|hx
 .exact ha
 .exact LX hb hc x hx
abbrev rnE(e:Int):PV aG:=.dJ [.agg [.nil .aP,.nil .aP,.nil .aP,.nil .aP,.int .i64 0],.int .i64 e]
abbrev HcA(D:List Dg)(u:Int)(g:LI0):List (PB aG):=[.list true true 26 D,.cells [.int .u8 u],.list true true 3 g]
abbrev HcB(u:Int):List (PB aG):=[.gone,.cells [.int .u8 u],.gone]
theorem rE(e:Int):Fp (Γ:=X0.Γ) (Is (X:=X0) (P:=Qp) (dO (a2 dA iA)) (jk,e)) .n (.ret (some (rnE e))):=by have h:(dO (a2 dA iA)).get (rnE e)=some (jk,e):=rfl;exact Fp.rn (X:=X0) (P:=Qp) (rnE e) h
def alL:eY aG:=bZ 62 (a3 uA dA dA) (dO (a2 dA iA)) xC (fun p=>[nM p.2.1,nM p.2.2]) YA
theorem abK:(2:Nat)<=ah:=by unfold ah;omega
theorem agO:(3:Nat)<=ah:=by unfold ah;omega
theorem aqR:Gd alL:=Good.a1Q 24 a2A Yn IG a2A fun n hn hO Gw hO3 hO4 p hp=>by obtain⟨u,d,e⟩:=p;have h1:∀x∈[d,e],nM x:=LX (hp _ gY) (hp _ yc);have h3:0<[d,e].length∧[d,e].length<=ah:=⟨by simp,abK⟩;have hJ:(bF [d,e] != 0)=false->kC (dP [d,e]):=fun e1=>yV (D:=[d,e]) (by simp) (by simp) h1 (by simpa using e1);have s1:=fun(e1:(bF [d,e] != 0)=false)=>agL (n:=n) (f:=112) u (by omega) (fun m hm=>hO3 m (by omega)) (D:=[d,e]) (by simp) (hJ e1).cu.len (k:=true) (ex:=true);have s2:=fun(e1:(bF [d,e] != 0)=false) (e2:((pR u iC iC).2 != 0)=false)=>alF (n:=n) (f:=112) u (hJ e1) (op:=abH u) (Qx (hJ e1) (Jb.inD h1 (show bF [d,e]=0 by simpa using e1)) fun l hl hv=>(abE (abG e2) (hv _ (dI (show 0<l.length by rw[hl];exact Nat.zero_lt_two))) (hv _ (dI (show 1<l.length by rw[hl];exact Nat.one_lt_two)))).1) (by omega) (fun m hm=>Gw m (by omega)) (fun m hm l hl=>alJ (by omega) (hO4 _ (by omega)) hl) (k:=true) (ex:=true) (k2:=true) (LW:=true);show nS X0 Qp _ _ _ ((dO (a2 dA iA)).put (if(bF [d,e] != 0)=true then(jk,bF [d,e])else if((pR u iC iC).2 != 0)=true then(jk,(pR u iC iC).2)else(JX (dP [d,e]) (abH u),0))) _;exact aO (hO n (by omega)) (.o h1 (.o h3 (.sh (fun _=>rE _) fun e1=>.sh (fun _=>rE _) fun e2=>.QU (H2:=HcA [d,e] u (dP [d,e]).g) [2,0] [1] (s1 e1) (.QU (H2:=HcB u) [2,0,3] [1] (s2 e1 e2) .rr))))
def alM:eY aG:=bZ 63 (a3 dA dA dA) (dO (a2 dA iA)) YB (fun p=>[nM p.1,nM p.2.1,nM p.2.2]) alL
theorem aqS:Gd alM:=Good.a1Q 24 aqR Yn IG a2A fun n hn hO Gw hO3 hO4 p hp=>by obtain⟨a,b,c⟩:=p;have h1:∀x∈[a,b,c],nM x:=a8M (hp _ gY) (hp _ yc) (hp _ hh2);have h3:0<[a,b,c].length∧[a,b,c].length<=ah:=⟨by simp,agO⟩;have hJ:(bF [a,b,c] != 0)=false->kC (dP [a,b,c]):=fun e1=>yV (D:=[a,b,c]) (by simp) (by simp) h1 (by simpa using e1);have s1:=fun(e1:(bF [a,b,c] != 0)=false)=>Kw (n:=n) (f:=113) (by omega) (fun m hm=>hO3 m (by omega)) (D:=[a,b,c]) (by simp) (hJ e1).cu.len (k:=true) (ex:=true);have s2:=fun(e1:(bF [a,b,c] != 0)=false)=>a8J (n:=n) (f:=113) (hJ e1) (op:=abI) (Qx (hJ e1) (Jb.inD h1 (show bF [a,b,c]=0 by simpa using e1)) fun l hl hv=>a0u (hv _ (dI (show 0<l.length by rw[hl];exact Nat.succ_pos 2))) (hv _ (dI (show 1<l.length by rw[hl];exact Nat.succ_lt_succ (Nat.succ_pos 1)))) (hv _ (dI (show 2<l.length by rw[hl];exact Nat.lt_succ_self 2)))) (by omega) (fun m hm=>Gw m (by omega)) (fun m hm l hl=>aqP (by omega) (hO4 _ (by omega)) hl) (k:=true) (ex:=true) (k2:=true) (LW:=true);show nS X0 Qp _ _ _ ((dO (a2 dA iA)).put (if(bF [a,b,c] != 0)=true then(jk,bF [a,b,c])else(JX (dP [a,b,c]) abI,0))) _;exact aO (hO n (by omega)) (.o h1 (.o h3 (.sh (fun _=>rE _) fun e1=>.fr [1] (s1 e1) (.fr [1,2] (s2 e1) .rr))))
def alN:eY aG:=bZ 67 (a1 dA) (dO (a2 dA iA)) zY (fun p=>[nM p]) alM
theorem aqT:Gd alN:=Good.a1Q 24 aqS Yn IG a2A fun n hn hO Gw hO3 hO4 d hp=>by
 have h1:∀x∈[d],nM x:=fun x hx=>by rw[a1S.1 hx];exact hp _ gY
 have h3:0<[d].length∧[d].length<=ah:=⟨by simp,a4v⟩;have hJ:(bF [d] != 0)=false->kC (dP [d]):=fun e1=>yV (D:=[d]) (by simp) (by simp) h1 (by simpa using e1);have s1:=fun(e1:(bF [d] != 0)=false)=>Kw (n:=n) (f:=117) (by omega) (fun m hm=>hO3 m (by omega)) (D:=[d]) (by simp) (hJ e1).cu.len (k:=true) (ex:=true);have s2:=fun(e1:(bF [d] != 0)=false)=>a8J (n:=n) (f:=117) (hJ e1) (op:=oC) (fun t hd=>abJ _) (by omega) (fun m hm=>Gw m (by omega)) (fun m hm l hl=>alK (hO4 m (by omega)) (by rw[hl];exact a4v)) (k:=true) (ex:=true) (k2:=true) (LW:=true);show nS X0 Qp _ _ _ ((dO (a2 dA iA)).put (if(bF [d] != 0)=true then(jk,bF [d])else(JX (dP [d]) oC,0))) _;exact aO (hO n (by omega)) (.o h1 (.o h3 (.sh (fun _=>rE _) fun e1=>.fr [1] (s1 e1) (.fr [1,2] (s2 e1) .rr))))
open Go Tw Pv bP
def jE(v:V):Int:=if(!(wX v))=true then 2 else 0
def ae9:eY aG:=bZ 106 (a1 vA) iA (fun p=>jE p) np alN
theorem alO:Gd ae9:=aqT.add fun n hO p hp=>aO hO (.ss .rr .rr)
abbrev cDg(s o:LI0)(v:V):Dg:=⟨s,o,[v],[],-1⟩
def aea:eY aG:=bZ 107 (a3 qg qg vA) dA (fun p=>cDg p.1 p.2.1 p.2.2) (fun p=>[p.1.length<=ah,p.2.1.length<=ah]) ae9
theorem alP:Gd aea:=alO.add fun n hO p hp=>aO hO (.o (hp _ gY) (.o (hp _ yc) (.rn (.agg [lI p.1,lI p.2.1,lV [p.2.2],.nil .aP,.int .i64 (-1)]) rfl)))
def YC(s o:LI0)(v:V):Dg×Int:=if(bK s o != 0)=true then(jk,bK s o)else if(jE v != 0)=true then(jk,4)else(cDg s o v,0)
def a8N:eY aG:=bZ 55 (a3 qg qg vA) (dO (a2 dA iA)) (fun p=>YC p.1 p.2.1 p.2.2) (fun p=>[p.1.length<=ah,p.2.1.length<=2^20]) aea
theorem alQ:Gd a8N:=alP.add fun n hO p hp=>aO hO (.o (hp _ gY) (.o (hp _ yc) (.ss (.rn (.dJ [.agg [.nil .aP,.nil .aP,.nil .aP,.nil .aP,.int .i64 0],.int .i64 (bK p.1 p.2.1)]) rfl) (.ss (.rn (.dJ [.agg [.nil .aP,.nil .aP,.nil .aP,.nil .aP,.int .i64 0],.int .i64 4]) rfl) (.o (hp _ gY) (.o (show p.2.1.length<=ah from by have:p.2.1.length<=2^20:=hp _ yc;unfold ah;omega) .rr))))))
theorem a8O{n f:Nat}{J:Jb}{k ex k2 LW:Bool}(h:iJ n (.fn 87 [] []) [.agg (J.ps (.fn f [] []))] [] (.map 0) [.map (kV.im (bW J))]):iJ n (.fn 87 [] []) [.agg [lI J.s,lI J.o,.own 0,.own 1,.fn f [] []]] [.list k ex 26 J.D,.list k2 LW 3 J.g] (.map 2) [.gone,.gone,.map (kV.im (bW J))]:=by have h1:=dG.frame hX (ks:=[]) (H':=[.gone,.gone]) (Hp:=[]) (QD:=[.map (kV.im (bW J))]) (v':=.map 2) (fv':=.fn 87 [] []) (xs':=[.agg (J.ps (.fn f [] []))]) h (by decide) rfl rfl rfl rfl rfl rfl rfl;exact dG.fz hX (H:=[.list k ex 26 J.D,.list k2 LW 3 J.g]) (cs:=[lI J.s,lI J.o,.own 0,.own 1]) (rest:=[.fn f [] []]) [0,1] h1 rfl (fun i hi=>by simpa[l7.kH,l7]using hi)
open Go Tw Pv bP
def look(t:List (V×Int))(v:V):Int:=((t.find? fun e=>decide (e.1=v)).map (·.2)).getD 0
theorem IK{t:List (V×Int)}(hn:(t.map (·.1)).Nodup)(v:V):(qC X0 Qp 39 (kV.im t) (kV.tv v) (.int .i64 (look t v)))∨(look t v=0∧nY X0 Qp 39 (kV.im t) (kV.tv v)):=by
 by_cases h:v∈t.map (·.1)
 .obtain⟨e,he,hv⟩:=a0V.1 h;obtain⟨e2,h2⟩:=a5r.1 (List.find?_isSome (p:=fun e:V×Int=>decide (e.1=v)) |>.2 ⟨e,he,show decide (e.1=v)=true by simpa using hv⟩);have h3:e2.1=v:=by simpa using List.find?_some h2
  refine .inl (kV.found (by rw[zX];exact hn) (a0V.2 ⟨e2,aeV h2,?_⟩));unfold look;rw[h2,h3];rfl
 refine .inr ⟨?_,kV.fresh (by rw[zX];exact h)⟩;unfold look;rw[aef.2 fun e he=>by simp only[a1z];intro hv;exact h (a0V.2 ⟨e,he,hv⟩)]
 rfl
abbrev alR:PV aG:=.agg [.nil .aP,.nil .aP,.nil .aP,.nil .aP,.nil .fn]
abbrev a8P(J:Jb)(f:Nat)(a b:Nat):PV aG:=.agg [lI J.s,lI J.o,.own a,.own b,.fn f [] []]
abbrev HO(D:List Dg)(g:LI0):List (PB aG):=[.list true true 26 D,.list true true 3 g]
theorem a4x{P:Dg->Prop}{d:Dg}(h:P d):∀x∈[d],P x:=fun x hx=>by rw[a1S.1 hx];exact h
theorem alS{n:Nat}(hO:Ok n a8N){d:Dg}{v:V}(hp:nM d)(e1:(bF [d] != 0)=true):iJ (n+1) (.fn 86 [] []) [.agg d.ps,.agg v.ps] [] (.dJ [alR,.int .i64 (bF [d])]) []:=by have h1:∀x∈[d],nM x:=a4x hp;have h3:0<[d].length∧[d].length<=ah:=⟨by simp,a4v⟩;exact dG.drop hX (nH hX hO (first:=[]) (cap:=[]) (H1:=[.list true true 26 [d]]) (by kernel_rfl) (.o h1 (.o h3 (.b e1 .er)))) rfl rfl
theorem alT{n:Nat}(hO:Ok n a8N){d:Dg}{v:V}(hp:nM d)(e1:(bF [d] != 0)=false)(e2:(jE v != 0)=true):iJ (n+1) (.fn 86 [] []) [.agg d.ps,.agg v.ps] [] (.dJ [alR,.int .i64 4]) []:=by have h1:∀x∈[d],nM x:=a4x hp;have h3:0<[d].length∧[d].length<=ah:=⟨by simp,a4v⟩;exact dG.drop hX (nH hX hO (first:=[]) (cap:=[]) (H1:=[.list true true 26 [d]]) (by kernel_rfl) (.o h1 (.o h3 (.b e1 (.b e2 .er))))) rfl rfl
theorem alU{n:Nat}(h2:2<=n)(BU:Ok n a8N)(hO:∀m,n-2<=m->Ok m su){d:Dg}{v:V}(hp:nM d)(e1:(bF [d] != 0)=false)(e2:(jE v != 0)=false):iJ (n+1) (.fn 86 [] []) [.agg d.ps,.agg v.ps] [] (.dJ [a8P (dP [d]) 79 0 1,.int .i64 0]) (HO [d] (dP [d]).g):=by have h1:∀x∈[d],nM x:=a4x hp;have h3:0<[d].length∧[d].length<=ah:=⟨by simp,a4v⟩;have hJ:kC (dP [d]):=yV (D:=[d]) (by simp) (by simp) h1 (by simpa using e1);have s1:=Kw (n:=n) (f:=79) h2 hO (D:=[d]) (by simp) hJ.cu.len (k:=true) (ex:=true);have h:iJ (n+1) (.fn 86 [] []) [.agg d.ps,.agg v.ps] [] (.dJ [a8P (dP [d]) 79 1 2,.int .i64 0]) [.list true true 26 [d],.list true true 26 [d],.list true true 3 (dP [d]).g]:=fA BU (first:=[]) (cap:=[]) (.o h1 (.o h3 (.b e1 (.b e2 (.fr [1] s1 .er)))));exact dG.gs hX h [.gc [1,2]] rfl
theorem qH(J:Jb):((bW J).map (·.1)).Nodup:=(((mV VQ (yS (iM J))).map (·.1)).nodup_iff).2 (AV (iM J)).1
theorem DX(φ:V->Int)(J:Jb):dK φ (bW J)=dZ φ (iM J):=by unfold bW;rw[a3F φ (mV VQ (yS (iM J))),TA]
theorem YD{α:Type}:∀l:List α,dZ (fun _=>1) l=(l.length:Int)
 | []=>rfl
 |a::l=>by have:=YD l;simp only[dZ,a4K];omega
theorem U7{J:Jb}(hJ:kC J):Kt (bW J):=by
 refine⟨fun e he=>(AV (iM J)).2 e ((mV VQ (yS (iM J))).mem_iff.1 he),?_⟩;rw[DX,YD];have h1:(iM J).length<=(IE J).length:=by unfold iM Qq;rw[a4S];exact a5x (a9C _ _) (by rw[a4S];exact a0P _)
 have h2:(IE J).length<=Ce J.s:=a5x (a9C _ _) (by rw[a4S,a9m];exact a0P _);have h3:=hJ.cu.a3A;have h4:=hJ.cu.many;omega
def DY(p:Dg×V):Int×Int:=if(bF [p.1] != 0)=true then(0,bF [p.1])else if(jE p.2 != 0)=true then(0,4)else(look (bW (dP [p.1])) p.2,0)
def agP:eY aG:=bZ 27 (a2 dA vA) (dO (a2 iA iA)) DY (fun p=>[nM p.1]) a8N
theorem aqU:Gd agP:=Good.Xy 24 alQ IG fun n hn hO Gw p hp=>by
 obtain⟨d,v⟩:=p;have h1:nM d:=hp _ gY;obtain⟨n,rfl⟩:∃k,n=k+1:=⟨n-1,by omega⟩;have BU:=hO (n+1) (by omega);cases e1:(bF [d] != 0)
 .cases e2:(jE v != 0)
  .have s1:=alU (n:=n) (by omega) (hO n (by omega)) (fun m hm=>Gw m (by omega)) h1 e1 e2;have hJ:kC (dP [d]):=yV (D:=[d]) (by simp) (by simp) (a4x h1) (by simpa using e1);have s2:=a8O (k:=true) (ex:=true) (k2:=true) (LW:=true) (Qr hJ (n:=n-1) (f:=79) (Gw _ (by omega)) (show 0<[d].length by simp));rw[show n-1+2=n+1 by omega]at s2;show nS X0 Qp _ _ _ ((dO (a2 iA iA)).put (if(bF [d] != 0)=true then(0,bF [d])else if(jE v != 0)=true then(0,4)else(look (bW (dP [d])) v,0))) _;rw[e1,e2];rcases IK (qH (dP [d])) v with hf|⟨hz,hf⟩
   .exact aO BU (.fr [] s1 (.b (rfl:((0:Int) != 0)=false) (.fr [0,1] s2 (.c (.int .i64 (look (bW (dP [d])) v)) [] hf .rr))))
   .rw[hz];exact aO BU (.fr [] s1 (.b (rfl:((0:Int) != 0)=false) (.fr [0,1] s2 (.a .calm (.o hf .rr)))))
  .have s1:=alT (n:=n) (hO n (by omega)) h1 e1 e2;show nS X0 Qp _ _ _ ((dO (a2 iA iA)).put (if(bF [d] != 0)=true then(0,bF [d])else if(jE v != 0)=true then(0,4)else(look (bW (dP [d])) v,0))) _;rw[e1,e2];exact aO BU (.fr [] s1 (.b (rfl:((4:Int) != 0)=true) .rr))
 .have s1:=alS (n:=n) (v:=v) (hO n (by omega)) h1 e1;show nS X0 Qp _ _ _ ((dO (a2 iA iA)).put (if(bF [d] != 0)=true then(0,bF [d])else if(jE v != 0)=true then(0,4)else(look (bW (dP [d])) v,0))) _;rw[a0F e1];exact aO BU (.fr [] s1 (.b e1 .rr))
open Go Tw Pv bP
structure An where
 q:Int
 none:Bool
 yes:Bool
 n:Int
 lo:Int
 hi:Int
 fault:Bool
 set:LI0
deriving DecidableEq
abbrev Rq:An:=⟨0,false,false,0,0,0,false,[]⟩
def alV:Ar X0 Qp Unit where
 put _:=.nil .aP
 get v:=match v with
  |.nil .aP=>some ()
  |_=>none
 ok:=by
  intro v a hg A m h x hv;split at hg
  .exact hv
  .cases hg
def YU:Arg An:=afp (a6T (LK uA (LK tA (LK tA (LK iA (LK iA (a4 iA tA qg alV)))))))
 (fun p=>⟨p.1,p.2.1,p.2.2.1,p.2.2.2.1,p.2.2.2.2.1,p.2.2.2.2.2.1,p.2.2.2.2.2.2.1,p.2.2.2.2.2.2.2.1⟩) (fun a=>(a.q,a.none,a.yes,a.n,a.lo,a.hi,a.fault,a.set,())) fun _=>rfl
abbrev anW(a:An)(s:PV aG):PV aG:=.agg [.int .u8 a.q,.bool a.none,.bool a.yes,.int .i64 a.n,.int .i64 a.lo,.int .i64 a.hi,.bool a.fault,s,.nil .aP]
theorem rA(a:An)(h:a.set=[])(e:Int):Fp (Γ:=X0.Γ) (Is (X:=X0) (P:=Qp) (dO (a2 YU iA)) (a,e)) .n (.ret (some (.dJ [anW a (.nil .aP),.int .i64 e]))):=by obtain⟨q,no,y,n,l,hi,f,s⟩:=a;cases h;have h:(dO (a2 YU iA)).get (.dJ [anW ⟨q,no,y,n,l,hi,f,[]⟩ (.nil .aP),.int .i64 e])=some (⟨q,no,y,n,l,hi,f,[]⟩,e):=rfl;exact Fp.rn (X:=X0) (P:=Qp) _ h
def a8R(q:Int)(t:List (V×Int)):An×Int:=
 if(q==1)=true then(⟨q,false,look t iC==dK (fun _=>1) t,0,0,0,false,[]⟩,0)
 else if(q==2)=true then(⟨q,false,decide (look t iC>0),0,0,0,false,[]⟩,0)
 else if(q==3)=true then(⟨q,false,false,look t iC,0,0,false,[]⟩,0)
 else if(q==4)=true then(if mg t=[]then(⟨q,true,false,0,0,0,uS t,[]⟩,0)else(⟨q,((mg t).length:Int)==0,false,0,(mg t).getD 0 0,(mg t).getD (i64.wrap ((mg t).length-1)).toNat 0,uS t,[]⟩,0))
 else(⟨q,false,false,0,0,0,uS t,mg t⟩,0)
def Gq(q:Int)(t:List (V×Int)):An×Int:=if t=[]then(⟨q,true,false,0,0,0,false,[]⟩,0)else a8R q t
def a2C(p:Int×Dg×Dg):An×Int:=if(bF [p.2.1,p.2.2] != 0)=true then(Rq,bF [p.2.1,p.2.2])else if decide (p.1<1)=true then(Rq,2)else if decide (p.1>5)=true then(Rq,2)else Gq p.1 (bW (dP [p.2.1,p.2.2]))
def abM:eY aG:=bZ 33 (a3 uA dA dA) (dO (a2 YU iA)) a2C (fun p=>[nM p.2.1,nM p.2.2]) agP
theorem agQ{t:List (V×Int)}(h:Kt t):(mg t).length<=2000:=by unfold mg;rw[show ∀l:LI0,(gV l).length=l.length from fun l=>(aey l _).length_eq,a4S];exact a5x (a9C _ _) h.len
abbrev HMt(t:List (V×Int)):List (PB aG):=[.map (kV.im t)]
abbrev HMn(t:List (V×Int)):List (PB aG):=[.map (kV.im t),.list false false 3 (mg t)]
section
variable {n:Nat} {q:Int} {d e:Dg} (hO:Ok n agP) (h1:∀ x∈[d,e],nM x) (e1:(bF [d,e] != 0)=false) (e2:decide (q<1)=false) (e3:decide (q>5)=false) {t:List (V×Int)} (ht:Kt t)
 (s1:dG X0 Tryz.prog (iE n) (.fn 78 [] []) [.fn 79 [] [],.own 0] [.list true true 26 [d,e]] (a8P (dP [d,e]) 79 0 1) (HO [d,e] (dP [d,e]).g))
 (s2:dG X0 Tryz.prog (iE n) (.fn 87 [] []) [a8P (dP [d,e]) 79 0 1] (HO [d,e] (dP [d,e]).g) (.map 2) [.gone,.gone,.map (kV.im t)])
 (s3:dG X0 Tryz.prog (iE n) (.fn 90 [] []) [.map 0] [.iG (kV.im t)] (.int .i64 (dK (fun _=>1) t)) [.iG (kV.im t)])
 (s4:mg t=[]->dG X0 Tryz.prog (iE n) (.fn 88 [] []) [.map 0] [.iG (kV.im t)] (.dJ [.nil .aP,.bool (uS t)]) [.iG (kV.im t)])
 (s5:mg t≠[]->dG X0 Tryz.prog (iE n) (.fn 88 [] []) [.map 0] [.iG (kV.im t)] (.dJ [.own 1,.bool (uS t)]) [.iG (kV.im t),.list false false 3 (mg t)])
include hO h1 e1 e2 e3 s1 s2
theorem abN(h:t=[]):nS X0 Qp (iE (n+1)) 33 ((a3 uA dA dA).put (q,d,e)) ((dO (a2 YU iA)).put (⟨q,true,false,0,0,0,false,[]⟩,0)) []:=by subst h;have h3:0<[d,e].length∧[d,e].length<=ah:=⟨by simp,abK⟩;exact aO hO (.o h1 (.o h3 (.b e1 (.b e2 (.b e3 (.fr [1] s1 (.fr [1,2] s2 (.b (show(((kV.im ([]:List (V×Int))).length:Int)==0)=true from rfl) (rA _ rfl _)))))))))
variable (hd:(t.map (·.1)).Nodup)
include ht s3 s4 s5 hd
theorem a8S(h:t≠[]):nS X0 Qp (iE (n+1)) 33 ((a3 uA dA dA).put (q,d,e)) ((dO (a2 YU iA)).put (a8R q t)) []:=by
 have h3:0<[d,e].length∧[d,e].length<=ah:=⟨by simp,abK⟩;have hl:(((kV.im t).length:Int)==0)=false:=by
  rw[kV.pO];cases t with
  |nil=>exact absurd rfl h
  |cons a r=>exact bne (by simp only[a4K];omega)
 have RF:=agQ ht;have s0:iJ n (.fn 89 [] []) [] [] (.agg iC.ps) []:=nS.Ql hX (first:=[]) (cap:=[]) (hO 89 [] (vA.put iC) [] [] (by kernel_rfl) (fun p h=>by cases h)) rfl rfl rfl rfl;unfold a8R;by_cases hn:mg t=[]
 .rw[a0F hn];rcases IK hd iC with hf|⟨hz,hf⟩
  .exact aO hO (.o h1 (.o h3 (.b e1 (.b e2 (.b e3 (.fr [1] s1 (.fr [1,2] s2 (.b hl (.QU (H2:=HMt t) [3] [0] (s4 hn) (.ss (.fr [] s0 (.c (.int .i64 (look t iC)) [] hf (.QU (H2:=HMt t) [3] [0] s3 (rA _ rfl _)))) (.ss (.fr [] s0 (.c (.int .i64 (look t iC)) [] hf (rA _ rfl _))) (.ss (.fr [] s0 (.c (.int .i64 (look t iC)) [] hf (rA _ rfl _))) (.ss (.b (c:=!((0:Int)==0)) (t:=false) rfl (rA _ rfl _)) (rA ⟨q,false,false,0,0,0,uS t,mg t⟩ hn _))))))))))))))
  rw[hz];exact aO hO (.o h1 (.o h3 (.b e1 (.b e2 (.b e3 (.fr [1] s1 (.fr [1,2] s2 (.b hl (.QU (H2:=HMt t) [3] [0] (s4 hn) (.ss (.a .calm (.o hf (.QU (H2:=HMt t) [3] [0] s3 (rA _ rfl _)))) (.ss (.a .calm (.o hf (rA _ rfl _))) (.ss (.a .calm (.o hf (rA _ rfl _))) (.ss (.b (c:=!((0:Int)==0)) (t:=false) rfl (rA _ rfl _)) (rA ⟨q,false,false,0,0,0,uS t,mg t⟩ hn _))))))))))))))
 rw[a0E hn];have hp:0<(mg t).length:=aad.2 hn;have hb:(!(((mg t).length:Int)==0))=true:=by rw[bne (by omega)];rfl
 have i0:gu 0 (mg t).length:=aH hp;have i1:gu (i64.wrap ((mg t).length-1)) (mg t).length:=by rw[wrap_small (by omega) (by omega)];exact⟨by omega,by omega⟩
 rcases IK hd iC with hf|⟨hz,hf⟩
 .exact aO hO (.o h1 (.o h3 (.b e1 (.b e2 (.b e3 (.fr [1] s1 (.fr [1,2] s2 (.b hl (.QU (H2:=HMn t) [3] [0] (s5 hn) (.ss (.fr [] s0 (.c (.int .i64 (look t iC)) [] hf (.QU (H2:=HMt t) [3] [0] s3 (rA _ rfl _)))) (.ss (.fr [] s0 (.c (.int .i64 (look t iC)) [] hf (rA _ rfl _))) (.ss (.fr [] s0 (.c (.int .i64 (look t iC)) [] hf (rA _ rfl _))) (.ss (.b hb (.o i0 (.o i1 (rA _ rfl _)))) .rr)))))))))))))
 rw[hz];exact aO hO (.o h1 (.o h3 (.b e1 (.b e2 (.b e3 (.fr [1] s1 (.fr [1,2] s2 (.b hl (.QU (H2:=HMn t) [3] [0] (s5 hn) (.ss (.a .calm (.o hf (.QU (H2:=HMt t) [3] [0] s3 (rA _ rfl _)))) (.ss (.a .calm (.o hf (rA _ rfl _))) (.ss (.a .calm (.o hf (rA _ rfl _))) (.ss (.b hb (.o i0 (.o i1 (rA _ rfl _)))) .rr)))))))))))))
end
theorem agR:Gd abM:=Good.Xy 24 aqU IG fun n hn hO Gw p hp=>by
 obtain⟨q,d,e⟩:=p;have h1:∀x∈[d,e],nM x:=LX (hp _ gY) (hp _ yc);have h3:0<[d,e].length∧[d,e].length<=ah:=⟨by simp,abK⟩;have BU:=hO n (by omega);show nS X0 Qp _ _ _ ((dO (a2 YU iA)).put (if(bF [d,e] != 0)=true then(Rq,bF [d,e])else if decide (q<1)=true then(Rq,2)else if decide (q>5)=true then(Rq,2)else Gq q (bW (dP [d,e])))) _;cases e1:(bF [d,e] != 0)
 .cases e2:decide (q<1)
  .cases e3:decide (q>5)
   .have hJ:=yV (D:=[d,e]) (by simp) (by simp) h1 (by simpa using e1);have ht:=U7 hJ;have s1:=Kw (n:=n) (f:=79) (by omega) (fun m hm=>Gw m (by omega)) (D:=[d,e]) (by simp) hJ.cu.len (k:=true) (ex:=true);have s2:=a8O (k:=true) (ex:=true) (k2:=true) (LW:=true) (Qr hJ (n:=n-2) (f:=79) (Gw _ (by omega)) (show 0<[d,e].length by simp));have s3:=aqD (n:=n-1) ht;have s4:=(ae7 (n:=n-2) ht).1;have s5:=(ae7 (n:=n-2) ht).2;rw[show n-2+2=n by omega]at s2 s4 s5;rw[show n-1+1=n by omega]at s3;show nS X0 Qp _ _ _ ((dO (a2 YU iA)).put (Gq q (bW (dP [d,e])))) _;unfold Gq;by_cases h:bW (dP [d,e])=[]
    .rw[a0F h];exact abN BU h1 e1 e2 e3 s1 s2 h
    .rw[a0E h];exact a8S BU h1 e1 e2 e3 ht s1 s2 s3 s4 s5 (qH _) h
   .exact aO BU (.o h1 (.o h3 (.b e1 (.b e2 (.b e3 (rA _ rfl _))))))
  .exact aO BU (.o h1 (.o h3 (.b e1 (.b e2 (rA _ rfl _)))))
 .exact aO BU (.o h1 (.o h3 (.b e1 (rA _ rfl _))))
open Go Tw Pv bP
section
variable {n:Nat} {t:List (V×Int)} (h:Kt t) (ht:t≠[])
theorem alW{k:Bool}:iJ (n+1) (.fn 96 [] []) [.map 0] [.map (kV.im t)] vF [.map (kV.im t),.cells [.map 0]]:=
 fA gG (first:=[]) (cap:=[]) .er
include h ht
theorem alX:iJ (n+3) (.fn 95 [] []) [vF] [.iG (kV.im t),.aF [.map 0]] (.aP 2 0 t.length t.length 1 false) [.iG (kV.im t),.aF [.map 0],.ny ((lY t).map LV)]:=by have h1:=abz (n:=n) h ht;exact fA gG (first:=[]) (cap:=[]) (.k h1 .er)
omit ht in
theorem a8T:(lY t).length=t.length:=by unfold lY;rw[(mV _ _).length_eq,a4S]
theorem alY:iJ (n+1) (.fn 94 [] []) [.aP 0 0 t.length t.length 1 false] [.ny ((lY t).map LV)] (.int .i64 (Kv (lY t))) [.ny ((lY t).map LV)]:=by
 have hl:=a8T h;have h0:lY t≠[]:=fun e=>ht (a5n.1 (by rw[<-hl,e];rfl));have:=alz (n:=n) h0 (by rw[hl];exact h.len)
 rwa [hl]at this
end
open Go Tw Pv bP
abbrev lkC(no:Bool)(n:Int)(s:PV aG):List (PV aG):=[.int .u8 8,.bool no,.bool false,.int .i64 n,.int .i64 0,.int .i64 0,.bool false,s,.nil .aP]
abbrev wLk(f:Bool×Bool)(l:List Dg)(d:Dg)(n:Int)(s:PV aG)(H:List (PB aG))(i:Int)(x:List (Nat×PE aG)):aU aG:=⟨[(3,.loc 0 0),(4,.loc 1 0),(31,.val (.own 0)),(32,xi l.length),(33,xi i)]++x,[d.ps,lkC false n s],.list f.1 f.2 26 l::H⟩
abbrev hLk(b:Int):List (PB aG):=[.list true true 3 ([b]:LI0)]
def alZ(f:Bool×Bool)(l:List Dg)(d:Dg)(i:Int)(x:List (Nat×PE aG)):Option (Int×Int)->aU aG
 |none=>wLk f l d 0 (.nil .aP) [] i x
 |some (b,z)=>wLk f l d z (.own 1) (hLk b) i x
def YE(l:List Dg)(d:Dg)(k:Nat):List (V×Int):=bW (dP [l.getD k jk,d])
def mLk(l:List Dg)(d:Dg)(k:Nat):Int:=Kv (lY (YE l d k))
def YF(l:List Dg)(d:Dg)(k:Nat)(s:Option (Int×Int)):Option (Int×Int)⊕(Option (Int×Int)×Nat):=
 if YE l d k=[]then .inr (s,k)else match s with
  |none=>.inl (some ((k:Int),mLk l d k))
  |some (b,z)=>if decide (mLk l d k<z)=true then .inl (some ((k:Int),mLk l d k))else .inl (some (b,z))
def zLk(f:Bool×Bool)(l:List Dg)(d:Dg):Option (Int×Int)⊕(Option (Int×Int)×Nat)->Ex×aU aG
 |.inl s=>(.exit 1,alZ f l d l.length [(34,xl false)] s)
 |.inr (none,k)=>(.ret,⟨[(4,.loc 1 0),(5,xi 0)],[d.ps,lkC true 0 (.nil .aP),(l.getD k jk).ps],[.list f.1 f.2 26 l]⟩)
 |.inr (some (b,z),k)=>(.ret,⟨[(4,.loc 1 0),(5,xi 0)],[d.ps,lkC true z (.own 1),(l.getD k jk).ps],.list f.1 f.2 26 l::hLk b⟩)
structure LkP(l:List Dg)(d:Dg):Prop where
 p:∀x∈l++[d],nM x
 g:∀x∈l++[d],DgG x∧x.ay=((l++[d]).getD 0 jk).ay∧x.aB=((l++[d]).getD 0 jk).aB
theorem LkP.j{l:List Dg}{d:Dg}(h:LkP l d){k:Nat}(hk:k<l.length):kC (dP [l.getD k jk,d]):=by have h1:=h.g (l.getD k jk) (a5h _ (dI hk));have h2:=h.g d (aat _ (a1S.2 rfl));exact ae8 (D:=[l.getD k jk,d]) (by simp) (by simp) (LX (P:=fun x=>DgG x∧x.ay=(l.getD k jk).ay∧x.aB=(l.getD k jk).aB) ⟨h1.1,rfl,rfl⟩ ⟨h2.1,h2.2.1.trans h1.2.1.symm,h2.2.2.trans h1.2.2.symm⟩)
theorem lLk{n:Nat}(hn:24<=n)(hO:∀m,n-24<=m->Ok m su)(f:Bool×Bool){l:List Dg}{d:Dg}(h:LkP l d)(hl:l.length<=ah):Nk n 39 0 1 (wLk f l d 0 (.nil .aP) [] 0 []) (zLk f l d (jq (YF l d) l.length 0 none)).1 (zLk f l d (jq (YF l d) l.length 0 none)).2:=by
 refine jd (st:=fun i s=>alZ f l d i [] s) (g:=YF l d) (out:=zLk f l d) (s0:=none) (fun k s=>k=0↔s=none) (by kernel_rfl) hl (by simp) (fun k s m hk hi ih=>?_) (fun s _=>?_)
 .have hJ:=h.j hk;have ht:Kt (YE l d k):=U7 hJ;have s1:=Kw (n:=n) (f:=79) (by omega) (fun m hm=>hO m (by omega)) (D:=[l.getD k jk,d]) (by simp) hJ.cu.len (k:=true) (ex:=true);have s2:=a8O (k:=true) (ex:=true) (k2:=true) (LW:=true) (Qr hJ (n:=n-2) (f:=79) (hO _ (by omega)) (show 0<[l.getD k jk,d].length by simp));rw[show n-2+2=n by omega]at s2
  change dG _ _ _ _ _ _ _ [.gone,.gone,.map (kV.im (YE l d k))]at s2
  unfold YF;by_cases h0:YE l d k=[]
  .rw[a0F h0];rw[h0]at s2;have hz:(((kV.im ([]:List (V×Int))).length:Int)==0)=true:=rfl;rcases s with _|⟨b,z⟩
   .exact aN gG (.b (bD hk) (.o (aH hk) (.fr [1] s1 (.fr [1,2] s2 (.b hz (.ouG [.gc []] nofun))))))
   exact aN gG (.b (bD hk) (.o (aH hk) (.fr [2] s1 (.fr [2,3] s2 (.b hz (.ouG [.gc [1]] nofun))))))
  rw[a0E h0];have hz:(((kV.im (YE l d k)).length:Int)==0)=false:=by rw[kV.pO];exact bne (by have:=aad.2 h0;omega)
  have s3:=alW (n:=n-1) (t:=YE l d k) (k:=true);have s4:=alX (n:=n-3) ht h0;have s5:=alY (n:=n-1) ht h0;rw[show n-1+1=n by omega]at s3 s5;rw[show n-3+3=n by omega]at s4;rcases s with _|⟨b,z⟩
  .have hk0:k=0:=hi.2 rfl;have hb:((k:Int)==0)=true:=by rw[hk0];rfl
   exact aN gG (.b (bD hk) (.o (aH hk) (.fr [1] s1 (.fr [1,2] s2 (.b hz (.fr [3] s3 (.QU (H2:=[.map (kV.im (YE l d k)),.cells [.map 0],.ny ((lY (YE l d k)).map LV)]) [3,4] [0,1] s4 (.fr [5] s5 (.b hb (.nxG [.gc [6]] (ih _ (by simp))))))))))))
  have hk0:k≠0:=fun e=>by cases hi.1 e
  have hb:((k:Int)==0)=false:=bne (by omega);exact aN gG (.b (bD hk) (.o (aH hk) (.fr [2] s1 (.fr [2,3] s2 (.b hz (.fr [4] s3 (.QU (H2:=[.map (kV.im (YE l d k)),.cells [.map 0],.ny ((lY (YE l d k)).map LV)]) [4,5] [0,1] s4 (.fr [6] s5 (.b hb (.ls (.nxG [.gc [7]] (ih _ (by simp))) (.nxG [.gc [1]] (ih _ (by simp)))))))))))))
 rcases s with _|⟨b,z⟩
 .exact aN gG (.b (fD l.length) (.ou nofun))
 exact aN gG (.b (fD l.length) (.ou nofun))
theorem agT{n:Nat}{k ex:Bool}{l:List Dg}:iJ (n+1) (.fn 93 [] []) [.own 0] [.list k ex 26 l] (.Gv 0) [.list k ex 26 l]:=fA gG (first:=[]) (cap:=[]) (.o (rfl:((0:Nat):Int)=0) (.o (rfl:(l.length:Int)=(l.length:Int)) (.o (rfl:(l.length:Int)=(l.length:Int)) .er)))
def abO:Option (Int×Int)⊕(Option (Int×Int)×Nat)->An
 |.inl none=>⟨8,false,false,0,0,0,false,[]⟩
 |.inl (some (b,z))=>⟨8,false,false,z,0,0,false,[b]⟩
 |.inr (none,_)=>⟨8,true,false,0,0,0,false,[]⟩
 |.inr (some (b,z),_)=>⟨8,true,false,z,0,0,false,[b]⟩
def IL(p:List Dg×Dg):An×Int:=if decide ((p.1.length:Int)>4)=true then(Rq,5)else if(bF (p.1++[p.2]) != 0)=true then(Rq,bF (p.1++[p.2]))else if((p.1.length:Int)==0)=true then(Rq,7)else(abO (jq (YF p.1 p.2) p.1.length 0 none),0)
theorem dG.got{call:aZ}{fv v:PV aG}{xs:List (PV aG)}{H H1:List (PB aG)}{β:Type}{r:Ar X0 Qp β}{s:β}(hs:dG X0 Qp call fv xs H v H1)(hg:r.get v=some s):dG X0 Qp call fv xs H (r.put s) H1:=by intro A m h tf qP hr hf hx;obtain⟨w,h',ws,m1,c1,c2,c3,c4⟩:=hs A m h tf qP hr hf hx;exact⟨w,h',ws,m1,c1,c2,r.ok hg c3,c4⟩
theorem aeb{n:Nat}(hn:24<=n)(BU:Ok n abM)(Gw:∀m,n-24<=m->Ok m su){k ex:Bool}{l:List Dg}{d:Dg}(h1:∀x∈l++[d],nM x)(h2:l.length<=1000):iJ (n+1) (.fn 39 [] []) [.own 0,.agg d.ps] [.list k ex 26 l] ((dO (a2 YU iA)).put (IL (l,d))) [.list k ex 26 l]:=by
 have hl:l.length<=ah:=by unfold ah;omega
 have h3:0<(l++[d]).length∧(l++[d]).length<=ah:=by rw[a1U,a4H];unfold ah;omega
 have h4:l.length+[d].length<=ah:=by rw[a4H];unfold ah;omega
 have h5:[d]≠[]:=by simp
 have s0:=agT (n:=n-1) (k:=k) (ex:=ex) (l:=l);rw[show n-1+1=n by omega]at s0;show dG X0 Qp _ _ _ _ ((dO (a2 YU iA)).put (if decide ((l.length:Int)>4)=true then(Rq,5)else if(bF (l++[d]) != 0)=true then(Rq,bF (l++[d]))else if((l.length:Int)==0)=true then(Rq,7)else(abO (jq (YF l d) l.length 0 none),0))) _;cases e1:decide ((l.length:Int)>4)
 .cases e2:(bF (l++[d]) != 0)
  .cases e3:((l.length:Int)==0)
   .have hk:LkP l d:=⟨h1,Qw h1 (by simpa using e2)⟩;have lp:=lLk (n:=n) hn Gw (k,ex) hk hl;revert lp;rcases jq (YF l d) l.length 0 none with(_|⟨b,z⟩)|⟨_|⟨b,z⟩,j⟩
    .intro lp;exact dG.got (v:=.dJ [anW ⟨8,false,false,0,0,0,false,[]⟩ (.nil .aP),.int .i64 0]) (fA BU (first:=[]) (cap:=[]) (.b e1 (.fr [0] s0 (.o h4 (.o h5 (.o h1 (.o h3 (.b e2 (.b e3 (.wG [.gc []] lp .er)))))))))) rfl
    .intro lp;exact dG.gs hX (nH hX BU (first:=[]) (cap:=[]) (v:=.dJ [anW ⟨8,false,false,z,0,0,false,[]⟩ (.own 1),.int .i64 0]) (H1:=.list k ex 26 l::hLk b) (by kernel_rfl) (.b e1 (.fr [0] s0 (.o h4 (.o h5 (.o h1 (.o h3 (.b e2 (.b e3 (.wG [.gc []] lp .er)))))))))) [.fz 1,.gc []] rfl
    .intro lp;exact dG.got (v:=.dJ [anW ⟨8,true,false,0,0,0,false,[]⟩ (.nil .aP),.int .i64 0]) (fA BU (first:=[]) (cap:=[]) (.b e1 (.fr [0] s0 (.o h4 (.o h5 (.o h1 (.o h3 (.b e2 (.b e3 (.wG [.gc []] lp .er)))))))))) rfl
    intro lp;exact dG.gs hX (nH hX BU (first:=[]) (cap:=[]) (v:=.dJ [anW ⟨8,true,false,z,0,0,false,[]⟩ (.own 1),.int .i64 0]) (H1:=.list k ex 26 l::hLk b) (by kernel_rfl) (.b e1 (.fr [0] s0 (.o h4 (.o h5 (.o h1 (.o h3 (.b e2 (.b e3 (.wG [.gc []] lp .er)))))))))) [.fz 1,.gc []] rfl
   exact dG.got (v:=.dJ [anW Rq (.nil .aP),.int .i64 7]) (dG.gs hX (nH hX BU (first:=[]) (cap:=[]) (v:=.dJ [anW Rq (.nil .aP),.int .i64 7]) (H1:=[.list k ex 26 l,.list true true 26 [d],.list true false 26 (l++[d])]) (by kernel_rfl) (.b e1 (.fr [0] s0 (.o h4 (.o h5 (.o h1 (.o h3 (.b e2 (.b e3 .er))))))))) [.gc []] rfl) rfl
  exact dG.got (v:=.dJ [anW Rq (.nil .aP),.int .i64 (bF (l++[d]))]) (dG.gs hX (nH hX BU (first:=[]) (cap:=[]) (v:=.dJ [anW Rq (.nil .aP),.int .i64 (bF (l++[d]))]) (H1:=[.list k ex 26 l,.list true true 26 [d],.list true false 26 (l++[d])]) (by kernel_rfl) (.b e1 (.fr [0] s0 (.o h4 (.o h5 (.o h1 (.o h3 (.b e2 .er)))))))) [.gc []] rfl) rfl
 exact dG.got (v:=.dJ [anW Rq (.nil .aP),.int .i64 5]) (fA BU (first:=[]) (cap:=[]) (.b e1 .er)) rfl
open Go Tw Pv bP
def jg(d:Dg)(g:LI0):Jb:=⟨d.ay,d.aB,[d],g⟩
structure GOk(d:Dg)(g:LI0):Prop where
 len:g.length=d.ay.length
 v:∀c,gu c d.ay.length->0<=g.getD c.toNat 0->g.getD c.toNat 0<d.ay.getD c.toNat 0
theorem am1{d:Dg}(hJ:kC (dP [d])){g:LI0}(h:GOk d g):kC (jg d g):=⟨hJ.d3,hJ.cu,hJ.ord,fun k hk=>have h:=hJ.dg k hk;⟨h.t,h.n,h.s,h.o,h.rk,h.two⟩,h.len,h.v⟩
theorem GOk.set{d:Dg}{g:LI0}(h:GOk d g){c k:Nat}(hk:(k:Int)<d.ay.getD (c:Int).toNat 0):GOk d (g.set (c:Int).toNat (k:Int)):=by
 refine⟨by rw[a4Y];exact h.len,fun c2 Gu h2=>?_⟩;by_cases e:(c:Int).toNat=c2.toNat
 .obtain⟨q0,q1⟩:=Gu;rw[<-e,a3s,a2M (by rw[h.len];omega)];exact hk
 rw[a3s,a1B e,<-a3s]at h2 ⊢;exact h.v c2 Gu h2
theorem aqY{d:Dg}(hJ:kC (dP [d])):GOk d (dP [d]).g:=⟨hJ.gl,hJ.gv⟩
abbrev jcF(d:Dg):List (PV aG):=[lI d.ay,lI d.aB,.own 0,.own 1,.fn 79 [] []]
abbrev hF(d:Dg)(g:LI0):List (PB aG):=[.list true true 26 [d],.list true true 3 g]
abbrev wFo(d:Dg)(v:V)(g:LI0)(c:Int)(x:List (Nat×PE aG)):aU aG:=⟨[(3,.loc 1 0),(6,.loc 2 0),(29,xL 3 d.ay),(30,xi d.ay.length),(31,xi c)]++x,[d.ps,v.ps,jcF d],hF d g⟩
abbrev wFi(d:Dg)(v:V)(g:LI0)(c:Int)(i:Int)(x:List (Nat×PE aG)):aU aG:=⟨[(3,.loc 1 0),(6,.loc 2 0),(8,xi c),(29,xL 3 d.ay),(30,xi d.ay.length),(31,xi c),(36,xi (d.ay.getD c.toNat 0)),(37,xi i)]++x,[d.ps,v.ps,jcF d],hF d g⟩
theorem aec{n f:Nat}{J:Jb}{k ex k2 LW:Bool}(h:iJ n (.fn 87 [] []) [.agg (J.ps (.fn f [] []))] [] (.map 0) [.map (kV.im (bW J))]):iJ n (.fn 87 [] []) [a8P J f 0 1] [.list k ex 26 J.D,.list k2 LW 3 J.g] (.map 2) [.list k ex 26 J.D,.list k2 LW 3 J.g,.map (kV.im (bW J))]:=by have h1:=dG.frame hX (ks:=[]) (H':=[.gone,.gone]) (Hp:=[]) (QD:=[.map (kV.im (bW J))]) (v':=.map 2) (fv':=.fn 87 [] []) (xs':=[.agg (J.ps (.fn f [] []))]) h (by decide) rfl rfl rfl rfl rfl rfl rfl;exact dG.lend hX (H:=[.list k ex 26 J.D,.list k2 LW 3 J.g]) (cs:=[lI J.s,lI J.o,.own 0,.own 1]) (rest:=[.fn f [] []]) [0,1] h1 rfl (fun i hi=>by simpa[l7.kH,l7]using hi) rfl
def lkF(d:Dg)(v:V)(g:LI0):Int:=look (bW (jg d g)) v
def gIn(d:Dg)(v:V)(c:Nat)(k:Nat)(g:LI0):LI0⊕(LI0×Nat):=if decide (lkF d v (g.set (c:Int).toNat (k:Int))>0)=true then .inr (g.set (c:Int).toNat (k:Int),k)else .inl (g.set (c:Int).toNat (k:Int))
def oIn:LI0⊕(LI0×Nat)->LI0
 |.inl g=>g
 |.inr r=>r.1
def nIn(d:Dg)(c:Nat):Nat:=(d.ay.getD (c:Int).toNat 0).toNat
def a4y(d:Dg)(v:V)(c:Nat)(g:LI0):LI0:=oIn (jq (gIn d v c) (nIn d c) 0 g)
def zFi(d:Dg)(v:V)(c:Nat):LI0⊕(LI0×Nat)->Ex×aU aG
 |.inl g=>(.exit 3,wFi d v g (c:Int) (nIn d c) [(38,xl false)])
 |.inr (g,k)=>(.exit 2,wFi d v g (c:Int) k [(49,xl true)])
theorem a8V{d:Dg}{v:V}{c:Nat}:∀(m k:Nat) (g:LI0),k+m<=nIn d c->GOk d g->GOk d (oIn (jq (gIn d v c) m k g))
 | 0,_,g,_,h=>h
 |m+1,k,g,hk,h=>by
  have h1:GOk d (g.set (c:Int).toNat (k:Int)):=h.set (by unfold nIn at hk;omega);simp only[jq,gIn];by_cases e:decide (lkF d v (g.set (c:Int).toNat (k:Int))>0)=true
  .rw[a0F e];exact h1
  rw[a0E e];exact a8V m (k+1) _ (by omega) h1
section
variable {n:Nat} (hn:24<=n) (hO:∀ m,n-24<=m->Ok m su) {d:Dg} (hJ:kC (dP [d])) {v:V}
include hn hO hJ
theorem lFi{c:Nat}(hc:c<d.ay.length){g:LI0}(hg:GOk d g):Lp n 28 1 (wFi d v g (c:Int) 0 []) (zFi d v c (jq (gIn d v c) (nIn d c) 0 g)).1 (zFi d v c (jq (gIn d v c) (nIn d c) 0 g)).2:=by
 have hz:=hJ.cu.sz (d.ay.getD (c:Int).toNat 0) (dB (show(c:Int).toNat<d.ay.length by simpa using hc));have hN:((nIn d c:Nat):Int)=d.ay.getD (c:Int).toNat 0:=by unfold nIn;omega
 refine jd (st:=fun i g=>wFi d v g (c:Int) i []) (g:=gIn d v c) (out:=zFi d v c) (s0:=g) (fun k g=>GOk d g) (by kernel_rfl) (by unfold ah;omega) hg (fun k g m hk hi ih=>?_) (fun g _=>?_)
 .have t1:decide ((k:Int)<d.ay.getD (c:Int).toNat 0)=true:=by rw[<-hN,a1z];omega
  have hg2:GOk d (g.set (c:Int).toNat (k:Int)):=hi.set (by rw[<-hN];omega);have i1:gu (c:Int) g.length:=by rw[hi.len];exact aH hc
  have s2:=aec (k:=true) (ex:=true) (k2:=true) (LW:=true) (Qr (am1 hJ hg2) (n:=n-2) (f:=79) (hO _ (by omega)) (show 0<[d].length by simp));rw[show n-2+2=n by omega]at s2;unfold gIn lkF;rcases IK (qH (jg d (g.set (c:Int).toNat (k:Int)))) v with hf|⟨hz2,hf⟩
  .exact aN gG (.b t1 (.o i1 (.fr [0,1] s2 (.c (.int .i64 (look (bW (jg d (g.set (c:Int).toNat (k:Int)))) v)) [] hf (.ls (.ouG [.gc [0,1]] nofun) (.nxG [.gc [0,1]] (ih _ hg2)))))))
  rw[hz2];exact aN gG (.b t1 (.o i1 (.fr [0,1] s2 (.a .calm (.o hf (.ls (.ouG [.gc [0,1]] nofun) (.nxG [.gc [0,1]] (ih _ hg2))))))))
 have t1:decide (((nIn d c:Nat):Int)<d.ay.getD (c:Int).toNat 0)=false:=by rw[<-hN];exact fD _
 exact aN gG (.b t1 (.ou nofun))
set_option maxRecDepth 20000 in
theorem lFo:Lp n 28 0 (wFo d v (dP [d]).g 0 []) (.exit 1) (wFo d v (aS (a4y d v) d.ay.length 0 (dP [d]).g) d.ay.length [(32,xl false)]):=by
 have hl:d.ay.length<=ah:=by have:d.ay.length<=6:=hJ.cu.len;unfold ah;omega
 refine P9 (X:=X0) (N:=d.ay.length) (g:=a4y d v) (s0:=(dP [d]).g) (st:=fun c g=>wFo d v g c []) (fin:=fun g=>wFo d v g d.ay.length [(32,xl false)]) (fun _ g=>GOk d g) (by kernel_rfl) hl TK (aqY hJ) (fun c g hc hg=>a8V (nIn d c) 0 g (by omega) hg) (fun c g hc hg m e p g9=>?_) (fun g _=>?_)
 .have lp:=lFi hn hO hJ (v:=v) hc hg;unfold a4y at g9;revert lp g9;rcases jq (gIn d v c) (nIn d c) 0 g with g1|⟨g1,k⟩
  .intro g9 lp;exact aN gG (.b (bD hc) (.o (aH hc) (.w lp (.go g9))))
  intro g9 lp;exact aN gG (.b (bD hc) (.o (aH hc) (.w lp (.go g9))))
 exact aN gG (.b (fD d.ay.length) .ex)
end
open Go Tw Pv bP
def IQ(p:Dg×V):LI0×Int:=if(bF [p.1] != 0)=true then([],bF [p.1])else if(jE p.2 != 0)=true then([],4)else if(look (bW (dP [p.1])) p.2==0)=true then([],7)else(aS (a4y p.1 p.2) p.1.ay.length 0 (dP [p.1]).g,0)
def am2:eY aG:=bZ 28 (a2 dA vA) (dO (a2 qg iA)) IQ (fun p=>[nM p.1]) abM
theorem rF(e:Int):Fp (Γ:=X0.Γ) (Is (X:=X0) (P:=Qp) (dO (a2 qg iA)) (([]:LI0),e)) .n (.ret (some (.dJ [.nil .aP,.int .i64 e]))):=by have h:(dO (a2 qg iA)).get (.dJ [.nil .aP,.int .i64 e])=some (([]:LI0),e):=rfl;exact Fp.rn (X:=X0) (P:=Qp) _ h
theorem ar1:Gd am2:=Good.acO 30 agR IG alQ fun n hn hO Gw hO3 p hp=>by
 obtain⟨d,v⟩:=p;have h1:nM d:=hp _ gY;obtain⟨n,rfl⟩:∃k,n=k+1:=⟨n-1,by omega⟩;have BU:=hO (n+1) (by omega);show nS X0 Qp _ _ _ ((dO (a2 qg iA)).put (if(bF [d] != 0)=true then([],bF [d])else if(jE v != 0)=true then([],4)else if(look (bW (dP [d])) v==0)=true then([],7)else(aS (a4y d v) d.ay.length 0 (dP [d]).g,0))) _;cases e1:(bF [d] != 0)
 .cases e2:(jE v != 0)
  .have s1:=alU (n:=n) (by omega) (hO3 n (by omega)) (fun m hm=>Gw m (by omega)) h1 e1 e2;have hJ:kC (dP [d]):=yV (D:=[d]) (by simp) (by simp) (a4x h1) (by simpa using e1);have s2:=aec (k:=true) (ex:=true) (k2:=true) (LW:=true) (Qr hJ (n:=n-1) (f:=79) (Gw _ (by omega)) (show 0<[d].length by simp));rw[show n-1+2=n+1 by omega]at s2;have lp:=lFo (n:=n+1) (by omega) (fun m hm=>Gw m (by omega)) hJ (v:=v);show nS X0 Qp _ _ _ ((dO (a2 qg iA)).put (if(look (bW (dP [d])) v==0)=true then([],7)else(aS (a4y d v) d.ay.length 0 (dP [d]).g,0))) _;rcases IK (qH (dP [d])) v with hf|⟨hz,hf⟩
   .exact aO BU (.fr [] s1 (.b (rfl:((0:Int) != 0)=false) (.fr [0,1] s2 (.c (.int .i64 (look (bW (dP [d])) v)) [] hf (.ss (rF _) (.wG [.gc [0,1]] lp .rr))))))
   .rw[hz];exact aO BU (.fr [] s1 (.b (rfl:((0:Int) != 0)=false) (.fr [0,1] s2 (.a .calm (.o hf (.ss (rF _) (.wG [.gc [0,1]] lp .rr)))))))
  .have s1:=alT (n:=n) (v:=v) (hO3 n (by omega)) h1 e1 e2;exact aO BU (.fr [] s1 (.b (rfl:((4:Int) != 0)=true) (rF _)))
 .have s1:=alS (n:=n) (v:=v) (hO3 n (by omega)) h1 e1;exact aO BU (.fr [] s1 (.b e1 (rF _)))
open Go Tw Pv bP
abbrev dz:List (PV aG):=[.nil .aP,.nil .aP,.nil .aP,.nil .aP,.int .i64 0]
abbrev cCh(s o:LI0):List (PV aG):=[lI s,lI o,.own 1,.aP 0 0 1 1 2 true,.int .i64 0]
abbrev hCh(c:Int)(x:List V×LI0):List (PB aG):=[.cells [.int .i64 c,.own 2],.list false false 39 x.1,.list false false 3 x.2]
abbrev wCh(s o:LI0)(c w n:Int)(y:List V×LI0)(i:Int)(x:List (Nat×PE aG)):aU aG:=⟨[(3,xi w),(8,.loc 0 0),(11,.loc 1 0),(47,xi n),(48,xi i)]++x,[dz,cCh s o],hCh c y⟩
def gCh(w:Int)(i:Nat)(y:List V×LI0):List V×LI0:=(y.1++[⟨0,i64.wrap (w+(i:Int))⟩],y.2++[i64.wrap (-1-(i:Int))])
def chE(w:Int)(n:Nat):List V:=(List.range n).map fun(i:Nat)=>(⟨0,i64.wrap (w+(i:Int))⟩:V)
def chK(n:Nat):LI0:=(List.range n).map fun(i:Nat)=>i64.wrap (-1-(i:Int))
theorem YG(w:Int):∀n,aS (gCh w) n 0 ([],[])=(chE w n,chK n)
 | 0=>rfl
 |n+1=>by rw[tV,YG w n,a3W];unfold gCh chE chK;rw[aci,a4J,a4J];rfl
theorem lCh{n:Nat}{s o:LI0}{c w:Int}{z:Nat}(hz:z<=12)(h0:s.getD c.toNat 0=(z:Int)):Lp n 57 0 (wCh s o c w (s.getD c.toNat 0) ([],[]) 0 []) (.exit 0) (wCh s o c w (s.getD c.toNat 0) (chE w z,chK z) z [(49,xl false)]):=by
 rw[<-YG w z,h0];refine P9 (X:=X0) (N:=z) (g:=gCh w) (s0:=([],[])) (st:=fun i y=>wCh s o c w (z:Int) y i []) (fin:=fun y=>wCh s o c w (z:Int) y z [(49,xl false)]) (fun k y=>y.1.length=k∧y.2.length=k) (by kernel_rfl) (by unfold ah;omega) TK ⟨rfl,rfl⟩ (fun k y hk hi=>?_) (fun k y hk hi m e p g9=>?_) (fun y _=>?_)
 .unfold gCh;simp[hi.1,hi.2]
 .obtain⟨E,K⟩:=y;have a1:E.length+[(⟨0,i64.wrap (w+(k:Int))⟩:V)].length<=ah:=by rw[a4H];have:E.length=k:=hi.1;unfold ah;omega
  have a2:K.length+[i64.wrap (-1-(k:Int))].length<=ah:=by rw[a4H];have:K.length=k:=hi.2;unfold ah;omega
  exact aN gG (.b (bD hk) (.o a1 (.o a2 (.goG [.gc [0,4,6]] g9))))
 exact aN gG (.b (fD z) .ex)
def chD(s o:LI0)(c w:Int)(z:Nat):Dg:=⟨s,o,chE w z,[⟨c,chK z⟩],0⟩
theorem abP{n:Nat}(hO:Ok n a8f){s o:LI0}{c:Int}{y:List V×LI0}(hd:let d:Dg:=⟨s,o,y.1,[⟨c,y.2⟩],0⟩;Ba d∧d.ay.length<=ah∧d.aB.length<=2^20∧d.aK.length<=ah∧(((bH d).2 != 0)=false->ClP (bH d).1)) :
  iJ n (.fn 108 [] []) [.agg (cCh s o)] (hCh c y) ((dO (a2 dA iA)).put (zT ⟨s,o,y.1,[⟨c,y.2⟩],0⟩)) [.gone,.gone,.gone]:=by
 obtain⟨h1,h2,h3,h4,h5⟩:=hd;have k0:iJ n (.fn 108 [] []) [.agg (⟨s,o,y.1,[⟨c,y.2⟩],0⟩:Dg).ps] [] ((dO (a2 dA iA)).put (zT ⟨s,o,y.1,[⟨c,y.2⟩],0⟩)) []:=nS.Ql hX (first:=[]) (cap:=[]) (hO 108 [.agg (⟨s,o,y.1,[⟨c,y.2⟩],0⟩:Dg).ps] ((dO (a2 dA iA)).put (zT ⟨s,o,y.1,[⟨c,y.2⟩],0⟩)) [] _ (by kernel_rfl) (fun p h=>by
  rcases a1Y.1 h with rfl|h
  .exact h1
  rcases a1Y.1 h with rfl|h
  .exact h2
  rcases a1Y.1 h with rfl|h
  .exact h3
  rcases a1Y.1 h with rfl|h
  .exact h4
  rw[a1S.1 h];exact h5)) rfl rfl rfl rfl
 have k1:=dG.frame hX (ks:=[]) (H':=[.gone,.gone,.gone]) (Hp:=[]) (QD:=[]) (v':=(dO (a2 dA iA)).put (zT ⟨s,o,y.1,[⟨c,y.2⟩],0⟩)) (fv':=.fn 108 [] []) (xs':=[.agg (⟨s,o,y.1,[⟨c,y.2⟩],0⟩:Dg).ps]) k0 (by decide) rfl rfl rfl rfl rfl rfl rfl;exact dG.cell1 hX (H:=hCh c y) (SQ:=[lI s,lI o,.own 1]) (ws1:=[lI s,lI o,lV y.1]) (cs:=[.int .i64 c,.own 2]) (Xg:=[.int .i64 0]) (ws2:=[.int .i64 0]) (i:=0) (e:=105) (sz:=2) (row:=(⟨c,y.2⟩:Br)) [1,2] rfl (by kernel_rfl) (by decide) rfl rfl k1 rfl rfl rfl (fun j hj=>by simp[l7.kH,l7]at hj ⊢;omega) (fun j hj=>by simp[l7.kH,l7]at hj ⊢;omega) (fun j hj=>by simp[l7.kH,l7]at hj)
open Go Tw Pv bP
theorem abQ(w:Int)(z:Nat):(chE w z).length=z:=by simp[chE]
theorem abR(z:Nat):(chK z).length=z:=by simp[chK]
structure ChP(s o:LI0)(c w:Int)(z:Nat):Prop where
 f:bK s o=0
 ic:gu c s.length
 ez:s.getD c.toNat 0=(z:Int)
 z12:z<=12
 w0:-9999<=w
 w1:w+z<=10000
section
variable {s o:LI0} {c w:Int} {z:Nat} (h:ChP s o c w z)
include h
theorem abS{v:V}(hv:v∈chE w z):∃j,j<z∧v=⟨0,w+(j:Int)⟩:=by unfold chE at hv;obtain⟨j,hj,rfl⟩:=a0V.1 hv;have:=a4P.1 hj;have:=h.w0;have:=h.w1;have:=h.z12;exact⟨j,by omega,by rw[wrap_small (by omega) (by omega)]⟩
theorem abT{k:Nat}(hk:k<z):(chK z).getD k 0=-1-(k:Int):=by have:=h.z12;unfold chK;rw[a3s,a4T,adI hk];show i64.wrap (-1-(k:Int))=_;rw[wrap_small (by omega) (by omega)]
theorem agU:∀v∈chE w z,J4 v:=fun v hv=>by obtain⟨j,hj,rfl⟩:=abS h hv;have:=h.w0;have:=h.w1;exact yH.2 ⟨by show(0:Int)<=0;omega,by show(0:Int)<=4;omega,fun _=>⟨by show -9999<=w+(j:Int);omega,by show w+(j:Int)<=9999;omega⟩,fun hz=>absurd rfl hz⟩
theorem am3:Ba (chD s o c w z):=⟨fun i hi k hk=>by
 have:i=0:=by have:i<1:=hi;omega
 subst this;have hk3:k<z:=by rw[<-abR z];exact hk
 show Gj ((chK z).getD k 0);rw[abT h hk3,<-wrap_small (z:=-1-(k:Int)) (by have:=h.z12;omega) (by omega)];exact Qk _,by show Gj 0;rw[<-wrap_small (z:=0) (by omega) (by omega)];exact Qk _,fun v hv=>(agU h v hv).2⟩
theorem abU:Ba (chD s o c w z)∧(chD s o c w z).ay.length<=ah∧(chD s o c w z).aB.length<=2^20∧(chD s o c w z).aK.length<=ah∧(((bH (chD s o c w z)).2 != 0)=false->ClP (bH (chD s o c w z)).1):=by
 obtain⟨cu,ord⟩:=jw.1 h.f;have hr:=am3 h;have h6:s.length<=6:=cu.len;have QL:o.length=s.length:=by unfold jW at ord;rw[a1z]at ord;exact ord.1
 have hl:=abQ w z;have hz:=h.z12;have e1:(chD s o c w z).aK.length+1<=ah:=by show(chE w z).length+1<=ah;rw[hl];unfold ah;omega
 have e2:(chD s o c w z).ay.length<=ah:=by show s.length<=ah;unfold ah;omega
 refine⟨hr,e2,by show o.length<=2^20;omega,by omega,fun h0=>?_⟩;obtain⟨q1,q2⟩:=xk hr e1 e2 (by show o.length<=ah;unfold ah;omega) (by simpa using h0);rw[q1];exact q2
end
def Qy(p:LI0×LI0×Int×Int):Dg×Int:=if(bK p.1 p.2.1 != 0)=true then(jk,bK p.1 p.2.1)else if(!(Ny 0 (i64.wrap ((p.1.length:Int)-1)) p.2.2.1))=true then(jk,3)else if(!(Ny (-9999) (i64.wrap (i64.wrap (9999-p.1.getD p.2.2.1.toNat 0)+1)) p.2.2.2))=true then(jk,3)else zT (chD p.1 p.2.1 p.2.2.1 p.2.2.2 (p.1.getD p.2.2.1.toNat 0).toNat)
theorem agV{a b x:Int}(h:(!(Ny a b x))=false):a<=x∧x<=b:=by
 unfold Ny at h;by_cases h1:x>=a
 .simp[h1]at h;exact⟨h1,h⟩
 simp[h1]at h
theorem agW{s o:LI0}{c w:Int}(e1:(bK s o != 0)=false)(hc:gu c s.length)(e3:(!(Ny (-9999) (i64.wrap (i64.wrap (9999-s.getD c.toNat 0)+1)) w))=false):ChP s o c w (s.getD c.toNat 0).toNat:=by
 have f:bK s o=0:=by simpa using e1
 obtain⟨cu,ord⟩:=jw.1 f;have hz:=cu.sz (s.getD c.toNat 0) (dB (show c.toNat<s.length by obtain⟨a,b⟩:=hc;omega));obtain⟨z0,z1⟩:=hz;obtain⟨w0,w1⟩:=agV e3;rw[wrap_small (z:=9999-s.getD c.toNat 0) (by omega) (by omega),wrap_small (by omega) (by omega)]at w1;exact⟨f,hc,by omega,by omega,w0,by omega⟩
def agX:eY aG:=bZ 57 (a4 qg qg iA iA) (dO (a2 dA iA)) Qy (fun p=>[p.1.length<=ah,p.2.1.length<=2^20]) am2
theorem ar4:Gd agX:=Good.Xy 0 ar1 adY fun n hn hO Gw p hp=>by obtain⟨s,o,c,w⟩:=p;have h1:s.length<=ah:=hp _ gY;have h2:o.length<=2^20:=hp _ yc;have hc:(!(Ny 0 (i64.wrap ((s.length:Int)-1)) c))=false->gu c s.length:=fun e2=>a8K e2 h1;have hP:=fun(e1:(bK s o != 0)=false) (e2:(!(Ny 0 (i64.wrap ((s.length:Int)-1)) c))=false) (e3:(!(Ny (-9999) (i64.wrap (i64.wrap (9999-s.getD c.toNat 0)+1)) w))=false)=>agW e1 (hc e2) e3;have lp:=fun(e1:(bK s o != 0)=false) (e2:(!(Ny 0 (i64.wrap ((s.length:Int)-1)) c))=false) (e3:(!(Ny (-9999) (i64.wrap (i64.wrap (9999-s.getD c.toNat 0)+1)) w))=false)=>lCh (n:=n) (s:=s) (o:=o) (c:=c) (w:=w) (hP e1 e2 e3).z12 (hP e1 e2 e3).ez;have s1:=fun(e1:(bK s o != 0)=false) (e2:(!(Ny 0 (i64.wrap ((s.length:Int)-1)) c))=false) (e3:(!(Ny (-9999) (i64.wrap (i64.wrap (9999-s.getD c.toNat 0)+1)) w))=false)=>abP (n:=n) (Gw n (by omega)) (s:=s) (o:=o) (c:=c) (y:=(chE w (s.getD c.toNat 0).toNat,chK (s.getD c.toNat 0).toNat)) (abU (hP e1 e2 e3));show nS X0 Qp _ _ _ ((dO (a2 dA iA)).put (if(bK s o != 0)=true then(jk,bK s o)else if(!(Ny 0 (i64.wrap ((s.length:Int)-1)) c))=true then(jk,3)else if(!(Ny (-9999) (i64.wrap (i64.wrap (9999-s.getD c.toNat 0)+1)) w))=true then(jk,3)else zT (chD s o c w (s.getD c.toNat 0).toNat))) _;exact aO (hO n (by omega)) (.o h1 (.o h2 (.sh (fun _=>rE _) fun e1=>.sh (fun _=>rE _) fun e2=>.o (hc e2) (.sh (fun _=>rE _) fun e3=>.a (.QU [] [] (.nil .aP) []) (.o (hc e2) (.wG [.a3o 1 2 39,.UQ 0 1 3] (lp e1 e2 e3) (.fr [0,1,2] (s1 e1 e2 e3) .rr)))))))
open Go Tw Pv bP
structure LY(d:Dg):Prop where
 t:BX d
 n:d.aj.length<=6000
 l:aX d=0
 f:vk d.ay
 o:d.aB.length<=ah
 e:d.aK.length<=ah
def gLs(d:Dg)(k:Nat)(l:List V):List V:=l++[xP d (lQ d.ay k)]
theorem agY(d:Dg):aS (gLs d) (Ce d.ay) 0 []=cellsD d:=by have:=cO (g:=gLs d) (m:=Ce d.ay) (k:=0) (s:=[]) (fun k l=>l=(List.range k).map fun(k:Nat)=>xP d (lQ d.ay k)) rfl (fun j l _ _ e=>by rw[gLs,e,aci,a4J];rfl);rw[a3W]at this;exact this
abbrev wLs(d:Dg)(y:List V)(i:Int)(x:List (Nat×PE aG)):aU aG:=⟨[(1,.loc 0 0),(3,.val (.own 0)),(4,xi i)]++x,[d.ps],[.list false false 39 y]⟩
theorem lLs{n:Nat}(hO:Ok n agX)(d:Dg)(h:LY d):Nk n 44 0 0 (wLs d [] 0 []) (.exit 0) (wLs d (cellsD d) (Ce d.ay) [(12,xl false)]):=by
 have hs:d.ay.length<=ah:=by have:=h.f.len;unfold ah;omega
 have hc:Ce d.ay<=ah:=by have:=h.f.Ce;have:=h.f.acN;have:=h.f.many;unfold ah;omega
 rw[<-agY d];refine wY (σ:=List V) (N:=Ce d.ay) (g:=gLs d) (s0:=[]) (st:=fun i y=>wLs d y i []) (fin:=fun y=>wLs d y (Ce d.ay) [(12,xl false)]) (fun k y=>y.length=k) (by kernel_rfl) hc rfl (fun j y hj hy=>by simp[gLs,hy]) (fun j y hj hy m e p g9=>?_) (fun y _=>?_)
 .have h2:y.length+[xP d (lQ d.ay j)].length<=ah:=by rw[hy,a4H];omega
  exact aN hO (.o hs (.b (h.f.lt hj) (.o hs (.o h.f.sz (.o (show(0:Int)<=(j:Int) by omega) (.o (show(j:Int)<2^62 by unfold ah at hc;omega) (.o h.t (.o h.n (.o (Es (j:Int) h.f.sz) (.o h2 (.goG [.gc [2]] g9)))))))))))
 exact aN hO (.o hs (.b h.f.no .ex))
def am5:eY aG:=bZ 44 (a1 dA) vsA cellsD (fun d=>[LY d]) agX
theorem ar5:Gd am5:=ar4.add fun n hO p hp=>by
 have h:LY p:=hp _ gY;have hb:(aX p != 0)=false:=by rw[h.l];rfl
 exact aO hO (.o h.o (.o h.e (.b hb (.wG [.G6 3 39] (lLs (n:=n) hO p h) .rr))))
def am6:eY aG:=bZ 81 (a1 qg) qg (fun p=>p) (fun p=>[p.length<=ah]) am5
theorem ar6:Gd am6:=ar5.add fun n hO p hp=>aO hO (.o (hp _ gY) .rr)
def am7:eY aG:=bZ 82 (a1 vsA) vsA (fun p=>p) (fun p=>[p.length<=ah]) am6
theorem ar7:Gd am7:=ar6.add fun n hO p hp=>aO hO (.o (hp _ gY) .rr)
def am8:eY aG:=bZ 56 (a1 qg) qg (fun p=>p) (fun p=>[p.length<=ah]) am7
theorem ar8:Gd am8:=ar7.add fun n hO p hp=>aO hO (.o (hp _ gY) .rr)
def agZ:eY aG:=bZ 48 (a1 iA) vA (fun p=>(⟨0,p⟩:V)) np am8
theorem ar9:Gd agZ:=ar8.add fun n hO p hp=>aO hO .rr
open Go Tw Pv bP
structure Cm(d:Dg):Prop where
 s:d.ay.length<=ah
 o:d.aB.length<=ah
 e:d.aK.length<=ah
 n:d.aj.length<=ah
 k:∀b∈d.aj,b.aA.length<=ah
abbrev ah0(a b:Dg)(i:Int)(x:List (Nat×PE aG)):aU aG:=⟨[(2,.loc 0 0),(3,.loc 1 0),(5,xi i)]++x,[a.ps,b.ps],[]⟩
def a8Y(a b:Dg)(k:Nat):Bool:=if((a.aj.getD k kR).var != (b.aj.getD k kR).var)=true then true else !(decide ((a.aj.getD k kR).aA=(b.aj.getD k kR).aA))
def ah1(a b:Dg):Unit⊕Nat->Ex×aU aG
 |.inl _=>(.exit 0,ah0 a b a.aj.length [(48,xl false)])
 |.inr _=>(.ret,⟨[(4,xl false)],[a.ps,b.ps],[]⟩)
theorem am9{n:Nat}(hO:Ok n agZ){a b:Dg}(h:Cm a)(hl:a.aj.length=b.aj.length):Lp n 72 0 (ah0 a b 0 []) (ah1 a b (bG (a8Y a b) a.aj.length)).1 (ah1 a b (bG (a8Y a b) a.aj.length)).2:=by
 refine jd (st:=fun i _=>ah0 a b i []) (g:=gS (a8Y a b)) (out:=ah1 a b) (fun _ _=>True) (by kernel_rfl) h.n trivial (fun k u m hk _ ih=>?_) (fun _ _=>?_)
 .have i1:gu (k:Int) a.aj.length:=aH hk;have i2:gu (k:Int) b.aj.length:=aH (by omega);have h9:=h.k _ (dI (d:=kR) hk);unfold gS a8Y;cases e1:((a.aj.getD k kR).var != (b.aj.getD k kR).var)
  .exact aN hO (.b (bD hk) (.o i1 (.o i2 (.b e1 (.o i1 (.o i2 (.o h9 (.ls (.ou nofun) (.nx (ih _ trivial))))))))))
  exact aN hO (.b (bD hk) (.o i1 (.o i2 (.b e1 (.ou nofun)))))
 exact aN hO (.b (fD a.aj.length) (.ou nofun))
def ama(a b:Dg):Bool:=if(!(decide (a.ay=b.ay)))=true then false else if(!(decide (a.aB=b.aB)))=true then false else if(!(decide (a.aK=b.aK)))=true then false else if((a.aj.length:Int) != (b.aj.length:Int))=true then false else if(a.root != b.root)=true then false else if jZ (bG (a8Y a b) a.aj.length)=true then true else false
def amb:eY aG:=bZ 72 (a2 dA dA) tA (fun p=>ama p.1 p.2) (fun p=>[Cm p.1]) agZ
theorem ara:Gd amb:=ar9.add fun n hO p hp=>aO hO (.o (show Cm p.1 from hp _ gY).s (.ss .rr (.o (show Cm p.1 from hp _ gY).o (.ss .rr (.o (show Cm p.1 from hp _ gY).e (.ss .rr (.sh (fun _=>.rr) fun h4=>.ss .rr (.zh (fun h=>.w (kM (am9 hO (show Cm p.1 from hp _ gY) (show p.1.aj.length=p.2.aj.length by simp at h4;omega)) () h) .rr) fun h=>.w (kN (am9 hO (show Cm p.1 from hp _ gY) (show p.1.aj.length=p.2.aj.length by simp at h4;omega)) 0 h) .rr))))))))
def amc:eY aG:=bZ 25 (a3 dA iA dA) tA (fun p=>(if(p.2.1==0)=true then ama p.1 p.2.2 else false)) (fun p=>[Cm p.1]) amb
theorem arb:Gd amc:=ara.add fun n hO p hp=>aO hO (.ss (.o (hp _ gY) .rr) .rr)
def VW(s o:LI0):Bool:=if decide ((s.length:Int)>8)=true then false else if decide ((o.length:Int)>8)=true then false else if(bK s o != 0)=true then true else decide (Fj s<=200)
def ah2:eY aG:=bZ 54 (a2 qg qg) tA (fun p=>VW p.1 p.2) np amc
theorem ard:Gd ah2:=arb.add fun n hO p hp=>aO hO (.sh (fun _=>.rr) fun h1=>.sh (fun _=>.rr) fun h2=>.o (show p.2.length<=ah by simp at h2;unfold ah;omega) (.ss .rr (.o (show p.1.length<=ah by simp at h1;unfold ah;omega) .rr)))
open Go Tw Pv bP
abbrev wCp(d:Dg)(acc:List Br)(i:Int)(x:List (Nat×PE aG)):aU aG:=⟨[(1,.loc 0 0),(2,.loc 1 0),(3,.loc 2 0),(4,xi i)]++x,[d.ps,[.nil .aP,.nil .aP,.nil .aP,.nil .aP,.int .i64 0],[lI d.ay,lI d.aB,lV d.aK,.own 0,.int .i64 d.root]],[.list false false 105 acc]⟩
theorem lCp{n:Nat}{d:Dg}(hO:Ok n ah2)(h:Cm d):Lp n 21 0 (wCp d [] 0 []) (.exit 0) (wCp d d.aj d.aj.length [(21,xl false)]):=by
 have e:aS (fun k (a:List Br)=>a++[d.aj.getD k kR]) d.aj.length 0 []=d.aj:=by rw[Ph,Ey d.aj kR fun r=>r,List.map_id']
 rw[show wCp d d.aj d.aj.length [(21,xl false)]=wCp d (aS (fun k (a:List Br)=>a++[d.aj.getD k kR]) d.aj.length 0 []) d.aj.length [(21,xl false)] by rw[e]];refine wY (σ:=List Br) (N:=d.aj.length) (g:=fun k (a:List Br)=>a++[d.aj.getD k kR]) (s0:=([]:List Br)) (st:=fun i a=>wCp d a i []) (fin:=fun a=>wCp d a d.aj.length [(21,xl false)]) (fun k a=>a.length=k) (by kernel_rfl) h.n rfl (fun k a _ h=>by simp[h]) (fun k a hk ha m e p g9=>?_) (fun a _=>?_)
 .have hm:=h.k (d.aj.getD k kR) (dI hk);have hn:=h.n;have hal:a.length+[d.aj.getD k kR].length<=ah:=by have:a.length=k:=ha;rw[a4H];omega
  exact aN hO (.b (bD hk) (.o (aH hk) (.o (aH hk) (.o hm (.o hal (.goG [.gc [2]] g9))))))
 exact aN hO (.b (fD d.aj.length) .ex)
def ah3:eY aG:=bZ 21 (a1 dA) dA (fun p=>p) (fun p=>[Cm p]) ah2
theorem arf:Gd ah3:=ard.add fun n hO p hp=>aO hO (.o (show Cm p from hp _ gY).s (.o (show Cm p from hp _ gY).o (.o (show Cm p from hp _ gY).e (.wG [.a3o 2 3 105] (lCp hO (hp _ gY)) .rr))))
abbrev wTh(d:Dg)(i:Int)(x:List (Nat×PE aG)):aU aG:=⟨[(1,.loc 0 0),(3,xi i)]++x,[d.ps],[]⟩
def cTh(d:Dg)(k:Nat):Bool:=decide (((d.aj.getD k kR).aA.length:Int)>14)
def zTh(d:Dg):Unit⊕Nat->Ex×aU aG
 |.inl _=>(.exit 0,wTh d d.aj.length [(26,xl false)])
 |.inr _=>(.ret,⟨[(2,xl false)],[d.ps],[]⟩)
theorem lTh{n:Nat}(hO:Ok n ah3){d:Dg}(h:d.aj.length<=ah):Lp n 18 0 (wTh d 0 []) (zTh d (bG (cTh d) d.aj.length)).1 (zTh d (bG (cTh d) d.aj.length)).2:=by
 refine jd (st:=fun i _=>wTh d i []) (g:=gS (cTh d)) (out:=zTh d) (fun _ _=>True) (by kernel_rfl) h trivial (fun k u m hk _ ih=>?_) (fun _ _=>?_)
 .unfold gS cTh;exact aN hO (.b (bD hk) (.o (aH hk) (.ls (.ou nofun) (.nx (ih _ trivial)))))
 exact aN hO (.b (fD d.aj.length) (.ou nofun))
def DZ(d:Dg):Bool:=if(!(VW d.ay d.aB))=true then false else if decide ((d.aK.length:Int)>40)=true then false else if decide ((d.aj.length:Int)>60)=true then false else if jZ (bG (cTh d) d.aj.length)=true then true else false
def ame:eY aG:=bZ 18 (a1 dA) tA (fun p=>DZ p) np ah3
theorem arj:Gd ame:=arf.add fun n hO p hp=>aO hO (.ss .rr (.ss .rr (.sh (fun _=>.rr) fun h3=>.zh (fun h=>.w (kM (lTh hO (show p.aj.length<=ah by simp at h3;unfold ah;omega)) () h) .rr) fun h=>.w (kN (lTh hO (show p.aj.length<=ah by simp at h3;unfold ah;omega)) 0 h) .rr)))
theorem E5{d:Dg}(h:DZ d=true):Cm d∧d.ay.length<=8∧d.aB.length<=8∧d.aK.length<=40∧d.aj.length<=60:=by
 unfold DZ at h;split at h
 .cases h
 rename_i h1;split at h
 .cases h
 rename_i h2;split at h
 .cases h
 rename_i h3;split at h
 .rename_i h4;have h1:VW d.ay d.aB=true:=by simpa using h1
  unfold VW at h1;split at h1
  .cases h1
  rename_i q1;split at h1
  .cases h1
  rename_i q2;simp at h2 h3 q1 q2;refine⟨⟨by unfold ah;omega,by unfold ah;omega,by unfold ah;omega,by unfold ah;omega,fun b hb=>?_⟩,by omega,by omega,by omega,by omega⟩;obtain⟨k,hk,e⟩:=a8B hb;have:=dL.1 h4 k hk;unfold cTh at this;rw[a3s,a0q hk,a5e,e]at this;simp at this;unfold ah;omega
 cases h
open Go Tw Pv bP
theorem Lm{d:Dg}(h:aX d=0):bK d.ay d.aB=0:=by
 unfold aX at h;split at h
 .rename_i c;rw[h]at c;cases c
 rename_i c;simpa using c
theorem LY.of{d:Dg}(h:LY d){l:List V}(hl:l.length=Ce d.ay):OfP d.ay d.aB l∧(PtP d.ay d.aB l∧d.aB.length<=6∧wO d.ay d.aB<=ah):=by obtain⟨cu,ord⟩:=jw.1 (Lm h.l);have ho:OfP d.ay d.aB l:=⟨cu,ord,by rw[hl,cu.a3A]⟩;obtain⟨q1,q2,q3⟩:=ho.p;have hw:=DT cu.sz ord;have hm:=cu.many;have h6:=cu.len;exact⟨ho,q1,by omega,by unfold ah;omega⟩
open Go Tw Pv bP
def dX:Dg:=⟨[2,3],[0,1],[⟨0,1⟩,⟨0,2⟩],[⟨0,[-1,-2]⟩],0⟩
def dY:Dg:=⟨[2,3],[0,1],[⟨0,0⟩,⟨0,1⟩,⟨0,2⟩],[⟨1,[-1,-2,-3]⟩],0⟩
def cL(l:LI0):List V:=l.map fun n=>⟨0,n⟩
theorem a4z:Qy ([2,3],[0,1],0,1)=(dX,0):=by kernel_rfl
def dIf:Dg:=(YB (dY,dX,dY)).1
theorem amf:(YB (dY,dX,dY)).2=0∧iW dIf=0∧cellsD dIf=cL [0,1,1,0,2,2]:=⟨by kernel_rfl,by kernel_rfl,by kernel_rfl⟩
def dRs:Dg:=(Ll (dY,1,2)).1
theorem ah5:(Ll (dY,1,2)).2=0∧iW dRs=0∧cellsD dRs=cL [2,2,2,2,2,2]:=⟨by kernel_rfl,by kernel_rfl,by kernel_rfl⟩
def dWh:Dg:=(zY dY).1
theorem a8Z:(zY dY).2=0∧iW dWh=0∧cellsD dWh=cL [0,1,0,0,1,0]:=⟨by kernel_rfl,by kernel_rfl,by kernel_rfl⟩
theorem abV:DY (dY,⟨0,2⟩)=(2,0):=by kernel_rfl
theorem a90:IQ (dX,⟨0,2⟩)=([1,0],0):=by kernel_rfl
def Gs:Dg:=(xC (10,dX,dY)).1
theorem ah6:(xC (10,dX,dY)).2=0:=by kernel_rfl
def dLe:Dg:=(xC (14,dX,dY)).1
theorem amg:(xC (14,dX,dY)).2=0:=by kernel_rfl
theorem abW:IL ([dX,dY],dLe)=(⟨8,false,false,2,0,0,false,[0]⟩,0):=by kernel_rfl
def VX:List (V×Int):=bW (dP [Gs,dX])
theorem amh:mg VX=[0,1]:=by
 have e:((VX.filter fun e=>!decide (e.1.f>0)).map fun e=>e.1.n)=[0,1]:=by kernel_rfl
 unfold mg;rw[e];unfold gV;exact List.mergeSort_of_pairwise (by simp)
theorem ah8:a2C (4,Gs,dX)=(⟨4,false,false,0,0,1,true,[]⟩,0):=by
 have e1:bF [Gs,dX]=0:=by kernel_rfl
 have e2:uS VX=true:=by kernel_rfl
 have e3:VX≠[]:=by
  intro h;have h2:VX.length=0:=by rw[h];rfl
  have h3:VX.length=3:=by kernel_rfl
  omega
 show(if(bF [Gs,dX] != 0)=true then(Rq,bF [Gs,dX])else Gq 4 VX)=_;rw[e1];show Gq 4 VX=_;unfold Gq;rw[a0E e3];show(if mg VX=[]then _ else _)=_;rw[amh,e2];rfl
open Go Tw Pv bP
def ah9:eY aG:=bZ 73 afo (dO (a2 dA dA)) (fun p=>(dX,dY)) np ame
theorem ark:Gd ah9:=arj.add fun n hO p hp=>aO hO .rr
abbrev anP(a:An):List (PV aG):=[.int .u8 a.q,.bool a.none,.bool a.yes,.int .i64 a.n,.int .i64 a.lo,.int .i64 a.hi,.bool a.fault,lI a.set,.nil .aP]
abbrev wSa(a b:An)(i:Int)(x:List (Nat×PE aG)):aU aG:=⟨[(2,.loc 0 0),(3,.loc 1 0),(5,xi i)]++x,[anP a,anP b],[]⟩
theorem lSa{n:Nat}(hO:Ok n ah9){a b:An}:Lp n 35 0 (wSa a b 0 []) (.exit 0) (wSa a b 0 [(74,xl false)]):=by have:=P9 (X:=X0) (P:=Qp) (T:=T) (L:=LL) (call:=iE n) (f:=35) (gW:=false) (nt:=Cc Qp 35) (B:=0) (b:=Tf Qp 35 0) (σ:=Unit) (N:=0) (g:=fun _ s=>s) (s0:=()) (st:=fun i _=>wSa a b i []) (fin:=fun _=>wSa a b 0 [(74,xl false)]) (w:=wSa a b 0 []) (e:=.exit 0) (fun _ _=>True) (by kernel_rfl) (a5i _) TK trivial (fun _ _ _ _=>trivial) (fun k s hk=>absurd hk (aeX _)) (fun s _=>aN hO (.b (rfl:decide ((0:Int)<0)=false) .ex));exact this
def abX(a b:An):Bool:=if(a.q != b.q)=true then false else if(!(a.none==b.none))=true then false else if(!(a.yes==b.yes))=true then false else if(a.n != b.n)=true then false else if(a.lo != b.lo)=true then false else if(a.hi != b.hi)=true then false else if(!(a.fault==b.fault))=true then false else if(!(decide (a.set=b.set)))=true then false else true
def aha:eY aG:=bZ 35 (a2 YU YU) tA (fun p=>abX p.1 p.2) (fun p=>[p.1.set.length<=ah]) ah9
theorem arl:Gd aha:=ark.add fun n hO p hp=>aO hO (.ss .rr (.ss .rr (.ss .rr (.ss .rr (.ss .rr (.ss .rr (.ss .rr (.o (hp _ gY) (.ss .rr (.b (rfl:((0:Int) != 0)=false) (.w (lSa (a:=p.1) (b:=p.2) hO) .rr)))))))))))
open Go Tw Pv bP
theorem EH{d:Dg}(ho:d.aB.length<=ah)(he:d.aK.length<=ah)(h:(iW d==0)=true):LY d:=by
 have h:iW d=0:=by simpa using h
 have h0:aX d=0:=by
  unfold iW at h;split at h
  .rename_i c;rw[h]at c;cases c
  rename_i c;simpa using c
 obtain⟨t,n⟩:=jL ho he (by rw[h0];rfl);exact⟨t,n,h0,t.cu,ho,he⟩
abbrev wLz(d:Dg)(e:Int)(l:LI0)(acc:List V)(i:Int)(x:List (Nat×PE aG)):aU aG:=⟨[(1,xi e),(2,xL 3 l),(3,.loc 0 0),(7,.val (.own 0)),(8,xi i)]++x,[d.ps],[.list false false 39 acc]⟩
theorem lLz{n:Nat}(hO:Ok n aha)(d:Dg)(e:Int){l:LI0}(hl:l.length<=1000):Lp n 74 0 (wLz d e l [] 0 []) (.exit 0) (wLz d e l (cL l) l.length [(12,xl false)]):=by
 have e1:aS (fun k (a:List V)=>a++[(⟨0,l.getD k 0⟩:V)]) l.length 0 []=cL l:=by rw[Ph,Ey l 0 fun r=>(⟨0,r⟩:V)];rfl
 rw[<-e1];refine wY (σ:=List V) (N:=l.length) (g:=fun k (a:List V)=>a++[(⟨0,l.getD k 0⟩:V)]) (s0:=([]:List V)) (st:=fun i a=>wLz d e l a i []) (fin:=fun a=>wLz d e l a l.length [(12,xl false)]) (fun k a=>a.length=k) (by kernel_rfl) (by unfold ah;omega) rfl (fun k a _ h=>by simp[h]) (fun k a hk ha m e p g9=>?_) (fun a _=>?_)
 .have hal:a.length+[(⟨0,l.getD k 0⟩:V)].length<=ah:=by have:a.length=k:=ha;rw[a4H];unfold ah;omega
  exact aN hO (.b (bD hk) (.o (aH hk) (.o hal (.goG [.gc [2]] g9))))
 exact aN hO (.b (fD l.length) .ex)
def amj(p:Dg×Int×LI0):Bool:=if(p.2.1==0)=true then(if(iW p.1==0)=true then decide (cellsD p.1=cL p.2.2)else false)else false
def abY:eY aG:=bZ 74 (a3 dA iA qg) tA (fun p=>amj p) (fun p=>[p.1.aB.length<=ah,p.1.aK.length<=ah,p.2.2.length<=1000,(cellsD p.1).length<=ah]) aha
theorem arn:Gd abY:=arl.add fun n hO p hp=>aO hO (.wG [.G6 7 39] (lLz hO p.1 p.2.1 (hp _ hh2)) (.ss (.o (hp _ gY) (.o (hp _ yc) (.sh (fun h=>.o (EH (hp _ gY) (hp _ yc) h) (.o (hp _ (.tail _ (.tail _ (.tail _ (.head _))))) .rr)) (fun _=>.rr)))) .rr))
open Go Tw Pv bP
theorem VY{d:Dg}(h:((d.aj.all fun n=>n.aA.all fun k=>decide (-1000<=k)&&decide (k<=1000))&&(decide (-1000<=d.root)&&decide (d.root<=1000))&&(d.aK.all fun v=>decide (0<=v.f))&&(decide (d.ay.length<=100)&&decide (d.aB.length<=100)&&decide (d.aK.length<=100)))=true):nM d:=by
 simp only[a2O,a1z,a4W]at h;obtain⟨⟨⟨h1,h2⟩,h3⟩,⟨h4,h5⟩,h6⟩:=h;refine⟨⟨fun i hi k hk=>?_,?_,h3⟩,by unfold ah;omega,by omega,by unfold ah;omega⟩
 .have h7:=h1 _ (dI (d:=(⟨0,[]⟩:Br)) hi) _ (dI (d:=(0:Int)) hk);show Gj ((fB d i).aA.getD k 0);unfold Gj;have h8:((d.aj.getD i ⟨0,[]⟩).aA.getD k 0)=(fB d i).aA.getD k 0:=rfl;rw[h8]at h7;omega
 unfold Gj;omega
theorem pX:nM dX:=VY (by kernel_rfl)
theorem pY:nM dY:=VY (by kernel_rfl)
theorem a94:nM Gs:=VY (by kernel_rfl)
theorem pLe:nM dLe:=VY (by kernel_rfl)
abbrev dvA(d:Dg):PV aG:=(dO (a2 dA iA)).put (d,0)
theorem ahb:(dRs,(0:Int))=Ll (dY,1,2):=adu rfl ah5.1.symm
theorem a95:(dWh,(0:Int))=zY dY:=adu rfl a8Z.1.symm
theorem ahc:(Gs,(0:Int))=xC (10,dX,dY):=adu rfl ah6.symm
theorem aml:(dLe,(0:Int))=xC (14,dX,dY):=adu rfl amg.symm
section
variable {n:Nat} (hO:Ok n abY)
include hO
theorem amm:iJ n (.fn 73 [] []) [] [] ((dO (a2 dA dA)).put (dX,dY)) []:=
 rP hX hO (f:=73) (first:=[]) (xs:=[]) (cap:=[]) (vs:=[]) (v:=(dO (a2 dA dA)).put (dX,dY)) (H:=[]) (ps:=[]) rfl (by kernel_rfl) (fun _ h=>by cases h) rfl
theorem abZ{j k:Bool}:iJ n (.fn 57 [] []) [.own 0,.own 1,.int .i64 0,.int .i64 1] [.list j k 3 ([2,3]:LI0),.list j k 3 ([0,1]:LI0)] (dvA dX) [.gone,.gone]:=by unfold dvA;rw[<-a4z];exact rP hX hO (f:=57) (first:=[]) (xs:=[.own 0,.own 1,.int .i64 0,.int .i64 1]) (cap:=[]) (vs:=[.dF 3 ([2,3]:LI0) false,.dF 3 ([0,1]:LI0) false,.int .i64 0,.int .i64 1]) (v:=(dO (a2 dA iA)).put (Qy ([2,3],[0,1],0,1))) (H:=[.list j k 3 ([2,3]:LI0),.list j k 3 ([0,1]:LI0)]) (ps:=[([2,3]:LI0).length<=ah,([0,1]:LI0).length<=2^20]) rfl (by kernel_rfl) (by simp[ah]) rfl
theorem aIf:iJ n (.fn 63 [] []) [.agg dY.ps,.agg dX.ps,.agg dY.ps] [] (dvA dIf) []:=by have e:(dIf,(0:Int))=YB (dY,dX,dY):=adu rfl amf.1.symm;unfold dvA;rw[e];exact rP hX hO (f:=63) (first:=[]) (cap:=[]) (vs:=[.agg dY.ps,.agg dX.ps,.agg dY.ps]) (v:=(dO (a2 dA iA)).put (YB (dY,dX,dY))) (H:=[]) (ps:=[nM dY,nM dX,nM dY]) rfl (by kernel_rfl) (by simp[pX,pY]) rfl
theorem aro:iJ n (.fn 20 [] []) [.agg dY.ps,.int .i64 1,.int .i64 2] [] (dvA dRs) []:=by rw[show(dvA dRs:PV aG)=((dO (a2 dA iA)).put (Ll (dY,1,2)))from by rw[<-ahb]];exact rP hX hO (f:=20) (first:=[]) (xs:=[.agg dY.ps,.int .i64 1,.int .i64 2]) (cap:=[]) (vs:=[.agg dY.ps,.int .i64 1,.int .i64 2]) (v:=((dO (a2 dA iA)).put (Ll (dY,1,2)))) (H:=[]) (ps:=[nM dY]) rfl (by kernel_rfl) (by simp[pX,pY,a94,pLe]) rfl
theorem ahd:iJ n (.fn 67 [] []) [.agg dY.ps] [] (dvA dWh) []:=by rw[show(dvA dWh:PV aG)=((dO (a2 dA iA)).put (zY dY))from by rw[<-a95]];exact rP hX hO (f:=67) (first:=[]) (xs:=[.agg dY.ps]) (cap:=[]) (vs:=[.agg dY.ps]) (v:=((dO (a2 dA iA)).put (zY dY))) (H:=[]) (ps:=[nM dY]) rfl (by kernel_rfl) (by simp[pX,pY,a94,pLe]) rfl
theorem amn:iJ n (.fn 27 [] []) [.agg dY.ps,.agg (⟨0,2⟩:V).ps] [] ((dO (a2 iA iA)).put (2,0)) []:=by rw[show((dO (a2 iA iA)).put (2,0):PV aG)=((dO (a2 iA iA)).put (DY (dY,⟨0,2⟩)))from by rw[abV]];exact Nb hX hO (f:=27) (first:=[]) (xs:=[.agg dY.ps,.agg (⟨0,2⟩:V).ps]) (cap:=[]) (vs:=[.agg dY.ps,.agg (⟨0,2⟩:V).ps]) (v:=((dO (a2 iA iA)).put (DY (dY,⟨0,2⟩)))) (H:=[]) (ps:=[nM dY]) rfl (by kernel_rfl) (by simp[pY]) rfl
theorem ahe:iJ n (.fn 28 [] []) [.agg dX.ps,.agg (⟨0,2⟩:V).ps] [] ((dO (a2 qg iA)).put ([1,0],0)) []:=by rw[show((dO (a2 qg iA)).put ([1,0],0):PV aG)=((dO (a2 qg iA)).put (IQ (dX,⟨0,2⟩)))from by rw[a90]];exact rP hX hO (f:=28) (first:=[]) (xs:=[.agg dX.ps,.agg (⟨0,2⟩:V).ps]) (cap:=[]) (vs:=[.agg dX.ps,.agg (⟨0,2⟩:V).ps]) (v:=((dO (a2 qg iA)).put (IQ (dX,⟨0,2⟩)))) (H:=[]) (ps:=[nM dX]) rfl (by kernel_rfl) (by simp[pX]) rfl
theorem arp:iJ n (.fn 62 [] []) [.int .u8 10,.agg dX.ps,.agg dY.ps] [] (dvA Gs) []:=by rw[show(dvA Gs:PV aG)=((dO (a2 dA iA)).put (xC (10,dX,dY)))from by rw[<-ahc]];exact rP hX hO (f:=62) (first:=[]) (xs:=[.int .u8 10,.agg dX.ps,.agg dY.ps]) (cap:=[]) (vs:=[.int .u8 10,.agg dX.ps,.agg dY.ps]) (v:=((dO (a2 dA iA)).put (xC (10,dX,dY)))) (H:=[]) (ps:=[nM dX,nM dY]) rfl (by kernel_rfl) (by simp[pX,pY,a94,pLe]) rfl
theorem aLe:iJ n (.fn 62 [] []) [.int .u8 14,.agg dX.ps,.agg dY.ps] [] (dvA dLe) []:=by rw[show(dvA dLe:PV aG)=((dO (a2 dA iA)).put (xC (14,dX,dY)))from by rw[<-aml]];exact rP hX hO (f:=62) (first:=[]) (xs:=[.int .u8 14,.agg dX.ps,.agg dY.ps]) (cap:=[]) (vs:=[.int .u8 14,.agg dX.ps,.agg dY.ps]) (v:=((dO (a2 dA iA)).put (xC (14,dX,dY)))) (H:=[]) (ps:=[nM dX,nM dY]) rfl (by kernel_rfl) (by simp[pX,pY,a94,pLe]) rfl
abbrev a96:An:=⟨4,false,false,0,0,1,true,[]⟩
abbrev aeg:An:=⟨8,false,false,2,0,0,false,[0]⟩
theorem arq:iJ n (.fn 33 [] []) [.int .u8 4,.agg Gs.ps,.agg dX.ps] [] ((dO (a2 YU iA)).put (a96,0)) []:=by rw[show((dO (a2 YU iA)).put (a96,0):PV aG)=((dO (a2 YU iA)).put (a2C (4,Gs,dX)))from by rw[ah8]];exact rP hX hO (f:=33) (first:=[]) (xs:=[.int .u8 4,.agg Gs.ps,.agg dX.ps]) (cap:=[]) (vs:=[.int .u8 4,.agg Gs.ps,.agg dX.ps]) (v:=((dO (a2 YU iA)).put (a2C (4,Gs,dX)))) (H:=[]) (ps:=[nM Gs,nM dX]) rfl (by kernel_rfl) (by simp[a94,pX]) rfl
end
open Go Tw Pv bP
theorem amo{n:Nat}(hn:24<=n)(BU:Ok n abM)(Gw:∀m,n-24<=m->Ok m su){k:Bool}:iJ (n+1) (.fn 39 [] []) [.own 0,.agg dLe.ps] [.list k true 26 [dX,dY]] ((dO (a2 YU iA)).put (aeg,0)) [.list k true 26 [dX,dY]]:=by
 rw[<-abW];exact aeb (l:=[dX,dY]) (d:=dLe) hn BU Gw (fun x h=>by
  rcases a1Y.1 h with rfl|h
  .exact pX
  rcases a1Y.1 h with rfl|h
  .exact pY
  rw[a1S.1 h];exact pLe) (by show 2<=1000;omega)
theorem amq{n:Nat}(hO:Ok n abY):iJ n (.fn 48 [] []) [.int .i64 2] [] (.agg (⟨0,2⟩:V).ps) []:=
 Nb hX hO (f:=48) (first:=[]) (xs:=[.int .i64 2]) (cap:=[]) (vs:=[.int .i64 2]) (v:=.agg (⟨0,2⟩:V).ps) (H:=[]) (ps:=[]) rfl (by kernel_rfl) (fun _ h=>by cases h) rfl
theorem U8{a b:Nat}(h:Nat.ble a b=true):a<=b:=aht h
theorem ars:Cm dX:=⟨U8 (by kernel_rfl),U8 (by kernel_rfl),U8 (by kernel_rfl),U8 (by kernel_rfl),fun b h=>by rw[a1S.1 h];exact U8 (by kernel_rfl)⟩
def amr:eY aG:=bZ 19 afo tA (fun _=>true) np abY
theorem aru:Gd amr:=Good.acO 25 arn agR IG fun n hn hO Gw hO3 p hp=>by obtain⟨m,rfl⟩:∃m,n=m+1:=⟨n-1,by omega⟩;have yF:=hO (m+1) (by omega);exact aO yF (.fr [] (amm yF) (.fr [0,1] (abZ yF (j:=true) (k:=true)) (.fr [] (aIf yF) (.fr [] (aro yF) (.fr [] (ahd yF) (.fr [] (amq yF) (.fr [] (amn yF) (.fr [] (amq yF) (.fr [] (ahe yF) (.fr [] (arp yF) (.fr [] (arq yF) (.fr [] (aLe yF) (.fr [2] (amo (k:=true) (by omega) (Gw m (by omega)) (fun k hk=>hO3 k (by omega))) (.o ars (.b (c:=true) (t:=true) rfl (.o (U8 (by kernel_rfl):dIf.aB.length<=ah) (.o (U8 (by kernel_rfl):dIf.aK.length<=ah) (.o (U8 (by kernel_rfl):([0,0,0,0,0,0]:LI0).length<=1000) (.o (U8 (by kernel_rfl):(cellsD dIf).length<=ah) (.b (c:=true) (t:=true) rfl (.o (U8 (by kernel_rfl):dRs.aB.length<=ah) (.o (U8 (by kernel_rfl):dRs.aK.length<=ah) (.o (U8 (by kernel_rfl):([0,0,0,0,0,0]:LI0).length<=1000) (.o (U8 (by kernel_rfl):(cellsD dRs).length<=ah) (.b (c:=true) (t:=true) rfl (.o (U8 (by kernel_rfl):dWh.aB.length<=ah) (.o (U8 (by kernel_rfl):dWh.aK.length<=ah) (.o (U8 (by kernel_rfl):([0,0,0,0,0,0]:LI0).length<=1000) (.o (U8 (by kernel_rfl):(cellsD dWh).length<=ah) (.b (c:=true) (t:=true) rfl (.b (c:=true) (t:=true) rfl (.b (c:=true) (t:=true) rfl (.b (c:=true) (t:=true) rfl (.o (U8 (by kernel_rfl):([1,0]:LI0).length<=ah) (.b (c:=true) (t:=true) rfl (.b (c:=true) (t:=true) rfl (.b (c:=true) (t:=true) rfl (.o (U8 (by kernel_rfl):a96.set.length<=ah) (.b (c:=true) (t:=true) rfl (.b (c:=true) (t:=true) rfl (.b (c:=true) (t:=true) rfl (.o (U8 (by kernel_rfl):aeg.set.length<=ah) .rr))))))))))))))))))))))))))))))))))))))))))
open Go Tw Pv bP
theorem kT(d:Dg):(cellsD d).length=Ce d.ay:=by simp[cellsD]
theorem ahf{d:Dg}(h:iW d=0)(ho:d.aB.length<=ah)(he:d.aK.length<=ah):Cm d:=by
 have l:=EH ho he (by rw[h];rfl);have h6:=l.f.len;have n6:=l.n;refine⟨by unfold ah;omega,ho,he,by unfold ah;omega,fun b hb=>?_⟩;obtain⟨i,hi,rfl⟩:=a8B hb;have:=l.t.JJ i hi;have e:fB d i=d.aj[i]:=by show d.aj.getD i kR=_;rw[a3s,a0q hi,a5e]
 rw[e]at this;unfold ah;omega
structure DgF(d:Dg):Prop where
 r:Ba d
 k:iW d=0
 f:Cm d
 e:d.aK.length<=2000
 o:d.aB.length=d.ay.length
 s:vk d.ay
theorem DgF.p{d:Dg}(h:DgF d):nM d:=⟨h.r,h.f.s,by have:=h.o;have:=h.s.len;omega,by have:=h.e;unfold ah;omega⟩
theorem ahg{s o:LI0}{l:List V}(h:OfP s o l)(hv:∀v∈l,J4 v):DgF (oz s o l):=by obtain⟨h1,h2,_⟩:=Gm h fun v m=>(hv v m).1;obtain⟨r,k⟩:=abe h (fun v m=>(hv v m).1) fun v m=>(hv v m).2;have ho:=h.p.2.2;have h6:=h.cu.len;exact⟨r,k,ahf k (by show o.length<=ah;unfold ah;omega) (by unfold ah;omega),h2,ho,h.cu⟩
theorem ac0{d:Dg}(h:nM d):bF [d]=iW d:=by
 have e:(uy d).2=iW d:=by rw[Iw h.r h.s (by have:=h.o;unfold ah;omega) h.e]
 have f:([d].all (xq (([d].getD 0 jk).ay,([d].getD 0 jk).aB)))=true:=by simp[xq]
 unfold bF;rw[f];split
 .rename_i c;have:=dL.1 c 0 (by simp);have h0:iW d=0:=by unfold cCk at this;rw[<-e];simpa using this
  rw[h0];rfl
 rename_i c;obtain⟨j,hj,_,_,e2⟩:=AQ (by simpa using c);have e2:bG (cCk [d]) [d].length=.inr j:=e2;rw[e2];have:j=0:=by have:j<1:=hj;omega
 subst this;exact e
theorem a97{d:Dg}(h:DZ d=true)(r:Ba d):nM d:=by obtain⟨f,h1,h2,h3,_⟩:=E5 h;exact⟨r,f.s,by omega,by unfold ah;omega⟩
open Go Tw Pv bP
theorem YH{t:List (V×Int)}(hn:(t.map (·.1)).Nodup)(v:V):look t v=dK (ind v) t:=by
 unfold look;by_cases h:v∈t.map (·.1)
 .obtain⟨e,he,hv⟩:=a0V.1 h;obtain⟨e2,h2⟩:=a5r.1 (List.find?_isSome (p:=fun e:V×Int=>decide (e.1=v)) |>.2 ⟨e,he,show decide (e.1=v)=true by simpa using hv⟩);have h3:e2.1=v:=by simpa using List.find?_some h2
  have:=yD hn (aeV h2);rw[h3]at this;rw[h2,this];rfl
 rw[Ih h,aef.2 fun e he=>by simp only[a1z];intro hv;exact h (a0V.2 ⟨e,he,hv⟩)]
 rfl
theorem Qz(J:Jb)(v:V):look (bW J) v=((iM J).count v:Int):=by rw[YH (qH J),DX,Px]
theorem a4A{d:Dg}{g:LI0}:iM (jg d g)=(IE (jg d g)).map (xP d):=by
 unfold iM Qq;rw[adO.2 (fun l hl=>by obtain⟨q,_,rfl⟩:=a0V.1 hl;rfl),a6B]
 rfl
theorem ahh{d:Dg}(hJ:kC (dP [d])):IE (dP [d])=(List.range (Ce d.ay)).map fun(k:Nat)=>lQ d.ay k:=by unfold IE;refine adO.2 fun q hq=>?_;have hp:=(Nu hJ).1 hq;rw[a1z,VH hJ (uN hp)];intro k hk h0;exfalso;revert h0;show ¬0<=(List.replicate d.ay.length (-1:Int)).getD k 0;rw[a3s,adT,a0F (show k<d.ay.length from hk)];decide
theorem a4B{d:Dg}(hJ:kC (dP [d])):iM (dP [d])=cellsD d:=by have h:iM (dP [d])=(IE (dP [d])).map (xP d):=a4A;rw[h,ahh hJ,a6B];rfl
open Go Tw Pv bP
theorem a0v{v:V}:wX v=vOk v:=by
 unfold wX vOk nJ;by_cases c:(v.f==0)=true
 .rw[a0F c,a0F c];rw[a5b];simp[vZ,tX]
 rw[a0E c,a0E c]
section
variable {d:Dg} (hJ:kC (dP [d])) {v:V}
include hJ
variable {h:LI0} (h1:kF d.ay h=true) (h2:xP d h=v) (h3:∀ q,kF d.ay q=true->xP d q=v->ji d.ay h<=ji d.ay q)
end
open Go Tw Pv bP
def a2D(p:Dg×Dg):Bool:=if decide (p.1.ay=p.2.ay)=true then decide (p.1.aB=p.2.aB)else false
def ac1:eY aG:=bZ 70 (a2 dA dA) tA (fun p=>a2D p) (fun p=>[p.1.ay.length<=ah,p.1.aB.length<=ah]) amr
theorem arv:Gd ac1:=aru.add fun n hO p hp=>aO hO (.o (hp _ gY) (.ss (.o (hp _ yc) .rr) .rr))
theorem a98(a b:Dg):a2D (a,b)=xq (a.ay,a.aB) b:=by
 unfold a2D xq;rw[a5b];by_cases h:a.ay=b.ay
 .by_cases h2:a.aB=b.aB
  .simp[h,h2]
  simp only[h,decide_true,a2u,a1z];exact⟨fun e=>absurd e h2,fun e=>absurd e.symm h2⟩
 have h3:¬b.ay=a.ay:=fun e=>h e.symm;simp[h,h3]
abbrev wCa(l:List Dg)(i:Int)(x:List (Nat×PE aG)):aU aG:=⟨[(0,xL 26 l),(3,xi i)]++x,[],[]⟩
abbrev wCb(l:List Dg)(i:Int)(x:List (Nat×PE aG)):aU aG:=⟨[(0,xL 26 l),(5,xi i)]++x,[],[]⟩
def YI(l:List Dg)(k:Nat):Bool:=iW (l.getD k jk) != 0
def cA2(l:List Dg)(k:Nat):Bool:=!(a2D (l.getD 0 jk,l.getD k jk))
def zA1(l:List Dg):Unit⊕Nat->Ex×aU aG
 |.inl _=>(.exit 0,wCa l l.length [(9,xl false)])
 |.inr k=>(.ret,⟨[(2,xi (iW (l.getD k jk)))],[],[]⟩)
def zA2(l:List Dg):Unit⊕Nat->Ex×aU aG
 |.inl _=>(.exit 2,wCb l l.length [(23,xl false)])
 |.inr _=>(.ret,⟨[(2,xi 2)],[],[]⟩)
theorem lA1{n:Nat}(hO:Ok n ac1){l:List Dg}(hf:∀d∈l,Cm d)(hl:l.length<=ah):Lp n 34 0 (wCa l 0 []) (zA1 l (bG (YI l) l.length)).1 (zA1 l (bG (YI l) l.length)).2:=by
 refine jd (st:=fun i _=>wCa l i []) (g:=gS (YI l)) (out:=zA1 l) (fun _ _=>True) (by kernel_rfl) hl trivial (fun k u m hk _ ih=>?_) (fun _ _=>?_)
 .have h:=hf _ (dI (d:=jk) hk);unfold gS YI;exact aN hO (.b (bD hk) (.o (aH hk) (.o h.o (.o h.e (.ls (.ou nofun) (.nx (ih _ trivial)))))))
 exact aN hO (.b (fD l.length) (.ou nofun))
theorem lA2{n:Nat}(hO:Ok n ac1){l:List Dg}(hf:∀d∈l,Cm d)(h0:0<l.length)(hl:l.length<=ah):Lp n 34 1 (wCb l 1 []) (zA2 l (jq (gS (cA2 l)) (l.length-1) 1 ())).1 (zA2 l (jq (gS (cA2 l)) (l.length-1) 1 ())).2:=by
 refine a1X (a:=1) (st:=fun i _=>wCb l i []) (g:=gS (cA2 l)) (out:=zA2 l) (fun _ _=>True) (by kernel_rfl) h0 hl trivial (fun k u m hk0 hk _ ih=>?_) (fun _ _=>?_)
 .have h:=hf _ (dI (d:=jk) h0);unfold gS cA2;exact aN hO (.b (bD hk) (.o (aH h0) (.o (aH hk) (.o h.s (.o h.o (.ls (.ou nofun) (.nx (ih _ trivial))))))))
 exact aN hO (.b (fD l.length) (.ou nofun))
def Kz(l:List Dg):Int:=match bG (YI l) l.length with
 |.inr k=>iW (l.getD k jk)
 |.inl _=>match jq (gS (cA2 l)) (l.length-1) 1 ()with
  |.inr _=>2
  |.inl _=>0
def ams:eY aG:=bZ 34 (a1 aaF) iA Kz (fun l=>[∀d∈l,Cm d,0<l.length∧l.length<=ah]) ac1
theorem arB:Gd ams:=arv.add fun n hO l hp=>by
 have hf:∀d∈l,Cm d:=hp _ gY;obtain⟨h0,hl⟩:0<l.length∧l.length<=ah:=hp _ yc;have lp:=lA1 hO hf hl;have lp2:=lA2 hO hf h0 hl;show nS X0 Qp _ _ _ (iA.put (match bG (YI l) l.length with
  |.inr k=>iW (l.getD k jk)
  |.inl _=>match jq (gS (cA2 l)) (l.length-1) 1 ()with
   |.inr _=>2
   |.inl _=>0)) _
 revert lp lp2;rcases bG (YI l) l.length with _|k
 .rcases jq (gS (cA2 l)) (l.length-1) 1 ()with _|j
  .intro lp lp2;exact aO hO (.w lp (.w lp2 .rr))
  .intro lp lp2;exact aO hO (.w lp (.w lp2 .rr))
 .intro lp lp2;exact aO hO (.w lp .rr)
theorem a2E{l:List Dg}(hp:∀d∈l,nM d)(h0:0<l.length):Kz l=bF l:=by
 have hd:l.getD 0 jk∈l:=dI h0;have ec:∀k,k<l.length->(uy (l.getD k jk)).2=iW (l.getD k jk):=fun k hk=>by have h:=hp _ (dI (d:=jk) hk);rw[Iw h.r h.s (by have:=h.o;unfold ah;omega) h.e]
 have eb:∀k,k<l.length->cCk l k=YI l k:=fun k hk=>by unfold cCk YI;rw[ec k hk]
 unfold Kz bF;cases e1:jZ (bG (cCk l) l.length)
 .obtain⟨j,hj,h1,h2,h3⟩:=AQ e1;have e2:jZ (bG (YI l) l.length)=false:=by
   cases e:jZ (bG (YI l) l.length)
   .rfl
   have:=dL.1 e j hj;rw[<-eb j hj,h1]at this;cases this
  obtain⟨i,hi,g1,g2,g3⟩:=AQ e2;have:i=j:=by
   by_cases c:i<j
   .have:=h2 i c;rw[eb i hi,g1]at this;cases this
   by_cases c2:j<i
   .have:=g2 j c2;rw[<-eb j hj,h1]at this;cases this
   omega
  subst this;rw[g3,h3,a0E (by simp)];exact(ec i hi).symm
 have h1:=dL.1 e1;have e2:jZ (bG (YI l) l.length)=true:=dL.2 fun j hj=>by rw[<-eb j hj];exact h1 j hj
 rw[a0F rfl];rcases e3:bG (YI l) l.length with u|k
 rotate_left
 .rw[e3]at e2;cases e2
 show(match jq (gS (cA2 l)) (l.length-1) 1 ()with
  |.inr _=>(2:Int)
  |.inl _=>0)=_
 have hs:xq ((l.getD 0 jk).ay,(l.getD 0 jk).aB) (l.getD 0 jk)=true:=by simp[xq]
 rcases e4:jq (gS (cA2 l)) (l.length-1) 1 ()with u|j
 .have h2:=(Ig (r:=fun k=>k) (c:=cA2 l) (m:=l.length-1) (k:=1)).1 (by unfold gS at e4;rw[e4];rfl);rw[a0E];rw[aeo,acg,a4W];intro d ZW;obtain⟨k,hk,rfl⟩:=a8B ZW;have ek:l[k]=l.getD k jk:=by rw[a3s,a0q hk,a5e]
  rw[ek];by_cases c:k=0
  .subst c;exact hs
  have:=h2 k (by omega) (by omega);unfold cA2 at this;rw[a98]at this;simpa using this
 have h2:=XB (r:=fun k=>k) (c:=cA2 l) (m:=l.length-1) (k:=1) (by unfold gS at e4;rw[e4];rfl);obtain⟨i,hi1,KI,h3,_⟩:=h2;rw[a0F];rw[a8W,List.all_eq_false];unfold cA2 at h3;rw[a98]at h3;exact⟨l.getD i jk,dI (by omega),by simpa using h3⟩
open Go Tw Pv bP
def QA(p:Dg×Dg):Bool:=if DZ p.1=true then(if DZ p.2=true then(Kz [p.1,p.2]==0)else false)else false
theorem ac2(a b:Dg):0<[a,b].length∧[a,b].length<=ah:=⟨by simp,by show 2<=ah;unfold ah;omega⟩
def a99:eY aG:=bZ 42 (a2 dA dA) tA (fun p=>QA p) np ams
theorem amu:Gd a99:=arB.add fun n hO p hp=>aO hO (.sh (fun h1=>.sh (fun h2=>.o (LX (E5 h1).1 (E5 h2).1) (.o (ac2 p.1 p.2) .rr)) fun _=>.rr) fun _=>.rr)
open Go Tw Pv bP
theorem ac3{s q:LI0}(hq:kF s q=true):ov (List.replicate s.length (-1)) q=q:=by
 have hl:=uN hq;refine(qx (d:=(0:Int)) (by simp[ov,ahE,hl])).2 fun k hk=>?_;have kQ:k<s.length:=by simp[ov,ahE,hl]at hk;exact hk
 rw[Qm (by rw[a6E,hl]),a0F (by rw[a6E];exact kQ),a0E];rw[a3s,adT,a0F kQ];decide
open Go Tw Pv bP
theorem U9{l:List Dg}(h:Kz l=0):∀d∈l,iW d=0:=by
 have e:jZ (bG (YI l) l.length)=true:=by
  cases e:jZ (bG (YI l) l.length)
  .obtain⟨j,hj,h1,_,h3⟩:=AQ e;unfold Kz at h;rw[h3]at h;have h:iW (l.getD j jk)=0:=h;unfold YI at h1;rw[h]at h1;cases h1
  rfl
 intro d hd;obtain⟨k,hk,rfl⟩:=a8B hd;have:=dL.1 e k hk;unfold YI at this;rw[a3s,a0q hk,a5e]at this;simpa using this
theorem UC{a b:Dg}(h:QA (a,b)=true)(ra:Ba a)(rb:Ba b):(Cm a∧Cm b)∧(nM a∧nM b)∧bF [a,b]=0∧(LY a∧LY b)∧a.ay=b.ay∧a.aB=b.aB∧iW a=0∧iW b=0:=by
 unfold QA at h;split at h
 .rename_i h1;split at h
  .rename_i h2;have h1:DZ a=true:=h1;have h2:DZ b=true:=h2;have fa:=(E5 h1).1;have fb:=(E5 h2).1;have pa:=a97 h1 ra;have pb:=a97 h2 rb;have hk:bF [a,b]=0:=by rw[<-a2E (LX pa pb) (by simp)];simpa using h
   have hg:=Qw (LX (P:=nM) pa pb) hk;obtain⟨ga,_,_⟩:=hg a (by simp);obtain⟨gb,e1,e2⟩:=hg b (by simp);have hd:=U9 (l:=[a,b]) (by simpa using h);exact⟨⟨fa,fb⟩,⟨pa,pb⟩,hk,⟨EH fa.o fa.e (by rw[hd a (by simp)];rfl),EH fb.o fb.e (by rw[hd b (by simp)];rfl)⟩,e1.symm,e2.symm,hd a (by simp),hd b (by simp)⟩
  cases h
 cases h
open Go Tw Pv bP
theorem ahi{d:Dg}(hp:nM d)(h0:iW d=0){v:V}(hv:J4 v):DY (d,v)=(((cellsD d).count v:Int),0):=by
 have hk:bF [d]=0:=by rw[ac0 hp];exact h0
 have hJ:kC (dP [d]):=yV (D:=[d]) (by simp) (by simp) (a4x hp) hk;show(if(bF [d] != 0)=true then((0:Int),bF [d])else if(jE v != 0)=true then(0,4)else(look (bW (dP [d])) v,0))=_;have ev:jE v=0:=by unfold jE;rw[a0v,hv.1];rfl
 rw[hk,ev,a0E (by simp),a0E (by simp),Qz,a4B hJ]
open Go Tw Pv bP
def gCx(x y:List V)(k:Nat)(acc:List V):List V:=if decide (y.getD k V0=iC)=true then acc++[x.getD k V0]else acc
def ql(x y:List V):List V:=aS (gCx x y) x.length 0 []
open Go Tw Pv bP
theorem VZ(x y:List V):ql x y=((List.range x.length).filter fun k=>decide (y.getD k V0=iC)).map fun k=>x.getD k V0:=by
 have:=cO (g:=gCx x y) (m:=x.length) (k:=0) (s:=[]) (fun k a=>a=((List.range k).filter fun k=>decide (y.getD k V0=iC)).map fun k=>x.getD k V0) rfl (fun j a _ _ e=>by
  rw[aci,List.filter_append,a4J,<-e];unfold gCx;by_cases c:decide (y.getD j V0=iC)=true
  .rw[a0F c,(adO (l:=[j])).2 fun k hk=>by rw[a1S.1 hk];exact c];rfl
  rw[a0E c,(List.filter_eq_nil_iff (l:=[j])).2 fun k hk=>by rw[a1S.1 hk];exact c];simp)
 rw[a3W]at this;exact this
open Go Tw Pv bP
theorem a4D{a b:Dg}(hJ:kC (dP [a,b]))(es:a.ay=b.ay):iM (dP [a,b])=ql (cellsD a) (cellsD b):=by
 have hp:IE (dP [a,b])=(List.range (Ce a.ay)).map fun(k:Nat)=>lQ a.ay k:=by unfold IE;refine adO.2 fun q hq=>?_;have hp:=(Nu hJ).1 hq;rw[a1z];exact ac3 (s:=a.ay) hp
 have gx:∀k,k<Ce a.ay->(cellsD a).getD k V0=xP a (lQ a.ay (k:Int)):=fun k hk=>by unfold cellsD;rw[a3s,a4T,adI hk];rfl
 have gy:∀k,k<Ce a.ay->(cellsD b).getD k V0=xP b (lQ a.ay (k:Int)):=fun k hk=>by unfold cellsD;rw[a3s,a4T,adI (by rw[<-es];exact hk),<-es];rfl
 rw[VZ,kT];unfold iM Qq;rw[hp,a6B,List.filter_map,a6B];have e:(List.range (Ce a.ay)).filter ((fun l:List V=>nG (l.drop 1))∘((fun q=>(dP [a,b]).D.map fun d=>xP d q)∘fun(k:Nat)=>lQ a.ay (k:Int)))=(List.range (Ce a.ay)).filter fun k=>decide ((cellsD b).getD k V0=iC):=by refine List.filter_congr fun k hk=>?_;rw[gy k (a4P.1 hk)];show nG [xP b (lQ a.ay (k:Int))]=_;simp[nG]
 rw[e];refine a5L fun k hk=>?_;rw[gx k (a4P.1 (a7t.1 hk).1)];rfl
section
variable {J:Jb} (hJ:kC J) (hc:∀ v∈iM J,J4 v)
theorem IU{J:Jb}(v:V):(∃e∈bW J,e.1=v)↔v∈iM J:=by
 have hn:=qH J;have hs:=YH hn v;rw[Qz]at hs;constructor
 .rintro⟨e,he,rfl⟩;have h1:=yD hn he;have h2:=(AV (iM J)).2 e ((mV VQ (yS (iM J))).mem_iff.1 he);exact afV.1 (by omega)
 intro hv;have h1:=afV.2 hv;by_cases h:v∈(bW J).map (·.1)
 .obtain⟨e,he,h2⟩:=a0V.1 h;exact⟨e,he,h2⟩
 rw[Ih h]at hs;omega
end
open Go Tw Pv bP
abbrev wCy(l acc:List Dg)(i:Int)(e:List (Nat×PE aG)):aU aG:=⟨[(0,xL 26 l),(3,.val (.own 0)),(4,xi i)]++e,[],[.list false false 26 acc]⟩
theorem lCy{n:Nat}(hO:Ok n a99){l:List Dg}(hf:∀d∈l,Cm d)(hl:l.length<=1000):Lp n 40 0 (wCy l [] 0 []) (.exit 0) (wCy l l l.length [(8,xl false)]):=by
 have e1:aS (fun k (a:List Dg)=>a++[l.getD k jk]) l.length 0 []=l:=by rw[Ph,Ey l jk fun r=>r,List.map_id']
 have:=wY (n:=n) (f:=40) (k:=0) (B:=0) (σ:=List Dg) (N:=l.length) (g:=fun k (a:List Dg)=>a++[l.getD k jk]) (s0:=([]:List Dg)) (st:=fun i a=>wCy l a i []) (e:=.exit 0) (fin:=fun a=>wCy l a l.length [(8,xl false)]) (w:=wCy l [] 0 []) (fun k a=>a.length=k) (by kernel_rfl) (by unfold ah;omega) rfl (fun k a _ h=>by simp[h]) (fun k a hk ha m e p g9=>by
  have hal:a.length+[l.getD k jk].length<=ah:=by have:a.length=k:=ha;rw[a4H];unfold ah;omega
  exact aN hO (.b (bD hk) (.o (aH hk) (.o (hf _ (dI (d:=jk) hk)) (.o hal (.goG [.gc [2]] g9)))))
  ) (fun a _=>aN hO (.b (fD l.length) .ex))
 rw[e1]at this;exact this
def ahj:eY aG:=bZ 40 (a1 aaF) aaF (fun p=>p) (fun p=>[∀d∈p,Cm d,p.length<=1000]) a99
theorem arD:Gd ahj:=amu.add fun n hO p hp=>aO hO (.wG [.G6 3 26] (lCy hO (hp _ gY) (hp _ yc)) .rr)
open Go Tw Pv bP
theorem a0w{d:Dg}(h:LY d):(cellsD d).length<=ah:=by have:=h.f.a3A;have:=h.f.many;rw[kT];unfold ah;omega
open Go Tw Pv bP
theorem amw{d:Dg}{p:LI0}{F:Nat}{r:Int}:Wn d p (F+1) r=if r<0 then r else Wn d p F ((au d r).aA.getD (p.getD (au d r).var.toNat 0).toNat 0):=rfl
open Go Tw Pv bP
theorem ahk{d:Dg}{F:Nat}{r:Int}{x:Cs}(h:r<0):bU d (F+1) r x=(i64.wrap (-1-(x.e.idxOf (oq d r):Nat)),⟨fU x.e (oq d r),x.n,x.k⟩):=by rw[bU,a0F (by simpa using h)]
theorem YJ(s o:LI0)(v:V):eH (cDg s o v)=cDg s o v:=by
 have e2:oq (cDg s o v) (-1)=v:=by
  show [v].getD (je (-1)).toNat V0=v;have:je (-1)=0:=by decide
  rw[this];rfl
 have e:bU (cDg s o v) 6002 (-1) YT=(-1,⟨[v],[],[]⟩):=by rw[ahk (F:=6001) (by decide),e2];rfl
 unfold eH;rw[show(cDg s o v).root=-1 from rfl,e]
theorem a9a{s o:LI0}(hf:bK s o=0){v:V}(hv:J4 v):cDg s o v=oz s o (List.replicate (Ce s) v):=by
 obtain⟨cu,ord⟩:=jw.1 hf;have hl:=cu.len;have QL:o.length=s.length:=by unfold jW at ord;rw[a1z]at ord;exact ord.1
 have h1:aX (cDg s o v)=0:=JO (by show 1<=ah;unfold ah;omega) (by show(bK s o != 0)=false;rw[hf];rfl) (fun x hx=>by rw[a1S.1 hx];exact hv.1) (by show 0<=6000;omega) ⟨fun i hi=>absurd hi (aeX _),fun i hi=>absurd hi (aeX _),fun i hi=>absurd hi (aeX _)⟩ ⟨fun _=>by
  have:je (-1)=0:=by decide
  show gu (je (-1)) 1;rw[this];exact⟨by omega,by omega⟩,by show(-1:Int)<0;omega,a5i _⟩
 have e:=(Qj h1 (by show o.length<=ah;unfold ah;omega) (by show 1<=ah;unfold ah;omega)).1;rw[YJ]at e;have ec:cellsD (cDg s o v)=List.replicate (Ce s) v:=by
  refine(List.eq_replicate_iff).2 ⟨kT _,fun x hx=>?_⟩;obtain⟨k,_,rfl⟩:=a0V.1 hx;have a1:Wn (cDg s o v) (lQ s (k:Int)) 6001 (-1)=-1:=by rw[amw (F:=6000),a0F (by omega)]
  show [v].getD (je (Wn (cDg s o v) (lQ s (k:Int)) 6001 (-1))).toNat V0=v;rw[a1];have:je (-1)=0:=by decide
  rw[this];rfl
 rw[ec]at e;exact e
open Go Tw Pv bP
def gLe(l:List V)(i:Nat)(m:Int):Int:=if((l.count (l.getD i V0):Nat):Int)>m then((l.count (l.getD i V0):Nat):Int)else m
def qo(l:List V):Int:=aS (gLe l) l.length 0 0
structure LlP(l:List Dg)(d:Dg):Prop where
 i:LY d
 e:∀x∈l,LY x∧(cellsD x).length<=5000∧(cellsD d).length=(cellsD x).length
 n:l.length<=ah
 s:(cellsD d).length<=5000
def a0x(l:List Dg)(d:Dg)(i:Nat):Int:=qo (ql (cellsD (l.getD i jk)) (cellsD d))
def gRl(l:List Dg)(d:Dg)(i:Nat)(s:Int×Int):Int×Int:=if((i:Int)==0)=true then((i:Int),a0x l d i)else if decide (a0x l d i<s.2)=true then((i:Int),a0x l d i)else s
def sD(p:List Dg×Dg):An:=if(((ql (cellsD p.2) (cellsD p.2)).length:Int)==0)=true then⟨8,true,false,0,0,0,false,[]⟩else⟨8,false,false,(aS (gRl p.1 p.2) p.1.length 0 (0,0)).2,0,0,false,[(aS (gRl p.1 p.2) p.1.length 0 (0,0)).1]⟩
open Go Tw Pv bP
theorem a9c{J:Jb}{e:V×Int}(he:e∈bW J):e.2=(((iM J).count e.1:Nat):Int):=by have h1:=yD (qH J) he;rw[DX,Px]at h1;exact h1.symm
theorem count_nil{J:Jb}:bW J=[]↔iM J=[]:=by
 constructor
 .intro h;refine a5D.2 fun v hv=>?_;obtain⟨e,he,_⟩:=(IU v).2 hv;rw[h]at he;cases he
 intro h;refine a5D.2 fun e he=>?_;have:=(IU e.1).1 ⟨e,he,rfl⟩;rw[h]at this;cases this
theorem a0y(l:List V):0<=qo l∧(∀v∈l,((l.count v:Nat):Int)<=qo l)∧(qo l=0∨∃v∈l,qo l=((l.count v:Nat):Int)):=by
 have:=cO (g:=gLe l) (m:=l.length) (k:=0) (s:=(0:Int)) (fun k m=>0<=m∧(∀j,j<k->((l.count (l.getD j V0):Nat):Int)<=m)∧(m=0∨∃v∈l,m=((l.count v:Nat):Int))) ⟨by omega,fun j hj=>absurd hj (aeX _),.inl rfl⟩ (fun k m _ hk h=>by
  obtain⟨h1,h2,h3⟩:=h;unfold gLe;split
  .rename_i c;refine⟨by omega,fun j hj=>?_,.inr ⟨_,dI (by omega),rfl⟩⟩;by_cases e:j=k
   .subst e;omega
   have:=h2 j (by omega);omega
  rename_i c;refine⟨h1,fun j hj=>?_,h3⟩;by_cases e:j=k
  .subst e;omega
  exact h2 j (by omega))
 rw[a3W]at this;obtain⟨h1,h2,h3⟩:=this;refine⟨h1,fun v hv=>?_,h3⟩;obtain⟨j,hj,rfl⟩:=a8B hv;have:=h2 j hj
 rwa [a3s,a0q hj,a5e]at this
theorem ac4{J:Jb}(h:bW J≠[]):Kv (lY (bW J))=qo (iM J):=by
 have hp:(lY (bW J)).Perm ((bW J).map fun e:V×Int=>e.2):=mV _ _;have hv:lY (bW J)≠[]:=fun e=>by rw[e]at hp;have:=hp.length_eq;rw[a4S]at this;exact h (a5n.1 (by simpa using this.symm))
 obtain⟨m1,m2⟩:=Qv hv;obtain⟨e,he,h1⟩:=a0V.1 (hp.mem_iff.1 m1);have h2:=a9c he;have h3:=(IU e.1).1 ⟨e,he,rfl⟩;obtain⟨l1,l2,l3⟩:=a0y (iM J);have h4:=l2 e.1 h3;have h1:e.2=Kv (lY (bW J)):=h1;rcases l3 with l3|⟨v,YR,l3⟩
 .have:=afV.2 h3;omega
 obtain⟨e2,he2,hv2⟩:=(IU v).2 YR;have h5:=m2 e2.2 (hp.mem_iff.2 (a0V.2 ⟨e2,he2,rfl⟩));have h6:=a9c he2;rw[hv2]at h6;omega
theorem a2F{x y:List V}:ql x y=[]↔∀k,k<x.length->y.getD k V0≠iC:=by rw[VZ,List.map_eq_nil_iff,List.filter_eq_nil_iff];simp only[a4P,a1z]
section
variable {l:List Dg} {d:Dg} (h:LkP l d)
include h
theorem LkP.sz{k:Nat}(hk:k<l.length):(l.getD k jk).ay=d.ay:=(h.g _ (a5h _ (dI hk))).2.1.trans (h.g d (aat _ (a1S.2 rfl))).2.1.symm
theorem a9d{k:Nat}(hk:k<l.length):iM (dP [l.getD k jk,d])=ql (cellsD (l.getD k jk)) (cellsD d):=a4D (h.j hk) (h.sz hk)
theorem a9e{k:Nat}(hk:k<l.length):(cellsD (l.getD k jk)).length=(cellsD d).length:=by rw[kT,kT,h.sz hk]
theorem a0z{k:Nat}(hk:k<l.length):YE l d k=[]↔ql (cellsD d) (cellsD d)=[]:=by unfold YE;rw[count_nil,a9d h hk,a2F,a2F,a9e h hk]
theorem a9f{k:Nat}(hk:k<l.length)(hn:YE l d k≠[]):mLk l d k=a0x l d k:=by unfold mLk a0x;rw[show lY (YE l d k)=lY (bW (dP [l.getD k jk,d]))from rfl,ac4 hn,a9d h hk]
theorem a2G(hn:ql (cellsD d) (cellsD d)≠[]):∀(m k:Nat) (b z:Int),1<=k->k+m=l.length->jq (YF l d) m k (some (b,z))=.inl (some (aS (gRl l d) m k (b,z)))
 | 0,_,_,_,_,_=>rfl
 |m+1,k,b,z,h1,h2=>by
  have hk:k<l.length:=by omega
  have ht:YE l d k≠[]:=fun e=>hn ((a0z h hk).1 e);have e0:((k:Int)==0)=false:=bne (by omega);have e1:YF l d k (some (b,z))=.inl (some (gRl l d k (b,z))):=by unfold YF gRl;rw[a0E ht,e0,a0E (by simp),a9f h hk ht];show(if decide (a0x l d k<z)=true then _ else _)=Sum.inl (some (if decide (a0x l d k<z)=true then _ else _));split<;>rfl
  simp only[jq,e1];exact a2G hn m (k+1) _ _ (by omega) (by omega)
theorem look_eq(hl:l≠[]):abO (jq (YF l d) l.length 0 none)=sD (l,d):=by
 obtain⟨m,hm⟩:∃m,l.length=m+1:=⟨l.length-1,by have:=aad.2 hl;omega⟩;have h0:0<l.length:=by omega
 unfold sD;by_cases hn:ql (cellsD d) (cellsD d)=[]
 .have ht:=(a0z h h0).2 hn;rw[a0F (show(((ql (cellsD d) (cellsD d)).length:Int)==0)=true by rw[hn];rfl),hm];have e1:YF l d 0 none=.inr (none,0):=by unfold YF;rw[a0F ht]
  simp only[jq,e1];rfl
 have ht:YE l d 0≠[]:=fun e=>hn ((a0z h h0).1 e);rw[a0E (show ¬(((ql (cellsD d) (cellsD d)).length:Int)==0)=true by intro e;exact hn (a5n.1 (by simpa using e)))]
 have e1:YF l d 0 none=.inl (some (gRl l d 0 (0,0))):=by unfold YF gRl;rw[a0E ht,a0F (show(((0:Nat):Int)==0)=true from rfl),a9f h h0 ht]
 have e2:jq (YF l d) l.length 0 none=.inl (some (aS (gRl l d) l.length 0 (0,0))):=by rw[hm];simp only[jq,e1];exact a2G h hn m 1 _ _ (a0P _) (by omega)
 rw[e2];rfl
end
open Go Tw Pv bP
theorem ac5{n:Nat}(hO:Ok n a99){l:List Dg}(hf:∀d∈l,Cm d)(hl:l.length<=1000):iJ (n+1) (.fn 40 [] []) [.dF 26 l false] [] (.own 0) [.list false false 26 l]:=
 fA hO (first:=[]) (cap:=[]) (.wG [.G6 3 26] (lCy hO hf hl) .er)
theorem a4E{l:List Dg}{d:Dg}(hp:∀x∈l++[d],nM x)(hf:∀x∈l++[d],Cm x)(h0:bF (l++[d])=0)(hl:l≠[])(h4:l.length<=4):IL (l,d)=(sD (l,d),0)∧LlP l d:=by
 have hk:LkP l d:=⟨hp,Qw hp h0⟩;have hd:d∈l++[d]:=by simp
 have dF:∀x∈l++[d],LY x∧(cellsD x).length<=5000:=fun x hx=>by have f:=hf x hx;have hz:=U9 (l:=l++[d]) (by rw[a2E hp (by simp)];exact h0) x hx;have hL:=EH f.o f.e (by rw[hz];rfl);refine⟨hL,?_⟩;have:=a0w hL;have a:=hL.f.a3A;have b:=hL.f.many;rw[kT];omega
 refine⟨?_,(dF d hd).1,fun x hx=>⟨(dF x (a5h _ hx)).1,(dF x (a5h _ hx)).2,?_⟩,by unfold ah;omega,(dF d hd).2⟩
 .show(if decide ((l.length:Int)>4)=true then(Rq,5)else if(bF (l++[d]) != 0)=true then(Rq,bF (l++[d]))else if((l.length:Int)==0)=true then(Rq,7)else(abO (jq (YF l d) l.length 0 none),0))=_;rw[a0E (by rw[a1z];omega),h0,a0E (by simp),a0E (by intro e;exact hl (a5n.1 (by simpa using e))),look_eq hk hl]
 obtain⟨k,kQ,rfl⟩:=a8B hx;have:=a9e hk kQ;rw[a3s,a0q kQ,a5e]at this;exact this.symm
open Go Tw Pv bP
theorem ac6{l:List Dg}(hp:∀x∈l,nM x)(hk:∀x∈l,iW x=0){s o:LI0}(hs:∀x∈l,x.ay=s∧x.aB=o)(h0:0<l.length):bF l=0:=by
 have e:jZ (bG (cCk l) l.length)=true:=dL.2 fun k kQ=>by have hm:=dI (l:=l) (d:=jk) kQ;have h:=hp _ hm;unfold cCk;rw[Iw h.r h.s (by have:=h.o;unfold ah;omega) h.e];show(iW (l.getD k jk) != 0)=false;rw[hk _ hm];rfl
 have h1:=hs _ (dI (l:=l) (d:=jk) h0);have e2:(l.all (xq ((l.getD 0 jk).ay,(l.getD 0 jk).aB)))=true:=a4W.2 fun x hx=>by have h2:=hs x hx;rw[h1.1,h1.2];simp[xq,h2.1,h2.2]
 unfold bF;rw[a0F e,a0E (by rw[e2];simp)]
theorem Nz{x y:List V}(h:x.length=y.length):(ql x y).length=y.count iC:=by
 have e:(List.range y.length).map (fun k=>y.getD k V0)=y:=by have:=Ey y V0 (fun r=>r);rwa [List.map_id']at this
 rw[VZ,a4S,h]
 conv=>rhs;rw[<-e]
 rw[List.count,List.countP_map,List.countP_eq_length_filter];rfl
theorem a0A{x y:List V}(h:x.length=y.length)(hn:0<y.count iC):1<=qo (ql x y)∧qo (ql x y)<=((y.count iC:Nat):Int):=by
 have hl:=Nz h;generalize ql x y=L at hl ⊢;obtain⟨l1,l2,l3⟩:=a0y L;constructor
 .have hm:=dI (l:=L) (d:=V0) (k:=0) (by omega);have h1:=l2 _ hm;have h2:=afV.2 hm;omega
 rcases l3 with l3|⟨v,_,l3⟩
 .omega
 have:=List.count_le_length (a:=v) (l:=L);omega
theorem ac7{y:List V}{v:V}(hn:0<y.count iC):qo (ql (List.replicate y.length v) y)=((y.count iC:Nat):Int):=by
 have hx:(List.replicate y.length v).length=y.length:=a6E;have h1:=(a0A hx hn).2;have hl:=Nz hx;have hv:∀u∈ql (List.replicate y.length v) y,u=v:=fun u hu=>by rw[VZ]at hu;obtain⟨k,hk,rfl⟩:=a0V.1 hu;have hk:=a4P.1 (a7t.1 hk).1;rw[a3s,a0q hk,a5e,List.getElem_replicate]
 generalize ql (List.replicate y.length v) y=L at hl hv h1 ⊢;have hm:=dI (l:=L) (d:=V0) (k:=0) (by omega);have h2:=(a0y L).2.1 _ hm;rw[hv _ hm,List.count_eq_length.2 fun u hu=>(hv u hu).symm]at h2;omega
def YK(a d:Dg):Int:=qo (ql (cellsD a) (cellsD d))
theorem a0B{l:List Dg}{d:Dg}(h:(cellsD d).count iC=0):sD (l,d)=⟨8,true,false,0,0,0,false,[]⟩:=by unfold sD;rw[a0F (show(((ql (cellsD d) (cellsD d)).length:Int)==0)=true by rw[Nz rfl,h];rfl)]
theorem QB{l:List Dg}{d:Dg}(h:0<(cellsD d).count iC):sD (l,d)=⟨8,false,false,(aS (gRl l d) l.length 0 (0,0)).2,0,0,false,[(aS (gRl l d) l.length 0 (0,0)).1]⟩:=by unfold sD;rw[a0E (show ¬(((ql (cellsD d) (cellsD d)).length:Int)==0)=true by rw[Nz rfl];simp;omega)]
theorem a4F{a d:Dg}(h:0<(cellsD d).count iC):sD ([a],d)=⟨8,false,false,YK a d,0,0,false,[0]⟩:=by rw[QB h];rfl
theorem a4G{a b d:Dg}(h:0<(cellsD d).count iC):sD ([a,b],d)=if decide (YK b d<YK a d)=true then⟨8,false,false,YK b d,0,0,false,[1]⟩else⟨8,false,false,YK a d,0,0,false,[0]⟩:=by
 rw[QB h];have e:aS (gRl [a,b] d) [a,b].length 0 (0,0)=if decide (YK b d<YK a d)=true then(1,YK b d)else(0,YK a d):=rfl
 rw[e];split<;>rfl
structure LfP(a b c:Dg):Prop where
 f:∀x∈[a,b,c],Cm x
 p:∀x∈[a,b,c],nM x
 k:∀x∈[a,b,c],iW x=0
 s:∀x∈[a,b,c],x.ay=c.ay∧x.aB=c.aB
theorem ahl{a b c:Dg}(ht:QA (a,b)=true)(hu:QA (b,c)=true)(ra:Ba a)(rb:Ba b)(rc:Ba c):LfP a b c:=by obtain⟨⟨fa,fb⟩,⟨pa,pb⟩,_,_,es,eo,ka,kb⟩:=UC ht ra rb;obtain⟨⟨_,fc⟩,⟨_,pc⟩,_,_,es2,eo2,_,kc⟩:=UC hu rb rc;exact⟨a8M (P:=Cm) fa fb fc,a8M (P:=nM) pa pb pc,a8M (P:=fun x=>iW x=0) ka kb kc,a8M (P:=fun x=>x.ay=c.ay∧x.aB=c.aB) ⟨es.trans es2,eo.trans eo2⟩ ⟨es2,eo2⟩ ⟨rfl,rfl⟩⟩
theorem W9{l:List Dg}{c:Dg}(hp:∀x∈l++[c],nM x)(hf:∀x∈l++[c],Cm x)(hk:∀x∈l++[c],iW x=0)(hs:∀x∈l++[c],x.ay=c.ay∧x.aB=c.aB)(hl:l≠[])(h4:l.length<=4):IL (l,c)=(sD (l,c),0):=
 (a4E hp hf (ac6 hp hk hs (by simp)) hl h4).1
theorem ac8{c:Dg}(h:nM c)(hk:iW c=0):YC c.ay c.aB ⟨0,7⟩=(oz c.ay c.aB (List.replicate (cellsD c).length ⟨0,7⟩),0)∧DgF (oz c.ay c.aB (List.replicate (cellsD c).length ⟨0,7⟩))∧cellsD (oz c.ay c.aB (List.replicate (cellsD c).length ⟨0,7⟩))=List.replicate (cellsD c).length ⟨0,7⟩:=by
 have hL:=EH (by have:=h.o;unfold ah;omega) (by have:=h.e;omega) (by rw[hk];rfl);have hf:=Lm hL.l;have hv:J4 (⟨0,7⟩:V):=⟨by kernel_rfl,by decide⟩;have hO:=(hL.of (l:=List.replicate (cellsD c).length (⟨0,7⟩:V)) (by rw[a6E,kT])).1;have hc:∀v∈List.replicate (cellsD c).length (⟨0,7⟩:V),J4 v:=fun v m=>by rw[List.eq_of_mem_replicate m];exact hv
 refine⟨?_,ahg hO hc,Qh hO fun v m=>(hc v m).1⟩;have e7:(jE (⟨0,7⟩:V) != 0)=false:=by kernel_rfl
 unfold YC;rw[hf,a0E (by simp),a0E (by rw[e7];simp),a9a hf hv,kT]
open Go Tw Pv bP
theorem ac9{call:aZ}{fv v:PV aG}{xs:List (PV aG)}{H H1:List (PB aG)}{i t:Nat}{k ex:Bool}{l:List (X0.Γ t)}(hk:H[i]? = some (.list k ex t l))(hs:dG X0 Qp call fv (.dF t l false::xs) (aY [i] H) v H1):dG X0 Qp call fv (.own i::xs) H v H1:=by
 intro A m h tf qP hr hf hx;obtain⟨x0,r,rfl,v0,vr⟩:=hx.inv;obtain⟨mb,g1,g2⟩:=hr.at_ i _ hk;cases mb with
 |dF y=>
  have hy:x0=y:=by
   cases v0 with
   |own e _=>rw[g1]at e;cases e;rfl
   |gone hi e _=>simp only[bn,a0d]at hi;subst hi;rw[g1]at e;cases e
  subst hy;have hF:=iw (h:=h) [i] m;have w1:VR X0 Qp (AA A (bV [i] m)) (bV [i] m) h (.dF t l false) x0:=(Jq (m':=bV [i] m) hX hr g2 g1 (is:=[i]) (by simp)).mono fun b hb=>FA.gone hr hb;obtain⟨w,h',Uj,m1,k1,k2,k3,k4,k5,k6⟩:=hs A (bV [i] m) h tf (x0::r) (hr.aY [i]) (hf.step hF.1 hF.2) (.cons w1 (vr.step hF.1 hF.2));refine⟨w,h',Uj,m1,k1,k2,k3,hF.1.trans k4,hF.2.trans k5,fun b hb=>?_⟩;rcases hF.1.new b (k6 b hb)with g|g
  .exact g
  have:=(hr.aY [i]).inb (k6 b hb);omega
 |_=>exact g2.elim
theorem QC{n:Nat}(hO:Ok n a99){k ex:Bool}{l:List Dg}(hf:∀d∈l,Cm d)(hl:l.length<=1000):iJ (n+1) (.fn 40 [] []) [.own 0] [.list k ex 26 l] (.own 1) [.gone,.list false false 26 l]:=
 ac9 (i:=0) (k:=k) (ex:=ex) (t:=26) (l:=l) rfl (dG.frame hX (ks:=[]) (H':=[.gone]) (Hp:=[]) (QD:=[.list false false 26 l]) (v':=.own 1) (fv':=.fn 40 [] []) (xs':=[.dF 26 l false]) (ac5 hO hf hl) (by decide) rfl rfl rfl rfl rfl rfl rfl)
section
variable {n:Nat} (hO:Ok n ahj)
include hO
theorem arF{d:Dg}(hf:Cm d):iJ n (.fn 21 [] []) [.agg d.ps] [] (.agg d.ps) []:=
 nS.Ql hX (first:=[]) (cap:=[]) (xs:=[.agg d.ps]) (hO 21 [.agg d.ps] (.agg d.ps) [] [Cm d] (by kernel_rfl) (fun p h=>by rw[a1S.1 h];exact hf)) rfl rfl rfl rfl
theorem amx(k:Int):iJ n (.fn 48 [] []) [.int .i64 k] [] (.agg (⟨0,k⟩:V).ps) []:=
 nS.Ql hX (first:=[]) (cap:=[]) (xs:=[.int .i64 k]) (hO 48 [.int .i64 k] (.agg (⟨0,k⟩:V).ps) [] [] (by kernel_rfl) (fun p h=>by cases h)) rfl rfl rfl rfl
theorem amy{d:Dg}{v:V}(hp:nM d):iJ n (.fn 27 [] []) [.agg d.ps,.agg v.ps] [] ((dO (a2 iA iA)).put (DY (d,v))) []:=
 nS.Ql hX (first:=[]) (cap:=[]) (xs:=[.agg d.ps,.agg v.ps]) (hO 27 [.agg d.ps,.agg v.ps] ((dO (a2 iA iA)).put (DY (d,v))) [] [nM d] (by kernel_rfl) (fun p h=>by rw[a1S.1 h];exact hp)) rfl rfl rfl rfl
theorem aeh{l:LI0}(hl:l.length<=ah):iJ n (.fn 56 [] []) [lI l] [] (lI l) []:=
 nS.Ql hX (first:=[]) (cap:=[]) (xs:=[lI l]) (hO 56 [lI l] (lI l) [] [l.length<=ah] (by kernel_rfl) (fun p h=>by rw[a1S.1 h];exact hl)) rfl rfl rfl rfl
theorem ahm{s o:LI0}{v:V}(h1:s.length<=ah)(h2:o.length<=2^20):iJ n (.fn 55 [] []) [lI s,lI o,.agg v.ps] [] ((dO (a2 dA iA)).put (YC s o v)) []:=
 nS.Ql hX (first:=[]) (cap:=[]) (xs:=[lI s,lI o,.agg v.ps]) (hO 55 [lI s,lI o,.agg v.ps] ((dO (a2 dA iA)).put (YC s o v)) [] [s.length<=ah,o.length<=2^20] (by kernel_rfl) (fun p h=>by
  rcases a1Y.1 h with rfl|h
  .exact h1
  .rw[a1S.1 h];exact h2)) rfl rfl rfl rfl
end
def arG:eY aG:=bZ 12 (a3 dA dA dA) tA (fun _=>true) (fun p=>[Ba p.1∧Ba p.2.1∧Ba p.2.2]) ahj
theorem arH:Gd arG:=Good.a1Q 26 arD agR IG amu fun n hn hO Gw hO3 hO4 p hp=>by
 obtain⟨m,rfl⟩:∃m,n=m+1:=⟨n-1,by omega⟩;have yF:=hO (m+1) (by omega);obtain⟨a,b,c⟩:=p;obtain⟨ra,rb,rc⟩:Ba a∧Ba b∧Ba c:=hp _ gY;cases t1:(!(QA (a,b)))
 .cases t2:(!(QA (b,c)))
  .have h:=ahl (by simpa using t1) (by simpa using t2) ra rb rc;have fc:=h.f c (by simp);have pc:=h.p c (by simp);have kc:=h.k c (by simp);obtain⟨q1,q2,q3⟩:=ac8 pc kc;generalize hfl:oz c.ay c.aB (List.replicate (cellsD c).length (⟨0,7⟩:V))=fl at q1 q2 q3;have sf:fl.ay=c.ay∧fl.aB=c.aB:=by rw[<-hfl];exact⟨rfl,rfl⟩
   have e3:=W9 (l:=[a,b]) (c:=c) h.p h.f h.k h.s (by simp) (by show 2<=4;omega);have sub:∀x,x=a∨x=b->IL ([x],c)=(sD ([x],c),0)∧(∀y∈[x]++[c],nM y)∧Cm x:=fun x hx=>by
    have hm:∀y∈[x]++[c],y∈[a,b,c]:=fun y hy=>by
     simp at hy ⊢;rcases hy with rfl|rfl
     .rcases hx with rfl|rfl
      .exact .inl rfl
      .exact .inr (.inl rfl)
     .exact .inr (.inr rfl)
    exact⟨W9 (l:=[x]) (c:=c) (fun y hy=>h.p y (hm y hy)) (fun y hy=>h.f y (hm y hy)) (fun y hy=>h.k y (hm y hy)) (fun y hy=>h.s y (hm y hy)) (by simp) (by show 1<=4;omega),fun y hy=>h.p y (hm y hy),h.f x (hm x (by simp))⟩
   obtain⟨ea,pa,fa⟩:=sub a (.inl rfl);obtain⟨eb,pb,fb⟩:=sub b (.inr rfl);have pw:∀y∈[fl]++[c],nM y:=LX (P:=nM) q2.p pc;have ew:=W9 (l:=[fl]) (c:=c) pw (LX (P:=Cm) q2.f fc) (LX (P:=fun x=>iW x=0) q2.k kc) (LX (P:=fun x=>x.ay=c.ay∧x.aB=c.aB) sf ⟨rfl,rfl⟩) (by simp) (by show 1<=4;omega);have qm:DY (c,⟨0,1⟩)=(((cellsD c).count iC:Int),0):=ahi pc kc a2B;have s1:=arF yF fc;have s2:=amx yF 1;have s3:=amy yF (v:=⟨0,1⟩) pc;have s4:=QC (n:=m) (hO4 m (by omega)) (k:=true) (ex:=true) (l:=[a,b]) (LX (P:=Cm) fa fb) (by show 2<=1000;omega);have lk:=fun(k ex:Bool) (l:List Dg) hp hl=>aeb (n:=m) (by omega) (Gw m (by omega)) (fun j hj=>hO3 j (by omega)) (k:=k) (ex:=ex) (l:=l) (d:=c) hp hl;have s5:=lk false false [a,b] h.p (by show 2<=1000;omega);have s6:=QC (n:=m) (hO4 m (by omega)) (k:=true) (ex:=true) (l:=[a]) (fun x hx=>by rw[a1S.1 hx];exact fa) (by show 1<=1000;omega);have s7:=lk false false [a] pa (by show 1<=1000;omega);have s8:=QC (n:=m) (hO4 m (by omega)) (k:=true) (ex:=true) (l:=[b]) (fun x hx=>by rw[a1S.1 hx];exact fb) (by show 1<=1000;omega);have s9:=lk false false [b] pb (by show 1<=1000;omega);have u1:=aeh yF (l:=c.ay) fc.s;have u2:=aeh yF (l:=c.aB) fc.o;have u3:=amx yF 7;have u4:=ahm yF (s:=c.ay) (o:=c.aB) (v:=⟨0,7⟩) fc.s (by have:=fc.o;unfold ah at this;omega);have u5:=lk true true [fl] pw (by show 1<=1000;omega);rw[qm]at s3;rw[e3]at s5;rw[ea]at s7;rw[eb]at s9;rw[q1]at u4;rw[ew]at u5;have z:((0:Int) != 0)=false:=rfl;have hlen:∀x,x.ay=c.ay->(cellsD x).length=(cellsD c).length:=fun x hx=>(by rw[kT,kT,hx]);by_cases hn:(cellsD c).count iC=0
   .rw[a0B hn]at s5 s7 s9 u5;rw[hn]at s3;exact aO yF (.b t1 (.b t2 (.fr [] s1 (.fr [] s2 (.fr [] s3 (.fr [0] s4 (.fr [] s1 (.fr [1] s5 (.fr [2] s6 (.fr [] s1 (.fr [3] s7 (.fr [4] s8 (.fr [] s1 (.fr [5] s9 (.fr [] u1 (.fr [] u2 (.fr [] u3 (.fr [] u4 (.fr [] s1 (.fr [6] u5 (.b z (.b z (.b z (.b z (.b z (.b z (.b (rfl:(!(true==((0:Int)==0)))=false) (.b (rfl:(!(true==true))=false) (.b (rfl:((0:Int)==0)=true) .rr)))))))))))))))))))))))))))))
   .have hn:0<(cellsD c).count iC:=(by omega);have ra1:=a0A (x:=cellsD a) (hlen a (h.s a (by simp)).1) hn;have rb1:=a0A (x:=cellsD b) (hlen b (h.s b (by simp)).1) hn;have rw1:YK fl c=(((cellsD c).count iC:Nat):Int):=by unfold YK;rw[q3];exact ac7 hn
    rw[a4G hn]at s5;rw[a4F hn]at s7 s9 u5;rw[rw1]at u5
    change 1<=YK a c∧YK a c<=_ at ra1
    change 1<=YK b c∧YK b c<=_ at rb1
    generalize YK a c=la at s5 s7 ra1;generalize YK b c=lb at s5 s9 rb1;generalize (((cellsD c).count iC:Nat):Int)=N at s3 u5 ra1 rb1;have n0:(N==0)=false:=bne (by omega);have n1:(!(false==(N==0)))=false:=by rw[n0];rfl
    have n2:(N==N)=true:=ahr _;have l1:[(1:Int)].length<=ah:=by show 1<=ah;unfold ah;omega
    have l0:[(0:Int)].length<=ah:=by show 1<=ah;unfold ah;omega
    cases hc:decide (lb<la)
    .rw[a0E (by rw[hc];simp)]at s5;have Gu:¬lb<la:=(by simpa using hc);have d1:decide (la>=1)=true:=by rw[a1z];omega
     have d2:decide (la<=N)=true:=by rw[a1z];omega
     have d3:(la==if lb<la then lb else la)=true:=by rw[a0E Gu];exact ahr _
     exact aO yF (.b t1 (.b t2 (.fr [] s1 (.fr [] s2 (.fr [] s3 (.fr [0] s4 (.fr [] s1 (.fr [1] s5 (.fr [2] s6 (.fr [] s1 (.fr [3] s7 (.fr [4] s8 (.fr [] s1 (.fr [5] s9 (.fr [] u1 (.fr [] u2 (.fr [] u3 (.fr [] u4 (.fr [] s1 (.fr [6] u5 (.b z (.b z (.b z (.b z (.b z (.b z (.b n1 (.b (rfl:(!(false==false))=false) (.b n0 (.b hc (.b d1 (.b d2 (.b n2 (.o l0 (.b (rfl:decide ([(0:Int)]=[0])=true) (.b d3 .rr))))))))))))))))))))))))))))))))))))
    .rw[a0F hc]at s5;have Gu:lb<la:=(by simpa using hc);have d1:decide (lb>=1)=true:=by rw[a1z];omega
     have d2:decide (lb<=N)=true:=by rw[a1z];omega
     have d3:(lb==if lb<la then lb else la)=true:=by rw[a0F Gu];exact ahr _
     exact aO yF (.b t1 (.b t2 (.fr [] s1 (.fr [] s2 (.fr [] s3 (.fr [0] s4 (.fr [] s1 (.fr [1] s5 (.fr [2] s6 (.fr [] s1 (.fr [3] s7 (.fr [4] s8 (.fr [] s1 (.fr [5] s9 (.fr [] u1 (.fr [] u2 (.fr [] u3 (.fr [] u4 (.fr [] s1 (.fr [6] u5 (.b z (.b z (.b z (.b z (.b z (.b z (.b n1 (.b (rfl:(!(false==false))=false) (.b n0 (.b hc (.b d1 (.b d2 (.b n2 (.o l1 (.b (rfl:decide ([(1:Int)]=[1])=true) (.b d3 .rr))))))))))))))))))))))))))))))))))))
  .exact aO yF (.b t1 (.b t2 .rr))
 .exact aO yF (.b t1 .rr)
open Go Tw Pv
section
variable {H:Type} {nI:LI2×LI3->H} {w:LI4}
abbrev RdX(nI:LI2×LI3->H)(w:LI4)(g t:Nat){α:Type}(ps:α->List (PV aG))(Q:α->Prop):Prop:=RdP nI X0 Tryz.prog w g t ps Q
theorem a2H:Tryz.prog.cellsOf 3=1:=by kernel_rfl
theorem arK:Tryz.prog.cellsOf 5=1:=by kernel_rfl
theorem aej:Tryz.prog.cellsOf 39=2:=by kernel_rfl
theorem zI0:dH Tryz.prog 3=some 1:=by kernel_rfl
theorem acd{g:Nat}:RdX nI w (g+1) 3 (fun n:Int=>[.int .i64 n]) (fun n=>(Lit.int .i64 n).wf=true):=a1R Tryz.underlying3
theorem rU8{g:Nat}:RdX nI w (g+1) 5 (fun n:Int=>[.int .u8 n]) (fun n=>0<=n∧n<=255):=(a1R Tryz.underlying5).iso id (fun _=>rfl) fun n h=>by simp only[Lit.wf,a2O,a1z]at h;exact h
theorem a9g{g:Nat}:RdX nI w (g+2) 22 (fun l:LI0=>[lI l]) (fun l=>∀a∈l,(Lit.int .i64 a).wf=true):=PK (e:=3) Tryz.underlying22 a2H zI0 (by decide) (fun _=>rfl) acd
theorem arL{g:Nat}:RdX nI w (g+2) 39 V.ps (fun v=>0<=v.f∧v.f<=255):=
 (Gh Tryz.underlying39 aej (fun _=>rfl) (rQ rfl arK (fun _=>rfl) rU8 (rQ rfl a2H (fun _=>rfl) acd Vm))).iso (fun x=>⟨x.1,x.2.1⟩) (fun _=>rfl) fun _ h=>h.1
theorem amA:dH Tryz.prog 39=some 2:=by kernel_rfl
theorem amB{g:Nat}:RdX nI w (g+3) 23 (fun l:List V=>[lV l]) (fun l=>∀v∈l,0<=v.f∧v.f<=255):=PK (e:=39) Tryz.underlying23 aej amA (by decide) (fun _=>rfl) arL
theorem ahn:Tryz.prog.cellsOf 22=1:=by kernel_rfl
end
open Go Tw Pv bP
section
variable {H:Type} {nI:LI2×LI3->H} {w:LI4}
theorem amC:Tryz.prog.cellsOf 105=2:=by kernel_rfl
theorem arM:dH Tryz.prog 105=some 2:=by kernel_rfl
theorem amD:Tryz.prog.cellsOf 24=1:=by kernel_rfl
theorem arN:Tryz.prog.cellsOf 23=1:=by kernel_rfl
theorem arO:Tryz.prog.cellsOf 26=5:=by kernel_rfl
theorem rBr{g:Nat}:RdX nI w (g+3) 105 Br.ps (fun b=>∀a∈b.aA,(Lit.int .i64 a).wf=true):=
 (Gh Tryz.underlying105 amC (fun _=>rfl) (rQ rfl a2H (fun _=>rfl) acd (rQ rfl ahn (fun _=>rfl) a9g Vm))).iso (fun x=>⟨x.1,x.2.1⟩) (fun _=>rfl) fun _ h=>h.2.1
theorem arP{g:Nat}:RdX nI w (g+4) 24 (fun l:List Br=>[lBr l]) (fun l=>∀b∈l,∀a∈b.aA,(Lit.int .i64 a).wf=true):=PK (e:=105) Tryz.underlying24 amC arM (by decide) (fun _=>rfl) rBr
theorem a9h{a:Int}(h:(Lit.int .i64 a).wf=true):Gj a:=by
 simp only[Lit.wf,a2O,a1z]at h;obtain⟨h1,h2⟩:=h;have e1:i64.min=-(2^63):=by decide
 have e2:i64.max=2^63-1:=by decide
 exact⟨by omega,by omega⟩
theorem rDg{g:Nat}:RdX nI w (g+5) 26 Dg.ps Ba:=
 (Gh Tryz.underlying26 arO (fun _=>rfl) (rQ rfl ahn (fun _=>rfl) a9g (rQ rfl ahn (fun _=>rfl) a9g (rQ rfl arN (fun _=>rfl) amB (rQ rfl amD (fun _=>rfl) arP (rQ rfl a2H (fun _=>rfl) acd Vm)))))).iso (fun x=>⟨x.1,x.2.1,x.2.2.1,x.2.2.2.1,x.2.2.2.2.1⟩) (fun _=>rfl) fun x h=>by
  obtain⟨_,_,h3,h4,h5,_⟩:=h;refine⟨fun i hi k hk=>?_,a9h h5,fun v hv=>(h3 v hv).1⟩;have hb:fB ⟨x.1,x.2.1,x.2.2.1,x.2.2.2.1,x.2.2.2.2.1⟩ i∈x.2.2.2.1:=by show(x.2.2.2.1).getD i kR∈_;rw[List.getD,a0q hi];exact a4Z _
  refine a9h (h4 _ hb _ ?_);rw[List.getD,a0q hk];exact a4Z _
end
open Go.ChangeShapes Go.WideShapes Go.ChangeAt Go.RowKit
theorem Tryz.own:ownKnob Tryz.prog.godebug=none:=by kernel_rfl
theorem Tryz.laidOut:laidOutB Tryz.prog=true:=by kernel_rfl
theorem Tryz.mixed:Tryz.prog.follows .mixedOrders=true:=by kernel_rfl
theorem aho:iF Tryz.prog T.ext:=by
 show iF Tryz.prog afK;intro fv args h v h' ws hc;unfold afK at hc;split at hc
 .split at hc
  .exact aax (Zz (T:=Tm) Tryz.mixed (fun _ _ _ _ _ _ h=>by cases h) 2) _ _ _ _ _ _ hc
  exact XE acP _ _ _ _ _ _ hc
 exact XE acP _ _ _ _ _ _ hc
theorem Tryz.tys12:Tryz.f12.params.toList=[26,26,26]:=by kernel_rfl
set_option maxRecDepth 100000 in
theorem KA(os:Os)(started:os.Started)(H:Type)(enc:LI2×LI3->H) :
  ReturnsInHanded {} Tryz.checked os 12 .any (Rows.applyLeftSpec.pre6 enc Tryz.prog Tryz.f12 Rows.applyLeftRow.domain false) (Rows.applyLeftSpec.post enc Tryz.prog Tryz.f12 false true false false):=by
 refine returnsInHanded_of_change (C:=Tryz.checked) Tryz.own started (by kernel_rfl) Tryz.func12
  (ChangeSpec.witness6 (enc:=enc) (C:=Tryz.checked) false ⟨#[],#[.agg #[.slice none 0 0,.slice none 0 0,.slice none 0 0,.slice none 0 0,.int .i64 0],.agg #[.slice none 0 0,.slice none 0 0,.slice none 0 0,.slice none 0 0,.int .i64 0],.agg #[.slice none 0 0,.slice none 0 0,.slice none 0 0,.slice none 0 0,.int .i64 0]],[]⟩ 8 (by kernel_rfl) (by kernel_rfl) (by kernel_rfl) (by kernel_rfl)) ?_
 intro W base args ds gs before amE hW awd _;have X8:∀(j:Nat) t v,Tryz.f12.params[j]? = some t->args[j]? = some v->Value.okWide Tryz.prog W .any base t v:=amE;have hW':=hW;obtain⟨p,q,arR,hV,rfl,hfz,jH⟩:=hW;have hTA:DataW.TrodAll enc Tryz.prog W 0 (fun _=>true) true Tryz.f12.params.toList args.toList ds p:=arR;obtain⟨rfl,rfl⟩:=trodVars_none hV;rw[Tryz.tys12]at hTA;obtain⟨d0,_,rfl,r0,_,_,hTA⟩:=JA hTA;obtain⟨d1,_,rfl,r1,_,_,hTA⟩:=JA hTA;obtain⟨d2,_,rfl,r2,_,_,hTA⟩:=JA hTA;obtain⟨_,rfl,_⟩:=trodAll_nil hTA;obtain⟨a0,q0,h0⟩:=rDg (g:=2) d0 r0;obtain⟨a1,q1,h1⟩:=rDg (g:=2) d1 r1;obtain⟨a2,q2,h2⟩:=rDg (g:=2) d2 r2;obtain⟨x0,e0,g0,v0⟩:=h0 ([]);obtain⟨x1,e1,g1,v1⟩:=h1 ([]++e0);obtain⟨x2,e2,g2,v2⟩:=h2 ([]++e0++e1);have w0:=v0 (e1++e2);simp only[a5A,a9q,a6f]at w0;have w1:=v1 (e2);simp only[a5A,a9q,a6f]at w1;have w2:=v2 ([]);simp only[a5A,a9q,a6f]at w2;obtain⟨N,hN⟩:=arH;have arS:=hN (N+1) (by omega) 12 ((Pv.a3 dA dA dA).put (a0,a1,a2)) (tA.put true) [] [Ba a0∧Ba a1∧Ba a2] rfl (by intro p hp;simp only[a1Y,List.not_mem_nil,or_false]at hp;subst hp;exact⟨q0,q1,q2⟩)
 obtain⟨h',hr⟩:=afG (h:=[]++e0++e1++e2) arS (by simp only[a5A,a9q,a6f];exact .cons (.agg w0.1 w0.2) (.cons (.agg w1.1 w1.2) (.cons (.agg w2.1 w2.2) .nil)));exact ZA (P:=Tryz.prog) (T:=T) (L:=LL) (n:=N) (g:=7) Tryz.mixed Tryz.laidOut rfl rfl (by kernel_rfl) Tryz.underlying4 (by kernel_rfl) hW' X8
  (by rw[Tryz.tys12];exact(a0a (by kernel_rfl) g0 (a0a (by kernel_rfl) g1 (a0a (by kernel_rfl) g2 afF)))) aho (by kernel_rfl) (by kernel_rfl) hr
theorem KC:joinedFacts Tryz.pinned.checked.prog 12 Tryz.f12 Rows.applyLeftSpec Rows.applyLeftRow=true:=by kernel_rfl
theorem ApplyLeft_holds:Rows.ApplyLeftSaid:=
 OpenClaim.holds_of_wide 12 Tryz.f12 rfl rfl rfl rfl rfl rfl rfl ⟨rfl,rfl,rfl,rfl,rfl⟩ rfl rfl rfl rfl rfl (by kernel_rfl) Tryz.func12 KC
  (a7X (by kernel_rfl)) (by unfold Func.isWrapper;first|(rw[a0F (by decide +kernel)];kernel_rfl)|(rw[a0E (by decide +kernel)];exact⟨rfl,rfl⟩))
  (fun os started H enc _=>KA os started H enc)
end Go.Proofs.YtmobpoiejckagaaGreat
