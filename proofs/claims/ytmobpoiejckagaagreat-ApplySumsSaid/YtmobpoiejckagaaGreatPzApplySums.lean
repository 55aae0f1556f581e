/- Many of all cells of a diagram together is the number of places; the answer to AskCount is Many of 1 of OpAnd of the condition's Where and the diagram's Where; for two diagrams that fit. -/
import Derived.ProofKit
import Derived.Test.YtmobpoiejckagaaGreatRows
import Derived.Test.YtmobpoiejckagaaGreatP05
set_option linter.constructorNameAsVariable false
set_option linter.unusedVariables false
set_option linter.unusedSimpArgs false
set_option linter.unusedSectionVars false
open Go.IntKind (i64)
noncomputable section
namespace Go.Proofs.YtmobpoiejckagaaGreat
open Go Tw Pv bZ
abbrev a0q:Code:=(U2 Qp 88).body
abbrev lpB:Code:=eH (eH (eP (eH (eP a0q))))
abbrev xB:Code:=eH (eP (eP lpB))
def DZ(t:List (V×Int))(js:List Nat):List Int:=(js.reverse.filter fun j=>!decide ((Qo t j).1.f>0)).map fun j=>(Qo t j).1.n
def fOf(t:List (V×Int))(js:List Nat):Bool:=js.any fun j=>decide ((Qo t j).1.f>0)
theorem a4j(t:List (V×Int))(j:Nat)(js:List Nat):DZ t (j::js)=DZ t js++(if decide ((Qo t j).1.f>0)=true then []else [(Qo t j).1.n]):=by
 unfold DZ;rw[List.reverse_cons,List.filter_append,a4C];congr 1;cases h:decide ((Qo t j).1.f>0)
 .rw[adp (by rw[h];rfl),a0o (by simp)];rfl
 rw[adh (by rw[h];simp),a0u rfl];rfl
def mM(t:List (V×Int)):List Int:=gY ((t.filter fun e=>!decide (e.1.f>0)).map fun e=>e.1.n)
def uU(t:List (V×Int)):Bool:=t.any fun e=>decide (e.1.f>0)
theorem a0r{l l':List Int}(h:l.Perm l'):gY l=gY l':=by
 unfold gY;have hs:∀l:List Int,(l.mergeSort fun x y=>decide (x<=y)).Pairwise fun a b=>decide (a<=b)=true:=fun l=>
  List.pairwise_mergeSort (fun a b c h1 h2=>by simp at *;omega) (fun a b=>by simp;omega) l
 exact List.Perm.eq_of_pairwise (le:=fun a b=>decide (a<=b)=true) (fun a b _ _ h1 h2=>by simp at h1 h2;omega) (hs l) (hs l') ((ae8 l _).trans (h.trans (ae8 l' _).symm))
theorem agf{t:List (V×Int)}{js:List Nat}(hn:js.Nodup)(hl:∀j∈js,j<t.length)(ha:∀j,j<t.length->j∈js):gY (DZ t js)=mM t∧fOf t js=uU t:=by
 have hp:(js.reverse).Perm (List.range t.length):=(List.reverse_perm js).trans ((a6L hn ae5).2 fun j=>⟨fun h=>a4L.2 (hl j h),fun h=>ha j (a4L.1 h)⟩);constructor
 .refine a0r ?_;unfold DZ;have e:((t.filter fun e=>!decide (e.1.f>0)).map fun e=>e.1.n)=((List.range t.length).filter fun j=>!decide ((Qo t j).1.f>0)).map fun j=>(Qo t j).1.n:=by
   conv=>lhs;rw[agc t]
   rw[List.filter_map,a5D];rfl
  rw[e];exact(hp.filter _).map _
 unfold fOf uU;rw[a4T,agW,agW];constructor
 .rintro⟨j,hj,h⟩;exact⟨Qo t j,dK (d:=((V0,0):V×Int)) (hl j hj),h⟩
 rintro⟨e,he,h⟩;obtain⟨j,hj,rfl⟩:=a4U.1 he;exact⟨j,ha j hj,by rw[(VL (a0b hj)).1];exact h⟩
abbrev sBl(t:List (V×Int))(l:List Int)(b:Bool)(js:List Nat):aS aG:=match l with
 | []=>⟨[(2,.val (.nil .slc)),(3,xl b),(6,.val (.iter 1))],[],[.iL (kV.im t),.dn 0 t.length js]⟩
 |x::l=>⟨[(2,.val (.own 2)),(3,xl b),(6,.val (.iter 1))],[],[.iL (kV.im t),.dn 0 t.length js,.list false false 3 (x::l)]⟩
theorem agh{n:Nat}:aW X0 Qp (bT (n+1)) (.fn 137 [] []) [.nil .slc] [] (.dM []) []:=by
 intro A m h tf sJ hr hf hx;obtain⟨x,r,rfl,h1,h2⟩:=hx.inv;have:=h2.inv0;subst this;have htf:=hf.Va;subst htf;have hx:x=.nil .slc:=jT h1 rfl;subst hx;exact⟨.dM [],h,[],m,rfl,hr,.dM rfl (fun i x y hx=>by simp at hx),.refl,.refl,fun b hb=>by cases hb⟩
section
variable {n:Nat} {t:List (V×Int)}
set_option maxRecDepth 20000 in
theorem abk(h:JQ t):aK X0 Qp T (bT (n+1)) (vg Qp T (bT (n+1)) LL) LL 88 (Cj Qp 88) 1 (.block 0 (.loop lpB)) (sBl t [] false [])
  fun e s=>e=.norm∧∃l seen,gY l=mM t∧s={ sBl t l (uU t) seen with env:=jm (T.iG 88 2) ((8,.val (.bool false))::(7,.val (.dM [.bool false]))::(sBl t l (uU t) seen).env) }:=by
 have e1:lpB=.seq (.region 2 (a8m (eH lpB)) false) (.seq (.cond (.tmp 8) .skip (.exit 0)) (.block 1 xB)):=by kernel_rfl
 have hlen:=h.len;rw[e1];refine Qk hX (n:=t.length) (b:=1) (r:=0) (it:=6) (nx:=7) (mo:=8) (es:=kV.im t) (fun seen s=>seen.Nodup∧(∀j∈seen,j<t.length)∧∃gs,lN 1 gs (gW X0 (T.eU 88 (dZ lpB)) s)=some (sBl t (DZ t seen) (fOf t seen) seen)) (by kernel_rfl) (a7e (by kernel_rfl)) (a7e (by kernel_rfl)) (kV.qg t) (by unfold LL;omega)
  ⟨a5v,(fun j hj=>(by cases hj)),[],(by kernel_rfl)⟩ (fun seen s hi=>?_)
 obtain⟨jH,aQ,gs,h3⟩:=hi;rw[<-e1];refine⟨gs,_,h3,?_,?_,?_,fun ho=>?_,fun j e hj he=>?_⟩
 .cases DZ t seen<;>kernel_rfl
 .cases DZ t seen<;>kernel_rfl
 .cases DZ t seen<;>kernel_rfl
 .obtain⟨a1,a2⟩:=agf jH aQ ho;refine⟨?_,DZ t seen,seen,a1,?_⟩
  .cases DZ t seen<;>kernel_rfl
  .rw[a2]
 .rw[kV.BA,a07]at he;obtain⟨⟨v,w⟩,sG,rfl⟩:=he;obtain⟨q1,q2,q3⟩:=VL sG;have Gi:(j::seen).Nodup:=a4J.2 ⟨hj,jH⟩;have Gj:∀k∈j::seen,k<t.length:=fun k hk=>by
   rcases a1J.1 hk with rfl|hk
   .exact q2
   .exact aQ k hk
  have hll:(DZ t seen).length<=2000:=by
   have h1:(DZ t seen).length<=seen.length:=by
    unfold DZ;rw[a4K];exact a5e (a9l ..) (by simp)
   have h2:seen.length<=t.length:=by
    have:=(JM jH aQ).length_eq;have h3:=a9l (fun j=>seen.contains j) (List.range t.length);rw[a9a]at h3;omega
   omega
  have Eb:=a4j t j seen;have hf2:fOf t (j::seen)=(decide (v.f>0)||fOf t seen):=by unfold fOf;rw[adD,q1]
  rw[q1]at Eb;generalize fOf t seen=b at hf2;have Eb:DZ t (j::seen)=DZ t seen++(if decide (v.f>0)=true then []else [v.n]):=Eb;generalize DZ t seen=l at Eb hll;cases hv:decide (v.f>0)
  .rw[hv,a0o (by simp)]at Eb;rw[hv,agC]at hf2;have hv1:decide (v.f>0)=false:=hv;cases l with
   |nil=>
    have a1:[v.n].length<=ah:=by rw[a3J];unfold ah;omega
    refine⟨by kernel_rfl,aK.step (e:=.norm) (by kernel_rfl) (zY (ps1:=⟨[(2,.val (.own 3)),(3,xl b),(6,.val (.iter 1))],[v.ps],[.iL (kV.im t),.dn 0 t.length (j::seen),.list true true 3 [v.n],.list true false 3 [v.n]]⟩) hX gy (by kernel_rfl) (.c (.dM [.agg v.ps,.int .i64 w]) [] (BG sG) (.b hv1 (.o a1 (.r rfl))))) ⟨.inl rfl,Gi,Gj,[.flag 3,.gc [1,3]],?_⟩⟩;rw[Eb,hf2]
    kernel_rfl
   |cons x l=>
    have a1:(x::l).length+[v.n].length<=ah:=by rw[a3J];unfold ah;omega
    refine⟨by kernel_rfl,aK.step (e:=.norm) (by kernel_rfl) (zY (ps1:=⟨[(2,.val (.own 4)),(3,xl b),(6,.val (.iter 1))],[v.ps],[.iL (kV.im t),.dn 0 t.length (j::seen),.gone,.list true true 3 [v.n],.list false false 3 (x::l++[v.n])]⟩) hX gy (by kernel_rfl) (.c (.dM [.agg v.ps,.int .i64 w]) [] (BG sG) (.b hv1 (.o a1 (.r rfl))))) ⟨.inl rfl,Gi,Gj,[.gc [1,4]],?_⟩⟩;rw[Eb,hf2]
    kernel_rfl
  .rw[hv,a0u rfl,a5R]at Eb;rw[hv,Bool.true_or]at hf2;have hv1:decide (v.f>0)=true:=hv;cases l with
   |nil=>
    refine⟨by kernel_rfl,aK.step (e:=.exit 1) (by kernel_rfl) (zY (ps1:=⟨[(2,.val (.nil .slc)),(3,xl true),(6,.val (.iter 1))],[v.ps],[.iL (kV.im t),.dn 0 t.length (j::seen)]⟩) hX gy (by kernel_rfl) (.c (.dM [.agg v.ps,.int .i64 w]) [] (BG sG) (.b hv1 (.r rfl)))) ⟨.inr rfl,Gi,Gj,[],?_⟩⟩;rw[Eb,hf2]
    kernel_rfl
   |cons x l=>
    refine⟨by kernel_rfl,aK.step (e:=.exit 1) (by kernel_rfl) (zY (ps1:=⟨[(2,.val (.own 2)),(3,xl true),(6,.val (.iter 1))],[v.ps],[.iL (kV.im t),.dn 0 t.length (j::seen),.list false false 3 (x::l)]⟩) hX gy (by kernel_rfl) (.c (.dM [.agg v.ps,.int .i64 w]) [] (BG sG) (.b hv1 (.r rfl)))) ⟨.inr rfl,Gi,Gj,[],?_⟩⟩;rw[Eb,hf2]
    kernel_rfl
theorem EG:∀l:List Int,iQ (EO X0 3 l)=some (l.map fun n=>TV.int .i64 n)
 | []=>rfl
 |a::l=>by
  have:=EG l;show(match rH (PV.int .i64 a:PV aG),iQ (EO X0 3 l)with
   |some a,some b=>some (a::b)
   |_,_=>none)=_
  rw[this];rfl
theorem a4k{nK:Bool}{b:Bool}{Hs:List (PB aG)}:a4b X0 Qp nK (.dM [.nil .slc,.bool b]) Hs (fun _=>.dM [.nil .slc,.bool b]) []:=fun A m h h1 w hr hw _=>by
 cases hw with
 |gone hi _ _=>simp[bn]at hi
 |dM a1 a2=>
  obtain⟨x,r,rfl,v0,v1⟩:=Pv.bY.inv (⟨a1,a2⟩:Pv.bY X0 Qp _ _ _ _ _);obtain⟨y,r,rfl,v2,v3⟩:=v1.inv;have:=v3.inv0;subst this;have:=jT v2 (show qy (PV.bool b:PV aG)=some (TV.bool b)from rfl);subst this;have:=jT v0 (show qy (PV.nil .slc:PV aG)=some (TV.nil .slc)from rfl);subst this;unfold Om;simp only[BX,BX.F9,wV,nV,nV.zB,D7,UA,LG,a4D,abV,a5R,a0B]
set_option maxRecDepth 20000 in
theorem adP(h:JQ t):(mM t=[]->aW X0 Qp (bT (n+2)) (.fn 88 [] []) [.map 0] [.iL (kV.im t)] (.dM [.nil .slc,.bool (uU t)]) [.iL (kV.im t)]) ∧
  (mM t≠[]->aW X0 Qp (bT (n+2)) (.fn 88 [] []) [.map 0] [.iL (kV.im t)] (.dM [.own 1,.bool (uU t)]) [.iL (kV.im t),.list false false 3 (mM t)]):=by
 have e0:(U2 Qp 88).body=.seq (eH a0q) (.seq (.seq (eH (eH (eP a0q))) (.block 0 (.loop lpB))) (eP (eP a0q))):=by kernel_rfl
 have x0:dS X0 Qp T (bT (n+1)) LL 88 false (Cj Qp 88) 1 (eH a0q) ⟨lG X0 0 [.map 0],[],[.iL (kV.im t)]⟩ .norm ⟨[(0,.val (.map 0)),(2,.val (.nil .slc)),(3,xl false)],[],[.iL (kV.im t)]⟩:=zY hX gy (an:=.n) (by kernel_rfl) (.r rfl);have x1:dS X0 Qp T (bT (n+1)) LL 88 false (Cj Qp 88) 1 (eH (eH (eP a0q))) ⟨[(0,.val (.map 0)),(2,.val (.nil .slc)),(3,xl false)],[],[.iL (kV.im t)]⟩ .norm ⟨[(2,.val (.nil .slc)),(3,xl false),(6,.val (.iter 1))],[],[.iL (kV.im t),.dn 0 (kV.im t).length []]⟩:=zY hX gy (an:=.n) (by kernel_rfl) (.r rfl);rw[kV.qg t]at x1;have run:∀Q:Ex->aS aG->Prop,(∀l seen,gY l=mM t->aK X0 Qp T (bT (n+1)) (vg Qp T (bT (n+1)) LL) LL 88 (Cj Qp 88) 1 (eP (eP a0q)) { sBl t l (uU t) seen with env:=jm (T.iG 88 2) ((8,.val (.bool false))::(7,.val (.dM [.bool false]))::(sBl t l (uU t) seen).env) } Q) ->
   aK X0 Qp T (bT (n+1)) (vg Qp T (bT (n+1)) LL) LL 88 (Cj Qp 88) 1 (U2 Qp 88).body ⟨lG X0 0 [.map 0],[],[.iL (kV.im t)]⟩ Q:=fun Q hQ=>by
  rw[e0];refine aK.BF (by kernel_rfl) x0 (aK.seq (R:=fun e s=>e=.norm∧∃l seen,gY l=mM t∧s={ sBl t l (uU t) seen with env:=jm (T.iG 88 2) ((8,.val (.bool false))::(7,.val (.dM [.bool false]))::(sBl t l (uU t) seen).env) }) (aK.BF (by kernel_rfl) x1 (abk (n:=n) h)) (fun s hs=>?_) (fun i s h=>by cases h.1) (fun s h=>by cases h.1));obtain⟨_,l,seen,h1,rfl⟩:=hs;exact hQ l seen h1
 have hlen:∀l:List Int,gY l=mM t->l.length<=2^20:=fun l hl=>by
  have h1:(gY l).length=l.length:=by unfold gY;rw[aa6]
  have h2:(mM t).length<=t.length:=by
   unfold mM gY;rw[aa6,a4K];exact a9l ..
  have:=h.len;rw[hl]at h1;omega
 have aqd:gY []=([]:List Int):=by simp[gY]
 constructor
 .intro hn;have:=DY (X:=X0) (P:=Qp) (T:=T) (L:=LL) (n:=n+1) (f:=88) (first:=[]) (cap:=[]) (xs:=[.map 0]) (H:=[.iL (kV.im t)]) (N:=[]) (v:=.dM [.nil .slc,.bool (uU t)]) (tv:=fun _=>.dM [.nil .slc,.bool (uU t)]) (tN:=[]) (t:=U2 Qp 88) hX (by kernel_rfl) (by kernel_rfl) (by kernel_rfl) rfl (fun A m h hr=>⟨m,by simpa using hr,Pv.bY.cons (.nil .slc) (.cons (.bool _) .nil) |> fun h=>.dM h.1 h.2,by simpa using Fr.refl,.refl⟩) (run _ fun l seen hl=>?_)
  .exact this
  .rw[hn]at hl;have qU:l=[]:=by
    have h1:(gY l).length=l.length:=by unfold gY;rw[aa6]
    rw[hl]at h1;exact a4a h1.symm
   subst qU;exact aK.step (by kernel_rfl) (zY (e:=.ret) (ps1:=⟨[(2,.val (.nil .slc)),(3,xl (uU t))],[],[.iL (kV.im t),.dn 0 t.length seen]⟩) hX gy (by kernel_rfl) (.fr [] (agh (n:=n)) (.r rfl))) ⟨.inr rfl,[.nil .slc,.bool (uU t)],by kernel_rfl,a4k⟩
 .intro hn;have:=DY (X:=X0) (P:=Qp) (T:=T) (L:=LL) (n:=n+1) (f:=88) (first:=[]) (cap:=[]) (xs:=[.map 0]) (H:=[.iL (kV.im t)]) (N:=[.list false false 3 (mM t)]) (v:=.dM [.own 1,.bool (uU t)]) (tv:=fun n=>.dM [.slc n 0 (mM t).length (mM t).length 1 false,.bool (uU t)]) (tN:=[.cells .last ((mM t).map fun n=>TV.int .i64 n)]) (t:=U2 Qp 88) hX (by kernel_rfl) (by kernel_rfl) (by kernel_rfl) rfl (fun A m h hr=>abf hX (H:=[.iL (kV.im t)]) (ty:=3) (l:=mM t) hn (EG _) KX (by decide) (fun _ _ _=>rfl) rfl hr) (run _ fun l seen hl=>?_)
  .exact this
  .cases l with
   |nil=>rw[aqd]at hl;exact absurd hl.symm hn
   |cons x l=>
    have hs:=ad9 (n:=n) (k:=false) (ex:=false) (x::l) (hlen _ hl);rw[hl]at hs;exact aK.step (by kernel_rfl) (zY (e:=.ret) (ps1:=⟨[(2,.val (.own 2)),(3,xl (uU t))],[],[.iL (kV.im t),.dn 0 t.length seen,.list false false 3 (mM t)]⟩) hX gy (by kernel_rfl) (.fr [2] hs (.r rfl))) ⟨.inr rfl,[.own 2,.bool (uU t)],by kernel_rfl,a8l hX (i:=2) (ty:=3) (l:=mM t) rfl hn (EG _) KX rfl⟩
end
open Go Tw Pv bZ
abbrev vF:PV aG:=.fn 139 [] [.ptr 1 0 1]
abbrev a8x:Code:=(U2 Qp 138).body
abbrev agi:Code:=(U2 Qp 139).body
abbrev lpW:Code:=eH (eH (eP agi))
abbrev xW:Code:=eH (eP (eP lpW))
abbrev a8y:List (Nat×PE aG):=[(2,.val (.ptr 2 0 1)),(4,.val (.nil .slc)),(6,.val vF)]
abbrev Qq(rd:Bool)(jP:Option Code):PB aG:=.loop rd 138 (Cj Qp 138) a8y [7] (xG Qp 138) (Bf Qp 138) jP
abbrev H3(t:List (V×Int))(x:PV aG):List (PB aG):=[.iL (kV.im t),.aF [.map 0],.cells [x]]
theorem one_le(w:Int):[w].length<=ah:=by rw[a3J];unfold ah;omega
theorem aqe{n:Nat}(t:List (V×Int))(w:Int):aW X0 Qp (bT (n+1)) (.kZ 4) [.int .i64 w] (H3 t (.nil .slc)++[.mark,Qq true none]) (.bool true) (H3 t (.own 6)++[.mark,Qq true none,.list true true 3 [w],.list true false 3 [w]]):=by
 have q1:dS X0 Qp T (bT n) LL 138 true (Cj Qp 138) 5 (xG Qp 138) ⟨uF a8y [7] [.int .i64 w],[],H3 t (.nil .slc)++[.mark,Qq true none]⟩ .norm ⟨[(2,.val (.ptr 2 0 1)),(5,xi w)],[],H3 t (.nil .slc)++[.mark,Qq true none]⟩:=yG hX gy (by kernel_rfl) .xx;have q2:dS X0 Qp T (bT n) LL 138 true (Cj Qp 138) 5 (Bf Qp 138) ⟨[(2,.val (.ptr 2 0 1)),(5,xi w)],[],H3 t (.nil .slc)++[.mark,Qq false none]⟩ .norm ⟨[],[],H3 t (.own 6)++[.mark,Qq false none,.list true true 3 [w],.list true false 3 [w]]⟩:=yG hX gy (by kernel_rfl) (.o (one_le w) .xx);exact I7 hX (l:=4) rfl rfl (by kernel_rfl) q1 rfl q2 rfl
theorem aqf{n:Nat}(t:List (V×Int))(l:List Int)(w:Int)(hl:l.length+[w].length<=ah):aW X0 Qp (bT (n+1)) (.kZ 4) [.int .i64 w] (H3 t (.own 5)++[.mark,Qq true none,.list false false 3 l]) (.bool true) (H3 t (.own 7)++[.mark,Qq true none,.gone,.list true true 3 [w],.list false false 3 (l++[w])]):=by
 have q1:dS X0 Qp T (bT n) LL 138 true (Cj Qp 138) 6 (xG Qp 138) ⟨uF a8y [7] [.int .i64 w],[],H3 t (.own 5)++[.mark,Qq true none,.list false false 3 l]⟩ .norm ⟨[(2,.val (.ptr 2 0 1)),(5,xi w)],[],H3 t (.own 5)++[.mark,Qq true none,.list false false 3 l]⟩:=yG hX gy (by kernel_rfl) .xx;have q2:dS X0 Qp T (bT n) LL 138 true (Cj Qp 138) 6 (Bf Qp 138) ⟨[(2,.val (.ptr 2 0 1)),(5,xi w)],[],H3 t (.own 5)++[.mark,Qq false none,.list false false 3 l]⟩ .norm ⟨[],[],H3 t (.own 7)++[.mark,Qq false none,.gone,.list true true 3 [w],.list false false 3 (l++[w])]⟩:=yG hX gy (by kernel_rfl) (.o hl .xx);exact I7 hX (l:=4) rfl rfl (by kernel_rfl) q1 rfl q2 rfl
def ES(t:List (V×Int))(js:List Nat):List Int:=js.reverse.map fun j=>(Qo t j).2
theorem a4l(t:List (V×Int))(j:Nat)(js:List Nat):ES t (j::js)=ES t js++[(Qo t j).2]:=by simp[ES]
abbrev sWl(t:List (V×Int))(l:List Int)(js:List Nat):aS aG:=match l with
 | []=>⟨[(0,.val (.kZ 4)),(6,.val (.iter 5))],[],H3 t (.nil .slc)++[.mark,Qq true none,.dn 0 t.length js]⟩
 |x::l=>⟨[(0,.val (.kZ 4)),(6,.val (.iter 5))],[],H3 t (.own 6)++[.mark,Qq true none,.dn 0 t.length js,.list false false 3 (x::l)]⟩
section
variable {n:Nat} {t:List (V×Int)}
set_option maxRecDepth 20000 in
theorem abl(h:JQ t):aK X0 Qp T (bT (n+1)) D6 LL 139 (Cj Qp 139) 5 (.block 0 (.loop lpW)) (sWl t [] [])
  fun e s=>e=.norm∧∃l seen,l.Perm (t.map (·.2))∧s={ sWl t l seen with env:=jm (T.iG 139 1) ((8,.val (.bool false))::(7,.val (.dM [.bool false]))::(sWl t l seen).env) }:=by
 have e1:lpW=.seq (.region 1 (a8m (eH lpW)) false) (.seq (.cond (.tmp 8) .skip (.exit 0)) (.block 1 xW)):=by kernel_rfl
 have hlen:=h.len;rw[e1];refine Qk hX (n:=t.length) (b:=5) (r:=0) (it:=6) (nx:=7) (mo:=8) (es:=kV.im t) (fun seen s=>seen.Nodup∧(∀j∈seen,j<t.length)∧∃gs,lN 5 gs (gW X0 (T.eU 139 (dZ lpW)) s)=some (sWl t (ES t seen) seen)) (by kernel_rfl) (a7e (by kernel_rfl)) (a7e (by kernel_rfl)) (kV.qg t) (by unfold LL;omega)
  ⟨a5v,(fun j hj=>(by cases hj)),[],(by kernel_rfl)⟩ (fun seen s hi=>?_)
 obtain⟨jH,aQ,gs,h3⟩:=hi;rw[<-e1];refine⟨gs,_,h3,?_,?_,?_,fun ho=>?_,fun j e hj he=>?_⟩
 .cases ES t seen<;>kernel_rfl
 .cases ES t seen<;>kernel_rfl
 .cases ES t seen<;>kernel_rfl
 .refine⟨?_,ES t seen,seen,?_,rfl⟩
  .cases ES t seen<;>kernel_rfl
  .have hp:(seen.reverse).Perm (List.range t.length):=(List.reverse_perm seen).trans ((a6L jH ae5).2 fun j=>⟨fun h=>a4L.2 (aQ j h),fun h=>ho j (a4L.1 h)⟩);unfold ES
   conv=>rhs;rw[agc t]
   rw[a5D];exact hp.map _
 .rw[kV.BA,a07]at he;obtain⟨⟨v,w⟩,sG,rfl⟩:=he;obtain⟨q1,q2,q3⟩:=VL sG;have Gi:(j::seen).Nodup:=a4J.2 ⟨hj,jH⟩;have Gj:∀k∈j::seen,k<t.length:=fun k hk=>by
   rcases a1J.1 hk with rfl|hk
   .exact q2
   .exact aQ k hk
  have hll:(ES t seen).length<=2000:=by
   have h2:seen.length<=t.length:=by
    have:=(JM jH aQ).length_eq;have h3:=a9l (fun j=>seen.contains j) (List.range t.length);rw[a9a]at h3;omega
   have h1:(ES t seen).length=seen.length:=(by simp[ES]);omega
  have Eb:=a4l t j seen;rw[q1]at Eb;have Eb:ES t (j::seen)=ES t seen++[w]:=Eb;generalize ES t seen=l at Eb hll;cases l with
  |nil=>
   refine⟨by kernel_rfl,aK.step (e:=.norm) (by kernel_rfl) (zY (ps1:=⟨[(0,.val (.kZ 4)),(6,.val (.iter 5)),(14,xl false)],[],H3 t (.own 7)++[.mark,Qq true none,.dn 0 t.length (j::seen),.list true true 3 [w],.list true false 3 [w]]⟩) hX gy (by kernel_rfl) (.c (.dM [.agg v.ps,.int .i64 w]) [] (BG sG) (.fr [0,1,2,3,4] (aqe (n:=n) t w) (.b (rfl:(!true)=false) (.r rfl))))) ⟨.inl rfl,Gi,Gj,[.flag 7,.gc [5,7]],?_⟩⟩;rw[Eb]
   kernel_rfl
  |cons x l=>
   have a1:(x::l).length+[w].length<=ah:=by rw[a3J];unfold ah;omega
   refine⟨by kernel_rfl,aK.step (e:=.norm) (by kernel_rfl) (zY (ps1:=⟨[(0,.val (.kZ 4)),(6,.val (.iter 5)),(14,xl false)],[],H3 t (.own 8)++[.mark,Qq true none,.dn 0 t.length (j::seen),.gone,.list true true 3 [w],.list false false 3 (x::l++[w])]⟩) hX gy (by kernel_rfl) (.c (.dM [.agg v.ps,.int .i64 w]) [] (BG sG) (.fr [0,1,2,3,4,6] (aqf (n:=n) t (x::l) w a1) (.b (rfl:(!true)=false) (.r rfl))))) ⟨.inl rfl,Gi,Gj,[.gc [5,8]],?_⟩⟩;rw[Eb]
   kernel_rfl
end
open Go Tw Pv bZ
def sD(t:List (V×Int)):List Int:=zC (fun n=>[n]) (t.map fun e:V×Int=>e.2)
abbrev Rh(n:Int):TV:=.int .i64 n
abbrev LU(n:Int):PV aG:=.int .i64 n
theorem a4m{t:List (V×Int)}{l:List Int}(h:l.Perm (t.map fun e:V×Int=>e.2)):Sl (l.map Rh)=(sD t).map Rh:=by
 unfold Sl;rw[TU (g:=Rh) (key:=fun n=>[n]) (a8a:=S9) (fun _=>rfl),Fq h fun a _ b _ e=>by simpa using e];rfl
theorem JR:∀l:List Int,UF (l.map LU)=some (l.map Rh)
 | []=>rfl
 |a::l=>by
  have:=JR l;show(match qy (LU a),UF (l.map LU)with
   |some a,some b=>some (a::b)
   |_,_=>none)=_
  rw[this];rfl
section
variable {n:Nat} {t:List (V×Int)}
set_option maxRecDepth 20000 in
theorem al2(h:JQ t)(ht:t≠[]):abb X0 Qp (vg Qp T (bT (n+1)) LL) vF [.kZ 4] (H3 t (.nil .slc)++[.mark,Qq true none]) fun v H1=>∃(l:List Int) (seen:List Nat),l.Perm (t.map fun e:V×Int=>e.2)∧H1=H3 t (.own 6)++[.mark,Qq true none,.dn 0 t.length seen,.list false false 3 l]:=by
 refine a2m (t:=U2 Qp 139) hX (by kernel_rfl) ?_;have e0:(U2 Qp 139).body=.seq (eH agi) (.block 0 (.loop lpW)):=by kernel_rfl
 rw[e0];have x0:dS X0 Qp T (bT (n+1)) LL 139 false (Cj Qp 139) 5 (eH agi) ⟨lG X0 0 [.kZ 4,.ptr 1 0 1],[],H3 t (.nil .slc)++[.mark,Qq true none]⟩ .norm ⟨[(0,.val (.kZ 4)),(6,.val (.iter 5))],[],H3 t (.nil .slc)++[.mark,Qq true none,.dn 0 (kV.im t).length []]⟩:=zY hX gy (an:=.n) (by kernel_rfl) (.r rfl);rw[kV.qg t]at x0;refine aK.BF (by kernel_rfl) x0 ((abl (n:=n) h).mono fun e s h1=>?_);obtain⟨rfl,l,seen,h2,rfl⟩:=h1;cases l with
 |nil=>
  have:=h2.length_eq;rw[a4K]at this;exact absurd (a4a this.symm) ht
 |cons x l=>exact⟨.inl rfl,[],by kernel_rfl,x::l,seen,h2,rfl⟩
set_option maxRecDepth 20000 in
theorem abm(h:JQ t)(ht:t≠[]):aW X0 Qp (bT (n+2)) (.fn 138 [] []) [.nil .slc,vF] [.iL (kV.im t),.aF [.map 0]] (.slc 2 0 t.length t.length 1 false) [.iL (kV.im t),.aF [.map 0],.nK ((sD t).map LU)]:=by
 have e0:(U2 Qp 138).body=.seq (eH a8x) (.seq (.seq (eH (eH (eP a8x))) (.block 0 (.rangeFunc (.tmp 6) #[7] (xG Qp 138) (Bf Qp 138)))) (eP (eP a8x))):=by kernel_rfl
 have x0:dS X0 Qp T (bT (n+1)) LL 138 false (Cj Qp 138) 2 (eH a8x) ⟨lG X0 0 [.nil .slc,vF],[],[.iL (kV.im t),.aF [.map 0]]⟩ .norm ⟨[(1,.val vF),(2,.val (.ptr 2 0 1)),(4,.val (.nil .slc))],[],H3 t (.nil .slc)⟩:=zY hX gy (an:=.n) (by kernel_rfl) (.r rfl);have x1:dS X0 Qp T (bT (n+1)) LL 138 false (Cj Qp 138) 2 (eH (eH (eP a8x))) ⟨[(1,.val vF),(2,.val (.ptr 2 0 1)),(4,.val (.nil .slc))],[],H3 t (.nil .slc)⟩ .norm ⟨a8y,[],H3 t (.nil .slc)⟩:=zY hX gy (an:=.n) (by kernel_rfl) (.r rfl);have:=DY (X:=X0) (P:=Qp) (T:=T) (L:=LL) (n:=n+1) (f:=138) (first:=[]) (cap:=[]) (xs:=[.nil .slc,vF]) (H:=[.iL (kV.im t),.aF [.map 0]]) (N:=[.nK ((sD t).map LU)]) (v:=.slc 2 0 t.length t.length 1 false) (tv:=fun k=>.slc k 0 t.length t.length 1 false) (tN:=[.nK ((sD t).map Rh)]) (t:=U2 Qp 138) hX (by kernel_rfl) (by kernel_rfl) (by kernel_rfl) rfl (fun A m h hr=>abe (H:=[.iL (kV.im t),.aF [.map 0]]) (n:=t.length) (sz:=1) (JR _) hr) ?_
 .exact this
 rw[e0];refine aK.BF (by kernel_rfl) x0 (aK.seq (R:=fun e s=>e=.norm∧∃(l:List Int) (seen:List Nat),l.Perm (t.map fun e:V×Int=>e.2)∧s=⟨a8y,[],H3 t (.own 6)++[.mark,Qq false (some .skip),.dn 0 t.length seen,.list false false 3 l]⟩) (aK.BF (by kernel_rfl) x1 (aK.block ?_)) (fun s hs=>?_) (fun i s h=>by cases h.1) (fun s h=>by cases h.1))
 .refine aK.range (f1:=139) (a1:=[]) (b1:=[.ptr 1 0 1]) (K:=fun v H1=>∃(l:List Int) (seen:List Nat),l.Perm (t.map fun e:V×Int=>e.2)∧H1=H3 t (.own 6)++[.mark,Qq true none,.dn 0 t.length seen,.list false false 3 l]) hX rfl (by kernel_rfl) (by kernel_rfl) (al2 (n:=n) h ht) (fun v H1 hk=>?_);obtain⟨l,seen,h1,rfl⟩:=hk;exact⟨true,_,_,_,_,_,_,none,.norm,rfl,rfl,rfl,l,seen,h1,rfl⟩
 obtain⟨_,l,seen,h1,rfl⟩:=hs;have hl:l≠[]:=fun e=>by
  subst e;have:=h1.length_eq;rw[a4K]at this;exact absurd (a4a this.symm) ht
 have hlen:t.length=l.length:=by rw[h1.length_eq,a4K]
 refine aK.step (by kernel_rfl) (zY (e:=.ret) (ps1:=⟨[(4,.val (.own 6))],[],H3 t (.own 6)++[.mark,Qq false (some .skip),.dn 0 t.length seen,.list false false 3 l]⟩) hX gy (an:=.n) (by kernel_rfl) (.r rfl)) ⟨.inr rfl,[.own 6],by kernel_rfl,?_⟩;rw[<-a4m h1,hlen];exact a8k hX (i:=6) (ty:=3) (l:=l) rfl hl (EG _) KX
end
def Qr:List Int->Int
 | []=>0
 |x::l=>l.foldl max x
theorem Yw:∀(l:List Int) (x:Int),(l.foldl max x=x∨l.foldl max x∈l)∧x<=l.foldl max x∧∀y∈l,y<=l.foldl max x
 | [],x=>⟨.inl rfl,a9s _,fun y hy=>by cases hy⟩
 |a::l,x=>by
  obtain⟨h1,h2,h3⟩:=Yw l (max x a);rw[adE];have hm:max x a=x∨max x a=a:=by omega
  refine⟨?_,by omega,fun y hy=>?_⟩
  .rcases h1 with h1|h1
   .rcases hm with e|e
    .exact .inl (h1.trans e)
    rw[h1,e];exact .inr (by simp)
   exact .inr (by simp[h1])
  rcases a1J.1 hy with rfl|hy
  .omega
  exact h3 y hy
theorem Yx{l:List Int}(h:l≠[]):Qr l∈l∧∀y∈l,y<=Qr l:=by
 cases l with
 |nil=>exact absurd rfl h
 |cons x l=>
  obtain⟨h1,h2,h3⟩:=Yw l x;refine⟨?_,fun y hy=>?_⟩
  .rcases h1 with h1|h1
   .show l.foldl max x∈_;rw[h1];simp
   exact a2U _ h1
  rcases a1J.1 hy with rfl|hy
  .exact h2
  exact h3 y hy
theorem a4n{l l':List Int}(h:l.Perm l')(hl:l≠[]):Qr l=Qr l':=by
 have hl':l'≠[]:=fun e=>by subst e;exact hl h.eq_nil
 obtain⟨a1,a2⟩:=Yx hl;obtain⟨b1,b2⟩:=Yx hl';have:=a2 _ (h.mem_iff.2 b1);have:=b2 _ (h.mem_iff.1 a1);omega
open Go Tw Pv bZ
abbrev ApM(n:Nat):bf:=lF Qp Tm (2^24) n
theorem okM{n:Nat}:jM X0 Qp (ApM n) aai:=fun _ _ _ _ _ h _=>by cases h
def gMx(l:List Int)(k:Nat)(m:Int):Int:=if l.getD (i64.wrap ((k:Int)+1)).toNat 0>m then l.getD (i64.wrap ((k:Int)+1)).toNat 0 else m
theorem a2r{x:Int}{r:List Int}(h:r.length<=ah):∀k,k<=r.length->aT (gMx (x::r)) k 0 x=(r.take k).foldl max x
 | 0,_=>rfl
 |k+1,hk=>by
  rw[uh,a2r h k (by omega)];unfold gMx;rw[a3H,yF (by omega),a4Z];have e:(x::r).getD (k+1) 0=r[k]'(by omega):=by simp[List.getD,a0b (show k<r.length by omega)]
  rw[e,a6t (by omega),List.foldl_append];simp only[adE,List.foldl_nil];omega
abbrev wMx(l:List Int)(m i:Int)(x:List (Nat×PE aG)):aS aG:=⟨[(0,xL 3 l),(3,xi m),(4,xi (i64.wrap (i+1)))]++x,[],[]⟩
set_option maxRecDepth 20000 in
theorem al4{l:List Int}(h0:l≠[])(hl:l.length<=2000):aW X0 Qp (ApM 2) (.fn 94 [] []) [.dF 3 l false] [] (.int .i64 (Qr l)) []:=by
 cases l with
 |nil=>exact absurd rfl h0
 |cons x r=>
  have hr:r.length<=ah:=by have:(x::r).length=r.length+1:=rfl;unfold ah;omega
  have lp:dS X0 Qp Tm (ApM 1) LL 94 false (Cj Qp 94) 0 (.loop (SX Qp 94 0)) ⟨[(0,xL 3 (x::r)),(3,xi x),(4,xi 1)],[],[]⟩ (.exit 0) (wMx (x::r) (aT (gMx (x::r)) r.length 0 x) r.length [(15,xl false)]):=by
   refine KQ (X:=X0) (N:=r.length) (g:=gMx (x::r)) (s0:=x) (st:=fun i m=>wMx (x::r) m i []) (fin:=fun m=>wMx (x::r) m r.length [(15,xl false)]) (fun _ _=>True) (by kernel_rfl) hr QU trivial (fun _ _ _ _=>trivial) (fun k m hk _ n e p g9=>?_) (fun m _=>?_)
   .have e1:i64.wrap ((k:Int)+1)=((k+1:Nat):Int):=yF (by omega);have t1:decide (i64.wrap ((k:Int)+1)<((x::r).length:Int))=true:=by rw[e1,a0N,a4v];omega
    have i1:gJ (i64.wrap ((k:Int)+1)) (x::r).length:=by rw[e1];exact aH (by rw[a4v];omega)
    exact round hX okM (by kernel_rfl) (.b t1 (.o i1 (.go g9)))
   have e1:i64.wrap ((r.length:Int)+1)=((r.length+1:Nat):Int):=yF (by omega);have t1:decide (i64.wrap ((r.length:Int)+1)<((x::r).length:Int))=false:=by rw[e1,a2H,a4v];omega
   exact round hX okM (by kernel_rfl) (.b t1 .ex)
  have e:aT (gMx (x::r)) r.length 0 x=Qr (x::r):=by
   rw[a2r hr _ (a0x _),aaE];rfl
  rw[e]at lp;have hc:((x::r).length:Int)=r.length+1:=by simp
  have t0:decide (((x::r).length:Int)<1)=false:=by rw[a2H,hc];omega
  have i0:gJ 0 (x::r).length:=⟨by decide,by rw[hc];omega⟩;exact rU hX okM (first:=[]) (cap:=[]) (by kernel_rfl) (.b t0 (.o i0 (.w lp .er)))
theorem abn(n:Nat)(x:TV)(h:List HB):lF Qp T LL (n+1) (.fn 94 [] []) [x] h=a3z 94 (ApM 2) (.fn 94 [] []) [x] h:=rfl
theorem al5{n:Nat}{vs:List Int}(h0:vs≠[])(hl:vs.length<=2000):aW X0 Qp (bT (n+1)) (.fn 94 [] []) [.slc 0 0 vs.length vs.length 1 false] [.nK (vs.map LU)] (.int .i64 (Qr vs)) [.nK (vs.map LU)]:=by
 intro A m h tf sJ hr hf hx;obtain⟨x,r,rfl,h1,h2⟩:=hx.inv;have:=h2.inv0;subst this;have htf:=hf.Va;subst htf;obtain⟨mb,g1,g2⟩:=hr.at_ 0 _ rfl;cases mb with
 |gu c=>
  obtain⟨ts,g3,g4⟩:=g2;have g5:=g4.symm.trans (JR vs);cases g5;have hx2:x=.slc c 0 vs.length vs.length 1 false:=by
   cases h1 with
   |slc e=>rw[g1]at e;cases e;rfl
   |gone hi e _=>simp only[bn,a04]at hi;subst hi;rw[g1]at e;cases e
  subst hx2;have G6:c∈bD m:=bg g1 rfl;have aQ:=(a05.1 g3).1;show ∃w h1 ws m1,lF Qp T LL (n+1) _ _ h=_∧_;rw[abn,aao (k:=.i64) (n:=Qr vs)]
  .exact⟨_,h,[],m,rfl,hr,.int _ _,.refl,.refl,fun b hb=>by cases hb⟩
  .refine⟨⟨_,_,rfl⟩,rfl,fun h' hu=>?_⟩;obtain⟨cs',p1,p2⟩:=hu.2 c _ g3;obtain⟨l,hp,rfl⟩:∃l:List Int,l.Perm vs∧cs'=l.map Rh:=by
    have hq:∀y∈cs',∃i:Int,y=Rh i:=fun y hy=>by
     obtain⟨i,_,rfl⟩:=a0H.1 (p1.mem_iff.1 hy);exact⟨i,rfl⟩
    have hun:∀L:List TV,(∀y∈L,∃i:Int,y=Rh i)->∃l:List Int,L=l.map Rh:=by
     intro L
     induction L with
     |nil=>exact fun _=>⟨[],rfl⟩
     |cons y L ih=>
      intro hL;obtain⟨i,rfl⟩:=hL y (by simp);obtain⟨l,rfl⟩:=ih fun z hz=>hL z (by simp[hz]);exact⟨i::l,rfl⟩
    obtain⟨l,rfl⟩:=hun cs' hq;refine⟨l,?_,rfl⟩;have:=p1.map fun y=>match y with|.int _ n=>n|_=>0
    rw[a5D,a5D]at this;simpa[Function.comp_def]using this
   have hlen:l.length=vs.length:=hp.length_eq;have qU:l≠[]:=fun e=>by subst e;exact h0 (a4a hlen.symm)
   have al6:h'.length=h.length:=by
    have e:=fun b=>Tn hu b;refine Nat.le_antisymm (acr fun hb=>?_) (acr fun hb=>?_)
    .have:=e h.length;rw[a0b hb,a4B (a0x _)]at this;cases this
    have:=e h'.length;rw[a0b hb,a4B (a0x _)]at this;cases this
   have hm:=al4 qU (by omega);have hvr:Pv.VR X0 Qp (AA A []) [] h' (.dF 3 l false) (.slc c 0 vs.length vs.length 1 false):=by
    rw[<-hlen];refine Pv.VR.dF (cs:=l.map Rh) ⟨hr.Di c G6,by simp[bD]⟩ (by simp only[aV,p2]) (fun _=>by simp[mQ,p2]) KX (by decide) (by simp;exact a0x _) (a0x _) (by intro h;cases h) ?_ ?_
    .intro j a _;rfl
    have hrw:=TB (A:=AA A []) (m:=[]) (h:=h') l;intro j a i c v a1 a2 a3;exact hrw.2.2 j a i c v a1 a2 a3
   obtain⟨w,h2,ws,m1,c1,c2,c3,c4,c5,c6⟩:=hm A [] h' (.fn 94 [] []) [.slc c 0 vs.length vs.length 1 false] ⟨rfl,fun i b hi=>by simp at hi,by simp[bD],fun b hb=>hr.up b (by rw[<-al6];exact hb),fun b hb=>by simp[bD]at hb⟩ (.fn rfl (fun i x y hi=>by simp at hi) rfl (fun i x y hi=>by simp at hi)) (.cons hvr .nil)
   .have hw:w=.int .i64 (Qr vs):=by
     rw[<-a4n hp qU];exact c3.a1C
    subst hw;have YR:ws=[]:=a6x.2 fun b hb=>by have:=c6 b hb;simp[bD]at this
    subst YR;exact⟨h2,c1⟩
  obtain⟨h',hu⟩:∃h',Pq h h':=⟨_,XE h (fun b=>match h[b]? with|some (.nK cs)=>cs|_=>[]) fun b cs e=>by rw[e]⟩;exact⟨h',hu⟩
 |_=>exact g2.elim
open Go Tw Pv bZ
theorem al7{n:Nat}(hO:Ok n qP){k:Int}(hk:0<=k∧k<=6):aW X0 Qp (bT (n+1)) (.fn 124 [] []) [.own 0,.int .i64 k] [.list true true 3 ([-1]:List Int)] (.own 1) [.list true true 3 ([-1]:List Int),.list true true 3 (List.replicate k.toNat (-1):List Int)]:=by
 rcases a7S hk with rfl|rfl|rfl|rfl|rfl|rfl|rfl
 .exact fV hO (first:=[]) (cap:=[]) (.b (rfl:decide ((0:Int)<0)=false) (.o (rfl:(1:Int)=1) (.o (⟨by decide,by decide⟩:(0:Int)<=0∧(0:Int)<=6) (.b (rfl:decide ((0:Int)>0)=false) (.b (rfl:decide ((0:Int)>9223372036854775807)=false) (.o (rfl:(0:Int)=0) (.o (show(0:Int)<=0 by decide) (.o (show(0:Int)<=(ah:Int) by decide) (.m 8 le8 (.b (rfl:decide ((0:Int)<0)=false) .er))))))))))
 .exact fV hO (first:=[]) (cap:=[]) (.b (rfl:decide ((1:Int)<0)=false) (.o (rfl:(1:Int)=1) (.o (⟨by decide,by decide⟩:(0:Int)<=1∧(1:Int)<=6) (.b (rfl:decide ((0:Int)>0)=false) (.b (rfl:decide ((1:Int)>9223372036854775807)=false) (.o (rfl:(1:Int)=1) (.o (show(0:Int)<=1 by decide) (.o (show(1:Int)<=(ah:Int) by decide) (.m 8 le8 (.b (rfl:decide ((1:Int)<1)=false) .er))))))))))
 .exact fV hO (first:=[]) (cap:=[]) (.b (rfl:decide ((2:Int)<0)=false) (.o (rfl:(1:Int)=1) (.o (⟨by decide,by decide⟩:(0:Int)<=2∧(2:Int)<=6) (.b (rfl:decide ((0:Int)>0)=false) (.b (rfl:decide ((2:Int)>9223372036854775807)=false) (.o (rfl:(2:Int)=2) (.o (show(0:Int)<=2 by decide) (.o (show(2:Int)<=(ah:Int) by decide) (.m 8 le8 (.b (rfl:decide ((1:Int)<2)=true) (.o (show(0:Int)<=1 by decide) (.o (show(1:Int)<=2 by decide) (.o (show(2:Int)<=2 by decide) (.o (show(0:Int)<=0 by decide) (.o (show(0:Int)<=1 by decide) (.o (show(1:Int)<=2 by decide) (.b (rfl:decide ((2:Int)<2)=false) .er)))))))))))))))))
 .exact fV hO (first:=[]) (cap:=[]) (.b (rfl:decide ((3:Int)<0)=false) (.o (rfl:(1:Int)=1) (.o (⟨by decide,by decide⟩:(0:Int)<=3∧(3:Int)<=6) (.b (rfl:decide ((0:Int)>0)=false) (.b (rfl:decide ((3:Int)>9223372036854775807)=false) (.o (rfl:(3:Int)=3) (.o (show(0:Int)<=3 by decide) (.o (show(3:Int)<=(ah:Int) by decide) (.m 8 le8 (.b (rfl:decide ((1:Int)<3)=true) (.o (show(0:Int)<=1 by decide) (.o (show(1:Int)<=3 by decide) (.o (show(3:Int)<=3 by decide) (.o (show(0:Int)<=0 by decide) (.o (show(0:Int)<=1 by decide) (.o (show(1:Int)<=3 by decide) (.b (rfl:decide ((2:Int)<3)=true) (.o (show(0:Int)<=2 by decide) (.o (show(2:Int)<=3 by decide) (.o (show(3:Int)<=3 by decide) (.o (show(0:Int)<=0 by decide) (.o (show(0:Int)<=2 by decide) (.o (show(2:Int)<=3 by decide) (.b (rfl:decide ((3:Int)<3)=false) .er))))))))))))))))))))))))
 .exact fV hO (first:=[]) (cap:=[]) (.b (rfl:decide ((4:Int)<0)=false) (.o (rfl:(1:Int)=1) (.o (⟨by decide,by decide⟩:(0:Int)<=4∧(4:Int)<=6) (.b (rfl:decide ((0:Int)>0)=false) (.b (rfl:decide ((4:Int)>9223372036854775807)=false) (.o (rfl:(4:Int)=4) (.o (show(0:Int)<=4 by decide) (.o (show(4:Int)<=(ah:Int) by decide) (.m 8 le8 (.b (rfl:decide ((1:Int)<4)=true) (.o (show(0:Int)<=1 by decide) (.o (show(1:Int)<=4 by decide) (.o (show(4:Int)<=4 by decide) (.o (show(0:Int)<=0 by decide) (.o (show(0:Int)<=1 by decide) (.o (show(1:Int)<=4 by decide) (.b (rfl:decide ((2:Int)<4)=true) (.o (show(0:Int)<=2 by decide) (.o (show(2:Int)<=4 by decide) (.o (show(4:Int)<=4 by decide) (.o (show(0:Int)<=0 by decide) (.o (show(0:Int)<=2 by decide) (.o (show(2:Int)<=4 by decide) (.b (rfl:decide ((4:Int)<4)=false) .er))))))))))))))))))))))))
 .exact fV hO (first:=[]) (cap:=[]) (.b (rfl:decide ((5:Int)<0)=false) (.o (rfl:(1:Int)=1) (.o (⟨by decide,by decide⟩:(0:Int)<=5∧(5:Int)<=6) (.b (rfl:decide ((0:Int)>0)=false) (.b (rfl:decide ((5:Int)>9223372036854775807)=false) (.o (rfl:(5:Int)=5) (.o (show(0:Int)<=5 by decide) (.o (show(5:Int)<=(ah:Int) by decide) (.m 8 le8 (.b (rfl:decide ((1:Int)<5)=true) (.o (show(0:Int)<=1 by decide) (.o (show(1:Int)<=5 by decide) (.o (show(5:Int)<=5 by decide) (.o (show(0:Int)<=0 by decide) (.o (show(0:Int)<=1 by decide) (.o (show(1:Int)<=5 by decide) (.b (rfl:decide ((2:Int)<5)=true) (.o (show(0:Int)<=2 by decide) (.o (show(2:Int)<=5 by decide) (.o (show(5:Int)<=5 by decide) (.o (show(0:Int)<=0 by decide) (.o (show(0:Int)<=2 by decide) (.o (show(2:Int)<=5 by decide) (.b (rfl:decide ((4:Int)<5)=true) (.o (show(0:Int)<=4 by decide) (.o (show(4:Int)<=5 by decide) (.o (show(5:Int)<=5 by decide) (.o (show(0:Int)<=0 by decide) (.o (show(0:Int)<=4 by decide) (.o (show(4:Int)<=5 by decide) (.b (rfl:decide ((5:Int)<5)=false) .er)))))))))))))))))))))))))))))))
 exact fV hO (first:=[]) (cap:=[]) (.b (rfl:decide ((6:Int)<0)=false) (.o (rfl:(1:Int)=1) (.o (⟨by decide,by decide⟩:(0:Int)<=6∧(6:Int)<=6) (.b (rfl:decide ((0:Int)>0)=false) (.b (rfl:decide ((6:Int)>9223372036854775807)=false) (.o (rfl:(6:Int)=6) (.o (show(0:Int)<=6 by decide) (.o (show(6:Int)<=(ah:Int) by decide) (.m 8 le8 (.b (rfl:decide ((1:Int)<6)=true) (.o (show(0:Int)<=1 by decide) (.o (show(1:Int)<=6 by decide) (.o (show(6:Int)<=6 by decide) (.o (show(0:Int)<=0 by decide) (.o (show(0:Int)<=1 by decide) (.o (show(1:Int)<=6 by decide) (.b (rfl:decide ((2:Int)<6)=true) (.o (show(0:Int)<=2 by decide) (.o (show(2:Int)<=6 by decide) (.o (show(6:Int)<=6 by decide) (.o (show(0:Int)<=0 by decide) (.o (show(0:Int)<=2 by decide) (.o (show(2:Int)<=6 by decide) (.b (rfl:decide ((4:Int)<6)=true) (.o (show(0:Int)<=4 by decide) (.o (show(4:Int)<=6 by decide) (.o (show(6:Int)<=6 by decide) (.o (show(0:Int)<=0 by decide) (.o (show(0:Int)<=4 by decide) (.o (show(4:Int)<=6 by decide) (.b (rfl:decide ((6:Int)<6)=false) .er)))))))))))))))))))))))))))))))
def bJ(D:List Dg):Jb:=⟨(D.getD 0 jU).aj,(D.getD 0 jU).aB,D,List.replicate (D.getD 0 jU).aj.length (-1)⟩
theorem al8{n f:Nat}(hO:Ok (n+1) qP)(Bc:Ok n qP){D:List Dg}(h0:0<D.length)(h6:(D.getD 0 jU).aj.length<=6){k ex:Bool}:aW X0 Qp (bT (n+2)) (.fn 78 [] []) [.fn f [] [],.own 0] [.list k ex 26 D] (.agg [lI (bJ D).s,lI (bJ D).o,.own 0,.own 1,.fn f [] []]) [.list k ex 26 D,.list true true 3 (bJ D).g]:=by
 have i0:gJ 0 D.length:=aH h0;have hs:=al7 Bc (k:=((D.getD 0 jU).aj.length:Int)) ⟨by omega,by omega⟩;rw[a4Z]at hs;have h:aW X0 Qp (bT (n+2)) (.fn 78 [] []) [.fn f [] [],.own 0] [.list k ex 26 D] (.agg [lI (bJ D).s,lI (bJ D).o,.own 0,.own 2,.fn f [] []]) [.list k ex 26 D,.list true true 3 ([-1]:List Int),.list true true 3 (bJ D).g]:=fV hO (first:=[]) (cap:=[]) (.o i0 (.o i0 (.o i0 (.fr [1] hs .er))));exact aW.gs hX h [.gc [2]] rfl
theorem al9{n f:Nat}(u:Int)(hO:Ok (n+1) qP)(Bc:Ok n qP){D:List Dg}(h0:0<D.length)(h6:(D.getD 0 jU).aj.length<=6){k ex:Bool}:aW X0 Qp (bT (n+2)) (.fn 78 [] []) [.fn f [] [.ptr 1 0 1],.own 0] [.list k ex 26 D,.aF [.int .u8 u]] (.agg [lI (bJ D).s,lI (bJ D).o,.own 0,.own 2,.fn f [] [.ptr 1 0 1]]) [.list k ex 26 D,.aF [.int .u8 u],.list true true 3 (bJ D).g]:=by
 have i0:gJ 0 D.length:=aH h0;have hs:=al7 Bc (k:=((D.getD 0 jU).aj.length:Int)) ⟨by omega,by omega⟩;rw[a4Z]at hs;have h:aW X0 Qp (bT (n+2)) (.fn 78 [] []) [.fn f [] [.ptr 1 0 1],.own 0] [.list k ex 26 D,.aF [.int .u8 u]] (.agg [lI (bJ D).s,lI (bJ D).o,.own 0,.own 3,.fn f [] [.ptr 1 0 1]]) [.list k ex 26 D,.aF [.int .u8 u],.list true true 3 ([-1]:List Int),.list true true 3 (bJ D).g]:=fV hO (first:=[]) (cap:=[]) (.o i0 (.o i0 (.o i0 (.fr [2] hs .er))));exact aW.gs hX h [.gc [3]] rfl
theorem aqi{n f:Nat}{J:Jb}{d:Dg}{k ex k2 LV:Bool}(h:aW X0 Qp (bT n) (.fn 80 [] []) [.agg (J.ps (.fn f [] []))] [] (dA.put d) []):aW X0 Qp (bT n) (.fn 80 [] []) [.agg [lI J.s,lI J.o,.own 0,.own 1,.fn f [] []]] [.list k ex 26 J.D,.list k2 LV 3 J.g] (dA.put d) [.gone,.gone]:=by
 have h1:=aW.frame hX (ks:=[]) (H':=[.gone,.gone]) (Hp:=[]) (Qy:=[]) (v':=dA.put d) (fv':=.fn 80 [] []) (xs':=[.agg (J.ps (.fn f [] []))]) h (by decide) rfl rfl rfl rfl rfl rfl rfl;exact aW.fz hX (H:=[.list k ex 26 J.D,.list k2 LV 3 J.g]) (cs:=[lI J.s,lI J.o,.own 0,.own 1]) (rest:=[.fn f [] []]) [0,1] h1 rfl (fun i hi=>by simpa[lu.kH,lu]using hi)
theorem aqj{n f:Nat}{u:Int}{J:Jb}{d:Dg}{k ex k2 LV:Bool}(h:aW X0 Qp (bT n) (.fn 80 [] []) [.agg (J.ps (.fn f [] [.ptr 0 0 1]))] [.aF [.int .u8 u]] (dA.put d) [.aF [.int .u8 u]]):aW X0 Qp (bT n) (.fn 80 [] []) [.agg [lI J.s,lI J.o,.own 0,.own 2,.fn f [] [.ptr 1 0 1]]] [.list k ex 26 J.D,.aF [.int .u8 u],.list k2 LV 3 J.g] (dA.put d) [.gone,.aF [.int .u8 u],.gone]:=by
 have h1:=aW.frame hX (ks:=[1]) (H':=[.gone,.aF [.int .u8 u],.gone]) (Hp:=[.aF [.int .u8 u]]) (Qy:=[.aF [.int .u8 u]]) (v':=dA.put d) (fv':=.fn 80 [] []) (xs':=[.agg (J.ps (.fn f [] [.ptr 1 0 1]))]) h (by decide) rfl rfl rfl rfl rfl rfl rfl;exact aW.fz hX (H:=[.list k ex 26 J.D,.aF [.int .u8 u],.list k2 LV 3 J.g]) (cs:=[lI J.s,lI J.o,.own 0,.own 2]) (rest:=[.fn f [] [.ptr 1 0 1]]) [0,2] h1 rfl (fun i hi=>by simpa[lu.kH,lu]using hi)
open Go Tw Pv bZ
structure DgG(d:Dg):Prop where
 t:C9 d
 n:d.au.length<=6000
 ord:kD d.aj.length d.aB=true
 rk:∀i,i<d.au.length->∀k,k<(fB d i).aA.length->d.aB.idxOf (fB d i).var+1<=EP d.aB d.au ((fB d i).aA.getD k 0)
 two:∀i,i<d.au.length->2<=(fB d i).aA.length
 c:∀v∈d.aI,Ci v
 dd:DgD d
 l0:aX d=0
theorem VN{d:Dg}(hp:nI d)(h:iH d=0):DgG d:=by
 have h0:aX d=0∧oK d=true:=by
  unfold iH at h;split at h
  .rename_i c;rw[h]at c;cases c
  rename_i c;split at h
  .cases h
  rename_i c2;exact⟨by simpa using c,by simpa using c2⟩
 have ho:d.aB.length<=ah:=by have:=hp.o;unfold ah;omega
 have he:d.aI.length<=ah:=by have:=hp.e;omega
 obtain⟨t,n⟩:=iJ ho he (by rw[h0.1];rfl);obtain⟨D,_⟩:=Y1.1 h0.2;have hf:bV d.aj d.aB=0∧mD d=true:=by
  have hl:=h0.1;unfold aX at hl;split at hl
  .rename_i c;rw[hl]at c;cases c
  rename_i c;split at hl
  .cases hl
  split at hl
  .cases hl
  rename_i _ c2;exact⟨by simpa using c,by simpa using c2⟩
 obtain⟨bU,ord⟩:=jV.1 hf.1;refine⟨t,n,ord,Y8 h0.1,fun i hi=>?_,fun v hv=>?_,D,h0.1⟩
 .have:=D.flat i hi;rcases hk:(fB d i).aA with _|⟨a,_|⟨b,r⟩⟩
  .rw[hk]at this;simp at this
  .rw[hk]at this;simp at this
  simp
 refine⟨?_,hp.r.fault v hv⟩;have hl:=hf.2;unfold mD at hl;obtain⟨k,hk,e⟩:=a9h hv;have hs:jZ (bG (cLe d) d.aI.length)=true:=by
  revert hl;cases jZ (bG (cLe d) d.aI.length)<;>simp
 have:=dI.1 hs k hk;unfold cLe at this;rw[a2K,a0b hk]at this;simpa[e]using this
theorem VO{l:List Dg}(hp:∀d∈l,nI d)(h:aY l=0):∀d∈l,DgG d∧d.aj=(l.getD 0 jU).aj∧d.aB=(l.getD 0 jU).aB:=by
 intro d hd;unfold aY at h;split at h
 .rename_i c;split at h
  .cases h
  rename_i c2;simp only[ae1,abU,a4R]at c2;have e:=c2 d hd;unfold yJ at e;split at e
  .rename_i e1;refine⟨VN (hp d hd) ?_,by simpa using e1,by simpa using e⟩;obtain⟨k,hk,e9⟩:=a9h hd;have:=dI.1 c k hk;unfold cCk at this;rw[a2K,a0b hk,a5i,e9]at this;have h9:=hp d hd;rw[Ij h9.r h9.s (by have:=h9.o;unfold ah;omega) h9.e]at this;simpa using this
  cases e
 rename_i c;obtain⟨j,_,e,_,e2⟩:=Ba (by simpa using c);rw[e2]at h;unfold cCk at e;have h':(uG (l.getD j jU)).2=0:=h;rw[h']at e;cases e
theorem adQ{D:List Dg}(h3:D.length<=3)(h0:0<D.length)(h1:∀d∈D,DgG d∧d.aj=(D.getD 0 jU).aj∧d.aB=(D.getD 0 jU).aB):jq (bJ D):=by
 have Ru:D.getD 0 jU∈D:=dK h0;obtain⟨g0,_,_⟩:=h1 _ Ru;refine⟨h3,g0.t.bU,g0.ord,fun k hk=>?_,a7Y,fun c hc hg=>?_⟩
 .obtain⟨g,e1,e2⟩:=h1 (lC D k) (dK hk);exact⟨g.t,g.n,e1,e2,g.rk,g.two⟩
 exfalso;revert hg;show ¬(0<=(List.replicate (D.getD 0 jU).aj.length (-1:Int)).getD c.toNat 0);have:=hc.1;have:=hc.2;rw[a2K,adv,a0u (show c.toNat<(D.getD 0 jU).aj.length by have:c<((D.getD 0 jU).aj.length:Int):=hc.2;omega)];decide
theorem uq{D:List Dg}(h3:D.length<=3)(h0:0<D.length)(hp:∀d∈D,nI d)(h:aY D=0):jq (bJ D):=adQ h3 h0 (VO hp h)
open Go Tw Pv bZ
theorem E5{J:Jb}(hJ:jq J)(hc:∀k,k<J.D.length->∀v∈(lC J.D k).aI,Ci v){op:List V->V}(h:∀l:List V,l.length=J.D.length->(∀v∈l,Ci v)->Ci (op l)):oL J op:=fun t hd=>h _ (by simp[aU]) fun v hv=>by
 unfold aU at hv;obtain⟨k,hk,rfl⟩:=a0H.1 hv;have hk:=a4L.1 hk;have h3:(jL (t.get k)).toNat<(lC J.D k).aI.length:=by
  obtain⟨h1,h2⟩:=(JF hJ hd hk).2;omega
 exact hc k hk _ (dK h3)
theorem Jb.inD{D:List Dg}(hp:∀d∈D,nI d)(h:aY D=0):∀k,k<D.length->∀v∈(lC D k).aI,Ci v:=fun k hk=>(VO hp h _ (dK hk)).1.c
theorem JU{n f:Nat}(h2:2<=n)(hO:∀m,n-2<=m->Ok m qP){D:List Dg}(h0:0<D.length)(h6:(D.getD 0 jU).aj.length<=6){k ex:Bool}:aW X0 Qp (bT n) (.fn 78 [] []) [.fn f [] [],.own 0] [.list k ex 26 D] (.agg [lI (bJ D).s,lI (bJ D).o,.own 0,.own 1,.fn f [] []]) [.list k ex 26 D,.list true true 3 (bJ D).g]:=by
 have h:=al8 (n:=n-2) (f:=f) (hO _ (by omega)) (hO _ (by omega)) h0 h6 (k:=k) (ex:=ex)
 rwa [show n-2+2=n by omega]at h
theorem agj{n f:Nat}(u:Int)(h2:2<=n)(hO:∀m,n-2<=m->Ok m qP){D:List Dg}(h0:0<D.length)(h6:(D.getD 0 jU).aj.length<=6){k ex:Bool}:aW X0 Qp (bT n) (.fn 78 [] []) [.fn f [] [.ptr 1 0 1],.own 0] [.list k ex 26 D,.aF [.int .u8 u]] (.agg [lI (bJ D).s,lI (bJ D).o,.own 0,.own 2,.fn f [] [.ptr 1 0 1]]) [.list k ex 26 D,.aF [.int .u8 u],.list true true 3 (bJ D).g]:=by
 have h:=al9 (n:=n-2) (f:=f) u (hO _ (by omega)) (hO _ (by omega)) h0 h6 (k:=k) (ex:=ex)
 rwa [show n-2+2=n by omega]at h
theorem a8z{n f:Nat}{J:Jb}(hJ:jq J){op:List V->V}(jr:oL J op)(h2:20<=n)(hO:∀m,n-20<=m->Ok m Il)(hs:∀m,n-20<=m->∀l:List V,l.length=J.D.length->aW X0 Qp (bT m) (.fn f [] []) [lV l] [] (.agg (op l).ps) []){k ex k2 LV:Bool}:aW X0 Qp (bT n) (.fn 80 [] []) [.agg [lI J.s,lI J.o,.own 0,.own 1,.fn f [] []]] [.list k ex 26 J.D,.list k2 LV 3 J.g] (dA.put (kY J op)) [.gone,.gone]:=by
 have h6:=(jq.o2 hJ).2.1;have h7:=hJ.bU.len;have h:=ag5 (N:=n-20) hJ jr hs hO (m:=n-1) (by omega);rw[show n-1+1=n by omega]at h;exact aqi h
theorem alc{n f:Nat}(u:Int){J:Jb}(hJ:jq J){op:List V->V}(jr:oL J op)(h2:20<=n)(hO:∀m,n-20<=m->Ok m Il)(hs:∀m,n-20<=m->∀l:List V,l.length=J.D.length->aW X0 Qp (bT m) (.fn f [] [.ptr 0 0 1]) [lV l] [.aF [.int .u8 u]] (.agg (op l).ps) [.aF [.int .u8 u]]){k ex k2 LV:Bool}:aW X0 Qp (bT n) (.fn 80 [] []) [.agg [lI J.s,lI J.o,.own 0,.own 2,.fn f [] [.ptr 1 0 1]]] [.list k ex 26 J.D,.aF [.int .u8 u],.list k2 LV 3 J.g] (dA.put (kY J op)) [.gone,.aF [.int .u8 u],.gone]:=by
 have h6:=(jq.o2 hJ).2.1;have h7:=hJ.bU.len;have h:=ag6 (N:=n-20) u hJ jr hs hO (m:=n-1) (by omega);rw[show n-1+1=n by omega]at h;exact aqj h
abbrev Nu(a b x:Int):Bool:=if decide (x>=a)=true then decide (x<=b)else false
theorem a8A{k:Nat}{x:Int}(h:(!(Nu 0 (i64.wrap ((k:Int)-1)) x))=false)(hk:k<=ah):gJ x k:=by
 rw[wrap_small (by unfold ah at hk;omega) (by unfold ah at hk;omega)]at h;unfold Nu at h;by_cases h1:x>=0
 .simp[h1]at h;exact⟨h1,by omega⟩
 simp[h1]at h
theorem abo{z x:Int}(h:(!(Nu 0 (i64.wrap (z-1)) x))=false)(h0:0<=z)(h1:z<=12):0<=x∧x<z:=by
 rw[wrap_small (by omega) (by omega)]at h;unfold Nu at h;by_cases h1:x>=0
 .simp[h1]at h;exact⟨h1,by omega⟩
 simp[h1]at h
def ald(d:Dg)(c g:Int):Jb:=⟨d.aj,d.aB,[d],(bJ [d]).g.set c.toNat g⟩
abbrev op0(l:List V):V:=l.getD 0 V0
theorem abp{d:Dg}(hp:nI d)(h:aY [d]=0){c g:Int}(hc:gJ c d.aj.length)(hg:0<=g∧g<d.aj.getD c.toNat 0):jq (ald d c g):=by
 have hJ:=uq (D:=[d]) (by simp) (by simp) (fun x hx=>by rw[a2D.1 hx];exact hp) h;refine⟨hJ.d3,hJ.bU,hJ.ord,fun k hk=>have h:=hJ.dg k hk;⟨h.t,h.n,h.s,h.o,h.rk,h.two⟩,?_,fun c2 KC h2=>?_⟩
 .show((bJ [d]).g.set c.toNat g).length=_;rw[a4O];exact hJ.gl
 have hl:(bJ [d]).g.length=d.aj.length:=hJ.gl;have a0:=hc.1;have a1:=hc.2;have b0:=KC.1;have b1:c2<(d.aj.length:Int):=KC.2
 change 0<=((bJ [d]).g.set c.toNat g).getD c2.toNat 0 at h2
 show((bJ [d]).g.set c.toNat g).getD c2.toNat 0<d.aj.getD c2.toNat 0;by_cases e:c.toNat=c2.toNat
 .rw[<-e,a2K,a1u (by omega)];exact hg.2
 rw[a2K,a0L e,<-a2K]at h2 ⊢;exact hJ.gv c2 KC h2
theorem ale{m:Nat}(hO:Ok m qP){l:List V}(h:0<l.length):aW X0 Qp (bT m) (.fn 79 [] []) [lV l] [] (.agg (op0 l).ps) []:=oN.a0f hX (first:=[]) (cap:=[]) (hO 79 [lV l] (vA.put (op0 l)) [] [0<l.length] (by kernel_rfl) (fun p h9=>by rw[a2D.1 h9];exact h)) rfl rfl rfl rfl
def La(p:Dg×Int×Int):Dg×Int:=if(aY [p.1] != 0)=true then(jU,aY [p.1])else if(!(Nu 0 (i64.wrap ((p.1.aj.length:Int)-1)) p.2.1))=true then(jU,3)else if(!(Nu 0 (i64.wrap (p.1.aj.getD p.2.1.toNat 0-1)) p.2.2))=true then(jU,3)else(kY (ald p.1 p.2.1 p.2.2) op0,0)
def alf:fA aG:=cO 20 (a3 dA iA iA) (dQ (a2 dA iA)) La (fun p=>[nI p.1]) qP
theorem a4o:(1:Nat)<=ah:=by unfold ah;omega
theorem aql:Gd alf:=Good.Xu 24 L8 Ya fun n hn hO Gq p hp=>by
 have h1:nI p.1:=hp _ (.head _);have h2:∀d∈[p.1],nI d:=fun x hx=>by rw[a2D.1 hx];exact h1
 have h3:0<[p.1].length∧[p.1].length<=ah:=⟨by simp,a4o⟩;obtain⟨d,c,g⟩:=p;show oN X0 Qp _ _ _ ((dQ (a2 dA iA)).put (La (d,c,g))) _;unfold La;have hJ:(aY [d] != 0)=false->jq (bJ [d]):=fun e1=>uq (D:=[d]) (by simp) (by simp) h2 (by simpa using e1);have hc:(aY [d] != 0)=false->(!(Nu 0 (i64.wrap ((d.aj.length:Int)-1)) c))=false->gJ c d.aj.length:=fun _ e2=>a8A e2 h1.s;have s1:=fun(e1:(aY [d] != 0)=false)=>JU (n:=n) (f:=79) (by omega) (fun m hm=>hO m (by omega)) (D:=[d]) (by simp) (hJ e1).bU.len (k:=true) (ex:=true);have s2:=fun(e1:(aY [d] != 0)=false) (e2:(!(Nu 0 (i64.wrap ((d.aj.length:Int)-1)) c))=false) (e3:(!(Nu 0 (i64.wrap (d.aj.getD c.toNat 0-1)) g))=false)=>
  have hz:=(hJ e1).bU.sz (d.aj.getD c.toNat 0) (dB (show c.toNat<d.aj.length by obtain⟨a,b⟩:=hc e1 e2;omega));have hR:=abp h1 (by simpa using e1) (hc e1 e2) (abo e3 (Int.le_trans (by decide) hz.1) hz.2)
  a8z (n:=n) (f:=79) hR (E5 hR (Jb.inD h2 (show aY [d]=0 by simpa using e1)) fun l hl hv=>hv _ (dK (by rw[hl];exact Nat.zero_lt_one))) (by omega) (fun m hm=>Gq m (by omega)) (fun m hm l hl=>ale (hO m (by omega)) (by rw[hl];exact Nat.zero_lt_one)) (k:=true) (ex:=true) (k2:=true) (LV:=true)
 have i2:=fun(e1:(aY [d] != 0)=false) (e2:(!(Nu 0 (i64.wrap ((d.aj.length:Int)-1)) c))=false)=>show gJ c (bJ [d]).g.length by rw[(hJ e1).gl];exact hc e1 e2
 exact aN (hO n (by omega)) (.o h2 (.o h3 (.sh (fun _=>.rn (.dM [.agg [.nil .slc,.nil .slc,.nil .slc,.nil .slc,.int .i64 0],.int .i64 (aY [d])]) rfl) fun e1=>.sh (fun _=>.rn (.dM [.agg [.nil .slc,.nil .slc,.nil .slc,.nil .slc,.int .i64 0],.int .i64 3]) rfl) fun e2=>.o (hc e1 e2) (.sh (fun _=>.rn (.dM [.agg [.nil .slc,.nil .slc,.nil .slc,.nil .slc,.int .i64 0],.int .i64 3]) rfl) fun e3=>.fr [1] (s1 e1) (.o (i2 e1 e2) (.fr [1,2] (s2 e1 e2 e3) .rr))))))
end Go.Proofs.YtmobpoiejckagaaGreat
namespace Pv
open Go Tw
theorem Good.a8B{X:l7}{P:Program}{T:qQ}{L:Nat}{α β:Type}{f:FuncId}{a:V8 X P α}{r:Ar X P β}{S:α->β}{pre:α->List Prop}{fM Xv a7H alg:fA X.Γ}(d:Nat)(hg:Good X P T L fM)(hg2:Good X P T L Xv)(hg3:Good X P T L a7H)(hg4:Good X P T L alg)
  (hf:∀n,d<=n->(∀m,n-d<=m->jM X P (lF P T L m) fM)->(∀m,n-d<=m->jM X P (lF P T L m) Xv)->(∀m,n-d<=m->jM X P (lF P T L m) a7H)->(∀m,n-d<=m->jM X P (lF P T L m) alg)->∀x,(∀p∈pre x,p)->oN X P (lF P T L (n+1)) f (a.put x) (r.put (S x)) []):Good X P T L (cO f a r S pre fM):=by
 obtain⟨N2,hN2⟩:=hg2;obtain⟨N3,hN3⟩:=hg3;obtain⟨N4,hN4⟩:=hg4;obtain⟨M,hM⟩:=hg;refine⟨M+N2+N3+N4+d+1,fun n hn=>?_⟩;obtain⟨k,rfl⟩:∃k,n=k+1:=⟨n-1,by omega⟩;intro g vs v ext ps ho hp;unfold cO at ho;split at ho
 .rename_i e;have e:=a9d e;subst e;split at ho
  .rename_i x hx;cases ho;intro A h first args cap IL hv
   exact hf k (by omega) (fun m hm=>hM m (by omega)) (fun m hm=>hN2 m (by omega)) (fun m hm=>hN3 m (by omega)) (fun m hm=>hN4 m (by omega)) x hp A h first args cap IL (a.ok hx hv)
  .exact hM (k+1) (by omega) g vs v ext ps ho hp
 .exact hM (k+1) (by omega) g vs v ext ps ho hp
end Pv
namespace Go.Proofs.YtmobpoiejckagaaGreat
open Go Tw Pv bZ
def uV(k:Int):Bool:=decide (7<=k∧k<=16)
def mG(k:Int)(a b:V):V×Int:=if uV k=true then Ia k a b else(V0,2)
theorem bne{a b:Int}(h:a≠b):(a==b)=false:=by simpa using h
def a8C:fA aG:=ZY 101 (a1 uA) (fun _=>.nil .fn) (fun _=>[]) (fun p=>[uV p=false]) alf
theorem agk:Gd a8C:=aql.Xt 0 fun n _ hO p hp=>by
 have h:¬(7<=p∧p<=16):=by simpa[uV]using hp _ (.head _)
 exact BO hX (hO n (by omega)) (by kernel_rfl) (.b (bne (show p≠7 by omega)) (.b (bne (show p≠8 by omega)) (.b (bne (show p≠9 by omega)) (.b (bne (show p≠10 by omega)) (.b (bne (show p≠11 by omega)) (.b (bne (show p≠12 by omega)) (.b (bne (show p≠13 by omega)) (.b (bne (show p≠14 by omega)) .er))))))))
def Yy:fA aG:=cO 45 (a3 uA vA vA) (dQ (a2 vA iA)) (fun p=>mG p.1 p.2.1 p.2.2) np a8C
theorem a2s:Gd Yy:=agk.deep 1 fun n hn hO p hp=>by
 obtain⟨k,a,b⟩:=p;cases h:uV k
 .have h9:¬(7<=k∧k<=16):=by simpa[uV]using h
  show oN X0 Qp _ _ _ ((dQ (a2 vA iA)).put (mG k a b)) _;unfold mG;rw[h];exact aN (hO n (by omega)) (.b (bne (show k≠15 by omega)) (.b (bne (show k≠16 by omega)) (.o h (.b (rfl:true=true) .rr))))
 .show oN X0 Qp _ _ _ ((dQ (a2 vA iA)).put (mG k a b)) _;unfold mG;rw[a0u h];exact hO (n+1) (by omega) 45 ((a3 uA vA vA).put (k,a,b)) ((dQ (a2 vA iA)).put (Ia k a b)) [] [7<=k∧k<=16] (by kernel_rfl) (fun q hq=>by rw[a2D.1 hq];simpa[uV]using h)
open Go Tw Pv bZ
theorem pK{v:V}:Ci v↔l9 v:=by
 unfold Ci vOk nS;constructor
 .rintro⟨h,h0⟩;split at h
  .rename_i e;split at h
   .rename_i e2;simp at e e2 h;exact⟨h0,by omega,fun _=>⟨e2,h⟩,fun hz=>absurd e hz⟩
   cases h
  split at h
  .rename_i e e2;simp at e e2 h;exact⟨h0,e2,fun hz=>absurd hz e,fun _=>h⟩
  cases h
 intro h;refine⟨?_,h.f0⟩;by_cases e:v.f=0
 .rw[a0u (by simpa using e),a0u (by simpa using(h.n e).1)];simpa using(h.n e).2
 rw[a0o (by simpa using e),a0u (by simpa using h.f1)];simpa using h.z e
theorem abq{k:Int}{a b:V}:(Ia k a b).1=gU k a b:=by
 unfold Ia gU
 repeat' split
 all_goals rfl
theorem a2t{k:Int}(h:uV k=true){a b:V}(ha:Ci a)(hb:Ci b):Ci (mG k a b).1∧(mG k a b).1=bI k a b:=by
 have:=af8 (by simpa[uV]using h) (pK.1 ha) (pK.1 hb);unfold mG;rw[a0u h,abq,this.1];exact⟨pK.2 this.2,rfl⟩
theorem abr{k:Int}{a b:V}(h:((mG k a b).2 != 0)=false):uV k=true:=by
 unfold mG at h;cases e:uV k
 .rw[e]at h;simp at h
 rfl
theorem Nv:Ci iD:=⟨by decide,by decide⟩
theorem agl:Ci V0:=⟨by decide,by decide⟩
abbrev zZ(u:Int)(l:List V):V:=(mG u (l.getD 0 V0) (l.getD 1 V0)).1
abbrev abt(l:List V):V:=(iF (l.getD 0 V0) (l.getD 1 V0) (l.getD 2 V0)).1
theorem alh{m:Nat}{u:Int}(h1:1<=m)(hO:Ok (m-1) Yy){l:List V}(h:l.length=2):aW X0 Qp (bT m) (.fn 112 [] [.ptr 0 0 1]) [lV l] [.aF [.int .u8 u]] (.agg (zZ u l).ps) [.aF [.int .u8 u]]:=by
 obtain⟨m,rfl⟩:∃k,m=k+1:=⟨m-1,by omega⟩;exact fV hO (first:=[]) (cap:=[.ptr 0 0 1]) (.o (aH (by omega:0<l.length)) (.o (aH (by omega:1<l.length)) .er))
theorem aqm{m:Nat}(h1:1<=m)(hO:Ok (m-1) Yy){l:List V}(h:l.length=3):aW X0 Qp (bT m) (.fn 113 [] []) [lV l] [] (.agg (abt l).ps) []:=by
 obtain⟨m,rfl⟩:∃k,m=k+1:=⟨m-1,by omega⟩;exact fV hO (first:=[]) (cap:=[]) (.o (aH (by omega:0<l.length)) (.o (aH (by omega:1<l.length)) (.o (aH (by omega:2<l.length)) .er)))
theorem ali{m:Nat}(hO:Ok m Yy){l:List V}(h:l.length<=ah):aW X0 Qp (bT m) (.fn 117 [] []) [lV l] [] (.agg (dJ l).ps) []:=oN.a0f hX (first:=[]) (cap:=[]) (hO 117 [lV l] (vA.put (dJ l)) [] [l.length<=ah] (by kernel_rfl) (fun p h9=>by rw[a2D.1 h9];exact h)) rfl rfl rfl rfl
theorem Nw(l:List V):Ci (dJ l):=by unfold dJ;split;exact Nv;exact agl
theorem a0s{a b c:V}(ha:Ci a)(hb:Ci b)(hc:Ci c):Ci (iF a b c).1:=by
 have:=a3v (pK.1 ha) (pK.1 hb) (pK.1 hc);rw[this.1];exact pK.2 this.2
def nR(p:Int×Dg×Dg):Dg×Int:=if(aY [p.2.1,p.2.2] != 0)=true then(jU,aY [p.2.1,p.2.2])else if((mG p.1 iD iD).2 != 0)=true then(jU,(mG p.1 iD iD).2)else(kY (bJ [p.2.1,p.2.2]) (zZ p.1),0)
def Yz(p:Dg×Dg×Dg):Dg×Int:=if(aY [p.1,p.2.1,p.2.2] != 0)=true then(jU,aY [p.1,p.2.1,p.2.2])else(kY (bJ [p.1,p.2.1,p.2.2]) abt,0)
def kQ(p:Dg):Dg×Int:=if(aY [p] != 0)=true then(jU,aY [p])else(kY (bJ [p]) dJ,0)
theorem VP{P:Dg->Prop}{a b:Dg}(ha:P a)(hb:P b):∀d∈[a,b],P d:=fun x hx=>by
 rcases a1J.1 hx with rfl|hx
 .exact ha
 .rw[a2D.1 hx];exact hb
theorem aqn{P:Dg->Prop}{a b c:Dg}(ha:P a)(hb:P b)(hc:P c):∀d∈[a,b,c],P d:=fun x hx=>by
 rcases a1J.1 hx with rfl|hx
 .exact ha
 .exact VP hb hc x hx
abbrev rnE(e:Int):PV aG:=.dM [.agg [.nil .slc,.nil .slc,.nil .slc,.nil .slc,.int .i64 0],.int .i64 e]
abbrev HcA(D:List Dg)(u:Int)(g:List Int):List (PB aG):=[.list true true 26 D,.cells [.int .u8 u],.list true true 3 g]
abbrev HcB(u:Int):List (PB aG):=[.gone,.cells [.int .u8 u],.gone]
theorem rE(e:Int):Fp (Γ:=X0.Γ) (Is (X:=X0) (P:=Qp) (dQ (a2 dA iA)) (jU,e)) .n (.ret (some (rnE e))):=by
 have h:(dQ (a2 dA iA)).get (rnE e)=some (jU,e):=rfl;exact Fp.rn (X:=X0) (P:=Qp) (rnE e) h
def alj:fA aG:=cO 62 (a3 uA dA dA) (dQ (a2 dA iA)) nR (fun p=>[nI p.2.1,nI p.2.2]) Yy
theorem abu:(2:Nat)<=ah:=by unfold ah;omega
theorem agm:(3:Nat)<=ah:=by unfold ah;omega
theorem aqp:Gd alj:=Good.a8B 24 a2s Ya L8 a2s fun n hn hO Gq hO3 hO4 p hp=>by
 obtain⟨u,d,e⟩:=p;have h1:∀x∈[d,e],nI x:=VP (hp _ (.head _)) (hp _ (.tail _ (.head _)));have h3:0<[d,e].length∧[d,e].length<=ah:=⟨by simp,abu⟩;have hJ:(aY [d,e] != 0)=false->jq (bJ [d,e]):=fun e1=>uq (D:=[d,e]) (by simp) (by simp) h1 (by simpa using e1);have s1:=fun(e1:(aY [d,e] != 0)=false)=>agj (n:=n) (f:=112) u (by omega) (fun m hm=>hO3 m (by omega)) (D:=[d,e]) (by simp) (hJ e1).bU.len (k:=true) (ex:=true);have s2:=fun(e1:(aY [d,e] != 0)=false) (e2:((mG u iD iD).2 != 0)=false)=>alc (n:=n) (f:=112) u (hJ e1) (op:=zZ u) (E5 (hJ e1) (Jb.inD h1 (show aY [d,e]=0 by simpa using e1)) fun l hl hv=>(a2t (abr e2) (hv _ (dK (show 0<l.length by rw[hl];exact Nat.zero_lt_two))) (hv _ (dK (show 1<l.length by rw[hl];exact Nat.one_lt_two)))).1) (by omega) (fun m hm=>Gq m (by omega)) (fun m hm l hl=>alh (by omega) (hO4 _ (by omega)) hl) (k:=true) (ex:=true) (k2:=true) (LV:=true);show oN X0 Qp _ _ _ ((dQ (a2 dA iA)).put (if(aY [d,e] != 0)=true then(jU,aY [d,e])else if((mG u iD iD).2 != 0)=true then(jU,(mG u iD iD).2)else(kY (bJ [d,e]) (zZ u),0))) _;exact aN (hO n (by omega)) (.o h1 (.o h3 (.sh (fun _=>rE _) fun e1=>.sh (fun _=>rE _) fun e2=>.QK (H2:=HcA [d,e] u (bJ [d,e]).g) [2,0] [1] (s1 e1) (.QK (H2:=HcB u) [2,0,3] [1] (s2 e1 e2) .rr))))
def alm:fA aG:=cO 63 (a3 dA dA dA) (dQ (a2 dA iA)) Yz (fun p=>[nI p.1,nI p.2.1,nI p.2.2]) alj
theorem aqr:Gd alm:=Good.a8B 24 aqp Ya L8 a2s fun n hn hO Gq hO3 hO4 p hp=>by
 obtain⟨a,b,c⟩:=p;have h1:∀x∈[a,b,c],nI x:=aqn (hp _ (.head _)) (hp _ (.tail _ (.head _))) (hp _ (.tail _ (.tail _ (.head _))));have h3:0<[a,b,c].length∧[a,b,c].length<=ah:=⟨by simp,agm⟩;have hJ:(aY [a,b,c] != 0)=false->jq (bJ [a,b,c]):=fun e1=>uq (D:=[a,b,c]) (by simp) (by simp) h1 (by simpa using e1);have s1:=fun(e1:(aY [a,b,c] != 0)=false)=>JU (n:=n) (f:=113) (by omega) (fun m hm=>hO3 m (by omega)) (D:=[a,b,c]) (by simp) (hJ e1).bU.len (k:=true) (ex:=true);have s2:=fun(e1:(aY [a,b,c] != 0)=false)=>a8z (n:=n) (f:=113) (hJ e1) (op:=abt) (E5 (hJ e1) (Jb.inD h1 (show aY [a,b,c]=0 by simpa using e1)) fun l hl hv=>a0s (hv _ (dK (show 0<l.length by rw[hl];exact Nat.succ_pos 2))) (hv _ (dK (show 1<l.length by rw[hl];exact Nat.succ_lt_succ (Nat.succ_pos 1)))) (hv _ (dK (show 2<l.length by rw[hl];exact Nat.lt_succ_self 2)))) (by omega) (fun m hm=>Gq m (by omega)) (fun m hm l hl=>aqm (by omega) (hO4 _ (by omega)) hl) (k:=true) (ex:=true) (k2:=true) (LV:=true);show oN X0 Qp _ _ _ ((dQ (a2 dA iA)).put (if(aY [a,b,c] != 0)=true then(jU,aY [a,b,c])else(kY (bJ [a,b,c]) abt,0))) _;exact aN (hO n (by omega)) (.o h1 (.o h3 (.sh (fun _=>rE _) fun e1=>.fr [1] (s1 e1) (.fr [1,2] (s2 e1) .rr))))
def aln:fA aG:=cO 67 (a1 dA) (dQ (a2 dA iA)) kQ (fun p=>[nI p]) alm
theorem aqs:Gd aln:=Good.a8B 24 aqr Ya L8 a2s fun n hn hO Gq hO3 hO4 d hp=>by
 have h1:∀x∈[d],nI x:=fun x hx=>by rw[a2D.1 hx];exact hp _ (.head _)
 have h3:0<[d].length∧[d].length<=ah:=⟨by simp,a4o⟩;have hJ:(aY [d] != 0)=false->jq (bJ [d]):=fun e1=>uq (D:=[d]) (by simp) (by simp) h1 (by simpa using e1);have s1:=fun(e1:(aY [d] != 0)=false)=>JU (n:=n) (f:=117) (by omega) (fun m hm=>hO3 m (by omega)) (D:=[d]) (by simp) (hJ e1).bU.len (k:=true) (ex:=true);have s2:=fun(e1:(aY [d] != 0)=false)=>a8z (n:=n) (f:=117) (hJ e1) (op:=dJ) (fun t hd=>Nw _) (by omega) (fun m hm=>Gq m (by omega)) (fun m hm l hl=>ali (hO4 m (by omega)) (by rw[hl];exact a4o)) (k:=true) (ex:=true) (k2:=true) (LV:=true);show oN X0 Qp _ _ _ ((dQ (a2 dA iA)).put (if(aY [d] != 0)=true then(jU,aY [d])else(kY (bJ [d]) dJ,0))) _;exact aN (hO n (by omega)) (.o h1 (.o h3 (.sh (fun _=>rE _) fun e1=>.fr [1] (s1 e1) (.fr [1,2] (s2 e1) .rr))))
open Go Tw Pv bZ
def kR(v:V):Int:=if(!(xq v))=true then 2 else 0
def YA:fA aG:=cO 106 (a1 vA) iA (fun p=>kR p) np aln
theorem adR:Gd YA:=aqs.add fun n hO p hp=>aN hO (.ss .rr .rr)
theorem a8E{n f:Nat}{J:Jb}{k ex k2 LV:Bool}(h:aW X0 Qp (bT n) (.fn 87 [] []) [.agg (J.ps (.fn f [] []))] [] (.map 0) [.map (kV.im (dP J))]):aW X0 Qp (bT n) (.fn 87 [] []) [.agg [lI J.s,lI J.o,.own 0,.own 1,.fn f [] []]] [.list k ex 26 J.D,.list k2 LV 3 J.g] (.map 2) [.gone,.gone,.map (kV.im (dP J))]:=by
 have h1:=aW.frame hX (ks:=[]) (H':=[.gone,.gone]) (Hp:=[]) (Qy:=[.map (kV.im (dP J))]) (v':=.map 2) (fv':=.fn 87 [] []) (xs':=[.agg (J.ps (.fn f [] []))]) h (by decide) rfl rfl rfl rfl rfl rfl rfl;exact aW.fz hX (H:=[.list k ex 26 J.D,.list k2 LV 3 J.g]) (cs:=[lI J.s,lI J.o,.own 0,.own 1]) (rest:=[.fn f [] []]) [0,1] h1 rfl (fun i hi=>by simpa[lu.kH,lu]using hi)
open Go Tw Pv bZ
def look(t:List (V×Int))(v:V):Int:=((t.find? fun e=>decide (e.1=v)).map (·.2)).getD 0
theorem IB{t:List (V×Int)}(hn:(t.map (·.1)).Nodup)(v:V):(qG X0 Qp 39 (kV.im t) (kV.tv v) (.int .i64 (look t v)))∨(look t v=0∧o9 X0 Qp 39 (kV.im t) (kV.tv v)):=by
 by_cases h:v∈t.map (·.1)
 .obtain⟨e,he,hv⟩:=a0H.1 h;obtain⟨e2,h2⟩:=a5g.1 (List.find?_isSome (p:=fun e:V×Int=>decide (e.1=v)) |>.2 ⟨e,he,show decide (e.1=v)=true by simpa using hv⟩);have h3:e2.1=v:=by simpa using List.find?_some h2
  refine .inl (kV.found (by rw[zX];exact hn) (a0H.2 ⟨e2,aeA h2,?_⟩));unfold look;rw[h2,h3];rfl
 refine .inr ⟨?_,kV.fresh (by rw[zX];exact h)⟩;unfold look;rw[adO.2 fun e he=>by
  simp only[a0N];intro hv;exact h (a0H.2 ⟨e,he,hv⟩)]
 rfl
abbrev alo:PV aG:=.agg [.nil .slc,.nil .slc,.nil .slc,.nil .slc,.nil .fn]
abbrev a8F(J:Jb)(f:Nat)(a b:Nat):PV aG:=.agg [lI J.s,lI J.o,.own a,.own b,.fn f [] []]
abbrev HO(D:List Dg)(g:List Int):List (PB aG):=[.list true true 26 D,.list true true 3 g]
theorem YB{P:Dg->Prop}{d:Dg}(h:P d):∀x∈[d],P x:=fun x hx=>by rw[a2D.1 hx];exact h
theorem alp{n:Nat}(hO:Ok n YA){d:Dg}{v:V}(hp:nI d)(e1:(aY [d] != 0)=true):aW X0 Qp (bT (n+1)) (.fn 86 [] []) [.agg d.ps,.agg v.ps] [] (.dM [alo,.int .i64 (aY [d])]) []:=by
 have h1:∀x∈[d],nI x:=YB hp;have h3:0<[d].length∧[d].length<=ah:=⟨by simp,a4o⟩;exact aW.drop hX (rU hX hO (first:=[]) (cap:=[]) (H1:=[.list true true 26 [d]]) (by kernel_rfl) (.o h1 (.o h3 (.b e1 .er)))) rfl rfl
theorem alq{n:Nat}(hO:Ok n YA){d:Dg}{v:V}(hp:nI d)(e1:(aY [d] != 0)=false)(e2:(kR v != 0)=true):aW X0 Qp (bT (n+1)) (.fn 86 [] []) [.agg d.ps,.agg v.ps] [] (.dM [alo,.int .i64 4]) []:=by
 have h1:∀x∈[d],nI x:=YB hp;have h3:0<[d].length∧[d].length<=ah:=⟨by simp,a4o⟩;exact aW.drop hX (rU hX hO (first:=[]) (cap:=[]) (H1:=[.list true true 26 [d]]) (by kernel_rfl) (.o h1 (.o h3 (.b e1 (.b e2 .er))))) rfl rfl
theorem alr{n:Nat}(h2:2<=n)(Bc:Ok n YA)(hO:∀m,n-2<=m->Ok m qP){d:Dg}{v:V}(hp:nI d)(e1:(aY [d] != 0)=false)(e2:(kR v != 0)=false):aW X0 Qp (bT (n+1)) (.fn 86 [] []) [.agg d.ps,.agg v.ps] [] (.dM [a8F (bJ [d]) 79 0 1,.int .i64 0]) (HO [d] (bJ [d]).g):=by
 have h1:∀x∈[d],nI x:=YB hp;have h3:0<[d].length∧[d].length<=ah:=⟨by simp,a4o⟩;have hJ:jq (bJ [d]):=uq (D:=[d]) (by simp) (by simp) h1 (by simpa using e1);have s1:=JU (n:=n) (f:=79) h2 hO (D:=[d]) (by simp) hJ.bU.len (k:=true) (ex:=true);have h:aW X0 Qp (bT (n+1)) (.fn 86 [] []) [.agg d.ps,.agg v.ps] [] (.dM [a8F (bJ [d]) 79 1 2,.int .i64 0]) [.list true true 26 [d],.list true true 26 [d],.list true true 3 (bJ [d]).g]:=fV Bc (first:=[]) (cap:=[]) (.o h1 (.o h3 (.b e1 (.b e2 (.fr [1] s1 .er)))));exact aW.gs hX h [.gc [1,2]] rfl
theorem xI(J:Jb):((dP J).map (·.1)).Nodup:=(((qF Yu (Bq (nC J))).map (·.1)).nodup_iff).2 (Gh (nC J)).1
theorem Le(φ:V->Int)(J:Jb):dH φ (dP J)=eu φ (nC J):=by
 unfold dP;rw[a3X φ (qF Yu (Bq (nC J))),TR]
theorem YC{α:Type}:∀l:List α,eu (fun _=>1) l=(l.length:Int)
 | []=>rfl
 |a::l=>by
  have:=YC l;simp only[eu,a4v];omega
theorem U3{J:Jb}(hJ:jq J):JQ (dP J):=by
 refine⟨fun e he=>(Gh (nC J)).2 e ((qF Yu (Bq (nC J))).mem_iff.1 he),?_⟩;rw[Le,YC];have h1:(nC J).length<=(Iw J).length:=by
  unfold nC Qm;rw[a4K];exact a5e (a9l _ _) (by rw[a4K];exact a0x _)
 have h2:(Iw J).length<=xZ J.s:=a5e (a9l _ _) (by rw[a4K,a9a];exact a0x _);have h3:=hJ.bU.a00;have h4:=hJ.bU.many;omega
def uw(p:Dg×V):Int×Int:=if(aY [p.1] != 0)=true then(0,aY [p.1])else if(kR p.2 != 0)=true then(0,4)else(look (dP (bJ [p.1])) p.2,0)
def agn:fA aG:=cO 27 (a2 dA vA) (dQ (a2 iA iA)) uw (fun p=>[nI p.1]) YA
theorem aqt:Gd agn:=Good.Xu 24 adR L8 fun n hn hO Gq p hp=>by
 obtain⟨d,v⟩:=p;have h1:nI d:=hp _ (.head _);obtain⟨n,rfl⟩:∃k,n=k+1:=⟨n-1,by omega⟩;have Bc:=hO (n+1) (by omega);cases e1:(aY [d] != 0)
 .cases e2:(kR v != 0)
  .have s1:=alr (n:=n) (by omega) (hO n (by omega)) (fun m hm=>Gq m (by omega)) h1 e1 e2;have hJ:jq (bJ [d]):=uq (D:=[d]) (by simp) (by simp) (YB h1) (by simpa using e1);have s2:=a8E (k:=true) (ex:=true) (k2:=true) (LV:=true) (Qn hJ (n:=n-1) (f:=79) (Gq _ (by omega)) (show 0<[d].length by simp));rw[show n-1+2=n+1 by omega]at s2;show oN X0 Qp _ _ _ ((dQ (a2 iA iA)).put (if(aY [d] != 0)=true then(0,aY [d])else if(kR v != 0)=true then(0,4)else(look (dP (bJ [d])) v,0))) _;rw[e1,e2];rcases IB (xI (bJ [d])) v with hf|⟨hz,hf⟩
   .exact aN Bc (.fr [] s1 (.b (rfl:((0:Int) != 0)=false) (.fr [0,1] s2 (.c (.int .i64 (look (dP (bJ [d])) v)) [] hf .rr))))
   .rw[hz];exact aN Bc (.fr [] s1 (.b (rfl:((0:Int) != 0)=false) (.fr [0,1] s2 (.a .calm (.o hf .rr)))))
  .have s1:=alq (n:=n) (hO n (by omega)) h1 e1 e2;show oN X0 Qp _ _ _ ((dQ (a2 iA iA)).put (if(aY [d] != 0)=true then(0,aY [d])else if(kR v != 0)=true then(0,4)else(look (dP (bJ [d])) v,0))) _;rw[e1,e2];exact aN Bc (.fr [] s1 (.b (rfl:((4:Int) != 0)=true) .rr))
 .have s1:=alp (n:=n) (v:=v) (hO n (by omega)) h1 e1;show oN X0 Qp _ _ _ ((dQ (a2 iA iA)).put (if(aY [d] != 0)=true then(0,aY [d])else if(kR v != 0)=true then(0,4)else(look (dP (bJ [d])) v,0))) _;rw[a0u e1];exact aN Bc (.fr [] s1 (.b e1 .rr))
open Go Tw Pv bZ
structure An where
 q:Int
 none:Bool
 yes:Bool
 n:Int
 lo:Int
 hi:Int
 fault:Bool
 set:List Int
deriving DecidableEq
abbrev An0:An:=⟨0,false,false,0,0,0,false,[]⟩
def als:Ar X0 Qp Unit where
 put _:=.nil .slc
 get v:=match v with
  |.nil .slc=>some ()
  |_=>none
 ok:=by
  intro v a hg A m h x hv;split at hg
  .exact hv
  .cases hg
def Wh:Arg An:=aeZ (a6K (LJ uA (LJ tA (LJ tA (LJ iA (LJ iA (a4 iA tA rZ als)))))))
 (fun p=>⟨p.1,p.2.1,p.2.2.1,p.2.2.2.1,p.2.2.2.2.1,p.2.2.2.2.2.1,p.2.2.2.2.2.2.1,p.2.2.2.2.2.2.2.1⟩) (fun a=>(a.q,a.none,a.yes,a.n,a.lo,a.hi,a.fault,a.set,())) fun _=>rfl
abbrev anW(a:An)(s:PV aG):PV aG:=.agg [.int .u8 a.q,.bool a.none,.bool a.yes,.int .i64 a.n,.int .i64 a.lo,.int .i64 a.hi,.bool a.fault,s,.nil .slc]
theorem rA(a:An)(h:a.set=[])(e:Int):Fp (Γ:=X0.Γ) (Is (X:=X0) (P:=Qp) (dQ (a2 Wh iA)) (a,e)) .n (.ret (some (.dM [anW a (.nil .slc),.int .i64 e]))):=by
 obtain⟨q,no,y,n,l,hi,f,s⟩:=a;cases h;have h:(dQ (a2 Wh iA)).get (.dM [anW ⟨q,no,y,n,l,hi,f,[]⟩ (.nil .slc),.int .i64 e])=some (⟨q,no,y,n,l,hi,f,[]⟩,e):=rfl;exact Fp.rn (X:=X0) (P:=Qp) _ h
def a8G(q:Int)(t:List (V×Int)):An×Int:=
 if(q==1)=true then(⟨q,false,look t iD==dH (fun _=>1) t,0,0,0,false,[]⟩,0)
 else if(q==2)=true then(⟨q,false,decide (look t iD>0),0,0,0,false,[]⟩,0)
 else if(q==3)=true then(⟨q,false,false,look t iD,0,0,false,[]⟩,0)
 else if(q==4)=true then(if mM t=[]then(⟨q,true,false,0,0,0,uU t,[]⟩,0)else(⟨q,((mM t).length:Int)==0,false,0,(mM t).getD 0 0,(mM t).getD (i64.wrap ((mM t).length-1)).toNat 0,uU t,[]⟩,0))
 else(⟨q,false,false,0,0,0,uU t,mM t⟩,0)
def yX(q:Int)(t:List (V×Int)):An×Int:=if t=[]then(⟨q,true,false,0,0,0,false,[]⟩,0)else a8G q t
def IC(p:Int×Dg×Dg):An×Int:=if(aY [p.2.1,p.2.2] != 0)=true then(An0,aY [p.2.1,p.2.2])else if decide (p.1<1)=true then(An0,2)else if decide (p.1>5)=true then(An0,2)else yX p.1 (dP (bJ [p.2.1,p.2.2]))
def a8H:fA aG:=cO 33 (a3 uA dA dA) (dQ (a2 Wh iA)) IC (fun p=>[nI p.2.1,nI p.2.2]) agn
theorem agp{t:List (V×Int)}(h:JQ t):(mM t).length<=2000:=by
 unfold mM;rw[show ∀l:List Int,(gY l).length=l.length from fun l=>(ae8 l _).length_eq,a4K];exact a5e (a9l _ _) h.len
abbrev HMt(t:List (V×Int)):List (PB aG):=[.map (kV.im t)]
abbrev HMn(t:List (V×Int)):List (PB aG):=[.map (kV.im t),.list false false 3 (mM t)]
section
variable {n:Nat} {q:Int} {d e:Dg} (hO:Ok n agn) (h1:∀ x∈[d,e],nI x) (e1:(aY [d,e] != 0)=false) (e2:decide (q<1)=false) (e3:decide (q>5)=false) {t:List (V×Int)} (ht:JQ t)
 (s1:aW X0 Tryz.prog (bT n) (.fn 78 [] []) [.fn 79 [] [],.own 0] [.list true true 26 [d,e]] (a8F (bJ [d,e]) 79 0 1) (HO [d,e] (bJ [d,e]).g))
 (s2:aW X0 Tryz.prog (bT n) (.fn 87 [] []) [a8F (bJ [d,e]) 79 0 1] (HO [d,e] (bJ [d,e]).g) (.map 2) [.gone,.gone,.map (kV.im t)])
 (s3:aW X0 Tryz.prog (bT n) (.fn 90 [] []) [.map 0] [.iL (kV.im t)] (.int .i64 (dH (fun _=>1) t)) [.iL (kV.im t)])
 (s4:mM t=[]->aW X0 Tryz.prog (bT n) (.fn 88 [] []) [.map 0] [.iL (kV.im t)] (.dM [.nil .slc,.bool (uU t)]) [.iL (kV.im t)])
 (s5:mM t≠[]->aW X0 Tryz.prog (bT n) (.fn 88 [] []) [.map 0] [.iL (kV.im t)] (.dM [.own 1,.bool (uU t)]) [.iL (kV.im t),.list false false 3 (mM t)])
include hO h1 e1 e2 e3 s1 s2
theorem abv(h:t=[]):oN X0 Qp (bT (n+1)) 33 ((a3 uA dA dA).put (q,d,e)) ((dQ (a2 Wh iA)).put (⟨q,true,false,0,0,0,false,[]⟩,0)) []:=by
 subst h;have h3:0<[d,e].length∧[d,e].length<=ah:=⟨by simp,abu⟩;exact aN hO (.o h1 (.o h3 (.b e1 (.b e2 (.b e3 (.fr [1] s1 (.fr [1,2] s2 (.b (show(((kV.im ([]:List (V×Int))).length:Int)==0)=true from rfl) (rA _ rfl _)))))))))
variable (hd:(t.map (·.1)).Nodup)
include ht s3 s4 s5 hd
theorem a8I(h:t≠[]):oN X0 Qp (bT (n+1)) 33 ((a3 uA dA dA).put (q,d,e)) ((dQ (a2 Wh iA)).put (a8G q t)) []:=by
 have h3:0<[d,e].length∧[d,e].length<=ah:=⟨by simp,abu⟩;have hl:(((kV.im t).length:Int)==0)=false:=by
  rw[kV.qg];cases t with
  |nil=>exact absurd rfl h
  |cons a r=>exact bne (by simp only[a4v];omega)
 have Rq:=agp ht;have s0:aW X0 Qp (bT n) (.fn 89 [] []) [] [] (.agg iD.ps) []:=oN.a0f hX (first:=[]) (cap:=[]) (hO 89 [] (vA.put iD) [] [] (by kernel_rfl) (fun p h=>by cases h)) rfl rfl rfl rfl;unfold a8G;by_cases hn:mM t=[]
 .rw[a0u hn];rcases IB hd iD with hf|⟨hz,hf⟩
  .exact aN hO (.o h1 (.o h3 (.b e1 (.b e2 (.b e3 (.fr [1] s1 (.fr [1,2] s2 (.b hl (.QK (H2:=HMt t) [3] [0] (s4 hn) (.ss (.fr [] s0 (.c (.int .i64 (look t iD)) [] hf (.QK (H2:=HMt t) [3] [0] s3 (rA _ rfl _)))) (.ss (.fr [] s0 (.c (.int .i64 (look t iD)) [] hf (rA _ rfl _))) (.ss (.fr [] s0 (.c (.int .i64 (look t iD)) [] hf (rA _ rfl _))) (.ss (.b (c:=!((0:Int)==0)) (t:=false) rfl (rA _ rfl _)) (rA ⟨q,false,false,0,0,0,uU t,mM t⟩ hn _))))))))))))))
  rw[hz];exact aN hO (.o h1 (.o h3 (.b e1 (.b e2 (.b e3 (.fr [1] s1 (.fr [1,2] s2 (.b hl (.QK (H2:=HMt t) [3] [0] (s4 hn) (.ss (.a .calm (.o hf (.QK (H2:=HMt t) [3] [0] s3 (rA _ rfl _)))) (.ss (.a .calm (.o hf (rA _ rfl _))) (.ss (.a .calm (.o hf (rA _ rfl _))) (.ss (.b (c:=!((0:Int)==0)) (t:=false) rfl (rA _ rfl _)) (rA ⟨q,false,false,0,0,0,uU t,mM t⟩ hn _))))))))))))))
 rw[a0o hn];have hp:0<(mM t).length:=aah.2 hn;have hb:(!(((mM t).length:Int)==0))=true:=by rw[bne (by omega)];rfl
 have i0:gJ 0 (mM t).length:=aH hp;have i1:gJ (i64.wrap ((mM t).length-1)) (mM t).length:=by
  rw[wrap_small (by omega) (by omega)];exact⟨by omega,by omega⟩
 rcases IB hd iD with hf|⟨hz,hf⟩
 .exact aN hO (.o h1 (.o h3 (.b e1 (.b e2 (.b e3 (.fr [1] s1 (.fr [1,2] s2 (.b hl (.QK (H2:=HMn t) [3] [0] (s5 hn) (.ss (.fr [] s0 (.c (.int .i64 (look t iD)) [] hf (.QK (H2:=HMt t) [3] [0] s3 (rA _ rfl _)))) (.ss (.fr [] s0 (.c (.int .i64 (look t iD)) [] hf (rA _ rfl _))) (.ss (.fr [] s0 (.c (.int .i64 (look t iD)) [] hf (rA _ rfl _))) (.ss (.b hb (.o i0 (.o i1 (rA _ rfl _)))) .rr)))))))))))))
 rw[hz];exact aN hO (.o h1 (.o h3 (.b e1 (.b e2 (.b e3 (.fr [1] s1 (.fr [1,2] s2 (.b hl (.QK (H2:=HMn t) [3] [0] (s5 hn) (.ss (.a .calm (.o hf (.QK (H2:=HMt t) [3] [0] s3 (rA _ rfl _)))) (.ss (.a .calm (.o hf (rA _ rfl _))) (.ss (.a .calm (.o hf (rA _ rfl _))) (.ss (.b hb (.o i0 (.o i1 (rA _ rfl _)))) .rr)))))))))))))
end
theorem alu:Gd a8H:=Good.Xu 24 aqt L8 fun n hn hO Gq p hp=>by
 obtain⟨q,d,e⟩:=p;have h1:∀x∈[d,e],nI x:=VP (hp _ (.head _)) (hp _ (.tail _ (.head _)));have h3:0<[d,e].length∧[d,e].length<=ah:=⟨by simp,abu⟩;have Bc:=hO n (by omega);show oN X0 Qp _ _ _ ((dQ (a2 Wh iA)).put (if(aY [d,e] != 0)=true then(An0,aY [d,e])else if decide (q<1)=true then(An0,2)else if decide (q>5)=true then(An0,2)else yX q (dP (bJ [d,e])))) _;cases e1:(aY [d,e] != 0)
 .cases e2:decide (q<1)
  .cases e3:decide (q>5)
   .have hJ:=uq (D:=[d,e]) (by simp) (by simp) h1 (by simpa using e1);have ht:=U3 hJ;have s1:=JU (n:=n) (f:=79) (by omega) (fun m hm=>Gq m (by omega)) (D:=[d,e]) (by simp) hJ.bU.len (k:=true) (ex:=true);have s2:=a8E (k:=true) (ex:=true) (k2:=true) (LV:=true) (Qn hJ (n:=n-2) (f:=79) (Gq _ (by omega)) (show 0<[d,e].length by simp));have s3:=aqb (n:=n-1) ht;have s4:=(adP (n:=n-2) ht).1;have s5:=(adP (n:=n-2) ht).2;rw[show n-2+2=n by omega]at s2 s4 s5;rw[show n-1+1=n by omega]at s3;show oN X0 Qp _ _ _ ((dQ (a2 Wh iA)).put (yX q (dP (bJ [d,e])))) _;unfold yX;by_cases h:dP (bJ [d,e])=[]
    .rw[a0u h];exact abv Bc h1 e1 e2 e3 s1 s2 h
    .rw[a0o h];exact a8I Bc h1 e1 e2 e3 ht s1 s2 s3 s4 s5 (xI _) h
   .exact aN Bc (.o h1 (.o h3 (.b e1 (.b e2 (.b e3 (rA _ rfl _))))))
  .exact aN Bc (.o h1 (.o h3 (.b e1 (.b e2 (rA _ rfl _)))))
 .exact aN Bc (.o h1 (.o h3 (.b e1 (rA _ rfl _))))
open Go Tw Pv bZ
section
variable {n:Nat} {t:List (V×Int)} (h:JQ t) (ht:t≠[])
theorem alv{k:Bool}:aW X0 Qp (bT (n+1)) (.fn 96 [] []) [.map 0] [.map (kV.im t)] vF [.map (kV.im t),.cells [.map 0]]:=
 fV gy (first:=[]) (cap:=[]) .er
include h ht
theorem alx:aW X0 Qp (bT (n+3)) (.fn 95 [] []) [vF] [.iL (kV.im t),.aF [.map 0]] (.slc 2 0 t.length t.length 1 false) [.iL (kV.im t),.aF [.map 0],.nK ((sD t).map LU)]:=by
 have h1:=abm (n:=n) h ht;exact fV gy (first:=[]) (cap:=[]) (.k h1 .er)
omit ht in
theorem a8J:(sD t).length=t.length:=by
 unfold sD;rw[(qF _ _).length_eq,a4K]
theorem aly:aW X0 Qp (bT (n+1)) (.fn 94 [] []) [.slc 0 0 t.length t.length 1 false] [.nK ((sD t).map LU)] (.int .i64 (Qr (sD t))) [.nK ((sD t).map LU)]:=by
 have hl:=a8J h;have h0:sD t≠[]:=fun e=>ht (a7a.1 (by rw[<-hl,e];rfl));have:=al5 (n:=n) h0 (by rw[hl];exact h.len)
 rwa [hl]at this
end
end Go.Proofs.YtmobpoiejckagaaGreat
namespace Pv
open Go Tw
section
variable {X:l7} {P:Program}
theorem aW.lend(hX:bP X P){call:bf}{f:FuncId}{cs ws rest xs:List (PV X.Γ)}{H:List (PB X.Γ)}{es:List (PV X.Γ×PV X.Γ)}(is:List Nat)(hs:aW X P call (.fn f [] []) (.agg (ws++rest)::xs) (aZ is H) (.map H.length) (aZ is H++[.map es]))
  (hv:views H cs=some ws) (ho:∀i,i∈lu.kH cs->i∈is) (hg:aZ is H=List.replicate H.length .gone):aW X P call (.fn f [] []) (.agg (cs++rest)::xs) H (.map H.length) (H++[.map es]):=by
 intro A m h tf sJ hr hf hx;obtain⟨x0,r,rfl,v0,vr⟩:=hx.inv;cases v0 with
 |gone hi _ _=>simp[bn]at hi
 |agg a1 a2=>
  rename_i cs';have ha:bY X P (AA A m) m h (cs++rest) cs':=⟨a1,a2⟩;obtain⟨c1,c2,rfl,b1,b2⟩:=Ez ha;have hF:=iE (h:=h) is m;have w1:=(lQ (m':=bW is m) hX hr b1 hv ho).mono fun b hb=>FA.gone hr hb;have w2:=b2.step hF.1 hF.2;have w3:=w1.app w2;have ZM:=hr.aZ is;obtain⟨w,h',Uh,m1,k1,k2,k3,k4,k5,k6⟩:=hs A (bW is m) h tf (.agg (c1++c2)::r) ZM (hf.step hF.1 hF.2) (.cons (.agg w3.1 w3.2) (vr.step hF.1 hF.2));have e0:∀b,b∉bD (bW is m):=fun b hb=>by
   unfold bD at hb;obtain⟨mb,h1,h2⟩:=a5X.1 hb;obtain⟨i,hi,e⟩:=a9h h1;have Kw:i<H.length:=by have:=ZM.len;rw[og]at this;omega
   obtain⟨mb2,g1,g2⟩:=ZM.at_ i .gone (by rw[hg,adv,a0u Kw]);rw[a0b hi,e]at g1;cases g1;cases mb with
   |gone=>cases h2
   |_=>exact g2.elim
  obtain⟨mb,g1,g2⟩:=k2.at_ H.length (.map es) (by rw[a0G (by rw[og];exact a0x _),og];simp);cases mb with
  |gu c=>
   have hc:c∈bD m1:=a5X.2 ⟨_,a4N g1,rfl⟩;have KC:h.length<=c:=(k4.new c hc).resolve_left (e0 c);have yw:bD (m++[.gu c])=bD m++[c]:=by unfold bD;rw[List.filterMap_append];rfl
   have hF2:Fr m h (m++[.gu c]) h':=⟨k4.len,fun b hb _=>k4.same b hb (e0 b),fun b hb=>by
    rw[yw]at hb;rcases a2L.1 hb with hb|hb
    .exact .inl hb
    .rw[a2D.1 hb];exact .inr KC,k4.grow⟩
   have hU2:Up m (m++[.gu c]):=fun i mb hi=>.inl (by rw[a0g (a05.1 hi).1];exact hi);have hm:(m++[MB.gu c])[H.length]? = some (.gu c):=by rw[<-hr.len];simp
   refine⟨w,h',Uh,m++[.gu c],k1,⟨by simp[hr.len],fun i b hi=>?_,?_,k2.up,fun b hb=>?_⟩,?_,hF2,hU2,fun b hb=>absurd (k6 b hb) (e0 b)⟩
   .by_cases aQ:i<H.length
    .rw[a0g aQ]at hi;obtain⟨mb,q1,q2⟩:=hr.at_ i b hi;exact⟨mb,by rw[a0g (by rw[hr.len];exact aQ)];exact q1,q2.step hF2 hU2 fun d hd=>k4.same d (BR.has q2 hd) (e0 d)⟩
    .have Kw:i=H.length:=by
      have:=(a05.1 hi).1;rw[a1t,a3J]at this;omega
     subst Kw;rw[a0G (a0x _)]at hi;simp at hi;subst hi;exact⟨_,hm,g2⟩
   .rw[yw];refine a99.2 ⟨hr.nodup,by simp,fun a ha b hb=>?_⟩;rw[a2D.1 hb];have:=hr.inb ha;omega
   .rw[yw]at hb;rcases a2L.1 hb with hb|hb
    .exact hr.Di b hb
    .rw[a2D.1 hb];exact k2.Di c hc
   .cases k3 with
    |map e=>rw[g1]at e;cases e;exact .map hm
    |gone hi e o=>simp only[bn,a04]at hi;subst hi;rw[g1]at e;cases e
  |_=>exact g2.elim
variable {A:Nat->Prop} {m m':List MB} {H:List (PB X.Γ)} {h:List HB}
theorem abw(hX:bP X P){k:Bool}{t i:Nat}{l:List (X.Γ t)}{x:TV}(hl:LR X P (AA A m) m h k true t l x)(hi:m[i]? = some (.dF x)){is:List Nat}(hs:i∈is):VR X P (FA A m is) m' h (.dF t l true) x:=by
 cases hl with
 |nil=>exact .pz
 |emp h0 h1 h2 h3 h4=>exact .dF (.inl h0) h1 (fun e=>absurd rfl e) h3 h4 (by simpa using h2) (a0x _) (fun _=>⟨rfl,rfl⟩) (fun j a hj=>by simp at hj) (fun j a i c v hj=>by simp at hj)
 |some h1 h2 h3 h4 h5 h6 h7 h8 h9=>
  refine .dF (cs:=_) (.inr ⟨i,_,hs,hi,?_⟩) (by unfold aV;rw[h4]) (fun _=>wX h4 (by omega)) h2 h3 (by omega) (a0x _) (fun _=>⟨h7 rfl,rfl⟩) h9.1 ?_
  .simp only[MB.own];rw[a0o (by simpa using h1)]
  intro j a q c v e1 e2 e3;exact((h9.2.2 j a q c v e1 e2 e3).mono fun b hb=>.inl hb).jw hX (fD (hX.jw _ _) e2)
theorem aW.full(hX:bP X P){call:bf}{fv v:PV X.Γ}{xs:List (PV X.Γ)}{H H1:List (PB X.Γ)}{i t:Nat}{k:Bool}{l:List (X.Γ t)}(hk:H[i]? = some (.list k true t l))(hs:aW X P call fv (.dF t l true::xs) (aZ [i] H) v H1):aW X P call fv (.own i::xs) H v H1:=by
 intro A m h tf sJ hr hf hx;obtain⟨x0,r,rfl,v0,vr⟩:=hx.inv;obtain⟨mb,g1,g2⟩:=hr.at_ i _ hk;cases mb with
 |dF y=>
  have hy:x0=y:=by
   cases v0 with
   |own e _=>rw[g1]at e;cases e;rfl
   |gone hi e _=>simp only[bn,a04]at hi;subst hi;rw[g1]at e;cases e
  subst hy;have hF:=iE (h:=h) [i] m;have w1:VR X P (AA A (bW [i] m)) (bW [i] m) h (.dF t l true) x0:=(abw (m':=bW [i] m) hX g2 g1 (is:=[i]) (by simp)).mono fun b hb=>FA.gone hr hb;obtain⟨w,h',Uh,m1,k1,k2,k3,k4,k5,k6⟩:=hs A (bW [i] m) h tf (x0::r) (hr.aZ [i]) (hf.step hF.1 hF.2) (.cons w1 (vr.step hF.1 hF.2));refine⟨w,h',Uh,m1,k1,k2,k3,hF.1.trans k4,hF.2.trans k5,fun b hb=>?_⟩;rcases hF.1.new b (k6 b hb)with g|g
  .exact g
  have:=(hr.aZ [i]).inb (k6 b hb);omega
 |_=>exact g2.elim
end
end Pv
namespace Go.Proofs.YtmobpoiejckagaaGreat
open Go Tw Pv bZ
abbrev lkC(no:Bool)(n:Int)(s:PV aG):List (PV aG):=[.int .u8 8,.bool no,.bool false,.int .i64 n,.int .i64 0,.int .i64 0,.bool false,s,.nil .slc]
abbrev wLk(l:List Dg)(d:Dg)(n:Int)(s:PV aG)(H:List (PB aG))(i:Int)(x:List (Nat×PE aG)):aS aG:=⟨[(3,.loc 0 0),(4,.loc 1 0),(31,.val (.dF 26 l true)),(32,xi l.length),(33,xi i)]++x,[d.ps,lkC false n s],H⟩
abbrev hLk(b:Int):List (PB aG):=[.list true true 3 ([b]:List Int)]
def alz(l:List Dg)(d:Dg)(i:Int)(x:List (Nat×PE aG)):Option (Int×Int)->aS aG
 |none=>wLk l d 0 (.nil .slc) [] i x
 |some (b,z)=>wLk l d z (.own 0) (hLk b) i x
def tLk(l:List Dg)(d:Dg)(k:Nat):List (V×Int):=dP (bJ [l.getD k jU,d])
def mLk(l:List Dg)(d:Dg)(k:Nat):Int:=Qr (sD (tLk l d k))
def gLk(l:List Dg)(d:Dg)(k:Nat)(s:Option (Int×Int)):Option (Int×Int)⊕(Option (Int×Int)×Nat):=
 if tLk l d k=[]then .inr (s,k)else match s with
  |none=>.inl (some ((k:Int),mLk l d k))
  |some (b,z)=>if decide (mLk l d k<z)=true then .inl (some ((k:Int),mLk l d k))else .inl (some (b,z))
def zLk(l:List Dg)(d:Dg):Option (Int×Int)⊕(Option (Int×Int)×Nat)->Ex×aS aG
 |.inl s=>(.exit 1,alz l d l.length [(34,xl false)] s)
 |.inr (none,k)=>(.ret,⟨[(4,.loc 1 0),(5,xi 0)],[d.ps,lkC true 0 (.nil .slc),(l.getD k jU).ps],[]⟩)
 |.inr (some (b,z),k)=>(.ret,⟨[(4,.loc 1 0),(5,xi 0)],[d.ps,lkC true z (.own 0),(l.getD k jU).ps],hLk b⟩)
structure LkP(l:List Dg)(d:Dg):Prop where
 p:∀x∈l++[d],nI x
 g:∀x∈l++[d],DgG x∧x.aj=((l++[d]).getD 0 jU).aj∧x.aB=((l++[d]).getD 0 jU).aB
theorem LkP.j{l:List Dg}{d:Dg}(h:LkP l d){k:Nat}(hk:k<l.length):jq (bJ [l.getD k jU,d]):=by
 have h1:=h.g (l.getD k jU) (a5s _ (dK hk));have h2:=h.g d (abZ _ (a2D.2 rfl));exact adQ (D:=[l.getD k jU,d]) (by simp) (by simp) (VP (P:=fun x=>DgG x∧x.aj=(l.getD k jU).aj∧x.aB=(l.getD k jU).aB) ⟨h1.1,rfl,rfl⟩ ⟨h2.1,h2.2.1.trans h1.2.1.symm,h2.2.2.trans h1.2.2.symm⟩)
theorem lLk{n:Nat}(hn:24<=n)(hO:∀m,n-24<=m->Ok m qP){l:List Dg}{d:Dg}(h:LkP l d)(hl:l.length<=ah):Lp n 39 0 (wLk l d 0 (.nil .slc) [] 0 []) (zLk l d (kP (gLk l d) l.length 0 none)).1 (zLk l d (kP (gLk l d) l.length 0 none)).2:=by
 refine jh (st:=fun i s=>alz l d i [] s) (g:=gLk l d) (out:=zLk l d) (s0:=none) (fun k s=>k=0↔s=none) (by kernel_rfl) hl (by simp) (fun k s m hk hi ih=>?_) (fun s _=>?_)
 .have hJ:=h.j hk;have ht:JQ (tLk l d k):=U3 hJ;have s1:=JU (n:=n) (f:=79) (by omega) (fun m hm=>hO m (by omega)) (D:=[l.getD k jU,d]) (by simp) hJ.bU.len (k:=true) (ex:=true);have s2:=a8E (k:=true) (ex:=true) (k2:=true) (LV:=true) (Qn hJ (n:=n-2) (f:=79) (hO _ (by omega)) (show 0<[l.getD k jU,d].length by simp));rw[show n-2+2=n by omega]at s2
  change aW _ _ _ _ _ _ _ [.gone,.gone,.map (kV.im (tLk l d k))]at s2
  unfold gLk;by_cases h0:tLk l d k=[]
  .rw[a0u h0];rw[h0]at s2;have hz:(((kV.im ([]:List (V×Int))).length:Int)==0)=true:=rfl;rcases s with _|⟨b,z⟩
   .exact aO gy (.b (bF hk) (.o (aH hk) (.fr [0] s1 (.fr [0,1] s2 (.b hz (.ouG [.gc []] nofun))))))
   exact aO gy (.b (bF hk) (.o (aH hk) (.fr [1] s1 (.fr [1,2] s2 (.b hz (.ouG [.gc [0]] nofun))))))
  rw[a0o h0];have hz:(((kV.im (tLk l d k)).length:Int)==0)=false:=by
   rw[kV.qg];exact bne (by have:=aah.2 h0;omega)
  have s3:=alv (n:=n-1) (t:=tLk l d k) (k:=true);have s4:=alx (n:=n-3) ht h0;have s5:=aly (n:=n-1) ht h0;rw[show n-1+1=n by omega]at s3 s5;rw[show n-3+3=n by omega]at s4;rcases s with _|⟨b,z⟩
  .have hk0:k=0:=hi.2 rfl;have hb:((k:Int)==0)=true:=by rw[hk0];rfl
   exact aO gy (.b (bF hk) (.o (aH hk) (.fr [0] s1 (.fr [0,1] s2 (.b hz (.fr [2] s3 (.QK (H2:=[.map (kV.im (tLk l d k)),.cells [.map 0],.nK ((sD (tLk l d k)).map LU)]) [2,3] [0,1] s4 (.fr [4] s5 (.b hb (.nxG [.gc [5]] (ih _ (by simp))))))))))))
  have hk0:k≠0:=fun e=>by cases hi.1 e
  have hb:((k:Int)==0)=false:=bne (by omega);exact aO gy (.b (bF hk) (.o (aH hk) (.fr [1] s1 (.fr [1,2] s2 (.b hz (.fr [3] s3 (.QK (H2:=[.map (kV.im (tLk l d k)),.cells [.map 0],.nK ((sD (tLk l d k)).map LU)]) [3,4] [0,1] s4 (.fr [5] s5 (.b hb (.ls (.nxG [.gc [6]] (ih _ (by simp))) (.nxG [.gc [0]] (ih _ (by simp)))))))))))))
 rcases s with _|⟨b,z⟩
 .exact aO gy (.b (fF l.length) (.ou nofun))
 exact aO gy (.b (fF l.length) (.ou nofun))
theorem agr{n:Nat}{l:List Dg}:aW X0 Qp (bT (n+1)) (.fn 93 [] []) [.dF 26 l true] [] (.dF 26 l true) []:=fV gy (first:=[]) (cap:=[]) (.o (rfl:((0:Nat):Int)=0) (.o (rfl:(l.length:Int)=(l.length:Int)) (.o (rfl:(l.length:Int)=(l.length:Int)) .er)))
def alA:Option (Int×Int)⊕(Option (Int×Int)×Nat)->An
 |.inl none=>⟨8,false,false,0,0,0,false,[]⟩
 |.inl (some (b,z))=>⟨8,false,false,z,0,0,false,[b]⟩
 |.inr (none,_)=>⟨8,true,false,0,0,0,false,[]⟩
 |.inr (some (b,z),_)=>⟨8,true,false,z,0,0,false,[b]⟩
def Ny(p:List Dg×Dg):An×Int:=if decide ((p.1.length:Int)>4)=true then(An0,5)else if(aY (p.1++[p.2]) != 0)=true then(An0,aY (p.1++[p.2]))else if((p.1.length:Int)==0)=true then(An0,7)else(alA (kP (gLk p.1 p.2) p.1.length 0 none),0)
theorem abx{n:Nat}(hn:24<=n)(Bc:Ok n a8H)(Gq:∀m,n-24<=m->Ok m qP){l:List Dg}{d:Dg}(h1:∀x∈l++[d],nI x)(h2:l.length<=1000):oN X0 Qp (bT (n+1)) 39 [.dF 26 l true,.agg d.ps] ((dQ (a2 Wh iA)).put (Ny (l,d))) []:=by
 have hl:l.length<=ah:=by unfold ah;omega
 have h3:0<(l++[d]).length∧(l++[d]).length<=ah:=by rw[a1t,a3J];unfold ah;omega
 have h4:l.length+[d].length<=ah:=by rw[a3J];unfold ah;omega
 have h5:l=[]∨[d]≠[]:=.inr (by simp);have s0:=agr (n:=n-1) (l:=l);rw[show n-1+1=n by omega]at s0;show oN X0 Qp _ _ _ ((dQ (a2 Wh iA)).put (if decide ((l.length:Int)>4)=true then(An0,5)else if(aY (l++[d]) != 0)=true then(An0,aY (l++[d]))else if((l.length:Int)==0)=true then(An0,7)else(alA (kP (gLk l d) l.length 0 none),0))) _;cases e1:decide ((l.length:Int)>4)
 .cases e2:(aY (l++[d]) != 0)
  .cases e3:((l.length:Int)==0)
   .have hk:LkP l d:=⟨h1,VO h1 (by simpa using e2)⟩;have lp:=lLk (n:=n) hn Gq hk hl;revert lp;rcases kP (gLk l d) l.length 0 none with(_|⟨b,z⟩)|⟨_|⟨b,z⟩,k⟩
    .intro lp;exact aN Bc (.b e1 (.fr [] s0 (.o h4 (.o h5 (.o h1 (.o h3 (.b e2 (.b e3 (.wG [.gc []] lp (rA ⟨8,false,false,0,0,0,false,[]⟩ rfl _))))))))))
    .intro lp;exact aN Bc (.b e1 (.fr [] s0 (.o h4 (.o h5 (.o h1 (.o h3 (.b e2 (.b e3 (.wG [.gc []] lp .rr)))))))))
    .intro lp;exact aN Bc (.b e1 (.fr [] s0 (.o h4 (.o h5 (.o h1 (.o h3 (.b e2 (.b e3 (.wG [.gc []] lp (rA ⟨8,true,false,0,0,0,false,[]⟩ rfl _))))))))))
    intro lp;exact aN Bc (.b e1 (.fr [] s0 (.o h4 (.o h5 (.o h1 (.o h3 (.b e2 (.b e3 (.wG [.gc []] lp .rr)))))))))
   exact aN Bc (.b e1 (.fr [] s0 (.o h4 (.o h5 (.o h1 (.o h3 (.b e2 (.b e3 (rA _ rfl _)))))))))
  exact aN Bc (.b e1 (.fr [] s0 (.o h4 (.o h5 (.o h1 (.o h3 (.b e2 (rA _ rfl _))))))))
 exact aN Bc (.b e1 (rA _ rfl _))
theorem alB{n:Nat}(hn:24<=n)(Bc:Ok n a8H)(Gq:∀m,n-24<=m->Ok m qP){k:Bool}{l:List Dg}{d:Dg}(h1:∀x∈l++[d],nI x)(h2:l.length<=1000):aW X0 Qp (bT (n+1)) (.fn 39 [] []) [.own 0,.agg d.ps] [.list k true 26 l] ((dQ (a2 Wh iA)).put (Ny (l,d))) [.gone]:=by
 have h:=oN.a0f hX (first:=[]) (cap:=[]) (xs:=[.dF 26 l true,.agg d.ps]) (abx hn Bc Gq h1 h2) rfl rfl rfl rfl;have h2:=aW.frame hX (ks:=[]) (H':=[.gone]) (Hp:=[]) (Qy:=[]) (v':=(dQ (a2 Wh iA)).put (Ny (l,d))) (fv':=.fn 39 [] []) (xs':=[.dF 26 l true,.agg d.ps]) h (by decide) rfl rfl rfl rfl rfl rfl rfl;exact aW.full hX (i:=0) (k:=k) (t:=26) (l:=l) rfl h2
open Go Tw Pv bZ
def jg(d:Dg)(g:List Int):Jb:=⟨d.aj,d.aB,[d],g⟩
structure GOk(d:Dg)(g:List Int):Prop where
 len:g.length=d.aj.length
 v:∀c,gJ c d.aj.length->0<=g.getD c.toNat 0->g.getD c.toNat 0<d.aj.getD c.toNat 0
theorem alC{d:Dg}(hJ:jq (bJ [d])){g:List Int}(h:GOk d g):jq (jg d g):=⟨hJ.d3,hJ.bU,hJ.ord,fun k hk=>have h:=hJ.dg k hk;⟨h.t,h.n,h.s,h.o,h.rk,h.two⟩,h.len,h.v⟩
theorem GOk.set{d:Dg}{g:List Int}(h:GOk d g){c k:Nat}(hk:(k:Int)<d.aj.getD (c:Int).toNat 0):GOk d (g.set (c:Int).toNat (k:Int)):=by
 refine⟨by rw[a4O];exact h.len,fun c2 KC h2=>?_⟩;by_cases e:(c:Int).toNat=c2.toNat
 .obtain⟨q0,q1⟩:=KC;rw[<-e,a2K,a1u (by rw[h.len];omega)];exact hk
 rw[a2K,a0L e,<-a2K]at h2 ⊢;exact h.v c2 KC h2
theorem aqy{d:Dg}(hJ:jq (bJ [d])):GOk d (bJ [d]).g:=⟨hJ.gl,hJ.gv⟩
abbrev jcF(d:Dg):List (PV aG):=[lI d.aj,lI d.aB,.own 0,.own 1,.fn 79 [] []]
abbrev hF(d:Dg)(g:List Int):List (PB aG):=[.list true true 26 [d],.list true true 3 g]
abbrev wFo(d:Dg)(v:V)(g:List Int)(c:Int)(x:List (Nat×PE aG)):aS aG:=⟨[(3,.loc 1 0),(6,.loc 2 0),(29,xL 3 d.aj),(30,xi d.aj.length),(31,xi c)]++x,[d.ps,v.ps,jcF d],hF d g⟩
abbrev wFi(d:Dg)(v:V)(g:List Int)(c:Int)(i:Int)(x:List (Nat×PE aG)):aS aG:=⟨[(3,.loc 1 0),(6,.loc 2 0),(8,xi c),(29,xL 3 d.aj),(30,xi d.aj.length),(31,xi c),(36,xi (d.aj.getD c.toNat 0)),(37,xi i)]++x,[d.ps,v.ps,jcF d],hF d g⟩
theorem adS{n f:Nat}{J:Jb}{k ex k2 LV:Bool}(h:aW X0 Qp (bT n) (.fn 87 [] []) [.agg (J.ps (.fn f [] []))] [] (.map 0) [.map (kV.im (dP J))]):aW X0 Qp (bT n) (.fn 87 [] []) [a8F J f 0 1] [.list k ex 26 J.D,.list k2 LV 3 J.g] (.map 2) [.list k ex 26 J.D,.list k2 LV 3 J.g,.map (kV.im (dP J))]:=by
 have h1:=aW.frame hX (ks:=[]) (H':=[.gone,.gone]) (Hp:=[]) (Qy:=[.map (kV.im (dP J))]) (v':=.map 2) (fv':=.fn 87 [] []) (xs':=[.agg (J.ps (.fn f [] []))]) h (by decide) rfl rfl rfl rfl rfl rfl rfl;exact aW.lend hX (H:=[.list k ex 26 J.D,.list k2 LV 3 J.g]) (cs:=[lI J.s,lI J.o,.own 0,.own 1]) (rest:=[.fn f [] []]) [0,1] h1 rfl (fun i hi=>by simpa[lu.kH,lu]using hi) rfl
def lkF(d:Dg)(v:V)(g:List Int):Int:=look (dP (jg d g)) v
def gIn(d:Dg)(v:V)(c:Nat)(k:Nat)(g:List Int):List Int⊕(List Int×Nat):=if decide (lkF d v (g.set (c:Int).toNat (k:Int))>0)=true then .inr (g.set (c:Int).toNat (k:Int),k)else .inl (g.set (c:Int).toNat (k:Int))
def oIn:List Int⊕(List Int×Nat)->List Int
 |.inl g=>g
 |.inr r=>r.1
def nIn(d:Dg)(c:Nat):Nat:=(d.aj.getD (c:Int).toNat 0).toNat
def a4p(d:Dg)(v:V)(c:Nat)(g:List Int):List Int:=oIn (kP (gIn d v c) (nIn d c) 0 g)
def zFi(d:Dg)(v:V)(c:Nat):List Int⊕(List Int×Nat)->Ex×aS aG
 |.inl g=>(.exit 3,wFi d v g (c:Int) (nIn d c) [(38,xl false)])
 |.inr (g,k)=>(.exit 2,wFi d v g (c:Int) k [(49,xl true)])
theorem a8M{d:Dg}{v:V}{c:Nat}:∀(m k:Nat) (g:List Int),k+m<=nIn d c->GOk d g->GOk d (oIn (kP (gIn d v c) m k g))
 | 0,_,g,_,h=>h
 |m+1,k,g,hk,h=>by
  have h1:GOk d (g.set (c:Int).toNat (k:Int)):=h.set (by unfold nIn at hk;omega);simp only[kP,gIn];by_cases e:decide (lkF d v (g.set (c:Int).toNat (k:Int))>0)=true
  .rw[a0u e];exact h1
  rw[a0o e];exact a8M m (k+1) _ (by omega) h1
section
variable {n:Nat} (hn:24<=n) (hO:∀ m,n-24<=m->Ok m qP) {d:Dg} (hJ:jq (bJ [d])) {v:V}
include hn hO hJ
theorem lFi{c:Nat}(hc:c<d.aj.length){g:List Int}(hg:GOk d g):Lp n 28 1 (wFi d v g (c:Int) 0 []) (zFi d v c (kP (gIn d v c) (nIn d c) 0 g)).1 (zFi d v c (kP (gIn d v c) (nIn d c) 0 g)).2:=by
 have hz:=hJ.bU.sz (d.aj.getD (c:Int).toNat 0) (dB (show(c:Int).toNat<d.aj.length by simpa using hc));have hN:((nIn d c:Nat):Int)=d.aj.getD (c:Int).toNat 0:=by unfold nIn;omega
 refine jh (st:=fun i g=>wFi d v g (c:Int) i []) (g:=gIn d v c) (out:=zFi d v c) (s0:=g) (fun k g=>GOk d g) (by kernel_rfl) (by unfold ah;omega) hg (fun k g m hk hi ih=>?_) (fun g _=>?_)
 .have t1:decide ((k:Int)<d.aj.getD (c:Int).toNat 0)=true:=by rw[<-hN,a0N];omega
  have hg2:GOk d (g.set (c:Int).toNat (k:Int)):=hi.set (by rw[<-hN];omega);have i1:gJ (c:Int) g.length:=by rw[hi.len];exact aH hc
  have s2:=adS (k:=true) (ex:=true) (k2:=true) (LV:=true) (Qn (alC hJ hg2) (n:=n-2) (f:=79) (hO _ (by omega)) (show 0<[d].length by simp));rw[show n-2+2=n by omega]at s2;unfold gIn lkF;rcases IB (xI (jg d (g.set (c:Int).toNat (k:Int)))) v with hf|⟨hz2,hf⟩
  .exact aO gy (.b t1 (.o i1 (.fr [0,1] s2 (.c (.int .i64 (look (dP (jg d (g.set (c:Int).toNat (k:Int)))) v)) [] hf (.ls (.ouG [.gc [0,1]] nofun) (.nxG [.gc [0,1]] (ih _ hg2)))))))
  rw[hz2];exact aO gy (.b t1 (.o i1 (.fr [0,1] s2 (.a .calm (.o hf (.ls (.ouG [.gc [0,1]] nofun) (.nxG [.gc [0,1]] (ih _ hg2))))))))
 have t1:decide (((nIn d c:Nat):Int)<d.aj.getD (c:Int).toNat 0)=false:=by rw[<-hN];exact fF _
 exact aO gy (.b t1 (.ou nofun))
set_option maxRecDepth 20000 in
theorem lFo:Lp n 28 0 (wFo d v (bJ [d]).g 0 []) (.exit 1) (wFo d v (aT (a4p d v) d.aj.length 0 (bJ [d]).g) d.aj.length [(32,xl false)]):=by
 have hl:d.aj.length<=ah:=by have:d.aj.length<=6:=hJ.bU.len;unfold ah;omega
 refine KQ (X:=X0) (N:=d.aj.length) (g:=a4p d v) (s0:=(bJ [d]).g) (st:=fun c g=>wFo d v g c []) (fin:=fun g=>wFo d v g d.aj.length [(32,xl false)]) (fun _ g=>GOk d g) (by kernel_rfl) hl QU (aqy hJ) (fun c g hc hg=>a8M (nIn d c) 0 g (by omega) hg) (fun c g hc hg m e p g9=>?_) (fun g _=>?_)
 .have lp:=lFi hn hO hJ (v:=v) hc hg;unfold a4p at g9;revert lp g9;rcases kP (gIn d v c) (nIn d c) 0 g with g1|⟨g1,k⟩
  .intro g9 lp;exact aO gy (.b (bF hc) (.o (aH hc) (.w lp (.go g9))))
  intro g9 lp;exact aO gy (.b (bF hc) (.o (aH hc) (.w lp (.go g9))))
 exact aO gy (.b (fF d.aj.length) .ex)
end
open Go Tw Pv bZ
def IE(p:Dg×V):List Int×Int:=if(aY [p.1] != 0)=true then([],aY [p.1])else if(kR p.2 != 0)=true then([],4)else if(look (dP (bJ [p.1])) p.2==0)=true then([],7)else(aT (a4p p.1 p.2) p.1.aj.length 0 (bJ [p.1]).g,0)
def alD:fA aG:=cO 28 (a2 dA vA) (dQ (a2 rZ iA)) IE (fun p=>[nI p.1]) a8H
theorem rF(e:Int):Fp (Γ:=X0.Γ) (Is (X:=X0) (P:=Qp) (dQ (a2 rZ iA)) (([]:List Int),e)) .n (.ret (some (.dM [.nil .slc,.int .i64 e]))):=by
 have h:(dQ (a2 rZ iA)).get (.dM [.nil .slc,.int .i64 e])=some (([]:List Int),e):=rfl;exact Fp.rn (X:=X0) (P:=Qp) _ h
theorem aqB:Gd alD:=Good.adA 30 alu L8 adR fun n hn hO Gq hO3 p hp=>by
 obtain⟨d,v⟩:=p;have h1:nI d:=hp _ (.head _);obtain⟨n,rfl⟩:∃k,n=k+1:=⟨n-1,by omega⟩;have Bc:=hO (n+1) (by omega);show oN X0 Qp _ _ _ ((dQ (a2 rZ iA)).put (if(aY [d] != 0)=true then([],aY [d])else if(kR v != 0)=true then([],4)else if(look (dP (bJ [d])) v==0)=true then([],7)else(aT (a4p d v) d.aj.length 0 (bJ [d]).g,0))) _;cases e1:(aY [d] != 0)
 .cases e2:(kR v != 0)
  .have s1:=alr (n:=n) (by omega) (hO3 n (by omega)) (fun m hm=>Gq m (by omega)) h1 e1 e2;have hJ:jq (bJ [d]):=uq (D:=[d]) (by simp) (by simp) (YB h1) (by simpa using e1);have s2:=adS (k:=true) (ex:=true) (k2:=true) (LV:=true) (Qn hJ (n:=n-1) (f:=79) (Gq _ (by omega)) (show 0<[d].length by simp));rw[show n-1+2=n+1 by omega]at s2;have lp:=lFo (n:=n+1) (by omega) (fun m hm=>Gq m (by omega)) hJ (v:=v);show oN X0 Qp _ _ _ ((dQ (a2 rZ iA)).put (if(look (dP (bJ [d])) v==0)=true then([],7)else(aT (a4p d v) d.aj.length 0 (bJ [d]).g,0))) _;rcases IB (xI (bJ [d])) v with hf|⟨hz,hf⟩
   .exact aN Bc (.fr [] s1 (.b (rfl:((0:Int) != 0)=false) (.fr [0,1] s2 (.c (.int .i64 (look (dP (bJ [d])) v)) [] hf (.ss (rF _) (.wG [.gc [0,1]] lp .rr))))))
   .rw[hz];exact aN Bc (.fr [] s1 (.b (rfl:((0:Int) != 0)=false) (.fr [0,1] s2 (.a .calm (.o hf (.ss (rF _) (.wG [.gc [0,1]] lp .rr)))))))
  .have s1:=alq (n:=n) (v:=v) (hO3 n (by omega)) h1 e1 e2;exact aN Bc (.fr [] s1 (.b (rfl:((4:Int) != 0)=true) (rF _)))
 .have s1:=alp (n:=n) (v:=v) (hO3 n (by omega)) h1 e1;exact aN Bc (.fr [] s1 (.b e1 (rF _)))
end Go.Proofs.YtmobpoiejckagaaGreat
namespace Pv
open Go Tw
section
variable {X:l7} {P:Program}
theorem aW.cell1(hX:bP X P){call:bf}{fv v:PV X.Γ}{SI ws1 cs Xc ws2:List (PV X.Γ)}{H H1:List (PB X.Γ)}{i e sz:Nat}{row:X.Γ e}(is:List Nat)(hi:H[i]? = some (.cells cs))(hz:dG P e=some sz)(h0:0<sz)(hl:cs.length=sz)(ZM:(X.enc e row).length=sz)
  (hs:aW X P call fv [.agg (ws1++(.dF e [row] false::ws2))] (aZ (i::is) H) v H1) (v1:views H SI=some ws1) (v2:views H cs=some (X.enc e row)) (v3:views H Xc=some ws2)
  (o1:∀j,j∈lu.kH SI->j∈i::is) (o2:∀j,j∈lu.kH cs->j∈i::is) (o3:∀j,j∈lu.kH Xc->j∈i::is):aW X P call fv [.agg (SI++(.slc i 0 1 1 sz true::Xc))] H v H1:=by
 intro A m h tf sJ hr hf hx;obtain⟨x0,r,rfl,v0,vr⟩:=hx.inv;cases v0 with
 |gone hi _ _=>simp[bn]at hi
 |agg a1 a2=>
  rename_i cs';have ha:bY X P (AA A m) m h (SI++(.slc i 0 1 1 sz true::Xc)) cs':=⟨a1,a2⟩;obtain⟨c1,c2,rfl,b1,b2⟩:=Ez ha;obtain⟨y,c3,rfl,b3,b4⟩:=b2.inv;obtain⟨mb,g1,g2⟩:=hr.at_ i _ hi;cases mb with
  |gu b=>
   obtain⟨ts,g3,g4⟩:=g2;have hy:y=.slc b 0 1 1 sz true:=by
    cases b3 with
    |slc q=>rw[g1]at q;cases q;rfl
    |gone hi q _=>simp only[bn,a04]at hi;subst hi;rw[g1]at q;cases q
   subst hy;have hF:=iE (h:=h) (i::is) m;have w1:=(lQ (m':=bW (i::is) m) hX hr b1 v1 o1).mono fun b hb=>FA.gone hr hb;have w3:=(lQ (m':=bW (i::is) m) hX hr b4 v3 o3).mono fun b hb=>FA.gone hr hb;have w2:=lQ (m':=bW (i::is) m) hX hr g4 v2 o2;have hb:FA A m (i::is) b:=.inr ⟨i,_,a2S,g1,rfl⟩;have q2:VR X P (FA A m (i::is)) (bW (i::is) m) h (.dF e [row] false) (.slc b 0 [row].length 1 sz true):=.dF (cs:=ts) hb (by unfold aV;rw[g3]) (fun _=>wY g3 (by simp)) hz h0 (by rw[<-g4.1,hl];simp) (a0x _) (fun e=>by cases e)
    (fun j a hj=>by
     cases j with
     |zero=>simp only[a2F,a04]at hj;subst hj;exact ZM
     |succ j=>simp at hj) (fun j a q c w hj hq hw=>by
     cases j with
     |zero=>simp only[a2F,a04]at hj;subst hj;exact w2.2 q c w hq (by simpa using hw)
     |succ j=>simp at hj)
   have w4:=w1.app (.cons (q2.mono fun b hb=>FA.gone hr hb) w3);obtain⟨w,h',Uh,m1,k1,k2,k3,k4,k5,k6⟩:=hs A (bW (i::is) m) h tf (.agg (c1++(.slc b 0 1 1 sz true::c3))::r) (hr.aZ (i::is)) (hf.step hF.1 hF.2) (.cons (.agg w4.1 w4.2) (vr.step hF.1 hF.2));refine⟨w,h',Uh,m1,k1,k2,k3,hF.1.trans k4,hF.2.trans k5,fun b hb=>?_⟩;rcases hF.1.new b (k6 b hb)with g|g
   .exact g
   .have:=(hr.aZ (i::is)).inb (k6 b hb);omega
  |_=>exact g2.elim
end
end Pv
namespace Go.Proofs.YtmobpoiejckagaaGreat
open Go Tw Pv bZ
abbrev dz:List (PV aG):=[.nil .slc,.nil .slc,.nil .slc,.nil .slc,.int .i64 0]
abbrev cCh(s o:List Int):List (PV aG):=[lI s,lI o,.own 1,.slc 0 0 1 1 2 true,.int .i64 0]
abbrev hCh(c:Int)(x:List V×List Int):List (PB aG):=[.cells [.int .i64 c,.own 2],.list false false 39 x.1,.list false false 3 x.2]
abbrev wCh(s o:List Int)(c w n:Int)(y:List V×List Int)(i:Int)(x:List (Nat×PE aG)):aS aG:=⟨[(3,xi w),(8,.loc 0 0),(11,.loc 1 0),(47,xi n),(48,xi i)]++x,[dz,cCh s o],hCh c y⟩
def gCh(w:Int)(i:Nat)(y:List V×List Int):List V×List Int:=(y.1++[⟨0,i64.wrap (w+(i:Int))⟩],y.2++[i64.wrap (-1-(i:Int))])
def chE(w:Int)(n:Nat):List V:=(List.range n).map fun(i:Nat)=>(⟨0,i64.wrap (w+(i:Int))⟩:V)
def chK(n:Nat):List Int:=(List.range n).map fun(i:Nat)=>i64.wrap (-1-(i:Int))
theorem YD(w:Int):∀n,aT (gCh w) n 0 ([],[])=(chE w n,chK n)
 | 0=>rfl
 |n+1=>by
  rw[uh,YD w n,a3H];unfold gCh chE chK;rw[adK,a4C,a4C];rfl
theorem lCh{n:Nat}{s o:List Int}{c w:Int}{z:Nat}(hz:z<=12)(h0:s.getD c.toNat 0=(z:Int)):Lp n 57 0 (wCh s o c w (s.getD c.toNat 0) ([],[]) 0 []) (.exit 0) (wCh s o c w (s.getD c.toNat 0) (chE w z,chK z) z [(49,xl false)]):=by
 rw[<-YD w z,h0];refine KQ (X:=X0) (N:=z) (g:=gCh w) (s0:=([],[])) (st:=fun i y=>wCh s o c w (z:Int) y i []) (fin:=fun y=>wCh s o c w (z:Int) y z [(49,xl false)]) (fun k y=>y.1.length=k∧y.2.length=k) (by kernel_rfl) (by unfold ah;omega) QU ⟨rfl,rfl⟩ (fun k y hk hi=>?_) (fun k y hk hi m e p g9=>?_) (fun y _=>?_)
 .unfold gCh;simp[hi.1,hi.2]
 .obtain⟨E,K⟩:=y;have a1:E.length+[(⟨0,i64.wrap (w+(k:Int))⟩:V)].length<=ah:=by rw[a3J];have:E.length=k:=hi.1;unfold ah;omega
  have a2:K.length+[i64.wrap (-1-(k:Int))].length<=ah:=by rw[a3J];have:K.length=k:=hi.2;unfold ah;omega
  exact aO gy (.b (bF hk) (.o a1 (.o a2 (.goG [.gc [0,4,6]] g9))))
 exact aO gy (.b (fF z) .ex)
def chD(s o:List Int)(c w:Int)(z:Nat):Dg:=⟨s,o,chE w z,[⟨c,chK z⟩],0⟩
theorem aby{n:Nat}(hO:Ok n a7P){s o:List Int}{c:Int}{y:List V×List Int}(hd:let d:Dg:=⟨s,o,y.1,[⟨c,y.2⟩],0⟩;Ew d∧d.aj.length<=ah∧d.aB.length<=2^20∧d.aI.length<=ah∧(((bH d).2 != 0)=false->ClP (bH d).1)) :
  aW X0 Qp (bT n) (.fn 108 [] []) [.agg (cCh s o)] (hCh c y) ((dQ (a2 dA iA)).put (zT ⟨s,o,y.1,[⟨c,y.2⟩],0⟩)) [.gone,.gone,.gone]:=by
 obtain⟨h1,h2,h3,h4,h5⟩:=hd;have k0:aW X0 Qp (bT n) (.fn 108 [] []) [.agg (⟨s,o,y.1,[⟨c,y.2⟩],0⟩:Dg).ps] [] ((dQ (a2 dA iA)).put (zT ⟨s,o,y.1,[⟨c,y.2⟩],0⟩)) []:=oN.a0f hX (first:=[]) (cap:=[]) (hO 108 [.agg (⟨s,o,y.1,[⟨c,y.2⟩],0⟩:Dg).ps] ((dQ (a2 dA iA)).put (zT ⟨s,o,y.1,[⟨c,y.2⟩],0⟩)) [] _ (by kernel_rfl) (fun p h=>by
  rcases a1J.1 h with rfl|h
  .exact h1
  rcases a1J.1 h with rfl|h
  .exact h2
  rcases a1J.1 h with rfl|h
  .exact h3
  rcases a1J.1 h with rfl|h
  .exact h4
  rw[a2D.1 h];exact h5)) rfl rfl rfl rfl
 have k1:=aW.frame hX (ks:=[]) (H':=[.gone,.gone,.gone]) (Hp:=[]) (Qy:=[]) (v':=(dQ (a2 dA iA)).put (zT ⟨s,o,y.1,[⟨c,y.2⟩],0⟩)) (fv':=.fn 108 [] []) (xs':=[.agg (⟨s,o,y.1,[⟨c,y.2⟩],0⟩:Dg).ps]) k0 (by decide) rfl rfl rfl rfl rfl rfl rfl;exact aW.cell1 hX (H:=hCh c y) (SI:=[lI s,lI o,.own 1]) (ws1:=[lI s,lI o,lV y.1]) (cs:=[.int .i64 c,.own 2]) (Xc:=[.int .i64 0]) (ws2:=[.int .i64 0]) (i:=0) (e:=105) (sz:=2) (row:=(⟨c,y.2⟩:Br)) [1,2] rfl (by kernel_rfl) (by decide) rfl rfl k1 rfl rfl rfl (fun j hj=>by simp[lu.kH,lu]at hj ⊢;omega) (fun j hj=>by simp[lu.kH,lu]at hj ⊢;omega) (fun j hj=>by simp[lu.kH,lu]at hj)
open Go Tw Pv bZ
theorem abz(w:Int)(z:Nat):(chE w z).length=z:=by simp[chE]
theorem abA(z:Nat):(chK z).length=z:=by simp[chK]
structure ChP(s o:List Int)(c w:Int)(z:Nat):Prop where
 f:bV s o=0
 ic:gJ c s.length
 ez:s.getD c.toNat 0=(z:Int)
 z12:z<=12
 w0:-9999<=w
 w1:w+z<=10000
section
variable {s o:List Int} {c w:Int} {z:Nat} (h:ChP s o c w z)
include h
theorem abB{v:V}(hv:v∈chE w z):∃j,j<z∧v=⟨0,w+(j:Int)⟩:=by
 unfold chE at hv;obtain⟨j,hj,rfl⟩:=a0H.1 hv;have:=a4L.1 hj;have:=h.w0;have:=h.w1;have:=h.z12;exact⟨j,by omega,by rw[wrap_small (by omega) (by omega)]⟩
theorem abC{k:Nat}(hk:k<z):(chK z).getD k 0=-1-(k:Int):=by
 have:=h.z12;unfold chK;rw[a2K,a4H,aaj hk];show i64.wrap (-1-(k:Int))=_;rw[wrap_small (by omega) (by omega)]
theorem ags:∀v∈chE w z,Ci v:=fun v hv=>by
 obtain⟨j,hj,rfl⟩:=abB h hv;have:=h.w0;have:=h.w1;exact pK.2 ⟨by show(0:Int)<=0;omega,by show(0:Int)<=4;omega,fun _=>⟨by show -9999<=w+(j:Int);omega,by show w+(j:Int)<=9999;omega⟩,fun hz=>absurd rfl hz⟩
theorem alE:Ew (chD s o c w z):=⟨fun i hi k hk=>by
 have:i=0:=by have:i<1:=hi;omega
 subst this;have hk3:k<z:=by rw[<-abA z];exact hk
 show G9 ((chK z).getD k 0);rw[abC h hk3,<-wrap_small (z:=-1-(k:Int)) (by have:=h.z12;omega) (by omega)];exact Qd _,by show G9 0;rw[<-wrap_small (z:=0) (by omega) (by omega)];exact Qd _,fun v hv=>(ags h v hv).2⟩
theorem abD:Ew (chD s o c w z)∧(chD s o c w z).aj.length<=ah∧(chD s o c w z).aB.length<=2^20∧(chD s o c w z).aI.length<=ah∧(((bH (chD s o c w z)).2 != 0)=false->ClP (bH (chD s o c w z)).1):=by
 obtain⟨bU,ord⟩:=jV.1 h.f;have hr:=alE h;have h6:s.length<=6:=bU.len;have RJ:o.length=s.length:=by unfold kD at ord;rw[a0N]at ord;exact ord.1
 have hl:=abz w z;have hz:=h.z12;have e1:(chD s o c w z).aI.length+1<=ah:=by show(chE w z).length+1<=ah;rw[hl];unfold ah;omega
 have e2:(chD s o c w z).aj.length<=ah:=by show s.length<=ah;unfold ah;omega
 refine⟨hr,e2,by show o.length<=2^20;omega,by omega,fun h0=>?_⟩;obtain⟨q1,q2⟩:=xE hr e1 e2 (by show o.length<=ah;unfold ah;omega) (by simpa using h0);rw[q1];exact q2
end
def Qs(p:List Int×List Int×Int×Int):Dg×Int:=if(bV p.1 p.2.1 != 0)=true then(jU,bV p.1 p.2.1)else if(!(Nu 0 (i64.wrap ((p.1.length:Int)-1)) p.2.2.1))=true then(jU,3)else if(!(Nu (-9999) (i64.wrap (i64.wrap (9999-p.1.getD p.2.2.1.toNat 0)+1)) p.2.2.2))=true then(jU,3)else zT (chD p.1 p.2.1 p.2.2.1 p.2.2.2 (p.1.getD p.2.2.1.toNat 0).toNat)
theorem agt{a b x:Int}(h:(!(Nu a b x))=false):a<=x∧x<=b:=by
 unfold Nu at h;by_cases h1:x>=a
 .simp[h1]at h;exact⟨h1,h⟩
 simp[h1]at h
theorem agu{s o:List Int}{c w:Int}(e1:(bV s o != 0)=false)(hc:gJ c s.length)(e3:(!(Nu (-9999) (i64.wrap (i64.wrap (9999-s.getD c.toNat 0)+1)) w))=false):ChP s o c w (s.getD c.toNat 0).toNat:=by
 have f:bV s o=0:=by simpa using e1
 obtain⟨bU,ord⟩:=jV.1 f;have hz:=bU.sz (s.getD c.toNat 0) (dB (show c.toNat<s.length by obtain⟨a,b⟩:=hc;omega));obtain⟨z0,z1⟩:=hz;obtain⟨w0,w1⟩:=agt e3;rw[wrap_small (z:=9999-s.getD c.toNat 0) (by omega) (by omega),wrap_small (by omega) (by omega)]at w1;exact⟨f,hc,by omega,by omega,w0,by omega⟩
def agv:fA aG:=cO 57 (a4 rZ rZ iA iA) (dQ (a2 dA iA)) Qs (fun p=>[p.1.length<=ah,p.2.1.length<=2^20]) alD
theorem aqE:Gd agv:=Good.Xu 0 aqB adG fun n hn hO Gq p hp=>by
 obtain⟨s,o,c,w⟩:=p;have h1:s.length<=ah:=hp _ (.head _);have h2:o.length<=2^20:=hp _ (.tail _ (.head _));have hc:(!(Nu 0 (i64.wrap ((s.length:Int)-1)) c))=false->gJ c s.length:=fun e2=>a8A e2 h1;have hP:=fun(e1:(bV s o != 0)=false) (e2:(!(Nu 0 (i64.wrap ((s.length:Int)-1)) c))=false) (e3:(!(Nu (-9999) (i64.wrap (i64.wrap (9999-s.getD c.toNat 0)+1)) w))=false)=>agu e1 (hc e2) e3;have lp:=fun(e1:(bV s o != 0)=false) (e2:(!(Nu 0 (i64.wrap ((s.length:Int)-1)) c))=false) (e3:(!(Nu (-9999) (i64.wrap (i64.wrap (9999-s.getD c.toNat 0)+1)) w))=false)=>lCh (n:=n) (s:=s) (o:=o) (c:=c) (w:=w) (hP e1 e2 e3).z12 (hP e1 e2 e3).ez;have s1:=fun(e1:(bV s o != 0)=false) (e2:(!(Nu 0 (i64.wrap ((s.length:Int)-1)) c))=false) (e3:(!(Nu (-9999) (i64.wrap (i64.wrap (9999-s.getD c.toNat 0)+1)) w))=false)=>aby (n:=n) (Gq n (by omega)) (s:=s) (o:=o) (c:=c) (y:=(chE w (s.getD c.toNat 0).toNat,chK (s.getD c.toNat 0).toNat)) (abD (hP e1 e2 e3));show oN X0 Qp _ _ _ ((dQ (a2 dA iA)).put (if(bV s o != 0)=true then(jU,bV s o)else if(!(Nu 0 (i64.wrap ((s.length:Int)-1)) c))=true then(jU,3)else if(!(Nu (-9999) (i64.wrap (i64.wrap (9999-s.getD c.toNat 0)+1)) w))=true then(jU,3)else zT (chD s o c w (s.getD c.toNat 0).toNat))) _;exact aN (hO n (by omega)) (.o h1 (.o h2 (.sh (fun _=>rE _) fun e1=>.sh (fun _=>rE _) fun e2=>.o (hc e2) (.sh (fun _=>rE _) fun e3=>.a (.QK [] [] (.nil .slc) []) (.o (hc e2) (.wG [.a3h 1 2 39,.UL 0 1 3] (lp e1 e2 e3) (.fr [0,1,2] (s1 e1 e2 e3) .rr)))))))
open Go Tw Pv bZ
structure VQ(d:Dg):Prop where
 t:C9 d
 n:d.au.length<=6000
 l:aX d=0
 f:vC d.aj
 o:d.aB.length<=ah
 e:d.aI.length<=ah
def gLs(d:Dg)(k:Nat)(l:List V):List V:=l++[kX d (iw d.aj k)]
theorem agw(d:Dg):aT (gLs d) (xZ d.aj) 0 []=cellsD d:=by
 have:=dw (g:=gLs d) (m:=xZ d.aj) (k:=0) (s:=[]) (fun k l=>l=(List.range k).map fun(k:Nat)=>kX d (iw d.aj k)) rfl (fun j l _ _ e=>by rw[gLs,e,adK,a4C];rfl);rw[a3H]at this;exact this
abbrev wLs(d:Dg)(y:List V)(i:Int)(x:List (Nat×PE aG)):aS aG:=⟨[(1,.loc 0 0),(3,.val (.own 0)),(4,xi i)]++x,[d.ps],[.list false false 39 y]⟩
theorem lLs{n:Nat}(hO:Ok n agv)(d:Dg)(h:VQ d):Px n 44 0 0 (wLs d [] 0 []) (.exit 0) (wLs d (cellsD d) (xZ d.aj) [(12,xl false)]):=by
 have hs:d.aj.length<=ah:=by have:=h.f.len;unfold ah;omega
 have hc:xZ d.aj<=ah:=by have:=h.f.xZ;have:=h.f.acu;have:=h.f.many;unfold ah;omega
 rw[<-agw d];refine yH (σ:=List V) (N:=xZ d.aj) (g:=gLs d) (s0:=[]) (st:=fun i y=>wLs d y i []) (fin:=fun y=>wLs d y (xZ d.aj) [(12,xl false)]) (fun k y=>y.length=k) (by kernel_rfl) hc rfl (fun j y hj hy=>by simp[gLs,hy]) (fun j y hj hy m e p g9=>?_) (fun y _=>?_)
 .have h2:y.length+[kX d (iw d.aj j)].length<=ah:=by rw[hy,a3J];omega
  exact aO hO (.o hs (.b (h.f.lt hj) (.o hs (.o h.f.sz (.o (show(0:Int)<=(j:Int) by omega) (.o (show(j:Int)<2^62 by unfold ah at hc;omega) (.o h.t (.o h.n (.o (uj (j:Int) h.f.sz) (.o h2 (.goG [.gc [2]] g9)))))))))))
 exact aO hO (.o hs (.b h.f.no .ex))
def alG:fA aG:=cO 44 (a1 dA) vsA cellsD (fun d=>[VQ d]) agv
theorem aqF:Gd alG:=aqE.add fun n hO p hp=>by
 have h:VQ p:=hp _ (.head _);have hb:(aX p != 0)=false:=by rw[h.l];rfl
 exact aN hO (.o h.o (.o h.e (.b hb (.wG [.Jc 3 39] (lLs (n:=n) hO p h) .rr))))
def alH:fA aG:=cO 81 (a1 rZ) rZ (fun p=>p) (fun p=>[p.length<=ah]) alG
theorem aqG:Gd alH:=aqF.add fun n hO p hp=>aN hO (.o (hp _ (.head _)) .rr)
def alI:fA aG:=cO 82 (a1 vsA) vsA (fun p=>p) (fun p=>[p.length<=ah]) alH
theorem aqH:Gd alI:=aqG.add fun n hO p hp=>aN hO (.o (hp _ (.head _)) .rr)
def agx:fA aG:=cO 48 (a1 iA) vA (fun p=>(⟨0,p⟩:V)) np alI
theorem aqI:Gd agx:=aqH.add fun n hO p hp=>aN hO .rr
open Go Tw Pv bZ
structure Gs(d:Dg):Prop where
 s:d.aj.length<=ah
 o:d.aB.length<=ah
 e:d.aI.length<=ah
 n:d.au.length<=ah
 k:∀b∈d.au,b.aA.length<=ah
abbrev agy(a b:Dg)(i:Int)(x:List (Nat×PE aG)):aS aG:=⟨[(2,.loc 0 0),(3,.loc 1 0),(5,xi i)]++x,[a.ps,b.ps],[]⟩
def a8P(a b:Dg)(k:Nat):Bool:=if((a.au.getD k kW).var != (b.au.getD k kW).var)=true then true else !(decide ((a.au.getD k kW).aA=(b.au.getD k kW).aA))
def agz(a b:Dg):Unit⊕Nat->Ex×aS aG
 |.inl _=>(.exit 0,agy a b a.au.length [(48,xl false)])
 |.inr _=>(.ret,⟨[(4,xl false)],[a.ps,b.ps],[]⟩)
theorem alJ{n:Nat}(hO:Ok n agx){a b:Dg}(h:Gs a)(hl:a.au.length=b.au.length):Lp n 72 0 (agy a b 0 []) (agz a b (bG (a8P a b) a.au.length)).1 (agz a b (bG (a8P a b) a.au.length)).2:=by
 refine jh (st:=fun i _=>agy a b i []) (g:=gS (a8P a b)) (out:=agz a b) (fun _ _=>True) (by kernel_rfl) h.n trivial (fun k u m hk _ ih=>?_) (fun _ _=>?_)
 .have i1:gJ (k:Int) a.au.length:=aH hk;have i2:gJ (k:Int) b.au.length:=aH (by omega);have h9:=h.k _ (dK (d:=kW) hk);unfold gS a8P;cases e1:((a.au.getD k kW).var != (b.au.getD k kW).var)
  .exact aO hO (.b (bF hk) (.o i1 (.o i2 (.b e1 (.o i1 (.o i2 (.o h9 (.ls (.ou nofun) (.nx (ih _ trivial))))))))))
  exact aO hO (.b (bF hk) (.o i1 (.o i2 (.b e1 (.ou nofun)))))
 exact aO hO (.b (fF a.au.length) (.ou nofun))
def alK(a b:Dg):Bool:=if(!(decide (a.aj=b.aj)))=true then false else if(!(decide (a.aB=b.aB)))=true then false else if(!(decide (a.aI=b.aI)))=true then false else if((a.au.length:Int) != (b.au.length:Int))=true then false else if(a.root != b.root)=true then false else if jZ (bG (a8P a b) a.au.length)=true then true else false
def alL:fA aG:=cO 72 (a2 dA dA) tA (fun p=>alK p.1 p.2) (fun p=>[Gs p.1]) agx
theorem aqJ:Gd alL:=aqI.add fun n hO p hp=>aN hO (.o (show Gs p.1 from hp _ (.head _)).s (.ss .rr (.o (show Gs p.1 from hp _ (.head _)).o (.ss .rr (.o (show Gs p.1 from hp _ (.head _)).e (.ss .rr (.sh (fun _=>.rr) fun h4=>.ss .rr (.zh (fun h=>.w (kM (alJ hO (show Gs p.1 from hp _ (.head _)) (show p.1.au.length=p.2.au.length by simp at h4;omega)) () h) .rr) fun h=>.w (kN (alJ hO (show Gs p.1 from hp _ (.head _)) (show p.1.au.length=p.2.au.length by simp at h4;omega)) 0 h) .rr))))))))
def alM:fA aG:=cO 25 (a3 dA iA dA) tA (fun p=>(if(p.2.1==0)=true then alK p.1 p.2.2 else false)) (fun p=>[Gs p.1]) alL
theorem aqK:Gd alM:=aqJ.add fun n hO p hp=>aN hO (.ss (.o (hp _ (.head _)) .rr) .rr)
def JV(s o:List Int):Bool:=if decide ((s.length:Int)>8)=true then false else if decide ((o.length:Int)>8)=true then false else if(bV s o != 0)=true then true else decide (zL s<=200)
def agA:fA aG:=cO 54 (a2 rZ rZ) tA (fun p=>JV p.1 p.2) np alM
theorem aqL:Gd agA:=aqK.add fun n hO p hp=>aN hO (.sh (fun _=>.rr) fun h1=>.sh (fun _=>.rr) fun h2=>.o (show p.2.length<=ah by simp at h2;unfold ah;omega) (.ss .rr (.o (show p.1.length<=ah by simp at h1;unfold ah;omega) .rr)))
open Go Tw Pv bZ
abbrev wCp(d:Dg)(acc:List Br)(i:Int)(x:List (Nat×PE aG)):aS aG:=⟨[(1,.loc 0 0),(2,.loc 1 0),(3,.loc 2 0),(4,xi i)]++x,[d.ps,[.nil .slc,.nil .slc,.nil .slc,.nil .slc,.int .i64 0],[lI d.aj,lI d.aB,lV d.aI,.own 0,.int .i64 d.root]],[.list false false 105 acc]⟩
theorem lCp{n:Nat}{d:Dg}(hO:Ok n agA)(h:Gs d):Lp n 21 0 (wCp d [] 0 []) (.exit 0) (wCp d d.au d.au.length [(21,xl false)]):=by
 have e:aT (fun k (a:List Br)=>a++[d.au.getD k kW]) d.au.length 0 []=d.au:=by
  rw[XC,Tt d.au kW fun r=>r,List.map_id']
 rw[show wCp d d.au d.au.length [(21,xl false)]=wCp d (aT (fun k (a:List Br)=>a++[d.au.getD k kW]) d.au.length 0 []) d.au.length [(21,xl false)] by rw[e]];refine yH (σ:=List Br) (N:=d.au.length) (g:=fun k (a:List Br)=>a++[d.au.getD k kW]) (s0:=([]:List Br)) (st:=fun i a=>wCp d a i []) (fin:=fun a=>wCp d a d.au.length [(21,xl false)]) (fun k a=>a.length=k) (by kernel_rfl) h.n rfl (fun k a _ h=>by simp[h]) (fun k a hk ha m e p g9=>?_) (fun a _=>?_)
 .have hm:=h.k (d.au.getD k kW) (dK hk);have hn:=h.n;have hal:a.length+[d.au.getD k kW].length<=ah:=by have:a.length=k:=ha;rw[a3J];omega
  exact aO hO (.b (bF hk) (.o (aH hk) (.o (aH hk) (.o hm (.o hal (.goG [.gc [2]] g9))))))
 exact aO hO (.b (fF d.au.length) .ex)
def agB:fA aG:=cO 21 (a1 dA) dA (fun p=>p) (fun p=>[Gs p]) agA
theorem aqN:Gd agB:=aqL.add fun n hO p hp=>aN hO (.o (show Gs p from hp _ (.head _)).s (.o (show Gs p from hp _ (.head _)).o (.o (show Gs p from hp _ (.head _)).e (.wG [.a3h 2 3 105] (lCp hO (hp _ (.head _))) .rr))))
abbrev wTh(d:Dg)(i:Int)(x:List (Nat×PE aG)):aS aG:=⟨[(1,.loc 0 0),(3,xi i)]++x,[d.ps],[]⟩
def cTh(d:Dg)(k:Nat):Bool:=decide (((d.au.getD k kW).aA.length:Int)>14)
def zTh(d:Dg):Unit⊕Nat->Ex×aS aG
 |.inl _=>(.exit 0,wTh d d.au.length [(26,xl false)])
 |.inr _=>(.ret,⟨[(2,xl false)],[d.ps],[]⟩)
theorem lTh{n:Nat}(hO:Ok n agB){d:Dg}(h:d.au.length<=ah):Lp n 18 0 (wTh d 0 []) (zTh d (bG (cTh d) d.au.length)).1 (zTh d (bG (cTh d) d.au.length)).2:=by
 refine jh (st:=fun i _=>wTh d i []) (g:=gS (cTh d)) (out:=zTh d) (fun _ _=>True) (by kernel_rfl) h trivial (fun k u m hk _ ih=>?_) (fun _ _=>?_)
 .unfold gS cTh;exact aO hO (.b (bF hk) (.o (aH hk) (.ls (.ou nofun) (.nx (ih _ trivial)))))
 exact aO hO (.b (fF d.au.length) (.ou nofun))
def xJ(d:Dg):Bool:=if(!(JV d.aj d.aB))=true then false else if decide ((d.aI.length:Int)>40)=true then false else if decide ((d.au.length:Int)>60)=true then false else if jZ (bG (cTh d) d.au.length)=true then true else false
def alN:fA aG:=cO 18 (a1 dA) tA (fun p=>xJ p) np agB
theorem aqQ:Gd alN:=aqN.add fun n hO p hp=>aN hO (.ss .rr (.ss .rr (.sh (fun _=>.rr) fun h3=>.zh (fun h=>.w (kM (lTh hO (show p.au.length<=ah by simp at h3;unfold ah;omega)) () h) .rr) fun h=>.w (kN (lTh hO (show p.au.length<=ah by simp at h3;unfold ah;omega)) 0 h) .rr)))
theorem A8{d:Dg}(h:xJ d=true):Gs d∧d.aj.length<=8∧d.aB.length<=8∧d.aI.length<=40∧d.au.length<=60:=by
 unfold xJ at h;split at h
 .cases h
 rename_i h1;split at h
 .cases h
 rename_i h2;split at h
 .cases h
 rename_i h3;split at h
 .rename_i h4;have h1:JV d.aj d.aB=true:=by simpa using h1
  unfold JV at h1;split at h1
  .cases h1
  rename_i q1;split at h1
  .cases h1
  rename_i q2;simp at h2 h3 q1 q2;refine⟨⟨by unfold ah;omega,by unfold ah;omega,by unfold ah;omega,by unfold ah;omega,fun b hb=>?_⟩,by omega,by omega,by omega,by omega⟩;obtain⟨k,hk,e⟩:=a9h hb;have:=dI.1 h4 k hk;unfold cTh at this;rw[a2K,a0b hk,a5i,e]at this;simp at this;unfold ah;omega
 cases h
open Go Tw Pv bZ
theorem Lh{d:Dg}(h:aX d=0):bV d.aj d.aB=0:=by
 unfold aX at h;split at h
 .rename_i c;rw[h]at c;cases c
 rename_i c;simpa using c
theorem VQ.of{d:Dg}(h:VQ d){l:List V}(hl:l.length=xZ d.aj):OfP d.aj d.aB l∧(PtP d.aj d.aB l∧d.aB.length<=6∧wO d.aj d.aB<=ah):=by
 obtain⟨bU,ord⟩:=jV.1 (Lh h.l);have ho:OfP d.aj d.aB l:=⟨bU,ord,by rw[hl,bU.a00]⟩;obtain⟨q1,q2,q3⟩:=ho.p;have hw:=DT bU.sz ord;have hm:=bU.many;have h6:=bU.len;exact⟨ho,q1,by omega,by unfold ah;omega⟩
open Go Tw Pv bZ
def dX:Dg:=⟨[2,3],[0,1],[⟨0,1⟩,⟨0,2⟩],[⟨0,[-1,-2]⟩],0⟩
def dY:Dg:=⟨[2,3],[0,1],[⟨0,0⟩,⟨0,1⟩,⟨0,2⟩],[⟨1,[-1,-2,-3]⟩],0⟩
def cL(l:List Int):List V:=l.map fun n=>⟨0,n⟩
theorem a4q:Qs ([2,3],[0,1],0,1)=(dX,0):=by kernel_rfl
def dIf:Dg:=(Yz (dY,dX,dY)).1
theorem alO:(Yz (dY,dX,dY)).2=0∧iH dIf=0∧cellsD dIf=cL [0,1,1,0,2,2]:=⟨by kernel_rfl,by kernel_rfl,by kernel_rfl⟩
def dRs:Dg:=(La (dY,1,2)).1
theorem agD:(La (dY,1,2)).2=0∧iH dRs=0∧cellsD dRs=cL [2,2,2,2,2,2]:=⟨by kernel_rfl,by kernel_rfl,by kernel_rfl⟩
def dWh:Dg:=(kQ dY).1
theorem a8Q:(kQ dY).2=0∧iH dWh=0∧cellsD dWh=cL [0,1,0,0,1,0]:=⟨by kernel_rfl,by kernel_rfl,by kernel_rfl⟩
theorem abE:uw (dY,⟨0,2⟩)=(2,0):=by kernel_rfl
theorem a8R:IE (dX,⟨0,2⟩)=([1,0],0):=by kernel_rfl
def Gl:Dg:=(nR (10,dX,dY)).1
theorem agE:(nR (10,dX,dY)).2=0:=by kernel_rfl
def dLe:Dg:=(nR (14,dX,dY)).1
theorem alP:(nR (14,dX,dY)).2=0:=by kernel_rfl
theorem abG:Ny ([dX,dY],dLe)=(⟨8,false,false,2,0,0,false,[0]⟩,0):=by kernel_rfl
def VT:List (V×Int):=dP (bJ [Gl,dX])
theorem alQ:mM VT=[0,1]:=by
 have e:((VT.filter fun e=>!decide (e.1.f>0)).map fun e=>e.1.n)=[0,1]:=by kernel_rfl
 unfold mM;rw[e];unfold gY;exact List.mergeSort_of_pairwise (by simp)
theorem agG:IC (4,Gl,dX)=(⟨4,false,false,0,0,1,true,[]⟩,0):=by
 have e1:aY [Gl,dX]=0:=by kernel_rfl
 have e2:uU VT=true:=by kernel_rfl
 have e3:VT≠[]:=by
  intro h;have h2:VT.length=0:=by rw[h];rfl
  have h3:VT.length=3:=by kernel_rfl
  omega
 show(if(aY [Gl,dX] != 0)=true then(An0,aY [Gl,dX])else yX 4 VT)=_;rw[e1];show yX 4 VT=_;unfold yX;rw[a0o e3];show(if mM VT=[]then _ else _)=_;rw[alQ,e2];rfl
open Go Tw Pv bZ
def agH:fA aG:=cO 73 aeY (dQ (a2 dA dA)) (fun p=>(dX,dY)) np alN
theorem aqR:Gd agH:=aqQ.add fun n hO p hp=>aN hO .rr
abbrev anP(a:An):List (PV aG):=[.int .u8 a.q,.bool a.none,.bool a.yes,.int .i64 a.n,.int .i64 a.lo,.int .i64 a.hi,.bool a.fault,lI a.set,.nil .slc]
abbrev wSa(a b:An)(i:Int)(x:List (Nat×PE aG)):aS aG:=⟨[(2,.loc 0 0),(3,.loc 1 0),(5,xi i)]++x,[anP a,anP b],[]⟩
theorem lSa{n:Nat}(hO:Ok n agH){a b:An}:Lp n 35 0 (wSa a b 0 []) (.exit 0) (wSa a b 0 [(74,xl false)]):=by
 have:=KQ (X:=X0) (P:=Qp) (T:=T) (L:=LL) (call:=bT n) (f:=35) (gZ:=false) (nt:=Cj Qp 35) (B:=0) (b:=SX Qp 35 0) (σ:=Unit) (N:=0) (g:=fun _ s=>s) (s0:=()) (st:=fun i _=>wSa a b i []) (fin:=fun _=>wSa a b 0 [(74,xl false)]) (w:=wSa a b 0 []) (e:=.exit 0) (fun _ _=>True) (by kernel_rfl) (a4Y _) QU trivial (fun _ _ _ _=>trivial) (fun k s hk=>absurd hk (Nat.not_lt_zero _)) (fun s _=>aO hO (.b (rfl:decide ((0:Int)<0)=false) .ex));exact this
def abH(a b:An):Bool:=if(a.q != b.q)=true then false else if(!(a.none==b.none))=true then false else if(!(a.yes==b.yes))=true then false else if(a.n != b.n)=true then false else if(a.lo != b.lo)=true then false else if(a.hi != b.hi)=true then false else if(!(a.fault==b.fault))=true then false else if(!(decide (a.set=b.set)))=true then false else true
def agI:fA aG:=cO 35 (a2 Wh Wh) tA (fun p=>abH p.1 p.2) (fun p=>[p.1.set.length<=ah]) agH
theorem aqS:Gd agI:=aqR.add fun n hO p hp=>aN hO (.ss .rr (.ss .rr (.ss .rr (.ss .rr (.ss .rr (.ss .rr (.ss .rr (.o (hp _ (.head _)) (.ss .rr (.b (rfl:((0:Int) != 0)=false) (.w (lSa (a:=p.1) (b:=p.2) hO) .rr)))))))))))
open Go Tw Pv bZ
theorem EH{d:Dg}(ho:d.aB.length<=ah)(he:d.aI.length<=ah)(h:(iH d==0)=true):VQ d:=by
 have h:iH d=0:=by simpa using h
 have h0:aX d=0:=by
  unfold iH at h;split at h
  .rename_i c;rw[h]at c;cases c
  rename_i c;simpa using c
 obtain⟨t,n⟩:=iJ ho he (by rw[h0];rfl);exact⟨t,n,h0,t.bU,ho,he⟩
abbrev wLz(d:Dg)(e:Int)(l:List Int)(acc:List V)(i:Int)(x:List (Nat×PE aG)):aS aG:=⟨[(1,xi e),(2,xL 3 l),(3,.loc 0 0),(7,.val (.own 0)),(8,xi i)]++x,[d.ps],[.list false false 39 acc]⟩
theorem lLz{n:Nat}(hO:Ok n agI)(d:Dg)(e:Int){l:List Int}(hl:l.length<=1000):Lp n 74 0 (wLz d e l [] 0 []) (.exit 0) (wLz d e l (cL l) l.length [(12,xl false)]):=by
 have e1:aT (fun k (a:List V)=>a++[(⟨0,l.getD k 0⟩:V)]) l.length 0 []=cL l:=by
  rw[XC,Tt l 0 fun r=>(⟨0,r⟩:V)];rfl
 rw[<-e1];refine yH (σ:=List V) (N:=l.length) (g:=fun k (a:List V)=>a++[(⟨0,l.getD k 0⟩:V)]) (s0:=([]:List V)) (st:=fun i a=>wLz d e l a i []) (fin:=fun a=>wLz d e l a l.length [(12,xl false)]) (fun k a=>a.length=k) (by kernel_rfl) (by unfold ah;omega) rfl (fun k a _ h=>by simp[h]) (fun k a hk ha m e p g9=>?_) (fun a _=>?_)
 .have hal:a.length+[(⟨0,l.getD k 0⟩:V)].length<=ah:=by have:a.length=k:=ha;rw[a3J];unfold ah;omega
  exact aO hO (.b (bF hk) (.o (aH hk) (.o hal (.goG [.gc [2]] g9))))
 exact aO hO (.b (fF l.length) .ex)
def alS(p:Dg×Int×List Int):Bool:=if(p.2.1==0)=true then(if(iH p.1==0)=true then decide (cellsD p.1=cL p.2.2)else false)else false
def abI:fA aG:=cO 74 (a3 dA iA rZ) tA (fun p=>alS p) (fun p=>[p.1.aB.length<=ah,p.1.aI.length<=ah,p.2.2.length<=1000,(cellsD p.1).length<=ah]) agI
theorem aqT:Gd abI:=aqS.add fun n hO p hp=>aN hO (.wG [.Jc 7 39] (lLz hO p.1 p.2.1 (hp _ (.tail _ (.tail _ (.head _))))) (.ss (.o (hp _ (.head _)) (.o (hp _ (.tail _ (.head _))) (.sh (fun h=>.o (EH (hp _ (.head _)) (hp _ (.tail _ (.head _))) h) (.o (hp _ (.tail _ (.tail _ (.tail _ (.head _))))) .rr)) (fun _=>.rr)))) .rr))
open Go Tw Pv bZ
theorem VU{d:Dg}(h:((d.au.all fun n=>n.aA.all fun k=>decide (-1000<=k)&&decide (k<=1000))&&(decide (-1000<=d.root)&&decide (d.root<=1000))&&(d.aI.all fun v=>decide (0<=v.f))&&(decide (d.aj.length<=100)&&decide (d.aB.length<=100)&&decide (d.aI.length<=100)))=true):nI d:=by
 simp only[a1D,a0N,a4R]at h;obtain⟨⟨⟨h1,h2⟩,h3⟩,⟨h4,h5⟩,h6⟩:=h;refine⟨⟨fun i hi k hk=>?_,?_,h3⟩,by unfold ah;omega,by omega,by unfold ah;omega⟩
 .have h7:=h1 _ (dK (d:=(⟨0,[]⟩:Br)) hi) _ (dK (d:=(0:Int)) hk);show G9 ((fB d i).aA.getD k 0);unfold G9;have h8:((d.au.getD i ⟨0,[]⟩).aA.getD k 0)=(fB d i).aA.getD k 0:=rfl;rw[h8]at h7;omega
 unfold G9;omega
theorem pX:nI dX:=VU (by kernel_rfl)
theorem pY:nI dY:=VU (by kernel_rfl)
theorem a8S:nI Gl:=VU (by kernel_rfl)
theorem pLe:nI dLe:=VU (by kernel_rfl)
abbrev dvA(d:Dg):PV aG:=(dQ (a2 dA iA)).put (d,0)
theorem agJ:(dRs,(0:Int))=La (dY,1,2):=aaD rfl agD.1.symm
theorem a8T:(dWh,(0:Int))=kQ dY:=aaD rfl a8Q.1.symm
theorem agK:(Gl,(0:Int))=nR (10,dX,dY):=aaD rfl agE.symm
theorem alU:(dLe,(0:Int))=nR (14,dX,dY):=aaD rfl alP.symm
section
variable {n:Nat} (hO:Ok n abI)
include hO
theorem alV:aW X0 Qp (bT n) (.fn 73 [] []) [] [] ((dQ (a2 dA dA)).put (dX,dY)) []:=
 rV hX hO (f:=73) (first:=[]) (xs:=[]) (cap:=[]) (vs:=[]) (v:=(dQ (a2 dA dA)).put (dX,dY)) (H:=[]) (ps:=[]) rfl (by kernel_rfl) (fun _ h=>by cases h) rfl
theorem abJ{j k:Bool}:aW X0 Qp (bT n) (.fn 57 [] []) [.own 0,.own 1,.int .i64 0,.int .i64 1] [.list j k 3 ([2,3]:List Int),.list j k 3 ([0,1]:List Int)] (dvA dX) [.gone,.gone]:=by
 unfold dvA;rw[<-a4q];exact rV hX hO (f:=57) (first:=[]) (xs:=[.own 0,.own 1,.int .i64 0,.int .i64 1]) (cap:=[]) (vs:=[.dF 3 ([2,3]:List Int) false,.dF 3 ([0,1]:List Int) false,.int .i64 0,.int .i64 1]) (v:=(dQ (a2 dA iA)).put (Qs ([2,3],[0,1],0,1))) (H:=[.list j k 3 ([2,3]:List Int),.list j k 3 ([0,1]:List Int)]) (ps:=[([2,3]:List Int).length<=ah,([0,1]:List Int).length<=2^20]) rfl (by kernel_rfl) (by simp[ah]) rfl
theorem aIf:aW X0 Qp (bT n) (.fn 63 [] []) [.agg dY.ps,.agg dX.ps,.agg dY.ps] [] (dvA dIf) []:=by
 have e:(dIf,(0:Int))=Yz (dY,dX,dY):=aaD rfl alO.1.symm;unfold dvA;rw[e];exact rV hX hO (f:=63) (first:=[]) (cap:=[]) (vs:=[.agg dY.ps,.agg dX.ps,.agg dY.ps]) (v:=(dQ (a2 dA iA)).put (Yz (dY,dX,dY))) (H:=[]) (ps:=[nI dY,nI dX,nI dY]) rfl (by kernel_rfl) (by simp[pX,pY]) rfl
theorem aqU:aW X0 Qp (bT n) (.fn 20 [] []) [.agg dY.ps,.int .i64 1,.int .i64 2] [] (dvA dRs) []:=by
 rw[show(dvA dRs:PV aG)=((dQ (a2 dA iA)).put (La (dY,1,2)))from by rw[<-agJ]];exact rV hX hO (f:=20) (first:=[]) (xs:=[.agg dY.ps,.int .i64 1,.int .i64 2]) (cap:=[]) (vs:=[.agg dY.ps,.int .i64 1,.int .i64 2]) (v:=((dQ (a2 dA iA)).put (La (dY,1,2)))) (H:=[]) (ps:=[nI dY]) rfl (by kernel_rfl) (by simp[pX,pY,a8S,pLe]) rfl
theorem agL:aW X0 Qp (bT n) (.fn 67 [] []) [.agg dY.ps] [] (dvA dWh) []:=by
 rw[show(dvA dWh:PV aG)=((dQ (a2 dA iA)).put (kQ dY))from by rw[<-a8T]];exact rV hX hO (f:=67) (first:=[]) (xs:=[.agg dY.ps]) (cap:=[]) (vs:=[.agg dY.ps]) (v:=((dQ (a2 dA iA)).put (kQ dY))) (H:=[]) (ps:=[nI dY]) rfl (by kernel_rfl) (by simp[pX,pY,a8S,pLe]) rfl
theorem alW:aW X0 Qp (bT n) (.fn 27 [] []) [.agg dY.ps,.agg (⟨0,2⟩:V).ps] [] ((dQ (a2 iA iA)).put (2,0)) []:=by
 rw[show((dQ (a2 iA iA)).put (2,0):PV aG)=((dQ (a2 iA iA)).put (uw (dY,⟨0,2⟩)))from by rw[abE]];exact N8 hX hO (f:=27) (first:=[]) (xs:=[.agg dY.ps,.agg (⟨0,2⟩:V).ps]) (cap:=[]) (vs:=[.agg dY.ps,.agg (⟨0,2⟩:V).ps]) (v:=((dQ (a2 iA iA)).put (uw (dY,⟨0,2⟩)))) (H:=[]) (ps:=[nI dY]) rfl (by kernel_rfl) (by simp[pY]) rfl
theorem agM:aW X0 Qp (bT n) (.fn 28 [] []) [.agg dX.ps,.agg (⟨0,2⟩:V).ps] [] ((dQ (a2 rZ iA)).put ([1,0],0)) []:=by
 rw[show((dQ (a2 rZ iA)).put ([1,0],0):PV aG)=((dQ (a2 rZ iA)).put (IE (dX,⟨0,2⟩)))from by rw[a8R]];exact rV hX hO (f:=28) (first:=[]) (xs:=[.agg dX.ps,.agg (⟨0,2⟩:V).ps]) (cap:=[]) (vs:=[.agg dX.ps,.agg (⟨0,2⟩:V).ps]) (v:=((dQ (a2 rZ iA)).put (IE (dX,⟨0,2⟩)))) (H:=[]) (ps:=[nI dX]) rfl (by kernel_rfl) (by simp[pX]) rfl
theorem aqV:aW X0 Qp (bT n) (.fn 62 [] []) [.int .u8 10,.agg dX.ps,.agg dY.ps] [] (dvA Gl) []:=by
 rw[show(dvA Gl:PV aG)=((dQ (a2 dA iA)).put (nR (10,dX,dY)))from by rw[<-agK]];exact rV hX hO (f:=62) (first:=[]) (xs:=[.int .u8 10,.agg dX.ps,.agg dY.ps]) (cap:=[]) (vs:=[.int .u8 10,.agg dX.ps,.agg dY.ps]) (v:=((dQ (a2 dA iA)).put (nR (10,dX,dY)))) (H:=[]) (ps:=[nI dX,nI dY]) rfl (by kernel_rfl) (by simp[pX,pY,a8S,pLe]) rfl
theorem aLe:aW X0 Qp (bT n) (.fn 62 [] []) [.int .u8 14,.agg dX.ps,.agg dY.ps] [] (dvA dLe) []:=by
 rw[show(dvA dLe:PV aG)=((dQ (a2 dA iA)).put (nR (14,dX,dY)))from by rw[<-alU]];exact rV hX hO (f:=62) (first:=[]) (xs:=[.int .u8 14,.agg dX.ps,.agg dY.ps]) (cap:=[]) (vs:=[.int .u8 14,.agg dX.ps,.agg dY.ps]) (v:=((dQ (a2 dA iA)).put (nR (14,dX,dY)))) (H:=[]) (ps:=[nI dX,nI dY]) rfl (by kernel_rfl) (by simp[pX,pY,a8S,pLe]) rfl
abbrev a8U:An:=⟨4,false,false,0,0,1,true,[]⟩
abbrev adW:An:=⟨8,false,false,2,0,0,false,[0]⟩
theorem aqW:aW X0 Qp (bT n) (.fn 33 [] []) [.int .u8 4,.agg Gl.ps,.agg dX.ps] [] ((dQ (a2 Wh iA)).put (a8U,0)) []:=by
 rw[show((dQ (a2 Wh iA)).put (a8U,0):PV aG)=((dQ (a2 Wh iA)).put (IC (4,Gl,dX)))from by rw[agG]];exact rV hX hO (f:=33) (first:=[]) (xs:=[.int .u8 4,.agg Gl.ps,.agg dX.ps]) (cap:=[]) (vs:=[.int .u8 4,.agg Gl.ps,.agg dX.ps]) (v:=((dQ (a2 Wh iA)).put (IC (4,Gl,dX)))) (H:=[]) (ps:=[nI Gl,nI dX]) rfl (by kernel_rfl) (by simp[a8S,pX]) rfl
end
open Go Tw Pv bZ
theorem alX{n:Nat}(hn:24<=n)(Bc:Ok n a8H)(Gq:∀m,n-24<=m->Ok m qP){k:Bool}:aW X0 Qp (bT (n+1)) (.fn 39 [] []) [.own 0,.agg dLe.ps] [.list k true 26 [dX,dY]] ((dQ (a2 Wh iA)).put (adW,0)) [.gone]:=by
 rw[<-abG];exact alB (l:=[dX,dY]) (d:=dLe) hn Bc Gq (fun x h=>by
  rcases a1J.1 h with rfl|h
  .exact pX
  rcases a1J.1 h with rfl|h
  .exact pY
  rw[a2D.1 h];exact pLe) (by show 2<=1000;omega)
theorem alY{n:Nat}(hO:Ok n abI):aW X0 Qp (bT n) (.fn 48 [] []) [.int .i64 2] [] (.agg (⟨0,2⟩:V).ps) []:=
 N8 hX hO (f:=48) (first:=[]) (xs:=[.int .i64 2]) (cap:=[]) (vs:=[.int .i64 2]) (v:=.agg (⟨0,2⟩:V).ps) (H:=[]) (ps:=[]) rfl (by kernel_rfl) (fun _ h=>by cases h) rfl
theorem U4{a b:Nat}(h:Nat.ble a b=true):a<=b:=agY h
theorem aqX:Gs dX:=⟨U4 (by kernel_rfl),U4 (by kernel_rfl),U4 (by kernel_rfl),U4 (by kernel_rfl),fun b h=>by rw[a2D.1 h];exact U4 (by kernel_rfl)⟩
def alZ:fA aG:=cO 19 aeY tA (fun _=>true) np abI
theorem aqY:Gd alZ:=Good.adA 25 aqT alu L8 fun n hn hO Gq hO3 p hp=>by
 obtain⟨m,rfl⟩:∃m,n=m+1:=⟨n-1,by omega⟩;have G7:=hO (m+1) (by omega);exact aN G7 (.fr [] (alV G7) (.fr [0,1] (abJ G7 (j:=true) (k:=true)) (.fr [] (aIf G7) (.fr [] (aqU G7) (.fr [] (agL G7) (.fr [] (alY G7) (.fr [] (alW G7) (.fr [] (alY G7) (.fr [] (agM G7) (.fr [] (aqV G7) (.fr [] (aqW G7) (.fr [] (aLe G7) (.fr [2] (alX (k:=true) (by omega) (Gq m (by omega)) (fun k hk=>hO3 k (by omega))) (.o aqX (.b (c:=true) (t:=true) rfl (.o (U4 (by kernel_rfl):dIf.aB.length<=ah) (.o (U4 (by kernel_rfl):dIf.aI.length<=ah) (.o (U4 (by kernel_rfl):([0,0,0,0,0,0]:List Int).length<=1000) (.o (U4 (by kernel_rfl):(cellsD dIf).length<=ah) (.b (c:=true) (t:=true) rfl (.o (U4 (by kernel_rfl):dRs.aB.length<=ah) (.o (U4 (by kernel_rfl):dRs.aI.length<=ah) (.o (U4 (by kernel_rfl):([0,0,0,0,0,0]:List Int).length<=1000) (.o (U4 (by kernel_rfl):(cellsD dRs).length<=ah) (.b (c:=true) (t:=true) rfl (.o (U4 (by kernel_rfl):dWh.aB.length<=ah) (.o (U4 (by kernel_rfl):dWh.aI.length<=ah) (.o (U4 (by kernel_rfl):([0,0,0,0,0,0]:List Int).length<=1000) (.o (U4 (by kernel_rfl):(cellsD dWh).length<=ah) (.b (c:=true) (t:=true) rfl (.b (c:=true) (t:=true) rfl (.b (c:=true) (t:=true) rfl (.b (c:=true) (t:=true) rfl (.o (U4 (by kernel_rfl):([1,0]:List Int).length<=ah) (.b (c:=true) (t:=true) rfl (.b (c:=true) (t:=true) rfl (.b (c:=true) (t:=true) rfl (.o (U4 (by kernel_rfl):a8U.set.length<=ah) (.b (c:=true) (t:=true) rfl (.b (c:=true) (t:=true) rfl (.b (c:=true) (t:=true) rfl (.o (U4 (by kernel_rfl):adW.set.length<=ah) .rr))))))))))))))))))))))))))))))))))))))))))
open Go Tw Pv bZ
theorem aqZ:Ci V0:=⟨by decide,by decide⟩
theorem abK{l:List V}(h:∀v∈l,Ci v)(i:Nat):Ci (l.getD i V0):=by
 by_cases c:i<l.length
 .exact h _ (dK c)
 rw[a2K,a4B (by omega)];exact aqZ
theorem Qu{d:Dg}(h:∀v∈d.aI,Ci v):∀v∈cellsD d,Ci v:=fun v hv=>by
 obtain⟨k,_,rfl⟩:=a0H.1 hv;exact abK h _
theorem xK(d:Dg):(cellsD d).length=xZ d.aj:=by simp[cellsD]
theorem agN{d:Dg}(h:iH d=0)(ho:d.aB.length<=ah)(he:d.aI.length<=ah):Gs d:=by
 have l:=EH ho he (by rw[h];rfl);have h6:=l.f.len;have n6:=l.n;refine⟨by unfold ah;omega,ho,he,by unfold ah;omega,fun b hb=>?_⟩;obtain⟨i,hi,rfl⟩:=a9h hb;have:=l.t.Ju i hi;have e:fB d i=d.au[i]:=by show d.au.getD i kW=_;rw[a2K,a0b hi,a5i]
 rw[e]at this;unfold ah;omega
structure DgF(d:Dg):Prop where
 r:Ew d
 k:iH d=0
 f:Gs d
 e:d.aI.length<=2000
 o:d.aB.length=d.aj.length
 s:vC d.aj
theorem DgF.p{d:Dg}(h:DgF d):nI d:=⟨h.r,h.f.s,by have:=h.o;have:=h.s.len;omega,by have:=h.e;unfold ah;omega⟩
theorem agO{s o:List Int}{l:List V}(h:OfP s o l)(hv:∀v∈l,Ci v):DgF (qw s o l):=by
 obtain⟨h1,h2,_⟩:=Bh h fun v m=>(hv v m).1;obtain⟨r,k⟩:=aaV h (fun v m=>(hv v m).1) fun v m=>(hv v m).2;have ho:=h.p.2.2;have h6:=h.bU.len;exact⟨r,k,agN k (by show o.length<=ah;unfold ah;omega) (by unfold ah;omega),h2,ho,h.bU⟩
theorem a8V{J:Jb}(hJ:jq J){op:List V->V}(jr:oL J op):DgF (kY J op):=by
 rw[(Iq hJ jr).2];exact agO ⟨hJ.bU,hJ.ord,by rw[xK];show((xZ J.s:Nat):Int)=_;exact hJ.bU.a00⟩ (Qu (wF hJ jr).2.2)
theorem IG{d:Dg}(h:nI d):aY [d]=iH d:=by
 have e:(uG d).2=iH d:=by rw[Ij h.r h.s (by have:=h.o;unfold ah;omega) h.e]
 have f:([d].all (yJ (([d].getD 0 jU).aj,([d].getD 0 jU).aB)))=true:=by simp[yJ]
 unfold aY;rw[f];split
 .rename_i c;have:=dI.1 c 0 (by simp);have h0:iH d=0:=by unfold cCk at this;rw[<-e];simpa using this
  rw[h0];rfl
 rename_i c;obtain⟨j,hj,_,_,e2⟩:=Ba (by simpa using c);have e2:bG (cCk [d]) [d].length=.inr j:=e2;rw[e2];have:j=0:=by have:j<1:=hj;omega
 subst this;exact e
theorem a8W{d:Dg}(h:xJ d=true)(r:Ew d):nI d:=by
 obtain⟨f,h1,h2,h3,_⟩:=A8 h;exact⟨r,f.s,by omega,by unfold ah;omega⟩
open Go Tw Pv bZ
theorem a8X{t:List (V×Int)}(hn:(t.map (·.1)).Nodup)(v:V):look t v=dH (ind v) t:=by
 unfold look;by_cases h:v∈t.map (·.1)
 .obtain⟨e,he,hv⟩:=a0H.1 h;obtain⟨e2,h2⟩:=a5g.1 (List.find?_isSome (p:=fun e:V×Int=>decide (e.1=v)) |>.2 ⟨e,he,show decide (e.1=v)=true by simpa using hv⟩);have h3:e2.1=v:=by simpa using List.find?_some h2
  have:=ED hn (aeA h2);rw[h3]at this;rw[h2,this];rfl
 rw[Nh h,adO.2 fun e he=>by
  simp only[a0N];intro hv;exact h (a0H.2 ⟨e,he,hv⟩)]
 rfl
theorem Qv(J:Jb)(v:V):look (dP J) v=((nC J).count v:Int):=by
 rw[a8X (xI J),Le,Yg]
theorem a4r{d:Dg}{g:List Int}:nC (jg d g)=(Iw (jg d g)).map (kX d):=by
 unfold nC Qm;rw[aef.2 (fun l hl=>by
  obtain⟨q,_,rfl⟩:=a0H.1 hl;rfl),a5D]
 rfl
theorem agP{d:Dg}(hJ:jq (bJ [d])):Iw (bJ [d])=(List.range (xZ d.aj)).map fun(k:Nat)=>iw d.aj k:=by
 unfold Iw;refine aef.2 fun q hq=>?_;have hp:=(Nk hJ).1 hq;rw[a0N,Vz hJ (rY hp)];intro k hk h0;exfalso;revert h0;show ¬0<=(List.replicate d.aj.length (-1:Int)).getD k 0;rw[a2K,adv,a0u (show k<d.aj.length from hk)];decide
theorem a4s{d:Dg}(hJ:jq (bJ [d])):nC (bJ [d])=cellsD d:=by
 have h:nC (bJ [d])=(Iw (bJ [d])).map (kX d):=a4r;rw[h,agP hJ,a5D];rfl
open Go Tw Pv bZ
theorem a0t{v:V}:xq v=vOk v:=by
 unfold xq vOk nS;by_cases c:(v.f==0)=true
 .rw[a0u c,a0u c];rw[a4T];simp[wC,tY]
 rw[a0o c,a0o c]
section
variable {d:Dg} (hJ:jq (bJ [d])) {v:V}
include hJ
variable {h:List Int} (h1:jK d.aj h=true) (h2:kX d h=v) (h3:∀ q,jK d.aj q=true->kX d q=v->jl d.aj h<=jl d.aj q)
end
open Go Tw Pv bZ
theorem a4t{d:Dg}(h:iH d=0):aX d=0∧oK d=true:=by
 unfold iH at h;split at h
 .rename_i c;rw[h]at c;cases c
 rename_i c;refine⟨by simpa using c,?_⟩;split at h
 .cases h
 rename_i c2;simpa using c2
theorem a4u{d:Dg}(hr:Ew d)(h:iH d=0)(ho:d.aB.length<=ah)(he:d.aI.length+1<=ah):d=qw d.aj d.aB (cellsD d)∧∀v∈d.aI,v∈cellsD d:=by
 obtain⟨h0,h1⟩:=a4t h;obtain⟨ht,hn⟩:=iJ ho (by omega) (by rw[h0];rfl);have hl:=EH ho (by omega) (by rw[h];rfl);have e1:=(JB ht hr (by unfold ah at he;omega) hn).2 h1;have e2:=(Qc h0 ho (by omega)).1;rw[e1]at e2;refine⟨e2,fun v hv=>?_⟩;have hg:=VN ⟨hr,by have:=hl.f.len;unfold ah;omega,by unfold ah at ho;omega,he⟩ h;rw[e2]at hv;exact(Bh (hl.of (xK d)).1 fun v m=>(Qu hg.c v m).1).2.2.1 v hv
open Go Tw Pv bZ
def Lj(p:Dg×Dg):Bool:=if decide (p.1.aj=p.2.aj)=true then decide (p.1.aB=p.2.aB)else false
def abL:fA aG:=cO 70 (a2 dA dA) tA (fun p=>Lj p) (fun p=>[p.1.aj.length<=ah,p.1.aB.length<=ah]) alZ
theorem ar0:Gd abL:=aqY.add fun n hO p hp=>aN hO (.o (hp _ (.head _)) (.ss (.o (hp _ (.tail _ (.head _))) .rr) .rr))
theorem a8Y(a b:Dg):Lj (a,b)=yJ (a.aj,a.aB) b:=by
 unfold Lj yJ;rw[a4T];by_cases h:a.aj=b.aj
 .by_cases h2:a.aB=b.aB
  .simp[h,h2]
  simp only[h,decide_true,a2k,a0N];exact⟨fun e=>absurd e h2,fun e=>absurd e.symm h2⟩
 have h3:¬b.aj=a.aj:=fun e=>h e.symm;simp[h,h3]
abbrev wCa(l:List Dg)(i:Int)(x:List (Nat×PE aG)):aS aG:=⟨[(0,xL 26 l),(3,xi i)]++x,[],[]⟩
abbrev wCb(l:List Dg)(i:Int)(x:List (Nat×PE aG)):aS aG:=⟨[(0,xL 26 l),(5,xi i)]++x,[],[]⟩
def YE(l:List Dg)(k:Nat):Bool:=iH (l.getD k jU) != 0
def cA2(l:List Dg)(k:Nat):Bool:=!(Lj (l.getD 0 jU,l.getD k jU))
def zA1(l:List Dg):Unit⊕Nat->Ex×aS aG
 |.inl _=>(.exit 0,wCa l l.length [(9,xl false)])
 |.inr k=>(.ret,⟨[(2,xi (iH (l.getD k jU)))],[],[]⟩)
def zA2(l:List Dg):Unit⊕Nat->Ex×aS aG
 |.inl _=>(.exit 2,wCb l l.length [(23,xl false)])
 |.inr _=>(.ret,⟨[(2,xi 2)],[],[]⟩)
theorem lA1{n:Nat}(hO:Ok n abL){l:List Dg}(hf:∀d∈l,Gs d)(hl:l.length<=ah):Lp n 34 0 (wCa l 0 []) (zA1 l (bG (YE l) l.length)).1 (zA1 l (bG (YE l) l.length)).2:=by
 refine jh (st:=fun i _=>wCa l i []) (g:=gS (YE l)) (out:=zA1 l) (fun _ _=>True) (by kernel_rfl) hl trivial (fun k u m hk _ ih=>?_) (fun _ _=>?_)
 .have h:=hf _ (dK (d:=jU) hk);unfold gS YE;exact aO hO (.b (bF hk) (.o (aH hk) (.o h.o (.o h.e (.ls (.ou nofun) (.nx (ih _ trivial)))))))
 exact aO hO (.b (fF l.length) (.ou nofun))
theorem lA2{n:Nat}(hO:Ok n abL){l:List Dg}(hf:∀d∈l,Gs d)(h0:0<l.length)(hl:l.length<=ah):Lp n 34 1 (wCb l 1 []) (zA2 l (kP (gS (cA2 l)) (l.length-1) 1 ())).1 (zA2 l (kP (gS (cA2 l)) (l.length-1) 1 ())).2:=by
 refine a1I (a:=1) (st:=fun i _=>wCb l i []) (g:=gS (cA2 l)) (out:=zA2 l) (fun _ _=>True) (by kernel_rfl) h0 hl trivial (fun k u m hk0 hk _ ih=>?_) (fun _ _=>?_)
 .have h:=hf _ (dK (d:=jU) h0);unfold gS cA2;exact aO hO (.b (bF hk) (.o (aH h0) (.o (aH hk) (.o h.s (.o h.o (.ls (.ou nofun) (.nx (ih _ trivial))))))))
 exact aO hO (.b (fF l.length) (.ou nofun))
def JW(l:List Dg):Int:=match bG (YE l) l.length with
 |.inr k=>iH (l.getD k jU)
 |.inl _=>match kP (gS (cA2 l)) (l.length-1) 1 ()with
  |.inr _=>2
  |.inl _=>0
def am0:fA aG:=cO 34 (a1 aiS) iA JW (fun l=>[∀d∈l,Gs d,0<l.length∧l.length<=ah]) abL
theorem ar6:Gd am0:=ar0.add fun n hO l hp=>by
 have hf:∀d∈l,Gs d:=hp _ (.head _);obtain⟨h0,hl⟩:0<l.length∧l.length<=ah:=hp _ (.tail _ (.head _));have lp:=lA1 hO hf hl;have lp2:=lA2 hO hf h0 hl;show oN X0 Qp _ _ _ (iA.put (match bG (YE l) l.length with
  |.inr k=>iH (l.getD k jU)
  |.inl _=>match kP (gS (cA2 l)) (l.length-1) 1 ()with
   |.inr _=>2
   |.inl _=>0)) _
 revert lp lp2;rcases bG (YE l) l.length with _|k
 .rcases kP (gS (cA2 l)) (l.length-1) 1 ()with _|j
  .intro lp lp2;exact aN hO (.w lp (.w lp2 .rr))
  .intro lp lp2;exact aN hO (.w lp (.w lp2 .rr))
 .intro lp lp2;exact aN hO (.w lp .rr)
theorem abM{l:List Dg}(hp:∀d∈l,nI d)(h0:0<l.length):JW l=aY l:=by
 have hd:l.getD 0 jU∈l:=dK h0;have ec:∀k,k<l.length->(uG (l.getD k jU)).2=iH (l.getD k jU):=fun k hk=>by
  have h:=hp _ (dK (d:=jU) hk);rw[Ij h.r h.s (by have:=h.o;unfold ah;omega) h.e]
 have eb:∀k,k<l.length->cCk l k=YE l k:=fun k hk=>by unfold cCk YE;rw[ec k hk]
 unfold JW aY;cases e1:jZ (bG (cCk l) l.length)
 .obtain⟨j,hj,h1,h2,h3⟩:=Ba e1;have e2:jZ (bG (YE l) l.length)=false:=by
   cases e:jZ (bG (YE l) l.length)
   .rfl
   have:=dI.1 e j hj;rw[<-eb j hj,h1]at this;cases this
  obtain⟨i,hi,g1,g2,g3⟩:=Ba e2;have:i=j:=by
   by_cases c:i<j
   .have:=h2 i c;rw[eb i hi,g1]at this;cases this
   by_cases c2:j<i
   .have:=g2 j c2;rw[<-eb j hj,h1]at this;cases this
   omega
  subst this;rw[g3,h3,a0o (by simp)];exact(ec i hi).symm
 have h1:=dI.1 e1;have e2:jZ (bG (YE l) l.length)=true:=dI.2 fun j hj=>by rw[<-eb j hj];exact h1 j hj
 rw[a0u rfl];rcases e3:bG (YE l) l.length with u|k
 rotate_left
 .rw[e3]at e2;cases e2
 show(match kP (gS (cA2 l)) (l.length-1) 1 ()with
  |.inr _=>(2:Int)
  |.inl _=>0)=_
 have hs:yJ ((l.getD 0 jU).aj,(l.getD 0 jU).aB) (l.getD 0 jU)=true:=by simp[yJ]
 rcases e4:kP (gS (cA2 l)) (l.length-1) 1 ()with u|j
 .have h2:=(Ib (r:=fun k=>k) (c:=cA2 l) (m:=l.length-1) (k:=1)).1 (by unfold gS at e4;rw[e4];rfl);rw[a0o];rw[ae1,abU,a4R];intro d ZP;obtain⟨k,hk,rfl⟩:=a9h ZP;have ek:l[k]=l.getD k jU:=by rw[a2K,a0b hk,a5i]
  rw[ek];by_cases c:k=0
  .subst c;exact hs
  have:=h2 k (by omega) (by omega);unfold cA2 at this;rw[a8Y]at this;simpa using this
 have h2:=XA (r:=fun k=>k) (c:=cA2 l) (m:=l.length-1) (k:=1) (by unfold gS at e4;rw[e4];rfl);obtain⟨i,hi1,Kw,h3,_⟩:=h2;rw[a0u];rw[a8r,List.all_eq_false];unfold cA2 at h3;rw[a8Y]at h3;exact⟨l.getD i jU,dK (by omega),by simpa using h3⟩
open Go Tw Pv bZ
def U5(p:Dg×Dg):Bool:=if xJ p.1=true then(if xJ p.2=true then(JW [p.1,p.2]==0)else false)else false
theorem abN(a b:Dg):0<[a,b].length∧[a,b].length<=ah:=⟨by simp,by show 2<=ah;unfold ah;omega⟩
def am1:fA aG:=cO 42 (a2 dA dA) tA (fun p=>U5 p) np am0
theorem ar7:Gd am1:=ar6.add fun n hO p hp=>aN hO (.sh (fun h1=>.sh (fun h2=>.o (VP (A8 h1).1 (A8 h2).1) (.o (abN p.1 p.2) .rr)) fun _=>.rr) fun _=>.rr)
open Go Tw Pv bZ
theorem Ll{a b c:V}(ha:Ci a)(hb:Ci b)(hc:Ci c):(iF a b c).2=0:=by
 unfold iF;rw[a0o (by rw[a3s (pK.1 ha) (pK.1 hb) (pK.1 hc)];simp)]
 repeat' split
 all_goals rfl
theorem a8Z{k:Int}{a b:V}(h:uV k=true)(ha:Ci a)(hb:Ci b):(mG k a b).2=0:=by
 have h9:7<=k∧k<=16:=by simpa[uV]using h
 have e2:¬(!(gQ [a,b]))=true:=by rw[aiO (pK.1 ha) (pK.1 hb)];simp
 unfold mG;rw[a0u h];rcases nine h9 with rfl|rfl|rfl|rfl|rfl|rfl|rfl|rfl|rfl|rfl
 .show(oG a b).2=0;unfold oG;rw[a0o e2];split<;>rfl
 .show(oH a b).2=0;unfold oH;rw[a0o e2];split<;>rfl
 .show(oJ a b).2=0;unfold oJ;rw[a0o e2];split<;>rfl
 .show(lT a b).2=0;unfold lT;rw[a0o e2];split<;>rfl
 .show(lU a b).2=0;unfold lU;rw[a0o e2];split<;>rfl
 .show(lW a b).2=0;unfold lW;rw[a0o e2];split<;>rfl
 .show(lX a b).2=0;unfold lX;rw[a0o e2];split<;>rfl
 .show(lY a b).2=0;unfold lY;rw[a0o e2];split<;>rfl
 .show(iF a b (ny 0)).2=0;exact Ll ha hb ⟨by kernel_rfl,by decide⟩
 show(iF a (ny 1) b).2=0;exact Ll ha ⟨by kernel_rfl,by decide⟩ hb
theorem a2v{s q:List Int}(hq:jK s q=true):ov (List.replicate s.length (-1)) q=q:=by
 have hl:=rY hq;refine(pI (d:=(0:Int)) (by simp[ov,aea,hl])).2 fun k hk=>?_;have kT:k<s.length:=by simp[ov,aea,hl]at hk;exact hk
 rw[JG (by rw[a7Y,hl]),a0u (by rw[a7Y];exact kT),a0o];rw[a2K,adv,a0u kT];decide
theorem JX{D:List Dg}{op:List V->V}(hJ:jq (bJ D)):DW (bJ D) op=(List.range (xZ (D.getD 0 jU).aj)).map fun(k:Nat)=>op (D.map fun d=>kX d (iw (D.getD 0 jU).aj k)):=by
 unfold DW;refine a4V fun k _=>?_;have h:ov (bJ D).g (iw (bJ D).s k)=iw (D.getD 0 jU).aj k:=a2v (uj _ hJ.bU.sz);rw[h];rfl
theorem a4w{J:Jb}(hJ:jq J){op:List V->V}(jr:oL J op):∀v∈DW J op,Ci v:=by
 rw[<-TP hJ jr];exact Qu (wF hJ jr).2.2
theorem Qw{J:Jb}(hJ:jq J){op:List V->V}(jr:oL J op):cellsD (kY J op)=DW J op:=by
 rw[mk_eq hJ jr];exact Qa ⟨hJ.bU,hJ.ord,by unfold DW;rw[a4K,a9a];exact hJ.bU.a00⟩ fun v m=>(a4w hJ jr v m).1
theorem am2{a b:Dg}(ha:nI a)(hb:nI b)(h:aY [a,b]=0){c:Int}(hc:uV c=true):jq (bJ [a,b])∧oL (bJ [a,b]) (zZ c):=by
 have h1:=VP (P:=nI) ha hb;have hJ:=uq (D:=[a,b]) (by simp) (by simp) h1 h;exact⟨hJ,E5 hJ (Jb.inD h1 h) fun l hl hv=>(a2t hc (hv _ (dK (show 0<l.length by rw[hl];exact Nat.zero_lt_two))) (hv _ (dK (show 1<l.length by rw[hl];exact Nat.one_lt_two)))).1⟩
theorem abO{a b:Dg}(h:aY [a,b]=0){c:Int}(hc:uV c=true):nR (c,a,b)=(kY (bJ [a,b]) (zZ c),0):=by
 show(if(aY [a,b] != 0)=true then(jU,aY [a,b])else if((mG c iD iD).2 != 0)=true then(jU,(mG c iD iD).2)else(kY (bJ [a,b]) (zZ c),0))=_;rw[h,a8Z hc Nv Nv,a0o (by simp),a0o (by simp)]
open Go Tw Pv bZ
theorem II{J:Jb}(hJ:jq J){op:List V->V}(jr:oL J op):(kY J op).aj=J.s∧(kY J op).aB=J.o:=by
 rw[mk_eq hJ jr];exact⟨rfl,rfl⟩
theorem YF{a d:Dg}(h1:a.aj=d.aj)(h2:a.aB=d.aB):Lj (a,d)=true:=by simp[Lj,h1,h2]
def am3:fA aG:=cO 43 (a3 uA dA dA) (dQ (a2 dA tA)) (fun p=>(kY (bJ [p.2.1,p.2.2]) (zZ p.1),true)) (fun p=>[Gs p.2.1∧Gs p.2.2,nI p.2.1∧nI p.2.2,aY [p.2.1,p.2.2]=0,uV p.1=true]) am1
theorem ar8:Gd am3:=ar7.add fun n hO p hp=>by
 obtain⟨c,a,b⟩:=p;obtain⟨fa,fb⟩:Gs a∧Gs b:=hp _ (.head _);obtain⟨pa,pb⟩:nI a∧nI b:=hp _ (.tail _ (.head _));have hk:aY [a,b]=0:=hp _ (.tail _ (.tail _ (.head _)));have hc:uV c=true:=hp _ (.tail _ (.tail _ (.tail _ (.head _))));have q:=abO hk hc;obtain⟨hJ,hj⟩:=am2 pa pb hk hc;have hD:=a8V hJ hj;obtain⟨m1,m2⟩:=II hJ hj;have t1:((nR (c,a,b)).2==0)=true:=by rw[q];rfl
 have t2:(nR (c,a,b)).1.aB.length<=ah:=by rw[q];exact hD.f.o
 have t3:(nR (c,a,b)).1.aI.length<=ah:=by rw[q];exact hD.f.e
 have t4:(iH (nR (c,a,b)).1==0)=true:=by rw[q];show(iH (kY (bJ [a,b]) (zZ c))==0)=true;rw[hD.k];rfl
 exact aN hO (.o fa (.o fb (.o pa (.o pb (.b t1 (.o t2 (.o t3 (.b t4 (.o fa.s (.o fa.o (.v ((nR (c,a,b)).1,Lj (a,(nR (c,a,b)).1)) (by rw[q];exact aaD rfl (YF m1.symm m2.symm)))))))))))))
theorem agQ{a:Dg}(ha:nI a)(h:aY [a]=0){op:List V->V}(ho:∀l,(∀v∈l,Ci v)->l.length=1->Ci (op l)):jq (bJ [a])∧oL (bJ [a]) op:=by
 have hJ:=uq (D:=[a]) (by simp) (by simp) (YB ha) h;exact⟨hJ,E5 hJ (Jb.inD (YB ha) h) fun l hl hv=>ho l hv hl⟩
def agR:fA aG:=cO 47 (a1 dA) (dQ (a2 dA tA)) (fun p=>(kY (bJ [p]) dJ,true)) (fun p=>[Gs p,nI p,aY [p]=0]) am3
theorem ar9:Gd agR:=ar8.add fun n hO a hp=>by
 have fa:Gs a:=hp _ (.head _);have pa:nI a:=hp _ (.tail _ (.head _));have hk:aY [a]=0:=hp _ (.tail _ (.tail _ (.head _)));have q:kQ a=(kY (bJ [a]) dJ,0):=by unfold kQ;rw[hk,a0o (by simp)]
 obtain⟨hJ,hj⟩:=agQ pa hk (op:=dJ) fun l _ _=>Nw l;have hD:=a8V hJ hj;obtain⟨m1,m2⟩:=II hJ hj;have t1:((kQ a).2==0)=true:=by rw[q];rfl
 have t2:(kQ a).1.aB.length<=ah:=by rw[q];exact hD.f.o
 have t3:(kQ a).1.aI.length<=ah:=by rw[q];exact hD.f.e
 have t4:(iH (kQ a).1==0)=true:=by rw[q];show(iH (kY (bJ [a]) dJ)==0)=true;rw[hD.k];rfl
 exact aN hO (.o fa (.o pa (.b t1 (.o t2 (.o t3 (.b t4 (.o fa.s (.o fa.o (.v ((kQ a).1,Lj (a,(kQ a).1)) (by rw[q];exact aaD rfl (YF m1.symm m2.symm)))))))))))
theorem a4x{l:List Dg}(h:JW l=0):∀d∈l,iH d=0:=by
 have e:jZ (bG (YE l) l.length)=true:=by
  cases e:jZ (bG (YE l) l.length)
  .obtain⟨j,hj,h1,_,h3⟩:=Ba e;unfold JW at h;rw[h3]at h;have h:iH (l.getD j jU)=0:=h;unfold YE at h1;rw[h]at h1;cases h1
  rfl
 intro d hd;obtain⟨k,hk,rfl⟩:=a9h hd;have:=dI.1 e k hk;unfold YE at this;rw[a2K,a0b hk,a5i]at this;simpa using this
theorem Zl{a b:Dg}(h:U5 (a,b)=true)(ra:Ew a)(rb:Ew b):(Gs a∧Gs b)∧(nI a∧nI b)∧aY [a,b]=0∧(VQ a∧VQ b)∧a.aj=b.aj∧a.aB=b.aB∧iH a=0∧iH b=0:=by
 unfold U5 at h;split at h
 .rename_i h1;split at h
  .rename_i h2;have h1:xJ a=true:=h1;have h2:xJ b=true:=h2;have fa:=(A8 h1).1;have fb:=(A8 h2).1;have pa:=a8W h1 ra;have pb:=a8W h2 rb;have hk:aY [a,b]=0:=by
    rw[<-abM (VP pa pb) (by simp)];simpa using h
   have hg:=VO (VP (P:=nI) pa pb) hk;obtain⟨ga,_,_⟩:=hg a (by simp);obtain⟨gb,e1,e2⟩:=hg b (by simp);have hd:=a4x (l:=[a,b]) (by simpa using h);exact⟨⟨fa,fb⟩,⟨pa,pb⟩,hk,⟨EH fa.o fa.e (by rw[hd a (by simp)];rfl),EH fb.o fb.e (by rw[hd b (by simp)];rfl)⟩,e1.symm,e2.symm,hd a (by simp),hd b (by simp)⟩
  cases h
 cases h
open Go Tw Pv bZ
theorem sum_add{α:Type}(f g:α->Nat):∀l:List α,(l.map fun v=>f v+g v).sum=(l.map f).sum+(l.map g).sum
 | []=>rfl
 |a::l=>by simp only[a4D,List.sum_cons,sum_add f g l];omega
theorem a2w{c:V}:∀{l:List V},l.Nodup->(l.map fun v=>if c=v then 1 else 0).sum=if c∈l then 1 else 0
 | [],_=>rfl
 |a::l,h=>by
  have h2:=a4J.1 h;rw[a4D,List.sum_cons,a2w h2.2];by_cases e:c=a
  .subst e;rw[a0u rfl,a0o h2.1,a0u (by simp)]
  rw[a0o e];by_cases m:c∈l
  .rw[a0u m,a0u (by simp[m])]
  rw[a0o m,a0o (by simp[m,e])]
theorem Gm{l:List V}(hl:l.Nodup):∀cs:List V,(l.map fun v=>cs.count v).sum<=cs.length∧((∀v∈cs,v∈l)->(l.map fun v=>cs.count v).sum=cs.length)
 | []=>by
  have:(l.map fun v=>([]:List V).count v).sum=0:=by
   rw[show(fun v:V=>([]:List V).count v)=fun _=>0 from funext fun v=>rfl]
   induction l with
   |nil=>rfl
   |cons a l ih=>simpa using ih (a4J.1 hl).2
  rw[this];exact⟨a0x _,fun _=>rfl⟩
 |c::cs=>by
  have e:(fun v:V=>(c::cs).count v)=fun v=>cs.count v+if c=v then 1 else 0:=funext fun v=>by
   rw[List.count_cons];by_cases h:c=v
   .rw[a0u (by simpa using h),a0u h]
   rw[a0o (by simpa using h),a0o h]
  obtain⟨h1,h2⟩:=Gm hl cs;rw[e,sum_add,a2w hl,a4v];refine⟨by split<;>omega,fun h=>?_⟩;rw[h2 fun v hv=>h v (by simp[hv]),a0u (h c (by simp))]
theorem a2x(v:V):dJ [v]=if decide (v=iD)=true then iD else V0:=by
 unfold dJ nO;simp
theorem abP(p q:V):zZ 15 [dJ [p],dJ [q]]=if decide (p=iD)=true then(if decide (q=iD)=true then iD else V0)else V0:=by
 rw[a2x,a2x];cases decide (p=iD)<;>cases decide (q=iD)<;>kernel_rfl
theorem abQ{a b:Dg}(ha:DgF a)(hb:DgF b)(h1:a.aj=b.aj)(h2:a.aB=b.aB):aY [a,b]=0:=by
 have e:jZ (bG (cCk [a,b]) [a,b].length)=true:=dI.2 fun k hk=>by
  have hm:DgF ([a,b].getD k jU):=by
   have:=dK (l:=[a,b]) (d:=jU) hk;rcases a1J.1 this with e|e
   .rw[e];exact ha
   rw[a2D.1 e];exact hb
  have hp:=hm.p;unfold cCk;rw[Ij hp.r hp.s (by have:=hp.o;unfold ah;omega) hp.e];show(iH ([a,b].getD k jU) != 0)=false;rw[hm.k];rfl
 unfold aY;rw[a0u e,a0o];simp[yJ,h1,h2]
theorem a90{d:Dg}(hp:nI d)(h0:iH d=0){v:V}(hv:Ci v):uw (d,v)=(((cellsD d).count v:Int),0):=by
 have hk:aY [d]=0:=by rw[IG hp];exact h0
 have hJ:jq (bJ [d]):=uq (D:=[d]) (by simp) (by simp) (YB hp) hk;show(if(aY [d] != 0)=true then((0:Int),aY [d])else if(kR v != 0)=true then(0,4)else(look (dP (bJ [d])) v,0))=_;have ev:kR v=0:=by unfold kR;rw[a0t,hv.1];rfl
 rw[hk,ev,a0o (by simp),a0o (by simp),Qv,a4s hJ]
theorem count_map{α:Type}(f:α->V)(v:V):∀l:List α,(l.map f).count v=l.countP fun a=>decide (f a=v)
 | []=>rfl
 |a::l=>by
  rw[a4D,List.count_cons,List.countP_cons,count_map f v l];congr 1
theorem a4y{a b:Dg}(hJ:jq (bJ [a,b])):(nC (bJ [a,b])).count iD=((List.range (xZ a.aj)).map fun(k:Nat)=>zZ 15 [dJ [kX b (iw a.aj k)],dJ [kX a (iw a.aj k)]]).count iD:=by
 have hp:Iw (bJ [a,b])=(List.range (xZ a.aj)).map fun(k:Nat)=>iw a.aj k:=by
  unfold Iw;refine aef.2 fun q hq=>?_;have hp:=(Nk hJ).1 hq;rw[a0N];exact a2v (s:=a.aj) hp
 unfold nC Qm;rw[hp,a5D,List.filter_map,a5D,count_map,count_map,List.countP_filter];refine List.countP_congr fun k _=>?_;show((decide (kX a (iw a.aj k)=iD)&&nO [kX b (iw a.aj k)])=true)↔(decide (zZ 15 [dJ [kX b (iw a.aj k)],dJ [kX a (iw a.aj k)]]=iD)=true);rw[abP];unfold nO;by_cases h1:kX b (iw a.aj k)=iD
 .by_cases h2:kX a (iw a.aj k)=iD
  .simp[h1,h2]
  have:¬V0=iD:=by decide
  simp[h1,h2,this]
 have:¬V0=iD:=by decide
 simp[h1,this]
open Go Tw Pv bZ
abbrev wSu(a b:Dg)(s:Int)(i:Int)(e:List (Nat×PE aG)):aS aG:=⟨[(2,.loc 0 0),(3,.loc 1 0),(5,xi s),(6,xi i)]++e,[a.ps,b.ps],[]⟩
def gSu(a:Dg)(k:Nat)(s:Int):Int:=i64.wrap (s+(uw (a,a.aI.getD k V0)).1)
theorem a94{d:Dg}(h:xJ d=true)(h0:bV d.aj d.aB=0):zL d.aj<=200:=by
 unfold xJ at h;split at h
 .cases h
 rename_i c;have c:JV d.aj d.aB=true:=by simpa using c
 unfold JV at c;split at c
 .cases c
 split at c
 .cases c
 rw[h0]at c;simpa using c
theorem a4z{d:Dg}(h:VQ d):∀v∈cellsD d,v∈d.aI:=fun v hv=>by
 obtain⟨k,_,rfl⟩:=a0H.1 hv;have:=a1M h.t h.n (uj (k:Int) h.f.sz);exact dK (by obtain⟨a,b⟩:=this;omega)
structure SuP(a:Dg):Prop where
 f:Gs a
 p:nI a
 k:iH a=0
 n:xZ a.aj<=200
 l:a.aI.length<=40
theorem SuP.many{a:Dg}(h:SuP a){k:Nat}(hk:k<a.aI.length):uw (a,a.aI.getD k V0)=(((cellsD a).count (a.aI.getD k V0):Int),0)∧0<(cellsD a).count (a.aI.getD k V0)∧(cellsD a).count (a.aI.getD k V0)<=200:=by
 have hg:=VN h.p h.k;have hm:a.aI.getD k V0∈a.aI:=dK hk;have hc:=(a4u h.p.r h.k h.f.o (by have:=h.p.e;omega)).2 _ hm;exact⟨a90 h.p h.k (hg.c _ hm),List.count_pos_iff.2 hc,a5e List.count_le_length (by rw[xK];exact h.n)⟩
theorem SuP.sum{a:Dg}(h:SuP a):aT (gSu a) a.aI.length 0 0=((xZ a.aj:Nat):Int):=by
 have hg:=VN h.p h.k;have hN:=hg.dd.aI;have:=dw (g:=gSu a) (m:=a.aI.length) (k:=0) (s:=(0:Int)) (fun k s=>s=((((a.aI.take k).map fun v=>(cellsD a).count v).sum:Nat):Int)) rfl (fun j s _ hj e=>by
  have hj:j<a.aI.length:=by omega
  have h1:=(Gm (hN.sublist (List.take_sublist j a.aI)) (cellsD a)).1;rw[xK]at h1;have h2:=h.n;obtain⟨m1,m2,m3⟩:=h.many hj;unfold gSu;have e2:a.aI.getD j V0=a.aI[j]:=by rw[a2K,a0b hj,a5i]
  rw[m1,e,wrap_small (by omega) (by omega),a6t hj,a4C,List.sum_append,e2];simp)
 rw[a3H,aaE]at this;rw[this,(Gm hN (cellsD a)).2 fun v hv=>?_,xK];exact a4z (EH h.f.o h.f.e (by rw[h.k];rfl)) v hv
theorem lSu{n:Nat}(hO:Ok n agR){a b:Dg}(h:SuP a):Lp n 9 0 (wSu a b 0 0 []) (.exit 0) (wSu a b ((xZ a.aj:Nat):Int) a.aI.length [(28,xl false)]):=by
 rw[<-h.sum];refine KQ (X:=X0) (N:=a.aI.length) (g:=gSu a) (s0:=(0:Int)) (st:=fun i s=>wSu a b s i []) (fin:=fun s=>wSu a b s a.aI.length [(28,xl false)]) (fun _ _=>True) (by kernel_rfl) (by have:=h.f.e;exact this) QU trivial (fun _ _ _ _=>trivial) (fun k s hk _ m e p g9=>?_) (fun s _=>?_)
 .obtain⟨m1,m2,m3⟩:=h.many hk;have t1:((uw (a,a.aI.getD k V0)).2 != 0)=false:=by rw[m1];rfl
  have t2:decide ((uw (a,a.aI.getD k V0)).1<=0)=false:=by rw[m1,a2H];show ¬(((cellsD a).count (a.aI.getD k V0):Nat):Int)<=0;omega
  have t3:decide ((uw (a,a.aI.getD k V0)).1>200)=false:=by rw[m1,a2H];show ¬(((cellsD a).count (a.aI.getD k V0):Nat):Int)>200;omega
  exact aO hO (.b (bF hk) (.o h.f (.o (aH hk) (.o h.p (.b t1 (.b t2 (.b t3 (.go g9))))))))
 exact aO hO (.b (fF a.aI.length) .ex)
theorem a4A{a b:Dg}(ha:nI a)(hb:nI b)(ka:iH a=0)(kb:iH b=0)(es:a.aj=b.aj)(eo:a.aB=b.aB):let P:=kY (bJ [b]) dJ;let Q:=kY (bJ [a]) dJ;let C:=kY (bJ [P,Q]) (zZ 15);(DgF P∧DgF Q∧DgF C∧aY [P,Q]=0)∧cellsD C=(List.range (xZ a.aj)).map fun(k:Nat)=>zZ 15 [dJ [kX b (iw a.aj k)],dJ [kX a (iw a.aj k)]]:=by
 intro P Q C;obtain⟨jb,ob⟩:=agQ hb (by rw[IG hb];exact kb) (op:=dJ) fun l _ _=>Nw l;obtain⟨ja,oa⟩:=agQ ha (by rw[IG ha];exact ka) (op:=dJ) fun l _ _=>Nw l;have fP:DgF P:=a8V jb ob;have fQ:DgF Q:=a8V ja oa;obtain⟨p1,p2⟩:=II jb ob;obtain⟨q1,q2⟩:=II ja oa;have p1:P.aj=b.aj:=p1;have p2:P.aB=b.aB:=p2;have q1:Q.aj=a.aj:=q1;have q2:Q.aB=a.aB:=q2;have hk:aY [P,Q]=0:=abQ fP fQ (by rw[p1,q1,es]) (by rw[p2,q2,eo]);obtain⟨jc,oc⟩:=am2 fP.p fQ.p hk (c:=15) (by decide);refine⟨⟨fP,fQ,a8V jc oc,hk⟩,?_⟩;have e1:=Qw jb ob;have e2:=Qw ja oa;have e3:=Qw jc oc;rw[JX jb]at e1;rw[JX ja]at e2;rw[JX jc]at e3;have e3:cellsD C=(List.range (xZ P.aj)).map fun(k:Nat)=>zZ 15 [kX P (iw P.aj k),kX Q (iw P.aj k)]:=e3;have e1:cellsD P=(List.range (xZ b.aj)).map fun(k:Nat)=>dJ [kX b (iw b.aj k)]:=e1;have e2:cellsD Q=(List.range (xZ a.aj)).map fun(k:Nat)=>dJ [kX a (iw a.aj k)]:=e2;have g1:∀k,k<xZ a.aj->kX P (iw a.aj (k:Int))=dJ [kX b (iw a.aj (k:Int))]:=fun k kT=>by
  have h1:(cellsD P).getD k V0=kX P (iw P.aj (k:Int)):=by
   unfold cellsD;rw[a2K,a4H,aaj (by rw[p1,<-es];exact kT)];rfl
  rw[e1,a2K,a4H,aaj (by rw[<-es];exact kT),p1,<-es]at h1;exact h1.symm
 have g2:∀k,k<xZ a.aj->kX Q (iw a.aj (k:Int))=dJ [kX a (iw a.aj (k:Int))]:=fun k kT=>by
  have h1:(cellsD Q).getD k V0=kX Q (iw Q.aj (k:Int)):=by
   unfold cellsD;rw[a2K,a4H,aaj (by rw[q1];exact kT)];rfl
  rw[e2,a2K,a4H,aaj kT,q1]at h1;exact h1.symm
 rw[e3,p1,<-es];refine a4V fun k kT=>?_;rw[g1 k (a4L.1 kT),g2 k (a4L.1 kT)]
open Go Tw Pv bZ
def oc9:fA aG:=cO 9 (a2 dA dA) tA (fun _=>true) (fun p=>[Ew p.1∧Ew p.2]) agR
theorem gc9:Gd oc9:=ar9.add fun n hO p hp=>by
 obtain⟨a,b⟩:=p;obtain⟨ra,rb⟩:Ew a∧Ew b:=hp _ (.head _);cases ht:(!(U5 (a,b)))
 .have ht:U5 (a,b)=true:=by simpa using ht
  obtain⟨hf,hP,hk,⟨la,lb⟩,es,eo,ka,kb⟩:=Zl ht ra rb;have hth:xJ a=true:=by
   unfold U5 at ht;split at ht
   .assumption
   .cases ht
  have hc1:=a94 hth (Lh la.l);have hcI:=la.f.a00;have hm:=la.f.many;have ep:zL a.aj=((xZ a.aj:Nat):Int):=by rw[Pm la.f.sz];omega
  have hs:SuP a:=⟨hf.1,hP.1,ka,by omega,(A8 hth).2.2.2.1⟩;obtain⟨⟨fP,fQ,fC,hq⟩,ec⟩:=a4A hP.1 hP.2 ka kb es eo;have hJ:jq (bJ [a,b]):=uq (D:=[a,b]) (by simp) (by simp) (VP hP.1 hP.2) hk;have lp:=lSu hO (a:=a) (b:=b) hs;have qm:uw (kY (bJ [kY (bJ [b]) dJ,kY (bJ [a]) dJ]) (zZ 15),⟨0,1⟩)=(((cellsD (kY (bJ [kY (bJ [b]) dJ,kY (bJ [a]) dJ]) (zZ 15))).count iD:Int),0):=a90 fC.p fC.k Nv;have qs:IC (3,a,b)=yX 3 (dP (bJ [a,b])):=by
   show(if(aY [a,b] != 0)=true then(An0,aY [a,b])else yX 3 (dP (bJ [a,b])))=_;rw[hk,a0o (by simp)]
  have qn:(IC (3,a,b)).2=0∧(IC (3,a,b)).1.n=look (dP (bJ [a,b])) iD:=by
   rw[qs];unfold yX;split
   .rename_i e;rw[e];exact⟨rfl,rfl⟩
   .exact⟨rfl,rfl⟩
  have t1:(((xZ a.aj:Nat):Int)==zL a.aj)=true:=by rw[ep];exact beq_self_eq_true _
  have t2:((uw (kY (bJ [kY (bJ [b]) dJ,kY (bJ [a]) dJ]) (zZ 15),⟨0,1⟩)).2==0)=true:=by rw[qm];rfl
  have t3:((IC (3,a,b)).2==0)=true:=by rw[qn.1];rfl
  have t4:((IC (3,a,b)).1.n==(uw (kY (bJ [kY (bJ [b]) dJ,kY (bJ [a]) dJ]) (zZ 15),⟨0,1⟩)).1)=true:=by
   rw[qn.2,qm,Qv,a4y hJ];show(_==(((cellsD (kY (bJ [kY (bJ [b]) dJ,kY (bJ [a]) dJ]) (zZ 15))).count iD:Nat):Int))=true;rw[ec];exact beq_self_eq_true _
  have c1:aY [b]=0:=by rw[IG hP.2];exact kb
  have c2:aY [a]=0:=by rw[IG hP.1];exact ka
  exact aN hO (.b (congrArg Bool.not ht) (.w lp (.o hf.2 (.o hP.2 (.o c1 (.o hf.1 (.o hP.1 (.o c2 (.b (rfl:(!true)=false) (.b (rfl:(!true)=false) (.o (And.intro fP.f fQ.f) (.o (And.intro fP.p fQ.p) (.o hq (.o (show uV 15=true by decide) (.o fC.p (.o hf.1 (.o hf.2 (.o hP.1 (.o hP.2 (.o hf.1.s (.b t1 (.b (rfl:true=true) (.b t2 (.b t3 (.b t4 .rr)))))))))))))))))))))))))
 .exact aN hO (.b ht .rr)
end Go.Proofs.YtmobpoiejckagaaGreat
namespace Tw
open Go Go.ChangeShapes Go.WideShapes Go.RowKit
theorem U6{H:Type}{enc:TypeId×Value->H}{P:Program}{w:World}{t:TypeId}{ts:List TypeId}{vs:List Value}{ds:List (DataW H)}{ps:List MemPlace}(h:DataW.TrodAll enc P w 0 (fun _=>true) true (t::ts) vs ds ps):∃d e,ds=d::e∧Rd enc P w t d∧∃vs ps,DataW.TrodAll enc P w 0 (fun _=>true) true ts vs e ps:=by
 obtain⟨v,vs',d,ds',p,q,rfl,rfl,rfl,⟨fuel,hd⟩,O5⟩:=trodAll_cons h;exact⟨d,ds',rfl,⟨_,fuel,p,hd⟩,_,_,O5⟩
section
variable {H:Type} {P:Program} {g:Nat} {t:TypeId} {ts:List TypeId} {d:DataW H} {ds:List (DataW H)} {h h1 h2:List HB} {xs:List TV}
theorem a95{cs:List TV}(ha:wI P t=some true)(he:EM P g t d h=some (cs,h1))(hr:UC P g ts ds h1=some (xs,h2)):UC P g (t::ts) (d::ds) h=some (.agg cs::xs,h2):=by
 simp only[UC,he,ha,hr]
theorem agS:UC (H:=H) P g [] [] h=some ([],h):=rfl
end
end Tw
namespace Pv
open Go Tw
section
variable {X:l7} {P:Program} {H:Type} {nP:TypeId×Value->H} {w:World}
abbrev AT:Nat->Prop:=fun _=>True
def RdP(nP:TypeId×Value->H)(X:l7)(P:Program)(w:World)(g t:Nat){α:Type}(ps:α->List (PV X.Γ))(Q:α->Prop):Prop:=
 ∀d,Rd nP P w t d->∃a,Q a∧∀h,∃xs ext,EM P g t d h=some (xs,h++ext)∧∀e,bY X P AT [] (h++ext++e) (ps a) xs
theorem a2y{t g:Nat}{k:IntKind}(ht:P.underlying t=some (.int k)):RdP nP X P w (g+1) t (fun n:Int=>[.int k n]) (fun n=>(Lit.int k n).wf=true):=fun d hd=>by
 obtain⟨n,rfl,hn⟩:=afg ht hd;exact⟨n,hn,fun h=>⟨[.int k n],[],by simp[EM,ht],fun e=>.cons (.int _ _) .nil⟩⟩
theorem U7{e g sz:Nat}{Q:X.Γ e->Prop}(hlen:∀a,(X.enc e a).length=sz)(hr:RdP nP X P w g e (X.enc e) Q):∀(ds:List (DataW H)),(∀y∈ds,Rd nP P w e y) ->
  ∃l:List (X.Γ e),l.length=ds.length∧(∀a∈l,Q a)∧∀h,∃cs ext,WY (EM P g e) sz ds h=some (cs,h++ext)∧cs.length=l.length*sz∧∀e2 (j:Nat) a (i:Nat) c v,l[j]? = some a->(X.enc e a)[i]? = some c->cs[j*sz+i]? = some v->VR X P AT [] (h++ext++e2) c v
 | [],_=>⟨[],rfl,by simp,fun h=>⟨[],[],by simp[WY],by simp,fun e2 j a i c v h1=>by simp at h1⟩⟩
 |d::ds,hd=>by
  obtain⟨a,qa,ha⟩:=hr d (hd d (a2S ..));obtain⟨l,l1,l2,l3⟩:=U7 hlen hr ds fun y hy=>hd y (a2U _ hy);refine⟨a::l,by simp[l1],fun b hb=>(a1J.1 hb).elim (fun e=>e▸qa) (l2 b),fun h=>?_⟩;obtain⟨xs,e1,h1,v1⟩:=ha h;obtain⟨cs,e2,h2,c2,v2⟩:=l3 (h++e1);have hx:xs.length=sz:=by rw[<-(v1 []).1];exact hlen a
  refine⟨xs++cs,e1++e2,?_,by simp only[a1t,a4v,hx,c2,a3l];omega,fun e3 j b i c v hj hi hv=>?_⟩
  .simp only[WY,h1,hx,a2k,h2,a5t]
  .cases j with
   |zero=>
    simp only[a2F,a04]at hj;subst hj;have Kw:i<sz:=by rw[<-hlen a];exact(a05.1 hi).1
    rw[aco,a3H,a0g (by omega)]at hv;have:=(v1 (e2++e3)).2 i c v hi hv;simp only[a5t]at this ⊢;exact this
   |succ j=>
    rw[a9D]at hj;rw[a0G (by rw[hx,a3l];omega),hx,show(j+1)*sz+i-sz=j*sz+i by rw[a3l];omega]at hv;have:=v2 e3 j b i c v hj hi hv;simp only[a5t]at this ⊢;exact this
theorem Qx{t e g sz:Nat}{Q:X.Γ e->Prop}(ht:P.underlying t=some (.slice e))(vH:P.cellsOf e=sz)(hz:dG P e=some sz)(h0:0<sz)(hlen:∀a,(X.enc e a).length=sz)(hr:RdP nP X P w g e (X.enc e) Q):RdP nP X P w (g+1) t (fun l:List (X.Γ e)=>[.dF e l false]) (fun l=>∀a∈l,Q a):=fun d hd=>by
 rcases a6V ht hd with rfl|⟨xs,ys,rfl,hy⟩
 .exact⟨[],by simp,fun h=>⟨[.nil .slc],[],by simp[EM,ht],fun e=>.cons .pz .nil⟩⟩
 .obtain⟨l,l1,l2,l3⟩:=U7 hlen hr (xs++ys) hy;have hl:xs.length<=l.length:=by rw[l1,a1t];omega
  refine⟨l.take xs.length,fun a ha=>l2 a (a9u ha),fun h=>?_⟩;obtain⟨cs,e1,h1,c1,v1⟩:=l3 h;refine⟨[.slc (h++e1).length 0 xs.length (xs.length+ys.length) sz true],e1++[.cells .ro cs],?_,fun e2=>.cons ?_ .nil⟩
  .have iI:¬sz=0:=(by omega);simp only[EM,ht,vH,h1,iI,a3q,a5t]
  .have hln:(l.take xs.length).length=xs.length:=(by rw[a3I,a7E hl]);have hb:(h++(e1++[HB.cells .ro cs])++e2)[(h++e1).length]? = some (.cells .ro cs):=by
    rw[show h++(e1++[HB.cells .ro cs])++e2=(h++e1)++(HB.cells .ro cs::e2) by simp,a0G (a0x _),ah0];rfl
   have wP:(l.take xs.length).length<=xs.length+ys.length:=(by omega);have sG:∀(j:Nat) a,(l.take xs.length)[j]? = some a->l[j]? = some a:=fun j a hj=>by
    rw[a4I]at hj;split at hj
    .exact hj
    .cases hj
   have hle:(l.take xs.length).length*sz<=cs.length:=by rw[c1,hln];exact a3r sz hl
   generalize xs.length+ys.length=cp at wP ⊢;generalize l.take xs.length=l' at wP sG hle hln ⊢;rw[<-hln];exact VR.dF (X:=X) (P:=P) (A:=AT) (m:=[]) (t:=e) (l:=l') (fu:=false) (b:=(h++e1).length) (off:=0) (cap:=cp) (sz:=sz) (ex:=true) (cs:=cs) trivial (by unfold aV;rw[hb]) (fun _=>by unfold mQ;rw[hb];simp) hz h0 (by omega) wP (by simp) (fun j a _=>hlen a) (fun j a i c v hj hi hv=>by
    rw[a3H]at hv;have:=v1 ([HB.cells .ro cs]++e2) j a i c v (sG j a hj) hi hv;simp only[a5t]at this ⊢;exact this)
def RdF(nP:TypeId×Value->H)(X:l7)(P:Program)(w:World)(g o:Nat)(fs:List Field){α:Type}(ps:α->List (PV X.Γ))(Q:α->Prop):Prop:=
 ∀ds:List (DataW H),ds.length=fs.length->(∀(i:Nat) f d,fs[i]? = some f->ds[i]? = some d->Rd nP P w f.type d)->∃a,Q a∧∀h,∃xs ext,Ox P (EM P g) o fs ds h=some (xs,h++ext)∧∀e,bY X P AT [] (h++ext++e) (ps a) xs
theorem VW{g o:Nat}:RdF nP X P w g o [] (fun _:Unit=>[]) (fun _=>True):=fun ds hl _=>by
 have:=a4a hl;subst this;exact⟨(),trivial,fun h=>⟨[],[],by simp[Ox],fun e=>.nil⟩⟩
theorem sF{g o n:Nat}{f:Field}{fs:List Field}{α β:Type}{p1:α->List (PV X.Γ)}{p2:β->List (PV X.Γ)}{Q1:α->Prop}{Q2:β->Prop}(ho:f.offset=o)(hc:P.cellsOf f.type=n)(hn:∀a,(p1 a).length=n)(h1:RdP nP X P w g f.type p1 Q1)(h2:RdF nP X P w g (o+n) fs p2 Q2):RdF nP X P w g o (f::fs) (fun x:α×β=>p1 x.1++p2 x.2) (fun x=>Q1 x.1∧Q2 x.2):=fun ds hl hd=>by
 cases ds with
 |nil=>cases hl
 |cons d ds=>
  obtain⟨a,qa,ha⟩:=h1 d (hd 0 f d rfl rfl);obtain⟨b,qb,hb⟩:=h2 ds (by simpa using hl) fun i f' d' e1 e2=>hd (i+1) f' d' e1 e2;refine⟨(a,b),⟨qa,qb⟩,fun h=>?_⟩;obtain⟨xs,e1,g1,v1⟩:=ha h;obtain⟨ys,e2,g2,v2⟩:=hb (h++e1);have hx:xs.length=n:=by rw[<-(v1 []).1];exact hn a
  refine⟨xs++ys,e1++e2,?_,fun e=>?_⟩
  .simp only[Ox,g1,ho,hx,hc,ad7,a2k,g2,a5t]
  .have w1:=v1 (e2++e);have w2:=v2 e;simp only[a5t]at w1 w2 ⊢;exact w1.app w2
theorem Gn{t g n:Nat}{fs:Array Field}{α:Type}{ps:α->List (PV X.Γ)}{Q:α->Prop}(ht:P.underlying t=some (.struct fs))(hc:P.cellsOf t=n)(hn:∀a,(ps a).length=n)(hf:RdF nP X P w g 0 fs.toList ps Q):RdP nP X P w (g+1) t ps Q:=fun d hd=>by
 obtain⟨ds,rfl,hl,Kz⟩:=a3A ht hd;obtain⟨a,qa,ha⟩:=hf ds (by simpa using hl) fun i f d e1 e2=>Kz i f d (by simpa using e1) e2;refine⟨a,qa,fun h=>?_⟩;obtain⟨xs,e1,g1,v1⟩:=ha h;have hx:xs.length=n:=by rw[<-(v1 []).1];exact hn a
 refine⟨xs,e1,?_,v1⟩;rw[XG ht,g1];simp[hx,hc]
theorem RdP.iso{t g:Nat}{α β:Type}{ps:α->List (PV X.Γ)}{Q:α->Prop}(h:RdP nP X P w g t ps Q)(f:α->β){p2:β->List (PV X.Γ)}{Q2:β->Prop}(hp:∀a,p2 (f a)=ps a)(hq:∀a,Q a->Q2 (f a)):RdP nP X P w g t p2 Q2:=fun d hd=>by
 obtain⟨a,qa,ha⟩:=h d hd;exact⟨f a,hq a qa,fun h=>by rw[hp];exact ha h⟩
theorem agT{T:qQ}{L n f:Nat}{vs:List (PV X.Γ)}{xs:List TV}{h:List HB}(hc:oN X P (lF P T L (n+1)) f vs (PV.bool true) [])(hv:bY X P AT [] h vs xs):∃h',lF P T L (n+1) (TV.fn f [] []) xs h=some (TV.bool true,h',[]):=by
 obtain⟨x,h',m',c1,_,c3,_⟩:=hc AT h [] xs [] (fun _ _=>trivial) (by simpa using hv);have:x=TV.bool true:=by
  cases c3 with
  |bool=>rfl
  |gone hi _ _=>simp[bn]at hi
 subst this;exact⟨h',c1⟩
end
end Pv
namespace Go.Proofs.YtmobpoiejckagaaGreat
open Go Tw Pv
section
variable {H:Type} {nP:TypeId×Value->H} {w:World}
abbrev RdX(nP:TypeId×Value->H)(w:World)(g t:Nat){α:Type}(ps:α->List (PV aG))(Q:α->Prop):Prop:=RdP nP X0 Tryz.prog w g t ps Q
theorem a2z:Tryz.prog.cellsOf 3=1:=by kernel_rfl
theorem arb:Tryz.prog.cellsOf 5=1:=by kernel_rfl
theorem adY:Tryz.prog.cellsOf 39=2:=by kernel_rfl
theorem zI0:dG Tryz.prog 3=some 1:=by kernel_rfl
theorem abR{g:Nat}:RdX nP w (g+1) 3 (fun n:Int=>[.int .i64 n]) (fun n=>(Lit.int .i64 n).wf=true):=a2y Tryz.underlying3
theorem rU8{g:Nat}:RdX nP w (g+1) 5 (fun n:Int=>[.int .u8 n]) (fun n=>0<=n∧n<=255):=(a2y Tryz.underlying5).iso id (fun _=>rfl) fun n h=>by
 simp only[Lit.wf,a1D,a0N]at h;exact h
theorem a96{g:Nat}:RdX nP w (g+2) 22 (fun l:List Int=>[lI l]) (fun l=>∀a∈l,(Lit.int .i64 a).wf=true):=Qx (e:=3) Tryz.underlying22 a2z zI0 (by decide) (fun _=>rfl) abR
theorem ard{g:Nat}:RdX nP w (g+2) 39 V.ps (fun v=>0<=v.f∧v.f<=255):=
 (Gn Tryz.underlying39 adY (fun _=>rfl) (sF rfl arb (fun _=>rfl) rU8 (sF rfl a2z (fun _=>rfl) abR VW))).iso (fun x=>⟨x.1,x.2.1⟩) (fun _=>rfl) fun _ h=>h.1
theorem am4:dG Tryz.prog 39=some 2:=by kernel_rfl
theorem am5{g:Nat}:RdX nP w (g+3) 23 (fun l:List V=>[lV l]) (fun l=>∀v∈l,0<=v.f∧v.f<=255):=Qx (e:=39) Tryz.underlying23 adY am4 (by decide) (fun _=>rfl) ard
theorem agU:Tryz.prog.cellsOf 22=1:=by kernel_rfl
end
open Go Tw Pv bZ
section
variable {H:Type} {nP:TypeId×Value->H} {w:World}
theorem am6:Tryz.prog.cellsOf 105=2:=by kernel_rfl
theorem arf:dG Tryz.prog 105=some 2:=by kernel_rfl
theorem am7:Tryz.prog.cellsOf 24=1:=by kernel_rfl
theorem arh:Tryz.prog.cellsOf 23=1:=by kernel_rfl
theorem ari:Tryz.prog.cellsOf 26=5:=by kernel_rfl
theorem rBr{g:Nat}:RdX nP w (g+3) 105 Br.ps (fun b=>∀a∈b.aA,(Lit.int .i64 a).wf=true):=
 (Gn Tryz.underlying105 am6 (fun _=>rfl) (sF rfl a2z (fun _=>rfl) abR (sF rfl agU (fun _=>rfl) a96 VW))).iso (fun x=>⟨x.1,x.2.1⟩) (fun _=>rfl) fun _ h=>h.2.1
theorem arj{g:Nat}:RdX nP w (g+4) 24 (fun l:List Br=>[lBr l]) (fun l=>∀b∈l,∀a∈b.aA,(Lit.int .i64 a).wf=true):=Qx (e:=105) Tryz.underlying24 am6 arf (by decide) (fun _=>rfl) rBr
theorem a97{a:Int}(h:(Lit.int .i64 a).wf=true):G9 a:=by
 simp only[Lit.wf,a1D,a0N]at h;obtain⟨h1,h2⟩:=h;have e1:i64.min=-(2^63):=by decide
 have e2:i64.max=2^63-1:=by decide
 exact⟨by omega,by omega⟩
theorem rDg{g:Nat}:RdX nP w (g+5) 26 Dg.ps Ew:=
 (Gn Tryz.underlying26 ari (fun _=>rfl) (sF rfl agU (fun _=>rfl) a96 (sF rfl agU (fun _=>rfl) a96 (sF rfl arh (fun _=>rfl) am5 (sF rfl am7 (fun _=>rfl) arj (sF rfl a2z (fun _=>rfl) abR VW)))))).iso (fun x=>⟨x.1,x.2.1,x.2.2.1,x.2.2.2.1,x.2.2.2.2.1⟩) (fun _=>rfl) fun x h=>by
  obtain⟨_,_,h3,h4,h5,_⟩:=h;refine⟨fun i hi k hk=>?_,a97 h5,fun v hv=>(h3 v hv).1⟩;have hb:fB ⟨x.1,x.2.1,x.2.2.1,x.2.2.2.1,x.2.2.2.2.1⟩ i∈x.2.2.2.1:=by
   show(x.2.2.2.1).getD i kW∈_;rw[List.getD,a0b hi];exact a4Q _
  refine a97 (h4 _ hb _ ?_);rw[List.getD,a0b hk];exact a4Q _
end
open Go.ChangeShapes Go.WideShapes Go.ChangeAt Go.RowKit
theorem Tryz.own:ownKnob Tryz.prog.godebug=none:=by kernel_rfl
theorem Tryz.laidOut:laidOutB Tryz.prog=true:=by kernel_rfl
theorem Tryz.mixed:Tryz.prog.follows .mixedOrders=true:=by kernel_rfl
theorem agV:iK Tryz.prog T.ext:=by
 show iK Tryz.prog aff;intro fv args h v h' ws hc;unfold aff at hc;split at hc
 .split at hc
  .exact aan (Zt (T:=Tm) Tryz.mixed (fun _ _ _ _ _ _ h=>by cases h) 2) _ _ _ _ _ _ hc
  exact XD acv _ _ _ _ _ _ hc
 exact XD acv _ _ _ _ _ _ hc
theorem Tryz.tys9:Tryz.f9.params.toList=[26,26]:=by kernel_rfl
set_option maxRecDepth 100000 in
theorem JY(os:Os)(started:os.Started)(H:Type)(enc:TypeId×Value->H) :
  ReturnsInHanded {} Tryz.checked os 9 .any (Rows.applySumsSpec.pre6 enc Tryz.prog Tryz.f9 Rows.applySumsRow.domain false) (Rows.applySumsSpec.post enc Tryz.prog Tryz.f9 false true false false):=by
 refine returnsInHanded_of_change (C:=Tryz.checked) Tryz.own started (by kernel_rfl) Tryz.func9
  (ChangeSpec.witness6 (enc:=enc) (C:=Tryz.checked) false ⟨#[],#[.agg #[.slice none 0 0,.slice none 0 0,.slice none 0 0,.slice none 0 0,.int .i64 0],.agg #[.slice none 0 0,.slice none 0 0,.slice none 0 0,.slice none 0 0,.int .i64 0]],[]⟩ 8 (by kernel_rfl) (by kernel_rfl) (by kernel_rfl) (by kernel_rfl)) ?_
 intro W base args ds gs before am8 hW avI _;have X4:∀(j:Nat) t v,Tryz.f9.params[j]? = some t->args[j]? = some v->Value.okWide Tryz.prog W .any base t v:=am8;have hW':=hW;obtain⟨p,q,ark,hV,rfl,hfz,jH⟩:=hW;have hTA:DataW.TrodAll enc Tryz.prog W 0 (fun _=>true) true Tryz.f9.params.toList args.toList ds p:=ark;obtain⟨rfl,rfl⟩:=trodVars_none hV;rw[Tryz.tys9]at hTA;obtain⟨d0,_,rfl,r0,_,_,hTA⟩:=U6 hTA;obtain⟨d1,_,rfl,r1,_,_,hTA⟩:=U6 hTA;obtain⟨_,rfl,_⟩:=trodAll_nil hTA;obtain⟨a0,q0,h0⟩:=rDg (g:=2) d0 r0;obtain⟨a1,q1,h1⟩:=rDg (g:=2) d1 r1;obtain⟨x0,e0,g0,v0⟩:=h0 ([]);obtain⟨x1,e1,g1,v1⟩:=h1 ([]++e0);have w0:=v0 (e1);simp only[a5t,ac0,a5R]at w0;have w1:=v1 ([]);simp only[a5t,ac0,a5R]at w1;obtain⟨N,hN⟩:=gc9;have arl:=hN (N+1) (by omega) 9 ((Pv.a2 dA dA).put (a0,a1)) (tA.put true) [] [Ew a0∧Ew a1] rfl (by
  intro p hp;simp only[a1J,List.not_mem_nil,or_false]at hp;subst hp;exact⟨q0,q1⟩)
 obtain⟨h',hr⟩:=agT (h:=[]++e0++e1) arl (by simp only[a5t,ac0,a5R];exact .cons (.agg w0.1 w0.2) (.cons (.agg w1.1 w1.2) .nil));exact Zu (P:=Tryz.prog) (T:=T) (L:=LL) (n:=N) (g:=7) Tryz.mixed Tryz.laidOut rfl rfl (by kernel_rfl) Tryz.underlying4 (by kernel_rfl) hW' X4
  (by rw[Tryz.tys9];exact(a95 (by kernel_rfl) g0 (a95 (by kernel_rfl) g1 agS))) agV (by kernel_rfl) (by kernel_rfl) hr
theorem JZ:joinedFacts Tryz.pinned.checked.prog 9 Tryz.f9 Rows.applySumsSpec Rows.applySumsRow=true:=by kernel_rfl
theorem ApplySums_holds:Rows.ApplySumsSaid:=
 OpenClaim.holds_of_wide 9 Tryz.f9 rfl rfl rfl rfl rfl rfl rfl ⟨rfl,rfl,rfl,rfl,rfl⟩ rfl rfl rfl rfl rfl (by kernel_rfl) Tryz.func9 JZ
  (a7e (by kernel_rfl)) (by unfold Func.isWrapper;first|(rw[a0u (by decide +kernel)];kernel_rfl)|(rw[a0o (by decide +kernel)];exact⟨rfl,rfl⟩))
  (fun os started H enc _=>JY os started H enc)
end Go.Proofs.YtmobpoiejckagaaGreat
