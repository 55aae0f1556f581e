/- ApplyLaws: OpAnd, and OpOr, of Where of two diagrams do not depend on which one is first; OpNot twice of Where changes nothing; Both of two is OpAnd of Where of both; If of Where, and of twice the same diagram, is this diagram (the Go function of this name returns true for every input). -/
import Derived.ProofKit
import Derived.Test.YtmobpoiejckagaaGreatRows
import Derived.Test.YtmobpoiejckagaaGreatP05
set_option linter.constructorNameAsVariable false
set_option linter.unusedVariables false
set_option linter.unusedSimpArgs false
set_option linter.unusedSectionVars false
open Go.IntKind (i64)
noncomputable section
namespace Go.Proofs.YtmobpoiejckagaaGreat
open Go Tw Pv bV
def a1a(J:Jb):List (List V):=(YZ J).map fun q=>J.D.map fun d=>mW d q
def wz(J:Jb):List V:=((a1a J).filter fun l=>oN (l.drop 1)).map fun l=>l.getD 0 V0
abbrev Zc(e:V×Int):LI0:=TA e.1.tv
def fB(J:Jb):List (V×Int):=zV Zc (BG (wz J))
theorem a3r(φ):∀L,eF (Zb φ) L=eF φ ((L.filter fun l=>oN (l.drop 1)).map fun l=>l.getD 0 V0)
 | []=>rfl
 |l::L=>by
  rw[eF,a3r φ L];unfold Zb;cases h:oN (l.drop 1)
  .rw[a0U (by simp),adz (by rw[h];simp)];omega
  rw[a18 rfl,adD (by rw[h]),a4W,eF]
theorem key_inj{l:List (V×Int)}(hn:(l.map (·.1)).Nodup):∀a∈l,∀b∈l,Zc a=Zc b->a=b:=fun a ha b hb h=>by
 have h1:a.1=b.1:=by have h:[a.1.f,a.1.n]=[b.1.f,b.1.n]:=h;simp only[afj,and_true]at h;obtain⟨⟨a1,a2⟩,_⟩:=a;obtain⟨⟨b1,b2⟩,_⟩:=b;simp only at h;rw[h.1,h.2]
 have h2:=J8 hn ha;have h3:=J8 hn hb;rw[h1,h3]at h2;exact abk h1 h2.symm
theorem a9s{J t}(h:a9r J t):t.Perm (BG (wz J)):=by obtain⟨f1,f2⟩:=H8 (wz J);refine VQ h.1.nd f1 h.1.pos f2 fun φ=>?_;rw[h.2,Ub];unfold wz;rw[<-a3r];unfold a1a;rw[Ap]
theorem a9t{J t}(h:a9r J t):zV Zc t=fB J:=Gj (a9s h) (key_inj h.1.nd)
abbrev acr(e:V×Int):TV×TV:=(e.1.tv,.int .i64 e.2)
theorem WO:∀t,xY (kV.im t)=some (t.map acr)
 | []=>rfl
 |e::t=>by
  have:=WO t;show(match qG (kV.pv e.1),qG (PV.int .i64 e.2:PV aG),xY (kV.im t)with
   |some k,some v,some r=>some ((k,v)::r)
   |_,_,_=>none)=_
  rw[this];rfl
section
variable{n:Nat}{J:Jb}(hJ:jH J){f:Nat}
include hJ
set_option maxRecDepth 20000 in
theorem Rf(hO:Ok n ru)(hD:0<J.D.length):jf (n+2) (.fn 87 [] []) [.agg (J.ps (.fn f [] []))] [] (.map 0) [.map (kV.im (fB J))]:=by
 refine a7Z (X:=X0) (P:=Qp) (T:=T) (L:=LL) (n:=n+1) (f:=87) (first:=[]) (cap:=[]) (H:=[]) (t:=Uf Qp 87) (es0:=kV.im (fB J)) (a4F:=(fB J).map acr) hX (by kernel_rfl) (by kernel_rfl) (by kernel_rfl) rfl (WO _) ?_;have e0:(Uf Qp 87).body=.seq (eU Z7) (.seq (eU (eX Z7)) (.seq (.seq (eU (eU (eX (eX Z7)))) (.block 0 (.rangeFunc (.tmp 8) #[9,10] (xX Qp 87) (BF Qp 87)))) (.seq (eU (eX (eX (eX Z7)))) .ret))):=by kernel_rfl
 rw[e0];have x0:dR X0 Qp T (iD (n+1)) LL 87 false (D9 Qp 87) 0 (eU Z7) ⟨lM X0 0 [.agg (J.ps (.fn f [] []))],[],[]⟩ .norm ⟨[(1,.val (.ptr 0 0 5)),(2,.val (.nil .map))],[],[.cells (J.ps (.fn f [] []))]⟩:=Ae hX gK (an:=.n) (by kernel_rfl) (.r rfl);have x1:dR X0 Qp T (iD (n+1)) LL 87 false (D9 Qp 87) 0 (eU (eX Z7)) ⟨[(1,.val (.ptr 0 0 5)),(2,.val (.nil .map))],[],[.cells (J.ps (.fn f [] []))]⟩ .norm ⟨[(1,.val (.ptr 0 0 5)),(2,.val (.nil .map)),(3,.val (.ptr 2 0 1))],[],HQc J f []⟩:=Ae hX gK (an:=.n) (by kernel_rfl) (.r rfl);have x2:dR X0 Qp T (iD (n+1)) LL 87 false (D9 Qp 87) 0 (eU (eU (eX (eX Z7)))) ⟨[(1,.val (.ptr 0 0 5)),(2,.val (.nil .map)),(3,.val (.ptr 2 0 1))],[],HQc J f []⟩ .norm ⟨a9m J f,[],HQc J f []⟩:=Ae hX gK (an:=.n) (by kernel_rfl) (.r rfl);refine aJ.BX (by kernel_rfl) x0 (aJ.BX (by kernel_rfl) x1 (aJ.seq (R:=fun e s=>e=.norm/\∃(t:List (V×Int)) (G:List (PB aG)),a9r J t/\s=⟨a9m J f,[],SB J f false (some .skip) t++G⟩) (aJ.BX (by kernel_rfl) x2 (aJ.block ?_)) (fun s h=>?_) (fun i s h=>by cases h.1) (fun s h=>by cases h.1)))
 .refine aJ.range (f1:=136) (a1:=[.agg (J.ps (.fn f [] []))]) (b1:=[]) (K:=fun v H1=>∃(t:List (V×Int)) (G:List (PB aG)),a9r J t/\H1=SB J f true none t++G) hX rfl (by kernel_rfl) (by kernel_rfl) (amQ hJ hO hD) (fun v H1 hk=>?_);obtain⟨t,G,h1,rfl⟩:=hk;exact⟨true,_,_,_,_,_,_,none,.norm,rfl,rfl,rfl,t,G,h1,rfl⟩
 obtain⟨_,t,G,h1,rfl⟩:=h;have x3:dR X0 Qp T (iD (n+1)) LL 87 false (D9 Qp 87) 0 (.seq (eU (eX (eX (eX Z7)))) .ret) ⟨a9m J f,[],SB J f false (some .skip) t++G⟩ .ret ⟨[(2,.val (.map 1))],[],SB J f false (some .skip) t++G⟩:=Ae hX gK (an:=.n) (by kernel_rfl) (.r rfl);refine aJ.step (by kernel_rfl) x3 ⟨.inr rfl,[.map 1],by kernel_rfl,1,kV.im t,t.map acr,rfl,rfl,WO t,?_⟩;unfold TD;rw[Ud (g:=acr) (key:=Zc) (key2:=fun e=>TA e.1) (fun _=>rfl),a9t h1]
end
open Go Tw Pv bV
abbrev Rh(t:List (V×Int))(j:Nat):V×Int:=t.getD j (V0,0)
theorem WQ{t j e}(h:t[j]? = some e):Rh t j=e/\j<t.length/\e∈t:=by obtain⟨h1,h2⟩:=a0w.1 h;exact⟨by simp[Rh,List.getD,h],h1,h2▸a5K h1⟩
theorem ahF(t):t=(List.range t.length).map fun j=>Rh t j:=
 (pW (d:=((V0,0):V×Int)) (by simp)).2 fun k hk=>by simp[List.getD,hk]
theorem Zd(t):eF (fun j=>(Rh t j).2) (List.range t.length)=dL (fun _=>1) t:=by
 have h1:dL (fun _=>1) t=eF (fun e:V×Int=>e.2) t:=by
  induction t with
  |nil=>rfl
  |cons e m ih=>simp only[dL,eF,ih,adf]
 rw[h1]
 conv=>rhs;rw[ahF t]
 rw[Ap]
theorem BZ{t}{j:Nat}{v w}(h:t[j]? = some (v,w)):(kV.im t).length=t.length/\(kV.im t)[j]? = some (.agg v.ps,.int .i64 w):=by refine⟨kV.qy t,?_⟩;rw[kV.BQ,h];rfl
structure LC(t:List (V×Int)):Prop where
 pos:∀e∈t,0<e.2
 tot:dL (fun _=>1) t<=2000
theorem LC.len{t}(h:LC t):t.length<=2000:=by
 have h6:∀{m:List (V×Int)},(∀e∈m,0<e.2)->(m.length:Int)<=dL (fun _=>1) m:=by
  intro m
  induction m with
  |nil=>intro _;exact aa7 _
  |cons e m ih=>
   intro hp;have:=ih fun e he=>hp e (by simp[he]);have:=hp e (by simp);simp only[dL,a4T,adf];omega
 have:=h6 h.pos;have:=h.tot;omega
abbrev a5p:Code:=(Uf Qp 90).body
abbrev lpA:Code:=eU (eU (eX (eU (eX a5p))))
abbrev xA:Code:=eU (eX (eX lpA))
abbrev sA(t:List (V×Int))(z:Int)(js:List Nat):bT aG:=⟨[(2,xi z),(6,.val (.iter 1))],[],[.iO (kV.im t),.dh 0 t.length js]⟩
section
variable{n:Nat}{t:List (V×Int)}
set_option maxRecDepth 20000 in
theorem as9(h:LC t):jf (n+1) (.fn 90 [] []) [.map 0] [.iO (kV.im t)] (.int .i64 (dL (fun _=>1) t)) [.iO (kV.im t)]:=by
 refine abt (X:=X0) (P:=Qp) (T:=T) (L:=LL) (n:=n) (f:=90) (first:=[]) (cap:=[]) (xs:=[.map 0]) (H:=[.iO (kV.im t)]) (v:=.int .i64 (dL (fun _=>1) t)) (t:=Uf Qp 90) (tv:=.int .i64 (dL (fun _=>1) t)) hX (by kernel_rfl) (by kernel_rfl) (by kernel_rfl) rfl rfl ?_;have e0:(Uf Qp 90).body=.seq (eU a5p) (.seq (.seq (eU (eU (eX a5p))) (.block 0 (.loop lpA))) (.seq (eU (eX (eX a5p))) .ret)):=by kernel_rfl
 have e1:lpA=.seq (.region 2 (a8a (eU lpA)) false) (.seq (.cond (.tmp 8) .skip (.exit 0)) (.block 1 xA)):=by kernel_rfl
 have x0:dR X0 Qp T (iD n) LL 90 false (D9 Qp 90) 1 (eU a5p) ⟨lM X0 0 [.map 0],[],[.iO (kV.im t)]⟩ .norm ⟨[(0,.val (.map 0)),(2,xi 0)],[],[.iO (kV.im t)]⟩:=Ae hX gK (an:=.n) (by kernel_rfl) (.r rfl);have x1:dR X0 Qp T (iD n) LL 90 false (D9 Qp 90) 1 (eU (eU (eX a5p))) ⟨[(0,.val (.map 0)),(2,xi 0)],[],[.iO (kV.im t)]⟩ .norm ⟨[(2,xi 0),(6,.val (.iter 1))],[],[.iO (kV.im t),.dh 0 (kV.im t).length []]⟩:=Ae hX gK (an:=.n) (by kernel_rfl) (.r rfl);rw[kV.qy t]at x1;have hlen:=h.len;have hpj:∀j,j<t.length->0<(Rh t j).2:=fun k hk=>h.pos _ (bQ (d:=((V0,0):V×Int)) hk);rw[e0];refine aJ.BX (by kernel_rfl) x0 (aJ.seq (R:=fun e s=>e=.norm/\∃seen,s={ sA t (dL (fun _=>1) t) seen with env:=jB (T.iJ 90 2) ((8,.val (.bool false))::(7,.val (.dK [.bool false]))::(sA t (dL (fun _=>1) t) seen).env) }) (aJ.BX (by kernel_rfl) x1 ?_) (fun s hs=>?_) (fun i s h=>by cases h.1) (fun s h=>by cases h.1))
 .rw[e1];refine VU hX (n:=t.length) (b:=1) (r:=0) (it:=6) (nx:=7) (mo:=8) (es:=kV.im t) (fun seen s=>seen.Nodup/\(∀j∈seen,j<t.length)/\iq X0 (T.eY 90 (dW lpA)) s=sA t (eF (fun j=>(Rh t j).2) seen) seen) (by kernel_rfl) (a7v (by kernel_rfl)) (a7v (by kernel_rfl)) (kV.qy t) (by unfold LL;omega)
   ⟨a6m,(fun j hj=>(by cases hj)),(by kernel_rfl)⟩ (fun seen s hi=>?_)
  obtain⟨jG,aQ,h3⟩:=hi;rw[<-e1];refine⟨_,h3,by kernel_rfl,by kernel_rfl,by kernel_rfl,fun ho=>⟨by kernel_rfl,seen,?_⟩,fun j e hj he=>⟨by kernel_rfl,?_⟩⟩
  .rw[QZ jG aQ ho,Zd]
  rw[kV.BQ,a0z]at he;obtain⟨⟨v,w⟩,tX,rfl⟩:=he;obtain⟨q1,q2,q3⟩:=WQ tX;have Ht:(j::seen).Nodup:=a5I.2 ⟨hj,jG⟩;have FM:∀k∈j::seen,k<t.length:=fun k hk=>by
   rcases a1G.1 hk with rfl|hk
   .exact q2
   exact aQ k hk
  have hb:=WL (φ:=fun j=>(Rh t j).2) Ht FM fun k hk=>afu (hpj k hk);have yu:=WJ (φ:=fun j=>(Rh t j).2) (l:=seen) fun k hk=>afu (hpj k (aQ k hk));rw[Zd,eF,q1]at hb;have ht:=h.tot;have hw:=h.pos _ q3;have UZ:i64.wrap (eF (fun j=>(Rh t j).2) seen+w)=eF (fun j=>(Rh t j).2) (j::seen):=by rw[fP (by have:(0:Int)<w:=hw;omega) (by have:w+eF (fun j=>(Rh t j).2) seen<=dL (fun _=>1) t:=hb;omega),eF,q1,ai6]
  refine aJ.step (e:=.norm) (by kernel_rfl) (Ae (ps1:=⟨[(2,xi (i64.wrap (eF (fun j=>(Rh t j).2) seen+w))),(6,.val (.iter 1))],[],[.iO (kV.im t),.dh 0 t.length (j::seen)]⟩) hX gK (by kernel_rfl) (.c (.dK [.agg v.ps,.int .i64 w]) [] (BZ tX) (.r rfl))) ⟨.inl rfl,Ht,FM,?_⟩;rw[UZ]
  kernel_rfl
 obtain⟨_,seen,rfl⟩:=hs;exact aJ.step (by kernel_rfl) (Ae (e:=.ret) (ps1:=⟨[(2,xi (dL (fun _=>1) t))],[],[.iO (kV.im t),.dh 0 t.length seen]⟩) hX gK (an:=.n) (by kernel_rfl) (.r rfl)) ⟨.inr rfl,[.int .i64 (dL (fun _=>1) t)],by kernel_rfl,rfl⟩
end
open Go Tw Pv bV
abbrev a1b:Code:=(Uf Qp 88).body
abbrev lpB:Code:=eU (eU (eX (eU (eX a1b))))
abbrev xB:Code:=eU (eX (eX lpB))
def Es(t:List (V×Int))(js:List Nat):LI0:=(js.reverse.filter fun j=>!decide ((Rh t j).1.f>0)).map fun j=>(Rh t j).1.n
def fOf(t:List (V×Int))(js:List Nat):Bool:=js.any fun j=>decide ((Rh t j).1.f>0)
theorem a5q(t j js):Es t (j::js)=Es t js++(if decide ((Rh t j).1.f>0)=true then []else [(Rh t j).1.n]):=by
 unfold Es;rw[List.reverse_cons,List.filter_append,a4V];congr 1;cases h:decide ((Rh t j).1.f>0)
 .rw[adD (by rw[h];rfl),a0U (by simp)];rfl
 rw[adz (by rw[h];simp),a18 rfl];rfl
def nC(t:List (V×Int)):LI0:=iw ((t.filter fun e=>!decide (e.1.f>0)).map fun e=>e.1.n)
def vT(t:List (V×Int)):Bool:=t.any fun e=>decide (e.1.f>0)
theorem a1c{l l'}(h:l.Perm l'):iw l=iw l':=by
 unfold iw;have hs:∀l:LI0,(l.mergeSort fun x y=>decide (x<=y)).Pairwise fun a b=>decide (a<=b)=true:=fun l=>
  List.pairwise_mergeSort (fun a b c h1 h2=>by simp at *;omega) (fun a b=>by simp;omega) l
 exact List.Perm.eq_of_pairwise (le:=fun a b=>decide (a<=b)=true) (fun a b _ _ h1 h2=>by simp at h1 h2;omega) (hs l) (hs l') ((afg l _).trans (h.trans (afg l' _).symm))
theorem ahH{t js}(hn:js.Nodup)(hl:∀j∈js,j<t.length)(ha:∀j,j<t.length->j∈js):iw (Es t js)=nC t/\fOf t js=vT t:=by
 have hp:(js.reverse).Perm (List.range t.length):=(List.reverse_perm js).trans ((a7t hn afb).2 fun j=>⟨fun h=>a5D.2 (hl j h),fun h=>ha j (a5D.1 h)⟩);constructor
 .refine a1c ?_;unfold Es;have e:((t.filter fun e=>!decide (e.1.f>0)).map fun e=>e.1.n)=((List.range t.length).filter fun j=>!decide ((Rh t j).1.f>0)).map fun j=>(Rh t j).1.n:=by
   conv=>lhs;rw[ahF t]
   rw[List.filter_map,a8l];rfl
  rw[e];exact(hp.filter _).map _
 unfold fOf vT;rw[a5R,ahd,ahd];constructor
 .rintro⟨j,hj,h⟩;exact⟨Rh t j,bQ (d:=((V0,0):V×Int)) (hl j hj),h⟩
 rintro⟨e,he,h⟩;obtain⟨j,hj,rfl⟩:=a5Q.1 he;exact⟨j,ha j hj,by rw[(WQ (a0N hj)).1];exact h⟩
abbrev sBl(t:List (V×Int))(l:LI0)(b:Bool)(js:List Nat):bT aG:=match l with
 | []=>⟨[(2,.val (.nil .aO)),(3,xl b),(6,.val (.iter 1))],[],[.iO (kV.im t),.dh 0 t.length js]⟩
 |x::l=>⟨[(2,.val (.own 2)),(3,xl b),(6,.val (.iter 1))],[],[.iO (kV.im t),.dh 0 t.length js,.list false false 3 (x::l)]⟩
theorem ahI{n}:jf (n+1) (.fn 137 [] []) [.nil .aO] [] (.dK []) []:=by intro A m h tf rJ hr hf hx;obtain⟨x,r,rfl,h1,h2⟩:=hx.inv;have:=h2.inv0;subst this;have htf:=hf.Qb;subst htf;have hx:x=.nil .aO:=jX h1 rfl;subst hx;exact⟨.dK [],h,[],m,rfl,hr,.dK rfl (fun i x y hx=>by simp at hx),.refl,.refl,fun b hb=>by cases hb⟩
section
variable{n:Nat}{t:List (V×Int)}
set_option maxRecDepth 20000 in
theorem acs(h:LC t):aJ X0 Qp T (iD (n+1)) (vW Qp T (iD (n+1)) LL) LL 88 (D9 Qp 88) 1 (.block 0 (.loop lpB)) (sBl t [] false []) fun e s=>e=.norm/\∃l seen,iw l=nC t/\s={ sBl t l (vT t) seen with env:=jB (T.iJ 88 2) ((8,.val (.bool false))::(7,.val (.dK [.bool false]))::(sBl t l (vT t) seen).env) }:=by
 have e1:lpB=.seq (.region 2 (a8a (eU lpB)) false) (.seq (.cond (.tmp 8) .skip (.exit 0)) (.block 1 xB)):=by kernel_rfl
 have hlen:=h.len;rw[e1];refine Qs hX (n:=t.length) (b:=1) (r:=0) (it:=6) (nx:=7) (mo:=8) (es:=kV.im t) (fun seen s=>seen.Nodup/\(∀j∈seen,j<t.length)/\∃gs,lW 1 gs (iq X0 (T.eY 88 (dW lpB)) s)=some (sBl t (Es t seen) (fOf t seen) seen)) (by kernel_rfl) (a7v (by kernel_rfl)) (a7v (by kernel_rfl)) (kV.qy t) (by unfold LL;omega)
  ⟨a6m,(fun j hj=>(by cases hj)),[],(by kernel_rfl)⟩ (fun seen s hi=>?_)
 obtain⟨jG,aQ,gs,h3⟩:=hi;rw[<-e1];refine⟨gs,_,h3,?_,?_,?_,fun ho=>?_,fun j e hj he=>?_⟩
 .cases Es t seen<;>kernel_rfl
 .cases Es t seen<;>kernel_rfl
 .cases Es t seen<;>kernel_rfl
 .obtain⟨a1,a2⟩:=ahH jG aQ ho;refine⟨?_,Es t seen,seen,a1,?_⟩
  .cases Es t seen<;>kernel_rfl
  .rw[a2]
 .rw[kV.BQ,a0z]at he;obtain⟨⟨v,w⟩,tX,rfl⟩:=he;obtain⟨q1,q2,q3⟩:=WQ tX;have Ht:(j::seen).Nodup:=a5I.2 ⟨hj,jG⟩;have FM:∀k∈j::seen,k<t.length:=fun k hk=>by
   rcases a1G.1 hk with rfl|hk
   .exact q2
   .exact aQ k hk
  have hll:(Es t seen).length<=2000:=by
   have h1:(Es t seen).length<=seen.length:=by unfold Es;rw[a5C];exact a5W (aak ..) (by simp)
   have h2:seen.length<=t.length:=by have:=(Ls jG aQ).length_eq;have h3:=aak (fun j=>seen.contains j) (List.range t.length);rw[a6w]at h3;omega
   omega
  have ED:=a5q t j seen;have hf2:fOf t (j::seen)=(decide (v.f>0)||fOf t seen):=by unfold fOf;rw[aer,q1]
  rw[q1]at ED;generalize fOf t seen=b at hf2;have ED:Es t (j::seen)=Es t seen++(if decide (v.f>0)=true then []else [v.n]):=ED;generalize Es t seen=l at ED hll;cases hv:decide (v.f>0)
  .rw[hv,a0U (by simp)]at ED;rw[hv,agY]at hf2;have X7:decide (v.f>0)=false:=hv;cases l with
   |nil=>
    have a1:[v.n].length<=ah:=by rw[a4O];unfold ah;omega
    refine⟨by kernel_rfl,aJ.step (e:=.norm) (by kernel_rfl) (Ae (ps1:=⟨[(2,.val (.own 3)),(3,xl b),(6,.val (.iter 1))],[v.ps],[.iO (kV.im t),.dh 0 t.length (j::seen),.list true true 3 [v.n],.list true false 3 [v.n]]⟩) hX gK (by kernel_rfl) (.c (.dK [.agg v.ps,.int .i64 w]) [] (BZ tX) (.b X7 (.o a1 (.r rfl))))) ⟨.inl rfl,Ht,FM,[.flag 3,.gc [1,3]],?_⟩⟩;rw[ED,hf2]
    kernel_rfl
   |cons x l=>
    have a1:(x::l).length+[v.n].length<=ah:=by rw[a4O];unfold ah;omega
    refine⟨by kernel_rfl,aJ.step (e:=.norm) (by kernel_rfl) (Ae (ps1:=⟨[(2,.val (.own 4)),(3,xl b),(6,.val (.iter 1))],[v.ps],[.iO (kV.im t),.dh 0 t.length (j::seen),.gone,.list true true 3 [v.n],.list false false 3 (x::l++[v.n])]⟩) hX gK (by kernel_rfl) (.c (.dK [.agg v.ps,.int .i64 w]) [] (BZ tX) (.b X7 (.o a1 (.r rfl))))) ⟨.inl rfl,Ht,FM,[.gc [1,4]],?_⟩⟩;rw[ED,hf2]
    kernel_rfl
  .rw[hv,a18 rfl,a6l]at ED;rw[hv,Bool.true_or]at hf2;have X7:decide (v.f>0)=true:=hv;cases l with
   |nil=>
    refine⟨by kernel_rfl,aJ.step (e:=.exit 1) (by kernel_rfl) (Ae (ps1:=⟨[(2,.val (.nil .aO)),(3,xl true),(6,.val (.iter 1))],[v.ps],[.iO (kV.im t),.dh 0 t.length (j::seen)]⟩) hX gK (by kernel_rfl) (.c (.dK [.agg v.ps,.int .i64 w]) [] (BZ tX) (.b X7 (.r rfl)))) ⟨.inr rfl,Ht,FM,[],?_⟩⟩;rw[ED,hf2]
    kernel_rfl
   |cons x l=>
    refine⟨by kernel_rfl,aJ.step (e:=.exit 1) (by kernel_rfl) (Ae (ps1:=⟨[(2,.val (.own 2)),(3,xl true),(6,.val (.iter 1))],[v.ps],[.iO (kV.im t),.dh 0 t.length (j::seen),.list false false 3 (x::l)]⟩) hX gK (by kernel_rfl) (.c (.dK [.agg v.ps,.int .i64 w]) [] (BZ tX) (.b X7 (.r rfl)))) ⟨.inr rfl,Ht,FM,[],?_⟩⟩;rw[ED,hf2]
    kernel_rfl
theorem Fh:∀l:LI0,iV (FD X0 3 l)=some (l.map fun n=>TV.int .i64 n)
 | []=>rfl
 |a::l=>by
  have:=Fh l;show(match rZ (PV.int .i64 a:PV aG),iV (FD X0 3 l)with
   |some a,some b=>some (a::b)
   |_,_=>none)=_
  rw[this];rfl
theorem a5r{nT b}{Hs:List (PB aG)}:a4E X0 Qp nT (.dK [.nil .aO,.bool b]) Hs (fun _=>.dK [.nil .aO,.bool b]) []:=fun A m h h1 w hr hw _=>by
 cases hw with
 |gone hi _ _=>simp[bC]at hi
 |dK a1 a2=>
  obtain⟨x,r,rfl,v0,v1⟩:=Pv.bZ.inv (⟨a1,a2⟩:Pv.bZ X0 Qp _ _ _ _ _);obtain⟨y,r,rfl,v2,v3⟩:=v1.inv;have:=v3.inv0;subst this;have:=jX v2 (show qG (PV.bool b:PV aG)=some (TV.bool b)from rfl);subst this;have:=jX v0 (show qG (PV.nil .aO:PV aG)=some (TV.nil .aO)from rfl);subst this;unfold Ph;simp only[CV,CV.G6,xK,og,og.zU,DF,Vj,Nc,a4W,abM,a6l,a1t]
set_option maxRecDepth 20000 in
theorem aeX(h:LC t):(nC t=[]->jf (n+2) (.fn 88 [] []) [.map 0] [.iO (kV.im t)] (.dK [.nil .aO,.bool (vT t)]) [.iO (kV.im t)]) /\(nC t≠[]->jf (n+2) (.fn 88 [] []) [.map 0] [.iO (kV.im t)] (.dK [.own 1,.bool (vT t)]) [.iO (kV.im t),.list false false 3 (nC t)]):=by
 have e0:(Uf Qp 88).body=.seq (eU a1b) (.seq (.seq (eU (eU (eX a1b))) (.block 0 (.loop lpB))) (eX (eX a1b))):=by kernel_rfl
 have x0:dR X0 Qp T (iD (n+1)) LL 88 false (D9 Qp 88) 1 (eU a1b) ⟨lM X0 0 [.map 0],[],[.iO (kV.im t)]⟩ .norm ⟨[(0,.val (.map 0)),(2,.val (.nil .aO)),(3,xl false)],[],[.iO (kV.im t)]⟩:=Ae hX gK (an:=.n) (by kernel_rfl) (.r rfl);have x1:dR X0 Qp T (iD (n+1)) LL 88 false (D9 Qp 88) 1 (eU (eU (eX a1b))) ⟨[(0,.val (.map 0)),(2,.val (.nil .aO)),(3,xl false)],[],[.iO (kV.im t)]⟩ .norm ⟨[(2,.val (.nil .aO)),(3,xl false),(6,.val (.iter 1))],[],[.iO (kV.im t),.dh 0 (kV.im t).length []]⟩:=Ae hX gK (an:=.n) (by kernel_rfl) (.r rfl);rw[kV.qy t]at x1;have run:∀Q:Ex->bT aG->Prop,(∀l seen,iw l=nC t->aJ X0 Qp T (iD (n+1)) (vW Qp T (iD (n+1)) LL) LL 88 (D9 Qp 88) 1 (eX (eX a1b)) { sBl t l (vT t) seen with env:=jB (T.iJ 88 2) ((8,.val (.bool false))::(7,.val (.dK [.bool false]))::(sBl t l (vT t) seen).env) } Q) ->
   aJ X0 Qp T (iD (n+1)) (vW Qp T (iD (n+1)) LL) LL 88 (D9 Qp 88) 1 (Uf Qp 88).body ⟨lM X0 0 [.map 0],[],[.iO (kV.im t)]⟩ Q:=fun Q hQ=>by
  rw[e0];refine aJ.BX (by kernel_rfl) x0 (aJ.seq (R:=fun e s=>e=.norm/\∃l seen,iw l=nC t/\s={ sBl t l (vT t) seen with env:=jB (T.iJ 88 2) ((8,.val (.bool false))::(7,.val (.dK [.bool false]))::(sBl t l (vT t) seen).env) }) (aJ.BX (by kernel_rfl) x1 (acs (n:=n) h)) (fun s hs=>?_) (fun i s h=>by cases h.1) (fun s h=>by cases h.1));obtain⟨_,l,seen,h1,rfl⟩:=hs;exact hQ l seen h1
 have hlen:∀l:LI0,iw l=nC t->l.length<=2^20:=fun l hl=>by
  have h1:(iw l).length=l.length:=by unfold iw;rw[aaX]
  have h2:(nC t).length<=t.length:=by unfold nC iw;rw[aaX,a5C];exact aak ..
  have:=h.len;rw[hl]at h1;omega
 have asb:iw []=([]:LI0):=by simp[iw]
 constructor
 .intro hn;have:=Eb (X:=X0) (P:=Qp) (T:=T) (L:=LL) (n:=n+1) (f:=88) (first:=[]) (cap:=[]) (xs:=[.map 0]) (H:=[.iO (kV.im t)]) (N:=[]) (v:=.dK [.nil .aO,.bool (vT t)]) (tv:=fun _=>.dK [.nil .aO,.bool (vT t)]) (tN:=[]) (t:=Uf Qp 88) hX (by kernel_rfl) (by kernel_rfl) (by kernel_rfl) rfl (fun A m h hr=>⟨m,by simpa using hr,Pv.bZ.cons (.nil .aO) (.cons (.bool _) .nil) |> fun h=>.dK h.1 h.2,by simpa using Fr.refl,.refl⟩) (run _ fun l seen hl=>?_)
  .exact this
  .rw[hn]at hl;have qY:l=[]:=by
    have h1:(iw l).length=l.length:=by unfold iw;rw[aaX]
    rw[hl]at h1;exact a4D h1.symm
   subst qY;exact aJ.step (by kernel_rfl) (Ae (e:=.ret) (ps1:=⟨[(2,.val (.nil .aO)),(3,xl (vT t))],[],[.iO (kV.im t),.dh 0 t.length seen]⟩) hX gK (by kernel_rfl) (.fr [] (ahI (n:=n)) (.r rfl))) ⟨.inr rfl,[.nil .aO,.bool (vT t)],by kernel_rfl,a5r⟩
 .intro hn;have:=Eb (X:=X0) (P:=Qp) (T:=T) (L:=LL) (n:=n+1) (f:=88) (first:=[]) (cap:=[]) (xs:=[.map 0]) (H:=[.iO (kV.im t)]) (N:=[.list false false 3 (nC t)]) (v:=.dK [.own 1,.bool (vT t)]) (tv:=fun n=>.dK [.aO n 0 (nC t).length (nC t).length 1 false,.bool (vT t)]) (tN:=[.cells .last ((nC t).map fun n=>TV.int .i64 n)]) (t:=Uf Qp 88) hX (by kernel_rfl) (by kernel_rfl) (by kernel_rfl) rfl (fun A m h hr=>abv hX (H:=[.iO (kV.im t)]) (ty:=3) (l:=nC t) hn (Fh _) MV (by decide) (fun _ _ _=>rfl) rfl hr) (run _ fun l seen hl=>?_)
  .exact this
  .cases l with
   |nil=>rw[asb]at hl;exact absurd hl.symm hn
   |cons x l=>
    have hs:=aek (n:=n) (k:=false) (ex:=false) (x::l) (hlen _ hl);rw[hl]at hs;exact aJ.step (by kernel_rfl) (Ae (e:=.ret) (ps1:=⟨[(2,.val (.own 2)),(3,xl (vT t))],[],[.iO (kV.im t),.dh 0 t.length seen,.list false false 3 (nC t)]⟩) hX gK (by kernel_rfl) (.fr [2] hs (.r rfl))) ⟨.inr rfl,[.own 2,.bool (vT t)],by kernel_rfl,a88 hX (i:=2) (ty:=3) (l:=nC t) rfl hn (Fh _) MV rfl⟩
end
open Go Tw Pv bV
abbrev vF:PV aG:=.fn 139 [] [.ptr 1 0 1]
abbrev a9u:Code:=(Uf Qp 138).body
abbrev ahJ:Code:=(Uf Qp 139).body
abbrev lpW:Code:=eU (eU (eX ahJ))
abbrev xW:Code:=eU (eX (eX lpW))
abbrev a9v:List (Nat×PE aG):=[(2,.val (.ptr 2 0 1)),(4,.val (.nil .aO)),(6,.val vF)]
abbrev Ri(rd:Bool)(jU:Option Code):PB aG:=.loop rd 138 (D9 Qp 138) a9v [7] (xX Qp 138) (BF Qp 138) jU
abbrev H3(t:List (V×Int))(x:PV aG):List (PB aG):=[.iO (kV.im t),.aF [.map 0],.cells [x]]
theorem one_le(w:Int):[w].length<=ah:=by rw[a4O];unfold ah;omega
theorem asc{n}(t w):jf (n+1) (.l9 4) [.int .i64 w] (H3 t (.nil .aO)++[.mark,Ri true none]) (.bool true) (H3 t (.own 6)++[.mark,Ri true none,.list true true 3 [w],.list true false 3 [w]]):=by have q1:dR X0 Qp T (iD n) LL 138 true (D9 Qp 138) 5 (xX Qp 138) ⟨uY a9v [7] [.int .i64 w],[],H3 t (.nil .aO)++[.mark,Ri true none]⟩ .norm ⟨[(2,.val (.ptr 2 0 1)),(5,xi w)],[],H3 t (.nil .aO)++[.mark,Ri true none]⟩:=yY hX gK (by kernel_rfl) .xx;have q2:dR X0 Qp T (iD n) LL 138 true (D9 Qp 138) 5 (BF Qp 138) ⟨[(2,.val (.ptr 2 0 1)),(5,xi w)],[],H3 t (.nil .aO)++[.mark,Ri false none]⟩ .norm ⟨[],[],H3 t (.own 6)++[.mark,Ri false none,.list true true 3 [w],.list true false 3 [w]]⟩:=yY hX gK (by kernel_rfl) (.o (one_le w) .xx);exact J3 hX (l:=4) rfl rfl (by kernel_rfl) q1 rfl q2 rfl
theorem ase{n}(t)(l:LI0)(w)(hl:l.length+[w].length<=ah):jf (n+1) (.l9 4) [.int .i64 w] (H3 t (.own 5)++[.mark,Ri true none,.list false false 3 l]) (.bool true) (H3 t (.own 7)++[.mark,Ri true none,.gone,.list true true 3 [w],.list false false 3 (l++[w])]):=by have q1:dR X0 Qp T (iD n) LL 138 true (D9 Qp 138) 6 (xX Qp 138) ⟨uY a9v [7] [.int .i64 w],[],H3 t (.own 5)++[.mark,Ri true none,.list false false 3 l]⟩ .norm ⟨[(2,.val (.ptr 2 0 1)),(5,xi w)],[],H3 t (.own 5)++[.mark,Ri true none,.list false false 3 l]⟩:=yY hX gK (by kernel_rfl) .xx;have q2:dR X0 Qp T (iD n) LL 138 true (D9 Qp 138) 6 (BF Qp 138) ⟨[(2,.val (.ptr 2 0 1)),(5,xi w)],[],H3 t (.own 5)++[.mark,Ri false none,.list false false 3 l]⟩ .norm ⟨[],[],H3 t (.own 7)++[.mark,Ri false none,.gone,.list true true 3 [w],.list false false 3 (l++[w])]⟩:=yY hX gK (by kernel_rfl) (.o hl .xx);exact J3 hX (l:=4) rfl rfl (by kernel_rfl) q1 rfl q2 rfl
def FN(t:List (V×Int))(js:List Nat):LI0:=js.reverse.map fun j=>(Rh t j).2
theorem a5s(t j js):FN t (j::js)=FN t js++[(Rh t j).2]:=by simp[FN]
abbrev sWl(t:List (V×Int))(l:LI0)(js:List Nat):bT aG:=match l with
 | []=>⟨[(0,.val (.l9 4)),(6,.val (.iter 5))],[],H3 t (.nil .aO)++[.mark,Ri true none,.dh 0 t.length js]⟩
 |x::l=>⟨[(0,.val (.l9 4)),(6,.val (.iter 5))],[],H3 t (.own 6)++[.mark,Ri true none,.dh 0 t.length js,.list false false 3 (x::l)]⟩
section
variable{n:Nat}{t:List (V×Int)}
set_option maxRecDepth 20000 in
theorem acu(h:LC t):aJ X0 Qp T (iD (n+1)) DC LL 139 (D9 Qp 139) 5 (.block 0 (.loop lpW)) (sWl t [] []) fun e s=>e=.norm/\∃l seen,l.Perm (t.map (·.2))/\s={ sWl t l seen with env:=jB (T.iJ 139 1) ((8,.val (.bool false))::(7,.val (.dK [.bool false]))::(sWl t l seen).env) }:=by
 have e1:lpW=.seq (.region 1 (a8a (eU lpW)) false) (.seq (.cond (.tmp 8) .skip (.exit 0)) (.block 1 xW)):=by kernel_rfl
 have hlen:=h.len;rw[e1];refine Qs hX (n:=t.length) (b:=5) (r:=0) (it:=6) (nx:=7) (mo:=8) (es:=kV.im t) (fun seen s=>seen.Nodup/\(∀j∈seen,j<t.length)/\∃gs,lW 5 gs (iq X0 (T.eY 139 (dW lpW)) s)=some (sWl t (FN t seen) seen)) (by kernel_rfl) (a7v (by kernel_rfl)) (a7v (by kernel_rfl)) (kV.qy t) (by unfold LL;omega)
  ⟨a6m,(fun j hj=>(by cases hj)),[],(by kernel_rfl)⟩ (fun seen s hi=>?_)
 obtain⟨jG,aQ,gs,h3⟩:=hi;rw[<-e1];refine⟨gs,_,h3,?_,?_,?_,fun ho=>?_,fun j e hj he=>?_⟩
 .cases FN t seen<;>kernel_rfl
 .cases FN t seen<;>kernel_rfl
 .cases FN t seen<;>kernel_rfl
 .refine⟨?_,FN t seen,seen,?_,rfl⟩
  .cases FN t seen<;>kernel_rfl
  .have hp:(seen.reverse).Perm (List.range t.length):=(List.reverse_perm seen).trans ((a7t jG afb).2 fun j=>⟨fun h=>a5D.2 (aQ j h),fun h=>ho j (a5D.1 h)⟩);unfold FN
   conv=>rhs;rw[ahF t]
   rw[a8l];exact hp.map _
 .rw[kV.BQ,a0z]at he;obtain⟨⟨v,w⟩,tX,rfl⟩:=he;obtain⟨q1,q2,q3⟩:=WQ tX;have Ht:(j::seen).Nodup:=a5I.2 ⟨hj,jG⟩;have FM:∀k∈j::seen,k<t.length:=fun k hk=>by
   rcases a1G.1 hk with rfl|hk
   .exact q2
   .exact aQ k hk
  have hll:(FN t seen).length<=2000:=by
   have h2:seen.length<=t.length:=by have:=(Ls jG aQ).length_eq;have h3:=aak (fun j=>seen.contains j) (List.range t.length);rw[a6w]at h3;omega
   have h1:(FN t seen).length=seen.length:=(by simp[FN]);omega
  have ED:=a5s t j seen;rw[q1]at ED;have ED:FN t (j::seen)=FN t seen++[w]:=ED;generalize FN t seen=l at ED hll;cases l with
  |nil=>
   refine⟨by kernel_rfl,aJ.step (e:=.norm) (by kernel_rfl) (Ae (ps1:=⟨[(0,.val (.l9 4)),(6,.val (.iter 5)),(14,xl false)],[],H3 t (.own 7)++[.mark,Ri true none,.dh 0 t.length (j::seen),.list true true 3 [w],.list true false 3 [w]]⟩) hX gK (by kernel_rfl) (.c (.dK [.agg v.ps,.int .i64 w]) [] (BZ tX) (.fr [0,1,2,3,4] (asc (n:=n) t w) (.b aiJ (.r rfl))))) ⟨.inl rfl,Ht,FM,[.flag 7,.gc [5,7]],?_⟩⟩;rw[ED]
   kernel_rfl
  |cons x l=>
   have a1:(x::l).length+[w].length<=ah:=by rw[a4O];unfold ah;omega
   refine⟨by kernel_rfl,aJ.step (e:=.norm) (by kernel_rfl) (Ae (ps1:=⟨[(0,.val (.l9 4)),(6,.val (.iter 5)),(14,xl false)],[],H3 t (.own 8)++[.mark,Ri true none,.dh 0 t.length (j::seen),.gone,.list true true 3 [w],.list false false 3 (x::l++[w])]⟩) hX gK (by kernel_rfl) (.c (.dK [.agg v.ps,.int .i64 w]) [] (BZ tX) (.fr [0,1,2,3,4,6] (ase (n:=n) t (x::l) w a1) (.b aiJ (.r rfl))))) ⟨.inl rfl,Ht,FM,[.gc [5,8]],?_⟩⟩;rw[ED]
   kernel_rfl
end
open Go Tw Pv bV
def tH(t:List (V×Int)):LI0:=zV (fun n=>[n]) (t.map fun e:V×Int=>e.2)
abbrev SC(n:Int):TV:=.int .i64 n
abbrev Nw(n:Int):PV aG:=.int .i64 n
theorem a5t{t}{l:LI0}(h:l.Perm (t.map fun e:V×Int=>e.2)):TF (l.map SC)=(tH t).map SC:=by unfold TF;rw[Ud (g:=SC) (key:=fun n=>[n]) (key2:=TA) (fun _=>rfl),Gj h fun a _ b _ e=>by simpa using e];rfl
theorem LD:∀l:LI0,Vo (l.map Nw)=some (l.map SC)
 | []=>rfl
 |a::l=>by
  have:=LD l;show(match qG (Nw a),Vo (l.map Nw)with
   |some a,some b=>some (a::b)
   |_,_=>none)=_
  rw[this];rfl
section
variable{n:Nat}{t:List (V×Int)}
set_option maxRecDepth 20000 in
theorem amS(h:LC t)(ht:t≠[]):abr X0 Qp (vW Qp T (iD (n+1)) LL) vF [.l9 4] (H3 t (.nil .aO)++[.mark,Ri true none]) fun v H1=>∃(l:LI0) (seen:List Nat),l.Perm (t.map fun e:V×Int=>e.2)/\H1=H3 t (.own 6)++[.mark,Ri true none,.dh 0 t.length seen,.list false false 3 l]:=by
 refine a2G (t:=Uf Qp 139) hX (by kernel_rfl) ?_;have e0:(Uf Qp 139).body=.seq (eU ahJ) (.block 0 (.loop lpW)):=by kernel_rfl
 rw[e0];have x0:dR X0 Qp T (iD (n+1)) LL 139 false (D9 Qp 139) 5 (eU ahJ) ⟨lM X0 0 [.l9 4,.ptr 1 0 1],[],H3 t (.nil .aO)++[.mark,Ri true none]⟩ .norm ⟨[(0,.val (.l9 4)),(6,.val (.iter 5))],[],H3 t (.nil .aO)++[.mark,Ri true none,.dh 0 (kV.im t).length []]⟩:=Ae hX gK (an:=.n) (by kernel_rfl) (.r rfl);rw[kV.qy t]at x0;refine aJ.BX (by kernel_rfl) x0 ((acu (n:=n) h).mono fun e s h1=>?_);obtain⟨rfl,l,seen,h2,rfl⟩:=h1;cases l with
 |nil=>
  have:=h2.length_eq;rw[a5C]at this;exact absurd (a4D this.symm) ht
 |cons x l=>exact⟨.inl rfl,[],by kernel_rfl,x::l,seen,h2,rfl⟩
set_option maxRecDepth 20000 in
theorem acv(h:LC t)(ht:t≠[]):jf (n+2) (.fn 138 [] []) [.nil .aO,vF] [.iO (kV.im t),.aF [.map 0]] (.aO 2 0 t.length t.length 1 false) [.iO (kV.im t),.aF [.map 0],.nT ((tH t).map Nw)]:=by
 have e0:(Uf Qp 138).body=.seq (eU a9u) (.seq (.seq (eU (eU (eX a9u))) (.block 0 (.rangeFunc (.tmp 6) #[7] (xX Qp 138) (BF Qp 138)))) (eX (eX a9u))):=by kernel_rfl
 have x0:dR X0 Qp T (iD (n+1)) LL 138 false (D9 Qp 138) 2 (eU a9u) ⟨lM X0 0 [.nil .aO,vF],[],[.iO (kV.im t),.aF [.map 0]]⟩ .norm ⟨[(1,.val vF),(2,.val (.ptr 2 0 1)),(4,.val (.nil .aO))],[],H3 t (.nil .aO)⟩:=Ae hX gK (an:=.n) (by kernel_rfl) (.r rfl);have x1:dR X0 Qp T (iD (n+1)) LL 138 false (D9 Qp 138) 2 (eU (eU (eX a9u))) ⟨[(1,.val vF),(2,.val (.ptr 2 0 1)),(4,.val (.nil .aO))],[],H3 t (.nil .aO)⟩ .norm ⟨a9v,[],H3 t (.nil .aO)⟩:=Ae hX gK (an:=.n) (by kernel_rfl) (.r rfl);have:=Eb (X:=X0) (P:=Qp) (T:=T) (L:=LL) (n:=n+1) (f:=138) (first:=[]) (cap:=[]) (xs:=[.nil .aO,vF]) (H:=[.iO (kV.im t),.aF [.map 0]]) (N:=[.nT ((tH t).map Nw)]) (v:=.aO 2 0 t.length t.length 1 false) (tv:=fun k=>.aO k 0 t.length t.length 1 false) (tN:=[.nT ((tH t).map SC)]) (t:=Uf Qp 138) hX (by kernel_rfl) (by kernel_rfl) (by kernel_rfl) rfl (fun A m h hr=>abu (H:=[.iO (kV.im t),.aF [.map 0]]) (n:=t.length) (sz:=1) (LD _) hr) ?_
 .exact this
 rw[e0];refine aJ.BX (by kernel_rfl) x0 (aJ.seq (R:=fun e s=>e=.norm/\∃(l:LI0) (seen:List Nat),l.Perm (t.map fun e:V×Int=>e.2)/\s=⟨a9v,[],H3 t (.own 6)++[.mark,Ri false (some .skip),.dh 0 t.length seen,.list false false 3 l]⟩) (aJ.BX (by kernel_rfl) x1 (aJ.block ?_)) (fun s hs=>?_) (fun i s h=>by cases h.1) (fun s h=>by cases h.1))
 .refine aJ.range (f1:=139) (a1:=[]) (b1:=[.ptr 1 0 1]) (K:=fun v H1=>∃(l:LI0) (seen:List Nat),l.Perm (t.map fun e:V×Int=>e.2)/\H1=H3 t (.own 6)++[.mark,Ri true none,.dh 0 t.length seen,.list false false 3 l]) hX rfl (by kernel_rfl) (by kernel_rfl) (amS (n:=n) h ht) (fun v H1 hk=>?_);obtain⟨l,seen,h1,rfl⟩:=hk;exact⟨true,_,_,_,_,_,_,none,.norm,rfl,rfl,rfl,l,seen,h1,rfl⟩
 obtain⟨_,l,seen,h1,rfl⟩:=hs;have hl:l≠[]:=fun e=>by subst e;have:=h1.length_eq;rw[a5C]at this;exact absurd (a4D this.symm) ht
 have hlen:t.length=l.length:=by rw[h1.length_eq,a5C]
 refine aJ.step (by kernel_rfl) (Ae (e:=.ret) (ps1:=⟨[(4,.val (.own 6))],[],H3 t (.own 6)++[.mark,Ri false (some .skip),.dh 0 t.length seen,.list false false 3 l]⟩) hX gK (an:=.n) (by kernel_rfl) (.r rfl)) ⟨.inr rfl,[.own 6],by kernel_rfl,?_⟩;rw[<-a5t h1,hlen];exact a81 hX (i:=6) (ty:=3) (l:=l) rfl hl (Fh _) MV
end
def Rj:LI0->Int
 | []=>0
 |x::l=>l.foldl max x
theorem Ze:∀(l:LI0) (x),(l.foldl max x=x\/l.foldl max x∈l)/\x<=l.foldl max x/\∀y∈l,y<=l.foldl max x
 | [],x=>⟨.inl rfl,aa7 _,fun y hy=>by cases hy⟩
 |a::l,x=>by
  obtain⟨h1,h2,h3⟩:=Ze l (max x a);rw[aey];have hm:max x a=x\/max x a=a:=by omega
  refine⟨?_,by omega,fun y hy=>?_⟩
  .rcases h1 with h1|h1
   .rcases hm with e|e
    .exact .inl (h1.trans e)
    rw[h1,e];exact .inr (by simp)
   exact .inr (by simp[h1])
  rcases a1G.1 hy with rfl|hy
  .omega
  exact h3 y hy
theorem Zf{l}(h:l≠[]):Rj l∈l/\∀y∈l,y<=Rj l:=by
 cases l with
 |nil=>exact absurd rfl h
 |cons x l=>
  obtain⟨h1,h2,h3⟩:=Ze l x;refine⟨?_,fun y hy=>?_⟩
  .rcases h1 with h1|h1
   .show l.foldl max x∈_;rw[h1];simp
   exact a3J _ h1
  rcases a1G.1 hy with rfl|hy
  .exact h2
  exact h3 y hy
theorem a5u{l l'}(h:l.Perm l')(hl:l≠[]):Rj l=Rj l':=by
 have hl':l'≠[]:=fun e=>by subst e;exact hl h.eq_nil
 obtain⟨a1,a2⟩:=Zf hl;obtain⟨b1,b2⟩:=Zf hl';have:=a2 _ (h.mem_iff.2 b1);have:=b2 _ (h.mem_iff.1 a1);omega
open Go Tw Pv bV
abbrev ApM(n:Nat):dN:=kR Qp Tm (2^24) n
theorem okM{n}:jR X0 Qp (ApM n) abj:=fun _ _ _ _ _ h _=>by cases h
def gMx(l:LI0)(k:Nat)(m:Int):Int:=if l.getD (i64.wrap ((k:Int)+1)).toNat 0>m then l.getD (i64.wrap ((k:Int)+1)).toNat 0 else m
theorem a3s{x r}(h:r.length<=ah):∀k,k<=r.length->aT (gMx (x::r)) k 0 x=(r.take k).foldl max x
 | 0,_=>rfl
 |k+1,hk=>by
  rw[qN,a3s h k (by omega)];unfold gMx;rw[a3O,yX (by omega),a5U];have e:(x::r).getD (k+1) 0=r[k]'(by omega):=by simp[List.getD,a0N (show k<r.length by omega)]
  rw[e,a8p (by omega),List.foldl_append];simp only[aey,List.foldl_nil];omega
abbrev wMx(l:LI0)(m i:Int)(x:List (Nat×PE aG)):bT aG:=⟨[(0,xL 3 l),(3,xi m),(4,xi (i64.wrap (i+1)))]++x,[],[]⟩
set_option maxRecDepth 20000 in
theorem amU{l:LI0}(h0:l≠[])(hl:l.length<=2000):dI X0 Qp (ApM 2) (.fn 94 [] []) [.dw 3 l false] [] (.int .i64 (Rj l)) []:=by
 cases l with
 |nil=>exact absurd rfl h0
 |cons x r=>
  have hr:r.length<=ah:=by have:(x::r).length=r.length+1:=rfl;unfold ah;omega
  have lp:dR X0 Qp Tm (ApM 1) LL 94 false (D9 Qp 94) 0 (.loop (U3 Qp 94 0)) ⟨[(0,xL 3 (x::r)),(3,xi x),(4,xi 1)],[],[]⟩ (.exit 0) (wMx (x::r) (aT (gMx (x::r)) r.length 0 x) r.length [(15,xl false)]):=by
   refine Qg (X:=X0) (N:=r.length) (g:=gMx (x::r)) (s0:=x) (st:=fun i m=>wMx (x::r) m i []) (fin:=fun m=>wMx (x::r) m r.length [(15,xl false)]) (fun _ _=>True) (by kernel_rfl) hr Uk trivial (fun _ _ _ _=>trivial) (fun k m hk _ n e p g9=>?_) (fun m _=>?_)
   .have e1:i64.wrap ((k:Int)+1)=((k+1:Nat):Int):=yX (by omega);have t1:decide (i64.wrap ((k:Int)+1)<((x::r).length:Int))=true:=by rw[e1,a1F,a4T];omega
    have i1:gV (i64.wrap ((k:Int)+1)) (x::r).length:=by rw[e1];exact aH (by rw[a4T];omega)
    exact round hX okM (by kernel_rfl) (.b t1 (.o i1 (.go g9)))
   have e1:i64.wrap ((r.length:Int)+1)=((r.length+1:Nat):Int):=yX (by omega);have t1:decide (i64.wrap ((r.length:Int)+1)<((x::r).length:Int))=false:=by rw[e1,a3L,a4T];omega
   exact round hX okM (by kernel_rfl) (.b t1 .ex)
  have e:aT (gMx (x::r)) r.length 0 x=Rj (x::r):=by rw[a3s hr _ (a1p _),ady];rfl
  rw[e]at lp;have hc:((x::r).length:Int)=r.length+1:=by simp
  have t0:decide (((x::r).length:Int)<1)=false:=by rw[a3L,hc];omega
  have i0:gV 0 (x::r).length:=⟨by decide,by rw[hc];omega⟩;exact nY hX okM (first:=[]) (cap:=[]) (by kernel_rfl) (.b t0 (.o i0 (.w lp .er)))
theorem acw(n x h):kR Qp T LL (n+1) (.fn 94 [] []) [x] h=a4z 94 (ApM 2) (.fn 94 [] []) [x] h:=rfl
theorem amV{n vs}(h0:vs≠[])(hl:vs.length<=2000):jf (n+1) (.fn 94 [] []) [.aO 0 0 vs.length vs.length 1 false] [.nT (vs.map Nw)] (.int .i64 (Rj vs)) [.nT (vs.map Nw)]:=by
 intro A m h tf rJ hr hf hx;obtain⟨x,r,rfl,h1,h2⟩:=hx.inv;have:=h2.inv0;subst this;have htf:=hf.Qb;subst htf;obtain⟨mb,g1,g2⟩:=hr.at_ 0 _ rfl;cases mb with
 |gJ c=>
  obtain⟨ts,g3,g4⟩:=g2;have g5:=g4.symm.trans (LD vs);cases g5;have hx2:x=.aO c 0 vs.length vs.length 1 false:=by
   cases h1 with
   |aO e=>rw[g1]at e;cases e;rfl
   |gone hi e _=>simp only[bC,a08]at hi;subst hi;rw[g1]at e;cases e
  subst hx2;have FH:c∈aZ m:=aY g1 rfl;have aQ:=(a0w.1 g3).1;show ∃w h1 ws m1,kR Qp T LL (n+1) _ _ h=_/\_;rw[acw,abq (k:=.i64) (n:=Rj vs)]
  .exact⟨_,h,[],m,rfl,hr,.int _ _,.refl,.refl,fun b hb=>by cases hb⟩
  .refine⟨⟨_,_,rfl⟩,rfl,fun h' hu=>?_⟩;obtain⟨cs',p1,p2⟩:=hu.2 c _ g3;obtain⟨l,hp,rfl⟩:∃l:LI0,l.Perm vs/\cs'=l.map SC:=by
    have hq:∀y∈cs',∃i:Int,y=SC i:=fun y hy=>by obtain⟨i,_,rfl⟩:=a1z.1 (p1.mem_iff.1 hy);exact⟨i,rfl⟩
    have hun:∀L:List TV,(∀y∈L,∃i:Int,y=SC i)->∃l:LI0,L=l.map SC:=by
     intro L
     induction L with
     |nil=>exact fun _=>⟨[],rfl⟩
     |cons y L ih=>
      intro hL;obtain⟨i,rfl⟩:=hL y (by simp);obtain⟨l,rfl⟩:=ih fun z hz=>hL z (by simp[hz]);exact⟨i::l,rfl⟩
    obtain⟨l,rfl⟩:=hun cs' hq;refine⟨l,?_,rfl⟩;have:=p1.map fun y=>match y with|.int _ n=>n|_=>0
    rw[a8l,a8l]at this;simpa[Function.comp_def]using this
   have hlen:l.length=vs.length:=hp.length_eq;have qY:l≠[]:=fun e=>by subst e;exact h0 (a4D hlen.symm)
   have amW:h'.length=h.length:=by
    have e:=fun b=>U9 hu b;refine Nat.le_antisymm (adt fun hb=>?_) (adt fun hb=>?_)
    .have:=e h.length;rw[a0N hb,a4U (a1p _)]at this;cases this
    have:=e h'.length;rw[a0N hb,a4U (a1p _)]at this;cases this
   have hm:=amU qY (by omega);have hvr:Pv.VR X0 Qp (AA A []) [] h' (.dw 3 l false) (.aO c 0 vs.length vs.length 1 false):=by
    rw[<-hlen];refine Pv.VR.dw (cs:=l.map SC) ⟨hr.DR c FH,by simp[aZ]⟩ (by simp only[aV,p2]) (fun _=>by simp[nG,p2]) MV (by decide) (by simp;exact a1p _) (a1p _) (by intro h;cases h) ?_ ?_
    .intro j a _;rfl
    have hrw:=Ur (A:=AA A []) (m:=[]) (h:=h') l;intro j a i c v a1 a2 a3;exact hrw.2.2 j a i c v a1 a2 a3
   obtain⟨w,h2,ws,m1,c1,c2,c3,c4,c5,c6⟩:=hm A [] h' (.fn 94 [] []) [.aO c 0 vs.length vs.length 1 false] ⟨rfl,fun i b hi=>by simp at hi,by simp[aZ],fun b hb=>hr.up b (by rw[<-amW];exact hb),fun b hb=>by simp[aZ]at hb⟩ (.fn rfl (fun i x y hi=>by simp at hi) rfl (fun i x y hi=>by simp at hi)) (.cons hvr .nil)
   .have hw:w=.int .i64 (Rj vs):=by rw[<-a5u hp qY];exact c3.a2A
    subst hw;have ZG:ws=[]:=a6S.2 fun b hb=>by have:=c6 b hb;simp[aZ]at this
    subst ZG;exact⟨h2,c1⟩
  obtain⟨h',hu⟩:∃h',Ql h h':=⟨_,Yf h (fun b=>match h[b]? with|some (.nT cs)=>cs|_=>[]) fun b cs e=>by rw[e]⟩;exact⟨h',hu⟩
 |_=>exact g2.elim
open Go Tw Pv bV
theorem amX{n}(hO:Ok n ru){k}(hk:0<=k/\k<=6):jf (n+1) (.fn 124 [] []) [.own 0,.int .i64 k] [.list true true 3 ([-1]:LI0)] (.own 1) [.list true true 3 ([-1]:LI0),.list true true 3 (List.replicate k.toNat (-1):LI0)]:=by
 rcases a96 hk with rfl|rfl|rfl|rfl|rfl|rfl|rfl
 .exact fD hO (first:=[]) (cap:=[]) (.b (rfl:decide ((0:Int)<0)=false) (.o aiH (.o aj1 (.b (rfl:decide ((0:Int)>0)=false) (.b (rfl:decide ((0:Int)>9223372036854775807)=false) (.o aiN (.o aiD (.o (show(0:Int)<=(ah:Int) by decide) (.m 8 le8 (.b (rfl:decide ((0:Int)<0)=false) .er))))))))))
 .exact fD hO (first:=[]) (cap:=[]) (.b (rfl:decide ((1:Int)<0)=false) (.o aiH (.o aj2 (.b (rfl:decide ((0:Int)>0)=false) (.b (rfl:decide ((1:Int)>9223372036854775807)=false) (.o aiH (.o aiE (.o (show(1:Int)<=(ah:Int) by decide) (.m 8 le8 (.b (rfl:decide ((1:Int)<1)=false) .er))))))))))
 .exact fD hO (first:=[]) (cap:=[]) (.b (rfl:decide ((2:Int)<0)=false) (.o aiH (.o aj6 (.b (rfl:decide ((0:Int)>0)=false) (.b (rfl:decide ((2:Int)>9223372036854775807)=false) (.o (rfl:(2:Int)=2) (.o aiF (.o (show(2:Int)<=(ah:Int) by decide) (.m 8 le8 (.b (rfl:decide ((1:Int)<2)=true) (.o aiE (.o aiO (.o aj3 (.o aiD (.o aiE (.o aiO (.b (rfl:decide ((2:Int)<2)=false) .er)))))))))))))))))
 .exact fD hO (first:=[]) (cap:=[]) (.b (rfl:decide ((3:Int)<0)=false) (.o aiH (.o aj9 (.b (rfl:decide ((0:Int)>0)=false) (.b (rfl:decide ((3:Int)>9223372036854775807)=false) (.o (rfl:(3:Int)=3) (.o aj7 (.o (show(3:Int)<=(ah:Int) by decide) (.m 8 le8 (.b (rfl:decide ((1:Int)<3)=true) (.o aiE (.o aiP (.o aiQ (.o aiD (.o aiE (.o aiP (.b (rfl:decide ((2:Int)<3)=true) (.o aiF (.o aiR (.o aiQ (.o aiD (.o aiF (.o aiR (.b (rfl:decide ((3:Int)<3)=false) .er))))))))))))))))))))))))
 .exact fD hO (first:=[]) (cap:=[]) (.b (rfl:decide ((4:Int)<0)=false) (.o aiH (.o ajb (.b (rfl:decide ((0:Int)>0)=false) (.b (rfl:decide ((4:Int)>9223372036854775807)=false) (.o (rfl:(4:Int)=4) (.o aiI (.o (show(4:Int)<=(ah:Int) by decide) (.m 8 le8 (.b (rfl:decide ((1:Int)<4)=true) (.o aiE (.o aiS (.o aiT (.o aiD (.o aiE (.o aiS (.b (rfl:decide ((2:Int)<4)=true) (.o aiF (.o aiU (.o aiT (.o aiD (.o aiF (.o aiU (.b (rfl:decide ((4:Int)<4)=false) .er))))))))))))))))))))))))
 .exact fD hO (first:=[]) (cap:=[]) (.b (rfl:decide ((5:Int)<0)=false) (.o aiH (.o aje (.b (rfl:decide ((0:Int)>0)=false) (.b (rfl:decide ((5:Int)>9223372036854775807)=false) (.o (rfl:(5:Int)=5) (.o ajd (.o (show(5:Int)<=(ah:Int) by decide) (.m 8 le8 (.b (rfl:decide ((1:Int)<5)=true) (.o aiE (.o aiV (.o aiL (.o aiD (.o aiE (.o aiV (.b (rfl:decide ((2:Int)<5)=true) (.o aiF (.o aiW (.o aiL (.o aiD (.o aiF (.o aiW (.b (rfl:decide ((4:Int)<5)=true) (.o aiI (.o aiX (.o aiL (.o aiD (.o aiI (.o aiX (.b (rfl:decide ((5:Int)<5)=false) .er)))))))))))))))))))))))))))))))
 exact fD hO (first:=[]) (cap:=[]) (.b (rfl:decide ((6:Int)<0)=false) (.o aiH (.o ajh (.b (rfl:decide ((0:Int)>0)=false) (.b (rfl:decide ((6:Int)>9223372036854775807)=false) (.o (rfl:(6:Int)=6) (.o ajg (.o (show(6:Int)<=(ah:Int) by decide) (.m 8 le8 (.b (rfl:decide ((1:Int)<6)=true) (.o aiE (.o aiY (.o aiM (.o aiD (.o aiE (.o aiY (.b (rfl:decide ((2:Int)<6)=true) (.o aiF (.o aiZ (.o aiM (.o aiD (.o aiF (.o aiZ (.b (rfl:decide ((4:Int)<6)=true) (.o aiI (.o aj0 (.o aiM (.o aiD (.o aiI (.o aj0 (.b (rfl:decide ((6:Int)<6)=false) .er)))))))))))))))))))))))))))))))
def bF(D:List Dg):Jb:=⟨(D.getD 0 iy).aj,(D.getD 0 iy).aB,D,List.replicate (D.getD 0 iy).aj.length (-1)⟩
theorem amY{n f:Nat}(hO:Ok (n+1) ru)(CZ:Ok n ru){D:List Dg}(h0:0<D.length)(h6:(D.getD 0 iy).aj.length<=6){k ex}:jf (n+2) (.fn 78 [] []) [.fn f [] [],.own 0] [.list k ex 26 D] (.agg [lI (bF D).s,lI (bF D).o,.own 0,.own 1,.fn f [] []]) [.list k ex 26 D,.list true true 3 (bF D).g]:=by have i0:gV 0 D.length:=aH h0;have hs:=amX CZ (k:=((D.getD 0 iy).aj.length:Int)) ⟨by omega,by omega⟩;rw[a5U]at hs;have h:jf (n+2) (.fn 78 [] []) [.fn f [] [],.own 0] [.list k ex 26 D] (.agg [lI (bF D).s,lI (bF D).o,.own 0,.own 2,.fn f [] []]) [.list k ex 26 D,.list true true 3 ([-1]:LI0),.list true true 3 (bF D).g]:=fD hO (first:=[]) (cap:=[]) (.o i0 (.o i0 (.o i0 (.fr [1] hs .er))));exact dI.gs hX h [.gc [2]] rfl
theorem amZ{n f:Nat}(u)(hO:Ok (n+1) ru)(CZ:Ok n ru){D:List Dg}(h0:0<D.length)(h6:(D.getD 0 iy).aj.length<=6){k ex}:jf (n+2) (.fn 78 [] []) [.fn f [] [.ptr 1 0 1],.own 0] [.list k ex 26 D,.aF [.int .u8 u]] (.agg [lI (bF D).s,lI (bF D).o,.own 0,.own 2,.fn f [] [.ptr 1 0 1]]) [.list k ex 26 D,.aF [.int .u8 u],.list true true 3 (bF D).g]:=by have i0:gV 0 D.length:=aH h0;have hs:=amX CZ (k:=((D.getD 0 iy).aj.length:Int)) ⟨by omega,by omega⟩;rw[a5U]at hs;have h:jf (n+2) (.fn 78 [] []) [.fn f [] [.ptr 1 0 1],.own 0] [.list k ex 26 D,.aF [.int .u8 u]] (.agg [lI (bF D).s,lI (bF D).o,.own 0,.own 3,.fn f [] [.ptr 1 0 1]]) [.list k ex 26 D,.aF [.int .u8 u],.list true true 3 ([-1]:LI0),.list true true 3 (bF D).g]:=fD hO (first:=[]) (cap:=[]) (.o i0 (.o i0 (.o i0 (.fr [2] hs .er))));exact dI.gs hX h [.gc [3]] rfl
theorem asi{n f:Nat}{J:Jb}{d k ex k2 FP}(h:jf n (.fn 80 [] []) [.agg (J.ps (.fn f [] []))] [] (dA.put d) []):jf n (.fn 80 [] []) [.agg [lI J.s,lI J.o,.own 0,.own 1,.fn f [] []]] [.list k ex 26 J.D,.list k2 FP 3 J.g] (dA.put d) [.gone,.gone]:=by have h1:=dI.frame hX (ks:=[]) (H':=[.gone,.gone]) (Hp:=[]) (S9:=[]) (v':=dA.put d) (fv':=.fn 80 [] []) (xs':=[.agg (J.ps (.fn f [] []))]) h (by decide) rfl rfl rfl rfl rfl rfl rfl;exact dI.fz hX (H:=[.list k ex 26 J.D,.list k2 FP 3 J.g]) (cs:=[lI J.s,lI J.o,.own 0,.own 1]) (rest:=[.fn f [] []]) [0,1] h1 rfl (fun i hi=>by simpa[lG.kT,lG]using hi)
theorem asj{n f:Nat}{u}{J:Jb}{d k ex k2 FP}(h:jf n (.fn 80 [] []) [.agg (J.ps (.fn f [] [.ptr 0 0 1]))] [.aF [.int .u8 u]] (dA.put d) [.aF [.int .u8 u]]):jf n (.fn 80 [] []) [.agg [lI J.s,lI J.o,.own 0,.own 2,.fn f [] [.ptr 1 0 1]]] [.list k ex 26 J.D,.aF [.int .u8 u],.list k2 FP 3 J.g] (dA.put d) [.gone,.aF [.int .u8 u],.gone]:=by have h1:=dI.frame hX (ks:=[1]) (H':=[.gone,.aF [.int .u8 u],.gone]) (Hp:=[.aF [.int .u8 u]]) (S9:=[.aF [.int .u8 u]]) (v':=dA.put d) (fv':=.fn 80 [] []) (xs':=[.agg (J.ps (.fn f [] [.ptr 1 0 1]))]) h (by decide) rfl rfl rfl rfl rfl rfl rfl;exact dI.fz hX (H:=[.list k ex 26 J.D,.aF [.int .u8 u],.list k2 FP 3 J.g]) (cs:=[lI J.s,lI J.o,.own 0,.own 2]) (rest:=[.fn f [] [.ptr 1 0 1]]) [0,2] h1 rfl (fun i hi=>by simpa[lG.kT,lG]using hi)
open Go Tw Pv bV
structure DgG(d:Dg):Prop where
 t:D5 d
 n:d.au.length<=6000
 ord:ku d.aj.length d.aB=true
 rk:∀i,i<d.au.length->∀k,k<(fE d i).aA.length->d.aB.idxOf (fE d i).var+1<=FK d.aB d.au ((fE d i).aA.getD k 0)
 two:∀i,i<d.au.length->2<=(fE d i).aA.length
 c:∀v∈d.aK,zG v
 dd:DgD d
 l0:bn d=0
theorem WR{d}(hp:kM d)(h:gU d=0):DgG d:=by
 have h0:bn d=0/\oZ d=true:=by
  unfold gU at h;split at h
  .rename_i c;rw[h]at c;cases c
  rename_i c;split at h
  .cases h
  rename_i c2;exact⟨by simpa using c,by simpa using c2⟩
 have ho:d.aB.length<=ah:=by have:=hp.o;unfold ah;omega
 have he:d.aK.length<=ah:=by have:=hp.e;omega
 obtain⟨t,n⟩:=jo ho he (by rw[h0.1];rfl);obtain⟨D,_⟩:=YM.1 h0.2;have hf:bg d.aj d.aB=0/\mV d=true:=by
  have hl:=h0.1;unfold bn at hl;split at hl
  .rename_i c;rw[hl]at c;cases c
  rename_i c;split at hl
  .cases hl
  split at hl
  .cases hl
  rename_i _ c2;exact⟨by simpa using c,by simpa using c2⟩
 obtain⟨bP,ord⟩:=iR.1 hf.1;refine⟨t,n,ord,YT h0.1,fun i hi=>?_,fun v hv=>?_,D,h0.1⟩
 .have:=D.flat i hi;rcases hk:(fE d i).aA with _|⟨a,_|⟨b,r⟩⟩
  .rw[hk]at this;simp at this
  .rw[hk]at this;simp at this
  simp
 refine⟨?_,hp.r.fault v hv⟩;have hl:=hf.2;unfold mV at hl;obtain⟨k,hk,e⟩:=aaf hv;have hs:jS (bH (cLe d) d.aK.length)=true:=by revert hl;cases jS (bH (cLe d) d.aK.length)<;>simp
 have:=dD.1 hs k hk;unfold cLe at this;rw[a4h,a0N hk]at this;simpa[e]using this
theorem Rk{l}(hp:∀d∈l,kM d)(h:aU l=0):∀d∈l,DgG d/\d.aj=(l.getD 0 iy).aj/\d.aB=(l.getD 0 iy).aB:=by
 intro d hd;unfold aU at h;split at h
 .rename_i c;split at h
  .cases h
  rename_i c2;simp only[af6,abN,a5L]at c2;have e:=c2 d hd;unfold wL at e;split at e
  .rename_i e1;refine⟨WR (hp d hd) ?_,by simpa using e1,by simpa using e⟩;obtain⟨k,hk,e9⟩:=aaf hd;have:=dD.1 c k hk;unfold YW at this;rw[a4h,a0N hk,a6b,e9]at this;have h9:=hp d hd;rw[En h9.r h9.s (by have:=h9.o;unfold ah;omega) h9.e]at this;simpa using this
  cases e
 rename_i c;obtain⟨j,_,e,_,e2⟩:=BD (by simpa using c);rw[e2]at h;unfold YW at e;have h':(vg (l.getD j iy)).2=0:=h;rw[h']at e;cases e
theorem aeY{D}(h3:D.length<=3)(h0:0<D.length)(h1:∀d∈D,DgG d/\d.aj=(D.getD 0 iy).aj/\d.aB=(D.getD 0 iy).aB):jH (bF D):=by
 have SN:D.getD 0 iy∈D:=bQ h0;obtain⟨g0,_,_⟩:=h1 _ SN;refine⟨h3,g0.t.bP,g0.ord,fun k hk=>?_,a7p,fun c hc hg=>?_⟩
 .obtain⟨g,e1,e2⟩:=h1 (lH D k) (bQ hk);exact⟨g.t,g.n,e1,e2,g.rk,g.two⟩
 exfalso;revert hg;show ¬(0<=(List.replicate (D.getD 0 iy).aj.length (-1:Int)).getD c.toNat 0);have:=hc.1;have:=hc.2;rw[a4h,agh,a18 (show c.toNat<(D.getD 0 iy).aj.length by have:c<((D.getD 0 iy).aj.length:Int):=hc.2;omega)];decide
theorem tJ{D}(h3:D.length<=3)(h0:0<D.length)(hp:∀d∈D,kM d)(h:aU D=0):jH (bF D):=aeY h3 h0 (Rk hp h)
open Go Tw Pv bV
theorem yj{J}(hJ:jH J)(hc:∀k,k<J.D.length->∀v∈(lH J.D k).aK,zG v){op}(h:∀l,l.length=J.D.length->(∀v∈l,zG v)->zG (op l)):mY J op:=fun t hd=>h _ (by simp[aX]) fun v hv=>by
 unfold aX at hv;obtain⟨k,hk,rfl⟩:=a1z.1 hv;have hk:=a5D.1 hk;have h3:(jh (t.get k)).toNat<(lH J.D k).aK.length:=by obtain⟨h1,h2⟩:=(Lh hJ hd hk).2;omega
 exact hc k hk _ (bQ h3)
theorem Jb.inD{D}(hp:∀d∈D,kM d)(h:aU D=0):∀k,k<D.length->∀v∈(lH D k).aK,zG v:=fun k hk=>(Rk hp h _ (bQ hk)).1.c
theorem Hu{n f:Nat}(h2:2<=n)(hO:∀m,n-2<=m->Ok m ru){D:List Dg}(h0:0<D.length)(h6:(D.getD 0 iy).aj.length<=6){k ex}:jf n (.fn 78 [] []) [.fn f [] [],.own 0] [.list k ex 26 D] (.agg [lI (bF D).s,lI (bF D).o,.own 0,.own 1,.fn f [] []]) [.list k ex 26 D,.list true true 3 (bF D).g]:=by
 have h:=amY (n:=n-2) (f:=f) (hO _ (by omega)) (hO _ (by omega)) h0 h6 (k:=k) (ex:=ex)
 rwa [show n-2+2=n by omega]at h
theorem a9w{n f:Nat}(u)(h2:2<=n)(hO:∀m,n-2<=m->Ok m ru){D:List Dg}(h0:0<D.length)(h6:(D.getD 0 iy).aj.length<=6){k ex}:jf n (.fn 78 [] []) [.fn f [] [.ptr 1 0 1],.own 0] [.list k ex 26 D,.aF [.int .u8 u]] (.agg [lI (bF D).s,lI (bF D).o,.own 0,.own 2,.fn f [] [.ptr 1 0 1]]) [.list k ex 26 D,.aF [.int .u8 u],.list true true 3 (bF D).g]:=by
 have h:=amZ (n:=n-2) (f:=f) u (hO _ (by omega)) (hO _ (by omega)) h0 h6 (k:=k) (ex:=ex)
 rwa [show n-2+2=n by omega]at h
theorem a3t{n f:Nat}{J}(hJ:jH J){op}(jr:mY J op)(h2:20<=n)(hO:∀m,n-20<=m->Ok m Gl)(hs:∀m,n-20<=m->∀l,l.length=J.D.length->dI X0 Qp (iD m) (.fn f [] []) [lV l] [] (.agg (op l).ps) []){k ex k2 FP}:jf n (.fn 80 [] []) [.agg [lI J.s,lI J.o,.own 0,.own 1,.fn f [] []]] [.list k ex 26 J.D,.list k2 FP 3 J.g] (dA.put (iL J op)) [.gone,.gone]:=by have h6:=(jH.o2 hJ).2.1;have h7:=hJ.bP.len;have h:=ahy (N:=n-20) hJ jr hs hO (m:=n-1) (by omega);rw[show n-1+1=n by omega]at h;exact asi h
theorem aeZ{n f:Nat}(u){J}(hJ:jH J){op}(jr:mY J op)(h2:20<=n)(hO:∀m,n-20<=m->Ok m Gl)(hs:∀m,n-20<=m->∀l,l.length=J.D.length->dI X0 Qp (iD m) (.fn f [] [.ptr 0 0 1]) [lV l] [.aF [.int .u8 u]] (.agg (op l).ps) [.aF [.int .u8 u]]){k ex k2 FP}:jf n (.fn 80 [] []) [.agg [lI J.s,lI J.o,.own 0,.own 2,.fn f [] [.ptr 1 0 1]]] [.list k ex 26 J.D,.aF [.int .u8 u],.list k2 FP 3 J.g] (dA.put (iL J op)) [.gone,.aF [.int .u8 u],.gone]:=by have h6:=(jH.o2 hJ).2.1;have h7:=hJ.bP.len;have h:=ahz (N:=n-20) u hJ jr hs hO (m:=n-1) (by omega);rw[show n-1+1=n by omega]at h;exact asj h
abbrev Ol(a b x:Int):Bool:=if decide (x>=a)=true then decide (x<=b)else false
theorem a9x{k:Nat}{x}(h:(!(Ol 0 (i64.wrap ((k:Int)-1)) x))=false)(hk:k<=ah):gV x k:=by
 rw[wrap_small (by unfold ah at hk;omega) (by unfold ah at hk;omega)]at h;unfold Ol at h;by_cases h1:x>=0
 .simp[h1]at h;exact⟨h1,by omega⟩
 simp[h1]at h
theorem acy{z x}(h:(!(Ol 0 (i64.wrap (z-1)) x))=false)(h0:0<=z)(h1:z<=12):0<=x/\x<z:=by
 rw[wrap_small (by omega) (by omega)]at h;unfold Ol at h;by_cases h1:x>=0
 .simp[h1]at h;exact⟨h1,by omega⟩
 simp[h1]at h
def an4(d:Dg)(c g:Int):Jb:=⟨d.aj,d.aB,[d],(bF [d]).g.set c.toNat g⟩
abbrev op0(l:List V):V:=l.getD 0 V0
theorem acz{d}(hp:kM d)(h:aU [d]=0){c g}(hc:gV c d.aj.length)(hg:0<=g/\g<d.aj.getD c.toNat 0):jH (an4 d c g):=by
 have hJ:=tJ (D:=[d]) (by simp) (by simp) (fun x hx=>by rw[a2p.1 hx];exact hp) h;refine⟨hJ.d3,hJ.bP,hJ.ord,fun k hk=>have h:=hJ.dg k hk;⟨h.t,h.n,h.s,h.o,h.rk,h.two⟩,?_,fun c2 LY h2=>?_⟩
 .show((bF [d]).g.set c.toNat g).length=_;rw[a5N];exact hJ.gl
 have hl:(bF [d]).g.length=d.aj.length:=hJ.gl;have a0:=hc.1;have a1:=hc.2;have b0:=LY.1;have b1:c2<(d.aj.length:Int):=LY.2
 change 0<=((bF [d]).g.set c.toNat g).getD c2.toNat 0 at h2
 show((bF [d]).g.set c.toNat g).getD c2.toNat 0<d.aj.getD c2.toNat 0;by_cases e:c.toNat=c2.toNat
 .rw[<-e,a4h,a2y (by omega)];exact hg.2
 rw[a4h,a1A e,<-a4h]at h2 ⊢;exact hJ.gv c2 LY h2
theorem an5{m}(hO:Ok m ru){l}(h:0<l.length):dI X0 Qp (iD m) (.fn 79 [] []) [lV l] [] (.agg (op0 l).ps) []:=nN.YV hX (first:=[]) (cap:=[]) (hO 79 [lV l] (vA.put (op0 l)) [] [0<l.length] (by kernel_rfl) (fun p h9=>by rw[a2p.1 h9];exact h)) rfl rfl rfl rfl
def N7(p:Dg×Int×Int):Dg×Int:=if(aU [p.1] != 0)=true then(iy,aU [p.1])else if(!(Ol 0 (i64.wrap ((p.1.aj.length:Int)-1)) p.2.1))=true then(iy,3)else if(!(Ol 0 (i64.wrap (p.1.aj.getD p.2.1.toNat 0-1)) p.2.2))=true then(iy,3)else(iL (an4 p.1 p.2.1 p.2.2) op0,0)
def an6:fV aG:=bU 20 (a3 dA iA iA) (dJ (a2 dA iA)) N7 (fun p=>[kM p.1]) ru
theorem a1d:(1:Nat)<=ah:=by unfold ah;omega
theorem asn:Gd an6:=Good.Y7 24 Gm QX fun n hn hO Fb p hp=>by
 have h1:kM p.1:=hp _ iC;have h2:∀d∈[p.1],kM d:=fun x hx=>by rw[a2p.1 hx];exact h1
 have h3:0<[p.1].length/\[p.1].length<=ah:=⟨by simp,a1d⟩;obtain⟨d,c,g⟩:=p;show nN X0 Qp _ _ _ ((dJ (a2 dA iA)).put (N7 (d,c,g))) _;unfold N7;have hJ:(aU [d] != 0)=false->jH (bF [d]):=fun e1=>tJ (D:=[d]) (by simp) (by simp) h2 (by simpa using e1);have hc:(aU [d] != 0)=false->(!(Ol 0 (i64.wrap ((d.aj.length:Int)-1)) c))=false->gV c d.aj.length:=fun _ e2=>a9x e2 h1.s;have s1:=fun(e1:(aU [d] != 0)=false)=>Hu (n:=n) (f:=79) (by omega) (fun m hm=>hO m (by omega)) (D:=[d]) (by simp) (hJ e1).bP.len (k:=true) (ex:=true);have s2:=fun(e1:(aU [d] != 0)=false) (e2:(!(Ol 0 (i64.wrap ((d.aj.length:Int)-1)) c))=false) (e3:(!(Ol 0 (i64.wrap (d.aj.getD c.toNat 0-1)) g))=false)=>
  have hz:=(hJ e1).bP.sz (d.aj.getD c.toNat 0) (dF (show c.toNat<d.aj.length by obtain⟨a,b⟩:=hc e1 e2;omega));have hR:=acz h1 (by simpa using e1) (hc e1 e2) (acy e3 (Int.le_trans (by decide) hz.1) hz.2)
  a3t (n:=n) (f:=79) hR (yj hR (Jb.inD h2 (show aU [d]=0 by simpa using e1)) fun l hl hv=>hv _ (bQ (by rw[hl];exact afn))) (by omega) (fun m hm=>Fb m (by omega)) (fun m hm l hl=>an5 (hO m (by omega)) (by rw[hl];exact afn)) (k:=true) (ex:=true) (k2:=true) (FP:=true)
 have i2:=fun(e1:(aU [d] != 0)=false) (e2:(!(Ol 0 (i64.wrap ((d.aj.length:Int)-1)) c))=false)=>show gV c (bF [d]).g.length by rw[(hJ e1).gl];exact hc e1 e2
 exact aN (hO n (by omega)) (.o h2 (.o h3 (.sh (fun _=>.rn (.dK [.agg [.nil .aO,.nil .aO,.nil .aO,.nil .aO,.int .i64 0],.int .i64 (aU [d])]) rfl) fun e1=>.sh (fun _=>.rn (.dK [.agg [.nil .aO,.nil .aO,.nil .aO,.nil .aO,.int .i64 0],.int .i64 3]) rfl) fun e2=>.o (hc e1 e2) (.sh (fun _=>.rn (.dK [.agg [.nil .aO,.nil .aO,.nil .aO,.nil .aO,.int .i64 0],.int .i64 3]) rfl) fun e3=>.fr [1] (s1 e1) (.o (i2 e1 e2) (.fr [1,2] (s2 e1 e2 e3) .rr))))))
open Go Tw Pv bV
def tK(k:Int):Bool:=decide (7<=k/\k<=16)
def CP(k:Int):Bool:=decide (k=5\/k=6)
def mZ(k:Int)(a b:V):V×Int:=if tK k=true then Jh k a b else(V0,2)
def ng(k:Int)(a:V):V×Int:=if CP k=true then Jg k a else(V0,2)
theorem bne{a b:Int}(h:a≠b):(a==b)=false:=by simpa using h
def a9y:fV aG:=Si 162 (a1 uA) (fun _=>.nil .fn) (fun _=>[]) (fun p=>[CP p=false]) an6
theorem ahL:Gd a9y:=asn.MJ 0 fun n _ hO p hp=>by
 have h:¬(p=5\/p=6):=by simpa[CP]using hp _ iC
 exact wF hX (hO n (by omega)) (by kernel_rfl) (.b (bne (show p≠5 by omega)) (.b (bne (show p≠6 by omega)) .er))
def a9z:fV aG:=Si 101 (a1 uA) (fun _=>.nil .fn) (fun _=>[]) (fun p=>[tK p=false]) a9y
theorem ahM:Gd a9z:=ahL.MJ 0 fun n _ hO p hp=>by
 have h:¬(7<=p/\p<=16):=by simpa[tK]using hp _ iC
 exact wF hX (hO n (by omega)) (by kernel_rfl) (.b (bne (show p≠7 by omega)) (.b (bne (show p≠8 by omega)) (.b (bne (show p≠9 by omega)) (.b (bne (show p≠10 by omega)) (.b (bne (show p≠11 by omega)) (.b (bne (show p≠12 by omega)) (.b (bne (show p≠13 by omega)) (.b (bne (show p≠14 by omega)) .er))))))))
def a9A:fV aG:=bU 110 (a2 uA vA) (dJ (a2 vA iA)) (fun p=>ng p.1 p.2) np a9z
theorem ahN:Gd a9A:=ahM.deep 1 fun n hn hO p hp=>by
 obtain⟨k,a⟩:=p;cases h:CP k
 .show nN X0 Qp _ _ _ ((dJ (a2 vA iA)).put (ng k a)) _;unfold ng;rw[h];exact aN (hO n (by omega)) (.o h (.b aiG .rr))
 .show nN X0 Qp _ _ _ ((dJ (a2 vA iA)).put (ng k a)) _;unfold ng;rw[a18 h];exact hO (n+1) (by omega) 110 ((a2 uA vA).put (k,a)) ((dJ (a2 vA iA)).put (Jg k a)) [] [k=5\/k=6] (by kernel_rfl) (fun q hq=>by rw[a2p.1 hq];simpa[CP]using h)
def Rl:fV aG:=bU 45 (a3 uA vA vA) (dJ (a2 vA iA)) (fun p=>mZ p.1 p.2.1 p.2.2) np a9A
theorem Zg:Gd Rl:=ahN.deep 1 fun n hn hO p hp=>by
 obtain⟨k,a,b⟩:=p;cases h:tK k
 .have h9:¬(7<=k/\k<=16):=by simpa[tK]using h
  show nN X0 Qp _ _ _ ((dJ (a2 vA iA)).put (mZ k a b)) _;unfold mZ;rw[h];exact aN (hO n (by omega)) (.b (bne (show k≠15 by omega)) (.b (bne (show k≠16 by omega)) (.o h (.b aiG .rr))))
 .show nN X0 Qp _ _ _ ((dJ (a2 vA iA)).put (mZ k a b)) _;unfold mZ;rw[a18 h];exact hO (n+1) (by omega) 45 ((a3 uA vA vA).put (k,a,b)) ((dJ (a2 vA iA)).put (Jh k a b)) [] [7<=k/\k<=16] (by kernel_rfl) (fun q hq=>by rw[a2p.1 hq];simpa[tK]using h)
open Go Tw Pv bV
theorem jQ{v}:zG v↔kC v:=by
 unfold zG vOk oP;constructor
 .rintro⟨h,h0⟩;split at h
  .rename_i e;split at h
   .rename_i e2;simp at e e2 h;exact⟨h0,by omega,fun _=>⟨e2,h⟩,fun hz=>absurd e hz⟩
   cases h
  split at h
  .rename_i e e2;simp at e e2 h;exact⟨h0,e2,fun hz=>absurd hz e,fun _=>h⟩
  cases h
 intro h;refine⟨?_,h.f0⟩;by_cases e:v.f=0
 .rw[a18 (by simpa using e),a18 (by simpa using(h.n e).1)];simpa using(h.n e).2
 rw[a0U (by simpa using e),a18 (by simpa using h.f1)];simpa using h.z e
theorem acA{k a b}:(Jh k a b).1=gY k a b:=by
 unfold Jh gY
 repeat' split
 all_goals rfl
theorem acB{k a}:(Jg k a).1=He k a:=by
 unfold Jg He
 repeat' split
 all_goals rfl
theorem a3u{k}(h:tK k=true){a b}(ha:zG a)(hb:zG b):zG (mZ k a b).1/\(mZ k a b).1=bJ k a b:=by have:=agL (by simpa[tK]using h) (jQ.1 ha) (jQ.1 hb);unfold mZ;rw[a18 h,acA,this.1];exact⟨jQ.2 this.2,rfl⟩
theorem WS{k}(h:CP k=true){a}(ha:zG a):zG (ng k a).1/\(ng k a).1=xZ k a:=by have:=agM (show k=5\/k=6 by simpa[CP]using h) (jQ.1 ha);unfold ng;rw[a18 h,acB,this.1];exact⟨jQ.2 this.2,rfl⟩
theorem acC{k a b}(h:((mZ k a b).2 != 0)=false):tK k=true:=by
 unfold mZ at h;cases e:tK k
 .rw[e]at h;simp at h
 rfl
theorem acD{k a}(h:((ng k a).2 != 0)=false):CP k=true:=by
 unfold ng at h;cases e:CP k
 .rw[e]at h;simp at h
 rfl
theorem wQ:zG dP:=⟨by decide,by decide⟩
theorem a1e:zG V0:=⟨by decide,by decide⟩
abbrev yt(u:Int)(l:List V):V:=(ng u (l.getD 0 V0)).1
abbrev tV(u:Int)(l:List V):V:=(mZ u (l.getD 0 V0) (l.getD 1 V0)).1
abbrev WT(l:List V):V:=(gy (l.getD 0 V0) (l.getD 1 V0) (l.getD 2 V0)).1
theorem an7{m u}(h1:1<=m)(hO:Ok (m-1) Rl){l}(h:l.length=1):dI X0 Qp (iD m) (.fn 111 [] [.ptr 0 0 1]) [lV l] [.aF [.int .u8 u]] (.agg (yt u l).ps) [.aF [.int .u8 u]]:=by obtain⟨m,rfl⟩:∃k,m=k+1:=⟨m-1,by omega⟩;exact fD hO (first:=[]) (cap:=[.ptr 0 0 1]) (.o (aH (by omega:0<l.length)) .er)
theorem an8{m u}(h1:1<=m)(hO:Ok (m-1) Rl){l}(h:l.length=2):dI X0 Qp (iD m) (.fn 112 [] [.ptr 0 0 1]) [lV l] [.aF [.int .u8 u]] (.agg (tV u l).ps) [.aF [.int .u8 u]]:=by obtain⟨m,rfl⟩:∃k,m=k+1:=⟨m-1,by omega⟩;exact fD hO (first:=[]) (cap:=[.ptr 0 0 1]) (.o (aH (by omega:0<l.length)) (.o (aH (by omega:1<l.length)) .er))
theorem aso{m}(h1:1<=m)(hO:Ok (m-1) Rl){l}(h:l.length=3):dI X0 Qp (iD m) (.fn 113 [] []) [lV l] [] (.agg (WT l).ps) []:=by obtain⟨m,rfl⟩:∃k,m=k+1:=⟨m-1,by omega⟩;exact fD hO (first:=[]) (cap:=[]) (.o (aH (by omega:0<l.length)) (.o (aH (by omega:1<l.length)) (.o (aH (by omega:2<l.length)) .er)))
theorem af0{m}(hO:Ok m Rl){l}(h:l.length<=ah):dI X0 Qp (iD m) (.fn 117 [] []) [lV l] [] (.agg (gZ l).ps) []:=nN.YV hX (first:=[]) (cap:=[]) (hO 117 [lV l] (vA.put (gZ l)) [] [l.length<=ah] (by kernel_rfl) (fun p h9=>by rw[a2p.1 h9];exact h)) rfl rfl rfl rfl
theorem Om(l):zG (gZ l):=by unfold gZ;split;exact wQ;exact a1e
theorem Ro{a b c}(ha:zG a)(hb:zG b)(hc:zG c):zG (gy a b c).1:=by have:=a4J (jQ.1 ha) (jQ.1 hb) (jQ.1 hc);rw[this.1];exact jQ.2 this.2
def qR(p:Int×Dg):Dg×Int:=if(aU [p.2] != 0)=true then(iy,aU [p.2])else if((ng p.1 dP).2 != 0)=true then(iy,(ng p.1 dP).2)else(iL (bF [p.2]) (yt p.1),0)
def o7(p:Int×Dg×Dg):Dg×Int:=if(aU [p.2.1,p.2.2] != 0)=true then(iy,aU [p.2.1,p.2.2])else if((mZ p.1 dP dP).2 != 0)=true then(iy,(mZ p.1 dP dP).2)else(iL (bF [p.2.1,p.2.2]) (tV p.1),0)
def Jw(p:Dg×Dg×Dg):Dg×Int:=if(aU [p.1,p.2.1,p.2.2] != 0)=true then(iy,aU [p.1,p.2.1,p.2.2])else(iL (bF [p.1,p.2.1,p.2.2]) WT,0)
def l7(p:Dg):Dg×Int:=if(aU [p] != 0)=true then(iy,aU [p])else(iL (bF [p]) gZ,0)
theorem Jy{P:Dg->Prop}{a b}(ha:P a)(hb:P b):∀d∈[a,b],P d:=fun x hx=>by
 rcases a1G.1 hx with rfl|hx
 .exact ha
 .rw[a2p.1 hx];exact hb
theorem a1f{P:Dg->Prop}{a b c}(ha:P a)(hb:P b)(hc:P c):∀d∈[a,b,c],P d:=fun x hx=>by
 rcases a1G.1 hx with rfl|hx
 .exact ha
 .exact Jy hb hc x hx
abbrev rnE(e:Int):PV aG:=.dK [.agg [.nil .aO,.nil .aO,.nil .aO,.nil .aO,.int .i64 0],.int .i64 e]
abbrev HcA(D:List Dg)(u:Int)(g:LI0):List (PB aG):=[.list true true 26 D,.cells [.int .u8 u],.list true true 3 g]
abbrev HcB(u:Int):List (PB aG):=[.gone,.cells [.int .u8 u],.gone]
theorem rE(e):Fp (Γ:=X0.Γ) (Is (X:=X0) (P:=Qp) (dJ (a2 dA iA)) (iy,e)) .n (.ret (some (rnE e))):=by have h:(dJ (a2 dA iA)).get (rnE e)=some (iy,e):=rfl;exact Fp.rn (X:=X0) (P:=Qp) (rnE e) h
def an9:fV aG:=bU 61 (a2 uA dA) (dJ (a2 dA iA)) qR (fun p=>[kM p.2]) Rl
theorem asr:Gd an9:=Good.a7U 24 Zg QX Gm fun n hn hO Fb Zh p hp=>by
 obtain⟨u,d⟩:=p;have h1:∀x∈[d],kM x:=fun x hx=>by rw[a2p.1 hx];exact hp _ iC
 have h3:0<[d].length/\[d].length<=ah:=⟨by simp,a1d⟩;have hJ:(aU [d] != 0)=false->jH (bF [d]):=fun e1=>tJ (D:=[d]) (by simp) (by simp) h1 (by simpa using e1);have s1:=fun(e1:(aU [d] != 0)=false)=>a9w (n:=n) (f:=111) u (by omega) (fun m hm=>Zh m (by omega)) (D:=[d]) (by simp) (hJ e1).bP.len (k:=true) (ex:=true);have s2:=fun(e1:(aU [d] != 0)=false) (e2:((ng u dP).2 != 0)=false)=>aeZ (n:=n) (f:=111) u (hJ e1) (op:=yt u) (yj (hJ e1) (Jb.inD h1 (show aU [d]=0 by simpa using e1)) fun l hl hv=>(WS (acD e2) (hv _ (bQ (by rw[hl];exact afn)))).1) (by omega) (fun m hm=>Fb m (by omega)) (fun m hm l hl=>an7 (by omega) (hO _ (by omega)) hl) (k:=true) (ex:=true) (k2:=true) (FP:=true);show nN X0 Qp _ _ _ ((dJ (a2 dA iA)).put (if(aU [d] != 0)=true then(iy,aU [d])else if((ng u dP).2 != 0)=true then(iy,(ng u dP).2)else(iL (bF [d]) (yt u),0))) _;exact aN (hO n (by omega)) (.o h1 (.o h3 (.sh (fun _=>rE _) fun e1=>.sh (fun _=>rE _) fun e2=>.PL (H2:=HcA [d] u (bF [d]).g) [2,0] [1] (s1 e1) (.PL (H2:=HcB u) [2,0,3] [1] (s2 e1 e2) .rr))))
def ana:fV aG:=bU 62 (a3 uA dA dA) (dJ (a2 dA iA)) o7 (fun p=>[kM p.2.1,kM p.2.2]) an9
theorem a9B:(2:Nat)<=ah:=by unfold ah;omega
theorem ahO:(3:Nat)<=ah:=by unfold ah;omega
theorem asu:Gd ana:=Good.a2I 24 asr QX Gm Zg fun n hn hO Fb Zh hO4 p hp=>by obtain⟨u,d,e⟩:=p;have h1:∀x∈[d,e],kM x:=Jy (hp _ iC) (hp _ yC);have h3:0<[d,e].length/\[d,e].length<=ah:=⟨by simp,a9B⟩;have hJ:(aU [d,e] != 0)=false->jH (bF [d,e]):=fun e1=>tJ (D:=[d,e]) (by simp) (by simp) h1 (by simpa using e1);have s1:=fun(e1:(aU [d,e] != 0)=false)=>a9w (n:=n) (f:=112) u (by omega) (fun m hm=>Zh m (by omega)) (D:=[d,e]) (by simp) (hJ e1).bP.len (k:=true) (ex:=true);have s2:=fun(e1:(aU [d,e] != 0)=false) (e2:((mZ u dP dP).2 != 0)=false)=>aeZ (n:=n) (f:=112) u (hJ e1) (op:=tV u) (yj (hJ e1) (Jb.inD h1 (show aU [d,e]=0 by simpa using e1)) fun l hl hv=>(a3u (acC e2) (hv _ (bQ (show 0<l.length by rw[hl];exact Nat.zero_lt_two))) (hv _ (bQ (show 1<l.length by rw[hl];exact Nat.one_lt_two)))).1) (by omega) (fun m hm=>Fb m (by omega)) (fun m hm l hl=>an8 (by omega) (hO4 _ (by omega)) hl) (k:=true) (ex:=true) (k2:=true) (FP:=true);show nN X0 Qp _ _ _ ((dJ (a2 dA iA)).put (if(aU [d,e] != 0)=true then(iy,aU [d,e])else if((mZ u dP dP).2 != 0)=true then(iy,(mZ u dP dP).2)else(iL (bF [d,e]) (tV u),0))) _;exact aN (hO n (by omega)) (.o h1 (.o h3 (.sh (fun _=>rE _) fun e1=>.sh (fun _=>rE _) fun e2=>.PL (H2:=HcA [d,e] u (bF [d,e]).g) [2,0] [1] (s1 e1) (.PL (H2:=HcB u) [2,0,3] [1] (s2 e1 e2) .rr))))
def anb:fV aG:=bU 63 (a3 dA dA dA) (dJ (a2 dA iA)) Jw (fun p=>[kM p.1,kM p.2.1,kM p.2.2]) ana
theorem asv:Gd anb:=Good.a2I 24 asu QX Gm Zg fun n hn hO Fb Zh hO4 p hp=>by obtain⟨a,b,c⟩:=p;have h1:∀x∈[a,b,c],kM x:=a1f (hp _ iC) (hp _ yC) (hp _ hh2);have h3:0<[a,b,c].length/\[a,b,c].length<=ah:=⟨by simp,ahO⟩;have hJ:(aU [a,b,c] != 0)=false->jH (bF [a,b,c]):=fun e1=>tJ (D:=[a,b,c]) (by simp) (by simp) h1 (by simpa using e1);have s1:=fun(e1:(aU [a,b,c] != 0)=false)=>Hu (n:=n) (f:=113) (by omega) (fun m hm=>Zh m (by omega)) (D:=[a,b,c]) (by simp) (hJ e1).bP.len (k:=true) (ex:=true);have s2:=fun(e1:(aU [a,b,c] != 0)=false)=>a3t (n:=n) (f:=113) (hJ e1) (op:=WT) (yj (hJ e1) (Jb.inD h1 (show aU [a,b,c]=0 by simpa using e1)) fun l hl hv=>Ro (hv _ (bQ (show 0<l.length by rw[hl];exact Nat.succ_pos 2))) (hv _ (bQ (show 1<l.length by rw[hl];exact Nat.succ_lt_succ (Nat.succ_pos 1)))) (hv _ (bQ (show 2<l.length by rw[hl];exact Nat.lt_succ_self 2)))) (by omega) (fun m hm=>Fb m (by omega)) (fun m hm l hl=>aso (by omega) (hO4 _ (by omega)) hl) (k:=true) (ex:=true) (k2:=true) (FP:=true);show nN X0 Qp _ _ _ ((dJ (a2 dA iA)).put (if(aU [a,b,c] != 0)=true then(iy,aU [a,b,c])else(iL (bF [a,b,c]) WT,0))) _;exact aN (hO n (by omega)) (.o h1 (.o h3 (.sh (fun _=>rE _) fun e1=>.fr [1] (s1 e1) (.fr [1,2] (s2 e1) .rr))))
def anc:fV aG:=bU 67 (a1 dA) (dJ (a2 dA iA)) l7 (fun p=>[kM p]) anb
theorem asw:Gd anc:=Good.a2I 24 asv QX Gm Zg fun n hn hO Fb Zh hO4 d hp=>by
 have h1:∀x∈[d],kM x:=fun x hx=>by rw[a2p.1 hx];exact hp _ iC
 have h3:0<[d].length/\[d].length<=ah:=⟨by simp,a1d⟩;have hJ:(aU [d] != 0)=false->jH (bF [d]):=fun e1=>tJ (D:=[d]) (by simp) (by simp) h1 (by simpa using e1);have s1:=fun(e1:(aU [d] != 0)=false)=>Hu (n:=n) (f:=117) (by omega) (fun m hm=>Zh m (by omega)) (D:=[d]) (by simp) (hJ e1).bP.len (k:=true) (ex:=true);have s2:=fun(e1:(aU [d] != 0)=false)=>a3t (n:=n) (f:=117) (hJ e1) (op:=gZ) (fun t hd=>Om _) (by omega) (fun m hm=>Fb m (by omega)) (fun m hm l hl=>af0 (hO4 m (by omega)) (by rw[hl];exact a1d)) (k:=true) (ex:=true) (k2:=true) (FP:=true);show nN X0 Qp _ _ _ ((dJ (a2 dA iA)).put (if(aU [d] != 0)=true then(iy,aU [d])else(iL (bF [d]) gZ,0))) _;exact aN (hO n (by omega)) (.o h1 (.o h3 (.sh (fun _=>rE _) fun e1=>.fr [1] (s1 e1) (.fr [1,2] (s2 e1) .rr))))
open Go Tw Pv bV
def pz(v:V):Int:=if(!(sU v))=true then 2 else 0
def af2:fV aG:=bU 106 (a1 vA) iA (fun p=>pz p) np anc
theorem ane:Gd af2:=asw.add fun n hO p hp=>aN hO (.ss .rr .rr)
abbrev FQ(s o:LI0)(v:V):Dg:=⟨s,o,[v],[],-1⟩
def Zi:fV aG:=bU 107 (a3 qF qF vA) dA (fun p=>FQ p.1 p.2.1 p.2.2) (fun p=>[p.1.length<=ah,p.2.1.length<=ah]) af2
theorem af4:Gd Zi:=ane.add fun n hO p hp=>aN hO (.o (hp _ iC) (.o (hp _ yC) (.rn (.agg [lI p.1,lI p.2.1,lV [p.2.2],.nil .aO,.int .i64 (-1)]) rfl)))
theorem a9C{n f:Nat}{J k ex k2 FP}(h:jf n (.fn 87 [] []) [.agg (J.ps (.fn f [] []))] [] (.map 0) [.map (kV.im (fB J))]):jf n (.fn 87 [] []) [.agg [lI J.s,lI J.o,.own 0,.own 1,.fn f [] []]] [.list k ex 26 J.D,.list k2 FP 3 J.g] (.map 2) [.gone,.gone,.map (kV.im (fB J))]:=by have h1:=dI.frame hX (ks:=[]) (H':=[.gone,.gone]) (Hp:=[]) (S9:=[.map (kV.im (fB J))]) (v':=.map 2) (fv':=.fn 87 [] []) (xs':=[.agg (J.ps (.fn f [] []))]) h (by decide) rfl rfl rfl rfl rfl rfl rfl;exact dI.fz hX (H:=[.list k ex 26 J.D,.list k2 FP 3 J.g]) (cs:=[lI J.s,lI J.o,.own 0,.own 1]) (rest:=[.fn f [] []]) [0,1] h1 rfl (fun i hi=>by simpa[lG.kT,lG]using hi)
open Go Tw Pv bV
def look(t:List (V×Int))(v:V):Int:=((t.find? fun e=>decide (e.1=v)).map (·.2)).getD 0
theorem Jz{t}(hn:(t.map (·.1)).Nodup)(v):(qM X0 Qp 39 (kV.im t) (kV.tv v) (.int .i64 (look t v)))\/(look t v=0/\oH X0 Qp 39 (kV.im t) (kV.tv v)):=by
 by_cases h:v∈t.map (·.1)
 .obtain⟨e,he,hv⟩:=a1z.1 h;obtain⟨e2,h2⟩:=a6c.1 (List.find?_isSome (p:=fun e:V×Int=>decide (e.1=v)) |>.2 ⟨e,he,show decide (e.1=v)=true by simpa using hv⟩);have h3:e2.1=v:=by simpa using List.find?_some h2
  refine .inl (kV.found (by rw[Au];exact hn) (a1z.2 ⟨e2,List.mem_of_find?_eq_some h2,?_⟩));unfold look;rw[h2,h3];rfl
 refine .inr ⟨?_,kV.fresh (by rw[Au];exact h)⟩;unfold look;rw[afz.2 fun e he=>by simp only[a1F];intro hv;exact h (a1z.2 ⟨e,he,hv⟩)]
 rfl
abbrev anf:PV aG:=.agg [.nil .aO,.nil .aO,.nil .aO,.nil .aO,.nil .fn]
abbrev a9D(J:Jb)(f:Nat)(a b:Nat):PV aG:=.agg [lI J.s,lI J.o,.own a,.own b,.fn f [] []]
abbrev HO(D:List Dg)(g:LI0):List (PB aG):=[.list true true 26 D,.list true true 3 g]
theorem a1g{P:Dg->Prop}{d}(h:P d):∀x∈[d],P x:=fun x hx=>by rw[a2p.1 hx];exact h
theorem ang{n}(hO:Ok n Zi){d}{v:V}(hp:kM d)(e1:(aU [d] != 0)=true):jf (n+1) (.fn 86 [] []) [.agg d.ps,.agg v.ps] [] (.dK [anf,.int .i64 (aU [d])]) []:=by have h1:∀x∈[d],kM x:=a1g hp;have h3:0<[d].length/\[d].length<=ah:=⟨by simp,a1d⟩;exact dI.drop hX (nY hX hO (first:=[]) (cap:=[]) (H1:=[.list true true 26 [d]]) (by kernel_rfl) (.o h1 (.o h3 (.b e1 .er)))) rfl rfl
theorem anh{n}(hO:Ok n Zi){d v}(hp:kM d)(e1:(aU [d] != 0)=false)(e2:(pz v != 0)=true):jf (n+1) (.fn 86 [] []) [.agg d.ps,.agg v.ps] [] (.dK [anf,.int .i64 4]) []:=by have h1:∀x∈[d],kM x:=a1g hp;have h3:0<[d].length/\[d].length<=ah:=⟨by simp,a1d⟩;exact dI.drop hX (nY hX hO (first:=[]) (cap:=[]) (H1:=[.list true true 26 [d]]) (by kernel_rfl) (.o h1 (.o h3 (.b e1 (.b e2 .er))))) rfl rfl
theorem ani{n}(h2:2<=n)(CZ:Ok n Zi)(hO:∀m,n-2<=m->Ok m ru){d v}(hp:kM d)(e1:(aU [d] != 0)=false)(e2:(pz v != 0)=false):jf (n+1) (.fn 86 [] []) [.agg d.ps,.agg v.ps] [] (.dK [a9D (bF [d]) 79 0 1,.int .i64 0]) (HO [d] (bF [d]).g):=by have h1:∀x∈[d],kM x:=a1g hp;have h3:0<[d].length/\[d].length<=ah:=⟨by simp,a1d⟩;have hJ:jH (bF [d]):=tJ (D:=[d]) (by simp) (by simp) h1 (by simpa using e1);have s1:=Hu (n:=n) (f:=79) h2 hO (D:=[d]) (by simp) hJ.bP.len (k:=true) (ex:=true);have h:jf (n+1) (.fn 86 [] []) [.agg d.ps,.agg v.ps] [] (.dK [a9D (bF [d]) 79 1 2,.int .i64 0]) [.list true true 26 [d],.list true true 26 [d],.list true true 3 (bF [d]).g]:=fD CZ (first:=[]) (cap:=[]) (.o h1 (.o h3 (.b e1 (.b e2 (.fr [1] s1 .er)))));exact dI.gs hX h [.gc [1,2]] rfl
theorem C9(J):((fB J).map (·.1)).Nodup:=(((qL Zc (BG (wz J))).map (·.1)).nodup_iff).2 (H8 (wz J)).1
theorem Zj(φ J):dL φ (fB J)=eF φ (wz J):=by unfold fB;rw[a4C φ (qL Zc (BG (wz J))),Ub]
theorem Zk{α}:∀l:List α,eF (fun _=>1) l=(l.length:Int)
 | []=>rfl
 |a::l=>by have:=Zk l;simp only[eF,a4T];omega
theorem UG{J}(hJ:jH J):LC (fB J):=by
 refine⟨fun e he=>(H8 (wz J)).2 e ((qL Zc (BG (wz J))).mem_iff.1 he),?_⟩;rw[Zj,Zk];have h1:(wz J).length<=(YZ J).length:=by unfold wz a1a;rw[a5C];exact a5W (aak _ _) (by rw[a5C];exact a1p _)
 have h2:(YZ J).length<=wI J.s:=a5W (aak _ _) (by rw[a5C,a6w];exact a1p _);have h3:=hJ.bP.Yd;have h4:=hJ.bP.many;omega
def WU(p:Dg×V):Int×Int:=if(aU [p.1] != 0)=true then(0,aU [p.1])else if(pz p.2 != 0)=true then(0,4)else(look (fB (bF [p.1])) p.2,0)
def ahP:fV aG:=bU 27 (a2 dA vA) (dJ (a2 iA iA)) WU (fun p=>[kM p.1]) Zi
theorem asx:Gd ahP:=Good.Y7 24 af4 Gm fun n hn hO Fb p hp=>by
 obtain⟨d,v⟩:=p;have h1:kM d:=hp _ iC;obtain⟨n,rfl⟩:∃k,n=k+1:=⟨n-1,by omega⟩;have CZ:=hO (n+1) (by omega);cases e1:(aU [d] != 0)
 .cases e2:(pz v != 0)
  .have s1:=ani (n:=n) (by omega) (hO n (by omega)) (fun m hm=>Fb m (by omega)) h1 e1 e2;have hJ:jH (bF [d]):=tJ (D:=[d]) (by simp) (by simp) (a1g h1) (by simpa using e1);have s2:=a9C (k:=true) (ex:=true) (k2:=true) (FP:=true) (Rf hJ (n:=n-1) (f:=79) (Fb _ (by omega)) (show 0<[d].length by simp));rw[show n-1+2=n+1 by omega]at s2;show nN X0 Qp _ _ _ ((dJ (a2 iA iA)).put (if(aU [d] != 0)=true then(0,aU [d])else if(pz v != 0)=true then(0,4)else(look (fB (bF [d])) v,0))) _;rw[e1,e2];rcases Jz (C9 (bF [d])) v with hf|⟨hz,hf⟩
   .exact aN CZ (.fr [] s1 (.b (rfl:((0:Int) != 0)=false) (.fr [0,1] s2 (.c (.int .i64 (look (fB (bF [d])) v)) [] hf .rr))))
   .rw[hz];exact aN CZ (.fr [] s1 (.b (rfl:((0:Int) != 0)=false) (.fr [0,1] s2 (.a .calm (.o hf .rr)))))
  .have s1:=anh (n:=n) (hO n (by omega)) h1 e1 e2;show nN X0 Qp _ _ _ ((dJ (a2 iA iA)).put (if(aU [d] != 0)=true then(0,aU [d])else if(pz v != 0)=true then(0,4)else(look (fB (bF [d])) v,0))) _;rw[e1,e2];exact aN CZ (.fr [] s1 (.b (rfl:((4:Int) != 0)=true) .rr))
 .have s1:=ang (n:=n) (v:=v) (hO n (by omega)) h1 e1;show nN X0 Qp _ _ _ ((dJ (a2 iA iA)).put (if(aU [d] != 0)=true then(0,aU [d])else if(pz v != 0)=true then(0,4)else(look (fB (bF [d])) v,0))) _;rw[a18 e1];exact aN CZ (.fr [] s1 (.b e1 .rr))
open Go Tw Pv bV
structure An where
 q:Int
 none:Bool
 yes:Bool
 n:Int
 lo:Int
 hi:Int
 fault:Bool
 set:LI0
deriving DecidableEq
abbrev Xa:An:=⟨0,false,false,0,0,0,false,[]⟩
def anj:Ar X0 Qp Unit where
 put _:=.nil .aO
 get v:=match v with
  |.nil .aO=>some ()
  |_=>none
 ok:=by
  intro v a hg A m h x hv;split at hg
  .exact hv
  .cases hg
def ZB:Arg An:=agm (a7M (Nq uA (Nq tA (Nq tA (Nq iA (Nq iA (a4 iA tA qF anj)))))))
 (fun p=>⟨p.1,p.2.1,p.2.2.1,p.2.2.2.1,p.2.2.2.2.1,p.2.2.2.2.2.1,p.2.2.2.2.2.2.1,p.2.2.2.2.2.2.2.1⟩) (fun a=>(a.q,a.none,a.yes,a.n,a.lo,a.hi,a.fault,a.set,())) fun _=>rfl
abbrev anW(a:An)(s:PV aG):PV aG:=.agg [.int .u8 a.q,.bool a.none,.bool a.yes,.int .i64 a.n,.int .i64 a.lo,.int .i64 a.hi,.bool a.fault,s,.nil .aO]
theorem rA(a)(h:a.set=[])(e):Fp (Γ:=X0.Γ) (Is (X:=X0) (P:=Qp) (dJ (a2 ZB iA)) (a,e)) .n (.ret (some (.dK [anW a (.nil .aO),.int .i64 e]))):=by obtain⟨q,no,y,n,l,hi,f,s⟩:=a;cases h;have h:(dJ (a2 ZB iA)).get (.dK [anW ⟨q,no,y,n,l,hi,f,[]⟩ (.nil .aO),.int .i64 e])=some (⟨q,no,y,n,l,hi,f,[]⟩,e):=rfl;exact Fp.rn (X:=X0) (P:=Qp) _ h
def a9F(q:Int)(t:List (V×Int)):An×Int:=
 if(q==1)=true then(⟨q,false,look t dP==dL (fun _=>1) t,0,0,0,false,[]⟩,0)
 else if(q==2)=true then(⟨q,false,decide (look t dP>0),0,0,0,false,[]⟩,0)
 else if(q==3)=true then(⟨q,false,false,look t dP,0,0,false,[]⟩,0)
 else if(q==4)=true then(if nC t=[]then(⟨q,true,false,0,0,0,vT t,[]⟩,0)else(⟨q,((nC t).length:Int)==0,false,0,(nC t).getD 0 0,(nC t).getD (i64.wrap ((nC t).length-1)).toNat 0,vT t,[]⟩,0))
 else(⟨q,false,false,0,0,0,vT t,nC t⟩,0)
def Hw(q:Int)(t:List (V×Int)):An×Int:=if t=[]then(⟨q,true,false,0,0,0,false,[]⟩,0)else a9F q t
def a3v(p:Int×Dg×Dg):An×Int:=if(aU [p.2.1,p.2.2] != 0)=true then(Xa,aU [p.2.1,p.2.2])else if decide (p.1<1)=true then(Xa,2)else if decide (p.1>5)=true then(Xa,2)else Hw p.1 (fB (bF [p.2.1,p.2.2]))
def acF:fV aG:=bU 33 (a3 uA dA dA) (dJ (a2 ZB iA)) a3v (fun p=>[kM p.2.1,kM p.2.2]) ahP
theorem ahQ{t}(h:LC t):(nC t).length<=2000:=by unfold nC;rw[show ∀l:LI0,(iw l).length=l.length from fun l=>(afg l _).length_eq,a5C];exact a5W (aak _ _) h.len
abbrev HMt(t:List (V×Int)):List (PB aG):=[.map (kV.im t)]
abbrev HMn(t:List (V×Int)):List (PB aG):=[.map (kV.im t),.list false false 3 (nC t)]
section
variable{n:Nat}{q:Int}{d e:Dg}(hO:Ok n ahP)(h1:∀ x∈[d,e],kM x)(e1:(aU [d,e] != 0)=false)(e2:decide (q<1)=false)(e3:decide (q>5)=false){t:List (V×Int)}(ht:LC t)
 (s1:dI X0 Tryz.prog (iD n) (.fn 78 [] []) [.fn 79 [] [],.own 0] [.list true true 26 [d,e]] (a9D (bF [d,e]) 79 0 1) (HO [d,e] (bF [d,e]).g))
 (s2:dI X0 Tryz.prog (iD n) (.fn 87 [] []) [a9D (bF [d,e]) 79 0 1] (HO [d,e] (bF [d,e]).g) (.map 2) [.gone,.gone,.map (kV.im t)])
 (s3:dI X0 Tryz.prog (iD n) (.fn 90 [] []) [.map 0] [.iO (kV.im t)] (.int .i64 (dL (fun _=>1) t)) [.iO (kV.im t)])
 (s4:nC t=[]->dI X0 Tryz.prog (iD n) (.fn 88 [] []) [.map 0] [.iO (kV.im t)] (.dK [.nil .aO,.bool (vT t)]) [.iO (kV.im t)])
 (s5:nC t≠[]->dI X0 Tryz.prog (iD n) (.fn 88 [] []) [.map 0] [.iO (kV.im t)] (.dK [.own 1,.bool (vT t)]) [.iO (kV.im t),.list false false 3 (nC t)])
include hO h1 e1 e2 e3 s1 s2
theorem acG(h:t=[]):nN X0 Qp (iD (n+1)) 33 ((a3 uA dA dA).put (q,d,e)) ((dJ (a2 ZB iA)).put (⟨q,true,false,0,0,0,false,[]⟩,0)) []:=by subst h;have h3:0<[d,e].length/\[d,e].length<=ah:=⟨by simp,a9B⟩;exact aN hO (.o h1 (.o h3 (.b e1 (.b e2 (.b e3 (.fr [1] s1 (.fr [1,2] s2 (.b (show(((kV.im ([]:List (V×Int))).length:Int)==0)=true from rfl) (rA _ rfl _)))))))))
variable(hd:(t.map (·.1)).Nodup)
include ht s3 s4 s5 hd
theorem a9G(h:t≠[]):nN X0 Qp (iD (n+1)) 33 ((a3 uA dA dA).put (q,d,e)) ((dJ (a2 ZB iA)).put (a9F q t)) []:=by
 have h3:0<[d,e].length/\[d,e].length<=ah:=⟨by simp,a9B⟩;have hl:(((kV.im t).length:Int)==0)=false:=by
  rw[kV.qy];cases t with
  |nil=>exact absurd rfl h
  |cons a r=>exact bne (by simp only[a4T];omega)
 have SL:=ahQ ht;have s0:jf n (.fn 89 [] []) [] [] (.agg dP.ps) []:=nN.YV hX (first:=[]) (cap:=[]) (hO 89 [] (vA.put dP) [] [] (by kernel_rfl) (fun p h=>by cases h)) rfl rfl rfl rfl;unfold a9F;by_cases hn:nC t=[]
 .rw[a18 hn];rcases Jz hd dP with hf|⟨hz,hf⟩
  .exact aN hO (.o h1 (.o h3 (.b e1 (.b e2 (.b e3 (.fr [1] s1 (.fr [1,2] s2 (.b hl (.PL (H2:=HMt t) [3] [0] (s4 hn) (.ss (.fr [] s0 (.c (.int .i64 (look t dP)) [] hf (.PL (H2:=HMt t) [3] [0] s3 (rA _ rfl _)))) (.ss (.fr [] s0 (.c (.int .i64 (look t dP)) [] hf (rA _ rfl _))) (.ss (.fr [] s0 (.c (.int .i64 (look t dP)) [] hf (rA _ rfl _))) (.ss (.b (c:=!((0:Int)==0)) (t:=false) rfl (rA _ rfl _)) (rA ⟨q,false,false,0,0,0,vT t,nC t⟩ hn _))))))))))))))
  rw[hz];exact aN hO (.o h1 (.o h3 (.b e1 (.b e2 (.b e3 (.fr [1] s1 (.fr [1,2] s2 (.b hl (.PL (H2:=HMt t) [3] [0] (s4 hn) (.ss (.a .calm (.o hf (.PL (H2:=HMt t) [3] [0] s3 (rA _ rfl _)))) (.ss (.a .calm (.o hf (rA _ rfl _))) (.ss (.a .calm (.o hf (rA _ rfl _))) (.ss (.b (c:=!((0:Int)==0)) (t:=false) rfl (rA _ rfl _)) (rA ⟨q,false,false,0,0,0,vT t,nC t⟩ hn _))))))))))))))
 rw[a0U hn];have hp:0<(nC t).length:=ab3.2 hn;have hb:(!(((nC t).length:Int)==0))=true:=by rw[bne (by omega)];rfl
 have i0:gV 0 (nC t).length:=aH hp;have i1:gV (i64.wrap ((nC t).length-1)) (nC t).length:=by rw[wrap_small (by omega) (by omega)];exact⟨by omega,by omega⟩
 rcases Jz hd dP with hf|⟨hz,hf⟩
 .exact aN hO (.o h1 (.o h3 (.b e1 (.b e2 (.b e3 (.fr [1] s1 (.fr [1,2] s2 (.b hl (.PL (H2:=HMn t) [3] [0] (s5 hn) (.ss (.fr [] s0 (.c (.int .i64 (look t dP)) [] hf (.PL (H2:=HMt t) [3] [0] s3 (rA _ rfl _)))) (.ss (.fr [] s0 (.c (.int .i64 (look t dP)) [] hf (rA _ rfl _))) (.ss (.fr [] s0 (.c (.int .i64 (look t dP)) [] hf (rA _ rfl _))) (.ss (.b hb (.o i0 (.o i1 (rA _ rfl _)))) .rr)))))))))))))
 rw[hz];exact aN hO (.o h1 (.o h3 (.b e1 (.b e2 (.b e3 (.fr [1] s1 (.fr [1,2] s2 (.b hl (.PL (H2:=HMn t) [3] [0] (s5 hn) (.ss (.a .calm (.o hf (.PL (H2:=HMt t) [3] [0] s3 (rA _ rfl _)))) (.ss (.a .calm (.o hf (rA _ rfl _))) (.ss (.a .calm (.o hf (rA _ rfl _))) (.ss (.b hb (.o i0 (.o i1 (rA _ rfl _)))) .rr)))))))))))))
end
theorem ank:Gd acF:=Good.Y7 24 asx Gm fun n hn hO Fb p hp=>by
 obtain⟨q,d,e⟩:=p;have h1:∀x∈[d,e],kM x:=Jy (hp _ iC) (hp _ yC);have h3:0<[d,e].length/\[d,e].length<=ah:=⟨by simp,a9B⟩;have CZ:=hO n (by omega);show nN X0 Qp _ _ _ ((dJ (a2 ZB iA)).put (if(aU [d,e] != 0)=true then(Xa,aU [d,e])else if decide (q<1)=true then(Xa,2)else if decide (q>5)=true then(Xa,2)else Hw q (fB (bF [d,e])))) _;cases e1:(aU [d,e] != 0)
 .cases e2:decide (q<1)
  .cases e3:decide (q>5)
   .have hJ:=tJ (D:=[d,e]) (by simp) (by simp) h1 (by simpa using e1);have ht:=UG hJ;have s1:=Hu (n:=n) (f:=79) (by omega) (fun m hm=>Fb m (by omega)) (D:=[d,e]) (by simp) hJ.bP.len (k:=true) (ex:=true);have s2:=a9C (k:=true) (ex:=true) (k2:=true) (FP:=true) (Rf hJ (n:=n-2) (f:=79) (Fb _ (by omega)) (show 0<[d,e].length by simp));have s3:=as9 (n:=n-1) ht;have s4:=(aeX (n:=n-2) ht).1;have s5:=(aeX (n:=n-2) ht).2;rw[show n-2+2=n by omega]at s2 s4 s5;rw[show n-1+1=n by omega]at s3;show nN X0 Qp _ _ _ ((dJ (a2 ZB iA)).put (Hw q (fB (bF [d,e])))) _;unfold Hw;by_cases h:fB (bF [d,e])=[]
    .rw[a18 h];exact acG CZ h1 e1 e2 e3 s1 s2 h
    .rw[a0U h];exact a9G CZ h1 e1 e2 e3 ht s1 s2 s3 s4 s5 (C9 _) h
   .exact aN CZ (.o h1 (.o h3 (.b e1 (.b e2 (.b e3 (rA _ rfl _))))))
  .exact aN CZ (.o h1 (.o h3 (.b e1 (.b e2 (rA _ rfl _)))))
 .exact aN CZ (.o h1 (.o h3 (.b e1 (rA _ rfl _))))
open Go Tw Pv bV
section
variable{n:Nat}{t:List (V×Int)}(h:LC t)(ht:t≠[])
theorem anl{k:Bool}:jf (n+1) (.fn 96 [] []) [.map 0] [.map (kV.im t)] vF [.map (kV.im t),.cells [.map 0]]:=
 fD gK (first:=[]) (cap:=[]) .er
include h ht
theorem anm:jf (n+3) (.fn 95 [] []) [vF] [.iO (kV.im t),.aF [.map 0]] (.aO 2 0 t.length t.length 1 false) [.iO (kV.im t),.aF [.map 0],.nT ((tH t).map Nw)]:=by have h1:=acv (n:=n) h ht;exact fD gK (first:=[]) (cap:=[]) (.k h1 .er)
omit ht in
theorem a9H:(tH t).length=t.length:=by unfold tH;rw[(qL _ _).length_eq,a5C]
theorem ano:jf (n+1) (.fn 94 [] []) [.aO 0 0 t.length t.length 1 false] [.nT ((tH t).map Nw)] (.int .i64 (Rj (tH t))) [.nT ((tH t).map Nw)]:=by
 have hl:=a9H h;have h0:tH t≠[]:=fun e=>ht (a6t.1 (by rw[<-hl,e];rfl));have:=amV (n:=n) h0 (by rw[hl];exact h.len)
 rwa [hl]at this
end
open Go Tw Pv bV
abbrev lkC(no:Bool)(n:Int)(s:PV aG):List (PV aG):=[.int .u8 8,.bool no,.bool false,.int .i64 n,.int .i64 0,.int .i64 0,.bool false,s,.nil .aO]
abbrev wLk(f:Bool×Bool)(l:List Dg)(d:Dg)(n:Int)(s:PV aG)(H:List (PB aG))(i:Int)(x:List (Nat×PE aG)):bT aG:=⟨[(3,.loc 0 0),(4,.loc 1 0),(31,.val (.own 0)),(32,xi l.length),(33,xi i)]++x,[d.ps,lkC false n s],.list f.1 f.2 26 l::H⟩
abbrev hLk(b:Int):List (PB aG):=[.list true true 3 ([b]:LI0)]
def anp(f:Bool×Bool)(l:List Dg)(d:Dg)(i:Int)(x:List (Nat×PE aG)):Option (Int×Int)->bT aG
 |none=>wLk f l d 0 (.nil .aO) [] i x
 |some (b,z)=>wLk f l d z (.own 1) (hLk b) i x
def tLk(l:List Dg)(d:Dg)(k:Nat):List (V×Int):=fB (bF [l.getD k iy,d])
def mLk(l:List Dg)(d:Dg)(k:Nat):Int:=Rj (tH (tLk l d k))
def gLk(l:List Dg)(d:Dg)(k:Nat)(s:Option (Int×Int)):Option (Int×Int)⊕(Option (Int×Int)×Nat):=
 if tLk l d k=[]then .inr (s,k)else match s with
  |none=>.inl (some ((k:Int),mLk l d k))
  |some (b,z)=>if decide (mLk l d k<z)=true then .inl (some ((k:Int),mLk l d k))else .inl (some (b,z))
def zLk(f:Bool×Bool)(l:List Dg)(d:Dg):Option (Int×Int)⊕(Option (Int×Int)×Nat)->Ex×bT aG
 |.inl s=>(.exit 1,anp f l d l.length [(34,xl false)] s)
 |.inr (none,k)=>(.ret,⟨[(4,.loc 1 0),(5,xi 0)],[d.ps,lkC true 0 (.nil .aO),(l.getD k iy).ps],[.list f.1 f.2 26 l]⟩)
 |.inr (some (b,z),k)=>(.ret,⟨[(4,.loc 1 0),(5,xi 0)],[d.ps,lkC true z (.own 1),(l.getD k iy).ps],.list f.1 f.2 26 l::hLk b⟩)
structure LkP(l:List Dg)(d:Dg):Prop where
 p:∀x∈l++[d],kM x
 g:∀x∈l++[d],DgG x/\x.aj=((l++[d]).getD 0 iy).aj/\x.aB=((l++[d]).getD 0 iy).aB
theorem LkP.j{l d}(h:LkP l d){k}(hk:k<l.length):jH (bF [l.getD k iy,d]):=by have h1:=h.g (l.getD k iy) (a6h _ (bQ hk));have h2:=h.g d (ach _ (a2p.2 rfl));exact aeY (D:=[l.getD k iy,d]) (by simp) (by simp) (Jy (P:=fun x=>DgG x/\x.aj=(l.getD k iy).aj/\x.aB=(l.getD k iy).aB) ⟨h1.1,rfl,rfl⟩ ⟨h2.1,h2.2.1.trans h1.2.1.symm,h2.2.2.trans h1.2.2.symm⟩)
theorem lLk{n}(hn:24<=n)(hO:∀m,n-24<=m->Ok m ru)(f){l d}(h:LkP l d)(hl:l.length<=ah):Ob n 39 0 1 (wLk f l d 0 (.nil .aO) [] 0 []) (zLk f l d (kZ (gLk l d) l.length 0 none)).1 (zLk f l d (kZ (gLk l d) l.length 0 none)).2:=by
 refine jm (st:=fun i s=>anp f l d i [] s) (g:=gLk l d) (out:=zLk f l d) (s0:=none) (fun k s=>k=0↔s=none) (by kernel_rfl) hl (by simp) (fun k s m hk hi ih=>?_) (fun s _=>?_)
 .have hJ:=h.j hk;have ht:LC (tLk l d k):=UG hJ;have s1:=Hu (n:=n) (f:=79) (by omega) (fun m hm=>hO m (by omega)) (D:=[l.getD k iy,d]) (by simp) hJ.bP.len (k:=true) (ex:=true);have s2:=a9C (k:=true) (ex:=true) (k2:=true) (FP:=true) (Rf hJ (n:=n-2) (f:=79) (hO _ (by omega)) (show 0<[l.getD k iy,d].length by simp));rw[show n-2+2=n by omega]at s2
  change dI _ _ _ _ _ _ _ [.gone,.gone,.map (kV.im (tLk l d k))]at s2
  unfold gLk;by_cases h0:tLk l d k=[]
  .rw[a18 h0];rw[h0]at s2;have hz:(((kV.im ([]:List (V×Int))).length:Int)==0)=true:=rfl;rcases s with _|⟨b,z⟩
   .exact aP gK (.b (bD hk) (.o (aH hk) (.fr [1] s1 (.fr [1,2] s2 (.b hz (.ouG [.gc []] nofun))))))
   exact aP gK (.b (bD hk) (.o (aH hk) (.fr [2] s1 (.fr [2,3] s2 (.b hz (.ouG [.gc [1]] nofun))))))
  rw[a0U h0];have hz:(((kV.im (tLk l d k)).length:Int)==0)=false:=by rw[kV.qy];exact bne (by have:=ab3.2 h0;omega)
  have s3:=anl (n:=n-1) (t:=tLk l d k) (k:=true);have s4:=anm (n:=n-3) ht h0;have s5:=ano (n:=n-1) ht h0;rw[show n-1+1=n by omega]at s3 s5;rw[show n-3+3=n by omega]at s4;rcases s with _|⟨b,z⟩
  .have hk0:k=0:=hi.2 rfl;have hb:((k:Int)==0)=true:=by rw[hk0];rfl
   exact aP gK (.b (bD hk) (.o (aH hk) (.fr [1] s1 (.fr [1,2] s2 (.b hz (.fr [3] s3 (.PL (H2:=[.map (kV.im (tLk l d k)),.cells [.map 0],.nT ((tH (tLk l d k)).map Nw)]) [3,4] [0,1] s4 (.fr [5] s5 (.b hb (.nxG [.gc [6]] (ih _ (by simp))))))))))))
  have hk0:k≠0:=fun e=>by cases hi.1 e
  have hb:((k:Int)==0)=false:=bne (by omega);exact aP gK (.b (bD hk) (.o (aH hk) (.fr [2] s1 (.fr [2,3] s2 (.b hz (.fr [4] s3 (.PL (H2:=[.map (kV.im (tLk l d k)),.cells [.map 0],.nT ((tH (tLk l d k)).map Nw)]) [4,5] [0,1] s4 (.fr [6] s5 (.b hb (.ls (.nxG [.gc [7]] (ih _ (by simp))) (.nxG [.gc [1]] (ih _ (by simp)))))))))))))
 rcases s with _|⟨b,z⟩
 .exact aP gK (.b (fC l.length) (.ou nofun))
 exact aP gK (.b (fC l.length) (.ou nofun))
theorem ahS{n k ex}{l:List Dg}:jf (n+1) (.fn 93 [] []) [.own 0] [.list k ex 26 l] (.Hz 0) [.list k ex 26 l]:=fD gK (first:=[]) (cap:=[]) (.o (rfl:((0:Nat):Int)=0) (.o (rfl:(l.length:Int)=(l.length:Int)) (.o (rfl:(l.length:Int)=(l.length:Int)) .er)))
def anq:Option (Int×Int)⊕(Option (Int×Int)×Nat)->An
 |.inl none=>⟨8,false,false,0,0,0,false,[]⟩
 |.inl (some (b,z))=>⟨8,false,false,z,0,0,false,[b]⟩
 |.inr (none,_)=>⟨8,true,false,0,0,0,false,[]⟩
 |.inr (some (b,z),_)=>⟨8,true,false,z,0,0,false,[b]⟩
def a3w(p:List Dg×Dg):An×Int:=if decide ((p.1.length:Int)>4)=true then(Xa,5)else if(aU (p.1++[p.2]) != 0)=true then(Xa,aU (p.1++[p.2]))else if((p.1.length:Int)==0)=true then(Xa,7)else(anq (kZ (gLk p.1 p.2) p.1.length 0 none),0)
theorem dI.got{call}{fv v:PV aG}{xs:List (PV aG)}{H H1:List (PB aG)}{β}{r:Ar X0 Qp β}{s}(hs:dI X0 Qp call fv xs H v H1)(hg:r.get v=some s):dI X0 Qp call fv xs H (r.put s) H1:=by intro A m h tf rJ hr hf hx;obtain⟨w,h',ws,m1,c1,c2,c3,c4⟩:=hs A m h tf rJ hr hf hx;exact⟨w,h',ws,m1,c1,c2,r.ok hg c3,c4⟩
theorem anr{n}(hn:24<=n)(CZ:Ok n acF)(Fb:∀m,n-24<=m->Ok m ru){k ex l d}(h1:∀x∈l++[d],kM x)(h2:l.length<=1000):jf (n+1) (.fn 39 [] []) [.own 0,.agg d.ps] [.list k ex 26 l] ((dJ (a2 ZB iA)).put (a3w (l,d))) [.list k ex 26 l]:=by
 have hl:l.length<=ah:=by unfold ah;omega
 have h3:0<(l++[d]).length/\(l++[d]).length<=ah:=by rw[a1D,a4O];unfold ah;omega
 have h4:l.length+[d].length<=ah:=by rw[a4O];unfold ah;omega
 have h5:[d]≠[]:=by simp
 have s0:=ahS (n:=n-1) (k:=k) (ex:=ex) (l:=l);rw[show n-1+1=n by omega]at s0;show dI X0 Qp _ _ _ _ ((dJ (a2 ZB iA)).put (if decide ((l.length:Int)>4)=true then(Xa,5)else if(aU (l++[d]) != 0)=true then(Xa,aU (l++[d]))else if((l.length:Int)==0)=true then(Xa,7)else(anq (kZ (gLk l d) l.length 0 none),0))) _;cases e1:decide ((l.length:Int)>4)
 .cases e2:(aU (l++[d]) != 0)
  .cases e3:((l.length:Int)==0)
   .have hk:LkP l d:=⟨h1,Rk h1 (by simpa using e2)⟩;have lp:=lLk (n:=n) hn Fb (k,ex) hk hl;revert lp;rcases kZ (gLk l d) l.length 0 none with(_|⟨b,z⟩)|⟨_|⟨b,z⟩,j⟩
    .intro lp;exact dI.got (v:=.dK [anW ⟨8,false,false,0,0,0,false,[]⟩ (.nil .aO),.int .i64 0]) (fD CZ (first:=[]) (cap:=[]) (.b e1 (.fr [0] s0 (.o h4 (.o h5 (.o h1 (.o h3 (.b e2 (.b e3 (.wG [.gc []] lp .er)))))))))) rfl
    .intro lp;exact dI.gs hX (nY hX CZ (first:=[]) (cap:=[]) (v:=.dK [anW ⟨8,false,false,z,0,0,false,[]⟩ (.own 1),.int .i64 0]) (H1:=.list k ex 26 l::hLk b) (by kernel_rfl) (.b e1 (.fr [0] s0 (.o h4 (.o h5 (.o h1 (.o h3 (.b e2 (.b e3 (.wG [.gc []] lp .er)))))))))) [.fz 1,.gc []] rfl
    .intro lp;exact dI.got (v:=.dK [anW ⟨8,true,false,0,0,0,false,[]⟩ (.nil .aO),.int .i64 0]) (fD CZ (first:=[]) (cap:=[]) (.b e1 (.fr [0] s0 (.o h4 (.o h5 (.o h1 (.o h3 (.b e2 (.b e3 (.wG [.gc []] lp .er)))))))))) rfl
    intro lp;exact dI.gs hX (nY hX CZ (first:=[]) (cap:=[]) (v:=.dK [anW ⟨8,true,false,z,0,0,false,[]⟩ (.own 1),.int .i64 0]) (H1:=.list k ex 26 l::hLk b) (by kernel_rfl) (.b e1 (.fr [0] s0 (.o h4 (.o h5 (.o h1 (.o h3 (.b e2 (.b e3 (.wG [.gc []] lp .er)))))))))) [.fz 1,.gc []] rfl
   exact dI.got (v:=.dK [anW Xa (.nil .aO),.int .i64 7]) (dI.gs hX (nY hX CZ (first:=[]) (cap:=[]) (v:=.dK [anW Xa (.nil .aO),.int .i64 7]) (H1:=[.list k ex 26 l,.list true true 26 [d],.list true false 26 (l++[d])]) (by kernel_rfl) (.b e1 (.fr [0] s0 (.o h4 (.o h5 (.o h1 (.o h3 (.b e2 (.b e3 .er))))))))) [.gc []] rfl) rfl
  exact dI.got (v:=.dK [anW Xa (.nil .aO),.int .i64 (aU (l++[d]))]) (dI.gs hX (nY hX CZ (first:=[]) (cap:=[]) (v:=.dK [anW Xa (.nil .aO),.int .i64 (aU (l++[d]))]) (H1:=[.list k ex 26 l,.list true true 26 [d],.list true false 26 (l++[d])]) (by kernel_rfl) (.b e1 (.fr [0] s0 (.o h4 (.o h5 (.o h1 (.o h3 (.b e2 .er)))))))) [.gc []] rfl) rfl
 exact dI.got (v:=.dK [anW Xa (.nil .aO),.int .i64 5]) (fD CZ (first:=[]) (cap:=[]) (.b e1 .er)) rfl
open Go Tw Pv bV
def jg(d:Dg)(g:LI0):Jb:=⟨d.aj,d.aB,[d],g⟩
structure GOk(d:Dg)(g:LI0):Prop where
 len:g.length=d.aj.length
 v:∀c,gV c d.aj.length->0<=g.getD c.toNat 0->g.getD c.toNat 0<d.aj.getD c.toNat 0
theorem ant{d}(hJ:jH (bF [d])){g}(h:GOk d g):jH (jg d g):=⟨hJ.d3,hJ.bP,hJ.ord,fun k hk=>have h:=hJ.dg k hk;⟨h.t,h.n,h.s,h.o,h.rk,h.two⟩,h.len,h.v⟩
theorem GOk.set{d g}(h:GOk d g){c k:Nat}(hk:(k:Int)<d.aj.getD (c:Int).toNat 0):GOk d (g.set (c:Int).toNat (k:Int)):=by
 refine⟨by rw[a5N];exact h.len,fun c2 LY h2=>?_⟩;by_cases e:(c:Int).toNat=c2.toNat
 .obtain⟨q0,q1⟩:=LY;rw[<-e,a4h,a2y (by rw[h.len];omega)];exact hk
 rw[a4h,a1A e,<-a4h]at h2 ⊢;exact h.v c2 LY h2
theorem asC{d}(hJ:jH (bF [d])):GOk d (bF [d]).g:=⟨hJ.gl,hJ.gv⟩
abbrev jcF(d:Dg):List (PV aG):=[lI d.aj,lI d.aB,.own 0,.own 1,.fn 79 [] []]
abbrev hF(d:Dg)(g:LI0):List (PB aG):=[.list true true 26 [d],.list true true 3 g]
abbrev wFo(d:Dg)(v:V)(g:LI0)(c:Int)(x:List (Nat×PE aG)):bT aG:=⟨[(3,.loc 1 0),(6,.loc 2 0),(29,xL 3 d.aj),(30,xi d.aj.length),(31,xi c)]++x,[d.ps,v.ps,jcF d],hF d g⟩
abbrev wFi(d:Dg)(v:V)(g:LI0)(c:Int)(i:Int)(x:List (Nat×PE aG)):bT aG:=⟨[(3,.loc 1 0),(6,.loc 2 0),(8,xi c),(29,xL 3 d.aj),(30,xi d.aj.length),(31,xi c),(36,xi (d.aj.getD c.toNat 0)),(37,xi i)]++x,[d.ps,v.ps,jcF d],hF d g⟩
theorem af5{n f:Nat}{J k ex k2 FP}(h:jf n (.fn 87 [] []) [.agg (J.ps (.fn f [] []))] [] (.map 0) [.map (kV.im (fB J))]):jf n (.fn 87 [] []) [a9D J f 0 1] [.list k ex 26 J.D,.list k2 FP 3 J.g] (.map 2) [.list k ex 26 J.D,.list k2 FP 3 J.g,.map (kV.im (fB J))]:=by have h1:=dI.frame hX (ks:=[]) (H':=[.gone,.gone]) (Hp:=[]) (S9:=[.map (kV.im (fB J))]) (v':=.map 2) (fv':=.fn 87 [] []) (xs':=[.agg (J.ps (.fn f [] []))]) h (by decide) rfl rfl rfl rfl rfl rfl rfl;exact dI.lend hX (H:=[.list k ex 26 J.D,.list k2 FP 3 J.g]) (cs:=[lI J.s,lI J.o,.own 0,.own 1]) (rest:=[.fn f [] []]) [0,1] h1 rfl (fun i hi=>by simpa[lG.kT,lG]using hi) rfl
def lkF(d:Dg)(v:V)(g:LI0):Int:=look (fB (jg d g)) v
def gIn(d:Dg)(v:V)(c:Nat)(k:Nat)(g:LI0):LI0⊕(LI0×Nat):=if decide (lkF d v (g.set (c:Int).toNat (k:Int))>0)=true then .inr (g.set (c:Int).toNat (k:Int),k)else .inl (g.set (c:Int).toNat (k:Int))
def oIn:LI0⊕(LI0×Nat)->LI0
 |.inl g=>g
 |.inr r=>r.1
def nIn(d:Dg)(c:Nat):Nat:=(d.aj.getD (c:Int).toNat 0).toNat
def a5v(d:Dg)(v:V)(c:Nat)(g:LI0):LI0:=oIn (kZ (gIn d v c) (nIn d c) 0 g)
def zFi(d:Dg)(v:V)(c:Nat):LI0⊕(LI0×Nat)->Ex×bT aG
 |.inl g=>(.exit 3,wFi d v g (c:Int) (nIn d c) [(38,xl false)])
 |.inr (g,k)=>(.exit 2,wFi d v g (c:Int) k [(49,xl true)])
theorem a9K{d v c}:∀(m k) (g),k+m<=nIn d c->GOk d g->GOk d (oIn (kZ (gIn d v c) m k g))
 | 0,_,g,_,h=>h
 |m+1,k,g,hk,h=>by
  have h1:GOk d (g.set (c:Int).toNat (k:Int)):=h.set (by unfold nIn at hk;omega);simp only[kZ,gIn];by_cases e:decide (lkF d v (g.set (c:Int).toNat (k:Int))>0)=true
  .rw[a18 e];exact h1
  rw[a0U e];exact a9K m (k+1) _ (by omega) h1
section
variable{n:Nat}(hn:24<=n)(hO:∀ m,n-24<=m->Ok m ru){d:Dg}(hJ:jH (bF [d])){v:V}
include hn hO hJ
theorem lFi{c}(hc:c<d.aj.length){g}(hg:GOk d g):Lp n 28 1 (wFi d v g (c:Int) 0 []) (zFi d v c (kZ (gIn d v c) (nIn d c) 0 g)).1 (zFi d v c (kZ (gIn d v c) (nIn d c) 0 g)).2:=by
 have hz:=hJ.bP.sz (d.aj.getD (c:Int).toNat 0) (dF (show(c:Int).toNat<d.aj.length by simpa using hc));have hN:((nIn d c:Nat):Int)=d.aj.getD (c:Int).toNat 0:=by unfold nIn;omega
 refine jm (st:=fun i g=>wFi d v g (c:Int) i []) (g:=gIn d v c) (out:=zFi d v c) (s0:=g) (fun k g=>GOk d g) (by kernel_rfl) (by unfold ah;omega) hg (fun k g m hk hi ih=>?_) (fun g _=>?_)
 .have t1:decide ((k:Int)<d.aj.getD (c:Int).toNat 0)=true:=by rw[<-hN,a1F];omega
  have hg2:GOk d (g.set (c:Int).toNat (k:Int)):=hi.set (by rw[<-hN];omega);have i1:gV (c:Int) g.length:=by rw[hi.len];exact aH hc
  have s2:=af5 (k:=true) (ex:=true) (k2:=true) (FP:=true) (Rf (ant hJ hg2) (n:=n-2) (f:=79) (hO _ (by omega)) (show 0<[d].length by simp));rw[show n-2+2=n by omega]at s2;unfold gIn lkF;rcases Jz (C9 (jg d (g.set (c:Int).toNat (k:Int)))) v with hf|⟨hz2,hf⟩
  .exact aP gK (.b t1 (.o i1 (.fr [0,1] s2 (.c (.int .i64 (look (fB (jg d (g.set (c:Int).toNat (k:Int)))) v)) [] hf (.ls (.ouG [.gc [0,1]] nofun) (.nxG [.gc [0,1]] (ih _ hg2)))))))
  rw[hz2];exact aP gK (.b t1 (.o i1 (.fr [0,1] s2 (.a .calm (.o hf (.ls (.ouG [.gc [0,1]] nofun) (.nxG [.gc [0,1]] (ih _ hg2))))))))
 have t1:decide (((nIn d c:Nat):Int)<d.aj.getD (c:Int).toNat 0)=false:=by rw[<-hN];exact fC _
 exact aP gK (.b t1 (.ou nofun))
set_option maxRecDepth 20000 in
theorem lFo:Lp n 28 0 (wFo d v (bF [d]).g 0 []) (.exit 1) (wFo d v (aT (a5v d v) d.aj.length 0 (bF [d]).g) d.aj.length [(32,xl false)]):=by
 have hl:d.aj.length<=ah:=by have:d.aj.length<=6:=hJ.bP.len;unfold ah;omega
 refine Qg (X:=X0) (N:=d.aj.length) (g:=a5v d v) (s0:=(bF [d]).g) (st:=fun c g=>wFo d v g c []) (fin:=fun g=>wFo d v g d.aj.length [(32,xl false)]) (fun _ g=>GOk d g) (by kernel_rfl) hl Uk (asC hJ) (fun c g hc hg=>a9K (nIn d c) 0 g (by omega) hg) (fun c g hc hg m e p g9=>?_) (fun g _=>?_)
 .have lp:=lFi hn hO hJ (v:=v) hc hg;unfold a5v at g9;revert lp g9;rcases kZ (gIn d v c) (nIn d c) 0 g with g1|⟨g1,k⟩
  .intro g9 lp;exact aP gK (.b (bD hc) (.o (aH hc) (.w lp (.go g9))))
  intro g9 lp;exact aP gK (.b (bD hc) (.o (aH hc) (.w lp (.go g9))))
 exact aP gK (.b (fC d.aj.length) .ex)
end
open Go Tw Pv bV
def JA(p:Dg×V):LI0×Int:=if(aU [p.1] != 0)=true then([],aU [p.1])else if(pz p.2 != 0)=true then([],4)else if(look (fB (bF [p.1])) p.2==0)=true then([],7)else(aT (a5v p.1 p.2) p.1.aj.length 0 (bF [p.1]).g,0)
def anu:fV aG:=bU 28 (a2 dA vA) (dJ (a2 qF iA)) JA (fun p=>[kM p.1]) acF
theorem rF(e):Fp (Γ:=X0.Γ) (Is (X:=X0) (P:=Qp) (dJ (a2 qF iA)) (([]:LI0),e)) .n (.ret (some (.dK [.nil .aO,.int .i64 e]))):=by have h:(dJ (a2 qF iA)).get (.dK [.nil .aO,.int .i64 e])=some (([]:LI0),e):=rfl;exact Fp.rn (X:=X0) (P:=Qp) _ h
theorem asF:Gd anu:=Good.a7U 30 ank Gm af4 fun n hn hO Fb Zh p hp=>by
 obtain⟨d,v⟩:=p;have h1:kM d:=hp _ iC;obtain⟨n,rfl⟩:∃k,n=k+1:=⟨n-1,by omega⟩;have CZ:=hO (n+1) (by omega);show nN X0 Qp _ _ _ ((dJ (a2 qF iA)).put (if(aU [d] != 0)=true then([],aU [d])else if(pz v != 0)=true then([],4)else if(look (fB (bF [d])) v==0)=true then([],7)else(aT (a5v d v) d.aj.length 0 (bF [d]).g,0))) _;cases e1:(aU [d] != 0)
 .cases e2:(pz v != 0)
  .have s1:=ani (n:=n) (by omega) (Zh n (by omega)) (fun m hm=>Fb m (by omega)) h1 e1 e2;have hJ:jH (bF [d]):=tJ (D:=[d]) (by simp) (by simp) (a1g h1) (by simpa using e1);have s2:=af5 (k:=true) (ex:=true) (k2:=true) (FP:=true) (Rf hJ (n:=n-1) (f:=79) (Fb _ (by omega)) (show 0<[d].length by simp));rw[show n-1+2=n+1 by omega]at s2;have lp:=lFo (n:=n+1) (by omega) (fun m hm=>Fb m (by omega)) hJ (v:=v);show nN X0 Qp _ _ _ ((dJ (a2 qF iA)).put (if(look (fB (bF [d])) v==0)=true then([],7)else(aT (a5v d v) d.aj.length 0 (bF [d]).g,0))) _;rcases Jz (C9 (bF [d])) v with hf|⟨hz,hf⟩
   .exact aN CZ (.fr [] s1 (.b (rfl:((0:Int) != 0)=false) (.fr [0,1] s2 (.c (.int .i64 (look (fB (bF [d])) v)) [] hf (.ss (rF _) (.wG [.gc [0,1]] lp .rr))))))
   .rw[hz];exact aN CZ (.fr [] s1 (.b (rfl:((0:Int) != 0)=false) (.fr [0,1] s2 (.a .calm (.o hf (.ss (rF _) (.wG [.gc [0,1]] lp .rr)))))))
  .have s1:=anh (n:=n) (v:=v) (Zh n (by omega)) h1 e1 e2;exact aN CZ (.fr [] s1 (.b (rfl:((4:Int) != 0)=true) (rF _)))
 .have s1:=ang (n:=n) (v:=v) (Zh n (by omega)) h1 e1;exact aN CZ (.fr [] s1 (.b e1 (rF _)))
open Go Tw Pv bV
abbrev dz:List (PV aG):=[.nil .aO,.nil .aO,.nil .aO,.nil .aO,.int .i64 0]
abbrev cCh(s o:LI0):List (PV aG):=[lI s,lI o,.own 1,.aO 0 0 1 1 2 true,.int .i64 0]
abbrev hCh(c:Int)(x:List V×LI0):List (PB aG):=[.cells [.int .i64 c,.own 2],.list false false 39 x.1,.list false false 3 x.2]
abbrev wCh(s o:LI0)(c w n:Int)(y:List V×LI0)(i:Int)(x:List (Nat×PE aG)):bT aG:=⟨[(3,xi w),(8,.loc 0 0),(11,.loc 1 0),(47,xi n),(48,xi i)]++x,[dz,cCh s o],hCh c y⟩
def gCh(w:Int)(i:Nat)(y:List V×LI0):List V×LI0:=(y.1++[⟨0,i64.wrap (w+(i:Int))⟩],y.2++[i64.wrap (-1-(i:Int))])
def chE(w:Int)(n:Nat):List V:=(List.range n).map fun(i:Nat)=>(⟨0,i64.wrap (w+(i:Int))⟩:V)
def chK(n:Nat):LI0:=(List.range n).map fun(i:Nat)=>i64.wrap (-1-(i:Int))
theorem Zl(w):∀n,aT (gCh w) n 0 ([],[])=(chE w n,chK n)
 | 0=>rfl
 |n+1=>by rw[qN,Zl w n,a3O];unfold gCh chE chK;rw[aeE,a4V,a4V];rfl
theorem lCh{n s o c w}{z:Nat}(hz:z<=12)(h0:s.getD c.toNat 0=(z:Int)):Lp n 57 0 (wCh s o c w (s.getD c.toNat 0) ([],[]) 0 []) (.exit 0) (wCh s o c w (s.getD c.toNat 0) (chE w z,chK z) z [(49,xl false)]):=by
 rw[<-Zl w z,h0];refine Qg (X:=X0) (N:=z) (g:=gCh w) (s0:=([],[])) (st:=fun i y=>wCh s o c w (z:Int) y i []) (fin:=fun y=>wCh s o c w (z:Int) y z [(49,xl false)]) (fun k y=>y.1.length=k/\y.2.length=k) (by kernel_rfl) (by unfold ah;omega) Uk ⟨rfl,rfl⟩ (fun k y hk hi=>?_) (fun k y hk hi m e p g9=>?_) (fun y _=>?_)
 .unfold gCh;simp[hi.1,hi.2]
 .obtain⟨E,K⟩:=y;have a1:E.length+[(⟨0,i64.wrap (w+(k:Int))⟩:V)].length<=ah:=by rw[a4O];have:E.length=k:=hi.1;unfold ah;omega
  have a2:K.length+[i64.wrap (-1-(k:Int))].length<=ah:=by rw[a4O];have:K.length=k:=hi.2;unfold ah;omega
  exact aP gK (.b (bD hk) (.o a1 (.o a2 (.goG [.gc [0,4,6]] g9))))
 exact aP gK (.b (fC z) .ex)
def chD(s o:LI0)(c w:Int)(z:Nat):Dg:=⟨s,o,chE w z,[⟨c,chK z⟩],0⟩
theorem acH{n}(hO:Ok n a90){s o c y}(hd:let d:Dg:=⟨s,o,y.1,[⟨c,y.2⟩],0⟩;FI d/\d.aj.length<=ah/\d.aB.length<=2^20/\d.aK.length<=ah/\(((bI d).2 != 0)=false->ClP (bI d).1)) :jf n (.fn 108 [] []) [.agg (cCh s o)] (hCh c y) ((dJ (a2 dA iA)).put (Am ⟨s,o,y.1,[⟨c,y.2⟩],0⟩)) [.gone,.gone,.gone]:=by
 obtain⟨h1,h2,h3,h4,h5⟩:=hd;have k0:jf n (.fn 108 [] []) [.agg (⟨s,o,y.1,[⟨c,y.2⟩],0⟩:Dg).ps] [] ((dJ (a2 dA iA)).put (Am ⟨s,o,y.1,[⟨c,y.2⟩],0⟩)) []:=nN.YV hX (first:=[]) (cap:=[]) (hO 108 [.agg (⟨s,o,y.1,[⟨c,y.2⟩],0⟩:Dg).ps] ((dJ (a2 dA iA)).put (Am ⟨s,o,y.1,[⟨c,y.2⟩],0⟩)) [] _ (by kernel_rfl) (fun p h=>by
  rcases a1G.1 h with rfl|h
  .exact h1
  rcases a1G.1 h with rfl|h
  .exact h2
  rcases a1G.1 h with rfl|h
  .exact h3
  rcases a1G.1 h with rfl|h
  .exact h4
  rw[a2p.1 h];exact h5)) rfl rfl rfl rfl
 have k1:=dI.frame hX (ks:=[]) (H':=[.gone,.gone,.gone]) (Hp:=[]) (S9:=[]) (v':=(dJ (a2 dA iA)).put (Am ⟨s,o,y.1,[⟨c,y.2⟩],0⟩)) (fv':=.fn 108 [] []) (xs':=[.agg (⟨s,o,y.1,[⟨c,y.2⟩],0⟩:Dg).ps]) k0 (by decide) rfl rfl rfl rfl rfl rfl rfl;exact dI.cell1 hX (H:=hCh c y) (TT:=[lI s,lI o,.own 1]) (ws1:=[lI s,lI o,lV y.1]) (cs:=[.int .i64 c,.own 2]) (EO:=[.int .i64 0]) (ws2:=[.int .i64 0]) (i:=0) (e:=105) (sz:=2) (row:=(⟨c,y.2⟩:Br)) [1,2] rfl (by kernel_rfl) (by decide) rfl rfl k1 rfl rfl rfl (fun j hj=>by simp[lG.kT,lG]at hj ⊢;omega) (fun j hj=>by simp[lG.kT,lG]at hj ⊢;omega) (fun j hj=>by simp[lG.kT,lG]at hj)
open Go Tw Pv bV
theorem acI(w z):(chE w z).length=z:=by simp[chE]
theorem acJ(z):(chK z).length=z:=by simp[chK]
structure ChP(s o:LI0)(c w:Int)(z:Nat):Prop where
 f:bg s o=0
 ic:gV c s.length
 ez:s.getD c.toNat 0=(z:Int)
 z12:z<=12
 w0:-9999<=w
 w1:w+z<=10000
section
variable{s o:LI0}{c w:Int}{z:Nat}(h:ChP s o c w z)
include h
theorem acK{v}(hv:v∈chE w z):∃j,j<z/\v=⟨0,w+(j:Int)⟩:=by unfold chE at hv;obtain⟨j,hj,rfl⟩:=a1z.1 hv;have:=a5D.1 hj;have:=h.w0;have:=h.w1;have:=h.z12;exact⟨j,by omega,by rw[wrap_small (by omega) (by omega)]⟩
theorem acL{k}(hk:k<z):(chK z).getD k 0=-1-(k:Int):=by have:=h.z12;unfold chK;rw[a4h,a5F,ab8 hk];show i64.wrap (-1-(k:Int))=_;rw[wrap_small (by omega) (by omega)]
theorem ahT:∀v∈chE w z,zG v:=fun v hv=>by obtain⟨j,hj,rfl⟩:=acK h hv;have:=h.w0;have:=h.w1;exact jQ.2 ⟨by show(0:Int)<=0;omega,by show(0:Int)<=4;omega,fun _=>⟨by show -9999<=w+(j:Int);omega,by show w+(j:Int)<=9999;omega⟩,fun hz=>absurd rfl hz⟩
theorem anv:FI (chD s o c w z):=⟨fun i hi k hk=>by
 have:i=0:=by have:i<1:=hi;omega
 subst this;have hk3:k<z:=by rw[<-acJ z];exact hk
 show Hg ((chK z).getD k 0);rw[acL h hk3,<-wrap_small (z:=-1-(k:Int)) (by have:=h.z12;omega) (by omega)];exact QW _,by show Hg 0;rw[<-wrap_small (z:=0) (by omega) (by omega)];exact QW _,fun v hv=>(ahT h v hv).2⟩
theorem acM:FI (chD s o c w z)/\(chD s o c w z).aj.length<=ah/\(chD s o c w z).aB.length<=2^20/\(chD s o c w z).aK.length<=ah/\(((bI (chD s o c w z)).2 != 0)=false->ClP (bI (chD s o c w z)).1):=by
 obtain⟨bP,ord⟩:=iR.1 h.f;have hr:=anv h;have h6:s.length<=6:=bP.len;have RN:o.length=s.length:=by unfold ku at ord;rw[a1F]at ord;exact ord.1
 have hl:=acI w z;have hz:=h.z12;have e1:(chD s o c w z).aK.length+1<=ah:=by show(chE w z).length+1<=ah;rw[hl];unfold ah;omega
 have e2:(chD s o c w z).aj.length<=ah:=by show s.length<=ah;unfold ah;omega
 refine⟨hr,e2,by show o.length<=2^20;omega,by omega,fun h0=>?_⟩;obtain⟨q1,q2⟩:=yh hr e1 e2 (by show o.length<=ah;unfold ah;omega) (by simpa using h0);rw[q1];exact q2
end
def Rq(p:LI0×LI0×Int×Int):Dg×Int:=if(bg p.1 p.2.1 != 0)=true then(iy,bg p.1 p.2.1)else if(!(Ol 0 (i64.wrap ((p.1.length:Int)-1)) p.2.2.1))=true then(iy,3)else if(!(Ol (-9999) (i64.wrap (i64.wrap (9999-p.1.getD p.2.2.1.toNat 0)+1)) p.2.2.2))=true then(iy,3)else Am (chD p.1 p.2.1 p.2.2.1 p.2.2.2 (p.1.getD p.2.2.1.toNat 0).toNat)
theorem ahU{a b x}(h:(!(Ol a b x))=false):a<=x/\x<=b:=by
 unfold Ol at h;by_cases h1:x>=a
 .simp[h1]at h;exact⟨h1,h⟩
 simp[h1]at h
theorem ahV{s o c w}(e1:(bg s o != 0)=false)(hc:gV c s.length)(e3:(!(Ol (-9999) (i64.wrap (i64.wrap (9999-s.getD c.toNat 0)+1)) w))=false):ChP s o c w (s.getD c.toNat 0).toNat:=by
 have f:bg s o=0:=by simpa using e1
 obtain⟨bP,ord⟩:=iR.1 f;have hz:=bP.sz (s.getD c.toNat 0) (dF (show c.toNat<s.length by obtain⟨a,b⟩:=hc;omega));obtain⟨z0,z1⟩:=hz;obtain⟨w0,w1⟩:=ahU e3;rw[wrap_small (z:=9999-s.getD c.toNat 0) (by omega) (by omega),wrap_small (by omega) (by omega)]at w1;exact⟨f,hc,by omega,by omega,w0,by omega⟩
def ahW:fV aG:=bU 57 (a4 qF qF iA iA) (dJ (a2 dA iA)) Rq (fun p=>[p.1.length<=ah,p.2.1.length<=2^20]) anu
theorem asH:Gd ahW:=Good.Y7 0 asF aeO fun n hn hO Fb p hp=>by obtain⟨s,o,c,w⟩:=p;have h1:s.length<=ah:=hp _ iC;have h2:o.length<=2^20:=hp _ yC;have hc:(!(Ol 0 (i64.wrap ((s.length:Int)-1)) c))=false->gV c s.length:=fun e2=>a9x e2 h1;have hP:=fun(e1:(bg s o != 0)=false) (e2:(!(Ol 0 (i64.wrap ((s.length:Int)-1)) c))=false) (e3:(!(Ol (-9999) (i64.wrap (i64.wrap (9999-s.getD c.toNat 0)+1)) w))=false)=>ahV e1 (hc e2) e3;have lp:=fun(e1:(bg s o != 0)=false) (e2:(!(Ol 0 (i64.wrap ((s.length:Int)-1)) c))=false) (e3:(!(Ol (-9999) (i64.wrap (i64.wrap (9999-s.getD c.toNat 0)+1)) w))=false)=>lCh (n:=n) (s:=s) (o:=o) (c:=c) (w:=w) (hP e1 e2 e3).z12 (hP e1 e2 e3).ez;have s1:=fun(e1:(bg s o != 0)=false) (e2:(!(Ol 0 (i64.wrap ((s.length:Int)-1)) c))=false) (e3:(!(Ol (-9999) (i64.wrap (i64.wrap (9999-s.getD c.toNat 0)+1)) w))=false)=>acH (n:=n) (Fb n (by omega)) (s:=s) (o:=o) (c:=c) (y:=(chE w (s.getD c.toNat 0).toNat,chK (s.getD c.toNat 0).toNat)) (acM (hP e1 e2 e3));show nN X0 Qp _ _ _ ((dJ (a2 dA iA)).put (if(bg s o != 0)=true then(iy,bg s o)else if(!(Ol 0 (i64.wrap ((s.length:Int)-1)) c))=true then(iy,3)else if(!(Ol (-9999) (i64.wrap (i64.wrap (9999-s.getD c.toNat 0)+1)) w))=true then(iy,3)else Am (chD s o c w (s.getD c.toNat 0).toNat))) _;exact aN (hO n (by omega)) (.o h1 (.o h2 (.sh (fun _=>rE _) fun e1=>.sh (fun _=>rE _) fun e2=>.o (hc e2) (.sh (fun _=>rE _) fun e3=>.a (.PL [] [] (.nil .aO) []) (.o (hc e2) (.wG [.a4l 1 2 39,.Vu 0 1 3] (lp e1 e2 e3) (.fr [0,1,2] (s1 e1 e2 e3) .rr)))))))
open Go Tw Pv bV
structure a5w(d:Dg):Prop where
 t:D5 d
 n:d.au.length<=6000
 l:bn d=0
 f:wo d.aj
 o:d.aB.length<=ah
 e:d.aK.length<=ah
def gLs(d:Dg)(k:Nat)(l:List V):List V:=l++[mW d (gq d.aj k)]
theorem ahX(d):aT (gLs d) (wI d.aj) 0 []=cellsD d:=by have:=dB (g:=gLs d) (m:=wI d.aj) (k:=0) (s:=[]) (fun k l=>l=(List.range k).map fun(k:Nat)=>mW d (gq d.aj k)) rfl (fun j l _ _ e=>by rw[gLs,e,aeE,a4V];rfl);rw[a3O]at this;exact this
abbrev wLs(d:Dg)(y:List V)(i:Int)(x:List (Nat×PE aG)):bT aG:=⟨[(1,.loc 0 0),(3,.val (.own 0)),(4,xi i)]++x,[d.ps],[.list false false 39 y]⟩
theorem lLs{n}(hO:Ok n ahW)(d)(h:a5w d):Ob n 44 0 0 (wLs d [] 0 []) (.exit 0) (wLs d (cellsD d) (wI d.aj) [(12,xl false)]):=by
 have hs:d.aj.length<=ah:=by have:=h.f.len;unfold ah;omega
 have hc:wI d.aj<=ah:=by have:=h.f.wI;have:=h.f.adB;have:=h.f.many;unfold ah;omega
 rw[<-ahX d];refine wK (σ:=List V) (N:=wI d.aj) (g:=gLs d) (s0:=[]) (st:=fun i y=>wLs d y i []) (fin:=fun y=>wLs d y (wI d.aj) [(12,xl false)]) (fun k y=>y.length=k) (by kernel_rfl) hc rfl (fun j y hj hy=>by simp[gLs,hy]) (fun j y hj hy m e p g9=>?_) (fun y _=>?_)
 .have h2:y.length+[mW d (gq d.aj j)].length<=ah:=by rw[hy,a4O];omega
  exact aP hO (.o hs (.b (h.f.lt hj) (.o hs (.o h.f.sz (.o (show(0:Int)<=(j:Int) by omega) (.o (show(j:Int)<2^62 by unfold ah at hc;omega) (.o h.t (.o h.n (.o (uK (j:Int) h.f.sz) (.o h2 (.goG [.gc [2]] g9)))))))))))
 exact aP hO (.o hs (.b h.f.no .ex))
def anx:fV aG:=bU 44 (a1 dA) vsA cellsD (fun d=>[a5w d]) ahW
theorem asI:Gd anx:=asH.add fun n hO p hp=>by
 have h:a5w p:=hp _ iC;have hb:(bn p != 0)=false:=by rw[h.l];rfl
 exact aN hO (.o h.o (.o h.e (.b hb (.wG [.IE 3 39] (lLs (n:=n) hO p h) .rr))))
def anz:fV aG:=bU 81 (a1 qF) qF (fun p=>p) (fun p=>[p.length<=ah]) anx
theorem asJ:Gd anz:=asI.add fun n hO p hp=>aN hO (.o (hp _ iC) .rr)
def anB:fV aG:=bU 82 (a1 vsA) vsA (fun p=>p) (fun p=>[p.length<=ah]) anz
theorem asK:Gd anB:=asJ.add fun n hO p hp=>aN hO (.o (hp _ iC) .rr)
def anC:fV aG:=bU 56 (a1 qF) qF (fun p=>p) (fun p=>[p.length<=ah]) anB
theorem asL:Gd anC:=asK.add fun n hO p hp=>aN hO (.o (hp _ iC) .rr)
def ahY:fV aG:=bU 48 (a1 iA) vA (fun p=>(⟨0,p⟩:V)) np anC
theorem asM:Gd ahY:=asL.add fun n hO p hp=>aN hO .rr
open Go Tw Pv bV
structure Et(d:Dg):Prop where
 s:d.aj.length<=ah
 o:d.aB.length<=ah
 e:d.aK.length<=ah
 n:d.au.length<=ah
 k:∀b∈d.au,b.aA.length<=ah
abbrev ahZ(a b:Dg)(i:Int)(x:List (Nat×PE aG)):bT aG:=⟨[(2,.loc 0 0),(3,.loc 1 0),(5,xi i)]++x,[a.ps,b.ps],[]⟩
def a1h(a b:Dg)(k:Nat):Bool:=if((a.au.getD k lD).var != (b.au.getD k lD).var)=true then true else !(decide ((a.au.getD k lD).aA=(b.au.getD k lD).aA))
def ai0(a b:Dg):Unit⊕Nat->Ex×bT aG
 |.inl _=>(.exit 0,ahZ a b a.au.length [(48,xl false)])
 |.inr _=>(.ret,⟨[(4,xl false)],[a.ps,b.ps],[]⟩)
theorem anD{n}(hO:Ok n ahY){a b}(h:Et a)(hl:a.au.length=b.au.length):Lp n 72 0 (ahZ a b 0 []) (ai0 a b (bH (a1h a b) a.au.length)).1 (ai0 a b (bH (a1h a b) a.au.length)).2:=by
 refine jm (st:=fun i _=>ahZ a b i []) (g:=gS (a1h a b)) (out:=ai0 a b) (fun _ _=>True) (by kernel_rfl) h.n trivial (fun k u m hk _ ih=>?_) (fun _ _=>?_)
 .have i1:gV (k:Int) a.au.length:=aH hk;have i2:gV (k:Int) b.au.length:=aH (by omega);have h9:=h.k _ (bQ (d:=lD) hk);unfold gS a1h;cases e1:((a.au.getD k lD).var != (b.au.getD k lD).var)
  .exact aP hO (.b (bD hk) (.o i1 (.o i2 (.b e1 (.o i1 (.o i2 (.o h9 (.ls (.ou nofun) (.nx (ih _ trivial))))))))))
  exact aP hO (.b (bD hk) (.o i1 (.o i2 (.b e1 (.ou nofun)))))
 exact aP hO (.b (fC a.au.length) (.ou nofun))
def WV(a b:Dg):Bool:=if(!(decide (a.aj=b.aj)))=true then false else if(!(decide (a.aB=b.aB)))=true then false else if(!(decide (a.aK=b.aK)))=true then false else if((a.au.length:Int) != (b.au.length:Int))=true then false else if(a.root != b.root)=true then false else if jS (bH (a1h a b) a.au.length)=true then true else false
def anE:fV aG:=bU 72 (a2 dA dA) tA (fun p=>WV p.1 p.2) (fun p=>[Et p.1]) ahY
theorem asN:Gd anE:=asM.add fun n hO p hp=>aN hO (.o (show Et p.1 from hp _ iC).s (.ss .rr (.o (show Et p.1 from hp _ iC).o (.ss .rr (.o (show Et p.1 from hp _ iC).e (.ss .rr (.sh (fun _=>.rr) fun h4=>.ss .rr (.zh (fun h=>.w (kX (anD hO (show Et p.1 from hp _ iC) (show p.1.au.length=p.2.au.length by simp at h4;omega)) () h) .rr) fun h=>.w (kY (anD hO (show Et p.1 from hp _ iC) (show p.1.au.length=p.2.au.length by simp at h4;omega)) 0 h) .rr))))))))
def anF:fV aG:=bU 25 (a3 dA iA dA) tA (fun p=>(if(p.2.1==0)=true then WV p.1 p.2.2 else false)) (fun p=>[Et p.1]) anE
theorem asO:Gd anF:=asN.add fun n hO p hp=>aN hO (.ss (.o (hp _ iC) .rr) .rr)
def WW(s o:LI0):Bool:=if decide ((s.length:Int)>8)=true then false else if decide ((o.length:Int)>8)=true then false else if(bg s o != 0)=true then true else decide (Gi s<=200)
def ai1:fV aG:=bU 54 (a2 qF qF) tA (fun p=>WW p.1 p.2) np anF
theorem asP:Gd ai1:=asO.add fun n hO p hp=>aN hO (.sh (fun _=>.rr) fun h1=>.sh (fun _=>.rr) fun h2=>.o (show p.2.length<=ah by simp at h2;unfold ah;omega) (.ss .rr (.o (show p.1.length<=ah by simp at h1;unfold ah;omega) .rr)))
open Go Tw Pv bV
abbrev wCp(d:Dg)(acc:List Br)(i:Int)(x:List (Nat×PE aG)):bT aG:=⟨[(1,.loc 0 0),(2,.loc 1 0),(3,.loc 2 0),(4,xi i)]++x,[d.ps,[.nil .aO,.nil .aO,.nil .aO,.nil .aO,.int .i64 0],[lI d.aj,lI d.aB,lV d.aK,.own 0,.int .i64 d.root]],[.list false false 105 acc]⟩
theorem lCp{n d}(hO:Ok n ai1)(h:Et d):Lp n 21 0 (wCp d [] 0 []) (.exit 0) (wCp d d.au d.au.length [(21,xl false)]):=by
 have e:aT (fun k (a:List Br)=>a++[d.au.getD k lD]) d.au.length 0 []=d.au:=by rw[Qi,KT d.au lD fun r=>r,List.map_id']
 rw[show wCp d d.au d.au.length [(21,xl false)]=wCp d (aT (fun k (a:List Br)=>a++[d.au.getD k lD]) d.au.length 0 []) d.au.length [(21,xl false)] by rw[e]];refine wK (σ:=List Br) (N:=d.au.length) (g:=fun k (a:List Br)=>a++[d.au.getD k lD]) (s0:=([]:List Br)) (st:=fun i a=>wCp d a i []) (fin:=fun a=>wCp d a d.au.length [(21,xl false)]) (fun k a=>a.length=k) (by kernel_rfl) h.n rfl (fun k a _ h=>by simp[h]) (fun k a hk ha m e p g9=>?_) (fun a _=>?_)
 .have hm:=h.k (d.au.getD k lD) (bQ hk);have hn:=h.n;have hal:a.length+[d.au.getD k lD].length<=ah:=by have:a.length=k:=ha;rw[a4O];omega
  exact aP hO (.b (bD hk) (.o (aH hk) (.o (aH hk) (.o hm (.o hal (.goG [.gc [2]] g9))))))
 exact aP hO (.b (fC d.au.length) .ex)
def ai2:fV aG:=bU 21 (a1 dA) dA (fun p=>p) (fun p=>[Et p]) ai1
theorem asQ:Gd ai2:=asP.add fun n hO p hp=>aN hO (.o (show Et p from hp _ iC).s (.o (show Et p from hp _ iC).o (.o (show Et p from hp _ iC).e (.wG [.a4l 2 3 105] (lCp hO (hp _ iC)) .rr))))
abbrev wTh(d:Dg)(i:Int)(x:List (Nat×PE aG)):bT aG:=⟨[(1,.loc 0 0),(3,xi i)]++x,[d.ps],[]⟩
def cTh(d:Dg)(k:Nat):Bool:=decide (((d.au.getD k lD).aA.length:Int)>14)
def zTh(d:Dg):Unit⊕Nat->Ex×bT aG
 |.inl _=>(.exit 0,wTh d d.au.length [(26,xl false)])
 |.inr _=>(.ret,⟨[(2,xl false)],[d.ps],[]⟩)
theorem lTh{n}(hO:Ok n ai2){d}(h:d.au.length<=ah):Lp n 18 0 (wTh d 0 []) (zTh d (bH (cTh d) d.au.length)).1 (zTh d (bH (cTh d) d.au.length)).2:=by
 refine jm (st:=fun i _=>wTh d i []) (g:=gS (cTh d)) (out:=zTh d) (fun _ _=>True) (by kernel_rfl) h trivial (fun k u m hk _ ih=>?_) (fun _ _=>?_)
 .unfold gS cTh;exact aP hO (.b (bD hk) (.o (aH hk) (.ls (.ou nofun) (.nx (ih _ trivial)))))
 exact aP hO (.b (fC d.au.length) (.ou nofun))
def Eu(d:Dg):Bool:=if(!(WW d.aj d.aB))=true then false else if decide ((d.aK.length:Int)>40)=true then false else if decide ((d.au.length:Int)>60)=true then false else if jS (bH (cTh d) d.au.length)=true then true else false
def anH:fV aG:=bU 18 (a1 dA) tA (fun p=>Eu p) np ai2
theorem asU:Gd anH:=asQ.add fun n hO p hp=>aN hO (.ss .rr (.ss .rr (.sh (fun _=>.rr) fun h3=>.zh (fun h=>.w (kX (lTh hO (show p.au.length<=ah by simp at h3;unfold ah;omega)) () h) .rr) fun h=>.w (kY (lTh hO (show p.au.length<=ah by simp at h3;unfold ah;omega)) 0 h) .rr)))
theorem Ew{d}(h:Eu d=true):Et d/\d.aj.length<=8/\d.aB.length<=8/\d.aK.length<=40/\d.au.length<=60:=by
 unfold Eu at h;split at h
 .cases h
 rename_i h1;split at h
 .cases h
 rename_i h2;split at h
 .cases h
 rename_i h3;split at h
 .rename_i h4;have h1:WW d.aj d.aB=true:=by simpa using h1
  unfold WW at h1;split at h1
  .cases h1
  rename_i q1;split at h1
  .cases h1
  rename_i q2;simp at h2 h3 q1 q2;refine⟨⟨by unfold ah;omega,by unfold ah;omega,by unfold ah;omega,by unfold ah;omega,fun b hb=>?_⟩,by omega,by omega,by omega,by omega⟩;obtain⟨k,hk,e⟩:=aaf hb;have:=dD.1 h4 k hk;unfold cTh at this;rw[a4h,a0N hk,a6b,e]at this;simp at this;unfold ah;omega
 cases h
open Go Tw Pv bV
def dX:Dg:=⟨[2,3],[0,1],[⟨0,1⟩,⟨0,2⟩],[⟨0,[-1,-2]⟩],0⟩
def dY:Dg:=⟨[2,3],[0,1],[⟨0,0⟩,⟨0,1⟩,⟨0,2⟩],[⟨1,[-1,-2,-3]⟩],0⟩
def cL(l:LI0):List V:=l.map fun n=>⟨0,n⟩
theorem a5x:Rq ([2,3],[0,1],0,1)=(dX,0):=by kernel_rfl
def dIf:Dg:=(Jw (dY,dX,dY)).1
theorem anI:(Jw (dY,dX,dY)).2=0/\gU dIf=0/\cellsD dIf=cL [0,1,1,0,2,2]:=⟨by kernel_rfl,by kernel_rfl,by kernel_rfl⟩
def dRs:Dg:=(N7 (dY,1,2)).1
theorem ai4:(N7 (dY,1,2)).2=0/\gU dRs=0/\cellsD dRs=cL [2,2,2,2,2,2]:=⟨by kernel_rfl,by kernel_rfl,by kernel_rfl⟩
def dWh:Dg:=(l7 dY).1
theorem a9N:(l7 dY).2=0/\gU dWh=0/\cellsD dWh=cL [0,1,0,0,1,0]:=⟨by kernel_rfl,by kernel_rfl,by kernel_rfl⟩
theorem acN:WU (dY,⟨0,2⟩)=(2,0):=by kernel_rfl
theorem a9O:JA (dX,⟨0,2⟩)=([1,0],0):=by kernel_rfl
def Hy:Dg:=(o7 (10,dX,dY)).1
theorem ai5:(o7 (10,dX,dY)).2=0:=by kernel_rfl
def dLe:Dg:=(o7 (14,dX,dY)).1
theorem anJ:(o7 (14,dX,dY)).2=0:=by kernel_rfl
theorem acO:a3w ([dX,dY],dLe)=(⟨8,false,false,2,0,0,false,[0]⟩,0):=by kernel_rfl
def WX:List (V×Int):=fB (bF [Hy,dX])
theorem anK:nC WX=[0,1]:=by
 have e:((WX.filter fun e=>!decide (e.1.f>0)).map fun e=>e.1.n)=[0,1]:=by kernel_rfl
 unfold nC;rw[e];unfold iw;exact List.mergeSort_of_pairwise (by simp)
theorem ai7:a3v (4,Hy,dX)=(⟨4,false,false,0,0,1,true,[]⟩,0):=by
 have e1:aU [Hy,dX]=0:=by kernel_rfl
 have e2:vT WX=true:=by kernel_rfl
 have e3:WX≠[]:=by
  intro h;have h2:WX.length=0:=by rw[h];rfl
  have h3:WX.length=3:=by kernel_rfl
  omega
 show(if(aU [Hy,dX] != 0)=true then(Xa,aU [Hy,dX])else Hw 4 WX)=_;rw[e1];show Hw 4 WX=_;unfold Hw;rw[a0U e3];show(if nC WX=[]then _ else _)=_;rw[anK,e2];rfl
open Go Tw Pv bV
def ai8:fV aG:=bU 73 agl (dJ (a2 dA dA)) (fun p=>(dX,dY)) np anH
theorem asV:Gd ai8:=asU.add fun n hO p hp=>aN hO .rr
abbrev anP(a:An):List (PV aG):=[.int .u8 a.q,.bool a.none,.bool a.yes,.int .i64 a.n,.int .i64 a.lo,.int .i64 a.hi,.bool a.fault,lI a.set,.nil .aO]
abbrev wSa(a b:An)(i:Int)(x:List (Nat×PE aG)):bT aG:=⟨[(2,.loc 0 0),(3,.loc 1 0),(5,xi i)]++x,[anP a,anP b],[]⟩
theorem lSa{n}(hO:Ok n ai8){a b}:Lp n 35 0 (wSa a b 0 []) (.exit 0) (wSa a b 0 [(74,xl false)]):=by have:=Qg (X:=X0) (P:=Qp) (T:=T) (L:=LL) (call:=iD n) (f:=35) (iF:=false) (nt:=D9 Qp 35) (B:=0) (b:=U3 Qp 35 0) (σ:=Unit) (N:=0) (g:=fun _ s=>s) (s0:=()) (st:=fun i _=>wSa a b i []) (fin:=fun _=>wSa a b 0 [(74,xl false)]) (w:=wSa a b 0 []) (e:=.exit 0) (fun _ _=>True) (by kernel_rfl) (a5S _) Uk trivial (fun _ _ _ _=>trivial) (fun k s hk=>absurd hk (ais _)) (fun s _=>aP hO (.b (rfl:decide ((0:Int)<0)=false) .ex));exact this
def acP(a b:An):Bool:=if(a.q != b.q)=true then false else if(!(a.none==b.none))=true then false else if(!(a.yes==b.yes))=true then false else if(a.n != b.n)=true then false else if(a.lo != b.lo)=true then false else if(a.hi != b.hi)=true then false else if(!(a.fault==b.fault))=true then false else if(!(decide (a.set=b.set)))=true then false else true
def ai9:fV aG:=bU 35 (a2 ZB ZB) tA (fun p=>acP p.1 p.2) (fun p=>[p.1.set.length<=ah]) ai8
theorem asW:Gd ai9:=asV.add fun n hO p hp=>aN hO (.ss .rr (.ss .rr (.ss .rr (.ss .rr (.ss .rr (.ss .rr (.ss .rr (.o (hp _ iC) (.ss .rr (.b (rfl:((0:Int) != 0)=false) (.w (lSa (a:=p.1) (b:=p.2) hO) .rr)))))))))))
open Go Tw Pv bV
theorem Oo{d}(ho:d.aB.length<=ah)(he:d.aK.length<=ah)(h:(gU d==0)=true):a5w d:=by
 have h:gU d=0:=by simpa using h
 have h0:bn d=0:=by
  unfold gU at h;split at h
  .rename_i c;rw[h]at c;cases c
  rename_i c;simpa using c
 obtain⟨t,n⟩:=jo ho he (by rw[h0];rfl);exact⟨t,n,h0,t.bP,ho,he⟩
abbrev wLz(d:Dg)(e:Int)(l:LI0)(acc:List V)(i:Int)(x:List (Nat×PE aG)):bT aG:=⟨[(1,xi e),(2,xL 3 l),(3,.loc 0 0),(7,.val (.own 0)),(8,xi i)]++x,[d.ps],[.list false false 39 acc]⟩
theorem lLz{n}(hO:Ok n ai9)(d e){l}(hl:l.length<=1000):Lp n 74 0 (wLz d e l [] 0 []) (.exit 0) (wLz d e l (cL l) l.length [(12,xl false)]):=by
 have e1:aT (fun k (a:List V)=>a++[(⟨0,l.getD k 0⟩:V)]) l.length 0 []=cL l:=by rw[Qi,KT l 0 fun r=>(⟨0,r⟩:V)];rfl
 rw[<-e1];refine wK (σ:=List V) (N:=l.length) (g:=fun k (a:List V)=>a++[(⟨0,l.getD k 0⟩:V)]) (s0:=([]:List V)) (st:=fun i a=>wLz d e l a i []) (fin:=fun a=>wLz d e l a l.length [(12,xl false)]) (fun k a=>a.length=k) (by kernel_rfl) (by unfold ah;omega) rfl (fun k a _ h=>by simp[h]) (fun k a hk ha m e p g9=>?_) (fun a _=>?_)
 .have hal:a.length+[(⟨0,l.getD k 0⟩:V)].length<=ah:=by have:a.length=k:=ha;rw[a4O];unfold ah;omega
  exact aP hO (.b (bD hk) (.o (aH hk) (.o hal (.goG [.gc [2]] g9))))
 exact aP hO (.b (fC l.length) .ex)
def anM(p:Dg×Int×LI0):Bool:=if(p.2.1==0)=true then(if(gU p.1==0)=true then decide (cellsD p.1=cL p.2.2)else false)else false
def acQ:fV aG:=bU 74 (a3 dA iA qF) tA (fun p=>anM p) (fun p=>[p.1.aB.length<=ah,p.1.aK.length<=ah,p.2.2.length<=1000,(cellsD p.1).length<=ah]) ai9
theorem asX:Gd acQ:=asW.add fun n hO p hp=>aN hO (.wG [.IE 7 39] (lLz hO p.1 p.2.1 (hp _ hh2)) (.ss (.o (hp _ iC) (.o (hp _ yC) (.sh (fun h=>.o (Oo (hp _ iC) (hp _ yC) h) (.o (hp _ (.tail _ (.tail _ (.tail _ (.head _))))) .rr)) (fun _=>.rr)))) .rr))
open Go Tw Pv bV
theorem WY{d}(h:((d.au.all fun n=>n.aA.all fun k=>decide (-1000<=k)&&decide (k<=1000))&&(decide (-1000<=d.root)&&decide (d.root<=1000))&&(d.aK.all fun v=>decide (0<=v.f))&&(decide (d.aj.length<=100)&&decide (d.aB.length<=100)&&decide (d.aK.length<=100)))=true):kM d:=by
 simp only[a2K,a1F,a5L]at h;obtain⟨⟨⟨h1,h2⟩,h3⟩,⟨h4,h5⟩,h6⟩:=h;refine⟨⟨fun i hi k hk=>?_,?_,h3⟩,by unfold ah;omega,by omega,by unfold ah;omega⟩
 .have h7:=h1 _ (bQ (d:=(⟨0,[]⟩:Br)) hi) _ (bQ (d:=(0:Int)) hk);show Hg ((fE d i).aA.getD k 0);unfold Hg;have h8:((d.au.getD i ⟨0,[]⟩).aA.getD k 0)=(fE d i).aA.getD k 0:=rfl;rw[h8]at h7;omega
 unfold Hg;omega
theorem pX:kM dX:=WY (by kernel_rfl)
theorem pY:kM dY:=WY (by kernel_rfl)
theorem a9P:kM Hy:=WY (by kernel_rfl)
theorem pLe:kM dLe:=WY (by kernel_rfl)
abbrev dvA(d:Dg):PV aG:=(dJ (a2 dA iA)).put (d,0)
theorem aia:(dRs,(0:Int))=N7 (dY,1,2):=abk rfl ai4.1.symm
theorem a9Q:(dWh,(0:Int))=l7 dY:=abk rfl a9N.1.symm
theorem aib:(Hy,(0:Int))=o7 (10,dX,dY):=abk rfl ai5.symm
theorem anO:(dLe,(0:Int))=o7 (14,dX,dY):=abk rfl anJ.symm
section
variable{n:Nat}(hO:Ok n acQ)
include hO
theorem anQ:jf n (.fn 73 [] []) [] [] ((dJ (a2 dA dA)).put (dX,dY)) []:=
 sN hX hO (f:=73) (first:=[]) (xs:=[]) (cap:=[]) (vs:=[]) (v:=(dJ (a2 dA dA)).put (dX,dY)) (H:=[]) (ps:=[]) rfl (by kernel_rfl) (fun _ h=>by cases h) rfl
theorem acR{j k}:jf n (.fn 57 [] []) [.own 0,.own 1,.int .i64 0,.int .i64 1] [.list j k 3 ([2,3]:LI0),.list j k 3 ([0,1]:LI0)] (dvA dX) [.gone,.gone]:=by unfold dvA;rw[<-a5x];exact sN hX hO (f:=57) (first:=[]) (xs:=[.own 0,.own 1,.int .i64 0,.int .i64 1]) (cap:=[]) (vs:=[.dw 3 ([2,3]:LI0) false,.dw 3 ([0,1]:LI0) false,.int .i64 0,.int .i64 1]) (v:=(dJ (a2 dA iA)).put (Rq ([2,3],[0,1],0,1))) (H:=[.list j k 3 ([2,3]:LI0),.list j k 3 ([0,1]:LI0)]) (ps:=[([2,3]:LI0).length<=ah,([0,1]:LI0).length<=2^20]) rfl (by kernel_rfl) (by simp[ah]) rfl
theorem aIf:jf n (.fn 63 [] []) [.agg dY.ps,.agg dX.ps,.agg dY.ps] [] (dvA dIf) []:=by have e:(dIf,(0:Int))=Jw (dY,dX,dY):=abk rfl anI.1.symm;unfold dvA;rw[e];exact sN hX hO (f:=63) (first:=[]) (cap:=[]) (vs:=[.agg dY.ps,.agg dX.ps,.agg dY.ps]) (v:=(dJ (a2 dA iA)).put (Jw (dY,dX,dY))) (H:=[]) (ps:=[kM dY,kM dX,kM dY]) rfl (by kernel_rfl) (by simp[pX,pY]) rfl
theorem asY:jf n (.fn 20 [] []) [.agg dY.ps,.int .i64 1,.int .i64 2] [] (dvA dRs) []:=by rw[show(dvA dRs:PV aG)=((dJ (a2 dA iA)).put (N7 (dY,1,2)))from by rw[<-aia]];exact sN hX hO (f:=20) (first:=[]) (xs:=[.agg dY.ps,.int .i64 1,.int .i64 2]) (cap:=[]) (vs:=[.agg dY.ps,.int .i64 1,.int .i64 2]) (v:=((dJ (a2 dA iA)).put (N7 (dY,1,2)))) (H:=[]) (ps:=[kM dY]) rfl (by kernel_rfl) (by simp[pX,pY,a9P,pLe]) rfl
theorem aic:jf n (.fn 67 [] []) [.agg dY.ps] [] (dvA dWh) []:=by rw[show(dvA dWh:PV aG)=((dJ (a2 dA iA)).put (l7 dY))from by rw[<-a9Q]];exact sN hX hO (f:=67) (first:=[]) (xs:=[.agg dY.ps]) (cap:=[]) (vs:=[.agg dY.ps]) (v:=((dJ (a2 dA iA)).put (l7 dY))) (H:=[]) (ps:=[kM dY]) rfl (by kernel_rfl) (by simp[pX,pY,a9P,pLe]) rfl
theorem anR:jf n (.fn 27 [] []) [.agg dY.ps,.agg (⟨0,2⟩:V).ps] [] ((dJ (a2 iA iA)).put (2,0)) []:=by rw[show((dJ (a2 iA iA)).put (2,0):PV aG)=((dJ (a2 iA iA)).put (WU (dY,⟨0,2⟩)))from by rw[acN]];exact O8 hX hO (f:=27) (first:=[]) (xs:=[.agg dY.ps,.agg (⟨0,2⟩:V).ps]) (cap:=[]) (vs:=[.agg dY.ps,.agg (⟨0,2⟩:V).ps]) (v:=((dJ (a2 iA iA)).put (WU (dY,⟨0,2⟩)))) (H:=[]) (ps:=[kM dY]) rfl (by kernel_rfl) (by simp[pY]) rfl
theorem aie:jf n (.fn 28 [] []) [.agg dX.ps,.agg (⟨0,2⟩:V).ps] [] ((dJ (a2 qF iA)).put ([1,0],0)) []:=by rw[show((dJ (a2 qF iA)).put ([1,0],0):PV aG)=((dJ (a2 qF iA)).put (JA (dX,⟨0,2⟩)))from by rw[a9O]];exact sN hX hO (f:=28) (first:=[]) (xs:=[.agg dX.ps,.agg (⟨0,2⟩:V).ps]) (cap:=[]) (vs:=[.agg dX.ps,.agg (⟨0,2⟩:V).ps]) (v:=((dJ (a2 qF iA)).put (JA (dX,⟨0,2⟩)))) (H:=[]) (ps:=[kM dX]) rfl (by kernel_rfl) (by simp[pX]) rfl
theorem asZ:jf n (.fn 62 [] []) [.int .u8 10,.agg dX.ps,.agg dY.ps] [] (dvA Hy) []:=by rw[show(dvA Hy:PV aG)=((dJ (a2 dA iA)).put (o7 (10,dX,dY)))from by rw[<-aib]];exact sN hX hO (f:=62) (first:=[]) (xs:=[.int .u8 10,.agg dX.ps,.agg dY.ps]) (cap:=[]) (vs:=[.int .u8 10,.agg dX.ps,.agg dY.ps]) (v:=((dJ (a2 dA iA)).put (o7 (10,dX,dY)))) (H:=[]) (ps:=[kM dX,kM dY]) rfl (by kernel_rfl) (by simp[pX,pY,a9P,pLe]) rfl
theorem aLe:jf n (.fn 62 [] []) [.int .u8 14,.agg dX.ps,.agg dY.ps] [] (dvA dLe) []:=by rw[show(dvA dLe:PV aG)=((dJ (a2 dA iA)).put (o7 (14,dX,dY)))from by rw[<-anO]];exact sN hX hO (f:=62) (first:=[]) (xs:=[.int .u8 14,.agg dX.ps,.agg dY.ps]) (cap:=[]) (vs:=[.int .u8 14,.agg dX.ps,.agg dY.ps]) (v:=((dJ (a2 dA iA)).put (o7 (14,dX,dY)))) (H:=[]) (ps:=[kM dX,kM dY]) rfl (by kernel_rfl) (by simp[pX,pY,a9P,pLe]) rfl
abbrev a9R:An:=⟨4,false,false,0,0,1,true,[]⟩
abbrev af9:An:=⟨8,false,false,2,0,0,false,[0]⟩
theorem at6:jf n (.fn 33 [] []) [.int .u8 4,.agg Hy.ps,.agg dX.ps] [] ((dJ (a2 ZB iA)).put (a9R,0)) []:=by rw[show((dJ (a2 ZB iA)).put (a9R,0):PV aG)=((dJ (a2 ZB iA)).put (a3v (4,Hy,dX)))from by rw[ai7]];exact sN hX hO (f:=33) (first:=[]) (xs:=[.int .u8 4,.agg Hy.ps,.agg dX.ps]) (cap:=[]) (vs:=[.int .u8 4,.agg Hy.ps,.agg dX.ps]) (v:=((dJ (a2 ZB iA)).put (a3v (4,Hy,dX)))) (H:=[]) (ps:=[kM Hy,kM dX]) rfl (by kernel_rfl) (by simp[a9P,pX]) rfl
end
open Go Tw Pv bV
theorem anS{n}(hn:24<=n)(CZ:Ok n acF)(Fb:∀m,n-24<=m->Ok m ru){k}:jf (n+1) (.fn 39 [] []) [.own 0,.agg dLe.ps] [.list k true 26 [dX,dY]] ((dJ (a2 ZB iA)).put (af9,0)) [.list k true 26 [dX,dY]]:=by
 rw[<-acO];exact anr (l:=[dX,dY]) (d:=dLe) hn CZ Fb (fun x h=>by
  rcases a1G.1 h with rfl|h
  .exact pX
  rcases a1G.1 h with rfl|h
  .exact pY
  rw[a2p.1 h];exact pLe) (by show 2<=1000;omega)
theorem anT{n}(hO:Ok n acQ):jf n (.fn 48 [] []) [.int .i64 2] [] (.agg (⟨0,2⟩:V).ps) []:=
 O8 hX hO (f:=48) (first:=[]) (xs:=[.int .i64 2]) (cap:=[]) (vs:=[.int .i64 2]) (v:=.agg (⟨0,2⟩:V).ps) (H:=[]) (ps:=[]) rfl (by kernel_rfl) (fun _ h=>by cases h) rfl
theorem UH{a b:Nat}(h:Nat.ble a b=true):a<=b:=ahA h
theorem at7:Et dX:=⟨UH (by kernel_rfl),UH (by kernel_rfl),UH (by kernel_rfl),UH (by kernel_rfl),fun b h=>by rw[a2p.1 h];exact UH (by kernel_rfl)⟩
def anU:fV aG:=bU 19 agl tA (fun _=>true) np acQ
theorem ata:Gd anU:=Good.a7U 25 asX ank Gm fun n hn hO Fb Zh p hp=>by obtain⟨m,rfl⟩:∃m,n=m+1:=⟨n-1,by omega⟩;have CO:=hO (m+1) (by omega);exact aN CO (.fr [] (anQ CO) (.fr [0,1] (acR CO (j:=true) (k:=true)) (.fr [] (aIf CO) (.fr [] (asY CO) (.fr [] (aic CO) (.fr [] (anT CO) (.fr [] (anR CO) (.fr [] (anT CO) (.fr [] (aie CO) (.fr [] (asZ CO) (.fr [] (at6 CO) (.fr [] (aLe CO) (.fr [2] (anS (k:=true) (by omega) (Fb m (by omega)) (fun k hk=>Zh k (by omega))) (.o at7 (.b (c:=true) (t:=true) rfl (.o (UH (by kernel_rfl):dIf.aB.length<=ah) (.o (UH (by kernel_rfl):dIf.aK.length<=ah) (.o (UH (by kernel_rfl):([0,0,0,0,0,0]:LI0).length<=1000) (.o (UH (by kernel_rfl):(cellsD dIf).length<=ah) (.b (c:=true) (t:=true) rfl (.o (UH (by kernel_rfl):dRs.aB.length<=ah) (.o (UH (by kernel_rfl):dRs.aK.length<=ah) (.o (UH (by kernel_rfl):([0,0,0,0,0,0]:LI0).length<=1000) (.o (UH (by kernel_rfl):(cellsD dRs).length<=ah) (.b (c:=true) (t:=true) rfl (.o (UH (by kernel_rfl):dWh.aB.length<=ah) (.o (UH (by kernel_rfl):dWh.aK.length<=ah) (.o (UH (by kernel_rfl):([0,0,0,0,0,0]:LI0).length<=1000) (.o (UH (by kernel_rfl):(cellsD dWh).length<=ah) (.b (c:=true) (t:=true) rfl (.b (c:=true) (t:=true) rfl (.b (c:=true) (t:=true) rfl (.b (c:=true) (t:=true) rfl (.o (UH (by kernel_rfl):([1,0]:LI0).length<=ah) (.b (c:=true) (t:=true) rfl (.b (c:=true) (t:=true) rfl (.b (c:=true) (t:=true) rfl (.o (UH (by kernel_rfl):a9R.set.length<=ah) (.b (c:=true) (t:=true) rfl (.b (c:=true) (t:=true) rfl (.b (c:=true) (t:=true) rfl (.o (UH (by kernel_rfl):af9.set.length<=ah) .rr))))))))))))))))))))))))))))))))))))))))))
open Go Tw Pv bV
theorem atb:zG V0:=⟨by decide,by decide⟩
theorem a3x{l:List V}(h:∀v∈l,zG v)(i):zG (l.getD i V0):=by
 by_cases c:i<l.length
 .exact h _ (bQ c)
 rw[a4h,a4U (by omega)];exact atb
theorem Zm{d}(h:∀v∈d.aK,zG v):∀v∈cellsD d,zG v:=fun v hv=>by obtain⟨k,_,rfl⟩:=a1z.1 hv;exact a3x h _
theorem Rt(d):(cellsD d).length=wI d.aj:=by simp[cellsD]
theorem aif{d}(h:gU d=0)(ho:d.aB.length<=ah)(he:d.aK.length<=ah):Et d:=by
 have l:=Oo ho he (by rw[h];rfl);have h6:=l.f.len;have n6:=l.n;refine⟨by unfold ah;omega,ho,he,by unfold ah;omega,fun b hb=>?_⟩;obtain⟨i,hi,rfl⟩:=aaf hb;have:=l.t.KW i hi;have e:fE d i=d.au[i]:=by show d.au.getD i lD=_;rw[a4h,a0N hi,a6b]
 rw[e]at this;unfold ah;omega
structure DgF(d:Dg):Prop where
 r:FI d
 k:gU d=0
 f:Et d
 e:d.aK.length<=2000
 o:d.aB.length=d.aj.length
 s:wo d.aj
theorem DgF.p{d}(h:DgF d):kM d:=⟨h.r,h.f.s,by have:=h.o;have:=h.s.len;omega,by have:=h.e;unfold ah;omega⟩
theorem a9T{s o l}(h:OfP s o l)(hv:∀v∈l,zG v):DgF (kL s o l):=by obtain⟨h1,h2,_⟩:=Hq h fun v m=>(hv v m).1;obtain⟨r,k⟩:=ac4 h (fun v m=>(hv v m).1) fun v m=>(hv v m).2;have ho:=h.p.2.2;have h6:=h.bP.len;exact⟨r,k,aif k (by show o.length<=ah;unfold ah;omega) (by unfold ah;omega),h2,ho,h.bP⟩
theorem a5y{J}(hJ:jH J){op}(jr:mY J op):DgF (iL J op):=by rw[(Jt hJ jr).2];exact a9T ⟨hJ.bP,hJ.ord,by rw[Rt];show((wI J.s:Nat):Int)=_;exact hJ.bP.Yd⟩ (Zm (wY hJ jr).2.2)
theorem Oq{d}(h:kM d):aU [d]=gU d:=by
 have e:(vg d).2=gU d:=by rw[En h.r h.s (by have:=h.o;unfold ah;omega) h.e]
 have f:([d].all (wL (([d].getD 0 iy).aj,([d].getD 0 iy).aB)))=true:=by simp[wL]
 unfold aU;rw[f];split
 .rename_i c;have:=dD.1 c 0 (by simp);have h0:gU d=0:=by unfold YW at this;rw[<-e];simpa using this
  rw[h0];rfl
 rename_i c;obtain⟨j,hj,_,_,e2⟩:=BD (by simpa using c);have e2:bH (YW [d]) [d].length=.inr j:=e2;rw[e2];have:j=0:=by have:j<1:=hj;omega
 subst this;exact e
theorem Ey(a):WV a a=true:=by
 have h:jS (bH (a1h a a) a.au.length)=true:=dD.2 fun k _=>by simp[a1h]
 unfold WV;rw[h];simp
theorem a9U{d}(h:Eu d=true)(r:FI d):kM d:=by obtain⟨f,h1,h2,h3,_⟩:=Ew h;exact⟨r,f.s,by omega,by unfold ah;omega⟩
open Go Tw Pv bV
def N8(p:Dg×Dg):Bool:=if decide (p.1.aj=p.2.aj)=true then decide (p.1.aB=p.2.aB)else false
def acS:fV aG:=bU 70 (a2 dA dA) tA (fun p=>N8 p) (fun p=>[p.1.aj.length<=ah,p.1.aB.length<=ah]) anU
theorem atc:Gd acS:=ata.add fun n hO p hp=>aN hO (.o (hp _ iC) (.ss (.o (hp _ yC) .rr) .rr))
theorem a9V(a b):N8 (a,b)=wL (a.aj,a.aB) b:=by
 unfold N8 wL;rw[a5R];by_cases h:a.aj=b.aj
 .by_cases h2:a.aB=b.aB
  .simp[h,h2]
  simp only[h,decide_true,a2r,a1F];exact⟨fun e=>absurd e h2,fun e=>absurd e.symm h2⟩
 have h3:¬b.aj=a.aj:=fun e=>h e.symm;simp[h,h3]
abbrev wCa(l:List Dg)(i:Int)(x:List (Nat×PE aG)):bT aG:=⟨[(0,xL 26 l),(3,xi i)]++x,[],[]⟩
abbrev wCb(l:List Dg)(i:Int)(x:List (Nat×PE aG)):bT aG:=⟨[(0,xL 26 l),(5,xi i)]++x,[],[]⟩
def Zn(l:List Dg)(k:Nat):Bool:=gU (l.getD k iy) != 0
def cA2(l:List Dg)(k:Nat):Bool:=!(N8 (l.getD 0 iy,l.getD k iy))
def zA1(l:List Dg):Unit⊕Nat->Ex×bT aG
 |.inl _=>(.exit 0,wCa l l.length [(9,xl false)])
 |.inr k=>(.ret,⟨[(2,xi (gU (l.getD k iy)))],[],[]⟩)
def zA2(l:List Dg):Unit⊕Nat->Ex×bT aG
 |.inl _=>(.exit 2,wCb l l.length [(23,xl false)])
 |.inr _=>(.ret,⟨[(2,xi 2)],[],[]⟩)
theorem lA1{n}(hO:Ok n acS){l}(hf:∀d∈l,Et d)(hl:l.length<=ah):Lp n 34 0 (wCa l 0 []) (zA1 l (bH (Zn l) l.length)).1 (zA1 l (bH (Zn l) l.length)).2:=by
 refine jm (st:=fun i _=>wCa l i []) (g:=gS (Zn l)) (out:=zA1 l) (fun _ _=>True) (by kernel_rfl) hl trivial (fun k u m hk _ ih=>?_) (fun _ _=>?_)
 .have h:=hf _ (bQ (d:=iy) hk);unfold gS Zn;exact aP hO (.b (bD hk) (.o (aH hk) (.o h.o (.o h.e (.ls (.ou nofun) (.nx (ih _ trivial)))))))
 exact aP hO (.b (fC l.length) (.ou nofun))
theorem lA2{n}(hO:Ok n acS){l}(hf:∀d∈l,Et d)(h0:0<l.length)(hl:l.length<=ah):Lp n 34 1 (wCb l 1 []) (zA2 l (kZ (gS (cA2 l)) (l.length-1) 1 ())).1 (zA2 l (kZ (gS (cA2 l)) (l.length-1) 1 ())).2:=by
 refine a2O (a:=1) (st:=fun i _=>wCb l i []) (g:=gS (cA2 l)) (out:=zA2 l) (fun _ _=>True) (by kernel_rfl) h0 hl trivial (fun k u m hk0 hk _ ih=>?_) (fun _ _=>?_)
 .have h:=hf _ (bQ (d:=iy) h0);unfold gS cA2;exact aP hO (.b (bD hk) (.o (aH h0) (.o (aH hk) (.o h.s (.o h.o (.ls (.ou nofun) (.nx (ih _ trivial))))))))
 exact aP hO (.b (fC l.length) (.ou nofun))
def LG(l:List Dg):Int:=match bH (Zn l) l.length with
 |.inr k=>gU (l.getD k iy)
 |.inl _=>match kZ (gS (cA2 l)) (l.length-1) 1 ()with
  |.inr _=>2
  |.inl _=>0
def anV:fV aG:=bU 34 (a1 a4P) iA LG (fun l=>[∀d∈l,Et d,0<l.length/\l.length<=ah]) acS
theorem ath:Gd anV:=atc.add fun n hO l hp=>by
 have hf:∀d∈l,Et d:=hp _ iC;obtain⟨h0,hl⟩:0<l.length/\l.length<=ah:=hp _ yC;have lp:=lA1 hO hf hl;have lp2:=lA2 hO hf h0 hl;show nN X0 Qp _ _ _ (iA.put (match bH (Zn l) l.length with
  |.inr k=>gU (l.getD k iy)
  |.inl _=>match kZ (gS (cA2 l)) (l.length-1) 1 ()with
   |.inr _=>2
   |.inl _=>0)) _
 revert lp lp2;rcases bH (Zn l) l.length with _|k
 .rcases kZ (gS (cA2 l)) (l.length-1) 1 ()with _|j
  .intro lp lp2;exact aN hO (.w lp (.w lp2 .rr))
  .intro lp lp2;exact aN hO (.w lp (.w lp2 .rr))
 .intro lp lp2;exact aN hO (.w lp .rr)
theorem a3y{l}(hp:∀d∈l,kM d)(h0:0<l.length):LG l=aU l:=by
 have hd:l.getD 0 iy∈l:=bQ h0;have ec:∀k,k<l.length->(vg (l.getD k iy)).2=gU (l.getD k iy):=fun k hk=>by have h:=hp _ (bQ (d:=iy) hk);rw[En h.r h.s (by have:=h.o;unfold ah;omega) h.e]
 have eb:∀k,k<l.length->YW l k=Zn l k:=fun k hk=>by unfold YW Zn;rw[ec k hk]
 unfold LG aU;cases e1:jS (bH (YW l) l.length)
 .obtain⟨j,hj,h1,h2,h3⟩:=BD e1;have e2:jS (bH (Zn l) l.length)=false:=by
   cases e:jS (bH (Zn l) l.length)
   .rfl
   have:=dD.1 e j hj;rw[<-eb j hj,h1]at this;cases this
  obtain⟨i,hi,g1,g2,g3⟩:=BD e2;have:i=j:=by
   by_cases c:i<j
   .have:=h2 i c;rw[eb i hi,g1]at this;cases this
   by_cases c2:j<i
   .have:=g2 j c2;rw[<-eb j hj,h1]at this;cases this
   omega
  subst this;rw[g3,h3,a0U (by simp)];exact(ec i hi).symm
 have h1:=dD.1 e1;have e2:jS (bH (Zn l) l.length)=true:=dD.2 fun j hj=>by rw[<-eb j hj];exact h1 j hj
 rw[a18 rfl];rcases e3:bH (Zn l) l.length with u|k
 rotate_left
 .rw[e3]at e2;cases e2
 show(match kZ (gS (cA2 l)) (l.length-1) 1 ()with
  |.inr _=>(2:Int)
  |.inl _=>0)=_
 have hs:wL ((l.getD 0 iy).aj,(l.getD 0 iy).aB) (l.getD 0 iy)=true:=by simp[wL]
 rcases e4:kZ (gS (cA2 l)) (l.length-1) 1 ()with u|j
 .have h2:=(J6 (r:=fun k=>k) (c:=cA2 l) (m:=l.length-1) (k:=1)).1 (by unfold gS at e4;rw[e4];rfl);rw[a0U];rw[af6,abN,a5L];intro d hd2;obtain⟨k,hk,rfl⟩:=aaf hd2;have ek:l[k]=l.getD k iy:=by rw[a4h,a0N hk,a6b]
  rw[ek];by_cases c:k=0
  .subst c;exact hs
  have:=h2 k (by omega) (by omega);unfold cA2 at this;rw[a9V]at this;simpa using this
 have h2:=Ya (r:=fun k=>k) (c:=cA2 l) (m:=l.length-1) (k:=1) (by unfold gS at e4;rw[e4];rfl);obtain⟨i,hi1,LW,h3,_⟩:=h2;rw[a18];rw[a9c,List.all_eq_false];unfold cA2 at h3;rw[a9V]at h3;exact⟨l.getD i iy,bQ (by omega),by simpa using h3⟩
open Go Tw Pv bV
def Zo(p:Dg×Dg):Bool:=if Eu p.1=true then(if Eu p.2=true then(LG [p.1,p.2]==0)else false)else false
theorem acT(a b:Dg):0<[a,b].length/\[a,b].length<=ah:=⟨by simp,by show 2<=ah;unfold ah;omega⟩
def anX:fV aG:=bU 42 (a2 dA dA) tA (fun p=>Zo p) np anV
theorem ati:Gd anX:=ath.add fun n hO p hp=>aN hO (.sh (fun h1=>.sh (fun h2=>.o (Jy (Ew h1).1 (Ew h2).1) (.o (acT p.1 p.2) .rr)) fun _=>.rr) fun _=>.rr)
open Go Tw Pv bV
theorem N9{a b c}(ha:zG a)(hb:zG b)(hc:zG c):(gy a b c).2=0:=by
 unfold gy;rw[a0U (by rw[a0L (jQ.1 ha) (jQ.1 hb) (jQ.1 hc)];simp)]
 repeat' split
 all_goals rfl
theorem a9W{k a b}(h:tK k=true)(ha:zG a)(hb:zG b):(mZ k a b).2=0:=by
 have h9:7<=k/\k<=16:=by simpa[tK]using h
 have e2:¬(!(gX [a,b]))=true:=by rw[akt (jQ.1 ha) (jQ.1 hb)];simp
 unfold mZ;rw[a18 h];rcases nine h9 with rfl|rfl|rfl|rfl|rfl|rfl|rfl|rfl|rfl|rfl
 .show(oQ a b).2=0;unfold oQ;rw[a0U e2];split<;>rfl
 .show(oU a b).2=0;unfold oU;rw[a0U e2];split<;>rfl
 .show(oV a b).2=0;unfold oV;rw[a0U e2];split<;>rfl
 .show(mF a b).2=0;unfold mF;rw[a0U e2];split<;>rfl
 .show(mG a b).2=0;unfold mG;rw[a0U e2];split<;>rfl
 .show(mJ a b).2=0;unfold mJ;rw[a0U e2];split<;>rfl
 .show(mM a b).2=0;unfold mM;rw[a0U e2];split<;>rfl
 .show(mO a b).2=0;unfold mO;rw[a0U e2];split<;>rfl
 .show(gy a b (lN 0)).2=0;exact N9 ha hb ⟨by kernel_rfl,by decide⟩
 show(gy a (lN 1) b).2=0;exact N9 ha ⟨by kernel_rfl,by decide⟩ hb
theorem acU{s q}(hq:jZ s q=true):ov (List.replicate s.length (-1)) q=q:=by
 have hl:=vP hq;refine(pW (d:=(0:Int)) (by simp[ov,afh,hl])).2 fun k hk=>?_;have lK:k<s.length:=by simp[ov,afh,hl]at hk;exact hk
 rw[Lj (by rw[a7p,hl]),a18 (by rw[a7p];exact lK),a0U];rw[a4h,agh,a18 lK];decide
theorem LH{D op}(hJ:jH (bF D)):BN (bF D) op=(List.range (wI (D.getD 0 iy).aj)).map fun(k:Nat)=>op (D.map fun d=>mW d (gq (D.getD 0 iy).aj k)):=by unfold BN;refine a5H fun k _=>?_;have h:ov (bF D).g (gq (bF D).s k)=gq (D.getD 0 iy).aj k:=acU (uK _ hJ.bP.sz);rw[h];rfl
theorem a5A{J}(hJ:jH J){op}(jr:mY J op):∀v∈BN J op,zG v:=by rw[<-UC hJ jr];exact Zm (wY hJ jr).2.2
theorem a9X{J}(hJ:jH J){op}(jr:mY J op):cellsD (iL J op)=BN J op:=by rw[mk_eq hJ jr];exact QU ⟨hJ.bP,hJ.ord,by unfold BN;rw[a5C,a6w];exact hJ.bP.Yd⟩ fun v m=>(a5A hJ jr v m).1
theorem anY{a b}(ha:kM a)(hb:kM b)(h:aU [a,b]=0){c}(hc:tK c=true):jH (bF [a,b])/\mY (bF [a,b]) (tV c):=by have h1:=Jy (P:=kM) ha hb;have hJ:=tJ (D:=[a,b]) (by simp) (by simp) h1 h;exact⟨hJ,yj hJ (Jb.inD h1 h) fun l hl hv=>(a3u hc (hv _ (bQ (show 0<l.length by rw[hl];exact Nat.zero_lt_two))) (hv _ (bQ (show 1<l.length by rw[hl];exact Nat.one_lt_two)))).1⟩
theorem acV{a b}(h:aU [a,b]=0){c}(hc:tK c=true):o7 (c,a,b)=(iL (bF [a,b]) (tV c),0):=by show(if(aU [a,b] != 0)=true then(iy,aU [a,b])else if((mZ c dP dP).2 != 0)=true then(iy,(mZ c dP dP).2)else(iL (bF [a,b]) (tV c),0))=_;rw[h,a9W hc wQ wQ,a0U (by simp),a0U (by simp)]
open Go Tw Pv bV
theorem Aw{J}(hJ:jH J){op}(jr:mY J op):(iL J op).aj=J.s/\(iL J op).aB=J.o:=by rw[mk_eq hJ jr];exact⟨rfl,rfl⟩
theorem Zp{a d}(h1:a.aj=d.aj)(h2:a.aB=d.aB):N8 (a,d)=true:=by simp[N8,h1,h2]
def anZ:fV aG:=bU 43 (a3 uA dA dA) (dJ (a2 dA tA)) (fun p=>(iL (bF [p.2.1,p.2.2]) (tV p.1),true)) (fun p=>[Et p.2.1/\Et p.2.2,kM p.2.1/\kM p.2.2,aU [p.2.1,p.2.2]=0,tK p.1=true]) anX
theorem atj:Gd anZ:=ati.add fun n hO p hp=>by
 obtain⟨c,a,b⟩:=p;obtain⟨fa,fb⟩:Et a/\Et b:=hp _ iC;obtain⟨pa,pb⟩:kM a/\kM b:=hp _ yC;have hk:aU [a,b]=0:=hp _ hh2;have hc:tK c=true:=hp _ (.tail _ (.tail _ (.tail _ (.head _))));have q:=acV hk hc;obtain⟨hJ,hj⟩:=anY pa pb hk hc;have hD:=a5y hJ hj;obtain⟨m1,m2⟩:=Aw hJ hj;have t1:((o7 (c,a,b)).2==0)=true:=by rw[q];rfl
 have t2:(o7 (c,a,b)).1.aB.length<=ah:=by rw[q];exact hD.f.o
 have t3:(o7 (c,a,b)).1.aK.length<=ah:=by rw[q];exact hD.f.e
 have t4:(gU (o7 (c,a,b)).1==0)=true:=by rw[q];show(gU (iL (bF [a,b]) (tV c))==0)=true;rw[hD.k];rfl
 exact aN hO (.o fa (.o fb (.o pa (.o pb (.b t1 (.o t2 (.o t3 (.b t4 (.o fa.s (.o fa.o (.v ((o7 (c,a,b)).1,N8 (a,(o7 (c,a,b)).1)) (by rw[q];exact abk rfl (Zp m1.symm m2.symm)))))))))))))
theorem acW{a}(ha:kM a)(h:aU [a]=0){op}(ho:∀l,(∀v∈l,zG v)->l.length=1->zG (op l)):jH (bF [a])/\mY (bF [a]) op:=by have hJ:=tJ (D:=[a]) (by simp) (by simp) (a1g ha) h;exact⟨hJ,yj hJ (Jb.inD (a1g ha) h) fun l hl hv=>ho l hv hl⟩
def aii:fV aG:=bU 47 (a1 dA) (dJ (a2 dA tA)) (fun p=>(iL (bF [p]) gZ,true)) (fun p=>[Et p,kM p,aU [p]=0]) anZ
theorem atl:Gd aii:=atj.add fun n hO a hp=>by
 have fa:Et a:=hp _ iC;have pa:kM a:=hp _ yC;have hk:aU [a]=0:=hp _ hh2;have q:l7 a=(iL (bF [a]) gZ,0):=by unfold l7;rw[hk,a0U (by simp)]
 obtain⟨hJ,hj⟩:=acW pa hk (op:=gZ) fun l _ _=>Om l;have hD:=a5y hJ hj;obtain⟨m1,m2⟩:=Aw hJ hj;have t1:((l7 a).2==0)=true:=by rw[q];rfl
 have t2:(l7 a).1.aB.length<=ah:=by rw[q];exact hD.f.o
 have t3:(l7 a).1.aK.length<=ah:=by rw[q];exact hD.f.e
 have t4:(gU (l7 a).1==0)=true:=by rw[q];show(gU (iL (bF [a]) gZ)==0)=true;rw[hD.k];rfl
 exact aN hO (.o fa (.o pa (.b t1 (.o t2 (.o t3 (.b t4 (.o fa.s (.o fa.o (.v ((l7 a).1,N8 (a,(l7 a).1)) (by rw[q];exact abk rfl (Zp m1.symm m2.symm)))))))))))
theorem UJ{l}(h:LG l=0):∀d∈l,gU d=0:=by
 have e:jS (bH (Zn l) l.length)=true:=by
  cases e:jS (bH (Zn l) l.length)
  .obtain⟨j,hj,h1,_,h3⟩:=BD e;unfold LG at h;rw[h3]at h;have h:gU (l.getD j iy)=0:=h;unfold Zn at h1;rw[h]at h1;cases h1
  rfl
 intro d hd;obtain⟨k,hk,rfl⟩:=aaf hd;have:=dD.1 e k hk;unfold Zn at this;rw[a4h,a0N hk,a6b]at this;simpa using this
theorem a07{a b}(h:Zo (a,b)=true)(ra:FI a)(rb:FI b):(Et a/\Et b)/\(kM a/\kM b)/\aU [a,b]=0/\(a5w a/\a5w b)/\a.aj=b.aj/\a.aB=b.aB/\gU a=0/\gU b=0:=by
 unfold Zo at h;split at h
 .rename_i h1;split at h
  .rename_i h2;have h1:Eu a=true:=h1;have h2:Eu b=true:=h2;have fa:=(Ew h1).1;have fb:=(Ew h2).1;have pa:=a9U h1 ra;have pb:=a9U h2 rb;have hk:aU [a,b]=0:=by rw[<-a3y (Jy pa pb) (by simp)];simpa using h
   have hg:=Rk (Jy (P:=kM) pa pb) hk;obtain⟨ga,_,_⟩:=hg a (by simp);obtain⟨gb,e1,e2⟩:=hg b (by simp);have hd:=UJ (l:=[a,b]) (by simpa using h);exact⟨⟨fa,fb⟩,⟨pa,pb⟩,hk,⟨Oo fa.o fa.e (by rw[hd a (by simp)];rfl),Oo fb.o fb.e (by rw[hd b (by simp)];rfl)⟩,e1.symm,e2.symm,hd a (by simp),hd b (by simp)⟩
  cases h
 cases h
open Go Tw Pv bV
theorem acX(v):gZ [v]=if decide (v=dP)=true then dP else V0:=by unfold gZ oN;simp
theorem acY{a b}(ha:DgF a)(hb:DgF b)(h1:a.aj=b.aj)(h2:a.aB=b.aB):aU [a,b]=0:=by
 have e:jS (bH (YW [a,b]) [a,b].length)=true:=dD.2 fun k hk=>by
  have hm:DgF ([a,b].getD k iy):=by
   have:=bQ (l:=[a,b]) (d:=iy) hk;rcases a1G.1 this with e|e
   .rw[e];exact ha
   rw[a2p.1 e];exact hb
  have hp:=hm.p;unfold YW;rw[En hp.r hp.s (by have:=hp.o;unfold ah;omega) hp.e];show(gU ([a,b].getD k iy) != 0)=false;rw[hm.k];rfl
 unfold aU;rw[a18 e,a0U];simp[wL,h1,h2]
theorem acZ{a}(h:DgF a):aU [a]=0:=by rw[Oq h.p];exact h.k
open Go Tw Pv bV
abbrev wCy(l acc:List Dg)(i:Int)(e:List (Nat×PE aG)):bT aG:=⟨[(0,xL 26 l),(3,.val (.own 0)),(4,xi i)]++e,[],[.list false false 26 acc]⟩
theorem lCy{n}(hO:Ok n aii){l}(hf:∀d∈l,Et d)(hl:l.length<=1000):Lp n 40 0 (wCy l [] 0 []) (.exit 0) (wCy l l l.length [(8,xl false)]):=by
 have e1:aT (fun k (a:List Dg)=>a++[l.getD k iy]) l.length 0 []=l:=by rw[Qi,KT l iy fun r=>r,List.map_id']
 have:=wK (n:=n) (f:=40) (k:=0) (B:=0) (σ:=List Dg) (N:=l.length) (g:=fun k (a:List Dg)=>a++[l.getD k iy]) (s0:=([]:List Dg)) (st:=fun i a=>wCy l a i []) (e:=.exit 0) (fin:=fun a=>wCy l a l.length [(8,xl false)]) (w:=wCy l [] 0 []) (fun k a=>a.length=k) (by kernel_rfl) (by unfold ah;omega) rfl (fun k a _ h=>by simp[h]) (fun k a hk ha m e p g9=>by
  have hal:a.length+[l.getD k iy].length<=ah:=by have:a.length=k:=ha;rw[a4O];unfold ah;omega
  exact aP hO (.b (bD hk) (.o (aH hk) (.o (hf _ (bQ (d:=iy) hk)) (.o hal (.goG [.gc [2]] g9)))))
  ) (fun a _=>aP hO (.b (fC l.length) .ex))
 rw[e1]at this;exact this
def ao1:fV aG:=bU 40 (a1 a4P) a4P (fun p=>p) (fun p=>[∀d∈p,Et d,p.length<=1000]) aii
theorem atm:Gd ao1:=atl.add fun n hO p hp=>aN hO (.wG [.IE 3 26] (lCy hO (hp _ iC) (hp _ yC)) .rr)
open Go Tw Pv bV
abbrev ni5:List (PV aG):=[.nil .aO,.nil .aO,.nil .aO,.nil .aO,.int .i64 0]
open Go Tw Pv bV
theorem a9Y{k a}(h:CP k=true)(ha:zG a):(ng k a).2=0:=by
 have h9:k=5\/k=6:=by simpa[CP]using h
 have e1:¬(!(sU a))=true:=by rw[oW (jQ.1 ha)];simp
 unfold ng;rw[a18 h];rcases h9 with rfl|rfl
 .show(sV a).2=0;unfold sV;rw[a0U e1];split<;>rfl
 show(sW a).2=0;unfold sW;rw[a0U e1];split<;>rfl
theorem a3z{a}(h:aU [a]=0){c}(hc:CP c=true):qR (c,a)=(iL (bF [a]) (yt c),0):=by show(if(aU [a] != 0)=true then(iy,aU [a])else if((ng c dP).2 != 0)=true then(iy,(ng c dP).2)else(iL (bF [a]) (yt c),0))=_;rw[h,a9Y hc wQ,a0U (by simp),a0U (by simp)]
theorem ad1{d k}(hk:k<wI d.aj):(cellsD d).getD k V0=mW d (gq d.aj (k:Int)):=by unfold cellsD;rw[a4h,a5F,ab8 hk];rfl
open Go Tw Pv bV
theorem ao2{d p F r}:W9 d p (F+1) r=if r<0 then r else W9 d p F ((ay d r).aA.getD (p.getD (ay d r).var.toNat 0).toNat 0):=rfl
open Go Tw Pv bV
theorem aij{d F r x}(h:r<0):bY d (F+1) r x=(i64.wrap (-1-(x.e.idxOf (pq d r):Nat)),⟨gG x.e (pq d r),x.n,x.k⟩):=by rw[bY,a18 (by simpa using h)]
theorem Zq(s o v):eH (FQ s o v)=FQ s o v:=by
 have e2:pq (FQ s o v) (-1)=v:=by
  show [v].getD (jh (-1)).toNat V0=v;have:jh (-1)=0:=by decide
  rw[this];rfl
 have e:bY (FQ s o v) 6002 (-1) ZA=(-1,⟨[v],[],[]⟩):=by rw[aij (F:=6001) (by decide),e2];rfl
 unfold eH;rw[show(FQ s o v).root=-1 from rfl,e]
theorem Zr{s o}(hf:bg s o=0){v}(hv:zG v):FQ s o v=kL s o (List.replicate (wI s) v):=by
 obtain⟨bP,ord⟩:=iR.1 hf;have hl:=bP.len;have RN:o.length=s.length:=by unfold ku at ord;rw[a1F]at ord;exact ord.1
 have h1:bn (FQ s o v)=0:=L8 (by show 1<=ah;unfold ah;omega) (by show(bg s o != 0)=false;rw[hf];rfl) (fun x hx=>by rw[a2p.1 hx];exact hv.1) (by show 0<=6000;omega) ⟨fun i hi=>absurd hi (ais _),fun i hi=>absurd hi (ais _),fun i hi=>absurd hi (ais _)⟩ ⟨fun _=>by
  have:jh (-1)=0:=by decide
  show gV (jh (-1)) 1;rw[this];exact⟨by omega,by omega⟩,by show(-1:Int)<0;omega,a5S _⟩
 have e:=(Jq h1 (by show o.length<=ah;unfold ah;omega) (by show 1<=ah;unfold ah;omega)).1;rw[Zq]at e;have ec:cellsD (FQ s o v)=List.replicate (wI s) v:=by
  refine(List.eq_replicate_iff).2 ⟨Rt _,fun x hx=>?_⟩;obtain⟨k,_,rfl⟩:=a1z.1 hx;have a1:W9 (FQ s o v) (gq s (k:Int)) 6001 (-1)=-1:=by rw[ao2 (F:=6000),a18 (by omega)]
  show [v].getD (jh (W9 (FQ s o v) (gq s (k:Int)) 6001 (-1))).toNat V0=v;rw[a1];have:jh (-1)=0:=by decide
  rw[this];rfl
 rw[ec]at e;exact e
open Go Tw Pv bV
theorem WZ{l}(hp:∀x∈l,kM x)(hk:∀x∈l,gU x=0){s o}(hs:∀x∈l,x.aj=s/\x.aB=o)(h0:0<l.length):aU l=0:=by
 have e:jS (bH (YW l) l.length)=true:=dD.2 fun k lK=>by have hm:=bQ (l:=l) (d:=iy) lK;have h:=hp _ hm;unfold YW;rw[En h.r h.s (by have:=h.o;unfold ah;omega) h.e];show(gU (l.getD k iy) != 0)=false;rw[hk _ hm];rfl
 have h1:=hs _ (bQ (l:=l) (d:=iy) h0);have e2:(l.all (wL ((l.getD 0 iy).aj,(l.getD 0 iy).aB)))=true:=a5L.2 fun x hx=>by have h2:=hs x hx;rw[h1.1,h1.2];simp[wL,h2.1,h2.2]
 unfold aU;rw[a18 e,a0U (by rw[e2];simp)]
open Go Tw Pv bV
abbrev ad2(l:List Dg):List (PB aG):=[.list false false 26 l]
theorem a1i:dH Qp 26=some 5:=by kernel_rfl
theorem a1j(n h):Nj Qp T (iD n) LL 119 [.nil .aO] h=some (.nil .aO,h,[]):=by kernel_rfl
theorem a1k(n b off cap ex h):Nj Qp T (iD n) LL 119 [.aO b off 0 cap 5 ex] h=some (.aO h.length 0 0 0 5 true,h++[.cells .own []],[]):=by kernel_rfl
theorem ad3{n}:nN X0 Qp (iD (n+1)) 119 [.dw 26 ([]:List Dg) false] (.own 0) (ad2 []):=by
 intro A h first args cap G5 hv
 obtain⟨x,r,e,h1,h2⟩:=hv.inv;have:=h2.inv0;subst this;have hun:kR Qp T LL (n+1) (.fn 119 first cap) args h=Nj Qp T (iD n) LL 119 [x] h:=by rw[<-e];show kR Qp T LL (n+1) _ _ _=_;rw[kR,a0U (by decide),a0U (by decide)]
 rcases Y9 h1 with rfl|⟨b,off,cap',sz,ex,cs,rfl,a1,a2,a3,a4,a5⟩
 .exact⟨.nil .aO,h,[.dw (.nil .aO)],by rw[<-a1j n h,<-hun],J5 G5 .nil rfl,.own rfl rfl,⟨a1p _,fun _ _ _=>rfl,fun b hb=>by simp[aZ,MB.own]at hb,fun b cs hc=>⟨cs,hc,a1p _⟩⟩⟩
 rw[a1i]at a3;cases a3;have hc:aV (h++[HB.cells .own []]) h.length=some []:=by unfold aV;rw[a1y (a1p _),afs];rfl
 refine⟨.aO h.length 0 0 0 5 true,h++[.cells .own []],[.dw (.aO h.length 0 0 0 5 true)],by rw[<-a1k n b off cap' ex h,<-hun],J5 (fun b hb=>G5 b (by simp at hb;omega)) (.emp ⟨G5 _ (a1p _),by simp[aZ,MB.own]⟩ hc (a1p _) a1i (by decide)) (by simp[MB.own]),.own rfl rfl,⟨by simp,fun b hb _=>by rw[a0Q hb],fun b hb=>by simp[aZ,MB.own]at hb,fun b cs hc=>⟨cs,?_,a1p _⟩⟩⟩;rw[fF (a0Q (fG hc)),hc]
def afa:fV aG:=Si 119 (a1 a4P) (fun _=>.own 0) (fun p=>ad2 p) (fun p=>[p.length<=ah]) ao1
theorem ao3:Gd afa:=atm.MJ 0 fun n _ hO p hp=>by
 have hl:p.length<=ah:=hp _ iC;by_cases h:p=[]
 .subst h;exact ad3
 .have h2:([]:List Dg).length+p.length<=ah:=by simpa using hl
  exact nN.gs hX (wF hX (hO n (by omega)) (v:=.own 1) (H:=[.gone,.list true false 26 p]) (by kernel_rfl) (.o h (.b aiC (.o h2 .er)))) [.gc [1],.flag 0] rfl
theorem X3{cs n}(h:cs.length=n):sub cs 0 n=some cs:=by unfold sub;rw[a18 (by omega)];simp[<-h]
section
variable{h:List HB}{vb:Nat}{e2:Bool}{kk2:BK}{EO:List TV}(q4:h[vb]? = some (.cells kk2 EO))(CY:¬(kk2=.ro\/(kk2=.last/\0+1*5≠EO.length)))(hv5:EO.length=5)
include q4 CY hv5
theorem a9Z:Nr (.fn 118 [] []) [.nil .aO,.int .i64 0,.aO vb 0 1 1 5 e2] h=some (.aO h.length 0 1 1 5 false,h++[.cells .own EO],[]):=by rw[Nr,a18 rfl,q4];dsimp only;rw[a0U CY,X3 hv5]
theorem aa0{b off}:Nr (.fn 118 [] []) [.aO b off 0 0 5 true,.int .i64 0,.aO vb 0 1 1 5 e2] h=some (.aO h.length 0 1 1 5 false,h++[.cells .own EO],[]):=by rw[Nr,a18 rfl,q4];dsimp only;rw[a0U CY,X3 hv5];rfl
theorem a5B{b n ex k cs}(hn:n≠0)(hb:h[b]? = some (.cells k cs))(hc:k≠.ro/\0=0/\n=n/\cs.length=n*5/\n<=2^20/\vb≠b):Nr (.fn 118 [] []) [.aO b 0 n n 5 ex,.int .i64 0,.aO vb 0 1 1 5 e2] h=some (.aO b 0 (n+1) (n+1) 5 false,h.set b (.cells .last (EO++cs)),[b]):=by rw[Nr,a18 rfl,q4];dsimp only;rw[a0U CY,X3 hv5];show(if n=0 then _ else _)=_;rw[a0U hn,hb];exact a18 hc
end
theorem atn{n k ex k2 FP l a}(hl:l.length<=2^20):jf (n+1) (.fn 118 [] []) [.own 0,.int .i64 0,.own 1] [.list k ex 26 l,.list k2 FP 26 [a]] (.own 2) [.gone,.list k2 FP 26 [a],.list false false 26 (a::l)]:=by
 intro A m h tf rJ hr hf hx;have htf:=hf.Qb;subst htf;obtain⟨y0,r0,rfl,v0,hx1⟩:=hx.inv;obtain⟨y1,r1,rfl,v1,hx2⟩:=hx1.inv;obtain⟨y2,r2,rfl,v2,hx3⟩:=hx2.inv;have e3:=hx3.inv0;subst e3;have e1:=KA v1;subst e1;clear hx hx1 hx2 hx3;obtain⟨mb0,g1,g2⟩:=hr.at_ 0 _ rfl;obtain⟨mb1,u1,u2⟩:=hr.at_ 1 _ rfl;cases mb1 with
 |dw z1=>
  have hz1:y2=z1:=by
   cases v2 with
   |own e _=>rw[u1]at e;cases e;rfl
   |gone hi e _=>simp only[bC,a08]at hi;subst hi;rw[u1]at e;cases e
  subst hz1;have u3:LR X0 Qp (AA A m) m h k2 FP 26 [a] y2:=u2;cases u3 with
  |some q1 q2 q3 q4 q5 q6 q7 q8 q9=>
   rename_i vb sz2 e2 kk2 EO;rw[a1i]at q2;cases q2;have hv5:EO.length=5:=q8;have ao4:(MB.dw (TV.aO vb 0 [a].length [a].length 5 e2)).own=some vb:=by simp only[MB.own];rw[a0U (by simp)]
   have FM:=(a0w.1 q4).1;have call:∀y v h' ws,Nr (.fn 118 [] []) [y,.int .i64 0,.aO vb 0 1 1 5 e2] h=some (v,h',ws)->iD (n+1) (.fn 118 [] []) [y,.int .i64 0,.aO vb 0 1 1 5 e2] h=some (v,h',ws):=fun y v h' ws e=>by show kR Qp T LL (n+1) _ _ _=_;rw[kR,a18 (by decide)];exact e
   have CY:¬(kk2=.ro\/(kk2=.last/\0+1*5≠EO.length)):=by
    rintro (e|⟨_,e⟩)
    .exact q5 e
    exact e (by omega)
   cases mb0 with
   |dw z0=>
    have hz0:y0=z0:=by
     cases v0 with
     |own e _=>rw[g1]at e;cases e;rfl
     |gone hi e _=>simp only[bC,a08]at hi;subst hi;rw[g1]at e;cases e
    subst hz0;have g3:LR X0 Qp (AA A m) m h k ex 26 l y0:=g2;have new:l=[]->Nr (.fn 118 [] []) [y0,.int .i64 0,.aO vb 0 1 1 5 e2] h=some (.aO h.length 0 1 1 5 false,h++[.cells .own EO],[])->∃w h1 ws m1,iD (n+1) (.fn 118 [] []) [y0,.int .i64 0,.aO vb 0 1 1 5 e2] h=some (w,h1,ws)/\HR X0 Qp A m1 [.gone,.list k2 FP 26 [a],.list false false 26 (a::l)] h1/\VR X0 Qp (AA A m1) m1 h1 (.own 2) w/\Fr m h m1 h1/\Up m m1/\∀b∈ws,b∈aZ m:=fun qY e=>by subst qY;have hw:eu X0 Qp (FA A m [0]) (cu [0] m) h 26 [a] EO 0 5:=(q9.mono fun c hc=>.inl hc).jD hX;obtain⟨m1,f1,f2,f3,f4⟩:=kN hr [0] (k:=false) (ex:=false) (x:=false) hw q8 (by simp) a1i (by omega) (by simp);exact⟨_,_,_,m1,call _ _ _ _ e,f1,f4,f2,f3,fun b hb=>by cases hb⟩
    cases g3 with
    |nil=>exact new rfl (a9Z q4 CY hv5)
    |emp p0 p1 p2 p3 p4=>
     rw[a1i]at p3;cases p3;exact new rfl (aa0 q4 CY hv5)
    |some p1 p2 p3 p4 p5 p6 p7 p8 p9=>
     rename_i b sz e kk cs;rw[a1i]at p2;cases p2;have Xl:l.length≠0:=(by simpa using p1);have rG:(MB.dw (TV.aO b 0 l.length l.length 5 e)).own=some b:=by simp only[MB.own];rw[a0U Xl]
     have iI:vb≠b:=fun e0=>by subst e0;have:=iW hr.nodup g1 u1 rG ao4;omega
     have aQ:=(a0w.1 p4).1;have ato:Nr (.fn 118 [] []) [.aO b 0 l.length l.length 5 e,.int .i64 0,.aO vb 0 1 1 5 e2] h=some (.aO b 0 (l.length+1) (l.length+1) 5 false,h.set b (.cells .last (EO++cs)),[b]):=a5B q4 CY hv5 Xl p4 ⟨p5,rfl,rfl,p8,hl,iI⟩;obtain⟨m1,f0,f1,f2,f3,f4⟩:=H6 (X:=X0) (P:=Qp) (pb:=.list false false 26 (a::l)) (h1:=h.set b (.cells .last (EO++cs))) (Nk:=.dw (.aO b 0 (l.length+1) (l.length+1) 5 false)) hr [] g1 rG
      (by simp only[MB.own];rw[a0U (by omega)]) (by simp) (fun d hd=>a1A (afR hd)) (fun cs3 hc3=>⟨EO++cs,by simp[aV,aQ],by
       simp only[aV,p4,a08]at hc3;subst hc3;simp⟩) (fun hF hU=>by
       have:=LR.some (X:=X0) (P:=Qp) (A:=AA A (cu [0] m++[.dw (.aO b 0 (l.length+1) (l.length+1) 5 false)])) (m:=cu [0] m++[.dw (.aO b 0 (l.length+1) (l.length+1) 5 false)]) (h:=h.set b (.cells .last (EO++cs))) (k:=false) (ex:=false) (t:=26) (l:=[a]++l) (b:=b) (sz:=5) (e:=false) (kk:=.last) (cs:=EO++cs)
        (by simp) a1i (by omega) (by simp[aQ]) (by simp) (by simp) (by simp) (by rw[a1D,a1D,a4p,p8,q8]) ((q9.step hF hU).app (p9.step hF hU) q8)
       rw[show([a]++l).length=l.length+1 by simp]at this;exact this)
     exact⟨_,_,_,m1,call _ _ _ _ ato,f1,.own f4 rfl,f2,f3,fun d hd=>by rw[a2p.1 hd];exact aY g1 rG⟩
   |_=>exact g2.elim
 |_=>exact u2.elim
open Go Tw Pv bV
abbrev wBo(a:Dg)(l:List Dg)(i:Int)(e:List (Nat×PE aG)):bT aG:=⟨[(6,.loc 0 0),(9,.loc 1 0),(34,xL 26 l),(35,xi l.length),(36,xi i)]++e,[ni5,a.ps],[]⟩
def gBo(l:List Dg)(k:Nat)(a:Dg):Dg:=iL (bF [a,l.getD k iy]) gZ
structure BoP(s o:LI0)(l:List Dg):Prop where
 p:∀x∈l,kM x
 k:∀x∈l,gU x=0
 s:∀x∈l,x.aj=s/\x.aB=o
 n:l.length<=ah
structure BoI(s o:LI0)(a:Dg):Prop where
 f:DgF a
 s:a.aj=s
 o:a.aB=o
theorem BoP.chk{s o l}(h:BoP s o l){a}(ha:BoI s o a){k}(hk:k<l.length):aU [a,l.getD k iy]=0/\∀x∈[a,l.getD k iy],kM x:=by have hm:=bQ (l:=l) (d:=iy) hk;exact⟨WZ (Jy (P:=kM) ha.f.p (h.p _ hm)) (Jy (P:=fun x=>gU x=0) ha.f.k (h.k _ hm)) (Jy (P:=fun x=>x.aj=s/\x.aB=o) ⟨ha.s,ha.o⟩ (h.s _ hm)) (by simp),Jy (P:=kM) ha.f.p (h.p _ hm)⟩
theorem BoP.j{s o l}(h:BoP s o l){a}(ha:BoI s o a){k}(hk:k<l.length):jH (bF [a,l.getD k iy])/\mY (bF [a,l.getD k iy]) gZ:=by obtain⟨h1,h2⟩:=h.chk ha hk;exact⟨tJ (D:=[a,l.getD k iy]) (by simp) (by simp) h2 h1,fun t hd=>Om _⟩
theorem BoP.step{s o l}(h:BoP s o l){a}(ha:BoI s o a){k}(hk:k<l.length):BoI s o (gBo l k a):=by
 obtain⟨h1,h2⟩:=h.j ha hk;refine⟨a5y h1 h2,?_,?_⟩
 .unfold gBo;rw[mk_eq h1 h2];exact ha.s
 unfold gBo;rw[mk_eq h1 h2];exact ha.o
theorem lBo{n}(hn:24<=n)(Fb:∀m,n-24<=m->Ok m Gl)(Zh:∀m,n-24<=m->Ok m ru)(hO4:∀m,n-24<=m->Ok m Rl){s o l}(h:BoP s o l){a}(ha:BoI s o a):Lp n 68 0 (wBo a l 0 []) (.exit 0) (wBo (aT (gBo l) l.length 0 a) l l.length [(37,xl false)]):=
 wK (n:=n) (f:=68) (k:=0) (B:=0) (σ:=Dg) (N:=l.length) (g:=gBo l) (s0:=a) (st:=fun i a=>wBo a l i []) (e:=.exit 0) (fin:=fun a=>wBo a l l.length [(37,xl false)]) (w:=wBo a l 0 []) (fun _ a=>BoI s o a) (by kernel_rfl) h.n ha (fun k a hk hi=>h.step hi hk) (fun k a hk hi m e p g9=>by
  have hi:BoI s o a:=hi;obtain⟨hJ,jr⟩:=h.j hi hk;have s1:=Hu (n:=n) (f:=117) (by omega) (fun m hm=>Zh m (by omega)) (D:=[a,l.getD k iy]) (by simp) hJ.bP.len (k:=true) (ex:=true);have s2:=a3t (n:=n) (f:=117) hJ (op:=gZ) jr (by omega) (fun m hm=>Fb m (by omega)) (fun m hm l hl=>af0 (hO4 m (by omega)) (by rw[hl];exact a9B)) (k:=true) (ex:=true) (k2:=true) (FP:=true);refine aP gK (.b (bD hk) (.o (aH hk) (.fr [0] s1 (.fr [0,1] s2 (.goG [.gc []] g9)))))) (fun a _=>by
  refine aP gK (.b (fC l.length) .ex))
def JB(p:LI0×LI0×List Dg):Dg×Int:=if(bg p.1 p.2.1 != 0)=true then(iy,bg p.1 p.2.1)else if(aU (FQ p.1 p.2.1 dP::p.2.2) != 0)=true then(iy,aU (FQ p.1 p.2.1 dP::p.2.2))else(aT (gBo p.2.2) p.2.2.length 0 (FQ p.1 p.2.1 dP),0)
theorem a1l{s o}(h:bg s o=0):BoI s o (FQ s o dP):=by obtain⟨bP,ord⟩:=iR.1 h;refine⟨?_,rfl,rfl⟩;rw[Zr h wQ];exact a9T ⟨bP,ord,by rw[a7p];exact bP.Yd⟩ fun v hv=>by rw[List.eq_of_mem_replicate hv];exact wQ
theorem afc{s o l}(hp:∀x∈FQ s o dP::l,kM x)(h0:aU (FQ s o dP::l)=0)(hl:l.length<=ah):BoP s o l:=by have hz:=UJ (l:=FQ s o dP::l) (by rw[a3y hp (by simp)];exact h0);have hk:=Rk hp h0;exact⟨fun x hx=>hp x (a3J _ hx),fun x hx=>hz x (a3J _ hx),fun x hx=>(hk x (a3J _ hx)).2,hl⟩
def ao6:fV aG:=bU 68 (a3 qF qF a4P) (dJ (a2 dA iA)) JB (fun p=>[p.1.length<=ah,p.2.1.length<=ah,∀x∈p.2.2,kM x,p.2.2.length<=1000]) afa
theorem atp:Gd ao6:=Good.a2I 25 ao3 QX Gm Zg fun n hn hO Fb Zh hO4 p hp=>by
 obtain⟨m,rfl⟩:∃m,n=m+1:=⟨n-1,by omega⟩;have CO:=hO (m+1) (by omega);obtain⟨s,o,l⟩:=p;have b1:s.length<=ah:=hp _ iC;have b2:o.length<=ah:=hp _ yC;have b3:o.length<=2^20:=b2;have hd:∀x∈l,kM x:=hp _ hh2;have hl:l.length<=1000:=hp _ (.tail _ (.tail _ (.tail _ (.head _))));have hlm:l.length<=ah:=by unfold ah;omega
 show nN X0 Qp _ _ _ ((dJ (a2 dA iA)).put (if(bg s o != 0)=true then(iy,bg s o)else if(aU (FQ s o dP::l) != 0)=true then(iy,aU (FQ s o dP::l))else(aT (gBo l) l.length 0 (FQ s o dP),0))) _;cases e1:(bg s o != 0)
 .have h0:bg s o=0:=by simpa using e1
  have hI:=a1l h0;have hp2:∀x∈FQ s o dP::l,kM x:=fun x hx=>by
   rcases a1G.1 hx with rfl|hx
   .exact hI.f.p
   .exact hd x hx
  have h3:0<(FQ s o dP::l).length/\(FQ s o dP::l).length<=ah:=by rw[a4T];unfold ah;omega
  have s0:dI X0 Qp (iD (m+1)) (.fn 89 [] []) [] [] (.agg dP.ps) []:=nN.YV hX (first:=[]) (cap:=[]) (CO 89 [] (vA.put dP) [] [] (by kernel_rfl) (fun p h=>by cases h)) rfl rfl rfl rfl;have s1:dI X0 Qp (iD (m+1)) (.fn 107 [] []) [lI s,lI o,.agg dP.ps] [] (.agg (FQ s o dP).ps) []:=nN.YV hX (first:=[]) (cap:=[]) (xs:=[lI s,lI o,.agg dP.ps]) (CO 107 [lI s,lI o,.agg dP.ps] (dA.put (FQ s o dP)) [] [s.length<=ah,o.length<=ah] (by kernel_rfl) (fun p h=>by
   rcases a1G.1 h with rfl|h
   .exact b1
   .rw[a2p.1 h];exact b2)) rfl rfl rfl rfl
  have s2:dI X0 Qp (iD (m+1)) (.fn 119 [] []) [.dw 26 l false] [] (.own 0) (ad2 l):=nN.a8u hX (CO 119 [.dw 26 l false] (.own 0) (ad2 l) [l.length<=ah] (by kernel_rfl) (afm.2 hlm)) rfl rfl rfl rfl;have s3:=atn (n:=m) (k:=false) (ex:=false) (k2:=true) (FP:=true) (l:=l) (a:=FQ s o dP) (a5W hl (by decide));cases e2:(aU (FQ s o dP::l) != 0)
  .have lp:=lBo (n:=m+1) (by omega) (fun j hj=>Fb j (by omega)) (fun j hj=>Zh j (by omega)) (fun j hj=>hO4 j (by omega)) (afc hp2 (by simpa using e2) hlm) hI;exact aN CO (.o b1 (.o b3 (.b e1 (.fr [] s0 (.fr [] s1 (.fr [] s2 (.fr [0,1] s3 (.o hp2 (.o h3 (.b e2 (.wG [.gc []] lp .rr)))))))))))
  .exact aN CO (.o b1 (.o b3 (.b e1 (.fr [] s0 (.fr [] s1 (.fr [] s2 (.fr [0,1] s3 (.o hp2 (.o h3 (.b e2 (rE _)))))))))))
 .exact aN CO (.o b1 (.o b3 (.b e1 (rE _))))
open Go Tw Pv bV
def Gn(b:Bool):V:=if b=true then dP else V0
open Go Tw Pv bV
def gBi(l:List Dg)(p:LI0)(k:Nat)(b:Bool):Bool:=if b=true then decide (mW (l.getD k iy) p=dP)else false
def allM(l:List Dg)(p:LI0):Bool:=aT (gBi l p) l.length 0 true
def aa2(s:LI0)(l:List Dg):List V:=(List.range (wI s)).map fun(k:Nat)=>Gn (allM l (gq s k))
open Go Tw Pv bV
theorem aa3(v):gZ [v]=Gn (decide (v=dP)):=acX v
theorem aik(b v):gZ [Gn b,v]=Gn (if b=true then decide (v=dP)else false):=by
 unfold gZ oN;cases b
 .have e:¬(V0=dP):=by decide
  simp[Gn,e]
 simp[Gn]
theorem ao7{s o l}(h:BoP s o l)(h0:bg s o=0):aT (gBo l) l.length 0 (FQ s o dP)=kL s o (aa2 s l)/\BoI s o (kL s o (aa2 s l)):=by
 obtain⟨bP,ord⟩:=iR.1 h0;have vV:∀b,zG (Gn b):=fun b=>by cases b;exact a1e;exact wQ
 have cells:∀(f:Nat->Bool) (i:Nat),i<wI s->mW (kL s o ((List.range (wI s)).map fun k=>Gn (f k))) (gq s (i:Int))=Gn (f i):=fun f i hi=>by have hO:OfP s o ((List.range (wI s)).map fun k=>Gn (f k)):=⟨bP,ord,by rw[a5C,a6w];exact bP.Yd⟩;rw[a3e hO (fun v hv=>by obtain⟨k,_,rfl⟩:=a1z.1 hv;exact(vV _).1) (uK (i:Int) bP.sz),J7 bP.sz (by omega) (by have:=bP.Yd;omega),a5U,a4h,a5F,ab8 hi];rfl
 have:=dB (g:=gBo l) (m:=l.length) (k:=0) (s:=FQ s o dP) (fun k a=>BoI s o a/\a=kL s o ((List.range (wI s)).map fun(i:Nat)=>Gn (aT (gBi l (gq s i)) k 0 true))) ⟨a1l h0,by
  rw[Zr h0 wQ];refine congrArg _ ?_;show List.replicate (wI s) dP=(List.range (wI s)).map fun _=>dP;rw[List.map_const',a6w]⟩ (fun k a _ hk hi=>by
  obtain⟨hI,e⟩:=hi;have hk:k<l.length:=by omega
  obtain⟨hJ,jr⟩:=h.j hI hk;refine⟨h.step hI hk,?_⟩;unfold gBo;rw[mk_eq hJ jr];show kL a.aj a.aB (BN (bF [a,l.getD k iy]) gZ)=_;rw[hI.s,hI.o,LH hJ];refine congrArg _ ?_;show(List.range (wI a.aj)).map (fun(i:Nat)=>gZ [mW a (gq a.aj i),mW (l.getD k iy) (gq a.aj i)])=_;rw[hI.s];refine a5H fun i hi=>?_;have hi:=a5D.1 hi;have e2:mW a (gq s (i:Int))=Gn (aT (gBi l (gq s i)) k 0 true):=by rw[e];exact cells (fun i=>aT (gBi l (gq s i)) k 0 true) i hi
  rw[e2,aik,qN,a3O];rfl)
 rw[a3O]at this;obtain⟨h1,h2⟩:=this;exact⟨h2,h2▸h1⟩
open Go Tw Pv bV
theorem UK{d}(hp:kM d)(h:gU d=0):kL d.aj d.aB (cellsD d)=d/\OfP d.aj d.aB (cellsD d):=by
 have g:=WR hp h;have hd:oZ d=true:=by
  unfold gU at h;split at h
  .rename_i c;rw[h]at c;cases c
  split at h
  .cases h
  rename_i c;simpa using c
 have h1:=hp.o;have h2:=hp.e;have e:=(L6 g.t hp.r (by unfold ah at h2;omega) g.n).2 hd;obtain⟨c1,c2⟩:=Jq g.l0 (by unfold ah;omega) (by omega);exact⟨by rw[<-c1];exact e,c2⟩
theorem afd{D op}(hJ:jH (bF D))(hj:mY (bF D) op){k}(hk:k<wI (D.getD 0 iy).aj):mW (iL (bF D) op) (gq (D.getD 0 iy).aj (k:Int))=op (D.map fun d=>mW d (gq (D.getD 0 iy).aj (k:Int))):=by have e:=a9X hJ hj;rw[LH hJ]at e;have h0:(iL (bF D) op).aj=(D.getD 0 iy).aj:=(Aw hJ hj).1;have h1:=ad1 (d:=iL (bF D) op) (k:=k) (by rw[h0];exact hk);rw[e,h0,a4h,a5F,ab8 hk]at h1;exact h1.symm
theorem a3A{D op}(hJ:jH (bF D))(hj:mY (bF D) op):iL (bF D) op=kL (D.getD 0 iy).aj (D.getD 0 iy).aB ((List.range (wI (D.getD 0 iy).aj)).map fun(k:Nat)=>op (D.map fun d=>mW d (gq (D.getD 0 iy).aj k))):=by rw[mk_eq hJ hj,LH hJ];rfl
abbrev W0(d:Dg):Dg:=iL (bF [d]) gZ
theorem a1m(x y):tV 15 [Gn x,Gn y]=Gn (if(if true=true then x else false)=true then y else false)/\tV 15 [Gn x,Gn y]=tV 15 [Gn y,Gn x]/\tV 16 [Gn x,Gn y]=tV 16 [Gn y,Gn x]:=by cases x<;>cases y<;>exact⟨by kernel_rfl,by kernel_rfl,by kernel_rfl⟩
theorem ail(x):yt 6 [yt 6 [Gn x]]=Gn x:=by cases x<;>kernel_rfl
theorem ain(x):zG (Gn x):=by cases x;exact a1e;exact wQ
theorem ao8(x){v}(hv:zG v):WT [Gn x,v,v]=v:=by
 show(gy (Gn x) v v).1=v;unfold gy;rw[a0U (by rw[a0L (jQ.1 (ain x)) (jQ.1 hv) (jQ.1 hv)];simp)];cases x
 .rfl
 rfl
structure JC(a b:Dg):Prop where
 pa:kM a
 pb:kM b
 ka:gU a=0
 kb:gU b=0
 s:a.aj=b.aj
 o:a.aB=b.aB
theorem JC.sym{a b}(h:JC a b):JC b a:=⟨h.pb,h.pa,h.kb,h.ka,h.s.symm,h.o.symm⟩
theorem Ny{a}(ha:kM a)(ka:gU a=0):(DgF (W0 a)/\(W0 a).aj=a.aj/\(W0 a).aB=a.aB)/\(∀k,k<wI a.aj->mW (W0 a) (gq a.aj (k:Int))=Gn (decide (mW a (gq a.aj (k:Int))=dP)))/\W0 a=kL a.aj a.aB ((List.range (wI a.aj)).map fun(k:Nat)=>Gn (decide (mW a (gq a.aj k)=dP))):=by
 obtain⟨ja,oa⟩:=acW ha (by rw[Oq ha];exact ka) (op:=gZ) fun l _ _=>Om l;refine⟨⟨a5y ja oa,(Aw ja oa).1,(Aw ja oa).2⟩,fun k hk=>?_,?_⟩
 .have:=afd ja oa hk;rw[<-aa3];exact this
 have:=a3A ja oa;refine this.trans (congrArg _ (a5H fun k _=>?_));rw[<-aa3];rfl
theorem JC.c{a b}(h:JC a b):aU [W0 a,W0 b]=0:=acY (Ny h.pa h.ka).1.1 (Ny h.pb h.kb).1.1 (by rw[(Ny h.pa h.ka).1.2.1,(Ny h.pb h.kb).1.2.1,h.s]) (by rw[(Ny h.pa h.ka).1.2.2,(Ny h.pb h.kb).1.2.2,h.o])
theorem JC.op{a b}(h:JC a b){c}(hc:tK c=true):DgF (iL (bF [W0 a,W0 b]) (tV c))/\iL (bF [W0 a,W0 b]) (tV c)=kL a.aj a.aB ((List.range (wI a.aj)).map fun(k:Nat)=>tV c [Gn (decide (mW a (gq a.aj k)=dP)),Gn (decide (mW b (gq a.aj k)=dP))]):=by obtain⟨⟨fa,sa,oa⟩,ea,_⟩:=Ny h.pa h.ka;obtain⟨⟨fb,sb,ob⟩,eb,_⟩:=Ny h.pb h.kb;obtain⟨hJ,hj⟩:=anY fa.p fb.p h.c hc;refine⟨a5y hJ hj,?_⟩;have e:=a3A hJ hj;have e:iL (bF [W0 a,W0 b]) (tV c)=kL (W0 a).aj (W0 a).aB ((List.range (wI (W0 a).aj)).map fun(k:Nat)=>tV c [mW (W0 a) (gq (W0 a).aj k),mW (W0 b) (gq (W0 a).aj k)]):=e;rw[sa,oa]at e;refine e.trans (congrArg _ (a5H fun k hk=>?_));have hk:=a5D.1 hk;have e2:=eb k (by rw[<-h.s];exact hk);rw[<-h.s]at e2;rw[ea k hk,e2]
theorem JC.com{a b}(h:JC a b):iL (bF [W0 a,W0 b]) (tV 15)=iL (bF [W0 b,W0 a]) (tV 15)/\iL (bF [W0 a,W0 b]) (tV 16)=iL (bF [W0 b,W0 a]) (tV 16):=by rw[(h.op (c:=15) (by decide)).2,(h.op (c:=16) (by decide)).2,(h.sym.op (c:=15) (by decide)).2,(h.sym.op (c:=16) (by decide)).2,<-h.s,<-h.o];exact⟨congrArg _ (a5H fun k _=>(a1m _ _).2.1),congrArg _ (a5H fun k _=>(a1m _ _).2.2)⟩
theorem JC.both{a b}(h:JC a b):JB (a.aj,a.aB,[a,b])=(iL (bF [W0 a,W0 b]) (tV 15),0):=by obtain⟨_,hO⟩:=UK h.pa h.ka;have h0:bg a.aj a.aB=0:=iR.2 ⟨hO.bP,hO.ord⟩;have hI:=a1l h0;have hp:=a1f (P:=kM) hI.f.p h.pa h.pb;have hc:aU (FQ a.aj a.aB dP::[a,b])=0:=WZ hp (a1f (P:=fun x=>gU x=0) hI.f.k h.ka h.kb) (a1f (P:=fun x=>x.aj=a.aj/\x.aB=a.aB) ⟨hI.s,hI.o⟩ ⟨rfl,rfl⟩ ⟨h.s.symm,h.o.symm⟩) (by simp);obtain⟨e,_⟩:=ao7 (afc hp hc (show 2<=ah by decide)) h0;show(if(bg a.aj a.aB != 0)=true then _ else if(aU (FQ a.aj a.aB dP::[a,b]) != 0)=true then _ else(aT (gBo [a,b]) [a,b].length 0 (FQ a.aj a.aB dP),0))=_;rw[h0,a0U (by simp),hc,a0U (by simp),e,(h.op (c:=15) (by decide)).2];refine congrArg (fun x=>(kL a.aj a.aB x,(0:Int))) (a5H fun k _=>?_);rw[(a1m _ _).1];rfl
theorem not_not{a}(ha:kM a)(ka:gU a=0):(qR (6,W0 a)).2=0/\kM (qR (6,W0 a)).1/\Et (qR (6,W0 a)).1/\qR (6,(qR (6,W0 a)).1)=(W0 a,0):=by obtain⟨⟨fa,sa,oa⟩,ea,ew⟩:=Ny ha ka;have ga:=WR fa.p fa.k;obtain⟨j1,o1⟩:=acW fa.p (acZ fa) (op:=yt 6) fun l hv hl=>(WS (k:=6) (by decide) (hv _ (bQ (by rw[hl];exact afn)))).1;have fn:=a5y j1 o1;obtain⟨s1,t1⟩:=Aw j1 o1;obtain⟨j2,o2⟩:=acW fn.p (acZ fn) (op:=yt 6) fun l hv hl=>(WS (k:=6) (by decide) (hv _ (bQ (by rw[hl];exact afn)))).1;rw[a3z (acZ fa) (by decide)];refine⟨rfl,fn.p,fn.f,?_⟩;show qR (6,iL (bF [W0 a]) (yt 6))=_;rw[a3z (acZ fn) (by decide)];refine congrArg (fun x=>(x,(0:Int))) ?_;have s1:(iL (bF [W0 a]) (yt 6)).aj=a.aj:=s1.trans sa;have t1:(iL (bF [W0 a]) (yt 6)).aB=a.aB:=t1.trans oa;have e:=a3A j2 o2;have e:iL (bF [iL (bF [W0 a]) (yt 6)]) (yt 6)=kL (iL (bF [W0 a]) (yt 6)).aj (iL (bF [W0 a]) (yt 6)).aB ((List.range (wI (iL (bF [W0 a]) (yt 6)).aj)).map fun(k:Nat)=>yt 6 [mW (iL (bF [W0 a]) (yt 6)) (gq (iL (bF [W0 a]) (yt 6)).aj k)]):=e;rw[s1,t1]at e;rw[e];refine Eq.trans (congrArg _ (a5H fun k hk=>?_)) ew.symm;have hk:=a5D.1 hk;have e2:=afd j1 o1 (k:=k) (by show k<wI (W0 a).aj;rw[sa];exact hk);have e2:mW (iL (bF [W0 a]) (yt 6)) (gq (W0 a).aj (k:Int))=yt 6 [mW (W0 a) (gq (W0 a).aj (k:Int))]:=e2;rw[sa,ea k hk]at e2;rw[e2,ail]
theorem JC.ifF{a b}(h:JC a b):Jw (W0 a,b,b)=(b,0):=by obtain⟨⟨fa,sa,oa⟩,ea,_⟩:=Ny h.pa h.ka;have gb:=WR h.pb h.kb;have hp:=a1f (P:=kM) fa.p h.pb h.pb;have hc:aU [W0 a,b,b]=0:=WZ hp (a1f (P:=fun x=>gU x=0) fa.k h.kb h.kb) (a1f (P:=fun x=>x.aj=a.aj/\x.aB=a.aB) ⟨sa,oa⟩ ⟨h.s.symm,h.o.symm⟩ ⟨h.s.symm,h.o.symm⟩) (by simp);have hJ:=tJ (D:=[W0 a,b,b]) (by simp) (by simp) hp hc;have hj:mY (bF [W0 a,b,b]) WT:=yj hJ (Jb.inD hp hc) fun l hl hv=>Ro (hv _ (bQ (show 0<l.length by rw[hl];exact Nat.succ_pos 2))) (hv _ (bQ (show 1<l.length by rw[hl];exact Nat.succ_lt_succ (Nat.succ_pos 1)))) (hv _ (bQ (show 2<l.length by rw[hl];exact Nat.lt_succ_self 2)));show(if(aU [W0 a,b,b] != 0)=true then _ else(iL (bF [W0 a,b,b]) WT,0))=_;rw[hc,a0U (by simp)];refine congrArg (fun x=>(x,(0:Int))) ?_;have e:=a3A hJ hj;have e:iL (bF [W0 a,b,b]) WT=kL (W0 a).aj (W0 a).aB ((List.range (wI (W0 a).aj)).map fun(k:Nat)=>WT [mW (W0 a) (gq (W0 a).aj k),mW b (gq (W0 a).aj k),mW b (gq (W0 a).aj k)]):=e;rw[sa,oa]at e;rw[e];refine Eq.trans ?_ (UK h.pb h.kb).1;rw[<-h.s,<-h.o];refine congrArg _ ?_;unfold cellsD;rw[<-h.s];refine a5H fun k hk=>?_;have hk:=a5D.1 hk;rw[ea k hk];exact ao8 _ (a3x gb.c _)
open Go Tw Pv bV
def atq:fV aG:=bU 16 (a2 dA dA) tA (fun _=>true) (fun p=>[FI p.1/\FI p.2]) ao6
theorem atr:Gd atq:=atp.add fun n hO p hp=>by
 obtain⟨a,b⟩:=p;obtain⟨ra,rb⟩:FI a/\FI b:=hp _ iC;cases ht:(!(Zo (a,b)))
 .have ht2:Zo (a,b)=true:=by simpa using ht
  obtain⟨hf,hP,hk,_,es,eo,ka,kb⟩:=a07 ht2 ra rb;have h:JC a b:=⟨hP.1,hP.2,ka,kb,es,eo⟩;obtain⟨⟨fp,_,_⟩,_⟩:=Ny hP.1 ka;obtain⟨⟨fq,_,_⟩,_⟩:=Ny hP.2 kb;have ca:aU [a]=0:=by rw[Oq hP.1];exact ka
  have cb:aU [b]=0:=by rw[Oq hP.2];exact kb
  have c1:=h.c;have c2:=h.sym.c;have fpq:=And.intro fp.f fq.f;have fqp:=And.intro fq.f fp.f;have ppq:=And.intro fp.p fq.p;have pqp:=And.intro fq.p fp.p;have i1:tK 15=true:=by decide
  have i2:tK 16=true:=by decide
  obtain⟨dc,_⟩:=h.op i1;obtain⟨dg,_⟩:=h.op i2;obtain⟨k1,k2⟩:=h.com;obtain⟨n1,n2,n3,n4⟩:=not_not hP.1 ka;have e5:=h.both;have e6:=h.ifF;have hl:[a,b].length<=1000:=show 2<=1000 by decide
  have t1:WV (iL (bF [W0 a,W0 b]) (tV 15)) (iL (bF [W0 b,W0 a]) (tV 15))=true:=by rw[<-k1];exact Ey _
  have t2:WV (iL (bF [W0 a,W0 b]) (tV 16)) (iL (bF [W0 b,W0 a]) (tV 16))=true:=by rw[<-k2];exact Ey _
  have t3:(if((JB (a.aj,a.aB,[a,b])).2==0)=true then WV (JB (a.aj,a.aB,[a,b])).1 (iL (bF [W0 a,W0 b]) (tV 15))else false)=true:=by rw[e5];exact Ey _
  have t4:((qR (6,W0 a)).2==0)=true:=by rw[n1];rfl
  have t5:(if((qR (6,(qR (6,W0 a)).1)).2==0)=true then WV (qR (6,(qR (6,W0 a)).1)).1 (W0 a)else false)=true:=by rw[n4];exact Ey _
  have t6:(if((Jw (W0 a,b,b)).2==0)=true then WV (Jw (W0 a,b,b)).1 b else false)=true:=by rw[e6];exact Ey _
  have f3:Et (JB (a.aj,a.aB,[a,b])).1:=by rw[e5];exact dc.f
  have f5:Et (qR (6,(qR (6,W0 a)).1)).1:=by rw[n4];exact fp.f
  have f6:Et (Jw (W0 a,b,b)).1:=by rw[e6];exact hf.2
  have z:(!true)=false:=rfl;have y:true=true:=rfl;exact aN hO (.b (congrArg Bool.not ht2) (.o hf.1 (.o hP.1 (.o ca (.o hf.2 (.o hP.2 (.o cb (.b z (.b z (.o fpq (.o ppq (.o c1 (.o i1 (.o fqp (.o pqp (.o c2 (.o i1 (.o fpq (.o ppq (.o c1 (.o i2 (.o fqp (.o pqp (.o c2 (.o i2 (.o hf.1.s (.o hf.1.o (.o (Jy hf.1 hf.2) (.o hl (.o hf.1.s (.o hf.1.o (.o (Jy hP.1 hP.2) (.o hl (.o fp.f (.o fp.p (.o n3 (.o n2 (.o fp.f (.o hf.2 (.o hf.2 (.o fp.p (.o hP.2 (.o hP.2 (.b y (.b y (.b y (.b y (.o dc.f (.b t1 (.o dg.f (.b t2 (.o f3 (.b t3 (.b t4 (.o f5 (.b t5 (.o f6 (.b t6 .rr))))))))))))))))))))))))))))))))))))))))))))))))))))))))))
 .exact aN hO (.b ht .rr)
open Go Tw Pv
section
variable{H:Type}{nZ:LI2×LI3->H}{w:LI4}
abbrev RdX(nZ:LI2×LI3->H)(w:LI4)(g t:Nat){α:Type}(ps:α->List (PV aG))(Q:α->Prop):Prop:=RdP nZ X0 Tryz.prog w g t ps Q
theorem a3B:Tryz.prog.cellsOf 3=1:=by kernel_rfl
theorem att:Tryz.prog.cellsOf 5=1:=by kernel_rfl
theorem aff:Tryz.prog.cellsOf 39=2:=by kernel_rfl
theorem zI0:dH Tryz.prog 3=some 1:=by kernel_rfl
theorem ad5{g}:RdX nZ w (g+1) 3 (fun n:Int=>[.int .i64 n]) (fun n=>(Lit.int .i64 n).wf=true):=a2J Tryz.underlying3
theorem rU8{g}:RdX nZ w (g+1) 5 (fun n:Int=>[.int .u8 n]) (fun n=>0<=n/\n<=255):=(a2J Tryz.underlying5).iso id (fun _=>rfl) fun n h=>by simp only[Lit.wf,a2K,a1F]at h;exact h
theorem aa4{g}:RdX nZ w (g+2) 22 (fun l:LI0=>[lI l]) (fun l=>∀a∈l,(Lit.int .i64 a).wf=true):=Qu (e:=3) Tryz.underlying22 a3B zI0 (by decide) (fun _=>rfl) ad5
theorem atu{g}:RdX nZ w (g+2) 39 V.ps (fun v=>0<=v.f/\v.f<=255):=
 (H9 Tryz.underlying39 aff (fun _=>rfl) (sQ rfl att (fun _=>rfl) rU8 (sQ rfl a3B (fun _=>rfl) ad5 VW))).iso (fun x=>⟨x.1,x.2.1⟩) (fun _=>rfl) fun _ h=>h.1
theorem ao9:dH Tryz.prog 39=some 2:=by kernel_rfl
theorem aoa{g}:RdX nZ w (g+3) 23 (fun l:List V=>[lV l]) (fun l=>∀v∈l,0<=v.f/\v.f<=255):=Qu (e:=39) Tryz.underlying23 aff ao9 (by decide) (fun _=>rfl) atu
theorem aio:Tryz.prog.cellsOf 22=1:=by kernel_rfl
end
open Go Tw Pv bV
section
variable{H:Type}{nZ:LI2×LI3->H}{w:LI4}
theorem aob:Tryz.prog.cellsOf 105=2:=by kernel_rfl
theorem atv:dH Tryz.prog 105=some 2:=by kernel_rfl
theorem aoc:Tryz.prog.cellsOf 24=1:=by kernel_rfl
theorem atw:Tryz.prog.cellsOf 23=1:=by kernel_rfl
theorem atx:Tryz.prog.cellsOf 26=5:=by kernel_rfl
theorem rBr{g}:RdX nZ w (g+3) 105 Br.ps (fun b=>∀a∈b.aA,(Lit.int .i64 a).wf=true):=
 (H9 Tryz.underlying105 aob (fun _=>rfl) (sQ rfl a3B (fun _=>rfl) ad5 (sQ rfl aio (fun _=>rfl) aa4 VW))).iso (fun x=>⟨x.1,x.2.1⟩) (fun _=>rfl) fun _ h=>h.2.1
theorem aty{g}:RdX nZ w (g+4) 24 (fun l:List Br=>[lBr l]) (fun l=>∀b∈l,∀a∈b.aA,(Lit.int .i64 a).wf=true):=Qu (e:=105) Tryz.underlying24 aob atv (by decide) (fun _=>rfl) rBr
theorem aa5{a}(h:(Lit.int .i64 a).wf=true):Hg a:=by
 simp only[Lit.wf,a2K,a1F]at h;obtain⟨h1,h2⟩:=h;have e1:i64.min=-(2^63):=by decide
 have e2:i64.max=2^63-1:=by decide
 exact⟨by omega,by omega⟩
theorem rDg{g}:RdX nZ w (g+5) 26 Dg.ps FI:=
 (H9 Tryz.underlying26 atx (fun _=>rfl) (sQ rfl aio (fun _=>rfl) aa4 (sQ rfl aio (fun _=>rfl) aa4 (sQ rfl atw (fun _=>rfl) aoa (sQ rfl aoc (fun _=>rfl) aty (sQ rfl a3B (fun _=>rfl) ad5 VW)))))).iso (fun x=>⟨x.1,x.2.1,x.2.2.1,x.2.2.2.1,x.2.2.2.2.1⟩) (fun _=>rfl) fun x h=>by
  obtain⟨_,_,h3,h4,h5,_⟩:=h;refine⟨fun i hi k hk=>?_,aa5 h5,fun v hv=>(h3 v hv).1⟩;have hb:fE ⟨x.1,x.2.1,x.2.2.1,x.2.2.2.1,x.2.2.2.2.1⟩ i∈x.2.2.2.1:=by show(x.2.2.2.1).getD i lD∈_;rw[List.getD,a0N hi];exact a5K _
  refine aa5 (h4 _ hb _ ?_);rw[List.getD,a0N hk];exact a5K _
end
open Go.ChangeShapes Go.WideShapes Go.ChangeAt Go.RowKit
theorem Tryz.own:ownKnob Tryz.prog.godebug=none:=by kernel_rfl
theorem Tryz.laidOut:laidOutB Tryz.prog=true:=by kernel_rfl
theorem Tryz.mixed:Tryz.prog.follows .mixedOrders=true:=by kernel_rfl
theorem aip:iK Tryz.prog T.ext:=by
 show iK Tryz.prog agO;intro fv args h v h' ws hc;unfold agO at hc;split at hc
 .split at hc
  .exact abp (a0e (T:=Tm) Tryz.mixed (fun _ _ _ _ _ _ h=>by cases h) 2) _ _ _ _ _ _ hc
  split at hc
  .exact abw _ _ _ _ _ _ hc
  exact Ye adC _ _ _ _ _ _ hc
 exact Ye adC _ _ _ _ _ _ hc
theorem Tryz.tys16:Tryz.f16.params.toList=[26,26]:=by kernel_rfl
set_option maxRecDepth 100000 in
theorem LJ(os)(started:os.Started)(H)(enc:LI2×LI3->H) :ReturnsInHanded {} Tryz.checked os 16 .any (Rows.applyLawsSpec.pre6 enc Tryz.prog Tryz.f16 Rows.applyLawsRow.domain false) (Rows.applyLawsSpec.post enc Tryz.prog Tryz.f16 false true false false):=by
 refine returnsInHanded_of_change (C:=Tryz.checked) Tryz.own started (by kernel_rfl) Tryz.func16
  (ChangeSpec.witness6 (enc:=enc) (C:=Tryz.checked) false ⟨#[],#[.agg #[.slice none 0 0,.slice none 0 0,.slice none 0 0,.slice none 0 0,.int .i64 0],.agg #[.slice none 0 0,.slice none 0 0,.slice none 0 0,.slice none 0 0,.int .i64 0]],[]⟩ 8 (by kernel_rfl) (by kernel_rfl) (by kernel_rfl) (by kernel_rfl)) ?_
 intro W base args ds gs before aod hW axY _;have XH:∀(j:Nat) t v,Tryz.f16.params[j]? = some t->args[j]? = some v->Value.okWide Tryz.prog W .any base t v:=aod;have hW':=hW;obtain⟨p,q,atz,hV,rfl,hfz,jG⟩:=hW;have hTA:DataW.TrodAll enc Tryz.prog W 0 (fun _=>true) true Tryz.f16.params.toList args.toList ds p:=atz;obtain⟨rfl,rfl⟩:=trodVars_none hV;rw[Tryz.tys16]at hTA;obtain⟨d0,_,rfl,r0,_,_,hTA⟩:=Ug hTA;obtain⟨d1,_,rfl,r1,_,_,hTA⟩:=Ug hTA;obtain⟨_,rfl,_⟩:=trodAll_nil hTA;obtain⟨a0,q0,h0⟩:=rDg (g:=2) d0 r0;obtain⟨a1,q1,h1⟩:=rDg (g:=2) d1 r1;obtain⟨x0,e0,g0,v0⟩:=h0 ([]);obtain⟨x1,e1,g1,v1⟩:=h1 ([]++e0);have w0:=v0 (e1);simp only[a6j,aah,a6l]at w0;have w1:=v1 ([]);simp only[a6j,aah,a6l]at w1;obtain⟨N,hN⟩:=atr;have atA:=hN (N+1) (by omega) 16 ((Pv.a2 dA dA).put (a0,a1)) (tA.put true) [] [FI a0/\FI a1] rfl (by intro p hp;simp only[a1G,List.not_mem_nil,or_false]at hp;subst hp;exact⟨q0,q1⟩)
 obtain⟨h',hr⟩:=agH (h:=[]++e0++e1) atA (by simp only[a6j,aah,a6l];exact .cons (.agg w0.1 w0.2) (.cons (.agg w1.1 w1.2) .nil));exact a0f (P:=Tryz.prog) (T:=T) (L:=LL) (n:=N) (g:=7) Tryz.mixed Tryz.laidOut rfl rfl (by kernel_rfl) Tryz.underlying4 (by kernel_rfl) hW' XH
  (by rw[Tryz.tys16];exact(a8b (by kernel_rfl) g0 (a8b (by kernel_rfl) g1 agG))) aip (by kernel_rfl) (by kernel_rfl) hr
theorem LK:joinedFacts Tryz.pinned.checked.prog 16 Tryz.f16 Rows.applyLawsSpec Rows.applyLawsRow=true:=by kernel_rfl
theorem ApplyLaws_holds:Rows.ApplyLawsSaid:=
 OpenClaim.holds_of_wide 16 Tryz.f16 rfl rfl rfl rfl rfl rfl rfl ⟨rfl,rfl,rfl,rfl,rfl⟩ rfl rfl rfl rfl rfl (by kernel_rfl) Tryz.func16 LK
  (a7v (by kernel_rfl)) (by unfold Func.isWrapper;first|(rw[a18 (by decide +kernel)];kernel_rfl)|(rw[a0U (by decide +kernel)];exact⟨rfl,rfl⟩))
  (fun os started H enc _=>LJ os started H enc)
end Go.Proofs.YtmobpoiejckagaaGreat
