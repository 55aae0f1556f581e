/- Any diagram with any digit for any choice is the document's, or the error is; for all diagrams, choices and digits. -/
import Derived.ProofKit
import Derived.Test.YtmobpoiejckagaaGreatRows
import Derived.Test.YtmobpoiejckagaaGreatP05
set_option linter.constructorNameAsVariable false
set_option linter.unusedVariables false
set_option linter.unusedSimpArgs false
set_option linter.unusedSectionVars false
open Go.IntKind (i64)
noncomputable section
namespace Go.Proofs.YtmobpoiejckagaaGreat
open Go Tw Pv dw
def a05(J:Jb):List (List V):=(XZ J).map fun q=>J.D.map fun d=>vN d q
def uS(J:Jb):List V:=((a05 J).filter fun l=>qw (l.drop 1)).map fun l=>l.getD 0 V0
abbrev Yb(e:V×Int):List Int:=Rt e.1.tv
def eY(J:Jb):List (V×Int):=yX Yb (AV (uS J))
theorem a2b(φ:V->Int):∀L:List (List V),dW (Ya φ) L=dW φ ((L.filter fun l=>qw (l.drop 1)).map fun l=>l.getD 0 V0)
 | []=>rfl
 |l::L=>by
  rw[dW,a2b φ L];unfold Ya;cases h:qw (l.drop 1)
  .rw[a0p (by simp),ad7 (by rw[h];simp)];omega
  rw[a0q rfl,ad9 (by rw[h]),a4g,dW]
theorem key_inj{l:List (V×Int)}(hn:(l.map (·.1)).Nodup):∀a∈l,∀b∈l,Yb a=Yb b->a=b:=fun a ha b hb h=>by
 have h1:a.1=b.1:=by
  have h:[a.1.f,a.1.n]=[b.1.f,b.1.n]:=h;simp only[adR,and_true]at h;obtain⟨⟨a1,a2⟩,_⟩:=a;obtain⟨⟨b1,b2⟩,_⟩:=b;simp only at h;rw[h.1,h.2]
 have h2:=Ih hn ha;have h3:=Ih hn hb;rw[h1,h3]at h2;exact ad1 h1 h2.symm
theorem a7W{J:Jb}{t:List (V×Int)}(h:a7V J t):t.Perm (AV (uS J)):=by
 obtain⟨f1,f2⟩:=FY (uS J);refine V5 h.1.nd f1 h.1.pos f2 fun φ=>?_;rw[h.2,Tf];unfold uS;rw[<-a2b];unfold a05;rw[zJ]
theorem a7X{J:Jb}{t:List (V×Int)}(h:a7V J t):yX Yb t=eY J:=EZ (a7W h) (key_inj h.1.nd)
abbrev aaP(e:V×Int):TV×TV:=(e.1.tv,.int .i64 e.2)
theorem Vj:∀t:List (V×Int),wZ (kV.im t)=some (t.map aaP)
 | []=>rfl
 |e::t=>by
  have:=Vj t;show(match qg (kV.pv e.1),qg (PV.int .i64 e.2:PV aC),wZ (kV.im t)with
   |some k,some v,some r=>some ((k,v)::r)
   |_,_,_=>none)=_
  rw[this];rfl
section
variable {n:Nat} {J:Jb} (hJ:kD J) {f:Nat}
include hJ
set_option maxRecDepth 20000 in
theorem PZ(hO:Ok n qG)(hD:0<J.D.length):aU X0 Qp (bQ (n+2)) (.fn 87 [] []) [.agg (J.ps (.fn f [] []))] [] (.map 0) [.map (kV.im (eY J))]:=by
 refine a7K (X:=X0) (P:=Qp) (T:=T) (L:=LL) (n:=n+1) (f:=87) (first:=[]) (cap:=[]) (H:=[]) (t:=Tz Qp 87) (es0:=kV.im (eY J)) (a3H:=(eY J).map aaP) hX (by kernel_rfl) (by kernel_rfl) (by kernel_rfl) rfl (Vj _) ?_;have e0:(Tz Qp 87).body=.seq (eG Y6) (.seq (eG (eH Y6)) (.seq (.seq (eG (eG (eH (eH Y6)))) (.block 0 (.rangeFunc (.tmp 8) #[9,10] (wY Qp 87) (AL Qp 87)))) (.seq (eG (eH (eH (eH Y6)))) .ret))):=by kernel_rfl
 rw[e0];have x0:dN X0 Qp T (bQ (n+1)) LL 87 false (BQ Qp 87) 0 (eG Y6) ⟨lu X0 0 [.agg (J.ps (.fn f [] []))],[],[]⟩ .norm ⟨[(1,.val (.ptr 0 0 5)),(2,.val (.nil .map))],[],[.cells (J.ps (.fn f [] []))]⟩:=zM hX gG (an:=.n) (by kernel_rfl) (.r rfl);have x1:dN X0 Qp T (bQ (n+1)) LL 87 false (BQ Qp 87) 0 (eG (eH Y6)) ⟨[(1,.val (.ptr 0 0 5)),(2,.val (.nil .map))],[],[.cells (J.ps (.fn f [] []))]⟩ .norm ⟨[(1,.val (.ptr 0 0 5)),(2,.val (.nil .map)),(3,.val (.ptr 2 0 1))],[],HQc J f []⟩:=zM hX gG (an:=.n) (by kernel_rfl) (.r rfl);have x2:dN X0 Qp T (bQ (n+1)) LL 87 false (BQ Qp 87) 0 (eG (eG (eH (eH Y6)))) ⟨[(1,.val (.ptr 0 0 5)),(2,.val (.nil .map)),(3,.val (.ptr 2 0 1))],[],HQc J f []⟩ .norm ⟨a7Q J f,[],HQc J f []⟩:=zM hX gG (an:=.n) (by kernel_rfl) (.r rfl);refine aJ.Bc (by kernel_rfl) x0 (aJ.Bc (by kernel_rfl) x1 (aJ.seq (R:=fun e s=>e=.norm∧∃(t:List (V×Int)) (G:List (PB aC)),a7V J t∧s=⟨a7Q J f,[],QB J f false (some .skip) t++G⟩) (aJ.Bc (by kernel_rfl) x2 (aJ.block ?_)) (fun s h=>?_) (fun i s h=>by cases h.1) (fun s h=>by cases h.1)))
 .refine aJ.range (f1:=136) (a1:=[.agg (J.ps (.fn f [] []))]) (b1:=[]) (K:=fun v H1=>∃(t:List (V×Int)) (G:List (PB aC)),a7V J t∧H1=QB J f true none t++G) hX rfl (by kernel_rfl) (by kernel_rfl) (akM hJ hO hD) (fun v H1 hk=>?_);obtain⟨t,G,h1,rfl⟩:=hk;exact⟨true,_,_,_,_,_,_,none,.norm,rfl,rfl,rfl,t,G,h1,rfl⟩
 obtain⟨_,t,G,h1,rfl⟩:=h;have x3:dN X0 Qp T (bQ (n+1)) LL 87 false (BQ Qp 87) 0 (.seq (eG (eH (eH (eH Y6)))) .ret) ⟨a7Q J f,[],QB J f false (some .skip) t++G⟩ .ret ⟨[(2,.val (.map 1))],[],QB J f false (some .skip) t++G⟩:=zM hX gG (an:=.n) (by kernel_rfl) (.r rfl);refine aJ.step (by kernel_rfl) x3 ⟨.inr rfl,[.map 1],by kernel_rfl,1,kV.im t,t.map aaP,rfl,rfl,Vj t,?_⟩;unfold Rx;rw[Tj (g:=aaP) (key:=Yb) (a7B:=fun e=>Rt e.1) (fun _=>rfl),a7X h1]
end
open Go Tw Pv dw
abbrev Q5(t:List (V×Int))(j:Nat):V×Int:=t.getD j (V0,0)
theorem Vk{t:List (V×Int)}{j:Nat}{e:V×Int}(h:t[j]? = some e):Q5 t j=e∧j<t.length∧e∈t:=by
 obtain⟨h1,h2⟩:=a0d.1 h;exact⟨by simp[Q5,List.getD,h],h1,h2▸a4r h1⟩
theorem afR(t:List (V×Int)):t=(List.range t.length).map fun j=>Q5 t j:=
 (oP (d:=((V0,0):V×Int)) (by simp)).2 fun k hk=>by simp[List.getD,hk]
theorem Yc(t:List (V×Int)):dW (fun j=>(Q5 t j).2) (List.range t.length)=dH (fun _=>1) t:=by
 have h1:dH (fun _=>1) t=dW (fun e:V×Int=>e.2) t:=by
  induction t with
  |nil=>rfl
  |cons e m ih=>simp only[dH,dW,ih,abU]
 rw[h1]
 conv=>rhs;rw[afR t]
 rw[zJ]
theorem Bd{t:List (V×Int)}{j:Nat}{v:V}{w:Int}(h:t[j]? = some (v,w)):(kV.im t).length=t.length∧(kV.im t)[j]? = some (.agg v.ps,.int .i64 w):=by
 refine⟨kV.pI t,?_⟩;rw[kV.AZ,h];rfl
structure JG(t:List (V×Int)):Prop where
 pos:∀e∈t,0<e.2
 tot:dH (fun _=>1) t<=2000
theorem JG.len{t:List (V×Int)}(h:JG t):t.length<=2000:=by
 have h6:∀{m:List (V×Int)},(∀e∈m,0<e.2)->(m.length:Int)<=dH (fun _=>1) m:=by
  intro m
  induction m with
  |nil=>intro _;exact a9m _
  |cons e m ih=>
   intro hp;have:=ih fun e he=>hp e (by simp[he]);have:=hp e (by simp);simp only[dH,a4d,abU];omega
 have:=h6 h.pos;have:=h.tot;omega
abbrev a3N:Code:=(Tz Qp 90).body
abbrev lpA:Code:=eG (eG (eH (eG (eH a3N))))
abbrev xA:Code:=eG (eH (eH lpA))
abbrev sA(t:List (V×Int))(z:Int)(js:List Nat):aS aC:=⟨[(2,xi z),(6,.val (.iter 1))],[],[.iG (kV.im t),.dn 0 t.length js]⟩
section
variable {n:Nat} {t:List (V×Int)}
set_option maxRecDepth 20000 in
theorem aqa(h:JG t):aU X0 Qp (bQ (n+1)) (.fn 90 [] []) [.map 0] [.iG (kV.im t)] (.int .i64 (dH (fun _=>1) t)) [.iG (kV.im t)]:=by
 refine aaK (X:=X0) (P:=Qp) (T:=T) (L:=LL) (n:=n) (f:=90) (first:=[]) (cap:=[]) (xs:=[.map 0]) (H:=[.iG (kV.im t)]) (v:=.int .i64 (dH (fun _=>1) t)) (t:=Tz Qp 90) (tv:=.int .i64 (dH (fun _=>1) t)) hX (by kernel_rfl) (by kernel_rfl) (by kernel_rfl) rfl rfl ?_;have e0:(Tz Qp 90).body=.seq (eG a3N) (.seq (.seq (eG (eG (eH a3N))) (.block 0 (.loop lpA))) (.seq (eG (eH (eH a3N))) .ret)):=by kernel_rfl
 have e1:lpA=.seq (.region 2 (a7N (eG lpA)) false) (.seq (.cond (.tmp 8) .skip (.exit 0)) (.block 1 xA)):=by kernel_rfl
 have x0:dN X0 Qp T (bQ n) LL 90 false (BQ Qp 90) 1 (eG a3N) ⟨lu X0 0 [.map 0],[],[.iG (kV.im t)]⟩ .norm ⟨[(0,.val (.map 0)),(2,xi 0)],[],[.iG (kV.im t)]⟩:=zM hX gG (an:=.n) (by kernel_rfl) (.r rfl);have x1:dN X0 Qp T (bQ n) LL 90 false (BQ Qp 90) 1 (eG (eG (eH a3N))) ⟨[(0,.val (.map 0)),(2,xi 0)],[],[.iG (kV.im t)]⟩ .norm ⟨[(2,xi 0),(6,.val (.iter 1))],[],[.iG (kV.im t),.dn 0 (kV.im t).length []]⟩:=zM hX gG (an:=.n) (by kernel_rfl) (.r rfl);rw[kV.pI t]at x1;have hlen:=h.len;have hpj:∀j,j<t.length->0<(Q5 t j).2:=fun k hk=>h.pos _ (fM (d:=((V0,0):V×Int)) hk);rw[e0];refine aJ.Bc (by kernel_rfl) x0 (aJ.seq (R:=fun e s=>e=.norm∧∃seen,s={ sA t (dH (fun _=>1) t) seen with env:=jd (T.iD 90 2) ((8,.val (.bool false))::(7,.val (.dF [.bool false]))::(sA t (dH (fun _=>1) t) seen).env) }) (aJ.Bc (by kernel_rfl) x1 ?_) (fun s hs=>?_) (fun i s h=>by cases h.1) (fun s h=>by cases h.1))
 .rw[e1];refine Ve hX (n:=t.length) (b:=1) (r:=0) (it:=6) (nx:=7) (mo:=8) (es:=kV.im t) (fun seen s=>seen.Nodup∧(∀j∈seen,j<t.length)∧gU X0 (T.eP 90 (dU lpA)) s=sA t (dW (fun j=>(Q5 t j).2) seen) seen) (by kernel_rfl) (a8l (by kernel_rfl)) (a8l (by kernel_rfl)) (kV.pI t) (by unfold LL;omega)
   ⟨a6z,(fun j hj=>(by cases hj)),(by kernel_rfl)⟩ (fun seen s hi=>?_)
  obtain⟨jA,aQ,h3⟩:=hi;rw[<-e1];refine⟨_,h3,by kernel_rfl,by kernel_rfl,by kernel_rfl,fun ho=>⟨by kernel_rfl,seen,?_⟩,fun j e hj he=>⟨by kernel_rfl,?_⟩⟩
  .rw[PY jA aQ ho,Yc]
  rw[kV.AZ,a0f]at he;obtain⟨⟨v,w⟩,rX,rfl⟩:=he;obtain⟨q1,q2,q3⟩:=Vk rX;have FZ:(j::seen).Nodup:=a4m.2 ⟨hj,jA⟩;have G5:∀k∈j::seen,k<t.length:=fun k hk=>by
   rcases a2r.1 hk with rfl|hk
   .exact q2
   exact aQ k hk
  have hb:=Vg (φ:=fun j=>(Q5 t j).2) FZ G5 fun k hk=>ae9 (hpj k hk);have zO:=Vf (φ:=fun j=>(Q5 t j).2) (l:=seen) fun k hk=>ae9 (hpj k (aQ k hk));rw[Yc,dW,q1]at hb;have ht:=h.tot;have hw:=h.pos _ q3;have Yn:i64.wrap (dW (fun j=>(Q5 t j).2) seen+w)=dW (fun j=>(Q5 t j).2) (j::seen):=by
   rw[dZ (by have:(0:Int)<w:=hw;omega) (by have:w+dW (fun j=>(Q5 t j).2) seen<=dH (fun _=>1) t:=hb;omega),dW,q1,agO]
  refine aJ.step (e:=.norm) (by kernel_rfl) (zM (ps1:=⟨[(2,xi (i64.wrap (dW (fun j=>(Q5 t j).2) seen+w))),(6,.val (.iter 1))],[],[.iG (kV.im t),.dn 0 t.length (j::seen)]⟩) hX gG (by kernel_rfl) (.c (.dF [.agg v.ps,.int .i64 w]) [] (Bd rX) (.r rfl))) ⟨.inl rfl,FZ,G5,?_⟩;rw[Yn]
  kernel_rfl
 obtain⟨_,seen,rfl⟩:=hs;exact aJ.step (by kernel_rfl) (zM (e:=.ret) (ps1:=⟨[(2,xi (dH (fun _=>1) t))],[],[.iG (kV.im t),.dn 0 t.length seen]⟩) hX gG (an:=.n) (by kernel_rfl) (.r rfl)) ⟨.inr rfl,[.int .i64 (dH (fun _=>1) t)],by kernel_rfl,rfl⟩
end
open Go Tw Pv dw
abbrev a06:Code:=(Tz Qp 88).body
abbrev lpB:Code:=eG (eG (eH (eG (eH a06))))
abbrev xB:Code:=eG (eH (eH lpB))
def DN(t:List (V×Int))(js:List Nat):List Int:=(js.reverse.filter fun j=>!decide ((Q5 t j).1.f>0)).map fun j=>(Q5 t j).1.n
def fOf(t:List (V×Int))(js:List Nat):Bool:=js.any fun j=>decide ((Q5 t j).1.f>0)
theorem a3O(t:List (V×Int))(j:Nat)(js:List Nat):DN t (j::js)=DN t js++(if decide ((Q5 t j).1.f>0)=true then []else [(Q5 t j).1.n]):=by
 unfold DN;rw[List.reverse_cons,List.filter_append,a4f];congr 1;cases h:decide ((Q5 t j).1.f>0)
 .rw[ad9 (by rw[h];rfl),a0p (by simp)];rfl
 rw[ad7 (by rw[h];simp),a0q rfl];rfl
def lU(t:List (V×Int)):List Int:=gW ((t.filter fun e=>!decide (e.1.f>0)).map fun e=>e.1.n)
def uH(t:List (V×Int)):Bool:=t.any fun e=>decide (e.1.f>0)
theorem a07{l l':List Int}(h:l.Perm l'):gW l=gW l':=by
 unfold gW;have hs:∀l:List Int,(l.mergeSort fun x y=>decide (x<=y)).Pairwise fun a b=>decide (a<=b)=true:=fun l=>
  List.pairwise_mergeSort (fun a b c h1 h2=>by simp at *;omega) (fun a b=>by simp;omega) l
 exact List.Perm.eq_of_pairwise (le:=fun a b=>decide (a<=b)=true) (fun a b _ _ h1 h2=>by simp at h1 h2;omega) (hs l) (hs l') ((adH l _).trans (h.trans (adH l' _).symm))
theorem afT{t:List (V×Int)}{js:List Nat}(hn:js.Nodup)(hl:∀j∈js,j<t.length)(ha:∀j,j<t.length->j∈js):gW (DN t js)=lU t∧fOf t js=uH t:=by
 have hp:(js.reverse).Perm (List.range t.length):=(List.reverse_perm js).trans ((a8a hn adE).2 fun j=>⟨fun h=>a4o.2 (hl j h),fun h=>ha j (a4o.1 h)⟩);constructor
 .refine a07 ?_;unfold DN;have e:((t.filter fun e=>!decide (e.1.f>0)).map fun e=>e.1.n)=((List.range t.length).filter fun j=>!decide ((Q5 t j).1.f>0)).map fun j=>(Q5 t j).1.n:=by
   conv=>lhs;rw[afR t]
   rw[List.filter_map,a8o];rfl
  rw[e];exact(hp.filter _).map _
 unfold fOf uH;rw[a4E,agq,agq];constructor
 .rintro⟨j,hj,h⟩;exact⟨Q5 t j,fM (d:=((V0,0):V×Int)) (hl j hj),h⟩
 rintro⟨e,he,h⟩;obtain⟨j,hj,rfl⟩:=a4G.1 he;exact⟨j,ha j hj,by rw[(Vk (a0g hj)).1];exact h⟩
abbrev sBl(t:List (V×Int))(l:List Int)(b:Bool)(js:List Nat):aS aC:=match l with
 | []=>⟨[(2,.val (.nil .slc)),(3,xl b),(6,.val (.iter 1))],[],[.iG (kV.im t),.dn 0 t.length js]⟩
 |x::l=>⟨[(2,.val (.own 2)),(3,xl b),(6,.val (.iter 1))],[],[.iG (kV.im t),.dn 0 t.length js,.list false false 3 (x::l)]⟩
theorem afU{n:Nat}:aU X0 Qp (bQ (n+1)) (.fn 137 [] []) [.nil .slc] [] (.dF []) []:=by
 intro A m h tf qZ hr hf hx;obtain⟨x,r,rfl,h1,h2⟩:=hx.inv;have:=h2.inv0;subst this;have htf:=hf.UD;subst htf;have hx:x=.nil .slc:=jO h1 rfl;subst hx;exact⟨.dF [],h,[],m,rfl,hr,.dF rfl (fun i x y hx=>by simp at hx),.refl,.refl,fun b hb=>by cases hb⟩
section
variable {n:Nat} {t:List (V×Int)}
set_option maxRecDepth 20000 in
theorem aaQ(h:JG t):aJ X0 Qp T (bQ (n+1)) (uN Qp T (bQ (n+1)) LL) LL 88 (BQ Qp 88) 1 (.block 0 (.loop lpB)) (sBl t [] false [])
  fun e s=>e=.norm∧∃l seen,gW l=lU t∧s={ sBl t l (uH t) seen with env:=jd (T.iD 88 2) ((8,.val (.bool false))::(7,.val (.dF [.bool false]))::(sBl t l (uH t) seen).env) }:=by
 have e1:lpB=.seq (.region 2 (a7N (eG lpB)) false) (.seq (.cond (.tmp 8) .skip (.exit 0)) (.block 1 xB)):=by kernel_rfl
 have hlen:=h.len;rw[e1];refine PX hX (n:=t.length) (b:=1) (r:=0) (it:=6) (nx:=7) (mo:=8) (es:=kV.im t) (fun seen s=>seen.Nodup∧(∀j∈seen,j<t.length)∧∃gs,kT 1 gs (gU X0 (T.eP 88 (dU lpB)) s)=some (sBl t (DN t seen) (fOf t seen) seen)) (by kernel_rfl) (a8l (by kernel_rfl)) (a8l (by kernel_rfl)) (kV.pI t) (by unfold LL;omega)
  ⟨a6z,(fun j hj=>(by cases hj)),[],(by kernel_rfl)⟩ (fun seen s hi=>?_)
 obtain⟨jA,aQ,gs,h3⟩:=hi;rw[<-e1];refine⟨gs,_,h3,?_,?_,?_,fun ho=>?_,fun j e hj he=>?_⟩
 .cases DN t seen<;>kernel_rfl
 .cases DN t seen<;>kernel_rfl
 .cases DN t seen<;>kernel_rfl
 .obtain⟨a1,a2⟩:=afT jA aQ ho;refine⟨?_,DN t seen,seen,a1,?_⟩
  .cases DN t seen<;>kernel_rfl
  .rw[a2]
 .rw[kV.AZ,a0f]at he;obtain⟨⟨v,w⟩,rX,rfl⟩:=he;obtain⟨q1,q2,q3⟩:=Vk rX;have FZ:(j::seen).Nodup:=a4m.2 ⟨hj,jA⟩;have G5:∀k∈j::seen,k<t.length:=fun k hk=>by
   rcases a2r.1 hk with rfl|hk
   .exact q2
   .exact aQ k hk
  have hll:(DN t seen).length<=2000:=by
   have h1:(DN t seen).length<=seen.length:=by
    unfold DN;rw[a4l];exact a4T (a8Z ..) (by simp)
   have h2:seen.length<=t.length:=by
    have:=(JE jA aQ).length_eq;have h3:=a8Z (fun j=>seen.contains j) (List.range t.length);rw[a8P]at h3;omega
   omega
  have DW:=a3O t j seen;have X9:fOf t (j::seen)=(decide (v.f>0)||fOf t seen):=by unfold fOf;rw[adh,q1]
  rw[q1]at DW;generalize fOf t seen=b at X9;have DW:DN t (j::seen)=DN t seen++(if decide (v.f>0)=true then []else [v.n]):=DW;generalize DN t seen=l at DW hll;cases hv:decide (v.f>0)
  .rw[hv,a0p (by simp)]at DW;rw[hv,afS]at X9;have hv1:decide (v.f>0)=false:=hv;cases l with
   |nil=>
    have a1:[v.n].length<=ah:=by rw[a3F];unfold ah;omega
    refine⟨by kernel_rfl,aJ.step (e:=.norm) (by kernel_rfl) (zM (ps1:=⟨[(2,.val (.own 3)),(3,xl b),(6,.val (.iter 1))],[v.ps],[.iG (kV.im t),.dn 0 t.length (j::seen),.list true true 3 [v.n],.list true false 3 [v.n]]⟩) hX gG (by kernel_rfl) (.c (.dF [.agg v.ps,.int .i64 w]) [] (Bd rX) (.b hv1 (.o a1 (.r rfl))))) ⟨.inl rfl,FZ,G5,[.flag 3,.gc [1,3]],?_⟩⟩;rw[DW,X9]
    kernel_rfl
   |cons x l=>
    have a1:(x::l).length+[v.n].length<=ah:=by rw[a3F];unfold ah;omega
    refine⟨by kernel_rfl,aJ.step (e:=.norm) (by kernel_rfl) (zM (ps1:=⟨[(2,.val (.own 4)),(3,xl b),(6,.val (.iter 1))],[v.ps],[.iG (kV.im t),.dn 0 t.length (j::seen),.gone,.list true true 3 [v.n],.list false false 3 (x::l++[v.n])]⟩) hX gG (by kernel_rfl) (.c (.dF [.agg v.ps,.int .i64 w]) [] (Bd rX) (.b hv1 (.o a1 (.r rfl))))) ⟨.inl rfl,FZ,G5,[.gc [1,4]],?_⟩⟩;rw[DW,X9]
    kernel_rfl
  .rw[hv,a0q rfl,a5T]at DW;rw[hv,Bool.true_or]at X9;have hv1:decide (v.f>0)=true:=hv;cases l with
   |nil=>
    refine⟨by kernel_rfl,aJ.step (e:=.exit 1) (by kernel_rfl) (zM (ps1:=⟨[(2,.val (.nil .slc)),(3,xl true),(6,.val (.iter 1))],[v.ps],[.iG (kV.im t),.dn 0 t.length (j::seen)]⟩) hX gG (by kernel_rfl) (.c (.dF [.agg v.ps,.int .i64 w]) [] (Bd rX) (.b hv1 (.r rfl)))) ⟨.inr rfl,FZ,G5,[],?_⟩⟩;rw[DW,X9]
    kernel_rfl
   |cons x l=>
    refine⟨by kernel_rfl,aJ.step (e:=.exit 1) (by kernel_rfl) (zM (ps1:=⟨[(2,.val (.own 2)),(3,xl true),(6,.val (.iter 1))],[v.ps],[.iG (kV.im t),.dn 0 t.length (j::seen),.list false false 3 (x::l)]⟩) hX gG (by kernel_rfl) (.c (.dF [.agg v.ps,.int .i64 w]) [] (Bd rX) (.b hv1 (.r rfl)))) ⟨.inr rfl,FZ,G5,[],?_⟩⟩;rw[DW,X9]
    kernel_rfl
theorem Es:∀l:List Int,iK (Ez X0 3 l)=some (l.map fun n=>TV.int .i64 n)
 | []=>rfl
 |a::l=>by
  have:=Es l;show(match qU (PV.int .i64 a:PV aC),iK (Ez X0 3 l)with
   |some a,some b=>some (a::b)
   |_,_=>none)=_
  rw[this];rfl
theorem a3P{mZ:Bool}{b:Bool}{Hs:List (PB aC)}:a3G X0 Qp mZ (.dF [.nil .slc,.bool b]) Hs (fun _=>.dF [.nil .slc,.bool b]) []:=fun A m h h1 w hr hw _=>by
 cases hw with
 |gone hi _ _=>simp[bC]at hi
 |dF a1 a2=>
  obtain⟨x,r,rfl,v0,v1⟩:=Pv.bZ.inv (⟨a1,a2⟩:Pv.bZ X0 Qp _ _ _ _ _);obtain⟨y,r,rfl,v2,v3⟩:=v1.inv;have:=v3.inv0;subst this;have:=jO v2 (show qg (PV.bool b:PV aC)=some (TV.bool b)from rfl);subst this;have:=jO v0 (show qg (PV.nil .slc:PV aC)=some (TV.nil .slc)from rfl);subst this;unfold O4;simp only[BJ,BJ.EM,wI,nG,nG.yV,CU,Ua,L8,a4g,abA,a5T,a1b]
set_option maxRecDepth 20000 in
theorem adp(h:JG t):(lU t=[]->aU X0 Qp (bQ (n+2)) (.fn 88 [] []) [.map 0] [.iG (kV.im t)] (.dF [.nil .slc,.bool (uH t)]) [.iG (kV.im t)]) ∧
  (lU t≠[]->aU X0 Qp (bQ (n+2)) (.fn 88 [] []) [.map 0] [.iG (kV.im t)] (.dF [.own 1,.bool (uH t)]) [.iG (kV.im t),.list false false 3 (lU t)]):=by
 have e0:(Tz Qp 88).body=.seq (eG a06) (.seq (.seq (eG (eG (eH a06))) (.block 0 (.loop lpB))) (eH (eH a06))):=by kernel_rfl
 have x0:dN X0 Qp T (bQ (n+1)) LL 88 false (BQ Qp 88) 1 (eG a06) ⟨lu X0 0 [.map 0],[],[.iG (kV.im t)]⟩ .norm ⟨[(0,.val (.map 0)),(2,.val (.nil .slc)),(3,xl false)],[],[.iG (kV.im t)]⟩:=zM hX gG (an:=.n) (by kernel_rfl) (.r rfl);have x1:dN X0 Qp T (bQ (n+1)) LL 88 false (BQ Qp 88) 1 (eG (eG (eH a06))) ⟨[(0,.val (.map 0)),(2,.val (.nil .slc)),(3,xl false)],[],[.iG (kV.im t)]⟩ .norm ⟨[(2,.val (.nil .slc)),(3,xl false),(6,.val (.iter 1))],[],[.iG (kV.im t),.dn 0 (kV.im t).length []]⟩:=zM hX gG (an:=.n) (by kernel_rfl) (.r rfl);rw[kV.pI t]at x1;have run:∀Q:Ex->aS aC->Prop,(∀l seen,gW l=lU t->aJ X0 Qp T (bQ (n+1)) (uN Qp T (bQ (n+1)) LL) LL 88 (BQ Qp 88) 1 (eH (eH a06)) { sBl t l (uH t) seen with env:=jd (T.iD 88 2) ((8,.val (.bool false))::(7,.val (.dF [.bool false]))::(sBl t l (uH t) seen).env) } Q) ->
   aJ X0 Qp T (bQ (n+1)) (uN Qp T (bQ (n+1)) LL) LL 88 (BQ Qp 88) 1 (Tz Qp 88).body ⟨lu X0 0 [.map 0],[],[.iG (kV.im t)]⟩ Q:=fun Q hQ=>by
  rw[e0];refine aJ.Bc (by kernel_rfl) x0 (aJ.seq (R:=fun e s=>e=.norm∧∃l seen,gW l=lU t∧s={ sBl t l (uH t) seen with env:=jd (T.iD 88 2) ((8,.val (.bool false))::(7,.val (.dF [.bool false]))::(sBl t l (uH t) seen).env) }) (aJ.Bc (by kernel_rfl) x1 (aaQ (n:=n) h)) (fun s hs=>?_) (fun i s h=>by cases h.1) (fun s h=>by cases h.1));obtain⟨_,l,seen,h1,rfl⟩:=hs;exact hQ l seen h1
 have hlen:∀l:List Int,gW l=lU t->l.length<=2^20:=fun l hl=>by
  have h1:(gW l).length=l.length:=by unfold gW;rw[aa9]
  have h2:(lU t).length<=t.length:=by
   unfold lU gW;rw[aa9,a4l];exact a8Z ..
  have:=h.len;rw[hl]at h1;omega
 have aqc:gW []=([]:List Int):=by simp[gW]
 constructor
 .intro hn;have:=DL (X:=X0) (P:=Qp) (T:=T) (L:=LL) (n:=n+1) (f:=88) (first:=[]) (cap:=[]) (xs:=[.map 0]) (H:=[.iG (kV.im t)]) (N:=[]) (v:=.dF [.nil .slc,.bool (uH t)]) (tv:=fun _=>.dF [.nil .slc,.bool (uH t)]) (tN:=[]) (t:=Tz Qp 88) hX (by kernel_rfl) (by kernel_rfl) (by kernel_rfl) rfl (fun A m h hr=>⟨m,by simpa using hr,Pv.bZ.cons (.nil .slc) (.cons (.bool _) .nil) |> fun h=>.dF h.1 h.2,by simpa using Fr.refl,.refl⟩) (run _ fun l seen hl=>?_)
  .exact this
  .rw[hn]at hl;have qJ:l=[]:=by
    have h1:(gW l).length=l.length:=by unfold gW;rw[aa9]
    rw[hl]at h1;exact a4c h1.symm
   subst qJ;exact aJ.step (by kernel_rfl) (zM (e:=.ret) (ps1:=⟨[(2,.val (.nil .slc)),(3,xl (uH t))],[],[.iG (kV.im t),.dn 0 t.length seen]⟩) hX gG (by kernel_rfl) (.fr [] (afU (n:=n)) (.r rfl))) ⟨.inr rfl,[.nil .slc,.bool (uH t)],by kernel_rfl,a3P⟩
 .intro hn;have:=DL (X:=X0) (P:=Qp) (T:=T) (L:=LL) (n:=n+1) (f:=88) (first:=[]) (cap:=[]) (xs:=[.map 0]) (H:=[.iG (kV.im t)]) (N:=[.list false false 3 (lU t)]) (v:=.dF [.own 1,.bool (uH t)]) (tv:=fun n=>.dF [.slc n 0 (lU t).length (lU t).length 1 false,.bool (uH t)]) (tN:=[.cells .last ((lU t).map fun n=>TV.int .i64 n)]) (t:=Tz Qp 88) hX (by kernel_rfl) (by kernel_rfl) (by kernel_rfl) rfl (fun A m h hr=>aaM hX (H:=[.iG (kV.im t)]) (ty:=3) (l:=lU t) hn (Es _) KL (by decide) (fun _ _ _=>rfl) rfl hr) (run _ fun l seen hl=>?_)
  .exact this
  .cases l with
   |nil=>rw[aqc]at hl;exact absurd hl.symm hn
   |cons x l=>
    have hs:=acI (n:=n) (k:=false) (ex:=false) (x::l) (hlen _ hl);rw[hl]at hs;exact aJ.step (by kernel_rfl) (zM (e:=.ret) (ps1:=⟨[(2,.val (.own 2)),(3,xl (uH t))],[],[.iG (kV.im t),.dn 0 t.length seen,.list false false 3 (lU t)]⟩) hX gG (by kernel_rfl) (.fr [2] hs (.r rfl))) ⟨.inr rfl,[.own 2,.bool (uH t)],by kernel_rfl,a7M hX (i:=2) (ty:=3) (l:=lU t) rfl hn (Es _) KL rfl⟩
end
open Go Tw Pv dw
abbrev vF:PV aC:=.fn 139 [] [.ptr 1 0 1]
abbrev a7Y:Code:=(Tz Qp 138).body
abbrev afV:Code:=(Tz Qp 139).body
abbrev lpW:Code:=eG (eG (eH afV))
abbrev xW:Code:=eG (eH (eH lpW))
abbrev a7Z:List (Nat×PE aC):=[(2,.val (.ptr 2 0 1)),(4,.val (.nil .slc)),(6,.val vF)]
abbrev Q7(rd:Bool)(jI:Option Code):PB aC:=.loop rd 138 (BQ Qp 138) a7Z [7] (wY Qp 138) (AL Qp 138) jI
abbrev H3(t:List (V×Int))(x:PV aC):List (PB aC):=[.iG (kV.im t),.aF [.map 0],.cells [x]]
theorem one_le(w:Int):[w].length<=ah:=by rw[a3F];unfold ah;omega
theorem aqd{n:Nat}(t:List (V×Int))(w:Int):aU X0 Qp (bQ (n+1)) (.kW 4) [.int .i64 w] (H3 t (.nil .slc)++[.mark,Q7 true none]) (.bool true) (H3 t (.own 6)++[.mark,Q7 true none,.list true true 3 [w],.list true false 3 [w]]):=by
 have q1:dN X0 Qp T (bQ n) LL 138 true (BQ Qp 138) 5 (wY Qp 138) ⟨ug a7Z [7] [.int .i64 w],[],H3 t (.nil .slc)++[.mark,Q7 true none]⟩ .norm ⟨[(2,.val (.ptr 2 0 1)),(5,xi w)],[],H3 t (.nil .slc)++[.mark,Q7 true none]⟩:=yh hX gG (by kernel_rfl) .xx;have q2:dN X0 Qp T (bQ n) LL 138 true (BQ Qp 138) 5 (AL Qp 138) ⟨[(2,.val (.ptr 2 0 1)),(5,xi w)],[],H3 t (.nil .slc)++[.mark,Q7 false none]⟩ .norm ⟨[],[],H3 t (.own 6)++[.mark,Q7 false none,.list true true 3 [w],.list true false 3 [w]]⟩:=yh hX gG (by kernel_rfl) (.o (one_le w) .xx);exact Ho hX (l:=4) rfl rfl (by kernel_rfl) q1 rfl q2 rfl
theorem aqe{n:Nat}(t:List (V×Int))(l:List Int)(w:Int)(hl:l.length+[w].length<=ah):aU X0 Qp (bQ (n+1)) (.kW 4) [.int .i64 w] (H3 t (.own 5)++[.mark,Q7 true none,.list false false 3 l]) (.bool true) (H3 t (.own 7)++[.mark,Q7 true none,.gone,.list true true 3 [w],.list false false 3 (l++[w])]):=by
 have q1:dN X0 Qp T (bQ n) LL 138 true (BQ Qp 138) 6 (wY Qp 138) ⟨ug a7Z [7] [.int .i64 w],[],H3 t (.own 5)++[.mark,Q7 true none,.list false false 3 l]⟩ .norm ⟨[(2,.val (.ptr 2 0 1)),(5,xi w)],[],H3 t (.own 5)++[.mark,Q7 true none,.list false false 3 l]⟩:=yh hX gG (by kernel_rfl) .xx;have q2:dN X0 Qp T (bQ n) LL 138 true (BQ Qp 138) 6 (AL Qp 138) ⟨[(2,.val (.ptr 2 0 1)),(5,xi w)],[],H3 t (.own 5)++[.mark,Q7 false none,.list false false 3 l]⟩ .norm ⟨[],[],H3 t (.own 7)++[.mark,Q7 false none,.gone,.list true true 3 [w],.list false false 3 (l++[w])]⟩:=yh hX gG (by kernel_rfl) (.o hl .xx);exact Ho hX (l:=4) rfl rfl (by kernel_rfl) q1 rfl q2 rfl
def EF(t:List (V×Int))(js:List Nat):List Int:=js.reverse.map fun j=>(Q5 t j).2
theorem a3Q(t:List (V×Int))(j:Nat)(js:List Nat):EF t (j::js)=EF t js++[(Q5 t j).2]:=by simp[EF]
abbrev sWl(t:List (V×Int))(l:List Int)(js:List Nat):aS aC:=match l with
 | []=>⟨[(0,.val (.kW 4)),(6,.val (.iter 5))],[],H3 t (.nil .slc)++[.mark,Q7 true none,.dn 0 t.length js]⟩
 |x::l=>⟨[(0,.val (.kW 4)),(6,.val (.iter 5))],[],H3 t (.own 6)++[.mark,Q7 true none,.dn 0 t.length js,.list false false 3 (x::l)]⟩
section
variable {n:Nat} {t:List (V×Int)}
set_option maxRecDepth 20000 in
theorem aaR(h:JG t):aJ X0 Qp T (bQ (n+1)) CS LL 139 (BQ Qp 139) 5 (.block 0 (.loop lpW)) (sWl t [] [])
  fun e s=>e=.norm∧∃l seen,l.Perm (t.map (·.2))∧s={ sWl t l seen with env:=jd (T.iD 139 1) ((8,.val (.bool false))::(7,.val (.dF [.bool false]))::(sWl t l seen).env) }:=by
 have e1:lpW=.seq (.region 1 (a7N (eG lpW)) false) (.seq (.cond (.tmp 8) .skip (.exit 0)) (.block 1 xW)):=by kernel_rfl
 have hlen:=h.len;rw[e1];refine PX hX (n:=t.length) (b:=5) (r:=0) (it:=6) (nx:=7) (mo:=8) (es:=kV.im t) (fun seen s=>seen.Nodup∧(∀j∈seen,j<t.length)∧∃gs,kT 5 gs (gU X0 (T.eP 139 (dU lpW)) s)=some (sWl t (EF t seen) seen)) (by kernel_rfl) (a8l (by kernel_rfl)) (a8l (by kernel_rfl)) (kV.pI t) (by unfold LL;omega)
  ⟨a6z,(fun j hj=>(by cases hj)),[],(by kernel_rfl)⟩ (fun seen s hi=>?_)
 obtain⟨jA,aQ,gs,h3⟩:=hi;rw[<-e1];refine⟨gs,_,h3,?_,?_,?_,fun ho=>?_,fun j e hj he=>?_⟩
 .cases EF t seen<;>kernel_rfl
 .cases EF t seen<;>kernel_rfl
 .cases EF t seen<;>kernel_rfl
 .refine⟨?_,EF t seen,seen,?_,rfl⟩
  .cases EF t seen<;>kernel_rfl
  .have hp:(seen.reverse).Perm (List.range t.length):=(List.reverse_perm seen).trans ((a8a jA adE).2 fun j=>⟨fun h=>a4o.2 (aQ j h),fun h=>ho j (a4o.1 h)⟩);unfold EF
   conv=>rhs;rw[afR t]
   rw[a8o];exact hp.map _
 .rw[kV.AZ,a0f]at he;obtain⟨⟨v,w⟩,rX,rfl⟩:=he;obtain⟨q1,q2,q3⟩:=Vk rX;have FZ:(j::seen).Nodup:=a4m.2 ⟨hj,jA⟩;have G5:∀k∈j::seen,k<t.length:=fun k hk=>by
   rcases a2r.1 hk with rfl|hk
   .exact q2
   .exact aQ k hk
  have hll:(EF t seen).length<=2000:=by
   have h2:seen.length<=t.length:=by
    have:=(JE jA aQ).length_eq;have h3:=a8Z (fun j=>seen.contains j) (List.range t.length);rw[a8P]at h3;omega
   have h1:(EF t seen).length=seen.length:=(by simp[EF]);omega
  have DW:=a3Q t j seen;rw[q1]at DW;have DW:EF t (j::seen)=EF t seen++[w]:=DW;generalize EF t seen=l at DW hll;cases l with
  |nil=>
   refine⟨by kernel_rfl,aJ.step (e:=.norm) (by kernel_rfl) (zM (ps1:=⟨[(0,.val (.kW 4)),(6,.val (.iter 5)),(14,xl false)],[],H3 t (.own 7)++[.mark,Q7 true none,.dn 0 t.length (j::seen),.list true true 3 [w],.list true false 3 [w]]⟩) hX gG (by kernel_rfl) (.c (.dF [.agg v.ps,.int .i64 w]) [] (Bd rX) (.fr [0,1,2,3,4] (aqd (n:=n) t w) (.b (rfl:(!true)=false) (.r rfl))))) ⟨.inl rfl,FZ,G5,[.flag 7,.gc [5,7]],?_⟩⟩;rw[DW]
   kernel_rfl
  |cons x l=>
   have a1:(x::l).length+[w].length<=ah:=by rw[a3F];unfold ah;omega
   refine⟨by kernel_rfl,aJ.step (e:=.norm) (by kernel_rfl) (zM (ps1:=⟨[(0,.val (.kW 4)),(6,.val (.iter 5)),(14,xl false)],[],H3 t (.own 8)++[.mark,Q7 true none,.dn 0 t.length (j::seen),.gone,.list true true 3 [w],.list false false 3 (x::l++[w])]⟩) hX gG (by kernel_rfl) (.c (.dF [.agg v.ps,.int .i64 w]) [] (Bd rX) (.fr [0,1,2,3,4,6] (aqe (n:=n) t (x::l) w a1) (.b (rfl:(!true)=false) (.r rfl))))) ⟨.inl rfl,FZ,G5,[.gc [5,8]],?_⟩⟩;rw[DW]
   kernel_rfl
end
open Go Tw Pv dw
def rV(t:List (V×Int)):List Int:=yX (fun n=>[n]) (t.map fun e:V×Int=>e.2)
abbrev QC(n:Int):TV:=.int .i64 n
abbrev Lr(n:Int):PV aC:=.int .i64 n
theorem a3R{t:List (V×Int)}{l:List Int}(h:l.Perm (t.map fun e:V×Int=>e.2)):Ry (l.map QC)=(rV t).map QC:=by
 unfold Ry;rw[Tj (g:=QC) (key:=fun n=>[n]) (a7B:=Rt) (fun _=>rfl),EZ h fun a _ b _ e=>by simpa using e];rfl
theorem JH:∀l:List Int,Ud (l.map Lr)=some (l.map QC)
 | []=>rfl
 |a::l=>by
  have:=JH l;show(match qg (Lr a),Ud (l.map Lr)with
   |some a,some b=>some (a::b)
   |_,_=>none)=_
  rw[this];rfl
section
variable {n:Nat} {t:List (V×Int)}
set_option maxRecDepth 20000 in
theorem akO(h:JG t)(ht:t≠[]):aaJ X0 Qp (uN Qp T (bQ (n+1)) LL) vF [.kW 4] (H3 t (.nil .slc)++[.mark,Q7 true none]) fun v H1=>∃(l:List Int) (seen:List Nat),l.Perm (t.map fun e:V×Int=>e.2)∧H1=H3 t (.own 6)++[.mark,Q7 true none,.dn 0 t.length seen,.list false false 3 l]:=by
 refine a1X (t:=Tz Qp 139) hX (by kernel_rfl) ?_;have e0:(Tz Qp 139).body=.seq (eG afV) (.block 0 (.loop lpW)):=by kernel_rfl
 rw[e0];have x0:dN X0 Qp T (bQ (n+1)) LL 139 false (BQ Qp 139) 5 (eG afV) ⟨lu X0 0 [.kW 4,.ptr 1 0 1],[],H3 t (.nil .slc)++[.mark,Q7 true none]⟩ .norm ⟨[(0,.val (.kW 4)),(6,.val (.iter 5))],[],H3 t (.nil .slc)++[.mark,Q7 true none,.dn 0 (kV.im t).length []]⟩:=zM hX gG (an:=.n) (by kernel_rfl) (.r rfl);rw[kV.pI t]at x0;refine aJ.Bc (by kernel_rfl) x0 ((aaR (n:=n) h).mono fun e s h1=>?_);obtain⟨rfl,l,seen,h2,rfl⟩:=h1;cases l with
 |nil=>
  have:=h2.length_eq;rw[a4l]at this;exact absurd (a4c this.symm) ht
 |cons x l=>exact⟨.inl rfl,[],by kernel_rfl,x::l,seen,h2,rfl⟩
set_option maxRecDepth 20000 in
theorem aaS(h:JG t)(ht:t≠[]):aU X0 Qp (bQ (n+2)) (.fn 138 [] []) [.nil .slc,vF] [.iG (kV.im t),.aF [.map 0]] (.slc 2 0 t.length t.length 1 false) [.iG (kV.im t),.aF [.map 0],.mZ ((rV t).map Lr)]:=by
 have e0:(Tz Qp 138).body=.seq (eG a7Y) (.seq (.seq (eG (eG (eH a7Y))) (.block 0 (.rangeFunc (.tmp 6) #[7] (wY Qp 138) (AL Qp 138)))) (eH (eH a7Y))):=by kernel_rfl
 have x0:dN X0 Qp T (bQ (n+1)) LL 138 false (BQ Qp 138) 2 (eG a7Y) ⟨lu X0 0 [.nil .slc,vF],[],[.iG (kV.im t),.aF [.map 0]]⟩ .norm ⟨[(1,.val vF),(2,.val (.ptr 2 0 1)),(4,.val (.nil .slc))],[],H3 t (.nil .slc)⟩:=zM hX gG (an:=.n) (by kernel_rfl) (.r rfl);have x1:dN X0 Qp T (bQ (n+1)) LL 138 false (BQ Qp 138) 2 (eG (eG (eH a7Y))) ⟨[(1,.val vF),(2,.val (.ptr 2 0 1)),(4,.val (.nil .slc))],[],H3 t (.nil .slc)⟩ .norm ⟨a7Z,[],H3 t (.nil .slc)⟩:=zM hX gG (an:=.n) (by kernel_rfl) (.r rfl);have:=DL (X:=X0) (P:=Qp) (T:=T) (L:=LL) (n:=n+1) (f:=138) (first:=[]) (cap:=[]) (xs:=[.nil .slc,vF]) (H:=[.iG (kV.im t),.aF [.map 0]]) (N:=[.mZ ((rV t).map Lr)]) (v:=.slc 2 0 t.length t.length 1 false) (tv:=fun k=>.slc k 0 t.length t.length 1 false) (tN:=[.mZ ((rV t).map QC)]) (t:=Tz Qp 138) hX (by kernel_rfl) (by kernel_rfl) (by kernel_rfl) rfl (fun A m h hr=>aaL (H:=[.iG (kV.im t),.aF [.map 0]]) (n:=t.length) (sz:=1) (JH _) hr) ?_
 .exact this
 rw[e0];refine aJ.Bc (by kernel_rfl) x0 (aJ.seq (R:=fun e s=>e=.norm∧∃(l:List Int) (seen:List Nat),l.Perm (t.map fun e:V×Int=>e.2)∧s=⟨a7Z,[],H3 t (.own 6)++[.mark,Q7 false (some .skip),.dn 0 t.length seen,.list false false 3 l]⟩) (aJ.Bc (by kernel_rfl) x1 (aJ.block ?_)) (fun s hs=>?_) (fun i s h=>by cases h.1) (fun s h=>by cases h.1))
 .refine aJ.range (f1:=139) (a1:=[]) (b1:=[.ptr 1 0 1]) (K:=fun v H1=>∃(l:List Int) (seen:List Nat),l.Perm (t.map fun e:V×Int=>e.2)∧H1=H3 t (.own 6)++[.mark,Q7 true none,.dn 0 t.length seen,.list false false 3 l]) hX rfl (by kernel_rfl) (by kernel_rfl) (akO (n:=n) h ht) (fun v H1 hk=>?_);obtain⟨l,seen,h1,rfl⟩:=hk;exact⟨true,_,_,_,_,_,_,none,.norm,rfl,rfl,rfl,l,seen,h1,rfl⟩
 obtain⟨_,l,seen,h1,rfl⟩:=hs;have hl:l≠[]:=fun e=>by
  subst e;have:=h1.length_eq;rw[a4l]at this;exact absurd (a4c this.symm) ht
 have hlen:t.length=l.length:=by rw[h1.length_eq,a4l]
 refine aJ.step (by kernel_rfl) (zM (e:=.ret) (ps1:=⟨[(4,.val (.own 6))],[],H3 t (.own 6)++[.mark,Q7 false (some .skip),.dn 0 t.length seen,.list false false 3 l]⟩) hX gG (an:=.n) (by kernel_rfl) (.r rfl)) ⟨.inr rfl,[.own 6],by kernel_rfl,?_⟩;rw[<-a3R h1,hlen];exact a7L hX (i:=6) (ty:=3) (l:=l) rfl hl (Es _) KL
end
def Q8:List Int->Int
 | []=>0
 |x::l=>l.foldl max x
theorem Yd:∀(l:List Int) (x:Int),(l.foldl max x=x∨l.foldl max x∈l)∧x<=l.foldl max x∧∀y∈l,y<=l.foldl max x
 | [],x=>⟨.inl rfl,a9m _,fun y hy=>by cases hy⟩
 |a::l,x=>by
  obtain⟨h1,h2,h3⟩:=Yd l (max x a);rw[adi];have hm:max x a=x∨max x a=a:=by omega
  refine⟨?_,by omega,fun y hy=>?_⟩
  .rcases h1 with h1|h1
   .rcases hm with e|e
    .exact .inl (h1.trans e)
    rw[h1,e];exact .inr (by simp)
   exact .inr (by simp[h1])
  rcases a2r.1 hy with rfl|hy
  .omega
  exact h3 y hy
theorem Ye{l:List Int}(h:l≠[]):Q8 l∈l∧∀y∈l,y<=Q8 l:=by
 cases l with
 |nil=>exact absurd rfl h
 |cons x l=>
  obtain⟨h1,h2,h3⟩:=Yd l x;refine⟨?_,fun y hy=>?_⟩
  .rcases h1 with h1|h1
   .show l.foldl max x∈_;rw[h1];simp
   exact a3n _ h1
  rcases a2r.1 hy with rfl|hy
  .exact h2
  exact h3 y hy
theorem a3S{l l':List Int}(h:l.Perm l')(hl:l≠[]):Q8 l=Q8 l':=by
 have hl':l'≠[]:=fun e=>by subst e;exact hl h.eq_nil
 obtain⟨a1,a2⟩:=Ye hl;obtain⟨b1,b2⟩:=Ye hl';have:=a2 _ (h.mem_iff.2 b1);have:=b2 _ (h.mem_iff.1 a1);omega
open Go Tw Pv dw
abbrev ApM(n:Nat):aY:=lq Qp Tm (2^24) n
theorem okM{n:Nat}:jF X0 Qp (ApM n) a9L:=fun _ _ _ _ _ h _=>by cases h
def gMx(l:List Int)(k:Nat)(m:Int):Int:=if l.getD (i64.wrap ((k:Int)+1)).toNat 0>m then l.getD (i64.wrap ((k:Int)+1)).toNat 0 else m
theorem a2c{x:Int}{r:List Int}(h:r.length<=ah):∀k,k<=r.length->aT (gMx (x::r)) k 0 x=(r.take k).foldl max x
 | 0,_=>rfl
 |k+1,hk=>by
  rw[tJ,a2c h k (by omega)];unfold gMx;rw[a3Z,yg (by omega),a4I];have e:(x::r).getD (k+1) 0=r[k]'(by omega):=by simp[List.getD,a0g (show k<r.length by omega)]
  rw[e,a5R (by omega),List.foldl_append];simp only[adi,List.foldl_nil];omega
abbrev wMx(l:List Int)(m i:Int)(x:List (Nat×PE aC)):aS aC:=⟨[(0,xL 3 l),(3,xi m),(4,xi (i64.wrap (i+1)))]++x,[],[]⟩
set_option maxRecDepth 20000 in
theorem akQ{l:List Int}(h0:l≠[])(hl:l.length<=2000):aU X0 Qp (ApM 2) (.fn 94 [] []) [.dD 3 l false] [] (.int .i64 (Q8 l)) []:=by
 cases l with
 |nil=>exact absurd rfl h0
 |cons x r=>
  have hr:r.length<=ah:=by have:(x::r).length=r.length+1:=rfl;unfold ah;omega
  have lp:dN X0 Qp Tm (ApM 1) LL 94 false (BQ Qp 94) 0 (.loop (S9 Qp 94 0)) ⟨[(0,xL 3 (x::r)),(3,xi x),(4,xi 1)],[],[]⟩ (.exit 0) (wMx (x::r) (aT (gMx (x::r)) r.length 0 x) r.length [(15,xl false)]):=by
   refine KF (X:=X0) (N:=r.length) (g:=gMx (x::r)) (s0:=x) (st:=fun i m=>wMx (x::r) m i []) (fin:=fun m=>wMx (x::r) m r.length [(15,xl false)]) (fun _ _=>True) (by kernel_rfl) hr Qd trivial (fun _ _ _ _=>trivial) (fun k m hk _ n e p g9=>?_) (fun m _=>?_)
   .have e1:i64.wrap ((k:Int)+1)=((k+1:Nat):Int):=yg (by omega);have t1:decide (i64.wrap ((k:Int)+1)<((x::r).length:Int))=true:=by rw[e1,a1o,a4d];omega
    have i1:fK (i64.wrap ((k:Int)+1)) (x::r).length:=by rw[e1];exact aH (by rw[a4d];omega)
    exact round hX okM (by kernel_rfl) (.b t1 (.o i1 (.go g9)))
   have e1:i64.wrap ((r.length:Int)+1)=((r.length+1:Nat):Int):=yg (by omega);have t1:decide (i64.wrap ((r.length:Int)+1)<((x::r).length:Int))=false:=by rw[e1,a2W,a4d];omega
   exact round hX okM (by kernel_rfl) (.b t1 .ex)
  have e:aT (gMx (x::r)) r.length 0 x=Q8 (x::r):=by
   rw[a2c hr _ (a0w _),abv];rfl
  rw[e]at lp;have hc:((x::r).length:Int)=r.length+1:=by simp
  have t0:decide (((x::r).length:Int)<1)=false:=by rw[a2W,hc];omega
  have i0:fK 0 (x::r).length:=⟨by decide,by rw[hc];omega⟩;exact mQ hX okM (first:=[]) (cap:=[]) (by kernel_rfl) (.b t0 (.o i0 (.w lp .er)))
theorem aaT(n:Nat)(x:TV)(h:List HB):lq Qp T LL (n+1) (.fn 94 [] []) [x] h=a3e 94 (ApM 2) (.fn 94 [] []) [x] h:=rfl
theorem akR{n:Nat}{vs:List Int}(h0:vs≠[])(hl:vs.length<=2000):aU X0 Qp (bQ (n+1)) (.fn 94 [] []) [.slc 0 0 vs.length vs.length 1 false] [.mZ (vs.map Lr)] (.int .i64 (Q8 vs)) [.mZ (vs.map Lr)]:=by
 intro A m h tf qZ hr hf hx;obtain⟨x,r,rfl,h1,h2⟩:=hx.inv;have:=h2.inv0;subst this;have htf:=hf.UD;subst htf;obtain⟨mb,g1,g2⟩:=hr.at_ 0 _ rfl;cases mb with
 |gy c=>
  obtain⟨ts,g3,g4⟩:=g2;have g5:=g4.symm.trans (JH vs);cases g5;have hx2:x=.slc c 0 vs.length vs.length 1 false:=by
   cases h1 with
   |slc e=>rw[g1]at e;cases e;rfl
   |gone hi e _=>simp only[bC,a03]at hi;subst hi;rw[g1]at e;cases e
  subst hx2;have EC:c∈bD m:=bf g1 rfl;have aQ:=(a0d.1 g3).1;show ∃w h1 ws m1,lq Qp T LL (n+1) _ _ h=_∧_;rw[aaT,a9S (k:=.i64) (n:=Q8 vs)]
  .exact⟨_,h,[],m,rfl,hr,.int _ _,.refl,.refl,fun b hb=>by cases hb⟩
  .refine⟨⟨_,_,rfl⟩,rfl,fun h' hu=>?_⟩;obtain⟨cs',p1,p2⟩:=hu.2 c _ g3;obtain⟨l,hp,rfl⟩:∃l:List Int,l.Perm vs∧cs'=l.map QC:=by
    have hq:∀y∈cs',∃i:Int,y=QC i:=fun y hy=>by
     obtain⟨i,_,rfl⟩:=a1e.1 (p1.mem_iff.1 hy);exact⟨i,rfl⟩
    have hun:∀L:List TV,(∀y∈L,∃i:Int,y=QC i)->∃l:List Int,L=l.map QC:=by
     intro L
     induction L with
     |nil=>exact fun _=>⟨[],rfl⟩
     |cons y L ih=>
      intro hL;obtain⟨i,rfl⟩:=hL y (by simp);obtain⟨l,rfl⟩:=ih fun z hz=>hL z (by simp[hz]);exact⟨i::l,rfl⟩
    obtain⟨l,rfl⟩:=hun cs' hq;refine⟨l,?_,rfl⟩;have:=p1.map fun y=>match y with|.int _ n=>n|_=>0
    rw[a8o,a8o]at this;simpa[Function.comp_def]using this
   have hlen:l.length=vs.length:=hp.length_eq;have qJ:l≠[]:=fun e=>by subst e;exact h0 (a4c hlen.symm)
   have akS:h'.length=h.length:=by
    have e:=fun b=>Sz hu b;refine Nat.le_antisymm (acO fun hb=>?_) (acO fun hb=>?_)
    .have:=e h.length;rw[a0g hb,a4e (a0w _)]at this;cases this
    have:=e h'.length;rw[a0g hb,a4e (a0w _)]at this;cases this
   have hm:=akQ qJ (by omega);have hvr:Pv.VR X0 Qp (AA A []) [] h' (.dD 3 l false) (.slc c 0 vs.length vs.length 1 false):=by
    rw[<-hlen];refine Pv.VR.dD (cs:=l.map QC) ⟨hr.D6 c EC,by simp[bD]⟩ (by simp only[aW,p2]) (fun _=>by simp[mg,p2]) KL (by decide) (by simp;exact a0w _) (a0w _) (by intro h;cases h) ?_ ?_
    .intro j a _;rfl
    have hrw:=SH (A:=AA A []) (m:=[]) (h:=h') l;intro j a i c v a1 a2 a3;exact hrw.2.2 j a i c v a1 a2 a3
   obtain⟨w,h2,ws,m1,c1,c2,c3,c4,c5,c6⟩:=hm A [] h' (.fn 94 [] []) [.slc c 0 vs.length vs.length 1 false] ⟨rfl,fun i b hi=>by simp at hi,by simp[bD],fun b hb=>hr.up b (by rw[<-akS];exact hb),fun b hb=>by simp[bD]at hb⟩ (.fn rfl (fun i x y hi=>by simp at hi) rfl (fun i x y hi=>by simp at hi)) (.cons hvr .nil)
   .have hw:w=.int .i64 (Q8 vs):=by
     rw[<-a3S hp qJ];exact c3.a1m
    subst hw;have Yz:ws=[]:=a7S.2 fun b hb=>by have:=c6 b hb;simp[bD]at this
    subst Yz;exact⟨h2,c1⟩
  obtain⟨h',hu⟩:∃h',OV h h':=⟨_,Xk h (fun b=>match h[b]? with|some (.mZ cs)=>cs|_=>[]) fun b cs e=>by rw[e]⟩;exact⟨h',hu⟩
 |_=>exact g2.elim
open Go Tw Pv dw
theorem akT{n:Nat}(hO:Ok n qG){k:Int}(hk:0<=k∧k<=6):aU X0 Qp (bQ (n+1)) (.fn 124 [] []) [.own 0,.int .i64 k] [.list true true 3 ([-1]:List Int)] (.own 1) [.list true true 3 ([-1]:List Int),.list true true 3 (List.replicate k.toNat (-1):List Int)]:=by
 rcases a7r hk with rfl|rfl|rfl|rfl|rfl|rfl|rfl
 .exact fU hO (first:=[]) (cap:=[]) (.b (rfl:decide ((0:Int)<0)=false) (.o (rfl:(1:Int)=1) (.o (⟨by decide,by decide⟩:(0:Int)<=0∧(0:Int)<=6) (.b (rfl:decide ((0:Int)>0)=false) (.b (rfl:decide ((0:Int)>9223372036854775807)=false) (.o (rfl:(0:Int)=0) (.o (show(0:Int)<=0 by decide) (.o (show(0:Int)<=(ah:Int) by decide) (.m 8 le8 (.b (rfl:decide ((0:Int)<0)=false) .er))))))))))
 .exact fU hO (first:=[]) (cap:=[]) (.b (rfl:decide ((1:Int)<0)=false) (.o (rfl:(1:Int)=1) (.o (⟨by decide,by decide⟩:(0:Int)<=1∧(1:Int)<=6) (.b (rfl:decide ((0:Int)>0)=false) (.b (rfl:decide ((1:Int)>9223372036854775807)=false) (.o (rfl:(1:Int)=1) (.o (show(0:Int)<=1 by decide) (.o (show(1:Int)<=(ah:Int) by decide) (.m 8 le8 (.b (rfl:decide ((1:Int)<1)=false) .er))))))))))
 .exact fU hO (first:=[]) (cap:=[]) (.b (rfl:decide ((2:Int)<0)=false) (.o (rfl:(1:Int)=1) (.o (⟨by decide,by decide⟩:(0:Int)<=2∧(2:Int)<=6) (.b (rfl:decide ((0:Int)>0)=false) (.b (rfl:decide ((2:Int)>9223372036854775807)=false) (.o (rfl:(2:Int)=2) (.o (show(0:Int)<=2 by decide) (.o (show(2:Int)<=(ah:Int) by decide) (.m 8 le8 (.b (rfl:decide ((1:Int)<2)=true) (.o (show(0:Int)<=1 by decide) (.o (show(1:Int)<=2 by decide) (.o (show(2:Int)<=2 by decide) (.o (show(0:Int)<=0 by decide) (.o (show(0:Int)<=1 by decide) (.o (show(1:Int)<=2 by decide) (.b (rfl:decide ((2:Int)<2)=false) .er)))))))))))))))))
 .exact fU hO (first:=[]) (cap:=[]) (.b (rfl:decide ((3:Int)<0)=false) (.o (rfl:(1:Int)=1) (.o (⟨by decide,by decide⟩:(0:Int)<=3∧(3:Int)<=6) (.b (rfl:decide ((0:Int)>0)=false) (.b (rfl:decide ((3:Int)>9223372036854775807)=false) (.o (rfl:(3:Int)=3) (.o (show(0:Int)<=3 by decide) (.o (show(3:Int)<=(ah:Int) by decide) (.m 8 le8 (.b (rfl:decide ((1:Int)<3)=true) (.o (show(0:Int)<=1 by decide) (.o (show(1:Int)<=3 by decide) (.o (show(3:Int)<=3 by decide) (.o (show(0:Int)<=0 by decide) (.o (show(0:Int)<=1 by decide) (.o (show(1:Int)<=3 by decide) (.b (rfl:decide ((2:Int)<3)=true) (.o (show(0:Int)<=2 by decide) (.o (show(2:Int)<=3 by decide) (.o (show(3:Int)<=3 by decide) (.o (show(0:Int)<=0 by decide) (.o (show(0:Int)<=2 by decide) (.o (show(2:Int)<=3 by decide) (.b (rfl:decide ((3:Int)<3)=false) .er))))))))))))))))))))))))
 .exact fU hO (first:=[]) (cap:=[]) (.b (rfl:decide ((4:Int)<0)=false) (.o (rfl:(1:Int)=1) (.o (⟨by decide,by decide⟩:(0:Int)<=4∧(4:Int)<=6) (.b (rfl:decide ((0:Int)>0)=false) (.b (rfl:decide ((4:Int)>9223372036854775807)=false) (.o (rfl:(4:Int)=4) (.o (show(0:Int)<=4 by decide) (.o (show(4:Int)<=(ah:Int) by decide) (.m 8 le8 (.b (rfl:decide ((1:Int)<4)=true) (.o (show(0:Int)<=1 by decide) (.o (show(1:Int)<=4 by decide) (.o (show(4:Int)<=4 by decide) (.o (show(0:Int)<=0 by decide) (.o (show(0:Int)<=1 by decide) (.o (show(1:Int)<=4 by decide) (.b (rfl:decide ((2:Int)<4)=true) (.o (show(0:Int)<=2 by decide) (.o (show(2:Int)<=4 by decide) (.o (show(4:Int)<=4 by decide) (.o (show(0:Int)<=0 by decide) (.o (show(0:Int)<=2 by decide) (.o (show(2:Int)<=4 by decide) (.b (rfl:decide ((4:Int)<4)=false) .er))))))))))))))))))))))))
 .exact fU hO (first:=[]) (cap:=[]) (.b (rfl:decide ((5:Int)<0)=false) (.o (rfl:(1:Int)=1) (.o (⟨by decide,by decide⟩:(0:Int)<=5∧(5:Int)<=6) (.b (rfl:decide ((0:Int)>0)=false) (.b (rfl:decide ((5:Int)>9223372036854775807)=false) (.o (rfl:(5:Int)=5) (.o (show(0:Int)<=5 by decide) (.o (show(5:Int)<=(ah:Int) by decide) (.m 8 le8 (.b (rfl:decide ((1:Int)<5)=true) (.o (show(0:Int)<=1 by decide) (.o (show(1:Int)<=5 by decide) (.o (show(5:Int)<=5 by decide) (.o (show(0:Int)<=0 by decide) (.o (show(0:Int)<=1 by decide) (.o (show(1:Int)<=5 by decide) (.b (rfl:decide ((2:Int)<5)=true) (.o (show(0:Int)<=2 by decide) (.o (show(2:Int)<=5 by decide) (.o (show(5:Int)<=5 by decide) (.o (show(0:Int)<=0 by decide) (.o (show(0:Int)<=2 by decide) (.o (show(2:Int)<=5 by decide) (.b (rfl:decide ((4:Int)<5)=true) (.o (show(0:Int)<=4 by decide) (.o (show(4:Int)<=5 by decide) (.o (show(5:Int)<=5 by decide) (.o (show(0:Int)<=0 by decide) (.o (show(0:Int)<=4 by decide) (.o (show(4:Int)<=5 by decide) (.b (rfl:decide ((5:Int)<5)=false) .er)))))))))))))))))))))))))))))))
 exact fU hO (first:=[]) (cap:=[]) (.b (rfl:decide ((6:Int)<0)=false) (.o (rfl:(1:Int)=1) (.o (⟨by decide,by decide⟩:(0:Int)<=6∧(6:Int)<=6) (.b (rfl:decide ((0:Int)>0)=false) (.b (rfl:decide ((6:Int)>9223372036854775807)=false) (.o (rfl:(6:Int)=6) (.o (show(0:Int)<=6 by decide) (.o (show(6:Int)<=(ah:Int) by decide) (.m 8 le8 (.b (rfl:decide ((1:Int)<6)=true) (.o (show(0:Int)<=1 by decide) (.o (show(1:Int)<=6 by decide) (.o (show(6:Int)<=6 by decide) (.o (show(0:Int)<=0 by decide) (.o (show(0:Int)<=1 by decide) (.o (show(1:Int)<=6 by decide) (.b (rfl:decide ((2:Int)<6)=true) (.o (show(0:Int)<=2 by decide) (.o (show(2:Int)<=6 by decide) (.o (show(6:Int)<=6 by decide) (.o (show(0:Int)<=0 by decide) (.o (show(0:Int)<=2 by decide) (.o (show(2:Int)<=6 by decide) (.b (rfl:decide ((4:Int)<6)=true) (.o (show(0:Int)<=4 by decide) (.o (show(4:Int)<=6 by decide) (.o (show(6:Int)<=6 by decide) (.o (show(0:Int)<=0 by decide) (.o (show(0:Int)<=4 by decide) (.o (show(4:Int)<=6 by decide) (.b (rfl:decide ((6:Int)<6)=false) .er)))))))))))))))))))))))))))))))
def fF(D:List Dg):Jb:=⟨(D.getD 0 lX).ay,(D.getD 0 lX).aG,D,List.replicate (D.getD 0 lX).ay.length (-1)⟩
theorem akU{n f:Nat}(hO:Ok (n+1) qG)(Az:Ok n qG){D:List Dg}(h0:0<D.length)(h6:(D.getD 0 lX).ay.length<=6){k ex:Bool}:aU X0 Qp (bQ (n+2)) (.fn 78 [] []) [.fn f [] [],.own 0] [.list k ex 26 D] (.agg [lI (fF D).s,lI (fF D).o,.own 0,.own 1,.fn f [] []]) [.list k ex 26 D,.list true true 3 (fF D).g]:=by
 have i0:fK 0 D.length:=aH h0;have hs:=akT Az (k:=((D.getD 0 lX).ay.length:Int)) ⟨by omega,by omega⟩;rw[a4I]at hs;have h:aU X0 Qp (bQ (n+2)) (.fn 78 [] []) [.fn f [] [],.own 0] [.list k ex 26 D] (.agg [lI (fF D).s,lI (fF D).o,.own 0,.own 2,.fn f [] []]) [.list k ex 26 D,.list true true 3 ([-1]:List Int),.list true true 3 (fF D).g]:=fU hO (first:=[]) (cap:=[]) (.o i0 (.o i0 (.o i0 (.fr [1] hs .er))));exact aU.gs hX h [.gc [2]] rfl
theorem akV{n f:Nat}(u:Int)(hO:Ok (n+1) qG)(Az:Ok n qG){D:List Dg}(h0:0<D.length)(h6:(D.getD 0 lX).ay.length<=6){k ex:Bool}:aU X0 Qp (bQ (n+2)) (.fn 78 [] []) [.fn f [] [.ptr 1 0 1],.own 0] [.list k ex 26 D,.aF [.int .u8 u]] (.agg [lI (fF D).s,lI (fF D).o,.own 0,.own 2,.fn f [] [.ptr 1 0 1]]) [.list k ex 26 D,.aF [.int .u8 u],.list true true 3 (fF D).g]:=by
 have i0:fK 0 D.length:=aH h0;have hs:=akT Az (k:=((D.getD 0 lX).ay.length:Int)) ⟨by omega,by omega⟩;rw[a4I]at hs;have h:aU X0 Qp (bQ (n+2)) (.fn 78 [] []) [.fn f [] [.ptr 1 0 1],.own 0] [.list k ex 26 D,.aF [.int .u8 u]] (.agg [lI (fF D).s,lI (fF D).o,.own 0,.own 3,.fn f [] [.ptr 1 0 1]]) [.list k ex 26 D,.aF [.int .u8 u],.list true true 3 ([-1]:List Int),.list true true 3 (fF D).g]:=fU hO (first:=[]) (cap:=[]) (.o i0 (.o i0 (.o i0 (.fr [2] hs .er))));exact aU.gs hX h [.gc [3]] rfl
theorem aqh{n f:Nat}{J:Jb}{d:Dg}{k ex k2 Ls:Bool}(h:aU X0 Qp (bQ n) (.fn 80 [] []) [.agg (J.ps (.fn f [] []))] [] (dA.put d) []):aU X0 Qp (bQ n) (.fn 80 [] []) [.agg [lI J.s,lI J.o,.own 0,.own 1,.fn f [] []]] [.list k ex 26 J.D,.list k2 Ls 3 J.g] (dA.put d) [.gone,.gone]:=by
 have h1:=aU.frame hX (ks:=[]) (H':=[.gone,.gone]) (Hp:=[]) (OI:=[]) (v':=dA.put d) (fv':=.fn 80 [] []) (xs':=[.agg (J.ps (.fn f [] []))]) h (by decide) rfl rfl rfl rfl rfl rfl rfl;exact aU.fz hX (H:=[.list k ex 26 J.D,.list k2 Ls 3 J.g]) (cs:=[lI J.s,lI J.o,.own 0,.own 1]) (rest:=[.fn f [] []]) [0,1] h1 rfl (fun i hi=>by simpa[kL.jY,kL]using hi)
theorem aqi{n f:Nat}{u:Int}{J:Jb}{d:Dg}{k ex k2 Ls:Bool}(h:aU X0 Qp (bQ n) (.fn 80 [] []) [.agg (J.ps (.fn f [] [.ptr 0 0 1]))] [.aF [.int .u8 u]] (dA.put d) [.aF [.int .u8 u]]):aU X0 Qp (bQ n) (.fn 80 [] []) [.agg [lI J.s,lI J.o,.own 0,.own 2,.fn f [] [.ptr 1 0 1]]] [.list k ex 26 J.D,.aF [.int .u8 u],.list k2 Ls 3 J.g] (dA.put d) [.gone,.aF [.int .u8 u],.gone]:=by
 have h1:=aU.frame hX (ks:=[1]) (H':=[.gone,.aF [.int .u8 u],.gone]) (Hp:=[.aF [.int .u8 u]]) (OI:=[.aF [.int .u8 u]]) (v':=dA.put d) (fv':=.fn 80 [] []) (xs':=[.agg (J.ps (.fn f [] [.ptr 1 0 1]))]) h (by decide) rfl rfl rfl rfl rfl rfl rfl;exact aU.fz hX (H:=[.list k ex 26 J.D,.aF [.int .u8 u],.list k2 Ls 3 J.g]) (cs:=[lI J.s,lI J.o,.own 0,.own 2]) (rest:=[.fn f [] [.ptr 1 0 1]]) [0,2] h1 rfl (fun i hi=>by simpa[kL.jY,kL]using hi)
open Go Tw Pv dw
structure DgG(d:Dg):Prop where
 t:BF d
 n:d.aj.length<=6000
 ord:kC d.ay.length d.aG=true
 rk:∀i,i<d.aj.length->∀k,k<(fC d i).aA.length->d.aG.idxOf (fC d i).var+1<=ED d.aG d.aj ((fC d i).aA.getD k 0)
 two:∀i,i<d.aj.length->2<=(fC d i).aA.length
 c:∀v∈d.aK,IB v
 dd:DgD d
 l0:aX d=0
theorem afW{d:Dg}(hp:rU d)(h:kY d=0):DgG d:=by
 have h0:aX d=0∧pV d=true:=by
  unfold kY at h;split at h
  .rename_i c;rw[h]at c;cases c
  rename_i c;split at h
  .cases h
  rename_i c2;exact⟨by simpa using c,by simpa using c2⟩
 have ho:d.aG.length<=ah:=by have:=hp.o;unfold ah;omega
 have he:d.aK.length<=ah:=by have:=hp.e;omega
 obtain⟨t,n⟩:=iY ho he (by rw[h0.1];rfl);obtain⟨D,_⟩:=XE.1 h0.2;have hf:bY d.ay d.aG=0∧lN d=true:=by
  have hl:=h0.1;unfold aX at hl;split at hl
  .rename_i c;rw[hl]at c;cases c
  rename_i c;split at hl
  .cases hl
  split at hl
  .cases hl
  rename_i _ c2;exact⟨by simpa using c,by simpa using c2⟩
 obtain⟨bJ,ord⟩:=jQ.1 hf.1;refine⟨t,n,ord,XM h0.1,fun i hi=>?_,fun v hv=>?_,D,h0.1⟩
 .have:=D.flat i hi;rcases hk:(fC d i).aA with _|⟨a,_|⟨b,r⟩⟩
  .rw[hk]at this;simp at this
  .rw[hk]at this;simp at this
  simp
 refine⟨?_,hp.r.fault v hv⟩;have hl:=hf.2;unfold lN at hl;obtain⟨k,hk,e⟩:=aaN hv;have hs:kG (bF (cLe d) d.aK.length)=true:=by
  revert hl;cases kG (bF (cLe d) d.aK.length)<;>simp
 have:=dL.1 hs k hk;unfold cLe at this;rw[a2X,a0g hk]at this;simpa[e]using this
theorem a08{l:List Dg}(hp:∀d∈l,rU d)(h:bV l=0):∀d∈l,DgG d∧d.ay=(l.getD 0 lX).ay∧d.aG=(l.getD 0 lX).aG:=by
 intro d hd;unfold bV at h;split at h
 .rename_i c;split at h
  .cases h
  rename_i c2;simp only[agm,abz,a4x]at c2;have e:=c2 d hd;unfold Ia at e;split at e
  .rename_i e1;refine⟨afW (hp d hd) ?_,by simpa using e1,by simpa using e⟩;obtain⟨k,hk,e9⟩:=aaN hd;have:=dL.1 c k hk;unfold cCk at this;rw[a2X,a0g hk,a4M,e9]at this;have h9:=hp d hd;rw[XG h9.r h9.s (by have:=h9.o;unfold ah;omega) h9.e]at this;simpa using this
  cases e
 rename_i c;obtain⟨j,_,e,_,e2⟩:=MO (by simpa using c);rw[e2]at h;unfold cCk at e;have h':(vO (l.getD j lX)).2=0:=h;rw[h']at e;cases e
theorem adq{D:List Dg}(h3:D.length<=3)(h0:0<D.length)(h1:∀d∈D,DgG d∧d.ay=(D.getD 0 lX).ay∧d.aG=(D.getD 0 lX).aG):kD (fF D):=by
 have QM:D.getD 0 lX∈D:=fM h0;obtain⟨g0,_,_⟩:=h1 _ QM;refine⟨h3,g0.t.bJ,g0.ord,fun k hk=>?_,a7w,fun c hc hg=>?_⟩
 .obtain⟨g,e1,e2⟩:=h1 (l7 D k) (fM hk);exact⟨g.t,g.n,e1,e2,g.rk,g.two⟩
 exfalso;revert hg;show ¬(0<=(List.replicate (D.getD 0 lX).ay.length (-1:Int)).getD c.toNat 0);have:=hc.1;have:=hc.2;rw[a2X,afo,a0q (show c.toNat<(D.getD 0 lX).ay.length by have:c<((D.getD 0 lX).ay.length:Int):=hc.2;omega)];decide
theorem Bf{D:List Dg}(h3:D.length<=3)(h0:0<D.length)(hp:∀d∈D,rU d)(h:bV D=0):kD (fF D):=adq h3 h0 (a08 hp h)
open Go Tw Pv dw
theorem DR{J:Jb}(hJ:kD J)(hc:∀k,k<J.D.length->∀v∈(l7 J.D k).aK,IB v){op:List V->V}(h:∀l:List V,l.length=J.D.length->(∀v∈l,IB v)->IB (op l)):qF J op:=fun t hd=>h _ (by simp[aV]) fun v hv=>by
 unfold aV at hv;obtain⟨k,hk,rfl⟩:=a1e.1 hv;have hk:=a4o.1 hk;have h3:(jE (t.get k)).toNat<(l7 J.D k).aK.length:=by
  obtain⟨h1,h2⟩:=(Jv hJ hd hk).2;omega
 exact hc k hk _ (fM h3)
theorem Jb.inD{D:List Dg}(hp:∀d∈D,rU d)(h:bV D=0):∀k,k<D.length->∀v∈(l7 D k).aK,IB v:=fun k hk=>(a08 hp h _ (fM hk)).1.c
theorem JI{n f:Nat}(h2:2<=n)(hO:∀m,n-2<=m->Ok m qG){D:List Dg}(h0:0<D.length)(h6:(D.getD 0 lX).ay.length<=6){k ex:Bool}:aU X0 Qp (bQ n) (.fn 78 [] []) [.fn f [] [],.own 0] [.list k ex 26 D] (.agg [lI (fF D).s,lI (fF D).o,.own 0,.own 1,.fn f [] []]) [.list k ex 26 D,.list true true 3 (fF D).g]:=by
 have h:=akU (n:=n-2) (f:=f) (hO _ (by omega)) (hO _ (by omega)) h0 h6 (k:=k) (ex:=ex)
 rwa [show n-2+2=n by omega]at h
theorem afX{n f:Nat}(u:Int)(h2:2<=n)(hO:∀m,n-2<=m->Ok m qG){D:List Dg}(h0:0<D.length)(h6:(D.getD 0 lX).ay.length<=6){k ex:Bool}:aU X0 Qp (bQ n) (.fn 78 [] []) [.fn f [] [.ptr 1 0 1],.own 0] [.list k ex 26 D,.aF [.int .u8 u]] (.agg [lI (fF D).s,lI (fF D).o,.own 0,.own 2,.fn f [] [.ptr 1 0 1]]) [.list k ex 26 D,.aF [.int .u8 u],.list true true 3 (fF D).g]:=by
 have h:=akV (n:=n-2) (f:=f) u (hO _ (by omega)) (hO _ (by omega)) h0 h6 (k:=k) (ex:=ex)
 rwa [show n-2+2=n by omega]at h
theorem a81{n f:Nat}{J:Jb}(hJ:kD J){op:List V->V}(jK:qF J op)(h2:20<=n)(hO:∀m,n-20<=m->Ok m Ib)(hs:∀m,n-20<=m->∀l:List V,l.length=J.D.length->aU X0 Qp (bQ m) (.fn f [] []) [lV l] [] (.agg (op l).ps) []){k ex k2 Ls:Bool}:aU X0 Qp (bQ n) (.fn 80 [] []) [.agg [lI J.s,lI J.o,.own 0,.own 1,.fn f [] []]] [.list k ex 26 J.D,.list k2 Ls 3 J.g] (dA.put (AU J op)) [.gone,.gone]:=by
 have h6:=(kD.o2 hJ).2.1;have h7:=hJ.bJ.len;have h:=afK (N:=n-20) hJ jK hs hO (m:=n-1) (by omega);rw[show n-1+1=n by omega]at h;exact aqh h
theorem akY{n f:Nat}(u:Int){J:Jb}(hJ:kD J){op:List V->V}(jK:qF J op)(h2:20<=n)(hO:∀m,n-20<=m->Ok m Ib)(hs:∀m,n-20<=m->∀l:List V,l.length=J.D.length->aU X0 Qp (bQ m) (.fn f [] [.ptr 0 0 1]) [lV l] [.aF [.int .u8 u]] (.agg (op l).ps) [.aF [.int .u8 u]]){k ex k2 Ls:Bool}:aU X0 Qp (bQ n) (.fn 80 [] []) [.agg [lI J.s,lI J.o,.own 0,.own 2,.fn f [] [.ptr 1 0 1]]] [.list k ex 26 J.D,.aF [.int .u8 u],.list k2 Ls 3 J.g] (dA.put (AU J op)) [.gone,.aF [.int .u8 u],.gone]:=by
 have h6:=(kD.o2 hJ).2.1;have h7:=hJ.bJ.len;have h:=afL (N:=n-20) u hJ jK hs hO (m:=n-1) (by omega);rw[show n-1+1=n by omega]at h;exact aqi h
abbrev JJ(a b x:Int):Bool:=if decide (x>=a)=true then decide (x<=b)else false
theorem a88{k:Nat}{x:Int}(h:(!(JJ 0 (i64.wrap ((k:Int)-1)) x))=false)(hk:k<=ah):fK x k:=by
 rw[wrap_small (by unfold ah at hk;omega) (by unfold ah at hk;omega)]at h;unfold JJ at h;by_cases h1:x>=0
 .simp[h1]at h;exact⟨h1,by omega⟩
 simp[h1]at h
theorem aaU{z x:Int}(h:(!(JJ 0 (i64.wrap (z-1)) x))=false)(h0:0<=z)(h1:z<=12):0<=x∧x<z:=by
 rw[wrap_small (by omega) (by omega)]at h;unfold JJ at h;by_cases h1:x>=0
 .simp[h1]at h;exact⟨h1,by omega⟩
 simp[h1]at h
def QD(d:Dg)(c g:Int):Jb:=⟨d.ay,d.aG,[d],(fF [d]).g.set c.toNat g⟩
abbrev op0(l:List V):V:=l.getD 0 V0
theorem Vl{d:Dg}(hp:rU d)(h:bV [d]=0){c g:Int}(hc:fK c d.ay.length)(hg:0<=g∧g<d.ay.getD c.toNat 0):kD (QD d c g):=by
 have hJ:=Bf (D:=[d]) (by simp) (by simp) (fun x hx=>by rw[a2A.1 hx];exact hp) h;refine⟨hJ.d3,hJ.bJ,hJ.ord,fun k hk=>have h:=hJ.dg k hk;⟨h.t,h.n,h.s,h.o,h.rk,h.two⟩,?_,fun c2 JY h2=>?_⟩
 .show((fF [d]).g.set c.toNat g).length=_;rw[a4n];exact hJ.gl
 have hl:(fF [d]).g.length=d.ay.length:=hJ.gl;have a0:=hc.1;have a1:=hc.2;have b0:=JY.1;have b1:c2<(d.ay.length:Int):=JY.2
 change 0<=((fF [d]).g.set c.toNat g).getD c2.toNat 0 at h2
 show((fF [d]).g.set c.toNat g).getD c2.toNat 0<d.ay.getD c2.toNat 0;by_cases e:c.toNat=c2.toNat
 .rw[<-e,a2X,a1T (by omega)];exact hg.2
 rw[a2X,a1n e,<-a2X]at h2 ⊢;exact hJ.gv c2 JY h2
theorem akZ{m:Nat}(hO:Ok m qG){l:List V}(h:0<l.length):aU X0 Qp (bQ m) (.fn 79 [] []) [lV l] [] (.agg (op0 l).ps) []:=nZ.ZU hX (first:=[]) (cap:=[]) (hO 79 [lV l] (vA.put (op0 l)) [] [0<l.length] (by kernel_rfl) (fun p h9=>by rw[a2A.1 h9];exact h)) rfl rfl rfl rfl
def lY(p:Dg×Int×Int):Dg×Int:=if(bV [p.1] != 0)=true then(lX,bV [p.1])else if(!(JJ 0 (i64.wrap ((p.1.ay.length:Int)-1)) p.2.1))=true then(lX,3)else if(!(JJ 0 (i64.wrap (p.1.ay.getD p.2.1.toNat 0-1)) p.2.2))=true then(lX,3)else(AU (QD p.1 p.2.1 p.2.2) op0,0)
def al0:fA aC:=cO 20 (a3 dA iA iA) (dR (a2 dA iA)) lY (fun p=>[rU p.1]) qG
theorem a3T:(1:Nat)<=ah:=by unfold ah;omega
theorem aqj:Gd al0:=Good.X7 24 KQ XQ fun n hn hO G9 p hp=>by
 have h1:rU p.1:=hp _ (.head _);have h2:∀d∈[p.1],rU d:=fun x hx=>by rw[a2A.1 hx];exact h1
 have h3:0<[p.1].length∧[p.1].length<=ah:=⟨by simp,a3T⟩;obtain⟨d,c,g⟩:=p;show nZ X0 Qp _ _ _ ((dR (a2 dA iA)).put (lY (d,c,g))) _;unfold lY;have hJ:(bV [d] != 0)=false->kD (fF [d]):=fun e1=>Bf (D:=[d]) (by simp) (by simp) h2 (by simpa using e1);have hc:(bV [d] != 0)=false->(!(JJ 0 (i64.wrap ((d.ay.length:Int)-1)) c))=false->fK c d.ay.length:=fun _ e2=>a88 e2 h1.s;have s1:=fun(e1:(bV [d] != 0)=false)=>JI (n:=n) (f:=79) (by omega) (fun m hm=>hO m (by omega)) (D:=[d]) (by simp) (hJ e1).bJ.len (k:=true) (ex:=true);have s2:=fun(e1:(bV [d] != 0)=false) (e2:(!(JJ 0 (i64.wrap ((d.ay.length:Int)-1)) c))=false) (e3:(!(JJ 0 (i64.wrap (d.ay.getD c.toNat 0-1)) g))=false)=>
  have hz:=(hJ e1).bJ.sz (d.ay.getD c.toNat 0) (bP (show c.toNat<d.ay.length by obtain⟨a,b⟩:=hc e1 e2;omega));have hR:=Vl h1 (by simpa using e1) (hc e1 e2) (aaU e3 (Int.le_trans (by decide) hz.1) hz.2)
  a81 (n:=n) (f:=79) hR (DR hR (Jb.inD h2 (show bV [d]=0 by simpa using e1)) fun l hl hv=>hv _ (fM (by rw[hl];exact agQ))) (by omega) (fun m hm=>G9 m (by omega)) (fun m hm l hl=>akZ (hO m (by omega)) (by rw[hl];exact agQ)) (k:=true) (ex:=true) (k2:=true) (Ls:=true)
 have i2:=fun(e1:(bV [d] != 0)=false) (e2:(!(JJ 0 (i64.wrap ((d.ay.length:Int)-1)) c))=false)=>show fK c (fF [d]).g.length by rw[(hJ e1).gl];exact hc e1 e2
 exact aO (hO n (by omega)) (.o h2 (.o h3 (.sh (fun _=>.rn (.dF [.agg [.nil .slc,.nil .slc,.nil .slc,.nil .slc,.int .i64 0],.int .i64 (bV [d])]) rfl) fun e1=>.sh (fun _=>.rn (.dF [.agg [.nil .slc,.nil .slc,.nil .slc,.nil .slc,.int .i64 0],.int .i64 3]) rfl) fun e2=>.o (hc e1 e2) (.sh (fun _=>.rn (.dF [.agg [.nil .slc,.nil .slc,.nil .slc,.nil .slc,.int .i64 0],.int .i64 3]) rfl) fun e3=>.fr [1] (s1 e1) (.o (i2 e1 e2) (.fr [1,2] (s2 e1 e2 e3) .rr))))))
end Go.Proofs.YtmobpoiejckagaaGreat
namespace Pv
open Go Tw
theorem Good.a8b{X:kR}{P:Program}{T:qH}{L:Nat}{α β:Type}{f:FuncId}{a:UA X P α}{r:Ar X P β}{S:α->β}{pre:α->List Prop}{fP X8 a7h al1:fA X.Γ}(d:Nat)(hg:Good X P T L fP)(hg2:Good X P T L X8)(hg3:Good X P T L a7h)(hg4:Good X P T L al1)
  (hf:∀n,d<=n->(∀m,n-d<=m->jF X P (lq P T L m) fP)->(∀m,n-d<=m->jF X P (lq P T L m) X8)->(∀m,n-d<=m->jF X P (lq P T L m) a7h)->(∀m,n-d<=m->jF X P (lq P T L m) al1)->∀x,(∀p∈pre x,p)->nZ X P (lq P T L (n+1)) f (a.put x) (r.put (S x)) []):Good X P T L (cO f a r S pre fP):=by
 obtain⟨N2,hN2⟩:=hg2;obtain⟨N3,hN3⟩:=hg3;obtain⟨N4,hN4⟩:=hg4;obtain⟨M,hM⟩:=hg;refine⟨M+N2+N3+N4+d+1,fun n hn=>?_⟩;obtain⟨k,rfl⟩:∃k,n=k+1:=⟨n-1,by omega⟩;intro g vs v ext ps ho hp;unfold cO at ho;split at ho
 .rename_i e;have e:=a8K e;subst e;split at ho
  .rename_i x hx;cases ho;intro A h first args cap Iw hv
   exact hf k (by omega) (fun m hm=>hM m (by omega)) (fun m hm=>hN2 m (by omega)) (fun m hm=>hN3 m (by omega)) (fun m hm=>hN4 m (by omega)) x hp A h first args cap Iw (a.ok hx hv)
  .exact hM (k+1) (by omega) g vs v ext ps ho hp
 .exact hM (k+1) (by omega) g vs v ext ps ho hp
end Pv
namespace Go.Proofs.YtmobpoiejckagaaGreat
open Go Tw Pv dw
def F8(k:Int):Bool:=decide (7<=k∧k<=16)
def pJ(k:Int)(a b:V):V×Int:=if F8 k=true then Hu k a b else(V0,2)
theorem bne{a b:Int}(h:a≠b):(a==b)=false:=by simpa using h
def a8c:fA aC:=ZC 101 (a1 uA) (fun _=>.nil .fn) (fun _=>[]) (fun p=>[F8 p=false]) al0
theorem afY:Gd a8c:=aqj.X6 0 fun n _ hO p hp=>by
 have h:¬(7<=p∧p<=16):=by simpa[F8]using hp _ (.head _)
 exact BA hX (hO n (by omega)) (by kernel_rfl) (.b (bne (show p≠7 by omega)) (.b (bne (show p≠8 by omega)) (.b (bne (show p≠9 by omega)) (.b (bne (show p≠10 by omega)) (.b (bne (show p≠11 by omega)) (.b (bne (show p≠12 by omega)) (.b (bne (show p≠13 by omega)) (.b (bne (show p≠14 by omega)) .er))))))))
def Yf:fA aC:=cO 45 (a3 uA vA vA) (dR (a2 vA iA)) (fun p=>pJ p.1 p.2.1 p.2.2) np a8c
theorem a2d:Gd Yf:=afY.deep 1 fun n hn hO p hp=>by
 obtain⟨k,a,b⟩:=p;cases h:F8 k
 .have h9:¬(7<=k∧k<=16):=by simpa[F8]using h
  show nZ X0 Qp _ _ _ ((dR (a2 vA iA)).put (pJ k a b)) _;unfold pJ;rw[h];exact aO (hO n (by omega)) (.b (bne (show k≠15 by omega)) (.b (bne (show k≠16 by omega)) (.o h (.b (rfl:true=true) .rr))))
 .show nZ X0 Qp _ _ _ ((dR (a2 vA iA)).put (pJ k a b)) _;unfold pJ;rw[a0q h];exact hO (n+1) (by omega) 45 ((a3 uA vA vA).put (k,a,b)) ((dR (a2 vA iA)).put (Hu k a b)) [] [7<=k∧k<=16] (by kernel_rfl) (fun q hq=>by rw[a2A.1 hq];simpa[F8]using h)
open Go Tw Pv dw
theorem yw{v:V}:IB v↔kX v:=by
 unfold IB vOk jP;constructor
 .rintro⟨h,h0⟩;split at h
  .rename_i e;split at h
   .rename_i e2;simp at e e2 h;exact⟨h0,by omega,fun _=>⟨e2,h⟩,fun hz=>absurd e hz⟩
   cases h
  split at h
  .rename_i e e2;simp at e e2 h;exact⟨h0,e2,fun hz=>absurd hz e,fun _=>h⟩
  cases h
 intro h;refine⟨?_,h.f0⟩;by_cases e:v.f=0
 .rw[a0q (by simpa using e),a0q (by simpa using(h.n e).1)];simpa using(h.n e).2
 rw[a0p (by simpa using e),a0q (by simpa using h.f1)];simpa using h.z e
theorem aaV{k:Int}{a b:V}:(Hu k a b).1=gQ k a b:=by
 unfold Hu gQ
 repeat' split
 all_goals rfl
theorem aaW{k:Int}(h:F8 k=true){a b:V}(ha:IB a)(hb:IB b):IB (pJ k a b).1∧(pJ k a b).1=bH k a b:=by
 have:=aeI (by simpa[F8]using h) (yw.1 ha) (yw.1 hb);unfold pJ;rw[a0q h,aaV,this.1];exact⟨yw.2 this.2,rfl⟩
theorem aaX{k:Int}{a b:V}(h:((pJ k a b).2 != 0)=false):F8 k=true:=by
 unfold pJ at h;cases e:F8 k
 .rw[e]at h;simp at h
 rfl
theorem aaY:IB lS:=⟨by decide,by decide⟩
theorem afZ:IB V0:=⟨by decide,by decide⟩
abbrev aaZ(u:Int)(l:List V):V:=(pJ u (l.getD 0 V0) (l.getD 1 V0)).1
abbrev ab1(l:List V):V:=(jH (l.getD 0 V0) (l.getD 1 V0) (l.getD 2 V0)).1
theorem al2{m:Nat}{u:Int}(h1:1<=m)(hO:Ok (m-1) Yf){l:List V}(h:l.length=2):aU X0 Qp (bQ m) (.fn 112 [] [.ptr 0 0 1]) [lV l] [.aF [.int .u8 u]] (.agg (aaZ u l).ps) [.aF [.int .u8 u]]:=by
 obtain⟨m,rfl⟩:∃k,m=k+1:=⟨m-1,by omega⟩;exact fU hO (first:=[]) (cap:=[.ptr 0 0 1]) (.o (aH (by omega:0<l.length)) (.o (aH (by omega:1<l.length)) .er))
theorem aqk{m:Nat}(h1:1<=m)(hO:Ok (m-1) Yf){l:List V}(h:l.length=3):aU X0 Qp (bQ m) (.fn 113 [] []) [lV l] [] (.agg (ab1 l).ps) []:=by
 obtain⟨m,rfl⟩:∃k,m=k+1:=⟨m-1,by omega⟩;exact fU hO (first:=[]) (cap:=[]) (.o (aH (by omega:0<l.length)) (.o (aH (by omega:1<l.length)) (.o (aH (by omega:2<l.length)) .er)))
theorem al3{m:Nat}(hO:Ok m Yf){l:List V}(h:l.length<=ah):aU X0 Qp (bQ m) (.fn 117 [] []) [lV l] [] (.agg (nX l).ps) []:=nZ.ZU hX (first:=[]) (cap:=[]) (hO 117 [lV l] (vA.put (nX l)) [] [l.length<=ah] (by kernel_rfl) (fun p h9=>by rw[a2A.1 h9];exact h)) rfl rfl rfl rfl
theorem ab2(l:List V):IB (nX l):=by unfold nX;split;exact aaY;exact afZ
theorem a09{a b c:V}(ha:IB a)(hb:IB b)(hc:IB c):IB (jH a b c).1:=by
 have:=a3b (yw.1 ha) (yw.1 hb) (yw.1 hc);rw[this.1];exact yw.2 this.2
def xg(p:Int×Dg×Dg):Dg×Int:=if(bV [p.2.1,p.2.2] != 0)=true then(lX,bV [p.2.1,p.2.2])else if((pJ p.1 lS lS).2 != 0)=true then(lX,(pJ p.1 lS lS).2)else(AU (fF [p.2.1,p.2.2]) (aaZ p.1),0)
def Yg(p:Dg×Dg×Dg):Dg×Int:=if(bV [p.1,p.2.1,p.2.2] != 0)=true then(lX,bV [p.1,p.2.1,p.2.2])else(AU (fF [p.1,p.2.1,p.2.2]) ab1,0)
def zN(p:Dg):Dg×Int:=if(bV [p] != 0)=true then(lX,bV [p])else(AU (fF [p]) nX,0)
theorem ab3{P:Dg->Prop}{a b:Dg}(ha:P a)(hb:P b):∀d∈[a,b],P d:=fun x hx=>by
 rcases a2r.1 hx with rfl|hx
 .exact ha
 .rw[a2A.1 hx];exact hb
theorem aql{P:Dg->Prop}{a b c:Dg}(ha:P a)(hb:P b)(hc:P c):∀d∈[a,b,c],P d:=fun x hx=>by
 rcases a2r.1 hx with rfl|hx
 .exact ha
 .exact ab3 hb hc x hx
abbrev rnE(e:Int):PV aC:=.dF [.agg [.nil .slc,.nil .slc,.nil .slc,.nil .slc,.int .i64 0],.int .i64 e]
abbrev HcA(D:List Dg)(u:Int)(g:List Int):List (PB aC):=[.list true true 26 D,.cells [.int .u8 u],.list true true 3 g]
abbrev HcB(u:Int):List (PB aC):=[.gone,.cells [.int .u8 u],.gone]
theorem rE(e:Int):Fp (Γ:=X0.Γ) (Is (X:=X0) (P:=Qp) (dR (a2 dA iA)) (lX,e)) .n (.ret (some (rnE e))):=by
 have h:(dR (a2 dA iA)).get (rnE e)=some (lX,e):=rfl;exact Fp.rn (X:=X0) (P:=Qp) (rnE e) h
def al4:fA aC:=cO 62 (a3 uA dA dA) (dR (a2 dA iA)) xg (fun p=>[rU p.2.1,rU p.2.2]) Yf
theorem ab4:(2:Nat)<=ah:=by unfold ah;omega
theorem ag0:(3:Nat)<=ah:=by unfold ah;omega
theorem aqn:Gd al4:=Good.a8b 24 a2d XQ KQ a2d fun n hn hO G9 hO3 hO4 p hp=>by
 obtain⟨u,d,e⟩:=p;have h1:∀x∈[d,e],rU x:=ab3 (hp _ (.head _)) (hp _ (.tail _ (.head _)));have h3:0<[d,e].length∧[d,e].length<=ah:=⟨by simp,ab4⟩;have hJ:(bV [d,e] != 0)=false->kD (fF [d,e]):=fun e1=>Bf (D:=[d,e]) (by simp) (by simp) h1 (by simpa using e1);have s1:=fun(e1:(bV [d,e] != 0)=false)=>afX (n:=n) (f:=112) u (by omega) (fun m hm=>hO3 m (by omega)) (D:=[d,e]) (by simp) (hJ e1).bJ.len (k:=true) (ex:=true);have s2:=fun(e1:(bV [d,e] != 0)=false) (e2:((pJ u lS lS).2 != 0)=false)=>akY (n:=n) (f:=112) u (hJ e1) (op:=aaZ u) (DR (hJ e1) (Jb.inD h1 (show bV [d,e]=0 by simpa using e1)) fun l hl hv=>(aaW (aaX e2) (hv _ (fM (show 0<l.length by rw[hl];exact Nat.zero_lt_two))) (hv _ (fM (show 1<l.length by rw[hl];exact Nat.one_lt_two)))).1) (by omega) (fun m hm=>G9 m (by omega)) (fun m hm l hl=>al2 (by omega) (hO4 _ (by omega)) hl) (k:=true) (ex:=true) (k2:=true) (Ls:=true);show nZ X0 Qp _ _ _ ((dR (a2 dA iA)).put (if(bV [d,e] != 0)=true then(lX,bV [d,e])else if((pJ u lS lS).2 != 0)=true then(lX,(pJ u lS lS).2)else(AU (fF [d,e]) (aaZ u),0))) _;exact aO (hO n (by omega)) (.o h1 (.o h3 (.sh (fun _=>rE _) fun e1=>.sh (fun _=>rE _) fun e2=>.Qq (H2:=HcA [d,e] u (fF [d,e]).g) [2,0] [1] (s1 e1) (.Qq (H2:=HcB u) [2,0,3] [1] (s2 e1 e2) .rr))))
def al6:fA aC:=cO 63 (a3 dA dA dA) (dR (a2 dA iA)) Yg (fun p=>[rU p.1,rU p.2.1,rU p.2.2]) al4
theorem aqo:Gd al6:=Good.a8b 24 aqn XQ KQ a2d fun n hn hO G9 hO3 hO4 p hp=>by
 obtain⟨a,b,c⟩:=p;have h1:∀x∈[a,b,c],rU x:=aql (hp _ (.head _)) (hp _ (.tail _ (.head _))) (hp _ (.tail _ (.tail _ (.head _))));have h3:0<[a,b,c].length∧[a,b,c].length<=ah:=⟨by simp,ag0⟩;have hJ:(bV [a,b,c] != 0)=false->kD (fF [a,b,c]):=fun e1=>Bf (D:=[a,b,c]) (by simp) (by simp) h1 (by simpa using e1);have s1:=fun(e1:(bV [a,b,c] != 0)=false)=>JI (n:=n) (f:=113) (by omega) (fun m hm=>hO3 m (by omega)) (D:=[a,b,c]) (by simp) (hJ e1).bJ.len (k:=true) (ex:=true);have s2:=fun(e1:(bV [a,b,c] != 0)=false)=>a81 (n:=n) (f:=113) (hJ e1) (op:=ab1) (DR (hJ e1) (Jb.inD h1 (show bV [a,b,c]=0 by simpa using e1)) fun l hl hv=>a09 (hv _ (fM (show 0<l.length by rw[hl];exact Nat.succ_pos 2))) (hv _ (fM (show 1<l.length by rw[hl];exact Nat.succ_lt_succ (Nat.succ_pos 1)))) (hv _ (fM (show 2<l.length by rw[hl];exact Nat.lt_succ_self 2)))) (by omega) (fun m hm=>G9 m (by omega)) (fun m hm l hl=>aqk (by omega) (hO4 _ (by omega)) hl) (k:=true) (ex:=true) (k2:=true) (Ls:=true);show nZ X0 Qp _ _ _ ((dR (a2 dA iA)).put (if(bV [a,b,c] != 0)=true then(lX,bV [a,b,c])else(AU (fF [a,b,c]) ab1,0))) _;exact aO (hO n (by omega)) (.o h1 (.o h3 (.sh (fun _=>rE _) fun e1=>.fr [1] (s1 e1) (.fr [1,2] (s2 e1) .rr))))
def al7:fA aC:=cO 67 (a1 dA) (dR (a2 dA iA)) zN (fun p=>[rU p]) al6
theorem aqp:Gd al7:=Good.a8b 24 aqo XQ KQ a2d fun n hn hO G9 hO3 hO4 d hp=>by
 have h1:∀x∈[d],rU x:=fun x hx=>by rw[a2A.1 hx];exact hp _ (.head _)
 have h3:0<[d].length∧[d].length<=ah:=⟨by simp,a3T⟩;have hJ:(bV [d] != 0)=false->kD (fF [d]):=fun e1=>Bf (D:=[d]) (by simp) (by simp) h1 (by simpa using e1);have s1:=fun(e1:(bV [d] != 0)=false)=>JI (n:=n) (f:=117) (by omega) (fun m hm=>hO3 m (by omega)) (D:=[d]) (by simp) (hJ e1).bJ.len (k:=true) (ex:=true);have s2:=fun(e1:(bV [d] != 0)=false)=>a81 (n:=n) (f:=117) (hJ e1) (op:=nX) (fun t hd=>ab2 _) (by omega) (fun m hm=>G9 m (by omega)) (fun m hm l hl=>al3 (hO4 m (by omega)) (by rw[hl];exact a3T)) (k:=true) (ex:=true) (k2:=true) (Ls:=true);show nZ X0 Qp _ _ _ ((dR (a2 dA iA)).put (if(bV [d] != 0)=true then(lX,bV [d])else(AU (fF [d]) nX,0))) _;exact aO (hO n (by omega)) (.o h1 (.o h3 (.sh (fun _=>rE _) fun e1=>.fr [1] (s1 e1) (.fr [1,2] (s2 e1) .rr))))
open Go Tw Pv dw
def nY(v:V):Int:=if(!(Di v))=true then 2 else 0
def Yh:fA aC:=cO 106 (a1 vA) iA (fun p=>nY p) np al7
theorem adr:Gd Yh:=aqp.add fun n hO p hp=>aO hO (.ss .rr .rr)
theorem a8e{n f:Nat}{J:Jb}{k ex k2 Ls:Bool}(h:aU X0 Qp (bQ n) (.fn 87 [] []) [.agg (J.ps (.fn f [] []))] [] (.map 0) [.map (kV.im (eY J))]):aU X0 Qp (bQ n) (.fn 87 [] []) [.agg [lI J.s,lI J.o,.own 0,.own 1,.fn f [] []]] [.list k ex 26 J.D,.list k2 Ls 3 J.g] (.map 2) [.gone,.gone,.map (kV.im (eY J))]:=by
 have h1:=aU.frame hX (ks:=[]) (H':=[.gone,.gone]) (Hp:=[]) (OI:=[.map (kV.im (eY J))]) (v':=.map 2) (fv':=.fn 87 [] []) (xs':=[.agg (J.ps (.fn f [] []))]) h (by decide) rfl rfl rfl rfl rfl rfl rfl;exact aU.fz hX (H:=[.list k ex 26 J.D,.list k2 Ls 3 J.g]) (cs:=[lI J.s,lI J.o,.own 0,.own 1]) (rest:=[.fn f [] []]) [0,1] h1 rfl (fun i hi=>by simpa[kL.jY,kL]using hi)
open Go Tw Pv dw
def look(t:List (V×Int))(v:V):Int:=((t.find? fun e=>decide (e.1=v)).map (·.2)).getD 0
theorem Io{t:List (V×Int)}(hn:(t.map (·.1)).Nodup)(v:V):(qp X0 Qp 39 (kV.im t) (kV.tv v) (.int .i64 (look t v)))∨(look t v=0∧nN X0 Qp 39 (kV.im t) (kV.tv v)):=by
 by_cases h:v∈t.map (·.1)
 .obtain⟨e,he,hv⟩:=a1e.1 h;obtain⟨e2,h2⟩:=a5v.1 (List.find?_isSome (p:=fun e:V×Int=>decide (e.1=v)) |>.2 ⟨e,he,show decide (e.1=v)=true by simpa using hv⟩);have h3:e2.1=v:=by simpa using List.find?_some h2
  refine .inl (kV.found (by rw[zL];exact hn) (a1e.2 ⟨e2,List.mem_of_find?_eq_some h2,?_⟩));unfold look;rw[h2,h3];rfl
 refine .inr ⟨?_,kV.fresh (by rw[zL];exact h)⟩;unfold look;rw[aea.2 fun e he=>by
  simp only[a1o];intro hv;exact h (a1e.2 ⟨e,he,hv⟩)]
 rfl
abbrev al8:PV aC:=.agg [.nil .slc,.nil .slc,.nil .slc,.nil .slc,.nil .fn]
abbrev a8f(J:Jb)(f:Nat)(a b:Nat):PV aC:=.agg [lI J.s,lI J.o,.own a,.own b,.fn f [] []]
abbrev HO(D:List Dg)(g:List Int):List (PB aC):=[.list true true 26 D,.list true true 3 g]
theorem a8g{P:Dg->Prop}{d:Dg}(h:P d):∀x∈[d],P x:=fun x hx=>by rw[a2A.1 hx];exact h
theorem al9{n:Nat}(hO:Ok n Yh){d:Dg}{v:V}(hp:rU d)(e1:(bV [d] != 0)=true):aU X0 Qp (bQ (n+1)) (.fn 86 [] []) [.agg d.ps,.agg v.ps] [] (.dF [al8,.int .i64 (bV [d])]) []:=by
 have h1:∀x∈[d],rU x:=a8g hp;have h3:0<[d].length∧[d].length<=ah:=⟨by simp,a3T⟩;exact aU.drop hX (mQ hX hO (first:=[]) (cap:=[]) (H1:=[.list true true 26 [d]]) (by kernel_rfl) (.o h1 (.o h3 (.b e1 .er)))) rfl rfl
theorem ala{n:Nat}(hO:Ok n Yh){d:Dg}{v:V}(hp:rU d)(e1:(bV [d] != 0)=false)(e2:(nY v != 0)=true):aU X0 Qp (bQ (n+1)) (.fn 86 [] []) [.agg d.ps,.agg v.ps] [] (.dF [al8,.int .i64 4]) []:=by
 have h1:∀x∈[d],rU x:=a8g hp;have h3:0<[d].length∧[d].length<=ah:=⟨by simp,a3T⟩;exact aU.drop hX (mQ hX hO (first:=[]) (cap:=[]) (H1:=[.list true true 26 [d]]) (by kernel_rfl) (.o h1 (.o h3 (.b e1 (.b e2 .er))))) rfl rfl
theorem alb{n:Nat}(h2:2<=n)(Az:Ok n Yh)(hO:∀m,n-2<=m->Ok m qG){d:Dg}{v:V}(hp:rU d)(e1:(bV [d] != 0)=false)(e2:(nY v != 0)=false):aU X0 Qp (bQ (n+1)) (.fn 86 [] []) [.agg d.ps,.agg v.ps] [] (.dF [a8f (fF [d]) 79 0 1,.int .i64 0]) (HO [d] (fF [d]).g):=by
 have h1:∀x∈[d],rU x:=a8g hp;have h3:0<[d].length∧[d].length<=ah:=⟨by simp,a3T⟩;have hJ:kD (fF [d]):=Bf (D:=[d]) (by simp) (by simp) h1 (by simpa using e1);have s1:=JI (n:=n) (f:=79) h2 hO (D:=[d]) (by simp) hJ.bJ.len (k:=true) (ex:=true);have h:aU X0 Qp (bQ (n+1)) (.fn 86 [] []) [.agg d.ps,.agg v.ps] [] (.dF [a8f (fF [d]) 79 1 2,.int .i64 0]) [.list true true 26 [d],.list true true 26 [d],.list true true 3 (fF [d]).g]:=fU Az (first:=[]) (cap:=[]) (.o h1 (.o h3 (.b e1 (.b e2 (.fr [1] s1 .er)))));exact aU.gs hX h [.gc [1,2]] rfl
theorem Bg(J:Jb):((eY J).map (·.1)).Nodup:=(((qo Yb (AV (uS J))).map (·.1)).nodup_iff).2 (FY (uS J)).1
theorem Yi(φ:V->Int)(J:Jb):dH φ (eY J)=dW φ (uS J):=by
 unfold eY;rw[a3C φ (qo Yb (AV (uS J))),Tf]
theorem Yj{α:Type}:∀l:List α,dW (fun _=>1) l=(l.length:Int)
 | []=>rfl
 |a::l=>by
  have:=Yj l;simp only[dW,a4d];omega
theorem TA{J:Jb}(hJ:kD J):JG (eY J):=by
 refine⟨fun e he=>(FY (uS J)).2 e ((qo Yb (AV (uS J))).mem_iff.1 he),?_⟩;rw[Yi,Yj];have h1:(uS J).length<=(XZ J).length:=by
  unfold uS a05;rw[a4l];exact a4T (a8Z _ _) (by rw[a4l];exact a0w _)
 have h2:(XZ J).length<=BD J.s:=a4T (a8Z _ _) (by rw[a4l,a8P];exact a0w _);have h3:=hJ.bJ.a6r;have h4:=hJ.bJ.many;omega
def Vm(p:Dg×V):Int×Int:=if(bV [p.1] != 0)=true then(0,bV [p.1])else if(nY p.2 != 0)=true then(0,4)else(look (eY (fF [p.1])) p.2,0)
def ag2:fA aC:=cO 27 (a2 dA vA) (dR (a2 iA iA)) Vm (fun p=>[rU p.1]) Yh
theorem aqr:Gd ag2:=Good.X7 24 adr KQ fun n hn hO G9 p hp=>by
 obtain⟨d,v⟩:=p;have h1:rU d:=hp _ (.head _);obtain⟨n,rfl⟩:∃k,n=k+1:=⟨n-1,by omega⟩;have Az:=hO (n+1) (by omega);cases e1:(bV [d] != 0)
 .cases e2:(nY v != 0)
  .have s1:=alb (n:=n) (by omega) (hO n (by omega)) (fun m hm=>G9 m (by omega)) h1 e1 e2;have hJ:kD (fF [d]):=Bf (D:=[d]) (by simp) (by simp) (a8g h1) (by simpa using e1);have s2:=a8e (k:=true) (ex:=true) (k2:=true) (Ls:=true) (PZ hJ (n:=n-1) (f:=79) (G9 _ (by omega)) (show 0<[d].length by simp));rw[show n-1+2=n+1 by omega]at s2;show nZ X0 Qp _ _ _ ((dR (a2 iA iA)).put (if(bV [d] != 0)=true then(0,bV [d])else if(nY v != 0)=true then(0,4)else(look (eY (fF [d])) v,0))) _;rw[e1,e2];rcases Io (Bg (fF [d])) v with hf|⟨hz,hf⟩
   .exact aO Az (.fr [] s1 (.b (rfl:((0:Int) != 0)=false) (.fr [0,1] s2 (.c (.int .i64 (look (eY (fF [d])) v)) [] hf .rr))))
   .rw[hz];exact aO Az (.fr [] s1 (.b (rfl:((0:Int) != 0)=false) (.fr [0,1] s2 (.a .calm (.o hf .rr)))))
  .have s1:=ala (n:=n) (hO n (by omega)) h1 e1 e2;show nZ X0 Qp _ _ _ ((dR (a2 iA iA)).put (if(bV [d] != 0)=true then(0,bV [d])else if(nY v != 0)=true then(0,4)else(look (eY (fF [d])) v,0))) _;rw[e1,e2];exact aO Az (.fr [] s1 (.b (rfl:((4:Int) != 0)=true) .rr))
 .have s1:=al9 (n:=n) (v:=v) (hO n (by omega)) h1 e1;show nZ X0 Qp _ _ _ ((dR (a2 iA iA)).put (if(bV [d] != 0)=true then(0,bV [d])else if(nY v != 0)=true then(0,4)else(look (eY (fF [d])) v,0))) _;rw[a0q e1];exact aO Az (.fr [] s1 (.b e1 .rr))
open Go Tw Pv dw
structure An where
 q:Int
 none:Bool
 yes:Bool
 n:Int
 lo:Int
 hi:Int
 fault:Bool
 set:List Int
deriving DecidableEq
abbrev An0:An:=⟨0,false,false,0,0,0,false,[]⟩
def alc:Ar X0 Qp Unit where
 put _:=.nil .slc
 get v:=match v with
  |.nil .slc=>some ()
  |_=>none
 ok:=by
  intro v a hg A m h x hv;split at hg
  .exact hv
  .cases hg
def Vz:Arg An:=aeB (a6h (Le uA (Le tA (Le tA (Le iA (Le iA (a4 iA tA pK alc)))))))
 (fun p=>⟨p.1,p.2.1,p.2.2.1,p.2.2.2.1,p.2.2.2.2.1,p.2.2.2.2.2.1,p.2.2.2.2.2.2.1,p.2.2.2.2.2.2.2.1⟩) (fun a=>(a.q,a.none,a.yes,a.n,a.lo,a.hi,a.fault,a.set,())) fun _=>rfl
abbrev anW(a:An)(s:PV aC):PV aC:=.agg [.int .u8 a.q,.bool a.none,.bool a.yes,.int .i64 a.n,.int .i64 a.lo,.int .i64 a.hi,.bool a.fault,s,.nil .slc]
theorem rA(a:An)(h:a.set=[])(e:Int):Fp (Γ:=X0.Γ) (Is (X:=X0) (P:=Qp) (dR (a2 Vz iA)) (a,e)) .n (.ret (some (.dF [anW a (.nil .slc),.int .i64 e]))):=by
 obtain⟨q,no,y,n,l,hi,f,s⟩:=a;cases h;have h:(dR (a2 Vz iA)).get (.dF [anW ⟨q,no,y,n,l,hi,f,[]⟩ (.nil .slc),.int .i64 e])=some (⟨q,no,y,n,l,hi,f,[]⟩,e):=rfl;exact Fp.rn (X:=X0) (P:=Qp) _ h
def a8h(q:Int)(t:List (V×Int)):An×Int:=
 if(q==1)=true then(⟨q,false,look t lS==dH (fun _=>1) t,0,0,0,false,[]⟩,0)
 else if(q==2)=true then(⟨q,false,decide (look t lS>0),0,0,0,false,[]⟩,0)
 else if(q==3)=true then(⟨q,false,false,look t lS,0,0,false,[]⟩,0)
 else if(q==4)=true then(if lU t=[]then(⟨q,true,false,0,0,0,uH t,[]⟩,0)else(⟨q,((lU t).length:Int)==0,false,0,(lU t).getD 0 0,(lU t).getD (i64.wrap ((lU t).length-1)).toNat 0,uH t,[]⟩,0))
 else(⟨q,false,false,0,0,0,uH t,lU t⟩,0)
def G6(q:Int)(t:List (V×Int)):An×Int:=if t=[]then(⟨q,true,false,0,0,0,false,[]⟩,0)else a8h q t
def a2e(p:Int×Dg×Dg):An×Int:=if(bV [p.2.1,p.2.2] != 0)=true then(An0,bV [p.2.1,p.2.2])else if decide (p.1<1)=true then(An0,2)else if decide (p.1>5)=true then(An0,2)else G6 p.1 (eY (fF [p.2.1,p.2.2]))
def a8i:fA aC:=cO 33 (a3 uA dA dA) (dR (a2 Vz iA)) a2e (fun p=>[rU p.2.1,rU p.2.2]) ag2
theorem ag3{t:List (V×Int)}(h:JG t):(lU t).length<=2000:=by
 unfold lU;rw[show ∀l:List Int,(gW l).length=l.length from fun l=>(adH l _).length_eq,a4l];exact a4T (a8Z _ _) h.len
abbrev HMt(t:List (V×Int)):List (PB aC):=[.map (kV.im t)]
abbrev HMn(t:List (V×Int)):List (PB aC):=[.map (kV.im t),.list false false 3 (lU t)]
section
variable {n:Nat} {q:Int} {d e:Dg} (hO:Ok n ag2) (h1:∀ x∈[d,e],rU x) (e1:(bV [d,e] != 0)=false) (e2:decide (q<1)=false) (e3:decide (q>5)=false) {t:List (V×Int)} (ht:JG t)
 (s1:aU X0 Tryz.prog (bQ n) (.fn 78 [] []) [.fn 79 [] [],.own 0] [.list true true 26 [d,e]] (a8f (fF [d,e]) 79 0 1) (HO [d,e] (fF [d,e]).g))
 (s2:aU X0 Tryz.prog (bQ n) (.fn 87 [] []) [a8f (fF [d,e]) 79 0 1] (HO [d,e] (fF [d,e]).g) (.map 2) [.gone,.gone,.map (kV.im t)])
 (s3:aU X0 Tryz.prog (bQ n) (.fn 90 [] []) [.map 0] [.iG (kV.im t)] (.int .i64 (dH (fun _=>1) t)) [.iG (kV.im t)])
 (s4:lU t=[]->aU X0 Tryz.prog (bQ n) (.fn 88 [] []) [.map 0] [.iG (kV.im t)] (.dF [.nil .slc,.bool (uH t)]) [.iG (kV.im t)])
 (s5:lU t≠[]->aU X0 Tryz.prog (bQ n) (.fn 88 [] []) [.map 0] [.iG (kV.im t)] (.dF [.own 1,.bool (uH t)]) [.iG (kV.im t),.list false false 3 (lU t)])
include hO h1 e1 e2 e3 s1 s2
theorem ab5(h:t=[]):nZ X0 Qp (bQ (n+1)) 33 ((a3 uA dA dA).put (q,d,e)) ((dR (a2 Vz iA)).put (⟨q,true,false,0,0,0,false,[]⟩,0)) []:=by
 subst h;have h3:0<[d,e].length∧[d,e].length<=ah:=⟨by simp,ab4⟩;exact aO hO (.o h1 (.o h3 (.b e1 (.b e2 (.b e3 (.fr [1] s1 (.fr [1,2] s2 (.b (show(((kV.im ([]:List (V×Int))).length:Int)==0)=true from rfl) (rA _ rfl _)))))))))
variable (hd:(t.map (·.1)).Nodup)
include ht s3 s4 s5 hd
theorem a8j(h:t≠[]):nZ X0 Qp (bQ (n+1)) 33 ((a3 uA dA dA).put (q,d,e)) ((dR (a2 Vz iA)).put (a8h q t)) []:=by
 have h3:0<[d,e].length∧[d,e].length<=ah:=⟨by simp,ab4⟩;have hl:(((kV.im t).length:Int)==0)=false:=by
  rw[kV.pI];cases t with
  |nil=>exact absurd rfl h
  |cons a r=>exact bne (by simp only[a4d];omega)
 have QK:=ag3 ht;have s0:aU X0 Qp (bQ n) (.fn 89 [] []) [] [] (.agg lS.ps) []:=nZ.ZU hX (first:=[]) (cap:=[]) (hO 89 [] (vA.put lS) [] [] (by kernel_rfl) (fun p h=>by cases h)) rfl rfl rfl rfl;unfold a8h;by_cases hn:lU t=[]
 .rw[a0q hn];rcases Io hd lS with hf|⟨hz,hf⟩
  .exact aO hO (.o h1 (.o h3 (.b e1 (.b e2 (.b e3 (.fr [1] s1 (.fr [1,2] s2 (.b hl (.Qq (H2:=HMt t) [3] [0] (s4 hn) (.ss (.fr [] s0 (.c (.int .i64 (look t lS)) [] hf (.Qq (H2:=HMt t) [3] [0] s3 (rA _ rfl _)))) (.ss (.fr [] s0 (.c (.int .i64 (look t lS)) [] hf (rA _ rfl _))) (.ss (.fr [] s0 (.c (.int .i64 (look t lS)) [] hf (rA _ rfl _))) (.ss (.b (c:=!((0:Int)==0)) (t:=false) rfl (rA _ rfl _)) (rA ⟨q,false,false,0,0,0,uH t,lU t⟩ hn _))))))))))))))
  rw[hz];exact aO hO (.o h1 (.o h3 (.b e1 (.b e2 (.b e3 (.fr [1] s1 (.fr [1,2] s2 (.b hl (.Qq (H2:=HMt t) [3] [0] (s4 hn) (.ss (.a .calm (.o hf (.Qq (H2:=HMt t) [3] [0] s3 (rA _ rfl _)))) (.ss (.a .calm (.o hf (rA _ rfl _))) (.ss (.a .calm (.o hf (rA _ rfl _))) (.ss (.b (c:=!((0:Int)==0)) (t:=false) rfl (rA _ rfl _)) (rA ⟨q,false,false,0,0,0,uH t,lU t⟩ hn _))))))))))))))
 rw[a0p hn];have hp:0<(lU t).length:=aaF.2 hn;have hb:(!(((lU t).length:Int)==0))=true:=by rw[bne (by omega)];rfl
 have i0:fK 0 (lU t).length:=aH hp;have i1:fK (i64.wrap ((lU t).length-1)) (lU t).length:=by
  rw[wrap_small (by omega) (by omega)];exact⟨by omega,by omega⟩
 rcases Io hd lS with hf|⟨hz,hf⟩
 .exact aO hO (.o h1 (.o h3 (.b e1 (.b e2 (.b e3 (.fr [1] s1 (.fr [1,2] s2 (.b hl (.Qq (H2:=HMn t) [3] [0] (s5 hn) (.ss (.fr [] s0 (.c (.int .i64 (look t lS)) [] hf (.Qq (H2:=HMt t) [3] [0] s3 (rA _ rfl _)))) (.ss (.fr [] s0 (.c (.int .i64 (look t lS)) [] hf (rA _ rfl _))) (.ss (.fr [] s0 (.c (.int .i64 (look t lS)) [] hf (rA _ rfl _))) (.ss (.b hb (.o i0 (.o i1 (rA _ rfl _)))) .rr)))))))))))))
 rw[hz];exact aO hO (.o h1 (.o h3 (.b e1 (.b e2 (.b e3 (.fr [1] s1 (.fr [1,2] s2 (.b hl (.Qq (H2:=HMn t) [3] [0] (s5 hn) (.ss (.a .calm (.o hf (.Qq (H2:=HMt t) [3] [0] s3 (rA _ rfl _)))) (.ss (.a .calm (.o hf (rA _ rfl _))) (.ss (.a .calm (.o hf (rA _ rfl _))) (.ss (.b hb (.o i0 (.o i1 (rA _ rfl _)))) .rr)))))))))))))
end
theorem ald:Gd a8i:=Good.X7 24 aqr KQ fun n hn hO G9 p hp=>by
 obtain⟨q,d,e⟩:=p;have h1:∀x∈[d,e],rU x:=ab3 (hp _ (.head _)) (hp _ (.tail _ (.head _)));have h3:0<[d,e].length∧[d,e].length<=ah:=⟨by simp,ab4⟩;have Az:=hO n (by omega);show nZ X0 Qp _ _ _ ((dR (a2 Vz iA)).put (if(bV [d,e] != 0)=true then(An0,bV [d,e])else if decide (q<1)=true then(An0,2)else if decide (q>5)=true then(An0,2)else G6 q (eY (fF [d,e])))) _;cases e1:(bV [d,e] != 0)
 .cases e2:decide (q<1)
  .cases e3:decide (q>5)
   .have hJ:=Bf (D:=[d,e]) (by simp) (by simp) h1 (by simpa using e1);have ht:=TA hJ;have s1:=JI (n:=n) (f:=79) (by omega) (fun m hm=>G9 m (by omega)) (D:=[d,e]) (by simp) hJ.bJ.len (k:=true) (ex:=true);have s2:=a8e (k:=true) (ex:=true) (k2:=true) (Ls:=true) (PZ hJ (n:=n-2) (f:=79) (G9 _ (by omega)) (show 0<[d,e].length by simp));have s3:=aqa (n:=n-1) ht;have s4:=(adp (n:=n-2) ht).1;have s5:=(adp (n:=n-2) ht).2;rw[show n-2+2=n by omega]at s2 s4 s5;rw[show n-1+1=n by omega]at s3;show nZ X0 Qp _ _ _ ((dR (a2 Vz iA)).put (G6 q (eY (fF [d,e])))) _;unfold G6;by_cases h:eY (fF [d,e])=[]
    .rw[a0q h];exact ab5 Az h1 e1 e2 e3 s1 s2 h
    .rw[a0p h];exact a8j Az h1 e1 e2 e3 ht s1 s2 s3 s4 s5 (Bg _) h
   .exact aO Az (.o h1 (.o h3 (.b e1 (.b e2 (.b e3 (rA _ rfl _))))))
  .exact aO Az (.o h1 (.o h3 (.b e1 (.b e2 (rA _ rfl _)))))
 .exact aO Az (.o h1 (.o h3 (.b e1 (rA _ rfl _))))
open Go Tw Pv dw
section
variable {n:Nat} {t:List (V×Int)} (h:JG t) (ht:t≠[])
theorem ale{k:Bool}:aU X0 Qp (bQ (n+1)) (.fn 96 [] []) [.map 0] [.map (kV.im t)] vF [.map (kV.im t),.cells [.map 0]]:=
 fU gG (first:=[]) (cap:=[]) .er
include h ht
theorem alf:aU X0 Qp (bQ (n+3)) (.fn 95 [] []) [vF] [.iG (kV.im t),.aF [.map 0]] (.slc 2 0 t.length t.length 1 false) [.iG (kV.im t),.aF [.map 0],.mZ ((rV t).map Lr)]:=by
 have h1:=aaS (n:=n) h ht;exact fU gG (first:=[]) (cap:=[]) (.k h1 .er)
omit ht in
theorem a8k:(rV t).length=t.length:=by
 unfold rV;rw[(qo _ _).length_eq,a4l]
theorem alg:aU X0 Qp (bQ (n+1)) (.fn 94 [] []) [.slc 0 0 t.length t.length 1 false] [.mZ ((rV t).map Lr)] (.int .i64 (Q8 (rV t))) [.mZ ((rV t).map Lr)]:=by
 have hl:=a8k h;have h0:rV t≠[]:=fun e=>ht (a8d.1 (by rw[<-hl,e];rfl));have:=akR (n:=n) h0 (by rw[hl];exact h.len)
 rwa [hl]at this
end
end Go.Proofs.YtmobpoiejckagaaGreat
namespace Pv
open Go Tw
section
variable {X:kR} {P:Program}
theorem aU.lend(hX:bM X P){call:aY}{f:FuncId}{cs ws rest xs:List (PV X.Γ)}{H:List (PB X.Γ)}{es:List (PV X.Γ×PV X.Γ)}(is:List Nat)(hs:aU X P call (.fn f [] []) (.agg (ws++rest)::xs) (aZ is H) (.map H.length) (aZ is H++[.map es]))
  (hv:views H cs=some ws) (ho:∀i,i∈kL.jY cs->i∈is) (hg:aZ is H=List.replicate H.length .gone):aU X P call (.fn f [] []) (.agg (cs++rest)::xs) H (.map H.length) (H++[.map es]):=by
 intro A m h tf qZ hr hf hx;obtain⟨x0,r,rfl,v0,vr⟩:=hx.inv;cases v0 with
 |gone hi _ _=>simp[bC]at hi
 |agg a1 a2=>
  rename_i cs';have ha:bZ X P (AA A m) m h (cs++rest) cs':=⟨a1,a2⟩;obtain⟨c1,c2,rfl,b1,b2⟩:=En ha;have hF:=iC (h:=h) is m;have w1:=(lH (m':=bW is m) hX hr b1 hv ho).mono fun b hb=>FA.gone hr hb;have w2:=b2.step hF.1 hF.2;have w3:=w1.app w2;have Zr:=hr.aZ is;obtain⟨w,h',TQ,m1,k1,k2,k3,k4,k5,k6⟩:=hs A (bW is m) h tf (.agg (c1++c2)::r) Zr (hf.step hF.1 hF.2) (.cons (.agg w3.1 w3.2) (vr.step hF.1 hF.2));have e0:∀b,b∉bD (bW is m):=fun b hb=>by
   unfold bD at hb;obtain⟨mb,h1,h2⟩:=a7d.1 hb;obtain⟨i,hi,e⟩:=aaN h1;have KW:i<H.length:=by have:=Zr.len;rw[nO]at this;omega
   obtain⟨mb2,g1,g2⟩:=Zr.at_ i .gone (by rw[hg,afo,a0q KW]);rw[a0g hi,e]at g1;cases g1;cases mb with
   |gone=>cases h2
   |_=>exact g2.elim
  obtain⟨mb,g1,g2⟩:=k2.at_ H.length (.map es) (by rw[a1d (by rw[nO];exact a0w _),nO];simp);cases mb with
  |gy c=>
   have hc:c∈bD m1:=a7d.2 ⟨_,a4s g1,rfl⟩;have JY:h.length<=c:=(k4.new c hc).resolve_left (e0 c);have xR:bD (m++[.gy c])=bD m++[c]:=by unfold bD;rw[List.filterMap_append];rfl
   have hF2:Fr m h (m++[.gy c]) h':=⟨k4.len,fun b hb _=>k4.same b hb (e0 b),fun b hb=>by
    rw[xR]at hb;rcases a2Y.1 hb with hb|hb
    .exact .inl hb
    .rw[a2A.1 hb];exact .inr JY,k4.grow⟩
   have hU2:Up m (m++[.gy c]):=fun i mb hi=>.inl (by rw[a0k (a0d.1 hi).1];exact hi);have hm:(m++[MB.gy c])[H.length]? = some (.gy c):=by rw[<-hr.len];simp
   refine⟨w,h',TQ,m++[.gy c],k1,⟨by simp[hr.len],fun i b hi=>?_,?_,k2.up,fun b hb=>?_⟩,?_,hF2,hU2,fun b hb=>absurd (k6 b hb) (e0 b)⟩
   .by_cases aQ:i<H.length
    .rw[a0k aQ]at hi;obtain⟨mb,q1,q2⟩:=hr.at_ i b hi;exact⟨mb,by rw[a0k (by rw[hr.len];exact aQ)];exact q1,q2.step hF2 hU2 fun d hd=>k4.same d (BR.has q2 hd) (e0 d)⟩
    .have KW:i=H.length:=by
      have:=(a0d.1 hi).1;rw[a1s,a3F]at this;omega
     subst KW;rw[a1d (a0w _)]at hi;simp at hi;subst hi;exact⟨_,hm,g2⟩
   .rw[xR];refine a8G.2 ⟨hr.nodup,by simp,fun a ha b hb=>?_⟩;rw[a2A.1 hb];have:=hr.inb ha;omega
   .rw[xR]at hb;rcases a2Y.1 hb with hb|hb
    .exact hr.D6 b hb
    .rw[a2A.1 hb];exact k2.D6 c hc
   .cases k3 with
    |map e=>rw[g1]at e;cases e;exact .map hm
    |gone hi e o=>simp only[bC,a03]at hi;subst hi;rw[g1]at e;cases e
  |_=>exact g2.elim
variable {A:Nat->Prop} {m m':List MB} {H:List (PB X.Γ)} {h:List HB}
theorem ab6(hX:bM X P){k:Bool}{t i:Nat}{l:List (X.Γ t)}{x:TV}(hl:LR X P (AA A m) m h k true t l x)(hi:m[i]? = some (.dD x)){is:List Nat}(hs:i∈is):VR X P (FA A m is) m' h (.dD t l true) x:=by
 cases hl with
 |nil=>exact .oD
 |emp h0 h1 h2 h3 h4=>exact .dD (.inl h0) h1 (fun e=>absurd rfl e) h3 h4 (by simpa using h2) (a0w _) (fun _=>⟨rfl,rfl⟩) (fun j a hj=>by simp at hj) (fun j a i c v hj=>by simp at hj)
 |some h1 h2 h3 h4 h5 h6 h7 h8 h9=>
  refine .dD (cs:=_) (.inr ⟨i,_,hs,hi,?_⟩) (by unfold aW;rw[h4]) (fun _=>wK h4 (by omega)) h2 h3 (by omega) (a0w _) (fun _=>⟨h7 rfl,rfl⟩) h9.1 ?_
  .simp only[MB.own];rw[a0p (by simpa using h1)]
  intro j a q c v e1 e2 e3;exact((h9.2.2 j a q c v e1 e2 e3).mono fun b hb=>.inl hb).jf hX (fD (hX.jf _ _) e2)
theorem aU.full(hX:bM X P){call:aY}{fv v:PV X.Γ}{xs:List (PV X.Γ)}{H H1:List (PB X.Γ)}{i t:Nat}{k:Bool}{l:List (X.Γ t)}(hk:H[i]? = some (.list k true t l))(hs:aU X P call fv (.dD t l true::xs) (aZ [i] H) v H1):aU X P call fv (.own i::xs) H v H1:=by
 intro A m h tf qZ hr hf hx;obtain⟨x0,r,rfl,v0,vr⟩:=hx.inv;obtain⟨mb,g1,g2⟩:=hr.at_ i _ hk;cases mb with
 |dD y=>
  have hy:x0=y:=by
   cases v0 with
   |own e _=>rw[g1]at e;cases e;rfl
   |gone hi e _=>simp only[bC,a03]at hi;subst hi;rw[g1]at e;cases e
  subst hy;have hF:=iC (h:=h) [i] m;have w1:VR X P (AA A (bW [i] m)) (bW [i] m) h (.dD t l true) x0:=(ab6 (m':=bW [i] m) hX g2 g1 (is:=[i]) (by simp)).mono fun b hb=>FA.gone hr hb;obtain⟨w,h',TQ,m1,k1,k2,k3,k4,k5,k6⟩:=hs A (bW [i] m) h tf (x0::r) (hr.aZ [i]) (hf.step hF.1 hF.2) (.cons w1 (vr.step hF.1 hF.2));refine⟨w,h',TQ,m1,k1,k2,k3,hF.1.trans k4,hF.2.trans k5,fun b hb=>?_⟩;rcases hF.1.new b (k6 b hb)with g|g
  .exact g
  have:=(hr.aZ [i]).inb (k6 b hb);omega
 |_=>exact g2.elim
end
end Pv
namespace Go.Proofs.YtmobpoiejckagaaGreat
open Go Tw Pv dw
abbrev lkC(no:Bool)(n:Int)(s:PV aC):List (PV aC):=[.int .u8 8,.bool no,.bool false,.int .i64 n,.int .i64 0,.int .i64 0,.bool false,s,.nil .slc]
abbrev wLk(l:List Dg)(d:Dg)(n:Int)(s:PV aC)(H:List (PB aC))(i:Int)(x:List (Nat×PE aC)):aS aC:=⟨[(3,.loc 0 0),(4,.loc 1 0),(31,.val (.dD 26 l true)),(32,xi l.length),(33,xi i)]++x,[d.ps,lkC false n s],H⟩
abbrev hLk(b:Int):List (PB aC):=[.list true true 3 ([b]:List Int)]
def alh(l:List Dg)(d:Dg)(i:Int)(x:List (Nat×PE aC)):Option (Int×Int)->aS aC
 |none=>wLk l d 0 (.nil .slc) [] i x
 |some (b,z)=>wLk l d z (.own 0) (hLk b) i x
def tLk(l:List Dg)(d:Dg)(k:Nat):List (V×Int):=eY (fF [l.getD k lX,d])
def mLk(l:List Dg)(d:Dg)(k:Nat):Int:=Q8 (rV (tLk l d k))
def gLk(l:List Dg)(d:Dg)(k:Nat)(s:Option (Int×Int)):Option (Int×Int)⊕(Option (Int×Int)×Nat):=
 if tLk l d k=[]then .inr (s,k)else match s with
  |none=>.inl (some ((k:Int),mLk l d k))
  |some (b,z)=>if decide (mLk l d k<z)=true then .inl (some ((k:Int),mLk l d k))else .inl (some (b,z))
def zLk(l:List Dg)(d:Dg):Option (Int×Int)⊕(Option (Int×Int)×Nat)->Ex×aS aC
 |.inl s=>(.exit 1,alh l d l.length [(34,xl false)] s)
 |.inr (none,k)=>(.ret,⟨[(4,.loc 1 0),(5,xi 0)],[d.ps,lkC true 0 (.nil .slc),(l.getD k lX).ps],[]⟩)
 |.inr (some (b,z),k)=>(.ret,⟨[(4,.loc 1 0),(5,xi 0)],[d.ps,lkC true z (.own 0),(l.getD k lX).ps],hLk b⟩)
structure LkP(l:List Dg)(d:Dg):Prop where
 p:∀x∈l++[d],rU x
 g:∀x∈l++[d],DgG x∧x.ay=((l++[d]).getD 0 lX).ay∧x.aG=((l++[d]).getD 0 lX).aG
theorem LkP.j{l:List Dg}{d:Dg}(h:LkP l d){k:Nat}(hk:k<l.length):kD (fF [l.getD k lX,d]):=by
 have h1:=h.g (l.getD k lX) (a5N _ (fM hk));have h2:=h.g d (abE _ (a2A.2 rfl));exact adq (D:=[l.getD k lX,d]) (by simp) (by simp) (ab3 (P:=fun x=>DgG x∧x.ay=(l.getD k lX).ay∧x.aG=(l.getD k lX).aG) ⟨h1.1,rfl,rfl⟩ ⟨h2.1,h2.2.1.trans h1.2.1.symm,h2.2.2.trans h1.2.2.symm⟩)
theorem lLk{n:Nat}(hn:24<=n)(hO:∀m,n-24<=m->Ok m qG){l:List Dg}{d:Dg}(h:LkP l d)(hl:l.length<=ah):Lp n 39 0 (wLk l d 0 (.nil .slc) [] 0 []) (zLk l d (ni (gLk l d) l.length 0 none)).1 (zLk l d (ni (gLk l d) l.length 0 none)).2:=by
 refine iL (st:=fun i s=>alh l d i [] s) (g:=gLk l d) (out:=zLk l d) (s0:=none) (fun k s=>k=0↔s=none) (by kernel_rfl) hl (by simp) (fun k s m hk hi ih=>?_) (fun s _=>?_)
 .have hJ:=h.j hk;have ht:JG (tLk l d k):=TA hJ;have s1:=JI (n:=n) (f:=79) (by omega) (fun m hm=>hO m (by omega)) (D:=[l.getD k lX,d]) (by simp) hJ.bJ.len (k:=true) (ex:=true);have s2:=a8e (k:=true) (ex:=true) (k2:=true) (Ls:=true) (PZ hJ (n:=n-2) (f:=79) (hO _ (by omega)) (show 0<[l.getD k lX,d].length by simp));rw[show n-2+2=n by omega]at s2
  change aU _ _ _ _ _ _ _ [.gone,.gone,.map (kV.im (tLk l d k))]at s2
  unfold gLk;by_cases h0:tLk l d k=[]
  .rw[a0q h0];rw[h0]at s2;have hz:(((kV.im ([]:List (V×Int))).length:Int)==0)=true:=rfl;rcases s with _|⟨b,z⟩
   .exact aN gG (.b (bn hk) (.o (aH hk) (.fr [0] s1 (.fr [0,1] s2 (.b hz (.ouG [.gc []] nofun))))))
   exact aN gG (.b (bn hk) (.o (aH hk) (.fr [1] s1 (.fr [1,2] s2 (.b hz (.ouG [.gc [0]] nofun))))))
  rw[a0p h0];have hz:(((kV.im (tLk l d k)).length:Int)==0)=false:=by
   rw[kV.pI];exact bne (by have:=aaF.2 h0;omega)
  have s3:=ale (n:=n-1) (t:=tLk l d k) (k:=true);have s4:=alf (n:=n-3) ht h0;have s5:=alg (n:=n-1) ht h0;rw[show n-1+1=n by omega]at s3 s5;rw[show n-3+3=n by omega]at s4;rcases s with _|⟨b,z⟩
  .have hk0:k=0:=hi.2 rfl;have hb:((k:Int)==0)=true:=by rw[hk0];rfl
   exact aN gG (.b (bn hk) (.o (aH hk) (.fr [0] s1 (.fr [0,1] s2 (.b hz (.fr [2] s3 (.Qq (H2:=[.map (kV.im (tLk l d k)),.cells [.map 0],.mZ ((rV (tLk l d k)).map Lr)]) [2,3] [0,1] s4 (.fr [4] s5 (.b hb (.nxG [.gc [5]] (ih _ (by simp))))))))))))
  have hk0:k≠0:=fun e=>by cases hi.1 e
  have hb:((k:Int)==0)=false:=bne (by omega);exact aN gG (.b (bn hk) (.o (aH hk) (.fr [1] s1 (.fr [1,2] s2 (.b hz (.fr [3] s3 (.Qq (H2:=[.map (kV.im (tLk l d k)),.cells [.map 0],.mZ ((rV (tLk l d k)).map Lr)]) [3,4] [0,1] s4 (.fr [5] s5 (.b hb (.ls (.nxG [.gc [6]] (ih _ (by simp))) (.nxG [.gc [0]] (ih _ (by simp)))))))))))))
 rcases s with _|⟨b,z⟩
 .exact aN gG (.b (fB l.length) (.ou nofun))
 exact aN gG (.b (fB l.length) (.ou nofun))
theorem ag5{n:Nat}{l:List Dg}:aU X0 Qp (bQ (n+1)) (.fn 93 [] []) [.dD 26 l true] [] (.dD 26 l true) []:=fU gG (first:=[]) (cap:=[]) (.o (rfl:((0:Nat):Int)=0) (.o (rfl:(l.length:Int)=(l.length:Int)) (.o (rfl:(l.length:Int)=(l.length:Int)) .er)))
def ali:Option (Int×Int)⊕(Option (Int×Int)×Nat)->An
 |.inl none=>⟨8,false,false,0,0,0,false,[]⟩
 |.inl (some (b,z))=>⟨8,false,false,z,0,0,false,[b]⟩
 |.inr (none,_)=>⟨8,true,false,0,0,0,false,[]⟩
 |.inr (some (b,z),_)=>⟨8,true,false,z,0,0,false,[b]⟩
def N8(p:List Dg×Dg):An×Int:=if decide ((p.1.length:Int)>4)=true then(An0,5)else if(bV (p.1++[p.2]) != 0)=true then(An0,bV (p.1++[p.2]))else if((p.1.length:Int)==0)=true then(An0,7)else(ali (ni (gLk p.1 p.2) p.1.length 0 none),0)
theorem ab7{n:Nat}(hn:24<=n)(Az:Ok n a8i)(G9:∀m,n-24<=m->Ok m qG){l:List Dg}{d:Dg}(h1:∀x∈l++[d],rU x)(h2:l.length<=1000):nZ X0 Qp (bQ (n+1)) 39 [.dD 26 l true,.agg d.ps] ((dR (a2 Vz iA)).put (N8 (l,d))) []:=by
 have hl:l.length<=ah:=by unfold ah;omega
 have h3:0<(l++[d]).length∧(l++[d]).length<=ah:=by rw[a1s,a3F];unfold ah;omega
 have h4:l.length+[d].length<=ah:=by rw[a3F];unfold ah;omega
 have h5:l=[]∨[d]≠[]:=.inr (by simp);have s0:=ag5 (n:=n-1) (l:=l);rw[show n-1+1=n by omega]at s0;show nZ X0 Qp _ _ _ ((dR (a2 Vz iA)).put (if decide ((l.length:Int)>4)=true then(An0,5)else if(bV (l++[d]) != 0)=true then(An0,bV (l++[d]))else if((l.length:Int)==0)=true then(An0,7)else(ali (ni (gLk l d) l.length 0 none),0))) _;cases e1:decide ((l.length:Int)>4)
 .cases e2:(bV (l++[d]) != 0)
  .cases e3:((l.length:Int)==0)
   .have hk:LkP l d:=⟨h1,a08 h1 (by simpa using e2)⟩;have lp:=lLk (n:=n) hn G9 hk hl;revert lp;rcases ni (gLk l d) l.length 0 none with(_|⟨b,z⟩)|⟨_|⟨b,z⟩,k⟩
    .intro lp;exact aO Az (.b e1 (.fr [] s0 (.o h4 (.o h5 (.o h1 (.o h3 (.b e2 (.b e3 (.wG [.gc []] lp (rA ⟨8,false,false,0,0,0,false,[]⟩ rfl _))))))))))
    .intro lp;exact aO Az (.b e1 (.fr [] s0 (.o h4 (.o h5 (.o h1 (.o h3 (.b e2 (.b e3 (.wG [.gc []] lp .rr)))))))))
    .intro lp;exact aO Az (.b e1 (.fr [] s0 (.o h4 (.o h5 (.o h1 (.o h3 (.b e2 (.b e3 (.wG [.gc []] lp (rA ⟨8,true,false,0,0,0,false,[]⟩ rfl _))))))))))
    intro lp;exact aO Az (.b e1 (.fr [] s0 (.o h4 (.o h5 (.o h1 (.o h3 (.b e2 (.b e3 (.wG [.gc []] lp .rr)))))))))
   exact aO Az (.b e1 (.fr [] s0 (.o h4 (.o h5 (.o h1 (.o h3 (.b e2 (.b e3 (rA _ rfl _)))))))))
  exact aO Az (.b e1 (.fr [] s0 (.o h4 (.o h5 (.o h1 (.o h3 (.b e2 (rA _ rfl _))))))))
 exact aO Az (.b e1 (rA _ rfl _))
theorem alj{n:Nat}(hn:24<=n)(Az:Ok n a8i)(G9:∀m,n-24<=m->Ok m qG){k:Bool}{l:List Dg}{d:Dg}(h1:∀x∈l++[d],rU x)(h2:l.length<=1000):aU X0 Qp (bQ (n+1)) (.fn 39 [] []) [.own 0,.agg d.ps] [.list k true 26 l] ((dR (a2 Vz iA)).put (N8 (l,d))) [.gone]:=by
 have h:=nZ.ZU hX (first:=[]) (cap:=[]) (xs:=[.dD 26 l true,.agg d.ps]) (ab7 hn Az G9 h1 h2) rfl rfl rfl rfl;have h2:=aU.frame hX (ks:=[]) (H':=[.gone]) (Hp:=[]) (OI:=[]) (v':=(dR (a2 Vz iA)).put (N8 (l,d))) (fv':=.fn 39 [] []) (xs':=[.dD 26 l true,.agg d.ps]) h (by decide) rfl rfl rfl rfl rfl rfl rfl;exact aU.full hX (i:=0) (k:=k) (t:=26) (l:=l) rfl h2
open Go Tw Pv dw
def jg(d:Dg)(g:List Int):Jb:=⟨d.ay,d.aG,[d],g⟩
structure GOk(d:Dg)(g:List Int):Prop where
 len:g.length=d.ay.length
 v:∀c,fK c d.ay.length->0<=g.getD c.toNat 0->g.getD c.toNat 0<d.ay.getD c.toNat 0
theorem alk{d:Dg}(hJ:kD (fF [d])){g:List Int}(h:GOk d g):kD (jg d g):=⟨hJ.d3,hJ.bJ,hJ.ord,fun k hk=>have h:=hJ.dg k hk;⟨h.t,h.n,h.s,h.o,h.rk,h.two⟩,h.len,h.v⟩
theorem GOk.set{d:Dg}{g:List Int}(h:GOk d g){c k:Nat}(hk:(k:Int)<d.ay.getD (c:Int).toNat 0):GOk d (g.set (c:Int).toNat (k:Int)):=by
 refine⟨by rw[a4n];exact h.len,fun c2 JY h2=>?_⟩;by_cases e:(c:Int).toNat=c2.toNat
 .obtain⟨q0,q1⟩:=JY;rw[<-e,a2X,a1T (by rw[h.len];omega)];exact hk
 rw[a2X,a1n e,<-a2X]at h2 ⊢;exact h.v c2 JY h2
theorem aqw{d:Dg}(hJ:kD (fF [d])):GOk d (fF [d]).g:=⟨hJ.gl,hJ.gv⟩
abbrev jcF(d:Dg):List (PV aC):=[lI d.ay,lI d.aG,.own 0,.own 1,.fn 79 [] []]
abbrev hF(d:Dg)(g:List Int):List (PB aC):=[.list true true 26 [d],.list true true 3 g]
abbrev wFo(d:Dg)(v:V)(g:List Int)(c:Int)(x:List (Nat×PE aC)):aS aC:=⟨[(3,.loc 1 0),(6,.loc 2 0),(29,xL 3 d.ay),(30,xi d.ay.length),(31,xi c)]++x,[d.ps,v.ps,jcF d],hF d g⟩
abbrev wFi(d:Dg)(v:V)(g:List Int)(c:Int)(i:Int)(x:List (Nat×PE aC)):aS aC:=⟨[(3,.loc 1 0),(6,.loc 2 0),(8,xi c),(29,xL 3 d.ay),(30,xi d.ay.length),(31,xi c),(36,xi (d.ay.getD c.toNat 0)),(37,xi i)]++x,[d.ps,v.ps,jcF d],hF d g⟩
theorem ads{n f:Nat}{J:Jb}{k ex k2 Ls:Bool}(h:aU X0 Qp (bQ n) (.fn 87 [] []) [.agg (J.ps (.fn f [] []))] [] (.map 0) [.map (kV.im (eY J))]):aU X0 Qp (bQ n) (.fn 87 [] []) [a8f J f 0 1] [.list k ex 26 J.D,.list k2 Ls 3 J.g] (.map 2) [.list k ex 26 J.D,.list k2 Ls 3 J.g,.map (kV.im (eY J))]:=by
 have h1:=aU.frame hX (ks:=[]) (H':=[.gone,.gone]) (Hp:=[]) (OI:=[.map (kV.im (eY J))]) (v':=.map 2) (fv':=.fn 87 [] []) (xs':=[.agg (J.ps (.fn f [] []))]) h (by decide) rfl rfl rfl rfl rfl rfl rfl;exact aU.lend hX (H:=[.list k ex 26 J.D,.list k2 Ls 3 J.g]) (cs:=[lI J.s,lI J.o,.own 0,.own 1]) (rest:=[.fn f [] []]) [0,1] h1 rfl (fun i hi=>by simpa[kL.jY,kL]using hi) rfl
def lkF(d:Dg)(v:V)(g:List Int):Int:=look (eY (jg d g)) v
def gIn(d:Dg)(v:V)(c:Nat)(k:Nat)(g:List Int):List Int⊕(List Int×Nat):=if decide (lkF d v (g.set (c:Int).toNat (k:Int))>0)=true then .inr (g.set (c:Int).toNat (k:Int),k)else .inl (g.set (c:Int).toNat (k:Int))
def oIn:List Int⊕(List Int×Nat)->List Int
 |.inl g=>g
 |.inr r=>r.1
def nIn(d:Dg)(c:Nat):Nat:=(d.ay.getD (c:Int).toNat 0).toNat
def a3V(d:Dg)(v:V)(c:Nat)(g:List Int):List Int:=oIn (ni (gIn d v c) (nIn d c) 0 g)
def zFi(d:Dg)(v:V)(c:Nat):List Int⊕(List Int×Nat)->Ex×aS aC
 |.inl g=>(.exit 3,wFi d v g (c:Int) (nIn d c) [(38,xl false)])
 |.inr (g,k)=>(.exit 2,wFi d v g (c:Int) k [(49,xl true)])
theorem a8n{d:Dg}{v:V}{c:Nat}:∀(m k:Nat) (g:List Int),k+m<=nIn d c->GOk d g->GOk d (oIn (ni (gIn d v c) m k g))
 | 0,_,g,_,h=>h
 |m+1,k,g,hk,h=>by
  have h1:GOk d (g.set (c:Int).toNat (k:Int)):=h.set (by unfold nIn at hk;omega);simp only[ni,gIn];by_cases e:decide (lkF d v (g.set (c:Int).toNat (k:Int))>0)=true
  .rw[a0q e];exact h1
  rw[a0p e];exact a8n m (k+1) _ (by omega) h1
section
variable {n:Nat} (hn:24<=n) (hO:∀ m,n-24<=m->Ok m qG) {d:Dg} (hJ:kD (fF [d])) {v:V}
include hn hO hJ
theorem lFi{c:Nat}(hc:c<d.ay.length){g:List Int}(hg:GOk d g):Lp n 28 1 (wFi d v g (c:Int) 0 []) (zFi d v c (ni (gIn d v c) (nIn d c) 0 g)).1 (zFi d v c (ni (gIn d v c) (nIn d c) 0 g)).2:=by
 have hz:=hJ.bJ.sz (d.ay.getD (c:Int).toNat 0) (bP (show(c:Int).toNat<d.ay.length by simpa using hc));have hN:((nIn d c:Nat):Int)=d.ay.getD (c:Int).toNat 0:=by unfold nIn;omega
 refine iL (st:=fun i g=>wFi d v g (c:Int) i []) (g:=gIn d v c) (out:=zFi d v c) (s0:=g) (fun k g=>GOk d g) (by kernel_rfl) (by unfold ah;omega) hg (fun k g m hk hi ih=>?_) (fun g _=>?_)
 .have t1:decide ((k:Int)<d.ay.getD (c:Int).toNat 0)=true:=by rw[<-hN,a1o];omega
  have hg2:GOk d (g.set (c:Int).toNat (k:Int)):=hi.set (by rw[<-hN];omega);have i1:fK (c:Int) g.length:=by rw[hi.len];exact aH hc
  have s2:=ads (k:=true) (ex:=true) (k2:=true) (Ls:=true) (PZ (alk hJ hg2) (n:=n-2) (f:=79) (hO _ (by omega)) (show 0<[d].length by simp));rw[show n-2+2=n by omega]at s2;unfold gIn lkF;rcases Io (Bg (jg d (g.set (c:Int).toNat (k:Int)))) v with hf|⟨hz2,hf⟩
  .exact aN gG (.b t1 (.o i1 (.fr [0,1] s2 (.c (.int .i64 (look (eY (jg d (g.set (c:Int).toNat (k:Int)))) v)) [] hf (.ls (.ouG [.gc [0,1]] nofun) (.nxG [.gc [0,1]] (ih _ hg2)))))))
  rw[hz2];exact aN gG (.b t1 (.o i1 (.fr [0,1] s2 (.a .calm (.o hf (.ls (.ouG [.gc [0,1]] nofun) (.nxG [.gc [0,1]] (ih _ hg2))))))))
 have t1:decide (((nIn d c:Nat):Int)<d.ay.getD (c:Int).toNat 0)=false:=by rw[<-hN];exact fB _
 exact aN gG (.b t1 (.ou nofun))
set_option maxRecDepth 20000 in
theorem lFo:Lp n 28 0 (wFo d v (fF [d]).g 0 []) (.exit 1) (wFo d v (aT (a3V d v) d.ay.length 0 (fF [d]).g) d.ay.length [(32,xl false)]):=by
 have hl:d.ay.length<=ah:=by have:d.ay.length<=6:=hJ.bJ.len;unfold ah;omega
 refine KF (X:=X0) (N:=d.ay.length) (g:=a3V d v) (s0:=(fF [d]).g) (st:=fun c g=>wFo d v g c []) (fin:=fun g=>wFo d v g d.ay.length [(32,xl false)]) (fun _ g=>GOk d g) (by kernel_rfl) hl Qd (aqw hJ) (fun c g hc hg=>a8n (nIn d c) 0 g (by omega) hg) (fun c g hc hg m e p g9=>?_) (fun g _=>?_)
 .have lp:=lFi hn hO hJ (v:=v) hc hg;unfold a3V at g9;revert lp g9;rcases ni (gIn d v c) (nIn d c) 0 g with g1|⟨g1,k⟩
  .intro g9 lp;exact aN gG (.b (bn hc) (.o (aH hc) (.w lp (.go g9))))
  intro g9 lp;exact aN gG (.b (bn hc) (.o (aH hc) (.w lp (.go g9))))
 exact aN gG (.b (fB d.ay.length) .ex)
end
open Go Tw Pv dw
def Ip(p:Dg×V):List Int×Int:=if(bV [p.1] != 0)=true then([],bV [p.1])else if(nY p.2 != 0)=true then([],4)else if(look (eY (fF [p.1])) p.2==0)=true then([],7)else(aT (a3V p.1 p.2) p.1.ay.length 0 (fF [p.1]).g,0)
def alm:fA aC:=cO 28 (a2 dA vA) (dR (a2 pK iA)) Ip (fun p=>[rU p.1]) a8i
theorem rF(e:Int):Fp (Γ:=X0.Γ) (Is (X:=X0) (P:=Qp) (dR (a2 pK iA)) (([]:List Int),e)) .n (.ret (some (.dF [.nil .slc,.int .i64 e]))):=by
 have h:(dR (a2 pK iA)).get (.dF [.nil .slc,.int .i64 e])=some (([]:List Int),e):=rfl;exact Fp.rn (X:=X0) (P:=Qp) _ h
theorem aqz:Gd alm:=Good.ad6 30 ald KQ adr fun n hn hO G9 hO3 p hp=>by
 obtain⟨d,v⟩:=p;have h1:rU d:=hp _ (.head _);obtain⟨n,rfl⟩:∃k,n=k+1:=⟨n-1,by omega⟩;have Az:=hO (n+1) (by omega);show nZ X0 Qp _ _ _ ((dR (a2 pK iA)).put (if(bV [d] != 0)=true then([],bV [d])else if(nY v != 0)=true then([],4)else if(look (eY (fF [d])) v==0)=true then([],7)else(aT (a3V d v) d.ay.length 0 (fF [d]).g,0))) _;cases e1:(bV [d] != 0)
 .cases e2:(nY v != 0)
  .have s1:=alb (n:=n) (by omega) (hO3 n (by omega)) (fun m hm=>G9 m (by omega)) h1 e1 e2;have hJ:kD (fF [d]):=Bf (D:=[d]) (by simp) (by simp) (a8g h1) (by simpa using e1);have s2:=ads (k:=true) (ex:=true) (k2:=true) (Ls:=true) (PZ hJ (n:=n-1) (f:=79) (G9 _ (by omega)) (show 0<[d].length by simp));rw[show n-1+2=n+1 by omega]at s2;have lp:=lFo (n:=n+1) (by omega) (fun m hm=>G9 m (by omega)) hJ (v:=v);show nZ X0 Qp _ _ _ ((dR (a2 pK iA)).put (if(look (eY (fF [d])) v==0)=true then([],7)else(aT (a3V d v) d.ay.length 0 (fF [d]).g,0))) _;rcases Io (Bg (fF [d])) v with hf|⟨hz,hf⟩
   .exact aO Az (.fr [] s1 (.b (rfl:((0:Int) != 0)=false) (.fr [0,1] s2 (.c (.int .i64 (look (eY (fF [d])) v)) [] hf (.ss (rF _) (.wG [.gc [0,1]] lp .rr))))))
   .rw[hz];exact aO Az (.fr [] s1 (.b (rfl:((0:Int) != 0)=false) (.fr [0,1] s2 (.a .calm (.o hf (.ss (rF _) (.wG [.gc [0,1]] lp .rr)))))))
  .have s1:=ala (n:=n) (v:=v) (hO3 n (by omega)) h1 e1 e2;exact aO Az (.fr [] s1 (.b (rfl:((4:Int) != 0)=true) (rF _)))
 .have s1:=al9 (n:=n) (v:=v) (hO3 n (by omega)) h1 e1;exact aO Az (.fr [] s1 (.b e1 (rF _)))
end Go.Proofs.YtmobpoiejckagaaGreat
namespace Pv
open Go Tw
section
variable {X:kR} {P:Program}
theorem aU.cell1(hX:bM X P){call:aY}{fv v:PV X.Γ}{MC ws1 cs WL ws2:List (PV X.Γ)}{H H1:List (PB X.Γ)}{i e sz:Nat}{row:X.Γ e}(is:List Nat)(hi:H[i]? = some (.cells cs))(hz:dG P e=some sz)(h0:0<sz)(hl:cs.length=sz)(Zr:(X.enc e row).length=sz)
  (hs:aU X P call fv [.agg (ws1++(.dD e [row] false::ws2))] (aZ (i::is) H) v H1) (v1:views H MC=some ws1) (v2:views H cs=some (X.enc e row)) (v3:views H WL=some ws2)
  (o1:∀j,j∈kL.jY MC->j∈i::is) (o2:∀j,j∈kL.jY cs->j∈i::is) (o3:∀j,j∈kL.jY WL->j∈i::is):aU X P call fv [.agg (MC++(.slc i 0 1 1 sz true::WL))] H v H1:=by
 intro A m h tf qZ hr hf hx;obtain⟨x0,r,rfl,v0,vr⟩:=hx.inv;cases v0 with
 |gone hi _ _=>simp[bC]at hi
 |agg a1 a2=>
  rename_i cs';have ha:bZ X P (AA A m) m h (MC++(.slc i 0 1 1 sz true::WL)) cs':=⟨a1,a2⟩;obtain⟨c1,c2,rfl,b1,b2⟩:=En ha;obtain⟨y,c3,rfl,b3,b4⟩:=b2.inv;obtain⟨mb,g1,g2⟩:=hr.at_ i _ hi;cases mb with
  |gy b=>
   obtain⟨ts,g3,g4⟩:=g2;have hy:y=.slc b 0 1 1 sz true:=by
    cases b3 with
    |slc q=>rw[g1]at q;cases q;rfl
    |gone hi q _=>simp only[bC,a03]at hi;subst hi;rw[g1]at q;cases q
   subst hy;have hF:=iC (h:=h) (i::is) m;have w1:=(lH (m':=bW (i::is) m) hX hr b1 v1 o1).mono fun b hb=>FA.gone hr hb;have w3:=(lH (m':=bW (i::is) m) hX hr b4 v3 o3).mono fun b hb=>FA.gone hr hb;have w2:=lH (m':=bW (i::is) m) hX hr g4 v2 o2;have hb:FA A m (i::is) b:=.inr ⟨i,_,a3l,g1,rfl⟩;have q2:VR X P (FA A m (i::is)) (bW (i::is) m) h (.dD e [row] false) (.slc b 0 [row].length 1 sz true):=.dD (cs:=ts) hb (by unfold aW;rw[g3]) (fun _=>wL g3 (by simp)) hz h0 (by rw[<-g4.1,hl];simp) (a0w _) (fun e=>by cases e)
    (fun j a hj=>by
     cases j with
     |zero=>simp only[a2Q,a03]at hj;subst hj;exact Zr
     |succ j=>simp at hj) (fun j a q c w hj hq hw=>by
     cases j with
     |zero=>simp only[a2Q,a03]at hj;subst hj;exact w2.2 q c w hq (by simpa using hw)
     |succ j=>simp at hj)
   have w4:=w1.app (.cons (q2.mono fun b hb=>FA.gone hr hb) w3);obtain⟨w,h',TQ,m1,k1,k2,k3,k4,k5,k6⟩:=hs A (bW (i::is) m) h tf (.agg (c1++(.slc b 0 1 1 sz true::c3))::r) (hr.aZ (i::is)) (hf.step hF.1 hF.2) (.cons (.agg w4.1 w4.2) (vr.step hF.1 hF.2));refine⟨w,h',TQ,m1,k1,k2,k3,hF.1.trans k4,hF.2.trans k5,fun b hb=>?_⟩;rcases hF.1.new b (k6 b hb)with g|g
   .exact g
   .have:=(hr.aZ (i::is)).inb (k6 b hb);omega
  |_=>exact g2.elim
end
end Pv
namespace Go.Proofs.YtmobpoiejckagaaGreat
open Go Tw Pv dw
abbrev dz:List (PV aC):=[.nil .slc,.nil .slc,.nil .slc,.nil .slc,.int .i64 0]
abbrev cCh(s o:List Int):List (PV aC):=[lI s,lI o,.own 1,.slc 0 0 1 1 2 true,.int .i64 0]
abbrev hCh(c:Int)(x:List V×List Int):List (PB aC):=[.cells [.int .i64 c,.own 2],.list false false 39 x.1,.list false false 3 x.2]
abbrev wCh(s o:List Int)(c w n:Int)(y:List V×List Int)(i:Int)(x:List (Nat×PE aC)):aS aC:=⟨[(3,xi w),(8,.loc 0 0),(11,.loc 1 0),(47,xi n),(48,xi i)]++x,[dz,cCh s o],hCh c y⟩
def gCh(w:Int)(i:Nat)(y:List V×List Int):List V×List Int:=(y.1++[⟨0,i64.wrap (w+(i:Int))⟩],y.2++[i64.wrap (-1-(i:Int))])
def chE(w:Int)(n:Nat):List V:=(List.range n).map fun(i:Nat)=>(⟨0,i64.wrap (w+(i:Int))⟩:V)
def chK(n:Nat):List Int:=(List.range n).map fun(i:Nat)=>i64.wrap (-1-(i:Int))
theorem Yk(w:Int):∀n,aT (gCh w) n 0 ([],[])=(chE w n,chK n)
 | 0=>rfl
 |n+1=>by
  rw[tJ,Yk w n,a3Z];unfold gCh chE chK;rw[abG,a4f,a4f];rfl
theorem lCh{n:Nat}{s o:List Int}{c w:Int}{z:Nat}(hz:z<=12)(h0:s.getD c.toNat 0=(z:Int)):Lp n 57 0 (wCh s o c w (s.getD c.toNat 0) ([],[]) 0 []) (.exit 0) (wCh s o c w (s.getD c.toNat 0) (chE w z,chK z) z [(49,xl false)]):=by
 rw[<-Yk w z,h0];refine KF (X:=X0) (N:=z) (g:=gCh w) (s0:=([],[])) (st:=fun i y=>wCh s o c w (z:Int) y i []) (fin:=fun y=>wCh s o c w (z:Int) y z [(49,xl false)]) (fun k y=>y.1.length=k∧y.2.length=k) (by kernel_rfl) (by unfold ah;omega) Qd ⟨rfl,rfl⟩ (fun k y hk hi=>?_) (fun k y hk hi m e p g9=>?_) (fun y _=>?_)
 .unfold gCh;simp[hi.1,hi.2]
 .obtain⟨E,K⟩:=y;have a1:E.length+[(⟨0,i64.wrap (w+(k:Int))⟩:V)].length<=ah:=by rw[a3F];have:E.length=k:=hi.1;unfold ah;omega
  have a2:K.length+[i64.wrap (-1-(k:Int))].length<=ah:=by rw[a3F];have:K.length=k:=hi.2;unfold ah;omega
  exact aN gG (.b (bn hk) (.o a1 (.o a2 (.goG [.gc [0,4,6]] g9))))
 exact aN gG (.b (fB z) .ex)
def chD(s o:List Int)(c w:Int)(z:Nat):Dg:=⟨s,o,chE w z,[⟨c,chK z⟩],0⟩
theorem ab8{n:Nat}(hO:Ok n a7o){s o:List Int}{c:Int}{y:List V×List Int}(hd:let d:Dg:=⟨s,o,y.1,[⟨c,y.2⟩],0⟩;Iz d∧d.ay.length<=ah∧d.aG.length<=2^20∧d.aK.length<=ah∧(((bG d).2 != 0)=false->ClP (bG d).1)) :
  aU X0 Qp (bQ n) (.fn 108 [] []) [.agg (cCh s o)] (hCh c y) ((dR (a2 dA iA)).put (zG ⟨s,o,y.1,[⟨c,y.2⟩],0⟩)) [.gone,.gone,.gone]:=by
 obtain⟨h1,h2,h3,h4,h5⟩:=hd;have k0:aU X0 Qp (bQ n) (.fn 108 [] []) [.agg (⟨s,o,y.1,[⟨c,y.2⟩],0⟩:Dg).ps] [] ((dR (a2 dA iA)).put (zG ⟨s,o,y.1,[⟨c,y.2⟩],0⟩)) []:=nZ.ZU hX (first:=[]) (cap:=[]) (hO 108 [.agg (⟨s,o,y.1,[⟨c,y.2⟩],0⟩:Dg).ps] ((dR (a2 dA iA)).put (zG ⟨s,o,y.1,[⟨c,y.2⟩],0⟩)) [] _ (by kernel_rfl) (fun p h=>by
  rcases a2r.1 h with rfl|h
  .exact h1
  rcases a2r.1 h with rfl|h
  .exact h2
  rcases a2r.1 h with rfl|h
  .exact h3
  rcases a2r.1 h with rfl|h
  .exact h4
  rw[a2A.1 h];exact h5)) rfl rfl rfl rfl
 have k1:=aU.frame hX (ks:=[]) (H':=[.gone,.gone,.gone]) (Hp:=[]) (OI:=[]) (v':=(dR (a2 dA iA)).put (zG ⟨s,o,y.1,[⟨c,y.2⟩],0⟩)) (fv':=.fn 108 [] []) (xs':=[.agg (⟨s,o,y.1,[⟨c,y.2⟩],0⟩:Dg).ps]) k0 (by decide) rfl rfl rfl rfl rfl rfl rfl;exact aU.cell1 hX (H:=hCh c y) (MC:=[lI s,lI o,.own 1]) (ws1:=[lI s,lI o,lV y.1]) (cs:=[.int .i64 c,.own 2]) (WL:=[.int .i64 0]) (ws2:=[.int .i64 0]) (i:=0) (e:=105) (sz:=2) (row:=(⟨c,y.2⟩:Br)) [1,2] rfl (by kernel_rfl) (by decide) rfl rfl k1 rfl rfl rfl (fun j hj=>by simp[kL.jY,kL]at hj ⊢;omega) (fun j hj=>by simp[kL.jY,kL]at hj ⊢;omega) (fun j hj=>by simp[kL.jY,kL]at hj)
open Go Tw Pv dw
theorem ab9(w:Int)(z:Nat):(chE w z).length=z:=by simp[chE]
theorem abb(z:Nat):(chK z).length=z:=by simp[chK]
structure ChP(s o:List Int)(c w:Int)(z:Nat):Prop where
 f:bY s o=0
 ic:fK c s.length
 ez:s.getD c.toNat 0=(z:Int)
 z12:z<=12
 w0:-9999<=w
 w1:w+z<=10000
section
variable {s o:List Int} {c w:Int} {z:Nat} (h:ChP s o c w z)
include h
theorem abd{v:V}(hv:v∈chE w z):∃j,j<z∧v=⟨0,w+(j:Int)⟩:=by
 unfold chE at hv;obtain⟨j,hj,rfl⟩:=a1e.1 hv;have:=a4o.1 hj;have:=h.w0;have:=h.w1;have:=h.z12;exact⟨j,by omega,by rw[wrap_small (by omega) (by omega)]⟩
theorem abe{k:Nat}(hk:k<z):(chK z).getD k 0=-1-(k:Int):=by
 have:=h.z12;unfold chK;rw[a2X,a4q,List.getElem?_range hk];show i64.wrap (-1-(k:Int))=_;rw[wrap_small (by omega) (by omega)]
theorem ag6:∀v∈chE w z,IB v:=fun v hv=>by
 obtain⟨j,hj,rfl⟩:=abd h hv;have:=h.w0;have:=h.w1;exact yw.2 ⟨by show(0:Int)<=0;omega,by show(0:Int)<=4;omega,fun _=>⟨by show -9999<=w+(j:Int);omega,by show w+(j:Int)<=9999;omega⟩,fun hz=>absurd rfl hz⟩
theorem aln:Iz (chD s o c w z):=⟨fun i hi k hk=>by
 have:i=0:=by have:i<1:=hi;omega
 subst this;have hk3:k<z:=by rw[<-abb z];exact hk
 show FV ((chK z).getD k 0);rw[abe h hk3,<-wrap_small (z:=-1-(k:Int)) (by have:=h.z12;omega) (by omega)];exact PL _,by show FV 0;rw[<-wrap_small (z:=0) (by omega) (by omega)];exact PL _,fun v hv=>(ag6 h v hv).2⟩
theorem abf:Iz (chD s o c w z)∧(chD s o c w z).ay.length<=ah∧(chD s o c w z).aG.length<=2^20∧(chD s o c w z).aK.length<=ah∧(((bG (chD s o c w z)).2 != 0)=false->ClP (bG (chD s o c w z)).1):=by
 obtain⟨bJ,ord⟩:=jQ.1 h.f;have hr:=aln h;have h6:s.length<=6:=bJ.len;have Qc:o.length=s.length:=by unfold kC at ord;rw[a1o]at ord;exact ord.1
 have hl:=ab9 w z;have hz:=h.z12;have e1:(chD s o c w z).aK.length+1<=ah:=by show(chE w z).length+1<=ah;rw[hl];unfold ah;omega
 have e2:(chD s o c w z).ay.length<=ah:=by show s.length<=ah;unfold ah;omega
 refine⟨hr,e2,by show o.length<=2^20;omega,by omega,fun h0=>?_⟩;obtain⟨q1,q2⟩:=wX hr e1 e2 (by show o.length<=ah;unfold ah;omega) (by simpa using h0);rw[q1];exact q2
end
def Q9(p:List Int×List Int×Int×Int):Dg×Int:=if(bY p.1 p.2.1 != 0)=true then(lX,bY p.1 p.2.1)else if(!(JJ 0 (i64.wrap ((p.1.length:Int)-1)) p.2.2.1))=true then(lX,3)else if(!(JJ (-9999) (i64.wrap (i64.wrap (9999-p.1.getD p.2.2.1.toNat 0)+1)) p.2.2.2))=true then(lX,3)else zG (chD p.1 p.2.1 p.2.2.1 p.2.2.2 (p.1.getD p.2.2.1.toNat 0).toNat)
theorem ag7{a b x:Int}(h:(!(JJ a b x))=false):a<=x∧x<=b:=by
 unfold JJ at h;by_cases h1:x>=a
 .simp[h1]at h;exact⟨h1,h⟩
 simp[h1]at h
theorem ag8{s o:List Int}{c w:Int}(e1:(bY s o != 0)=false)(hc:fK c s.length)(e3:(!(JJ (-9999) (i64.wrap (i64.wrap (9999-s.getD c.toNat 0)+1)) w))=false):ChP s o c w (s.getD c.toNat 0).toNat:=by
 have f:bY s o=0:=by simpa using e1
 obtain⟨bJ,ord⟩:=jQ.1 f;have hz:=bJ.sz (s.getD c.toNat 0) (bP (show c.toNat<s.length by obtain⟨a,b⟩:=hc;omega));obtain⟨z0,z1⟩:=hz;obtain⟨w0,w1⟩:=ag7 e3;rw[wrap_small (z:=9999-s.getD c.toNat 0) (by omega) (by omega),wrap_small (by omega) (by omega)]at w1;exact⟨f,hc,by omega,by omega,w0,by omega⟩
def ag9:fA aC:=cO 57 (a4 pK pK iA iA) (dR (a2 dA iA)) Q9 (fun p=>[p.1.length<=ah,p.2.1.length<=2^20]) alm
theorem aqC:Gd ag9:=Good.X7 0 aqz ade fun n hn hO G9 p hp=>by
 obtain⟨s,o,c,w⟩:=p;have h1:s.length<=ah:=hp _ (.head _);have h2:o.length<=2^20:=hp _ (.tail _ (.head _));have hc:(!(JJ 0 (i64.wrap ((s.length:Int)-1)) c))=false->fK c s.length:=fun e2=>a88 e2 h1;have hP:=fun(e1:(bY s o != 0)=false) (e2:(!(JJ 0 (i64.wrap ((s.length:Int)-1)) c))=false) (e3:(!(JJ (-9999) (i64.wrap (i64.wrap (9999-s.getD c.toNat 0)+1)) w))=false)=>ag8 e1 (hc e2) e3;have lp:=fun(e1:(bY s o != 0)=false) (e2:(!(JJ 0 (i64.wrap ((s.length:Int)-1)) c))=false) (e3:(!(JJ (-9999) (i64.wrap (i64.wrap (9999-s.getD c.toNat 0)+1)) w))=false)=>lCh (n:=n) (s:=s) (o:=o) (c:=c) (w:=w) (hP e1 e2 e3).z12 (hP e1 e2 e3).ez;have s1:=fun(e1:(bY s o != 0)=false) (e2:(!(JJ 0 (i64.wrap ((s.length:Int)-1)) c))=false) (e3:(!(JJ (-9999) (i64.wrap (i64.wrap (9999-s.getD c.toNat 0)+1)) w))=false)=>ab8 (n:=n) (G9 n (by omega)) (s:=s) (o:=o) (c:=c) (y:=(chE w (s.getD c.toNat 0).toNat,chK (s.getD c.toNat 0).toNat)) (abf (hP e1 e2 e3));show nZ X0 Qp _ _ _ ((dR (a2 dA iA)).put (if(bY s o != 0)=true then(lX,bY s o)else if(!(JJ 0 (i64.wrap ((s.length:Int)-1)) c))=true then(lX,3)else if(!(JJ (-9999) (i64.wrap (i64.wrap (9999-s.getD c.toNat 0)+1)) w))=true then(lX,3)else zG (chD s o c w (s.getD c.toNat 0).toNat))) _;exact aO (hO n (by omega)) (.o h1 (.o h2 (.sh (fun _=>rE _) fun e1=>.sh (fun _=>rE _) fun e2=>.o (hc e2) (.sh (fun _=>rE _) fun e3=>.a (.Qq [] [] (.nil .slc) []) (.o (hc e2) (.wG [.Oi 1 2 39,.Ui 0 1 3] (lp e1 e2 e3) (.fr [0,1,2] (s1 e1 e2 e3) .rr)))))))
open Go Tw Pv dw
structure a0a(d:Dg):Prop where
 t:BF d
 n:d.aj.length<=6000
 l:aX d=0
 f:rP d.ay
 o:d.aG.length<=ah
 e:d.aK.length<=ah
def gLs(d:Dg)(k:Nat)(l:List V):List V:=l++[vN d (jW d.ay k)]
theorem aga(d:Dg):aT (gLs d) (BD d.ay) 0 []=cellsD d:=by
 have:=bU (g:=gLs d) (m:=BD d.ay) (k:=0) (s:=[]) (fun k l=>l=(List.range k).map fun(k:Nat)=>vN d (jW d.ay k)) rfl (fun j l _ _ e=>by rw[gLs,e,abG,a4f];rfl);rw[a3Z]at this;exact this
abbrev wLs(d:Dg)(y:List V)(i:Int)(x:List (Nat×PE aC)):aS aC:=⟨[(1,.loc 0 0),(3,.val (.own 0)),(4,xi i)]++x,[d.ps],[.list false false 39 y]⟩
theorem lLs{n:Nat}(hO:Ok n ag9)(d:Dg)(h:a0a d):Jj n 44 0 0 (wLs d [] 0 []) (.exit 0) (wLs d (cellsD d) (BD d.ay) [(12,xl false)]):=by
 have hs:d.ay.length<=ah:=by have:=h.f.len;unfold ah;omega
 have hc:BD d.ay<=ah:=by have:=h.f.BD;have:=h.f.a6q;have:=h.f.many;unfold ah;omega
 rw[<-aga d];refine vw (σ:=List V) (N:=BD d.ay) (g:=gLs d) (s0:=[]) (st:=fun i y=>wLs d y i []) (fin:=fun y=>wLs d y (BD d.ay) [(12,xl false)]) (fun k y=>y.length=k) (by kernel_rfl) hc rfl (fun j y hj hy=>by simp[gLs,hy]) (fun j y hj hy m e p g9=>?_) (fun y _=>?_)
 .have h2:y.length+[vN d (jW d.ay j)].length<=ah:=by rw[hy,a3F];omega
  exact aN hO (.o hs (.b (h.f.lt hj) (.o hs (.o h.f.sz (.o (show(0:Int)<=(j:Int) by omega) (.o (show(j:Int)<2^62 by unfold ah at hc;omega) (.o h.t (.o h.n (.o (tK (j:Int) h.f.sz) (.o h2 (.goG [.gc [2]] g9)))))))))))
 exact aN hO (.o hs (.b h.f.no .ex))
def alp:fA aC:=cO 44 (a1 dA) vsA cellsD (fun d=>[a0a d]) ag9
theorem aqD:Gd alp:=aqC.add fun n hO p hp=>by
 have h:a0a p:=hp _ (.head _);have hb:(aX p != 0)=false:=by rw[h.l];rfl
 exact aO hO (.o h.o (.o h.e (.b hb (.wG [.GU 3 39] (lLs (n:=n) hO p h) .rr))))
def alq:fA aC:=cO 81 (a1 pK) pK (fun p=>p) (fun p=>[p.length<=ah]) alp
theorem aqE:Gd alq:=aqD.add fun n hO p hp=>aO hO (.o (hp _ (.head _)) .rr)
def alr:fA aC:=cO 82 (a1 vsA) vsA (fun p=>p) (fun p=>[p.length<=ah]) alq
theorem aqF:Gd alr:=aqE.add fun n hO p hp=>aO hO (.o (hp _ (.head _)) .rr)
def agb:fA aC:=cO 48 (a1 iA) vA (fun p=>(⟨0,p⟩:V)) np alr
theorem aqG:Gd agb:=aqF.add fun n hO p hp=>aO hO .rr
open Go Tw Pv dw
structure Qa(d:Dg):Prop where
 s:d.ay.length<=ah
 o:d.aG.length<=ah
 e:d.aK.length<=ah
 n:d.aj.length<=ah
 k:∀b∈d.aj,b.aA.length<=ah
abbrev agc(a b:Dg)(i:Int)(x:List (Nat×PE aC)):aS aC:=⟨[(2,.loc 0 0),(3,.loc 1 0),(5,xi i)]++x,[a.ps,b.ps],[]⟩
def a0b(a b:Dg)(k:Nat):Bool:=if((a.aj.getD k jU).var != (b.aj.getD k jU).var)=true then true else !(decide ((a.aj.getD k jU).aA=(b.aj.getD k jU).aA))
def agd(a b:Dg):Unit⊕Nat->Ex×aS aC
 |.inl _=>(.exit 0,agc a b a.aj.length [(48,xl false)])
 |.inr _=>(.ret,⟨[(4,xl false)],[a.ps,b.ps],[]⟩)
theorem als{n:Nat}(hO:Ok n agb){a b:Dg}(h:Qa a)(hl:a.aj.length=b.aj.length):Lp n 72 0 (agc a b 0 []) (agd a b (bF (a0b a b) a.aj.length)).1 (agd a b (bF (a0b a b) a.aj.length)).2:=by
 refine iL (st:=fun i _=>agc a b i []) (g:=gS (a0b a b)) (out:=agd a b) (fun _ _=>True) (by kernel_rfl) h.n trivial (fun k u m hk _ ih=>?_) (fun _ _=>?_)
 .have i1:fK (k:Int) a.aj.length:=aH hk;have i2:fK (k:Int) b.aj.length:=aH (by omega);have h9:=h.k _ (fM (d:=jU) hk);unfold gS a0b;cases e1:((a.aj.getD k jU).var != (b.aj.getD k jU).var)
  .exact aN hO (.b (bn hk) (.o i1 (.o i2 (.b e1 (.o i1 (.o i2 (.o h9 (.ls (.ou nofun) (.nx (ih _ trivial))))))))))
  exact aN hO (.b (bn hk) (.o i1 (.o i2 (.b e1 (.ou nofun)))))
 exact aN hO (.b (fB a.aj.length) (.ou nofun))
def QE(a b:Dg):Bool:=if(!(decide (a.ay=b.ay)))=true then false else if(!(decide (a.aG=b.aG)))=true then false else if(!(decide (a.aK=b.aK)))=true then false else if((a.aj.length:Int) != (b.aj.length:Int))=true then false else if(a.root != b.root)=true then false else if kG (bF (a0b a b) a.aj.length)=true then true else false
def alu:fA aC:=cO 72 (a2 dA dA) tA (fun p=>QE p.1 p.2) (fun p=>[Qa p.1]) agb
theorem aqH:Gd alu:=aqG.add fun n hO p hp=>aO hO (.o (show Qa p.1 from hp _ (.head _)).s (.ss .rr (.o (show Qa p.1 from hp _ (.head _)).o (.ss .rr (.o (show Qa p.1 from hp _ (.head _)).e (.ss .rr (.sh (fun _=>.rr) fun h4=>.ss .rr (.zh (fun h=>.w (jZ (als hO (show Qa p.1 from hp _ (.head _)) (show p.1.aj.length=p.2.aj.length by simp at h4;omega)) () h) .rr) fun h=>.w (ku (als hO (show Qa p.1 from hp _ (.head _)) (show p.1.aj.length=p.2.aj.length by simp at h4;omega)) 0 h) .rr))))))))
def alv:fA aC:=cO 25 (a3 dA iA dA) tA (fun p=>(if(p.2.1==0)=true then QE p.1 p.2.2 else false)) (fun p=>[Qa p.1]) alu
theorem aqI:Gd alv:=aqH.add fun n hO p hp=>aO hO (.ss (.o (hp _ (.head _)) .rr) .rr)
def alx:fA aC:=cO 24 (a1 dA) tA (fun p=>QE p lX) (fun p=>[Qa p]) alv
theorem aqJ:Gd alx:=aqI.add fun n hO p hp=>aO hO (.o (hp _ (.head _)) .rr)
def Vo(s o:List Int):Bool:=if decide ((s.length:Int)>8)=true then false else if decide ((o.length:Int)>8)=true then false else if(bY s o != 0)=true then true else decide (EY s<=200)
def agf:fA aC:=cO 54 (a2 pK pK) tA (fun p=>Vo p.1 p.2) np alx
theorem aqK:Gd agf:=aqJ.add fun n hO p hp=>aO hO (.sh (fun _=>.rr) fun h1=>.sh (fun _=>.rr) fun h2=>.o (show p.2.length<=ah by simp at h2;unfold ah;omega) (.ss .rr (.o (show p.1.length<=ah by simp at h1;unfold ah;omega) .rr)))
open Go Tw Pv dw
abbrev wCp(d:Dg)(acc:List Br)(i:Int)(x:List (Nat×PE aC)):aS aC:=⟨[(1,.loc 0 0),(2,.loc 1 0),(3,.loc 2 0),(4,xi i)]++x,[d.ps,[.nil .slc,.nil .slc,.nil .slc,.nil .slc,.int .i64 0],[lI d.ay,lI d.aG,lV d.aK,.own 0,.int .i64 d.root]],[.list false false 105 acc]⟩
theorem lCp{n:Nat}{d:Dg}(hO:Ok n agf)(h:Qa d):Lp n 21 0 (wCp d [] 0 []) (.exit 0) (wCp d d.aj d.aj.length [(21,xl false)]):=by
 have e:aT (fun k (a:List Br)=>a++[d.aj.getD k jU]) d.aj.length 0 []=d.aj:=by
  rw[Xi,SB d.aj jU fun r=>r,List.map_id']
 rw[show wCp d d.aj d.aj.length [(21,xl false)]=wCp d (aT (fun k (a:List Br)=>a++[d.aj.getD k jU]) d.aj.length 0 []) d.aj.length [(21,xl false)] by rw[e]];refine vw (σ:=List Br) (N:=d.aj.length) (g:=fun k (a:List Br)=>a++[d.aj.getD k jU]) (s0:=([]:List Br)) (st:=fun i a=>wCp d a i []) (fin:=fun a=>wCp d a d.aj.length [(21,xl false)]) (fun k a=>a.length=k) (by kernel_rfl) h.n rfl (fun k a _ h=>by simp[h]) (fun k a hk ha m e p g9=>?_) (fun a _=>?_)
 .have hm:=h.k (d.aj.getD k jU) (fM hk);have hn:=h.n;have hal:a.length+[d.aj.getD k jU].length<=ah:=by have:a.length=k:=ha;rw[a3F];omega
  exact aN hO (.b (bn hk) (.o (aH hk) (.o (aH hk) (.o hm (.o hal (.goG [.gc [2]] g9))))))
 exact aN hO (.b (fB d.aj.length) .ex)
def agh:fA aC:=cO 21 (a1 dA) dA (fun p=>p) (fun p=>[Qa p]) agf
theorem aqM:Gd agh:=aqK.add fun n hO p hp=>aO hO (.o (show Qa p from hp _ (.head _)).s (.o (show Qa p from hp _ (.head _)).o (.o (show Qa p from hp _ (.head _)).e (.wG [.Oi 2 3 105] (lCp hO (hp _ (.head _))) .rr))))
abbrev wTh(d:Dg)(i:Int)(x:List (Nat×PE aC)):aS aC:=⟨[(1,.loc 0 0),(3,xi i)]++x,[d.ps],[]⟩
def cTh(d:Dg)(k:Nat):Bool:=decide (((d.aj.getD k jU).aA.length:Int)>14)
def zTh(d:Dg):Unit⊕Nat->Ex×aS aC
 |.inl _=>(.exit 0,wTh d d.aj.length [(26,xl false)])
 |.inr _=>(.ret,⟨[(2,xl false)],[d.ps],[]⟩)
theorem lTh{n:Nat}(hO:Ok n agh){d:Dg}(h:d.aj.length<=ah):Lp n 18 0 (wTh d 0 []) (zTh d (bF (cTh d) d.aj.length)).1 (zTh d (bF (cTh d) d.aj.length)).2:=by
 refine iL (st:=fun i _=>wTh d i []) (g:=gS (cTh d)) (out:=zTh d) (fun _ _=>True) (by kernel_rfl) h trivial (fun k u m hk _ ih=>?_) (fun _ _=>?_)
 .unfold gS cTh;exact aN hO (.b (bn hk) (.o (aH hk) (.ls (.ou nofun) (.nx (ih _ trivial)))))
 exact aN hO (.b (fB d.aj.length) (.ou nofun))
def JK(d:Dg):Bool:=if(!(Vo d.ay d.aG))=true then false else if decide ((d.aK.length:Int)>40)=true then false else if decide ((d.aj.length:Int)>60)=true then false else if kG (bF (cTh d) d.aj.length)=true then true else false
def abg:fA aC:=cO 18 (a1 dA) tA (fun p=>JK p) np agh
theorem aqP:Gd abg:=aqM.add fun n hO p hp=>aO hO (.ss .rr (.ss .rr (.sh (fun _=>.rr) fun h3=>.zh (fun h=>.w (jZ (lTh hO (show p.aj.length<=ah by simp at h3;unfold ah;omega)) () h) .rr) fun h=>.w (ku (lTh hO (show p.aj.length<=ah by simp at h3;unfold ah;omega)) 0 h) .rr)))
theorem Yl{d:Dg}(h:JK d=true):Qa d∧d.ay.length<=8∧d.aG.length<=8∧d.aK.length<=40∧d.aj.length<=60:=by
 unfold JK at h;split at h
 .cases h
 rename_i h1;split at h
 .cases h
 rename_i h2;split at h
 .cases h
 rename_i h3;split at h
 .rename_i h4;have h1:Vo d.ay d.aG=true:=by simpa using h1
  unfold Vo at h1;split at h1
  .cases h1
  rename_i q1;split at h1
  .cases h1
  rename_i q2;simp at h2 h3 q1 q2;refine⟨⟨by unfold ah;omega,by unfold ah;omega,by unfold ah;omega,by unfold ah;omega,fun b hb=>?_⟩,by omega,by omega,by omega,by omega⟩;obtain⟨k,hk,e⟩:=aaN hb;have:=dL.1 h4 k hk;unfold cTh at this;rw[a2X,a0g hk,a4M,e]at this;simp at this;unfold ah;omega
 cases h
open Go Tw Pv dw
theorem aly{n:Nat}(hO:Ok n abg){a:List Int}{m:Int}(h1:a.length<=ah)(h2:kU a)(h3:0<=m)(h4:m<2^62):aU X0 Qp (bQ (n+1)) (.fn 53 [] []) [lI a,.int .i64 m] [] (.own 0) [.list true true 3 (jW a m)]:=by
 have lp:=l53 hO a m h1 h2;have h:aU X0 Qp (bQ (n+1)) (.fn 53 [] []) [lI a,.int .i64 m] [] (.own 0) [.list true true 3 (KD (ZE a) a.length (m,List.replicate a.length 0)).2]:=fU hO (first:=[]) (cap:=[]) (.o (mk1 a) (.o (mk2 a) (.o (mk3 h1) (.w lp .er))))
 rwa [Xf h2 h3 h4 a7w]at h
abbrev wRs(d:Dg)(c g:Int)(acc:List V)(i:Int)(x:List (Nat×PE aC)):aS aC:=⟨[(1,xi c),(2,xi g),(3,.loc 0 0),(6,.loc 1 0),(7,.val (.own 0)),(8,xi i)]++x,[d.ps,[.nil .slc,.nil .slc,.nil .slc,.nil .slc,.int .i64 0]],[.list false false 39 acc]⟩
def gRs(d:Dg)(c g:Int)(k:Nat)(l:List V):List V:=l++[vN d ((jW d.ay k).set c.toNat g)]
def DT(d:Dg)(c g:Int):List V:=(List.range (BD d.ay)).map fun(k:Nat)=>vN d ((jW d.ay k).set c.toNat g)
theorem agi(d:Dg)(c g:Int):aT (gRs d c g) (BD d.ay) 0 []=DT d c g:=by
 have:=bU (g:=gRs d c g) (m:=BD d.ay) (k:=0) (s:=[]) (fun k l=>l=(List.range k).map fun(k:Nat)=>vN d ((jW d.ay k).set c.toNat g)) rfl (fun j l _ _ e=>by rw[gRs,e,abG,a4f];rfl);rw[a3Z]at this;exact this
structure RsP(d:Dg)(c g:Int):Prop where
 l:a0a d
 ic:fK c d.ay.length
 g0:0<=g
 g1:g<d.ay.getD c.toNat 0
theorem agj{s q:List Int}(hq:gX s q=true){c g:Int}(hc:fK c s.length)(h0:0<=g)(h1:g<s.getD c.toNat 0):gX s (q.set c.toNat g)=true:=by
 have hl:=jm hq;refine jo.2 ⟨by rw[a4n];exact hl,fun k hk=>?_⟩;obtain⟨a,b⟩:=hc;by_cases e:c.toNat=k
 .subst e;rw[a2X,a1T (by omega)];exact⟨h0,h1⟩
 rw[a2X,a1n e,<-a2X];exact(jo.1 hq).2 k hk
theorem lRs{n:Nat}(hn:1<=n)(hO:∀m,n-1<=m->Ok m abg)(d:Dg){c g:Int}(hp:RsP d c g):Lp n 26 0 (wRs d c g [] 0 []) (.exit 0) (wRs d c g (DT d c g) (BD d.ay) [(14,xl false)]):=by
 have h:=hp.l;have hs:d.ay.length<=ah:=by have:=h.f.len;unfold ah;omega
 have hc:BD d.ay<=ah:=by have:=h.f.BD;have:=h.f.a6q;have:=h.f.many;unfold ah;omega
 rw[<-agi d c g];refine vw (σ:=List V) (N:=BD d.ay) (g:=gRs d c g) (s0:=[]) (st:=fun i y=>wRs d c g y i []) (fin:=fun y=>wRs d c g y (BD d.ay) [(14,xl false)]) (fun k y=>y.length=k) (by kernel_rfl) hc rfl (fun j y hj hy=>by simp[gRs,hy]) (fun j y hj hy m e p g9=>?_) (fun y _=>?_)
 .have hq:=tK (j:Int) h.f.sz;have s1:=aly (n:=n-1) (hO _ (by omega)) (a:=d.ay) (m:=(j:Int)) hs h.f.sz (by omega) (by unfold ah at hc;omega);rw[show n-1+1=n by omega]at s1;have i1:fK c (jW d.ay (j:Int)).length:=by rw[jm hq];exact hp.ic
  have h2:y.length+[vN d ((jW d.ay (j:Int)).set c.toNat g)].length<=ah:=by rw[hy,a3F];omega
  exact aN (hO n (by omega)) (.o hs (.b (h.f.lt hj) (.fr [] s1 (.o i1 (.o (show DgU d from⟨h.t,h.n,by rw[h.l];rfl⟩) (.o (agj hq hp.ic hp.g0 hp.g1) (.o h2 (.goG [.gc [3]] g9))))))))
 exact aN (hO n (by omega)) (.o hs (.b h.f.no .ex))
open Go Tw Pv dw
theorem Ym{d:Dg}(h:aX d=0):bY d.ay d.aG=0:=by
 unfold aX at h;split at h
 .rename_i c;rw[h]at c;cases c
 rename_i c;simpa using c
theorem a0a.of{d:Dg}(h:a0a d){l:List V}(hl:l.length=BD d.ay):OfP d.ay d.aG l∧(PtP d.ay d.aG l∧d.aG.length<=6∧wO d.ay d.aG<=ah):=by
 obtain⟨bJ,ord⟩:=jQ.1 (Ym h.l);have ho:OfP d.ay d.aG l:=⟨bJ,ord,by rw[hl,bJ.a6r]⟩;obtain⟨q1,q2,q3⟩:=ho.p;have hw:=DC bJ.sz ord;have hm:=bJ.many;have h6:=bJ.len;exact⟨ho,q1,by omega,by unfold ah;omega⟩
def Vp(p:Dg×Int×Int):Dg:=kF p.1.ay p.1.aG (DT p.1 p.2.1 p.2.2)
def alA:fA aC:=cO 26 (a3 dA iA iA) dA Vp (fun p=>[RsP p.1 p.2.1 p.2.2]) abg
theorem aqQ:Gd alA:=aqP.deep 1 fun n hn hO p hp=>by
 obtain⟨d,c,g⟩:=p;have h:RsP d c g:=hp _ (.head _);have lp:=lRs (n:=n) hn hO d h;obtain⟨_,q1,q2,q3⟩:=h.l.of (l:=DT d c g) (by simp[DT]);exact aO (hO n (by omega)) (.wG [.GU 7 39] lp (.o q1 (.o q2 (.o q3 .rr))))
open Go Tw Pv dw
theorem agk{n:Nat}{c g:Int}{q:List Int}(hq:q.length=n)(hc:fK c n)(hg:0<=g):ov ((List.replicate n (-1:Int)).set c.toNat g) q=q.set c.toNat g:=by
 obtain⟨c0,c1⟩:=hc;refine(oP (d:=(0:Int)) (by simp[ov,adJ,hq])).2 fun k hk=>?_;have kQ:k<n:=by simp[ov,adJ,hq]at hk;exact hk
 rw[Jw (by rw[a4n,a7w,hq]),a0q (by rw[a4n,a7w];exact kQ)];by_cases e:c.toNat=k
 .subst e;rw[a2X,a1T (by rw[a7w];exact kQ),a4M,a0q hg,a2X,a1T (by omega),a4M]
 rw[a2X,a1n e,afo,a0q kQ,a4M,a0p (by omega),a2X,a2X,a1n e]
theorem agl{d:Dg}(hp:rU d)(h:bV [d]=0){c g:Int}(hc:fK c d.ay.length)(hg:0<=g∧g<d.ay.getD c.toNat 0):AU (QD d c g) op0=Vp (d,c,g):=by
 have hR:=Vl hp h hc hg;have hj:qF (QD d c g) op0:=DR hR (Jb.inD (D:=[d]) (fun x hx=>by rw[a2A.1 hx];exact hp) h) fun l hl hv=>hv _ (fM (by rw[hl];exact agQ));rw[mk_eq hR hj];show kF d.ay d.aG (Jz (QD d c g) op0)=kF d.ay d.aG (DT d c g);have e:Jz (QD d c g) op0=DT d c g:=by
  unfold Jz DT;refine a4O fun k _=>?_;show vN d (ov ((List.replicate d.ay.length (-1:Int)).set c.toNat g) (jW d.ay k))=_;have hs:kU d.ay:=hR.bJ.sz;rw[agk (jm (tK (k:Int) hs)) hc hg.1]
 rw[e]
open Go Tw Pv dw
def dX:Dg:=⟨[2,3],[0,1],[⟨0,1⟩,⟨0,2⟩],[⟨0,[-1,-2]⟩],0⟩
def dY:Dg:=⟨[2,3],[0,1],[⟨0,0⟩,⟨0,1⟩,⟨0,2⟩],[⟨1,[-1,-2,-3]⟩],0⟩
def cL(l:List Int):List V:=l.map fun n=>⟨0,n⟩
theorem a3W:Q9 ([2,3],[0,1],0,1)=(dX,0):=by kernel_rfl
def dIf:Dg:=(Yg (dY,dX,dY)).1
theorem alB:(Yg (dY,dX,dY)).2=0∧kY dIf=0∧cellsD dIf=cL [0,1,1,0,2,2]:=⟨by kernel_rfl,by kernel_rfl,by kernel_rfl⟩
def dRs:Dg:=(lY (dY,1,2)).1
theorem agn:(lY (dY,1,2)).2=0∧kY dRs=0∧cellsD dRs=cL [2,2,2,2,2,2]:=⟨by kernel_rfl,by kernel_rfl,by kernel_rfl⟩
def dWh:Dg:=(zN dY).1
theorem a8q:(zN dY).2=0∧kY dWh=0∧cellsD dWh=cL [0,1,0,0,1,0]:=⟨by kernel_rfl,by kernel_rfl,by kernel_rfl⟩
theorem abh:Vm (dY,⟨0,2⟩)=(2,0):=by kernel_rfl
theorem a8r:Ip (dX,⟨0,2⟩)=([1,0],0):=by kernel_rfl
def G7:Dg:=(xg (10,dX,dY)).1
theorem agp:(xg (10,dX,dY)).2=0:=by kernel_rfl
def dLe:Dg:=(xg (14,dX,dY)).1
theorem alC:(xg (14,dX,dY)).2=0:=by kernel_rfl
theorem abj:N8 ([dX,dY],dLe)=(⟨8,false,false,2,0,0,false,[0]⟩,0):=by kernel_rfl
def Vq:List (V×Int):=eY (fF [G7,dX])
theorem alD:lU Vq=[0,1]:=by
 have e:((Vq.filter fun e=>!decide (e.1.f>0)).map fun e=>e.1.n)=[0,1]:=by kernel_rfl
 unfold lU;rw[e];unfold gW;exact List.mergeSort_of_pairwise (by simp)
theorem agr:a2e (4,G7,dX)=(⟨4,false,false,0,0,1,true,[]⟩,0):=by
 have e1:bV [G7,dX]=0:=by kernel_rfl
 have e2:uH Vq=true:=by kernel_rfl
 have e3:Vq≠[]:=by
  intro h;have h2:Vq.length=0:=by rw[h];rfl
  have h3:Vq.length=3:=by kernel_rfl
  omega
 show(if(bV [G7,dX] != 0)=true then(An0,bV [G7,dX])else G6 4 Vq)=_;rw[e1];show G6 4 Vq=_;unfold G6;rw[a0p e3];show(if lU Vq=[]then _ else _)=_;rw[alD,e2];rfl
open Go Tw Pv dw
def ags:fA aC:=cO 73 aeA (dR (a2 dA dA)) (fun p=>(dX,dY)) np alA
theorem aqR:Gd ags:=aqQ.add fun n hO p hp=>aO hO .rr
abbrev anP(a:An):List (PV aC):=[.int .u8 a.q,.bool a.none,.bool a.yes,.int .i64 a.n,.int .i64 a.lo,.int .i64 a.hi,.bool a.fault,lI a.set,.nil .slc]
abbrev wSa(a b:An)(i:Int)(x:List (Nat×PE aC)):aS aC:=⟨[(2,.loc 0 0),(3,.loc 1 0),(5,xi i)]++x,[anP a,anP b],[]⟩
theorem lSa{n:Nat}(hO:Ok n ags){a b:An}:Lp n 35 0 (wSa a b 0 []) (.exit 0) (wSa a b 0 [(74,xl false)]):=by
 have:=KF (X:=X0) (P:=Qp) (T:=T) (L:=LL) (call:=bQ n) (f:=35) (gY:=false) (nt:=BQ Qp 35) (B:=0) (b:=S9 Qp 35 0) (σ:=Unit) (N:=0) (g:=fun _ s=>s) (s0:=()) (st:=fun i _=>wSa a b i []) (fin:=fun _=>wSa a b 0 [(74,xl false)]) (w:=wSa a b 0 []) (e:=.exit 0) (fun _ _=>True) (by kernel_rfl) (a4C _) Qd trivial (fun _ _ _ _=>trivial) (fun k s hk=>absurd hk (Nat.not_lt_zero _)) (fun s _=>aN hO (.b (rfl:decide ((0:Int)<0)=false) .ex));exact this
def abk(a b:An):Bool:=if(a.q != b.q)=true then false else if(!(a.none==b.none))=true then false else if(!(a.yes==b.yes))=true then false else if(a.n != b.n)=true then false else if(a.lo != b.lo)=true then false else if(a.hi != b.hi)=true then false else if(!(a.fault==b.fault))=true then false else if(!(decide (a.set=b.set)))=true then false else true
def agt:fA aC:=cO 35 (a2 Vz Vz) tA (fun p=>abk p.1 p.2) (fun p=>[p.1.set.length<=ah]) ags
theorem aqS:Gd agt:=aqR.add fun n hO p hp=>aO hO (.ss .rr (.ss .rr (.ss .rr (.ss .rr (.ss .rr (.ss .rr (.ss .rr (.o (hp _ (.head _)) (.ss .rr (.b (rfl:((0:Int) != 0)=false) (.w (lSa (a:=p.1) (b:=p.2) hO) .rr)))))))))))
open Go Tw Pv dw
theorem Vr{d:Dg}(ho:d.aG.length<=ah)(he:d.aK.length<=ah)(h:(kY d==0)=true):a0a d:=by
 have h:kY d=0:=by simpa using h
 have h0:aX d=0:=by
  unfold kY at h;split at h
  .rename_i c;rw[h]at c;cases c
  rename_i c;simpa using c
 obtain⟨t,n⟩:=iY ho he (by rw[h0];rfl);exact⟨t,n,h0,t.bJ,ho,he⟩
abbrev wLz(d:Dg)(e:Int)(l:List Int)(acc:List V)(i:Int)(x:List (Nat×PE aC)):aS aC:=⟨[(1,xi e),(2,xL 3 l),(3,.loc 0 0),(7,.val (.own 0)),(8,xi i)]++x,[d.ps],[.list false false 39 acc]⟩
theorem lLz{n:Nat}(hO:Ok n agt)(d:Dg)(e:Int){l:List Int}(hl:l.length<=1000):Lp n 74 0 (wLz d e l [] 0 []) (.exit 0) (wLz d e l (cL l) l.length [(12,xl false)]):=by
 have e1:aT (fun k (a:List V)=>a++[(⟨0,l.getD k 0⟩:V)]) l.length 0 []=cL l:=by
  rw[Xi,SB l 0 fun r=>(⟨0,r⟩:V)];rfl
 rw[<-e1];refine vw (σ:=List V) (N:=l.length) (g:=fun k (a:List V)=>a++[(⟨0,l.getD k 0⟩:V)]) (s0:=([]:List V)) (st:=fun i a=>wLz d e l a i []) (fin:=fun a=>wLz d e l a l.length [(12,xl false)]) (fun k a=>a.length=k) (by kernel_rfl) (by unfold ah;omega) rfl (fun k a _ h=>by simp[h]) (fun k a hk ha m e p g9=>?_) (fun a _=>?_)
 .have hal:a.length+[(⟨0,l.getD k 0⟩:V)].length<=ah:=by have:a.length=k:=ha;rw[a3F];unfold ah;omega
  exact aN hO (.b (bn hk) (.o (aH hk) (.o hal (.goG [.gc [2]] g9))))
 exact aN hO (.b (fB l.length) .ex)
def alF(p:Dg×Int×List Int):Bool:=if(p.2.1==0)=true then(if(kY p.1==0)=true then decide (cellsD p.1=cL p.2.2)else false)else false
def abl:fA aC:=cO 74 (a3 dA iA pK) tA (fun p=>alF p) (fun p=>[p.1.aG.length<=ah,p.1.aK.length<=ah,p.2.2.length<=1000,(cellsD p.1).length<=ah]) agt
theorem aqT:Gd abl:=aqS.add fun n hO p hp=>aO hO (.wG [.GU 7 39] (lLz hO p.1 p.2.1 (hp _ (.tail _ (.tail _ (.head _))))) (.ss (.o (hp _ (.head _)) (.o (hp _ (.tail _ (.head _))) (.sh (fun h=>.o (Vr (hp _ (.head _)) (hp _ (.tail _ (.head _))) h) (.o (hp _ (.tail _ (.tail _ (.tail _ (.head _))))) .rr)) (fun _=>.rr)))) .rr))
open Go Tw Pv dw
theorem Vt{d:Dg}(h:((d.aj.all fun n=>n.aA.all fun k=>decide (-1000<=k)&&decide (k<=1000))&&(decide (-1000<=d.root)&&decide (d.root<=1000))&&(d.aK.all fun v=>decide (0<=v.f))&&(decide (d.ay.length<=100)&&decide (d.aG.length<=100)&&decide (d.aK.length<=100)))=true):rU d:=by
 simp only[a2n,a1o,a4x]at h;obtain⟨⟨⟨h1,h2⟩,h3⟩,⟨h4,h5⟩,h6⟩:=h;refine⟨⟨fun i hi k hk=>?_,?_,h3⟩,by unfold ah;omega,by omega,by unfold ah;omega⟩
 .have h7:=h1 _ (fM (d:=(⟨0,[]⟩:Br)) hi) _ (fM (d:=(0:Int)) hk);show FV ((fC d i).aA.getD k 0);unfold FV;have h8:((d.aj.getD i ⟨0,[]⟩).aA.getD k 0)=(fC d i).aA.getD k 0:=rfl;rw[h8]at h7;omega
 unfold FV;omega
theorem pX:rU dX:=Vt (by kernel_rfl)
theorem pY:rU dY:=Vt (by kernel_rfl)
theorem a8s:rU G7:=Vt (by kernel_rfl)
theorem pLe:rU dLe:=Vt (by kernel_rfl)
abbrev dvA(d:Dg):PV aC:=(dR (a2 dA iA)).put (d,0)
theorem agu:(dRs,(0:Int))=lY (dY,1,2):=ad1 rfl agn.1.symm
theorem a8t:(dWh,(0:Int))=zN dY:=ad1 rfl a8q.1.symm
theorem agv:(G7,(0:Int))=xg (10,dX,dY):=ad1 rfl agp.symm
theorem alH:(dLe,(0:Int))=xg (14,dX,dY):=ad1 rfl alC.symm
section
variable {n:Nat} (hO:Ok n abl)
include hO
theorem alI:aU X0 Qp (bQ n) (.fn 73 [] []) [] [] ((dR (a2 dA dA)).put (dX,dY)) []:=
 rC hX hO (f:=73) (first:=[]) (xs:=[]) (cap:=[]) (vs:=[]) (v:=(dR (a2 dA dA)).put (dX,dY)) (H:=[]) (ps:=[]) rfl (by kernel_rfl) (fun _ h=>by cases h) rfl
theorem abm{j k:Bool}:aU X0 Qp (bQ n) (.fn 57 [] []) [.own 0,.own 1,.int .i64 0,.int .i64 1] [.list j k 3 ([2,3]:List Int),.list j k 3 ([0,1]:List Int)] (dvA dX) [.gone,.gone]:=by
 unfold dvA;rw[<-a3W];exact rC hX hO (f:=57) (first:=[]) (xs:=[.own 0,.own 1,.int .i64 0,.int .i64 1]) (cap:=[]) (vs:=[.dD 3 ([2,3]:List Int) false,.dD 3 ([0,1]:List Int) false,.int .i64 0,.int .i64 1]) (v:=(dR (a2 dA iA)).put (Q9 ([2,3],[0,1],0,1))) (H:=[.list j k 3 ([2,3]:List Int),.list j k 3 ([0,1]:List Int)]) (ps:=[([2,3]:List Int).length<=ah,([0,1]:List Int).length<=2^20]) rfl (by kernel_rfl) (by simp[ah]) rfl
theorem aIf:aU X0 Qp (bQ n) (.fn 63 [] []) [.agg dY.ps,.agg dX.ps,.agg dY.ps] [] (dvA dIf) []:=by
 have e:(dIf,(0:Int))=Yg (dY,dX,dY):=ad1 rfl alB.1.symm;unfold dvA;rw[e];exact rC hX hO (f:=63) (first:=[]) (cap:=[]) (vs:=[.agg dY.ps,.agg dX.ps,.agg dY.ps]) (v:=(dR (a2 dA iA)).put (Yg (dY,dX,dY))) (H:=[]) (ps:=[rU dY,rU dX,rU dY]) rfl (by kernel_rfl) (by simp[pX,pY]) rfl
theorem aqU:aU X0 Qp (bQ n) (.fn 20 [] []) [.agg dY.ps,.int .i64 1,.int .i64 2] [] (dvA dRs) []:=by
 rw[show(dvA dRs:PV aC)=((dR (a2 dA iA)).put (lY (dY,1,2)))from by rw[<-agu]];exact rC hX hO (f:=20) (first:=[]) (xs:=[.agg dY.ps,.int .i64 1,.int .i64 2]) (cap:=[]) (vs:=[.agg dY.ps,.int .i64 1,.int .i64 2]) (v:=((dR (a2 dA iA)).put (lY (dY,1,2)))) (H:=[]) (ps:=[rU dY]) rfl (by kernel_rfl) (by simp[pX,pY,a8s,pLe]) rfl
theorem agw:aU X0 Qp (bQ n) (.fn 67 [] []) [.agg dY.ps] [] (dvA dWh) []:=by
 rw[show(dvA dWh:PV aC)=((dR (a2 dA iA)).put (zN dY))from by rw[<-a8t]];exact rC hX hO (f:=67) (first:=[]) (xs:=[.agg dY.ps]) (cap:=[]) (vs:=[.agg dY.ps]) (v:=((dR (a2 dA iA)).put (zN dY))) (H:=[]) (ps:=[rU dY]) rfl (by kernel_rfl) (by simp[pX,pY,a8s,pLe]) rfl
theorem alJ:aU X0 Qp (bQ n) (.fn 27 [] []) [.agg dY.ps,.agg (⟨0,2⟩:V).ps] [] ((dR (a2 iA iA)).put (2,0)) []:=by
 rw[show((dR (a2 iA iA)).put (2,0):PV aC)=((dR (a2 iA iA)).put (Vm (dY,⟨0,2⟩)))from by rw[abh]];exact ML hX hO (f:=27) (first:=[]) (xs:=[.agg dY.ps,.agg (⟨0,2⟩:V).ps]) (cap:=[]) (vs:=[.agg dY.ps,.agg (⟨0,2⟩:V).ps]) (v:=((dR (a2 iA iA)).put (Vm (dY,⟨0,2⟩)))) (H:=[]) (ps:=[rU dY]) rfl (by kernel_rfl) (by simp[pY]) rfl
theorem agx:aU X0 Qp (bQ n) (.fn 28 [] []) [.agg dX.ps,.agg (⟨0,2⟩:V).ps] [] ((dR (a2 pK iA)).put ([1,0],0)) []:=by
 rw[show((dR (a2 pK iA)).put ([1,0],0):PV aC)=((dR (a2 pK iA)).put (Ip (dX,⟨0,2⟩)))from by rw[a8r]];exact rC hX hO (f:=28) (first:=[]) (xs:=[.agg dX.ps,.agg (⟨0,2⟩:V).ps]) (cap:=[]) (vs:=[.agg dX.ps,.agg (⟨0,2⟩:V).ps]) (v:=((dR (a2 pK iA)).put (Ip (dX,⟨0,2⟩)))) (H:=[]) (ps:=[rU dX]) rfl (by kernel_rfl) (by simp[pX]) rfl
theorem aqV:aU X0 Qp (bQ n) (.fn 62 [] []) [.int .u8 10,.agg dX.ps,.agg dY.ps] [] (dvA G7) []:=by
 rw[show(dvA G7:PV aC)=((dR (a2 dA iA)).put (xg (10,dX,dY)))from by rw[<-agv]];exact rC hX hO (f:=62) (first:=[]) (xs:=[.int .u8 10,.agg dX.ps,.agg dY.ps]) (cap:=[]) (vs:=[.int .u8 10,.agg dX.ps,.agg dY.ps]) (v:=((dR (a2 dA iA)).put (xg (10,dX,dY)))) (H:=[]) (ps:=[rU dX,rU dY]) rfl (by kernel_rfl) (by simp[pX,pY,a8s,pLe]) rfl
theorem aLe:aU X0 Qp (bQ n) (.fn 62 [] []) [.int .u8 14,.agg dX.ps,.agg dY.ps] [] (dvA dLe) []:=by
 rw[show(dvA dLe:PV aC)=((dR (a2 dA iA)).put (xg (14,dX,dY)))from by rw[<-alH]];exact rC hX hO (f:=62) (first:=[]) (xs:=[.int .u8 14,.agg dX.ps,.agg dY.ps]) (cap:=[]) (vs:=[.int .u8 14,.agg dX.ps,.agg dY.ps]) (v:=((dR (a2 dA iA)).put (xg (14,dX,dY)))) (H:=[]) (ps:=[rU dX,rU dY]) rfl (by kernel_rfl) (by simp[pX,pY,a8s,pLe]) rfl
abbrev a8u:An:=⟨4,false,false,0,0,1,true,[]⟩
abbrev adw:An:=⟨8,false,false,2,0,0,false,[0]⟩
theorem aqW:aU X0 Qp (bQ n) (.fn 33 [] []) [.int .u8 4,.agg G7.ps,.agg dX.ps] [] ((dR (a2 Vz iA)).put (a8u,0)) []:=by
 rw[show((dR (a2 Vz iA)).put (a8u,0):PV aC)=((dR (a2 Vz iA)).put (a2e (4,G7,dX)))from by rw[agr]];exact rC hX hO (f:=33) (first:=[]) (xs:=[.int .u8 4,.agg G7.ps,.agg dX.ps]) (cap:=[]) (vs:=[.int .u8 4,.agg G7.ps,.agg dX.ps]) (v:=((dR (a2 Vz iA)).put (a2e (4,G7,dX)))) (H:=[]) (ps:=[rU G7,rU dX]) rfl (by kernel_rfl) (by simp[a8s,pX]) rfl
end
open Go Tw Pv dw
theorem alK{n:Nat}(hn:24<=n)(Az:Ok n a8i)(G9:∀m,n-24<=m->Ok m qG){k:Bool}:aU X0 Qp (bQ (n+1)) (.fn 39 [] []) [.own 0,.agg dLe.ps] [.list k true 26 [dX,dY]] ((dR (a2 Vz iA)).put (adw,0)) [.gone]:=by
 rw[<-abj];exact alj (l:=[dX,dY]) (d:=dLe) hn Az G9 (fun x h=>by
  rcases a2r.1 h with rfl|h
  .exact pX
  rcases a2r.1 h with rfl|h
  .exact pY
  rw[a2A.1 h];exact pLe) (by show 2<=1000;omega)
theorem alL{n:Nat}(hO:Ok n abl):aU X0 Qp (bQ n) (.fn 48 [] []) [.int .i64 2] [] (.agg (⟨0,2⟩:V).ps) []:=
 ML hX hO (f:=48) (first:=[]) (xs:=[.int .i64 2]) (cap:=[]) (vs:=[.int .i64 2]) (v:=.agg (⟨0,2⟩:V).ps) (H:=[]) (ps:=[]) rfl (by kernel_rfl) (fun _ h=>by cases h) rfl
theorem TB{a b:Nat}(h:Nat.ble a b=true):a<=b:=agI h
theorem aqX:Qa dX:=⟨TB (by kernel_rfl),TB (by kernel_rfl),TB (by kernel_rfl),TB (by kernel_rfl),fun b h=>by rw[a2A.1 h];exact TB (by kernel_rfl)⟩
def alM:fA aC:=cO 19 aeA tA (fun _=>true) np abl
theorem aqY:Gd alM:=Good.ad6 25 aqT ald KQ fun n hn hO G9 hO3 p hp=>by
 obtain⟨m,rfl⟩:∃m,n=m+1:=⟨n-1,by omega⟩;have FT:=hO (m+1) (by omega);exact aO FT (.fr [] (alI FT) (.fr [0,1] (abm FT (j:=true) (k:=true)) (.fr [] (aIf FT) (.fr [] (aqU FT) (.fr [] (agw FT) (.fr [] (alL FT) (.fr [] (alJ FT) (.fr [] (alL FT) (.fr [] (agx FT) (.fr [] (aqV FT) (.fr [] (aqW FT) (.fr [] (aLe FT) (.fr [2] (alK (k:=true) (by omega) (G9 m (by omega)) (fun k hk=>hO3 k (by omega))) (.o aqX (.b (c:=true) (t:=true) rfl (.o (TB (by kernel_rfl):dIf.aG.length<=ah) (.o (TB (by kernel_rfl):dIf.aK.length<=ah) (.o (TB (by kernel_rfl):([0,0,0,0,0,0]:List Int).length<=1000) (.o (TB (by kernel_rfl):(cellsD dIf).length<=ah) (.b (c:=true) (t:=true) rfl (.o (TB (by kernel_rfl):dRs.aG.length<=ah) (.o (TB (by kernel_rfl):dRs.aK.length<=ah) (.o (TB (by kernel_rfl):([0,0,0,0,0,0]:List Int).length<=1000) (.o (TB (by kernel_rfl):(cellsD dRs).length<=ah) (.b (c:=true) (t:=true) rfl (.o (TB (by kernel_rfl):dWh.aG.length<=ah) (.o (TB (by kernel_rfl):dWh.aK.length<=ah) (.o (TB (by kernel_rfl):([0,0,0,0,0,0]:List Int).length<=1000) (.o (TB (by kernel_rfl):(cellsD dWh).length<=ah) (.b (c:=true) (t:=true) rfl (.b (c:=true) (t:=true) rfl (.b (c:=true) (t:=true) rfl (.b (c:=true) (t:=true) rfl (.o (TB (by kernel_rfl):([1,0]:List Int).length<=ah) (.b (c:=true) (t:=true) rfl (.b (c:=true) (t:=true) rfl (.b (c:=true) (t:=true) rfl (.o (TB (by kernel_rfl):a8u.set.length<=ah) (.b (c:=true) (t:=true) rfl (.b (c:=true) (t:=true) rfl (.b (c:=true) (t:=true) rfl (.o (TB (by kernel_rfl):adw.set.length<=ah) .rr))))))))))))))))))))))))))))))))))))))))))
open Go Tw Pv dw
theorem aqZ:IB V0:=⟨by decide,by decide⟩
theorem abn{l:List V}(h:∀v∈l,IB v)(i:Nat):IB (l.getD i V0):=by
 by_cases c:i<l.length
 .exact h _ (fM c)
 rw[a2X,a4e (by omega)];exact aqZ
theorem a8v{d:Dg}(h:∀v∈d.aK,IB v):∀v∈cellsD d,IB v:=fun v hv=>by
 obtain⟨k,_,rfl⟩:=a1e.1 hv;exact abn h _
theorem a0c(d:Dg):(cellsD d).length=BD d.ay:=by simp[cellsD]
theorem agy{d:Dg}(h:kY d=0)(ho:d.aG.length<=ah)(he:d.aK.length<=ah):Qa d:=by
 have l:=Vr ho he (by rw[h];rfl);have h6:=l.f.len;have n6:=l.n;refine⟨by unfold ah;omega,ho,he,by unfold ah;omega,fun b hb=>?_⟩;obtain⟨i,hi,rfl⟩:=aaN hb;have:=l.t.Jl i hi;have e:fC d i=d.aj[i]:=by show d.aj.getD i jU=_;rw[a2X,a0g hi,a4M]
 rw[e]at this;unfold ah;omega
structure DgF(d:Dg):Prop where
 r:Iz d
 k:kY d=0
 f:Qa d
 e:d.aK.length<=2000
 o:d.aG.length=d.ay.length
 s:rP d.ay
theorem agz{s o:List Int}{l:List V}(h:OfP s o l)(hv:∀v∈l,IB v):DgF (kF s o l):=by
 obtain⟨h1,h2,_⟩:=FW h fun v m=>(hv v m).1;obtain⟨r,k⟩:=aav h (fun v m=>(hv v m).1) fun v m=>(hv v m).2;have ho:=h.p.2.2;have h6:=h.bJ.len;exact⟨r,k,agy k (by show o.length<=ah;unfold ah;omega) (by unfold ah;omega),h2,ho,h.bJ⟩
theorem ar0{J:Jb}(hJ:kD J){op:List V->V}(jK:qF J op):DgF (AU J op):=by
 rw[(Ig hJ jK).2];exact agz ⟨hJ.bJ,hJ.ord,by rw[a0c];show((BD J.s:Nat):Int)=_;exact hJ.bJ.a6r⟩ (a8v (zH hJ jK).2.2)
theorem abo{d:Dg}(h:rU d):bV [d]=kY d:=by
 have e:(vO d).2=kY d:=by rw[XG h.r h.s (by have:=h.o;unfold ah;omega) h.e]
 have f:([d].all (Ia (([d].getD 0 lX).ay,([d].getD 0 lX).aG)))=true:=by simp[Ia]
 unfold bV;rw[f];split
 .rename_i c;have:=dL.1 c 0 (by simp);have h0:kY d=0:=by unfold cCk at this;rw[<-e];simpa using this
  rw[h0];rfl
 rename_i c;obtain⟨j,hj,_,_,e2⟩:=MO (by simpa using c);have e2:bF (cCk [d]) [d].length=.inr j:=e2;rw[e2];have:j=0:=by have:j<1:=hj;omega
 subst this;exact e
theorem Iq(a:Dg):QE a a=true:=by
 have h:kG (bF (a0b a a) a.aj.length)=true:=dL.2 fun k _=>by simp[a0b]
 unfold QE;rw[h];simp
theorem agA:Qa lX:=⟨a4C _,a4C _,a4C _,a4C _,fun b h=>by cases h⟩
theorem agB{d:Dg}(h:JK d=true)(r:Iz d):rU d:=by
 obtain⟨f,h1,h2,h3,_⟩:=Yl h;exact⟨r,f.s,by omega,by unfold ah;omega⟩
open Go Tw Pv dw
theorem abp{a b x:Int}:JJ a b x=true↔a<=x∧x<=b:=by
 unfold JJ;by_cases h1:x>=a
 .simp[h1]
 simp[h1]
theorem a2f(a b x:Int):JJ a b x=jP x a b:=by
 rw[a4E,abp,oQ]
def oc3:fA aC:=cO 3 (a3 dA iA iA) tA (fun _=>true) (fun p=>[Iz p.1]) alM
theorem gc3:Gd oc3:=aqY.add fun n hO p hp=>by
 obtain⟨d,c,g⟩:=p;have hr:Iz d:=hp _ (.head _);cases ht:(!(JK d))
 .have ht:JK d=true:=by simpa using ht
  obtain⟨hf,h1,h2,h3,h4⟩:=Yl ht;have hP:=agB ht hr;have ec:=abo hP;have ho:d.aG.length<=ah:=hf.o;have he:d.aK.length<=ah:=hf.e;have q1:lY (d,c,g)=if(kY d != 0)=true then(lX,kY d)else if(!(jP c 0 (i64.wrap ((d.ay.length:Int)-1))))=true then(lX,3)else if(!(jP g 0 (i64.wrap (d.ay.getD c.toNat 0-1))))=true then(lX,3)else(AU (QD d c g) op0,0):=by
   unfold lY;rw[ec,a2f,a2f]
  cases e1:(kY d==0)
  .have e2:(kY d != 0)=true:=by show(!(kY d==0))=true;rw[e1];rfl
   have q2:lY (d,c,g)=(lX,kY d):=(by rw[q1,a0q e2]);have q3:((lY (d,c,g)).2==kY d)=true:=by rw[q2];exact beq_self_eq_true _
   have q4:Qa (lY (d,c,g)).1:=by rw[q2];exact agA
   have q5:QE (lY (d,c,g)).1 lX=true:=by rw[q2];exact Iq _
   exact aO hO (.b (congrArg Bool.not ht) (.o hf (.o hP (.o ho (.o he (.b e1 (.b e2 (.b q3 (.o q4 (.b q5 .rr))))))))))
  .have h0:kY d=0:=(by simpa using e1);have e2:(kY d != 0)=false:=by rw[h0];rfl
   have hL:=Vr ho he e1;cases e3:(!(jP c 0 (i64.wrap ((d.ay.length:Int)-1))))
   .have hc:fK c d.ay.length:=by
     have:=oQ.1 (show jP c 0 (i64.wrap ((d.ay.length:Int)-1))=true by simpa using e3);rw[wrap_small (by omega) (by omega)]at this;exact⟨this.1,by omega⟩
    have hz:=hL.f.sz (d.ay.getD c.toNat 0) (bP (show c.toNat<d.ay.length by obtain⟨a,b⟩:=hc;omega));cases e4:(!(jP g 0 (i64.wrap (d.ay.getD c.toNat 0-1))))
    .have hg:0<=g∧g<d.ay.getD c.toNat 0:=by
      have:=oQ.1 (show jP g 0 (i64.wrap (d.ay.getD c.toNat 0-1))=true by simpa using e4);obtain⟨z1,z2⟩:=hz;rw[wrap_small (by omega) (by omega)]at this;omega
     have hs:bV [d]=0:=by rw[ec];exact h0
     have q2:lY (d,c,g)=(AU (QD d c g) op0,0):=(by rw[q1,a0p (by rw[e2];simp),a0p (by rw[e3];simp),a0p (by rw[e4];simp)]);have hR:=Vl hP hs hc hg;have hj:qF (QD d c g) op0:=DR hR (Jb.inD (D:=[d]) (fun x hx=>by rw[a2A.1 hx];exact hP) hs) fun l hl hv=>hv _ (fM (by rw[hl];exact agQ));have q4:Qa (lY (d,c,g)).1:=by rw[q2];exact(ar0 hR hj).f
     have q5:(if((lY (d,c,g)).2==0)=true then QE (lY (d,c,g)).1 (Vp (d,c,g))else false)=true:=by
      rw[q2];show QE (AU (QD d c g) op0) (Vp (d,c,g))=true;rw[agl hP hs hc hg];exact Iq _
     exact aO hO (.b (congrArg Bool.not ht) (.o hf (.o hP (.o ho (.o he (.b e1 (.b e3 (.o hc (.b e4 (.b e2 (.o (show RsP d c g from⟨hL,hc,hg.1,hg.2⟩) (.o q4 (.b q5 .rr)))))))))))))
    .have q2:lY (d,c,g)=(lX,3):=(by rw[q1,a0p (by rw[e2];simp),a0p (by rw[e3];simp),a0q e4]);have q3:((lY (d,c,g)).2==3)=true:=by rw[q2];rfl
     have q4:Qa (lY (d,c,g)).1:=by rw[q2];exact agA
     have q5:QE (lY (d,c,g)).1 lX=true:=by rw[q2];exact Iq _
     exact aO hO (.b (congrArg Bool.not ht) (.o hf (.o hP (.o ho (.o he (.b e1 (.b e3 (.o hc (.b e4 (.b (rfl:((3:Int) != 0)=true) (.b q3 (.o q4 (.b q5 .rr)))))))))))))
   .have q2:lY (d,c,g)=(lX,3):=(by rw[q1,a0p (by rw[e2];simp),a0q e3]);have q3:((lY (d,c,g)).2==3)=true:=by rw[q2];rfl
    have q4:Qa (lY (d,c,g)).1:=by rw[q2];exact agA
    have q5:QE (lY (d,c,g)).1 lX=true:=by rw[q2];exact Iq _
    exact aO hO (.b (congrArg Bool.not ht) (.o hf (.o hP (.o ho (.o he (.b e1 (.b e3 (.b (rfl:((3:Int) != 0)=true) (.b q3 (.o q4 (.b q5 .rr)))))))))))
 .exact aO hO (.b ht .rr)
end Go.Proofs.YtmobpoiejckagaaGreat
namespace Tw
open Go Go.ChangeShapes Go.WideShapes Go.RowKit
theorem JL{H:Type}{enc:TypeId×Value->H}{P:Program}{w:World}{t:TypeId}{ts:List TypeId}{vs:List Value}{ds:List (DataW H)}{ps:List MemPlace}(h:DataW.TrodAll enc P w 0 (fun _=>true) true (t::ts) vs ds ps):∃d e,ds=d::e∧Rd enc P w t d∧∃vs ps,DataW.TrodAll enc P w 0 (fun _=>true) true ts vs e ps:=by
 obtain⟨v,vs',d,ds',p,q,rfl,rfl,rfl,⟨fuel,hd⟩,NH⟩:=trodAll_cons h;exact⟨d,ds',rfl,⟨_,fuel,p,hd⟩,_,_,NH⟩
section
variable {H:Type} {P:Program} {g:Nat} {t:TypeId} {ts:List TypeId} {d:DataW H} {ds:List (DataW H)} {h h1 h2:List HB} {xs:List TV}
theorem agC{cs:List TV}(ha:uJ P t=some true)(he:CV P g t d h=some (cs,h1))(hr:L9 P g ts ds h1=some (xs,h2)):L9 P g (t::ts) (d::ds) h=some (.agg cs::xs,h2):=by
 simp only[L9,he,ha,hr]
theorem a8w{x:TV}(ha:uJ P t=some false)(he:CV P g t d h=some ([x],h1))(hr:L9 P g ts ds h1=some (xs,h2)):L9 P g (t::ts) (d::ds) h=some (x::xs,h2):=by
 simp only[L9,he,ha,hr]
theorem agD:L9 (H:=H) P g [] [] h=some ([],h):=rfl
end
end Tw
namespace Pv
open Go Tw
section
variable {X:kR} {P:Program} {H:Type} {ny:TypeId×Value->H} {w:World}
abbrev AT:Nat->Prop:=fun _=>True
def RdP(ny:TypeId×Value->H)(X:kR)(P:Program)(w:World)(g t:Nat){α:Type}(ps:α->List (PV X.Γ))(Q:α->Prop):Prop:=
 ∀d,Rd ny P w t d->∃a,Q a∧∀h,∃xs ext,CV P g t d h=some (xs,h++ext)∧∀e,bZ X P AT [] (h++ext++e) (ps a) xs
theorem a2g{t g:Nat}{k:IntKind}(ht:P.underlying t=some (.int k)):RdP ny X P w (g+1) t (fun n:Int=>[.int k n]) (fun n=>(Lit.int k n).wf=true):=fun d hd=>by
 obtain⟨n,rfl,hn⟩:=aeR ht hd;exact⟨n,hn,fun h=>⟨[.int k n],[],by simp[CV,ht],fun e=>.cons (.int _ _) .nil⟩⟩
theorem TD{e g sz:Nat}{Q:X.Γ e->Prop}(hlen:∀a,(X.enc e a).length=sz)(hr:RdP ny X P w g e (X.enc e) Q):∀(ds:List (DataW H)),(∀y∈ds,Rd ny P w e y) ->
  ∃l:List (X.Γ e),l.length=ds.length∧(∀a∈l,Q a)∧∀h,∃cs ext,Wv (CV P g e) sz ds h=some (cs,h++ext)∧cs.length=l.length*sz∧∀e2 (j:Nat) a (i:Nat) c v,l[j]? = some a->(X.enc e a)[i]? = some c->cs[j*sz+i]? = some v->VR X P AT [] (h++ext++e2) c v
 | [],_=>⟨[],rfl,by simp,fun h=>⟨[],[],by simp[Wv],by simp,fun e2 j a i c v h1=>by simp at h1⟩⟩
 |d::ds,hd=>by
  obtain⟨a,qa,ha⟩:=hr d (hd d (a3l ..));obtain⟨l,l1,l2,l3⟩:=TD hlen hr ds fun y hy=>hd y (a3n _ hy);refine⟨a::l,by simp[l1],fun b hb=>(a2r.1 hb).elim (fun e=>e▸qa) (l2 b),fun h=>?_⟩;obtain⟨xs,e1,h1,v1⟩:=ha h;obtain⟨cs,e2,h2,c2,v2⟩:=l3 (h++e1);have hx:xs.length=sz:=by rw[<-(v1 []).1];exact hlen a
  refine⟨xs++cs,e1++e2,?_,by simp only[a1s,a4d,hx,c2,a3k];omega,fun e3 j b i c v hj hi hv=>?_⟩
  .simp only[Wv,h1,hx,a2y,h2,a5b]
  .cases j with
   |zero=>
    simp only[a2Q,a03]at hj;subst hj;have KW:i<sz:=by rw[<-hlen a];exact(a0d.1 hi).1
    rw[abV,a3Z,a0k (by omega)]at hv;have:=(v1 (e2++e3)).2 i c v hi hv;simp only[a5b]at this ⊢;exact this
   |succ j=>
    rw[a9r]at hj;rw[a1d (by rw[hx,a3k];omega),hx,show(j+1)*sz+i-sz=j*sz+i by rw[a3k];omega]at hv;have:=v2 e3 j b i c v hj hi hv;simp only[a5b]at this ⊢;exact this
theorem Qb{t e g sz:Nat}{Q:X.Γ e->Prop}(ht:P.underlying t=some (.slice e))(uT:P.cellsOf e=sz)(hz:dG P e=some sz)(h0:0<sz)(hlen:∀a,(X.enc e a).length=sz)(hr:RdP ny X P w g e (X.enc e) Q):RdP ny X P w (g+1) t (fun l:List (X.Γ e)=>[.dD e l false]) (fun l=>∀a∈l,Q a):=fun d hd=>by
 rcases a6u ht hd with rfl|⟨xs,ys,rfl,hy⟩
 .exact⟨[],by simp,fun h=>⟨[.nil .slc],[],by simp[CV,ht],fun e=>.cons .oD .nil⟩⟩
 .obtain⟨l,l1,l2,l3⟩:=TD hlen hr (xs++ys) hy;have hl:xs.length<=l.length:=by rw[l1,a1s];omega
  refine⟨l.take xs.length,fun a ha=>l2 a (a8L ha),fun h=>?_⟩;obtain⟨cs,e1,h1,c1,v1⟩:=l3 h;refine⟨[.slc (h++e1).length 0 xs.length (xs.length+ys.length) sz true],e1++[.cells .ro cs],?_,fun e2=>.cons ?_ .nil⟩
  .have iE:¬sz=0:=(by omega);simp only[CV,ht,uT,h1,iE,a3U,a5b]
  .have hln:(l.take xs.length).length=xs.length:=(by rw[a4b,a8m hl]);have hb:(h++(e1++[HB.cells .ro cs])++e2)[(h++e1).length]? = some (.cells .ro cs):=by
    rw[show h++(e1++[HB.cells .ro cs])++e2=(h++e1)++(HB.cells .ro cs::e2) by simp,a1d (a0w _),agK];rfl
   have wC:(l.take xs.length).length<=xs.length+ys.length:=(by omega);have rX:∀(j:Nat) a,(l.take xs.length)[j]? = some a->l[j]? = some a:=fun j a hj=>by
    rw[a4i]at hj;split at hj
    .exact hj
    .cases hj
   have hle:(l.take xs.length).length*sz<=cs.length:=by rw[c1,hln];exact a3m sz hl
   generalize xs.length+ys.length=cp at wC ⊢;generalize l.take xs.length=l' at wC rX hle hln ⊢;rw[<-hln];exact VR.dD (X:=X) (P:=P) (A:=AT) (m:=[]) (t:=e) (l:=l') (fu:=false) (b:=(h++e1).length) (off:=0) (cap:=cp) (sz:=sz) (ex:=true) (cs:=cs) trivial (by unfold aW;rw[hb]) (fun _=>by unfold mg;rw[hb];simp) hz h0 (by omega) wC (by simp) (fun j a _=>hlen a) (fun j a i c v hj hi hv=>by
    rw[a3Z]at hv;have:=v1 ([HB.cells .ro cs]++e2) j a i c v (rX j a hj) hi hv;simp only[a5b]at this ⊢;exact this)
def RdF(ny:TypeId×Value->H)(X:kR)(P:Program)(w:World)(g o:Nat)(fs:List Field){α:Type}(ps:α->List (PV X.Γ))(Q:α->Prop):Prop:=
 ∀ds:List (DataW H),ds.length=fs.length->(∀(i:Nat) f d,fs[i]? = some f->ds[i]? = some d->Rd ny P w f.type d)->∃a,Q a∧∀h,∃xs ext,Oa P (CV P g) o fs ds h=some (xs,h++ext)∧∀e,bZ X P AT [] (h++ext++e) (ps a) xs
theorem Vu{g o:Nat}:RdF ny X P w g o [] (fun _:Unit=>[]) (fun _=>True):=fun ds hl _=>by
 have:=a4c hl;subst this;exact⟨(),trivial,fun h=>⟨[],[],by simp[Oa],fun e=>.nil⟩⟩
theorem rW{g o n:Nat}{f:Field}{fs:List Field}{α β:Type}{p1:α->List (PV X.Γ)}{p2:β->List (PV X.Γ)}{Q1:α->Prop}{Q2:β->Prop}(ho:f.offset=o)(hc:P.cellsOf f.type=n)(hn:∀a,(p1 a).length=n)(h1:RdP ny X P w g f.type p1 Q1)(h2:RdF ny X P w g (o+n) fs p2 Q2):RdF ny X P w g o (f::fs) (fun x:α×β=>p1 x.1++p2 x.2) (fun x=>Q1 x.1∧Q2 x.2):=fun ds hl hd=>by
 cases ds with
 |nil=>cases hl
 |cons d ds=>
  obtain⟨a,qa,ha⟩:=h1 d (hd 0 f d rfl rfl);obtain⟨b,qb,hb⟩:=h2 ds (by simpa using hl) fun i f' d' e1 e2=>hd (i+1) f' d' e1 e2;refine⟨(a,b),⟨qa,qb⟩,fun h=>?_⟩;obtain⟨xs,e1,g1,v1⟩:=ha h;obtain⟨ys,e2,g2,v2⟩:=hb (h++e1);have hx:xs.length=n:=by rw[<-(v1 []).1];exact hn a
  refine⟨xs++ys,e1++e2,?_,fun e=>?_⟩
  .simp only[Oa,g1,ho,hx,hc,acU,a2y,g2,a5b]
  .have w1:=v1 (e2++e);have w2:=v2 e;simp only[a5b]at w1 w2 ⊢;exact w1.app w2
theorem G8{t g n:Nat}{fs:Array Field}{α:Type}{ps:α->List (PV X.Γ)}{Q:α->Prop}(ht:P.underlying t=some (.struct fs))(hc:P.cellsOf t=n)(hn:∀a,(ps a).length=n)(hf:RdF ny X P w g 0 fs.toList ps Q):RdP ny X P w (g+1) t ps Q:=fun d hd=>by
 obtain⟨ds,rfl,hl,JW⟩:=a3f ht hd;obtain⟨a,qa,ha⟩:=hf ds (by simpa using hl) fun i f d e1 e2=>JW i f d (by simpa using e1) e2;refine⟨a,qa,fun h=>?_⟩;obtain⟨xs,e1,g1,v1⟩:=ha h;have hx:xs.length=n:=by rw[<-(v1 []).1];exact hn a
 refine⟨xs,e1,?_,v1⟩;rw[Xm ht,g1];simp[hx,hc]
theorem RdP.iso{t g:Nat}{α β:Type}{ps:α->List (PV X.Γ)}{Q:α->Prop}(h:RdP ny X P w g t ps Q)(f:α->β){p2:β->List (PV X.Γ)}{Q2:β->Prop}(hp:∀a,p2 (f a)=ps a)(hq:∀a,Q a->Q2 (f a)):RdP ny X P w g t p2 Q2:=fun d hd=>by
 obtain⟨a,qa,ha⟩:=h d hd;exact⟨f a,hq a qa,fun h=>by rw[hp];exact ha h⟩
theorem agE{T:qH}{L n f:Nat}{vs:List (PV X.Γ)}{xs:List TV}{h:List HB}(hc:nZ X P (lq P T L (n+1)) f vs (PV.bool true) [])(hv:bZ X P AT [] h vs xs):∃h',lq P T L (n+1) (TV.fn f [] []) xs h=some (TV.bool true,h',[]):=by
 obtain⟨x,h',m',c1,_,c3,_⟩:=hc AT h [] xs [] (fun _ _=>trivial) (by simpa using hv);have:x=TV.bool true:=by
  cases c3 with
  |bool=>rfl
  |gone hi _ _=>simp[bC]at hi
 subst this;exact⟨h',c1⟩
end
end Pv
namespace Go.Proofs.YtmobpoiejckagaaGreat
open Go Tw Pv
section
variable {H:Type} {ny:TypeId×Value->H} {w:World}
abbrev RdX(ny:TypeId×Value->H)(w:World)(g t:Nat){α:Type}(ps:α->List (PV aC))(Q:α->Prop):Prop:=RdP ny X0 Tryz.prog w g t ps Q
theorem a2h:Tryz.prog.cellsOf 3=1:=by kernel_rfl
theorem ar2:Tryz.prog.cellsOf 5=1:=by kernel_rfl
theorem ady:Tryz.prog.cellsOf 39=2:=by kernel_rfl
theorem zI0:dG Tryz.prog 3=some 1:=by kernel_rfl
theorem a3X{g:Nat}:RdX ny w (g+1) 3 (fun n:Int=>[.int .i64 n]) (fun n=>(Lit.int .i64 n).wf=true):=a2g Tryz.underlying3
theorem rU8{g:Nat}:RdX ny w (g+1) 5 (fun n:Int=>[.int .u8 n]) (fun n=>0<=n∧n<=255):=(a2g Tryz.underlying5).iso id (fun _=>rfl) fun n h=>by
 simp only[Lit.wf,a2n,a1o]at h;exact h
theorem a8x{g:Nat}:RdX ny w (g+2) 22 (fun l:List Int=>[lI l]) (fun l=>∀a∈l,(Lit.int .i64 a).wf=true):=Qb (e:=3) Tryz.underlying22 a2h zI0 (by decide) (fun _=>rfl) a3X
theorem ar4{g:Nat}:RdX ny w (g+2) 39 V.ps (fun v=>0<=v.f∧v.f<=255):=
 (G8 Tryz.underlying39 ady (fun _=>rfl) (rW rfl ar2 (fun _=>rfl) rU8 (rW rfl a2h (fun _=>rfl) a3X Vu))).iso (fun x=>⟨x.1,x.2.1⟩) (fun _=>rfl) fun _ h=>h.1
theorem alN:dG Tryz.prog 39=some 2:=by kernel_rfl
theorem alO{g:Nat}:RdX ny w (g+3) 23 (fun l:List V=>[lV l]) (fun l=>∀v∈l,0<=v.f∧v.f<=255):=Qb (e:=39) Tryz.underlying23 ady alN (by decide) (fun _=>rfl) ar4
theorem agF:Tryz.prog.cellsOf 22=1:=by kernel_rfl
end
open Go Tw Pv dw
section
variable {H:Type} {ny:TypeId×Value->H} {w:World}
theorem alP:Tryz.prog.cellsOf 105=2:=by kernel_rfl
theorem ar5:dG Tryz.prog 105=some 2:=by kernel_rfl
theorem alQ:Tryz.prog.cellsOf 24=1:=by kernel_rfl
theorem ar6:Tryz.prog.cellsOf 23=1:=by kernel_rfl
theorem ar7:Tryz.prog.cellsOf 26=5:=by kernel_rfl
theorem rBr{g:Nat}:RdX ny w (g+3) 105 Br.ps (fun b=>∀a∈b.aA,(Lit.int .i64 a).wf=true):=
 (G8 Tryz.underlying105 alP (fun _=>rfl) (rW rfl a2h (fun _=>rfl) a3X (rW rfl agF (fun _=>rfl) a8x Vu))).iso (fun x=>⟨x.1,x.2.1⟩) (fun _=>rfl) fun _ h=>h.2.1
theorem ar8{g:Nat}:RdX ny w (g+4) 24 (fun l:List Br=>[lBr l]) (fun l=>∀b∈l,∀a∈b.aA,(Lit.int .i64 a).wf=true):=Qb (e:=105) Tryz.underlying24 alP ar5 (by decide) (fun _=>rfl) rBr
theorem a8y{a:Int}(h:(Lit.int .i64 a).wf=true):FV a:=by
 simp only[Lit.wf,a2n,a1o]at h;obtain⟨h1,h2⟩:=h;have e1:i64.min=-(2^63):=by decide
 have e2:i64.max=2^63-1:=by decide
 exact⟨by omega,by omega⟩
theorem rDg{g:Nat}:RdX ny w (g+5) 26 Dg.ps Iz:=
 (G8 Tryz.underlying26 ar7 (fun _=>rfl) (rW rfl agF (fun _=>rfl) a8x (rW rfl agF (fun _=>rfl) a8x (rW rfl ar6 (fun _=>rfl) alO (rW rfl alQ (fun _=>rfl) ar8 (rW rfl a2h (fun _=>rfl) a3X Vu)))))).iso (fun x=>⟨x.1,x.2.1,x.2.2.1,x.2.2.2.1,x.2.2.2.2.1⟩) (fun _=>rfl) fun x h=>by
  obtain⟨_,_,h3,h4,h5,_⟩:=h;refine⟨fun i hi k hk=>?_,a8y h5,fun v hv=>(h3 v hv).1⟩;have hb:fC ⟨x.1,x.2.1,x.2.2.1,x.2.2.2.1,x.2.2.2.2.1⟩ i∈x.2.2.2.1:=by
   show(x.2.2.2.1).getD i jU∈_;rw[List.getD,a0g hi];exact a4r _
  refine a8y (h4 _ hb _ ?_);rw[List.getD,a0g hk];exact a4r _
end
open Go.ChangeShapes Go.WideShapes Go.ChangeAt Go.RowKit
theorem Tryz.own:ownKnob Tryz.prog.godebug=none:=by kernel_rfl
theorem Tryz.laidOut:laidOutB Tryz.prog=true:=by kernel_rfl
theorem Tryz.mixed:Tryz.prog.follows .mixedOrders=true:=by kernel_rfl
theorem agG:iF Tryz.prog T.ext:=by
 show iF Tryz.prog aeQ;intro fv args h v h' ws hc;unfold aeQ at hc;split at hc
 .split at hc
  .exact a9R (Z9 (T:=Tm) Tryz.mixed (fun _ _ _ _ _ _ h=>by cases h) 2) _ _ _ _ _ _ hc
  exact Xj abX _ _ _ _ _ _ hc
 exact Xj abX _ _ _ _ _ _ hc
theorem Tryz.tys3:Tryz.f3.params.toList=[26,3,3]:=by kernel_rfl
set_option maxRecDepth 100000 in
theorem BO(os:Os)(started:os.Started)(H:Type)(enc:TypeId×Value->H) :
  ReturnsInHanded {} Tryz.checked os 3 .any (Rows.applyRestrictsSpec.pre6 enc Tryz.prog Tryz.f3 Rows.applyRestrictsRow.domain false) (Rows.applyRestrictsSpec.post enc Tryz.prog Tryz.f3 false true false false):=by
 refine returnsInHanded_of_change (C:=Tryz.checked) Tryz.own started (by kernel_rfl) Tryz.func3
  (ChangeSpec.witness6 (enc:=enc) (C:=Tryz.checked) false ⟨#[],#[.agg #[.slice none 0 0,.slice none 0 0,.slice none 0 0,.slice none 0 0,.int .i64 0],.int .i64 0,.int .i64 0],[]⟩ 8 (by kernel_rfl) (by kernel_rfl) (by kernel_rfl) (by kernel_rfl)) ?_
 intro W base args ds gs before alR hW avH _;have WA:∀(j:Nat) t v,Tryz.f3.params[j]? = some t->args[j]? = some v->Value.okWide Tryz.prog W .any base t v:=alR;have hW':=hW;obtain⟨p,q,ar9,hV,rfl,hfz,jA⟩:=hW;have hTA:DataW.TrodAll enc Tryz.prog W 0 (fun _=>true) true Tryz.f3.params.toList args.toList ds p:=ar9;obtain⟨rfl,rfl⟩:=trodVars_none hV;rw[Tryz.tys3]at hTA;obtain⟨d0,_,rfl,r0,_,_,hTA⟩:=JL hTA;obtain⟨d1,_,rfl,r1,_,_,hTA⟩:=JL hTA;obtain⟨d2,_,rfl,r2,_,_,hTA⟩:=JL hTA;obtain⟨_,rfl,_⟩:=trodAll_nil hTA;obtain⟨a0,q0,h0⟩:=rDg (g:=2) d0 r0;obtain⟨a1,q1,h1⟩:=a3X (g:=6) d1 r1;obtain⟨a2,q2,h2⟩:=a3X (g:=6) d2 r2;obtain⟨x0,e0,g0,v0⟩:=h0 ([]);obtain⟨x1,e1,g1,v1⟩:=h1 ([]++e0);obtain⟨x2,e2,g2,v2⟩:=h2 ([]++e0++e1);have w0:=v0 (e1++e2);simp only[a5b,aad,a5T]at w0;have w1:=v1 (e2);simp only[a5b,aad,a5T]at w1;obtain⟨y1,_,rfl,u1,z1⟩:=w1.inv;cases z1.inv0;have w2:=v2 ([]);simp only[a5b,aad,a5T]at w2;obtain⟨y2,_,rfl,u2,z2⟩:=w2.inv;cases z2.inv0;obtain⟨N,hN⟩:=gc3;have ara:=hN (N+1) (by omega) 3 ((Pv.a3 dA iA iA).put (a0,a1,a2)) (tA.put true) [] [Iz a0] rfl (by
  intro p hp;simp only[a2r,List.not_mem_nil,or_false]at hp;subst hp;exact q0)
 obtain⟨h',hr⟩:=agE (h:=[]++e0++e1++e2) ara (by simp only[a5b,aad,a5T];exact .cons (.agg w0.1 w0.2) (.cons u1 (.cons u2 .nil)));exact Za (P:=Tryz.prog) (T:=T) (L:=LL) (n:=N) (g:=7) Tryz.mixed Tryz.laidOut rfl rfl (by kernel_rfl) Tryz.underlying4 (by kernel_rfl) hW' WA
  (by rw[Tryz.tys3];exact(agC (by kernel_rfl) g0 (a8w (by kernel_rfl) g1 (a8w (by kernel_rfl) g2 agD)))) agG (by kernel_rfl) (by kernel_rfl) hr
theorem BP:joinedFacts Tryz.pinned.checked.prog 3 Tryz.f3 Rows.applyRestrictsSpec Rows.applyRestrictsRow=true:=by kernel_rfl
theorem ApplyRestricts_holds:Rows.ApplyRestrictsSaid:=
 OpenClaim.holds_of_wide 3 Tryz.f3 rfl rfl rfl rfl rfl rfl rfl ⟨rfl,rfl,rfl,rfl,rfl⟩ rfl rfl rfl rfl rfl (by kernel_rfl) Tryz.func3 BP
  (a8l (by kernel_rfl)) (by unfold Func.isWrapper;first|(rw[a0q (by decide +kernel)];kernel_rfl)|(rw[a0p (by decide +kernel)];exact⟨rfl,rfl⟩))
  (fun os started H enc _=>BO os started H enc)
end Go.Proofs.YtmobpoiejckagaaGreat
