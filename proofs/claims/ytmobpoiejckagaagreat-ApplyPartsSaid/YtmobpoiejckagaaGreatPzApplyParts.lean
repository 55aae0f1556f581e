/- ApplyParts: a restricted diagram does not have the choice; restricted twice it is as after the first time; the counts of all its parts together are the size of the choice times the diagram's count (the Go function of this name returns true for every input). -/
import Derived.ProofKit
import Derived.Test.YtmobpoiejckagaaGreatRows
import Derived.Test.YtmobpoiejckagaaGreatP05
set_option linter.constructorNameAsVariable false
set_option linter.unusedVariables false
set_option linter.unusedSimpArgs false
set_option linter.unusedSectionVars false
open Go.IntKind (i64)
noncomputable section
namespace Go.Proofs.YtmobpoiejckagaaGreat
open Go Tw Pv bQ
abbrev a0o:Code:=(Ti Qp 88).body
abbrev lpB:Code:=eP (eP (eU (eP (eU a0o))))
abbrev xB:Code:=eP (eU (eU lpB))
def DX(t:List (V×Int))(js:List Nat):LI0:=(js.reverse.filter fun j=>!decide ((Qj t j).1.f>0)).map fun j=>(Qj t j).1.n
def fOf(t:List (V×Int))(js:List Nat):Bool:=js.any fun j=>decide ((Qj t j).1.f>0)
theorem a4s(t:List (V×Int))(j:Nat)(js:List Nat):DX t (j::js)=DX t js++(if decide ((Qj t j).1.f>0)=true then []else [(Qj t j).1.n]):=by
 unfold DX;rw[List.reverse_cons,List.filter_append,a4K];congr 1;cases h:decide ((Qj t j).1.f>0)
 .rw[adI (by rw[h];rfl),a0y (by simp)];rfl
 rw[adC (by rw[h];simp),a0A rfl];rfl
def mg(t:List (V×Int)):LI0:=gX ((t.filter fun e=>!decide (e.1.f>0)).map fun e=>e.1.n)
def uT(t:List (V×Int)):Bool:=t.any fun e=>decide (e.1.f>0)
theorem a0p{l l':LI0}(h:l.Perm l'):gX l=gX l':=by
 unfold gX;have hs:∀l:LI0,(l.mergeSort fun x y=>decide (x<=y)).Pairwise fun a b=>decide (a<=b)=true:=fun l=>
  List.pairwise_mergeSort (fun a b c h1 h2=>by simp at *;omega) (fun a b=>by simp;omega) l
 exact List.Perm.eq_of_pairwise (le:=fun a b=>decide (a<=b)=true) (fun a b _ _ h1 h2=>by simp at h1 h2;omega) (hs l) (hs l') ((aep l _).trans (h.trans (aep l' _).symm))
theorem agD{t:List (V×Int)}{js:List Nat}(hn:js.Nodup)(hl:∀j∈js,j<t.length)(ha:∀j,j<t.length->j∈js):gX (DX t js)=mg t∧fOf t js=uT t:=by
 have hp:(js.reverse).Perm (List.range t.length):=(List.reverse_perm js).trans ((a7B hn aej).2 fun j=>⟨fun h=>a4V.2 (hl j h),fun h=>ha j (a4V.1 h)⟩);constructor
 .refine a0p ?_;unfold DX;have e:((t.filter fun e=>!decide (e.1.f>0)).map fun e=>e.1.n)=((List.range t.length).filter fun j=>!decide ((Qj t j).1.f>0)).map fun j=>(Qj t j).1.n:=by
   conv=>lhs;rw[agB t]
   rw[List.filter_map,a5D];rfl
  rw[e];exact(hp.filter _).map _
 unfold fOf uT;rw[a5c,ahp,ahp];constructor
 .rintro⟨j,hj,h⟩;exact⟨Qj t j,fC (d:=((V0,0):V×Int)) (hl j hj),h⟩
 rintro⟨e,he,h⟩;obtain⟨j,hj,rfl⟩:=a5h.1 he;exact⟨j,ha j hj,by rw[(VI (a0d hj)).1];exact h⟩
abbrev sBl(t:List (V×Int))(l:LI0)(b:Bool)(js:List Nat):aU aG:=match l with
 | []=>⟨[(2,.val (.nil .aQ)),(3,xl b),(6,.val (.iter 1))],[],[.iH (kV.im t),.dn 0 t.length js]⟩
 |x::l=>⟨[(2,.val (.own 2)),(3,xl b),(6,.val (.iter 1))],[],[.iH (kV.im t),.dn 0 t.length js,.list false false 3 (x::l)]⟩
theorem agE{n:Nat}:iW (n+1) (.fn 137 [] []) [.nil .aQ] [] (.dI []) []:=by intro A m h tf rM hr hf hx;obtain⟨x,r,rfl,h1,h2⟩:=hx.inv;have:=h2.inv0;subst this;have htf:=hf.V4;subst htf;have hx:x=.nil .aQ:=jR h1 rfl;subst hx;exact⟨.dI [],h,[],m,rfl,hr,.dI rfl (fun i x y hx=>by simp at hx),.refl,.refl,fun b hb=>by cases hb⟩
section
variable {n:Nat} {t:List (V×Int)}
set_option maxRecDepth 20000 in
theorem abz(h:Kq t):aK X0 Qp T (iE (n+1)) (vg Qp T (iE (n+1)) LL) LL 88 (Ce Qp 88) 1 (.block 0 (.loop lpB)) (sBl t [] false [])
  fun e s=>e=.norm∧∃l seen,gX l=mg t∧s={ sBl t l (uT t) seen with env:=jl (T.iC 88 2) ((8,.val (.bool false))::(7,.val (.dI [.bool false]))::(sBl t l (uT t) seen).env) }:=by
 have e1:lpB=.seq (.region 2 (a7m (eP lpB)) false) (.seq (.cond (.tmp 8) .skip (.exit 0)) (.block 1 xB)):=by kernel_rfl
 have hlen:=h.len;rw[e1];refine Pz hX (n:=t.length) (b:=1) (r:=0) (it:=6) (nx:=7) (mo:=8) (es:=kV.im t) (fun seen s=>seen.Nodup∧(∀j∈seen,j<t.length)∧∃gs,lK 1 gs (gW X0 (T.eX 88 (dS lpB)) s)=some (sBl t (DX t seen) (fOf t seen) seen)) (by kernel_rfl) (a88 (by kernel_rfl)) (a88 (by kernel_rfl)) (kV.pK t) (by unfold LL;omega)
  ⟨a6f,(fun j hj=>(by cases hj)),[],(by kernel_rfl)⟩ (fun seen s hi=>?_)
 obtain⟨jF,aT,gs,h3⟩:=hi;rw[<-e1];refine⟨gs,_,h3,?_,?_,?_,fun ho=>?_,fun j e hj he=>?_⟩
 .cases DX t seen<;>kernel_rfl
 .cases DX t seen<;>kernel_rfl
 .cases DX t seen<;>kernel_rfl
 .obtain⟨a1,a2⟩:=agD jF aT ho;refine⟨?_,DX t seen,seen,a1,?_⟩
  .cases DX t seen<;>kernel_rfl
  .rw[a2]
 .rw[kV.Bj,a09]at he;obtain⟨⟨v,w⟩,sF,rfl⟩:=he;obtain⟨q1,q2,q3⟩:=VI sF;have Gp:(j::seen).Nodup:=a4U.2 ⟨hj,jF⟩;have Gq:∀k∈j::seen,k<t.length:=fun k hk=>by
   rcases a1z.1 hk with rfl|hk
   .exact q2
   .exact aT k hk
  have hll:(DX t seen).length<=2000:=by
   have h1:(DX t seen).length<=seen.length:=by unfold DX;rw[a4R];exact a5w (a9C ..) (by simp)
   have h2:seen.length<=t.length:=by have:=(JZ jF aT).length_eq;have h3:=a9C (fun j=>seen.contains j) (List.range t.length);rw[a8Q]at h3;omega
   omega
  have E5:=a4s t j seen;have hf2:fOf t (j::seen)=(decide (v.f>0)||fOf t seen):=by unfold fOf;rw[adP,q1]
  rw[q1]at E5;generalize fOf t seen=b at hf2;have E5:DX t (j::seen)=DX t seen++(if decide (v.f>0)=true then []else [v.n]):=E5;generalize DX t seen=l at E5 hll;cases hv:decide (v.f>0)
  .rw[hv,a0y (by simp)]at E5;rw[hv,ahm]at hf2;have hv1:decide (v.f>0)=false:=hv;cases l with
   |nil=>
    have a1:[v.n].length<=au:=by rw[a4n];unfold au;omega
    refine⟨by kernel_rfl,aK.step (e:=.norm) (by kernel_rfl) (zQ (ps1:=⟨[(2,.val (.own 3)),(3,xl b),(6,.val (.iter 1))],[v.ps],[.iH (kV.im t),.dn 0 t.length (j::seen),.list true true 3 [v.n],.list true false 3 [v.n]]⟩) hX gJ (by kernel_rfl) (.c (.dI [.agg v.ps,.int .i64 w]) [] (Bv sF) (.b hv1 (.o a1 (.r rfl))))) ⟨.inl rfl,Gp,Gq,[.flag 3,.gc [1,3]],?_⟩⟩;rw[E5,hf2]
    kernel_rfl
   |cons x l=>
    have a1:(x::l).length+[v.n].length<=au:=by rw[a4n];unfold au;omega
    refine⟨by kernel_rfl,aK.step (e:=.norm) (by kernel_rfl) (zQ (ps1:=⟨[(2,.val (.own 4)),(3,xl b),(6,.val (.iter 1))],[v.ps],[.iH (kV.im t),.dn 0 t.length (j::seen),.gone,.list true true 3 [v.n],.list false false 3 (x::l++[v.n])]⟩) hX gJ (by kernel_rfl) (.c (.dI [.agg v.ps,.int .i64 w]) [] (Bv sF) (.b hv1 (.o a1 (.r rfl))))) ⟨.inl rfl,Gp,Gq,[.gc [1,4]],?_⟩⟩;rw[E5,hf2]
    kernel_rfl
  .rw[hv,a0A rfl,a5B]at E5;rw[hv,Bool.true_or]at hf2;have hv1:decide (v.f>0)=true:=hv;cases l with
   |nil=>
    refine⟨by kernel_rfl,aK.step (e:=.exit 1) (by kernel_rfl) (zQ (ps1:=⟨[(2,.val (.nil .aQ)),(3,xl true),(6,.val (.iter 1))],[v.ps],[.iH (kV.im t),.dn 0 t.length (j::seen)]⟩) hX gJ (by kernel_rfl) (.c (.dI [.agg v.ps,.int .i64 w]) [] (Bv sF) (.b hv1 (.r rfl)))) ⟨.inr rfl,Gp,Gq,[],?_⟩⟩;rw[E5,hf2]
    kernel_rfl
   |cons x l=>
    refine⟨by kernel_rfl,aK.step (e:=.exit 1) (by kernel_rfl) (zQ (ps1:=⟨[(2,.val (.own 2)),(3,xl true),(6,.val (.iter 1))],[v.ps],[.iH (kV.im t),.dn 0 t.length (j::seen),.list false false 3 (x::l)]⟩) hX gJ (by kernel_rfl) (.c (.dI [.agg v.ps,.int .i64 w]) [] (Bv sF) (.b hv1 (.r rfl)))) ⟨.inr rfl,Gp,Gq,[],?_⟩⟩;rw[E5,hf2]
    kernel_rfl
theorem ED:∀l:LI0,iO (EK X0 3 l)=some (l.map fun n=>TV.int .i64 n)
 | []=>rfl
 |a::l=>by
  have:=ED l;show(match qZ (PV.int .i64 a:PV aG),iO (EK X0 3 l)with
   |some a,some b=>some (a::b)
   |_,_=>none)=_
  rw[this];rfl
theorem a4t{ni:Bool}{b:Bool}{Hs:List (PB aG)}:a3G X0 Qp ni (.dI [.nil .aQ,.bool b]) Hs (fun _=>.dI [.nil .aQ,.bool b]) []:=fun A m h h1 w hr hw _=>by
 cases hw with
 |gone hi _ _=>simp[bC]at hi
 |dI a1 a2=>
  obtain⟨x,r,rfl,v0,v1⟩:=Pv.bW.inv (⟨a1,a2⟩:Pv.bW X0 Qp _ _ _ _ _);obtain⟨y,r,rfl,v2,v3⟩:=v1.inv;have:=v3.inv0;subst this;have:=jR v2 (show qo (PV.bool b:PV aG)=some (TV.bool b)from rfl);subst this;have:=jR v0 (show qo (PV.nil .aQ:PV aG)=some (TV.nil .aQ)from rfl);subst this;unfold Oo;simp only[BP,BP.F8,wS,nN,nN.zC,D6,Ut,LD,a4L,ac1,a5B,a0F]
set_option maxRecDepth 20000 in
theorem ae1(h:Kq t):(mg t=[]->iW (n+2) (.fn 88 [] []) [.map 0] [.iH (kV.im t)] (.dI [.nil .aQ,.bool (uT t)]) [.iH (kV.im t)]) ∧
  (mg t≠[]->iW (n+2) (.fn 88 [] []) [.map 0] [.iH (kV.im t)] (.dI [.own 1,.bool (uT t)]) [.iH (kV.im t),.list false false 3 (mg t)]):=by
 have e0:(Ti Qp 88).body=.seq (eP a0o) (.seq (.seq (eP (eP (eU a0o))) (.block 0 (.loop lpB))) (eU (eU a0o))):=by kernel_rfl
 have x0:dN X0 Qp T (iE (n+1)) LL 88 false (Ce Qp 88) 1 (eP a0o) ⟨lC X0 0 [.map 0],[],[.iH (kV.im t)]⟩ .norm ⟨[(0,.val (.map 0)),(2,.val (.nil .aQ)),(3,xl false)],[],[.iH (kV.im t)]⟩:=zQ hX gJ (an:=.n) (by kernel_rfl) (.r rfl);have x1:dN X0 Qp T (iE (n+1)) LL 88 false (Ce Qp 88) 1 (eP (eP (eU a0o))) ⟨[(0,.val (.map 0)),(2,.val (.nil .aQ)),(3,xl false)],[],[.iH (kV.im t)]⟩ .norm ⟨[(2,.val (.nil .aQ)),(3,xl false),(6,.val (.iter 1))],[],[.iH (kV.im t),.dn 0 (kV.im t).length []]⟩:=zQ hX gJ (an:=.n) (by kernel_rfl) (.r rfl);rw[kV.pK t]at x1;have run:∀Q:Ex->aU aG->Prop,(∀l seen,gX l=mg t->aK X0 Qp T (iE (n+1)) (vg Qp T (iE (n+1)) LL) LL 88 (Ce Qp 88) 1 (eU (eU a0o)) { sBl t l (uT t) seen with env:=jl (T.iC 88 2) ((8,.val (.bool false))::(7,.val (.dI [.bool false]))::(sBl t l (uT t) seen).env) } Q) ->
   aK X0 Qp T (iE (n+1)) (vg Qp T (iE (n+1)) LL) LL 88 (Ce Qp 88) 1 (Ti Qp 88).body ⟨lC X0 0 [.map 0],[],[.iH (kV.im t)]⟩ Q:=fun Q hQ=>by
  rw[e0];refine aK.Bq (by kernel_rfl) x0 (aK.seq (R:=fun e s=>e=.norm∧∃l seen,gX l=mg t∧s={ sBl t l (uT t) seen with env:=jl (T.iC 88 2) ((8,.val (.bool false))::(7,.val (.dI [.bool false]))::(sBl t l (uT t) seen).env) }) (aK.Bq (by kernel_rfl) x1 (abz (n:=n) h)) (fun s hs=>?_) (fun i s h=>by cases h.1) (fun s h=>by cases h.1));obtain⟨_,l,seen,h1,rfl⟩:=hs;exact hQ l seen h1
 have hlen:∀l:LI0,gX l=mg t->l.length<=2^20:=fun l hl=>by
  have h1:(gX l).length=l.length:=by unfold gX;rw[aau]
  have h2:(mg t).length<=t.length:=by unfold mg gX;rw[aau,a4R];exact a9C ..
  have:=h.len;rw[hl]at h1;omega
 have aqy:gX []=([]:LI0):=by simp[gX]
 constructor
 .intro hn;have:=Dw (X:=X0) (P:=Qp) (T:=T) (L:=LL) (n:=n+1) (f:=88) (first:=[]) (cap:=[]) (xs:=[.map 0]) (H:=[.iH (kV.im t)]) (N:=[]) (v:=.dI [.nil .aQ,.bool (uT t)]) (tv:=fun _=>.dI [.nil .aQ,.bool (uT t)]) (tN:=[]) (t:=Ti Qp 88) hX (by kernel_rfl) (by kernel_rfl) (by kernel_rfl) rfl (fun A m h hr=>⟨m,by simpa using hr,Pv.bW.cons (.nil .aQ) (.cons (.bool _) .nil) |> fun h=>.dI h.1 h.2,by simpa using Fr.refl,.refl⟩) (run _ fun l seen hl=>?_)
  .exact this
  .rw[hn]at hl;have qN:l=[]:=by
    have h1:(gX l).length=l.length:=by unfold gX;rw[aau]
    rw[hl]at h1;exact a4I h1.symm
   subst qN;exact aK.step (by kernel_rfl) (zQ (e:=.ret) (ps1:=⟨[(2,.val (.nil .aQ)),(3,xl (uT t))],[],[.iH (kV.im t),.dn 0 t.length seen]⟩) hX gJ (by kernel_rfl) (.fr [] (agE (n:=n)) (.r rfl))) ⟨.inr rfl,[.nil .aQ,.bool (uT t)],by kernel_rfl,a4t⟩
 .intro hn;have:=Dw (X:=X0) (P:=Qp) (T:=T) (L:=LL) (n:=n+1) (f:=88) (first:=[]) (cap:=[]) (xs:=[.map 0]) (H:=[.iH (kV.im t)]) (N:=[.list false false 3 (mg t)]) (v:=.dI [.own 1,.bool (uT t)]) (tv:=fun n=>.dI [.aQ n 0 (mg t).length (mg t).length 1 false,.bool (uT t)]) (tN:=[.cells .last ((mg t).map fun n=>TV.int .i64 n)]) (t:=Ti Qp 88) hX (by kernel_rfl) (by kernel_rfl) (by kernel_rfl) rfl (fun A m h hr=>aaF hX (H:=[.iH (kV.im t)]) (ty:=3) (l:=mg t) hn (ED _) L6 (by decide) (fun _ _ _=>rfl) rfl hr) (run _ fun l seen hl=>?_)
  .exact this
  .cases l with
   |nil=>rw[aqy]at hl;exact absurd hl.symm hn
   |cons x l=>
    have hs:=adq (n:=n) (k:=false) (ex:=false) (x::l) (hlen _ hl);rw[hl]at hs;exact aK.step (by kernel_rfl) (zQ (e:=.ret) (ps1:=⟨[(2,.val (.own 2)),(3,xl (uT t))],[],[.iH (kV.im t),.dn 0 t.length seen,.list false false 3 (mg t)]⟩) hX gJ (by kernel_rfl) (.fr [2] hs (.r rfl))) ⟨.inr rfl,[.own 2,.bool (uT t)],by kernel_rfl,a7l hX (i:=2) (ty:=3) (l:=mg t) rfl hn (ED _) L6 rfl⟩
end
open Go Tw Pv bQ
abbrev vF:PV aG:=.fn 139 [] [.ptr 1 0 1]
abbrev a8L:Code:=(Ti Qp 138).body
abbrev agF:Code:=(Ti Qp 139).body
abbrev lpW:Code:=eP (eP (eU agF))
abbrev xW:Code:=eP (eU (eU lpW))
abbrev a8M:List (Nat×PE aG):=[(2,.val (.ptr 2 0 1)),(4,.val (.nil .aQ)),(6,.val vF)]
abbrev Qk(rd:Bool)(jM:Option Code):PB aG:=.loop rd 138 (Ce Qp 138) a8M [7] (xq Qp 138) (AV Qp 138) jM
abbrev H3(t:List (V×Int))(x:PV aG):List (PB aG):=[.iH (kV.im t),.aF [.map 0],.cells [x]]
theorem one_le(w:Int):[w].length<=au:=by rw[a4n];unfold au;omega
theorem aqz{n:Nat}(t:List (V×Int))(w:Int):iW (n+1) (.kW 4) [.int .i64 w] (H3 t (.nil .aQ)++[.mark,Qk true none]) (.bool true) (H3 t (.own 6)++[.mark,Qk true none,.list true true 3 [w],.list true false 3 [w]]):=by have q1:dN X0 Qp T (iE n) LL 138 true (Ce Qp 138) 5 (xq Qp 138) ⟨uz a8M [7] [.int .i64 w],[],H3 t (.nil .aQ)++[.mark,Qk true none]⟩ .norm ⟨[(2,.val (.ptr 2 0 1)),(5,xi w)],[],H3 t (.nil .aQ)++[.mark,Qk true none]⟩:=yG hX gJ (by kernel_rfl) .xx;have q2:dN X0 Qp T (iE n) LL 138 true (Ce Qp 138) 5 (AV Qp 138) ⟨[(2,.val (.ptr 2 0 1)),(5,xi w)],[],H3 t (.nil .aQ)++[.mark,Qk false none]⟩ .norm ⟨[],[],H3 t (.own 6)++[.mark,Qk false none,.list true true 3 [w],.list true false 3 [w]]⟩:=yG hX gJ (by kernel_rfl) (.o (one_le w) .xx);exact Ic hX (l:=4) rfl rfl (by kernel_rfl) q1 rfl q2 rfl
theorem aqA{n:Nat}(t:List (V×Int))(l:LI0)(w:Int)(hl:l.length+[w].length<=au):iW (n+1) (.kW 4) [.int .i64 w] (H3 t (.own 5)++[.mark,Qk true none,.list false false 3 l]) (.bool true) (H3 t (.own 7)++[.mark,Qk true none,.gone,.list true true 3 [w],.list false false 3 (l++[w])]):=by have q1:dN X0 Qp T (iE n) LL 138 true (Ce Qp 138) 6 (xq Qp 138) ⟨uz a8M [7] [.int .i64 w],[],H3 t (.own 5)++[.mark,Qk true none,.list false false 3 l]⟩ .norm ⟨[(2,.val (.ptr 2 0 1)),(5,xi w)],[],H3 t (.own 5)++[.mark,Qk true none,.list false false 3 l]⟩:=yG hX gJ (by kernel_rfl) .xx;have q2:dN X0 Qp T (iE n) LL 138 true (Ce Qp 138) 6 (AV Qp 138) ⟨[(2,.val (.ptr 2 0 1)),(5,xi w)],[],H3 t (.own 5)++[.mark,Qk false none,.list false false 3 l]⟩ .norm ⟨[],[],H3 t (.own 7)++[.mark,Qk false none,.gone,.list true true 3 [w],.list false false 3 (l++[w])]⟩:=yG hX gJ (by kernel_rfl) (.o hl .xx);exact Ic hX (l:=4) rfl rfl (by kernel_rfl) q1 rfl q2 rfl
def EP(t:List (V×Int))(js:List Nat):LI0:=js.reverse.map fun j=>(Qj t j).2
theorem a4u(t:List (V×Int))(j:Nat)(js:List Nat):EP t (j::js)=EP t js++[(Qj t j).2]:=by simp[EP]
abbrev sWl(t:List (V×Int))(l:LI0)(js:List Nat):aU aG:=match l with
 | []=>⟨[(0,.val (.kW 4)),(6,.val (.iter 5))],[],H3 t (.nil .aQ)++[.mark,Qk true none,.dn 0 t.length js]⟩
 |x::l=>⟨[(0,.val (.kW 4)),(6,.val (.iter 5))],[],H3 t (.own 6)++[.mark,Qk true none,.dn 0 t.length js,.list false false 3 (x::l)]⟩
section
variable {n:Nat} {t:List (V×Int)}
set_option maxRecDepth 20000 in
theorem abA(h:Kq t):aK X0 Qp T (iE (n+1)) D5 LL 139 (Ce Qp 139) 5 (.block 0 (.loop lpW)) (sWl t [] [])
  fun e s=>e=.norm∧∃l seen,l.Perm (t.map (·.2))∧s={ sWl t l seen with env:=jl (T.iC 139 1) ((8,.val (.bool false))::(7,.val (.dI [.bool false]))::(sWl t l seen).env) }:=by
 have e1:lpW=.seq (.region 1 (a7m (eP lpW)) false) (.seq (.cond (.tmp 8) .skip (.exit 0)) (.block 1 xW)):=by kernel_rfl
 have hlen:=h.len;rw[e1];refine Pz hX (n:=t.length) (b:=5) (r:=0) (it:=6) (nx:=7) (mo:=8) (es:=kV.im t) (fun seen s=>seen.Nodup∧(∀j∈seen,j<t.length)∧∃gs,lK 5 gs (gW X0 (T.eX 139 (dS lpW)) s)=some (sWl t (EP t seen) seen)) (by kernel_rfl) (a88 (by kernel_rfl)) (a88 (by kernel_rfl)) (kV.pK t) (by unfold LL;omega)
  ⟨a6f,(fun j hj=>(by cases hj)),[],(by kernel_rfl)⟩ (fun seen s hi=>?_)
 obtain⟨jF,aT,gs,h3⟩:=hi;rw[<-e1];refine⟨gs,_,h3,?_,?_,?_,fun ho=>?_,fun j e hj he=>?_⟩
 .cases EP t seen<;>kernel_rfl
 .cases EP t seen<;>kernel_rfl
 .cases EP t seen<;>kernel_rfl
 .refine⟨?_,EP t seen,seen,?_,rfl⟩
  .cases EP t seen<;>kernel_rfl
  .have hp:(seen.reverse).Perm (List.range t.length):=(List.reverse_perm seen).trans ((a7B jF aej).2 fun j=>⟨fun h=>a4V.2 (aT j h),fun h=>ho j (a4V.1 h)⟩);unfold EP
   conv=>rhs;rw[agB t]
   rw[a5D];exact hp.map _
 .rw[kV.Bj,a09]at he;obtain⟨⟨v,w⟩,sF,rfl⟩:=he;obtain⟨q1,q2,q3⟩:=VI sF;have Gp:(j::seen).Nodup:=a4U.2 ⟨hj,jF⟩;have Gq:∀k∈j::seen,k<t.length:=fun k hk=>by
   rcases a1z.1 hk with rfl|hk
   .exact q2
   .exact aT k hk
  have hll:(EP t seen).length<=2000:=by
   have h2:seen.length<=t.length:=by have:=(JZ jF aT).length_eq;have h3:=a9C (fun j=>seen.contains j) (List.range t.length);rw[a8Q]at h3;omega
   have h1:(EP t seen).length=seen.length:=(by simp[EP]);omega
  have E5:=a4u t j seen;rw[q1]at E5;have E5:EP t (j::seen)=EP t seen++[w]:=E5;generalize EP t seen=l at E5 hll;cases l with
  |nil=>
   refine⟨by kernel_rfl,aK.step (e:=.norm) (by kernel_rfl) (zQ (ps1:=⟨[(0,.val (.kW 4)),(6,.val (.iter 5)),(14,xl false)],[],H3 t (.own 7)++[.mark,Qk true none,.dn 0 t.length (j::seen),.list true true 3 [w],.list true false 3 [w]]⟩) hX gJ (by kernel_rfl) (.c (.dI [.agg v.ps,.int .i64 w]) [] (Bv sF) (.fr [0,1,2,3,4] (aqz (n:=n) t w) (.b (rfl:(!true)=false) (.r rfl))))) ⟨.inl rfl,Gp,Gq,[.flag 7,.gc [5,7]],?_⟩⟩;rw[E5]
   kernel_rfl
  |cons x l=>
   have a1:(x::l).length+[w].length<=au:=by rw[a4n];unfold au;omega
   refine⟨by kernel_rfl,aK.step (e:=.norm) (by kernel_rfl) (zQ (ps1:=⟨[(0,.val (.kW 4)),(6,.val (.iter 5)),(14,xl false)],[],H3 t (.own 8)++[.mark,Qk true none,.dn 0 t.length (j::seen),.gone,.list true true 3 [w],.list false false 3 (x::l++[w])]⟩) hX gJ (by kernel_rfl) (.c (.dI [.agg v.ps,.int .i64 w]) [] (Bv sF) (.fr [0,1,2,3,4,6] (aqA (n:=n) t (x::l) w a1) (.b (rfl:(!true)=false) (.r rfl))))) ⟨.inl rfl,Gp,Gq,[.gc [5,8]],?_⟩⟩;rw[E5]
   kernel_rfl
end
open Go Tw Pv bQ
def sD(t:List (V×Int)):LI0:=zD (fun n=>[n]) (t.map fun e:V×Int=>e.2)
abbrev QU(n:Int):TV:=.int .i64 n
abbrev LW(n:Int):PV aG:=.int .i64 n
theorem a4v{t:List (V×Int)}{l:LI0}(h:l.Perm (t.map fun e:V×Int=>e.2)):RV (l.map QU)=(sD t).map QU:=by unfold RV;rw[Td (g:=QU) (key:=fun n=>[n]) (a7f:=RQ) (fun _=>rfl),Fq h fun a _ b _ e=>by simpa using e];rfl
theorem Kr:∀l:LI0,Uy (l.map LW)=some (l.map QU)
 | []=>rfl
 |a::l=>by
  have:=Kr l;show(match qo (LW a),Uy (l.map LW)with
   |some a,some b=>some (a::b)
   |_,_=>none)=_
  rw[this];rfl
section
variable {n:Nat} {t:List (V×Int)}
set_option maxRecDepth 20000 in
theorem alo(h:Kq t)(ht:t≠[]):aaC X0 Qp (vg Qp T (iE (n+1)) LL) vF [.kW 4] (H3 t (.nil .aQ)++[.mark,Qk true none]) fun v H1=>∃(l:LI0) (seen:List Nat),l.Perm (t.map fun e:V×Int=>e.2)∧H1=H3 t (.own 6)++[.mark,Qk true none,.dn 0 t.length seen,.list false false 3 l]:=by
 refine a1M (t:=Ti Qp 139) hX (by kernel_rfl) ?_;have e0:(Ti Qp 139).body=.seq (eP agF) (.block 0 (.loop lpW)):=by kernel_rfl
 rw[e0];have x0:dN X0 Qp T (iE (n+1)) LL 139 false (Ce Qp 139) 5 (eP agF) ⟨lC X0 0 [.kW 4,.ptr 1 0 1],[],H3 t (.nil .aQ)++[.mark,Qk true none]⟩ .norm ⟨[(0,.val (.kW 4)),(6,.val (.iter 5))],[],H3 t (.nil .aQ)++[.mark,Qk true none,.dn 0 (kV.im t).length []]⟩:=zQ hX gJ (an:=.n) (by kernel_rfl) (.r rfl);rw[kV.pK t]at x0;refine aK.Bq (by kernel_rfl) x0 ((abA (n:=n) h).mono fun e s h1=>?_);obtain⟨rfl,l,seen,h2,rfl⟩:=h1;cases l with
 |nil=>
  have:=h2.length_eq;rw[a4R]at this;exact absurd (a4I this.symm) ht
 |cons x l=>exact⟨.inl rfl,[],by kernel_rfl,x::l,seen,h2,rfl⟩
set_option maxRecDepth 20000 in
theorem abB(h:Kq t)(ht:t≠[]):iW (n+2) (.fn 138 [] []) [.nil .aQ,vF] [.iH (kV.im t),.aF [.map 0]] (.aQ 2 0 t.length t.length 1 false) [.iH (kV.im t),.aF [.map 0],.ni ((sD t).map LW)]:=by
 have e0:(Ti Qp 138).body=.seq (eP a8L) (.seq (.seq (eP (eP (eU a8L))) (.block 0 (.rangeFunc (.tmp 6) #[7] (xq Qp 138) (AV Qp 138)))) (eU (eU a8L))):=by kernel_rfl
 have x0:dN X0 Qp T (iE (n+1)) LL 138 false (Ce Qp 138) 2 (eP a8L) ⟨lC X0 0 [.nil .aQ,vF],[],[.iH (kV.im t),.aF [.map 0]]⟩ .norm ⟨[(1,.val vF),(2,.val (.ptr 2 0 1)),(4,.val (.nil .aQ))],[],H3 t (.nil .aQ)⟩:=zQ hX gJ (an:=.n) (by kernel_rfl) (.r rfl);have x1:dN X0 Qp T (iE (n+1)) LL 138 false (Ce Qp 138) 2 (eP (eP (eU a8L))) ⟨[(1,.val vF),(2,.val (.ptr 2 0 1)),(4,.val (.nil .aQ))],[],H3 t (.nil .aQ)⟩ .norm ⟨a8M,[],H3 t (.nil .aQ)⟩:=zQ hX gJ (an:=.n) (by kernel_rfl) (.r rfl);have:=Dw (X:=X0) (P:=Qp) (T:=T) (L:=LL) (n:=n+1) (f:=138) (first:=[]) (cap:=[]) (xs:=[.nil .aQ,vF]) (H:=[.iH (kV.im t),.aF [.map 0]]) (N:=[.ni ((sD t).map LW)]) (v:=.aQ 2 0 t.length t.length 1 false) (tv:=fun k=>.aQ k 0 t.length t.length 1 false) (tN:=[.ni ((sD t).map QU)]) (t:=Ti Qp 138) hX (by kernel_rfl) (by kernel_rfl) (by kernel_rfl) rfl (fun A m h hr=>aaE (H:=[.iH (kV.im t),.aF [.map 0]]) (n:=t.length) (sz:=1) (Kr _) hr) ?_
 .exact this
 rw[e0];refine aK.Bq (by kernel_rfl) x0 (aK.seq (R:=fun e s=>e=.norm∧∃(l:LI0) (seen:List Nat),l.Perm (t.map fun e:V×Int=>e.2)∧s=⟨a8M,[],H3 t (.own 6)++[.mark,Qk false (some .skip),.dn 0 t.length seen,.list false false 3 l]⟩) (aK.Bq (by kernel_rfl) x1 (aK.block ?_)) (fun s hs=>?_) (fun i s h=>by cases h.1) (fun s h=>by cases h.1))
 .refine aK.range (f1:=139) (a1:=[]) (b1:=[.ptr 1 0 1]) (K:=fun v H1=>∃(l:LI0) (seen:List Nat),l.Perm (t.map fun e:V×Int=>e.2)∧H1=H3 t (.own 6)++[.mark,Qk true none,.dn 0 t.length seen,.list false false 3 l]) hX rfl (by kernel_rfl) (by kernel_rfl) (alo (n:=n) h ht) (fun v H1 hk=>?_);obtain⟨l,seen,h1,rfl⟩:=hk;exact⟨true,_,_,_,_,_,_,none,.norm,rfl,rfl,rfl,l,seen,h1,rfl⟩
 obtain⟨_,l,seen,h1,rfl⟩:=hs;have hl:l≠[]:=fun e=>by subst e;have:=h1.length_eq;rw[a4R]at this;exact absurd (a4I this.symm) ht
 have hlen:t.length=l.length:=by rw[h1.length_eq,a4R]
 refine aK.step (by kernel_rfl) (zQ (e:=.ret) (ps1:=⟨[(4,.val (.own 6))],[],H3 t (.own 6)++[.mark,Qk false (some .skip),.dn 0 t.length seen,.list false false 3 l]⟩) hX gJ (an:=.n) (by kernel_rfl) (.r rfl)) ⟨.inr rfl,[.own 6],by kernel_rfl,?_⟩;rw[<-a4v h1,hlen];exact a7k hX (i:=6) (ty:=3) (l:=l) rfl hl (ED _) L6
end
def Ql:LI0->Int
 | []=>0
 |x::l=>l.foldl max x
theorem Yq:∀(l:LI0) (x:Int),(l.foldl max x=x∨l.foldl max x∈l)∧x<=l.foldl max x∧∀y∈l,y<=l.foldl max x
 | [],x=>⟨.inl rfl,a9u _,fun y hy=>by cases hy⟩
 |a::l,x=>by
  obtain⟨h1,h2,h3⟩:=Yq l (max x a);rw[adQ];have hm:max x a=x∨max x a=a:=by omega
  refine⟨?_,by omega,fun y hy=>?_⟩
  .rcases h1 with h1|h1
   .rcases hm with e|e
    .exact .inl (h1.trans e)
    rw[h1,e];exact .inr (by simp)
   exact .inr (by simp[h1])
  rcases a1z.1 hy with rfl|hy
  .omega
  exact h3 y hy
theorem Yr{l:LI0}(h:l≠[]):Ql l∈l∧∀y∈l,y<=Ql l:=by
 cases l with
 |nil=>exact absurd rfl h
 |cons x l=>
  obtain⟨h1,h2,h3⟩:=Yq l x;refine⟨?_,fun y hy=>?_⟩
  .rcases h1 with h1|h1
   .show l.foldl max x∈_;rw[h1];simp
   exact a3x _ h1
  rcases a1z.1 hy with rfl|hy
  .exact h2
  exact h3 y hy
theorem a4w{l l':LI0}(h:l.Perm l')(hl:l≠[]):Ql l=Ql l':=by
 have hl':l'≠[]:=fun e=>by subst e;exact hl h.eq_nil
 obtain⟨a1,a2⟩:=Yr hl;obtain⟨b1,b2⟩:=Yr hl';have:=a2 _ (h.mem_iff.2 b1);have:=b2 _ (h.mem_iff.1 a1);omega
open Go Tw Pv bQ
abbrev ApM(n:Nat):aZ:=lu Qp Tm (2^24) n
theorem okM{n:Nat}:jJ X0 Qp (ApM n) aav:=fun _ _ _ _ _ h _=>by cases h
def gMx(l:LI0)(k:Nat)(m:Int):Int:=if l.getD (i64.wrap ((k:Int)+1)).toNat 0>m then l.getD (i64.wrap ((k:Int)+1)).toNat 0 else m
theorem a2w{x:Int}{r:LI0}(h:r.length<=au):∀k,k<=r.length->aO (gMx (x::r)) k 0 x=(r.take k).foldl max x
 | 0,_=>rfl
 |k+1,hk=>by
  rw[tX,a2w h k (by omega)];unfold gMx;rw[a3T,yF (by omega),a5g];have e:(x::r).getD (k+1) 0=r[k]'(by omega):=by simp[List.getD,a0d (show k<r.length by omega)]
  rw[e,a8s (by omega),List.foldl_append];simp only[adQ,List.foldl_nil];omega
abbrev wMx(l:LI0)(m i:Int)(x:List (Nat×PE aG)):aU aG:=⟨[(0,xL 3 l),(3,xi m),(4,xi (i64.wrap (i+1)))]++x,[],[]⟩
set_option maxRecDepth 20000 in
theorem alq{l:LI0}(h0:l≠[])(hl:l.length<=2000):dG X0 Qp (ApM 2) (.fn 94 [] []) [.dJ 3 l false] [] (.int .i64 (Ql l)) []:=by
 cases l with
 |nil=>exact absurd rfl h0
 |cons x r=>
  have hr:r.length<=au:=by have:(x::r).length=r.length+1:=rfl;unfold au;omega
  have lp:dN X0 Qp Tm (ApM 1) LL 94 false (Ce Qp 94) 0 (.loop (SI Qp 94 0)) ⟨[(0,xL 3 (x::r)),(3,xi x),(4,xi 1)],[],[]⟩ (.exit 0) (wMx (x::r) (aO (gMx (x::r)) r.length 0 x) r.length [(15,xl false)]):=by
   refine P9 (X:=X0) (N:=r.length) (g:=gMx (x::r)) (s0:=x) (st:=fun i m=>wMx (x::r) m i []) (fin:=fun m=>wMx (x::r) m r.length [(15,xl false)]) (fun _ _=>True) (by kernel_rfl) hr Tq trivial (fun _ _ _ _=>trivial) (fun k m hk _ n e p g9=>?_) (fun m _=>?_)
   .have e1:i64.wrap ((k:Int)+1)=((k+1:Nat):Int):=yF (by omega);have t1:decide (i64.wrap ((k:Int)+1)<((x::r).length:Int))=true:=by rw[e1,a0S,a4M];omega
    have i1:fK (i64.wrap ((k:Int)+1)) (x::r).length:=by rw[e1];exact aH (by rw[a4M];omega)
    exact round hX okM (by kernel_rfl) (.b t1 (.o i1 (.go g9)))
   have e1:i64.wrap ((r.length:Int)+1)=((r.length+1:Nat):Int):=yF (by omega);have t1:decide (i64.wrap ((r.length:Int)+1)<((x::r).length:Int))=false:=by rw[e1,a3b,a4M];omega
   exact round hX okM (by kernel_rfl) (.b t1 .ex)
  have e:aO (gMx (x::r)) r.length 0 x=Ql (x::r):=by rw[a2w hr _ (a0K _),adw];rfl
  rw[e]at lp;have hc:((x::r).length:Int)=r.length+1:=by simp
  have t0:decide (((x::r).length:Int)<1)=false:=by rw[a3b,hc];omega
  have i0:fK 0 (x::r).length:=⟨by decide,by rw[hc];omega⟩;exact nD hX okM (first:=[]) (cap:=[]) (by kernel_rfl) (.b t0 (.o i0 (.w lp .er)))
theorem abC(n:Nat)(x:TV)(h:List HB):lu Qp T LL (n+1) (.fn 94 [] []) [x] h=a3C 94 (ApM 2) (.fn 94 [] []) [x] h:=rfl
theorem alr{n:Nat}{vs:LI0}(h0:vs≠[])(hl:vs.length<=2000):iW (n+1) (.fn 94 [] []) [.aQ 0 0 vs.length vs.length 1 false] [.ni (vs.map LW)] (.int .i64 (Ql vs)) [.ni (vs.map LW)]:=by
 intro A m h tf rM hr hf hx;obtain⟨x,r,rfl,h1,h2⟩:=hx.inv;have:=h2.inv0;subst this;have htf:=hf.V4;subst htf;obtain⟨mb,g1,g2⟩:=hr.at_ 0 _ rfl;cases mb with
 |gG c=>
  obtain⟨ts,g3,g4⟩:=g2;have g5:=g4.symm.trans (Kr vs);cases g5;have hx2:x=.aQ c 0 vs.length vs.length 1 false:=by
   cases h1 with
   |aQ e=>rw[g1]at e;cases e;rfl
   |gone hi e _=>simp only[bC,a07]at hi;subst hi;rw[g1]at e;cases e
  subst hx2;have G9:c∈bn m:=bf g1 rfl;have aT:=(a08.1 g3).1;show ∃w h1 ws m1,lu Qp T LL (n+1) _ _ h=_∧_;rw[abC,aaB (k:=.i64) (n:=Ql vs)]
  .exact⟨_,h,[],m,rfl,hr,.int _ _,.refl,.refl,fun b hb=>by cases hb⟩
  .refine⟨⟨_,_,rfl⟩,rfl,fun h' hu=>?_⟩;obtain⟨cs',p1,p2⟩:=hu.2 c _ g3;obtain⟨l,hp,rfl⟩:∃l:LI0,l.Perm vs∧cs'=l.map QU:=by
    have hq:∀y∈cs',∃i:Int,y=QU i:=fun y hy=>by obtain⟨i,_,rfl⟩:=a0P.1 (p1.mem_iff.1 hy);exact⟨i,rfl⟩
    have hun:∀L:List TV,(∀y∈L,∃i:Int,y=QU i)->∃l:LI0,L=l.map QU:=by
     intro L
     induction L with
     |nil=>exact fun _=>⟨[],rfl⟩
     |cons y L ih=>
      intro hL;obtain⟨i,rfl⟩:=hL y (by simp);obtain⟨l,rfl⟩:=ih fun z hz=>hL z (by simp[hz]);exact⟨i::l,rfl⟩
    obtain⟨l,rfl⟩:=hun cs' hq;refine⟨l,?_,rfl⟩;have:=p1.map fun y=>match y with|.int _ n=>n|_=>0
    rw[a5D,a5D]at this;simpa[Function.comp_def]using this
   have hlen:l.length=vs.length:=hp.length_eq;have qN:l≠[]:=fun e=>by subst e;exact h0 (a4I hlen.symm)
   have als:h'.length=h.length:=by
    have e:=fun b=>SV hu b;refine Nat.le_antisymm (acE fun hb=>?_) (acE fun hb=>?_)
    .have:=e h.length;rw[a0d hb,a4J (a0K _)]at this;cases this
    have:=e h'.length;rw[a0d hb,a4J (a0K _)]at this;cases this
   have hm:=alq qN (by omega);have YW:Pv.VR X0 Qp (AA A []) [] h' (.dJ 3 l false) (.aQ c 0 vs.length vs.length 1 false):=by
    rw[<-hlen];refine Pv.VR.dJ (cs:=l.map QU) ⟨hr.Dc c G9,by simp[bn]⟩ (by simp only[aW,p2]) (fun _=>by simp[mG,p2]) L6 (by decide) (by simp;exact a0K _) (a0K _) (by intro h;cases h) ?_ ?_
    .intro j a _;rfl
    have hrw:=TD (A:=AA A []) (m:=[]) (h:=h') l;intro j a i c v a1 a2 a3;exact hrw.2.2 j a i c v a1 a2 a3
   obtain⟨w,h2,ws,m1,c1,c2,c3,c4,c5,c6⟩:=hm A [] h' (.fn 94 [] []) [.aQ c 0 vs.length vs.length 1 false] ⟨rfl,fun i b hi=>by simp at hi,by simp[bn],fun b hb=>hr.up b (by rw[<-als];exact hb),fun b hb=>by simp[bn]at hb⟩ (.fn rfl (fun i x y hi=>by simp at hi) rfl (fun i x y hi=>by simp at hi)) (.cons YW .nil)
   .have hw:w=.int .i64 (Ql vs):=by rw[<-a4w hp qN];exact c3.a1H
    subst hw;have YR:ws=[]:=a7x.2 fun b hb=>by have:=c6 b hb;simp[bn]at this
    subst YR;exact⟨h2,c1⟩
  obtain⟨h',hu⟩:∃h',Pm h h':=⟨_,Xw h (fun b=>match h[b]? with|some (.ni cs)=>cs|_=>[]) fun b cs e=>by rw[e]⟩;exact⟨h',hu⟩
 |_=>exact g2.elim
open Go Tw Pv bQ
theorem alu{n:Nat}(hO:Ok n su){k:Int}(hk:0<=k∧k<=6):iW (n+1) (.fn 124 [] []) [.own 0,.int .i64 k] [.list true true 3 ([-1]:LI0)] (.own 1) [.list true true 3 ([-1]:LI0),.list true true 3 (List.replicate k.toNat (-1):LI0)]:=by
 rcases a8n hk with rfl|rfl|rfl|rfl|rfl|rfl|rfl
 .exact fH hO (first:=[]) (cap:=[]) (.b (rfl:decide ((0:Int)<0)=false) (.o (rfl:(1:Int)=1) (.o (⟨by decide,by decide⟩:(0:Int)<=0∧(0:Int)<=6) (.b (rfl:decide ((0:Int)>0)=false) (.b (rfl:decide ((0:Int)>9223372036854775807)=false) (.o (rfl:(0:Int)=0) (.o (show(0:Int)<=0 by decide) (.o (show(0:Int)<=(au:Int) by decide) (.m 8 le8 (.b (rfl:decide ((0:Int)<0)=false) .er))))))))))
 .exact fH hO (first:=[]) (cap:=[]) (.b (rfl:decide ((1:Int)<0)=false) (.o (rfl:(1:Int)=1) (.o (⟨by decide,by decide⟩:(0:Int)<=1∧(1:Int)<=6) (.b (rfl:decide ((0:Int)>0)=false) (.b (rfl:decide ((1:Int)>9223372036854775807)=false) (.o (rfl:(1:Int)=1) (.o (show(0:Int)<=1 by decide) (.o (show(1:Int)<=(au:Int) by decide) (.m 8 le8 (.b (rfl:decide ((1:Int)<1)=false) .er))))))))))
 .exact fH hO (first:=[]) (cap:=[]) (.b (rfl:decide ((2:Int)<0)=false) (.o (rfl:(1:Int)=1) (.o (⟨by decide,by decide⟩:(0:Int)<=2∧(2:Int)<=6) (.b (rfl:decide ((0:Int)>0)=false) (.b (rfl:decide ((2:Int)>9223372036854775807)=false) (.o (rfl:(2:Int)=2) (.o (show(0:Int)<=2 by decide) (.o (show(2:Int)<=(au:Int) by decide) (.m 8 le8 (.b (rfl:decide ((1:Int)<2)=true) (.o (show(0:Int)<=1 by decide) (.o (show(1:Int)<=2 by decide) (.o (show(2:Int)<=2 by decide) (.o (show(0:Int)<=0 by decide) (.o (show(0:Int)<=1 by decide) (.o (show(1:Int)<=2 by decide) (.b (rfl:decide ((2:Int)<2)=false) .er)))))))))))))))))
 .exact fH hO (first:=[]) (cap:=[]) (.b (rfl:decide ((3:Int)<0)=false) (.o (rfl:(1:Int)=1) (.o (⟨by decide,by decide⟩:(0:Int)<=3∧(3:Int)<=6) (.b (rfl:decide ((0:Int)>0)=false) (.b (rfl:decide ((3:Int)>9223372036854775807)=false) (.o (rfl:(3:Int)=3) (.o (show(0:Int)<=3 by decide) (.o (show(3:Int)<=(au:Int) by decide) (.m 8 le8 (.b (rfl:decide ((1:Int)<3)=true) (.o (show(0:Int)<=1 by decide) (.o (show(1:Int)<=3 by decide) (.o (show(3:Int)<=3 by decide) (.o (show(0:Int)<=0 by decide) (.o (show(0:Int)<=1 by decide) (.o (show(1:Int)<=3 by decide) (.b (rfl:decide ((2:Int)<3)=true) (.o (show(0:Int)<=2 by decide) (.o (show(2:Int)<=3 by decide) (.o (show(3:Int)<=3 by decide) (.o (show(0:Int)<=0 by decide) (.o (show(0:Int)<=2 by decide) (.o (show(2:Int)<=3 by decide) (.b (rfl:decide ((3:Int)<3)=false) .er))))))))))))))))))))))))
 .exact fH hO (first:=[]) (cap:=[]) (.b (rfl:decide ((4:Int)<0)=false) (.o (rfl:(1:Int)=1) (.o (⟨by decide,by decide⟩:(0:Int)<=4∧(4:Int)<=6) (.b (rfl:decide ((0:Int)>0)=false) (.b (rfl:decide ((4:Int)>9223372036854775807)=false) (.o (rfl:(4:Int)=4) (.o (show(0:Int)<=4 by decide) (.o (show(4:Int)<=(au:Int) by decide) (.m 8 le8 (.b (rfl:decide ((1:Int)<4)=true) (.o (show(0:Int)<=1 by decide) (.o (show(1:Int)<=4 by decide) (.o (show(4:Int)<=4 by decide) (.o (show(0:Int)<=0 by decide) (.o (show(0:Int)<=1 by decide) (.o (show(1:Int)<=4 by decide) (.b (rfl:decide ((2:Int)<4)=true) (.o (show(0:Int)<=2 by decide) (.o (show(2:Int)<=4 by decide) (.o (show(4:Int)<=4 by decide) (.o (show(0:Int)<=0 by decide) (.o (show(0:Int)<=2 by decide) (.o (show(2:Int)<=4 by decide) (.b (rfl:decide ((4:Int)<4)=false) .er))))))))))))))))))))))))
 .exact fH hO (first:=[]) (cap:=[]) (.b (rfl:decide ((5:Int)<0)=false) (.o (rfl:(1:Int)=1) (.o (⟨by decide,by decide⟩:(0:Int)<=5∧(5:Int)<=6) (.b (rfl:decide ((0:Int)>0)=false) (.b (rfl:decide ((5:Int)>9223372036854775807)=false) (.o (rfl:(5:Int)=5) (.o (show(0:Int)<=5 by decide) (.o (show(5:Int)<=(au:Int) by decide) (.m 8 le8 (.b (rfl:decide ((1:Int)<5)=true) (.o (show(0:Int)<=1 by decide) (.o (show(1:Int)<=5 by decide) (.o (show(5:Int)<=5 by decide) (.o (show(0:Int)<=0 by decide) (.o (show(0:Int)<=1 by decide) (.o (show(1:Int)<=5 by decide) (.b (rfl:decide ((2:Int)<5)=true) (.o (show(0:Int)<=2 by decide) (.o (show(2:Int)<=5 by decide) (.o (show(5:Int)<=5 by decide) (.o (show(0:Int)<=0 by decide) (.o (show(0:Int)<=2 by decide) (.o (show(2:Int)<=5 by decide) (.b (rfl:decide ((4:Int)<5)=true) (.o (show(0:Int)<=4 by decide) (.o (show(4:Int)<=5 by decide) (.o (show(5:Int)<=5 by decide) (.o (show(0:Int)<=0 by decide) (.o (show(0:Int)<=4 by decide) (.o (show(4:Int)<=5 by decide) (.b (rfl:decide ((5:Int)<5)=false) .er)))))))))))))))))))))))))))))))
 exact fH hO (first:=[]) (cap:=[]) (.b (rfl:decide ((6:Int)<0)=false) (.o (rfl:(1:Int)=1) (.o (⟨by decide,by decide⟩:(0:Int)<=6∧(6:Int)<=6) (.b (rfl:decide ((0:Int)>0)=false) (.b (rfl:decide ((6:Int)>9223372036854775807)=false) (.o (rfl:(6:Int)=6) (.o (show(0:Int)<=6 by decide) (.o (show(6:Int)<=(au:Int) by decide) (.m 8 le8 (.b (rfl:decide ((1:Int)<6)=true) (.o (show(0:Int)<=1 by decide) (.o (show(1:Int)<=6 by decide) (.o (show(6:Int)<=6 by decide) (.o (show(0:Int)<=0 by decide) (.o (show(0:Int)<=1 by decide) (.o (show(1:Int)<=6 by decide) (.b (rfl:decide ((2:Int)<6)=true) (.o (show(0:Int)<=2 by decide) (.o (show(2:Int)<=6 by decide) (.o (show(6:Int)<=6 by decide) (.o (show(0:Int)<=0 by decide) (.o (show(0:Int)<=2 by decide) (.o (show(2:Int)<=6 by decide) (.b (rfl:decide ((4:Int)<6)=true) (.o (show(0:Int)<=4 by decide) (.o (show(4:Int)<=6 by decide) (.o (show(6:Int)<=6 by decide) (.o (show(0:Int)<=0 by decide) (.o (show(0:Int)<=4 by decide) (.o (show(4:Int)<=6 by decide) (.b (rfl:decide ((6:Int)<6)=false) .er)))))))))))))))))))))))))))))))
def dW(D:List Dg):Jb:=⟨(D.getD 0 nO).ah,(D.getD 0 nO).aB,D,List.replicate (D.getD 0 nO).ah.length (-1)⟩
theorem alv{n f:Nat}(hO:Ok (n+1) su)(BZ:Ok n su){D:List Dg}(h0:0<D.length)(h6:(D.getD 0 nO).ah.length<=6){k ex:Bool}:iW (n+2) (.fn 78 [] []) [.fn f [] [],.own 0] [.list k ex 26 D] (.agg [lI (dW D).s,lI (dW D).o,.own 0,.own 1,.fn f [] []]) [.list k ex 26 D,.list true true 3 (dW D).g]:=by have i0:fK 0 D.length:=aH h0;have hs:=alu BZ (k:=((D.getD 0 nO).ah.length:Int)) ⟨by omega,by omega⟩;rw[a5g]at hs;have h:iW (n+2) (.fn 78 [] []) [.fn f [] [],.own 0] [.list k ex 26 D] (.agg [lI (dW D).s,lI (dW D).o,.own 0,.own 2,.fn f [] []]) [.list k ex 26 D,.list true true 3 ([-1]:LI0),.list true true 3 (dW D).g]:=fH hO (first:=[]) (cap:=[]) (.o i0 (.o i0 (.o i0 (.fr [1] hs .er))));exact dG.gs hX h [.gc [2]] rfl
theorem alx{n f:Nat}(u:Int)(hO:Ok (n+1) su)(BZ:Ok n su){D:List Dg}(h0:0<D.length)(h6:(D.getD 0 nO).ah.length<=6){k ex:Bool}:iW (n+2) (.fn 78 [] []) [.fn f [] [.ptr 1 0 1],.own 0] [.list k ex 26 D,.aF [.int .u8 u]] (.agg [lI (dW D).s,lI (dW D).o,.own 0,.own 2,.fn f [] [.ptr 1 0 1]]) [.list k ex 26 D,.aF [.int .u8 u],.list true true 3 (dW D).g]:=by have i0:fK 0 D.length:=aH h0;have hs:=alu BZ (k:=((D.getD 0 nO).ah.length:Int)) ⟨by omega,by omega⟩;rw[a5g]at hs;have h:iW (n+2) (.fn 78 [] []) [.fn f [] [.ptr 1 0 1],.own 0] [.list k ex 26 D,.aF [.int .u8 u]] (.agg [lI (dW D).s,lI (dW D).o,.own 0,.own 3,.fn f [] [.ptr 1 0 1]]) [.list k ex 26 D,.aF [.int .u8 u],.list true true 3 ([-1]:LI0),.list true true 3 (dW D).g]:=fH hO (first:=[]) (cap:=[]) (.o i0 (.o i0 (.o i0 (.fr [2] hs .er))));exact dG.gs hX h [.gc [3]] rfl
theorem aqD{n f:Nat}{J:Jb}{d:Dg}{k ex k2 LX:Bool}(h:iW n (.fn 80 [] []) [.agg (J.ps (.fn f [] []))] [] (dA.put d) []):iW n (.fn 80 [] []) [.agg [lI J.s,lI J.o,.own 0,.own 1,.fn f [] []]] [.list k ex 26 J.D,.list k2 LX 3 J.g] (dA.put d) [.gone,.gone]:=by have h1:=dG.frame hX (ks:=[]) (H':=[.gone,.gone]) (Hp:=[]) (QH:=[]) (v':=dA.put d) (fv':=.fn 80 [] []) (xs':=[.agg (J.ps (.fn f [] []))]) h (by decide) rfl rfl rfl rfl rfl rfl rfl;exact dG.fz hX (H:=[.list k ex 26 J.D,.list k2 LX 3 J.g]) (cs:=[lI J.s,lI J.o,.own 0,.own 1]) (rest:=[.fn f [] []]) [0,1] h1 rfl (fun i hi=>by simpa[l7.kH,l7]using hi)
theorem aqE{n f:Nat}{u:Int}{J:Jb}{d:Dg}{k ex k2 LX:Bool}(h:iW n (.fn 80 [] []) [.agg (J.ps (.fn f [] [.ptr 0 0 1]))] [.aF [.int .u8 u]] (dA.put d) [.aF [.int .u8 u]]):iW n (.fn 80 [] []) [.agg [lI J.s,lI J.o,.own 0,.own 2,.fn f [] [.ptr 1 0 1]]] [.list k ex 26 J.D,.aF [.int .u8 u],.list k2 LX 3 J.g] (dA.put d) [.gone,.aF [.int .u8 u],.gone]:=by have h1:=dG.frame hX (ks:=[1]) (H':=[.gone,.aF [.int .u8 u],.gone]) (Hp:=[.aF [.int .u8 u]]) (QH:=[.aF [.int .u8 u]]) (v':=dA.put d) (fv':=.fn 80 [] []) (xs':=[.agg (J.ps (.fn f [] [.ptr 1 0 1]))]) h (by decide) rfl rfl rfl rfl rfl rfl rfl;exact dG.fz hX (H:=[.list k ex 26 J.D,.aF [.int .u8 u],.list k2 LX 3 J.g]) (cs:=[lI J.s,lI J.o,.own 0,.own 2]) (rest:=[.fn f [] [.ptr 1 0 1]]) [0,2] h1 rfl (fun i hi=>by simpa[l7.kH,l7]using hi)
open Go Tw Pv bQ
structure DgG(d:Dg):Prop where
 t:C9 d
 n:d.aj.length<=6000
 ord:kE d.ah.length d.aB=true
 rk:∀i,i<d.aj.length->∀k,k<(fD d i).aA.length->d.aB.idxOf (fD d i).var+1<=EM d.aB d.aj ((fD d i).aA.getD k 0)
 two:∀i,i<d.aj.length->2<=(fD d i).aA.length
 c:∀v∈d.aJ,Fv v
 dd:DgD d
 l0:aX d=0
theorem VJ{d:Dg}(hp:qG d)(h:kP d=0):DgG d:=by
 have h0:aX d=0∧o9 d=true:=by
  unfold kP at h;split at h
  .rename_i c;rw[h]at c;cases c
  rename_i c;split at h
  .cases h
  rename_i c2;exact⟨by simpa using c,by simpa using c2⟩
 have ho:d.aB.length<=au:=by have:=hp.o;unfold au;omega
 have he:d.aJ.length<=au:=by have:=hp.e;omega
 obtain⟨t,n⟩:=iF ho he (by rw[h0.1];rfl);obtain⟨D,_⟩:=Y5.1 h0.2;have hf:bV d.ah d.aB=0∧lW d=true:=by
  have hl:=h0.1;unfold aX at hl;split at hl
  .rename_i c;rw[hl]at c;cases c
  rename_i c;split at hl
  .cases hl
  split at hl
  .cases hl
  rename_i _ c2;exact⟨by simpa using c,by simpa using c2⟩
 obtain⟨bY,ord⟩:=jT.1 hf.1;refine⟨t,n,ord,Yd h0.1,fun i hi=>?_,fun v hv=>?_,D,h0.1⟩
 .have:=D.flat i hi;rcases hk:(fD d i).aA with _|⟨a,_|⟨b,r⟩⟩
  .rw[hk]at this;simp at this
  .rw[hk]at this;simp at this
  simp
 refine⟨?_,hp.r.fault v hv⟩;have hl:=hf.2;unfold lW at hl;obtain⟨k,hk,e⟩:=aaV hv;have hs:kR (bM (cLe d) d.aJ.length)=true:=by revert hl;cases kR (bM (cLe d) d.aJ.length)<;>simp
 have:=dQ.1 hs k hk;unfold cLe at this;rw[a2R,a0d hk]at this;simpa[e]using this
theorem a0q{l:List Dg}(hp:∀d∈l,qG d)(h:bH l=0):∀d∈l,DgG d∧d.ah=(l.getD 0 nO).ah∧d.aB=(l.getD 0 nO).aB:=by
 intro d hd;unfold bH at h;split at h
 .rename_i c;split at h
  .cases h
  rename_i c2;simp only[aho,ae0,a5a]at c2;have e:=c2 d hd;unfold Ir at e;split at e
  .rename_i e1;refine⟨VJ (hp d hd) ?_,by simpa using e1,by simpa using e⟩;obtain⟨k,hk,e9⟩:=aaV hd;have:=dQ.1 c k hk;unfold cCk at this;rw[a2R,a0d hk,a5q,e9]at this;have h9:=hp d hd;rw[Y7 h9.r h9.s (by have:=h9.o;unfold au;omega) h9.e]at this;simpa using this
  cases e
 rename_i c;obtain⟨j,_,e,_,e2⟩:=Nc (by simpa using c);rw[e2]at h;unfold cCk at e;have h':(vZ (l.getD j nO)).2=0:=h;rw[h']at e;cases e
theorem ae2{D:List Dg}(h3:D.length<=3)(h0:0<D.length)(h1:∀d∈D,DgG d∧d.ah=(D.getD 0 nO).ah∧d.aB=(D.getD 0 nO).aB):jW (dW D):=by
 have Ri:D.getD 0 nO∈D:=fC h0;obtain⟨g0,_,_⟩:=h1 _ Ri;refine⟨h3,g0.t.bY,g0.ord,fun k hk=>?_,a6B,fun c hc hg=>?_⟩
 .obtain⟨g,e1,e2⟩:=h1 (l9 D k) (fC hk);exact⟨g.t,g.n,e1,e2,g.rk,g.two⟩
 exfalso;revert hg;show ¬(0<=(List.replicate (D.getD 0 nO).ah.length (-1:Int)).getD c.toNat 0);have:=hc.1;have:=hc.2;rw[a2R,aay,a0A (show c.toNat<(D.getD 0 nO).ah.length by have:c<((D.getD 0 nO).ah.length:Int):=hc.2;omega)];decide
theorem yX{D:List Dg}(h3:D.length<=3)(h0:0<D.length)(hp:∀d∈D,qG d)(h:bH D=0):jW (dW D):=ae2 h3 h0 (a0q hp h)
open Go Tw Pv bQ
theorem IC{J:Jb}(hJ:jW J)(hc:∀k,k<J.D.length->∀v∈(l9 J.D k).aJ,Fv v){op:List V->V}(h:∀l:List V,l.length=J.D.length->(∀v∈l,Fv v)->Fv (op l)):sO J op:=fun t hd=>h _ (by simp[aV]) fun v hv=>by
 unfold aV at hv;obtain⟨k,hk,rfl⟩:=a0P.1 hv;have hk:=a4V.1 hk;have h3:(jI (t.get k)).toNat<(l9 J.D k).aJ.length:=by obtain⟨h1,h2⟩:=(JR hJ hd hk).2;omega
 exact hc k hk _ (fC h3)
theorem Jb.inD{D:List Dg}(hp:∀d∈D,qG d)(h:bH D=0):∀k,k<D.length->∀v∈(l9 D k).aJ,Fv v:=fun k hk=>(a0q hp h _ (fC hk)).1.c
theorem Kt{n f:Nat}(h2:2<=n)(hO:∀m,n-2<=m->Ok m su){D:List Dg}(h0:0<D.length)(h6:(D.getD 0 nO).ah.length<=6){k ex:Bool}:iW n (.fn 78 [] []) [.fn f [] [],.own 0] [.list k ex 26 D] (.agg [lI (dW D).s,lI (dW D).o,.own 0,.own 1,.fn f [] []]) [.list k ex 26 D,.list true true 3 (dW D).g]:=by
 have h:=alv (n:=n-2) (f:=f) (hO _ (by omega)) (hO _ (by omega)) h0 h6 (k:=k) (ex:=ex)
 rwa [show n-2+2=n by omega]at h
theorem agG{n f:Nat}(u:Int)(h2:2<=n)(hO:∀m,n-2<=m->Ok m su){D:List Dg}(h0:0<D.length)(h6:(D.getD 0 nO).ah.length<=6){k ex:Bool}:iW n (.fn 78 [] []) [.fn f [] [.ptr 1 0 1],.own 0] [.list k ex 26 D,.aF [.int .u8 u]] (.agg [lI (dW D).s,lI (dW D).o,.own 0,.own 2,.fn f [] [.ptr 1 0 1]]) [.list k ex 26 D,.aF [.int .u8 u],.list true true 3 (dW D).g]:=by
 have h:=alx (n:=n-2) (f:=f) u (hO _ (by omega)) (hO _ (by omega)) h0 h6 (k:=k) (ex:=ex)
 rwa [show n-2+2=n by omega]at h
theorem a8N{n f:Nat}{J:Jb}(hJ:jW J){op:List V->V}(kD:sO J op)(h2:20<=n)(hO:∀m,n-20<=m->Ok m Iu)(hs:∀m,n-20<=m->∀l:List V,l.length=J.D.length->dG X0 Qp (iE m) (.fn f [] []) [lV l] [] (.agg (op l).ps) []){k ex k2 LX:Bool}:iW n (.fn 80 [] []) [.agg [lI J.s,lI J.o,.own 0,.own 1,.fn f [] []]] [.list k ex 26 J.D,.list k2 LX 3 J.g] (dA.put (EO J op)) [.gone,.gone]:=by have h6:=(jW.o2 hJ).2.1;have h7:=hJ.bY.len;have h:=agu (N:=n-20) hJ kD hs hO (m:=n-1) (by omega);rw[show n-1+1=n by omega]at h;exact aqD h
theorem alz{n f:Nat}(u:Int){J:Jb}(hJ:jW J){op:List V->V}(kD:sO J op)(h2:20<=n)(hO:∀m,n-20<=m->Ok m Iu)(hs:∀m,n-20<=m->∀l:List V,l.length=J.D.length->dG X0 Qp (iE m) (.fn f [] [.ptr 0 0 1]) [lV l] [.aF [.int .u8 u]] (.agg (op l).ps) [.aF [.int .u8 u]]){k ex k2 LX:Bool}:iW n (.fn 80 [] []) [.agg [lI J.s,lI J.o,.own 0,.own 2,.fn f [] [.ptr 1 0 1]]] [.list k ex 26 J.D,.aF [.int .u8 u],.list k2 LX 3 J.g] (dA.put (EO J op)) [.gone,.aF [.int .u8 u],.gone]:=by have h6:=(jW.o2 hJ).2.1;have h7:=hJ.bY.len;have h:=agv (N:=n-20) u hJ kD hs hO (m:=n-1) (by omega);rw[show n-1+1=n by omega]at h;exact aqE h
abbrev Gw(a b x:Int):Bool:=if decide (x>=a)=true then decide (x<=b)else false
theorem a8O{k:Nat}{x:Int}(h:(!(Gw 0 (i64.wrap ((k:Int)-1)) x))=false)(hk:k<=au):fK x k:=by
 rw[wrap_small (by unfold au at hk;omega) (by unfold au at hk;omega)]at h;unfold Gw at h;by_cases h1:x>=0
 .simp[h1]at h;exact⟨h1,by omega⟩
 simp[h1]at h
theorem abD{z x:Int}(h:(!(Gw 0 (i64.wrap (z-1)) x))=false)(h0:0<=z)(h1:z<=12):0<=x∧x<z:=by
 rw[wrap_small (by omega) (by omega)]at h;unfold Gw at h;by_cases h1:x>=0
 .simp[h1]at h;exact⟨h1,by omega⟩
 simp[h1]at h
def a0r(d:Dg)(c g:Int):Jb:=⟨d.ah,d.aB,[d],(dW [d]).g.set c.toNat g⟩
abbrev op0(l:List V):V:=l.getD 0 V0
theorem a2x{d:Dg}(hp:qG d)(h:bH [d]=0){c g:Int}(hc:fK c d.ah.length)(hg:0<=g∧g<d.ah.getD c.toNat 0):jW (a0r d c g):=by
 have hJ:=yX (D:=[d]) (by simp) (by simp) (fun x hx=>by rw[a2O.1 hx];exact hp) h;refine⟨hJ.d3,hJ.bY,hJ.ord,fun k hk=>have h:=hJ.dg k hk;⟨h.t,h.n,h.s,h.o,h.rk,h.two⟩,?_,fun c2 KG h2=>?_⟩
 .show((dW [d]).g.set c.toNat g).length=_;rw[a4S];exact hJ.gl
 have hl:(dW [d]).g.length=d.ah.length:=hJ.gl;have a0:=hc.1;have a1:=hc.2;have b0:=KG.1;have b1:c2<(d.ah.length:Int):=KG.2
 change 0<=((dW [d]).g.set c.toNat g).getD c2.toNat 0 at h2
 show((dW [d]).g.set c.toNat g).getD c2.toNat 0<d.ah.getD c2.toNat 0;by_cases e:c.toNat=c2.toNat
 .rw[<-e,a2R,a1y (by omega)];exact hg.2
 rw[a2R,a0R e,<-a2R]at h2 ⊢;exact hJ.gv c2 KG h2
theorem alA{m:Nat}(hO:Ok m su){l:List V}(h:0<l.length):dG X0 Qp (iE m) (.fn 79 [] []) [lV l] [] (.agg (op0 l).ps) []:=pR.a4h hX (first:=[]) (cap:=[]) (hO 79 [lV l] (vA.put (op0 l)) [] [0<l.length] (by kernel_rfl) (fun p h9=>by rw[a2O.1 h9];exact h)) rfl rfl rfl rfl
def iZ(p:Dg×Int×Int):Dg×Int:=if(bH [p.1] != 0)=true then(nO,bH [p.1])else if(!(Gw 0 (i64.wrap ((p.1.ah.length:Int)-1)) p.2.1))=true then(nO,3)else if(!(Gw 0 (i64.wrap (p.1.ah.getD p.2.1.toNat 0-1)) p.2.2))=true then(nO,3)else(EO (a0r p.1 p.2.1 p.2.2) op0,0)
def alB:fF aG:=dw 20 (a3 dA iA iA) (dU (a2 dA iA)) iZ (fun p=>[qG p.1]) su
theorem a4x:(1:Nat)<=au:=by unfold au;omega
theorem aqF:Gd alB:=Good.Xo 24 La Yf fun n hn hO IX p hp=>by
 have h1:qG p.1:=hp _ iD;have h2:∀d∈[p.1],qG d:=fun x hx=>by rw[a2O.1 hx];exact h1
 have h3:0<[p.1].length∧[p.1].length<=au:=⟨by simp,a4x⟩;obtain⟨d,c,g⟩:=p;show pR X0 Qp _ _ _ ((dU (a2 dA iA)).put (iZ (d,c,g))) _;unfold iZ;have hJ:(bH [d] != 0)=false->jW (dW [d]):=fun e1=>yX (D:=[d]) (by simp) (by simp) h2 (by simpa using e1);have hc:(bH [d] != 0)=false->(!(Gw 0 (i64.wrap ((d.ah.length:Int)-1)) c))=false->fK c d.ah.length:=fun _ e2=>a8O e2 h1.s;have s1:=fun(e1:(bH [d] != 0)=false)=>Kt (n:=n) (f:=79) (by omega) (fun m hm=>hO m (by omega)) (D:=[d]) (by simp) (hJ e1).bY.len (k:=true) (ex:=true);have s2:=fun(e1:(bH [d] != 0)=false) (e2:(!(Gw 0 (i64.wrap ((d.ah.length:Int)-1)) c))=false) (e3:(!(Gw 0 (i64.wrap (d.ah.getD c.toNat 0-1)) g))=false)=>
  have hz:=(hJ e1).bY.sz (d.ah.getD c.toNat 0) (cu (show c.toNat<d.ah.length by obtain⟨a,b⟩:=hc e1 e2;omega));have hR:=a2x h1 (by simpa using e1) (hc e1 e2) (abD e3 (Int.le_trans (by decide) hz.1) hz.2)
  a8N (n:=n) (f:=79) hR (IC hR (Jb.inD h2 (show bH [d]=0 by simpa using e1)) fun l hl hv=>hv _ (fC (by rw[hl];exact Nat.zero_lt_one))) (by omega) (fun m hm=>IX m (by omega)) (fun m hm l hl=>alA (hO m (by omega)) (by rw[hl];exact Nat.zero_lt_one)) (k:=true) (ex:=true) (k2:=true) (LX:=true)
 have i2:=fun(e1:(bH [d] != 0)=false) (e2:(!(Gw 0 (i64.wrap ((d.ah.length:Int)-1)) c))=false)=>show fK c (dW [d]).g.length by rw[(hJ e1).gl];exact hc e1 e2
 exact aP (hO n (by omega)) (.o h2 (.o h3 (.sh (fun _=>.rn (.dI [.agg [.nil .aQ,.nil .aQ,.nil .aQ,.nil .aQ,.int .i64 0],.int .i64 (bH [d])]) rfl) fun e1=>.sh (fun _=>.rn (.dI [.agg [.nil .aQ,.nil .aQ,.nil .aQ,.nil .aQ,.int .i64 0],.int .i64 3]) rfl) fun e2=>.o (hc e1 e2) (.sh (fun _=>.rn (.dI [.agg [.nil .aQ,.nil .aQ,.nil .aQ,.nil .aQ,.int .i64 0],.int .i64 3]) rfl) fun e3=>.fr [1] (s1 e1) (.o (i2 e1 e2) (.fr [1,2] (s2 e1 e2 e3) .rr))))))
open Go Tw Pv bQ
def Fz(k:Int):Bool:=decide (7<=k∧k<=16)
def pO(k:Int)(a b:V):V×Int:=if Fz k=true then Ii k a b else(V0,2)
theorem bne{a b:Int}(h:a≠b):(a==b)=false:=by simpa using h
def a8P:fF aG:=ZX 101 (a1 uA) (fun _=>.nil .fn) (fun _=>[]) (fun p=>[Fz p=false]) alB
theorem agH:Gd a8P:=aqF.Xn 0 fun n _ hO p hp=>by
 have h:¬(7<=p∧p<=16):=by simpa[Fz]using hp _ iD
 exact BJ hX (hO n (by omega)) (by kernel_rfl) (.b (bne (show p≠7 by omega)) (.b (bne (show p≠8 by omega)) (.b (bne (show p≠9 by omega)) (.b (bne (show p≠10 by omega)) (.b (bne (show p≠11 by omega)) (.b (bne (show p≠12 by omega)) (.b (bne (show p≠13 by omega)) (.b (bne (show p≠14 by omega)) .er))))))))
def Yt:fF aG:=dw 45 (a3 uA vA vA) (dU (a2 vA iA)) (fun p=>pO p.1 p.2.1 p.2.2) np a8P
theorem a2y:Gd Yt:=agH.deep 1 fun n hn hO p hp=>by
 obtain⟨k,a,b⟩:=p;cases h:Fz k
 .have h9:¬(7<=k∧k<=16):=by simpa[Fz]using h
  show pR X0 Qp _ _ _ ((dU (a2 vA iA)).put (pO k a b)) _;unfold pO;rw[h];exact aP (hO n (by omega)) (.b (bne (show k≠15 by omega)) (.b (bne (show k≠16 by omega)) (.o h (.b (rfl:true=true) .rr))))
 .show pR X0 Qp _ _ _ ((dU (a2 vA iA)).put (pO k a b)) _;unfold pO;rw[a0A h];exact hO (n+1) (by omega) 45 ((a3 uA vA vA).put (k,a,b)) ((dU (a2 vA iA)).put (Ii k a b)) [] [7<=k∧k<=16] (by kernel_rfl) (fun q hq=>by rw[a2O.1 hq];simpa[Fz]using h)
open Go Tw Pv bQ
theorem yK{v:V}:Fv v↔kY v:=by
 unfold Fv vOk nI;constructor
 .rintro⟨h,h0⟩;split at h
  .rename_i e;split at h
   .rename_i e2;simp at e e2 h;exact⟨h0,by omega,fun _=>⟨e2,h⟩,fun hz=>absurd e hz⟩
   cases h
  split at h
  .rename_i e e2;simp at e e2 h;exact⟨h0,e2,fun hz=>absurd hz e,fun _=>h⟩
  cases h
 intro h;refine⟨?_,h.f0⟩;by_cases e:v.f=0
 .rw[a0A (by simpa using e),a0A (by simpa using(h.n e).1)];simpa using(h.n e).2
 rw[a0y (by simpa using e),a0A (by simpa using h.f1)];simpa using h.z e
theorem abE{k:Int}{a b:V}:(Ii k a b).1=gV k a b:=by
 unfold Ii gV
 repeat' split
 all_goals rfl
theorem abG{k:Int}(h:Fz k=true){a b:V}(ha:Fv a)(hb:Fv b):Fv (pO k a b).1∧(pO k a b).1=bG k a b:=by have:=afF (by simpa[Fz]using h) (yK.1 ha) (yK.1 hb);unfold pO;rw[a0A h,abE,this.1];exact⟨yK.2 this.2,rfl⟩
theorem abH{k:Int}{a b:V}(h:((pO k a b).2 != 0)=false):Fz k=true:=by
 unfold pO at h;cases e:Fz k
 .rw[e]at h;simp at h
 rfl
theorem abI:Fv lY:=⟨by decide,by decide⟩
theorem agI:Fv V0:=⟨by decide,by decide⟩
abbrev abJ(u:Int)(l:List V):V:=(pO u (l.getD 0 V0) (l.getD 1 V0)).1
abbrev abK(l:List V):V:=(jL (l.getD 0 V0) (l.getD 1 V0) (l.getD 2 V0)).1
theorem alC{m:Nat}{u:Int}(h1:1<=m)(hO:Ok (m-1) Yt){l:List V}(h:l.length=2):dG X0 Qp (iE m) (.fn 112 [] [.ptr 0 0 1]) [lV l] [.aF [.int .u8 u]] (.agg (abJ u l).ps) [.aF [.int .u8 u]]:=by obtain⟨m,rfl⟩:∃k,m=k+1:=⟨m-1,by omega⟩;exact fH hO (first:=[]) (cap:=[.ptr 0 0 1]) (.o (aH (by omega:0<l.length)) (.o (aH (by omega:1<l.length)) .er))
theorem aqG{m:Nat}(h1:1<=m)(hO:Ok (m-1) Yt){l:List V}(h:l.length=3):dG X0 Qp (iE m) (.fn 113 [] []) [lV l] [] (.agg (abK l).ps) []:=by obtain⟨m,rfl⟩:∃k,m=k+1:=⟨m-1,by omega⟩;exact fH hO (first:=[]) (cap:=[]) (.o (aH (by omega:0<l.length)) (.o (aH (by omega:1<l.length)) (.o (aH (by omega:2<l.length)) .er)))
theorem alD{m:Nat}(hO:Ok m Yt){l:List V}(h:l.length<=au):dG X0 Qp (iE m) (.fn 117 [] []) [lV l] [] (.agg (oh l).ps) []:=pR.a4h hX (first:=[]) (cap:=[]) (hO 117 [lV l] (vA.put (oh l)) [] [l.length<=au] (by kernel_rfl) (fun p h9=>by rw[a2O.1 h9];exact h)) rfl rfl rfl rfl
theorem abL(l:List V):Fv (oh l):=by unfold oh;split;exact abI;exact agI
theorem a0s{a b c:V}(ha:Fv a)(hb:Fv b)(hc:Fv c):Fv (jL a b c).1:=by have:=a3M (yK.1 ha) (yK.1 hb) (yK.1 hc);rw[this.1];exact yK.2 this.2
def xK(p:Int×Dg×Dg):Dg×Int:=if(bH [p.2.1,p.2.2] != 0)=true then(nO,bH [p.2.1,p.2.2])else if((pO p.1 lY lY).2 != 0)=true then(nO,(pO p.1 lY lY).2)else(EO (dW [p.2.1,p.2.2]) (abJ p.1),0)
def Yu(p:Dg×Dg×Dg):Dg×Int:=if(bH [p.1,p.2.1,p.2.2] != 0)=true then(nO,bH [p.1,p.2.1,p.2.2])else(EO (dW [p.1,p.2.1,p.2.2]) abK,0)
def A8(p:Dg):Dg×Int:=if(bH [p] != 0)=true then(nO,bH [p])else(EO (dW [p]) oh,0)
theorem abM{P:Dg->Prop}{a b:Dg}(ha:P a)(hb:P b):∀d∈[a,b],P d:=fun x hx=>by
 rcases a1z.1 hx with rfl|hx
 .exact ha
 .rw[a2O.1 hx];exact hb
theorem aqH{P:Dg->Prop}{a b c:Dg}(ha:P a)(hb:P b)(hc:P c):∀d∈[a,b,c],P d:=fun x hx=>by
 rcases a1z.1 hx with rfl|hx
 .exact ha
 .exact abM hb hc x hx
abbrev rnE(e:Int):PV aG:=.dI [.agg [.nil .aQ,.nil .aQ,.nil .aQ,.nil .aQ,.int .i64 0],.int .i64 e]
abbrev HcA(D:List Dg)(u:Int)(g:LI0):List (PB aG):=[.list true true 26 D,.cells [.int .u8 u],.list true true 3 g]
abbrev HcB(u:Int):List (PB aG):=[.gone,.cells [.int .u8 u],.gone]
theorem rE(e:Int):Fp (Γ:=X0.Γ) (Is (X:=X0) (P:=Qp) (dU (a2 dA iA)) (nO,e)) .n (.ret (some (rnE e))):=by have h:(dU (a2 dA iA)).get (rnE e)=some (nO,e):=rfl;exact Fp.rn (X:=X0) (P:=Qp) (rnE e) h
def alE:fF aG:=dw 62 (a3 uA dA dA) (dU (a2 dA iA)) xK (fun p=>[qG p.2.1,qG p.2.2]) Yt
theorem abN:(2:Nat)<=au:=by unfold au;omega
theorem agJ:(3:Nat)<=au:=by unfold au;omega
theorem aqJ:Gd alE:=Good.a7n 24 a2y Yf La a2y fun n hn hO IX hO3 hO4 p hp=>by obtain⟨u,d,e⟩:=p;have h1:∀x∈[d,e],qG x:=abM (hp _ iD) (hp _ Ah);have h3:0<[d,e].length∧[d,e].length<=au:=⟨by simp,abN⟩;have hJ:(bH [d,e] != 0)=false->jW (dW [d,e]):=fun e1=>yX (D:=[d,e]) (by simp) (by simp) h1 (by simpa using e1);have s1:=fun(e1:(bH [d,e] != 0)=false)=>agG (n:=n) (f:=112) u (by omega) (fun m hm=>hO3 m (by omega)) (D:=[d,e]) (by simp) (hJ e1).bY.len (k:=true) (ex:=true);have s2:=fun(e1:(bH [d,e] != 0)=false) (e2:((pO u lY lY).2 != 0)=false)=>alz (n:=n) (f:=112) u (hJ e1) (op:=abJ u) (IC (hJ e1) (Jb.inD h1 (show bH [d,e]=0 by simpa using e1)) fun l hl hv=>(abG (abH e2) (hv _ (fC (show 0<l.length by rw[hl];exact Nat.zero_lt_two))) (hv _ (fC (show 1<l.length by rw[hl];exact Nat.one_lt_two)))).1) (by omega) (fun m hm=>IX m (by omega)) (fun m hm l hl=>alC (by omega) (hO4 _ (by omega)) hl) (k:=true) (ex:=true) (k2:=true) (LX:=true);show pR X0 Qp _ _ _ ((dU (a2 dA iA)).put (if(bH [d,e] != 0)=true then(nO,bH [d,e])else if((pO u lY lY).2 != 0)=true then(nO,(pO u lY lY).2)else(EO (dW [d,e]) (abJ u),0))) _;exact aP (hO n (by omega)) (.o h1 (.o h3 (.sh (fun _=>rE _) fun e1=>.sh (fun _=>rE _) fun e2=>.QD (H2:=HcA [d,e] u (dW [d,e]).g) [2,0] [1] (s1 e1) (.QD (H2:=HcB u) [2,0,3] [1] (s2 e1 e2) .rr))))
def alG:fF aG:=dw 63 (a3 dA dA dA) (dU (a2 dA iA)) Yu (fun p=>[qG p.1,qG p.2.1,qG p.2.2]) alE
theorem aqK:Gd alG:=Good.a7n 24 aqJ Yf La a2y fun n hn hO IX hO3 hO4 p hp=>by obtain⟨a,b,c⟩:=p;have h1:∀x∈[a,b,c],qG x:=aqH (hp _ iD) (hp _ Ah) (hp _ hh2);have h3:0<[a,b,c].length∧[a,b,c].length<=au:=⟨by simp,agJ⟩;have hJ:(bH [a,b,c] != 0)=false->jW (dW [a,b,c]):=fun e1=>yX (D:=[a,b,c]) (by simp) (by simp) h1 (by simpa using e1);have s1:=fun(e1:(bH [a,b,c] != 0)=false)=>Kt (n:=n) (f:=113) (by omega) (fun m hm=>hO3 m (by omega)) (D:=[a,b,c]) (by simp) (hJ e1).bY.len (k:=true) (ex:=true);have s2:=fun(e1:(bH [a,b,c] != 0)=false)=>a8N (n:=n) (f:=113) (hJ e1) (op:=abK) (IC (hJ e1) (Jb.inD h1 (show bH [a,b,c]=0 by simpa using e1)) fun l hl hv=>a0s (hv _ (fC (show 0<l.length by rw[hl];exact Nat.succ_pos 2))) (hv _ (fC (show 1<l.length by rw[hl];exact Nat.succ_lt_succ (Nat.succ_pos 1)))) (hv _ (fC (show 2<l.length by rw[hl];exact Nat.lt_succ_self 2)))) (by omega) (fun m hm=>IX m (by omega)) (fun m hm l hl=>aqG (by omega) (hO4 _ (by omega)) hl) (k:=true) (ex:=true) (k2:=true) (LX:=true);show pR X0 Qp _ _ _ ((dU (a2 dA iA)).put (if(bH [a,b,c] != 0)=true then(nO,bH [a,b,c])else(EO (dW [a,b,c]) abK,0))) _;exact aP (hO n (by omega)) (.o h1 (.o h3 (.sh (fun _=>rE _) fun e1=>.fr [1] (s1 e1) (.fr [1,2] (s2 e1) .rr))))
def alH:fF aG:=dw 67 (a1 dA) (dU (a2 dA iA)) A8 (fun p=>[qG p]) alG
theorem aqL:Gd alH:=Good.a7n 24 aqK Yf La a2y fun n hn hO IX hO3 hO4 d hp=>by
 have h1:∀x∈[d],qG x:=fun x hx=>by rw[a2O.1 hx];exact hp _ iD
 have h3:0<[d].length∧[d].length<=au:=⟨by simp,a4x⟩;have hJ:(bH [d] != 0)=false->jW (dW [d]):=fun e1=>yX (D:=[d]) (by simp) (by simp) h1 (by simpa using e1);have s1:=fun(e1:(bH [d] != 0)=false)=>Kt (n:=n) (f:=117) (by omega) (fun m hm=>hO3 m (by omega)) (D:=[d]) (by simp) (hJ e1).bY.len (k:=true) (ex:=true);have s2:=fun(e1:(bH [d] != 0)=false)=>a8N (n:=n) (f:=117) (hJ e1) (op:=oh) (fun t hd=>abL _) (by omega) (fun m hm=>IX m (by omega)) (fun m hm l hl=>alD (hO4 m (by omega)) (by rw[hl];exact a4x)) (k:=true) (ex:=true) (k2:=true) (LX:=true);show pR X0 Qp _ _ _ ((dU (a2 dA iA)).put (if(bH [d] != 0)=true then(nO,bH [d])else(EO (dW [d]) oh,0))) _;exact aP (hO n (by omega)) (.o h1 (.o h3 (.sh (fun _=>rE _) fun e1=>.fr [1] (s1 e1) (.fr [1,2] (s2 e1) .rr))))
open Go Tw Pv bQ
def kQ(v:V):Int:=if(!(xE v))=true then 2 else 0
def Yv:fF aG:=dw 106 (a1 vA) iA (fun p=>kQ p) np alH
theorem ae4:Gd Yv:=aqL.add fun n hO p hp=>aP hO (.ss .rr .rr)
theorem a8R{n f:Nat}{J:Jb}{k ex k2 LX:Bool}(h:iW n (.fn 87 [] []) [.agg (J.ps (.fn f [] []))] [] (.map 0) [.map (kV.im (eG J))]):iW n (.fn 87 [] []) [.agg [lI J.s,lI J.o,.own 0,.own 1,.fn f [] []]] [.list k ex 26 J.D,.list k2 LX 3 J.g] (.map 2) [.gone,.gone,.map (kV.im (eG J))]:=by have h1:=dG.frame hX (ks:=[]) (H':=[.gone,.gone]) (Hp:=[]) (QH:=[.map (kV.im (eG J))]) (v':=.map 2) (fv':=.fn 87 [] []) (xs':=[.agg (J.ps (.fn f [] []))]) h (by decide) rfl rfl rfl rfl rfl rfl rfl;exact dG.fz hX (H:=[.list k ex 26 J.D,.list k2 LX 3 J.g]) (cs:=[lI J.s,lI J.o,.own 0,.own 1]) (rest:=[.fn f [] []]) [0,1] h1 rfl (fun i hi=>by simpa[l7.kH,l7]using hi)
open Go Tw Pv bQ
def look(t:List (V×Int))(v:V):Int:=((t.find? fun e=>decide (e.1=v)).map (·.2)).getD 0
theorem IE{t:List (V×Int)}(hn:(t.map (·.1)).Nodup)(v:V):(qB X0 Qp 39 (kV.im t) (kV.tv v) (.int .i64 (look t v)))∨(look t v=0∧nU X0 Qp 39 (kV.im t) (kV.tv v)):=by
 by_cases h:v∈t.map (·.1)
 .obtain⟨e,he,hv⟩:=a0P.1 h;obtain⟨e2,h2⟩:=a5o.1 (List.find?_isSome (p:=fun e:V×Int=>decide (e.1=v)) |>.2 ⟨e,he,show decide (e.1=v)=true by simpa using hv⟩);have h3:e2.1=v:=by simpa using List.find?_some h2
  refine .inl (kV.found (by rw[zZ];exact hn) (a0P.2 ⟨e2,aeR h2,?_⟩));unfold look;rw[h2,h3];rfl
 refine .inr ⟨?_,kV.fresh (by rw[zZ];exact h)⟩;unfold look;rw[ae6.2 fun e he=>by simp only[a0S];intro hv;exact h (a0P.2 ⟨e,he,hv⟩)]
 rfl
abbrev alI:PV aG:=.agg [.nil .aQ,.nil .aQ,.nil .aQ,.nil .aQ,.nil .fn]
abbrev a8S(J:Jb)(f:Nat)(a b:Nat):PV aG:=.agg [lI J.s,lI J.o,.own a,.own b,.fn f [] []]
abbrev HO(D:List Dg)(g:LI0):List (PB aG):=[.list true true 26 D,.list true true 3 g]
theorem a4y{P:Dg->Prop}{d:Dg}(h:P d):∀x∈[d],P x:=fun x hx=>by rw[a2O.1 hx];exact h
theorem alJ{n:Nat}(hO:Ok n Yv){d:Dg}{v:V}(hp:qG d)(e1:(bH [d] != 0)=true):iW (n+1) (.fn 86 [] []) [.agg d.ps,.agg v.ps] [] (.dI [alI,.int .i64 (bH [d])]) []:=by have h1:∀x∈[d],qG x:=a4y hp;have h3:0<[d].length∧[d].length<=au:=⟨by simp,a4x⟩;exact dG.drop hX (nD hX hO (first:=[]) (cap:=[]) (H1:=[.list true true 26 [d]]) (by kernel_rfl) (.o h1 (.o h3 (.b e1 .er)))) rfl rfl
theorem alK{n:Nat}(hO:Ok n Yv){d:Dg}{v:V}(hp:qG d)(e1:(bH [d] != 0)=false)(e2:(kQ v != 0)=true):iW (n+1) (.fn 86 [] []) [.agg d.ps,.agg v.ps] [] (.dI [alI,.int .i64 4]) []:=by have h1:∀x∈[d],qG x:=a4y hp;have h3:0<[d].length∧[d].length<=au:=⟨by simp,a4x⟩;exact dG.drop hX (nD hX hO (first:=[]) (cap:=[]) (H1:=[.list true true 26 [d]]) (by kernel_rfl) (.o h1 (.o h3 (.b e1 (.b e2 .er))))) rfl rfl
theorem alL{n:Nat}(h2:2<=n)(BZ:Ok n Yv)(hO:∀m,n-2<=m->Ok m su){d:Dg}{v:V}(hp:qG d)(e1:(bH [d] != 0)=false)(e2:(kQ v != 0)=false):iW (n+1) (.fn 86 [] []) [.agg d.ps,.agg v.ps] [] (.dI [a8S (dW [d]) 79 0 1,.int .i64 0]) (HO [d] (dW [d]).g):=by have h1:∀x∈[d],qG x:=a4y hp;have h3:0<[d].length∧[d].length<=au:=⟨by simp,a4x⟩;have hJ:jW (dW [d]):=yX (D:=[d]) (by simp) (by simp) h1 (by simpa using e1);have s1:=Kt (n:=n) (f:=79) h2 hO (D:=[d]) (by simp) hJ.bY.len (k:=true) (ex:=true);have h:iW (n+1) (.fn 86 [] []) [.agg d.ps,.agg v.ps] [] (.dI [a8S (dW [d]) 79 1 2,.int .i64 0]) [.list true true 26 [d],.list true true 26 [d],.list true true 3 (dW [d]).g]:=fH BZ (first:=[]) (cap:=[]) (.o h1 (.o h3 (.b e1 (.b e2 (.fr [1] s1 .er)))));exact dG.gs hX h [.gc [1,2]] rfl
theorem xM(J:Jb):((eG J).map (·.1)).Nodup:=(((qA Yo (AX (oq J))).map (·.1)).nodup_iff).2 (Gh (oq J)).1
theorem Lh(φ:V->Int)(J:Jb):dH φ (eG J)=bU φ (oq J):=by unfold eG;rw[a3F φ (qA Yo (AX (oq J))),SY]
theorem Yw{α:Type}:∀l:List α,bU (fun _=>1) l=(l.length:Int)
 | []=>rfl
 |a::l=>by have:=Yw l;simp only[bU,a4M];omega
theorem TT{J:Jb}(hJ:jW J):Kq (eG J):=by
 refine⟨fun e he=>(Gh (oq J)).2 e ((qA Yo (AX (oq J))).mem_iff.1 he),?_⟩;rw[Lh,Yw];have h1:(oq J).length<=(LV J).length:=by unfold oq VG;rw[a4R];exact a5w (a9C _ _) (by rw[a4R];exact a0K _)
 have h2:(LV J).length<=vC J.s:=a5w (a9C _ _) (by rw[a4R,a8Q];exact a0K _);have h3:=hJ.bY.ZY;have h4:=hJ.bY.many;omega
def vH(p:Dg×V):Int×Int:=if(bH [p.1] != 0)=true then(0,bH [p.1])else if(kQ p.2 != 0)=true then(0,4)else(look (eG (dW [p.1])) p.2,0)
def agK:fF aG:=dw 27 (a2 dA vA) (dU (a2 iA iA)) vH (fun p=>[qG p.1]) Yv
theorem aqM:Gd agK:=Good.Xo 24 ae4 La fun n hn hO IX p hp=>by
 obtain⟨d,v⟩:=p;have h1:qG d:=hp _ iD;obtain⟨n,rfl⟩:∃k,n=k+1:=⟨n-1,by omega⟩;have BZ:=hO (n+1) (by omega);cases e1:(bH [d] != 0)
 .cases e2:(kQ v != 0)
  .have s1:=alL (n:=n) (by omega) (hO n (by omega)) (fun m hm=>IX m (by omega)) h1 e1 e2;have hJ:jW (dW [d]):=yX (D:=[d]) (by simp) (by simp) (a4y h1) (by simpa using e1);have s2:=a8R (k:=true) (ex:=true) (k2:=true) (LX:=true) (Qi hJ (n:=n-1) (f:=79) (IX _ (by omega)) (show 0<[d].length by simp));rw[show n-1+2=n+1 by omega]at s2;show pR X0 Qp _ _ _ ((dU (a2 iA iA)).put (if(bH [d] != 0)=true then(0,bH [d])else if(kQ v != 0)=true then(0,4)else(look (eG (dW [d])) v,0))) _;rw[e1,e2];rcases IE (xM (dW [d])) v with hf|⟨hz,hf⟩
   .exact aP BZ (.fr [] s1 (.b (rfl:((0:Int) != 0)=false) (.fr [0,1] s2 (.c (.int .i64 (look (eG (dW [d])) v)) [] hf .rr))))
   .rw[hz];exact aP BZ (.fr [] s1 (.b (rfl:((0:Int) != 0)=false) (.fr [0,1] s2 (.a .calm (.o hf .rr)))))
  .have s1:=alK (n:=n) (hO n (by omega)) h1 e1 e2;show pR X0 Qp _ _ _ ((dU (a2 iA iA)).put (if(bH [d] != 0)=true then(0,bH [d])else if(kQ v != 0)=true then(0,4)else(look (eG (dW [d])) v,0))) _;rw[e1,e2];exact aP BZ (.fr [] s1 (.b (rfl:((4:Int) != 0)=true) .rr))
 .have s1:=alJ (n:=n) (v:=v) (hO n (by omega)) h1 e1;show pR X0 Qp _ _ _ ((dU (a2 iA iA)).put (if(bH [d] != 0)=true then(0,bH [d])else if(kQ v != 0)=true then(0,4)else(look (eG (dW [d])) v,0))) _;rw[a0A e1];exact aP BZ (.fr [] s1 (.b e1 .rr))
open Go Tw Pv bQ
structure An where
 q:Int
 none:Bool
 yes:Bool
 n:Int
 lo:Int
 hi:Int
 fault:Bool
 set:LI0
deriving DecidableEq
abbrev VU:An:=⟨0,false,false,0,0,0,false,[]⟩
def alM:Ar X0 Qp Unit where
 put _:=.nil .aQ
 get v:=match v with
  |.nil .aQ=>some ()
  |_=>none
 ok:=by
  intro v a hg A m h x hv;split at hg
  .exact hv
  .cases hg
def YN:Arg An:=afl (a6S (LK uA (LK tA (LK tA (LK iA (LK iA (a4 iA tA qO alM)))))))
 (fun p=>⟨p.1,p.2.1,p.2.2.1,p.2.2.2.1,p.2.2.2.2.1,p.2.2.2.2.2.1,p.2.2.2.2.2.2.1,p.2.2.2.2.2.2.2.1⟩) (fun a=>(a.q,a.none,a.yes,a.n,a.lo,a.hi,a.fault,a.set,())) fun _=>rfl
abbrev anW(a:An)(s:PV aG):PV aG:=.agg [.int .u8 a.q,.bool a.none,.bool a.yes,.int .i64 a.n,.int .i64 a.lo,.int .i64 a.hi,.bool a.fault,s,.nil .aQ]
theorem rA(a:An)(h:a.set=[])(e:Int):Fp (Γ:=X0.Γ) (Is (X:=X0) (P:=Qp) (dU (a2 YN iA)) (a,e)) .n (.ret (some (.dI [anW a (.nil .aQ),.int .i64 e]))):=by obtain⟨q,no,y,n,l,hi,f,s⟩:=a;cases h;have h:(dU (a2 YN iA)).get (.dI [anW ⟨q,no,y,n,l,hi,f,[]⟩ (.nil .aQ),.int .i64 e])=some (⟨q,no,y,n,l,hi,f,[]⟩,e):=rfl;exact Fp.rn (X:=X0) (P:=Qp) _ h
def a8U(q:Int)(t:List (V×Int)):An×Int:=
 if(q==1)=true then(⟨q,false,look t lY==dH (fun _=>1) t,0,0,0,false,[]⟩,0)
 else if(q==2)=true then(⟨q,false,decide (look t lY>0),0,0,0,false,[]⟩,0)
 else if(q==3)=true then(⟨q,false,false,look t lY,0,0,false,[]⟩,0)
 else if(q==4)=true then(if mg t=[]then(⟨q,true,false,0,0,0,uT t,[]⟩,0)else(⟨q,((mg t).length:Int)==0,false,0,(mg t).getD 0 0,(mg t).getD (i64.wrap ((mg t).length-1)).toNat 0,uT t,[]⟩,0))
 else(⟨q,false,false,0,0,0,uT t,mg t⟩,0)
def Gs(q:Int)(t:List (V×Int)):An×Int:=if t=[]then(⟨q,true,false,0,0,0,false,[]⟩,0)else a8U q t
def a2z(p:Int×Dg×Dg):An×Int:=if(bH [p.2.1,p.2.2] != 0)=true then(VU,bH [p.2.1,p.2.2])else if decide (p.1<1)=true then(VU,2)else if decide (p.1>5)=true then(VU,2)else Gs p.1 (eG (dW [p.2.1,p.2.2]))
def abO:fF aG:=dw 33 (a3 uA dA dA) (dU (a2 YN iA)) a2z (fun p=>[qG p.2.1,qG p.2.2]) agK
theorem agL{t:List (V×Int)}(h:Kq t):(mg t).length<=2000:=by unfold mg;rw[show ∀l:LI0,(gX l).length=l.length from fun l=>(aep l _).length_eq,a4R];exact a5w (a9C _ _) h.len
abbrev HMt(t:List (V×Int)):List (PB aG):=[.map (kV.im t)]
abbrev HMn(t:List (V×Int)):List (PB aG):=[.map (kV.im t),.list false false 3 (mg t)]
section
variable {n:Nat} {q:Int} {d e:Dg} (hO:Ok n agK) (h1:∀ x∈[d,e],qG x) (e1:(bH [d,e] != 0)=false) (e2:decide (q<1)=false) (e3:decide (q>5)=false) {t:List (V×Int)} (ht:Kq t)
 (s1:dG X0 Tryz.prog (iE n) (.fn 78 [] []) [.fn 79 [] [],.own 0] [.list true true 26 [d,e]] (a8S (dW [d,e]) 79 0 1) (HO [d,e] (dW [d,e]).g))
 (s2:dG X0 Tryz.prog (iE n) (.fn 87 [] []) [a8S (dW [d,e]) 79 0 1] (HO [d,e] (dW [d,e]).g) (.map 2) [.gone,.gone,.map (kV.im t)])
 (s3:dG X0 Tryz.prog (iE n) (.fn 90 [] []) [.map 0] [.iH (kV.im t)] (.int .i64 (dH (fun _=>1) t)) [.iH (kV.im t)])
 (s4:mg t=[]->dG X0 Tryz.prog (iE n) (.fn 88 [] []) [.map 0] [.iH (kV.im t)] (.dI [.nil .aQ,.bool (uT t)]) [.iH (kV.im t)])
 (s5:mg t≠[]->dG X0 Tryz.prog (iE n) (.fn 88 [] []) [.map 0] [.iH (kV.im t)] (.dI [.own 1,.bool (uT t)]) [.iH (kV.im t),.list false false 3 (mg t)])
include hO h1 e1 e2 e3 s1 s2
theorem abP(h:t=[]):pR X0 Qp (iE (n+1)) 33 ((a3 uA dA dA).put (q,d,e)) ((dU (a2 YN iA)).put (⟨q,true,false,0,0,0,false,[]⟩,0)) []:=by subst h;have h3:0<[d,e].length∧[d,e].length<=au:=⟨by simp,abN⟩;exact aP hO (.o h1 (.o h3 (.b e1 (.b e2 (.b e3 (.fr [1] s1 (.fr [1,2] s2 (.b (show(((kV.im ([]:List (V×Int))).length:Int)==0)=true from rfl) (rA _ rfl _)))))))))
variable (hd:(t.map (·.1)).Nodup)
include ht s3 s4 s5 hd
theorem a8V(h:t≠[]):pR X0 Qp (iE (n+1)) 33 ((a3 uA dA dA).put (q,d,e)) ((dU (a2 YN iA)).put (a8U q t)) []:=by
 have h3:0<[d,e].length∧[d,e].length<=au:=⟨by simp,abN⟩;have hl:(((kV.im t).length:Int)==0)=false:=by
  rw[kV.pK];cases t with
  |nil=>exact absurd rfl h
  |cons a r=>exact bne (by simp only[a4M];omega)
 have Rh:=agL ht;have s0:iW n (.fn 89 [] []) [] [] (.agg lY.ps) []:=pR.a4h hX (first:=[]) (cap:=[]) (hO 89 [] (vA.put lY) [] [] (by kernel_rfl) (fun p h=>by cases h)) rfl rfl rfl rfl;unfold a8U;by_cases hn:mg t=[]
 .rw[a0A hn];rcases IE hd lY with hf|⟨hz,hf⟩
  .exact aP hO (.o h1 (.o h3 (.b e1 (.b e2 (.b e3 (.fr [1] s1 (.fr [1,2] s2 (.b hl (.QD (H2:=HMt t) [3] [0] (s4 hn) (.ss (.fr [] s0 (.c (.int .i64 (look t lY)) [] hf (.QD (H2:=HMt t) [3] [0] s3 (rA _ rfl _)))) (.ss (.fr [] s0 (.c (.int .i64 (look t lY)) [] hf (rA _ rfl _))) (.ss (.fr [] s0 (.c (.int .i64 (look t lY)) [] hf (rA _ rfl _))) (.ss (.b (c:=!((0:Int)==0)) (t:=false) rfl (rA _ rfl _)) (rA ⟨q,false,false,0,0,0,uT t,mg t⟩ hn _))))))))))))))
  rw[hz];exact aP hO (.o h1 (.o h3 (.b e1 (.b e2 (.b e3 (.fr [1] s1 (.fr [1,2] s2 (.b hl (.QD (H2:=HMt t) [3] [0] (s4 hn) (.ss (.a .calm (.o hf (.QD (H2:=HMt t) [3] [0] s3 (rA _ rfl _)))) (.ss (.a .calm (.o hf (rA _ rfl _))) (.ss (.a .calm (.o hf (rA _ rfl _))) (.ss (.b (c:=!((0:Int)==0)) (t:=false) rfl (rA _ rfl _)) (rA ⟨q,false,false,0,0,0,uT t,mg t⟩ hn _))))))))))))))
 rw[a0y hn];have hp:0<(mg t).length:=aaU.2 hn;have hb:(!(((mg t).length:Int)==0))=true:=by rw[bne (by omega)];rfl
 have i0:fK 0 (mg t).length:=aH hp;have i1:fK (i64.wrap ((mg t).length-1)) (mg t).length:=by rw[wrap_small (by omega) (by omega)];exact⟨by omega,by omega⟩
 rcases IE hd lY with hf|⟨hz,hf⟩
 .exact aP hO (.o h1 (.o h3 (.b e1 (.b e2 (.b e3 (.fr [1] s1 (.fr [1,2] s2 (.b hl (.QD (H2:=HMn t) [3] [0] (s5 hn) (.ss (.fr [] s0 (.c (.int .i64 (look t lY)) [] hf (.QD (H2:=HMt t) [3] [0] s3 (rA _ rfl _)))) (.ss (.fr [] s0 (.c (.int .i64 (look t lY)) [] hf (rA _ rfl _))) (.ss (.fr [] s0 (.c (.int .i64 (look t lY)) [] hf (rA _ rfl _))) (.ss (.b hb (.o i0 (.o i1 (rA _ rfl _)))) .rr)))))))))))))
 rw[hz];exact aP hO (.o h1 (.o h3 (.b e1 (.b e2 (.b e3 (.fr [1] s1 (.fr [1,2] s2 (.b hl (.QD (H2:=HMn t) [3] [0] (s5 hn) (.ss (.a .calm (.o hf (.QD (H2:=HMt t) [3] [0] s3 (rA _ rfl _)))) (.ss (.a .calm (.o hf (rA _ rfl _))) (.ss (.a .calm (.o hf (rA _ rfl _))) (.ss (.b hb (.o i0 (.o i1 (rA _ rfl _)))) .rr)))))))))))))
end
theorem alN:Gd abO:=Good.Xo 24 aqM La fun n hn hO IX p hp=>by
 obtain⟨q,d,e⟩:=p;have h1:∀x∈[d,e],qG x:=abM (hp _ iD) (hp _ Ah);have h3:0<[d,e].length∧[d,e].length<=au:=⟨by simp,abN⟩;have BZ:=hO n (by omega);show pR X0 Qp _ _ _ ((dU (a2 YN iA)).put (if(bH [d,e] != 0)=true then(VU,bH [d,e])else if decide (q<1)=true then(VU,2)else if decide (q>5)=true then(VU,2)else Gs q (eG (dW [d,e])))) _;cases e1:(bH [d,e] != 0)
 .cases e2:decide (q<1)
  .cases e3:decide (q>5)
   .have hJ:=yX (D:=[d,e]) (by simp) (by simp) h1 (by simpa using e1);have ht:=TT hJ;have s1:=Kt (n:=n) (f:=79) (by omega) (fun m hm=>IX m (by omega)) (D:=[d,e]) (by simp) hJ.bY.len (k:=true) (ex:=true);have s2:=a8R (k:=true) (ex:=true) (k2:=true) (LX:=true) (Qi hJ (n:=n-2) (f:=79) (IX _ (by omega)) (show 0<[d,e].length by simp));have s3:=aqw (n:=n-1) ht;have s4:=(ae1 (n:=n-2) ht).1;have s5:=(ae1 (n:=n-2) ht).2;rw[show n-2+2=n by omega]at s2 s4 s5;rw[show n-1+1=n by omega]at s3;show pR X0 Qp _ _ _ ((dU (a2 YN iA)).put (Gs q (eG (dW [d,e])))) _;unfold Gs;by_cases h:eG (dW [d,e])=[]
    .rw[a0A h];exact abP BZ h1 e1 e2 e3 s1 s2 h
    .rw[a0y h];exact a8V BZ h1 e1 e2 e3 ht s1 s2 s3 s4 s5 (xM _) h
   .exact aP BZ (.o h1 (.o h3 (.b e1 (.b e2 (.b e3 (rA _ rfl _))))))
  .exact aP BZ (.o h1 (.o h3 (.b e1 (.b e2 (rA _ rfl _)))))
 .exact aP BZ (.o h1 (.o h3 (.b e1 (rA _ rfl _))))
open Go Tw Pv bQ
section
variable {n:Nat} {t:List (V×Int)} (h:Kq t) (ht:t≠[])
theorem alO{k:Bool}:iW (n+1) (.fn 96 [] []) [.map 0] [.map (kV.im t)] vF [.map (kV.im t),.cells [.map 0]]:=
 fH gJ (first:=[]) (cap:=[]) .er
include h ht
theorem alP:iW (n+3) (.fn 95 [] []) [vF] [.iH (kV.im t),.aF [.map 0]] (.aQ 2 0 t.length t.length 1 false) [.iH (kV.im t),.aF [.map 0],.ni ((sD t).map LW)]:=by have h1:=abB (n:=n) h ht;exact fH gJ (first:=[]) (cap:=[]) (.k h1 .er)
omit ht in
theorem a8W:(sD t).length=t.length:=by unfold sD;rw[(qA _ _).length_eq,a4R]
theorem alQ:iW (n+1) (.fn 94 [] []) [.aQ 0 0 t.length t.length 1 false] [.ni ((sD t).map LW)] (.int .i64 (Ql (sD t))) [.ni ((sD t).map LW)]:=by
 have hl:=a8W h;have h0:sD t≠[]:=fun e=>ht (a6C.1 (by rw[<-hl,e];rfl));have:=alr (n:=n) h0 (by rw[hl];exact h.len)
 rwa [hl]at this
end
open Go Tw Pv bQ
abbrev lkC(no:Bool)(n:Int)(s:PV aG):List (PV aG):=[.int .u8 8,.bool no,.bool false,.int .i64 n,.int .i64 0,.int .i64 0,.bool false,s,.nil .aQ]
abbrev wLk(f:Bool×Bool)(l:List Dg)(d:Dg)(n:Int)(s:PV aG)(H:List (PB aG))(i:Int)(x:List (Nat×PE aG)):aU aG:=⟨[(3,.loc 0 0),(4,.loc 1 0),(31,.val (.own 0)),(32,xi l.length),(33,xi i)]++x,[d.ps,lkC false n s],.list f.1 f.2 26 l::H⟩
abbrev hLk(b:Int):List (PB aG):=[.list true true 3 ([b]:LI0)]
def alR(f:Bool×Bool)(l:List Dg)(d:Dg)(i:Int)(x:List (Nat×PE aG)):Option (Int×Int)->aU aG
 |none=>wLk f l d 0 (.nil .aQ) [] i x
 |some (b,z)=>wLk f l d z (.own 1) (hLk b) i x
def tLk(l:List Dg)(d:Dg)(k:Nat):List (V×Int):=eG (dW [l.getD k nO,d])
def mLk(l:List Dg)(d:Dg)(k:Nat):Int:=Ql (sD (tLk l d k))
def gLk(l:List Dg)(d:Dg)(k:Nat)(s:Option (Int×Int)):Option (Int×Int)⊕(Option (Int×Int)×Nat):=
 if tLk l d k=[]then .inr (s,k)else match s with
  |none=>.inl (some ((k:Int),mLk l d k))
  |some (b,z)=>if decide (mLk l d k<z)=true then .inl (some ((k:Int),mLk l d k))else .inl (some (b,z))
def zLk(f:Bool×Bool)(l:List Dg)(d:Dg):Option (Int×Int)⊕(Option (Int×Int)×Nat)->Ex×aU aG
 |.inl s=>(.exit 1,alR f l d l.length [(34,xl false)] s)
 |.inr (none,k)=>(.ret,⟨[(4,.loc 1 0),(5,xi 0)],[d.ps,lkC true 0 (.nil .aQ),(l.getD k nO).ps],[.list f.1 f.2 26 l]⟩)
 |.inr (some (b,z),k)=>(.ret,⟨[(4,.loc 1 0),(5,xi 0)],[d.ps,lkC true z (.own 1),(l.getD k nO).ps],.list f.1 f.2 26 l::hLk b⟩)
structure LkP(l:List Dg)(d:Dg):Prop where
 p:∀x∈l++[d],qG x
 g:∀x∈l++[d],DgG x∧x.ah=((l++[d]).getD 0 nO).ah∧x.aB=((l++[d]).getD 0 nO).aB
theorem LkP.j{l:List Dg}{d:Dg}(h:LkP l d){k:Nat}(hk:k<l.length):jW (dW [l.getD k nO,d]):=by have h1:=h.g (l.getD k nO) (a5Z _ (fC hk));have h2:=h.g d (ac8 _ (a2O.2 rfl));exact ae2 (D:=[l.getD k nO,d]) (by simp) (by simp) (abM (P:=fun x=>DgG x∧x.ah=(l.getD k nO).ah∧x.aB=(l.getD k nO).aB) ⟨h1.1,rfl,rfl⟩ ⟨h2.1,h2.2.1.trans h1.2.1.symm,h2.2.2.trans h1.2.2.symm⟩)
theorem lLk{n:Nat}(hn:24<=n)(hO:∀m,n-24<=m->Ok m su)(f:Bool×Bool){l:List Dg}{d:Dg}(h:LkP l d)(hl:l.length<=au):Nr n 39 0 1 (wLk f l d 0 (.nil .aQ) [] 0 []) (zLk f l d (nG (gLk l d) l.length 0 none)).1 (zLk f l d (nG (gLk l d) l.length 0 none)).2:=by
 refine jm (st:=fun i s=>alR f l d i [] s) (g:=gLk l d) (out:=zLk f l d) (s0:=none) (fun k s=>k=0↔s=none) (by kernel_rfl) hl (by simp) (fun k s m hk hi ih=>?_) (fun s _=>?_)
 .have hJ:=h.j hk;have ht:Kq (tLk l d k):=TT hJ;have s1:=Kt (n:=n) (f:=79) (by omega) (fun m hm=>hO m (by omega)) (D:=[l.getD k nO,d]) (by simp) hJ.bY.len (k:=true) (ex:=true);have s2:=a8R (k:=true) (ex:=true) (k2:=true) (LX:=true) (Qi hJ (n:=n-2) (f:=79) (hO _ (by omega)) (show 0<[l.getD k nO,d].length by simp));rw[show n-2+2=n by omega]at s2
  change dG _ _ _ _ _ _ _ [.gone,.gone,.map (kV.im (tLk l d k))]at s2
  unfold gLk;by_cases h0:tLk l d k=[]
  .rw[a0A h0];rw[h0]at s2;have hz:(((kV.im ([]:List (V×Int))).length:Int)==0)=true:=rfl;rcases s with _|⟨b,z⟩
   .exact aN gJ (.b (bD hk) (.o (aH hk) (.fr [1] s1 (.fr [1,2] s2 (.b hz (.ouG [.gc []] nofun))))))
   exact aN gJ (.b (bD hk) (.o (aH hk) (.fr [2] s1 (.fr [2,3] s2 (.b hz (.ouG [.gc [1]] nofun))))))
  rw[a0y h0];have hz:(((kV.im (tLk l d k)).length:Int)==0)=false:=by rw[kV.pK];exact bne (by have:=aaU.2 h0;omega)
  have s3:=alO (n:=n-1) (t:=tLk l d k) (k:=true);have s4:=alP (n:=n-3) ht h0;have s5:=alQ (n:=n-1) ht h0;rw[show n-1+1=n by omega]at s3 s5;rw[show n-3+3=n by omega]at s4;rcases s with _|⟨b,z⟩
  .have hk0:k=0:=hi.2 rfl;have hb:((k:Int)==0)=true:=by rw[hk0];rfl
   exact aN gJ (.b (bD hk) (.o (aH hk) (.fr [1] s1 (.fr [1,2] s2 (.b hz (.fr [3] s3 (.QD (H2:=[.map (kV.im (tLk l d k)),.cells [.map 0],.ni ((sD (tLk l d k)).map LW)]) [3,4] [0,1] s4 (.fr [5] s5 (.b hb (.nxG [.gc [6]] (ih _ (by simp))))))))))))
  have hk0:k≠0:=fun e=>by cases hi.1 e
  have hb:((k:Int)==0)=false:=bne (by omega);exact aN gJ (.b (bD hk) (.o (aH hk) (.fr [2] s1 (.fr [2,3] s2 (.b hz (.fr [4] s3 (.QD (H2:=[.map (kV.im (tLk l d k)),.cells [.map 0],.ni ((sD (tLk l d k)).map LW)]) [4,5] [0,1] s4 (.fr [6] s5 (.b hb (.ls (.nxG [.gc [7]] (ih _ (by simp))) (.nxG [.gc [1]] (ih _ (by simp)))))))))))))
 rcases s with _|⟨b,z⟩
 .exact aN gJ (.b (fO l.length) (.ou nofun))
 exact aN gJ (.b (fO l.length) (.ou nofun))
theorem agN{n:Nat}{k ex:Bool}{l:List Dg}:iW (n+1) (.fn 93 [] []) [.own 0] [.list k ex 26 l] (.Gv 0) [.list k ex 26 l]:=fH gJ (first:=[]) (cap:=[]) (.o (rfl:((0:Nat):Int)=0) (.o (rfl:(l.length:Int)=(l.length:Int)) (.o (rfl:(l.length:Int)=(l.length:Int)) .er)))
def alS:Option (Int×Int)⊕(Option (Int×Int)×Nat)->An
 |.inl none=>⟨8,false,false,0,0,0,false,[]⟩
 |.inl (some (b,z))=>⟨8,false,false,z,0,0,false,[b]⟩
 |.inr (none,_)=>⟨8,true,false,0,0,0,false,[]⟩
 |.inr (some (b,z),_)=>⟨8,true,false,z,0,0,false,[b]⟩
def a2A(p:List Dg×Dg):An×Int:=if decide ((p.1.length:Int)>4)=true then(VU,5)else if(bH (p.1++[p.2]) != 0)=true then(VU,bH (p.1++[p.2]))else if((p.1.length:Int)==0)=true then(VU,7)else(alS (nG (gLk p.1 p.2) p.1.length 0 none),0)
theorem dG.got{call:aZ}{fv v:PV aG}{xs:List (PV aG)}{H H1:List (PB aG)}{β:Type}{r:Ar X0 Qp β}{s:β}(hs:dG X0 Qp call fv xs H v H1)(hg:r.get v=some s):dG X0 Qp call fv xs H (r.put s) H1:=by intro A m h tf rM hr hf hx;obtain⟨w,h',ws,m1,c1,c2,c3,c4⟩:=hs A m h tf rM hr hf hx;exact⟨w,h',ws,m1,c1,c2,r.ok hg c3,c4⟩
theorem alT{n:Nat}(hn:24<=n)(BZ:Ok n abO)(IX:∀m,n-24<=m->Ok m su){k ex:Bool}{l:List Dg}{d:Dg}(h1:∀x∈l++[d],qG x)(h2:l.length<=1000):iW (n+1) (.fn 39 [] []) [.own 0,.agg d.ps] [.list k ex 26 l] ((dU (a2 YN iA)).put (a2A (l,d))) [.list k ex 26 l]:=by
 have hl:l.length<=au:=by unfold au;omega
 have h3:0<(l++[d]).length∧(l++[d]).length<=au:=by rw[a1w,a4n];unfold au;omega
 have h4:l.length+[d].length<=au:=by rw[a4n];unfold au;omega
 have h5:[d]≠[]:=by simp
 have s0:=agN (n:=n-1) (k:=k) (ex:=ex) (l:=l);rw[show n-1+1=n by omega]at s0;show dG X0 Qp _ _ _ _ ((dU (a2 YN iA)).put (if decide ((l.length:Int)>4)=true then(VU,5)else if(bH (l++[d]) != 0)=true then(VU,bH (l++[d]))else if((l.length:Int)==0)=true then(VU,7)else(alS (nG (gLk l d) l.length 0 none),0))) _;cases e1:decide ((l.length:Int)>4)
 .cases e2:(bH (l++[d]) != 0)
  .cases e3:((l.length:Int)==0)
   .have hk:LkP l d:=⟨h1,a0q h1 (by simpa using e2)⟩;have lp:=lLk (n:=n) hn IX (k,ex) hk hl;revert lp;rcases nG (gLk l d) l.length 0 none with(_|⟨b,z⟩)|⟨_|⟨b,z⟩,j⟩
    .intro lp;exact dG.got (v:=.dI [anW ⟨8,false,false,0,0,0,false,[]⟩ (.nil .aQ),.int .i64 0]) (fH BZ (first:=[]) (cap:=[]) (.b e1 (.fr [0] s0 (.o h4 (.o h5 (.o h1 (.o h3 (.b e2 (.b e3 (.wG [.gc []] lp .er)))))))))) rfl
    .intro lp;exact dG.gs hX (nD hX BZ (first:=[]) (cap:=[]) (v:=.dI [anW ⟨8,false,false,z,0,0,false,[]⟩ (.own 1),.int .i64 0]) (H1:=.list k ex 26 l::hLk b) (by kernel_rfl) (.b e1 (.fr [0] s0 (.o h4 (.o h5 (.o h1 (.o h3 (.b e2 (.b e3 (.wG [.gc []] lp .er)))))))))) [.fz 1,.gc []] rfl
    .intro lp;exact dG.got (v:=.dI [anW ⟨8,true,false,0,0,0,false,[]⟩ (.nil .aQ),.int .i64 0]) (fH BZ (first:=[]) (cap:=[]) (.b e1 (.fr [0] s0 (.o h4 (.o h5 (.o h1 (.o h3 (.b e2 (.b e3 (.wG [.gc []] lp .er)))))))))) rfl
    intro lp;exact dG.gs hX (nD hX BZ (first:=[]) (cap:=[]) (v:=.dI [anW ⟨8,true,false,z,0,0,false,[]⟩ (.own 1),.int .i64 0]) (H1:=.list k ex 26 l::hLk b) (by kernel_rfl) (.b e1 (.fr [0] s0 (.o h4 (.o h5 (.o h1 (.o h3 (.b e2 (.b e3 (.wG [.gc []] lp .er)))))))))) [.fz 1,.gc []] rfl
   exact dG.got (v:=.dI [anW VU (.nil .aQ),.int .i64 7]) (dG.gs hX (nD hX BZ (first:=[]) (cap:=[]) (v:=.dI [anW VU (.nil .aQ),.int .i64 7]) (H1:=[.list k ex 26 l,.list true true 26 [d],.list true false 26 (l++[d])]) (by kernel_rfl) (.b e1 (.fr [0] s0 (.o h4 (.o h5 (.o h1 (.o h3 (.b e2 (.b e3 .er))))))))) [.gc []] rfl) rfl
  exact dG.got (v:=.dI [anW VU (.nil .aQ),.int .i64 (bH (l++[d]))]) (dG.gs hX (nD hX BZ (first:=[]) (cap:=[]) (v:=.dI [anW VU (.nil .aQ),.int .i64 (bH (l++[d]))]) (H1:=[.list k ex 26 l,.list true true 26 [d],.list true false 26 (l++[d])]) (by kernel_rfl) (.b e1 (.fr [0] s0 (.o h4 (.o h5 (.o h1 (.o h3 (.b e2 .er)))))))) [.gc []] rfl) rfl
 exact dG.got (v:=.dI [anW VU (.nil .aQ),.int .i64 5]) (fH BZ (first:=[]) (cap:=[]) (.b e1 .er)) rfl
open Go Tw Pv bQ
def jg(d:Dg)(g:LI0):Jb:=⟨d.ah,d.aB,[d],g⟩
structure GOk(d:Dg)(g:LI0):Prop where
 len:g.length=d.ah.length
 v:∀c,fK c d.ah.length->0<=g.getD c.toNat 0->g.getD c.toNat 0<d.ah.getD c.toNat 0
theorem alU{d:Dg}(hJ:jW (dW [d])){g:LI0}(h:GOk d g):jW (jg d g):=⟨hJ.d3,hJ.bY,hJ.ord,fun k hk=>have h:=hJ.dg k hk;⟨h.t,h.n,h.s,h.o,h.rk,h.two⟩,h.len,h.v⟩
theorem GOk.set{d:Dg}{g:LI0}(h:GOk d g){c k:Nat}(hk:(k:Int)<d.ah.getD (c:Int).toNat 0):GOk d (g.set (c:Int).toNat (k:Int)):=by
 refine⟨by rw[a4S];exact h.len,fun c2 KG h2=>?_⟩;by_cases e:(c:Int).toNat=c2.toNat
 .obtain⟨q0,q1⟩:=KG;rw[<-e,a2R,a1y (by rw[h.len];omega)];exact hk
 rw[a2R,a0R e,<-a2R]at h2 ⊢;exact h.v c2 KG h2
theorem aqR{d:Dg}(hJ:jW (dW [d])):GOk d (dW [d]).g:=⟨hJ.gl,hJ.gv⟩
abbrev jcF(d:Dg):List (PV aG):=[lI d.ah,lI d.aB,.own 0,.own 1,.fn 79 [] []]
abbrev hF(d:Dg)(g:LI0):List (PB aG):=[.list true true 26 [d],.list true true 3 g]
abbrev wFo(d:Dg)(v:V)(g:LI0)(c:Int)(x:List (Nat×PE aG)):aU aG:=⟨[(3,.loc 1 0),(6,.loc 2 0),(29,xL 3 d.ah),(30,xi d.ah.length),(31,xi c)]++x,[d.ps,v.ps,jcF d],hF d g⟩
abbrev wFi(d:Dg)(v:V)(g:LI0)(c:Int)(i:Int)(x:List (Nat×PE aG)):aU aG:=⟨[(3,.loc 1 0),(6,.loc 2 0),(8,xi c),(29,xL 3 d.ah),(30,xi d.ah.length),(31,xi c),(36,xi (d.ah.getD c.toNat 0)),(37,xi i)]++x,[d.ps,v.ps,jcF d],hF d g⟩
theorem ae5{n f:Nat}{J:Jb}{k ex k2 LX:Bool}(h:iW n (.fn 87 [] []) [.agg (J.ps (.fn f [] []))] [] (.map 0) [.map (kV.im (eG J))]):iW n (.fn 87 [] []) [a8S J f 0 1] [.list k ex 26 J.D,.list k2 LX 3 J.g] (.map 2) [.list k ex 26 J.D,.list k2 LX 3 J.g,.map (kV.im (eG J))]:=by have h1:=dG.frame hX (ks:=[]) (H':=[.gone,.gone]) (Hp:=[]) (QH:=[.map (kV.im (eG J))]) (v':=.map 2) (fv':=.fn 87 [] []) (xs':=[.agg (J.ps (.fn f [] []))]) h (by decide) rfl rfl rfl rfl rfl rfl rfl;exact dG.lend hX (H:=[.list k ex 26 J.D,.list k2 LX 3 J.g]) (cs:=[lI J.s,lI J.o,.own 0,.own 1]) (rest:=[.fn f [] []]) [0,1] h1 rfl (fun i hi=>by simpa[l7.kH,l7]using hi) rfl
def lkF(d:Dg)(v:V)(g:LI0):Int:=look (eG (jg d g)) v
def gIn(d:Dg)(v:V)(c:Nat)(k:Nat)(g:LI0):LI0⊕(LI0×Nat):=if decide (lkF d v (g.set (c:Int).toNat (k:Int))>0)=true then .inr (g.set (c:Int).toNat (k:Int),k)else .inl (g.set (c:Int).toNat (k:Int))
def oIn:LI0⊕(LI0×Nat)->LI0
 |.inl g=>g
 |.inr r=>r.1
def nIn(d:Dg)(c:Nat):Nat:=(d.ah.getD (c:Int).toNat 0).toNat
def a4z(d:Dg)(v:V)(c:Nat)(g:LI0):LI0:=oIn (nG (gIn d v c) (nIn d c) 0 g)
def zFi(d:Dg)(v:V)(c:Nat):LI0⊕(LI0×Nat)->Ex×aU aG
 |.inl g=>(.exit 3,wFi d v g (c:Int) (nIn d c) [(38,xl false)])
 |.inr (g,k)=>(.exit 2,wFi d v g (c:Int) k [(49,xl true)])
theorem a8Z{d:Dg}{v:V}{c:Nat}:∀(m k:Nat) (g:LI0),k+m<=nIn d c->GOk d g->GOk d (oIn (nG (gIn d v c) m k g))
 | 0,_,g,_,h=>h
 |m+1,k,g,hk,h=>by
  have h1:GOk d (g.set (c:Int).toNat (k:Int)):=h.set (by unfold nIn at hk;omega);simp only[nG,gIn];by_cases e:decide (lkF d v (g.set (c:Int).toNat (k:Int))>0)=true
  .rw[a0A e];exact h1
  rw[a0y e];exact a8Z m (k+1) _ (by omega) h1
section
variable {n:Nat} (hn:24<=n) (hO:∀ m,n-24<=m->Ok m su) {d:Dg} (hJ:jW (dW [d])) {v:V}
include hn hO hJ
theorem lFi{c:Nat}(hc:c<d.ah.length){g:LI0}(hg:GOk d g):Lp n 28 1 (wFi d v g (c:Int) 0 []) (zFi d v c (nG (gIn d v c) (nIn d c) 0 g)).1 (zFi d v c (nG (gIn d v c) (nIn d c) 0 g)).2:=by
 have hz:=hJ.bY.sz (d.ah.getD (c:Int).toNat 0) (cu (show(c:Int).toNat<d.ah.length by simpa using hc));have hN:((nIn d c:Nat):Int)=d.ah.getD (c:Int).toNat 0:=by unfold nIn;omega
 refine jm (st:=fun i g=>wFi d v g (c:Int) i []) (g:=gIn d v c) (out:=zFi d v c) (s0:=g) (fun k g=>GOk d g) (by kernel_rfl) (by unfold au;omega) hg (fun k g m hk hi ih=>?_) (fun g _=>?_)
 .have t1:decide ((k:Int)<d.ah.getD (c:Int).toNat 0)=true:=by rw[<-hN,a0S];omega
  have hg2:GOk d (g.set (c:Int).toNat (k:Int)):=hi.set (by rw[<-hN];omega);have i1:fK (c:Int) g.length:=by rw[hi.len];exact aH hc
  have s2:=ae5 (k:=true) (ex:=true) (k2:=true) (LX:=true) (Qi (alU hJ hg2) (n:=n-2) (f:=79) (hO _ (by omega)) (show 0<[d].length by simp));rw[show n-2+2=n by omega]at s2;unfold gIn lkF;rcases IE (xM (jg d (g.set (c:Int).toNat (k:Int)))) v with hf|⟨hz2,hf⟩
  .exact aN gJ (.b t1 (.o i1 (.fr [0,1] s2 (.c (.int .i64 (look (eG (jg d (g.set (c:Int).toNat (k:Int)))) v)) [] hf (.ls (.ouG [.gc [0,1]] nofun) (.nxG [.gc [0,1]] (ih _ hg2)))))))
  rw[hz2];exact aN gJ (.b t1 (.o i1 (.fr [0,1] s2 (.a .calm (.o hf (.ls (.ouG [.gc [0,1]] nofun) (.nxG [.gc [0,1]] (ih _ hg2))))))))
 have t1:decide (((nIn d c:Nat):Int)<d.ah.getD (c:Int).toNat 0)=false:=by rw[<-hN];exact fO _
 exact aN gJ (.b t1 (.ou nofun))
set_option maxRecDepth 20000 in
theorem lFo:Lp n 28 0 (wFo d v (dW [d]).g 0 []) (.exit 1) (wFo d v (aO (a4z d v) d.ah.length 0 (dW [d]).g) d.ah.length [(32,xl false)]):=by
 have hl:d.ah.length<=au:=by have:d.ah.length<=6:=hJ.bY.len;unfold au;omega
 refine P9 (X:=X0) (N:=d.ah.length) (g:=a4z d v) (s0:=(dW [d]).g) (st:=fun c g=>wFo d v g c []) (fin:=fun g=>wFo d v g d.ah.length [(32,xl false)]) (fun _ g=>GOk d g) (by kernel_rfl) hl Tq (aqR hJ) (fun c g hc hg=>a8Z (nIn d c) 0 g (by omega) hg) (fun c g hc hg m e p g9=>?_) (fun g _=>?_)
 .have lp:=lFi hn hO hJ (v:=v) hc hg;unfold a4z at g9;revert lp g9;rcases nG (gIn d v c) (nIn d c) 0 g with g1|⟨g1,k⟩
  .intro g9 lp;exact aN gJ (.b (bD hc) (.o (aH hc) (.w lp (.go g9))))
  intro g9 lp;exact aN gJ (.b (bD hc) (.o (aH hc) (.w lp (.go g9))))
 exact aN gJ (.b (fO d.ah.length) .ex)
end
open Go Tw Pv bQ
def IG(p:Dg×V):LI0×Int:=if(bH [p.1] != 0)=true then([],bH [p.1])else if(kQ p.2 != 0)=true then([],4)else if(look (eG (dW [p.1])) p.2==0)=true then([],7)else(aO (a4z p.1 p.2) p.1.ah.length 0 (dW [p.1]).g,0)
def alV:fF aG:=dw 28 (a2 dA vA) (dU (a2 qO iA)) IG (fun p=>[qG p.1]) abO
theorem rF(e:Int):Fp (Γ:=X0.Γ) (Is (X:=X0) (P:=Qp) (dU (a2 qO iA)) (([]:LI0),e)) .n (.ret (some (.dI [.nil .aQ,.int .i64 e]))):=by have h:(dU (a2 qO iA)).get (.dI [.nil .aQ,.int .i64 e])=some (([]:LI0),e):=rfl;exact Fp.rn (X:=X0) (P:=Qp) _ h
theorem aqU:Gd alV:=Good.acI 30 alN La ae4 fun n hn hO IX hO3 p hp=>by
 obtain⟨d,v⟩:=p;have h1:qG d:=hp _ iD;obtain⟨n,rfl⟩:∃k,n=k+1:=⟨n-1,by omega⟩;have BZ:=hO (n+1) (by omega);show pR X0 Qp _ _ _ ((dU (a2 qO iA)).put (if(bH [d] != 0)=true then([],bH [d])else if(kQ v != 0)=true then([],4)else if(look (eG (dW [d])) v==0)=true then([],7)else(aO (a4z d v) d.ah.length 0 (dW [d]).g,0))) _;cases e1:(bH [d] != 0)
 .cases e2:(kQ v != 0)
  .have s1:=alL (n:=n) (by omega) (hO3 n (by omega)) (fun m hm=>IX m (by omega)) h1 e1 e2;have hJ:jW (dW [d]):=yX (D:=[d]) (by simp) (by simp) (a4y h1) (by simpa using e1);have s2:=ae5 (k:=true) (ex:=true) (k2:=true) (LX:=true) (Qi hJ (n:=n-1) (f:=79) (IX _ (by omega)) (show 0<[d].length by simp));rw[show n-1+2=n+1 by omega]at s2;have lp:=lFo (n:=n+1) (by omega) (fun m hm=>IX m (by omega)) hJ (v:=v);show pR X0 Qp _ _ _ ((dU (a2 qO iA)).put (if(look (eG (dW [d])) v==0)=true then([],7)else(aO (a4z d v) d.ah.length 0 (dW [d]).g,0))) _;rcases IE (xM (dW [d])) v with hf|⟨hz,hf⟩
   .exact aP BZ (.fr [] s1 (.b (rfl:((0:Int) != 0)=false) (.fr [0,1] s2 (.c (.int .i64 (look (eG (dW [d])) v)) [] hf (.ss (rF _) (.wG [.gc [0,1]] lp .rr))))))
   .rw[hz];exact aP BZ (.fr [] s1 (.b (rfl:((0:Int) != 0)=false) (.fr [0,1] s2 (.a .calm (.o hf (.ss (rF _) (.wG [.gc [0,1]] lp .rr)))))))
  .have s1:=alK (n:=n) (v:=v) (hO3 n (by omega)) h1 e1 e2;exact aP BZ (.fr [] s1 (.b (rfl:((4:Int) != 0)=true) (rF _)))
 .have s1:=alJ (n:=n) (v:=v) (hO3 n (by omega)) h1 e1;exact aP BZ (.fr [] s1 (.b e1 (rF _)))
open Go Tw Pv bQ
abbrev dz:List (PV aG):=[.nil .aQ,.nil .aQ,.nil .aQ,.nil .aQ,.int .i64 0]
abbrev cCh(s o:LI0):List (PV aG):=[lI s,lI o,.own 1,.aQ 0 0 1 1 2 true,.int .i64 0]
abbrev hCh(c:Int)(x:List V×LI0):List (PB aG):=[.cells [.int .i64 c,.own 2],.list false false 39 x.1,.list false false 3 x.2]
abbrev wCh(s o:LI0)(c w n:Int)(y:List V×LI0)(i:Int)(x:List (Nat×PE aG)):aU aG:=⟨[(3,xi w),(8,.loc 0 0),(11,.loc 1 0),(47,xi n),(48,xi i)]++x,[dz,cCh s o],hCh c y⟩
def gCh(w:Int)(i:Nat)(y:List V×LI0):List V×LI0:=(y.1++[⟨0,i64.wrap (w+(i:Int))⟩],y.2++[i64.wrap (-1-(i:Int))])
def chE(w:Int)(n:Nat):List V:=(List.range n).map fun(i:Nat)=>(⟨0,i64.wrap (w+(i:Int))⟩:V)
def chK(n:Nat):LI0:=(List.range n).map fun(i:Nat)=>i64.wrap (-1-(i:Int))
theorem Yx(w:Int):∀n,aO (gCh w) n 0 ([],[])=(chE w n,chK n)
 | 0=>rfl
 |n+1=>by rw[tX,Yx w n,a3T];unfold gCh chE chK;rw[aaw,a4K,a4K];rfl
theorem lCh{n:Nat}{s o:LI0}{c w:Int}{z:Nat}(hz:z<=12)(h0:s.getD c.toNat 0=(z:Int)):Lp n 57 0 (wCh s o c w (s.getD c.toNat 0) ([],[]) 0 []) (.exit 0) (wCh s o c w (s.getD c.toNat 0) (chE w z,chK z) z [(49,xl false)]):=by
 rw[<-Yx w z,h0];refine P9 (X:=X0) (N:=z) (g:=gCh w) (s0:=([],[])) (st:=fun i y=>wCh s o c w (z:Int) y i []) (fin:=fun y=>wCh s o c w (z:Int) y z [(49,xl false)]) (fun k y=>y.1.length=k∧y.2.length=k) (by kernel_rfl) (by unfold au;omega) Tq ⟨rfl,rfl⟩ (fun k y hk hi=>?_) (fun k y hk hi m e p g9=>?_) (fun y _=>?_)
 .unfold gCh;simp[hi.1,hi.2]
 .obtain⟨E,K⟩:=y;have a1:E.length+[(⟨0,i64.wrap (w+(k:Int))⟩:V)].length<=au:=by rw[a4n];have:E.length=k:=hi.1;unfold au;omega
  have a2:K.length+[i64.wrap (-1-(k:Int))].length<=au:=by rw[a4n];have:K.length=k:=hi.2;unfold au;omega
  exact aN gJ (.b (bD hk) (.o a1 (.o a2 (.goG [.gc [0,4,6]] g9))))
 exact aN gJ (.b (fO z) .ex)
def chD(s o:LI0)(c w:Int)(z:Nat):Dg:=⟨s,o,chE w z,[⟨c,chK z⟩],0⟩
theorem abQ{n:Nat}(hO:Ok n a8k){s o:LI0}{c:Int}{y:List V×LI0}(hd:let d:Dg:=⟨s,o,y.1,[⟨c,y.2⟩],0⟩;Ij d∧d.ah.length<=au∧d.aB.length<=2^20∧d.aJ.length<=au∧(((bF d).2 != 0)=false->ClP (bF d).1)) :
  iW n (.fn 108 [] []) [.agg (cCh s o)] (hCh c y) ((dU (a2 dA iA)).put (zX ⟨s,o,y.1,[⟨c,y.2⟩],0⟩)) [.gone,.gone,.gone]:=by
 obtain⟨h1,h2,h3,h4,h5⟩:=hd;have k0:iW n (.fn 108 [] []) [.agg (⟨s,o,y.1,[⟨c,y.2⟩],0⟩:Dg).ps] [] ((dU (a2 dA iA)).put (zX ⟨s,o,y.1,[⟨c,y.2⟩],0⟩)) []:=pR.a4h hX (first:=[]) (cap:=[]) (hO 108 [.agg (⟨s,o,y.1,[⟨c,y.2⟩],0⟩:Dg).ps] ((dU (a2 dA iA)).put (zX ⟨s,o,y.1,[⟨c,y.2⟩],0⟩)) [] _ (by kernel_rfl) (fun p h=>by
  rcases a1z.1 h with rfl|h
  .exact h1
  rcases a1z.1 h with rfl|h
  .exact h2
  rcases a1z.1 h with rfl|h
  .exact h3
  rcases a1z.1 h with rfl|h
  .exact h4
  rw[a2O.1 h];exact h5)) rfl rfl rfl rfl
 have k1:=dG.frame hX (ks:=[]) (H':=[.gone,.gone,.gone]) (Hp:=[]) (QH:=[]) (v':=(dU (a2 dA iA)).put (zX ⟨s,o,y.1,[⟨c,y.2⟩],0⟩)) (fv':=.fn 108 [] []) (xs':=[.agg (⟨s,o,y.1,[⟨c,y.2⟩],0⟩:Dg).ps]) k0 (by decide) rfl rfl rfl rfl rfl rfl rfl;exact dG.cell1 hX (H:=hCh c y) (Sz:=[lI s,lI o,.own 1]) (ws1:=[lI s,lI o,lV y.1]) (cs:=[.int .i64 c,.own 2]) (X7:=[.int .i64 0]) (ws2:=[.int .i64 0]) (i:=0) (e:=105) (sz:=2) (row:=(⟨c,y.2⟩:Br)) [1,2] rfl (by kernel_rfl) (by decide) rfl rfl k1 rfl rfl rfl (fun j hj=>by simp[l7.kH,l7]at hj ⊢;omega) (fun j hj=>by simp[l7.kH,l7]at hj ⊢;omega) (fun j hj=>by simp[l7.kH,l7]at hj)
open Go Tw Pv bQ
theorem abR(w:Int)(z:Nat):(chE w z).length=z:=by simp[chE]
theorem abS(z:Nat):(chK z).length=z:=by simp[chK]
structure ChP(s o:LI0)(c w:Int)(z:Nat):Prop where
 f:bV s o=0
 ic:fK c s.length
 ez:s.getD c.toNat 0=(z:Int)
 z12:z<=12
 w0:-9999<=w
 w1:w+z<=10000
section
variable {s o:LI0} {c w:Int} {z:Nat} (h:ChP s o c w z)
include h
theorem abT{v:V}(hv:v∈chE w z):∃j,j<z∧v=⟨0,w+(j:Int)⟩:=by unfold chE at hv;obtain⟨j,hj,rfl⟩:=a0P.1 hv;have:=a4V.1 hj;have:=h.w0;have:=h.w1;have:=h.z12;exact⟨j,by omega,by rw[wrap_small (by omega) (by omega)]⟩
theorem abU{k:Nat}(hk:k<z):(chK z).getD k 0=-1-(k:Int):=by have:=h.z12;unfold chK;rw[a2R,a4T,aem hk];show i64.wrap (-1-(k:Int))=_;rw[wrap_small (by omega) (by omega)]
theorem agO:∀v∈chE w z,Fv v:=fun v hv=>by obtain⟨j,hj,rfl⟩:=abT h hv;have:=h.w0;have:=h.w1;exact yK.2 ⟨by show(0:Int)<=0;omega,by show(0:Int)<=4;omega,fun _=>⟨by show -9999<=w+(j:Int);omega,by show w+(j:Int)<=9999;omega⟩,fun hz=>absurd rfl hz⟩
theorem alW:Ij (chD s o c w z):=⟨fun i hi k hk=>by
 have:i=0:=by have:i<1:=hi;omega
 subst this;have hk3:k<z:=by rw[<-abS z];exact hk
 show Gm ((chK z).getD k 0);rw[abU h hk3,<-wrap_small (z:=-1-(k:Int)) (by have:=h.z12;omega) (by omega)];exact Qd _,by show Gm 0;rw[<-wrap_small (z:=0) (by omega) (by omega)];exact Qd _,fun v hv=>(agO h v hv).2⟩
theorem abV:Ij (chD s o c w z)∧(chD s o c w z).ah.length<=au∧(chD s o c w z).aB.length<=2^20∧(chD s o c w z).aJ.length<=au∧(((bF (chD s o c w z)).2 != 0)=false->ClP (bF (chD s o c w z)).1):=by
 obtain⟨bY,ord⟩:=jT.1 h.f;have hr:=alW h;have h6:s.length<=6:=bY.len;have Ry:o.length=s.length:=by unfold kE at ord;rw[a0S]at ord;exact ord.1
 have hl:=abR w z;have hz:=h.z12;have e1:(chD s o c w z).aJ.length+1<=au:=by show(chE w z).length+1<=au;rw[hl];unfold au;omega
 have e2:(chD s o c w z).ah.length<=au:=by show s.length<=au;unfold au;omega
 refine⟨hr,e2,by show o.length<=2^20;omega,by omega,fun h0=>?_⟩;obtain⟨q1,q2⟩:=xI hr e1 e2 (by show o.length<=au;unfold au;omega) (by simpa using h0);rw[q1];exact q2
end
def Qm(p:LI0×LI0×Int×Int):Dg×Int:=if(bV p.1 p.2.1 != 0)=true then(nO,bV p.1 p.2.1)else if(!(Gw 0 (i64.wrap ((p.1.length:Int)-1)) p.2.2.1))=true then(nO,3)else if(!(Gw (-9999) (i64.wrap (i64.wrap (9999-p.1.getD p.2.2.1.toNat 0)+1)) p.2.2.2))=true then(nO,3)else zX (chD p.1 p.2.1 p.2.2.1 p.2.2.2 (p.1.getD p.2.2.1.toNat 0).toNat)
theorem agP{a b x:Int}(h:(!(Gw a b x))=false):a<=x∧x<=b:=by
 unfold Gw at h;by_cases h1:x>=a
 .simp[h1]at h;exact⟨h1,h⟩
 simp[h1]at h
theorem agQ{s o:LI0}{c w:Int}(e1:(bV s o != 0)=false)(hc:fK c s.length)(e3:(!(Gw (-9999) (i64.wrap (i64.wrap (9999-s.getD c.toNat 0)+1)) w))=false):ChP s o c w (s.getD c.toNat 0).toNat:=by
 have f:bV s o=0:=by simpa using e1
 obtain⟨bY,ord⟩:=jT.1 f;have hz:=bY.sz (s.getD c.toNat 0) (cu (show c.toNat<s.length by obtain⟨a,b⟩:=hc;omega));obtain⟨z0,z1⟩:=hz;obtain⟨w0,w1⟩:=agP e3;rw[wrap_small (z:=9999-s.getD c.toNat 0) (by omega) (by omega),wrap_small (by omega) (by omega)]at w1;exact⟨f,hc,by omega,by omega,w0,by omega⟩
def agR:fF aG:=dw 57 (a4 qO qO iA iA) (dU (a2 dA iA)) Qm (fun p=>[p.1.length<=au,p.2.1.length<=2^20]) alV
theorem aqW:Gd agR:=Good.Xo 0 aqU adS fun n hn hO IX p hp=>by obtain⟨s,o,c,w⟩:=p;have h1:s.length<=au:=hp _ iD;have h2:o.length<=2^20:=hp _ Ah;have hc:(!(Gw 0 (i64.wrap ((s.length:Int)-1)) c))=false->fK c s.length:=fun e2=>a8O e2 h1;have hP:=fun(e1:(bV s o != 0)=false) (e2:(!(Gw 0 (i64.wrap ((s.length:Int)-1)) c))=false) (e3:(!(Gw (-9999) (i64.wrap (i64.wrap (9999-s.getD c.toNat 0)+1)) w))=false)=>agQ e1 (hc e2) e3;have lp:=fun(e1:(bV s o != 0)=false) (e2:(!(Gw 0 (i64.wrap ((s.length:Int)-1)) c))=false) (e3:(!(Gw (-9999) (i64.wrap (i64.wrap (9999-s.getD c.toNat 0)+1)) w))=false)=>lCh (n:=n) (s:=s) (o:=o) (c:=c) (w:=w) (hP e1 e2 e3).z12 (hP e1 e2 e3).ez;have s1:=fun(e1:(bV s o != 0)=false) (e2:(!(Gw 0 (i64.wrap ((s.length:Int)-1)) c))=false) (e3:(!(Gw (-9999) (i64.wrap (i64.wrap (9999-s.getD c.toNat 0)+1)) w))=false)=>abQ (n:=n) (IX n (by omega)) (s:=s) (o:=o) (c:=c) (y:=(chE w (s.getD c.toNat 0).toNat,chK (s.getD c.toNat 0).toNat)) (abV (hP e1 e2 e3));show pR X0 Qp _ _ _ ((dU (a2 dA iA)).put (if(bV s o != 0)=true then(nO,bV s o)else if(!(Gw 0 (i64.wrap ((s.length:Int)-1)) c))=true then(nO,3)else if(!(Gw (-9999) (i64.wrap (i64.wrap (9999-s.getD c.toNat 0)+1)) w))=true then(nO,3)else zX (chD s o c w (s.getD c.toNat 0).toNat))) _;exact aP (hO n (by omega)) (.o h1 (.o h2 (.sh (fun _=>rE _) fun e1=>.sh (fun _=>rE _) fun e2=>.o (hc e2) (.sh (fun _=>rE _) fun e3=>.a (.QD [] [] (.nil .aQ) []) (.o (hc e2) (.wG [.a3o 1 2 39,.UE 0 1 3] (lp e1 e2 e3) (.fr [0,1,2] (s1 e1 e2 e3) .rr)))))))
open Go Tw Pv bQ
structure a4A(d:Dg):Prop where
 t:C9 d
 n:d.aj.length<=6000
 l:aX d=0
 f:uO d.ah
 o:d.aB.length<=au
 e:d.aJ.length<=au
def gLs(d:Dg)(k:Nat)(l:List V):List V:=l++[qE d (jo d.ah k)]
theorem agS(d:Dg):aO (gLs d) (vC d.ah) 0 []=cellsD d:=by have:=bK (g:=gLs d) (m:=vC d.ah) (k:=0) (s:=[]) (fun k l=>l=(List.range k).map fun(k:Nat)=>qE d (jo d.ah k)) rfl (fun j l _ _ e=>by rw[gLs,e,aaw,a4K];rfl);rw[a3T]at this;exact this
abbrev wLs(d:Dg)(y:List V)(i:Int)(x:List (Nat×PE aG)):aU aG:=⟨[(1,.loc 0 0),(3,.val (.own 0)),(4,xi i)]++x,[d.ps],[.list false false 39 y]⟩
theorem lLs{n:Nat}(hO:Ok n agR)(d:Dg)(h:a4A d):Nr n 44 0 0 (wLs d [] 0 []) (.exit 0) (wLs d (cellsD d) (vC d.ah) [(12,xl false)]):=by
 have hs:d.ah.length<=au:=by have:=h.f.len;unfold au;omega
 have hc:vC d.ah<=au:=by have:=h.f.vC;have:=h.f.acH;have:=h.f.many;unfold au;omega
 rw[<-agS d];refine vS (σ:=List V) (N:=vC d.ah) (g:=gLs d) (s0:=[]) (st:=fun i y=>wLs d y i []) (fin:=fun y=>wLs d y (vC d.ah) [(12,xl false)]) (fun k y=>y.length=k) (by kernel_rfl) hc rfl (fun j y hj hy=>by simp[gLs,hy]) (fun j y hj hy m e p g9=>?_) (fun y _=>?_)
 .have h2:y.length+[qE d (jo d.ah j)].length<=au:=by rw[hy,a4n];omega
  exact aN hO (.o hs (.b (h.f.lt hj) (.o hs (.o h.f.sz (.o (show(0:Int)<=(j:Int) by omega) (.o (show(j:Int)<2^62 by unfold au at hc;omega) (.o h.t (.o h.n (.o (tY (j:Int) h.f.sz) (.o h2 (.goG [.gc [2]] g9)))))))))))
 exact aN hO (.o hs (.b h.f.no .ex))
def alY:fF aG:=dw 44 (a1 dA) vsA cellsD (fun d=>[a4A d]) agR
theorem aqX:Gd alY:=aqW.add fun n hO p hp=>by
 have h:a4A p:=hp _ iD;have hb:(aX p != 0)=false:=by rw[h.l];rfl
 exact aP hO (.o h.o (.o h.e (.b hb (.wG [.Jg 3 39] (lLs (n:=n) hO p h) .rr))))
def alZ:fF aG:=dw 81 (a1 qO) qO (fun p=>p) (fun p=>[p.length<=au]) alY
theorem aqY:Gd alZ:=aqX.add fun n hO p hp=>aP hO (.o (hp _ iD) .rr)
def am0:fF aG:=dw 82 (a1 vsA) vsA (fun p=>p) (fun p=>[p.length<=au]) alZ
theorem aqZ:Gd am0:=aqY.add fun n hO p hp=>aP hO (.o (hp _ iD) .rr)
def agT:fF aG:=dw 48 (a1 iA) vA (fun p=>(⟨0,p⟩:V)) np am0
theorem ar0:Gd agT:=aqZ.add fun n hO p hp=>aP hO .rr
open Go Tw Pv bQ
structure TU(d:Dg):Prop where
 s:d.ah.length<=au
 o:d.aB.length<=au
 e:d.aJ.length<=au
 n:d.aj.length<=au
 k:∀b∈d.aj,b.aA.length<=au
abbrev agU(a b:Dg)(i:Int)(x:List (Nat×PE aG)):aU aG:=⟨[(2,.loc 0 0),(3,.loc 1 0),(5,xi i)]++x,[a.ps,b.ps],[]⟩
def a0t(a b:Dg)(k:Nat):Bool:=if((a.aj.getD k jZ).var != (b.aj.getD k jZ).var)=true then true else !(decide ((a.aj.getD k jZ).aA=(b.aj.getD k jZ).aA))
def agV(a b:Dg):Unit⊕Nat->Ex×aU aG
 |.inl _=>(.exit 0,agU a b a.aj.length [(48,xl false)])
 |.inr _=>(.ret,⟨[(4,xl false)],[a.ps,b.ps],[]⟩)
theorem am1{n:Nat}(hO:Ok n agT){a b:Dg}(h:TU a)(hl:a.aj.length=b.aj.length):Lp n 72 0 (agU a b 0 []) (agV a b (bM (a0t a b) a.aj.length)).1 (agV a b (bM (a0t a b) a.aj.length)).2:=by
 refine jm (st:=fun i _=>agU a b i []) (g:=gS (a0t a b)) (out:=agV a b) (fun _ _=>True) (by kernel_rfl) h.n trivial (fun k u m hk _ ih=>?_) (fun _ _=>?_)
 .have i1:fK (k:Int) a.aj.length:=aH hk;have i2:fK (k:Int) b.aj.length:=aH (by omega);have h9:=h.k _ (fC (d:=jZ) hk);unfold gS a0t;cases e1:((a.aj.getD k jZ).var != (b.aj.getD k jZ).var)
  .exact aN hO (.b (bD hk) (.o i1 (.o i2 (.b e1 (.o i1 (.o i2 (.o h9 (.ls (.ou nofun) (.nx (ih _ trivial))))))))))
  exact aN hO (.b (bD hk) (.o i1 (.o i2 (.b e1 (.ou nofun)))))
 exact aN hO (.b (fO a.aj.length) (.ou nofun))
def a4B(a b:Dg):Bool:=if(!(decide (a.ah=b.ah)))=true then false else if(!(decide (a.aB=b.aB)))=true then false else if(!(decide (a.aJ=b.aJ)))=true then false else if((a.aj.length:Int) != (b.aj.length:Int))=true then false else if(a.root != b.root)=true then false else if kR (bM (a0t a b) a.aj.length)=true then true else false
def am2:fF aG:=dw 72 (a2 dA dA) tA (fun p=>a4B p.1 p.2) (fun p=>[TU p.1]) agT
theorem ar1:Gd am2:=ar0.add fun n hO p hp=>aP hO (.o (show TU p.1 from hp _ iD).s (.ss .rr (.o (show TU p.1 from hp _ iD).o (.ss .rr (.o (show TU p.1 from hp _ iD).e (.ss .rr (.sh (fun _=>.rr) fun h4=>.ss .rr (.zh (fun h=>.w (kM (am1 hO (show TU p.1 from hp _ iD) (show p.1.aj.length=p.2.aj.length by simp at h4;omega)) () h) .rr) fun h=>.w (kN (am1 hO (show TU p.1 from hp _ iD) (show p.1.aj.length=p.2.aj.length by simp at h4;omega)) 0 h) .rr))))))))
def am3:fF aG:=dw 25 (a3 dA iA dA) tA (fun p=>(if(p.2.1==0)=true then a4B p.1 p.2.2 else false)) (fun p=>[TU p.1]) am2
theorem ar2:Gd am3:=ar1.add fun n hO p hp=>aP hO (.ss (.o (hp _ iD) .rr) .rr)
def VK(s o:LI0):Bool:=if decide ((s.length:Int)>8)=true then false else if decide ((o.length:Int)>8)=true then false else if(bV s o != 0)=true then true else decide (Fj s<=200)
def agW:fF aG:=dw 54 (a2 qO qO) tA (fun p=>VK p.1 p.2) np am3
theorem ar4:Gd agW:=ar2.add fun n hO p hp=>aP hO (.sh (fun _=>.rr) fun h1=>.sh (fun _=>.rr) fun h2=>.o (show p.2.length<=au by simp at h2;unfold au;omega) (.ss .rr (.o (show p.1.length<=au by simp at h1;unfold au;omega) .rr)))
open Go Tw Pv bQ
abbrev wCp(d:Dg)(acc:List Br)(i:Int)(x:List (Nat×PE aG)):aU aG:=⟨[(1,.loc 0 0),(2,.loc 1 0),(3,.loc 2 0),(4,xi i)]++x,[d.ps,[.nil .aQ,.nil .aQ,.nil .aQ,.nil .aQ,.int .i64 0],[lI d.ah,lI d.aB,lV d.aJ,.own 0,.int .i64 d.root]],[.list false false 105 acc]⟩
theorem lCp{n:Nat}{d:Dg}(hO:Ok n agW)(h:TU d):Lp n 21 0 (wCp d [] 0 []) (.exit 0) (wCp d d.aj d.aj.length [(21,xl false)]):=by
 have e:aO (fun k (a:List Br)=>a++[d.aj.getD k jZ]) d.aj.length 0 []=d.aj:=by rw[Xu,Tv d.aj jZ fun r=>r,List.map_id']
 rw[show wCp d d.aj d.aj.length [(21,xl false)]=wCp d (aO (fun k (a:List Br)=>a++[d.aj.getD k jZ]) d.aj.length 0 []) d.aj.length [(21,xl false)] by rw[e]];refine vS (σ:=List Br) (N:=d.aj.length) (g:=fun k (a:List Br)=>a++[d.aj.getD k jZ]) (s0:=([]:List Br)) (st:=fun i a=>wCp d a i []) (fin:=fun a=>wCp d a d.aj.length [(21,xl false)]) (fun k a=>a.length=k) (by kernel_rfl) h.n rfl (fun k a _ h=>by simp[h]) (fun k a hk ha m e p g9=>?_) (fun a _=>?_)
 .have hm:=h.k (d.aj.getD k jZ) (fC hk);have hn:=h.n;have hal:a.length+[d.aj.getD k jZ].length<=au:=by have:a.length=k:=ha;rw[a4n];omega
  exact aN hO (.b (bD hk) (.o (aH hk) (.o (aH hk) (.o hm (.o hal (.goG [.gc [2]] g9))))))
 exact aN hO (.b (fO d.aj.length) .ex)
def agX:fF aG:=dw 21 (a1 dA) dA (fun p=>p) (fun p=>[TU p]) agW
theorem ar6:Gd agX:=ar4.add fun n hO p hp=>aP hO (.o (show TU p from hp _ iD).s (.o (show TU p from hp _ iD).o (.o (show TU p from hp _ iD).e (.wG [.a3o 2 3 105] (lCp hO (hp _ iD)) .rr))))
abbrev wTh(d:Dg)(i:Int)(x:List (Nat×PE aG)):aU aG:=⟨[(1,.loc 0 0),(3,xi i)]++x,[d.ps],[]⟩
def cTh(d:Dg)(k:Nat):Bool:=decide (((d.aj.getD k jZ).aA.length:Int)>14)
def zTh(d:Dg):Unit⊕Nat->Ex×aU aG
 |.inl _=>(.exit 0,wTh d d.aj.length [(26,xl false)])
 |.inr _=>(.ret,⟨[(2,xl false)],[d.ps],[]⟩)
theorem lTh{n:Nat}(hO:Ok n agX){d:Dg}(h:d.aj.length<=au):Lp n 18 0 (wTh d 0 []) (zTh d (bM (cTh d) d.aj.length)).1 (zTh d (bM (cTh d) d.aj.length)).2:=by
 refine jm (st:=fun i _=>wTh d i []) (g:=gS (cTh d)) (out:=zTh d) (fun _ _=>True) (by kernel_rfl) h trivial (fun k u m hk _ ih=>?_) (fun _ _=>?_)
 .unfold gS cTh;exact aN hO (.b (bD hk) (.o (aH hk) (.ls (.ou nofun) (.nx (ih _ trivial)))))
 exact aN hO (.b (fO d.aj.length) (.ou nofun))
def Ku(d:Dg):Bool:=if(!(VK d.ah d.aB))=true then false else if decide ((d.aJ.length:Int)>40)=true then false else if decide ((d.aj.length:Int)>60)=true then false else if kR (bM (cTh d) d.aj.length)=true then true else false
def am4:fF aG:=dw 18 (a1 dA) tA (fun p=>Ku p) np agX
theorem ar9:Gd am4:=ar6.add fun n hO p hp=>aP hO (.ss .rr (.ss .rr (.sh (fun _=>.rr) fun h3=>.zh (fun h=>.w (kM (lTh hO (show p.aj.length<=au by simp at h3;unfold au;omega)) () h) .rr) fun h=>.w (kN (lTh hO (show p.aj.length<=au by simp at h3;unfold au;omega)) 0 h) .rr)))
theorem Yy{d:Dg}(h:Ku d=true):TU d∧d.ah.length<=8∧d.aB.length<=8∧d.aJ.length<=40∧d.aj.length<=60:=by
 unfold Ku at h;split at h
 .cases h
 rename_i h1;split at h
 .cases h
 rename_i h2;split at h
 .cases h
 rename_i h3;split at h
 .rename_i h4;have h1:VK d.ah d.aB=true:=by simpa using h1
  unfold VK at h1;split at h1
  .cases h1
  rename_i q1;split at h1
  .cases h1
  rename_i q2;simp at h2 h3 q1 q2;refine⟨⟨by unfold au;omega,by unfold au;omega,by unfold au;omega,by unfold au;omega,fun b hb=>?_⟩,by omega,by omega,by omega,by omega⟩;obtain⟨k,hk,e⟩:=aaV hb;have:=dQ.1 h4 k hk;unfold cTh at this;rw[a2R,a0d hk,a5q,e]at this;simp at this;unfold au;omega
 cases h
open Go Tw Pv bQ
def eH(d:Dg)(c g:Int):List V:=(List.range (vC d.ah)).map fun(k:Nat)=>qE d ((jo d.ah k).set c.toNat g)
open Go Tw Pv bQ
theorem Yz{d:Dg}(h:aX d=0):bV d.ah d.aB=0:=by
 unfold aX at h;split at h
 .rename_i c;rw[h]at c;cases c
 rename_i c;simpa using c
theorem a4A.of{d:Dg}(h:a4A d){l:List V}(hl:l.length=vC d.ah):OfP d.ah d.aB l∧(PtP d.ah d.aB l∧d.aB.length<=6∧wO d.ah d.aB<=au):=by obtain⟨bY,ord⟩:=jT.1 (Yz h.l);have ho:OfP d.ah d.aB l:=⟨bY,ord,by rw[hl,bY.ZY]⟩;obtain⟨q1,q2,q3⟩:=ho.p;have hw:=DT bY.sz ord;have hm:=bY.many;have h6:=bY.len;exact⟨ho,q1,by omega,by unfold au;omega⟩
def agY(p:Dg×Int×Int):Dg:=ji p.1.ah p.1.aB (eH p.1 p.2.1 p.2.2)
open Go Tw Pv bQ
theorem agZ{n:Nat}{c g:Int}{q:LI0}(hq:q.length=n)(hc:fK c n)(hg:0<=g):ov ((List.replicate n (-1:Int)).set c.toNat g) q=q.set c.toNat g:=by
 obtain⟨c0,c1⟩:=hc;refine(oM (d:=(0:Int)) (by simp[ov,aes,hq])).2 fun k hk=>?_;have lH:k<n:=by simp[ov,aes,hq]at hk;exact hk
 rw[JU (by rw[a4S,a6B,hq]),a0A (by rw[a4S,a6B];exact lH)];by_cases e:c.toNat=k
 .subst e;rw[a2R,a1y (by rw[a6B];exact lH),a5q,a0A hg,a2R,a1y (by omega),a5q]
 rw[a2R,a0R e,aay,a0A lH,a5q,a0y (by omega),a2R,a2R,a0R e]
theorem ah0{d:Dg}(hp:qG d)(h:bH [d]=0){c g:Int}(hc:fK c d.ah.length)(hg:0<=g∧g<d.ah.getD c.toNat 0):EO (a0r d c g) op0=agY (d,c,g):=by
 have hR:=a2x hp h hc hg;have hj:sO (a0r d c g) op0:=IC hR (Jb.inD (D:=[d]) (fun x hx=>by rw[a2O.1 hx];exact hp) h) fun l hl hv=>hv _ (fC (by rw[hl];exact Nat.zero_lt_one));rw[mk_eq hR hj];show ji d.ah d.aB (JW (a0r d c g) op0)=ji d.ah d.aB (eH d c g);have e:JW (a0r d c g) op0=eH d c g:=by unfold JW eH;refine a5d fun k _=>?_;show qE d (ov ((List.replicate d.ah.length (-1:Int)).set c.toNat g) (jo d.ah k))=_;have hs:kU d.ah:=hR.bY.sz;rw[agZ (qc (tY (k:Int) hs)) hc hg.1]
 rw[e]
open Go Tw Pv bQ
def dX:Dg:=⟨[2,3],[0,1],[⟨0,1⟩,⟨0,2⟩],[⟨0,[-1,-2]⟩],0⟩
def dY:Dg:=⟨[2,3],[0,1],[⟨0,0⟩,⟨0,1⟩,⟨0,2⟩],[⟨1,[-1,-2,-3]⟩],0⟩
def cL(l:LI0):List V:=l.map fun n=>⟨0,n⟩
theorem a4C:Qm ([2,3],[0,1],0,1)=(dX,0):=by kernel_rfl
def dIf:Dg:=(Yu (dY,dX,dY)).1
theorem am5:(Yu (dY,dX,dY)).2=0∧kP dIf=0∧cellsD dIf=cL [0,1,1,0,2,2]:=⟨by kernel_rfl,by kernel_rfl,by kernel_rfl⟩
def dRs:Dg:=(iZ (dY,1,2)).1
theorem ah2:(iZ (dY,1,2)).2=0∧kP dRs=0∧cellsD dRs=cL [2,2,2,2,2,2]:=⟨by kernel_rfl,by kernel_rfl,by kernel_rfl⟩
def dWh:Dg:=(A8 dY).1
theorem a95:(A8 dY).2=0∧kP dWh=0∧cellsD dWh=cL [0,1,0,0,1,0]:=⟨by kernel_rfl,by kernel_rfl,by kernel_rfl⟩
theorem abW:vH (dY,⟨0,2⟩)=(2,0):=by kernel_rfl
theorem a96:IG (dX,⟨0,2⟩)=([1,0],0):=by kernel_rfl
def Gt:Dg:=(xK (10,dX,dY)).1
theorem ah3:(xK (10,dX,dY)).2=0:=by kernel_rfl
def dLe:Dg:=(xK (14,dX,dY)).1
theorem am6:(xK (14,dX,dY)).2=0:=by kernel_rfl
theorem abX:a2A ([dX,dY],dLe)=(⟨8,false,false,2,0,0,false,[0]⟩,0):=by kernel_rfl
def VL:List (V×Int):=eG (dW [Gt,dX])
theorem am7:mg VL=[0,1]:=by
 have e:((VL.filter fun e=>!decide (e.1.f>0)).map fun e=>e.1.n)=[0,1]:=by kernel_rfl
 unfold mg;rw[e];unfold gX;exact List.mergeSort_of_pairwise (by simp)
theorem ah5:a2z (4,Gt,dX)=(⟨4,false,false,0,0,1,true,[]⟩,0):=by
 have e1:bH [Gt,dX]=0:=by kernel_rfl
 have e2:uT VL=true:=by kernel_rfl
 have e3:VL≠[]:=by
  intro h;have h2:VL.length=0:=by rw[h];rfl
  have h3:VL.length=3:=by kernel_rfl
  omega
 show(if(bH [Gt,dX] != 0)=true then(VU,bH [Gt,dX])else Gs 4 VL)=_;rw[e1];show Gs 4 VL=_;unfold Gs;rw[a0y e3];show(if mg VL=[]then _ else _)=_;rw[am7,e2];rfl
open Go Tw Pv bQ
def ah6:fF aG:=dw 73 afk (dU (a2 dA dA)) (fun p=>(dX,dY)) np am4
theorem ara:Gd ah6:=ar9.add fun n hO p hp=>aP hO .rr
abbrev anP(a:An):List (PV aG):=[.int .u8 a.q,.bool a.none,.bool a.yes,.int .i64 a.n,.int .i64 a.lo,.int .i64 a.hi,.bool a.fault,lI a.set,.nil .aQ]
abbrev wSa(a b:An)(i:Int)(x:List (Nat×PE aG)):aU aG:=⟨[(2,.loc 0 0),(3,.loc 1 0),(5,xi i)]++x,[anP a,anP b],[]⟩
theorem lSa{n:Nat}(hO:Ok n ah6){a b:An}:Lp n 35 0 (wSa a b 0 []) (.exit 0) (wSa a b 0 [(74,xl false)]):=by have:=P9 (X:=X0) (P:=Qp) (T:=T) (L:=LL) (call:=iE n) (f:=35) (gY:=false) (nt:=Ce Qp 35) (B:=0) (b:=SI Qp 35 0) (σ:=Unit) (N:=0) (g:=fun _ s=>s) (s0:=()) (st:=fun i _=>wSa a b i []) (fin:=fun _=>wSa a b 0 [(74,xl false)]) (w:=wSa a b 0 []) (e:=.exit 0) (fun _ _=>True) (by kernel_rfl) (a5m _) Tq trivial (fun _ _ _ _=>trivial) (fun k s hk=>absurd hk (Nat.not_lt_zero _)) (fun s _=>aN hO (.b (rfl:decide ((0:Int)<0)=false) .ex));exact this
def abY(a b:An):Bool:=if(a.q != b.q)=true then false else if(!(a.none==b.none))=true then false else if(!(a.yes==b.yes))=true then false else if(a.n != b.n)=true then false else if(a.lo != b.lo)=true then false else if(a.hi != b.hi)=true then false else if(!(a.fault==b.fault))=true then false else if(!(decide (a.set=b.set)))=true then false else true
def ah7:fF aG:=dw 35 (a2 YN YN) tA (fun p=>abY p.1 p.2) (fun p=>[p.1.set.length<=au]) ah6
theorem arb:Gd ah7:=ara.add fun n hO p hp=>aP hO (.ss .rr (.ss .rr (.ss .rr (.ss .rr (.ss .rr (.ss .rr (.ss .rr (.o (hp _ iD) (.ss .rr (.b (rfl:((0:Int) != 0)=false) (.w (lSa (a:=p.1) (b:=p.2) hO) .rr)))))))))))
open Go Tw Pv bQ
theorem EF{d:Dg}(ho:d.aB.length<=au)(he:d.aJ.length<=au)(h:(kP d==0)=true):a4A d:=by
 have h:kP d=0:=by simpa using h
 have h0:aX d=0:=by
  unfold kP at h;split at h
  .rename_i c;rw[h]at c;cases c
  rename_i c;simpa using c
 obtain⟨t,n⟩:=iF ho he (by rw[h0];rfl);exact⟨t,n,h0,t.bY,ho,he⟩
abbrev wLz(d:Dg)(e:Int)(l:LI0)(acc:List V)(i:Int)(x:List (Nat×PE aG)):aU aG:=⟨[(1,xi e),(2,xL 3 l),(3,.loc 0 0),(7,.val (.own 0)),(8,xi i)]++x,[d.ps],[.list false false 39 acc]⟩
theorem lLz{n:Nat}(hO:Ok n ah7)(d:Dg)(e:Int){l:LI0}(hl:l.length<=1000):Lp n 74 0 (wLz d e l [] 0 []) (.exit 0) (wLz d e l (cL l) l.length [(12,xl false)]):=by
 have e1:aO (fun k (a:List V)=>a++[(⟨0,l.getD k 0⟩:V)]) l.length 0 []=cL l:=by rw[Xu,Tv l 0 fun r=>(⟨0,r⟩:V)];rfl
 rw[<-e1];refine vS (σ:=List V) (N:=l.length) (g:=fun k (a:List V)=>a++[(⟨0,l.getD k 0⟩:V)]) (s0:=([]:List V)) (st:=fun i a=>wLz d e l a i []) (fin:=fun a=>wLz d e l a l.length [(12,xl false)]) (fun k a=>a.length=k) (by kernel_rfl) (by unfold au;omega) rfl (fun k a _ h=>by simp[h]) (fun k a hk ha m e p g9=>?_) (fun a _=>?_)
 .have hal:a.length+[(⟨0,l.getD k 0⟩:V)].length<=au:=by have:a.length=k:=ha;rw[a4n];unfold au;omega
  exact aN hO (.b (bD hk) (.o (aH hk) (.o hal (.goG [.gc [2]] g9))))
 exact aN hO (.b (fO l.length) .ex)
def am9(p:Dg×Int×LI0):Bool:=if(p.2.1==0)=true then(if(kP p.1==0)=true then decide (cellsD p.1=cL p.2.2)else false)else false
def abZ:fF aG:=dw 74 (a3 dA iA qO) tA (fun p=>am9 p) (fun p=>[p.1.aB.length<=au,p.1.aJ.length<=au,p.2.2.length<=1000,(cellsD p.1).length<=au]) ah7
theorem ard:Gd abZ:=arb.add fun n hO p hp=>aP hO (.wG [.Jg 7 39] (lLz hO p.1 p.2.1 (hp _ hh2)) (.ss (.o (hp _ iD) (.o (hp _ Ah) (.sh (fun h=>.o (EF (hp _ iD) (hp _ Ah) h) (.o (hp _ (.tail _ (.tail _ (.tail _ (.head _))))) .rr)) (fun _=>.rr)))) .rr))
open Go Tw Pv bQ
theorem VN{d:Dg}(h:((d.aj.all fun n=>n.aA.all fun k=>decide (-1000<=k)&&decide (k<=1000))&&(decide (-1000<=d.root)&&decide (d.root<=1000))&&(d.aJ.all fun v=>decide (0<=v.f))&&(decide (d.ah.length<=100)&&decide (d.aB.length<=100)&&decide (d.aJ.length<=100)))=true):qG d:=by
 simp only[a1R,a0S,a5a]at h;obtain⟨⟨⟨h1,h2⟩,h3⟩,⟨h4,h5⟩,h6⟩:=h;refine⟨⟨fun i hi k hk=>?_,?_,h3⟩,by unfold au;omega,by omega,by unfold au;omega⟩
 .have h7:=h1 _ (fC (d:=(⟨0,[]⟩:Br)) hi) _ (fC (d:=(0:Int)) hk);show Gm ((fD d i).aA.getD k 0);unfold Gm;have h8:((d.aj.getD i ⟨0,[]⟩).aA.getD k 0)=(fD d i).aA.getD k 0:=rfl;rw[h8]at h7;omega
 unfold Gm;omega
theorem pX:qG dX:=VN (by kernel_rfl)
theorem pY:qG dY:=VN (by kernel_rfl)
theorem a97:qG Gt:=VN (by kernel_rfl)
theorem pLe:qG dLe:=VN (by kernel_rfl)
abbrev dvA(d:Dg):PV aG:=(dU (a2 dA iA)).put (d,0)
theorem ah8:(dRs,(0:Int))=iZ (dY,1,2):=ado rfl ah2.1.symm
theorem a98:(dWh,(0:Int))=A8 dY:=ado rfl a95.1.symm
theorem ah9:(Gt,(0:Int))=xK (10,dX,dY):=ado rfl ah3.symm
theorem amb:(dLe,(0:Int))=xK (14,dX,dY):=ado rfl am6.symm
section
variable {n:Nat} (hO:Ok n abZ)
include hO
theorem amc:iW n (.fn 73 [] []) [] [] ((dU (a2 dA dA)).put (dX,dY)) []:=
 rP hX hO (f:=73) (first:=[]) (xs:=[]) (cap:=[]) (vs:=[]) (v:=(dU (a2 dA dA)).put (dX,dY)) (H:=[]) (ps:=[]) rfl (by kernel_rfl) (fun _ h=>by cases h) rfl
theorem ac0{j k:Bool}:iW n (.fn 57 [] []) [.own 0,.own 1,.int .i64 0,.int .i64 1] [.list j k 3 ([2,3]:LI0),.list j k 3 ([0,1]:LI0)] (dvA dX) [.gone,.gone]:=by unfold dvA;rw[<-a4C];exact rP hX hO (f:=57) (first:=[]) (xs:=[.own 0,.own 1,.int .i64 0,.int .i64 1]) (cap:=[]) (vs:=[.dJ 3 ([2,3]:LI0) false,.dJ 3 ([0,1]:LI0) false,.int .i64 0,.int .i64 1]) (v:=(dU (a2 dA iA)).put (Qm ([2,3],[0,1],0,1))) (H:=[.list j k 3 ([2,3]:LI0),.list j k 3 ([0,1]:LI0)]) (ps:=[([2,3]:LI0).length<=au,([0,1]:LI0).length<=2^20]) rfl (by kernel_rfl) (by simp[au]) rfl
theorem aIf:iW n (.fn 63 [] []) [.agg dY.ps,.agg dX.ps,.agg dY.ps] [] (dvA dIf) []:=by have e:(dIf,(0:Int))=Yu (dY,dX,dY):=ado rfl am5.1.symm;unfold dvA;rw[e];exact rP hX hO (f:=63) (first:=[]) (cap:=[]) (vs:=[.agg dY.ps,.agg dX.ps,.agg dY.ps]) (v:=(dU (a2 dA iA)).put (Yu (dY,dX,dY))) (H:=[]) (ps:=[qG dY,qG dX,qG dY]) rfl (by kernel_rfl) (by simp[pX,pY]) rfl
theorem arf:iW n (.fn 20 [] []) [.agg dY.ps,.int .i64 1,.int .i64 2] [] (dvA dRs) []:=by rw[show(dvA dRs:PV aG)=((dU (a2 dA iA)).put (iZ (dY,1,2)))from by rw[<-ah8]];exact rP hX hO (f:=20) (first:=[]) (xs:=[.agg dY.ps,.int .i64 1,.int .i64 2]) (cap:=[]) (vs:=[.agg dY.ps,.int .i64 1,.int .i64 2]) (v:=((dU (a2 dA iA)).put (iZ (dY,1,2)))) (H:=[]) (ps:=[qG dY]) rfl (by kernel_rfl) (by simp[pX,pY,a97,pLe]) rfl
theorem aha:iW n (.fn 67 [] []) [.agg dY.ps] [] (dvA dWh) []:=by rw[show(dvA dWh:PV aG)=((dU (a2 dA iA)).put (A8 dY))from by rw[<-a98]];exact rP hX hO (f:=67) (first:=[]) (xs:=[.agg dY.ps]) (cap:=[]) (vs:=[.agg dY.ps]) (v:=((dU (a2 dA iA)).put (A8 dY))) (H:=[]) (ps:=[qG dY]) rfl (by kernel_rfl) (by simp[pX,pY,a97,pLe]) rfl
theorem amd:iW n (.fn 27 [] []) [.agg dY.ps,.agg (⟨0,2⟩:V).ps] [] ((dU (a2 iA iA)).put (2,0)) []:=by rw[show((dU (a2 iA iA)).put (2,0):PV aG)=((dU (a2 iA iA)).put (vH (dY,⟨0,2⟩)))from by rw[abW]];exact Nb hX hO (f:=27) (first:=[]) (xs:=[.agg dY.ps,.agg (⟨0,2⟩:V).ps]) (cap:=[]) (vs:=[.agg dY.ps,.agg (⟨0,2⟩:V).ps]) (v:=((dU (a2 iA iA)).put (vH (dY,⟨0,2⟩)))) (H:=[]) (ps:=[qG dY]) rfl (by kernel_rfl) (by simp[pY]) rfl
theorem ahb:iW n (.fn 28 [] []) [.agg dX.ps,.agg (⟨0,2⟩:V).ps] [] ((dU (a2 qO iA)).put ([1,0],0)) []:=by rw[show((dU (a2 qO iA)).put ([1,0],0):PV aG)=((dU (a2 qO iA)).put (IG (dX,⟨0,2⟩)))from by rw[a96]];exact rP hX hO (f:=28) (first:=[]) (xs:=[.agg dX.ps,.agg (⟨0,2⟩:V).ps]) (cap:=[]) (vs:=[.agg dX.ps,.agg (⟨0,2⟩:V).ps]) (v:=((dU (a2 qO iA)).put (IG (dX,⟨0,2⟩)))) (H:=[]) (ps:=[qG dX]) rfl (by kernel_rfl) (by simp[pX]) rfl
theorem arh:iW n (.fn 62 [] []) [.int .u8 10,.agg dX.ps,.agg dY.ps] [] (dvA Gt) []:=by rw[show(dvA Gt:PV aG)=((dU (a2 dA iA)).put (xK (10,dX,dY)))from by rw[<-ah9]];exact rP hX hO (f:=62) (first:=[]) (xs:=[.int .u8 10,.agg dX.ps,.agg dY.ps]) (cap:=[]) (vs:=[.int .u8 10,.agg dX.ps,.agg dY.ps]) (v:=((dU (a2 dA iA)).put (xK (10,dX,dY)))) (H:=[]) (ps:=[qG dX,qG dY]) rfl (by kernel_rfl) (by simp[pX,pY,a97,pLe]) rfl
theorem aLe:iW n (.fn 62 [] []) [.int .u8 14,.agg dX.ps,.agg dY.ps] [] (dvA dLe) []:=by rw[show(dvA dLe:PV aG)=((dU (a2 dA iA)).put (xK (14,dX,dY)))from by rw[<-amb]];exact rP hX hO (f:=62) (first:=[]) (xs:=[.int .u8 14,.agg dX.ps,.agg dY.ps]) (cap:=[]) (vs:=[.int .u8 14,.agg dX.ps,.agg dY.ps]) (v:=((dU (a2 dA iA)).put (xK (14,dX,dY)))) (H:=[]) (ps:=[qG dX,qG dY]) rfl (by kernel_rfl) (by simp[pX,pY,a97,pLe]) rfl
abbrev a99:An:=⟨4,false,false,0,0,1,true,[]⟩
abbrev ae9:An:=⟨8,false,false,2,0,0,false,[0]⟩
theorem ari:iW n (.fn 33 [] []) [.int .u8 4,.agg Gt.ps,.agg dX.ps] [] ((dU (a2 YN iA)).put (a99,0)) []:=by rw[show((dU (a2 YN iA)).put (a99,0):PV aG)=((dU (a2 YN iA)).put (a2z (4,Gt,dX)))from by rw[ah5]];exact rP hX hO (f:=33) (first:=[]) (xs:=[.int .u8 4,.agg Gt.ps,.agg dX.ps]) (cap:=[]) (vs:=[.int .u8 4,.agg Gt.ps,.agg dX.ps]) (v:=((dU (a2 YN iA)).put (a2z (4,Gt,dX)))) (H:=[]) (ps:=[qG Gt,qG dX]) rfl (by kernel_rfl) (by simp[a97,pX]) rfl
end
open Go Tw Pv bQ
theorem ame{n:Nat}(hn:24<=n)(BZ:Ok n abO)(IX:∀m,n-24<=m->Ok m su){k:Bool}:iW (n+1) (.fn 39 [] []) [.own 0,.agg dLe.ps] [.list k true 26 [dX,dY]] ((dU (a2 YN iA)).put (ae9,0)) [.list k true 26 [dX,dY]]:=by
 rw[<-abX];exact alT (l:=[dX,dY]) (d:=dLe) hn BZ IX (fun x h=>by
  rcases a1z.1 h with rfl|h
  .exact pX
  rcases a1z.1 h with rfl|h
  .exact pY
  rw[a2O.1 h];exact pLe) (by show 2<=1000;omega)
theorem amf{n:Nat}(hO:Ok n abZ):iW n (.fn 48 [] []) [.int .i64 2] [] (.agg (⟨0,2⟩:V).ps) []:=
 Nb hX hO (f:=48) (first:=[]) (xs:=[.int .i64 2]) (cap:=[]) (vs:=[.int .i64 2]) (v:=.agg (⟨0,2⟩:V).ps) (H:=[]) (ps:=[]) rfl (by kernel_rfl) (fun _ h=>by cases h) rfl
theorem TW{a b:Nat}(h:Nat.ble a b=true):a<=b:=ahs h
theorem arj:TU dX:=⟨TW (by kernel_rfl),TW (by kernel_rfl),TW (by kernel_rfl),TW (by kernel_rfl),fun b h=>by rw[a2O.1 h];exact TW (by kernel_rfl)⟩
def ahc:fF aG:=dw 19 afk tA (fun _=>true) np abZ
theorem ark:Gd ahc:=Good.acI 25 ard alN La fun n hn hO IX hO3 p hp=>by obtain⟨m,rfl⟩:∃m,n=m+1:=⟨n-1,by omega⟩;have Gj:=hO (m+1) (by omega);exact aP Gj (.fr [] (amc Gj) (.fr [0,1] (ac0 Gj (j:=true) (k:=true)) (.fr [] (aIf Gj) (.fr [] (arf Gj) (.fr [] (aha Gj) (.fr [] (amf Gj) (.fr [] (amd Gj) (.fr [] (amf Gj) (.fr [] (ahb Gj) (.fr [] (arh Gj) (.fr [] (ari Gj) (.fr [] (aLe Gj) (.fr [2] (ame (k:=true) (by omega) (IX m (by omega)) (fun k hk=>hO3 k (by omega))) (.o arj (.b (c:=true) (t:=true) rfl (.o (TW (by kernel_rfl):dIf.aB.length<=au) (.o (TW (by kernel_rfl):dIf.aJ.length<=au) (.o (TW (by kernel_rfl):([0,0,0,0,0,0]:LI0).length<=1000) (.o (TW (by kernel_rfl):(cellsD dIf).length<=au) (.b (c:=true) (t:=true) rfl (.o (TW (by kernel_rfl):dRs.aB.length<=au) (.o (TW (by kernel_rfl):dRs.aJ.length<=au) (.o (TW (by kernel_rfl):([0,0,0,0,0,0]:LI0).length<=1000) (.o (TW (by kernel_rfl):(cellsD dRs).length<=au) (.b (c:=true) (t:=true) rfl (.o (TW (by kernel_rfl):dWh.aB.length<=au) (.o (TW (by kernel_rfl):dWh.aJ.length<=au) (.o (TW (by kernel_rfl):([0,0,0,0,0,0]:LI0).length<=1000) (.o (TW (by kernel_rfl):(cellsD dWh).length<=au) (.b (c:=true) (t:=true) rfl (.b (c:=true) (t:=true) rfl (.b (c:=true) (t:=true) rfl (.b (c:=true) (t:=true) rfl (.o (TW (by kernel_rfl):([1,0]:LI0).length<=au) (.b (c:=true) (t:=true) rfl (.b (c:=true) (t:=true) rfl (.b (c:=true) (t:=true) rfl (.o (TW (by kernel_rfl):a99.set.length<=au) (.b (c:=true) (t:=true) rfl (.b (c:=true) (t:=true) rfl (.b (c:=true) (t:=true) rfl (.o (TW (by kernel_rfl):ae9.set.length<=au) .rr))))))))))))))))))))))))))))))))))))))))))
open Go Tw Pv bQ
theorem arl:Fv V0:=⟨by decide,by decide⟩
theorem a2B{l:List V}(h:∀v∈l,Fv v)(i:Nat):Fv (l.getD i V0):=by
 by_cases c:i<l.length
 .exact h _ (fC c)
 rw[a2R,a4J (by omega)];exact arl
theorem a9a{d:Dg}(h:∀v∈d.aJ,Fv v):∀v∈cellsD d,Fv v:=fun v hv=>by obtain⟨k,_,rfl⟩:=a0P.1 hv;exact a2B h _
theorem Qn(d:Dg):(cellsD d).length=vC d.ah:=by simp[cellsD]
theorem ahd{d:Dg}(h:kP d=0)(ho:d.aB.length<=au)(he:d.aJ.length<=au):TU d:=by
 have l:=EF ho he (by rw[h];rfl);have h6:=l.f.len;have n6:=l.n;refine⟨by unfold au;omega,ho,he,by unfold au;omega,fun b hb=>?_⟩;obtain⟨i,hi,rfl⟩:=aaV hb;have:=l.t.JF i hi;have e:fD d i=d.aj[i]:=by show d.aj.getD i jZ=_;rw[a2R,a0d hi,a5q]
 rw[e]at this;unfold au;omega
structure DgF(d:Dg):Prop where
 r:Ij d
 k:kP d=0
 f:TU d
 e:d.aJ.length<=2000
 o:d.aB.length=d.ah.length
 s:uO d.ah
theorem DgF.p{d:Dg}(h:DgF d):qG d:=⟨h.r,h.f.s,by have:=h.o;have:=h.s.len;omega,by have:=h.e;unfold au;omega⟩
theorem ahe{s o:LI0}{l:List V}(h:OfP s o l)(hv:∀v∈l,Fv v):DgF (ji s o l):=by obtain⟨h1,h2,_⟩:=Bd h fun v m=>(hv v m).1;obtain⟨r,k⟩:=abg h (fun v m=>(hv v m).1) fun v m=>(hv v m).2;have ho:=h.p.2.2;have h6:=h.bY.len;exact⟨r,k,ahd k (by show o.length<=au;unfold au;omega) (by unfold au;omega),h2,ho,h.bY⟩
theorem a2C{d:Dg}(h:qG d):bH [d]=kP d:=by
 have e:(vZ d).2=kP d:=by rw[Y7 h.r h.s (by have:=h.o;unfold au;omega) h.e]
 have f:([d].all (Ir (([d].getD 0 nO).ah,([d].getD 0 nO).aB)))=true:=by simp[Ir]
 unfold bH;rw[f];split
 .rename_i c;have:=dQ.1 c 0 (by simp);have h0:kP d=0:=by unfold cCk at this;rw[<-e];simpa using this
  rw[h0];rfl
 rename_i c;obtain⟨j,hj,_,_,e2⟩:=Nc (by simpa using c);have e2:bM (cCk [d]) [d].length=.inr j:=e2;rw[e2];have:j=0:=by have:j<1:=hj;omega
 subst this;exact e
theorem a9b(a:Dg):a4B a a=true:=by
 have h:kR (bM (a0t a a) a.aj.length)=true:=dQ.2 fun k _=>by simp[a0t]
 unfold a4B;rw[h];simp
theorem ahf{d:Dg}(h:Ku d=true)(r:Ij d):qG d:=by obtain⟨f,h1,h2,h3,_⟩:=Yy h;exact⟨r,f.s,by omega,by unfold au;omega⟩
open Go Tw Pv bQ
theorem a2D{a b x:Int}:Gw a b x=true↔a<=x∧x<=b:=by
 unfold Gw;by_cases h1:x>=a
 .simp[h1]
 simp[h1]
open Go Tw Pv bQ
theorem a9c{t:List (V×Int)}(hn:(t.map (·.1)).Nodup)(v:V):look t v=dH (ind v) t:=by
 unfold look;by_cases h:v∈t.map (·.1)
 .obtain⟨e,he,hv⟩:=a0P.1 h;obtain⟨e2,h2⟩:=a5o.1 (List.find?_isSome (p:=fun e:V×Int=>decide (e.1=v)) |>.2 ⟨e,he,show decide (e.1=v)=true by simpa using hv⟩);have h3:e2.1=v:=by simpa using List.find?_some h2
  have:=Eo hn (aeR h2);rw[h3]at this;rw[h2,this];rfl
 rw[Nk h,ae6.2 fun e he=>by simp only[a0S];intro hv;exact h (a0P.2 ⟨e,he,hv⟩)]
 rfl
theorem a0u(J:Jb)(v:V):look (eG J) v=((oq J).count v:Int):=by rw[a9c (xM J),Lh,XE]
theorem a4D{d:Dg}{g:LI0}:oq (jg d g)=(LV (jg d g)).map (qE d):=by
 unfold oq VG;rw[ahB.2 (fun l hl=>by obtain⟨q,_,rfl⟩:=a0P.1 hl;rfl),a5D]
 rfl
theorem ahg{d:Dg}(hJ:jW (dW [d])):LV (dW [d])=(List.range (vC d.ah)).map fun(k:Nat)=>jo d.ah k:=by unfold LV;refine ahB.2 fun q hq=>?_;have hp:=(Vx hJ).1 hq;rw[a0S,Vw hJ (qc hp)];intro k hk h0;exfalso;revert h0;show ¬0<=(List.replicate d.ah.length (-1:Int)).getD k 0;rw[a2R,aay,a0A (show k<d.ah.length from hk)];decide
theorem a4E{d:Dg}(hJ:jW (dW [d])):oq (dW [d])=cellsD d:=by have h:oq (dW [d])=(LV (dW [d])).map (qE d):=a4D;rw[h,ahg hJ,a5D];rfl
open Go Tw Pv bQ
theorem a0v{v:V}:xE v=vOk v:=by
 unfold xE vOk nI;by_cases c:(v.f==0)=true
 .rw[a0A c,a0A c];rw[a5c];simp[wC,tZ]
 rw[a0y c,a0y c]
section
variable {d:Dg} (hJ:jW (dW [d])) {v:V}
include hJ
variable {h:LI0} (h1:iU d.ah h=true) (h2:qE d h=v) (h3:∀ q,iU d.ah q=true->qE d q=v->gQ d.ah h<=gQ d.ah q)
end
open Go Tw Pv bQ
theorem a4F{d:Dg}(h:kP d=0):aX d=0∧o9 d=true:=by
 unfold kP at h;split at h
 .rename_i c;rw[h]at c;cases c
 rename_i c;refine⟨by simpa using c,?_⟩;split at h
 .cases h
 rename_i c2;simpa using c2
theorem a4G{d:Dg}(hr:Ij d)(h:kP d=0)(ho:d.aB.length<=au)(he:d.aJ.length+1<=au):d=ji d.ah d.aB (cellsD d)∧∀v∈d.aJ,v∈cellsD d:=by obtain⟨h0,h1⟩:=a4F h;obtain⟨ht,hn⟩:=iF ho (by omega) (by rw[h0];rfl);have hl:=EF ho (by omega) (by rw[h];rfl);have e1:=(JK ht hr (by unfold au at he;omega) hn).2 h1;have e2:=(Qc h0 ho (by omega)).1;rw[e1]at e2;refine⟨e2,fun v hv=>?_⟩;have hg:=VJ ⟨hr,by have:=hl.f.len;unfold au;omega,by unfold au at ho;omega,he⟩ h;rw[e2]at hv;exact(Bd (hl.of (Qn d)).1 fun v m=>(a9a hg.c v m).1).2.2.1 v hv
open Go Tw Pv bQ
theorem a9d{d:Dg}(hp:qG d)(h0:kP d=0){v:V}(hv:Fv v):vH (d,v)=(((cellsD d).count v:Int),0):=by
 have hk:bH [d]=0:=by rw[a2C hp];exact h0
 have hJ:jW (dW [d]):=yX (D:=[d]) (by simp) (by simp) (a4y hp) hk;show(if(bH [d] != 0)=true then((0:Int),bH [d])else if(kQ v != 0)=true then(0,4)else(look (eG (dW [d])) v,0))=_;have ev:kQ v=0:=by unfold kQ;rw[a0v,hv.1];rfl
 rw[hk,ev,a0y (by simp),a0y (by simp),a0u,a4E hJ]
open Go Tw Pv bQ
theorem a2E{α:Type}[DecidableEq α]{a b:List α}(h:a <+: b){v:α}(hv:v∈a):b.idxOf v=a.idxOf v:=by obtain⟨t,rfl⟩:=h;rw[a9p,a0A hv]
theorem a2F{α:Type}[DecidableEq α](a:List α)(v:α):(if v∈a then a else a++[v]).idxOf v=a.idxOf v:=by
 split
 .rfl
 rename_i h;rw[a9p,a0y h,a8e h];simp
theorem TY{σ:Type}{g h:Nat->σ->σ}:∀(m k:Nat) (s:σ),(∀j s,k<=j->j<k+m->g j s=h j s)->aO g m k s=aO h m k s
 | 0,_,_,_=>rfl
 |m+1,k,s,e=>by show aO g m (k+1) (g k s)=aO h m (k+1) (h k s);rw[e k s (a0K _) (by omega)];exact TY m (k+1) _ fun j s h1 h2=>e j s (by omega) (by omega)
theorem Qo{f:LI0->EN->Int×EN}{c:Int}{p:LI0}(hp:∀q x,Gn x (f q x).2)(hf:∀q x y,Gn (f q x).2 y->f q y=((f q x).1,y)):∀(m k:Nat) (ks:LI0) (x y:EN),Gn (aO (qy f c p) m k (ks,x)).2 y->aO (qy f c p) m k (ks,y)=((aO (qy f c p) m k (ks,x)).1,y)
 | 0,_,_,_,_,_=>rfl
 |m+1,k,ks,x,y,h=>by
  have hq:=bK (g:=qy f c p) (m:=m) (k:=k+1) (s:=qy f c p k (ks,x)) (fun _ z=>Gn (f (p.set c.toNat k) x).2 z.2) Gn.rfl (fun j z _ _ hz=>hz.trans (hp _ _));have h1:Gn (aO (qy f c p) m (k+1) (qy f c p k (ks,x))).2 y:=h;have e:qy f c p k (ks,y)=(ks++[(f (p.set c.toNat k) x).1],y):=by unfold qy;rw[hf _ x y (hq.trans h1)]
  show aO (qy f c p) m (k+1) (qy f c p k (ks,y))=((aO (qy f c p) m (k+1) (qy f c p k (ks,x))).1,y);rw[e];exact Qo hp hf m (k+1) _ _ y h1
theorem YA{s:LI0}{l:List V}:∀(r p:LI0) (x y:EN),Gn (eF s l r p x).2 y->eF s l r p y=((eF s l r p x).1,y)
 | [],p,x,y,h=>by
  have h1:fB x.1 (l.getD (gQ s p).toNat V0) <+: y.1:=h.1;have hv:l.getD (gQ s p).toNat V0∈fB x.1 (l.getD (gQ s p).toNat V0):=by
   unfold fB;split
   .assumption
   simp
  have e1:=a2E h1 hv;have e2:(fB x.1 (l.getD (gQ s p).toNat V0)).idxOf (l.getD (gQ s p).toNat V0)=x.1.idxOf (l.getD (gQ s p).toNat V0):=a2F _ _;have e3:fB y.1 (l.getD (gQ s p).toNat V0)=y.1:=a0A (h1.subset hv);simp only[eF,e3,e1,e2]
 |c::r,p,x,y,h=>by
  have hz:=Qo (f:=eF s l r) (c:=c) (p:=p) (fun q x=>JL r q x) (fun q x y h=>YA r q x y h) (s.getD c.toNat 0).toNat 0 [] x y ⟨h.1,(DU _ _ _).trans h.2⟩;have h2:og (aO (qy (eF s l r) c p) (s.getD c.toNat 0).toNat 0 ([],x)).2.2 c (aO (qy (eF s l r) c p) (s.getD c.toNat 0).toNat 0 ([],x)).1 <+: y.2:=h.2;simp only[eF,hz];generalize aO (qy (eF s l r) c p) (s.getD c.toNat 0).toNat 0 ([],x)=z at h2 ⊢;obtain⟨ks,E,N⟩:=z;unfold EL og at *;by_cases hf:(ks.all fun x=>x==ks.getD 0 0)=true
  .simp only[a0A hf]
  simp only[a0y hf]at h2 ⊢;have hm:(⟨c,ks⟩:Br)∈(if(⟨c,ks⟩:Br)∈N then N else N++[⟨c,ks⟩]):=by
   split
   .assumption
   simp
  rw[a0A (h2.subset hm),a2E h2 hm,a2F]
section
variable {s:LI0} {l:List V} {a:Nat} (hl:∀ q j,iU s q=true->0<=j->j<s.getD a 0->l.getD (gQ s (q.set a j)).toNat V0=l.getD (gQ s q).toNat V0)
include hl
theorem a9e{p:LI0}(hp:iU s p=true){k:Nat}{i:Int}(h:0<=i∧i<s.getD k 0):iU s (p.set k i)=true:=by
 by_cases hk:k<s.length
 .exact DI (ch:=(k:Int)) hp (aH hk) ⟨h.1,by rw[a5g];have:=h.1;have:=h.2;omega⟩
 rw[List.set_eq_of_length_le (by rw[qc hp];omega)];exact hp
theorem YB:∀(r p:LI0) (x:EN) (j:Int),iU s p=true->0<=j->j<s.getD a 0->eF s l r (p.set a j) x=eF s l r p x
 | [],p,x,j,hp,h0,h1=>by simp only[eF];rw[hl p j hp h0 h1]
 |c::r,p,x,j,hp,h0,h1=>by
  have e:aO (qy (eF s l r) c (p.set a j)) (s.getD c.toNat 0).toNat 0 ([],x)=aO (qy (eF s l r) c p) (s.getD c.toNat 0).toNat 0 ([],x):=by
   refine TY _ _ _ fun i z _ hi=>?_;unfold qy;by_cases hc:c.toNat=a
   .rw[hc,List.set_set]
   rw[List.set_comm _ _ (ahr hc),YB r _ _ j (a9e hl hp ⟨by omega,by omega⟩) h0 h1]
  simp only[eF,e]
theorem a2G:∀(r p:LI0) (x:EN),iU s p=true->(∀c∈r,fK c s.length)->∀b∈(eF s l r p x).2.2,b.var=(a:Int)->b∈x.2
 | [],p,x,_,_,b,hb,_=>hb
 |c::r,p,x,hp,hr,b,hb,hv=>by
  have hc:=hr c (by simp);have hi:=bK (g:=qy (eF s l r) c p) (m:=(s.getD c.toNat 0).toNat) (k:=0) (s:=([],x)) (fun _ z=>∀b∈z.2.2,b.var=(a:Int)->b∈x.2) (fun b hb _=>hb) (fun j z _ hj hz b hb hv=>hz b (a2G r _ z.2 (a9e hl hp ⟨by omega,by omega⟩) (fun c hc=>hr c (by simp[hc])) b hb hv) hv);have hk:c=(a:Int)->((aO (qy (eF s l r) c p) (s.getD c.toNat 0).toNat 0 ([],x)).1.all fun q=>q==(aO (qy (eF s l r) c p) (s.getD c.toNat 0).toNat 0 ([],x)).1.getD 0 0)=true:=fun e=>by
   have ea:c.toNat=a:=(by omega);have:=bK (g:=qy (eF s l r) c p) (m:=(s.getD c.toNat 0).toNat) (k:=0) (s:=([],x)) (fun j z=>(∀q∈z.1,q=(eF s l r p x).1)∧((j=0∧z.2=x)∨(0<j∧z.2=(eF s l r p x).2))) ⟨by simp,.inl ⟨rfl,rfl⟩⟩ (fun j z _ hj hz=>by
    obtain⟨h1,h2⟩:=hz;have e1:eF s l r (p.set c.toNat j) z.2=eF s l r p x:=by
     rw[ea,YB hl r p z.2 j hp (by omega) (by rw[<-ea];omega)];rcases h2 with⟨_,h2⟩|⟨_,h2⟩
     .rw[h2]
     rw[h2];exact YA r p x _ Gn.rfl
    refine⟨fun q hq=>?_,.inr ⟨by omega,?_⟩⟩
    .unfold qy at hq;rcases a3s.1 hq with hq|hq
     .exact h1 q hq
     rw[a2O.1 hq,e1]
    show(eF s l r (p.set c.toNat j) z.2).2=_;rw[e1])
   have h1:=this.1;generalize (aO (qy (eF s l r) c p) (s.getD c.toNat 0).toNat 0 ([],x)).1=ks at h1 ⊢;rw[a5a];intro q hq;have h0:0<ks.length:=ah4 hq;have hg:ks.getD 0 0∈ks:=by rw[a2R,a0d h0];exact a4X h0
   rw[h1 q hq,h1 _ hg];exact beq_self_eq_true _
  have hb:b∈og (aO (qy (eF s l r) c p) (s.getD c.toNat 0).toNat 0 ([],x)).2.2 c (aO (qy (eF s l r) c p) (s.getD c.toNat 0).toNat 0 ([],x)).1:=hb;unfold og at hb;split at hb
  .exact hi b hb hv
  rename_i iy;split at hb
  .exact hi b hb hv
  rcases a3s.1 hb with hb|hb
  .exact hi b hb hv
  rw[a2O.1 hb]at hv;exact absurd (hk hv) iy
theorem a4H{o:LI0}(hs:kU s)(ho:∀c∈o,fK c s.length):∀b∈(ji s o l).aj,b.var≠(a:Int):=fun b hb hv=>by have:=a2G hl o (List.replicate s.length 0) ([],[]) (DR hs) ho b hb hv;cases this
end
open Go Tw Pv bQ
def Kv(s:LI0):List LI0:=(List.range (vC s)).map fun(k:Nat)=>jo s k
theorem YC{α:Type}[DecidableEq α](φ ψ:α->Int):∀l:List α,bU (fun a=>φ a+ψ a) l=bU φ l+bU ψ l
 | []=>rfl
 |a::l=>by simp only[bU,YC φ ψ l];omega
theorem Qq{α:Type}[DecidableEq α](c:Int)(φ:α->Int):∀l:List α,bU (fun a=>c*φ a) l=c*bU φ l
 | []=>by simp[bU]
 |a::l=>by simp only[bU,Qq c φ l,Int.mul_add]
theorem U0{α:Type}[DecidableEq α]:∀l:List α,bU (fun _=>(0:Int)) l=0
 | []=>rfl
 |a::l=>by simp only[bU,U0 l];omega
theorem U1{α β:Type}[DecidableEq α][DecidableEq β](φ:α->β->Int):∀(l:List α) (m:List β),bU (fun a=>bU (φ a) m) l=bU (fun b=>bU (fun a=>φ a b) l) m
 | [],m=>by simp only[bU];rw[U0]
 |a::l,m=>by simp only[bU];rw[U1 φ l m,YC]
theorem YD{a:Int}{s:LI0}(h:kU (a::s)):Kv (a::s)=(List.range a.toNat).flatMap fun(k:Nat)=>(Kv s).map ((k:Int)::·):=by have ha:=h a (a2Z ..);have e1:=Gf h;have e2:=Gf h.tail;have e3:=a7o (f:=0) (t:=a-1) (fs:=s.map fun _=>0) (ts:=s.map (·-1)) (by omega);simp only[a4L]at e1;rw[e3,e2]at e1;unfold Kv;rw[<-e1,show a-1-0+1=a by omega];refine congrArg (fun g=>List.flatMap g _) (funext fun k=>?_);rw[ahy]
theorem U2:∀{s:LI0} (_:kU s) (φ:LI0->Int) (k:Nat),k<s.length->bU (fun(i:Nat)=>bU (fun p=>φ (p.set k (i:Int))) (Kv s)) (List.range (s.getD k 0).toNat)=s.getD k 0*bU φ (Kv s)
 | [],_,_,k,hk=>absurd hk (Nat.not_lt_zero _)
 |a::s,h,φ,0,_=>by have ha:=h a (a2Z ..);rw[YD h];simp only[Ez,uS,ahF,List.getD_cons_zero];rw[jY (φ':=fun(i:Nat)=>a*bU (fun q=>φ ((i:Int)::q)) (Kv s)) (fun i _=>by rw[xJ,a8Q];congr 1;omega),Qq]
 |a::s,h,φ,k+1,hk=>by rw[YD h];simp only[Ez,uS,List.set_cons_succ,List.getD_cons_succ];rw[U1,jY (φ':=fun(j:Nat)=>s.getD k 0*bU (fun q=>φ ((j:Int)::q)) (Kv s)) (fun j _=>U2 h.tail (fun q=>φ ((j:Int)::q)) k (by simpa using hk)),Qq]
theorem Kw{α:Type}[DecidableEq α](f:α->V)(v:V):∀l:List α,(((l.map f).count v:Nat):Int)=bU (fun a=>if f a=v then 1 else 0) l
 | []=>rfl
 |a::l=>by simp only[a4L,bU,List.count_cons,<-Kw f v l,a7h];split<;>push_cast<;>omega
theorem YE{s:LI0}(hs:kU s)(f:LI0->V)(v:V){k:Nat}(hk:k<s.length):bU (fun(i:Nat)=>((((Kv s).map fun p=>f (p.set k (i:Int))).count v:Nat):Int)) (List.range (s.getD k 0).toNat)=s.getD k 0*(((Kv s).map f).count v:Nat):=by rw[Kw,<-U2 hs (fun p=>if f p=v then 1 else 0) k hk];exact jY fun i _=>Kw _ _ _
open Go Tw Pv bQ
abbrev wLv(d:Dg)(x:LI0)(i:Int)(e:List (Nat×PE aG)):aU aG:=⟨[(1,.loc 0 0),(3,.val (.own 0)),(4,xi i)]++e,[d.ps],[.list true true 3 x]⟩
def gLv(d:Dg)(k:Nat)(x:LI0):LI0:=x.set (d.aj.getD k jZ).var.toNat (i64.wrap (x.getD (d.aj.getD k jZ).var.toNat 0+1))
def Lj(d:Dg):LI0:=aO (gLv d) d.aj.length 0 (List.replicate d.ah.length 0)
structure a9f(d:Dg):Prop where
 s:d.ah.length<=au
 n:d.aj.length<=au
 v:∀k,k<d.aj.length->fK (d.aj.getD k jZ).var d.ah.length
theorem lLv{n:Nat}(hO:Ok n ahc){d:Dg}(h:a9f d):Lp n 46 0 (wLv d (List.replicate d.ah.length 0) 0 []) (.exit 0) (wLv d (Lj d) d.aj.length [(13,xl false)]):=
 vS (n:=n) (f:=46) (k:=0) (B:=0) (σ:=LI0) (N:=d.aj.length) (g:=gLv d) (s0:=List.replicate d.ah.length 0) (st:=fun i x=>wLv d x i []) (e:=.exit 0) (fin:=fun x=>wLv d x d.aj.length [(13,xl false)]) (w:=wLv d (List.replicate d.ah.length 0) 0 []) (fun _ x=>x.length=d.ah.length) (by kernel_rfl) h.n (by simp) (fun k x _ ha=>by unfold gLv;rw[a4S];exact ha) (fun k x hk ha m e p g9=>by
  have i1:fK (d.aj.getD k jZ).var x.length:=by rw[show x.length=d.ah.length from ha];exact h.v k hk
  refine aN hO (.b (bD hk) (.o (aH hk) (.o i1 (.o i1 (.go g9)))))) (fun x _=>by
  refine aN hO (.b (fO d.aj.length) .ex))
def ahh:fF aG:=dw 46 (a1 dA) qO Lj (fun p=>[a9f p]) ahc
theorem arn:Gd ahh:=ark.add fun n hO d hp=>by
 have h:a9f d:=hp _ iD;have lp:=lLv hO h;have hs:=h.s;have i1:(d.ah.length:Int)=d.ah.length:=rfl;have i2:(0:Int)<=d.ah.length:=by omega
 have i3:(d.ah.length:Int)<=(au:Int):=by omega
 exact aP hO (.o i1 (.o i2 (.o i3 (.w lp .rr))))
theorem a9g{d:Dg}{a:Nat}(h:∀b∈d.aj,b.var≠(a:Int))(hv:∀k,k<d.aj.length->fK (d.aj.getD k jZ).var d.ah.length):(Lj d).getD a 0=0:=by
 have:=bK (g:=gLv d) (m:=d.aj.length) (k:=0) (s:=List.replicate d.ah.length 0) (fun _ x=>x.getD a 0=0) (by
  rw[a2R,aay];split<;>rfl) (fun k x _ hk hx=>by
  have hk:k<d.aj.length:=by omega
  have hm:=h _ (fC (d:=jZ) hk);have h2:=hv k hk;show(gLv d k x).getD a 0=0;unfold gLv;rw[a2R,a0R (by obtain⟨p1,_⟩:=h2;omega),<-a2R];exact hx)
 exact this
open Go Tw Pv bQ
section
variable {d:Dg} {c g:Int} (hP:qG d) (h0:kP d=0) (hc:fK c d.ah.length) (hg:0<=g∧g<d.ah.getD c.toNat 0)
include hP h0
theorem BN:uO d.ah:=(EF (by have:=hP.o;unfold au;omega) (by have:=hP.e;omega) (by rw[h0];rfl)).f
theorem amh(q:LI0):Fv (qE d q):=a2B (fun v hv=>(VJ hP h0).c v hv) _
include hc
theorem aea(g:Int):OfP d.ah d.aB (eH d c g)∧∀v∈eH d c g,Fv v:=by have hL:=EF (by have:=hP.o;unfold au;omega) (by have:=hP.e;omega) (by rw[h0];rfl);refine⟨(hL.of (by simp[eH])).1,fun v hv=>?_⟩;obtain⟨k,_,rfl⟩:=a0P.1 hv;exact amh hP h0 _
include hg
theorem a9h:iZ (d,c,g)=(ji d.ah d.aB (eH d c g),0):=by
 have ec:=a2C hP;have hs:bH [d]=0:=by rw[ec];exact h0
 have h6:=(BN hP h0).len;obtain⟨c0,c1⟩:=hc;have hz:=(BN hP h0).sz (d.ah.getD c.toNat 0) (cu (show c.toNat<d.ah.length by omega));have t1:(!(Gw 0 (i64.wrap ((d.ah.length:Int)-1)) c))=false:=by rw[a2D.2 ⟨c0,by rw[wrap_small (by omega) (by omega)];omega⟩];rfl
 have t2:(!(Gw 0 (i64.wrap (d.ah.getD c.toNat 0-1)) g))=false:=by rw[a2D.2 ⟨hg.1,by rw[wrap_small (by omega) (by omega)];omega⟩];rfl
 unfold iZ;show(if(bH [d] != 0)=true then(nO,bH [d])else if(!(Gw 0 (i64.wrap ((d.ah.length:Int)-1)) c))=true then(nO,3)else if(!(Gw 0 (i64.wrap (d.ah.getD c.toNat 0-1)) g))=true then(nO,3)else(EO (a0r d c g) op0,0))=_;rw[hs,a0y (by simp),a0y (by rw[t1];simp),a0y (by rw[t2];simp),ah0 hP hs ⟨c0,c1⟩ hg];rfl
omit hg
theorem a9i{q:LI0}(hq:iU d.ah q=true):(eH d c g).getD (gQ d.ah q).toNat V0=qE d (q.set c.toNat g):=by
 obtain⟨n0,n1⟩:=zM hq (BN hP h0).sz;have hl:(gQ d.ah q).toNat<vC d.ah:=by have:=(BN hP h0).ZY;omega
 unfold eH;rw[a2R,a4T,aem hl];show qE d ((jo d.ah ((gQ d.ah q).toNat:Int)).set c.toNat g)=_;rw[aek n0,Nj hq (BN hP h0).sz]
theorem ac2:∀q j,iU d.ah q=true->0<=j->j<d.ah.getD c.toNat 0->(eH d c g).getD (gQ d.ah (q.set c.toNat j)).toNat V0=(eH d c g).getD (gQ d.ah q).toNat V0:=fun q j hq j0 j1=>by rw[a9i hP h0 hc (DI hq hc ⟨j0,by omega⟩),a9i hP h0 hc hq,List.set_set]
include hg
theorem a0w:DgF (ji d.ah d.aB (eH d c g))∧a9f (ji d.ah d.aB (eH d c g))∧(Lj (ji d.ah d.aB (eH d c g))).getD c.toNat 0=0∧cellsD (ji d.ah d.aB (eH d c g))=eH d c g:=by
 obtain⟨hO,hv⟩:=aea hP h0 hc g;have hf:=ahe hO hv;have hL:=EF hf.f.o hf.f.e (by rw[hf.k];rfl);have YW:∀k,k<(ji d.ah d.aB (eH d c g)).aj.length->fK ((ji d.ah d.aB (eH d c g)).aj.getD k jZ).var (ji d.ah d.aB (eH d c g)).ah.length:=fun k hk=>by
  have hz:=DR (s:=(ji d.ah d.aB (eH d c g)).ah) (BN hP h0).sz;have:=(JH hL.t hz (r:=(k:Int)) (aH hk)).1
  rwa [a6B]at this
 refine⟨hf,⟨hf.f.s,hf.f.n,YW⟩,a9g ?_ YW,Qa hO fun v m=>(hv v m).1⟩;exact a4H (ac2 hP h0 hc) (BN hP h0).sz hO.p.1.ord
theorem a0x{j:Int}(hj:0<=j∧j<d.ah.getD c.toNat 0):iZ (ji d.ah d.aB (eH d c g),c,j)=(ji d.ah d.aB (eH d c g),0):=by
 obtain⟨hf,_,_,_⟩:=a0w hP h0 hc hg;obtain⟨hO,hv⟩:=aea hP h0 hc g;rw[a9h hf.p hf.k (c:=c) (g:=j) hc hj];have e:eH (ji d.ah d.aB (eH d c g)) c j=eH d c g:=by
  have e1:eH (ji d.ah d.aB (eH d c g)) c j=(List.range (vC d.ah)).map fun(k:Nat)=>qE (ji d.ah d.aB (eH d c g)) ((jo d.ah k).set c.toNat j):=rfl;rw[e1]
  conv=>rhs;unfold eH
  refine a5d fun k _=>?_;have hq:=DI (tY (k:Int) (BN hP h0).sz) hc (d:=j) ⟨hj.1,by omega⟩;rw[a2k hO (fun v m=>(hv v m).1) hq,a9i hP h0 hc hq,List.set_set]
 rw[e];rfl
end
theorem ahi{d:Dg}:cellsD d=(Kv d.ah).map (qE d):=by unfold cellsD Kv;rw[a5D];rfl
theorem ahj{d:Dg}{c g:Int}:eH d c g=(Kv d.ah).map fun p=>qE d (p.set c.toNat g):=by unfold eH Kv;rw[a5D];rfl
def LY(d:Dg)(c:Int)(v:V):Nat->Int
 | 0=>0
 |k+1=>LY d c v k+((eH d c k).count v:Nat)
theorem YF(d:Dg)(c:Int)(v:V):∀m:Nat,LY d c v m=bU (fun(i:Nat)=>(((eH d c i).count v:Nat):Int)) (List.range m)
 | 0=>rfl
 |m+1=>by rw[aaw,Du,LY,YF d c v m];simp[bU]
theorem a9j{d:Dg}(hs:kU d.ah){c:Int}(hc:fK c d.ah.length)(v:V):LY d c v (d.ah.getD c.toNat 0).toNat=d.ah.getD c.toNat 0*((cellsD d).count v:Nat):=by have:=YE hs (qE d) v (k:=c.toNat) (by obtain⟨a,b⟩:=hc;omega);rw[YF,ahi,<-this];exact jY fun i _=>by rw[ahj]
theorem a2H{d:Dg}(c:Int)(v:V):∀m:Nat,0<=LY d c v m∧LY d c v m<=m*(vC d.ah:Nat)
 | 0=>by simp[LY]
 |m+1=>by
  obtain⟨h1,h2⟩:=a2H (d:=d) c v m;have h3:(eH d c m).count v<=vC d.ah:=by have:=List.count_le_length (a:=v) (l:=eH d c m);simpa[eH]using this
  rw[LY];refine⟨by omega,?_⟩
  push_cast
  rw[agC];omega
open Go Tw Pv bQ
theorem ac3(d:Dg):(Lj d).length=d.ah.length:=by have:=bK (g:=gLv d) (m:=d.aj.length) (k:=0) (s:=List.replicate d.ah.length 0) (fun _ x=>x.length=d.ah.length) (by simp) (fun k x _ _ hx=>by show(gLv d k x).length=_;unfold gLv;rw[a4S];exact hx);exact this
abbrev wPa(d:Dg)(v:V)(w c s:Int)(i:Int)(e:List (Nat×PE aG)):aU aG:=⟨[(2,xu w),(3,.loc 0 0),(7,xi c),(8,.loc 1 0),(9,xi s),(10,xi i)]++e,[d.ps,v.ps],[]⟩
def gPa(d:Dg)(v:V)(c:Int)(k:Nat)(a:Int):Int:=i64.wrap (a+(vH ((iZ (d,c,(k:Int))).1,v)).1)
structure PaP(d:Dg)(v:V)(w c:Int):Prop where
 p:qG d
 z:kP d=0
 f:TU d
 c:fK c d.ah.length
 v:Fv v
 w:0<=w∧w<=255
theorem PaP.sz{d:Dg}{v:V}{w c:Int}(h:PaP d v w c):1<=d.ah.getD c.toNat 0∧d.ah.getD c.toNat 0<=12:=(BN h.p h.z).sz _ (cu (by obtain⟨a,b⟩:=h.c;omega))
theorem PaP.many{d:Dg}{v:V}{w c:Int}(h:PaP d v w c){k:Nat}(hk:k<(d.ah.getD c.toNat 0).toNat):vH ((iZ (d,c,(k:Int))).1,v)=((((eH d c k).count v:Nat):Int),0):=by have hg:0<=(k:Int)∧(k:Int)<d.ah.getD c.toNat 0:=⟨by omega,by omega⟩;obtain⟨hf,_,_,e⟩:=a0w h.p h.z h.c hg;rw[a9h h.p h.z h.c hg];show vH (ji d.ah d.aB (eH d c k),v)=_;rw[a9d hf.p hf.k h.v,e]
theorem PaP.step{d:Dg}{v:V}{w c:Int}(h:PaP d v w c){k:Nat}(hk:k<(d.ah.getD c.toNat 0).toNat):gPa d v c k (LY d c v k)=LY d c v (k+1):=by have h1:=a2H (d:=d) c v (k+1);have h2:=h.sz;have hF:=BN h.p h.z;have h3:=hF.ZY;have h4:=hF.many;have h5:((k+1:Nat):Int)*(vC d.ah:Nat)<=12*(vC d.ah:Nat):=a8Y (by omega) (by omega);unfold gPa;rw[h.many hk];show i64.wrap (LY d c v (k+1))=_;rw[wrap_small (by omega) (by omega)]
theorem lPa{n:Nat}(hO:Ok n ahh){d:Dg}{v:V}{w c:Int}(h:PaP d v w c):Lp n 8 0 (wPa d v w c 0 0 []) (.exit 0) (wPa d v w c (d.ah.getD c.toNat 0*((cellsD d).count v:Nat)) ((d.ah.getD c.toNat 0).toNat:Int) [(62,xl false)]):=by
 have hz:=h.sz;have e0:(((d.ah.getD c.toNat 0).toNat:Nat):Int)=d.ah.getD c.toNat 0:=by omega
 have hinv:=bK (g:=gPa d v c) (m:=(d.ah.getD c.toNat 0).toNat) (k:=0) (s:=(0:Int)) (fun k a=>a=LY d c v k) rfl (fun k a _ hk ha=>by rw[ha];exact h.step (by omega));rw[a3T,a9j (BN h.p h.z).sz h.c v]at hinv;have:=vS (n:=n) (f:=8) (k:=0) (B:=0) (σ:=Int) (N:=(d.ah.getD c.toNat 0).toNat) (g:=gPa d v c) (s0:=0) (st:=fun i a=>wPa d v w c a i []) (e:=.exit 0) (fin:=fun a=>wPa d v w c a ((d.ah.getD c.toNat 0).toNat:Int) [(62,xl false)]) (w:=wPa d v w c 0 0 []) (fun _ _=>True) (by kernel_rfl) (by unfold au;omega) trivial (fun _ _ _ _=>trivial) (fun k a hk _ m e p g9=>by
  have hg:0<=(k:Int)∧(k:Int)<d.ah.getD c.toNat 0:=⟨by omega,by omega⟩;have t1:decide ((k:Int)<d.ah.getD c.toNat 0)=true:=decide_eq_true hg.2;have er:=a9h h.p h.z h.c hg;obtain⟨hf,hl,hv0,_⟩:=a0w h.p h.z h.c hg;have r1:((iZ (d,c,(k:Int))).2 != 0)=false:=by rw[er];rfl
  have o1:(iZ (d,c,(k:Int))).1.aB.length<=au:=by rw[er];exact hf.f.o
  have o2:(iZ (d,c,(k:Int))).1.aJ.length<=au:=by rw[er];exact hf.f.e
  have r2:(kP (iZ (d,c,(k:Int))).1 != 0)=false:=by rw[er];show(kP (ji d.ah d.aB (eH d c k)) != 0)=false;rw[hf.k];rfl
  have r3:(((iZ (d,c,(k:Int))).1.ah.length:Int) != (d.ah.length:Int))=false:=by rw[er];show((d.ah.length:Int) != (d.ah.length:Int))=false;simp
  have l1:a9f (iZ (d,c,(k:Int))).1:=by rw[er];exact hl
  have l2:fK c (Lj (iZ (d,c,(k:Int))).1).length:=by rw[er,ac3];exact h.c
  have r4:((Lj (iZ (d,c,(k:Int))).1).getD c.toNat 0 != 0)=false:=by rw[er];show((Lj (ji d.ah d.aB (eH d c k))).getD c.toNat 0 != 0)=false;rw[hv0];rfl
  have f2:TU (iZ (d,c,(k:Int))).1:=by rw[er];exact hf.f
  have n0:d.ah.getD c.toNat 0≠0:=by omega
  have p1:qG (iZ (d,c,(k:Int))).1:=by rw[er];exact hf.p
  have em:wV .i64 (i64.wrap w) (d.ah.getD c.toNat 0)=w%d.ah.getD c.toNat 0:=by have:=h.w;rw[wrap_small (by omega) (by omega),V5 (by omega) (by omega) (by omega)]
  have ea:iZ ((iZ (d,c,(k:Int))).1,c,wV .i64 (i64.wrap w) (d.ah.getD c.toNat 0))=((iZ (d,c,(k:Int))).1,0):=by rw[er,em];exact a0x h.p h.z h.c hg ⟨ac9 _ n0,adW _ (by omega)⟩
  have f3:TU (iZ ((iZ (d,c,(k:Int))).1,c,wV .i64 (i64.wrap w) (d.ah.getD c.toNat 0))).1:=by rw[ea];exact f2
  have r5:(!(if((iZ ((iZ (d,c,(k:Int))).1,c,wV .i64 (i64.wrap w) (d.ah.getD c.toNat 0))).2==0)=true then a4B (iZ ((iZ (d,c,(k:Int))).1,c,wV .i64 (i64.wrap w) (d.ah.getD c.toNat 0))).1 (iZ (d,c,(k:Int))).1 else false))=false:=by rw[ea];show(!(a4B (iZ (d,c,(k:Int))).1 (iZ (d,c,(k:Int))).1))=false;rw[a9b];rfl
  have r6:((vH ((iZ (d,c,(k:Int))).1,v)).2 != 0)=false:=by rw[h.many hk];rfl
  refine aN hO (.o h.c (.b t1 (.o h.f (.o h.p (.b r1 (.o o1 (.o o2 (.b r2 (.b r3 (.o l1 (.o l2 (.b r4 (.o f2 (.o h.c (.o n0 (.o p1 (.o p1 (.o f3 (.b r5 (.b r6 (.go g9)))))))))))))))))))))) (fun a _=>by
  have t1:decide ((((d.ah.getD c.toNat 0).toNat:Nat):Int)<d.ah.getD c.toNat 0)=false:=by rw[e0];simp
  refine aN hO (.o h.c (.b t1 .ex)))
 rw[hinv]at this;exact this
open Go Tw Pv bQ
def oc8:fF aG:=dw 8 (a3 dA uA uA) tA (fun _=>true) (fun p=>[Ij p.1,(0<=p.2.1∧p.2.1<=255)∧0<=p.2.2∧p.2.2<=255]) ahh
theorem gc8:Gd oc8:=arn.add fun n hO p hp=>by
 obtain⟨d,c,w⟩:=p;have hr:Ij d:=hp _ iD;obtain⟨⟨c0,c1⟩,w0,w1⟩:(0<=c∧c<=255)∧0<=w∧w<=255:=hp _ Ah;cases ht:(!(Ku d))
 .have ht:Ku d=true:=by simpa using ht
  obtain⟨hf,h1,h2,h3,h4⟩:=Yy ht;have hP:=ahf ht hr;have ho:d.aB.length<=au:=hf.o;have he:d.aJ.length<=au:=hf.e;cases e1:(kP d != 0)
  .have h0:kP d=0:=(by simpa using e1);cases e2:((d.ah.length:Int)==0)
   .cases e3:((d.aJ.length:Int)==0)
    .have s0:(d.ah.length:Int)≠0:=(by simpa using e2);have n0:(d.aJ.length:Int)≠0:=(by simpa using e3);have ec:wV .i64 (i64.wrap c) (d.ah.length:Int)=c%(d.ah.length:Int):=by rw[wrap_small (by omega) (by omega),V5 c0 (by omega) (by omega)]
     have ic:fK (wV .i64 (i64.wrap c) (d.ah.length:Int)) d.ah.length:=by rw[ec];exact⟨ac9 _ s0,adW _ (by omega)⟩
     have er:wV .i64 (i64.wrap w) (d.aJ.length:Int)=w%(d.aJ.length:Int):=by rw[wrap_small (by omega) (by omega),V5 w0 (by omega) (by omega)]
     have i1:fK (wV .i64 (i64.wrap w) (d.aJ.length:Int)) d.aJ.length:=by rw[er];exact⟨ac9 _ n0,adW _ (by omega)⟩
     have hm:d.aJ.getD (wV .i64 (i64.wrap w) (d.aJ.length:Int)).toNat V0∈d.aJ:=fC (by obtain⟨a,b⟩:=i1;omega);have hc:=List.count_pos_iff.2 ((a4G hr h0 ho (by unfold au;omega)).2 _ hm);have hv:=(VJ hP h0).c _ hm;generalize hv0:d.aJ.getD (wV .i64 (i64.wrap w) (d.aJ.length:Int)).toNat V0=v at hc hv;generalize hk0:wV .i64 (i64.wrap c) (d.ah.length:Int)=k at ic;have h:PaP d v w k:=⟨hP,h0,hf,ic,hv,w0,w1⟩;have lp:=lPa hO h;have hz:=h.sz;have hF:=BN hP h0;have hq:=hF.ZY;have hy:=hF.many;have hl:(cellsD d).count v<=vC d.ah:=by
      have:=List.count_le_length (a:=v) (l:=cellsD d)
      rwa [Qn]at this
     have hb:d.ah.getD k.toNat 0*((cellsD d).count v:Nat)<=12*((cellsD d).count v:Nat):=a8Y (by omega) (by omega);have zi:0<=d.ah.getD k.toNat 0*((cellsD d).count v:Nat):=aee (by omega) (by omega);have qm:=a9d hP h0 hv;have r1:((vH (d,v)).2==0)=true:=by rw[qm];rfl
     have r2:decide ((vH (d,v)).1>0)=true:=by rw[qm,a0S];show(((cellsD d).count v:Nat):Int)>0;omega
     have r3:(d.ah.getD k.toNat 0*(((cellsD d).count v:Nat):Int)==i64.wrap (d.ah.getD k.toNat 0*(vH (d,v)).1))=true:=by rw[qm];show(_==i64.wrap (d.ah.getD k.toNat 0*(((cellsD d).count v:Nat):Int)))=true;rw[wrap_small (by omega) (by omega)];exact beq_self_eq_true _
     subst hv0 hk0;exact aP hO (.b (congrArg Bool.not ht) (.o ho (.o he (.b e1 (.b e2 (.b e3 (.o s0 (.o n0 (.o i1 (.w lp (.o hf (.o hP (.b r1 (.b r2 (.o ic (.b r3 .rr))))))))))))))))
    .exact aP hO (.b (congrArg Bool.not ht) (.o ho (.o he (.b e1 (.b e2 (.b e3 .rr))))))
   .exact aP hO (.b (congrArg Bool.not ht) (.o ho (.o he (.b e1 (.b e2 .rr)))))
  .exact aP hO (.b (congrArg Bool.not ht) (.o ho (.o he (.b e1 .rr))))
 .exact aP hO (.b ht .rr)
open Go Tw Pv
section
variable {H:Type} {nH:LI2×LI3->H} {w:LI4}
abbrev RdX(nH:LI2×LI3->H)(w:LI4)(g t:Nat){α:Type}(ps:α->List (PV aG))(Q:α->Prop):Prop:=RdP nH X0 Tryz.prog w g t ps Q
theorem a2I:Tryz.prog.cellsOf 3=1:=by kernel_rfl
theorem aro:Tryz.prog.cellsOf 5=1:=by kernel_rfl
theorem aed:Tryz.prog.cellsOf 39=2:=by kernel_rfl
theorem zI0:dF Tryz.prog 3=some 1:=by kernel_rfl
theorem ac4{g:Nat}:RdX nH w (g+1) 3 (fun n:Int=>[.int .i64 n]) (fun n=>(Lit.int .i64 n).wf=true):=a1O Tryz.underlying3
theorem rU8{g:Nat}:RdX nH w (g+1) 5 (fun n:Int=>[.int .u8 n]) (fun n=>0<=n∧n<=255):=(a1O Tryz.underlying5).iso id (fun _=>rfl) fun n h=>by simp only[Lit.wf,a1R,a0S]at h;exact h
theorem a9k{g:Nat}:RdX nH w (g+2) 22 (fun l:LI0=>[lI l]) (fun l=>∀a∈l,(Lit.int .i64 a).wf=true):=PD (e:=3) Tryz.underlying22 a2I zI0 (by decide) (fun _=>rfl) ac4
theorem arq{g:Nat}:RdX nH w (g+2) 39 V.ps (fun v=>0<=v.f∧v.f<=255):=
 (Gi Tryz.underlying39 aed (fun _=>rfl) (rQ rfl aro (fun _=>rfl) rU8 (rQ rfl a2I (fun _=>rfl) ac4 Va))).iso (fun x=>⟨x.1,x.2.1⟩) (fun _=>rfl) fun _ h=>h.1
theorem amj:dF Tryz.prog 39=some 2:=by kernel_rfl
theorem amk{g:Nat}:RdX nH w (g+3) 23 (fun l:List V=>[lV l]) (fun l=>∀v∈l,0<=v.f∧v.f<=255):=PD (e:=39) Tryz.underlying23 aed amj (by decide) (fun _=>rfl) arq
theorem ahk:Tryz.prog.cellsOf 22=1:=by kernel_rfl
end
open Go Tw Pv bQ
section
variable {H:Type} {nH:LI2×LI3->H} {w:LI4}
theorem aml:Tryz.prog.cellsOf 105=2:=by kernel_rfl
theorem ars:dF Tryz.prog 105=some 2:=by kernel_rfl
theorem amm:Tryz.prog.cellsOf 24=1:=by kernel_rfl
theorem aru:Tryz.prog.cellsOf 23=1:=by kernel_rfl
theorem arv:Tryz.prog.cellsOf 26=5:=by kernel_rfl
theorem rBr{g:Nat}:RdX nH w (g+3) 105 Br.ps (fun b=>∀a∈b.aA,(Lit.int .i64 a).wf=true):=
 (Gi Tryz.underlying105 aml (fun _=>rfl) (rQ rfl a2I (fun _=>rfl) ac4 (rQ rfl ahk (fun _=>rfl) a9k Va))).iso (fun x=>⟨x.1,x.2.1⟩) (fun _=>rfl) fun _ h=>h.2.1
theorem arw{g:Nat}:RdX nH w (g+4) 24 (fun l:List Br=>[lBr l]) (fun l=>∀b∈l,∀a∈b.aA,(Lit.int .i64 a).wf=true):=PD (e:=105) Tryz.underlying24 aml ars (by decide) (fun _=>rfl) rBr
theorem a9l{a:Int}(h:(Lit.int .i64 a).wf=true):Gm a:=by
 simp only[Lit.wf,a1R,a0S]at h;obtain⟨h1,h2⟩:=h;have e1:i64.min=-(2^63):=by decide
 have e2:i64.max=2^63-1:=by decide
 exact⟨by omega,by omega⟩
theorem rDg{g:Nat}:RdX nH w (g+5) 26 Dg.ps Ij:=
 (Gi Tryz.underlying26 arv (fun _=>rfl) (rQ rfl ahk (fun _=>rfl) a9k (rQ rfl ahk (fun _=>rfl) a9k (rQ rfl aru (fun _=>rfl) amk (rQ rfl amm (fun _=>rfl) arw (rQ rfl a2I (fun _=>rfl) ac4 Va)))))).iso (fun x=>⟨x.1,x.2.1,x.2.2.1,x.2.2.2.1,x.2.2.2.2.1⟩) (fun _=>rfl) fun x h=>by
  obtain⟨_,_,h3,h4,h5,_⟩:=h;refine⟨fun i hi k hk=>?_,a9l h5,fun v hv=>(h3 v hv).1⟩;have hb:fD ⟨x.1,x.2.1,x.2.2.1,x.2.2.2.1,x.2.2.2.2.1⟩ i∈x.2.2.2.1:=by show(x.2.2.2.1).getD i jZ∈_;rw[List.getD,a0d hi];exact a4X _
  refine a9l (h4 _ hb _ ?_);rw[List.getD,a0d hk];exact a4X _
end
open Go.ChangeShapes Go.WideShapes Go.ChangeAt Go.RowKit
theorem Tryz.own:ownKnob Tryz.prog.godebug=none:=by kernel_rfl
theorem Tryz.laidOut:laidOutB Tryz.prog=true:=by kernel_rfl
theorem Tryz.mixed:Tryz.prog.follows .mixedOrders=true:=by kernel_rfl
theorem ahl:iG Tryz.prog T.ext:=by
 show iG Tryz.prog afG;intro fv args h v h' ws hc;unfold afG at hc;split at hc
 .split at hc
  .exact aaA (Zt (T:=Tm) Tryz.mixed (fun _ _ _ _ _ _ h=>by cases h) 2) _ _ _ _ _ _ hc
  exact Xv acJ _ _ _ _ _ _ hc
 exact Xv acJ _ _ _ _ _ _ hc
theorem Tryz.tys8:Tryz.f8.params.toList=[26,5,5]:=by kernel_rfl
set_option maxRecDepth 100000 in
theorem II(os:Os)(started:os.Started)(H:Type)(enc:LI2×LI3->H) :
  ReturnsInHanded {} Tryz.checked os 8 .any (Rows.applyPartsSpec.pre6 enc Tryz.prog Tryz.f8 Rows.applyPartsRow.domain false) (Rows.applyPartsSpec.post enc Tryz.prog Tryz.f8 false true false false):=by
 refine returnsInHanded_of_change (C:=Tryz.checked) Tryz.own started (by kernel_rfl) Tryz.func8
  (ChangeSpec.witness6 (enc:=enc) (C:=Tryz.checked) false ⟨#[],#[.agg #[.slice none 0 0,.slice none 0 0,.slice none 0 0,.slice none 0 0,.int .i64 0],.int .u8 0,.int .u8 0],[]⟩ 8 (by kernel_rfl) (by kernel_rfl) (by kernel_rfl) (by kernel_rfl)) ?_
 intro W base args ds gs before amn hW avN _;have WW:∀(j:Nat) t v,Tryz.f8.params[j]? = some t->args[j]? = some v->Value.okWide Tryz.prog W .any base t v:=amn;have hW':=hW;obtain⟨p,q,arx,hV,rfl,hfz,jF⟩:=hW;have hTA:DataW.TrodAll enc Tryz.prog W 0 (fun _=>true) true Tryz.f8.params.toList args.toList ds p:=arx;obtain⟨rfl,rfl⟩:=trodVars_none hV;rw[Tryz.tys8]at hTA;obtain⟨d0,_,rfl,r0,_,_,hTA⟩:=Jv hTA;obtain⟨d1,_,rfl,r1,_,_,hTA⟩:=Jv hTA;obtain⟨d2,_,rfl,r2,_,_,hTA⟩:=Jv hTA;obtain⟨_,rfl,_⟩:=trodAll_nil hTA;obtain⟨a0,q0,h0⟩:=rDg (g:=2) d0 r0;obtain⟨a1,q1,h1⟩:=rU8 (g:=6) d1 r1;obtain⟨a2,q2,h2⟩:=rU8 (g:=6) d2 r2;obtain⟨x0,e0,g0,v0⟩:=h0 ([]);obtain⟨x1,e1,g1,v1⟩:=h1 ([]++e0);obtain⟨x2,e2,g2,v2⟩:=h2 ([]++e0++e1);have w0:=v0 (e1++e2);simp only[a5y,a9t,a5B]at w0;have w1:=v1 (e2);simp only[a5y,a9t,a5B]at w1;obtain⟨y1,_,rfl,u1,z1⟩:=w1.inv;cases z1.inv0;have w2:=v2 ([]);simp only[a5y,a9t,a5B]at w2;obtain⟨y2,_,rfl,u2,z2⟩:=w2.inv;cases z2.inv0;obtain⟨N,hN⟩:=gc8;have arz:=hN (N+1) (by omega) 8 ((Pv.a3 dA uA uA).put (a0,a1,a2)) (tA.put true) [] [Ij a0,(0<=a1∧a1<=255)∧0<=a2∧a2<=255] rfl (by
  intro p hp;simp only[a1z,List.not_mem_nil,or_false]at hp;rcases hp with rfl|rfl
  .exact q0
  .exact⟨q1,q2⟩)
 obtain⟨h',hr⟩:=afC (h:=[]++e0++e1++e2) arz (by simp only[a5y,a9t,a5B];exact .cons (.agg w0.1 w0.2) (.cons u1 (.cons u2 .nil)));exact Zu (P:=Tryz.prog) (T:=T) (L:=LL) (n:=N) (g:=7) Tryz.mixed Tryz.laidOut rfl rfl (by kernel_rfl) Tryz.underlying4 (by kernel_rfl) hW' WW
  (by rw[Tryz.tys8];exact(afA (by kernel_rfl) g0 (a7p (by kernel_rfl) g1 (a7p (by kernel_rfl) g2 afB)))) ahl (by kernel_rfl) (by kernel_rfl) hr
theorem IJ:joinedFacts Tryz.pinned.checked.prog 8 Tryz.f8 Rows.applyPartsSpec Rows.applyPartsRow=true:=by kernel_rfl
theorem ApplyParts_holds:Rows.ApplyPartsSaid:=
 OpenClaim.holds_of_wide 8 Tryz.f8 rfl rfl rfl rfl rfl rfl rfl ⟨rfl,rfl,rfl,rfl,rfl⟩ rfl rfl rfl rfl rfl (by kernel_rfl) Tryz.func8 IJ
  (a88 (by kernel_rfl)) (by unfold Func.isWrapper;first|(rw[a0A (by decide +kernel)];kernel_rfl)|(rw[a0y (by decide +kernel)];exact⟨rfl,rfl⟩))
  (fun os started H enc _=>II os started H enc)
end Go.Proofs.YtmobpoiejckagaaGreat
