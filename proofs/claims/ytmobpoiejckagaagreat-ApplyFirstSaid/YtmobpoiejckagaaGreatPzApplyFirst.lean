/- At the first place the diagram has the cell, and at no place before it; for all diagrams, and a cell of theirs by a number. -/
import Derived.ProofKit
import Derived.Test.YtmobpoiejckagaaGreatRows
import Derived.Test.YtmobpoiejckagaaGreatP05
set_option linter.constructorNameAsVariable false
set_option linter.unusedVariables false
set_option linter.unusedSimpArgs false
set_option linter.unusedSectionVars false
open Go.IntKind (i64)
noncomputable section
namespace Go.Proofs.YtmobpoiejckagaaGreat
open Go Tw Pv cO
abbrev vF:PV aF:=.fn 139 [] [.ptr 1 0 1]
abbrev a7R:Code:=(SN Qp 138).body
abbrev afI:Code:=(SN Qp 139).body
abbrev lpW:Code:=eF (eF (eG afI))
abbrev xW:Code:=eF (eG (eG lpW))
abbrev a7S:List (Nat×PE aF):=[(2,.val (.ptr 2 0 1)),(4,.val (.nil .slc)),(6,.val vF)]
abbrev Py(rd:Bool)(jD:Option Code):PB aF:=.loop rd 138 (BG Qp 138) a7S [7] (wU Qp 138) (Aw Qp 138) jD
abbrev H3(t:List (V×Int))(x:PV aF):List (PB aF):=[.iE (kV.im t),.aC [.map 0],.cells [x]]
theorem one_le(w:Int):[w].length<=ah:=by rw[a3P];unfold ah;omega
theorem apE{n:Nat}(t:List (V×Int))(w:Int):aX X0 Qp (bP (n+1)) (.kF 4) [.int .i64 w] (H3 t (.nil .slc)++[.mark,Py true none]) (.bool true) (H3 t (.own 6)++[.mark,Py true none,.list true true 3 [w],.list true false 3 [w]]):=by
 have q1:dN X0 Qp T (bP n) LL 138 true (BG Qp 138) 5 (wU Qp 138) ⟨ug a7S [7] [.int .i64 w],[],H3 t (.nil .slc)++[.mark,Py true none]⟩ .norm ⟨[(2,.val (.ptr 2 0 1)),(5,xi w)],[],H3 t (.nil .slc)++[.mark,Py true none]⟩:=yc hX fZ (by kernel_rfl) .xx;have q2:dN X0 Qp T (bP n) LL 138 true (BG Qp 138) 5 (Aw Qp 138) ⟨[(2,.val (.ptr 2 0 1)),(5,xi w)],[],H3 t (.nil .slc)++[.mark,Py false none]⟩ .norm ⟨[],[],H3 t (.own 6)++[.mark,Py false none,.list true true 3 [w],.list true false 3 [w]]⟩:=yc hX fZ (by kernel_rfl) (.o (one_le w) .xx);exact GX hX (l:=4) rfl rfl (by kernel_rfl) q1 rfl q2 rfl
theorem apF{n:Nat}(t:List (V×Int))(l:List Int)(w:Int)(hl:l.length+[w].length<=ah):aX X0 Qp (bP (n+1)) (.kF 4) [.int .i64 w] (H3 t (.own 5)++[.mark,Py true none,.list false false 3 l]) (.bool true) (H3 t (.own 7)++[.mark,Py true none,.gone,.list true true 3 [w],.list false false 3 (l++[w])]):=by
 have q1:dN X0 Qp T (bP n) LL 138 true (BG Qp 138) 6 (wU Qp 138) ⟨ug a7S [7] [.int .i64 w],[],H3 t (.own 5)++[.mark,Py true none,.list false false 3 l]⟩ .norm ⟨[(2,.val (.ptr 2 0 1)),(5,xi w)],[],H3 t (.own 5)++[.mark,Py true none,.list false false 3 l]⟩:=yc hX fZ (by kernel_rfl) .xx;have q2:dN X0 Qp T (bP n) LL 138 true (BG Qp 138) 6 (Aw Qp 138) ⟨[(2,.val (.ptr 2 0 1)),(5,xi w)],[],H3 t (.own 5)++[.mark,Py false none,.list false false 3 l]⟩ .norm ⟨[],[],H3 t (.own 7)++[.mark,Py false none,.gone,.list true true 3 [w],.list false false 3 (l++[w])]⟩:=yc hX fZ (by kernel_rfl) (.o hl .xx);exact GX hX (l:=4) rfl rfl (by kernel_rfl) q1 rfl q2 rfl
def Eh(t:List (V×Int))(js:List Nat):List Int:=js.reverse.map fun j=>(Px t j).2
theorem a3C(t:List (V×Int))(j:Nat)(js:List Nat):Eh t (j::js)=Eh t js++[(Px t j).2]:=by simp[Eh]
abbrev sWl(t:List (V×Int))(l:List Int)(js:List Nat):aS aF:=match l with
 | []=>⟨[(0,.val (.kF 4)),(6,.val (.iter 5))],[],H3 t (.nil .slc)++[.mark,Py true none,.cZ 0 t.length js]⟩
 |x::l=>⟨[(0,.val (.kF 4)),(6,.val (.iter 5))],[],H3 t (.own 6)++[.mark,Py true none,.cZ 0 t.length js,.list false false 3 (x::l)]⟩
section
variable {n:Nat} {t:List (V×Int)}
set_option maxRecDepth 20000 in
theorem aaI(h:Jt t):aK X0 Qp T (bP (n+1)) Ce LL 139 (BG Qp 139) 5 (.block 0 (.loop lpW)) (sWl t [] [])
  fun e s=>e=.norm∧∃l seen,l.Perm (t.map (·.2))∧s={ sWl t l seen with env:=iY (T.iy 139 1) ((8,.val (.bool false))::(7,.val (.dI [.bool false]))::(sWl t l seen).env) }:=by
 have e1:lpW=.seq (.region 1 (a7G (eF lpW)) false) (.seq (.cond (.tmp 8) .skip (.exit 0)) (.block 1 xW)):=by kernel_rfl
 have hlen:=h.len;rw[e1];refine Pn hX (n:=t.length) (b:=5) (r:=0) (it:=6) (nx:=7) (mo:=8) (es:=kV.im t) (fun seen s=>seen.Nodup∧(∀j∈seen,j<t.length)∧∃gs,kZ 5 gs (gG X0 (T.eH 139 (dU lpW)) s)=some (sWl t (Eh t seen) seen)) (by kernel_rfl) (a7p (by kernel_rfl)) (a7p (by kernel_rfl)) (kV.oV t) (by unfold LL;omega)
  ⟨a5F,(fun j hj=>(by cases hj)),[],(by kernel_rfl)⟩ (fun seen s hi=>?_)
 obtain⟨jm,aQ,gs,h3⟩:=hi;rw[<-e1];refine⟨gs,_,h3,?_,?_,?_,fun ho=>?_,fun j e hj he=>?_⟩
 .cases Eh t seen<;>kernel_rfl
 .cases Eh t seen<;>kernel_rfl
 .cases Eh t seen<;>kernel_rfl
 .refine⟨?_,Eh t seen,seen,?_,rfl⟩
  .cases Eh t seen<;>kernel_rfl
  .have hp:(seen.reverse).Perm (List.range t.length):=(List.reverse_perm seen).trans ((a7c jm adA).2 fun j=>⟨fun h=>a4b.2 (aQ j h),fun h=>ho j (a4b.1 h)⟩);unfold Eh
   conv=>rhs;rw[afE t]
   rw[a6r];exact hp.map _
 .rw[kV.AU,a06]at he;obtain⟨⟨v,w⟩,rQ,rfl⟩:=he;obtain⟨q1,q2,q3⟩:=V5 rQ;have FK:(j::seen).Nodup:=a3Z.2 ⟨hj,jm⟩;have FM:∀k∈j::seen,k<t.length:=fun k hk=>by
   rcases a2e.1 hk with rfl|hk
   .exact q2
   .exact aQ k hk
  have hll:(Eh t seen).length<=2000:=by
   have h2:seen.length<=t.length:=by
    have:=(Jr jm aQ).length_eq;have h3:=a8Q (fun j=>seen.contains j) (List.range t.length);rw[a8E]at h3;omega
   have h1:(Eh t seen).length=seen.length:=(by simp[Eh]);omega
  have Dv:=a3C t j seen;rw[q1]at Dv;have Dv:Eh t (j::seen)=Eh t seen++[w]:=Dv;generalize Eh t seen=l at Dv hll;cases l with
  |nil=>
   refine⟨by kernel_rfl,aK.step (e:=.norm) (by kernel_rfl) (zJ (ps1:=⟨[(0,.val (.kF 4)),(6,.val (.iter 5)),(14,xl false)],[],H3 t (.own 7)++[.mark,Py true none,.cZ 0 t.length (j::seen),.list true true 3 [w],.list true false 3 [w]]⟩) hX fZ (by kernel_rfl) (.c (.dI [.agg v.ps,.int .i64 w]) [] (AY rQ) (.fr [0,1,2,3,4] (apE (n:=n) t w) (.b (rfl:(!true)=false) (.r rfl))))) ⟨.inl rfl,FK,FM,[.flag 7,.gc [5,7]],?_⟩⟩;rw[Dv]
   kernel_rfl
  |cons x l=>
   have a1:(x::l).length+[w].length<=ah:=by rw[a3P];unfold ah;omega
   refine⟨by kernel_rfl,aK.step (e:=.norm) (by kernel_rfl) (zJ (ps1:=⟨[(0,.val (.kF 4)),(6,.val (.iter 5)),(14,xl false)],[],H3 t (.own 8)++[.mark,Py true none,.cZ 0 t.length (j::seen),.gone,.list true true 3 [w],.list false false 3 (x::l++[w])]⟩) hX fZ (by kernel_rfl) (.c (.dI [.agg v.ps,.int .i64 w]) [] (AY rQ) (.fr [0,1,2,3,4,6] (apF (n:=n) t (x::l) w a1) (.b (rfl:(!true)=false) (.r rfl))))) ⟨.inl rfl,FK,FM,[.gc [5,8]],?_⟩⟩;rw[Dv]
   kernel_rfl
end
open Go Tw Pv cO
def rO(t:List (V×Int)):List Int:=yX (fun n=>[n]) (t.map fun e:V×Int=>e.2)
abbrev Qn(n:Int):TV:=.int .i64 n
abbrev KY(n:Int):PV aF:=.int .i64 n
theorem a3D{t:List (V×Int)}{l:List Int}(h:l.Perm (t.map fun e:V×Int=>e.2)):QW (l.map Qn)=(rO t).map Qn:=by
 unfold QW;rw[SG (g:=Qn) (key:=fun n=>[n]) (a7u:=QS) (fun _=>rfl),EJ h fun a _ b _ e=>by simpa using e];rfl
theorem Ju:∀l:List Int,U1 (l.map KY)=some (l.map Qn)
 | []=>rfl
 |a::l=>by
  have:=Ju l;show(match pR (KY a),U1 (l.map KY)with
   |some a,some b=>some (a::b)
   |_,_=>none)=_
  rw[this];rfl
section
variable {n:Nat} {t:List (V×Int)}
set_option maxRecDepth 20000 in
theorem akv(h:Jt t)(ht:t≠[]):aaA X0 Qp (uO Qp T (bP (n+1)) LL) vF [.kF 4] (H3 t (.nil .slc)++[.mark,Py true none]) fun v H1=>∃(l:List Int) (seen:List Nat),l.Perm (t.map fun e:V×Int=>e.2)∧H1=H3 t (.own 6)++[.mark,Py true none,.cZ 0 t.length seen,.list false false 3 l]:=by
 refine a1G (t:=SN Qp 139) hX (by kernel_rfl) ?_;have e0:(SN Qp 139).body=.seq (eF afI) (.block 0 (.loop lpW)):=by kernel_rfl
 rw[e0];have x0:dN X0 Qp T (bP (n+1)) LL 139 false (BG Qp 139) 5 (eF afI) ⟨kR X0 0 [.kF 4,.ptr 1 0 1],[],H3 t (.nil .slc)++[.mark,Py true none]⟩ .norm ⟨[(0,.val (.kF 4)),(6,.val (.iter 5))],[],H3 t (.nil .slc)++[.mark,Py true none,.cZ 0 (kV.im t).length []]⟩:=zJ hX fZ (an:=.n) (by kernel_rfl) (.r rfl);rw[kV.oV t]at x0;refine aK.AX (by kernel_rfl) x0 ((aaI (n:=n) h).mono fun e s h1=>?_);obtain⟨rfl,l,seen,h2,rfl⟩:=h1;cases l with
 |nil=>
  have:=h2.length_eq;rw[a4a]at this;exact absurd (a3Q this.symm) ht
 |cons x l=>exact⟨.inl rfl,[],by kernel_rfl,x::l,seen,h2,rfl⟩
set_option maxRecDepth 20000 in
theorem aaJ(h:Jt t)(ht:t≠[]):aX X0 Qp (bP (n+2)) (.fn 138 [] []) [.nil .slc,vF] [.iE (kV.im t),.aC [.map 0]] (.slc 2 0 t.length t.length 1 false) [.iE (kV.im t),.aC [.map 0],.mM ((rO t).map KY)]:=by
 have e0:(SN Qp 138).body=.seq (eF a7R) (.seq (.seq (eF (eF (eG a7R))) (.block 0 (.rangeFunc (.tmp 6) #[7] (wU Qp 138) (Aw Qp 138)))) (eG (eG a7R))):=by kernel_rfl
 have x0:dN X0 Qp T (bP (n+1)) LL 138 false (BG Qp 138) 2 (eF a7R) ⟨kR X0 0 [.nil .slc,vF],[],[.iE (kV.im t),.aC [.map 0]]⟩ .norm ⟨[(1,.val vF),(2,.val (.ptr 2 0 1)),(4,.val (.nil .slc))],[],H3 t (.nil .slc)⟩:=zJ hX fZ (an:=.n) (by kernel_rfl) (.r rfl);have x1:dN X0 Qp T (bP (n+1)) LL 138 false (BG Qp 138) 2 (eF (eF (eG a7R))) ⟨[(1,.val vF),(2,.val (.ptr 2 0 1)),(4,.val (.nil .slc))],[],H3 t (.nil .slc)⟩ .norm ⟨a7S,[],H3 t (.nil .slc)⟩:=zJ hX fZ (an:=.n) (by kernel_rfl) (.r rfl);have:=Dn (X:=X0) (P:=Qp) (T:=T) (L:=LL) (n:=n+1) (f:=138) (first:=[]) (cap:=[]) (xs:=[.nil .slc,vF]) (H:=[.iE (kV.im t),.aC [.map 0]]) (N:=[.mM ((rO t).map KY)]) (v:=.slc 2 0 t.length t.length 1 false) (tv:=fun k=>.slc k 0 t.length t.length 1 false) (tN:=[.mM ((rO t).map Qn)]) (t:=SN Qp 138) hX (by kernel_rfl) (by kernel_rfl) (by kernel_rfl) rfl (fun A m h hr=>aaC (H:=[.iE (kV.im t),.aC [.map 0]]) (n:=t.length) (sz:=1) (Ju _) hr) ?_
 .exact this
 rw[e0];refine aK.AX (by kernel_rfl) x0 (aK.seq (R:=fun e s=>e=.norm∧∃(l:List Int) (seen:List Nat),l.Perm (t.map fun e:V×Int=>e.2)∧s=⟨a7S,[],H3 t (.own 6)++[.mark,Py false (some .skip),.cZ 0 t.length seen,.list false false 3 l]⟩) (aK.AX (by kernel_rfl) x1 (aK.block ?_)) (fun s hs=>?_) (fun i s h=>by cases h.1) (fun s h=>by cases h.1))
 .refine aK.range (f1:=139) (a1:=[]) (b1:=[.ptr 1 0 1]) (K:=fun v H1=>∃(l:List Int) (seen:List Nat),l.Perm (t.map fun e:V×Int=>e.2)∧H1=H3 t (.own 6)++[.mark,Py true none,.cZ 0 t.length seen,.list false false 3 l]) hX rfl (by kernel_rfl) (by kernel_rfl) (akv (n:=n) h ht) (fun v H1 hk=>?_);obtain⟨l,seen,h1,rfl⟩:=hk;exact⟨true,_,_,_,_,_,_,none,.norm,rfl,rfl,rfl,l,seen,h1,rfl⟩
 obtain⟨_,l,seen,h1,rfl⟩:=hs;have hl:l≠[]:=fun e=>by
  subst e;have:=h1.length_eq;rw[a4a]at this;exact absurd (a3Q this.symm) ht
 have hlen:t.length=l.length:=by rw[h1.length_eq,a4a]
 refine aK.step (by kernel_rfl) (zJ (e:=.ret) (ps1:=⟨[(4,.val (.own 6))],[],H3 t (.own 6)++[.mark,Py false (some .skip),.cZ 0 t.length seen,.list false false 3 l]⟩) hX fZ (an:=.n) (by kernel_rfl) (.r rfl)) ⟨.inr rfl,[.own 6],by kernel_rfl,?_⟩;rw[<-a3D h1,hlen];exact a7E hX (i:=6) (ty:=3) (l:=l) rfl hl (E5 _) Ko
end
def Pz:List Int->Int
 | []=>0
 |x::l=>l.foldl max x
theorem Y2:∀(l:List Int) (x:Int),(l.foldl max x=x∨l.foldl max x∈l)∧x<=l.foldl max x∧∀y∈l,y<=l.foldl max x
 | [],x=>⟨.inl rfl,a96 _,fun y hy=>by cases hy⟩
 |a::l,x=>by
  obtain⟨h1,h2,h3⟩:=Y2 l (max x a);rw[ad9];have hm:max x a=x∨max x a=a:=by omega
  refine⟨?_,by omega,fun y hy=>?_⟩
  .rcases h1 with h1|h1
   .rcases hm with e|e
    .exact .inl (h1.trans e)
    rw[h1,e];exact .inr (by simp)
   exact .inr (by simp[h1])
  rcases a2e.1 hy with rfl|hy
  .omega
  exact h3 y hy
theorem Y3{l:List Int}(h:l≠[]):Pz l∈l∧∀y∈l,y<=Pz l:=by
 cases l with
 |nil=>exact absurd rfl h
 |cons x l=>
  obtain⟨h1,h2,h3⟩:=Y2 l x;refine⟨?_,fun y hy=>?_⟩
  .rcases h1 with h1|h1
   .show l.foldl max x∈_;rw[h1];simp
   exact a2Y _ h1
  rcases a2e.1 hy with rfl|hy
  .exact h2
  exact h3 y hy
theorem a3E{l l':List Int}(h:l.Perm l')(hl:l≠[]):Pz l=Pz l':=by
 have hl':l'≠[]:=fun e=>by subst e;exact hl h.eq_nil
 obtain⟨a1,a2⟩:=Y3 hl;obtain⟨b1,b2⟩:=Y3 hl';have:=a2 _ (h.mem_iff.2 b1);have:=b2 _ (h.mem_iff.1 a1);omega
open Go Tw Pv cO
abbrev ApM(n:Nat):bf:=kQ Qp Tm (2^24) n
theorem okM{n:Nat}:jw X0 Qp (ApM n) a9D:=fun _ _ _ _ _ h _=>by cases h
def gMx(l:List Int)(k:Nat)(m:Int):Int:=if l.getD (i64.wrap ((k:Int)+1)).toNat 0>m then l.getD (i64.wrap ((k:Int)+1)).toNat 0 else m
theorem a1L{x:Int}{r:List Int}(h:r.length<=ah):∀k,k<=r.length->aT (gMx (x::r)) k 0 x=(r.take k).foldl max x
 | 0,_=>rfl
 |k+1,hk=>by
  rw[tK,a1L h k (by omega)];unfold gMx;rw[a3O,y9 (by omega),a4v];have e:(x::r).getD (k+1) 0=r[k]'(by omega):=by simp[List.getD,a0b (show k<r.length by omega)]
  rw[e,a5j (by omega),List.foldl_append];simp only[ad9,List.foldl_nil];omega
abbrev wMx(l:List Int)(m i:Int)(x:List (Nat×PE aF)):aS aF:=⟨[(0,xL 3 l),(3,xi m),(4,xi (i64.wrap (i+1)))]++x,[],[]⟩
set_option maxRecDepth 20000 in
theorem akx{l:List Int}(h0:l≠[])(hl:l.length<=2000):aX X0 Qp (ApM 2) (.fn 94 [] []) [.dn 3 l false] [] (.int .i64 (Pz l)) []:=by
 cases l with
 |nil=>exact absurd rfl h0
 |cons x r=>
  have hr:r.length<=ah:=by have:(x::r).length=r.length+1:=rfl;unfold ah;omega
  have lp:dN X0 Qp Tm (ApM 1) LL 94 false (BG Qp 94) 0 (.loop (RF Qp 94 0)) ⟨[(0,xL 3 (x::r)),(3,xi x),(4,xi 1)],[],[]⟩ (.exit 0) (wMx (x::r) (aT (gMx (x::r)) r.length 0 x) r.length [(15,xl false)]):=by
   refine H8 (X:=X0) (N:=r.length) (g:=gMx (x::r)) (s0:=x) (st:=fun i m=>wMx (x::r) m i []) (fin:=fun m=>wMx (x::r) m r.length [(15,xl false)]) (fun _ _=>True) (by kernel_rfl) hr OE trivial (fun _ _ _ _=>trivial) (fun k m hk _ n e p g9=>?_) (fun m _=>?_)
   .have e1:i64.wrap ((k:Int)+1)=((k+1:Nat):Int):=y9 (by omega);have t1:decide (i64.wrap ((k:Int)+1)<((x::r).length:Int))=true:=by rw[e1,a1E,a3S];omega
    have i1:gQ (i64.wrap ((k:Int)+1)) (x::r).length:=by rw[e1];exact aH (by rw[a3S];omega)
    exact round hX okM (by kernel_rfl) (.b t1 (.o i1 (.go g9)))
   have e1:i64.wrap ((r.length:Int)+1)=((r.length+1:Nat):Int):=y9 (by omega);have t1:decide (i64.wrap ((r.length:Int)+1)<((x::r).length:Int))=false:=by rw[e1,a2H,a3S];omega
   exact round hX okM (by kernel_rfl) (.b t1 .ex)
  have e:aT (gMx (x::r)) r.length 0 x=Pz (x::r):=by
   rw[a1L hr _ (a0V _),abk];rfl
  rw[e]at lp;have hc:((x::r).length:Int)=r.length+1:=by simp
  have t0:decide (((x::r).length:Int)<1)=false:=by rw[a2H,hc];omega
  have i0:gQ 0 (x::r).length:=⟨by decide,by rw[hc];omega⟩;exact qX hX okM (first:=[]) (cap:=[]) (by kernel_rfl) (.b t0 (.o i0 (.w lp .er)))
theorem aaK(n:Nat)(x:TV)(h:List HB):kQ Qp T LL (n+1) (.fn 94 [] []) [x] h=a2Q 94 (ApM 2) (.fn 94 [] []) [x] h:=rfl
theorem aky{n:Nat}{vs:List Int}(h0:vs≠[])(hl:vs.length<=2000):aX X0 Qp (bP (n+1)) (.fn 94 [] []) [.slc 0 0 vs.length vs.length 1 false] [.mM (vs.map KY)] (.int .i64 (Pz vs)) [.mM (vs.map KY)]:=by
 intro A m h tf rU hr hf hx;obtain⟨x,r,rfl,h1,h2⟩:=hx.inv;have:=h2.inv0;subst this;have htf:=hf.Un;subst htf;obtain⟨mb,g1,g2⟩:=hr.at_ 0 _ rfl;cases mb with
 |fV c=>
  obtain⟨ts,g3,g4⟩:=g2;have g5:=g4.symm.trans (Ju vs);cases g5;have hx2:x=.slc c 0 vs.length vs.length 1 false:=by
   cases h1 with
   |slc e=>rw[g1]at e;cases e;rfl
   |gone hi e _=>simp only[bn,a01]at hi;subst hi;rw[g1]at e;cases e
  subst hx2;have Fv:c∈bC m:=bg g1 rfl;have aQ:=(a02.1 g3).1;show ∃w h1 ws m1,kQ Qp T LL (n+1) _ _ h=_∧_;rw[aaK,a9L (k:=.i64) (n:=Pz vs)]
  .exact⟨_,h,[],m,rfl,hr,.int _ _,.refl,.refl,fun b hb=>by cases hb⟩
  .refine⟨⟨_,_,rfl⟩,rfl,fun h' hu=>?_⟩;obtain⟨cs',p1,p2⟩:=hu.2 c _ g3;obtain⟨l,hp,rfl⟩:∃l:List Int,l.Perm vs∧cs'=l.map Qn:=by
    have hq:∀y∈cs',∃i:Int,y=Qn i:=fun y hy=>by
     obtain⟨i,_,rfl⟩:=a1d.1 (p1.mem_iff.1 hy);exact⟨i,rfl⟩
    have hun:∀L:List TV,(∀y∈L,∃i:Int,y=Qn i)->∃l:List Int,L=l.map Qn:=by
     intro L
     induction L with
     |nil=>exact fun _=>⟨[],rfl⟩
     |cons y L ih=>
      intro hL;obtain⟨i,rfl⟩:=hL y (by simp);obtain⟨l,rfl⟩:=ih fun z hz=>hL z (by simp[hz]);exact⟨i::l,rfl⟩
    obtain⟨l,rfl⟩:=hun cs' hq;refine⟨l,?_,rfl⟩;have:=p1.map fun y=>match y with|.int _ n=>n|_=>0
    rw[a6r,a6r]at this;simpa[Function.comp_def]using this
   have hlen:l.length=vs.length:=hp.length_eq;have qF:l≠[]:=fun e=>by subst e;exact h0 (a3Q hlen.symm)
   have akz:h'.length=h.length:=by
    have e:=fun b=>RQ hu b;refine Nat.le_antisymm (acy fun hb=>?_) (acy fun hb=>?_)
    .have:=e h.length;rw[a0b hb,a3R (a0V _)]at this;cases this
    have:=e h'.length;rw[a0b hb,a3R (a0V _)]at this;cases this
   have hm:=akx qF (by omega);have hvr:Pv.VR X0 Qp (AA A []) [] h' (.dn 3 l false) (.slc c 0 vs.length vs.length 1 false):=by
    rw[<-hlen];refine Pv.VR.dn (cs:=l.map Qn) ⟨hr.CP c Fv,by simp[bC]⟩ (by simp only[aV,p2]) (fun _=>by simp[lM,p2]) Ko (by decide) (by simp;exact a0V _) (a0V _) (by intro h;cases h) ?_ ?_
    .intro j a _;rfl
    have hrw:=RZ (A:=AA A []) (m:=[]) (h:=h') l;intro j a i c v a1 a2 a3;exact hrw.2.2 j a i c v a1 a2 a3
   obtain⟨w,h2,ws,m1,c1,c2,c3,c4,c5,c6⟩:=hm A [] h' (.fn 94 [] []) [.slc c 0 vs.length vs.length 1 false] ⟨rfl,fun i b hi=>by simp at hi,by simp[bC],fun b hb=>hr.up b (by rw[<-akz];exact hb),fun b hb=>by simp[bC]at hb⟩ (.fn rfl (fun i x y hi=>by simp at hi) rfl (fun i x y hi=>by simp at hi)) (.cons hvr .nil)
   .have hw:w=.int .i64 (Pz vs):=by
     rw[<-a3E hp qF];exact c3.a18
    subst hw;have Yk:ws=[]:=a6V.2 fun b hb=>by have:=c6 b hb;simp[bC]at this
    subst Yk;exact⟨h2,c1⟩
  obtain⟨h',hu⟩:∃h',OD h h':=⟨_,X3 h (fun b=>match h[b]? with|some (.mM cs)=>cs|_=>[]) fun b cs e=>by rw[e]⟩;exact⟨h',hu⟩
 |_=>exact g2.elim
open Go Tw Pv cO
theorem akA{n:Nat}(hO:Ok n qB){k:Int}(hk:0<=k∧k<=6):aX X0 Qp (bP (n+1)) (.fn 124 [] []) [.own 0,.int .i64 k] [.list true true 3 ([-1]:List Int)] (.own 1) [.list true true 3 ([-1]:List Int),.list true true 3 (List.replicate k.toNat (-1):List Int)]:=by
 rcases a7j hk with rfl|rfl|rfl|rfl|rfl|rfl|rfl
 .exact fP hO (first:=[]) (cap:=[]) (.b (rfl:decide ((0:Int)<0)=false) (.o (rfl:(1:Int)=1) (.o (⟨by decide,by decide⟩:(0:Int)<=0∧(0:Int)<=6) (.b (rfl:decide ((0:Int)>0)=false) (.b (rfl:decide ((0:Int)>9223372036854775807)=false) (.o (rfl:(0:Int)=0) (.o (show(0:Int)<=0 by decide) (.o (show(0:Int)<=(ah:Int) by decide) (.m 8 le8 (.b (rfl:decide ((0:Int)<0)=false) .er))))))))))
 .exact fP hO (first:=[]) (cap:=[]) (.b (rfl:decide ((1:Int)<0)=false) (.o (rfl:(1:Int)=1) (.o (⟨by decide,by decide⟩:(0:Int)<=1∧(1:Int)<=6) (.b (rfl:decide ((0:Int)>0)=false) (.b (rfl:decide ((1:Int)>9223372036854775807)=false) (.o (rfl:(1:Int)=1) (.o (show(0:Int)<=1 by decide) (.o (show(1:Int)<=(ah:Int) by decide) (.m 8 le8 (.b (rfl:decide ((1:Int)<1)=false) .er))))))))))
 .exact fP hO (first:=[]) (cap:=[]) (.b (rfl:decide ((2:Int)<0)=false) (.o (rfl:(1:Int)=1) (.o (⟨by decide,by decide⟩:(0:Int)<=2∧(2:Int)<=6) (.b (rfl:decide ((0:Int)>0)=false) (.b (rfl:decide ((2:Int)>9223372036854775807)=false) (.o (rfl:(2:Int)=2) (.o (show(0:Int)<=2 by decide) (.o (show(2:Int)<=(ah:Int) by decide) (.m 8 le8 (.b (rfl:decide ((1:Int)<2)=true) (.o (show(0:Int)<=1 by decide) (.o (show(1:Int)<=2 by decide) (.o (show(2:Int)<=2 by decide) (.o (show(0:Int)<=0 by decide) (.o (show(0:Int)<=1 by decide) (.o (show(1:Int)<=2 by decide) (.b (rfl:decide ((2:Int)<2)=false) .er)))))))))))))))))
 .exact fP hO (first:=[]) (cap:=[]) (.b (rfl:decide ((3:Int)<0)=false) (.o (rfl:(1:Int)=1) (.o (⟨by decide,by decide⟩:(0:Int)<=3∧(3:Int)<=6) (.b (rfl:decide ((0:Int)>0)=false) (.b (rfl:decide ((3:Int)>9223372036854775807)=false) (.o (rfl:(3:Int)=3) (.o (show(0:Int)<=3 by decide) (.o (show(3:Int)<=(ah:Int) by decide) (.m 8 le8 (.b (rfl:decide ((1:Int)<3)=true) (.o (show(0:Int)<=1 by decide) (.o (show(1:Int)<=3 by decide) (.o (show(3:Int)<=3 by decide) (.o (show(0:Int)<=0 by decide) (.o (show(0:Int)<=1 by decide) (.o (show(1:Int)<=3 by decide) (.b (rfl:decide ((2:Int)<3)=true) (.o (show(0:Int)<=2 by decide) (.o (show(2:Int)<=3 by decide) (.o (show(3:Int)<=3 by decide) (.o (show(0:Int)<=0 by decide) (.o (show(0:Int)<=2 by decide) (.o (show(2:Int)<=3 by decide) (.b (rfl:decide ((3:Int)<3)=false) .er))))))))))))))))))))))))
 .exact fP hO (first:=[]) (cap:=[]) (.b (rfl:decide ((4:Int)<0)=false) (.o (rfl:(1:Int)=1) (.o (⟨by decide,by decide⟩:(0:Int)<=4∧(4:Int)<=6) (.b (rfl:decide ((0:Int)>0)=false) (.b (rfl:decide ((4:Int)>9223372036854775807)=false) (.o (rfl:(4:Int)=4) (.o (show(0:Int)<=4 by decide) (.o (show(4:Int)<=(ah:Int) by decide) (.m 8 le8 (.b (rfl:decide ((1:Int)<4)=true) (.o (show(0:Int)<=1 by decide) (.o (show(1:Int)<=4 by decide) (.o (show(4:Int)<=4 by decide) (.o (show(0:Int)<=0 by decide) (.o (show(0:Int)<=1 by decide) (.o (show(1:Int)<=4 by decide) (.b (rfl:decide ((2:Int)<4)=true) (.o (show(0:Int)<=2 by decide) (.o (show(2:Int)<=4 by decide) (.o (show(4:Int)<=4 by decide) (.o (show(0:Int)<=0 by decide) (.o (show(0:Int)<=2 by decide) (.o (show(2:Int)<=4 by decide) (.b (rfl:decide ((4:Int)<4)=false) .er))))))))))))))))))))))))
 .exact fP hO (first:=[]) (cap:=[]) (.b (rfl:decide ((5:Int)<0)=false) (.o (rfl:(1:Int)=1) (.o (⟨by decide,by decide⟩:(0:Int)<=5∧(5:Int)<=6) (.b (rfl:decide ((0:Int)>0)=false) (.b (rfl:decide ((5:Int)>9223372036854775807)=false) (.o (rfl:(5:Int)=5) (.o (show(0:Int)<=5 by decide) (.o (show(5:Int)<=(ah:Int) by decide) (.m 8 le8 (.b (rfl:decide ((1:Int)<5)=true) (.o (show(0:Int)<=1 by decide) (.o (show(1:Int)<=5 by decide) (.o (show(5:Int)<=5 by decide) (.o (show(0:Int)<=0 by decide) (.o (show(0:Int)<=1 by decide) (.o (show(1:Int)<=5 by decide) (.b (rfl:decide ((2:Int)<5)=true) (.o (show(0:Int)<=2 by decide) (.o (show(2:Int)<=5 by decide) (.o (show(5:Int)<=5 by decide) (.o (show(0:Int)<=0 by decide) (.o (show(0:Int)<=2 by decide) (.o (show(2:Int)<=5 by decide) (.b (rfl:decide ((4:Int)<5)=true) (.o (show(0:Int)<=4 by decide) (.o (show(4:Int)<=5 by decide) (.o (show(5:Int)<=5 by decide) (.o (show(0:Int)<=0 by decide) (.o (show(0:Int)<=4 by decide) (.o (show(4:Int)<=5 by decide) (.b (rfl:decide ((5:Int)<5)=false) .er)))))))))))))))))))))))))))))))
 exact fP hO (first:=[]) (cap:=[]) (.b (rfl:decide ((6:Int)<0)=false) (.o (rfl:(1:Int)=1) (.o (⟨by decide,by decide⟩:(0:Int)<=6∧(6:Int)<=6) (.b (rfl:decide ((0:Int)>0)=false) (.b (rfl:decide ((6:Int)>9223372036854775807)=false) (.o (rfl:(6:Int)=6) (.o (show(0:Int)<=6 by decide) (.o (show(6:Int)<=(ah:Int) by decide) (.m 8 le8 (.b (rfl:decide ((1:Int)<6)=true) (.o (show(0:Int)<=1 by decide) (.o (show(1:Int)<=6 by decide) (.o (show(6:Int)<=6 by decide) (.o (show(0:Int)<=0 by decide) (.o (show(0:Int)<=1 by decide) (.o (show(1:Int)<=6 by decide) (.b (rfl:decide ((2:Int)<6)=true) (.o (show(0:Int)<=2 by decide) (.o (show(2:Int)<=6 by decide) (.o (show(6:Int)<=6 by decide) (.o (show(0:Int)<=0 by decide) (.o (show(0:Int)<=2 by decide) (.o (show(2:Int)<=6 by decide) (.b (rfl:decide ((4:Int)<6)=true) (.o (show(0:Int)<=4 by decide) (.o (show(4:Int)<=6 by decide) (.o (show(6:Int)<=6 by decide) (.o (show(0:Int)<=0 by decide) (.o (show(0:Int)<=4 by decide) (.o (show(4:Int)<=6 by decide) (.b (rfl:decide ((6:Int)<6)=false) .er)))))))))))))))))))))))))))))))
def dQ(D:List Dg):Jb:=⟨(D.getD 0 oJ).ay,(D.getD 0 oJ).aG,D,List.replicate (D.getD 0 oJ).ay.length (-1)⟩
theorem akB{n f:Nat}(hO:Ok (n+1) qB)(Aq:Ok n qB){D:List Dg}(h0:0<D.length)(h6:(D.getD 0 oJ).ay.length<=6){k ex:Bool}:aX X0 Qp (bP (n+2)) (.fn 78 [] []) [.fn f [] [],.own 0] [.list k ex 26 D] (.agg [lI (dQ D).s,lI (dQ D).o,.own 0,.own 1,.fn f [] []]) [.list k ex 26 D,.list true true 3 (dQ D).g]:=by
 have i0:gQ 0 D.length:=aH h0;have hs:=akA Aq (k:=((D.getD 0 oJ).ay.length:Int)) ⟨by omega,by omega⟩;rw[a4v]at hs;have h:aX X0 Qp (bP (n+2)) (.fn 78 [] []) [.fn f [] [],.own 0] [.list k ex 26 D] (.agg [lI (dQ D).s,lI (dQ D).o,.own 0,.own 2,.fn f [] []]) [.list k ex 26 D,.list true true 3 ([-1]:List Int),.list true true 3 (dQ D).g]:=fP hO (first:=[]) (cap:=[]) (.o i0 (.o i0 (.o i0 (.fr [1] hs .er))));exact aX.gs hX h [.gc [2]] rfl
theorem akC{n f:Nat}(u:Int)(hO:Ok (n+1) qB)(Aq:Ok n qB){D:List Dg}(h0:0<D.length)(h6:(D.getD 0 oJ).ay.length<=6){k ex:Bool}:aX X0 Qp (bP (n+2)) (.fn 78 [] []) [.fn f [] [.ptr 1 0 1],.own 0] [.list k ex 26 D,.aC [.int .u8 u]] (.agg [lI (dQ D).s,lI (dQ D).o,.own 0,.own 2,.fn f [] [.ptr 1 0 1]]) [.list k ex 26 D,.aC [.int .u8 u],.list true true 3 (dQ D).g]:=by
 have i0:gQ 0 D.length:=aH h0;have hs:=akA Aq (k:=((D.getD 0 oJ).ay.length:Int)) ⟨by omega,by omega⟩;rw[a4v]at hs;have h:aX X0 Qp (bP (n+2)) (.fn 78 [] []) [.fn f [] [.ptr 1 0 1],.own 0] [.list k ex 26 D,.aC [.int .u8 u]] (.agg [lI (dQ D).s,lI (dQ D).o,.own 0,.own 3,.fn f [] [.ptr 1 0 1]]) [.list k ex 26 D,.aC [.int .u8 u],.list true true 3 ([-1]:List Int),.list true true 3 (dQ D).g]:=fP hO (first:=[]) (cap:=[]) (.o i0 (.o i0 (.o i0 (.fr [2] hs .er))));exact aX.gs hX h [.gc [3]] rfl
theorem apI{n f:Nat}{J:Jb}{d:Dg}{k ex k2 KZ:Bool}(h:aX X0 Qp (bP n) (.fn 80 [] []) [.agg (J.ps (.fn f [] []))] [] (dA.put d) []):aX X0 Qp (bP n) (.fn 80 [] []) [.agg [lI J.s,lI J.o,.own 0,.own 1,.fn f [] []]] [.list k ex 26 J.D,.list k2 KZ 3 J.g] (dA.put d) [.gone,.gone]:=by
 have h1:=aX.frame hX (ks:=[]) (H':=[.gone,.gone]) (Hp:=[]) (PO:=[]) (v':=dA.put d) (fv':=.fn 80 [] []) (xs':=[.agg (J.ps (.fn f [] []))]) h (by decide) rfl rfl rfl rfl rfl rfl rfl;exact aX.fz hX (H:=[.list k ex 26 J.D,.list k2 KZ 3 J.g]) (cs:=[lI J.s,lI J.o,.own 0,.own 1]) (rest:=[.fn f [] []]) [0,1] h1 rfl (fun i hi=>by simpa[kM.jX,kM]using hi)
theorem apJ{n f:Nat}{u:Int}{J:Jb}{d:Dg}{k ex k2 KZ:Bool}(h:aX X0 Qp (bP n) (.fn 80 [] []) [.agg (J.ps (.fn f [] [.ptr 0 0 1]))] [.aC [.int .u8 u]] (dA.put d) [.aC [.int .u8 u]]):aX X0 Qp (bP n) (.fn 80 [] []) [.agg [lI J.s,lI J.o,.own 0,.own 2,.fn f [] [.ptr 1 0 1]]] [.list k ex 26 J.D,.aC [.int .u8 u],.list k2 KZ 3 J.g] (dA.put d) [.gone,.aC [.int .u8 u],.gone]:=by
 have h1:=aX.frame hX (ks:=[1]) (H':=[.gone,.aC [.int .u8 u],.gone]) (Hp:=[.aC [.int .u8 u]]) (PO:=[.aC [.int .u8 u]]) (v':=dA.put d) (fv':=.fn 80 [] []) (xs':=[.agg (J.ps (.fn f [] [.ptr 1 0 1]))]) h (by decide) rfl rfl rfl rfl rfl rfl rfl;exact aX.fz hX (H:=[.list k ex 26 J.D,.aC [.int .u8 u],.list k2 KZ 3 J.g]) (cs:=[lI J.s,lI J.o,.own 0,.own 2]) (rest:=[.fn f [] [.ptr 1 0 1]]) [0,2] h1 rfl (fun i hi=>by simpa[kM.jX,kM]using hi)
open Go Tw Pv cO
structure DgG(d:Dg):Prop where
 t:Bj d
 n:d.aj.length<=6000
 ord:jR d.ay.length d.aG=true
 rk:∀i,i<d.aj.length->∀k,k<(fC d i).aA.length->d.aG.idxOf (fC d i).var+1<=Ee d.aG d.aj ((fC d i).aA.getD k 0)
 two:∀i,i<d.aj.length->2<=(fC d i).aA.length
 c:∀v∈d.aI,Ji v
 dd:DgD d
 l0:aW d=0
theorem ZO{d:Dg}(hp:rV d)(h:qy d=0):DgG d:=by
 have h0:aW d=0∧nN d=true:=by
  unfold qy at h;split at h
  .rename_i c;rw[h]at c;cases c
  rename_i c;split at h
  .cases h
  rename_i c2;exact⟨by simpa using c,by simpa using c2⟩
 have ho:d.aG.length<=ah:=by have:=hp.o;unfold ah;omega
 have he:d.aI.length<=ah:=by have:=hp.e;omega
 obtain⟨t,n⟩:=kE ho he (by rw[h0.1];rfl);obtain⟨D,_⟩:=Xo.1 h0.2;have hf:bU d.ay d.aG=0∧lu d=true:=by
  have hl:=h0.1;unfold aW at hl;split at hl
  .rename_i c;rw[hl]at c;cases c
  rename_i c;split at hl
  .cases hl
  split at hl
  .cases hl
  rename_i _ c2;exact⟨by simpa using c,by simpa using c2⟩
 obtain⟨dw,ord⟩:=jJ.1 hf.1;refine⟨t,n,ord,Xz h0.1,fun i hi=>?_,fun v hv=>?_,D,h0.1⟩
 .have:=D.flat i hi;rcases hk:(fC d i).aA with _|⟨a,_|⟨b,r⟩⟩
  .rw[hk]at this;simp at this
  .rw[hk]at this;simp at this
  simp
 refine⟨?_,hp.r.fault v hv⟩;have hl:=hf.2;unfold lu at hl;obtain⟨k,hk,e⟩:=aar hv;have hs:jT (bG (cLe d) d.aI.length)=true:=by
  revert hl;cases jT (bG (cLe d) d.aI.length)<;>simp
 have:=dL.1 hs k hk;unfold cLe at this;rw[a2I,a0b hk]at this;simpa[e]using this
theorem ZP{l:List Dg}(hp:∀d∈l,rV d)(h:bQ l=0):∀d∈l,DgG d∧d.ay=(l.getD 0 oJ).ay∧d.aG=(l.getD 0 oJ).aG:=by
 intro d hd;unfold bQ at h;split at h
 .rename_i c;split at h
  .cases h
  rename_i c2;simp only[agr,abp,a4l]at c2;have e:=c2 d hd;unfold Ht at e;split at e
  .rename_i e1;refine⟨ZO (hp d hd) ?_,by simpa using e1,by simpa using e⟩;obtain⟨k,hk,e9⟩:=aar hd;have:=dL.1 c k hk;unfold cCk at this;rw[a2I,a0b hk,a4F,e9]at this;have h9:=hp d hd;rw[Xq h9.r h9.s (by have:=h9.o;unfold ah;omega) h9.e]at this;simpa using this
  cases e
 rename_i c;obtain⟨j,_,e,_,e2⟩:=H7 (by simpa using c);rw[e2]at h;unfold cCk at e;have h':(vM (l.getD j oJ)).2=0:=h;rw[h']at e;cases e
theorem ade{D:List Dg}(h3:D.length<=3)(h0:0<D.length)(h1:∀d∈D,DgG d∧d.ay=(D.getD 0 oJ).ay∧d.aG=(D.getD 0 oJ).aG):jU (dQ D):=by
 have Qw:D.getD 0 oJ∈D:=fK h0;obtain⟨g0,_,_⟩:=h1 _ Qw;refine⟨h3,g0.t.dw,g0.ord,fun k hk=>?_,a8O,fun c hc hg=>?_⟩
 .obtain⟨g,e1,e2⟩:=h1 (kT D k) (fK hk);exact⟨g.t,g.n,e1,e2,g.rk,g.two⟩
 exfalso;revert hg;show ¬(0<=(List.replicate (D.getD 0 oJ).ay.length (-1:Int)).getD c.toNat 0);have:=hc.1;have:=hc.2;rw[a2I,acZ,a0i (show c.toNat<(D.getD 0 oJ).ay.length by have:c<((D.getD 0 oJ).ay.length:Int):=hc.2;omega)];decide
theorem yH{D:List Dg}(h3:D.length<=3)(h0:0<D.length)(hp:∀d∈D,rV d)(h:bQ D=0):jU (dQ D):=ade h3 h0 (ZP hp h)
open Go Tw Pv cO
theorem PD{J:Jb}(hJ:jU J)(hc:∀k,k<J.D.length->∀v∈(kT J.D k).aI,Ji v){op:List V->V}(h:∀l:List V,l.length=J.D.length->(∀v∈l,Ji v)->Ji (op l)):wV J op:=fun t hd=>h _ (by simp[aU]) fun v hv=>by
 unfold aU at hv;obtain⟨k,hk,rfl⟩:=a1d.1 hv;have hk:=a4b.1 hk;have h3:(jB (t.get k)).toNat<(kT J.D k).aI.length:=by
  obtain⟨h1,h2⟩:=(Jh hJ hd hk).2;omega
 exact hc k hk _ (fK h3)
theorem Jb.inD{D:List Dg}(hp:∀d∈D,rV d)(h:bQ D=0):∀k,k<D.length->∀v∈(kT D k).aI,Ji v:=fun k hk=>(ZP hp h _ (fK hk)).1.c
theorem Jv{n f:Nat}(h2:2<=n)(hO:∀m,n-2<=m->Ok m qB){D:List Dg}(h0:0<D.length)(h6:(D.getD 0 oJ).ay.length<=6){k ex:Bool}:aX X0 Qp (bP n) (.fn 78 [] []) [.fn f [] [],.own 0] [.list k ex 26 D] (.agg [lI (dQ D).s,lI (dQ D).o,.own 0,.own 1,.fn f [] []]) [.list k ex 26 D,.list true true 3 (dQ D).g]:=by
 have h:=akB (n:=n-2) (f:=f) (hO _ (by omega)) (hO _ (by omega)) h0 h6 (k:=k) (ex:=ex)
 rwa [show n-2+2=n by omega]at h
theorem afJ{n f:Nat}(u:Int)(h2:2<=n)(hO:∀m,n-2<=m->Ok m qB){D:List Dg}(h0:0<D.length)(h6:(D.getD 0 oJ).ay.length<=6){k ex:Bool}:aX X0 Qp (bP n) (.fn 78 [] []) [.fn f [] [.ptr 1 0 1],.own 0] [.list k ex 26 D,.aC [.int .u8 u]] (.agg [lI (dQ D).s,lI (dQ D).o,.own 0,.own 2,.fn f [] [.ptr 1 0 1]]) [.list k ex 26 D,.aC [.int .u8 u],.list true true 3 (dQ D).g]:=by
 have h:=akC (n:=n-2) (f:=f) u (hO _ (by omega)) (hO _ (by omega)) h0 h6 (k:=k) (ex:=ex)
 rwa [show n-2+2=n by omega]at h
theorem a7T{n f:Nat}{J:Jb}(hJ:jU J){op:List V->V}(kG:wV J op)(h2:20<=n)(hO:∀m,n-20<=m->Ok m Hu)(hs:∀m,n-20<=m->∀l:List V,l.length=J.D.length->aX X0 Qp (bP m) (.fn f [] []) [lV l] [] (.agg (op l).ps) []){k ex k2 KZ:Bool}:aX X0 Qp (bP n) (.fn 80 [] []) [.agg [lI J.s,lI J.o,.own 0,.own 1,.fn f [] []]] [.list k ex 26 J.D,.list k2 KZ 3 J.g] (dA.put (Jk J op)) [.gone,.gone]:=by
 have h6:=(jU.o2 hJ).2.1;have h7:=hJ.dw.len;have h:=afx (N:=n-20) hJ kG hs hO (m:=n-1) (by omega);rw[show n-1+1=n by omega]at h;exact apI h
theorem akE{n f:Nat}(u:Int){J:Jb}(hJ:jU J){op:List V->V}(kG:wV J op)(h2:20<=n)(hO:∀m,n-20<=m->Ok m Hu)(hs:∀m,n-20<=m->∀l:List V,l.length=J.D.length->aX X0 Qp (bP m) (.fn f [] [.ptr 0 0 1]) [lV l] [.aC [.int .u8 u]] (.agg (op l).ps) [.aC [.int .u8 u]]){k ex k2 KZ:Bool}:aX X0 Qp (bP n) (.fn 80 [] []) [.agg [lI J.s,lI J.o,.own 0,.own 2,.fn f [] [.ptr 1 0 1]]] [.list k ex 26 J.D,.aC [.int .u8 u],.list k2 KZ 3 J.g] (dA.put (Jk J op)) [.gone,.aC [.int .u8 u],.gone]:=by
 have h6:=(jU.o2 hJ).2.1;have h7:=hJ.dw.len;have h:=afy (N:=n-20) u hJ kG hs hO (m:=n-1) (by omega);rw[show n-1+1=n by omega]at h;exact apJ h
abbrev ML(a b x:Int):Bool:=if decide (x>=a)=true then decide (x<=b)else false
theorem a7U{k:Nat}{x:Int}(h:(!(ML 0 (i64.wrap ((k:Int)-1)) x))=false)(hk:k<=ah):gQ x k:=by
 rw[wrap_small (by unfold ah at hk;omega) (by unfold ah at hk;omega)]at h;unfold ML at h;by_cases h1:x>=0
 .simp[h1]at h;exact⟨h1,by omega⟩
 simp[h1]at h
theorem aaL{z x:Int}(h:(!(ML 0 (i64.wrap (z-1)) x))=false)(h0:0<=z)(h1:z<=12):0<=x∧x<z:=by
 rw[wrap_small (by omega) (by omega)]at h;unfold ML at h;by_cases h1:x>=0
 .simp[h1]at h;exact⟨h1,by omega⟩
 simp[h1]at h
def akF(d:Dg)(c g:Int):Jb:=⟨d.ay,d.aG,[d],(dQ [d]).g.set c.toNat g⟩
abbrev op0(l:List V):V:=l.getD 0 V0
theorem aaM{d:Dg}(hp:rV d)(h:bQ [d]=0){c g:Int}(hc:gQ c d.ay.length)(hg:0<=g∧g<d.ay.getD c.toNat 0):jU (akF d c g):=by
 have hJ:=yH (D:=[d]) (by simp) (by simp) (fun x hx=>by rw[a2J.1 hx];exact hp) h;refine⟨hJ.d3,hJ.dw,hJ.ord,fun k hk=>have h:=hJ.dg k hk;⟨h.t,h.n,h.s,h.o,h.rk,h.two⟩,?_,fun c2 Ie h2=>?_⟩
 .show((dQ [d]).g.set c.toNat g).length=_;rw[a4e];exact hJ.gl
 have hl:(dQ [d]).g.length=d.ay.length:=hJ.gl;have a0:=hc.1;have a1:=hc.2;have b0:=Ie.1;have b1:c2<(d.ay.length:Int):=Ie.2
 change 0<=((dQ [d]).g.set c.toNat g).getD c2.toNat 0 at h2
 show((dQ [d]).g.set c.toNat g).getD c2.toNat 0<d.ay.getD c2.toNat 0;by_cases e:c.toNat=c2.toNat
 .rw[<-e,a2I,a1V (by omega)];exact hg.2
 rw[a2I,a1g e,<-a2I]at h2 ⊢;exact hJ.gv c2 Ie h2
theorem akG{m:Nat}(hO:Ok m qB){l:List V}(h:0<l.length):aX X0 Qp (bP m) (.fn 79 [] []) [lV l] [] (.agg (op0 l).ps) []:=oh.ZC hX (first:=[]) (cap:=[]) (hO 79 [lV l] (vA.put (op0 l)) [] [0<l.length] (by kernel_rfl) (fun p h9=>by rw[a2J.1 h9];exact h)) rfl rfl rfl rfl
def Kz(p:Dg×Int×Int):Dg×Int:=if(bQ [p.1] != 0)=true then(oJ,bQ [p.1])else if(!(ML 0 (i64.wrap ((p.1.ay.length:Int)-1)) p.2.1))=true then(oJ,3)else if(!(ML 0 (i64.wrap (p.1.ay.getD p.2.1.toNat 0-1)) p.2.2))=true then(oJ,3)else(Jk (akF p.1 p.2.1 p.2.2) op0,0)
def akH:eX aF:=cu 20 (a3 dA iA iA) (dR (a2 dA iA)) Kz (fun p=>[rV p.1]) qB
theorem a3F:(1:Nat)<=ah:=by unfold ah;omega
theorem apM:Gd akH:=Good.WO 24 Kv XD fun n hn hO FU p hp=>by
 have h1:rV p.1:=hp _ (.head _);have h2:∀d∈[p.1],rV d:=fun x hx=>by rw[a2J.1 hx];exact h1
 have h3:0<[p.1].length∧[p.1].length<=ah:=⟨by simp,a3F⟩;obtain⟨d,c,g⟩:=p;show oh X0 Qp _ _ _ ((dR (a2 dA iA)).put (Kz (d,c,g))) _;unfold Kz;have hJ:(bQ [d] != 0)=false->jU (dQ [d]):=fun e1=>yH (D:=[d]) (by simp) (by simp) h2 (by simpa using e1);have hc:(bQ [d] != 0)=false->(!(ML 0 (i64.wrap ((d.ay.length:Int)-1)) c))=false->gQ c d.ay.length:=fun _ e2=>a7U e2 h1.s;have s1:=fun(e1:(bQ [d] != 0)=false)=>Jv (n:=n) (f:=79) (by omega) (fun m hm=>hO m (by omega)) (D:=[d]) (by simp) (hJ e1).dw.len (k:=true) (ex:=true);have s2:=fun(e1:(bQ [d] != 0)=false) (e2:(!(ML 0 (i64.wrap ((d.ay.length:Int)-1)) c))=false) (e3:(!(ML 0 (i64.wrap (d.ay.getD c.toNat 0-1)) g))=false)=>
  have hz:=(hJ e1).dw.sz (d.ay.getD c.toNat 0) (dG (show c.toNat<d.ay.length by obtain⟨a,b⟩:=hc e1 e2;omega));have hR:=aaM h1 (by simpa using e1) (hc e1 e2) (aaL e3 (Int.le_trans (by decide) hz.1) hz.2)
  a7T (n:=n) (f:=79) hR (PD hR (Jb.inD h2 (show bQ [d]=0 by simpa using e1)) fun l hl hv=>hv _ (fK (by rw[hl];exact Nat.zero_lt_one))) (by omega) (fun m hm=>FU m (by omega)) (fun m hm l hl=>akG (hO m (by omega)) (by rw[hl];exact Nat.zero_lt_one)) (k:=true) (ex:=true) (k2:=true) (KZ:=true)
 have i2:=fun(e1:(bQ [d] != 0)=false) (e2:(!(ML 0 (i64.wrap ((d.ay.length:Int)-1)) c))=false)=>show gQ c (dQ [d]).g.length by rw[(hJ e1).gl];exact hc e1 e2
 exact aO (hO n (by omega)) (.o h2 (.o h3 (.sh (fun _=>.rn (.dI [.agg [.nil .slc,.nil .slc,.nil .slc,.nil .slc,.int .i64 0],.int .i64 (bQ [d])]) rfl) fun e1=>.sh (fun _=>.rn (.dI [.agg [.nil .slc,.nil .slc,.nil .slc,.nil .slc,.int .i64 0],.int .i64 3]) rfl) fun e2=>.o (hc e1 e2) (.sh (fun _=>.rn (.dI [.agg [.nil .slc,.nil .slc,.nil .slc,.nil .slc,.int .i64 0],.int .i64 3]) rfl) fun e3=>.fr [1] (s1 e1) (.o (i2 e1 e2) (.fr [1,2] (s2 e1 e2 e3) .rr))))))
end Go.Proofs.YtmobpoiejckagaaGreat
namespace Pv
open Go Tw
theorem Good.a7V{X:kH}{P:Program}{T:qC}{L:Nat}{α β:Type}{f:FuncId}{a:Ul X P α}{r:Ar X P β}{S:α->β}{pre:α->List Prop}{fH WQ a6Z akI:eX X.Γ}(d:Nat)(hg:Good X P T L fH)(hg2:Good X P T L WQ)(hg3:Good X P T L a6Z)(hg4:Good X P T L akI)
  (hf:∀n,d<=n->(∀m,n-d<=m->jw X P (kQ P T L m) fH)->(∀m,n-d<=m->jw X P (kQ P T L m) WQ)->(∀m,n-d<=m->jw X P (kQ P T L m) a6Z)->(∀m,n-d<=m->jw X P (kQ P T L m) akI)->∀x,(∀p∈pre x,p)->oh X P (kQ P T L (n+1)) f (a.put x) (r.put (S x)) []):Good X P T L (cu f a r S pre fH):=by
 obtain⟨N2,hN2⟩:=hg2;obtain⟨N3,hN3⟩:=hg3;obtain⟨N4,hN4⟩:=hg4;obtain⟨M,hM⟩:=hg;refine⟨M+N2+N3+N4+d+1,fun n hn=>?_⟩;obtain⟨k,rfl⟩:∃k,n=k+1:=⟨n-1,by omega⟩;intro g vs v ext ps ho hp;unfold cu at ho;split at ho
 .rename_i e;have e:=a8A e;subst e;split at ho
  .rename_i x hx;cases ho;intro A h first args cap Ig hv
   exact hf k (by omega) (fun m hm=>hM m (by omega)) (fun m hm=>hN2 m (by omega)) (fun m hm=>hN3 m (by omega)) (fun m hm=>hN4 m (by omega)) x hp A h first args cap Ig (a.ok hx hv)
  .exact hM (k+1) (by omega) g vs v ext ps ho hp
 .exact hM (k+1) (by omega) g vs v ext ps ho hp
end Pv
namespace Go.Proofs.YtmobpoiejckagaaGreat
open Go Tw Pv cO
def EK(k:Int):Bool:=decide (7<=k∧k<=16)
def oW(k:Int)(a b:V):V×Int:=if EK k=true then H6 k a b else(V0,2)
theorem bne{a b:Int}(h:a≠b):(a==b)=false:=by simpa using h
def a7W:eX aF:=Zn 101 (a1 uA) (fun _=>.nil .fn) (fun _=>[]) (fun p=>[EK p=false]) akH
theorem afK:Gd a7W:=apM.WM 0 fun n _ hO p hp=>by
 have h:¬(7<=p∧p<=16):=by simpa[EK]using hp _ (.head _)
 exact Bh hX (hO n (by omega)) (by kernel_rfl) (.b (bne (show p≠7 by omega)) (.b (bne (show p≠8 by omega)) (.b (bne (show p≠9 by omega)) (.b (bne (show p≠10 by omega)) (.b (bne (show p≠11 by omega)) (.b (bne (show p≠12 by omega)) (.b (bne (show p≠13 by omega)) (.b (bne (show p≠14 by omega)) .er))))))))
def Y4:eX aF:=cu 45 (a3 uA vA vA) (dR (a2 vA iA)) (fun p=>oW p.1 p.2.1 p.2.2) np a7W
theorem a1M:Gd Y4:=afK.deep 1 fun n hn hO p hp=>by
 obtain⟨k,a,b⟩:=p;cases h:EK k
 .have h9:¬(7<=k∧k<=16):=by simpa[EK]using h
  show oh X0 Qp _ _ _ ((dR (a2 vA iA)).put (oW k a b)) _;unfold oW;rw[h];exact aO (hO n (by omega)) (.b (bne (show k≠15 by omega)) (.b (bne (show k≠16 by omega)) (.o h (.b (rfl:true=true) .rr))))
 .show oh X0 Qp _ _ _ ((dR (a2 vA iA)).put (oW k a b)) _;unfold oW;rw[a0i h];exact hO (n+1) (by omega) 45 ((a3 uA vA vA).put (k,a,b)) ((dR (a2 vA iA)).put (H6 k a b)) [] [7<=k∧k<=16] (by kernel_rfl) (fun q hq=>by rw[a2J.1 hq];simpa[EK]using h)
open Go Tw Pv cO
theorem yu{v:V}:Ji v↔kJ v:=by
 unfold Ji vOk mG;constructor
 .rintro⟨h,h0⟩;split at h
  .rename_i e;split at h
   .rename_i e2;simp at e e2 h;exact⟨h0,by omega,fun _=>⟨e2,h⟩,fun hz=>absurd e hz⟩
   cases h
  split at h
  .rename_i e e2;simp at e e2 h;exact⟨h0,e2,fun hz=>absurd hz e,fun _=>h⟩
  cases h
 intro h;refine⟨?_,h.f0⟩;by_cases e:v.f=0
 .rw[a0i (by simpa using e),a0i (by simpa using(h.n e).1)];simpa using(h.n e).2
 rw[a0g (by simpa using e),a0i (by simpa using h.f1)];simpa using h.z e
theorem aaN{k:Int}{a b:V}:(H6 k a b).1=gy k a b:=by
 unfold H6 gy
 repeat' split
 all_goals rfl
theorem aaO{k:Int}(h:EK k=true){a b:V}(ha:Ji a)(hb:Ji b):Ji (oW k a b).1∧(oW k a b).1=bH k a b:=by
 have:=aez (by simpa[EK]using h) (yu.1 ha) (yu.1 hb);unfold oW;rw[a0i h,aaN,this.1];exact⟨yu.2 this.2,rfl⟩
theorem aaP{k:Int}{a b:V}(h:((oW k a b).2 != 0)=false):EK k=true:=by
 unfold oW at h;cases e:EK k
 .rw[e]at h;simp at h
 rfl
theorem aaQ:Ji lC:=⟨by decide,by decide⟩
theorem afL:Ji V0:=⟨by decide,by decide⟩
abbrev aaR(u:Int)(l:List V):V:=(oW u (l.getD 0 V0) (l.getD 1 V0)).1
abbrev aaS(l:List V):V:=(jA (l.getD 0 V0) (l.getD 1 V0) (l.getD 2 V0)).1
theorem akJ{m:Nat}{u:Int}(h1:1<=m)(hO:Ok (m-1) Y4){l:List V}(h:l.length=2):aX X0 Qp (bP m) (.fn 112 [] [.ptr 0 0 1]) [lV l] [.aC [.int .u8 u]] (.agg (aaR u l).ps) [.aC [.int .u8 u]]:=by
 obtain⟨m,rfl⟩:∃k,m=k+1:=⟨m-1,by omega⟩;exact fP hO (first:=[]) (cap:=[.ptr 0 0 1]) (.o (aH (by omega:0<l.length)) (.o (aH (by omega:1<l.length)) .er))
theorem apO{m:Nat}(h1:1<=m)(hO:Ok (m-1) Y4){l:List V}(h:l.length=3):aX X0 Qp (bP m) (.fn 113 [] []) [lV l] [] (.agg (aaS l).ps) []:=by
 obtain⟨m,rfl⟩:∃k,m=k+1:=⟨m-1,by omega⟩;exact fP hO (first:=[]) (cap:=[]) (.o (aH (by omega:0<l.length)) (.o (aH (by omega:1<l.length)) (.o (aH (by omega:2<l.length)) .er)))
theorem akK{m:Nat}(hO:Ok m Y4){l:List V}(h:l.length<=ah):aX X0 Qp (bP m) (.fn 117 [] []) [lV l] [] (.agg (nP l).ps) []:=oh.ZC hX (first:=[]) (cap:=[]) (hO 117 [lV l] (vA.put (nP l)) [] [l.length<=ah] (by kernel_rfl) (fun p h9=>by rw[a2J.1 h9];exact h)) rfl rfl rfl rfl
theorem aaT(l:List V):Ji (nP l):=by unfold nP;split;exact aaQ;exact afL
theorem ZQ{a b c:V}(ha:Ji a)(hb:Ji b)(hc:Ji c):Ji (jA a b c).1:=by
 have:=a2M (yu.1 ha) (yu.1 hb) (yu.1 hc);rw[this.1];exact yu.2 this.2
def wX(p:Int×Dg×Dg):Dg×Int:=if(bQ [p.2.1,p.2.2] != 0)=true then(oJ,bQ [p.2.1,p.2.2])else if((oW p.1 lC lC).2 != 0)=true then(oJ,(oW p.1 lC lC).2)else(Jk (dQ [p.2.1,p.2.2]) (aaR p.1),0)
def Y5(p:Dg×Dg×Dg):Dg×Int:=if(bQ [p.1,p.2.1,p.2.2] != 0)=true then(oJ,bQ [p.1,p.2.1,p.2.2])else(Jk (dQ [p.1,p.2.1,p.2.2]) aaS,0)
def zK(p:Dg):Dg×Int:=if(bQ [p] != 0)=true then(oJ,bQ [p])else(Jk (dQ [p]) nP,0)
theorem aaU{P:Dg->Prop}{a b:Dg}(ha:P a)(hb:P b):∀d∈[a,b],P d:=fun x hx=>by
 rcases a2e.1 hx with rfl|hx
 .exact ha
 .rw[a2J.1 hx];exact hb
theorem apP{P:Dg->Prop}{a b c:Dg}(ha:P a)(hb:P b)(hc:P c):∀d∈[a,b,c],P d:=fun x hx=>by
 rcases a2e.1 hx with rfl|hx
 .exact ha
 .exact aaU hb hc x hx
abbrev rnE(e:Int):PV aF:=.dI [.agg [.nil .slc,.nil .slc,.nil .slc,.nil .slc,.int .i64 0],.int .i64 e]
abbrev HcA(D:List Dg)(u:Int)(g:List Int):List (PB aF):=[.list true true 26 D,.cells [.int .u8 u],.list true true 3 g]
abbrev HcB(u:Int):List (PB aF):=[.gone,.cells [.int .u8 u],.gone]
theorem rE(e:Int):Fp (Γ:=X0.Γ) (Is (X:=X0) (P:=Qp) (dR (a2 dA iA)) (oJ,e)) .n (.ret (some (rnE e))):=by
 have h:(dR (a2 dA iA)).get (rnE e)=some (oJ,e):=rfl;exact Fp.rn (X:=X0) (P:=Qp) (rnE e) h
def akL:eX aF:=cu 62 (a3 uA dA dA) (dR (a2 dA iA)) wX (fun p=>[rV p.2.1,rV p.2.2]) Y4
theorem aaV:(2:Nat)<=ah:=by unfold ah;omega
theorem afM:(3:Nat)<=ah:=by unfold ah;omega
theorem apR:Gd akL:=Good.a7V 24 a1M XD Kv a1M fun n hn hO FU hO3 hO4 p hp=>by
 obtain⟨u,d,e⟩:=p;have h1:∀x∈[d,e],rV x:=aaU (hp _ (.head _)) (hp _ (.tail _ (.head _)));have h3:0<[d,e].length∧[d,e].length<=ah:=⟨by simp,aaV⟩;have hJ:(bQ [d,e] != 0)=false->jU (dQ [d,e]):=fun e1=>yH (D:=[d,e]) (by simp) (by simp) h1 (by simpa using e1);have s1:=fun(e1:(bQ [d,e] != 0)=false)=>afJ (n:=n) (f:=112) u (by omega) (fun m hm=>hO3 m (by omega)) (D:=[d,e]) (by simp) (hJ e1).dw.len (k:=true) (ex:=true);have s2:=fun(e1:(bQ [d,e] != 0)=false) (e2:((oW u lC lC).2 != 0)=false)=>akE (n:=n) (f:=112) u (hJ e1) (op:=aaR u) (PD (hJ e1) (Jb.inD h1 (show bQ [d,e]=0 by simpa using e1)) fun l hl hv=>(aaO (aaP e2) (hv _ (fK (show 0<l.length by rw[hl];exact Nat.zero_lt_two))) (hv _ (fK (show 1<l.length by rw[hl];exact Nat.one_lt_two)))).1) (by omega) (fun m hm=>FU m (by omega)) (fun m hm l hl=>akJ (by omega) (hO4 _ (by omega)) hl) (k:=true) (ex:=true) (k2:=true) (KZ:=true);show oh X0 Qp _ _ _ ((dR (a2 dA iA)).put (if(bQ [d,e] != 0)=true then(oJ,bQ [d,e])else if((oW u lC lC).2 != 0)=true then(oJ,(oW u lC lC).2)else(Jk (dQ [d,e]) (aaR u),0))) _;exact aO (hO n (by omega)) (.o h1 (.o h3 (.sh (fun _=>rE _) fun e1=>.sh (fun _=>rE _) fun e2=>.Qb (H2:=HcA [d,e] u (dQ [d,e]).g) [2,0] [1] (s1 e1) (.Qb (H2:=HcB u) [2,0,3] [1] (s2 e1 e2) .rr))))
def akN:eX aF:=cu 63 (a3 dA dA dA) (dR (a2 dA iA)) Y5 (fun p=>[rV p.1,rV p.2.1,rV p.2.2]) akL
theorem apS:Gd akN:=Good.a7V 24 apR XD Kv a1M fun n hn hO FU hO3 hO4 p hp=>by
 obtain⟨a,b,c⟩:=p;have h1:∀x∈[a,b,c],rV x:=apP (hp _ (.head _)) (hp _ (.tail _ (.head _))) (hp _ (.tail _ (.tail _ (.head _))));have h3:0<[a,b,c].length∧[a,b,c].length<=ah:=⟨by simp,afM⟩;have hJ:(bQ [a,b,c] != 0)=false->jU (dQ [a,b,c]):=fun e1=>yH (D:=[a,b,c]) (by simp) (by simp) h1 (by simpa using e1);have s1:=fun(e1:(bQ [a,b,c] != 0)=false)=>Jv (n:=n) (f:=113) (by omega) (fun m hm=>hO3 m (by omega)) (D:=[a,b,c]) (by simp) (hJ e1).dw.len (k:=true) (ex:=true);have s2:=fun(e1:(bQ [a,b,c] != 0)=false)=>a7T (n:=n) (f:=113) (hJ e1) (op:=aaS) (PD (hJ e1) (Jb.inD h1 (show bQ [a,b,c]=0 by simpa using e1)) fun l hl hv=>ZQ (hv _ (fK (show 0<l.length by rw[hl];exact Nat.succ_pos 2))) (hv _ (fK (show 1<l.length by rw[hl];exact Nat.succ_lt_succ (Nat.succ_pos 1)))) (hv _ (fK (show 2<l.length by rw[hl];exact Nat.lt_succ_self 2)))) (by omega) (fun m hm=>FU m (by omega)) (fun m hm l hl=>apO (by omega) (hO4 _ (by omega)) hl) (k:=true) (ex:=true) (k2:=true) (KZ:=true);show oh X0 Qp _ _ _ ((dR (a2 dA iA)).put (if(bQ [a,b,c] != 0)=true then(oJ,bQ [a,b,c])else(Jk (dQ [a,b,c]) aaS,0))) _;exact aO (hO n (by omega)) (.o h1 (.o h3 (.sh (fun _=>rE _) fun e1=>.fr [1] (s1 e1) (.fr [1,2] (s2 e1) .rr))))
def akO:eX aF:=cu 67 (a1 dA) (dR (a2 dA iA)) zK (fun p=>[rV p]) akN
theorem apT:Gd akO:=Good.a7V 24 apS XD Kv a1M fun n hn hO FU hO3 hO4 d hp=>by
 have h1:∀x∈[d],rV x:=fun x hx=>by rw[a2J.1 hx];exact hp _ (.head _)
 have h3:0<[d].length∧[d].length<=ah:=⟨by simp,a3F⟩;have hJ:(bQ [d] != 0)=false->jU (dQ [d]):=fun e1=>yH (D:=[d]) (by simp) (by simp) h1 (by simpa using e1);have s1:=fun(e1:(bQ [d] != 0)=false)=>Jv (n:=n) (f:=117) (by omega) (fun m hm=>hO3 m (by omega)) (D:=[d]) (by simp) (hJ e1).dw.len (k:=true) (ex:=true);have s2:=fun(e1:(bQ [d] != 0)=false)=>a7T (n:=n) (f:=117) (hJ e1) (op:=nP) (fun t hd=>aaT _) (by omega) (fun m hm=>FU m (by omega)) (fun m hm l hl=>akK (hO4 m (by omega)) (by rw[hl];exact a3F)) (k:=true) (ex:=true) (k2:=true) (KZ:=true);show oh X0 Qp _ _ _ ((dR (a2 dA iA)).put (if(bQ [d] != 0)=true then(oJ,bQ [d])else(Jk (dQ [d]) nP,0))) _;exact aO (hO n (by omega)) (.o h1 (.o h3 (.sh (fun _=>rE _) fun e1=>.fr [1] (s1 e1) (.fr [1,2] (s2 e1) .rr))))
open Go Tw Pv cO
def kC(v:V):Int:=if(!(wP v))=true then 2 else 0
def Y6:eX aF:=cu 106 (a1 vA) iA (fun p=>kC p) np akO
theorem adf:Gd Y6:=apT.add fun n hO p hp=>aO hO (.ss .rr .rr)
theorem a7Y{n f:Nat}{J:Jb}{k ex k2 KZ:Bool}(h:aX X0 Qp (bP n) (.fn 87 [] []) [.agg (J.ps (.fn f [] []))] [] (.map 0) [.map (kV.im (dW J))]):aX X0 Qp (bP n) (.fn 87 [] []) [.agg [lI J.s,lI J.o,.own 0,.own 1,.fn f [] []]] [.list k ex 26 J.D,.list k2 KZ 3 J.g] (.map 2) [.gone,.gone,.map (kV.im (dW J))]:=by
 have h1:=aX.frame hX (ks:=[]) (H':=[.gone,.gone]) (Hp:=[]) (PO:=[.map (kV.im (dW J))]) (v':=.map 2) (fv':=.fn 87 [] []) (xs':=[.agg (J.ps (.fn f [] []))]) h (by decide) rfl rfl rfl rfl rfl rfl rfl;exact aX.fz hX (H:=[.list k ex 26 J.D,.list k2 KZ 3 J.g]) (cs:=[lI J.s,lI J.o,.own 0,.own 1]) (rest:=[.fn f [] []]) [0,1] h1 rfl (fun i hi=>by simpa[kM.jX,kM]using hi)
open Go Tw Pv cO
def look(t:List (V×Int))(v:V):Int:=((t.find? fun e=>decide (e.1=v)).map (·.2)).getD 0
theorem I8{t:List (V×Int)}(hn:(t.map (·.1)).Nodup)(v:V):(qj X0 Qp 39 (kV.im t) (kV.tv v) (.int .i64 (look t v)))∨(look t v=0∧nD X0 Qp 39 (kV.im t) (kV.tv v)):=by
 by_cases h:v∈t.map (·.1)
 .obtain⟨e,he,hv⟩:=a1d.1 h;obtain⟨e2,h2⟩:=a4w.1 (List.find?_isSome (p:=fun e:V×Int=>decide (e.1=v)) |>.2 ⟨e,he,show decide (e.1=v)=true by simpa using hv⟩);have h3:e2.1=v:=by simpa using List.find?_some h2
  refine .inl (kV.found (by rw[zI];exact hn) (a1d.2 ⟨e2,aeT h2,?_⟩));unfold look;rw[h2,h3];rfl
 refine .inr ⟨?_,kV.fresh (by rw[zI];exact h)⟩;unfold look;rw[adl.2 fun e he=>by
  simp only[a1E];intro hv;exact h (a1d.2 ⟨e,he,hv⟩)]
 rfl
abbrev akP:PV aF:=.agg [.nil .slc,.nil .slc,.nil .slc,.nil .slc,.nil .fn]
abbrev a7Z(J:Jb)(f:Nat)(a b:Nat):PV aF:=.agg [lI J.s,lI J.o,.own a,.own b,.fn f [] []]
abbrev HO(D:List Dg)(g:List Int):List (PB aF):=[.list true true 26 D,.list true true 3 g]
theorem a3G{P:Dg->Prop}{d:Dg}(h:P d):∀x∈[d],P x:=fun x hx=>by rw[a2J.1 hx];exact h
theorem akQ{n:Nat}(hO:Ok n Y6){d:Dg}{v:V}(hp:rV d)(e1:(bQ [d] != 0)=true):aX X0 Qp (bP (n+1)) (.fn 86 [] []) [.agg d.ps,.agg v.ps] [] (.dI [akP,.int .i64 (bQ [d])]) []:=by
 have h1:∀x∈[d],rV x:=a3G hp;have h3:0<[d].length∧[d].length<=ah:=⟨by simp,a3F⟩;exact aX.drop hX (qX hX hO (first:=[]) (cap:=[]) (H1:=[.list true true 26 [d]]) (by kernel_rfl) (.o h1 (.o h3 (.b e1 .er)))) rfl rfl
theorem akR{n:Nat}(hO:Ok n Y6){d:Dg}{v:V}(hp:rV d)(e1:(bQ [d] != 0)=false)(e2:(kC v != 0)=true):aX X0 Qp (bP (n+1)) (.fn 86 [] []) [.agg d.ps,.agg v.ps] [] (.dI [akP,.int .i64 4]) []:=by
 have h1:∀x∈[d],rV x:=a3G hp;have h3:0<[d].length∧[d].length<=ah:=⟨by simp,a3F⟩;exact aX.drop hX (qX hX hO (first:=[]) (cap:=[]) (H1:=[.list true true 26 [d]]) (by kernel_rfl) (.o h1 (.o h3 (.b e1 (.b e2 .er))))) rfl rfl
theorem akS{n:Nat}(h2:2<=n)(Aq:Ok n Y6)(hO:∀m,n-2<=m->Ok m qB){d:Dg}{v:V}(hp:rV d)(e1:(bQ [d] != 0)=false)(e2:(kC v != 0)=false):aX X0 Qp (bP (n+1)) (.fn 86 [] []) [.agg d.ps,.agg v.ps] [] (.dI [a7Z (dQ [d]) 79 0 1,.int .i64 0]) (HO [d] (dQ [d]).g):=by
 have h1:∀x∈[d],rV x:=a3G hp;have h3:0<[d].length∧[d].length<=ah:=⟨by simp,a3F⟩;have hJ:jU (dQ [d]):=yH (D:=[d]) (by simp) (by simp) h1 (by simpa using e1);have s1:=Jv (n:=n) (f:=79) h2 hO (D:=[d]) (by simp) hJ.dw.len (k:=true) (ex:=true);have h:aX X0 Qp (bP (n+1)) (.fn 86 [] []) [.agg d.ps,.agg v.ps] [] (.dI [a7Z (dQ [d]) 79 1 2,.int .i64 0]) [.list true true 26 [d],.list true true 26 [d],.list true true 3 (dQ [d]).g]:=fP Aq (first:=[]) (cap:=[]) (.o h1 (.o h3 (.b e1 (.b e2 (.fr [1] s1 .er)))));exact aX.gs hX h [.gc [1,2]] rfl
theorem wY(J:Jb):((dW J).map (·.1)).Nodup:=(((qh Y0 (AO (nR J))).map (·.1)).nodup_iff).2 (FI (nR J)).1
theorem KA(φ:V->Int)(J:Jb):dF φ (dW J)=dV φ (nR J):=by
 unfold dW;rw[a3o φ (qh Y0 (AO (nR J))),SC]
theorem Y7{α:Type}:∀l:List α,dV (fun _=>1) l=(l.length:Int)
 | []=>rfl
 |a::l=>by
  have:=Y7 l;simp only[dV,a3S];omega
theorem SQ{J:Jb}(hJ:jU J):Jt (dW J):=by
 refine⟨fun e he=>(FI (nR J)).2 e ((qh Y0 (AO (nR J))).mem_iff.1 he),?_⟩;rw[KA,Y7];have h1:(nR J).length<=(Ef J).length:=by
  unfold nR V3;rw[a4a];exact a4E (a8Q _ _) (by rw[a4a];exact a0V _)
 have h2:(Ef J).length<=EI J.s:=a4E (a8Q _ _) (by rw[a4a,a8E];exact a0V _);have h3:=hJ.dw.a9J;have h4:=hJ.dw.many;omega
def V6(p:Dg×V):Int×Int:=if(bQ [p.1] != 0)=true then(0,bQ [p.1])else if(kC p.2 != 0)=true then(0,4)else(look (dW (dQ [p.1])) p.2,0)
def afN:eX aF:=cu 27 (a2 dA vA) (dR (a2 iA iA)) V6 (fun p=>[rV p.1]) Y6
theorem apU:Gd afN:=Good.WO 24 adf Kv fun n hn hO FU p hp=>by
 obtain⟨d,v⟩:=p;have h1:rV d:=hp _ (.head _);obtain⟨n,rfl⟩:∃k,n=k+1:=⟨n-1,by omega⟩;have Aq:=hO (n+1) (by omega);cases e1:(bQ [d] != 0)
 .cases e2:(kC v != 0)
  .have s1:=akS (n:=n) (by omega) (hO n (by omega)) (fun m hm=>FU m (by omega)) h1 e1 e2;have hJ:jU (dQ [d]):=yH (D:=[d]) (by simp) (by simp) (a3G h1) (by simpa using e1);have s2:=a7Y (k:=true) (ex:=true) (k2:=true) (KZ:=true) (Pq hJ (n:=n-1) (f:=79) (FU _ (by omega)) (show 0<[d].length by simp));rw[show n-1+2=n+1 by omega]at s2;show oh X0 Qp _ _ _ ((dR (a2 iA iA)).put (if(bQ [d] != 0)=true then(0,bQ [d])else if(kC v != 0)=true then(0,4)else(look (dW (dQ [d])) v,0))) _;rw[e1,e2];rcases I8 (wY (dQ [d])) v with hf|⟨hz,hf⟩
   .exact aO Aq (.fr [] s1 (.b (rfl:((0:Int) != 0)=false) (.fr [0,1] s2 (.c (.int .i64 (look (dW (dQ [d])) v)) [] hf .rr))))
   .rw[hz];exact aO Aq (.fr [] s1 (.b (rfl:((0:Int) != 0)=false) (.fr [0,1] s2 (.a .calm (.o hf .rr)))))
  .have s1:=akR (n:=n) (hO n (by omega)) h1 e1 e2;show oh X0 Qp _ _ _ ((dR (a2 iA iA)).put (if(bQ [d] != 0)=true then(0,bQ [d])else if(kC v != 0)=true then(0,4)else(look (dW (dQ [d])) v,0))) _;rw[e1,e2];exact aO Aq (.fr [] s1 (.b (rfl:((4:Int) != 0)=true) .rr))
 .have s1:=akQ (n:=n) (v:=v) (hO n (by omega)) h1 e1;show oh X0 Qp _ _ _ ((dR (a2 iA iA)).put (if(bQ [d] != 0)=true then(0,bQ [d])else if(kC v != 0)=true then(0,4)else(look (dW (dQ [d])) v,0))) _;rw[a0i e1];exact aO Aq (.fr [] s1 (.b e1 .rr))
open Go Tw Pv cO
structure An where
 q:Int
 none:Bool
 yes:Bool
 n:Int
 lo:Int
 hi:Int
 fault:Bool
 set:List Int
deriving DecidableEq
abbrev An0:An:=⟨0,false,false,0,0,0,false,[]⟩
def akT:Ar X0 Qp Unit where
 put _:=.nil .slc
 get v:=match v with
  |.nil .slc=>some ()
  |_=>none
 ok:=by
  intro v a hg A m h x hv;split at hg
  .exact hv
  .cases hg
def Vh:Arg An:=aer (a5W (KO uA (KO tA (KO tA (KO iA (KO iA (a4 iA tA pW akT)))))))
 (fun p=>⟨p.1,p.2.1,p.2.2.1,p.2.2.2.1,p.2.2.2.2.1,p.2.2.2.2.2.1,p.2.2.2.2.2.2.1,p.2.2.2.2.2.2.2.1⟩) (fun a=>(a.q,a.none,a.yes,a.n,a.lo,a.hi,a.fault,a.set,())) fun _=>rfl
abbrev anW(a:An)(s:PV aF):PV aF:=.agg [.int .u8 a.q,.bool a.none,.bool a.yes,.int .i64 a.n,.int .i64 a.lo,.int .i64 a.hi,.bool a.fault,s,.nil .slc]
theorem rA(a:An)(h:a.set=[])(e:Int):Fp (Γ:=X0.Γ) (Is (X:=X0) (P:=Qp) (dR (a2 Vh iA)) (a,e)) .n (.ret (some (.dI [anW a (.nil .slc),.int .i64 e]))):=by
 obtain⟨q,no,y,n,l,hi,f,s⟩:=a;cases h;have h:(dR (a2 Vh iA)).get (.dI [anW ⟨q,no,y,n,l,hi,f,[]⟩ (.nil .slc),.int .i64 e])=some (⟨q,no,y,n,l,hi,f,[]⟩,e):=rfl;exact Fp.rn (X:=X0) (P:=Qp) _ h
def a81(q:Int)(t:List (V×Int)):An×Int:=
 if(q==1)=true then(⟨q,false,look t lC==dF (fun _=>1) t,0,0,0,false,[]⟩,0)
 else if(q==2)=true then(⟨q,false,decide (look t lC>0),0,0,0,false,[]⟩,0)
 else if(q==3)=true then(⟨q,false,false,look t lC,0,0,false,[]⟩,0)
 else if(q==4)=true then(if lH t=[]then(⟨q,true,false,0,0,0,uI t,[]⟩,0)else(⟨q,((lH t).length:Int)==0,false,0,(lH t).getD 0 0,(lH t).getD (i64.wrap ((lH t).length-1)).toNat 0,uI t,[]⟩,0))
 else(⟨q,false,false,0,0,0,uI t,lH t⟩,0)
def FN(q:Int)(t:List (V×Int)):An×Int:=if t=[]then(⟨q,true,false,0,0,0,false,[]⟩,0)else a81 q t
def a1N(p:Int×Dg×Dg):An×Int:=if(bQ [p.2.1,p.2.2] != 0)=true then(An0,bQ [p.2.1,p.2.2])else if decide (p.1<1)=true then(An0,2)else if decide (p.1>5)=true then(An0,2)else FN p.1 (dW (dQ [p.2.1,p.2.2]))
def a88:eX aF:=cu 33 (a3 uA dA dA) (dR (a2 Vh iA)) a1N (fun p=>[rV p.2.1,rV p.2.2]) afN
theorem afO{t:List (V×Int)}(h:Jt t):(lH t).length<=2000:=by
 unfold lH;rw[show ∀l:List Int,(gK l).length=l.length from fun l=>(adL l _).length_eq,a4a];exact a4E (a8Q _ _) h.len
abbrev HMt(t:List (V×Int)):List (PB aF):=[.map (kV.im t)]
abbrev HMn(t:List (V×Int)):List (PB aF):=[.map (kV.im t),.list false false 3 (lH t)]
section
variable {n:Nat} {q:Int} {d e:Dg} (hO:Ok n afN) (h1:∀ x∈[d,e],rV x) (e1:(bQ [d,e] != 0)=false) (e2:decide (q<1)=false) (e3:decide (q>5)=false) {t:List (V×Int)} (ht:Jt t)
 (s1:aX X0 Tryz.prog (bP n) (.fn 78 [] []) [.fn 79 [] [],.own 0] [.list true true 26 [d,e]] (a7Z (dQ [d,e]) 79 0 1) (HO [d,e] (dQ [d,e]).g))
 (s2:aX X0 Tryz.prog (bP n) (.fn 87 [] []) [a7Z (dQ [d,e]) 79 0 1] (HO [d,e] (dQ [d,e]).g) (.map 2) [.gone,.gone,.map (kV.im t)])
 (s3:aX X0 Tryz.prog (bP n) (.fn 90 [] []) [.map 0] [.iE (kV.im t)] (.int .i64 (dF (fun _=>1) t)) [.iE (kV.im t)])
 (s4:lH t=[]->aX X0 Tryz.prog (bP n) (.fn 88 [] []) [.map 0] [.iE (kV.im t)] (.dI [.nil .slc,.bool (uI t)]) [.iE (kV.im t)])
 (s5:lH t≠[]->aX X0 Tryz.prog (bP n) (.fn 88 [] []) [.map 0] [.iE (kV.im t)] (.dI [.own 1,.bool (uI t)]) [.iE (kV.im t),.list false false 3 (lH t)])
include hO h1 e1 e2 e3 s1 s2
theorem aaW(h:t=[]):oh X0 Qp (bP (n+1)) 33 ((a3 uA dA dA).put (q,d,e)) ((dR (a2 Vh iA)).put (⟨q,true,false,0,0,0,false,[]⟩,0)) []:=by
 subst h;have h3:0<[d,e].length∧[d,e].length<=ah:=⟨by simp,aaV⟩;exact aO hO (.o h1 (.o h3 (.b e1 (.b e2 (.b e3 (.fr [1] s1 (.fr [1,2] s2 (.b (show(((kV.im ([]:List (V×Int))).length:Int)==0)=true from rfl) (rA _ rfl _)))))))))
variable (hd:(t.map (·.1)).Nodup)
include ht s3 s4 s5 hd
theorem a8a(h:t≠[]):oh X0 Qp (bP (n+1)) 33 ((a3 uA dA dA).put (q,d,e)) ((dR (a2 Vh iA)).put (a81 q t)) []:=by
 have h3:0<[d,e].length∧[d,e].length<=ah:=⟨by simp,aaV⟩;have hl:(((kV.im t).length:Int)==0)=false:=by
  rw[kV.oV];cases t with
  |nil=>exact absurd rfl h
  |cons a r=>exact bne (by simp only[a3S];omega)
 have TA:=afO ht;have s0:aX X0 Qp (bP n) (.fn 89 [] []) [] [] (.agg lC.ps) []:=oh.ZC hX (first:=[]) (cap:=[]) (hO 89 [] (vA.put lC) [] [] (by kernel_rfl) (fun p h=>by cases h)) rfl rfl rfl rfl;unfold a81;by_cases hn:lH t=[]
 .rw[a0i hn];rcases I8 hd lC with hf|⟨hz,hf⟩
  .exact aO hO (.o h1 (.o h3 (.b e1 (.b e2 (.b e3 (.fr [1] s1 (.fr [1,2] s2 (.b hl (.Qb (H2:=HMt t) [3] [0] (s4 hn) (.ss (.fr [] s0 (.c (.int .i64 (look t lC)) [] hf (.Qb (H2:=HMt t) [3] [0] s3 (rA _ rfl _)))) (.ss (.fr [] s0 (.c (.int .i64 (look t lC)) [] hf (rA _ rfl _))) (.ss (.fr [] s0 (.c (.int .i64 (look t lC)) [] hf (rA _ rfl _))) (.ss (.b (c:=!((0:Int)==0)) (t:=false) rfl (rA _ rfl _)) (rA ⟨q,false,false,0,0,0,uI t,lH t⟩ hn _))))))))))))))
  rw[hz];exact aO hO (.o h1 (.o h3 (.b e1 (.b e2 (.b e3 (.fr [1] s1 (.fr [1,2] s2 (.b hl (.Qb (H2:=HMt t) [3] [0] (s4 hn) (.ss (.a .calm (.o hf (.Qb (H2:=HMt t) [3] [0] s3 (rA _ rfl _)))) (.ss (.a .calm (.o hf (rA _ rfl _))) (.ss (.a .calm (.o hf (rA _ rfl _))) (.ss (.b (c:=!((0:Int)==0)) (t:=false) rfl (rA _ rfl _)) (rA ⟨q,false,false,0,0,0,uI t,lH t⟩ hn _))))))))))))))
 rw[a0g hn];have hp:0<(lH t).length:=aa2.2 hn;have hb:(!(((lH t).length:Int)==0))=true:=by rw[bne (by omega)];rfl
 have i0:gQ 0 (lH t).length:=aH hp;have i1:gQ (i64.wrap ((lH t).length-1)) (lH t).length:=by
  rw[wrap_small (by omega) (by omega)];exact⟨by omega,by omega⟩
 rcases I8 hd lC with hf|⟨hz,hf⟩
 .exact aO hO (.o h1 (.o h3 (.b e1 (.b e2 (.b e3 (.fr [1] s1 (.fr [1,2] s2 (.b hl (.Qb (H2:=HMn t) [3] [0] (s5 hn) (.ss (.fr [] s0 (.c (.int .i64 (look t lC)) [] hf (.Qb (H2:=HMt t) [3] [0] s3 (rA _ rfl _)))) (.ss (.fr [] s0 (.c (.int .i64 (look t lC)) [] hf (rA _ rfl _))) (.ss (.fr [] s0 (.c (.int .i64 (look t lC)) [] hf (rA _ rfl _))) (.ss (.b hb (.o i0 (.o i1 (rA _ rfl _)))) .rr)))))))))))))
 rw[hz];exact aO hO (.o h1 (.o h3 (.b e1 (.b e2 (.b e3 (.fr [1] s1 (.fr [1,2] s2 (.b hl (.Qb (H2:=HMn t) [3] [0] (s5 hn) (.ss (.a .calm (.o hf (.Qb (H2:=HMt t) [3] [0] s3 (rA _ rfl _)))) (.ss (.a .calm (.o hf (rA _ rfl _))) (.ss (.a .calm (.o hf (rA _ rfl _))) (.ss (.b hb (.o i0 (.o i1 (rA _ rfl _)))) .rr)))))))))))))
end
theorem akU:Gd a88:=Good.WO 24 apU Kv fun n hn hO FU p hp=>by
 obtain⟨q,d,e⟩:=p;have h1:∀x∈[d,e],rV x:=aaU (hp _ (.head _)) (hp _ (.tail _ (.head _)));have h3:0<[d,e].length∧[d,e].length<=ah:=⟨by simp,aaV⟩;have Aq:=hO n (by omega);show oh X0 Qp _ _ _ ((dR (a2 Vh iA)).put (if(bQ [d,e] != 0)=true then(An0,bQ [d,e])else if decide (q<1)=true then(An0,2)else if decide (q>5)=true then(An0,2)else FN q (dW (dQ [d,e])))) _;cases e1:(bQ [d,e] != 0)
 .cases e2:decide (q<1)
  .cases e3:decide (q>5)
   .have hJ:=yH (D:=[d,e]) (by simp) (by simp) h1 (by simpa using e1);have ht:=SQ hJ;have s1:=Jv (n:=n) (f:=79) (by omega) (fun m hm=>FU m (by omega)) (D:=[d,e]) (by simp) hJ.dw.len (k:=true) (ex:=true);have s2:=a7Y (k:=true) (ex:=true) (k2:=true) (KZ:=true) (Pq hJ (n:=n-2) (f:=79) (FU _ (by omega)) (show 0<[d,e].length by simp));have s3:=apB (n:=n-1) ht;have s4:=(adb (n:=n-2) ht).1;have s5:=(adb (n:=n-2) ht).2;rw[show n-2+2=n by omega]at s2 s4 s5;rw[show n-1+1=n by omega]at s3;show oh X0 Qp _ _ _ ((dR (a2 Vh iA)).put (FN q (dW (dQ [d,e])))) _;unfold FN;by_cases h:dW (dQ [d,e])=[]
    .rw[a0i h];exact aaW Aq h1 e1 e2 e3 s1 s2 h
    .rw[a0g h];exact a8a Aq h1 e1 e2 e3 ht s1 s2 s3 s4 s5 (wY _) h
   .exact aO Aq (.o h1 (.o h3 (.b e1 (.b e2 (.b e3 (rA _ rfl _))))))
  .exact aO Aq (.o h1 (.o h3 (.b e1 (.b e2 (rA _ rfl _)))))
 .exact aO Aq (.o h1 (.o h3 (.b e1 (rA _ rfl _))))
open Go Tw Pv cO
section
variable {n:Nat} {t:List (V×Int)} (h:Jt t) (ht:t≠[])
theorem akV{k:Bool}:aX X0 Qp (bP (n+1)) (.fn 96 [] []) [.map 0] [.map (kV.im t)] vF [.map (kV.im t),.cells [.map 0]]:=
 fP fZ (first:=[]) (cap:=[]) .er
include h ht
theorem akW:aX X0 Qp (bP (n+3)) (.fn 95 [] []) [vF] [.iE (kV.im t),.aC [.map 0]] (.slc 2 0 t.length t.length 1 false) [.iE (kV.im t),.aC [.map 0],.mM ((rO t).map KY)]:=by
 have h1:=aaJ (n:=n) h ht;exact fP fZ (first:=[]) (cap:=[]) (.k h1 .er)
omit ht in
theorem a8b:(rO t).length=t.length:=by
 unfold rO;rw[(qh _ _).length_eq,a4a]
theorem akX:aX X0 Qp (bP (n+1)) (.fn 94 [] []) [.slc 0 0 t.length t.length 1 false] [.mM ((rO t).map KY)] (.int .i64 (Pz (rO t))) [.mM ((rO t).map KY)]:=by
 have hl:=a8b h;have h0:rO t≠[]:=fun e=>ht (a7o.1 (by rw[<-hl,e];rfl));have:=aky (n:=n) h0 (by rw[hl];exact h.len)
 rwa [hl]at this
end
end Go.Proofs.YtmobpoiejckagaaGreat
namespace Pv
open Go Tw
section
variable {X:kH} {P:Program}
theorem aX.lend(hX:bK X P){call:bf}{f:FuncId}{cs ws rest xs:List (PV X.Γ)}{H:List (PB X.Γ)}{es:List (PV X.Γ×PV X.Γ)}(is:List Nat)(hs:aX X P call (.fn f [] []) (.agg (ws++rest)::xs) (aZ is H) (.map H.length) (aZ is H++[.map es]))
  (hv:views H cs=some ws) (ho:∀i,i∈kM.jX cs->i∈is) (hg:aZ is H=List.replicate H.length .gone):aX X P call (.fn f [] []) (.agg (cs++rest)::xs) H (.map H.length) (H++[.map es]):=by
 intro A m h tf rU hr hf hx;obtain⟨x0,r,rfl,v0,vr⟩:=hx.inv;cases v0 with
 |gone hi _ _=>simp[bn]at hi
 |agg a1 a2=>
  rename_i cs';have ha:bV X P (AA A m) m h (cs++rest) cs':=⟨a1,a2⟩;obtain⟨c1,c2,rfl,b1,b2⟩:=DW ha;have hF:=iw (h:=h) is m;have w1:=(l7 (m':=bT is m) hX hr b1 hv ho).mono fun b hb=>FA.gone hr hb;have w2:=b2.step hF.1 hF.2;have w3:=w1.app w2;have Zd:=hr.aZ is;obtain⟨w,h',Tz,m1,k1,k2,k3,k4,k5,k6⟩:=hs A (bT is m) h tf (.agg (c1++c2)::r) Zd (hf.step hF.1 hF.2) (.cons (.agg w3.1 w3.2) (vr.step hF.1 hF.2));have e0:∀b,b∉bC (bT is m):=fun b hb=>by
   unfold bC at hb;obtain⟨mb,h1,h2⟩:=a5X.1 hb;obtain⟨i,hi,e⟩:=aar h1;have KE:i<H.length:=by have:=Zd.len;rw[nG]at this;omega
   obtain⟨mb2,g1,g2⟩:=Zd.at_ i .gone (by rw[hg,acZ,a0i KE]);rw[a0b hi,e]at g1;cases g1;cases mb with
   |gone=>cases h2
   |_=>exact g2.elim
  obtain⟨mb,g1,g2⟩:=k2.at_ H.length (.map es) (by rw[a19 (by rw[nG];exact a0V _),nG];simp);cases mb with
  |fV c=>
   have hc:c∈bC m1:=a5X.2 ⟨_,a4f g1,rfl⟩;have Ie:h.length<=c:=(k4.new c hc).resolve_left (e0 c);have xP:bC (m++[.fV c])=bC m++[c]:=by unfold bC;rw[List.filterMap_append];rfl
   have hF2:Fr m h (m++[.fV c]) h':=⟨k4.len,fun b hb _=>k4.same b hb (e0 b),fun b hb=>by
    rw[xP]at hb;rcases a2X.1 hb with hb|hb
    .exact .inl hb
    .rw[a2J.1 hb];exact .inr Ie,k4.grow⟩
   have hU2:Up m (m++[.fV c]):=fun i mb hi=>.inl (by rw[a0c (a02.1 hi).1];exact hi);have hm:(m++[MB.fV c])[H.length]? = some (.fV c):=by rw[<-hr.len];simp
   refine⟨w,h',Tz,m++[.fV c],k1,⟨by simp[hr.len],fun i b hi=>?_,?_,k2.up,fun b hb=>?_⟩,?_,hF2,hU2,fun b hb=>absurd (k6 b hb) (e0 b)⟩
   .by_cases aQ:i<H.length
    .rw[a0c aQ]at hi;obtain⟨mb,q1,q2⟩:=hr.at_ i b hi;exact⟨mb,by rw[a0c (by rw[hr.len];exact aQ)];exact q1,q2.step hF2 hU2 fun d hd=>k4.same d (BR.has q2 hd) (e0 d)⟩
    .have KE:i=H.length:=by
      have:=(a02.1 hi).1;rw[a1X,a3P]at this;omega
     subst KE;rw[a19 (a0V _)]at hi;simp at hi;subst hi;exact⟨_,hm,g2⟩
   .rw[xP];refine a8w.2 ⟨hr.nodup,by simp,fun a ha b hb=>?_⟩;rw[a2J.1 hb];have:=hr.inb ha;omega
   .rw[xP]at hb;rcases a2X.1 hb with hb|hb
    .exact hr.CP b hb
    .rw[a2J.1 hb];exact k2.CP c hc
   .cases k3 with
    |map e=>rw[g1]at e;cases e;exact .map hm
    |gone hi e o=>simp only[bn,a01]at hi;subst hi;rw[g1]at e;cases e
  |_=>exact g2.elim
variable {A:Nat->Prop} {m m':List MB} {H:List (PB X.Γ)} {h:List HB}
theorem aaX(hX:bK X P){k:Bool}{t i:Nat}{l:List (X.Γ t)}{x:TV}(hl:LR X P (AA A m) m h k true t l x)(hi:m[i]? = some (.dn x)){is:List Nat}(hs:i∈is):VR X P (FA A m is) m' h (.dn t l true) x:=by
 cases hl with
 |nil=>exact .o8
 |emp h0 h1 h2 h3 h4=>exact .dn (.inl h0) h1 (fun e=>absurd rfl e) h3 h4 (by simpa using h2) (a0V _) (fun _=>⟨rfl,rfl⟩) (fun j a hj=>by simp at hj) (fun j a i c v hj=>by simp at hj)
 |some h1 h2 h3 h4 h5 h6 h7 h8 h9=>
  refine .dn (cs:=_) (.inr ⟨i,_,hs,hi,?_⟩) (by unfold aV;rw[h4]) (fun _=>wI h4 (by omega)) h2 h3 (by omega) (a0V _) (fun _=>⟨h7 rfl,rfl⟩) h9.1 ?_
  .simp only[MB.own];rw[a0g (by simpa using h1)]
  intro j a q c v e1 e2 e3;exact((h9.2.2 j a q c v e1 e2 e3).mono fun b hb=>.inl hb).jc hX (eY (hX.jc _ _) e2)
theorem aX.full(hX:bK X P){call:bf}{fv v:PV X.Γ}{xs:List (PV X.Γ)}{H H1:List (PB X.Γ)}{i t:Nat}{k:Bool}{l:List (X.Γ t)}(hk:H[i]? = some (.list k true t l))(hs:aX X P call fv (.dn t l true::xs) (aZ [i] H) v H1):aX X P call fv (.own i::xs) H v H1:=by
 intro A m h tf rU hr hf hx;obtain⟨x0,r,rfl,v0,vr⟩:=hx.inv;obtain⟨mb,g1,g2⟩:=hr.at_ i _ hk;cases mb with
 |dn y=>
  have hy:x0=y:=by
   cases v0 with
   |own e _=>rw[g1]at e;cases e;rfl
   |gone hi e _=>simp only[bn,a01]at hi;subst hi;rw[g1]at e;cases e
  subst hy;have hF:=iw (h:=h) [i] m;have w1:VR X P (AA A (bT [i] m)) (bT [i] m) h (.dn t l true) x0:=(aaX (m':=bT [i] m) hX g2 g1 (is:=[i]) (by simp)).mono fun b hb=>FA.gone hr hb;obtain⟨w,h',Tz,m1,k1,k2,k3,k4,k5,k6⟩:=hs A (bT [i] m) h tf (x0::r) (hr.aZ [i]) (hf.step hF.1 hF.2) (.cons w1 (vr.step hF.1 hF.2));refine⟨w,h',Tz,m1,k1,k2,k3,hF.1.trans k4,hF.2.trans k5,fun b hb=>?_⟩;rcases hF.1.new b (k6 b hb)with g|g
  .exact g
  have:=(hr.aZ [i]).inb (k6 b hb);omega
 |_=>exact g2.elim
end
end Pv
namespace Go.Proofs.YtmobpoiejckagaaGreat
open Go Tw Pv cO
abbrev lkC(no:Bool)(n:Int)(s:PV aF):List (PV aF):=[.int .u8 8,.bool no,.bool false,.int .i64 n,.int .i64 0,.int .i64 0,.bool false,s,.nil .slc]
abbrev wLk(l:List Dg)(d:Dg)(n:Int)(s:PV aF)(H:List (PB aF))(i:Int)(x:List (Nat×PE aF)):aS aF:=⟨[(3,.loc 0 0),(4,.loc 1 0),(31,.val (.dn 26 l true)),(32,xi l.length),(33,xi i)]++x,[d.ps,lkC false n s],H⟩
abbrev hLk(b:Int):List (PB aF):=[.list true true 3 ([b]:List Int)]
def akY(l:List Dg)(d:Dg)(i:Int)(x:List (Nat×PE aF)):Option (Int×Int)->aS aF
 |none=>wLk l d 0 (.nil .slc) [] i x
 |some (b,z)=>wLk l d z (.own 0) (hLk b) i x
def tLk(l:List Dg)(d:Dg)(k:Nat):List (V×Int):=dW (dQ [l.getD k oJ,d])
def mLk(l:List Dg)(d:Dg)(k:Nat):Int:=Pz (rO (tLk l d k))
def gLk(l:List Dg)(d:Dg)(k:Nat)(s:Option (Int×Int)):Option (Int×Int)⊕(Option (Int×Int)×Nat):=
 if tLk l d k=[]then .inr (s,k)else match s with
  |none=>.inl (some ((k:Int),mLk l d k))
  |some (b,z)=>if decide (mLk l d k<z)=true then .inl (some ((k:Int),mLk l d k))else .inl (some (b,z))
def zLk(l:List Dg)(d:Dg):Option (Int×Int)⊕(Option (Int×Int)×Nat)->Ex×aS aF
 |.inl s=>(.exit 1,akY l d l.length [(34,xl false)] s)
 |.inr (none,k)=>(.ret,⟨[(4,.loc 1 0),(5,xi 0)],[d.ps,lkC true 0 (.nil .slc),(l.getD k oJ).ps],[]⟩)
 |.inr (some (b,z),k)=>(.ret,⟨[(4,.loc 1 0),(5,xi 0)],[d.ps,lkC true z (.own 0),(l.getD k oJ).ps],hLk b⟩)
structure LkP(l:List Dg)(d:Dg):Prop where
 p:∀x∈l++[d],rV x
 g:∀x∈l++[d],DgG x∧x.ay=((l++[d]).getD 0 oJ).ay∧x.aG=((l++[d]).getD 0 oJ).aG
theorem LkP.j{l:List Dg}{d:Dg}(h:LkP l d){k:Nat}(hk:k<l.length):jU (dQ [l.getD k oJ,d]):=by
 have h1:=h.g (l.getD k oJ) (a5d _ (fK hk));have h2:=h.g d (abu _ (a2J.2 rfl));exact ade (D:=[l.getD k oJ,d]) (by simp) (by simp) (aaU (P:=fun x=>DgG x∧x.ay=(l.getD k oJ).ay∧x.aG=(l.getD k oJ).aG) ⟨h1.1,rfl,rfl⟩ ⟨h2.1,h2.2.1.trans h1.2.1.symm,h2.2.2.trans h1.2.2.symm⟩)
theorem lLk{n:Nat}(hn:24<=n)(hO:∀m,n-24<=m->Ok m qB){l:List Dg}{d:Dg}(h:LkP l d)(hl:l.length<=ah):Lp n 39 0 (wLk l d 0 (.nil .slc) [] 0 []) (zLk l d (lG (gLk l d) l.length 0 none)).1 (zLk l d (lG (gLk l d) l.length 0 none)).2:=by
 refine iZ (st:=fun i s=>akY l d i [] s) (g:=gLk l d) (out:=zLk l d) (s0:=none) (fun k s=>k=0↔s=none) (by kernel_rfl) hl (by simp) (fun k s m hk hi ih=>?_) (fun s _=>?_)
 .have hJ:=h.j hk;have ht:Jt (tLk l d k):=SQ hJ;have s1:=Jv (n:=n) (f:=79) (by omega) (fun m hm=>hO m (by omega)) (D:=[l.getD k oJ,d]) (by simp) hJ.dw.len (k:=true) (ex:=true);have s2:=a7Y (k:=true) (ex:=true) (k2:=true) (KZ:=true) (Pq hJ (n:=n-2) (f:=79) (hO _ (by omega)) (show 0<[l.getD k oJ,d].length by simp));rw[show n-2+2=n by omega]at s2
  change aX _ _ _ _ _ _ _ [.gone,.gone,.map (kV.im (tLk l d k))]at s2
  unfold gLk;by_cases h0:tLk l d k=[]
  .rw[a0i h0];rw[h0]at s2;have hz:(((kV.im ([]:List (V×Int))).length:Int)==0)=true:=rfl;rcases s with _|⟨b,z⟩
   .exact aN fZ (.b (bD hk) (.o (aH hk) (.fr [0] s1 (.fr [0,1] s2 (.b hz (.ouG [.gc []] nofun))))))
   exact aN fZ (.b (bD hk) (.o (aH hk) (.fr [1] s1 (.fr [1,2] s2 (.b hz (.ouG [.gc [0]] nofun))))))
  rw[a0g h0];have hz:(((kV.im (tLk l d k)).length:Int)==0)=false:=by
   rw[kV.oV];exact bne (by have:=aa2.2 h0;omega)
  have s3:=akV (n:=n-1) (t:=tLk l d k) (k:=true);have s4:=akW (n:=n-3) ht h0;have s5:=akX (n:=n-1) ht h0;rw[show n-1+1=n by omega]at s3 s5;rw[show n-3+3=n by omega]at s4;rcases s with _|⟨b,z⟩
  .have hk0:k=0:=hi.2 rfl;have hb:((k:Int)==0)=true:=by rw[hk0];rfl
   exact aN fZ (.b (bD hk) (.o (aH hk) (.fr [0] s1 (.fr [0,1] s2 (.b hz (.fr [2] s3 (.Qb (H2:=[.map (kV.im (tLk l d k)),.cells [.map 0],.mM ((rO (tLk l d k)).map KY)]) [2,3] [0,1] s4 (.fr [4] s5 (.b hb (.nxG [.gc [5]] (ih _ (by simp))))))))))))
  have hk0:k≠0:=fun e=>by cases hi.1 e
  have hb:((k:Int)==0)=false:=bne (by omega);exact aN fZ (.b (bD hk) (.o (aH hk) (.fr [1] s1 (.fr [1,2] s2 (.b hz (.fr [3] s3 (.Qb (H2:=[.map (kV.im (tLk l d k)),.cells [.map 0],.mM ((rO (tLk l d k)).map KY)]) [3,4] [0,1] s4 (.fr [5] s5 (.b hb (.ls (.nxG [.gc [6]] (ih _ (by simp))) (.nxG [.gc [0]] (ih _ (by simp)))))))))))))
 rcases s with _|⟨b,z⟩
 .exact aN fZ (.b (fF l.length) (.ou nofun))
 exact aN fZ (.b (fF l.length) (.ou nofun))
theorem afQ{n:Nat}{l:List Dg}:aX X0 Qp (bP (n+1)) (.fn 93 [] []) [.dn 26 l true] [] (.dn 26 l true) []:=fP fZ (first:=[]) (cap:=[]) (.o (rfl:((0:Nat):Int)=0) (.o (rfl:(l.length:Int)=(l.length:Int)) (.o (rfl:(l.length:Int)=(l.length:Int)) .er)))
def akZ:Option (Int×Int)⊕(Option (Int×Int)×Nat)->An
 |.inl none=>⟨8,false,false,0,0,0,false,[]⟩
 |.inl (some (b,z))=>⟨8,false,false,z,0,0,false,[b]⟩
 |.inr (none,_)=>⟨8,true,false,0,0,0,false,[]⟩
 |.inr (some (b,z),_)=>⟨8,true,false,z,0,0,false,[b]⟩
def MO(p:List Dg×Dg):An×Int:=if decide ((p.1.length:Int)>4)=true then(An0,5)else if(bQ (p.1++[p.2]) != 0)=true then(An0,bQ (p.1++[p.2]))else if((p.1.length:Int)==0)=true then(An0,7)else(akZ (lG (gLk p.1 p.2) p.1.length 0 none),0)
theorem aaY{n:Nat}(hn:24<=n)(Aq:Ok n a88)(FU:∀m,n-24<=m->Ok m qB){l:List Dg}{d:Dg}(h1:∀x∈l++[d],rV x)(h2:l.length<=1000):oh X0 Qp (bP (n+1)) 39 [.dn 26 l true,.agg d.ps] ((dR (a2 Vh iA)).put (MO (l,d))) []:=by
 have hl:l.length<=ah:=by unfold ah;omega
 have h3:0<(l++[d]).length∧(l++[d]).length<=ah:=by rw[a1X,a3P];unfold ah;omega
 have h4:l.length+[d].length<=ah:=by rw[a3P];unfold ah;omega
 have h5:l=[]∨[d]≠[]:=.inr (by simp);have s0:=afQ (n:=n-1) (l:=l);rw[show n-1+1=n by omega]at s0;show oh X0 Qp _ _ _ ((dR (a2 Vh iA)).put (if decide ((l.length:Int)>4)=true then(An0,5)else if(bQ (l++[d]) != 0)=true then(An0,bQ (l++[d]))else if((l.length:Int)==0)=true then(An0,7)else(akZ (lG (gLk l d) l.length 0 none),0))) _;cases e1:decide ((l.length:Int)>4)
 .cases e2:(bQ (l++[d]) != 0)
  .cases e3:((l.length:Int)==0)
   .have hk:LkP l d:=⟨h1,ZP h1 (by simpa using e2)⟩;have lp:=lLk (n:=n) hn FU hk hl;revert lp;rcases lG (gLk l d) l.length 0 none with(_|⟨b,z⟩)|⟨_|⟨b,z⟩,k⟩
    .intro lp;exact aO Aq (.b e1 (.fr [] s0 (.o h4 (.o h5 (.o h1 (.o h3 (.b e2 (.b e3 (.wG [.gc []] lp (rA ⟨8,false,false,0,0,0,false,[]⟩ rfl _))))))))))
    .intro lp;exact aO Aq (.b e1 (.fr [] s0 (.o h4 (.o h5 (.o h1 (.o h3 (.b e2 (.b e3 (.wG [.gc []] lp .rr)))))))))
    .intro lp;exact aO Aq (.b e1 (.fr [] s0 (.o h4 (.o h5 (.o h1 (.o h3 (.b e2 (.b e3 (.wG [.gc []] lp (rA ⟨8,true,false,0,0,0,false,[]⟩ rfl _))))))))))
    intro lp;exact aO Aq (.b e1 (.fr [] s0 (.o h4 (.o h5 (.o h1 (.o h3 (.b e2 (.b e3 (.wG [.gc []] lp .rr)))))))))
   exact aO Aq (.b e1 (.fr [] s0 (.o h4 (.o h5 (.o h1 (.o h3 (.b e2 (.b e3 (rA _ rfl _)))))))))
  exact aO Aq (.b e1 (.fr [] s0 (.o h4 (.o h5 (.o h1 (.o h3 (.b e2 (rA _ rfl _))))))))
 exact aO Aq (.b e1 (rA _ rfl _))
theorem al0{n:Nat}(hn:24<=n)(Aq:Ok n a88)(FU:∀m,n-24<=m->Ok m qB){k:Bool}{l:List Dg}{d:Dg}(h1:∀x∈l++[d],rV x)(h2:l.length<=1000):aX X0 Qp (bP (n+1)) (.fn 39 [] []) [.own 0,.agg d.ps] [.list k true 26 l] ((dR (a2 Vh iA)).put (MO (l,d))) [.gone]:=by
 have h:=oh.ZC hX (first:=[]) (cap:=[]) (xs:=[.dn 26 l true,.agg d.ps]) (aaY hn Aq FU h1 h2) rfl rfl rfl rfl;have h2:=aX.frame hX (ks:=[]) (H':=[.gone]) (Hp:=[]) (PO:=[]) (v':=(dR (a2 Vh iA)).put (MO (l,d))) (fv':=.fn 39 [] []) (xs':=[.dn 26 l true,.agg d.ps]) h (by decide) rfl rfl rfl rfl rfl rfl rfl;exact aX.full hX (i:=0) (k:=k) (t:=26) (l:=l) rfl h2
open Go Tw Pv cO
def jg(d:Dg)(g:List Int):Jb:=⟨d.ay,d.aG,[d],g⟩
structure ZR(d:Dg)(g:List Int):Prop where
 len:g.length=d.ay.length
 v:∀c,gQ c d.ay.length->0<=g.getD c.toNat 0->g.getD c.toNat 0<d.ay.getD c.toNat 0
theorem adg{d:Dg}(hJ:jU (dQ [d])){g:List Int}(h:ZR d g):jU (jg d g):=⟨hJ.d3,hJ.dw,hJ.ord,fun k hk=>have h:=hJ.dg k hk;⟨h.t,h.n,h.s,h.o,h.rk,h.two⟩,h.len,h.v⟩
theorem ZR.set{d:Dg}{g:List Int}(h:ZR d g){c k:Nat}(hk:(k:Int)<d.ay.getD (c:Int).toNat 0):ZR d (g.set (c:Int).toNat (k:Int)):=by
 refine⟨by rw[a4e];exact h.len,fun c2 Ie h2=>?_⟩;by_cases e:(c:Int).toNat=c2.toNat
 .obtain⟨q0,q1⟩:=Ie;rw[<-e,a2I,a1V (by rw[h.len];omega)];exact hk
 rw[a2I,a1g e,<-a2I]at h2 ⊢;exact h.v c2 Ie h2
theorem apZ{d:Dg}(hJ:jU (dQ [d])):ZR d (dQ [d]).g:=⟨hJ.gl,hJ.gv⟩
abbrev jcF(d:Dg):List (PV aF):=[lI d.ay,lI d.aG,.own 0,.own 1,.fn 79 [] []]
abbrev hF(d:Dg)(g:List Int):List (PB aF):=[.list true true 26 [d],.list true true 3 g]
abbrev wFo(d:Dg)(v:V)(g:List Int)(c:Int)(x:List (Nat×PE aF)):aS aF:=⟨[(3,.loc 1 0),(6,.loc 2 0),(29,xL 3 d.ay),(30,xi d.ay.length),(31,xi c)]++x,[d.ps,v.ps,jcF d],hF d g⟩
abbrev wFi(d:Dg)(v:V)(g:List Int)(c:Int)(i:Int)(x:List (Nat×PE aF)):aS aF:=⟨[(3,.loc 1 0),(6,.loc 2 0),(8,xi c),(29,xL 3 d.ay),(30,xi d.ay.length),(31,xi c),(36,xi (d.ay.getD c.toNat 0)),(37,xi i)]++x,[d.ps,v.ps,jcF d],hF d g⟩
theorem adh{n f:Nat}{J:Jb}{k ex k2 KZ:Bool}(h:aX X0 Qp (bP n) (.fn 87 [] []) [.agg (J.ps (.fn f [] []))] [] (.map 0) [.map (kV.im (dW J))]):aX X0 Qp (bP n) (.fn 87 [] []) [a7Z J f 0 1] [.list k ex 26 J.D,.list k2 KZ 3 J.g] (.map 2) [.list k ex 26 J.D,.list k2 KZ 3 J.g,.map (kV.im (dW J))]:=by
 have h1:=aX.frame hX (ks:=[]) (H':=[.gone,.gone]) (Hp:=[]) (PO:=[.map (kV.im (dW J))]) (v':=.map 2) (fv':=.fn 87 [] []) (xs':=[.agg (J.ps (.fn f [] []))]) h (by decide) rfl rfl rfl rfl rfl rfl rfl;exact aX.lend hX (H:=[.list k ex 26 J.D,.list k2 KZ 3 J.g]) (cs:=[lI J.s,lI J.o,.own 0,.own 1]) (rest:=[.fn f [] []]) [0,1] h1 rfl (fun i hi=>by simpa[kM.jX,kM]using hi) rfl
def lkF(d:Dg)(v:V)(g:List Int):Int:=look (dW (jg d g)) v
def gIn(d:Dg)(v:V)(c:Nat)(k:Nat)(g:List Int):List Int⊕(List Int×Nat):=if decide (lkF d v (g.set (c:Int).toNat (k:Int))>0)=true then .inr (g.set (c:Int).toNat (k:Int),k)else .inl (g.set (c:Int).toNat (k:Int))
def oIn:List Int⊕(List Int×Nat)->List Int
 |.inl g=>g
 |.inr r=>r.1
def nIn(d:Dg)(c:Nat):Nat:=(d.ay.getD (c:Int).toNat 0).toNat
def PG(d:Dg)(v:V)(c:Nat)(g:List Int):List Int:=oIn (lG (gIn d v c) (nIn d c) 0 g)
def zFi(d:Dg)(v:V)(c:Nat):List Int⊕(List Int×Nat)->Ex×aS aF
 |.inl g=>(.exit 3,wFi d v g (c:Int) (nIn d c) [(38,xl false)])
 |.inr (g,k)=>(.exit 2,wFi d v g (c:Int) k [(49,xl true)])
theorem a8d{d:Dg}{v:V}{c:Nat}:∀(m k:Nat) (g:List Int),k+m<=nIn d c->ZR d g->ZR d (oIn (lG (gIn d v c) m k g))
 | 0,_,g,_,h=>h
 |m+1,k,g,hk,h=>by
  have h1:ZR d (g.set (c:Int).toNat (k:Int)):=h.set (by unfold nIn at hk;omega);simp only[lG,gIn];by_cases e:decide (lkF d v (g.set (c:Int).toNat (k:Int))>0)=true
  .rw[a0i e];exact h1
  rw[a0g e];exact a8d m (k+1) _ (by omega) h1
section
variable {n:Nat} (hn:24<=n) (hO:∀ m,n-24<=m->Ok m qB) {d:Dg} (hJ:jU (dQ [d])) {v:V}
include hn hO hJ
theorem lFi{c:Nat}(hc:c<d.ay.length){g:List Int}(hg:ZR d g):Lp n 28 1 (wFi d v g (c:Int) 0 []) (zFi d v c (lG (gIn d v c) (nIn d c) 0 g)).1 (zFi d v c (lG (gIn d v c) (nIn d c) 0 g)).2:=by
 have hz:=hJ.dw.sz (d.ay.getD (c:Int).toNat 0) (dG (show(c:Int).toNat<d.ay.length by simpa using hc));have hN:((nIn d c:Nat):Int)=d.ay.getD (c:Int).toNat 0:=by unfold nIn;omega
 refine iZ (st:=fun i g=>wFi d v g (c:Int) i []) (g:=gIn d v c) (out:=zFi d v c) (s0:=g) (fun k g=>ZR d g) (by kernel_rfl) (by unfold ah;omega) hg (fun k g m hk hi ih=>?_) (fun g _=>?_)
 .have t1:decide ((k:Int)<d.ay.getD (c:Int).toNat 0)=true:=by rw[<-hN,a1E];omega
  have hg2:ZR d (g.set (c:Int).toNat (k:Int)):=hi.set (by rw[<-hN];omega);have i1:gQ (c:Int) g.length:=by rw[hi.len];exact aH hc
  have s2:=adh (k:=true) (ex:=true) (k2:=true) (KZ:=true) (Pq (adg hJ hg2) (n:=n-2) (f:=79) (hO _ (by omega)) (show 0<[d].length by simp));rw[show n-2+2=n by omega]at s2;unfold gIn lkF;rcases I8 (wY (jg d (g.set (c:Int).toNat (k:Int)))) v with hf|⟨hz2,hf⟩
  .exact aN fZ (.b t1 (.o i1 (.fr [0,1] s2 (.c (.int .i64 (look (dW (jg d (g.set (c:Int).toNat (k:Int)))) v)) [] hf (.ls (.ouG [.gc [0,1]] nofun) (.nxG [.gc [0,1]] (ih _ hg2)))))))
  rw[hz2];exact aN fZ (.b t1 (.o i1 (.fr [0,1] s2 (.a .calm (.o hf (.ls (.ouG [.gc [0,1]] nofun) (.nxG [.gc [0,1]] (ih _ hg2))))))))
 have t1:decide (((nIn d c:Nat):Int)<d.ay.getD (c:Int).toNat 0)=false:=by rw[<-hN];exact fF _
 exact aN fZ (.b t1 (.ou nofun))
set_option maxRecDepth 20000 in
theorem lFo:Lp n 28 0 (wFo d v (dQ [d]).g 0 []) (.exit 1) (wFo d v (aT (PG d v) d.ay.length 0 (dQ [d]).g) d.ay.length [(32,xl false)]):=by
 have hl:d.ay.length<=ah:=by have:d.ay.length<=6:=hJ.dw.len;unfold ah;omega
 refine H8 (X:=X0) (N:=d.ay.length) (g:=PG d v) (s0:=(dQ [d]).g) (st:=fun c g=>wFo d v g c []) (fin:=fun g=>wFo d v g d.ay.length [(32,xl false)]) (fun _ g=>ZR d g) (by kernel_rfl) hl OE (apZ hJ) (fun c g hc hg=>a8d (nIn d c) 0 g (by omega) hg) (fun c g hc hg m e p g9=>?_) (fun g _=>?_)
 .have lp:=lFi hn hO hJ (v:=v) hc hg;unfold PG at g9;revert lp g9;rcases lG (gIn d v c) (nIn d c) 0 g with g1|⟨g1,k⟩
  .intro g9 lp;exact aN fZ (.b (bD hc) (.o (aH hc) (.w lp (.go g9))))
  intro g9 lp;exact aN fZ (.b (bD hc) (.o (aH hc) (.w lp (.go g9))))
 exact aN fZ (.b (fF d.ay.length) .ex)
end
open Go Tw Pv cO
def lD(p:Dg×V):List Int×Int:=if(bQ [p.1] != 0)=true then([],bQ [p.1])else if(kC p.2 != 0)=true then([],4)else if(look (dW (dQ [p.1])) p.2==0)=true then([],7)else(aT (PG p.1 p.2) p.1.ay.length 0 (dQ [p.1]).g,0)
def al1:eX aF:=cu 28 (a2 dA vA) (dR (a2 pW iA)) lD (fun p=>[rV p.1]) a88
theorem rF(e:Int):Fp (Γ:=X0.Γ) (Is (X:=X0) (P:=Qp) (dR (a2 pW iA)) (([]:List Int),e)) .n (.ret (some (.dI [.nil .slc,.int .i64 e]))):=by
 have h:(dR (a2 pW iA)).get (.dI [.nil .slc,.int .i64 e])=some (([]:List Int),e):=rfl;exact Fp.rn (X:=X0) (P:=Qp) _ h
theorem aq1:Gd al1:=Good.acX 30 akU Kv adf fun n hn hO FU hO3 p hp=>by
 obtain⟨d,v⟩:=p;have h1:rV d:=hp _ (.head _);obtain⟨n,rfl⟩:∃k,n=k+1:=⟨n-1,by omega⟩;have Aq:=hO (n+1) (by omega);show oh X0 Qp _ _ _ ((dR (a2 pW iA)).put (if(bQ [d] != 0)=true then([],bQ [d])else if(kC v != 0)=true then([],4)else if(look (dW (dQ [d])) v==0)=true then([],7)else(aT (PG d v) d.ay.length 0 (dQ [d]).g,0))) _;cases e1:(bQ [d] != 0)
 .cases e2:(kC v != 0)
  .have s1:=akS (n:=n) (by omega) (hO3 n (by omega)) (fun m hm=>FU m (by omega)) h1 e1 e2;have hJ:jU (dQ [d]):=yH (D:=[d]) (by simp) (by simp) (a3G h1) (by simpa using e1);have s2:=adh (k:=true) (ex:=true) (k2:=true) (KZ:=true) (Pq hJ (n:=n-1) (f:=79) (FU _ (by omega)) (show 0<[d].length by simp));rw[show n-1+2=n+1 by omega]at s2;have lp:=lFo (n:=n+1) (by omega) (fun m hm=>FU m (by omega)) hJ (v:=v);show oh X0 Qp _ _ _ ((dR (a2 pW iA)).put (if(look (dW (dQ [d])) v==0)=true then([],7)else(aT (PG d v) d.ay.length 0 (dQ [d]).g,0))) _;rcases I8 (wY (dQ [d])) v with hf|⟨hz,hf⟩
   .exact aO Aq (.fr [] s1 (.b (rfl:((0:Int) != 0)=false) (.fr [0,1] s2 (.c (.int .i64 (look (dW (dQ [d])) v)) [] hf (.ss (rF _) (.wG [.gc [0,1]] lp .rr))))))
   .rw[hz];exact aO Aq (.fr [] s1 (.b (rfl:((0:Int) != 0)=false) (.fr [0,1] s2 (.a .calm (.o hf (.ss (rF _) (.wG [.gc [0,1]] lp .rr)))))))
  .have s1:=akR (n:=n) (v:=v) (hO3 n (by omega)) h1 e1 e2;exact aO Aq (.fr [] s1 (.b (rfl:((4:Int) != 0)=true) (rF _)))
 .have s1:=akQ (n:=n) (v:=v) (hO3 n (by omega)) h1 e1;exact aO Aq (.fr [] s1 (.b e1 (rF _)))
end Go.Proofs.YtmobpoiejckagaaGreat
namespace Pv
open Go Tw
section
variable {X:kH} {P:Program}
theorem aX.cell1(hX:bK X P){call:bf}{fv v:PV X.Γ}{Rq ws1 cs Wp ws2:List (PV X.Γ)}{H H1:List (PB X.Γ)}{i e sz:Nat}{row:X.Γ e}(is:List Nat)(hi:H[i]? = some (.cells cs))(hz:dB P e=some sz)(h0:0<sz)(hl:cs.length=sz)(Zd:(X.enc e row).length=sz)
  (hs:aX X P call fv [.agg (ws1++(.dn e [row] false::ws2))] (aZ (i::is) H) v H1) (v1:views H Rq=some ws1) (v2:views H cs=some (X.enc e row)) (v3:views H Wp=some ws2)
  (o1:∀j,j∈kM.jX Rq->j∈i::is) (o2:∀j,j∈kM.jX cs->j∈i::is) (o3:∀j,j∈kM.jX Wp->j∈i::is):aX X P call fv [.agg (Rq++(.slc i 0 1 1 sz true::Wp))] H v H1:=by
 intro A m h tf rU hr hf hx;obtain⟨x0,r,rfl,v0,vr⟩:=hx.inv;cases v0 with
 |gone hi _ _=>simp[bn]at hi
 |agg a1 a2=>
  rename_i cs';have ha:bV X P (AA A m) m h (Rq++(.slc i 0 1 1 sz true::Wp)) cs':=⟨a1,a2⟩;obtain⟨c1,c2,rfl,b1,b2⟩:=DW ha;obtain⟨y,c3,rfl,b3,b4⟩:=b2.inv;obtain⟨mb,g1,g2⟩:=hr.at_ i _ hi;cases mb with
  |fV b=>
   obtain⟨ts,g3,g4⟩:=g2;have hy:y=.slc b 0 1 1 sz true:=by
    cases b3 with
    |slc q=>rw[g1]at q;cases q;rfl
    |gone hi q _=>simp only[bn,a01]at hi;subst hi;rw[g1]at q;cases q
   subst hy;have hF:=iw (h:=h) (i::is) m;have w1:=(l7 (m':=bT (i::is) m) hX hr b1 v1 o1).mono fun b hb=>FA.gone hr hb;have w3:=(l7 (m':=bT (i::is) m) hX hr b4 v3 o3).mono fun b hb=>FA.gone hr hb;have w2:=l7 (m':=bT (i::is) m) hX hr g4 v2 o2;have hb:FA A m (i::is) b:=.inr ⟨i,_,a2T,g1,rfl⟩;have q2:VR X P (FA A m (i::is)) (bT (i::is) m) h (.dn e [row] false) (.slc b 0 [row].length 1 sz true):=.dn (cs:=ts) hb (by unfold aV;rw[g3]) (fun _=>wJ g3 (by simp)) hz h0 (by rw[<-g4.1,hl];simp) (a0V _) (fun e=>by cases e)
    (fun j a hj=>by
     cases j with
     |zero=>simp only[a2C,a01]at hj;subst hj;exact Zd
     |succ j=>simp at hj) (fun j a q c w hj hq hw=>by
     cases j with
     |zero=>simp only[a2C,a01]at hj;subst hj;exact w2.2 q c w hq (by simpa using hw)
     |succ j=>simp at hj)
   have w4:=w1.app (.cons (q2.mono fun b hb=>FA.gone hr hb) w3);obtain⟨w,h',Tz,m1,k1,k2,k3,k4,k5,k6⟩:=hs A (bT (i::is) m) h tf (.agg (c1++(.slc b 0 1 1 sz true::c3))::r) (hr.aZ (i::is)) (hf.step hF.1 hF.2) (.cons (.agg w4.1 w4.2) (vr.step hF.1 hF.2));refine⟨w,h',Tz,m1,k1,k2,k3,hF.1.trans k4,hF.2.trans k5,fun b hb=>?_⟩;rcases hF.1.new b (k6 b hb)with g|g
   .exact g
   .have:=(hr.aZ (i::is)).inb (k6 b hb);omega
  |_=>exact g2.elim
end
end Pv
namespace Go.Proofs.YtmobpoiejckagaaGreat
open Go Tw Pv cO
abbrev dz:List (PV aF):=[.nil .slc,.nil .slc,.nil .slc,.nil .slc,.int .i64 0]
abbrev cCh(s o:List Int):List (PV aF):=[lI s,lI o,.own 1,.slc 0 0 1 1 2 true,.int .i64 0]
abbrev hCh(c:Int)(x:List V×List Int):List (PB aF):=[.cells [.int .i64 c,.own 2],.list false false 39 x.1,.list false false 3 x.2]
abbrev wCh(s o:List Int)(c w n:Int)(y:List V×List Int)(i:Int)(x:List (Nat×PE aF)):aS aF:=⟨[(3,xi w),(8,.loc 0 0),(11,.loc 1 0),(47,xi n),(48,xi i)]++x,[dz,cCh s o],hCh c y⟩
def gCh(w:Int)(i:Nat)(y:List V×List Int):List V×List Int:=(y.1++[⟨0,i64.wrap (w+(i:Int))⟩],y.2++[i64.wrap (-1-(i:Int))])
def chE(w:Int)(n:Nat):List V:=(List.range n).map fun(i:Nat)=>(⟨0,i64.wrap (w+(i:Int))⟩:V)
def chK(n:Nat):List Int:=(List.range n).map fun(i:Nat)=>i64.wrap (-1-(i:Int))
theorem Y8(w:Int):∀n,aT (gCh w) n 0 ([],[])=(chE w n,chK n)
 | 0=>rfl
 |n+1=>by
  rw[tK,Y8 w n,a3O];unfold gCh chE chK;rw[adi,a3T,a3T];rfl
theorem lCh{n:Nat}{s o:List Int}{c w:Int}{z:Nat}(hz:z<=12)(h0:s.getD c.toNat 0=(z:Int)):Lp n 57 0 (wCh s o c w (s.getD c.toNat 0) ([],[]) 0 []) (.exit 0) (wCh s o c w (s.getD c.toNat 0) (chE w z,chK z) z [(49,xl false)]):=by
 rw[<-Y8 w z,h0];refine H8 (X:=X0) (N:=z) (g:=gCh w) (s0:=([],[])) (st:=fun i y=>wCh s o c w (z:Int) y i []) (fin:=fun y=>wCh s o c w (z:Int) y z [(49,xl false)]) (fun k y=>y.1.length=k∧y.2.length=k) (by kernel_rfl) (by unfold ah;omega) OE ⟨rfl,rfl⟩ (fun k y hk hi=>?_) (fun k y hk hi m e p g9=>?_) (fun y _=>?_)
 .unfold gCh;simp[hi.1,hi.2]
 .obtain⟨E,K⟩:=y;have a1:E.length+[(⟨0,i64.wrap (w+(k:Int))⟩:V)].length<=ah:=by rw[a3P];have:E.length=k:=hi.1;unfold ah;omega
  have a2:K.length+[i64.wrap (-1-(k:Int))].length<=ah:=by rw[a3P];have:K.length=k:=hi.2;unfold ah;omega
  exact aN fZ (.b (bD hk) (.o a1 (.o a2 (.goG [.gc [0,4,6]] g9))))
 exact aN fZ (.b (fF z) .ex)
def chD(s o:List Int)(c w:Int)(z:Nat):Dg:=⟨s,o,chE w z,[⟨c,chK z⟩],0⟩
theorem aaZ{n:Nat}(hO:Ok n a7g){s o:List Int}{c:Int}{y:List V×List Int}(hd:let d:Dg:=⟨s,o,y.1,[⟨c,y.2⟩],0⟩;Kq d∧d.ay.length<=ah∧d.aG.length<=2^20∧d.aI.length<=ah∧(((bF d).2 != 0)=false->ClP (bF d).1)) :
  aX X0 Qp (bP n) (.fn 108 [] []) [.agg (cCh s o)] (hCh c y) ((dR (a2 dA iA)).put (zC ⟨s,o,y.1,[⟨c,y.2⟩],0⟩)) [.gone,.gone,.gone]:=by
 obtain⟨h1,h2,h3,h4,h5⟩:=hd;have k0:aX X0 Qp (bP n) (.fn 108 [] []) [.agg (⟨s,o,y.1,[⟨c,y.2⟩],0⟩:Dg).ps] [] ((dR (a2 dA iA)).put (zC ⟨s,o,y.1,[⟨c,y.2⟩],0⟩)) []:=oh.ZC hX (first:=[]) (cap:=[]) (hO 108 [.agg (⟨s,o,y.1,[⟨c,y.2⟩],0⟩:Dg).ps] ((dR (a2 dA iA)).put (zC ⟨s,o,y.1,[⟨c,y.2⟩],0⟩)) [] _ (by kernel_rfl) (fun p h=>by
  rcases a2e.1 h with rfl|h
  .exact h1
  rcases a2e.1 h with rfl|h
  .exact h2
  rcases a2e.1 h with rfl|h
  .exact h3
  rcases a2e.1 h with rfl|h
  .exact h4
  rw[a2J.1 h];exact h5)) rfl rfl rfl rfl
 have k1:=aX.frame hX (ks:=[]) (H':=[.gone,.gone,.gone]) (Hp:=[]) (PO:=[]) (v':=(dR (a2 dA iA)).put (zC ⟨s,o,y.1,[⟨c,y.2⟩],0⟩)) (fv':=.fn 108 [] []) (xs':=[.agg (⟨s,o,y.1,[⟨c,y.2⟩],0⟩:Dg).ps]) k0 (by decide) rfl rfl rfl rfl rfl rfl rfl;exact aX.cell1 hX (H:=hCh c y) (Rq:=[lI s,lI o,.own 1]) (ws1:=[lI s,lI o,lV y.1]) (cs:=[.int .i64 c,.own 2]) (Wp:=[.int .i64 0]) (ws2:=[.int .i64 0]) (i:=0) (e:=105) (sz:=2) (row:=(⟨c,y.2⟩:Br)) [1,2] rfl (by kernel_rfl) (by decide) rfl rfl k1 rfl rfl rfl (fun j hj=>by simp[kM.jX,kM]at hj ⊢;omega) (fun j hj=>by simp[kM.jX,kM]at hj ⊢;omega) (fun j hj=>by simp[kM.jX,kM]at hj)
open Go Tw Pv cO
theorem ab1(w:Int)(z:Nat):(chE w z).length=z:=by simp[chE]
theorem ab2(z:Nat):(chK z).length=z:=by simp[chK]
structure ChP(s o:List Int)(c w:Int)(z:Nat):Prop where
 f:bU s o=0
 ic:gQ c s.length
 ez:s.getD c.toNat 0=(z:Int)
 z12:z<=12
 w0:-9999<=w
 w1:w+z<=10000
section
variable {s o:List Int} {c w:Int} {z:Nat} (h:ChP s o c w z)
include h
theorem ab3{v:V}(hv:v∈chE w z):∃j,j<z∧v=⟨0,w+(j:Int)⟩:=by
 unfold chE at hv;obtain⟨j,hj,rfl⟩:=a1d.1 hv;have:=a4b.1 hj;have:=h.w0;have:=h.w1;have:=h.z12;exact⟨j,by omega,by rw[wrap_small (by omega) (by omega)]⟩
theorem ab4{k:Nat}(hk:k<z):(chK z).getD k 0=-1-(k:Int):=by
 have:=h.z12;unfold chK;rw[a2I,a4d,agE hk];show i64.wrap (-1-(k:Int))=_;rw[wrap_small (by omega) (by omega)]
theorem afR:∀v∈chE w z,Ji v:=fun v hv=>by
 obtain⟨j,hj,rfl⟩:=ab3 h hv;have:=h.w0;have:=h.w1;exact yu.2 ⟨by show(0:Int)<=0;omega,by show(0:Int)<=4;omega,fun _=>⟨by show -9999<=w+(j:Int);omega,by show w+(j:Int)<=9999;omega⟩,fun hz=>absurd rfl hz⟩
theorem al2:Kq (chD s o c w z):=⟨fun i hi k hk=>by
 have:i=0:=by have:i<1:=hi;omega
 subst this;have hk3:k<z:=by rw[<-ab2 z];exact hk
 show KR ((chK z).getD k 0);rw[ab4 h hk3,<-wrap_small (z:=-1-(k:Int)) (by have:=h.z12;omega) (by omega)];exact XC _,by show KR 0;rw[<-wrap_small (z:=0) (by omega) (by omega)];exact XC _,fun v hv=>(afR h v hv).2⟩
theorem ab5:Kq (chD s o c w z)∧(chD s o c w z).ay.length<=ah∧(chD s o c w z).aG.length<=2^20∧(chD s o c w z).aI.length<=ah∧(((bF (chD s o c w z)).2 != 0)=false->ClP (bF (chD s o c w z)).1):=by
 obtain⟨dw,ord⟩:=jJ.1 h.f;have hr:=al2 h;have h6:s.length<=6:=dw.len;have QF:o.length=s.length:=by unfold jR at ord;rw[a1E]at ord;exact ord.1
 have hl:=ab1 w z;have hz:=h.z12;have e1:(chD s o c w z).aI.length+1<=ah:=by show(chE w z).length+1<=ah;rw[hl];unfold ah;omega
 have e2:(chD s o c w z).ay.length<=ah:=by show s.length<=ah;unfold ah;omega
 refine⟨hr,e2,by show o.length<=2^20;omega,by omega,fun h0=>?_⟩;obtain⟨q1,q2⟩:=wS hr e1 e2 (by show o.length<=ah;unfold ah;omega) (by simpa using h0);rw[q1];exact q2
end
def PK(p:List Int×List Int×Int×Int):Dg×Int:=if(bU p.1 p.2.1 != 0)=true then(oJ,bU p.1 p.2.1)else if(!(ML 0 (i64.wrap ((p.1.length:Int)-1)) p.2.2.1))=true then(oJ,3)else if(!(ML (-9999) (i64.wrap (i64.wrap (9999-p.1.getD p.2.2.1.toNat 0)+1)) p.2.2.2))=true then(oJ,3)else zC (chD p.1 p.2.1 p.2.2.1 p.2.2.2 (p.1.getD p.2.2.1.toNat 0).toNat)
theorem afS{a b x:Int}(h:(!(ML a b x))=false):a<=x∧x<=b:=by
 unfold ML at h;by_cases h1:x>=a
 .simp[h1]at h;exact⟨h1,h⟩
 simp[h1]at h
theorem afT{s o:List Int}{c w:Int}(e1:(bU s o != 0)=false)(hc:gQ c s.length)(e3:(!(ML (-9999) (i64.wrap (i64.wrap (9999-s.getD c.toNat 0)+1)) w))=false):ChP s o c w (s.getD c.toNat 0).toNat:=by
 have f:bU s o=0:=by simpa using e1
 obtain⟨dw,ord⟩:=jJ.1 f;have hz:=dw.sz (s.getD c.toNat 0) (dG (show c.toNat<s.length by obtain⟨a,b⟩:=hc;omega));obtain⟨z0,z1⟩:=hz;obtain⟨w0,w1⟩:=afS e3;rw[wrap_small (z:=9999-s.getD c.toNat 0) (by omega) (by omega),wrap_small (by omega) (by omega)]at w1;exact⟨f,hc,by omega,by omega,w0,by omega⟩
def afU:eX aF:=cu 57 (a4 pW pW iA iA) (dR (a2 dA iA)) PK (fun p=>[p.1.length<=ah,p.2.1.length<=2^20]) al1
theorem aq4:Gd afU:=Good.WO 0 aq1 ad2 fun n hn hO FU p hp=>by
 obtain⟨s,o,c,w⟩:=p;have h1:s.length<=ah:=hp _ (.head _);have h2:o.length<=2^20:=hp _ (.tail _ (.head _));have hc:(!(ML 0 (i64.wrap ((s.length:Int)-1)) c))=false->gQ c s.length:=fun e2=>a7U e2 h1;have hP:=fun(e1:(bU s o != 0)=false) (e2:(!(ML 0 (i64.wrap ((s.length:Int)-1)) c))=false) (e3:(!(ML (-9999) (i64.wrap (i64.wrap (9999-s.getD c.toNat 0)+1)) w))=false)=>afT e1 (hc e2) e3;have lp:=fun(e1:(bU s o != 0)=false) (e2:(!(ML 0 (i64.wrap ((s.length:Int)-1)) c))=false) (e3:(!(ML (-9999) (i64.wrap (i64.wrap (9999-s.getD c.toNat 0)+1)) w))=false)=>lCh (n:=n) (s:=s) (o:=o) (c:=c) (w:=w) (hP e1 e2 e3).z12 (hP e1 e2 e3).ez;have s1:=fun(e1:(bU s o != 0)=false) (e2:(!(ML 0 (i64.wrap ((s.length:Int)-1)) c))=false) (e3:(!(ML (-9999) (i64.wrap (i64.wrap (9999-s.getD c.toNat 0)+1)) w))=false)=>aaZ (n:=n) (FU n (by omega)) (s:=s) (o:=o) (c:=c) (y:=(chE w (s.getD c.toNat 0).toNat,chK (s.getD c.toNat 0).toNat)) (ab5 (hP e1 e2 e3));show oh X0 Qp _ _ _ ((dR (a2 dA iA)).put (if(bU s o != 0)=true then(oJ,bU s o)else if(!(ML 0 (i64.wrap ((s.length:Int)-1)) c))=true then(oJ,3)else if(!(ML (-9999) (i64.wrap (i64.wrap (9999-s.getD c.toNat 0)+1)) w))=true then(oJ,3)else zC (chD s o c w (s.getD c.toNat 0).toNat))) _;exact aO (hO n (by omega)) (.o h1 (.o h2 (.sh (fun _=>rE _) fun e1=>.sh (fun _=>rE _) fun e2=>.o (hc e2) (.sh (fun _=>rE _) fun e3=>.a (.Qb [] [] (.nil .slc) []) (.o (hc e2) (.wG [.a2y 1 2 39,.U6 0 1 3] (lp e1 e2 e3) (.fr [0,1,2] (s1 e1 e2 e3) .rr)))))))
open Go Tw Pv cO
structure ZT(d:Dg):Prop where
 t:Bj d
 n:d.aj.length<=6000
 l:aW d=0
 f:rW d.ay
 o:d.aG.length<=ah
 e:d.aI.length<=ah
def gLs(d:Dg)(k:Nat)(l:List V):List V:=l++[pG d (lY d.ay k)]
theorem afV(d:Dg):aT (gLs d) (EI d.ay) 0 []=cellsD d:=by
 have:=dD (g:=gLs d) (m:=EI d.ay) (k:=0) (s:=[]) (fun k l=>l=(List.range k).map fun(k:Nat)=>pG d (lY d.ay k)) rfl (fun j l _ _ e=>by rw[gLs,e,adi,a3T];rfl);rw[a3O]at this;exact this
abbrev wLs(d:Dg)(y:List V)(i:Int)(x:List (Nat×PE aF)):aS aF:=⟨[(1,.loc 0 0),(3,.val (.own 0)),(4,xi i)]++x,[d.ps],[.list false false 39 y]⟩
theorem lLs{n:Nat}(hO:Ok n afU)(d:Dg)(h:ZT d):OG n 44 0 0 (wLs d [] 0 []) (.exit 0) (wLs d (cellsD d) (EI d.ay) [(12,xl false)]):=by
 have hs:d.ay.length<=ah:=by have:=h.f.len;unfold ah;omega
 have hc:EI d.ay<=ah:=by have:=h.f.EI;have:=h.f.a6i;have:=h.f.many;unfold ah;omega
 rw[<-afV d];refine yg (σ:=List V) (N:=EI d.ay) (g:=gLs d) (s0:=[]) (st:=fun i y=>wLs d y i []) (fin:=fun y=>wLs d y (EI d.ay) [(12,xl false)]) (fun k y=>y.length=k) (by kernel_rfl) hc rfl (fun j y hj hy=>by simp[gLs,hy]) (fun j y hj hy m e p g9=>?_) (fun y _=>?_)
 .have h2:y.length+[pG d (lY d.ay j)].length<=ah:=by rw[hy,a3P];omega
  exact aN hO (.o hs (.b (h.f.lt hj) (.o hs (.o h.f.sz (.o (show(0:Int)<=(j:Int) by omega) (.o (show(j:Int)<2^62 by unfold ah at hc;omega) (.o h.t (.o h.n (.o (zq (j:Int) h.f.sz) (.o h2 (.goG [.gc [2]] g9)))))))))))
 exact aN hO (.o hs (.b h.f.no .ex))
def al4:eX aF:=cu 44 (a1 dA) vsA cellsD (fun d=>[ZT d]) afU
theorem aq5:Gd al4:=aq4.add fun n hO p hp=>by
 have h:ZT p:=hp _ (.head _);have hb:(aW p != 0)=false:=by rw[h.l];rfl
 exact aO hO (.o h.o (.o h.e (.b hb (.wG [.IG 3 39] (lLs (n:=n) hO p h) .rr))))
def al5:eX aF:=cu 81 (a1 pW) pW (fun p=>p) (fun p=>[p.length<=ah]) al4
theorem aq6:Gd al5:=aq5.add fun n hO p hp=>aO hO (.o (hp _ (.head _)) .rr)
def al6:eX aF:=cu 82 (a1 vsA) vsA (fun p=>p) (fun p=>[p.length<=ah]) al5
theorem aq7:Gd al6:=aq6.add fun n hO p hp=>aO hO (.o (hp _ (.head _)) .rr)
def afW:eX aF:=cu 48 (a1 iA) vA (fun p=>(⟨0,p⟩:V)) np al6
theorem aq8:Gd afW:=aq7.add fun n hO p hp=>aO hO .rr
open Go Tw Pv cO
structure ZU(d:Dg):Prop where
 s:d.ay.length<=ah
 o:d.aG.length<=ah
 e:d.aI.length<=ah
 n:d.aj.length<=ah
 k:∀b∈d.aj,b.aA.length<=ah
abbrev afX(a b:Dg)(i:Int)(x:List (Nat×PE aF)):aS aF:=⟨[(2,.loc 0 0),(3,.loc 1 0),(5,xi i)]++x,[a.ps,b.ps],[]⟩
def a8g(a b:Dg)(k:Nat):Bool:=if((a.aj.getD k kN).var != (b.aj.getD k kN).var)=true then true else !(decide ((a.aj.getD k kN).aA=(b.aj.getD k kN).aA))
def afY(a b:Dg):Unit⊕Nat->Ex×aS aF
 |.inl _=>(.exit 0,afX a b a.aj.length [(48,xl false)])
 |.inr _=>(.ret,⟨[(4,xl false)],[a.ps,b.ps],[]⟩)
theorem al7{n:Nat}(hO:Ok n afW){a b:Dg}(h:ZU a)(hl:a.aj.length=b.aj.length):Lp n 72 0 (afX a b 0 []) (afY a b (bG (a8g a b) a.aj.length)).1 (afY a b (bG (a8g a b) a.aj.length)).2:=by
 refine iZ (st:=fun i _=>afX a b i []) (g:=gS (a8g a b)) (out:=afY a b) (fun _ _=>True) (by kernel_rfl) h.n trivial (fun k u m hk _ ih=>?_) (fun _ _=>?_)
 .have i1:gQ (k:Int) a.aj.length:=aH hk;have i2:gQ (k:Int) b.aj.length:=aH (by omega);have h9:=h.k _ (fK (d:=kN) hk);unfold gS a8g;cases e1:((a.aj.getD k kN).var != (b.aj.getD k kN).var)
  .exact aN hO (.b (bD hk) (.o i1 (.o i2 (.b e1 (.o i1 (.o i2 (.o h9 (.ls (.ou nofun) (.nx (ih _ trivial))))))))))
  exact aN hO (.b (bD hk) (.o i1 (.o i2 (.b e1 (.ou nofun)))))
 exact aN hO (.b (fF a.aj.length) (.ou nofun))
def al8(a b:Dg):Bool:=if(!(decide (a.ay=b.ay)))=true then false else if(!(decide (a.aG=b.aG)))=true then false else if(!(decide (a.aI=b.aI)))=true then false else if((a.aj.length:Int) != (b.aj.length:Int))=true then false else if(a.root != b.root)=true then false else if jT (bG (a8g a b) a.aj.length)=true then true else false
def al9:eX aF:=cu 72 (a2 dA dA) tA (fun p=>al8 p.1 p.2) (fun p=>[ZU p.1]) afW
theorem aq9:Gd al9:=aq8.add fun n hO p hp=>aO hO (.o (show ZU p.1 from hp _ (.head _)).s (.ss .rr (.o (show ZU p.1 from hp _ (.head _)).o (.ss .rr (.o (show ZU p.1 from hp _ (.head _)).e (.ss .rr (.sh (fun _=>.rr) fun h4=>.ss .rr (.zh (fun h=>.w (jP (al7 hO (show ZU p.1 from hp _ (.head _)) (show p.1.aj.length=p.2.aj.length by simp at h4;omega)) () h) .rr) fun h=>.w (jQ (al7 hO (show ZU p.1 from hp _ (.head _)) (show p.1.aj.length=p.2.aj.length by simp at h4;omega)) 0 h) .rr))))))))
def ala:eX aF:=cu 25 (a3 dA iA dA) tA (fun p=>(if(p.2.1==0)=true then al8 p.1 p.2.2 else false)) (fun p=>[ZU p.1]) al9
theorem aqa:Gd ala:=aq9.add fun n hO p hp=>aO hO (.ss (.o (hp _ (.head _)) .rr) .rr)
def V7(s o:List Int):Bool:=if decide ((s.length:Int)>8)=true then false else if decide ((o.length:Int)>8)=true then false else if(bU s o != 0)=true then true else decide (EH s<=200)
def afZ:eX aF:=cu 54 (a2 pW pW) tA (fun p=>V7 p.1 p.2) np ala
theorem aqb:Gd afZ:=aqa.add fun n hO p hp=>aO hO (.sh (fun _=>.rr) fun h1=>.sh (fun _=>.rr) fun h2=>.o (show p.2.length<=ah by simp at h2;unfold ah;omega) (.ss .rr (.o (show p.1.length<=ah by simp at h1;unfold ah;omega) .rr)))
open Go Tw Pv cO
abbrev wCp(d:Dg)(acc:List Br)(i:Int)(x:List (Nat×PE aF)):aS aF:=⟨[(1,.loc 0 0),(2,.loc 1 0),(3,.loc 2 0),(4,xi i)]++x,[d.ps,[.nil .slc,.nil .slc,.nil .slc,.nil .slc,.int .i64 0],[lI d.ay,lI d.aG,lV d.aI,.own 0,.int .i64 d.root]],[.list false false 105 acc]⟩
theorem lCp{n:Nat}{d:Dg}(hO:Ok n afZ)(h:ZU d):Lp n 21 0 (wCp d [] 0 []) (.exit 0) (wCp d d.aj d.aj.length [(21,xl false)]):=by
 have e:aT (fun k (a:List Br)=>a++[d.aj.getD k kN]) d.aj.length 0 []=d.aj:=by
  rw[WY,RU d.aj kN fun r=>r,List.map_id']
 rw[show wCp d d.aj d.aj.length [(21,xl false)]=wCp d (aT (fun k (a:List Br)=>a++[d.aj.getD k kN]) d.aj.length 0 []) d.aj.length [(21,xl false)] by rw[e]];refine yg (σ:=List Br) (N:=d.aj.length) (g:=fun k (a:List Br)=>a++[d.aj.getD k kN]) (s0:=([]:List Br)) (st:=fun i a=>wCp d a i []) (fin:=fun a=>wCp d a d.aj.length [(21,xl false)]) (fun k a=>a.length=k) (by kernel_rfl) h.n rfl (fun k a _ h=>by simp[h]) (fun k a hk ha m e p g9=>?_) (fun a _=>?_)
 .have hm:=h.k (d.aj.getD k kN) (fK hk);have hn:=h.n;have hal:a.length+[d.aj.getD k kN].length<=ah:=by have:a.length=k:=ha;rw[a3P];omega
  exact aN hO (.b (bD hk) (.o (aH hk) (.o (aH hk) (.o hm (.o hal (.goG [.gc [2]] g9))))))
 exact aN hO (.b (fF d.aj.length) .ex)
def ag0:eX aF:=cu 21 (a1 dA) dA (fun p=>p) (fun p=>[ZU p]) afZ
theorem aqd:Gd ag0:=aqb.add fun n hO p hp=>aO hO (.o (show ZU p from hp _ (.head _)).s (.o (show ZU p from hp _ (.head _)).o (.o (show ZU p from hp _ (.head _)).e (.wG [.a2y 2 3 105] (lCp hO (hp _ (.head _))) .rr))))
abbrev wTh(d:Dg)(i:Int)(x:List (Nat×PE aF)):aS aF:=⟨[(1,.loc 0 0),(3,xi i)]++x,[d.ps],[]⟩
def cTh(d:Dg)(k:Nat):Bool:=decide (((d.aj.getD k kN).aA.length:Int)>14)
def zTh(d:Dg):Unit⊕Nat->Ex×aS aF
 |.inl _=>(.exit 0,wTh d d.aj.length [(26,xl false)])
 |.inr _=>(.ret,⟨[(2,xl false)],[d.ps],[]⟩)
theorem lTh{n:Nat}(hO:Ok n ag0){d:Dg}(h:d.aj.length<=ah):Lp n 18 0 (wTh d 0 []) (zTh d (bG (cTh d) d.aj.length)).1 (zTh d (bG (cTh d) d.aj.length)).2:=by
 refine iZ (st:=fun i _=>wTh d i []) (g:=gS (cTh d)) (out:=zTh d) (fun _ _=>True) (by kernel_rfl) h trivial (fun k u m hk _ ih=>?_) (fun _ _=>?_)
 .unfold gS cTh;exact aN hO (.b (bD hk) (.o (aH hk) (.ls (.ou nofun) (.nx (ih _ trivial)))))
 exact aN hO (.b (fF d.aj.length) (.ou nofun))
def Jw(d:Dg):Bool:=if(!(V7 d.ay d.aG))=true then false else if decide ((d.aI.length:Int)>40)=true then false else if decide ((d.aj.length:Int)>60)=true then false else if jT (bG (cTh d) d.aj.length)=true then true else false
def alb:eX aF:=cu 18 (a1 dA) tA (fun p=>Jw p) np ag0
theorem aqg:Gd alb:=aqd.add fun n hO p hp=>aO hO (.ss .rr (.ss .rr (.sh (fun _=>.rr) fun h3=>.zh (fun h=>.w (jP (lTh hO (show p.aj.length<=ah by simp at h3;unfold ah;omega)) () h) .rr) fun h=>.w (jQ (lTh hO (show p.aj.length<=ah by simp at h3;unfold ah;omega)) 0 h) .rr)))
theorem Y9{d:Dg}(h:Jw d=true):ZU d∧d.ay.length<=8∧d.aG.length<=8∧d.aI.length<=40∧d.aj.length<=60:=by
 unfold Jw at h;split at h
 .cases h
 rename_i h1;split at h
 .cases h
 rename_i h2;split at h
 .cases h
 rename_i h3;split at h
 .rename_i h4;have h1:V7 d.ay d.aG=true:=by simpa using h1
  unfold V7 at h1;split at h1
  .cases h1
  rename_i q1;split at h1
  .cases h1
  rename_i q2;simp at h2 h3 q1 q2;refine⟨⟨by unfold ah;omega,by unfold ah;omega,by unfold ah;omega,by unfold ah;omega,fun b hb=>?_⟩,by omega,by omega,by omega,by omega⟩;obtain⟨k,hk,e⟩:=aar hb;have:=dL.1 h4 k hk;unfold cTh at this;rw[a2I,a0b hk,a4F,e]at this;simp at this;unfold ah;omega
 cases h
open Go Tw Pv cO
theorem Ya{d:Dg}(h:aW d=0):bU d.ay d.aG=0:=by
 unfold aW at h;split at h
 .rename_i c;rw[h]at c;cases c
 rename_i c;simpa using c
theorem ZT.of{d:Dg}(h:ZT d){l:List V}(hl:l.length=EI d.ay):OfP d.ay d.aG l∧(PtP d.ay d.aG l∧d.aG.length<=6∧wO d.ay d.aG<=ah):=by
 obtain⟨dw,ord⟩:=jJ.1 (Ya h.l);have ho:OfP d.ay d.aG l:=⟨dw,ord,by rw[hl,dw.a9J]⟩;obtain⟨q1,q2,q3⟩:=ho.p;have hw:=FD dw.sz ord;have hm:=dw.many;have h6:=dw.len;exact⟨ho,q1,by omega,by unfold ah;omega⟩
open Go Tw Pv cO
def dX:Dg:=⟨[2,3],[0,1],[⟨0,1⟩,⟨0,2⟩],[⟨0,[-1,-2]⟩],0⟩
def dY:Dg:=⟨[2,3],[0,1],[⟨0,0⟩,⟨0,1⟩,⟨0,2⟩],[⟨1,[-1,-2,-3]⟩],0⟩
def cL(l:List Int):List V:=l.map fun n=>⟨0,n⟩
theorem a3J:PK ([2,3],[0,1],0,1)=(dX,0):=by kernel_rfl
def dIf:Dg:=(Y5 (dY,dX,dY)).1
theorem alc:(Y5 (dY,dX,dY)).2=0∧qy dIf=0∧cellsD dIf=cL [0,1,1,0,2,2]:=⟨by kernel_rfl,by kernel_rfl,by kernel_rfl⟩
def dRs:Dg:=(Kz (dY,1,2)).1
theorem ag3:(Kz (dY,1,2)).2=0∧qy dRs=0∧cellsD dRs=cL [2,2,2,2,2,2]:=⟨by kernel_rfl,by kernel_rfl,by kernel_rfl⟩
def dWh:Dg:=(zK dY).1
theorem a8h:(zK dY).2=0∧qy dWh=0∧cellsD dWh=cL [0,1,0,0,1,0]:=⟨by kernel_rfl,by kernel_rfl,by kernel_rfl⟩
theorem ab6:V6 (dY,⟨0,2⟩)=(2,0):=by kernel_rfl
theorem a8i:lD (dX,⟨0,2⟩)=([1,0],0):=by kernel_rfl
def FP:Dg:=(wX (10,dX,dY)).1
theorem ag4:(wX (10,dX,dY)).2=0:=by kernel_rfl
def dLe:Dg:=(wX (14,dX,dY)).1
theorem ald:(wX (14,dX,dY)).2=0:=by kernel_rfl
theorem ab7:MO ([dX,dY],dLe)=(⟨8,false,false,2,0,0,false,[0]⟩,0):=by kernel_rfl
def V8:List (V×Int):=dW (dQ [FP,dX])
theorem ale:lH V8=[0,1]:=by
 have e:((V8.filter fun e=>!decide (e.1.f>0)).map fun e=>e.1.n)=[0,1]:=by kernel_rfl
 unfold lH;rw[e];unfold gK;exact List.mergeSort_of_pairwise (by simp)
theorem ag6:a1N (4,FP,dX)=(⟨4,false,false,0,0,1,true,[]⟩,0):=by
 have e1:bQ [FP,dX]=0:=by kernel_rfl
 have e2:uI V8=true:=by kernel_rfl
 have e3:V8≠[]:=by
  intro h;have h2:V8.length=0:=by rw[h];rfl
  have h3:V8.length=3:=by kernel_rfl
  omega
 show(if(bQ [FP,dX] != 0)=true then(An0,bQ [FP,dX])else FN 4 V8)=_;rw[e1];show FN 4 V8=_;unfold FN;rw[a0g e3];show(if lH V8=[]then _ else _)=_;rw[ale,e2];rfl
open Go Tw Pv cO
def ag7:eX aF:=cu 73 aep (dR (a2 dA dA)) (fun p=>(dX,dY)) np alb
theorem aqh:Gd ag7:=aqg.add fun n hO p hp=>aO hO .rr
abbrev anP(a:An):List (PV aF):=[.int .u8 a.q,.bool a.none,.bool a.yes,.int .i64 a.n,.int .i64 a.lo,.int .i64 a.hi,.bool a.fault,lI a.set,.nil .slc]
abbrev wSa(a b:An)(i:Int)(x:List (Nat×PE aF)):aS aF:=⟨[(2,.loc 0 0),(3,.loc 1 0),(5,xi i)]++x,[anP a,anP b],[]⟩
theorem lSa{n:Nat}(hO:Ok n ag7){a b:An}:Lp n 35 0 (wSa a b 0 []) (.exit 0) (wSa a b 0 [(74,xl false)]):=by
 have:=H8 (X:=X0) (P:=Qp) (T:=T) (L:=LL) (call:=bP n) (f:=35) (gW:=false) (nt:=BG Qp 35) (B:=0) (b:=RF Qp 35 0) (σ:=Unit) (N:=0) (g:=fun _ s=>s) (s0:=()) (st:=fun i _=>wSa a b i []) (fin:=fun _=>wSa a b 0 [(74,xl false)]) (w:=wSa a b 0 []) (e:=.exit 0) (fun _ _=>True) (by kernel_rfl) (a4t _) OE trivial (fun _ _ _ _=>trivial) (fun k s hk=>absurd hk (Nat.not_lt_zero _)) (fun s _=>aN hO (.b (rfl:decide ((0:Int)<0)=false) .ex));exact this
def ab8(a b:An):Bool:=if(a.q != b.q)=true then false else if(!(a.none==b.none))=true then false else if(!(a.yes==b.yes))=true then false else if(a.n != b.n)=true then false else if(a.lo != b.lo)=true then false else if(a.hi != b.hi)=true then false else if(!(a.fault==b.fault))=true then false else if(!(decide (a.set=b.set)))=true then false else true
def ag8:eX aF:=cu 35 (a2 Vh Vh) tA (fun p=>ab8 p.1 p.2) (fun p=>[p.1.set.length<=ah]) ag7
theorem aqi:Gd ag8:=aqh.add fun n hO p hp=>aO hO (.ss .rr (.ss .rr (.ss .rr (.ss .rr (.ss .rr (.ss .rr (.ss .rr (.o (hp _ (.head _)) (.ss .rr (.b (rfl:((0:Int) != 0)=false) (.w (lSa (a:=p.1) (b:=p.2) hO) .rr)))))))))))
open Go Tw Pv cO
theorem V9{d:Dg}(ho:d.aG.length<=ah)(he:d.aI.length<=ah)(h:(qy d==0)=true):ZT d:=by
 have h:qy d=0:=by simpa using h
 have h0:aW d=0:=by
  unfold qy at h;split at h
  .rename_i c;rw[h]at c;cases c
  rename_i c;simpa using c
 obtain⟨t,n⟩:=kE ho he (by rw[h0];rfl);exact⟨t,n,h0,t.dw,ho,he⟩
abbrev wLz(d:Dg)(e:Int)(l:List Int)(acc:List V)(i:Int)(x:List (Nat×PE aF)):aS aF:=⟨[(1,xi e),(2,xL 3 l),(3,.loc 0 0),(7,.val (.own 0)),(8,xi i)]++x,[d.ps],[.list false false 39 acc]⟩
theorem lLz{n:Nat}(hO:Ok n ag8)(d:Dg)(e:Int){l:List Int}(hl:l.length<=1000):Lp n 74 0 (wLz d e l [] 0 []) (.exit 0) (wLz d e l (cL l) l.length [(12,xl false)]):=by
 have e1:aT (fun k (a:List V)=>a++[(⟨0,l.getD k 0⟩:V)]) l.length 0 []=cL l:=by
  rw[WY,RU l 0 fun r=>(⟨0,r⟩:V)];rfl
 rw[<-e1];refine yg (σ:=List V) (N:=l.length) (g:=fun k (a:List V)=>a++[(⟨0,l.getD k 0⟩:V)]) (s0:=([]:List V)) (st:=fun i a=>wLz d e l a i []) (fin:=fun a=>wLz d e l a l.length [(12,xl false)]) (fun k a=>a.length=k) (by kernel_rfl) (by unfold ah;omega) rfl (fun k a _ h=>by simp[h]) (fun k a hk ha m e p g9=>?_) (fun a _=>?_)
 .have hal:a.length+[(⟨0,l.getD k 0⟩:V)].length<=ah:=by have:a.length=k:=ha;rw[a3P];unfold ah;omega
  exact aN hO (.b (bD hk) (.o (aH hk) (.o hal (.goG [.gc [2]] g9))))
 exact aN hO (.b (fF l.length) .ex)
def alg(p:Dg×Int×List Int):Bool:=if(p.2.1==0)=true then(if(qy p.1==0)=true then decide (cellsD p.1=cL p.2.2)else false)else false
def ab9:eX aF:=cu 74 (a3 dA iA pW) tA (fun p=>alg p) (fun p=>[p.1.aG.length<=ah,p.1.aI.length<=ah,p.2.2.length<=1000,(cellsD p.1).length<=ah]) ag8
theorem aqj:Gd ab9:=aqi.add fun n hO p hp=>aO hO (.wG [.IG 7 39] (lLz hO p.1 p.2.1 (hp _ (.tail _ (.tail _ (.head _))))) (.ss (.o (hp _ (.head _)) (.o (hp _ (.tail _ (.head _))) (.sh (fun h=>.o (V9 (hp _ (.head _)) (hp _ (.tail _ (.head _))) h) (.o (hp _ (.tail _ (.tail _ (.tail _ (.head _))))) .rr)) (fun _=>.rr)))) .rr))
open Go Tw Pv cO
theorem Va{d:Dg}(h:((d.aj.all fun n=>n.aA.all fun k=>decide (-1000<=k)&&decide (k<=1000))&&(decide (-1000<=d.root)&&decide (d.root<=1000))&&(d.aI.all fun v=>decide (0<=v.f))&&(decide (d.ay.length<=100)&&decide (d.aG.length<=100)&&decide (d.aI.length<=100)))=true):rV d:=by
 simp only[a2a,a1E,a4l]at h;obtain⟨⟨⟨h1,h2⟩,h3⟩,⟨h4,h5⟩,h6⟩:=h;refine⟨⟨fun i hi k hk=>?_,?_,h3⟩,by unfold ah;omega,by omega,by unfold ah;omega⟩
 .have h7:=h1 _ (fK (d:=(⟨0,[]⟩:Br)) hi) _ (fK (d:=(0:Int)) hk);show KR ((fC d i).aA.getD k 0);unfold KR;have h8:((d.aj.getD i ⟨0,[]⟩).aA.getD k 0)=(fC d i).aA.getD k 0:=rfl;rw[h8]at h7;omega
 unfold KR;omega
theorem pX:rV dX:=Va (by kernel_rfl)
theorem pY:rV dY:=Va (by kernel_rfl)
theorem a8j:rV FP:=Va (by kernel_rfl)
theorem pLe:rV dLe:=Va (by kernel_rfl)
abbrev dvA(d:Dg):PV aF:=(dR (a2 dA iA)).put (d,0)
theorem ag9:(dRs,(0:Int))=Kz (dY,1,2):=acM rfl ag3.1.symm
theorem a8k:(dWh,(0:Int))=zK dY:=acM rfl a8h.1.symm
theorem aga:(FP,(0:Int))=wX (10,dX,dY):=acM rfl ag4.symm
theorem ali:(dLe,(0:Int))=wX (14,dX,dY):=acM rfl ald.symm
section
variable {n:Nat} (hO:Ok n ab9)
include hO
theorem alj:aX X0 Qp (bP n) (.fn 73 [] []) [] [] ((dR (a2 dA dA)).put (dX,dY)) []:=
 qY hX hO (f:=73) (first:=[]) (xs:=[]) (cap:=[]) (vs:=[]) (v:=(dR (a2 dA dA)).put (dX,dY)) (H:=[]) (ps:=[]) rfl (by kernel_rfl) (fun _ h=>by cases h) rfl
theorem abb{j k:Bool}:aX X0 Qp (bP n) (.fn 57 [] []) [.own 0,.own 1,.int .i64 0,.int .i64 1] [.list j k 3 ([2,3]:List Int),.list j k 3 ([0,1]:List Int)] (dvA dX) [.gone,.gone]:=by
 unfold dvA;rw[<-a3J];exact qY hX hO (f:=57) (first:=[]) (xs:=[.own 0,.own 1,.int .i64 0,.int .i64 1]) (cap:=[]) (vs:=[.dn 3 ([2,3]:List Int) false,.dn 3 ([0,1]:List Int) false,.int .i64 0,.int .i64 1]) (v:=(dR (a2 dA iA)).put (PK ([2,3],[0,1],0,1))) (H:=[.list j k 3 ([2,3]:List Int),.list j k 3 ([0,1]:List Int)]) (ps:=[([2,3]:List Int).length<=ah,([0,1]:List Int).length<=2^20]) rfl (by kernel_rfl) (by simp[ah]) rfl
theorem aIf:aX X0 Qp (bP n) (.fn 63 [] []) [.agg dY.ps,.agg dX.ps,.agg dY.ps] [] (dvA dIf) []:=by
 have e:(dIf,(0:Int))=Y5 (dY,dX,dY):=acM rfl alc.1.symm;unfold dvA;rw[e];exact qY hX hO (f:=63) (first:=[]) (cap:=[]) (vs:=[.agg dY.ps,.agg dX.ps,.agg dY.ps]) (v:=(dR (a2 dA iA)).put (Y5 (dY,dX,dY))) (H:=[]) (ps:=[rV dY,rV dX,rV dY]) rfl (by kernel_rfl) (by simp[pX,pY]) rfl
theorem aqk:aX X0 Qp (bP n) (.fn 20 [] []) [.agg dY.ps,.int .i64 1,.int .i64 2] [] (dvA dRs) []:=by
 rw[show(dvA dRs:PV aF)=((dR (a2 dA iA)).put (Kz (dY,1,2)))from by rw[<-ag9]];exact qY hX hO (f:=20) (first:=[]) (xs:=[.agg dY.ps,.int .i64 1,.int .i64 2]) (cap:=[]) (vs:=[.agg dY.ps,.int .i64 1,.int .i64 2]) (v:=((dR (a2 dA iA)).put (Kz (dY,1,2)))) (H:=[]) (ps:=[rV dY]) rfl (by kernel_rfl) (by simp[pX,pY,a8j,pLe]) rfl
theorem agb:aX X0 Qp (bP n) (.fn 67 [] []) [.agg dY.ps] [] (dvA dWh) []:=by
 rw[show(dvA dWh:PV aF)=((dR (a2 dA iA)).put (zK dY))from by rw[<-a8k]];exact qY hX hO (f:=67) (first:=[]) (xs:=[.agg dY.ps]) (cap:=[]) (vs:=[.agg dY.ps]) (v:=((dR (a2 dA iA)).put (zK dY))) (H:=[]) (ps:=[rV dY]) rfl (by kernel_rfl) (by simp[pX,pY,a8j,pLe]) rfl
theorem alk:aX X0 Qp (bP n) (.fn 27 [] []) [.agg dY.ps,.agg (⟨0,2⟩:V).ps] [] ((dR (a2 iA iA)).put (2,0)) []:=by
 rw[show((dR (a2 iA iA)).put (2,0):PV aF)=((dR (a2 iA iA)).put (V6 (dY,⟨0,2⟩)))from by rw[ab6]];exact LX hX hO (f:=27) (first:=[]) (xs:=[.agg dY.ps,.agg (⟨0,2⟩:V).ps]) (cap:=[]) (vs:=[.agg dY.ps,.agg (⟨0,2⟩:V).ps]) (v:=((dR (a2 iA iA)).put (V6 (dY,⟨0,2⟩)))) (H:=[]) (ps:=[rV dY]) rfl (by kernel_rfl) (by simp[pY]) rfl
theorem agc:aX X0 Qp (bP n) (.fn 28 [] []) [.agg dX.ps,.agg (⟨0,2⟩:V).ps] [] ((dR (a2 pW iA)).put ([1,0],0)) []:=by
 rw[show((dR (a2 pW iA)).put ([1,0],0):PV aF)=((dR (a2 pW iA)).put (lD (dX,⟨0,2⟩)))from by rw[a8i]];exact qY hX hO (f:=28) (first:=[]) (xs:=[.agg dX.ps,.agg (⟨0,2⟩:V).ps]) (cap:=[]) (vs:=[.agg dX.ps,.agg (⟨0,2⟩:V).ps]) (v:=((dR (a2 pW iA)).put (lD (dX,⟨0,2⟩)))) (H:=[]) (ps:=[rV dX]) rfl (by kernel_rfl) (by simp[pX]) rfl
theorem aql:aX X0 Qp (bP n) (.fn 62 [] []) [.int .u8 10,.agg dX.ps,.agg dY.ps] [] (dvA FP) []:=by
 rw[show(dvA FP:PV aF)=((dR (a2 dA iA)).put (wX (10,dX,dY)))from by rw[<-aga]];exact qY hX hO (f:=62) (first:=[]) (xs:=[.int .u8 10,.agg dX.ps,.agg dY.ps]) (cap:=[]) (vs:=[.int .u8 10,.agg dX.ps,.agg dY.ps]) (v:=((dR (a2 dA iA)).put (wX (10,dX,dY)))) (H:=[]) (ps:=[rV dX,rV dY]) rfl (by kernel_rfl) (by simp[pX,pY,a8j,pLe]) rfl
theorem aLe:aX X0 Qp (bP n) (.fn 62 [] []) [.int .u8 14,.agg dX.ps,.agg dY.ps] [] (dvA dLe) []:=by
 rw[show(dvA dLe:PV aF)=((dR (a2 dA iA)).put (wX (14,dX,dY)))from by rw[<-ali]];exact qY hX hO (f:=62) (first:=[]) (xs:=[.int .u8 14,.agg dX.ps,.agg dY.ps]) (cap:=[]) (vs:=[.int .u8 14,.agg dX.ps,.agg dY.ps]) (v:=((dR (a2 dA iA)).put (wX (14,dX,dY)))) (H:=[]) (ps:=[rV dX,rV dY]) rfl (by kernel_rfl) (by simp[pX,pY,a8j,pLe]) rfl
abbrev a8l:An:=⟨4,false,false,0,0,1,true,[]⟩
abbrev adn:An:=⟨8,false,false,2,0,0,false,[0]⟩
theorem aqm:aX X0 Qp (bP n) (.fn 33 [] []) [.int .u8 4,.agg FP.ps,.agg dX.ps] [] ((dR (a2 Vh iA)).put (a8l,0)) []:=by
 rw[show((dR (a2 Vh iA)).put (a8l,0):PV aF)=((dR (a2 Vh iA)).put (a1N (4,FP,dX)))from by rw[ag6]];exact qY hX hO (f:=33) (first:=[]) (xs:=[.int .u8 4,.agg FP.ps,.agg dX.ps]) (cap:=[]) (vs:=[.int .u8 4,.agg FP.ps,.agg dX.ps]) (v:=((dR (a2 Vh iA)).put (a1N (4,FP,dX)))) (H:=[]) (ps:=[rV FP,rV dX]) rfl (by kernel_rfl) (by simp[a8j,pX]) rfl
end
open Go Tw Pv cO
theorem alm{n:Nat}(hn:24<=n)(Aq:Ok n a88)(FU:∀m,n-24<=m->Ok m qB){k:Bool}:aX X0 Qp (bP (n+1)) (.fn 39 [] []) [.own 0,.agg dLe.ps] [.list k true 26 [dX,dY]] ((dR (a2 Vh iA)).put (adn,0)) [.gone]:=by
 rw[<-ab7];exact al0 (l:=[dX,dY]) (d:=dLe) hn Aq FU (fun x h=>by
  rcases a2e.1 h with rfl|h
  .exact pX
  rcases a2e.1 h with rfl|h
  .exact pY
  rw[a2J.1 h];exact pLe) (by show 2<=1000;omega)
theorem aln{n:Nat}(hO:Ok n ab9):aX X0 Qp (bP n) (.fn 48 [] []) [.int .i64 2] [] (.agg (⟨0,2⟩:V).ps) []:=
 LX hX hO (f:=48) (first:=[]) (xs:=[.int .i64 2]) (cap:=[]) (vs:=[.int .i64 2]) (v:=.agg (⟨0,2⟩:V).ps) (H:=[]) (ps:=[]) rfl (by kernel_rfl) (fun _ h=>by cases h) rfl
theorem SS{a b:Nat}(h:Nat.ble a b=true):a<=b:=agu h
theorem aqn:ZU dX:=⟨SS (by kernel_rfl),SS (by kernel_rfl),SS (by kernel_rfl),SS (by kernel_rfl),fun b h=>by rw[a2J.1 h];exact SS (by kernel_rfl)⟩
def agd:eX aF:=cu 19 aep tA (fun _=>true) np ab9
theorem aqo:Gd agd:=Good.acX 25 aqj akU Kv fun n hn hO FU hO3 p hp=>by
 obtain⟨m,rfl⟩:∃m,n=m+1:=⟨n-1,by omega⟩;have Fz:=hO (m+1) (by omega);exact aO Fz (.fr [] (alj Fz) (.fr [0,1] (abb Fz (j:=true) (k:=true)) (.fr [] (aIf Fz) (.fr [] (aqk Fz) (.fr [] (agb Fz) (.fr [] (aln Fz) (.fr [] (alk Fz) (.fr [] (aln Fz) (.fr [] (agc Fz) (.fr [] (aql Fz) (.fr [] (aqm Fz) (.fr [] (aLe Fz) (.fr [2] (alm (k:=true) (by omega) (FU m (by omega)) (fun k hk=>hO3 k (by omega))) (.o aqn (.b (c:=true) (t:=true) rfl (.o (SS (by kernel_rfl):dIf.aG.length<=ah) (.o (SS (by kernel_rfl):dIf.aI.length<=ah) (.o (SS (by kernel_rfl):([0,0,0,0,0,0]:List Int).length<=1000) (.o (SS (by kernel_rfl):(cellsD dIf).length<=ah) (.b (c:=true) (t:=true) rfl (.o (SS (by kernel_rfl):dRs.aG.length<=ah) (.o (SS (by kernel_rfl):dRs.aI.length<=ah) (.o (SS (by kernel_rfl):([0,0,0,0,0,0]:List Int).length<=1000) (.o (SS (by kernel_rfl):(cellsD dRs).length<=ah) (.b (c:=true) (t:=true) rfl (.o (SS (by kernel_rfl):dWh.aG.length<=ah) (.o (SS (by kernel_rfl):dWh.aI.length<=ah) (.o (SS (by kernel_rfl):([0,0,0,0,0,0]:List Int).length<=1000) (.o (SS (by kernel_rfl):(cellsD dWh).length<=ah) (.b (c:=true) (t:=true) rfl (.b (c:=true) (t:=true) rfl (.b (c:=true) (t:=true) rfl (.b (c:=true) (t:=true) rfl (.o (SS (by kernel_rfl):([1,0]:List Int).length<=ah) (.b (c:=true) (t:=true) rfl (.b (c:=true) (t:=true) rfl (.b (c:=true) (t:=true) rfl (.o (SS (by kernel_rfl):a8l.set.length<=ah) (.b (c:=true) (t:=true) rfl (.b (c:=true) (t:=true) rfl (.b (c:=true) (t:=true) rfl (.o (SS (by kernel_rfl):adn.set.length<=ah) .rr))))))))))))))))))))))))))))))))))))))))))
open Go Tw Pv cO
theorem aqp:Ji V0:=⟨by decide,by decide⟩
theorem abd{l:List V}(h:∀v∈l,Ji v)(i:Nat):Ji (l.getD i V0):=by
 by_cases c:i<l.length
 .exact h _ (fK c)
 rw[a2I,a3R (by omega)];exact aqp
theorem a8m{d:Dg}(h:∀v∈d.aI,Ji v):∀v∈cellsD d,Ji v:=fun v hv=>by
 obtain⟨k,_,rfl⟩:=a1d.1 hv;exact abd h _
theorem FQ(d:Dg):(cellsD d).length=EI d.ay:=by simp[cellsD]
theorem abe{d:Dg}(h:rV d):bQ [d]=qy d:=by
 have e:(vM d).2=qy d:=by rw[Xq h.r h.s (by have:=h.o;unfold ah;omega) h.e]
 have f:([d].all (Ht (([d].getD 0 oJ).ay,([d].getD 0 oJ).aG)))=true:=by simp[Ht]
 unfold bQ;rw[f];split
 .rename_i c;have:=dL.1 c 0 (by simp);have h0:qy d=0:=by unfold cCk at this;rw[<-e];simpa using this
  rw[h0];rfl
 rename_i c;obtain⟨j,hj,_,_,e2⟩:=H7 (by simpa using c);have e2:bG (cCk [d]) [d].length=.inr j:=e2;rw[e2];have:j=0:=by have:j<1:=hj;omega
 subst this;exact e
theorem agf{d:Dg}(h:Jw d=true)(r:Kq d):rV d:=by
 obtain⟨f,h1,h2,h3,_⟩:=Y9 h;exact⟨r,f.s,by omega,by unfold ah;omega⟩
open Go Tw Pv cO
def cFt(l:List V)(v:V)(k:Nat):Bool:=decide (l.getD k V0=v)
def pK(p:Dg×V):List Int×Bool:=match bG (cFt (cellsD p.1) p.2) (cellsD p.1).length with
 |.inl _=>([],false)
 |.inr k=>(lY p.1.ay k,true)
open Go Tw Pv cO
theorem a8n{t:List (V×Int)}(hn:(t.map (·.1)).Nodup)(v:V):look t v=dF (ind v) t:=by
 unfold look;by_cases h:v∈t.map (·.1)
 .obtain⟨e,he,hv⟩:=a1d.1 h;obtain⟨e2,h2⟩:=a4w.1 (List.find?_isSome (p:=fun e:V×Int=>decide (e.1=v)) |>.2 ⟨e,he,show decide (e.1=v)=true by simpa using hv⟩);have h3:e2.1=v:=by simpa using List.find?_some h2
  have:=DY hn (aeT h2);rw[h3]at this;rw[h2,this];rfl
 rw[Me h,adl.2 fun e he=>by
  simp only[a1E];intro hv;exact h (a1d.2 ⟨e,he,hv⟩)]
 rfl
theorem PL(J:Jb)(v:V):look (dW J) v=((nR J).count v:Int):=by
 rw[a8n (wY J),KA,XK]
theorem SV{d:Dg}{g:List Int}:nR (jg d g)=(Ef (jg d g)).map (pG d):=by
 unfold nR V3;rw[agF.2 (fun l hl=>by
  obtain⟨q,_,rfl⟩:=a1d.1 hl;rfl),a6r]
 rfl
theorem agh{d:Dg}(hJ:jU (dQ [d])):Ef (dQ [d])=(List.range (EI d.ay)).map fun(k:Nat)=>lY d.ay k:=by
 unfold Ef;refine agF.2 fun q hq=>?_;have hp:=(MF hJ).1 hq;rw[a1E,I4 hJ (ku hp)];intro k hk h0;exfalso;revert h0;show ¬0<=(List.replicate d.ay.length (-1:Int)).getD k 0;rw[a2I,acZ,a0i (show k<d.ay.length from hk)];decide
theorem a3K{d:Dg}(hJ:jU (dQ [d])):nR (dQ [d])=cellsD d:=by
 have h:nR (dQ [d])=(Ef (dQ [d])).map (pG d):=SV;rw[h,agh hJ,a6r];rfl
open Go Tw Pv cO
theorem ZV{v:V}:wP v=vOk v:=by
 unfold wP vOk mG;by_cases c:(v.f==0)=true
 .rw[a0i c,a0i c];rw[a4i];simp[vU,sW]
 rw[a0g c,a0g c]
theorem a1O:∀{s p q:List Int},lZ s->gU s p=true->gU s q=true->fB s p<=fB s q->∀c,c<s.length->(∀k,k<c->p.getD k 0=q.getD k 0)->p.getD c 0<=q.getD c 0
 | [],_,_,_,_,_,_,c,hc,_=>absurd hc (Nat.not_lt_zero _)
 |z::t,a::p,b::q,hs,hp,hq,hn,c,hc,he=>by
  simp only[gU,a2a,a1E]at hp hq;have r1:=pF hp.2 hs.tail;have r2:=pF hq.2 hs.tail;simp only[fB]at hn;cases c with
  |zero=>
   show a<=b;by_cases h:a<=b
   .exact h
   exfalso;have h2:(b+1)*aY t<=a*aY t:=a8I (by omega) (by omega);rw[adC,Int.one_mul]at h2;omega
  |succ c=>
   have h0:a=b:=he 0 (by omega);subst h0;exact a1O hs.tail hp.2 hq.2 (by omega) c (by simpa using hc) fun k hk=>he (k+1) (by omega)
 |_::_,[],_,_,hp,_,_,_,_,_=>by simp[gU]at hp
 |_::_,_::_,[],_,_,hq,_,_,_,_=>by simp[gU]at hq
section
variable {d:Dg} (hJ:jU (dQ [d])) {v:V}
include hJ
theorem a8o{g:List Int}(hg:ZR d g):0<lkF d v g↔∃q,gU d.ay q=true∧(∀k,k<d.ay.length->0<=g.getD k 0->g.getD k 0=q.getD k 0)∧pG d q=v:=by
 have hj:=adg hJ hg;have hm:∀q,q∈Ef (jg d g)↔gU d.ay q=true∧∀k,k<d.ay.length->0<=g.getD k 0->g.getD k 0=q.getD k 0:=fun q=>by
  unfold Ef;rw[a7L,MF hj,a1E];constructor
  .exact fun h=>⟨h.1,(I4 hj (ku h.1)).1 h.2⟩
  exact fun h=>⟨h.1,(I4 hj (ku h.1)).2 h.2⟩
 unfold lkF;rw[PL,SV];constructor
 .intro h;have h:0<((Ef (jg d g)).map (pG d)).count v:=by omega
  obtain⟨q,hq,e⟩:=a1d.1 (afo.1 h);obtain⟨h1,h2⟩:=(hm q).1 hq;exact⟨q,h1,h2,e⟩
 rintro⟨q,h1,h2,e⟩;have:0<((Ef (jg d g)).map (pG d)).count v:=afo.2 (a1d.2 ⟨q,(hm q).2 ⟨h1,h2⟩,e⟩);omega
variable {h:List Int} (h1:gU d.ay h=true) (h2:pG d h=v) (h3:∀ q,gU d.ay q=true->pG d q=v->fB d.ay h<=fB d.ay q)
def GA(d:Dg)(h:List Int)(c:Nat)(g:List Int):Prop:=g.length=d.ay.length∧∀k,k<d.ay.length->g.getD k 0=if k<c then h.getD k 0 else -1
omit hJ in
include h1 in
theorem GA.ok{c:Nat}{g:List Int}(hg:GA d h c g):ZR d g:=by
 refine⟨hg.1,fun c2 Ie h0=>?_⟩;have hc3:c2.toNat<d.ay.length:=by obtain⟨a,b⟩:=Ie;omega
 rw[hg.2 _ hc3]at h0 ⊢;split at h0
 .rename_i e;rw[a0i e];exact((jI.1 h1).2 _ hc3).2
 omega
include h1 h2 h3
theorem a8p{c:Nat}(hc:c<d.ay.length){g:List Int}(hg:GA d h c g):∀(m k:Nat) (g2:List Int),(∀j:Int,g2.set c j=g.set c j)->(k:Int)<=h.getD c 0->h.getD c 0<(k:Int)+(m:Int)->oIn (lG (gIn d v c) m k g2)=g.set c (h.getD c 0)
 | 0,k,g2,_,a,b=>by omega
 |m+1,k,g2,he,a,b=>by
  have hr:=(jI.1 h1).2 c hc;have gk:ZR d (g.set c (k:Int)):=(GA.ok h1 hg).set (c:=c) (k:=k) (by show(k:Int)<d.ay.getD c 0;omega);have gt:∀(j:Int) (i:Nat),i<d.ay.length->(g.set c j).getD i 0=if i=c then j else g.getD i 0:=fun j i hi=>by
   by_cases e:c=i
   .subst e;rw[a0i rfl,a2I,a1V (by rw[hg.1];exact hc),a4F]
   rw[a0g (fun x=>e x.symm),a2I,a1g e,<-a2I]
  have e0:gIn d v c k g2=if decide (lkF d v (g.set c (k:Int))>0)=true then .inr (g.set c (k:Int),k)else .inl (g.set c (k:Int)):=by
   unfold gIn;simp only[a4v,he]
  simp only[lG];rw[e0];by_cases e:(k:Int)=h.getD c 0
  .have:0<lkF d v (g.set c (k:Int)):=(a8o hJ gk).2 ⟨h,h1,fun i hi h0=>by
    rw[gt _ i hi]at h0 ⊢;by_cases e2:i=c
    .rw[a0i e2,e2];exact e
    rw[a0g e2]at h0 ⊢;rw[hg.2 i hi]at h0 ⊢;split at h0
    .rename_i c2;rw[a0i c2]
    omega,h2⟩
   rw[a0i (by simpa using this)];show g.set c (k:Int)=_;rw[e]
  have:¬0<lkF d v (g.set c (k:Int)):=fun hp=>by
   obtain⟨q,q1,q2,q3⟩:=(a8o hJ gk).1 hp;have:=a1O hJ.dw.sz h1 q1 (h3 q q1 q3) c hc fun i hi=>by
    have:=q2 i (by omega);rw[gt _ i (by omega),a0g (by omega),hg.2 i (by omega),a0i hi]at this;exact this ((jI.1 h1).2 i (by omega)).1
   have e2:=q2 c hc;rw[gt _ c hc,a0i rfl]at e2;have e2:=e2 (by omega);omega
  rw[a0g (by simpa using this)];show oIn (lG (gIn d v c) m (k+1) (g.set c (k:Int)))=_;exact a8p hc hg m (k+1) _ (fun j=>by rw[List.set_set]) (by omega) (by omega)
theorem abf:aT (PG d v) d.ay.length 0 (dQ [d]).g=h:=by
 have h0:GA d h 0 (dQ [d]).g:=⟨hJ.gl,fun k hk=>by
  rw[a0g (by omega)];show(List.replicate d.ay.length (-1:Int)).getD k 0=-1;rw[a2I,acZ,a0i hk];rfl⟩
 have:=dD (g:=PG d v) (m:=d.ay.length) (k:=0) (s:=(dQ [d]).g) (GA d h) h0 (fun c g _ hc hg=>by
  have hc:c<d.ay.length:=by omega
  have hr:=(jI.1 h1).2 c hc;have e:PG d v c g=g.set c (h.getD c 0):=by
   unfold PG;exact a8p hJ h1 h2 h3 hc hg (nIn d c) 0 g (fun _=>rfl) (by omega) (by unfold nIn;rw[a4v];omega)
  rw[e];refine⟨by rw[a4e];exact hg.1,fun k hk=>?_⟩;by_cases e2:c=k
  .subst e2;rw[a0i (by omega),a2I,a1V (by rw[hg.1];exact hc),a4F]
  rw[a2I,a1g e2,<-a2I,hg.2 k hk];by_cases e3:k<c
  .rw[a0i e3,a0i (by omega)]
  rw[a0g e3,a0g (by omega)])
 rw[a3O]at this;refine(rJ (d:=(0:Int)) (by rw[this.1,ku h1])).2 fun k hk=>?_;rw[this.1]at hk;rw[this.2 k hk,a0i hk]
end
open Go Tw Pv cO
theorem ZW{d:Dg}{v:V}(h:(!(pK (d,v)).2)=true):(cellsD d).count v=0:=by
 unfold pK at h;split at h
 .rename_i x e;have h2:=dL.1 (show jT (bG (cFt (cellsD d) v) (cellsD d).length)=true by rw[show bG (cFt (cellsD d) v) (cellsD d).length=.inl x from e];rfl);refine List.count_eq_zero.2 fun hm=>?_;obtain⟨k,hk,e2⟩:=aar hm;have:=h2 k hk;unfold cFt at this;rw[a2I,a0b hk,a4F,e2]at this;simp at this
 cases h
theorem ZX{d:Dg}{v:V}(hz:lZ d.ay)(h:(!(pK (d,v)).2)=false):gU d.ay (pK (d,v)).1=true∧pG d (pK (d,v)).1=v∧∀q,gU d.ay q=true->pG d q=v->fB d.ay (pK (d,v)).1<=fB d.ay q:=by
 have hc:(EI d.ay:Int)=aY d.ay:=by
  have:=iP hz;unfold EI;omega
 unfold pK at h ⊢;split at h
 .cases h
 rename_i k e;have e:bG (cFt (cellsD d) v) (cellsD d).length=.inr k:=e;obtain⟨j,hj,h1,h2,h3⟩:=H7 (show jT (bG (cFt (cellsD d) v) (cellsD d).length)=false by rw[e];rfl);rw[e]at h3;have:k=j:=by injection h3
 subst this;rw[FQ]at hj;have g:∀i,i<EI d.ay->(cellsD d).getD i V0=pG d (lY d.ay (i:Int)):=fun i hi=>by
  unfold cellsD;rw[a2I,a4d,agE hi];rfl
 refine⟨zq _ hz,?_,fun q q1 q2=>?_⟩
 .rw[<-g k hj];simpa[cFt]using h1
 have r:=pF q1 hz;show fB d.ay (lY d.ay (k:Int))<=_;rw[H9 hz (by omega) (by omega)];by_cases c:(k:Int)<=fB d.ay q
 .exact c
 exfalso;have h4:=h2 (fB d.ay q).toNat (by omega);unfold cFt at h4;rw[g _ (by omega),show(((fB d.ay q).toNat:Nat):Int)=fB d.ay q by omega,LY q1 hz,q2]at h4;simp at h4
open Go Tw Pv cO
theorem a3L{d:Dg}(h:qy d=0):aW d=0∧nN d=true:=by
 unfold qy at h;split at h
 .rename_i c;rw[h]at c;cases c
 rename_i c;refine⟨by simpa using c,?_⟩;split at h
 .cases h
 rename_i c2;simpa using c2
theorem a3M{d:Dg}(hr:Kq d)(h:qy d=0)(ho:d.aG.length<=ah)(he:d.aI.length+1<=ah):d=FC d.ay d.aG (cellsD d)∧∀v∈d.aI,v∈cellsD d:=by
 obtain⟨h0,h1⟩:=a3L h;obtain⟨ht,hn⟩:=kE ho (by omega) (by rw[h0];rfl);have hl:=V9 ho (by omega) (by rw[h];rfl);have e1:=(Sm ht hr (by unfold ah at he;omega) hn).2 h1;have e2:=(XB h0 ho (by omega)).1;rw[e1]at e2;refine⟨e2,fun v hv=>?_⟩;have hg:=ZO ⟨hr,by have:=hl.f.len;unfold ah;omega,by unfold ah at ho;omega,he⟩ h;rw[e2]at hv;exact(Zy (hl.of (FQ d)).1 fun v m=>(a8m hg.c v m).1).2.2.1 v hv
abbrev wFs(d:Dg)(v:V)(l:List Int)(i:Int)(x:List (Nat×PE aF)):aS aF:=⟨[(2,.loc 0 0),(5,.loc 1 0),(6,xL 3 l),(8,xi i)]++x,[d.ps,v.ps],[]⟩
theorem lFs{n:Nat}(hO:Ok n agd){d:Dg}{v:V}{l:List Int}(hL:ZT d)(h1:gU d.ay l=true)(h2:∀q,gU d.ay q=true->pG d q=v->fB d.ay l<=fB d.ay q):Lp n 10 0 (wFs d v l 0 []) (.exit 0) (wFs d v l ((fB d.ay l).toNat:Nat) [(62,xl false)]):=by
 have hr:=pF h1 hL.f.sz;have hm:=hL.f.many;have hs:d.ay.length<=ah:=by have:=hL.f.len;unfold ah;omega
 have hu:DgU d:=⟨hL.t,hL.n,by rw[hL.l];rfl⟩;refine H8 (X:=X0) (N:=(fB d.ay l).toNat) (g:=fun _ (u:Unit)=>u) (s0:=()) (st:=fun i _=>wFs d v l i []) (fin:=fun _=>wFs d v l ((fB d.ay l).toNat:Nat) [(62,xl false)]) (fun _ _=>True) (by kernel_rfl) (by unfold ah;omega) OE trivial (fun _ _ _ _=>trivial) (fun k _ hk _ m e p g9=>?_) (fun _ _=>?_)
 .have t1:decide ((k:Int)<fB d.ay l)=true:=by rw[a1E];omega
  have hq:=zq (k:Int) hL.f.sz;have t2:decide (pG d (lY d.ay (k:Int))=v)=false:=by
   rw[a2H];intro e;have:=h2 _ hq e;rw[H9 hL.f.sz (by omega) (by omega)]at this;omega
  exact aN hO (.o h1 (.o hL.f (.b t1 (.o hs (.o hL.f.sz (.o (show(0:Int)<=(k:Int) by omega) (.o (show(k:Int)<2^62 by omega) (.a (.rd (.bool (decide (pG d (lY d.ay (k:Int))=v)))) (.o hu (.o hq (.o (eqV (.tmp 70) (.tmp 71) (pG d (lY d.ay (k:Int))) v) (.b t2 (.go g9)))))))))))))
 have t1:decide ((((fB d.ay l).toNat:Nat):Int)<fB d.ay l)=false:=by rw[a2H];omega
 exact aN hO (.o h1 (.o hL.f (.b t1 .ex)))
open Go Tw Pv cO
def aqr:eX aF:=cu 10 (a2 dA uA) tA (fun _=>true) (fun p=>[Kq p.1,0<=p.2∧p.2<=255]) agd
theorem aqs:Gd aqr:=aqo.add fun n hO p hp=>by
 obtain⟨d,w⟩:=p;have hr:Kq d:=hp _ (.head _);obtain⟨w0,w1⟩:0<=w∧w<=255:=hp _ (.tail _ (.head _));cases ht:(!(Jw d))
 .have ht:Jw d=true:=by simpa using ht
  obtain⟨hf,h1,h2,h3,h4⟩:=Y9 ht;have hP:=agf ht hr;have ec:=abe hP;have ho:d.aG.length<=ah:=hf.o;have he:d.aI.length<=ah:=hf.e;cases e1:(qy d != 0)
  .have h0:qy d=0:=(by simpa using e1);have hL:=V9 ho he (by rw[h0];rfl);cases e2:((d.aI.length:Int)==0)
   .have n0:(d.aI.length:Int)≠0:=(by simpa using e2);have er:sO .i64 (i64.wrap w) (d.aI.length:Int)=w%(d.aI.length:Int):=by
     rw[wrap_small (by omega) (by omega),a6g w0 (by omega) (by omega)]
    have i1:gQ (sO .i64 (i64.wrap w) (d.aI.length:Int)) d.aI.length:=by
     rw[er];exact⟨ae1 _ n0,agL _ (by omega)⟩
    generalize hv0:d.aI.getD (sO .i64 (i64.wrap w) (d.aI.length:Int)).toNat V0=v;have hv:v∈d.aI:=by rw[<-hv0];exact fK (by obtain⟨a,b⟩:=i1;omega)
    have hc:=(a3M hr h0 ho (by unfold ah;omega)).2 v hv;have hJ:jU (dQ [d]):=yH (D:=[d]) (by simp) (by simp) (a3G hP) (by rw[ec];exact h0);have hg:=ZO hP h0;have hl:(cellsD d).length<=ah:=by rw[FQ];have:=hL.f.EI;have:=hL.f.a6i;have:=hL.f.many;unfold ah;omega
    have e5:(!(pK (d,v)).2)=false:=by
     cases e:(!(pK (d,v)).2)
     .rfl
     .have:=ZW e;have:=afo.2 hc;omega
    obtain⟨f1,f2,f3⟩:=ZX hL.f.sz e5;have ev:kC v=0:=by unfold kC;rw[ZV,(hg.c v hv).1];rfl
    have e6:(look (dW (dQ [d])) v==0)=false:=by
     rw[PL,a3K hJ];have:=afo.2 hc;simp;omega
    have qa:lD (d,v)=((pK (d,v)).1,0):=by
     show(if(bQ [d] != 0)=true then(([]:List Int),bQ [d])else if(kC v != 0)=true then([],4)else if(look (dW (dQ [d])) v==0)=true then([],7)else(aT (PG d v) d.ay.length 0 (dQ [d]).g,0))=_;rw[ec,h0,ev,a0g (by simp),a0g (by simp),a0g (by rw[e6];simp),abf hJ f1 f2 f3]
    subst hv0;have t1:((lD (d,d.aI.getD (sO .i64 (i64.wrap w) (d.aI.length:Int)).toNat V0)).2 != 0)=false:=by rw[qa];rfl
    have g1:gU d.ay (lD (d,d.aI.getD (sO .i64 (i64.wrap w) (d.aI.length:Int)).toNat V0)).1=true:=by rw[qa];exact f1
    have g2:pG d (lD (d,d.aI.getD (sO .i64 (i64.wrap w) (d.aI.length:Int)).toNat V0)).1=d.aI.getD (sO .i64 (i64.wrap w) (d.aI.length:Int)).toNat V0:=by rw[qa];exact f2
    have g3:∀q,gU d.ay q=true->pG d q=d.aI.getD (sO .i64 (i64.wrap w) (d.aI.length:Int)).toNat V0->fB d.ay (lD (d,d.aI.getD (sO .i64 (i64.wrap w) (d.aI.length:Int)).toNat V0)).1<=fB d.ay q:=by rw[qa];exact f3
    have lp:=lFs hO hL g1 g3;have t2:(!(decide (pG d (lD (d,d.aI.getD (sO .i64 (i64.wrap w) (d.aI.length:Int)).toNat V0)).1=d.aI.getD (sO .i64 (i64.wrap w) (d.aI.length:Int)).toNat V0)))=false:=by rw[g2];simp
    have hu:DgU d:=⟨hL.t,hL.n,by rw[hL.l];rfl⟩;have t3:(lD (d,d.aI.getD (sO .i64 (i64.wrap w) (d.aI.length:Int)).toNat V0)).1.length<=ah:=by rw[ku g1];exact hf.s
    exact aO hO (.b (congrArg Bool.not ht) (.o ho (.o he (.b e1 (.b e2 (.o n0 (.o i1 (.o hf (.o hP (.b t1 (.o t3 (.o hL.f.sz (.b (congrArg Bool.not g1) (.a (.rd (.bool (!(decide (pG d (lD (d,d.aI.getD (sO .i64 (i64.wrap w) (d.aI.length:Int)).toNat V0)).1=d.aI.getD (sO .i64 (i64.wrap w) (d.aI.length:Int)).toNat V0))))) (.o hu (.o g1 (.o (neV (.tmp 53) (.tmp 54) (pG d (lD (d,d.aI.getD (sO .i64 (i64.wrap w) (d.aI.length:Int)).toNat V0)).1) (d.aI.getD (sO .i64 (i64.wrap w) (d.aI.length:Int)).toNat V0)) (.b t2 (.w lp .rr)))))))))))))))))))
   .exact aO hO (.b (congrArg Bool.not ht) (.o ho (.o he (.b e1 (.b e2 .rr)))))
  .exact aO hO (.b (congrArg Bool.not ht) (.o ho (.o he (.b e1 .rr))))
 .exact aO hO (.b ht .rr)
end Go.Proofs.YtmobpoiejckagaaGreat
namespace Tw
open Go Go.ChangeShapes Go.WideShapes Go.RowKit
theorem SX{H:Type}{enc:TypeId×Value->H}{P:Program}{w:World}{t:TypeId}{ts:List TypeId}{vs:List Value}{ds:List (DataW H)}{ps:List MemPlace}(h:DataW.TrodAll enc P w 0 (fun _=>true) true (t::ts) vs ds ps):∃d e,ds=d::e∧Rd enc P w t d∧∃vs ps,DataW.TrodAll enc P w 0 (fun _=>true) true ts vs e ps:=by
 obtain⟨v,vs',d,ds',p,q,rfl,rfl,rfl,⟨fuel,hd⟩,Nr⟩:=trodAll_cons h;exact⟨d,ds',rfl,⟨_,fuel,p,hd⟩,_,_,Nr⟩
section
variable {H:Type} {P:Program} {g:Nat} {t:TypeId} {ts:List TypeId} {d:DataW H} {ds:List (DataW H)} {h h1 h2:List HB} {xs:List TV}
theorem agi{cs:List TV}(ha:uK P t=some true)(he:Cj P g t d h=some (cs,h1))(hr:KL P g ts ds h1=some (xs,h2)):KL P g (t::ts) (d::ds) h=some (.agg cs::xs,h2):=by
 simp only[KL,he,ha,hr]
theorem agj{x:TV}(ha:uK P t=some false)(he:Cj P g t d h=some ([x],h1))(hr:KL P g ts ds h1=some (xs,h2)):KL P g (t::ts) (d::ds) h=some (x::xs,h2):=by
 simp only[KL,he,ha,hr]
theorem agk:KL (H:=H) P g [] [] h=some ([],h):=rfl
end
end Tw
namespace Pv
open Go Tw
section
variable {X:kH} {P:Program} {H:Type} {mW:TypeId×Value->H} {w:World}
abbrev AT:Nat->Prop:=fun _=>True
def RdP(mW:TypeId×Value->H)(X:kH)(P:Program)(w:World)(g t:Nat){α:Type}(ps:α->List (PV X.Γ))(Q:α->Prop):Prop:=
 ∀d,Rd mW P w t d->∃a,Q a∧∀h,∃xs ext,Cj P g t d h=some (xs,h++ext)∧∀e,bV X P AT [] (h++ext++e) (ps a) xs
theorem a1P{t g:Nat}{k:IntKind}(ht:P.underlying t=some (.int k)):RdP mW X P w (g+1) t (fun n:Int=>[.int k n]) (fun n=>(Lit.int k n).wf=true):=fun d hd=>by
 obtain⟨n,rfl,hn⟩:=aeH ht hd;exact⟨n,hn,fun h=>⟨[.int k n],[],by simp[Cj,ht],fun e=>.cons (.int _ _) .nil⟩⟩
theorem SY{e g sz:Nat}{Q:X.Γ e->Prop}(hlen:∀a,(X.enc e a).length=sz)(hr:RdP mW X P w g e (X.enc e) Q):∀(ds:List (DataW H)),(∀y∈ds,Rd mW P w e y) ->
  ∃l:List (X.Γ e),l.length=ds.length∧(∀a∈l,Q a)∧∀h,∃cs ext,VT (Cj P g e) sz ds h=some (cs,h++ext)∧cs.length=l.length*sz∧∀e2 (j:Nat) a (i:Nat) c v,l[j]? = some a->(X.enc e a)[i]? = some c->cs[j*sz+i]? = some v->VR X P AT [] (h++ext++e2) c v
 | [],_=>⟨[],rfl,by simp,fun h=>⟨[],[],by simp[VT],by simp,fun e2 j a i c v h1=>by simp at h1⟩⟩
 |d::ds,hd=>by
  obtain⟨a,qa,ha⟩:=hr d (hd d (a2T ..));obtain⟨l,l1,l2,l3⟩:=SY hlen hr ds fun y hy=>hd y (a2Y _ hy);refine⟨a::l,by simp[l1],fun b hb=>(a2e.1 hb).elim (fun e=>e▸qa) (l2 b),fun h=>?_⟩;obtain⟨xs,e1,h1,v1⟩:=ha h;obtain⟨cs,e2,h2,c2,v2⟩:=l3 (h++e1);have hx:xs.length=sz:=by rw[<-(v1 []).1];exact hlen a
  refine⟨xs++cs,e1++e2,?_,by simp only[a1X,a3S,hx,c2,a2Z];omega,fun e3 j b i c v hj hi hv=>?_⟩
  .simp only[VT,h1,hx,a2j,h2,a5B]
  .cases j with
   |zero=>
    simp only[a2C,a01]at hj;subst hj;have KE:i<sz:=by rw[<-hlen a];exact(a02.1 hi).1
    rw[abM,a3O,a0c (by omega)]at hv;have:=(v1 (e2++e3)).2 i c v hi hv;simp only[a5B]at this ⊢;exact this
   |succ j=>
    rw[a9g]at hj;rw[a19 (by rw[hx,a2Z];omega),hx,show(j+1)*sz+i-sz=j*sz+i by rw[a2Z];omega]at hv;have:=v2 e3 j b i c v hj hi hv;simp only[a5B]at this ⊢;exact this
theorem PN{t e g sz:Nat}{Q:X.Γ e->Prop}(ht:P.underlying t=some (.slice e))(uU:P.cellsOf e=sz)(hz:dB P e=some sz)(h0:0<sz)(hlen:∀a,(X.enc e a).length=sz)(hr:RdP mW X P w g e (X.enc e) Q):RdP mW X P w (g+1) t (fun l:List (X.Γ e)=>[.dn e l false]) (fun l=>∀a∈l,Q a):=fun d hd=>by
 rcases a6l ht hd with rfl|⟨xs,ys,rfl,hy⟩
 .exact⟨[],by simp,fun h=>⟨[.nil .slc],[],by simp[Cj,ht],fun e=>.cons .o8 .nil⟩⟩
 .obtain⟨l,l1,l2,l3⟩:=SY hlen hr (xs++ys) hy;have hl:xs.length<=l.length:=by rw[l1,a1X];omega
  refine⟨l.take xs.length,fun a ha=>l2 a (a8B ha),fun h=>?_⟩;obtain⟨cs,e1,h1,c1,v1⟩:=l3 h;refine⟨[.slc (h++e1).length 0 xs.length (xs.length+ys.length) sz true],e1++[.cells .ro cs],?_,fun e2=>.cons ?_ .nil⟩
  .have iC:¬sz=0:=(by omega);simp only[Cj,ht,uU,h1,iC,a3a,a5B]
  .have hln:(l.take xs.length).length=xs.length:=(by rw[a3N,a7A hl]);have hb:(h++(e1++[HB.cells .ro cs])++e2)[(h++e1).length]? = some (.cells .ro cs):=by
    rw[show h++(e1++[HB.cells .ro cs])++e2=(h++e1)++(HB.cells .ro cs::e2) by simp,a19 (a0V _),agw];rfl
   have wu:(l.take xs.length).length<=xs.length+ys.length:=(by omega);have rQ:∀(j:Nat) a,(l.take xs.length)[j]? = some a->l[j]? = some a:=fun j a hj=>by
    rw[a3W]at hj;split at hj
    .exact hj
    .cases hj
   have hle:(l.take xs.length).length*sz<=cs.length:=by rw[c1,hln];exact a3r sz hl
   generalize xs.length+ys.length=cp at wu ⊢;generalize l.take xs.length=l' at wu rQ hle hln ⊢;rw[<-hln];exact VR.dn (X:=X) (P:=P) (A:=AT) (m:=[]) (t:=e) (l:=l') (fu:=false) (b:=(h++e1).length) (off:=0) (cap:=cp) (sz:=sz) (ex:=true) (cs:=cs) trivial (by unfold aV;rw[hb]) (fun _=>by unfold lM;rw[hb];simp) hz h0 (by omega) wu (by simp) (fun j a _=>hlen a) (fun j a i c v hj hi hv=>by
    rw[a3O]at hv;have:=v1 ([HB.cells .ro cs]++e2) j a i c v (rQ j a hj) hi hv;simp only[a5B]at this ⊢;exact this)
def RdF(mW:TypeId×Value->H)(X:kH)(P:Program)(w:World)(g o:Nat)(fs:List Field){α:Type}(ps:α->List (PV X.Γ))(Q:α->Prop):Prop:=
 ∀ds:List (DataW H),ds.length=fs.length->(∀(i:Nat) f d,fs[i]? = some f->ds[i]? = some d->Rd mW P w f.type d)->∃a,Q a∧∀h,∃xs ext,NW P (Cj P g) o fs ds h=some (xs,h++ext)∧∀e,bV X P AT [] (h++ext++e) (ps a) xs
theorem Vb{g o:Nat}:RdF mW X P w g o [] (fun _:Unit=>[]) (fun _=>True):=fun ds hl _=>by
 have:=a3Q hl;subst this;exact⟨(),trivial,fun h=>⟨[],[],by simp[NW],fun e=>.nil⟩⟩
theorem rP{g o n:Nat}{f:Field}{fs:List Field}{α β:Type}{p1:α->List (PV X.Γ)}{p2:β->List (PV X.Γ)}{Q1:α->Prop}{Q2:β->Prop}(ho:f.offset=o)(hc:P.cellsOf f.type=n)(hn:∀a,(p1 a).length=n)(h1:RdP mW X P w g f.type p1 Q1)(h2:RdF mW X P w g (o+n) fs p2 Q2):RdF mW X P w g o (f::fs) (fun x:α×β=>p1 x.1++p2 x.2) (fun x=>Q1 x.1∧Q2 x.2):=fun ds hl hd=>by
 cases ds with
 |nil=>cases hl
 |cons d ds=>
  obtain⟨a,qa,ha⟩:=h1 d (hd 0 f d rfl rfl);obtain⟨b,qb,hb⟩:=h2 ds (by simpa using hl) fun i f' d' e1 e2=>hd (i+1) f' d' e1 e2;refine⟨(a,b),⟨qa,qb⟩,fun h=>?_⟩;obtain⟨xs,e1,g1,v1⟩:=ha h;obtain⟨ys,e2,g2,v2⟩:=hb (h++e1);have hx:xs.length=n:=by rw[<-(v1 []).1];exact hn a
  refine⟨xs++ys,e1++e2,?_,fun e=>?_⟩
  .simp only[NW,g1,ho,hx,hc,acG,a2j,g2,a5B]
  .have w1:=v1 (e2++e);have w2:=v2 e;simp only[a5B]at w1 w2 ⊢;exact w1.app w2
theorem FT{t g n:Nat}{fs:Array Field}{α:Type}{ps:α->List (PV X.Γ)}{Q:α->Prop}(ht:P.underlying t=some (.struct fs))(hc:P.cellsOf t=n)(hn:∀a,(ps a).length=n)(hf:RdF mW X P w g 0 fs.toList ps Q):RdP mW X P w (g+1) t ps Q:=fun d hd=>by
 obtain⟨ds,rfl,hl,JE⟩:=a2R ht hd;obtain⟨a,qa,ha⟩:=hf ds (by simpa using hl) fun i f d e1 e2=>JE i f d (by simpa using e1) e2;refine⟨a,qa,fun h=>?_⟩;obtain⟨xs,e1,g1,v1⟩:=ha h;have hx:xs.length=n:=by rw[<-(v1 []).1];exact hn a
 refine⟨xs,e1,?_,v1⟩;rw[X5 ht,g1];simp[hx,hc]
theorem RdP.iso{t g:Nat}{α β:Type}{ps:α->List (PV X.Γ)}{Q:α->Prop}(h:RdP mW X P w g t ps Q)(f:α->β){p2:β->List (PV X.Γ)}{Q2:β->Prop}(hp:∀a,p2 (f a)=ps a)(hq:∀a,Q a->Q2 (f a)):RdP mW X P w g t p2 Q2:=fun d hd=>by
 obtain⟨a,qa,ha⟩:=h d hd;exact⟨f a,hq a qa,fun h=>by rw[hp];exact ha h⟩
theorem agl{T:qC}{L n f:Nat}{vs:List (PV X.Γ)}{xs:List TV}{h:List HB}(hc:oh X P (kQ P T L (n+1)) f vs (PV.bool true) [])(hv:bV X P AT [] h vs xs):∃h',kQ P T L (n+1) (TV.fn f [] []) xs h=some (TV.bool true,h',[]):=by
 obtain⟨x,h',m',c1,_,c3,_⟩:=hc AT h [] xs [] (fun _ _=>trivial) (by simpa using hv);have:x=TV.bool true:=by
  cases c3 with
  |bool=>rfl
  |gone hi _ _=>simp[bn]at hi
 subst this;exact⟨h',c1⟩
end
end Pv
namespace Go.Proofs.YtmobpoiejckagaaGreat
open Go Tw Pv
section
variable {H:Type} {mW:TypeId×Value->H} {w:World}
abbrev RdX(mW:TypeId×Value->H)(w:World)(g t:Nat){α:Type}(ps:α->List (PV aF))(Q:α->Prop):Prop:=RdP mW X0 Tryz.prog w g t ps Q
theorem a1Q:Tryz.prog.cellsOf 3=1:=by kernel_rfl
theorem aqu:Tryz.prog.cellsOf 5=1:=by kernel_rfl
theorem adq:Tryz.prog.cellsOf 39=2:=by kernel_rfl
theorem zI0:dB Tryz.prog 3=some 1:=by kernel_rfl
theorem abg{g:Nat}:RdX mW w (g+1) 3 (fun n:Int=>[.int .i64 n]) (fun n=>(Lit.int .i64 n).wf=true):=a1P Tryz.underlying3
theorem rU8{g:Nat}:RdX mW w (g+1) 5 (fun n:Int=>[.int .u8 n]) (fun n=>0<=n∧n<=255):=(a1P Tryz.underlying5).iso id (fun _=>rfl) fun n h=>by
 simp only[Lit.wf,a2a,a1E]at h;exact h
theorem a8q{g:Nat}:RdX mW w (g+2) 22 (fun l:List Int=>[lI l]) (fun l=>∀a∈l,(Lit.int .i64 a).wf=true):=PN (e:=3) Tryz.underlying22 a1Q zI0 (by decide) (fun _=>rfl) abg
theorem aqv{g:Nat}:RdX mW w (g+2) 39 V.ps (fun v=>0<=v.f∧v.f<=255):=
 (FT Tryz.underlying39 adq (fun _=>rfl) (rP rfl aqu (fun _=>rfl) rU8 (rP rfl a1Q (fun _=>rfl) abg Vb))).iso (fun x=>⟨x.1,x.2.1⟩) (fun _=>rfl) fun _ h=>h.1
theorem alo:dB Tryz.prog 39=some 2:=by kernel_rfl
theorem alp{g:Nat}:RdX mW w (g+3) 23 (fun l:List V=>[lV l]) (fun l=>∀v∈l,0<=v.f∧v.f<=255):=PN (e:=39) Tryz.underlying23 adq alo (by decide) (fun _=>rfl) aqv
theorem agm:Tryz.prog.cellsOf 22=1:=by kernel_rfl
end
open Go Tw Pv cO
section
variable {H:Type} {mW:TypeId×Value->H} {w:World}
theorem alq:Tryz.prog.cellsOf 105=2:=by kernel_rfl
theorem aqw:dB Tryz.prog 105=some 2:=by kernel_rfl
theorem alr:Tryz.prog.cellsOf 24=1:=by kernel_rfl
theorem aqx:Tryz.prog.cellsOf 23=1:=by kernel_rfl
theorem aqy:Tryz.prog.cellsOf 26=5:=by kernel_rfl
theorem rBr{g:Nat}:RdX mW w (g+3) 105 Br.ps (fun b=>∀a∈b.aA,(Lit.int .i64 a).wf=true):=
 (FT Tryz.underlying105 alq (fun _=>rfl) (rP rfl a1Q (fun _=>rfl) abg (rP rfl agm (fun _=>rfl) a8q Vb))).iso (fun x=>⟨x.1,x.2.1⟩) (fun _=>rfl) fun _ h=>h.2.1
theorem aqz{g:Nat}:RdX mW w (g+4) 24 (fun l:List Br=>[lBr l]) (fun l=>∀b∈l,∀a∈b.aA,(Lit.int .i64 a).wf=true):=PN (e:=105) Tryz.underlying24 alq aqw (by decide) (fun _=>rfl) rBr
theorem a8r{a:Int}(h:(Lit.int .i64 a).wf=true):KR a:=by
 simp only[Lit.wf,a2a,a1E]at h;obtain⟨h1,h2⟩:=h;have e1:i64.min=-(2^63):=by decide
 have e2:i64.max=2^63-1:=by decide
 exact⟨by omega,by omega⟩
theorem rDg{g:Nat}:RdX mW w (g+5) 26 Dg.ps Kq:=
 (FT Tryz.underlying26 aqy (fun _=>rfl) (rP rfl agm (fun _=>rfl) a8q (rP rfl agm (fun _=>rfl) a8q (rP rfl aqx (fun _=>rfl) alp (rP rfl alr (fun _=>rfl) aqz (rP rfl a1Q (fun _=>rfl) abg Vb)))))).iso (fun x=>⟨x.1,x.2.1,x.2.2.1,x.2.2.2.1,x.2.2.2.2.1⟩) (fun _=>rfl) fun x h=>by
  obtain⟨_,_,h3,h4,h5,_⟩:=h;refine⟨fun i hi k hk=>?_,a8r h5,fun v hv=>(h3 v hv).1⟩;have hb:fC ⟨x.1,x.2.1,x.2.2.1,x.2.2.2.1,x.2.2.2.2.1⟩ i∈x.2.2.2.1:=by
   show(x.2.2.2.1).getD i kN∈_;rw[List.getD,a0b hi];exact a4h _
  refine a8r (h4 _ hb _ ?_);rw[List.getD,a0b hk];exact a4h _
end
open Go.ChangeShapes Go.WideShapes Go.ChangeAt Go.RowKit
theorem Tryz.own:ownKnob Tryz.prog.godebug=none:=by kernel_rfl
theorem Tryz.laidOut:laidOutB Tryz.prog=true:=by kernel_rfl
theorem Tryz.mixed:Tryz.prog.follows .mixedOrders=true:=by kernel_rfl
theorem agn:iD Tryz.prog T.ext:=by
 show iD Tryz.prog aeG;intro fv args h v h' ws hc;unfold aeG at hc;split at hc
 .split at hc
  .exact a9K (YP (T:=Tm) Tryz.mixed (fun _ _ _ _ _ _ h=>by cases h) 2) _ _ _ _ _ _ hc
  exact WZ abP _ _ _ _ _ _ hc
 exact WZ abP _ _ _ _ _ _ hc
theorem Tryz.tys10:Tryz.f10.params.toList=[26,5]:=by kernel_rfl
set_option maxRecDepth 100000 in
theorem I9(os:Os)(started:os.Started)(H:Type)(enc:TypeId×Value->H) :
  ReturnsInHanded {} Tryz.checked os 10 .any (Rows.applyFirstSpec.pre6 enc Tryz.prog Tryz.f10 Rows.applyFirstRow.domain false) (Rows.applyFirstSpec.post enc Tryz.prog Tryz.f10 false true false false):=by
 refine returnsInHanded_of_change (C:=Tryz.checked) Tryz.own started (by kernel_rfl) Tryz.func10
  (ChangeSpec.witness6 (enc:=enc) (C:=Tryz.checked) false ⟨#[],#[.agg #[.slice none 0 0,.slice none 0 0,.slice none 0 0,.slice none 0 0,.int .i64 0],.int .u8 0],[]⟩ 8 (by kernel_rfl) (by kernel_rfl) (by kernel_rfl) (by kernel_rfl)) ?_
 intro W base args ds gs before als hW auZ _;have VX:∀(j:Nat) t v,Tryz.f10.params[j]? = some t->args[j]? = some v->Value.okWide Tryz.prog W .any base t v:=als;have hW':=hW;obtain⟨p,q,aqA,hV,rfl,hfz,jm⟩:=hW;have hTA:DataW.TrodAll enc Tryz.prog W 0 (fun _=>true) true Tryz.f10.params.toList args.toList ds p:=aqA;obtain⟨rfl,rfl⟩:=trodVars_none hV;rw[Tryz.tys10]at hTA;obtain⟨d0,_,rfl,r0,_,_,hTA⟩:=SX hTA;obtain⟨d1,_,rfl,r1,_,_,hTA⟩:=SX hTA;obtain⟨_,rfl,_⟩:=trodAll_nil hTA;obtain⟨a0,q0,h0⟩:=rDg (g:=2) d0 r0;obtain⟨a1,q1,h1⟩:=rU8 (g:=6) d1 r1;obtain⟨x0,e0,g0,v0⟩:=h0 ([]);obtain⟨x1,e1,g1,v1⟩:=h1 ([]++e0);have w0:=v0 (e1);simp only[a5B,abw,a5J]at w0;have w1:=v1 ([]);simp only[a5B,abw,a5J]at w1;obtain⟨y1,_,rfl,u1,z1⟩:=w1.inv;cases z1.inv0;obtain⟨N,hN⟩:=aqs;have aqB:=hN (N+1) (by omega) 10 ((Pv.a2 dA uA).put (a0,a1)) (tA.put true) [] [Kq a0,0<=a1∧a1<=255] rfl (by
  intro p hp;simp only[a2e,List.not_mem_nil,or_false]at hp;rcases hp with rfl|rfl
  .exact q0
  .exact q1)
 obtain⟨h',hr⟩:=agl (h:=[]++e0++e1) aqB (by simp only[a5B,abw,a5J];exact .cons (.agg w0.1 w0.2) (.cons u1 .nil));exact YQ (P:=Tryz.prog) (T:=T) (L:=LL) (n:=N) (g:=7) Tryz.mixed Tryz.laidOut rfl rfl (by kernel_rfl) Tryz.underlying4 (by kernel_rfl) hW' VX
  (by rw[Tryz.tys10];exact(agi (by kernel_rfl) g0 (agj (by kernel_rfl) g1 agk))) agn (by kernel_rfl) (by kernel_rfl) hr
theorem Ia:joinedFacts Tryz.pinned.checked.prog 10 Tryz.f10 Rows.applyFirstSpec Rows.applyFirstRow=true:=by kernel_rfl
theorem ApplyFirst_holds:Rows.ApplyFirstSaid:=
 OpenClaim.holds_of_wide 10 Tryz.f10 rfl rfl rfl rfl rfl rfl rfl ⟨rfl,rfl,rfl,rfl,rfl⟩ rfl rfl rfl rfl rfl (by kernel_rfl) Tryz.func10 Ia
  (a7p (by kernel_rfl)) (by unfold Func.isWrapper;first|(rw[a0i (by decide +kernel)];kernel_rfl)|(rw[a0g (by decide +kernel)];exact⟨rfl,rfl⟩))
  (fun os started H enc _=>I9 os started H enc)
end Go.Proofs.YtmobpoiejckagaaGreat
