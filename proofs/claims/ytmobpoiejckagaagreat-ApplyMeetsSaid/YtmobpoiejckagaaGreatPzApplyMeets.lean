/- ApplyMeets: where any diagram, and where all of any list are met, are the document's, or the errors are (the Go function of this name returns true for every input). -/
import Derived.ProofKit
import Derived.Test.YtmobpoiejckagaaGreatRows
import Derived.Test.YtmobpoiejckagaaGreatP05
set_option linter.constructorNameAsVariable false
set_option linter.unusedVariables false
set_option linter.unusedSimpArgs false
set_option linter.unusedSectionVars false
open Go.IntKind (i64)
noncomputable section
namespace Go.Proofs.YtmobpoiejckagaaGreat
open Go Tw Pv bQ
abbrev amW(J:Jb)(a:Int)(x:List (Nat×PE aH)):List (Nat×PE aH):=[(1,.val (.lJ 4)),(2,.loc 0 0),(4,.val (.map 5)),(21,xL 3 J.o),(22,xi J.o.length),(23,xi a)]++x
abbrev WL(J:Jb)(f:Nat)(t:List (V×Int))(now:List (S3×Int))(a:Int)(x:List (Nat×PE aH)):bJ aH:=⟨amW J a x,[J.ps (.fn f [] [])],HN J f t now⟩
abbrev ntE:Nat:=Di Qp 136
abbrev ExE(n:Nat)(c:Code)(s:bJ aH)(e:Ex)(s':bJ aH):Prop:=dQ X0 Qp T (iD (n+1)) LL 136 false ntE 5 c s e s'
abbrev ExD(n:Nat)(c:Code)(s:bJ aH)(Q:Ex->bJ aH->Prop):Prop:=aK X0 Qp T (iD (n+1)) DN LL 136 ntE 5 c s Q
section
variable{n:Nat}{J:Jb}(hJ:kQ J){f:Nat}(t:List (V×Int)){now:List (S3×Int)}{a:Nat}
include hJ
set_option maxRecDepth 20000 in
theorem ahz(h:zf J a now)(aS:a<J.o.length):ExD n bLB (WL J f t now a []) fun e s=>e=.norm/\∃LC,zf J (a+1) LC/\lQ 5 [.gc [6]] (iy X0 (T.fC 136 (eu bLB)) s)=some (WL J f t LC ((a+1:Nat):Int) []):=by
 have hr:J.o.drop a=J.o.getD a 0::J.o.drop (a+1):=by rw[a6j aS];simp[List.getD,a0A aS]
 have OM:J.o.length<=6:=by rw[(kQ.o2 hJ).2.1];exact hJ.bG.len
 have t1:decide ((a:Int)<(J.o.length:Int))=true:=aV aS;have e0:bLB=.seq (fA bLB) (.seq (.cond (.tmp 24) .skip (.exit 0)) (.seq (.block 1 bB1) (fB (fB (fB bLB))))):=by kernel_rfl
 have e1:bB1=.seq (fA bB1) (.seq (fA (fB bB1)) (.seq (.seq (fA (fA (fB (fB bB1)))) (.block 2 (.loop bIB))) (fB (fB (fB bB1))))):=by kernel_rfl
 have x3:ExE n (fA bLB) (WL J f t now a []) .norm (WL J f t now a [(24,.val (.bool (decide ((a:Int)<(J.o.length:Int)))))]):=Ag hX gX (by kernel_rfl) (.r rfl);have hc:AV (WL J f t now a [(24,.val (.bool (decide ((a:Int)<(J.o.length:Int)))))]).env (.tmp 24)=some (.bool true):=by rw[<-t1];kernel_rfl
 have i1:fZ (a:Int) J.o.length:=aF aS;have x4:ExE n (fA bB1) (WL J f t now a [(24,.val (.bool (decide ((a:Int)<(J.o.length:Int)))))]) .norm ⟨[(1,.val (.lJ 4)),(2,.loc 0 0),(4,.val (.map 5)),(6,xi (J.o.getD a 0)),(21,xL 3 J.o),(22,xi J.o.length),(23,xi a)],[J.ps (.fn f [] [])],HN J f t now⟩:=Ag hX gX (by kernel_rfl) (.o i1 (.r rfl));have x5:ExE n (fA (fB bB1)) ⟨[(1,.val (.lJ 4)),(2,.loc 0 0),(4,.val (.map 5)),(6,xi (J.o.getD a 0)),(21,xL 3 J.o),(22,xi J.o.length),(23,xi a)],[J.ps (.fn f [] [])],HN J f t now⟩ .norm ⟨[(1,.val (.lJ 4)),(2,.loc 0 0),(4,.val (.map 5)),(6,xi (J.o.getD a 0)),(7,.val (.map 6)),(21,xL 3 J.o),(22,xi J.o.length),(23,xi a)],[J.ps (.fn f [] [])],HN J f t now++[.map []]⟩:=Ag hX gX (by kernel_rfl) (.r rfl);have x6:ExE n (fA (fA (fB (fB bB1)))) ⟨[(1,.val (.lJ 4)),(2,.loc 0 0),(4,.val (.map 5)),(6,xi (J.o.getD a 0)),(7,.val (.map 6)),(21,xL 3 J.o),(22,xi J.o.length),(23,xi a)],[J.ps (.fn f [] [])],HN J f t now++[.map []]⟩ .norm ⟨a5g J (J.o.getD a 0) a,[J.ps (.fn f [] [])],HN J f t now++[.map (kS.im []),.dD 5 (kS.im now).length []]⟩:=Ag hX gX (by kernel_rfl) (.r rfl);rw[kS.qA now]at x6;rw[e0];refine aK.Ce (by kernel_rfl) x3 (aK.seq (R:=fun e s=>e=.norm/\s=WL J f t now a [(24,.val (.bool (decide ((a:Int)<(J.o.length:Int)))))]) (aK.cond (t:=true) hc (aK.step (by kernel_rfl) (Ag hX gX (an:=.n) (by kernel_rfl) (.r rfl)) ⟨rfl,rfl⟩)) (fun s hs=>?_) (fun i s h=>by cases h.1) (fun s h=>by cases h.1));obtain⟨_,rfl⟩:=hs;refine aK.seq (R:=fun e s=>e=.norm/\∃next seen,zf J (a+1) next/\s=⟨[(1,.val (.lJ 4)),(2,.loc 0 0),(4,.val (.map 6)),(21,xL 3 J.o),(22,xi J.o.length),(23,xi a)],[J.ps (.fn f [] [])],HI J f t now next seen⟩) ?_ (fun s hs=>?_) (fun i s h=>by cases h.1) (fun s h=>by cases h.1)
 .refine aK.block ?_;rw[e1];refine(aK.Ce (by kernel_rfl) x4 (aK.Ce (by kernel_rfl) x5 (aK.seq (R:=fun e s=>e=.norm/\∃next seen,NI J (a+1) next/\(∀ψ,dK (yG J ψ (J.o.drop (a+1))) next=dK (yG J ψ (J.o.getD a 0::J.o.drop (a+1))) now)/\s={ sH J f t now next (J.o.getD a 0) a seen with env:=jG (T.iP 136 7) ((31,.val (.bool false))::(30,.val (.dB [.bool false]))::a5g J (J.o.getD a 0) a) }) (Q:=fun e s=>e=.norm/\∃next seen,zf J (a+1) next/\s=⟨[(1,.val (.lJ 4)),(2,.loc 0 0),(4,.val (.map 6)),(21,xL 3 J.o),(22,xi J.o.length),(23,xi a)],[J.ps (.fn f [] [])],HI J f t now next seen⟩) (aK.Ce (by kernel_rfl) x6 (inLoop (n:=n) hJ t now hr h)) (fun s hs=>?_) (fun i s h=>by cases h.1) (fun s h=>by cases h.1)))).mono fun e s h=>?_
  .obtain⟨_,next,seen,g1,g2,rfl⟩:=hs;refine aK.step (by kernel_rfl) (Ag (ps1:=⟨[(1,.val (.lJ 4)),(2,.loc 0 0),(4,.val (.map 6)),(21,xL 3 J.o),(22,xi J.o.length),(23,xi a)],[J.ps (.fn f [] [])],HI J f t now next seen⟩) hX gX (an:=.n) (by kernel_rfl) (.r rfl)) ⟨rfl,next,seen,⟨g1,fun ψ=>?_⟩,rfl⟩;rw[g2,<-hr,h.s]
  obtain⟨rfl,h2⟩:=h;exact⟨rfl,h2⟩
 obtain⟨_,next,seen,g1,rfl⟩:=hs;refine aK.step (by kernel_rfl) (Ag (ps1:=⟨[(1,.val (.lJ 4)),(2,.loc 0 0),(4,.val (.map 6)),(21,xL 3 J.o),(22,xi J.o.length),(23,xi (i64.wrap ((a:Int)+1)))],[J.ps (.fn f [] [])],HI J f t now next seen⟩) hX gX (an:=.n) (by kernel_rfl) (.r rfl)) ⟨rfl,next,g1,?_⟩;rw[yV (by unfold ah;omega)]
 kernel_rfl
set_option maxRecDepth 20000 in
theorem a9h:ExD n bLB (WL J f t now J.o.length []) fun e s=>e=.exit 0/\s=WL J f t now J.o.length [(24,.val (.bool (decide ((J.o.length:Int)<(J.o.length:Int)))))]:=by
 have t1:decide ((J.o.length:Int)<(J.o.length:Int))=false:=dZ _;have e0:bLB=.seq (fA bLB) (.seq (.cond (.tmp 24) .skip (.exit 0)) (.seq (.block 1 bB1) (fB (fB (fB bLB))))):=by kernel_rfl
 have x3:ExE n (fA bLB) (WL J f t now J.o.length []) .norm (WL J f t now J.o.length [(24,.val (.bool (decide ((J.o.length:Int)<(J.o.length:Int)))))]):=Ag hX gX (by kernel_rfl) (.r rfl);have hc:AV (WL J f t now J.o.length [(24,.val (.bool (decide ((J.o.length:Int)<(J.o.length:Int)))))]).env (.tmp 24)=some (.bool false):=by rw[<-t1];kernel_rfl
 rw[e0];refine aK.Ce (by kernel_rfl) x3 (aK.seq (R:=fun e s=>e=.exit 0/\s=WL J f t now J.o.length [(24,.val (.bool (decide ((J.o.length:Int)<(J.o.length:Int)))))]) (aK.cond (t:=false) hc (aK.step (by kernel_rfl) (Ag hX gX (an:=.n) (by kernel_rfl) (.r rfl)) ⟨rfl,rfl⟩)) (fun s hs=>by cases hs.1) (fun i s h=>h) (fun s h=>by cases h.1))
set_option maxRecDepth 20000 in
theorem ach(h:zf J 0 now):ExD n (.block 0 (.loop bLB)) (WL J f t now 0 []) fun e s=>e=.norm/\∃LC,zf J J.o.length LC/\s=WL J f t LC J.o.length [(24,.val (.bool (decide ((J.o.length:Int)<(J.o.length:Int)))))]:=by
 have OM:J.o.length<=6:=by rw[(kQ.o2 hJ).2.1];exact hJ.bG.len
 refine aK.block ?_;refine aK.loop (fun k s=>∃a LC gs,a+k=J.o.length/\zf J a LC/\lQ 5 gs (iy X0 (T.fC 136 (eu bLB)) s)=some (WL J f t LC (a:Int) [])) (fun k s hi=>?_) (k:=J.o.length) ⟨0,now,[],by omega,h,by kernel_rfl⟩ (by unfold LL;omega);obtain⟨a,LC,gs,hk,h1,h2⟩:=hi;refine aK.ghost hX h2 ?_;rcases a4O a J.o.length with aS|CY
 .refine(ahz (n:=n) hJ t h1 aS).mono fun e s h3=>?_;obtain⟨rfl,asG,h4,h5⟩:=h3;exact⟨k-1,by omega,a+1,asG,_,by omega,h4,h5⟩
 have:a=J.o.length:=by omega
 subst this;refine(a9h (n:=n) hJ t).mono fun e s h3=>?_;obtain⟨rfl,rfl⟩:=h3;dsimp only;rw[a15 rfl];exact⟨rfl,LC,h1,rfl⟩
end
open Go Tw Pv bQ
def Zb(φ:V->Int)(l:List V):Int:=if oM (l.drop 1)=true then φ (l.getD 0 V0)else 0
theorem ahA(φ l w t):dK φ (yT l w t)=dK φ t+w*Zb φ l:=by
 unfold yT Zb;cases oM (l.drop 1)
 .rw[a0S (by simp),a0S (by simp)];omega
 rw[a15 rfl,a15 rfl,Af]
abbrev sH2(J:Jb)(f:Nat)(t:List (V×Int))(now:List (S3×Int))(seen:List Nat):bJ aH:=⟨[(1,.val (.lJ 4)),(2,.loc 0 0),(94,.val (.iter 6))],[J.ps (.fn f [] [])],Sv J f true none t++[.map (kS.im now),.dD 5 now.length seen]⟩
structure a18(t:List (V×Int)):Prop where
 nd:(t.map (·.1)).Nodup
 pos:∀e∈t,0<e.2
theorem a18.y{t}(h:a18 t)(l){w}(hw:0<w):a18 (yT l w t):=by
 unfold yT;split
 .exact⟨H8 h.nd _ _,Qj hw h.pos⟩
 exact h
section
variable{n:Nat}{J:Jb}(hJ:kQ J){f:Nat}{now:List (S3×Int)}
def asH(J:Jb)(f:Nat)(now:List (S3×Int))(seen:List Nat)(s:bJ aH):Prop:=
 seen.Nodup/\(∀j∈seen,j<now.length)/\∃t,a18 t/\(∀φ,dK φ t=eP (fun j=>(nowAt now j).2*Zb φ (aX J.D (nowAt now j).1)) seen)/\iy X0 (T.fC 136 (eu bL2)) s=sH2 J f t now seen
theorem amX(l):0<=Zb (fun _=>1) l/\Zb (fun _=>1) l<=1:=by unfold Zb;split<;>simp
include hJ
theorem ahB(h:zf J J.o.length now){seen:List Nat}(jJ:seen.Nodup)(aS:∀j∈seen,j<now.length){t:List (V×Int)}(ht:a18 t)(hs:∀φ,dK φ t=eP (fun j=>(nowAt now j).2*Zb φ (aX J.D (nowAt now j).1)) seen):Tal t:=by
 refine⟨ht.nd,ht.pos,fun e he=>?_⟩;have h1:=(Ju ht.pos).2 e he;have hp:∀j,j<now.length->0<(nowAt now j).2:=fun k hk=>h.i.pos _ (dw (d:=(⟨⟨0,0,0⟩,0⟩:S3×Int)) hk);have h2:=WJ (φ:=fun j=>(nowAt now j).2*Zb (fun _=>1) (aX J.D (nowAt now j).1)) jJ aS fun k hk=>aeJ (afi (hp k hk)) (amX _).1;have h3:eP (fun j=>(nowAt now j).2*Zb (fun _=>1) (aX J.D (nowAt now j).1)) (List.range now.length)<=eP (fun j=>(nowAt now j).2*1) (List.range now.length):=by
  have:∀l:List Nat,(∀j∈l,j<now.length)->eP (fun j=>(nowAt now j).2*Zb (fun _=>1) (aX J.D (nowAt now j).1)) l<=eP (fun j=>(nowAt now j).2*1) l:=by
   intro l
   induction l with
   |nil=>intro _;exact aa0 _
   |cons j l ih=>
    intro hl;have:=ih fun k hk=>hl k (by simp[hk]);have:=a9Q (amX (aX J.D (nowAt now j).1)).2 (afi (hp j (hl j (by simp))));simp only[eP];omega
  exact this _ fun j hj=>a5y.1 hj
 rw[Jv (φ:=fun _=>1)]at h3;have h4:=Oh hJ now h;rw[List.drop_length]at h4;have h4:dK (fun _=>1) now<=2000:=h4;rw[<-hs]at h2;omega
set_option maxRecDepth 20000 in
theorem a5h(hO:Ok n rC)(h:zf J J.o.length now)(hD:0<J.D.length):aK X0 Qp T (iD (n+1)) DN LL 136 ntE 5 (.block 7 (.loop bL2)) (sH2 J f [] now []) fun e s=>e=.norm/\∃t seen,a18 t/\(∀φ,dK φ t=dK (fun st=>Zb φ (aX J.D st)) now)/\s={ sH2 J f t now seen with env:=jG (T.iP 136 23) ((96,.val (.bool false))::(95,.val (.dB [.bool false]))::(sH2 J f t now seen).env) }:=by
 have e0:bL2=.seq (.region 23 (a7S (fA bL2)) false) (.seq (.cond (.tmp 96) .skip (.exit 7)) (.block 8 bX2)):=by kernel_rfl
 rw[e0];have hlen:=a3p hJ now h;refine VQ hX (n:=now.length) (b:=6) (r:=5) (it:=94) (nx:=95) (mo:=96) (es:=kS.im now) (fun seen s=>asH J f now seen s) (by kernel_rfl) (a7j (by kernel_rfl)) (a7j (by kernel_rfl)) (kS.qA now) (by unfold LL;omega)
  ⟨a6g,(fun j hj=>(by cases hj)),[],⟨a6g,(fun e he=>(by cases he))⟩,(fun φ=>rfl),(by kernel_rfl)⟩ (fun seen s hi=>?_)
 obtain⟨jJ,aS,t,h1,h2,h3⟩:=hi;rw[<-e0];refine⟨_,h3,by kernel_rfl,by kernel_rfl,by kernel_rfl,fun ho=>⟨by kernel_rfl,t,seen,h1,fun φ=>?_,rfl⟩,fun j e hj he=>⟨by kernel_rfl,?_⟩⟩
 .rw[h2,QX jJ aS ho,Jv (φ:=fun st=>Zb φ (aX J.D st))]
 .rw[kS.Cb,a0x]at he;obtain⟨⟨st,w⟩,tX,rfl⟩:=he;obtain⟨q1,q2,q3⟩:=Z9 tX;have Hq:(j::seen).Nodup:=a5x.2 ⟨hj,jJ⟩;have FP:∀k∈j::seen,k<now.length:=fun k hk=>by
   rcases a1B.1 hk with rfl|hk
   .exact q2
   .exact aS k hk
  have ho:=a3o tX;have nR:(aX J.D st).length=J.D.length:=by simp[aX]
  have hw:=h.i.pos _ q3;have hc:=a3i (M:=n) (f:=f) J st hJ.d3 fun k hk=>(Lj hJ (h.i.dp _ q3) hk).2;have hd3:=hJ.d3;have hy:=asA (n:=n) hO J f (ahB hJ h jJ aS h1 h2) (aX J.D st) (w:=w) (by omega) (by unfold ah;omega) ⟨hw,hlen.2 _ q3⟩;refine aK.step (e:=.norm) (by kernel_rfl) (Ag (ps1:=⟨[(1,.val (.lJ 4)),(2,.loc 0 0),(94,.val (.iter 6)),(106,xl false)],[J.ps (.fn f [] []),st.ps],Sv J f true none (yT (aX J.D st) w t)++[.map (kS.im now),.dD 5 now.length (j::seen)]⟩) hX gX (by kernel_rfl) (.c (.dB [.agg st.ps,.int .i64 w]) [] ho (.fr [] hc (.fr [0,1,2,3,4] hy (.b aiJ (.r rfl)))))) ⟨.inl rfl,Hq,FP,yT (aX J.D st) w t,h1.y _ hw,fun φ=>?_,by kernel_rfl⟩;rw[ahA,h2,eP,q1,ahD]
def a9i(J:Jb)(t:List (V×Int)):Prop:=a18 t/\∀φ,dK φ t=eP (fun q=>Zb φ (J.D.map fun d=>vT d q)) (YZ J)
omit hJ in
theorem a5i(hJ:kQ J):zf J 0 [(fD J.D,1)]:=by
 refine⟨⟨by simp,fun e he=>?_,fun e he=>?_⟩,fun ψ=>?_⟩
 .rw[a2m.1 he];show(0:Int)<1;decide
 .rw[a2m.1 he];exact Z4 hJ
 simp[dK]
set_option maxRecDepth 20000 in
theorem amY(hO:Ok n rC)(hD:0<J.D.length):abh X0 Qp (vY Qp T (iD (n+1)) LL) (.fn 136 [.agg (J.ps (.fn f [] []))] []) [.lJ 4] (Sv J f true none []) fun v H1=>∃(t:List (V×Int)) (G:List (PB aH)),a9i J t/\H1=Sv J f true none t++G:=by
 refine a2D (t:=Ue Qp 136) hX (by kernel_rfl) ?_;have e0:(Ue Qp 136).body=.seq (fA Sr) (.seq (fA (fB Sr)) (.seq (.seq (fA (fA (fB (fB Sr)))) (.block 0 (.loop bLB))) (.seq (fA (fB (fB (fB Sr)))) (.block 7 (.loop bL2))))):=by kernel_rfl
 rw[e0];have hs:=a0X (M:=n) (f:=f) (a:=[]) (cc:=[]) (H:=[]) J hJ.d3;have hf:oG X0 Qp 148 (kS.es []) (kS.tv (fD J.D)):=kS.fresh (x:=fD J.D) (by simp);have x0:ExE n (fA Sr) ⟨lX X0 0 [.agg (J.ps (.fn f [] [])),.lJ 4],[],Sv J f true none []⟩ .norm ⟨[(1,.val (.lJ 4)),(2,.loc 0 0)],[J.ps (.fn f [] [])],Sv J f true none []⟩:=Ag hX gX (an:=.n) (by kernel_rfl) (.r rfl);have x1:ExE n (fA (fB Sr)) ⟨[(1,.val (.lJ 4)),(2,.loc 0 0)],[J.ps (.fn f [] [])],Sv J f true none []⟩ .norm ⟨[(1,.val (.lJ 4)),(2,.loc 0 0),(4,.val (.map 5))],[J.ps (.fn f [] [])],HN J f [] [(fD J.D,1)]⟩:=Ag hX gX (by kernel_rfl) (.fr [] hs (.q (.bool false) (kS.ck (fD J.D)) (.o hf (.r rfl))));have x2:ExE n (fA (fA (fB (fB Sr)))) ⟨[(1,.val (.lJ 4)),(2,.loc 0 0),(4,.val (.map 5))],[J.ps (.fn f [] [])],HN J f [] [(fD J.D,1)]⟩ .norm (WL J f [] [(fD J.D,1)] 0 []):=Ag hX gX (an:=.n) (by kernel_rfl) (.r rfl);refine aK.Ce (by kernel_rfl) x0 (aK.Ce (by kernel_rfl) x1 (aK.seq (R:=fun e s=>e=.norm/\∃LC,zf J J.o.length LC/\s=WL J f [] LC J.o.length [(24,.val (.bool (decide ((J.o.length:Int)<(J.o.length:Int)))))]) (aK.Ce (by kernel_rfl) x2 (ach (n:=n) hJ [] (a5i hJ))) (fun s h=>?_) (fun i s h=>by cases h.1) (fun s h=>by cases h.1)));obtain⟨_,now,h1,rfl⟩:=h;have x3:ExE n (fA (fB (fB (fB Sr)))) (WL J f [] now J.o.length [(24,.val (.bool (decide ((J.o.length:Int)<(J.o.length:Int)))))]) .norm ⟨[(1,.val (.lJ 4)),(2,.loc 0 0),(94,.val (.iter 6))],[J.ps (.fn f [] [])],Sv J f true none []++[.map (kS.im now),.dD 5 (kS.im now).length []]⟩:=Ag hX gX (an:=.n) (by kernel_rfl) (.r rfl);rw[kS.qA now]at x3;refine aK.Ce (by kernel_rfl) x3 ((a5h hJ hO h1 hD).mono fun e s h=>?_);obtain⟨rfl,t,seen,g1,g2,rfl⟩:=h;refine⟨.inl rfl,[],by kernel_rfl,t,[.map (kS.im now),.dD 5 now.length seen],⟨g1,fun φ=>?_⟩,rfl⟩;rw[g2];have:=h1.s fun st=>Zb φ (aX J.D st);rw[List.drop_length]at this;rw[<-ac7 hJ (Zb φ)];exact this
end
open Go Tw Pv bQ
def a19(J:Jb):List (List V):=(YZ J).map fun q=>J.D.map fun d=>vT d q
def wB(J:Jb):List V:=((a19 J).filter fun l=>oM (l.drop 1)).map fun l=>l.getD 0 V0
abbrev Zc(e:V×Int):LI0:=Tv e.1.tv
def fG(J:Jb):List (V×Int):=zU Zc (BL (wB J))
theorem a3q(φ):∀L,eP (Zb φ) L=eP φ ((L.filter fun l=>oM (l.drop 1)).map fun l=>l.getD 0 V0)
 | []=>rfl
 |l::L=>by
  rw[eP,a3q φ L];unfold Zb;cases h:oM (l.drop 1)
  .rw[a0S (by simp),adv (by rw[h];simp)];omega
  rw[a15 rfl,adx (by rw[h]),a4N,eP]
theorem key_inj{l:List (V×Int)}(hn:(l.map (·.1)).Nodup):∀a∈l,∀b∈l,Zc a=Zc b->a=b:=fun a ha b hb h=>by
 have h1:a.1=b.1:=by have h:[a.1.f,a.1.n]=[b.1.f,b.1.n]:=h;simp only[afb,and_true]at h;obtain⟨⟨a1,a2⟩,_⟩:=a;obtain⟨⟨b1,b2⟩,_⟩:=b;simp only at h;rw[h.1,h.2]
 have h2:=J9 hn ha;have h3:=J9 hn hb;rw[h1,h3]at h2;exact ads h1 h2.symm
theorem a9j{J t}(h:a9i J t):t.Perm (BL (wB J)):=by obtain⟨f1,f2⟩:=H9 (wB J);refine VO h.1.nd f1 h.1.pos f2 fun φ=>?_;rw[h.2,Ua];unfold wB;rw[<-a3q];unfold a19;rw[AB]
theorem a9k{J t}(h:a9i J t):zU Zc t=fG J:=Gj (a9j h) (key_inj h.1.nd)
abbrev aci(e:V×Int):TV×TV:=(e.1.tv,.int .i64 e.2)
theorem WM:∀t,xX (kV.im t)=some (t.map aci)
 | []=>rfl
 |e::t=>by
  have:=WM t;show(match qH (kV.pv e.1),qH (PV.int .i64 e.2:PV aH),xX (kV.im t)with
   |some k,some v,some r=>some ((k,v)::r)
   |_,_,_=>none)=_
  rw[this];rfl
section
variable{n:Nat}{J:Jb}(hJ:kQ J){f:Nat}
include hJ
set_option maxRecDepth 20000 in
theorem QY(hO:Ok n rC)(hD:0<J.D.length):jd (n+2) (.fn 87 [] []) [.agg (J.ps (.fn f [] []))] [] (.map 0) [.map (kV.im (fG J))]:=by
 refine a7P (X:=X0) (P:=Qp) (T:=T) (L:=LL) (n:=n+1) (f:=87) (first:=[]) (cap:=[]) (H:=[]) (t:=Ue Qp 87) (es0:=kV.im (fG J)) (a4y:=(fG J).map aci) hX (by kernel_rfl) (by kernel_rfl) (by kernel_rfl) rfl (WM _) ?_;have e0:(Ue Qp 87).body=.seq (fA Z7) (.seq (fA (fB Z7)) (.seq (.seq (fA (fA (fB (fB Z7)))) (.block 0 (.rangeFunc (.tmp 8) #[9,10] (xU Qp 87) (BJ Qp 87)))) (.seq (fA (fB (fB (fB Z7)))) .ret))):=by kernel_rfl
 rw[e0];have x0:dQ X0 Qp T (iD (n+1)) LL 87 false (Di Qp 87) 0 (fA Z7) ⟨lX X0 0 [.agg (J.ps (.fn f [] []))],[],[]⟩ .norm ⟨[(1,.val (.ptr 0 0 5)),(2,.val (.nil .map))],[],[.cells (J.ps (.fn f [] []))]⟩:=Ag hX gX (an:=.n) (by kernel_rfl) (.r rfl);have x1:dQ X0 Qp T (iD (n+1)) LL 87 false (Di Qp 87) 0 (fA (fB Z7)) ⟨[(1,.val (.ptr 0 0 5)),(2,.val (.nil .map))],[],[.cells (J.ps (.fn f [] []))]⟩ .norm ⟨[(1,.val (.ptr 0 0 5)),(2,.val (.nil .map)),(3,.val (.ptr 2 0 1))],[],HQc J f []⟩:=Ag hX gX (an:=.n) (by kernel_rfl) (.r rfl);have x2:dQ X0 Qp T (iD (n+1)) LL 87 false (Di Qp 87) 0 (fA (fA (fB (fB Z7)))) ⟨[(1,.val (.ptr 0 0 5)),(2,.val (.nil .map)),(3,.val (.ptr 2 0 1))],[],HQc J f []⟩ .norm ⟨a9d J f,[],HQc J f []⟩:=Ag hX gX (an:=.n) (by kernel_rfl) (.r rfl);refine aK.Ce (by kernel_rfl) x0 (aK.Ce (by kernel_rfl) x1 (aK.seq (R:=fun e s=>e=.norm/\∃(t:List (V×Int)) (G:List (PB aH)),a9i J t/\s=⟨a9d J f,[],Sv J f false (some .skip) t++G⟩) (aK.Ce (by kernel_rfl) x2 (aK.block ?_)) (fun s h=>?_) (fun i s h=>by cases h.1) (fun s h=>by cases h.1)))
 .refine aK.range (f1:=136) (a1:=[.agg (J.ps (.fn f [] []))]) (b1:=[]) (K:=fun v H1=>∃(t:List (V×Int)) (G:List (PB aH)),a9i J t/\H1=Sv J f true none t++G) hX rfl (by kernel_rfl) (by kernel_rfl) (amY hJ hO hD) (fun v H1 hk=>?_);obtain⟨t,G,h1,rfl⟩:=hk;exact⟨true,_,_,_,_,_,_,none,.norm,rfl,rfl,rfl,t,G,h1,rfl⟩
 obtain⟨_,t,G,h1,rfl⟩:=h;have x3:dQ X0 Qp T (iD (n+1)) LL 87 false (Di Qp 87) 0 (.seq (fA (fB (fB (fB Z7)))) .ret) ⟨a9d J f,[],Sv J f false (some .skip) t++G⟩ .ret ⟨[(2,.val (.map 1))],[],Sv J f false (some .skip) t++G⟩:=Ag hX gX (an:=.n) (by kernel_rfl) (.r rfl);refine aK.step (by kernel_rfl) x3 ⟨.inr rfl,[.map 1],by kernel_rfl,1,kV.im t,t.map aci,rfl,rfl,WM t,?_⟩;unfold TA;rw[Uc (g:=aci) (key:=Zc) (key2:=fun e=>Tv e.1) (fun _=>rfl),a9k h1]
end
open Go Tw Pv bQ
abbrev QZ(t:List (V×Int))(j:Nat):V×Int:=t.getD j (V0,0)
theorem WO{t j e}(h:t[j]? = some e):QZ t j=e/\j<t.length/\e∈t:=by obtain⟨h1,h2⟩:=a0u.1 h;exact⟨by simp[QZ,List.getD,h],h1,h2▸a5B h1⟩
theorem ahC(t):t=(List.range t.length).map fun j=>QZ t j:=
 (nV (d:=((V0,0):V×Int)) (by simp)).2 fun k hk=>by simp[List.getD,hk]
theorem Zd(t):eP (fun j=>(QZ t j).2) (List.range t.length)=dK (fun _=>1) t:=by
 have h1:dK (fun _=>1) t=eP (fun e:V×Int=>e.2) t:=by
  induction t with
  |nil=>rfl
  |cons e m ih=>simp only[dK,eP,ih,ad8]
 rw[h1]
 conv=>rhs;rw[ahC t]
 rw[AB]
theorem Ci{t}{j:Nat}{v w}(h:t[j]? = some (v,w)):(kV.im t).length=t.length/\(kV.im t)[j]? = some (.agg v.ps,.int .i64 w):=by refine⟨kV.qA t,?_⟩;rw[kV.Cb,h];rfl
structure LD(t:List (V×Int)):Prop where
 pos:∀e∈t,0<e.2
 tot:dK (fun _=>1) t<=2000
theorem LD.len{t}(h:LD t):t.length<=2000:=by
 have h6:∀{m:List (V×Int)},(∀e∈m,0<e.2)->(m.length:Int)<=dK (fun _=>1) m:=by
  intro m
  induction m with
  |nil=>intro _;exact aa0 _
  |cons e m ih=>
   intro hp;have:=ih fun e he=>hp e (by simp[he]);have:=hp e (by simp);simp only[dK,a4p,ad8];omega
 have:=h6 h.pos;have:=h.tot;omega
abbrev a5j:Code:=(Ue Qp 90).body
abbrev lpA:Code:=fA (fA (fB (fA (fB a5j))))
abbrev xA:Code:=fA (fB (fB lpA))
abbrev sA(t:List (V×Int))(z:Int)(js:List Nat):bJ aH:=⟨[(2,xi z),(6,.val (.iter 1))],[],[.iT (kV.im t),.dD 0 t.length js]⟩
section
variable{n:Nat}{t:List (V×Int)}
set_option maxRecDepth 20000 in
theorem asI(h:LD t):jd (n+1) (.fn 90 [] []) [.map 0] [.iT (kV.im t)] (.int .i64 (dK (fun _=>1) t)) [.iT (kV.im t)]:=by
 refine abk (X:=X0) (P:=Qp) (T:=T) (L:=LL) (n:=n) (f:=90) (first:=[]) (cap:=[]) (xs:=[.map 0]) (H:=[.iT (kV.im t)]) (v:=.int .i64 (dK (fun _=>1) t)) (t:=Ue Qp 90) (tv:=.int .i64 (dK (fun _=>1) t)) hX (by kernel_rfl) (by kernel_rfl) (by kernel_rfl) rfl rfl ?_;have e0:(Ue Qp 90).body=.seq (fA a5j) (.seq (.seq (fA (fA (fB a5j))) (.block 0 (.loop lpA))) (.seq (fA (fB (fB a5j))) .ret)):=by kernel_rfl
 have e1:lpA=.seq (.region 2 (a7S (fA lpA)) false) (.seq (.cond (.tmp 8) .skip (.exit 0)) (.block 1 xA)):=by kernel_rfl
 have x0:dQ X0 Qp T (iD n) LL 90 false (Di Qp 90) 1 (fA a5j) ⟨lX X0 0 [.map 0],[],[.iT (kV.im t)]⟩ .norm ⟨[(0,.val (.map 0)),(2,xi 0)],[],[.iT (kV.im t)]⟩:=Ag hX gX (an:=.n) (by kernel_rfl) (.r rfl);have x1:dQ X0 Qp T (iD n) LL 90 false (Di Qp 90) 1 (fA (fA (fB a5j))) ⟨[(0,.val (.map 0)),(2,xi 0)],[],[.iT (kV.im t)]⟩ .norm ⟨[(2,xi 0),(6,.val (.iter 1))],[],[.iT (kV.im t),.dD 0 (kV.im t).length []]⟩:=Ag hX gX (an:=.n) (by kernel_rfl) (.r rfl);rw[kV.qA t]at x1;have hlen:=h.len;have hpj:∀j,j<t.length->0<(QZ t j).2:=fun k hk=>h.pos _ (dw (d:=((V0,0):V×Int)) hk);rw[e0];refine aK.Ce (by kernel_rfl) x0 (aK.seq (R:=fun e s=>e=.norm/\∃seen,s={ sA t (dK (fun _=>1) t) seen with env:=jG (T.iP 90 2) ((8,.val (.bool false))::(7,.val (.dB [.bool false]))::(sA t (dK (fun _=>1) t) seen).env) }) (aK.Ce (by kernel_rfl) x1 ?_) (fun s hs=>?_) (fun i s h=>by cases h.1) (fun s h=>by cases h.1))
 .rw[e1];refine VQ hX (n:=t.length) (b:=1) (r:=0) (it:=6) (nx:=7) (mo:=8) (es:=kV.im t) (fun seen s=>seen.Nodup/\(∀j∈seen,j<t.length)/\iy X0 (T.fC 90 (eu lpA)) s=sA t (eP (fun j=>(QZ t j).2) seen) seen) (by kernel_rfl) (a7j (by kernel_rfl)) (a7j (by kernel_rfl)) (kV.qA t) (by unfold LL;omega)
   ⟨a6g,(fun j hj=>(by cases hj)),(by kernel_rfl)⟩ (fun seen s hi=>?_)
  obtain⟨jJ,aS,h3⟩:=hi;rw[<-e1];refine⟨_,h3,by kernel_rfl,by kernel_rfl,by kernel_rfl,fun ho=>⟨by kernel_rfl,seen,?_⟩,fun j e hj he=>⟨by kernel_rfl,?_⟩⟩
  .rw[QX jJ aS ho,Zd]
  rw[kV.Cb,a0x]at he;obtain⟨⟨v,w⟩,tX,rfl⟩:=he;obtain⟨q1,q2,q3⟩:=WO tX;have Hq:(j::seen).Nodup:=a5x.2 ⟨hj,jJ⟩;have FP:∀k∈j::seen,k<t.length:=fun k hk=>by
   rcases a1B.1 hk with rfl|hk
   .exact q2
   exact aS k hk
  have hb:=WJ (φ:=fun j=>(QZ t j).2) Hq FP fun k hk=>afi (hpj k hk);have yu:=WI (φ:=fun j=>(QZ t j).2) (l:=seen) fun k hk=>afi (hpj k (aS k hk));rw[Zd,eP,q1]at hb;have ht:=h.tot;have hw:=h.pos _ q3;have UW:i64.wrap (eP (fun j=>(QZ t j).2) seen+w)=eP (fun j=>(QZ t j).2) (j::seen):=by rw[eU (by have:(0:Int)<w:=hw;omega) (by have:w+eP (fun j=>(QZ t j).2) seen<=dK (fun _=>1) t:=hb;omega),eP,q1,ahD]
  refine aK.step (e:=.norm) (by kernel_rfl) (Ag (ps1:=⟨[(2,xi (i64.wrap (eP (fun j=>(QZ t j).2) seen+w))),(6,.val (.iter 1))],[],[.iT (kV.im t),.dD 0 t.length (j::seen)]⟩) hX gX (by kernel_rfl) (.c (.dB [.agg v.ps,.int .i64 w]) [] (Ci tX) (.r rfl))) ⟨.inl rfl,Hq,FP,?_⟩;rw[UW]
  kernel_rfl
 obtain⟨_,seen,rfl⟩:=hs;exact aK.step (by kernel_rfl) (Ag (e:=.ret) (ps1:=⟨[(2,xi (dK (fun _=>1) t))],[],[.iT (kV.im t),.dD 0 t.length seen]⟩) hX gX (an:=.n) (by kernel_rfl) (.r rfl)) ⟨.inr rfl,[.int .i64 (dK (fun _=>1) t)],by kernel_rfl,rfl⟩
end
open Go Tw Pv bQ
abbrev a1a:Code:=(Ue Qp 88).body
abbrev lpB:Code:=fA (fA (fB (fA (fB a1a))))
abbrev xB:Code:=fA (fB (fB lpB))
def ED(t:List (V×Int))(js:List Nat):LI0:=(js.reverse.filter fun j=>!decide ((QZ t j).1.f>0)).map fun j=>(QZ t j).1.n
def fOf(t:List (V×Int))(js:List Nat):Bool:=js.any fun j=>decide ((QZ t j).1.f>0)
theorem a5k(t j js):ED t (j::js)=ED t js++(if decide ((QZ t j).1.f>0)=true then []else [(QZ t j).1.n]):=by
 unfold ED;rw[List.reverse_cons,List.filter_append,a4M];congr 1;cases h:decide ((QZ t j).1.f>0)
 .rw[adx (by rw[h];rfl),a0S (by simp)];rfl
 rw[adv (by rw[h];simp),a15 rfl];rfl
def mZ(t:List (V×Int)):LI0:=iC ((t.filter fun e=>!decide (e.1.f>0)).map fun e=>e.1.n)
def vU(t:List (V×Int)):Bool:=t.any fun e=>decide (e.1.f>0)
theorem a1b{l l'}(h:l.Perm l'):iC l=iC l':=by
 unfold iC;have hs:∀l:LI0,(l.mergeSort fun x y=>decide (x<=y)).Pairwise fun a b=>decide (a<=b)=true:=fun l=>
  List.pairwise_mergeSort (fun a b c h1 h2=>by simp at *;omega) (fun a b=>by simp;omega) l
 exact List.Perm.eq_of_pairwise (le:=fun a b=>decide (a<=b)=true) (fun a b _ _ h1 h2=>by simp at h1 h2;omega) (hs l) (hs l') ((af4 l _).trans (h.trans (af4 l' _).symm))
theorem ahE{t js}(hn:js.Nodup)(hl:∀j∈js,j<t.length)(ha:∀j,j<t.length->j∈js):iC (ED t js)=mZ t/\fOf t js=vU t:=by
 have hp:(js.reverse).Perm (List.range t.length):=(List.reverse_perm js).trans ((a7o hn af0).2 fun j=>⟨fun h=>a5y.2 (hl j h),fun h=>ha j (a5y.1 h)⟩);constructor
 .refine a1b ?_;unfold ED;have e:((t.filter fun e=>!decide (e.1.f>0)).map fun e=>e.1.n)=((List.range t.length).filter fun j=>!decide ((QZ t j).1.f>0)).map fun j=>(QZ t j).1.n:=by
   conv=>lhs;rw[ahC t]
   rw[List.filter_map,a8G];rfl
  rw[e];exact(hp.filter _).map _
 unfold fOf vU;rw[a5G,agu,agu];constructor
 .rintro⟨j,hj,h⟩;exact⟨QZ t j,dw (d:=((V0,0):V×Int)) (hl j hj),h⟩
 rintro⟨e,he,h⟩;obtain⟨j,hj,rfl⟩:=a5I.1 he;exact⟨j,ha j hj,by rw[(WO (a0A hj)).1];exact h⟩
abbrev sBl(t:List (V×Int))(l:LI0)(b:Bool)(js:List Nat):bJ aH:=match l with
 | []=>⟨[(2,.val (.nil .aP)),(3,xl b),(6,.val (.iter 1))],[],[.iT (kV.im t),.dD 0 t.length js]⟩
 |x::l=>⟨[(2,.val (.own 2)),(3,xl b),(6,.val (.iter 1))],[],[.iT (kV.im t),.dD 0 t.length js,.list false false 3 (x::l)]⟩
theorem ahF{n}:jd (n+1) (.fn 137 [] []) [.nil .aP] [] (.dB []) []:=by intro A m h tf rJ hr hf hx;obtain⟨x,r,rfl,h1,h2⟩:=hx.inv;have:=h2.inv0;subst this;have htf:=hf.Q9;subst htf;have hx:x=.nil .aP:=kF h1 rfl;subst hx;exact⟨.dB [],h,[],m,rfl,hr,.dB rfl (fun i x y hx=>by simp at hx),.refl,.refl,fun b hb=>by cases hb⟩
section
variable{n:Nat}{t:List (V×Int)}
set_option maxRecDepth 20000 in
theorem acj(h:LD t):aK X0 Qp T (iD (n+1)) (vY Qp T (iD (n+1)) LL) LL 88 (Di Qp 88) 1 (.block 0 (.loop lpB)) (sBl t [] false []) fun e s=>e=.norm/\∃l seen,iC l=mZ t/\s={ sBl t l (vU t) seen with env:=jG (T.iP 88 2) ((8,.val (.bool false))::(7,.val (.dB [.bool false]))::(sBl t l (vU t) seen).env) }:=by
 have e1:lpB=.seq (.region 2 (a7S (fA lpB)) false) (.seq (.cond (.tmp 8) .skip (.exit 0)) (.block 1 xB)):=by kernel_rfl
 have hlen:=h.len;rw[e1];refine Qn hX (n:=t.length) (b:=1) (r:=0) (it:=6) (nx:=7) (mo:=8) (es:=kV.im t) (fun seen s=>seen.Nodup/\(∀j∈seen,j<t.length)/\∃gs,lQ 1 gs (iy X0 (T.fC 88 (eu lpB)) s)=some (sBl t (ED t seen) (fOf t seen) seen)) (by kernel_rfl) (a7j (by kernel_rfl)) (a7j (by kernel_rfl)) (kV.qA t) (by unfold LL;omega)
  ⟨a6g,(fun j hj=>(by cases hj)),[],(by kernel_rfl)⟩ (fun seen s hi=>?_)
 obtain⟨jJ,aS,gs,h3⟩:=hi;rw[<-e1];refine⟨gs,_,h3,?_,?_,?_,fun ho=>?_,fun j e hj he=>?_⟩
 .cases ED t seen<;>kernel_rfl
 .cases ED t seen<;>kernel_rfl
 .cases ED t seen<;>kernel_rfl
 .obtain⟨a1,a2⟩:=ahE jJ aS ho;refine⟨?_,ED t seen,seen,a1,?_⟩
  .cases ED t seen<;>kernel_rfl
  .rw[a2]
 .rw[kV.Cb,a0x]at he;obtain⟨⟨v,w⟩,tX,rfl⟩:=he;obtain⟨q1,q2,q3⟩:=WO tX;have Hq:(j::seen).Nodup:=a5x.2 ⟨hj,jJ⟩;have FP:∀k∈j::seen,k<t.length:=fun k hk=>by
   rcases a1B.1 hk with rfl|hk
   .exact q2
   .exact aS k hk
  have hll:(ED t seen).length<=2000:=by
   have h1:(ED t seen).length<=seen.length:=by unfold ED;rw[a4P];exact a5O (aa7 ..) (by simp)
   have h2:seen.length<=t.length:=by have:=(Lu jJ aS).length_eq;have h3:=aa7 (fun j=>seen.contains j) (List.range t.length);rw[a6u]at h3;omega
   omega
  have EH:=a5k t j seen;have Y9:fOf t (j::seen)=(decide (v.f>0)||fOf t seen):=by unfold fOf;rw[adz,q1]
  rw[q1]at EH;generalize fOf t seen=b at Y9;have EH:ED t (j::seen)=ED t seen++(if decide (v.f>0)=true then []else [v.n]):=EH;generalize ED t seen=l at EH hll;cases hv:decide (v.f>0)
  .rw[hv,a0S (by simp)]at EH;rw[hv,afQ]at Y9;have X6:decide (v.f>0)=false:=hv;cases l with
   |nil=>
    have a1:[v.n].length<=ah:=by rw[a3J];unfold ah;omega
    refine⟨by kernel_rfl,aK.step (e:=.norm) (by kernel_rfl) (Ag (ps1:=⟨[(2,.val (.own 3)),(3,xl b),(6,.val (.iter 1))],[v.ps],[.iT (kV.im t),.dD 0 t.length (j::seen),.list true true 3 [v.n],.list true false 3 [v.n]]⟩) hX gX (by kernel_rfl) (.c (.dB [.agg v.ps,.int .i64 w]) [] (Ci tX) (.b X6 (.o a1 (.r rfl))))) ⟨.inl rfl,Hq,FP,[.flag 3,.gc [1,3]],?_⟩⟩;rw[EH,Y9]
    kernel_rfl
   |cons x l=>
    have a1:(x::l).length+[v.n].length<=ah:=by rw[a3J];unfold ah;omega
    refine⟨by kernel_rfl,aK.step (e:=.norm) (by kernel_rfl) (Ag (ps1:=⟨[(2,.val (.own 4)),(3,xl b),(6,.val (.iter 1))],[v.ps],[.iT (kV.im t),.dD 0 t.length (j::seen),.gone,.list true true 3 [v.n],.list false false 3 (x::l++[v.n])]⟩) hX gX (by kernel_rfl) (.c (.dB [.agg v.ps,.int .i64 w]) [] (Ci tX) (.b X6 (.o a1 (.r rfl))))) ⟨.inl rfl,Hq,FP,[.gc [1,4]],?_⟩⟩;rw[EH,Y9]
    kernel_rfl
  .rw[hv,a15 rfl,a6k]at EH;rw[hv,Bool.true_or]at Y9;have X6:decide (v.f>0)=true:=hv;cases l with
   |nil=>
    refine⟨by kernel_rfl,aK.step (e:=.exit 1) (by kernel_rfl) (Ag (ps1:=⟨[(2,.val (.nil .aP)),(3,xl true),(6,.val (.iter 1))],[v.ps],[.iT (kV.im t),.dD 0 t.length (j::seen)]⟩) hX gX (by kernel_rfl) (.c (.dB [.agg v.ps,.int .i64 w]) [] (Ci tX) (.b X6 (.r rfl)))) ⟨.inr rfl,Hq,FP,[],?_⟩⟩;rw[EH,Y9]
    kernel_rfl
   |cons x l=>
    refine⟨by kernel_rfl,aK.step (e:=.exit 1) (by kernel_rfl) (Ag (ps1:=⟨[(2,.val (.own 2)),(3,xl true),(6,.val (.iter 1))],[v.ps],[.iT (kV.im t),.dD 0 t.length (j::seen),.list false false 3 (x::l)]⟩) hX gX (by kernel_rfl) (.c (.dB [.agg v.ps,.int .i64 w]) [] (Ci tX) (.b X6 (.r rfl)))) ⟨.inr rfl,Hq,FP,[],?_⟩⟩;rw[EH,Y9]
    kernel_rfl
theorem Fj:∀l:LI0,jf (FK X0 3 l)=some (l.map fun n=>TV.int .i64 n)
 | []=>rfl
 |a::l=>by
  have:=Fj l;show(match su (PV.int .i64 a:PV aH),jf (FK X0 3 l)with
   |some a,some b=>some (a::b)
   |_,_=>none)=_
  rw[this];rfl
theorem a5l{nP b}{Hs:List (PB aH)}:a4x X0 Qp nP (.dB [.nil .aP,.bool b]) Hs (fun _=>.dB [.nil .aP,.bool b]) []:=fun A m h h1 w hr hw _=>by
 cases hw with
 |gone hi _ _=>simp[bF]at hi
 |dB a1 a2=>
  obtain⟨x,r,rfl,v0,v1⟩:=Pv.bZ.inv (⟨a1,a2⟩:Pv.bZ X0 Qp _ _ _ _ _);obtain⟨y,r,rfl,v2,v3⟩:=v1.inv;have:=v3.inv0;subst this;have:=kF v2 (show qH (PV.bool b:PV aH)=some (TV.bool b)from rfl);subst this;have:=kF v0 (show qH (PV.nil .aP:PV aH)=some (TV.nil .aP)from rfl);subst this;unfold P9;simp only[D5,D5.G6,xI,o9,o9.zT,DR,Vg,Na,a4N,abI,a6k,a1l]
set_option maxRecDepth 20000 in
theorem aeU(h:LD t):(mZ t=[]->jd (n+2) (.fn 88 [] []) [.map 0] [.iT (kV.im t)] (.dB [.nil .aP,.bool (vU t)]) [.iT (kV.im t)]) /\(mZ t≠[]->jd (n+2) (.fn 88 [] []) [.map 0] [.iT (kV.im t)] (.dB [.own 1,.bool (vU t)]) [.iT (kV.im t),.list false false 3 (mZ t)]):=by
 have e0:(Ue Qp 88).body=.seq (fA a1a) (.seq (.seq (fA (fA (fB a1a))) (.block 0 (.loop lpB))) (fB (fB a1a))):=by kernel_rfl
 have x0:dQ X0 Qp T (iD (n+1)) LL 88 false (Di Qp 88) 1 (fA a1a) ⟨lX X0 0 [.map 0],[],[.iT (kV.im t)]⟩ .norm ⟨[(0,.val (.map 0)),(2,.val (.nil .aP)),(3,xl false)],[],[.iT (kV.im t)]⟩:=Ag hX gX (an:=.n) (by kernel_rfl) (.r rfl);have x1:dQ X0 Qp T (iD (n+1)) LL 88 false (Di Qp 88) 1 (fA (fA (fB a1a))) ⟨[(0,.val (.map 0)),(2,.val (.nil .aP)),(3,xl false)],[],[.iT (kV.im t)]⟩ .norm ⟨[(2,.val (.nil .aP)),(3,xl false),(6,.val (.iter 1))],[],[.iT (kV.im t),.dD 0 (kV.im t).length []]⟩:=Ag hX gX (an:=.n) (by kernel_rfl) (.r rfl);rw[kV.qA t]at x1;have run:∀Q:Ex->bJ aH->Prop,(∀l seen,iC l=mZ t->aK X0 Qp T (iD (n+1)) (vY Qp T (iD (n+1)) LL) LL 88 (Di Qp 88) 1 (fB (fB a1a)) { sBl t l (vU t) seen with env:=jG (T.iP 88 2) ((8,.val (.bool false))::(7,.val (.dB [.bool false]))::(sBl t l (vU t) seen).env) } Q) ->
   aK X0 Qp T (iD (n+1)) (vY Qp T (iD (n+1)) LL) LL 88 (Di Qp 88) 1 (Ue Qp 88).body ⟨lX X0 0 [.map 0],[],[.iT (kV.im t)]⟩ Q:=fun Q hQ=>by
  rw[e0];refine aK.Ce (by kernel_rfl) x0 (aK.seq (R:=fun e s=>e=.norm/\∃l seen,iC l=mZ t/\s={ sBl t l (vU t) seen with env:=jG (T.iP 88 2) ((8,.val (.bool false))::(7,.val (.dB [.bool false]))::(sBl t l (vU t) seen).env) }) (aK.Ce (by kernel_rfl) x1 (acj (n:=n) h)) (fun s hs=>?_) (fun i s h=>by cases h.1) (fun s h=>by cases h.1));obtain⟨_,l,seen,h1,rfl⟩:=hs;exact hQ l seen h1
 have hlen:∀l:LI0,iC l=mZ t->l.length<=2^20:=fun l hl=>by
  have h1:(iC l).length=l.length:=by unfold iC;rw[aaS]
  have h2:(mZ t).length<=t.length:=by unfold mZ iC;rw[aaS,a4P];exact aa7 ..
  have:=h.len;rw[hl]at h1;omega
 have asK:iC []=([]:LI0):=by simp[iC]
 constructor
 .intro hn;have:=Ei (X:=X0) (P:=Qp) (T:=T) (L:=LL) (n:=n+1) (f:=88) (first:=[]) (cap:=[]) (xs:=[.map 0]) (H:=[.iT (kV.im t)]) (N:=[]) (v:=.dB [.nil .aP,.bool (vU t)]) (tv:=fun _=>.dB [.nil .aP,.bool (vU t)]) (tN:=[]) (t:=Ue Qp 88) hX (by kernel_rfl) (by kernel_rfl) (by kernel_rfl) rfl (fun A m h hr=>⟨m,by simpa using hr,Pv.bZ.cons (.nil .aP) (.cons (.bool _) .nil) |> fun h=>.dB h.1 h.2,by simpa using Fr.refl,.refl⟩) (run _ fun l seen hl=>?_)
  .exact this
  .rw[hn]at hl;have qW:l=[]:=by
    have h1:(iC l).length=l.length:=by unfold iC;rw[aaS]
    rw[hl]at h1;exact a4o h1.symm
   subst qW;exact aK.step (by kernel_rfl) (Ag (e:=.ret) (ps1:=⟨[(2,.val (.nil .aP)),(3,xl (vU t))],[],[.iT (kV.im t),.dD 0 t.length seen]⟩) hX gX (by kernel_rfl) (.fr [] (ahF (n:=n)) (.r rfl))) ⟨.inr rfl,[.nil .aP,.bool (vU t)],by kernel_rfl,a5l⟩
 .intro hn;have:=Ei (X:=X0) (P:=Qp) (T:=T) (L:=LL) (n:=n+1) (f:=88) (first:=[]) (cap:=[]) (xs:=[.map 0]) (H:=[.iT (kV.im t)]) (N:=[.list false false 3 (mZ t)]) (v:=.dB [.own 1,.bool (vU t)]) (tv:=fun n=>.dB [.aP n 0 (mZ t).length (mZ t).length 1 false,.bool (vU t)]) (tN:=[.cells .last ((mZ t).map fun n=>TV.int .i64 n)]) (t:=Ue Qp 88) hX (by kernel_rfl) (by kernel_rfl) (by kernel_rfl) rfl (fun A m h hr=>abm hX (H:=[.iT (kV.im t)]) (ty:=3) (l:=mZ t) hn (Fj _) MS (by decide) (fun _ _ _=>rfl) rfl hr) (run _ fun l seen hl=>?_)
  .exact this
  .cases l with
   |nil=>rw[asK]at hl;exact absurd hl.symm hn
   |cons x l=>
    have hs:=aeh (n:=n) (k:=false) (ex:=false) (x::l) (hlen _ hl);rw[hl]at hs;exact aK.step (by kernel_rfl) (Ag (e:=.ret) (ps1:=⟨[(2,.val (.own 2)),(3,xl (vU t))],[],[.iT (kV.im t),.dD 0 t.length seen,.list false false 3 (mZ t)]⟩) hX gX (by kernel_rfl) (.fr [2] hs (.r rfl))) ⟨.inr rfl,[.own 2,.bool (vU t)],by kernel_rfl,a7R hX (i:=2) (ty:=3) (l:=mZ t) rfl hn (Fj _) MS rfl⟩
end
open Go Tw Pv bQ
abbrev vF:PV aH:=.fn 139 [] [.ptr 1 0 1]
abbrev a9l:Code:=(Ue Qp 138).body
abbrev ahG:Code:=(Ue Qp 139).body
abbrev lpW:Code:=fA (fA (fB ahG))
abbrev xW:Code:=fA (fB (fB lpW))
abbrev a9m:List (Nat×PE aH):=[(2,.val (.ptr 2 0 1)),(4,.val (.nil .aP)),(6,.val vF)]
abbrev Rf(rd:Bool)(kC:Option Code):PB aH:=.loop rd 138 (Di Qp 138) a9m [7] (xU Qp 138) (BJ Qp 138) kC
abbrev H3(t:List (V×Int))(x:PV aH):List (PB aH):=[.iT (kV.im t),.aG [.map 0],.cells [x]]
theorem one_le(w:Int):[w].length<=ah:=by rw[a3J];unfold ah;omega
theorem asL{n}(t w):jd (n+1) (.lJ 4) [.int .i64 w] (H3 t (.nil .aP)++[.mark,Rf true none]) (.bool true) (H3 t (.own 6)++[.mark,Rf true none,.list true true 3 [w],.list true false 3 [w]]):=by have q1:dQ X0 Qp T (iD n) LL 138 true (Di Qp 138) 5 (xU Qp 138) ⟨uZ a9m [7] [.int .i64 w],[],H3 t (.nil .aP)++[.mark,Rf true none]⟩ .norm ⟨[(2,.val (.ptr 2 0 1)),(5,xi w)],[],H3 t (.nil .aP)++[.mark,Rf true none]⟩:=yX hX gX (by kernel_rfl) .xx;have q2:dQ X0 Qp T (iD n) LL 138 true (Di Qp 138) 5 (BJ Qp 138) ⟨[(2,.val (.ptr 2 0 1)),(5,xi w)],[],H3 t (.nil .aP)++[.mark,Rf false none]⟩ .norm ⟨[],[],H3 t (.own 6)++[.mark,Rf false none,.list true true 3 [w],.list true false 3 [w]]⟩:=yX hX gX (by kernel_rfl) (.o (one_le w) .xx);exact J3 hX (l:=4) rfl rfl (by kernel_rfl) q1 rfl q2 rfl
theorem asM{n}(t)(l:LI0)(w)(hl:l.length+[w].length<=ah):jd (n+1) (.lJ 4) [.int .i64 w] (H3 t (.own 5)++[.mark,Rf true none,.list false false 3 l]) (.bool true) (H3 t (.own 7)++[.mark,Rf true none,.gone,.list true true 3 [w],.list false false 3 (l++[w])]):=by have q1:dQ X0 Qp T (iD n) LL 138 true (Di Qp 138) 6 (xU Qp 138) ⟨uZ a9m [7] [.int .i64 w],[],H3 t (.own 5)++[.mark,Rf true none,.list false false 3 l]⟩ .norm ⟨[(2,.val (.ptr 2 0 1)),(5,xi w)],[],H3 t (.own 5)++[.mark,Rf true none,.list false false 3 l]⟩:=yX hX gX (by kernel_rfl) .xx;have q2:dQ X0 Qp T (iD n) LL 138 true (Di Qp 138) 6 (BJ Qp 138) ⟨[(2,.val (.ptr 2 0 1)),(5,xi w)],[],H3 t (.own 5)++[.mark,Rf false none,.list false false 3 l]⟩ .norm ⟨[],[],H3 t (.own 7)++[.mark,Rf false none,.gone,.list true true 3 [w],.list false false 3 (l++[w])]⟩:=yX hX gX (by kernel_rfl) (.o hl .xx);exact J3 hX (l:=4) rfl rfl (by kernel_rfl) q1 rfl q2 rfl
def FQ(t:List (V×Int))(js:List Nat):LI0:=js.reverse.map fun j=>(QZ t j).2
theorem a5m(t j js):FQ t (j::js)=FQ t js++[(QZ t j).2]:=by simp[FQ]
abbrev sWl(t:List (V×Int))(l:LI0)(js:List Nat):bJ aH:=match l with
 | []=>⟨[(0,.val (.lJ 4)),(6,.val (.iter 5))],[],H3 t (.nil .aP)++[.mark,Rf true none,.dD 0 t.length js]⟩
 |x::l=>⟨[(0,.val (.lJ 4)),(6,.val (.iter 5))],[],H3 t (.own 6)++[.mark,Rf true none,.dD 0 t.length js,.list false false 3 (x::l)]⟩
section
variable{n:Nat}{t:List (V×Int)}
set_option maxRecDepth 20000 in
theorem acn(h:LD t):aK X0 Qp T (iD (n+1)) DN LL 139 (Di Qp 139) 5 (.block 0 (.loop lpW)) (sWl t [] []) fun e s=>e=.norm/\∃l seen,l.Perm (t.map (·.2))/\s={ sWl t l seen with env:=jG (T.iP 139 1) ((8,.val (.bool false))::(7,.val (.dB [.bool false]))::(sWl t l seen).env) }:=by
 have e1:lpW=.seq (.region 1 (a7S (fA lpW)) false) (.seq (.cond (.tmp 8) .skip (.exit 0)) (.block 1 xW)):=by kernel_rfl
 have hlen:=h.len;rw[e1];refine Qn hX (n:=t.length) (b:=5) (r:=0) (it:=6) (nx:=7) (mo:=8) (es:=kV.im t) (fun seen s=>seen.Nodup/\(∀j∈seen,j<t.length)/\∃gs,lQ 5 gs (iy X0 (T.fC 139 (eu lpW)) s)=some (sWl t (FQ t seen) seen)) (by kernel_rfl) (a7j (by kernel_rfl)) (a7j (by kernel_rfl)) (kV.qA t) (by unfold LL;omega)
  ⟨a6g,(fun j hj=>(by cases hj)),[],(by kernel_rfl)⟩ (fun seen s hi=>?_)
 obtain⟨jJ,aS,gs,h3⟩:=hi;rw[<-e1];refine⟨gs,_,h3,?_,?_,?_,fun ho=>?_,fun j e hj he=>?_⟩
 .cases FQ t seen<;>kernel_rfl
 .cases FQ t seen<;>kernel_rfl
 .cases FQ t seen<;>kernel_rfl
 .refine⟨?_,FQ t seen,seen,?_,rfl⟩
  .cases FQ t seen<;>kernel_rfl
  .have hp:(seen.reverse).Perm (List.range t.length):=(List.reverse_perm seen).trans ((a7o jJ af0).2 fun j=>⟨fun h=>a5y.2 (aS j h),fun h=>ho j (a5y.1 h)⟩);unfold FQ
   conv=>rhs;rw[ahC t]
   rw[a8G];exact hp.map _
 .rw[kV.Cb,a0x]at he;obtain⟨⟨v,w⟩,tX,rfl⟩:=he;obtain⟨q1,q2,q3⟩:=WO tX;have Hq:(j::seen).Nodup:=a5x.2 ⟨hj,jJ⟩;have FP:∀k∈j::seen,k<t.length:=fun k hk=>by
   rcases a1B.1 hk with rfl|hk
   .exact q2
   .exact aS k hk
  have hll:(FQ t seen).length<=2000:=by
   have h2:seen.length<=t.length:=by have:=(Lu jJ aS).length_eq;have h3:=aa7 (fun j=>seen.contains j) (List.range t.length);rw[a6u]at h3;omega
   have h1:(FQ t seen).length=seen.length:=(by simp[FQ]);omega
  have EH:=a5m t j seen;rw[q1]at EH;have EH:FQ t (j::seen)=FQ t seen++[w]:=EH;generalize FQ t seen=l at EH hll;cases l with
  |nil=>
   refine⟨by kernel_rfl,aK.step (e:=.norm) (by kernel_rfl) (Ag (ps1:=⟨[(0,.val (.lJ 4)),(6,.val (.iter 5)),(14,xl false)],[],H3 t (.own 7)++[.mark,Rf true none,.dD 0 t.length (j::seen),.list true true 3 [w],.list true false 3 [w]]⟩) hX gX (by kernel_rfl) (.c (.dB [.agg v.ps,.int .i64 w]) [] (Ci tX) (.fr [0,1,2,3,4] (asL (n:=n) t w) (.b aiJ (.r rfl))))) ⟨.inl rfl,Hq,FP,[.flag 7,.gc [5,7]],?_⟩⟩;rw[EH]
   kernel_rfl
  |cons x l=>
   have a1:(x::l).length+[w].length<=ah:=by rw[a3J];unfold ah;omega
   refine⟨by kernel_rfl,aK.step (e:=.norm) (by kernel_rfl) (Ag (ps1:=⟨[(0,.val (.lJ 4)),(6,.val (.iter 5)),(14,xl false)],[],H3 t (.own 8)++[.mark,Rf true none,.dD 0 t.length (j::seen),.gone,.list true true 3 [w],.list false false 3 (x::l++[w])]⟩) hX gX (by kernel_rfl) (.c (.dB [.agg v.ps,.int .i64 w]) [] (Ci tX) (.fr [0,1,2,3,4,6] (asM (n:=n) t (x::l) w a1) (.b aiJ (.r rfl))))) ⟨.inl rfl,Hq,FP,[.gc [5,8]],?_⟩⟩;rw[EH]
   kernel_rfl
end
open Go Tw Pv bQ
def tV(t:List (V×Int)):LI0:=zU (fun n=>[n]) (t.map fun e:V×Int=>e.2)
abbrev Sz(n:Int):TV:=.int .i64 n
abbrev Nu(n:Int):PV aH:=.int .i64 n
theorem a5n{t}{l:LI0}(h:l.Perm (t.map fun e:V×Int=>e.2)):TB (l.map Sz)=(tV t).map Sz:=by unfold TB;rw[Uc (g:=Sz) (key:=fun n=>[n]) (key2:=Tv) (fun _=>rfl),Gj h fun a _ b _ e=>by simpa using e];rfl
theorem LG:∀l:LI0,Vl (l.map Nu)=some (l.map Sz)
 | []=>rfl
 |a::l=>by
  have:=LG l;show(match qH (Nu a),Vl (l.map Nu)with
   |some a,some b=>some (a::b)
   |_,_=>none)=_
  rw[this];rfl
section
variable{n:Nat}{t:List (V×Int)}
set_option maxRecDepth 20000 in
theorem an0(h:LD t)(ht:t≠[]):abh X0 Qp (vY Qp T (iD (n+1)) LL) vF [.lJ 4] (H3 t (.nil .aP)++[.mark,Rf true none]) fun v H1=>∃(l:LI0) (seen:List Nat),l.Perm (t.map fun e:V×Int=>e.2)/\H1=H3 t (.own 6)++[.mark,Rf true none,.dD 0 t.length seen,.list false false 3 l]:=by
 refine a2D (t:=Ue Qp 139) hX (by kernel_rfl) ?_;have e0:(Ue Qp 139).body=.seq (fA ahG) (.block 0 (.loop lpW)):=by kernel_rfl
 rw[e0];have x0:dQ X0 Qp T (iD (n+1)) LL 139 false (Di Qp 139) 5 (fA ahG) ⟨lX X0 0 [.lJ 4,.ptr 1 0 1],[],H3 t (.nil .aP)++[.mark,Rf true none]⟩ .norm ⟨[(0,.val (.lJ 4)),(6,.val (.iter 5))],[],H3 t (.nil .aP)++[.mark,Rf true none,.dD 0 (kV.im t).length []]⟩:=Ag hX gX (an:=.n) (by kernel_rfl) (.r rfl);rw[kV.qA t]at x0;refine aK.Ce (by kernel_rfl) x0 ((acn (n:=n) h).mono fun e s h1=>?_);obtain⟨rfl,l,seen,h2,rfl⟩:=h1;cases l with
 |nil=>
  have:=h2.length_eq;rw[a4P]at this;exact absurd (a4o this.symm) ht
 |cons x l=>exact⟨.inl rfl,[],by kernel_rfl,x::l,seen,h2,rfl⟩
set_option maxRecDepth 20000 in
theorem aco(h:LD t)(ht:t≠[]):jd (n+2) (.fn 138 [] []) [.nil .aP,vF] [.iT (kV.im t),.aG [.map 0]] (.aP 2 0 t.length t.length 1 false) [.iT (kV.im t),.aG [.map 0],.nP ((tV t).map Nu)]:=by
 have e0:(Ue Qp 138).body=.seq (fA a9l) (.seq (.seq (fA (fA (fB a9l))) (.block 0 (.rangeFunc (.tmp 6) #[7] (xU Qp 138) (BJ Qp 138)))) (fB (fB a9l))):=by kernel_rfl
 have x0:dQ X0 Qp T (iD (n+1)) LL 138 false (Di Qp 138) 2 (fA a9l) ⟨lX X0 0 [.nil .aP,vF],[],[.iT (kV.im t),.aG [.map 0]]⟩ .norm ⟨[(1,.val vF),(2,.val (.ptr 2 0 1)),(4,.val (.nil .aP))],[],H3 t (.nil .aP)⟩:=Ag hX gX (an:=.n) (by kernel_rfl) (.r rfl);have x1:dQ X0 Qp T (iD (n+1)) LL 138 false (Di Qp 138) 2 (fA (fA (fB a9l))) ⟨[(1,.val vF),(2,.val (.ptr 2 0 1)),(4,.val (.nil .aP))],[],H3 t (.nil .aP)⟩ .norm ⟨a9m,[],H3 t (.nil .aP)⟩:=Ag hX gX (an:=.n) (by kernel_rfl) (.r rfl);have:=Ei (X:=X0) (P:=Qp) (T:=T) (L:=LL) (n:=n+1) (f:=138) (first:=[]) (cap:=[]) (xs:=[.nil .aP,vF]) (H:=[.iT (kV.im t),.aG [.map 0]]) (N:=[.nP ((tV t).map Nu)]) (v:=.aP 2 0 t.length t.length 1 false) (tv:=fun k=>.aP k 0 t.length t.length 1 false) (tN:=[.nP ((tV t).map Sz)]) (t:=Ue Qp 138) hX (by kernel_rfl) (by kernel_rfl) (by kernel_rfl) rfl (fun A m h hr=>abl (H:=[.iT (kV.im t),.aG [.map 0]]) (n:=t.length) (sz:=1) (LG _) hr) ?_
 .exact this
 rw[e0];refine aK.Ce (by kernel_rfl) x0 (aK.seq (R:=fun e s=>e=.norm/\∃(l:LI0) (seen:List Nat),l.Perm (t.map fun e:V×Int=>e.2)/\s=⟨a9m,[],H3 t (.own 6)++[.mark,Rf false (some .skip),.dD 0 t.length seen,.list false false 3 l]⟩) (aK.Ce (by kernel_rfl) x1 (aK.block ?_)) (fun s hs=>?_) (fun i s h=>by cases h.1) (fun s h=>by cases h.1))
 .refine aK.range (f1:=139) (a1:=[]) (b1:=[.ptr 1 0 1]) (K:=fun v H1=>∃(l:LI0) (seen:List Nat),l.Perm (t.map fun e:V×Int=>e.2)/\H1=H3 t (.own 6)++[.mark,Rf true none,.dD 0 t.length seen,.list false false 3 l]) hX rfl (by kernel_rfl) (by kernel_rfl) (an0 (n:=n) h ht) (fun v H1 hk=>?_);obtain⟨l,seen,h1,rfl⟩:=hk;exact⟨true,_,_,_,_,_,_,none,.norm,rfl,rfl,rfl,l,seen,h1,rfl⟩
 obtain⟨_,l,seen,h1,rfl⟩:=hs;have hl:l≠[]:=fun e=>by subst e;have:=h1.length_eq;rw[a4P]at this;exact absurd (a4o this.symm) ht
 have hlen:t.length=l.length:=by rw[h1.length_eq,a4P]
 refine aK.step (by kernel_rfl) (Ag (e:=.ret) (ps1:=⟨[(4,.val (.own 6))],[],H3 t (.own 6)++[.mark,Rf false (some .skip),.dD 0 t.length seen,.list false false 3 l]⟩) hX gX (an:=.n) (by kernel_rfl) (.r rfl)) ⟨.inr rfl,[.own 6],by kernel_rfl,?_⟩;rw[<-a5n h1,hlen];exact a7Q hX (i:=6) (ty:=3) (l:=l) rfl hl (Fj _) MS
end
def Rh:LI0->Int
 | []=>0
 |x::l=>l.foldl max x
theorem Ze:∀(l:LI0) (x),(l.foldl max x=x\/l.foldl max x∈l)/\x<=l.foldl max x/\∀y∈l,y<=l.foldl max x
 | [],x=>⟨.inl rfl,aa0 _,fun y hy=>by cases hy⟩
 |a::l,x=>by
  obtain⟨h1,h2,h3⟩:=Ze l (max x a);rw[adE];have hm:max x a=x\/max x a=a:=by omega
  refine⟨?_,by omega,fun y hy=>?_⟩
  .rcases h1 with h1|h1
   .rcases hm with e|e
    .exact .inl (h1.trans e)
    rw[h1,e];exact .inr (by simp)
   exact .inr (by simp[h1])
  rcases a1B.1 hy with rfl|hy
  .omega
  exact h3 y hy
theorem Zf{l}(h:l≠[]):Rh l∈l/\∀y∈l,y<=Rh l:=by
 cases l with
 |nil=>exact absurd rfl h
 |cons x l=>
  obtain⟨h1,h2,h3⟩:=Ze l x;refine⟨?_,fun y hy=>?_⟩
  .rcases h1 with h1|h1
   .show l.foldl max x∈_;rw[h1];simp
   exact a3A _ h1
  rcases a1B.1 hy with rfl|hy
  .exact h2
  exact h3 y hy
theorem a5o{l l'}(h:l.Perm l')(hl:l≠[]):Rh l=Rh l':=by
 have hl':l'≠[]:=fun e=>by subst e;exact hl h.eq_nil
 obtain⟨a1,a2⟩:=Zf hl;obtain⟨b1,b2⟩:=Zf hl';have:=a2 _ (h.mem_iff.2 b1);have:=b2 _ (h.mem_iff.1 a1);omega
open Go Tw Pv bQ
abbrev ApM(n:Nat):dM:=lu Qp Tm (2^24) n
theorem okM{n}:jX X0 Qp (ApM n) ab6:=fun _ _ _ _ _ h _=>by cases h
def gMx(l:LI0)(k:Nat)(m:Int):Int:=if l.getD (i64.wrap ((k:Int)+1)).toNat 0>m then l.getD (i64.wrap ((k:Int)+1)).toNat 0 else m
theorem a3r{x r}(h:r.length<=ah):∀k,k<=r.length->aQ (gMx (x::r)) k 0 x=(r.take k).foldl max x
 | 0,_=>rfl
 |k+1,hk=>by
  rw[qO,a3r h k (by omega)];unfold gMx;rw[a3C,yV (by omega),a5M];have e:(x::r).getD (k+1) 0=r[k]'(by omega):=by simp[List.getD,a0A (show k<r.length by omega)]
  rw[e,a6b (by omega),List.foldl_append];simp only[adE,List.foldl_nil];omega
abbrev wMx(l:LI0)(m i:Int)(x:List (Nat×PE aH)):bJ aH:=⟨[(0,xL 3 l),(3,xi m),(4,xi (i64.wrap (i+1)))]++x,[],[]⟩
set_option maxRecDepth 20000 in
theorem an5{l:LI0}(h0:l≠[])(hl:l.length<=2000):cZ X0 Qp (ApM 2) (.fn 94 [] []) [.dF 3 l false] [] (.int .i64 (Rh l)) []:=by
 cases l with
 |nil=>exact absurd rfl h0
 |cons x r=>
  have hr:r.length<=ah:=by have:(x::r).length=r.length+1:=rfl;unfold ah;omega
  have lp:dQ X0 Qp Tm (ApM 1) LL 94 false (Di Qp 94) 0 (.loop (U0 Qp 94 0)) ⟨[(0,xL 3 (x::r)),(3,xi x),(4,xi 1)],[],[]⟩ (.exit 0) (wMx (x::r) (aQ (gMx (x::r)) r.length 0 x) r.length [(15,xl false)]):=by
   refine MI (X:=X0) (N:=r.length) (g:=gMx (x::r)) (s0:=x) (st:=fun i m=>wMx (x::r) m i []) (fin:=fun m=>wMx (x::r) m r.length [(15,xl false)]) (fun _ _=>True) (by kernel_rfl) hr Ru trivial (fun _ _ _ _=>trivial) (fun k m hk _ n e p g9=>?_) (fun m _=>?_)
   .have e1:i64.wrap ((k:Int)+1)=((k+1:Nat):Int):=yV (by omega);have t1:decide (i64.wrap ((k:Int)+1)<((x::r).length:Int))=true:=by rw[e1,a1z,a4p];omega
    have i1:fZ (i64.wrap ((k:Int)+1)) (x::r).length:=by rw[e1];exact aF (by rw[a4p];omega)
    exact round hX okM (by kernel_rfl) (.b t1 (.o i1 (.go g9)))
   have e1:i64.wrap ((r.length:Int)+1)=((r.length+1:Nat):Int):=yV (by omega);have t1:decide (i64.wrap ((r.length:Int)+1)<((x::r).length:Int))=false:=by rw[e1,a3k,a4p];omega
   exact round hX okM (by kernel_rfl) (.b t1 .ex)
  have e:aQ (gMx (x::r)) r.length 0 x=Rh (x::r):=by rw[a3r hr _ (a1j _),abE];rfl
  rw[e]at lp;have hc:((x::r).length:Int)=r.length+1:=by simp
  have t0:decide (((x::r).length:Int)<1)=false:=by rw[a3k,hc];omega
  have i0:fZ 0 (x::r).length:=⟨by decide,by rw[hc];omega⟩;exact kH hX okM (first:=[]) (cap:=[]) (by kernel_rfl) (.b t0 (.o i0 (.w lp .er)))
theorem acp(n x h):lu Qp T LL (n+1) (.fn 94 [] []) [x] h=a4s 94 (ApM 2) (.fn 94 [] []) [x] h:=rfl
theorem an6{n vs}(h0:vs≠[])(hl:vs.length<=2000):jd (n+1) (.fn 94 [] []) [.aP 0 0 vs.length vs.length 1 false] [.nP (vs.map Nu)] (.int .i64 (Rh vs)) [.nP (vs.map Nu)]:=by
 intro A m h tf rJ hr hf hx;obtain⟨x,r,rfl,h1,h2⟩:=hx.inv;have:=h2.inv0;subst this;have htf:=hf.Q9;subst htf;obtain⟨mb,g1,g2⟩:=hr.at_ 0 _ rfl;cases mb with
 |gW c=>
  obtain⟨ts,g3,g4⟩:=g2;have g5:=g4.symm.trans (LG vs);cases g5;have hx2:x=.aP c 0 vs.length vs.length 1 false:=by
   cases h1 with
   |aP e=>rw[g1]at e;cases e;rfl
   |gone hi e _=>simp only[bF,a08]at hi;subst hi;rw[g1]at e;cases e
  subst hx2;have DY:c∈bn m:=bg g1 rfl;have aS:=(a0u.1 g3).1;show ∃w h1 ws m1,lu Qp T LL (n+1) _ _ h=_/\_;rw[acp,abg (k:=.i64) (n:=Rh vs)]
  .exact⟨_,h,[],m,rfl,hr,.int _ _,.refl,.refl,fun b hb=>by cases hb⟩
  .refine⟨⟨_,_,rfl⟩,rfl,fun h' hu=>?_⟩;obtain⟨cs',p1,p2⟩:=hu.2 c _ g3;obtain⟨l,hp,rfl⟩:∃l:LI0,l.Perm vs/\cs'=l.map Sz:=by
    have hq:∀y∈cs',∃i:Int,y=Sz i:=fun y hy=>by obtain⟨i,_,rfl⟩:=a1u.1 (p1.mem_iff.1 hy);exact⟨i,rfl⟩
    have hun:∀L:List TV,(∀y∈L,∃i:Int,y=Sz i)->∃l:LI0,L=l.map Sz:=by
     intro L
     induction L with
     |nil=>exact fun _=>⟨[],rfl⟩
     |cons y L ih=>
      intro hL;obtain⟨i,rfl⟩:=hL y (by simp);obtain⟨l,rfl⟩:=ih fun z hz=>hL z (by simp[hz]);exact⟨i::l,rfl⟩
    obtain⟨l,rfl⟩:=hun cs' hq;refine⟨l,?_,rfl⟩;have:=p1.map fun y=>match y with|.int _ n=>n|_=>0
    rw[a8G,a8G]at this;simpa[Function.comp_def]using this
   have hlen:l.length=vs.length:=hp.length_eq;have qW:l≠[]:=fun e=>by subst e;exact h0 (a4o hlen.symm)
   have an7:h'.length=h.length:=by
    have e:=fun b=>U8 hu b;refine Nat.le_antisymm (adk fun hb=>?_) (adk fun hb=>?_)
    .have:=e h.length;rw[a0A hb,a4w (a1j _)]at this;cases this
    have:=e h'.length;rw[a0A hb,a4w (a1j _)]at this;cases this
   have hm:=an5 qW (by omega);have hvr:Pv.VR X0 Qp (AA A []) [] h' (.dF 3 l false) (.aP c 0 vs.length vs.length 1 false):=by
    rw[<-hlen];refine Pv.VR.dF (cs:=l.map Sz) ⟨hr.DX c DY,by simp[bn]⟩ (by simp only[aU,p2]) (fun _=>by simp[ni,p2]) MS (by decide) (by simp;exact a1j _) (a1j _) (by intro h;cases h) ?_ ?_
    .intro j a _;rfl
    have hrw:=Ul (A:=AA A []) (m:=[]) (h:=h') l;intro j a i c v a1 a2 a3;exact hrw.2.2 j a i c v a1 a2 a3
   obtain⟨w,h2,ws,m1,c1,c2,c3,c4,c5,c6⟩:=hm A [] h' (.fn 94 [] []) [.aP c 0 vs.length vs.length 1 false] ⟨rfl,fun i b hi=>by simp at hi,by simp[bn],fun b hb=>hr.up b (by rw[<-an7];exact hb),fun b hb=>by simp[bn]at hb⟩ (.fn rfl (fun i x y hi=>by simp at hi) rfl (fun i x y hi=>by simp at hi)) (.cons hvr .nil)
   .have hw:w=.int .i64 (Rh vs):=by rw[<-a5o hp qW];exact c3.a2x
    subst hw;have ZH:ws=[]:=a7n.2 fun b hb=>by have:=c6 b hb;simp[bn]at this
    subst ZH;exact⟨h2,c1⟩
  obtain⟨h',hu⟩:∃h',Qh h h':=⟨_,Yg h (fun b=>match h[b]? with|some (.nP cs)=>cs|_=>[]) fun b cs e=>by rw[e]⟩;exact⟨h',hu⟩
 |_=>exact g2.elim
open Go Tw Pv bQ
theorem an8{n}(hO:Ok n rC){k}(hk:0<=k/\k<=6):jd (n+1) (.fn 124 [] []) [.own 0,.int .i64 k] [.list true true 3 ([-1]:LI0)] (.own 1) [.list true true 3 ([-1]:LI0),.list true true 3 (List.replicate k.toNat (-1):LI0)]:=by
 rcases a8U hk with rfl|rfl|rfl|rfl|rfl|rfl|rfl
 .exact fH hO (first:=[]) (cap:=[]) (.b (rfl:decide ((0:Int)<0)=false) (.o aiG (.o aj1 (.b (rfl:decide ((0:Int)>0)=false) (.b (rfl:decide ((0:Int)>9223372036854775807)=false) (.o aiN (.o aiD (.o (show(0:Int)<=(ah:Int) by decide) (.m 8 le8 (.b (rfl:decide ((0:Int)<0)=false) .er))))))))))
 .exact fH hO (first:=[]) (cap:=[]) (.b (rfl:decide ((1:Int)<0)=false) (.o aiG (.o aj2 (.b (rfl:decide ((0:Int)>0)=false) (.b (rfl:decide ((1:Int)>9223372036854775807)=false) (.o aiG (.o aiE (.o (show(1:Int)<=(ah:Int) by decide) (.m 8 le8 (.b (rfl:decide ((1:Int)<1)=false) .er))))))))))
 .exact fH hO (first:=[]) (cap:=[]) (.b (rfl:decide ((2:Int)<0)=false) (.o aiG (.o aj6 (.b (rfl:decide ((0:Int)>0)=false) (.b (rfl:decide ((2:Int)>9223372036854775807)=false) (.o (rfl:(2:Int)=2) (.o aiF (.o (show(2:Int)<=(ah:Int) by decide) (.m 8 le8 (.b (rfl:decide ((1:Int)<2)=true) (.o aiE (.o aiO (.o aj3 (.o aiD (.o aiE (.o aiO (.b (rfl:decide ((2:Int)<2)=false) .er)))))))))))))))))
 .exact fH hO (first:=[]) (cap:=[]) (.b (rfl:decide ((3:Int)<0)=false) (.o aiG (.o aj8 (.b (rfl:decide ((0:Int)>0)=false) (.b (rfl:decide ((3:Int)>9223372036854775807)=false) (.o (rfl:(3:Int)=3) (.o aj7 (.o (show(3:Int)<=(ah:Int) by decide) (.m 8 le8 (.b (rfl:decide ((1:Int)<3)=true) (.o aiE (.o aiP (.o aiQ (.o aiD (.o aiE (.o aiP (.b (rfl:decide ((2:Int)<3)=true) (.o aiF (.o aiR (.o aiQ (.o aiD (.o aiF (.o aiR (.b (rfl:decide ((3:Int)<3)=false) .er))))))))))))))))))))))))
 .exact fH hO (first:=[]) (cap:=[]) (.b (rfl:decide ((4:Int)<0)=false) (.o aiG (.o aj9 (.b (rfl:decide ((0:Int)>0)=false) (.b (rfl:decide ((4:Int)>9223372036854775807)=false) (.o (rfl:(4:Int)=4) (.o aiI (.o (show(4:Int)<=(ah:Int) by decide) (.m 8 le8 (.b (rfl:decide ((1:Int)<4)=true) (.o aiE (.o aiS (.o aiT (.o aiD (.o aiE (.o aiS (.b (rfl:decide ((2:Int)<4)=true) (.o aiF (.o aiU (.o aiT (.o aiD (.o aiF (.o aiU (.b (rfl:decide ((4:Int)<4)=false) .er))))))))))))))))))))))))
 .exact fH hO (first:=[]) (cap:=[]) (.b (rfl:decide ((5:Int)<0)=false) (.o aiG (.o ajb (.b (rfl:decide ((0:Int)>0)=false) (.b (rfl:decide ((5:Int)>9223372036854775807)=false) (.o (rfl:(5:Int)=5) (.o aja (.o (show(5:Int)<=(ah:Int) by decide) (.m 8 le8 (.b (rfl:decide ((1:Int)<5)=true) (.o aiE (.o aiV (.o aiL (.o aiD (.o aiE (.o aiV (.b (rfl:decide ((2:Int)<5)=true) (.o aiF (.o aiW (.o aiL (.o aiD (.o aiF (.o aiW (.b (rfl:decide ((4:Int)<5)=true) (.o aiI (.o aiX (.o aiL (.o aiD (.o aiI (.o aiX (.b (rfl:decide ((5:Int)<5)=false) .er)))))))))))))))))))))))))))))))
 exact fH hO (first:=[]) (cap:=[]) (.b (rfl:decide ((6:Int)<0)=false) (.o aiG (.o ajd (.b (rfl:decide ((0:Int)>0)=false) (.b (rfl:decide ((6:Int)>9223372036854775807)=false) (.o (rfl:(6:Int)=6) (.o ajc (.o (show(6:Int)<=(ah:Int) by decide) (.m 8 le8 (.b (rfl:decide ((1:Int)<6)=true) (.o aiE (.o aiY (.o aiM (.o aiD (.o aiE (.o aiY (.b (rfl:decide ((2:Int)<6)=true) (.o aiF (.o aiZ (.o aiM (.o aiD (.o aiF (.o aiZ (.b (rfl:decide ((4:Int)<6)=true) (.o aiI (.o aj0 (.o aiM (.o aiD (.o aiI (.o aj0 (.b (rfl:decide ((6:Int)<6)=false) .er)))))))))))))))))))))))))))))))
def dW(D:List Dg):Jb:=⟨(D.getD 0 gK).aj,(D.getD 0 gK).aB,D,List.replicate (D.getD 0 gK).aj.length (-1)⟩
theorem an9{n f:Nat}(hO:Ok (n+1) rC)(D9:Ok n rC){D:List Dg}(h0:0<D.length)(h6:(D.getD 0 gK).aj.length<=6){k ex}:jd (n+2) (.fn 78 [] []) [.fn f [] [],.own 0] [.list k ex 26 D] (.agg [lI (dW D).s,lI (dW D).o,.own 0,.own 1,.fn f [] []]) [.list k ex 26 D,.list true true 3 (dW D).g]:=by have i0:fZ 0 D.length:=aF h0;have hs:=an8 D9 (k:=((D.getD 0 gK).aj.length:Int)) ⟨by omega,by omega⟩;rw[a5M]at hs;have h:jd (n+2) (.fn 78 [] []) [.fn f [] [],.own 0] [.list k ex 26 D] (.agg [lI (dW D).s,lI (dW D).o,.own 0,.own 2,.fn f [] []]) [.list k ex 26 D,.list true true 3 ([-1]:LI0),.list true true 3 (dW D).g]:=fH hO (first:=[]) (cap:=[]) (.o i0 (.o i0 (.o i0 (.fr [1] hs .er))));exact cZ.gs hX h [.gc [2]] rfl
theorem ana{n f:Nat}(u)(hO:Ok (n+1) rC)(D9:Ok n rC){D:List Dg}(h0:0<D.length)(h6:(D.getD 0 gK).aj.length<=6){k ex}:jd (n+2) (.fn 78 [] []) [.fn f [] [.ptr 1 0 1],.own 0] [.list k ex 26 D,.aG [.int .u8 u]] (.agg [lI (dW D).s,lI (dW D).o,.own 0,.own 2,.fn f [] [.ptr 1 0 1]]) [.list k ex 26 D,.aG [.int .u8 u],.list true true 3 (dW D).g]:=by have i0:fZ 0 D.length:=aF h0;have hs:=an8 D9 (k:=((D.getD 0 gK).aj.length:Int)) ⟨by omega,by omega⟩;rw[a5M]at hs;have h:jd (n+2) (.fn 78 [] []) [.fn f [] [.ptr 1 0 1],.own 0] [.list k ex 26 D,.aG [.int .u8 u]] (.agg [lI (dW D).s,lI (dW D).o,.own 0,.own 3,.fn f [] [.ptr 1 0 1]]) [.list k ex 26 D,.aG [.int .u8 u],.list true true 3 ([-1]:LI0),.list true true 3 (dW D).g]:=fH hO (first:=[]) (cap:=[]) (.o i0 (.o i0 (.o i0 (.fr [2] hs .er))));exact cZ.gs hX h [.gc [3]] rfl
theorem asP{n f:Nat}{J:Jb}{d k ex k2 Gm}(h:jd n (.fn 80 [] []) [.agg (J.ps (.fn f [] []))] [] (dA.put d) []):jd n (.fn 80 [] []) [.agg [lI J.s,lI J.o,.own 0,.own 1,.fn f [] []]] [.list k ex 26 J.D,.list k2 Gm 3 J.g] (dA.put d) [.gone,.gone]:=by have h1:=cZ.frame hX (ks:=[]) (H':=[.gone,.gone]) (Hp:=[]) (Rt:=[]) (v':=dA.put d) (fv':=.fn 80 [] []) (xs':=[.agg (J.ps (.fn f [] []))]) h (by decide) rfl rfl rfl rfl rfl rfl rfl;exact cZ.fz hX (H:=[.list k ex 26 J.D,.list k2 Gm 3 J.g]) (cs:=[lI J.s,lI J.o,.own 0,.own 1]) (rest:=[.fn f [] []]) [0,1] h1 rfl (fun i hi=>by simpa[lC.kU,lC]using hi)
theorem asQ{n f:Nat}{u}{J:Jb}{d k ex k2 Gm}(h:jd n (.fn 80 [] []) [.agg (J.ps (.fn f [] [.ptr 0 0 1]))] [.aG [.int .u8 u]] (dA.put d) [.aG [.int .u8 u]]):jd n (.fn 80 [] []) [.agg [lI J.s,lI J.o,.own 0,.own 2,.fn f [] [.ptr 1 0 1]]] [.list k ex 26 J.D,.aG [.int .u8 u],.list k2 Gm 3 J.g] (dA.put d) [.gone,.aG [.int .u8 u],.gone]:=by have h1:=cZ.frame hX (ks:=[1]) (H':=[.gone,.aG [.int .u8 u],.gone]) (Hp:=[.aG [.int .u8 u]]) (Rt:=[.aG [.int .u8 u]]) (v':=dA.put d) (fv':=.fn 80 [] []) (xs':=[.agg (J.ps (.fn f [] [.ptr 1 0 1]))]) h (by decide) rfl rfl rfl rfl rfl rfl rfl;exact cZ.fz hX (H:=[.list k ex 26 J.D,.aG [.int .u8 u],.list k2 Gm 3 J.g]) (cs:=[lI J.s,lI J.o,.own 0,.own 2]) (rest:=[.fn f [] [.ptr 1 0 1]]) [0,2] h1 rfl (fun i hi=>by simpa[lC.kU,lC]using hi)
open Go Tw Pv bQ
structure DgG(d:Dg):Prop where
 t:CV d
 n:d.au.length<=6000
 ord:jC d.aj.length d.aB=true
 rk:∀i,i<d.au.length->∀k,k<(fK d i).aA.length->d.aB.idxOf (fK d i).var+1<=FN d.aB d.au ((fK d i).aA.getD k 0)
 two:∀i,i<d.au.length->2<=(fK d i).aA.length
 c:∀v∈d.aO,HY v
 dd:DgD d
 l0:aW d=0
theorem ahH{d}(hp:nT d)(h:gZ d=0):DgG d:=by
 have h0:aW d=0/\qG d=true:=by
  unfold gZ at h;split at h
  .rename_i c;rw[h]at c;cases c
  rename_i c;split at h
  .cases h
  rename_i c2;exact⟨by simpa using c,by simpa using c2⟩
 have ho:d.aB.length<=ah:=by have:=hp.o;unfold ah;omega
 have he:d.aO.length<=ah:=by have:=hp.e;omega
 obtain⟨t,n⟩:=jy ho he (by rw[h0.1];rfl);obtain⟨D,_⟩:=YN.1 h0.2;have hf:aY d.aj d.aB=0/\mV d=true:=by
  have hl:=h0.1;unfold aW at hl;split at hl
  .rename_i c;rw[hl]at c;cases c
  rename_i c;split at hl
  .cases hl
  split at hl
  .cases hl
  rename_i _ c2;exact⟨by simpa using c,by simpa using c2⟩
 obtain⟨bG,ord⟩:=iL.1 hf.1;refine⟨t,n,ord,YU h0.1,fun i hi=>?_,fun v hv=>?_,D,h0.1⟩
 .have:=D.flat i hi;rcases hk:(fK d i).aA with _|⟨a,_|⟨b,r⟩⟩
  .rw[hk]at this;simp at this
  .rw[hk]at this;simp at this
  simp
 refine⟨?_,hp.r.fault v hv⟩;have hl:=hf.2;unfold mV at hl;obtain⟨k,hk,e⟩:=a90 hv;have hs:jO (aZ (cLe d) d.aO.length)=true:=by revert hl;cases jO (aZ (cLe d) d.aO.length)<;>simp
 have:=cO.1 hs k hk;unfold cLe at this;rw[a2J,a0A hk]at this;simpa[e]using this
theorem WQ{l}(hp:∀d∈l,nT d)(h:bf l=0):∀d∈l,DgG d/\d.aj=(l.getD 0 gK).aj/\d.aB=(l.getD 0 gK).aB:=by
 intro d hd;unfold bf at h;split at h
 .rename_i c;split at h
  .cases h
  rename_i c2;simp only[aeP,aaX,a5z]at c2;have e:=c2 d hd;unfold o7 at e;split at e
  .rename_i e1;refine⟨ahH (hp d hd) ?_,by simpa using e1,by simpa using e⟩;obtain⟨k,hk,e9⟩:=a90 hd;have:=cO.1 c k hk;unfold Ux at this;rw[a2J,a0A hk,a5K,e9]at this;have h9:=hp d hd;rw[Ew h9.r h9.s (by have:=h9.o;unfold ah;omega) h9.e]at this;simpa using this
  cases e
 rename_i c;obtain⟨j,_,e,_,e2⟩:=wM (by simpa using c);rw[e2]at h;unfold Ux at e;have h':(tK (l.getD j gK)).2=0:=h;rw[h']at e;cases e
theorem aeV{D}(h3:D.length<=3)(h0:0<D.length)(h1:∀d∈D,DgG d/\d.aj=(D.getD 0 gK).aj/\d.aB=(D.getD 0 gK).aB):kQ (dW D):=by
 have SK:D.getD 0 gK∈D:=dw h0;obtain⟨g0,_,_⟩:=h1 _ SK;refine⟨h3,g0.t.bG,g0.ord,fun k hk=>?_,a6c,fun c hc hg=>?_⟩
 .obtain⟨g,e1,e2⟩:=h1 (lU D k) (dw hk);exact⟨g.t,g.n,e1,e2,g.rk,g.two⟩
 exfalso;revert hg;show ¬(0<=(List.replicate (D.getD 0 gK).aj.length (-1:Int)).getD c.toNat 0);have:=hc.1;have:=hc.2;rw[a2J,afy,a15 (show c.toNat<(D.getD 0 gK).aj.length by have:c<((D.getD 0 gK).aj.length:Int):=hc.2;omega)];decide
theorem yh{D}(h3:D.length<=3)(h0:0<D.length)(hp:∀d∈D,nT d)(h:bf D=0):kQ (dW D):=aeV h3 h0 (WQ hp h)
open Go Tw Pv bQ
theorem Ri{J}(hJ:kQ J)(hc:∀k,k<J.D.length->∀v∈(lU J.D k).aO,HY v){op}(h:∀l,l.length=J.D.length->(∀v∈l,HY v)->HY (op l)):ru J op:=fun t hd=>h _ (by simp[aX]) fun v hv=>by
 unfold aX at hv;obtain⟨k,hk,rfl⟩:=a1u.1 hv;have hk:=a5y.1 hk;have h3:(jo (t.get k)).toNat<(lU J.D k).aO.length:=by obtain⟨h1,h2⟩:=(Lj hJ hd hk).2;omega
 exact hc k hk _ (dw h3)
theorem Jb.inD{D}(hp:∀d∈D,nT d)(h:bf D=0):∀k,k<D.length->∀v∈(lU D k).aO,HY v:=fun k hk=>(WQ hp h _ (dw hk)).1.c
theorem Ht{n f:Nat}(h2:2<=n)(hO:∀m,n-2<=m->Ok m rC){D:List Dg}(h0:0<D.length)(h6:(D.getD 0 gK).aj.length<=6){k ex}:jd n (.fn 78 [] []) [.fn f [] [],.own 0] [.list k ex 26 D] (.agg [lI (dW D).s,lI (dW D).o,.own 0,.own 1,.fn f [] []]) [.list k ex 26 D,.list true true 3 (dW D).g]:=by
 have h:=an9 (n:=n-2) (f:=f) (hO _ (by omega)) (hO _ (by omega)) h0 h6 (k:=k) (ex:=ex)
 rwa [show n-2+2=n by omega]at h
theorem ahI{n f:Nat}(u)(h2:2<=n)(hO:∀m,n-2<=m->Ok m rC){D:List Dg}(h0:0<D.length)(h6:(D.getD 0 gK).aj.length<=6){k ex}:jd n (.fn 78 [] []) [.fn f [] [.ptr 1 0 1],.own 0] [.list k ex 26 D,.aG [.int .u8 u]] (.agg [lI (dW D).s,lI (dW D).o,.own 0,.own 2,.fn f [] [.ptr 1 0 1]]) [.list k ex 26 D,.aG [.int .u8 u],.list true true 3 (dW D).g]:=by
 have h:=ana (n:=n-2) (f:=f) u (hO _ (by omega)) (hO _ (by omega)) h0 h6 (k:=k) (ex:=ex)
 rwa [show n-2+2=n by omega]at h
theorem a3s{n f:Nat}{J}(hJ:kQ J){op}(jK:ru J op)(h2:20<=n)(hO:∀m,n-20<=m->Ok m Gl)(hs:∀m,n-20<=m->∀l,l.length=J.D.length->cZ X0 Qp (iD m) (.fn f [] []) [lV l] [] (.agg (op l).ps) []){k ex k2 Gm}:jd n (.fn 80 [] []) [.agg [lI J.s,lI J.o,.own 0,.own 1,.fn f [] []]] [.list k ex 26 J.D,.list k2 Gm 3 J.g] (dA.put (Dh J op)) [.gone,.gone]:=by have h6:=(kQ.o2 hJ).2.1;have h7:=hJ.bG.len;have h:=ahv (N:=n-20) hJ jK hs hO (m:=n-1) (by omega);rw[show n-1+1=n by omega]at h;exact asP h
theorem anc{n f:Nat}(u){J}(hJ:kQ J){op}(jK:ru J op)(h2:20<=n)(hO:∀m,n-20<=m->Ok m Gl)(hs:∀m,n-20<=m->∀l,l.length=J.D.length->cZ X0 Qp (iD m) (.fn f [] [.ptr 0 0 1]) [lV l] [.aG [.int .u8 u]] (.agg (op l).ps) [.aG [.int .u8 u]]){k ex k2 Gm}:jd n (.fn 80 [] []) [.agg [lI J.s,lI J.o,.own 0,.own 2,.fn f [] [.ptr 1 0 1]]] [.list k ex 26 J.D,.aG [.int .u8 u],.list k2 Gm 3 J.g] (dA.put (Dh J op)) [.gone,.aG [.int .u8 u],.gone]:=by have h6:=(kQ.o2 hJ).2.1;have h7:=hJ.bG.len;have h:=ahw (N:=n-20) u hJ jK hs hO (m:=n-1) (by omega);rw[show n-1+1=n by omega]at h;exact asQ h
abbrev Oi(a b x:Int):Bool:=if decide (x>=a)=true then decide (x<=b)else false
theorem a9n{k:Nat}{x}(h:(!(Oi 0 (i64.wrap ((k:Int)-1)) x))=false)(hk:k<=ah):fZ x k:=by
 rw[wrap_small (by unfold ah at hk;omega) (by unfold ah at hk;omega)]at h;unfold Oi at h;by_cases h1:x>=0
 .simp[h1]at h;exact⟨h1,by omega⟩
 simp[h1]at h
theorem acr{z x}(h:(!(Oi 0 (i64.wrap (z-1)) x))=false)(h0:0<=z)(h1:z<=12):0<=x/\x<z:=by
 rw[wrap_small (by omega) (by omega)]at h;unfold Oi at h;by_cases h1:x>=0
 .simp[h1]at h;exact⟨h1,by omega⟩
 simp[h1]at h
def ane(d:Dg)(c g:Int):Jb:=⟨d.aj,d.aB,[d],(dW [d]).g.set c.toNat g⟩
abbrev op0(l:List V):V:=l.getD 0 V0
theorem acs{d}(hp:nT d)(h:bf [d]=0){c g}(hc:fZ c d.aj.length)(hg:0<=g/\g<d.aj.getD c.toNat 0):kQ (ane d c g):=by
 have hJ:=yh (D:=[d]) (by simp) (by simp) (fun x hx=>by rw[a2m.1 hx];exact hp) h;refine⟨hJ.d3,hJ.bG,hJ.ord,fun k hk=>have h:=hJ.dg k hk;⟨h.t,h.n,h.s,h.o,h.rk,h.two⟩,?_,fun c2 LW h2=>?_⟩
 .show((dW [d]).g.set c.toNat g).length=_;rw[a5A];exact hJ.gl
 have hl:(dW [d]).g.length=d.aj.length:=hJ.gl;have a0:=hc.1;have a1:=hc.2;have b0:=LW.1;have b1:c2<(d.aj.length:Int):=LW.2
 change 0<=((dW [d]).g.set c.toNat g).getD c2.toNat 0 at h2
 show((dW [d]).g.set c.toNat g).getD c2.toNat 0<d.aj.getD c2.toNat 0;by_cases e:c.toNat=c2.toNat
 .rw[<-e,a2J,a1C (by omega)];exact hg.2
 rw[a2J,a1w e,<-a2J]at h2 ⊢;exact hJ.gv c2 LW h2
theorem anf{m}(hO:Ok m rC){l}(h:0<l.length):cZ X0 Qp (iD m) (.fn 79 [] []) [lV l] [] (.agg (op0 l).ps) []:=nU.YW hX (first:=[]) (cap:=[]) (hO 79 [lV l] (vA.put (op0 l)) [] [0<l.length] (by kernel_rfl) (fun p h9=>by rw[a2m.1 h9];exact h)) rfl rfl rfl rfl
def MZ(p:Dg×Int×Int):Dg×Int:=if(bf [p.1] != 0)=true then(gK,bf [p.1])else if(!(Oi 0 (i64.wrap ((p.1.aj.length:Int)-1)) p.2.1))=true then(gK,3)else if(!(Oi 0 (i64.wrap (p.1.aj.getD p.2.1.toNat 0-1)) p.2.2))=true then(gK,3)else(Dh (ane p.1 p.2.1 p.2.2) op0,0)
def ang:gU aH:=bU 20 (a3 dA iA iA) (dU (a2 dA iA)) MZ (fun p=>[nT p.1]) rC
theorem a5p:(1:Nat)<=ah:=by unfold ah;omega
theorem asU:Gd ang:=Good.U3 24 Jt Uy fun n hn hO Fe p hp=>by
 have h1:nT p.1:=hp _ gQ;have h2:∀d∈[p.1],nT d:=fun x hx=>by rw[a2m.1 hx];exact h1
 have h3:0<[p.1].length/\[p.1].length<=ah:=⟨by simp,a5p⟩;obtain⟨d,c,g⟩:=p;show nU X0 Qp _ _ _ ((dU (a2 dA iA)).put (MZ (d,c,g))) _;unfold MZ;have hJ:(bf [d] != 0)=false->kQ (dW [d]):=fun e1=>yh (D:=[d]) (by simp) (by simp) h2 (by simpa using e1);have hc:(bf [d] != 0)=false->(!(Oi 0 (i64.wrap ((d.aj.length:Int)-1)) c))=false->fZ c d.aj.length:=fun _ e2=>a9n e2 h1.s;have s1:=fun(e1:(bf [d] != 0)=false)=>Ht (n:=n) (f:=79) (by omega) (fun m hm=>hO m (by omega)) (D:=[d]) (by simp) (hJ e1).bG.len (k:=true) (ex:=true);have s2:=fun(e1:(bf [d] != 0)=false) (e2:(!(Oi 0 (i64.wrap ((d.aj.length:Int)-1)) c))=false) (e3:(!(Oi 0 (i64.wrap (d.aj.getD c.toNat 0-1)) g))=false)=>
  have hz:=(hJ e1).bG.sz (d.aj.getD c.toNat 0) (bV (show c.toNat<d.aj.length by obtain⟨a,b⟩:=hc e1 e2;omega));have hR:=acs h1 (by simpa using e1) (hc e1 e2) (acr e3 (Int.le_trans (by decide) hz.1) hz.2)
  a3s (n:=n) (f:=79) hR (Ri hR (Jb.inD h2 (show bf [d]=0 by simpa using e1)) fun l hl hv=>hv _ (dw (by rw[hl];exact Nat.zero_lt_one))) (by omega) (fun m hm=>Fe m (by omega)) (fun m hm l hl=>anf (hO m (by omega)) (by rw[hl];exact Nat.zero_lt_one)) (k:=true) (ex:=true) (k2:=true) (Gm:=true)
 have i2:=fun(e1:(bf [d] != 0)=false) (e2:(!(Oi 0 (i64.wrap ((d.aj.length:Int)-1)) c))=false)=>show fZ c (dW [d]).g.length by rw[(hJ e1).gl];exact hc e1 e2
 exact aN (hO n (by omega)) (.o h2 (.o h3 (.sh (fun _=>.rn (.dB [.agg [.nil .aP,.nil .aP,.nil .aP,.nil .aP,.int .i64 0],.int .i64 (bf [d])]) rfl) fun e1=>.sh (fun _=>.rn (.dB [.agg [.nil .aP,.nil .aP,.nil .aP,.nil .aP,.int .i64 0],.int .i64 3]) rfl) fun e2=>.o (hc e1 e2) (.sh (fun _=>.rn (.dB [.agg [.nil .aP,.nil .aP,.nil .aP,.nil .aP,.int .i64 0],.int .i64 3]) rfl) fun e3=>.fr [1] (s1 e1) (.o (i2 e1 e2) (.fr [1,2] (s2 e1 e2 e3) .rr))))))
open Go Tw Pv bQ
def Gn(k:Int):Bool:=decide (7<=k/\k<=16)
def qB(k:Int)(a b:V):V×Int:=if Gn k=true then Jf k a b else(V0,2)
theorem bne{a b:Int}(h:a≠b):(a==b)=false:=by simpa using h
def a9o:gU aH:=Y7 101 (a1 uA) (fun _=>.nil .fn) (fun _=>[]) (fun p=>[Gn p=false]) ang
theorem ahJ:Gd a9o:=asU.U2 0 fun n _ hO p hp=>by
 have h:¬(7<=p/\p<=16):=by simpa[Gn]using hp _ gQ
 exact Ac hX (hO n (by omega)) (by kernel_rfl) (.b (bne (show p≠7 by omega)) (.b (bne (show p≠8 by omega)) (.b (bne (show p≠9 by omega)) (.b (bne (show p≠10 by omega)) (.b (bne (show p≠11 by omega)) (.b (bne (show p≠12 by omega)) (.b (bne (show p≠13 by omega)) (.b (bne (show p≠14 by omega)) .er))))))))
def UE:gU aH:=bU 45 (a3 uA vA vA) (dU (a2 vA iA)) (fun p=>qB p.1 p.2.1 p.2.2) np a9o
theorem Zg:Gd UE:=ahJ.deep 1 fun n hn hO p hp=>by
 obtain⟨k,a,b⟩:=p;cases h:Gn k
 .have h9:¬(7<=k/\k<=16):=by simpa[Gn]using h
  show nU X0 Qp _ _ _ ((dU (a2 vA iA)).put (qB k a b)) _;unfold qB;rw[h];exact aN (hO n (by omega)) (.b (bne (show k≠15 by omega)) (.b (bne (show k≠16 by omega)) (.o h (.b aiH .rr))))
 .show nU X0 Qp _ _ _ ((dU (a2 vA iA)).put (qB k a b)) _;unfold qB;rw[a15 h];exact hO (n+1) (by omega) 45 ((a3 uA vA vA).put (k,a,b)) ((dU (a2 vA iA)).put (Jf k a b)) [] [7<=k/\k<=16] (by kernel_rfl) (fun q hq=>by rw[a2m.1 hq];simpa[Gn]using h)
open Go Tw Pv bQ
theorem zi{v}:HY v↔lS v:=by
 unfold HY vOk nX;constructor
 .rintro⟨h,h0⟩;split at h
  .rename_i e;split at h
   .rename_i e2;simp at e e2 h;exact⟨h0,by omega,fun _=>⟨e2,h⟩,fun hz=>absurd e hz⟩
   cases h
  split at h
  .rename_i e e2;simp at e e2 h;exact⟨h0,e2,fun hz=>absurd hz e,fun _=>h⟩
  cases h
 intro h;refine⟨?_,h.f0⟩;by_cases e:v.f=0
 .rw[a15 (by simpa using e),a15 (by simpa using(h.n e).1)];simpa using(h.n e).2
 rw[a0S (by simpa using e),a15 (by simpa using h.f1)];simpa using h.z e
theorem acu{k a b}:(Jf k a b).1=iw k a b:=by
 unfold Jf iw
 repeat' split
 all_goals rfl
theorem acv{k}(h:Gn k=true){a b}(ha:HY a)(hb:HY b):HY (qB k a b).1/\(qB k a b).1=bI k a b:=by have:=agH (by simpa[Gn]using h) (zi.1 ha) (zi.1 hb);unfold qB;rw[a15 h,acu,this.1];exact⟨zi.2 this.2,rfl⟩
theorem acw{k a b}(h:((qB k a b).2 != 0)=false):Gn k=true:=by
 unfold qB at h;cases e:Gn k
 .rw[e]at h;simp at h
 rfl
theorem Jw:HY dJ:=⟨by decide,by decide⟩
theorem a9p:HY V0:=⟨by decide,by decide⟩
abbrev acy(u:Int)(l:List V):V:=(qB u (l.getD 0 V0) (l.getD 1 V0)).1
abbrev acz(l:List V):V:=(jZ (l.getD 0 V0) (l.getD 1 V0) (l.getD 2 V0)).1
theorem anh{m u}(h1:1<=m)(hO:Ok (m-1) UE){l}(h:l.length=2):cZ X0 Qp (iD m) (.fn 112 [] [.ptr 0 0 1]) [lV l] [.aG [.int .u8 u]] (.agg (acy u l).ps) [.aG [.int .u8 u]]:=by obtain⟨m,rfl⟩:∃k,m=k+1:=⟨m-1,by omega⟩;exact fH hO (first:=[]) (cap:=[.ptr 0 0 1]) (.o (aF (by omega:0<l.length)) (.o (aF (by omega:1<l.length)) .er))
theorem asV{m}(h1:1<=m)(hO:Ok (m-1) UE){l}(h:l.length=3):cZ X0 Qp (iD m) (.fn 113 [] []) [lV l] [] (.agg (acz l).ps) []:=by obtain⟨m,rfl⟩:∃k,m=k+1:=⟨m-1,by omega⟩;exact fH hO (first:=[]) (cap:=[]) (.o (aF (by omega:0<l.length)) (.o (aF (by omega:1<l.length)) (.o (aF (by omega:2<l.length)) .er)))
theorem aeW{m}(hO:Ok m UE){l}(h:l.length<=ah):cZ X0 Qp (iD m) (.fn 117 [] []) [lV l] [] (.agg (iM l).ps) []:=nU.YW hX (first:=[]) (cap:=[]) (hO 117 [lV l] (vA.put (iM l)) [] [l.length<=ah] (by kernel_rfl) (fun p h9=>by rw[a2m.1 h9];exact h)) rfl rfl rfl rfl
theorem WR(l):HY (iM l):=by unfold iM;split;exact Jw;exact a9p
theorem a1c{a b c}(ha:HY a)(hb:HY b)(hc:HY c):HY (jZ a b c).1:=by have:=a4E (zi.1 ha) (zi.1 hb) (zi.1 hc);rw[this.1];exact zi.2 this.2
def yj(p:Int×Dg×Dg):Dg×Int:=if(bf [p.2.1,p.2.2] != 0)=true then(gK,bf [p.2.1,p.2.2])else if((qB p.1 dJ dJ).2 != 0)=true then(gK,(qB p.1 dJ dJ).2)else(Dh (dW [p.2.1,p.2.2]) (acy p.1),0)
def Zh(p:Dg×Dg×Dg):Dg×Int:=if(bf [p.1,p.2.1,p.2.2] != 0)=true then(gK,bf [p.1,p.2.1,p.2.2])else(Dh (dW [p.1,p.2.1,p.2.2]) acz,0)
def jD(p:Dg):Dg×Int:=if(bf [p] != 0)=true then(gK,bf [p])else(Dh (dW [p]) iM,0)
theorem Zi{P:Dg->Prop}{a b}(ha:P a)(hb:P b):∀d∈[a,b],P d:=fun x hx=>by
 rcases a1B.1 hx with rfl|hx
 .exact ha
 .rw[a2m.1 hx];exact hb
theorem asW{P:Dg->Prop}{a b c}(ha:P a)(hb:P b)(hc:P c):∀d∈[a,b,c],P d:=fun x hx=>by
 rcases a1B.1 hx with rfl|hx
 .exact ha
 .exact Zi hb hc x hx
abbrev rnE(e:Int):PV aH:=.dB [.agg [.nil .aP,.nil .aP,.nil .aP,.nil .aP,.int .i64 0],.int .i64 e]
abbrev HcA(D:List Dg)(u:Int)(g:LI0):List (PB aH):=[.list true true 26 D,.cells [.int .u8 u],.list true true 3 g]
abbrev HcB(u:Int):List (PB aH):=[.gone,.cells [.int .u8 u],.gone]
theorem rE(e):Fp (Γ:=X0.Γ) (Is (X:=X0) (P:=Qp) (dU (a2 dA iA)) (gK,e)) .n (.ret (some (rnE e))):=by have h:(dU (a2 dA iA)).get (rnE e)=some (gK,e):=rfl;exact Fp.rn (X:=X0) (P:=Qp) (rnE e) h
def ani:gU aH:=bU 62 (a3 uA dA dA) (dU (a2 dA iA)) yj (fun p=>[nT p.2.1,nT p.2.2]) UE
theorem a9q:(2:Nat)<=ah:=by unfold ah;omega
theorem ahK:(3:Nat)<=ah:=by unfold ah;omega
theorem asY:Gd ani:=Good.a2F 24 Zg Uy Jt Zg fun n hn hO Fe hO3 hO4 p hp=>by obtain⟨u,d,e⟩:=p;have h1:∀x∈[d,e],nT x:=Zi (hp _ gQ) (hp _ vX);have h3:0<[d,e].length/\[d,e].length<=ah:=⟨by simp,a9q⟩;have hJ:(bf [d,e] != 0)=false->kQ (dW [d,e]):=fun e1=>yh (D:=[d,e]) (by simp) (by simp) h1 (by simpa using e1);have s1:=fun(e1:(bf [d,e] != 0)=false)=>ahI (n:=n) (f:=112) u (by omega) (fun m hm=>hO3 m (by omega)) (D:=[d,e]) (by simp) (hJ e1).bG.len (k:=true) (ex:=true);have s2:=fun(e1:(bf [d,e] != 0)=false) (e2:((qB u dJ dJ).2 != 0)=false)=>anc (n:=n) (f:=112) u (hJ e1) (op:=acy u) (Ri (hJ e1) (Jb.inD h1 (show bf [d,e]=0 by simpa using e1)) fun l hl hv=>(acv (acw e2) (hv _ (dw (show 0<l.length by rw[hl];exact Nat.zero_lt_two))) (hv _ (dw (show 1<l.length by rw[hl];exact Nat.one_lt_two)))).1) (by omega) (fun m hm=>Fe m (by omega)) (fun m hm l hl=>anh (by omega) (hO4 _ (by omega)) hl) (k:=true) (ex:=true) (k2:=true) (Gm:=true);show nU X0 Qp _ _ _ ((dU (a2 dA iA)).put (if(bf [d,e] != 0)=true then(gK,bf [d,e])else if((qB u dJ dJ).2 != 0)=true then(gK,(qB u dJ dJ).2)else(Dh (dW [d,e]) (acy u),0))) _;exact aN (hO n (by omega)) (.o h1 (.o h3 (.sh (fun _=>rE _) fun e1=>.sh (fun _=>rE _) fun e2=>.RU (H2:=HcA [d,e] u (dW [d,e]).g) [2,0] [1] (s1 e1) (.RU (H2:=HcB u) [2,0,3] [1] (s2 e1 e2) .rr))))
def anj:gU aH:=bU 63 (a3 dA dA dA) (dU (a2 dA iA)) Zh (fun p=>[nT p.1,nT p.2.1,nT p.2.2]) ani
theorem asZ:Gd anj:=Good.a2F 24 asY Uy Jt Zg fun n hn hO Fe hO3 hO4 p hp=>by obtain⟨a,b,c⟩:=p;have h1:∀x∈[a,b,c],nT x:=asW (hp _ gQ) (hp _ vX) (hp _ hh2);have h3:0<[a,b,c].length/\[a,b,c].length<=ah:=⟨by simp,ahK⟩;have hJ:(bf [a,b,c] != 0)=false->kQ (dW [a,b,c]):=fun e1=>yh (D:=[a,b,c]) (by simp) (by simp) h1 (by simpa using e1);have s1:=fun(e1:(bf [a,b,c] != 0)=false)=>Ht (n:=n) (f:=113) (by omega) (fun m hm=>hO3 m (by omega)) (D:=[a,b,c]) (by simp) (hJ e1).bG.len (k:=true) (ex:=true);have s2:=fun(e1:(bf [a,b,c] != 0)=false)=>a3s (n:=n) (f:=113) (hJ e1) (op:=acz) (Ri (hJ e1) (Jb.inD h1 (show bf [a,b,c]=0 by simpa using e1)) fun l hl hv=>a1c (hv _ (dw (show 0<l.length by rw[hl];exact Nat.succ_pos 2))) (hv _ (dw (show 1<l.length by rw[hl];exact Nat.succ_lt_succ (Nat.succ_pos 1)))) (hv _ (dw (show 2<l.length by rw[hl];exact Nat.lt_succ_self 2)))) (by omega) (fun m hm=>Fe m (by omega)) (fun m hm l hl=>asV (by omega) (hO4 _ (by omega)) hl) (k:=true) (ex:=true) (k2:=true) (Gm:=true);show nU X0 Qp _ _ _ ((dU (a2 dA iA)).put (if(bf [a,b,c] != 0)=true then(gK,bf [a,b,c])else(Dh (dW [a,b,c]) acz,0))) _;exact aN (hO n (by omega)) (.o h1 (.o h3 (.sh (fun _=>rE _) fun e1=>.fr [1] (s1 e1) (.fr [1,2] (s2 e1) .rr))))
def ank:gU aH:=bU 67 (a1 dA) (dU (a2 dA iA)) jD (fun p=>[nT p]) anj
theorem at6:Gd ank:=Good.a2F 24 asZ Uy Jt Zg fun n hn hO Fe hO3 hO4 d hp=>by
 have h1:∀x∈[d],nT x:=fun x hx=>by rw[a2m.1 hx];exact hp _ gQ
 have h3:0<[d].length/\[d].length<=ah:=⟨by simp,a5p⟩;have hJ:(bf [d] != 0)=false->kQ (dW [d]):=fun e1=>yh (D:=[d]) (by simp) (by simp) h1 (by simpa using e1);have s1:=fun(e1:(bf [d] != 0)=false)=>Ht (n:=n) (f:=117) (by omega) (fun m hm=>hO3 m (by omega)) (D:=[d]) (by simp) (hJ e1).bG.len (k:=true) (ex:=true);have s2:=fun(e1:(bf [d] != 0)=false)=>a3s (n:=n) (f:=117) (hJ e1) (op:=iM) (fun t hd=>WR _) (by omega) (fun m hm=>Fe m (by omega)) (fun m hm l hl=>aeW (hO4 m (by omega)) (by rw[hl];exact a5p)) (k:=true) (ex:=true) (k2:=true) (Gm:=true);show nU X0 Qp _ _ _ ((dU (a2 dA iA)).put (if(bf [d] != 0)=true then(gK,bf [d])else(Dh (dW [d]) iM,0))) _;exact aN (hO n (by omega)) (.o h1 (.o h3 (.sh (fun _=>rE _) fun e1=>.fr [1] (s1 e1) (.fr [1,2] (s2 e1) .rr))))
open Go Tw Pv bQ
def oQ(v:V):Int:=if(!(Ej v))=true then 2 else 0
def aeX:gU aH:=bU 106 (a1 vA) iA (fun p=>oQ p) np ank
theorem anl:Gd aeX:=at6.add fun n hO p hp=>aN hO (.ss .rr .rr)
abbrev wR(s o:LI0)(v:V):Dg:=⟨s,o,[v],[],-1⟩
def Zj:gU aH:=bU 107 (a3 nY nY vA) dA (fun p=>wR p.1 p.2.1 p.2.2) (fun p=>[p.1.length<=ah,p.2.1.length<=ah]) aeX
theorem aeY:Gd Zj:=anl.add fun n hO p hp=>aN hO (.o (hp _ gQ) (.o (hp _ vX) (.rn (.agg [lI p.1,lI p.2.1,lV [p.2.2],.nil .aP,.int .i64 (-1)]) rfl)))
theorem a9r{n f:Nat}{J k ex k2 Gm}(h:jd n (.fn 87 [] []) [.agg (J.ps (.fn f [] []))] [] (.map 0) [.map (kV.im (fG J))]):jd n (.fn 87 [] []) [.agg [lI J.s,lI J.o,.own 0,.own 1,.fn f [] []]] [.list k ex 26 J.D,.list k2 Gm 3 J.g] (.map 2) [.gone,.gone,.map (kV.im (fG J))]:=by have h1:=cZ.frame hX (ks:=[]) (H':=[.gone,.gone]) (Hp:=[]) (Rt:=[.map (kV.im (fG J))]) (v':=.map 2) (fv':=.fn 87 [] []) (xs':=[.agg (J.ps (.fn f [] []))]) h (by decide) rfl rfl rfl rfl rfl rfl rfl;exact cZ.fz hX (H:=[.list k ex 26 J.D,.list k2 Gm 3 J.g]) (cs:=[lI J.s,lI J.o,.own 0,.own 1]) (rest:=[.fn f [] []]) [0,1] h1 rfl (fun i hi=>by simpa[lC.kU,lC]using hi)
open Go Tw Pv bQ
def look(t:List (V×Int))(v:V):Int:=((t.find? fun e=>decide (e.1=v)).map (·.2)).getD 0
theorem Jy{t}(hn:(t.map (·.1)).Nodup)(v):(qN X0 Qp 39 (kV.im t) (kV.tv v) (.int .i64 (look t v)))\/(look t v=0/\oG X0 Qp 39 (kV.im t) (kV.tv v)):=by
 by_cases h:v∈t.map (·.1)
 .obtain⟨e,he,hv⟩:=a1u.1 h;obtain⟨e2,h2⟩:=a5X.1 (List.find?_isSome (p:=fun e:V×Int=>decide (e.1=v)) |>.2 ⟨e,he,show decide (e.1=v)=true by simpa using hv⟩);have h3:e2.1=v:=by simpa using List.find?_some h2
  refine .inl (kV.found (by rw[AO];exact hn) (a1u.2 ⟨e2,List.mem_of_find?_eq_some h2,?_⟩));unfold look;rw[h2,h3];rfl
 refine .inr ⟨?_,kV.fresh (by rw[AO];exact h)⟩;unfold look;rw[afj.2 fun e he=>by simp only[a1z];intro hv;exact h (a1u.2 ⟨e,he,hv⟩)]
 rfl
abbrev anm:PV aH:=.agg [.nil .aP,.nil .aP,.nil .aP,.nil .aP,.nil .fn]
abbrev a9s(J:Jb)(f:Nat)(a b:Nat):PV aH:=.agg [lI J.s,lI J.o,.own a,.own b,.fn f [] []]
abbrev HO(D:List Dg)(g:LI0):List (PB aH):=[.list true true 26 D,.list true true 3 g]
theorem a9t{P:Dg->Prop}{d}(h:P d):∀x∈[d],P x:=fun x hx=>by rw[a2m.1 hx];exact h
theorem ano{n}(hO:Ok n Zj){d}{v:V}(hp:nT d)(e1:(bf [d] != 0)=true):jd (n+1) (.fn 86 [] []) [.agg d.ps,.agg v.ps] [] (.dB [anm,.int .i64 (bf [d])]) []:=by have h1:∀x∈[d],nT x:=a9t hp;have h3:0<[d].length/\[d].length<=ah:=⟨by simp,a5p⟩;exact cZ.drop hX (kH hX hO (first:=[]) (cap:=[]) (H1:=[.list true true 26 [d]]) (by kernel_rfl) (.o h1 (.o h3 (.b e1 .er)))) rfl rfl
theorem anp{n}(hO:Ok n Zj){d v}(hp:nT d)(e1:(bf [d] != 0)=false)(e2:(oQ v != 0)=true):jd (n+1) (.fn 86 [] []) [.agg d.ps,.agg v.ps] [] (.dB [anm,.int .i64 4]) []:=by have h1:∀x∈[d],nT x:=a9t hp;have h3:0<[d].length/\[d].length<=ah:=⟨by simp,a5p⟩;exact cZ.drop hX (kH hX hO (first:=[]) (cap:=[]) (H1:=[.list true true 26 [d]]) (by kernel_rfl) (.o h1 (.o h3 (.b e1 (.b e2 .er))))) rfl rfl
theorem anq{n}(h2:2<=n)(D9:Ok n Zj)(hO:∀m,n-2<=m->Ok m rC){d v}(hp:nT d)(e1:(bf [d] != 0)=false)(e2:(oQ v != 0)=false):jd (n+1) (.fn 86 [] []) [.agg d.ps,.agg v.ps] [] (.dB [a9s (dW [d]) 79 0 1,.int .i64 0]) (HO [d] (dW [d]).g):=by have h1:∀x∈[d],nT x:=a9t hp;have h3:0<[d].length/\[d].length<=ah:=⟨by simp,a5p⟩;have hJ:kQ (dW [d]):=yh (D:=[d]) (by simp) (by simp) h1 (by simpa using e1);have s1:=Ht (n:=n) (f:=79) h2 hO (D:=[d]) (by simp) hJ.bG.len (k:=true) (ex:=true);have h:jd (n+1) (.fn 86 [] []) [.agg d.ps,.agg v.ps] [] (.dB [a9s (dW [d]) 79 1 2,.int .i64 0]) [.list true true 26 [d],.list true true 26 [d],.list true true 3 (dW [d]).g]:=fH D9 (first:=[]) (cap:=[]) (.o h1 (.o h3 (.b e1 (.b e2 (.fr [1] s1 .er)))));exact cZ.gs hX h [.gc [1,2]] rfl
theorem Cj(J):((fG J).map (·.1)).Nodup:=(((qM Zc (BL (wB J))).map (·.1)).nodup_iff).2 (H9 (wB J)).1
theorem Zk(φ J):dK φ (fG J)=eP φ (wB J):=by unfold fG;rw[a4v φ (qM Zc (BL (wB J))),Ua]
theorem Zl{α}:∀l:List α,eP (fun _=>1) l=(l.length:Int)
 | []=>rfl
 |a::l=>by have:=Zl l;simp only[eP,a4p];omega
theorem UF{J}(hJ:kQ J):LD (fG J):=by
 refine⟨fun e he=>(H9 (wB J)).2 e ((qM Zc (BL (wB J))).mem_iff.1 he),?_⟩;rw[Zk,Zl];have h1:(wB J).length<=(YZ J).length:=by unfold wB a19;rw[a4P];exact a5O (aa7 _ _) (by rw[a4P];exact a1j _)
 have h2:(YZ J).length<=uK J.s:=a5O (aa7 _ _) (by rw[a4P,a6u];exact a1j _);have h3:=hJ.bG.RZ;have h4:=hJ.bG.many;omega
def WS(p:Dg×V):Int×Int:=if(bf [p.1] != 0)=true then(0,bf [p.1])else if(oQ p.2 != 0)=true then(0,4)else(look (fG (dW [p.1])) p.2,0)
def ahL:gU aH:=bU 27 (a2 dA vA) (dU (a2 iA iA)) WS (fun p=>[nT p.1]) Zj
theorem at7:Gd ahL:=Good.U3 24 aeY Jt fun n hn hO Fe p hp=>by
 obtain⟨d,v⟩:=p;have h1:nT d:=hp _ gQ;obtain⟨n,rfl⟩:∃k,n=k+1:=⟨n-1,by omega⟩;have D9:=hO (n+1) (by omega);cases e1:(bf [d] != 0)
 .cases e2:(oQ v != 0)
  .have s1:=anq (n:=n) (by omega) (hO n (by omega)) (fun m hm=>Fe m (by omega)) h1 e1 e2;have hJ:kQ (dW [d]):=yh (D:=[d]) (by simp) (by simp) (a9t h1) (by simpa using e1);have s2:=a9r (k:=true) (ex:=true) (k2:=true) (Gm:=true) (QY hJ (n:=n-1) (f:=79) (Fe _ (by omega)) (show 0<[d].length by simp));rw[show n-1+2=n+1 by omega]at s2;show nU X0 Qp _ _ _ ((dU (a2 iA iA)).put (if(bf [d] != 0)=true then(0,bf [d])else if(oQ v != 0)=true then(0,4)else(look (fG (dW [d])) v,0))) _;rw[e1,e2];rcases Jy (Cj (dW [d])) v with hf|⟨hz,hf⟩
   .exact aN D9 (.fr [] s1 (.b (rfl:((0:Int) != 0)=false) (.fr [0,1] s2 (.c (.int .i64 (look (fG (dW [d])) v)) [] hf .rr))))
   .rw[hz];exact aN D9 (.fr [] s1 (.b (rfl:((0:Int) != 0)=false) (.fr [0,1] s2 (.a .calm (.o hf .rr)))))
  .have s1:=anp (n:=n) (hO n (by omega)) h1 e1 e2;show nU X0 Qp _ _ _ ((dU (a2 iA iA)).put (if(bf [d] != 0)=true then(0,bf [d])else if(oQ v != 0)=true then(0,4)else(look (fG (dW [d])) v,0))) _;rw[e1,e2];exact aN D9 (.fr [] s1 (.b (rfl:((4:Int) != 0)=true) .rr))
 .have s1:=ano (n:=n) (v:=v) (hO n (by omega)) h1 e1;show nU X0 Qp _ _ _ ((dU (a2 iA iA)).put (if(bf [d] != 0)=true then(0,bf [d])else if(oQ v != 0)=true then(0,4)else(look (fG (dW [d])) v,0))) _;rw[a15 e1];exact aN D9 (.fr [] s1 (.b e1 .rr))
open Go Tw Pv bQ
structure An where
 q:Int
 none:Bool
 yes:Bool
 n:Int
 lo:Int
 hi:Int
 fault:Bool
 set:LI0
deriving DecidableEq
abbrev X9:An:=⟨0,false,false,0,0,0,false,[]⟩
def anr:Ar X0 Qp Unit where
 put _:=.nil .aP
 get v:=match v with
  |.nil .aP=>some ()
  |_=>none
 ok:=by
  intro v a hg A m h x hv;split at hg
  .exact hv
  .cases hg
def ZC:Arg An:=agi (a7D (Nk uA (Nk tA (Nk tA (Nk iA (Nk iA (a4 iA tA nY anr)))))))
 (fun p=>⟨p.1,p.2.1,p.2.2.1,p.2.2.2.1,p.2.2.2.2.1,p.2.2.2.2.2.1,p.2.2.2.2.2.2.1,p.2.2.2.2.2.2.2.1⟩) (fun a=>(a.q,a.none,a.yes,a.n,a.lo,a.hi,a.fault,a.set,())) fun _=>rfl
abbrev anW(a:An)(s:PV aH):PV aH:=.agg [.int .u8 a.q,.bool a.none,.bool a.yes,.int .i64 a.n,.int .i64 a.lo,.int .i64 a.hi,.bool a.fault,s,.nil .aP]
theorem rA(a)(h:a.set=[])(e):Fp (Γ:=X0.Γ) (Is (X:=X0) (P:=Qp) (dU (a2 ZC iA)) (a,e)) .n (.ret (some (.dB [anW a (.nil .aP),.int .i64 e]))):=by obtain⟨q,no,y,n,l,hi,f,s⟩:=a;cases h;have h:(dU (a2 ZC iA)).get (.dB [anW ⟨q,no,y,n,l,hi,f,[]⟩ (.nil .aP),.int .i64 e])=some (⟨q,no,y,n,l,hi,f,[]⟩,e):=rfl;exact Fp.rn (X:=X0) (P:=Qp) _ h
def a9v(q:Int)(t:List (V×Int)):An×Int:=
 if(q==1)=true then(⟨q,false,look t dJ==dK (fun _=>1) t,0,0,0,false,[]⟩,0)
 else if(q==2)=true then(⟨q,false,decide (look t dJ>0),0,0,0,false,[]⟩,0)
 else if(q==3)=true then(⟨q,false,false,look t dJ,0,0,false,[]⟩,0)
 else if(q==4)=true then(if mZ t=[]then(⟨q,true,false,0,0,0,vU t,[]⟩,0)else(⟨q,((mZ t).length:Int)==0,false,0,(mZ t).getD 0 0,(mZ t).getD (i64.wrap ((mZ t).length-1)).toNat 0,vU t,[]⟩,0))
 else(⟨q,false,false,0,0,0,vU t,mZ t⟩,0)
def Hu(q:Int)(t:List (V×Int)):An×Int:=if t=[]then(⟨q,true,false,0,0,0,false,[]⟩,0)else a9v q t
def a3t(p:Int×Dg×Dg):An×Int:=if(bf [p.2.1,p.2.2] != 0)=true then(X9,bf [p.2.1,p.2.2])else if decide (p.1<1)=true then(X9,2)else if decide (p.1>5)=true then(X9,2)else Hu p.1 (fG (dW [p.2.1,p.2.2]))
def acB:gU aH:=bU 33 (a3 uA dA dA) (dU (a2 ZC iA)) a3t (fun p=>[nT p.2.1,nT p.2.2]) ahL
theorem ahM{t}(h:LD t):(mZ t).length<=2000:=by unfold mZ;rw[show ∀l:LI0,(iC l).length=l.length from fun l=>(af4 l _).length_eq,a4P];exact a5O (aa7 _ _) h.len
abbrev HMt(t:List (V×Int)):List (PB aH):=[.map (kV.im t)]
abbrev HMn(t:List (V×Int)):List (PB aH):=[.map (kV.im t),.list false false 3 (mZ t)]
section
variable{n:Nat}{q:Int}{d e:Dg}(hO:Ok n ahL)(h1:∀ x∈[d,e],nT x)(e1:(bf [d,e] != 0)=false)(e2:decide (q<1)=false)(e3:decide (q>5)=false){t:List (V×Int)}(ht:LD t)
 (s1:cZ X0 Tryz.prog (iD n) (.fn 78 [] []) [.fn 79 [] [],.own 0] [.list true true 26 [d,e]] (a9s (dW [d,e]) 79 0 1) (HO [d,e] (dW [d,e]).g))
 (s2:cZ X0 Tryz.prog (iD n) (.fn 87 [] []) [a9s (dW [d,e]) 79 0 1] (HO [d,e] (dW [d,e]).g) (.map 2) [.gone,.gone,.map (kV.im t)])
 (s3:cZ X0 Tryz.prog (iD n) (.fn 90 [] []) [.map 0] [.iT (kV.im t)] (.int .i64 (dK (fun _=>1) t)) [.iT (kV.im t)])
 (s4:mZ t=[]->cZ X0 Tryz.prog (iD n) (.fn 88 [] []) [.map 0] [.iT (kV.im t)] (.dB [.nil .aP,.bool (vU t)]) [.iT (kV.im t)])
 (s5:mZ t≠[]->cZ X0 Tryz.prog (iD n) (.fn 88 [] []) [.map 0] [.iT (kV.im t)] (.dB [.own 1,.bool (vU t)]) [.iT (kV.im t),.list false false 3 (mZ t)])
include hO h1 e1 e2 e3 s1 s2
theorem acC(h:t=[]):nU X0 Qp (iD (n+1)) 33 ((a3 uA dA dA).put (q,d,e)) ((dU (a2 ZC iA)).put (⟨q,true,false,0,0,0,false,[]⟩,0)) []:=by subst h;have h3:0<[d,e].length/\[d,e].length<=ah:=⟨by simp,a9q⟩;exact aN hO (.o h1 (.o h3 (.b e1 (.b e2 (.b e3 (.fr [1] s1 (.fr [1,2] s2 (.b (show(((kV.im ([]:List (V×Int))).length:Int)==0)=true from rfl) (rA _ rfl _)))))))))
variable(hd:(t.map (·.1)).Nodup)
include ht s3 s4 s5 hd
theorem a9w(h:t≠[]):nU X0 Qp (iD (n+1)) 33 ((a3 uA dA dA).put (q,d,e)) ((dU (a2 ZC iA)).put (a9v q t)) []:=by
 have h3:0<[d,e].length/\[d,e].length<=ah:=⟨by simp,a9q⟩;have hl:(((kV.im t).length:Int)==0)=false:=by
  rw[kV.qA];cases t with
  |nil=>exact absurd rfl h
  |cons a r=>exact bne (by simp only[a4p];omega)
 have SI:=ahM ht;have s0:jd n (.fn 89 [] []) [] [] (.agg dJ.ps) []:=nU.YW hX (first:=[]) (cap:=[]) (hO 89 [] (vA.put dJ) [] [] (by kernel_rfl) (fun p h=>by cases h)) rfl rfl rfl rfl;unfold a9v;by_cases hn:mZ t=[]
 .rw[a15 hn];rcases Jy hd dJ with hf|⟨hz,hf⟩
  .exact aN hO (.o h1 (.o h3 (.b e1 (.b e2 (.b e3 (.fr [1] s1 (.fr [1,2] s2 (.b hl (.RU (H2:=HMt t) [3] [0] (s4 hn) (.ss (.fr [] s0 (.c (.int .i64 (look t dJ)) [] hf (.RU (H2:=HMt t) [3] [0] s3 (rA _ rfl _)))) (.ss (.fr [] s0 (.c (.int .i64 (look t dJ)) [] hf (rA _ rfl _))) (.ss (.fr [] s0 (.c (.int .i64 (look t dJ)) [] hf (rA _ rfl _))) (.ss (.b (c:=!((0:Int)==0)) (t:=false) rfl (rA _ rfl _)) (rA ⟨q,false,false,0,0,0,vU t,mZ t⟩ hn _))))))))))))))
  rw[hz];exact aN hO (.o h1 (.o h3 (.b e1 (.b e2 (.b e3 (.fr [1] s1 (.fr [1,2] s2 (.b hl (.RU (H2:=HMt t) [3] [0] (s4 hn) (.ss (.a .calm (.o hf (.RU (H2:=HMt t) [3] [0] s3 (rA _ rfl _)))) (.ss (.a .calm (.o hf (rA _ rfl _))) (.ss (.a .calm (.o hf (rA _ rfl _))) (.ss (.b (c:=!((0:Int)==0)) (t:=false) rfl (rA _ rfl _)) (rA ⟨q,false,false,0,0,0,vU t,mZ t⟩ hn _))))))))))))))
 rw[a0S hn];have hp:0<(mZ t).length:=ab7.2 hn;have hb:(!(((mZ t).length:Int)==0))=true:=by rw[bne (by omega)];rfl
 have i0:fZ 0 (mZ t).length:=aF hp;have i1:fZ (i64.wrap ((mZ t).length-1)) (mZ t).length:=by rw[wrap_small (by omega) (by omega)];exact⟨by omega,by omega⟩
 rcases Jy hd dJ with hf|⟨hz,hf⟩
 .exact aN hO (.o h1 (.o h3 (.b e1 (.b e2 (.b e3 (.fr [1] s1 (.fr [1,2] s2 (.b hl (.RU (H2:=HMn t) [3] [0] (s5 hn) (.ss (.fr [] s0 (.c (.int .i64 (look t dJ)) [] hf (.RU (H2:=HMt t) [3] [0] s3 (rA _ rfl _)))) (.ss (.fr [] s0 (.c (.int .i64 (look t dJ)) [] hf (rA _ rfl _))) (.ss (.fr [] s0 (.c (.int .i64 (look t dJ)) [] hf (rA _ rfl _))) (.ss (.b hb (.o i0 (.o i1 (rA _ rfl _)))) .rr)))))))))))))
 rw[hz];exact aN hO (.o h1 (.o h3 (.b e1 (.b e2 (.b e3 (.fr [1] s1 (.fr [1,2] s2 (.b hl (.RU (H2:=HMn t) [3] [0] (s5 hn) (.ss (.a .calm (.o hf (.RU (H2:=HMt t) [3] [0] s3 (rA _ rfl _)))) (.ss (.a .calm (.o hf (rA _ rfl _))) (.ss (.a .calm (.o hf (rA _ rfl _))) (.ss (.b hb (.o i0 (.o i1 (rA _ rfl _)))) .rr)))))))))))))
end
theorem ant:Gd acB:=Good.U3 24 at7 Jt fun n hn hO Fe p hp=>by
 obtain⟨q,d,e⟩:=p;have h1:∀x∈[d,e],nT x:=Zi (hp _ gQ) (hp _ vX);have h3:0<[d,e].length/\[d,e].length<=ah:=⟨by simp,a9q⟩;have D9:=hO n (by omega);show nU X0 Qp _ _ _ ((dU (a2 ZC iA)).put (if(bf [d,e] != 0)=true then(X9,bf [d,e])else if decide (q<1)=true then(X9,2)else if decide (q>5)=true then(X9,2)else Hu q (fG (dW [d,e])))) _;cases e1:(bf [d,e] != 0)
 .cases e2:decide (q<1)
  .cases e3:decide (q>5)
   .have hJ:=yh (D:=[d,e]) (by simp) (by simp) h1 (by simpa using e1);have ht:=UF hJ;have s1:=Ht (n:=n) (f:=79) (by omega) (fun m hm=>Fe m (by omega)) (D:=[d,e]) (by simp) hJ.bG.len (k:=true) (ex:=true);have s2:=a9r (k:=true) (ex:=true) (k2:=true) (Gm:=true) (QY hJ (n:=n-2) (f:=79) (Fe _ (by omega)) (show 0<[d,e].length by simp));have s3:=asI (n:=n-1) ht;have s4:=(aeU (n:=n-2) ht).1;have s5:=(aeU (n:=n-2) ht).2;rw[show n-2+2=n by omega]at s2 s4 s5;rw[show n-1+1=n by omega]at s3;show nU X0 Qp _ _ _ ((dU (a2 ZC iA)).put (Hu q (fG (dW [d,e])))) _;unfold Hu;by_cases h:fG (dW [d,e])=[]
    .rw[a15 h];exact acC D9 h1 e1 e2 e3 s1 s2 h
    .rw[a0S h];exact a9w D9 h1 e1 e2 e3 ht s1 s2 s3 s4 s5 (Cj _) h
   .exact aN D9 (.o h1 (.o h3 (.b e1 (.b e2 (.b e3 (rA _ rfl _))))))
  .exact aN D9 (.o h1 (.o h3 (.b e1 (.b e2 (rA _ rfl _)))))
 .exact aN D9 (.o h1 (.o h3 (.b e1 (rA _ rfl _))))
open Go Tw Pv bQ
section
variable{n:Nat}{t:List (V×Int)}(h:LD t)(ht:t≠[])
theorem anu{k:Bool}:jd (n+1) (.fn 96 [] []) [.map 0] [.map (kV.im t)] vF [.map (kV.im t),.cells [.map 0]]:=
 fH gX (first:=[]) (cap:=[]) .er
include h ht
theorem anv:jd (n+3) (.fn 95 [] []) [vF] [.iT (kV.im t),.aG [.map 0]] (.aP 2 0 t.length t.length 1 false) [.iT (kV.im t),.aG [.map 0],.nP ((tV t).map Nu)]:=by have h1:=aco (n:=n) h ht;exact fH gX (first:=[]) (cap:=[]) (.k h1 .er)
omit ht in
theorem a9x:(tV t).length=t.length:=by unfold tV;rw[(qM _ _).length_eq,a4P]
theorem anw:jd (n+1) (.fn 94 [] []) [.aP 0 0 t.length t.length 1 false] [.nP ((tV t).map Nu)] (.int .i64 (Rh (tV t))) [.nP ((tV t).map Nu)]:=by
 have hl:=a9x h;have h0:tV t≠[]:=fun e=>ht (a7f.1 (by rw[<-hl,e];rfl));have:=an6 (n:=n) h0 (by rw[hl];exact h.len)
 rwa [hl]at this
end
open Go Tw Pv bQ
abbrev lkC(no:Bool)(n:Int)(s:PV aH):List (PV aH):=[.int .u8 8,.bool no,.bool false,.int .i64 n,.int .i64 0,.int .i64 0,.bool false,s,.nil .aP]
abbrev wLk(f:Bool×Bool)(l:List Dg)(d:Dg)(n:Int)(s:PV aH)(H:List (PB aH))(i:Int)(x:List (Nat×PE aH)):bJ aH:=⟨[(3,.loc 0 0),(4,.loc 1 0),(31,.val (.own 0)),(32,xi l.length),(33,xi i)]++x,[d.ps,lkC false n s],.list f.1 f.2 26 l::H⟩
abbrev hLk(b:Int):List (PB aH):=[.list true true 3 ([b]:LI0)]
def anx(f:Bool×Bool)(l:List Dg)(d:Dg)(i:Int)(x:List (Nat×PE aH)):Option (Int×Int)->bJ aH
 |none=>wLk f l d 0 (.nil .aP) [] i x
 |some (b,z)=>wLk f l d z (.own 1) (hLk b) i x
def tLk(l:List Dg)(d:Dg)(k:Nat):List (V×Int):=fG (dW [l.getD k gK,d])
def mLk(l:List Dg)(d:Dg)(k:Nat):Int:=Rh (tV (tLk l d k))
def gLk(l:List Dg)(d:Dg)(k:Nat)(s:Option (Int×Int)):Option (Int×Int)⊕(Option (Int×Int)×Nat):=
 if tLk l d k=[]then .inr (s,k)else match s with
  |none=>.inl (some ((k:Int),mLk l d k))
  |some (b,z)=>if decide (mLk l d k<z)=true then .inl (some ((k:Int),mLk l d k))else .inl (some (b,z))
def zLk(f:Bool×Bool)(l:List Dg)(d:Dg):Option (Int×Int)⊕(Option (Int×Int)×Nat)->Ex×bJ aH
 |.inl s=>(.exit 1,anx f l d l.length [(34,xl false)] s)
 |.inr (none,k)=>(.ret,⟨[(4,.loc 1 0),(5,xi 0)],[d.ps,lkC true 0 (.nil .aP),(l.getD k gK).ps],[.list f.1 f.2 26 l]⟩)
 |.inr (some (b,z),k)=>(.ret,⟨[(4,.loc 1 0),(5,xi 0)],[d.ps,lkC true z (.own 1),(l.getD k gK).ps],.list f.1 f.2 26 l::hLk b⟩)
structure LkP(l:List Dg)(d:Dg):Prop where
 p:∀x∈l++[d],nT x
 g:∀x∈l++[d],DgG x/\x.aj=((l++[d]).getD 0 gK).aj/\x.aB=((l++[d]).getD 0 gK).aB
theorem LkP.j{l d}(h:LkP l d){k}(hk:k<l.length):kQ (dW [l.getD k gK,d]):=by have h1:=h.g (l.getD k gK) (a5Z _ (dw hk));have h2:=h.g d (abW _ (a2m.2 rfl));exact aeV (D:=[l.getD k gK,d]) (by simp) (by simp) (Zi (P:=fun x=>DgG x/\x.aj=(l.getD k gK).aj/\x.aB=(l.getD k gK).aB) ⟨h1.1,rfl,rfl⟩ ⟨h2.1,h2.2.1.trans h1.2.1.symm,h2.2.2.trans h1.2.2.symm⟩)
theorem lLk{n}(hn:24<=n)(hO:∀m,n-24<=m->Ok m rC)(f){l d}(h:LkP l d)(hl:l.length<=ah):JH n 39 0 1 (wLk f l d 0 (.nil .aP) [] 0 []) (zLk f l d (jU (gLk l d) l.length 0 none)).1 (zLk f l d (jU (gLk l d) l.length 0 none)).2:=by
 refine iI (st:=fun i s=>anx f l d i [] s) (g:=gLk l d) (out:=zLk f l d) (s0:=none) (fun k s=>k=0↔s=none) (by kernel_rfl) hl (by simp) (fun k s m hk hi ih=>?_) (fun s _=>?_)
 .have hJ:=h.j hk;have ht:LD (tLk l d k):=UF hJ;have s1:=Ht (n:=n) (f:=79) (by omega) (fun m hm=>hO m (by omega)) (D:=[l.getD k gK,d]) (by simp) hJ.bG.len (k:=true) (ex:=true);have s2:=a9r (k:=true) (ex:=true) (k2:=true) (Gm:=true) (QY hJ (n:=n-2) (f:=79) (hO _ (by omega)) (show 0<[l.getD k gK,d].length by simp));rw[show n-2+2=n by omega]at s2
  change cZ _ _ _ _ _ _ _ [.gone,.gone,.map (kV.im (tLk l d k))]at s2
  unfold gLk;by_cases h0:tLk l d k=[]
  .rw[a15 h0];rw[h0]at s2;have hz:(((kV.im ([]:List (V×Int))).length:Int)==0)=true:=rfl;rcases s with _|⟨b,z⟩
   .exact aI gX (.b (aV hk) (.o (aF hk) (.fr [1] s1 (.fr [1,2] s2 (.b hz (.ouG [.gc []] nofun))))))
   exact aI gX (.b (aV hk) (.o (aF hk) (.fr [2] s1 (.fr [2,3] s2 (.b hz (.ouG [.gc [1]] nofun))))))
  rw[a0S h0];have hz:(((kV.im (tLk l d k)).length:Int)==0)=false:=by rw[kV.qA];exact bne (by have:=ab7.2 h0;omega)
  have s3:=anu (n:=n-1) (t:=tLk l d k) (k:=true);have s4:=anv (n:=n-3) ht h0;have s5:=anw (n:=n-1) ht h0;rw[show n-1+1=n by omega]at s3 s5;rw[show n-3+3=n by omega]at s4;rcases s with _|⟨b,z⟩
  .have hk0:k=0:=hi.2 rfl;have hb:((k:Int)==0)=true:=by rw[hk0];rfl
   exact aI gX (.b (aV hk) (.o (aF hk) (.fr [1] s1 (.fr [1,2] s2 (.b hz (.fr [3] s3 (.RU (H2:=[.map (kV.im (tLk l d k)),.cells [.map 0],.nP ((tV (tLk l d k)).map Nu)]) [3,4] [0,1] s4 (.fr [5] s5 (.b hb (.nxG [.gc [6]] (ih _ (by simp))))))))))))
  have hk0:k≠0:=fun e=>by cases hi.1 e
  have hb:((k:Int)==0)=false:=bne (by omega);exact aI gX (.b (aV hk) (.o (aF hk) (.fr [2] s1 (.fr [2,3] s2 (.b hz (.fr [4] s3 (.RU (H2:=[.map (kV.im (tLk l d k)),.cells [.map 0],.nP ((tV (tLk l d k)).map Nu)]) [4,5] [0,1] s4 (.fr [6] s5 (.b hb (.ls (.nxG [.gc [7]] (ih _ (by simp))) (.nxG [.gc [1]] (ih _ (by simp)))))))))))))
 rcases s with _|⟨b,z⟩
 .exact aI gX (.b (dZ l.length) (.ou nofun))
 exact aI gX (.b (dZ l.length) (.ou nofun))
theorem ahO{n k ex}{l:List Dg}:jd (n+1) (.fn 93 [] []) [.own 0] [.list k ex 26 l] (.Hz 0) [.list k ex 26 l]:=fH gX (first:=[]) (cap:=[]) (.o (rfl:((0:Nat):Int)=0) (.o (rfl:(l.length:Int)=(l.length:Int)) (.o (rfl:(l.length:Int)=(l.length:Int)) .er)))
def anz:Option (Int×Int)⊕(Option (Int×Int)×Nat)->An
 |.inl none=>⟨8,false,false,0,0,0,false,[]⟩
 |.inl (some (b,z))=>⟨8,false,false,z,0,0,false,[b]⟩
 |.inr (none,_)=>⟨8,true,false,0,0,0,false,[]⟩
 |.inr (some (b,z),_)=>⟨8,true,false,z,0,0,false,[b]⟩
def a3u(p:List Dg×Dg):An×Int:=if decide ((p.1.length:Int)>4)=true then(X9,5)else if(bf (p.1++[p.2]) != 0)=true then(X9,bf (p.1++[p.2]))else if((p.1.length:Int)==0)=true then(X9,7)else(anz (jU (gLk p.1 p.2) p.1.length 0 none),0)
theorem cZ.got{call}{fv v:PV aH}{xs:List (PV aH)}{H H1:List (PB aH)}{β}{r:Ar X0 Qp β}{s}(hs:cZ X0 Qp call fv xs H v H1)(hg:r.get v=some s):cZ X0 Qp call fv xs H (r.put s) H1:=by intro A m h tf rJ hr hf hx;obtain⟨w,h',ws,m1,c1,c2,c3,c4⟩:=hs A m h tf rJ hr hf hx;exact⟨w,h',ws,m1,c1,c2,r.ok hg c3,c4⟩
theorem anB{n}(hn:24<=n)(D9:Ok n acB)(Fe:∀m,n-24<=m->Ok m rC){k ex l d}(h1:∀x∈l++[d],nT x)(h2:l.length<=1000):jd (n+1) (.fn 39 [] []) [.own 0,.agg d.ps] [.list k ex 26 l] ((dU (a2 ZC iA)).put (a3u (l,d))) [.list k ex 26 l]:=by
 have hl:l.length<=ah:=by unfold ah;omega
 have h3:0<(l++[d]).length/\(l++[d]).length<=ah:=by rw[a1v,a3J];unfold ah;omega
 have h4:l.length+[d].length<=ah:=by rw[a3J];unfold ah;omega
 have h5:[d]≠[]:=by simp
 have s0:=ahO (n:=n-1) (k:=k) (ex:=ex) (l:=l);rw[show n-1+1=n by omega]at s0;show cZ X0 Qp _ _ _ _ ((dU (a2 ZC iA)).put (if decide ((l.length:Int)>4)=true then(X9,5)else if(bf (l++[d]) != 0)=true then(X9,bf (l++[d]))else if((l.length:Int)==0)=true then(X9,7)else(anz (jU (gLk l d) l.length 0 none),0))) _;cases e1:decide ((l.length:Int)>4)
 .cases e2:(bf (l++[d]) != 0)
  .cases e3:((l.length:Int)==0)
   .have hk:LkP l d:=⟨h1,WQ h1 (by simpa using e2)⟩;have lp:=lLk (n:=n) hn Fe (k,ex) hk hl;revert lp;rcases jU (gLk l d) l.length 0 none with(_|⟨b,z⟩)|⟨_|⟨b,z⟩,j⟩
    .intro lp;exact cZ.got (v:=.dB [anW ⟨8,false,false,0,0,0,false,[]⟩ (.nil .aP),.int .i64 0]) (fH D9 (first:=[]) (cap:=[]) (.b e1 (.fr [0] s0 (.o h4 (.o h5 (.o h1 (.o h3 (.b e2 (.b e3 (.wG [.gc []] lp .er)))))))))) rfl
    .intro lp;exact cZ.gs hX (kH hX D9 (first:=[]) (cap:=[]) (v:=.dB [anW ⟨8,false,false,z,0,0,false,[]⟩ (.own 1),.int .i64 0]) (H1:=.list k ex 26 l::hLk b) (by kernel_rfl) (.b e1 (.fr [0] s0 (.o h4 (.o h5 (.o h1 (.o h3 (.b e2 (.b e3 (.wG [.gc []] lp .er)))))))))) [.fz 1,.gc []] rfl
    .intro lp;exact cZ.got (v:=.dB [anW ⟨8,true,false,0,0,0,false,[]⟩ (.nil .aP),.int .i64 0]) (fH D9 (first:=[]) (cap:=[]) (.b e1 (.fr [0] s0 (.o h4 (.o h5 (.o h1 (.o h3 (.b e2 (.b e3 (.wG [.gc []] lp .er)))))))))) rfl
    intro lp;exact cZ.gs hX (kH hX D9 (first:=[]) (cap:=[]) (v:=.dB [anW ⟨8,true,false,z,0,0,false,[]⟩ (.own 1),.int .i64 0]) (H1:=.list k ex 26 l::hLk b) (by kernel_rfl) (.b e1 (.fr [0] s0 (.o h4 (.o h5 (.o h1 (.o h3 (.b e2 (.b e3 (.wG [.gc []] lp .er)))))))))) [.fz 1,.gc []] rfl
   exact cZ.got (v:=.dB [anW X9 (.nil .aP),.int .i64 7]) (cZ.gs hX (kH hX D9 (first:=[]) (cap:=[]) (v:=.dB [anW X9 (.nil .aP),.int .i64 7]) (H1:=[.list k ex 26 l,.list true true 26 [d],.list true false 26 (l++[d])]) (by kernel_rfl) (.b e1 (.fr [0] s0 (.o h4 (.o h5 (.o h1 (.o h3 (.b e2 (.b e3 .er))))))))) [.gc []] rfl) rfl
  exact cZ.got (v:=.dB [anW X9 (.nil .aP),.int .i64 (bf (l++[d]))]) (cZ.gs hX (kH hX D9 (first:=[]) (cap:=[]) (v:=.dB [anW X9 (.nil .aP),.int .i64 (bf (l++[d]))]) (H1:=[.list k ex 26 l,.list true true 26 [d],.list true false 26 (l++[d])]) (by kernel_rfl) (.b e1 (.fr [0] s0 (.o h4 (.o h5 (.o h1 (.o h3 (.b e2 .er)))))))) [.gc []] rfl) rfl
 exact cZ.got (v:=.dB [anW X9 (.nil .aP),.int .i64 5]) (fH D9 (first:=[]) (cap:=[]) (.b e1 .er)) rfl
open Go Tw Pv bQ
def jg(d:Dg)(g:LI0):Jb:=⟨d.aj,d.aB,[d],g⟩
structure GOk(d:Dg)(g:LI0):Prop where
 len:g.length=d.aj.length
 v:∀c,fZ c d.aj.length->0<=g.getD c.toNat 0->g.getD c.toNat 0<d.aj.getD c.toNat 0
theorem anC{d}(hJ:kQ (dW [d])){g}(h:GOk d g):kQ (jg d g):=⟨hJ.d3,hJ.bG,hJ.ord,fun k hk=>have h:=hJ.dg k hk;⟨h.t,h.n,h.s,h.o,h.rk,h.two⟩,h.len,h.v⟩
theorem GOk.set{d g}(h:GOk d g){c k:Nat}(hk:(k:Int)<d.aj.getD (c:Int).toNat 0):GOk d (g.set (c:Int).toNat (k:Int)):=by
 refine⟨by rw[a5A];exact h.len,fun c2 LW h2=>?_⟩;by_cases e:(c:Int).toNat=c2.toNat
 .obtain⟨q0,q1⟩:=LW;rw[<-e,a2J,a1C (by rw[h.len];omega)];exact hk
 rw[a2J,a1w e,<-a2J]at h2 ⊢;exact h.v c2 LW h2
theorem ate{d}(hJ:kQ (dW [d])):GOk d (dW [d]).g:=⟨hJ.gl,hJ.gv⟩
abbrev jcF(d:Dg):List (PV aH):=[lI d.aj,lI d.aB,.own 0,.own 1,.fn 79 [] []]
abbrev hF(d:Dg)(g:LI0):List (PB aH):=[.list true true 26 [d],.list true true 3 g]
abbrev wFo(d:Dg)(v:V)(g:LI0)(c:Int)(x:List (Nat×PE aH)):bJ aH:=⟨[(3,.loc 1 0),(6,.loc 2 0),(29,xL 3 d.aj),(30,xi d.aj.length),(31,xi c)]++x,[d.ps,v.ps,jcF d],hF d g⟩
abbrev wFi(d:Dg)(v:V)(g:LI0)(c:Int)(i:Int)(x:List (Nat×PE aH)):bJ aH:=⟨[(3,.loc 1 0),(6,.loc 2 0),(8,xi c),(29,xL 3 d.aj),(30,xi d.aj.length),(31,xi c),(36,xi (d.aj.getD c.toNat 0)),(37,xi i)]++x,[d.ps,v.ps,jcF d],hF d g⟩
theorem aeZ{n f:Nat}{J k ex k2 Gm}(h:jd n (.fn 87 [] []) [.agg (J.ps (.fn f [] []))] [] (.map 0) [.map (kV.im (fG J))]):jd n (.fn 87 [] []) [a9s J f 0 1] [.list k ex 26 J.D,.list k2 Gm 3 J.g] (.map 2) [.list k ex 26 J.D,.list k2 Gm 3 J.g,.map (kV.im (fG J))]:=by have h1:=cZ.frame hX (ks:=[]) (H':=[.gone,.gone]) (Hp:=[]) (Rt:=[.map (kV.im (fG J))]) (v':=.map 2) (fv':=.fn 87 [] []) (xs':=[.agg (J.ps (.fn f [] []))]) h (by decide) rfl rfl rfl rfl rfl rfl rfl;exact cZ.lend hX (H:=[.list k ex 26 J.D,.list k2 Gm 3 J.g]) (cs:=[lI J.s,lI J.o,.own 0,.own 1]) (rest:=[.fn f [] []]) [0,1] h1 rfl (fun i hi=>by simpa[lC.kU,lC]using hi) rfl
def lkF(d:Dg)(v:V)(g:LI0):Int:=look (fG (jg d g)) v
def gIn(d:Dg)(v:V)(c:Nat)(k:Nat)(g:LI0):LI0⊕(LI0×Nat):=if decide (lkF d v (g.set (c:Int).toNat (k:Int))>0)=true then .inr (g.set (c:Int).toNat (k:Int),k)else .inl (g.set (c:Int).toNat (k:Int))
def oIn:LI0⊕(LI0×Nat)->LI0
 |.inl g=>g
 |.inr r=>r.1
def nIn(d:Dg)(c:Nat):Nat:=(d.aj.getD (c:Int).toNat 0).toNat
def a5q(d:Dg)(v:V)(c:Nat)(g:LI0):LI0:=oIn (jU (gIn d v c) (nIn d c) 0 g)
def zFi(d:Dg)(v:V)(c:Nat):LI0⊕(LI0×Nat)->Ex×bJ aH
 |.inl g=>(.exit 3,wFi d v g (c:Int) (nIn d c) [(38,xl false)])
 |.inr (g,k)=>(.exit 2,wFi d v g (c:Int) k [(49,xl true)])
theorem a9A{d v c}:∀(m k) (g),k+m<=nIn d c->GOk d g->GOk d (oIn (jU (gIn d v c) m k g))
 | 0,_,g,_,h=>h
 |m+1,k,g,hk,h=>by
  have h1:GOk d (g.set (c:Int).toNat (k:Int)):=h.set (by unfold nIn at hk;omega);simp only[jU,gIn];by_cases e:decide (lkF d v (g.set (c:Int).toNat (k:Int))>0)=true
  .rw[a15 e];exact h1
  rw[a0S e];exact a9A m (k+1) _ (by omega) h1
section
variable{n:Nat}(hn:24<=n)(hO:∀ m,n-24<=m->Ok m rC){d:Dg}(hJ:kQ (dW [d])){v:V}
include hn hO hJ
theorem lFi{c}(hc:c<d.aj.length){g}(hg:GOk d g):Lp n 28 1 (wFi d v g (c:Int) 0 []) (zFi d v c (jU (gIn d v c) (nIn d c) 0 g)).1 (zFi d v c (jU (gIn d v c) (nIn d c) 0 g)).2:=by
 have hz:=hJ.bG.sz (d.aj.getD (c:Int).toNat 0) (bV (show(c:Int).toNat<d.aj.length by simpa using hc));have hN:((nIn d c:Nat):Int)=d.aj.getD (c:Int).toNat 0:=by unfold nIn;omega
 refine iI (st:=fun i g=>wFi d v g (c:Int) i []) (g:=gIn d v c) (out:=zFi d v c) (s0:=g) (fun k g=>GOk d g) (by kernel_rfl) (by unfold ah;omega) hg (fun k g m hk hi ih=>?_) (fun g _=>?_)
 .have t1:decide ((k:Int)<d.aj.getD (c:Int).toNat 0)=true:=by rw[<-hN,a1z];omega
  have hg2:GOk d (g.set (c:Int).toNat (k:Int)):=hi.set (by rw[<-hN];omega);have i1:fZ (c:Int) g.length:=by rw[hi.len];exact aF hc
  have s2:=aeZ (k:=true) (ex:=true) (k2:=true) (Gm:=true) (QY (anC hJ hg2) (n:=n-2) (f:=79) (hO _ (by omega)) (show 0<[d].length by simp));rw[show n-2+2=n by omega]at s2;unfold gIn lkF;rcases Jy (Cj (jg d (g.set (c:Int).toNat (k:Int)))) v with hf|⟨hz2,hf⟩
  .exact aI gX (.b t1 (.o i1 (.fr [0,1] s2 (.c (.int .i64 (look (fG (jg d (g.set (c:Int).toNat (k:Int)))) v)) [] hf (.ls (.ouG [.gc [0,1]] nofun) (.nxG [.gc [0,1]] (ih _ hg2)))))))
  rw[hz2];exact aI gX (.b t1 (.o i1 (.fr [0,1] s2 (.a .calm (.o hf (.ls (.ouG [.gc [0,1]] nofun) (.nxG [.gc [0,1]] (ih _ hg2))))))))
 have t1:decide (((nIn d c:Nat):Int)<d.aj.getD (c:Int).toNat 0)=false:=by rw[<-hN];exact dZ _
 exact aI gX (.b t1 (.ou nofun))
set_option maxRecDepth 20000 in
theorem lFo:Lp n 28 0 (wFo d v (dW [d]).g 0 []) (.exit 1) (wFo d v (aQ (a5q d v) d.aj.length 0 (dW [d]).g) d.aj.length [(32,xl false)]):=by
 have hl:d.aj.length<=ah:=by have:d.aj.length<=6:=hJ.bG.len;unfold ah;omega
 refine MI (X:=X0) (N:=d.aj.length) (g:=a5q d v) (s0:=(dW [d]).g) (st:=fun c g=>wFo d v g c []) (fin:=fun g=>wFo d v g d.aj.length [(32,xl false)]) (fun _ g=>GOk d g) (by kernel_rfl) hl Ru (ate hJ) (fun c g hc hg=>a9A (nIn d c) 0 g (by omega) hg) (fun c g hc hg m e p g9=>?_) (fun g _=>?_)
 .have lp:=lFi hn hO hJ (v:=v) hc hg;unfold a5q at g9;revert lp g9;rcases jU (gIn d v c) (nIn d c) 0 g with g1|⟨g1,k⟩
  .intro g9 lp;exact aI gX (.b (aV hc) (.o (aF hc) (.w lp (.go g9))))
  intro g9 lp;exact aI gX (.b (aV hc) (.o (aF hc) (.w lp (.go g9))))
 exact aI gX (.b (dZ d.aj.length) .ex)
end
open Go Tw Pv bQ
def Jz(p:Dg×V):LI0×Int:=if(bf [p.1] != 0)=true then([],bf [p.1])else if(oQ p.2 != 0)=true then([],4)else if(look (fG (dW [p.1])) p.2==0)=true then([],7)else(aQ (a5q p.1 p.2) p.1.aj.length 0 (dW [p.1]).g,0)
def anD:gU aH:=bU 28 (a2 dA vA) (dU (a2 nY iA)) Jz (fun p=>[nT p.1]) acB
theorem rF(e):Fp (Γ:=X0.Γ) (Is (X:=X0) (P:=Qp) (dU (a2 nY iA)) (([]:LI0),e)) .n (.ret (some (.dB [.nil .aP,.int .i64 e]))):=by have h:(dU (a2 nY iA)).get (.dB [.nil .aP,.int .i64 e])=some (([]:LI0),e):=rfl;exact Fp.rn (X:=X0) (P:=Qp) _ h
theorem ath:Gd anD:=Good.adC 30 ant Jt aeY fun n hn hO Fe hO3 p hp=>by
 obtain⟨d,v⟩:=p;have h1:nT d:=hp _ gQ;obtain⟨n,rfl⟩:∃k,n=k+1:=⟨n-1,by omega⟩;have D9:=hO (n+1) (by omega);show nU X0 Qp _ _ _ ((dU (a2 nY iA)).put (if(bf [d] != 0)=true then([],bf [d])else if(oQ v != 0)=true then([],4)else if(look (fG (dW [d])) v==0)=true then([],7)else(aQ (a5q d v) d.aj.length 0 (dW [d]).g,0))) _;cases e1:(bf [d] != 0)
 .cases e2:(oQ v != 0)
  .have s1:=anq (n:=n) (by omega) (hO3 n (by omega)) (fun m hm=>Fe m (by omega)) h1 e1 e2;have hJ:kQ (dW [d]):=yh (D:=[d]) (by simp) (by simp) (a9t h1) (by simpa using e1);have s2:=aeZ (k:=true) (ex:=true) (k2:=true) (Gm:=true) (QY hJ (n:=n-1) (f:=79) (Fe _ (by omega)) (show 0<[d].length by simp));rw[show n-1+2=n+1 by omega]at s2;have lp:=lFo (n:=n+1) (by omega) (fun m hm=>Fe m (by omega)) hJ (v:=v);show nU X0 Qp _ _ _ ((dU (a2 nY iA)).put (if(look (fG (dW [d])) v==0)=true then([],7)else(aQ (a5q d v) d.aj.length 0 (dW [d]).g,0))) _;rcases Jy (Cj (dW [d])) v with hf|⟨hz,hf⟩
   .exact aN D9 (.fr [] s1 (.b (rfl:((0:Int) != 0)=false) (.fr [0,1] s2 (.c (.int .i64 (look (fG (dW [d])) v)) [] hf (.ss (rF _) (.wG [.gc [0,1]] lp .rr))))))
   .rw[hz];exact aN D9 (.fr [] s1 (.b (rfl:((0:Int) != 0)=false) (.fr [0,1] s2 (.a .calm (.o hf (.ss (rF _) (.wG [.gc [0,1]] lp .rr)))))))
  .have s1:=anp (n:=n) (v:=v) (hO3 n (by omega)) h1 e1 e2;exact aN D9 (.fr [] s1 (.b (rfl:((4:Int) != 0)=true) (rF _)))
 .have s1:=ano (n:=n) (v:=v) (hO3 n (by omega)) h1 e1;exact aN D9 (.fr [] s1 (.b e1 (rF _)))
open Go Tw Pv bQ
abbrev dz:List (PV aH):=[.nil .aP,.nil .aP,.nil .aP,.nil .aP,.int .i64 0]
abbrev cCh(s o:LI0):List (PV aH):=[lI s,lI o,.own 1,.aP 0 0 1 1 2 true,.int .i64 0]
abbrev hCh(c:Int)(x:List V×LI0):List (PB aH):=[.cells [.int .i64 c,.own 2],.list false false 39 x.1,.list false false 3 x.2]
abbrev wCh(s o:LI0)(c w n:Int)(y:List V×LI0)(i:Int)(x:List (Nat×PE aH)):bJ aH:=⟨[(3,xi w),(8,.loc 0 0),(11,.loc 1 0),(47,xi n),(48,xi i)]++x,[dz,cCh s o],hCh c y⟩
def gCh(w:Int)(i:Nat)(y:List V×LI0):List V×LI0:=(y.1++[⟨0,i64.wrap (w+(i:Int))⟩],y.2++[i64.wrap (-1-(i:Int))])
def chE(w:Int)(n:Nat):List V:=(List.range n).map fun(i:Nat)=>(⟨0,i64.wrap (w+(i:Int))⟩:V)
def chK(n:Nat):LI0:=(List.range n).map fun(i:Nat)=>i64.wrap (-1-(i:Int))
theorem Zm(w):∀n,aQ (gCh w) n 0 ([],[])=(chE w n,chK n)
 | 0=>rfl
 |n+1=>by rw[qO,Zm w n,a3C];unfold gCh chE chK;rw[abX,a4M,a4M];rfl
theorem lCh{n s o c w}{z:Nat}(hz:z<=12)(h0:s.getD c.toNat 0=(z:Int)):Lp n 57 0 (wCh s o c w (s.getD c.toNat 0) ([],[]) 0 []) (.exit 0) (wCh s o c w (s.getD c.toNat 0) (chE w z,chK z) z [(49,xl false)]):=by
 rw[<-Zm w z,h0];refine MI (X:=X0) (N:=z) (g:=gCh w) (s0:=([],[])) (st:=fun i y=>wCh s o c w (z:Int) y i []) (fin:=fun y=>wCh s o c w (z:Int) y z [(49,xl false)]) (fun k y=>y.1.length=k/\y.2.length=k) (by kernel_rfl) (by unfold ah;omega) Ru ⟨rfl,rfl⟩ (fun k y hk hi=>?_) (fun k y hk hi m e p g9=>?_) (fun y _=>?_)
 .unfold gCh;simp[hi.1,hi.2]
 .obtain⟨E,K⟩:=y;have a1:E.length+[(⟨0,i64.wrap (w+(k:Int))⟩:V)].length<=ah:=by rw[a3J];have:E.length=k:=hi.1;unfold ah;omega
  have a2:K.length+[i64.wrap (-1-(k:Int))].length<=ah:=by rw[a3J];have:K.length=k:=hi.2;unfold ah;omega
  exact aI gX (.b (aV hk) (.o a1 (.o a2 (.Zx [.gc [0,4,6]] g9))))
 exact aI gX (.b (dZ z) .ex)
def chD(s o:LI0)(c w:Int)(z:Nat):Dg:=⟨s,o,chE w z,[⟨c,chK z⟩],0⟩
theorem acD{n}(hO:Ok n a8R){s o c y}(hd:let d:Dg:=⟨s,o,y.1,[⟨c,y.2⟩],0⟩;Jg d/\d.aj.length<=ah/\d.aB.length<=2^20/\d.aO.length<=ah/\(((bH d).2 != 0)=false->ClP (bH d).1)) :jd n (.fn 108 [] []) [.agg (cCh s o)] (hCh c y) ((dU (a2 dA iA)).put (Aw ⟨s,o,y.1,[⟨c,y.2⟩],0⟩)) [.gone,.gone,.gone]:=by
 obtain⟨h1,h2,h3,h4,h5⟩:=hd;have k0:jd n (.fn 108 [] []) [.agg (⟨s,o,y.1,[⟨c,y.2⟩],0⟩:Dg).ps] [] ((dU (a2 dA iA)).put (Aw ⟨s,o,y.1,[⟨c,y.2⟩],0⟩)) []:=nU.YW hX (first:=[]) (cap:=[]) (hO 108 [.agg (⟨s,o,y.1,[⟨c,y.2⟩],0⟩:Dg).ps] ((dU (a2 dA iA)).put (Aw ⟨s,o,y.1,[⟨c,y.2⟩],0⟩)) [] _ (by kernel_rfl) (fun p h=>by
  rcases a1B.1 h with rfl|h
  .exact h1
  rcases a1B.1 h with rfl|h
  .exact h2
  rcases a1B.1 h with rfl|h
  .exact h3
  rcases a1B.1 h with rfl|h
  .exact h4
  rw[a2m.1 h];exact h5)) rfl rfl rfl rfl
 have k1:=cZ.frame hX (ks:=[]) (H':=[.gone,.gone,.gone]) (Hp:=[]) (Rt:=[]) (v':=(dU (a2 dA iA)).put (Aw ⟨s,o,y.1,[⟨c,y.2⟩],0⟩)) (fv':=.fn 108 [] []) (xs':=[.agg (⟨s,o,y.1,[⟨c,y.2⟩],0⟩:Dg).ps]) k0 (by decide) rfl rfl rfl rfl rfl rfl rfl;exact cZ.cell1 hX (H:=hCh c y) (NY:=[lI s,lI o,.own 1]) (ws1:=[lI s,lI o,lV y.1]) (cs:=[.int .i64 c,.own 2]) (ET:=[.int .i64 0]) (ws2:=[.int .i64 0]) (i:=0) (e:=105) (sz:=2) (row:=(⟨c,y.2⟩:Br)) [1,2] rfl (by kernel_rfl) (by decide) rfl rfl k1 rfl rfl rfl (fun j hj=>by simp[lC.kU,lC]at hj ⊢;omega) (fun j hj=>by simp[lC.kU,lC]at hj ⊢;omega) (fun j hj=>by simp[lC.kU,lC]at hj)
open Go Tw Pv bQ
theorem acE(w z):(chE w z).length=z:=by simp[chE]
theorem acF(z):(chK z).length=z:=by simp[chK]
structure ChP(s o:LI0)(c w:Int)(z:Nat):Prop where
 f:aY s o=0
 ic:fZ c s.length
 ez:s.getD c.toNat 0=(z:Int)
 z12:z<=12
 w0:-9999<=w
 w1:w+z<=10000
section
variable{s o:LI0}{c w:Int}{z:Nat}(h:ChP s o c w z)
include h
theorem acG{v}(hv:v∈chE w z):∃j,j<z/\v=⟨0,w+(j:Int)⟩:=by unfold chE at hv;obtain⟨j,hj,rfl⟩:=a1u.1 hv;have:=a5y.1 hj;have:=h.w0;have:=h.w1;have:=h.z12;exact⟨j,by omega,by rw[wrap_small (by omega) (by omega)]⟩
theorem acH{k}(hk:k<z):(chK z).getD k 0=-1-(k:Int):=by have:=h.z12;unfold chK;rw[a2J,a5w,ab9 hk];show i64.wrap (-1-(k:Int))=_;rw[wrap_small (by omega) (by omega)]
theorem ahP:∀v∈chE w z,HY v:=fun v hv=>by obtain⟨j,hj,rfl⟩:=acG h hv;have:=h.w0;have:=h.w1;exact zi.2 ⟨by show(0:Int)<=0;omega,by show(0:Int)<=4;omega,fun _=>⟨by show -9999<=w+(j:Int);omega,by show w+(j:Int)<=9999;omega⟩,fun hz=>absurd rfl hz⟩
theorem anE:Jg (chD s o c w z):=⟨fun i hi k hk=>by
 have:i=0:=by have:i<1:=hi;omega
 subst this;have hk3:k<z:=by rw[<-acF z];exact hk
 show Hg ((chK z).getD k 0);rw[acH h hk3,<-wrap_small (z:=-1-(k:Int)) (by have:=h.z12;omega) (by omega)];exact QV _,by show Hg 0;rw[<-wrap_small (z:=0) (by omega) (by omega)];exact QV _,fun v hv=>(ahP h v hv).2⟩
theorem acI:Jg (chD s o c w z)/\(chD s o c w z).aj.length<=ah/\(chD s o c w z).aB.length<=2^20/\(chD s o c w z).aO.length<=ah/\(((bH (chD s o c w z)).2 != 0)=false->ClP (bH (chD s o c w z)).1):=by
 obtain⟨bG,ord⟩:=iL.1 h.f;have hr:=anE h;have h6:s.length<=6:=bG.len;have OM:o.length=s.length:=by unfold jC at ord;rw[a1z]at ord;exact ord.1
 have hl:=acE w z;have hz:=h.z12;have e1:(chD s o c w z).aO.length+1<=ah:=by show(chE w z).length+1<=ah;rw[hl];unfold ah;omega
 have e2:(chD s o c w z).aj.length<=ah:=by show s.length<=ah;unfold ah;omega
 refine⟨hr,e2,by show o.length<=2^20;omega,by omega,fun h0=>?_⟩;obtain⟨q1,q2⟩:=yg hr e1 e2 (by show o.length<=ah;unfold ah;omega) (by simpa using h0);rw[q1];exact q2
end
def Rj(p:LI0×LI0×Int×Int):Dg×Int:=if(aY p.1 p.2.1 != 0)=true then(gK,aY p.1 p.2.1)else if(!(Oi 0 (i64.wrap ((p.1.length:Int)-1)) p.2.2.1))=true then(gK,3)else if(!(Oi (-9999) (i64.wrap (i64.wrap (9999-p.1.getD p.2.2.1.toNat 0)+1)) p.2.2.2))=true then(gK,3)else Aw (chD p.1 p.2.1 p.2.2.1 p.2.2.2 (p.1.getD p.2.2.1.toNat 0).toNat)
theorem ahQ{a b x}(h:(!(Oi a b x))=false):a<=x/\x<=b:=by
 unfold Oi at h;by_cases h1:x>=a
 .simp[h1]at h;exact⟨h1,h⟩
 simp[h1]at h
theorem ahR{s o c w}(e1:(aY s o != 0)=false)(hc:fZ c s.length)(e3:(!(Oi (-9999) (i64.wrap (i64.wrap (9999-s.getD c.toNat 0)+1)) w))=false):ChP s o c w (s.getD c.toNat 0).toNat:=by
 have f:aY s o=0:=by simpa using e1
 obtain⟨bG,ord⟩:=iL.1 f;have hz:=bG.sz (s.getD c.toNat 0) (bV (show c.toNat<s.length by obtain⟨a,b⟩:=hc;omega));obtain⟨z0,z1⟩:=hz;obtain⟨w0,w1⟩:=ahQ e3;rw[wrap_small (z:=9999-s.getD c.toNat 0) (by omega) (by omega),wrap_small (by omega) (by omega)]at w1;exact⟨f,hc,by omega,by omega,w0,by omega⟩
def acJ:gU aH:=bU 57 (a4 nY nY iA iA) (dU (a2 dA iA)) Rj (fun p=>[p.1.length<=ah,p.2.1.length<=2^20]) anD
theorem anF:Gd acJ:=Good.U3 0 ath aeL fun n hn hO Fe p hp=>by obtain⟨s,o,c,w⟩:=p;have h1:s.length<=ah:=hp _ gQ;have h2:o.length<=2^20:=hp _ vX;have hc:(!(Oi 0 (i64.wrap ((s.length:Int)-1)) c))=false->fZ c s.length:=fun e2=>a9n e2 h1;have hP:=fun(e1:(aY s o != 0)=false) (e2:(!(Oi 0 (i64.wrap ((s.length:Int)-1)) c))=false) (e3:(!(Oi (-9999) (i64.wrap (i64.wrap (9999-s.getD c.toNat 0)+1)) w))=false)=>ahR e1 (hc e2) e3;have lp:=fun(e1:(aY s o != 0)=false) (e2:(!(Oi 0 (i64.wrap ((s.length:Int)-1)) c))=false) (e3:(!(Oi (-9999) (i64.wrap (i64.wrap (9999-s.getD c.toNat 0)+1)) w))=false)=>lCh (n:=n) (s:=s) (o:=o) (c:=c) (w:=w) (hP e1 e2 e3).z12 (hP e1 e2 e3).ez;have s1:=fun(e1:(aY s o != 0)=false) (e2:(!(Oi 0 (i64.wrap ((s.length:Int)-1)) c))=false) (e3:(!(Oi (-9999) (i64.wrap (i64.wrap (9999-s.getD c.toNat 0)+1)) w))=false)=>acD (n:=n) (Fe n (by omega)) (s:=s) (o:=o) (c:=c) (y:=(chE w (s.getD c.toNat 0).toNat,chK (s.getD c.toNat 0).toNat)) (acI (hP e1 e2 e3));show nU X0 Qp _ _ _ ((dU (a2 dA iA)).put (if(aY s o != 0)=true then(gK,aY s o)else if(!(Oi 0 (i64.wrap ((s.length:Int)-1)) c))=true then(gK,3)else if(!(Oi (-9999) (i64.wrap (i64.wrap (9999-s.getD c.toNat 0)+1)) w))=true then(gK,3)else Aw (chD s o c w (s.getD c.toNat 0).toNat))) _;exact aN (hO n (by omega)) (.o h1 (.o h2 (.sh (fun _=>rE _) fun e1=>.sh (fun _=>rE _) fun e2=>.o (hc e2) (.sh (fun _=>rE _) fun e3=>.a (.RU [] [] (.nil .aP) []) (.o (hc e2) (.wG [.PD 1 2 39,.Vr 0 1 3] (lp e1 e2 e3) (.fr [0,1,2] (s1 e1 e2 e3) .rr)))))))
open Go Tw Pv bQ
structure Rk(d:Dg):Prop where
 t:CV d
 n:d.au.length<=6000
 l:aW d=0
 f:qy d.aj
 o:d.aB.length<=ah
 e:d.aO.length<=ah
def gLs(d:Dg)(k:Nat)(l:List V):List V:=l++[vT d (iV d.aj k)]
theorem ahS(d):aQ (gLs d) (uK d.aj) 0 []=cellsD d:=by have:=bP (g:=gLs d) (m:=uK d.aj) (k:=0) (s:=[]) (fun k l=>l=(List.range k).map fun(k:Nat)=>vT d (iV d.aj k)) rfl (fun j l _ _ e=>by rw[gLs,e,abX,a4M];rfl);rw[a3C]at this;exact this
abbrev wLs(d:Dg)(y:List V)(i:Int)(x:List (Nat×PE aH)):bJ aH:=⟨[(1,.loc 0 0),(3,.val (.own 0)),(4,xi i)]++x,[d.ps],[.list false false 39 y]⟩
theorem lLs{n}(hO:Ok n acJ)(d)(h:Rk d):JH n 44 0 0 (wLs d [] 0 []) (.exit 0) (wLs d (cellsD d) (uK d.aj) [(12,xl false)]):=by
 have hs:d.aj.length<=ah:=by have:=h.f.len;unfold ah;omega
 have hc:uK d.aj<=ah:=by have:=h.f.uK;have:=h.f.adB;have:=h.f.many;unfold ah;omega
 rw[<-ahS d];refine qY (σ:=List V) (N:=uK d.aj) (g:=gLs d) (s0:=[]) (st:=fun i y=>wLs d y i []) (fin:=fun y=>wLs d y (uK d.aj) [(12,xl false)]) (fun k y=>y.length=k) (by kernel_rfl) hc rfl (fun j y hj hy=>by simp[gLs,hy]) (fun j y hj hy m e p g9=>?_) (fun y _=>?_)
 .have h2:y.length+[vT d (iV d.aj j)].length<=ah:=by rw[hy,a3J];omega
  exact aI hO (.o hs (.b (h.f.lt hj) (.o hs (.o h.f.sz (.o (show(0:Int)<=(j:Int) by omega) (.o (show(j:Int)<2^62 by unfold ah at hc;omega) (.o h.t (.o h.n (.o (qX (j:Int) h.f.sz) (.o h2 (.Zx [.gc [2]] g9)))))))))))
 exact aI hO (.o hs (.b h.f.no .ex))
def anH:gU aH:=bU 44 (a1 dA) vsA cellsD (fun d=>[Rk d]) acJ
theorem atj:Gd anH:=anF.add fun n hO p hp=>by
 have h:Rk p:=hp _ gQ;have hb:(aW p != 0)=false:=by rw[h.l];rfl
 exact aN hO (.o h.o (.o h.e (.b hb (.wG [.FM 3 39] (lLs (n:=n) hO p h) .rr))))
def anI:gU aH:=bU 81 (a1 nY) nY (fun p=>p) (fun p=>[p.length<=ah]) anH
theorem atl:Gd anI:=atj.add fun n hO p hp=>aN hO (.o (hp _ gQ) .rr)
def anJ:gU aH:=bU 82 (a1 vsA) vsA (fun p=>p) (fun p=>[p.length<=ah]) anI
theorem atm:Gd anJ:=atl.add fun n hO p hp=>aN hO (.o (hp _ gQ) .rr)
def anK:gU aH:=bU 56 (a1 nY) nY (fun p=>p) (fun p=>[p.length<=ah]) anJ
theorem atn:Gd anK:=atm.add fun n hO p hp=>aN hO (.o (hp _ gQ) .rr)
def ahT:gU aH:=bU 48 (a1 iA) vA (fun p=>(⟨0,p⟩:V)) np anK
theorem ato:Gd ahT:=atn.add fun n hO p hp=>aN hO .rr
open Go Tw Pv bQ
structure Fq(d:Dg):Prop where
 s:d.aj.length<=ah
 o:d.aB.length<=ah
 e:d.aO.length<=ah
 n:d.au.length<=ah
 k:∀b∈d.au,b.aA.length<=ah
abbrev ahU(a b:Dg)(i:Int)(x:List (Nat×PE aH)):bJ aH:=⟨[(2,.loc 0 0),(3,.loc 1 0),(5,xi i)]++x,[a.ps,b.ps],[]⟩
def a1e(a b:Dg)(k:Nat):Bool:=if((a.au.getD k kP).var != (b.au.getD k kP).var)=true then true else !(decide ((a.au.getD k kP).aA=(b.au.getD k kP).aA))
def ahV(a b:Dg):Unit⊕Nat->Ex×bJ aH
 |.inl _=>(.exit 0,ahU a b a.au.length [(48,xl false)])
 |.inr _=>(.ret,⟨[(4,xl false)],[a.ps,b.ps],[]⟩)
theorem anL{n}(hO:Ok n ahT){a b}(h:Fq a)(hl:a.au.length=b.au.length):Lp n 72 0 (ahU a b 0 []) (ahV a b (aZ (a1e a b) a.au.length)).1 (ahV a b (aZ (a1e a b) a.au.length)).2:=by
 refine iI (st:=fun i _=>ahU a b i []) (g:=gS (a1e a b)) (out:=ahV a b) (fun _ _=>True) (by kernel_rfl) h.n trivial (fun k u m hk _ ih=>?_) (fun _ _=>?_)
 .have i1:fZ (k:Int) a.au.length:=aF hk;have i2:fZ (k:Int) b.au.length:=aF (by omega);have h9:=h.k _ (dw (d:=kP) hk);unfold gS a1e;cases e1:((a.au.getD k kP).var != (b.au.getD k kP).var)
  .exact aI hO (.b (aV hk) (.o i1 (.o i2 (.b e1 (.o i1 (.o i2 (.o h9 (.ls (.ou nofun) (.nx (ih _ trivial))))))))))
  exact aI hO (.b (aV hk) (.o i1 (.o i2 (.b e1 (.ou nofun)))))
 exact aI hO (.b (dZ a.au.length) (.ou nofun))
def Nv(a b:Dg):Bool:=if(!(decide (a.aj=b.aj)))=true then false else if(!(decide (a.aB=b.aB)))=true then false else if(!(decide (a.aO=b.aO)))=true then false else if((a.au.length:Int) != (b.au.length:Int))=true then false else if(a.root != b.root)=true then false else if jO (aZ (a1e a b) a.au.length)=true then true else false
def anM:gU aH:=bU 72 (a2 dA dA) tA (fun p=>Nv p.1 p.2) (fun p=>[Fq p.1]) ahT
theorem atp:Gd anM:=ato.add fun n hO p hp=>aN hO (.o (show Fq p.1 from hp _ gQ).s (.ss .rr (.o (show Fq p.1 from hp _ gQ).o (.ss .rr (.o (show Fq p.1 from hp _ gQ).e (.ss .rr (.sh (fun _=>.rr) fun h4=>.ss .rr (.zh (fun h=>.w (kW (anL hO (show Fq p.1 from hp _ gQ) (show p.1.au.length=p.2.au.length by simp at h4;omega)) () h) .rr) fun h=>.w (kX (anL hO (show Fq p.1 from hp _ gQ) (show p.1.au.length=p.2.au.length by simp at h4;omega)) 0 h) .rr))))))))
def anN:gU aH:=bU 25 (a3 dA iA dA) tA (fun p=>(if(p.2.1==0)=true then Nv p.1 p.2.2 else false)) (fun p=>[Fq p.1]) anM
theorem atq:Gd anN:=atp.add fun n hO p hp=>aN hO (.ss (.o (hp _ gQ) .rr) .rr)
def anO:gU aH:=bU 24 (a1 dA) tA (fun p=>Nv p gK) (fun p=>[Fq p]) anN
theorem atr:Gd anO:=atq.add fun n hO p hp=>aN hO (.o (hp _ gQ) .rr)
def WT(s o:LI0):Bool:=if decide ((s.length:Int)>8)=true then false else if decide ((o.length:Int)>8)=true then false else if(aY s o != 0)=true then true else decide (Ae s<=200)
def ahW:gU aH:=bU 54 (a2 nY nY) tA (fun p=>WT p.1 p.2) np anO
theorem att:Gd ahW:=atr.add fun n hO p hp=>aN hO (.sh (fun _=>.rr) fun h1=>.sh (fun _=>.rr) fun h2=>.o (show p.2.length<=ah by simp at h2;unfold ah;omega) (.ss .rr (.o (show p.1.length<=ah by simp at h1;unfold ah;omega) .rr)))
open Go Tw Pv bQ
abbrev wCp(d:Dg)(acc:List Br)(i:Int)(x:List (Nat×PE aH)):bJ aH:=⟨[(1,.loc 0 0),(2,.loc 1 0),(3,.loc 2 0),(4,xi i)]++x,[d.ps,[.nil .aP,.nil .aP,.nil .aP,.nil .aP,.int .i64 0],[lI d.aj,lI d.aB,lV d.aO,.own 0,.int .i64 d.root]],[.list false false 105 acc]⟩
theorem lCp{n d}(hO:Ok n ahW)(h:Fq d):Lp n 21 0 (wCp d [] 0 []) (.exit 0) (wCp d d.au d.au.length [(21,xl false)]):=by
 have e:aQ (fun k (a:List Br)=>a++[d.au.getD k kP]) d.au.length 0 []=d.au:=by rw[Qd,KW d.au kP fun r=>r,List.map_id']
 rw[show wCp d d.au d.au.length [(21,xl false)]=wCp d (aQ (fun k (a:List Br)=>a++[d.au.getD k kP]) d.au.length 0 []) d.au.length [(21,xl false)] by rw[e]];refine qY (σ:=List Br) (N:=d.au.length) (g:=fun k (a:List Br)=>a++[d.au.getD k kP]) (s0:=([]:List Br)) (st:=fun i a=>wCp d a i []) (fin:=fun a=>wCp d a d.au.length [(21,xl false)]) (fun k a=>a.length=k) (by kernel_rfl) h.n rfl (fun k a _ h=>by simp[h]) (fun k a hk ha m e p g9=>?_) (fun a _=>?_)
 .have hm:=h.k (d.au.getD k kP) (dw hk);have hn:=h.n;have hal:a.length+[d.au.getD k kP].length<=ah:=by have:a.length=k:=ha;rw[a3J];omega
  exact aI hO (.b (aV hk) (.o (aF hk) (.o (aF hk) (.o hm (.o hal (.Zx [.gc [2]] g9))))))
 exact aI hO (.b (dZ d.au.length) .ex)
def ahX:gU aH:=bU 21 (a1 dA) dA (fun p=>p) (fun p=>[Fq p]) ahW
theorem atu:Gd ahX:=att.add fun n hO p hp=>aN hO (.o (show Fq p from hp _ gQ).s (.o (show Fq p from hp _ gQ).o (.o (show Fq p from hp _ gQ).e (.wG [.PD 2 3 105] (lCp hO (hp _ gQ)) .rr))))
abbrev wTh(d:Dg)(i:Int)(x:List (Nat×PE aH)):bJ aH:=⟨[(1,.loc 0 0),(3,xi i)]++x,[d.ps],[]⟩
def cTh(d:Dg)(k:Nat):Bool:=decide (((d.au.getD k kP).aA.length:Int)>14)
def zTh(d:Dg):Unit⊕Nat->Ex×bJ aH
 |.inl _=>(.exit 0,wTh d d.au.length [(26,xl false)])
 |.inr _=>(.ret,⟨[(2,xl false)],[d.ps],[]⟩)
theorem lTh{n}(hO:Ok n ahX){d}(h:d.au.length<=ah):Lp n 18 0 (wTh d 0 []) (zTh d (aZ (cTh d) d.au.length)).1 (zTh d (aZ (cTh d) d.au.length)).2:=by
 refine iI (st:=fun i _=>wTh d i []) (g:=gS (cTh d)) (out:=zTh d) (fun _ _=>True) (by kernel_rfl) h trivial (fun k u m hk _ ih=>?_) (fun _ _=>?_)
 .unfold gS cTh;exact aI hO (.b (aV hk) (.o (aF hk) (.ls (.ou nofun) (.nx (ih _ trivial)))))
 exact aI hO (.b (dZ d.au.length) (.ou nofun))
def LH(d:Dg):Bool:=if(!(WT d.aj d.aB))=true then false else if decide ((d.aO.length:Int)>40)=true then false else if decide ((d.au.length:Int)>60)=true then false else if jO (aZ (cTh d) d.au.length)=true then true else false
def anR:gU aH:=bU 18 (a1 dA) tA (fun p=>LH p) np ahX
theorem atx:Gd anR:=atu.add fun n hO p hp=>aN hO (.ss .rr (.ss .rr (.sh (fun _=>.rr) fun h3=>.zh (fun h=>.w (kW (lTh hO (show p.au.length<=ah by simp at h3;unfold ah;omega)) () h) .rr) fun h=>.w (kX (lTh hO (show p.au.length<=ah by simp at h3;unfold ah;omega)) 0 h) .rr)))
theorem Zn{d}(h:LH d=true):Fq d/\d.aj.length<=8/\d.aB.length<=8/\d.aO.length<=40/\d.au.length<=60:=by
 unfold LH at h;split at h
 .cases h
 rename_i h1;split at h
 .cases h
 rename_i h2;split at h
 .cases h
 rename_i h3;split at h
 .rename_i h4;have h1:WT d.aj d.aB=true:=by simpa using h1
  unfold WT at h1;split at h1
  .cases h1
  rename_i q1;split at h1
  .cases h1
  rename_i q2;simp at h2 h3 q1 q2;refine⟨⟨by unfold ah;omega,by unfold ah;omega,by unfold ah;omega,by unfold ah;omega,fun b hb=>?_⟩,by omega,by omega,by omega,by omega⟩;obtain⟨k,hk,e⟩:=a90 hb;have:=cO.1 h4 k hk;unfold cTh at this;rw[a2J,a0A hk,a5K,e]at this;simp at this;unfold ah;omega
 cases h
open Go Tw Pv bQ
theorem Zo{d}(h:aW d=0):aY d.aj d.aB=0:=by
 unfold aW at h;split at h
 .rename_i c;rw[h]at c;cases c
 rename_i c;simpa using c
theorem Rk.of{d}(h:Rk d){l}(hl:l.length=uK d.aj):OfP d.aj d.aB l/\(PtP d.aj d.aB l/\d.aB.length<=6/\wO d.aj d.aB<=ah):=by obtain⟨bG,ord⟩:=iL.1 (Zo h.l);have ho:OfP d.aj d.aB l:=⟨bG,ord,by rw[hl,bG.RZ]⟩;obtain⟨q1,q2,q3⟩:=ho.p;have hw:=BP bG.sz ord;have hm:=bG.many;have h6:=bG.len;exact⟨ho,q1,by omega,by unfold ah;omega⟩
open Go Tw Pv bQ
def dX:Dg:=⟨[2,3],[0,1],[⟨0,1⟩,⟨0,2⟩],[⟨0,[-1,-2]⟩],0⟩
def dY:Dg:=⟨[2,3],[0,1],[⟨0,0⟩,⟨0,1⟩,⟨0,2⟩],[⟨1,[-1,-2,-3]⟩],0⟩
def cL(l:LI0):List V:=l.map fun n=>⟨0,n⟩
theorem a5r:Rj ([2,3],[0,1],0,1)=(dX,0):=by kernel_rfl
def dIf:Dg:=(Zh (dY,dX,dY)).1
theorem anS:(Zh (dY,dX,dY)).2=0/\gZ dIf=0/\cellsD dIf=cL [0,1,1,0,2,2]:=⟨by kernel_rfl,by kernel_rfl,by kernel_rfl⟩
def dRs:Dg:=(MZ (dY,1,2)).1
theorem ahZ:(MZ (dY,1,2)).2=0/\gZ dRs=0/\cellsD dRs=cL [2,2,2,2,2,2]:=⟨by kernel_rfl,by kernel_rfl,by kernel_rfl⟩
def dWh:Dg:=(jD dY).1
theorem a9D:(jD dY).2=0/\gZ dWh=0/\cellsD dWh=cL [0,1,0,0,1,0]:=⟨by kernel_rfl,by kernel_rfl,by kernel_rfl⟩
theorem acK:WS (dY,⟨0,2⟩)=(2,0):=by kernel_rfl
theorem a9E:Jz (dX,⟨0,2⟩)=([1,0],0):=by kernel_rfl
def Hw:Dg:=(yj (10,dX,dY)).1
theorem ai0:(yj (10,dX,dY)).2=0:=by kernel_rfl
def dLe:Dg:=(yj (14,dX,dY)).1
theorem anT:(yj (14,dX,dY)).2=0:=by kernel_rfl
theorem acL:a3u ([dX,dY],dLe)=(⟨8,false,false,2,0,0,false,[0]⟩,0):=by kernel_rfl
def WU:List (V×Int):=fG (dW [Hw,dX])
theorem anU:mZ WU=[0,1]:=by
 have e:((WU.filter fun e=>!decide (e.1.f>0)).map fun e=>e.1.n)=[0,1]:=by kernel_rfl
 unfold mZ;rw[e];unfold iC;exact List.mergeSort_of_pairwise (by simp)
theorem ai2:a3t (4,Hw,dX)=(⟨4,false,false,0,0,1,true,[]⟩,0):=by
 have e1:bf [Hw,dX]=0:=by kernel_rfl
 have e2:vU WU=true:=by kernel_rfl
 have e3:WU≠[]:=by
  intro h;have h2:WU.length=0:=by rw[h];rfl
  have h3:WU.length=3:=by kernel_rfl
  omega
 show(if(bf [Hw,dX] != 0)=true then(X9,bf [Hw,dX])else Hu 4 WU)=_;rw[e1];show Hu 4 WU=_;unfold Hu;rw[a0S e3];show(if mZ WU=[]then _ else _)=_;rw[anU,e2];rfl
open Go Tw Pv bQ
def ai3:gU aH:=bU 73 agh (dU (a2 dA dA)) (fun p=>(dX,dY)) np anR
theorem aty:Gd ai3:=atx.add fun n hO p hp=>aN hO .rr
abbrev anP(a:An):List (PV aH):=[.int .u8 a.q,.bool a.none,.bool a.yes,.int .i64 a.n,.int .i64 a.lo,.int .i64 a.hi,.bool a.fault,lI a.set,.nil .aP]
abbrev wSa(a b:An)(i:Int)(x:List (Nat×PE aH)):bJ aH:=⟨[(2,.loc 0 0),(3,.loc 1 0),(5,xi i)]++x,[anP a,anP b],[]⟩
theorem lSa{n}(hO:Ok n ai3){a b}:Lp n 35 0 (wSa a b 0 []) (.exit 0) (wSa a b 0 [(74,xl false)]):=by have:=MI (X:=X0) (P:=Qp) (T:=T) (L:=LL) (call:=iD n) (f:=35) (iG:=false) (nt:=Di Qp 35) (B:=0) (b:=U0 Qp 35 0) (σ:=Unit) (N:=0) (g:=fun _ s=>s) (s0:=()) (st:=fun i _=>wSa a b i []) (fin:=fun _=>wSa a b 0 [(74,xl false)]) (w:=wSa a b 0 []) (e:=.exit 0) (fun _ _=>True) (by kernel_rfl) (a5D _) Ru trivial (fun _ _ _ _=>trivial) (fun k s hk=>absurd hk (ai1 _)) (fun s _=>aI hO (.b (rfl:decide ((0:Int)<0)=false) .ex));exact this
def acM(a b:An):Bool:=if(a.q != b.q)=true then false else if(!(a.none==b.none))=true then false else if(!(a.yes==b.yes))=true then false else if(a.n != b.n)=true then false else if(a.lo != b.lo)=true then false else if(a.hi != b.hi)=true then false else if(!(a.fault==b.fault))=true then false else if(!(decide (a.set=b.set)))=true then false else true
def ai4:gU aH:=bU 35 (a2 ZC ZC) tA (fun p=>acM p.1 p.2) (fun p=>[p.1.set.length<=ah]) ai3
theorem atz:Gd ai4:=aty.add fun n hO p hp=>aN hO (.ss .rr (.ss .rr (.ss .rr (.ss .rr (.ss .rr (.ss .rr (.ss .rr (.o (hp _ gQ) (.ss .rr (.b (rfl:((0:Int) != 0)=false) (.w (lSa (a:=p.1) (b:=p.2) hO) .rr)))))))))))
open Go Tw Pv bQ
theorem Oj{d}(ho:d.aB.length<=ah)(he:d.aO.length<=ah)(h:(gZ d==0)=true):Rk d:=by
 have h:gZ d=0:=by simpa using h
 have h0:aW d=0:=by
  unfold gZ at h;split at h
  .rename_i c;rw[h]at c;cases c
  rename_i c;simpa using c
 obtain⟨t,n⟩:=jy ho he (by rw[h0];rfl);exact⟨t,n,h0,t.bG,ho,he⟩
abbrev wLz(d:Dg)(e:Int)(l:LI0)(acc:List V)(i:Int)(x:List (Nat×PE aH)):bJ aH:=⟨[(1,xi e),(2,xL 3 l),(3,.loc 0 0),(7,.val (.own 0)),(8,xi i)]++x,[d.ps],[.list false false 39 acc]⟩
theorem lLz{n}(hO:Ok n ai4)(d e){l}(hl:l.length<=1000):Lp n 74 0 (wLz d e l [] 0 []) (.exit 0) (wLz d e l (cL l) l.length [(12,xl false)]):=by
 have e1:aQ (fun k (a:List V)=>a++[(⟨0,l.getD k 0⟩:V)]) l.length 0 []=cL l:=by rw[Qd,KW l 0 fun r=>(⟨0,r⟩:V)];rfl
 rw[<-e1];refine qY (σ:=List V) (N:=l.length) (g:=fun k (a:List V)=>a++[(⟨0,l.getD k 0⟩:V)]) (s0:=([]:List V)) (st:=fun i a=>wLz d e l a i []) (fin:=fun a=>wLz d e l a l.length [(12,xl false)]) (fun k a=>a.length=k) (by kernel_rfl) (by unfold ah;omega) rfl (fun k a _ h=>by simp[h]) (fun k a hk ha m e p g9=>?_) (fun a _=>?_)
 .have hal:a.length+[(⟨0,l.getD k 0⟩:V)].length<=ah:=by have:a.length=k:=ha;rw[a3J];unfold ah;omega
  exact aI hO (.b (aV hk) (.o (aF hk) (.o hal (.Zx [.gc [2]] g9))))
 exact aI hO (.b (dZ l.length) .ex)
def anX(p:Dg×Int×LI0):Bool:=if(p.2.1==0)=true then(if(gZ p.1==0)=true then decide (cellsD p.1=cL p.2.2)else false)else false
def acN:gU aH:=bU 74 (a3 dA iA nY) tA (fun p=>anX p) (fun p=>[p.1.aB.length<=ah,p.1.aO.length<=ah,p.2.2.length<=1000,(cellsD p.1).length<=ah]) ai4
theorem atA:Gd acN:=atz.add fun n hO p hp=>aN hO (.wG [.FM 7 39] (lLz hO p.1 p.2.1 (hp _ hh2)) (.ss (.o (hp _ gQ) (.o (hp _ vX) (.sh (fun h=>.o (Oj (hp _ gQ) (hp _ vX) h) (.o (hp _ (.tail _ (.tail _ (.tail _ (.head _))))) .rr)) (fun _=>.rr)))) .rr))
open Go Tw Pv bQ
theorem WV{d}(h:((d.au.all fun n=>n.aA.all fun k=>decide (-1000<=k)&&decide (k<=1000))&&(decide (-1000<=d.root)&&decide (d.root<=1000))&&(d.aO.all fun v=>decide (0<=v.f))&&(decide (d.aj.length<=100)&&decide (d.aB.length<=100)&&decide (d.aO.length<=100)))=true):nT d:=by
 simp only[a2o,a1z,a5z]at h;obtain⟨⟨⟨h1,h2⟩,h3⟩,⟨h4,h5⟩,h6⟩:=h;refine⟨⟨fun i hi k hk=>?_,?_,h3⟩,by unfold ah;omega,by omega,by unfold ah;omega⟩
 .have h7:=h1 _ (dw (d:=(⟨0,[]⟩:Br)) hi) _ (dw (d:=(0:Int)) hk);show Hg ((fK d i).aA.getD k 0);unfold Hg;have h8:((d.au.getD i ⟨0,[]⟩).aA.getD k 0)=(fK d i).aA.getD k 0:=rfl;rw[h8]at h7;omega
 unfold Hg;omega
theorem pX:nT dX:=WV (by kernel_rfl)
theorem pY:nT dY:=WV (by kernel_rfl)
theorem a9F:nT Hw:=WV (by kernel_rfl)
theorem pLe:nT dLe:=WV (by kernel_rfl)
abbrev dvA(d:Dg):PV aH:=(dU (a2 dA iA)).put (d,0)
theorem ai5:(dRs,(0:Int))=MZ (dY,1,2):=ads rfl ahZ.1.symm
theorem a9G:(dWh,(0:Int))=jD dY:=ads rfl a9D.1.symm
theorem ai6:(Hw,(0:Int))=yj (10,dX,dY):=ads rfl ai0.symm
theorem anZ:(dLe,(0:Int))=yj (14,dX,dY):=ads rfl anT.symm
section
variable{n:Nat}(hO:Ok n acN)
include hO
theorem ao0:jd n (.fn 73 [] []) [] [] ((dU (a2 dA dA)).put (dX,dY)) []:=
 sO hX hO (f:=73) (first:=[]) (xs:=[]) (cap:=[]) (vs:=[]) (v:=(dU (a2 dA dA)).put (dX,dY)) (H:=[]) (ps:=[]) rfl (by kernel_rfl) (fun _ h=>by cases h) rfl
theorem acO{j k}:jd n (.fn 57 [] []) [.own 0,.own 1,.int .i64 0,.int .i64 1] [.list j k 3 ([2,3]:LI0),.list j k 3 ([0,1]:LI0)] (dvA dX) [.gone,.gone]:=by unfold dvA;rw[<-a5r];exact sO hX hO (f:=57) (first:=[]) (xs:=[.own 0,.own 1,.int .i64 0,.int .i64 1]) (cap:=[]) (vs:=[.dF 3 ([2,3]:LI0) false,.dF 3 ([0,1]:LI0) false,.int .i64 0,.int .i64 1]) (v:=(dU (a2 dA iA)).put (Rj ([2,3],[0,1],0,1))) (H:=[.list j k 3 ([2,3]:LI0),.list j k 3 ([0,1]:LI0)]) (ps:=[([2,3]:LI0).length<=ah,([0,1]:LI0).length<=2^20]) rfl (by kernel_rfl) (by simp[ah]) rfl
theorem aIf:jd n (.fn 63 [] []) [.agg dY.ps,.agg dX.ps,.agg dY.ps] [] (dvA dIf) []:=by have e:(dIf,(0:Int))=Zh (dY,dX,dY):=ads rfl anS.1.symm;unfold dvA;rw[e];exact sO hX hO (f:=63) (first:=[]) (cap:=[]) (vs:=[.agg dY.ps,.agg dX.ps,.agg dY.ps]) (v:=(dU (a2 dA iA)).put (Zh (dY,dX,dY))) (H:=[]) (ps:=[nT dY,nT dX,nT dY]) rfl (by kernel_rfl) (by simp[pX,pY]) rfl
theorem atB:jd n (.fn 20 [] []) [.agg dY.ps,.int .i64 1,.int .i64 2] [] (dvA dRs) []:=by rw[show(dvA dRs:PV aH)=((dU (a2 dA iA)).put (MZ (dY,1,2)))from by rw[<-ai5]];exact sO hX hO (f:=20) (first:=[]) (xs:=[.agg dY.ps,.int .i64 1,.int .i64 2]) (cap:=[]) (vs:=[.agg dY.ps,.int .i64 1,.int .i64 2]) (v:=((dU (a2 dA iA)).put (MZ (dY,1,2)))) (H:=[]) (ps:=[nT dY]) rfl (by kernel_rfl) (by simp[pX,pY,a9F,pLe]) rfl
theorem ai7:jd n (.fn 67 [] []) [.agg dY.ps] [] (dvA dWh) []:=by rw[show(dvA dWh:PV aH)=((dU (a2 dA iA)).put (jD dY))from by rw[<-a9G]];exact sO hX hO (f:=67) (first:=[]) (xs:=[.agg dY.ps]) (cap:=[]) (vs:=[.agg dY.ps]) (v:=((dU (a2 dA iA)).put (jD dY))) (H:=[]) (ps:=[nT dY]) rfl (by kernel_rfl) (by simp[pX,pY,a9F,pLe]) rfl
theorem ao1:jd n (.fn 27 [] []) [.agg dY.ps,.agg (⟨0,2⟩:V).ps] [] ((dU (a2 iA iA)).put (2,0)) []:=by rw[show((dU (a2 iA iA)).put (2,0):PV aH)=((dU (a2 iA iA)).put (WS (dY,⟨0,2⟩)))from by rw[acK]];exact O7 hX hO (f:=27) (first:=[]) (xs:=[.agg dY.ps,.agg (⟨0,2⟩:V).ps]) (cap:=[]) (vs:=[.agg dY.ps,.agg (⟨0,2⟩:V).ps]) (v:=((dU (a2 iA iA)).put (WS (dY,⟨0,2⟩)))) (H:=[]) (ps:=[nT dY]) rfl (by kernel_rfl) (by simp[pY]) rfl
theorem ai8:jd n (.fn 28 [] []) [.agg dX.ps,.agg (⟨0,2⟩:V).ps] [] ((dU (a2 nY iA)).put ([1,0],0)) []:=by rw[show((dU (a2 nY iA)).put ([1,0],0):PV aH)=((dU (a2 nY iA)).put (Jz (dX,⟨0,2⟩)))from by rw[a9E]];exact sO hX hO (f:=28) (first:=[]) (xs:=[.agg dX.ps,.agg (⟨0,2⟩:V).ps]) (cap:=[]) (vs:=[.agg dX.ps,.agg (⟨0,2⟩:V).ps]) (v:=((dU (a2 nY iA)).put (Jz (dX,⟨0,2⟩)))) (H:=[]) (ps:=[nT dX]) rfl (by kernel_rfl) (by simp[pX]) rfl
theorem atC:jd n (.fn 62 [] []) [.int .u8 10,.agg dX.ps,.agg dY.ps] [] (dvA Hw) []:=by rw[show(dvA Hw:PV aH)=((dU (a2 dA iA)).put (yj (10,dX,dY)))from by rw[<-ai6]];exact sO hX hO (f:=62) (first:=[]) (xs:=[.int .u8 10,.agg dX.ps,.agg dY.ps]) (cap:=[]) (vs:=[.int .u8 10,.agg dX.ps,.agg dY.ps]) (v:=((dU (a2 dA iA)).put (yj (10,dX,dY)))) (H:=[]) (ps:=[nT dX,nT dY]) rfl (by kernel_rfl) (by simp[pX,pY,a9F,pLe]) rfl
theorem aLe:jd n (.fn 62 [] []) [.int .u8 14,.agg dX.ps,.agg dY.ps] [] (dvA dLe) []:=by rw[show(dvA dLe:PV aH)=((dU (a2 dA iA)).put (yj (14,dX,dY)))from by rw[<-anZ]];exact sO hX hO (f:=62) (first:=[]) (xs:=[.int .u8 14,.agg dX.ps,.agg dY.ps]) (cap:=[]) (vs:=[.int .u8 14,.agg dX.ps,.agg dY.ps]) (v:=((dU (a2 dA iA)).put (yj (14,dX,dY)))) (H:=[]) (ps:=[nT dX,nT dY]) rfl (by kernel_rfl) (by simp[pX,pY,a9F,pLe]) rfl
abbrev a9H:An:=⟨4,false,false,0,0,1,true,[]⟩
abbrev af5:An:=⟨8,false,false,2,0,0,false,[0]⟩
theorem atD:jd n (.fn 33 [] []) [.int .u8 4,.agg Hw.ps,.agg dX.ps] [] ((dU (a2 ZC iA)).put (a9H,0)) []:=by rw[show((dU (a2 ZC iA)).put (a9H,0):PV aH)=((dU (a2 ZC iA)).put (a3t (4,Hw,dX)))from by rw[ai2]];exact sO hX hO (f:=33) (first:=[]) (xs:=[.int .u8 4,.agg Hw.ps,.agg dX.ps]) (cap:=[]) (vs:=[.int .u8 4,.agg Hw.ps,.agg dX.ps]) (v:=((dU (a2 ZC iA)).put (a3t (4,Hw,dX)))) (H:=[]) (ps:=[nT Hw,nT dX]) rfl (by kernel_rfl) (by simp[a9F,pX]) rfl
end
open Go Tw Pv bQ
theorem ao2{n}(hn:24<=n)(D9:Ok n acB)(Fe:∀m,n-24<=m->Ok m rC){k}:jd (n+1) (.fn 39 [] []) [.own 0,.agg dLe.ps] [.list k true 26 [dX,dY]] ((dU (a2 ZC iA)).put (af5,0)) [.list k true 26 [dX,dY]]:=by
 rw[<-acL];exact anB (l:=[dX,dY]) (d:=dLe) hn D9 Fe (fun x h=>by
  rcases a1B.1 h with rfl|h
  .exact pX
  rcases a1B.1 h with rfl|h
  .exact pY
  rw[a2m.1 h];exact pLe) (by show 2<=1000;omega)
theorem ao3{n}(hO:Ok n acN):jd n (.fn 48 [] []) [.int .i64 2] [] (.agg (⟨0,2⟩:V).ps) []:=
 O7 hX hO (f:=48) (first:=[]) (xs:=[.int .i64 2]) (cap:=[]) (vs:=[.int .i64 2]) (v:=.agg (⟨0,2⟩:V).ps) (H:=[]) (ps:=[]) rfl (by kernel_rfl) (fun _ h=>by cases h) rfl
theorem UG{a b:Nat}(h:Nat.ble a b=true):a<=b:=agV h
theorem atE:Fq dX:=⟨UG (by kernel_rfl),UG (by kernel_rfl),UG (by kernel_rfl),UG (by kernel_rfl),fun b h=>by rw[a2m.1 h];exact UG (by kernel_rfl)⟩
def ao4:gU aH:=bU 19 agh tA (fun _=>true) np acN
theorem atG:Gd ao4:=Good.adC 25 atA ant Jt fun n hn hO Fe hO3 p hp=>by obtain⟨m,rfl⟩:∃m,n=m+1:=⟨n-1,by omega⟩;have CW:=hO (m+1) (by omega);exact aN CW (.fr [] (ao0 CW) (.fr [0,1] (acO CW (j:=true) (k:=true)) (.fr [] (aIf CW) (.fr [] (atB CW) (.fr [] (ai7 CW) (.fr [] (ao3 CW) (.fr [] (ao1 CW) (.fr [] (ao3 CW) (.fr [] (ai8 CW) (.fr [] (atC CW) (.fr [] (atD CW) (.fr [] (aLe CW) (.fr [2] (ao2 (k:=true) (by omega) (Fe m (by omega)) (fun k hk=>hO3 k (by omega))) (.o atE (.b (c:=true) (t:=true) rfl (.o (UG (by kernel_rfl):dIf.aB.length<=ah) (.o (UG (by kernel_rfl):dIf.aO.length<=ah) (.o (UG (by kernel_rfl):([0,0,0,0,0,0]:LI0).length<=1000) (.o (UG (by kernel_rfl):(cellsD dIf).length<=ah) (.b (c:=true) (t:=true) rfl (.o (UG (by kernel_rfl):dRs.aB.length<=ah) (.o (UG (by kernel_rfl):dRs.aO.length<=ah) (.o (UG (by kernel_rfl):([0,0,0,0,0,0]:LI0).length<=1000) (.o (UG (by kernel_rfl):(cellsD dRs).length<=ah) (.b (c:=true) (t:=true) rfl (.o (UG (by kernel_rfl):dWh.aB.length<=ah) (.o (UG (by kernel_rfl):dWh.aO.length<=ah) (.o (UG (by kernel_rfl):([0,0,0,0,0,0]:LI0).length<=1000) (.o (UG (by kernel_rfl):(cellsD dWh).length<=ah) (.b (c:=true) (t:=true) rfl (.b (c:=true) (t:=true) rfl (.b (c:=true) (t:=true) rfl (.b (c:=true) (t:=true) rfl (.o (UG (by kernel_rfl):([1,0]:LI0).length<=ah) (.b (c:=true) (t:=true) rfl (.b (c:=true) (t:=true) rfl (.b (c:=true) (t:=true) rfl (.o (UG (by kernel_rfl):a9H.set.length<=ah) (.b (c:=true) (t:=true) rfl (.b (c:=true) (t:=true) rfl (.b (c:=true) (t:=true) rfl (.o (UG (by kernel_rfl):af5.set.length<=ah) .rr))))))))))))))))))))))))))))))))))))))))))
open Go Tw Pv bQ
theorem atH:HY V0:=⟨by decide,by decide⟩
theorem acP{l:List V}(h:∀v∈l,HY v)(i):HY (l.getD i V0):=by
 by_cases c:i<l.length
 .exact h _ (dw c)
 rw[a2J,a4w (by omega)];exact atH
theorem a9I{d}(h:∀v∈d.aO,HY v):∀v∈cellsD d,HY v:=fun v hv=>by obtain⟨k,_,rfl⟩:=a1u.1 hv;exact acP h _
theorem yt(d):(cellsD d).length=uK d.aj:=by simp[cellsD]
theorem ai9{d}(h:gZ d=0)(ho:d.aB.length<=ah)(he:d.aO.length<=ah):Fq d:=by
 have l:=Oj ho he (by rw[h];rfl);have h6:=l.f.len;have n6:=l.n;refine⟨by unfold ah;omega,ho,he,by unfold ah;omega,fun b hb=>?_⟩;obtain⟨i,hi,rfl⟩:=a90 hb;have:=l.t.KY i hi;have e:fK d i=d.au[i]:=by show d.au.getD i kP=_;rw[a2J,a0A hi,a5K]
 rw[e]at this;unfold ah;omega
structure DgF(d:Dg):Prop where
 r:Jg d
 k:gZ d=0
 f:Fq d
 e:d.aO.length<=2000
 o:d.aB.length=d.aj.length
 s:qy d.aj
theorem DgF.p{d}(h:DgF d):nT d:=⟨h.r,h.f.s,by have:=h.o;have:=h.s.len;omega,by have:=h.e;unfold ah;omega⟩
theorem a9J{s o l}(h:OfP s o l)(hv:∀v∈l,HY v):DgF (je s o l):=by obtain⟨h1,h2,_⟩:=Hl h fun v m=>(hv v m).1;obtain⟨r,k⟩:=abZ h (fun v m=>(hv v m).1) fun v m=>(hv v m).2;have ho:=h.p.2.2;have h6:=h.bG.len;exact⟨r,k,ai9 k (by show o.length<=ah;unfold ah;omega) (by unfold ah;omega),h2,ho,h.bG⟩
theorem ao5{J}(hJ:kQ J){op}(jK:ru J op):DgF (Dh J op):=by rw[(Js hJ jK).2];exact a9J ⟨hJ.bG,hJ.ord,by rw[yt];show((uK J.s:Nat):Int)=_;exact hJ.bG.RZ⟩ (a9I (Az hJ jK).2.2)
theorem a3v{d}(h:nT d):bf [d]=gZ d:=by
 have e:(tK d).2=gZ d:=by rw[Ew h.r h.s (by have:=h.o;unfold ah;omega) h.e]
 have f:([d].all (o7 (([d].getD 0 gK).aj,([d].getD 0 gK).aB)))=true:=by simp[o7]
 unfold bf;rw[f];split
 .rename_i c;have:=cO.1 c 0 (by simp);have h0:gZ d=0:=by unfold Ux at this;rw[<-e];simpa using this
  rw[h0];rfl
 rename_i c;obtain⟨j,hj,_,_,e2⟩:=wM (by simpa using c);have e2:aZ (Ux [d]) [d].length=.inr j:=e2;rw[e2];have:j=0:=by have:j<1:=hj;omega
 subst this;exact e
theorem AP(a):Nv a a=true:=by
 have h:jO (aZ (a1e a a) a.au.length)=true:=cO.2 fun k _=>by simp[a1e]
 unfold Nv;rw[h];simp
theorem aia:Fq gK:=⟨a5D _,a5D _,a5D _,a5D _,fun b h=>by cases h⟩
theorem aib{d}(h:LH d=true)(r:Jg d):nT d:=by obtain⟨f,h1,h2,h3,_⟩:=Zn h;exact⟨r,f.s,by omega,by unfold ah;omega⟩
open Go Tw Pv bQ
def Gp(p:Dg×Dg):Bool:=if decide (p.1.aj=p.2.aj)=true then decide (p.1.aB=p.2.aB)else false
def ao6:gU aH:=bU 70 (a2 dA dA) tA (fun p=>Gp p) (fun p=>[p.1.aj.length<=ah,p.1.aB.length<=ah]) ao4
theorem atI:Gd ao6:=atG.add fun n hO p hp=>aN hO (.o (hp _ gQ) (.ss (.o (hp _ vX) .rr) .rr))
theorem a9K(a b):Gp (a,b)=o7 (a.aj,a.aB) b:=by
 unfold Gp o7;rw[a5G];by_cases h:a.aj=b.aj
 .by_cases h2:a.aB=b.aB
  .simp[h,h2]
  simp only[h,decide_true,a2l,a1z];exact⟨fun e=>absurd e h2,fun e=>absurd e.symm h2⟩
 have h3:¬b.aj=a.aj:=fun e=>h e.symm;simp[h,h3]
def cA1(l:List Dg)(k:Nat):Bool:=gZ (l.getD k gK) != 0
def cA2(l:List Dg)(k:Nat):Bool:=!(Gp (l.getD 0 gK,l.getD k gK))
def WW(l:List Dg):Int:=match aZ (cA1 l) l.length with
 |.inr k=>gZ (l.getD k gK)
 |.inl _=>match jU (gS (cA2 l)) (l.length-1) 1 ()with
  |.inr _=>2
  |.inl _=>0
theorem acQ{l}(hp:∀d∈l,nT d)(h0:0<l.length):WW l=bf l:=by
 have hd:l.getD 0 gK∈l:=dw h0;have ec:∀k,k<l.length->(tK (l.getD k gK)).2=gZ (l.getD k gK):=fun k hk=>by have h:=hp _ (dw (d:=gK) hk);rw[Ew h.r h.s (by have:=h.o;unfold ah;omega) h.e]
 have eb:∀k,k<l.length->Ux l k=cA1 l k:=fun k hk=>by unfold Ux cA1;rw[ec k hk]
 unfold WW bf;cases e1:jO (aZ (Ux l) l.length)
 .obtain⟨j,hj,h1,h2,h3⟩:=wM e1;have e2:jO (aZ (cA1 l) l.length)=false:=by
   cases e:jO (aZ (cA1 l) l.length)
   .rfl
   have:=cO.1 e j hj;rw[<-eb j hj,h1]at this;cases this
  obtain⟨i,hi,g1,g2,g3⟩:=wM e2;have:i=j:=by
   by_cases c:i<j
   .have:=h2 i c;rw[eb i hi,g1]at this;cases this
   by_cases c2:j<i
   .have:=g2 j c2;rw[<-eb j hj,h1]at this;cases this
   omega
  subst this;rw[g3,h3,a0S (by simp)];exact(ec i hi).symm
 have h1:=cO.1 e1;have e2:jO (aZ (cA1 l) l.length)=true:=cO.2 fun j hj=>by rw[<-eb j hj];exact h1 j hj
 rw[a15 rfl];rcases e3:aZ (cA1 l) l.length with u|k
 rotate_left
 .rw[e3]at e2;cases e2
 show(match jU (gS (cA2 l)) (l.length-1) 1 ()with
  |.inr _=>(2:Int)
  |.inl _=>0)=_
 have hs:o7 ((l.getD 0 gK).aj,(l.getD 0 gK).aB) (l.getD 0 gK)=true:=by simp[o7]
 rcases e4:jU (gS (cA2 l)) (l.length-1) 1 ()with u|j
 .have h2:=(J6 (r:=fun k=>k) (c:=cA2 l) (m:=l.length-1) (k:=1)).1 (by unfold gS at e4;rw[e4];rfl);rw[a0S];rw[aeP,aaX,a5z];intro d hd2;obtain⟨k,hk,rfl⟩:=a90 hd2;have ek:l[k]=l.getD k gK:=by rw[a2J,a0A hk,a5K]
  rw[ek];by_cases c:k=0
  .subst c;exact hs
  have:=h2 k (by omega) (by omega);unfold cA2 at this;rw[a9K]at this;simpa using this
 have h2:=Yb (r:=fun k=>k) (c:=cA2 l) (m:=l.length-1) (k:=1) (by unfold gS at e4;rw[e4];rfl);obtain⟨i,hi1,LU,h3,_⟩:=h2;rw[a15];rw[a9y,List.all_eq_false];unfold cA2 at h3;rw[a9K]at h3;exact⟨l.getD i gK,dw (by omega),by simpa using h3⟩
open Go Tw Pv bQ
theorem acR{s q}(hq:iF s q=true):ov (List.replicate s.length (-1)) q=q:=by
 have hl:=lG hq;refine(nV (d:=(0:Int)) (by simp[ov,af6,hl])).2 fun k hk=>?_;have kN:k<s.length:=by simp[ov,af6,hl]at hk;exact hk
 rw[Ll (by rw[a6c,hl]),a15 (by rw[a6c];exact kN),a0S];rw[a2J,afy,a15 kN];decide
theorem UH{D op}(hJ:kQ (dW D)):Ho (dW D) op=(List.range (uK (D.getD 0 gK).aj)).map fun(k:Nat)=>op (D.map fun d=>vT d (iV (D.getD 0 gK).aj k)):=by unfold Ho;refine a5J fun k _=>?_;have h:ov (dW D).g (iV (dW D).s k)=iV (D.getD 0 gK).aj k:=acR (qX _ hJ.bG.sz);rw[h];rfl
open Go Tw Pv bQ
theorem a5s{l}(h:WW l=0):∀d∈l,gZ d=0:=by
 have e:jO (aZ (cA1 l) l.length)=true:=by
  cases e:jO (aZ (cA1 l) l.length)
  .obtain⟨j,hj,h1,_,h3⟩:=wM e;unfold WW at h;rw[h3]at h;have h:gZ (l.getD j gK)=0:=h;unfold cA1 at h1;rw[h]at h1;cases h1
  rfl
 intro d hd;obtain⟨k,hk,rfl⟩:=a90 hd;have:=cO.1 e k hk;unfold cA1 at this;rw[a2J,a0A hk,a5K]at this;simpa using this
open Go Tw Pv bQ
theorem acS(v):iM [v]=if decide (v=dJ)=true then dJ else V0:=by unfold iM oM;simp
open Go Tw Pv bQ
def aie:gU aH:=bU 91 (a1 vA) tA (fun p=>decide (p=dJ)) np ao6
theorem atJ:Gd aie:=atI.add fun n hO p hp=>aN hO (.q (.bool (decide (p=dJ))) (eqV (.tmp 3) (.tmp 4) p dJ) .rr)
open Go Tw Pv bQ
abbrev wTl(l:List Dg)(i:Int)(e:List (Nat×PE aH)):bJ aH:=⟨[(0,xL 26 l),(3,xi i)]++e,[],[]⟩
def cTl(l:List Dg)(k:Nat):Bool:=!(LH (l.getD k gK))
def zTl(l:List Dg):Unit⊕Nat->Ex×bJ aH
 |.inl _=>(.exit 0,wTl l (min l.length 7:Nat) [(11,xl false)])
 |.inr _=>(.ret,⟨[(2,xl false)],[],[]⟩)
theorem lTl{n}(hO:Ok n aie){l}:Lp n 38 0 (wTl l 0 []) (zTl l (aZ (cTl l) (min l.length 7))).1 (zTl l (aZ (cTl l) (min l.length 7))).2:=by
 refine iI (st:=fun i _=>wTl l i []) (g:=gS (cTl l)) (out:=zTl l) (fun _ _=>True) (by kernel_rfl) (by unfold ah;omega) trivial (fun k u m hk _ ih=>?_) (fun _ _=>?_)
 .have h1:k<l.length:=by omega
  have t2:decide ((k:Int)<7)=true:=by rw[a1z];omega
  unfold gS cTl;exact aI hO (.b (aV h1) (.b t2 (.o (aF h1) (.ls (.ou nofun) (.nx (ih _ trivial))))))
 by_cases h:l.length<=7
 .have t1:decide (((min l.length 7:Nat):Int)<(l.length:Int))=false:=by rw[a3k];omega
  exact aI hO (.b t1 (.ou nofun))
 have t1:decide (((min l.length 7:Nat):Int)<(l.length:Int))=true:=by rw[a1z];omega
 have t2:decide (((min l.length 7:Nat):Int)<7)=false:=by rw[a3k];omega
 exact aI hO (.b t1 (.b t2 (.ou nofun)))
def Ol(l:List Dg):Bool:=if jO (aZ (cTl l) (min l.length 7))=true then decide ((l.length:Int)<=6)else false
def aif:gU aH:=bU 38 (a1 VW) tA Ol np aie
theorem atM:Gd aif:=atJ.add fun n hO l hp=>by
 have lp:=lTl hO (l:=l);show nU X0 Qp _ _ _ (tA.put (if jO (aZ (cTl l) (min l.length 7))=true then decide ((l.length:Int)<=6)else false)) _;revert lp;rcases aZ (cTl l) (min l.length 7)with u|k
 .intro lp;exact aN hO (.w lp .rr)
 .intro lp;exact aN hO (.w lp .rr)
theorem a9M{l}(h:Ol l=true):l.length<=6/\∀d∈l,LH d=true:=by
 unfold Ol at h;split at h
 .rename_i c;have h6:l.length<=6:=by have:=a7j h;omega
  refine⟨h6,fun d hd=>?_⟩;obtain⟨k,hk,rfl⟩:=a90 hd;have:=cO.1 c k (by omega);unfold cTl at this;rw[a2J,a0A hk,a5K]at this;simpa using this
 cases h
abbrev wCy(l acc:List Dg)(i:Int)(e:List (Nat×PE aH)):bJ aH:=⟨[(0,xL 26 l),(3,.val (.own 0)),(4,xi i)]++e,[],[.list false false 26 acc]⟩
theorem lCy{n}(hO:Ok n aif){l}(hf:∀d∈l,Fq d)(hl:l.length<=1000):Lp n 40 0 (wCy l [] 0 []) (.exit 0) (wCy l l l.length [(8,xl false)]):=by
 have e1:aQ (fun k (a:List Dg)=>a++[l.getD k gK]) l.length 0 []=l:=by rw[Qd,KW l gK fun r=>r,List.map_id']
 have:=qY (n:=n) (f:=40) (k:=0) (B:=0) (σ:=List Dg) (N:=l.length) (g:=fun k (a:List Dg)=>a++[l.getD k gK]) (s0:=([]:List Dg)) (st:=fun i a=>wCy l a i []) (e:=.exit 0) (fin:=fun a=>wCy l a l.length [(8,xl false)]) (w:=wCy l [] 0 []) (fun k a=>a.length=k) (by kernel_rfl) (by unfold ah;omega) rfl (fun k a _ h=>by simp[h]) (fun k a hk ha m e p g9=>by
  have hal:a.length+[l.getD k gK].length<=ah:=by have:a.length=k:=ha;rw[a3J];unfold ah;omega
  exact aI hO (.b (aV hk) (.o (aF hk) (.o (hf _ (dw (d:=gK) hk)) (.o hal (.Zx [.gc [2]] g9)))))
  ) (fun a _=>aI hO (.b (dZ l.length) .ex))
 rw[e1]at this;exact this
def ao8:gU aH:=bU 40 (a1 VW) VW (fun p=>p) (fun p=>[∀d∈p,Fq d,p.length<=1000]) aif
theorem atN:Gd ao8:=atM.add fun n hO p hp=>aN hO (.wG [.FM 3 26] (lCy hO (hp _ gQ) (hp _ vX)) .rr)
theorem aii{n}(hO:Ok n acJ){d}(h:Rk d):jd (n+1) (.fn 44 [] []) [.agg d.ps] [] (.own 0) [.list false false 39 (cellsD d)]:=by
 have hb:(aW d != 0)=false:=by rw[h.l];rfl
 exact fH hO (first:=[]) (cap:=[]) (.o h.o (.o h.e (.b hb (.wG [.FM 3 39] (lLs hO d h) .er))))
theorem a9N(f:Nat->V->V)(l):aQ (fun k (x:List V)=>x.set k (f k (x.getD k V0))) l.length 0 l=(List.range l.length).map fun k=>f k (l.getD k V0):=by
 have:=bP (g:=fun k (x:List V)=>x.set k (f k (x.getD k V0))) (m:=l.length) (k:=0) (s:=l) (fun k x=>x.length=l.length/\∀j,j<l.length->x.getD j V0=if j<k then f j (l.getD j V0)else l.getD j V0) ⟨rfl,fun j _=>by simp⟩ (fun k x _ hk h=>by
  refine⟨by rw[a5A];exact h.1,fun j hj=>?_⟩;have hk:k<l.length:=by omega
  by_cases e:k=j
  .subst e;rw[a15 (by omega),a2J,a1C (by rw[h.1];exact hj),a5K,h.2 k hj,a0S (by omega)]
  rw[a2J,a1w e,<-a2J,h.2 j hj];by_cases c:j<k
  .rw[a15 c,a15 (by omega)]
  rw[a0S c,a0S (by omega)])
 rw[a3C]at this;refine(nV (d:=V0) (by rw[this.1,a4P,a6u])).2 fun j hj=>?_;rw[this.1]at hj;have e:((List.range l.length).map fun k=>f k (l.getD k V0)).getD j V0=f j (l.getD j V0):=by rw[a2J,a5w,ab9 hj];rfl
 rw[this.2 j hj,a15 hj,e]
open Go Tw Pv bQ
abbrev ni5:List (PV aH):=[.nil .aP,.nil .aP,.nil .aP,.nil .aP,.int .i64 0]
theorem a1f{d}(h:Rk d):(cellsD d).length<=ah:=by have:=h.f.RZ;have:=h.f.many;rw[yt];unfold ah;omega
open Go Tw Pv bQ
theorem acT{d k}(hk:k<uK d.aj):(cellsD d).getD k V0=vT d (iV d.aj (k:Int)):=by unfold cellsD;rw[a2J,a5w,ab9 hk];rfl
open Go Tw Pv bQ
theorem Zp{s}(h:qy s):Ae s=((uK s:Nat):Int)/\uK s<=2000/\bC s=((uK s:Nat):Int):=by have h1:=h.many;have h2:=Qc h.sz;have h0:=jm h.sz;unfold uK;rw[h2];refine⟨by omega,by omega,by omega⟩
theorem acU{s o}(hf:qy s)(ho:jC s.length o=true)(v):PtP s o (List.replicate (uK s) v)/\o.length<=6/\wO s o<=ah:=by obtain⟨c1,c2,c3⟩:=Zp hf;have hw:=BP hf.sz ho;unfold jC at ho;rw[a1z]at ho;obtain⟨h1,h2,_⟩:=ho;have h6:=hf.len;exact⟨⟨hf,fun c hc=>⟨(h2 c hc).1,(h2 c hc).2⟩,by rw[a6c,c3],by rw[h1];exact hf.Ye,hf.Ye⟩,by omega,by unfold ah;omega⟩
theorem aij{s o}(hf:qy s)(ho:jC s.length o=true){l}(hl:l.length=uK s):PtP s o l/\o.length<=6/\wO s o<=ah:=by obtain⟨⟨a1,a2,a3,a4,a5⟩,q2,q3⟩:=acU hf ho V0;rw[a6c]at a3;exact⟨⟨a1,a2,by rw[hl];exact a3,a4,a5⟩,q2,q3⟩
open Go Tw Pv bQ
theorem ao9{d p F r}:VY d p (F+1) r=if r<0 then r else VY d p F ((ay d r).aA.getD (p.getD (ay d r).var.toNat 0).toNat 0):=rfl
open Go Tw Pv bQ
theorem aik{d F r x}(h:r<0):bY d (F+1) r x=(i64.wrap (-1-(x.e.idxOf (oP d r):Nat)),⟨fJ x.e (oP d r),x.n,x.k⟩):=by rw[bY,a15 (by simpa using h)]
theorem Zq(s o v):eY (wR s o v)=wR s o v:=by
 have e2:oP (wR s o v) (-1)=v:=by
  show [v].getD (jo (-1)).toNat V0=v;have:jo (-1)=0:=by decide
  rw[this];rfl
 have e:bY (wR s o v) 6002 (-1) ZA=(-1,⟨[v],[],[]⟩):=by rw[aik (F:=6001) (by decide),e2];rfl
 unfold eY;rw[show(wR s o v).root=-1 from rfl,e]
theorem Zr{s o}(hf:aY s o=0){v}(hv:HY v):wR s o v=je s o (List.replicate (uK s) v):=by
 obtain⟨bG,ord⟩:=iL.1 hf;have hl:=bG.len;have OM:o.length=s.length:=by unfold jC at ord;rw[a1z]at ord;exact ord.1
 have h1:aW (wR s o v)=0:=L9 (by show 1<=ah;unfold ah;omega) (by show(aY s o != 0)=false;rw[hf];rfl) (fun x hx=>by rw[a2m.1 hx];exact hv.1) (by show 0<=6000;omega) ⟨fun i hi=>absurd hi (ai1 _),fun i hi=>absurd hi (ai1 _),fun i hi=>absurd hi (ai1 _)⟩ ⟨fun _=>by
  have:jo (-1)=0:=by decide
  show fZ (jo (-1)) 1;rw[this];exact⟨by omega,by omega⟩,by show(-1:Int)<0;omega,a5D _⟩
 have e:=(QU h1 (by show o.length<=ah;unfold ah;omega) (by show 1<=ah;unfold ah;omega)).1;rw[Zq]at e;have ec:cellsD (wR s o v)=List.replicate (uK s) v:=by
  refine(List.eq_replicate_iff).2 ⟨yt _,fun x hx=>?_⟩;obtain⟨k,_,rfl⟩:=a1u.1 hx;have a1:VY (wR s o v) (iV s (k:Int)) 6001 (-1)=-1:=by rw[ao9 (F:=6000),a15 (by omega)]
  show [v].getD (jo (VY (wR s o v) (iV s (k:Int)) 6001 (-1))).toNat V0=v;rw[a1];have:jo (-1)=0:=by decide
  rw[this];rfl
 rw[ec]at e;exact e
open Go Tw Pv bQ
theorem acV{l}(hp:∀x∈l,nT x)(hk:∀x∈l,gZ x=0){s o}(hs:∀x∈l,x.aj=s/\x.aB=o)(h0:0<l.length):bf l=0:=by
 have e:jO (aZ (Ux l) l.length)=true:=cO.2 fun k kN=>by have hm:=dw (l:=l) (d:=gK) kN;have h:=hp _ hm;unfold Ux;rw[Ew h.r h.s (by have:=h.o;unfold ah;omega) h.e];show(gZ (l.getD k gK) != 0)=false;rw[hk _ hm];rfl
 have h1:=hs _ (dw (l:=l) (d:=gK) h0);have e2:(l.all (o7 ((l.getD 0 gK).aj,(l.getD 0 gK).aB)))=true:=a5z.2 fun x hx=>by have h2:=hs x hx;rw[h1.1,h1.2];simp[o7,h2.1,h2.2]
 unfold bf;rw[a15 e,a0S (by rw[e2];simp)]
open Go Tw Pv bQ
abbrev acW(l:List Dg):List (PB aH):=[.list false false 26 l]
theorem a1g:dG Qp 26=some 5:=by kernel_rfl
theorem a1h(n h):Nc Qp T (iD n) LL 119 [.nil .aP] h=some (.nil .aP,h,[]):=by kernel_rfl
theorem a1i(n b off cap ex h):Nc Qp T (iD n) LL 119 [.aP b off 0 cap 5 ex] h=some (.aP h.length 0 0 0 5 true,h++[.cells .own []],[]):=by kernel_rfl
theorem acX{n}:nU X0 Qp (iD (n+1)) 119 [.dF 26 ([]:List Dg) false] (.own 0) (acW []):=by
 intro A h first args cap G5 hv
 obtain⟨x,r,e,h1,h2⟩:=hv.inv;have:=h2.inv0;subst this;have hun:lu Qp T LL (n+1) (.fn 119 first cap) args h=Nc Qp T (iD n) LL 119 [x] h:=by rw[<-e];show lu Qp T LL (n+1) _ _ _=_;rw[lu,a0S (by decide),a0S (by decide)]
 rcases Ya h1 with rfl|⟨b,off,cap',sz,ex,cs,rfl,a1,a2,a3,a4,a5⟩
 .exact⟨.nil .aP,h,[.dF (.nil .aP)],by rw[<-a1h n h,<-hun],J5 G5 .nil rfl,.own rfl rfl,⟨a1j _,fun _ _ _=>rfl,fun b hb=>by simp[bn,MB.own]at hb,fun b cs hc=>⟨cs,hc,a1j _⟩⟩⟩
 rw[a1g]at a3;cases a3;have hc:aU (h++[HB.cells .own []]) h.length=some []:=by unfold aU;rw[a1p (a1j _),afh];rfl
 refine⟨.aP h.length 0 0 0 5 true,h++[.cells .own []],[.dF (.aP h.length 0 0 0 5 true)],by rw[<-a1i n b off cap' ex h,<-hun],J5 (fun b hb=>G5 b (by simp at hb;omega)) (.emp ⟨G5 _ (a1j _),by simp[bn,MB.own]⟩ hc (a1j _) a1g (by decide)) (by simp[MB.own]),.own rfl rfl,⟨by simp,fun b hb _=>by rw[a0P hb],fun b hb=>by simp[bn,MB.own]at hb,fun b cs hc=>⟨cs,?_,a1j _⟩⟩⟩;rw[fM (a0P (fP hc)),hc]
def af7:gU aH:=Y7 119 (a1 VW) (fun _=>.own 0) (fun p=>acW p) (fun p=>[p.length<=ah]) ao8
theorem aoa:Gd af7:=atN.U2 0 fun n _ hO p hp=>by
 have hl:p.length<=ah:=hp _ gQ;by_cases h:p=[]
 .subst h;exact acX
 .have h2:([]:List Dg).length+p.length<=ah:=by simpa using hl
  exact nU.gs hX (Ac hX (hO n (by omega)) (v:=.own 1) (H:=[.gone,.list true false 26 p]) (by kernel_rfl) (.o h (.b aiC (.o h2 .er)))) [.gc [1],.flag 0] rfl
theorem WX{cs n}(h:cs.length=n):sub cs 0 n=some cs:=by unfold sub;rw[a15 (by omega)];simp[<-h]
section
variable{h:List HB}{vb:Nat}{e2:Bool}{kk2:BK}{ET:List TV}(q4:h[vb]? = some (.cells kk2 ET))(D8:¬(kk2=.ro\/(kk2=.last/\0+1*5≠ET.length)))(hv5:ET.length=5)
include q4 D8 hv5
theorem a9O:Nl (.fn 118 [] []) [.nil .aP,.int .i64 0,.aP vb 0 1 1 5 e2] h=some (.aP h.length 0 1 1 5 false,h++[.cells .own ET],[]):=by rw[Nl,a15 rfl,q4];dsimp only;rw[a0S D8,WX hv5]
theorem a9P{b off}:Nl (.fn 118 [] []) [.aP b off 0 0 5 true,.int .i64 0,.aP vb 0 1 1 5 e2] h=some (.aP h.length 0 1 1 5 false,h++[.cells .own ET],[]):=by rw[Nl,a15 rfl,q4];dsimp only;rw[a0S D8,WX hv5];rfl
theorem a5t{b n ex k cs}(hn:n≠0)(hb:h[b]? = some (.cells k cs))(hc:k≠.ro/\0=0/\n=n/\cs.length=n*5/\n<=2^20/\vb≠b):Nl (.fn 118 [] []) [.aP b 0 n n 5 ex,.int .i64 0,.aP vb 0 1 1 5 e2] h=some (.aP b 0 (n+1) (n+1) 5 false,h.set b (.cells .last (ET++cs)),[b]):=by rw[Nl,a15 rfl,q4];dsimp only;rw[a0S D8,WX hv5];show(if n=0 then _ else _)=_;rw[a0S hn,hb];exact a15 hc
end
theorem atO{n k ex k2 Gm l a}(hl:l.length<=2^20):jd (n+1) (.fn 118 [] []) [.own 0,.int .i64 0,.own 1] [.list k ex 26 l,.list k2 Gm 26 [a]] (.own 2) [.gone,.list k2 Gm 26 [a],.list false false 26 (a::l)]:=by
 intro A m h tf rJ hr hf hx;have htf:=hf.Q9;subst htf;obtain⟨y0,r0,rfl,v0,hx1⟩:=hx.inv;obtain⟨y1,r1,rfl,v1,hx2⟩:=hx1.inv;obtain⟨y2,r2,rfl,v2,hx3⟩:=hx2.inv;have e3:=hx3.inv0;subst e3;have e1:=KC v1;subst e1;clear hx hx1 hx2 hx3;obtain⟨mb0,g1,g2⟩:=hr.at_ 0 _ rfl;obtain⟨mb1,u1,u2⟩:=hr.at_ 1 _ rfl;cases mb1 with
 |dF z1=>
  have hz1:y2=z1:=by
   cases v2 with
   |own e _=>rw[u1]at e;cases e;rfl
   |gone hi e _=>simp only[bF,a08]at hi;subst hi;rw[u1]at e;cases e
  subst hz1;have u3:LR X0 Qp (AA A m) m h k2 Gm 26 [a] y2:=u2;cases u3 with
  |some q1 q2 q3 q4 q5 q6 q7 q8 q9=>
   rename_i vb sz2 e2 kk2 ET;rw[a1g]at q2;cases q2;have hv5:ET.length=5:=q8;have aob:(MB.dF (TV.aP vb 0 [a].length [a].length 5 e2)).own=some vb:=by simp only[MB.own];rw[a0S (by simp)]
   have FP:=(a0u.1 q4).1;have call:∀y v h' ws,Nl (.fn 118 [] []) [y,.int .i64 0,.aP vb 0 1 1 5 e2] h=some (v,h',ws)->iD (n+1) (.fn 118 [] []) [y,.int .i64 0,.aP vb 0 1 1 5 e2] h=some (v,h',ws):=fun y v h' ws e=>by show lu Qp T LL (n+1) _ _ _=_;rw[lu,a15 (by decide)];exact e
   have D8:¬(kk2=.ro\/(kk2=.last/\0+1*5≠ET.length)):=by
    rintro (e|⟨_,e⟩)
    .exact q5 e
    exact e (by omega)
   cases mb0 with
   |dF z0=>
    have hz0:y0=z0:=by
     cases v0 with
     |own e _=>rw[g1]at e;cases e;rfl
     |gone hi e _=>simp only[bF,a08]at hi;subst hi;rw[g1]at e;cases e
    subst hz0;have g3:LR X0 Qp (AA A m) m h k ex 26 l y0:=g2;have new:l=[]->Nl (.fn 118 [] []) [y0,.int .i64 0,.aP vb 0 1 1 5 e2] h=some (.aP h.length 0 1 1 5 false,h++[.cells .own ET],[])->∃w h1 ws m1,iD (n+1) (.fn 118 [] []) [y0,.int .i64 0,.aP vb 0 1 1 5 e2] h=some (w,h1,ws)/\HR X0 Qp A m1 [.gone,.list k2 Gm 26 [a],.list false false 26 (a::l)] h1/\VR X0 Qp (AA A m1) m1 h1 (.own 2) w/\Fr m h m1 h1/\Up m m1/\∀b∈ws,b∈bn m:=fun qW e=>by subst qW;have hw:eG X0 Qp (FA A m [0]) (cu [0] m) h 26 [a] ET 0 5:=(q9.mono fun c hc=>.inl hc).jH hX;obtain⟨m1,f1,f2,f3,f4⟩:=kZ hr [0] (k:=false) (ex:=false) (x:=false) hw q8 (by simp) a1g (by omega) (by simp);exact⟨_,_,_,m1,call _ _ _ _ e,f1,f4,f2,f3,fun b hb=>by cases hb⟩
    cases g3 with
    |nil=>exact new rfl (a9O q4 D8 hv5)
    |emp p0 p1 p2 p3 p4=>
     rw[a1g]at p3;cases p3;exact new rfl (a9P q4 D8 hv5)
    |some p1 p2 p3 p4 p5 p6 p7 p8 p9=>
     rename_i b sz e kk cs;rw[a1g]at p2;cases p2;have Xk:l.length≠0:=(by simpa using p1);have rH:(MB.dF (TV.aP b 0 l.length l.length 5 e)).own=some b:=by simp only[MB.own];rw[a0S Xk]
     have iO:vb≠b:=fun e0=>by subst e0;have:=jh hr.nodup g1 u1 rH aob;omega
     have aS:=(a0u.1 p4).1;have atP:Nl (.fn 118 [] []) [.aP b 0 l.length l.length 5 e,.int .i64 0,.aP vb 0 1 1 5 e2] h=some (.aP b 0 (l.length+1) (l.length+1) 5 false,h.set b (.cells .last (ET++cs)),[b]):=a5t q4 D8 hv5 Xk p4 ⟨p5,rfl,rfl,p8,hl,iO⟩;obtain⟨m1,f0,f1,f2,f3,f4⟩:=H7 (X:=X0) (P:=Qp) (pb:=.list false false 26 (a::l)) (h1:=h.set b (.cells .last (ET++cs))) (Nh:=.dF (.aP b 0 (l.length+1) (l.length+1) 5 false)) hr [] g1 rH
      (by simp only[MB.own];rw[a0S (by omega)]) (by simp) (fun d hd=>a1w (afp hd)) (fun cs3 hc3=>⟨ET++cs,by simp[aU,aS],by
       simp only[aU,p4,a08]at hc3;subst hc3;simp⟩) (fun hF hU=>by
       have:=LR.some (X:=X0) (P:=Qp) (A:=AA A (cu [0] m++[.dF (.aP b 0 (l.length+1) (l.length+1) 5 false)])) (m:=cu [0] m++[.dF (.aP b 0 (l.length+1) (l.length+1) 5 false)]) (h:=h.set b (.cells .last (ET++cs))) (k:=false) (ex:=false) (t:=26) (l:=[a]++l) (b:=b) (sz:=5) (e:=false) (kk:=.last) (cs:=ET++cs)
        (by simp) a1g (by omega) (by simp[aS]) (by simp) (by simp) (by simp) (by rw[a1v,a1v,a3H,p8,q8]) ((q9.step hF hU).app (p9.step hF hU) q8)
       rw[show([a]++l).length=l.length+1 by simp]at this;exact this)
     exact⟨_,_,_,m1,call _ _ _ _ atP,f1,.own f4 rfl,f2,f3,fun d hd=>by rw[a2m.1 hd];exact bg g1 rH⟩
   |_=>exact g2.elim
 |_=>exact u2.elim
open Go Tw Pv bQ
abbrev wBo(a:Dg)(l:List Dg)(i:Int)(e:List (Nat×PE aH)):bJ aH:=⟨[(6,.loc 0 0),(9,.loc 1 0),(34,xL 26 l),(35,xi l.length),(36,xi i)]++e,[ni5,a.ps],[]⟩
def gBo(l:List Dg)(k:Nat)(a:Dg):Dg:=Dh (dW [a,l.getD k gK]) iM
structure BoP(s o:LI0)(l:List Dg):Prop where
 p:∀x∈l,nT x
 k:∀x∈l,gZ x=0
 s:∀x∈l,x.aj=s/\x.aB=o
 n:l.length<=ah
structure BoI(s o:LI0)(a:Dg):Prop where
 f:DgF a
 s:a.aj=s
 o:a.aB=o
theorem BoP.chk{s o l}(h:BoP s o l){a}(ha:BoI s o a){k}(hk:k<l.length):bf [a,l.getD k gK]=0/\∀x∈[a,l.getD k gK],nT x:=by have hm:=dw (l:=l) (d:=gK) hk;exact⟨acV (Zi (P:=nT) ha.f.p (h.p _ hm)) (Zi (P:=fun x=>gZ x=0) ha.f.k (h.k _ hm)) (Zi (P:=fun x=>x.aj=s/\x.aB=o) ⟨ha.s,ha.o⟩ (h.s _ hm)) (by simp),Zi (P:=nT) ha.f.p (h.p _ hm)⟩
theorem BoP.j{s o l}(h:BoP s o l){a}(ha:BoI s o a){k}(hk:k<l.length):kQ (dW [a,l.getD k gK])/\ru (dW [a,l.getD k gK]) iM:=by obtain⟨h1,h2⟩:=h.chk ha hk;exact⟨yh (D:=[a,l.getD k gK]) (by simp) (by simp) h2 h1,fun t hd=>WR _⟩
theorem BoP.step{s o l}(h:BoP s o l){a}(ha:BoI s o a){k}(hk:k<l.length):BoI s o (gBo l k a):=by
 obtain⟨h1,h2⟩:=h.j ha hk;refine⟨ao5 h1 h2,?_,?_⟩
 .unfold gBo;rw[mk_eq h1 h2];exact ha.s
 unfold gBo;rw[mk_eq h1 h2];exact ha.o
theorem lBo{n}(hn:24<=n)(Fe:∀m,n-24<=m->Ok m Gl)(hO3:∀m,n-24<=m->Ok m rC)(hO4:∀m,n-24<=m->Ok m UE){s o l}(h:BoP s o l){a}(ha:BoI s o a):Lp n 68 0 (wBo a l 0 []) (.exit 0) (wBo (aQ (gBo l) l.length 0 a) l l.length [(37,xl false)]):=
 qY (n:=n) (f:=68) (k:=0) (B:=0) (σ:=Dg) (N:=l.length) (g:=gBo l) (s0:=a) (st:=fun i a=>wBo a l i []) (e:=.exit 0) (fin:=fun a=>wBo a l l.length [(37,xl false)]) (w:=wBo a l 0 []) (fun _ a=>BoI s o a) (by kernel_rfl) h.n ha (fun k a hk hi=>h.step hi hk) (fun k a hk hi m e p g9=>by
  have hi:BoI s o a:=hi;obtain⟨hJ,jK⟩:=h.j hi hk;have s1:=Ht (n:=n) (f:=117) (by omega) (fun m hm=>hO3 m (by omega)) (D:=[a,l.getD k gK]) (by simp) hJ.bG.len (k:=true) (ex:=true);have s2:=a3s (n:=n) (f:=117) hJ (op:=iM) jK (by omega) (fun m hm=>Fe m (by omega)) (fun m hm l hl=>aeW (hO4 m (by omega)) (by rw[hl];exact a9q)) (k:=true) (ex:=true) (k2:=true) (Gm:=true);refine aI gX (.b (aV hk) (.o (aF hk) (.fr [0] s1 (.fr [0,1] s2 (.Zx [.gc []] g9)))))) (fun a _=>by
  refine aI gX (.b (dZ l.length) .ex))
def JA(p:LI0×LI0×List Dg):Dg×Int:=if(aY p.1 p.2.1 != 0)=true then(gK,aY p.1 p.2.1)else if(bf (wR p.1 p.2.1 dJ::p.2.2) != 0)=true then(gK,bf (wR p.1 p.2.1 dJ::p.2.2))else(aQ (gBo p.2.2) p.2.2.length 0 (wR p.1 p.2.1 dJ),0)
theorem WY{s o}(h:aY s o=0):BoI s o (wR s o dJ):=by obtain⟨bG,ord⟩:=iL.1 h;refine⟨?_,rfl,rfl⟩;rw[Zr h Jw];exact a9J ⟨bG,ord,by rw[a6c];exact bG.RZ⟩ fun v hv=>by rw[List.eq_of_mem_replicate hv];exact Jw
theorem af9{s o l}(hp:∀x∈wR s o dJ::l,nT x)(h0:bf (wR s o dJ::l)=0)(hl:l.length<=ah):BoP s o l:=by have hz:=a5s (l:=wR s o dJ::l) (by rw[acQ hp (by simp)];exact h0);have hk:=WQ hp h0;exact⟨fun x hx=>hp x (a3A _ hx),fun x hx=>hz x (a3A _ hx),fun x hx=>(hk x (a3A _ hx)).2,hl⟩
def aod:gU aH:=bU 68 (a3 nY nY VW) (dU (a2 dA iA)) JA (fun p=>[p.1.length<=ah,p.2.1.length<=ah,∀x∈p.2.2,nT x,p.2.2.length<=1000]) af7
theorem atQ:Gd aod:=Good.a2F 25 aoa Uy Jt Zg fun n hn hO Fe hO3 hO4 p hp=>by
 obtain⟨m,rfl⟩:∃m,n=m+1:=⟨n-1,by omega⟩;have CW:=hO (m+1) (by omega);obtain⟨s,o,l⟩:=p;have b1:s.length<=ah:=hp _ gQ;have b2:o.length<=ah:=hp _ vX;have b3:o.length<=2^20:=b2;have hd:∀x∈l,nT x:=hp _ hh2;have hl:l.length<=1000:=hp _ (.tail _ (.tail _ (.tail _ (.head _))));have hlm:l.length<=ah:=by unfold ah;omega
 show nU X0 Qp _ _ _ ((dU (a2 dA iA)).put (if(aY s o != 0)=true then(gK,aY s o)else if(bf (wR s o dJ::l) != 0)=true then(gK,bf (wR s o dJ::l))else(aQ (gBo l) l.length 0 (wR s o dJ),0))) _;cases e1:(aY s o != 0)
 .have h0:aY s o=0:=by simpa using e1
  have hI:=WY h0;have hp2:∀x∈wR s o dJ::l,nT x:=fun x hx=>by
   rcases a1B.1 hx with rfl|hx
   .exact hI.f.p
   .exact hd x hx
  have h3:0<(wR s o dJ::l).length/\(wR s o dJ::l).length<=ah:=by rw[a4p];unfold ah;omega
  have s0:cZ X0 Qp (iD (m+1)) (.fn 89 [] []) [] [] (.agg dJ.ps) []:=nU.YW hX (first:=[]) (cap:=[]) (CW 89 [] (vA.put dJ) [] [] (by kernel_rfl) (fun p h=>by cases h)) rfl rfl rfl rfl;have s1:cZ X0 Qp (iD (m+1)) (.fn 107 [] []) [lI s,lI o,.agg dJ.ps] [] (.agg (wR s o dJ).ps) []:=nU.YW hX (first:=[]) (cap:=[]) (xs:=[lI s,lI o,.agg dJ.ps]) (CW 107 [lI s,lI o,.agg dJ.ps] (dA.put (wR s o dJ)) [] [s.length<=ah,o.length<=ah] (by kernel_rfl) (fun p h=>by
   rcases a1B.1 h with rfl|h
   .exact b1
   .rw[a2m.1 h];exact b2)) rfl rfl rfl rfl
  have s2:cZ X0 Qp (iD (m+1)) (.fn 119 [] []) [.dF 26 l false] [] (.own 0) (acW l):=nU.a8k hX (CW 119 [.dF 26 l false] (.own 0) (acW l) [l.length<=ah] (by kernel_rfl) (afd.2 hlm)) rfl rfl rfl rfl;have s3:=atO (n:=m) (k:=false) (ex:=false) (k2:=true) (Gm:=true) (l:=l) (a:=wR s o dJ) (a5O hl (by decide));cases e2:(bf (wR s o dJ::l) != 0)
  .have lp:=lBo (n:=m+1) (by omega) (fun j hj=>Fe j (by omega)) (fun j hj=>hO3 j (by omega)) (fun j hj=>hO4 j (by omega)) (af9 hp2 (by simpa using e2) hlm) hI;exact aN CW (.o b1 (.o b3 (.b e1 (.fr [] s0 (.fr [] s1 (.fr [] s2 (.fr [0,1] s3 (.o hp2 (.o h3 (.b e2 (.wG [.gc []] lp .rr)))))))))))
  .exact aN CW (.o b1 (.o b3 (.b e1 (.fr [] s0 (.fr [] s1 (.fr [] s2 (.fr [0,1] s3 (.o hp2 (.o h3 (.b e2 (rE _)))))))))))
 .exact aN CW (.o b1 (.o b3 (.b e1 (rE _))))
open Go Tw Pv bQ
def SA(b:Bool):V:=if b=true then dJ else V0
def a9R:gU aH:=bU 120 (a1 tA) vA (fun p=>SA p) np aod
theorem aoe:Gd a9R:=atQ.add fun n hO p hp=>aN hO (.ss .rr .rr)
abbrev wWh(d:Dg)(x:List V)(i:Int)(e:List (Nat×PE aH)):bJ aH:=⟨[(1,.loc 0 0),(2,.loc 1 0),(3,.val (.own 0)),(4,xi i)]++e,[d.ps,ni5],[.list false false 39 x]⟩
theorem lWh{n}(hO:Ok n a9R)(d){l}(hl:l.length<=ah):Lp n 69 0 (wWh d l 0 []) (.exit 0) (wWh d ((List.range l.length).map fun k=>SA (decide (l.getD k V0=dJ))) l.length [(10,xl false)]):=by
 have:=qY (n:=n) (f:=69) (k:=0) (B:=0) (σ:=List V) (N:=l.length) (g:=fun k (x:List V)=>x.set k (SA (decide (x.getD k V0=dJ)))) (s0:=l) (st:=fun i x=>wWh d x i []) (e:=.exit 0) (fin:=fun x=>wWh d x l.length [(10,xl false)]) (w:=wWh d l 0 []) (fun k x=>x.length=l.length) (by kernel_rfl) hl rfl (fun k x _ h=>by rw[a5A];exact h) (fun k x hk ha m e p g9=>by
  have ha:x.length=l.length:=ha;have t1:decide ((k:Int)<(x.length:Int))=true:=aV (by omega);have i1:fZ (k:Int) x.length:=aF (by omega);refine aI hO (.b t1 (.o i1 (.o i1 (.go g9))))) (fun x ha=>by
  have ha:x.length=l.length:=ha;have t1:decide ((l.length:Int)<(x.length:Int))=false:=by rw[ha];exact dZ l.length
  refine aI hO (.b t1 .ex))
 rw[a9N (fun _ v=>SA (decide (v=dJ))) l]at this;exact this
def N7(d:Dg):Dg:=je d.aj d.aB ((List.range (cellsD d).length).map fun k=>SA (decide ((cellsD d).getD k V0=dJ)))
def acZ:gU aH:=bU 69 (a1 dA) dA N7 (fun p=>[Rk p]) a9R
theorem atS:Gd acZ:=Good.U3 1 aoe anF fun n hn hO Fe d hp=>by have h:Rk d:=hp _ gQ;have s1:=aii (n:=n-1) (Fe _ (by omega)) h;rw[show n-1+1=n by omega]at s1;have lp:=lWh (n:=n) (hO n (by omega)) d (a1f h);obtain⟨_,q1,q2,q3⟩:=h.of (l:=(List.range (cellsD d).length).map fun k=>SA (decide ((cellsD d).getD k V0=dJ))) (by rw[a4P,a6u,yt]);exact aN (hO n (by omega)) (.fr [] s1 (.w lp (.o q1 (.o q2 (.o q3 .rr)))))
open Go Tw Pv bQ
abbrev wBi(s o:LI0)(l:List Dg)(acc:List V)(i:Int)(b:Bool)(k:Int)(x:List (Nat×PE aH)):bJ aH:=⟨[(0,xL 3 s),(1,xL 3 o),(2,xL 26 l),(6,.loc 0 0),(7,.val (.own 0)),(8,xi i),(9,xt b),(10,xi k)]++x,[ni5],[.list false false 39 acc]⟩
def gBi(l:List Dg)(p:LI0)(k:Nat)(b:Bool):Bool:=if b=true then decide (vT (l.getD k gK) p=dJ)else false
def allM(l:List Dg)(p:LI0):Bool:=aQ (gBi l p) l.length 0 true
structure BtP(s o:LI0)(l:List Dg):Prop where
 f:qy s
 o:jC s.length o=true
 d:∀x∈l,Rk x/\x.aj=s
 n:l.length<=ah
theorem lBi{n}(hO:Ok n acZ){s o l}(h:BtP s o l)(acc){i}(hi:i<uK s):Lp n 71 1 (wBi s o l acc i true 0 []) (.exit 2) (wBi s o l acc i (allM l (iV s i)) l.length [(20,xl false)]):=by
 have hc:=h.f.RZ;have hm:=h.f.many;refine qY (n:=n) (f:=71) (k:=1) (B:=0) (σ:=Bool) (N:=l.length) (g:=gBi l (iV s i)) (s0:=true) (st:=fun k b=>wBi s o l acc i b k []) (e:=.exit 2) (fin:=fun b=>wBi s o l acc i b l.length [(20,xl false)]) (w:=wBi s o l acc i true 0 []) (fun _ _=>True) (by kernel_rfl) h.n trivial (fun _ _ _ _=>trivial) (fun k b hk _ m e p g9=>?_) (fun b _=>?_)
 .obtain⟨hL,es⟩:=h.d _ (dw (d:=gK) hk);have hu:DgU (l.getD k gK):=⟨hL.t,hL.n,by rw[hL.l];rfl⟩;have hp:iF (l.getD k gK).aj (iV s (i:Int))=true:=by rw[es];exact qX (i:Int) h.f.sz
  unfold gBi at g9;cases b
  .rw[a0S (by simp)]at g9;exact aI hO (.b (aV hk) (.b aiC (.Zx [.lit] g9)))
  rw[a15 rfl]at g9;exact aI hO (.b (aV hk) (.b aiH (.o (aF hk) (.o h.f.Ye (.o h.f.sz (.o (show(0:Int)<=(i:Int) by omega) (.o (show(i:Int)<2^62 by omega) (.o hu (.o hp (.go g9))))))))))
 exact aI hO (.b (dZ l.length) .ex)
abbrev wBu(s o:LI0)(l:List Dg)(acc:List V)(i:Int)(x:List (Nat×PE aH)):bJ aH:=⟨[(0,xL 3 s),(1,xL 3 o),(2,xL 26 l),(6,.loc 0 0),(7,.val (.own 0)),(8,xi i)]++x,[ni5],[.list false false 39 acc]⟩
def gBu(s:LI0)(l:List Dg)(i:Nat)(acc:List V):List V:=acc++[SA (allM l (iV s i))]
def uS(s:LI0)(l:List Dg):List V:=(List.range (uK s)).map fun(k:Nat)=>SA (allM l (iV s k))
theorem ail(s l):aQ (gBu s l) (uK s) 0 []=uS s l:=by have:=bP (g:=gBu s l) (m:=uK s) (k:=0) (s:=[]) (fun k a=>a=(List.range k).map fun(k:Nat)=>SA (allM l (iV s k))) rfl (fun j a _ _ e=>by rw[gBu,e,abX,a4M];rfl);rw[a3C]at this;exact this
theorem lBu{n}(hO:Ok n acZ){s o l}(h:BtP s o l):Lp n 71 0 (wBu s o l [] 0 []) (.exit 0) (wBu s o l (uS s l) (uK s) [(14,xl false)]):=by
 obtain⟨c1,c2,_⟩:=Zp h.f;rw[<-ail s l];refine qY (σ:=List V) (N:=uK s) (g:=gBu s l) (s0:=[]) (st:=fun i y=>wBu s o l y i []) (fin:=fun y=>wBu s o l y (uK s) [(14,xl false)]) (fun k y=>y.length<=k) (by kernel_rfl) (by unfold ah;omega) (a1j 0) (fun j y hj hy=>by rw[gBu,a1v,a3J];omega) (fun j y hj hy m e p g9=>?_) (fun y _=>?_)
 .have t1:decide ((j:Int)<Ae s)=true:=by rw[c1];exact aV hj
  have h2:y.length+[SA (allM l (iV s j))].length<=ah:=by simp only[a3J];unfold ah;omega
  have lp:=lBi hO h y hj;exact aI hO (.o h.f.Ye (.b t1 (.wG [.lit] lp (.o h2 (.Zx [.gc [2]] g9)))))
 have t1:decide (((uK s:Nat):Int)<Ae s)=false:=by rw[c1];exact dZ _
 exact aI hO (.o h.f.Ye (.b t1 .ex))
def ad1:gU aH:=bU 71 (a3 nY nY VW) dA (fun p=>je p.1 p.2.1 (uS p.1 p.2.2)) (fun p=>[BtP p.1 p.2.1 p.2.2]) acZ
theorem atT:Gd ad1:=atS.add fun n hO p hp=>by obtain⟨s,o,l⟩:=p;have h:BtP s o l:=hp _ gQ;have lp:=lBu hO h;obtain⟨q1,q2,q3⟩:=aij h.f h.o (l:=uS s l) (by simp[uS]);exact aN hO (.wG [.FM 7 39] lp (.o q1 (.o q2 (.o q3 .rr))))
open Go Tw Pv bQ
theorem ain(v):iM [v]=SA (decide (v=dJ)):=acS v
theorem aio(b v):iM [SA b,v]=SA (if b=true then decide (v=dJ)else false):=by
 unfold iM oM;cases b
 .have e:¬(V0=dJ):=by decide
  simp[SA,e]
 simp[SA]
theorem aip{d}(hp:nT d)(h0:gZ d=0):jD d=(N7 d,0)/\DgF (N7 d):=by
 have hk:bf [d]=0:=by rw[a3v hp];exact h0
 have hJ:=yh (D:=[d]) (by simp) (by simp) (fun x hx=>by rw[a2m.1 hx];exact hp) hk;have jK:ru (dW [d]) iM:=fun t hd=>WR _;have e:Dh (dW [d]) iM=N7 d:=by rw[mk_eq hJ jK];show je d.aj d.aB (Ho (dW [d]) iM)=_;rw[UH hJ];unfold N7;rw[yt];refine congrArg _ (a5J fun k hk=>?_);rw[acT (d:=d) (a5y.1 hk),<-ain];rfl
 refine⟨?_,e▸ao5 hJ jK⟩;show(if(bf [d] != 0)=true then(gK,bf [d])else(Dh (dW [d]) iM,0))=_;rw[hk,a0S (by simp),e]
theorem aoi{s o l}(h:BoP s o l)(h0:aY s o=0):aQ (gBo l) l.length 0 (wR s o dJ)=je s o (uS s l)/\BoI s o (je s o (uS s l)):=by
 obtain⟨bG,ord⟩:=iL.1 h0;have vW:∀b,HY (SA b):=fun b=>by cases b;exact a9p;exact Jw
 have cells:∀(f:Nat->Bool) (i:Nat),i<uK s->vT (je s o ((List.range (uK s)).map fun k=>SA (f k))) (iV s (i:Int))=SA (f i):=fun f i hi=>by have hO:OfP s o ((List.range (uK s)).map fun k=>SA (f k)):=⟨bG,ord,by rw[a4P,a6u];exact bG.RZ⟩;rw[a3d hO (fun v hv=>by obtain⟨k,_,rfl⟩:=a1u.1 hv;exact(vW _).1) (qX (i:Int) bG.sz),J8 bG.sz (by omega) (by have:=bG.RZ;omega),a5M,a2J,a5w,ab9 hi];rfl
 have:=bP (g:=gBo l) (m:=l.length) (k:=0) (s:=wR s o dJ) (fun k a=>BoI s o a/\a=je s o ((List.range (uK s)).map fun(i:Nat)=>SA (aQ (gBi l (iV s i)) k 0 true))) ⟨WY h0,by
  rw[Zr h0 Jw];refine congrArg _ ?_;show List.replicate (uK s) dJ=(List.range (uK s)).map fun _=>dJ;rw[List.map_const',a6u]⟩ (fun k a _ hk hi=>by
  obtain⟨hI,e⟩:=hi;have hk:k<l.length:=by omega
  obtain⟨hJ,jK⟩:=h.j hI hk;refine⟨h.step hI hk,?_⟩;unfold gBo;rw[mk_eq hJ jK];show je a.aj a.aB (Ho (dW [a,l.getD k gK]) iM)=_;rw[hI.s,hI.o,UH hJ];refine congrArg _ ?_;show(List.range (uK a.aj)).map (fun(i:Nat)=>iM [vT a (iV a.aj i),vT (l.getD k gK) (iV a.aj i)])=_;rw[hI.s];refine a5J fun i hi=>?_;have hi:=a5y.1 hi;have e2:vT a (iV s (i:Int))=SA (aQ (gBi l (iV s i)) k 0 true):=by rw[e];exact cells (fun i=>aQ (gBi l (iV s i)) k 0 true) i hi
  rw[e2,aio,qO,a3C];rfl)
 rw[a3C]at this;obtain⟨h1,h2⟩:=this;exact⟨h2,h2▸h1⟩
open Go Tw Pv bQ
abbrev wMe(F:Dg)(E:List Dg)(A B:Dg)(g w i:Int)(e:List (Nat×PE aH)):bJ aH:=⟨[(3,.loc 0 0),(4,xL 26 E),(7,.loc 2 0),(8,xi g),(10,xi w),(11,xi i)]++e,[F.ps,A.ps,B.ps],[]⟩
abbrev wMf(F:Dg)(E:List Dg)(A B:Dg)(g w i:Int)(e:List (Nat×PE aH)):bJ aH:=⟨[(3,.loc 0 0),(4,xL 26 E),(7,.loc 2 0),(8,xi g),(10,xi w),(12,xi i)]++e,[F.ps,A.ps,B.ps],[]⟩
def Hy(f:Nat->Int)(k:Nat)(w:Int):Int⊕(Int×Nat):=if(w==0)=true then .inl (f k)else .inr (w,k)
def Rx(f:Nat->Int)(k:Nat)(w:Int):Int:=if(w==0)=true then f k else w
def FT:Int⊕(Int×Nat)->Int
 |.inl w=>w
 |.inr r=>r.1
def ad2(n:Nat):Int⊕(Int×Nat)->Nat
 |.inl _=>n
 |.inr r=>r.2
theorem Fv(f):∀(m k) (w),w≠0->aQ (Rx f) m k w=w
 | 0,_,_,_=>rfl
 |m+1,k,w,h=>by
  show aQ (Rx f) m (k+1) (Rx f k w)=w;have e:Rx f k w=w:=by unfold Rx;rw[a0S (by simpa using h)]
  rw[e,Fv f m (k+1) w h]
theorem WZ(f):∀(m k) (w),FT (jU (Hy f) m k w)=aQ (Rx f) m k w
 | 0,_,_=>rfl
 |m+1,k,w=>by
  show _=aQ (Rx f) m (k+1) (Rx f k w);by_cases h:w=0
  .have e:Hy f k w=.inl (f k):=by unfold Hy;rw[a15 (by simpa using h)]
   have e2:Rx f k w=f k:=by unfold Rx;rw[a15 (by simpa using h)]
   simp only[jU,e,e2];exact WZ f m (k+1) _
  have e:Hy f k w=.inr (w,k):=by unfold Hy;rw[a0S (by simpa using h)]
  have e2:Rx f k w=w:=by unfold Rx;rw[a0S (by simpa using h)]
  simp only[jU,e,e2];exact(Fv f m (k+1) w h).symm
theorem X3{f}:∀(m k),(∀j,k<=j->j<k+m->f j=0)->aQ (Rx f) m k 0=0
 | 0,_,_=>rfl
 |m+1,k,h=>by show aQ (Rx f) m (k+1) (f k)=0;rw[h k (a1j _) (by omega)];exact X3 m (k+1) fun j h1 h2=>h j (by omega) (by omega)
theorem Rl{f}:∀(m k j),k<=j->j<k+m->f j≠0->(∀i,k<=i->i<j->f i=0)->aQ (Rx f) m k 0=f j
 | 0,k,j,h1,h2,_,_=>by omega
 |m+1,k,j,h1,h2,h3,h4=>by
  show aQ (Rx f) m (k+1) (f k)=f j;by_cases e:j=k
  .subst e;exact Fv f m _ _ h3
  rw[h4 k (a1j _) (by omega)];exact Rl m (k+1) j (by omega) (by omega) h3 fun i h5 h6=>h4 i (by omega) h6
def eCk(E:List Dg)(k:Nat):Int:=gZ (E.getD k gK)
def eFt(E:List Dg)(F:Dg)(k:Nat):Int:=if(!(Gp (E.getD k gK,F)))=true then 2 else 0
def zMe(F:Dg)(E:List Dg)(A B:Dg)(g:Int)(r:Int⊕(Int×Nat)):Ex×bJ aH:=(.exit 0,wMe F E A B g (FT r) (ad2 E.length r) [(89,xl false)])
def zMf(F:Dg)(E:List Dg)(A B:Dg)(g:Int)(r:Int⊕(Int×Nat)):Ex×bJ aH:=(.exit 2,wMf F E A B g (FT r) (ad2 E.length r) [(104,xl false)])
theorem lMe{n}(hO:Ok n ad1)(F){E}(hf:∀x∈E,Fq x)(hl:E.length<=ah)(A B g w):Lp n 14 0 (wMe F E A B g w 0 []) (.exit 0) (wMe F E A B g (FT (jU (Hy (eCk E)) E.length 0 w)) (ad2 E.length (jU (Hy (eCk E)) E.length 0 w)) [(89,xl false)]):=
 iI (st:=fun i w=>wMe F E A B g w i []) (g:=Hy (eCk E)) (out:=zMe F E A B g) (s0:=w) (fun _ _=>True) (by kernel_rfl) hl trivial (fun k w m hk _ ih=>by
  have h:=hf _ (dw (d:=gK) hk);unfold Hy;cases e:(w==0)
  .rw[a0S (by simp)];exact aI hO (.b (aV hk) (.b e (.ou nofun)))
  .rw[a15 rfl];exact aI hO (.b (aV hk) (.b e (.o (aF hk) (.o h.o (.o h.e (.nx (ih _ trivial)))))))
  ) (fun w _=>aI hO (.b (dZ E.length) (.ou nofun)))
theorem lMf{n}(hO:Ok n ad1)(F){E}(hf:∀x∈E,Fq x)(hl:E.length<=ah)(A B g w){w0}(hw:hdP 14 1 w0=wMf F E A B g w 0 []):Lp n 14 1 w0 (.exit 2) (wMf F E A B g (FT (jU (Hy (eFt E F)) E.length 0 w)) (ad2 E.length (jU (Hy (eFt E F)) E.length 0 w)) [(104,xl false)]):=
 iI (st:=fun i w=>wMf F E A B g w i []) (g:=Hy (eFt E F)) (out:=zMf F E A B g) (s0:=w) (fun _ _=>True) hw hl trivial (fun k w m hk _ ih=>by
  have h:=hf _ (dw (d:=gK) hk);unfold Hy;cases e:(w==0)
  .rw[a0S (by simp)];exact aI hO (.b (aV hk) (.b e (.ou nofun)))
  .rw[a15 rfl];unfold eFt at ih ⊢;cases e2:(!(Gp (E.getD k gK,F)))
   .have hw0:w=0:=(by simpa using e);subst hw0;exact aI hO (.b (aV hk) (.b e (.o (aF hk) (.o h.s (.o h.o (.b e2 (.nx (ih _ trivial))))))))
   .exact aI hO (.b (aV hk) (.b e (.o (aF hk) (.o h.s (.o h.o (.b e2 (.nx (ih _ trivial))))))))
  ) (fun w _=>aI hO (.b (dZ E.length) (.ou nofun)))
open Go Tw Pv bQ
theorem ad3(a b):Gp (a,b)=true↔a.aj=b.aj/\a.aB=b.aB:=by
 unfold Gp;split
 .rename_i h;have h:a.aj=b.aj:=by simpa using h
  simp[h]
 rename_i h;have h:¬a.aj=b.aj:=by simpa using h
 simp[h]
theorem a9T{F E}(h0:aY F.aj F.aB=0)(hE:∀x∈E,nT x):bf (wR F.aj F.aB dJ::E)=aQ (Rx (eFt E F)) E.length 0 (aQ (Rx (eCk E)) E.length 0 0):=by
 have hI:=WY h0;have hp:∀x∈wR F.aj F.aB dJ::E,nT x:=fun x hx=>by
  rcases a1B.1 hx with rfl|hx
  .exact hI.f.p
  exact hE x hx
 have hk:∀k,k<(wR F.aj F.aB dJ::E).length->(tK ((wR F.aj F.aB dJ::E).getD k gK)).2=gZ ((wR F.aj F.aB dJ::E).getD k gK):=fun k hk=>by have h:=hp _ (dw (d:=gK) hk);rw[Ew h.r h.s (by have:=h.o;unfold ah;omega) h.e]
 unfold bf;cases h:jO (aZ (Ux (wR F.aj F.aB dJ::E)) (wR F.aj F.aB dJ::E).length)
 .obtain⟨j,hj,h1,h2,h3⟩:=wM h;rw[a0S (by simp),h3];have hj0:j≠0:=fun e=>by
   subst e;unfold Ux at h1;rw[hk 0 hj]at h1;have:gZ (wR F.aj F.aB dJ)=0:=hI.f.k
   change (gZ (wR F.aj F.aB dJ) != 0)=true at h1
   rw[this]at h1;cases h1
  obtain⟨i,rfl⟩:∃i,j=i+1:=⟨j-1,by omega⟩;have hi:i<E.length:=by simpa using hj
  have e1:gZ (E.getD i gK)≠0:=by unfold Ux at h1;rw[hk _ hj]at h1;simpa using h1
  have e2:aQ (Rx (eCk E)) E.length 0 0=gZ (E.getD i gK):=Rl (f:=eCk E) E.length 0 i (a5D _) (by omega) e1 fun k _ kN=>by have:=h2 (k+1) (by omega);unfold Ux at this;rw[hk _ (by simp;omega)]at this;show gZ (E.getD k gK)=0;simpa using this
  rw[e2,Fv _ _ _ _ e1];exact hk (i+1) hj
 rw[a15 rfl];have hz:=cO.1 h;have e2:aQ (Rx (eCk E)) E.length 0 0=0:=X3 (f:=eCk E) E.length 0 fun j _ hj=>by have:=hz (j+1) (by simp;omega);unfold Ux at this;rw[hk _ (by simp;omega)]at this;show gZ (E.getD j gK)=0;simpa using this
 rw[e2];have hft:∀k,k<E.length->(eFt E F k=0↔o7 (F.aj,F.aB) (E.getD k gK)=true):=fun k hk=>by
  have e:o7 (F.aj,F.aB) (E.getD k gK)=Gp (E.getD k gK,F):=by rw[a5G,ad3];simp[o7]
  unfold eFt;rw[e];cases Gp (E.getD k gK,F)<;>simp
 cases hs:jO (aZ (fun k=>eFt E F k != 0) E.length)
 .obtain⟨j,hj,h1,h2,_⟩:=wM hs;have h1:eFt E F j≠0:=by simpa using h1
  rw[Rl E.length 0 j (a5D _) (by omega) h1 fun k _ kN=>by have:=h2 k kN;simpa using this];have e3:((wR F.aj F.aB dJ::E).all (o7 (F.aj,F.aB)))=false:=by
   cases e:(wR F.aj F.aB dJ::E).all (o7 (F.aj,F.aB))
   .rfl
   exact absurd ((hft j hj).2 (a5z.1 e _ (a3A _ (dw hj)))) h1
  show(if(!((wR F.aj F.aB dJ::E).all (o7 (F.aj,F.aB))))=true then(2:Int)else 0)=_;rw[e3];unfold eFt at h1 ⊢;split at h1
  .rename_i c;rw[a15 c];rfl
  exact absurd rfl h1
 have hz2:=cO.1 hs;rw[X3 E.length 0 fun j _ hj=>by have:=hz2 j (by omega);simpa using this];have e3:((wR F.aj F.aB dJ::E).all (o7 (F.aj,F.aB)))=true:=a5z.2 fun x hx=>by
  rcases a1B.1 hx with rfl|hx
  .simp[o7]
  obtain⟨j,hj,rfl⟩:=a90 hx;have:=(hft j hj).1 (by have:=hz2 j hj;simpa using this)
  rwa [a2J,a0A hj,a5K]at this
 show(if(!((wR F.aj F.aB dJ::E).all (o7 (F.aj,F.aB))))=true then(2:Int)else 0)=_;rw[e3];rfl
theorem a9U{F E}(hE:∀x∈E,nT x)(hf:∀x∈E,Fq x)(hl:E.length<=ah){w}(hw:w=aQ (Rx (eFt E F)) E.length 0 (aQ (Rx (eCk E)) E.length 0 (aY F.aj F.aB))) :(w≠0->JA (F.aj,F.aB,E)=(gK,w))/\(w=0->JA (F.aj,F.aB,E)=(je F.aj F.aB (uS F.aj E),0)/\BtP F.aj F.aB E/\Fq (je F.aj F.aB (uS F.aj E))):=by
 by_cases h0:aY F.aj F.aB=0
 .rw[h0,<-a9T h0 hE]at hw;have q:JA (F.aj,F.aB,E)=if(bf (wR F.aj F.aB dJ::E) != 0)=true then(gK,bf (wR F.aj F.aB dJ::E))else(aQ (gBo E) E.length 0 (wR F.aj F.aB dJ),0):=by show(if(aY F.aj F.aB != 0)=true then _ else _)=_;rw[h0,a0S (by simp)]
  rw[q];constructor
  .intro hw0;rw[a15 (by rw[<-hw];simpa using hw0),hw]
  .intro hw0;have hc:bf (wR F.aj F.aB dJ::E)=0:=(by omega);rw[hc,a0S (by simp)];have hI:=WY h0;have hp:∀x∈wR F.aj F.aB dJ::E,nT x:=fun x hx=>by
    rcases a1B.1 hx with rfl|hx
    .exact hI.f.p
    .exact hE x hx
   have hB:=af9 hp hc hl;obtain⟨e1,e2⟩:=aoi hB h0;obtain⟨bG,ord⟩:=iL.1 h0;exact⟨by rw[e1],⟨bG,ord,fun x hx=>⟨Oj (hf x hx).o (hf x hx).e (by rw[hB.k x hx];rfl),(hB.s x hx).1⟩,hl⟩,e2.f.f⟩
 .rw[Fv _ _ _ _ h0,Fv _ _ _ _ h0]at hw;subst hw;constructor
  .intro _;show(if(aY F.aj F.aB != 0)=true then _ else _)=_;rw[a15 (by simpa using h0)]
  .intro h;exact absurd h h0
abbrev ku(l:List Dg):Dg:=l.getD (i64.wrap ((l.length:Int)-1)).toNat gK
abbrev AQ(l:List Dg):List Dg:=l.take (i64.wrap ((l.length:Int)-1)).toNat
abbrev AU(l:List Dg):Dg×Int:=JA ((ku l).aj,(ku l).aB,AQ l)
def atU:gU aH:=bU 14 (a1 VW) tA (fun _=>true) (fun p=>[∀d∈p,Jg d]) ad1
theorem atV:Gd atU:=atT.add fun n hO l hp=>by
 have hr:∀d∈l,Jg d:=hp _ gQ;cases ht:(!(Ol l))
 .obtain⟨h6,hT⟩:=a9M (l:=l) (by simpa using ht);have hf:∀d∈l,Fq d:=fun d m=>(Zn (hT d m)).1;have hP:∀d∈l,nT d:=fun d m=>aib (hT d m) (hr d m);cases e0:((l.length:Int)==0)
  .have hn1:(l.length:Int)≠0:=(by simpa using e0);have ew:i64.wrap ((l.length:Int)-1)=(l.length:Int)-1:=wrap_small (by omega) (by omega);have i1:fZ (i64.wrap ((l.length:Int)-1)) l.length:=by rw[ew];exact⟨by omega,by omega⟩
   have z0:(0:Int)<=((0:Nat):Int):=(by decide);have z1:((0:Nat):Int)<=i64.wrap ((l.length:Int)-1):=by rw[ew];omega
   have z2:i64.wrap ((l.length:Int)-1)<=(l.length:Int):=by rw[ew];omega
   have mF:ku l∈l:=dw (by obtain⟨a,b⟩:=i1;omega);have mE:∀x∈AQ l,x∈l:=fun x hx=>a7q hx;have hlen:(AQ l).length<=1000:=by rw[a4c];omega
   have fF:=hf _ mF;have pF:=hP _ mF;have fE:∀x∈AQ l,Fq x:=fun x hx=>hf x (mE x hx);have pE:∀x∈AQ l,nT x:=fun x hx=>hP x (mE x hx);have hlm:(AQ l).length<=ah:=by unfold ah;omega
   have o20:(ku l).aB.length<=2^20:=by have:=fF.o;unfold ah at this;omega
   have lp:=lMe (n:=n) hO (ku l) fE hlm (jD (ku l)).1 (AU l).1 (AU l).2 (aY (ku l).aj (ku l).aB);have ev:=WZ (eCk (AQ l)) (AQ l).length 0 (aY (ku l).aj (ku l).aB);generalize jU (Hy (eCk (AQ l))) (AQ l).length 0 (aY (ku l).aj (ku l).aB)=r1 at lp ev;have lq:=lMf (n:=n) hO (ku l) fE hlm (jD (ku l)).1 (AU l).1 (AU l).2 (FT r1) (w0:=wMf (ku l) (AQ l) (jD (ku l)).1 (AU l).1 (AU l).2 (FT r1) 0 []) (by kernel_rfl);have ev2:=WZ (eFt (AQ l) (ku l)) (AQ l).length 0 (FT r1);generalize jU (Hy (eFt (AQ l) (ku l))) (AQ l).length 0 (FT r1)=r2 at lq ev2;rw[ev]at ev2;obtain⟨be,bo⟩:(FT r2≠0->AU l=(gK,FT r2))/\(FT r2=0->AU l=(je (ku l).aj (ku l).aB (uS (ku l).aj (AQ l)),0)/\BtP (ku l).aj (ku l).aB (AQ l)/\Fq (je (ku l).aj (ku l).aB (uS (ku l).aj (AQ l)))):=a9U pE fE hlm ev2;have wh:gZ (ku l)≠0->jD (ku l)=(gK,gZ (ku l)):=fun h=>by show(if(bf [_] != 0)=true then _ else _)=_;rw[a3v pF,a15 (by simpa using h)]
   cases w1:(gZ (ku l) != 0)
   .have hz:gZ (ku l)=0:=(by simpa using w1);have w2:(gZ (ku l)==0)=true:=by rw[hz];rfl
    obtain⟨g1,g2⟩:=aip pF hz;have hL:=Oj fF.o fF.e (by rw[hz];rfl);have f3:Fq (jD (ku l)).1:=by rw[g1];exact g2.f
    have e3:(!(if((jD (ku l)).2==0)=true then Nv (jD (ku l)).1 (N7 (ku l))else false))=false:=by rw[g1];show(!(Nv (N7 _) (N7 _)))=false;rw[AP];rfl
    cases v1:(FT r2 != 0)
    .obtain⟨b1,b2,b3⟩:=bo (by simpa using v1);have f4:Fq (AU l).1:=by rw[b1];exact b3
     have e4:(if((AU l).2==0)=true then Nv (AU l).1 (je (ku l).aj (ku l).aB (uS (ku l).aj (AQ l)))else false)=true:=by rw[b1];exact AP _
     exact aN hO (.b ht (.b e0 (.o i1 (.o z0 (.o z1 (.o z2 (.o fF (.o pF (.o fF.s (.o fF.o (.o fE (.o hlen (.o fF.s (.o fF.o (.o pE (.o hlen (.o fF.o (.o fF.e (.b w1 (.b w2 (.o hL (.o f3 (.b e3 (.o fF.o (.w lp (.w lq (.b v1 (.o b2 (.o f4 (.b e4 .rr))))))))))))))))))))))))))))))
    .have b1:=be (by simpa using v1);have e4:((AU l).2==FT r2)=true:=by rw[b1];exact beq_self_eq_true _
     have f4:Fq (AU l).1:=by rw[b1];exact aia
     have e5:Nv (AU l).1 gK=true:=by rw[b1];exact AP _
     exact aN hO (.b ht (.b e0 (.o i1 (.o z0 (.o z1 (.o z2 (.o fF (.o pF (.o fF.s (.o fF.o (.o fE (.o hlen (.o fF.s (.o fF.o (.o pE (.o hlen (.o fF.o (.o fF.e (.b w1 (.b w2 (.o hL (.o f3 (.b e3 (.o fF.o (.w lp (.w lq (.b v1 (.b e4 (.o f4 (.b e5 .rr))))))))))))))))))))))))))))))
   .have hz:gZ (ku l)≠0:=(by simpa using w1);have w2:(gZ (ku l)==0)=false:=(by simpa using hz);have g1:=wh hz;have e3:((jD (ku l)).2 != gZ (ku l))=false:=by rw[g1];simp
    have f3:Fq (jD (ku l)).1:=by rw[g1];exact aia
    have e6:(!(Nv (jD (ku l)).1 gK))=false:=by rw[g1,AP];rfl
    cases v1:(FT r2 != 0)
    .obtain⟨b1,b2,b3⟩:=bo (by simpa using v1);have f4:Fq (AU l).1:=by rw[b1];exact b3
     have e4:(if((AU l).2==0)=true then Nv (AU l).1 (je (ku l).aj (ku l).aB (uS (ku l).aj (AQ l)))else false)=true:=by rw[b1];exact AP _
     exact aN hO (.b ht (.b e0 (.o i1 (.o z0 (.o z1 (.o z2 (.o fF (.o pF (.o fF.s (.o fF.o (.o fE (.o hlen (.o fF.s (.o fF.o (.o pE (.o hlen (.o fF.o (.o fF.e (.b w1 (.b e3 (.o f3 (.b e6 (.b w2 (.o fF.o (.w lp (.w lq (.b v1 (.o b2 (.o f4 (.b e4 .rr))))))))))))))))))))))))))))))
    .have b1:=be (by simpa using v1);have e4:((AU l).2==FT r2)=true:=by rw[b1];exact beq_self_eq_true _
     have f4:Fq (AU l).1:=by rw[b1];exact aia
     have e5:Nv (AU l).1 gK=true:=by rw[b1];exact AP _
     exact aN hO (.b ht (.b e0 (.o i1 (.o z0 (.o z1 (.o z2 (.o fF (.o pF (.o fF.s (.o fF.o (.o fE (.o hlen (.o fF.s (.o fF.o (.o pE (.o hlen (.o fF.o (.o fF.e (.b w1 (.b e3 (.o f3 (.b e6 (.b w2 (.o fF.o (.w lp (.w lq (.b v1 (.b e4 (.o f4 (.b e5 .rr))))))))))))))))))))))))))))))
  .exact aN hO (.b ht (.b e0 .rr))
 .exact aN hO (.b ht .rr)
open Go Tw Pv
section
variable{H:Type}{nJ:LI2×LI3->H}{w:LI4}
abbrev RdX(nJ:LI2×LI3->H)(w:LI4)(g t:Nat){α:Type}(ps:α->List (PV aH))(Q:α->Prop):Prop:=RdP nJ X0 Tryz.prog w g t ps Q
theorem a3w:Tryz.prog.cellsOf 3=1:=by kernel_rfl
theorem atX:Tryz.prog.cellsOf 5=1:=by kernel_rfl
theorem afa:Tryz.prog.cellsOf 39=2:=by kernel_rfl
theorem zI0:dG Tryz.prog 3=some 1:=by kernel_rfl
theorem ad5{g}:RdX nJ w (g+1) 3 (fun n:Int=>[.int .i64 n]) (fun n=>(Lit.int .i64 n).wf=true):=a2G Tryz.underlying3
theorem rU8{g}:RdX nJ w (g+1) 5 (fun n:Int=>[.int .u8 n]) (fun n=>0<=n/\n<=255):=(a2G Tryz.underlying5).iso id (fun _=>rfl) fun n h=>by simp only[Lit.wf,a2o,a1z]at h;exact h
theorem a9V{g}:RdX nJ w (g+2) 22 (fun l:LI0=>[lI l]) (fun l=>∀a∈l,(Lit.int .i64 a).wf=true):=Jd (e:=3) Tryz.underlying22 a3w zI0 (by decide) (fun _=>rfl) ad5
theorem atY{g}:RdX nJ w (g+2) 39 V.ps (fun v=>0<=v.f/\v.f<=255):=
 (He Tryz.underlying39 afa (fun _=>rfl) (sS rfl atX (fun _=>rfl) rU8 (sS rfl a3w (fun _=>rfl) ad5 VT))).iso (fun x=>⟨x.1,x.2.1⟩) (fun _=>rfl) fun _ h=>h.1
theorem aok:dG Tryz.prog 39=some 2:=by kernel_rfl
theorem aol{g}:RdX nJ w (g+3) 23 (fun l:List V=>[lV l]) (fun l=>∀v∈l,0<=v.f/\v.f<=255):=Jd (e:=39) Tryz.underlying23 afa aok (by decide) (fun _=>rfl) atY
theorem aiq:Tryz.prog.cellsOf 22=1:=by kernel_rfl
end
open Go Tw Pv bQ
section
variable{H:Type}{nJ:LI2×LI3->H}{w:LI4}
theorem aom:Tryz.prog.cellsOf 105=2:=by kernel_rfl
theorem atZ:dG Tryz.prog 105=some 2:=by kernel_rfl
theorem aon:Tryz.prog.cellsOf 24=1:=by kernel_rfl
theorem au0:Tryz.prog.cellsOf 23=1:=by kernel_rfl
theorem aoo:Tryz.prog.cellsOf 26=5:=by kernel_rfl
theorem rBr{g}:RdX nJ w (g+3) 105 Br.ps (fun b=>∀a∈b.aA,(Lit.int .i64 a).wf=true):=
 (He Tryz.underlying105 aom (fun _=>rfl) (sS rfl a3w (fun _=>rfl) ad5 (sS rfl aiq (fun _=>rfl) a9V VT))).iso (fun x=>⟨x.1,x.2.1⟩) (fun _=>rfl) fun _ h=>h.2.1
theorem au1{g}:RdX nJ w (g+4) 24 (fun l:List Br=>[lBr l]) (fun l=>∀b∈l,∀a∈b.aA,(Lit.int .i64 a).wf=true):=Jd (e:=105) Tryz.underlying24 aom atZ (by decide) (fun _=>rfl) rBr
theorem a9W{a}(h:(Lit.int .i64 a).wf=true):Hg a:=by
 simp only[Lit.wf,a2o,a1z]at h;obtain⟨h1,h2⟩:=h;have e1:i64.min=-(2^63):=by decide
 have e2:i64.max=2^63-1:=by decide
 exact⟨by omega,by omega⟩
theorem rDg{g}:RdX nJ w (g+5) 26 Dg.ps Jg:=
 (He Tryz.underlying26 aoo (fun _=>rfl) (sS rfl aiq (fun _=>rfl) a9V (sS rfl aiq (fun _=>rfl) a9V (sS rfl au0 (fun _=>rfl) aol (sS rfl aon (fun _=>rfl) au1 (sS rfl a3w (fun _=>rfl) ad5 VT)))))).iso (fun x=>⟨x.1,x.2.1,x.2.2.1,x.2.2.2.1,x.2.2.2.2.1⟩) (fun _=>rfl) fun x h=>by
  obtain⟨_,_,h3,h4,h5,_⟩:=h;refine⟨fun i hi k hk=>?_,a9W h5,fun v hv=>(h3 v hv).1⟩;have hb:fK ⟨x.1,x.2.1,x.2.2.1,x.2.2.2.1,x.2.2.2.2.1⟩ i∈x.2.2.2.1:=by show(x.2.2.2.1).getD i kP∈_;rw[List.getD,a0A hi];exact a5B _
  refine a9W (h4 _ hb _ ?_);rw[List.getD,a0A hk];exact a5B _
end
open Go Tw Pv bQ
section
variable{H:Type}{nJ:LI2×LI3->H}{w:LI4}
theorem au2:dG Qp 26=some 5:=by kernel_rfl
theorem au3{g}:RdX nJ w (g+6) 56 (fun l:List Dg=>[.dF 26 l false]) (fun l=>∀d∈l,Jg d):=Jd (e:=26) Tryz.underlying56 aoo au2 (by decide) (fun _=>rfl) rDg
end
open Go.ChangeShapes Go.WideShapes Go.ChangeAt Go.RowKit
theorem Tryz.own:ownKnob Tryz.prog.godebug=none:=by kernel_rfl
theorem Tryz.laidOut:laidOutB Tryz.prog=true:=by kernel_rfl
theorem Tryz.mixed:Tryz.prog.follows .mixedOrders=true:=by kernel_rfl
theorem air:iQ Tryz.prog T.ext:=by
 show iQ Tryz.prog agJ;intro fv args h v h' ws hc;unfold agJ at hc;split at hc
 .split at hc
  .exact abf (a0e (T:=Tm) Tryz.mixed (fun _ _ _ _ _ _ h=>by cases h) 2) _ _ _ _ _ _ hc
  split at hc
  .exact abn _ _ _ _ _ _ hc
  exact Yf adD _ _ _ _ _ _ hc
 exact Yf adD _ _ _ _ _ _ hc
theorem Tryz.tys14:Tryz.f14.params.toList=[56]:=by kernel_rfl
set_option maxRecDepth 100000 in
theorem JB(os)(started:os.Started)(H)(enc:LI2×LI3->H) :ReturnsInHanded {} Tryz.checked os 14 .any (Rows.applyMeetsSpec.pre6 enc Tryz.prog Tryz.f14 Rows.applyMeetsRow.domain false) (Rows.applyMeetsSpec.post enc Tryz.prog Tryz.f14 false true false false):=by
 refine returnsInHanded_of_change (C:=Tryz.checked) Tryz.own started (by kernel_rfl) Tryz.func14
  (ChangeSpec.witness6 (enc:=enc) (C:=Tryz.checked) false ⟨#[],#[.slice none 0 0],[]⟩ 8 (by kernel_rfl) (by kernel_rfl) (by kernel_rfl) (by kernel_rfl)) ?_
 intro W base args ds gs before aop hW ayy _;have XH:∀(j:Nat) t v,Tryz.f14.params[j]? = some t->args[j]? = some v->Value.okWide Tryz.prog W .any base t v:=aop;have hW':=hW;obtain⟨p,q,au4,hV,rfl,hfz,jJ⟩:=hW;have hTA:DataW.TrodAll enc Tryz.prog W 0 (fun _=>true) true Tryz.f14.params.toList args.toList ds p:=au4;obtain⟨rfl,rfl⟩:=trodVars_none hV;rw[Tryz.tys14]at hTA;obtain⟨d0,_,rfl,r0,_,_,hTA⟩:=a4B hTA;obtain⟨_,rfl,_⟩:=trodAll_nil hTA;obtain⟨a0,q0,h0⟩:=au3 (g:=1) d0 r0;obtain⟨x0,e0,g0,v0⟩:=h0 ([]);have w0:=v0 ([]);simp only[a6m,aar,a6k]at w0;obtain⟨y0,_,rfl,u0,z0⟩:=w0.inv;cases z0.inv0;obtain⟨N,hN⟩:=atV;have au5:=hN (N+1) (by omega) 14 ((Pv.a1 VW).put a0) (tA.put true) [] [∀d∈a0,Jg d] rfl (by intro p hp;simp only[a1B,List.not_mem_nil,or_false]at hp;subst hp;exact q0)
 obtain⟨h',hr⟩:=agE (h:=[]++e0) au5 (by simp only[a6m,aar,a6k];exact .cons u0 .nil);exact a0f (P:=Tryz.prog) (T:=T) (L:=LL) (n:=N) (g:=7) Tryz.mixed Tryz.laidOut rfl rfl (by kernel_rfl) Tryz.underlying4 (by kernel_rfl) hW' XH
  (by rw[Tryz.tys14];exact(agC (by kernel_rfl) g0 agD)) air (by kernel_rfl) (by kernel_rfl) hr
theorem JC:joinedFacts Tryz.pinned.checked.prog 14 Tryz.f14 Rows.applyMeetsSpec Rows.applyMeetsRow=true:=by kernel_rfl
theorem ApplyMeets_holds:Rows.ApplyMeetsSaid:=
 OpenClaim.holds_of_wide 14 Tryz.f14 rfl rfl rfl rfl rfl rfl rfl ⟨rfl,rfl,rfl,rfl,rfl⟩ rfl rfl rfl rfl rfl (by kernel_rfl) Tryz.func14 JC
  (a7j (by kernel_rfl)) (by unfold Func.isWrapper;first|(rw[a15 (by decide +kernel)];kernel_rfl)|(rw[a0S (by decide +kernel)];exact⟨rfl,rfl⟩))
  (fun os started H enc _=>JB os started H enc)
end Go.Proofs.YtmobpoiejckagaaGreat
