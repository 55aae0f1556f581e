/- ApplyOps: what any operation makes of any diagrams is the document's, or the error is (the Go function of this name returns true for every input). -/
import Derived.ProofKit
import Derived.Test.YtmobpoiejckagaaGreatRows
import Derived.Test.YtmobpoiejckagaaGreatP05
set_option linter.constructorNameAsVariable false
set_option linter.unusedVariables false
set_option linter.unusedSimpArgs false
set_option linter.unusedSectionVars false
open Go.IntKind (i64)
noncomputable section
namespace Pv
open Go Tw
section
variable {X:lC} {P:LI1} {T:ru} {call:bn} {cd:wo} {L f nt B:Nat}
theorem aN.Ci{a b:Code}{ps s1:aT X.Γ}{Q:Ex->aT X.Γ->Prop}(hn:oP a=true)(ha:dS X P T call L f false nt B a ps .norm s1)(hb:aN X P T call cd L f nt B b s1 Q):aN X P T call cd L f nt B (.seq a b) ps Q:=
 aN.seq (R:=fun e s=>e=.norm∧s=s1) (dS.dem hn ha ⟨rfl,rfl⟩) (fun s h=>by obtain⟨_,rfl⟩:=h;exact hb) (fun i s h=>by cases h.1) (fun s h=>by cases h.1)
theorem aN.step{c:Code}{ps:aT X.Γ}{e:Ex}{ps1:aT X.Γ}{Q:Ex->aT X.Γ->Prop}(hn:oP c=true)(ha:dS X P T call L f false nt B c ps e ps1)(hq:Q e ps1):aN X P T call cd L f nt B c ps Q:=dS.dem hn ha hq
end
end Pv
namespace Go.Proofs.YtmobpoiejckagaaGreat
open Go Tw Pv cu
theorem LW{α:Type}[DecidableEq α](φ:α->Int)(p:α->Bool):∀l:List α,eH φ l=eH φ (l.filter p)+eH φ (l.filter fun a=>!p a)
 | []=>rfl
 |a::l=>by
  rw[eH,LW φ p l];cases h:p a
  .rw[ad4 (by simp[h]),ad5 (by simp[h]),eH];omega
  rw[ad5 h,ad4 (by simp[h]),eH];omega
theorem WH{α:Type}[DecidableEq α]{φ:α->Int}:∀{l:List α},(∀a∈l,0<=φ a)->0<=eH φ l
 | [],_=>aa0 _
 |a::l,h=>by have:=WH (l:=l) fun b hb=>h b (by simp[hb]);have:=h a (by simp);rw[eH];omega
theorem KH{n:Nat}{l:List Nat}(hn:l.Nodup)(hl:∀j∈l,j<n):((List.range n).filter fun j=>l.contains j).Perm l:=
 (a7P (List.nodup_range.filter _) hn).2 fun j=>by rw[a9n,a5f,List.contains_iff_mem];exact⟨fun h=>h.2,fun h=>⟨hl j h,h⟩⟩
theorem WI{n:Nat}{φ:Nat->Int}{l:List Nat}(hn:l.Nodup)(hl:∀j∈l,j<n)(hp:∀j,j<n->0<=φ j):eH φ l<=eH φ (List.range n):=by rw[LW φ (fun j=>l.contains j) (List.range n),JQ φ (KH hn hl)];have:=WH (φ:=φ) (l:=(List.range n).filter fun j=>!l.contains j) fun j hj=>hp j (a5f.1 (a9n.1 hj).1);omega
theorem QO{n:Nat}{φ:Nat->Int}{l:List Nat}(hn:l.Nodup)(hl:∀j∈l,j<n)(ha:∀j,j<n->j∈l):eH φ l=eH φ (List.range n):=
 (JQ φ ((a7P aeP hn).2 fun j=>⟨fun h=>ha j (a5f.1 h),fun h=>a5f.2 (hl j h)⟩)).symm
abbrev nowAt(now:List (S3×Int))(j:Nat):S3×Int:=now.getD j (⟨0,0,0⟩,0)
theorem Jh{φ:S3->Int}(now:List (S3×Int)):eH (fun j=>(nowAt now j).2*φ (nowAt now j).1) (List.range now.length)=dL φ now:=by
 have h1:dL φ now=eH (fun e:S3×Int=>e.2*φ e.1) now:=by
  induction now with
  |nil=>rfl
  |cons e m ih=>simp only[dL,eH,ih]
 have h2:now=(List.range now.length).map fun j=>nowAt now j:=by refine(o8 (d:=(⟨⟨0,0,0⟩,0⟩:S3×Int)) (by simp)).2 fun k hk=>?_;simp[List.getD,hk]
 rw[h1]
 conv=>rhs;rw[h2]
 rw[Az]
theorem YV{now:List (S3×Int)}{j:Nat}{e:S3×Int}(h:now[j]? = some e):nowAt now j=e∧j<now.length∧e∈now:=by obtain⟨h1,h2⟩:=a0n.1 h;exact⟨by simp[nowAt,List.getD,h],h1,h2▸a5p h1⟩
section
variable {n:Nat} {J:Jb} (hJ:jV J) {f:Nat} (t:List (V×Int)) (now:List (S3×Int)) {a:Nat} {c:Int} {r:LI0}
def InS(J:Jb)(f:Nat)(t:List (V×Int))(now:List (S3×Int))(a:Nat)(c:Int)(r:LI0)(seen:List Nat)(s:aT aB):Prop:=
 seen.Nodup∧(∀j∈seen,j<now.length)∧∃next,NI J (a+1) next∧(∀ψ,dL (yG J ψ r) next=eH (fun j=>(nowAt now j).2*yG J ψ (c::r) (nowAt now j).1) seen)∧gY X0 (T.fC 136 (eu bIB)) s=sH J f t now next c a seen
structure zf(J:Jb)(a:Nat)(now:List (S3×Int)):Prop where
 i:NI J a now
 s:∀ψ,dL (yG J ψ (J.o.drop a)) now=yG J ψ J.o (fF J.D)
include hJ
theorem ah5:(AU J J.o:Int)<=2000:=by have h1:=(KF hJ (jV.o2 hJ).2.2).2;have hw:=Ep hJ.bQ.sz hJ.ord;have hm:=hJ.bQ.many;omega
theorem O1(h:zf J a now):dL (fun _=>(AU J (J.o.drop a):Int)) now<=2000:=by have:=h.s fun _=>1;rw[YU,EZ]at this;have:=ah5 hJ;omega
theorem YW(a:Nat):1<=AU J (J.o.drop a):=(KF hJ fun c hc=>(jV.o2 hJ).2.2 c (a5I hc)).1
theorem a2Z(h:zf J a now):now.length<=2000∧∀e∈now,e.2<=2000:=by
 have h1:=a8X h.i.pos (YW hJ a) (O1 hJ now h);obtain⟨h2,h3⟩:=Jg h.i.pos;have h4:=O1 hJ now h;rw[Ce]at h4;have h5:=a9E (show(1:Int)<=AU J (J.o.drop a) by have:=YW hJ a;omega) h2;have h6:∀{m:List (S3×Int)},(∀e∈m,0<e.2)->(m.length:Int)<=dL (fun _=>1) m:=by
  intro m
  induction m with
  |nil=>intro _;exact aa0 _
  |cons e m ih=>
   intro hp;have:=ih fun e he=>hp e (by simp[he]);have:=hp e (by simp);simp only[dL,a4O,acP];omega
 have:=h6 h.i.pos;exact⟨by omega,h1⟩
set_option maxRecDepth 20000 in
theorem inLoop(hr:J.o.drop a=c::r)(h:zf J a now):aN X0 Qp T (iC (n+1)) DF LL 136 (D7 Qp 136) 5 (.block 2 (.loop bIB)) (sH J f t now [] c a [])
  fun e s=>e=.norm∧∃next seen,NI J (a+1) next∧(∀ψ,dL (yG J ψ r) next=dL (yG J ψ (c::r)) now)∧s={ sH J f t now next c a seen with env:=jy (T.iK 136 7) ((31,.val (.bool false))::(30,.val (.dJ [.bool false]))::a4P J c a) }:=by
 have e0:bIB=.seq (.region 7 (a7G (fA bIB)) false) (.seq (.cond (.tmp 31) .skip (.exit 2)) (.block 3 bX)):=by kernel_rfl
 rw[e0];have hlen:=a2Z hJ now h;have hlL:(kS.im now).length=now.length:=kS.qy now;have hql:=(KF hJ (r:=c::r) fun c' hc=>(jV.o2 hJ).2.2 c' (by rw[<-hr]at hc;exact a5I hc)).1;refine VQ hX (n:=now.length) (b:=7) (r:=5) (it:=29) (nx:=30) (mo:=31) (es:=kS.im now) (fun seen s=>InS J f t now a c r seen s) (by kernel_rfl) (a6B (by kernel_rfl)) (a6B (by kernel_rfl)) hlL (by unfold LL;omega)
  ⟨a5W,(fun j hj=>(by cases hj)),[],⟨a5W,(fun e he=>(by cases he)),(fun e he=>(by cases he))⟩,(fun ψ=>rfl),(by kernel_rfl)⟩ (fun seen s hi=>?_)
 obtain⟨jL,aQ,next,h1,h2,h3⟩:=hi;rw[<-e0];refine⟨_,h3,by kernel_rfl,by kernel_rfl,by kernel_rfl,fun ho=>⟨by kernel_rfl,next,seen,h1,fun ψ=>?_,rfl⟩,fun j e hj he=>⟨by kernel_rfl,?_⟩⟩
 .rw[h2,QO jL aQ ho,Jh]
 .rw[kS.Cc,a0A]at he;obtain⟨⟨st,w⟩,tH,rfl⟩:=he;obtain⟨q1,q2,q3⟩:=YV tH;have GU:(j::seen).Nodup:=a5n.2 ⟨hj,jL⟩;have GV:∀k∈j::seen,k<now.length:=fun k hk=>by
   rcases a2x.1 hk with rfl|hk
   .exact q2
   .exact aQ k hk
  have hb:dL (fun _=>(AU J r:Int)) next+w*(AU J (c::r):Int)<=2000:=by
   have e1:=h2 fun _=>1;rw[YU]at e1;have e2:=WI (φ:=fun j=>(nowAt now j).2*yG J (fun _=>1) (c::r) (nowAt now j).1) GU GV fun k hk=>by have:=h.i.pos _ (dw (d:=(⟨⟨0,0,0⟩,0⟩:S3×Int)) hk);rw[EZ];exact aeH (afd this) (Int.natCast_nonneg _)
   rw[Jh,eH,q1]at e2;have e3:=O1 hJ now h;rw[hr]at e3;rw[YU]at e2;have e4:yG J (fun _=>1) (c::r) st=(AU J (c::r):Int):=EZ _ _;simp only[e4]at e2;omega
  obtain⟨next',e',s',g1,g2,g3,g4,g5⟩:=ame (n:=n) hJ (f:=f) t now seen (st:=st) (w:=w) (j:=j) hr (h.i.dp _ q3) (h.i.pos _ q3) h1 tH hb;refine aN.step (by kernel_rfl) g4 ⟨g3,GU,GV,next',g1,fun ψ=>?_,g5⟩;rw[g2,h2,eH,q1,ahW]
end
open Go Tw Pv cu
abbrev amg(J:Jb)(a:Int)(x:List (Nat×PE aB)):List (Nat×PE aB):=[(1,.val (.lF 4)),(2,.loc 0 0),(4,.val (.map 5)),(21,xL 3 J.o),(22,xi J.o.length),(23,xi a)]++x
abbrev WJ(J:Jb)(f:Nat)(t:List (V×Int))(now:List (S3×Int))(a:Int)(x:List (Nat×PE aB)):aT aB:=⟨amg J a x,[J.ps (.fn f [] [])],HN J f t now⟩
abbrev ntE:Nat:=D7 Qp 136
abbrev ExE(n:Nat)(c:Code)(s:aT aB)(e:Ex)(s':aT aB):Prop:=dS X0 Qp T (iC (n+1)) LL 136 false ntE 5 c s e s'
abbrev ExD(n:Nat)(c:Code)(s:aT aB)(Q:Ex->aT aB->Prop):Prop:=aN X0 Qp T (iC (n+1)) DF LL 136 ntE 5 c s Q
section
variable {n:Nat} {J:Jb} (hJ:jV J) {f:Nat} (t:List (V×Int)) {now:List (S3×Int)} {a:Nat}
include hJ
set_option maxRecDepth 20000 in
theorem ah6(h:zf J a now)(aQ:a<J.o.length):ExD n bLB (WJ J f t now a []) fun e s=>e=.norm∧∃KI,zf J (a+1) KI∧lD 5 [.gc [6]] (gY X0 (T.fC 136 (eu bLB)) s)=some (WJ J f t KI ((a+1:Nat):Int) []):=by
 have hr:J.o.drop a=J.o.getD a 0::J.o.drop (a+1):=by rw[a5X aQ];simp[List.getD,a0D aQ]
 have Rj:J.o.length<=6:=by rw[(jV.o2 hJ).2.1];exact hJ.bQ.len
 have t1:decide ((a:Int)<(J.o.length:Int))=true:=aZ aQ;have e0:bLB=.seq (fA bLB) (.seq (.cond (.tmp 24) .skip (.exit 0)) (.seq (.block 1 bB1) (fB (fB (fB bLB))))):=by kernel_rfl
 have e1:bB1=.seq (fA bB1) (.seq (fA (fB bB1)) (.seq (.seq (fA (fA (fB (fB bB1)))) (.block 2 (.loop bIB))) (fB (fB (fB bB1))))):=by kernel_rfl
 have x3:ExE n (fA bLB) (WJ J f t now a []) .norm (WJ J f t now a [(24,.val (.bool (decide ((a:Int)<(J.o.length:Int)))))]):=Ad hX gU (by kernel_rfl) (.r rfl);have hc:AQ (WJ J f t now a [(24,.val (.bool (decide ((a:Int)<(J.o.length:Int)))))]).env (.tmp 24)=some (.bool true):=by rw[<-t1];kernel_rfl
 have i1:fD (a:Int) J.o.length:=aC aQ;have x4:ExE n (fA bB1) (WJ J f t now a [(24,.val (.bool (decide ((a:Int)<(J.o.length:Int)))))]) .norm ⟨[(1,.val (.lF 4)),(2,.loc 0 0),(4,.val (.map 5)),(6,xi (J.o.getD a 0)),(21,xL 3 J.o),(22,xi J.o.length),(23,xi a)],[J.ps (.fn f [] [])],HN J f t now⟩:=Ad hX gU (by kernel_rfl) (.o i1 (.r rfl));have x5:ExE n (fA (fB bB1)) ⟨[(1,.val (.lF 4)),(2,.loc 0 0),(4,.val (.map 5)),(6,xi (J.o.getD a 0)),(21,xL 3 J.o),(22,xi J.o.length),(23,xi a)],[J.ps (.fn f [] [])],HN J f t now⟩ .norm ⟨[(1,.val (.lF 4)),(2,.loc 0 0),(4,.val (.map 5)),(6,xi (J.o.getD a 0)),(7,.val (.map 6)),(21,xL 3 J.o),(22,xi J.o.length),(23,xi a)],[J.ps (.fn f [] [])],HN J f t now++[.map []]⟩:=Ad hX gU (by kernel_rfl) (.r rfl);have x6:ExE n (fA (fA (fB (fB bB1)))) ⟨[(1,.val (.lF 4)),(2,.loc 0 0),(4,.val (.map 5)),(6,xi (J.o.getD a 0)),(7,.val (.map 6)),(21,xL 3 J.o),(22,xi J.o.length),(23,xi a)],[J.ps (.fn f [] [])],HN J f t now++[.map []]⟩ .norm ⟨a4P J (J.o.getD a 0) a,[J.ps (.fn f [] [])],HN J f t now++[.map (kS.im []),.dD 5 (kS.im now).length []]⟩:=Ad hX gU (by kernel_rfl) (.r rfl);rw[kS.qy now]at x6;rw[e0];refine aN.Ci (by kernel_rfl) x3 (aN.seq (R:=fun e s=>e=.norm∧s=WJ J f t now a [(24,.val (.bool (decide ((a:Int)<(J.o.length:Int)))))]) (aN.cond (t:=true) hc (aN.step (by kernel_rfl) (Ad hX gU (an:=.n) (by kernel_rfl) (.r rfl)) ⟨rfl,rfl⟩)) (fun s hs=>?_) (fun i s h=>by cases h.1) (fun s h=>by cases h.1));obtain⟨_,rfl⟩:=hs;refine aN.seq (R:=fun e s=>e=.norm∧∃next seen,zf J (a+1) next∧s=⟨[(1,.val (.lF 4)),(2,.loc 0 0),(4,.val (.map 6)),(21,xL 3 J.o),(22,xi J.o.length),(23,xi a)],[J.ps (.fn f [] [])],HI J f t now next seen⟩) ?_ (fun s hs=>?_) (fun i s h=>by cases h.1) (fun s h=>by cases h.1)
 .refine aN.block ?_;rw[e1];refine(aN.Ci (by kernel_rfl) x4 (aN.Ci (by kernel_rfl) x5 (aN.seq (R:=fun e s=>e=.norm∧∃next seen,NI J (a+1) next∧(∀ψ,dL (yG J ψ (J.o.drop (a+1))) next=dL (yG J ψ (J.o.getD a 0::J.o.drop (a+1))) now)∧s={ sH J f t now next (J.o.getD a 0) a seen with env:=jy (T.iK 136 7) ((31,.val (.bool false))::(30,.val (.dJ [.bool false]))::a4P J (J.o.getD a 0) a) }) (Q:=fun e s=>e=.norm∧∃next seen,zf J (a+1) next∧s=⟨[(1,.val (.lF 4)),(2,.loc 0 0),(4,.val (.map 6)),(21,xL 3 J.o),(22,xi J.o.length),(23,xi a)],[J.ps (.fn f [] [])],HI J f t now next seen⟩) (aN.Ci (by kernel_rfl) x6 (inLoop (n:=n) hJ t now hr h)) (fun s hs=>?_) (fun i s h=>by cases h.1) (fun s h=>by cases h.1)))).mono fun e s h=>?_
  .obtain⟨_,next,seen,g1,g2,rfl⟩:=hs;refine aN.step (by kernel_rfl) (Ad (ps1:=⟨[(1,.val (.lF 4)),(2,.loc 0 0),(4,.val (.map 6)),(21,xL 3 J.o),(22,xi J.o.length),(23,xi a)],[J.ps (.fn f [] [])],HI J f t now next seen⟩) hX gU (an:=.n) (by kernel_rfl) (.r rfl)) ⟨rfl,next,seen,⟨g1,fun ψ=>?_⟩,rfl⟩;rw[g2,<-hr,h.s]
  obtain⟨rfl,h2⟩:=h;exact⟨rfl,h2⟩
 obtain⟨_,next,seen,g1,rfl⟩:=hs;refine aN.step (by kernel_rfl) (Ad (ps1:=⟨[(1,.val (.lF 4)),(2,.loc 0 0),(4,.val (.map 6)),(21,xL 3 J.o),(22,xi J.o.length),(23,xi (i64.wrap ((a:Int)+1)))],[J.ps (.fn f [] [])],HI J f t now next seen⟩) hX gU (an:=.n) (by kernel_rfl) (.r rfl)) ⟨rfl,next,g1,?_⟩;rw[yV (by unfold ah;omega)]
 kernel_rfl
set_option maxRecDepth 20000 in
theorem a8Y:ExD n bLB (WJ J f t now J.o.length []) fun e s=>e=.exit 0∧s=WJ J f t now J.o.length [(24,.val (.bool (decide ((J.o.length:Int)<(J.o.length:Int)))))]:=by
 have t1:decide ((J.o.length:Int)<(J.o.length:Int))=false:=eP _;have e0:bLB=.seq (fA bLB) (.seq (.cond (.tmp 24) .skip (.exit 0)) (.seq (.block 1 bB1) (fB (fB (fB bLB))))):=by kernel_rfl
 have x3:ExE n (fA bLB) (WJ J f t now J.o.length []) .norm (WJ J f t now J.o.length [(24,.val (.bool (decide ((J.o.length:Int)<(J.o.length:Int)))))]):=Ad hX gU (by kernel_rfl) (.r rfl);have hc:AQ (WJ J f t now J.o.length [(24,.val (.bool (decide ((J.o.length:Int)<(J.o.length:Int)))))]).env (.tmp 24)=some (.bool false):=by rw[<-t1];kernel_rfl
 rw[e0];refine aN.Ci (by kernel_rfl) x3 (aN.seq (R:=fun e s=>e=.exit 0∧s=WJ J f t now J.o.length [(24,.val (.bool (decide ((J.o.length:Int)<(J.o.length:Int)))))]) (aN.cond (t:=false) hc (aN.step (by kernel_rfl) (Ad hX gU (an:=.n) (by kernel_rfl) (.r rfl)) ⟨rfl,rfl⟩)) (fun s hs=>by cases hs.1) (fun i s h=>h) (fun s h=>by cases h.1))
set_option maxRecDepth 20000 in
theorem abT(h:zf J 0 now):ExD n (.block 0 (.loop bLB)) (WJ J f t now 0 []) fun e s=>e=.norm∧∃KI,zf J J.o.length KI∧s=WJ J f t KI J.o.length [(24,.val (.bool (decide ((J.o.length:Int)<(J.o.length:Int)))))]:=by
 have Rj:J.o.length<=6:=by rw[(jV.o2 hJ).2.1];exact hJ.bQ.len
 refine aN.block ?_;refine aN.loop (fun k s=>∃a KI gs,a+k=J.o.length∧zf J a KI∧lD 5 gs (gY X0 (T.fC 136 (eu bLB)) s)=some (WJ J f t KI (a:Int) [])) (fun k s hi=>?_) (k:=J.o.length) ⟨0,now,[],by omega,h,by kernel_rfl⟩ (by unfold LL;omega);obtain⟨a,KI,gs,hk,h1,h2⟩:=hi;refine aN.ghost hX h2 ?_;rcases a5h a J.o.length with aQ|FI
 .refine(ah6 (n:=n) hJ t h1 aQ).mono fun e s h3=>?_;obtain⟨rfl,arP,h4,h5⟩:=h3;exact⟨k-1,by omega,a+1,arP,_,by omega,h4,h5⟩
 have:a=J.o.length:=by omega
 subst this;refine(a8Y (n:=n) hJ t).mono fun e s h3=>?_;obtain⟨rfl,rfl⟩:=h3;dsimp only;rw[a0I rfl];exact⟨rfl,KI,h1,rfl⟩
end
open Go Tw Pv cu
def YX(φ:V->Int)(l:List V):Int:=if qP (l.drop 1)=true then φ (l.getD 0 V0)else 0
theorem ah7(φ:V->Int)(l:List V)(w:Int)(t:List (V×Int)):dL φ (yT l w t)=dL φ t+w*YX φ l:=by
 unfold yT YX;cases qP (l.drop 1)
 .rw[a0F (by simp),a0F (by simp)];omega
 rw[a0I rfl,a0I rfl,Ac]
abbrev sH2(J:Jb)(f:Nat)(t:List (V×Int))(now:List (S3×Int))(seen:List Nat):aT aB:=⟨[(1,.val (.lF 4)),(2,.loc 0 0),(94,.val (.iter 6))],[J.ps (.fn f [] [])],RX J f true none t++[.map (kS.im now),.dD 5 now.length seen]⟩
structure a0U(t:List (V×Int)):Prop where
 nd:(t.map (·.1)).Nodup
 pos:∀e∈t,0<e.2
theorem a0U.y{t:List (V×Int)}(h:a0U t)(l:List V){w:Int}(hw:0<w):a0U (yT l w t):=by
 unfold yT;split
 .exact⟨Gy h.nd _ _,Qh hw h.pos⟩
 exact h
section
variable {n:Nat} {J:Jb} (hJ:jV J) {f:Nat} {now:List (S3×Int)}
def arQ(J:Jb)(f:Nat)(now:List (S3×Int))(seen:List Nat)(s:aT aB):Prop:=
 seen.Nodup∧(∀j∈seen,j<now.length)∧∃t,a0U t∧(∀φ,dL φ t=eH (fun j=>(nowAt now j).2*YX φ (aW J.D (nowAt now j).1)) seen)∧gY X0 (T.fC 136 (eu bL2)) s=sH2 J f t now seen
theorem amh(l:List V):0<=YX (fun _=>1) l∧YX (fun _=>1) l<=1:=by unfold YX;split<;>simp
include hJ
theorem ah8(h:zf J J.o.length now){seen:List Nat}(jL:seen.Nodup)(aQ:∀j∈seen,j<now.length){t:List (V×Int)}(ht:a0U t)(hs:∀φ,dL φ t=eH (fun j=>(nowAt now j).2*YX φ (aW J.D (nowAt now j).1)) seen):Tal t:=by
 refine⟨ht.nd,ht.pos,fun e he=>?_⟩;have h1:=(Jg ht.pos).2 e he;have hp:∀j,j<now.length->0<(nowAt now j).2:=fun k hk=>h.i.pos _ (dw (d:=(⟨⟨0,0,0⟩,0⟩:S3×Int)) hk);have h2:=WI (φ:=fun j=>(nowAt now j).2*YX (fun _=>1) (aW J.D (nowAt now j).1)) jL aQ fun k hk=>aeH (afd (hp k hk)) (amh _).1;have h3:eH (fun j=>(nowAt now j).2*YX (fun _=>1) (aW J.D (nowAt now j).1)) (List.range now.length)<=eH (fun j=>(nowAt now j).2*1) (List.range now.length):=by
  have:∀l:List Nat,(∀j∈l,j<now.length)->eH (fun j=>(nowAt now j).2*YX (fun _=>1) (aW J.D (nowAt now j).1)) l<=eH (fun j=>(nowAt now j).2*1) l:=by
   intro l
   induction l with
   |nil=>intro _;exact aa0 _
   |cons j l ih=>
    intro hl;have:=ih fun k hk=>hl k (by simp[hk]);have:=a9E (amh (aW J.D (nowAt now j).1)).2 (afd (hp j (hl j (by simp))));simp only[eH];omega
  exact this _ fun j hj=>a5f.1 hj
 rw[Jh (φ:=fun _=>1)]at h3;have h4:=O1 hJ now h;rw[List.drop_length]at h4;have h4:dL (fun _=>1) now<=2000:=h4;rw[<-hs]at h2;omega
set_option maxRecDepth 20000 in
theorem a4Q(hO:Ok n qZ)(h:zf J J.o.length now)(hD:0<J.D.length):aN X0 Qp T (iC (n+1)) DF LL 136 ntE 5 (.block 7 (.loop bL2)) (sH2 J f [] now [])
  fun e s=>e=.norm∧∃t seen,a0U t∧(∀φ,dL φ t=dL (fun st=>YX φ (aW J.D st)) now)∧s={ sH2 J f t now seen with env:=jy (T.iK 136 23) ((96,.val (.bool false))::(95,.val (.dJ [.bool false]))::(sH2 J f t now seen).env) }:=by
 have e0:bL2=.seq (.region 23 (a7G (fA bL2)) false) (.seq (.cond (.tmp 96) .skip (.exit 7)) (.block 8 bX2)):=by kernel_rfl
 rw[e0];have hlen:=a2Z hJ now h;refine VQ hX (n:=now.length) (b:=6) (r:=5) (it:=94) (nx:=95) (mo:=96) (es:=kS.im now) (fun seen s=>arQ J f now seen s) (by kernel_rfl) (a6B (by kernel_rfl)) (a6B (by kernel_rfl)) (kS.qy now) (by unfold LL;omega)
  ⟨a5W,(fun j hj=>(by cases hj)),[],⟨a5W,(fun e he=>(by cases he))⟩,(fun φ=>rfl),(by kernel_rfl)⟩ (fun seen s hi=>?_)
 obtain⟨jL,aQ,t,h1,h2,h3⟩:=hi;rw[<-e0];refine⟨_,h3,by kernel_rfl,by kernel_rfl,by kernel_rfl,fun ho=>⟨by kernel_rfl,t,seen,h1,fun φ=>?_,rfl⟩,fun j e hj he=>⟨by kernel_rfl,?_⟩⟩
 .rw[h2,QO jL aQ ho,Jh (φ:=fun st=>YX φ (aW J.D st))]
 .rw[kS.Cc,a0A]at he;obtain⟨⟨st,w⟩,tH,rfl⟩:=he;obtain⟨q1,q2,q3⟩:=YV tH;have GU:(j::seen).Nodup:=a5n.2 ⟨hj,jL⟩;have GV:∀k∈j::seen,k<now.length:=fun k hk=>by
   rcases a2x.1 hk with rfl|hk
   .exact q2
   .exact aQ k hk
  have ho:=a2Y tH;have qM:(aW J.D st).length=J.D.length:=by simp[aW]
  have hw:=h.i.pos _ q3;have hc:=a2S (M:=n) (f:=f) J st hJ.d3 fun k hk=>(KC hJ (h.i.dp _ q3) hk).2;have hd3:=hJ.d3;have hy:=arJ (n:=n) hO J f (ah8 hJ h jL aQ h1 h2) (aW J.D st) (w:=w) (by omega) (by unfold ah;omega) ⟨hw,hlen.2 _ q3⟩;refine aN.step (e:=.norm) (by kernel_rfl) (Ad (ps1:=⟨[(1,.val (.lF 4)),(2,.loc 0 0),(94,.val (.iter 6)),(106,xl false)],[J.ps (.fn f [] []),st.ps],RX J f true none (yT (aW J.D st) w t)++[.map (kS.im now),.dD 5 now.length (j::seen)]⟩) hX gU (by kernel_rfl) (.c (.dJ [.agg st.ps,.int .i64 w]) [] ho (.fr [] hc (.fr [0,1,2,3,4] hy (.b (rfl:(!true)=false) (.r rfl)))))) ⟨.inl rfl,GU,GV,yT (aW J.D st) w t,h1.y _ hw,fun φ=>?_,by kernel_rfl⟩;rw[ah7,h2,eH,q1,ahW]
def a8Z(J:Jb)(t:List (V×Int)):Prop:=a0U t∧∀φ,dL φ t=eH (fun q=>YX φ (J.D.map fun d=>vH d q)) (YQ J)
omit hJ in
theorem a4R(hJ:jV J):zf J 0 [(fF J.D,1)]:=by
 refine⟨⟨by simp,fun e he=>?_,fun e he=>?_⟩,fun ψ=>?_⟩
 .rw[a2U.1 he];show(0:Int)<1;decide
 .rw[a2U.1 he];exact YR hJ
 simp[dL]
set_option maxRecDepth 20000 in
theorem ami(hO:Ok n qZ)(hD:0<J.D.length):aaV X0 Qp (vP Qp T (iC (n+1)) LL) (.fn 136 [.agg (J.ps (.fn f [] []))] []) [.lF 4] (RX J f true none []) fun v H1=>∃(t:List (V×Int)) (G:List (PB aB)),a8Z J t∧H1=RX J f true none t++G:=by
 refine a2p (t:=U4 Qp 136) hX (by kernel_rfl) ?_;have e0:(U4 Qp 136).body=.seq (fA RV) (.seq (fA (fB RV)) (.seq (.seq (fA (fA (fB (fB RV)))) (.block 0 (.loop bLB))) (.seq (fA (fB (fB (fB RV)))) (.block 7 (.loop bL2))))):=by kernel_rfl
 rw[e0];have hs:=a0O (M:=n) (f:=f) (a:=[]) (cc:=[]) (H:=[]) J hJ.d3;have hf:oJ X0 Qp 148 (kS.es []) (kS.tv (fF J.D)):=kS.fresh (x:=fF J.D) (by simp);have x0:ExE n (fA RV) ⟨lN X0 0 [.agg (J.ps (.fn f [] [])),.lF 4],[],RX J f true none []⟩ .norm ⟨[(1,.val (.lF 4)),(2,.loc 0 0)],[J.ps (.fn f [] [])],RX J f true none []⟩:=Ad hX gU (an:=.n) (by kernel_rfl) (.r rfl);have x1:ExE n (fA (fB RV)) ⟨[(1,.val (.lF 4)),(2,.loc 0 0)],[J.ps (.fn f [] [])],RX J f true none []⟩ .norm ⟨[(1,.val (.lF 4)),(2,.loc 0 0),(4,.val (.map 5))],[J.ps (.fn f [] [])],HN J f [] [(fF J.D,1)]⟩:=Ad hX gU (by kernel_rfl) (.fr [] hs (.q (.bool false) (kS.ck (fF J.D)) (.o hf (.r rfl))));have x2:ExE n (fA (fA (fB (fB RV)))) ⟨[(1,.val (.lF 4)),(2,.loc 0 0),(4,.val (.map 5))],[J.ps (.fn f [] [])],HN J f [] [(fF J.D,1)]⟩ .norm (WJ J f [] [(fF J.D,1)] 0 []):=Ad hX gU (an:=.n) (by kernel_rfl) (.r rfl);refine aN.Ci (by kernel_rfl) x0 (aN.Ci (by kernel_rfl) x1 (aN.seq (R:=fun e s=>e=.norm∧∃KI,zf J J.o.length KI∧s=WJ J f [] KI J.o.length [(24,.val (.bool (decide ((J.o.length:Int)<(J.o.length:Int)))))]) (aN.Ci (by kernel_rfl) x2 (abT (n:=n) hJ [] (a4R hJ))) (fun s h=>?_) (fun i s h=>by cases h.1) (fun s h=>by cases h.1)));obtain⟨_,now,h1,rfl⟩:=h;have x3:ExE n (fA (fB (fB (fB RV)))) (WJ J f [] now J.o.length [(24,.val (.bool (decide ((J.o.length:Int)<(J.o.length:Int)))))]) .norm ⟨[(1,.val (.lF 4)),(2,.loc 0 0),(94,.val (.iter 6))],[J.ps (.fn f [] [])],RX J f true none []++[.map (kS.im now),.dD 5 (kS.im now).length []]⟩:=Ad hX gU (an:=.n) (by kernel_rfl) (.r rfl);rw[kS.qy now]at x3;refine aN.Ci (by kernel_rfl) x3 ((a4Q hJ hO h1 hD).mono fun e s h=>?_);obtain⟨rfl,t,seen,g1,g2,rfl⟩:=h;refine⟨.inl rfl,[],by kernel_rfl,t,[.map (kS.im now),.dD 5 now.length seen],⟨g1,fun φ=>?_⟩,rfl⟩;rw[g2];have:=h1.s fun st=>YX φ (aW J.D st);rw[List.drop_length]at this;rw[<-abM hJ (YX φ)];exact this
end
open Go Tw Pv cu
def a0V(J:Jb):List (List V):=(YQ J).map fun q=>J.D.map fun d=>vH d q
def vV(J:Jb):List V:=((a0V J).filter fun l=>qP (l.drop 1)).map fun l=>l.getD 0 V0
abbrev YZ(e:V×Int):LI0:=Td e.1.tv
def fG(J:Jb):List (V×Int):=zU YZ (BM (vV J))
theorem a3a(φ:V->Int):∀L:List (List V),eH (YX φ) L=eH φ ((L.filter fun l=>qP (l.drop 1)).map fun l=>l.getD 0 V0)
 | []=>rfl
 |l::L=>by
  rw[eH,a3a φ L];unfold YX;cases h:qP (l.drop 1)
  .rw[a0F (by simp),ad4 (by rw[h];simp)];omega
  rw[a0I rfl,ad5 (by rw[h]),a5g,eH]
theorem key_inj{l:List (V×Int)}(hn:(l.map (·.1)).Nodup):∀a∈l,∀b∈l,YZ a=YZ b->a=b:=fun a ha b hb h=>by
 have h1:a.1=b.1:=by have h:[a.1.f,a.1.n]=[b.1.f,b.1.n]:=h;simp only[aeX,and_true]at h;obtain⟨⟨a1,a2⟩,_⟩:=a;obtain⟨⟨b1,b2⟩,_⟩:=b;simp only at h;rw[h.1,h.2]
 have h2:=IE hn ha;have h3:=IE hn hb;rw[h1,h3]at h2;exact ad3 h1 h2.symm
theorem a90{J:Jb}{t:List (V×Int)}(h:a8Z J t):t.Perm (BM (vV J)):=by obtain⟨f1,f2⟩:=Gz (vV J);refine VO h.1.nd f1 h.1.pos f2 fun φ=>?_;rw[h.2,U0];unfold vV;rw[<-a3a];unfold a0V;rw[Az]
theorem a94{J:Jb}{t:List (V×Int)}(h:a8Z J t):zU YZ t=fG J:=FZ (a90 h) (key_inj h.1.nd)
abbrev abU(e:V×Int):TV×TV:=(e.1.tv,.int .i64 e.2)
theorem WL:∀t:List (V×Int),yc (kV.im t)=some (t.map abU)
 | []=>rfl
 |e::t=>by
  have:=WL t;show(match qJ (kV.pv e.1),qJ (PV.int .i64 e.2:PV aB),yc (kV.im t)with
   |some k,some v,some r=>some ((k,v)::r)
   |_,_,_=>none)=_
  rw[this];rfl
section
variable {n:Nat} {J:Jb} (hJ:jV J) {f:Nat}
include hJ
set_option maxRecDepth 20000 in
theorem QS(hO:Ok n qZ)(hD:0<J.D.length):iV (n+2) (.fn 87 [] []) [.agg (J.ps (.fn f [] []))] [] (.map 0) [.map (kV.im (fG J))]:=by
 refine a7D (X:=X0) (P:=Qp) (T:=T) (L:=LL) (n:=n+1) (f:=87) (first:=[]) (cap:=[]) (H:=[]) (t:=U4 Qp 87) (es0:=kV.im (fG J)) (a4k:=(fG J).map abU) hX (by kernel_rfl) (by kernel_rfl) (by kernel_rfl) rfl (WL _) ?_;have e0:(U4 Qp 87).body=.seq (fA YT) (.seq (fA (fB YT)) (.seq (.seq (fA (fA (fB (fB YT)))) (.block 0 (.rangeFunc (.tmp 8) #[9,10] (y9 Qp 87) (BL Qp 87)))) (.seq (fA (fB (fB (fB YT)))) .ret))):=by kernel_rfl
 rw[e0];have x0:dS X0 Qp T (iC (n+1)) LL 87 false (D7 Qp 87) 0 (fA YT) ⟨lN X0 0 [.agg (J.ps (.fn f [] []))],[],[]⟩ .norm ⟨[(1,.val (.ptr 0 0 5)),(2,.val (.nil .map))],[],[.cells (J.ps (.fn f [] []))]⟩:=Ad hX gU (an:=.n) (by kernel_rfl) (.r rfl);have x1:dS X0 Qp T (iC (n+1)) LL 87 false (D7 Qp 87) 0 (fA (fB YT)) ⟨[(1,.val (.ptr 0 0 5)),(2,.val (.nil .map))],[],[.cells (J.ps (.fn f [] []))]⟩ .norm ⟨[(1,.val (.ptr 0 0 5)),(2,.val (.nil .map)),(3,.val (.ptr 2 0 1))],[],HQc J f []⟩:=Ad hX gU (an:=.n) (by kernel_rfl) (.r rfl);have x2:dS X0 Qp T (iC (n+1)) LL 87 false (D7 Qp 87) 0 (fA (fA (fB (fB YT)))) ⟨[(1,.val (.ptr 0 0 5)),(2,.val (.nil .map)),(3,.val (.ptr 2 0 1))],[],HQc J f []⟩ .norm ⟨a8U J f,[],HQc J f []⟩:=Ad hX gU (an:=.n) (by kernel_rfl) (.r rfl);refine aN.Ci (by kernel_rfl) x0 (aN.Ci (by kernel_rfl) x1 (aN.seq (R:=fun e s=>e=.norm∧∃(t:List (V×Int)) (G:List (PB aB)),a8Z J t∧s=⟨a8U J f,[],RX J f false (some .skip) t++G⟩) (aN.Ci (by kernel_rfl) x2 (aN.block ?_)) (fun s h=>?_) (fun i s h=>by cases h.1) (fun s h=>by cases h.1)))
 .refine aN.range (f1:=136) (a1:=[.agg (J.ps (.fn f [] []))]) (b1:=[]) (K:=fun v H1=>∃(t:List (V×Int)) (G:List (PB aB)),a8Z J t∧H1=RX J f true none t++G) hX rfl (by kernel_rfl) (by kernel_rfl) (ami hJ hO hD) (fun v H1 hk=>?_);obtain⟨t,G,h1,rfl⟩:=hk;exact⟨true,_,_,_,_,_,_,none,.norm,rfl,rfl,rfl,t,G,h1,rfl⟩
 obtain⟨_,t,G,h1,rfl⟩:=h;have x3:dS X0 Qp T (iC (n+1)) LL 87 false (D7 Qp 87) 0 (.seq (fA (fB (fB (fB YT)))) .ret) ⟨a8U J f,[],RX J f false (some .skip) t++G⟩ .ret ⟨[(2,.val (.map 1))],[],RX J f false (some .skip) t++G⟩:=Ad hX gU (an:=.n) (by kernel_rfl) (.r rfl);refine aN.step (by kernel_rfl) x3 ⟨.inr rfl,[.map 1],by kernel_rfl,1,kV.im t,t.map abU,rfl,rfl,WL t,?_⟩;unfold Ti;rw[U2 (g:=abU) (key:=YZ) (a7z:=fun e=>Td e.1) (fun _=>rfl),a94 h1]
end
open Go Tw Pv cu
abbrev QU(t:List (V×Int))(j:Nat):V×Int:=t.getD j (V0,0)
theorem WM{t:List (V×Int)}{j:Nat}{e:V×Int}(h:t[j]? = some e):QU t j=e∧j<t.length∧e∈t:=by obtain⟨h1,h2⟩:=a0n.1 h;exact⟨by simp[QU,List.getD,h],h1,h2▸a5p h1⟩
theorem ah9(t:List (V×Int)):t=(List.range t.length).map fun j=>QU t j:=
 (o8 (d:=((V0,0):V×Int)) (by simp)).2 fun k hk=>by simp[List.getD,hk]
theorem Z4(t:List (V×Int)):eH (fun j=>(QU t j).2) (List.range t.length)=dL (fun _=>1) t:=by
 have h1:dL (fun _=>1) t=eH (fun e:V×Int=>e.2) t:=by
  induction t with
  |nil=>rfl
  |cons e m ih=>simp only[dL,eH,ih,acP]
 rw[h1]
 conv=>rhs;rw[ah9 t]
 rw[Az]
theorem Cj{t:List (V×Int)}{j:Nat}{v:V}{w:Int}(h:t[j]? = some (v,w)):(kV.im t).length=t.length∧(kV.im t)[j]? = some (.agg v.ps,.int .i64 w):=by refine⟨kV.qy t,?_⟩;rw[kV.Cc,h];rfl
structure KJ(t:List (V×Int)):Prop where
 pos:∀e∈t,0<e.2
 tot:dL (fun _=>1) t<=2000
theorem KJ.len{t:List (V×Int)}(h:KJ t):t.length<=2000:=by
 have h6:∀{m:List (V×Int)},(∀e∈m,0<e.2)->(m.length:Int)<=dL (fun _=>1) m:=by
  intro m
  induction m with
  |nil=>intro _;exact aa0 _
  |cons e m ih=>
   intro hp;have:=ih fun e he=>hp e (by simp[he]);have:=hp e (by simp);simp only[dL,a4O,acP];omega
 have:=h6 h.pos;have:=h.tot;omega
abbrev a4S:Code:=(U4 Qp 90).body
abbrev lpA:Code:=fA (fA (fB (fA (fB a4S))))
abbrev xA:Code:=fA (fB (fB lpA))
abbrev sA(t:List (V×Int))(z:Int)(js:List Nat):aT aB:=⟨[(2,xi z),(6,.val (.iter 1))],[],[.iP (kV.im t),.dD 0 t.length js]⟩
section
variable {n:Nat} {t:List (V×Int)}
set_option maxRecDepth 20000 in
theorem arR(h:KJ t):iV (n+1) (.fn 90 [] []) [.map 0] [.iP (kV.im t)] (.int .i64 (dL (fun _=>1) t)) [.iP (kV.im t)]:=by
 refine aaX (X:=X0) (P:=Qp) (T:=T) (L:=LL) (n:=n) (f:=90) (first:=[]) (cap:=[]) (xs:=[.map 0]) (H:=[.iP (kV.im t)]) (v:=.int .i64 (dL (fun _=>1) t)) (t:=U4 Qp 90) (tv:=.int .i64 (dL (fun _=>1) t)) hX (by kernel_rfl) (by kernel_rfl) (by kernel_rfl) rfl rfl ?_;have e0:(U4 Qp 90).body=.seq (fA a4S) (.seq (.seq (fA (fA (fB a4S))) (.block 0 (.loop lpA))) (.seq (fA (fB (fB a4S))) .ret)):=by kernel_rfl
 have e1:lpA=.seq (.region 2 (a7G (fA lpA)) false) (.seq (.cond (.tmp 8) .skip (.exit 0)) (.block 1 xA)):=by kernel_rfl
 have x0:dS X0 Qp T (iC n) LL 90 false (D7 Qp 90) 1 (fA a4S) ⟨lN X0 0 [.map 0],[],[.iP (kV.im t)]⟩ .norm ⟨[(0,.val (.map 0)),(2,xi 0)],[],[.iP (kV.im t)]⟩:=Ad hX gU (an:=.n) (by kernel_rfl) (.r rfl);have x1:dS X0 Qp T (iC n) LL 90 false (D7 Qp 90) 1 (fA (fA (fB a4S))) ⟨[(0,.val (.map 0)),(2,xi 0)],[],[.iP (kV.im t)]⟩ .norm ⟨[(2,xi 0),(6,.val (.iter 1))],[],[.iP (kV.im t),.dD 0 (kV.im t).length []]⟩:=Ad hX gU (an:=.n) (by kernel_rfl) (.r rfl);rw[kV.qy t]at x1;have hlen:=h.len;have hpj:∀j,j<t.length->0<(QU t j).2:=fun k hk=>h.pos _ (dw (d:=((V0,0):V×Int)) hk);rw[e0];refine aN.Ci (by kernel_rfl) x0 (aN.seq (R:=fun e s=>e=.norm∧∃seen,s={ sA t (dL (fun _=>1) t) seen with env:=jy (T.iK 90 2) ((8,.val (.bool false))::(7,.val (.dJ [.bool false]))::(sA t (dL (fun _=>1) t) seen).env) }) (aN.Ci (by kernel_rfl) x1 ?_) (fun s hs=>?_) (fun i s h=>by cases h.1) (fun s h=>by cases h.1))
 .rw[e1];refine VQ hX (n:=t.length) (b:=1) (r:=0) (it:=6) (nx:=7) (mo:=8) (es:=kV.im t) (fun seen s=>seen.Nodup∧(∀j∈seen,j<t.length)∧gY X0 (T.fC 90 (eu lpA)) s=sA t (eH (fun j=>(QU t j).2) seen) seen) (by kernel_rfl) (a6B (by kernel_rfl)) (a6B (by kernel_rfl)) (kV.qy t) (by unfold LL;omega)
   ⟨a5W,(fun j hj=>(by cases hj)),(by kernel_rfl)⟩ (fun seen s hi=>?_)
  obtain⟨jL,aQ,h3⟩:=hi;rw[<-e1];refine⟨_,h3,by kernel_rfl,by kernel_rfl,by kernel_rfl,fun ho=>⟨by kernel_rfl,seen,?_⟩,fun j e hj he=>⟨by kernel_rfl,?_⟩⟩
  .rw[QO jL aQ ho,Z4]
  rw[kV.Cc,a0A]at he;obtain⟨⟨v,w⟩,tH,rfl⟩:=he;obtain⟨q1,q2,q3⟩:=WM tH;have GU:(j::seen).Nodup:=a5n.2 ⟨hj,jL⟩;have GV:∀k∈j::seen,k<t.length:=fun k hk=>by
   rcases a2x.1 hk with rfl|hk
   .exact q2
   exact aQ k hk
  have hb:=WI (φ:=fun j=>(QU t j).2) GU GV fun k hk=>afd (hpj k hk);have uN:=WH (φ:=fun j=>(QU t j).2) (l:=seen) fun k hk=>afd (hpj k (aQ k hk));rw[Z4,eH,q1]at hb;have ht:=h.tot;have hw:=h.pos _ q3;have Zj:i64.wrap (eH (fun j=>(QU t j).2) seen+w)=eH (fun j=>(QU t j).2) (j::seen):=by rw[eY (by have:(0:Int)<w:=hw;omega) (by have:w+eH (fun j=>(QU t j).2) seen<=dL (fun _=>1) t:=hb;omega),eH,q1,ahW]
  refine aN.step (e:=.norm) (by kernel_rfl) (Ad (ps1:=⟨[(2,xi (i64.wrap (eH (fun j=>(QU t j).2) seen+w))),(6,.val (.iter 1))],[],[.iP (kV.im t),.dD 0 t.length (j::seen)]⟩) hX gU (by kernel_rfl) (.c (.dJ [.agg v.ps,.int .i64 w]) [] (Cj tH) (.r rfl))) ⟨.inl rfl,GU,GV,?_⟩;rw[Zj]
  kernel_rfl
 obtain⟨_,seen,rfl⟩:=hs;exact aN.step (by kernel_rfl) (Ad (e:=.ret) (ps1:=⟨[(2,xi (dL (fun _=>1) t))],[],[.iP (kV.im t),.dD 0 t.length seen]⟩) hX gU (an:=.n) (by kernel_rfl) (.r rfl)) ⟨.inr rfl,[.int .i64 (dL (fun _=>1) t)],by kernel_rfl,rfl⟩
end
open Go Tw Pv cu
abbrev a0W:Code:=(U4 Qp 88).body
abbrev lpB:Code:=fA (fA (fB (fA (fB a0W))))
abbrev xB:Code:=fA (fB (fB lpB))
def Eu(t:List (V×Int))(js:List Nat):LI0:=(js.reverse.filter fun j=>!decide ((QU t j).1.f>0)).map fun j=>(QU t j).1.n
def fOf(t:List (V×Int))(js:List Nat):Bool:=js.any fun j=>decide ((QU t j).1.f>0)
theorem a4T(t:List (V×Int))(j:Nat)(js:List Nat):Eu t (j::js)=Eu t js++(if decide ((QU t j).1.f>0)=true then []else [(QU t j).1.n]):=by
 unfold Eu;rw[List.reverse_cons,List.filter_append,a4Z];congr 1;cases h:decide ((QU t j).1.f>0)
 .rw[ad5 (by rw[h];rfl),a0F (by simp)];rfl
 rw[ad4 (by rw[h];simp),a0I rfl];rfl
def mZ(t:List (V×Int)):LI0:=iq ((t.filter fun e=>!decide (e.1.f>0)).map fun e=>e.1.n)
def vI(t:List (V×Int)):Bool:=t.any fun e=>decide (e.1.f>0)
theorem a0X{l l':LI0}(h:l.Perm l'):iq l=iq l':=by
 unfold iq;have hs:∀l:LI0,(l.mergeSort fun x y=>decide (x<=y)).Pairwise fun a b=>decide (a<=b)=true:=fun l=>
  List.pairwise_mergeSort (fun a b c h1 h2=>by simp at *;omega) (fun a b=>by simp;omega) l
 exact List.Perm.eq_of_pairwise (le:=fun a b=>decide (a<=b)=true) (fun a b _ _ h1 h2=>by simp at h1 h2;omega) (hs l) (hs l') ((aeT l _).trans (h.trans (aeT l' _).symm))
theorem ahb{t:List (V×Int)}{js:List Nat}(hn:js.Nodup)(hl:∀j∈js,j<t.length)(ha:∀j,j<t.length->j∈js):iq (Eu t js)=mZ t∧fOf t js=vI t:=by
 have hp:(js.reverse).Perm (List.range t.length):=(List.reverse_perm js).trans ((a7P hn aeP).2 fun j=>⟨fun h=>a5f.2 (hl j h),fun h=>ha j (a5f.1 h)⟩);constructor
 .refine a0X ?_;unfold Eu;have e:((t.filter fun e=>!decide (e.1.f>0)).map fun e=>e.1.n)=((List.range t.length).filter fun j=>!decide ((QU t j).1.f>0)).map fun j=>(QU t j).1.n:=by
   conv=>lhs;rw[ah9 t]
   rw[List.filter_map,a8K];rfl
  rw[e];exact(hp.filter _).map _
 unfold fOf vI;rw[a5w,ahe,ahe];constructor
 .rintro⟨j,hj,h⟩;exact⟨QU t j,dw (d:=((V0,0):V×Int)) (hl j hj),h⟩
 rintro⟨e,he,h⟩;obtain⟨j,hj,rfl⟩:=a5x.1 he;exact⟨j,ha j hj,by rw[(WM (a0D hj)).1];exact h⟩
abbrev sBl(t:List (V×Int))(l:LI0)(b:Bool)(js:List Nat):aT aB:=match l with
 | []=>⟨[(2,.val (.nil .aP)),(3,xl b),(6,.val (.iter 1))],[],[.iP (kV.im t),.dD 0 t.length js]⟩
 |x::l=>⟨[(2,.val (.own 2)),(3,xl b),(6,.val (.iter 1))],[],[.iP (kV.im t),.dD 0 t.length js,.list false false 3 (x::l)]⟩
theorem ahc{n:Nat}:iV (n+1) (.fn 137 [] []) [.nil .aP] [] (.dJ []) []:=by intro A m h tf sD hr hf hx;obtain⟨x,r,rfl,h1,h2⟩:=hx.inv;have:=h2.inv0;subst this;have htf:=hf.VJ;subst htf;have hx:x=.nil .aP:=kC h1 rfl;subst hx;exact⟨.dJ [],h,[],m,rfl,hr,.dJ rfl (fun i x y hx=>by simp at hx),.refl,.refl,fun b hb=>by cases hb⟩
section
variable {n:Nat} {t:List (V×Int)}
set_option maxRecDepth 20000 in
theorem abV(h:KJ t):aN X0 Qp T (iC (n+1)) (vP Qp T (iC (n+1)) LL) LL 88 (D7 Qp 88) 1 (.block 0 (.loop lpB)) (sBl t [] false [])
  fun e s=>e=.norm∧∃l seen,iq l=mZ t∧s={ sBl t l (vI t) seen with env:=jy (T.iK 88 2) ((8,.val (.bool false))::(7,.val (.dJ [.bool false]))::(sBl t l (vI t) seen).env) }:=by
 have e1:lpB=.seq (.region 2 (a7G (fA lpB)) false) (.seq (.cond (.tmp 8) .skip (.exit 0)) (.block 1 xB)):=by kernel_rfl
 have hlen:=h.len;rw[e1];refine Ql hX (n:=t.length) (b:=1) (r:=0) (it:=6) (nx:=7) (mo:=8) (es:=kV.im t) (fun seen s=>seen.Nodup∧(∀j∈seen,j<t.length)∧∃gs,lD 1 gs (gY X0 (T.fC 88 (eu lpB)) s)=some (sBl t (Eu t seen) (fOf t seen) seen)) (by kernel_rfl) (a6B (by kernel_rfl)) (a6B (by kernel_rfl)) (kV.qy t) (by unfold LL;omega)
  ⟨a5W,(fun j hj=>(by cases hj)),[],(by kernel_rfl)⟩ (fun seen s hi=>?_)
 obtain⟨jL,aQ,gs,h3⟩:=hi;rw[<-e1];refine⟨gs,_,h3,?_,?_,?_,fun ho=>?_,fun j e hj he=>?_⟩
 .cases Eu t seen<;>kernel_rfl
 .cases Eu t seen<;>kernel_rfl
 .cases Eu t seen<;>kernel_rfl
 .obtain⟨a1,a2⟩:=ahb jL aQ ho;refine⟨?_,Eu t seen,seen,a1,?_⟩
  .cases Eu t seen<;>kernel_rfl
  .rw[a2]
 .rw[kV.Cc,a0A]at he;obtain⟨⟨v,w⟩,tH,rfl⟩:=he;obtain⟨q1,q2,q3⟩:=WM tH;have GU:(j::seen).Nodup:=a5n.2 ⟨hj,jL⟩;have GV:∀k∈j::seen,k<t.length:=fun k hk=>by
   rcases a2x.1 hk with rfl|hk
   .exact q2
   .exact aQ k hk
  have hll:(Eu t seen).length<=2000:=by
   have h1:(Eu t seen).length<=seen.length:=by unfold Eu;rw[a5c];exact a5M (a9S ..) (by simp)
   have h2:seen.length<=t.length:=by have:=(KH jL aQ).length_eq;have h3:=a9S (fun j=>seen.contains j) (List.range t.length);rw[a6T]at h3;omega
   omega
  have Ez:=a4T t j seen;have Y3:fOf t (j::seen)=(decide (v.f>0)||fOf t seen):=by unfold fOf;rw[ae5,q1]
  rw[q1]at Ez;generalize fOf t seen=b at Y3;have Ez:Eu t (j::seen)=Eu t seen++(if decide (v.f>0)=true then []else [v.n]):=Ez;generalize Eu t seen=l at Ez hll;cases hv:decide (v.f>0)
  .rw[hv,a0F (by simp)]at Ez;rw[hv,ah4]at Y3;have hv1:decide (v.f>0)=false:=hv;cases l with
   |nil=>
    have a1:[v.n].length<=ah:=by rw[a4b];unfold ah;omega
    refine⟨by kernel_rfl,aN.step (e:=.norm) (by kernel_rfl) (Ad (ps1:=⟨[(2,.val (.own 3)),(3,xl b),(6,.val (.iter 1))],[v.ps],[.iP (kV.im t),.dD 0 t.length (j::seen),.list true true 3 [v.n],.list true false 3 [v.n]]⟩) hX gU (by kernel_rfl) (.c (.dJ [.agg v.ps,.int .i64 w]) [] (Cj tH) (.b hv1 (.o a1 (.r rfl))))) ⟨.inl rfl,GU,GV,[.flag 3,.gc [1,3]],?_⟩⟩;rw[Ez,Y3]
    kernel_rfl
   |cons x l=>
    have a1:(x::l).length+[v.n].length<=ah:=by rw[a4b];unfold ah;omega
    refine⟨by kernel_rfl,aN.step (e:=.norm) (by kernel_rfl) (Ad (ps1:=⟨[(2,.val (.own 4)),(3,xl b),(6,.val (.iter 1))],[v.ps],[.iP (kV.im t),.dD 0 t.length (j::seen),.gone,.list true true 3 [v.n],.list false false 3 (x::l++[v.n])]⟩) hX gU (by kernel_rfl) (.c (.dJ [.agg v.ps,.int .i64 w]) [] (Cj tH) (.b hv1 (.o a1 (.r rfl))))) ⟨.inl rfl,GU,GV,[.gc [1,4]],?_⟩⟩;rw[Ez,Y3]
    kernel_rfl
  .rw[hv,a0I rfl,a5Z]at Ez;rw[hv,Bool.true_or]at Y3;have hv1:decide (v.f>0)=true:=hv;cases l with
   |nil=>
    refine⟨by kernel_rfl,aN.step (e:=.exit 1) (by kernel_rfl) (Ad (ps1:=⟨[(2,.val (.nil .aP)),(3,xl true),(6,.val (.iter 1))],[v.ps],[.iP (kV.im t),.dD 0 t.length (j::seen)]⟩) hX gU (by kernel_rfl) (.c (.dJ [.agg v.ps,.int .i64 w]) [] (Cj tH) (.b hv1 (.r rfl)))) ⟨.inr rfl,GU,GV,[],?_⟩⟩;rw[Ez,Y3]
    kernel_rfl
   |cons x l=>
    refine⟨by kernel_rfl,aN.step (e:=.exit 1) (by kernel_rfl) (Ad (ps1:=⟨[(2,.val (.own 2)),(3,xl true),(6,.val (.iter 1))],[v.ps],[.iP (kV.im t),.dD 0 t.length (j::seen),.list false false 3 (x::l)]⟩) hX gU (by kernel_rfl) (.c (.dJ [.agg v.ps,.int .i64 w]) [] (Cj tH) (.b hv1 (.r rfl)))) ⟨.inr rfl,GU,GV,[],?_⟩⟩;rw[Ez,Y3]
    kernel_rfl
theorem F8:∀l:LI0,iU (Fj X0 3 l)=some (l.map fun n=>TV.int .i64 n)
 | []=>rfl
 |a::l=>by
  have:=F8 l;show(match rW (PV.int .i64 a:PV aB),iU (Fj X0 3 l)with
   |some a,some b=>some (a::b)
   |_,_=>none)=_
  rw[this];rfl
theorem a4U{nX:Bool}{b:Bool}{Hs:List (PB aB)}:a4j X0 Qp nX (.dJ [.nil .aP,.bool b]) Hs (fun _=>.dJ [.nil .aP,.bool b]) []:=fun A m h h1 w hr hw _=>by
 cases hw with
 |gone hi _ _=>simp[bH]at hi
 |dJ a1 a2=>
  obtain⟨x,r,rfl,v0,v1⟩:=Pv.bZ.inv (⟨a1,a2⟩:Pv.bZ X0 Qp _ _ _ _ _);obtain⟨y,r,rfl,v2,v3⟩:=v1.inv;have:=v3.inv0;subst this;have:=kC v2 (show qJ (PV.bool b:PV aB)=some (TV.bool b)from rfl);subst this;have:=kC v0 (show qJ (PV.nil .aP:PV aB)=some (TV.nil .aP)from rfl);subst this;unfold OU;simp only[D5,D5.FN,xM,oq,oq.zT,DI,Vd,MH,a5g,abk,a5Z,a19]
set_option maxRecDepth 20000 in
theorem aeC(h:KJ t):(mZ t=[]->iV (n+2) (.fn 88 [] []) [.map 0] [.iP (kV.im t)] (.dJ [.nil .aP,.bool (vI t)]) [.iP (kV.im t)]) ∧
  (mZ t≠[]->iV (n+2) (.fn 88 [] []) [.map 0] [.iP (kV.im t)] (.dJ [.own 1,.bool (vI t)]) [.iP (kV.im t),.list false false 3 (mZ t)]):=by
 have e0:(U4 Qp 88).body=.seq (fA a0W) (.seq (.seq (fA (fA (fB a0W))) (.block 0 (.loop lpB))) (fB (fB a0W))):=by kernel_rfl
 have x0:dS X0 Qp T (iC (n+1)) LL 88 false (D7 Qp 88) 1 (fA a0W) ⟨lN X0 0 [.map 0],[],[.iP (kV.im t)]⟩ .norm ⟨[(0,.val (.map 0)),(2,.val (.nil .aP)),(3,xl false)],[],[.iP (kV.im t)]⟩:=Ad hX gU (an:=.n) (by kernel_rfl) (.r rfl);have x1:dS X0 Qp T (iC (n+1)) LL 88 false (D7 Qp 88) 1 (fA (fA (fB a0W))) ⟨[(0,.val (.map 0)),(2,.val (.nil .aP)),(3,xl false)],[],[.iP (kV.im t)]⟩ .norm ⟨[(2,.val (.nil .aP)),(3,xl false),(6,.val (.iter 1))],[],[.iP (kV.im t),.dD 0 (kV.im t).length []]⟩:=Ad hX gU (an:=.n) (by kernel_rfl) (.r rfl);rw[kV.qy t]at x1;have run:∀Q:Ex->aT aB->Prop,(∀l seen,iq l=mZ t->aN X0 Qp T (iC (n+1)) (vP Qp T (iC (n+1)) LL) LL 88 (D7 Qp 88) 1 (fB (fB a0W)) { sBl t l (vI t) seen with env:=jy (T.iK 88 2) ((8,.val (.bool false))::(7,.val (.dJ [.bool false]))::(sBl t l (vI t) seen).env) } Q) ->
   aN X0 Qp T (iC (n+1)) (vP Qp T (iC (n+1)) LL) LL 88 (D7 Qp 88) 1 (U4 Qp 88).body ⟨lN X0 0 [.map 0],[],[.iP (kV.im t)]⟩ Q:=fun Q hQ=>by
  rw[e0];refine aN.Ci (by kernel_rfl) x0 (aN.seq (R:=fun e s=>e=.norm∧∃l seen,iq l=mZ t∧s={ sBl t l (vI t) seen with env:=jy (T.iK 88 2) ((8,.val (.bool false))::(7,.val (.dJ [.bool false]))::(sBl t l (vI t) seen).env) }) (aN.Ci (by kernel_rfl) x1 (abV (n:=n) h)) (fun s hs=>?_) (fun i s h=>by cases h.1) (fun s h=>by cases h.1));obtain⟨_,l,seen,h1,rfl⟩:=hs;exact hQ l seen h1
 have hlen:∀l:LI0,iq l=mZ t->l.length<=2^20:=fun l hl=>by
  have h1:(iq l).length=l.length:=by unfold iq;rw[aaF]
  have h2:(mZ t).length<=t.length:=by unfold mZ iq;rw[aaF,a5c];exact a9S ..
  have:=h.len;rw[hl]at h1;omega
 have arT:iq []=([]:LI0):=by simp[iq]
 constructor
 .intro hn;have:=Ed (X:=X0) (P:=Qp) (T:=T) (L:=LL) (n:=n+1) (f:=88) (first:=[]) (cap:=[]) (xs:=[.map 0]) (H:=[.iP (kV.im t)]) (N:=[]) (v:=.dJ [.nil .aP,.bool (vI t)]) (tv:=fun _=>.dJ [.nil .aP,.bool (vI t)]) (tN:=[]) (t:=U4 Qp 88) hX (by kernel_rfl) (by kernel_rfl) (by kernel_rfl) rfl (fun A m h hr=>⟨m,by simpa using hr,Pv.bZ.cons (.nil .aP) (.cons (.bool _) .nil) |> fun h=>.dJ h.1 h.2,by simpa using Fr.refl,.refl⟩) (run _ fun l seen hl=>?_)
  .exact this
  .rw[hn]at hl;have rG:l=[]:=by
    have h1:(iq l).length=l.length:=by unfold iq;rw[aaF]
    rw[hl]at h1;exact a4J h1.symm
   subst rG;exact aN.step (by kernel_rfl) (Ad (e:=.ret) (ps1:=⟨[(2,.val (.nil .aP)),(3,xl (vI t))],[],[.iP (kV.im t),.dD 0 t.length seen]⟩) hX gU (by kernel_rfl) (.fr [] (ahc (n:=n)) (.r rfl))) ⟨.inr rfl,[.nil .aP,.bool (vI t)],by kernel_rfl,a4U⟩
 .intro hn;have:=Ed (X:=X0) (P:=Qp) (T:=T) (L:=LL) (n:=n+1) (f:=88) (first:=[]) (cap:=[]) (xs:=[.map 0]) (H:=[.iP (kV.im t)]) (N:=[.list false false 3 (mZ t)]) (v:=.dJ [.own 1,.bool (vI t)]) (tv:=fun n=>.dJ [.aP n 0 (mZ t).length (mZ t).length 1 false,.bool (vI t)]) (tN:=[.cells .last ((mZ t).map fun n=>TV.int .i64 n)]) (t:=U4 Qp 88) hX (by kernel_rfl) (by kernel_rfl) (by kernel_rfl) rfl (fun A m h hr=>aaZ hX (H:=[.iP (kV.im t)]) (ty:=3) (l:=mZ t) hn (F8 _) LQ (by decide) (fun _ _ _=>rfl) rfl hr) (run _ fun l seen hl=>?_)
  .exact this
  .cases l with
   |nil=>rw[arT]at hl;exact absurd hl.symm hn
   |cons x l=>
    have hs:=adZ (n:=n) (k:=false) (ex:=false) (x::l) (hlen _ hl);rw[hl]at hs;exact aN.step (by kernel_rfl) (Ad (e:=.ret) (ps1:=⟨[(2,.val (.own 2)),(3,xl (vI t))],[],[.iP (kV.im t),.dD 0 t.length seen,.list false false 3 (mZ t)]⟩) hX gU (by kernel_rfl) (.fr [2] hs (.r rfl))) ⟨.inr rfl,[.own 2,.bool (vI t)],by kernel_rfl,a7F hX (i:=2) (ty:=3) (l:=mZ t) rfl hn (F8 _) LQ rfl⟩
end
open Go Tw Pv cu
abbrev vF:PV aB:=.fn 139 [] [.ptr 1 0 1]
abbrev a95:Code:=(U4 Qp 138).body
abbrev ahd:Code:=(U4 Qp 139).body
abbrev lpW:Code:=fA (fA (fB ahd))
abbrev xW:Code:=fA (fB (fB lpW))
abbrev a96:List (Nat×PE aB):=[(2,.val (.ptr 2 0 1)),(4,.val (.nil .aP)),(6,.val vF)]
abbrev QV(rd:Bool)(jW:Option Code):PB aB:=.loop rd 138 (D7 Qp 138) a96 [7] (y9 Qp 138) (BL Qp 138) jW
abbrev H3(t:List (V×Int))(x:PV aB):List (PB aB):=[.iP (kV.im t),.aG [.map 0],.cells [x]]
theorem one_le(w:Int):[w].length<=ah:=by rw[a4b];unfold ah;omega
theorem arU{n:Nat}(t:List (V×Int))(w:Int):iV (n+1) (.lF 4) [.int .i64 w] (H3 t (.nil .aP)++[.mark,QV true none]) (.bool true) (H3 t (.own 6)++[.mark,QV true none,.list true true 3 [w],.list true false 3 [w]]):=by have q1:dS X0 Qp T (iC n) LL 138 true (D7 Qp 138) 5 (y9 Qp 138) ⟨uQ a96 [7] [.int .i64 w],[],H3 t (.nil .aP)++[.mark,QV true none]⟩ .norm ⟨[(2,.val (.ptr 2 0 1)),(5,xi w)],[],H3 t (.nil .aP)++[.mark,QV true none]⟩:=yX hX gU (by kernel_rfl) .xx;have q2:dS X0 Qp T (iC n) LL 138 true (D7 Qp 138) 5 (BL Qp 138) ⟨[(2,.val (.ptr 2 0 1)),(5,xi w)],[],H3 t (.nil .aP)++[.mark,QV false none]⟩ .norm ⟨[],[],H3 t (.own 6)++[.mark,QV false none,.list true true 3 [w],.list true false 3 [w]]⟩:=yX hX gU (by kernel_rfl) (.o (one_le w) .xx);exact Iy hX (l:=4) rfl rfl (by kernel_rfl) q1 rfl q2 rfl
theorem arV{n:Nat}(t:List (V×Int))(l:LI0)(w:Int)(hl:l.length+[w].length<=ah):iV (n+1) (.lF 4) [.int .i64 w] (H3 t (.own 5)++[.mark,QV true none,.list false false 3 l]) (.bool true) (H3 t (.own 7)++[.mark,QV true none,.gone,.list true true 3 [w],.list false false 3 (l++[w])]):=by have q1:dS X0 Qp T (iC n) LL 138 true (D7 Qp 138) 6 (y9 Qp 138) ⟨uQ a96 [7] [.int .i64 w],[],H3 t (.own 5)++[.mark,QV true none,.list false false 3 l]⟩ .norm ⟨[(2,.val (.ptr 2 0 1)),(5,xi w)],[],H3 t (.own 5)++[.mark,QV true none,.list false false 3 l]⟩:=yX hX gU (by kernel_rfl) .xx;have q2:dS X0 Qp T (iC n) LL 138 true (D7 Qp 138) 6 (BL Qp 138) ⟨[(2,.val (.ptr 2 0 1)),(5,xi w)],[],H3 t (.own 5)++[.mark,QV false none,.list false false 3 l]⟩ .norm ⟨[],[],H3 t (.own 7)++[.mark,QV false none,.gone,.list true true 3 [w],.list false false 3 (l++[w])]⟩:=yX hX gU (by kernel_rfl) (.o hl .xx);exact Iy hX (l:=4) rfl rfl (by kernel_rfl) q1 rfl q2 rfl
def Fz(t:List (V×Int))(js:List Nat):LI0:=js.reverse.map fun j=>(QU t j).2
theorem a4V(t:List (V×Int))(j:Nat)(js:List Nat):Fz t (j::js)=Fz t js++[(QU t j).2]:=by simp[Fz]
abbrev sWl(t:List (V×Int))(l:LI0)(js:List Nat):aT aB:=match l with
 | []=>⟨[(0,.val (.lF 4)),(6,.val (.iter 5))],[],H3 t (.nil .aP)++[.mark,QV true none,.dD 0 t.length js]⟩
 |x::l=>⟨[(0,.val (.lF 4)),(6,.val (.iter 5))],[],H3 t (.own 6)++[.mark,QV true none,.dD 0 t.length js,.list false false 3 (x::l)]⟩
section
variable {n:Nat} {t:List (V×Int)}
set_option maxRecDepth 20000 in
theorem abW(h:KJ t):aN X0 Qp T (iC (n+1)) DF LL 139 (D7 Qp 139) 5 (.block 0 (.loop lpW)) (sWl t [] [])
  fun e s=>e=.norm∧∃l seen,l.Perm (t.map (·.2))∧s={ sWl t l seen with env:=jy (T.iK 139 1) ((8,.val (.bool false))::(7,.val (.dJ [.bool false]))::(sWl t l seen).env) }:=by
 have e1:lpW=.seq (.region 1 (a7G (fA lpW)) false) (.seq (.cond (.tmp 8) .skip (.exit 0)) (.block 1 xW)):=by kernel_rfl
 have hlen:=h.len;rw[e1];refine Ql hX (n:=t.length) (b:=5) (r:=0) (it:=6) (nx:=7) (mo:=8) (es:=kV.im t) (fun seen s=>seen.Nodup∧(∀j∈seen,j<t.length)∧∃gs,lD 5 gs (gY X0 (T.fC 139 (eu lpW)) s)=some (sWl t (Fz t seen) seen)) (by kernel_rfl) (a6B (by kernel_rfl)) (a6B (by kernel_rfl)) (kV.qy t) (by unfold LL;omega)
  ⟨a5W,(fun j hj=>(by cases hj)),[],(by kernel_rfl)⟩ (fun seen s hi=>?_)
 obtain⟨jL,aQ,gs,h3⟩:=hi;rw[<-e1];refine⟨gs,_,h3,?_,?_,?_,fun ho=>?_,fun j e hj he=>?_⟩
 .cases Fz t seen<;>kernel_rfl
 .cases Fz t seen<;>kernel_rfl
 .cases Fz t seen<;>kernel_rfl
 .refine⟨?_,Fz t seen,seen,?_,rfl⟩
  .cases Fz t seen<;>kernel_rfl
  .have hp:(seen.reverse).Perm (List.range t.length):=(List.reverse_perm seen).trans ((a7P jL aeP).2 fun j=>⟨fun h=>a5f.2 (aQ j h),fun h=>ho j (a5f.1 h)⟩);unfold Fz
   conv=>rhs;rw[ah9 t]
   rw[a8K];exact hp.map _
 .rw[kV.Cc,a0A]at he;obtain⟨⟨v,w⟩,tH,rfl⟩:=he;obtain⟨q1,q2,q3⟩:=WM tH;have GU:(j::seen).Nodup:=a5n.2 ⟨hj,jL⟩;have GV:∀k∈j::seen,k<t.length:=fun k hk=>by
   rcases a2x.1 hk with rfl|hk
   .exact q2
   .exact aQ k hk
  have hll:(Fz t seen).length<=2000:=by
   have h2:seen.length<=t.length:=by have:=(KH jL aQ).length_eq;have h3:=a9S (fun j=>seen.contains j) (List.range t.length);rw[a6T]at h3;omega
   have h1:(Fz t seen).length=seen.length:=(by simp[Fz]);omega
  have Ez:=a4V t j seen;rw[q1]at Ez;have Ez:Fz t (j::seen)=Fz t seen++[w]:=Ez;generalize Fz t seen=l at Ez hll;cases l with
  |nil=>
   refine⟨by kernel_rfl,aN.step (e:=.norm) (by kernel_rfl) (Ad (ps1:=⟨[(0,.val (.lF 4)),(6,.val (.iter 5)),(14,xl false)],[],H3 t (.own 7)++[.mark,QV true none,.dD 0 t.length (j::seen),.list true true 3 [w],.list true false 3 [w]]⟩) hX gU (by kernel_rfl) (.c (.dJ [.agg v.ps,.int .i64 w]) [] (Cj tH) (.fr [0,1,2,3,4] (arU (n:=n) t w) (.b (rfl:(!true)=false) (.r rfl))))) ⟨.inl rfl,GU,GV,[.flag 7,.gc [5,7]],?_⟩⟩;rw[Ez]
   kernel_rfl
  |cons x l=>
   have a1:(x::l).length+[w].length<=ah:=by rw[a4b];unfold ah;omega
   refine⟨by kernel_rfl,aN.step (e:=.norm) (by kernel_rfl) (Ad (ps1:=⟨[(0,.val (.lF 4)),(6,.val (.iter 5)),(14,xl false)],[],H3 t (.own 8)++[.mark,QV true none,.dD 0 t.length (j::seen),.gone,.list true true 3 [w],.list false false 3 (x::l++[w])]⟩) hX gU (by kernel_rfl) (.c (.dJ [.agg v.ps,.int .i64 w]) [] (Cj tH) (.fr [0,1,2,3,4,6] (arV (n:=n) t (x::l) w a1) (.b (rfl:(!true)=false) (.r rfl))))) ⟨.inl rfl,GU,GV,[.gc [5,8]],?_⟩⟩;rw[Ez]
   kernel_rfl
end
open Go Tw Pv cu
def tC(t:List (V×Int)):LI0:=zU (fun n=>[n]) (t.map fun e:V×Int=>e.2)
abbrev RY(n:Int):TV:=.int .i64 n
abbrev MR(n:Int):PV aB:=.int .i64 n
theorem a4W{t:List (V×Int)}{l:LI0}(h:l.Perm (t.map fun e:V×Int=>e.2)):Tj (l.map RY)=(tC t).map RY:=by unfold Tj;rw[U2 (g:=RY) (key:=fun n=>[n]) (a7z:=Td) (fun _=>rfl),FZ h fun a _ b _ e=>by simpa using e];rfl
theorem KL:∀l:LI0,Vh (l.map MR)=some (l.map RY)
 | []=>rfl
 |a::l=>by
  have:=KL l;show(match qJ (MR a),Vh (l.map MR)with
   |some a,some b=>some (a::b)
   |_,_=>none)=_
  rw[this];rfl
section
variable {n:Nat} {t:List (V×Int)}
set_option maxRecDepth 20000 in
theorem amk(h:KJ t)(ht:t≠[]):aaV X0 Qp (vP Qp T (iC (n+1)) LL) vF [.lF 4] (H3 t (.nil .aP)++[.mark,QV true none]) fun v H1=>∃(l:LI0) (seen:List Nat),l.Perm (t.map fun e:V×Int=>e.2)∧H1=H3 t (.own 6)++[.mark,QV true none,.dD 0 t.length seen,.list false false 3 l]:=by
 refine a2p (t:=U4 Qp 139) hX (by kernel_rfl) ?_;have e0:(U4 Qp 139).body=.seq (fA ahd) (.block 0 (.loop lpW)):=by kernel_rfl
 rw[e0];have x0:dS X0 Qp T (iC (n+1)) LL 139 false (D7 Qp 139) 5 (fA ahd) ⟨lN X0 0 [.lF 4,.ptr 1 0 1],[],H3 t (.nil .aP)++[.mark,QV true none]⟩ .norm ⟨[(0,.val (.lF 4)),(6,.val (.iter 5))],[],H3 t (.nil .aP)++[.mark,QV true none,.dD 0 (kV.im t).length []]⟩:=Ad hX gU (an:=.n) (by kernel_rfl) (.r rfl);rw[kV.qy t]at x0;refine aN.Ci (by kernel_rfl) x0 ((abW (n:=n) h).mono fun e s h1=>?_);obtain⟨rfl,l,seen,h2,rfl⟩:=h1;cases l with
 |nil=>
  have:=h2.length_eq;rw[a5c]at this;exact absurd (a4J this.symm) ht
 |cons x l=>exact⟨.inl rfl,[],by kernel_rfl,x::l,seen,h2,rfl⟩
set_option maxRecDepth 20000 in
theorem abX(h:KJ t)(ht:t≠[]):iV (n+2) (.fn 138 [] []) [.nil .aP,vF] [.iP (kV.im t),.aG [.map 0]] (.aP 2 0 t.length t.length 1 false) [.iP (kV.im t),.aG [.map 0],.nX ((tC t).map MR)]:=by
 have e0:(U4 Qp 138).body=.seq (fA a95) (.seq (.seq (fA (fA (fB a95))) (.block 0 (.rangeFunc (.tmp 6) #[7] (y9 Qp 138) (BL Qp 138)))) (fB (fB a95))):=by kernel_rfl
 have x0:dS X0 Qp T (iC (n+1)) LL 138 false (D7 Qp 138) 2 (fA a95) ⟨lN X0 0 [.nil .aP,vF],[],[.iP (kV.im t),.aG [.map 0]]⟩ .norm ⟨[(1,.val vF),(2,.val (.ptr 2 0 1)),(4,.val (.nil .aP))],[],H3 t (.nil .aP)⟩:=Ad hX gU (an:=.n) (by kernel_rfl) (.r rfl);have x1:dS X0 Qp T (iC (n+1)) LL 138 false (D7 Qp 138) 2 (fA (fA (fB a95))) ⟨[(1,.val vF),(2,.val (.ptr 2 0 1)),(4,.val (.nil .aP))],[],H3 t (.nil .aP)⟩ .norm ⟨a96,[],H3 t (.nil .aP)⟩:=Ad hX gU (an:=.n) (by kernel_rfl) (.r rfl);have:=Ed (X:=X0) (P:=Qp) (T:=T) (L:=LL) (n:=n+1) (f:=138) (first:=[]) (cap:=[]) (xs:=[.nil .aP,vF]) (H:=[.iP (kV.im t),.aG [.map 0]]) (N:=[.nX ((tC t).map MR)]) (v:=.aP 2 0 t.length t.length 1 false) (tv:=fun k=>.aP k 0 t.length t.length 1 false) (tN:=[.nX ((tC t).map RY)]) (t:=U4 Qp 138) hX (by kernel_rfl) (by kernel_rfl) (by kernel_rfl) rfl (fun A m h hr=>aaY (H:=[.iP (kV.im t),.aG [.map 0]]) (n:=t.length) (sz:=1) (KL _) hr) ?_
 .exact this
 rw[e0];refine aN.Ci (by kernel_rfl) x0 (aN.seq (R:=fun e s=>e=.norm∧∃(l:LI0) (seen:List Nat),l.Perm (t.map fun e:V×Int=>e.2)∧s=⟨a96,[],H3 t (.own 6)++[.mark,QV false (some .skip),.dD 0 t.length seen,.list false false 3 l]⟩) (aN.Ci (by kernel_rfl) x1 (aN.block ?_)) (fun s hs=>?_) (fun i s h=>by cases h.1) (fun s h=>by cases h.1))
 .refine aN.range (f1:=139) (a1:=[]) (b1:=[.ptr 1 0 1]) (K:=fun v H1=>∃(l:LI0) (seen:List Nat),l.Perm (t.map fun e:V×Int=>e.2)∧H1=H3 t (.own 6)++[.mark,QV true none,.dD 0 t.length seen,.list false false 3 l]) hX rfl (by kernel_rfl) (by kernel_rfl) (amk (n:=n) h ht) (fun v H1 hk=>?_);obtain⟨l,seen,h1,rfl⟩:=hk;exact⟨true,_,_,_,_,_,_,none,.norm,rfl,rfl,rfl,l,seen,h1,rfl⟩
 obtain⟨_,l,seen,h1,rfl⟩:=hs;have hl:l≠[]:=fun e=>by subst e;have:=h1.length_eq;rw[a5c]at this;exact absurd (a4J this.symm) ht
 have hlen:t.length=l.length:=by rw[h1.length_eq,a5c]
 refine aN.step (by kernel_rfl) (Ad (e:=.ret) (ps1:=⟨[(4,.val (.own 6))],[],H3 t (.own 6)++[.mark,QV false (some .skip),.dD 0 t.length seen,.list false false 3 l]⟩) hX gU (an:=.n) (by kernel_rfl) (.r rfl)) ⟨.inr rfl,[.own 6],by kernel_rfl,?_⟩;rw[<-a4W h1,hlen];exact a7E hX (i:=6) (ty:=3) (l:=l) rfl hl (F8 _) LQ
end
def QW:LI0->Int
 | []=>0
 |x::l=>l.foldl max x
theorem Z5:∀(l:LI0) (x:Int),(l.foldl max x=x∨l.foldl max x∈l)∧x<=l.foldl max x∧∀y∈l,y<=l.foldl max x
 | [],x=>⟨.inl rfl,aa0 _,fun y hy=>by cases hy⟩
 |a::l,x=>by
  obtain⟨h1,h2,h3⟩:=Z5 l (max x a);rw[aeb];have hm:max x a=x∨max x a=a:=by omega
  refine⟨?_,by omega,fun y hy=>?_⟩
  .rcases h1 with h1|h1
   .rcases hm with e|e
    .exact .inl (h1.trans e)
    rw[h1,e];exact .inr (by simp)
   exact .inr (by simp[h1])
  rcases a2x.1 hy with rfl|hy
  .omega
  exact h3 y hy
theorem Z7{l:LI0}(h:l≠[]):QW l∈l∧∀y∈l,y<=QW l:=by
 cases l with
 |nil=>exact absurd rfl h
 |cons x l=>
  obtain⟨h1,h2,h3⟩:=Z5 l x;refine⟨?_,fun y hy=>?_⟩
  .rcases h1 with h1|h1
   .show l.foldl max x∈_;rw[h1];simp
   exact a4a _ h1
  rcases a2x.1 hy with rfl|hy
  .exact h2
  exact h3 y hy
theorem a4X{l l':LI0}(h:l.Perm l')(hl:l≠[]):QW l=QW l':=by
 have hl':l'≠[]:=fun e=>by subst e;exact hl h.eq_nil
 obtain⟨a1,a2⟩:=Z7 hl;obtain⟨b1,b2⟩:=Z7 hl';have:=a2 _ (h.mem_iff.2 b1);have:=b2 _ (h.mem_iff.1 a1);omega
open Go Tw Pv cu
abbrev ApM(n:Nat):bn:=lM Qp Tm (2^24) n
theorem okM{n:Nat}:jS X0 Qp (ApM n) aaN:=fun _ _ _ _ _ h _=>by cases h
def gMx(l:LI0)(k:Nat)(m:Int):Int:=if l.getD (i64.wrap ((k:Int)+1)).toNat 0>m then l.getD (i64.wrap ((k:Int)+1)).toNat 0 else m
theorem a3b{x:Int}{r:LI0}(h:r.length<=ah):∀k,k<=r.length->aU (gMx (x::r)) k 0 x=(r.take k).foldl max x
 | 0,_=>rfl
 |k+1,hk=>by
  rw[uz,a3b h k (by omega)];unfold gMx;rw[a4v,yV (by omega),a5D];have e:(x::r).getD (k+1) 0=r[k]'(by omega):=by simp[List.getD,a0D (show k<r.length by omega)]
  rw[e,a5S (by omega),List.foldl_append];simp only[aeb,List.foldl_nil];omega
abbrev wMx(l:LI0)(m i:Int)(x:List (Nat×PE aB)):aT aB:=⟨[(0,xL 3 l),(3,xi m),(4,xi (i64.wrap (i+1)))]++x,[],[]⟩
set_option maxRecDepth 20000 in
theorem amm{l:LI0}(h0:l≠[])(hl:l.length<=2000):dF X0 Qp (ApM 2) (.fn 94 [] []) [.dH 3 l false] [] (.int .i64 (QW l)) []:=by
 cases l with
 |nil=>exact absurd rfl h0
 |cons x r=>
  have hr:r.length<=ah:=by have:(x::r).length=r.length+1:=rfl;unfold ah;omega
  have lp:dS X0 Qp Tm (ApM 1) LL 94 false (D7 Qp 94) 0 (.loop (Q5 Qp 94 0)) ⟨[(0,xL 3 (x::r)),(3,xi x),(4,xi 1)],[],[]⟩ (.exit 0) (wMx (x::r) (aU (gMx (x::r)) r.length 0 x) r.length [(15,xl false)]):=by
   refine LG (X:=X0) (N:=r.length) (g:=gMx (x::r)) (s0:=x) (st:=fun i m=>wMx (x::r) m i []) (fin:=fun m=>wMx (x::r) m r.length [(15,xl false)]) (fun _ _=>True) (by kernel_rfl) hr RN trivial (fun _ _ _ _=>trivial) (fun k m hk _ n e p g9=>?_) (fun m _=>?_)
   .have e1:i64.wrap ((k:Int)+1)=((k+1:Nat):Int):=yV (by omega);have t1:decide (i64.wrap ((k:Int)+1)<((x::r).length:Int))=true:=by rw[e1,a1n,a4O];omega
    have i1:fD (i64.wrap ((k:Int)+1)) (x::r).length:=by rw[e1];exact aC (by rw[a4O];omega)
    exact round hX okM (by kernel_rfl) (.b t1 (.o i1 (.go g9)))
   have e1:i64.wrap ((r.length:Int)+1)=((r.length+1:Nat):Int):=yV (by omega);have t1:decide (i64.wrap ((r.length:Int)+1)<((x::r).length:Int))=false:=by rw[e1,a2b,a4O];omega
   exact round hX okM (by kernel_rfl) (.b t1 .ex)
  have e:aU (gMx (x::r)) r.length 0 x=QW (x::r):=by rw[a3b hr _ (a15 _),abh];rfl
  rw[e]at lp;have hc:((x::r).length:Int)=r.length+1:=by simp
  have t0:decide (((x::r).length:Int)<1)=false:=by rw[a2b,hc];omega
  have i0:fD 0 (x::r).length:=⟨by decide,by rw[hc];omega⟩;exact nK hX okM (first:=[]) (cap:=[]) (by kernel_rfl) (.b t0 (.o i0 (.w lp .er)))
theorem abY(n:Nat)(x:TV)(h:List HB):lM Qp T LL (n+1) (.fn 94 [] []) [x] h=a4f 94 (ApM 2) (.fn 94 [] []) [x] h:=rfl
theorem amn{n:Nat}{vs:LI0}(h0:vs≠[])(hl:vs.length<=2000):iV (n+1) (.fn 94 [] []) [.aP 0 0 vs.length vs.length 1 false] [.nX (vs.map MR)] (.int .i64 (QW vs)) [.nX (vs.map MR)]:=by
 intro A m h tf sD hr hf hx;obtain⟨x,r,rfl,h1,h2⟩:=hx.inv;have:=h2.inv0;subst this;have htf:=hf.VJ;subst htf;obtain⟨mb,g1,g2⟩:=hr.at_ 0 _ rfl;cases mb with
 |gK c=>
  obtain⟨ts,g3,g4⟩:=g2;have g5:=g4.symm.trans (KL vs);cases g5;have hx2:x=.aP c 0 vs.length vs.length 1 false:=by
   cases h1 with
   |aP e=>rw[g1]at e;cases e;rfl
   |gone hi e _=>simp only[bH,a0k]at hi;subst hi;rw[g1]at e;cases e
  subst hx2;have Fq:c∈bI m:=bD g1 rfl;have aQ:=(a0n.1 g3).1;show ∃w h1 ws m1,lM Qp T LL (n+1) _ _ h=_∧_;rw[abY,aaU (k:=.i64) (n:=QW vs)]
  .exact⟨_,h,[],m,rfl,hr,.int _ _,.refl,.refl,fun b hb=>by cases hb⟩
  .refine⟨⟨_,_,rfl⟩,rfl,fun h' hu=>?_⟩;obtain⟨cs',p1,p2⟩:=hu.2 c _ g3;obtain⟨l,hp,rfl⟩:∃l:LI0,l.Perm vs∧cs'=l.map RY:=by
    have hq:∀y∈cs',∃i:Int,y=RY i:=fun y hy=>by obtain⟨i,_,rfl⟩:=a1e.1 (p1.mem_iff.1 hy);exact⟨i,rfl⟩
    have hun:∀L:List TV,(∀y∈L,∃i:Int,y=RY i)->∃l:LI0,L=l.map RY:=by
     intro L
     induction L with
     |nil=>exact fun _=>⟨[],rfl⟩
     |cons y L ih=>
      intro hL;obtain⟨i,rfl⟩:=hL y (by simp);obtain⟨l,rfl⟩:=ih fun z hz=>hL z (by simp[hz]);exact⟨i::l,rfl⟩
    obtain⟨l,rfl⟩:=hun cs' hq;refine⟨l,?_,rfl⟩;have:=p1.map fun y=>match y with|.int _ n=>n|_=>0
    rw[a8K,a8K]at this;simpa[Function.comp_def]using this
   have hlen:l.length=vs.length:=hp.length_eq;have rG:l≠[]:=fun e=>by subst e;exact h0 (a4J hlen.symm)
   have amo:h'.length=h.length:=by
    have e:=fun b=>TW hu b;refine Nat.le_antisymm (acX fun hb=>?_) (acX fun hb=>?_)
    .have:=e h.length;rw[a0D hb,a4Y (a15 _)]at this;cases this
    have:=e h'.length;rw[a0D hb,a4Y (a15 _)]at this;cases this
   have hm:=amm rG (by omega);have hvr:Pv.VR X0 Qp (AA A []) [] h' (.dH 3 l false) (.aP c 0 vs.length vs.length 1 false):=by
    rw[<-hlen];refine Pv.VR.dH (cs:=l.map RY) ⟨hr.DU c Fq,by simp[bI]⟩ (by simp only[aX,p2]) (fun _=>by simp[ny,p2]) LQ (by decide) (by simp;exact a15 _) (a15 _) (by intro h;cases h) ?_ ?_
    .intro j a _;rfl
    have hrw:=Uf (A:=AA A []) (m:=[]) (h:=h') l;intro j a i c v a1 a2 a3;exact hrw.2.2 j a i c v a1 a2 a3
   obtain⟨w,h2,ws,m1,c1,c2,c3,c4,c5,c6⟩:=hm A [] h' (.fn 94 [] []) [.aP c 0 vs.length vs.length 1 false] ⟨rfl,fun i b hi=>by simp at hi,by simp[bI],fun b hb=>hr.up b (by rw[<-amo];exact hb),fun b hb=>by simp[bI]at hb⟩ (.fn rfl (fun i x y hi=>by simp at hi) rfl (fun i x y hi=>by simp at hi)) (.cons hvr .nil)
   .have hw:w=.int .i64 (QW vs):=by rw[<-a4X hp rG];exact c3.a2k
    subst hw;have Zw:ws=[]:=a7B.2 fun b hb=>by have:=c6 b hb;simp[bI]at this
    subst Zw;exact⟨h2,c1⟩
  obtain⟨h',hu⟩:∃h',Qe h h':=⟨_,Ya h (fun b=>match h[b]? with|some (.nX cs)=>cs|_=>[]) fun b cs e=>by rw[e]⟩;exact⟨h',hu⟩
 |_=>exact g2.elim
open Go Tw Pv cu
theorem amq{n:Nat}(hO:Ok n qZ){k:Int}(hk:0<=k∧k<=6):iV (n+1) (.fn 124 [] []) [.own 0,.int .i64 k] [.list true true 3 ([-1]:LI0)] (.own 1) [.list true true 3 ([-1]:LI0),.list true true 3 (List.replicate k.toNat (-1):LI0)]:=by
 rcases a8E hk with rfl|rfl|rfl|rfl|rfl|rfl|rfl
 .exact fQ hO (first:=[]) (cap:=[]) (.b (rfl:decide ((0:Int)<0)=false) (.o (rfl:(1:Int)=1) (.o (⟨by decide,by decide⟩:(0:Int)<=0∧(0:Int)<=6) (.b (rfl:decide ((0:Int)>0)=false) (.b (rfl:decide ((0:Int)>9223372036854775807)=false) (.o (rfl:(0:Int)=0) (.o (show(0:Int)<=0 by decide) (.o (show(0:Int)<=(ah:Int) by decide) (.m 8 le8 (.b (rfl:decide ((0:Int)<0)=false) .er))))))))))
 .exact fQ hO (first:=[]) (cap:=[]) (.b (rfl:decide ((1:Int)<0)=false) (.o (rfl:(1:Int)=1) (.o (⟨by decide,by decide⟩:(0:Int)<=1∧(1:Int)<=6) (.b (rfl:decide ((0:Int)>0)=false) (.b (rfl:decide ((1:Int)>9223372036854775807)=false) (.o (rfl:(1:Int)=1) (.o (show(0:Int)<=1 by decide) (.o (show(1:Int)<=(ah:Int) by decide) (.m 8 le8 (.b (rfl:decide ((1:Int)<1)=false) .er))))))))))
 .exact fQ hO (first:=[]) (cap:=[]) (.b (rfl:decide ((2:Int)<0)=false) (.o (rfl:(1:Int)=1) (.o (⟨by decide,by decide⟩:(0:Int)<=2∧(2:Int)<=6) (.b (rfl:decide ((0:Int)>0)=false) (.b (rfl:decide ((2:Int)>9223372036854775807)=false) (.o (rfl:(2:Int)=2) (.o (show(0:Int)<=2 by decide) (.o (show(2:Int)<=(ah:Int) by decide) (.m 8 le8 (.b (rfl:decide ((1:Int)<2)=true) (.o (show(0:Int)<=1 by decide) (.o (show(1:Int)<=2 by decide) (.o (show(2:Int)<=2 by decide) (.o (show(0:Int)<=0 by decide) (.o (show(0:Int)<=1 by decide) (.o (show(1:Int)<=2 by decide) (.b (rfl:decide ((2:Int)<2)=false) .er)))))))))))))))))
 .exact fQ hO (first:=[]) (cap:=[]) (.b (rfl:decide ((3:Int)<0)=false) (.o (rfl:(1:Int)=1) (.o (⟨by decide,by decide⟩:(0:Int)<=3∧(3:Int)<=6) (.b (rfl:decide ((0:Int)>0)=false) (.b (rfl:decide ((3:Int)>9223372036854775807)=false) (.o (rfl:(3:Int)=3) (.o (show(0:Int)<=3 by decide) (.o (show(3:Int)<=(ah:Int) by decide) (.m 8 le8 (.b (rfl:decide ((1:Int)<3)=true) (.o (show(0:Int)<=1 by decide) (.o (show(1:Int)<=3 by decide) (.o (show(3:Int)<=3 by decide) (.o (show(0:Int)<=0 by decide) (.o (show(0:Int)<=1 by decide) (.o (show(1:Int)<=3 by decide) (.b (rfl:decide ((2:Int)<3)=true) (.o (show(0:Int)<=2 by decide) (.o (show(2:Int)<=3 by decide) (.o (show(3:Int)<=3 by decide) (.o (show(0:Int)<=0 by decide) (.o (show(0:Int)<=2 by decide) (.o (show(2:Int)<=3 by decide) (.b (rfl:decide ((3:Int)<3)=false) .er))))))))))))))))))))))))
 .exact fQ hO (first:=[]) (cap:=[]) (.b (rfl:decide ((4:Int)<0)=false) (.o (rfl:(1:Int)=1) (.o (⟨by decide,by decide⟩:(0:Int)<=4∧(4:Int)<=6) (.b (rfl:decide ((0:Int)>0)=false) (.b (rfl:decide ((4:Int)>9223372036854775807)=false) (.o (rfl:(4:Int)=4) (.o (show(0:Int)<=4 by decide) (.o (show(4:Int)<=(ah:Int) by decide) (.m 8 le8 (.b (rfl:decide ((1:Int)<4)=true) (.o (show(0:Int)<=1 by decide) (.o (show(1:Int)<=4 by decide) (.o (show(4:Int)<=4 by decide) (.o (show(0:Int)<=0 by decide) (.o (show(0:Int)<=1 by decide) (.o (show(1:Int)<=4 by decide) (.b (rfl:decide ((2:Int)<4)=true) (.o (show(0:Int)<=2 by decide) (.o (show(2:Int)<=4 by decide) (.o (show(4:Int)<=4 by decide) (.o (show(0:Int)<=0 by decide) (.o (show(0:Int)<=2 by decide) (.o (show(2:Int)<=4 by decide) (.b (rfl:decide ((4:Int)<4)=false) .er))))))))))))))))))))))))
 .exact fQ hO (first:=[]) (cap:=[]) (.b (rfl:decide ((5:Int)<0)=false) (.o (rfl:(1:Int)=1) (.o (⟨by decide,by decide⟩:(0:Int)<=5∧(5:Int)<=6) (.b (rfl:decide ((0:Int)>0)=false) (.b (rfl:decide ((5:Int)>9223372036854775807)=false) (.o (rfl:(5:Int)=5) (.o (show(0:Int)<=5 by decide) (.o (show(5:Int)<=(ah:Int) by decide) (.m 8 le8 (.b (rfl:decide ((1:Int)<5)=true) (.o (show(0:Int)<=1 by decide) (.o (show(1:Int)<=5 by decide) (.o (show(5:Int)<=5 by decide) (.o (show(0:Int)<=0 by decide) (.o (show(0:Int)<=1 by decide) (.o (show(1:Int)<=5 by decide) (.b (rfl:decide ((2:Int)<5)=true) (.o (show(0:Int)<=2 by decide) (.o (show(2:Int)<=5 by decide) (.o (show(5:Int)<=5 by decide) (.o (show(0:Int)<=0 by decide) (.o (show(0:Int)<=2 by decide) (.o (show(2:Int)<=5 by decide) (.b (rfl:decide ((4:Int)<5)=true) (.o (show(0:Int)<=4 by decide) (.o (show(4:Int)<=5 by decide) (.o (show(5:Int)<=5 by decide) (.o (show(0:Int)<=0 by decide) (.o (show(0:Int)<=4 by decide) (.o (show(4:Int)<=5 by decide) (.b (rfl:decide ((5:Int)<5)=false) .er)))))))))))))))))))))))))))))))
 exact fQ hO (first:=[]) (cap:=[]) (.b (rfl:decide ((6:Int)<0)=false) (.o (rfl:(1:Int)=1) (.o (⟨by decide,by decide⟩:(0:Int)<=6∧(6:Int)<=6) (.b (rfl:decide ((0:Int)>0)=false) (.b (rfl:decide ((6:Int)>9223372036854775807)=false) (.o (rfl:(6:Int)=6) (.o (show(0:Int)<=6 by decide) (.o (show(6:Int)<=(ah:Int) by decide) (.m 8 le8 (.b (rfl:decide ((1:Int)<6)=true) (.o (show(0:Int)<=1 by decide) (.o (show(1:Int)<=6 by decide) (.o (show(6:Int)<=6 by decide) (.o (show(0:Int)<=0 by decide) (.o (show(0:Int)<=1 by decide) (.o (show(1:Int)<=6 by decide) (.b (rfl:decide ((2:Int)<6)=true) (.o (show(0:Int)<=2 by decide) (.o (show(2:Int)<=6 by decide) (.o (show(6:Int)<=6 by decide) (.o (show(0:Int)<=0 by decide) (.o (show(0:Int)<=2 by decide) (.o (show(2:Int)<=6 by decide) (.b (rfl:decide ((4:Int)<6)=true) (.o (show(0:Int)<=4 by decide) (.o (show(4:Int)<=6 by decide) (.o (show(6:Int)<=6 by decide) (.o (show(0:Int)<=0 by decide) (.o (show(0:Int)<=4 by decide) (.o (show(4:Int)<=6 by decide) (.b (rfl:decide ((6:Int)<6)=false) .er)))))))))))))))))))))))))))))))
def dB(D:List Dg):Jb:=⟨(D.getD 0 iL).ay,(D.getD 0 iL).aH,D,List.replicate (D.getD 0 iL).ay.length (-1)⟩
theorem amr{n f:Nat}(hO:Ok (n+1) qZ)(BO:Ok n qZ){D:List Dg}(h0:0<D.length)(h6:(D.getD 0 iL).ay.length<=6){k ex:Bool}:iV (n+2) (.fn 78 [] []) [.fn f [] [],.own 0] [.list k ex 26 D] (.agg [lI (dB D).s,lI (dB D).o,.own 0,.own 1,.fn f [] []]) [.list k ex 26 D,.list true true 3 (dB D).g]:=by have i0:fD 0 D.length:=aC h0;have hs:=amq BO (k:=((D.getD 0 iL).ay.length:Int)) ⟨by omega,by omega⟩;rw[a5D]at hs;have h:iV (n+2) (.fn 78 [] []) [.fn f [] [],.own 0] [.list k ex 26 D] (.agg [lI (dB D).s,lI (dB D).o,.own 0,.own 2,.fn f [] []]) [.list k ex 26 D,.list true true 3 ([-1]:LI0),.list true true 3 (dB D).g]:=fQ hO (first:=[]) (cap:=[]) (.o i0 (.o i0 (.o i0 (.fr [1] hs .er))));exact dF.gs hX h [.gc [2]] rfl
theorem ams{n f:Nat}(u:Int)(hO:Ok (n+1) qZ)(BO:Ok n qZ){D:List Dg}(h0:0<D.length)(h6:(D.getD 0 iL).ay.length<=6){k ex:Bool}:iV (n+2) (.fn 78 [] []) [.fn f [] [.ptr 1 0 1],.own 0] [.list k ex 26 D,.aG [.int .u8 u]] (.agg [lI (dB D).s,lI (dB D).o,.own 0,.own 2,.fn f [] [.ptr 1 0 1]]) [.list k ex 26 D,.aG [.int .u8 u],.list true true 3 (dB D).g]:=by have i0:fD 0 D.length:=aC h0;have hs:=amq BO (k:=((D.getD 0 iL).ay.length:Int)) ⟨by omega,by omega⟩;rw[a5D]at hs;have h:iV (n+2) (.fn 78 [] []) [.fn f [] [.ptr 1 0 1],.own 0] [.list k ex 26 D,.aG [.int .u8 u]] (.agg [lI (dB D).s,lI (dB D).o,.own 0,.own 3,.fn f [] [.ptr 1 0 1]]) [.list k ex 26 D,.aG [.int .u8 u],.list true true 3 ([-1]:LI0),.list true true 3 (dB D).g]:=fQ hO (first:=[]) (cap:=[]) (.o i0 (.o i0 (.o i0 (.fr [2] hs .er))));exact dF.gs hX h [.gc [3]] rfl
theorem arY{n f:Nat}{J:Jb}{d:Dg}{k ex k2 LX:Bool}(h:iV n (.fn 80 [] []) [.agg (J.ps (.fn f [] []))] [] (dA.put d) []):iV n (.fn 80 [] []) [.agg [lI J.s,lI J.o,.own 0,.own 1,.fn f [] []]] [.list k ex 26 J.D,.list k2 LX 3 J.g] (dA.put d) [.gone,.gone]:=by have h1:=dF.frame hX (ks:=[]) (H':=[.gone,.gone]) (Hp:=[]) (PZ:=[]) (v':=dA.put d) (fv':=.fn 80 [] []) (xs':=[.agg (J.ps (.fn f [] []))]) h (by decide) rfl rfl rfl rfl rfl rfl rfl;exact dF.fz hX (H:=[.list k ex 26 J.D,.list k2 LX 3 J.g]) (cs:=[lI J.s,lI J.o,.own 0,.own 1]) (rest:=[.fn f [] []]) [0,1] h1 rfl (fun i hi=>by simpa[kX.kP,kX]using hi)
theorem arZ{n f:Nat}{u:Int}{J:Jb}{d:Dg}{k ex k2 LX:Bool}(h:iV n (.fn 80 [] []) [.agg (J.ps (.fn f [] [.ptr 0 0 1]))] [.aG [.int .u8 u]] (dA.put d) [.aG [.int .u8 u]]):iV n (.fn 80 [] []) [.agg [lI J.s,lI J.o,.own 0,.own 2,.fn f [] [.ptr 1 0 1]]] [.list k ex 26 J.D,.aG [.int .u8 u],.list k2 LX 3 J.g] (dA.put d) [.gone,.aG [.int .u8 u],.gone]:=by have h1:=dF.frame hX (ks:=[1]) (H':=[.gone,.aG [.int .u8 u],.gone]) (Hp:=[.aG [.int .u8 u]]) (PZ:=[.aG [.int .u8 u]]) (v':=dA.put d) (fv':=.fn 80 [] []) (xs':=[.agg (J.ps (.fn f [] [.ptr 1 0 1]))]) h (by decide) rfl rfl rfl rfl rfl rfl rfl;exact dF.fz hX (H:=[.list k ex 26 J.D,.aG [.int .u8 u],.list k2 LX 3 J.g]) (cs:=[lI J.s,lI J.o,.own 0,.own 2]) (rest:=[.fn f [] [.ptr 1 0 1]]) [0,2] h1 rfl (fun i hi=>by simpa[kX.kP,kX]using hi)
open Go Tw Pv cu
structure DgG(d:Dg):Prop where
 t:D8 d
 n:d.aj.length<=6000
 ord:kQ d.ay.length d.aH=true
 rk:∀i,i<d.aj.length->∀k,k<(fH d i).aA.length->d.aH.idxOf (fH d i).var+1<=Fv d.aH d.aj ((fH d i).aA.getD k 0)
 two:∀i,i<d.aj.length->2<=(fH d i).aA.length
 c:∀v∈d.aO,BX v
 dd:DgD d
 l0:bf d=0
theorem Cm{d:Dg}(hp:nO d)(h:iw d=0):DgG d:=by
 have h0:bf d=0∧qF d=true:=by
  unfold iw at h;split at h
  .rename_i c;rw[h]at c;cases c
  rename_i c;split at h
  .cases h
  rename_i c2;exact⟨by simpa using c,by simpa using c2⟩
 have ho:d.aH.length<=ah:=by have:=hp.o;unfold ah;omega
 have he:d.aO.length<=ah:=by have:=hp.e;omega
 obtain⟨t,n⟩:=jo ho he (by rw[h0.1];rfl);obtain⟨D,_⟩:=YF.1 h0.2;have hf:bY d.ay d.aH=0∧mW d=true:=by
  have hl:=h0.1;unfold bf at hl;split at hl
  .rename_i c;rw[hl]at c;cases c
  rename_i c;split at hl
  .cases hl
  split at hl
  .cases hl
  rename_i _ c2;exact⟨by simpa using c,by simpa using c2⟩
 obtain⟨bQ,ord⟩:=kE.1 hf.1;refine⟨t,n,ord,YM h0.1,fun i hi=>?_,fun v hv=>?_,D,h0.1⟩
 .have:=D.flat i hi;rcases hk:(fH d i).aA with _|⟨a,_|⟨b,r⟩⟩
  .rw[hk]at this;simp at this
  .rw[hk]at this;simp at this
  simp
 refine⟨?_,hp.r.fault v hv⟩;have hl:=hf.2;unfold mW at hl;obtain⟨k,hk,e⟩:=a9F hv;have hs:jT (bg (cLe d) d.aO.length)=true:=by revert hl;cases jT (bg (cLe d) d.aO.length)<;>simp
 have:=dK.1 hs k hk;unfold cLe at this;rw[a3r,a0D hk]at this;simpa[e]using this
theorem QX{l:List Dg}(hp:∀d∈l,nO d)(h:aY l=0):∀d∈l,DgG d∧d.ay=(l.getD 0 iL).ay∧d.aH=(l.getD 0 iL).aH:=by
 intro d hd;unfold aY at h;split at h
 .rename_i c;split at h
  .cases h
  rename_i c2;simp only[aeJ,abA,a5s]at c2;have e:=c2 d hd;unfold Au at e;split at e
  .rename_i e1;refine⟨Cm (hp d hd) ?_,by simpa using e1,by simpa using e⟩;obtain⟨k,hk,e9⟩:=a9F hd;have:=dK.1 c k hk;unfold cCk at this;rw[a3r,a0D hk,a5z,e9]at this;have h9:=hp d hd;rw[QD h9.r h9.s (by have:=h9.o;unfold ah;omega) h9.e]at this;simpa using this
  cases e
 rename_i c;obtain⟨j,_,e,_,e2⟩:=BJ (by simpa using c);rw[e2]at h;unfold cCk at e;have h':(uT (l.getD j iL)).2=0:=h;rw[h']at e;cases e
theorem aeD{D:List Dg}(h3:D.length<=3)(h0:0<D.length)(h1:∀d∈D,DgG d∧d.ay=(D.getD 0 iL).ay∧d.aH=(D.getD 0 iL).aH):jV (dB D):=by
 have Sv:D.getD 0 iL∈D:=dw h0;obtain⟨g0,_,_⟩:=h1 _ Sv;refine⟨h3,g0.t.bQ,g0.ord,fun k hk=>?_,a9j,fun c hc hg=>?_⟩
 .obtain⟨g,e1,e2⟩:=h1 (lJ D k) (dw hk);exact⟨g.t,g.n,e1,e2,g.rk,g.two⟩
 exfalso;revert hg;show ¬(0<=(List.replicate (D.getD 0 iL).ay.length (-1:Int)).getD c.toNat 0);have:=hc.1;have:=hc.2;rw[a3r,ags,a0I (show c.toNat<(D.getD 0 iL).ay.length by have:c<((D.getD 0 iL).ay.length:Int):=hc.2;omega)];decide
theorem uJ{D:List Dg}(h3:D.length<=3)(h0:0<D.length)(hp:∀d∈D,nO d)(h:aY D=0):jV (dB D):=aeD h3 h0 (QX hp h)
open Go Tw Pv cu
theorem yw{J:Jb}(hJ:jV J)(hc:∀k,k<J.D.length->∀v∈(lJ J.D k).aO,BX v){op:List V->V}(h:∀l:List V,l.length=J.D.length->(∀v∈l,BX v)->BX (op l)):qH J op:=fun t hd=>h _ (by simp[aW]) fun v hv=>by
 unfold aW at hv;obtain⟨k,hk,rfl⟩:=a1e.1 hv;have hk:=a5f.1 hk;have h3:(jQ (t.get k)).toNat<(lJ J.D k).aO.length:=by obtain⟨h1,h2⟩:=(KC hJ hd hk).2;omega
 exact hc k hk _ (dw h3)
theorem Jb.inD{D:List Dg}(hp:∀d∈D,nO d)(h:aY D=0):∀k,k<D.length->∀v∈(lJ D k).aO,BX v:=fun k hk=>(QX hp h _ (dw hk)).1.c
theorem KN{n f:Nat}(h2:2<=n)(hO:∀m,n-2<=m->Ok m qZ){D:List Dg}(h0:0<D.length)(h6:(D.getD 0 iL).ay.length<=6){k ex:Bool}:iV n (.fn 78 [] []) [.fn f [] [],.own 0] [.list k ex 26 D] (.agg [lI (dB D).s,lI (dB D).o,.own 0,.own 1,.fn f [] []]) [.list k ex 26 D,.list true true 3 (dB D).g]:=by
 have h:=amr (n:=n-2) (f:=f) (hO _ (by omega)) (hO _ (by omega)) h0 h6 (k:=k) (ex:=ex)
 rwa [show n-2+2=n by omega]at h
theorem a97{n f:Nat}(u:Int)(h2:2<=n)(hO:∀m,n-2<=m->Ok m qZ){D:List Dg}(h0:0<D.length)(h6:(D.getD 0 iL).ay.length<=6){k ex:Bool}:iV n (.fn 78 [] []) [.fn f [] [.ptr 1 0 1],.own 0] [.list k ex 26 D,.aG [.int .u8 u]] (.agg [lI (dB D).s,lI (dB D).o,.own 0,.own 2,.fn f [] [.ptr 1 0 1]]) [.list k ex 26 D,.aG [.int .u8 u],.list true true 3 (dB D).g]:=by
 have h:=ams (n:=n-2) (f:=f) u (hO _ (by omega)) (hO _ (by omega)) h0 h6 (k:=k) (ex:=ex)
 rwa [show n-2+2=n by omega]at h
theorem a98{n f:Nat}{J:Jb}(hJ:jV J){op:List V->V}(jY:qH J op)(h2:20<=n)(hO:∀m,n-20<=m->Ok m Ja)(hs:∀m,n-20<=m->∀l:List V,l.length=J.D.length->dF X0 Qp (iC m) (.fn f [] []) [lV l] [] (.agg (op l).ps) []){k ex k2 LX:Bool}:iV n (.fn 80 [] []) [.agg [lI J.s,lI J.o,.own 0,.own 1,.fn f [] []]] [.list k ex 26 J.D,.list k2 LX 3 J.g] (dA.put (qj J op)) [.gone,.gone]:=by have h6:=(jV.o2 hJ).2.1;have h7:=hJ.bQ.len;have h:=ah2 (N:=n-20) hJ jY hs hO (m:=n-1) (by omega);rw[show n-1+1=n by omega]at h;exact arY h
theorem aeE{n f:Nat}(u:Int){J:Jb}(hJ:jV J){op:List V->V}(jY:qH J op)(h2:20<=n)(hO:∀m,n-20<=m->Ok m Ja)(hs:∀m,n-20<=m->∀l:List V,l.length=J.D.length->dF X0 Qp (iC m) (.fn f [] [.ptr 0 0 1]) [lV l] [.aG [.int .u8 u]] (.agg (op l).ps) [.aG [.int .u8 u]]){k ex k2 LX:Bool}:iV n (.fn 80 [] []) [.agg [lI J.s,lI J.o,.own 0,.own 2,.fn f [] [.ptr 1 0 1]]] [.list k ex 26 J.D,.aG [.int .u8 u],.list k2 LX 3 J.g] (dA.put (qj J op)) [.gone,.aG [.int .u8 u],.gone]:=by have h6:=(jV.o2 hJ).2.1;have h7:=hJ.bQ.len;have h:=ah3 (N:=n-20) u hJ jY hs hO (m:=n-1) (by omega);rw[show n-1+1=n by omega]at h;exact arZ h
abbrev O4(a b x:Int):Bool:=if decide (x>=a)=true then decide (x<=b)else false
theorem a99{k:Nat}{x:Int}(h:(!(O4 0 (i64.wrap ((k:Int)-1)) x))=false)(hk:k<=ah):fD x k:=by
 rw[wrap_small (by unfold ah at hk;omega) (by unfold ah at hk;omega)]at h;unfold O4 at h;by_cases h1:x>=0
 .simp[h1]at h;exact⟨h1,by omega⟩
 simp[h1]at h
theorem abZ{z x:Int}(h:(!(O4 0 (i64.wrap (z-1)) x))=false)(h0:0<=z)(h1:z<=12):0<=x∧x<z:=by
 rw[wrap_small (by omega) (by omega)]at h;unfold O4 at h;by_cases h1:x>=0
 .simp[h1]at h;exact⟨h1,by omega⟩
 simp[h1]at h
def amv(d:Dg)(c g:Int):Jb:=⟨d.ay,d.aH,[d],(dB [d]).g.set c.toNat g⟩
abbrev op0(l:List V):V:=l.getD 0 V0
theorem ac0{d:Dg}(hp:nO d)(h:aY [d]=0){c g:Int}(hc:fD c d.ay.length)(hg:0<=g∧g<d.ay.getD c.toNat 0):jV (amv d c g):=by
 have hJ:=uJ (D:=[d]) (by simp) (by simp) (fun x hx=>by rw[a2U.1 hx];exact hp) h;refine⟨hJ.d3,hJ.bQ,hJ.ord,fun k hk=>have h:=hJ.dg k hk;⟨h.t,h.n,h.s,h.o,h.rk,h.two⟩,?_,fun c2 L8 h2=>?_⟩
 .show((dB [d]).g.set c.toNat g).length=_;rw[a5l];exact hJ.gl
 have hl:(dB [d]).g.length=d.ay.length:=hJ.gl;have a0:=hc.1;have a1:=hc.2;have b0:=L8.1;have b1:c2<(d.ay.length:Int):=L8.2
 change 0<=((dB [d]).g.set c.toNat g).getD c2.toNat 0 at h2
 show((dB [d]).g.set c.toNat g).getD c2.toNat 0<d.ay.getD c2.toNat 0;by_cases e:c.toNat=c2.toNat
 .rw[<-e,a3r,a1Z (by omega)];exact hg.2
 rw[a3r,a1j e,<-a3r]at h2 ⊢;exact hJ.gv c2 L8 h2
theorem amw{m:Nat}(hO:Ok m qZ){l:List V}(h:0<l.length):dF X0 Qp (iC m) (.fn 79 [] []) [lV l] [] (.agg (op0 l).ps) []:=nR.a0N hX (first:=[]) (cap:=[]) (hO 79 [lV l] (vA.put (op0 l)) [] [0<l.length] (by kernel_rfl) (fun p h9=>by rw[a2U.1 h9];exact h)) rfl rfl rfl rfl
def LY(p:Dg×Int×Int):Dg×Int:=if(aY [p.1] != 0)=true then(iL,aY [p.1])else if(!(O4 0 (i64.wrap ((p.1.ay.length:Int)-1)) p.2.1))=true then(iL,3)else if(!(O4 0 (i64.wrap (p.1.ay.getD p.2.1.toNat 0-1)) p.2.2))=true then(iL,3)else(qj (amv p.1 p.2.1 p.2.2) op0,0)
def amx:dZ aB:=bK 20 (a3 dA iA iA) (dM (a2 dA iA)) LY (fun p=>[nO p.1]) qZ
theorem a0Y:(1:Nat)<=ah:=by unfold ah;omega
theorem as4:Gd amx:=Good.LD 24 Jf Ur fun n hn hO CX p hp=>by
 have h1:nO p.1:=hp _ gQ;have h2:∀d∈[p.1],nO d:=fun x hx=>by rw[a2U.1 hx];exact h1
 have h3:0<[p.1].length∧[p.1].length<=ah:=⟨by simp,a0Y⟩;obtain⟨d,c,g⟩:=p;show nR X0 Qp _ _ _ ((dM (a2 dA iA)).put (LY (d,c,g))) _;unfold LY;have hJ:(aY [d] != 0)=false->jV (dB [d]):=fun e1=>uJ (D:=[d]) (by simp) (by simp) h2 (by simpa using e1);have hc:(aY [d] != 0)=false->(!(O4 0 (i64.wrap ((d.ay.length:Int)-1)) c))=false->fD c d.ay.length:=fun _ e2=>a99 e2 h1.s;have s1:=fun(e1:(aY [d] != 0)=false)=>KN (n:=n) (f:=79) (by omega) (fun m hm=>hO m (by omega)) (D:=[d]) (by simp) (hJ e1).bQ.len (k:=true) (ex:=true);have s2:=fun(e1:(aY [d] != 0)=false) (e2:(!(O4 0 (i64.wrap ((d.ay.length:Int)-1)) c))=false) (e3:(!(O4 0 (i64.wrap (d.ay.getD c.toNat 0-1)) g))=false)=>
  have hz:=(hJ e1).bQ.sz (d.ay.getD c.toNat 0) (bU (show c.toNat<d.ay.length by obtain⟨a,b⟩:=hc e1 e2;omega));have hR:=ac0 h1 (by simpa using e1) (hc e1 e2) (abZ e3 (Int.le_trans (by decide) hz.1) hz.2)
  a98 (n:=n) (f:=79) hR (yw hR (Jb.inD h2 (show aY [d]=0 by simpa using e1)) fun l hl hv=>hv _ (dw (by rw[hl];exact ahZ))) (by omega) (fun m hm=>CX m (by omega)) (fun m hm l hl=>amw (hO m (by omega)) (by rw[hl];exact ahZ)) (k:=true) (ex:=true) (k2:=true) (LX:=true)
 have i2:=fun(e1:(aY [d] != 0)=false) (e2:(!(O4 0 (i64.wrap ((d.ay.length:Int)-1)) c))=false)=>show fD c (dB [d]).g.length by rw[(hJ e1).gl];exact hc e1 e2
 exact aI (hO n (by omega)) (.o h2 (.o h3 (.sh (fun _=>.rn (.dJ [.agg [.nil .aP,.nil .aP,.nil .aP,.nil .aP,.int .i64 0],.int .i64 (aY [d])]) rfl) fun e1=>.sh (fun _=>.rn (.dJ [.agg [.nil .aP,.nil .aP,.nil .aP,.nil .aP,.int .i64 0],.int .i64 3]) rfl) fun e2=>.o (hc e1 e2) (.sh (fun _=>.rn (.dJ [.agg [.nil .aP,.nil .aP,.nil .aP,.nil .aP,.int .i64 0],.int .i64 3]) rfl) fun e3=>.fr [1] (s1 e1) (.o (i2 e1 e2) (.fr [1,2] (s2 e1 e2 e3) .rr))))))
open Go Tw Pv cu
def tY(k:Int):Bool:=decide (7<=k∧k<=16)
def wE(k:Int):Bool:=decide (k=5∨k=6)
def jR(k:Int)(a b:V):V×Int:=if tY k=true then IW k a b else(V0,2)
def jw(k:Int)(a:V):V×Int:=if wE k=true then IV k a else(V0,2)
theorem bne{a b:Int}(h:a≠b):(a==b)=false:=by simpa using h
def a9a:dZ aB:=VI 162 (a1 uA) (fun _=>.nil .fn) (fun _=>[]) (fun p=>[wE p=false]) amx
theorem ahf:Gd a9a:=as4.Q7 0 fun n _ hO p hp=>by
 have h:¬(p=5∨p=6):=by simpa[wE]using hp _ gQ
 exact xY hX (hO n (by omega)) (by kernel_rfl) (.b (bne (show p≠5 by omega)) (.b (bne (show p≠6 by omega)) .er))
def a9b:dZ aB:=VI 101 (a1 uA) (fun _=>.nil .fn) (fun _=>[]) (fun p=>[tY p=false]) a9a
theorem ahg:Gd a9b:=ahf.Q7 0 fun n _ hO p hp=>by
 have h:¬(7<=p∧p<=16):=by simpa[tY]using hp _ gQ
 exact xY hX (hO n (by omega)) (by kernel_rfl) (.b (bne (show p≠7 by omega)) (.b (bne (show p≠8 by omega)) (.b (bne (show p≠9 by omega)) (.b (bne (show p≠10 by omega)) (.b (bne (show p≠11 by omega)) (.b (bne (show p≠12 by omega)) (.b (bne (show p≠13 by omega)) (.b (bne (show p≠14 by omega)) .er))))))))
def a9c:dZ aB:=bK 110 (a2 uA vA) (dM (a2 vA iA)) (fun p=>jw p.1 p.2) np a9b
theorem ahh:Gd a9c:=ahg.deep 1 fun n hn hO p hp=>by
 obtain⟨k,a⟩:=p;cases h:wE k
 .show nR X0 Qp _ _ _ ((dM (a2 vA iA)).put (jw k a)) _;unfold jw;rw[h];exact aI (hO n (by omega)) (.o h (.b (rfl:true=true) .rr))
 .show nR X0 Qp _ _ _ ((dM (a2 vA iA)).put (jw k a)) _;unfold jw;rw[a0I h];exact hO (n+1) (by omega) 110 ((a2 uA vA).put (k,a)) ((dM (a2 vA iA)).put (IV k a)) [] [k=5∨k=6] (by kernel_rfl) (fun q hq=>by rw[a2U.1 hq];simpa[wE]using h)
def Ux:dZ aB:=bK 45 (a3 uA vA vA) (dM (a2 vA iA)) (fun p=>jR p.1 p.2.1 p.2.2) np a9c
theorem a3c:Gd Ux:=ahh.deep 1 fun n hn hO p hp=>by
 obtain⟨k,a,b⟩:=p;cases h:tY k
 .have h9:¬(7<=k∧k<=16):=by simpa[tY]using h
  show nR X0 Qp _ _ _ ((dM (a2 vA iA)).put (jR k a b)) _;unfold jR;rw[h];exact aI (hO n (by omega)) (.b (bne (show k≠15 by omega)) (.b (bne (show k≠16 by omega)) (.o h (.b (rfl:true=true) .rr))))
 .show nR X0 Qp _ _ _ ((dM (a2 vA iA)).put (jR k a b)) _;unfold jR;rw[a0I h];exact hO (n+1) (by omega) 45 ((a3 uA vA vA).put (k,a,b)) ((dM (a2 vA iA)).put (IW k a b)) [] [7<=k∧k<=16] (by kernel_rfl) (fun q hq=>by rw[a2U.1 hq];simpa[tY]using h)
open Go Tw Pv cu
theorem jB{v:V}:BX v↔kD v:=by
 unfold BX vOk mD;constructor
 .rintro⟨h,h0⟩;split at h
  .rename_i e;split at h
   .rename_i e2;simp at e e2 h;exact⟨h0,by omega,fun _=>⟨e2,h⟩,fun hz=>absurd e hz⟩
   cases h
  split at h
  .rename_i e e2;simp at e e2 h;exact⟨h0,e2,fun hz=>absurd hz e,fun _=>h⟩
  cases h
 intro h;refine⟨?_,h.f0⟩;by_cases e:v.f=0
 .rw[a0I (by simpa using e),a0I (by simpa using(h.n e).1)];simpa using(h.n e).2
 rw[a0F (by simpa using e),a0I (by simpa using h.f1)];simpa using h.z e
theorem ac1{k:Int}{a b:V}:(IW k a b).1=gX k a b:=by
 unfold IW gX
 repeat' split
 all_goals rfl
theorem ac2{k:Int}{a:V}:(IV k a).1=GI k a:=by
 unfold IV GI
 repeat' split
 all_goals rfl
theorem WO{k:Int}(h:tY k=true){a b:V}(ha:BX a)(hb:BX b):BX (jR k a b).1∧(jR k a b).1=bF k a b:=by have:=agc (by simpa[tY]using h) (jB.1 ha) (jB.1 hb);unfold jR;rw[a0I h,ac1,this.1];exact⟨jB.2 this.2,rfl⟩
theorem WQ{k:Int}(h:wE k=true){a:V}(ha:BX a):BX (jw k a).1∧(jw k a).1=o7 k a:=by have:=agd (show k=5∨k=6 by simpa[wE]using h) (jB.1 ha);unfold jw;rw[a0I h,ac2,this.1];exact⟨jB.2 this.2,rfl⟩
theorem ac3{k:Int}{a b:V}(h:((jR k a b).2 != 0)=false):tY k=true:=by
 unfold jR at h;cases e:tY k
 .rw[e]at h;simp at h
 rfl
theorem ac4{k:Int}{a:V}(h:((jw k a).2 != 0)=false):wE k=true:=by
 unfold jw at h;cases e:wE k
 .rw[e]at h;simp at h
 rfl
theorem O5:BX iG:=⟨by decide,by decide⟩
theorem ahi:BX V0:=⟨by decide,by decide⟩
abbrev KO(u:Int)(l:List V):V:=(jw u (l.getD 0 V0)).1
abbrev MS(u:Int)(l:List V):V:=(jR u (l.getD 0 V0) (l.getD 1 V0)).1
abbrev RZ(l:List V):V:=(iI (l.getD 0 V0) (l.getD 1 V0) (l.getD 2 V0)).1
theorem amy{m:Nat}{u:Int}(h1:1<=m)(hO:Ok (m-1) Ux){l:List V}(h:l.length=1):dF X0 Qp (iC m) (.fn 111 [] [.ptr 0 0 1]) [lV l] [.aG [.int .u8 u]] (.agg (KO u l).ps) [.aG [.int .u8 u]]:=by obtain⟨m,rfl⟩:∃k,m=k+1:=⟨m-1,by omega⟩;exact fQ hO (first:=[]) (cap:=[.ptr 0 0 1]) (.o (aC (by omega:0<l.length)) .er)
theorem amA{m:Nat}{u:Int}(h1:1<=m)(hO:Ok (m-1) Ux){l:List V}(h:l.length=2):dF X0 Qp (iC m) (.fn 112 [] [.ptr 0 0 1]) [lV l] [.aG [.int .u8 u]] (.agg (MS u l).ps) [.aG [.int .u8 u]]:=by obtain⟨m,rfl⟩:∃k,m=k+1:=⟨m-1,by omega⟩;exact fQ hO (first:=[]) (cap:=[.ptr 0 0 1]) (.o (aC (by omega:0<l.length)) (.o (aC (by omega:1<l.length)) .er))
theorem as5{m:Nat}(h1:1<=m)(hO:Ok (m-1) Ux){l:List V}(h:l.length=3):dF X0 Qp (iC m) (.fn 113 [] []) [lV l] [] (.agg (RZ l).ps) []:=by obtain⟨m,rfl⟩:∃k,m=k+1:=⟨m-1,by omega⟩;exact fQ hO (first:=[]) (cap:=[]) (.o (aC (by omega:0<l.length)) (.o (aC (by omega:1<l.length)) (.o (aC (by omega:2<l.length)) .er)))
theorem amB{m:Nat}(hO:Ok m Ux){l:List V}(h:l.length<=ah):dF X0 Qp (iC m) (.fn 117 [] []) [lV l] [] (.agg (oZ l).ps) []:=nR.a0N hX (first:=[]) (cap:=[]) (hO 117 [lV l] (vA.put (oZ l)) [] [l.length<=ah] (by kernel_rfl) (fun p h9=>by rw[a2U.1 h9];exact h)) rfl rfl rfl rfl
theorem ac5(l:List V):BX (oZ l):=by unfold oZ;split;exact O5;exact ahi
theorem QY{a b c:V}(ha:BX a)(hb:BX b)(hc:BX c):BX (iI a b c).1:=by have:=U9 (jB.1 ha) (jB.1 hb) (jB.1 hc);rw[this.1];exact jB.2 this.2
def uK(p:Int×Dg):Dg×Int:=if(aY [p.2] != 0)=true then(iL,aY [p.2])else if((jw p.1 iG).2 != 0)=true then(iL,(jw p.1 iG).2)else(qj (dB [p.2]) (KO p.1),0)
def kJ(p:Int×Dg×Dg):Dg×Int:=if(aY [p.2.1,p.2.2] != 0)=true then(iL,aY [p.2.1,p.2.2])else if((jR p.1 iG iG).2 != 0)=true then(iL,(jR p.1 iG iG).2)else(qj (dB [p.2.1,p.2.2]) (MS p.1),0)
def CY(p:Dg×Dg×Dg):Dg×Int:=if(aY [p.1,p.2.1,p.2.2] != 0)=true then(iL,aY [p.1,p.2.1,p.2.2])else(qj (dB [p.1,p.2.1,p.2.2]) RZ,0)
def AO(p:Dg):Dg×Int:=if(aY [p] != 0)=true then(iL,aY [p])else(qj (dB [p]) oZ,0)
theorem Z8{P:Dg->Prop}{a b:Dg}(ha:P a)(hb:P b):∀d∈[a,b],P d:=fun x hx=>by
 rcases a2x.1 hx with rfl|hx
 .exact ha
 .rw[a2U.1 hx];exact hb
theorem ac6{P:Dg->Prop}{a b c:Dg}(ha:P a)(hb:P b)(hc:P c):∀d∈[a,b,c],P d:=fun x hx=>by
 rcases a2x.1 hx with rfl|hx
 .exact ha
 .exact Z8 hb hc x hx
abbrev rnE(e:Int):PV aB:=.dJ [.agg [.nil .aP,.nil .aP,.nil .aP,.nil .aP,.int .i64 0],.int .i64 e]
abbrev HcA(D:List Dg)(u:Int)(g:LI0):List (PB aB):=[.list true true 26 D,.cells [.int .u8 u],.list true true 3 g]
abbrev HcB(u:Int):List (PB aB):=[.gone,.cells [.int .u8 u],.gone]
theorem rE(e:Int):Fp (Γ:=X0.Γ) (Is (X:=X0) (P:=Qp) (dM (a2 dA iA)) (iL,e)) .n (.ret (some (rnE e))):=by have h:(dM (a2 dA iA)).get (rnE e)=some (iL,e):=rfl;exact Fp.rn (X:=X0) (P:=Qp) (rnE e) h
def amC:dZ aB:=bK 61 (a2 uA dA) (dM (a2 dA iA)) uK (fun p=>[nO p.2]) Ux
theorem as7:Gd amC:=Good.a7w 24 a3c Ur Jf fun n hn hO CX hO3 p hp=>by
 obtain⟨u,d⟩:=p;have h1:∀x∈[d],nO x:=fun x hx=>by rw[a2U.1 hx];exact hp _ gQ
 have h3:0<[d].length∧[d].length<=ah:=⟨by simp,a0Y⟩;have hJ:(aY [d] != 0)=false->jV (dB [d]):=fun e1=>uJ (D:=[d]) (by simp) (by simp) h1 (by simpa using e1);have s1:=fun(e1:(aY [d] != 0)=false)=>a97 (n:=n) (f:=111) u (by omega) (fun m hm=>hO3 m (by omega)) (D:=[d]) (by simp) (hJ e1).bQ.len (k:=true) (ex:=true);have s2:=fun(e1:(aY [d] != 0)=false) (e2:((jw u iG).2 != 0)=false)=>aeE (n:=n) (f:=111) u (hJ e1) (op:=KO u) (yw (hJ e1) (Jb.inD h1 (show aY [d]=0 by simpa using e1)) fun l hl hv=>(WQ (ac4 e2) (hv _ (dw (by rw[hl];exact ahZ)))).1) (by omega) (fun m hm=>CX m (by omega)) (fun m hm l hl=>amy (by omega) (hO _ (by omega)) hl) (k:=true) (ex:=true) (k2:=true) (LX:=true);show nR X0 Qp _ _ _ ((dM (a2 dA iA)).put (if(aY [d] != 0)=true then(iL,aY [d])else if((jw u iG).2 != 0)=true then(iL,(jw u iG).2)else(qj (dB [d]) (KO u),0))) _;exact aI (hO n (by omega)) (.o h1 (.o h3 (.sh (fun _=>rE _) fun e1=>.sh (fun _=>rE _) fun e2=>.Pm (H2:=HcA [d] u (dB [d]).g) [2,0] [1] (s1 e1) (.Pm (H2:=HcB u) [2,0,3] [1] (s2 e1 e2) .rr))))
def amD:dZ aB:=bK 62 (a3 uA dA dA) (dM (a2 dA iA)) kJ (fun p=>[nO p.2.1,nO p.2.2]) amC
theorem ac7:(2:Nat)<=ah:=by unfold ah;omega
theorem ahj:(3:Nat)<=ah:=by unfold ah;omega
theorem as8:Gd amD:=Good.a7H 24 as7 Ur Jf a3c fun n hn hO CX hO3 hO4 p hp=>by obtain⟨u,d,e⟩:=p;have h1:∀x∈[d,e],nO x:=Z8 (hp _ gQ) (hp _ vX);have h3:0<[d,e].length∧[d,e].length<=ah:=⟨by simp,ac7⟩;have hJ:(aY [d,e] != 0)=false->jV (dB [d,e]):=fun e1=>uJ (D:=[d,e]) (by simp) (by simp) h1 (by simpa using e1);have s1:=fun(e1:(aY [d,e] != 0)=false)=>a97 (n:=n) (f:=112) u (by omega) (fun m hm=>hO3 m (by omega)) (D:=[d,e]) (by simp) (hJ e1).bQ.len (k:=true) (ex:=true);have s2:=fun(e1:(aY [d,e] != 0)=false) (e2:((jR u iG iG).2 != 0)=false)=>aeE (n:=n) (f:=112) u (hJ e1) (op:=MS u) (yw (hJ e1) (Jb.inD h1 (show aY [d,e]=0 by simpa using e1)) fun l hl hv=>(WO (ac3 e2) (hv _ (dw (show 0<l.length by rw[hl];exact Nat.zero_lt_two))) (hv _ (dw (show 1<l.length by rw[hl];exact Nat.one_lt_two)))).1) (by omega) (fun m hm=>CX m (by omega)) (fun m hm l hl=>amA (by omega) (hO4 _ (by omega)) hl) (k:=true) (ex:=true) (k2:=true) (LX:=true);show nR X0 Qp _ _ _ ((dM (a2 dA iA)).put (if(aY [d,e] != 0)=true then(iL,aY [d,e])else if((jR u iG iG).2 != 0)=true then(iL,(jR u iG iG).2)else(qj (dB [d,e]) (MS u),0))) _;exact aI (hO n (by omega)) (.o h1 (.o h3 (.sh (fun _=>rE _) fun e1=>.sh (fun _=>rE _) fun e2=>.Pm (H2:=HcA [d,e] u (dB [d,e]).g) [2,0] [1] (s1 e1) (.Pm (H2:=HcB u) [2,0,3] [1] (s2 e1 e2) .rr))))
def amF:dZ aB:=bK 63 (a3 dA dA dA) (dM (a2 dA iA)) CY (fun p=>[nO p.1,nO p.2.1,nO p.2.2]) amD
theorem as9:Gd amF:=Good.a7H 24 as8 Ur Jf a3c fun n hn hO CX hO3 hO4 p hp=>by obtain⟨a,b,c⟩:=p;have h1:∀x∈[a,b,c],nO x:=ac6 (hp _ gQ) (hp _ vX) (hp _ hh2);have h3:0<[a,b,c].length∧[a,b,c].length<=ah:=⟨by simp,ahj⟩;have hJ:(aY [a,b,c] != 0)=false->jV (dB [a,b,c]):=fun e1=>uJ (D:=[a,b,c]) (by simp) (by simp) h1 (by simpa using e1);have s1:=fun(e1:(aY [a,b,c] != 0)=false)=>KN (n:=n) (f:=113) (by omega) (fun m hm=>hO3 m (by omega)) (D:=[a,b,c]) (by simp) (hJ e1).bQ.len (k:=true) (ex:=true);have s2:=fun(e1:(aY [a,b,c] != 0)=false)=>a98 (n:=n) (f:=113) (hJ e1) (op:=RZ) (yw (hJ e1) (Jb.inD h1 (show aY [a,b,c]=0 by simpa using e1)) fun l hl hv=>QY (hv _ (dw (show 0<l.length by rw[hl];exact Nat.succ_pos 2))) (hv _ (dw (show 1<l.length by rw[hl];exact Nat.succ_lt_succ (Nat.succ_pos 1)))) (hv _ (dw (show 2<l.length by rw[hl];exact Nat.lt_succ_self 2)))) (by omega) (fun m hm=>CX m (by omega)) (fun m hm l hl=>as5 (by omega) (hO4 _ (by omega)) hl) (k:=true) (ex:=true) (k2:=true) (LX:=true);show nR X0 Qp _ _ _ ((dM (a2 dA iA)).put (if(aY [a,b,c] != 0)=true then(iL,aY [a,b,c])else(qj (dB [a,b,c]) RZ,0))) _;exact aI (hO n (by omega)) (.o h1 (.o h3 (.sh (fun _=>rE _) fun e1=>.fr [1] (s1 e1) (.fr [1,2] (s2 e1) .rr))))
def amG:dZ aB:=bK 67 (a1 dA) (dM (a2 dA iA)) AO (fun p=>[nO p]) amF
theorem asa:Gd amG:=Good.a7H 24 as9 Ur Jf a3c fun n hn hO CX hO3 hO4 d hp=>by
 have h1:∀x∈[d],nO x:=fun x hx=>by rw[a2U.1 hx];exact hp _ gQ
 have h3:0<[d].length∧[d].length<=ah:=⟨by simp,a0Y⟩;have hJ:(aY [d] != 0)=false->jV (dB [d]):=fun e1=>uJ (D:=[d]) (by simp) (by simp) h1 (by simpa using e1);have s1:=fun(e1:(aY [d] != 0)=false)=>KN (n:=n) (f:=117) (by omega) (fun m hm=>hO3 m (by omega)) (D:=[d]) (by simp) (hJ e1).bQ.len (k:=true) (ex:=true);have s2:=fun(e1:(aY [d] != 0)=false)=>a98 (n:=n) (f:=117) (hJ e1) (op:=oZ) (fun t hd=>ac5 _) (by omega) (fun m hm=>CX m (by omega)) (fun m hm l hl=>amB (hO4 m (by omega)) (by rw[hl];exact a0Y)) (k:=true) (ex:=true) (k2:=true) (LX:=true);show nR X0 Qp _ _ _ ((dM (a2 dA iA)).put (if(aY [d] != 0)=true then(iL,aY [d])else(qj (dB [d]) oZ,0))) _;exact aI (hO n (by omega)) (.o h1 (.o h3 (.sh (fun _=>rE _) fun e1=>.fr [1] (s1 e1) (.fr [1,2] (s2 e1) .rr))))
open Go Tw Pv cu
def pq(v:V):Int:=if(!(sO v))=true then 2 else 0
def Z9:dZ aB:=bK 106 (a1 vA) iA (fun p=>pq p) np amG
theorem aeF:Gd Z9:=asa.add fun n hO p hp=>aI hO (.ss .rr .rr)
theorem a9d{n f:Nat}{J:Jb}{k ex k2 LX:Bool}(h:iV n (.fn 87 [] []) [.agg (J.ps (.fn f [] []))] [] (.map 0) [.map (kV.im (fG J))]):iV n (.fn 87 [] []) [.agg [lI J.s,lI J.o,.own 0,.own 1,.fn f [] []]] [.list k ex 26 J.D,.list k2 LX 3 J.g] (.map 2) [.gone,.gone,.map (kV.im (fG J))]:=by have h1:=dF.frame hX (ks:=[]) (H':=[.gone,.gone]) (Hp:=[]) (PZ:=[.map (kV.im (fG J))]) (v':=.map 2) (fv':=.fn 87 [] []) (xs':=[.agg (J.ps (.fn f [] []))]) h (by decide) rfl rfl rfl rfl rfl rfl rfl;exact dF.fz hX (H:=[.list k ex 26 J.D,.list k2 LX 3 J.g]) (cs:=[lI J.s,lI J.o,.own 0,.own 1]) (rest:=[.fn f [] []]) [0,1] h1 rfl (fun i hi=>by simpa[kX.kP,kX]using hi)
open Go Tw Pv cu
def look(t:List (V×Int))(v:V):Int:=((t.find? fun e=>decide (e.1=v)).map (·.2)).getD 0
theorem Ji{t:List (V×Int)}(hn:(t.map (·.1)).Nodup)(v:V):(qO X0 Qp 39 (kV.im t) (kV.tv v) (.int .i64 (look t v)))∨(look t v=0∧oJ X0 Qp 39 (kV.im t) (kV.tv v)):=by
 by_cases h:v∈t.map (·.1)
 .obtain⟨e,he,hv⟩:=a1e.1 h;obtain⟨e2,h2⟩:=a5N.1 (List.find?_isSome (p:=fun e:V×Int=>decide (e.1=v)) |>.2 ⟨e,he,show decide (e.1=v)=true by simpa using hv⟩);have h3:e2.1=v:=by simpa using List.find?_some h2
  refine .inl (kV.found (by rw[AL];exact hn) (a1e.2 ⟨e2,List.mem_of_find?_eq_some h2,?_⟩));unfold look;rw[h2,h3];rfl
 refine .inr ⟨?_,kV.fresh (by rw[AL];exact h)⟩;unfold look;rw[afq.2 fun e he=>by simp only[a1n];intro hv;exact h (a1e.2 ⟨e,he,hv⟩)]
 rfl
abbrev amH:PV aB:=.agg [.nil .aP,.nil .aP,.nil .aP,.nil .aP,.nil .fn]
abbrev a9e(J:Jb)(f:Nat)(a b:Nat):PV aB:=.agg [lI J.s,lI J.o,.own a,.own b,.fn f [] []]
abbrev HO(D:List Dg)(g:LI0):List (PB aB):=[.list true true 26 D,.list true true 3 g]
theorem a0Z{P:Dg->Prop}{d:Dg}(h:P d):∀x∈[d],P x:=fun x hx=>by rw[a2U.1 hx];exact h
theorem amI{n:Nat}(hO:Ok n Z9){d:Dg}{v:V}(hp:nO d)(e1:(aY [d] != 0)=true):iV (n+1) (.fn 86 [] []) [.agg d.ps,.agg v.ps] [] (.dJ [amH,.int .i64 (aY [d])]) []:=by have h1:∀x∈[d],nO x:=a0Z hp;have h3:0<[d].length∧[d].length<=ah:=⟨by simp,a0Y⟩;exact dF.drop hX (nK hX hO (first:=[]) (cap:=[]) (H1:=[.list true true 26 [d]]) (by kernel_rfl) (.o h1 (.o h3 (.b e1 .er)))) rfl rfl
theorem amJ{n:Nat}(hO:Ok n Z9){d:Dg}{v:V}(hp:nO d)(e1:(aY [d] != 0)=false)(e2:(pq v != 0)=true):iV (n+1) (.fn 86 [] []) [.agg d.ps,.agg v.ps] [] (.dJ [amH,.int .i64 4]) []:=by have h1:∀x∈[d],nO x:=a0Z hp;have h3:0<[d].length∧[d].length<=ah:=⟨by simp,a0Y⟩;exact dF.drop hX (nK hX hO (first:=[]) (cap:=[]) (H1:=[.list true true 26 [d]]) (by kernel_rfl) (.o h1 (.o h3 (.b e1 (.b e2 .er))))) rfl rfl
theorem amK{n:Nat}(h2:2<=n)(BO:Ok n Z9)(hO:∀m,n-2<=m->Ok m qZ){d:Dg}{v:V}(hp:nO d)(e1:(aY [d] != 0)=false)(e2:(pq v != 0)=false):iV (n+1) (.fn 86 [] []) [.agg d.ps,.agg v.ps] [] (.dJ [a9e (dB [d]) 79 0 1,.int .i64 0]) (HO [d] (dB [d]).g):=by have h1:∀x∈[d],nO x:=a0Z hp;have h3:0<[d].length∧[d].length<=ah:=⟨by simp,a0Y⟩;have hJ:jV (dB [d]):=uJ (D:=[d]) (by simp) (by simp) h1 (by simpa using e1);have s1:=KN (n:=n) (f:=79) h2 hO (D:=[d]) (by simp) hJ.bQ.len (k:=true) (ex:=true);have h:iV (n+1) (.fn 86 [] []) [.agg d.ps,.agg v.ps] [] (.dJ [a9e (dB [d]) 79 1 2,.int .i64 0]) [.list true true 26 [d],.list true true 26 [d],.list true true 3 (dB [d]).g]:=fQ BO (first:=[]) (cap:=[]) (.o h1 (.o h3 (.b e1 (.b e2 (.fr [1] s1 .er)))));exact dF.gs hX h [.gc [1,2]] rfl
theorem CB(J:Jb):((fG J).map (·.1)).Nodup:=(((qN YZ (BM (vV J))).map (·.1)).nodup_iff).2 (Gz (vV J)).1
theorem Za(φ:V->Int)(J:Jb):dL φ (fG J)=eH φ (vV J):=by unfold fG;rw[a4i φ (qN YZ (BM (vV J))),U0]
theorem Zb{α:Type}:∀l:List α,eH (fun _=>1) l=(l.length:Int)
 | []=>rfl
 |a::l=>by have:=Zb l;simp only[eH,a4O];omega
theorem Uy{J:Jb}(hJ:jV J):KJ (fG J):=by
 refine⟨fun e he=>(Gz (vV J)).2 e ((qN YZ (BM (vV J))).mem_iff.1 he),?_⟩;rw[Za,Zb];have h1:(vV J).length<=(YQ J).length:=by unfold vV a0V;rw[a5c];exact a5M (a9S _ _) (by rw[a5c];exact a15 _)
 have h2:(YQ J).length<=E8 J.s:=a5M (a9S _ _) (by rw[a5c,a6T];exact a15 _);have h3:=hJ.bQ.a4d;have h4:=hJ.bQ.many;omega
def WR(p:Dg×V):Int×Int:=if(aY [p.1] != 0)=true then(0,aY [p.1])else if(pq p.2 != 0)=true then(0,4)else(look (fG (dB [p.1])) p.2,0)
def ahk:dZ aB:=bK 27 (a2 dA vA) (dM (a2 iA iA)) WR (fun p=>[nO p.1]) Z9
theorem asb:Gd ahk:=Good.LD 24 aeF Jf fun n hn hO CX p hp=>by
 obtain⟨d,v⟩:=p;have h1:nO d:=hp _ gQ;obtain⟨n,rfl⟩:∃k,n=k+1:=⟨n-1,by omega⟩;have BO:=hO (n+1) (by omega);cases e1:(aY [d] != 0)
 .cases e2:(pq v != 0)
  .have s1:=amK (n:=n) (by omega) (hO n (by omega)) (fun m hm=>CX m (by omega)) h1 e1 e2;have hJ:jV (dB [d]):=uJ (D:=[d]) (by simp) (by simp) (a0Z h1) (by simpa using e1);have s2:=a9d (k:=true) (ex:=true) (k2:=true) (LX:=true) (QS hJ (n:=n-1) (f:=79) (CX _ (by omega)) (show 0<[d].length by simp));rw[show n-1+2=n+1 by omega]at s2;show nR X0 Qp _ _ _ ((dM (a2 iA iA)).put (if(aY [d] != 0)=true then(0,aY [d])else if(pq v != 0)=true then(0,4)else(look (fG (dB [d])) v,0))) _;rw[e1,e2];rcases Ji (CB (dB [d])) v with hf|⟨hz,hf⟩
   .exact aI BO (.fr [] s1 (.b (rfl:((0:Int) != 0)=false) (.fr [0,1] s2 (.c (.int .i64 (look (fG (dB [d])) v)) [] hf .rr))))
   .rw[hz];exact aI BO (.fr [] s1 (.b (rfl:((0:Int) != 0)=false) (.fr [0,1] s2 (.a .calm (.o hf .rr)))))
  .have s1:=amJ (n:=n) (hO n (by omega)) h1 e1 e2;show nR X0 Qp _ _ _ ((dM (a2 iA iA)).put (if(aY [d] != 0)=true then(0,aY [d])else if(pq v != 0)=true then(0,4)else(look (fG (dB [d])) v,0))) _;rw[e1,e2];exact aI BO (.fr [] s1 (.b (rfl:((4:Int) != 0)=true) .rr))
 .have s1:=amI (n:=n) (v:=v) (hO n (by omega)) h1 e1;show nR X0 Qp _ _ _ ((dM (a2 iA iA)).put (if(aY [d] != 0)=true then(0,aY [d])else if(pq v != 0)=true then(0,4)else(look (fG (dB [d])) v,0))) _;rw[a0I e1];exact aI BO (.fr [] s1 (.b e1 .rr))
open Go Tw Pv cu
structure An where
 q:Int
 none:Bool
 yes:Bool
 n:Int
 lo:Int
 hi:Int
 fault:Bool
 set:LI0
deriving DecidableEq
abbrev An0:An:=⟨0,false,false,0,0,0,false,[]⟩
def amL:Ar X0 Qp Unit where
 put _:=.nil .aP
 get v:=match v with
  |.nil .aP=>some ()
  |_=>none
 ok:=by
  intro v a hg A m h x hv;split at hg
  .exact hv
  .cases hg
def WZ:Arg An:=afQ (a7n (MJ uA (MJ tA (MJ tA (MJ iA (MJ iA (a4 iA tA qQ amL)))))))
 (fun p=>⟨p.1,p.2.1,p.2.2.1,p.2.2.2.1,p.2.2.2.2.1,p.2.2.2.2.2.1,p.2.2.2.2.2.2.1,p.2.2.2.2.2.2.2.1⟩) (fun a=>(a.q,a.none,a.yes,a.n,a.lo,a.hi,a.fault,a.set,())) fun _=>rfl
abbrev anW(a:An)(s:PV aB):PV aB:=.agg [.int .u8 a.q,.bool a.none,.bool a.yes,.int .i64 a.n,.int .i64 a.lo,.int .i64 a.hi,.bool a.fault,s,.nil .aP]
theorem rA(a:An)(h:a.set=[])(e:Int):Fp (Γ:=X0.Γ) (Is (X:=X0) (P:=Qp) (dM (a2 WZ iA)) (a,e)) .n (.ret (some (.dJ [anW a (.nil .aP),.int .i64 e]))):=by obtain⟨q,no,y,n,l,hi,f,s⟩:=a;cases h;have h:(dM (a2 WZ iA)).get (.dJ [anW ⟨q,no,y,n,l,hi,f,[]⟩ (.nil .aP),.int .i64 e])=some (⟨q,no,y,n,l,hi,f,[]⟩,e):=rfl;exact Fp.rn (X:=X0) (P:=Qp) _ h
def a9f(q:Int)(t:List (V×Int)):An×Int:=
 if(q==1)=true then(⟨q,false,look t iG==dL (fun _=>1) t,0,0,0,false,[]⟩,0)
 else if(q==2)=true then(⟨q,false,decide (look t iG>0),0,0,0,false,[]⟩,0)
 else if(q==3)=true then(⟨q,false,false,look t iG,0,0,false,[]⟩,0)
 else if(q==4)=true then(if mZ t=[]then(⟨q,true,false,0,0,0,vI t,[]⟩,0)else(⟨q,((mZ t).length:Int)==0,false,0,(mZ t).getD 0 0,(mZ t).getD (i64.wrap ((mZ t).length-1)).toNat 0,vI t,[]⟩,0))
 else(⟨q,false,false,0,0,0,vI t,mZ t⟩,0)
def GX(q:Int)(t:List (V×Int)):An×Int:=if t=[]then(⟨q,true,false,0,0,0,false,[]⟩,0)else a9f q t
def a3d(p:Int×Dg×Dg):An×Int:=if(aY [p.2.1,p.2.2] != 0)=true then(An0,aY [p.2.1,p.2.2])else if decide (p.1<1)=true then(An0,2)else if decide (p.1>5)=true then(An0,2)else GX p.1 (fG (dB [p.2.1,p.2.2]))
def a9g:dZ aB:=bK 33 (a3 uA dA dA) (dM (a2 WZ iA)) a3d (fun p=>[nO p.2.1,nO p.2.2]) ahk
theorem ahl{t:List (V×Int)}(h:KJ t):(mZ t).length<=2000:=by unfold mZ;rw[show ∀l:LI0,(iq l).length=l.length from fun l=>(aeT l _).length_eq,a5c];exact a5M (a9S _ _) h.len
abbrev HMt(t:List (V×Int)):List (PB aB):=[.map (kV.im t)]
abbrev HMn(t:List (V×Int)):List (PB aB):=[.map (kV.im t),.list false false 3 (mZ t)]
section
variable {n:Nat} {q:Int} {d e:Dg} (hO:Ok n ahk) (h1:∀ x∈[d,e],nO x) (e1:(aY [d,e] != 0)=false) (e2:decide (q<1)=false) (e3:decide (q>5)=false) {t:List (V×Int)} (ht:KJ t)
 (s1:dF X0 Tryz.prog (iC n) (.fn 78 [] []) [.fn 79 [] [],.own 0] [.list true true 26 [d,e]] (a9e (dB [d,e]) 79 0 1) (HO [d,e] (dB [d,e]).g))
 (s2:dF X0 Tryz.prog (iC n) (.fn 87 [] []) [a9e (dB [d,e]) 79 0 1] (HO [d,e] (dB [d,e]).g) (.map 2) [.gone,.gone,.map (kV.im t)])
 (s3:dF X0 Tryz.prog (iC n) (.fn 90 [] []) [.map 0] [.iP (kV.im t)] (.int .i64 (dL (fun _=>1) t)) [.iP (kV.im t)])
 (s4:mZ t=[]->dF X0 Tryz.prog (iC n) (.fn 88 [] []) [.map 0] [.iP (kV.im t)] (.dJ [.nil .aP,.bool (vI t)]) [.iP (kV.im t)])
 (s5:mZ t≠[]->dF X0 Tryz.prog (iC n) (.fn 88 [] []) [.map 0] [.iP (kV.im t)] (.dJ [.own 1,.bool (vI t)]) [.iP (kV.im t),.list false false 3 (mZ t)])
include hO h1 e1 e2 e3 s1 s2
theorem ac8(h:t=[]):nR X0 Qp (iC (n+1)) 33 ((a3 uA dA dA).put (q,d,e)) ((dM (a2 WZ iA)).put (⟨q,true,false,0,0,0,false,[]⟩,0)) []:=by subst h;have h3:0<[d,e].length∧[d,e].length<=ah:=⟨by simp,ac7⟩;exact aI hO (.o h1 (.o h3 (.b e1 (.b e2 (.b e3 (.fr [1] s1 (.fr [1,2] s2 (.b (show(((kV.im ([]:List (V×Int))).length:Int)==0)=true from rfl) (rA _ rfl _)))))))))
variable (hd:(t.map (·.1)).Nodup)
include ht s3 s4 s5 hd
theorem a9h(h:t≠[]):nR X0 Qp (iC (n+1)) 33 ((a3 uA dA dA).put (q,d,e)) ((dM (a2 WZ iA)).put (a9f q t)) []:=by
 have h3:0<[d,e].length∧[d,e].length<=ah:=⟨by simp,ac7⟩;have hl:(((kV.im t).length:Int)==0)=false:=by
  rw[kV.qy];cases t with
  |nil=>exact absurd rfl h
  |cons a r=>exact bne (by simp only[a4O];omega)
 have Sr:=ahl ht;have s0:iV n (.fn 89 [] []) [] [] (.agg iG.ps) []:=nR.a0N hX (first:=[]) (cap:=[]) (hO 89 [] (vA.put iG) [] [] (by kernel_rfl) (fun p h=>by cases h)) rfl rfl rfl rfl;unfold a9f;by_cases hn:mZ t=[]
 .rw[a0I hn];rcases Ji hd iG with hf|⟨hz,hf⟩
  .exact aI hO (.o h1 (.o h3 (.b e1 (.b e2 (.b e3 (.fr [1] s1 (.fr [1,2] s2 (.b hl (.Pm (H2:=HMt t) [3] [0] (s4 hn) (.ss (.fr [] s0 (.c (.int .i64 (look t iG)) [] hf (.Pm (H2:=HMt t) [3] [0] s3 (rA _ rfl _)))) (.ss (.fr [] s0 (.c (.int .i64 (look t iG)) [] hf (rA _ rfl _))) (.ss (.fr [] s0 (.c (.int .i64 (look t iG)) [] hf (rA _ rfl _))) (.ss (.b (c:=!((0:Int)==0)) (t:=false) rfl (rA _ rfl _)) (rA ⟨q,false,false,0,0,0,vI t,mZ t⟩ hn _))))))))))))))
  rw[hz];exact aI hO (.o h1 (.o h3 (.b e1 (.b e2 (.b e3 (.fr [1] s1 (.fr [1,2] s2 (.b hl (.Pm (H2:=HMt t) [3] [0] (s4 hn) (.ss (.a .calm (.o hf (.Pm (H2:=HMt t) [3] [0] s3 (rA _ rfl _)))) (.ss (.a .calm (.o hf (rA _ rfl _))) (.ss (.a .calm (.o hf (rA _ rfl _))) (.ss (.b (c:=!((0:Int)==0)) (t:=false) rfl (rA _ rfl _)) (rA ⟨q,false,false,0,0,0,vI t,mZ t⟩ hn _))))))))))))))
 rw[a0F hn];have hp:0<(mZ t).length:=aaM.2 hn;have hb:(!(((mZ t).length:Int)==0))=true:=by rw[bne (by omega)];rfl
 have i0:fD 0 (mZ t).length:=aC hp;have i1:fD (i64.wrap ((mZ t).length-1)) (mZ t).length:=by rw[wrap_small (by omega) (by omega)];exact⟨by omega,by omega⟩
 rcases Ji hd iG with hf|⟨hz,hf⟩
 .exact aI hO (.o h1 (.o h3 (.b e1 (.b e2 (.b e3 (.fr [1] s1 (.fr [1,2] s2 (.b hl (.Pm (H2:=HMn t) [3] [0] (s5 hn) (.ss (.fr [] s0 (.c (.int .i64 (look t iG)) [] hf (.Pm (H2:=HMt t) [3] [0] s3 (rA _ rfl _)))) (.ss (.fr [] s0 (.c (.int .i64 (look t iG)) [] hf (rA _ rfl _))) (.ss (.fr [] s0 (.c (.int .i64 (look t iG)) [] hf (rA _ rfl _))) (.ss (.b hb (.o i0 (.o i1 (rA _ rfl _)))) .rr)))))))))))))
 rw[hz];exact aI hO (.o h1 (.o h3 (.b e1 (.b e2 (.b e3 (.fr [1] s1 (.fr [1,2] s2 (.b hl (.Pm (H2:=HMn t) [3] [0] (s5 hn) (.ss (.a .calm (.o hf (.Pm (H2:=HMt t) [3] [0] s3 (rA _ rfl _)))) (.ss (.a .calm (.o hf (rA _ rfl _))) (.ss (.a .calm (.o hf (rA _ rfl _))) (.ss (.b hb (.o i0 (.o i1 (rA _ rfl _)))) .rr)))))))))))))
end
theorem amM:Gd a9g:=Good.LD 24 asb Jf fun n hn hO CX p hp=>by
 obtain⟨q,d,e⟩:=p;have h1:∀x∈[d,e],nO x:=Z8 (hp _ gQ) (hp _ vX);have h3:0<[d,e].length∧[d,e].length<=ah:=⟨by simp,ac7⟩;have BO:=hO n (by omega);show nR X0 Qp _ _ _ ((dM (a2 WZ iA)).put (if(aY [d,e] != 0)=true then(An0,aY [d,e])else if decide (q<1)=true then(An0,2)else if decide (q>5)=true then(An0,2)else GX q (fG (dB [d,e])))) _;cases e1:(aY [d,e] != 0)
 .cases e2:decide (q<1)
  .cases e3:decide (q>5)
   .have hJ:=uJ (D:=[d,e]) (by simp) (by simp) h1 (by simpa using e1);have ht:=Uy hJ;have s1:=KN (n:=n) (f:=79) (by omega) (fun m hm=>CX m (by omega)) (D:=[d,e]) (by simp) hJ.bQ.len (k:=true) (ex:=true);have s2:=a9d (k:=true) (ex:=true) (k2:=true) (LX:=true) (QS hJ (n:=n-2) (f:=79) (CX _ (by omega)) (show 0<[d,e].length by simp));have s3:=arR (n:=n-1) ht;have s4:=(aeC (n:=n-2) ht).1;have s5:=(aeC (n:=n-2) ht).2;rw[show n-2+2=n by omega]at s2 s4 s5;rw[show n-1+1=n by omega]at s3;show nR X0 Qp _ _ _ ((dM (a2 WZ iA)).put (GX q (fG (dB [d,e])))) _;unfold GX;by_cases h:fG (dB [d,e])=[]
    .rw[a0I h];exact ac8 BO h1 e1 e2 e3 s1 s2 h
    .rw[a0F h];exact a9h BO h1 e1 e2 e3 ht s1 s2 s3 s4 s5 (CB _) h
   .exact aI BO (.o h1 (.o h3 (.b e1 (.b e2 (.b e3 (rA _ rfl _))))))
  .exact aI BO (.o h1 (.o h3 (.b e1 (.b e2 (rA _ rfl _)))))
 .exact aI BO (.o h1 (.o h3 (.b e1 (rA _ rfl _))))
open Go Tw Pv cu
section
variable {n:Nat} {t:List (V×Int)} (h:KJ t) (ht:t≠[])
theorem amN{k:Bool}:iV (n+1) (.fn 96 [] []) [.map 0] [.map (kV.im t)] vF [.map (kV.im t),.cells [.map 0]]:=
 fQ gU (first:=[]) (cap:=[]) .er
include h ht
theorem amO:iV (n+3) (.fn 95 [] []) [vF] [.iP (kV.im t),.aG [.map 0]] (.aP 2 0 t.length t.length 1 false) [.iP (kV.im t),.aG [.map 0],.nX ((tC t).map MR)]:=by have h1:=abX (n:=n) h ht;exact fQ gU (first:=[]) (cap:=[]) (.k h1 .er)
omit ht in
theorem a9i:(tC t).length=t.length:=by unfold tC;rw[(qN _ _).length_eq,a5c]
theorem amP:iV (n+1) (.fn 94 [] []) [.aP 0 0 t.length t.length 1 false] [.nX ((tC t).map MR)] (.int .i64 (QW (tC t))) [.nX ((tC t).map MR)]:=by
 have hl:=a9i h;have h0:tC t≠[]:=fun e=>ht (a8r.1 (by rw[<-hl,e];rfl));have:=amn (n:=n) h0 (by rw[hl];exact h.len)
 rwa [hl]at this
end
open Go Tw Pv cu
abbrev lkC(no:Bool)(n:Int)(s:PV aB):List (PV aB):=[.int .u8 8,.bool no,.bool false,.int .i64 n,.int .i64 0,.int .i64 0,.bool false,s,.nil .aP]
abbrev wLk(l:List Dg)(d:Dg)(n:Int)(s:PV aB)(H:List (PB aB))(i:Int)(x:List (Nat×PE aB)):aT aB:=⟨[(3,.loc 0 0),(4,.loc 1 0),(31,.val (.dH 26 l true)),(32,xi l.length),(33,xi i)]++x,[d.ps,lkC false n s],H⟩
abbrev hLk(b:Int):List (PB aB):=[.list true true 3 ([b]:LI0)]
def amQ(l:List Dg)(d:Dg)(i:Int)(x:List (Nat×PE aB)):Option (Int×Int)->aT aB
 |none=>wLk l d 0 (.nil .aP) [] i x
 |some (b,z)=>wLk l d z (.own 0) (hLk b) i x
def tLk(l:List Dg)(d:Dg)(k:Nat):List (V×Int):=fG (dB [l.getD k iL,d])
def mLk(l:List Dg)(d:Dg)(k:Nat):Int:=QW (tC (tLk l d k))
def gLk(l:List Dg)(d:Dg)(k:Nat)(s:Option (Int×Int)):Option (Int×Int)⊕(Option (Int×Int)×Nat):=
 if tLk l d k=[]then .inr (s,k)else match s with
  |none=>.inl (some ((k:Int),mLk l d k))
  |some (b,z)=>if decide (mLk l d k<z)=true then .inl (some ((k:Int),mLk l d k))else .inl (some (b,z))
def zLk(l:List Dg)(d:Dg):Option (Int×Int)⊕(Option (Int×Int)×Nat)->Ex×aT aB
 |.inl s=>(.exit 1,amQ l d l.length [(34,xl false)] s)
 |.inr (none,k)=>(.ret,⟨[(4,.loc 1 0),(5,xi 0)],[d.ps,lkC true 0 (.nil .aP),(l.getD k iL).ps],[]⟩)
 |.inr (some (b,z),k)=>(.ret,⟨[(4,.loc 1 0),(5,xi 0)],[d.ps,lkC true z (.own 0),(l.getD k iL).ps],hLk b⟩)
structure LkP(l:List Dg)(d:Dg):Prop where
 p:∀x∈l++[d],nO x
 g:∀x∈l++[d],DgG x∧x.ay=((l++[d]).getD 0 iL).ay∧x.aH=((l++[d]).getD 0 iL).aH
theorem LkP.j{l:List Dg}{d:Dg}(h:LkP l d){k:Nat}(hk:k<l.length):jV (dB [l.getD k iL,d]):=by have h1:=h.g (l.getD k iL) (a5O _ (dw hk));have h2:=h.g d (abS _ (a2U.2 rfl));exact aeD (D:=[l.getD k iL,d]) (by simp) (by simp) (Z8 (P:=fun x=>DgG x∧x.ay=(l.getD k iL).ay∧x.aH=(l.getD k iL).aH) ⟨h1.1,rfl,rfl⟩ ⟨h2.1,h2.2.1.trans h1.2.1.symm,h2.2.2.trans h1.2.2.symm⟩)
theorem lLk{n:Nat}(hn:24<=n)(hO:∀m,n-24<=m->Ok m qZ){l:List Dg}{d:Dg}(h:LkP l d)(hl:l.length<=ah):Lp n 39 0 (wLk l d 0 (.nil .aP) [] 0 []) (zLk l d (lq (gLk l d) l.length 0 none)).1 (zLk l d (lq (gLk l d) l.length 0 none)).2:=by
 refine iJ (st:=fun i s=>amQ l d i [] s) (g:=gLk l d) (out:=zLk l d) (s0:=none) (fun k s=>k=0↔s=none) (by kernel_rfl) hl (by simp) (fun k s m hk hi ih=>?_) (fun s _=>?_)
 .have hJ:=h.j hk;have ht:KJ (tLk l d k):=Uy hJ;have s1:=KN (n:=n) (f:=79) (by omega) (fun m hm=>hO m (by omega)) (D:=[l.getD k iL,d]) (by simp) hJ.bQ.len (k:=true) (ex:=true);have s2:=a9d (k:=true) (ex:=true) (k2:=true) (LX:=true) (QS hJ (n:=n-2) (f:=79) (hO _ (by omega)) (show 0<[l.getD k iL,d].length by simp));rw[show n-2+2=n by omega]at s2
  change dF _ _ _ _ _ _ _ [.gone,.gone,.map (kV.im (tLk l d k))]at s2
  unfold gLk;by_cases h0:tLk l d k=[]
  .rw[a0I h0];rw[h0]at s2;have hz:(((kV.im ([]:List (V×Int))).length:Int)==0)=true:=rfl;rcases s with _|⟨b,z⟩
   .exact aJ gU (.b (aZ hk) (.o (aC hk) (.fr [0] s1 (.fr [0,1] s2 (.b hz (.ouG [.gc []] nofun))))))
   exact aJ gU (.b (aZ hk) (.o (aC hk) (.fr [1] s1 (.fr [1,2] s2 (.b hz (.ouG [.gc [0]] nofun))))))
  rw[a0F h0];have hz:(((kV.im (tLk l d k)).length:Int)==0)=false:=by rw[kV.qy];exact bne (by have:=aaM.2 h0;omega)
  have s3:=amN (n:=n-1) (t:=tLk l d k) (k:=true);have s4:=amO (n:=n-3) ht h0;have s5:=amP (n:=n-1) ht h0;rw[show n-1+1=n by omega]at s3 s5;rw[show n-3+3=n by omega]at s4;rcases s with _|⟨b,z⟩
  .have hk0:k=0:=hi.2 rfl;have hb:((k:Int)==0)=true:=by rw[hk0];rfl
   exact aJ gU (.b (aZ hk) (.o (aC hk) (.fr [0] s1 (.fr [0,1] s2 (.b hz (.fr [2] s3 (.Pm (H2:=[.map (kV.im (tLk l d k)),.cells [.map 0],.nX ((tC (tLk l d k)).map MR)]) [2,3] [0,1] s4 (.fr [4] s5 (.b hb (.nxG [.gc [5]] (ih _ (by simp))))))))))))
  have hk0:k≠0:=fun e=>by cases hi.1 e
  have hb:((k:Int)==0)=false:=bne (by omega);exact aJ gU (.b (aZ hk) (.o (aC hk) (.fr [1] s1 (.fr [1,2] s2 (.b hz (.fr [3] s3 (.Pm (H2:=[.map (kV.im (tLk l d k)),.cells [.map 0],.nX ((tC (tLk l d k)).map MR)]) [3,4] [0,1] s4 (.fr [5] s5 (.b hb (.ls (.nxG [.gc [6]] (ih _ (by simp))) (.nxG [.gc [0]] (ih _ (by simp)))))))))))))
 rcases s with _|⟨b,z⟩
 .exact aJ gU (.b (eP l.length) (.ou nofun))
 exact aJ gU (.b (eP l.length) (.ou nofun))
theorem ahn{n:Nat}{l:List Dg}:iV (n+1) (.fn 93 [] []) [.dH 26 l true] [] (.dH 26 l true) []:=fQ gU (first:=[]) (cap:=[]) (.o (rfl:((0:Nat):Int)=0) (.o (rfl:(l.length:Int)=(l.length:Int)) (.o (rfl:(l.length:Int)=(l.length:Int)) .er)))
def amR:Option (Int×Int)⊕(Option (Int×Int)×Nat)->An
 |.inl none=>⟨8,false,false,0,0,0,false,[]⟩
 |.inl (some (b,z))=>⟨8,false,false,z,0,0,false,[b]⟩
 |.inr (none,_)=>⟨8,true,false,0,0,0,false,[]⟩
 |.inr (some (b,z),_)=>⟨8,true,false,z,0,0,false,[b]⟩
def O6(p:List Dg×Dg):An×Int:=if decide ((p.1.length:Int)>4)=true then(An0,5)else if(aY (p.1++[p.2]) != 0)=true then(An0,aY (p.1++[p.2]))else if((p.1.length:Int)==0)=true then(An0,7)else(amR (lq (gLk p.1 p.2) p.1.length 0 none),0)
theorem ac9{n:Nat}(hn:24<=n)(BO:Ok n a9g)(CX:∀m,n-24<=m->Ok m qZ){l:List Dg}{d:Dg}(h1:∀x∈l++[d],nO x)(h2:l.length<=1000):nR X0 Qp (iC (n+1)) 39 [.dH 26 l true,.agg d.ps] ((dM (a2 WZ iA)).put (O6 (l,d))) []:=by
 have hl:l.length<=ah:=by unfold ah;omega
 have h3:0<(l++[d]).length∧(l++[d]).length<=ah:=by rw[a1p,a4b];unfold ah;omega
 have h4:l.length+[d].length<=ah:=by rw[a4b];unfold ah;omega
 have h5:l=[]∨[d]≠[]:=.inr (by simp);have s0:=ahn (n:=n-1) (l:=l);rw[show n-1+1=n by omega]at s0;show nR X0 Qp _ _ _ ((dM (a2 WZ iA)).put (if decide ((l.length:Int)>4)=true then(An0,5)else if(aY (l++[d]) != 0)=true then(An0,aY (l++[d]))else if((l.length:Int)==0)=true then(An0,7)else(amR (lq (gLk l d) l.length 0 none),0))) _;cases e1:decide ((l.length:Int)>4)
 .cases e2:(aY (l++[d]) != 0)
  .cases e3:((l.length:Int)==0)
   .have hk:LkP l d:=⟨h1,QX h1 (by simpa using e2)⟩;have lp:=lLk (n:=n) hn CX hk hl;revert lp;rcases lq (gLk l d) l.length 0 none with(_|⟨b,z⟩)|⟨_|⟨b,z⟩,k⟩
    .intro lp;exact aI BO (.b e1 (.fr [] s0 (.o h4 (.o h5 (.o h1 (.o h3 (.b e2 (.b e3 (.wG [.gc []] lp (rA ⟨8,false,false,0,0,0,false,[]⟩ rfl _))))))))))
    .intro lp;exact aI BO (.b e1 (.fr [] s0 (.o h4 (.o h5 (.o h1 (.o h3 (.b e2 (.b e3 (.wG [.gc []] lp .rr)))))))))
    .intro lp;exact aI BO (.b e1 (.fr [] s0 (.o h4 (.o h5 (.o h1 (.o h3 (.b e2 (.b e3 (.wG [.gc []] lp (rA ⟨8,true,false,0,0,0,false,[]⟩ rfl _))))))))))
    intro lp;exact aI BO (.b e1 (.fr [] s0 (.o h4 (.o h5 (.o h1 (.o h3 (.b e2 (.b e3 (.wG [.gc []] lp .rr)))))))))
   exact aI BO (.b e1 (.fr [] s0 (.o h4 (.o h5 (.o h1 (.o h3 (.b e2 (.b e3 (rA _ rfl _)))))))))
  exact aI BO (.b e1 (.fr [] s0 (.o h4 (.o h5 (.o h1 (.o h3 (.b e2 (rA _ rfl _))))))))
 exact aI BO (.b e1 (rA _ rfl _))
theorem amS{n:Nat}(hn:24<=n)(BO:Ok n a9g)(CX:∀m,n-24<=m->Ok m qZ){k:Bool}{l:List Dg}{d:Dg}(h1:∀x∈l++[d],nO x)(h2:l.length<=1000):iV (n+1) (.fn 39 [] []) [.own 0,.agg d.ps] [.list k true 26 l] ((dM (a2 WZ iA)).put (O6 (l,d))) [.gone]:=by have h:=nR.a0N hX (first:=[]) (cap:=[]) (xs:=[.dH 26 l true,.agg d.ps]) (ac9 hn BO CX h1 h2) rfl rfl rfl rfl;have h2:=dF.frame hX (ks:=[]) (H':=[.gone]) (Hp:=[]) (PZ:=[]) (v':=(dM (a2 WZ iA)).put (O6 (l,d))) (fv':=.fn 39 [] []) (xs':=[.dH 26 l true,.agg d.ps]) h (by decide) rfl rfl rfl rfl rfl rfl rfl;exact dF.full hX (i:=0) (k:=k) (t:=26) (l:=l) rfl h2
open Go Tw Pv cu
def jg(d:Dg)(g:LI0):Jb:=⟨d.ay,d.aH,[d],g⟩
structure GOk(d:Dg)(g:LI0):Prop where
 len:g.length=d.ay.length
 v:∀c,fD c d.ay.length->0<=g.getD c.toNat 0->g.getD c.toNat 0<d.ay.getD c.toNat 0
theorem amT{d:Dg}(hJ:jV (dB [d])){g:LI0}(h:GOk d g):jV (jg d g):=⟨hJ.d3,hJ.bQ,hJ.ord,fun k hk=>have h:=hJ.dg k hk;⟨h.t,h.n,h.s,h.o,h.rk,h.two⟩,h.len,h.v⟩
theorem GOk.set{d:Dg}{g:LI0}(h:GOk d g){c k:Nat}(hk:(k:Int)<d.ay.getD (c:Int).toNat 0):GOk d (g.set (c:Int).toNat (k:Int)):=by
 refine⟨by rw[a5l];exact h.len,fun c2 L8 h2=>?_⟩;by_cases e:(c:Int).toNat=c2.toNat
 .obtain⟨q0,q1⟩:=L8;rw[<-e,a3r,a1Z (by rw[h.len];omega)];exact hk
 rw[a3r,a1j e,<-a3r]at h2 ⊢;exact h.v c2 L8 h2
theorem asi{d:Dg}(hJ:jV (dB [d])):GOk d (dB [d]).g:=⟨hJ.gl,hJ.gv⟩
abbrev jcF(d:Dg):List (PV aB):=[lI d.ay,lI d.aH,.own 0,.own 1,.fn 79 [] []]
abbrev hF(d:Dg)(g:LI0):List (PB aB):=[.list true true 26 [d],.list true true 3 g]
abbrev wFo(d:Dg)(v:V)(g:LI0)(c:Int)(x:List (Nat×PE aB)):aT aB:=⟨[(3,.loc 1 0),(6,.loc 2 0),(29,xL 3 d.ay),(30,xi d.ay.length),(31,xi c)]++x,[d.ps,v.ps,jcF d],hF d g⟩
abbrev wFi(d:Dg)(v:V)(g:LI0)(c:Int)(i:Int)(x:List (Nat×PE aB)):aT aB:=⟨[(3,.loc 1 0),(6,.loc 2 0),(8,xi c),(29,xL 3 d.ay),(30,xi d.ay.length),(31,xi c),(36,xi (d.ay.getD c.toNat 0)),(37,xi i)]++x,[d.ps,v.ps,jcF d],hF d g⟩
theorem aeG{n f:Nat}{J:Jb}{k ex k2 LX:Bool}(h:iV n (.fn 87 [] []) [.agg (J.ps (.fn f [] []))] [] (.map 0) [.map (kV.im (fG J))]):iV n (.fn 87 [] []) [a9e J f 0 1] [.list k ex 26 J.D,.list k2 LX 3 J.g] (.map 2) [.list k ex 26 J.D,.list k2 LX 3 J.g,.map (kV.im (fG J))]:=by have h1:=dF.frame hX (ks:=[]) (H':=[.gone,.gone]) (Hp:=[]) (PZ:=[.map (kV.im (fG J))]) (v':=.map 2) (fv':=.fn 87 [] []) (xs':=[.agg (J.ps (.fn f [] []))]) h (by decide) rfl rfl rfl rfl rfl rfl rfl;exact dF.lend hX (H:=[.list k ex 26 J.D,.list k2 LX 3 J.g]) (cs:=[lI J.s,lI J.o,.own 0,.own 1]) (rest:=[.fn f [] []]) [0,1] h1 rfl (fun i hi=>by simpa[kX.kP,kX]using hi) rfl
def lkF(d:Dg)(v:V)(g:LI0):Int:=look (fG (jg d g)) v
def gIn(d:Dg)(v:V)(c:Nat)(k:Nat)(g:LI0):LI0⊕(LI0×Nat):=if decide (lkF d v (g.set (c:Int).toNat (k:Int))>0)=true then .inr (g.set (c:Int).toNat (k:Int),k)else .inl (g.set (c:Int).toNat (k:Int))
def oIn:LI0⊕(LI0×Nat)->LI0
 |.inl g=>g
 |.inr r=>r.1
def nIn(d:Dg)(c:Nat):Nat:=(d.ay.getD (c:Int).toNat 0).toNat
def a5a(d:Dg)(v:V)(c:Nat)(g:LI0):LI0:=oIn (lq (gIn d v c) (nIn d c) 0 g)
def zFi(d:Dg)(v:V)(c:Nat):LI0⊕(LI0×Nat)->Ex×aT aB
 |.inl g=>(.exit 3,wFi d v g (c:Int) (nIn d c) [(38,xl false)])
 |.inr (g,k)=>(.exit 2,wFi d v g (c:Int) k [(49,xl true)])
theorem a9l{d:Dg}{v:V}{c:Nat}:∀(m k:Nat) (g:LI0),k+m<=nIn d c->GOk d g->GOk d (oIn (lq (gIn d v c) m k g))
 | 0,_,g,_,h=>h
 |m+1,k,g,hk,h=>by
  have h1:GOk d (g.set (c:Int).toNat (k:Int)):=h.set (by unfold nIn at hk;omega);simp only[lq,gIn];by_cases e:decide (lkF d v (g.set (c:Int).toNat (k:Int))>0)=true
  .rw[a0I e];exact h1
  rw[a0F e];exact a9l m (k+1) _ (by omega) h1
section
variable {n:Nat} (hn:24<=n) (hO:∀ m,n-24<=m->Ok m qZ) {d:Dg} (hJ:jV (dB [d])) {v:V}
include hn hO hJ
theorem lFi{c:Nat}(hc:c<d.ay.length){g:LI0}(hg:GOk d g):Lp n 28 1 (wFi d v g (c:Int) 0 []) (zFi d v c (lq (gIn d v c) (nIn d c) 0 g)).1 (zFi d v c (lq (gIn d v c) (nIn d c) 0 g)).2:=by
 have hz:=hJ.bQ.sz (d.ay.getD (c:Int).toNat 0) (bU (show(c:Int).toNat<d.ay.length by simpa using hc));have hN:((nIn d c:Nat):Int)=d.ay.getD (c:Int).toNat 0:=by unfold nIn;omega
 refine iJ (st:=fun i g=>wFi d v g (c:Int) i []) (g:=gIn d v c) (out:=zFi d v c) (s0:=g) (fun k g=>GOk d g) (by kernel_rfl) (by unfold ah;omega) hg (fun k g m hk hi ih=>?_) (fun g _=>?_)
 .have t1:decide ((k:Int)<d.ay.getD (c:Int).toNat 0)=true:=by rw[<-hN,a1n];omega
  have hg2:GOk d (g.set (c:Int).toNat (k:Int)):=hi.set (by rw[<-hN];omega);have i1:fD (c:Int) g.length:=by rw[hi.len];exact aC hc
  have s2:=aeG (k:=true) (ex:=true) (k2:=true) (LX:=true) (QS (amT hJ hg2) (n:=n-2) (f:=79) (hO _ (by omega)) (show 0<[d].length by simp));rw[show n-2+2=n by omega]at s2;unfold gIn lkF;rcases Ji (CB (jg d (g.set (c:Int).toNat (k:Int)))) v with hf|⟨hz2,hf⟩
  .exact aJ gU (.b t1 (.o i1 (.fr [0,1] s2 (.c (.int .i64 (look (fG (jg d (g.set (c:Int).toNat (k:Int)))) v)) [] hf (.ls (.ouG [.gc [0,1]] nofun) (.nxG [.gc [0,1]] (ih _ hg2)))))))
  rw[hz2];exact aJ gU (.b t1 (.o i1 (.fr [0,1] s2 (.a .calm (.o hf (.ls (.ouG [.gc [0,1]] nofun) (.nxG [.gc [0,1]] (ih _ hg2))))))))
 have t1:decide (((nIn d c:Nat):Int)<d.ay.getD (c:Int).toNat 0)=false:=by rw[<-hN];exact eP _
 exact aJ gU (.b t1 (.ou nofun))
set_option maxRecDepth 20000 in
theorem lFo:Lp n 28 0 (wFo d v (dB [d]).g 0 []) (.exit 1) (wFo d v (aU (a5a d v) d.ay.length 0 (dB [d]).g) d.ay.length [(32,xl false)]):=by
 have hl:d.ay.length<=ah:=by have:d.ay.length<=6:=hJ.bQ.len;unfold ah;omega
 refine LG (X:=X0) (N:=d.ay.length) (g:=a5a d v) (s0:=(dB [d]).g) (st:=fun c g=>wFo d v g c []) (fin:=fun g=>wFo d v g d.ay.length [(32,xl false)]) (fun _ g=>GOk d g) (by kernel_rfl) hl RN (asi hJ) (fun c g hc hg=>a9l (nIn d c) 0 g (by omega) hg) (fun c g hc hg m e p g9=>?_) (fun g _=>?_)
 .have lp:=lFi hn hO hJ (v:=v) hc hg;unfold a5a at g9;revert lp g9;rcases lq (gIn d v c) (nIn d c) 0 g with g1|⟨g1,k⟩
  .intro g9 lp;exact aJ gU (.b (aZ hc) (.o (aC hc) (.w lp (.go g9))))
  intro g9 lp;exact aJ gU (.b (aZ hc) (.o (aC hc) (.w lp (.go g9))))
 exact aJ gU (.b (eP d.ay.length) .ex)
end
open Go Tw Pv cu
def Jj(p:Dg×V):LI0×Int:=if(aY [p.1] != 0)=true then([],aY [p.1])else if(pq p.2 != 0)=true then([],4)else if(look (fG (dB [p.1])) p.2==0)=true then([],7)else(aU (a5a p.1 p.2) p.1.ay.length 0 (dB [p.1]).g,0)
def amU:dZ aB:=bK 28 (a2 dA vA) (dM (a2 qQ iA)) Jj (fun p=>[nO p.1]) a9g
theorem rF(e:Int):Fp (Γ:=X0.Γ) (Is (X:=X0) (P:=Qp) (dM (a2 qQ iA)) (([]:LI0),e)) .n (.ret (some (.dJ [.nil .aP,.int .i64 e]))):=by have h:(dM (a2 qQ iA)).get (.dJ [.nil .aP,.int .i64 e])=some (([]:LI0),e):=rfl;exact Fp.rn (X:=X0) (P:=Qp) _ h
theorem asn:Gd amU:=Good.a7w 30 amM Jf aeF fun n hn hO CX hO3 p hp=>by
 obtain⟨d,v⟩:=p;have h1:nO d:=hp _ gQ;obtain⟨n,rfl⟩:∃k,n=k+1:=⟨n-1,by omega⟩;have BO:=hO (n+1) (by omega);show nR X0 Qp _ _ _ ((dM (a2 qQ iA)).put (if(aY [d] != 0)=true then([],aY [d])else if(pq v != 0)=true then([],4)else if(look (fG (dB [d])) v==0)=true then([],7)else(aU (a5a d v) d.ay.length 0 (dB [d]).g,0))) _;cases e1:(aY [d] != 0)
 .cases e2:(pq v != 0)
  .have s1:=amK (n:=n) (by omega) (hO3 n (by omega)) (fun m hm=>CX m (by omega)) h1 e1 e2;have hJ:jV (dB [d]):=uJ (D:=[d]) (by simp) (by simp) (a0Z h1) (by simpa using e1);have s2:=aeG (k:=true) (ex:=true) (k2:=true) (LX:=true) (QS hJ (n:=n-1) (f:=79) (CX _ (by omega)) (show 0<[d].length by simp));rw[show n-1+2=n+1 by omega]at s2;have lp:=lFo (n:=n+1) (by omega) (fun m hm=>CX m (by omega)) hJ (v:=v);show nR X0 Qp _ _ _ ((dM (a2 qQ iA)).put (if(look (fG (dB [d])) v==0)=true then([],7)else(aU (a5a d v) d.ay.length 0 (dB [d]).g,0))) _;rcases Ji (CB (dB [d])) v with hf|⟨hz,hf⟩
   .exact aI BO (.fr [] s1 (.b (rfl:((0:Int) != 0)=false) (.fr [0,1] s2 (.c (.int .i64 (look (fG (dB [d])) v)) [] hf (.ss (rF _) (.wG [.gc [0,1]] lp .rr))))))
   .rw[hz];exact aI BO (.fr [] s1 (.b (rfl:((0:Int) != 0)=false) (.fr [0,1] s2 (.a .calm (.o hf (.ss (rF _) (.wG [.gc [0,1]] lp .rr)))))))
  .have s1:=amJ (n:=n) (v:=v) (hO3 n (by omega)) h1 e1 e2;exact aI BO (.fr [] s1 (.b (rfl:((4:Int) != 0)=true) (rF _)))
 .have s1:=amI (n:=n) (v:=v) (hO3 n (by omega)) h1 e1;exact aI BO (.fr [] s1 (.b e1 (rF _)))
open Go Tw Pv cu
abbrev dz:List (PV aB):=[.nil .aP,.nil .aP,.nil .aP,.nil .aP,.int .i64 0]
abbrev cCh(s o:LI0):List (PV aB):=[lI s,lI o,.own 1,.aP 0 0 1 1 2 true,.int .i64 0]
abbrev hCh(c:Int)(x:List V×LI0):List (PB aB):=[.cells [.int .i64 c,.own 2],.list false false 39 x.1,.list false false 3 x.2]
abbrev wCh(s o:LI0)(c w n:Int)(y:List V×LI0)(i:Int)(x:List (Nat×PE aB)):aT aB:=⟨[(3,xi w),(8,.loc 0 0),(11,.loc 1 0),(47,xi n),(48,xi i)]++x,[dz,cCh s o],hCh c y⟩
def gCh(w:Int)(i:Nat)(y:List V×LI0):List V×LI0:=(y.1++[⟨0,i64.wrap (w+(i:Int))⟩],y.2++[i64.wrap (-1-(i:Int))])
def chE(w:Int)(n:Nat):List V:=(List.range n).map fun(i:Nat)=>(⟨0,i64.wrap (w+(i:Int))⟩:V)
def chK(n:Nat):LI0:=(List.range n).map fun(i:Nat)=>i64.wrap (-1-(i:Int))
theorem Zc(w:Int):∀n,aU (gCh w) n 0 ([],[])=(chE w n,chK n)
 | 0=>rfl
 |n+1=>by rw[uz,Zc w n,a4v];unfold gCh chE chK;rw[aem,a4Z,a4Z];rfl
theorem lCh{n:Nat}{s o:LI0}{c w:Int}{z:Nat}(hz:z<=12)(h0:s.getD c.toNat 0=(z:Int)):Lp n 57 0 (wCh s o c w (s.getD c.toNat 0) ([],[]) 0 []) (.exit 0) (wCh s o c w (s.getD c.toNat 0) (chE w z,chK z) z [(49,xl false)]):=by
 rw[<-Zc w z,h0];refine LG (X:=X0) (N:=z) (g:=gCh w) (s0:=([],[])) (st:=fun i y=>wCh s o c w (z:Int) y i []) (fin:=fun y=>wCh s o c w (z:Int) y z [(49,xl false)]) (fun k y=>y.1.length=k∧y.2.length=k) (by kernel_rfl) (by unfold ah;omega) RN ⟨rfl,rfl⟩ (fun k y hk hi=>?_) (fun k y hk hi m e p g9=>?_) (fun y _=>?_)
 .unfold gCh;simp[hi.1,hi.2]
 .obtain⟨E,K⟩:=y;have a1:E.length+[(⟨0,i64.wrap (w+(k:Int))⟩:V)].length<=ah:=by rw[a4b];have:E.length=k:=hi.1;unfold ah;omega
  have a2:K.length+[i64.wrap (-1-(k:Int))].length<=ah:=by rw[a4b];have:K.length=k:=hi.2;unfold ah;omega
  exact aJ gU (.b (aZ hk) (.o a1 (.o a2 (.goG [.gc [0,4,6]] g9))))
 exact aJ gU (.b (eP z) .ex)
def chD(s o:LI0)(c w:Int)(z:Nat):Dg:=⟨s,o,chE w z,[⟨c,chK z⟩],0⟩
theorem acd{n:Nat}(hO:Ok n a8B){s o:LI0}{c:Int}{y:List V×LI0}(hd:let d:Dg:=⟨s,o,y.1,[⟨c,y.2⟩],0⟩;IY d∧d.ay.length<=ah∧d.aH.length<=2^20∧d.aO.length<=ah∧(((bJ d).2 != 0)=false->ClP (bJ d).1)) :
  iV n (.fn 108 [] []) [.agg (cCh s o)] (hCh c y) ((dM (a2 dA iA)).put (Aq ⟨s,o,y.1,[⟨c,y.2⟩],0⟩)) [.gone,.gone,.gone]:=by
 obtain⟨h1,h2,h3,h4,h5⟩:=hd;have k0:iV n (.fn 108 [] []) [.agg (⟨s,o,y.1,[⟨c,y.2⟩],0⟩:Dg).ps] [] ((dM (a2 dA iA)).put (Aq ⟨s,o,y.1,[⟨c,y.2⟩],0⟩)) []:=nR.a0N hX (first:=[]) (cap:=[]) (hO 108 [.agg (⟨s,o,y.1,[⟨c,y.2⟩],0⟩:Dg).ps] ((dM (a2 dA iA)).put (Aq ⟨s,o,y.1,[⟨c,y.2⟩],0⟩)) [] _ (by kernel_rfl) (fun p h=>by
  rcases a2x.1 h with rfl|h
  .exact h1
  rcases a2x.1 h with rfl|h
  .exact h2
  rcases a2x.1 h with rfl|h
  .exact h3
  rcases a2x.1 h with rfl|h
  .exact h4
  rw[a2U.1 h];exact h5)) rfl rfl rfl rfl
 have k1:=dF.frame hX (ks:=[]) (H':=[.gone,.gone,.gone]) (Hp:=[]) (PZ:=[]) (v':=(dM (a2 dA iA)).put (Aq ⟨s,o,y.1,[⟨c,y.2⟩],0⟩)) (fv':=.fn 108 [] []) (xs':=[.agg (⟨s,o,y.1,[⟨c,y.2⟩],0⟩:Dg).ps]) k0 (by decide) rfl rfl rfl rfl rfl rfl rfl;exact dF.cell1 hX (H:=hCh c y) (ND:=[lI s,lI o,.own 1]) (ws1:=[lI s,lI o,lV y.1]) (cs:=[.int .i64 c,.own 2]) (XJ:=[.int .i64 0]) (ws2:=[.int .i64 0]) (i:=0) (e:=105) (sz:=2) (row:=(⟨c,y.2⟩:Br)) [1,2] rfl (by kernel_rfl) (by decide) rfl rfl k1 rfl rfl rfl (fun j hj=>by simp[kX.kP,kX]at hj ⊢;omega) (fun j hj=>by simp[kX.kP,kX]at hj ⊢;omega) (fun j hj=>by simp[kX.kP,kX]at hj)
open Go Tw Pv cu
theorem ace(w:Int)(z:Nat):(chE w z).length=z:=by simp[chE]
theorem acf(z:Nat):(chK z).length=z:=by simp[chK]
structure ChP(s o:LI0)(c w:Int)(z:Nat):Prop where
 f:bY s o=0
 ic:fD c s.length
 ez:s.getD c.toNat 0=(z:Int)
 z12:z<=12
 w0:-9999<=w
 w1:w+z<=10000
section
variable {s o:LI0} {c w:Int} {z:Nat} (h:ChP s o c w z)
include h
theorem acg{v:V}(hv:v∈chE w z):∃j,j<z∧v=⟨0,w+(j:Int)⟩:=by unfold chE at hv;obtain⟨j,hj,rfl⟩:=a1e.1 hv;have:=a5f.1 hj;have:=h.w0;have:=h.w1;have:=h.z12;exact⟨j,by omega,by rw[wrap_small (by omega) (by omega)]⟩
theorem ach{k:Nat}(hk:k<z):(chK z).getD k 0=-1-(k:Int):=by have:=h.z12;unfold chK;rw[a3r,a5m,aeR hk];show i64.wrap (-1-(k:Int))=_;rw[wrap_small (by omega) (by omega)]
theorem aho:∀v∈chE w z,BX v:=fun v hv=>by obtain⟨j,hj,rfl⟩:=acg h hv;have:=h.w0;have:=h.w1;exact jB.2 ⟨by show(0:Int)<=0;omega,by show(0:Int)<=4;omega,fun _=>⟨by show -9999<=w+(j:Int);omega,by show w+(j:Int)<=9999;omega⟩,fun hz=>absurd rfl hz⟩
theorem amV:IY (chD s o c w z):=⟨fun i hi k hk=>by
 have:i=0:=by have:i<1:=hi;omega
 subst this;have hk3:k<z:=by rw[<-acf z];exact hk
 show GN ((chK z).getD k 0);rw[ach h hk3,<-wrap_small (z:=-1-(k:Int)) (by have:=h.z12;omega) (by omega)];exact QL _,by show GN 0;rw[<-wrap_small (z:=0) (by omega) (by omega)];exact QL _,fun v hv=>(aho h v hv).2⟩
theorem aci:IY (chD s o c w z)∧(chD s o c w z).ay.length<=ah∧(chD s o c w z).aH.length<=2^20∧(chD s o c w z).aO.length<=ah∧(((bJ (chD s o c w z)).2 != 0)=false->ClP (bJ (chD s o c w z)).1):=by
 obtain⟨bQ,ord⟩:=kE.1 h.f;have hr:=amV h;have h6:s.length<=6:=bQ.len;have Rj:o.length=s.length:=by unfold kQ at ord;rw[a1n]at ord;exact ord.1
 have hl:=ace w z;have hz:=h.z12;have e1:(chD s o c w z).aO.length+1<=ah:=by show(chE w z).length+1<=ah;rw[hl];unfold ah;omega
 have e2:(chD s o c w z).ay.length<=ah:=by show s.length<=ah;unfold ah;omega
 refine⟨hr,e2,by show o.length<=2^20;omega,by omega,fun h0=>?_⟩;obtain⟨q1,q2⟩:=yu hr e1 e2 (by show o.length<=ah;unfold ah;omega) (by simpa using h0);rw[q1];exact q2
end
def QZ(p:LI0×LI0×Int×Int):Dg×Int:=if(bY p.1 p.2.1 != 0)=true then(iL,bY p.1 p.2.1)else if(!(O4 0 (i64.wrap ((p.1.length:Int)-1)) p.2.2.1))=true then(iL,3)else if(!(O4 (-9999) (i64.wrap (i64.wrap (9999-p.1.getD p.2.2.1.toNat 0)+1)) p.2.2.2))=true then(iL,3)else Aq (chD p.1 p.2.1 p.2.2.1 p.2.2.2 (p.1.getD p.2.2.1.toNat 0).toNat)
theorem ahp{a b x:Int}(h:(!(O4 a b x))=false):a<=x∧x<=b:=by
 unfold O4 at h;by_cases h1:x>=a
 .simp[h1]at h;exact⟨h1,h⟩
 simp[h1]at h
theorem ahq{s o:LI0}{c w:Int}(e1:(bY s o != 0)=false)(hc:fD c s.length)(e3:(!(O4 (-9999) (i64.wrap (i64.wrap (9999-s.getD c.toNat 0)+1)) w))=false):ChP s o c w (s.getD c.toNat 0).toNat:=by
 have f:bY s o=0:=by simpa using e1
 obtain⟨bQ,ord⟩:=kE.1 f;have hz:=bQ.sz (s.getD c.toNat 0) (bU (show c.toNat<s.length by obtain⟨a,b⟩:=hc;omega));obtain⟨z0,z1⟩:=hz;obtain⟨w0,w1⟩:=ahp e3;rw[wrap_small (z:=9999-s.getD c.toNat 0) (by omega) (by omega),wrap_small (by omega) (by omega)]at w1;exact⟨f,hc,by omega,by omega,w0,by omega⟩
def acj:dZ aB:=bK 57 (a4 qQ qQ iA iA) (dM (a2 dA iA)) QZ (fun p=>[p.1.length<=ah,p.2.1.length<=2^20]) amU
theorem acn:Gd acj:=Good.LD 0 asn aes fun n hn hO CX p hp=>by obtain⟨s,o,c,w⟩:=p;have h1:s.length<=ah:=hp _ gQ;have h2:o.length<=2^20:=hp _ vX;have hc:(!(O4 0 (i64.wrap ((s.length:Int)-1)) c))=false->fD c s.length:=fun e2=>a99 e2 h1;have hP:=fun(e1:(bY s o != 0)=false) (e2:(!(O4 0 (i64.wrap ((s.length:Int)-1)) c))=false) (e3:(!(O4 (-9999) (i64.wrap (i64.wrap (9999-s.getD c.toNat 0)+1)) w))=false)=>ahq e1 (hc e2) e3;have lp:=fun(e1:(bY s o != 0)=false) (e2:(!(O4 0 (i64.wrap ((s.length:Int)-1)) c))=false) (e3:(!(O4 (-9999) (i64.wrap (i64.wrap (9999-s.getD c.toNat 0)+1)) w))=false)=>lCh (n:=n) (s:=s) (o:=o) (c:=c) (w:=w) (hP e1 e2 e3).z12 (hP e1 e2 e3).ez;have s1:=fun(e1:(bY s o != 0)=false) (e2:(!(O4 0 (i64.wrap ((s.length:Int)-1)) c))=false) (e3:(!(O4 (-9999) (i64.wrap (i64.wrap (9999-s.getD c.toNat 0)+1)) w))=false)=>acd (n:=n) (CX n (by omega)) (s:=s) (o:=o) (c:=c) (y:=(chE w (s.getD c.toNat 0).toNat,chK (s.getD c.toNat 0).toNat)) (aci (hP e1 e2 e3));show nR X0 Qp _ _ _ ((dM (a2 dA iA)).put (if(bY s o != 0)=true then(iL,bY s o)else if(!(O4 0 (i64.wrap ((s.length:Int)-1)) c))=true then(iL,3)else if(!(O4 (-9999) (i64.wrap (i64.wrap (9999-s.getD c.toNat 0)+1)) w))=true then(iL,3)else Aq (chD s o c w (s.getD c.toNat 0).toNat))) _;exact aI (hO n (by omega)) (.o h1 (.o h2 (.sh (fun _=>rE _) fun e1=>.sh (fun _=>rE _) fun e2=>.o (hc e2) (.sh (fun _=>rE _) fun e3=>.a (.Pm [] [] (.nil .aP) []) (.o (hc e2) (.wG [.Ph 1 2 39,.Vo 0 1 3] (lp e1 e2 e3) (.fr [0,1,2] (s1 e1 e2 e3) .rr)))))))
open Go Tw Pv cu
structure vJ(d:Dg):Prop where
 t:D8 d
 n:d.aj.length<=6000
 l:bf d=0
 f:sJ d.ay
 o:d.aH.length<=ah
 e:d.aO.length<=ah
def gLs(d:Dg)(k:Nat)(l:List V):List V:=l++[vH d (jO d.ay k)]
theorem ahr(d:Dg):aU (gLs d) (E8 d.ay) 0 []=cellsD d:=by have:=bV (g:=gLs d) (m:=E8 d.ay) (k:=0) (s:=[]) (fun k l=>l=(List.range k).map fun(k:Nat)=>vH d (jO d.ay k)) rfl (fun j l _ _ e=>by rw[gLs,e,aem,a4Z];rfl);rw[a4v]at this;exact this
abbrev wLs(d:Dg)(y:List V)(i:Int)(x:List (Nat×PE aB)):aT aB:=⟨[(1,.loc 0 0),(3,.val (.own 0)),(4,xi i)]++x,[d.ps],[.list false false 39 y]⟩
theorem lLs{n:Nat}(hO:Ok n acj)(d:Dg)(h:vJ d):JZ n 44 0 0 (wLs d [] 0 []) (.exit 0) (wLs d (cellsD d) (E8 d.ay) [(12,xl false)]):=by
 have hs:d.ay.length<=ah:=by have:=h.f.len;unfold ah;omega
 have hc:E8 d.ay<=ah:=by have:=h.f.E8;have:=h.f.ad7;have:=h.f.many;unfold ah;omega
 rw[<-ahr d];refine sV (σ:=List V) (N:=E8 d.ay) (g:=gLs d) (s0:=[]) (st:=fun i y=>wLs d y i []) (fin:=fun y=>wLs d y (E8 d.ay) [(12,xl false)]) (fun k y=>y.length=k) (by kernel_rfl) hc rfl (fun j y hj hy=>by simp[gLs,hy]) (fun j y hj hy m e p g9=>?_) (fun y _=>?_)
 .have h2:y.length+[vH d (jO d.ay j)].length<=ah:=by rw[hy,a4b];omega
  exact aJ hO (.o hs (.b (h.f.lt hj) (.o hs (.o h.f.sz (.o (show(0:Int)<=(j:Int) by omega) (.o (show(j:Int)<2^62 by unfold ah at hc;omega) (.o h.t (.o h.n (.o (wW (j:Int) h.f.sz) (.o h2 (.goG [.gc [2]] g9)))))))))))
 exact aJ hO (.o hs (.b h.f.no .ex))
def amX:dZ aB:=bK 44 (a1 dA) vsA cellsD (fun d=>[vJ d]) acj
theorem asq:Gd amX:=acn.add fun n hO p hp=>by
 have h:vJ p:=hp _ gQ;have hb:(bf p != 0)=false:=by rw[h.l];rfl
 exact aI hO (.o h.o (.o h.e (.b hb (.wG [.Gv 3 39] (lLs (n:=n) hO p h) .rr))))
def amY:dZ aB:=bK 81 (a1 qQ) qQ (fun p=>p) (fun p=>[p.length<=ah]) amX
theorem asr:Gd amY:=asq.add fun n hO p hp=>aI hO (.o (hp _ gQ) .rr)
def amZ:dZ aB:=bK 82 (a1 vsA) vsA (fun p=>p) (fun p=>[p.length<=ah]) amY
theorem asu:Gd amZ:=asr.add fun n hO p hp=>aI hO (.o (hp _ gQ) .rr)
def ahs:dZ aB:=bK 48 (a1 iA) vA (fun p=>(⟨0,p⟩:V)) np amZ
theorem asv:Gd ahs:=asu.add fun n hO p hp=>aI hO .rr
open Go Tw Pv cu
structure CG(d:Dg):Prop where
 s:d.ay.length<=ah
 o:d.aH.length<=ah
 e:d.aO.length<=ah
 n:d.aj.length<=ah
 k:∀b∈d.aj,b.aA.length<=ah
abbrev aht(a b:Dg)(i:Int)(x:List (Nat×PE aB)):aT aB:=⟨[(2,.loc 0 0),(3,.loc 1 0),(5,xi i)]++x,[a.ps,b.ps],[]⟩
def a13(a b:Dg)(k:Nat):Bool:=if((a.aj.getD k kL).var != (b.aj.getD k kL).var)=true then true else !(decide ((a.aj.getD k kL).aA=(b.aj.getD k kL).aA))
def ahu(a b:Dg):Unit⊕Nat->Ex×aT aB
 |.inl _=>(.exit 0,aht a b a.aj.length [(48,xl false)])
 |.inr _=>(.ret,⟨[(4,xl false)],[a.ps,b.ps],[]⟩)
theorem an0{n:Nat}(hO:Ok n ahs){a b:Dg}(h:CG a)(hl:a.aj.length=b.aj.length):Lp n 72 0 (aht a b 0 []) (ahu a b (bg (a13 a b) a.aj.length)).1 (ahu a b (bg (a13 a b) a.aj.length)).2:=by
 refine iJ (st:=fun i _=>aht a b i []) (g:=gS (a13 a b)) (out:=ahu a b) (fun _ _=>True) (by kernel_rfl) h.n trivial (fun k u m hk _ ih=>?_) (fun _ _=>?_)
 .have i1:fD (k:Int) a.aj.length:=aC hk;have i2:fD (k:Int) b.aj.length:=aC (by omega);have h9:=h.k _ (dw (d:=kL) hk);unfold gS a13;cases e1:((a.aj.getD k kL).var != (b.aj.getD k kL).var)
  .exact aJ hO (.b (aZ hk) (.o i1 (.o i2 (.b e1 (.o i1 (.o i2 (.o h9 (.ls (.ou nofun) (.nx (ih _ trivial))))))))))
  exact aJ hO (.b (aZ hk) (.o i1 (.o i2 (.b e1 (.ou nofun)))))
 exact aJ hO (.b (eP a.aj.length) (.ou nofun))
def FB(a b:Dg):Bool:=if(!(decide (a.ay=b.ay)))=true then false else if(!(decide (a.aH=b.aH)))=true then false else if(!(decide (a.aO=b.aO)))=true then false else if((a.aj.length:Int) != (b.aj.length:Int))=true then false else if(a.root != b.root)=true then false else if jT (bg (a13 a b) a.aj.length)=true then true else false
def an4:dZ aB:=bK 72 (a2 dA dA) tA (fun p=>FB p.1 p.2) (fun p=>[CG p.1]) ahs
theorem asw:Gd an4:=asv.add fun n hO p hp=>aI hO (.o (show CG p.1 from hp _ gQ).s (.ss .rr (.o (show CG p.1 from hp _ gQ).o (.ss .rr (.o (show CG p.1 from hp _ gQ).e (.ss .rr (.sh (fun _=>.rr) fun h4=>.ss .rr (.zh (fun h=>.w (l7 (an0 hO (show CG p.1 from hp _ gQ) (show p.1.aj.length=p.2.aj.length by simp at h4;omega)) () h) .rr) fun h=>.w (l9 (an0 hO (show CG p.1 from hp _ gQ) (show p.1.aj.length=p.2.aj.length by simp at h4;omega)) 0 h) .rr))))))))
def an5:dZ aB:=bK 25 (a3 dA iA dA) tA (fun p=>(if(p.2.1==0)=true then FB p.1 p.2.2 else false)) (fun p=>[CG p.1]) an4
theorem asx:Gd an5:=asw.add fun n hO p hp=>aI hO (.ss (.o (hp _ gQ) .rr) .rr)
def an6:dZ aB:=bK 24 (a1 dA) tA (fun p=>FB p iL) (fun p=>[CG p]) an5
theorem asy:Gd an6:=asx.add fun n hO p hp=>aI hO (.o (hp _ gQ) .rr)
def WS(s o:LI0):Bool:=if decide ((s.length:Int)>8)=true then false else if decide ((o.length:Int)>8)=true then false else if(bY s o != 0)=true then true else decide (FY s<=200)
def ahv:dZ aB:=bK 54 (a2 qQ qQ) tA (fun p=>WS p.1 p.2) np an6
theorem asz:Gd ahv:=asy.add fun n hO p hp=>aI hO (.sh (fun _=>.rr) fun h1=>.sh (fun _=>.rr) fun h2=>.o (show p.2.length<=ah by simp at h2;unfold ah;omega) (.ss .rr (.o (show p.1.length<=ah by simp at h1;unfold ah;omega) .rr)))
open Go Tw Pv cu
abbrev wCp(d:Dg)(acc:List Br)(i:Int)(x:List (Nat×PE aB)):aT aB:=⟨[(1,.loc 0 0),(2,.loc 1 0),(3,.loc 2 0),(4,xi i)]++x,[d.ps,[.nil .aP,.nil .aP,.nil .aP,.nil .aP,.int .i64 0],[lI d.ay,lI d.aH,lV d.aO,.own 0,.int .i64 d.root]],[.list false false 105 acc]⟩
theorem lCp{n:Nat}{d:Dg}(hO:Ok n ahv)(h:CG d):Lp n 21 0 (wCp d [] 0 []) (.exit 0) (wCp d d.aj d.aj.length [(21,xl false)]):=by
 have e:aU (fun k (a:List Br)=>a++[d.aj.getD k kL]) d.aj.length 0 []=d.aj:=by rw[Qb,Ko d.aj kL fun r=>r,List.map_id']
 rw[show wCp d d.aj d.aj.length [(21,xl false)]=wCp d (aU (fun k (a:List Br)=>a++[d.aj.getD k kL]) d.aj.length 0 []) d.aj.length [(21,xl false)] by rw[e]];refine sV (σ:=List Br) (N:=d.aj.length) (g:=fun k (a:List Br)=>a++[d.aj.getD k kL]) (s0:=([]:List Br)) (st:=fun i a=>wCp d a i []) (fin:=fun a=>wCp d a d.aj.length [(21,xl false)]) (fun k a=>a.length=k) (by kernel_rfl) h.n rfl (fun k a _ h=>by simp[h]) (fun k a hk ha m e p g9=>?_) (fun a _=>?_)
 .have hm:=h.k (d.aj.getD k kL) (dw hk);have hn:=h.n;have hal:a.length+[d.aj.getD k kL].length<=ah:=by have:a.length=k:=ha;rw[a4b];omega
  exact aJ hO (.b (aZ hk) (.o (aC hk) (.o (aC hk) (.o hm (.o hal (.goG [.gc [2]] g9))))))
 exact aJ hO (.b (eP d.aj.length) .ex)
def ahw:dZ aB:=bK 21 (a1 dA) dA (fun p=>p) (fun p=>[CG p]) ahv
theorem asA:Gd ahw:=asz.add fun n hO p hp=>aI hO (.o (show CG p from hp _ gQ).s (.o (show CG p from hp _ gQ).o (.o (show CG p from hp _ gQ).e (.wG [.Ph 2 3 105] (lCp hO (hp _ gQ)) .rr))))
abbrev wTh(d:Dg)(i:Int)(x:List (Nat×PE aB)):aT aB:=⟨[(1,.loc 0 0),(3,xi i)]++x,[d.ps],[]⟩
def cTh(d:Dg)(k:Nat):Bool:=decide (((d.aj.getD k kL).aA.length:Int)>14)
def zTh(d:Dg):Unit⊕Nat->Ex×aT aB
 |.inl _=>(.exit 0,wTh d d.aj.length [(26,xl false)])
 |.inr _=>(.ret,⟨[(2,xl false)],[d.ps],[]⟩)
theorem lTh{n:Nat}(hO:Ok n ahw){d:Dg}(h:d.aj.length<=ah):Lp n 18 0 (wTh d 0 []) (zTh d (bg (cTh d) d.aj.length)).1 (zTh d (bg (cTh d) d.aj.length)).2:=by
 refine iJ (st:=fun i _=>wTh d i []) (g:=gS (cTh d)) (out:=zTh d) (fun _ _=>True) (by kernel_rfl) h trivial (fun k u m hk _ ih=>?_) (fun _ _=>?_)
 .unfold gS cTh;exact aJ hO (.b (aZ hk) (.o (aC hk) (.ls (.ou nofun) (.nx (ih _ trivial)))))
 exact aJ hO (.b (eP d.aj.length) (.ou nofun))
def KP(d:Dg):Bool:=if(!(WS d.ay d.aH))=true then false else if decide ((d.aO.length:Int)>40)=true then false else if decide ((d.aj.length:Int)>60)=true then false else if jT (bg (cTh d) d.aj.length)=true then true else false
def an8:dZ aB:=bK 18 (a1 dA) tA (fun p=>KP p) np ahw
theorem asD:Gd an8:=asA.add fun n hO p hp=>aI hO (.ss .rr (.ss .rr (.sh (fun _=>.rr) fun h3=>.zh (fun h=>.w (l7 (lTh hO (show p.aj.length<=ah by simp at h3;unfold ah;omega)) () h) .rr) fun h=>.w (l9 (lTh hO (show p.aj.length<=ah by simp at h3;unfold ah;omega)) 0 h) .rr)))
theorem Zd{d:Dg}(h:KP d=true):CG d∧d.ay.length<=8∧d.aH.length<=8∧d.aO.length<=40∧d.aj.length<=60:=by
 unfold KP at h;split at h
 .cases h
 rename_i h1;split at h
 .cases h
 rename_i h2;split at h
 .cases h
 rename_i h3;split at h
 .rename_i h4;have h1:WS d.ay d.aH=true:=by simpa using h1
  unfold WS at h1;split at h1
  .cases h1
  rename_i q1;split at h1
  .cases h1
  rename_i q2;simp at h2 h3 q1 q2;refine⟨⟨by unfold ah;omega,by unfold ah;omega,by unfold ah;omega,by unfold ah;omega,fun b hb=>?_⟩,by omega,by omega,by omega,by omega⟩;obtain⟨k,hk,e⟩:=a9F hb;have:=dK.1 h4 k hk;unfold cTh at this;rw[a3r,a0D hk,a5z,e]at this;simp at this;unfold ah;omega
 cases h
open Go Tw Pv cu
theorem Ze{d:Dg}(h:bf d=0):bY d.ay d.aH=0:=by
 unfold bf at h;split at h
 .rename_i c;rw[h]at c;cases c
 rename_i c;simpa using c
theorem vJ.of{d:Dg}(h:vJ d){l:List V}(hl:l.length=E8 d.ay):OfP d.ay d.aH l∧(PtP d.ay d.aH l∧d.aH.length<=6∧wO d.ay d.aH<=ah):=by obtain⟨bQ,ord⟩:=kE.1 (Ze h.l);have ho:OfP d.ay d.aH l:=⟨bQ,ord,by rw[hl,bQ.a4d]⟩;obtain⟨q1,q2,q3⟩:=ho.p;have hw:=Ep bQ.sz ord;have hm:=bQ.many;have h6:=bQ.len;exact⟨ho,q1,by omega,by unfold ah;omega⟩
open Go Tw Pv cu
def dX:Dg:=⟨[2,3],[0,1],[⟨0,1⟩,⟨0,2⟩],[⟨0,[-1,-2]⟩],0⟩
def dY:Dg:=⟨[2,3],[0,1],[⟨0,0⟩,⟨0,1⟩,⟨0,2⟩],[⟨1,[-1,-2,-3]⟩],0⟩
def cL(l:LI0):List V:=l.map fun n=>⟨0,n⟩
theorem a5b:QZ ([2,3],[0,1],0,1)=(dX,0):=by kernel_rfl
def dIf:Dg:=(CY (dY,dX,dY)).1
theorem an9:(CY (dY,dX,dY)).2=0∧iw dIf=0∧cellsD dIf=cL [0,1,1,0,2,2]:=⟨by kernel_rfl,by kernel_rfl,by kernel_rfl⟩
def dRs:Dg:=(LY (dY,1,2)).1
theorem ahy:(LY (dY,1,2)).2=0∧iw dRs=0∧cellsD dRs=cL [2,2,2,2,2,2]:=⟨by kernel_rfl,by kernel_rfl,by kernel_rfl⟩
def dWh:Dg:=(AO dY).1
theorem a9o:(AO dY).2=0∧iw dWh=0∧cellsD dWh=cL [0,1,0,0,1,0]:=⟨by kernel_rfl,by kernel_rfl,by kernel_rfl⟩
theorem aco:WR (dY,⟨0,2⟩)=(2,0):=by kernel_rfl
theorem a9p:Jj (dX,⟨0,2⟩)=([1,0],0):=by kernel_rfl
def GY:Dg:=(kJ (10,dX,dY)).1
theorem ahz:(kJ (10,dX,dY)).2=0:=by kernel_rfl
def dLe:Dg:=(kJ (14,dX,dY)).1
theorem ana:(kJ (14,dX,dY)).2=0:=by kernel_rfl
theorem acp:O6 ([dX,dY],dLe)=(⟨8,false,false,2,0,0,false,[0]⟩,0):=by kernel_rfl
def WT:List (V×Int):=fG (dB [GY,dX])
theorem anb:mZ WT=[0,1]:=by
 have e:((WT.filter fun e=>!decide (e.1.f>0)).map fun e=>e.1.n)=[0,1]:=by kernel_rfl
 unfold mZ;rw[e];unfold iq;exact List.mergeSort_of_pairwise (by simp)
theorem ahB:a3d (4,GY,dX)=(⟨4,false,false,0,0,1,true,[]⟩,0):=by
 have e1:aY [GY,dX]=0:=by kernel_rfl
 have e2:vI WT=true:=by kernel_rfl
 have e3:WT≠[]:=by
  intro h;have h2:WT.length=0:=by rw[h];rfl
  have h3:WT.length=3:=by kernel_rfl
  omega
 show(if(aY [GY,dX] != 0)=true then(An0,aY [GY,dX])else GX 4 WT)=_;rw[e1];show GX 4 WT=_;unfold GX;rw[a0F e3];show(if mZ WT=[]then _ else _)=_;rw[anb,e2];rfl
open Go Tw Pv cu
def ahC:dZ aB:=bK 73 afP (dM (a2 dA dA)) (fun p=>(dX,dY)) np an8
theorem asE:Gd ahC:=asD.add fun n hO p hp=>aI hO .rr
abbrev anP(a:An):List (PV aB):=[.int .u8 a.q,.bool a.none,.bool a.yes,.int .i64 a.n,.int .i64 a.lo,.int .i64 a.hi,.bool a.fault,lI a.set,.nil .aP]
abbrev wSa(a b:An)(i:Int)(x:List (Nat×PE aB)):aT aB:=⟨[(2,.loc 0 0),(3,.loc 1 0),(5,xi i)]++x,[anP a,anP b],[]⟩
theorem lSa{n:Nat}(hO:Ok n ahC){a b:An}:Lp n 35 0 (wSa a b 0 []) (.exit 0) (wSa a b 0 [(74,xl false)]):=by have:=LG (X:=X0) (P:=Qp) (T:=T) (L:=LL) (call:=iC n) (f:=35) (iy:=false) (nt:=D7 Qp 35) (B:=0) (b:=Q5 Qp 35 0) (σ:=Unit) (N:=0) (g:=fun _ s=>s) (s0:=()) (st:=fun i _=>wSa a b i []) (fin:=fun _=>wSa a b 0 [(74,xl false)]) (w:=wSa a b 0 []) (e:=.exit 0) (fun _ _=>True) (by kernel_rfl) (a5u _) RN trivial (fun _ _ _ _=>trivial) (fun k s hk=>absurd hk (Nat.not_lt_zero _)) (fun s _=>aJ hO (.b (rfl:decide ((0:Int)<0)=false) .ex));exact this
def acr(a b:An):Bool:=if(a.q != b.q)=true then false else if(!(a.none==b.none))=true then false else if(!(a.yes==b.yes))=true then false else if(a.n != b.n)=true then false else if(a.lo != b.lo)=true then false else if(a.hi != b.hi)=true then false else if(!(a.fault==b.fault))=true then false else if(!(decide (a.set=b.set)))=true then false else true
def ahD:dZ aB:=bK 35 (a2 WZ WZ) tA (fun p=>acr p.1 p.2) (fun p=>[p.1.set.length<=ah]) ahC
theorem asF:Gd ahD:=asE.add fun n hO p hp=>aI hO (.ss .rr (.ss .rr (.ss .rr (.ss .rr (.ss .rr (.ss .rr (.ss .rr (.o (hp _ gQ) (.ss .rr (.b (rfl:((0:Int) != 0)=false) (.w (lSa (a:=p.1) (b:=p.2) hO) .rr)))))))))))
open Go Tw Pv cu
theorem zi{d:Dg}(ho:d.aH.length<=ah)(he:d.aO.length<=ah)(h:(iw d==0)=true):vJ d:=by
 have h:iw d=0:=by simpa using h
 have h0:bf d=0:=by
  unfold iw at h;split at h
  .rename_i c;rw[h]at c;cases c
  rename_i c;simpa using c
 obtain⟨t,n⟩:=jo ho he (by rw[h0];rfl);exact⟨t,n,h0,t.bQ,ho,he⟩
abbrev wLz(d:Dg)(e:Int)(l:LI0)(acc:List V)(i:Int)(x:List (Nat×PE aB)):aT aB:=⟨[(1,xi e),(2,xL 3 l),(3,.loc 0 0),(7,.val (.own 0)),(8,xi i)]++x,[d.ps],[.list false false 39 acc]⟩
theorem lLz{n:Nat}(hO:Ok n ahD)(d:Dg)(e:Int){l:LI0}(hl:l.length<=1000):Lp n 74 0 (wLz d e l [] 0 []) (.exit 0) (wLz d e l (cL l) l.length [(12,xl false)]):=by
 have e1:aU (fun k (a:List V)=>a++[(⟨0,l.getD k 0⟩:V)]) l.length 0 []=cL l:=by rw[Qb,Ko l 0 fun r=>(⟨0,r⟩:V)];rfl
 rw[<-e1];refine sV (σ:=List V) (N:=l.length) (g:=fun k (a:List V)=>a++[(⟨0,l.getD k 0⟩:V)]) (s0:=([]:List V)) (st:=fun i a=>wLz d e l a i []) (fin:=fun a=>wLz d e l a l.length [(12,xl false)]) (fun k a=>a.length=k) (by kernel_rfl) (by unfold ah;omega) rfl (fun k a _ h=>by simp[h]) (fun k a hk ha m e p g9=>?_) (fun a _=>?_)
 .have hal:a.length+[(⟨0,l.getD k 0⟩:V)].length<=ah:=by have:a.length=k:=ha;rw[a4b];unfold ah;omega
  exact aJ hO (.b (aZ hk) (.o (aC hk) (.o hal (.goG [.gc [2]] g9))))
 exact aJ hO (.b (eP l.length) .ex)
def ane(p:Dg×Int×LI0):Bool:=if(p.2.1==0)=true then(if(iw p.1==0)=true then decide (cellsD p.1=cL p.2.2)else false)else false
def acs:dZ aB:=bK 74 (a3 dA iA qQ) tA (fun p=>ane p) (fun p=>[p.1.aH.length<=ah,p.1.aO.length<=ah,p.2.2.length<=1000,(cellsD p.1).length<=ah]) ahD
theorem asG:Gd acs:=asF.add fun n hO p hp=>aI hO (.wG [.Gv 7 39] (lLz hO p.1 p.2.1 (hp _ hh2)) (.ss (.o (hp _ gQ) (.o (hp _ vX) (.sh (fun h=>.o (zi (hp _ gQ) (hp _ vX) h) (.o (hp _ (.tail _ (.tail _ (.tail _ (.head _))))) .rr)) (fun _=>.rr)))) .rr))
open Go Tw Pv cu
theorem WU{d:Dg}(h:((d.aj.all fun n=>n.aA.all fun k=>decide (-1000<=k)&&decide (k<=1000))&&(decide (-1000<=d.root)&&decide (d.root<=1000))&&(d.aO.all fun v=>decide (0<=v.f))&&(decide (d.ay.length<=100)&&decide (d.aH.length<=100)&&decide (d.aO.length<=100)))=true):nO d:=by
 simp only[a2c,a1n,a5s]at h;obtain⟨⟨⟨h1,h2⟩,h3⟩,⟨h4,h5⟩,h6⟩:=h;refine⟨⟨fun i hi k hk=>?_,?_,h3⟩,by unfold ah;omega,by omega,by unfold ah;omega⟩
 .have h7:=h1 _ (dw (d:=(⟨0,[]⟩:Br)) hi) _ (dw (d:=(0:Int)) hk);show GN ((fH d i).aA.getD k 0);unfold GN;have h8:((d.aj.getD i ⟨0,[]⟩).aA.getD k 0)=(fH d i).aA.getD k 0:=rfl;rw[h8]at h7;omega
 unfold GN;omega
theorem pX:nO dX:=WU (by kernel_rfl)
theorem pY:nO dY:=WU (by kernel_rfl)
theorem a9q:nO GY:=WU (by kernel_rfl)
theorem pLe:nO dLe:=WU (by kernel_rfl)
abbrev dvA(d:Dg):PV aB:=(dM (a2 dA iA)).put (d,0)
theorem ahE:(dRs,(0:Int))=LY (dY,1,2):=ad3 rfl ahy.1.symm
theorem a9r:(dWh,(0:Int))=AO dY:=ad3 rfl a9o.1.symm
theorem ahF:(GY,(0:Int))=kJ (10,dX,dY):=ad3 rfl ahz.symm
theorem ang:(dLe,(0:Int))=kJ (14,dX,dY):=ad3 rfl ana.symm
section
variable {n:Nat} (hO:Ok n acs)
include hO
theorem anh:iV n (.fn 73 [] []) [] [] ((dM (a2 dA dA)).put (dX,dY)) []:=
 sG hX hO (f:=73) (first:=[]) (xs:=[]) (cap:=[]) (vs:=[]) (v:=(dM (a2 dA dA)).put (dX,dY)) (H:=[]) (ps:=[]) rfl (by kernel_rfl) (fun _ h=>by cases h) rfl
theorem acu{j k:Bool}:iV n (.fn 57 [] []) [.own 0,.own 1,.int .i64 0,.int .i64 1] [.list j k 3 ([2,3]:LI0),.list j k 3 ([0,1]:LI0)] (dvA dX) [.gone,.gone]:=by unfold dvA;rw[<-a5b];exact sG hX hO (f:=57) (first:=[]) (xs:=[.own 0,.own 1,.int .i64 0,.int .i64 1]) (cap:=[]) (vs:=[.dH 3 ([2,3]:LI0) false,.dH 3 ([0,1]:LI0) false,.int .i64 0,.int .i64 1]) (v:=(dM (a2 dA iA)).put (QZ ([2,3],[0,1],0,1))) (H:=[.list j k 3 ([2,3]:LI0),.list j k 3 ([0,1]:LI0)]) (ps:=[([2,3]:LI0).length<=ah,([0,1]:LI0).length<=2^20]) rfl (by kernel_rfl) (by simp[ah]) rfl
theorem aIf:iV n (.fn 63 [] []) [.agg dY.ps,.agg dX.ps,.agg dY.ps] [] (dvA dIf) []:=by have e:(dIf,(0:Int))=CY (dY,dX,dY):=ad3 rfl an9.1.symm;unfold dvA;rw[e];exact sG hX hO (f:=63) (first:=[]) (cap:=[]) (vs:=[.agg dY.ps,.agg dX.ps,.agg dY.ps]) (v:=(dM (a2 dA iA)).put (CY (dY,dX,dY))) (H:=[]) (ps:=[nO dY,nO dX,nO dY]) rfl (by kernel_rfl) (by simp[pX,pY]) rfl
theorem asH:iV n (.fn 20 [] []) [.agg dY.ps,.int .i64 1,.int .i64 2] [] (dvA dRs) []:=by rw[show(dvA dRs:PV aB)=((dM (a2 dA iA)).put (LY (dY,1,2)))from by rw[<-ahE]];exact sG hX hO (f:=20) (first:=[]) (xs:=[.agg dY.ps,.int .i64 1,.int .i64 2]) (cap:=[]) (vs:=[.agg dY.ps,.int .i64 1,.int .i64 2]) (v:=((dM (a2 dA iA)).put (LY (dY,1,2)))) (H:=[]) (ps:=[nO dY]) rfl (by kernel_rfl) (by simp[pX,pY,a9q,pLe]) rfl
theorem ahG:iV n (.fn 67 [] []) [.agg dY.ps] [] (dvA dWh) []:=by rw[show(dvA dWh:PV aB)=((dM (a2 dA iA)).put (AO dY))from by rw[<-a9r]];exact sG hX hO (f:=67) (first:=[]) (xs:=[.agg dY.ps]) (cap:=[]) (vs:=[.agg dY.ps]) (v:=((dM (a2 dA iA)).put (AO dY))) (H:=[]) (ps:=[nO dY]) rfl (by kernel_rfl) (by simp[pX,pY,a9q,pLe]) rfl
theorem ani:iV n (.fn 27 [] []) [.agg dY.ps,.agg (⟨0,2⟩:V).ps] [] ((dM (a2 iA iA)).put (2,0)) []:=by rw[show((dM (a2 iA iA)).put (2,0):PV aB)=((dM (a2 iA iA)).put (WR (dY,⟨0,2⟩)))from by rw[aco]];exact NQ hX hO (f:=27) (first:=[]) (xs:=[.agg dY.ps,.agg (⟨0,2⟩:V).ps]) (cap:=[]) (vs:=[.agg dY.ps,.agg (⟨0,2⟩:V).ps]) (v:=((dM (a2 iA iA)).put (WR (dY,⟨0,2⟩)))) (H:=[]) (ps:=[nO dY]) rfl (by kernel_rfl) (by simp[pY]) rfl
theorem ahH:iV n (.fn 28 [] []) [.agg dX.ps,.agg (⟨0,2⟩:V).ps] [] ((dM (a2 qQ iA)).put ([1,0],0)) []:=by rw[show((dM (a2 qQ iA)).put ([1,0],0):PV aB)=((dM (a2 qQ iA)).put (Jj (dX,⟨0,2⟩)))from by rw[a9p]];exact sG hX hO (f:=28) (first:=[]) (xs:=[.agg dX.ps,.agg (⟨0,2⟩:V).ps]) (cap:=[]) (vs:=[.agg dX.ps,.agg (⟨0,2⟩:V).ps]) (v:=((dM (a2 qQ iA)).put (Jj (dX,⟨0,2⟩)))) (H:=[]) (ps:=[nO dX]) rfl (by kernel_rfl) (by simp[pX]) rfl
theorem asI:iV n (.fn 62 [] []) [.int .u8 10,.agg dX.ps,.agg dY.ps] [] (dvA GY) []:=by rw[show(dvA GY:PV aB)=((dM (a2 dA iA)).put (kJ (10,dX,dY)))from by rw[<-ahF]];exact sG hX hO (f:=62) (first:=[]) (xs:=[.int .u8 10,.agg dX.ps,.agg dY.ps]) (cap:=[]) (vs:=[.int .u8 10,.agg dX.ps,.agg dY.ps]) (v:=((dM (a2 dA iA)).put (kJ (10,dX,dY)))) (H:=[]) (ps:=[nO dX,nO dY]) rfl (by kernel_rfl) (by simp[pX,pY,a9q,pLe]) rfl
theorem aLe:iV n (.fn 62 [] []) [.int .u8 14,.agg dX.ps,.agg dY.ps] [] (dvA dLe) []:=by rw[show(dvA dLe:PV aB)=((dM (a2 dA iA)).put (kJ (14,dX,dY)))from by rw[<-ang]];exact sG hX hO (f:=62) (first:=[]) (xs:=[.int .u8 14,.agg dX.ps,.agg dY.ps]) (cap:=[]) (vs:=[.int .u8 14,.agg dX.ps,.agg dY.ps]) (v:=((dM (a2 dA iA)).put (kJ (14,dX,dY)))) (H:=[]) (ps:=[nO dX,nO dY]) rfl (by kernel_rfl) (by simp[pX,pY,a9q,pLe]) rfl
abbrev a9s:An:=⟨4,false,false,0,0,1,true,[]⟩
abbrev aeK:An:=⟨8,false,false,2,0,0,false,[0]⟩
theorem asJ:iV n (.fn 33 [] []) [.int .u8 4,.agg GY.ps,.agg dX.ps] [] ((dM (a2 WZ iA)).put (a9s,0)) []:=by rw[show((dM (a2 WZ iA)).put (a9s,0):PV aB)=((dM (a2 WZ iA)).put (a3d (4,GY,dX)))from by rw[ahB]];exact sG hX hO (f:=33) (first:=[]) (xs:=[.int .u8 4,.agg GY.ps,.agg dX.ps]) (cap:=[]) (vs:=[.int .u8 4,.agg GY.ps,.agg dX.ps]) (v:=((dM (a2 WZ iA)).put (a3d (4,GY,dX)))) (H:=[]) (ps:=[nO GY,nO dX]) rfl (by kernel_rfl) (by simp[a9q,pX]) rfl
end
open Go Tw Pv cu
theorem anj{n:Nat}(hn:24<=n)(BO:Ok n a9g)(CX:∀m,n-24<=m->Ok m qZ){k:Bool}:iV (n+1) (.fn 39 [] []) [.own 0,.agg dLe.ps] [.list k true 26 [dX,dY]] ((dM (a2 WZ iA)).put (aeK,0)) [.gone]:=by
 rw[<-acp];exact amS (l:=[dX,dY]) (d:=dLe) hn BO CX (fun x h=>by
  rcases a2x.1 h with rfl|h
  .exact pX
  rcases a2x.1 h with rfl|h
  .exact pY
  rw[a2U.1 h];exact pLe) (by show 2<=1000;omega)
theorem ank{n:Nat}(hO:Ok n acs):iV n (.fn 48 [] []) [.int .i64 2] [] (.agg (⟨0,2⟩:V).ps) []:=
 NQ hX hO (f:=48) (first:=[]) (xs:=[.int .i64 2]) (cap:=[]) (vs:=[.int .i64 2]) (v:=.agg (⟨0,2⟩:V).ps) (H:=[]) (ps:=[]) rfl (by kernel_rfl) (fun _ h=>by cases h) rfl
theorem Uz{a b:Nat}(h:Nat.ble a b=true):a<=b:=ahx h
theorem asK:CG dX:=⟨Uz (by kernel_rfl),Uz (by kernel_rfl),Uz (by kernel_rfl),Uz (by kernel_rfl),fun b h=>by rw[a2U.1 h];exact Uz (by kernel_rfl)⟩
def anl:dZ aB:=bK 19 afP tA (fun _=>true) np acs
theorem asL:Gd anl:=Good.a7w 25 asG amM Jf fun n hn hO CX hO3 p hp=>by obtain⟨m,rfl⟩:∃m,n=m+1:=⟨n-1,by omega⟩;have GK:=hO (m+1) (by omega);exact aI GK (.fr [] (anh GK) (.fr [0,1] (acu GK (j:=true) (k:=true)) (.fr [] (aIf GK) (.fr [] (asH GK) (.fr [] (ahG GK) (.fr [] (ank GK) (.fr [] (ani GK) (.fr [] (ank GK) (.fr [] (ahH GK) (.fr [] (asI GK) (.fr [] (asJ GK) (.fr [] (aLe GK) (.fr [2] (anj (k:=true) (by omega) (CX m (by omega)) (fun k hk=>hO3 k (by omega))) (.o asK (.b (c:=true) (t:=true) rfl (.o (Uz (by kernel_rfl):dIf.aH.length<=ah) (.o (Uz (by kernel_rfl):dIf.aO.length<=ah) (.o (Uz (by kernel_rfl):([0,0,0,0,0,0]:LI0).length<=1000) (.o (Uz (by kernel_rfl):(cellsD dIf).length<=ah) (.b (c:=true) (t:=true) rfl (.o (Uz (by kernel_rfl):dRs.aH.length<=ah) (.o (Uz (by kernel_rfl):dRs.aO.length<=ah) (.o (Uz (by kernel_rfl):([0,0,0,0,0,0]:LI0).length<=1000) (.o (Uz (by kernel_rfl):(cellsD dRs).length<=ah) (.b (c:=true) (t:=true) rfl (.o (Uz (by kernel_rfl):dWh.aH.length<=ah) (.o (Uz (by kernel_rfl):dWh.aO.length<=ah) (.o (Uz (by kernel_rfl):([0,0,0,0,0,0]:LI0).length<=1000) (.o (Uz (by kernel_rfl):(cellsD dWh).length<=ah) (.b (c:=true) (t:=true) rfl (.b (c:=true) (t:=true) rfl (.b (c:=true) (t:=true) rfl (.b (c:=true) (t:=true) rfl (.o (Uz (by kernel_rfl):([1,0]:LI0).length<=ah) (.b (c:=true) (t:=true) rfl (.b (c:=true) (t:=true) rfl (.b (c:=true) (t:=true) rfl (.o (Uz (by kernel_rfl):a9s.set.length<=ah) (.b (c:=true) (t:=true) rfl (.b (c:=true) (t:=true) rfl (.b (c:=true) (t:=true) rfl (.o (Uz (by kernel_rfl):aeK.set.length<=ah) .rr))))))))))))))))))))))))))))))))))))))))))
open Go Tw Pv cu
theorem asM:BX V0:=⟨by decide,by decide⟩
theorem wP{l:List V}(h:∀v∈l,BX v)(i:Nat):BX (l.getD i V0):=by
 by_cases c:i<l.length
 .exact h _ (dw c)
 rw[a3r,a4Y (by omega)];exact asM
theorem Rf{d:Dg}(h:∀v∈d.aO,BX v):∀v∈cellsD d,BX v:=fun v hv=>by obtain⟨k,_,rfl⟩:=a1e.1 hv;exact wP h _
theorem iR(d:Dg):(cellsD d).length=E8 d.ay:=by simp[cellsD]
theorem ahI{d:Dg}(h:iw d=0)(ho:d.aH.length<=ah)(he:d.aO.length<=ah):CG d:=by
 have l:=zi ho he (by rw[h];rfl);have h6:=l.f.len;have n6:=l.n;refine⟨by unfold ah;omega,ho,he,by unfold ah;omega,fun b hb=>?_⟩;obtain⟨i,hi,rfl⟩:=a9F hb;have:=l.t.Kr i hi;have e:fH d i=d.aj[i]:=by show d.aj.getD i kL=_;rw[a3r,a0D hi,a5z]
 rw[e]at this;unfold ah;omega
structure DgF(d:Dg):Prop where
 r:IY d
 k:iw d=0
 f:CG d
 e:d.aO.length<=2000
 o:d.aH.length=d.ay.length
 s:sJ d.ay
theorem ahJ{s o:LI0}{l:List V}(h:OfP s o l)(hv:∀v∈l,BX v):DgF (jE s o l):=by obtain⟨h1,h2,_⟩:=GR h fun v m=>(hv v m).1;obtain⟨r,k⟩:=abD h (fun v m=>(hv v m).1) fun v m=>(hv v m).2;have ho:=h.p.2.2;have h6:=h.bQ.len;exact⟨r,k,ahI k (by show o.length<=ah;unfold ah;omega) (by unfold ah;omega),h2,ho,h.bQ⟩
theorem ahK{J:Jb}(hJ:jV J){op:List V->V}(jY:qH J op):DgF (qj J op):=by rw[(Je hJ jY).2];exact ahJ ⟨hJ.bQ,hJ.ord,by rw[iR];show((E8 J.s:Nat):Int)=_;exact hJ.bQ.a4d⟩ (Rf (Aw hJ jY).2.2)
theorem a3e{d:Dg}(h:nO d):aY [d]=iw d:=by
 have e:(uT d).2=iw d:=by rw[QD h.r h.s (by have:=h.o;unfold ah;omega) h.e]
 have f:([d].all (Au (([d].getD 0 iL).ay,([d].getD 0 iL).aH)))=true:=by simp[Au]
 unfold aY;rw[f];split
 .rename_i c;have:=dK.1 c 0 (by simp);have h0:iw d=0:=by unfold cCk at this;rw[<-e];simpa using this
  rw[h0];rfl
 rename_i c;obtain⟨j,hj,_,_,e2⟩:=BJ (by simpa using c);have e2:bg (cCk [d]) [d].length=.inr j:=e2;rw[e2];have:j=0:=by have:j<1:=hj;omega
 subst this;exact e
theorem vK(a:Dg):FB a a=true:=by
 have h:jT (bg (a13 a a) a.aj.length)=true:=dK.2 fun k _=>by simp[a13]
 unfold FB;rw[h];simp
theorem a9t:CG iL:=⟨a5u _,a5u _,a5u _,a5u _,fun b h=>by cases h⟩
theorem ahL{d:Dg}(h:KP d=true)(r:IY d):nO d:=by obtain⟨f,h1,h2,h3,_⟩:=Zd h;exact⟨r,f.s,by omega,by unfold ah;omega⟩
open Go Tw Pv cu
theorem ahM{k lo hi:Int}:(!(mD k lo hi))=true↔¬(lo<=k∧k<=hi):=by rw[<-sU];cases mD k lo hi<;>simp
open Go Tw Pv cu
def a3f(p:Dg×Dg):Bool:=if decide (p.1.ay=p.2.ay)=true then decide (p.1.aH=p.2.aH)else false
def acv:dZ aB:=bK 70 (a2 dA dA) tA (fun p=>a3f p) (fun p=>[p.1.ay.length<=ah,p.1.aH.length<=ah]) anl
theorem asN:Gd acv:=asL.add fun n hO p hp=>aI hO (.o (hp _ gQ) (.ss (.o (hp _ vX) .rr) .rr))
theorem a9u(a b:Dg):a3f (a,b)=Au (a.ay,a.aH) b:=by
 unfold a3f Au;rw[a5w];by_cases h:a.ay=b.ay
 .by_cases h2:a.aH=b.aH
  .simp[h,h2]
  simp only[h,decide_true,a2s,a1n];exact⟨fun e=>absurd e h2,fun e=>absurd e.symm h2⟩
 have h3:¬b.ay=a.ay:=fun e=>h e.symm;simp[h,h3]
abbrev wCa(l:List Dg)(i:Int)(x:List (Nat×PE aB)):aT aB:=⟨[(0,xL 26 l),(3,xi i)]++x,[],[]⟩
abbrev wCb(l:List Dg)(i:Int)(x:List (Nat×PE aB)):aT aB:=⟨[(0,xL 26 l),(5,xi i)]++x,[],[]⟩
def Zf(l:List Dg)(k:Nat):Bool:=iw (l.getD k iL) != 0
def cA2(l:List Dg)(k:Nat):Bool:=!(a3f (l.getD 0 iL,l.getD k iL))
def zA1(l:List Dg):Unit⊕Nat->Ex×aT aB
 |.inl _=>(.exit 0,wCa l l.length [(9,xl false)])
 |.inr k=>(.ret,⟨[(2,xi (iw (l.getD k iL)))],[],[]⟩)
def zA2(l:List Dg):Unit⊕Nat->Ex×aT aB
 |.inl _=>(.exit 2,wCb l l.length [(23,xl false)])
 |.inr _=>(.ret,⟨[(2,xi 2)],[],[]⟩)
theorem lA1{n:Nat}(hO:Ok n acv){l:List Dg}(hf:∀d∈l,CG d)(hl:l.length<=ah):Lp n 34 0 (wCa l 0 []) (zA1 l (bg (Zf l) l.length)).1 (zA1 l (bg (Zf l) l.length)).2:=by
 refine iJ (st:=fun i _=>wCa l i []) (g:=gS (Zf l)) (out:=zA1 l) (fun _ _=>True) (by kernel_rfl) hl trivial (fun k u m hk _ ih=>?_) (fun _ _=>?_)
 .have h:=hf _ (dw (d:=iL) hk);unfold gS Zf;exact aJ hO (.b (aZ hk) (.o (aC hk) (.o h.o (.o h.e (.ls (.ou nofun) (.nx (ih _ trivial)))))))
 exact aJ hO (.b (eP l.length) (.ou nofun))
theorem lA2{n:Nat}(hO:Ok n acv){l:List Dg}(hf:∀d∈l,CG d)(h0:0<l.length)(hl:l.length<=ah):Lp n 34 1 (wCb l 1 []) (zA2 l (lq (gS (cA2 l)) (l.length-1) 1 ())).1 (zA2 l (lq (gS (cA2 l)) (l.length-1) 1 ())).2:=by
 refine a2w (a:=1) (st:=fun i _=>wCb l i []) (g:=gS (cA2 l)) (out:=zA2 l) (fun _ _=>True) (by kernel_rfl) h0 hl trivial (fun k u m hk0 hk _ ih=>?_) (fun _ _=>?_)
 .have h:=hf _ (dw (d:=iL) h0);unfold gS cA2;exact aJ hO (.b (aZ hk) (.o (aC h0) (.o (aC hk) (.o h.s (.o h.o (.ls (.ou nofun) (.nx (ih _ trivial))))))))
 exact aJ hO (.b (eP l.length) (.ou nofun))
def jh(l:List Dg):Int:=match bg (Zf l) l.length with
 |.inr k=>iw (l.getD k iL)
 |.inl _=>match lq (gS (cA2 l)) (l.length-1) 1 ()with
  |.inr _=>2
  |.inl _=>0
def ahN:dZ aB:=bK 34 (a1 a0z) iA jh (fun l=>[∀d∈l,CG d,0<l.length∧l.length<=ah]) acv
theorem asT:Gd ahN:=asN.add fun n hO l hp=>by
 have hf:∀d∈l,CG d:=hp _ gQ;obtain⟨h0,hl⟩:0<l.length∧l.length<=ah:=hp _ vX;have lp:=lA1 hO hf hl;have lp2:=lA2 hO hf h0 hl;show nR X0 Qp _ _ _ (iA.put (match bg (Zf l) l.length with
  |.inr k=>iw (l.getD k iL)
  |.inl _=>match lq (gS (cA2 l)) (l.length-1) 1 ()with
   |.inr _=>2
   |.inl _=>0)) _
 revert lp lp2;rcases bg (Zf l) l.length with _|k
 .rcases lq (gS (cA2 l)) (l.length-1) 1 ()with _|j
  .intro lp lp2;exact aI hO (.w lp (.w lp2 .rr))
  .intro lp lp2;exact aI hO (.w lp (.w lp2 .rr))
 .intro lp lp2;exact aI hO (.w lp .rr)
theorem a3g{l:List Dg}(hp:∀d∈l,nO d)(h0:0<l.length):jh l=aY l:=by
 have hd:l.getD 0 iL∈l:=dw h0;have ec:∀k,k<l.length->(uT (l.getD k iL)).2=iw (l.getD k iL):=fun k hk=>by have h:=hp _ (dw (d:=iL) hk);rw[QD h.r h.s (by have:=h.o;unfold ah;omega) h.e]
 have eb:∀k,k<l.length->cCk l k=Zf l k:=fun k hk=>by unfold cCk Zf;rw[ec k hk]
 unfold jh aY;cases e1:jT (bg (cCk l) l.length)
 .obtain⟨j,hj,h1,h2,h3⟩:=BJ e1;have e2:jT (bg (Zf l) l.length)=false:=by
   cases e:jT (bg (Zf l) l.length)
   .rfl
   have:=dK.1 e j hj;rw[<-eb j hj,h1]at this;cases this
  obtain⟨i,hi,g1,g2,g3⟩:=BJ e2;have:i=j:=by
   by_cases c:i<j
   .have:=h2 i c;rw[eb i hi,g1]at this;cases this
   by_cases c2:j<i
   .have:=g2 j c2;rw[<-eb j hj,h1]at this;cases this
   omega
  subst this;rw[g3,h3,a0F (by simp)];exact(ec i hi).symm
 have h1:=dK.1 e1;have e2:jT (bg (Zf l) l.length)=true:=dK.2 fun j hj=>by rw[<-eb j hj];exact h1 j hj
 rw[a0I rfl];rcases e3:bg (Zf l) l.length with u|k
 rotate_left
 .rw[e3]at e2;cases e2
 show(match lq (gS (cA2 l)) (l.length-1) 1 ()with
  |.inr _=>(2:Int)
  |.inl _=>0)=_
 have hs:Au ((l.getD 0 iL).ay,(l.getD 0 iL).aH) (l.getD 0 iL)=true:=by simp[Au]
 rcases e4:lq (gS (cA2 l)) (l.length-1) 1 ()with u|j
 .have h2:=(IB (r:=fun k=>k) (c:=cA2 l) (m:=l.length-1) (k:=1)).1 (by unfold gS at e4;rw[e4];rfl);rw[a0F];rw[aeJ,abA,a5s];intro d hd2;obtain⟨k,hk,rfl⟩:=a9F hd2;have ek:l[k]=l.getD k iL:=by rw[a3r,a0D hk,a5z]
  rw[ek];by_cases c:k=0
  .subst c;exact hs
  have:=h2 k (by omega) (by omega);unfold cA2 at this;rw[a9u]at this;simpa using this
 have h2:=Y5 (r:=fun k=>k) (c:=cA2 l) (m:=l.length-1) (k:=1) (by unfold gS at e4;rw[e4];rfl);obtain⟨i,hi1,KY,h3,_⟩:=h2;rw[a0I];rw[a9m,List.all_eq_false];unfold cA2 at h3;rw[a9u]at h3;exact⟨l.getD i iL,dw (by omega),by simpa using h3⟩
open Go Tw Pv cu
theorem acw(a b:Dg):0<[a,b].length∧[a,b].length<=ah:=⟨by simp,by show 2<=ah;unfold ah;omega⟩
open Go Tw Pv cu
theorem LZ{a b c:V}(ha:BX a)(hb:BX b)(hc:BX c):(iI a b c).2=0:=by
 unfold iI;rw[a0F (by rw[a4n (jB.1 ha) (jB.1 hb) (jB.1 hc)];simp)]
 repeat' split
 all_goals rfl
theorem a9v{k:Int}{a b:V}(h:tY k=true)(ha:BX a)(hb:BX b):(jR k a b).2=0:=by
 have h9:7<=k∧k<=16:=by simpa[tY]using h
 have e2:¬(!(gW [a,b]))=true:=by rw[ajY (jB.1 ha) (jB.1 hb)];simp
 unfold jR;rw[a0I h];rcases nine h9 with rfl|rfl|rfl|rfl|rfl|rfl|rfl|rfl|rfl|rfl
 .show(oQ a b).2=0;unfold oQ;rw[a0F e2];split<;>rfl
 .show(oU a b).2=0;unfold oU;rw[a0F e2];split<;>rfl
 .show(oV a b).2=0;unfold oV;rw[a0F e2];split<;>rfl
 .show(mG a b).2=0;unfold mG;rw[a0F e2];split<;>rfl
 .show(mJ a b).2=0;unfold mJ;rw[a0F e2];split<;>rfl
 .show(mM a b).2=0;unfold mM;rw[a0F e2];split<;>rfl
 .show(mO a b).2=0;unfold mO;rw[a0F e2];split<;>rfl
 .show(mP a b).2=0;unfold mP;rw[a0F e2];split<;>rfl
 .show(iI a b (lQ 0)).2=0;exact LZ ha hb ⟨by kernel_rfl,by decide⟩
 show(iI a (lQ 1) b).2=0;exact LZ ha ⟨by kernel_rfl,by decide⟩ hb
theorem acy{s q:LI0}(hq:jd s q=true):ov (List.replicate s.length (-1)) q=q:=by
 have hl:=nS hq;refine(o8 (d:=(0:Int)) (by simp[ov,aeU,hl])).2 fun k hk=>?_;have lG:k<s.length:=by simp[ov,aeU,hl]at hk;exact hk
 rw[KD (by rw[a9j,hl]),a0I (by rw[a9j];exact lG),a0F];rw[a3r,ags,a0I lG];decide
theorem KQ{D:List Dg}{op:List V->V}(hJ:jV (dB D)):QN (dB D) op=(List.range (E8 (D.getD 0 iL).ay)).map fun(k:Nat)=>op (D.map fun d=>vH d (jO (D.getD 0 iL).ay k)):=by unfold QN;refine a5v fun k _=>?_;have h:ov (dB D).g (jO (dB D).s k)=jO (D.getD 0 iL).ay k:=acy (wW _ hJ.bQ.sz);rw[h];rfl
theorem asU{a b:Dg}(ha:nO a)(hb:nO b)(h:aY [a,b]=0){c:Int}(hc:tY c=true):jV (dB [a,b])∧qH (dB [a,b]) (MS c):=by have h1:=Z8 (P:=nO) ha hb;have hJ:=uJ (D:=[a,b]) (by simp) (by simp) h1 h;exact⟨hJ,yw hJ (Jb.inD h1 h) fun l hl hv=>(WO hc (hv _ (dw (show 0<l.length by rw[hl];exact Nat.zero_lt_two))) (hv _ (dw (show 1<l.length by rw[hl];exact Nat.one_lt_two)))).1⟩
theorem acz{a b:Dg}(h:aY [a,b]=0){c:Int}(hc:tY c=true):kJ (c,a,b)=(qj (dB [a,b]) (MS c),0):=by show(if(aY [a,b] != 0)=true then(iL,aY [a,b])else if((jR c iG iG).2 != 0)=true then(iL,(jR c iG iG).2)else(qj (dB [a,b]) (MS c),0))=_;rw[h,a9v hc O5 O5,a0F (by simp),a0F (by simp)]
open Go Tw Pv cu
theorem asV{a:Dg}(ha:nO a)(h:aY [a]=0){op:List V->V}(ho:∀l,(∀v∈l,BX v)->l.length=1->BX (op l)):jV (dB [a])∧qH (dB [a]) op:=by have hJ:=uJ (D:=[a]) (by simp) (by simp) (a0Z ha) h;exact⟨hJ,yw hJ (Jb.inD (a0Z ha) h) fun l hl hv=>ho l hv hl⟩
theorem UA{l:List Dg}(h:jh l=0):∀d∈l,iw d=0:=by
 have e:jT (bg (Zf l) l.length)=true:=by
  cases e:jT (bg (Zf l) l.length)
  .obtain⟨j,hj,h1,_,h3⟩:=BJ e;unfold jh at h;rw[h3]at h;have h:iw (l.getD j iL)=0:=h;unfold Zf at h1;rw[h]at h1;cases h1
  rfl
 intro d hd;obtain⟨k,hk,rfl⟩:=a9F hd;have:=dK.1 e k hk;unfold Zf at this;rw[a3r,a0D hk,a5z]at this;simpa using this
open Go Tw Pv cu
abbrev wTl(l:List Dg)(i:Int)(e:List (Nat×PE aB)):aT aB:=⟨[(0,xL 26 l),(3,xi i)]++e,[],[]⟩
def cTl(l:List Dg)(k:Nat):Bool:=!(KP (l.getD k iL))
def zTl(l:List Dg):Unit⊕Nat->Ex×aT aB
 |.inl _=>(.exit 0,wTl l (min l.length 7:Nat) [(11,xl false)])
 |.inr _=>(.ret,⟨[(2,xl false)],[],[]⟩)
theorem lTl{n:Nat}(hO:Ok n ahN){l:List Dg}:Lp n 38 0 (wTl l 0 []) (zTl l (bg (cTl l) (min l.length 7))).1 (zTl l (bg (cTl l) (min l.length 7))).2:=by
 refine iJ (st:=fun i _=>wTl l i []) (g:=gS (cTl l)) (out:=zTl l) (fun _ _=>True) (by kernel_rfl) (by unfold ah;omega) trivial (fun k u m hk _ ih=>?_) (fun _ _=>?_)
 .have h1:k<l.length:=by omega
  have t2:decide ((k:Int)<7)=true:=by rw[a1n];omega
  unfold gS cTl;exact aJ hO (.b (aZ h1) (.b t2 (.o (aC h1) (.ls (.ou nofun) (.nx (ih _ trivial))))))
 by_cases h:l.length<=7
 .have t1:decide (((min l.length 7:Nat):Int)<(l.length:Int))=false:=by rw[a2b];omega
  exact aJ hO (.b t1 (.ou nofun))
 have t1:decide (((min l.length 7:Nat):Int)<(l.length:Int))=true:=by rw[a1n];omega
 have t2:decide (((min l.length 7:Nat):Int)<7)=false:=by rw[a2b];omega
 exact aJ hO (.b t1 (.b t2 (.ou nofun)))
def O7(l:List Dg):Bool:=if jT (bg (cTl l) (min l.length 7))=true then decide ((l.length:Int)<=6)else false
def ahO:dZ aB:=bK 38 (a1 a0z) tA O7 np ahN
theorem asY:Gd ahO:=asT.add fun n hO l hp=>by
 have lp:=lTl hO (l:=l);show nR X0 Qp _ _ _ (tA.put (if jT (bg (cTl l) (min l.length 7))=true then decide ((l.length:Int)<=6)else false)) _;revert lp;rcases bg (cTl l) (min l.length 7)with u|k
 .intro lp;exact aI hO (.w lp .rr)
 .intro lp;exact aI hO (.w lp .rr)
theorem a9w{l:List Dg}(h:O7 l=true):l.length<=6∧∀d∈l,KP d=true:=by
 unfold O7 at h;split at h
 .rename_i c;have h6:l.length<=6:=by have:=a6B h;omega
  refine⟨h6,fun d hd=>?_⟩;obtain⟨k,hk,rfl⟩:=a9F hd;have:=dK.1 c k (by omega);unfold cTl at this;rw[a3r,a0D hk,a5z]at this;simpa using this
 cases h
abbrev wCy(l acc:List Dg)(i:Int)(e:List (Nat×PE aB)):aT aB:=⟨[(0,xL 26 l),(3,.val (.own 0)),(4,xi i)]++e,[],[.list false false 26 acc]⟩
theorem lCy{n:Nat}(hO:Ok n ahO){l:List Dg}(hf:∀d∈l,CG d)(hl:l.length<=1000):Lp n 40 0 (wCy l [] 0 []) (.exit 0) (wCy l l l.length [(8,xl false)]):=by
 have e1:aU (fun k (a:List Dg)=>a++[l.getD k iL]) l.length 0 []=l:=by rw[Qb,Ko l iL fun r=>r,List.map_id']
 have:=sV (n:=n) (f:=40) (k:=0) (B:=0) (σ:=List Dg) (N:=l.length) (g:=fun k (a:List Dg)=>a++[l.getD k iL]) (s0:=([]:List Dg)) (st:=fun i a=>wCy l a i []) (e:=.exit 0) (fin:=fun a=>wCy l a l.length [(8,xl false)]) (w:=wCy l [] 0 []) (fun k a=>a.length=k) (by kernel_rfl) (by unfold ah;omega) rfl (fun k a _ h=>by simp[h]) (fun k a hk ha m e p g9=>by
  have hal:a.length+[l.getD k iL].length<=ah:=by have:a.length=k:=ha;rw[a4b];unfold ah;omega
  exact aJ hO (.b (aZ hk) (.o (aC hk) (.o (hf _ (dw (d:=iL) hk)) (.o hal (.goG [.gc [2]] g9)))))
  ) (fun a _=>aJ hO (.b (eP l.length) .ex))
 rw[e1]at this;exact this
def ahP:dZ aB:=bK 40 (a1 a0z) a0z (fun p=>p) (fun p=>[∀d∈p,CG d,p.length<=1000]) ahO
theorem asZ:Gd ahP:=asY.add fun n hO p hp=>aI hO (.wG [.Gv 3 26] (lCy hO (hp _ gQ) (hp _ vX)) .rr)
theorem a14{n:Nat}(hO:Ok n acj){d:Dg}(h:vJ d):iV (n+1) (.fn 44 [] []) [.agg d.ps] [] (.own 0) [.list false false 39 (cellsD d)]:=by
 have hb:(bf d != 0)=false:=by rw[h.l];rfl
 exact fQ hO (first:=[]) (cap:=[]) (.o h.o (.o h.e (.b hb (.wG [.Gv 3 39] (lLs hO d h) .er))))
theorem Ri(f:Nat->V->V)(l:List V):aU (fun k (x:List V)=>x.set k (f k (x.getD k V0))) l.length 0 l=(List.range l.length).map fun k=>f k (l.getD k V0):=by
 have:=bV (g:=fun k (x:List V)=>x.set k (f k (x.getD k V0))) (m:=l.length) (k:=0) (s:=l) (fun k x=>x.length=l.length∧∀j,j<l.length->x.getD j V0=if j<k then f j (l.getD j V0)else l.getD j V0) ⟨rfl,fun j _=>by simp⟩ (fun k x _ hk h=>by
  refine⟨by rw[a5l];exact h.1,fun j hj=>?_⟩;have hk:k<l.length:=by omega
  by_cases e:k=j
  .subst e;rw[a0I (by omega),a3r,a1Z (by rw[h.1];exact hj),a5z,h.2 k hj,a0F (by omega)]
  rw[a3r,a1j e,<-a3r,h.2 j hj];by_cases c:j<k
  .rw[a0I c,a0I (by omega)]
  rw[a0F c,a0F (by omega)])
 rw[a4v]at this;refine(o8 (d:=V0) (by rw[this.1,a5c,a6T])).2 fun j hj=>?_;rw[this.1]at hj;have e:((List.range l.length).map fun k=>f k (l.getD k V0)).getD j V0=f j (l.getD j V0):=by rw[a3r,a5m,aeR hj];rfl
 rw[this.2 j hj,a0I hj,e]
open Go Tw Pv cu
abbrev ni5:List (PV aB):=[.nil .aP,.nil .aP,.nil .aP,.nil .aP,.int .i64 0]
abbrev wO1(q:Int)(d:Dg)(x:List V)(i:Int)(e:List (Nat×PE aB)):aT aB:=⟨[(0,xu q),(3,.loc 0 0),(4,.loc 1 0),(5,.val (.own 0)),(6,xi i)]++e,[d.ps,ni5],[.list false false 39 x]⟩
theorem lO1{n:Nat}(hO:Ok n ahP)(q:Int)(d:Dg){l:List V}(hl:l.length<=ah):Lp n 64 0 (wO1 q d l 0 []) (.exit 0) (wO1 q d ((List.range l.length).map fun k=>o7 q (l.getD k V0)) l.length [(12,xl false)]):=by
 have:=sV (n:=n) (f:=64) (k:=0) (B:=0) (σ:=List V) (N:=l.length) (g:=fun k (x:List V)=>x.set k (o7 q (x.getD k V0))) (s0:=l) (st:=fun i x=>wO1 q d x i []) (e:=.exit 0) (fin:=fun x=>wO1 q d x l.length [(12,xl false)]) (w:=wO1 q d l 0 []) (fun k x=>x.length=l.length) (by kernel_rfl) hl rfl (fun k x _ h=>by rw[a5l];exact h) (fun k x hk ha m e p g9=>by
  have ha:x.length=l.length:=ha;have t1:decide ((k:Int)<(x.length:Int))=true:=aZ (by omega);have i1:fD (k:Int) x.length:=aC (by omega);refine aJ hO (.b t1 (.o i1 (.o i1 (.go g9))))) (fun x ha=>by
  have ha:x.length=l.length:=ha;have t1:decide ((l.length:Int)<(x.length:Int))=false:=by rw[ha];exact eP l.length
  refine aJ hO (.b t1 .ex))
 rw[Ri (fun _ v=>o7 q v) l]at this;exact this
def a3h(p:Int×Dg):Dg:=jE p.2.ay p.2.aH ((List.range (cellsD p.2).length).map fun k=>o7 p.1 ((cellsD p.2).getD k V0))
def ahQ:dZ aB:=bK 64 (a2 uA dA) dA a3h (fun p=>[vJ p.2]) ahP
theorem GZ{d:Dg}(h:vJ d):(cellsD d).length<=ah:=by have:=h.f.a4d;have:=h.f.many;rw[iR];unfold ah;omega
theorem at7:Gd ahQ:=Good.LD 1 asZ acn fun n hn hO CX p hp=>by obtain⟨q,d⟩:=p;have h:vJ d:=hp _ gQ;have s1:=a14 (n:=n-1) (CX _ (by omega)) h;rw[show n-1+1=n by omega]at s1;have lp:=lO1 (n:=n) (hO n (by omega)) q d (GZ h);obtain⟨_,q1,q2,q3⟩:=h.of (l:=(List.range (cellsD d).length).map fun k=>o7 q ((cellsD d).getD k V0)) (by rw[a5c,a6T,iR]);exact aI (hO n (by omega)) (.fr [] s1 (.w lp (.o q1 (.o q2 (.o q3 .rr)))))
abbrev wO2(q:Int)(a b:Dg)(y x:List V)(i:Int)(e:List (Nat×PE aB)):aT aB:=⟨[(0,xu q),(4,.loc 0 0),(6,.loc 2 0),(7,.val (.own 0)),(8,xL 39 y),(9,xi i)]++e,[a.ps,b.ps,ni5],[.list false false 39 x]⟩
theorem lO2{n:Nat}(hO:Ok n ahQ)(q:Int)(a b:Dg){l y:List V}(hl:l.length<=ah)(hy:y.length=l.length)(hc:∀k,k<l.length->Zq (l.getD k V0).n∧Zq (y.getD k V0).n):Lp n 65 0 (wO2 q a b y l 0 []) (.exit 0) (wO2 q a b y ((List.range l.length).map fun k=>bF q (l.getD k V0) (y.getD k V0)) l.length [(17,xl false)]):=by
 have:=sV (n:=n) (f:=65) (k:=0) (B:=0) (σ:=List V) (N:=l.length) (g:=fun k (x:List V)=>x.set k (bF q (x.getD k V0) (y.getD k V0))) (s0:=l) (st:=fun i x=>wO2 q a b y x i []) (e:=.exit 0) (fin:=fun x=>wO2 q a b y x l.length [(17,xl false)]) (w:=wO2 q a b y l 0 []) (fun k x=>x.length=l.length∧∀j,k<=j->x.getD j V0=l.getD j V0) (by kernel_rfl) hl ⟨rfl,fun _ _=>rfl⟩ (fun k x _ h=>⟨by rw[a5l];exact h.1,fun j hj=>by
  rw[a3r,a1j (by omega),<-a3r];exact h.2 j (by omega)⟩) (fun k x hk ha m e p g9=>by
  obtain⟨ha,hx⟩:x.length=l.length∧∀j,k<=j->x.getD j V0=l.getD j V0:=ha;have t1:decide ((k:Int)<(x.length:Int))=true:=aZ (by omega);have i1:fD (k:Int) x.length:=aC (by omega);have i2:fD (k:Int) y.length:=aC (by omega);have c1:Zq (x.getD k V0).n:=by rw[hx k (a15 _)];exact(hc k hk).1
  refine aJ hO (.b t1 (.o i1 (.o i2 (.o c1 (.o (hc k hk).2 (.o i1 (.go g9)))))))) (fun x ha=>by
  have ha:x.length=l.length:=ha.1;have t1:decide ((l.length:Int)<(x.length:Int))=false:=by rw[ha];exact eP l.length
  refine aJ hO (.b t1 .ex))
 rw[Ri (fun k v=>bF q v (y.getD k V0)) l]at this;exact this
def a3i(p:Int×Dg×Dg):Dg:=jE p.2.1.ay p.2.1.aH ((List.range (cellsD p.2.1).length).map fun k=>bF p.1 ((cellsD p.2.1).getD k V0) ((cellsD p.2.2).getD k V0))
def ahR:dZ aB:=bK 65 (a3 uA dA dA) dA a3i (fun p=>[vJ p.2.1∧vJ p.2.2,(cellsD p.2.2).length=(cellsD p.2.1).length,∀k,k<(cellsD p.2.1).length->Zq ((cellsD p.2.1).getD k V0).n∧Zq ((cellsD p.2.2).getD k V0).n]) ahQ
theorem ata:Gd ahR:=Good.LD 1 at7 acn fun n hn hO CX p hp=>by obtain⟨q,a,b⟩:=p;obtain⟨ha,hb⟩:vJ a∧vJ b:=hp _ gQ;have hy:(cellsD b).length=(cellsD a).length:=hp _ vX;have hc:∀k,k<(cellsD a).length->Zq ((cellsD a).getD k V0).n∧Zq ((cellsD b).getD k V0).n:=hp _ hh2;have s1:=a14 (n:=n-1) (CX _ (by omega)) ha;rw[show n-1+1=n by omega]at s1;have lp:=lO2 (n:=n) (hO n (by omega)) q a b (GZ ha) hy hc;obtain⟨_,q1,q2,q3⟩:=ha.of (l:=(List.range (cellsD a).length).map fun k=>bF q ((cellsD a).getD k V0) ((cellsD b).getD k V0)) (by rw[a5c,a6T,iR]);exact aI (hO n (by omega)) (.fr [] s1 (.o hb (.w lp (.o q1 (.o q2 (.o q3 .rr))))))
abbrev wO3(a b c:Dg)(y z x:List V)(i:Int)(e:List (Nat×PE aB)):aT aB:=⟨[(3,.loc 0 0),(6,.loc 3 0),(7,.val (.own 0)),(8,xL 39 y),(9,xL 39 z),(10,xi i)]++e,[a.ps,b.ps,c.ps,ni5],[.list false false 39 x]⟩
theorem lO3{n:Nat}(hO:Ok n ahR)(a b c:Dg){l y z:List V}(hl:l.length<=ah)(hy:y.length=l.length)(hz:z.length=l.length):Lp n 66 0 (wO3 a b c y z l 0 []) (.exit 0) (wO3 a b c y z ((List.range l.length).map fun k=>nY (l.getD k V0) (y.getD k V0) (z.getD k V0)) l.length [(20,xl false)]):=by
 have:=sV (n:=n) (f:=66) (k:=0) (B:=0) (σ:=List V) (N:=l.length) (g:=fun k (x:List V)=>x.set k (nY (x.getD k V0) (y.getD k V0) (z.getD k V0))) (s0:=l) (st:=fun i x=>wO3 a b c y z x i []) (e:=.exit 0) (fin:=fun x=>wO3 a b c y z x l.length [(20,xl false)]) (w:=wO3 a b c y z l 0 []) (fun k x=>x.length=l.length) (by kernel_rfl) hl rfl (fun k x _ h=>by rw[a5l];exact h) (fun k x hk ha m e p g9=>by
  have ha:x.length=l.length:=ha;have t1:decide ((k:Int)<(x.length:Int))=true:=aZ (by omega);have i1:fD (k:Int) x.length:=aC (by omega);have i2:fD (k:Int) y.length:=aC (by omega);have i3:fD (k:Int) z.length:=aC (by omega);refine aJ hO (.b t1 (.o i1 (.o i2 (.o i3 (.o i1 (.go g9))))))) (fun x ha=>by
  have ha:x.length=l.length:=ha;have t1:decide ((l.length:Int)<(x.length:Int))=false:=by rw[ha];exact eP l.length
  refine aJ hO (.b t1 .ex))
 rw[Ri (fun k v=>nY v (y.getD k V0) (z.getD k V0)) l]at this;exact this
def a3j(p:Dg×Dg×Dg):Dg:=jE p.1.ay p.1.aH ((List.range (cellsD p.1).length).map fun k=>nY ((cellsD p.1).getD k V0) ((cellsD p.2.1).getD k V0) ((cellsD p.2.2).getD k V0))
def ant:dZ aB:=bK 66 (a3 dA dA dA) dA a3j (fun p=>[vJ p.1∧vJ p.2.1∧vJ p.2.2,(cellsD p.2.1).length=(cellsD p.1).length∧(cellsD p.2.2).length=(cellsD p.1).length]) ahR
theorem atb:Gd ant:=Good.LD 1 ata acn fun n hn hO CX p hp=>by obtain⟨a,b,c⟩:=p;obtain⟨ha,hb,hc⟩:vJ a∧vJ b∧vJ c:=hp _ gQ;obtain⟨hy,hz⟩:(cellsD b).length=(cellsD a).length∧(cellsD c).length=(cellsD a).length:=hp _ vX;have s1:=a14 (n:=n-1) (CX _ (by omega)) ha;rw[show n-1+1=n by omega]at s1;have lp:=lO3 (n:=n) (hO n (by omega)) a b c (GZ ha) hy hz;obtain⟨_,q1,q2,q3⟩:=ha.of (l:=(List.range (cellsD a).length).map fun k=>nY ((cellsD a).getD k V0) ((cellsD b).getD k V0) ((cellsD c).getD k V0)) (by rw[a5c,a6T,iR]);exact aI (hO n (by omega)) (.fr [] s1 (.o hb (.o hc (.w lp (.o q1 (.o q2 (.o q3 .rr)))))))
open Go Tw Pv cu
theorem a9x{k:Int}{a:V}(h:wE k=true)(ha:BX a):(jw k a).2=0:=by
 have h9:k=5∨k=6:=by simpa[wE]using h
 have e1:¬(!(sO a))=true:=by rw[oW (jB.1 ha)];simp
 unfold jw;rw[a0I h];rcases h9 with rfl|rfl
 .show(sQ a).2=0;unfold sQ;rw[a0F e1];split<;>rfl
 show(sS a).2=0;unfold sS;rw[a0F e1];split<;>rfl
theorem acA{a:Dg}(h:aY [a]=0){c:Int}(hc:wE c=true):uK (c,a)=(qj (dB [a]) (KO c),0):=by show(if(aY [a] != 0)=true then(iL,aY [a])else if((jw c iG).2 != 0)=true then(iL,(jw c iG).2)else(qj (dB [a]) (KO c),0))=_;rw[h,a9x hc O5,a0F (by simp),a0F (by simp)]
theorem F9{d:Dg}{k:Nat}(hk:k<E8 d.ay):(cellsD d).getD k V0=vH d (jO d.ay (k:Int)):=by unfold cellsD;rw[a3r,a5m,aeR hk];rfl
theorem anu{a:Dg}(hp:nO a)(h0:iw a=0){c:Int}(hc:wE c=true):(DgF (qj (dB [a]) (KO c)))∧qj (dB [a]) (KO c)=a3h (c,a):=by have hg:=Cm hp h0;obtain⟨hJ,hj⟩:=asV hp (by rw[a3e hp];exact h0) (op:=KO c) fun l hv hl=>(WQ hc (hv _ (dw (by rw[hl];exact ahZ)))).1;refine⟨ahK hJ hj,?_⟩;rw[mk_eq hJ hj,KQ hJ];show jE a.ay a.aH ((List.range (E8 a.ay)).map fun(k:Nat)=>KO c [vH a (jO a.ay k)])=jE a.ay a.aH ((List.range (cellsD a).length).map fun k=>o7 c ((cellsD a).getD k V0));rw[iR];congr 1;refine a5v fun k hk=>?_;rw[F9 (a5f.1 hk)];exact(WQ hc (wP hg.c _)).2
theorem anv{a b:Dg}(pa:nO a)(pb:nO b)(ka:iw a=0)(kb:iw b=0)(hk:aY [a,b]=0)(es:a.ay=b.ay){c:Int}(hc:tY c=true):(DgF (qj (dB [a,b]) (MS c)))∧qj (dB [a,b]) (MS c)=a3i (c,a,b):=by have ga:=Cm pa ka;have gb:=Cm pb kb;obtain⟨hJ,hj⟩:=asU pa pb hk hc;refine⟨ahK hJ hj,?_⟩;rw[mk_eq hJ hj,KQ hJ];show jE a.ay a.aH ((List.range (E8 a.ay)).map fun(k:Nat)=>MS c [vH a (jO a.ay k),vH b (jO a.ay k)])=jE a.ay a.aH ((List.range (cellsD a).length).map fun k=>bF c ((cellsD a).getD k V0) ((cellsD b).getD k V0));rw[iR];congr 1;refine a5v fun k hk=>?_;rw[F9 (a5f.1 hk),F9 (d:=b) (by rw[<-es];exact a5f.1 hk),<-es];exact(WO hc (wP ga.c _) (wP gb.c _)).2
theorem anw{a b c:Dg}(pa:nO a)(pb:nO b)(pc:nO c)(ka:iw a=0)(kb:iw b=0)(kc:iw c=0)(hk:aY [a,b,c]=0)(es:a.ay=b.ay)(et:a.ay=c.ay):(DgF (qj (dB [a,b,c]) RZ))∧qj (dB [a,b,c]) RZ=a3j (a,b,c):=by have ga:=Cm pa ka;have gb:=Cm pb kb;have gc:=Cm pc kc;have hm:=ac6 (P:=nO) pa pb pc;have hJ:=uJ (D:=[a,b,c]) (by simp) (by simp) hm hk;have hj:qH (dB [a,b,c]) RZ:=yw hJ (Jb.inD hm hk) fun l hl hv=>QY (hv _ (dw (show 0<l.length by rw[hl];exact Nat.succ_pos 2))) (hv _ (dw (show 1<l.length by rw[hl];exact Nat.succ_lt_succ (Nat.succ_pos 1)))) (hv _ (dw (show 2<l.length by rw[hl];exact Nat.lt_succ_self 2)));refine⟨ahK hJ hj,?_⟩;rw[mk_eq hJ hj,KQ hJ];show jE a.ay a.aH ((List.range (E8 a.ay)).map fun(k:Nat)=>RZ [vH a (jO a.ay k),vH b (jO a.ay k),vH c (jO a.ay k)])=jE a.ay a.aH ((List.range (cellsD a).length).map fun k=>nY ((cellsD a).getD k V0) ((cellsD b).getD k V0) ((cellsD c).getD k V0));rw[iR];congr 1;refine a5v fun k hk=>?_;rw[F9 (a5f.1 hk),F9 (d:=b) (by rw[<-es];exact a5f.1 hk),F9 (d:=c) (by rw[<-et];exact a5f.1 hk),<-es,<-et];exact(U9 (jB.1 (wP ga.c _)) (jB.1 (wP gb.c _)) (jB.1 (wP gc.c _))).1
theorem a9y{v:V}(h:BX v):Zq v.n:=by
 have g:=jB.1 h;by_cases e:v.f=0
 .have:=(g.n e).1;have:=(g.n e).2;exact⟨by omega,by omega⟩
 have:=g.z e;exact⟨by omega,by omega⟩
open Go Tw Pv cu
abbrev H1A(q:Int)(a:Dg):Prop:=(iw a==0)=false∧(iw a != 0)=true∧((uK (q,a)).2 != iw a)=false∧CG (uK (q,a)).1∧(!(FB (uK (q,a)).1 iL))=false
abbrev H1B(q:Int)(a:Dg):Prop:=(iw a==0)=true∧(q != 5)=true∧(q != 6)=true∧((uK (q,a)).2 != 2)=false∧CG (uK (q,a)).1∧(!(FB (uK (q,a)).1 iL))=false
abbrev H1C(q:Int)(a:Dg):Prop:=(iw a==0)=true∧(iw a != 0)=false∧vJ a∧CG (uK (q,a)).1∧(!(if((uK (q,a)).2==0)=true then FB (uK (q,a)).1 (a3h (q,a))else false))=false
abbrev H2A(q:Int)(a b:Dg):Prop:=(jh [a,b]==0)=false∧(jh [a,b] != 0)=true∧((kJ (q,a,b)).2 != jh [a,b])=false∧CG (kJ (q,a,b)).1∧(!(FB (kJ (q,a,b)).1 iL))=false
abbrev H2B(q:Int)(a b:Dg):Prop:=(jh [a,b]==0)=true∧(!(mD (i64.wrap q) 7 16))=true∧((kJ (q,a,b)).2 != 2)=false∧CG (kJ (q,a,b)).1∧(!(FB (kJ (q,a,b)).1 iL))=false
abbrev H2C(q:Int)(a b:Dg):Prop:=(jh [a,b]==0)=true∧(!(mD (i64.wrap q) 7 16))=false∧(jh [a,b] != 0)=false∧(vJ a∧vJ b)∧(cellsD b).length=(cellsD a).length∧(∀k,k<(cellsD a).length->Zq ((cellsD a).getD k V0).n∧Zq ((cellsD b).getD k V0).n)∧CG (kJ (q,a,b)).1∧(!(if((kJ (q,a,b)).2==0)=true then FB (kJ (q,a,b)).1 (a3i (q,a,b))else false))=false
abbrev H3A(a b c:Dg):Prop:=(jh [a,b,c] != 0)=true∧((CY (a,b,c)).2==jh [a,b,c])=true∧CG (CY (a,b,c)).1∧FB (CY (a,b,c)).1 iL=true
abbrev H3C(a b c:Dg):Prop:=(jh [a,b,c] != 0)=false∧(vJ a∧vJ b∧vJ c)∧((cellsD b).length=(cellsD a).length∧(cellsD c).length=(cellsD a).length)∧CG (CY (a,b,c)).1∧(if((CY (a,b,c)).2==0)=true then FB (CY (a,b,c)).1 (a3j (a,b,c))else false)=true
section
variable {q:Int} {a b c:Dg} (pa:nO a) (pb:nO b) (pc:nO c) (fa:CG a) (fb:CG b) (fc:CG c)
include pa fa
theorem anx:H1A q a∨H1B q a∨(H1C q a∧((q != 5)=false∨((q != 5)=true∧(q != 6)=false))):=by
 have ec:=a3e pa;cases e1:(iw a==0)
 .have e2:(iw a != 0)=true:=by show(!(iw a==0))=true;rw[e1];rfl
  have qv:uK (q,a)=(iL,iw a):=by show(if(aY [a] != 0)=true then(iL,aY [a])else if((jw q iG).2 != 0)=true then(iL,(jw q iG).2)else(qj (dB [a]) (KO q),0))=_;rw[ec,a0I e2]
  exact .inl ⟨e1,e2,by rw[qv];simp,by rw[qv];exact a9t,by rw[qv,vK];rfl⟩
 have h0:iw a=0:=by simpa using e1
 cases e3:wE q
 .have h3:q≠5∧q≠6:=by simp[wE]at e3;exact e3
  have qv:uK (q,a)=(iL,2):=by
   show(if(aY [a] != 0)=true then(iL,aY [a])else if((jw q iG).2 != 0)=true then(iL,(jw q iG).2)else(qj (dB [a]) (KO q),0))=_;have:jw q iG=(V0,2):=by unfold jw;rw[e3];rfl
   rw[ec,h0,this];rfl
  exact .inr (.inl ⟨e1,by simpa using h3.1,by simpa using h3.2,by rw[qv];rfl,by rw[qv];exact a9t,by rw[qv,vK];rfl⟩)
 obtain⟨hD,hq⟩:=anu pa h0 e3;have qv:=acA (a:=a) (by rw[ec];exact h0) e3;refine .inr (.inr ⟨⟨e1,by rw[h0];rfl,zi fa.o fa.e (by rw[h0];rfl),by rw[qv];exact hD.f,?_⟩,?_⟩)
 .rw[qv];show(!(FB (qj (dB [a]) (KO q)) (a3h (q,a))))=false;rw[hq,vK];rfl
 have h3:q=5∨q=6:=by simpa[wE]using e3
 rcases h3 with rfl|rfl
 .exact .inl rfl
 exact .inr ⟨rfl,rfl⟩
include pb fb
theorem anz(q0:0<=q)(q9:q<=255):H2A q a b∨H2B q a b∨H2C q a b:=by
 have ec:jh [a,b]=aY [a,b]:=a3g (Z8 pa pb) (by simp);have ew:i64.wrap q=q:=wrap_small (by omega) (by omega);have qs:kJ (q,a,b)=if(jh [a,b] != 0)=true then(iL,jh [a,b])else if((jR q iG iG).2 != 0)=true then(iL,(jR q iG iG).2)else(qj (dB [a,b]) (MS q),0):=by rw[ec];rfl
 cases e1:(jh [a,b]==0)
 .have e2:(jh [a,b] != 0)=true:=by show(!(jh [a,b]==0))=true;rw[e1];rfl
  rw[a0I e2]at qs;exact .inl ⟨e1,e2,by rw[qs];simp,by rw[qs];exact a9t,by rw[qs,vK];rfl⟩
 have h0:jh [a,b]=0:=by simpa using e1
 have e2:(jh [a,b] != 0)=false:=by rw[h0];rfl
 rw[a0F (by rw[e2];simp)]at qs;cases e3:tY q
 .have h3:¬(7<=q∧q<=16):=by simpa[tY]using e3
  have:jR q iG iG=(V0,2):=by unfold jR;rw[e3];rfl
  rw[this]at qs;have qv:kJ (q,a,b)=(iL,2):=qs;exact .inr (.inl ⟨e1,ahM.2 (by rw[ew];exact h3),by rw[qv];rfl,by rw[qv];exact a9t,by rw[qv,vK];rfl⟩)
 have h3:7<=q∧q<=16:=by simpa[tY]using e3
 have hz:=UA h0;have ka:=hz a (by simp);have kb:=hz b (by simp);have hk:aY [a,b]=0:=by rw[<-ec];exact h0
 obtain⟨_,es,_⟩:=QX (Z8 (P:=nO) pa pb) hk b (by simp);have es:a.ay=b.ay:=es.symm;obtain⟨hD,hq⟩:=anv pa pb ka kb hk es e3;have qv:=acz hk e3;have ga:=Cm pa ka;have gb:=Cm pb kb;refine .inr (.inr ⟨e1,by rw[ew,sU.2 h3];rfl,e2,⟨zi fa.o fa.e (by rw[ka];rfl),zi fb.o fb.e (by rw[kb];rfl)⟩,by rw[iR,iR,es],fun k _=>⟨a9y (wP (Rf ga.c) k),a9y (wP (Rf gb.c) k)⟩,by rw[qv];exact hD.f,?_⟩);rw[qv];show(!(FB (qj (dB [a,b]) (MS q)) (a3i (q,a,b))))=false;rw[hq,vK];rfl
include pc fc
theorem anB:H3A a b c∨H3C a b c:=by
 have hm:=ac6 (P:=nO) pa pb pc;have ec:jh [a,b,c]=aY [a,b,c]:=a3g hm (by simp);have qs:CY (a,b,c)=if(jh [a,b,c] != 0)=true then(iL,jh [a,b,c])else(qj (dB [a,b,c]) RZ,0):=by rw[ec];rfl
 cases e1:(jh [a,b,c] != 0)
 .have h0:jh [a,b,c]=0:=by simpa using e1
  rw[a0F (by rw[e1];simp)]at qs;have hz:=UA h0;have hk:aY [a,b,c]=0:=by rw[<-ec];exact h0
  have ka:=hz a (by simp);have kb:=hz b (by simp);have kc:=hz c (by simp);have hg:=QX hm hk;have es:a.ay=b.ay:=(hg b (by simp)).2.1.symm;have et:a.ay=c.ay:=(hg c (by simp)).2.1.symm;obtain⟨hD,hq⟩:=anw pa pb pc ka kb kc hk es et;refine .inr ⟨e1,⟨zi fa.o fa.e (by rw[ka];rfl),zi fb.o fb.e (by rw[kb];rfl),zi fc.o fc.e (by rw[kc];rfl)⟩,⟨by rw[iR,iR,es],by rw[iR,iR,et]⟩,by rw[qs];exact hD.f,?_⟩;rw[qs];show FB (qj (dB [a,b,c]) RZ) (a3j (a,b,c))=true;rw[hq];exact vK _
 rw[a0I e1]at qs;exact .inl ⟨e1,by rw[qs];exact beq_self_eq_true _,by rw[qs];exact a9t,by rw[qs];exact vK _⟩
end
section
variable {R:Option (PV aB)->Prop} {an:PT aB} {o:OT (Option (PV aB))} {q:Int} {a b c:Dg} {l:List Dg}
theorem dn{p:Prop}(h:PLift p):p:=h.down
def a5d(h:H1A q a)(t:Fp R an o):=PLift.up (Fp.b h.1 (Fp.b h.2.1 (Fp.b h.2.2.1 (Fp.o h.2.2.2.1 (Fp.b h.2.2.2.2 (Fp.b h.1 t))))))
def a5e(h:H1B q a)(t:Fp R an o):=PLift.up (Fp.b h.1 (Fp.b h.2.1 (Fp.b h.2.2.1 (Fp.b (rfl:((2:Int) != 0)=true) (Fp.b h.2.2.2.1 (Fp.o h.2.2.2.2.1 (Fp.b h.2.2.2.2.2 (Fp.b (rfl:((2:Int)==0)=false) t))))))))
def UC(h:H1C q a)(h5:(q != 5)=false)(i0:fD 0 l.length)(t:Fp R an o):=PLift.up (Fp.b h.1 (Fp.b h5 (Fp.b h.2.1 (Fp.b h.1 (Fp.o i0 (Fp.o h.2.2.1 (Fp.o h.2.2.2.1 (Fp.b h.2.2.2.2 t))))))))
def UD(h:H1C q a)(h5:(q != 5)=true)(h6:(q != 6)=false)(i0:fD 0 l.length)(t:Fp R an o):=PLift.up (Fp.b h.1 (Fp.b h5 (Fp.b h6 (Fp.b h.2.1 (Fp.b h.1 (Fp.o i0 (Fp.o h.2.2.1 (Fp.o h.2.2.2.1 (Fp.b h.2.2.2.2 t)))))))))
def Zg(h:H2A q a b)(t:Fp R an o):=PLift.up (Fp.b h.1 (Fp.b h.2.1 (Fp.b h.2.2.1 (Fp.o h.2.2.2.1 (Fp.b h.2.2.2.2 (Fp.b h.1 t))))))
def Zh(h:H2B q a b)(t:Fp R an o):=PLift.up (Fp.b h.1 (Fp.b h.2.1 (Fp.b (rfl:((2:Int) != 0)=true) (Fp.b h.2.2.1 (Fp.o h.2.2.2.1 (Fp.b h.2.2.2.2 (Fp.b (rfl:((2:Int)==0)=false) t)))))))
def Zi(h:H2C q a b)(i0:fD 0 l.length)(i1:fD 1 l.length)(t:Fp R an o):=PLift.up (Fp.b h.1 (Fp.b h.2.1 (Fp.b h.2.2.1 (Fp.b h.1 (Fp.o i0 (Fp.o i1 (Fp.o h.2.2.2.1 (Fp.o h.2.2.2.2.1 (Fp.o h.2.2.2.2.2.1 (Fp.o h.2.2.2.2.2.2.1 (Fp.b h.2.2.2.2.2.2.2 t)))))))))))
def MV(h:H3A a b c)(t:Fp R an o):=PLift.up (Fp.b h.1 (Fp.b h.2.1 (Fp.o h.2.2.1 (Fp.b h.2.2.2 t))))
def MW(h:H3C a b c)(i0:fD 0 l.length)(i1:fD 1 l.length)(i2:fD 2 l.length)(t:Fp R an o):=PLift.up (Fp.b h.1 (Fp.o i0 (Fp.o i1 (Fp.o i2 (Fp.o h.2.1 (Fp.o h.2.2.1 (Fp.o h.2.2.2.1 (Fp.b h.2.2.2.2 t))))))))
end
def atd:dZ aB:=bK 13 (a2 uA a0z) tA (fun _=>true) (fun p=>[∀d∈p.2,IY d,0<=p.1∧p.1<=255]) ant
theorem ate:Gd atd:=atb.add fun n hO p hp=>by
 obtain⟨q,l⟩:=p;have hr:∀d∈l,IY d:=hp _ gQ;obtain⟨q0,q9⟩:0<=q∧q<=255:=hp _ vX;cases ht:(!(O7 l))
 .obtain⟨h6,hT⟩:=a9w (l:=l) (by simpa using ht);rcases l with _|⟨a,_|⟨b,_|⟨c,r⟩⟩⟩
  .exact aI hO (.b ht (.b (c:=true) (t:=true) rfl .rr))
  .exact aI hO (.b ht (.b (c:=true) (t:=true) rfl .rr))
  .exact aI hO (.b ht (.b (c:=true) (t:=true) rfl .rr))
  .have hf:∀d∈a::b::c::r,CG d:=fun d m=>(Zd (hT d m)).1;have hP:∀d∈a::b::c::r,nO d:=fun d m=>ahL (hT d m) (hr d m);have ma:a∈a::b::c::r:=(by simp);have mb:b∈a::b::c::r:=(by simp);have mc:c∈a::b::c::r:=(by simp);have hn:(a::b::c::r).length=r.length+3:=rfl;have hl:(a::b::c::r).length<=1000:=(by omega);have t3:decide (((a::b::c::r).length:Int)<3)=false:=by rw[a2b];omega
   have i0:fD 0 (a::b::c::r).length:=⟨by omega,by omega⟩;have i1:fD 1 (a::b::c::r).length:=⟨by omega,by omega⟩;have i2:fD 2 (a::b::c::r).length:=⟨by omega,by omega⟩;have z0:(0:Int)<=((0:Nat):Int):=(by decide);have z2:((0:Nat):Int)<=2:=(by decide);have z3:((0:Nat):Int)<=3:=(by decide);have l2:(2:Int)<=((a::b::c::r).length:Int):=(by omega);have l3:(3:Int)<=((a::b::c::r).length:Int):=(by omega);have f2:=Z8 (P:=CG) (hf a ma) (hf b mb);have f3:=ac6 (P:=CG) (hf a ma) (hf b mb) (hf c mc);have n2:=acw a b;have n3:0<[a,b,c].length∧[a,b,c].length<=ah:=⟨by simp,by show 3<=ah;unfold ah;omega⟩;have pa:=hP a ma;have pb:=hP b mb;have pc:=hP c mc;have pre:=fun{R:Option (PV aB)->Prop} {an:PT aB} {o:OT (Option (PV aB))} (t:Fp R an o)=>Fp.b ht (Fp.b t3 (Fp.o hf (Fp.o hl (Fp.o i0 (Fp.o pa (Fp.o i0 (Fp.o i1 (Fp.o pa (Fp.o pb (Fp.o i0 (Fp.o i1 (Fp.o i2 (Fp.o pa (Fp.o pb (Fp.o pc (Fp.o i0 (Fp.o (hf a ma).o (Fp.o (hf a ma).e t))))))))))))))))));have S2:=fun{R:Option (PV aB)->Prop} {an:PT aB} {o:OT (Option (PV aB))} (t:Fp R an o)=>Fp.o z0 (Fp.o z2 (Fp.o l2 (Fp.o f2 (Fp.o n2 t))));have S3:=fun{R:Option (PV aB)->Prop} {an:PT aB} {o:OT (Option (PV aB))} (t:Fp R an o)=>Fp.o z0 (Fp.o z3 (Fp.o l3 (Fp.o f3 (Fp.o n3 t))));rcases anx (q:=q) pa (hf a ma)with x|x|⟨x,y|⟨y,y2⟩⟩<;>rcases anz pa pb (hf a ma) (hf b mb) q0 q9 with u|u|u<;>rcases anB pa pb pc (hf a ma) (hf b mb) (hf c mc)with v|v
   .refine aI hO (pre (dn <|a5d x (S2 (dn <|Zg u (S3 (dn <|MV v .rr))))))
   .refine aI hO (pre (dn <|a5d x (S2 (dn <|Zg u (S3 (dn <|MW (l:=a::b::c::r) v i0 i1 i2 .rr))))))
   .refine aI hO (pre (dn <|a5d x (S2 (dn <|Zh u (S3 (dn <|MV v .rr))))))
   .refine aI hO (pre (dn <|a5d x (S2 (dn <|Zh u (S3 (dn <|MW (l:=a::b::c::r) v i0 i1 i2 .rr))))))
   .refine aI hO (pre (dn <|a5d x (S2 (dn <|Zi (l:=a::b::c::r) u i0 i1 (S3 (dn <|MV v .rr))))))
   .refine aI hO (pre (dn <|a5d x (S2 (dn <|Zi (l:=a::b::c::r) u i0 i1 (S3 (dn <|MW (l:=a::b::c::r) v i0 i1 i2 .rr))))))
   .refine aI hO (pre (dn <|a5e x (S2 (dn <|Zg u (S3 (dn <|MV v .rr))))))
   .refine aI hO (pre (dn <|a5e x (S2 (dn <|Zg u (S3 (dn <|MW (l:=a::b::c::r) v i0 i1 i2 .rr))))))
   .refine aI hO (pre (dn <|a5e x (S2 (dn <|Zh u (S3 (dn <|MV v .rr))))))
   .refine aI hO (pre (dn <|a5e x (S2 (dn <|Zh u (S3 (dn <|MW (l:=a::b::c::r) v i0 i1 i2 .rr))))))
   .refine aI hO (pre (dn <|a5e x (S2 (dn <|Zi (l:=a::b::c::r) u i0 i1 (S3 (dn <|MV v .rr))))))
   .refine aI hO (pre (dn <|a5e x (S2 (dn <|Zi (l:=a::b::c::r) u i0 i1 (S3 (dn <|MW (l:=a::b::c::r) v i0 i1 i2 .rr))))))
   .refine aI hO (pre (dn <|UC (l:=a::b::c::r) x y i0 (S2 (dn <|Zg u (S3 (dn <|MV v .rr))))))
   .refine aI hO (pre (dn <|UC (l:=a::b::c::r) x y i0 (S2 (dn <|Zg u (S3 (dn <|MW (l:=a::b::c::r) v i0 i1 i2 .rr))))))
   .refine aI hO (pre (dn <|UC (l:=a::b::c::r) x y i0 (S2 (dn <|Zh u (S3 (dn <|MV v .rr))))))
   .refine aI hO (pre (dn <|UC (l:=a::b::c::r) x y i0 (S2 (dn <|Zh u (S3 (dn <|MW (l:=a::b::c::r) v i0 i1 i2 .rr))))))
   .refine aI hO (pre (dn <|UC (l:=a::b::c::r) x y i0 (S2 (dn <|Zi (l:=a::b::c::r) u i0 i1 (S3 (dn <|MV v .rr))))))
   .refine aI hO (pre (dn <|UC (l:=a::b::c::r) x y i0 (S2 (dn <|Zi (l:=a::b::c::r) u i0 i1 (S3 (dn <|MW (l:=a::b::c::r) v i0 i1 i2 .rr))))))
   .refine aI hO (pre (dn <|UD (l:=a::b::c::r) x y y2 i0 (S2 (dn <|Zg u (S3 (dn <|MV v .rr))))))
   .refine aI hO (pre (dn <|UD (l:=a::b::c::r) x y y2 i0 (S2 (dn <|Zg u (S3 (dn <|MW (l:=a::b::c::r) v i0 i1 i2 .rr))))))
   .refine aI hO (pre (dn <|UD (l:=a::b::c::r) x y y2 i0 (S2 (dn <|Zh u (S3 (dn <|MV v .rr))))))
   .refine aI hO (pre (dn <|UD (l:=a::b::c::r) x y y2 i0 (S2 (dn <|Zh u (S3 (dn <|MW (l:=a::b::c::r) v i0 i1 i2 .rr))))))
   .refine aI hO (pre (dn <|UD (l:=a::b::c::r) x y y2 i0 (S2 (dn <|Zi (l:=a::b::c::r) u i0 i1 (S3 (dn <|MV v .rr))))))
   .refine aI hO (pre (dn <|UD (l:=a::b::c::r) x y y2 i0 (S2 (dn <|Zi (l:=a::b::c::r) u i0 i1 (S3 (dn <|MW (l:=a::b::c::r) v i0 i1 i2 .rr))))))
 .exact aI hO (.b ht .rr)
open Go Tw Pv
section
variable {H:Type} {nN:LI2×LI3->H} {w:LI4}
abbrev RdX(nN:LI2×LI3->H)(w:LI4)(g t:Nat){α:Type}(ps:α->List (PV aB))(Q:α->Prop):Prop:=RdP nN X0 Tryz.prog w g t ps Q
theorem a3k:Tryz.prog.cellsOf 3=1:=by kernel_rfl
theorem atf:Tryz.prog.cellsOf 5=1:=by kernel_rfl
theorem aeM:Tryz.prog.cellsOf 39=2:=by kernel_rfl
theorem zI0:dI Tryz.prog 3=some 1:=by kernel_rfl
theorem acC{g:Nat}:RdX nN w (g+1) 3 (fun n:Int=>[.int .i64 n]) (fun n=>(Lit.int .i64 n).wf=true):=a2r Tryz.underlying3
theorem rU8{g:Nat}:RdX nN w (g+1) 5 (fun n:Int=>[.int .u8 n]) (fun n=>0<=n∧n<=255):=(a2r Tryz.underlying5).iso id (fun _=>rfl) fun n h=>by simp only[Lit.wf,a2c,a1n]at h;exact h
theorem a9z{g:Nat}:RdX nN w (g+2) 22 (fun l:LI0=>[lI l]) (fun l=>∀a∈l,(Lit.int .i64 a).wf=true):=IJ (e:=3) Tryz.underlying22 a3k zI0 (by decide) (fun _=>rfl) acC
theorem atg{g:Nat}:RdX nN w (g+2) 39 V.ps (fun v=>0<=v.f∧v.f<=255):=
 (GH Tryz.underlying39 aeM (fun _=>rfl) (sK rfl atf (fun _=>rfl) rU8 (sK rfl a3k (fun _=>rfl) acC VT))).iso (fun x=>⟨x.1,x.2.1⟩) (fun _=>rfl) fun _ h=>h.1
theorem anC:dI Tryz.prog 39=some 2:=by kernel_rfl
theorem anD{g:Nat}:RdX nN w (g+3) 23 (fun l:List V=>[lV l]) (fun l=>∀v∈l,0<=v.f∧v.f<=255):=IJ (e:=39) Tryz.underlying23 aeM anC (by decide) (fun _=>rfl) atg
theorem ahS:Tryz.prog.cellsOf 22=1:=by kernel_rfl
end
open Go Tw Pv cu
section
variable {H:Type} {nN:LI2×LI3->H} {w:LI4}
theorem anE:Tryz.prog.cellsOf 105=2:=by kernel_rfl
theorem ath:dI Tryz.prog 105=some 2:=by kernel_rfl
theorem anF:Tryz.prog.cellsOf 24=1:=by kernel_rfl
theorem ati:Tryz.prog.cellsOf 23=1:=by kernel_rfl
theorem anG:Tryz.prog.cellsOf 26=5:=by kernel_rfl
theorem rBr{g:Nat}:RdX nN w (g+3) 105 Br.ps (fun b=>∀a∈b.aA,(Lit.int .i64 a).wf=true):=
 (GH Tryz.underlying105 anE (fun _=>rfl) (sK rfl a3k (fun _=>rfl) acC (sK rfl ahS (fun _=>rfl) a9z VT))).iso (fun x=>⟨x.1,x.2.1⟩) (fun _=>rfl) fun _ h=>h.2.1
theorem atj{g:Nat}:RdX nN w (g+4) 24 (fun l:List Br=>[lBr l]) (fun l=>∀b∈l,∀a∈b.aA,(Lit.int .i64 a).wf=true):=IJ (e:=105) Tryz.underlying24 anE ath (by decide) (fun _=>rfl) rBr
theorem a9A{a:Int}(h:(Lit.int .i64 a).wf=true):GN a:=by
 simp only[Lit.wf,a2c,a1n]at h;obtain⟨h1,h2⟩:=h;have e1:i64.min=-(2^63):=by decide
 have e2:i64.max=2^63-1:=by decide
 exact⟨by omega,by omega⟩
theorem rDg{g:Nat}:RdX nN w (g+5) 26 Dg.ps IY:=
 (GH Tryz.underlying26 anG (fun _=>rfl) (sK rfl ahS (fun _=>rfl) a9z (sK rfl ahS (fun _=>rfl) a9z (sK rfl ati (fun _=>rfl) anD (sK rfl anF (fun _=>rfl) atj (sK rfl a3k (fun _=>rfl) acC VT)))))).iso (fun x=>⟨x.1,x.2.1,x.2.2.1,x.2.2.2.1,x.2.2.2.2.1⟩) (fun _=>rfl) fun x h=>by
  obtain⟨_,_,h3,h4,h5,_⟩:=h;refine⟨fun i hi k hk=>?_,a9A h5,fun v hv=>(h3 v hv).1⟩;have hb:fH ⟨x.1,x.2.1,x.2.2.1,x.2.2.2.1,x.2.2.2.2.1⟩ i∈x.2.2.2.1:=by show(x.2.2.2.1).getD i kL∈_;rw[List.getD,a0D hi];exact a5p _
  refine a9A (h4 _ hb _ ?_);rw[List.getD,a0D hk];exact a5p _
end
open Go Tw Pv cu
section
variable {H:Type} {nN:LI2×LI3->H} {w:LI4}
theorem atl:dI Qp 26=some 5:=by kernel_rfl
theorem atm{g:Nat}:RdX nN w (g+6) 56 (fun l:List Dg=>[.dH 26 l false]) (fun l=>∀d∈l,IY d):=IJ (e:=26) Tryz.underlying56 anG atl (by decide) (fun _=>rfl) rDg
end
open Go.ChangeShapes Go.WideShapes Go.ChangeAt Go.RowKit
theorem Tryz.own:ownKnob Tryz.prog.godebug=none:=by kernel_rfl
theorem Tryz.laidOut:laidOutB Tryz.prog=true:=by kernel_rfl
theorem Tryz.mixed:Tryz.prog.follows .mixedOrders=true:=by kernel_rfl
theorem ahT:iO Tryz.prog T.ext:=by
 show iO Tryz.prog agf;intro fv args h v h' ws hc;unfold agf at hc;split at hc
 .split at hc
  .exact aaT (a02 (T:=Tm) Tryz.mixed (fun _ _ _ _ _ _ h=>by cases h) 2) _ _ _ _ _ _ hc
  exact Y9 ad8 _ _ _ _ _ _ hc
 exact Y9 ad8 _ _ _ _ _ _ hc
theorem Tryz.tys13:Tryz.f13.params.toList=[5,56]:=by kernel_rfl
set_option maxRecDepth 100000 in
theorem MX(os:Os)(started:os.Started)(H:Type)(enc:LI2×LI3->H) :
  ReturnsInHanded {} Tryz.checked os 13 .any (Rows.applyOpsSpec.pre6 enc Tryz.prog Tryz.f13 Rows.applyOpsRow.domain false) (Rows.applyOpsSpec.post enc Tryz.prog Tryz.f13 false true false false):=by
 refine returnsInHanded_of_change (C:=Tryz.checked) Tryz.own started (by kernel_rfl) Tryz.func13
  (ChangeSpec.witness6 (enc:=enc) (C:=Tryz.checked) false ⟨#[],#[.int .u8 0,.slice none 0 0],[]⟩ 8 (by kernel_rfl) (by kernel_rfl) (by kernel_rfl) (by kernel_rfl)) ?_
 intro W base args ds gs before anH hW axM _;have XB:∀(j:Nat) t v,Tryz.f13.params[j]? = some t->args[j]? = some v->Value.okWide Tryz.prog W .any base t v:=anH;have hW':=hW;obtain⟨p,q,atn,hV,rfl,hfz,jL⟩:=hW;have hTA:DataW.TrodAll enc Tryz.prog W 0 (fun _=>true) true Tryz.f13.params.toList args.toList ds p:=atn;obtain⟨rfl,rfl⟩:=trodVars_none hV;rw[Tryz.tys13]at hTA;obtain⟨d0,_,rfl,r0,_,_,hTA⟩:=U5 hTA;obtain⟨d1,_,rfl,r1,_,_,hTA⟩:=U5 hTA;obtain⟨_,rfl,_⟩:=trodAll_nil hTA;obtain⟨a0,q0,h0⟩:=rU8 (g:=6) d0 r0;obtain⟨a1,q1,h1⟩:=atm (g:=1) d1 r1;obtain⟨x0,e0,g0,v0⟩:=h0 ([]);obtain⟨x1,e1,g1,v1⟩:=h1 ([]++e0);have w0:=v0 (e1);simp only[a5U,acB,a5Z]at w0;obtain⟨y0,_,rfl,u0,z0⟩:=w0.inv;cases z0.inv0;have w1:=v1 ([]);simp only[a5U,acB,a5Z]at w1;obtain⟨y1,_,rfl,u1,z1⟩:=w1.inv;cases z1.inv0;obtain⟨N,hN⟩:=ate;have ato:=hN (N+1) (by omega) 13 ((Pv.a2 uA a0z).put (a0,a1)) (tA.put true) [] [∀d∈a1,IY d,0<=a0∧a0<=255] rfl (by
  intro p hp;simp only[a2x,List.not_mem_nil,or_false]at hp;rcases hp with rfl|rfl
  .exact q1
  .exact q0)
 obtain⟨h',hr⟩:=ag8 (h:=[]++e0++e1) ato (by simp only[a5U,acB,a5Z];exact .cons u0 (.cons u1 .nil));exact a03 (P:=Tryz.prog) (T:=T) (L:=LL) (n:=N) (g:=7) Tryz.mixed Tryz.laidOut rfl rfl (by kernel_rfl) Tryz.underlying4 (by kernel_rfl) hW' XB
  (by rw[Tryz.tys13];exact(a7I (by kernel_rfl) g0 (a7I (by kernel_rfl) g1 ag7))) ahT (by kernel_rfl) (by kernel_rfl) hr
theorem MZ:joinedFacts Tryz.pinned.checked.prog 13 Tryz.f13 Rows.applyOpsSpec Rows.applyOpsRow=true:=by kernel_rfl
theorem ApplyOps_holds:Rows.ApplyOpsSaid:=
 OpenClaim.holds_of_wide 13 Tryz.f13 rfl rfl rfl rfl rfl rfl rfl ⟨rfl,rfl,rfl,rfl,rfl⟩ rfl rfl rfl rfl rfl (by kernel_rfl) Tryz.func13 MZ
  (a6B (by kernel_rfl)) (by unfold Func.isWrapper;first|(rw[a0I (by decide +kernel)];kernel_rfl)|(rw[a0F (by decide +kernel)];exact⟨rfl,rfl⟩))
  (fun os started H enc _=>MX os started H enc)
end Go.Proofs.YtmobpoiejckagaaGreat
