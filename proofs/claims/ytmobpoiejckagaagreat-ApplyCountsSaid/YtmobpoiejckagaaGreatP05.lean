/- Part 6 of a proof: At how many places a diagram has a cell, and the first one, are the document's, or the errors are; for all diagrams and cells. -/
import Derived.Test.YtmobpoiejckagaaGreatP04
set_option linter.constructorNameAsVariable false
set_option linter.unusedVariables false
set_option linter.unusedSimpArgs false
set_option linter.unusedSectionVars false
open Go.IntKind (i64)
noncomputable section
namespace Go.Proofs.YtmobpoiejckagaaGreat
open Go Tw Pv cO
theorem a6T{n:Int}(h:0<=n∧n<=6):n=0∨n=1∨n=2∨n=3∨n=4∨n=5∨n=6:=by omega
theorem a6U:(0:Int)<=32:=by decide
def acJ:eU aF:=bZ 206 (a2 pA pA) (dK (a2 pA pA)) (fun p=>(0,p.2)) (fun p=>[p.1=1,0<=p.2∧p.2<=6]) ajN
theorem ajO:Gd acJ:=aoB.add fun n hO p hp=>by
 obtain⟨a,b⟩:=p;have h1:a=1:=hp _ (.head _);have h2:0<=b∧b<=6:=hp _ (.tail _ (.head _));subst h1;rcases a6T h2 with rfl|rfl|rfl|rfl|rfl|rfl|rfl
 all_goals exact aK hO (.o a6U (.o a6U (.o a6U (.o a6U (.o a6U .rr)))))
def acK:eU aF:=bZ 175 (a2 pA pA) (dK (a2 pA pA)) (fun p=>(0,p.2)) (fun p=>[p.1=1,0<=p.2∧p.2<=6]) acJ
theorem ajP:Gd acK:=ajO.add fun n hO p hp=>aK hO (.o (hp _ (.head _)) (.o (hp _ (.tail _ (.head _))) .rr))
def He:eU aF:=bZ 124 (a2 qB iA) qB (fun p=>List.replicate p.2.toNat (-1)) (fun p=>[p.1=[-1],0<=p.2∧p.2<=6]) acK
theorem Xo:Gd He:=ajP.add fun n hO p hp=>by
 obtain⟨a,b⟩:=p;have h1:a=[-1]:=hp _ (.head _);have h2:0<=b∧b<=6:=hp _ (.tail _ (.head _));subst h1;rcases a6T h2 with rfl|rfl|rfl|rfl|rfl|rfl|rfl
 .exact aK hO (.b (rfl:decide ((0:Int)<0)=false) (.o (rfl:(1:Int)=1) (.o (⟨by decide,by decide⟩:(0:Int)<=0∧(0:Int)<=6) (.b (rfl:decide ((0:Int)>0)=false) (.b (rfl:decide ((0:Int)>9223372036854775807)=false) (.o (rfl:(0:Int)=0) (.o (show(0:Int)<=0 by decide) (.o (show(0:Int)<=(ah:Int) by decide) (.m 8 le8 (.b (rfl:decide ((0:Int)<0)=false) .rr))))))))))
 .exact aK hO (.b (rfl:decide ((1:Int)<0)=false) (.o (rfl:(1:Int)=1) (.o (⟨by decide,by decide⟩:(0:Int)<=1∧(1:Int)<=6) (.b (rfl:decide ((0:Int)>0)=false) (.b (rfl:decide ((1:Int)>9223372036854775807)=false) (.o (rfl:(1:Int)=1) (.o (show(0:Int)<=1 by decide) (.o (show(1:Int)<=(ah:Int) by decide) (.m 8 le8 (.b (rfl:decide ((1:Int)<1)=false) .rr))))))))))
 .exact aK hO (.b (rfl:decide ((2:Int)<0)=false) (.o (rfl:(1:Int)=1) (.o (⟨by decide,by decide⟩:(0:Int)<=2∧(2:Int)<=6) (.b (rfl:decide ((0:Int)>0)=false) (.b (rfl:decide ((2:Int)>9223372036854775807)=false) (.o (rfl:(2:Int)=2) (.o (show(0:Int)<=2 by decide) (.o (show(2:Int)<=(ah:Int) by decide) (.m 8 le8 (.b (rfl:decide ((1:Int)<2)=true) (.o (show(0:Int)<=1 by decide) (.o (show(1:Int)<=2 by decide) (.o (show(2:Int)<=2 by decide) (.o (show(0:Int)<=0 by decide) (.o (show(0:Int)<=1 by decide) (.o (show(1:Int)<=2 by decide) (.b (rfl:decide ((2:Int)<2)=false) .rr)))))))))))))))))
 .exact aK hO (.b (rfl:decide ((3:Int)<0)=false) (.o (rfl:(1:Int)=1) (.o (⟨by decide,by decide⟩:(0:Int)<=3∧(3:Int)<=6) (.b (rfl:decide ((0:Int)>0)=false) (.b (rfl:decide ((3:Int)>9223372036854775807)=false) (.o (rfl:(3:Int)=3) (.o (show(0:Int)<=3 by decide) (.o (show(3:Int)<=(ah:Int) by decide) (.m 8 le8 (.b (rfl:decide ((1:Int)<3)=true) (.o (show(0:Int)<=1 by decide) (.o (show(1:Int)<=3 by decide) (.o (show(3:Int)<=3 by decide) (.o (show(0:Int)<=0 by decide) (.o (show(0:Int)<=1 by decide) (.o (show(1:Int)<=3 by decide) (.b (rfl:decide ((2:Int)<3)=true) (.o (show(0:Int)<=2 by decide) (.o (show(2:Int)<=3 by decide) (.o (show(3:Int)<=3 by decide) (.o (show(0:Int)<=0 by decide) (.o (show(0:Int)<=2 by decide) (.o (show(2:Int)<=3 by decide) (.b (rfl:decide ((3:Int)<3)=false) .rr))))))))))))))))))))))))
 .exact aK hO (.b (rfl:decide ((4:Int)<0)=false) (.o (rfl:(1:Int)=1) (.o (⟨by decide,by decide⟩:(0:Int)<=4∧(4:Int)<=6) (.b (rfl:decide ((0:Int)>0)=false) (.b (rfl:decide ((4:Int)>9223372036854775807)=false) (.o (rfl:(4:Int)=4) (.o (show(0:Int)<=4 by decide) (.o (show(4:Int)<=(ah:Int) by decide) (.m 8 le8 (.b (rfl:decide ((1:Int)<4)=true) (.o (show(0:Int)<=1 by decide) (.o (show(1:Int)<=4 by decide) (.o (show(4:Int)<=4 by decide) (.o (show(0:Int)<=0 by decide) (.o (show(0:Int)<=1 by decide) (.o (show(1:Int)<=4 by decide) (.b (rfl:decide ((2:Int)<4)=true) (.o (show(0:Int)<=2 by decide) (.o (show(2:Int)<=4 by decide) (.o (show(4:Int)<=4 by decide) (.o (show(0:Int)<=0 by decide) (.o (show(0:Int)<=2 by decide) (.o (show(2:Int)<=4 by decide) (.b (rfl:decide ((4:Int)<4)=false) .rr))))))))))))))))))))))))
 .exact aK hO (.b (rfl:decide ((5:Int)<0)=false) (.o (rfl:(1:Int)=1) (.o (⟨by decide,by decide⟩:(0:Int)<=5∧(5:Int)<=6) (.b (rfl:decide ((0:Int)>0)=false) (.b (rfl:decide ((5:Int)>9223372036854775807)=false) (.o (rfl:(5:Int)=5) (.o (show(0:Int)<=5 by decide) (.o (show(5:Int)<=(ah:Int) by decide) (.m 8 le8 (.b (rfl:decide ((1:Int)<5)=true) (.o (show(0:Int)<=1 by decide) (.o (show(1:Int)<=5 by decide) (.o (show(5:Int)<=5 by decide) (.o (show(0:Int)<=0 by decide) (.o (show(0:Int)<=1 by decide) (.o (show(1:Int)<=5 by decide) (.b (rfl:decide ((2:Int)<5)=true) (.o (show(0:Int)<=2 by decide) (.o (show(2:Int)<=5 by decide) (.o (show(5:Int)<=5 by decide) (.o (show(0:Int)<=0 by decide) (.o (show(0:Int)<=2 by decide) (.o (show(2:Int)<=5 by decide) (.b (rfl:decide ((4:Int)<5)=true) (.o (show(0:Int)<=4 by decide) (.o (show(4:Int)<=5 by decide) (.o (show(5:Int)<=5 by decide) (.o (show(0:Int)<=0 by decide) (.o (show(0:Int)<=4 by decide) (.o (show(4:Int)<=5 by decide) (.b (rfl:decide ((5:Int)<5)=false) .rr)))))))))))))))))))))))))))))))
 .exact aK hO (.b (rfl:decide ((6:Int)<0)=false) (.o (rfl:(1:Int)=1) (.o (⟨by decide,by decide⟩:(0:Int)<=6∧(6:Int)<=6) (.b (rfl:decide ((0:Int)>0)=false) (.b (rfl:decide ((6:Int)>9223372036854775807)=false) (.o (rfl:(6:Int)=6) (.o (show(0:Int)<=6 by decide) (.o (show(6:Int)<=(ah:Int) by decide) (.m 8 le8 (.b (rfl:decide ((1:Int)<6)=true) (.o (show(0:Int)<=1 by decide) (.o (show(1:Int)<=6 by decide) (.o (show(6:Int)<=6 by decide) (.o (show(0:Int)<=0 by decide) (.o (show(0:Int)<=1 by decide) (.o (show(1:Int)<=6 by decide) (.b (rfl:decide ((2:Int)<6)=true) (.o (show(0:Int)<=2 by decide) (.o (show(2:Int)<=6 by decide) (.o (show(6:Int)<=6 by decide) (.o (show(0:Int)<=0 by decide) (.o (show(0:Int)<=2 by decide) (.o (show(2:Int)<=6 by decide) (.b (rfl:decide ((4:Int)<6)=true) (.o (show(0:Int)<=4 by decide) (.o (show(4:Int)<=6 by decide) (.o (show(6:Int)<=6 by decide) (.o (show(0:Int)<=0 by decide) (.o (show(0:Int)<=4 by decide) (.o (show(4:Int)<=6 by decide) (.b (rfl:decide ((6:Int)<6)=false) .rr)))))))))))))))))))))))))))))))
open Go Tw Pv cO
structure S3 where
 a:Int
 b:Int
 c:Int
 deriving DecidableEq
abbrev S3.ps(s:S3):List (PV aF):=[.int .i64 s.a,.int .i64 s.b,.int .i64 s.c]
def S3.get(s:S3):Nat->Int
 | 0=>s.a
 | 1=>s.b
 |_=>s.c
def S3.set(s:S3)(k:Nat)(v:Int):S3:=match k with
 | 0=>⟨v,s.b,s.c⟩
 | 1=>⟨s.a,v,s.c⟩
 |_=>⟨s.a,s.b,v⟩
structure Jb where
 s:List Int
 o:List Int
 D:List Dg
 g:List Int
abbrev Jb.ps(J:Jb)(op:PV aF):List (PV aF):=[lI J.s,lI J.o,lDg J.D,lI J.g,op]
def kE(d:Dg)(x c:Int):Bool:=if decide (x>=0)=true then((aj d x).var==c)else false
def KH(d:Dg)(x c g:Int):Int:=if kE d x c=true then(aj d x).aA.getD g.toNat 0 else x
theorem aa2{d:Dg}{x c:Int}(e:decide (x>=0)=false):kE d x c=false:=by unfold kE;rw[e];rfl
theorem a6V{d:Dg}{x c:Int}(e:decide (x>=0)=true):kE d x c=((aj d x).var==c):=by unfold kE;rw[e];rfl
abbrev kM(D:List Dg)(k:Nat):Dg:=D.getD k oH
def jH(D:List Dg)(s:S3)(c:Int):Bool:=!(jU (bG (fun k=>kE (kM D k) (s.get k) c) D.length))
def bJ(D:List Dg)(s:S3)(c g:Int):S3:=aW (fun k y=>y.set k (KH (kM D k) (y.get k) c g)) D.length 0 s
def fE(D:List Dg):S3:=aW (fun k y=>y.set k (kM D k).root) D.length 0 ⟨0,0,0⟩
theorem three{k n:Nat}(h:k<n)(hn:n<=3):k=0∨k=1∨k=2:=by omega
theorem m3{n:Nat}(h:n<=3):n<=ah:=by unfold ah;omega
section
variable {M f:Nat} {a cc:List (PV aF)} {H:List (PB aF)}
abbrev wAs(J:Jb)(op:PV aF)(H:List (PB aF))(s:S3)(c:Int)(i:Int)(x:List (Nat×PE aF)):aS aF:=⟨[(2,xi c),(4,.loc 1 0),(10,xL 26 J.D),(11,xi J.D.length),(12,xi i)]++x,[J.ps op,s.ps],H⟩
def zAs(J:Jb)(op:PV aF)(H:List (PB aF))(s:S3)(c:Int):Unit⊕Nat->Ex×aS aF
 |.inl _=>(.exit 0,wAs J op H s c J.D.length [(13,xl false)])
 |.inr k=>(.ret,⟨[(6,xl true)],[J.ps op,s.ps,(kM J.D k).ps],H⟩)
theorem lAs(J:Jb)(s:S3)(c:Int)(hD:J.D.length<=3)(hr:∀k,k<J.D.length->decide (s.get k>=0)=true->gW (s.get k) (kM J.D k).au.length):Ov M 127 0 H.length (wAs J (.fn f a cc) H s c 0 []) (zAs J (.fn f a cc) H s c (bG (fun k=>kE (kM J.D k) (s.get k) c) J.D.length)).1 (zAs J (.fn f a cc) H s c (bG (fun k=>kE (kM J.D k) (s.get k) c) J.D.length)).2:=by
 refine iR (st:=fun i _=>wAs J (.fn f a cc) H s c i []) (g:=gS (fun k=>kE (kM J.D k) (s.get k) c)) (out:=zAs J (.fn f a cc) H s c) (fun _ _=>True) (by kernel_rfl) (m3 hD) trivial (fun k u m hk _ ih=>?_) (fun _ _=>?_)
 .have h1:=hr k hk;have hg:gS (fun k=>kE (kM J.D k) (s.get k) c) k u=if kE (kM J.D k) (s.get k) c=true then .inr k else .inl u:=rfl
  cases e:decide (s.get k>=0)
  .rw[aa2 e,a0S (by simp)]at hg;rw[hg];rcases three hk hD with rfl|rfl|rfl
   all_goals exact aN fQ (.b (bC hk) (.o (aH hk) (.b e (.nx (ih _ trivial)))))
  rw[a6V e]at hg;rw[hg];rcases three hk hD with rfl|rfl|rfl
  all_goals exact aN fQ (.b (bC hk) (.o (aH hk) (.b e (.o (h1 e) (.ls (.ou nofun) (.nx (ih _ trivial)))))))
 exact aN fQ (.b (fD J.D.length) (.ou nofun))
theorem a6W(J:Jb)(s:S3)(c:Int)(hD:J.D.length<=3)(hr:∀k,k<J.D.length->decide (s.get k>=0)=true->gW (s.get k) (kM J.D k).au.length):aV X0 Qp (bP (M+1)) (.fn 127 [] []) [.agg (J.ps (.fn f a cc)),.agg s.ps,.int .i64 c] H (.bool (jH J.D s c)) H:=by
 have lp:=lAs (M:=M) (f:=f) (a:=a) (cc:=cc) (H:=H) J s c hD hr;unfold jH;cases h:jU (bG (fun k=>kE (kM J.D k) (s.get k) c) J.D.length)
 .exact fM fQ (first:=[]) (cap:=[]) (.w (jW lp 0 h) .er)
 exact fM fQ (first:=[]) (cap:=[]) (.w (jV lp () h) .er)
abbrev wAf(J:Jb)(op:PV aF)(H:List (PB aF))(s:S3)(c g:Int)(i:Int)(x:List (Nat×PE aF)):aS aF:=⟨[(2,xi c),(3,xi g),(5,.loc 1 0),(8,.loc 2 0),(12,xL 26 J.D),(13,xi J.D.length),(14,xi i)]++x,[J.ps op,s.ps,[.int .i64 0,.int .i64 0,.int .i64 0]],H⟩
structure a1k(d:Dg)(x c g:Int):Prop where
 n:decide (x>=0)=true->gW x d.au.length
 k:kE d x c=true->gW g (aj d x).aA.length
theorem J5(J:Jb)(s:S3)(c g:Int)(hD:J.D.length<=3)(hr:∀k,k<J.D.length->a1k (kM J.D k) (s.get k) c g):aV X0 Qp (bP (M+1)) (.fn 129 [] []) [.agg (J.ps (.fn f a cc)),.agg s.ps,.int .i64 c,.int .i64 g] H (.agg (bJ J.D s c g).ps) H:=by
 have lp:Ov M 129 0 H.length (wAf J (.fn f a cc) H s c g 0 []) (.exit 0) (wAf J (.fn f a cc) H (bJ J.D s c g) c g J.D.length [(15,xl false)]):=by
  refine y9 (σ:=S3) (N:=J.D.length) (g:=fun k y=>y.set k (KH (kM J.D k) (y.get k) c g)) (s0:=s) (st:=fun i y=>wAf J (.fn f a cc) H y c g i []) (fin:=fun y=>wAf J (.fn f a cc) H y c g J.D.length [(15,xl false)]) (fun j y=>∀k,j<=k->k<J.D.length->y.get k=s.get k) (by kernel_rfl) (m3 hD) (fun _ _ _=>rfl) (fun j y hj hy=>?_) (fun j y hj hy m e p g9=>?_) (fun y _=>?_)
  .intro k hk mD;rw[<-hy k (by omega) mD];rcases three mD hD with rfl|rfl|rfl<;>rcases three hj hD with rfl|rfl|rfl<;>first|rfl|omega
  .have h1:=hr j hj;rw[<-hy j (a1J _) hj]at h1;obtain⟨h1,h2⟩:=h1;unfold KH at g9;rcases three hj hD with rfl|rfl|rfl
   all_goals
    cases e1:decide (y.get _>=0)
    .unfold kE at g9;rw[e1]at g9;exact aN fQ (.b (bC hj) (.o (aH hj) (.b e1 (.go g9))))
    .have h3:=h1 e1;cases e2:(aj (kM J.D _) (y.get _)).var==c
     .unfold kE at g9;rw[e1,a0V rfl,e2]at g9;exact aN fQ (.b (bC hj) (.o (aH hj) (.b e1 (.o h3 (.b e2 (.go g9))))))
     .unfold kE at g9 h2;rw[e1,a0V rfl,e2]at g9 h2;exact aN fQ (.b (bC hj) (.o (aH hj) (.b e1 (.o h3 (.b e2 (.o h3 (.o (h2 rfl) (.go g9))))))))
  exact aN fQ (.b (fD J.D.length) .ex)
 exact fM fQ (first:=[]) (cap:=[]) (.w lp .er)
abbrev wSt(J:Jb)(op:PV aF)(H:List (PB aF))(s:S3)(i:Int)(x:List (Nat×PE aF)):aS aF:=⟨[(2,.loc 1 0),(6,xL 26 J.D),(7,xi J.D.length),(8,xi i)]++x,[J.ps op,s.ps],H⟩
theorem Zl(J:Jb)(hD:J.D.length<=3):aV X0 Qp (bP (M+1)) (.fn 130 [] []) [.agg (J.ps (.fn f a cc))] H (.agg (fE J.D).ps) H:=by
 have lp:Ov M 130 0 H.length (wSt J (.fn f a cc) H ⟨0,0,0⟩ 0 []) (.exit 0) (wSt J (.fn f a cc) H (fE J.D) J.D.length [(9,xl false)]):=by
  refine y9 (σ:=S3) (N:=J.D.length) (g:=fun k y=>y.set k (kM J.D k).root) (s0:=⟨0,0,0⟩) (st:=fun i y=>wSt J (.fn f a cc) H y i []) (fin:=fun y=>wSt J (.fn f a cc) H y J.D.length [(9,xl false)]) (fun _ _=>True) (by kernel_rfl) (m3 hD) trivial (fun _ _ _ _=>trivial) (fun j y hj _ m e p g9=>?_) (fun y _=>?_)
  .rcases three hj hD with rfl|rfl|rfl
   all_goals exact aN fQ (.b (bC hj) (.o (aH hj) (.go g9)))
  exact aN fQ (.b (fD J.D.length) .ex)
 exact fM fQ (first:=[]) (cap:=[]) (.w lp .er)
end
end Go.Proofs.YtmobpoiejckagaaGreat
namespace Pv
open Go Tw
section
variable {X:kC} {P:Program}
theorem aV.fzR(hX:bK X P){call:aY}{fv:PV X.Γ}{xs:List (PV X.Γ)}{H H1:List (PB X.Γ)}{v v':PV X.Γ}(hs:aV X P call fv xs H v H1)(is:List Nat)(hv:views H1 [v]=some [v'])(ho:∀i,i∈kF.jR [v]->i∈is):aV X P call fv xs H v' (aX is H1):=by
 intro A m h tf rO hr hf hx;obtain⟨w,h',ws,m1,k1,k2,k3,k4,k5,k6⟩:=hs A m h tf rO hr hf hx;have hF:=gY (h:=h') is m1;have w1:=(kU (m':=bQ is m1) hX k2 (.cons k3 .nil) hv ho).mono fun b hb=>FA.gone k2 hb;obtain⟨x,r,e,h1,_⟩:=w1.inv;cases e;exact⟨w,h',ws,bQ is m1,k1,k2.aX is,h1,k4.trans hF.1,k5.trans hF.2,k6⟩
end
end Pv
namespace Go.Proofs.YtmobpoiejckagaaGreat
open Go Tw Pv cO
def aT(D:List Dg)(s:S3):List V:=(List.range D.length).map fun k=>pF (kM D k) (s.get k)
def gCe(D:List Dg)(s:S3)(k:Nat)(l:List V):List V:=l++[pF (kM D k) (s.get k)]
theorem a6X(D:List Dg)(s:S3):aW (gCe D s) D.length 0 []=aT D s:=by
 have:=dW (g:=gCe D s) (m:=D.length) (k:=0) (s:=[]) (fun k l=>l=(List.range k).map fun k=>pF (kM D k) (s.get k)) rfl (fun j l _ _ e=>by rw[gCe,e,ad3,a3H];rfl);rw[a3E]at this;exact this
abbrev wCe(J:Jb)(op:PV aF)(H:List (PB aF))(s:S3)(l:List V)(i:Int)(x:List (Nat×PE aF)):aS aF:=⟨[(3,.loc 1 0),(4,.val (.own H.length)),(8,xL 26 J.D),(9,xi J.D.length),(10,xi i)]++x,[J.ps op,s.ps],H++[.list false false 39 l]⟩
theorem a1l{M f:Nat}(J:Jb)(s:S3)(hD:J.D.length<=3)(hr:∀k,k<J.D.length->gW (jw (s.get k)) (kM J.D k).aO.length):aV X0 Qp (bP (M+1)) (.fn 128 [] []) [.agg (J.ps (.fn f [] [])),.agg s.ps] [] (lV (aT J.D s)) []:=by
 have lp:Ov M 128 0 0 (wCe J (.fn f [] []) [] s [] 0 []) (.exit 0) (wCe J (.fn f [] []) [] s (aT J.D s) J.D.length [(11,xl false)]):=by
  rw[<-a6X J.D s];refine y9 (σ:=List V) (N:=J.D.length) (g:=gCe J.D s) (s0:=[]) (st:=fun i l=>wCe J (.fn f [] []) [] s l i []) (fin:=fun l=>wCe J (.fn f [] []) [] s l J.D.length [(11,xl false)]) (fun k l=>l.length=k) (by kernel_rfl) (m3 hD) rfl (fun j y hj hy=>by simp[gCe,hy]) (fun j y hj hy m e p g9=>?_) (fun y _=>?_)
  .have h1:=hr j hj;have h2:y.length+[pF (kM J.D j) (s.get j)].length<=ah:=by rw[hy,a3G];exact m3 (by omega)
   rcases three hj hD with rfl|rfl|rfl
   all_goals exact aN fQ (.b (bC hj) (.o (aH hj) (.o h1 (.o h2 (.goG [.gc [2]] g9)))))
  exact aN fQ (.b (fD J.D.length) .ex)
 have h0:aV X0 Qp (bP (M+1)) (.fn 128 [] []) [.agg (J.ps (.fn f [] [])),.agg s.ps] [] (.own 0) ([]++[.list false false 39 (aT J.D s)]):=fM fQ (first:=[]) (cap:=[]) (.wG [.Iq 4 39] lp .er);exact aV.cut hX (aV.fzR hX h0 [0] (v':=lV (aT J.D s)) rfl (by decide)) rfl rfl rfl rfl
theorem aa3{M f:Nat}{u:Int}(J:Jb)(s:S3)(hD:J.D.length<=3)(hr:∀k,k<J.D.length->gW (jw (s.get k)) (kM J.D k).aO.length):aV X0 Qp (bP (M+1)) (.fn 128 [] []) [.agg (J.ps (.fn f [] [.ptr 0 0 1])),.agg s.ps] [.aC [.int .u8 u]] (lV (aT J.D s)) [.aC [.int .u8 u]]:=by
 have lp:Ov M 128 0 1 (wCe J (.fn f [] [.ptr 0 0 1]) [.aC [.int .u8 u]] s [] 0 []) (.exit 0) (wCe J (.fn f [] [.ptr 0 0 1]) [.aC [.int .u8 u]] s (aT J.D s) J.D.length [(11,xl false)]):=by
  rw[<-a6X J.D s];refine y9 (σ:=List V) (N:=J.D.length) (g:=gCe J.D s) (s0:=[]) (st:=fun i l=>wCe J (.fn f [] [.ptr 0 0 1]) [.aC [.int .u8 u]] s l i []) (fin:=fun l=>wCe J (.fn f [] [.ptr 0 0 1]) [.aC [.int .u8 u]] s l J.D.length [(11,xl false)]) (fun k l=>l.length=k) (by kernel_rfl) (m3 hD) rfl (fun j y hj hy=>by simp[gCe,hy]) (fun j y hj hy m e p g9=>?_) (fun y _=>?_)
  .have h1:=hr j hj;have h2:y.length+[pF (kM J.D j) (s.get j)].length<=ah:=by rw[hy,a3G];exact m3 (by omega)
   rcases three hj hD with rfl|rfl|rfl
   all_goals exact aN fQ (.b (bC hj) (.o (aH hj) (.o h1 (.o h2 (.goG [.gc [3]] g9)))))
  exact aN fQ (.b (fD J.D.length) .ex)
 have h0:aV X0 Qp (bP (M+1)) (.fn 128 [] []) [.agg (J.ps (.fn f [] [.ptr 0 0 1])),.agg s.ps] [.aC [.int .u8 u]] (.own 1) ([.aC [.int .u8 u]]++[.list false false 39 (aT J.D s)]):=fM fQ (first:=[]) (cap:=[]) (.wG [.Iq 4 39] lp .er);exact aV.cut hX (aV.fzR hX h0 [1] (v':=lV (aT J.D s)) rfl (by decide)) rfl rfl rfl rfl
open Go Tw Pv cO
def S3.l(s:S3):List Int:=[s.a,s.b,s.c]
theorem uSt:Tryz.prog.underlying 148=some (.array 3 3):=by kernel_rfl
theorem ajQ(a b:S3):aB Qp (Op.equal 148 (.agg (D7 .i64 a.l)) (.agg (D7 .i64 b.l)))=some (decide (a=b)):=by
 have:=Bf (P:=Qp) 9998 (k:=.i64) (l:=a.l) (l':=b.l) uSt (by kernel_rfl) a2F (by kernel_rfl) rfl rfl;refine Eq.trans this ?_;obtain⟨a1,a2,a3⟩:=a;obtain⟨b1,b2,b3⟩:=b;simp[S3.l]
def kS:oJ X0 Qp 148 S3 where
 pv x:=.agg x.ps
 tv x:=.agg [.int .i64 x.a,.int .i64 x.b,.int .i64 x.c]
 v x:=.agg (D7 .i64 x.l)
 hp _:=rfl
 ht _:=rfl
 hc em x:=by kernel_rfl
 hf x l:=aeL uSt ajQ x l
 hk:=aeM uSt ajQ
structure Mk where
 e:List V
 n:List Br
 k:List (S3×Int)
def Uy(D:List Dg)(f:S3->Mk->Int×Mk)(s:S3)(c:Int)(j:Nat)(y:List Int×Mk):List Int×Mk:=(y.1++[(f (bJ D s c j) y.2).1],(f (bJ D s c j) y.2).2)
def knS(k:List (S3×Int))(s:S3):Int:=((k.find? fun e=>decide (e.1=s)).map (·.2)).getD 0
def jy(J:Jb)(op:List V->V):List Int->S3->Mk->Int×Mk
 | [],s,x=>(i64.wrap (0-((x.e++[op (aT J.D s)]).length:Int)),{ x with e:=x.e++[op (aT J.D s)] })
 |c::r,s,x=>if jH J.D s c=true then(if decide (J.g.getD c.toNat 0>=0)=true then jy J op r (bJ J.D s c (J.g.getD c.toNat 0)) x
   else if s∈x.k.map (·.1)then(knS x.k s,x)
   else
    let y:=aW (Uy J.D (jy J op r) s c) (J.s.getD c.toNat 0).toNat 0 ([],x)
    ((y.2.n.length:Int),⟨y.2.e,y.2.n++[⟨c,y.1⟩],y.2.k++[(s,(y.2.n.length:Int))]⟩))
  else jy J op r s x
abbrev Hf(k:List (S3×Int)):List (PV aF×PV aF):=kS.es (k.map fun e=>(e.1,.int .i64 e.2))
abbrev pM:List (PV aF):=[.ptr 2 0 5,.ptr 1 0 5,.ptr 3 0 1,.ptr 4 0 1]
abbrev HM0(J:Jb)(f:Nat)(x:Mk):List (PB aF):=[.map (Hf x.k),.cells [lI J.s,lI J.o,.own 5,.own 6,.int .i64 0],.aC (J.ps (.fn f [] [])),.aC [.fn 126 [] pM],.aC [.map 0],Pz x.e,PD x.n]
abbrev aa4(J:Jb)(f:Nat)(x:Mk):List (PB aF):=[.map (Hf x.k),.cells [lI J.s,lI J.o,.own 7,.own 8,.int .i64 0],.aC (J.ps (.fn f [] [])),.aC [.fn 126 [] pM],.aC [.map 0],.gone,.gone,Pz x.e,PD x.n]
abbrev HM1(J:Jb)(f:Nat)(u:Int)(x:Mk):List (PB aF):=[.map (Hf x.k),.cells [lI J.s,lI J.o,.own 6,.own 7,.int .i64 0],.aC (J.ps (.fn f [] [.ptr 5 0 1])),.aC [.fn 126 [] pM],.aC [.map 0],.aC [.int .u8 u],Pz x.e,PD x.n]
abbrev aa5(J:Jb)(f:Nat)(u:Int)(x:Mk):List (PB aF):=[.map (Hf x.k),.cells [lI J.s,lI J.o,.own 8,.own 9,.int .i64 0],.aC (J.ps (.fn f [] [.ptr 5 0 1])),.aC [.fn 126 [] pM],.aC [.map 0],.aC [.int .u8 u],.gone,.gone,Pz x.e,PD x.n]
open Go Tw Pv cO
theorem S3.ji{s:S3}{i k:Nat}{v:Int}(hi:i<3)(hk:k<3):(s.set i v).get k=if k=i then v else s.get k:=by
 match i,k,hi,hk with
 | 0,0,_,_=>rfl
 | 0,1,_,_=>rfl
 | 0,2,_,_=>rfl
 | 1,0,_,_=>rfl
 | 1,1,_,_=>rfl
 | 1,2,_,_=>rfl
 | 2,0,_,_=>rfl
 | 2,1,_,_=>rfl
 | 2,2,_,_=>rfl
 |i+3,_,h,_=>omega
 |_,k+3,_,h=>omega
theorem J6{D:List Dg}(hD:D.length<=3)(t:S3)(c g:Int){k:Nat}(hk:k<D.length):(bJ D t c g).get k=KH (kM D k) (t.get k) c g:=by
 have:=dW (g:=fun k (y:S3)=>y.set k (KH (kM D k) (y.get k) c g)) (m:=D.length) (k:=0) (s:=t) (fun j y=>∀k,k<D.length->y.get k=if k<j then KH (kM D k) (t.get k) c g else t.get k) (fun k _=>by rw[a0S (by omega)]) (fun j y _ hj hy k hk=>by
  rw[S3.ji (by omega) (by omega)];by_cases e:k=j
  .subst e;rw[a0V rfl,a0V (by omega),hy k hk,a0S (by omega)]
  rw[a0S e,hy k hk];by_cases e2:k<j
  .rw[a0V e2,a0V (by omega)]
  rw[a0S e2,a0S (by omega)])
 have h:=this k hk;rw[a0V (by omega)]at h;exact h
theorem D9{D:List Dg}{t:S3}{c:Int}:jH D t c=true↔∃k,k<D.length∧kE (kM D k) (t.get k) c=true:=by
 unfold jH;constructor
 .intro h;refine abt fun h2=>?_;have:jU (bG (fun k=>kE (kM D k) (t.get k) c) D.length)=true:=dQ.2 fun k hk=>by
   cases e:kE (kM D k) (t.get k) c
   .rfl
   exact absurd ⟨k,hk,e⟩ h2
  rw[this]at h;cases h
 rintro⟨k,hk,h⟩;cases e:jU (bG (fun k=>kE (kM D k) (t.get k) c) D.length)
 .rfl
 have:=dQ.1 e k hk;rw[h]at this;cases this
theorem DU{d:Dg}{x c:Int}:kE d x c=true↔0<=x∧(aj d x).var=c:=by
 unfold kE;split
 .rename_i h;simp at h;simp[h]
 rename_i h;simp at h;simp;omega
structure DJ(J:Jb)(d:Dg):Prop where
 t:Bq d
 n:d.au.length<=6000
 s:d.ay=J.s
 o:d.aG=J.o
 rk:∀i,i<d.au.length->∀k,k<(fA d i).aA.length->d.aG.idxOf (fA d i).var+1<=FM d.aG d.au ((fA d i).aA.getD k 0)
 two:∀i,i<d.au.length->2<=(fA d i).aA.length
structure jL(J:Jb):Prop where
 d3:J.D.length<=3
 eu:wH J.s
 ord:jX J.s.length J.o=true
 dg:∀k,k<J.D.length->DJ J (kM J.D k)
 gl:J.g.length=J.s.length
 gv:∀c,gW c J.s.length->0<=J.g.getD c.toNat 0->J.g.getD c.toNat 0<J.s.getD c.toNat 0
def Dp(J:Jb)(a:Nat)(t:S3):Prop:=∀k,k<J.D.length->jf (kM J.D k) (t.get k) (kM J.D k).au.length∧a<=FM J.o (kM J.D k).au (t.get k)
theorem Dp.le{J:Jb}{a b:Nat}{t:S3}(h:Dp J a t)(hb:b<=a):Dp J b t:=fun k hk=>⟨(h k hk).1,by have:=(h k hk).2;omega⟩
section
variable {J:Jb} (hJ:jL J) {a:Nat} {t:S3} {c:Int} {r:List Int}
include hJ
theorem jL.o2:J.o.Nodup∧J.o.length=J.s.length∧∀c∈J.o,gW c J.s.length:=by
 have ho:=hJ.ord;unfold jX at ho;rw[a1T]at ho;exact⟨ho.2.2,ho.1,fun c hc=>⟨(ho.2.1 c hc).1,(ho.2.1 c hc).2⟩⟩
theorem jL.at_(hr:J.o.drop a=c::r):a<J.o.length∧J.o.getD a 0=c∧J.o.drop (a+1)=r∧c∈J.o∧J.o.idxOf c=a∧gW c J.s.length:=by
 have aQ:a<J.o.length:=by
  have:=congrArg List.length hr;rw[a3D,a3J]at this;omega
 have hd:=a7R aQ;rw[hr]at hd;obtain⟨hc,xg⟩:=List.cons.inj hd;have Gz:c∈J.o:=by rw[hc];exact a4d aQ
 obtain⟨h1,h2,h3⟩:=jL.o2 hJ;exact⟨aQ,by rw[hc];simp[List.getD,a0E aQ],xg.symm,Gz,by rw[hc];exact h1.idxOf_getElem a aQ,h3 c Gz⟩
theorem Zm(hr:J.o.drop a=c::r)(h:jH J.D t c=true):¬Dp J (a+1) t:=fun hd=>by
 obtain⟨k,hk,h1⟩:=D9.1 h;obtain⟨x0,hv⟩:=DU.1 h1;have:=(hd k hk).2;unfold FM at this;rw[a0S (by omega)]at this;have e:((kM J.D k).au.getD (t.get k).toNat mP).var=c:=hv;rw[e,(jL.at_ hJ hr).2.2.2.2.1]at this;omega
theorem a1m(hr:J.o.drop a=c::r)(hd:Dp J a t){k:Nat}(hk:k<J.D.length)(hn:kE (kM J.D k) (t.get k) c=false):a+1<=FM J.o (kM J.D k).au (t.get k):=by
 have h1:=(hd k hk).2;have h2:=jL.at_ hJ hr;by_cases x0:t.get k<0
 .unfold FM;rw[a0V x0];omega
 have iq:((kM J.D k).au.getD (t.get k).toNat mP).var≠c:=fun e=>by
  have:kE (kM J.D k) (t.get k) c=true:=DU.2 ⟨by omega,e⟩;rw[hn]at this;cases this
 unfold FM at h1 ⊢;rw[a0S x0]at h1 ⊢;rcases a3L a (J.o.idxOf ((kM J.D k).au.getD (t.get k).toNat mP).var)with h3|h3
 .exact h3
 exfalso;have e:J.o.idxOf ((kM J.D k).au.getD (t.get k).toNat mP).var=a:=by omega
 have aQ:J.o.idxOf ((kM J.D k).au.getD (t.get k).toNat mP).var<J.o.length:=by rw[e];exact h2.1
 have g:J.o.getD (J.o.idxOf ((kM J.D k).au.getD (t.get k).toNat mP).var) 0=((kM J.D k).au.getD (t.get k).toNat mP).var:=by
  rw[List.getD,a0E aQ,a4s];exact a8j aQ
 rw[e,h2.2.1]at g;exact iq g.symm
theorem Uz(hr:J.o.drop a=c::r)(hd:Dp J a t)(h:jH J.D t c=false):Dp J (a+1) t:=fun k hk=>by
 refine⟨(hd k hk).1,a1m hJ hr hd hk ?_⟩;cases e:kE (kM J.D k) (t.get k) c
 .rfl
 .have:=D9.2 ⟨k,hk,e⟩;rw[h]at this;cases this
theorem Hg(hd:Dp J a t){k:Nat}(hk:k<J.D.length)(h:kE (kM J.D k) (t.get k) c=true):gW (t.get k) (kM J.D k).au.length∧(aj (kM J.D k) (t.get k)).var=c∧((aj (kM J.D k) (t.get k)).aA.length:Int)=J.s.getD c.toNat 0:=by
 obtain⟨x0,hv⟩:=DU.1 h;have hr:gW (t.get k) (kM J.D k).au.length:=⟨x0,(hd k hk).1.1⟩;have hdj:=hJ.dg k hk;have:=hdj.t.ksz (t.get k).toNat (by have:=hr.2;omega);refine⟨hr,hv,?_⟩;have e:(aj (kM J.D k) (t.get k))=fA (kM J.D k) (t.get k).toNat:=rfl;rw[e,this,<-e,hv,hdj.s]
theorem lZ(hr:J.o.drop a=c::r)(hd:Dp J a t){j:Int}(hj:0<=j∧j<J.s.getD c.toNat 0):Dp J (a+1) (bJ J.D t c j):=fun k hk=>by
 rw[J6 hJ.d3 t c j hk];unfold KH;split
 .rename_i h;obtain⟨h1,h2,h3⟩:=Hg hJ hd hk h;have hdj:=hJ.dg k hk;have aQ:(t.get k).toNat<(kM J.D k).au.length:=by have:=h1.1;have:=h1.2;omega
  have Jw:j.toNat<(fA (kM J.D k) (t.get k).toNat).aA.length:=by
   have h3:((fA (kM J.D k) (t.get k).toNat).aA.length:Int)=J.s.getD c.toNat 0:=h3;omega
  have g1:=hdj.t.Ak (t.get k).toNat aQ j.toNat Jw;have g2:=hdj.rk (t.get k).toNat aQ j.toNat Jw;refine⟨⟨by have:=g1.1;show(fA (kM J.D k) (t.get k).toNat).aA.getD j.toNat 0<_;omega,g1.2⟩,?_⟩;have e:(fA (kM J.D k) (t.get k).toNat).var=c:=h2;rw[hdj.o,e,(jL.at_ hJ hr).2.2.2.2.1]at g2;exact g2
 .rename_i h;exact⟨(hd k hk).1,a1m hJ hr hd hk (by simpa using h)⟩
theorem J7(hd:Dp J a t){j:Int}(hj:0<=j∧j<J.s.getD c.toNat 0){k:Nat}(hk:k<J.D.length):a1k (kM J.D k) (t.get k) c j:=by
 refine⟨fun h=>⟨by simpa using h,(hd k hk).1.1⟩,fun h=>?_⟩;have:=(Hg hJ hd hk h).2.2;exact⟨hj.1,by rw[this];exact hj.2⟩
theorem UA(hr:J.o.drop a=c::r)(hd:Dp J a t)(h:jH J.D t c=true):2<=(J.s.getD c.toNat 0).toNat:=by
 obtain⟨k,hk,h1⟩:=D9.1 h;obtain⟨h2,h3,h4⟩:=Hg hJ hd hk h1;have:=(hJ.dg k hk).two (t.get k).toNat (by have:=h2.1;have:=h2.2;omega);have h4:((fA (kM J.D k) (t.get k).toNat).aA.length:Int)=J.s.getD c.toNat 0:=h4;omega
theorem J8(hd:Dp J J.o.length t){k:Nat}(hk:k<J.D.length):t.get k<0∧gW (jw (t.get k)) (kM J.D k).aO.length:=by
 have h1:=hd k hk;have:t.get k<0:=by
  refine abt fun h=>?_;have h2:=h1.2;unfold FM at h2;rw[a0S h]at h2;have hdj:=hJ.dg k hk;have aQ:(t.get k).toNat<(kM J.D k).au.length:=by have:=h1.1.1;omega
  have hv:=hdj.t.var (t.get k).toNat aQ;rw[hdj.s]at hv;have:=a4l.2 (mJ hJ.ord hv);have e:(fA (kM J.D k) (t.get k).toNat).var=((kM J.D k).au.getD (t.get k).toNat mP).var:=rfl;rw[e]at this;omega
 exact⟨this,h1.1.2 this⟩
end
open Go Tw Pv cO
def ov(g q:List Int):List Int:=List.zipWith (fun a b=>if 0<=a then a else b) g q
theorem UC{g q:List Int}{k:Nat}(h:g.length=q.length):(ov g q).getD k 0=if k<g.length then(if 0<=g.getD k 0 then g.getD k 0 else q.getD k 0)else 0:=by
 unfold ov;by_cases hk:k<g.length
 .rw[a0V hk];simp[List.getD,List.getElem?_zipWith,a0E hk,a0E (show k<q.length by omega)]
 rw[a0S hk];simp[List.getD,List.getElem?_zipWith,a3I (show g.length<=k by omega)]
def a7a(J:Jb)(op:List V->V)(q:List Int)(t:S3)(v:V):Prop:=∃l:List V,l.length=J.D.length∧(∀k,k<J.D.length->To (kM J.D k) (ov J.g q) (t.get k) (l.getD k V0))∧v=op l
def Sem(J:Jb)(op:List V->V)(v:Int)(t:S3)(x:EN):Prop:=∀Z:Dg,Z.aO.length<2^61->x.1 <+: Z.aO->x.2 <+: Z.au->∀q,jF J.s q=true->∃u,To Z q v u∧a7a J op q t u
theorem Sem.mono{J:Jb}{op:List V->V}{v:Int}{t:S3}{x y:EN}(h:Sem J op v t x)(hp:Zg x y):Sem J op v t y:=fun Z hZ h1 h2=>h Z hZ (hp.1.trans h1) (hp.2.trans h2)
abbrev Mk.en(x:Mk):EN:=(x.e,x.n)
def PG(v:V):Prop:=vOk v=true∧0<=v.f
structure XOk(J:Jb)(op:List V->V)(x:Mk):Prop where
 v:PtV J.s J.o x.en
 k:∀e∈x.k,gW e.2 x.n.length∧jH J.D e.1 (x.n.getD e.2.toNat mP).var=true∧Sem J op e.2 e.1 x.en
 nd:(x.k.map (·.1)).Nodup
 e:∀v∈x.e,PG v
 w:∀b∈x.n,∀v∈b.aA,KE v
structure a2Z(J:Jb)(op:List V->V)(a:Nat)(w:Nat)(t:S3)(x:Mk)(z:Int×Mk):Prop where
 pre:Zg x.en z.2.en
 el:z.2.e.length<=x.e.length+w
 nl:z.2.n.length+1<=x.n.length+w
 ok:XOk J op z.2
 rf:OU J.o z.2.en z.1 z.2.n.length a
 sm:Sem J op z.1 t z.2.en
 ks:∀e∈z.2.k,e∈x.k∨Dp J a e.1
 w:KE z.1
theorem XOk.mono{J:Jb}{op:List V->V}{x:Mk}{e:List V}(h:XOk J op x)(hp:x.e <+: e)(he:∀v∈e,PG v):XOk J op { x with e:=e }:=by
 have hq:Zg x.en (e,x.n):=⟨hp,a6G⟩;exact⟨⟨h.v.var,h.v.ksz,fun i hi k hk=>(h.v.Ak i hi k hk).mono hq (a1J _) (aaX hi) (a1J _)⟩,fun e he=>⟨(h.k e he).1,(h.k e he).2.1,(h.k e he).2.2.mono hq⟩,h.nd,he,h.w⟩
theorem OX{J:Jb}(hJ:jL J){op:List V->V}{q:List Int}{t:S3}{a:Nat}(hd:Dp J a t){c j:Int}{u:V}(hj:(ov J.g q).getD c.toNat 0=j)(h:a7a J op q (bJ J.D t c j) u):a7a J op q t u:=by
 obtain⟨l,h1,h2,h3⟩:=h;refine⟨l,h1,fun k hk=>?_,h3⟩;have h4:=h2 k hk;rw[J6 hJ.d3 t c j hk]at h4;unfold KH at h4;split at h4
 .rename_i h5;obtain⟨h6,h7,_⟩:=Hg hJ hd hk h5;refine .step h6.1 ?_;rw[h7,hj];exact h4
 exact h4
def wQ(J:Jb)(op:List V->V):Prop:=∀t,Dp J J.o.length t->PG (op (aT J.D t))
theorem aa6{J:Jb}(hJ:jL J)(op:List V->V)(ku:wQ J op){t:S3}{x:Mk}(hd:Dp J J.o.length t)(hx:XOk J op x)(hb:x.e.length+1<=2^60):a2Z J op J.o.length 1 t x (jy J op [] t x):=by
 have e0:i64.wrap (0-((x.e++[op (aT J.D t)]).length:Int))=-1-(x.e.length:Int):=by
  rw[a2m,a3G,fF (by omega) (by omega)];omega
 obtain⟨_,e2⟩:=a6L (k:=x.e.length) (by omega);have hp:x.e <+: x.e++[op (aT J.D t)]:=a8X _ _;show a2Z J op J.o.length 1 t x (i64.wrap (0-((x.e++[op (aT J.D t)]).length:Int)),_);rw[e0];refine⟨⟨hp,a6G⟩,by simp,a1J _,hx.mono hp (fun v hv=>by rcases a3y.1 hv with hv|hv;exact hx.e v hv;rw[a2J.1 hv];exact ku t hd),⟨fun _=>?_,?_,?_⟩,fun Z hZ g1 g2 q hq=>?_,fun e he=>.inl he,⟨by show _<=-1-(x.e.length:Int);omega,by show -1-(x.e.length:Int)<_;omega⟩⟩
 .rw[e2];exact⟨by omega,by simp;omega⟩
 .show -1-(x.e.length:Int)<_;omega
 .unfold FM;rw[a0V (by show -1-(x.e.length:Int)<0;omega)];exact a1J _
 have h1:=To.fin (d:=Z) (q:=q) (r:=-1-(x.e.length:Int)) (by omega);rw[e2,a5m]at h1;have g1:x.e++[op (aT J.D t)] <+: Z.aO:=g1;have e3:Z.aO.getD x.e.length V0=op (aT J.D t):=by
  rw[OQ g1 (by simp)];simp[List.getD]
 rw[e3]at h1;refine⟨_,h1,aT J.D t,by simp[aT],fun k hk=>?_,rfl⟩;have h2:=J8 hJ hd hk;have e4:(aT J.D t).getD k V0=pF (kM J.D k) (t.get k):=by simp[aT,List.getD,hk]
 rw[e4];exact .fin h2.1
theorem Dc{α:Type}{l:List α}{a:α}(h:l.Nodup)(ha:a∉l):(l++[a]).Nodup:=by
 rw[a8l];exact⟨h,by simp,fun x hx y hy e=>by simp at hy;subst hy;subst e;exact ha hx⟩
theorem J9{α:Type}{l:List α}{x d:α}{j:Nat}:(l++[x]).getD j d=if j<l.length then l.getD j d else if j=l.length then x else d:=by
 split
 .rename_i h;simp[List.getD,a0N h]
 rename_i h;split
 .rename_i h2;subst h2;simp[List.getD]
 rename_i h2;rw[List.getD,a3I (by simp;omega)];rfl
theorem Sl{J:Jb}(hJ:jL J)(op:List V->V)(ku:wQ J op):∀(r:List Int) (a:Nat) (t:S3) (x:Mk),J.o.drop a=r->a<=J.o.length->Dp J a t->XOk J op x->x.e.length+wO J.s r<=2^60->x.n.length+wO J.s r<=2^60->a2Z J op a (wO J.s r) t x (jy J op r t x)
 | [],a,t,x,hr,ha,hd,hx,hb,xM=>by
  have:a=J.o.length:=by
   have:=congrArg List.length hr;rw[a3D,a5q]at this;omega
  subst this;exact aa6 hJ op ku hd hx hb
 |c::r,a,t,x,hr,ha,hd,hx,hb,xM=>by
  obtain⟨aQ,hoc,xg,Gz,hci,rX⟩:=jL.at_ hJ hr;have hz:=hJ.eu.sz _ (dZ (s:=J.s) (k:=c.toNat) (by have:=rX.1;have:=rX.2;omega));have hri:∀c'∈r,gW c' J.s.length:=fun c' h=>(jL.o2 hJ).2.2 c' (by rw[<-xg]at h;exact a5s h);have hw:=Ux hJ.eu.sz hri;have hw1:wO J.s r<=(J.s.getD c.toNat 0).toNat*wO J.s r:=ada _ (by omega);simp only[wO]at hb xM ⊢;have up:∀{t':S3} {z:Int×Mk},a2Z J op (a+1) (wO J.s r) t' x z->(∀q u,jF J.s q=true->a7a J op q t' u->a7a J op q t u)->a2Z J op a ((J.s.getD c.toNat 0).toNat*wO J.s r) t x z:=fun{t' z} h hs=>
   ⟨h.pre,by have:=h.el;omega,by have:=h.nl;omega,h.ok,h.rf.mono Zg.rfl (a1J _) (a1J _) (by omega),fun Z hZ g1 g2 q hq=>let ⟨u,u1,u2⟩:=h.sm Z hZ g1 g2 q hq;⟨u,u1,hs q u hq u2⟩,fun e he=>(h.ks e he).imp id fun h=>h.le (by omega),h.w⟩
  unfold jy;cases Aq:jH J.D t c
  .rw[a0S (by simp)];exact up (Sl hJ op ku r (a+1) t x xg aQ (Uz hJ hr hd Aq) hx (by omega) (by omega)) fun _ _ _ h=>h
  rw[a0V rfl];by_cases hg:J.g.getD c.toNat 0>=0
  .rw[a0V (by simpa using hg)];refine up (Sl hJ op ku r (a+1) _ x xg aQ (lZ hJ hr hd ⟨hg,hJ.gv c rX hg⟩) hx (by omega) (by omega)) fun q u hq h=>OX hJ hd ?_ h;rw[UC (by rw[hJ.gl,pq hq]),a0V (by rw[hJ.gl];have:=rX.1;have:=rX.2;omega),a0V hg]
  rw[a0S (by simpa using hg)];by_cases hk:t∈x.k.map (·.1)
  .rw[a0V hk];obtain⟨e,he,rfl⟩:=a1L.1 hk;have hkn:knS x.k e.1=e.2:=by
    have:x.k.find? (fun y=>decide (y.1=e.1))=some e:=by
     have jk:=hx.nd;clear hb up hk Aq hd;generalize x.k=l at he jk
     induction l with
     |nil=>cases he
     |cons y l ih=>
      rw[agi];rcases a2t.1 he with rfl|he
      .simp
      have:¬y.1=e.1:=fun h=>by
       rw[a3K,a3P]at jk;exact jk.1 (a1L.2 ⟨e,he,h.symm⟩)
      rw[af5 this];rw[a3K,a3P]at jk;exact ih he jk.2
    unfold knS;rw[this];rfl
   rw[hkn];obtain⟨k1,k2,k3⟩:=hx.k e he;have hmul:2*1<=(J.s.getD c.toNat 0).toNat*wO J.s r:=agu (UA hJ hr hd Aq) hw;refine⟨Zg.rfl,by show x.e.length<=_;omega,by show x.n.length+1<=_;omega,hx,⟨fun h=>by have:=k1.1;show gW _ _;exact absurd h (by omega),k1.2,?_⟩,k3,fun _ h=>.inl h,⟨by have:=k1.1;show _<=e.2;omega,by have:=k1.2;show e.2<_;omega⟩⟩;obtain⟨k,hk,h1⟩:=D9.1 k2;obtain⟨x0,hv⟩:=DU.1 h1;have h2:=(hd k hk).2;unfold FM at h2 ⊢;rw[a0S (by omega)]at h2;have k10:=k1.1;rw[a0S (show ¬e.2<0 by omega)];have hv:((kM J.D k).au.getD (e.1.get k).toNat mP).var=(x.n.getD e.2.toNat mP).var:=hv;rw[hv]at h2;exact h2
  rw[a0S hk];have hm2:=UA hJ hr hd Aq;have XY:∀j,j<(J.s.getD c.toNat 0).toNat->j*wO J.s r+wO J.s r<=(J.s.getD c.toNat 0).toNat*wO J.s r:=fun j hj=>by
   have:(j+1)*wO J.s r<=(J.s.getD c.toNat 0).toNat*wO J.s r:=a3z _ hj;rw[a3A]at this;omega
  have inv:=dW (g:=Uy J.D (jy J op r) t c) (m:=(J.s.getD c.toNat 0).toNat) (k:=0) (s:=([],x)) (fun k y=>y.1.length=k∧Zg x.en y.2.en∧y.2.e.length<=x.e.length+k*wO J.s r∧y.2.n.length+k<=x.n.length+k*wO J.s r∧XOk J op y.2∧(∀e∈y.2.k,e∈x.k∨Dp J (a+1) e.1)∧(∀v∈y.1,KE v)∧∀j:Nat,j<k->OU J.o y.2.en (y.1.getD j 0) y.2.n.length (a+1)∧Sem J op (y.1.getD j 0) (bJ J.D t c j) y.2.en)
   ⟨rfl,Zg.rfl,by simp,by simp,hx,fun _ h=>.inl h,(fun v hv=>by cases hv),fun j hj=>by omega⟩ (fun j y _ hj hy=>by
    obtain⟨y1,y2,y3,y4,y5,y6,y8,y7⟩:=hy;have XY:=XY j (by omega);have h:=Sl hJ op ku r (a+1) (bJ J.D t c j) y.2 xg aQ (lZ hJ hr hd ⟨by omega,by omega⟩) y5 (by omega) (by omega);refine⟨by simp[Uy,y1],y2.trans h.pre,?_,?_,h.ok,fun e he=>?_,fun v hv=>?_,fun j' Ei=>?_⟩
    .have:=h.el;show(jy J op r (bJ J.D t c j) y.2).2.e.length<=_;rw[a3A];omega
    .have:=h.nl;show(jy J op r (bJ J.D t c j) y.2).2.n.length+_<=_;rw[a3A];omega
    .rcases h.ks e he with h1|h1
     .exact y6 e h1
     .exact .inr h1
    .have hv:v∈y.1++[(jy J op r (bJ J.D t c j) y.2).1]:=hv;rcases a3y.1 hv with hv|hv
     .exact y8 v hv
     .rw[a2J.1 hv];exact h.w
    .have e1:(Uy J.D (jy J op r) t c j y).1.getD j' 0=if j'<j then y.1.getD j' 0 else(jy J op r (bJ J.D t c j) y.2).1:=by
      show(y.1++[_]).getD j' 0=_;rw[J9,y1];split
      .rfl
      .rw[a0V (by omega)]
     rw[e1];by_cases e:j'<j
     .rw[a0V e];obtain⟨a1,a2⟩:=y7 j' e;exact⟨a1.mono h.pre h.pre.2.length_le (a1J _) (a1J _),a2.mono h.pre⟩
     .rw[a0S e];have e:j'=j:=(by omega);subst e;exact⟨h.rf,h.sm⟩)
  rw[a3E]at inv;simp only[];generalize aW (Uy J.D (jy J op r) t c) (J.s.getD c.toNat 0).toNat 0 ([],x)=y at inv;obtain⟨ks,m⟩:=y;obtain⟨y1,y2,y3,y4,y5,y6,y8,y7⟩:=inv;have y1:ks.length=(J.s.getD c.toNat 0).toNat:=y1;have hp:Zg m.en (m.e,m.n++[(⟨c,ks⟩:Br)]):=⟨a6G,a8X _ _⟩;have gQ:(m.n++[(⟨c,ks⟩:Br)]).getD m.n.length mP=⟨c,ks⟩:=by simp[List.getD]
  have a4r:Sem J op (m.n.length:Int) t (m.e,m.n++[(⟨c,ks⟩:Br)]):=fun Z hZ g1 g2 q hq=>by
   have g2:m.n++[(⟨c,ks⟩:Br)] <+: Z.au:=g2;have Y7:=(nK.1 hq).2 c.toNat (by have:=rX.1;have:=rX.2;omega);have hj:(q.getD c.toNat 0).toNat<(J.s.getD c.toNat 0).toNat:=(by omega);obtain⟨u,u1,u2⟩:=(y7 _ hj).2 Z hZ g1 ((a8X _ _).trans g2) q hq;have en:aj Z (m.n.length:Int)=⟨c,ks⟩:=by
    show Z.au.getD (m.n.length:Int).toNat mP=_;rw[a5m,OQ g2 (by simp),gQ]
   refine⟨u,.step (by omega) (by rw[en];exact u1),OX hJ hd ?_ u2⟩;rw[UC (by rw[hJ.gl,pq hq]),a0V (by rw[hJ.gl];have:=rX.1;have:=rX.2;omega),a0S (by omega)];omega
  have hv2:PtV J.s J.o (m.e,m.n++[(⟨c,ks⟩:Br)]):=by
   have hg:∀i,i<(m.n++[(⟨c,ks⟩:Br)]).length->(i<m.n.length∧(m.n++[(⟨c,ks⟩:Br)]).getD i mP=m.n.getD i mP)∨(i=m.n.length∧(m.n++[(⟨c,ks⟩:Br)]).getD i mP=⟨c,ks⟩):=fun i hi=>by
    simp only[a2m,a3G]at hi;rcases a3L i m.n.length with h|h
    .exact .inl ⟨h,by rw[J9,a0V h]⟩
    exact .inr ⟨by omega,by rw[show i=m.n.length by omega,gQ]⟩
   refine⟨fun i hi=>?_,fun i hi=>?_,fun i hi k hk=>?_⟩
   .rcases hg i hi with⟨h1,h2⟩|⟨h1,h2⟩
    .show gW ((m.n++[_]).getD i mP).var _;rw[h2];exact y5.v.var i h1
    show gW ((m.n++[_]).getD i mP).var _;rw[h2];exact rX
   .rcases hg i hi with⟨h1,h2⟩|⟨h1,h2⟩
    .show(((m.n++[_]).getD i mP).aA.length:Int)=J.s.getD ((m.n++[_]).getD i mP).var.toNat 0;rw[h2];exact y5.v.ksz i h1
    show(((m.n++[_]).getD i mP).aA.length:Int)=J.s.getD ((m.n++[_]).getD i mP).var.toNat 0;rw[h2];show(ks.length:Int)=J.s.getD c.toNat 0;omega
   rcases hg i hi with⟨h1,h2⟩|⟨h1,h2⟩
   .have hk:k<((m.n++[(⟨c,ks⟩:Br)]).getD i mP).aA.length:=hk;show OU J.o _ (((m.n++[(⟨c,ks⟩:Br)]).getD i mP).aA.getD k 0) i (J.o.idxOf ((m.n++[(⟨c,ks⟩:Br)]).getD i mP).var+1);rw[h2]at hk ⊢;exact(y5.v.Ak i h1 k hk).mono hp (a1J _) (aaX h1) (a1J _)
   have hk:k<((m.n++[(⟨c,ks⟩:Br)]).getD i mP).aA.length:=hk;show OU J.o _ (((m.n++[(⟨c,ks⟩:Br)]).getD i mP).aA.getD k 0) i (J.o.idxOf ((m.n++[(⟨c,ks⟩:Br)]).getD i mP).var+1);rw[h2]at hk ⊢;have hk:k<ks.length:=hk;subst h1;show OU J.o _ (ks.getD k 0) m.n.length (J.o.idxOf c+1);rw[hci];exact(y7 k (by omega)).1.mono hp (a1J _) (a1J _) (a1J _)
  have y5:XOk J op m:=y5;have y6:∀e∈m.k,e∈x.k∨Dp J (a+1) e.1:=y6;refine⟨y2.trans hp,y3,?_,⟨hv2,fun e he=>?_,?_,y5.e,fun b hb=>?_⟩,⟨fun h=>?_,?_,?_⟩,a4r,fun e he=>?_,⟨by show _<=(m.n.length:Int);omega,by have y4:m.n.length+_<=x.n.length+_:=y4;show(m.n.length:Int)<_;omega⟩⟩
  .show(m.n++[_]).length+1<=_;rw[a2m,a3G];have y4:m.n.length+(J.s.getD c.toNat 0).toNat<=x.n.length+(J.s.getD c.toNat 0).toNat*wO J.s r:=y4;omega
  .rcases a3y.1 he with he|he
   .obtain⟨k1,k2,k3⟩:=y5.k e he;have aQ:e.2.toNat<m.n.length:=by have:=k1.1;have:=k1.2;omega
    refine⟨⟨k1.1,?_⟩,?_,k3.mono hp⟩
    .have:=k1.2;show e.2<((m.n++[_]).length:Int);rw[a2m];omega
    show jH J.D e.1 ((m.n++[_]).getD e.2.toNat mP).var=true;rw[J9,a0V aQ];exact k2
   rw[a2J.1 he];refine⟨⟨by omega,by show(m.n.length:Int)<((m.n++[_]).length:Int);rw[a2m,a3G];omega⟩,?_,a4r⟩;show jH J.D t ((m.n++[_]).getD (m.n.length:Int).toNat mP).var=true;rw[a5m,gQ];exact Aq
  .rw[a3H];refine Dc y5.nd fun h=>?_;obtain⟨e,he,e2⟩:=a1L.1 h;rcases y6 e he with h1|h1
   .exact hk (a1L.2 ⟨e,h1,e2⟩)
   rw[e2]at h1;exact Zm hJ hr Aq h1
  .have hb:b∈m.n++[(⟨c,ks⟩:Br)]:=hb;rcases a3y.1 hb with hb|hb
   .exact y5.w b hb
   rw[a2J.1 hb];exact y8
  .exact absurd h (by show ¬((m.n.length:Int)<0);omega)
  .show(m.n.length:Int)<((m.n++[_]).length:Int);rw[a2m,a3G];omega
  .show a<=FM J.o (m.n++[_]) (m.n.length:Int);unfold FM;rw[a0S (by omega),a5m,gQ];show a<=J.o.idxOf c;omega
  rcases a3y.1 he with he|he
  .rcases y6 e he with h1|h1
   .exact .inl h1
   exact .inr (h1.le (by omega))
  rw[a2J.1 he];exact .inr hd
open Go Tw Pv cO
def pG(J:Jb)(op:List V->V):Dg:=⟨J.s,J.o,(jy J op J.o (fE J.D) ⟨[],[],[]⟩).2.e,(jy J op J.o (fE J.D) ⟨[],[],[]⟩).2.n,(jy J op J.o (fE J.D) ⟨[],[],[]⟩).1⟩
def Ja(J:Jb)(op:List V->V):Dg:=(zq (pG J op)).1
theorem zu{D:List Dg}(hD:D.length<=3){k:Nat}(hk:k<D.length):(fE D).get k=(kM D k).root:=by
 have:=dW (g:=fun k (y:S3)=>y.set k (kM D k).root) (m:=D.length) (k:=0) (s:=⟨0,0,0⟩) (fun j y=>∀k,k<j->y.get k=(kM D k).root) (fun k hk=>by omega) (fun j y _ hj hy k hk=>by
  rw[S3.ji (by omega) (by omega)];by_cases e:k=j
  .rw[a0V e,e]
  rw[a0S e];exact hy k (by omega))
 exact this k (by omega)
theorem a7b{J:Jb}(hJ:jL J){op:List V->V}(ku:wQ J op):a2Z J op 0 (wO J.s J.o) (fE J.D) ⟨[],[],[]⟩ (jy J op J.o (fE J.D) ⟨[],[],[]⟩):=by
 have hw:=OM hJ.eu.sz hJ.ord;have hm:=hJ.eu.many;refine Sl hJ op ku J.o 0 (fE J.D) ⟨[],[],[]⟩ (ab4) (a4A _) (fun k hk=>?_) ⟨⟨fun i hi=>(by simp at hi),fun i hi=>(by simp at hi),fun i hi=>(by simp at hi)⟩,fun e he=>(by cases he),a6a,fun v hv=>(by cases hv),fun b hb=>(by cases hb)⟩ (by show 0+wO J.s J.o<=_;omega) (by show 0+wO J.s J.o<=_;omega);rw[zu hJ.d3 hk];exact⟨(hJ.dg k hk).t.root,a4A _⟩
theorem Jc{J:Jb}(hJ:jL J){op:List V->V}(ku:wQ J op):bF (pG J op)=0∧(pG J op).aO.length<=2000∧∀v∈(pG J op).aO,PG v:=by
 have h:=a7b hJ ku;have hw:=OM hJ.eu.sz hJ.ord;have hm:=hJ.eu.many;have h1:(pG J op).aO.length<=0+wO J.s J.o:=h.el;have h2:(pG J op).au.length+1<=0+wO J.s J.o:=h.nl;refine⟨a2V (by unfold ah;omega) ?_ (fun v hv=>(h.ok.e v hv).1) (by omega) h.ok.v h.rf,by omega,h.ok.e⟩;have:cZ J.s J.o=0:=lU.2 ⟨hJ.eu,hJ.ord⟩;show(cZ J.s J.o != 0)=false;rw[this];rfl
theorem a7c{J:Jb}(hJ:jL J){op:List V->V}(ku:wQ J op):KF (pG J op):=by
 have h:=a7b hJ ku;exact⟨fun i hi k hk=>h.ok.w _ (X7 hi) _ (dZ hk),h.w,fun v hv=>(h.ok.e v hv).2⟩
theorem Xp{J:Jb}(hJ:jL J){op:List V->V}(ku:wQ J op):bD (pG J op)=(yG (pG J op),0)∧Ja J op=aeZ J.s J.o (cellsD (pG J op)):=by
 obtain⟨h1,h2,h3⟩:=Jc hJ ku;have hr:=a7c hJ ku;have ho:=(jL.o2 hJ).2.1;have hl:=hJ.eu.len;have e:=IY hr (by unfold ah;omega);rw[h1]at e;have hf:¬(cZ (pG J op).ay (pG J op).aG != 0)=true:=by
  have:cZ J.s J.o=0:=lU.2 ⟨hJ.eu,hJ.ord⟩;show ¬(cZ J.s J.o != 0)=true;rw[this];simp
 rw[a0S hf]at e;refine⟨e,?_⟩;unfold Ja zq;rw[e];show eP (pG J op)=_;exact(a6P h1 (by show J.o.length<=ah;unfold ah;omega) (by unfold ah;omega)).1
end Go.Proofs.YtmobpoiejckagaaGreat
namespace cO
open Tw
section
variable {κ:Type} [DecidableEq κ]
def rQ(m:List (κ×Int))(k:κ)(n:Int):List (κ×Int):=
 if k∈m.map (·.1)then m.modify ((m.map (·.1)).idxOf k) (fun e=>(e.1,e.2+n))else m++[(k,n)]
def dB(φ:κ->Int):List (κ×Int)->Int
 | []=>0
 |e::m=>e.2*φ e.1+dB φ m
theorem Xq(φ:κ->Int):∀a b:List (κ×Int),dB φ (a++b)=dB φ a+dB φ b
 | [],b=>by simp[dB]
 |e::a,b=>by simp only[List.cons_append,dB,Xq φ a b];omega
theorem Xr(φ:κ->Int){k:κ}{n:Int}:∀{m:List (κ×Int)},k∈m.map (·.1)->dB φ (m.modify ((m.map (·.1)).idxOf k) fun e=>(e.1,e.2+n))=dB φ m+n*φ k
 | [],h=>by simp at h
 |e::m,h=>by
  by_cases e1:e.1=k
  .have:((e::m).map (·.1)).idxOf k=0:=(by simp[ad7,e1]);rw[this];simp only[List.modify_zero_cons,dB,ag6,e1];omega
  have h2:k∈m.map (·.1):=by
   rw[a3K,a2t]at h;exact h.resolve_left fun h=>e1 h.symm
  have:((e::m).map (·.1)).idxOf k=(m.map (·.1)).idxOf k+1:=by
   simp[ad7,agq.2 e1]
  rw[this];simp only[List.modify_succ_cons,dB,Xr φ h2];omega
theorem zy(φ:κ->Int)(m:List (κ×Int))(k:κ)(n:Int):dB φ (rQ m k n)=dB φ m+n*φ k:=by
 unfold rQ;split
 .exact Xr φ ‹_›
 rw[Xq];simp[dB]
theorem Xt{f:Int->Int}:∀(m:List (κ×Int)) (j:Nat),(m.modify j fun e=>(e.1,f e.2)).map (·.1)=m.map (·.1)
 | [],j=>by simp
 |e::m,0=>by simp
 |e::m,j+1=>by simp[Xt m j]
theorem Sm(m:List (κ×Int))(k:κ)(n:Int):(rQ m k n).map (·.1)=if k∈m.map (·.1)then m.map (·.1)else m.map (·.1)++[k]:=by
 unfold rQ;split
 .exact Xt (f:=fun x=>x+n) m _
 simp
theorem Fh{m:List (κ×Int)}(h:(m.map (·.1)).Nodup)(k:κ)(n:Int):((rQ m k n).map (·.1)).Nodup:=by
 rw[Sm];split
 .exact h
 rename_i h2;rw[a8l];exact⟨h,by simp,fun x hx y hy e=>by simp at hy;subst hy;subst e;exact h2 hx⟩
theorem a1n{f:κ×Int->κ×Int}:∀{m:List (κ×Int)} {j:Nat} {e:κ×Int},e∈m.modify j f->e∈m∨∃e'∈m,e=f e'
 | [],j,e,h=>by simp at h
 |x::m,0,e,h=>by
  rw[List.modify_zero_cons,a2t]at h;rcases h with h|h
  .exact .inr ⟨x,by simp,h⟩
  exact .inl (by simp[h])
 |x::m,j+1,e,h=>by
  rw[List.modify_succ_cons,a2t]at h;rcases h with h|h
  .exact .inl (by simp[h])
  rcases a1n h with h|⟨e',h1,h2⟩
  .exact .inl (by simp[h])
  exact .inr ⟨e',by simp[h1],h2⟩
theorem OY{m:List (κ×Int)}{k:κ}{n:Int}(hn:0<n)(h:∀e∈m,0<e.2):∀e∈rQ m k n,0<e.2:=fun e he=>by
 unfold rQ at he;split at he
 .rcases a1n he with h1|⟨e',h1,rfl⟩
  .exact h e h1
  .have:=h e' h1;show 0<e'.2+n;omega
 .rcases a3y.1 he with h1|h1
  .exact h e h1
  .rw[a2J.1 h1];exact hn
theorem a7d{m:List (κ×Int)}{k:κ}{n:Int}{e:κ×Int}(he:e∈rQ m k n):e.1=k∨∃e'∈m,e'.1=e.1:=by
 have:e.1∈(rQ m k n).map (·.1):=a1L.2 ⟨e,he,rfl⟩;rw[Sm]at this;split at this
 .obtain⟨e',h1,h2⟩:=a1L.1 this;exact .inr ⟨e',h1,h2⟩
 rcases a3y.1 this with h1|h1
 .obtain⟨e',h1,h2⟩:=a1L.1 h1;exact .inr ⟨e',h1,h2⟩
 exact .inl (by simpa using h1)
def ind(k:κ)(x:κ):Int:=if x=k then 1 else 0
theorem LQ{k:κ}:∀{m:List (κ×Int)},k∉m.map (·.1)->dB (ind k) m=0
 | [],_=>rfl
 |e::m,h=>by
  rw[a3K,a2t,ad1]at h;simp only[dB,LQ h.2,ind,a0S (fun e1:e.1=k=>h.1 e1.symm)];omega
theorem DV:∀{m:List (κ×Int)} {e:κ×Int},(m.map (·.1)).Nodup->e∈m->dB (ind e.1) m=e.2
 |x::m,e,hn,h=>by
  rw[a3K,a3P]at hn;rcases a2t.1 h with rfl|h
  .simp only[dB,LQ hn.1,ind,a2D];omega
  have:¬x.1=e.1:=fun e1=>hn.1 (a1L.2 ⟨e,h,e1.symm⟩);simp only[dB,DV hn.2 h,ind,a0S this];omega
theorem Xu{m:List (κ×Int)}(hn:(m.map (·.1)).Nodup)(hp:∀e∈m,0<e.2)(e:κ×Int):e∈m↔0<e.2∧dB (ind e.1) m=e.2:=by
 constructor
 .exact fun h=>⟨hp e h,DV hn h⟩
 rintro⟨h1,h2⟩;by_cases h:e.1∈m.map (·.1)
 .obtain⟨e',h3,h4⟩:=a1L.1 h;have:=DV hn h3;have h4:e'.1=e.1:=h4;rw[h4,h2]at this;have:e'=e:=acL h4 this.symm;rw[<-this];exact h3
 rw[LQ h]at h2;omega
theorem Hl{β:Type}{f:κ×Int->β}{l:List (κ×Int)}(h:(l.map f).Nodup):l.Nodup:=by
 rw[List.Nodup,ag5]at h;exact h.imp fun{a b} h (e:a=b)=>h (congrArg f e)
theorem UD{m m':List (κ×Int)}(h1:(m.map (·.1)).Nodup)(h2:(m'.map (·.1)).Nodup)(p1:∀e∈m,0<e.2)(p2:∀e∈m',0<e.2)(h:∀φ,dB φ m=dB φ m'):m.Perm m':=
 (a7H (Hl h1) (Hl h2)).2 fun e=>by rw[Xu h1 p1,Xu h2 p2,h]
theorem a3a(φ:κ->Int){m m':List (κ×Int)}(h:m.Perm m'):dB φ m=dB φ m':=by
 induction h with
 |nil=>rfl
 |cons x _ ih=>simp only[dB,ih]
 |swap x y l=>simp only[dB];omega
 |trans _ _ h1 h2=>exact h1.trans h2
def Au(l:List κ):List (κ×Int):=l.foldl (fun m k=>rQ m k 1) []
def dS(φ:κ->Int):List κ->Int
 | []=>0
 |k::l=>φ k+dS φ l
theorem Xv(φ:κ->Int):∀(l:List κ) (m:List (κ×Int)),dB φ (l.foldl (fun m k=>rQ m k 1) m)=dB φ m+dS φ l
 | [],m=>by simp[dS]
 |k::l,m=>by rw[acY,Xv φ l,zy,dS];omega
theorem Sr(φ:κ->Int)(l:List κ):dB φ (Au l)=dS φ l:=by
 unfold Au;rw[Xv];simp[dB]
theorem Fj(l:List κ):((Au l).map (·.1)).Nodup∧∀e∈Au l,0<e.2:=by
 have:∀(l:List κ) (m:List (κ×Int)),(m.map (·.1)).Nodup->(∀e∈m,0<e.2)->((l.foldl (fun m k=>rQ m k 1) m).map (·.1)).Nodup∧∀e∈l.foldl (fun m k=>rQ m k 1) m,0<e.2:=by
  intro l
  induction l with
  |nil=>exact fun m h1 h2=>⟨h1,h2⟩
  |cons k l ih=>exact fun m h1 h2=>ih _ (Fh h1 k 1) (OY (by omega) h2)
 exact this l [] (by simp) (by simp)
theorem Xw(k:κ):∀l:List κ,dS (ind k) l=(l.count k:Int)
 | []=>rfl
 |x::l=>by
  rw[dS,Xw k l,List.count_cons,ind];by_cases e:x=k
  .simp[e];omega
  simp[e]
theorem Jd(φ:κ->Int){l l':List κ}(h:l.Perm l'):dS φ l=dS φ l':=by
 induction h with
 |nil=>rfl
 |cons x _ ih=>simp only[dS,ih]
 |swap x y l=>simp only[dS];omega
 |trans _ _ h1 h2=>exact h1.trans h2
theorem Ho(φ:κ->Int):∀a b:List κ,dS φ (a++b)=dS φ a+dS φ b
 | [],b=>by simp[dS]
 |e::a,b=>by simp only[List.cons_append,dS,Ho φ a b];omega
end
theorem Je:∀a b:List Int,kR a b=true∨kR b a=true
 | [],_=>.inl rfl
 |_::_,[]=>.inr rfl
 |a::az,b::bs=>by
  simp only[kR];rcases Int.lt_trichotomy a b with h|h|h
  .simp[h]
  .subst h;simpa using Je az bs
  simp[h]
theorem Df:∀a b:List Int,kR a b=true->kR b a=true->a=b
 | [],[],_,_=>rfl
 | [],_::_,_,h=>by cases h
 |_::_,[],h,_=>by cases h
 |a::az,b::bs,h1,h2=>by
  simp only[kR]at h1 h2;rcases Int.lt_trichotomy a b with h|h|h
  .rw[a0S (by omega),a0V h]at h2;cases h2
  .subst h;simp at h1 h2;rw[Df az bs h1 h2]
  rw[a0S (by omega),a0V h]at h1;cases h1
theorem lex_trans:∀a b c:List Int,kR a b=true->kR b c=true->kR a c=true
 | [],_,_,_,_=>rfl
 |_::_,[],_,h,_=>by cases h
 |_::_,_::_,[],_,h=>by cases h
 |a::az,b::bs,c::cs,h1,h2=>by
  simp only[kR]at h1 h2 ⊢;split at h1
  .split at h2
   .rw[a0V (by omega)]
   split at h2
   .cases h2
   rw[a0V (by omega)]
  split at h1
  .cases h1
  split at h2
  .rw[a0V (by omega)]
  split at h2
  .cases h2
  rw[a0S (by omega),a0S (by omega)];exact lex_trans az bs cs h1 h2
section
variable {α:Type} {key:α->List Int}
theorem Sv{a b:α}(h:key a=key b->a=b):∀s:List α,E5 key a (E5 key b s)=E5 key b (E5 key a s)
 | []=>by
  by_cases e:a=b
  .rw[e]
  simp only[E5];rcases Je (key a) (key b)with h1|h1
  .have:kR (key b) (key a)=false:=by
    cases h2:kR (key b) (key a)
    .rfl
    exact absurd (h (Df _ _ h1 h2)) e
   simp[h1,this]
  have:kR (key a) (key b)=false:=by
   cases h2:kR (key a) (key b)
   .rfl
   exact absurd (h (Df _ _ h2 h1)) e
  simp[h1,this]
 |c::s=>by
  by_cases e:a=b
  .rw[e]
  have hx:kR (key a) (key b)=!kR (key b) (key a):=by
   rcases Je (key a) (key b)with h1|h1
   .cases h2:kR (key b) (key a)
    .rw[h1];rfl
    exact absurd (h (Df _ _ h1 h2)) e
   cases h2:kR (key a) (key b)
   .rw[h1];rfl
   exact absurd (h (Df _ _ h2 h1)) e
  cases h1:kR (key a) (key c)<;>cases h2:kR (key b) (key c)
  .simp only[E5,h1,h2,a2H,a3x,Sv h s]
  .have h3:kR (key a) (key b)=false:=by
    cases h3:kR (key a) (key b)
    .rfl
    rw[lex_trans _ _ _ h3 h2]at h1;cases h1
   simp only[E5,h1,h2,h3,a2H,a3x,a2D]
  .have h3:kR (key b) (key a)=false:=by
    cases h3:kR (key b) (key a)
    .rfl
    rw[lex_trans _ _ _ h3 h1]at h2;cases h2
   simp only[E5,h1,h2,h3,a2H,a3x,a2D]
  cases h3:kR (key b) (key a)<;>rw[h3]at hx<;>simp[E5,h1,h2,h3,hx]
theorem EC{l l':List α}(h:l.Perm l')(hi:∀a∈l,∀b∈l,key a=key b->a=b):yU key l=yU key l':=by
 induction h with
 |nil=>rfl
 |cons x _ ih=>simp only[yU,ih fun a ha b hb=>hi a (by simp[ha]) b (by simp[hb])]
 |swap x y l=>exact Sv (hi y (by simp) x (by simp)) _
 |trans h1 h2 i1 i2=>exact(i1 hi).trans (i2 fun a ha b hb=>hi a (h1.mem_iff.2 ha) b (h1.mem_iff.2 hb))
theorem Sz{β:Type}{g:α->β}{a7e:β->List Int}(h:∀a,a7e (g a)=key a):∀l:List α,yU a7e (l.map g)=(yU key l).map g:=by
 have hi:∀(a:α) (s:List α),E5 a7e (g a) (s.map g)=(E5 key a s).map g:=by
  intro a s
  induction s with
  |nil=>rfl
  |cons c s ih=>
   simp only[a3K,E5,h];split
   .rfl
   rw[a3K,ih]
 intro l
 induction l with
 |nil=>rfl
 |cons a l ih=>simp only[a3K,yU,ih,hi]
end
end cO
namespace Go.Proofs.YtmobpoiejckagaaGreat
open Go Tw Pv cO
def Aw(J:Jb)(c:Int):List Int:=if decide (J.g.getD c.toNat 0>=0)=true then [J.g.getD c.toNat 0]else(List.range (J.s.getD c.toNat 0).toNat).map fun(j:Nat)=>(j:Int)
def xC(J:Jb)(ψ:S3->Int):List Int->S3->Int
 | [],t=>ψ t
 |c::r,t=>dS (fun j=>xC J ψ r (bJ J.D t c j)) (Aw J c)
theorem zA{α β:Type}[DecidableEq α][DecidableEq β](φ:β->Int)(f:α->β):∀l:List α,dS φ (l.map f)=dS (fun a=>φ (f a)) l
 | []=>rfl
 |a::l=>by simp only[a3K,dS,zA φ f l]
theorem qh{α:Type}[DecidableEq α]{φ φ':α->Int}:∀{l:List α},(∀a∈l,φ a=φ' a)->dS φ l=dS φ' l
 | [],_=>rfl
 |a::l,h=>by rw[dS,dS,h a (by simp),qh fun b hb=>h b (by simp[hb])]
theorem SA{α β:Type}[DecidableEq α][DecidableEq β](φ:β->Int)(f:α->List β):∀l:List α,dS φ (l.flatMap f)=dS (fun a=>dS φ (f a)) l
 | []=>rfl
 |a::l=>by rw[List.flatMap_cons,Ho,dS,SA φ f l]
theorem Az{α:Type}[DecidableEq α](x:Int):∀l:List α,dS (fun _=>x) l=l.length*x
 | []=>by simp[dS]
 |a::l=>by rw[dS,Az x l,a3J,Int.natCast_add,ag6];omega
theorem S3.aa8(s:S3)(k:Nat):s.set k (s.get k)=s:=by
 match k with
 | 0=>rfl
 | 1=>rfl
 |k+2=>rfl
theorem a7f{D:List Dg}{t:S3}{c:Int}(h:jH D t c=false)(g:Int):bJ D t c g=t:=by
 have hk:∀k,k<D.length->kE (kM D k) (t.get k) c=false:=fun k hk=>by
  cases e:kE (kM D k) (t.get k) c
  .rfl
  have:=D9.2 ⟨k,hk,e⟩;rw[h]at this;cases this
 exact dW (g:=fun k (y:S3)=>y.set k (KH (kM D k) (y.get k) c g)) (m:=D.length) (k:=0) (s:=t) (fun _ y=>y=t) rfl (fun j y _ hj hy=>by
  subst hy;show y.set j (KH (kM D j) (y.get j) c g)=y;unfold KH;rw[hk j (by omega),a0S (by simp)];exact S3.aa8 y j)
theorem a3b{J:Jb}{ψ:S3->Int}{c:Int}{r:List Int}{t:S3}(h:decide (J.g.getD c.toNat 0>=0)=true):xC J ψ (c::r) t=xC J ψ r (bJ J.D t c (J.g.getD c.toNat 0)):=by
 rw[xC,Aw,a0V h];simp[dS]
theorem af6{J:Jb}{ψ:S3->Int}{c:Int}{r:List Int}{t:S3}(h:¬decide (J.g.getD c.toNat 0>=0)=true)(ha:jH J.D t c=false):xC J ψ (c::r) t=((J.s.getD c.toNat 0).toNat:Int)*xC J ψ r t:=by
 rw[xC,Aw,a0S h,zA,qh (φ':=fun _=>xC J ψ r t) (fun a _=>by rw[a7f ha]),Az,a8r]
theorem aa9{J:Jb}{ψ:S3->Int}{c:Int}{r:List Int}{t:S3}(h:¬decide (J.g.getD c.toNat 0>=0)=true):xC J ψ (c::r) t=dS (fun(j:Nat)=>xC J ψ r (bJ J.D t c j)) (List.range (J.s.getD c.toNat 0).toNat):=by
 rw[xC,Aw,a0S h,zA]
def zJ(J:Jb):List Int->Nat
 | []=>1
 |c::r=>(Aw J c).length*zJ J r
theorem DW{J:Jb}:∀(r:List Int) (t:S3),xC J (fun _=>1) r t=(zJ J r:Int)
 | [],_=>rfl
 |c::r,t=>by
  rw[xC,qh (φ':=fun _=>(zJ J r:Int)) (fun a _=>DW r _),Az,zJ,aeA]
section
variable {J:Jb} (hJ:jL J)
include hJ
theorem Xx{c:Int}(hc:gW c J.s.length){j:Int}:j∈Aw J c↔(0<=j∧j<J.s.getD c.toNat 0)∧(0<=J.g.getD c.toNat 0->J.g.getD c.toNat 0=j):=by
 unfold Aw;split
 .rename_i h;have h:J.g.getD c.toNat 0>=0:=by simpa using h
  have:=hJ.gv c hc h;rw[a2J];constructor
  .rintro rfl;exact⟨⟨h,this⟩,fun _=>rfl⟩
  exact fun h2=>(h2.2 h).symm
 rename_i h;have h:¬J.g.getD c.toNat 0>=0:=by simpa using h
 rw[a1L];constructor
 .rintro⟨k,h1,rfl⟩;rw[a3R]at h1;exact⟨⟨by omega,by omega⟩,fun h2=>absurd h2 h⟩
 rintro⟨h1,_⟩;exact⟨j.toNat,a3R.2 (by omega),by omega⟩
theorem a7g{c:Int}(hc:gW c J.s.length):1<=(Aw J c).length∧(Aw J c).length<=(J.s.getD c.toNat 0).toNat:=by
 have hz:=hJ.eu.sz _ (dZ (s:=J.s) (k:=c.toNat) (by have:=hc.1;have:=hc.2;omega));unfold Aw;split
 .exact⟨a1J _,by show 1<=_;omega⟩
 rw[a3Q,a8r];exact⟨by omega,a1J _⟩
theorem Jf:∀{r:List Int},(∀c∈r,gW c J.s.length)->1<=zJ J r∧zJ J r<=wO J.s r
 | [],_=>⟨a1J _,a1J _⟩
 |c::r,h=>by
  obtain⟨h1,h2⟩:=a7g hJ (h c (by simp));obtain⟨h3,h4⟩:=Jf (r:=r) fun c hc=>h c (by simp[hc]);exact⟨agu h1 h3,agu h2 h4⟩
end
def plc(J:Jb):List Int->List Int->List (List Int)
 | [],q=>[q]
 |c::r,q=>(Aw J c).flatMap fun j=>plc J r (q.set c.toNat j)
def UE(D:List Dg)(q:List Int):List Int->S3->S3
 | [],t=>t
 |c::r,t=>UE D q r (bJ D t c (q.getD c.toNat 0))
theorem zB{q:List Int}{i k:Nat}{v:Int}:(q.set i v).getD k 0=if k=i∧i<q.length then v else q.getD k 0:=by
 simp only[List.getD,a9f];by_cases h:i=k
 .subst h;by_cases h2:i<q.length
  .simp[h2]
  simp[h2,a3I (show q.length<=i by omega)]
 rw[a0S (fun e:k=i∧i<q.length=>h e.1.symm)];simp[h]
theorem LU{J:Jb}:∀{r q q':List Int},q'∈plc J r q->q'.length=q.length∧∀k,k∉r.map Int.toNat->q'.getD k 0=q.getD k 0
 | [],q,q',h=>by rw[plc,a2J]at h;subst h;exact⟨rfl,fun _ _=>rfl⟩
 |c::r,q,q',h=>by
  rw[plc,adt]at h;obtain⟨j,_,h2⟩:=h;obtain⟨h3,h4⟩:=LU h2;refine⟨by rw[h3,a3W],fun k hk=>?_⟩;rw[a3K,a2t,ad1]at hk;rw[h4 k hk.2,zB,a0S (fun h=>hk.1 h.1)]
section
variable {J:Jb} {n:Nat}
structure Zn(n:Nat)(r:List Int):Prop where
 nd:r.Nodup
 mem:∀c∈r,gW c n
theorem Zn.tail{c:Int}{r:List Int}(h:Zn n (c::r)):Zn n r∧c.toNat∉r.map Int.toNat∧gW c n:=by
 have h1:=a3P.1 h.nd;have hc:=h.mem c (by simp);refine⟨⟨h1.2,fun c hc=>h.mem c (by simp[hc])⟩,fun h2=>?_,hc⟩;obtain⟨d,h3,h4⟩:=a1L.1 h2;have hd:=h.mem d (by simp[h3]);have:d=c:=by have:=hc.1;have:=hd.1;omega
 exact h1.1 (this▸h3)
theorem a1p(ψ:S3->Int):∀{r:List Int} (q:List Int) (t:S3),Zn q.length r->xC J ψ r t=dS (fun q'=>ψ (UE J.D q' r t)) (plc J r q)
 | [],q,t,_=>by simp[xC,plc,UE,dS]
 |c::r,q,t,ho=>by
  obtain⟨h1,h2,h3⟩:=ho.tail;rw[xC,plc,SA];refine qh fun j _=>?_;rw[a1p ψ (q.set c.toNat j) _ (by rw[a3W];exact h1)];refine qh fun q' hq=>?_;rw[UE,(LU hq).2 _ h2,zB,a0V ⟨rfl,by have:=h3.1;have:=h3.2;omega⟩]
theorem UF:∀{r q q':List Int},Zn q.length r->(q'∈plc J r q↔q'.length=q.length∧(∀k,k∉r.map Int.toNat->q'.getD k 0=q.getD k 0)∧∀c∈r,q'.getD c.toNat 0∈Aw J c)
 | [],q,q',_=>by
  rw[plc,a2J];constructor
  .rintro rfl;exact⟨rfl,fun _ _=>rfl,fun _ h=>by cases h⟩
  rintro⟨h1,h2,_⟩;exact(rC (d:=0) h1).2 fun i _=>h2 i (by simp)
 |c::r,q,q',ho=>by
  obtain⟨h1,h2,h3⟩:=ho.tail;have hl:c.toNat<q.length:=by have:=h3.1;have:=h3.2;omega
  rw[plc,adt];constructor
  .rintro⟨j,hj,h4⟩;obtain⟨h5,h6,h7⟩:=(UF (by rw[a3W];exact h1)).1 h4;refine⟨by rw[h5,a3W],fun k hk=>?_,fun d hd=>?_⟩
   .rw[a3K,a2t,ad1]at hk;rw[h6 k hk.2,zB,a0S (fun h=>hk.1 h.1)]
   rcases a2t.1 hd with rfl|hd
   .rw[h6 _ h2,zB,a0V ⟨rfl,hl⟩];exact hj
   exact h7 d hd
  rintro⟨h4,h5,h6⟩;refine⟨q'.getD c.toNat 0,h6 c (by simp),(UF (by rw[a3W];exact h1)).2 ⟨by rw[a3W];exact h4,fun k hk=>?_,fun d hd=>h6 d (by simp[hd])⟩⟩;rw[zB];split
  .rename_i h;rw[h.1]
  rename_i h;exact h5 k (by rw[a3K,a2t,ad1];exact⟨fun e=>h ⟨e,hl⟩,hk⟩)
theorem Zo(c:Int):(Aw J c).Nodup:=by
 unfold Aw;split
 .simp
 rw[List.Nodup,ag5];exact List.nodup_range.imp fun h e=>h (by omega)
theorem SB:∀{r q:List Int},Zn q.length r->(plc J r q).Nodup
 | [],q,_=>by simp[plc]
 |c::r,q,ho=>by
  obtain⟨h1,h2,h3⟩:=ho.tail;have hl:c.toNat<q.length:=by have:=h3.1;have:=h3.2;omega
  rw[plc,List.Nodup,List.pairwise_flatMap];refine⟨fun j _=>SB (by rw[a3W];exact h1),(Zo (J:=J) c).imp fun{a b} hab x hx y hy e=>?_⟩;subst e;have e1:=(LU hx).2 _ h2;have e2:=(LU hy).2 _ h2;rw[zB,a0V ⟨rfl,hl⟩]at e1 e2;exact hab (e1.symm.trans e2)
end
def Eb(J:Jb):List (List Int):=((List.range (Fb J.s)).map fun(k:Nat)=>lu J.s k).filter fun q=>decide (ov J.g q=q)
section
variable {J:Jb} (hJ:jL J)
include hJ
theorem Hq{q:List Int}(hq:q.length=J.s.length):ov J.g q=q↔∀k,k<J.s.length->0<=J.g.getD k 0->J.g.getD k 0=q.getD k 0:=by
 have hg:=hJ.gl;have hl:(ov J.g q).length=q.length:=by simp[ov,List.length_zipWith,hg,hq]
 rw[rC (d:=0) hl];constructor
 .intro h k hk h0;have:=h k (by rw[hl,hq];exact hk);rw[UC (by rw[hg,hq]),a0V (by rw[hg];exact hk),a0V h0]at this;exact this
 intro h k hk;rw[hl,hq]at hk;rw[UC (by rw[hg,hq]),a0V (by rw[hg];exact hk)];split
 .exact h k hk ‹_›
 rfl
theorem Ht{q:List Int}:q∈(List.range (Fb J.s)).map (fun(k:Nat)=>lu J.s k)↔jF J.s q=true:=by
 have hc:(Fb J.s:Int)=bf J.s:=by
  have:=iL hJ.eu.sz;unfold Fb;omega
 constructor
 .intro h;obtain⟨k,_,rfl⟩:=a1L.1 h;exact DK _ hJ.eu.sz
 intro h;have:=wI h hJ.eu.sz;refine a1L.2 ⟨(kG J.s q).toNat,a3R.2 (by omega),?_⟩;rw[show((kG J.s q).toNat:Int)=kG J.s q by omega];exact LH h hJ.eu.sz
theorem a3c:((List.range (Fb J.s)).map (fun(k:Nat)=>lu J.s k)).Nodup:=by
 have hc:(Fb J.s:Int)=bf J.s:=by
  have:=iL hJ.eu.sz;unfold Fb;omega
 rw[List.Nodup,ag5];refine List.Pairwise.imp_of_mem (fun{a b} ha hb h e=>h ?_) adI;rw[a3R]at ha hb;have h1:=LG hJ.eu.sz (n:=(a:Int)) (by omega) (by omega);have h2:=LG hJ.eu.sz (n:=(b:Int)) (by omega) (by omega);have e:lu J.s (a:Int)=lu J.s (b:Int):=e;rw[e,h2]at h1;omega
theorem a7h:(plc J J.o (List.replicate J.s.length 0)).Perm (Eb J):=by
 obtain⟨o1,o2,o3⟩:=jL.o2 hJ;have ho:Zn (List.replicate J.s.length (0:Int)).length J.o:=⟨o1,fun c hc=>by rw[a8D];exact o3 c hc⟩;unfold Eb;refine(a7H (SB ho) ((a3c hJ).filter _)).2 fun q=>?_;rw[UF ho,a8e,Ht hJ,a1T,a8D];constructor
 .rintro⟨h1,h2,h3⟩;have key:∀k,k<J.s.length->(0<=q.getD k 0∧q.getD k 0<J.s.getD k 0)∧(0<=J.g.getD k 0->J.g.getD k 0=q.getD k 0):=fun k hk=>by
   have hc:gW (k:Int) J.s.length:=aH hk;have:=h3 k (mJ hJ.ord hc);rw[Xx hJ hc]at this;exact this
  exact⟨nK.2 ⟨h1,fun k hk=>(key k hk).1⟩,(Hq hJ h1).2 fun k hk=>(key k hk).2⟩
 rintro⟨h1,h2⟩;have hl:=pq h1;refine⟨hl,fun k hk=>?_,fun c hc=>?_⟩
 .have Jw:J.s.length<=k:=by
   refine acE fun aQ=>hk ?_;exact a1L.2 ⟨(k:Int),mJ hJ.ord (aH aQ),by simp⟩
  simp[List.getD,a3I (show q.length<=k by omega),a3I (show(List.replicate J.s.length (0:Int)).length<=k by simp;omega)]
 have rX:=o3 c hc;have aQ:c.toNat<J.s.length:=by have:=rX.1;have:=rX.2;omega
 rw[Xx hJ rX];exact⟨(nK.1 h1).2 _ aQ,(Hq hJ hl).1 h2 _ aQ⟩
theorem SC{q:List Int}(hq:jF J.s q=true):∀(r:List Int) (a:Nat) (t:S3),J.o.drop a=r->a<=J.o.length->Dp J a t->Dp J J.o.length (UE J.D q r t)∧∀k,k<J.D.length->∀v,To (kM J.D k) q ((UE J.D q r t).get k) v->To (kM J.D k) q (t.get k) v
 | [],a,t,hr,ha,hd=>by
  have:a=J.o.length:=by
   have:=congrArg List.length hr;rw[a3D,a5q]at this;omega
  subst this;exact⟨hd,fun _ _ _ h=>h⟩
 |c::r,a,t,hr,ha,hd=>by
  obtain⟨aQ,hoc,xg,Gz,hci,rX⟩:=jL.at_ hJ hr;have Y7:=(nK.1 hq).2 c.toNat (by have:=rX.1;have:=rX.2;omega);obtain⟨h1,h2⟩:=SC hq r (a+1) _ xg aQ (lZ hJ hr hd Y7);refine⟨h1,fun k hk v h=>?_⟩;have h4:=h2 k hk v h;rw[J6 hJ.d3 t c _ hk]at h4;unfold KH at h4;split at h4
  .rename_i h5;obtain⟨h6,h7,_⟩:=Hg hJ hd hk h5;refine .step h6.1 ?_;rw[h7];exact h4
  exact h4
theorem Xy:Dp J 0 (fE J.D):=fun k hk=>by
 rw[zu hJ.d3 hk];exact⟨(hJ.dg k hk).t.root,a4A _⟩
theorem af7{q:List Int}(hq:jF J.s q=true):aT J.D (UE J.D q J.o (fE J.D))=J.D.map fun d=>wK d q:=by
 obtain⟨h1,h2⟩:=SC hJ hq J.o 0 (fE J.D) ab4 (a4A _) (Xy hJ);unfold aT;refine(rC (d:=V0) (by simp)).2 fun k hk=>?_;rw[a3Q,a8r]at hk;have hd:=hJ.dg k hk;have h3:=J8 hJ h1 hk;have h4:=h2 k hk _ (.fin h3.1);rw[zu hJ.d3 hk]at h4;have h6:=h4.at_ hd.t (by rw[hd.s];exact hq) 6001 (by have:=hd.t.root.1;have:=hd.n;omega) hd.t.root;have e1:((List.range J.D.length).map fun k=>pF (kM J.D k) ((UE J.D q J.o (fE J.D)).get k)).getD k V0=pF (kM J.D k) ((UE J.D q J.o (fE J.D)).get k):=by simp[List.getD,hk]
 have e2:(J.D.map fun d=>wK d q).getD k V0=wK (kM J.D k) q:=by simp[List.getD,hk]
 rw[e1,e2];exact h6
theorem aac(ψ:List V->Int):xC J (fun t=>ψ (aT J.D t)) J.o (fE J.D)=dS (fun q=>ψ (J.D.map fun d=>wK d q)) (Eb J):=by
 obtain⟨o1,o2,o3⟩:=jL.o2 hJ;rw[a1p _ (List.replicate J.s.length 0) _ ⟨o1,fun c hc=>by rw[a8D];exact o3 c hc⟩,Jd _ (a7h hJ)];refine qh fun q hq=>?_;unfold Eb at hq;rw[a8e,Ht hJ]at hq;rw[af7 hJ hq.1]
end
end Go.Proofs.YtmobpoiejckagaaGreat
namespace Pv
open Go Tw
section
variable {X:kC} {P:Program} {kt:TypeId} {α:Type} [DecidableEq α] (C:oJ X P kt α)
theorem oJ.ajR{l:List (α×PV X.Γ)}{x:α}{v:PV X.Γ}{j:Nat}(hb:Instr.sameBits 10000 (C.v x) (C.v x)=true)(hn:(l.map (·.1)).Nodup)(h:l[j]? = some (x,v)):a5e X P kt (C.es l) (C.tv x) (C.pv x) v j:=by
 obtain⟨hj,e⟩:=a02.1 h;have hxj:(l.map (·.1))[j]? = some x:=by simp[a0E hj,e]
 refine⟨C.v x,_,C.tv x,C.v x,C.ht x,C.hc false x,C.pk l,?_,?_,?_,C.ht x,hb⟩
 .have hu:∀(i:Nat) y,(l.map (·.1))[i]? = some y->decide (x=y)=(some i==some j):=fun i y hy=>by
   rw[a4g];simp only[a1T,a7k,a01];constructor
   .rintro rfl;have i1:=a02.1 hy;have i2:=a02.1 hxj;exact(aa7 hn (h₀:=i1.1) (h₁:=i2.1)).1 (i1.2.trans i2.2.symm)
   rintro rfl;rw[hxj]at hy;exact a8x hy
  refine C.find x _ (some j) ?_ hu;rw[a9K];refine⟨by simpa using hj,by simp[e],fun i hi=>?_⟩;have hil:i<(l.map (·.1)).length:=by simp;omega
  rw[hu i _ (a0E hil)];simp;omega
 .simp[oJ.es,a0E hj,e]
 simp[a0E hj,e]
theorem oJ.newP{l:List (α×PV X.Γ)}{x:α}{v:PV X.Γ}(h:x∉l.map (·.1)):adA X P kt (C.es (l++[(x,v)])) (C.tv x) l.length:=by
 refine⟨C.v x,_,C.ht x,C.pk _,?_⟩;have hu:∀(i:Nat) y,((l++[(x,v)]).map (·.1))[i]? = some y->decide (x=y)=(some i==some l.length):=fun i y hy=>by
  rw[a3H]at hy;rcases a3L i l.length with hi|hi
  .rw[a0N (by simpa using hi)]at hy;have:¬x=y:=fun e=>h (e▸a4b hy);rw[af5 this];have:¬i=l.length:=(by omega);simp[this]
  rw[a1H (by simpa using hi)]at hy;have Kq:i=l.length:=by
   have:=(a02.1 hy).1;simp at this;omega
  subst Kq;simp at hy;subst hy;simp
 refine C.find x _ (some l.length) ?_ hu;rw[a9K];refine⟨by simp,by simp,fun i hi=>?_⟩;have hil:i<((l++[(x,v)]).map (·.1)).length:=by simp;omega
 rw[hu i _ (a0E hil)];simp;omega
abbrev oJ.im(m:List (α×Int)):List (PV X.Γ×PV X.Γ):=C.es (m.map fun e=>(e.1,.int .i64 e.2))
theorem oJ.oQ(m:List (α×Int)):(C.im m).length=m.length:=by simp[oJ.im,oJ.es]
theorem oJ.AB(m:List (α×Int))(j:Nat):(C.im m)[j]? = (m[j]?).map fun e=>(C.pv e.1,.int .i64 e.2):=by
 simp[oJ.im,oJ.es,a3V];rfl
theorem zC{Y:kC}(m:List (α×Int)):((m.map fun e=>(e.1,(PV.int .i64 e.2:PV Y.Γ))).map (·.1))=m.map (·.1):=by simp
theorem af8{m:List (α×Int)}{j:Nat}{f:Int->Int}{v:Int}(h:∀e,m[j]? = some e->f e.2=v):Iu (C.im m) j (.int .i64 v)=C.im (m.modify j fun e=>(e.1,f e.2)):=by
 unfold Iu;refine a9h fun i=>?_;rw[adH,C.AB,C.AB,adH];by_cases e:j=i
 .subst e;cases h2:m[j]? with
  |none=>simp[h2]
  |some x=>simp[h2,h x h2]
 simp[e]
theorem af9{m:List (α×Int)}{x:α}{z v:Int}:Iu (C.im m++[(C.pv x,.int .i64 z)]) (C.im m).length (.int .i64 v)=C.im (m++[(x,v)]):=by
 have:C.im (m++[(x,v)])=C.im m++[(C.pv x,.int .i64 v)]:=by simp[oJ.im,oJ.es]
 rw[this];unfold Iu;generalize C.im m=l;refine a9h fun i=>?_;rw[adH];rcases Nat.lt_trichotomy i l.length with h|h|h
 .rw[a0N h,a0N h];simp[show ¬l.length=i by omega]
 .subst h;simp
 rw[a3I (by simp;omega),a3I (by simp;omega)];rfl
theorem oJ.UG{m:List (α×Int)}{k:α}{n:Int}(hb:Instr.sameBits 10000 (C.v k) (C.v k)=true)(hn:(m.map (·.1)).Nodup)(h:k∈m.map (·.1))(hw:∀e∈m,i64.wrap (e.2+n)=e.2+n) :
  ∃j old,qc X P kt (C.im m) (C.tv k) (.int .i64 old)∧a5e X P kt (C.im m) (C.tv k) (C.pv k) (.int .i64 old) j∧j<(C.im m).length∧Iu (C.im m) j (.int .i64 (i64.wrap (old+n)))=C.im (cO.rQ m k n):=by
 have aQ:=a4l.2 h;have a5o:(m.map (·.1)).idxOf k<m.length:=by simpa using aQ
 have hk:m[(m.map (·.1)).idxOf k]? = some (k,m[(m.map (·.1)).idxOf k].2):=by
  rw[a0E a5o];have:=a8j aQ;rw[a8P]at this;exact congrArg some (acL this rfl)
 have a8z:(k,m[(m.map (·.1)).idxOf k].2)∈m:=a4b hk;refine⟨(m.map (·.1)).idxOf k,m[(m.map (·.1)).idxOf k].2,C.found (by rw[zC];exact hn) (a1L.2 ⟨_,a8z,rfl⟩),C.ajR hb (by rw[zC];exact hn) (by rw[a3V,hk];rfl),by rw[C.oQ];exact a5o,?_⟩;rw[hw _ a8z];unfold cO.rQ;rw[a0V h];exact af8 C (f:=fun x=>x+n) fun e he=>by rw[hk]at he;cases he;rfl
theorem oJ.UH{m:List (α×Int)}{k:α}{n:Int}(h:k∉m.map (·.1))(hw:i64.wrap (0+n)=n) :
  ny X P kt (C.im m) (C.tv k)∧adA X P kt (C.im m++[(C.pv k,(PV.int .i64 0:PV X.Γ))]) (C.tv k) (C.im m).length∧(C.im m).length<(C.im m++[(C.pv k,(PV.int .i64 0:PV X.Γ))]).length∧Iu (C.im m++[(C.pv k,.int .i64 0)]) (C.im m).length (.int .i64 (i64.wrap (0+n)))=C.im (cO.rQ m k n):=by
 refine⟨C.fresh (by rw[zC];exact h),?_,by simp,?_⟩
 .have:=C.newP (l:=m.map fun e=>(e.1,(PV.int .i64 e.2:PV X.Γ))) (x:=k) (v:=.int .i64 0) (by rw[zC];exact h);rw[C.oQ];simpa[oJ.im,oJ.es]using this
 rw[hw,af9];unfold cO.rQ;rw[a0S h]
end
end Pv
namespace Go.Proofs.YtmobpoiejckagaaGreat
open Go Tw Pv cO
abbrev wSk(H:List (PB aF))(s:S3)(r:Int)(x:List (Nat×PE aF)):aS aF:=⟨[(1,xi r),(2,.val (.ptr 2 0 5)),(3,.val (.ptr 1 0 5)),(4,.val (.ptr 3 0 1)),(5,.val (.ptr 4 0 1)),(6,.loc 0 0)]++x,[s.ps],H⟩
def Qg(D:List Dg)(t:S3):List Int->Nat
 | []=>0
 |c::r=>if jH D t c=true then 0 else Qg D t r+1
def Qh(J:Jb)(t:S3)(i:Int):Int⊕Int:=if decide (i<(J.o.length:Int))=true then(if(!(jH J.D t (J.o.getD i.toNat 0)))=true then .inl (i64.wrap (i+1))else .inr i)else .inr i
theorem a7i{J:Jb}(hJ:jL J)(t:S3):∀(r:List Int) (a:Nat),J.o.drop a=r->a<=J.o.length->itF (Qh J t) (r.length+1) (a:Int)=some ((a+Qg J.D t r:Nat):Int)
 | [],a,hr,ha=>by
  have:a=J.o.length:=by
   have:=congrArg List.length hr;rw[a3D,a5q]at this;omega
  have e:Qh J t (a:Int)=.inr (a:Int):=by unfold Qh;rw[a0S (by simp;omega)]
  rw[a5q,itF,e];rfl
 |c::r,a,hr,ha=>by
  obtain⟨aQ,hoc,xg,_⟩:=jL.at_ hJ hr;have hl:=hJ.eu.len;have QC:=(jL.o2 hJ).2.1;have e:Qh J t (a:Int)=if(!(jH J.D t c))=true then .inl (i64.wrap ((a:Int)+1))else .inr (a:Int):=by
   unfold Qh;rw[a0V (by simp;omega),a5m,hoc]
  rw[a3J,itF,e];cases h:jH J.D t c
  .simp only[ab3,a2D];have ew:i64.wrap ((a:Int)+1)=((a+1:Nat):Int):=by rw[fF (by omega) (by omega)];omega
   have:=a7i hJ t r (a+1) xg aQ;simp only[ew,Qg,h];rw[this];simp;omega
  simp[Qg,h]
theorem aoG{M f:Nat}{J:Jb}(hJ:jL J){t:S3}{x:Mk}(r:List Int){a:Nat}(hr:J.o.drop a=r)(ha:a<=J.o.length)(hd:Dp J a t):Ov (M+1) 126 0 7 (wSk (HM0 J f x) t a []) (.exit 0) (wSk (HM0 J f x) t ((a+Qg J.D t r:Nat):Int) [(32,xl false)]):=by
 have PW:=a7i hJ t r a hr ha;have QC:=(jL.o2 hJ).2.1;have hl:=hJ.eu.len;refine Zb (st:=fun i=>wSk (HM0 J f x) t i []) (g:=Qh J t) (out:=fun i=>(.exit 0,wSk (HM0 J f x) t i [(32,xl false)])) (fun i=>0<=i∧i<=J.o.length) PW (by kernel_rfl) (by have:=congrArg List.length hr;rw[a3D]at this;unfold LL;omega) ⟨by omega,by omega⟩ ?_ ?_
 .intro i i1 hi e;unfold Qh at e;split at e
  .rename_i c;have c:i<(J.o.length:Int):=(by simpa using c);split at e
   .cases e;rw[fF (by omega) (by omega)];omega
   cases e
  cases e
 intro i m i' hi ih;have hs:=a6W (M:=M) (f:=f) (a:=[]) (cc:=[]) (H:=[]) J t (J.o.getD i.toNat 0) hJ.d3 (fun k hk h=>⟨by simpa using h,(hd k hk).1.1⟩);by_cases c:i<(J.o.length:Int)
 .have t1:decide (i<(J.o.length:Int))=true:=by simpa using c
  have i1:gW i J.o.length:=⟨hi.1,c⟩;cases hq:jH J.D t (J.o.getD i.toNat 0)
  .have e:Qh J t i=.inl (i64.wrap (i+1)):=by unfold Qh;rw[a0V t1,hq];rfl
   rw[hq]at hs;have g:=ih _ e;rw[e];exact aN fQ (.b t1 (.o i1 (.fr [] hs (.b (rfl:(!false)=true) (.go g)))))
  have e:Qh J t i=.inr i:=by unfold Qh;rw[a0V t1,hq];rfl
  rw[hq]at hs;rw[e];dsimp only[CQ];exact aN fQ (.b t1 (.o i1 (.fr [] hs (.b (rfl:(!true)=false) .ex))))
 have t1:decide (i<(J.o.length:Int))=false:=by simpa using c
 have e:Qh J t i=.inr i:=by unfold Qh;rw[a0S (by rw[t1];simp)]
 rw[e];dsimp only[CQ];exact aN fQ (.b t1 .ex)
theorem aoH{M f:Nat}(u:Int){J:Jb}(hJ:jL J){t:S3}{x:Mk}(r:List Int){a:Nat}(hr:J.o.drop a=r)(ha:a<=J.o.length)(hd:Dp J a t):Ov (M+1) 126 0 8 (wSk (HM1 J f u x) t a []) (.exit 0) (wSk (HM1 J f u x) t ((a+Qg J.D t r:Nat):Int) [(32,xl false)]):=by
 have PW:=a7i hJ t r a hr ha;have QC:=(jL.o2 hJ).2.1;have hl:=hJ.eu.len;refine Zb (st:=fun i=>wSk (HM1 J f u x) t i []) (g:=Qh J t) (out:=fun i=>(.exit 0,wSk (HM1 J f u x) t i [(32,xl false)])) (fun i=>0<=i∧i<=J.o.length) PW (by kernel_rfl) (by have:=congrArg List.length hr;rw[a3D]at this;unfold LL;omega) ⟨by omega,by omega⟩ ?_ ?_
 .intro i i1 hi e;unfold Qh at e;split at e
  .rename_i c;have c:i<(J.o.length:Int):=(by simpa using c);split at e
   .cases e;rw[fF (by omega) (by omega)];omega
   cases e
  cases e
 intro i m i' hi ih;have hs:=a6W (M:=M) (f:=f) (a:=[]) (cc:=[.ptr 0 0 1]) (H:=[.aC [.int .u8 u]]) J t (J.o.getD i.toNat 0) hJ.d3 (fun k hk h=>⟨by simpa using h,(hd k hk).1.1⟩);by_cases c:i<(J.o.length:Int)
 .have t1:decide (i<(J.o.length:Int))=true:=by simpa using c
  have i1:gW i J.o.length:=⟨hi.1,c⟩;cases hq:jH J.D t (J.o.getD i.toNat 0)
  .have e:Qh J t i=.inl (i64.wrap (i+1)):=by unfold Qh;rw[a0V t1,hq];rfl
   rw[hq]at hs;have g:=ih _ e;rw[e];exact aN fQ (.b t1 (.o i1 (.fr [5] hs (.b (rfl:(!false)=true) (.go g)))))
  have e:Qh J t i=.inr i:=by unfold Qh;rw[a0V t1,hq];rfl
  rw[hq]at hs;rw[e];dsimp only[CQ];exact aN fQ (.b t1 (.o i1 (.fr [5] hs (.b (rfl:(!true)=false) .ex))))
 have t1:decide (i<(J.o.length:Int))=false:=by simpa using c
 have e:Qh J t i=.inr i:=by unfold Qh;rw[a0S (by rw[t1];simp)]
 rw[e];dsimp only[CQ];exact aN fQ (.b t1 .ex)
open Go Tw Pv cO
theorem UJ{J:Jb}(hJ:jL J){op:List V->V}{x:Mk}:∀(r:List Int) (a:Nat) (t:S3),J.o.drop a=r->a<=J.o.length->Dp J a t->jy J op r t x=jy J op (r.drop (Qg J.D t r)) t x∧a+Qg J.D t r<=J.o.length∧Dp J (a+Qg J.D t r) t∧∀c r',r.drop (Qg J.D t r)=c::r'->jH J.D t c=true
 | [],a,t,hr,ha,hd=>⟨rfl,ha,hd,fun _ _ h=>by cases h⟩
 |c::r,a,t,hr,ha,hd=>by
  obtain⟨aQ,hoc,xg,_⟩:=jL.at_ hJ hr;cases h:jH J.D t c
  .obtain⟨q1,q2,q3,q4⟩:=UJ hJ (op:=op) (x:=x) r (a+1) t xg aQ (Uz hJ hr hd h);have e:Qg J.D t (c::r)=Qg J.D t r+1:=(by simp[Qg,h]);rw[e];refine⟨?_,by omega,by rw[show a+(Qg J.D t r+1)=a+1+Qg J.D t r by omega];exact q3,q4⟩;rw[List.drop_succ_cons,<-q1]
   conv=>lhs;unfold jy
   rw[a0S (by rw[h];simp)]
  have e:Qg J.D t (c::r)=0:=by simp[Qg,h]
  rw[e];exact⟨rfl,ha,hd,fun c' r' h2=>by cases h2;exact h⟩
theorem UK{J:Jb}(hJ:jL J):∀(r:List Int) (n:Nat),(∀c∈r,gW c J.s.length)->wO J.s (r.drop n)<=wO J.s r
 | [],n,_=>by simp
 |c::r,0,_=>a1J _
 |c::r,n+1,h=>by
  have h1:=UK hJ r n fun c hc=>h c (by simp[hc]);have hi:=h c (by simp);have hz:=hJ.eu.sz _ (dZ (s:=J.s) (k:=c.toNat) (by have:=hi.1;have:=hi.2;omega));have:wO J.s r<=(J.s.getD c.toNat 0).toNat*wO J.s r:=ada _ (by omega);rw[List.drop_succ_cons];simp only[wO];omega
abbrev aad(J:Jb)(f:Nat)(t:S3)(c:Int)(a:Int)(m:Mk)(ks:List Int)(i:Int)(y:List (Nat×PE aF)):aS aF:=⟨[(1,xi a),(2,.val (.ptr 2 0 5)),(3,.val (.ptr 1 0 5)),(4,.val (.ptr 3 0 1)),(5,.val (.ptr 4 0 1)),(6,.loc 0 0),(9,xi c),(13,.loc 1 0),(93,xi (J.s.getD c.toNat 0)),(94,xi i)]++y,[t.ps,[.int .i64 c,.own 9]],aa4 J f m++[oI false false ks]⟩
theorem aoI{M f:Nat}{J:Jb}(hJ:jL J){op:List V->V}{r:List Int}{t:S3}{c a:Int}(x:Mk)(hc:gW c J.s.length)(Q:Nat->Mk->Prop)(h0:Q 0 x)(hq:∀j y,j<(J.s.getD c.toNat 0).toNat->Q j y->Q (j+1) (jy J op r (bJ J.D t c j) y).2)
  (hk:∀j:Nat,j<(J.s.getD c.toNat 0).toNat->∀k,k<J.D.length->a1k (kM J.D k) (t.get k) c j)
  (hf:∀(j:Nat) y,j<(J.s.getD c.toNat 0).toNat->Q j y->aV X0 Qp (bP (M+1)) (.fn 126 [] pM) [.agg (bJ J.D t c j).ps,.int .i64 (i64.wrap (a+1))] (HM0 J f y) (.int .i64 (jy J op r (bJ J.D t c j) y).1) (aa4 J f (jy J op r (bJ J.D t c j) y).2)) :
  Ov (M+1) 126 1 7 (aad J f t c a x [] 0 []) (.exit 2) (aad J f t c a (aW (Uy J.D (jy J op r) t c) (J.s.getD c.toNat 0).toNat 0 ([],x)).2 (aW (Uy J.D (jy J op r) t c) (J.s.getD c.toNat 0).toNat 0 ([],x)).1 (((J.s.getD c.toNat 0).toNat:Nat):Int) [(95,xl false)]):=by
 have hz:=hJ.eu.sz _ (dZ (s:=J.s) (k:=c.toNat) (by have:=hc.1;have:=hc.2;omega));refine y9 (σ:=List Int×Mk) (N:=(J.s.getD c.toNat 0).toNat) (g:=Uy J.D (jy J op r) t c) (s0:=([],x)) (st:=fun i y=>aad J f t c a y.2 y.1 i []) (fin:=fun y=>aad J f t c a y.2 y.1 (((J.s.getD c.toNat 0).toNat:Nat):Int) [(95,xl false)]) (fun j y=>y.1.length=j∧Q j y.2) (by kernel_rfl) (by unfold ah;omega) ⟨rfl,h0⟩ (fun j y hj hy=>⟨by simp[Uy,hy.1],hq j y.2 hj hy.2⟩) (fun j y hj hy m e p g=>?_) (fun y _=>?_)
 .have h1:=hf j y.2 hj hy.2;have ha:=J5 (M:=M) (f:=f) (a:=[]) (cc:=[]) (H:=[]) J t c j hJ.d3 (hk j hj);have t1:decide ((j:Int)<J.s.getD c.toNat 0)=true:=by rw[a1T];omega
  have h3:=hy.1;unfold Uy at g;generalize jy J op r (bJ J.D t c j) y.2=z at h1 g;obtain⟨v,z⟩:=z;exact aN fQ (.b t1 (.fr [] ha (.fr [0,1,2,3,4,7,8] h1 (.o (show y.1.length+[v].length<=ah by simp only[a3G];unfold ah;omega) (.goG [.gc [10,11,13]] g)))))
 .have t1:decide ((((J.s.getD c.toNat 0).toNat:Nat):Int)<J.s.getD c.toNat 0)=false:=by rw[a3t];omega
  exact aN fQ (.b t1 .ex)
open Go Tw Pv cO
theorem Xz{k:List (S3×Int)}{t:S3}(hn:(k.map (·.1)).Nodup)(h:t∈k.map (·.1)):qc X0 Qp 148 (Hf k) (.agg [.int .i64 t.a,.int .i64 t.b,.int .i64 t.c]) (.int .i64 (knS k t)):=by
 refine kS.found (x:=t) (by rw[a6Z];exact hn) ?_;obtain⟨e,he,rfl⟩:=a1L.1 h;refine a1L.2 ⟨e,he,?_⟩;have:knS k e.1=e.2:=by
  have:k.find? (fun y=>decide (y.1=e.1))=some e:=by
   clear h
   induction k with
   |nil=>cases he
   |cons y l ih=>
    rw[a3K,a3P]at hn;rw[agi];rcases a2t.1 he with rfl|he
    .simp
    have:¬y.1=e.1:=fun h=>hn.1 (a1L.2 ⟨e,he,h.symm⟩);rw[af5 this];exact ih hn.2 he
  unfold knS;rw[this];rfl
 rw[this]
abbrev afa(J:Jb)(op:List V->V)(f:Nat)(m:Nat)(r:List Int):Prop:=∀(a:Nat) (t:S3) (x:Mk),J.o.drop a=r->a<=J.o.length->Dp J a t->XOk J op x->x.e.length+wO J.s r<=ah->x.n.length+wO J.s r<=ah ->
  aV X0 Qp (bP m) (.fn 126 [] pM) [.agg t.ps,.int .i64 (a:Int)] (HM0 J f x) (.int .i64 (jy J op r t x).1) (aa4 J f (jy J op r t x).2)
abbrev afb(J:Jb)(f:Nat)(x:Mk)(v:V):List (PB aF):=[.map (Hf x.k),.cells [lI J.s,lI J.o,.own 8,.own 6,.int .i64 0],.aC (J.ps (.fn f [] [])),.aC [.fn 126 [] pM],.aC [.map 0],.gone,PD x.n,.list true true 39 [v],Pz (x.e++[v])]
abbrev ajS(J:Jb)(f:Nat)(x:Mk)(t:S3)(b:Br):List (PB aF):=[.map (Hf x.k++[(.agg t.ps,.int .i64 (x.n.length:Int))]),.cells [lI J.s,lI J.o,.own 7,.own 11,.int .i64 0],.aC (J.ps (.fn f [] [])),.aC [.fn 126 [] pM],.aC [.map 0],.gone,.gone,Pz x.e,.gone,.gone,.list true true 105 [b],PD (x.n++[b])]
theorem acN{N f:Nat}{J:Jb}(hJ:jL J){op:List V->V}(ku:wQ J op)(hs:∀l:List V,l.length=J.D.length->aV X0 Qp (bP (N+1)) (.fn f [] []) [lV l] [] (.agg (op l).ps) [])(r:List Int)(rec:∀c r',c::r' <:+ r->afa J op f (N+1) r'):afa J op f (N+2) r:=by
 intro a t x hr ha hd hx BN xM;unfold ah at BN xM;have QC:=(jL.o2 hJ).2.1;have hl6:=hJ.eu.len;have lsk:=aoG (M:=N) (f:=f) hJ (x:=x) r hr ha hd;obtain⟨q1,q2,q3,q4⟩:=UJ hJ (op:=op) (x:=x) r a t hr ha hd;have hw:=UK hJ r (Qg J.D t r) (fun c hc=>(jL.o2 hJ).2.2 c (a5s (by rw[hr];exact hc)));rw[q1];generalize Qg J.D t r=n at lsk q1 q2 q3 q4 hw;have FT:J.o.drop (a+n)=r.drop n:=by rw[<-hr,afM]
 have a7j:r.drop n <:+ r:=List.drop_suffix _ _;have G8:=congrArg List.length FT;rw[a3D]at G8;clear q1 hr;generalize a+n=i at lsk q2 q3 FT G8;generalize r.drop n=r0 at q4 hw FT a7j G8;cases r0 with
 |nil=>
  have e0:i=J.o.length:=by rw[a5q]at G8;omega
  have t0:((i:Int)==(J.o.length:Int))=true:=by rw[e0];simp
  rw[e0]at q3;have pU:(aT J.D t).length=J.D.length:=by simp[aT]
  have hce:=a1l (M:=N) (f:=f) J t hJ.d3 (fun k hk=>(J8 hJ q3 hk).2);have hv:=hs (aT J.D t) pU;simp only[wO]at hw;have hb:x.e.length+[op (aT J.D t)].length<=ah:=by simp only[a3G];unfold ah;omega
  have h1:aV X0 Qp (bP (N+2)) (.fn 126 [] pM) [.agg t.ps,.int .i64 (a:Int)] (HM0 J f x) (.int .i64 (i64.wrap (0-((x.e++[op (aT J.D t)]).length:Int)))) (afb J f x (op (aT J.D t))):=
   fM fQ (first:=[]) (cap:=pM) (.w lsk (.b t0 (.fr [] hce (.fr [] hv (.o hb .er)))))
  exact aV.gs hX h1 [.mv 6,.gc [8,9]] (by kernel_rfl)
 |cons c r'=>
  have t0:((i:Int)==(J.o.length:Int))=false:=by rw[a3J]at G8;simp;omega
  obtain⟨aQ,hoc,xg,Gz,hci,rX⟩:=jL.at_ hJ FT;have Aq:=q4 c r' rfl;have rc:=rec c r' a7j;have ia:gW (i:Int) J.o.length:=⟨by omega,by omega⟩;have Jg:J.o.getD (i:Int).toNat 0=c:=by rw[a5m];exact hoc
  have ig:gW (J.o.getD (i:Int).toNat 0) J.g.length:=by rw[Jg,hJ.gl];exact rX
  have hz:=hJ.eu.sz _ (dZ (s:=J.s) (k:=c.toNat) (by have:=rX.1;have:=rX.2;omega));have hri:∀c'∈r',gW c' J.s.length:=fun c' h=>(jL.o2 hJ).2.2 c' (by rw[<-xg]at h;exact a5s h);have hw0:=Ux hJ.eu.sz hri;have hw1:wO J.s r'<=(J.s.getD c.toNat 0).toNat*wO J.s r':=ada _ (by omega);have ew:i64.wrap ((i:Int)+1)=((i+1:Nat):Int):=by rw[fF (by omega) (by omega)];omega
  simp only[wO]at hw;unfold jy;rw[a0V Aq];cases tg:decide (J.g.getD c.toNat 0>=0)
  .rw[a0S (by simp)];have tg':decide (J.g.getD (J.o.getD (i:Int).toNat 0).toNat 0>=0)=false:=by rw[Jg];exact tg
   by_cases hk:t∈x.k.map (·.1)
   .rw[a0V hk];have hF:qc X0 Qp 148 (Hf x.k) (.agg [.int .i64 t.a,.int .i64 t.b,.int .i64 t.c]) (.int .i64 (knS x.k t)):=Xz hx.nd hk;have h1:aV X0 Qp (bP (N+2)) (.fn 126 [] pM) [.agg t.ps,.int .i64 (a:Int)] (HM0 J f x) (.int .i64 (knS x.k t)) (HM0 J f x):=
     fM fQ (first:=[]) (cap:=pM) (.w lsk (.b t0 (.o ia (.o ig (.b tg' (.c (.int .i64 (knS x.k t)) [] hF (.b (rfl:true=true) .er)))))))
    exact aV.gs hX h1 [.mv 5,.mv 6] (by kernel_rfl)
   rw[a0S hk];have hm2:=UA hJ FT q3 Aq;have hF:ny X0 Qp 148 (Hf x.k) (.agg [.int .i64 t.a,.int .i64 t.b,.int .i64 t.c]):=kS.fresh (x:=t) (by simpa using hk);have is:gW (J.o.getD (i:Int).toNat 0) J.s.length:=by rw[Jg];exact rX
   have XY:∀j,j<(J.s.getD c.toNat 0).toNat->j*wO J.s r'+wO J.s r'<=(J.s.getD c.toNat 0).toNat*wO J.s r':=fun j hj=>by
    have:(j+1)*wO J.s r'<=(J.s.getD c.toNat 0).toNat*wO J.s r':=a3z _ hj;rw[a3A]at this;omega
   let Q:Nat->Mk->Prop:=fun j y=>XOk J op y∧y.e.length<=x.e.length+j*wO J.s r'∧y.n.length+j<=x.n.length+j*wO J.s r'∧∀e∈y.k,e∈x.k∨Dp J (i+1) e.1
   have hq:∀j y,j<(J.s.getD c.toNat 0).toNat->Q j y->Q (j+1) (jy J op r' (bJ J.D t c j) y).2:=fun j y hj hy=>by
    obtain⟨y1,y2,y3,y4⟩:=hy;have XY:=XY j hj;have h:=Sl hJ op ku r' (i+1) (bJ J.D t c j) y xg aQ (lZ hJ FT q3 ⟨by omega,by omega⟩) y1 (by omega) (by omega);have h3:=h.el;have h4:=h.nl;refine⟨h.ok,by rw[a3A];omega,by rw[a3A];omega,fun e he=>?_⟩;rcases h.ks e he with h5|h5
    .exact y4 e h5
    exact .inr h5
   have lp:=aoI (M:=N) (f:=f) hJ (op:=op) (r:=r') (t:=t) (c:=c) (a:=(i:Int)) x rX Q ⟨hx,by simp,by simp,fun e he=>.inl he⟩ hq (fun j hj k hk=>J7 hJ q3 ⟨by omega,by omega⟩ hk) (fun j y hj hy=>by
    obtain⟨y1,y2,y3,y4⟩:=hy;have XY:=XY j hj;rw[ew];exact rc (i+1) (bJ J.D t c j) y xg aQ (lZ hJ FT q3 ⟨by omega,by omega⟩) y1 (by unfold ah;omega) (by unfold ah;omega))
   have inv:=dW (g:=Uy J.D (jy J op r') t c) (m:=(J.s.getD c.toNat 0).toNat) (k:=0) (s:=([],x)) (fun j y=>Q j y.2) ⟨hx,by simp,by simp,fun e he=>.inl he⟩ (fun j y _ hj hy=>hq j y.2 (by omega) hy);rw[a3E]at inv;simp only[];generalize aW (Uy J.D (jy J op r') t c) (J.s.getD c.toNat 0).toNat 0 ([],x)=y at lp inv;obtain⟨ks,m⟩:=y;obtain⟨y1,y2,y3,y4⟩:=inv;have hnk:t∉m.k.map (·.1):=fun h=>by
    obtain⟨e,he,e2⟩:=a1L.1 h;rcases y4 e he with h1|h1
    .exact hk (a1L.2 ⟨e,h1,e2⟩)
    rw[e2]at h1;exact Zm hJ FT Aq h1
   have hF2:ny X0 Qp 148 (Hf m.k) (.agg [.int .i64 t.a,.int .i64 t.b,.int .i64 t.c]):=kS.fresh (x:=t) (by simpa using hnk);have ek:Hf m.k++[(.agg t.ps,.int .i64 (m.n.length:Int))]=Hf (m.k++[(t,(m.n.length:Int))]):=by
    unfold Hf oJ.es;rw[a3H,a3H];rfl
   have hF3:qc X0 Qp 148 (Hf m.k++[(.agg t.ps,.int .i64 (m.n.length:Int))]) (.agg [.int .i64 t.a,.int .i64 t.b,.int .i64 t.c]) (.int .i64 (m.n.length:Int)):=by
    refine(congrArg (fun l:List (PV aF×PV aF)=>qc X0 Qp 148 l (.agg [.int .i64 t.a,.int .i64 t.b,.int .i64 t.c]) (.int .i64 (m.n.length:Int))) ek).mpr ?_;refine kS.found (x:=t) ?_ ?_
    .rw[a6Z,show((fun e:S3×PV X0.Γ=>e.1)∘fun e:S3×Int=>(e.1,(PV.int .i64 e.2:PV X0.Γ)))=fun e=>e.1 from rfl,a3H];exact Dc y1.nd hnk
    simp
   have hb:m.n.length+[(⟨c,ks⟩:Br)].length<=ah:=by
    simp only[a3G];have y3:m.n.length+(J.s.getD c.toNat 0).toNat<=x.n.length+(J.s.getD c.toNat 0).toNat*wO J.s r':=y3;unfold ah;omega
   have h1:aV X0 Qp (bP (N+2)) (.fn 126 [] pM) [.agg t.ps,.int .i64 (a:Int)] (HM0 J f x) (.int .i64 (m.n.length:Int)) (ajS J f m t ⟨c,ks⟩):=by
    subst Jg;exact fM fQ (first:=[]) (cap:=pM) (.w lsk (.b t0 (.o ia (.o ig (.b tg' (.q (.bool false) hF (.b (rfl:false=false) (.o is (.wG [.mv 5,.mv 6,.a2i 1 1 3] lp (.q (.bool false) (kS.ck t) (.o hF2 (.o hb (.c (.int .i64 (m.n.length:Int)) [] hF3 .er)))))))))))))
   have h2:=aV.gs hX h1 [.gc [7,11]] (v':=.int .i64 (m.n.length:Int)) (H2:=[.map (Hf m.k++[(.agg t.ps,.int .i64 (m.n.length:Int))]),.cells [lI J.s,lI J.o,.own 7,.own 8,.int .i64 0],.aC (J.ps (.fn f [] [])),.aC [.fn 126 [] pM],.aC [.map 0],.gone,.gone,Pz m.e,PD (m.n++[⟨c,ks⟩])]) (by kernel_rfl);exact(congrArg (fun l:List (PV aF×PV aF)=>aV X0 Qp (bP (N+2)) (.fn 126 [] pM) [.agg t.ps,.int .i64 (a:Int)] (HM0 J f x) (.int .i64 (m.n.length:Int)) [.map l,.cells [lI J.s,lI J.o,.own 7,.own 8,.int .i64 0],.aC (J.ps (.fn f [] [])),.aC [.fn 126 [] pM],.aC [.map 0],.gone,.gone,Pz m.e,PD (m.n++[⟨c,ks⟩])]) ek).mp h2
  rw[a0V rfl];have tg':decide (J.g.getD (J.o.getD (i:Int).toNat 0).toNat 0>=0)=true:=by rw[Jg];exact tg
  have hg:0<=J.g.getD c.toNat 0:=by simpa using tg
  have haf:=J5 (M:=N) (f:=f) (a:=[]) (cc:=[]) (H:=[]) J t c (J.g.getD c.toNat 0) hJ.d3 (fun k hk=>J7 hJ q3 ⟨hg,hJ.gv c rX hg⟩ hk);have h2:=rc (i+1) (bJ J.D t c (J.g.getD c.toNat 0)) x xg aQ (lZ hJ FT q3 ⟨hg,hJ.gv c rX hg⟩) hx (by unfold ah;omega) (by unfold ah;omega);rw[<-ew]at h2;subst Jg;exact fM fQ (first:=[]) (cap:=pM) (.w lsk (.b t0 (.o ia (.o ig (.b tg' (.fr [] haf (.fr [0,1,2,3,4,5,6] h2 .er)))))))
theorem aoM{N f:Nat}{J:Jb}(hJ:jL J){op:List V->V}(ku:wQ J op)(hs:∀m,N<=m->∀l:List V,l.length=J.D.length->aV X0 Qp (bP m) (.fn f [] []) [lV l] [] (.agg (op l).ps) []):∀(F:Nat) (r:List Int),r.length<=F->afa J op f (N+F+2) r:=by
 intro F
 induction F with
 |zero=>
  intro r hF;refine acN hJ ku (hs _ (by omega)) r fun c r' h=>?_;have:=h.length_le;rw[a3J]at this;omega
 |succ F ih=>
  intro r hF;refine acN (N:=N+F+1) hJ ku (hs _ (by omega)) r fun c r' h=>ih r' ?_;have:=h.length_le;rw[a3J]at this;omega
open Go Tw Pv cO
abbrev aaf(J:Jb)(f:Nat)(u:Int)(t:S3)(c:Int)(a:Int)(m:Mk)(ks:List Int)(i:Int)(y:List (Nat×PE aF)):aS aF:=⟨[(1,xi a),(2,.val (.ptr 2 0 5)),(3,.val (.ptr 1 0 5)),(4,.val (.ptr 3 0 1)),(5,.val (.ptr 4 0 1)),(6,.loc 0 0),(9,xi c),(13,.loc 1 0),(93,xi (J.s.getD c.toNat 0)),(94,xi i)]++y,[t.ps,[.int .i64 c,.own 10]],aa5 J f u m++[oI false false ks]⟩
theorem aoN{M f:Nat}{u:Int}{J:Jb}(hJ:jL J){op:List V->V}{r:List Int}{t:S3}{c a:Int}(x:Mk)(hc:gW c J.s.length)(Q:Nat->Mk->Prop)(h0:Q 0 x)(hq:∀j y,j<(J.s.getD c.toNat 0).toNat->Q j y->Q (j+1) (jy J op r (bJ J.D t c j) y).2)
  (hk:∀j:Nat,j<(J.s.getD c.toNat 0).toNat->∀k,k<J.D.length->a1k (kM J.D k) (t.get k) c j)
  (hf:∀(j:Nat) y,j<(J.s.getD c.toNat 0).toNat->Q j y->aV X0 Qp (bP (M+1)) (.fn 126 [] pM) [.agg (bJ J.D t c j).ps,.int .i64 (i64.wrap (a+1))] (HM1 J f u y) (.int .i64 (jy J op r (bJ J.D t c j) y).1) (aa5 J f u (jy J op r (bJ J.D t c j) y).2)) :
  Ov (M+1) 126 1 8 (aaf J f u t c a x [] 0 []) (.exit 2) (aaf J f u t c a (aW (Uy J.D (jy J op r) t c) (J.s.getD c.toNat 0).toNat 0 ([],x)).2 (aW (Uy J.D (jy J op r) t c) (J.s.getD c.toNat 0).toNat 0 ([],x)).1 (((J.s.getD c.toNat 0).toNat:Nat):Int) [(95,xl false)]):=by
 have hz:=hJ.eu.sz _ (dZ (s:=J.s) (k:=c.toNat) (by have:=hc.1;have:=hc.2;omega));refine y9 (σ:=List Int×Mk) (N:=(J.s.getD c.toNat 0).toNat) (g:=Uy J.D (jy J op r) t c) (s0:=([],x)) (st:=fun i y=>aaf J f u t c a y.2 y.1 i []) (fin:=fun y=>aaf J f u t c a y.2 y.1 (((J.s.getD c.toNat 0).toNat:Nat):Int) [(95,xl false)]) (fun j y=>y.1.length=j∧Q j y.2) (by kernel_rfl) (by unfold ah;omega) ⟨rfl,h0⟩ (fun j y hj hy=>⟨by simp[Uy,hy.1],hq j y.2 hj hy.2⟩) (fun j y hj hy m e p g=>?_) (fun y _=>?_)
 .have h1:=hf j y.2 hj hy.2;have ha:=J5 (M:=M) (f:=f) (a:=[]) (cc:=[.ptr 0 0 1]) (H:=[.aC [.int .u8 u]]) J t c j hJ.d3 (hk j hj);have t1:decide ((j:Int)<J.s.getD c.toNat 0)=true:=by rw[a1T];omega
  have h3:=hy.1;unfold Uy at g;generalize jy J op r (bJ J.D t c j) y.2=z at h1 g;obtain⟨v,z⟩:=z;exact aN fQ (.b t1 (.fr [5] ha (.fr [0,1,2,3,4,5,8,9] h1 (.o (show y.1.length+[v].length<=ah by simp only[a3G];unfold ah;omega) (.goG [.gc [11,12,14]] g)))))
 .have t1:decide ((((J.s.getD c.toNat 0).toNat:Nat):Int)<J.s.getD c.toNat 0)=false:=by rw[a3t];omega
  exact aN fQ (.b t1 .ex)
abbrev afc(J:Jb)(op:List V->V)(f:Nat)(u:Int)(m:Nat)(r:List Int):Prop:=∀(a:Nat) (t:S3) (x:Mk),J.o.drop a=r->a<=J.o.length->Dp J a t->XOk J op x->x.e.length+wO J.s r<=ah->x.n.length+wO J.s r<=ah ->
  aV X0 Qp (bP m) (.fn 126 [] pM) [.agg t.ps,.int .i64 (a:Int)] (HM1 J f u x) (.int .i64 (jy J op r t x).1) (aa5 J f u (jy J op r t x).2)
abbrev afd(J:Jb)(f:Nat)(u:Int)(x:Mk)(v:V):List (PB aF):=[.map (Hf x.k),.cells [lI J.s,lI J.o,.own 9,.own 7,.int .i64 0],.aC (J.ps (.fn f [] [.ptr 5 0 1])),.aC [.fn 126 [] pM],.aC [.map 0],.aC [.int .u8 u],.gone,PD x.n,.list true true 39 [v],Pz (x.e++[v])]
abbrev ajU(J:Jb)(f:Nat)(u:Int)(x:Mk)(t:S3)(b:Br):List (PB aF):=[.map (Hf x.k++[(.agg t.ps,.int .i64 (x.n.length:Int))]),.cells [lI J.s,lI J.o,.own 8,.own 12,.int .i64 0],.aC (J.ps (.fn f [] [.ptr 5 0 1])),.aC [.fn 126 [] pM],.aC [.map 0],.aC [.int .u8 u],.gone,.gone,Pz x.e,.gone,.gone,.list true true 105 [b],PD (x.n++[b])]
theorem acO{N f:Nat}(u:Int){J:Jb}(hJ:jL J){op:List V->V}(ku:wQ J op)(hs:∀l:List V,l.length=J.D.length->aV X0 Qp (bP (N+1)) (.fn f [] [.ptr 0 0 1]) [lV l] [.aC [.int .u8 u]] (.agg (op l).ps) [.aC [.int .u8 u]])(r:List Int)(rec:∀c r',c::r' <:+ r->afc J op f u (N+1) r'):afc J op f u (N+2) r:=by
 intro a t x hr ha hd hx BN xM;unfold ah at BN xM;have QC:=(jL.o2 hJ).2.1;have hl6:=hJ.eu.len;have lsk:=aoH (M:=N) (f:=f) u hJ (x:=x) r hr ha hd;obtain⟨q1,q2,q3,q4⟩:=UJ hJ (op:=op) (x:=x) r a t hr ha hd;have hw:=UK hJ r (Qg J.D t r) (fun c hc=>(jL.o2 hJ).2.2 c (a5s (by rw[hr];exact hc)));rw[q1];generalize Qg J.D t r=n at lsk q1 q2 q3 q4 hw;have FT:J.o.drop (a+n)=r.drop n:=by rw[<-hr,afM]
 have a7j:r.drop n <:+ r:=List.drop_suffix _ _;have G8:=congrArg List.length FT;rw[a3D]at G8;clear q1 hr;generalize a+n=i at lsk q2 q3 FT G8;generalize r.drop n=r0 at q4 hw FT a7j G8;cases r0 with
 |nil=>
  have e0:i=J.o.length:=by rw[a5q]at G8;omega
  have t0:((i:Int)==(J.o.length:Int))=true:=by rw[e0];simp
  rw[e0]at q3;have pU:(aT J.D t).length=J.D.length:=by simp[aT]
  have hce:=aa3 (M:=N) (f:=f) (u:=u) J t hJ.d3 (fun k hk=>(J8 hJ q3 hk).2);have hv:=hs (aT J.D t) pU;simp only[wO]at hw;have hb:x.e.length+[op (aT J.D t)].length<=ah:=by simp only[a3G];unfold ah;omega
  have h1:aV X0 Qp (bP (N+2)) (.fn 126 [] pM) [.agg t.ps,.int .i64 (a:Int)] (HM1 J f u x) (.int .i64 (i64.wrap (0-((x.e++[op (aT J.D t)]).length:Int)))) (afd J f u x (op (aT J.D t))):=
   fM fQ (first:=[]) (cap:=pM) (.w lsk (.b t0 (.fr [5] hce (.fr [5] hv (.o hb .er)))))
  exact aV.gs hX h1 [.mv 7,.gc [9,10]] (by kernel_rfl)
 |cons c r'=>
  have t0:((i:Int)==(J.o.length:Int))=false:=by rw[a3J]at G8;simp;omega
  obtain⟨aQ,hoc,xg,Gz,hci,rX⟩:=jL.at_ hJ FT;have Aq:=q4 c r' rfl;have rc:=rec c r' a7j;have ia:gW (i:Int) J.o.length:=⟨by omega,by omega⟩;have Jg:J.o.getD (i:Int).toNat 0=c:=by rw[a5m];exact hoc
  have ig:gW (J.o.getD (i:Int).toNat 0) J.g.length:=by rw[Jg,hJ.gl];exact rX
  have hz:=hJ.eu.sz _ (dZ (s:=J.s) (k:=c.toNat) (by have:=rX.1;have:=rX.2;omega));have hri:∀c'∈r',gW c' J.s.length:=fun c' h=>(jL.o2 hJ).2.2 c' (by rw[<-xg]at h;exact a5s h);have hw0:=Ux hJ.eu.sz hri;have hw1:wO J.s r'<=(J.s.getD c.toNat 0).toNat*wO J.s r':=ada _ (by omega);have ew:i64.wrap ((i:Int)+1)=((i+1:Nat):Int):=by rw[fF (by omega) (by omega)];omega
  simp only[wO]at hw;unfold jy;rw[a0V Aq];cases tg:decide (J.g.getD c.toNat 0>=0)
  .rw[a0S (by simp)];have tg':decide (J.g.getD (J.o.getD (i:Int).toNat 0).toNat 0>=0)=false:=by rw[Jg];exact tg
   by_cases hk:t∈x.k.map (·.1)
   .rw[a0V hk];have hF:qc X0 Qp 148 (Hf x.k) (.agg [.int .i64 t.a,.int .i64 t.b,.int .i64 t.c]) (.int .i64 (knS x.k t)):=Xz hx.nd hk;have h1:aV X0 Qp (bP (N+2)) (.fn 126 [] pM) [.agg t.ps,.int .i64 (a:Int)] (HM1 J f u x) (.int .i64 (knS x.k t)) (HM1 J f u x):=
     fM fQ (first:=[]) (cap:=pM) (.w lsk (.b t0 (.o ia (.o ig (.b tg' (.c (.int .i64 (knS x.k t)) [] hF (.b (rfl:true=true) .er)))))))
    exact aV.gs hX h1 [.mv 6,.mv 7] (by kernel_rfl)
   rw[a0S hk];have hm2:=UA hJ FT q3 Aq;have hF:ny X0 Qp 148 (Hf x.k) (.agg [.int .i64 t.a,.int .i64 t.b,.int .i64 t.c]):=kS.fresh (x:=t) (by simpa using hk);have is:gW (J.o.getD (i:Int).toNat 0) J.s.length:=by rw[Jg];exact rX
   have XY:∀j,j<(J.s.getD c.toNat 0).toNat->j*wO J.s r'+wO J.s r'<=(J.s.getD c.toNat 0).toNat*wO J.s r':=fun j hj=>by
    have:(j+1)*wO J.s r'<=(J.s.getD c.toNat 0).toNat*wO J.s r':=a3z _ hj;rw[a3A]at this;omega
   let Q:Nat->Mk->Prop:=fun j y=>XOk J op y∧y.e.length<=x.e.length+j*wO J.s r'∧y.n.length+j<=x.n.length+j*wO J.s r'∧∀e∈y.k,e∈x.k∨Dp J (i+1) e.1
   have hq:∀j y,j<(J.s.getD c.toNat 0).toNat->Q j y->Q (j+1) (jy J op r' (bJ J.D t c j) y).2:=fun j y hj hy=>by
    obtain⟨y1,y2,y3,y4⟩:=hy;have XY:=XY j hj;have h:=Sl hJ op ku r' (i+1) (bJ J.D t c j) y xg aQ (lZ hJ FT q3 ⟨by omega,by omega⟩) y1 (by omega) (by omega);have h3:=h.el;have h4:=h.nl;refine⟨h.ok,by rw[a3A];omega,by rw[a3A];omega,fun e he=>?_⟩;rcases h.ks e he with h5|h5
    .exact y4 e h5
    exact .inr h5
   have lp:=aoN (M:=N) (f:=f) (u:=u) hJ (op:=op) (r:=r') (t:=t) (c:=c) (a:=(i:Int)) x rX Q ⟨hx,by simp,by simp,fun e he=>.inl he⟩ hq (fun j hj k hk=>J7 hJ q3 ⟨by omega,by omega⟩ hk) (fun j y hj hy=>by
    obtain⟨y1,y2,y3,y4⟩:=hy;have XY:=XY j hj;rw[ew];exact rc (i+1) (bJ J.D t c j) y xg aQ (lZ hJ FT q3 ⟨by omega,by omega⟩) y1 (by unfold ah;omega) (by unfold ah;omega))
   have inv:=dW (g:=Uy J.D (jy J op r') t c) (m:=(J.s.getD c.toNat 0).toNat) (k:=0) (s:=([],x)) (fun j y=>Q j y.2) ⟨hx,by simp,by simp,fun e he=>.inl he⟩ (fun j y _ hj hy=>hq j y.2 (by omega) hy);rw[a3E]at inv;simp only[];generalize aW (Uy J.D (jy J op r') t c) (J.s.getD c.toNat 0).toNat 0 ([],x)=y at lp inv;obtain⟨ks,m⟩:=y;obtain⟨y1,y2,y3,y4⟩:=inv;have hnk:t∉m.k.map (·.1):=fun h=>by
    obtain⟨e,he,e2⟩:=a1L.1 h;rcases y4 e he with h1|h1
    .exact hk (a1L.2 ⟨e,h1,e2⟩)
    rw[e2]at h1;exact Zm hJ FT Aq h1
   have hF2:ny X0 Qp 148 (Hf m.k) (.agg [.int .i64 t.a,.int .i64 t.b,.int .i64 t.c]):=kS.fresh (x:=t) (by simpa using hnk);have ek:Hf m.k++[(.agg t.ps,.int .i64 (m.n.length:Int))]=Hf (m.k++[(t,(m.n.length:Int))]):=by
    unfold Hf oJ.es;rw[a3H,a3H];rfl
   have hF3:qc X0 Qp 148 (Hf m.k++[(.agg t.ps,.int .i64 (m.n.length:Int))]) (.agg [.int .i64 t.a,.int .i64 t.b,.int .i64 t.c]) (.int .i64 (m.n.length:Int)):=by
    refine(congrArg (fun l:List (PV aF×PV aF)=>qc X0 Qp 148 l (.agg [.int .i64 t.a,.int .i64 t.b,.int .i64 t.c]) (.int .i64 (m.n.length:Int))) ek).mpr ?_;refine kS.found (x:=t) ?_ ?_
    .rw[a6Z,show((fun e:S3×PV X0.Γ=>e.1)∘fun e:S3×Int=>(e.1,(PV.int .i64 e.2:PV X0.Γ)))=fun e=>e.1 from rfl,a3H];exact Dc y1.nd hnk
    simp
   have hb:m.n.length+[(⟨c,ks⟩:Br)].length<=ah:=by
    simp only[a3G];have y3:m.n.length+(J.s.getD c.toNat 0).toNat<=x.n.length+(J.s.getD c.toNat 0).toNat*wO J.s r':=y3;unfold ah;omega
   have h1:aV X0 Qp (bP (N+2)) (.fn 126 [] pM) [.agg t.ps,.int .i64 (a:Int)] (HM1 J f u x) (.int .i64 (m.n.length:Int)) (ajU J f u m t ⟨c,ks⟩):=by
    subst Jg;exact fM fQ (first:=[]) (cap:=pM) (.w lsk (.b t0 (.o ia (.o ig (.b tg' (.q (.bool false) hF (.b (rfl:false=false) (.o is (.wG [.mv 6,.mv 7,.a2i 1 1 3] lp (.q (.bool false) (kS.ck t) (.o hF2 (.o hb (.c (.int .i64 (m.n.length:Int)) [] hF3 .er)))))))))))))
   have h2:=aV.gs hX h1 [.gc [8,12]] (v':=.int .i64 (m.n.length:Int)) (H2:=[.map (Hf m.k++[(.agg t.ps,.int .i64 (m.n.length:Int))]),.cells [lI J.s,lI J.o,.own 8,.own 9,.int .i64 0],.aC (J.ps (.fn f [] [.ptr 5 0 1])),.aC [.fn 126 [] pM],.aC [.map 0],.aC [.int .u8 u],.gone,.gone,Pz m.e,PD (m.n++[⟨c,ks⟩])]) (by kernel_rfl);exact(congrArg (fun l:List (PV aF×PV aF)=>aV X0 Qp (bP (N+2)) (.fn 126 [] pM) [.agg t.ps,.int .i64 (a:Int)] (HM1 J f u x) (.int .i64 (m.n.length:Int)) [.map l,.cells [lI J.s,lI J.o,.own 8,.own 9,.int .i64 0],.aC (J.ps (.fn f [] [.ptr 5 0 1])),.aC [.fn 126 [] pM],.aC [.map 0],.aC [.int .u8 u],.gone,.gone,Pz m.e,PD (m.n++[⟨c,ks⟩])]) ek).mp h2
  rw[a0V rfl];have tg':decide (J.g.getD (J.o.getD (i:Int).toNat 0).toNat 0>=0)=true:=by rw[Jg];exact tg
  have hg:0<=J.g.getD c.toNat 0:=by simpa using tg
  have haf:=J5 (M:=N) (f:=f) (a:=[]) (cc:=[.ptr 0 0 1]) (H:=[.aC [.int .u8 u]]) J t c (J.g.getD c.toNat 0) hJ.d3 (fun k hk=>J7 hJ q3 ⟨hg,hJ.gv c rX hg⟩ hk);have h2:=rc (i+1) (bJ J.D t c (J.g.getD c.toNat 0)) x xg aQ (lZ hJ FT q3 ⟨hg,hJ.gv c rX hg⟩) hx (by unfold ah;omega) (by unfold ah;omega);rw[<-ew]at h2;subst Jg;exact fM fQ (first:=[]) (cap:=pM) (.w lsk (.b t0 (.o ia (.o ig (.b tg' (.fr [5] haf (.fr [0,1,2,3,4,5,6,7] h2 .er)))))))
theorem aoO{N f:Nat}(u:Int){J:Jb}(hJ:jL J){op:List V->V}(ku:wQ J op)(hs:∀m,N<=m->∀l:List V,l.length=J.D.length->aV X0 Qp (bP m) (.fn f [] [.ptr 0 0 1]) [lV l] [.aC [.int .u8 u]] (.agg (op l).ps) [.aC [.int .u8 u]]):∀(F:Nat) (r:List Int),r.length<=F->afc J op f u (N+F+2) r:=by
 intro F
 induction F with
 |zero=>
  intro r hF;refine acO u hJ ku (hs _ (by omega)) r fun c r' h=>?_;have:=h.length_le;rw[a3J]at this;omega
 |succ F ih=>
  intro r hF;refine acO (N:=N+F+1) u hJ ku (hs _ (by omega)) r fun c r' h=>ih r' ?_;have:=h.length_le;rw[a3J]at this;omega
end Go.Proofs.YtmobpoiejckagaaGreat
namespace Pv
open Go Tw
section
variable {X:kC} {P:Program}
theorem aV.ajV(hX:bK X P){call:aY}{fv v:PV X.Γ}{xs:List (PV X.Γ)}{H H0 H1:List (PB X.Γ)}(gs:List G)(hs:aV X P call fv xs H0 v H1)(hg:kT H.length gs (⟨[],[],H⟩:aS X.Γ)=some ⟨[],[],H0⟩):aV X P call fv xs H v H1:=by
 intro A m h tf rO hr hf hx;obtain⟨m2,q1,q2,q3⟩:=mF hX hg A (fun b=>b∈bn m) h.length m ⟨[],[],h,[]⟩ ⟨⟨hr,rfl,fun k c hk=>(by simp at hk),.nil⟩,fun b hb=>.inl hb,fun b hb=>(by cases hb),a1J _⟩;have up:Up m m2:=fun i mb hi=>q3 i mb (by rw[<-hr.len];exact(a02.1 hi).1) hi;obtain⟨w,h',ws,m1,k1,k2,k3,k4,k5,k6⟩:=hs A m2 h tf rO q1.st.heap (hf.step q2 up) (hx.step q2 up);refine⟨w,h',ws,m1,k1,k2,k3,q2.trans k4,fun i mb hi=>?_,fun b hb=>?_⟩
 .rcases up i mb hi with g|g
  .exact k5 i mb g
  rcases k5 i _ g with g|g<;>exact .inr g
 have hb:=k6 b hb;rcases q1.own b hb with g|g
 .exact g
 have:=q1.st.heap.inb hb;have:b<h.length:=this;omega
end
end Pv
namespace Go.Proofs.YtmobpoiejckagaaGreat
open Go Tw Pv cO
theorem LV{n:Nat}(hO:Ok n He)(l:List Int)(hl:l.length<=ah):aV X0 Qp (bP n) (.fn 125 [] []) [.dn 3 l false] [] (lI l) []:=
 have h0:=nR.a9Q hX (hO 125 [.dn 3 l false] (.own 0) (lsI l) [l.length<=ah] (by kernel_rfl) (List.forall_mem_singleton.2 hl)) rfl rfl rfl rfl
 aV.cut hX (aV.fzR hX h0 [0] (v':=lI l) rfl (by decide)) rfl rfl rfl rfl
abbrev aoP(J:Jb)(f:Nat)(x:Mk):List (PB aF):=[.map (Hf x.k),.cells [lI J.s,lI J.o,.own 7,.own 8,.int .i64 0],.cells (J.ps (.fn f [] [])),.cells [.fn 126 [] pM],.cells [.map 0],.gone,.gone,Pz x.e,PD x.n]
theorem aag{m f:Nat}(hO:Ok m He)(J:Jb)(st:S3)(z:Int×Mk)
  (c1:aV X0 Qp (bP m) (.fn 125 [] []) [.dn 3 J.s false] [] (lI J.s) [])
  (c2:aV X0 Qp (bP m) (.fn 125 [] []) [.dn 3 J.o false] [] (lI J.o) [])
  (c3:aV X0 Qp (bP m) (.fn 130 [] []) [.agg (J.ps (.fn f [] []))] [] (.agg st.ps) [])
  (c5:aV X0 Qp (bP m) (.fn 126 [] pM) [.agg st.ps,.int .i64 (0:Int)] [.map [],.cells [lI J.s,lI J.o,.nil .slc,.nil .slc,.int .i64 0],.aC (J.ps (.fn f [] [])),.aC [.fn 126 [] pM],.aC [.map 0]] (.int .i64 z.1) (aa4 J f z.2))
  (hr:KF ⟨J.s,J.o,z.2.e,z.2.n,z.1⟩) (p1:J.s.length<=ah) (p2:J.o.length<=2^20) (p3:z.2.e.length<=ah) (p4:((bD ⟨J.s,J.o,z.2.e,z.2.n,z.1⟩).2 != 0)=false->ClP (bD ⟨J.s,J.o,z.2.e,z.2.n,z.1⟩).1) :
  aV X0 Qp (bP (m+1)) (.fn 80 [] []) [.agg (J.ps (.fn f [] []))] [] (dA.put (zq ⟨J.s,J.o,z.2.e,z.2.n,z.1⟩).1) []:=by
 obtain⟨v,e,n,k⟩:=z;have h0:aV X0 Qp (bP (m+1)) (.fn 80 [] []) [.agg (J.ps (.fn f [] []))] [] (dA.put (zq ⟨J.s,J.o,e,n,v⟩).1) ([]++[.cells (J.ps (.fn f [] [])),.cells [lI J.s,lI J.o,.own 7,.own 8,.int .i64 v],.map (Hf k),.cells [.map 2],.cells [.fn 126 [] [.ptr 0 0 5,.ptr 1 0 5,.ptr 4 0 1,.ptr 3 0 1]],.gone,.gone,.gone,.gone]):=
  fM hO (first:=[]) (cap:=[]) (.fr [] c1 (.fr [] c2 (.fr [] c3 (.PZ (H2:=aoP J f ⟨e,n,k⟩) [2,1,0,4,3] [2,3,4] c5 (.o hr (.o p1 (.o p2 (.o p3 (.o p4 .er)))))))))
 exact aV.cut hX h0 rfl rfl rfl rfl
theorem afe{N f:Nat}{J:Jb}(hJ:jL J){op:List V->V}(ku:wQ J op)(hs:∀m,N<=m->∀l:List V,l.length=J.D.length->aV X0 Qp (bP m) (.fn f [] []) [lV l] [] (.agg (op l).ps) [])(hO:∀m,N<=m->Ok m He){m:Nat}(hm:N+J.o.length+2<=m):aV X0 Qp (bP (m+1)) (.fn 80 [] []) [.agg (J.ps (.fn f [] []))] [] (dA.put (Ja J op)) []:=by
 have hl:=hJ.eu.len;have QC:=(jL.o2 hJ).2.1;have hw:=OM hJ.eu.sz hJ.ord;have hmn:=hJ.eu.many;have c1:=LV (n:=m) (hO m (by omega)) J.s (by unfold ah;omega);have c2:=LV (n:=m) (hO m (by omega)) J.o (by unfold ah;omega);obtain⟨m',rfl⟩:∃m',m=m'+1:=⟨m-1,by omega⟩;have c3:=Zl (M:=m') (f:=f) (a:=[]) (cc:=[]) (H:=[]) J hJ.d3;have c4:=aoM (N:=m'+1-J.o.length-2) (f:=f) hJ ku (fun m2 h2=>hs m2 (by omega)) J.o.length J.o (a1J _) 0 (fE J.D) ⟨[],[],[]⟩ ab4 (a4A _) (fun k hk=>by
  rw[zu hJ.d3 hk];exact⟨(hJ.dg k hk).t.root,a4A _⟩) ⟨⟨fun i hi=>(by simp at hi),fun i hi=>(by simp at hi),fun i hi=>(by simp at hi)⟩,fun e he=>(by cases he),a6a,fun v hv=>(by cases hv),fun b hb=>(by cases hb)⟩ (by show 0+wO J.s J.o<=ah;unfold ah;omega) (by show 0+wO J.s J.o<=ah;unfold ah;omega)
 rw[show m'+1-J.o.length-2+J.o.length+2=m'+1 by omega]at c4;have c5:=aV.ajV hX (H:=[.map [],.cells [lI J.s,lI J.o,.nil .slc,.nil .slc,.int .i64 0],.aC (J.ps (.fn f [] [])),.aC [.fn 126 [] pM],.aC [.map 0]]) [.U2 1 2 39,.U2 1 3 105] c4 (by kernel_rfl);obtain⟨h1,h2,h3⟩:=Jc hJ ku;have hr:=a7c hJ ku;have h4:(bD (pG J op)).2=0:=by rw[(Xp hJ ku).1]
 have h5:=wM hr (by unfold ah;omega) (by show J.s.length<=ah;unfold ah;omega) (by show J.o.length<=ah;unfold ah;omega) h4;have p1:J.s.length<=ah:=by unfold ah;omega
 have p2:J.o.length<=2^20:=by omega
 have p3:(pG J op).aO.length<=ah:=by unfold ah;omega
 have p4:((bD (pG J op)).2 != 0)=false->ClP (bD (pG J op)).1:=fun _=>by rw[h5.1];exact h5.2
 exact aag (hO (m'+1) (by omega)) J (fE J.D) (jy J op J.o (fE J.D) ⟨[],[],[]⟩) c1 c2 c3 c5 hr p1 p2 p3 p4
abbrev aoQ(J:Jb)(f:Nat)(u:Int)(x:Mk):List (PB aF):=[.map (Hf x.k),.cells [lI J.s,lI J.o,.own 8,.own 9,.int .i64 0],.cells (J.ps (.fn f [] [.ptr 5 0 1])),.cells [.fn 126 [] pM],.cells [.map 0],.aC [.int .u8 u],.gone,.gone,Pz x.e,PD x.n]
theorem aah{m f:Nat}(u:Int)(hO:Ok m He)(J:Jb)(st:S3)(z:Int×Mk)
  (c1:aV X0 Qp (bP m) (.fn 125 [] []) [.dn 3 J.s false] [] (lI J.s) [])
  (c2:aV X0 Qp (bP m) (.fn 125 [] []) [.dn 3 J.o false] [] (lI J.o) [])
  (c3:aV X0 Qp (bP m) (.fn 130 [] []) [.agg (J.ps (.fn f [] [.ptr 0 0 1]))] [.aC [.int .u8 u]] (.agg st.ps) [.aC [.int .u8 u]])
  (c5:aV X0 Qp (bP m) (.fn 126 [] pM) [.agg st.ps,.int .i64 (0:Int)] [.map [],.cells [lI J.s,lI J.o,.nil .slc,.nil .slc,.int .i64 0],.aC (J.ps (.fn f [] [.ptr 5 0 1])),.aC [.fn 126 [] pM],.aC [.map 0],.aC [.int .u8 u]] (.int .i64 z.1) (aa5 J f u z.2))
  (hr:KF ⟨J.s,J.o,z.2.e,z.2.n,z.1⟩) (p1:J.s.length<=ah) (p2:J.o.length<=2^20) (p3:z.2.e.length<=ah) (p4:((bD ⟨J.s,J.o,z.2.e,z.2.n,z.1⟩).2 != 0)=false->ClP (bD ⟨J.s,J.o,z.2.e,z.2.n,z.1⟩).1) :
  aV X0 Qp (bP (m+1)) (.fn 80 [] []) [.agg (J.ps (.fn f [] [.ptr 0 0 1]))] [.aC [.int .u8 u]] (dA.put (zq ⟨J.s,J.o,z.2.e,z.2.n,z.1⟩).1) [.aC [.int .u8 u]]:=by
 obtain⟨v,e,n,k⟩:=z;have h0:aV X0 Qp (bP (m+1)) (.fn 80 [] []) [.agg (J.ps (.fn f [] [.ptr 0 0 1]))] [.aC [.int .u8 u]] (dA.put (zq ⟨J.s,J.o,e,n,v⟩).1) ([.aC [.int .u8 u]]++[.cells (J.ps (.fn f [] [.ptr 0 0 1])),.cells [lI J.s,lI J.o,.own 8,.own 9,.int .i64 v],.map (Hf k),.cells [.map 3],.cells [.fn 126 [] [.ptr 1 0 5,.ptr 2 0 5,.ptr 5 0 1,.ptr 4 0 1]],.gone,.gone,.gone,.gone]):=
  fM hO (first:=[]) (cap:=[]) (.fr [] c1 (.fr [] c2 (.fr [0] c3 (.PZ (H2:=aoQ J f u ⟨e,n,k⟩) [3,2,1,5,4,0] [2,3,4] c5 (.o hr (.o p1 (.o p2 (.o p3 (.o p4 .er)))))))))
 exact aV.cut hX h0 rfl rfl rfl rfl
theorem aff{N f:Nat}(u:Int){J:Jb}(hJ:jL J){op:List V->V}(ku:wQ J op)(hs:∀m,N<=m->∀l:List V,l.length=J.D.length->aV X0 Qp (bP m) (.fn f [] [.ptr 0 0 1]) [lV l] [.aC [.int .u8 u]] (.agg (op l).ps) [.aC [.int .u8 u]])(hO:∀m,N<=m->Ok m He){m:Nat}(hm:N+J.o.length+2<=m):aV X0 Qp (bP (m+1)) (.fn 80 [] []) [.agg (J.ps (.fn f [] [.ptr 0 0 1]))] [.aC [.int .u8 u]] (dA.put (Ja J op)) [.aC [.int .u8 u]]:=by
 have hl:=hJ.eu.len;have QC:=(jL.o2 hJ).2.1;have hw:=OM hJ.eu.sz hJ.ord;have hmn:=hJ.eu.many;have c1:=LV (n:=m) (hO m (by omega)) J.s (by unfold ah;omega);have c2:=LV (n:=m) (hO m (by omega)) J.o (by unfold ah;omega);obtain⟨m',rfl⟩:∃m',m=m'+1:=⟨m-1,by omega⟩;have c3:=Zl (M:=m') (f:=f) (a:=[]) (cc:=[.ptr 0 0 1]) (H:=[.aC [.int .u8 u]]) J hJ.d3;have c4:=aoO (N:=m'+1-J.o.length-2) (f:=f) u hJ ku (fun m2 h2=>hs m2 (by omega)) J.o.length J.o (a1J _) 0 (fE J.D) ⟨[],[],[]⟩ ab4 (a4A _) (fun k hk=>by
  rw[zu hJ.d3 hk];exact⟨(hJ.dg k hk).t.root,a4A _⟩) ⟨⟨fun i hi=>(by simp at hi),fun i hi=>(by simp at hi),fun i hi=>(by simp at hi)⟩,fun e he=>(by cases he),a6a,fun v hv=>(by cases hv),fun b hb=>(by cases hb)⟩ (by show 0+wO J.s J.o<=ah;unfold ah;omega) (by show 0+wO J.s J.o<=ah;unfold ah;omega)
 rw[show m'+1-J.o.length-2+J.o.length+2=m'+1 by omega]at c4;have c5:=aV.ajV hX (H:=[.map [],.cells [lI J.s,lI J.o,.nil .slc,.nil .slc,.int .i64 0],.aC (J.ps (.fn f [] [.ptr 5 0 1])),.aC [.fn 126 [] pM],.aC [.map 0],.aC [.int .u8 u]]) [.U2 1 2 39,.U2 1 3 105] c4 (by kernel_rfl);obtain⟨h1,h2,h3⟩:=Jc hJ ku;have hr:=a7c hJ ku;have h4:(bD (pG J op)).2=0:=by rw[(Xp hJ ku).1]
 have h5:=wM hr (by unfold ah;omega) (by show J.s.length<=ah;unfold ah;omega) (by show J.o.length<=ah;unfold ah;omega) h4;have p1:J.s.length<=ah:=by unfold ah;omega
 have p2:J.o.length<=2^20:=by omega
 have p3:(pG J op).aO.length<=ah:=by unfold ah;omega
 have p4:((bD (pG J op)).2 != 0)=false->ClP (bD (pG J op)).1:=fun _=>by rw[h5.1];exact h5.2
 exact aah u (hO (m'+1) (by omega)) J (fE J.D) (jy J op J.o (fE J.D) ⟨[],[],[]⟩) c1 c2 c3 c5 hr p1 p2 p3 p4
end Go.Proofs.YtmobpoiejckagaaGreat
namespace Pv
open Go Tw
section
variable {P:Program} {T:qy} {call:aY} {cd:uO} {L f:Nat} {fl nt:Nat}
def nM:Code->Bool
 |.rangeFunc ..=>false
 |.region _ ops _=>(zV ops).isNone
 |.seq a b=>nM a&&nM b
 |.cond _ a b=>nM a&&nM b
 |.block _ b=>nM b
 |.scope b=>nM b
 |.loop b=>nM b
 |_=>true
theorem a7l:∀(c:Code) {s s':St} {e:Ex} {Q:Ex->St->Prop},nM c=true->exec P T call L f false fl nt c s=some (e,s')->Q e s'->fC P T call cd L f fl nt c s Q:=by
 intro c
 induction c with
 |region id ops draw=>
  intro s s' e Q hn h hq;simp only[nM,Option.isNone_iff_eq_none]at hn;simp only[fC,hn];exact⟨_,_,h,hq⟩
 |seq x y VA ihy=>
  intro s s' e Q hn h hq;simp only[nM,a2r]at hn;simp only[fC];simp only[exec]at h;split at h
  .rename_i s1 hx;exact VA hn.1 hx (ihy hn.2 h hq)
  rename_i iq;refine VA hn.1 h ?_;cases e with
  |norm=>exact(iq s' h).elim
  |exit i=>exact hq
  |ret=>exact hq
 |cond c x y VA ihy=>
  intro s s' e Q hn h hq;simp only[nM,a2r]at hn;simp only[fC];simp only[exec]at h;split at h
  .rename_i hc;simp only[hc];exact VA hn.1 h hq
  .rename_i hc;simp only[hc];exact ihy hn.2 h hq
  cases h
 |block id b ih=>
  intro s s' e Q hn h hq;simp only[nM]at hn;simp only[fC];simp only[exec]at h;split at h
  .rename_i i s1 hb;cases h;exact ih hn hb hq
  rename_i iq;refine ih hn h ?_;cases e with
  |exit i=>exact(iq i s' h).elim
  |norm=>exact hq
  |ret=>exact hq
 |scope b ih=>
  intro s s' e Q hn h hq;simp only[nM]at hn;simp only[fC];simp only[exec]at h;exact ih hn h hq
 |loop b ih=>
  intro s s' e Q hn h hq;simp only[nM]at hn;simp only[fC];simp only[exec]at h;have:∀(k:Nat) {s:St},iter (fun s=>exec P T call L f false fl nt b (jM (T.eH f (dR b)) s)) k s=some (e,s')->Gi (fun s Q=>fC P T call cd L f fl nt b (jM (T.eH f (dR b)) s) Q) k s Q:=by
   intro k
   induction k with
   |zero=>intro s h;simp[iter]at h
   |succ k ihk=>
    intro s h;simp only[iter]at h;split at h
    .rename_i s1 h1;exact ih hn h1 (ihk h)
    rename_i iq;refine ih hn h ?_;cases e with
    |norm=>exact(iq s' h).elim
    |exit i=>exact hq
    |ret=>exact hq
  exact this L h
 |rangeFunc=>intro s s' e Q hn;cases hn
 |_=>
  intro s s' e Q hn h hq;simp only[fC];exact⟨_,_,h,hq⟩
end
section
variable {X:kC} {P:Program} {T:qy} {call:aY} {cd:uO} {L f nt B:Nat}
def aJ(X:kC)(P:Program)(T:qy)(call:aY)(cd:uO)(L f nt B:Nat)(c:Code)(ps:aS X.Γ)(Q:Ex->aS X.Γ->Prop):Prop:=
 ∀(A W:Nat->Prop) (fl:Nat) (m:List MB) (ts:St) (R:Ex->St->Prop),SR X P A W fl m ps ts->(∀e iE ps1 m1,Q e ps1->SR X P A W fl m1 ps1 iE->Fr m ts.heap m1 iE.heap->Lu B m m1->R e iE)->fC P T call cd L f fl nt c ts R
theorem aJ.mono{c:Code}{ps:aS X.Γ}{Q Q':Ex->aS X.Γ->Prop}(hq:∀e s,Q e s->Q' e s)(h:aJ X P T call cd L f nt B c ps Q):aJ X P T call cd L f nt B c ps Q':=fun A W fl m ts R hS hR=>
 h A W fl m ts R hS fun e iE ps1 m1 a1=>hR e iE ps1 m1 (hq _ _ a1)
theorem dM.ZI{c:Code}{ps ps1:aS X.Γ}{e:Ex}{Q:Ex->aS X.Γ->Prop}(hn:nM c=true)(h:dM X P T call L f false nt B c ps e ps1)(hq:Q e ps1):aJ X P T call cd L f nt B c ps Q:=fun A W fl m ts R hS hR=>by
 obtain⟨iE,m1,h1,h2,h3,h4⟩:=h A W fl m ts hS;exact a7l c hn h1 (hR _ _ ps1 m1 hq h2 h3 h4)
theorem aJ.seq{a b:Code}{ps:aS X.Γ}{Q R:Ex->aS X.Γ->Prop}(ha:aJ X P T call cd L f nt B a ps R)(hb:∀s,R .norm s->aJ X P T call cd L f nt B b s Q)(he:∀i s,R (.exit i) s->Q (.exit i) s)(hr:∀s,R .ret s->Q .ret s):aJ X P T call cd L f nt B (.seq a b) ps Q:=fun A W fl m ts R' hS hR=>by
 simp only[fC];refine ha A W fl m ts _ hS fun e iE ps1 m1 a1 a2 a3 a4=>?_;cases e with
 |norm=>exact hb ps1 a1 A W fl m1 iE R' a2 fun e ts2 BM m2 b1 b2 b3 b4=>hR e ts2 BM m2 b1 b2 (a3.trans b3) (a4.trans b4)
 |exit i=>exact hR _ _ ps1 m1 (he _ _ a1) a2 a3 a4
 |ret=>exact hR _ _ ps1 m1 (hr _ a1) a2 a3 a4
theorem aJ.block{id:Nat}{b:Code}{ps:aS X.Γ}{Q:Ex->aS X.Γ->Prop}(h:aJ X P T call cd L f nt B b ps fun e s=>Q (match e with|.exit i=>if i=id then .norm else .exit i|e=>e) s):aJ X P T call cd L f nt B (.block id b) ps Q:=fun A W fl m ts R hS hR=>by
 simp only[fC];exact h A W fl m ts _ hS fun e iE ps1 m1 a1 a2 a3 a4=>hR _ iE ps1 m1 a1 a2 a3 a4
theorem aJ.loop{b:Code}{Q:Ex->aS X.Γ->Prop}(I:Nat->aS X.Γ->Prop)
  (h:∀k s,I k s->aJ X P T call cd L f nt B b (gq X (T.eH f (dR b)) s) fun e s=>match e with|.norm=>∃j,j<k∧I j s|e=>Q e s) {k:Nat} {ps:aS X.Γ} (hi:I k ps) (hk:k<L):aJ X P T call cd L f nt B (.loop b) ps Q:=fun A W fl m ts R hS hR=>by
 simp only[fC];have key:∀(n k:Nat) (ps:aS X.Γ) (m1:List MB) (iE:St),k<n->I k ps->SR X P A W fl m1 ps iE->Fr m ts.heap m1 iE.heap->Lu B m m1->Gi (fun s Q=>fC P T call cd L f fl nt b (jM (T.eH f (dR b)) s) Q) n iE R:=by
  intro n
  induction n with
  |zero=>intro k ps m ts hk;omega
  |succ n ih=>
   intro k ps m1 iE hk hi hS hF hU;simp only[Gi];refine h k ps hi A W fl m1 _ _ (hS.head _) fun e ts2 BM m2 a1 a2 a3 a4=>?_;have a3:Fr m1 iE.heap m2 ts2.heap:=a3;cases e with
   |norm=>
    obtain⟨j,hj,zS⟩:=a1;exact ih j BM m2 ts2 (by omega) zS a2 (hF.trans a3) (hU.trans a4)
   |exit i=>exact hR _ _ BM m2 a1 a2 (hF.trans a3) (hU.trans a4)
   |ret=>exact hR _ _ BM m2 a1 a2 (hF.trans a3) (hU.trans a4)
 exact key L k ps m ts hk hi hS .refl Up.refl.b
theorem aJ.cond{c:Operand}{a b:Code}{ps:aS X.Γ}{t:Bool}{Q:Ex->aS X.Γ->Prop}(hc:zI ps.env c=some (.bool t))(h:aJ X P T call cd L f nt B (if t then a else b) ps Q):aJ X P T call cd L f nt B (.cond c a b) ps Q:=fun A W fl m ts R hS=>by
 obtain⟨x,g1,g2⟩:=jd hS.st.env hc;have hx:x=.bool t:=by
  cases g2 with
  |bool=>rfl
  |gone hi _ _=>simp[bg]at hi
 subst hx;simp only[fC,g1];cases t with
 |true=>exact h A W fl m ts R hS
 |false=>exact h A W fl m ts R hS
theorem aJ.next{id it nx mo b r n:Nat}{seen:List Nat}{ops:Array Oper}{draw:Bool}{o1 o2:Oper}{ps:aS X.Γ}{es:List (PV X.Γ×PV X.Γ)}{Q:Ex->aS X.Γ->Prop}(hn:zV ops=some (it,nx,o1,o2))(hd:nx<nt)(hd2:mo<nt)
  (h2:o2.op=.extract (.tmp nx) 0) (h3:o2.dst=some mo) (h4:o2.guard=none)
  (PW:zI ps.env (.tmp it)=some (.iter b)) (hb:ps.heap[b]? = some (.cu r n seen)) (hr:JD X ps.heap r=some es) (hl:es.length=n)
  (vN:(∀j,j<n->j∈seen)->Q .norm { ps with env:=iW (T.gZ f id) ((mo,.val (.bool false))::(nx,.val (.dG [.bool false]))::ps.env) })
  (pick:∀j e,j∉seen->es[j]? = some e->Q .norm { ps with env:=iW (T.gZ f id) ((mo,.val (.bool true))::(nx,.val (.dG [.bool true,e.1,e.2]))::ps.env),heap:=ps.heap.set b (.cu r n (j::seen)) }) :
  aJ X P T call cd L f nt B (.region id ops draw) ps Q:=fun A W fl m ts R hS hR0=>by
 obtain⟨x,g1,g2⟩:=jd hS.st.env PW;obtain⟨mb,q1,q2⟩:=hS.st.heap.at_ b _ hb;obtain⟨cr,fO,q3,z1,z2,z3⟩:=CB hS.st.heap hr;cases mb with
 |fP cb=>
   obtain⟨c,p1,p2,p3⟩:=q2;have:=p3 cr (by rcases q3 with q|⟨q,_⟩;exact .inl q;exact .inr q);subst this;cases g2 with
   |gone hi e _=>simp only[bg,a01]at hi;subst hi;rw[q1]at e;cases e
   |iter e1=>
    rw[q1]at e1;cases e1;have aoR:dL it ts.env=some (.val (.iter cb)):=by
     unfold qE at g1;split at g1
     .rename_i v hv;cases g1;exact hv
     .cases g1
    have run:∀(s:St) (t:Bool) (vs:List TV),kN P call (fun d=>T.Td f d) fl nt ops [o2] (s.put (some nx) (.val (.dG (.bool t::vs))))=some ({ s with env:=(mo,.val (.bool t))::(nx,.val (.dG (.bool t::vs)))::s.env },[bW]):=by
     intro s t vs;have e1:MF nt o2=true:=(by simp[MF,h3,hd2]);have e2:∀env,BJ ops env o2=some true:=fun env=>(by simp[BJ,h4]);simp only[kN,e1,e2,a8q,a2H,a3x,oN,h2];simp[St.put,Hz,dL,h3,jK,bW,yH]
    simp only[fC,hn];refine⟨hd,cb,cr,n,seen,fO,aoR,p1,z1,by rw[<-z2];exact hl,fun EO=>?_,fun j e hj he=>?_⟩
    .refine⟨_,_,run ts false [],hR0 _ _ { ps with env:=_ } m (vN EO) ?_ .refl Up.refl.b⟩;have hS2:uJ X P A m { ps with env:=(mo,.val (.bool false))::(nx,.val (.dG [.bool false]))::ps.env } { ts with env:=(mo,.val (.bool false))::(nx,.val (.dG [.bool false]))::ts.env }:=
      ⟨hS.st.heap,hS.st.llen,hS.st.loc,.cons (.bool false) (.cons (bU.cons (.bool false) .nil |> fun h=>.dG h.1 h.2) hS.st.env)⟩
     exact SR.pick ⟨hS2,hS.own,hS.ws,hS.fl⟩ _
    .have aQ:j<es.length:=by rw[z2];exact(a02.1 he).1
     have hej:=a0E aQ;have hv:=z3 j _ _ hej he;have hcb:=(a02.1 p1).1;obtain⟨u1,u2⟩:=hS.st.heap.set (pb:=.cu r n (j::seen)) (hb:=.cu cr n (j::seen)) q1 (c:=cb) rfl (fun cs hc=>by simp[aU,p1]at hc) fun hF=>⟨cr,by simp[hcb],p2,p3⟩;refine⟨_,_,run _ true [e.1,e.2],hR0 _ _ { ps with env:=_,heap:=_ } m (pick j _ hj hej) ?_ u2 Up.refl.b⟩;have hS1:=hS.st.step u1 u2 .refl;have hS2:uJ X P A m { ps with env:=(mo,.val (.bool true))::(nx,.val (.dG [.bool true,es[j].1,es[j].2]))::ps.env,heap:=ps.heap.set b (.cu r n (j::seen)) } { ts with env:=(mo,.val (.bool true))::(nx,.val (.dG [.bool true,e.1,e.2]))::ts.env,heap:=ts.heap.set cb (.cu cr n (j::seen)),ws:=jK fl [.h cb] ts.ws }:=
      ⟨hS1.heap,hS1.llen,hS1.loc,.cons (.bool true) (.cons (bU.cons (.bool true) (bU.cons (nD hv.1) (bU.cons (nD hv.2) .nil)) |> fun h=>.dG h.1 h.2) hS1.env)⟩
     refine SR.pick ⟨hS2,hS.own,fun b2 xM=>?_,by simpa using hS.fl⟩ _;rcases nX.1 xM with h5|⟨h5,h6⟩
     .exact hS.ws b2 h5
     .simp at h5;subst h5;exact(hS.own _ (aZ q1 rfl)).resolve_right (by omega)
 |_=>exact q2.elim
def aai(X:kC)(P:Program)(cd:uO)(fv:PV X.Γ)(xs:List (PV X.Γ))(H:List (PB X.Γ))(K:PV X.Γ->List (PB X.Γ)->Prop):Prop:=
 ∀(A:Nat->Prop) (m:List MB) (h:List HB) (tf:TV) (rO:List TV) (R:TV->List HB->List Nat->Prop),HR X P A m H h->VR X P (AA A m) m h fv tf->bU X P (AA A m) m h xs rO ->
  (∀w h1 ws m1 v H1,K v H1->HR X P A m1 H1 h1->VR X P (AA A m1) m1 h1 v w->Fr m h m1 h1->Up m m1->(∀b∈ws,b∈bn m)->R w h1 ws)->cd tf rO h R
theorem a1q{n:Nat}{t:FnT}{first xs cap:List (PV X.Γ)}{H:List (PB X.Γ)}{K:PV X.Γ->List (PB X.Γ)->Prop}(hX:bK X P)(ht:Tc P f=some t)
  (hE:aJ X P T (kJ P T L n) BZ L f t.nt H.length t.body ⟨kL X 0 (first++xs++cap),[],H⟩ fun e s=>(e=.norm∨e=.ret)∧∃us,Ew X P s t.results=some us∧K (YN X us) s.heap):aai X P (uH P T (kJ P T L n) L) (.fn f first cap) xs H K:=by
 intro A m h tf rO R hr hf Nc hR;cases hf with
 |gone hi _ _=>simp[bg]at hi
 |fn p1 p2 p3 p4=>
  rename_i a' c';have Es:=(bU.app ⟨p1,p2⟩ Nc).app ⟨p3,p4⟩;refine⟨t,ht,hE A (fun b=>b∈bn m) _ m _ _ ⟨⟨hr,rfl,fun k cs hk=>by simp at hk,LC Es⟩,fun b h1=>.inl h1,fun b hb=>(by cases hb),a1J _⟩ fun e iE ps1 m1 ⟨he,us,hus,hk⟩ h3 h4 h5=>?_⟩;obtain⟨ws,g1,g2⟩:=Ik hX h3.st hus;refine⟨he,ws,g1,hR _ _ _ m1 _ _ hk h3.st.heap (Uf g2) h4 (fun i mb hi=>h5 i mb ?_ hi) h3.ws⟩;rw[<-hr.len];exact(a02.1 hi).1
theorem aJ.range(hX:bK X P){g:Operand}{qs:Array Nat}{uD body:Code}{ps:aS X.Γ}{f1:FuncId}{a1 b1:List (PV X.Γ)}{K:PV X.Γ->List (PB X.Γ)->Prop}{Q:Ex->aS X.Γ->Prop}
  (hg:zI ps.env g=some (.fn f1 a1 b1)) (hd:T.din.contains f1=true) (EO:(ps.env.all fun p=>Z7 p.2)=true)
  (aoS:aai X P cd (.fn f1 a1 b1) [.jZ (ps.heap.length+1)] (ps.heap++[.mark]++[.loop true f nt ps.env qs.toList uD body none]) K)
  (hk:∀v H1,K v H1->∃rd f2 PL e2 BM a2 b2 jA e,H1[ps.heap.length+1]? = some (.loop rd f2 PL e2 BM a2 b2 jA)∧Qn rd jA=some e∧Q e { ps with heap:=H1.set (ps.heap.length+1) (.loop false f2 PL e2 BM a2 b2 (some .skip)) }) :
  aJ X P T call cd L f nt B (.rangeFunc g qs uD body) ps Q:=by
 intro A W fl m ts R hS hR;obtain⟨tg,g1,g2⟩:=jd hS.st.env hg;have hm:=hS.st.heap.len;obtain⟨p1,p2,p3⟩:=hS.st.heap.push (pb:=.mark) (hb:=.mark) (mb:=.fP ts.heap.length) (.inl rfl) (by simp[BR]);obtain⟨q1,q2,q3⟩:=p1.push (pb:=.loop true f nt ps.env qs.toList uD body none) (hb:=.loop true f nt ts.env qs.toList uD body none) (mb:=.fP (ts.heap.length+1)) (.inl (by simp[MB.own])) (by
  refine⟨ts.env,by simp,?_⟩;refine jJ.step (m:=m) (h:=ts.heap) (A:=A) ?_ ?_ hS.st.env
  .have r2:Fr (m++[MB.fP ts.heap.length]) (ts.heap++[HB.mark]) (m++[MB.fP ts.heap.length]++[MB.fP (ts.heap.length+1)]) (ts.heap++[HB.mark]++[HB.loop true f nt ts.env qs.toList uD body none]):=by
    refine⟨by simp,fun b hb _=>by rw[a0N hb],fun b hb=>?_,fun b cs hc=>⟨cs,?_,a1J _⟩⟩
    .rw[iU,a3y,jS]at hb;rcases hb with hb|hb
     .exact .inl hb
     .simp[MB.own]at hb;subst hb;exact .inr (by simp)
    .rw[fJ (a0N (gu hc)),hc]
   exact p2.trans r2
  .exact p3.trans (wB _))
 have hF:=p2.trans q2;have hU:=p3.trans q3;have hyl:VR X P (AA A (m++[MB.fP ts.heap.length]++[MB.fP (ts.heap.length+1)])) (m++[MB.fP ts.heap.length]++[MB.fP (ts.heap.length+1)]) (ts.heap++[HB.mark]++[HB.loop true f nt ts.env qs.toList uD body none]) (.jZ (ps.heap.length+1)) (.jZ (ts.heap.length+1)):=by
  refine .jZ ?_;rw[<-hm,a1H (by simp)];simp
 have hg':∃a1' b1',tg=.fn f1 a1' b1':=by
  cases g2 with
  |gone hi _ _=>simp[bg]at hi
  |fn _ _ _ _=>exact⟨_,_,rfl⟩
 obtain⟨a1',b1',rfl⟩:=hg';have aoV:a4I T ts.env g=true:=by unfold a4I;rw[g1];exact hd
 simp only[fC,aoV,a2D];refine⟨f1,a1',b1',g1,a5J hS.st.env EO,?_⟩;rw[show ts.heap++[HB.mark,HB.loop true f nt ts.env qs.toList uD body none]=ts.heap++[HB.mark]++[HB.loop true f nt ts.env qs.toList uD body none] by simp];refine aoS A _ _ _ [.jZ (ts.heap.length+1)] _ q1 (g2.step hF hU) (.cons hyl .nil) fun w h1 ws m1 v H1 O7 c2 c3 c4 c5 c6=>?_;obtain⟨rd,f2,PL,e2,BM,a2,b2,jA,e,hl,hj,hq⟩:=hk v H1 O7;have ZU:m1[ps.heap.length+1]? = some (.fP (ts.heap.length+1)):=by
  rcases c5 (ps.heap.length+1) (.fP (ts.heap.length+1)) (by rw[<-hm,a1H (by simp)];simp)with e|e
  .exact e
  .obtain⟨mb,k1,k2⟩:=c2.at_ _ _ hl;rw[e]at k1;cases k1;exact k2.elim
 obtain⟨mb,k1,k2⟩:=c2.at_ _ _ hl;rw[ZU]at k1;cases k1;obtain⟨e2',k3,k4⟩:=k2;obtain⟨s1,s2⟩:=c2.set (i:=ps.heap.length+1) (c:=ts.heap.length+1) (pb:=.loop false f2 PL e2 BM a2 b2 (some .skip)) (hb:=.loop false f2 PL e2' BM a2 b2 (some .skip)) ZU rfl (fun cs hc=>by unfold aU at hc;rw[k3]at hc;cases hc) (fun hF=>⟨e2',by rw[a1V (a02.1 k3).1],k4.step hF .refl⟩);have hF2:=hF.trans (c4.trans s2);have hU2:=hU.trans c5;refine⟨_,_,_,_,_,_,_,_,e,k3,hj,hR _ _ _ m1 hq ⟨?_,fun b hb=>?_,fun b hb=>?_,?_⟩ hF2 hU2.b⟩
 .have q:=hS.st.step s1 hF2 hU2;exact⟨q.heap,q.llen,q.loc,q.env⟩
 .rcases hF2.new b hb with k|k
  .exact hS.own b k
  .exact .inr (a4p hS.fl k)
 .rcases vJ hb with k|⟨k,k'⟩
  .exact hS.ws b k
  .obtain⟨b',qA,e⟩:=a1L.1 k;cases e;rcases hF.new b (c6 b qA)with k2|k2
   .rcases hS.own b k2 with k3|k3
    .exact k3
    .omega
   .have:=hS.fl;omega
 .exact a4p hS.fl hF2.len
end
section
variable {X:kC} {P:Program} {A B:Nat->Prop} {m m' m1:List MB} {h h':List HB} {g:Nat->Option Nat}
def Bg:List (PB X.Γ)->Bool
 | []=>true
 |.aC _::H=>Bg H
 |.iy _::H=>Bg H
 |.gone::H=>Bg H
 |_=>false
theorem XA:∀{H:List (PB X.Γ)},Bg H=true->∀(i:Nat) b,H[i]? = some b->Bg [b]=true
 | [],_,i,b,h=>by simp at h
 |a::H,hn,i,b,h=>by
  cases i with
  |zero=>simp at h;subst h;cases a<;>simp_all [Bg]
  |succ i=>
   have Dk:Bg H=true:=by cases a<;>simp_all [Bg]
   exact XA Dk i b (by simpa using h)
theorem Zp{H:List (PB X.Γ)}(hn:Bg H=true)(hr:HR X P A m H h):bn m=[]:=by
 refine a7v.2 fun b hb=>?_;obtain⟨i,mb,h1,h2⟩:=jT hb;have hl:i<H.length:=by rw[<-hr.len];exact(a02.1 h1).1
 obtain⟨Le,g1,g2⟩:=hr.at_ i _ (a0E hl);rw[h1]at g1;cases g1;have h3:=XA hn i _ (a0E hl);generalize H[i]=b9 at g2 h3;cases b9<;>first|(cases h3;done)|skip
 all_goals (cases mb<;>first|exact g2.elim|cases h2)
theorem OZ{v:PV X.Γ}{t:TV}(h:qM v=some t):(∀l,Bj t l=l)∧(∀g,mX g t=some t)∧∀fl,Kw fl t=t:=by
 cases v<;>simp only[qM,a01,reduceCtorEq]at h<;>subst h<;>exact⟨fun _=>rfl,fun _=>rfl,fun _=>rfl⟩
theorem yg:∀{vs:List (PV X.Γ)} {ts:List TV},iF vs=some ts->(∀l,Bj.Eo ts l=l)∧∀g,mX.yS g ts=some ts
 | [],ts,h=>by simp only[iF,a01]at h;subst h;exact⟨fun _=>rfl,fun _=>rfl⟩
 |v::vs,ts,h=>by
  simp only[iF]at h;split at h
  .rename_i a b h1 h2;cases h;have e1:=OZ h1;have e2:=yg h2;exact⟨fun l=>by simp only[Bj.Eo,e2.1,e1.1],fun g=>by simp only[mX.yS,e1.2.1,e2.2]⟩
  cases h
theorem LW{v:PV X.Γ}{t:TV}(h:pJ v=some t):(∀l,Bj t l=l)∧(∀g,mX g t=some t)∧∀fl,Kw fl t=t:=by
 unfold pJ at h;split at h
 .simp only[a0D]at h;obtain⟨ts,h1,rfl⟩:=h;have e:=yg h1;exact⟨fun l=>by simp only[Bj,e.1],fun g=>by simp only[mX,e.2,a1z],fun _=>rfl⟩
 exact OZ h
def a3e(X:kC)(P:Program)(mg:Bool)(u:PV X.Γ)(Hs:List (PB X.Γ))(tv:Nat->TV)(tN:List HB):Prop:=
 ∀(A:Nat->Prop) (m:List MB) (h h1:List HB) (w:TV),HR X P A m Hs h1->VR X P (AA A m) m h1 u w->(∀b,b∈bn m->h.length<=b)->Nw mg h w h1=some (tv h.length,h++tN)
theorem Dh(hX:bK X P){T:qy}{L n f:Nat}{t:FnT}{first xs cap:List (PV X.Γ)}{H N:List (PB X.Γ)}{v:PV X.Γ}{tv:Nat->TV}{tN:List HB}(hd:T.ZI.contains f=true)(hx:T.exts.contains f=false)(ht:Tc P f=some t)(hN:Bg H=true)
  (NC:∀A m h,HR X P A m H h->∃m1,HR X P A m1 (H++N) (h++tN)∧VR X P (AA A m1) m1 (h++tN) v (tv h.length)∧Fr m h m1 (h++tN)∧Up m m1)
  (hE:aJ X P T (kJ P T L n) (uH P T (kJ P T L n) L) L f t.nt H.length t.body ⟨kL X 0 (first++xs++cap),[],H⟩ fun e s=>(e=.norm∨e=.ret)∧∃us,Ew X P s t.results=some us∧a3e X P (T.a8u.contains f) (YN X us) s.heap tv tN):aV X P (kJ P T L (n+1)) (.fn f first cap) xs H v (H++N):=by
 intro A m h tf rO hr hf Nc;cases hf with
 |gone hi _ _=>simp[bg]at hi
 |fn p1 p2 p3 p4=>
  rename_i a' c';have Es:=(bU.app ⟨p1,p2⟩ Nc).app ⟨p3,p4⟩;have hb:=Zp hN hr;have hS:SR X P A (fun _=>False) h.length m ⟨kL X 0 (first++xs++cap),[],H⟩ ⟨mZ 0 (a'++rO++c'),[],h,[]⟩:=
   ⟨⟨hr,rfl,fun k cs hk=>by simp at hk,LC Es⟩,fun b h1=>(by rw[hb]at h1;cases h1),fun b hb=>(by cases hb),a1J _⟩
  have hO:VI P T (kJ P T L n) L f t (a'++rO++c') h (tv h.length,h++tN):=by
   refine hE A _ _ m _ _ hS fun e iE ps1 m1 ⟨he,us,hus,hpv⟩ h3 h4 h5=>?_;obtain⟨ws,g1,g2⟩:=Ik hX h3.st hus;exact⟨he,ws,g1,a7v.2 fun b hb=>h3.ws b hb,hpv A m1 h iE.heap _ h3.st.heap (Uf g2) fun b hb=>(h3.own b hb).resolve_left id⟩
  obtain⟨m1,q1,q2,q3,q4⟩:=NC A m h hr;refine⟨tv h.length,h++tN,[],m1,?_,q1,q2,q3,q4,fun b hb=>by cases hb⟩;simp only[kJ,hx,hd,a2H,a3x,a2D];exact a8Q ht hO
theorem Zq{mg:Bool}{u:PV X.Γ}{Hs:List (PB X.Γ)}{tu:TV}(hu:pJ u=some tu)(ht:∀cs,tu≠.dG cs):a3e X P mg u Hs (fun _=>tu) []:=fun A m h h1 w hr hw _=>by
 have:=jE hw hu;subst this;obtain⟨e1,e2,e3⟩:=LW hu;have e4:TP h.length w=w:=by
  cases w with
  |dG cs=>exact absurd rfl (ht cs)
  |_=>exact e3 h.length
 unfold Nw;simp only[e1,vZ,e2,C9,e4,ab9,a6h]
theorem aaj(hX:bK X P){T:qy}{L n f:Nat}{t:FnT}{first xs cap:List (PV X.Γ)}{H:List (PB X.Γ)}{v:PV X.Γ}{tv:TV}(hd:T.ZI.contains f=true)(hx:T.exts.contains f=false)(ht:Tc P f=some t)(hN:Bg H=true)(hv:pJ v=some tv)
  (hE:aJ X P T (kJ P T L n) (uH P T (kJ P T L n) L) L f t.nt H.length t.body ⟨kL X 0 (first++xs++cap),[],H⟩ fun e s=>(e=.norm∨e=.ret)∧∃us,Ew X P s t.results=some us∧YN X us=v):aV X P (kJ P T L (n+1)) (.fn f first cap) xs H v H:=by
 have:=Dh (N:=[]) (v:=v) (tv:=fun _=>tv) (tN:=[]) hX hd hx ht hN (fun A m h hr=>⟨m,by simpa using hr,nD hv,by simpa using Fr.refl,.refl⟩) (hE.mono fun e s ⟨h1,us,h2,h3⟩=>⟨h1,us,h2,by rw[h3];exact Zq hv fun cs hc=>by subst hc;cases v<;>simp[pJ,qM]at hv⟩)
 rwa [a6h]at this
def wR:List (PV X.Γ×PV X.Γ)->Option (List (TV×TV))
 | []=>some []
 |(k,v)::r=>match pJ k,pJ v,wR r with
  |some k,some v,some r=>some ((k,v)::r)
  |_,_,_=>none
theorem XB:∀{es:List (PV X.Γ×PV X.Γ)} {fO LX:List (TV×TV)},wR es=some LX->es.length=fO.length->(∀(i:Nat) x y,es[i]? = some x->fO[i]? = some y->pJ x.1=some y.1∧pJ x.2=some y.2)->fO=LX
 | [],fO,LX,h,hl,_=>by
  simp only[wR,a01]at h;subst h;exact a3F hl.symm
 |(k,v)::r,fO,LX,h,hl,he=>by
  cases fO with
  |nil=>simp at hl
  |cons y fO=>
   simp only[wR]at h;split at h
   .rename_i a b c h1 h2 h3;cases h;have e0:=he 0 _ _ rfl rfl;have e1:y.1=a:=by have:=e0.1.symm.trans h1;exact a8x this
    have e2:y.2=b:=by have:=e0.2.symm.trans h2;exact a8x this
    have e3:=XB h3 (by simpa using hl) fun i x z hx hz=>he (i+1) x z (by simpa using hx) (by simpa using hz);rw[e3,<-e1,<-e2]
   cases h
theorem P5:∀{es:List (PV X.Γ×PV X.Γ)} {LX:List (TV×TV)},wR es=some LX->es.length=LX.length∧∀(i:Nat) x y,es[i]? = some x->LX[i]? = some y->pJ x.1=some y.1∧pJ x.2=some y.2
 | [],LX,h=>by simp only[wR,a01]at h;subst h;exact⟨rfl,by simp⟩
 |(k,v)::r,LX,h=>by
  simp only[wR]at h;split at h
  .rename_i a b c h1 h2 h3;cases h;obtain⟨i1,i2⟩:=P5 h3;refine⟨by simp[i1],fun i x y hx hy=>?_⟩;cases i with
   |zero=>simp at hx hy;subst hx;subst hy;exact⟨h1,h2⟩
   |succ i=>exact i2 i x y (by simpa using hx) (by simpa using hy)
  cases h
theorem SE:∀{es:List (PV X.Γ×PV X.Γ)} {LX:List (TV×TV)},wR es=some LX->(∀l,a8L.a0g LX l=l)∧∀g,Tw.oK g LX=some LX
 | [],LX,h=>by simp only[wR,a01]at h;subst h;exact⟨fun _=>rfl,fun _=>rfl⟩
 |(k,v)::r,LX,h=>by
  simp only[wR]at h;split at h
  .rename_i a b c h1 h2 h3;cases h;have e1:=LW h1;have e2:=LW h2;have e3:=SE h3;exact⟨fun l=>by simp only[a8L.a0g,e1.1,e2.1,e3.1],fun g=>by simp only[Tw.oK,e1.2.1,e2.2.1,e3.2]⟩
  cases h
theorem P6{h h1:List HB}{c:Nat}(hc:h.length<=c)(hr:∀l,a8L h1[c]? l=l):vZ h1 h.length 5000 [c] []=[c]∧VD h.length [c] c=some h.length:=by
 have e1:Nat.blt c h.length=false:=by
  cases e:Nat.blt c h.length with
  |false=>rfl
  |true=>have:=agd e;omega
 constructor
 .simp only[vZ,e1,a4P,Bool.or_false,hr]
 simp only[VD,e1,a4N,Nat.beq_refl,a1z,a3E]
theorem a7m{mg:Bool}{r:Nat}{Hs:List (PB X.Γ)}{es:List (PV X.Γ×PV X.Γ)}{LX:List (TV×TV)}(hm:Hs[r]? = some (.map es))(he:wR es=some LX):a3e X P mg (.map r) Hs (fun n=>.map n) [.map (QO LX)]:=fun A m h h1 w hr hw hn=>by
 obtain⟨mb,g1,g2⟩:=hr.at_ r _ hm;cases mb with
 |fP c=>
  obtain⟨fO,g3,g4,g5⟩:=g2;have:=XB he g4 g5;subst this;have hw:w=.map c:=by
   cases hw with
   |map e=>rw[g1]at e;cases e;rfl
   |gone hi e _=>simp only[bg,a01]at hi;subst hi;rw[g1]at e;cases e
  subst hw;have hc:=hn c (aZ g1 rfl);obtain⟨e1,e2⟩:=SE he;obtain⟨k1,k2⟩:=P6 (h:=h) (h1:=h1) hc fun l=>by rw[g3];exact e1 l
  unfold Nw;simp only[Bj,k1,mX,k2,a1z,C9,g3,uj,e2,TP,Kw,a3K,ab9,PX]
 |_=>exact g2.elim
theorem a7n(hX:bK X P){T:qy}{L n f:Nat}{t:FnT}{first xs cap:List (PV X.Γ)}{H:List (PB X.Γ)}{es0:List (PV X.Γ×PV X.Γ)}{a3f:List (TV×TV)}(hd:T.ZI.contains f=true)(hx:T.exts.contains f=false)(ht:Tc P f=some t)(hN:Bg H=true)(h0:wR es0=some a3f)
  (hE:aJ X P T (kJ P T L n) (uH P T (kJ P T L n) L) L f t.nt H.length t.body ⟨kL X 0 (first++xs++cap),[],H⟩ fun e s=>(e=.norm∨e=.ret)∧∃us,Ew X P s t.results=some us∧∃r es LX,YN X us=.map r∧s.heap[r]? = some (.map es)∧wR es=some LX∧QO LX=a3f):aV X P (kJ P T L (n+1)) (.fn f first cap) xs H (.map H.length) (H++[.map es0]):=by
 refine Dh (tv:=fun n=>.map n) (tN:=[.map a3f]) hX hd hx ht hN (fun A m h hr=>?_) (hE.mono fun e s ⟨h1,us,h2,r,es,LX,h3,h4,h5,h6⟩=>⟨h1,us,h2,by rw[h3,<-h6];exact a7m h4 h5⟩);obtain⟨p1,p2,p3⟩:=hr.push (pb:=.map es0) (hb:=.map a3f) (mb:=.fP h.length) (.inl rfl) ⟨a3f,by simp,(P5 h0).1,(P5 h0).2⟩;exact⟨_,p1,.map (by rw[<-hr.len];simp),p2,p3⟩
theorem XC(hX:bK X P){A:Nat->Prop}{m:List MB}{Hs:List (PB X.Γ)}{h1:List HB}{i ty:Nat}{k ex:Bool}{l:List (X.Γ ty)}{w:TV}{KI:List TV}(hr:HR X P A m Hs h1)(hi:Hs[i]? = some (.list k ex ty l))(hl:l≠[])(hc:iF (Ea X ty l)=some KI)(hw:VR X P (AA A m) m h1 (.own i) w) :
  ∃c sz e kk,w=.slc c 0 l.length l.length sz e∧dw P ty=some sz∧c∈bn m∧h1[c]? = some (.cells kk KI)∧kk≠.ro:=by
 obtain⟨mb,g1,g2⟩:=hr.at_ i _ hi;cases mb with
 |dn x=>
  have hwx:w=x:=by
   cases hw with
   |own e _=>rw[g1]at e;cases e;rfl
   |gone hi e _=>simp only[bg,a01]at hi;subst hi;rw[g1]at e;cases e
  subst hwx;cases(g2:LR X P (AA A m) m h1 k ex ty l w)with
  |nil=>exact absurd rfl hl
  |emp=>exact absurd rfl hl
  |some _ q2 q3 q4 q5 q6 q7 q8 q9=>
   have hv:=dV.vrs q9 q8;have QB:=F9 hv hc;subst QB;exact⟨_,_,_,_,rfl,q2,aZ g1 (by simp only[MB.own];rw[a0S (by simpa using hl)]),q4,q5⟩
 |_=>exact g2.elim
theorem a7o(hX:bK X P){i ty sz:Nat}{k ex:Bool}{l:List (X.Γ ty)}{Hs:List (PB X.Γ)}{KI:List TV}(hi:Hs[i]? = some (.list k ex ty l))(hl:l≠[])(hc:iF (Ea X ty l)=some KI)(hs:dw P ty=some sz):a3e X P true (.own i) Hs (fun n=>.slc n 0 l.length l.length sz false) [.mg (QS KI)]:=fun A m h h1 w hr hw hn=>by
 obtain⟨c,sz',e,kk,rfl,g1,g2,g3,g4⟩:=XC hX hr hi hl hc hw;rw[hs]at g1;cases g1;have pU:=hn c g2;obtain⟨e1,e2⟩:=yg hc;obtain⟨k1,k2⟩:=P6 (h:=h) (h1:=h1) pU fun l=>by rw[g3];exact e1 l
 have e3:PX true (.cells kk KI)=.mg (QS KI):=by cases kk<;>first|rfl|exact absurd rfl g4
 unfold Nw;simp only[Bj,k1,mX,k2,a1z,C9,g3,uj,e2,TP,Kw,a3K,ab9,e3,Nat.lt_irrefl,a3x]
theorem a7p(hX:bK X P){i ty sz:Nat}{k ex:Bool}{l:List (X.Γ ty)}{Hs:List (PB X.Γ)}{KI:List TV}{p:PV X.Γ}{tp:TV}(hi:Hs[i]? = some (.list k ex ty l))(hl:l≠[])(hc:iF (Ea X ty l)=some KI)(hs:dw P ty=some sz)(hp:pJ p=some tp):a3e X P false (.dG [.own i,p]) Hs (fun n=>.dG [.slc n 0 l.length l.length sz false,tp]) [.cells .last KI]:=fun A m h h1 w hr hw hn=>by
 cases hw with
 |gone hi _ _=>simp[bg]at hi
 |dG a1 a2=>
  rename_i cs';obtain⟨x,r,rfl,v0,v1⟩:=bU.inv (⟨a1,a2⟩:bU X P _ _ _ _ _);obtain⟨y,r,rfl,v2,v3⟩:=v1.inv;have:=v3.inv0;subst this;have:=jE v2 hp;subst this;obtain⟨c,sz',e,kk,rfl,g1,g2,g3,g4⟩:=XC hX hr hi hl hc v0;rw[hs]at g1;cases g1;have pU:=hn c g2;obtain⟨e1,e2⟩:=yg hc;obtain⟨q1,q2,q3⟩:=LW hp;obtain⟨k1,k2⟩:=P6 (h:=h) (h1:=h1) pU fun l=>by rw[g3];exact e1 l
  have e3:PX false (.cells kk KI)=.cells .last KI:=by cases kk<;>first|rfl|exact absurd rfl g4
  unfold Nw;have q4:Kw h.length (.slc h.length 0 l.length l.length sz e)=.slc h.length 0 l.length l.length sz false:=by simp only[Kw,Nat.lt_irrefl,a3x]
  simp only[Bj,Bj.Eo,q1,k1,mX,mX.yS,q2,k2,a1z,C9,g3,uj,e2,TP,q3,q4,a3K,ab9,e3]
theorem aak{H:List (PB X.Γ)}{n sz:Nat}{cs:List (PV X.Γ)}{ts:List TV}(h0:TU cs=some ts){A m h}(hr:HR X P A m H h):∃m1,HR X P A m1 (H++[.mg cs]) (h++[.mg ts])∧VR X P (AA A m1) m1 (h++[.mg ts]) (.slc H.length 0 n n sz false) (.slc h.length 0 n n sz false)∧Fr m h m1 (h++[.mg ts])∧Up m m1:=by
 obtain⟨p1,p2,p3⟩:=hr.push (pb:=.mg cs) (hb:=.mg ts) (mb:=.fP h.length) (.inl rfl) ⟨ts,by simp,h0⟩;exact⟨_,p1,.slc (by rw[<-hr.len];simp),p2,p3⟩
theorem XD{ty sz:Nat}:∀{l:List (X.Γ ty)},(∀(j:Nat) a,l[j]? = some a->(X.enc ty a).length=sz)->(Ea X ty l).length=l.length*sz∧∀(j:Nat) a (i:Nat) c,l[j]? = some a->(X.enc ty a)[i]? = some c->(Ea X ty l)[j*sz+i]? = some c
 | [],_=>⟨by simp[Ea],by simp⟩
 |a::l,he=>by
  obtain⟨h1,h2⟩:=XD (l:=l) fun j b hb=>he (j+1) b (by simpa using hb);have h0:=he 0 a rfl;refine⟨by simp only[Ea,a2m,h0,h1,a3J,a3A,ad9];omega,fun j b i c hb hc=>?_⟩;cases j with
  |zero=>
   simp at hb;subst hb;simp only[Ea,acr,a3E];rw[a0N (a02.1 hc).1];exact hc
  |succ j=>
   simp only[Ea];rw[a1H (by rw[h0,a3A];omega),h0,show(j+1)*sz+i-sz=j*sz+i by rw[a3A];omega];exact h2 j b i c (by simpa using hb) hc
theorem a3g{ty sz:Nat}{l:List (X.Γ ty)}{KI:List TV}{A m h}(he:∀(j:Nat) a,l[j]? = some a->(X.enc ty a).length=sz)(hc:iF (Ea X ty l)=some KI):KI.length=l.length*sz∧dV X P A m h ty l KI 0 sz:=by
 have hv:=Fa (X:=X) (P:=P) (A:=A) (m:=m) (h:=h) hc;obtain⟨h1,h2⟩:=XD he;have hl:KI.length=l.length*sz:=by rw[<-hv.1,h1]
 exact⟨hl,he,by rw[hl];omega,fun j a i c v a1 a2 a3=>hv.2 (j*sz+i) c v (h2 j a i c a1 a2) (by rw[a3E]at a3;exact a3)⟩
theorem aal(hX:bK X P){H:List (PB X.Γ)}{ty sz:Nat}{l:List (X.Γ ty)}{KI:List TV}{p:PV X.Γ}{tp:TV}(hl:l≠[])(hc:iF (Ea X ty l)=some KI)(hs:dw P ty=some sz)(h0:0<sz)(he:∀(j:Nat) a,l[j]? = some a->(X.enc ty a).length=sz)(hp:pJ p=some tp){A m h}(hr:HR X P A m H h) :
  ∃m1,HR X P A m1 (H++[.list false false ty l]) (h++[.cells .last KI])∧VR X P (AA A m1) m1 (h++[.cells .last KI]) (.dG [.own H.length,p]) (.dG [.slc h.length 0 l.length l.length sz false,tp])∧Fr m h m1 (h++[.cells .last KI])∧Up m m1:=by
 obtain⟨p1,p2,p3⟩:=hr.push (pb:=.list false false ty l) (hb:=.cells .last KI) (mb:=.dn (.slc h.length 0 l.length l.length sz false)) (.inl (by simp only[MB.own];rw[a0S (by simpa using hl)])) (by
  obtain⟨r1,r2⟩:=a3g (A:=AA A (m++[MB.dn (.slc h.length 0 l.length l.length sz false)])) (m:=m++[MB.dn (.slc h.length 0 l.length l.length sz false)]) (h:=h++[.cells .last KI]) (P:=P) he hc;exact LR.some (kk:=.last) (cs:=KI) hl hs h0 (by simp) (by simp) (by simp) (by simp) r1 r2)
 exact⟨_,p1,bU.cons (.own (by rw[<-hr.len];simp) rfl) (.cons (nD hp) .nil) |> fun h=>.dG h.1 h.2,p2,p3⟩
end
def eF:Code->Code
 |.seq a _=>a
 |.block _ b=>b
 |.loop b=>b
 |.scope b=>b
 |.cond _ a _=>a
 |c=>c
def eG:Code->Code
 |.seq _ b=>b
 |.cond _ _ b=>b
 |c=>c
def a7q:Code->Array Oper
 |.region _ o _=>o
 |_=>#[]
def SG(P:Program)(f:Nat):FnT:=match Tc P f with
 |some t=>t
 |none=>⟨0,.skip,[]⟩
def UL(ops:Array Oper)(it nx mo:Nat):Bool:=match zV ops with
 |some (a,b,_,o2)=>a==it&&b==nx&&(match o2.op,o2.dst,o2.guard with
  |.extract (.tmp k) 0,some d,none=>k==nx&&d==mo
  |_,_,_=>false)
 |none=>false
theorem a3h{ops:Array Oper}{it nx mo:Nat}(h:UL ops it nx mo=true):∃o1 o2,zV ops=some (it,nx,o1,o2)∧o2.op=.extract (.tmp nx) 0∧o2.dst=some mo∧o2.guard=none:=by
 unfold UL at h;split at h
 .rename_i a b o1 o2 e;simp only[a2r,a7k]at h;obtain⟨⟨rfl,rfl⟩,h⟩:=h;split at h
  .rename_i k d e1 e2 e3;simp only[a2r,a7k]at h;obtain⟨rfl,rfl⟩:=h;exact⟨o1,o2,e,e1,e2,e3⟩
  cases h
 cases h
section
variable {X:kC} {P:Program} {T:qy} {call:aY} {cd:uO} {fH:eU X.Γ} {L f nt B:Nat}
theorem zD(hX:bK X P)(hO:jo X P call fH){c:Code}{ps ps1:aS X.Γ}{an:PT X.Γ}{o:OT (Ex×aS X.Γ)}{e:Ex}(hk:jD X P T fH (aV X P call) (dM X P T call L f false nt B) B L f false nt c ps an ae3=o)(ht:Fp (fun r=>r=(e,ps1)) an o):dM X P T call L f false nt B c ps e ps1:=by
 obtain⟨y,h1,h2⟩:=ht.aO;subst h2;rw[<-hk]at h1;exact Wv hX hO h1
theorem a1r{n j:Nat}{seen:List Nat}(hj:j<n)(hn:j∉seen):((List.range n).filter fun i=>!(j::seen).contains i).length<((List.range n).filter fun i=>!seen.contains i).length:=by
 have e:((List.range n).filter fun i=>!(j::seen).contains i)=((List.range n).filter fun i=>!seen.contains i).filter fun i=>!(i==j):=by
  rw[List.filter_filter];refine List.filter_congr fun i _=>?_;rw[agw];cases i==j<;>simp
 rw[e];refine List.length_filter_lt_length_iff_exists.2 ⟨j,a8e.2 ⟨a3R.2 hj,by simpa using hn⟩,by simp⟩
end
section
variable {X:kC} {P:Program} {T:qy} {call:aY} {cd:uO} {L f nt B:Nat}
theorem aJ.ghost(hX:bK X P){gs:List G}{c:Code}{ps ps1:aS X.Γ}{Q:Ex->aS X.Γ->Prop}(hg:kT B gs ps=some ps1)(h:aJ X P T call cd L f nt B c ps1 Q):aJ X P T call cd L f nt B c ps Q:=fun A W fl m ts R hS hR=>by
 obtain⟨m2,q1,q2,q3⟩:=mF hX hg A W fl m ts hS;exact h A W fl m2 ts R q1 fun e iE ps1 m1 a1 a2 a3 a4=>hR e iE ps1 m1 a1 a2 (q2.trans a3) (q3.trans a4)
theorem P7(hX:bK X P){x:Code}{i0 i1 id it nx mo b r n:Nat}{ops:Array Oper}{draw:Bool}{s0:aS X.Γ}{es:List (PV X.Γ×PV X.Γ)}{Q:aS X.Γ->Prop}(I:List Nat->aS X.Γ->Prop)
  (hnx:UL ops it nx mo=true) (hd:nx<nt) (hd2:mo<nt) (hl:es.length=n) (hL:n<L) (hI:I [] s0)
  (hinv:∀seen s,I seen s->∃gs s',kT B gs (gq X (T.eH f (dR (.seq (.region id ops draw) (.seq (.cond (.tmp mo) .skip (.exit i0)) (.block i1 x))))) s)=some s'∧zI s'.env (.tmp it)=some (.iter b)∧s'.heap[b]? = some (.cu r n seen)∧JD X s'.heap r=some es ∧
   ((∀j,j<n->j∈seen)->zI (iW (T.gZ f id) ((mo,.val (.bool false))::(nx,.val (.dG [.bool false]))::s'.env)) (.tmp mo)=some (.bool false)∧Q { s' with env:=iW (T.gZ f id) ((mo,.val (.bool false))::(nx,.val (.dG [.bool false]))::s'.env) }) ∧
   ∀j e,j∉seen->es[j]? = some e->zI (iW (T.gZ f id) ((mo,.val (.bool true))::(nx,.val (.dG [.bool true,e.1,e.2]))::s'.env)) (.tmp mo)=some (.bool true) ∧
    aJ X P T call cd L f nt B x { s' with env:=iW (T.gZ f id) ((mo,.val (.bool true))::(nx,.val (.dG [.bool true,e.1,e.2]))::s'.env),heap:=s'.heap.set b (.cu r n (j::seen)) } fun e s=>(e=.norm∨e=.exit i1)∧I (j::seen) s) :
  aJ X P T call cd L f nt B (.block i0 (.loop (.seq (.region id ops draw) (.seq (.cond (.tmp mo) .skip (.exit i0)) (.block i1 x))))) s0 fun e s=>e=.norm∧Q s:=by
 obtain⟨o1,o2,hn,h2,h3,h4⟩:=a3h hnx;have skp:∀{s:aS X.Γ} {Q':Ex->aS X.Γ->Prop},Q' .norm s->aJ X P T call cd L f nt B .skip s Q':=fun{s Q'} hq=>by
  intro A W fl m ts R hS hR;simp only[fC];exact⟨_,_,rfl,hR _ _ s m hq hS .refl Up.refl.b⟩
 have ext:∀{i:Nat} {s:aS X.Γ} {Q':Ex->aS X.Γ->Prop},Q' (.exit i) s->aJ X P T call cd L f nt B (.exit i) s Q':=fun{i s Q'} hq=>by
  intro A W fl m ts R hS hR;simp only[fC];exact⟨_,_,rfl,hR _ _ s m hq hS .refl Up.refl.b⟩
 refine aJ.block ?_;refine aJ.loop (fun k s=>∃seen,I seen s∧k=((List.range n).filter fun i=>!seen.contains i).length) (fun k s hi=>?_) (k:=n) ⟨[],hI,by rw[show((List.range n).filter fun i=>!([]:List Nat).contains i)=List.range n from ags.2 fun a _=>rfl,a8r]⟩ hL;obtain⟨seen,hi,rfl⟩:=hi;obtain⟨gs,s',e1,e2,e3,e4,e5,e6⟩:=hinv seen s hi;refine aJ.ghost hX e1 ?_;refine aJ.seq (R:=fun e s=>e=.norm∧(((∀j,j<n->j∈seen)∧s={ s' with env:=iW (T.gZ f id) ((mo,.val (.bool false))::(nx,.val (.dG [.bool false]))::s'.env) })∨∃j e,j∉seen∧es[j]? = some e∧s={ s' with env:=iW (T.gZ f id) ((mo,.val (.bool true))::(nx,.val (.dG [.bool true,e.1,e.2]))::s'.env),heap:=s'.heap.set b (.cu r n (j::seen)) })) ?_ (fun s hs=>?_) (fun i s h=>by cases h.1) (fun s h=>by cases h.1)
 .exact aJ.next hn hd hd2 h2 h3 h4 e2 e3 e4 hl (fun ho=>⟨rfl,.inl ⟨ho,rfl⟩⟩) (fun j e hj he=>⟨rfl,.inr ⟨j,e,hj,he,rfl⟩⟩)
 .obtain⟨_,⟨h5,rfl⟩|⟨j,e,hj,he,rfl⟩⟩:=hs
  .obtain⟨m1,q1⟩:=e5 h5;refine aJ.seq (R:=fun e s=>e=.exit i0∧s={ s' with env:=iW (T.gZ f id) ((mo,.val (.bool false))::(nx,.val (.dG [.bool false]))::s'.env) }) (aJ.cond (t:=false) m1 (ext ⟨rfl,rfl⟩)) (fun s h=>by cases h.1) (fun i s h=>?_) (fun s h=>by cases h.1);obtain⟨h7,rfl⟩:=h;cases h7;dsimp only;rw[a0V rfl];exact⟨rfl,q1⟩
  .obtain⟨m2,hx⟩:=e6 j e hj he;have hjn:j<n:=by rw[<-hl];exact(a02.1 he).1
   refine aJ.seq (R:=fun e1 s=>e1=.norm∧s={ s' with env:=iW (T.gZ f id) ((mo,.val (.bool true))::(nx,.val (.dG [.bool true,e.1,e.2]))::s'.env),heap:=s'.heap.set b (.cu r n (j::seen)) }) (aJ.cond (t:=true) m2 (skp ⟨rfl,rfl⟩)) (fun s h=>?_) (fun i s h=>by cases h.1) (fun s h=>by cases h.1);obtain⟨_,rfl⟩:=h;refine aJ.block ?_;refine hx.mono fun e s h=>?_;obtain⟨h1|h1,h2⟩:=h
   .subst h1;exact⟨_,a1r hjn hj,j::seen,h2,rfl⟩
   .subst h1;dsimp only;rw[a0V rfl];exact⟨_,a1r hjn hj,j::seen,h2,rfl⟩
theorem UM(hX:bK X P){x:Code}{i0 i1 id it nx mo b r n:Nat}{ops:Array Oper}{draw:Bool}{s0:aS X.Γ}{es:List (PV X.Γ×PV X.Γ)}{Q:aS X.Γ->Prop}(I:List Nat->aS X.Γ->Prop)
  (hnx:UL ops it nx mo=true) (hd:nx<nt) (hd2:mo<nt) (hl:es.length=n) (hL:n<L) (hI:I [] s0)
  (hinv:∀seen s,I seen s->∃s',gq X (T.eH f (dR (.seq (.region id ops draw) (.seq (.cond (.tmp mo) .skip (.exit i0)) (.block i1 x))))) s=s'∧zI s'.env (.tmp it)=some (.iter b)∧s'.heap[b]? = some (.cu r n seen)∧JD X s'.heap r=some es ∧
   ((∀j,j<n->j∈seen)->zI (iW (T.gZ f id) ((mo,.val (.bool false))::(nx,.val (.dG [.bool false]))::s'.env)) (.tmp mo)=some (.bool false)∧Q { s' with env:=iW (T.gZ f id) ((mo,.val (.bool false))::(nx,.val (.dG [.bool false]))::s'.env) }) ∧
   ∀j e,j∉seen->es[j]? = some e->zI (iW (T.gZ f id) ((mo,.val (.bool true))::(nx,.val (.dG [.bool true,e.1,e.2]))::s'.env)) (.tmp mo)=some (.bool true) ∧
    aJ X P T call cd L f nt B x { s' with env:=iW (T.gZ f id) ((mo,.val (.bool true))::(nx,.val (.dG [.bool true,e.1,e.2]))::s'.env),heap:=s'.heap.set b (.cu r n (j::seen)) } fun e s=>(e=.norm∨e=.exit i1)∧I (j::seen) s) :
  aJ X P T call cd L f nt B (.block i0 (.loop (.seq (.region id ops draw) (.seq (.cond (.tmp mo) .skip (.exit i0)) (.block i1 x))))) s0 fun e s=>e=.norm∧Q s:=
 P7 hX I hnx hd hd2 hl hL hI fun seen s hi=>let ⟨s',e1,h⟩:=hinv seen s hi;⟨[],s',congrArg some e1,h⟩
end
end Pv
namespace Go.Proofs.YtmobpoiejckagaaGreat
open Go Tw Pv cO
theorem ajY(x:V):Instr.sameBits 10000 (kV.v x) (kV.v x)=true:=by
 show Instr.sameBits 10000 (.agg #[.int .u8 x.f,.int .i64 x.n]) (.agg #[.int .u8 x.f,.int .i64 x.n])=true;simp[Instr.sameBits]
theorem a7r(x:S3):Instr.sameBits 10000 (kS.v x) (kS.v x)=true:=by
 show Instr.sameBits 10000 (.agg #[.int .i64 x.a,.int .i64 x.b,.int .i64 x.c]) (.agg #[.int .i64 x.a,.int .i64 x.b,.int .i64 x.c])=true;simp[Instr.sameBits]
abbrev l7:V:=⟨0,1⟩
def ajZ:eU aF:=bZ 79 (a1 vsA) vA (fun p=>p.getD 0 V0) (fun p=>[0<p.length]) He
theorem aoW:Gd ajZ:=Xo.add fun n hO p hp=>aK hO (.o (aH (hp _ (.head _))) .rr)
def ak0:eU aF:=bZ 89 ae6 vA (fun p=>l7) np ajZ
theorem aoX:Gd ak0:=aoW.add fun n hO p hp=>aK hO .rr
def a7s:eU aF:=bZ 169 (a1 vA) tA (fun p=>decide (p=l7)) np ak0
theorem ak1:Gd a7s:=aoX.add fun n hO p hp=>aK hO (.q (.bool (decide (p=l7))) (eqV (.tmp 3) (.tmp 4) p l7) .rr)
def qg(l:List V):Bool:=l.all fun v=>decide (v=l7)
def nN(l:List V):V:=if qg l=true then l7 else V0
theorem aoY{n:Nat}(hO:Ok n a7s)(l:List V)(hl:l.length<=ah):aV X0 Qp (bP (n+4)) (.fn 168 [] []) [.fn 169 [] [],lV l] [] (tA.put (qg l)) []:=by
 have hs:∀v:V,aV X0 Qp (bP n) (.fn 169 [] []) [.agg v.ps] [] (tA.put (decide (v=l7))) []:=fun v=>nR.Zk hX (first:=[]) (cap:=[]) (hO 169 [.agg v.ps] (tA.put (decide (v=l7))) [] [] (by kernel_rfl) (fun p h=>by cases h)) rfl rfl rfl rfl;have h1:∀v:V,aV X0 Qp (bP (n+1)) (.fn 201 [] [.ptr 0 0 1]) [.agg v.ps] [.cells [.fn 169 [] []]] (tA.put (!(decide (v=l7)))) [.cells [.fn 169 [] []]]:=fun v=>
  iZ fQ (first:=[]) (.fr [] (hs v) .sr)
 have h2:=aep (n:=n+2) (by omega) (f:=201) (a:=[]) (c:=[.ptr 0 0 1]) (H:=[.cells [.fn 169 [] []]]) (g:=fun v=>!(decide (v=l7))) h1 l hl;rw[II]at h2;unfold qg;rw[<-DN l fun v=>decide (v=l7)];exact aV.drop hX (CO hX fQ (first:=[]) (cap:=[]) (H1:=[.cells [.fn 169 [] []]]) (by kernel_rfl) (.k h2 .sr)) rfl rfl
def qx:eU aF:=bZ 117 (a1 vsA) vA nN (fun l=>[l.length<=ah]) a7s
theorem JV:Gd qx:=ak1.deep 4 fun n hn hO l hp=>by
 have hs:=aoY (n:=n-4) (hO (n-4) (by omega)) l (hp _ (.head _));rw[show n-4+4=n by omega]at hs;show nR X0 Qp _ _ _ (vA.put (nN l)) _;unfold nN;exact aK (hO n (by omega)) (.fr [] hs (.ss .rr .rr))
abbrev XE:Code:=(SG Qp 87).body
abbrev Qi:Code:=(SG Qp 136).body
abbrev a7t(J:Jb)(f:Nat):List (Nat×PE aF):=[(2,.val (.nil .map)),(3,.val (.ptr 2 0 1)),(8,.val (.fn 136 [.agg (J.ps (.fn f [] []))] []))]
abbrev LRC(J:Jb)(f:Nat)(rd:Bool)(jA:Option Code):PB aF:=.loop rd 87 (Bz Qp 87) (a7t J f) [9,10] (wP Qp 87) (Am Qp 87) jA
abbrev HQc(J:Jb)(f:Nat)(t:List (V×Int)):List (PB aF):=[.cells (J.ps (.fn f [] [])),.map (kV.im t),.cells [.map 1]]
abbrev Qj(J:Jb)(f:Nat)(rd:Bool)(jA:Option Code)(t:List (V×Int)):List (PB aF):=HQc J f t++[.mark,LRC J f rd jA]
theorem a7u(l:List V):decide (nN l=l7)=qg l:=by
 unfold nN;cases qg l<;>decide
def yT(l:List V)(w:Int)(t:List (V×Int)):List (V×Int):=if qg (l.drop 1)=true then rQ t (l.getD 0 V0) w else t
structure Tal(t:List (V×Int)):Prop where
 nd:(t.map (·.1)).Nodup
 pos:∀e∈t,0<e.2
 bnd:∀e∈t,e.2<=2000
theorem ap0{n:Nat}(hO:Ok n qx)(J:Jb)(f:Nat){t:List (V×Int)}(ht:Tal t)(l:List V){w:Int}(h0:0<l.length)(hl:l.length<=ah)(hw:0<w∧w<=2000):aV X0 Qp (bP (n+1)) (.jZ 4) [lV l,.int .i64 w] (Qj J f true none t) (.bool true) (Qj J f true none (yT l w t)):=by
 have q1:dM X0 Qp T (bP n) LL 87 true (Bz Qp 87) 5 (wP Qp 87) ⟨tX (a7t J f) [9,10] [lV l,.int .i64 w],[],Qj J f true none t⟩ .norm ⟨[(3,.val (.ptr 2 0 1)),(4,.val (lV l)),(5,.val (.int .i64 w))],[],Qj J f true none t⟩:=xZ hX hO (by kernel_rfl) .xx;have i0:gW 0 l.length:=aH h0;have a1:(1:Int)<=l.length:=by omega
 have e1:(l.take l.length)=l:=ab5;have c1:decide (nN ((l.take ((l.length:Int).toNat)).drop (1:Int).toNat)=l7)=qg (l.drop 1):=by
  rw[a7u];simp
 have a2:((l.take ((l.length:Int).toNat)).drop (1:Int).toNat).length<=ah:=by simp;omega
 have ev:=eqV (.tmp 13) (.tmp 14) (nN ((l.take ((l.length:Int).toNat)).drop (1:Int).toNat)) l7;have z01:(0:Int)<=1:=by decide
 have z02:(l.length:Int)<=(l.length:Int):=a8Y _;unfold yT;cases hc:qg (l.drop 1)
 .rw[hc]at c1;rw[a0S (by simp)];have q2:dM X0 Qp T (bP n) LL 87 true (Bz Qp 87) 5 (Am Qp 87) ⟨[(3,.val (.ptr 2 0 1)),(4,.val (lV l)),(5,.val (.int .i64 w))],[],Qj J f false none t⟩ .norm ⟨[(3,.val (.ptr 2 0 1)),(4,.val (lV l)),(5,.val (.int .i64 w)),(15,xl false)],[],Qj J f false none t⟩:=
   xZ hX hO (by kernel_rfl) (.o z01 (.o a1 (.o z02 (.o a2 (.q (.bool (decide (nN ((l.take ((l.length:Int).toNat)).drop (1:Int).toNat)=l7))) ev (.b c1 .xx))))))
  exact GN hX (l:=4) rfl rfl (by kernel_rfl) q1 rfl q2 rfl
 rw[hc]at c1;rw[a0V rfl];by_cases hk:l.getD 0 V0∈t.map (·.1)
 .obtain⟨j,old,g1,g2,g3,g4⟩:=kV.UG (ajY _) ht.nd hk (n:=w) fun e he=>fF (by have:=ht.pos e he;omega) (by have:=ht.bnd e he;omega);have q2:dM X0 Qp T (bP n) LL 87 true (Bz Qp 87) 5 (Am Qp 87) ⟨[(3,.val (.ptr 2 0 1)),(4,.val (lV l)),(5,.val (.int .i64 w))],[],Qj J f false none t⟩ .norm ⟨[],[],[.cells (J.ps (.fn f [] [])),.map (Iu (kV.im t) j (.int .i64 (i64.wrap (old+w)))),.cells [.map 1],.mark,LRC J f false none]⟩:=
   xZ hX hO (by kernel_rfl) (.o z01 (.o a1 (.o z02 (.o a2 (.q (.bool (decide (nN ((l.take ((l.length:Int).toNat)).drop (1:Int).toNat)=l7))) ev (.b c1 (.o i0 (.c (.int .i64 old) [] g1 (.a (.call (.int .i64 old) []) (.a (.ix j) (.o g2 (.o g3 .xx))))))))))))
  rw[g4]at q2;exact GN hX (l:=4) rfl rfl (by kernel_rfl) q1 rfl q2 rfl
 obtain⟨g1,g2,g3,g4⟩:=kV.UH hk (n:=w) (by rw[Int.zero_add];exact fF (by omega) (by omega));have q2:dM X0 Qp T (bP n) LL 87 true (Bz Qp 87) 5 (Am Qp 87) ⟨[(3,.val (.ptr 2 0 1)),(4,.val (lV l)),(5,.val (.int .i64 w))],[],Qj J f false none t⟩ .norm ⟨[],[],[.cells (J.ps (.fn f [] [])),.map (Iu (kV.im t++[(.agg (l.getD 0 V0).ps,.int .i64 0)]) (kV.im t).length (.int .i64 (i64.wrap (0+w)))),.cells [.map 1],.mark,LRC J f false none]⟩:=
  xZ hX hO (by kernel_rfl) (.o z01 (.o a1 (.o z02 (.o a2 (.q (.bool (decide (nN ((l.take ((l.length:Int).toNat)).drop (1:Int).toNat)=l7))) ev (.b c1 (.o i0 (.q (.bool false) g1 (.a .calm (.o (kV.ck (l.getD 0 V0)) (.o g1 (.o g2 (.o g3 .xx)))))))))))))
 have g4:Iu (kV.im t++[(.agg (l.getD 0 V0).ps,.int .i64 0)]) (kV.im t).length (.int .i64 (i64.wrap (0+w)))=kV.im (rQ t (l.getD 0 V0) w):=g4;rw[g4]at q2;exact GN hX (l:=4) rfl rfl (by kernel_rfl) q1 rfl q2 rfl
open Go Tw Pv cO
abbrev HN(J:Jb)(f:Nat)(t:List (V×Int))(now:List (S3×Int)):List (PB aF):=Qj J f true none t++[.map (kS.im now)]
abbrev Zr:Code:=eF (eF (eG (eF (eG (eG Qi)))))
abbrev bB1:Code:=eF (eF (eG (eG Zr)))
abbrev bIB:Code:=eF (eF (eG (eF (eG (eG bB1)))))
abbrev bX:Code:=eF (eG (eG bIB))
abbrev bL2:Code:=eF (eF (eG (eG (eG (eG Qi)))))
abbrev bX2:Code:=eF (eG (eG bL2))
abbrev a3i(J:Jb)(c:Int)(a:Int):List (Nat×PE aF):=[(1,.val (.jZ 4)),(2,.loc 0 0),(6,xi c),(7,.val (.map 6)),(21,xL 3 J.o),(22,xi J.o.length),(23,xi a),(29,.val (.iter 7))]
abbrev HI(J:Jb)(f:Nat)(t:List (V×Int))(now next:List (S3×Int))(seen:List Nat):List (PB aF):=HN J f t now++[.map (kS.im next),.cu 5 now.length seen]
structure NI(J:Jb)(a:Nat)(m:List (S3×Int)):Prop where
 nd:(m.map (·.1)).Nodup
 pos:∀e∈m,0<e.2
 dp:∀e∈m,Dp J a e.1
theorem NI.add{J:Jb}{a:Nat}{m:List (S3×Int)}(h:NI J a m){s:S3}{n:Int}(hs:Dp J a s)(hn:0<n):NI J a (rQ m s n):=
 ⟨Fh h.nd s n,OY hn h.pos,fun e he=>by
  rcases a7d he with e1|⟨e',h1,h2⟩
  .rw[e1];exact hs
  .rw[<-h2];exact h.dp e' h1⟩
theorem AL{κ:Type}[DecidableEq κ](q:Int):∀m:List (κ×Int),dB (fun _=>q) m=dB (fun _=>1) m*q
 | []=>by simp[dB]
 |e::m=>by simp only[dB,AL q m,ag6,ach]
theorem Hu{κ:Type}[DecidableEq κ]:∀{m:List (κ×Int)},(∀e∈m,0<e.2)->0<=dB (fun _=>1) m∧∀e∈m,e.2<=dB (fun _=>1) m
 | [],_=>⟨a8Y _,fun e he=>by cases he⟩
 |x::m,h=>by
  obtain⟨h1,h2⟩:=Hu (m:=m) fun e he=>h e (by simp[he]);have h0:=h x (by simp);simp only[dB,ach];refine⟨by omega,fun e he=>?_⟩;rcases a2t.1 he with rfl|he
  .omega
  have:=h2 e he;omega
theorem a7w{κ:Type}[DecidableEq κ]{m:List (κ×Int)}{q:Nat}(hp:∀e∈m,0<e.2)(hq:1<=q)(hs:dB (fun _=>(q:Int)) m<=2000):∀e∈m,e.2<=2000:=fun e he=>by
 obtain⟨h1,h2⟩:=Hu hp;rw[AL]at hs;have h3:=h2 e he;have:dB (fun _=>1) m<=dB (fun _=>1) m*(q:Int):=by
  have:=a8k (show(1:Int)<=q by omega) h1;omega
 omega
theorem XF{J:Jb}(r:List Int)(m:List (S3×Int)):dB (xC J (fun _=>1) r) m=dB (fun _=>(zJ J r:Int)) m:=by
 induction m with
 |nil=>rfl
 |cons e m ih=>simp only[dB,ih,DW]
theorem DZ{J:Jb}{a:Nat}{r:List Int}{m:List (S3×Int)}(h:NI J a m)(hq:1<=zJ J r){s:S3}{n b:Int}(hn:0<n)(hs:dB (fun _=>(zJ J r:Int)) m+n*(zJ J r:Int)<=b)(hb:b<=2000):n<=2000∧(∀e∈m,e.2<=2000)∧∀e∈m,i64.wrap (e.2+n)=e.2+n:=by
 obtain⟨h1,h2⟩:=Hu h.pos;have h3:0<=dB (fun _=>(zJ J r:Int)) m:=by rw[AL];exact ag4 h1 (by omega)
 have h4:n<=n*(zJ J r:Int):=by
  have:=a8k (show(1:Int)<=zJ J r by omega) (show 0<=n by omega);omega
 have h5:0<=n*(zJ J r:Int):=by omega
 have h6:=a7w h.pos hq (show dB (fun _=>(zJ J r:Int)) m<=2000 by omega);refine⟨by omega,h6,fun e he=>?_⟩;have:=h6 e he;have:=h.pos e he;exact fF (by omega) (by omega)
theorem a1s{now:List (S3×Int)}{j:Nat}{st:S3}{w:Int}(h:now[j]? = some (st,w)):(kS.im now).length=now.length∧(kS.im now)[j]? = some (.agg st.ps,.int .i64 w):=by
 refine⟨kS.oQ now,?_⟩;rw[kS.AB,h];rfl
section
variable {n:Nat} {J:Jb} (hJ:jL J) {f:Nat} (t:List (V×Int)) (now:List (S3×Int)) (seen:List Nat) {a:Nat} {c:Int} {r:List Int} {st:S3} {w:Int} {j:Nat}
abbrev sX(J:Jb)(f:Nat)(t:List (V×Int))(now next:List (S3×Int))(c:Int)(a:Int)(st:S3)(w:Int)(js:List Nat):aS aF:=⟨iW (T.gZ 136 7) ((31,.val (.bool true))::(30,.val (.dG [.bool true,.agg st.ps,.int .i64 w]))::a3i J c a),[J.ps (.fn f [] [])],HI J f t now next js⟩
abbrev sZ(J:Jb)(f:Nat)(t:List (V×Int))(now next:List (S3×Int))(c:Int)(a:Int)(st:S3)(js:List Nat):aS aF:=⟨a3i J c a,[J.ps (.fn f [] []),st.ps],HI J f t now next js⟩
abbrev wDi(J:Jb)(f:Nat)(t:List (V×Int))(now:List (S3×Int))(c:Int)(a:Int)(st:S3)(w:Int)(js:List Nat)(next:List (S3×Int))(i:Int)(x:List (Nat×PE aF)):aS aF:=⟨[(1,.val (.jZ 4)),(2,.loc 0 0),(6,xi c),(7,.val (.map 6)),(8,.loc 1 0),(9,xi w),(21,xL 3 J.o),(22,xi J.o.length),(23,xi a),(29,.val (.iter 7)),(75,xi (J.s.getD c.toNat 0)),(76,xi i)]++x,[J.ps (.fn f [] []),st.ps],HI J f t now next js⟩
include hJ
theorem lDi(hr:J.o.drop a=c::r)(hd:Dp J a st)(hw:0<w){next:List (S3×Int)}(hN:NI J (a+1) next)(hg:¬decide (J.g.getD c.toNat 0>=0)=true)(hb:dB (fun _=>(zJ J r:Int)) next+w*(zJ J (c::r):Int)<=2000)(js:List Nat) :
  ∃next',NI J (a+1) next'∧(∀ψ,dB (xC J ψ r) next'=dB (xC J ψ r) next+w*xC J ψ (c::r) st) ∧
   Ov (n+1) 136 2 5 (wDi J f t now c a st w js next 0 []) (.exit 5) (wDi J f t now c a st w js next' ((J.s.getD c.toNat 0).toNat:Nat) [(77,xl false)]):=by
 obtain⟨aQ,hoc,xg,Gz,hci,rX⟩:=jL.at_ hJ hr;have hz:=hJ.eu.sz _ (dZ (s:=J.s) (k:=c.toNat) (by have:=rX.1;have:=rX.2;omega));have hri:∀c'∈r,gW c' J.s.length:=fun c' h=>(jL.o2 hJ).2.2 c' (by rw[<-xg]at h;exact a5s h);have hq:=(Jf hJ hri).1;have pU:(zJ J (c::r):Int)=((J.s.getD c.toNat 0).toNat:Int)*(zJ J r:Int):=by
  have:(Aw J c).length=(J.s.getD c.toNat 0).toNat:=by unfold Aw;rw[a0S hg];simp
  rw[zJ,this,aeA]
 let g:Nat->List (S3×Int)->List (S3×Int):=fun k y=>rQ y (bJ J.D st c k) w
 have inv:=dW (g:=g) (m:=(J.s.getD c.toNat 0).toNat) (k:=0) (s:=next) (fun k y=>NI J (a+1) y∧∀ψ,dB (xC J ψ r) y=dB (xC J ψ r) next+w*dS (fun(j:Nat)=>xC J ψ r (bJ J.D st c j)) (List.range k)) ⟨hN,fun ψ=>by simp[dS]⟩ (fun k y _ hk hy=>by
  obtain⟨h1,h2⟩:=hy;refine⟨h1.add (lZ hJ hr hd ⟨by omega,by omega⟩) hw,fun ψ=>?_⟩;show dB (xC J ψ r) (rQ y _ w)=_;rw[zy,h2 ψ,ad3,Ho,Int.mul_add];simp only[dS,Int.add_zero];omega)
 rw[a3E]at inv;refine⟨_,inv.1,fun ψ=>by rw[inv.2 ψ,aa9 hg],?_⟩;have bound:∀k y,k<(J.s.getD c.toNat 0).toNat->(∀ψ,dB (xC J ψ r) y=dB (xC J ψ r) next+w*dS (fun(j:Nat)=>xC J ψ r (bJ J.D st c j)) (List.range k))->dB (fun _=>(zJ J r:Int)) y+w*(zJ J r:Int)<=2000:=fun k y hk hy=>by
  have h1:=hy fun _=>1;rw[XF,XF,qh (φ':=fun _=>(zJ J r:Int)) (fun _ _=>DW r _),Az,a8r]at h1;rw[h1];rw[pU]at hb;have h2:((k:Int)+1)*(zJ J r:Int)<=((J.s.getD c.toNat 0).toNat:Int)*(zJ J r:Int):=a8A (by omega) (by omega);have h3:=a8k h2 (show 0<=w by omega);rw[ag6,Int.mul_add,Int.one_mul]at h3;omega
 refine y9 (σ:=List (S3×Int)) (N:=(J.s.getD c.toNat 0).toNat) (g:=g) (s0:=next) (st:=fun i y=>wDi J f t now c a st w js y i []) (fin:=fun y=>wDi J f t now c a st w js y (((J.s.getD c.toNat 0).toNat:Nat):Int) [(77,xl false)]) (fun k y=>NI J (a+1) y∧∀ψ,dB (xC J ψ r) y=dB (xC J ψ r) next+w*dS (fun(j:Nat)=>xC J ψ r (bJ J.D st c j)) (List.range k)) (by kernel_rfl) (by unfold ah;omega) ⟨hN,fun ψ=>by simp[dS]⟩ (fun k y hk hy=>?_) (fun k y hk hy m e p g9=>?_) (fun y _=>?_)
 .obtain⟨h1,h2⟩:=hy;refine⟨h1.add (lZ hJ hr hd ⟨by omega,by omega⟩) hw,fun ψ=>?_⟩;show dB (xC J ψ r) (rQ y _ w)=_;rw[zy,h2 ψ,ad3,Ho,Int.mul_add];simp only[dS,Int.add_zero];omega
 .obtain⟨h1,h2⟩:=hy;obtain⟨b1,b2,b3⟩:=DZ h1 hq (s:=bJ J.D st c k) hw (bound k y hk h2) (a8Y _);have t1:decide ((k:Int)<J.s.getD c.toNat 0)=true:=by rw[a1T];omega
  have ha:=J5 (M:=n) (f:=f) (a:=[]) (cc:=[]) (H:=[]) J st c k hJ.d3 fun i hi=>J7 hJ hd ⟨by omega,by omega⟩ hi;have g9:dI X0 Qp T (bP (n+1)) LL 136 false _ 5 _ m (wDi J f t now c a st w js (rQ y (bJ J.D st c k) w) _ []) e p:=g9;by_cases hk:bJ J.D st c k∈y.map (·.1)
  .obtain⟨jj,old,g1,g2,g3,g4⟩:=kS.UG (a7r _) h1.nd hk (n:=w) b3;unfold wDi HI at g9;rw[<-g4]at g9;exact aN fQ (.b t1 (.fr [] ha (.c (.int .i64 old) [] g1 (.a (.call (.int .i64 old) []) (.a (.ix jj) (.o g2 (.o g3 (.go g9))))))))
  .obtain⟨g1,g2,g3,g4⟩:=kS.UH hk (n:=w) (by rw[Int.zero_add];exact fF (by omega) (by omega));unfold wDi HI at g9;rw[<-g4]at g9;exact aN fQ (.b t1 (.fr [] ha (.q (.bool false) g1 (.a .calm (.o (kS.ck (bJ J.D st c k)) (.o g1 (.o g2 (.o g3 (.go g9)))))))))
 .have t1:decide ((((J.s.getD c.toNat 0).toNat:Nat):Int)<J.s.getD c.toNat 0)=false:=by rw[a3t];omega
  exact aN fQ (.b t1 .ex)
end
open Go Tw Pv cO
abbrev sH(J:Jb)(f:Nat)(t:List (V×Int))(now next:List (S3×Int))(c:Int)(a:Int)(js:List Nat):aS aF:=⟨a3i J c a,[J.ps (.fn f [] [])],HI J f t now next js⟩
section
variable {n:Nat} {J:Jb} (hJ:jL J) {f:Nat} (t:List (V×Int)) (now:List (S3×Int)) (seen:List Nat) {a:Nat} {c:Int} {r:List Int} {st:S3} {w:Int} {j:Nat}
include hJ
theorem ak2(hr:J.o.drop a=c::r)(hd:Dp J a st)(hw:0<w){next:List (S3×Int)}(hN:NI J (a+1) next)(hj:now[j]? = some (st,w))(hb:dB (fun _=>(zJ J r:Int)) next+w*(zJ J (c::r):Int)<=2000) :
  ∃next' e s',NI J (a+1) next'∧(∀ψ,dB (xC J ψ r) next'=dB (xC J ψ r) next+w*xC J ψ (c::r) st)∧(e=.norm∨e=.exit 3) ∧
   dM X0 Qp T (bP (n+1)) LL 136 false (Bz Qp 136) 5 bX (sX J f t now next c a st w (j::seen)) e s' ∧
   gq X0 (T.eH 136 (dR bIB)) s'=sH J f t now next' c a (j::seen):=by
 obtain⟨aQ,hoc,xg,Gz,hci,rX⟩:=jL.at_ hJ hr;have hz:=hJ.eu.sz _ (dZ (s:=J.s) (k:=c.toNat) (by have:=rX.1;have:=rX.2;omega));have hri:∀c'∈r,gW c' J.s.length:=fun c' h=>(jL.o2 hJ).2.2 c' (by rw[<-xg]at h;exact a5s h);have hq:=(Jf hJ hri).1;have hcG:gW c J.g.length:=by rw[hJ.gl];exact rX
 have ho:=a1s hj;by_cases hg:decide (J.g.getD c.toNat 0>=0)=true
 .have hl1:(zJ J (c::r):Int)=zJ J r:=by rw[zJ,Aw,a0V hg];simp
  rw[hl1]at hb;have hgv:0<=J.g.getD c.toNat 0:=by simpa using hg
  have hd2:=lZ hJ hr hd ⟨hgv,hJ.gv c rX hgv⟩;obtain⟨b1,b2,b3⟩:=DZ hN hq (s:=st) hw hb (a8Y _);have ha:=J5 (M:=n) (f:=f) (a:=[]) (cc:=[]) (H:=[]) J st c (J.g.getD c.toNat 0) hJ.d3 fun i hi=>J7 hJ hd ⟨hgv,hJ.gv c rX hgv⟩ hi;refine⟨rQ next (bJ J.D st c (J.g.getD c.toNat 0)) w,.exit 3,sZ J f t now (rQ next (bJ J.D st c (J.g.getD c.toNat 0)) w) c a st (j::seen),hN.add hd2 hw,fun ψ=>by rw[zy,a3b hg],.inr rfl,?_,by kernel_rfl⟩;unfold sZ HI;by_cases hk:bJ J.D st c (J.g.getD c.toNat 0)∈next.map (·.1)
  .obtain⟨jj,old,g1,g2,g3,g4⟩:=kS.UG (a7r _) hN.nd hk (n:=w) b3;rw[<-g4];exact zD hX fQ (by kernel_rfl) (.c (.dG [.agg st.ps,.int .i64 w]) [] ho (.o rX (.o hcG (.b hg (.fr [] ha (.c (.int .i64 old) [] g1 (.a (.call (.int .i64 old) []) (.a (.ix jj) (.o g2 (.o g3 (.r rfl)))))))))))
  .obtain⟨g1,g2,g3,g4⟩:=kS.UH hk (n:=w) (by rw[Int.zero_add];exact fF (by omega) (by omega));rw[<-g4];exact zD hX fQ (by kernel_rfl) (.c (.dG [.agg st.ps,.int .i64 w]) [] ho (.o rX (.o hcG (.b hg (.fr [] ha (.q (.bool false) g1 (.a .calm (.o (kS.ck (bJ J.D st c (J.g.getD c.toNat 0))) (.o g1 (.o g2 (.o g3 (.r rfl))))))))))))
 have hg':decide (J.g.getD c.toNat 0>=0)=false:=by simpa using hg
 have uN:((J.s.getD c.toNat 0).toNat:Int)=J.s.getD c.toNat 0:=by omega
 have pU:(zJ J (c::r):Int)=J.s.getD c.toNat 0*(zJ J r:Int):=by
  have:(Aw J c).length=(J.s.getD c.toNat 0).toNat:=by unfold Aw;rw[a0S hg];simp
  rw[zJ,this,aeA,uN]
 have hs:=a6W (M:=n) (f:=f) (a:=[]) (cc:=[]) (H:=[]) J st c hJ.d3 (fun k hk h=>⟨by simpa using h,(hd k hk).1.1⟩);cases Aq:jH J.D st c
 .rw[Aq]at hs;have hd2:=Uz hJ hr hd Aq;have hm:0<w*J.s.getD c.toNat 0:=Int.mul_pos hw (by omega);rw[pU,<-Int.mul_assoc]at hb;obtain⟨b1,b2,b3⟩:=DZ hN hq (s:=st) hm hb (a8Y _);have hwm:i64.wrap (w*J.s.getD c.toNat 0)=w*J.s.getD c.toNat 0:=fF (by omega) (by omega);refine⟨rQ next st (w*J.s.getD c.toNat 0),.exit 3,sZ J f t now (rQ next st (w*J.s.getD c.toNat 0)) c a st (j::seen),hN.add hd2 hm,fun ψ=>by rw[zy,af6 hg Aq,uN,Int.mul_assoc],.inr rfl,?_,by kernel_rfl⟩;unfold sZ HI;by_cases hk:st∈next.map (·.1)
  .obtain⟨jj,old,g1,g2,g3,g4⟩:=kS.UG (a7r _) hN.nd hk (n:=w*J.s.getD c.toNat 0) b3;rw[<-g4,<-hwm];exact zD hX fQ (by kernel_rfl) (.c (.dG [.agg st.ps,.int .i64 w]) [] ho (.o rX (.o hcG (.b hg' (.fr [] hs (.b (rfl:(!false)=true) (.c (.int .i64 old) [] g1 (.a (.call (.int .i64 old) []) (.a (.ix jj) (.o g2 (.o g3 (.r rfl))))))))))))
  .obtain⟨g1,g2,g3,g4⟩:=kS.UH hk (n:=w*J.s.getD c.toNat 0) (by rw[Int.zero_add];exact hwm);rw[<-g4,<-hwm];exact zD hX fQ (by kernel_rfl) (.c (.dG [.agg st.ps,.int .i64 w]) [] ho (.o rX (.o hcG (.b hg' (.fr [] hs (.b (rfl:(!false)=true) (.q (.bool false) g1 (.a .calm (.o (kS.ck st) (.o g1 (.o g2 (.o g3 (.r rfl)))))))))))))
 .rw[Aq]at hs;obtain⟨next',h1,h2,h3⟩:=lDi (n:=n) hJ (f:=f) t now hr hd hw hN hg hb (j::seen);refine⟨next',.norm,_,h1,h2,.inl rfl,zD (ps1:=wDi J f t now c a st w (j::seen) next' ((J.s.getD c.toNat 0).toNat:Nat) [(77,xl false)]) hX fQ (by kernel_rfl) (.c (.dG [.agg st.ps,.int .i64 w]) [] ho (.o rX (.o hcG (.b hg' (.fr [] hs (.b (rfl:(!true)=false) (.w h3 (.r rfl)))))))),by kernel_rfl⟩
end
end Go.Proofs.YtmobpoiejckagaaGreat
namespace Pv
open Go Tw
section
variable {X:kC} {P:Program} {T:qy} {call:aY} {cd:uO} {L f nt B:Nat}
theorem aJ.AO{a b:Code}{ps s1:aS X.Γ}{Q:Ex->aS X.Γ->Prop}(hn:nM a=true)(ha:dM X P T call L f false nt B a ps .norm s1)(hb:aJ X P T call cd L f nt B b s1 Q):aJ X P T call cd L f nt B (.seq a b) ps Q:=
 aJ.seq (R:=fun e s=>e=.norm∧s=s1) (dM.ZI hn ha ⟨rfl,rfl⟩) (fun s h=>by obtain⟨_,rfl⟩:=h;exact hb) (fun i s h=>by cases h.1) (fun s h=>by cases h.1)
theorem aJ.step{c:Code}{ps:aS X.Γ}{e:Ex}{ps1:aS X.Γ}{Q:Ex->aS X.Γ->Prop}(hn:nM c=true)(ha:dM X P T call L f false nt B c ps e ps1)(hq:Q e ps1):aJ X P T call cd L f nt B c ps Q:=dM.ZI hn ha hq
end
end Pv
namespace Go.Proofs.YtmobpoiejckagaaGreat
open Go Tw Pv cO
theorem JW{α:Type}[DecidableEq α](φ:α->Int)(p:α->Bool):∀l:List α,dS φ l=dS φ (l.filter p)+dS φ (l.filter fun a=>!p a)
 | []=>rfl
 |a::l=>by
  rw[dS,JW φ p l];cases h:p a
  .rw[acM (by simp[h]),acP (by simp[h]),dS];omega
  rw[acP h,acM (by simp[h]),dS];omega
theorem UN{α:Type}[DecidableEq α]{φ:α->Int}:∀{l:List α},(∀a∈l,0<=φ a)->0<=dS φ l
 | [],_=>a8Y _
 |a::l,h=>by
  have:=UN (l:=l) fun b hb=>h b (by simp[hb]);have:=h a (by simp);rw[dS];omega
theorem Jh{n:Nat}{l:List Nat}(hn:l.Nodup)(hl:∀j∈l,j<n):((List.range n).filter fun j=>l.contains j).Perm l:=
 (a7H (List.nodup_range.filter _) hn).2 fun j=>by
  rw[a8e,a3R,List.contains_iff_mem];exact⟨fun h=>h.2,fun h=>⟨hl j h,h⟩⟩
theorem UO{n:Nat}{φ:Nat->Int}{l:List Nat}(hn:l.Nodup)(hl:∀j∈l,j<n)(hp:∀j,j<n->0<=φ j):dS φ l<=dS φ (List.range n):=by
 rw[JW φ (fun j=>l.contains j) (List.range n),Jd φ (Jh hn hl)];have:=UN (φ:=φ) (l:=(List.range n).filter fun j=>!l.contains j) fun j hj=>hp j (a3R.1 (a8e.1 hj).1);omega
theorem P8{n:Nat}{φ:Nat->Int}{l:List Nat}(hn:l.Nodup)(hl:∀j∈l,j<n)(ha:∀j,j<n->j∈l):dS φ l=dS φ (List.range n):=
 (Jd φ ((a7H adI hn).2 fun j=>⟨fun h=>ha j (a3R.1 h),fun h=>a3R.2 (hl j h)⟩)).symm
abbrev nowAt(now:List (S3×Int))(j:Nat):S3×Int:=now.getD j (⟨0,0,0⟩,0)
theorem Hw{φ:S3->Int}(now:List (S3×Int)):dS (fun j=>(nowAt now j).2*φ (nowAt now j).1) (List.range now.length)=dB φ now:=by
 have h1:dB φ now=dS (fun e:S3×Int=>e.2*φ e.1) now:=by
  induction now with
  |nil=>rfl
  |cons e m ih=>simp only[dB,dS,ih]
 have h2:now=(List.range now.length).map fun j=>nowAt now j:=by
  refine(rC (d:=(⟨⟨0,0,0⟩,0⟩:S3×Int)) (by simp)).2 fun k hk=>?_;simp[List.getD,hk]
 rw[h1]
 conv=>rhs;rw[h2]
 rw[zA]
theorem XG{now:List (S3×Int)}{j:Nat}{e:S3×Int}(h:now[j]? = some e):nowAt now j=e∧j<now.length∧e∈now:=by
 obtain⟨h1,h2⟩:=a02.1 h;exact⟨by simp[nowAt,List.getD,h],h1,h2▸a4d h1⟩
section
variable {n:Nat} {J:Jb} (hJ:jL J) {f:Nat} (t:List (V×Int)) (now:List (S3×Int)) {a:Nat} {c:Int} {r:List Int}
def InS(J:Jb)(f:Nat)(t:List (V×Int))(now:List (S3×Int))(a:Nat)(c:Int)(r:List Int)(seen:List Nat)(s:aS aF):Prop:=
 seen.Nodup∧(∀j∈seen,j<now.length)∧∃next,NI J (a+1) next∧(∀ψ,dB (xC J ψ r) next=dS (fun j=>(nowAt now j).2*xC J ψ (c::r) (nowAt now j).1) seen)∧gq X0 (T.eH 136 (dR bIB)) s=sH J f t now next c a seen
structure yh(J:Jb)(a:Nat)(now:List (S3×Int)):Prop where
 i:NI J a now
 s:∀ψ,dB (xC J ψ (J.o.drop a)) now=xC J ψ J.o (fE J.D)
include hJ
theorem afh:(zJ J J.o:Int)<=2000:=by
 have h1:=(Jf hJ (jL.o2 hJ).2.2).2;have hw:=OM hJ.eu.sz hJ.ord;have hm:=hJ.eu.many;omega
theorem LY(h:yh J a now):dB (fun _=>(zJ J (J.o.drop a):Int)) now<=2000:=by
 have:=h.s fun _=>1;rw[XF,DW]at this;have:=afh hJ;omega
theorem XH(a:Nat):1<=zJ J (J.o.drop a):=(Jf hJ fun c hc=>(jL.o2 hJ).2.2 c (a5s hc)).1
theorem a1t(h:yh J a now):now.length<=2000∧∀e∈now,e.2<=2000:=by
 have h1:=a7w h.i.pos (XH hJ a) (LY hJ now h);obtain⟨h2,h3⟩:=Hu h.i.pos;have h4:=LY hJ now h;rw[AL]at h4;have h5:=a8k (show(1:Int)<=zJ J (J.o.drop a) by have:=XH hJ a;omega) h2;have h6:∀{m:List (S3×Int)},(∀e∈m,0<e.2)->(m.length:Int)<=dB (fun _=>1) m:=by
  intro m
  induction m with
  |nil=>intro _;exact a8Y _
  |cons e m ih=>
   intro hp;have:=ih fun e he=>hp e (by simp[he]);have:=hp e (by simp);simp only[dB,a3J,ach];omega
 have:=h6 h.i.pos;exact⟨by omega,h1⟩
set_option maxRecDepth 20000 in
theorem inLoop(hr:J.o.drop a=c::r)(h:yh J a now):aJ X0 Qp T (bP (n+1)) BZ LL 136 (Bz Qp 136) 5 (.block 2 (.loop bIB)) (sH J f t now [] c a [])
  fun e s=>e=.norm∧∃next seen,NI J (a+1) next∧(∀ψ,dB (xC J ψ r) next=dB (xC J ψ (c::r)) now)∧s={ sH J f t now next c a seen with env:=iW (T.gZ 136 7) ((31,.val (.bool false))::(30,.val (.dG [.bool false]))::a3i J c a) }:=by
 have e0:bIB=.seq (.region 7 (a7q (eF bIB)) false) (.seq (.cond (.tmp 31) .skip (.exit 2)) (.block 3 bX)):=by kernel_rfl
 rw[e0];have hlen:=a1t hJ now h;have hlL:(kS.im now).length=now.length:=kS.oQ now;have hql:=(Jf hJ (r:=c::r) fun c' hc=>(jL.o2 hJ).2.2 c' (by rw[<-hr]at hc;exact a5s hc)).1;refine UM hX (n:=now.length) (b:=7) (r:=5) (it:=29) (nx:=30) (mo:=31) (es:=kS.im now) (fun seen s=>InS J f t now a c r seen s) (by kernel_rfl) (a7Q (by kernel_rfl)) (a7Q (by kernel_rfl)) hlL (by unfold LL;omega)
  ⟨a6a,(fun j hj=>(by cases hj)),[],⟨a6a,(fun e he=>(by cases he)),(fun e he=>(by cases he))⟩,(fun ψ=>rfl),(by kernel_rfl)⟩ (fun seen s hi=>?_)
 obtain⟨jk,aQ,next,h1,h2,h3⟩:=hi;rw[<-e0];refine⟨_,h3,by kernel_rfl,by kernel_rfl,by kernel_rfl,fun ho=>⟨by kernel_rfl,next,seen,h1,fun ψ=>?_,rfl⟩,fun j e hj he=>⟨by kernel_rfl,?_⟩⟩
 .rw[h2,P8 jk aQ ho,Hw]
 .rw[kS.AB,a0D]at he;obtain⟨⟨st,w⟩,rM,rfl⟩:=he;obtain⟨q1,q2,q3⟩:=XG rM;have Fq:(j::seen).Nodup:=a3P.2 ⟨hj,jk⟩;have Fv:∀k∈j::seen,k<now.length:=fun k hk=>by
   rcases a2t.1 hk with rfl|hk
   .exact q2
   .exact aQ k hk
  have hb:dB (fun _=>(zJ J r:Int)) next+w*(zJ J (c::r):Int)<=2000:=by
   have e1:=h2 fun _=>1;rw[XF]at e1;have e2:=UO (φ:=fun j=>(nowAt now j).2*xC J (fun _=>1) (c::r) (nowAt now j).1) Fq Fv fun k hk=>by
    have:=h.i.pos _ (gG (d:=(⟨⟨0,0,0⟩,0⟩:S3×Int)) hk);rw[DW];exact ag4 (afx this) (Int.natCast_nonneg _)
   rw[Hw,dS,q1]at e2;have e3:=LY hJ now h;rw[hr]at e3;rw[XF]at e2;have e4:xC J (fun _=>1) (c::r) st=(zJ J (c::r):Int):=DW _ _;simp only[e4]at e2;omega
  obtain⟨next',e',s',g1,g2,g3,g4,g5⟩:=ak2 (n:=n) hJ (f:=f) t now seen (st:=st) (w:=w) (j:=j) hr (h.i.dp _ q3) (h.i.pos _ q3) h1 rM hb;refine aJ.step (by kernel_rfl) g4 ⟨g3,Fq,Fv,next',g1,fun ψ=>?_,g5⟩;rw[g2,h2,dS,q1,agl]
end
open Go Tw Pv cO
abbrev ak4(J:Jb)(a:Int)(x:List (Nat×PE aF)):List (Nat×PE aF):=[(1,.val (.jZ 4)),(2,.loc 0 0),(4,.val (.map 5)),(21,xL 3 J.o),(22,xi J.o.length),(23,xi a)]++x
abbrev UQ(J:Jb)(f:Nat)(t:List (V×Int))(now:List (S3×Int))(a:Int)(x:List (Nat×PE aF)):aS aF:=⟨ak4 J a x,[J.ps (.fn f [] [])],HN J f t now⟩
abbrev ntE:Nat:=Bz Qp 136
abbrev ExE(n:Nat)(c:Code)(s:aS aF)(e:Ex)(s':aS aF):Prop:=dM X0 Qp T (bP (n+1)) LL 136 false ntE 5 c s e s'
abbrev ExD(n:Nat)(c:Code)(s:aS aF)(Q:Ex->aS aF->Prop):Prop:=aJ X0 Qp T (bP (n+1)) BZ LL 136 ntE 5 c s Q
section
variable {n:Nat} {J:Jb} (hJ:jL J) {f:Nat} (t:List (V×Int)) {now:List (S3×Int)} {a:Nat}
include hJ
set_option maxRecDepth 20000 in
theorem afi(h:yh J a now)(aQ:a<J.o.length):ExD n Zr (UQ J f t now a []) fun e s=>e=.norm∧∃Ji,yh J (a+1) Ji∧kT 5 [.gc [6]] (gq X0 (T.eH 136 (dR Zr)) s)=some (UQ J f t Ji ((a+1:Nat):Int) []):=by
 have hr:J.o.drop a=J.o.getD a 0::J.o.drop (a+1):=by
  rw[a7R aQ];simp[List.getD,a0E aQ]
 have QC:J.o.length<=6:=by rw[(jL.o2 hJ).2.1];exact hJ.eu.len
 have t1:decide ((a:Int)<(J.o.length:Int))=true:=bC aQ;have e0:Zr=.seq (eF Zr) (.seq (.cond (.tmp 24) .skip (.exit 0)) (.seq (.block 1 bB1) (eG (eG (eG Zr))))):=by kernel_rfl
 have e1:bB1=.seq (eF bB1) (.seq (eF (eG bB1)) (.seq (.seq (eF (eF (eG (eG bB1)))) (.block 2 (.loop bIB))) (eG (eG (eG bB1))))):=by kernel_rfl
 have x3:ExE n (eF Zr) (UQ J f t now a []) .norm (UQ J f t now a [(24,.val (.bool (decide ((a:Int)<(J.o.length:Int)))))]):=zD hX fQ (by kernel_rfl) (.r rfl);have hc:zI (UQ J f t now a [(24,.val (.bool (decide ((a:Int)<(J.o.length:Int)))))]).env (.tmp 24)=some (.bool true):=by rw[<-t1];kernel_rfl
 have i1:gW (a:Int) J.o.length:=aH aQ;have x4:ExE n (eF bB1) (UQ J f t now a [(24,.val (.bool (decide ((a:Int)<(J.o.length:Int)))))]) .norm ⟨[(1,.val (.jZ 4)),(2,.loc 0 0),(4,.val (.map 5)),(6,xi (J.o.getD a 0)),(21,xL 3 J.o),(22,xi J.o.length),(23,xi a)],[J.ps (.fn f [] [])],HN J f t now⟩:=zD hX fQ (by kernel_rfl) (.o i1 (.r rfl));have x5:ExE n (eF (eG bB1)) ⟨[(1,.val (.jZ 4)),(2,.loc 0 0),(4,.val (.map 5)),(6,xi (J.o.getD a 0)),(21,xL 3 J.o),(22,xi J.o.length),(23,xi a)],[J.ps (.fn f [] [])],HN J f t now⟩ .norm ⟨[(1,.val (.jZ 4)),(2,.loc 0 0),(4,.val (.map 5)),(6,xi (J.o.getD a 0)),(7,.val (.map 6)),(21,xL 3 J.o),(22,xi J.o.length),(23,xi a)],[J.ps (.fn f [] [])],HN J f t now++[.map []]⟩:=zD hX fQ (by kernel_rfl) (.r rfl);have x6:ExE n (eF (eF (eG (eG bB1)))) ⟨[(1,.val (.jZ 4)),(2,.loc 0 0),(4,.val (.map 5)),(6,xi (J.o.getD a 0)),(7,.val (.map 6)),(21,xL 3 J.o),(22,xi J.o.length),(23,xi a)],[J.ps (.fn f [] [])],HN J f t now++[.map []]⟩ .norm ⟨a3i J (J.o.getD a 0) a,[J.ps (.fn f [] [])],HN J f t now++[.map (kS.im []),.cu 5 (kS.im now).length []]⟩:=zD hX fQ (by kernel_rfl) (.r rfl);rw[kS.oQ now]at x6;rw[e0];refine aJ.AO (by kernel_rfl) x3 (aJ.seq (R:=fun e s=>e=.norm∧s=UQ J f t now a [(24,.val (.bool (decide ((a:Int)<(J.o.length:Int)))))]) (aJ.cond (t:=true) hc (aJ.step (by kernel_rfl) (zD hX fQ (an:=.n) (by kernel_rfl) (.r rfl)) ⟨rfl,rfl⟩)) (fun s hs=>?_) (fun i s h=>by cases h.1) (fun s h=>by cases h.1));obtain⟨_,rfl⟩:=hs;refine aJ.seq (R:=fun e s=>e=.norm∧∃next seen,yh J (a+1) next∧s=⟨[(1,.val (.jZ 4)),(2,.loc 0 0),(4,.val (.map 6)),(21,xL 3 J.o),(22,xi J.o.length),(23,xi a)],[J.ps (.fn f [] [])],HI J f t now next seen⟩) ?_ (fun s hs=>?_) (fun i s h=>by cases h.1) (fun s h=>by cases h.1)
 .refine aJ.block ?_;rw[e1];refine(aJ.AO (by kernel_rfl) x4 (aJ.AO (by kernel_rfl) x5 (aJ.seq (R:=fun e s=>e=.norm∧∃next seen,NI J (a+1) next∧(∀ψ,dB (xC J ψ (J.o.drop (a+1))) next=dB (xC J ψ (J.o.getD a 0::J.o.drop (a+1))) now)∧s={ sH J f t now next (J.o.getD a 0) a seen with env:=iW (T.gZ 136 7) ((31,.val (.bool false))::(30,.val (.dG [.bool false]))::a3i J (J.o.getD a 0) a) }) (Q:=fun e s=>e=.norm∧∃next seen,yh J (a+1) next∧s=⟨[(1,.val (.jZ 4)),(2,.loc 0 0),(4,.val (.map 6)),(21,xL 3 J.o),(22,xi J.o.length),(23,xi a)],[J.ps (.fn f [] [])],HI J f t now next seen⟩) (aJ.AO (by kernel_rfl) x6 (inLoop (n:=n) hJ t now hr h)) (fun s hs=>?_) (fun i s h=>by cases h.1) (fun s h=>by cases h.1)))).mono fun e s h=>?_
  .obtain⟨_,next,seen,g1,g2,rfl⟩:=hs;refine aJ.step (by kernel_rfl) (zD (ps1:=⟨[(1,.val (.jZ 4)),(2,.loc 0 0),(4,.val (.map 6)),(21,xL 3 J.o),(22,xi J.o.length),(23,xi a)],[J.ps (.fn f [] [])],HI J f t now next seen⟩) hX fQ (an:=.n) (by kernel_rfl) (.r rfl)) ⟨rfl,next,seen,⟨g1,fun ψ=>?_⟩,rfl⟩;rw[g2,<-hr,h.s]
  obtain⟨rfl,h2⟩:=h;exact⟨rfl,h2⟩
 obtain⟨_,next,seen,g1,rfl⟩:=hs;refine aJ.step (by kernel_rfl) (zD (ps1:=⟨[(1,.val (.jZ 4)),(2,.loc 0 0),(4,.val (.map 6)),(21,xL 3 J.o),(22,xi J.o.length),(23,xi (i64.wrap ((a:Int)+1)))],[J.ps (.fn f [] [])],HI J f t now next seen⟩) hX fQ (an:=.n) (by kernel_rfl) (.r rfl)) ⟨rfl,next,g1,?_⟩;rw[xY (by unfold ah;omega)]
 kernel_rfl
set_option maxRecDepth 20000 in
theorem a7x:ExD n Zr (UQ J f t now J.o.length []) fun e s=>e=.exit 0∧s=UQ J f t now J.o.length [(24,.val (.bool (decide ((J.o.length:Int)<(J.o.length:Int)))))]:=by
 have t1:decide ((J.o.length:Int)<(J.o.length:Int))=false:=fD _;have e0:Zr=.seq (eF Zr) (.seq (.cond (.tmp 24) .skip (.exit 0)) (.seq (.block 1 bB1) (eG (eG (eG Zr))))):=by kernel_rfl
 have x3:ExE n (eF Zr) (UQ J f t now J.o.length []) .norm (UQ J f t now J.o.length [(24,.val (.bool (decide ((J.o.length:Int)<(J.o.length:Int)))))]):=zD hX fQ (by kernel_rfl) (.r rfl);have hc:zI (UQ J f t now J.o.length [(24,.val (.bool (decide ((J.o.length:Int)<(J.o.length:Int)))))]).env (.tmp 24)=some (.bool false):=by rw[<-t1];kernel_rfl
 rw[e0];refine aJ.AO (by kernel_rfl) x3 (aJ.seq (R:=fun e s=>e=.exit 0∧s=UQ J f t now J.o.length [(24,.val (.bool (decide ((J.o.length:Int)<(J.o.length:Int)))))]) (aJ.cond (t:=false) hc (aJ.step (by kernel_rfl) (zD hX fQ (an:=.n) (by kernel_rfl) (.r rfl)) ⟨rfl,rfl⟩)) (fun s hs=>by cases hs.1) (fun i s h=>h) (fun s h=>by cases h.1))
set_option maxRecDepth 20000 in
theorem aan(h:yh J 0 now):ExD n (.block 0 (.loop Zr)) (UQ J f t now 0 []) fun e s=>e=.norm∧∃Ji,yh J J.o.length Ji∧s=UQ J f t Ji J.o.length [(24,.val (.bool (decide ((J.o.length:Int)<(J.o.length:Int)))))]:=by
 have QC:J.o.length<=6:=by rw[(jL.o2 hJ).2.1];exact hJ.eu.len
 refine aJ.block ?_;refine aJ.loop (fun k s=>∃a Ji gs,a+k=J.o.length∧yh J a Ji∧kT 5 gs (gq X0 (T.eH 136 (dR Zr)) s)=some (UQ J f t Ji (a:Int) [])) (fun k s hi=>?_) (k:=J.o.length) ⟨0,now,[],by omega,h,by kernel_rfl⟩ (by unfold LL;omega);obtain⟨a,Ji,gs,hk,h1,h2⟩:=hi;refine aJ.ghost hX h2 ?_;rcases a3L a J.o.length with aQ|Eh
 .refine(afi (n:=n) hJ t h1 aQ).mono fun e s h3=>?_;obtain⟨rfl,ap6,h4,h5⟩:=h3;exact⟨k-1,by omega,a+1,ap6,_,by omega,h4,h5⟩
 have:a=J.o.length:=by omega
 subst this;refine(a7x (n:=n) hJ t).mono fun e s h3=>?_;obtain⟨rfl,rfl⟩:=h3;dsimp only;rw[a0V rfl];exact⟨rfl,Ji,h1,rfl⟩
end
open Go Tw Pv cO
def XI(φ:V->Int)(l:List V):Int:=if qg (l.drop 1)=true then φ (l.getD 0 V0)else 0
theorem afj(φ:V->Int)(l:List V)(w:Int)(t:List (V×Int)):dB φ (yT l w t)=dB φ t+w*XI φ l:=by
 unfold yT XI;cases qg (l.drop 1)
 .rw[a0S (by simp),a0S (by simp)];omega
 rw[a0V rfl,a0V rfl,zy]
abbrev sH2(J:Jb)(f:Nat)(t:List (V×Int))(now:List (S3×Int))(seen:List Nat):aS aF:=⟨[(1,.val (.jZ 4)),(2,.loc 0 0),(94,.val (.iter 6))],[J.ps (.fn f [] [])],Qj J f true none t++[.map (kS.im now),.cu 5 now.length seen]⟩
structure Zt(t:List (V×Int)):Prop where
 nd:(t.map (·.1)).Nodup
 pos:∀e∈t,0<e.2
theorem Zt.y{t:List (V×Int)}(h:Zt t)(l:List V){w:Int}(hw:0<w):Zt (yT l w t):=by
 unfold yT;split
 .exact⟨Fh h.nd _ _,OY hw h.pos⟩
 exact h
section
variable {n:Nat} {J:Jb} (hJ:jL J) {f:Nat} {now:List (S3×Int)}
def ap7(J:Jb)(f:Nat)(now:List (S3×Int))(seen:List Nat)(s:aS aF):Prop:=
 seen.Nodup∧(∀j∈seen,j<now.length)∧∃t,Zt t∧(∀φ,dB φ t=dS (fun j=>(nowAt now j).2*XI φ (aT J.D (nowAt now j).1)) seen)∧gq X0 (T.eH 136 (dR bL2)) s=sH2 J f t now seen
theorem ak5(l:List V):0<=XI (fun _=>1) l∧XI (fun _=>1) l<=1:=by
 unfold XI;split<;>simp
include hJ
theorem afk(h:yh J J.o.length now){seen:List Nat}(jk:seen.Nodup)(aQ:∀j∈seen,j<now.length){t:List (V×Int)}(ht:Zt t)(hs:∀φ,dB φ t=dS (fun j=>(nowAt now j).2*XI φ (aT J.D (nowAt now j).1)) seen):Tal t:=by
 refine⟨ht.nd,ht.pos,fun e he=>?_⟩;have h1:=(Hu ht.pos).2 e he;have hp:∀j,j<now.length->0<(nowAt now j).2:=fun k hk=>h.i.pos _ (gG (d:=(⟨⟨0,0,0⟩,0⟩:S3×Int)) hk);have h2:=UO (φ:=fun j=>(nowAt now j).2*XI (fun _=>1) (aT J.D (nowAt now j).1)) jk aQ fun k hk=>ag4 (afx (hp k hk)) (ak5 _).1;have h3:dS (fun j=>(nowAt now j).2*XI (fun _=>1) (aT J.D (nowAt now j).1)) (List.range now.length)<=dS (fun j=>(nowAt now j).2*1) (List.range now.length):=by
  have:∀l:List Nat,(∀j∈l,j<now.length)->dS (fun j=>(nowAt now j).2*XI (fun _=>1) (aT J.D (nowAt now j).1)) l<=dS (fun j=>(nowAt now j).2*1) l:=by
   intro l
   induction l with
   |nil=>intro _;exact a8Y _
   |cons j l ih=>
    intro hl;have:=ih fun k hk=>hl k (by simp[hk]);have:=a8k (ak5 (aT J.D (nowAt now j).1)).2 (afx (hp j (hl j (by simp))));simp only[dS];omega
  exact this _ fun j hj=>a3R.1 hj
 rw[Hw (φ:=fun _=>1)]at h3;have h4:=LY hJ now h;rw[List.drop_length]at h4;have h4:dB (fun _=>1) now<=2000:=h4;rw[<-hs]at h2;omega
set_option maxRecDepth 20000 in
theorem a3j(hO:Ok n qx)(h:yh J J.o.length now)(hD:0<J.D.length):aJ X0 Qp T (bP (n+1)) BZ LL 136 ntE 5 (.block 7 (.loop bL2)) (sH2 J f [] now [])
  fun e s=>e=.norm∧∃t seen,Zt t∧(∀φ,dB φ t=dB (fun st=>XI φ (aT J.D st)) now)∧s={ sH2 J f t now seen with env:=iW (T.gZ 136 23) ((96,.val (.bool false))::(95,.val (.dG [.bool false]))::(sH2 J f t now seen).env) }:=by
 have e0:bL2=.seq (.region 23 (a7q (eF bL2)) false) (.seq (.cond (.tmp 96) .skip (.exit 7)) (.block 8 bX2)):=by kernel_rfl
 rw[e0];have hlen:=a1t hJ now h;refine UM hX (n:=now.length) (b:=6) (r:=5) (it:=94) (nx:=95) (mo:=96) (es:=kS.im now) (fun seen s=>ap7 J f now seen s) (by kernel_rfl) (a7Q (by kernel_rfl)) (a7Q (by kernel_rfl)) (kS.oQ now) (by unfold LL;omega)
  ⟨a6a,(fun j hj=>(by cases hj)),[],⟨a6a,(fun e he=>(by cases he))⟩,(fun φ=>rfl),(by kernel_rfl)⟩ (fun seen s hi=>?_)
 obtain⟨jk,aQ,t,h1,h2,h3⟩:=hi;rw[<-e0];refine⟨_,h3,by kernel_rfl,by kernel_rfl,by kernel_rfl,fun ho=>⟨by kernel_rfl,t,seen,h1,fun φ=>?_,rfl⟩,fun j e hj he=>⟨by kernel_rfl,?_⟩⟩
 .rw[h2,P8 jk aQ ho,Hw (φ:=fun st=>XI φ (aT J.D st))]
 .rw[kS.AB,a0D]at he;obtain⟨⟨st,w⟩,rM,rfl⟩:=he;obtain⟨q1,q2,q3⟩:=XG rM;have Fq:(j::seen).Nodup:=a3P.2 ⟨hj,jk⟩;have Fv:∀k∈j::seen,k<now.length:=fun k hk=>by
   rcases a2t.1 hk with rfl|hk
   .exact q2
   .exact aQ k hk
  have ho:=a1s rM;have pU:(aT J.D st).length=J.D.length:=by simp[aT]
  have hw:=h.i.pos _ q3;have hc:=a1l (M:=n) (f:=f) J st hJ.d3 fun k hk=>(J8 hJ (h.i.dp _ q3) hk).2;have hd3:=hJ.d3;have hy:=ap0 (n:=n) hO J f (afk hJ h jk aQ h1 h2) (aT J.D st) (w:=w) (by omega) (by unfold ah;omega) ⟨hw,hlen.2 _ q3⟩;refine aJ.step (e:=.norm) (by kernel_rfl) (zD (ps1:=⟨[(1,.val (.jZ 4)),(2,.loc 0 0),(94,.val (.iter 6)),(106,xl false)],[J.ps (.fn f [] []),st.ps],Qj J f true none (yT (aT J.D st) w t)++[.map (kS.im now),.cu 5 now.length (j::seen)]⟩) hX fQ (by kernel_rfl) (.c (.dG [.agg st.ps,.int .i64 w]) [] ho (.fr [] hc (.fr [0,1,2,3,4] hy (.b (rfl:(!true)=false) (.r rfl)))))) ⟨.inl rfl,Fq,Fv,yT (aT J.D st) w t,h1.y _ hw,fun φ=>?_,by kernel_rfl⟩;rw[afj,h2,dS,q1,agl]
def a7y(J:Jb)(t:List (V×Int)):Prop:=Zt t∧∀φ,dB φ t=dS (fun q=>XI φ (J.D.map fun d=>wK d q)) (Eb J)
omit hJ in
theorem a3k(hJ:jL J):yh J 0 [(fE J.D,1)]:=by
 refine⟨⟨by simp,fun e he=>?_,fun e he=>?_⟩,fun ψ=>?_⟩
 .rw[a2J.1 he];show(0:Int)<1;decide
 .rw[a2J.1 he];exact Xy hJ
 simp[dB]
set_option maxRecDepth 20000 in
theorem ak6(hO:Ok n qx)(hD:0<J.D.length):aai X0 Qp (uH Qp T (bP (n+1)) LL) (.fn 136 [.agg (J.ps (.fn f [] []))] []) [.jZ 4] (Qj J f true none []) fun v H1=>∃(t:List (V×Int)) (G:List (PB aF)),a7y J t∧H1=Qj J f true none t++G:=by
 refine a1q (t:=SG Qp 136) hX (by kernel_rfl) ?_;have e0:(SG Qp 136).body=.seq (eF Qi) (.seq (eF (eG Qi)) (.seq (.seq (eF (eF (eG (eG Qi)))) (.block 0 (.loop Zr))) (.seq (eF (eG (eG (eG Qi)))) (.block 7 (.loop bL2))))):=by kernel_rfl
 rw[e0];have hs:=Zl (M:=n) (f:=f) (a:=[]) (cc:=[]) (H:=[]) J hJ.d3;have hf:ny X0 Qp 148 (kS.es []) (kS.tv (fE J.D)):=kS.fresh (x:=fE J.D) (by simp);have x0:ExE n (eF Qi) ⟨kL X0 0 [.agg (J.ps (.fn f [] [])),.jZ 4],[],Qj J f true none []⟩ .norm ⟨[(1,.val (.jZ 4)),(2,.loc 0 0)],[J.ps (.fn f [] [])],Qj J f true none []⟩:=zD hX fQ (an:=.n) (by kernel_rfl) (.r rfl);have x1:ExE n (eF (eG Qi)) ⟨[(1,.val (.jZ 4)),(2,.loc 0 0)],[J.ps (.fn f [] [])],Qj J f true none []⟩ .norm ⟨[(1,.val (.jZ 4)),(2,.loc 0 0),(4,.val (.map 5))],[J.ps (.fn f [] [])],HN J f [] [(fE J.D,1)]⟩:=zD hX fQ (by kernel_rfl) (.fr [] hs (.q (.bool false) (kS.ck (fE J.D)) (.o hf (.r rfl))));have x2:ExE n (eF (eF (eG (eG Qi)))) ⟨[(1,.val (.jZ 4)),(2,.loc 0 0),(4,.val (.map 5))],[J.ps (.fn f [] [])],HN J f [] [(fE J.D,1)]⟩ .norm (UQ J f [] [(fE J.D,1)] 0 []):=zD hX fQ (an:=.n) (by kernel_rfl) (.r rfl);refine aJ.AO (by kernel_rfl) x0 (aJ.AO (by kernel_rfl) x1 (aJ.seq (R:=fun e s=>e=.norm∧∃Ji,yh J J.o.length Ji∧s=UQ J f [] Ji J.o.length [(24,.val (.bool (decide ((J.o.length:Int)<(J.o.length:Int)))))]) (aJ.AO (by kernel_rfl) x2 (aan (n:=n) hJ [] (a3k hJ))) (fun s h=>?_) (fun i s h=>by cases h.1) (fun s h=>by cases h.1)));obtain⟨_,now,h1,rfl⟩:=h;have x3:ExE n (eF (eG (eG (eG Qi)))) (UQ J f [] now J.o.length [(24,.val (.bool (decide ((J.o.length:Int)<(J.o.length:Int)))))]) .norm ⟨[(1,.val (.jZ 4)),(2,.loc 0 0),(94,.val (.iter 6))],[J.ps (.fn f [] [])],Qj J f true none []++[.map (kS.im now),.cu 5 (kS.im now).length []]⟩:=zD hX fQ (an:=.n) (by kernel_rfl) (.r rfl);rw[kS.oQ now]at x3;refine aJ.AO (by kernel_rfl) x3 ((a3j hJ hO h1 hD).mono fun e s h=>?_);obtain⟨rfl,t,seen,g1,g2,rfl⟩:=h;refine⟨.inl rfl,[],by kernel_rfl,t,[.map (kS.im now),.cu 5 now.length seen],⟨g1,fun φ=>?_⟩,rfl⟩;rw[g2];have:=h1.s fun st=>XI φ (aT J.D st);rw[List.drop_length]at this;rw[<-aac hJ (XI φ)];exact this
end
open Go Tw Pv cO
def UR(J:Jb):List (List V):=(Eb J).map fun q=>J.D.map fun d=>wK d q
def nO(J:Jb):List V:=((UR J).filter fun l=>qg (l.drop 1)).map fun l=>l.getD 0 V0
abbrev XJ(e:V×Int):List Int:=QM e.1.tv
def dF(J:Jb):List (V×Int):=yU XJ (Au (nO J))
theorem a1u(φ:V->Int):∀L:List (List V),dS (XI φ) L=dS φ ((L.filter fun l=>qg (l.drop 1)).map fun l=>l.getD 0 V0)
 | []=>rfl
 |l::L=>by
  rw[dS,a1u φ L];unfold XI;cases h:qg (l.drop 1)
  .rw[a0S (by simp),acM (by rw[h];simp)];omega
  rw[a0V rfl,acP (by rw[h]),a3K,dS]
theorem key_inj{l:List (V×Int)}(hn:(l.map (·.1)).Nodup):∀a∈l,∀b∈l,XJ a=XJ b->a=b:=fun a ha b hb h=>by
 have h1:a.1=b.1:=by
  have h:[a.1.f,a.1.n]=[b.1.f,b.1.n]:=h;simp only[aeS,and_true]at h;obtain⟨⟨a1,a2⟩,_⟩:=a;obtain⟨⟨b1,b2⟩,_⟩:=b;simp only at h;rw[h.1,h.2]
 have h2:=DV hn ha;have h3:=DV hn hb;rw[h1,h3]at h2;exact acL h1 h2.symm
theorem a7z{J:Jb}{t:List (V×Int)}(h:a7y J t):t.Perm (Au (nO J)):=by
 obtain⟨f1,f2⟩:=Fj (nO J);refine UD h.1.nd f1 h.1.pos f2 fun φ=>?_;rw[h.2,Sr];unfold nO;rw[<-a1u];unfold UR;rw[zA]
theorem a7A{J:Jb}{t:List (V×Int)}(h:a7y J t):yU XJ t=dF J:=EC (a7z h) (key_inj h.1.nd)
abbrev aao(e:V×Int):TV×TV:=(e.1.tv,.int .i64 e.2)
theorem UU:∀t:List (V×Int),wR (kV.im t)=some (t.map aao)
 | []=>rfl
 |e::t=>by
  have:=UU t;show(match pJ (kV.pv e.1),pJ (PV.int .i64 e.2:PV aF),wR (kV.im t)with
   |some k,some v,some r=>some ((k,v)::r)
   |_,_,_=>none)=_
  rw[this];rfl
section
variable {n:Nat} {J:Jb} (hJ:jL J) {f:Nat}
include hJ
set_option maxRecDepth 20000 in
theorem P9(hO:Ok n qx)(hD:0<J.D.length):aV X0 Qp (bP (n+2)) (.fn 87 [] []) [.agg (J.ps (.fn f [] []))] [] (.map 0) [.map (kV.im (dF J))]:=by
 refine a7n (X:=X0) (P:=Qp) (T:=T) (L:=LL) (n:=n+1) (f:=87) (first:=[]) (cap:=[]) (H:=[]) (t:=SG Qp 87) (es0:=kV.im (dF J)) (a3f:=(dF J).map aao) hX (by kernel_rfl) (by kernel_rfl) (by kernel_rfl) rfl (UU _) ?_;have e0:(SG Qp 87).body=.seq (eF XE) (.seq (eF (eG XE)) (.seq (.seq (eF (eF (eG (eG XE)))) (.block 0 (.rangeFunc (.tmp 8) #[9,10] (wP Qp 87) (Am Qp 87)))) (.seq (eF (eG (eG (eG XE)))) .ret))):=by kernel_rfl
 rw[e0];have x0:dM X0 Qp T (bP (n+1)) LL 87 false (Bz Qp 87) 0 (eF XE) ⟨kL X0 0 [.agg (J.ps (.fn f [] []))],[],[]⟩ .norm ⟨[(1,.val (.ptr 0 0 5)),(2,.val (.nil .map))],[],[.cells (J.ps (.fn f [] []))]⟩:=zD hX fQ (an:=.n) (by kernel_rfl) (.r rfl);have x1:dM X0 Qp T (bP (n+1)) LL 87 false (Bz Qp 87) 0 (eF (eG XE)) ⟨[(1,.val (.ptr 0 0 5)),(2,.val (.nil .map))],[],[.cells (J.ps (.fn f [] []))]⟩ .norm ⟨[(1,.val (.ptr 0 0 5)),(2,.val (.nil .map)),(3,.val (.ptr 2 0 1))],[],HQc J f []⟩:=zD hX fQ (an:=.n) (by kernel_rfl) (.r rfl);have x2:dM X0 Qp T (bP (n+1)) LL 87 false (Bz Qp 87) 0 (eF (eF (eG (eG XE)))) ⟨[(1,.val (.ptr 0 0 5)),(2,.val (.nil .map)),(3,.val (.ptr 2 0 1))],[],HQc J f []⟩ .norm ⟨a7t J f,[],HQc J f []⟩:=zD hX fQ (an:=.n) (by kernel_rfl) (.r rfl);refine aJ.AO (by kernel_rfl) x0 (aJ.AO (by kernel_rfl) x1 (aJ.seq (R:=fun e s=>e=.norm∧∃(t:List (V×Int)) (G:List (PB aF)),a7y J t∧s=⟨a7t J f,[],Qj J f false (some .skip) t++G⟩) (aJ.AO (by kernel_rfl) x2 (aJ.block ?_)) (fun s h=>?_) (fun i s h=>by cases h.1) (fun s h=>by cases h.1)))
 .refine aJ.range (f1:=136) (a1:=[.agg (J.ps (.fn f [] []))]) (b1:=[]) (K:=fun v H1=>∃(t:List (V×Int)) (G:List (PB aF)),a7y J t∧H1=Qj J f true none t++G) hX rfl (by kernel_rfl) (by kernel_rfl) (ak6 hJ hO hD) (fun v H1 hk=>?_);obtain⟨t,G,h1,rfl⟩:=hk;exact⟨true,_,_,_,_,_,_,none,.norm,rfl,rfl,rfl,t,G,h1,rfl⟩
 obtain⟨_,t,G,h1,rfl⟩:=h;have x3:dM X0 Qp T (bP (n+1)) LL 87 false (Bz Qp 87) 0 (.seq (eF (eG (eG (eG XE)))) .ret) ⟨a7t J f,[],Qj J f false (some .skip) t++G⟩ .ret ⟨[(2,.val (.map 1))],[],Qj J f false (some .skip) t++G⟩:=zD hX fQ (an:=.n) (by kernel_rfl) (.r rfl);refine aJ.step (by kernel_rfl) x3 ⟨.inr rfl,[.map 1],by kernel_rfl,1,kV.im t,t.map aao,rfl,rfl,UU t,?_⟩;unfold QO;rw[Sz (g:=aao) (key:=XJ) (a7e:=fun e=>QM e.1) (fun _=>rfl),a7A h1]
end
open Go Tw Pv cO
abbrev Pg(t:List (V×Int))(j:Nat):V×Int:=t.getD j (V0,0)
theorem UW{t:List (V×Int)}{j:Nat}{e:V×Int}(h:t[j]? = some e):Pg t j=e∧j<t.length∧e∈t:=by
 obtain⟨h1,h2⟩:=a02.1 h;exact⟨by simp[Pg,List.getD,h],h1,h2▸a4d h1⟩
theorem afl(t:List (V×Int)):t=(List.range t.length).map fun j=>Pg t j:=
 (rC (d:=((V0,0):V×Int)) (by simp)).2 fun k hk=>by simp[List.getD,hk]
theorem XK(t:List (V×Int)):dS (fun j=>(Pg t j).2) (List.range t.length)=dB (fun _=>1) t:=by
 have h1:dB (fun _=>1) t=dS (fun e:V×Int=>e.2) t:=by
  induction t with
  |nil=>rfl
  |cons e m ih=>simp only[dB,dS,ih,ach]
 rw[h1]
 conv=>rhs;rw[afl t]
 rw[zA]
theorem AP{t:List (V×Int)}{j:Nat}{v:V}{w:Int}(h:t[j]? = some (v,w)):(kV.im t).length=t.length∧(kV.im t)[j]? = some (.agg v.ps,.int .i64 w):=by
 refine⟨kV.oQ t,?_⟩;rw[kV.AB,h];rfl
structure Jj(t:List (V×Int)):Prop where
 pos:∀e∈t,0<e.2
 tot:dB (fun _=>1) t<=2000
theorem Jj.len{t:List (V×Int)}(h:Jj t):t.length<=2000:=by
 have h6:∀{m:List (V×Int)},(∀e∈m,0<e.2)->(m.length:Int)<=dB (fun _=>1) m:=by
  intro m
  induction m with
  |nil=>intro _;exact a8Y _
  |cons e m ih=>
   intro hp;have:=ih fun e he=>hp e (by simp[he]);have:=hp e (by simp);simp only[dB,a3J,ach];omega
 have:=h6 h.pos;have:=h.tot;omega
abbrev a3l:Code:=(SG Qp 90).body
abbrev lpA:Code:=eF (eF (eG (eF (eG a3l))))
abbrev xA:Code:=eF (eG (eG lpA))
abbrev sA(t:List (V×Int))(z:Int)(js:List Nat):aS aF:=⟨[(2,xi z),(6,.val (.iter 1))],[],[.iy (kV.im t),.cu 0 t.length js]⟩
section
variable {n:Nat} {t:List (V×Int)}
set_option maxRecDepth 20000 in
theorem ap8(h:Jj t):aV X0 Qp (bP (n+1)) (.fn 90 [] []) [.map 0] [.iy (kV.im t)] (.int .i64 (dB (fun _=>1) t)) [.iy (kV.im t)]:=by
 refine aaj (X:=X0) (P:=Qp) (T:=T) (L:=LL) (n:=n) (f:=90) (first:=[]) (cap:=[]) (xs:=[.map 0]) (H:=[.iy (kV.im t)]) (v:=.int .i64 (dB (fun _=>1) t)) (t:=SG Qp 90) (tv:=.int .i64 (dB (fun _=>1) t)) hX (by kernel_rfl) (by kernel_rfl) (by kernel_rfl) rfl rfl ?_;have e0:(SG Qp 90).body=.seq (eF a3l) (.seq (.seq (eF (eF (eG a3l))) (.block 0 (.loop lpA))) (.seq (eF (eG (eG a3l))) .ret)):=by kernel_rfl
 have e1:lpA=.seq (.region 2 (a7q (eF lpA)) false) (.seq (.cond (.tmp 8) .skip (.exit 0)) (.block 1 xA)):=by kernel_rfl
 have x0:dM X0 Qp T (bP n) LL 90 false (Bz Qp 90) 1 (eF a3l) ⟨kL X0 0 [.map 0],[],[.iy (kV.im t)]⟩ .norm ⟨[(0,.val (.map 0)),(2,xi 0)],[],[.iy (kV.im t)]⟩:=zD hX fQ (an:=.n) (by kernel_rfl) (.r rfl);have x1:dM X0 Qp T (bP n) LL 90 false (Bz Qp 90) 1 (eF (eF (eG a3l))) ⟨[(0,.val (.map 0)),(2,xi 0)],[],[.iy (kV.im t)]⟩ .norm ⟨[(2,xi 0),(6,.val (.iter 1))],[],[.iy (kV.im t),.cu 0 (kV.im t).length []]⟩:=zD hX fQ (an:=.n) (by kernel_rfl) (.r rfl);rw[kV.oQ t]at x1;have hlen:=h.len;have hpj:∀j,j<t.length->0<(Pg t j).2:=fun k hk=>h.pos _ (gG (d:=((V0,0):V×Int)) hk);rw[e0];refine aJ.AO (by kernel_rfl) x0 (aJ.seq (R:=fun e s=>e=.norm∧∃seen,s={ sA t (dB (fun _=>1) t) seen with env:=iW (T.gZ 90 2) ((8,.val (.bool false))::(7,.val (.dG [.bool false]))::(sA t (dB (fun _=>1) t) seen).env) }) (aJ.AO (by kernel_rfl) x1 ?_) (fun s hs=>?_) (fun i s h=>by cases h.1) (fun s h=>by cases h.1))
 .rw[e1];refine UM hX (n:=t.length) (b:=1) (r:=0) (it:=6) (nx:=7) (mo:=8) (es:=kV.im t) (fun seen s=>seen.Nodup∧(∀j∈seen,j<t.length)∧gq X0 (T.eH 90 (dR lpA)) s=sA t (dS (fun j=>(Pg t j).2) seen) seen) (by kernel_rfl) (a7Q (by kernel_rfl)) (a7Q (by kernel_rfl)) (kV.oQ t) (by unfold LL;omega)
   ⟨a6a,(fun j hj=>(by cases hj)),(by kernel_rfl)⟩ (fun seen s hi=>?_)
  obtain⟨jk,aQ,h3⟩:=hi;rw[<-e1];refine⟨_,h3,by kernel_rfl,by kernel_rfl,by kernel_rfl,fun ho=>⟨by kernel_rfl,seen,?_⟩,fun j e hj he=>⟨by kernel_rfl,?_⟩⟩
  .rw[P8 jk aQ ho,XK]
  rw[kV.AB,a0D]at he;obtain⟨⟨v,w⟩,rM,rfl⟩:=he;obtain⟨q1,q2,q3⟩:=UW rM;have Fq:(j::seen).Nodup:=a3P.2 ⟨hj,jk⟩;have Fv:∀k∈j::seen,k<t.length:=fun k hk=>by
   rcases a2t.1 hk with rfl|hk
   .exact q2
   exact aQ k hk
  have hb:=UO (φ:=fun j=>(Pg t j).2) Fq Fv fun k hk=>afx (hpj k hk);have zG:=UN (φ:=fun j=>(Pg t j).2) (l:=seen) fun k hk=>afx (hpj k (aQ k hk));rw[XK,dS,q1]at hb;have ht:=h.tot;have hw:=h.pos _ q3;have XV:i64.wrap (dS (fun j=>(Pg t j).2) seen+w)=dS (fun j=>(Pg t j).2) (j::seen):=by
   rw[fF (by have:(0:Int)<w:=hw;omega) (by have:w+dS (fun j=>(Pg t j).2) seen<=dB (fun _=>1) t:=hb;omega),dS,q1,agl]
  refine aJ.step (e:=.norm) (by kernel_rfl) (zD (ps1:=⟨[(2,xi (i64.wrap (dS (fun j=>(Pg t j).2) seen+w))),(6,.val (.iter 1))],[],[.iy (kV.im t),.cu 0 t.length (j::seen)]⟩) hX fQ (by kernel_rfl) (.c (.dG [.agg v.ps,.int .i64 w]) [] (AP rM) (.r rfl))) ⟨.inl rfl,Fq,Fv,?_⟩;rw[XV]
  kernel_rfl
 obtain⟨_,seen,rfl⟩:=hs;exact aJ.step (by kernel_rfl) (zD (e:=.ret) (ps1:=⟨[(2,xi (dB (fun _=>1) t))],[],[.iy (kV.im t),.cu 0 t.length seen]⟩) hX fQ (an:=.n) (by kernel_rfl) (.r rfl)) ⟨.inr rfl,[.int .i64 (dB (fun _=>1) t)],by kernel_rfl,rfl⟩
end
open Go Tw Pv cO
abbrev Zu:Code:=(SG Qp 88).body
abbrev lpB:Code:=eF (eF (eG (eF (eG Zu))))
abbrev xB:Code:=eF (eG (eG lpB))
def Di(t:List (V×Int))(js:List Nat):List Int:=(js.reverse.filter fun j=>!decide ((Pg t j).1.f>0)).map fun j=>(Pg t j).1.n
def fOf(t:List (V×Int))(js:List Nat):Bool:=js.any fun j=>decide ((Pg t j).1.f>0)
theorem a3m(t:List (V×Int))(j:Nat)(js:List Nat):Di t (j::js)=Di t js++(if decide ((Pg t j).1.f>0)=true then []else [(Pg t j).1.n]):=by
 unfold Di;rw[List.reverse_cons,List.filter_append,a3H];congr 1;cases h:decide ((Pg t j).1.f>0)
 .rw[acP (by rw[h];rfl),a0S (by simp)];rfl
 rw[acM (by rw[h];simp),a0V rfl];rfl
def lC(t:List (V×Int)):List Int:=gy ((t.filter fun e=>!decide (e.1.f>0)).map fun e=>e.1.n)
def uz(t:List (V×Int)):Bool:=t.any fun e=>decide (e.1.f>0)
theorem Zv{l l':List Int}(h:l.Perm l'):gy l=gy l':=by
 unfold gy;have hs:∀l:List Int,(l.mergeSort fun x y=>decide (x<=y)).Pairwise fun a b=>decide (a<=b)=true:=fun l=>
  List.pairwise_mergeSort (fun a b c h1 h2=>by simp at *;omega) (fun a b=>by simp;omega) l
 exact List.Perm.eq_of_pairwise (le:=fun a b=>decide (a<=b)=true) (fun a b _ _ h1 h2=>by simp at h1 h2;omega) (hs l) (hs l') ((aez l _).trans (h.trans (aez l' _).symm))
theorem afn{t:List (V×Int)}{js:List Nat}(hn:js.Nodup)(hl:∀j∈js,j<t.length)(ha:∀j,j<t.length->j∈js):gy (Di t js)=lC t∧fOf t js=uz t:=by
 have hp:(js.reverse).Perm (List.range t.length):=(List.reverse_perm js).trans ((a7H hn adI).2 fun j=>⟨fun h=>a3R.2 (hl j h),fun h=>ha j (a3R.1 h)⟩);constructor
 .refine Zv ?_;unfold Di;have e:((t.filter fun e=>!decide (e.1.f>0)).map fun e=>e.1.n)=((List.range t.length).filter fun j=>!decide ((Pg t j).1.f>0)).map fun j=>(Pg t j).1.n:=by
   conv=>lhs;rw[afl t]
   rw[List.filter_map,a6Z];rfl
  rw[e];exact(hp.filter _).map _
 unfold fOf uz;rw[a4g,agb,agb];constructor
 .rintro⟨j,hj,h⟩;exact⟨Pg t j,gG (d:=((V0,0):V×Int)) (hl j hj),h⟩
 rintro⟨e,he,h⟩;obtain⟨j,hj,rfl⟩:=a4h.1 he;exact⟨j,ha j hj,by rw[(UW (a0E hj)).1];exact h⟩
abbrev sBl(t:List (V×Int))(l:List Int)(b:Bool)(js:List Nat):aS aF:=match l with
 | []=>⟨[(2,.val (.nil .slc)),(3,xl b),(6,.val (.iter 1))],[],[.iy (kV.im t),.cu 0 t.length js]⟩
 |x::l=>⟨[(2,.val (.own 2)),(3,xl b),(6,.val (.iter 1))],[],[.iy (kV.im t),.cu 0 t.length js,.list false false 3 (x::l)]⟩
theorem afo{n:Nat}:aV X0 Qp (bP (n+1)) (.fn 137 [] []) [.nil .slc] [] (.dG []) []:=by
 intro A m h tf rO hr hf hx;obtain⟨x,r,rfl,h1,h2⟩:=hx.inv;have:=h2.inv0;subst this;have htf:=hf.Uj;subst htf;have hx:x=.nil .slc:=jE h1 rfl;subst hx;exact⟨.dG [],h,[],m,rfl,hr,.dG rfl (fun i x y hx=>by simp at hx),.refl,.refl,fun b hb=>by cases hb⟩
section
variable {n:Nat} {t:List (V×Int)}
set_option maxRecDepth 20000 in
theorem aap(h:Jj t):aJ X0 Qp T (bP (n+1)) (uH Qp T (bP (n+1)) LL) LL 88 (Bz Qp 88) 1 (.block 0 (.loop lpB)) (sBl t [] false [])
  fun e s=>e=.norm∧∃l seen,gy l=lC t∧s={ sBl t l (uz t) seen with env:=iW (T.gZ 88 2) ((8,.val (.bool false))::(7,.val (.dG [.bool false]))::(sBl t l (uz t) seen).env) }:=by
 have e1:lpB=.seq (.region 2 (a7q (eF lpB)) false) (.seq (.cond (.tmp 8) .skip (.exit 0)) (.block 1 xB)):=by kernel_rfl
 have hlen:=h.len;rw[e1];refine P7 hX (n:=t.length) (b:=1) (r:=0) (it:=6) (nx:=7) (mo:=8) (es:=kV.im t) (fun seen s=>seen.Nodup∧(∀j∈seen,j<t.length)∧∃gs,kT 1 gs (gq X0 (T.eH 88 (dR lpB)) s)=some (sBl t (Di t seen) (fOf t seen) seen)) (by kernel_rfl) (a7Q (by kernel_rfl)) (a7Q (by kernel_rfl)) (kV.oQ t) (by unfold LL;omega)
  ⟨a6a,(fun j hj=>(by cases hj)),[],(by kernel_rfl)⟩ (fun seen s hi=>?_)
 obtain⟨jk,aQ,gs,h3⟩:=hi;rw[<-e1];refine⟨gs,_,h3,?_,?_,?_,fun ho=>?_,fun j e hj he=>?_⟩
 .cases Di t seen<;>kernel_rfl
 .cases Di t seen<;>kernel_rfl
 .cases Di t seen<;>kernel_rfl
 .obtain⟨a1,a2⟩:=afn jk aQ ho;refine⟨?_,Di t seen,seen,a1,?_⟩
  .cases Di t seen<;>kernel_rfl
  .rw[a2]
 .rw[kV.AB,a0D]at he;obtain⟨⟨v,w⟩,rM,rfl⟩:=he;obtain⟨q1,q2,q3⟩:=UW rM;have Fq:(j::seen).Nodup:=a3P.2 ⟨hj,jk⟩;have Fv:∀k∈j::seen,k<t.length:=fun k hk=>by
   rcases a2t.1 hk with rfl|hk
   .exact q2
   .exact aQ k hk
  have hll:(Di t seen).length<=2000:=by
   have h1:(Di t seen).length<=seen.length:=by
    unfold Di;rw[a3Q];exact a4p (a8E ..) (by simp)
   have h2:seen.length<=t.length:=by
    have:=(Jh jk aQ).length_eq;have h3:=a8E (fun j=>seen.contains j) (List.range t.length);rw[a8r]at h3;omega
   omega
  have Dk:=a3m t j seen;have hf2:fOf t (j::seen)=(decide (v.f>0)||fOf t seen):=by unfold fOf;rw[acX,q1]
  rw[q1]at Dk;generalize fOf t seen=b at hf2;have Dk:Di t (j::seen)=Di t seen++(if decide (v.f>0)=true then []else [v.n]):=Dk;generalize Di t seen=l at Dk hll;cases hv:decide (v.f>0)
  .rw[hv,a0S (by simp)]at Dk;rw[hv,ag8]at hf2;have hv1:decide (v.f>0)=false:=hv;cases l with
   |nil=>
    have a1:[v.n].length<=ah:=by rw[a3G];unfold ah;omega
    refine⟨by kernel_rfl,aJ.step (e:=.norm) (by kernel_rfl) (zD (ps1:=⟨[(2,.val (.own 3)),(3,xl b),(6,.val (.iter 1))],[v.ps],[.iy (kV.im t),.cu 0 t.length (j::seen),.list true true 3 [v.n],.list true false 3 [v.n]]⟩) hX fQ (by kernel_rfl) (.c (.dG [.agg v.ps,.int .i64 w]) [] (AP rM) (.b hv1 (.o a1 (.r rfl))))) ⟨.inl rfl,Fq,Fv,[.flag 3,.gc [1,3]],?_⟩⟩;rw[Dk,hf2]
    kernel_rfl
   |cons x l=>
    have a1:(x::l).length+[v.n].length<=ah:=by rw[a3G];unfold ah;omega
    refine⟨by kernel_rfl,aJ.step (e:=.norm) (by kernel_rfl) (zD (ps1:=⟨[(2,.val (.own 4)),(3,xl b),(6,.val (.iter 1))],[v.ps],[.iy (kV.im t),.cu 0 t.length (j::seen),.gone,.list true true 3 [v.n],.list false false 3 (x::l++[v.n])]⟩) hX fQ (by kernel_rfl) (.c (.dG [.agg v.ps,.int .i64 w]) [] (AP rM) (.b hv1 (.o a1 (.r rfl))))) ⟨.inl rfl,Fq,Fv,[.gc [1,4]],?_⟩⟩;rw[Dk,hf2]
    kernel_rfl
  .rw[hv,a0V rfl,a6h]at Dk;rw[hv,Bool.true_or]at hf2;have hv1:decide (v.f>0)=true:=hv;cases l with
   |nil=>
    refine⟨by kernel_rfl,aJ.step (e:=.exit 1) (by kernel_rfl) (zD (ps1:=⟨[(2,.val (.nil .slc)),(3,xl true),(6,.val (.iter 1))],[v.ps],[.iy (kV.im t),.cu 0 t.length (j::seen)]⟩) hX fQ (by kernel_rfl) (.c (.dG [.agg v.ps,.int .i64 w]) [] (AP rM) (.b hv1 (.r rfl)))) ⟨.inr rfl,Fq,Fv,[],?_⟩⟩;rw[Dk,hf2]
    kernel_rfl
   |cons x l=>
    refine⟨by kernel_rfl,aJ.step (e:=.exit 1) (by kernel_rfl) (zD (ps1:=⟨[(2,.val (.own 2)),(3,xl true),(6,.val (.iter 1))],[v.ps],[.iy (kV.im t),.cu 0 t.length (j::seen),.list false false 3 (x::l)]⟩) hX fQ (by kernel_rfl) (.c (.dG [.agg v.ps,.int .i64 w]) [] (AP rM) (.b hv1 (.r rfl)))) ⟨.inr rfl,Fq,Fv,[],?_⟩⟩;rw[Dk,hf2]
    kernel_rfl
theorem DX:∀l:List Int,iF (Ea X0 3 l)=some (l.map fun n=>TV.int .i64 n)
 | []=>rfl
 |a::l=>by
  have:=DX l;show(match qM (PV.int .i64 a:PV aF),iF (Ea X0 3 l)with
   |some a,some b=>some (a::b)
   |_,_=>none)=_
  rw[this];rfl
theorem a3n{mg:Bool}{b:Bool}{Hs:List (PB aF)}:a3e X0 Qp mg (.dG [.nil .slc,.bool b]) Hs (fun _=>.dG [.nil .slc,.bool b]) []:=fun A m h h1 w hr hw _=>by
 cases hw with
 |gone hi _ _=>simp[bg]at hi
 |dG a1 a2=>
  obtain⟨x,r,rfl,v0,v1⟩:=Pv.bU.inv (⟨a1,a2⟩:Pv.bU X0 Qp _ _ _ _ _);obtain⟨y,r,rfl,v2,v3⟩:=v1.inv;have:=v3.inv0;subst this;have:=jE v2 (show pJ (PV.bool b:PV aF)=some (TV.bool b)from rfl);subst this;have:=jE v0 (show pJ (PV.nil .slc:PV aF)=some (TV.nil .slc)from rfl);subst this;unfold Nw;simp only[Bj,Bj.Eo,vZ,mX,mX.yS,C9,TP,Kw,a3K,ab9,a6h,a1z]
set_option maxRecDepth 20000 in
theorem acR(h:Jj t):(lC t=[]->aV X0 Qp (bP (n+2)) (.fn 88 [] []) [.map 0] [.iy (kV.im t)] (.dG [.nil .slc,.bool (uz t)]) [.iy (kV.im t)]) ∧
  (lC t≠[]->aV X0 Qp (bP (n+2)) (.fn 88 [] []) [.map 0] [.iy (kV.im t)] (.dG [.own 1,.bool (uz t)]) [.iy (kV.im t),.list false false 3 (lC t)]):=by
 have e0:(SG Qp 88).body=.seq (eF Zu) (.seq (.seq (eF (eF (eG Zu))) (.block 0 (.loop lpB))) (eG (eG Zu))):=by kernel_rfl
 have x0:dM X0 Qp T (bP (n+1)) LL 88 false (Bz Qp 88) 1 (eF Zu) ⟨kL X0 0 [.map 0],[],[.iy (kV.im t)]⟩ .norm ⟨[(0,.val (.map 0)),(2,.val (.nil .slc)),(3,xl false)],[],[.iy (kV.im t)]⟩:=zD hX fQ (an:=.n) (by kernel_rfl) (.r rfl);have x1:dM X0 Qp T (bP (n+1)) LL 88 false (Bz Qp 88) 1 (eF (eF (eG Zu))) ⟨[(0,.val (.map 0)),(2,.val (.nil .slc)),(3,xl false)],[],[.iy (kV.im t)]⟩ .norm ⟨[(2,.val (.nil .slc)),(3,xl false),(6,.val (.iter 1))],[],[.iy (kV.im t),.cu 0 (kV.im t).length []]⟩:=zD hX fQ (an:=.n) (by kernel_rfl) (.r rfl);rw[kV.oQ t]at x1;have run:∀Q:Ex->aS aF->Prop,(∀l seen,gy l=lC t->aJ X0 Qp T (bP (n+1)) (uH Qp T (bP (n+1)) LL) LL 88 (Bz Qp 88) 1 (eG (eG Zu)) { sBl t l (uz t) seen with env:=iW (T.gZ 88 2) ((8,.val (.bool false))::(7,.val (.dG [.bool false]))::(sBl t l (uz t) seen).env) } Q) ->
   aJ X0 Qp T (bP (n+1)) (uH Qp T (bP (n+1)) LL) LL 88 (Bz Qp 88) 1 (SG Qp 88).body ⟨kL X0 0 [.map 0],[],[.iy (kV.im t)]⟩ Q:=fun Q hQ=>by
  rw[e0];refine aJ.AO (by kernel_rfl) x0 (aJ.seq (R:=fun e s=>e=.norm∧∃l seen,gy l=lC t∧s={ sBl t l (uz t) seen with env:=iW (T.gZ 88 2) ((8,.val (.bool false))::(7,.val (.dG [.bool false]))::(sBl t l (uz t) seen).env) }) (aJ.AO (by kernel_rfl) x1 (aap (n:=n) h)) (fun s hs=>?_) (fun i s h=>by cases h.1) (fun s h=>by cases h.1));obtain⟨_,l,seen,h1,rfl⟩:=hs;exact hQ l seen h1
 have hlen:∀l:List Int,gy l=lC t->l.length<=2^20:=fun l hl=>by
  have h1:(gy l).length=l.length:=by unfold gy;rw[aam]
  have h2:(lC t).length<=t.length:=by
   unfold lC gy;rw[aam,a3Q];exact a8E ..
  have:=h.len;rw[hl]at h1;omega
 have apa:gy []=([]:List Int):=by simp[gy]
 constructor
 .intro hn;have:=Dh (X:=X0) (P:=Qp) (T:=T) (L:=LL) (n:=n+1) (f:=88) (first:=[]) (cap:=[]) (xs:=[.map 0]) (H:=[.iy (kV.im t)]) (N:=[]) (v:=.dG [.nil .slc,.bool (uz t)]) (tv:=fun _=>.dG [.nil .slc,.bool (uz t)]) (tN:=[]) (t:=SG Qp 88) hX (by kernel_rfl) (by kernel_rfl) (by kernel_rfl) rfl (fun A m h hr=>⟨m,by simpa using hr,Pv.bU.cons (.nil .slc) (.cons (.bool _) .nil) |> fun h=>.dG h.1 h.2,by simpa using Fr.refl,.refl⟩) (run _ fun l seen hl=>?_)
  .exact this
  .rw[hn]at hl;have qC:l=[]:=by
    have h1:(gy l).length=l.length:=by unfold gy;rw[aam]
    rw[hl]at h1;exact a3F h1.symm
   subst qC;exact aJ.step (by kernel_rfl) (zD (e:=.ret) (ps1:=⟨[(2,.val (.nil .slc)),(3,xl (uz t))],[],[.iy (kV.im t),.cu 0 t.length seen]⟩) hX fQ (by kernel_rfl) (.fr [] (afo (n:=n)) (.r rfl))) ⟨.inr rfl,[.nil .slc,.bool (uz t)],by kernel_rfl,a3n⟩
 .intro hn;have:=Dh (X:=X0) (P:=Qp) (T:=T) (L:=LL) (n:=n+1) (f:=88) (first:=[]) (cap:=[]) (xs:=[.map 0]) (H:=[.iy (kV.im t)]) (N:=[.list false false 3 (lC t)]) (v:=.dG [.own 1,.bool (uz t)]) (tv:=fun n=>.dG [.slc n 0 (lC t).length (lC t).length 1 false,.bool (uz t)]) (tN:=[.cells .last ((lC t).map fun n=>TV.int .i64 n)]) (t:=SG Qp 88) hX (by kernel_rfl) (by kernel_rfl) (by kernel_rfl) rfl (fun A m h hr=>aal hX (H:=[.iy (kV.im t)]) (ty:=3) (l:=lC t) hn (DX _) JQ (by decide) (fun _ _ _=>rfl) rfl hr) (run _ fun l seen hl=>?_)
  .exact this
  .cases l with
   |nil=>rw[apa]at hl;exact absurd hl.symm hn
   |cons x l=>
    have hs:=ac8 (n:=n) (k:=false) (ex:=false) (x::l) (hlen _ hl);rw[hl]at hs;exact aJ.step (by kernel_rfl) (zD (e:=.ret) (ps1:=⟨[(2,.val (.own 2)),(3,xl (uz t))],[],[.iy (kV.im t),.cu 0 t.length seen,.list false false 3 (lC t)]⟩) hX fQ (by kernel_rfl) (.fr [2] hs (.r rfl))) ⟨.inr rfl,[.own 2,.bool (uz t)],by kernel_rfl,a7p hX (i:=2) (ty:=3) (l:=lC t) rfl hn (DX _) JQ rfl⟩
end
open Go Tw Pv cO
abbrev vF:PV aF:=.fn 139 [] [.ptr 1 0 1]
abbrev a7B:Code:=(SG Qp 138).body
abbrev afp:Code:=(SG Qp 139).body
abbrev lpW:Code:=eF (eF (eG afp))
abbrev xW:Code:=eF (eG (eG lpW))
abbrev a7C:List (Nat×PE aF):=[(2,.val (.ptr 2 0 1)),(4,.val (.nil .slc)),(6,.val vF)]
abbrev Ph(rd:Bool)(jA:Option Code):PB aF:=.loop rd 138 (Bz Qp 138) a7C [7] (wP Qp 138) (Am Qp 138) jA
abbrev H3(t:List (V×Int))(x:PV aF):List (PB aF):=[.iy (kV.im t),.aC [.map 0],.cells [x]]
theorem one_le(w:Int):[w].length<=ah:=by rw[a3G];unfold ah;omega
theorem apb{n:Nat}(t:List (V×Int))(w:Int):aV X0 Qp (bP (n+1)) (.jZ 4) [.int .i64 w] (H3 t (.nil .slc)++[.mark,Ph true none]) (.bool true) (H3 t (.own 6)++[.mark,Ph true none,.list true true 3 [w],.list true false 3 [w]]):=by
 have q1:dM X0 Qp T (bP n) LL 138 true (Bz Qp 138) 5 (wP Qp 138) ⟨tX a7C [7] [.int .i64 w],[],H3 t (.nil .slc)++[.mark,Ph true none]⟩ .norm ⟨[(2,.val (.ptr 2 0 1)),(5,xi w)],[],H3 t (.nil .slc)++[.mark,Ph true none]⟩:=xZ hX fQ (by kernel_rfl) .xx;have q2:dM X0 Qp T (bP n) LL 138 true (Bz Qp 138) 5 (Am Qp 138) ⟨[(2,.val (.ptr 2 0 1)),(5,xi w)],[],H3 t (.nil .slc)++[.mark,Ph false none]⟩ .norm ⟨[],[],H3 t (.own 6)++[.mark,Ph false none,.list true true 3 [w],.list true false 3 [w]]⟩:=xZ hX fQ (by kernel_rfl) (.o (one_le w) .xx);exact GN hX (l:=4) rfl rfl (by kernel_rfl) q1 rfl q2 rfl
theorem apc{n:Nat}(t:List (V×Int))(l:List Int)(w:Int)(hl:l.length+[w].length<=ah):aV X0 Qp (bP (n+1)) (.jZ 4) [.int .i64 w] (H3 t (.own 5)++[.mark,Ph true none,.list false false 3 l]) (.bool true) (H3 t (.own 7)++[.mark,Ph true none,.gone,.list true true 3 [w],.list false false 3 (l++[w])]):=by
 have q1:dM X0 Qp T (bP n) LL 138 true (Bz Qp 138) 6 (wP Qp 138) ⟨tX a7C [7] [.int .i64 w],[],H3 t (.own 5)++[.mark,Ph true none,.list false false 3 l]⟩ .norm ⟨[(2,.val (.ptr 2 0 1)),(5,xi w)],[],H3 t (.own 5)++[.mark,Ph true none,.list false false 3 l]⟩:=xZ hX fQ (by kernel_rfl) .xx;have q2:dM X0 Qp T (bP n) LL 138 true (Bz Qp 138) 6 (Am Qp 138) ⟨[(2,.val (.ptr 2 0 1)),(5,xi w)],[],H3 t (.own 5)++[.mark,Ph false none,.list false false 3 l]⟩ .norm ⟨[],[],H3 t (.own 7)++[.mark,Ph false none,.gone,.list true true 3 [w],.list false false 3 (l++[w])]⟩:=xZ hX fQ (by kernel_rfl) (.o hl .xx);exact GN hX (l:=4) rfl rfl (by kernel_rfl) q1 rfl q2 rfl
def Ec(t:List (V×Int))(js:List Nat):List Int:=js.reverse.map fun j=>(Pg t j).2
theorem a3o(t:List (V×Int))(j:Nat)(js:List Nat):Ec t (j::js)=Ec t js++[(Pg t j).2]:=by simp[Ec]
abbrev sWl(t:List (V×Int))(l:List Int)(js:List Nat):aS aF:=match l with
 | []=>⟨[(0,.val (.jZ 4)),(6,.val (.iter 5))],[],H3 t (.nil .slc)++[.mark,Ph true none,.cu 0 t.length js]⟩
 |x::l=>⟨[(0,.val (.jZ 4)),(6,.val (.iter 5))],[],H3 t (.own 6)++[.mark,Ph true none,.cu 0 t.length js,.list false false 3 (x::l)]⟩
section
variable {n:Nat} {t:List (V×Int)}
set_option maxRecDepth 20000 in
theorem aaq(h:Jj t):aJ X0 Qp T (bP (n+1)) BZ LL 139 (Bz Qp 139) 5 (.block 0 (.loop lpW)) (sWl t [] [])
  fun e s=>e=.norm∧∃l seen,l.Perm (t.map (·.2))∧s={ sWl t l seen with env:=iW (T.gZ 139 1) ((8,.val (.bool false))::(7,.val (.dG [.bool false]))::(sWl t l seen).env) }:=by
 have e1:lpW=.seq (.region 1 (a7q (eF lpW)) false) (.seq (.cond (.tmp 8) .skip (.exit 0)) (.block 1 xW)):=by kernel_rfl
 have hlen:=h.len;rw[e1];refine P7 hX (n:=t.length) (b:=5) (r:=0) (it:=6) (nx:=7) (mo:=8) (es:=kV.im t) (fun seen s=>seen.Nodup∧(∀j∈seen,j<t.length)∧∃gs,kT 5 gs (gq X0 (T.eH 139 (dR lpW)) s)=some (sWl t (Ec t seen) seen)) (by kernel_rfl) (a7Q (by kernel_rfl)) (a7Q (by kernel_rfl)) (kV.oQ t) (by unfold LL;omega)
  ⟨a6a,(fun j hj=>(by cases hj)),[],(by kernel_rfl)⟩ (fun seen s hi=>?_)
 obtain⟨jk,aQ,gs,h3⟩:=hi;rw[<-e1];refine⟨gs,_,h3,?_,?_,?_,fun ho=>?_,fun j e hj he=>?_⟩
 .cases Ec t seen<;>kernel_rfl
 .cases Ec t seen<;>kernel_rfl
 .cases Ec t seen<;>kernel_rfl
 .refine⟨?_,Ec t seen,seen,?_,rfl⟩
  .cases Ec t seen<;>kernel_rfl
  .have hp:(seen.reverse).Perm (List.range t.length):=(List.reverse_perm seen).trans ((a7H jk adI).2 fun j=>⟨fun h=>a3R.2 (aQ j h),fun h=>ho j (a3R.1 h)⟩);unfold Ec
   conv=>rhs;rw[afl t]
   rw[a6Z];exact hp.map _
 .rw[kV.AB,a0D]at he;obtain⟨⟨v,w⟩,rM,rfl⟩:=he;obtain⟨q1,q2,q3⟩:=UW rM;have Fq:(j::seen).Nodup:=a3P.2 ⟨hj,jk⟩;have Fv:∀k∈j::seen,k<t.length:=fun k hk=>by
   rcases a2t.1 hk with rfl|hk
   .exact q2
   .exact aQ k hk
  have hll:(Ec t seen).length<=2000:=by
   have h2:seen.length<=t.length:=by
    have:=(Jh jk aQ).length_eq;have h3:=a8E (fun j=>seen.contains j) (List.range t.length);rw[a8r]at h3;omega
   have h1:(Ec t seen).length=seen.length:=(by simp[Ec]);omega
  have Dk:=a3o t j seen;rw[q1]at Dk;have Dk:Ec t (j::seen)=Ec t seen++[w]:=Dk;generalize Ec t seen=l at Dk hll;cases l with
  |nil=>
   refine⟨by kernel_rfl,aJ.step (e:=.norm) (by kernel_rfl) (zD (ps1:=⟨[(0,.val (.jZ 4)),(6,.val (.iter 5)),(14,xl false)],[],H3 t (.own 7)++[.mark,Ph true none,.cu 0 t.length (j::seen),.list true true 3 [w],.list true false 3 [w]]⟩) hX fQ (by kernel_rfl) (.c (.dG [.agg v.ps,.int .i64 w]) [] (AP rM) (.fr [0,1,2,3,4] (apb (n:=n) t w) (.b (rfl:(!true)=false) (.r rfl))))) ⟨.inl rfl,Fq,Fv,[.flag 7,.gc [5,7]],?_⟩⟩;rw[Dk]
   kernel_rfl
  |cons x l=>
   have a1:(x::l).length+[w].length<=ah:=by rw[a3G];unfold ah;omega
   refine⟨by kernel_rfl,aJ.step (e:=.norm) (by kernel_rfl) (zD (ps1:=⟨[(0,.val (.jZ 4)),(6,.val (.iter 5)),(14,xl false)],[],H3 t (.own 8)++[.mark,Ph true none,.cu 0 t.length (j::seen),.gone,.list true true 3 [w],.list false false 3 (x::l++[w])]⟩) hX fQ (by kernel_rfl) (.c (.dG [.agg v.ps,.int .i64 w]) [] (AP rM) (.fr [0,1,2,3,4,6] (apc (n:=n) t (x::l) w a1) (.b (rfl:(!true)=false) (.r rfl))))) ⟨.inl rfl,Fq,Fv,[.gc [5,8]],?_⟩⟩;rw[Dk]
   kernel_rfl
end
open Go Tw Pv cO
def rH(t:List (V×Int)):List Int:=yU (fun n=>[n]) (t.map fun e:V×Int=>e.2)
abbrev Qk(n:Int):TV:=.int .i64 n
abbrev KJ(n:Int):PV aF:=.int .i64 n
theorem a3p{t:List (V×Int)}{l:List Int}(h:l.Perm (t.map fun e:V×Int=>e.2)):QS (l.map Qk)=(rH t).map Qk:=by
 unfold QS;rw[Sz (g:=Qk) (key:=fun n=>[n]) (a7e:=QM) (fun _=>rfl),EC h fun a _ b _ e=>by simpa using e];rfl
theorem Jk:∀l:List Int,TU (l.map KJ)=some (l.map Qk)
 | []=>rfl
 |a::l=>by
  have:=Jk l;show(match pJ (KJ a),TU (l.map KJ)with
   |some a,some b=>some (a::b)
   |_,_=>none)=_
  rw[this];rfl
section
variable {n:Nat} {t:List (V×Int)}
set_option maxRecDepth 20000 in
theorem ak8(h:Jj t)(ht:t≠[]):aai X0 Qp (uH Qp T (bP (n+1)) LL) vF [.jZ 4] (H3 t (.nil .slc)++[.mark,Ph true none]) fun v H1=>∃(l:List Int) (seen:List Nat),l.Perm (t.map fun e:V×Int=>e.2)∧H1=H3 t (.own 6)++[.mark,Ph true none,.cu 0 t.length seen,.list false false 3 l]:=by
 refine a1q (t:=SG Qp 139) hX (by kernel_rfl) ?_;have e0:(SG Qp 139).body=.seq (eF afp) (.block 0 (.loop lpW)):=by kernel_rfl
 rw[e0];have x0:dM X0 Qp T (bP (n+1)) LL 139 false (Bz Qp 139) 5 (eF afp) ⟨kL X0 0 [.jZ 4,.ptr 1 0 1],[],H3 t (.nil .slc)++[.mark,Ph true none]⟩ .norm ⟨[(0,.val (.jZ 4)),(6,.val (.iter 5))],[],H3 t (.nil .slc)++[.mark,Ph true none,.cu 0 (kV.im t).length []]⟩:=zD hX fQ (an:=.n) (by kernel_rfl) (.r rfl);rw[kV.oQ t]at x0;refine aJ.AO (by kernel_rfl) x0 ((aaq (n:=n) h).mono fun e s h1=>?_);obtain⟨rfl,l,seen,h2,rfl⟩:=h1;cases l with
 |nil=>
  have:=h2.length_eq;rw[a3Q]at this;exact absurd (a3F this.symm) ht
 |cons x l=>exact⟨.inl rfl,[],by kernel_rfl,x::l,seen,h2,rfl⟩
set_option maxRecDepth 20000 in
theorem aar(h:Jj t)(ht:t≠[]):aV X0 Qp (bP (n+2)) (.fn 138 [] []) [.nil .slc,vF] [.iy (kV.im t),.aC [.map 0]] (.slc 2 0 t.length t.length 1 false) [.iy (kV.im t),.aC [.map 0],.mg ((rH t).map KJ)]:=by
 have e0:(SG Qp 138).body=.seq (eF a7B) (.seq (.seq (eF (eF (eG a7B))) (.block 0 (.rangeFunc (.tmp 6) #[7] (wP Qp 138) (Am Qp 138)))) (eG (eG a7B))):=by kernel_rfl
 have x0:dM X0 Qp T (bP (n+1)) LL 138 false (Bz Qp 138) 2 (eF a7B) ⟨kL X0 0 [.nil .slc,vF],[],[.iy (kV.im t),.aC [.map 0]]⟩ .norm ⟨[(1,.val vF),(2,.val (.ptr 2 0 1)),(4,.val (.nil .slc))],[],H3 t (.nil .slc)⟩:=zD hX fQ (an:=.n) (by kernel_rfl) (.r rfl);have x1:dM X0 Qp T (bP (n+1)) LL 138 false (Bz Qp 138) 2 (eF (eF (eG a7B))) ⟨[(1,.val vF),(2,.val (.ptr 2 0 1)),(4,.val (.nil .slc))],[],H3 t (.nil .slc)⟩ .norm ⟨a7C,[],H3 t (.nil .slc)⟩:=zD hX fQ (an:=.n) (by kernel_rfl) (.r rfl);have:=Dh (X:=X0) (P:=Qp) (T:=T) (L:=LL) (n:=n+1) (f:=138) (first:=[]) (cap:=[]) (xs:=[.nil .slc,vF]) (H:=[.iy (kV.im t),.aC [.map 0]]) (N:=[.mg ((rH t).map KJ)]) (v:=.slc 2 0 t.length t.length 1 false) (tv:=fun k=>.slc k 0 t.length t.length 1 false) (tN:=[.mg ((rH t).map Qk)]) (t:=SG Qp 138) hX (by kernel_rfl) (by kernel_rfl) (by kernel_rfl) rfl (fun A m h hr=>aak (H:=[.iy (kV.im t),.aC [.map 0]]) (n:=t.length) (sz:=1) (Jk _) hr) ?_
 .exact this
 rw[e0];refine aJ.AO (by kernel_rfl) x0 (aJ.seq (R:=fun e s=>e=.norm∧∃(l:List Int) (seen:List Nat),l.Perm (t.map fun e:V×Int=>e.2)∧s=⟨a7C,[],H3 t (.own 6)++[.mark,Ph false (some .skip),.cu 0 t.length seen,.list false false 3 l]⟩) (aJ.AO (by kernel_rfl) x1 (aJ.block ?_)) (fun s hs=>?_) (fun i s h=>by cases h.1) (fun s h=>by cases h.1))
 .refine aJ.range (f1:=139) (a1:=[]) (b1:=[.ptr 1 0 1]) (K:=fun v H1=>∃(l:List Int) (seen:List Nat),l.Perm (t.map fun e:V×Int=>e.2)∧H1=H3 t (.own 6)++[.mark,Ph true none,.cu 0 t.length seen,.list false false 3 l]) hX rfl (by kernel_rfl) (by kernel_rfl) (ak8 (n:=n) h ht) (fun v H1 hk=>?_);obtain⟨l,seen,h1,rfl⟩:=hk;exact⟨true,_,_,_,_,_,_,none,.norm,rfl,rfl,rfl,l,seen,h1,rfl⟩
 obtain⟨_,l,seen,h1,rfl⟩:=hs;have hl:l≠[]:=fun e=>by
  subst e;have:=h1.length_eq;rw[a3Q]at this;exact absurd (a3F this.symm) ht
 have hlen:t.length=l.length:=by rw[h1.length_eq,a3Q]
 refine aJ.step (by kernel_rfl) (zD (e:=.ret) (ps1:=⟨[(4,.val (.own 6))],[],H3 t (.own 6)++[.mark,Ph false (some .skip),.cu 0 t.length seen,.list false false 3 l]⟩) hX fQ (an:=.n) (by kernel_rfl) (.r rfl)) ⟨.inr rfl,[.own 6],by kernel_rfl,?_⟩;rw[<-a3p h1,hlen];exact a7o hX (i:=6) (ty:=3) (l:=l) rfl hl (DX _) JQ
end
def Pj:List Int->Int
 | []=>0
 |x::l=>l.foldl max x
theorem XL:∀(l:List Int) (x:Int),(l.foldl max x=x∨l.foldl max x∈l)∧x<=l.foldl max x∧∀y∈l,y<=l.foldl max x
 | [],x=>⟨.inl rfl,a8Y _,fun y hy=>by cases hy⟩
 |a::l,x=>by
  obtain⟨h1,h2,h3⟩:=XL l (max x a);rw[acY];have hm:max x a=x∨max x a=a:=by omega
  refine⟨?_,by omega,fun y hy=>?_⟩
  .rcases h1 with h1|h1
   .rcases hm with e|e
    .exact .inl (h1.trans e)
    rw[h1,e];exact .inr (by simp)
   exact .inr (by simp[h1])
  rcases a2t.1 hy with rfl|hy
  .omega
  exact h3 y hy
theorem XM{l:List Int}(h:l≠[]):Pj l∈l∧∀y∈l,y<=Pj l:=by
 cases l with
 |nil=>exact absurd rfl h
 |cons x l=>
  obtain⟨h1,h2,h3⟩:=XL l x;refine⟨?_,fun y hy=>?_⟩
  .rcases h1 with h1|h1
   .show l.foldl max x∈_;rw[h1];simp
   exact a3w _ h1
  rcases a2t.1 hy with rfl|hy
  .exact h2
  exact h3 y hy
theorem a3q{l l':List Int}(h:l.Perm l')(hl:l≠[]):Pj l=Pj l':=by
 have hl':l'≠[]:=fun e=>by subst e;exact hl h.eq_nil
 obtain⟨a1,a2⟩:=XM hl;obtain⟨b1,b2⟩:=XM hl';have:=a2 _ (h.mem_iff.2 b1);have:=b2 _ (h.mem_iff.1 a1);omega
open Go Tw Pv cO
abbrev ApM(n:Nat):aY:=kJ Qp Tm (2^24) n
theorem okM{n:Nat}:jo X0 Qp (ApM n) a9p:=fun _ _ _ _ _ h _=>by cases h
def gMx(l:List Int)(k:Nat)(m:Int):Int:=if l.getD (i64.wrap ((k:Int)+1)).toNat 0>m then l.getD (i64.wrap ((k:Int)+1)).toNat 0 else m
theorem a1v{x:Int}{r:List Int}(h:r.length<=ah):∀k,k<=r.length->aW (gMx (x::r)) k 0 x=(r.take k).foldl max x
 | 0,_=>rfl
 |k+1,hk=>by
  rw[sW,a1v h k (by omega)];unfold gMx;rw[a3E,xY (by omega),a5m];have e:(x::r).getD (k+1) 0=r[k]'(by omega):=by simp[List.getD,a0E (show k<r.length by omega)]
  rw[e,a6Y (by omega),List.foldl_append];simp only[acY,List.foldl_nil];omega
abbrev wMx(l:List Int)(m i:Int)(x:List (Nat×PE aF)):aS aF:=⟨[(0,xL 3 l),(3,xi m),(4,xi (i64.wrap (i+1)))]++x,[],[]⟩
set_option maxRecDepth 20000 in
theorem akb{l:List Int}(h0:l≠[])(hl:l.length<=2000):aV X0 Qp (ApM 2) (.fn 94 [] []) [.dn 3 l false] [] (.int .i64 (Pj l)) []:=by
 cases l with
 |nil=>exact absurd rfl h0
 |cons x r=>
  have hr:r.length<=ah:=by have:(x::r).length=r.length+1:=rfl;unfold ah;omega
  have lp:dM X0 Qp Tm (ApM 1) LL 94 false (Bz Qp 94) 0 (.loop (Ry Qp 94 0)) ⟨[(0,xL 3 (x::r)),(3,xi x),(4,xi 1)],[],[]⟩ (.exit 0) (wMx (x::r) (aW (gMx (x::r)) r.length 0 x) r.length [(15,xl false)]):=by
   refine JJ (X:=X0) (N:=r.length) (g:=gMx (x::r)) (s0:=x) (st:=fun i m=>wMx (x::r) m i []) (fin:=fun m=>wMx (x::r) m r.length [(15,xl false)]) (fun _ _=>True) (by kernel_rfl) hr Qb trivial (fun _ _ _ _=>trivial) (fun k m hk _ n e p g9=>?_) (fun m _=>?_)
   .have e1:i64.wrap ((k:Int)+1)=((k+1:Nat):Int):=xY (by omega);have t1:decide (i64.wrap ((k:Int)+1)<((x::r).length:Int))=true:=by rw[e1,a1T,a3J];omega
    have i1:gW (i64.wrap ((k:Int)+1)) (x::r).length:=by rw[e1];exact aH (by rw[a3J];omega)
    exact round hX okM (by kernel_rfl) (.b t1 (.o i1 (.go g9)))
   have e1:i64.wrap ((r.length:Int)+1)=((r.length+1:Nat):Int):=xY (by omega);have t1:decide (i64.wrap ((r.length:Int)+1)<((x::r).length:Int))=false:=by rw[e1,a3t,a3J];omega
   exact round hX okM (by kernel_rfl) (.b t1 .ex)
  have e:aW (gMx (x::r)) r.length 0 x=Pj (x::r):=by
   rw[a1v hr _ (a1J _),ab5];rfl
  rw[e]at lp;have hc:((x::r).length:Int)=r.length+1:=by simp
  have t0:decide (((x::r).length:Int)<1)=false:=by rw[a3t,hc];omega
  have i0:gW 0 (x::r).length:=⟨by decide,by rw[hc];omega⟩;exact qU hX okM (first:=[]) (cap:=[]) (by kernel_rfl) (.b t0 (.o i0 (.w lp .er)))
theorem aas(n:Nat)(x:TV)(h:List HB):kJ Qp T LL (n+1) (.fn 94 [] []) [x] h=a2A 94 (ApM 2) (.fn 94 [] []) [x] h:=rfl
theorem akc{n:Nat}{vs:List Int}(h0:vs≠[])(hl:vs.length<=2000):aV X0 Qp (bP (n+1)) (.fn 94 [] []) [.slc 0 0 vs.length vs.length 1 false] [.mg (vs.map KJ)] (.int .i64 (Pj vs)) [.mg (vs.map KJ)]:=by
 intro A m h tf rO hr hf hx;obtain⟨x,r,rfl,h1,h2⟩:=hx.inv;have:=h2.inv0;subst this;have htf:=hf.Uj;subst htf;obtain⟨mb,g1,g2⟩:=hr.at_ 0 _ rfl;cases mb with
 |fP c=>
  obtain⟨ts,g3,g4⟩:=g2;have g5:=g4.symm.trans (Jk vs);cases g5;have hx2:x=.slc c 0 vs.length vs.length 1 false:=by
   cases h1 with
   |slc e=>rw[g1]at e;cases e;rfl
   |gone hi e _=>simp only[bg,a01]at hi;subst hi;rw[g1]at e;cases e
  subst hx2;have Gz:c∈bn m:=aZ g1 rfl;have aQ:=(a02.1 g3).1;show ∃w h1 ws m1,kJ Qp T LL (n+1) _ _ h=_∧_;rw[aas,a9v (k:=.i64) (n:=Pj vs)]
  .exact⟨_,h,[],m,rfl,hr,.int _ _,.refl,.refl,fun b hb=>by cases hb⟩
  .refine⟨⟨_,_,rfl⟩,rfl,fun h' hu=>?_⟩;obtain⟨cs',p1,p2⟩:=hu.2 c _ g3;obtain⟨l,hp,rfl⟩:∃l:List Int,l.Perm vs∧cs'=l.map Qk:=by
    have hq:∀y∈cs',∃i:Int,y=Qk i:=fun y hy=>by
     obtain⟨i,_,rfl⟩:=a1L.1 (p1.mem_iff.1 hy);exact⟨i,rfl⟩
    have hun:∀L:List TV,(∀y∈L,∃i:Int,y=Qk i)->∃l:List Int,L=l.map Qk:=by
     intro L
     induction L with
     |nil=>exact fun _=>⟨[],rfl⟩
     |cons y L ih=>
      intro hL;obtain⟨i,rfl⟩:=hL y (by simp);obtain⟨l,rfl⟩:=ih fun z hz=>hL z (by simp[hz]);exact⟨i::l,rfl⟩
    obtain⟨l,rfl⟩:=hun cs' hq;refine⟨l,?_,rfl⟩;have:=p1.map fun y=>match y with|.int _ n=>n|_=>0
    rw[a6Z,a6Z]at this;simpa[Function.comp_def]using this
   have hlen:l.length=vs.length:=hp.length_eq;have qC:l≠[]:=fun e=>by subst e;exact h0 (a3F hlen.symm)
   have akd:h'.length=h.length:=by
    have e:=fun b=>RJ hu b;refine Nat.le_antisymm (acE fun hb=>?_) (acE fun hb=>?_)
    .have:=e h.length;rw[a0E hb,a3I (a1J _)]at this;cases this
    have:=e h'.length;rw[a0E hb,a3I (a1J _)]at this;cases this
   have hm:=akb qC (by omega);have hvr:Pv.VR X0 Qp (AA A []) [] h' (.dn 3 l false) (.slc c 0 vs.length vs.length 1 false):=by
    rw[<-hlen];refine Pv.VR.dn (cs:=l.map Qk) ⟨hr.Cm c Gz,by simp[bn]⟩ (by simp only[aU,p2]) (fun _=>by simp[lH,p2]) JQ (by decide) (by simp;exact a1J _) (a1J _) (by intro h;cases h) ?_ ?_
    .intro j a _;rfl
    have hrw:=RV (A:=AA A []) (m:=[]) (h:=h') l;intro j a i c v a1 a2 a3;exact hrw.2.2 j a i c v a1 a2 a3
   obtain⟨w,h2,ws,m1,c1,c2,c3,c4,c5,c6⟩:=hm A [] h' (.fn 94 [] []) [.slc c 0 vs.length vs.length 1 false] ⟨rfl,fun i b hi=>by simp at hi,by simp[bn],fun b hb=>hr.up b (by rw[<-akd];exact hb),fun b hb=>by simp[bn]at hb⟩ (.fn rfl (fun i x y hi=>by simp at hi) rfl (fun i x y hi=>by simp at hi)) (.cons hvr .nil)
   .have hw:w=.int .i64 (Pj vs):=by
     rw[<-a3q hp qC];exact c3.a0M
    subst hw;have Y5:ws=[]:=a7v.2 fun b hb=>by have:=c6 b hb;simp[bn]at this
    subst Y5;exact⟨h2,c1⟩
  obtain⟨h',hu⟩:∃h',Ou h h':=⟨_,WR h (fun b=>match h[b]? with|some (.mg cs)=>cs|_=>[]) fun b cs e=>by rw[e]⟩;exact⟨h',hu⟩
 |_=>exact g2.elim
end Go.Proofs.YtmobpoiejckagaaGreat
