/- Part 6 of a proof: The answer to any query about any diagram, where any condition is met, is the document's, or the error is; for all queries and diagrams. -/
import Derived.Test.YtmobpoiejckagaaGreatP04
set_option linter.constructorNameAsVariable false
set_option linter.unusedVariables false
set_option linter.unusedSimpArgs false
set_option linter.unusedSectionVars false
open Go.IntKind (i64)
noncomputable section
namespace Go.Proofs.YtmobpoiejckagaaGreat
open Go Tw Pv bW
theorem a7g{n:Int}(h:0<=n∧n<=6):n=0∨n=1∨n=2∨n=3∨n=4∨n=5∨n=6:=by omega
theorem a7h:(0:Int)<=32:=by decide
def ad1:eY aF:=bZ 206 (a2 pA pA) (dP (a2 pA pA)) (fun p=>(0,p.2)) (fun p=>[p.1=1,0<=p.2∧p.2<=6]) ak8
theorem ak9:Gd ad1:=ap3.add fun n hO p hp=>by
 obtain⟨a,b⟩:=p;have h1:a=1:=hp _ (.head _);have h2:0<=b∧b<=6:=hp _ (.tail _ (.head _));subst h1;rcases a7g h2 with rfl|rfl|rfl|rfl|rfl|rfl|rfl
 all_goals exact aN hO (.o a7h (.o a7h (.o a7h (.o a7h (.o a7h .rr)))))
def ad2:eY aF:=bZ 175 (a2 pA pA) (dP (a2 pA pA)) (fun p=>(0,p.2)) (fun p=>[p.1=1,0<=p.2∧p.2<=6]) ad1
theorem akb:Gd ad2:=ak9.add fun n hO p hp=>aN hO (.o (hp _ (.head _)) (.o (hp _ (.tail _ (.head _))) .rr))
def Ht:eY aF:=bZ 124 (a2 ql iA) ql (fun p=>List.replicate p.2.toNat (-1)) (fun p=>[p.1=[-1],0<=p.2∧p.2<=6]) ad2
theorem XI:Gd Ht:=akb.add fun n hO p hp=>by
 obtain⟨a,b⟩:=p;have h1:a=[-1]:=hp _ (.head _);have h2:0<=b∧b<=6:=hp _ (.tail _ (.head _));subst h1;rcases a7g h2 with rfl|rfl|rfl|rfl|rfl|rfl|rfl
 .exact aN hO (.b (rfl:decide ((0:Int)<0)=false) (.o (rfl:(1:Int)=1) (.o (⟨by decide,by decide⟩:(0:Int)<=0∧(0:Int)<=6) (.b (rfl:decide ((0:Int)>0)=false) (.b (rfl:decide ((0:Int)>9223372036854775807)=false) (.o (rfl:(0:Int)=0) (.o (show(0:Int)<=0 by decide) (.o (show(0:Int)<=(ah:Int) by decide) (.m 8 le8 (.b (rfl:decide ((0:Int)<0)=false) .rr))))))))))
 .exact aN hO (.b (rfl:decide ((1:Int)<0)=false) (.o (rfl:(1:Int)=1) (.o (⟨by decide,by decide⟩:(0:Int)<=1∧(1:Int)<=6) (.b (rfl:decide ((0:Int)>0)=false) (.b (rfl:decide ((1:Int)>9223372036854775807)=false) (.o (rfl:(1:Int)=1) (.o (show(0:Int)<=1 by decide) (.o (show(1:Int)<=(ah:Int) by decide) (.m 8 le8 (.b (rfl:decide ((1:Int)<1)=false) .rr))))))))))
 .exact aN hO (.b (rfl:decide ((2:Int)<0)=false) (.o (rfl:(1:Int)=1) (.o (⟨by decide,by decide⟩:(0:Int)<=2∧(2:Int)<=6) (.b (rfl:decide ((0:Int)>0)=false) (.b (rfl:decide ((2:Int)>9223372036854775807)=false) (.o (rfl:(2:Int)=2) (.o (show(0:Int)<=2 by decide) (.o (show(2:Int)<=(ah:Int) by decide) (.m 8 le8 (.b (rfl:decide ((1:Int)<2)=true) (.o (show(0:Int)<=1 by decide) (.o (show(1:Int)<=2 by decide) (.o (show(2:Int)<=2 by decide) (.o (show(0:Int)<=0 by decide) (.o (show(0:Int)<=1 by decide) (.o (show(1:Int)<=2 by decide) (.b (rfl:decide ((2:Int)<2)=false) .rr)))))))))))))))))
 .exact aN hO (.b (rfl:decide ((3:Int)<0)=false) (.o (rfl:(1:Int)=1) (.o (⟨by decide,by decide⟩:(0:Int)<=3∧(3:Int)<=6) (.b (rfl:decide ((0:Int)>0)=false) (.b (rfl:decide ((3:Int)>9223372036854775807)=false) (.o (rfl:(3:Int)=3) (.o (show(0:Int)<=3 by decide) (.o (show(3:Int)<=(ah:Int) by decide) (.m 8 le8 (.b (rfl:decide ((1:Int)<3)=true) (.o (show(0:Int)<=1 by decide) (.o (show(1:Int)<=3 by decide) (.o (show(3:Int)<=3 by decide) (.o (show(0:Int)<=0 by decide) (.o (show(0:Int)<=1 by decide) (.o (show(1:Int)<=3 by decide) (.b (rfl:decide ((2:Int)<3)=true) (.o (show(0:Int)<=2 by decide) (.o (show(2:Int)<=3 by decide) (.o (show(3:Int)<=3 by decide) (.o (show(0:Int)<=0 by decide) (.o (show(0:Int)<=2 by decide) (.o (show(2:Int)<=3 by decide) (.b (rfl:decide ((3:Int)<3)=false) .rr))))))))))))))))))))))))
 .exact aN hO (.b (rfl:decide ((4:Int)<0)=false) (.o (rfl:(1:Int)=1) (.o (⟨by decide,by decide⟩:(0:Int)<=4∧(4:Int)<=6) (.b (rfl:decide ((0:Int)>0)=false) (.b (rfl:decide ((4:Int)>9223372036854775807)=false) (.o (rfl:(4:Int)=4) (.o (show(0:Int)<=4 by decide) (.o (show(4:Int)<=(ah:Int) by decide) (.m 8 le8 (.b (rfl:decide ((1:Int)<4)=true) (.o (show(0:Int)<=1 by decide) (.o (show(1:Int)<=4 by decide) (.o (show(4:Int)<=4 by decide) (.o (show(0:Int)<=0 by decide) (.o (show(0:Int)<=1 by decide) (.o (show(1:Int)<=4 by decide) (.b (rfl:decide ((2:Int)<4)=true) (.o (show(0:Int)<=2 by decide) (.o (show(2:Int)<=4 by decide) (.o (show(4:Int)<=4 by decide) (.o (show(0:Int)<=0 by decide) (.o (show(0:Int)<=2 by decide) (.o (show(2:Int)<=4 by decide) (.b (rfl:decide ((4:Int)<4)=false) .rr))))))))))))))))))))))))
 .exact aN hO (.b (rfl:decide ((5:Int)<0)=false) (.o (rfl:(1:Int)=1) (.o (⟨by decide,by decide⟩:(0:Int)<=5∧(5:Int)<=6) (.b (rfl:decide ((0:Int)>0)=false) (.b (rfl:decide ((5:Int)>9223372036854775807)=false) (.o (rfl:(5:Int)=5) (.o (show(0:Int)<=5 by decide) (.o (show(5:Int)<=(ah:Int) by decide) (.m 8 le8 (.b (rfl:decide ((1:Int)<5)=true) (.o (show(0:Int)<=1 by decide) (.o (show(1:Int)<=5 by decide) (.o (show(5:Int)<=5 by decide) (.o (show(0:Int)<=0 by decide) (.o (show(0:Int)<=1 by decide) (.o (show(1:Int)<=5 by decide) (.b (rfl:decide ((2:Int)<5)=true) (.o (show(0:Int)<=2 by decide) (.o (show(2:Int)<=5 by decide) (.o (show(5:Int)<=5 by decide) (.o (show(0:Int)<=0 by decide) (.o (show(0:Int)<=2 by decide) (.o (show(2:Int)<=5 by decide) (.b (rfl:decide ((4:Int)<5)=true) (.o (show(0:Int)<=4 by decide) (.o (show(4:Int)<=5 by decide) (.o (show(5:Int)<=5 by decide) (.o (show(0:Int)<=0 by decide) (.o (show(0:Int)<=4 by decide) (.o (show(4:Int)<=5 by decide) (.b (rfl:decide ((5:Int)<5)=false) .rr)))))))))))))))))))))))))))))))
 .exact aN hO (.b (rfl:decide ((6:Int)<0)=false) (.o (rfl:(1:Int)=1) (.o (⟨by decide,by decide⟩:(0:Int)<=6∧(6:Int)<=6) (.b (rfl:decide ((0:Int)>0)=false) (.b (rfl:decide ((6:Int)>9223372036854775807)=false) (.o (rfl:(6:Int)=6) (.o (show(0:Int)<=6 by decide) (.o (show(6:Int)<=(ah:Int) by decide) (.m 8 le8 (.b (rfl:decide ((1:Int)<6)=true) (.o (show(0:Int)<=1 by decide) (.o (show(1:Int)<=6 by decide) (.o (show(6:Int)<=6 by decide) (.o (show(0:Int)<=0 by decide) (.o (show(0:Int)<=1 by decide) (.o (show(1:Int)<=6 by decide) (.b (rfl:decide ((2:Int)<6)=true) (.o (show(0:Int)<=2 by decide) (.o (show(2:Int)<=6 by decide) (.o (show(6:Int)<=6 by decide) (.o (show(0:Int)<=0 by decide) (.o (show(0:Int)<=2 by decide) (.o (show(2:Int)<=6 by decide) (.b (rfl:decide ((4:Int)<6)=true) (.o (show(0:Int)<=4 by decide) (.o (show(4:Int)<=6 by decide) (.o (show(6:Int)<=6 by decide) (.o (show(0:Int)<=0 by decide) (.o (show(0:Int)<=4 by decide) (.o (show(4:Int)<=6 by decide) (.b (rfl:decide ((6:Int)<6)=false) .rr)))))))))))))))))))))))))))))))
open Go Tw Pv bW
structure S3 where
 a:Int
 b:Int
 c:Int
 deriving DecidableEq
abbrev S3.ps(s:S3):List (PV aF):=[.int .i64 s.a,.int .i64 s.b,.int .i64 s.c]
def S3.get(s:S3):Nat->Int
 | 0=>s.a
 | 1=>s.b
 |_=>s.c
def S3.set(s:S3)(k:Nat)(v:Int):S3:=match k with
 | 0=>⟨v,s.b,s.c⟩
 | 1=>⟨s.a,v,s.c⟩
 |_=>⟨s.a,s.b,v⟩
structure Jb where
 s:List Int
 o:List Int
 D:List Dg
 g:List Int
abbrev Jb.ps(J:Jb)(op:PV aF):List (PV aF):=[lI J.s,lI J.o,lDg J.D,lI J.g,op]
def kG(d:Dg)(x c:Int):Bool:=if decide (x>=0)=true then((aj d x).var==c)else false
def KR(d:Dg)(x c g:Int):Int:=if kG d x c=true then(aj d x).ay.getD g.toNat 0 else x
theorem aaj{d:Dg}{x c:Int}(e:decide (x>=0)=false):kG d x c=false:=by unfold kG;rw[e];rfl
theorem a7i{d:Dg}{x c:Int}(e:decide (x>=0)=true):kG d x c=((aj d x).var==c):=by unfold kG;rw[e];rfl
abbrev kP(D:List Dg)(k:Nat):Dg:=D.getD k kJ
def jI(D:List Dg)(s:S3)(c:Int):Bool:=!(jK (bF (fun k=>kG (kP D k) (s.get k) c) D.length))
def bJ(D:List Dg)(s:S3)(c g:Int):S3:=aT (fun k y=>y.set k (KR (kP D k) (y.get k) c g)) D.length 0 s
def fG(D:List Dg):S3:=aT (fun k y=>y.set k (kP D k).root) D.length 0 ⟨0,0,0⟩
theorem three{k n:Nat}(h:k<n)(hn:n<=3):k=0∨k=1∨k=2:=by omega
theorem m3{n:Nat}(h:n<=3):n<=ah:=by unfold ah;omega
section
variable {M f:Nat} {a cc:List (PV aF)} {H:List (PB aF)}
abbrev wAs(J:Jb)(op:PV aF)(H:List (PB aF))(s:S3)(c:Int)(i:Int)(x:List (Nat×PE aF)):aQ aF:=⟨[(2,xi c),(4,.loc 1 0),(10,xL 26 J.D),(11,xi J.D.length),(12,xi i)]++x,[J.ps op,s.ps],H⟩
def zAs(J:Jb)(op:PV aF)(H:List (PB aF))(s:S3)(c:Int):Unit⊕Nat->Ex×aQ aF
 |.inl _=>(.exit 0,wAs J op H s c J.D.length [(13,xl false)])
 |.inr k=>(.ret,⟨[(6,xl true)],[J.ps op,s.ps,(kP J.D k).ps],H⟩)
theorem lAs(J:Jb)(s:S3)(c:Int)(hD:J.D.length<=3)(hr:∀k,k<J.D.length->decide (s.get k>=0)=true->gQ (s.get k) (kP J.D k).au.length):OB M 127 0 H.length (wAs J (.fn f a cc) H s c 0 []) (zAs J (.fn f a cc) H s c (bF (fun k=>kG (kP J.D k) (s.get k) c) J.D.length)).1 (zAs J (.fn f a cc) H s c (bF (fun k=>kG (kP J.D k) (s.get k) c) J.D.length)).2:=by
 refine iU (st:=fun i _=>wAs J (.fn f a cc) H s c i []) (g:=gS (fun k=>kG (kP J.D k) (s.get k) c)) (out:=zAs J (.fn f a cc) H s c) (fun _ _=>True) (by kernel_rfl) (m3 hD) trivial (fun k u m hk _ ih=>?_) (fun _ _=>?_)
 .have h1:=hr k hk;have hg:gS (fun k=>kG (kP J.D k) (s.get k) c) k u=if kG (kP J.D k) (s.get k) c=true then .inr k else .inl u:=rfl
  cases e:decide (s.get k>=0)
  .rw[aaj e,a0g (by simp)]at hg;rw[hg];rcases three hk hD with rfl|rfl|rfl
   all_goals exact aK fZ (.b (aW hk) (.o (aG hk) (.b e (.nx (ih _ trivial)))))
  rw[a7i e]at hg;rw[hg];rcases three hk hD with rfl|rfl|rfl
  all_goals exact aK fZ (.b (aW hk) (.o (aG hk) (.b e (.o (h1 e) (.ls (.ou nofun) (.nx (ih _ trivial)))))))
 exact aK fZ (.b (eX J.D.length) (.ou nofun))
theorem a7j(J:Jb)(s:S3)(c:Int)(hD:J.D.length<=3)(hr:∀k,k<J.D.length->decide (s.get k>=0)=true->gQ (s.get k) (kP J.D k).au.length):aX X0 Qp (bQ (M+1)) (.fn 127 [] []) [.agg (J.ps (.fn f a cc)),.agg s.ps,.int .i64 c] H (.bool (jI J.D s c)) H:=by
 have lp:=lAs (M:=M) (f:=f) (a:=a) (cc:=cc) (H:=H) J s c hD hr;unfold jI;cases h:jK (bF (fun k=>kG (kP J.D k) (s.get k) c) J.D.length)
 .exact fP fZ (first:=[]) (cap:=[]) (.w (jW lp 0 h) .er)
 exact fP fZ (first:=[]) (cap:=[]) (.w (jV lp () h) .er)
abbrev wAf(J:Jb)(op:PV aF)(H:List (PB aF))(s:S3)(c g:Int)(i:Int)(x:List (Nat×PE aF)):aQ aF:=⟨[(2,xi c),(3,xi g),(5,.loc 1 0),(8,.loc 2 0),(12,xL 26 J.D),(13,xi J.D.length),(14,xi i)]++x,[J.ps op,s.ps,[.int .i64 0,.int .i64 0,.int .i64 0]],H⟩
structure a1z(d:Dg)(x c g:Int):Prop where
 n:decide (x>=0)=true->gQ x d.au.length
 k:kG d x c=true->gQ g (aj d x).ay.length
theorem Jd(J:Jb)(s:S3)(c g:Int)(hD:J.D.length<=3)(hr:∀k,k<J.D.length->a1z (kP J.D k) (s.get k) c g):aX X0 Qp (bQ (M+1)) (.fn 129 [] []) [.agg (J.ps (.fn f a cc)),.agg s.ps,.int .i64 c,.int .i64 g] H (.agg (bJ J.D s c g).ps) H:=by
 have lp:OB M 129 0 H.length (wAf J (.fn f a cc) H s c g 0 []) (.exit 0) (wAf J (.fn f a cc) H (bJ J.D s c g) c g J.D.length [(15,xl false)]):=by
  refine uy (σ:=S3) (N:=J.D.length) (g:=fun k y=>y.set k (KR (kP J.D k) (y.get k) c g)) (s0:=s) (st:=fun i y=>wAf J (.fn f a cc) H y c g i []) (fin:=fun y=>wAf J (.fn f a cc) H y c g J.D.length [(15,xl false)]) (fun j y=>∀k,j<=k->k<J.D.length->y.get k=s.get k) (by kernel_rfl) (m3 hD) (fun _ _ _=>rfl) (fun j y hj hy=>?_) (fun j y hj hy m e p g9=>?_) (fun y _=>?_)
  .intro k hk lN;rw[<-hy k (by omega) lN];rcases three lN hD with rfl|rfl|rfl<;>rcases three hj hD with rfl|rfl|rfl<;>first|rfl|omega
  .have h1:=hr j hj;rw[<-hy j (a15 _) hj]at h1;obtain⟨h1,h2⟩:=h1;unfold KR at g9;rcases three hj hD with rfl|rfl|rfl
   all_goals
    cases e1:decide (y.get _>=0)
    .unfold kG at g9;rw[e1]at g9;exact aK fZ (.b (aW hj) (.o (aG hj) (.b e1 (.go g9))))
    .have h3:=h1 e1;cases e2:(aj (kP J.D _) (y.get _)).var==c
     .unfold kG at g9;rw[e1,a0h rfl,e2]at g9;exact aK fZ (.b (aW hj) (.o (aG hj) (.b e1 (.o h3 (.b e2 (.go g9))))))
     .unfold kG at g9 h2;rw[e1,a0h rfl,e2]at g9 h2;exact aK fZ (.b (aW hj) (.o (aG hj) (.b e1 (.o h3 (.b e2 (.o h3 (.o (h2 rfl) (.go g9))))))))
  exact aK fZ (.b (eX J.D.length) .ex)
 exact fP fZ (first:=[]) (cap:=[]) (.w lp .er)
abbrev wSt(J:Jb)(op:PV aF)(H:List (PB aF))(s:S3)(i:Int)(x:List (Nat×PE aF)):aQ aF:=⟨[(2,.loc 1 0),(6,xL 26 J.D),(7,xi J.D.length),(8,xi i)]++x,[J.ps op,s.ps],H⟩
theorem ZI(J:Jb)(hD:J.D.length<=3):aX X0 Qp (bQ (M+1)) (.fn 130 [] []) [.agg (J.ps (.fn f a cc))] H (.agg (fG J.D).ps) H:=by
 have lp:OB M 130 0 H.length (wSt J (.fn f a cc) H ⟨0,0,0⟩ 0 []) (.exit 0) (wSt J (.fn f a cc) H (fG J.D) J.D.length [(9,xl false)]):=by
  refine uy (σ:=S3) (N:=J.D.length) (g:=fun k y=>y.set k (kP J.D k).root) (s0:=⟨0,0,0⟩) (st:=fun i y=>wSt J (.fn f a cc) H y i []) (fin:=fun y=>wSt J (.fn f a cc) H y J.D.length [(9,xl false)]) (fun _ _=>True) (by kernel_rfl) (m3 hD) trivial (fun _ _ _ _=>trivial) (fun j y hj _ m e p g9=>?_) (fun y _=>?_)
  .rcases three hj hD with rfl|rfl|rfl
   all_goals exact aK fZ (.b (aW hj) (.o (aG hj) (.go g9)))
  exact aK fZ (.b (eX J.D.length) .ex)
 exact fP fZ (first:=[]) (cap:=[]) (.w lp .er)
end
end Go.Proofs.YtmobpoiejckagaaGreat
namespace Pv
open Go Tw
section
variable {X:kE} {P:Program}
theorem aX.fzR(hX:bM X P){call:aZ}{fv:PV X.Γ}{xs:List (PV X.Γ)}{H H1:List (PB X.Γ)}{v v':PV X.Γ}(hs:aX X P call fv xs H v H1)(is:List Nat)(hv:views H1 [v]=some [v'])(ho:∀i,i∈kH.jS [v]->i∈is):aX X P call fv xs H v' (aY is H1):=by
 intro A m h tf rP hr hf hx;obtain⟨w,h',ws,m1,k1,k2,k3,k4,k5,k6⟩:=hs A m h tf rP hr hf hx;have hF:=iq (h:=h') is m1;have w1:=(kX (m':=bU is m1) hX k2 (.cons k3 .nil) hv ho).mono fun b hb=>FA.gone k2 hb;obtain⟨x,r,e,h1,_⟩:=w1.inv;cases e;exact⟨w,h',ws,bU is m1,k1,k2.aY is,h1,k4.trans hF.1,k5.trans hF.2,k6⟩
end
end Pv
namespace Go.Proofs.YtmobpoiejckagaaGreat
open Go Tw Pv bW
def aU(D:List Dg)(s:S3):List V:=(List.range D.length).map fun k=>oW (kP D k) (s.get k)
def gCe(D:List Dg)(s:S3)(k:Nat)(l:List V):List V:=l++[oW (kP D k) (s.get k)]
theorem a7k(D:List Dg)(s:S3):aT (gCe D s) D.length 0 []=aU D s:=by
 have:=dO (g:=gCe D s) (m:=D.length) (k:=0) (s:=[]) (fun k l=>l=(List.range k).map fun k=>oW (kP D k) (s.get k)) rfl (fun j l _ _ e=>by rw[gCe,e,abI,a3Y];rfl);rw[a3U]at this;exact this
abbrev wCe(J:Jb)(op:PV aF)(H:List (PB aF))(s:S3)(l:List V)(i:Int)(x:List (Nat×PE aF)):aQ aF:=⟨[(3,.loc 1 0),(4,.val (.own H.length)),(8,xL 26 J.D),(9,xi J.D.length),(10,xi i)]++x,[J.ps op,s.ps],H++[.list false false 39 l]⟩
theorem a1A{M f:Nat}(J:Jb)(s:S3)(hD:J.D.length<=3)(hr:∀k,k<J.D.length->gQ (jA (s.get k)) (kP J.D k).aO.length):aX X0 Qp (bQ (M+1)) (.fn 128 [] []) [.agg (J.ps (.fn f [] [])),.agg s.ps] [] (lV (aU J.D s)) []:=by
 have lp:OB M 128 0 0 (wCe J (.fn f [] []) [] s [] 0 []) (.exit 0) (wCe J (.fn f [] []) [] s (aU J.D s) J.D.length [(11,xl false)]):=by
  rw[<-a7k J.D s];refine uy (σ:=List V) (N:=J.D.length) (g:=gCe J.D s) (s0:=[]) (st:=fun i l=>wCe J (.fn f [] []) [] s l i []) (fin:=fun l=>wCe J (.fn f [] []) [] s l J.D.length [(11,xl false)]) (fun k l=>l.length=k) (by kernel_rfl) (m3 hD) rfl (fun j y hj hy=>by simp[gCe,hy]) (fun j y hj hy m e p g9=>?_) (fun y _=>?_)
  .have h1:=hr j hj;have h2:y.length+[oW (kP J.D j) (s.get j)].length<=ah:=by rw[hy,a3s];exact m3 (by omega)
   rcases three hj hD with rfl|rfl|rfl
   all_goals exact aK fZ (.b (aW hj) (.o (aG hj) (.o h1 (.o h2 (.RU [.gc [2]] g9)))))
  exact aK fZ (.b (eX J.D.length) .ex)
 have h0:aX X0 Qp (bQ (M+1)) (.fn 128 [] []) [.agg (J.ps (.fn f [] [])),.agg s.ps] [] (.own 0) ([]++[.list false false 39 (aU J.D s)]):=fP fZ (first:=[]) (cap:=[]) (.wG [.BA 4 39] lp .er);exact aX.cut hX (aX.fzR hX h0 [0] (v':=lV (aU J.D s)) rfl (by decide)) rfl rfl rfl rfl
theorem aak{M f:Nat}{u:Int}(J:Jb)(s:S3)(hD:J.D.length<=3)(hr:∀k,k<J.D.length->gQ (jA (s.get k)) (kP J.D k).aO.length):aX X0 Qp (bQ (M+1)) (.fn 128 [] []) [.agg (J.ps (.fn f [] [.ptr 0 0 1])),.agg s.ps] [.aC [.int .u8 u]] (lV (aU J.D s)) [.aC [.int .u8 u]]:=by
 have lp:OB M 128 0 1 (wCe J (.fn f [] [.ptr 0 0 1]) [.aC [.int .u8 u]] s [] 0 []) (.exit 0) (wCe J (.fn f [] [.ptr 0 0 1]) [.aC [.int .u8 u]] s (aU J.D s) J.D.length [(11,xl false)]):=by
  rw[<-a7k J.D s];refine uy (σ:=List V) (N:=J.D.length) (g:=gCe J.D s) (s0:=[]) (st:=fun i l=>wCe J (.fn f [] [.ptr 0 0 1]) [.aC [.int .u8 u]] s l i []) (fin:=fun l=>wCe J (.fn f [] [.ptr 0 0 1]) [.aC [.int .u8 u]] s l J.D.length [(11,xl false)]) (fun k l=>l.length=k) (by kernel_rfl) (m3 hD) rfl (fun j y hj hy=>by simp[gCe,hy]) (fun j y hj hy m e p g9=>?_) (fun y _=>?_)
  .have h1:=hr j hj;have h2:y.length+[oW (kP J.D j) (s.get j)].length<=ah:=by rw[hy,a3s];exact m3 (by omega)
   rcases three hj hD with rfl|rfl|rfl
   all_goals exact aK fZ (.b (aW hj) (.o (aG hj) (.o h1 (.o h2 (.RU [.gc [3]] g9)))))
  exact aK fZ (.b (eX J.D.length) .ex)
 have h0:aX X0 Qp (bQ (M+1)) (.fn 128 [] []) [.agg (J.ps (.fn f [] [.ptr 0 0 1])),.agg s.ps] [.aC [.int .u8 u]] (.own 1) ([.aC [.int .u8 u]]++[.list false false 39 (aU J.D s)]):=fP fZ (first:=[]) (cap:=[]) (.wG [.BA 4 39] lp .er);exact aX.cut hX (aX.fzR hX h0 [1] (v':=lV (aU J.D s)) rfl (by decide)) rfl rfl rfl rfl
open Go Tw Pv bW
def S3.l(s:S3):List Int:=[s.a,s.b,s.c]
theorem uSt:Tryz.prog.underlying 148=some (.array 3 3):=by kernel_rfl
theorem akc(a b:S3):aB Qp (Op.equal 148 (.agg (Di .i64 a.l)) (.agg (Di .i64 b.l)))=some (decide (a=b)):=by
 have:=Bj (P:=Qp) 9998 (k:=.i64) (l:=a.l) (l':=b.l) uSt (by kernel_rfl) a2U (by kernel_rfl) rfl rfl;refine Eq.trans this ?_;obtain⟨a1,a2,a3⟩:=a;obtain⟨b1,b2,b3⟩:=b;simp[S3.l]
def kS:oD X0 Qp 148 S3 where
 pv x:=.agg x.ps
 tv x:=.agg [.int .i64 x.a,.int .i64 x.b,.int .i64 x.c]
 v x:=.agg (Di .i64 x.l)
 hp _:=rfl
 ht _:=rfl
 hc em x:=by kernel_rfl
 hf x l:=af2 uSt akc x l
 hk:=af4 uSt akc
structure Mk where
 e:List V
 n:List Br
 k:List (S3×Int)
def UQ(D:List Dg)(f:S3->Mk->Int×Mk)(s:S3)(c:Int)(j:Nat)(y:List Int×Mk):List Int×Mk:=(y.1++[(f (bJ D s c j) y.2).1],(f (bJ D s c j) y.2).2)
def knS(k:List (S3×Int))(s:S3):Int:=((k.find? fun e=>decide (e.1=s)).map (·.2)).getD 0
def jB(J:Jb)(op:List V->V):List Int->S3->Mk->Int×Mk
 | [],s,x=>(i64.wrap (0-((x.e++[op (aU J.D s)]).length:Int)),{ x with e:=x.e++[op (aU J.D s)] })
 |c::r,s,x=>if jI J.D s c=true then(if decide (J.g.getD c.toNat 0>=0)=true then jB J op r (bJ J.D s c (J.g.getD c.toNat 0)) x
   else if s∈x.k.map (·.1)then(knS x.k s,x)
   else
    let y:=aT (UQ J.D (jB J op r) s c) (J.s.getD c.toNat 0).toNat 0 ([],x)
    ((y.2.n.length:Int),⟨y.2.e,y.2.n++[⟨c,y.1⟩],y.2.k++[(s,(y.2.n.length:Int))]⟩))
  else jB J op r s x
abbrev Hu(k:List (S3×Int)):List (PV aF×PV aF):=kS.es (k.map fun e=>(e.1,.int .i64 e.2))
abbrev pM:List (PV aF):=[.ptr 2 0 5,.ptr 1 0 5,.ptr 3 0 1,.ptr 4 0 1]
abbrev HM0(J:Jb)(f:Nat)(x:Mk):List (PB aF):=[.map (Hu x.k),.cells [lI J.s,lI J.o,.own 5,.own 6,.int .i64 0],.aC (J.ps (.fn f [] [])),.aC [.fn 126 [] pM],.aC [.map 0],PX x.e,PY x.n]
abbrev aal(J:Jb)(f:Nat)(x:Mk):List (PB aF):=[.map (Hu x.k),.cells [lI J.s,lI J.o,.own 7,.own 8,.int .i64 0],.aC (J.ps (.fn f [] [])),.aC [.fn 126 [] pM],.aC [.map 0],.gone,.gone,PX x.e,PY x.n]
abbrev HM1(J:Jb)(f:Nat)(u:Int)(x:Mk):List (PB aF):=[.map (Hu x.k),.cells [lI J.s,lI J.o,.own 6,.own 7,.int .i64 0],.aC (J.ps (.fn f [] [.ptr 5 0 1])),.aC [.fn 126 [] pM],.aC [.map 0],.aC [.int .u8 u],PX x.e,PY x.n]
abbrev aam(J:Jb)(f:Nat)(u:Int)(x:Mk):List (PB aF):=[.map (Hu x.k),.cells [lI J.s,lI J.o,.own 8,.own 9,.int .i64 0],.aC (J.ps (.fn f [] [.ptr 5 0 1])),.aC [.fn 126 [] pM],.aC [.map 0],.aC [.int .u8 u],.gone,.gone,PX x.e,PY x.n]
open Go Tw Pv bW
theorem S3.jm{s:S3}{i k:Nat}{v:Int}(hi:i<3)(hk:k<3):(s.set i v).get k=if k=i then v else s.get k:=by
 match i,k,hi,hk with
 | 0,0,_,_=>rfl
 | 0,1,_,_=>rfl
 | 0,2,_,_=>rfl
 | 1,0,_,_=>rfl
 | 1,1,_,_=>rfl
 | 1,2,_,_=>rfl
 | 2,0,_,_=>rfl
 | 2,1,_,_=>rfl
 | 2,2,_,_=>rfl
 |i+3,_,h,_=>omega
 |_,k+3,_,h=>omega
theorem Je{D:List Dg}(hD:D.length<=3)(t:S3)(c g:Int){k:Nat}(hk:k<D.length):(bJ D t c g).get k=KR (kP D k) (t.get k) c g:=by
 have:=dO (g:=fun k (y:S3)=>y.set k (KR (kP D k) (y.get k) c g)) (m:=D.length) (k:=0) (s:=t) (fun j y=>∀k,k<D.length->y.get k=if k<j then KR (kP D k) (t.get k) c g else t.get k) (fun k _=>by rw[a0g (by omega)]) (fun j y _ hj hy k hk=>by
  rw[S3.jm (by omega) (by omega)];by_cases e:k=j
  .subst e;rw[a0h rfl,a0h (by omega),hy k hk,a0g (by omega)]
  rw[a0g e,hy k hk];by_cases e2:k<j
  .rw[a0h e2,a0h (by omega)]
  rw[a0g e2,a0g (by omega)])
 have h:=this k hk;rw[a0h (by omega)]at h;exact h
theorem Dl{D:List Dg}{t:S3}{c:Int}:jI D t c=true↔∃k,k<D.length∧kG (kP D k) (t.get k) c=true:=by
 unfold jI;constructor
 .intro h;refine acQ fun h2=>?_;have:jK (bF (fun k=>kG (kP D k) (t.get k) c) D.length)=true:=dI.2 fun k hk=>by
   cases e:kG (kP D k) (t.get k) c
   .rfl
   exact absurd ⟨k,hk,e⟩ h2
  rw[this]at h;cases h
 rintro⟨k,hk,h⟩;cases e:jK (bF (fun k=>kG (kP D k) (t.get k) c) D.length)
 .rfl
 have:=dI.1 e k hk;rw[h]at this;cases this
theorem Ec{d:Dg}{x c:Int}:kG d x c=true↔0<=x∧(aj d x).var=c:=by
 unfold kG;split
 .rename_i h;simp at h;simp[h]
 rename_i h;simp at h;simp;omega
structure DJ(J:Jb)(d:Dg):Prop where
 t:BD d
 n:d.au.length<=6000
 s:d.aA=J.s
 o:d.aH=J.o
 rk:∀i,i<d.au.length->∀k,k<(fC d i).ay.length->d.aH.idxOf (fC d i).var+1<=FV d.aH d.au ((fC d i).ay.getD k 0)
 two:∀i,i<d.au.length->2<=(fC d i).ay.length
structure jP(J:Jb):Prop where
 d3:J.D.length<=3
 eF:wE J.s
 ord:jY J.s.length J.o=true
 dg:∀k,k<J.D.length->DJ J (kP J.D k)
 gl:J.g.length=J.s.length
 gv:∀c,gQ c J.s.length->0<=J.g.getD c.toNat 0->J.g.getD c.toNat 0<J.s.getD c.toNat 0
def Dp(J:Jb)(a:Nat)(t:S3):Prop:=∀k,k<J.D.length->jk (kP J.D k) (t.get k) (kP J.D k).au.length∧a<=FV J.o (kP J.D k).au (t.get k)
theorem Dp.le{J:Jb}{a b:Nat}{t:S3}(h:Dp J a t)(hb:b<=a):Dp J b t:=fun k hk=>⟨(h k hk).1,by have:=(h k hk).2;omega⟩
section
variable {J:Jb} (hJ:jP J) {a:Nat} {t:S3} {c:Int} {r:List Int}
include hJ
theorem jP.o2:J.o.Nodup∧J.o.length=J.s.length∧∀c∈J.o,gQ c J.s.length:=by
 have ho:=hJ.ord;unfold jY at ho;rw[a1X]at ho;exact⟨ho.2.2,ho.1,fun c hc=>⟨(ho.2.1 c hc).1,(ho.2.1 c hc).2⟩⟩
theorem jP.at_(hr:J.o.drop a=c::r):a<J.o.length∧J.o.getD a 0=c∧J.o.drop (a+1)=r∧c∈J.o∧J.o.idxOf c=a∧gQ c J.s.length:=by
 have aS:a<J.o.length:=by
  have:=congrArg List.length hr;rw[a3S,a3V]at this;omega
 have hd:=a4P aS;rw[hr]at hd;obtain⟨hc,wX⟩:=afa hd;have GR:c∈J.o:=by rw[hc];exact a4w aS
 obtain⟨h1,h2,h3⟩:=jP.o2 hJ;exact⟨aS,by rw[hc];simp[List.getD,a0a aS],wX.symm,GR,by rw[hc];exact h1.idxOf_getElem a aS,h3 c GR⟩
theorem ZJ(hr:J.o.drop a=c::r)(h:jI J.D t c=true):¬Dp J (a+1) t:=fun hd=>by
 obtain⟨k,hk,h1⟩:=Dl.1 h;obtain⟨x0,hv⟩:=Ec.1 h1;have:=(hd k hk).2;unfold FV at this;rw[a0g (by omega)]at this;have e:((kP J.D k).au.getD (t.get k).toNat mQ).var=c:=hv;rw[e,(jP.at_ hJ hr).2.2.2.2.1]at this;omega
theorem a1B(hr:J.o.drop a=c::r)(hd:Dp J a t){k:Nat}(hk:k<J.D.length)(hn:kG (kP J.D k) (t.get k) c=false):a+1<=FV J.o (kP J.D k).au (t.get k):=by
 have h1:=(hd k hk).2;have h2:=jP.at_ hJ hr;by_cases x0:t.get k<0
 .unfold FV;rw[a0h x0];omega
 have iy:((kP J.D k).au.getD (t.get k).toNat mQ).var≠c:=fun e=>by
  have:kG (kP J.D k) (t.get k) c=true:=Ec.2 ⟨by omega,e⟩;rw[hn]at this;cases this
 unfold FV at h1 ⊢;rw[a0g x0]at h1 ⊢;rcases a4a a (J.o.idxOf ((kP J.D k).au.getD (t.get k).toNat mQ).var)with h3|h3
 .exact h3
 exfalso;have e:J.o.idxOf ((kP J.D k).au.getD (t.get k).toNat mQ).var=a:=by omega
 have aS:J.o.idxOf ((kP J.D k).au.getD (t.get k).toNat mQ).var<J.o.length:=by rw[e];exact h2.1
 have g:J.o.getD (J.o.idxOf ((kP J.D k).au.getD (t.get k).toNat mQ).var) 0=((kP J.D k).au.getD (t.get k).toNat mQ).var:=by
  rw[List.getD,a0a aS,a4H];exact a8z aS
 rw[e,h2.2.1]at g;exact iy g.symm
theorem UR(hr:J.o.drop a=c::r)(hd:Dp J a t)(h:jI J.D t c=false):Dp J (a+1) t:=fun k hk=>by
 refine⟨(hd k hk).1,a1B hJ hr hd hk ?_⟩;cases e:kG (kP J.D k) (t.get k) c
 .rfl
 .have:=Dl.2 ⟨k,hk,e⟩;rw[h]at this;cases this
theorem Hw(hd:Dp J a t){k:Nat}(hk:k<J.D.length)(h:kG (kP J.D k) (t.get k) c=true):gQ (t.get k) (kP J.D k).au.length∧(aj (kP J.D k) (t.get k)).var=c∧((aj (kP J.D k) (t.get k)).ay.length:Int)=J.s.getD c.toNat 0:=by
 obtain⟨x0,hv⟩:=Ec.1 h;have hr:gQ (t.get k) (kP J.D k).au.length:=⟨x0,(hd k hk).1.1⟩;have hdj:=hJ.dg k hk;have:=hdj.t.ksz (t.get k).toNat (by have:=hr.2;omega);refine⟨hr,hv,?_⟩;have e:(aj (kP J.D k) (t.get k))=fC (kP J.D k) (t.get k).toNat:=rfl;rw[e,this,<-e,hv,hdj.s]
theorem lY(hr:J.o.drop a=c::r)(hd:Dp J a t){j:Int}(hj:0<=j∧j<J.s.getD c.toNat 0):Dp J (a+1) (bJ J.D t c j):=fun k hk=>by
 rw[Je hJ.d3 t c j hk];unfold KR;split
 .rename_i h;obtain⟨h1,h2,h3⟩:=Hw hJ hd hk h;have hdj:=hJ.dg k hk;have aS:(t.get k).toNat<(kP J.D k).au.length:=by have:=h1.1;have:=h1.2;omega
  have JG:j.toNat<(fC (kP J.D k) (t.get k).toNat).ay.length:=by
   have h3:((fC (kP J.D k) (t.get k).toNat).ay.length:Int)=J.s.getD c.toNat 0:=h3;omega
  have g1:=hdj.t.Aq (t.get k).toNat aS j.toNat JG;have g2:=hdj.rk (t.get k).toNat aS j.toNat JG;refine⟨⟨by have:=g1.1;show(fC (kP J.D k) (t.get k).toNat).ay.getD j.toNat 0<_;omega,g1.2⟩,?_⟩;have e:(fC (kP J.D k) (t.get k).toNat).var=c:=h2;rw[hdj.o,e,(jP.at_ hJ hr).2.2.2.2.1]at g2;exact g2
 .rename_i h;exact⟨(hd k hk).1,a1B hJ hr hd hk (by simpa using h)⟩
theorem Jf(hd:Dp J a t){j:Int}(hj:0<=j∧j<J.s.getD c.toNat 0){k:Nat}(hk:k<J.D.length):a1z (kP J.D k) (t.get k) c j:=by
 refine⟨fun h=>⟨by simpa using h,(hd k hk).1.1⟩,fun h=>?_⟩;have:=(Hw hJ hd hk h).2.2;exact⟨hj.1,by rw[this];exact hj.2⟩
theorem UU(hr:J.o.drop a=c::r)(hd:Dp J a t)(h:jI J.D t c=true):2<=(J.s.getD c.toNat 0).toNat:=by
 obtain⟨k,hk,h1⟩:=Dl.1 h;obtain⟨h2,h3,h4⟩:=Hw hJ hd hk h1;have:=(hJ.dg k hk).two (t.get k).toNat (by have:=h2.1;have:=h2.2;omega);have h4:((fC (kP J.D k) (t.get k).toNat).ay.length:Int)=J.s.getD c.toNat 0:=h4;omega
theorem Jg(hd:Dp J J.o.length t){k:Nat}(hk:k<J.D.length):t.get k<0∧gQ (jA (t.get k)) (kP J.D k).aO.length:=by
 have h1:=hd k hk;have:t.get k<0:=by
  refine acQ fun h=>?_;have h2:=h1.2;unfold FV at h2;rw[a0g h]at h2;have hdj:=hJ.dg k hk;have aS:(t.get k).toNat<(kP J.D k).au.length:=by have:=h1.1.1;omega
  have hv:=hdj.t.var (t.get k).toNat aS;rw[hdj.s]at hv;have:=a4F.2 (mF hJ.ord hv);have e:(fC (kP J.D k) (t.get k).toNat).var=((kP J.D k).au.getD (t.get k).toNat mQ).var:=rfl;rw[e]at this;omega
 exact⟨this,h1.1.2 this⟩
end
open Go Tw Pv bW
def ov(g q:List Int):List Int:=List.zipWith (fun a b=>if 0<=a then a else b) g q
theorem P7{g q:List Int}{k:Nat}(h:g.length=q.length):(ov g q).getD k 0=if k<g.length then(if 0<=g.getD k 0 then g.getD k 0 else q.getD k 0)else 0:=by
 unfold ov;by_cases hk:k<g.length
 .rw[a0h hk];simp[List.getD,List.getElem?_zipWith,a0a hk,a0a (show k<q.length by omega)]
 rw[a0g hk];simp[List.getD,List.getElem?_zipWith,a3X (show g.length<=k by omega)]
def a7n(J:Jb)(op:List V->V)(q:List Int)(t:S3)(v:V):Prop:=∃l:List V,l.length=J.D.length∧(∀k,k<J.D.length->To (kP J.D k) (ov J.g q) (t.get k) (l.getD k V0))∧v=op l
def Sem(J:Jb)(op:List V->V)(v:Int)(t:S3)(x:EN):Prop:=∀Z:Dg,Z.aO.length<2^61->x.1 <+: Z.aO->x.2 <+: Z.au->∀q,mO J.s q=true->∃u,To Z q v u∧a7n J op q t u
theorem Sem.mono{J:Jb}{op:List V->V}{v:Int}{t:S3}{x y:EN}(h:Sem J op v t x)(hp:ZC x y):Sem J op v t y:=fun Z hZ h1 h2=>h Z hZ (hp.1.trans h1) (hp.2.trans h2)
abbrev Mk.en(x:Mk):EN:=(x.e,x.n)
def Hy(v:V):Prop:=vOk v=true∧0<=v.f
structure XOk(J:Jb)(op:List V->V)(x:Mk):Prop where
 v:PtV J.s J.o x.en
 k:∀e∈x.k,gQ e.2 x.n.length∧jI J.D e.1 (x.n.getD e.2.toNat mQ).var=true∧Sem J op e.2 e.1 x.en
 nd:(x.k.map (·.1)).Nodup
 e:∀v∈x.e,Hy v
 w:∀b∈x.n,∀v∈b.ay,KP v
structure a3o(J:Jb)(op:List V->V)(a:Nat)(w:Nat)(t:S3)(x:Mk)(z:Int×Mk):Prop where
 pre:ZC x.en z.2.en
 el:z.2.e.length<=x.e.length+w
 nl:z.2.n.length+1<=x.n.length+w
 ok:XOk J op z.2
 rf:OZ J.o z.2.en z.1 z.2.n.length a
 sm:Sem J op z.1 t z.2.en
 ks:∀e∈z.2.k,e∈x.k∨Dp J a e.1
 w:KP z.1
theorem XOk.mono{J:Jb}{op:List V->V}{x:Mk}{e:List V}(h:XOk J op x)(hp:x.e <+: e)(he:∀v∈e,Hy v):XOk J op { x with e:=e }:=by
 have hq:ZC x.en (e,x.n):=⟨hp,a7l⟩;exact⟨⟨h.v.var,h.v.ksz,fun i hi k hk=>(h.v.Aq i hi k hk).mono hq (a15 _) (abm hi) (a15 _)⟩,fun e he=>⟨(h.k e he).1,(h.k e he).2.1,(h.k e he).2.2.mono hq⟩,h.nd,he,h.w⟩
theorem P8{J:Jb}(hJ:jP J){op:List V->V}{q:List Int}{t:S3}{a:Nat}(hd:Dp J a t){c j:Int}{u:V}(hj:(ov J.g q).getD c.toNat 0=j)(h:a7n J op q (bJ J.D t c j) u):a7n J op q t u:=by
 obtain⟨l,h1,h2,h3⟩:=h;refine⟨l,h1,fun k hk=>?_,h3⟩;have h4:=h2 k hk;rw[Je hJ.d3 t c j hk]at h4;unfold KR at h4;split at h4
 .rename_i h5;obtain⟨h6,h7,_⟩:=Hw hJ hd hk h5;refine .step h6.1 ?_;rw[h7,hj];exact h4
 exact h4
def wL(J:Jb)(op:List V->V):Prop:=∀t,Dp J J.o.length t->Hy (op (aU J.D t))
theorem aan{J:Jb}(hJ:jP J)(op:List V->V)(kD:wL J op){t:S3}{x:Mk}(hd:Dp J J.o.length t)(hx:XOk J op x)(hb:x.e.length+1<=2^60):a3o J op J.o.length 1 t x (jB J op [] t x):=by
 have e0:i64.wrap (0-((x.e++[op (aU J.D t)]).length:Int))=-1-(x.e.length:Int):=by
  rw[a2a,a3s,fH (by omega) (by omega)];omega
 obtain⟨_,e2⟩:=a6X (k:=x.e.length) (by omega);have hp:x.e <+: x.e++[op (aU J.D t)]:=a96 _ _;show a3o J op J.o.length 1 t x (i64.wrap (0-((x.e++[op (aU J.D t)]).length:Int)),_);rw[e0];refine⟨⟨hp,a7l⟩,by simp,a15 _,hx.mono hp (fun v hv=>by rcases a3K.1 hv with hv|hv;exact hx.e v hv;rw[a2I.1 hv];exact kD t hd),⟨fun _=>?_,?_,?_⟩,fun Z hZ g1 g2 q hq=>?_,fun e he=>.inl he,⟨by show _<=-1-(x.e.length:Int);omega,by show -1-(x.e.length:Int)<_;omega⟩⟩
 .rw[e2];exact⟨by omega,by simp;omega⟩
 .show -1-(x.e.length:Int)<_;omega
 .unfold FV;rw[a0h (by show -1-(x.e.length:Int)<0;omega)];exact a15 _
 have h1:=To.fin (d:=Z) (q:=q) (r:=-1-(x.e.length:Int)) (by omega);rw[e2,a7m]at h1;have g1:x.e++[op (aU J.D t)] <+: Z.aO:=g1;have e3:Z.aO.getD x.e.length V0=op (aU J.D t):=by
  rw[OY g1 (by simp)];simp[List.getD]
 rw[e3]at h1;refine⟨_,h1,aU J.D t,by simp[aU],fun k hk=>?_,rfl⟩;have h2:=Jg hJ hd hk;have e4:(aU J.D t).getD k V0=oW (kP J.D k) (t.get k):=by simp[aU,List.getD,hk]
 rw[e4];exact .fin h2.1
theorem Dn{α:Type}{l:List α}{a:α}(h:l.Nodup)(ha:a∉l):(l++[a]).Nodup:=by
 rw[a8B];exact⟨h,by simp,fun x hx y hy e=>by simp at hy;subst hy;subst e;exact ha hx⟩
theorem Jh{α:Type}{l:List α}{x d:α}{j:Nat}:(l++[x]).getD j d=if j<l.length then l.getD j d else if j=l.length then x else d:=by
 split
 .rename_i h;simp[List.getD,a0e h]
 rename_i h;split
 .rename_i h2;subst h2;simp[List.getD]
 rename_i h2;rw[List.getD,a3X (by simp;omega)];rfl
theorem SL{J:Jb}(hJ:jP J)(op:List V->V)(kD:wL J op):∀(r:List Int) (a:Nat) (t:S3) (x:Mk),J.o.drop a=r->a<=J.o.length->Dp J a t->XOk J op x->x.e.length+wO J.s r<=2^60->x.n.length+wO J.s r<=2^60->a3o J op a (wO J.s r) t x (jB J op r t x)
 | [],a,t,x,hr,ha,hd,hx,hb,xJ=>by
  have:a=J.o.length:=by
   have:=congrArg List.length hr;rw[a3S,a5J]at this;omega
  subst this;exact aan hJ op kD hd hx hb
 |c::r,a,t,x,hr,ha,hd,hx,hb,xJ=>by
  obtain⟨aS,hoc,wX,GR,hci,rX⟩:=jP.at_ hJ hr;have hz:=hJ.eF.sz _ (dW (s:=J.s) (k:=c.toNat) (by have:=rX.1;have:=rX.2;omega));have hri:∀c'∈r,gQ c' J.s.length:=fun c' h=>(jP.o2 hJ).2.2 c' (by rw[<-wX]at h;exact a6r h);have hw:=UO hJ.eF.sz hri;have hw1:wO J.s r<=(J.s.getD c.toNat 0).toNat*wO J.s r:=adx _ (by omega);simp only[wO]at hb xJ ⊢;have up:∀{t':S3} {z:Int×Mk},a3o J op (a+1) (wO J.s r) t' x z->(∀q u,mO J.s q=true->a7n J op q t' u->a7n J op q t u)->a3o J op a ((J.s.getD c.toNat 0).toNat*wO J.s r) t x z:=fun{t' z} h hs=>
   ⟨h.pre,by have:=h.el;omega,by have:=h.nl;omega,h.ok,h.rf.mono ZC.rfl (a15 _) (a15 _) (by omega),fun Z hZ g1 g2 q hq=>let ⟨u,u1,u2⟩:=h.sm Z hZ g1 g2 q hq;⟨u,u1,hs q u hq u2⟩,fun e he=>(h.ks e he).imp id fun h=>h.le (by omega),h.w⟩
  unfold jB;cases Az:jI J.D t c
  .rw[a0g (by simp)];exact up (SL hJ op kD r (a+1) t x wX aS (UR hJ hr hd Az) hx (by omega) (by omega)) fun _ _ _ h=>h
  rw[a0h rfl];by_cases hg:J.g.getD c.toNat 0>=0
  .rw[a0h (by simpa using hg)];refine up (SL hJ op kD r (a+1) _ x wX aS (lY hJ hr hd ⟨hg,hJ.gv c rX hg⟩) hx (by omega) (by omega)) fun q u hq h=>P8 hJ hd ?_ h;rw[P7 (by rw[hJ.gl,zn hq]),a0h (by rw[hJ.gl];have:=rX.1;have:=rX.2;omega),a0h hg]
  rw[a0g (by simpa using hg)];by_cases hk:t∈x.k.map (·.1)
  .rw[a0h hk];obtain⟨e,he,rfl⟩:=a1f.1 hk;have hkn:knS x.k e.1=e.2:=by
    have:x.k.find? (fun y=>decide (y.1=e.1))=some e:=by
     have je:=hx.nd;clear hb up hk Az hd;generalize x.k=l at he je
     induction l with
     |nil=>cases he
     |cons y l ih=>
      rw[agE];rcases a1Y.1 he with rfl|he
      .simp
      have:¬y.1=e.1:=fun h=>by
       rw[a3Z,a4g]at je;exact je.1 (a1f.2 ⟨e,he,h.symm⟩)
      rw[afZ this];rw[a3Z,a4g]at je;exact ih he je.2
    unfold knS;rw[this];rfl
   rw[hkn];obtain⟨k1,k2,k3⟩:=hx.k e he;have hmul:2*1<=(J.s.getD c.toNat 0).toNat*wO J.s r:=agP (UU hJ hr hd Az) hw;refine⟨ZC.rfl,by show x.e.length<=_;omega,by show x.n.length+1<=_;omega,hx,⟨fun h=>by have:=k1.1;show gQ _ _;exact absurd h (by omega),k1.2,?_⟩,k3,fun _ h=>.inl h,⟨by have:=k1.1;show _<=e.2;omega,by have:=k1.2;show e.2<_;omega⟩⟩;obtain⟨k,hk,h1⟩:=Dl.1 k2;obtain⟨x0,hv⟩:=Ec.1 h1;have h2:=(hd k hk).2;unfold FV at h2 ⊢;rw[a0g (by omega)]at h2;have k10:=k1.1;rw[a0g (show ¬e.2<0 by omega)];have hv:((kP J.D k).au.getD (e.1.get k).toNat mQ).var=(x.n.getD e.2.toNat mQ).var:=hv;rw[hv]at h2;exact h2
  rw[a0g hk];have hm2:=UU hJ hr hd Az;have Yh:∀j,j<(J.s.getD c.toNat 0).toNat->j*wO J.s r+wO J.s r<=(J.s.getD c.toNat 0).toNat*wO J.s r:=fun j hj=>by
   have:(j+1)*wO J.s r<=(J.s.getD c.toNat 0).toNat*wO J.s r:=a3P _ hj;rw[a3Q]at this;omega
  have inv:=dO (g:=UQ J.D (jB J op r) t c) (m:=(J.s.getD c.toNat 0).toNat) (k:=0) (s:=([],x)) (fun k y=>y.1.length=k∧ZC x.en y.2.en∧y.2.e.length<=x.e.length+k*wO J.s r∧y.2.n.length+k<=x.n.length+k*wO J.s r∧XOk J op y.2∧(∀e∈y.2.k,e∈x.k∨Dp J (a+1) e.1)∧(∀v∈y.1,KP v)∧∀j:Nat,j<k->OZ J.o y.2.en (y.1.getD j 0) y.2.n.length (a+1)∧Sem J op (y.1.getD j 0) (bJ J.D t c j) y.2.en)
   ⟨rfl,ZC.rfl,by simp,by simp,hx,fun _ h=>.inl h,(fun v hv=>by cases hv),fun j hj=>by omega⟩ (fun j y _ hj hy=>by
    obtain⟨y1,y2,y3,y4,y5,y6,y8,y7⟩:=hy;have Yh:=Yh j (by omega);have h:=SL hJ op kD r (a+1) (bJ J.D t c j) y.2 wX aS (lY hJ hr hd ⟨by omega,by omega⟩) y5 (by omega) (by omega);refine⟨by simp[UQ,y1],y2.trans h.pre,?_,?_,h.ok,fun e he=>?_,fun v hv=>?_,fun j' Ew=>?_⟩
    .have:=h.el;show(jB J op r (bJ J.D t c j) y.2).2.e.length<=_;rw[a3Q];omega
    .have:=h.nl;show(jB J op r (bJ J.D t c j) y.2).2.n.length+_<=_;rw[a3Q];omega
    .rcases h.ks e he with h1|h1
     .exact y6 e h1
     .exact .inr h1
    .have hv:v∈y.1++[(jB J op r (bJ J.D t c j) y.2).1]:=hv;rcases a3K.1 hv with hv|hv
     .exact y8 v hv
     .rw[a2I.1 hv];exact h.w
    .have e1:(UQ J.D (jB J op r) t c j y).1.getD j' 0=if j'<j then y.1.getD j' 0 else(jB J op r (bJ J.D t c j) y.2).1:=by
      show(y.1++[_]).getD j' 0=_;rw[Jh,y1];split
      .rfl
      .rw[a0h (by omega)]
     rw[e1];by_cases e:j'<j
     .rw[a0h e];obtain⟨a1,a2⟩:=y7 j' e;exact⟨a1.mono h.pre h.pre.2.length_le (a15 _) (a15 _),a2.mono h.pre⟩
     .rw[a0g e];have e:j'=j:=(by omega);subst e;exact⟨h.rf,h.sm⟩)
  rw[a3U]at inv;simp only[];generalize aT (UQ J.D (jB J op r) t c) (J.s.getD c.toNat 0).toNat 0 ([],x)=y at inv;obtain⟨ks,m⟩:=y;obtain⟨y1,y2,y3,y4,y5,y6,y8,y7⟩:=inv;have y1:ks.length=(J.s.getD c.toNat 0).toNat:=y1;have hp:ZC m.en (m.e,m.n++[(⟨c,ks⟩:Br)]):=⟨a7l,a96 _ _⟩;have gW:(m.n++[(⟨c,ks⟩:Br)]).getD m.n.length mQ=⟨c,ks⟩:=by simp[List.getD]
  have a4G:Sem J op (m.n.length:Int) t (m.e,m.n++[(⟨c,ks⟩:Br)]):=fun Z hZ g1 g2 q hq=>by
   have g2:m.n++[(⟨c,ks⟩:Br)] <+: Z.au:=g2;have Yq:=(wF.1 hq).2 c.toNat (by have:=rX.1;have:=rX.2;omega);have hj:(q.getD c.toNat 0).toNat<(J.s.getD c.toNat 0).toNat:=(by omega);obtain⟨u,u1,u2⟩:=(y7 _ hj).2 Z hZ g1 ((a96 _ _).trans g2) q hq;have en:aj Z (m.n.length:Int)=⟨c,ks⟩:=by
    show Z.au.getD (m.n.length:Int).toNat mQ=_;rw[a7m,OY g2 (by simp),gW]
   refine⟨u,.step (by omega) (by rw[en];exact u1),P8 hJ hd ?_ u2⟩;rw[P7 (by rw[hJ.gl,zn hq]),a0h (by rw[hJ.gl];have:=rX.1;have:=rX.2;omega),a0g (by omega)];omega
  have hv2:PtV J.s J.o (m.e,m.n++[(⟨c,ks⟩:Br)]):=by
   have hg:∀i,i<(m.n++[(⟨c,ks⟩:Br)]).length->(i<m.n.length∧(m.n++[(⟨c,ks⟩:Br)]).getD i mQ=m.n.getD i mQ)∨(i=m.n.length∧(m.n++[(⟨c,ks⟩:Br)]).getD i mQ=⟨c,ks⟩):=fun i hi=>by
    simp only[a2a,a3s]at hi;rcases a4a i m.n.length with h|h
    .exact .inl ⟨h,by rw[Jh,a0h h]⟩
    exact .inr ⟨by omega,by rw[show i=m.n.length by omega,gW]⟩
   refine⟨fun i hi=>?_,fun i hi=>?_,fun i hi k hk=>?_⟩
   .rcases hg i hi with⟨h1,h2⟩|⟨h1,h2⟩
    .show gQ ((m.n++[_]).getD i mQ).var _;rw[h2];exact y5.v.var i h1
    show gQ ((m.n++[_]).getD i mQ).var _;rw[h2];exact rX
   .rcases hg i hi with⟨h1,h2⟩|⟨h1,h2⟩
    .show(((m.n++[_]).getD i mQ).ay.length:Int)=J.s.getD ((m.n++[_]).getD i mQ).var.toNat 0;rw[h2];exact y5.v.ksz i h1
    show(((m.n++[_]).getD i mQ).ay.length:Int)=J.s.getD ((m.n++[_]).getD i mQ).var.toNat 0;rw[h2];show(ks.length:Int)=J.s.getD c.toNat 0;omega
   rcases hg i hi with⟨h1,h2⟩|⟨h1,h2⟩
   .have hk:k<((m.n++[(⟨c,ks⟩:Br)]).getD i mQ).ay.length:=hk;show OZ J.o _ (((m.n++[(⟨c,ks⟩:Br)]).getD i mQ).ay.getD k 0) i (J.o.idxOf ((m.n++[(⟨c,ks⟩:Br)]).getD i mQ).var+1);rw[h2]at hk ⊢;exact(y5.v.Aq i h1 k hk).mono hp (a15 _) (abm h1) (a15 _)
   have hk:k<((m.n++[(⟨c,ks⟩:Br)]).getD i mQ).ay.length:=hk;show OZ J.o _ (((m.n++[(⟨c,ks⟩:Br)]).getD i mQ).ay.getD k 0) i (J.o.idxOf ((m.n++[(⟨c,ks⟩:Br)]).getD i mQ).var+1);rw[h2]at hk ⊢;have hk:k<ks.length:=hk;subst h1;show OZ J.o _ (ks.getD k 0) m.n.length (J.o.idxOf c+1);rw[hci];exact(y7 k (by omega)).1.mono hp (a15 _) (a15 _) (a15 _)
  have y5:XOk J op m:=y5;have y6:∀e∈m.k,e∈x.k∨Dp J (a+1) e.1:=y6;refine⟨y2.trans hp,y3,?_,⟨hv2,fun e he=>?_,?_,y5.e,fun b hb=>?_⟩,⟨fun h=>?_,?_,?_⟩,a4G,fun e he=>?_,⟨by show _<=(m.n.length:Int);omega,by have y4:m.n.length+_<=x.n.length+_:=y4;show(m.n.length:Int)<_;omega⟩⟩
  .show(m.n++[_]).length+1<=_;rw[a2a,a3s];have y4:m.n.length+(J.s.getD c.toNat 0).toNat<=x.n.length+(J.s.getD c.toNat 0).toNat*wO J.s r:=y4;omega
  .rcases a3K.1 he with he|he
   .obtain⟨k1,k2,k3⟩:=y5.k e he;have aS:e.2.toNat<m.n.length:=by have:=k1.1;have:=k1.2;omega
    refine⟨⟨k1.1,?_⟩,?_,k3.mono hp⟩
    .have:=k1.2;show e.2<((m.n++[_]).length:Int);rw[a2a];omega
    show jI J.D e.1 ((m.n++[_]).getD e.2.toNat mQ).var=true;rw[Jh,a0h aS];exact k2
   rw[a2I.1 he];refine⟨⟨by omega,by show(m.n.length:Int)<((m.n++[_]).length:Int);rw[a2a,a3s];omega⟩,?_,a4G⟩;show jI J.D t ((m.n++[_]).getD (m.n.length:Int).toNat mQ).var=true;rw[a7m,gW];exact Az
  .rw[a3Y];refine Dn y5.nd fun h=>?_;obtain⟨e,he,e2⟩:=a1f.1 h;rcases y6 e he with h1|h1
   .exact hk (a1f.2 ⟨e,h1,e2⟩)
   rw[e2]at h1;exact ZJ hJ hr Az h1
  .have hb:b∈m.n++[(⟨c,ks⟩:Br)]:=hb;rcases a3K.1 hb with hb|hb
   .exact y5.w b hb
   rw[a2I.1 hb];exact y8
  .exact absurd h (by show ¬((m.n.length:Int)<0);omega)
  .show(m.n.length:Int)<((m.n++[_]).length:Int);rw[a2a,a3s];omega
  .show a<=FV J.o (m.n++[_]) (m.n.length:Int);unfold FV;rw[a0g (by omega),a7m,gW];show a<=J.o.idxOf c;omega
  rcases a3K.1 he with he|he
  .rcases y6 e he with h1|h1
   .exact .inl h1
   exact .inr (h1.le (by omega))
  rw[a2I.1 he];exact .inr hd
open Go Tw Pv bW
def oZ(J:Jb)(op:List V->V):Dg:=⟨J.s,J.o,(jB J op J.o (fG J.D) ⟨[],[],[]⟩).2.e,(jB J op J.o (fG J.D) ⟨[],[],[]⟩).2.n,(jB J op J.o (fG J.D) ⟨[],[],[]⟩).1⟩
def Ji(J:Jb)(op:List V->V):Dg:=(zy (oZ J op)).1
theorem zA{D:List Dg}(hD:D.length<=3){k:Nat}(hk:k<D.length):(fG D).get k=(kP D k).root:=by
 have:=dO (g:=fun k (y:S3)=>y.set k (kP D k).root) (m:=D.length) (k:=0) (s:=⟨0,0,0⟩) (fun j y=>∀k,k<j->y.get k=(kP D k).root) (fun k hk=>by omega) (fun j y _ hj hy k hk=>by
  rw[S3.jm (by omega) (by omega)];by_cases e:k=j
  .rw[a0h e,e]
  rw[a0g e];exact hy k (by omega))
 exact this k (by omega)
theorem a7o{J:Jb}(hJ:jP J){op:List V->V}(kD:wL J op):a3o J op 0 (wO J.s J.o) (fG J.D) ⟨[],[],[]⟩ (jB J op J.o (fG J.D) ⟨[],[],[]⟩):=by
 have hw:=OW hJ.eF.sz hJ.ord;have hm:=hJ.eF.many;refine SL hJ op kD J.o 0 (fG J.D) ⟨[],[],[]⟩ (abt) (a4v _) (fun k hk=>?_) ⟨⟨fun i hi=>(by simp at hi),fun i hi=>(by simp at hi),fun i hi=>(by simp at hi)⟩,fun e he=>(by cases he),a7f,fun v hv=>(by cases hv),fun b hb=>(by cases hb)⟩ (by show 0+wO J.s J.o<=_;omega) (by show 0+wO J.s J.o<=_;omega);rw[zA hJ.d3 hk];exact⟨(hJ.dg k hk).t.root,a4v _⟩
theorem Jj{J:Jb}(hJ:jP J){op:List V->V}(kD:wL J op):bG (oZ J op)=0∧(oZ J op).aO.length<=2000∧∀v∈(oZ J op).aO,Hy v:=by
 have h:=a7o hJ kD;have hw:=OW hJ.eF.sz hJ.ord;have hm:=hJ.eF.many;have h1:(oZ J op).aO.length<=0+wO J.s J.o:=h.el;have h2:(oZ J op).au.length+1<=0+wO J.s J.o:=h.nl;refine⟨a3k (by unfold ah;omega) ?_ (fun v hv=>(h.ok.e v hv).1) (by omega) h.ok.v h.rf,by omega,h.ok.e⟩;have:dh J.s J.o=0:=lT.2 ⟨hJ.eF,hJ.ord⟩;show(dh J.s J.o != 0)=false;rw[this];rfl
theorem a7p{J:Jb}(hJ:jP J){op:List V->V}(kD:wL J op):Ih (oZ J op):=by
 have h:=a7o hJ kD;exact⟨fun i hi k hk=>h.ok.w _ (Xq hi) _ (dW hk),h.w,fun v hv=>(h.ok.e v hv).2⟩
theorem XJ{J:Jb}(hJ:jP J){op:List V->V}(kD:wL J op):bD (oZ J op)=(yG (oZ J op),0)∧Ji J op=afh J.s J.o (cellsD (oZ J op)):=by
 obtain⟨h1,h2,h3⟩:=Jj hJ kD;have hr:=a7p hJ kD;have ho:=(jP.o2 hJ).2.1;have hl:=hJ.eF.len;have e:=J8 hr (by unfold ah;omega);rw[h1]at e;have hf:¬(dh (oZ J op).aA (oZ J op).aH != 0)=true:=by
  have:dh J.s J.o=0:=lT.2 ⟨hJ.eF,hJ.ord⟩;show ¬(dh J.s J.o != 0)=true;rw[this];simp
 rw[a0g hf]at e;refine⟨e,?_⟩;unfold Ji zy;rw[e];show eU (oZ J op)=_;exact(a7b h1 (by show J.o.length<=ah;unfold ah;omega) (by unfold ah;omega)).1
end Go.Proofs.YtmobpoiejckagaaGreat
namespace bW
open Tw
section
variable {κ:Type} [DecidableEq κ]
def rQ(m:List (κ×Int))(k:κ)(n:Int):List (κ×Int):=
 if k∈m.map (·.1)then m.modify ((m.map (·.1)).idxOf k) (fun e=>(e.1,e.2+n))else m++[(k,n)]
def dD(φ:κ->Int):List (κ×Int)->Int
 | []=>0
 |e::m=>e.2*φ e.1+dD φ m
theorem XK(φ:κ->Int):∀a b:List (κ×Int),dD φ (a++b)=dD φ a+dD φ b
 | [],b=>by simp[dD]
 |e::a,b=>by simp only[List.cons_append,dD,XK φ a b];omega
theorem XL(φ:κ->Int){k:κ}{n:Int}:∀{m:List (κ×Int)},k∈m.map (·.1)->dD φ (m.modify ((m.map (·.1)).idxOf k) fun e=>(e.1,e.2+n))=dD φ m+n*φ k
 | [],h=>by simp at h
 |e::m,h=>by
  by_cases e1:e.1=k
  .have:((e::m).map (·.1)).idxOf k=0:=(by simp[adu,e1]);rw[this];simp only[List.modify_zero_cons,dD,agQ,e1];omega
  have h2:k∈m.map (·.1):=by
   rw[a3Z,a1Y]at h;exact h.resolve_left fun h=>e1 h.symm
  have:((e::m).map (·.1)).idxOf k=(m.map (·.1)).idxOf k+1:=by
   simp[adu,agL.2 e1]
  rw[this];simp only[List.modify_succ_cons,dD,XL φ h2];omega
theorem zB(φ:κ->Int)(m:List (κ×Int))(k:κ)(n:Int):dD φ (rQ m k n)=dD φ m+n*φ k:=by
 unfold rQ;split
 .exact XL φ ‹_›
 rw[XK];simp[dD]
theorem XM{f:Int->Int}:∀(m:List (κ×Int)) (j:Nat),(m.modify j fun e=>(e.1,f e.2)).map (·.1)=m.map (·.1)
 | [],j=>by simp
 |e::m,0=>by simp
 |e::m,j+1=>by simp[XM m j]
theorem SN(m:List (κ×Int))(k:κ)(n:Int):(rQ m k n).map (·.1)=if k∈m.map (·.1)then m.map (·.1)else m.map (·.1)++[k]:=by
 unfold rQ;split
 .exact XM (f:=fun x=>x+n) m _
 simp
theorem FI{m:List (κ×Int)}(h:(m.map (·.1)).Nodup)(k:κ)(n:Int):((rQ m k n).map (·.1)).Nodup:=by
 rw[SN];split
 .exact h
 rename_i h2;rw[a8B];exact⟨h,by simp,fun x hx y hy e=>by simp at hy;subst hy;subst e;exact h2 hx⟩
theorem a1C{f:κ×Int->κ×Int}:∀{m:List (κ×Int)} {j:Nat} {e:κ×Int},e∈m.modify j f->e∈m∨∃e'∈m,e=f e'
 | [],j,e,h=>by simp at h
 |x::m,0,e,h=>by
  rw[List.modify_zero_cons,a1Y]at h;rcases h with h|h
  .exact .inr ⟨x,by simp,h⟩
  exact .inl (by simp[h])
 |x::m,j+1,e,h=>by
  rw[List.modify_succ_cons,a1Y]at h;rcases h with h|h
  .exact .inl (by simp[h])
  rcases a1C h with h|⟨e',h1,h2⟩
  .exact .inl (by simp[h])
  exact .inr ⟨e',by simp[h1],h2⟩
theorem P9{m:List (κ×Int)}{k:κ}{n:Int}(hn:0<n)(h:∀e∈m,0<e.2):∀e∈rQ m k n,0<e.2:=fun e he=>by
 unfold rQ at he;split at he
 .rcases a1C he with h1|⟨e',h1,rfl⟩
  .exact h e h1
  .have:=h e' h1;show 0<e'.2+n;omega
 .rcases a3K.1 he with h1|h1
  .exact h e h1
  .rw[a2I.1 h1];exact hn
theorem a7q{m:List (κ×Int)}{k:κ}{n:Int}{e:κ×Int}(he:e∈rQ m k n):e.1=k∨∃e'∈m,e'.1=e.1:=by
 have:e.1∈(rQ m k n).map (·.1):=a1f.2 ⟨e,he,rfl⟩;rw[SN]at this;split at this
 .obtain⟨e',h1,h2⟩:=a1f.1 this;exact .inr ⟨e',h1,h2⟩
 rcases a3K.1 this with h1|h1
 .obtain⟨e',h1,h2⟩:=a1f.1 h1;exact .inr ⟨e',h1,h2⟩
 exact .inl (by simpa using h1)
def ind(k:κ)(x:κ):Int:=if x=k then 1 else 0
theorem Hz{k:κ}:∀{m:List (κ×Int)},k∉m.map (·.1)->dD (ind k) m=0
 | [],_=>rfl
 |e::m,h=>by
  rw[a3Z,a1Y,adq]at h;simp only[dD,Hz h.2,ind,a0g (fun e1:e.1=k=>h.1 e1.symm)];omega
theorem AB:∀{m:List (κ×Int)} {e:κ×Int},(m.map (·.1)).Nodup->e∈m->dD (ind e.1) m=e.2
 |x::m,e,hn,h=>by
  rw[a3Z,a4g]at hn;rcases a1Y.1 h with rfl|h
  .simp only[dD,Hz hn.1,ind,a2d];omega
  have:¬x.1=e.1:=fun e1=>hn.1 (a1f.2 ⟨e,h,e1.symm⟩);simp only[dD,AB hn.2 h,ind,a0g this];omega
theorem XO{m:List (κ×Int)}(hn:(m.map (·.1)).Nodup)(hp:∀e∈m,0<e.2)(e:κ×Int):e∈m↔0<e.2∧dD (ind e.1) m=e.2:=by
 constructor
 .exact fun h=>⟨hp e h,AB hn h⟩
 rintro⟨h1,h2⟩;by_cases h:e.1∈m.map (·.1)
 .obtain⟨e',h3,h4⟩:=a1f.1 h;have:=AB hn h3;have h4:e'.1=e.1:=h4;rw[h4,h2]at this;have:e'=e:=adg h4 this.symm;rw[<-this];exact h3
 rw[Hz h]at h2;omega
theorem HY{β:Type}{f:κ×Int->β}{l:List (κ×Int)}(h:(l.map f).Nodup):l.Nodup:=by
 rw[List.Nodup,acK]at h;exact h.imp fun{a b} h (e:a=b)=>h (congrArg f e)
theorem UW{m m':List (κ×Int)}(h1:(m.map (·.1)).Nodup)(h2:(m'.map (·.1)).Nodup)(p1:∀e∈m,0<e.2)(p2:∀e∈m',0<e.2)(h:∀φ,dD φ m=dD φ m'):m.Perm m':=
 (a8c (HY h1) (HY h2)).2 fun e=>by rw[XO h1 p1,XO h2 p2,h]
theorem a3p(φ:κ->Int){m m':List (κ×Int)}(h:m.Perm m'):dD φ m=dD φ m':=by
 induction h with
 |nil=>rfl
 |cons x _ ih=>simp only[dD,ih]
 |swap x y l=>simp only[dD];omega
 |trans _ _ h1 h2=>exact h1.trans h2
def yC(l:List κ):List (κ×Int):=l.foldl (fun m k=>rQ m k 1) []
def dS(φ:κ->Int):List κ->Int
 | []=>0
 |k::l=>φ k+dS φ l
theorem XP(φ:κ->Int):∀(l:List κ) (m:List (κ×Int)),dD φ (l.foldl (fun m k=>rQ m k 1) m)=dD φ m+dS φ l
 | [],m=>by simp[dS]
 |k::l,m=>by rw[adp,XP φ l,zB,dS];omega
theorem SQ(φ:κ->Int)(l:List κ):dD φ (yC l)=dS φ l:=by
 unfold yC;rw[XP];simp[dD]
theorem AL(l:List κ):((yC l).map (·.1)).Nodup∧∀e∈yC l,0<e.2:=by
 have:∀(l:List κ) (m:List (κ×Int)),(m.map (·.1)).Nodup->(∀e∈m,0<e.2)->((l.foldl (fun m k=>rQ m k 1) m).map (·.1)).Nodup∧∀e∈l.foldl (fun m k=>rQ m k 1) m,0<e.2:=by
  intro l
  induction l with
  |nil=>exact fun m h1 h2=>⟨h1,h2⟩
  |cons k l ih=>exact fun m h1 h2=>ih _ (FI h1 k 1) (P9 (by omega) h2)
 exact this l [] (by simp) (by simp)
theorem XQ(k:κ):∀l:List κ,dS (ind k) l=(l.count k:Int)
 | []=>rfl
 |x::l=>by
  rw[dS,XQ k l,List.count_cons,ind];by_cases e:x=k
  .simp[e];omega
  simp[e]
theorem Jk(φ:κ->Int){l l':List κ}(h:l.Perm l'):dS φ l=dS φ l':=by
 induction h with
 |nil=>rfl
 |cons x _ ih=>simp only[dS,ih]
 |swap x y l=>simp only[dS];omega
 |trans _ _ h1 h2=>exact h1.trans h2
theorem I4(φ:κ->Int):∀a b:List κ,dS φ (a++b)=dS φ a+dS φ b
 | [],b=>by simp[dS]
 |e::a,b=>by simp only[List.cons_append,dS,I4 φ a b];omega
end
theorem Jl:∀a b:List Int,kU a b=true∨kU b a=true
 | [],_=>.inl rfl
 |_::_,[]=>.inr rfl
 |a::az,b::bs=>by
  simp only[kU];rcases Int.lt_trichotomy a b with h|h|h
  .simp[h]
  .subst h;simpa using Jl az bs
  simp[h]
theorem Dq:∀a b:List Int,kU a b=true->kU b a=true->a=b
 | [],[],_,_=>rfl
 | [],_::_,_,h=>by cases h
 |_::_,[],h,_=>by cases h
 |a::az,b::bs,h1,h2=>by
  simp only[kU]at h1 h2;rcases Int.lt_trichotomy a b with h|h|h
  .rw[a0g (by omega),a0h h]at h2;cases h2
  .subst h;simp at h1 h2;rw[Dq az bs h1 h2]
  rw[a0g (by omega),a0h h]at h1;cases h1
theorem lex_trans:∀a b c:List Int,kU a b=true->kU b c=true->kU a c=true
 | [],_,_,_,_=>rfl
 |_::_,[],_,h,_=>by cases h
 |_::_,_::_,[],_,h=>by cases h
 |a::az,b::bs,c::cs,h1,h2=>by
  simp only[kU]at h1 h2 ⊢;split at h1
  .split at h2
   .rw[a0h (by omega)]
   split at h2
   .cases h2
   rw[a0h (by omega)]
  split at h1
  .cases h1
  split at h2
  .rw[a0h (by omega)]
  split at h2
  .cases h2
  rw[a0g (by omega),a0g (by omega)];exact lex_trans az bs cs h1 h2
section
variable {α:Type} {key:α->List Int}
theorem SS{a b:α}(h:key a=key b->a=b):∀s:List α,Ej key a (Ej key b s)=Ej key b (Ej key a s)
 | []=>by
  by_cases e:a=b
  .rw[e]
  simp only[Ej];rcases Jl (key a) (key b)with h1|h1
  .have:kU (key b) (key a)=false:=by
    cases h2:kU (key b) (key a)
    .rfl
    exact absurd (h (Dq _ _ h1 h2)) e
   simp[h1,this]
  have:kU (key a) (key b)=false:=by
   cases h2:kU (key a) (key b)
   .rfl
   exact absurd (h (Dq _ _ h2 h1)) e
  simp[h1,this]
 |c::s=>by
  by_cases e:a=b
  .rw[e]
  have hx:kU (key a) (key b)=!kU (key b) (key a):=by
   rcases Jl (key a) (key b)with h1|h1
   .cases h2:kU (key b) (key a)
    .rw[h1];rfl
    exact absurd (h (Dq _ _ h1 h2)) e
   cases h2:kU (key a) (key b)
   .rw[h1];rfl
   exact absurd (h (Dq _ _ h2 h1)) e
  cases h1:kU (key a) (key c)<;>cases h2:kU (key b) (key c)
  .simp only[Ej,h1,h2,a2c,a2Y,SS h s]
  .have h3:kU (key a) (key b)=false:=by
    cases h3:kU (key a) (key b)
    .rfl
    rw[lex_trans _ _ _ h3 h2]at h1;cases h1
   simp only[Ej,h1,h2,h3,a2c,a2Y,a2d]
  .have h3:kU (key b) (key a)=false:=by
    cases h3:kU (key b) (key a)
    .rfl
    rw[lex_trans _ _ _ h3 h1]at h2;cases h2
   simp only[Ej,h1,h2,h3,a2c,a2Y,a2d]
  cases h3:kU (key b) (key a)<;>rw[h3]at hx<;>simp[Ej,h1,h2,h3,hx]
theorem EO{l l':List α}(h:l.Perm l')(hi:∀a∈l,∀b∈l,key a=key b->a=b):yU key l=yU key l':=by
 induction h with
 |nil=>rfl
 |cons x _ ih=>simp only[yU,ih fun a ha b hb=>hi a (by simp[ha]) b (by simp[hb])]
 |swap x y l=>exact SS (hi y (by simp) x (by simp)) _
 |trans h1 h2 i1 i2=>exact(i1 hi).trans (i2 fun a ha b hb=>hi a (h1.mem_iff.2 ha) b (h1.mem_iff.2 hb))
theorem SV{β:Type}{g:α->β}{a7r:β->List Int}(h:∀a,a7r (g a)=key a):∀l:List α,yU a7r (l.map g)=(yU key l).map g:=by
 have hi:∀(a:α) (s:List α),Ej a7r (g a) (s.map g)=(Ej key a s).map g:=by
  intro a s
  induction s with
  |nil=>rfl
  |cons c s ih=>
   simp only[a3Z,Ej,h];split
   .rfl
   rw[a3Z,ih]
 intro l
 induction l with
 |nil=>rfl
 |cons a l ih=>simp only[a3Z,yU,ih,hi]
end
end bW
namespace Go.Proofs.YtmobpoiejckagaaGreat
open Go Tw Pv bW
def AO(J:Jb)(c:Int):List Int:=if decide (J.g.getD c.toNat 0>=0)=true then [J.g.getD c.toNat 0]else(List.range (J.s.getD c.toNat 0).toNat).map fun(j:Nat)=>(j:Int)
def xk(J:Jb)(ψ:S3->Int):List Int->S3->Int
 | [],t=>ψ t
 |c::r,t=>dS (fun j=>xk J ψ r (bJ J.D t c j)) (AO J c)
theorem zC{α β:Type}[DecidableEq α][DecidableEq β](φ:β->Int)(f:α->β):∀l:List α,dS φ (l.map f)=dS (fun a=>φ (f a)) l
 | []=>rfl
 |a::l=>by simp only[a3Z,dS,zC φ f l]
theorem pU{α:Type}[DecidableEq α]{φ φ':α->Int}:∀{l:List α},(∀a∈l,φ a=φ' a)->dS φ l=dS φ' l
 | [],_=>rfl
 |a::l,h=>by rw[dS,dS,h a (by simp),pU fun b hb=>h b (by simp[hb])]
theorem SX{α β:Type}[DecidableEq α][DecidableEq β](φ:β->Int)(f:α->List β):∀l:List α,dS φ (l.flatMap f)=dS (fun a=>dS φ (f a)) l
 | []=>rfl
 |a::l=>by rw[List.flatMap_cons,I4,dS,SX φ f l]
theorem AP{α:Type}[DecidableEq α](x:Int):∀l:List α,dS (fun _=>x) l=l.length*x
 | []=>by simp[dS]
 |a::l=>by rw[dS,AP x l,a3V,Int.natCast_add,agQ];omega
theorem S3.aap(s:S3)(k:Nat):s.set k (s.get k)=s:=by
 match k with
 | 0=>rfl
 | 1=>rfl
 |k+2=>rfl
theorem a7s{D:List Dg}{t:S3}{c:Int}(h:jI D t c=false)(g:Int):bJ D t c g=t:=by
 have hk:∀k,k<D.length->kG (kP D k) (t.get k) c=false:=fun k hk=>by
  cases e:kG (kP D k) (t.get k) c
  .rfl
  have:=Dl.2 ⟨k,hk,e⟩;rw[h]at this;cases this
 exact dO (g:=fun k (y:S3)=>y.set k (KR (kP D k) (y.get k) c g)) (m:=D.length) (k:=0) (s:=t) (fun _ y=>y=t) rfl (fun j y _ hj hy=>by
  subst hy;show y.set j (KR (kP D j) (y.get j) c g)=y;unfold KR;rw[hk j (by omega),a0g (by simp)];exact S3.aap y j)
theorem a3q{J:Jb}{ψ:S3->Int}{c:Int}{r:List Int}{t:S3}(h:decide (J.g.getD c.toNat 0>=0)=true):xk J ψ (c::r) t=xk J ψ r (bJ J.D t c (J.g.getD c.toNat 0)):=by
 rw[xk,AO,a0h h];simp[dS]
theorem afm{J:Jb}{ψ:S3->Int}{c:Int}{r:List Int}{t:S3}(h:¬decide (J.g.getD c.toNat 0>=0)=true)(ha:jI J.D t c=false):xk J ψ (c::r) t=((J.s.getD c.toNat 0).toNat:Int)*xk J ψ r t:=by
 rw[xk,AO,a0g h,zC,pU (φ':=fun _=>xk J ψ r t) (fun a _=>by rw[a7s ha]),AP,a8C]
theorem aaq{J:Jb}{ψ:S3->Int}{c:Int}{r:List Int}{t:S3}(h:¬decide (J.g.getD c.toNat 0>=0)=true):xk J ψ (c::r) t=dS (fun(j:Nat)=>xk J ψ r (bJ J.D t c j)) (List.range (J.s.getD c.toNat 0).toNat):=by
 rw[xk,AO,a0g h,zC]
def zM(J:Jb):List Int->Nat
 | []=>1
 |c::r=>(AO J c).length*zM J r
theorem Ed{J:Jb}:∀(r:List Int) (t:S3),xk J (fun _=>1) r t=(zM J r:Int)
 | [],_=>rfl
 |c::r,t=>by
  rw[xk,pU (φ':=fun _=>(zM J r:Int)) (fun a _=>Ed r _),AP,zM,afC]
section
variable {J:Jb} (hJ:jP J)
include hJ
theorem XR{c:Int}(hc:gQ c J.s.length){j:Int}:j∈AO J c↔(0<=j∧j<J.s.getD c.toNat 0)∧(0<=J.g.getD c.toNat 0->J.g.getD c.toNat 0=j):=by
 unfold AO;split
 .rename_i h;have h:J.g.getD c.toNat 0>=0:=by simpa using h
  have:=hJ.gv c hc h;rw[a2I];constructor
  .rintro rfl;exact⟨⟨h,this⟩,fun _=>rfl⟩
  exact fun h2=>(h2.2 h).symm
 rename_i h;have h:¬J.g.getD c.toNat 0>=0:=by simpa using h
 rw[a1f];constructor
 .rintro⟨k,h1,rfl⟩;rw[a4f]at h1;exact⟨⟨by omega,by omega⟩,fun h2=>absurd h2 h⟩
 rintro⟨h1,_⟩;exact⟨j.toNat,a4f.2 (by omega),by omega⟩
theorem a7t{c:Int}(hc:gQ c J.s.length):1<=(AO J c).length∧(AO J c).length<=(J.s.getD c.toNat 0).toNat:=by
 have hz:=hJ.eF.sz _ (dW (s:=J.s) (k:=c.toNat) (by have:=hc.1;have:=hc.2;omega));unfold AO;split
 .exact⟨a15 _,by show 1<=_;omega⟩
 rw[a4e,a8C];exact⟨by omega,a15 _⟩
theorem Jm:∀{r:List Int},(∀c∈r,gQ c J.s.length)->1<=zM J r∧zM J r<=wO J.s r
 | [],_=>⟨a15 _,a15 _⟩
 |c::r,h=>by
  obtain⟨h1,h2⟩:=a7t hJ (h c (by simp));obtain⟨h3,h4⟩:=Jm (r:=r) fun c hc=>h c (by simp[hc]);exact⟨agP h1 h3,agP h2 h4⟩
end
def plc(J:Jb):List Int->List Int->List (List Int)
 | [],q=>[q]
 |c::r,q=>(AO J c).flatMap fun j=>plc J r (q.set c.toNat j)
def UY(D:List Dg)(q:List Int):List Int->S3->S3
 | [],t=>t
 |c::r,t=>UY D q r (bJ D t c (q.getD c.toNat 0))
theorem zD{q:List Int}{i k:Nat}{v:Int}:(q.set i v).getD k 0=if k=i∧i<q.length then v else q.getD k 0:=by
 simp only[List.getD,a9p];by_cases h:i=k
 .subst h;by_cases h2:i<q.length
  .simp[h2]
  simp[h2,a3X (show q.length<=i by omega)]
 rw[a0g (fun e:k=i∧i<q.length=>h e.1.symm)];simp[h]
theorem LZ{J:Jb}:∀{r q q':List Int},q'∈plc J r q->q'.length=q.length∧∀k,k∉r.map Int.toNat->q'.getD k 0=q.getD k 0
 | [],q,q',h=>by rw[plc,a2I]at h;subst h;exact⟨rfl,fun _ _=>rfl⟩
 |c::r,q,q',h=>by
  rw[plc,adZ]at h;obtain⟨j,_,h2⟩:=h;obtain⟨h3,h4⟩:=LZ h2;refine⟨by rw[h3,a4q],fun k hk=>?_⟩;rw[a3Z,a1Y,adq]at hk;rw[h4 k hk.2,zD,a0g (fun h=>hk.1 h.1)]
section
variable {J:Jb} {n:Nat}
structure ZK(n:Nat)(r:List Int):Prop where
 nd:r.Nodup
 mem:∀c∈r,gQ c n
theorem ZK.tail{c:Int}{r:List Int}(h:ZK n (c::r)):ZK n r∧c.toNat∉r.map Int.toNat∧gQ c n:=by
 have h1:=a4g.1 h.nd;have hc:=h.mem c (by simp);refine⟨⟨h1.2,fun c hc=>h.mem c (by simp[hc])⟩,fun h2=>?_,hc⟩;obtain⟨d,h3,h4⟩:=a1f.1 h2;have hd:=h.mem d (by simp[h3]);have:d=c:=by have:=hc.1;have:=hd.1;omega
 exact h1.1 (this▸h3)
theorem a1E(ψ:S3->Int):∀{r:List Int} (q:List Int) (t:S3),ZK q.length r->xk J ψ r t=dS (fun q'=>ψ (UY J.D q' r t)) (plc J r q)
 | [],q,t,_=>by simp[xk,plc,UY,dS]
 |c::r,q,t,ho=>by
  obtain⟨h1,h2,h3⟩:=ho.tail;rw[xk,plc,SX];refine pU fun j _=>?_;rw[a1E ψ (q.set c.toNat j) _ (by rw[a4q];exact h1)];refine pU fun q' hq=>?_;rw[UY,(LZ hq).2 _ h2,zD,a0h ⟨rfl,by have:=h3.1;have:=h3.2;omega⟩]
theorem UZ:∀{r q q':List Int},ZK q.length r->(q'∈plc J r q↔q'.length=q.length∧(∀k,k∉r.map Int.toNat->q'.getD k 0=q.getD k 0)∧∀c∈r,q'.getD c.toNat 0∈AO J c)
 | [],q,q',_=>by
  rw[plc,a2I];constructor
  .rintro rfl;exact⟨rfl,fun _ _=>rfl,fun _ h=>by cases h⟩
  rintro⟨h1,h2,_⟩;exact(qY (d:=0) h1).2 fun i _=>h2 i (by simp)
 |c::r,q,q',ho=>by
  obtain⟨h1,h2,h3⟩:=ho.tail;have hl:c.toNat<q.length:=by have:=h3.1;have:=h3.2;omega
  rw[plc,adZ];constructor
  .rintro⟨j,hj,h4⟩;obtain⟨h5,h6,h7⟩:=(UZ (by rw[a4q];exact h1)).1 h4;refine⟨by rw[h5,a4q],fun k hk=>?_,fun d hd=>?_⟩
   .rw[a3Z,a1Y,adq]at hk;rw[h6 k hk.2,zD,a0g (fun h=>hk.1 h.1)]
   rcases a1Y.1 hd with rfl|hd
   .rw[h6 _ h2,zD,a0h ⟨rfl,hl⟩];exact hj
   exact h7 d hd
  rintro⟨h4,h5,h6⟩;refine⟨q'.getD c.toNat 0,h6 c (by simp),(UZ (by rw[a4q];exact h1)).2 ⟨by rw[a4q];exact h4,fun k hk=>?_,fun d hd=>h6 d (by simp[hd])⟩⟩;rw[zD];split
  .rename_i h;rw[h.1]
  rename_i h;exact h5 k (by rw[a3Z,a1Y,adq];exact⟨fun e=>h ⟨e,hl⟩,hk⟩)
theorem ZL(c:Int):(AO J c).Nodup:=by
 unfold AO;split
 .simp
 rw[List.Nodup,acK];exact List.nodup_range.imp fun h e=>h (by omega)
theorem SY:∀{r q:List Int},ZK q.length r->(plc J r q).Nodup
 | [],q,_=>by simp[plc]
 |c::r,q,ho=>by
  obtain⟨h1,h2,h3⟩:=ho.tail;have hl:c.toNat<q.length:=by have:=h3.1;have:=h3.2;omega
  rw[plc,List.Nodup,List.pairwise_flatMap];refine⟨fun j _=>SY (by rw[a4q];exact h1),(ZL (J:=J) c).imp fun{a b} hab x hx y hy e=>?_⟩;subst e;have e1:=(LZ hx).2 _ h2;have e2:=(LZ hy).2 _ h2;rw[zD,a0h ⟨rfl,hl⟩]at e1 e2;exact hab (e1.symm.trans e2)
end
def Qr(J:Jb):List (List Int):=((List.range (EM J.s)).map fun(k:Nat)=>mM J.s k).filter fun q=>decide (ov J.g q=q)
section
variable {J:Jb} (hJ:jP J)
include hJ
theorem a1F{q:List Int}(hq:q.length=J.s.length):ov J.g q=q↔∀k,k<J.s.length->0<=J.g.getD k 0->J.g.getD k 0=q.getD k 0:=by
 have hg:=hJ.gl;have hl:(ov J.g q).length=q.length:=by simp[ov,agM,hg,hq]
 rw[qY (d:=0) hl];constructor
 .intro h k hk h0;have:=h k (by rw[hl,hq];exact hk);rw[P7 (by rw[hg,hq]),a0h (by rw[hg];exact hk),a0h h0]at this;exact this
 intro h k hk;rw[hl,hq]at hk;rw[P7 (by rw[hg,hq]),a0h (by rw[hg];exact hk)];split
 .exact h k hk ‹_›
 rfl
theorem V3{q:List Int}:q∈(List.range (EM J.s)).map (fun(k:Nat)=>mM J.s k)↔mO J.s q=true:=by
 have hc:(EM J.s:Int)=bC J.s:=by
  have:=iZ hJ.eF.sz;unfold EM;omega
 constructor
 .intro h;obtain⟨k,_,rfl⟩:=a1f.1 h;exact J5 _ hJ.eF.sz
 intro h;have:=He h hJ.eF.sz;refine a1f.2 ⟨(qx J.s q).toNat,a4f.2 (by omega),?_⟩;rw[show((qx J.s q).toNat:Int)=qx J.s q by omega];exact UD h hJ.eF.sz
theorem a3r:((List.range (EM J.s)).map (fun(k:Nat)=>mM J.s k)).Nodup:=by
 have hc:(EM J.s:Int)=bC J.s:=by
  have:=iZ hJ.eF.sz;unfold EM;omega
 rw[List.Nodup,acK];refine List.Pairwise.imp_of_mem (fun{a b} ha hb h e=>h ?_) aeP;rw[a4f]at ha hb;have h1:=UC hJ.eF.sz (n:=(a:Int)) (by omega) (by omega);have h2:=UC hJ.eF.sz (n:=(b:Int)) (by omega) (by omega);have e:mM J.s (a:Int)=mM J.s (b:Int):=e;rw[e,h2]at h1;omega
theorem a7u:(plc J J.o (List.replicate J.s.length 0)).Perm (Qr J):=by
 obtain⟨o1,o2,o3⟩:=jP.o2 hJ;have ho:ZK (List.replicate J.s.length (0:Int)).length J.o:=⟨o1,fun c hc=>by rw[a8v];exact o3 c hc⟩;unfold Qr;refine(a8c (SY ho) ((a3r hJ).filter _)).2 fun q=>?_;rw[UZ ho,a6t,V3 hJ,a1X,a8v];constructor
 .rintro⟨h1,h2,h3⟩;have key:∀k,k<J.s.length->(0<=q.getD k 0∧q.getD k 0<J.s.getD k 0)∧(0<=J.g.getD k 0->J.g.getD k 0=q.getD k 0):=fun k hk=>by
   have hc:gQ (k:Int) J.s.length:=aG hk;have:=h3 k (mF hJ.ord hc);rw[XR hJ hc]at this;exact this
  exact⟨wF.2 ⟨h1,fun k hk=>(key k hk).1⟩,(a1F hJ h1).2 fun k hk=>(key k hk).2⟩
 rintro⟨h1,h2⟩;have hl:=zn h1;refine⟨hl,fun k hk=>?_,fun c hc=>?_⟩
 .have JG:J.s.length<=k:=by
   refine ad7 fun aS=>hk ?_;exact a1f.2 ⟨(k:Int),mF hJ.ord (aG aS),by simp⟩
  simp[List.getD,a3X (show q.length<=k by omega),a3X (show(List.replicate J.s.length (0:Int)).length<=k by simp;omega)]
 have rX:=o3 c hc;have aS:c.toNat<J.s.length:=by have:=rX.1;have:=rX.2;omega
 rw[XR hJ rX];exact⟨(wF.1 h1).2 _ aS,(a1F hJ hl).1 h2 _ aS⟩
theorem Tc{q:List Int}(hq:mO J.s q=true):∀(r:List Int) (a:Nat) (t:S3),J.o.drop a=r->a<=J.o.length->Dp J a t->Dp J J.o.length (UY J.D q r t)∧∀k,k<J.D.length->∀v,To (kP J.D k) q ((UY J.D q r t).get k) v->To (kP J.D k) q (t.get k) v
 | [],a,t,hr,ha,hd=>by
  have:a=J.o.length:=by
   have:=congrArg List.length hr;rw[a3S,a5J]at this;omega
  subst this;exact⟨hd,fun _ _ _ h=>h⟩
 |c::r,a,t,hr,ha,hd=>by
  obtain⟨aS,hoc,wX,GR,hci,rX⟩:=jP.at_ hJ hr;have Yq:=(wF.1 hq).2 c.toNat (by have:=rX.1;have:=rX.2;omega);obtain⟨h1,h2⟩:=Tc hq r (a+1) _ wX aS (lY hJ hr hd Yq);refine⟨h1,fun k hk v h=>?_⟩;have h4:=h2 k hk v h;rw[Je hJ.d3 t c _ hk]at h4;unfold KR at h4;split at h4
  .rename_i h5;obtain⟨h6,h7,_⟩:=Hw hJ hd hk h5;refine .step h6.1 ?_;rw[h7];exact h4
  exact h4
theorem XT:Dp J 0 (fG J.D):=fun k hk=>by
 rw[zA hJ.d3 hk];exact⟨(hJ.dg k hk).t.root,a4v _⟩
theorem afn{q:List Int}(hq:mO J.s q=true):aU J.D (UY J.D q J.o (fG J.D))=J.D.map fun d=>En d q:=by
 obtain⟨h1,h2⟩:=Tc hJ hq J.o 0 (fG J.D) abt (a4v _) (XT hJ);unfold aU;refine(qY (d:=V0) (by simp)).2 fun k hk=>?_;rw[a4e,a8C]at hk;have hd:=hJ.dg k hk;have h3:=Jg hJ h1 hk;have h4:=h2 k hk _ (.fin h3.1);rw[zA hJ.d3 hk]at h4;have h6:=h4.at_ hd.t (by rw[hd.s];exact hq) 6001 (by have:=hd.t.root.1;have:=hd.n;omega) hd.t.root;have e1:((List.range J.D.length).map fun k=>oW (kP J.D k) ((UY J.D q J.o (fG J.D)).get k)).getD k V0=oW (kP J.D k) ((UY J.D q J.o (fG J.D)).get k):=by simp[List.getD,hk]
 have e2:(J.D.map fun d=>En d q).getD k V0=En (kP J.D k) q:=by simp[List.getD,hk]
 rw[e1,e2];exact h6
theorem aar(ψ:List V->Int):xk J (fun t=>ψ (aU J.D t)) J.o (fG J.D)=dS (fun q=>ψ (J.D.map fun d=>En d q)) (Qr J):=by
 obtain⟨o1,o2,o3⟩:=jP.o2 hJ;rw[a1E _ (List.replicate J.s.length 0) _ ⟨o1,fun c hc=>by rw[a8v];exact o3 c hc⟩,Jk _ (a7u hJ)];refine pU fun q hq=>?_;unfold Qr at hq;rw[a6t,V3 hJ]at hq;rw[afn hJ hq.1]
end
end Go.Proofs.YtmobpoiejckagaaGreat
namespace Pv
open Go Tw
section
variable {X:kE} {P:Program} {kt:TypeId} {α:Type} [DecidableEq α] (C:oD X P kt α)
theorem oD.akd{l:List (α×PV X.Γ)}{x:α}{v:PV X.Γ}{j:Nat}(hb:Instr.sameBits 10000 (C.v x) (C.v x)=true)(hn:(l.map (·.1)).Nodup)(h:l[j]? = some (x,v)):a5t X P kt (C.es l) (C.tv x) (C.pv x) v j:=by
 obtain⟨hj,e⟩:=a04.1 h;have hxj:(l.map (·.1))[j]? = some x:=by simp[a0a hj,e]
 refine⟨C.v x,_,C.tv x,C.v x,C.ht x,C.hc false x,C.pk l,?_,?_,?_,C.ht x,hb⟩
 .have hu:∀(i:Nat) y,(l.map (·.1))[i]? = some y->decide (x=y)=(some i==some j):=fun i y hy=>by
   rw[a4u];simp only[a1X,a88,a00];constructor
   .rintro rfl;have i1:=a04.1 hy;have i2:=a04.1 hxj;exact(aao hn (h₀:=i1.1) (h₁:=i2.1)).1 (i1.2.trans i2.2.symm)
   rintro rfl;rw[hxj]at hy;exact a8Q hy
  refine C.find x _ (some j) ?_ hu;rw[a9Z];refine⟨by simpa using hj,by simp[e],fun i hi=>?_⟩;have hil:i<(l.map (·.1)).length:=by simp;omega
  rw[hu i _ (a0a hil)];simp;omega
 .simp[oD.es,a0a hj,e]
 simp[a0a hj,e]
theorem oD.newP{l:List (α×PV X.Γ)}{x:α}{v:PV X.Γ}(h:x∉l.map (·.1)):adR X P kt (C.es (l++[(x,v)])) (C.tv x) l.length:=by
 refine⟨C.v x,_,C.ht x,C.pk _,?_⟩;have hu:∀(i:Nat) y,((l++[(x,v)]).map (·.1))[i]? = some y->decide (x=y)=(some i==some l.length):=fun i y hy=>by
  rw[a3Y]at hy;rcases a4a i l.length with hi|hi
  .rw[a0e (by simpa using hi)]at hy;have:¬x=y:=fun e=>h (e▸a4l hy);rw[afZ this];have:¬i=l.length:=(by omega);simp[this]
  rw[a1c (by simpa using hi)]at hy;have JE:i=l.length:=by
   have:=(a04.1 hy).1;simp at this;omega
  subst JE;simp at hy;subst hy;simp
 refine C.find x _ (some l.length) ?_ hu;rw[a9Z];refine⟨by simp,by simp,fun i hi=>?_⟩;have hil:i<((l++[(x,v)]).map (·.1)).length:=by simp;omega
 rw[hu i _ (a0a hil)];simp;omega
abbrev oD.im(m:List (α×Int)):List (PV X.Γ×PV X.Γ):=C.es (m.map fun e=>(e.1,.int .i64 e.2))
theorem oD.oN(m:List (α×Int)):(C.im m).length=m.length:=by simp[oD.im,oD.es]
theorem oD.AQ(m:List (α×Int))(j:Nat):(C.im m)[j]? = (m[j]?).map fun e=>(C.pv e.1,.int .i64 e.2):=by
 simp[oD.im,oD.es,a4h];rfl
theorem zF{Y:kE}(m:List (α×Int)):((m.map fun e=>(e.1,(PV.int .i64 e.2:PV Y.Γ))).map (·.1))=m.map (·.1):=by simp
theorem afo{m:List (α×Int)}{j:Nat}{f:Int->Int}{v:Int}(h:∀e,m[j]? = some e->f e.2=v):IG (C.im m) j (.int .i64 v)=C.im (m.modify j fun e=>(e.1,f e.2)):=by
 unfold IG;refine a9q fun i=>?_;rw[aej,C.AQ,C.AQ,aej];by_cases e:j=i
 .subst e;cases h2:m[j]? with
  |none=>simp[h2]
  |some x=>simp[h2,h x h2]
 simp[e]
theorem afp{m:List (α×Int)}{x:α}{z v:Int}:IG (C.im m++[(C.pv x,.int .i64 z)]) (C.im m).length (.int .i64 v)=C.im (m++[(x,v)]):=by
 have:C.im (m++[(x,v)])=C.im m++[(C.pv x,.int .i64 v)]:=by simp[oD.im,oD.es]
 rw[this];unfold IG;generalize C.im m=l;refine a9q fun i=>?_;rw[aej];rcases Nat.lt_trichotomy i l.length with h|h|h
 .rw[a0e h,a0e h];simp[show ¬l.length=i by omega]
 .subst h;simp
 rw[a3X (by simp;omega),a3X (by simp;omega)];rfl
theorem oD.V4{m:List (α×Int)}{k:α}{n:Int}(hb:Instr.sameBits 10000 (C.v k) (C.v k)=true)(hn:(m.map (·.1)).Nodup)(h:k∈m.map (·.1))(hw:∀e∈m,i64.wrap (e.2+n)=e.2+n) :
  ∃j old,pO X P kt (C.im m) (C.tv k) (.int .i64 old)∧a5t X P kt (C.im m) (C.tv k) (C.pv k) (.int .i64 old) j∧j<(C.im m).length∧IG (C.im m) j (.int .i64 (i64.wrap (old+n)))=C.im (bW.rQ m k n):=by
 have aS:=a4F.2 h;have a5D:(m.map (·.1)).idxOf k<m.length:=by simpa using aS
 have hk:m[(m.map (·.1)).idxOf k]? = some (k,m[(m.map (·.1)).idxOf k].2):=by
  rw[a0a a5D];have:=a8z aS;rw[a8Y]at this;exact congrArg some (adg this rfl)
 have a8N:(k,m[(m.map (·.1)).idxOf k].2)∈m:=a4l hk;refine⟨(m.map (·.1)).idxOf k,m[(m.map (·.1)).idxOf k].2,C.found (by rw[zF];exact hn) (a1f.2 ⟨_,a8N,rfl⟩),C.akd hb (by rw[zF];exact hn) (by rw[a4h,hk];rfl),by rw[C.oN];exact a5D,?_⟩;rw[hw _ a8N];unfold bW.rQ;rw[a0h h];exact afo C (f:=fun x=>x+n) fun e he=>by rw[hk]at he;cases he;rfl
theorem oD.V5{m:List (α×Int)}{k:α}{n:Int}(h:k∉m.map (·.1))(hw:i64.wrap (0+n)=n) :
  nD X P kt (C.im m) (C.tv k)∧adR X P kt (C.im m++[(C.pv k,(PV.int .i64 0:PV X.Γ))]) (C.tv k) (C.im m).length∧(C.im m).length<(C.im m++[(C.pv k,(PV.int .i64 0:PV X.Γ))]).length∧IG (C.im m++[(C.pv k,.int .i64 0)]) (C.im m).length (.int .i64 (i64.wrap (0+n)))=C.im (bW.rQ m k n):=by
 refine⟨C.fresh (by rw[zF];exact h),?_,by simp,?_⟩
 .have:=C.newP (l:=m.map fun e=>(e.1,(PV.int .i64 e.2:PV X.Γ))) (x:=k) (v:=.int .i64 0) (by rw[zF];exact h);rw[C.oN];simpa[oD.im,oD.es]using this
 rw[hw,afp];unfold bW.rQ;rw[a0g h]
end
end Pv
namespace Go.Proofs.YtmobpoiejckagaaGreat
open Go Tw Pv bW
abbrev wSk(H:List (PB aF))(s:S3)(r:Int)(x:List (Nat×PE aF)):aQ aF:=⟨[(1,xi r),(2,.val (.ptr 2 0 5)),(3,.val (.ptr 1 0 5)),(4,.val (.ptr 3 0 1)),(5,.val (.ptr 4 0 1)),(6,.loc 0 0)]++x,[s.ps],H⟩
def Qs(D:List Dg)(t:S3):List Int->Nat
 | []=>0
 |c::r=>if jI D t c=true then 0 else Qs D t r+1
def Qu(J:Jb)(t:S3)(i:Int):Int⊕Int:=if decide (i<(J.o.length:Int))=true then(if(!(jI J.D t (J.o.getD i.toNat 0)))=true then .inl (i64.wrap (i+1))else .inr i)else .inr i
theorem a7v{J:Jb}(hJ:jP J)(t:S3):∀(r:List Int) (a:Nat),J.o.drop a=r->a<=J.o.length->itF (Qu J t) (r.length+1) (a:Int)=some ((a+Qs J.D t r:Nat):Int)
 | [],a,hr,ha=>by
  have:a=J.o.length:=by
   have:=congrArg List.length hr;rw[a3S,a5J]at this;omega
  have e:Qu J t (a:Int)=.inr (a:Int):=by unfold Qu;rw[a0g (by simp;omega)]
  rw[a5J,itF,e];rfl
 |c::r,a,hr,ha=>by
  obtain⟨aS,hoc,wX,_⟩:=jP.at_ hJ hr;have hl:=hJ.eF.len;have QN:=(jP.o2 hJ).2.1;have e:Qu J t (a:Int)=if(!(jI J.D t c))=true then .inl (i64.wrap ((a:Int)+1))else .inr (a:Int):=by
   unfold Qu;rw[a0h (by simp;omega),a7m,hoc]
  rw[a3V,itF,e];cases h:jI J.D t c
  .simp only[aaB,a2d];have ew:i64.wrap ((a:Int)+1)=((a+1:Nat):Int):=by rw[fH (by omega) (by omega)];omega
   have:=a7v hJ t r (a+1) wX aS;simp only[ew,Qs,h];rw[this];simp;omega
  simp[Qs,h]
theorem ap8{M f:Nat}{J:Jb}(hJ:jP J){t:S3}{x:Mk}(r:List Int){a:Nat}(hr:J.o.drop a=r)(ha:a<=J.o.length)(hd:Dp J a t):OB (M+1) 126 0 7 (wSk (HM0 J f x) t a []) (.exit 0) (wSk (HM0 J f x) t ((a+Qs J.D t r:Nat):Int) [(32,xl false)]):=by
 have Qd:=a7v hJ t r a hr ha;have QN:=(jP.o2 hJ).2.1;have hl:=hJ.eF.len;refine Zx (st:=fun i=>wSk (HM0 J f x) t i []) (g:=Qu J t) (out:=fun i=>(.exit 0,wSk (HM0 J f x) t i [(32,xl false)])) (fun i=>0<=i∧i<=J.o.length) Qd (by kernel_rfl) (by have:=congrArg List.length hr;rw[a3S]at this;unfold LL;omega) ⟨by omega,by omega⟩ ?_ ?_
 .intro i i1 hi e;unfold Qu at e;split at e
  .rename_i c;have c:i<(J.o.length:Int):=(by simpa using c);split at e
   .cases e;rw[fH (by omega) (by omega)];omega
   cases e
  cases e
 intro i m i' hi ih;have hs:=a7j (M:=M) (f:=f) (a:=[]) (cc:=[]) (H:=[]) J t (J.o.getD i.toNat 0) hJ.d3 (fun k hk h=>⟨by simpa using h,(hd k hk).1.1⟩);by_cases c:i<(J.o.length:Int)
 .have t1:decide (i<(J.o.length:Int))=true:=by simpa using c
  have i1:gQ i J.o.length:=⟨hi.1,c⟩;cases hq:jI J.D t (J.o.getD i.toNat 0)
  .have e:Qu J t i=.inl (i64.wrap (i+1)):=by unfold Qu;rw[a0h t1,hq];rfl
   rw[hq]at hs;have g:=ih _ e;rw[e];exact aK fZ (.b t1 (.o i1 (.fr [] hs (.b (rfl:(!false)=true) (.go g)))))
  have e:Qu J t i=.inr i:=by unfold Qu;rw[a0h t1,hq];rfl
  rw[hq]at hs;rw[e];dsimp only[CX];exact aK fZ (.b t1 (.o i1 (.fr [] hs (.b (rfl:(!true)=false) .ex))))
 have t1:decide (i<(J.o.length:Int))=false:=by simpa using c
 have e:Qu J t i=.inr i:=by unfold Qu;rw[a0g (by rw[t1];simp)]
 rw[e];dsimp only[CX];exact aK fZ (.b t1 .ex)
theorem ap9{M f:Nat}(u:Int){J:Jb}(hJ:jP J){t:S3}{x:Mk}(r:List Int){a:Nat}(hr:J.o.drop a=r)(ha:a<=J.o.length)(hd:Dp J a t):OB (M+1) 126 0 8 (wSk (HM1 J f u x) t a []) (.exit 0) (wSk (HM1 J f u x) t ((a+Qs J.D t r:Nat):Int) [(32,xl false)]):=by
 have Qd:=a7v hJ t r a hr ha;have QN:=(jP.o2 hJ).2.1;have hl:=hJ.eF.len;refine Zx (st:=fun i=>wSk (HM1 J f u x) t i []) (g:=Qu J t) (out:=fun i=>(.exit 0,wSk (HM1 J f u x) t i [(32,xl false)])) (fun i=>0<=i∧i<=J.o.length) Qd (by kernel_rfl) (by have:=congrArg List.length hr;rw[a3S]at this;unfold LL;omega) ⟨by omega,by omega⟩ ?_ ?_
 .intro i i1 hi e;unfold Qu at e;split at e
  .rename_i c;have c:i<(J.o.length:Int):=(by simpa using c);split at e
   .cases e;rw[fH (by omega) (by omega)];omega
   cases e
  cases e
 intro i m i' hi ih;have hs:=a7j (M:=M) (f:=f) (a:=[]) (cc:=[.ptr 0 0 1]) (H:=[.aC [.int .u8 u]]) J t (J.o.getD i.toNat 0) hJ.d3 (fun k hk h=>⟨by simpa using h,(hd k hk).1.1⟩);by_cases c:i<(J.o.length:Int)
 .have t1:decide (i<(J.o.length:Int))=true:=by simpa using c
  have i1:gQ i J.o.length:=⟨hi.1,c⟩;cases hq:jI J.D t (J.o.getD i.toNat 0)
  .have e:Qu J t i=.inl (i64.wrap (i+1)):=by unfold Qu;rw[a0h t1,hq];rfl
   rw[hq]at hs;have g:=ih _ e;rw[e];exact aK fZ (.b t1 (.o i1 (.fr [5] hs (.b (rfl:(!false)=true) (.go g)))))
  have e:Qu J t i=.inr i:=by unfold Qu;rw[a0h t1,hq];rfl
  rw[hq]at hs;rw[e];dsimp only[CX];exact aK fZ (.b t1 (.o i1 (.fr [5] hs (.b (rfl:(!true)=false) .ex))))
 have t1:decide (i<(J.o.length:Int))=false:=by simpa using c
 have e:Qu J t i=.inr i:=by unfold Qu;rw[a0g (by rw[t1];simp)]
 rw[e];dsimp only[CX];exact aK fZ (.b t1 .ex)
open Go Tw Pv bW
theorem V6{J:Jb}(hJ:jP J){op:List V->V}{x:Mk}:∀(r:List Int) (a:Nat) (t:S3),J.o.drop a=r->a<=J.o.length->Dp J a t->jB J op r t x=jB J op (r.drop (Qs J.D t r)) t x∧a+Qs J.D t r<=J.o.length∧Dp J (a+Qs J.D t r) t∧∀c r',r.drop (Qs J.D t r)=c::r'->jI J.D t c=true
 | [],a,t,hr,ha,hd=>⟨rfl,ha,hd,fun _ _ h=>by cases h⟩
 |c::r,a,t,hr,ha,hd=>by
  obtain⟨aS,hoc,wX,_⟩:=jP.at_ hJ hr;cases h:jI J.D t c
  .obtain⟨q1,q2,q3,q4⟩:=V6 hJ (op:=op) (x:=x) r (a+1) t wX aS (UR hJ hr hd h);have e:Qs J.D t (c::r)=Qs J.D t r+1:=(by simp[Qs,h]);rw[e];refine⟨?_,by omega,by rw[show a+(Qs J.D t r+1)=a+1+Qs J.D t r by omega];exact q3,q4⟩;rw[List.drop_succ_cons,<-q1]
   conv=>lhs;unfold jB
   rw[a0g (by rw[h];simp)]
  have e:Qs J.D t (c::r)=0:=by simp[Qs,h]
  rw[e];exact⟨rfl,ha,hd,fun c' r' h2=>by cases h2;exact h⟩
theorem V7{J:Jb}(hJ:jP J):∀(r:List Int) (n:Nat),(∀c∈r,gQ c J.s.length)->wO J.s (r.drop n)<=wO J.s r
 | [],n,_=>by simp
 |c::r,0,_=>a15 _
 |c::r,n+1,h=>by
  have h1:=V7 hJ r n fun c hc=>h c (by simp[hc]);have hi:=h c (by simp);have hz:=hJ.eF.sz _ (dW (s:=J.s) (k:=c.toNat) (by have:=hi.1;have:=hi.2;omega));have:wO J.s r<=(J.s.getD c.toNat 0).toNat*wO J.s r:=adx _ (by omega);rw[List.drop_succ_cons];simp only[wO];omega
abbrev aas(J:Jb)(f:Nat)(t:S3)(c:Int)(a:Int)(m:Mk)(ks:List Int)(i:Int)(y:List (Nat×PE aF)):aQ aF:=⟨[(1,xi a),(2,.val (.ptr 2 0 5)),(3,.val (.ptr 1 0 5)),(4,.val (.ptr 3 0 1)),(5,.val (.ptr 4 0 1)),(6,.loc 0 0),(9,xi c),(13,.loc 1 0),(93,xi (J.s.getD c.toNat 0)),(94,xi i)]++y,[t.ps,[.int .i64 c,.own 9]],aal J f m++[oI false false ks]⟩
theorem apa{M f:Nat}{J:Jb}(hJ:jP J){op:List V->V}{r:List Int}{t:S3}{c a:Int}(x:Mk)(hc:gQ c J.s.length)(Q:Nat->Mk->Prop)(h0:Q 0 x)(hq:∀j y,j<(J.s.getD c.toNat 0).toNat->Q j y->Q (j+1) (jB J op r (bJ J.D t c j) y).2)
  (hk:∀j:Nat,j<(J.s.getD c.toNat 0).toNat->∀k,k<J.D.length->a1z (kP J.D k) (t.get k) c j)
  (hf:∀(j:Nat) y,j<(J.s.getD c.toNat 0).toNat->Q j y->aX X0 Qp (bQ (M+1)) (.fn 126 [] pM) [.agg (bJ J.D t c j).ps,.int .i64 (i64.wrap (a+1))] (HM0 J f y) (.int .i64 (jB J op r (bJ J.D t c j) y).1) (aal J f (jB J op r (bJ J.D t c j) y).2)) :
  OB (M+1) 126 1 7 (aas J f t c a x [] 0 []) (.exit 2) (aas J f t c a (aT (UQ J.D (jB J op r) t c) (J.s.getD c.toNat 0).toNat 0 ([],x)).2 (aT (UQ J.D (jB J op r) t c) (J.s.getD c.toNat 0).toNat 0 ([],x)).1 (((J.s.getD c.toNat 0).toNat:Nat):Int) [(95,xl false)]):=by
 have hz:=hJ.eF.sz _ (dW (s:=J.s) (k:=c.toNat) (by have:=hc.1;have:=hc.2;omega));refine uy (σ:=List Int×Mk) (N:=(J.s.getD c.toNat 0).toNat) (g:=UQ J.D (jB J op r) t c) (s0:=([],x)) (st:=fun i y=>aas J f t c a y.2 y.1 i []) (fin:=fun y=>aas J f t c a y.2 y.1 (((J.s.getD c.toNat 0).toNat:Nat):Int) [(95,xl false)]) (fun j y=>y.1.length=j∧Q j y.2) (by kernel_rfl) (by unfold ah;omega) ⟨rfl,h0⟩ (fun j y hj hy=>⟨by simp[UQ,hy.1],hq j y.2 hj hy.2⟩) (fun j y hj hy m e p g=>?_) (fun y _=>?_)
 .have h1:=hf j y.2 hj hy.2;have ha:=Jd (M:=M) (f:=f) (a:=[]) (cc:=[]) (H:=[]) J t c j hJ.d3 (hk j hj);have t1:decide ((j:Int)<J.s.getD c.toNat 0)=true:=by rw[a1X];omega
  have h3:=hy.1;unfold UQ at g;generalize jB J op r (bJ J.D t c j) y.2=z at h1 g;obtain⟨v,z⟩:=z;exact aK fZ (.b t1 (.fr [] ha (.fr [0,1,2,3,4,7,8] h1 (.o (show y.1.length+[v].length<=ah by simp only[a3s];unfold ah;omega) (.RU [.gc [10,11,13]] g)))))
 .have t1:decide ((((J.s.getD c.toNat 0).toNat:Nat):Int)<J.s.getD c.toNat 0)=false:=by rw[a2W];omega
  exact aK fZ (.b t1 .ex)
open Go Tw Pv bW
theorem XU{k:List (S3×Int)}{t:S3}(hn:(k.map (·.1)).Nodup)(h:t∈k.map (·.1)):pO X0 Qp 148 (Hu k) (.agg [.int .i64 t.a,.int .i64 t.b,.int .i64 t.c]) (.int .i64 (knS k t)):=by
 refine kS.found (x:=t) (by rw[a7U];exact hn) ?_;obtain⟨e,he,rfl⟩:=a1f.1 h;refine a1f.2 ⟨e,he,?_⟩;have:knS k e.1=e.2:=by
  have:k.find? (fun y=>decide (y.1=e.1))=some e:=by
   clear h
   induction k with
   |nil=>cases he
   |cons y l ih=>
    rw[a3Z,a4g]at hn;rw[agE];rcases a1Y.1 he with rfl|he
    .simp
    have:¬y.1=e.1:=fun h=>hn.1 (a1f.2 ⟨e,he,h.symm⟩);rw[afZ this];exact ih hn.2 he
  unfold knS;rw[this];rfl
 rw[this]
abbrev afq(J:Jb)(op:List V->V)(f:Nat)(m:Nat)(r:List Int):Prop:=∀(a:Nat) (t:S3) (x:Mk),J.o.drop a=r->a<=J.o.length->Dp J a t->XOk J op x->x.e.length+wO J.s r<=ah->x.n.length+wO J.s r<=ah ->
  aX X0 Qp (bQ m) (.fn 126 [] pM) [.agg t.ps,.int .i64 (a:Int)] (HM0 J f x) (.int .i64 (jB J op r t x).1) (aal J f (jB J op r t x).2)
abbrev afr(J:Jb)(f:Nat)(x:Mk)(v:V):List (PB aF):=[.map (Hu x.k),.cells [lI J.s,lI J.o,.own 8,.own 6,.int .i64 0],.aC (J.ps (.fn f [] [])),.aC [.fn 126 [] pM],.aC [.map 0],.gone,PY x.n,.list true true 39 [v],PX (x.e++[v])]
abbrev ake(J:Jb)(f:Nat)(x:Mk)(t:S3)(b:Br):List (PB aF):=[.map (Hu x.k++[(.agg t.ps,.int .i64 (x.n.length:Int))]),.cells [lI J.s,lI J.o,.own 7,.own 11,.int .i64 0],.aC (J.ps (.fn f [] [])),.aC [.fn 126 [] pM],.aC [.map 0],.gone,.gone,PX x.e,.gone,.gone,.list true true 105 [b],PY (x.n++[b])]
theorem ad5{N f:Nat}{J:Jb}(hJ:jP J){op:List V->V}(kD:wL J op)(hs:∀l:List V,l.length=J.D.length->aX X0 Qp (bQ (N+1)) (.fn f [] []) [lV l] [] (.agg (op l).ps) [])(r:List Int)(rec:∀c r',c::r' <:+ r->afq J op f (N+1) r'):afq J op f (N+2) r:=by
 intro a t x hr ha hd hx BU xJ;unfold ah at BU xJ;have QN:=(jP.o2 hJ).2.1;have hl6:=hJ.eF.len;have lsk:=ap8 (M:=N) (f:=f) hJ (x:=x) r hr ha hd;obtain⟨q1,q2,q3,q4⟩:=V6 hJ (op:=op) (x:=x) r a t hr ha hd;have hw:=V7 hJ r (Qs J.D t r) (fun c hc=>(jP.o2 hJ).2.2 c (a6r (by rw[hr];exact hc)));rw[q1];generalize Qs J.D t r=n at lsk q1 q2 q3 q4 hw;have FZ:J.o.drop (a+n)=r.drop n:=by rw[<-hr,ags]
 have a7w:r.drop n <:+ r:=List.drop_suffix _ _;have Gj:=congrArg List.length FZ;rw[a3S]at Gj;clear q1 hr;generalize a+n=i at lsk q2 q3 FZ Gj;generalize r.drop n=r0 at q4 hw FZ a7w Gj;cases r0 with
 |nil=>
  have e0:i=J.o.length:=by rw[a5J]at Gj;omega
  have t0:((i:Int)==(J.o.length:Int))=true:=by rw[e0];simp
  rw[e0]at q3;have pJ:(aU J.D t).length=J.D.length:=by simp[aU]
  have hce:=a1A (M:=N) (f:=f) J t hJ.d3 (fun k hk=>(Jg hJ q3 hk).2);have hv:=hs (aU J.D t) pJ;simp only[wO]at hw;have hb:x.e.length+[op (aU J.D t)].length<=ah:=by simp only[a3s];unfold ah;omega
  have h1:aX X0 Qp (bQ (N+2)) (.fn 126 [] pM) [.agg t.ps,.int .i64 (a:Int)] (HM0 J f x) (.int .i64 (i64.wrap (0-((x.e++[op (aU J.D t)]).length:Int)))) (afr J f x (op (aU J.D t))):=
   fP fZ (first:=[]) (cap:=pM) (.w lsk (.b t0 (.fr [] hce (.fr [] hv (.o hb .er)))))
  exact aX.gs hX h1 [.mv 6,.gc [8,9]] (by kernel_rfl)
 |cons c r'=>
  have t0:((i:Int)==(J.o.length:Int))=false:=by rw[a3V]at Gj;simp;omega
  obtain⟨aS,hoc,wX,GR,hci,rX⟩:=jP.at_ hJ FZ;have Az:=q4 c r' rfl;have rc:=rec c r' a7w;have ia:gQ (i:Int) J.o.length:=⟨by omega,by omega⟩;have Jo:J.o.getD (i:Int).toNat 0=c:=by rw[a7m];exact hoc
  have ig:gQ (J.o.getD (i:Int).toNat 0) J.g.length:=by rw[Jo,hJ.gl];exact rX
  have hz:=hJ.eF.sz _ (dW (s:=J.s) (k:=c.toNat) (by have:=rX.1;have:=rX.2;omega));have hri:∀c'∈r',gQ c' J.s.length:=fun c' h=>(jP.o2 hJ).2.2 c' (by rw[<-wX]at h;exact a6r h);have hw0:=UO hJ.eF.sz hri;have hw1:wO J.s r'<=(J.s.getD c.toNat 0).toNat*wO J.s r':=adx _ (by omega);have ew:i64.wrap ((i:Int)+1)=((i+1:Nat):Int):=by rw[fH (by omega) (by omega)];omega
  simp only[wO]at hw;unfold jB;rw[a0h Az];cases tg:decide (J.g.getD c.toNat 0>=0)
  .rw[a0g (by simp)];have tg':decide (J.g.getD (J.o.getD (i:Int).toNat 0).toNat 0>=0)=false:=by rw[Jo];exact tg
   by_cases hk:t∈x.k.map (·.1)
   .rw[a0h hk];have hF:pO X0 Qp 148 (Hu x.k) (.agg [.int .i64 t.a,.int .i64 t.b,.int .i64 t.c]) (.int .i64 (knS x.k t)):=XU hx.nd hk;have h1:aX X0 Qp (bQ (N+2)) (.fn 126 [] pM) [.agg t.ps,.int .i64 (a:Int)] (HM0 J f x) (.int .i64 (knS x.k t)) (HM0 J f x):=
     fP fZ (first:=[]) (cap:=pM) (.w lsk (.b t0 (.o ia (.o ig (.b tg' (.c (.int .i64 (knS x.k t)) [] hF (.b (rfl:true=true) .er)))))))
    exact aX.gs hX h1 [.mv 5,.mv 6] (by kernel_rfl)
   rw[a0g hk];have hm2:=UU hJ FZ q3 Az;have hF:nD X0 Qp 148 (Hu x.k) (.agg [.int .i64 t.a,.int .i64 t.b,.int .i64 t.c]):=kS.fresh (x:=t) (by simpa using hk);have is:gQ (J.o.getD (i:Int).toNat 0) J.s.length:=by rw[Jo];exact rX
   have Yh:∀j,j<(J.s.getD c.toNat 0).toNat->j*wO J.s r'+wO J.s r'<=(J.s.getD c.toNat 0).toNat*wO J.s r':=fun j hj=>by
    have:(j+1)*wO J.s r'<=(J.s.getD c.toNat 0).toNat*wO J.s r':=a3P _ hj;rw[a3Q]at this;omega
   let Q:Nat->Mk->Prop:=fun j y=>XOk J op y∧y.e.length<=x.e.length+j*wO J.s r'∧y.n.length+j<=x.n.length+j*wO J.s r'∧∀e∈y.k,e∈x.k∨Dp J (i+1) e.1
   have hq:∀j y,j<(J.s.getD c.toNat 0).toNat->Q j y->Q (j+1) (jB J op r' (bJ J.D t c j) y).2:=fun j y hj hy=>by
    obtain⟨y1,y2,y3,y4⟩:=hy;have Yh:=Yh j hj;have h:=SL hJ op kD r' (i+1) (bJ J.D t c j) y wX aS (lY hJ FZ q3 ⟨by omega,by omega⟩) y1 (by omega) (by omega);have h3:=h.el;have h4:=h.nl;refine⟨h.ok,by rw[a3Q];omega,by rw[a3Q];omega,fun e he=>?_⟩;rcases h.ks e he with h5|h5
    .exact y4 e h5
    exact .inr h5
   have lp:=apa (M:=N) (f:=f) hJ (op:=op) (r:=r') (t:=t) (c:=c) (a:=(i:Int)) x rX Q ⟨hx,by simp,by simp,fun e he=>.inl he⟩ hq (fun j hj k hk=>Jf hJ q3 ⟨by omega,by omega⟩ hk) (fun j y hj hy=>by
    obtain⟨y1,y2,y3,y4⟩:=hy;have Yh:=Yh j hj;rw[ew];exact rc (i+1) (bJ J.D t c j) y wX aS (lY hJ FZ q3 ⟨by omega,by omega⟩) y1 (by unfold ah;omega) (by unfold ah;omega))
   have inv:=dO (g:=UQ J.D (jB J op r') t c) (m:=(J.s.getD c.toNat 0).toNat) (k:=0) (s:=([],x)) (fun j y=>Q j y.2) ⟨hx,by simp,by simp,fun e he=>.inl he⟩ (fun j y _ hj hy=>hq j y.2 (by omega) hy);rw[a3U]at inv;simp only[];generalize aT (UQ J.D (jB J op r') t c) (J.s.getD c.toNat 0).toNat 0 ([],x)=y at lp inv;obtain⟨ks,m⟩:=y;obtain⟨y1,y2,y3,y4⟩:=inv;have hnk:t∉m.k.map (·.1):=fun h=>by
    obtain⟨e,he,e2⟩:=a1f.1 h;rcases y4 e he with h1|h1
    .exact hk (a1f.2 ⟨e,h1,e2⟩)
    rw[e2]at h1;exact ZJ hJ FZ Az h1
   have hF2:nD X0 Qp 148 (Hu m.k) (.agg [.int .i64 t.a,.int .i64 t.b,.int .i64 t.c]):=kS.fresh (x:=t) (by simpa using hnk);have ek:Hu m.k++[(.agg t.ps,.int .i64 (m.n.length:Int))]=Hu (m.k++[(t,(m.n.length:Int))]):=by
    unfold Hu oD.es;rw[a3Y,a3Y];rfl
   have hF3:pO X0 Qp 148 (Hu m.k++[(.agg t.ps,.int .i64 (m.n.length:Int))]) (.agg [.int .i64 t.a,.int .i64 t.b,.int .i64 t.c]) (.int .i64 (m.n.length:Int)):=by
    refine(congrArg (fun l:List (PV aF×PV aF)=>pO X0 Qp 148 l (.agg [.int .i64 t.a,.int .i64 t.b,.int .i64 t.c]) (.int .i64 (m.n.length:Int))) ek).mpr ?_;refine kS.found (x:=t) ?_ ?_
    .rw[a7U,show((fun e:S3×PV X0.Γ=>e.1)∘fun e:S3×Int=>(e.1,(PV.int .i64 e.2:PV X0.Γ)))=fun e=>e.1 from rfl,a3Y];exact Dn y1.nd hnk
    simp
   have hb:m.n.length+[(⟨c,ks⟩:Br)].length<=ah:=by
    simp only[a3s];have y3:m.n.length+(J.s.getD c.toNat 0).toNat<=x.n.length+(J.s.getD c.toNat 0).toNat*wO J.s r':=y3;unfold ah;omega
   have h1:aX X0 Qp (bQ (N+2)) (.fn 126 [] pM) [.agg t.ps,.int .i64 (a:Int)] (HM0 J f x) (.int .i64 (m.n.length:Int)) (ake J f m t ⟨c,ks⟩):=by
    subst Jo;exact fP fZ (first:=[]) (cap:=pM) (.w lsk (.b t0 (.o ia (.o ig (.b tg' (.q (.bool false) hF (.b (rfl:false=false) (.o is (.wG [.mv 5,.mv 6,.a2z 1 1 3] lp (.q (.bool false) (kS.ck t) (.o hF2 (.o hb (.c (.int .i64 (m.n.length:Int)) [] hF3 .er)))))))))))))
   have h2:=aX.gs hX h1 [.gc [7,11]] (v':=.int .i64 (m.n.length:Int)) (H2:=[.map (Hu m.k++[(.agg t.ps,.int .i64 (m.n.length:Int))]),.cells [lI J.s,lI J.o,.own 7,.own 8,.int .i64 0],.aC (J.ps (.fn f [] [])),.aC [.fn 126 [] pM],.aC [.map 0],.gone,.gone,PX m.e,PY (m.n++[⟨c,ks⟩])]) (by kernel_rfl);exact(congrArg (fun l:List (PV aF×PV aF)=>aX X0 Qp (bQ (N+2)) (.fn 126 [] pM) [.agg t.ps,.int .i64 (a:Int)] (HM0 J f x) (.int .i64 (m.n.length:Int)) [.map l,.cells [lI J.s,lI J.o,.own 7,.own 8,.int .i64 0],.aC (J.ps (.fn f [] [])),.aC [.fn 126 [] pM],.aC [.map 0],.gone,.gone,PX m.e,PY (m.n++[⟨c,ks⟩])]) ek).mp h2
  rw[a0h rfl];have tg':decide (J.g.getD (J.o.getD (i:Int).toNat 0).toNat 0>=0)=true:=by rw[Jo];exact tg
  have hg:0<=J.g.getD c.toNat 0:=by simpa using tg
  have haf:=Jd (M:=N) (f:=f) (a:=[]) (cc:=[]) (H:=[]) J t c (J.g.getD c.toNat 0) hJ.d3 (fun k hk=>Jf hJ q3 ⟨hg,hJ.gv c rX hg⟩ hk);have h2:=rc (i+1) (bJ J.D t c (J.g.getD c.toNat 0)) x wX aS (lY hJ FZ q3 ⟨hg,hJ.gv c rX hg⟩) hx (by unfold ah;omega) (by unfold ah;omega);rw[<-ew]at h2;subst Jo;exact fP fZ (first:=[]) (cap:=pM) (.w lsk (.b t0 (.o ia (.o ig (.b tg' (.fr [] haf (.fr [0,1,2,3,4,5,6] h2 .er)))))))
theorem ape{N f:Nat}{J:Jb}(hJ:jP J){op:List V->V}(kD:wL J op)(hs:∀m,N<=m->∀l:List V,l.length=J.D.length->aX X0 Qp (bQ m) (.fn f [] []) [lV l] [] (.agg (op l).ps) []):∀(F:Nat) (r:List Int),r.length<=F->afq J op f (N+F+2) r:=by
 intro F
 induction F with
 |zero=>
  intro r hF;refine ad5 hJ kD (hs _ (by omega)) r fun c r' h=>?_;have:=h.length_le;rw[a3V]at this;omega
 |succ F ih=>
  intro r hF;refine ad5 (N:=N+F+1) hJ kD (hs _ (by omega)) r fun c r' h=>ih r' ?_;have:=h.length_le;rw[a3V]at this;omega
open Go Tw Pv bW
abbrev aau(J:Jb)(f:Nat)(u:Int)(t:S3)(c:Int)(a:Int)(m:Mk)(ks:List Int)(i:Int)(y:List (Nat×PE aF)):aQ aF:=⟨[(1,xi a),(2,.val (.ptr 2 0 5)),(3,.val (.ptr 1 0 5)),(4,.val (.ptr 3 0 1)),(5,.val (.ptr 4 0 1)),(6,.loc 0 0),(9,xi c),(13,.loc 1 0),(93,xi (J.s.getD c.toNat 0)),(94,xi i)]++y,[t.ps,[.int .i64 c,.own 10]],aam J f u m++[oI false false ks]⟩
theorem apf{M f:Nat}{u:Int}{J:Jb}(hJ:jP J){op:List V->V}{r:List Int}{t:S3}{c a:Int}(x:Mk)(hc:gQ c J.s.length)(Q:Nat->Mk->Prop)(h0:Q 0 x)(hq:∀j y,j<(J.s.getD c.toNat 0).toNat->Q j y->Q (j+1) (jB J op r (bJ J.D t c j) y).2)
  (hk:∀j:Nat,j<(J.s.getD c.toNat 0).toNat->∀k,k<J.D.length->a1z (kP J.D k) (t.get k) c j)
  (hf:∀(j:Nat) y,j<(J.s.getD c.toNat 0).toNat->Q j y->aX X0 Qp (bQ (M+1)) (.fn 126 [] pM) [.agg (bJ J.D t c j).ps,.int .i64 (i64.wrap (a+1))] (HM1 J f u y) (.int .i64 (jB J op r (bJ J.D t c j) y).1) (aam J f u (jB J op r (bJ J.D t c j) y).2)) :
  OB (M+1) 126 1 8 (aau J f u t c a x [] 0 []) (.exit 2) (aau J f u t c a (aT (UQ J.D (jB J op r) t c) (J.s.getD c.toNat 0).toNat 0 ([],x)).2 (aT (UQ J.D (jB J op r) t c) (J.s.getD c.toNat 0).toNat 0 ([],x)).1 (((J.s.getD c.toNat 0).toNat:Nat):Int) [(95,xl false)]):=by
 have hz:=hJ.eF.sz _ (dW (s:=J.s) (k:=c.toNat) (by have:=hc.1;have:=hc.2;omega));refine uy (σ:=List Int×Mk) (N:=(J.s.getD c.toNat 0).toNat) (g:=UQ J.D (jB J op r) t c) (s0:=([],x)) (st:=fun i y=>aau J f u t c a y.2 y.1 i []) (fin:=fun y=>aau J f u t c a y.2 y.1 (((J.s.getD c.toNat 0).toNat:Nat):Int) [(95,xl false)]) (fun j y=>y.1.length=j∧Q j y.2) (by kernel_rfl) (by unfold ah;omega) ⟨rfl,h0⟩ (fun j y hj hy=>⟨by simp[UQ,hy.1],hq j y.2 hj hy.2⟩) (fun j y hj hy m e p g=>?_) (fun y _=>?_)
 .have h1:=hf j y.2 hj hy.2;have ha:=Jd (M:=M) (f:=f) (a:=[]) (cc:=[.ptr 0 0 1]) (H:=[.aC [.int .u8 u]]) J t c j hJ.d3 (hk j hj);have t1:decide ((j:Int)<J.s.getD c.toNat 0)=true:=by rw[a1X];omega
  have h3:=hy.1;unfold UQ at g;generalize jB J op r (bJ J.D t c j) y.2=z at h1 g;obtain⟨v,z⟩:=z;exact aK fZ (.b t1 (.fr [5] ha (.fr [0,1,2,3,4,5,8,9] h1 (.o (show y.1.length+[v].length<=ah by simp only[a3s];unfold ah;omega) (.RU [.gc [11,12,14]] g)))))
 .have t1:decide ((((J.s.getD c.toNat 0).toNat:Nat):Int)<J.s.getD c.toNat 0)=false:=by rw[a2W];omega
  exact aK fZ (.b t1 .ex)
abbrev afs(J:Jb)(op:List V->V)(f:Nat)(u:Int)(m:Nat)(r:List Int):Prop:=∀(a:Nat) (t:S3) (x:Mk),J.o.drop a=r->a<=J.o.length->Dp J a t->XOk J op x->x.e.length+wO J.s r<=ah->x.n.length+wO J.s r<=ah ->
  aX X0 Qp (bQ m) (.fn 126 [] pM) [.agg t.ps,.int .i64 (a:Int)] (HM1 J f u x) (.int .i64 (jB J op r t x).1) (aam J f u (jB J op r t x).2)
abbrev aft(J:Jb)(f:Nat)(u:Int)(x:Mk)(v:V):List (PB aF):=[.map (Hu x.k),.cells [lI J.s,lI J.o,.own 9,.own 7,.int .i64 0],.aC (J.ps (.fn f [] [.ptr 5 0 1])),.aC [.fn 126 [] pM],.aC [.map 0],.aC [.int .u8 u],.gone,PY x.n,.list true true 39 [v],PX (x.e++[v])]
abbrev akg(J:Jb)(f:Nat)(u:Int)(x:Mk)(t:S3)(b:Br):List (PB aF):=[.map (Hu x.k++[(.agg t.ps,.int .i64 (x.n.length:Int))]),.cells [lI J.s,lI J.o,.own 8,.own 12,.int .i64 0],.aC (J.ps (.fn f [] [.ptr 5 0 1])),.aC [.fn 126 [] pM],.aC [.map 0],.aC [.int .u8 u],.gone,.gone,PX x.e,.gone,.gone,.list true true 105 [b],PY (x.n++[b])]
theorem ad6{N f:Nat}(u:Int){J:Jb}(hJ:jP J){op:List V->V}(kD:wL J op)(hs:∀l:List V,l.length=J.D.length->aX X0 Qp (bQ (N+1)) (.fn f [] [.ptr 0 0 1]) [lV l] [.aC [.int .u8 u]] (.agg (op l).ps) [.aC [.int .u8 u]])(r:List Int)(rec:∀c r',c::r' <:+ r->afs J op f u (N+1) r'):afs J op f u (N+2) r:=by
 intro a t x hr ha hd hx BU xJ;unfold ah at BU xJ;have QN:=(jP.o2 hJ).2.1;have hl6:=hJ.eF.len;have lsk:=ap9 (M:=N) (f:=f) u hJ (x:=x) r hr ha hd;obtain⟨q1,q2,q3,q4⟩:=V6 hJ (op:=op) (x:=x) r a t hr ha hd;have hw:=V7 hJ r (Qs J.D t r) (fun c hc=>(jP.o2 hJ).2.2 c (a6r (by rw[hr];exact hc)));rw[q1];generalize Qs J.D t r=n at lsk q1 q2 q3 q4 hw;have FZ:J.o.drop (a+n)=r.drop n:=by rw[<-hr,ags]
 have a7w:r.drop n <:+ r:=List.drop_suffix _ _;have Gj:=congrArg List.length FZ;rw[a3S]at Gj;clear q1 hr;generalize a+n=i at lsk q2 q3 FZ Gj;generalize r.drop n=r0 at q4 hw FZ a7w Gj;cases r0 with
 |nil=>
  have e0:i=J.o.length:=by rw[a5J]at Gj;omega
  have t0:((i:Int)==(J.o.length:Int))=true:=by rw[e0];simp
  rw[e0]at q3;have pJ:(aU J.D t).length=J.D.length:=by simp[aU]
  have hce:=aak (M:=N) (f:=f) (u:=u) J t hJ.d3 (fun k hk=>(Jg hJ q3 hk).2);have hv:=hs (aU J.D t) pJ;simp only[wO]at hw;have hb:x.e.length+[op (aU J.D t)].length<=ah:=by simp only[a3s];unfold ah;omega
  have h1:aX X0 Qp (bQ (N+2)) (.fn 126 [] pM) [.agg t.ps,.int .i64 (a:Int)] (HM1 J f u x) (.int .i64 (i64.wrap (0-((x.e++[op (aU J.D t)]).length:Int)))) (aft J f u x (op (aU J.D t))):=
   fP fZ (first:=[]) (cap:=pM) (.w lsk (.b t0 (.fr [5] hce (.fr [5] hv (.o hb .er)))))
  exact aX.gs hX h1 [.mv 7,.gc [9,10]] (by kernel_rfl)
 |cons c r'=>
  have t0:((i:Int)==(J.o.length:Int))=false:=by rw[a3V]at Gj;simp;omega
  obtain⟨aS,hoc,wX,GR,hci,rX⟩:=jP.at_ hJ FZ;have Az:=q4 c r' rfl;have rc:=rec c r' a7w;have ia:gQ (i:Int) J.o.length:=⟨by omega,by omega⟩;have Jo:J.o.getD (i:Int).toNat 0=c:=by rw[a7m];exact hoc
  have ig:gQ (J.o.getD (i:Int).toNat 0) J.g.length:=by rw[Jo,hJ.gl];exact rX
  have hz:=hJ.eF.sz _ (dW (s:=J.s) (k:=c.toNat) (by have:=rX.1;have:=rX.2;omega));have hri:∀c'∈r',gQ c' J.s.length:=fun c' h=>(jP.o2 hJ).2.2 c' (by rw[<-wX]at h;exact a6r h);have hw0:=UO hJ.eF.sz hri;have hw1:wO J.s r'<=(J.s.getD c.toNat 0).toNat*wO J.s r':=adx _ (by omega);have ew:i64.wrap ((i:Int)+1)=((i+1:Nat):Int):=by rw[fH (by omega) (by omega)];omega
  simp only[wO]at hw;unfold jB;rw[a0h Az];cases tg:decide (J.g.getD c.toNat 0>=0)
  .rw[a0g (by simp)];have tg':decide (J.g.getD (J.o.getD (i:Int).toNat 0).toNat 0>=0)=false:=by rw[Jo];exact tg
   by_cases hk:t∈x.k.map (·.1)
   .rw[a0h hk];have hF:pO X0 Qp 148 (Hu x.k) (.agg [.int .i64 t.a,.int .i64 t.b,.int .i64 t.c]) (.int .i64 (knS x.k t)):=XU hx.nd hk;have h1:aX X0 Qp (bQ (N+2)) (.fn 126 [] pM) [.agg t.ps,.int .i64 (a:Int)] (HM1 J f u x) (.int .i64 (knS x.k t)) (HM1 J f u x):=
     fP fZ (first:=[]) (cap:=pM) (.w lsk (.b t0 (.o ia (.o ig (.b tg' (.c (.int .i64 (knS x.k t)) [] hF (.b (rfl:true=true) .er)))))))
    exact aX.gs hX h1 [.mv 6,.mv 7] (by kernel_rfl)
   rw[a0g hk];have hm2:=UU hJ FZ q3 Az;have hF:nD X0 Qp 148 (Hu x.k) (.agg [.int .i64 t.a,.int .i64 t.b,.int .i64 t.c]):=kS.fresh (x:=t) (by simpa using hk);have is:gQ (J.o.getD (i:Int).toNat 0) J.s.length:=by rw[Jo];exact rX
   have Yh:∀j,j<(J.s.getD c.toNat 0).toNat->j*wO J.s r'+wO J.s r'<=(J.s.getD c.toNat 0).toNat*wO J.s r':=fun j hj=>by
    have:(j+1)*wO J.s r'<=(J.s.getD c.toNat 0).toNat*wO J.s r':=a3P _ hj;rw[a3Q]at this;omega
   let Q:Nat->Mk->Prop:=fun j y=>XOk J op y∧y.e.length<=x.e.length+j*wO J.s r'∧y.n.length+j<=x.n.length+j*wO J.s r'∧∀e∈y.k,e∈x.k∨Dp J (i+1) e.1
   have hq:∀j y,j<(J.s.getD c.toNat 0).toNat->Q j y->Q (j+1) (jB J op r' (bJ J.D t c j) y).2:=fun j y hj hy=>by
    obtain⟨y1,y2,y3,y4⟩:=hy;have Yh:=Yh j hj;have h:=SL hJ op kD r' (i+1) (bJ J.D t c j) y wX aS (lY hJ FZ q3 ⟨by omega,by omega⟩) y1 (by omega) (by omega);have h3:=h.el;have h4:=h.nl;refine⟨h.ok,by rw[a3Q];omega,by rw[a3Q];omega,fun e he=>?_⟩;rcases h.ks e he with h5|h5
    .exact y4 e h5
    exact .inr h5
   have lp:=apf (M:=N) (f:=f) (u:=u) hJ (op:=op) (r:=r') (t:=t) (c:=c) (a:=(i:Int)) x rX Q ⟨hx,by simp,by simp,fun e he=>.inl he⟩ hq (fun j hj k hk=>Jf hJ q3 ⟨by omega,by omega⟩ hk) (fun j y hj hy=>by
    obtain⟨y1,y2,y3,y4⟩:=hy;have Yh:=Yh j hj;rw[ew];exact rc (i+1) (bJ J.D t c j) y wX aS (lY hJ FZ q3 ⟨by omega,by omega⟩) y1 (by unfold ah;omega) (by unfold ah;omega))
   have inv:=dO (g:=UQ J.D (jB J op r') t c) (m:=(J.s.getD c.toNat 0).toNat) (k:=0) (s:=([],x)) (fun j y=>Q j y.2) ⟨hx,by simp,by simp,fun e he=>.inl he⟩ (fun j y _ hj hy=>hq j y.2 (by omega) hy);rw[a3U]at inv;simp only[];generalize aT (UQ J.D (jB J op r') t c) (J.s.getD c.toNat 0).toNat 0 ([],x)=y at lp inv;obtain⟨ks,m⟩:=y;obtain⟨y1,y2,y3,y4⟩:=inv;have hnk:t∉m.k.map (·.1):=fun h=>by
    obtain⟨e,he,e2⟩:=a1f.1 h;rcases y4 e he with h1|h1
    .exact hk (a1f.2 ⟨e,h1,e2⟩)
    rw[e2]at h1;exact ZJ hJ FZ Az h1
   have hF2:nD X0 Qp 148 (Hu m.k) (.agg [.int .i64 t.a,.int .i64 t.b,.int .i64 t.c]):=kS.fresh (x:=t) (by simpa using hnk);have ek:Hu m.k++[(.agg t.ps,.int .i64 (m.n.length:Int))]=Hu (m.k++[(t,(m.n.length:Int))]):=by
    unfold Hu oD.es;rw[a3Y,a3Y];rfl
   have hF3:pO X0 Qp 148 (Hu m.k++[(.agg t.ps,.int .i64 (m.n.length:Int))]) (.agg [.int .i64 t.a,.int .i64 t.b,.int .i64 t.c]) (.int .i64 (m.n.length:Int)):=by
    refine(congrArg (fun l:List (PV aF×PV aF)=>pO X0 Qp 148 l (.agg [.int .i64 t.a,.int .i64 t.b,.int .i64 t.c]) (.int .i64 (m.n.length:Int))) ek).mpr ?_;refine kS.found (x:=t) ?_ ?_
    .rw[a7U,show((fun e:S3×PV X0.Γ=>e.1)∘fun e:S3×Int=>(e.1,(PV.int .i64 e.2:PV X0.Γ)))=fun e=>e.1 from rfl,a3Y];exact Dn y1.nd hnk
    simp
   have hb:m.n.length+[(⟨c,ks⟩:Br)].length<=ah:=by
    simp only[a3s];have y3:m.n.length+(J.s.getD c.toNat 0).toNat<=x.n.length+(J.s.getD c.toNat 0).toNat*wO J.s r':=y3;unfold ah;omega
   have h1:aX X0 Qp (bQ (N+2)) (.fn 126 [] pM) [.agg t.ps,.int .i64 (a:Int)] (HM1 J f u x) (.int .i64 (m.n.length:Int)) (akg J f u m t ⟨c,ks⟩):=by
    subst Jo;exact fP fZ (first:=[]) (cap:=pM) (.w lsk (.b t0 (.o ia (.o ig (.b tg' (.q (.bool false) hF (.b (rfl:false=false) (.o is (.wG [.mv 6,.mv 7,.a2z 1 1 3] lp (.q (.bool false) (kS.ck t) (.o hF2 (.o hb (.c (.int .i64 (m.n.length:Int)) [] hF3 .er)))))))))))))
   have h2:=aX.gs hX h1 [.gc [8,12]] (v':=.int .i64 (m.n.length:Int)) (H2:=[.map (Hu m.k++[(.agg t.ps,.int .i64 (m.n.length:Int))]),.cells [lI J.s,lI J.o,.own 8,.own 9,.int .i64 0],.aC (J.ps (.fn f [] [.ptr 5 0 1])),.aC [.fn 126 [] pM],.aC [.map 0],.aC [.int .u8 u],.gone,.gone,PX m.e,PY (m.n++[⟨c,ks⟩])]) (by kernel_rfl);exact(congrArg (fun l:List (PV aF×PV aF)=>aX X0 Qp (bQ (N+2)) (.fn 126 [] pM) [.agg t.ps,.int .i64 (a:Int)] (HM1 J f u x) (.int .i64 (m.n.length:Int)) [.map l,.cells [lI J.s,lI J.o,.own 8,.own 9,.int .i64 0],.aC (J.ps (.fn f [] [.ptr 5 0 1])),.aC [.fn 126 [] pM],.aC [.map 0],.aC [.int .u8 u],.gone,.gone,PX m.e,PY (m.n++[⟨c,ks⟩])]) ek).mp h2
  rw[a0h rfl];have tg':decide (J.g.getD (J.o.getD (i:Int).toNat 0).toNat 0>=0)=true:=by rw[Jo];exact tg
  have hg:0<=J.g.getD c.toNat 0:=by simpa using tg
  have haf:=Jd (M:=N) (f:=f) (a:=[]) (cc:=[.ptr 0 0 1]) (H:=[.aC [.int .u8 u]]) J t c (J.g.getD c.toNat 0) hJ.d3 (fun k hk=>Jf hJ q3 ⟨hg,hJ.gv c rX hg⟩ hk);have h2:=rc (i+1) (bJ J.D t c (J.g.getD c.toNat 0)) x wX aS (lY hJ FZ q3 ⟨hg,hJ.gv c rX hg⟩) hx (by unfold ah;omega) (by unfold ah;omega);rw[<-ew]at h2;subst Jo;exact fP fZ (first:=[]) (cap:=pM) (.w lsk (.b t0 (.o ia (.o ig (.b tg' (.fr [5] haf (.fr [0,1,2,3,4,5,6,7] h2 .er)))))))
theorem apg{N f:Nat}(u:Int){J:Jb}(hJ:jP J){op:List V->V}(kD:wL J op)(hs:∀m,N<=m->∀l:List V,l.length=J.D.length->aX X0 Qp (bQ m) (.fn f [] [.ptr 0 0 1]) [lV l] [.aC [.int .u8 u]] (.agg (op l).ps) [.aC [.int .u8 u]]):∀(F:Nat) (r:List Int),r.length<=F->afs J op f u (N+F+2) r:=by
 intro F
 induction F with
 |zero=>
  intro r hF;refine ad6 u hJ kD (hs _ (by omega)) r fun c r' h=>?_;have:=h.length_le;rw[a3V]at this;omega
 |succ F ih=>
  intro r hF;refine ad6 (N:=N+F+1) u hJ kD (hs _ (by omega)) r fun c r' h=>ih r' ?_;have:=h.length_le;rw[a3V]at this;omega
end Go.Proofs.YtmobpoiejckagaaGreat
namespace Pv
open Go Tw
section
variable {X:kE} {P:Program}
theorem aX.akh(hX:bM X P){call:aZ}{fv v:PV X.Γ}{xs:List (PV X.Γ)}{H H0 H1:List (PB X.Γ)}(gs:List G)(hs:aX X P call fv xs H0 v H1)(hg:kW H.length gs (⟨[],[],H⟩:aQ X.Γ)=some ⟨[],[],H0⟩):aX X P call fv xs H v H1:=by
 intro A m h tf rP hr hf hx;obtain⟨m2,q1,q2,q3⟩:=mg hX hg A (fun b=>b∈bn m) h.length m ⟨[],[],h,[]⟩ ⟨⟨hr,rfl,fun k c hk=>(by simp at hk),.nil⟩,fun b hb=>.inl hb,fun b hb=>(by cases hb),a15 _⟩;have up:Up m m2:=fun i mb hi=>q3 i mb (by rw[<-hr.len];exact(a04.1 hi).1) hi;obtain⟨w,h',ws,m1,k1,k2,k3,k4,k5,k6⟩:=hs A m2 h tf rP q1.st.heap (hf.step q2 up) (hx.step q2 up);refine⟨w,h',ws,m1,k1,k2,k3,q2.trans k4,fun i mb hi=>?_,fun b hb=>?_⟩
 .rcases up i mb hi with g|g
  .exact k5 i mb g
  rcases k5 i _ g with g|g<;>exact .inr g
 have hb:=k6 b hb;rcases q1.own b hb with g|g
 .exact g
 have:=q1.st.heap.inb hb;have:b<h.length:=this;omega
end
end Pv
namespace Go.Proofs.YtmobpoiejckagaaGreat
open Go Tw Pv bW
theorem Mc{n:Nat}(hO:Ok n Ht)(l:List Int)(hl:l.length<=ah):aX X0 Qp (bQ n) (.fn 125 [] []) [.dw 3 l false] [] (lI l) []:=
 have h0:=mY.aa5 hX (hO 125 [.dw 3 l false] (.own 0) (lsI l) [l.length<=ah] (by kernel_rfl) (List.forall_mem_singleton.2 hl)) rfl rfl rfl rfl
 aX.cut hX (aX.fzR hX h0 [0] (v':=lI l) rfl (by decide)) rfl rfl rfl rfl
abbrev aph(J:Jb)(f:Nat)(x:Mk):List (PB aF):=[.map (Hu x.k),.cells [lI J.s,lI J.o,.own 7,.own 8,.int .i64 0],.cells (J.ps (.fn f [] [])),.cells [.fn 126 [] pM],.cells [.map 0],.gone,.gone,PX x.e,PY x.n]
theorem aav{m f:Nat}(hO:Ok m Ht)(J:Jb)(st:S3)(z:Int×Mk)
  (c1:aX X0 Qp (bQ m) (.fn 125 [] []) [.dw 3 J.s false] [] (lI J.s) [])
  (c2:aX X0 Qp (bQ m) (.fn 125 [] []) [.dw 3 J.o false] [] (lI J.o) [])
  (c3:aX X0 Qp (bQ m) (.fn 130 [] []) [.agg (J.ps (.fn f [] []))] [] (.agg st.ps) [])
  (c5:aX X0 Qp (bQ m) (.fn 126 [] pM) [.agg st.ps,.int .i64 (0:Int)] [.map [],.cells [lI J.s,lI J.o,.nil .slc,.nil .slc,.int .i64 0],.aC (J.ps (.fn f [] [])),.aC [.fn 126 [] pM],.aC [.map 0]] (.int .i64 z.1) (aal J f z.2))
  (hr:Ih ⟨J.s,J.o,z.2.e,z.2.n,z.1⟩) (p1:J.s.length<=ah) (p2:J.o.length<=2^20) (p3:z.2.e.length<=ah) (p4:((bD ⟨J.s,J.o,z.2.e,z.2.n,z.1⟩).2 != 0)=false->ClP (bD ⟨J.s,J.o,z.2.e,z.2.n,z.1⟩).1) :
  aX X0 Qp (bQ (m+1)) (.fn 80 [] []) [.agg (J.ps (.fn f [] []))] [] (dA.put (zy ⟨J.s,J.o,z.2.e,z.2.n,z.1⟩).1) []:=by
 obtain⟨v,e,n,k⟩:=z;have h0:aX X0 Qp (bQ (m+1)) (.fn 80 [] []) [.agg (J.ps (.fn f [] []))] [] (dA.put (zy ⟨J.s,J.o,e,n,v⟩).1) ([]++[.cells (J.ps (.fn f [] [])),.cells [lI J.s,lI J.o,.own 7,.own 8,.int .i64 v],.map (Hu k),.cells [.map 2],.cells [.fn 126 [] [.ptr 0 0 5,.ptr 1 0 5,.ptr 4 0 1,.ptr 3 0 1]],.gone,.gone,.gone,.gone]):=
  fP hO (first:=[]) (cap:=[]) (.fr [] c1 (.fr [] c2 (.fr [] c3 (.Qh (H2:=aph J f ⟨e,n,k⟩) [2,1,0,4,3] [2,3,4] c5 (.o hr (.o p1 (.o p2 (.o p3 (.o p4 .er)))))))))
 exact aX.cut hX h0 rfl rfl rfl rfl
theorem afu{N f:Nat}{J:Jb}(hJ:jP J){op:List V->V}(kD:wL J op)(hs:∀m,N<=m->∀l:List V,l.length=J.D.length->aX X0 Qp (bQ m) (.fn f [] []) [lV l] [] (.agg (op l).ps) [])(hO:∀m,N<=m->Ok m Ht){m:Nat}(hm:N+J.o.length+2<=m):aX X0 Qp (bQ (m+1)) (.fn 80 [] []) [.agg (J.ps (.fn f [] []))] [] (dA.put (Ji J op)) []:=by
 have hl:=hJ.eF.len;have QN:=(jP.o2 hJ).2.1;have hw:=OW hJ.eF.sz hJ.ord;have hmn:=hJ.eF.many;have c1:=Mc (n:=m) (hO m (by omega)) J.s (by unfold ah;omega);have c2:=Mc (n:=m) (hO m (by omega)) J.o (by unfold ah;omega);obtain⟨m',rfl⟩:∃m',m=m'+1:=⟨m-1,by omega⟩;have c3:=ZI (M:=m') (f:=f) (a:=[]) (cc:=[]) (H:=[]) J hJ.d3;have c4:=ape (N:=m'+1-J.o.length-2) (f:=f) hJ kD (fun m2 h2=>hs m2 (by omega)) J.o.length J.o (a15 _) 0 (fG J.D) ⟨[],[],[]⟩ abt (a4v _) (fun k hk=>by
  rw[zA hJ.d3 hk];exact⟨(hJ.dg k hk).t.root,a4v _⟩) ⟨⟨fun i hi=>(by simp at hi),fun i hi=>(by simp at hi),fun i hi=>(by simp at hi)⟩,fun e he=>(by cases he),a7f,fun v hv=>(by cases hv),fun b hb=>(by cases hb)⟩ (by show 0+wO J.s J.o<=ah;unfold ah;omega) (by show 0+wO J.s J.o<=ah;unfold ah;omega)
 rw[show m'+1-J.o.length-2+J.o.length+2=m'+1 by omega]at c4;have c5:=aX.akh hX (H:=[.map [],.cells [lI J.s,lI J.o,.nil .slc,.nil .slc,.int .i64 0],.aC (J.ps (.fn f [] [])),.aC [.fn 126 [] pM],.aC [.map 0]]) [.Uf 1 2 39,.Uf 1 3 105] c4 (by kernel_rfl);obtain⟨h1,h2,h3⟩:=Jj hJ kD;have hr:=a7p hJ kD;have h4:(bD (oZ J op)).2=0:=by rw[(XJ hJ kD).1]
 have h5:=wJ hr (by unfold ah;omega) (by show J.s.length<=ah;unfold ah;omega) (by show J.o.length<=ah;unfold ah;omega) h4;have p1:J.s.length<=ah:=by unfold ah;omega
 have p2:J.o.length<=2^20:=by omega
 have p3:(oZ J op).aO.length<=ah:=by unfold ah;omega
 have p4:((bD (oZ J op)).2 != 0)=false->ClP (bD (oZ J op)).1:=fun _=>by rw[h5.1];exact h5.2
 exact aav (hO (m'+1) (by omega)) J (fG J.D) (jB J op J.o (fG J.D) ⟨[],[],[]⟩) c1 c2 c3 c5 hr p1 p2 p3 p4
abbrev apj(J:Jb)(f:Nat)(u:Int)(x:Mk):List (PB aF):=[.map (Hu x.k),.cells [lI J.s,lI J.o,.own 8,.own 9,.int .i64 0],.cells (J.ps (.fn f [] [.ptr 5 0 1])),.cells [.fn 126 [] pM],.cells [.map 0],.aC [.int .u8 u],.gone,.gone,PX x.e,PY x.n]
theorem aaw{m f:Nat}(u:Int)(hO:Ok m Ht)(J:Jb)(st:S3)(z:Int×Mk)
  (c1:aX X0 Qp (bQ m) (.fn 125 [] []) [.dw 3 J.s false] [] (lI J.s) [])
  (c2:aX X0 Qp (bQ m) (.fn 125 [] []) [.dw 3 J.o false] [] (lI J.o) [])
  (c3:aX X0 Qp (bQ m) (.fn 130 [] []) [.agg (J.ps (.fn f [] [.ptr 0 0 1]))] [.aC [.int .u8 u]] (.agg st.ps) [.aC [.int .u8 u]])
  (c5:aX X0 Qp (bQ m) (.fn 126 [] pM) [.agg st.ps,.int .i64 (0:Int)] [.map [],.cells [lI J.s,lI J.o,.nil .slc,.nil .slc,.int .i64 0],.aC (J.ps (.fn f [] [.ptr 5 0 1])),.aC [.fn 126 [] pM],.aC [.map 0],.aC [.int .u8 u]] (.int .i64 z.1) (aam J f u z.2))
  (hr:Ih ⟨J.s,J.o,z.2.e,z.2.n,z.1⟩) (p1:J.s.length<=ah) (p2:J.o.length<=2^20) (p3:z.2.e.length<=ah) (p4:((bD ⟨J.s,J.o,z.2.e,z.2.n,z.1⟩).2 != 0)=false->ClP (bD ⟨J.s,J.o,z.2.e,z.2.n,z.1⟩).1) :
  aX X0 Qp (bQ (m+1)) (.fn 80 [] []) [.agg (J.ps (.fn f [] [.ptr 0 0 1]))] [.aC [.int .u8 u]] (dA.put (zy ⟨J.s,J.o,z.2.e,z.2.n,z.1⟩).1) [.aC [.int .u8 u]]:=by
 obtain⟨v,e,n,k⟩:=z;have h0:aX X0 Qp (bQ (m+1)) (.fn 80 [] []) [.agg (J.ps (.fn f [] [.ptr 0 0 1]))] [.aC [.int .u8 u]] (dA.put (zy ⟨J.s,J.o,e,n,v⟩).1) ([.aC [.int .u8 u]]++[.cells (J.ps (.fn f [] [.ptr 0 0 1])),.cells [lI J.s,lI J.o,.own 8,.own 9,.int .i64 v],.map (Hu k),.cells [.map 3],.cells [.fn 126 [] [.ptr 1 0 5,.ptr 2 0 5,.ptr 5 0 1,.ptr 4 0 1]],.gone,.gone,.gone,.gone]):=
  fP hO (first:=[]) (cap:=[]) (.fr [] c1 (.fr [] c2 (.fr [0] c3 (.Qh (H2:=apj J f u ⟨e,n,k⟩) [3,2,1,5,4,0] [2,3,4] c5 (.o hr (.o p1 (.o p2 (.o p3 (.o p4 .er)))))))))
 exact aX.cut hX h0 rfl rfl rfl rfl
theorem afv{N f:Nat}(u:Int){J:Jb}(hJ:jP J){op:List V->V}(kD:wL J op)(hs:∀m,N<=m->∀l:List V,l.length=J.D.length->aX X0 Qp (bQ m) (.fn f [] [.ptr 0 0 1]) [lV l] [.aC [.int .u8 u]] (.agg (op l).ps) [.aC [.int .u8 u]])(hO:∀m,N<=m->Ok m Ht){m:Nat}(hm:N+J.o.length+2<=m):aX X0 Qp (bQ (m+1)) (.fn 80 [] []) [.agg (J.ps (.fn f [] [.ptr 0 0 1]))] [.aC [.int .u8 u]] (dA.put (Ji J op)) [.aC [.int .u8 u]]:=by
 have hl:=hJ.eF.len;have QN:=(jP.o2 hJ).2.1;have hw:=OW hJ.eF.sz hJ.ord;have hmn:=hJ.eF.many;have c1:=Mc (n:=m) (hO m (by omega)) J.s (by unfold ah;omega);have c2:=Mc (n:=m) (hO m (by omega)) J.o (by unfold ah;omega);obtain⟨m',rfl⟩:∃m',m=m'+1:=⟨m-1,by omega⟩;have c3:=ZI (M:=m') (f:=f) (a:=[]) (cc:=[.ptr 0 0 1]) (H:=[.aC [.int .u8 u]]) J hJ.d3;have c4:=apg (N:=m'+1-J.o.length-2) (f:=f) u hJ kD (fun m2 h2=>hs m2 (by omega)) J.o.length J.o (a15 _) 0 (fG J.D) ⟨[],[],[]⟩ abt (a4v _) (fun k hk=>by
  rw[zA hJ.d3 hk];exact⟨(hJ.dg k hk).t.root,a4v _⟩) ⟨⟨fun i hi=>(by simp at hi),fun i hi=>(by simp at hi),fun i hi=>(by simp at hi)⟩,fun e he=>(by cases he),a7f,fun v hv=>(by cases hv),fun b hb=>(by cases hb)⟩ (by show 0+wO J.s J.o<=ah;unfold ah;omega) (by show 0+wO J.s J.o<=ah;unfold ah;omega)
 rw[show m'+1-J.o.length-2+J.o.length+2=m'+1 by omega]at c4;have c5:=aX.akh hX (H:=[.map [],.cells [lI J.s,lI J.o,.nil .slc,.nil .slc,.int .i64 0],.aC (J.ps (.fn f [] [.ptr 5 0 1])),.aC [.fn 126 [] pM],.aC [.map 0],.aC [.int .u8 u]]) [.Uf 1 2 39,.Uf 1 3 105] c4 (by kernel_rfl);obtain⟨h1,h2,h3⟩:=Jj hJ kD;have hr:=a7p hJ kD;have h4:(bD (oZ J op)).2=0:=by rw[(XJ hJ kD).1]
 have h5:=wJ hr (by unfold ah;omega) (by show J.s.length<=ah;unfold ah;omega) (by show J.o.length<=ah;unfold ah;omega) h4;have p1:J.s.length<=ah:=by unfold ah;omega
 have p2:J.o.length<=2^20:=by omega
 have p3:(oZ J op).aO.length<=ah:=by unfold ah;omega
 have p4:((bD (oZ J op)).2 != 0)=false->ClP (bD (oZ J op)).1:=fun _=>by rw[h5.1];exact h5.2
 exact aaw u (hO (m'+1) (by omega)) J (fG J.D) (jB J op J.o (fG J.D) ⟨[],[],[]⟩) c1 c2 c3 c5 hr p1 p2 p3 p4
end Go.Proofs.YtmobpoiejckagaaGreat
namespace Pv
open Go Tw
section
variable {P:Program} {T:qp} {call:aZ} {cd:uO} {L f:Nat} {fl nt:Nat}
def nN:Code->Bool
 |.rangeFunc ..=>false
 |.region _ ops _=>(zY ops).isNone
 |.seq a b=>nN a&&nN b
 |.cond _ a b=>nN a&&nN b
 |.block _ b=>nN b
 |.scope b=>nN b
 |.loop b=>nN b
 |_=>true
theorem a7y:∀(c:Code) {s s':St} {e:Ex} {Q:Ex->St->Prop},nN c=true->exec P T call L f false fl nt c s=some (e,s')->Q e s'->fF P T call cd L f fl nt c s Q:=by
 intro c
 induction c with
 |region id ops draw=>
  intro s s' e Q hn h hq;simp only[nN,Option.isNone_iff_eq_none]at hn;simp only[fF,hn];exact⟨_,_,h,hq⟩
 |seq x y VX ihy=>
  intro s s' e Q hn h hq;simp only[nN,a2m]at hn;simp only[fF];simp only[exec]at h;split at h
  .rename_i s1 hx;exact VX hn.1 hx (ihy hn.2 h hq)
  rename_i iy;refine VX hn.1 h ?_;cases e with
  |norm=>exact(iy s' h).elim
  |exit i=>exact hq
  |ret=>exact hq
 |cond c x y VX ihy=>
  intro s s' e Q hn h hq;simp only[nN,a2m]at hn;simp only[fF];simp only[exec]at h;split at h
  .rename_i hc;simp only[hc];exact VX hn.1 h hq
  .rename_i hc;simp only[hc];exact ihy hn.2 h hq
  cases h
 |block id b ih=>
  intro s s' e Q hn h hq;simp only[nN]at hn;simp only[fF];simp only[exec]at h;split at h
  .rename_i i s1 hb;cases h;exact ih hn hb hq
  rename_i iy;refine ih hn h ?_;cases e with
  |exit i=>exact(iy i s' h).elim
  |norm=>exact hq
  |ret=>exact hq
 |scope b ih=>
  intro s s' e Q hn h hq;simp only[nN]at hn;simp only[fF];simp only[exec]at h;exact ih hn h hq
 |loop b ih=>
  intro s s' e Q hn h hq;simp only[nN]at hn;simp only[fF];simp only[exec]at h;have:∀(k:Nat) {s:St},iter (fun s=>exec P T call L f false fl nt b (jM (T.eP f (dR b)) s)) k s=some (e,s')->Gq (fun s Q=>fF P T call cd L f fl nt b (jM (T.eP f (dR b)) s) Q) k s Q:=by
   intro k
   induction k with
   |zero=>intro s h;simp[iter]at h
   |succ k ihk=>
    intro s h;simp only[iter]at h;split at h
    .rename_i s1 h1;exact ih hn h1 (ihk h)
    rename_i iy;refine ih hn h ?_;cases e with
    |norm=>exact(iy s' h).elim
    |exit i=>exact hq
    |ret=>exact hq
  exact this L h
 |rangeFunc=>intro s s' e Q hn;cases hn
 |_=>
  intro s s' e Q hn h hq;simp only[fF];exact⟨_,_,h,hq⟩
end
section
variable {X:kE} {P:Program} {T:qp} {call:aZ} {cd:uO} {L f nt B:Nat}
def aJ(X:kE)(P:Program)(T:qp)(call:aZ)(cd:uO)(L f nt B:Nat)(c:Code)(ps:aQ X.Γ)(Q:Ex->aQ X.Γ->Prop):Prop:=
 ∀(A W:Nat->Prop) (fl:Nat) (m:List MB) (ts:St) (R:Ex->St->Prop),SR X P A W fl m ps ts->(∀e iH ps1 m1,Q e ps1->SR X P A W fl m1 ps1 iH->Fr m ts.heap m1 iH.heap->LP B m m1->R e iH)->fF P T call cd L f fl nt c ts R
theorem aJ.mono{c:Code}{ps:aQ X.Γ}{Q Q':Ex->aQ X.Γ->Prop}(hq:∀e s,Q e s->Q' e s)(h:aJ X P T call cd L f nt B c ps Q):aJ X P T call cd L f nt B c ps Q':=fun A W fl m ts R hS hR=>
 h A W fl m ts R hS fun e iH ps1 m1 a1=>hR e iH ps1 m1 (hq _ _ a1)
theorem dL.ZY{c:Code}{ps ps1:aQ X.Γ}{e:Ex}{Q:Ex->aQ X.Γ->Prop}(hn:nN c=true)(h:dL X P T call L f false nt B c ps e ps1)(hq:Q e ps1):aJ X P T call cd L f nt B c ps Q:=fun A W fl m ts R hS hR=>by
 obtain⟨iH,m1,h1,h2,h3,h4⟩:=h A W fl m ts hS;exact a7y c hn h1 (hR _ _ ps1 m1 hq h2 h3 h4)
theorem aJ.seq{a b:Code}{ps:aQ X.Γ}{Q R:Ex->aQ X.Γ->Prop}(ha:aJ X P T call cd L f nt B a ps R)(hb:∀s,R .norm s->aJ X P T call cd L f nt B b s Q)(he:∀i s,R (.exit i) s->Q (.exit i) s)(hr:∀s,R .ret s->Q .ret s):aJ X P T call cd L f nt B (.seq a b) ps Q:=fun A W fl m ts R' hS hR=>by
 simp only[fF];refine ha A W fl m ts _ hS fun e iH ps1 m1 a1 a2 a3 a4=>?_;cases e with
 |norm=>exact hb ps1 a1 A W fl m1 iH R' a2 fun e ts2 BQ m2 b1 b2 b3 b4=>hR e ts2 BQ m2 b1 b2 (a3.trans b3) (a4.trans b4)
 |exit i=>exact hR _ _ ps1 m1 (he _ _ a1) a2 a3 a4
 |ret=>exact hR _ _ ps1 m1 (hr _ a1) a2 a3 a4
theorem aJ.block{id:Nat}{b:Code}{ps:aQ X.Γ}{Q:Ex->aQ X.Γ->Prop}(h:aJ X P T call cd L f nt B b ps fun e s=>Q (match e with|.exit i=>if i=id then .norm else .exit i|e=>e) s):aJ X P T call cd L f nt B (.block id b) ps Q:=fun A W fl m ts R hS hR=>by
 simp only[fF];exact h A W fl m ts _ hS fun e iH ps1 m1 a1 a2 a3 a4=>hR _ iH ps1 m1 a1 a2 a3 a4
theorem aJ.loop{b:Code}{Q:Ex->aQ X.Γ->Prop}(I:Nat->aQ X.Γ->Prop)
  (h:∀k s,I k s->aJ X P T call cd L f nt B b (gJ X (T.eP f (dR b)) s) fun e s=>match e with|.norm=>∃j,j<k∧I j s|e=>Q e s) {k:Nat} {ps:aQ X.Γ} (hi:I k ps) (hk:k<L):aJ X P T call cd L f nt B (.loop b) ps Q:=fun A W fl m ts R hS hR=>by
 simp only[fF];have key:∀(n k:Nat) (ps:aQ X.Γ) (m1:List MB) (iH:St),k<n->I k ps->SR X P A W fl m1 ps iH->Fr m ts.heap m1 iH.heap->LP B m m1->Gq (fun s Q=>fF P T call cd L f fl nt b (jM (T.eP f (dR b)) s) Q) n iH R:=by
  intro n
  induction n with
  |zero=>intro k ps m ts hk;omega
  |succ n ih=>
   intro k ps m1 iH hk hi hS hF hU;simp only[Gq];refine h k ps hi A W fl m1 _ _ (hS.head _) fun e ts2 BQ m2 a1 a2 a3 a4=>?_;have a3:Fr m1 iH.heap m2 ts2.heap:=a3;cases e with
   |norm=>
    obtain⟨j,hj,zV⟩:=a1;exact ih j BQ m2 ts2 (by omega) zV a2 (hF.trans a3) (hU.trans a4)
   |exit i=>exact hR _ _ BQ m2 a1 a2 (hF.trans a3) (hU.trans a4)
   |ret=>exact hR _ _ BQ m2 a1 a2 (hF.trans a3) (hU.trans a4)
 exact key L k ps m ts hk hi hS .refl Up.refl.b
theorem aJ.cond{c:Operand}{a b:Code}{ps:aQ X.Γ}{t:Bool}{Q:Ex->aQ X.Γ->Prop}(hc:zL ps.env c=some (.bool t))(h:aJ X P T call cd L f nt B (if t then a else b) ps Q):aJ X P T call cd L f nt B (.cond c a b) ps Q:=fun A W fl m ts R hS=>by
 obtain⟨x,g1,g2⟩:=jh hS.st.env hc;have hx:x=.bool t:=by
  cases g2 with
  |bool=>rfl
  |gone hi _ _=>simp[bg]at hi
 subst hx;simp only[fF,g1];cases t with
 |true=>exact h A W fl m ts R hS
 |false=>exact h A W fl m ts R hS
theorem aJ.next{id it nx mo b r n:Nat}{seen:List Nat}{ops:Array Oper}{draw:Bool}{o1 o2:Oper}{ps:aQ X.Γ}{es:List (PV X.Γ×PV X.Γ)}{Q:Ex->aQ X.Γ->Prop}(hn:zY ops=some (it,nx,o1,o2))(hd:nx<nt)(Zk:mo<nt)
  (h2:o2.op=.extract (.tmp nx) 0) (h3:o2.dst=some mo) (h4:o2.guard=none)
  (Qd:zL ps.env (.tmp it)=some (.iter b)) (hb:ps.heap[b]? = some (.cZ r n seen)) (hr:JO X ps.heap r=some es) (hl:es.length=n)
  (vM:(∀j,j<n->j∈seen)->Q .norm { ps with env:=iY (T.iw f id) ((mo,.val (.bool false))::(nx,.val (.dG [.bool false]))::ps.env) })
  (pick:∀j e,j∉seen->es[j]? = some e->Q .norm { ps with env:=iY (T.iw f id) ((mo,.val (.bool true))::(nx,.val (.dG [.bool true,e.1,e.2]))::ps.env),heap:=ps.heap.set b (.cZ r n (j::seen)) }) :
  aJ X P T call cd L f nt B (.region id ops draw) ps Q:=fun A W fl m ts R hS hR0=>by
 obtain⟨x,g1,g2⟩:=jh hS.st.env Qd;obtain⟨mb,q1,q2⟩:=hS.st.heap.at_ b _ hb;obtain⟨cr,fQ,q3,z1,z2,z3⟩:=CQ hS.st.heap hr;cases mb with
 |fV cb=>
   obtain⟨c,p1,p2,p3⟩:=q2;have:=p3 cr (by rcases q3 with q|⟨q,_⟩;exact .inl q;exact .inr q);subst this;cases g2 with
   |gone hi e _=>simp only[bg,a00]at hi;subst hi;rw[q1]at e;cases e
   |iter e1=>
    rw[q1]at e1;cases e1;have apk:dK it ts.env=some (.val (.iter cb)):=by
     unfold qA at g1;split at g1
     .rename_i v hv;cases g1;exact hv
     .cases g1
    have run:∀(s:St) (t:Bool) (vs:List TV),kQ P call (fun d=>T.TI f d) fl nt ops [o2] (s.put (some nx) (.val (.dG (.bool t::vs))))=some ({ s with env:=(mo,.val (.bool t))::(nx,.val (.dG (.bool t::vs)))::s.env },[cu]):=by
     intro s t vs;have e1:ML nt o2=true:=(by simp[ML,h3,Zk]);have e2:∀env,BO ops env o2=some true:=fun env=>(by simp[BO,h4]);simp only[kQ,e1,e2,a8D,a2c,a2Y,oK,h2];simp[St.put,Ib,dK,h3,jL,cu,yH]
    simp only[fF,hn];refine⟨hd,cb,cr,n,seen,fQ,apk,p1,z1,by rw[<-z2];exact hl,fun F9=>?_,fun j e hj he=>?_⟩
    .refine⟨_,_,run ts false [],hR0 _ _ { ps with env:=_ } m (vM F9) ?_ .refl Up.refl.b⟩;have hS2:uK X P A m { ps with env:=(mo,.val (.bool false))::(nx,.val (.dG [.bool false]))::ps.env } { ts with env:=(mo,.val (.bool false))::(nx,.val (.dG [.bool false]))::ts.env }:=
      ⟨hS.st.heap,hS.st.llen,hS.st.loc,.cons (.bool false) (.cons (bV.cons (.bool false) .nil |> fun h=>.dG h.1 h.2) hS.st.env)⟩
     exact SR.pick ⟨hS2,hS.own,hS.ws,hS.fl⟩ _
    .have aS:j<es.length:=by rw[z2];exact(a04.1 he).1
     have hej:=a0a aS;have hv:=z3 j _ _ hej he;have hcb:=(a04.1 p1).1;obtain⟨u1,u2⟩:=hS.st.heap.set (pb:=.cZ r n (j::seen)) (hb:=.cZ cr n (j::seen)) q1 (c:=cb) rfl (fun cs hc=>by simp[aV,p1]at hc) fun hF=>⟨cr,by simp[hcb],p2,p3⟩;refine⟨_,_,run _ true [e.1,e.2],hR0 _ _ { ps with env:=_,heap:=_ } m (pick j _ hj hej) ?_ u2 Up.refl.b⟩;have hS1:=hS.st.step u1 u2 .refl;have hS2:uK X P A m { ps with env:=(mo,.val (.bool true))::(nx,.val (.dG [.bool true,es[j].1,es[j].2]))::ps.env,heap:=ps.heap.set b (.cZ r n (j::seen)) } { ts with env:=(mo,.val (.bool true))::(nx,.val (.dG [.bool true,e.1,e.2]))::ts.env,heap:=ts.heap.set cb (.cZ cr n (j::seen)),ws:=jL fl [.h cb] ts.ws }:=
      ⟨hS1.heap,hS1.llen,hS1.loc,.cons (.bool true) (.cons (bV.cons (.bool true) (bV.cons (nH hv.1) (bV.cons (nH hv.2) .nil)) |> fun h=>.dG h.1 h.2) hS1.env)⟩
     refine SR.pick ⟨hS2,hS.own,fun b2 xJ=>?_,by simpa using hS.fl⟩ _;rcases nV.1 xJ with h5|⟨h5,h6⟩
     .exact hS.ws b2 h5
     .simp at h5;subst h5;exact(hS.own _ (bf q1 rfl)).resolve_right (by omega)
 |_=>exact q2.elim
def aax(X:kE)(P:Program)(cd:uO)(fv:PV X.Γ)(xs:List (PV X.Γ))(H:List (PB X.Γ))(K:PV X.Γ->List (PB X.Γ)->Prop):Prop:=
 ∀(A:Nat->Prop) (m:List MB) (h:List HB) (tf:TV) (rP:List TV) (R:TV->List HB->List Nat->Prop),HR X P A m H h->VR X P (AA A m) m h fv tf->bV X P (AA A m) m h xs rP ->
  (∀w h1 ws m1 v H1,K v H1->HR X P A m1 H1 h1->VR X P (AA A m1) m1 h1 v w->Fr m h m1 h1->Up m m1->(∀b∈ws,b∈bn m)->R w h1 ws)->cd tf rP h R
theorem a1G{n:Nat}{t:FnT}{first xs cap:List (PV X.Γ)}{H:List (PB X.Γ)}{K:PV X.Γ->List (PB X.Γ)->Prop}(hX:bM X P)(ht:TG P f=some t)
  (hE:aJ X P T (kM P T L n) Ce L f t.nt H.length t.body ⟨kN X 0 (first++xs++cap),[],H⟩ fun e s=>(e=.norm∨e=.ret)∧∃us,EJ X P s t.results=some us∧K (Zc X us) s.heap):aax X P (uI P T (kM P T L n) L) (.fn f first cap) xs H K:=by
 intro A m h tf rP R hr hf Nq hR;cases hf with
 |gone hi _ _=>simp[bg]at hi
 |fn p1 p2 p3 p4=>
  rename_i a' c';have EG:=(bV.app ⟨p1,p2⟩ Nq).app ⟨p3,p4⟩;refine⟨t,ht,hE A (fun b=>b∈bn m) _ m _ _ ⟨⟨hr,rfl,fun k cs hk=>by simp at hk,LQ EG⟩,fun b h1=>.inl h1,fun b hb=>(by cases hb),a15 _⟩ fun e iH ps1 m1 ⟨he,us,hus,hk⟩ h3 h4 h5=>?_⟩;obtain⟨ws,g1,g2⟩:=Iy hX h3.st hus;refine⟨he,ws,g1,hR _ _ _ m1 _ _ hk h3.st.heap (Uu g2) h4 (fun i mb hi=>h5 i mb ?_ hi) h3.ws⟩;rw[<-hr.len];exact(a04.1 hi).1
theorem aJ.range(hX:bM X P){g:Operand}{qs:Array Nat}{uD body:Code}{ps:aQ X.Γ}{f1:FuncId}{a1 b1:List (PV X.Γ)}{K:PV X.Γ->List (PB X.Γ)->Prop}{Q:Ex->aQ X.Γ->Prop}
  (hg:zL ps.env g=some (.fn f1 a1 b1)) (hd:T.din.contains f1=true) (F9:(ps.env.all fun p=>Zr p.2)=true)
  (apl:aax X P cd (.fn f1 a1 b1) [.kC (ps.heap.length+1)] (ps.heap++[.mark]++[.loop true f nt ps.env qs.toList uD body none]) K)
  (hk:∀v H1,K v H1->∃rd f2 Q8 e2 BQ a2 b2 jC e,H1[ps.heap.length+1]? = some (.loop rd f2 Q8 e2 BQ a2 b2 jC)∧QA rd jC=some e∧Q e { ps with heap:=H1.set (ps.heap.length+1) (.loop false f2 Q8 e2 BQ a2 b2 (some .skip)) }) :
  aJ X P T call cd L f nt B (.rangeFunc g qs uD body) ps Q:=by
 intro A W fl m ts R hS hR;obtain⟨tg,g1,g2⟩:=jh hS.st.env hg;have hm:=hS.st.heap.len;obtain⟨p1,p2,p3⟩:=hS.st.heap.push (pb:=.mark) (hb:=.mark) (mb:=.fV ts.heap.length) (.inl rfl) (by simp[BR]);obtain⟨q1,q2,q3⟩:=p1.push (pb:=.loop true f nt ps.env qs.toList uD body none) (hb:=.loop true f nt ts.env qs.toList uD body none) (mb:=.fV (ts.heap.length+1)) (.inl (by simp[MB.own])) (by
  refine⟨ts.env,by simp,?_⟩;refine jJ.step (m:=m) (h:=ts.heap) (A:=A) ?_ ?_ hS.st.env
  .have r2:Fr (m++[MB.fV ts.heap.length]) (ts.heap++[HB.mark]) (m++[MB.fV ts.heap.length]++[MB.fV (ts.heap.length+1)]) (ts.heap++[HB.mark]++[HB.loop true f nt ts.env qs.toList uD body none]):=by
    refine⟨by simp,fun b hb _=>by rw[a0e hb],fun b hb=>?_,fun b cs hc=>⟨cs,?_,a15 _⟩⟩
    .rw[iW,a3K,jT]at hb;rcases hb with hb|hb
     .exact .inl hb
     .simp[MB.own]at hb;subst hb;exact .inr (by simp)
    .rw[fM (a0e (gK hc)),hc]
   exact p2.trans r2
  .exact p3.trans (wu _))
 have hF:=p2.trans q2;have hU:=p3.trans q3;have hyl:VR X P (AA A (m++[MB.fV ts.heap.length]++[MB.fV (ts.heap.length+1)])) (m++[MB.fV ts.heap.length]++[MB.fV (ts.heap.length+1)]) (ts.heap++[HB.mark]++[HB.loop true f nt ts.env qs.toList uD body none]) (.kC (ps.heap.length+1)) (.kC (ts.heap.length+1)):=by
  refine .kC ?_;rw[<-hm,a1c (by simp)];simp
 have hg':∃a1' b1',tg=.fn f1 a1' b1':=by
  cases g2 with
  |gone hi _ _=>simp[bg]at hi
  |fn _ _ _ _=>exact⟨_,_,rfl⟩
 obtain⟨a1',b1',rfl⟩:=hg';have apo:a4X T ts.env g=true:=by unfold a4X;rw[g1];exact hd
 simp only[fF,apo,a2d];refine⟨f1,a1',b1',g1,a5X hS.st.env F9,?_⟩;rw[show ts.heap++[HB.mark,HB.loop true f nt ts.env qs.toList uD body none]=ts.heap++[HB.mark]++[HB.loop true f nt ts.env qs.toList uD body none] by simp];refine apl A _ _ _ [.kC (ts.heap.length+1)] _ q1 (g2.step hF hU) (.cons hyl .nil) fun w h1 ws m1 v H1 Oc c2 c3 c4 c5 c6=>?_;obtain⟨rd,f2,Q8,e2,BQ,a2,b2,jC,e,hl,hj,hq⟩:=hk v H1 Oc;have hm1:m1[ps.heap.length+1]? = some (.fV (ts.heap.length+1)):=by
  rcases c5 (ps.heap.length+1) (.fV (ts.heap.length+1)) (by rw[<-hm,a1c (by simp)];simp)with e|e
  .exact e
  .obtain⟨mb,k1,k2⟩:=c2.at_ _ _ hl;rw[e]at k1;cases k1;exact k2.elim
 obtain⟨mb,k1,k2⟩:=c2.at_ _ _ hl;rw[hm1]at k1;cases k1;obtain⟨e2',k3,k4⟩:=k2;obtain⟨s1,s2⟩:=c2.set (i:=ps.heap.length+1) (c:=ts.heap.length+1) (pb:=.loop false f2 Q8 e2 BQ a2 b2 (some .skip)) (hb:=.loop false f2 Q8 e2' BQ a2 b2 (some .skip)) hm1 rfl (fun cs hc=>by unfold aV at hc;rw[k3]at hc;cases hc) (fun hF=>⟨e2',by rw[a2k (a04.1 k3).1],k4.step hF .refl⟩);have hF2:=hF.trans (c4.trans s2);have hU2:=hU.trans c5;refine⟨_,_,_,_,_,_,_,_,e,k3,hj,hR _ _ _ m1 hq ⟨?_,fun b hb=>?_,fun b hb=>?_,?_⟩ hF2 hU2.b⟩
 .have q:=hS.st.step s1 hF2 hU2;exact⟨q.heap,q.llen,q.loc,q.env⟩
 .rcases hF2.new b hb with k|k
  .exact hS.own b k
  .exact .inr (a4A hS.fl k)
 .rcases vJ hb with k|⟨k,k'⟩
  .exact hS.ws b k
  .obtain⟨b',qw,e⟩:=a1f.1 k;cases e;rcases hF.new b (c6 b qw)with k2|k2
   .rcases hS.own b k2 with k3|k3
    .exact k3
    .omega
   .have:=hS.fl;omega
 .exact a4A hS.fl hF2.len
end
section
variable {X:kE} {P:Program} {A B:Nat->Prop} {m m' m1:List MB} {h h':List HB} {g:Nat->Option Nat}
def Bo:List (PB X.Γ)->Bool
 | []=>true
 |.aC _::H=>Bo H
 |.iD _::H=>Bo H
 |.gone::H=>Bo H
 |_=>false
theorem XV:∀{H:List (PB X.Γ)},Bo H=true->∀(i:Nat) b,H[i]? = some b->Bo [b]=true
 | [],_,i,b,h=>by simp at h
 |a::H,hn,i,b,h=>by
  cases i with
  |zero=>simp at h;subst h;cases a<;>simp_all [Bo]
  |succ i=>
   have DC:Bo H=true:=by cases a<;>simp_all [Bo]
   exact XV DC i b (by simpa using h)
theorem ZM{H:List (PB X.Γ)}(hn:Bo H=true)(hr:HR X P A m H h):bn m=[]:=by
 refine a8a.2 fun b hb=>?_;obtain⟨i,mb,h1,h2⟩:=jU hb;have hl:i<H.length:=by rw[<-hr.len];exact(a04.1 h1).1
 obtain⟨LC,g1,g2⟩:=hr.at_ i _ (a0a hl);rw[h1]at g1;cases g1;have h3:=XV hn i _ (a0a hl);generalize H[i]=b9 at g2 h3;cases b9<;>first|(cases h3;done)|skip
 all_goals (cases mb<;>first|exact g2.elim|cases h2)
theorem Pg{v:PV X.Γ}{t:TV}(h:qJ v=some t):(∀l,Bv t l=l)∧(∀g,mX g t=some t)∧∀fl,KH fl t=t:=by
 cases v<;>simp only[qJ,a00,reduceCtorEq]at h<;>subst h<;>exact⟨fun _=>rfl,fun _=>rfl,fun _=>rfl⟩
theorem xZ:∀{vs:List (PV X.Γ)} {ts:List TV},iI vs=some ts->(∀l,Bv.ED ts l=l)∧∀g,mX.yS g ts=some ts
 | [],ts,h=>by simp only[iI,a00]at h;subst h;exact⟨fun _=>rfl,fun _=>rfl⟩
 |v::vs,ts,h=>by
  simp only[iI]at h;split at h
  .rename_i a b h1 h2;cases h;have e1:=Pg h1;have e2:=xZ h2;exact⟨fun l=>by simp only[Bv.ED,e2.1,e1.1],fun g=>by simp only[mX.yS,e1.2.1,e2.2]⟩
  cases h
theorem Md{v:PV X.Γ}{t:TV}(h:pz v=some t):(∀l,Bv t l=l)∧(∀g,mX g t=some t)∧∀fl,KH fl t=t:=by
 unfold pz at h;split at h
 .simp only[a09]at h;obtain⟨ts,h1,rfl⟩:=h;have e:=xZ h1;exact⟨fun l=>by simp only[Bv,e.1],fun g=>by simp only[mX,e.2,a0T],fun _=>rfl⟩
 exact Pg h
def a3t(X:kE)(P:Program)(lZ:Bool)(u:PV X.Γ)(Hs:List (PB X.Γ))(tv:Nat->TV)(tN:List HB):Prop:=
 ∀(A:Nat->Prop) (m:List MB) (h h1:List HB) (w:TV),HR X P A m Hs h1->VR X P (AA A m) m h1 u w->(∀b,b∈bn m->h.length<=b)->NG lZ h w h1=some (tv h.length,h++tN)
theorem Du(hX:bM X P){T:qp}{L n f:Nat}{t:FnT}{first xs cap:List (PV X.Γ)}{H N:List (PB X.Γ)}{v:PV X.Γ}{tv:Nat->TV}{tN:List HB}(hd:T.ZY.contains f=true)(hx:T.exts.contains f=false)(ht:TG P f=some t)(hN:Bo H=true)
  (NM:∀A m h,HR X P A m H h->∃m1,HR X P A m1 (H++N) (h++tN)∧VR X P (AA A m1) m1 (h++tN) v (tv h.length)∧Fr m h m1 (h++tN)∧Up m m1)
  (hE:aJ X P T (kM P T L n) (uI P T (kM P T L n) L) L f t.nt H.length t.body ⟨kN X 0 (first++xs++cap),[],H⟩ fun e s=>(e=.norm∨e=.ret)∧∃us,EJ X P s t.results=some us∧a3t X P (T.a8I.contains f) (Zc X us) s.heap tv tN):aX X P (kM P T L (n+1)) (.fn f first cap) xs H v (H++N):=by
 intro A m h tf rP hr hf Nq;cases hf with
 |gone hi _ _=>simp[bg]at hi
 |fn p1 p2 p3 p4=>
  rename_i a' c';have EG:=(bV.app ⟨p1,p2⟩ Nq).app ⟨p3,p4⟩;have hb:=ZM hN hr;have hS:SR X P A (fun _=>False) h.length m ⟨kN X 0 (first++xs++cap),[],H⟩ ⟨ng 0 (a'++rP++c'),[],h,[]⟩:=
   ⟨⟨hr,rfl,fun k cs hk=>by simp at hk,LQ EG⟩,fun b h1=>(by rw[hb]at h1;cases h1),fun b hb=>(by cases hb),a15 _⟩
  have hO:Wn P T (kM P T L n) L f t (a'++rP++c') h (tv h.length,h++tN):=by
   refine hE A _ _ m _ _ hS fun e iH ps1 m1 ⟨he,us,hus,hpv⟩ h3 h4 h5=>?_;obtain⟨ws,g1,g2⟩:=Iy hX h3.st hus;exact⟨he,ws,g1,a8a.2 fun b hb=>h3.ws b hb,hpv A m1 h iH.heap _ h3.st.heap (Uu g2) fun b hb=>(h3.own b hb).resolve_left id⟩
  obtain⟨m1,q1,q2,q3,q4⟩:=NM A m h hr;refine⟨tv h.length,h++tN,[],m1,?_,q1,q2,q3,q4,fun b hb=>by cases hb⟩;simp only[kM,hx,hd,a2c,a2Y,a2d];exact a97 ht hO
theorem ZN{lZ:Bool}{u:PV X.Γ}{Hs:List (PB X.Γ)}{tu:TV}(hu:pz u=some tu)(ht:∀cs,tu≠.dG cs):a3t X P lZ u Hs (fun _=>tu) []:=fun A m h h1 w hr hw _=>by
 have:=jG hw hu;subst this;obtain⟨e1,e2,e3⟩:=Md hu;have e4:U7 h.length w=w:=by
  cases w with
  |dG cs=>exact absurd rfl (ht cs)
  |_=>exact e3 h.length
 unfold NG;simp only[e1,vX,e2,Ci,e4,abE,a6S]
theorem aay(hX:bM X P){T:qp}{L n f:Nat}{t:FnT}{first xs cap:List (PV X.Γ)}{H:List (PB X.Γ)}{v:PV X.Γ}{tv:TV}(hd:T.ZY.contains f=true)(hx:T.exts.contains f=false)(ht:TG P f=some t)(hN:Bo H=true)(hv:pz v=some tv)
  (hE:aJ X P T (kM P T L n) (uI P T (kM P T L n) L) L f t.nt H.length t.body ⟨kN X 0 (first++xs++cap),[],H⟩ fun e s=>(e=.norm∨e=.ret)∧∃us,EJ X P s t.results=some us∧Zc X us=v):aX X P (kM P T L (n+1)) (.fn f first cap) xs H v H:=by
 have:=Du (N:=[]) (v:=v) (tv:=fun _=>tv) (tN:=[]) hX hd hx ht hN (fun A m h hr=>⟨m,by simpa using hr,nH hv,by simpa using Fr.refl,.refl⟩) (hE.mono fun e s ⟨h1,us,h2,h3⟩=>⟨h1,us,h2,by rw[h3];exact ZN hv fun cs hc=>by subst hc;cases v<;>simp[pz,qJ]at hv⟩)
 rwa [a6S]at this
def wM:List (PV X.Γ×PV X.Γ)->Option (List (TV×TV))
 | []=>some []
 |(k,v)::r=>match pz k,pz v,wM r with
  |some k,some v,some r=>some ((k,v)::r)
  |_,_,_=>none
theorem XW:∀{es:List (PV X.Γ×PV X.Γ)} {fQ Me:List (TV×TV)},wM es=some Me->es.length=fQ.length->(∀(i:Nat) x y,es[i]? = some x->fQ[i]? = some y->pz x.1=some y.1∧pz x.2=some y.2)->fQ=Me
 | [],fQ,Me,h,hl,_=>by
  simp only[wM,a00]at h;subst h;exact a3W hl.symm
 |(k,v)::r,fQ,Me,h,hl,he=>by
  cases fQ with
  |nil=>simp at hl
  |cons y fQ=>
   simp only[wM]at h;split at h
   .rename_i a b c h1 h2 h3;cases h;have e0:=he 0 _ _ rfl rfl;have e1:y.1=a:=by have:=e0.1.symm.trans h1;exact a8Q this
    have e2:y.2=b:=by have:=e0.2.symm.trans h2;exact a8Q this
    have e3:=XW h3 (by simpa using hl) fun i x z hx hz=>he (i+1) x z (by simpa using hx) (by simpa using hz);rw[e3,<-e1,<-e2]
   cases h
theorem Ph:∀{es:List (PV X.Γ×PV X.Γ)} {Me:List (TV×TV)},wM es=some Me->es.length=Me.length∧∀(i:Nat) x y,es[i]? = some x->Me[i]? = some y->pz x.1=some y.1∧pz x.2=some y.2
 | [],Me,h=>by simp only[wM,a00]at h;subst h;exact⟨rfl,by simp⟩
 |(k,v)::r,Me,h=>by
  simp only[wM]at h;split at h
  .rename_i a b c h1 h2 h3;cases h;obtain⟨i1,i2⟩:=Ph h3;refine⟨by simp[i1],fun i x y hx hy=>?_⟩;cases i with
   |zero=>simp at hx hy;subst hx;subst hy;exact⟨h1,h2⟩
   |succ i=>exact i2 i x y (by simpa using hx) (by simpa using hy)
  cases h
theorem Td:∀{es:List (PV X.Γ×PV X.Γ)} {Me:List (TV×TV)},wM es=some Me->(∀l,a8Z.a0v Me l=l)∧∀g,Tw.oG g Me=some Me
 | [],Me,h=>by simp only[wM,a00]at h;subst h;exact⟨fun _=>rfl,fun _=>rfl⟩
 |(k,v)::r,Me,h=>by
  simp only[wM]at h;split at h
  .rename_i a b c h1 h2 h3;cases h;have e1:=Md h1;have e2:=Md h2;have e3:=Td h3;exact⟨fun l=>by simp only[a8Z.a0v,e1.1,e2.1,e3.1],fun g=>by simp only[Tw.oG,e1.2.1,e2.2.1,e3.2]⟩
  cases h
theorem Pj{h h1:List HB}{c:Nat}(hc:h.length<=c)(hr:∀l,a8Z h1[c]? l=l):vX h1 h.length 5000 [c] []=[c]∧VZ h.length [c] c=some h.length:=by
 have e1:Nat.blt c h.length=false:=by
  cases e:Nat.blt c h.length with
  |false=>rfl
  |true=>have:=agB e;omega
 constructor
 .simp only[vX,e1,a5e,Bool.or_false,hr]
 simp only[VZ,e1,a5c,Nat.beq_refl,a0T,a3U]
theorem a7z{lZ:Bool}{r:Nat}{Hs:List (PB X.Γ)}{es:List (PV X.Γ×PV X.Γ)}{Me:List (TV×TV)}(hm:Hs[r]? = some (.map es))(he:wM es=some Me):a3t X P lZ (.map r) Hs (fun n=>.map n) [.map (Rj Me)]:=fun A m h h1 w hr hw hn=>by
 obtain⟨mb,g1,g2⟩:=hr.at_ r _ hm;cases mb with
 |fV c=>
  obtain⟨fQ,g3,g4,g5⟩:=g2;have:=XW he g4 g5;subst this;have hw:w=.map c:=by
   cases hw with
   |map e=>rw[g1]at e;cases e;rfl
   |gone hi e _=>simp only[bg,a00]at hi;subst hi;rw[g1]at e;cases e
  subst hw;have hc:=hn c (bf g1 rfl);obtain⟨e1,e2⟩:=Td he;obtain⟨k1,k2⟩:=Pj (h:=h) (h1:=h1) hc fun l=>by rw[g3];exact e1 l
  unfold NG;simp only[Bv,k1,mX,k2,a0T,Ci,g3,uh,e2,U7,KH,a3Z,abE,Qe]
 |_=>exact g2.elim
theorem a7A(hX:bM X P){T:qp}{L n f:Nat}{t:FnT}{first xs cap:List (PV X.Γ)}{H:List (PB X.Γ)}{es0:List (PV X.Γ×PV X.Γ)}{a3u:List (TV×TV)}(hd:T.ZY.contains f=true)(hx:T.exts.contains f=false)(ht:TG P f=some t)(hN:Bo H=true)(h0:wM es0=some a3u)
  (hE:aJ X P T (kM P T L n) (uI P T (kM P T L n) L) L f t.nt H.length t.body ⟨kN X 0 (first++xs++cap),[],H⟩ fun e s=>(e=.norm∨e=.ret)∧∃us,EJ X P s t.results=some us∧∃r es Me,Zc X us=.map r∧s.heap[r]? = some (.map es)∧wM es=some Me∧Rj Me=a3u):aX X P (kM P T L (n+1)) (.fn f first cap) xs H (.map H.length) (H++[.map es0]):=by
 refine Du (tv:=fun n=>.map n) (tN:=[.map a3u]) hX hd hx ht hN (fun A m h hr=>?_) (hE.mono fun e s ⟨h1,us,h2,r,es,Me,h3,h4,h5,h6⟩=>⟨h1,us,h2,by rw[h3,<-h6];exact a7z h4 h5⟩);obtain⟨p1,p2,p3⟩:=hr.push (pb:=.map es0) (hb:=.map a3u) (mb:=.fV h.length) (.inl rfl) ⟨a3u,by simp,(Ph h0).1,(Ph h0).2⟩;exact⟨_,p1,.map (by rw[<-hr.len];simp),p2,p3⟩
theorem XY(hX:bM X P){A:Nat->Prop}{m:List MB}{Hs:List (PB X.Γ)}{h1:List HB}{i ty:Nat}{k ex:Bool}{l:List (X.Γ ty)}{w:TV}{KT:List TV}(hr:HR X P A m Hs h1)(hi:Hs[i]? = some (.list k ex ty l))(hl:l≠[])(hc:iI (Em X ty l)=some KT)(hw:VR X P (AA A m) m h1 (.own i) w) :
  ∃c sz e kk,w=.slc c 0 l.length l.length sz e∧dB P ty=some sz∧c∈bn m∧h1[c]? = some (.cells kk KT)∧kk≠.ro:=by
 obtain⟨mb,g1,g2⟩:=hr.at_ i _ hi;cases mb with
 |dw x=>
  have hwx:w=x:=by
   cases hw with
   |own e _=>rw[g1]at e;cases e;rfl
   |gone hi e _=>simp only[bg,a00]at hi;subst hi;rw[g1]at e;cases e
  subst hwx;cases(g2:LR X P (AA A m) m h1 k ex ty l w)with
  |nil=>exact absurd rfl hl
  |emp=>exact absurd rfl hl
  |some _ q2 q3 q4 q5 q6 q7 q8 q9=>
   have hv:=dV.vrs q9 q8;have QM:=FB hv hc;subst QM;exact⟨_,_,_,_,rfl,q2,bf g1 (by simp only[MB.own];rw[a0g (by simpa using hl)]),q4,q5⟩
 |_=>exact g2.elim
theorem a7B(hX:bM X P){i ty sz:Nat}{k ex:Bool}{l:List (X.Γ ty)}{Hs:List (PB X.Γ)}{KT:List TV}(hi:Hs[i]? = some (.list k ex ty l))(hl:l≠[])(hc:iI (Em X ty l)=some KT)(hs:dB P ty=some sz):a3t X P true (.own i) Hs (fun n=>.slc n 0 l.length l.length sz false) [.lZ (Rk KT)]:=fun A m h h1 w hr hw hn=>by
 obtain⟨c,sz',e,kk,rfl,g1,g2,g3,g4⟩:=XY hX hr hi hl hc hw;rw[hs]at g1;cases g1;have pJ:=hn c g2;obtain⟨e1,e2⟩:=xZ hc;obtain⟨k1,k2⟩:=Pj (h:=h) (h1:=h1) pJ fun l=>by rw[g3];exact e1 l
 have e3:Qe true (.cells kk KT)=.lZ (Rk KT):=by cases kk<;>first|rfl|exact absurd rfl g4
 unfold NG;simp only[Bv,k1,mX,k2,a0T,Ci,g3,uh,e2,U7,KH,a3Z,abE,e3,Nat.lt_irrefl,a2Y]
theorem a7C(hX:bM X P){i ty sz:Nat}{k ex:Bool}{l:List (X.Γ ty)}{Hs:List (PB X.Γ)}{KT:List TV}{p:PV X.Γ}{tp:TV}(hi:Hs[i]? = some (.list k ex ty l))(hl:l≠[])(hc:iI (Em X ty l)=some KT)(hs:dB P ty=some sz)(hp:pz p=some tp):a3t X P false (.dG [.own i,p]) Hs (fun n=>.dG [.slc n 0 l.length l.length sz false,tp]) [.cells .last KT]:=fun A m h h1 w hr hw hn=>by
 cases hw with
 |gone hi _ _=>simp[bg]at hi
 |dG a1 a2=>
  rename_i cs';obtain⟨x,r,rfl,v0,v1⟩:=bV.inv (⟨a1,a2⟩:bV X P _ _ _ _ _);obtain⟨y,r,rfl,v2,v3⟩:=v1.inv;have:=v3.inv0;subst this;have:=jG v2 hp;subst this;obtain⟨c,sz',e,kk,rfl,g1,g2,g3,g4⟩:=XY hX hr hi hl hc v0;rw[hs]at g1;cases g1;have pJ:=hn c g2;obtain⟨e1,e2⟩:=xZ hc;obtain⟨q1,q2,q3⟩:=Md hp;obtain⟨k1,k2⟩:=Pj (h:=h) (h1:=h1) pJ fun l=>by rw[g3];exact e1 l
  have e3:Qe false (.cells kk KT)=.cells .last KT:=by cases kk<;>first|rfl|exact absurd rfl g4
  unfold NG;have q4:KH h.length (.slc h.length 0 l.length l.length sz e)=.slc h.length 0 l.length l.length sz false:=by simp only[KH,Nat.lt_irrefl,a2Y]
  simp only[Bv,Bv.ED,q1,k1,mX,mX.yS,q2,k2,a0T,Ci,g3,uh,e2,U7,q3,q4,a3Z,abE,e3]
theorem aaz{H:List (PB X.Γ)}{n sz:Nat}{cs:List (PV X.Γ)}{ts:List TV}(h0:Ua cs=some ts){A m h}(hr:HR X P A m H h):∃m1,HR X P A m1 (H++[.lZ cs]) (h++[.lZ ts])∧VR X P (AA A m1) m1 (h++[.lZ ts]) (.slc H.length 0 n n sz false) (.slc h.length 0 n n sz false)∧Fr m h m1 (h++[.lZ ts])∧Up m m1:=by
 obtain⟨p1,p2,p3⟩:=hr.push (pb:=.lZ cs) (hb:=.lZ ts) (mb:=.fV h.length) (.inl rfl) ⟨ts,by simp,h0⟩;exact⟨_,p1,.slc (by rw[<-hr.len];simp),p2,p3⟩
theorem XZ{ty sz:Nat}:∀{l:List (X.Γ ty)},(∀(j:Nat) a,l[j]? = some a->(X.enc ty a).length=sz)->(Em X ty l).length=l.length*sz∧∀(j:Nat) a (i:Nat) c,l[j]? = some a->(X.enc ty a)[i]? = some c->(Em X ty l)[j*sz+i]? = some c
 | [],_=>⟨by simp[Em],by simp⟩
 |a::l,he=>by
  obtain⟨h1,h2⟩:=XZ (l:=l) fun j b hb=>he (j+1) b (by simpa using hb);have h0:=he 0 a rfl;refine⟨by simp only[Em,a2a,h0,h1,a3V,a3Q,adv];omega,fun j b i c hb hc=>?_⟩;cases j with
  |zero=>
   simp at hb;subst hb;simp only[Em,ad3,a3U];rw[a0e (a04.1 hc).1];exact hc
  |succ j=>
   simp only[Em];rw[a1c (by rw[h0,a3Q];omega),h0,show(j+1)*sz+i-sz=j*sz+i by rw[a3Q];omega];exact h2 j b i c (by simpa using hb) hc
theorem a3v{ty sz:Nat}{l:List (X.Γ ty)}{KT:List TV}{A m h}(he:∀(j:Nat) a,l[j]? = some a->(X.enc ty a).length=sz)(hc:iI (Em X ty l)=some KT):KT.length=l.length*sz∧dV X P A m h ty l KT 0 sz:=by
 have hv:=FC (X:=X) (P:=P) (A:=A) (m:=m) (h:=h) hc;obtain⟨h1,h2⟩:=XZ he;have hl:KT.length=l.length*sz:=by rw[<-hv.1,h1]
 exact⟨hl,he,by rw[hl];omega,fun j a i c v a1 a2 a3=>hv.2 (j*sz+i) c v (h2 j a i c a1 a2) (by rw[a3U]at a3;exact a3)⟩
theorem aaA(hX:bM X P){H:List (PB X.Γ)}{ty sz:Nat}{l:List (X.Γ ty)}{KT:List TV}{p:PV X.Γ}{tp:TV}(hl:l≠[])(hc:iI (Em X ty l)=some KT)(hs:dB P ty=some sz)(h0:0<sz)(he:∀(j:Nat) a,l[j]? = some a->(X.enc ty a).length=sz)(hp:pz p=some tp){A m h}(hr:HR X P A m H h) :
  ∃m1,HR X P A m1 (H++[.list false false ty l]) (h++[.cells .last KT])∧VR X P (AA A m1) m1 (h++[.cells .last KT]) (.dG [.own H.length,p]) (.dG [.slc h.length 0 l.length l.length sz false,tp])∧Fr m h m1 (h++[.cells .last KT])∧Up m m1:=by
 obtain⟨p1,p2,p3⟩:=hr.push (pb:=.list false false ty l) (hb:=.cells .last KT) (mb:=.dw (.slc h.length 0 l.length l.length sz false)) (.inl (by simp only[MB.own];rw[a0g (by simpa using hl)])) (by
  obtain⟨r1,r2⟩:=a3v (A:=AA A (m++[MB.dw (.slc h.length 0 l.length l.length sz false)])) (m:=m++[MB.dw (.slc h.length 0 l.length l.length sz false)]) (h:=h++[.cells .last KT]) (P:=P) he hc;exact LR.some (kk:=.last) (cs:=KT) hl hs h0 (by simp) (by simp) (by simp) (by simp) r1 r2)
 exact⟨_,p1,bV.cons (.own (by rw[<-hr.len];simp) rfl) (.cons (nH hp) .nil) |> fun h=>.dG h.1 h.2,p2,p3⟩
end
def eG:Code->Code
 |.seq a _=>a
 |.block _ b=>b
 |.loop b=>b
 |.scope b=>b
 |.cond _ a _=>a
 |c=>c
def eH:Code->Code
 |.seq _ b=>b
 |.cond _ _ b=>b
 |c=>c
def a7D:Code->Array Oper
 |.region _ o _=>o
 |_=>#[]
def Tf(P:Program)(f:Nat):FnT:=match TG P f with
 |some t=>t
 |none=>⟨0,.skip,[]⟩
def V8(ops:Array Oper)(it nx mo:Nat):Bool:=match zY ops with
 |some (a,b,_,o2)=>a==it&&b==nx&&(match o2.op,o2.dst,o2.guard with
  |.extract (.tmp k) 0,some d,none=>k==nx&&d==mo
  |_,_,_=>false)
 |none=>false
theorem a3w{ops:Array Oper}{it nx mo:Nat}(h:V8 ops it nx mo=true):∃o1 o2,zY ops=some (it,nx,o1,o2)∧o2.op=.extract (.tmp nx) 0∧o2.dst=some mo∧o2.guard=none:=by
 unfold V8 at h;split at h
 .rename_i a b o1 o2 e;simp only[a2m,a88]at h;obtain⟨⟨rfl,rfl⟩,h⟩:=h;split at h
  .rename_i k d e1 e2 e3;simp only[a2m,a88]at h;obtain⟨rfl,rfl⟩:=h;exact⟨o1,o2,e,e1,e2,e3⟩
  cases h
 cases h
section
variable {X:kE} {P:Program} {T:qp} {call:aZ} {cd:uO} {fK:eY X.Γ} {L f nt B:Nat}
theorem zG(hX:bM X P)(hO:jr X P call fK){c:Code}{ps ps1:aQ X.Γ}{an:PT X.Γ}{o:OT (Ex×aQ X.Γ)}{e:Ex}(hk:jF X P T fK (aX X P call) (dL X P T call L f false nt B) B L f false nt c ps an aek=o)(ht:Fp (fun r=>r=(e,ps1)) an o):dL X P T call L f false nt B c ps e ps1:=by
 obtain⟨y,h1,h2⟩:=ht.aO;subst h2;rw[<-hk]at h1;exact WU hX hO h1
theorem a1H{n j:Nat}{seen:List Nat}(hj:j<n)(hn:j∉seen):((List.range n).filter fun i=>!(j::seen).contains i).length<((List.range n).filter fun i=>!seen.contains i).length:=by
 have e:((List.range n).filter fun i=>!(j::seen).contains i)=((List.range n).filter fun i=>!seen.contains i).filter fun i=>!(i==j):=by
  rw[List.filter_filter];refine List.filter_congr fun i _=>?_;rw[agS];cases i==j<;>simp
 rw[e];refine List.length_filter_lt_length_iff_exists.2 ⟨j,a6t.2 ⟨a4f.2 hj,by simpa using hn⟩,by simp⟩
end
section
variable {X:kE} {P:Program} {T:qp} {call:aZ} {cd:uO} {L f nt B:Nat}
theorem aJ.ghost(hX:bM X P){gs:List G}{c:Code}{ps ps1:aQ X.Γ}{Q:Ex->aQ X.Γ->Prop}(hg:kW B gs ps=some ps1)(h:aJ X P T call cd L f nt B c ps1 Q):aJ X P T call cd L f nt B c ps Q:=fun A W fl m ts R hS hR=>by
 obtain⟨m2,q1,q2,q3⟩:=mg hX hg A W fl m ts hS;exact h A W fl m2 ts R q1 fun e iH ps1 m1 a1 a2 a3 a4=>hR e iH ps1 m1 a1 a2 (q2.trans a3) (q3.trans a4)
theorem Pm(hX:bM X P){x:Code}{i0 i1 id it nx mo b r n:Nat}{ops:Array Oper}{draw:Bool}{s0:aQ X.Γ}{es:List (PV X.Γ×PV X.Γ)}{Q:aQ X.Γ->Prop}(I:List Nat->aQ X.Γ->Prop)
  (hnx:V8 ops it nx mo=true) (hd:nx<nt) (Zk:mo<nt) (hl:es.length=n) (hL:n<L) (hI:I [] s0)
  (hinv:∀seen s,I seen s->∃gs s',kW B gs (gJ X (T.eP f (dR (.seq (.region id ops draw) (.seq (.cond (.tmp mo) .skip (.exit i0)) (.block i1 x))))) s)=some s'∧zL s'.env (.tmp it)=some (.iter b)∧s'.heap[b]? = some (.cZ r n seen)∧JO X s'.heap r=some es ∧
   ((∀j,j<n->j∈seen)->zL (iY (T.iw f id) ((mo,.val (.bool false))::(nx,.val (.dG [.bool false]))::s'.env)) (.tmp mo)=some (.bool false)∧Q { s' with env:=iY (T.iw f id) ((mo,.val (.bool false))::(nx,.val (.dG [.bool false]))::s'.env) }) ∧
   ∀j e,j∉seen->es[j]? = some e->zL (iY (T.iw f id) ((mo,.val (.bool true))::(nx,.val (.dG [.bool true,e.1,e.2]))::s'.env)) (.tmp mo)=some (.bool true) ∧
    aJ X P T call cd L f nt B x { s' with env:=iY (T.iw f id) ((mo,.val (.bool true))::(nx,.val (.dG [.bool true,e.1,e.2]))::s'.env),heap:=s'.heap.set b (.cZ r n (j::seen)) } fun e s=>(e=.norm∨e=.exit i1)∧I (j::seen) s) :
  aJ X P T call cd L f nt B (.block i0 (.loop (.seq (.region id ops draw) (.seq (.cond (.tmp mo) .skip (.exit i0)) (.block i1 x))))) s0 fun e s=>e=.norm∧Q s:=by
 obtain⟨o1,o2,hn,h2,h3,h4⟩:=a3w hnx;have skp:∀{s:aQ X.Γ} {Q':Ex->aQ X.Γ->Prop},Q' .norm s->aJ X P T call cd L f nt B .skip s Q':=fun{s Q'} hq=>by
  intro A W fl m ts R hS hR;simp only[fF];exact⟨_,_,rfl,hR _ _ s m hq hS .refl Up.refl.b⟩
 have ext:∀{i:Nat} {s:aQ X.Γ} {Q':Ex->aQ X.Γ->Prop},Q' (.exit i) s->aJ X P T call cd L f nt B (.exit i) s Q':=fun{i s Q'} hq=>by
  intro A W fl m ts R hS hR;simp only[fF];exact⟨_,_,rfl,hR _ _ s m hq hS .refl Up.refl.b⟩
 refine aJ.block ?_;refine aJ.loop (fun k s=>∃seen,I seen s∧k=((List.range n).filter fun i=>!seen.contains i).length) (fun k s hi=>?_) (k:=n) ⟨[],hI,by rw[show((List.range n).filter fun i=>!([]:List Nat).contains i)=List.range n from agN.2 fun a _=>rfl,a8C]⟩ hL;obtain⟨seen,hi,rfl⟩:=hi;obtain⟨gs,s',e1,e2,e3,e4,e5,e6⟩:=hinv seen s hi;refine aJ.ghost hX e1 ?_;refine aJ.seq (R:=fun e s=>e=.norm∧(((∀j,j<n->j∈seen)∧s={ s' with env:=iY (T.iw f id) ((mo,.val (.bool false))::(nx,.val (.dG [.bool false]))::s'.env) })∨∃j e,j∉seen∧es[j]? = some e∧s={ s' with env:=iY (T.iw f id) ((mo,.val (.bool true))::(nx,.val (.dG [.bool true,e.1,e.2]))::s'.env),heap:=s'.heap.set b (.cZ r n (j::seen)) })) ?_ (fun s hs=>?_) (fun i s h=>by cases h.1) (fun s h=>by cases h.1)
 .exact aJ.next hn hd Zk h2 h3 h4 e2 e3 e4 hl (fun ho=>⟨rfl,.inl ⟨ho,rfl⟩⟩) (fun j e hj he=>⟨rfl,.inr ⟨j,e,hj,he,rfl⟩⟩)
 .obtain⟨_,⟨h5,rfl⟩|⟨j,e,hj,he,rfl⟩⟩:=hs
  .obtain⟨m1,q1⟩:=e5 h5;refine aJ.seq (R:=fun e s=>e=.exit i0∧s={ s' with env:=iY (T.iw f id) ((mo,.val (.bool false))::(nx,.val (.dG [.bool false]))::s'.env) }) (aJ.cond (t:=false) m1 (ext ⟨rfl,rfl⟩)) (fun s h=>by cases h.1) (fun i s h=>?_) (fun s h=>by cases h.1);obtain⟨h7,rfl⟩:=h;cases h7;dsimp only;rw[a0h rfl];exact⟨rfl,q1⟩
  .obtain⟨m2,hx⟩:=e6 j e hj he;have hjn:j<n:=by rw[<-hl];exact(a04.1 he).1
   refine aJ.seq (R:=fun e1 s=>e1=.norm∧s={ s' with env:=iY (T.iw f id) ((mo,.val (.bool true))::(nx,.val (.dG [.bool true,e.1,e.2]))::s'.env),heap:=s'.heap.set b (.cZ r n (j::seen)) }) (aJ.cond (t:=true) m2 (skp ⟨rfl,rfl⟩)) (fun s h=>?_) (fun i s h=>by cases h.1) (fun s h=>by cases h.1);obtain⟨_,rfl⟩:=h;refine aJ.block ?_;refine hx.mono fun e s h=>?_;obtain⟨h1|h1,h2⟩:=h
   .subst h1;exact⟨_,a1H hjn hj,j::seen,h2,rfl⟩
   .subst h1;dsimp only;rw[a0h rfl];exact⟨_,a1H hjn hj,j::seen,h2,rfl⟩
theorem V9(hX:bM X P){x:Code}{i0 i1 id it nx mo b r n:Nat}{ops:Array Oper}{draw:Bool}{s0:aQ X.Γ}{es:List (PV X.Γ×PV X.Γ)}{Q:aQ X.Γ->Prop}(I:List Nat->aQ X.Γ->Prop)
  (hnx:V8 ops it nx mo=true) (hd:nx<nt) (Zk:mo<nt) (hl:es.length=n) (hL:n<L) (hI:I [] s0)
  (hinv:∀seen s,I seen s->∃s',gJ X (T.eP f (dR (.seq (.region id ops draw) (.seq (.cond (.tmp mo) .skip (.exit i0)) (.block i1 x))))) s=s'∧zL s'.env (.tmp it)=some (.iter b)∧s'.heap[b]? = some (.cZ r n seen)∧JO X s'.heap r=some es ∧
   ((∀j,j<n->j∈seen)->zL (iY (T.iw f id) ((mo,.val (.bool false))::(nx,.val (.dG [.bool false]))::s'.env)) (.tmp mo)=some (.bool false)∧Q { s' with env:=iY (T.iw f id) ((mo,.val (.bool false))::(nx,.val (.dG [.bool false]))::s'.env) }) ∧
   ∀j e,j∉seen->es[j]? = some e->zL (iY (T.iw f id) ((mo,.val (.bool true))::(nx,.val (.dG [.bool true,e.1,e.2]))::s'.env)) (.tmp mo)=some (.bool true) ∧
    aJ X P T call cd L f nt B x { s' with env:=iY (T.iw f id) ((mo,.val (.bool true))::(nx,.val (.dG [.bool true,e.1,e.2]))::s'.env),heap:=s'.heap.set b (.cZ r n (j::seen)) } fun e s=>(e=.norm∨e=.exit i1)∧I (j::seen) s) :
  aJ X P T call cd L f nt B (.block i0 (.loop (.seq (.region id ops draw) (.seq (.cond (.tmp mo) .skip (.exit i0)) (.block i1 x))))) s0 fun e s=>e=.norm∧Q s:=
 Pm hX I hnx hd Zk hl hL hI fun seen s hi=>let ⟨s',e1,h⟩:=hinv seen s hi;⟨[],s',congrArg some e1,h⟩
end
end Pv
namespace Go.Proofs.YtmobpoiejckagaaGreat
open Go Tw Pv bW
theorem akk(x:V):Instr.sameBits 10000 (kV.v x) (kV.v x)=true:=by
 show Instr.sameBits 10000 (.agg #[.int .u8 x.f,.int .i64 x.n]) (.agg #[.int .u8 x.f,.int .i64 x.n])=true;simp[Instr.sameBits]
theorem a7E(x:S3):Instr.sameBits 10000 (kS.v x) (kS.v x)=true:=by
 show Instr.sameBits 10000 (.agg #[.int .i64 x.a,.int .i64 x.b,.int .i64 x.c]) (.agg #[.int .i64 x.a,.int .i64 x.b,.int .i64 x.c])=true;simp[Instr.sameBits]
abbrev iG:V:=⟨0,1⟩
def akl:eY aF:=bZ 79 (a1 Zv) vA (fun p=>p.getD 0 V0) (fun p=>[0<p.length]) Ht
theorem apq:Gd akl:=XI.add fun n hO p hp=>aN hO (.o (aG (hp _ (.head _))) .rr)
def akm:eY aF:=bZ 89 aen vA (fun p=>iG) np akl
theorem apr:Gd akm:=apq.add fun n hO p hp=>aN hO .rr
def a7F:eY aF:=bZ 169 (a1 vA) tA (fun p=>decide (p=iG)) np akm
theorem akn:Gd a7F:=apr.add fun n hO p hp=>aN hO (.q (.bool (decide (p=iG))) (eqV (.tmp 3) (.tmp 4) p iG) .rr)
def mJ(l:List V):Bool:=l.all fun v=>decide (v=iG)
def nO(l:List V):V:=if mJ l=true then iG else V0
theorem aps{n:Nat}(hO:Ok n a7F)(l:List V)(hl:l.length<=ah):aX X0 Qp (bQ (n+4)) (.fn 168 [] []) [.fn 169 [] [],lV l] [] (tA.put (mJ l)) []:=by
 have hs:∀v:V,aX X0 Qp (bQ n) (.fn 169 [] []) [.agg v.ps] [] (tA.put (decide (v=iG))) []:=fun v=>mY.ZH hX (first:=[]) (cap:=[]) (hO 169 [.agg v.ps] (tA.put (decide (v=iG))) [] [] (by kernel_rfl) (fun p h=>by cases h)) rfl rfl rfl rfl;have h1:∀v:V,aX X0 Qp (bQ (n+1)) (.fn 201 [] [.ptr 0 0 1]) [.agg v.ps] [.cells [.fn 169 [] []]] (tA.put (!(decide (v=iG)))) [.cells [.fn 169 [] []]]:=fun v=>
  jd fZ (first:=[]) (.fr [] (hs v) .sr)
 have h2:=aeH (n:=n+2) (by omega) (f:=201) (a:=[]) (c:=[.ptr 0 0 1]) (H:=[.cells [.fn 169 [] []]]) (g:=fun v=>!(decide (v=iG))) h1 l hl;rw[IW]at h2;unfold mJ;rw[<-E8 l fun v=>decide (v=iG)];exact aX.drop hX (CV hX fZ (first:=[]) (cap:=[]) (H1:=[.cells [.fn 169 [] []]]) (by kernel_rfl) (.k h2 .sr)) rfl rfl
def qo:eY aF:=bZ 117 (a1 Zv) vA nO (fun l=>[l.length<=ah]) a7F
theorem Ku:Gd qo:=akn.deep 4 fun n hn hO l hp=>by
 have hs:=aps (n:=n-4) (hO (n-4) (by omega)) l (hp _ (.head _));rw[show n-4+4=n by omega]at hs;show mY X0 Qp _ _ _ (vA.put (nO l)) _;unfold nO;exact aN (hO n (by omega)) (.fr [] hs (.ss .rr .rr))
abbrev Y0:Code:=(Tf Qp 87).body
abbrev Qv:Code:=(Tf Qp 136).body
abbrev a7G(J:Jb)(f:Nat):List (Nat×PE aF):=[(2,.val (.nil .map)),(3,.val (.ptr 2 0 1)),(8,.val (.fn 136 [.agg (J.ps (.fn f [] []))] []))]
abbrev LRC(J:Jb)(f:Nat)(rd:Bool)(jC:Option Code):PB aF:=.loop rd 87 (BG Qp 87) (a7G J f) [9,10] (wK Qp 87) (Au Qp 87) jC
abbrev HQc(J:Jb)(f:Nat)(t:List (V×Int)):List (PB aF):=[.cells (J.ps (.fn f [] [])),.map (kV.im t),.cells [.map 1]]
abbrev Qw(J:Jb)(f:Nat)(rd:Bool)(jC:Option Code)(t:List (V×Int)):List (PB aF):=HQc J f t++[.mark,LRC J f rd jC]
theorem a7H(l:List V):decide (nO l=iG)=mJ l:=by
 unfold nO;cases mJ l<;>decide
def yT(l:List V)(w:Int)(t:List (V×Int)):List (V×Int):=if mJ (l.drop 1)=true then rQ t (l.getD 0 V0) w else t
structure Tal(t:List (V×Int)):Prop where
 nd:(t.map (·.1)).Nodup
 pos:∀e∈t,0<e.2
 bnd:∀e∈t,e.2<=2000
theorem apu{n:Nat}(hO:Ok n qo)(J:Jb)(f:Nat){t:List (V×Int)}(ht:Tal t)(l:List V){w:Int}(h0:0<l.length)(hl:l.length<=ah)(hw:0<w∧w<=2000):aX X0 Qp (bQ (n+1)) (.kC 4) [lV l,.int .i64 w] (Qw J f true none t) (.bool true) (Qw J f true none (yT l w t)):=by
 have q1:dL X0 Qp T (bQ n) LL 87 true (BG Qp 87) 5 (wK Qp 87) ⟨tV (a7G J f) [9,10] [lV l,.int .i64 w],[],Qw J f true none t⟩ .norm ⟨[(3,.val (.ptr 2 0 1)),(4,.val (lV l)),(5,.val (.int .i64 w))],[],Qw J f true none t⟩:=xX hX hO (by kernel_rfl) .xx;have i0:gQ 0 l.length:=aG h0;have a1:(1:Int)<=l.length:=by omega
 have e1:(l.take l.length)=l:=abu;have c1:decide (nO ((l.take ((l.length:Int).toNat)).drop (1:Int).toNat)=iG)=mJ (l.drop 1):=by
  rw[a7H];simp
 have a2:((l.take ((l.length:Int).toNat)).drop (1:Int).toNat).length<=ah:=by simp;omega
 have ev:=eqV (.tmp 13) (.tmp 14) (nO ((l.take ((l.length:Int).toNat)).drop (1:Int).toNat)) iG;have z01:(0:Int)<=1:=by decide
 have z02:(l.length:Int)<=(l.length:Int):=a9e _;unfold yT;cases hc:mJ (l.drop 1)
 .rw[hc]at c1;rw[a0g (by simp)];have q2:dL X0 Qp T (bQ n) LL 87 true (BG Qp 87) 5 (Au Qp 87) ⟨[(3,.val (.ptr 2 0 1)),(4,.val (lV l)),(5,.val (.int .i64 w))],[],Qw J f false none t⟩ .norm ⟨[(3,.val (.ptr 2 0 1)),(4,.val (lV l)),(5,.val (.int .i64 w)),(15,xl false)],[],Qw J f false none t⟩:=
   xX hX hO (by kernel_rfl) (.o z01 (.o a1 (.o z02 (.o a2 (.q (.bool (decide (nO ((l.take ((l.length:Int).toNat)).drop (1:Int).toNat)=iG))) ev (.b c1 .xx))))))
  exact GZ hX (l:=4) rfl rfl (by kernel_rfl) q1 rfl q2 rfl
 rw[hc]at c1;rw[a0h rfl];by_cases hk:l.getD 0 V0∈t.map (·.1)
 .obtain⟨j,old,g1,g2,g3,g4⟩:=kV.V4 (akk _) ht.nd hk (n:=w) fun e he=>fH (by have:=ht.pos e he;omega) (by have:=ht.bnd e he;omega);have q2:dL X0 Qp T (bQ n) LL 87 true (BG Qp 87) 5 (Au Qp 87) ⟨[(3,.val (.ptr 2 0 1)),(4,.val (lV l)),(5,.val (.int .i64 w))],[],Qw J f false none t⟩ .norm ⟨[],[],[.cells (J.ps (.fn f [] [])),.map (IG (kV.im t) j (.int .i64 (i64.wrap (old+w)))),.cells [.map 1],.mark,LRC J f false none]⟩:=
   xX hX hO (by kernel_rfl) (.o z01 (.o a1 (.o z02 (.o a2 (.q (.bool (decide (nO ((l.take ((l.length:Int).toNat)).drop (1:Int).toNat)=iG))) ev (.b c1 (.o i0 (.c (.int .i64 old) [] g1 (.a (.call (.int .i64 old) []) (.a (.ix j) (.o g2 (.o g3 .xx))))))))))))
  rw[g4]at q2;exact GZ hX (l:=4) rfl rfl (by kernel_rfl) q1 rfl q2 rfl
 obtain⟨g1,g2,g3,g4⟩:=kV.V5 hk (n:=w) (by rw[Int.zero_add];exact fH (by omega) (by omega));have q2:dL X0 Qp T (bQ n) LL 87 true (BG Qp 87) 5 (Au Qp 87) ⟨[(3,.val (.ptr 2 0 1)),(4,.val (lV l)),(5,.val (.int .i64 w))],[],Qw J f false none t⟩ .norm ⟨[],[],[.cells (J.ps (.fn f [] [])),.map (IG (kV.im t++[(.agg (l.getD 0 V0).ps,.int .i64 0)]) (kV.im t).length (.int .i64 (i64.wrap (0+w)))),.cells [.map 1],.mark,LRC J f false none]⟩:=
  xX hX hO (by kernel_rfl) (.o z01 (.o a1 (.o z02 (.o a2 (.q (.bool (decide (nO ((l.take ((l.length:Int).toNat)).drop (1:Int).toNat)=iG))) ev (.b c1 (.o i0 (.q (.bool false) g1 (.a .calm (.o (kV.ck (l.getD 0 V0)) (.o g1 (.o g2 (.o g3 .xx)))))))))))))
 have g4:IG (kV.im t++[(.agg (l.getD 0 V0).ps,.int .i64 0)]) (kV.im t).length (.int .i64 (i64.wrap (0+w)))=kV.im (rQ t (l.getD 0 V0) w):=g4;rw[g4]at q2;exact GZ hX (l:=4) rfl rfl (by kernel_rfl) q1 rfl q2 rfl
open Go Tw Pv bW
abbrev HN(J:Jb)(f:Nat)(t:List (V×Int))(now:List (S3×Int)):List (PB aF):=Qw J f true none t++[.map (kS.im now)]
abbrev ZO:Code:=eG (eG (eH (eG (eH (eH Qv)))))
abbrev bB1:Code:=eG (eG (eH (eH ZO)))
abbrev bIB:Code:=eG (eG (eH (eG (eH (eH bB1)))))
abbrev bX:Code:=eG (eH (eH bIB))
abbrev bL2:Code:=eG (eG (eH (eH (eH (eH Qv)))))
abbrev bX2:Code:=eG (eH (eH bL2))
abbrev a3x(J:Jb)(c:Int)(a:Int):List (Nat×PE aF):=[(1,.val (.kC 4)),(2,.loc 0 0),(6,xi c),(7,.val (.map 6)),(21,xL 3 J.o),(22,xi J.o.length),(23,xi a),(29,.val (.iter 7))]
abbrev HI(J:Jb)(f:Nat)(t:List (V×Int))(now next:List (S3×Int))(seen:List Nat):List (PB aF):=HN J f t now++[.map (kS.im next),.cZ 5 now.length seen]
structure NI(J:Jb)(a:Nat)(m:List (S3×Int)):Prop where
 nd:(m.map (·.1)).Nodup
 pos:∀e∈m,0<e.2
 dp:∀e∈m,Dp J a e.1
theorem NI.add{J:Jb}{a:Nat}{m:List (S3×Int)}(h:NI J a m){s:S3}{n:Int}(hs:Dp J a s)(hn:0<n):NI J a (rQ m s n):=
 ⟨FI h.nd s n,P9 hn h.pos,fun e he=>by
  rcases a7q he with e1|⟨e',h1,h2⟩
  .rw[e1];exact hs
  .rw[<-h2];exact h.dp e' h1⟩
theorem AU{κ:Type}[DecidableEq κ](q:Int):∀m:List (κ×Int),dD (fun _=>q) m=dD (fun _=>1) m*q
 | []=>by simp[dD]
 |e::m=>by simp only[dD,AU q m,agQ,acX]
theorem I5{κ:Type}[DecidableEq κ]:∀{m:List (κ×Int)},(∀e∈m,0<e.2)->0<=dD (fun _=>1) m∧∀e∈m,e.2<=dD (fun _=>1) m
 | [],_=>⟨a9e _,fun e he=>by cases he⟩
 |x::m,h=>by
  obtain⟨h1,h2⟩:=I5 (m:=m) fun e he=>h e (by simp[he]);have h0:=h x (by simp);simp only[dD,acX];refine⟨by omega,fun e he=>?_⟩;rcases a1Y.1 he with rfl|he
  .omega
  have:=h2 e he;omega
theorem a7J{κ:Type}[DecidableEq κ]{m:List (κ×Int)}{q:Nat}(hp:∀e∈m,0<e.2)(hq:1<=q)(hs:dD (fun _=>(q:Int)) m<=2000):∀e∈m,e.2<=2000:=fun e he=>by
 obtain⟨h1,h2⟩:=I5 hp;rw[AU]at hs;have h3:=h2 e he;have:dD (fun _=>1) m<=dD (fun _=>1) m*(q:Int):=by
  have:=a8A (show(1:Int)<=q by omega) h1;omega
 omega
theorem Y1{J:Jb}(r:List Int)(m:List (S3×Int)):dD (xk J (fun _=>1) r) m=dD (fun _=>(zM J r:Int)) m:=by
 induction m with
 |nil=>rfl
 |cons e m ih=>simp only[dD,ih,Ed]
theorem Ei{J:Jb}{a:Nat}{r:List Int}{m:List (S3×Int)}(h:NI J a m)(hq:1<=zM J r){s:S3}{n b:Int}(hn:0<n)(hs:dD (fun _=>(zM J r:Int)) m+n*(zM J r:Int)<=b)(hb:b<=2000):n<=2000∧(∀e∈m,e.2<=2000)∧∀e∈m,i64.wrap (e.2+n)=e.2+n:=by
 obtain⟨h1,h2⟩:=I5 h.pos;have h3:0<=dD (fun _=>(zM J r:Int)) m:=by rw[AU];exact agv h1 (by omega)
 have h4:n<=n*(zM J r:Int):=by
  have:=a8A (show(1:Int)<=zM J r by omega) (show 0<=n by omega);omega
 have h5:0<=n*(zM J r:Int):=by omega
 have h6:=a7J h.pos hq (show dD (fun _=>(zM J r:Int)) m<=2000 by omega);refine⟨by omega,h6,fun e he=>?_⟩;have:=h6 e he;have:=h.pos e he;exact fH (by omega) (by omega)
theorem a1I{now:List (S3×Int)}{j:Nat}{st:S3}{w:Int}(h:now[j]? = some (st,w)):(kS.im now).length=now.length∧(kS.im now)[j]? = some (.agg st.ps,.int .i64 w):=by
 refine⟨kS.oN now,?_⟩;rw[kS.AQ,h];rfl
section
variable {n:Nat} {J:Jb} (hJ:jP J) {f:Nat} (t:List (V×Int)) (now:List (S3×Int)) (seen:List Nat) {a:Nat} {c:Int} {r:List Int} {st:S3} {w:Int} {j:Nat}
abbrev sX(J:Jb)(f:Nat)(t:List (V×Int))(now next:List (S3×Int))(c:Int)(a:Int)(st:S3)(w:Int)(js:List Nat):aQ aF:=⟨iY (T.iw 136 7) ((31,.val (.bool true))::(30,.val (.dG [.bool true,.agg st.ps,.int .i64 w]))::a3x J c a),[J.ps (.fn f [] [])],HI J f t now next js⟩
abbrev sZ(J:Jb)(f:Nat)(t:List (V×Int))(now next:List (S3×Int))(c:Int)(a:Int)(st:S3)(js:List Nat):aQ aF:=⟨a3x J c a,[J.ps (.fn f [] []),st.ps],HI J f t now next js⟩
abbrev wDi(J:Jb)(f:Nat)(t:List (V×Int))(now:List (S3×Int))(c:Int)(a:Int)(st:S3)(w:Int)(js:List Nat)(next:List (S3×Int))(i:Int)(x:List (Nat×PE aF)):aQ aF:=⟨[(1,.val (.kC 4)),(2,.loc 0 0),(6,xi c),(7,.val (.map 6)),(8,.loc 1 0),(9,xi w),(21,xL 3 J.o),(22,xi J.o.length),(23,xi a),(29,.val (.iter 7)),(75,xi (J.s.getD c.toNat 0)),(76,xi i)]++x,[J.ps (.fn f [] []),st.ps],HI J f t now next js⟩
include hJ
theorem lDi(hr:J.o.drop a=c::r)(hd:Dp J a st)(hw:0<w){next:List (S3×Int)}(hN:NI J (a+1) next)(hg:¬decide (J.g.getD c.toNat 0>=0)=true)(hb:dD (fun _=>(zM J r:Int)) next+w*(zM J (c::r):Int)<=2000)(js:List Nat) :
  ∃next',NI J (a+1) next'∧(∀ψ,dD (xk J ψ r) next'=dD (xk J ψ r) next+w*xk J ψ (c::r) st) ∧
   OB (n+1) 136 2 5 (wDi J f t now c a st w js next 0 []) (.exit 5) (wDi J f t now c a st w js next' ((J.s.getD c.toNat 0).toNat:Nat) [(77,xl false)]):=by
 obtain⟨aS,hoc,wX,GR,hci,rX⟩:=jP.at_ hJ hr;have hz:=hJ.eF.sz _ (dW (s:=J.s) (k:=c.toNat) (by have:=rX.1;have:=rX.2;omega));have hri:∀c'∈r,gQ c' J.s.length:=fun c' h=>(jP.o2 hJ).2.2 c' (by rw[<-wX]at h;exact a6r h);have hq:=(Jm hJ hri).1;have pJ:(zM J (c::r):Int)=((J.s.getD c.toNat 0).toNat:Int)*(zM J r:Int):=by
  have:(AO J c).length=(J.s.getD c.toNat 0).toNat:=by unfold AO;rw[a0g hg];simp
  rw[zM,this,afC]
 let g:Nat->List (S3×Int)->List (S3×Int):=fun k y=>rQ y (bJ J.D st c k) w
 have inv:=dO (g:=g) (m:=(J.s.getD c.toNat 0).toNat) (k:=0) (s:=next) (fun k y=>NI J (a+1) y∧∀ψ,dD (xk J ψ r) y=dD (xk J ψ r) next+w*dS (fun(j:Nat)=>xk J ψ r (bJ J.D st c j)) (List.range k)) ⟨hN,fun ψ=>by simp[dS]⟩ (fun k y _ hk hy=>by
  obtain⟨h1,h2⟩:=hy;refine⟨h1.add (lY hJ hr hd ⟨by omega,by omega⟩) hw,fun ψ=>?_⟩;show dD (xk J ψ r) (rQ y _ w)=_;rw[zB,h2 ψ,abI,I4,Int.mul_add];simp only[dS,Int.add_zero];omega)
 rw[a3U]at inv;refine⟨_,inv.1,fun ψ=>by rw[inv.2 ψ,aaq hg],?_⟩;have bound:∀k y,k<(J.s.getD c.toNat 0).toNat->(∀ψ,dD (xk J ψ r) y=dD (xk J ψ r) next+w*dS (fun(j:Nat)=>xk J ψ r (bJ J.D st c j)) (List.range k))->dD (fun _=>(zM J r:Int)) y+w*(zM J r:Int)<=2000:=fun k y hk hy=>by
  have h1:=hy fun _=>1;rw[Y1,Y1,pU (φ':=fun _=>(zM J r:Int)) (fun _ _=>Ed r _),AP,a8C]at h1;rw[h1];rw[pJ]at hb;have h2:((k:Int)+1)*(zM J r:Int)<=((J.s.getD c.toNat 0).toNat:Int)*(zM J r:Int):=abo (by omega) (by omega);have h3:=a8A h2 (show 0<=w by omega);rw[agQ,Int.mul_add,Int.one_mul]at h3;omega
 refine uy (σ:=List (S3×Int)) (N:=(J.s.getD c.toNat 0).toNat) (g:=g) (s0:=next) (st:=fun i y=>wDi J f t now c a st w js y i []) (fin:=fun y=>wDi J f t now c a st w js y (((J.s.getD c.toNat 0).toNat:Nat):Int) [(77,xl false)]) (fun k y=>NI J (a+1) y∧∀ψ,dD (xk J ψ r) y=dD (xk J ψ r) next+w*dS (fun(j:Nat)=>xk J ψ r (bJ J.D st c j)) (List.range k)) (by kernel_rfl) (by unfold ah;omega) ⟨hN,fun ψ=>by simp[dS]⟩ (fun k y hk hy=>?_) (fun k y hk hy m e p g9=>?_) (fun y _=>?_)
 .obtain⟨h1,h2⟩:=hy;refine⟨h1.add (lY hJ hr hd ⟨by omega,by omega⟩) hw,fun ψ=>?_⟩;show dD (xk J ψ r) (rQ y _ w)=_;rw[zB,h2 ψ,abI,I4,Int.mul_add];simp only[dS,Int.add_zero];omega
 .obtain⟨h1,h2⟩:=hy;obtain⟨b1,b2,b3⟩:=Ei h1 hq (s:=bJ J.D st c k) hw (bound k y hk h2) (a9e _);have t1:decide ((k:Int)<J.s.getD c.toNat 0)=true:=by rw[a1X];omega
  have ha:=Jd (M:=n) (f:=f) (a:=[]) (cc:=[]) (H:=[]) J st c k hJ.d3 fun i hi=>Jf hJ hd ⟨by omega,by omega⟩ hi;have g9:dH X0 Qp T (bQ (n+1)) LL 136 false _ 5 _ m (wDi J f t now c a st w js (rQ y (bJ J.D st c k) w) _ []) e p:=g9;by_cases hk:bJ J.D st c k∈y.map (·.1)
  .obtain⟨jj,old,g1,g2,g3,g4⟩:=kS.V4 (a7E _) h1.nd hk (n:=w) b3;unfold wDi HI at g9;rw[<-g4]at g9;exact aK fZ (.b t1 (.fr [] ha (.c (.int .i64 old) [] g1 (.a (.call (.int .i64 old) []) (.a (.ix jj) (.o g2 (.o g3 (.go g9))))))))
  .obtain⟨g1,g2,g3,g4⟩:=kS.V5 hk (n:=w) (by rw[Int.zero_add];exact fH (by omega) (by omega));unfold wDi HI at g9;rw[<-g4]at g9;exact aK fZ (.b t1 (.fr [] ha (.q (.bool false) g1 (.a .calm (.o (kS.ck (bJ J.D st c k)) (.o g1 (.o g2 (.o g3 (.go g9)))))))))
 .have t1:decide ((((J.s.getD c.toNat 0).toNat:Nat):Int)<J.s.getD c.toNat 0)=false:=by rw[a2W];omega
  exact aK fZ (.b t1 .ex)
end
open Go Tw Pv bW
abbrev sH(J:Jb)(f:Nat)(t:List (V×Int))(now next:List (S3×Int))(c:Int)(a:Int)(js:List Nat):aQ aF:=⟨a3x J c a,[J.ps (.fn f [] [])],HI J f t now next js⟩
section
variable {n:Nat} {J:Jb} (hJ:jP J) {f:Nat} (t:List (V×Int)) (now:List (S3×Int)) (seen:List Nat) {a:Nat} {c:Int} {r:List Int} {st:S3} {w:Int} {j:Nat}
include hJ
theorem ako(hr:J.o.drop a=c::r)(hd:Dp J a st)(hw:0<w){next:List (S3×Int)}(hN:NI J (a+1) next)(hj:now[j]? = some (st,w))(hb:dD (fun _=>(zM J r:Int)) next+w*(zM J (c::r):Int)<=2000) :
  ∃next' e s',NI J (a+1) next'∧(∀ψ,dD (xk J ψ r) next'=dD (xk J ψ r) next+w*xk J ψ (c::r) st)∧(e=.norm∨e=.exit 3) ∧
   dL X0 Qp T (bQ (n+1)) LL 136 false (BG Qp 136) 5 bX (sX J f t now next c a st w (j::seen)) e s' ∧
   gJ X0 (T.eP 136 (dR bIB)) s'=sH J f t now next' c a (j::seen):=by
 obtain⟨aS,hoc,wX,GR,hci,rX⟩:=jP.at_ hJ hr;have hz:=hJ.eF.sz _ (dW (s:=J.s) (k:=c.toNat) (by have:=rX.1;have:=rX.2;omega));have hri:∀c'∈r,gQ c' J.s.length:=fun c' h=>(jP.o2 hJ).2.2 c' (by rw[<-wX]at h;exact a6r h);have hq:=(Jm hJ hri).1;have hcG:gQ c J.g.length:=by rw[hJ.gl];exact rX
 have ho:=a1I hj;by_cases hg:decide (J.g.getD c.toNat 0>=0)=true
 .have hl1:(zM J (c::r):Int)=zM J r:=by rw[zM,AO,a0h hg];simp
  rw[hl1]at hb;have hgv:0<=J.g.getD c.toNat 0:=by simpa using hg
  have Zk:=lY hJ hr hd ⟨hgv,hJ.gv c rX hgv⟩;obtain⟨b1,b2,b3⟩:=Ei hN hq (s:=st) hw hb (a9e _);have ha:=Jd (M:=n) (f:=f) (a:=[]) (cc:=[]) (H:=[]) J st c (J.g.getD c.toNat 0) hJ.d3 fun i hi=>Jf hJ hd ⟨hgv,hJ.gv c rX hgv⟩ hi;refine⟨rQ next (bJ J.D st c (J.g.getD c.toNat 0)) w,.exit 3,sZ J f t now (rQ next (bJ J.D st c (J.g.getD c.toNat 0)) w) c a st (j::seen),hN.add Zk hw,fun ψ=>by rw[zB,a3q hg],.inr rfl,?_,by kernel_rfl⟩;unfold sZ HI;by_cases hk:bJ J.D st c (J.g.getD c.toNat 0)∈next.map (·.1)
  .obtain⟨jj,old,g1,g2,g3,g4⟩:=kS.V4 (a7E _) hN.nd hk (n:=w) b3;rw[<-g4];exact zG hX fZ (by kernel_rfl) (.c (.dG [.agg st.ps,.int .i64 w]) [] ho (.o rX (.o hcG (.b hg (.fr [] ha (.c (.int .i64 old) [] g1 (.a (.call (.int .i64 old) []) (.a (.ix jj) (.o g2 (.o g3 (.r rfl)))))))))))
  .obtain⟨g1,g2,g3,g4⟩:=kS.V5 hk (n:=w) (by rw[Int.zero_add];exact fH (by omega) (by omega));rw[<-g4];exact zG hX fZ (by kernel_rfl) (.c (.dG [.agg st.ps,.int .i64 w]) [] ho (.o rX (.o hcG (.b hg (.fr [] ha (.q (.bool false) g1 (.a .calm (.o (kS.ck (bJ J.D st c (J.g.getD c.toNat 0))) (.o g1 (.o g2 (.o g3 (.r rfl))))))))))))
 have hg':decide (J.g.getD c.toNat 0>=0)=false:=by simpa using hg
 have uN:((J.s.getD c.toNat 0).toNat:Int)=J.s.getD c.toNat 0:=by omega
 have pJ:(zM J (c::r):Int)=J.s.getD c.toNat 0*(zM J r:Int):=by
  have:(AO J c).length=(J.s.getD c.toNat 0).toNat:=by unfold AO;rw[a0g hg];simp
  rw[zM,this,afC,uN]
 have hs:=a7j (M:=n) (f:=f) (a:=[]) (cc:=[]) (H:=[]) J st c hJ.d3 (fun k hk h=>⟨by simpa using h,(hd k hk).1.1⟩);cases Az:jI J.D st c
 .rw[Az]at hs;have Zk:=UR hJ hr hd Az;have hm:0<w*J.s.getD c.toNat 0:=Int.mul_pos hw (by omega);rw[pJ,<-Int.mul_assoc]at hb;obtain⟨b1,b2,b3⟩:=Ei hN hq (s:=st) hm hb (a9e _);have hwm:i64.wrap (w*J.s.getD c.toNat 0)=w*J.s.getD c.toNat 0:=fH (by omega) (by omega);refine⟨rQ next st (w*J.s.getD c.toNat 0),.exit 3,sZ J f t now (rQ next st (w*J.s.getD c.toNat 0)) c a st (j::seen),hN.add Zk hm,fun ψ=>by rw[zB,afm hg Az,uN,Int.mul_assoc],.inr rfl,?_,by kernel_rfl⟩;unfold sZ HI;by_cases hk:st∈next.map (·.1)
  .obtain⟨jj,old,g1,g2,g3,g4⟩:=kS.V4 (a7E _) hN.nd hk (n:=w*J.s.getD c.toNat 0) b3;rw[<-g4,<-hwm];exact zG hX fZ (by kernel_rfl) (.c (.dG [.agg st.ps,.int .i64 w]) [] ho (.o rX (.o hcG (.b hg' (.fr [] hs (.b (rfl:(!false)=true) (.c (.int .i64 old) [] g1 (.a (.call (.int .i64 old) []) (.a (.ix jj) (.o g2 (.o g3 (.r rfl))))))))))))
  .obtain⟨g1,g2,g3,g4⟩:=kS.V5 hk (n:=w*J.s.getD c.toNat 0) (by rw[Int.zero_add];exact hwm);rw[<-g4,<-hwm];exact zG hX fZ (by kernel_rfl) (.c (.dG [.agg st.ps,.int .i64 w]) [] ho (.o rX (.o hcG (.b hg' (.fr [] hs (.b (rfl:(!false)=true) (.q (.bool false) g1 (.a .calm (.o (kS.ck st) (.o g1 (.o g2 (.o g3 (.r rfl)))))))))))))
 .rw[Az]at hs;obtain⟨next',h1,h2,h3⟩:=lDi (n:=n) hJ (f:=f) t now hr hd hw hN hg hb (j::seen);refine⟨next',.norm,_,h1,h2,.inl rfl,zG (ps1:=wDi J f t now c a st w (j::seen) next' ((J.s.getD c.toNat 0).toNat:Nat) [(77,xl false)]) hX fZ (by kernel_rfl) (.c (.dG [.agg st.ps,.int .i64 w]) [] ho (.o rX (.o hcG (.b hg' (.fr [] hs (.b (rfl:(!true)=false) (.w h3 (.r rfl)))))))),by kernel_rfl⟩
end
end Go.Proofs.YtmobpoiejckagaaGreat
namespace Pv
open Go Tw
section
variable {X:kE} {P:Program} {T:qp} {call:aZ} {cd:uO} {L f nt B:Nat}
theorem aJ.AV{a b:Code}{ps s1:aQ X.Γ}{Q:Ex->aQ X.Γ->Prop}(hn:nN a=true)(ha:dL X P T call L f false nt B a ps .norm s1)(hb:aJ X P T call cd L f nt B b s1 Q):aJ X P T call cd L f nt B (.seq a b) ps Q:=
 aJ.seq (R:=fun e s=>e=.norm∧s=s1) (dL.ZY hn ha ⟨rfl,rfl⟩) (fun s h=>by obtain⟨_,rfl⟩:=h;exact hb) (fun i s h=>by cases h.1) (fun s h=>by cases h.1)
theorem aJ.step{c:Code}{ps:aQ X.Γ}{e:Ex}{ps1:aQ X.Γ}{Q:Ex->aQ X.Γ->Prop}(hn:nN c=true)(ha:dL X P T call L f false nt B c ps e ps1)(hq:Q e ps1):aJ X P T call cd L f nt B c ps Q:=dL.ZY hn ha hq
end
end Pv
namespace Go.Proofs.YtmobpoiejckagaaGreat
open Go Tw Pv bW
theorem Kv{α:Type}[DecidableEq α](φ:α->Int)(p:α->Bool):∀l:List α,dS φ l=dS φ (l.filter p)+dS φ (l.filter fun a=>!p a)
 | []=>rfl
 |a::l=>by
  rw[dS,Kv φ p l];cases h:p a
  .rw[adk (by simp[h]),adn (by simp[h]),dS];omega
  rw[adn h,adk (by simp[h]),dS];omega
theorem Va{α:Type}[DecidableEq α]{φ:α->Int}:∀{l:List α},(∀a∈l,0<=φ a)->0<=dS φ l
 | [],_=>a9e _
 |a::l,h=>by
  have:=Va (l:=l) fun b hb=>h b (by simp[hb]);have:=h a (by simp);rw[dS];omega
theorem Jp{n:Nat}{l:List Nat}(hn:l.Nodup)(hl:∀j∈l,j<n):((List.range n).filter fun j=>l.contains j).Perm l:=
 (a8c (List.nodup_range.filter _) hn).2 fun j=>by
  rw[a6t,a4f,List.contains_iff_mem];exact⟨fun h=>h.2,fun h=>⟨hl j h,h⟩⟩
theorem Vb{n:Nat}{φ:Nat->Int}{l:List Nat}(hn:l.Nodup)(hl:∀j∈l,j<n)(hp:∀j,j<n->0<=φ j):dS φ l<=dS φ (List.range n):=by
 rw[Kv φ (fun j=>l.contains j) (List.range n),Jk φ (Jp hn hl)];have:=Va (φ:=φ) (l:=(List.range n).filter fun j=>!l.contains j) fun j hj=>hp j (a4f.1 (a6t.1 hj).1);omega
theorem Pn{n:Nat}{φ:Nat->Int}{l:List Nat}(hn:l.Nodup)(hl:∀j∈l,j<n)(ha:∀j,j<n->j∈l):dS φ l=dS φ (List.range n):=
 (Jk φ ((a8c aeP hn).2 fun j=>⟨fun h=>ha j (a4f.1 h),fun h=>a4f.2 (hl j h)⟩)).symm
abbrev nowAt(now:List (S3×Int))(j:Nat):S3×Int:=now.getD j (⟨0,0,0⟩,0)
theorem I7{φ:S3->Int}(now:List (S3×Int)):dS (fun j=>(nowAt now j).2*φ (nowAt now j).1) (List.range now.length)=dD φ now:=by
 have h1:dD φ now=dS (fun e:S3×Int=>e.2*φ e.1) now:=by
  induction now with
  |nil=>rfl
  |cons e m ih=>simp only[dD,dS,ih]
 have h2:now=(List.range now.length).map fun j=>nowAt now j:=by
  refine(qY (d:=(⟨⟨0,0,0⟩,0⟩:S3×Int)) (by simp)).2 fun k hk=>?_;simp[List.getD,hk]
 rw[h1]
 conv=>rhs;rw[h2]
 rw[zC]
theorem Y2{now:List (S3×Int)}{j:Nat}{e:S3×Int}(h:now[j]? = some e):nowAt now j=e∧j<now.length∧e∈now:=by
 obtain⟨h1,h2⟩:=a04.1 h;exact⟨by simp[nowAt,List.getD,h],h1,h2▸a4w h1⟩
section
variable {n:Nat} {J:Jb} (hJ:jP J) {f:Nat} (t:List (V×Int)) (now:List (S3×Int)) {a:Nat} {c:Int} {r:List Int}
def InS(J:Jb)(f:Nat)(t:List (V×Int))(now:List (S3×Int))(a:Nat)(c:Int)(r:List Int)(seen:List Nat)(s:aQ aF):Prop:=
 seen.Nodup∧(∀j∈seen,j<now.length)∧∃next,NI J (a+1) next∧(∀ψ,dD (xk J ψ r) next=dS (fun j=>(nowAt now j).2*xk J ψ (c::r) (nowAt now j).1) seen)∧gJ X0 (T.eP 136 (dR bIB)) s=sH J f t now next c a seen
structure y9(J:Jb)(a:Nat)(now:List (S3×Int)):Prop where
 i:NI J a now
 s:∀ψ,dD (xk J ψ (J.o.drop a)) now=xk J ψ J.o (fG J.D)
include hJ
theorem afx:(zM J J.o:Int)<=2000:=by
 have h1:=(Jm hJ (jP.o2 hJ).2.2).2;have hw:=OW hJ.eF.sz hJ.ord;have hm:=hJ.eF.many;omega
theorem MC(h:y9 J a now):dD (fun _=>(zM J (J.o.drop a):Int)) now<=2000:=by
 have:=h.s fun _=>1;rw[Y1,Ed]at this;have:=afx hJ;omega
theorem Y3(a:Nat):1<=zM J (J.o.drop a):=(Jm hJ fun c hc=>(jP.o2 hJ).2.2 c (a6r hc)).1
theorem a1J(h:y9 J a now):now.length<=2000∧∀e∈now,e.2<=2000:=by
 have h1:=a7J h.i.pos (Y3 hJ a) (MC hJ now h);obtain⟨h2,h3⟩:=I5 h.i.pos;have h4:=MC hJ now h;rw[AU]at h4;have h5:=a8A (show(1:Int)<=zM J (J.o.drop a) by have:=Y3 hJ a;omega) h2;have h6:∀{m:List (S3×Int)},(∀e∈m,0<e.2)->(m.length:Int)<=dD (fun _=>1) m:=by
  intro m
  induction m with
  |nil=>intro _;exact a9e _
  |cons e m ih=>
   intro hp;have:=ih fun e he=>hp e (by simp[he]);have:=hp e (by simp);simp only[dD,a3V,acX];omega
 have:=h6 h.i.pos;exact⟨by omega,h1⟩
set_option maxRecDepth 20000 in
theorem inLoop(hr:J.o.drop a=c::r)(h:y9 J a now):aJ X0 Qp T (bQ (n+1)) Ce LL 136 (BG Qp 136) 5 (.block 2 (.loop bIB)) (sH J f t now [] c a [])
  fun e s=>e=.norm∧∃next seen,NI J (a+1) next∧(∀ψ,dD (xk J ψ r) next=dD (xk J ψ (c::r)) now)∧s={ sH J f t now next c a seen with env:=iY (T.iw 136 7) ((31,.val (.bool false))::(30,.val (.dG [.bool false]))::a3x J c a) }:=by
 have e0:bIB=.seq (.region 7 (a7D (eG bIB)) false) (.seq (.cond (.tmp 31) .skip (.exit 2)) (.block 3 bX)):=by kernel_rfl
 rw[e0];have hlen:=a1J hJ now h;have hlL:(kS.im now).length=now.length:=kS.oN now;have hql:=(Jm hJ (r:=c::r) fun c' hc=>(jP.o2 hJ).2.2 c' (by rw[<-hr]at hc;exact a6r hc)).1;refine V9 hX (n:=now.length) (b:=7) (r:=5) (it:=29) (nx:=30) (mo:=31) (es:=kS.im now) (fun seen s=>InS J f t now a c r seen s) (by kernel_rfl) (a8d (by kernel_rfl)) (a8d (by kernel_rfl)) hlL (by unfold LL;omega)
  ⟨a7f,(fun j hj=>(by cases hj)),[],⟨a7f,(fun e he=>(by cases he)),(fun e he=>(by cases he))⟩,(fun ψ=>rfl),(by kernel_rfl)⟩ (fun seen s hi=>?_)
 obtain⟨je,aS,next,h1,h2,h3⟩:=hi;rw[<-e0];refine⟨_,h3,by kernel_rfl,by kernel_rfl,by kernel_rfl,fun ho=>⟨by kernel_rfl,next,seen,h1,fun ψ=>?_,rfl⟩,fun j e hj he=>⟨by kernel_rfl,?_⟩⟩
 .rw[h2,Pn je aS ho,I7]
 .rw[kS.AQ,a09]at he;obtain⟨⟨st,w⟩,rO,rfl⟩:=he;obtain⟨q1,q2,q3⟩:=Y2 rO;have Dv:(j::seen).Nodup:=a4g.2 ⟨hj,je⟩;have FK:∀k∈j::seen,k<now.length:=fun k hk=>by
   rcases a1Y.1 hk with rfl|hk
   .exact q2
   .exact aS k hk
  have hb:dD (fun _=>(zM J r:Int)) next+w*(zM J (c::r):Int)<=2000:=by
   have e1:=h2 fun _=>1;rw[Y1]at e1;have e2:=Vb (φ:=fun j=>(nowAt now j).2*xk J (fun _=>1) (c::r) (nowAt now j).1) Dv FK fun k hk=>by
    have:=h.i.pos _ (dZ (d:=(⟨⟨0,0,0⟩,0⟩:S3×Int)) hk);rw[Ed];exact agv (agq this) (Int.natCast_nonneg _)
   rw[I7,dS,q1]at e2;have e3:=MC hJ now h;rw[hr]at e3;rw[Y1]at e2;have e4:xk J (fun _=>1) (c::r) st=(zM J (c::r):Int):=Ed _ _;simp only[e4]at e2;omega
  obtain⟨next',e',s',g1,g2,g3,g4,g5⟩:=ako (n:=n) hJ (f:=f) t now seen (st:=st) (w:=w) (j:=j) hr (h.i.dp _ q3) (h.i.pos _ q3) h1 rO hb;refine aJ.step (by kernel_rfl) g4 ⟨g3,Dv,FK,next',g1,fun ψ=>?_,g5⟩;rw[g2,h2,dS,q1,agH]
end
open Go Tw Pv bW
abbrev akq(J:Jb)(a:Int)(x:List (Nat×PE aF)):List (Nat×PE aF):=[(1,.val (.kC 4)),(2,.loc 0 0),(4,.val (.map 5)),(21,xL 3 J.o),(22,xi J.o.length),(23,xi a)]++x
abbrev Vd(J:Jb)(f:Nat)(t:List (V×Int))(now:List (S3×Int))(a:Int)(x:List (Nat×PE aF)):aQ aF:=⟨akq J a x,[J.ps (.fn f [] [])],HN J f t now⟩
abbrev ntE:Nat:=BG Qp 136
abbrev ExE(n:Nat)(c:Code)(s:aQ aF)(e:Ex)(s':aQ aF):Prop:=dL X0 Qp T (bQ (n+1)) LL 136 false ntE 5 c s e s'
abbrev ExD(n:Nat)(c:Code)(s:aQ aF)(Q:Ex->aQ aF->Prop):Prop:=aJ X0 Qp T (bQ (n+1)) Ce LL 136 ntE 5 c s Q
section
variable {n:Nat} {J:Jb} (hJ:jP J) {f:Nat} (t:List (V×Int)) {now:List (S3×Int)} {a:Nat}
include hJ
set_option maxRecDepth 20000 in
theorem afy(h:y9 J a now)(aS:a<J.o.length):ExD n ZO (Vd J f t now a []) fun e s=>e=.norm∧∃Jq,y9 J (a+1) Jq∧kW 5 [.gc [6]] (gJ X0 (T.eP 136 (dR ZO)) s)=some (Vd J f t Jq ((a+1:Nat):Int) []):=by
 have hr:J.o.drop a=J.o.getD a 0::J.o.drop (a+1):=by
  rw[a4P aS];simp[List.getD,a0a aS]
 have QN:J.o.length<=6:=by rw[(jP.o2 hJ).2.1];exact hJ.eF.len
 have t1:decide ((a:Int)<(J.o.length:Int))=true:=aW aS;have e0:ZO=.seq (eG ZO) (.seq (.cond (.tmp 24) .skip (.exit 0)) (.seq (.block 1 bB1) (eH (eH (eH ZO))))):=by kernel_rfl
 have e1:bB1=.seq (eG bB1) (.seq (eG (eH bB1)) (.seq (.seq (eG (eG (eH (eH bB1)))) (.block 2 (.loop bIB))) (eH (eH (eH bB1))))):=by kernel_rfl
 have x3:ExE n (eG ZO) (Vd J f t now a []) .norm (Vd J f t now a [(24,.val (.bool (decide ((a:Int)<(J.o.length:Int)))))]):=zG hX fZ (by kernel_rfl) (.r rfl);have hc:zL (Vd J f t now a [(24,.val (.bool (decide ((a:Int)<(J.o.length:Int)))))]).env (.tmp 24)=some (.bool true):=by rw[<-t1];kernel_rfl
 have i1:gQ (a:Int) J.o.length:=aG aS;have x4:ExE n (eG bB1) (Vd J f t now a [(24,.val (.bool (decide ((a:Int)<(J.o.length:Int)))))]) .norm ⟨[(1,.val (.kC 4)),(2,.loc 0 0),(4,.val (.map 5)),(6,xi (J.o.getD a 0)),(21,xL 3 J.o),(22,xi J.o.length),(23,xi a)],[J.ps (.fn f [] [])],HN J f t now⟩:=zG hX fZ (by kernel_rfl) (.o i1 (.r rfl));have x5:ExE n (eG (eH bB1)) ⟨[(1,.val (.kC 4)),(2,.loc 0 0),(4,.val (.map 5)),(6,xi (J.o.getD a 0)),(21,xL 3 J.o),(22,xi J.o.length),(23,xi a)],[J.ps (.fn f [] [])],HN J f t now⟩ .norm ⟨[(1,.val (.kC 4)),(2,.loc 0 0),(4,.val (.map 5)),(6,xi (J.o.getD a 0)),(7,.val (.map 6)),(21,xL 3 J.o),(22,xi J.o.length),(23,xi a)],[J.ps (.fn f [] [])],HN J f t now++[.map []]⟩:=zG hX fZ (by kernel_rfl) (.r rfl);have x6:ExE n (eG (eG (eH (eH bB1)))) ⟨[(1,.val (.kC 4)),(2,.loc 0 0),(4,.val (.map 5)),(6,xi (J.o.getD a 0)),(7,.val (.map 6)),(21,xL 3 J.o),(22,xi J.o.length),(23,xi a)],[J.ps (.fn f [] [])],HN J f t now++[.map []]⟩ .norm ⟨a3x J (J.o.getD a 0) a,[J.ps (.fn f [] [])],HN J f t now++[.map (kS.im []),.cZ 5 (kS.im now).length []]⟩:=zG hX fZ (by kernel_rfl) (.r rfl);rw[kS.oN now]at x6;rw[e0];refine aJ.AV (by kernel_rfl) x3 (aJ.seq (R:=fun e s=>e=.norm∧s=Vd J f t now a [(24,.val (.bool (decide ((a:Int)<(J.o.length:Int)))))]) (aJ.cond (t:=true) hc (aJ.step (by kernel_rfl) (zG hX fZ (an:=.n) (by kernel_rfl) (.r rfl)) ⟨rfl,rfl⟩)) (fun s hs=>?_) (fun i s h=>by cases h.1) (fun s h=>by cases h.1));obtain⟨_,rfl⟩:=hs;refine aJ.seq (R:=fun e s=>e=.norm∧∃next seen,y9 J (a+1) next∧s=⟨[(1,.val (.kC 4)),(2,.loc 0 0),(4,.val (.map 6)),(21,xL 3 J.o),(22,xi J.o.length),(23,xi a)],[J.ps (.fn f [] [])],HI J f t now next seen⟩) ?_ (fun s hs=>?_) (fun i s h=>by cases h.1) (fun s h=>by cases h.1)
 .refine aJ.block ?_;rw[e1];refine(aJ.AV (by kernel_rfl) x4 (aJ.AV (by kernel_rfl) x5 (aJ.seq (R:=fun e s=>e=.norm∧∃next seen,NI J (a+1) next∧(∀ψ,dD (xk J ψ (J.o.drop (a+1))) next=dD (xk J ψ (J.o.getD a 0::J.o.drop (a+1))) now)∧s={ sH J f t now next (J.o.getD a 0) a seen with env:=iY (T.iw 136 7) ((31,.val (.bool false))::(30,.val (.dG [.bool false]))::a3x J (J.o.getD a 0) a) }) (Q:=fun e s=>e=.norm∧∃next seen,y9 J (a+1) next∧s=⟨[(1,.val (.kC 4)),(2,.loc 0 0),(4,.val (.map 6)),(21,xL 3 J.o),(22,xi J.o.length),(23,xi a)],[J.ps (.fn f [] [])],HI J f t now next seen⟩) (aJ.AV (by kernel_rfl) x6 (inLoop (n:=n) hJ t now hr h)) (fun s hs=>?_) (fun i s h=>by cases h.1) (fun s h=>by cases h.1)))).mono fun e s h=>?_
  .obtain⟨_,next,seen,g1,g2,rfl⟩:=hs;refine aJ.step (by kernel_rfl) (zG (ps1:=⟨[(1,.val (.kC 4)),(2,.loc 0 0),(4,.val (.map 6)),(21,xL 3 J.o),(22,xi J.o.length),(23,xi a)],[J.ps (.fn f [] [])],HI J f t now next seen⟩) hX fZ (an:=.n) (by kernel_rfl) (.r rfl)) ⟨rfl,next,seen,⟨g1,fun ψ=>?_⟩,rfl⟩;rw[g2,<-hr,h.s]
  obtain⟨rfl,h2⟩:=h;exact⟨rfl,h2⟩
 obtain⟨_,next,seen,g1,rfl⟩:=hs;refine aJ.step (by kernel_rfl) (zG (ps1:=⟨[(1,.val (.kC 4)),(2,.loc 0 0),(4,.val (.map 6)),(21,xL 3 J.o),(22,xi J.o.length),(23,xi (i64.wrap ((a:Int)+1)))],[J.ps (.fn f [] [])],HI J f t now next seen⟩) hX fZ (an:=.n) (by kernel_rfl) (.r rfl)) ⟨rfl,next,g1,?_⟩;rw[xU (by unfold ah;omega)]
 kernel_rfl
set_option maxRecDepth 20000 in
theorem a7K:ExD n ZO (Vd J f t now J.o.length []) fun e s=>e=.exit 0∧s=Vd J f t now J.o.length [(24,.val (.bool (decide ((J.o.length:Int)<(J.o.length:Int)))))]:=by
 have t1:decide ((J.o.length:Int)<(J.o.length:Int))=false:=eX _;have e0:ZO=.seq (eG ZO) (.seq (.cond (.tmp 24) .skip (.exit 0)) (.seq (.block 1 bB1) (eH (eH (eH ZO))))):=by kernel_rfl
 have x3:ExE n (eG ZO) (Vd J f t now J.o.length []) .norm (Vd J f t now J.o.length [(24,.val (.bool (decide ((J.o.length:Int)<(J.o.length:Int)))))]):=zG hX fZ (by kernel_rfl) (.r rfl);have hc:zL (Vd J f t now J.o.length [(24,.val (.bool (decide ((J.o.length:Int)<(J.o.length:Int)))))]).env (.tmp 24)=some (.bool false):=by rw[<-t1];kernel_rfl
 rw[e0];refine aJ.AV (by kernel_rfl) x3 (aJ.seq (R:=fun e s=>e=.exit 0∧s=Vd J f t now J.o.length [(24,.val (.bool (decide ((J.o.length:Int)<(J.o.length:Int)))))]) (aJ.cond (t:=false) hc (aJ.step (by kernel_rfl) (zG hX fZ (an:=.n) (by kernel_rfl) (.r rfl)) ⟨rfl,rfl⟩)) (fun s hs=>by cases hs.1) (fun i s h=>h) (fun s h=>by cases h.1))
set_option maxRecDepth 20000 in
theorem aaC(h:y9 J 0 now):ExD n (.block 0 (.loop ZO)) (Vd J f t now 0 []) fun e s=>e=.norm∧∃Jq,y9 J J.o.length Jq∧s=Vd J f t Jq J.o.length [(24,.val (.bool (decide ((J.o.length:Int)<(J.o.length:Int)))))]:=by
 have QN:J.o.length<=6:=by rw[(jP.o2 hJ).2.1];exact hJ.eF.len
 refine aJ.block ?_;refine aJ.loop (fun k s=>∃a Jq gs,a+k=J.o.length∧y9 J a Jq∧kW 5 gs (gJ X0 (T.eP 136 (dR ZO)) s)=some (Vd J f t Jq (a:Int) [])) (fun k s hi=>?_) (k:=J.o.length) ⟨0,now,[],by omega,h,by kernel_rfl⟩ (by unfold LL;omega);obtain⟨a,Jq,gs,hk,h1,h2⟩:=hi;refine aJ.ghost hX h2 ?_;rcases a4a a J.o.length with aS|Eu
 .refine(afy (n:=n) hJ t h1 aS).mono fun e s h3=>?_;obtain⟨rfl,apA,h4,h5⟩:=h3;exact⟨k-1,by omega,a+1,apA,_,by omega,h4,h5⟩
 have:a=J.o.length:=by omega
 subst this;refine(a7K (n:=n) hJ t).mono fun e s h3=>?_;obtain⟨rfl,rfl⟩:=h3;dsimp only;rw[a0h rfl];exact⟨rfl,Jq,h1,rfl⟩
end
open Go Tw Pv bW
def Y4(φ:V->Int)(l:List V):Int:=if mJ (l.drop 1)=true then φ (l.getD 0 V0)else 0
theorem afz(φ:V->Int)(l:List V)(w:Int)(t:List (V×Int)):dD φ (yT l w t)=dD φ t+w*Y4 φ l:=by
 unfold yT Y4;cases mJ (l.drop 1)
 .rw[a0g (by simp),a0g (by simp)];omega
 rw[a0h rfl,a0h rfl,zB]
abbrev sH2(J:Jb)(f:Nat)(t:List (V×Int))(now:List (S3×Int))(seen:List Nat):aQ aF:=⟨[(1,.val (.kC 4)),(2,.loc 0 0),(94,.val (.iter 6))],[J.ps (.fn f [] [])],Qw J f true none t++[.map (kS.im now),.cZ 5 now.length seen]⟩
structure ZP(t:List (V×Int)):Prop where
 nd:(t.map (·.1)).Nodup
 pos:∀e∈t,0<e.2
theorem ZP.y{t:List (V×Int)}(h:ZP t)(l:List V){w:Int}(hw:0<w):ZP (yT l w t):=by
 unfold yT;split
 .exact⟨FI h.nd _ _,P9 hw h.pos⟩
 exact h
section
variable {n:Nat} {J:Jb} (hJ:jP J) {f:Nat} {now:List (S3×Int)}
def apB(J:Jb)(f:Nat)(now:List (S3×Int))(seen:List Nat)(s:aQ aF):Prop:=
 seen.Nodup∧(∀j∈seen,j<now.length)∧∃t,ZP t∧(∀φ,dD φ t=dS (fun j=>(nowAt now j).2*Y4 φ (aU J.D (nowAt now j).1)) seen)∧gJ X0 (T.eP 136 (dR bL2)) s=sH2 J f t now seen
theorem akr(l:List V):0<=Y4 (fun _=>1) l∧Y4 (fun _=>1) l<=1:=by
 unfold Y4;split<;>simp
include hJ
theorem afA(h:y9 J J.o.length now){seen:List Nat}(je:seen.Nodup)(aS:∀j∈seen,j<now.length){t:List (V×Int)}(ht:ZP t)(hs:∀φ,dD φ t=dS (fun j=>(nowAt now j).2*Y4 φ (aU J.D (nowAt now j).1)) seen):Tal t:=by
 refine⟨ht.nd,ht.pos,fun e he=>?_⟩;have h1:=(I5 ht.pos).2 e he;have hp:∀j,j<now.length->0<(nowAt now j).2:=fun k hk=>h.i.pos _ (dZ (d:=(⟨⟨0,0,0⟩,0⟩:S3×Int)) hk);have h2:=Vb (φ:=fun j=>(nowAt now j).2*Y4 (fun _=>1) (aU J.D (nowAt now j).1)) je aS fun k hk=>agv (agq (hp k hk)) (akr _).1;have h3:dS (fun j=>(nowAt now j).2*Y4 (fun _=>1) (aU J.D (nowAt now j).1)) (List.range now.length)<=dS (fun j=>(nowAt now j).2*1) (List.range now.length):=by
  have:∀l:List Nat,(∀j∈l,j<now.length)->dS (fun j=>(nowAt now j).2*Y4 (fun _=>1) (aU J.D (nowAt now j).1)) l<=dS (fun j=>(nowAt now j).2*1) l:=by
   intro l
   induction l with
   |nil=>intro _;exact a9e _
   |cons j l ih=>
    intro hl;have:=ih fun k hk=>hl k (by simp[hk]);have:=a8A (akr (aU J.D (nowAt now j).1)).2 (agq (hp j (hl j (by simp))));simp only[dS];omega
  exact this _ fun j hj=>a4f.1 hj
 rw[I7 (φ:=fun _=>1)]at h3;have h4:=MC hJ now h;rw[List.drop_length]at h4;have h4:dD (fun _=>1) now<=2000:=h4;rw[<-hs]at h2;omega
set_option maxRecDepth 20000 in
theorem a3y(hO:Ok n qo)(h:y9 J J.o.length now)(hD:0<J.D.length):aJ X0 Qp T (bQ (n+1)) Ce LL 136 ntE 5 (.block 7 (.loop bL2)) (sH2 J f [] now [])
  fun e s=>e=.norm∧∃t seen,ZP t∧(∀φ,dD φ t=dD (fun st=>Y4 φ (aU J.D st)) now)∧s={ sH2 J f t now seen with env:=iY (T.iw 136 23) ((96,.val (.bool false))::(95,.val (.dG [.bool false]))::(sH2 J f t now seen).env) }:=by
 have e0:bL2=.seq (.region 23 (a7D (eG bL2)) false) (.seq (.cond (.tmp 96) .skip (.exit 7)) (.block 8 bX2)):=by kernel_rfl
 rw[e0];have hlen:=a1J hJ now h;refine V9 hX (n:=now.length) (b:=6) (r:=5) (it:=94) (nx:=95) (mo:=96) (es:=kS.im now) (fun seen s=>apB J f now seen s) (by kernel_rfl) (a8d (by kernel_rfl)) (a8d (by kernel_rfl)) (kS.oN now) (by unfold LL;omega)
  ⟨a7f,(fun j hj=>(by cases hj)),[],⟨a7f,(fun e he=>(by cases he))⟩,(fun φ=>rfl),(by kernel_rfl)⟩ (fun seen s hi=>?_)
 obtain⟨je,aS,t,h1,h2,h3⟩:=hi;rw[<-e0];refine⟨_,h3,by kernel_rfl,by kernel_rfl,by kernel_rfl,fun ho=>⟨by kernel_rfl,t,seen,h1,fun φ=>?_,rfl⟩,fun j e hj he=>⟨by kernel_rfl,?_⟩⟩
 .rw[h2,Pn je aS ho,I7 (φ:=fun st=>Y4 φ (aU J.D st))]
 .rw[kS.AQ,a09]at he;obtain⟨⟨st,w⟩,rO,rfl⟩:=he;obtain⟨q1,q2,q3⟩:=Y2 rO;have Dv:(j::seen).Nodup:=a4g.2 ⟨hj,je⟩;have FK:∀k∈j::seen,k<now.length:=fun k hk=>by
   rcases a1Y.1 hk with rfl|hk
   .exact q2
   .exact aS k hk
  have ho:=a1I rO;have pJ:(aU J.D st).length=J.D.length:=by simp[aU]
  have hw:=h.i.pos _ q3;have hc:=a1A (M:=n) (f:=f) J st hJ.d3 fun k hk=>(Jg hJ (h.i.dp _ q3) hk).2;have hd3:=hJ.d3;have hy:=apu (n:=n) hO J f (afA hJ h je aS h1 h2) (aU J.D st) (w:=w) (by omega) (by unfold ah;omega) ⟨hw,hlen.2 _ q3⟩;refine aJ.step (e:=.norm) (by kernel_rfl) (zG (ps1:=⟨[(1,.val (.kC 4)),(2,.loc 0 0),(94,.val (.iter 6)),(106,xl false)],[J.ps (.fn f [] []),st.ps],Qw J f true none (yT (aU J.D st) w t)++[.map (kS.im now),.cZ 5 now.length (j::seen)]⟩) hX fZ (by kernel_rfl) (.c (.dG [.agg st.ps,.int .i64 w]) [] ho (.fr [] hc (.fr [0,1,2,3,4] hy (.b (rfl:(!true)=false) (.r rfl)))))) ⟨.inl rfl,Dv,FK,yT (aU J.D st) w t,h1.y _ hw,fun φ=>?_,by kernel_rfl⟩;rw[afz,h2,dS,q1,agH]
def a7L(J:Jb)(t:List (V×Int)):Prop:=ZP t∧∀φ,dD φ t=dS (fun q=>Y4 φ (J.D.map fun d=>En d q)) (Qr J)
omit hJ in
theorem a3z(hJ:jP J):y9 J 0 [(fG J.D,1)]:=by
 refine⟨⟨by simp,fun e he=>?_,fun e he=>?_⟩,fun ψ=>?_⟩
 .rw[a2I.1 he];show(0:Int)<1;decide
 .rw[a2I.1 he];exact XT hJ
 simp[dD]
set_option maxRecDepth 20000 in
theorem aks(hO:Ok n qo)(hD:0<J.D.length):aax X0 Qp (uI Qp T (bQ (n+1)) LL) (.fn 136 [.agg (J.ps (.fn f [] []))] []) [.kC 4] (Qw J f true none []) fun v H1=>∃(t:List (V×Int)) (G:List (PB aF)),a7L J t∧H1=Qw J f true none t++G:=by
 refine a1G (t:=Tf Qp 136) hX (by kernel_rfl) ?_;have e0:(Tf Qp 136).body=.seq (eG Qv) (.seq (eG (eH Qv)) (.seq (.seq (eG (eG (eH (eH Qv)))) (.block 0 (.loop ZO))) (.seq (eG (eH (eH (eH Qv)))) (.block 7 (.loop bL2))))):=by kernel_rfl
 rw[e0];have hs:=ZI (M:=n) (f:=f) (a:=[]) (cc:=[]) (H:=[]) J hJ.d3;have hf:nD X0 Qp 148 (kS.es []) (kS.tv (fG J.D)):=kS.fresh (x:=fG J.D) (by simp);have x0:ExE n (eG Qv) ⟨kN X0 0 [.agg (J.ps (.fn f [] [])),.kC 4],[],Qw J f true none []⟩ .norm ⟨[(1,.val (.kC 4)),(2,.loc 0 0)],[J.ps (.fn f [] [])],Qw J f true none []⟩:=zG hX fZ (an:=.n) (by kernel_rfl) (.r rfl);have x1:ExE n (eG (eH Qv)) ⟨[(1,.val (.kC 4)),(2,.loc 0 0)],[J.ps (.fn f [] [])],Qw J f true none []⟩ .norm ⟨[(1,.val (.kC 4)),(2,.loc 0 0),(4,.val (.map 5))],[J.ps (.fn f [] [])],HN J f [] [(fG J.D,1)]⟩:=zG hX fZ (by kernel_rfl) (.fr [] hs (.q (.bool false) (kS.ck (fG J.D)) (.o hf (.r rfl))));have x2:ExE n (eG (eG (eH (eH Qv)))) ⟨[(1,.val (.kC 4)),(2,.loc 0 0),(4,.val (.map 5))],[J.ps (.fn f [] [])],HN J f [] [(fG J.D,1)]⟩ .norm (Vd J f [] [(fG J.D,1)] 0 []):=zG hX fZ (an:=.n) (by kernel_rfl) (.r rfl);refine aJ.AV (by kernel_rfl) x0 (aJ.AV (by kernel_rfl) x1 (aJ.seq (R:=fun e s=>e=.norm∧∃Jq,y9 J J.o.length Jq∧s=Vd J f [] Jq J.o.length [(24,.val (.bool (decide ((J.o.length:Int)<(J.o.length:Int)))))]) (aJ.AV (by kernel_rfl) x2 (aaC (n:=n) hJ [] (a3z hJ))) (fun s h=>?_) (fun i s h=>by cases h.1) (fun s h=>by cases h.1)));obtain⟨_,now,h1,rfl⟩:=h;have x3:ExE n (eG (eH (eH (eH Qv)))) (Vd J f [] now J.o.length [(24,.val (.bool (decide ((J.o.length:Int)<(J.o.length:Int)))))]) .norm ⟨[(1,.val (.kC 4)),(2,.loc 0 0),(94,.val (.iter 6))],[J.ps (.fn f [] [])],Qw J f true none []++[.map (kS.im now),.cZ 5 (kS.im now).length []]⟩:=zG hX fZ (an:=.n) (by kernel_rfl) (.r rfl);rw[kS.oN now]at x3;refine aJ.AV (by kernel_rfl) x3 ((a3y hJ hO h1 hD).mono fun e s h=>?_);obtain⟨rfl,t,seen,g1,g2,rfl⟩:=h;refine⟨.inl rfl,[],by kernel_rfl,t,[.map (kS.im now),.cZ 5 now.length seen],⟨g1,fun φ=>?_⟩,rfl⟩;rw[g2];have:=h1.s fun st=>Y4 φ (aU J.D st);rw[List.drop_length]at this;rw[<-aar hJ (Y4 φ)];exact this
end
open Go Tw Pv bW
def Ve(J:Jb):List (List V):=(Qr J).map fun q=>J.D.map fun d=>En d q
def fD(J:Jb):List V:=((Ve J).filter fun l=>mJ (l.drop 1)).map fun l=>l.getD 0 V0
abbrev Vf(e:V×Int):List Int:=Rh e.1.tv
def bK(J:Jb):List (V×Int):=yU Vf (yC (fD J))
theorem a1K(φ:V->Int):∀L:List (List V),dS (Y4 φ) L=dS φ ((L.filter fun l=>mJ (l.drop 1)).map fun l=>l.getD 0 V0)
 | []=>rfl
 |l::L=>by
  rw[dS,a1K φ L];unfold Y4;cases h:mJ (l.drop 1)
  .rw[a0g (by simp),adk (by rw[h];simp)];omega
  rw[a0h rfl,adn (by rw[h]),a3Z,dS]
theorem key_inj{l:List (V×Int)}(hn:(l.map (·.1)).Nodup):∀a∈l,∀b∈l,Vf a=Vf b->a=b:=fun a ha b hb h=>by
 have h1:a.1=b.1:=by
  have h:[a.1.f,a.1.n]=[b.1.f,b.1.n]:=h;simp only[afN,and_true]at h;obtain⟨⟨a1,a2⟩,_⟩:=a;obtain⟨⟨b1,b2⟩,_⟩:=b;simp only at h;rw[h.1,h.2]
 have h2:=AB hn ha;have h3:=AB hn hb;rw[h1,h3]at h2;exact adg h1 h2.symm
theorem a7M{J:Jb}{t:List (V×Int)}(h:a7L J t):t.Perm (yC (fD J)):=by
 obtain⟨f1,f2⟩:=AL (fD J);refine UW h.1.nd f1 h.1.pos f2 fun φ=>?_;rw[h.2,SQ];unfold fD;rw[<-a1K];unfold Ve;rw[zC]
theorem a7N{J:Jb}{t:List (V×Int)}(h:a7L J t):yU Vf t=bK J:=EO (a7M h) (key_inj h.1.nd)
abbrev aaD(e:V×Int):TV×TV:=(e.1.tv,.int .i64 e.2)
theorem Vg:∀t:List (V×Int),wM (kV.im t)=some (t.map aaD)
 | []=>rfl
 |e::t=>by
  have:=Vg t;show(match pz (kV.pv e.1),pz (PV.int .i64 e.2:PV aF),wM (kV.im t)with
   |some k,some v,some r=>some ((k,v)::r)
   |_,_,_=>none)=_
  rw[this];rfl
section
variable {n:Nat} {J:Jb} (hJ:jP J) {f:Nat}
include hJ
set_option maxRecDepth 20000 in
theorem Po(hO:Ok n qo)(hD:0<J.D.length):aX X0 Qp (bQ (n+2)) (.fn 87 [] []) [.agg (J.ps (.fn f [] []))] [] (.map 0) [.map (kV.im (bK J))]:=by
 refine a7A (X:=X0) (P:=Qp) (T:=T) (L:=LL) (n:=n+1) (f:=87) (first:=[]) (cap:=[]) (H:=[]) (t:=Tf Qp 87) (es0:=kV.im (bK J)) (a3u:=(bK J).map aaD) hX (by kernel_rfl) (by kernel_rfl) (by kernel_rfl) rfl (Vg _) ?_;have e0:(Tf Qp 87).body=.seq (eG Y0) (.seq (eG (eH Y0)) (.seq (.seq (eG (eG (eH (eH Y0)))) (.block 0 (.rangeFunc (.tmp 8) #[9,10] (wK Qp 87) (Au Qp 87)))) (.seq (eG (eH (eH (eH Y0)))) .ret))):=by kernel_rfl
 rw[e0];have x0:dL X0 Qp T (bQ (n+1)) LL 87 false (BG Qp 87) 0 (eG Y0) ⟨kN X0 0 [.agg (J.ps (.fn f [] []))],[],[]⟩ .norm ⟨[(1,.val (.ptr 0 0 5)),(2,.val (.nil .map))],[],[.cells (J.ps (.fn f [] []))]⟩:=zG hX fZ (an:=.n) (by kernel_rfl) (.r rfl);have x1:dL X0 Qp T (bQ (n+1)) LL 87 false (BG Qp 87) 0 (eG (eH Y0)) ⟨[(1,.val (.ptr 0 0 5)),(2,.val (.nil .map))],[],[.cells (J.ps (.fn f [] []))]⟩ .norm ⟨[(1,.val (.ptr 0 0 5)),(2,.val (.nil .map)),(3,.val (.ptr 2 0 1))],[],HQc J f []⟩:=zG hX fZ (an:=.n) (by kernel_rfl) (.r rfl);have x2:dL X0 Qp T (bQ (n+1)) LL 87 false (BG Qp 87) 0 (eG (eG (eH (eH Y0)))) ⟨[(1,.val (.ptr 0 0 5)),(2,.val (.nil .map)),(3,.val (.ptr 2 0 1))],[],HQc J f []⟩ .norm ⟨a7G J f,[],HQc J f []⟩:=zG hX fZ (an:=.n) (by kernel_rfl) (.r rfl);refine aJ.AV (by kernel_rfl) x0 (aJ.AV (by kernel_rfl) x1 (aJ.seq (R:=fun e s=>e=.norm∧∃(t:List (V×Int)) (G:List (PB aF)),a7L J t∧s=⟨a7G J f,[],Qw J f false (some .skip) t++G⟩) (aJ.AV (by kernel_rfl) x2 (aJ.block ?_)) (fun s h=>?_) (fun i s h=>by cases h.1) (fun s h=>by cases h.1)))
 .refine aJ.range (f1:=136) (a1:=[.agg (J.ps (.fn f [] []))]) (b1:=[]) (K:=fun v H1=>∃(t:List (V×Int)) (G:List (PB aF)),a7L J t∧H1=Qw J f true none t++G) hX rfl (by kernel_rfl) (by kernel_rfl) (aks hJ hO hD) (fun v H1 hk=>?_);obtain⟨t,G,h1,rfl⟩:=hk;exact⟨true,_,_,_,_,_,_,none,.norm,rfl,rfl,rfl,t,G,h1,rfl⟩
 obtain⟨_,t,G,h1,rfl⟩:=h;have x3:dL X0 Qp T (bQ (n+1)) LL 87 false (BG Qp 87) 0 (.seq (eG (eH (eH (eH Y0)))) .ret) ⟨a7G J f,[],Qw J f false (some .skip) t++G⟩ .ret ⟨[(2,.val (.map 1))],[],Qw J f false (some .skip) t++G⟩:=zG hX fZ (an:=.n) (by kernel_rfl) (.r rfl);refine aJ.step (by kernel_rfl) x3 ⟨.inr rfl,[.map 1],by kernel_rfl,1,kV.im t,t.map aaD,rfl,rfl,Vg t,?_⟩;unfold Rj;rw[SV (g:=aaD) (key:=Vf) (a7r:=fun e=>Rh e.1) (fun _=>rfl),a7N h1]
end
open Go Tw Pv bW
abbrev Pq(t:List (V×Int))(j:Nat):V×Int:=t.getD j (V0,0)
theorem Vh{t:List (V×Int)}{j:Nat}{e:V×Int}(h:t[j]? = some e):Pq t j=e∧j<t.length∧e∈t:=by
 obtain⟨h1,h2⟩:=a04.1 h;exact⟨by simp[Pq,List.getD,h],h1,h2▸a4w h1⟩
theorem afB(t:List (V×Int)):t=(List.range t.length).map fun j=>Pq t j:=
 (qY (d:=((V0,0):V×Int)) (by simp)).2 fun k hk=>by simp[List.getD,hk]
theorem Y5(t:List (V×Int)):dS (fun j=>(Pq t j).2) (List.range t.length)=dD (fun _=>1) t:=by
 have h1:dD (fun _=>1) t=dS (fun e:V×Int=>e.2) t:=by
  induction t with
  |nil=>rfl
  |cons e m ih=>simp only[dD,dS,ih,acX]
 rw[h1]
 conv=>rhs;rw[afB t]
 rw[zC]
theorem AX{t:List (V×Int)}{j:Nat}{v:V}{w:Int}(h:t[j]? = some (v,w)):(kV.im t).length=t.length∧(kV.im t)[j]? = some (.agg v.ps,.int .i64 w):=by
 refine⟨kV.oN t,?_⟩;rw[kV.AQ,h];rfl
structure Jr(t:List (V×Int)):Prop where
 pos:∀e∈t,0<e.2
 tot:dD (fun _=>1) t<=2000
theorem Jr.len{t:List (V×Int)}(h:Jr t):t.length<=2000:=by
 have h6:∀{m:List (V×Int)},(∀e∈m,0<e.2)->(m.length:Int)<=dD (fun _=>1) m:=by
  intro m
  induction m with
  |nil=>intro _;exact a9e _
  |cons e m ih=>
   intro hp;have:=ih fun e he=>hp e (by simp[he]);have:=hp e (by simp);simp only[dD,a3V,acX];omega
 have:=h6 h.pos;have:=h.tot;omega
abbrev a3A:Code:=(Tf Qp 90).body
abbrev lpA:Code:=eG (eG (eH (eG (eH a3A))))
abbrev xA:Code:=eG (eH (eH lpA))
abbrev sA(t:List (V×Int))(z:Int)(js:List Nat):aQ aF:=⟨[(2,xi z),(6,.val (.iter 1))],[],[.iD (kV.im t),.cZ 0 t.length js]⟩
section
variable {n:Nat} {t:List (V×Int)}
set_option maxRecDepth 20000 in
theorem apC(h:Jr t):aX X0 Qp (bQ (n+1)) (.fn 90 [] []) [.map 0] [.iD (kV.im t)] (.int .i64 (dD (fun _=>1) t)) [.iD (kV.im t)]:=by
 refine aay (X:=X0) (P:=Qp) (T:=T) (L:=LL) (n:=n) (f:=90) (first:=[]) (cap:=[]) (xs:=[.map 0]) (H:=[.iD (kV.im t)]) (v:=.int .i64 (dD (fun _=>1) t)) (t:=Tf Qp 90) (tv:=.int .i64 (dD (fun _=>1) t)) hX (by kernel_rfl) (by kernel_rfl) (by kernel_rfl) rfl rfl ?_;have e0:(Tf Qp 90).body=.seq (eG a3A) (.seq (.seq (eG (eG (eH a3A))) (.block 0 (.loop lpA))) (.seq (eG (eH (eH a3A))) .ret)):=by kernel_rfl
 have e1:lpA=.seq (.region 2 (a7D (eG lpA)) false) (.seq (.cond (.tmp 8) .skip (.exit 0)) (.block 1 xA)):=by kernel_rfl
 have x0:dL X0 Qp T (bQ n) LL 90 false (BG Qp 90) 1 (eG a3A) ⟨kN X0 0 [.map 0],[],[.iD (kV.im t)]⟩ .norm ⟨[(0,.val (.map 0)),(2,xi 0)],[],[.iD (kV.im t)]⟩:=zG hX fZ (an:=.n) (by kernel_rfl) (.r rfl);have x1:dL X0 Qp T (bQ n) LL 90 false (BG Qp 90) 1 (eG (eG (eH a3A))) ⟨[(0,.val (.map 0)),(2,xi 0)],[],[.iD (kV.im t)]⟩ .norm ⟨[(2,xi 0),(6,.val (.iter 1))],[],[.iD (kV.im t),.cZ 0 (kV.im t).length []]⟩:=zG hX fZ (an:=.n) (by kernel_rfl) (.r rfl);rw[kV.oN t]at x1;have hlen:=h.len;have hpj:∀j,j<t.length->0<(Pq t j).2:=fun k hk=>h.pos _ (dZ (d:=((V0,0):V×Int)) hk);rw[e0];refine aJ.AV (by kernel_rfl) x0 (aJ.seq (R:=fun e s=>e=.norm∧∃seen,s={ sA t (dD (fun _=>1) t) seen with env:=iY (T.iw 90 2) ((8,.val (.bool false))::(7,.val (.dG [.bool false]))::(sA t (dD (fun _=>1) t) seen).env) }) (aJ.AV (by kernel_rfl) x1 ?_) (fun s hs=>?_) (fun i s h=>by cases h.1) (fun s h=>by cases h.1))
 .rw[e1];refine V9 hX (n:=t.length) (b:=1) (r:=0) (it:=6) (nx:=7) (mo:=8) (es:=kV.im t) (fun seen s=>seen.Nodup∧(∀j∈seen,j<t.length)∧gJ X0 (T.eP 90 (dR lpA)) s=sA t (dS (fun j=>(Pq t j).2) seen) seen) (by kernel_rfl) (a8d (by kernel_rfl)) (a8d (by kernel_rfl)) (kV.oN t) (by unfold LL;omega)
   ⟨a7f,(fun j hj=>(by cases hj)),(by kernel_rfl)⟩ (fun seen s hi=>?_)
  obtain⟨je,aS,h3⟩:=hi;rw[<-e1];refine⟨_,h3,by kernel_rfl,by kernel_rfl,by kernel_rfl,fun ho=>⟨by kernel_rfl,seen,?_⟩,fun j e hj he=>⟨by kernel_rfl,?_⟩⟩
  .rw[Pn je aS ho,Y5]
  rw[kV.AQ,a09]at he;obtain⟨⟨v,w⟩,rO,rfl⟩:=he;obtain⟨q1,q2,q3⟩:=Vh rO;have Dv:(j::seen).Nodup:=a4g.2 ⟨hj,je⟩;have FK:∀k∈j::seen,k<t.length:=fun k hk=>by
   rcases a1Y.1 hk with rfl|hk
   .exact q2
   exact aS k hk
  have hb:=Vb (φ:=fun j=>(Pq t j).2) Dv FK fun k hk=>agq (hpj k hk);have zJ:=Va (φ:=fun j=>(Pq t j).2) (l:=seen) fun k hk=>agq (hpj k (aS k hk));rw[Y5,dS,q1]at hb;have ht:=h.tot;have hw:=h.pos _ q3;have Yf:i64.wrap (dS (fun j=>(Pq t j).2) seen+w)=dS (fun j=>(Pq t j).2) (j::seen):=by
   rw[fH (by have:(0:Int)<w:=hw;omega) (by have:w+dS (fun j=>(Pq t j).2) seen<=dD (fun _=>1) t:=hb;omega),dS,q1,agH]
  refine aJ.step (e:=.norm) (by kernel_rfl) (zG (ps1:=⟨[(2,xi (i64.wrap (dS (fun j=>(Pq t j).2) seen+w))),(6,.val (.iter 1))],[],[.iD (kV.im t),.cZ 0 t.length (j::seen)]⟩) hX fZ (by kernel_rfl) (.c (.dG [.agg v.ps,.int .i64 w]) [] (AX rO) (.r rfl))) ⟨.inl rfl,Dv,FK,?_⟩;rw[Yf]
  kernel_rfl
 obtain⟨_,seen,rfl⟩:=hs;exact aJ.step (by kernel_rfl) (zG (e:=.ret) (ps1:=⟨[(2,xi (dD (fun _=>1) t))],[],[.iD (kV.im t),.cZ 0 t.length seen]⟩) hX fZ (an:=.n) (by kernel_rfl) (.r rfl)) ⟨.inr rfl,[.int .i64 (dD (fun _=>1) t)],by kernel_rfl,rfl⟩
end
open Go Tw Pv bW
abbrev ZQ:Code:=(Tf Qp 88).body
abbrev lpB:Code:=eG (eG (eH (eG (eH ZQ))))
abbrev xB:Code:=eG (eH (eH lpB))
def Dw(t:List (V×Int))(js:List Nat):List Int:=(js.reverse.filter fun j=>!decide ((Pq t j).1.f>0)).map fun j=>(Pq t j).1.n
def fOf(t:List (V×Int))(js:List Nat):Bool:=js.any fun j=>decide ((Pq t j).1.f>0)
theorem a3B(t:List (V×Int))(j:Nat)(js:List Nat):Dw t (j::js)=Dw t js++(if decide ((Pq t j).1.f>0)=true then []else [(Pq t j).1.n]):=by
 unfold Dw;rw[List.reverse_cons,List.filter_append,a3Y];congr 1;cases h:decide ((Pq t j).1.f>0)
 .rw[adn (by rw[h];rfl),a0g (by simp)];rfl
 rw[adk (by rw[h];simp),a0h rfl];rfl
def jZ(t:List (V×Int)):List Int:=fU ((t.filter fun e=>!decide (e.1.f>0)).map fun e=>e.1.n)
def rH(t:List (V×Int)):Bool:=t.any fun e=>decide (e.1.f>0)
theorem ZR{l l':List Int}(h:l.Perm l'):fU l=fU l':=by
 unfold fU;have hs:∀l:List Int,(l.mergeSort fun x y=>decide (x<=y)).Pairwise fun a b=>decide (a<=b)=true:=fun l=>
  agw (fun a b c h1 h2=>by simp at *;omega) (fun a b=>by simp;omega) l
 exact List.Perm.eq_of_pairwise (le:=fun a b=>decide (a<=b)=true) (fun a b _ _ h1 h2=>by simp at h1 h2;omega) (hs l) (hs l') ((adh l _).trans (h.trans (adh l' _).symm))
theorem afD{t:List (V×Int)}{js:List Nat}(hn:js.Nodup)(hl:∀j∈js,j<t.length)(ha:∀j,j<t.length->j∈js):fU (Dw t js)=jZ t∧fOf t js=rH t:=by
 have hp:(js.reverse).Perm (List.range t.length):=(List.reverse_perm js).trans ((a8c hn aeP).2 fun j=>⟨fun h=>a4f.2 (hl j h),fun h=>ha j (a4f.1 h)⟩);constructor
 .refine ZR ?_;unfold Dw;have e:((t.filter fun e=>!decide (e.1.f>0)).map fun e=>e.1.n)=((List.range t.length).filter fun j=>!decide ((Pq t j).1.f>0)).map fun j=>(Pq t j).1.n:=by
   conv=>lhs;rw[afB t]
   rw[List.filter_map,a7U];rfl
  rw[e];exact(hp.filter _).map _
 unfold fOf rH;rw[a4u,ad8,ad8];constructor
 .rintro⟨j,hj,h⟩;exact⟨Pq t j,dZ (d:=((V0,0):V×Int)) (hl j hj),h⟩
 rintro⟨e,he,h⟩;obtain⟨j,hj,rfl⟩:=a4E.1 he;exact⟨j,ha j hj,by rw[(Vh (a0a hj)).1];exact h⟩
abbrev sBl(t:List (V×Int))(l:List Int)(b:Bool)(js:List Nat):aQ aF:=match l with
 | []=>⟨[(2,.val (.nil .slc)),(3,xl b),(6,.val (.iter 1))],[],[.iD (kV.im t),.cZ 0 t.length js]⟩
 |x::l=>⟨[(2,.val (.own 2)),(3,xl b),(6,.val (.iter 1))],[],[.iD (kV.im t),.cZ 0 t.length js,.list false false 3 (x::l)]⟩
theorem afE{n:Nat}:aX X0 Qp (bQ (n+1)) (.fn 137 [] []) [.nil .slc] [] (.dG []) []:=by
 intro A m h tf rP hr hf hx;obtain⟨x,r,rfl,h1,h2⟩:=hx.inv;have:=h2.inv0;subst this;have htf:=hf.Uz;subst htf;have hx:x=.nil .slc:=jG h1 rfl;subst hx;exact⟨.dG [],h,[],m,rfl,hr,.dG rfl (fun i x y hx=>by simp at hx),.refl,.refl,fun b hb=>by cases hb⟩
section
variable {n:Nat} {t:List (V×Int)}
set_option maxRecDepth 20000 in
theorem aaE(h:Jr t):aJ X0 Qp T (bQ (n+1)) (uI Qp T (bQ (n+1)) LL) LL 88 (BG Qp 88) 1 (.block 0 (.loop lpB)) (sBl t [] false [])
  fun e s=>e=.norm∧∃l seen,fU l=jZ t∧s={ sBl t l (rH t) seen with env:=iY (T.iw 88 2) ((8,.val (.bool false))::(7,.val (.dG [.bool false]))::(sBl t l (rH t) seen).env) }:=by
 have e1:lpB=.seq (.region 2 (a7D (eG lpB)) false) (.seq (.cond (.tmp 8) .skip (.exit 0)) (.block 1 xB)):=by kernel_rfl
 have hlen:=h.len;rw[e1];refine Pm hX (n:=t.length) (b:=1) (r:=0) (it:=6) (nx:=7) (mo:=8) (es:=kV.im t) (fun seen s=>seen.Nodup∧(∀j∈seen,j<t.length)∧∃gs,kW 1 gs (gJ X0 (T.eP 88 (dR lpB)) s)=some (sBl t (Dw t seen) (fOf t seen) seen)) (by kernel_rfl) (a8d (by kernel_rfl)) (a8d (by kernel_rfl)) (kV.oN t) (by unfold LL;omega)
  ⟨a7f,(fun j hj=>(by cases hj)),[],(by kernel_rfl)⟩ (fun seen s hi=>?_)
 obtain⟨je,aS,gs,h3⟩:=hi;rw[<-e1];refine⟨gs,_,h3,?_,?_,?_,fun ho=>?_,fun j e hj he=>?_⟩
 .cases Dw t seen<;>kernel_rfl
 .cases Dw t seen<;>kernel_rfl
 .cases Dw t seen<;>kernel_rfl
 .obtain⟨a1,a2⟩:=afD je aS ho;refine⟨?_,Dw t seen,seen,a1,?_⟩
  .cases Dw t seen<;>kernel_rfl
  .rw[a2]
 .rw[kV.AQ,a09]at he;obtain⟨⟨v,w⟩,rO,rfl⟩:=he;obtain⟨q1,q2,q3⟩:=Vh rO;have Dv:(j::seen).Nodup:=a4g.2 ⟨hj,je⟩;have FK:∀k∈j::seen,k<t.length:=fun k hk=>by
   rcases a1Y.1 hk with rfl|hk
   .exact q2
   .exact aS k hk
  have hll:(Dw t seen).length<=2000:=by
   have h1:(Dw t seen).length<=seen.length:=by
    unfold Dw;rw[a4e];exact a4A (a8H ..) (by simp)
   have h2:seen.length<=t.length:=by
    have:=(Jp je aS).length_eq;have h3:=a8H (fun j=>seen.contains j) (List.range t.length);rw[a8C]at h3;omega
   omega
  have DC:=a3B t j seen;have hf2:fOf t (j::seen)=(decide (v.f>0)||fOf t seen):=by unfold fOf;rw[ado,q1]
  rw[q1]at DC;generalize fOf t seen=b at hf2;have DC:Dw t (j::seen)=Dw t seen++(if decide (v.f>0)=true then []else [v.n]):=DC;generalize Dw t seen=l at DC hll;cases hv:decide (v.f>0)
  .rw[hv,a0g (by simp)]at DC;rw[hv,aeQ]at hf2;have hv1:decide (v.f>0)=false:=hv;cases l with
   |nil=>
    have a1:[v.n].length<=ah:=by rw[a3s];unfold ah;omega
    refine⟨by kernel_rfl,aJ.step (e:=.norm) (by kernel_rfl) (zG (ps1:=⟨[(2,.val (.own 3)),(3,xl b),(6,.val (.iter 1))],[v.ps],[.iD (kV.im t),.cZ 0 t.length (j::seen),.list true true 3 [v.n],.list true false 3 [v.n]]⟩) hX fZ (by kernel_rfl) (.c (.dG [.agg v.ps,.int .i64 w]) [] (AX rO) (.b hv1 (.o a1 (.r rfl))))) ⟨.inl rfl,Dv,FK,[.flag 3,.gc [1,3]],?_⟩⟩;rw[DC,hf2]
    kernel_rfl
   |cons x l=>
    have a1:(x::l).length+[v.n].length<=ah:=by rw[a3s];unfold ah;omega
    refine⟨by kernel_rfl,aJ.step (e:=.norm) (by kernel_rfl) (zG (ps1:=⟨[(2,.val (.own 4)),(3,xl b),(6,.val (.iter 1))],[v.ps],[.iD (kV.im t),.cZ 0 t.length (j::seen),.gone,.list true true 3 [v.n],.list false false 3 (x::l++[v.n])]⟩) hX fZ (by kernel_rfl) (.c (.dG [.agg v.ps,.int .i64 w]) [] (AX rO) (.b hv1 (.o a1 (.r rfl))))) ⟨.inl rfl,Dv,FK,[.gc [1,4]],?_⟩⟩;rw[DC,hf2]
    kernel_rfl
  .rw[hv,a0h rfl,a6S]at DC;rw[hv,Bool.true_or]at hf2;have hv1:decide (v.f>0)=true:=hv;cases l with
   |nil=>
    refine⟨by kernel_rfl,aJ.step (e:=.exit 1) (by kernel_rfl) (zG (ps1:=⟨[(2,.val (.nil .slc)),(3,xl true),(6,.val (.iter 1))],[v.ps],[.iD (kV.im t),.cZ 0 t.length (j::seen)]⟩) hX fZ (by kernel_rfl) (.c (.dG [.agg v.ps,.int .i64 w]) [] (AX rO) (.b hv1 (.r rfl)))) ⟨.inr rfl,Dv,FK,[],?_⟩⟩;rw[DC,hf2]
    kernel_rfl
   |cons x l=>
    refine⟨by kernel_rfl,aJ.step (e:=.exit 1) (by kernel_rfl) (zG (ps1:=⟨[(2,.val (.own 2)),(3,xl true),(6,.val (.iter 1))],[v.ps],[.iD (kV.im t),.cZ 0 t.length (j::seen),.list false false 3 (x::l)]⟩) hX fZ (by kernel_rfl) (.c (.dG [.agg v.ps,.int .i64 w]) [] (AX rO) (.b hv1 (.r rfl)))) ⟨.inr rfl,Dv,FK,[],?_⟩⟩;rw[DC,hf2]
    kernel_rfl
theorem Ee:∀l:List Int,iI (Em X0 3 l)=some (l.map fun n=>TV.int .i64 n)
 | []=>rfl
 |a::l=>by
  have:=Ee l;show(match qJ (PV.int .i64 a:PV aF),iI (Em X0 3 l)with
   |some a,some b=>some (a::b)
   |_,_=>none)=_
  rw[this];rfl
theorem a3C{lZ:Bool}{b:Bool}{Hs:List (PB aF)}:a3t X0 Qp lZ (.dG [.nil .slc,.bool b]) Hs (fun _=>.dG [.nil .slc,.bool b]) []:=fun A m h h1 w hr hw _=>by
 cases hw with
 |gone hi _ _=>simp[bg]at hi
 |dG a1 a2=>
  obtain⟨x,r,rfl,v0,v1⟩:=Pv.bV.inv (⟨a1,a2⟩:Pv.bV X0 Qp _ _ _ _ _);obtain⟨y,r,rfl,v2,v3⟩:=v1.inv;have:=v3.inv0;subst this;have:=jG v2 (show pz (PV.bool b:PV aF)=some (TV.bool b)from rfl);subst this;have:=jG v0 (show pz (PV.nil .slc:PV aF)=some (TV.nil .slc)from rfl);subst this;unfold NG;simp only[Bv,Bv.ED,vX,mX,mX.yS,Ci,U7,KH,a3Z,abE,a6S,a0T]
set_option maxRecDepth 20000 in
theorem ad9(h:Jr t):(jZ t=[]->aX X0 Qp (bQ (n+2)) (.fn 88 [] []) [.map 0] [.iD (kV.im t)] (.dG [.nil .slc,.bool (rH t)]) [.iD (kV.im t)]) ∧
  (jZ t≠[]->aX X0 Qp (bQ (n+2)) (.fn 88 [] []) [.map 0] [.iD (kV.im t)] (.dG [.own 1,.bool (rH t)]) [.iD (kV.im t),.list false false 3 (jZ t)]):=by
 have e0:(Tf Qp 88).body=.seq (eG ZQ) (.seq (.seq (eG (eG (eH ZQ))) (.block 0 (.loop lpB))) (eH (eH ZQ))):=by kernel_rfl
 have x0:dL X0 Qp T (bQ (n+1)) LL 88 false (BG Qp 88) 1 (eG ZQ) ⟨kN X0 0 [.map 0],[],[.iD (kV.im t)]⟩ .norm ⟨[(0,.val (.map 0)),(2,.val (.nil .slc)),(3,xl false)],[],[.iD (kV.im t)]⟩:=zG hX fZ (an:=.n) (by kernel_rfl) (.r rfl);have x1:dL X0 Qp T (bQ (n+1)) LL 88 false (BG Qp 88) 1 (eG (eG (eH ZQ))) ⟨[(0,.val (.map 0)),(2,.val (.nil .slc)),(3,xl false)],[],[.iD (kV.im t)]⟩ .norm ⟨[(2,.val (.nil .slc)),(3,xl false),(6,.val (.iter 1))],[],[.iD (kV.im t),.cZ 0 (kV.im t).length []]⟩:=zG hX fZ (an:=.n) (by kernel_rfl) (.r rfl);rw[kV.oN t]at x1;have run:∀Q:Ex->aQ aF->Prop,(∀l seen,fU l=jZ t->aJ X0 Qp T (bQ (n+1)) (uI Qp T (bQ (n+1)) LL) LL 88 (BG Qp 88) 1 (eH (eH ZQ)) { sBl t l (rH t) seen with env:=iY (T.iw 88 2) ((8,.val (.bool false))::(7,.val (.dG [.bool false]))::(sBl t l (rH t) seen).env) } Q) ->
   aJ X0 Qp T (bQ (n+1)) (uI Qp T (bQ (n+1)) LL) LL 88 (BG Qp 88) 1 (Tf Qp 88).body ⟨kN X0 0 [.map 0],[],[.iD (kV.im t)]⟩ Q:=fun Q hQ=>by
  rw[e0];refine aJ.AV (by kernel_rfl) x0 (aJ.seq (R:=fun e s=>e=.norm∧∃l seen,fU l=jZ t∧s={ sBl t l (rH t) seen with env:=iY (T.iw 88 2) ((8,.val (.bool false))::(7,.val (.dG [.bool false]))::(sBl t l (rH t) seen).env) }) (aJ.AV (by kernel_rfl) x1 (aaE (n:=n) h)) (fun s hs=>?_) (fun i s h=>by cases h.1) (fun s h=>by cases h.1));obtain⟨_,l,seen,h1,rfl⟩:=hs;exact hQ l seen h1
 have hlen:∀l:List Int,fU l=jZ t->l.length<=2^20:=fun l hl=>by
  have h1:(fU l).length=l.length:=by unfold fU;rw[abj]
  have h2:(jZ t).length<=t.length:=by
   unfold jZ fU;rw[abj,a4e];exact a8H ..
  have:=h.len;rw[hl]at h1;omega
 have apE:fU []=([]:List Int):=by simp[fU]
 constructor
 .intro hn;have:=Du (X:=X0) (P:=Qp) (T:=T) (L:=LL) (n:=n+1) (f:=88) (first:=[]) (cap:=[]) (xs:=[.map 0]) (H:=[.iD (kV.im t)]) (N:=[]) (v:=.dG [.nil .slc,.bool (rH t)]) (tv:=fun _=>.dG [.nil .slc,.bool (rH t)]) (tN:=[]) (t:=Tf Qp 88) hX (by kernel_rfl) (by kernel_rfl) (by kernel_rfl) rfl (fun A m h hr=>⟨m,by simpa using hr,Pv.bV.cons (.nil .slc) (.cons (.bool _) .nil) |> fun h=>.dG h.1 h.2,by simpa using Fr.refl,.refl⟩) (run _ fun l seen hl=>?_)
  .exact this
  .rw[hn]at hl;have qy:l=[]:=by
    have h1:(fU l).length=l.length:=by unfold fU;rw[abj]
    rw[hl]at h1;exact a3W h1.symm
   subst qy;exact aJ.step (by kernel_rfl) (zG (e:=.ret) (ps1:=⟨[(2,.val (.nil .slc)),(3,xl (rH t))],[],[.iD (kV.im t),.cZ 0 t.length seen]⟩) hX fZ (by kernel_rfl) (.fr [] (afE (n:=n)) (.r rfl))) ⟨.inr rfl,[.nil .slc,.bool (rH t)],by kernel_rfl,a3C⟩
 .intro hn;have:=Du (X:=X0) (P:=Qp) (T:=T) (L:=LL) (n:=n+1) (f:=88) (first:=[]) (cap:=[]) (xs:=[.map 0]) (H:=[.iD (kV.im t)]) (N:=[.list false false 3 (jZ t)]) (v:=.dG [.own 1,.bool (rH t)]) (tv:=fun n=>.dG [.slc n 0 (jZ t).length (jZ t).length 1 false,.bool (rH t)]) (tN:=[.cells .last ((jZ t).map fun n=>TV.int .i64 n)]) (t:=Tf Qp 88) hX (by kernel_rfl) (by kernel_rfl) (by kernel_rfl) rfl (fun A m h hr=>aaA hX (H:=[.iD (kV.im t)]) (ty:=3) (l:=jZ t) hn (Ee _) Kq (by decide) (fun _ _ _=>rfl) rfl hr) (run _ fun l seen hl=>?_)
  .exact this
  .cases l with
   |nil=>rw[apE]at hl;exact absurd hl.symm hn
   |cons x l=>
    have hs:=acy (n:=n) (k:=false) (ex:=false) (x::l) (hlen _ hl);rw[hl]at hs;exact aJ.step (by kernel_rfl) (zG (e:=.ret) (ps1:=⟨[(2,.val (.own 2)),(3,xl (rH t))],[],[.iD (kV.im t),.cZ 0 t.length seen,.list false false 3 (jZ t)]⟩) hX fZ (by kernel_rfl) (.fr [2] hs (.r rfl))) ⟨.inr rfl,[.own 2,.bool (rH t)],by kernel_rfl,a7C hX (i:=2) (ty:=3) (l:=jZ t) rfl hn (Ee _) Kq rfl⟩
end
open Go Tw Pv bW
abbrev vF:PV aF:=.fn 139 [] [.ptr 1 0 1]
abbrev a7O:Code:=(Tf Qp 138).body
abbrev afF:Code:=(Tf Qp 139).body
abbrev lpW:Code:=eG (eG (eH afF))
abbrev xW:Code:=eG (eH (eH lpW))
abbrev a7P:List (Nat×PE aF):=[(2,.val (.ptr 2 0 1)),(4,.val (.nil .slc)),(6,.val vF)]
abbrev Px(rd:Bool)(jC:Option Code):PB aF:=.loop rd 138 (BG Qp 138) a7P [7] (wK Qp 138) (Au Qp 138) jC
abbrev H3(t:List (V×Int))(x:PV aF):List (PB aF):=[.iD (kV.im t),.aC [.map 0],.cells [x]]
theorem one_le(w:Int):[w].length<=ah:=by rw[a3s];unfold ah;omega
theorem apF{n:Nat}(t:List (V×Int))(w:Int):aX X0 Qp (bQ (n+1)) (.kC 4) [.int .i64 w] (H3 t (.nil .slc)++[.mark,Px true none]) (.bool true) (H3 t (.own 6)++[.mark,Px true none,.list true true 3 [w],.list true false 3 [w]]):=by
 have q1:dL X0 Qp T (bQ n) LL 138 true (BG Qp 138) 5 (wK Qp 138) ⟨tV a7P [7] [.int .i64 w],[],H3 t (.nil .slc)++[.mark,Px true none]⟩ .norm ⟨[(2,.val (.ptr 2 0 1)),(5,xi w)],[],H3 t (.nil .slc)++[.mark,Px true none]⟩:=xX hX fZ (by kernel_rfl) .xx;have q2:dL X0 Qp T (bQ n) LL 138 true (BG Qp 138) 5 (Au Qp 138) ⟨[(2,.val (.ptr 2 0 1)),(5,xi w)],[],H3 t (.nil .slc)++[.mark,Px false none]⟩ .norm ⟨[],[],H3 t (.own 6)++[.mark,Px false none,.list true true 3 [w],.list true false 3 [w]]⟩:=xX hX fZ (by kernel_rfl) (.o (one_le w) .xx);exact GZ hX (l:=4) rfl rfl (by kernel_rfl) q1 rfl q2 rfl
theorem apG{n:Nat}(t:List (V×Int))(l:List Int)(w:Int)(hl:l.length+[w].length<=ah):aX X0 Qp (bQ (n+1)) (.kC 4) [.int .i64 w] (H3 t (.own 5)++[.mark,Px true none,.list false false 3 l]) (.bool true) (H3 t (.own 7)++[.mark,Px true none,.gone,.list true true 3 [w],.list false false 3 (l++[w])]):=by
 have q1:dL X0 Qp T (bQ n) LL 138 true (BG Qp 138) 6 (wK Qp 138) ⟨tV a7P [7] [.int .i64 w],[],H3 t (.own 5)++[.mark,Px true none,.list false false 3 l]⟩ .norm ⟨[(2,.val (.ptr 2 0 1)),(5,xi w)],[],H3 t (.own 5)++[.mark,Px true none,.list false false 3 l]⟩:=xX hX fZ (by kernel_rfl) .xx;have q2:dL X0 Qp T (bQ n) LL 138 true (BG Qp 138) 6 (Au Qp 138) ⟨[(2,.val (.ptr 2 0 1)),(5,xi w)],[],H3 t (.own 5)++[.mark,Px false none,.list false false 3 l]⟩ .norm ⟨[],[],H3 t (.own 7)++[.mark,Px false none,.gone,.list true true 3 [w],.list false false 3 (l++[w])]⟩:=xX hX fZ (by kernel_rfl) (.o hl .xx);exact GZ hX (l:=4) rfl rfl (by kernel_rfl) q1 rfl q2 rfl
def Eo(t:List (V×Int))(js:List Nat):List Int:=js.reverse.map fun j=>(Pq t j).2
theorem a3D(t:List (V×Int))(j:Nat)(js:List Nat):Eo t (j::js)=Eo t js++[(Pq t j).2]:=by simp[Eo]
abbrev sWl(t:List (V×Int))(l:List Int)(js:List Nat):aQ aF:=match l with
 | []=>⟨[(0,.val (.kC 4)),(6,.val (.iter 5))],[],H3 t (.nil .slc)++[.mark,Px true none,.cZ 0 t.length js]⟩
 |x::l=>⟨[(0,.val (.kC 4)),(6,.val (.iter 5))],[],H3 t (.own 6)++[.mark,Px true none,.cZ 0 t.length js,.list false false 3 (x::l)]⟩
section
variable {n:Nat} {t:List (V×Int)}
set_option maxRecDepth 20000 in
theorem aaF(h:Jr t):aJ X0 Qp T (bQ (n+1)) Ce LL 139 (BG Qp 139) 5 (.block 0 (.loop lpW)) (sWl t [] [])
  fun e s=>e=.norm∧∃l seen,l.Perm (t.map (·.2))∧s={ sWl t l seen with env:=iY (T.iw 139 1) ((8,.val (.bool false))::(7,.val (.dG [.bool false]))::(sWl t l seen).env) }:=by
 have e1:lpW=.seq (.region 1 (a7D (eG lpW)) false) (.seq (.cond (.tmp 8) .skip (.exit 0)) (.block 1 xW)):=by kernel_rfl
 have hlen:=h.len;rw[e1];refine Pm hX (n:=t.length) (b:=5) (r:=0) (it:=6) (nx:=7) (mo:=8) (es:=kV.im t) (fun seen s=>seen.Nodup∧(∀j∈seen,j<t.length)∧∃gs,kW 5 gs (gJ X0 (T.eP 139 (dR lpW)) s)=some (sWl t (Eo t seen) seen)) (by kernel_rfl) (a8d (by kernel_rfl)) (a8d (by kernel_rfl)) (kV.oN t) (by unfold LL;omega)
  ⟨a7f,(fun j hj=>(by cases hj)),[],(by kernel_rfl)⟩ (fun seen s hi=>?_)
 obtain⟨je,aS,gs,h3⟩:=hi;rw[<-e1];refine⟨gs,_,h3,?_,?_,?_,fun ho=>?_,fun j e hj he=>?_⟩
 .cases Eo t seen<;>kernel_rfl
 .cases Eo t seen<;>kernel_rfl
 .cases Eo t seen<;>kernel_rfl
 .refine⟨?_,Eo t seen,seen,?_,rfl⟩
  .cases Eo t seen<;>kernel_rfl
  .have hp:(seen.reverse).Perm (List.range t.length):=(List.reverse_perm seen).trans ((a8c je aeP).2 fun j=>⟨fun h=>a4f.2 (aS j h),fun h=>ho j (a4f.1 h)⟩);unfold Eo
   conv=>rhs;rw[afB t]
   rw[a7U];exact hp.map _
 .rw[kV.AQ,a09]at he;obtain⟨⟨v,w⟩,rO,rfl⟩:=he;obtain⟨q1,q2,q3⟩:=Vh rO;have Dv:(j::seen).Nodup:=a4g.2 ⟨hj,je⟩;have FK:∀k∈j::seen,k<t.length:=fun k hk=>by
   rcases a1Y.1 hk with rfl|hk
   .exact q2
   .exact aS k hk
  have hll:(Eo t seen).length<=2000:=by
   have h2:seen.length<=t.length:=by
    have:=(Jp je aS).length_eq;have h3:=a8H (fun j=>seen.contains j) (List.range t.length);rw[a8C]at h3;omega
   have h1:(Eo t seen).length=seen.length:=(by simp[Eo]);omega
  have DC:=a3D t j seen;rw[q1]at DC;have DC:Eo t (j::seen)=Eo t seen++[w]:=DC;generalize Eo t seen=l at DC hll;cases l with
  |nil=>
   refine⟨by kernel_rfl,aJ.step (e:=.norm) (by kernel_rfl) (zG (ps1:=⟨[(0,.val (.kC 4)),(6,.val (.iter 5)),(14,xl false)],[],H3 t (.own 7)++[.mark,Px true none,.cZ 0 t.length (j::seen),.list true true 3 [w],.list true false 3 [w]]⟩) hX fZ (by kernel_rfl) (.c (.dG [.agg v.ps,.int .i64 w]) [] (AX rO) (.fr [0,1,2,3,4] (apF (n:=n) t w) (.b (rfl:(!true)=false) (.r rfl))))) ⟨.inl rfl,Dv,FK,[.flag 7,.gc [5,7]],?_⟩⟩;rw[DC]
   kernel_rfl
  |cons x l=>
   have a1:(x::l).length+[w].length<=ah:=by rw[a3s];unfold ah;omega
   refine⟨by kernel_rfl,aJ.step (e:=.norm) (by kernel_rfl) (zG (ps1:=⟨[(0,.val (.kC 4)),(6,.val (.iter 5)),(14,xl false)],[],H3 t (.own 8)++[.mark,Px true none,.cZ 0 t.length (j::seen),.gone,.list true true 3 [w],.list false false 3 (x::l++[w])]⟩) hX fZ (by kernel_rfl) (.c (.dG [.agg v.ps,.int .i64 w]) [] (AX rO) (.fr [0,1,2,3,4,6] (apG (n:=n) t (x::l) w a1) (.b (rfl:(!true)=false) (.r rfl))))) ⟨.inl rfl,Dv,FK,[.gc [5,8]],?_⟩⟩;rw[DC]
   kernel_rfl
end
open Go Tw Pv bW
def rJ(t:List (V×Int)):List Int:=yU (fun n=>[n]) (t.map fun e:V×Int=>e.2)
abbrev Qx(n:Int):TV:=.int .i64 n
abbrev KU(n:Int):PV aF:=.int .i64 n
theorem a3E{t:List (V×Int)}{l:List Int}(h:l.Perm (t.map fun e:V×Int=>e.2)):Rk (l.map Qx)=(rJ t).map Qx:=by
 unfold Rk;rw[SV (g:=Qx) (key:=fun n=>[n]) (a7r:=Rh) (fun _=>rfl),EO h fun a _ b _ e=>by simpa using e];rfl
theorem Js:∀l:List Int,Ua (l.map KU)=some (l.map Qx)
 | []=>rfl
 |a::l=>by
  have:=Js l;show(match pz (KU a),Ua (l.map KU)with
   |some a,some b=>some (a::b)
   |_,_=>none)=_
  rw[this];rfl
section
variable {n:Nat} {t:List (V×Int)}
set_option maxRecDepth 20000 in
theorem aku(h:Jr t)(ht:t≠[]):aax X0 Qp (uI Qp T (bQ (n+1)) LL) vF [.kC 4] (H3 t (.nil .slc)++[.mark,Px true none]) fun v H1=>∃(l:List Int) (seen:List Nat),l.Perm (t.map fun e:V×Int=>e.2)∧H1=H3 t (.own 6)++[.mark,Px true none,.cZ 0 t.length seen,.list false false 3 l]:=by
 refine a1G (t:=Tf Qp 139) hX (by kernel_rfl) ?_;have e0:(Tf Qp 139).body=.seq (eG afF) (.block 0 (.loop lpW)):=by kernel_rfl
 rw[e0];have x0:dL X0 Qp T (bQ (n+1)) LL 139 false (BG Qp 139) 5 (eG afF) ⟨kN X0 0 [.kC 4,.ptr 1 0 1],[],H3 t (.nil .slc)++[.mark,Px true none]⟩ .norm ⟨[(0,.val (.kC 4)),(6,.val (.iter 5))],[],H3 t (.nil .slc)++[.mark,Px true none,.cZ 0 (kV.im t).length []]⟩:=zG hX fZ (an:=.n) (by kernel_rfl) (.r rfl);rw[kV.oN t]at x0;refine aJ.AV (by kernel_rfl) x0 ((aaF (n:=n) h).mono fun e s h1=>?_);obtain⟨rfl,l,seen,h2,rfl⟩:=h1;cases l with
 |nil=>
  have:=h2.length_eq;rw[a4e]at this;exact absurd (a3W this.symm) ht
 |cons x l=>exact⟨.inl rfl,[],by kernel_rfl,x::l,seen,h2,rfl⟩
set_option maxRecDepth 20000 in
theorem aaG(h:Jr t)(ht:t≠[]):aX X0 Qp (bQ (n+2)) (.fn 138 [] []) [.nil .slc,vF] [.iD (kV.im t),.aC [.map 0]] (.slc 2 0 t.length t.length 1 false) [.iD (kV.im t),.aC [.map 0],.lZ ((rJ t).map KU)]:=by
 have e0:(Tf Qp 138).body=.seq (eG a7O) (.seq (.seq (eG (eG (eH a7O))) (.block 0 (.rangeFunc (.tmp 6) #[7] (wK Qp 138) (Au Qp 138)))) (eH (eH a7O))):=by kernel_rfl
 have x0:dL X0 Qp T (bQ (n+1)) LL 138 false (BG Qp 138) 2 (eG a7O) ⟨kN X0 0 [.nil .slc,vF],[],[.iD (kV.im t),.aC [.map 0]]⟩ .norm ⟨[(1,.val vF),(2,.val (.ptr 2 0 1)),(4,.val (.nil .slc))],[],H3 t (.nil .slc)⟩:=zG hX fZ (an:=.n) (by kernel_rfl) (.r rfl);have x1:dL X0 Qp T (bQ (n+1)) LL 138 false (BG Qp 138) 2 (eG (eG (eH a7O))) ⟨[(1,.val vF),(2,.val (.ptr 2 0 1)),(4,.val (.nil .slc))],[],H3 t (.nil .slc)⟩ .norm ⟨a7P,[],H3 t (.nil .slc)⟩:=zG hX fZ (an:=.n) (by kernel_rfl) (.r rfl);have:=Du (X:=X0) (P:=Qp) (T:=T) (L:=LL) (n:=n+1) (f:=138) (first:=[]) (cap:=[]) (xs:=[.nil .slc,vF]) (H:=[.iD (kV.im t),.aC [.map 0]]) (N:=[.lZ ((rJ t).map KU)]) (v:=.slc 2 0 t.length t.length 1 false) (tv:=fun k=>.slc k 0 t.length t.length 1 false) (tN:=[.lZ ((rJ t).map Qx)]) (t:=Tf Qp 138) hX (by kernel_rfl) (by kernel_rfl) (by kernel_rfl) rfl (fun A m h hr=>aaz (H:=[.iD (kV.im t),.aC [.map 0]]) (n:=t.length) (sz:=1) (Js _) hr) ?_
 .exact this
 rw[e0];refine aJ.AV (by kernel_rfl) x0 (aJ.seq (R:=fun e s=>e=.norm∧∃(l:List Int) (seen:List Nat),l.Perm (t.map fun e:V×Int=>e.2)∧s=⟨a7P,[],H3 t (.own 6)++[.mark,Px false (some .skip),.cZ 0 t.length seen,.list false false 3 l]⟩) (aJ.AV (by kernel_rfl) x1 (aJ.block ?_)) (fun s hs=>?_) (fun i s h=>by cases h.1) (fun s h=>by cases h.1))
 .refine aJ.range (f1:=139) (a1:=[]) (b1:=[.ptr 1 0 1]) (K:=fun v H1=>∃(l:List Int) (seen:List Nat),l.Perm (t.map fun e:V×Int=>e.2)∧H1=H3 t (.own 6)++[.mark,Px true none,.cZ 0 t.length seen,.list false false 3 l]) hX rfl (by kernel_rfl) (by kernel_rfl) (aku (n:=n) h ht) (fun v H1 hk=>?_);obtain⟨l,seen,h1,rfl⟩:=hk;exact⟨true,_,_,_,_,_,_,none,.norm,rfl,rfl,rfl,l,seen,h1,rfl⟩
 obtain⟨_,l,seen,h1,rfl⟩:=hs;have hl:l≠[]:=fun e=>by
  subst e;have:=h1.length_eq;rw[a4e]at this;exact absurd (a3W this.symm) ht
 have hlen:t.length=l.length:=by rw[h1.length_eq,a4e]
 refine aJ.step (by kernel_rfl) (zG (e:=.ret) (ps1:=⟨[(4,.val (.own 6))],[],H3 t (.own 6)++[.mark,Px false (some .skip),.cZ 0 t.length seen,.list false false 3 l]⟩) hX fZ (an:=.n) (by kernel_rfl) (.r rfl)) ⟨.inr rfl,[.own 6],by kernel_rfl,?_⟩;rw[<-a3E h1,hlen];exact a7B hX (i:=6) (ty:=3) (l:=l) rfl hl (Ee _) Kq
end
def Py:List Int->Int
 | []=>0
 |x::l=>l.foldl max x
theorem Y6:∀(l:List Int) (x:Int),(l.foldl max x=x∨l.foldl max x∈l)∧x<=l.foldl max x∧∀y∈l,y<=l.foldl max x
 | [],x=>⟨.inl rfl,a9e _,fun y hy=>by cases hy⟩
 |a::l,x=>by
  obtain⟨h1,h2,h3⟩:=Y6 l (max x a);rw[adp];have hm:max x a=x∨max x a=a:=by omega
  refine⟨?_,by omega,fun y hy=>?_⟩
  .rcases h1 with h1|h1
   .rcases hm with e|e
    .exact .inl (h1.trans e)
    rw[h1,e];exact .inr (by simp)
   exact .inr (by simp[h1])
  rcases a1Y.1 hy with rfl|hy
  .omega
  exact h3 y hy
theorem Y7{l:List Int}(h:l≠[]):Py l∈l∧∀y∈l,y<=Py l:=by
 cases l with
 |nil=>exact absurd rfl h
 |cons x l=>
  obtain⟨h1,h2,h3⟩:=Y6 l x;refine⟨?_,fun y hy=>?_⟩
  .rcases h1 with h1|h1
   .show l.foldl max x∈_;rw[h1];simp
   exact a3O _ h1
  rcases a1Y.1 hy with rfl|hy
  .exact h2
  exact h3 y hy
theorem a3F{l l':List Int}(h:l.Perm l')(hl:l≠[]):Py l=Py l':=by
 have hl':l'≠[]:=fun e=>by subst e;exact hl h.eq_nil
 obtain⟨a1,a2⟩:=Y7 hl;obtain⟨b1,b2⟩:=Y7 hl';have:=a2 _ (h.mem_iff.2 b1);have:=b2 _ (h.mem_iff.1 a1);omega
open Go Tw Pv bW
abbrev ApM(n:Nat):aZ:=kM Qp Tm (2^24) n
theorem okM{n:Nat}:jr X0 Qp (ApM n) a9E:=fun _ _ _ _ _ h _=>by cases h
def gMx(l:List Int)(k:Nat)(m:Int):Int:=if l.getD (i64.wrap ((k:Int)+1)).toNat 0>m then l.getD (i64.wrap ((k:Int)+1)).toNat 0 else m
theorem a1L{x:Int}{r:List Int}(h:r.length<=ah):∀k,k<=r.length->aT (gMx (x::r)) k 0 x=(r.take k).foldl max x
 | 0,_=>rfl
 |k+1,hk=>by
  rw[sV,a1L h k (by omega)];unfold gMx;rw[a3U,xU (by omega),a7m];have e:(x::r).getD (k+1) 0=r[k]'(by omega):=by simp[List.getD,a0a (show k<r.length by omega)]
  rw[e,a7I (by omega),List.foldl_append];simp only[adp,List.foldl_nil];omega
abbrev wMx(l:List Int)(m i:Int)(x:List (Nat×PE aF)):aQ aF:=⟨[(0,xL 3 l),(3,xi m),(4,xi (i64.wrap (i+1)))]++x,[],[]⟩
set_option maxRecDepth 20000 in
theorem akw{l:List Int}(h0:l≠[])(hl:l.length<=2000):aX X0 Qp (ApM 2) (.fn 94 [] []) [.dw 3 l false] [] (.int .i64 (Py l)) []:=by
 cases l with
 |nil=>exact absurd rfl h0
 |cons x r=>
  have hr:r.length<=ah:=by have:(x::r).length=r.length+1:=rfl;unfold ah;omega
  have lp:dL X0 Qp Tm (ApM 1) LL 94 false (BG Qp 94) 0 (.loop (RS Qp 94 0)) ⟨[(0,xL 3 (x::r)),(3,xi x),(4,xi 1)],[],[]⟩ (.exit 0) (wMx (x::r) (aT (gMx (x::r)) r.length 0 x) r.length [(15,xl false)]):=by
   refine Ov (X:=X0) (N:=r.length) (g:=gMx (x::r)) (s0:=x) (st:=fun i m=>wMx (x::r) m i []) (fin:=fun m=>wMx (x::r) m r.length [(15,xl false)]) (fun _ _=>True) (by kernel_rfl) hr Sl trivial (fun _ _ _ _=>trivial) (fun k m hk _ n e p g9=>?_) (fun m _=>?_)
   .have e1:i64.wrap ((k:Int)+1)=((k+1:Nat):Int):=xU (by omega);have t1:decide (i64.wrap ((k:Int)+1)<((x::r).length:Int))=true:=by rw[e1,a1X,a3V];omega
    have i1:gQ (i64.wrap ((k:Int)+1)) (x::r).length:=by rw[e1];exact aG (by rw[a3V];omega)
    exact round hX okM (by kernel_rfl) (.b t1 (.o i1 (.go g9)))
   have e1:i64.wrap ((r.length:Int)+1)=((r.length+1:Nat):Int):=xU (by omega);have t1:decide (i64.wrap ((r.length:Int)+1)<((x::r).length:Int))=false:=by rw[e1,a2W,a3V];omega
   exact round hX okM (by kernel_rfl) (.b t1 .ex)
  have e:aT (gMx (x::r)) r.length 0 x=Py (x::r):=by
   rw[a1L hr _ (a15 _),abu];rfl
  rw[e]at lp;have hc:((x::r).length:Int)=r.length+1:=by simp
  have t0:decide (((x::r).length:Int)<1)=false:=by rw[a2W,hc];omega
  have i0:gQ 0 (x::r).length:=⟨by decide,by rw[hc];omega⟩;exact qP hX okM (first:=[]) (cap:=[]) (by kernel_rfl) (.b t0 (.o i0 (.w lp .er)))
theorem aaH(n:Nat)(x:TV)(h:List HB):kM Qp T LL (n+1) (.fn 94 [] []) [x] h=a2Q 94 (ApM 2) (.fn 94 [] []) [x] h:=rfl
theorem akx{n:Nat}{vs:List Int}(h0:vs≠[])(hl:vs.length<=2000):aX X0 Qp (bQ (n+1)) (.fn 94 [] []) [.slc 0 0 vs.length vs.length 1 false] [.lZ (vs.map KU)] (.int .i64 (Py vs)) [.lZ (vs.map KU)]:=by
 intro A m h tf rP hr hf hx;obtain⟨x,r,rfl,h1,h2⟩:=hx.inv;have:=h2.inv0;subst this;have htf:=hf.Uz;subst htf;obtain⟨mb,g1,g2⟩:=hr.at_ 0 _ rfl;cases mb with
 |fV c=>
  obtain⟨ts,g3,g4⟩:=g2;have g5:=g4.symm.trans (Js vs);cases g5;have hx2:x=.slc c 0 vs.length vs.length 1 false:=by
   cases h1 with
   |slc e=>rw[g1]at e;cases e;rfl
   |gone hi e _=>simp only[bg,a00]at hi;subst hi;rw[g1]at e;cases e
  subst hx2;have GR:c∈bn m:=bf g1 rfl;have aS:=(a04.1 g3).1;show ∃w h1 ws m1,kM Qp T LL (n+1) _ _ h=_∧_;rw[aaH,a9L (k:=.i64) (n:=Py vs)]
  .exact⟨_,h,[],m,rfl,hr,.int _ _,.refl,.refl,fun b hb=>by cases hb⟩
  .refine⟨⟨_,_,rfl⟩,rfl,fun h' hu=>?_⟩;obtain⟨cs',p1,p2⟩:=hu.2 c _ g3;obtain⟨l,hp,rfl⟩:∃l:List Int,l.Perm vs∧cs'=l.map Qx:=by
    have hq:∀y∈cs',∃i:Int,y=Qx i:=fun y hy=>by
     obtain⟨i,_,rfl⟩:=a1f.1 (p1.mem_iff.1 hy);exact⟨i,rfl⟩
    have hun:∀L:List TV,(∀y∈L,∃i:Int,y=Qx i)->∃l:List Int,L=l.map Qx:=by
     intro L
     induction L with
     |nil=>exact fun _=>⟨[],rfl⟩
     |cons y L ih=>
      intro hL;obtain⟨i,rfl⟩:=hL y (by simp);obtain⟨l,rfl⟩:=ih fun z hz=>hL z (by simp[hz]);exact⟨i::l,rfl⟩
    obtain⟨l,rfl⟩:=hun cs' hq;refine⟨l,?_,rfl⟩;have:=p1.map fun y=>match y with|.int _ n=>n|_=>0
    rw[a7U,a7U]at this;simpa[Function.comp_def]using this
   have hlen:l.length=vs.length:=hp.length_eq;have qy:l≠[]:=fun e=>by subst e;exact h0 (a3W hlen.symm)
   have aky:h'.length=h.length:=by
    have e:=fun b=>Sj hu b;refine Nat.le_antisymm (ad7 fun hb=>?_) (ad7 fun hb=>?_)
    .have:=e h.length;rw[a0a hb,a3X (a15 _)]at this;cases this
    have:=e h'.length;rw[a0a hb,a3X (a15 _)]at this;cases this
   have hm:=akw qy (by omega);have hvr:Pv.VR X0 Qp (AA A []) [] h' (.dw 3 l false) (.slc c 0 vs.length vs.length 1 false):=by
    rw[<-hlen];refine Pv.VR.dw (cs:=l.map Qx) ⟨hr.CP c GR,by simp[bn]⟩ (by simp only[aV,p2]) (fun _=>by simp[lF,p2]) Kq (by decide) (by simp;exact a15 _) (a15 _) (by intro h;cases h) ?_ ?_
    .intro j a _;rfl
    have hrw:=SB (A:=AA A []) (m:=[]) (h:=h') l;intro j a i c v a1 a2 a3;exact hrw.2.2 j a i c v a1 a2 a3
   obtain⟨w,h2,ws,m1,c1,c2,c3,c4,c5,c6⟩:=hm A [] h' (.fn 94 [] []) [.slc c 0 vs.length vs.length 1 false] ⟨rfl,fun i b hi=>by simp at hi,by simp[bn],fun b hb=>hr.up b (by rw[<-aky];exact hb),fun b hb=>by simp[bn]at hb⟩ (.fn rfl (fun i x y hi=>by simp at hi) rfl (fun i x y hi=>by simp at hi)) (.cons hvr .nil)
   .have hw:w=.int .i64 (Py vs):=by
     rw[<-a3F hp qy];exact c3.a14
    subst hw;have Yo:ws=[]:=a8a.2 fun b hb=>by have:=c6 b hb;simp[bn]at this
    subst Yo;exact⟨h2,c1⟩
  obtain⟨h',hu⟩:∃h',OA h h':=⟨_,Xd h (fun b=>match h[b]? with|some (.lZ cs)=>cs|_=>[]) fun b cs e=>by rw[e]⟩;exact⟨h',hu⟩
 |_=>exact g2.elim
end Go.Proofs.YtmobpoiejckagaaGreat
