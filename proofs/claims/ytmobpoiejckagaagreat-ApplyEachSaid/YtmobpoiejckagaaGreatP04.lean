/- Part 5 of a proof: What Op2 makes has, at any place, the cell that value.Op2 returns of the cells there; for two diagrams that fit, and an operation. -/
import Derived.Test.YtmobpoiejckagaaGreatP03
set_option linter.constructorNameAsVariable false
set_option linter.unusedVariables false
set_option linter.unusedSimpArgs false
set_option linter.unusedSectionVars false
open Go.IntKind (i64)
noncomputable section
namespace Go.Proofs.YtmobpoiejckagaaGreat
open Go Tw Pv
def ac0:eY aF:=bZ 219 (a1 iA) tA (fun p=>UE p) np (a9S (X:=X0))
theorem aix:Gd ac0:=Good.nil.add fun n hO p hp=>aN hO .rr
def ac1:eY aF:=bZ 141 (a1 uA) vA (fun p=>Hw p) np ac0
theorem aiy:Gd ac1:=aix.add fun n hO p hp=>aN hO .rr
def ac2:eY aF:=bZ 140 (a3 iA iA rO) tA (fun p=>zy p.2.2 p.1 p.2.1) (fun p=>[p.2.2.length<=ah]) ac1
theorem aiz:Gd ac2:=aiy.deep 3 fun n hn hO p hp=>by
 have h1:∀x,aW X0 Qp (bQ (n-3+1)) (.fn 182 [] [.ptr 0 0 1,.ptr 1 0 1]) [.int .i64 x] [.cells [.int .i64 p.1],.cells [.int .i64 p.2.1]] (tA.put (wU x p.1 p.2.1)) [.cells [.int .i64 p.1],.cells [.int .i64 p.2.1]]:=fun x=>jk fV (first:=[]) (.ssh (fun _=>.sr) (fun _=>.sr));obtain⟨n,rfl⟩:∃k,n=k+3:=⟨n-3,by omega⟩;rw[show n+3-3+1=n+1 by omega]at h1;have h2:=aiu (n:=n+2) (by omega) (g:=fun x=>wU x p.1 p.2.1) h1 p.2.2 (hp _ (.head _));exact aN (hO _ (by omega)) (.k h2 (.v (!(mX (fun x=>wU x p.1 p.2.1) p.2.2)) (by rw[Ec];rfl)))
theorem nan(x:Int):UE x=false:=by simp[UE]
def ac3:eY aF:=bZ 154 (a1 vA) tA (fun p=>D8 p) np ac2
theorem aiA:Gd ac3:=aiz.add fun n hO p hp=>aN hO (.ss (.o le1 .rr) (.ss .rr .rr))
def ac4:eY aF:=bZ 100 (a1 iA) vA (fun p=>mV p) np ac3
theorem aiB:Gd ac4:=aiA.add fun n hO p hp=>aN hO (.o le1 (.ss .rr .rr))
def ac5:eY aF:=bZ 186 (a1 tA) vA (fun p=>OE p) np ac4
theorem aiC:Gd ac5:=aiB.add fun n hO p hp=>aN hO (.ss .rr .rr)
def ac6:eY aF:=bZ 156 (a1 vA) tA (fun p=>nY p) np ac5
theorem aiD:Gd ac6:=aiC.add fun n hO p hp=>aN hO .rr
def ac7:eY aF:=bZ 153 (a1 vA) tA (fun p=>Aq p) np ac6
theorem aiE:Gd ac7:=aiD.add fun n hO p hp=>aN hO .rr
def ac8:eY aF:=bZ 142 (a2 iA iA) vA (fun p=>Je p.1 p.2) np ac7
theorem aiF:Gd ac8:=aiE.add fun n hO p hp=>aN hO .rr
def ac9:eY aF:=bZ 143 (a2 iA iA) vA (fun p=>Jf p.1 p.2) np ac8
theorem aiG:Gd ac9:=aiF.add fun n hO p hp=>aN hO .rr
def acd:eY aF:=bZ 144 (a2 iA iA) vA (fun p=>Jg p.1 p.2) np ac9
theorem aiH:Gd acd:=aiG.add fun n hO p hp=>aN hO .rr
def ace:eY aF:=bZ 146 (a2 iA iA) iA (fun p=>D9 p.1 p.2) np acd
theorem aiI:Gd ace:=aiH.add fun n hO p hp=>aN hO .rr
def acf:eY aF:=bZ 147 (a2 iA iA) iA (fun p=>Dc p.1 p.2) np ace
theorem aiJ:Gd acf:=aiI.add fun n hO p hp=>aN hO .rr
def acg:eY aF:=bZ 149 (a1 iA) tA (fun p=>Df p) np acf
theorem aiK:Gd acg:=aiJ.add fun n hO p hp=>aN hO .rr
def ach:eY aF:=bZ 150 (a1 iA) tA (fun p=>Dh p) np acg
theorem aiL:Gd ach:=aiK.add fun n hO p hp=>aN hO .rr
def aci:eY aF:=bZ 151 (a1 iA) tA (fun p=>Di p) np ach
theorem aiM:Gd aci:=aiL.add fun n hO p hp=>aN hO .rr
def acj:eY aF:=bZ 184 (a2 iA iA) (dQ (a2 iA iA)) (fun p=>uF p.1 p.2) (fun p=>[p.2≠0]) aci
theorem aiN:Gd acj:=aiM.add fun n hO p hp=>aN hO (.o (hp _ (.head _)) (.o (hp _ (.head _)) (.ss (.ss .rr .rr) .rr)))
def acn:eY aF:=bZ 187 (a2 iA iA) iA (fun p=>Jd p.1 p.2) np acj
theorem aiO:Gd acn:=aiN.add fun n hO p hp=>aN hO (.b (nan p.1) (.b (nan p.2) (.ss .rr (.ss .rr .rr))))
theorem aom{n:Nat}{fJ:eY aF}(hO:Ok n fJ)(ho:∀x:V,fJ 156 [.agg x.ps]=some (.bool (nY x),[],[]))(H:List (PB aF))(x:V):aW X0 Qp (bQ n) (.fn 156 [] []) [.agg x.ps] H (.bool (nY x)) H:=
 MJ hX hO (first:=[]) (cap:=[]) (vs:=[.agg x.ps]) (v:=.bool (nY x)) rfl (ho x) (fun p h=>by cases h) rfl
theorem aon{n:Nat}{fJ:eY aF}(hO:Ok n fJ)(ho:∀x:V,fJ 153 [.agg x.ps]=some (.bool (Aq x),[],[]))(H:List (PB aF))(x:V):aW X0 Qp (bQ n) (.fn 153 [] []) [.agg x.ps] H (.bool (Aq x)) H:=
 MJ hX hO (first:=[]) (cap:=[]) (vs:=[.agg x.ps]) (v:=.bool (Aq x)) rfl (ho x) (fun p h=>by cases h) rfl
def aco:eY aF:=bZ 103 (a1 vsA) (dQ (a2 vA tA)) (fun p=>bP p) (fun p=>[p.length<=ah]) acn
theorem aiP:Gd aco:=aiO.deep 2 fun n hn hO p hp=>by
 have hs:=aiw (n:=n-1) (H:=[]) (g:=fun v=>nY v) (aom (hO (n-1) (by omega)) (fun _=>rfl) []) p (hp _ (.head _));rw[show n-1+1=n by omega]at hs;exact aN (hO n (by omega)) (.k hs (.sh (fun h=>.rr) (fun h=>.o (show gq (iF (fun v=>nY v) p) p.length from⟨by simpa using h,Qr _ _⟩) .rr)))
def acp:eY aF:=bZ 102 (a1 vsA) tA (fun p=>gG p) (fun p=>[p.length<=ah]) aco
theorem aiQ:Gd acp:=aiP.deep 3 fun n hn hO p hp=>by
 have hs:=aeU (n:=n-1) (by omega) (H:=[]) (g:=fun v=>Aq v) (aon (hO (n-2) (by omega)) (fun _=>rfl) []) p (hp _ (.head _));rw[show n-1+1=n by omega]at hs;exact aN (hO n (by omega)) (.k hs (.v (!(qj (fun v=>Aq v) p)) (by rw[Jc];rfl)))
def aiR:eY aF:=bZ 99 (a3 vA vA vA) (dQ (a2 vA iA)) (fun p=>iw p.1 p.2.1 p.2.2) np acp
theorem aoo:Gd aiR:=aiQ.add fun n hO p hp=>aN hO (.o le3 (.ss .rr (.ss .rr (.ss .rr .rr))))
def aiS:Arg Nat where
 put f:=.fn f [] []
 get v:=match v with
  |.fn g [] []=>some g
  |_=>none
 ok:=by
  intro v a hg A m h x hv;split at hg
  .cases hg;exact hv
  .cases hg
def acr:eY aF:=ZG 145 (a1 aiS) (fun _=>.fn 183 [] [.ptr 0 0 1]) (fun g=>[.cells [.fn g [] []]]) np aiR
theorem aiT:Gd acr:=aoo.X5 0 fun n _ hO p hp=>Bq hX (hO n (by omega)) (by kernel_rfl) .er
def acs:eY aF:=ZG 148 (a1 aiS) (fun _=>.fn 185 [] [.ptr 0 0 1]) (fun g=>[.cells [.fn g [] []]]) np acr
theorem aiU:Gd acs:=aiT.X5 0 fun n _ hO p hp=>Bq hX (hO n (by omega)) (by kernel_rfl) .er
def aop(p:Int):PV aF:=if p=7 then .fn 142 [] []else if p=8 then .fn 143 [] []else if p=9 then .fn 144 [] []else if p=10 then .fn 183 [] [.ptr 0 0 1]else if p=11 then .fn 183 [] [.ptr 0 0 1]else .fn 185 [] [.ptr 0 0 1]
def aoq(p:Int):List (PB aF):=if p=10 then [.cells [.fn 146 [] []]]else if p=11 then [.cells [.fn 147 [] []]]else if p=12 then [.cells [.fn 149 [] []]]else if p=13 then [.cells [.fn 150 [] []]]else if p=14 then [.cells [.fn 151 [] []]]else []
def OV:eY aF:=ZG 101 (a1 uA) aop aoq (fun p=>[7<=p∧p<=14]) acs
theorem seven{p:Int}(h:7<=p∧p<=14):p=7∨p=8∨p=9∨p=10∨p=11∨p=12∨p=13∨p=14:=by omega
theorem aiV:Gd OV:=aiU.X5 0 fun n _ hO p hp=>by
 rcases seven (hp _ (.head _))with rfl|rfl|rfl|rfl|rfl|rfl|rfl|rfl
 .exact Bq hX (hO n (by omega)) (by kernel_rfl) (.b (rfl:true=true) .er)
 .exact Bq hX (hO n (by omega)) (by kernel_rfl) (.b (rfl:false=false) (.b (rfl:true=true) .er))
 .exact Bq hX (hO n (by omega)) (by kernel_rfl) (.b (rfl:false=false) (.b (rfl:false=false) (.b (rfl:true=true) .er)))
 .exact Bq hX (hO n (by omega)) (by kernel_rfl) (.b (rfl:false=false) (.b (rfl:false=false) (.b (rfl:false=false) (.b (rfl:true=true) .er))))
 .exact Bq hX (hO n (by omega)) (by kernel_rfl) (.b (rfl:false=false) (.b (rfl:false=false) (.b (rfl:false=false) (.b (rfl:false=false) (.b (rfl:true=true) .er)))))
 .exact Bq hX (hO n (by omega)) (by kernel_rfl) (.b (rfl:false=false) (.b (rfl:false=false) (.b (rfl:false=false) (.b (rfl:false=false) (.b (rfl:false=false) (.b (rfl:true=true) .er))))))
 .exact Bq hX (hO n (by omega)) (by kernel_rfl) (.b (rfl:false=false) (.b (rfl:false=false) (.b (rfl:false=false) (.b (rfl:false=false) (.b (rfl:false=false) (.b (rfl:false=false) (.b (rfl:true=true) .er)))))))
 .exact Bq hX (hO n (by omega)) (by kernel_rfl) (.b (rfl:false=false) (.b (rfl:false=false) (.b (rfl:false=false) (.b (rfl:false=false) (.b (rfl:false=false) (.b (rfl:false=false) (.b (rfl:false=false) (.b (rfl:true=true) .er))))))))
theorem aa1{n:Nat}(hO:Ok n OV)(a b:V)(x y:Int):aW X0 Qp (bQ (n+1)) (.fn 183 [] [.ptr 0 0 1]) [.int .i64 x,.int .i64 y] [.cells [.fn 146 [] []],.list true true 39 [a,b],.list true true 39 [a,b]] (vA.put (iG D9 x y)) [.cells [.fn 146 [] []],.list true true 39 [a,b],.list true true 39 [a,b]]:=
 jk hO (first:=[]) (.ssh (fun _=>.sr) (fun h=>.o (show y≠0 by simpa using h) .sr))
theorem aa2{n:Nat}(hO:Ok n OV)(a b:V)(x y:Int):aW X0 Qp (bQ (n+1)) (.fn 183 [] [.ptr 0 0 1]) [.int .i64 x,.int .i64 y] [.cells [.fn 147 [] []],.list true true 39 [a,b],.list true true 39 [a,b]] (vA.put (iG Dc x y)) [.cells [.fn 147 [] []],.list true true 39 [a,b],.list true true 39 [a,b]]:=
 jk hO (first:=[]) (.ssh (fun _=>.sr) (fun h=>.o (show y≠0 by simpa using h) .sr))
theorem aa3{n:Nat}(hO:Ok n OV)(a b:V)(x y:Int):aW X0 Qp (bQ (n+1)) (.fn 185 [] [.ptr 0 0 1]) [.int .i64 x,.int .i64 y] [.cells [.fn 149 [] []],.list true true 39 [a,b],.list true true 39 [a,b]] (vA.put (dR Df x y)) [.cells [.fn 149 [] []],.list true true 39 [a,b],.list true true 39 [a,b]]:=
 jk hO (first:=[]) .sr
theorem aa4{n:Nat}(hO:Ok n OV)(a b:V)(x y:Int):aW X0 Qp (bQ (n+1)) (.fn 185 [] [.ptr 0 0 1]) [.int .i64 x,.int .i64 y] [.cells [.fn 150 [] []],.list true true 39 [a,b],.list true true 39 [a,b]] (vA.put (dR Dh x y)) [.cells [.fn 150 [] []],.list true true 39 [a,b],.list true true 39 [a,b]]:=
 jk hO (first:=[]) .sr
theorem aa5{n:Nat}(hO:Ok n OV)(a b:V)(x y:Int):aW X0 Qp (bQ (n+1)) (.fn 185 [] [.ptr 0 0 1]) [.int .i64 x,.int .i64 y] [.cells [.fn 151 [] []],.list true true 39 [a,b],.list true true 39 [a,b]] (vA.put (dR Di x y)) [.cells [.fn 151 [] []],.list true true 39 [a,b],.list true true 39 [a,b]]:=
 jk hO (first:=[]) .sr
def aiW:eY aF:=bZ 45 (a3 uA vA vA) (dQ (a2 vA iA)) (fun p=>Hy p.1 p.2.1 p.2.2) (fun p=>[7<=p.1∧p.1<=16]) OV
theorem aor:Gd aiW:=aiV.deep 1 fun n hn hO p hp=>by
 obtain⟨n,rfl⟩:∃k,n=k+1:=⟨n-1,by omega⟩;have Aw:=hO n (by omega);have hO:=hO (n+1) (by omega);obtain⟨k,a,b⟩:=p;rcases nine (show 7<=k∧k<=16 from hp _ (.head _))with rfl|rfl|rfl|rfl|rfl|rfl|rfl|rfl|rfl|rfl
 .have:oq X0 Qp (bQ (n+1+1)) 45 ((a3 uA vA vA).put (7,a,b)) ((dQ (a2 vA iA)).put (nZ a b)) []:=aN hO (.b (rfl:false=false) (.b (rfl:false=false) (.o (by decide:(7:Int)<=7∧(7:Int)<=14) (.b (rfl:false=false) (.o Yw (.ss .rr (.o Yw (.ss .rr .rr))))))));exact this
 .have:oq X0 Qp (bQ (n+1+1)) 45 ((a3 uA vA vA).put (8,a,b)) ((dQ (a2 vA iA)).put (o7 a b)) []:=aN hO (.b (rfl:false=false) (.b (rfl:false=false) (.o (by decide:(7:Int)<=8∧(8:Int)<=14) (.b (rfl:false=false) (.o Yw (.ss .rr (.o Yw (.ss .rr .rr))))))));exact this
 .have:oq X0 Qp (bQ (n+1+1)) 45 ((a3 uA vA vA).put (9,a,b)) ((dQ (a2 vA iA)).put (o8 a b)) []:=aN hO (.b (rfl:false=false) (.b (rfl:false=false) (.o (by decide:(7:Int)<=9∧(9:Int)<=14) (.b (rfl:false=false) (.o Yw (.ss .rr (.o Yw (.ss .rr .rr))))))));exact this
 .have:oq X0 Qp (bQ (n+1+1)) 45 ((a3 uA vA vA).put (10,a,b)) ((dQ (a2 vA iA)).put (lH a b)) []:=aN hO (.b (rfl:false=false) (.b (rfl:false=false) (.o (by decide:(7:Int)<=10∧(10:Int)<=14) (.b (rfl:false=false) (.o Yw (.ss .rr (.o Yw (.ss .rr (.k (aa1 Aw a b a.n b.n) .rr)))))))));exact this
 .have:oq X0 Qp (bQ (n+1+1)) 45 ((a3 uA vA vA).put (11,a,b)) ((dQ (a2 vA iA)).put (lJ a b)) []:=aN hO (.b (rfl:false=false) (.b (rfl:false=false) (.o (by decide:(7:Int)<=11∧(11:Int)<=14) (.b (rfl:false=false) (.o Yw (.ss .rr (.o Yw (.ss .rr (.k (aa2 Aw a b a.n b.n) .rr)))))))));exact this
 .have:oq X0 Qp (bQ (n+1+1)) 45 ((a3 uA vA vA).put (12,a,b)) ((dQ (a2 vA iA)).put (lK a b)) []:=aN hO (.b (rfl:false=false) (.b (rfl:false=false) (.o (by decide:(7:Int)<=12∧(12:Int)<=14) (.b (rfl:false=false) (.o Yw (.ss .rr (.o Yw (.ss .rr (.k (aa3 Aw a b a.n b.n) .rr)))))))));exact this
 .have:oq X0 Qp (bQ (n+1+1)) 45 ((a3 uA vA vA).put (13,a,b)) ((dQ (a2 vA iA)).put (lM a b)) []:=aN hO (.b (rfl:false=false) (.b (rfl:false=false) (.o (by decide:(7:Int)<=13∧(13:Int)<=14) (.b (rfl:false=false) (.o Yw (.ss .rr (.o Yw (.ss .rr (.k (aa4 Aw a b a.n b.n) .rr)))))))));exact this
 .have:oq X0 Qp (bQ (n+1+1)) 45 ((a3 uA vA vA).put (14,a,b)) ((dQ (a2 vA iA)).put (lN a b)) []:=aN hO (.b (rfl:false=false) (.b (rfl:false=false) (.o (by decide:(7:Int)<=14∧(14:Int)<=14) (.b (rfl:false=false) (.o Yw (.ss .rr (.o Yw (.ss .rr (.k (aa5 Aw a b a.n b.n) .rr)))))))));exact this
 .have:oq X0 Qp (bQ (n+1+1)) 45 ((a3 uA vA vA).put (15,a,b)) ((dQ (a2 vA iA)).put (sW a b)) []:=aN hO (.b (rfl:true=true) .rr);exact this
 .have:oq X0 Qp (bQ (n+1+1)) 45 ((a3 uA vA vA).put (16,a,b)) ((dQ (a2 vA iA)).put (tC a b)) []:=aN hO (.b (rfl:false=false) (.b (rfl:true=true) .rr));exact this
open Go Tw Pv dh
def aiX:eY aF:=bZ 23 (a3 iA iA iA) tA (fun p=>nX p.1 p.2.1 p.2.2) np aiW
theorem aos:Gd aiX:=aor.add fun n hO p hp=>aN hO (.ss .rr .rr)
abbrev KF(a b:List Int)(k:Nat):Bool:=a.getD k 0 != b.getD k 0
abbrev w32(a b:List Int)(i:Int)(x:List (Nat×PE aF)):aS aF:=⟨[(0,xL 3 a),(1,xL 3 b),(5,xi i)]++x,[],[]⟩
def z32(a b:List Int):Unit⊕Nat->Ex×aS aF
 |.inl _=>(.exit 0,w32 a b a.length [(14,xl false)])
 |.inr _=>(.ret,⟨[(4,xl false)],[],[]⟩)
theorem l32{n:Nat}{fJ:eY aF}(hO:Ok n fJ)(a b:List Int)(hl:a.length<=ah)(h:a.length=b.length):Lp n 32 0 (w32 a b 0 []) (z32 a b (bG (KF a b) a.length)).1 (z32 a b (bG (KF a b) a.length)).2:=
 OJ (st:=fun i _=>w32 a b i []) (fun _ _=>True) (by kernel_rfl) hl Qu trivial (fun k s n hk _ ih=>aO hO (.b (bC hk) (.o (aH hk) (.o (aH (h▸hk)) (.ls (.ou nofun) (.nx (ih _ trivial))))))) (fun s _=>aO hO (.b (fD a.length) (.ou nofun)))
theorem Ef{a b:List Int}(h:a.length=b.length):jS (bG (KF a b) a.length)=decide (a=b):=by
 rw[a4H,dK,a1Q,oP (d:=0) h];simp[KF]
theorem a6A{a b:List Int}(h:((a.length:Int) != (b.length:Int))=true):decide (a=b)=false:=by
 rw[a3g];rintro rfl;simp at h
theorem lQ{α β:Type}{a:List α}{b:List β}(h:((a.length:Int) != (b.length:Int))=false):a.length=b.length:=by simp at h;omega
def aiY:eY aF:=bZ 32 (a2 rO rO) tA (fun p=>decide (p.1=p.2)) (fun p=>[p.1.length<=ah]) aiX
theorem aou:Gd aiY:=aos.add fun n hO p hp=>aN hO (.s (fun h=>.v false (a6A h).symm) fun h=>.z (c:=jS (bG (KF p.1 p.2) p.1.length)) (fun h2=>.w (kG (l32 hO p.1 p.2 (hp _ (.head _)) (lQ h)) () h2) (.v true (by rw[<-Ef (lQ h),h2]))) fun h2=>.w (kH (l32 hO p.1 p.2 (hp _ (.head _)) (lQ h)) 0 h2) (.v false (by rw[<-Ef (lQ h),h2])))
abbrev aa6(a:List Int)(n i:Int)(x:List (Nat×PE aF)):aS aF:=⟨[(0,xL 3 a),(5,xi n),(6,xi i)]++x,[],[]⟩
theorem aov{n:Nat}{fJ:eY aF}(hO:Ok n fJ)(a:List Int)(hl:a.length<=ah):Lp n 104 0 (aa6 a 1 0 []) (.exit 0) (aa6 a (EX a) a.length [(11,xl false)]):=
 KD (st:=fun i n=>aa6 a n i []) (fin:=fun n=>aa6 a n a.length [(11,xl false)]) (fun _ _=>True) (by kernel_rfl) hl Qu trivial (fun _ _ _ _=>trivial) (fun k s hk _ n e p h=>aO hO (.b (bC hk) (.o (aH hk) (.go h)))) (fun s _=>aO hO (.b (fD a.length) .ex))
def acu:eY aF:=bZ 104 (a2 rO iA) iA (fun p=>EX p.1) (fun p=>[p.1.length<=ah,p.2=0]) aiY
theorem aiZ:Gd acu:=aou.add fun n hO p hp=>by
 obtain⟨a,k⟩:=p;have h0:k=0:=hp _ (.tail _ (.head _));subst h0;exact aN hO (.w (aov hO a (hp _ (.head _))) .rr)
def aeV:eY aF:=bZ 49 (a1 rO) iA (fun p=>EX p) (fun p=>[p.length<=ah]) acu
theorem aow:Gd aeV:=aiZ.add fun n hO p hp=>aN hO (.o (hp _ (.head _)) (.o (rfl:(0:Int)=0) .rr))
abbrev KG(b:List Int)(k j:Nat):Bool:=b.getD j 0==b.getD k 0
abbrev a3h(a b:List Int)(i:Int)(x:List (Nat×PE aF)):aS aF:=⟨[(0,xL 3 a),(1,xL 3 b),(5,xi i)]++x,[],[]⟩
def acv(a b:List Int)(k:Int)(i:Int):Unit⊕Nat->Ex×aS aF
 |.inl _=>(.exit 2,a3h a b k [(6,xi i),(29,xl false)])
 |.inr _=>(.ret,⟨[(4,xl false)],[],[]⟩)
theorem acw{n:Nat}{fJ:eY aF}(hO:Ok n fJ)(a b:List Int)(k:Nat)(hl:k<=ah)(h:k<b.length):Lp n 109 1 (a3h a b k [(6,xi 0)]) (acv a b k k (bG (KG b k) k)).1 (acv a b k k (bG (KG b k) k)).2:=
 OJ (st:=fun i _=>a3h a b k [(6,xi i)]) (fun _ _=>True) (by kernel_rfl) hl Qu trivial (fun j s n hk _ ih=>aO hO (.b (bC hk) (.o (aH (show j<b.length by omega)) (.o (aH h) (.ls (.ou nofun) (.nx (ih _ trivial))))))) (fun s _=>aO hO (.b (fD k) (.ou nofun)))
abbrev ZI(m:Int)(b:List Int)(k:Nat):Bool:=if(!(nX (b.getD k 0) 0 m))=true then true else if jS (bG (KG b k) k)=true then false else true
def z109(a b:List Int):Unit⊕Nat->Ex×aS aF
 |.inl _=>(.exit 0,a3h a b b.length [(15,xl false)])
 |.inr _=>(.ret,⟨[(4,xl false)],[],[]⟩)
abbrev xw(s:List Int):Int:=i64.wrap ((s.length:Int)-1)
theorem aj0{n:Nat}(hO:Ok n aeV)(a b:List Int)(hl:b.length<=ah):Lp n 109 0 (a3h a b 0 []) (z109 a b (bG (ZI (xw a) b) b.length)).1 (z109 a b (bG (ZI (xw a) b) b.length)).2:=
 OJ (st:=fun i _=>a3h a b i []) (fun _ _=>True) (by kernel_rfl) hl Qu trivial (fun k s n hk _ ih=>by
  unfold gS ZI;cases h1:(!(nX (b.getD k 0) 0 (xw a)))
  .cases h2:jS (bG (KG b k) k)
   .exact aO hO (.b (bC hk) (.o (aH hk) (.b h1 (.w (kH (acw hO a b k (by omega) hk) 0 h2) (.ou nofun)))))
   .exact aO hO (.b (bC hk) (.o (aH hk) (.b h1 (.w (kG (acw hO a b k (by omega) hk) () h2) (.nx (ih _ trivial))))))
  .exact aO hO (.b (bC hk) (.o (aH hk) (.b h1 (.ou nofun))))
  ) (fun s _=>aO hO (.b (fD b.length) (.ou nofun)))
theorem a6B{s:List Int}(h:s.length<=ah):xw s=(s.length:Int)-1:=by unfold xw;unfold ah at h;exact fG (by omega) (by omega)
theorem vO{k lo hi:Int}:nX k lo hi=true↔lo<=k∧k<=hi:=by
 unfold nX;split
 .rename_i h;simp at h ⊢;omega
 rename_i h;simp at h ⊢;omega
theorem Xk{a b:List Int}(ha:a.length<=ah)(h:b.length=a.length):jS (bG (ZI (xw a) b) b.length)=jV a.length b:=by
 rw[a4H,dK,jV,a1Q];have e1:(∀j,j<b.length->ZI (xw a) b j=false)↔(∀j,j<b.length->(0<=b.getD j 0∧b.getD j 0<a.length)∧∀i,i<j->b.getD i 0≠b.getD j 0):=by
  refine abT fun j=>abT fun hj=>?_;unfold ZI;rw[a6B ha];cases h1:nX (b.getD j 0) 0 ((a.length:Int)-1)
  .simp only[abw,a2w,af4,false_iff];intro h2;have:nX (b.getD j 0) 0 ((a.length:Int)-1)=true:=by
    rw[vO];omega
   rw[h1]at this;cases this
  have h3:0<=b.getD j 0∧b.getD j 0<a.length:=by
   rw[vO]at h1;omega
  simp only[a8U,a2P,a3T,h3,ad9,true_and];cases h2:jS (bG (KG b j) j)
  .simp only[a2P,a3T,af4,false_iff];intro h4;have:jS (bG (KG b j) j)=true:=dK.2 fun i hi=>(by simpa[KG]using h4 i hi);rw[h2]at this;cases this
  simp only[a2w,true_iff];intro i hi;have:=dK.1 h2 i hi;simpa[KG]using this
 rw[e1];constructor
 .intro hq;refine⟨h,(OI (d:=0)).1 fun j hj=>(hq j hj).1,?_⟩;rw[abV,abX];intro i j hi hj zZ;have:=(hq j hj).2 i zZ;simpa[List.getD,a0f hi,a0f hj]using this
 rintro⟨_,h2,h3⟩ j hj;refine⟨(OI (d:=0)).2 h2 j hj,fun i hi=>?_⟩;rw[abV,abX]at h3;have:=h3 i j (by omega) hj hi;simpa[List.getD,a0f (show i<b.length by omega),a0f hj]using this
theorem aa7{a b:List Int}(h:((b.length:Int) != (a.length:Int))=true):jV a.length b=false:=by
 unfold jV;rw[a3g];rintro⟨h1,_⟩;rw[h1]at h;simp at h
def a6C:eY aF:=bZ 109 (a2 rO rO) tA (fun p=>jV p.1.length p.2) (fun p=>[p.1.length<=ah,p.2.length<=ah]) aeV
theorem aj1:Gd a6C:=aow.add fun n hO p hp=>aN hO (.s (fun h=>.v false (aa7 h).symm) fun h=>.z (c:=jS (bG (ZI (xw p.1) p.2) p.2.length)) (fun h2=>.w (kG (aj0 hO p.1 p.2 (hp _ (.tail _ (.head _)))) () h2) (.v true (by rw[<-Xk (hp _ (.head _)) (lQ h),h2]))) fun h2=>.w (kH (aj0 hO p.1 p.2 (hp _ (.tail _ (.head _)))) 0 h2) (.v false (by rw[<-Xk (hp _ (.head _)) (lQ h),h2])))
abbrev cSz(a:List Int)(k:Nat):Bool:=!(nX (a.getD k 0) 1 12)
theorem aa8{a:List Int}:jS (bG (cSz a) a.length)=decide (nJ a):=by
 rw[a4H,dK,a1Q,nJ,<-OI (d:=0)];refine abT fun j=>abT fun hj=>?_;simp only[cSz,abD,vO]
abbrev w58(a b:List Int)(i:Int)(x:List (Nat×PE aF)):aS aF:=⟨[(0,xL 3 a),(1,xL 3 b),(5,xi i)]++x,[],[]⟩
def z58(a b:List Int):Unit⊕Nat->Ex×aS aF
 |.inl _=>(.exit 0,w58 a b a.length [(12,xl false)])
 |.inr _=>(.ret,⟨[(4,xi 3)],[],[]⟩)
theorem l58{n:Nat}(hO:Ok n a6C)(a b:List Int)(hl:a.length<=ah):Lp n 58 0 (w58 a b 0 []) (z58 a b (bG (cSz a) a.length)).1 (z58 a b (bG (cSz a) a.length)).2:=
 OJ (st:=fun i _=>w58 a b i []) (fun _ _=>True) (by kernel_rfl) hl Qu trivial (fun k s n hk _ ih=>aO hO (.b (bC hk) (.o (aH hk) (.ls (.ou nofun) (.nx (ih _ trivial)))))) (fun s _=>aO hO (.b (fD a.length) (.ou nofun)))
def bW(s o:List Int):Int:=if decide ((s.length:Int)>6)=true then 5 else if jS (bG (cSz s) s.length)=true then(if decide (EX s>2000)=true then 5 else if(!(jV s.length o))=true then 4 else 0)else 3
theorem aa9{s:List Int}(h:decide ((s.length:Int)>6)=false):s.length<=6:=by simp at h;omega
theorem a1m{k:Nat}(h:k<=6):k<=ah:=by unfold ah;omega
def aj3:eY aF:=bZ 58 (a2 rO rO) iA (fun p=>bW p.1 p.2) (fun p=>[p.2.length<=ah]) a6C
theorem aoy:Gd aj3:=aj1.add fun n hO p hp=>aN hO (.sh (fun _=>.rr) fun h=>.zh (fun h2=>.w (kG (l58 hO p.1 p.2 (a1m (aa9 h))) () h2) (.o (a1m (aa9 h)) (.o (rfl:(0:Int)=0) (.ss .rr (.o (a1m (aa9 h)) (.o (hp _ (.head _)) (.ss .rr .rr))))))) fun h2=>.w (kH (l58 hO p.1 p.2 (a1m (aa9 h))) 0 h2) .rr)
theorem OW(s o:List Int):bW s o=if 6<s.length then 5 else if nJ s then(if 2000<bg s then 5 else if jV s.length o=true then 0 else 4)else 3:=by
 unfold bW;rw[aa8];by_cases h1:6<s.length
 .rw[a0p h1,a0p (by simp;omega)]
 rw[a0o h1,a0o (by simp;omega)];by_cases h2:nJ s
 .rw[a0p (by simpa using h2),a0p h2,Xe h2];by_cases h3:2000<bg s
  .rw[a0p h3,a0p (by simp;omega)]
  rw[a0o h3,a0o (by simp;omega)];cases jV s.length o<;>simp
 rw[a0o (by simpa using h2),a0o h2]
theorem kN{s o:List Int}:bW s o=0↔uS s∧jV s.length o=true:=by
 rw[OW];constructor
 .intro h;split at h
  .cases h
  split at h
  .split at h
   .cases h
   split at h
   .exact⟨⟨by omega,by assumption,by omega⟩,by assumption⟩
   cases h
  cases h
 rintro⟨⟨h1,h2,h3⟩,h4⟩;rw[a0o (by omega),a0p h2,a0o (by omega),a0p h4]
abbrev w53(a:List Int)(i:Int)(s:Int×List Int)(x:List (Nat×PE aF)):aS aF:=⟨[(0,xL 3 a),(1,xi s.1),(5,xo 0),(6,xi i)]++x,[],[.list true true 3 s.2]⟩
theorem szk{a:List Int}(hs:nJ a){k:Nat}(hk:k<a.length):a.getD k 0≠0:=by have:=hs _ (dn hk);omega
theorem aeW(k:Nat):decide ((k:Int)>=0)=true:=by simp
theorem l53{n:Nat}{fJ:eY aF}(hO:Ok n fJ)(a:List Int)(m:Int)(hl:a.length<=ah)(hs:nJ a):Lp n 53 0 (w53 a (i64.wrap ((a.length:Int)-1)) (m,List.replicate a.length 0) []) (.exit 0) (w53 a (-1) (OH (a3a a) a.length (m,List.replicate a.length 0)) [(14,xl false)]):=
 aiq (st:=fun i s=>w53 a i s []) (fin:=fun s=>w53 a (-1) s [(14,xl false)]) (fun _ s=>s.2.length=a.length) (by kernel_rfl) hl Qu (by simp) (fun k s _ h=>by simp[a3a,h]) (fun k s hk hi n e p h=>aO hO (.b (aeW k) (.o (aH hk) (.o (szk hs hk) (.o (aH (show k<s.2.length by omega)) (.o (aH hk) (.o (szk hs hk) (.go h)))))))) (fun s _=>aO hO (.b (rfl:decide ((-1:Int)>=0)=false) .ex))
theorem mk1{α:Type}(l:List α):(l.length:Int)=(l.length:Int):=rfl
theorem mk2{α:Type}(l:List α):(0:Int)<=(l.length:Int):=by omega
theorem mk3{α:Type}{l:List α}(h:l.length<=ah):(l.length:Int)<=(ah:Int):=by omega
def aj6:eY aF:=bZ 53 (a2 rO iA) rO (fun p=>jT p.1 p.2) (fun p=>[p.1.length<=ah,nJ p.1,0<=p.2,p.2<2^62]) aj3
theorem aoz:Gd aj6:=aoy.add fun n hO p hp=>aN hO (.o (mk1 p.1) (.o (mk2 p.1) (.o (mk3 (hp _ (.head _))) (.w (l53 hO p.1 p.2 (hp _ (.head _)) (hp _ (.tail _ (.head _)))) (.v (OH (a3a p.1) p.1.length (p.2,List.replicate p.1.length 0)).2 (a6t (hp _ (.tail _ (.head _))) (hp _ (.tail _ (.tail _ (.head _)))) (hp _ (.tail _ (.tail _ (.tail _ (.head _))))) a8s))))))
def vOk(v:V):Bool:=if(v.f==0)=true then nX v.n (-9999) 9999 else if(decide (v.f<=4))=true then v.n==0 else false
def aj7:eY aF:=bZ 29 (a1 vA) tA (fun p=>vOk p) np aj6
theorem aoA:Gd aj7:=aoz.add fun n hO p hp=>aN hO (.ss .rr (.ss .rr .rr))
def vIs(v:V):Bool:=if(decide (v.f>0))=true then(if(decide (v.f<=4))=true then v.n==0 else false)else nX v.n (-9999) 9999
theorem aeX{v:V}(h:0<=v.f):vOk v=vIs v:=by
 unfold vOk vIs;by_cases h0:v.f=0
 .rw[a0p (by simp[h0]),a0o (by simp;omega)]
 have:v.f>0:=by omega
 simp[h0,this]
open Go Tw Pv dh
def dO(n:Nat):List Int:=(List.range n).map fun(k:Nat)=>(k:Int)
theorem lS(n:Nat):(dO n).length=n:=by simp[dO]
theorem Sz(n:Nat):jV n (dO n)=true:=by
 unfold jV;rw[a1Q];refine⟨lS n,fun a ha=>?_,?_⟩
 .simp only[dO,a1l,a4s]at ha;obtain⟨k,h1,rfl⟩:=ha;omega
 unfold dO;exact List.Pairwise.map _ (fun a b h=>by omega) adM
open Go Tw Pv dh
abbrev V.tv(v:V):TV:=.agg [.int .u8 v.f,.int .i64 v.n]
theorem a3i:Tryz.prog.underlying 3=some (.int .i64):=by kernel_rfl
theorem uU8:Tryz.prog.underlying 5=some (.int .u8):=by kernel_rfl
theorem aeY : Tryz.prog.underlying 39 = some (.struct #[⟨"Fault", 5, 0, false, "", "", 0⟩, ⟨"N", 3, 1, false, "", "", 8⟩]) := by kernel_rfl
theorem a1n(d:Nat)(a b:V):aB Qp (Op.equalIn (d+2) 39 (.agg #[.int .u8 a.f,.int .i64 a.n]) (.agg #[.int .u8 b.f,.int .i64 b.n]))=some (decide (a=b)):=by
 rw[yg (d+1) 39 _ _ _ aeY (by kernel_rfl)];have p0:∀x y:Value,aB Qp (part 5 #[x,y] 0)=some x:=by intro x y;kernel_rfl
 have p1:∀x y:Value,aB Qp (part 3 #[x,y] 1)=some y:=by intro x y;kernel_rfl
 have n1 : ("Fault" : String) ≠ "_" := by decide
 have n2 : ("N" : String) ≠ "_" := by decide
 have q1 := oL (f := ⟨"Fault", 5, 0, false, "", "", 0⟩) (fs := [⟨"N", 3, 1, false, "", "", 8⟩]) n1 (p0 (.int .u8 a.f) (.int .i64 a.n)) (p0 (.int .u8 b.f) (.int .i64 b.n)) (qY d _ _ _ _ _ uU8);have q2 := oL (f := ⟨"N", 3, 1, false, "", "", 8⟩) (fs := []) n2 (p1 (.int .u8 a.f) (.int .i64 a.n)) (p1 (.int .u8 b.f) (.int .i64 b.n)) (qY d _ _ _ _ _ a3i);rw[q1,q2];rw[show aB Qp (Op.eqFields (d+1) #[.int .u8 a.f,.int .i64 a.n] #[.int .u8 b.f,.int .i64 b.n] [])=some true from rfl];rcases a with⟨a1,a2⟩;rcases b with⟨b1,b2⟩;by_cases h1:a1=b1<;>by_cases h2:a2=b2<;>simp[h1,h2]
theorem eqV(x y:Operand)(a b:V):sF Qp .eql 39 x y (V.tv a) (V.tv b)=some (.bool (decide (a=b))):=(GX rfl rfl (by kernel_rfl) (by decide) (a1n 9998 a b)).1
theorem neV(x y:Operand)(a b:V):sF Qp .neq 39 x y (V.tv a) (V.tv b)=some (.bool (!decide (a=b))):=(GX rfl rfl (by kernel_rfl) (by decide) (a1n 9998 a b)).2
open Go Tw Pv dh
abbrev cAl(a b:List V)(k:Nat):Bool:=!decide (a.getD k V0=b.getD k V0)
abbrev w75(a b:List V)(i:Int)(x:List (Nat×PE aF)):aS aF:=⟨[(0,xL 39 a),(1,xL 39 b),(5,xi i)]++x,[],[]⟩
def z75(a b:List V):Unit⊕Nat->Ex×aS aF
 |.inl _=>(.exit 0,w75 a b a.length [(14,xl false)])
 |.inr _=>(.ret,⟨[(4,xl false)],[],[]⟩)
theorem l75{n:Nat}{fJ:eY aF}(hO:Ok n fJ)(a b:List V)(hl:a.length<=ah)(h:a.length=b.length):Lp n 75 0 (w75 a b 0 []) (z75 a b (bG (cAl a b) a.length)).1 (z75 a b (bG (cAl a b) a.length)).2:=
 OJ (st:=fun i _=>w75 a b i []) (fun _ _=>True) (by kernel_rfl) hl Qu trivial (fun k s n hk _ ih=>aO hO (.b (bC hk) (.o (aH hk) (.o (aH (h▸hk)) (.q (.bool (cAl a b k)) (neV (.tmp 20) (.tmp 24) (a.getD k V0) (b.getD k V0)) (.ls (.ou nofun) (.nx (ih _ trivial)))))))) (fun s _=>aO hO (.b (fD a.length) (.ou nofun)))
theorem a1o{a b:List V}(h:a.length=b.length):jS (bG (cAl a b) a.length)=decide (a=b):=by
 rw[a4H,dK,a1Q,oP (d:=V0) h];simp[cAl]
theorem aac{a b:List V}(h:((a.length:Int) != (b.length:Int))=true):decide (a=b)=false:=by
 rw[a3g];rintro rfl;simp at h
def aj8:eY aF:=bZ 75 (a2 vsA vsA) tA (fun p=>decide (p.1=p.2)) (fun p=>[p.1.length<=ah]) aj7
theorem aoF:Gd aj8:=aoA.add fun n hO p hp=>aN hO (.s (fun h=>.v false (aac h).symm) fun h=>.z (c:=jS (bG (cAl p.1 p.2) p.1.length)) (fun h2=>.w (kG (l75 hO p.1 p.2 (hp _ (.head _)) (lQ h)) () h2) (.v true (by rw[<-a1o (lQ h),h2]))) fun h2=>.w (kH (l75 hO p.1 p.2 (hp _ (.head _)) (lQ h)) 0 h2) (.v false (by rw[<-a1o (lQ h),h2])))
open Go Tw Pv dh
abbrev RhB(n f k B m:Nat)(s:aS aF)(e:Ex)(p:aS aF):Prop:=dJ X0 Qp T (bQ n) LL f false (BM Qp f) B (RZ Qp f k) m s e p
abbrev hdP(f k:Nat)(w:aS aF):aS aF:=gQ X0 (T.eH f (dV (RZ Qp f k))) w
section
variable {n f k B N:Nat} {σ ρ:Type}
theorem yu{st:Int->σ->aS aF}{g:Nat->σ->σ}{e:Ex}{fin:σ->aS aF}{s0:σ}{w:aS aF}(Inv:Nat->σ->Prop)(h0:hdP f k w=st 0 s0)(hl:N<=ah)(hi:Inv 0 s0)(hv:∀j s,j<N->Inv j s->Inv (j+1) (g j s))
  (hs:∀(j:Nat) (s:σ),j<N->Inv j s->∀m e1 p,RhB n f k B m (st (i64.wrap (j+1)) (g j s)) e1 p->RhB n f k B (m+1) (st j s) e1 p)
  (ho:∀s,Inv N s->RhB n f k B 1 (st N s) e (fin s)):OU n f k B w e (fin (aT g N 0 s0)):=KD Inv h0 hl Qu hi hv hs ho
theorem iV{st:Int->σ->aS aF}{g:Nat->σ->σ⊕ρ}{out:σ⊕ρ->Ex×aS aF}{s0:σ}{w:aS aF}(Inv:Nat->σ->Prop)(h0:hdP f k w=st 0 s0)(hl:N<=ah)(hi:Inv 0 s0)
  (hs:∀(j:Nat) (s:σ) (m:Nat),j<N->Inv j s->(∀s1,Inv (j+1) s1->RhB n f k B m (st (i64.wrap (j+1)) s1) (vw (X:=X0) out g (N-(j+1)) (j+1) (.inl s1)).1 (vw (X:=X0) out g (N-(j+1)) (j+1) (.inl s1)).2) ->
   RhB n f k B (m+1) (st j s) (vw (X:=X0) out g (N-(j+1)) (j+1) (g j s)).1 (vw (X:=X0) out g (N-(j+1)) (j+1) (g j s)).2)
  (ho:∀s,Inv N s->RhB n f k B 1 (st N s) (out (.inl s)).1 (out (.inl s)).2):OU n f k B w (out (kJ g N 0 s0)).1 (out (kJ g N 0 s0)).2:=OJ Inv h0 hl Qu hi hs ho
theorem a1p{a:Nat}{st:Int->σ->aS aF}{g:Nat->σ->σ⊕ρ}{out:σ⊕ρ->Ex×aS aF}{s0:σ}{w:aS aF}(Inv:Nat->σ->Prop)(h0:hdP f k w=st a s0)(ha:a<=N)(hl:N<=ah)(hi:Inv a s0)
  (hs:∀(j:Nat) (s:σ) (m:Nat),a<=j->j<N->Inv j s->(∀s1,Inv (j+1) s1->RhB n f k B m (st (i64.wrap (j+1)) s1) (vw (X:=X0) out g (N-(j+1)) (j+1) (.inl s1)).1 (vw (X:=X0) out g (N-(j+1)) (j+1) (.inl s1)).2) ->
   RhB n f k B (m+1) (st j s) (vw (X:=X0) out g (N-(j+1)) (j+1) (g j s)).1 (vw (X:=X0) out g (N-(j+1)) (j+1) (g j s)).2)
  (ho:∀s,Inv N s->RhB n f k B 1 (st N s) (out (.inl s)).1 (out (.inl s)).2):OU n f k B w (out (kJ g (N-a) a s0)).1 (out (kJ g (N-a) a s0)).2:=aeL Inv h0 ha hl Qu hi hs ho
theorem ZJ{st:σ->aS aF}{g:σ->σ⊕ρ}{out:ρ->Ex×aS aF}(Inv:σ->Prop){m:Nat}{s:σ}{r:ρ}{w:aS aF}(hr:itF g m s=some r)(h0:hdP f k w=st s)(hk:m<=LL)(hv:Inv s)(hi:∀s s1,Inv s->g s=.inl s1->Inv s1)
  (hs:∀s m r,Inv s->(∀s1,g s=.inl s1->RhB n f k B m (st s1) (out r).1 (out r).2)->RhB n f k B (m+1) (st s) (D7 (X:=X0) out r (g s)).1 (D7 (X:=X0) out r (g s)).2):OU n f k B w (out r).1 (out r).2:=aeG Inv hr h0 hk hv hi hs
end
open Go Tw Pv dh
structure Prt(l:List V)(w n:Nat):Prop where
 n12:n<=12
 w2:w<=5000
 len:l.length=n*w
section
variable {l:List V} {w n j:Nat} (h:Prt l w n)
include h
end
theorem SA{α β:Type}(l:List α)(d:α)(f:α->β):(List.range l.length).map (fun k=>f (l.getD k d))=l.map f:=by
 apply a9k (by simp);intro i h1 h2;have:i<l.length:=by simpa using h1
 simp[List.getD,a0f this]
open Go Tw Pv dh
theorem Xl{s p:List Int}{ch d:Int}(hp:jM s p=true)(hc:gq ch s.length)(hd:gq d (s.getD ch.toNat 0).toNat):jM s (p.set ch.toNat d)=true:=by
 rw[pU]at hp ⊢;obtain⟨c1,c2⟩:=hc;obtain⟨d1,d2⟩:=hd;refine⟨by simp[hp.1],fun j hj=>?_⟩;rw[yY (by omega)];split
 .rename_i e;subst e;omega
 exact hp.2 j hj
open Go Tw Pv dh
abbrev au(d:Dg)(r:Int):Br:=d.aj.getD r.toNat kM
abbrev OX(d:Dg)(r:Int)(k:Nat):Bool:=d.aG.getD k 0==(au d r).var
abbrev a3j(d:Dg)(r i:Int)(x:List (Nat×PE aF)):aS aF:=⟨[(1,xi r),(2,.loc 0 0),(5,xi i)]++x,[d.ps],[]⟩
def aj9(d:Dg)(r:Int)(N:Nat):Unit⊕Nat->Ex×aS aF
 |.inl _=>(.exit 0,a3j d r N [(14,xl false)])
 |.inr k=>(.ret,⟨[(4,xi k)],[d.ps],[]⟩)
theorem aja{r:Int}(h:0<=r):decide (r>=0)=true:=by simpa using h
theorem ajb{n:Nat}{fJ:eY aF}(hO:Ok n fJ)(d:Dg)(r:Int)(hl:d.aG.length<=ah)(h:gq r d.aj.length):Lp n 177 0 (a3j d r 0 []) (aj9 d r d.aG.length (bG (OX d r) d.aG.length)).1 (aj9 d r d.aG.length (bG (OX d r) d.aG.length)).2:=
 iV (st:=fun i _=>a3j d r i []) (fun _ _=>True) (by kernel_rfl) hl trivial (fun k s m hk _ ih=>aO hO (.b (aja h.1) (.b (bC hk) (.o (aH hk) (.o h (.ls (.ou nofun) (.nx (ih _ trivial)))))))) (fun s _=>aO hO (.b (aja h.1) (.b (fD d.aG.length) (.ou nofun))))
theorem ajc{n:Nat}{fJ:eY aF}(hO:Ok n fJ)(d:Dg)(r:Int)(h:r<0):Lp n 177 0 (a3j d r 0 []) (.exit 0) (a3j d r 0 [(14,xl false)]):=
 zq (ps:=a3j d r 0 []) (aO hO (.b (show decide (r>=0)=false by simpa using h) .ex)) (by kernel_rfl) (by decide:1<=LL)
def tK(d:Dg)(r:Int):Int:=if decide (r<0)=true then(d.aG.length:Int)else if jS (bG (OX d r) d.aG.length)=true then(d.aG.length:Int)else((D6 0 (bG (OX d r) d.aG.length):Nat):Int)
def acy:eY aF:=bZ 177 (a2 dA iA) iA (fun p=>tK p.1 p.2) (fun p=>[p.1.aG.length<=ah,0<=p.2->gq p.2 p.1.aj.length]) aj8
theorem ajd:Gd acy:=aoF.add fun n hO p hp=>aN hO (.zh (fun h=>.w (ajc hO p.1 p.2 (by simpa using h)) .rr) fun h=>.zh (fun h2=>.w (kG (ajb hO p.1 p.2 (hp _ (.head _)) (hp (0<=p.2->gq p.2 p.1.aj.length) (.tail _ (.head _)) (by simpa using h))) () h2) .rr) fun h2=>.w (kH (ajb hO p.1 p.2 (hp _ (.head _)) (hp (0<=p.2->gq p.2 p.1.aj.length) (.tail _ (.head _)) (by simpa using h))) 0 h2) .rr)
def iJ(d:Dg)(r below:Int):Bool:=if decide (r>=0)=true then decide (r<below)else nX (i64.wrap (-1-r)) 0 (i64.wrap ((d.aK.length:Int)-1))
def acz:eY aF:=bZ 176 (a3 dA iA iA) tA (fun p=>iJ p.1 p.2.1 p.2.2) np acy
theorem aje:Gd acz:=ajd.add fun n hO p hp=>aN hO (.ss .rr .rr)
abbrev OY(b:Br)(k:Nat):Bool:=b.ay.getD k 0 != b.ay.getD 0 0
abbrev aeZ(b:Br)(i:Int)(x:List (Nat×PE aF)):aS aF:=⟨[(1,.loc 0 0),(3,xi i)]++x,[b.ps],[]⟩
def ajf(b:Br):Unit⊕Nat->Ex×aS aF
 |.inl _=>(.exit 0,aeZ b (max 1 b.ay.length:Nat) [(8,xl false)])
 |.inr _=>(.ret,⟨[(2,xl false)],[b.ps],[]⟩)
theorem ajg{n:Nat}{fJ:eY aF}(hO:Ok n fJ)(b:Br)(hl:b.ay.length<=ah):Lp n 132 0 (aeZ b 1 []) (ajf b (Sl (OY b) 1 (max 1 b.ay.length))).1 (ajf b (Sl (OY b) 1 (max 1 b.ay.length))).2:=
 a1p (st:=fun i _=>aeZ b i []) (fun _ _=>True) (by kernel_rfl) (by omega) (by unfold ah at *;omega) trivial (fun k s m h1 hk _ ih=>aO hO (.b (bC (show k<b.ay.length by omega)) (.o (aH (show k<b.ay.length by omega)) (.o (show gq 0 b.ay.length from⟨by omega,by omega⟩) (.ls (.ou nofun) (.nx (ih _ trivial))))))) (fun s _=>aO hO (.b (show decide (((max 1 b.ay.length:Nat):Int)<(b.ay.length:Int))=false by simp only[a3g];omega) (.ou nofun)))
def Dl(b:Br):Bool:=if jS (Sl (OY b) 1 (max 1 b.ay.length))=true then true else false
def acA:eY aF:=bZ 132 (a1 brA) tA (fun p=>Dl p) (fun p=>[p.ay.length<=ah]) acz
theorem ajh:Gd acA:=aje.add fun n hO p hp=>aN hO (.zh (fun h=>.w (kG (ajg hO p (hp _ (.head _))) () h) .rr) fun h=>.w (kH (ajg hO p (hp _ (.head _))) 0 h) .rr)
abbrev SB(l:List Int)(n:Int)(k:Nat):Bool:=l.getD k 0==n
abbrev af0(l:List Int)(m i:Int)(x:List (Nat×PE aF)):aS aF:=⟨[(0,xL 3 l),(1,xi m),(5,xi i)]++x,[],[]⟩
def aji(l:List Int)(m:Int):Unit⊕Nat->Ex×aS aF
 |.inl _=>(.exit 0,af0 l m l.length [(9,xl false)])
 |.inr _=>(.ret,⟨[(4,xl true)],[],[]⟩)
theorem ajj{n:Nat}{fJ:eY aF}(hO:Ok n fJ)(l:List Int)(m:Int)(hl:l.length<=ah):Lp n 178 0 (af0 l m 0 []) (aji l m (bG (SB l m) l.length)).1 (aji l m (bG (SB l m) l.length)).2:=
 iV (st:=fun i _=>af0 l m i []) (fun _ _=>True) (by kernel_rfl) hl trivial (fun k s m hk _ ih=>aO hO (.b (bC hk) (.o (aH hk) (.ls (.ou nofun) (.nx (ih _ trivial)))))) (fun s _=>aO hO (.b (fD l.length) (.ou nofun)))
theorem SC{l:List Int}{m:Int}:jS (bG (SB l m) l.length)=!decide (m∈l):=by
 rw[a4H,dK];simp only[a8t,a3g];constructor
 .intro h hm;obtain⟨j,hj,e⟩:=a4J.1 hm;have:=h j hj;simp[SB,List.getD,a0f hj,e]at this
 intro h j hj;have e:l.getD j 0=l[j]:=by simp[List.getD,a0f hj]
 simp only[SB,agN,ne_eq,e];intro e2;exact h (e2▸a4z hj)
def acB:eY aF:=bZ 178 (a2 rO iA) tA (fun p=>decide (p.2∈p.1)) (fun p=>[p.1.length<=ah]) acA
theorem ajk:Gd acB:=ajh.add fun n hO p hp=>aN hO (.z (c:=jS (bG (SB p.1 p.2) p.1.length)) (fun h=>.w (kG (ajj hO p.1 p.2 (hp _ (.head _))) () h) (.v false (by rw[SC]at h;simp at h;simp[h]))) fun h=>.w (kH (ajj hO p.1 p.2 (hp _ (.head _))) 0 h) (.v true (by rw[SC]at h;simp at h;simp[h])))
abbrev a6E(l:List Int)(k:Nat):Bool:=l.getD k 0 != (k:Int)
abbrev af2(l:List Int)(m i:Int)(x:List (Nat×PE aF)):aS aF:=⟨[(0,xL 3 l),(1,xi m),(5,xi i)]++x,[],[]⟩
def ajl(l:List Int)(m:Int):Unit⊕Nat->Ex×aS aF
 |.inl _=>(.exit 0,af2 l m l.length [(9,xl false)])
 |.inr _=>(.ret,⟨[(4,xl false)],[],[]⟩)
theorem ajm{n:Nat}{fJ:eY aF}(hO:Ok n fJ)(l:List Int)(m:Int)(hl:l.length<=ah):Lp n 134 0 (af2 l m 0 []) (ajl l m (bG (a6E l) l.length)).1 (ajl l m (bG (a6E l) l.length)).2:=
 iV (st:=fun i _=>af2 l m i []) (fun _ _=>True) (by kernel_rfl) hl trivial (fun k s m hk _ ih=>aO hO (.b (bC hk) (.o (aH hk) (.ls (.ou nofun) (.nx (ih _ trivial)))))) (fun s _=>aO hO (.b (fD l.length) (.ou nofun)))
def zA(l:List Int)(m:Int):Bool:=if jS (bG (a6E l) l.length)=true then((l.length:Int)==m)else false
def Xm:eY aF:=bZ 134 (a2 rO iA) tA (fun p=>zA p.1 p.2) (fun p=>[p.1.length<=ah]) acB
theorem ajn:Gd Xm:=ajk.add fun n hO p hp=>aN hO (.zh (fun h=>.w (kG (ajm hO p.1 p.2 (hp _ (.head _))) () h) .rr) fun h=>.w (kH (ajm hO p.1 p.2 (hp _ (.head _))) 0 h) .rr)
abbrev cLk(d:Dg)(i k:Nat):Bool:=if(!(iJ d ((d.aj.getD i kM).ay.getD k 0) i))=true then true else decide (tK d ((d.aj.getD i kM).ay.getD k 0)<=tK d i)
abbrev fA(d:Dg)(i:Nat):Br:=d.aj.getD i kM
abbrev a6F(d:Dg)(i k:Int)(b:Br)(x:List (Nat×PE aF)):aS aF:=⟨[(1,.loc 0 0),(4,xi i),(5,.loc 1 0),(6,xi k)]++x,[d.ps,b.ps],[]⟩
def acC(d:Dg)(i:Nat):Unit⊕Nat->Ex×aS aF
 |.inl _=>(.exit 4,a6F d i (fA d i).ay.length (fA d i) [(57,xl false)])
 |.inr _=>(.ret,⟨[(2,xl false)],[d.ps,(fA d i).ps],[]⟩)
structure DgL(d:Dg):Prop where
 aG:d.aG.length<=ah
 aj:d.aj.length<=ah
 aK:d.aK.length<=ah
 bY:uS d.aA
theorem Xn{d:Dg}{r:Int}{i:Nat}(h:iJ d r i=true)(h0:0<=r)(hi:i<=d.aj.length):gq r d.aj.length:=by
 unfold iJ at h;rw[a0p (by simpa using h0)]at h;have:r<(i:Int):=by simpa using h
 exact⟨h0,by omega⟩
theorem ajo{n:Nat}(hO:Ok n Xm){d:Dg}(h:DgL d){i:Nat}(hi:i<d.aj.length)(hk:(fA d i).ay.length<=ah):Lp n 131 2 (a6F d i 0 (fA d i) []) (acC d i (bG (cLk d i) (fA d i).ay.length)).1 (acC d i (bG (cLk d i) (fA d i).ay.length)).2:=
 iV (st:=fun k _=>a6F d i k (fA d i) []) (fun _ _=>True) (by kernel_rfl) hk trivial (fun k s m hk _ ih=>by
  unfold gS cLk;cases e1:iJ d ((fA d i).ay.getD k 0) i
  .exact aO hO (.b (bC hk) (.o (aH hk) (.b (show(!(iJ d ((fA d i).ay.getD k 0) i))=true by rw[e1];rfl) (.ou nofun))))
  .exact aO hO (.b (bC hk) (.o (aH hk) (.b (show(!(iJ d ((fA d i).ay.getD k 0) i))=false by rw[e1];rfl) (.o (aH hk) (.o h.aG (.o (show 0<=(fA d i).ay.getD k 0->gq ((fA d i).ay.getD k 0) d.aj.length from fun h0=>Xn e1 h0 (by omega)) (.o h.aG (.o (show 0<=((i:Nat):Int)->gq i d.aj.length from fun _=>aH hi) (.ls (.ou nofun) (.nx (ih _ trivial)))))))))))
  ) (fun s _=>aO hO (.b (fD (fA d i).ay.length) (.ou nofun)))
abbrev ZK(d:Dg)(i:Nat):Bool:=if(!(nX (fA d i).var 0 (xw d.aA)))=true then true else if(((fA d i).ay.length:Int) != d.aA.getD (fA d i).var.toNat 0)=true then true else if jS (bG (cLk d i) (fA d i).ay.length)=true then false else true
abbrev a6G(d:Dg)(i:Int)(x:List (Nat×PE aF)):aS aF:=⟨[(1,.loc 0 0),(4,xi i)]++x,[d.ps],[]⟩
def acD(d:Dg):Unit⊕Nat->Ex×aS aF
 |.inl _=>(.exit 2,a6G d d.aj.length [(25,xl false)])
 |.inr k=>(.ret,⟨[(2,xl false)],[d.ps,(fA d k).ps],[]⟩)
theorem Ji{d:Dg}(h:uS d.aA){v:Int}(e:nX v 0 (xw d.aA)=true):gq v d.aA.length:=by
 rw[vO,a6B h.air]at e;exact⟨e.1,by omega⟩
theorem Xo{d:Dg}(h:uS d.aA){v:Int}(e:gq v d.aA.length){l:List Int}(hl:(((l.length:Int)) != d.aA.getD v.toNat 0)=false):l.length<=12:=by
 have:=h.sz _ (dn (s:=d.aA) (k:=v.toNat) (by have:=e.2;have:=e.1;omega));have hl:(l.length:Int)=d.aA.getD v.toNat 0:=by simpa using hl
 omega
theorem m12{k:Nat}(h:k<=12):k<=ah:=by unfold ah;omega
theorem acE{n:Nat}(hO:Ok n Xm){d:Dg}(h:DgL d):Lp n 131 1 (a6G d 0 []) (acD d (bG (ZK d) d.aj.length)).1 (acD d (bG (ZK d) d.aj.length)).2:=
 iV (st:=fun k _=>a6G d k []) (fun _ _=>True) (by kernel_rfl) h.aj trivial (fun k s m hk _ ih=>by
  unfold gS ZK;cases e1:nX (fA d k).var 0 (xw d.aA)
  .exact aO hO (.b (bC hk) (.o (aH hk) (.b (show(!(nX (fA d k).var 0 (xw d.aA)))=true by rw[e1];rfl) (.ou nofun))))
  .have hv:=Ji h.bY e1;cases e2:(((fA d k).ay.length:Int) != d.aA.getD (fA d k).var.toNat 0)
   .have hl:=ajo hO h hk (m12 (Xo h.bY hv e2));cases e3:jS (bG (cLk d k) (fA d k).ay.length)
    .exact aO hO (.b (bC hk) (.o (aH hk) (.b (show(!(nX (fA d k).var 0 (xw d.aA)))=false by rw[e1];rfl) (.o hv (.b e2 (.w (kH hl 0 e3) (.ou nofun)))))))
    .exact aO hO (.b (bC hk) (.o (aH hk) (.b (show(!(nX (fA d k).var 0 (xw d.aA)))=false by rw[e1];rfl) (.o hv (.b e2 (.w (kG hl () e3) (.nx (ih _ trivial))))))))
   .exact aO hO (.b (bC hk) (.o (aH hk) (.b (show(!(nX (fA d k).var 0 (xw d.aA)))=false by rw[e1];rfl) (.o hv (.b e2 (.ou nofun))))))
  ) (fun s _=>aO hO (.b (fD d.aj.length) (.ou nofun)))
abbrev cLe(d:Dg)(k:Nat):Bool:=!(vOk (d.aK.getD k V0))
abbrev a6I(d:Dg)(i:Int)(x:List (Nat×PE aF)):aS aF:=⟨[(1,.loc 0 0),(3,xi i)]++x,[d.ps],[]⟩
def acF(d:Dg):Unit⊕Nat->Ex×aS aF
 |.inl _=>(.exit 0,a6I d d.aK.length [(11,xl false)])
 |.inr _=>(.ret,⟨[(2,xl false)],[d.ps],[]⟩)
theorem acG{n:Nat}(hO:Ok n Xm){d:Dg}(h:DgL d):Lp n 131 0 (a6I d 0 []) (acF d (bG (cLe d) d.aK.length)).1 (acF d (bG (cLe d) d.aK.length)).2:=
 iV (st:=fun k _=>a6I d k []) (fun _ _=>True) (by kernel_rfl) h.aK trivial (fun k s m hk _ ih=>aO hO (.b (bC hk) (.o (aH hk) (.ls (.ou nofun) (.nx (ih _ trivial)))))) (fun s _=>aO hO (.b (fD d.aK.length) (.ou nofun)))
def lT(d:Dg):Bool:=if jS (bG (cLe d) d.aK.length)=true then(if jS (bG (ZK d) d.aj.length)=true then iJ d d.root d.aj.length else false)else false
def acH:eY aF:=bZ 131 (a1 dA) tA (fun p=>lT p) (fun p=>[DgL p]) Xm
theorem ajp:Gd acH:=ajn.add fun n hO p hp=>aN hO (.zh (fun h=>.w (kG (acG hO (show DgL p from hp _ (.head _))) () h) (.zh (fun h2=>.w (kG (acE hO (show DgL p from hp _ (.head _))) () h2) .rr) fun h2=>.w (kH (acE hO (show DgL p from hp _ (.head _))) 0 h2) .rr)) fun h=>.w (kH (acG hO (show DgL p from hp _ (.head _))) 0 h) .rr)
def bD(d:Dg):Int:=if(bW d.aA d.aG != 0)=true then bW d.aA d.aG else if decide ((d.aj.length:Int)>6000)=true then 5 else if(!(lT d))=true then 4 else 0
theorem UH{k:Nat}(h:decide ((k:Int)>6000)=false):k<=ah:=by simp at h;unfold ah;omega
theorem Az{s o:List Int}(h:(bW s o != 0)=false):uS s:=(kN.1 (by simpa using h)).1
def aad:eY aF:=bZ 83 (a1 dA) iA (fun p=>bD p) (fun p=>[p.aG.length<=ah,p.aK.length<=ah]) acH
theorem aoG:Gd aad:=ajp.add fun n hO p hp=>aN hO (.o (hp _ (.head _)) (.sh (fun _=>.rr) fun h=>.sh (fun _=>.rr) fun h2=>.o (show DgL p from⟨hp _ (.head _),UH h2,hp _ (.tail _ (.head _)),Az h⟩) (.ss .rr .rr)))
open Go Tw Pv dh
abbrev jD(r:Int):Int:=i64.wrap (-1-r)
def jO(d:Dg):Nat->Int->List Int×List Int->List Int×List Int
 | 0,_,x=>x
 |F+1,r,x=>if decide (r<0)=true then(if(!(decide (jD r∈x.2)))=true then(x.1,x.2++[jD r])else x)else if decide (r∈x.1)=true then x
  else((aT (fun k y=>jO d F ((au d r).ay.getD k 0) y) (au d r).ay.length 0 x).1++[r],(aT (fun k y=>jO d F ((au d r).ay.getD k 0) y) (au d r).ay.length 0 x).2)
def jq(d:Dg)(r:Int)(b:Nat):Prop:=r<b∧(r<0->gq (jD r) d.aK.length)
structure BH(d:Dg):Prop extends DgL d where
 zB:∀i,i<d.aj.length->∀k,k<(fA d i).ay.length->jq d ((fA d i).ay.getD k 0) i
 Jj:∀i,i<d.aj.length->(fA d i).ay.length<=12
 var:∀i,i<d.aj.length->gq (fA d i).var d.aA.length
 ksz:∀i,i<d.aj.length->((fA d i).ay.length:Int)=d.aA.getD (fA d i).var.toNat 0
 root:jq d d.root d.aj.length
structure Jk(d:Dg)(x:List Int×List Int):Prop where
 n1:x.1.Nodup
 n2:∀a∈x.1,gq a d.aj.length
 e1:x.2.Nodup
 e2:∀a∈x.2,gq a d.aK.length
theorem zC:∀(N:Nat) (l:List Int),l.Nodup->(∀a∈l,gq a N)->l.length<=N
 | 0,[],_,_=>a1b _
 | 0,a::l,_,h=>by obtain⟨h1,h2⟩:=h a (a3m ..);omega
 |N+1,l,hn,h=>by
  have h1:=zC N (l.erase (N:Int)) (hn.erase _) fun a ha=>by
   have h2:=(List.Nodup.mem_erase_iff hn).1 ha;have h3:=h a h2.2;exact⟨h3.1,by have:=h3.2;have:=h2.1;omega⟩
  by_cases hm:(N:Int)∈l
  .rw[List.length_erase_of_mem hm]at h1;omega
  rw[List.erase_of_not_mem hm]at h1;omega
theorem Jk.len{d:Dg}{x:List Int×List Int}(h:Jk d x):x.1.length<=d.aj.length∧x.2.length<=d.aK.length:=⟨zC _ _ h.n1 h.n2,zC _ _ h.e1 h.e2⟩
theorem wV{l:List Int}{a:Int}(h:l.Nodup)(ha:a∉l):(l++[a]).Nodup:=by
 rw[a8P];exact⟨h,by simp,fun x hx y hy e=>by simp at hy;subst hy;subst e;exact ha hx⟩
theorem a6J{d:Dg}:∀(F:Nat) (r s:Int) (x:List Int×List Int),r<s->s∉x.1->0<=s->(∀i,i<d.aj.length->∀k,k<(fA d i).ay.length->(fA d i).ay.getD k 0<i)->(0<=r->gq r d.aj.length)->s∉(jO d F r x).1
 | 0,_,_,_,_,h,_,_,_=>h
 |F+1,r,s,x,hr,h,h0,hk,hn=>by
  unfold jO;by_cases c:r<0
  .rw[a0p (by simpa using c)];split<;>exact h
  rw[a0o (by simpa using c)];split
  .exact h
  have hi:=hn (by omega);have DT:∀k,k<(au d r).ay.length->(au d r).ay.getD k 0<r:=fun k kC=>by
   obtain⟨i1,i2⟩:=hi;have h9:(au d r).ay.getD k 0<(r.toNat:Int):=hk r.toNat (by omega) k kC;omega
  have:=dF (g:=fun k y=>jO d F ((au d r).ay.getD k 0) y) (m:=(au d r).ay.length) (k:=0) (s:=x) (fun _ y=>s∉y.1) h (fun j y _ hj hy=>by
   have h4:=DT j (by omega);exact a6J F _ s y (by omega) hy h0 hk fun h5=>⟨h5,by have:=hi.2;omega⟩)
  simp only[a3k,a2U,adw];exact⟨this,by omega⟩
theorem KH{d:Dg}(h:BH d):∀(F:Nat) (r:Int) (x:List Int×List Int),Jk d x->jq d r d.aj.length->Jk d (jO d F r x)
 | 0,_,_,hx,_=>hx
 |F+1,r,x,hx,hr=>by
  unfold jO;by_cases c:r<0
  .rw[a0p (by simpa using c)];split
   .rename_i c2;have c2:jD r∉x.2:=(by simpa using c2);refine⟨hx.n1,hx.n2,wV hx.e1 c2,fun a ha=>?_⟩;rw[a3k,a2U]at ha;rcases ha with ha|rfl
    .exact hx.e2 a ha
    exact hr.2 c
   exact hx
  rw[a0o (by simpa using c)];split
  .exact hx
  rename_i c2;have c2:r∉x.1:=by simpa using c2
  have hi:gq r d.aj.length:=⟨by omega,hr.1⟩;have aQ:r.toNat<d.aj.length:=by have:=hr.1;omega
  have h1:=dF (g:=fun k y=>jO d F ((au d r).ay.getD k 0) y) (m:=(au d r).ay.length) (k:=0) (s:=x) (fun _ y=>Jk d y∧r∉y.1) ⟨hx,c2⟩ (fun j y _ hj hy=>by
   have hk:jq d ((au d r).ay.getD j 0) r.toNat:=h.zB r.toNat aQ j (by simpa using hj);obtain⟨k1,k2⟩:=hk;have kC:jq d ((au d r).ay.getD j 0) d.aj.length:=⟨by omega,k2⟩;refine⟨KH h F _ y hy.1 kC,a6J F _ r y (by omega) hy.2 (by omega) (fun i hi k hk=>(h.zB i hi k hk).1) fun h5=>⟨h5,kC.1⟩⟩)
  obtain⟨h2,h3⟩:=h1;refine⟨wV h2.n1 h3,fun a ha=>?_,h2.e1,h2.e2⟩;rw[a3k,a2U]at ha;rcases ha with ha|rfl
  .exact h2.n2 a ha
  exact hi
abbrev ls(l:List Int):PB aF:=.list false false 3 l
abbrev wSr(d:Dg)(r:Int)(k:Int)(s:List Int×List Int)(x:List (Nat×PE aF)):aS aF:=⟨[(1,xi r),(2,xo 2),(3,xo 3),(4,.loc 0 0),(10,.loc 1 0),(11,xi k)]++x,[d.ps,(au d r).ps],[.gone,.gone,ls s.1,ls s.2]⟩
abbrev ajq(n:Nat)(d:Dg)(r:Int)(x y:List Int×List Int):Prop:=aW X0 Qp (bQ n) (.fn 133 [] []) [.agg d.ps,.int .i64 r,.own 0,.own 1] [ls x.1,ls x.2] (.dI [.own 2,.own 3]) [.gone,.gone,ls y.1,ls y.2]
theorem sSr{N:Nat}(hO:∀m,N<=m->Ok m aad){d:Dg}(h:BH d):∀(F:Nat) (r:Int) (x:List Int×List Int),r+1<F->Jk d x->jq d r d.aj.length->1<=F->ajq (N+F) d r x (jO d F r x)
 | 0,r,x,_,_,_,h1=>by omega
 |F+1,r,x,hF,hx,hr,_=>by
  have hn:=hx.len.1;have he:=hx.len.2;have m1:=h.aj;have m2:=h.aK;have FT:=hO (N+F) (by omega);have mn:x.1.length<=ah:=by omega
  have me:x.2.length<=ah:=by omega
  unfold jO;by_cases c:r<0
  .have t0:decide (r<0)=true:=(by simpa using c);rw[a0p t0];by_cases c2:jD r∈x.2
   .have t1:(!(decide (jD r∈x.2)))=false:=(by simpa using c2);rw[a0o (by rw[t1];simp)];exact aW.gs hX (rG hX FT (first:=[]) (cap:=[]) (v:=.dI [.own 0,.own 1]) (H1:=[ls x.1,ls x.2]) (by kernel_rfl) (.b t0 (.o me (.b t1 .er)))) [.mv 0,.mv 1] rfl
   have t1:(!(decide (jD r∈x.2)))=true:=(by simpa using c2);rw[a0p t1];have e1:=zC _ _ (wV hx.e1 c2) (fun a ha=>by
    rw[a3k,a2U]at ha;rcases ha with ha|rfl
    .exact hx.e2 a ha
    exact hr.2 c)
   have e2:x.2.length+[jD r].length<=ah:=by rw[<-a2j];omega
   exact aW.gs hX (rG hX FT (first:=[]) (cap:=[]) (v:=.dI [.own 0,.own 3]) (H1:=[ls x.1,.gone,.list true true 3 ([jD r]:List Int),ls (x.2++[jD r])]) (by kernel_rfl) (.b t0 (.o me (.b t1 (.o e2 .er))))) [.mv 0,.gc [4,3]] rfl
  have t0:decide (r<0)=false:=by simpa using c
  rw[a0o (by rw[t0];simp)];by_cases c2:r∈x.1
  .have t1:decide (r∈x.1)=true:=(by simpa using c2);rw[a0p t1];exact aW.gs hX (rG hX FT (first:=[]) (cap:=[]) (v:=.dI [.own 0,.own 1]) (H1:=[ls x.1,ls x.2]) (by kernel_rfl) (.b t0 (.o mn (.b t1 .er)))) [.mv 0,.mv 1] rfl
  have t1:decide (r∈x.1)=false:=by simpa using c2
  rw[a0o (by rw[t1];simp)];have hi:gq r d.aj.length:=⟨by omega,hr.1⟩;obtain⟨i1,i2⟩:=id hi;have aQ:r.toNat<d.aj.length:=by omega
  have hl:OU (N+F) 133 0 2 (wSr d r 0 x []) (.exit 0) (wSr d r (au d r).ay.length (aT (fun k y=>jO d F ((au d r).ay.getD k 0) y) (au d r).ay.length 0 x) [(40,xl false)]):=by
   refine yu (σ:=List Int×List Int) (N:=(au d r).ay.length) (g:=fun k y=>jO d F ((au d r).ay.getD k 0) y) (s0:=x) (st:=fun k y=>wSr d r k y []) (fin:=fun y=>wSr d r (au d r).ay.length y [(40,xl false)]) (fun _ y=>Jk d y) (by kernel_rfl) (m12 (h.Jj r.toNat aQ)) hx (fun k y hk hy=>?_) (fun k y hk hy m e p g=>?_) (fun y _=>aO FT (.b (fD (au d r).ay.length) .ex))
   .have hk:jq d ((au d r).ay.getD k 0) r.toNat:=h.zB r.toNat aQ k hk;have k1:(au d r).ay.getD k 0<(r.toNat:Int):=hk.1;exact KH h F _ y hy ⟨by omega,hk.2⟩
   have kC:jq d ((au d r).ay.getD k 0) r.toNat:=h.zB r.toNat aQ k hk;have k1:=kC.1;have hs:=sSr hO h F ((au d r).ay.getD k 0) y (by omega) hy ⟨by omega,kC.2⟩ (by omega);exact aO FT (.b (bC hk) (.o (aH hk) (.fr [2,3] hs (.goG [.gc [4,5]] g))))
  generalize hy:aT (fun k y=>jO d F ((au d r).ay.getD k 0) y) (au d r).ay.length 0 x=y at hl;have sk:=KH h (F+1) r x hx hr;unfold jO at sk;rw[a0o (by rw[t0];simp),a0o (by rw[t1];simp),hy]at sk;have sl:(y.1++[r]).length<=d.aj.length:=sk.len.1;have ml:y.1.length+[r].length<=ah:=by rw[<-a2j];omega
  exact aW.gs hX (rG hX FT (first:=[]) (cap:=[]) (v:=.dI [.own 5,.own 3]) (H1:=[.gone,.gone,.gone,ls y.2,.list true true 3 ([r]:List Int),ls (y.1++[r])]) (by kernel_rfl) (.b t0 (.o mn (.b t1 (.o hi (.wG [.mv 0,.mv 1] hl (.o ml .er))))))) [.gc [5,3]] rfl
def nlA:Arg Unit where
 put _:=.nil .slc
 get v:=match v with
  |.nil .slc=>some ()
  |_=>none
 ok:=by
  intro v a hg A m h x hv;split at hg
  .exact hv
  .cases hg
abbrev wSn(d:Dg)(r:Int)(k:Int)(s:List Int×List Int)(x:List (Nat×PE aF)):aS aF:=⟨[(1,xi r),(2,xo 0),(3,xo 1),(4,.loc 0 0),(10,.loc 1 0),(11,xi k)]++x,[d.ps,(au d r).ps],[ls s.1,ls s.2]⟩
theorem sr0{d:Dg}:Jk d ([],[]):=⟨a5Y,by simp,a5Y,by simp⟩
def srN(d:Dg)(r:Int):List Int:=(jO d 6002 r ([],[])).1
def srE(d:Dg)(r:Int):List Int:=(jO d 6002 r ([],[])).2
def a1r:eY aF:=bZ 133 (a4 dA iA nlA nlA) (dQ (a2 rO rO)) (fun p=>(srN p.1 p.2.1,srE p.1 p.2.1)) (fun p=>[BH p.1,jq p.1 p.2.1 p.1.aj.length,p.1.aj.length<=6000]) aad
theorem ajs:Gd a1r:=aoG.deep 6001 fun n hn hO p hp=>by
 obtain⟨d,r,_,_⟩:=p;have h:BH d:=hp _ (.head _);have hr:jq d r d.aj.length:=hp _ (.tail _ (.head _));have hm:d.aj.length<=6000:=hp _ (.tail _ (.tail _ (.head _)));obtain⟨N,rfl⟩:∃N,n=N+6001:=⟨n-6001,by omega⟩;have hO:∀m,N<=m->Ok m aad:=fun m hm=>hO m (by omega);have FT:=hO (N+6001) (by omega);by_cases c:r<0
 .have t0:decide (r<0)=true:=by simpa using c
  have t1:(!(decide (jD r∈([]:List Int))))=true:=by simp
  have e:jO d 6002 r ([],[])=([],[jD r]):=by
   rw[jO,a0p t0,a0p t1];rfl
  show oq X0 Qp _ _ _ ((dQ (a2 rO rO)).put ((jO d 6002 r ([],[])).1,(jO d 6002 r ([],[])).2)) [];rw[e];exact aN FT (.b t0 (.o le0 (.b t1 (.o le1 (.rn (.dI [.nil .slc,.dB 3 ([jD r]:List Int) false]) rfl)))))
 .have t0:decide (r<0)=false:=by simpa using c
  have t1:decide (r∈([]:List Int))=false:=by simp
  have hi:gq r d.aj.length:=⟨by omega,hr.1⟩;obtain⟨i1,i2⟩:=id hi;have aQ:r.toNat<d.aj.length:=by omega
  have hl:OU (N+6001) 133 0 0 (wSn d r 0 ([],[]) []) (.exit 0) (wSn d r (au d r).ay.length (aT (fun k y=>jO d 6001 ((au d r).ay.getD k 0) y) (au d r).ay.length 0 ([],[])) [(40,xl false)]):=by
   refine yu (σ:=List Int×List Int) (N:=(au d r).ay.length) (g:=fun k y=>jO d 6001 ((au d r).ay.getD k 0) y) (s0:=(([],[]):List Int×List Int)) (st:=fun k y=>wSn d r k y []) (fin:=fun y=>wSn d r (au d r).ay.length y [(40,xl false)]) (fun _ y=>Jk d y) (by kernel_rfl) (m12 (h.Jj r.toNat aQ)) sr0 (fun k y hk hy=>?_) (fun k y hk hy m e p g=>?_) (fun y _=>aO FT (.b (fD (au d r).ay.length) .ex))
   .have hk:jq d ((au d r).ay.getD k 0) r.toNat:=h.zB r.toNat aQ k hk;have k1:(au d r).ay.getD k 0<(r.toNat:Int):=hk.1;exact KH h 6001 _ y hy ⟨by omega,hk.2⟩
   .have kC:jq d ((au d r).ay.getD k 0) r.toNat:=h.zB r.toNat aQ k hk;have k1:(au d r).ay.getD k 0<(r.toNat:Int):=kC.1;have hs:=sSr hO h 6001 ((au d r).ay.getD k 0) y (by omega) hy ⟨by omega,kC.2⟩ (by omega);exact aO FT (.b (bC hk) (.o (aH hk) (.fr [0,1] hs (.goG [.gc [2,3]] g))))
  have sk:=KH h 6002 r ([],[]) sr0 hr;have e:jO d 6002 r ([],[])=((aT (fun k y=>jO d 6001 ((au d r).ay.getD k 0) y) (au d r).ay.length 0 ([],[])).1++[r],(aT (fun k y=>jO d 6001 ((au d r).ay.getD k 0) y) (au d r).ay.length 0 ([],[])).2):=by
   rw[jO,a0o (by rw[t0];simp),a0o (by rw[t1];simp)]
  show oq X0 Qp _ _ _ ((dQ (a2 rO rO)).put ((jO d 6002 r ([],[])).1,(jO d 6002 r ([],[])).2)) [];rw[e]at sk ⊢;generalize aT (fun k y=>jO d 6001 ((au d r).ay.getD k 0) y) (au d r).ay.length 0 ([],[])=y at hl sk;have sl:(y.1++[r]).length<=d.aj.length:=sk.len.1;have m1:=h.aj;have ml:y.1.length+[r].length<=ah:=by rw[<-a2j];omega
  exact aN FT (.b t0 (.o le0 (.b t1 (.o hi (.wG [.IY 2 3,.IY 3 3] hl (.o ml .rr))))))
open Go Tw Pv dh
abbrev cD1(d:Dg)(i j:Nat):Bool:=decide (d.aK.getD j V0=d.aK.getD i V0)
abbrev cD0(d:Dg)(i:Nat):Bool:=if jS (bG (cD1 d i) i)=true then false else true
abbrev cD3(d:Dg)(i j:Nat):Bool:=if((fA d j).var==(fA d i).var)=true then decide ((fA d j).ay=(fA d i).ay)else false
abbrev cD2(d:Dg)(i:Nat):Bool:=if Dl (fA d i)=true then true else if jS (bG (cD3 d i) i)=true then false else true
abbrev wD(d:Dg)(x:List (Nat×PE aF)):aS aF:=⟨[(1,.loc 0 0)]++x,[d.ps],[]⟩
abbrev rD(d:Dg):Ex×aS aF:=(.ret,⟨[(2,xl false)],[d.ps],[]⟩)
def zD1(d:Dg)(i:Nat):Unit⊕Nat->Ex×aS aF
 |.inl _=>(.exit 2,wD d [(3,xi i),(4,xi i),(18,xl false)])
 |.inr _=>rD d
theorem lD1{n:Nat}{fJ:eY aF}(hO:Ok n fJ){d:Dg}(h:DgL d){i:Nat}(hi:i<d.aK.length):Lp n 84 1 (wD d [(3,xi i),(4,xi 0)]) (zD1 d i (bG (cD1 d i) i)).1 (zD1 d i (bG (cD1 d i) i)).2:=
 iV (st:=fun j _=>wD d [(3,xi i),(4,xi j)]) (fun _ _=>True) (by kernel_rfl) (by have:=h.aK;omega) trivial (fun j s m hj _ ih=>aO hO (.b (bC hj) (.o (aH (show j<d.aK.length by omega)) (.o (aH hi) (.q (.bool (cD1 d i j)) (eqV (.tmp 25) (.tmp 30) (d.aK.getD j V0) (d.aK.getD i V0)) (.ls (.ou nofun) (.nx (ih _ trivial)))))))) (fun s _=>aO hO (.b (fD i) (.ou nofun)))
def zD0(d:Dg):Unit⊕Nat->Ex×aS aF
 |.inl _=>(.exit 0,wD d [(3,xi d.aK.length),(13,xl false)])
 |.inr _=>rD d
theorem lD0{n:Nat}{fJ:eY aF}(hO:Ok n fJ){d:Dg}(h:DgL d):Lp n 84 0 (wD d [(3,xi 0)]) (zD0 d (bG (cD0 d) d.aK.length)).1 (zD0 d (bG (cD0 d) d.aK.length)).2:=
 iV (st:=fun i _=>wD d [(3,xi i)]) (fun _ _=>True) (by kernel_rfl) h.aK trivial (fun i s m hi _ ih=>by
  have hl:=lD1 hO h hi;unfold gS cD0;cases e:jS (bG (cD1 d i) i)
  .exact aO hO (.b (bC hi) (.w (kH hl 0 e) (.ou nofun)))
  .exact aO hO (.b (bC hi) (.w (kG hl () e) (.nx (ih _ trivial))))
  ) (fun s _=>aO hO (.b (fD d.aK.length) (.ou nofun)))
def zD3(d:Dg)(i:Nat):Unit⊕Nat->Ex×aS aF
 |.inl _=>(.exit 6,wD d [(5,xi i),(6,xi i),(47,xl false)])
 |.inr _=>rD d
theorem lD3{n:Nat}(hO:Ok n a1r){d:Dg}(h:BH d){i:Nat}(hi:i<d.aj.length):Lp n 84 3 (wD d [(5,xi i),(6,xi 0)]) (zD3 d i (bG (cD3 d i) i)).1 (zD3 d i (bG (cD3 d i) i)).2:=
 iV (st:=fun j _=>wD d [(5,xi i),(6,xi j)]) (fun _ _=>True) (by kernel_rfl) (by have:=h.aj;omega) trivial (fun j s m hj _ ih=>by
  have rV:j<d.aj.length:=by omega
  unfold gS cD3;cases e:((fA d j).var==(fA d i).var)
  .exact aO hO (.b (bC hj) (.o (aH rV) (.o (aH hi) (.b e (.nx (ih _ trivial))))))
  .exact aO hO (.b (bC hj) (.o (aH rV) (.o (aH hi) (.b e (.o (aH rV) (.o (aH hi) (.o (m12 (h.Jj j rV)) (.ls (.ou nofun) (.nx (ih _ trivial))))))))))
  ) (fun s _=>aO hO (.b (fD i) (.ou nofun)))
def zD2(d:Dg):Unit⊕Nat->Ex×aS aF
 |.inl _=>(.exit 4,wD d [(5,xi d.aj.length),(36,xl false)])
 |.inr _=>rD d
theorem lD2{n:Nat}(hO:Ok n a1r){d:Dg}(h:BH d):Lp n 84 2 (wD d [(5,xi 0)]) (zD2 d (bG (cD2 d) d.aj.length)).1 (zD2 d (bG (cD2 d) d.aj.length)).2:=
 iV (st:=fun i _=>wD d [(5,xi i)]) (fun _ _=>True) (by kernel_rfl) h.aj trivial (fun i s m hi _ ih=>by
  have hl:=lD3 hO h hi;unfold gS cD2;cases e1:Dl (fA d i)
  .cases e:jS (bG (cD3 d i) i)
   .exact aO hO (.b (bC hi) (.o (aH hi) (.o (m12 (h.Jj i hi)) (.b e1 (.w (kH hl 0 e) (.ou nofun))))))
   .exact aO hO (.b (bC hi) (.o (aH hi) (.o (m12 (h.Jj i hi)) (.b e1 (.w (kG hl () e) (.nx (ih _ trivial)))))))
  .exact aO hO (.b (bC hi) (.o (aH hi) (.o (m12 (h.Jj i hi)) (.b e1 (.ou nofun)))))
  ) (fun s _=>aO hO (.b (fD d.aj.length) (.ou nofun)))
def pV(d:Dg):Bool:=if jS (bG (cD0 d) d.aK.length)=true then(if jS (bG (cD2 d) d.aj.length)=true then(if zA (srN d d.root) (d.aj.length:Int)=true then zA (srE d d.root) (d.aK.length:Int)else false)else false)else false
theorem a1s{d:Dg}(h:BH d):(srN d d.root).length<=ah∧(srE d d.root).length<=ah:=by
 have hl:=(KH h 6002 d.root ([],[]) sr0 h.root).len;exact⟨a4U hl.1 h.aj,a4U hl.2 h.aK⟩
def ajt:eY aF:=bZ 84 (a1 dA) tA (fun p=>pV p) (fun p=>[BH p,p.aj.length<=6000]) a1r
theorem aoH:Gd ajt:=ajs.add fun n hO p hp=>aN hO (.zh (fun h=>.w (kG (lD0 hO (show BH p from hp _ (.head _)).toDgL) () h) (.zh (fun h2=>.w (kG (lD2 hO (show BH p from hp _ (.head _))) () h2) (.o (hp _ (.head _)) (.o (show BH p from hp _ (.head _)).root (.o (hp _ (.tail _ (.head _))) (.o (a1s (hp _ (.head _))).1 (.ss (.o (a1s (hp _ (.head _))).2 .rr) .rr)))))) fun h2=>.w (kH (lD2 hO (show BH p from hp _ (.head _))) 0 h2) .rr)) fun h=>.w (kH (lD0 hO (show BH p from hp _ (.head _)).toDgL) 0 h) .rr)
theorem Xp{d:Dg}(hm:d.aK.length<=ah){r:Int}{b:Nat}(h:iJ d r b=true):jq d r b:=by
 unfold iJ at h;by_cases c:0<=r
 .rw[a0p (by simpa using c)]at h;exact⟨by simpa using h,fun h2=>by omega⟩
 rw[a0o (by simpa using c),vO]at h;have e:i64.wrap ((d.aK.length:Int)-1)=(d.aK.length:Int)-1:=by unfold ah at hm;exact fG (by omega) (by omega)
 rw[e]at h;obtain⟨h1,h2⟩:=h;exact⟨by omega,fun _=>⟨h1,show jD r<_ by show i64.wrap (-1-r)<_;omega⟩⟩
theorem a6K{d:Dg}(h:DgL d)(hl:lT d=true):BH d:=by
 unfold lT at hl;split at hl
 rotate_left
 .cases hl
 split at hl
 rotate_left
 .cases hl
 rename_i h1 h2;have h2:=dK.1 h2;have key:∀i,i<d.aj.length->nX (fA d i).var 0 (xw d.aA)=true∧(((fA d i).ay.length:Int) != d.aA.getD (fA d i).var.toNat 0)=false∧jS (bG (cLk d i) (fA d i).ay.length)=true:=fun i hi=>by
  have:=h2 i hi;unfold ZK at this;split at this
  .cases this
  split at this
  .cases this
  split at this
  .rename_i a b c;exact⟨by simpa using a,by simpa using b,c⟩
  cases this
 refine⟨h,fun i hi k hk=>?_,fun i hi=>?_,fun i hi=>?_,fun i hi=>?_,Xp h.aK hl⟩
 .have:=dK.1 (key i hi).2.2 k hk;unfold cLk at this;split at this
  .cases this
  rename_i a;exact Xp h.aK (by simpa using a)
 .exact Xo h.bY (Ji h.bY (key i hi).1) (key i hi).2.1
 .exact Ji h.bY (key i hi).1
 simpa using(key i hi).2.1
theorem iW{d:Dg}(ho:d.aG.length<=ah)(he:d.aK.length<=ah)(h:(bD d != 0)=false):BH d∧d.aj.length<=6000:=by
 unfold bD at h;split at h
 .rename_i h1;simp at h h1;exact absurd h h1
 split at h
 .cases h
 split at h
 .cases h
 rename_i h1 h2 h3;have h2:decide ((d.aj.length:Int)>6000)=false:=by simpa using h2
 exact⟨a6K ⟨ho,UH h2,he,Az (by simpa using h1)⟩ (by simpa using h3),by simp at h2;omega⟩
def lU(d:Dg):Int:=if(bD d != 0)=true then bD d else if(!(pV d))=true then 4 else 0
def ajv:eY aF:=bZ 22 (a1 dA) iA (fun p=>lU p) (fun p=>[p.aG.length<=ah,p.aK.length<=ah]) ajt
theorem aoI:Gd ajv:=aoH.add fun n hO p hp=>aN hO (.o (hp _ (.head _)) (.o (hp _ (.tail _ (.head _))) (.sh (fun _=>.rr) fun h=>.o (iW (hp _ (.head _)) (hp _ (.tail _ (.head _))) h).1 (.o (iW (hp _ (.head _)) (hp _ (.tail _ (.head _))) h).2 (.ss .rr .rr)))))
open Go Tw Pv dh
def gAt(d:Dg)(p:List Int)(r:Int):Int⊕Int:=if decide (r>=0)=true then .inl ((au d r).ay.getD (p.getD (au d r).var.toNat 0).toNat 0)else .inr r
def ZL(d:Dg)(p:List Int):Nat->Int->Int
 | 0,r=>r
 |F+1,r=>if r<0 then r else ZL d p F ((au d r).ay.getD (p.getD (au d r).var.toNat 0).toNat 0)
theorem acJ{d:Dg}{p:List Int}:∀(F:Nat) (r:Int),ZL d p F r<0->itF (gAt d p) (F+1) r=some (ZL d p F r)
 | 0,r,h=>by
  have h:r<0:=h;have e:gAt d p r=.inr r:=by unfold gAt;rw[a0o (by simpa using h)]
  rw[itF,e];rfl
 |F+1,r,h=>by
  by_cases c:r<0
  .have e:gAt d p r=.inr r:=by unfold gAt;rw[a0o (by simpa using c)]
   rw[itF,e,ZL,a0p c]
  have e:gAt d p r=.inl ((au d r).ay.getD (p.getD (au d r).var.toNat 0).toNat 0):=by unfold gAt;rw[a0p (by simp;omega)]
  rw[ZL,a0o c]at h;rw[itF,e,ZL,a0o c];exact acJ F _ h
theorem OZ{d:Dg}(h:BH d){p:List Int}(hp:jM d.aA p=true){r:Int}(hr:gq r d.aj.length):gq (au d r).var p.length∧gq (p.getD (au d r).var.toNat 0) (au d r).ay.length∧jq d ((au d r).ay.getD (p.getD (au d r).var.toNat 0).toNat 0) r.toNat:=by
 obtain⟨r1,r2⟩:=hr;have hl:r.toNat<d.aj.length:=by omega
 have hv:=h.var r.toNat hl;have hk:=h.ksz r.toNat hl;obtain⟨v1,v2⟩:=hv;obtain⟨p1,p2⟩:=pU.1 hp;have p3:=p2 (au d r).var.toNat (by show(fA d r.toNat).var.toNat<_;omega);have k1:gq (p.getD (au d r).var.toNat 0) (au d r).ay.length:=⟨p3.1,by show _<((fA d r.toNat).ay.length:Int);rw[hk];exact p3.2⟩;refine⟨⟨v1,by rw[p1];exact v2⟩,k1,h.zB r.toNat hl _ ?_⟩;obtain⟨k2,k3⟩:=k1;show _<(au d r).ay.length;omega
theorem UJ{d:Dg}(h:BH d){p:List Int}(hp:jM d.aA p=true):∀(F:Nat) (r:Int),r<F->jq d r d.aj.length->jq d (ZL d p F r) 0
 | 0,r,hr,hk=>⟨by show r<((0:Nat):Int);omega,hk.2⟩
 |F+1,r,hr,hk=>by
  unfold ZL;split
  .rename_i c;exact⟨by show r<((0:Nat):Int);omega,hk.2⟩
  rename_i c;have:=(OZ h hp (r:=r) ⟨by omega,hk.1⟩).2.2;obtain⟨a1,a2⟩:=this;have a3:r<(d.aj.length:Int):=hk.1;exact UJ h hp F _ (by omega) ⟨by omega,a2⟩
abbrev atR(d:Dg)(p:List Int):Int:=ZL d p 6001 d.root
def wW(d:Dg)(p:List Int):V:=d.aK.getD (jD (atR d p)).toNat V0
abbrev wAt(d:Dg)(p:List Int)(r:Int)(x:List (Nat×PE aF)):aS aF:=⟨[(1,xL 3 p),(2,.loc 0 0),(4,.loc 1 0),(5,xi r)]++x,[d.ps,V0.ps],[]⟩
theorem lAt{n:Nat}{fJ:eY aF}(hO:Ok n fJ){d:Dg}(h:BH d)(hm:d.aj.length<=6000){p:List Int}(hp:jM d.aA p=true):Lp n 98 0 (wAt d p d.root []) (.exit 0) (wAt d p (atR d p) [(9,xl false)]):=by
 have h0:d.root<(d.aj.length:Int):=h.root.1;have ha:=UJ h hp 6001 d.root (by omega) h.root;have Qj:=acJ 6001 d.root ha.1;refine ZJ (st:=fun r=>wAt d p r []) (g:=gAt d p) (out:=fun r=>(.exit 0,wAt d p r [(9,xl false)])) (fun r=>jq d r d.aj.length) Qj (by kernel_rfl) (by decide) h.root ?_ ?_
 .intro r r1 hr e;unfold gAt at e;split at e
  .rename_i c;have c:0<=r:=(by simpa using c);cases e;have:=(OZ h hp (r:=r) ⟨c,hr.1⟩).2.2;have a3:r<(d.aj.length:Int):=hr.1;obtain⟨a1,a2⟩:=this;exact⟨by omega,a2⟩
  cases e
 intro r m r' hr ih;by_cases c:0<=r
 .have hk:=OZ h hp (r:=r) ⟨c,hr.1⟩;have t1:decide (r>=0)=true:=by simpa using c
  have e:gAt d p r=.inl ((au d r).ay.getD (p.getD (au d r).var.toNat 0).toNat 0):=by unfold gAt;rw[a0p t1]
  have g:=ih _ e;rw[e];have wJ:gq r d.aj.length:=⟨c,hr.1⟩;exact aO hO (.b t1 (.o wJ (.o wJ (.o hk.1 (.o hk.2.1 (.go g))))))
 have t1:decide (r>=0)=false:=by simpa using c
 have e:gAt d p r=.inr r:=by unfold gAt;rw[a0o (by rw[t1];simp)]
 rw[e];dsimp only[D7];exact aO hO (.b t1 .ex)
theorem aah{d:Dg}(h:BH d)(hm:d.aj.length<=6000){p:List Int}(hp:jM d.aA p=true):gq (jD (atR d p)) d.aK.length:=by
 have h0:d.root<(d.aj.length:Int):=h.root.1;have ha:=UJ h hp 6001 d.root (by omega) h.root;exact ha.2 ha.1
def ajw:eY aF:=bZ 98 (a2 dA rO) vA (fun p=>wW p.1 p.2) (fun p=>[BH p.1,p.1.aj.length<=6000,jM p.1.aA p.2=true]) ajv
theorem aoJ:Gd ajw:=aoI.add fun n hO p hp=>aN hO (.w (lAt hO (hp _ (.head _)) (hp _ (.tail _ (.head _))) (hp _ (.tail _ (.tail _ (.head _))))) (.o (aah (hp _ (.head _)) (hp _ (.tail _ (.head _))) (hp _ (.tail _ (.tail _ (.head _))))) .rr))
open Go Tw Pv dh
theorem aai{A:Nat->Prop}{m:List MB}{h:List HB}{l:List Int}{cs:List TV}(hr:eu X0 Qp A m h 3 l cs 0 1)(hc:cs.length=l.length):cs=l.map fun n=>TV.int .i64 n:=by
 apply a9k (by simp[hc]);intro j h1 h2;have hj:j<l.length:=by omega
 have:=hr.2.2 j l[j] 0 (.int .i64 l[j]) cs[j] (a0f hj) rfl (by rw[a0c];exact⟨by omega,by simp⟩);rw[this.a1k];simp
theorem SE:∀l:List Int,KE (l.map fun n=>TV.int .i64 n)=some l
 | []=>rfl
 |a::l=>by simp[KE,SE l]
theorem SG{A:Nat->Prop}{m:List MB}{h:List HB}(l:List Int):eu X0 Qp A m h 3 l (l.map fun n=>TV.int .i64 n) 0 1:=by
 refine⟨fun j a _=>rfl,by simp only[a4n,agR,a4e];exact a1b _,fun j a i c v hj hi hv=>?_⟩;have rV:=(a0c.1 hj).1;cases i with
 |zero=>
  have hi:some (PV.int .i64 a)=some c:=hi;cases hi;have hj:(l:List Int)[j]? = some a:=hj;rw[a4e,agR,adD,a4q,hj]at hv;have hv:some (TV.int .i64 a)=some v:=hv;cases hv;exact .int _ _
 |succ i=>have hi:([]:List (PV aF))[i]? = some c:=hi;simp at hi
theorem KI:dD Qp 3=some 1:=by kernel_rfl
theorem a6L(n:Nat)(x:TV)(h:List HB):kY Qp T LL (n+1) (.fn 137 [] []) [x] h=OO 137 (.fn 137 [] []) [x] h:=rfl
theorem aaj{f c:Nat}{h:List HB}{kk Bg:BK}{cs:List TV}{l:List Int}{e:Bool}(hb:h[c]? = some (.cells kk cs))(hk:zT kk true=some Bg)(QV:cs=l.map fun n=>TV.int .i64 n)(h0:0<l.length)(h1:l.length<=2^20) :
  OO f (.fn f [] []) [.slc c 0 l.length l.length 1 e] h=some (.dI [],h.set c (.cells Bg ((gV l).map fun n=>TV.int .i64 n)),[c]):=by
 have qm:cs.length=l.length:=by rw[QV,a4n]
 have him:KE cs=some l:=by rw[QV];exact SE l
 generalize l.length=n at *;obtain⟨j,rfl⟩:∃j,n=j+1:=⟨n-1,by omega⟩;simp only[OO,a6x,a2w,hb,hk,him,qm,h0,h1,ad9]
theorem acK{n:Nat}{k ex:Bool}(l:List Int)(hl:l.length<=2^20):aW X0 Qp (bQ (n+1)) (.fn 137 [] []) [.own 0] [.list k ex 3 l] (.dI []) [.list k ex 3 (gV l)]:=by
 intro A m h tf rW hr hf hx;obtain⟨x,r,rfl,h1,h2⟩:=hx.inv;have:=h2.inv0;subst this;obtain⟨g1,g2⟩:=a9W hr (i:=0) (k:=k) (ex:=ex) (t:=3) (l:=l) rfl h1;have htf:=hf.UD;subst htf;show ∃w h1 ws m1,kY Qp T LL (n+1) _ _ h=_∧_;rw[a6L];have aoK:gV ([]:List Int)=[]:=by simp[gV]
 have hE:∀h0:(l:List Int)=[],gV l=l:=fun h0=>by rw[h0];exact aoK
 rcases aeH g2 with⟨h0,rfl⟩|⟨h0,b,off,sz,cs,rfl,p0,p1,p2,p3,p4⟩|⟨p1,c,sz,e,kk,cs,rfl,p2,p3,p4,p5,p6,p7,p8,p9⟩
 .rw[hE h0];exact⟨.dI [],h,[],m,rfl,hr,.dI rfl (fun i x y hx=>by simp at hx),.refl,.refl,fun b hb=>by cases hb⟩
 .rw[hE h0];exact⟨.dI [],h,[],m,rfl,hr,.dI rfl (fun i x y hx=>by simp at hx),.refl,.refl,fun b hb=>by cases hb⟩
 rw[KI]at p2;cases p2;have p8:cs.length=(l:List Int).length*1:=p8;have qm:cs.length=l.length:=by omega
 have QV:=aai p9 qm;have hn0:0<l.length:=by cases l with|nil=>exact absurd rfl p1|cons=>simp
 obtain⟨Bg,xR,aea,hko⟩:=J4 p5;have aQ:=(a0c.1 p4).1;have vK:(MB.dB (TV.slc c 0 l.length l.length 1 e)).own=some c:=by simp only[MB.own];rw[a0o (by omega)]
 have hsl:(gV l).length=l.length:=by unfold gV;rw[aaf]
 have iC:gV l≠[]:=fun e0=>by rw[e0]at hsl;simp at hsl;omega
 obtain⟨q1,q2⟩:=hr.set (i:=0) (c:=c) (pb:=.list k ex 3 (gV l)) (hb:=.cells Bg ((gV l).map fun n=>TV.int .i64 n)) g1 vK
  (fun WJ JY=>⟨_,by simp only[aV];rw[a2l aQ],by
   simp only[aV,p4,a05]at JY;subst JY;rw[a4n,hsl,qm];exact a1b _⟩)
  (fun hF=>by
   have r:=LR.some (X:=X0) (P:=Qp) (A:=AA A m) (m:=m) (k:=k) (ex:=ex) (e:=e) (t:=3) (b:=c) (kk:=Bg) iC KI (by decide) (by rw[a2l aQ]) aea (fun e0=>hko (p6 e0)) p7 (by rw[a4n,agR];rfl) (SG (gV l));have aoL:@List.length (X0.Γ 3) (gV l)=l.length:=hsl;rw[aoL]at r;exact r)
 refine⟨.dI [],_,[c],m,?_,q1,.dI rfl (fun i x y hx=>by simp at hx),q2,.refl,fun d hd=>?_⟩
 .exact aaj p4 xR QV hn0 hl
 simp at hd;subst hd;exact aZ g1 vK
end Go.Proofs.YtmobpoiejckagaaGreat
namespace Pv
open Go Tw
variable {X:kQ} {P:Program}
theorem oq.aak(hX:bM X P){call:aY}{f:FuncId}{xs vs:List (PV X.Γ)}{v v':PV X.Γ}{ext ext':List (PB X.Γ)}(hc:oq X P call f vs v ext)(hv:views [] ([]++xs++[])=some vs)(hs:qX X 0 ext=some ext')
  (e:shift 0 v=v') (he:(if xH v||ext.any (hasB X)then aX (kU.kD ([]++xs++[])) []else [])=([]:List (PB X.Γ))):aW X P call (.fn f [] []) xs [] v' ext':=by
 subst e;intro A m h tf rW hr hf hx;have htf:=hf.UD;subst htf;obtain⟨w,h',m1,c1,c2,c3,c4,c5⟩:=Hl hX hc hr hv hs (t1:=[]) (t3:=[]) .nil hx .nil;rw[he]at c2;exact⟨w,h',[],m1,c1,c2,c3,c4,c5,fun b hb=>by cases hb⟩
end Pv
namespace Go.Proofs.YtmobpoiejckagaaGreat
open Go Tw Pv dh
abbrev lsI(l:List Int):List (PB aF):=[.list false false 3 l]
theorem a3o(n:Nat)(h:List HB):Uc Qp T (bQ n) LL 125 [.nil .slc] h=some (.nil .slc,h,[]):=by kernel_rfl
theorem a3p(n b off cap:Nat)(ex:Bool)(h:List HB):Uc Qp T (bQ n) LL 125 [.slc b off 0 cap 1 ex] h=some (.slc h.length 0 0 0 1 true,h++[.cells .own []],[]):=by kernel_rfl
theorem af6{n:Nat}:oq X0 Qp (bQ (n+1)) 125 [.dB 3 ([]:List Int) false] (.own 0) (lsI []):=by
 intro A h first args cap Iw hv
 obtain⟨x,r,e,h1,h2⟩:=hv.inv;have:=h2.inv0;subst this;have hun:kY Qp T LL (n+1) (.fn 125 first cap) args h=Uc Qp T (bQ n) LL 125 [x] h:=by
  rw[<-e];show kY Qp T LL (n+1) _ _ _=_;rw[kY,a0o (by decide),a0o (by decide)]
 rcases a6q h1 with rfl|⟨b,off,cap',sz,ex,cs,rfl,a1,a2,a3,a4,a5⟩
 .exact⟨.nil .slc,h,[.dB (.nil .slc)],by rw[<-a3o n h,<-hun],X8 Iw .nil rfl,.own rfl rfl,⟨a1b _,fun _ _ _=>rfl,fun b hb=>by simp[bn,MB.own]at hb,fun b cs hc=>⟨cs,hc,a1b _⟩⟩⟩
 rw[KI]at a3;cases a3;have hc:aV (h++[HB.cells .own []]) h.length=some []:=by unfold aV;rw[a1c (a1b _),agG];rfl
 refine⟨.slc h.length 0 0 0 1 true,h++[.cells .own []],[.dB (.slc h.length 0 0 0 1 true)],by rw[<-a3p n b off cap' ex h,<-hun],X8 (fun b hb=>Iw b (by simp at hb;omega)) (.emp ⟨Iw _ (a1b _),by simp[bn,MB.own]⟩ hc (a1b _) KI (by decide)) (by simp[MB.own]),.own rfl rfl,⟨by simp,fun b hb _=>by rw[a0j hb],fun b hb=>by simp[bn,MB.own]at hb,fun b cs hc=>⟨cs,?_,a1b _⟩⟩⟩;rw[fK (a0j (gU hc)),hc]
def acL:eY aF:=ZG 125 (a1 rO) (fun _=>.own 0) (fun p=>lsI p) (fun p=>[p.length<=ah]) ajw
theorem ajy:Gd acL:=aoJ.X5 0 fun n _ hO p hp=>by
 have hl:p.length<=ah:=hp _ (.head _);by_cases h:p=[]
 .subst h;exact af6
 .have h2:([]:List Int).length+p.length<=ah:=by simpa using hl
  exact oq.gs hX (Bq hX (hO n (by omega)) (v:=.own 1) (H:=[.gone,.list true false 3 p]) (by kernel_rfl) (.o h (.b (rfl:false=false) (.o h2 .er)))) [.gc [1],.flag 0] rfl
abbrev aal(m:Nat)(i:Int)(l:List Int)(x:List (Nat×PE aF)):aS aF:=⟨[(3,xo 0),(7,xi m),(8,xi i)]++x,[],[.list true true 3 l]⟩
theorem a6M(m:Nat):aT (fun k (l:List Int)=>l.set k (k:Int)) m 0 (List.replicate m 0)=dO m:=by
 have:=dF (g:=fun k (l:List Int)=>l.set k (k:Int)) (m:=m) (k:=0) (s:=List.replicate m 0) (fun k l=>l.length=m∧∀j,j<k->l.getD j 0=(j:Int)) ⟨by simp,by simp⟩ (fun j l _ hj h=>⟨by simp[h.1],fun i hi=>by
  rw[dh.yY (by omega)];split
  .rename_i e;rw[e]
  exact h.2 i (by omega)⟩)
 rw[oP (d:=0) (by rw[this.1,lS])];intro j hj;have rV:j<m:=by have:=this.1;omega
 rw[this.2 j (by omega)];simp[dO,List.getD,a4q,ade,rV]
theorem aoM{n:Nat}{fJ:eY aF}(hO:Ok n fJ)(m:Nat)(hm:m<=ah):Lp n 159 0 (aal m 0 (List.replicate m 0) []) (.exit 0) (aal m m (dO m) [(9,xl false)]):=by
 rw[<-a6M];exact yu (σ:=List Int) (N:=m) (g:=fun k (l:List Int)=>l.set k (k:Int)) (s0:=List.replicate m 0) (st:=fun i (l:List Int)=>aal m i l []) (fin:=fun(l:List Int)=>aal m m l [(9,xl false)]) (fun _ (l:List Int)=>l.length=m) (by kernel_rfl) hm (by simp) (fun k l _ h=>by simp[h]) (fun k l hk hl j e p g=>aO hO (.b (bC hk) (.o (aH (show k<l.length by omega)) (.go g)))) (fun l _=>aO hO (.b (fD m) .ex))
def acM:eY aF:=bZ 159 (a1 iA) rO (fun p=>dO p.toNat) (fun p=>[0<=p,p<=(ah:Int)]) acL
theorem ajz:Gd acM:=ajy.add fun n hO p hp=>by
 have h0:0<=p:=hp _ (.head _);have h1:p<=(ah:Int):=hp _ (.tail _ (.head _));obtain⟨m,rfl⟩:∃m:Nat,p=(m:Int):=⟨p.toNat,by omega⟩;exact aN hO (.o (rfl:(m:Int)=(m:Int)) (.o h0 (.o h1 (.w (aoM hO m (by omega)) .rr))))
abbrev af7(a b:List Int)(i:Int)(x:List (Nat×PE aF)):aS aF:=⟨[(0,xL 3 a),(1,xL 3 b),(12,xi a.length),(13,xi i)]++x,[],[]⟩
def ajA(a b:List Int):Unit⊕Nat->Ex×aS aF
 |.inl _=>(.exit 0,af7 a b a.length [(14,xl false)])
 |.inr _=>(.ret,⟨[(4,xl false)],[],[]⟩)
theorem ajB{n:Nat}{fJ:eY aF}(hO:Ok n fJ)(a b:List Int)(hl:a.length<=ah)(h:a.length=b.length):Lp n 158 0 (af7 a b 0 []) (ajA a b (bG (KF a b) a.length)).1 (ajA a b (bG (KF a b) a.length)).2:=
 iV (st:=fun i _=>af7 a b i []) (fun _ _=>True) (by kernel_rfl) hl trivial (fun k s m hk _ ih=>aO hO (.b (bC hk) (.o (aH hk) (.o (aH (h▸hk)) (.ls (.ou nofun) (.nx (ih _ trivial))))))) (fun s _=>aO hO (.b (fD a.length) (.ou nofun)))
def acN:eY aF:=bZ 158 (a2 rO rO) tA (fun p=>decide (p.1=p.2)) (fun p=>[p.1.length<=ah]) acM
theorem ajC:Gd acN:=ajz.add fun n hO p hp=>aN hO (.s (fun h=>.v false (a6A h).symm) fun h=>.z (c:=jS (bG (KF p.1 p.2) p.1.length)) (fun h2=>.w (kG (ajB hO p.1 p.2 (hp _ (.head _)) (lQ h)) () h2) (.v true (by rw[<-Ef (lQ h),h2]))) fun h2=>.w (kH (ajB hO p.1 p.2 (hp _ (.head _)) (lQ h)) 0 h2) (.v false (by rw[<-Ef (lQ h),h2])))
def a6N:eY aF:=bZ 157 (a3 iA iA rO) tA (fun p=>mY p.2.2 p.1 p.2.1) (fun p=>[p.2.2.length<=ah]) acN
theorem ajD:Gd a6N:=ajC.deep 3 fun n hn hO p hp=>by
 have h1:∀x,aW X0 Qp (bQ (n-3+1)) (.fn 188 [] [.ptr 0 0 1,.ptr 1 0 1]) [.int .i64 x] [.cells [.int .i64 p.1],.cells [.int .i64 p.2.1]] (tA.put (vW x p.1 p.2.1)) [.cells [.int .i64 p.1],.cells [.int .i64 p.2.1]]:=fun x=>jk fV (first:=[]) (.ssh (fun _=>.sr) (fun _=>.sr));obtain⟨n,rfl⟩:∃k,n=k+3:=⟨n-3,by omega⟩;rw[show n+3-3+1=n+1 by omega]at h1;have h2:=aiu (n:=n+2) (by omega) (g:=fun x=>vW x p.1 p.2.1) h1 p.2.2 (hp _ (.head _));exact aN (hO _ (by omega)) (.k h2 (.v (!(mX (fun x=>vW x p.1 p.2.1) p.2.2)) (by rw[Ec];rfl)))
def a1t(s:List Int):Int:=aT (fun k n=>i64.wrap (n*s.getD k 0)) s.length 0 1
theorem Xq:∀{s:List Int},nJ s->bg s<=12^s.length
 | [],_=>by decide
 |a::t,h=>by
  have h1:=Xq h.tail;have h2:=je h.tail;have h3:=h a (.head _);have h4:a*bg t<=12*bg t:=aaI h3.2 (by omega);show a*bg t<=12^(t.length+1);rw[Int.pow_succ];omega
theorem ajE:∀{n:Nat},n<=6->(12:Int)^n<=2985984:=by decide
theorem a6O{s:List Int}(h:nJ s)(hl:s.length<=6):a1t s=bg s:=by
 have:=dF (g:=fun k n=>i64.wrap (n*s.getD k 0)) (m:=s.length) (k:=0) (s:=1) (fun k n=>n=bg (s.take k)) (by simp[bg]) (fun j n _ hj e=>by
  have rV:j<s.length:=by omega
  have e2:bg (s.take (j+1))=n*s.getD j 0:=by
   rw[a8p rV,Ee,e];simp[bg,List.getD,a0f rV]
  have h1:=Qs h (j+1);have h2:1<=bg (s.take (j+1)):=je fun a ha=>h a (a9t ha);have h3:=Xq h;have h4:=ajE hl;show i64.wrap (n*s.getD j 0)=_;rw[e2]at h1 h2 ⊢;exact fG (by omega) (by omega))
 rw[a1t,this];simp
abbrev aam(a b:List Int)(p i:Int)(x:List (Nat×PE aF)):aS aF:=⟨[(0,xL 3 a),(1,xL 3 b),(5,xi p),(17,xL 3 a),(18,xi a.length),(19,xi i)]++x,[],[]⟩
theorem aoN{n:Nat}{fJ:eY aF}(hO:Ok n fJ)(a b:List Int)(hl:a.length<=ah):Lp n 105 0 (aam a b 1 0 []) (.exit 1) (aam a b (a1t a) a.length [(20,xl false)]):=
 KD (st:=fun i n=>aam a b n i []) (fin:=fun n=>aam a b n a.length [(20,xl false)]) (fun _ _=>True) (by kernel_rfl) hl Qu trivial (fun _ _ _ _=>trivial) (fun k s hk _ n e p h=>aO hO (.b (bC hk) (.o (aH hk) (.go h)))) (fun s _=>aO hO (.b (fD a.length) .ex))
theorem af8{n:Nat}(hO:Ok n a6N)(l:List Int)(hl:l.length<=ah):aW X0 Qp (bQ n) (.fn 125 [] []) [.dB 3 l false] [] (.own 0) (lsI l):=
 oq.aak hX (hO 125 [.dB 3 l false] (.own 0) (lsI l) [l.length<=ah] (by kernel_rfl) (List.forall_mem_singleton.2 hl)) rfl rfl rfl rfl
theorem a6P(n:Nat):(dO n).Pairwise fun a b=>decide (a<=b)=true:=by
 unfold dO;rw[agi];exact List.pairwise_lt_range.imp fun h=>by simp;omega
theorem a3q{n:Nat}{o:List Int}:decide (gV o=dO n)=jV n o:=by
 rw[a4H,a1Q];have h2:=Sz n;have hp:(gV o).Perm o:=adT _ _;constructor
 .intro h;rw[h]at hp;unfold jV at h2 ⊢;rw[a1Q]at h2 ⊢;exact⟨by rw[<-hp.length_eq,h2.1],fun a ha=>h2.2.1 a (hp.mem_iff.2 ha),hp.nodup_iff.1 h2.2.2⟩
 intro h;unfold jV at h h2;rw[a1Q]at h h2;have e:o.Perm (dO n):=(a7n h.2.2 h2.2.2).2 fun a=>by
  have hm:∀x,0<=x∧x<(n:Int)->x∈dO n:=fun x hx=>by
   unfold dO;rw[a1l];exact⟨x.toNat,by rw[a4s];omega,by omega⟩
  constructor
  .exact fun ha=>hm a (h.2.1 a ha)
  intro ha;by_cases hc:a∈o
  .exact hc
  have:=ady (l₁:=a::o) (l₂:=dO n) (a4r.2 ⟨hc,h.2.2⟩) (fun x hx=>by
   rcases a2y.1 hx with rfl|hx
   .exact ha
   exact hm x (h.2.1 x hx))
  rw[lS]at this;simp at this;omega
 refine List.Perm.eq_of_pairwise (le:=fun a b=>decide (a<=b)=true) (fun a b _ _ h1 h2=>by simp at h1 h2;omega) ?_ (a6P n) (hp.trans e);exact List.pairwise_mergeSort (fun a b c h1 h2=>by simp at h1 h2 ⊢;omega) (fun a b=>by simp;omega) o
def Xr(s o:List Int):Int:=if decide ((s.length:Int)>6)=true then 5 else if(!(mY s 1 12))=true then 3 else if decide (a1t s>2000)=true then 5 else if(!(decide (gV o=dO s.length)))=true then 4 else 0
theorem Xt(s o:List Int):Xr s o=bW s o:=by
 rw[OW];unfold Xr;rw[a3q];by_cases h1:6<s.length
 .rw[a0p (by simp;omega),a0p h1]
 rw[a0o (by simp;omega),a0o h1];have hw:mY s 1 12=decide (nJ s):=by
  unfold mY;rw[a4H,a8t,List.any_eq_false,a1Q];refine abT fun a=>abT fun _=>?_;unfold vW;split
  .rename_i h;simp at h ⊢;omega
  rename_i h;simp at h ⊢;omega
 rw[hw];by_cases h2:nJ s
 .rw[a0o (by simp[h2]),a0p h2,a6O h2 (by omega)];simp only[a1Q,Int.not_lt,gt_iff_lt];split
  .rfl
  cases jV s.length o<;>simp
 rw[a0p (by simp[h2]),a0o h2]
def acO:eY aF:=bZ 105 (a2 rO rO) iA (fun p=>bW p.1 p.2) (fun p=>[p.1.length<=ah,p.2.length<=2^20]) a6N
theorem ajF:Gd acO:=ajD.deep 1 fun n hn hO p hp=>by
 obtain⟨n,rfl⟩:∃k,n=k+1:=⟨n-1,by omega⟩;have hO:=hO (n+1) (by omega);have h1:p.1.length<=ah:=hp _ (.head _);have h2:p.2.length<=2^20:=hp _ (.tail _ (.head _));have h3:p.2.length<=ah:=by unfold ah;omega
 have h4:(dO p.1.length).length<=ah:=by rw[lS];exact h1
 have h5:(gV p.2).length<=ah:=by unfold gV;rw[aaf];exact h3
 show oq X0 Qp _ _ _ (iA.put (bW p.1 p.2)) _;rw[<-Xt];exact aN hO (.ss .rr (.o h1 (.ss .rr (.w (aoN hO p.1 p.2 h1) (.ss .rr (.fr [] (af8 hO p.2 h3) (.fr [0] (acK (n:=n) (k:=false) (ex:=false) p.2 h2) (.o (show(0:Int)<=(p.1.length:Int) by omega) (.o (show(p.1.length:Int)<=(ah:Int) by omega) (.o h5 (.ss .rr .rr)))))))))))
open Go Tw Pv dh
theorem Xu{α:Type}(x:α):[x].length<=ah:=by unfold ah;simp
def qH(v:V):Bool:=if decide (v.f>0)=true then(if decide (v.f<=4)=true then v.n==0 else false)else mY [v.n] (-9999) 9999
def acP:eY aF:=bZ 190 (a1 vA) tA (fun p=>qH p) np acO
theorem ajG:Gd acP:=ajF.add fun n hO p hp=>aN hO (.ss (.ss .rr .rr) (.o (Xu p.n) .rr))
abbrev frA:UA X0 Qp (List Int×List Int):=a2 rO rO
abbrev cIx(l:List Int)(v:Int)(k:Nat):Bool:=v==l.getD k 0
abbrev af9(l:List Int)(v:Int)(i:Int)(x:List (Nat×PE aF)):aS aF:=⟨[(0,xL 3 l),(1,xi v),(7,xi l.length),(8,xi i)]++x,[],[]⟩
def z234(l:List Int)(v:Int):Unit⊕Nat->Ex×aS aF
 |.inl _=>(.exit 0,af9 l v l.length [(9,xl false)])
 |.inr k=>(.ret,⟨[(4,xi k)],[],[]⟩)
theorem ajH{n:Nat}{fJ:eY aF}(hO:Ok n fJ)(l:List Int)(v:Int)(hl:l.length<=ah):Lp n 234 0 (af9 l v 0 []) (z234 l v (bG (cIx l v) l.length)).1 (z234 l v (bG (cIx l v) l.length)).2:=
 iV (st:=fun i _=>af9 l v i []) (fun _ _=>True) (by kernel_rfl) hl trivial (fun k s m hk _ ih=>aO hO (.b (bC hk) (.o (aH hk) (.ls (.ou nofun) (.nx (ih _ trivial)))))) (fun s _=>aO hO (.b (fD l.length) (.ou nofun)))
def nG(l:List Int)(v:Int):Int:=if jS (bG (cIx l v) l.length)=true then -1 else((D6 0 (bG (cIx l v) l.length):Nat):Int)
def acR:eY aF:=bZ 234 (a2 rO iA) iA (fun p=>nG p.1 p.2) (fun p=>[p.1.length<=ah]) acP
theorem ajI:Gd acR:=ajG.add fun n hO p hp=>aN hO (.zh (fun h=>.w (kG (ajH hO p.1 p.2 (hp _ (.head _))) () h) .rr) fun h=>.w (kH (ajH hO p.1 p.2 (hp _ (.head _))) 0 h) .rr)
def acS:eY aF:=bZ 223 (a2 (a6l (a2 rO rO)) iA) iA (fun p=>nG p.1.2 p.2) (fun p=>[p.1.2.length<=ah]) acR
theorem ajJ:Gd acS:=ajI.add fun n hO p hp=>aN hO (.o (hp _ (.head _)) .rr)
def acT:eY aF:=bZ 197 (a1 iA) iA (fun p=>i64.wrap (-1-p)) np acS
theorem ajK:Gd acT:=ajJ.add fun n hO p hp=>aN hO .rr
structure Lo where
 s:List Int
 o:List Int
 d:Dg
abbrev Lo.ps(l:Lo):List (PV aF):=[.dB 3 l.s false,.dB 3 l.o false]++l.d.ps
def loA:Arg Lo:=aeD (a6l (La rO (La rO (La rO (a4 rO vsA aa0 iA))))) (fun p=>⟨p.1,p.2.1,⟨p.2.2.1,p.2.2.2.1,p.2.2.2.2.1,p.2.2.2.2.2.1,p.2.2.2.2.2.2⟩⟩) (fun l=>(l.s,l.o,l.d.aA,l.d.aG,l.d.aK,l.d.aj,l.d.root)) fun _=>rfl
def ql(l:Lo)(zB below Le:Int):Bool:=if decide (zB<0)=true then decide (i64.wrap (-1-zB)<(l.d.aK.length:Int))else if decide (zB<below)=true then decide (nG l.o (l.d.aj.getD zB.toNat kM).var>Le)else false
def Xv:eY aF:=bZ 193 (a4 loA iA iA iA) tA (fun p=>ql p.1 p.2.1 p.2.2.1 p.2.2.2) (fun p=>[p.1.o.length<=ah,0<=p.2.1->p.2.1<p.2.2.1->gq p.2.1 p.1.d.aj.length]) acT
theorem ajL:Gd Xv:=ajK.add fun n hO p hp=>aN hO (.sh (fun _=>.rr) fun h=>.sh (fun h2=>.o (hp (0<=p.2.1->p.2.1<p.2.2.1->gq p.2.1 p.1.d.aj.length) (.tail _ (.head _)) (by simpa using h) (by simpa using h2)) (.o (hp _ (.head _)) .rr)) fun _=>.rr)
abbrev Hb(l:Lo)(i:Int)(b:Br):List (PB aF):=[.cells l.ps,.cells [.int .i64 i],.cells b.ps]
theorem aoO{n f:Nat}{a c:List (PV aF)}{H:List (PB aF)}{g:Int->Bool}(l:List Int)(hf:∀x∈l,aW X0 Qp (bQ n) (.fn f a c) [.int .i64 x] H (.bool (g x)) H)(hl:l.length<=ah):aW X0 Qp (bQ (n+1)) (.fn 218 [] []) [.dB 3 l false,.fn f a c] H (iA.put (rJ g l)) H:=by
 have lp:OU n 218 0 H.length (a6z f a c H l 0 []) (z218 f a c H l (mQ (pR g) l 0 ())).1 (z218 f a c H l (mQ (pR g) l 0 ())).2:=
  X3 (st:=fun i _=>a6z f a c H l i []) (0:Int) (fun _ _=>True) (by kernel_rfl) hl Qu trivial (fun k s n hk _ ih=>aO fV (.b (bC hk) (.o (aH hk) (.k (hf (l.getD k (0:Int)) (dn hk)) (.ls (.ou nofun) (.nx (ih _ trivial))))))) (fun s _=>aO fV (.b (fD l.length) (.ou nofun)))
 exact jk fV (first:=[]) (cap:=[]) (.szh (fun h=>.w (kG lp () h) .sr) (fun h=>.w (kH lp (0,0,()) h) .sr))
theorem ajM{n f:Nat}{a c:List (PV aF)}{H:List (PB aF)}{g:Int->Bool}(l:List Int)(hf:∀x∈l,aW X0 Qp (bQ n) (.fn f a c) [.int .i64 x] H (.bool (g x)) H)(hl:l.length<=ah):aW X0 Qp (bQ (n+2)) (.fn 181 [] []) [.dB 3 l false,.fn f a c] H (tA.put (l.any g)) H:=by
 have h1:=aoO l hf hl;have h2:=Ec g l;rw[<-h2];exact jk fV (first:=[]) (cap:=[]) (.k h1 .sr)
theorem Eh{α:Type}(l:List α)(g:α->Bool):(!(l.any fun x=>!(g x)))=l.all g:=by
 induction l with
 |nil=>rfl
 |cons a l ih=>simp only[adq,abP,Bool.not_or,Bool.not_not,ih]
abbrev pB:List (PV aF):=[.ptr 0 0 7,.ptr 1 0 1,.ptr 2 0 2]
theorem aoP{n f:Nat}{l:Lo}{i:Int}{b:Br}{g:Int->Bool}(ks:List Int)(hf:∀x∈ks,aW X0 Qp (bQ n) (.fn f [] pB) [.int .i64 x] (Hb l i b) (tA.put (g x)) (Hb l i b))(hl:ks.length<=ah):aW X0 Qp (bQ (n+4)) (.fn 191 [] []) [.dB 3 ks false,.fn f [] pB] (Hb l i b) (tA.put (ks.all g)) (Hb l i b):=by
 have h1:∀x∈ks,aW X0 Qp (bQ (n+1)) (.fn 221 [] [.ptr 3 0 1]) [.int .i64 x] (Hb l i b++[.cells [.fn f [] pB]]) (tA.put (!(g x))) (Hb l i b++[.cells [.fn f [] pB]]):=fun x hx=>
  jk fV (first:=[]) (.fr [0,1,2] (hf x hx) .sr)
 have h2:=ajM ks h1 hl;rw[<-Eh ks g];exact aW.drop hX (D5 hX fV (first:=[]) (cap:=[]) (H1:=Hb l i b++[.cells [.fn f [] pB]]) (by kernel_rfl) (.k h2 .sr)) rfl rfl
theorem a1u{x a b:Int}:mY [x] a b=decide (a<=x∧x<=b):=by
 unfold mY vW;simp only[adq,List.any_nil,Bool.or_false];by_cases h:x<a
 .rw[a0p (by simpa using h),a8U,eq_comm,a3g];omega
 rw[a0o (by simpa using h),a4H,a8t,a3g,a1Q];omega
theorem Xw{l:List Br}{k:Nat}(h:k<l.length):l.getD k kM∈l:=by simp[List.getD,a0f h]
abbrev wX(l:Lo)(i:Int):Br:=l.d.aj.getD i.toNat kM
def FU(l:Lo)(i:Int):Bool:=if(!(mY [(wX l i).var] 0 (xw l.s)))=true then false else if(((wX l i).ay.length:Int) != l.s.getD (wX l i).var.toNat 0)=true then false else(wX l i).ay.all fun x=>ql l x i (nG l.o (wX l i).var)
theorem ajN{n:Nat}(hO:∀m,n<=m->Ok m Xv){l:Lo}{i:Int}(ho:l.o.length<=ah)(hf:uS l.s)(hi:gq i l.d.aj.length):aW X0 Qp (bQ (n+6)) (.fn 192 [.agg l.ps] []) [.int .i64 i] [] (tA.put (FU l i)) []:=by
 have h1:∀x∈(wX l i).ay,aW X0 Qp (bQ (n+1)) (.fn 222 [] pB) [.int .i64 x] (Hb l i (wX l i)) (tA.put (ql l x i (nG l.o (wX l i).var))) (Hb l i (wX l i)):=fun x _=>
  jk (hO n (a1b _)) (first:=[]) (.o ho (.o ho (.o (show 0<=x->x<i->gq x l.d.aj.length from fun h0 h1=>⟨h0,by have:=hi.1;have:=hi.2;omega⟩) .sr)))
 have hv:(!(mY [(wX l i).var] 0 (xw l.s)))=false->gq (wX l i).var l.s.length:=fun h=>by
  rw[a1u,abD,a1Q,a6B hf.air]at h;exact⟨h.1,by omega⟩
 have hk:(!(mY [(wX l i).var] 0 (xw l.s)))=false->(((wX l i).ay.length:Int) != l.s.getD (wX l i).var.toNat 0)=false->(wX l i).ay.length<=ah:=fun h h2=>by
  have h3:=hv h;have h4:=hf.sz _ (dn (s:=l.s) (k:=(wX l i).var.toNat) (by have:=h3.2;have:=h3.1;omega));have h2:((wX l i).ay.length:Int)=l.s.getD (wX l i).var.toNat 0:=by simpa using h2
  exact m12 (by omega)
 exact aW.drop hX (D5 hX (hO (n+5) (by omega)) (first:=[.agg l.ps]) (cap:=[]) (H1:=Hb l i (wX l i)++[.list true true 3 [(wX l i).var]]) (by kernel_rfl) (.o hi (.o (Xu (wX l i).var) (.ssh (fun _=>.sr) fun h5=>.o (hv h5) (.ssh (fun _=>.sr) fun h6=>.fr [0,1,2] (aoP (wX l i).ay h1 (hk h5 h6)) .sr))))) rfl rfl
abbrev a3r(f:Nat)(a:List (PV aF)):List (PB aF):=[.cells [.fn f a []]]
theorem ajO{n:Nat}{l:Lo}{g:Int->Bool}(ks:List Int)(hf:∀x∈ks,aW X0 Qp (bQ n) (.fn 192 [.agg l.ps] []) [.int .i64 x] [] (tA.put (g x)) [])(hl:ks.length<=ah):aW X0 Qp (bQ (n+4)) (.fn 191 [] []) [.dB 3 ks false,.fn 192 [.agg l.ps] []] [] (tA.put (ks.all g)) []:=by
 have h1:∀x∈ks,aW X0 Qp (bQ (n+1)) (.fn 221 [] [.ptr 0 0 1]) [.int .i64 x] (a3r 192 [.agg l.ps]) (tA.put (!(g x))) (a3r 192 [.agg l.ps]):=fun x hx=>
  jk fV (first:=[]) (.fr [] (hf x hx) .sr)
 have h2:=ajM ks h1 hl;rw[<-Eh ks g];exact aW.drop hX (D5 hX fV (first:=[]) (cap:=[]) (H1:=a3r 192 [.agg l.ps]) (by kernel_rfl) (.k h2 .sr)) rfl rfl
theorem aoQ{n:Nat}(hO:Ok n Xv)(l:List V)(hl:l.length<=ah):aW X0 Qp (bQ (n+4)) (.fn 189 [] []) [.dB 39 l false,.fn 190 [] []] [] (tA.put (l.all qH)) []:=by
 have h1:∀x:V,aW X0 Qp (bQ (n+1)) (.fn 220 [] [.ptr 0 0 1]) [.agg x.ps] (a3r 190 []) (tA.put (!(qH x))) (a3r 190 []):=fun x=>
  jk hO (first:=[]) .sr
 have h2:=aeU (n:=n+2) (by omega) (g:=fun x=>!(qH x)) h1 l hl;rw[<-Eh l,<-Jc];exact aW.drop hX (D5 hX fV (first:=[]) (cap:=[]) (H1:=a3r 190 []) (by kernel_rfl) (.k h2 .sr)) rfl rfl
theorem aoR{n:Nat}(hO:Ok n Xv)(m:Nat)(hm:m<=ah):aW X0 Qp (bQ n) (.fn 159 [] []) [.int .i64 m] [] (rO.put (dO m)) []:=
 oq.aak hX (hO 159 [.int .i64 m] (rO.put (dO m)) [] [0<=(m:Int),(m:Int)<=(ah:Int)] (by kernel_rfl) (by
  intro q hq;rcases a2y.1 hq with rfl|hq
  .omega
  .rw[a2U.1 hq];omega)) rfl rfl rfl rfl
theorem a1v{x:Int}{m:Nat}(h:x∈dO m):gq x m:=by
 simp only[dO,a1l,a4s]at h;obtain⟨k,hk,rfl⟩:=h;exact aH hk
abbrev yL(d:Dg):Lo:=⟨d.aA,d.aG,d⟩
abbrev lo0:Lo:=⟨[],[],⟨[],[],[],[],0⟩⟩
def bF(d:Dg):Lo×Int:=if(bW d.aA d.aG != 0)=true then(lo0,bW d.aA d.aG)else if decide ((d.aj.length:Int)>6000)=true then(yL d,5)else if(!(d.aK.all qH))=true then(yL d,4)else if(!((dO d.aj.length).all (FU (yL d))))=true then(yL d,4)else if(!(ql (yL d) d.root d.aj.length (-1)))=true then(yL d,4)else(yL d,0)
def Dn:eY aF:=bZ 160 (a1 dA) (dQ (a2 loA iA)) (fun p=>bF p) (fun p=>[p.aA.length<=ah,p.aG.length<=2^20,p.aK.length<=ah]) Xv
theorem acU:Gd Dn:=ajL.deep 11 fun n hn hO d hp=>by
 obtain⟨n,rfl⟩:∃k,n=k+10:=⟨n-10,by omega⟩;have h1:d.aA.length<=ah:=hp _ (.head _);have h2:d.aG.length<=2^20:=hp _ (.tail _ (.head _));have h3:d.aK.length<=ah:=hp _ (.tail _ (.tail _ (.head _)));have ho:d.aG.length<=ah:=by unfold ah;omega
 have hO:∀m,n<=m->Ok m _:=fun m hm=>hO m (by omega);have hI:(bW d.aA d.aG != 0)=false->∀x∈dO d.aj.length,aW X0 Qp (bQ (n+6)) (.fn 192 [.agg (yL d).ps] []) [.int .i64 x] [] (tA.put (FU (yL d) x)) []:=fun h x hx=>ajN hO (l:=yL d) ho (Az h) (a1v hx);have hR:0<=d.root->d.root<(d.aj.length:Int)->gq d.root d.aj.length:=fun a b=>⟨a,by omega⟩;have hL:decide ((d.aj.length:Int)>6000)=false->(dO d.aj.length).length<=ah:=fun h=>by rw[lS];exact UH h
 exact aN (hO (n+10) (by omega)) (.o h1 (.o h2 (.sh (fun _=>.rn (.dI [.agg [.nil .slc,.nil .slc,.nil .slc,.nil .slc,.nil .slc,.nil .slc,.int .i64 0],.int .i64 (bW d.aA d.aG)]) rfl) fun h=>.sh (fun _=>.rr) fun h4=>.fr [] (aoQ (n:=n+6) (hO (n+6) (by omega)) d.aK h3) (.ss .rr (.fr [] (aoR (hO (n+10) (by omega)) d.aj.length (UH h4)) (.fr [] (ajO (l:=yL d) (n:=n+6) (dO d.aj.length) (hI h) (hL h4)) (.ss .rr (.o ho (.o hR (.ss .rr .rr))))))))))
open Go Tw Pv dh
def FV(x:Int):Prop:=-(2^63)<=x∧x<2^63
structure Ez(d:Dg):Prop where
 zB:∀i,i<d.aj.length->∀k,k<(fA d i).ay.length->FV ((fA d i).ay.getD k 0)
 root:FV d.root
 fault:∀v∈d.aK,0<=v.f
theorem lW{n:Nat}{o:List Int}(h:jV n o=true){v:Int}(hv:gq v n):v∈o:=by
 unfold jV at h;rw[a1Q]at h;obtain⟨h0,h1⟩:=hv;by_cases hc:v∈o
 .exact hc
 have:=ady (l₁:=v::o) (l₂:=dO n) (a4r.2 ⟨hc,h.2.2⟩) (fun x hx=>by
  have:0<=x∧x<(n:Int):=by
   rcases a2y.1 hx with rfl|hx
   .exact⟨h0,by omega⟩
   exact h.2.1 x hx
  unfold dO;rw[a1l];exact⟨x.toNat,by rw[a4s];omega,by omega⟩)
 rw[lS]at this;simp at this;omega
theorem rP{l:List Int}{k:Nat}(h:k<l.length):l.getD k 0=l[k]:=by simp[List.getD,a0f h]
theorem a1w{l:List Int}{v:Int}(h:v∈l):jS (bG (cIx l v) l.length)=false:=by
 cases e:jS (bG (cIx l v) l.length)
 .rfl
 obtain⟨j,hj,e2⟩:=a4J.1 h;have:=dK.1 e j hj;simp[cIx,List.getD,a0f hj,e2]at this
theorem a6Q{d:Dg}{r:Int}:OX d r=cIx d.aG (au d r).var:=by
 funext k;exact BEq.comm
theorem UK{d:Dg}{r:Int}(h0:0<=r)(h:(au d r).var∈d.aG):tK d r=nG d.aG (au d r).var:=by
 unfold tK nG;rw[a0o (by rw[a1Q];omega),a6Q,a1w h,a0o (by decide),a0o (by decide)]
theorem ajP{l:List Int}{v:Int}(h:v∈l):nG l v<(l.length:Int):=by
 unfold nG;rw[a1w h,a0o (by simp)];obtain⟨j,h1,_,_,h2⟩:=Ed (a1w h);rw[h2];show(j:Int)<_;omega
theorem P5{x a b:Int}:mY [x] a b=nX x a b:=by
 rw[a1u,a4H,vO,a1Q]
theorem a6R{v:V}(h:0<=v.f):qH v=vOk v:=by
 rw[aeX h];unfold qH vIs;rw[P5]
theorem afa{z:Int}(h:FV z):i64.wrap z=z:=by
 obtain⟨h0,h1⟩:=h;simp only[IntKind.wrap,IntKind.bits,IntKind.signed];rcases Int.lt_or_le z 0 with h|h
 .have:z%(2^64:Int)=z+2^64:=by
   have:=abQ z (2^64) 1;rw[acI]at this;rw[<-this];exact a7B (by omega) (by omega)
  simp only[this];rw[a0p (by simp;omega)];omega
 have:z%(2^64:Int)=z:=a7B h (by omega);simp only[this];rw[a0o (by simp;omega)]
theorem MO{x:Int}(h:FV x)(h0:x<0):i64.wrap (-1-x)=-1-x:=by
 have h1:=h.1;exact afa ⟨by omega,by omega⟩
theorem aan{d:Dg}{x:Int}(below:Int)(h:FV x)(h0:x<0)(he:d.aK.length<=ah):iJ d x below=decide (i64.wrap (-1-x)<(d.aK.length:Int)):=by
 have he:d.aK.length<=2^60:=by unfold ah at he;omega
 unfold iJ;rw[a0o (by simp;omega),MO h h0,a4H,vO,a1Q];by_cases h1:d.aK.length=0
 .rw[h1,show i64.wrap (((0:Nat):Int)-1)=-1 by decide];omega
 rw[fG (by omega) (by omega)];omega
theorem ajQ{l:List Int}{v:Int}(h:v∈l):0<=nG l v:=by
 unfold nG;rw[a1w h,a0o (by simp)];omega
theorem afb{d:Dg}{x below Le:Int}(h0:0<=x)(hv:x<below->(au d x).var∈d.aG):ql (yL d) x below Le=(iJ d x below&&decide (Le<tK d x)):=by
 unfold ql iJ;rw[a0o (show ¬(decide (x<0)=true) by rw[a1Q];omega),a0p (show decide (x>=0)=true by rw[a1Q];omega)];by_cases h1:x<below
 .rw[a0p (show decide (x<below)=true by rw[a1Q];exact h1),UK h0 (hv h1),decide_eq_true h1,adn]
 rw[a0o (show ¬(decide (x<below)=true) by rw[a1Q];exact h1),aey h1,Bool.false_and]
theorem afc{d:Dg}{x below Le:Int}(h:FV x)(h0:x<0)(he:d.aK.length<=ah)(hr:Le<(d.aG.length:Int)):ql (yL d) x below Le=(iJ d x below&&decide (Le<tK d x)):=by
 rw[aan _ h h0 he];unfold ql tK;rw[a0p (by rw[a1Q];exact h0),a0p (by rw[a1Q];exact h0),decide_eq_true hr,agV]
theorem a6S{d:Dg}{x below Le:Int}(h:FV x)(he:d.aK.length<=ah)(hr:Le<(d.aG.length:Int))(hv:0<=x->x<below->(au d x).var∈d.aG):ql (yL d) x below Le=(iJ d x below&&decide (Le<tK d x)):=by
 by_cases h0:0<=x
 .exact afb h0 (hv h0)
 exact afc h (by omega) he hr
theorem a6T{d:Dg}(h:Ez d)(he:d.aK.length<=ah)(hv:∀r,gq r d.aj.length->(au d r).var∈d.aG):ql (yL d) d.root d.aj.length (-1)=iJ d d.root d.aj.length:=by
 rw[a6S h.root he (by omega) (fun a b=>hv _ ⟨a,by omega⟩)];cases e:iJ d d.root d.aj.length
 .rfl
 rw[adn,a1Q];by_cases h0:0<=d.root
 .have:=Xn e h0 (a1b _);rw[UK h0 (hv _ this)];have:=ajQ (hv _ this);omega
 unfold tK;rw[a0p (by rw[a1Q];omega)];omega
theorem acV{d:Dg}(h:Ez d)(he:d.aK.length<=ah){i:Nat}(hi:i<d.aj.length)(hf:uS d.aA)(ho:jV d.aA.length d.aG=true)(hv:∀j,j<i->(fA d j).var∈d.aG):FU (yL d) i=!(ZK d i):=by
 have e0:wX (yL d) i=fA d i:=rfl;unfold FU ZK;rw[e0];show(if(!(mY [(fA d i).var] 0 (xw d.aA)))=true then false else if(((fA d i).ay.length:Int) != d.aA.getD (fA d i).var.toNat 0)=true then false else _)=_;rw[P5];cases e1:nX (fA d i).var 0 (xw d.aA)
 .rfl
 have hvi:(fA d i).var∈d.aG:=lW ho (Ji hf e1);have aoS:(au d (i:Int)).var∈d.aG:=hvi;simp only[a8U,a2P,a3T];split
 .rfl
 have Fq:((fA d i).ay.all fun x=>ql (yL d) x i (nG (yL d).o (fA d i).var))=jS (bG (cLk d i) (fA d i).ay.length):=by
  rw[a4H,a4A,dK];have hk:∀k,k<(fA d i).ay.length->(ql (yL d) ((fA d i).ay.getD k 0) i (nG d.aG (fA d i).var)=true↔cLk d i k=false):=fun k hk=>by
   rw[a6S (h.zB i hi k hk) he (ajP hvi) (fun a b=>hv _ (by omega)),a2o,a1Q];unfold cLk;rw[show tK d (i:Int)=nG d.aG (fA d i).var from UK (by omega) aoS];cases iJ d ((fA d i).ay.getD k 0) i
   .simp
   simp<;>omega
  constructor
  .intro a k JX;exact(hk k JX).1 (a _ (dn JX))
  intro a x hx;obtain⟨k,JX,rfl⟩:=a4J.1 hx;have:=(hk k JX).2 (a k JX);rw[rP JX]at this;exact this
 rw[Fq];cases jS (bG (cLk d i) (fA d i).ay.length)<;>rfl
theorem afd{d:Dg}(h:Ez d)(he:d.aK.length<=ah)(hf:uS d.aA)(ho:jV d.aA.length d.aG=true):(dO d.aj.length).all (FU (yL d))=jS (bG (ZK d) d.aj.length):=by
 have ajR:∀i,ZK d i=false->(fA d i).var∈d.aG:=fun i hc=>by
  unfold ZK at hc;split at hc
  .cases hc
  rename_i e;exact lW ho (Ji hf (by simpa using e))
 have key:∀i,i<=d.aj.length->((∀j,j<i->FU (yL d) j=true)↔∀j,j<i->ZK d j=false):=by
  intro i
  induction i with
  |zero=>intro _;exact⟨fun _ j hj=>absurd hj (by omega),fun _ j hj=>absurd hj (by omega)⟩
  |succ i ih=>
   intro hi;have ih:=ih (by omega);constructor
   .intro a;have b:=ih.1 fun j hj=>a j (by omega);intro j hj;by_cases hji:j<i
    .exact b j hji
    have:j=i:=(by omega);subst this;have:=a j (by omega);rw[acV h he (by omega) hf ho (fun k hk=>ajR k (b k hk))]at this;simpa using this
   intro b j hj;by_cases hji:j<i
   .exact ih.2 (fun k hk=>b k (by omega)) j hji
   have:j=i:=(by omega);subst this;rw[acV h he (by omega) hf ho (fun k hk=>ajR k (b k (by omega))),b j (by omega)];rfl
 rw[a4H,a4A,dK,<-key _ (a1b _)];constructor
 .intro a j hj;exact a _ (by unfold dO;rw[a1l];exact⟨j,a4s.2 hj,rfl⟩)
 intro a x hx;simp only[dO,a1l,a4s]at hx;obtain⟨k,hk,rfl⟩:=hx;exact a k hk
theorem aao{d:Dg}(h:∀v∈d.aK,0<=v.f):d.aK.all qH=jS (bG (cLe d) d.aK.length):=by
 rw[a4H,a4A,dK];have hg:∀k,(hk:k<d.aK.length)->d.aK.getD k V0=d.aK[k]:=fun k hk=>by simp[List.getD,a0f hk]
 constructor
 .intro a k hk;unfold cLe;rw[hg k hk,<-a6R (h _ (a4z hk)),a _ (a4z hk)];rfl
 intro a x hx;obtain⟨k,hk,rfl⟩:=a4J.1 hx;have:=a k hk;unfold cLe at this;rw[hg k hk,<-a6R (h _ hx)]at this;simpa using this
theorem Jl{d:Dg}(h:Ez d)(he:d.aK.length<=ah):bF d=(if(bW d.aA d.aG != 0)=true then lo0 else yL d,bD d):=by
 unfold bF bD;split
 .rfl
 rename_i h1;have Wj:=kN.1 (show bW d.aA d.aG=0 by simpa using h1);split
 .rfl
 unfold lT;rw[aao h.fault,afd h he Wj.1 Wj.2];cases e1:jS (bG (cLe d) d.aK.length)
 .rfl
 cases e2:jS (bG (ZK d) d.aj.length)
 .rfl
 have hv:∀r,gq r d.aj.length->(au d r).var∈d.aG:=fun r hr=>by
  have:=dK.1 e2 r.toNat (by have:=hr.1;have:=hr.2;omega);unfold ZK at this;split at this
  .cases this
  rename_i e;exact lW Wj.2 (Ji Wj.1 (by simpa using e))
 rw[a6T h he hv];simp only[a8U,a2P,a3T,a2w];cases iJ d d.root d.aj.length<;>rfl
end Go.Proofs.YtmobpoiejckagaaGreat
namespace Pv
open Go Tw
structure oQ(X:kQ)(P:Program)(kt:TypeId)(α:Type)[DecidableEq α] where
 pv:α->PV X.Γ
 tv:α->TV
 v:α->Value
 hp:∀x,qg (pv x)=some (tv x)
 ht:∀x,(tv x).yB=some (v x)
 hc:∀em x,aB P (Instr.checkKey em 10000 kt (v x))=some ()
 hf:∀(x:α) (l:List α),aB P (Instr.findKey kt (v x) (l.map fun y=>⟨v y,.bool false,0⟩))=some ((l.findIdx? fun y=>decide (x=y)).map fun i=>(i,.bool false))
 hk:∃kind,aB P (underlying kt)=some kind∧((∀x y,Instr.sameNow kind (v x) (v y)=some (decide (x=y)))∨∀x y,Instr.sameNow kind (v x) (v y)=none∧aB P (Op.equal kt (v x) (v y))=some (decide (x=y)))
variable {X:kQ} {P:Program} {kt:TypeId} {α:Type} [DecidableEq α] (C:oQ X P kt α)
abbrev oQ.es(l:List (α×PV X.Γ)):List (PV X.Γ×PV X.Γ):=l.map fun e=>(C.pv e.1,e.2)
theorem oQ.tvs:∀l:List α,Tw.BA (l.map C.tv)=some (l.map C.v)
 | []=>rfl
 |a::l=>by
  show(match(C.tv a).yB,Tw.BA (l.map C.tv)with|some v,some vs=>some (v::vs)|_,_=>none)=_;rw[C.ht,oQ.tvs l];rfl
theorem oQ.find(x:α)(l:List α)(r:Option Nat)(hr:(l.findIdx? fun y=>decide (x=y))=r)(hs:∀(i:Nat) y,l[i]? = some y->decide (x=y)=(some i==r)):vk P kt (C.v x) (l.map C.tv)=some r:=by
 unfold vk;rw[C.tvs];simp only[];rw[bI,C.hc,a4t,a7X];show(match aB P (Instr.findKey kt (C.v x) (l.map fun y=>⟨C.v y,.bool false,0⟩))with|some r=>if VB P kt (C.v x) (l.map C.v) (Option.map (fun(q:Nat×Value)=>q.1) r)then some (Option.map (fun(q:Nat×Value)=>q.1) r)else none|none=>none)=_;rw[C.hf,hr];have e:Option.map (fun(q:Nat×Value)=>q.1) (r.map fun i=>(i,Value.bool false))=r:=by cases r<;>rfl
 simp only[e];rw[a0p];obtain⟨kind,h1,h2⟩:=C.hk;simp only[VB,h1,a2o,a8X,a4A];constructor
 .cases r with
  |none=>rfl
  |some j=>
   have:=(a9R.1 hr).1;simpa using this
 have hz:∀p∈(l.map C.v).zipIdx,∃y,p.1=C.v y∧decide (x=y)=(some p.2==r):=fun p hp=>by
  have:=a9u.1 hp;rw[a4q,a0e]at this;obtain⟨y,hy,e⟩:=this;exact⟨y,e.symm,hs _ _ hy⟩
 rcases h2 with h2|h2
 .left;intro p hp;obtain⟨y,e1,e2⟩:=hz p hp;rw[e1,h2,e2];simp
 right;intro p hp;obtain⟨y,e1,e2⟩:=hz p hp;rw[e1,(h2 x y).1,(h2 x y).2,e2];simp
theorem oQ.pk:∀l:List (α×PV X.Γ),vg X (C.es l)=some ((l.map (·.1)).map C.tv)
 | []=>rfl
 |a::l=>by
  show(match qg (C.pv a.1),vg X (C.es l)with|some v,some vs=>some (v::vs)|_,_=>none)=_;rw[C.hp,oQ.pk l];rfl
theorem oQ.ck(x:α):∃kv,(C.tv x).yB=some kv∧aB P (Instr.checkKey false 10000 kt kv)=some ():=⟨C.v x,C.ht x,C.hc false x⟩
theorem oQ.fresh{l:List (α×PV X.Γ)}{x:α}(h:x∉l.map (·.1)):nP X P kt (C.es l) (C.tv x):=by
 refine⟨C.v x,_,C.ht x,C.pk l,?_⟩;have Yr:∀y∈l.map (·.1),decide (x=y)=false:=fun y hy=>by
  simp only[a3g];intro e;exact h (e▸hy)
 exact C.find x _ none (List.findIdx?_eq_none_iff.2 Yr) fun i y hy=>by rw[Yr y (a4u hy)];rfl
theorem oQ.found{l:List (α×PV X.Γ)}{x:α}{v:PV X.Γ}(hn:(l.map (·.1)).Nodup)(h:(x,v)∈l):qp X P kt (C.es l) (C.tv x) v:=by
 obtain⟨j,hj,e⟩:=a4J.1 h;refine⟨C.v x,_,j,C.pv x,C.ht x,C.pk l,?_,?_⟩
 .have hxj:(l.map (·.1))[j]? = some x:=by simp[a0f hj,e]
  have hu:∀(i:Nat) y,(l.map (·.1))[i]? = some y->decide (x=y)=(some i==some j):=fun i y hy=>by
   rw[a4H];simp only[a1Q,a6H,a05];constructor
   .rintro rfl;have i1:=a0c.1 hy;have i2:=a0c.1 hxj;exact(aae hn (h₀:=i1.1) (h₁:=i2.1)).1 (i1.2.trans i2.2.symm)
   rintro rfl;rw[hxj]at hy;exact a94 hy
  refine C.find x _ (some j) ?_ hu;rw[a9R];refine⟨by simpa using hj,by simp[e],fun i hi=>?_⟩;have hil:i<(l.map (·.1)).length:=by simp;omega
  rw[hu i _ (a0f hil)];simp;omega
 simp[oQ.es,a0f hj,e]
theorem Jm{t:TypeId}{d:TypeDesc}(h:P.underlying t=some d):aB P (underlying t)=some d:=by
 simp only[underlying,bI];show Option.bind (some P) _=_;simp[h];rfl
theorem ZM{v:α->Value}(he:∀x y,aB P (Op.equal kt (v x) (v y))=some (decide (x=y)))(x:α):∀(l:List α) (i:Nat),aB P (Instr.findAsking kt (v x) (l.map fun y=>⟨v y,.bool false,0⟩) i)=some ((l.findIdx? fun y=>decide (x=y)).map fun j=>(j+i,.bool false))
 | [],i=>rfl
 |y::l,i=>by
  simp only[a4k,Instr.findAsking];rw[bI,he,a4t,List.findIdx?_cons];cases decide (x=y)with
  |true=>simp only[a2w,a0v,a4e];rfl
  |false=>
   simp only[a2P,a3T];rw[ZM he x l (i+1)];cases l.findIdx? fun y=>decide (x=y)with
   |none=>rfl
   |some j=>simp;omega
theorem a1x{v:α->Value}{fs:Array Field}(hu:P.underlying kt=some (.struct fs))(he:∀x y,aB P (Op.equal kt (v x) (v y))=some (decide (x=y)))(x:α)(l:List α):aB P (Instr.findKey kt (v x) (l.map fun y=>⟨v y,.bool false,0⟩))=some ((l.findIdx? fun y=>decide (x=y)).map fun i=>(i,.bool false)):=by
 have h:=ZM he x l 0;unfold Instr.findKey;rw[bI,Jm hu,a4t];cases l with
 |nil=>rfl
 |cons y l=>
  rw[show Instr.findNow (.struct fs) (v x) ((y::l).map fun y=>⟨v y,.bool false,0⟩) 0=none by simp[Instr.findNow,Instr.sameNow]];exact h
theorem a1y{k:IntKind}(x:Int):∀(l:List Int) (i:Nat),Instr.findNow (.int k) (.int k x) (l.map fun y=>⟨.int k y,.bool false,0⟩) i=some ((l.findIdx? fun y=>decide (x=y)).map fun j=>(j+i,.bool false))
 | [],i=>rfl
 |y::l,i=>by
  simp only[a4k,Instr.findNow,Instr.sameNow,a2w];rw[List.findIdx?_cons];by_cases h:x=y
  .subst h;simp
  rw[show(x==y)=false by simpa using h,aey h];simp only[a2P,a3T];rw[a1y x l (i+1)];cases l.findIdx? fun y=>decide (x=y)with
  |none=>rfl
  |some j=>simp;omega
theorem afe{k:IntKind}(hu:P.underlying kt=some (.int k))(x:Int)(l:List Int):aB P (Instr.findKey kt (.int k x) (l.map fun y=>⟨.int k y,.bool false,0⟩))=some ((l.findIdx? fun y=>decide (x=y)).map fun i=>(i,.bool false)):=by
 unfold Instr.findKey;rw[bI,Jm hu,a4t,a1y x l 0];cases l.findIdx? fun y=>decide (x=y)<;>rfl
theorem a1z{v:α->Value}{fs:Array Field}(hu:P.underlying kt=some (.struct fs))(he:∀x y,aB P (Op.equal kt (v x) (v y))=some (decide (x=y))) :
  ∃kind,aB P (underlying kt)=some kind∧((∀x y,Instr.sameNow kind (v x) (v y)=some (decide (x=y)))∨∀x y,Instr.sameNow kind (v x) (v y)=none∧aB P (Op.equal kt (v x) (v y))=some (decide (x=y))):=
 ⟨_,Jm hu,.inr fun x y=>⟨by simp[Instr.sameNow],he x y⟩⟩
theorem aff{k:IntKind}(hu:P.underlying kt=some (.int k)) :
  ∃kind,aB P (underlying kt)=some kind∧((∀x y:Int,Instr.sameNow kind (.int k x) (.int k y)=some (decide (x=y)))∨∀x y:Int,Instr.sameNow kind (.int k x) (.int k y)=none∧aB P (Op.equal kt (.int k x) (.int k y))=some (decide (x=y))):=
 ⟨_,Jm hu,.inl fun x y=>by simp only[Instr.sameNow,a2w];congr 1⟩
theorem afg{v:α->Value}{n:Nat}{e:TypeId}(hu:P.underlying kt=some (.array n e))(he:∀x y,aB P (Op.equal kt (v x) (v y))=some (decide (x=y)))(x:α)(l:List α):aB P (Instr.findKey kt (v x) (l.map fun y=>⟨v y,.bool false,0⟩))=some ((l.findIdx? fun y=>decide (x=y)).map fun i=>(i,.bool false)):=by
 have h:=ZM he x l 0;unfold Instr.findKey;rw[bI,Jm hu,a4t];cases l with
 |nil=>rfl
 |cons y l=>
  rw[show Instr.findNow (.array n e) (v x) ((y::l).map fun y=>⟨v y,.bool false,0⟩) 0=none by simp[Instr.findNow,Instr.sameNow]];exact h
theorem afh{v:α->Value}{n:Nat}{e:TypeId}(hu:P.underlying kt=some (.array n e))(he:∀x y,aB P (Op.equal kt (v x) (v y))=some (decide (x=y))) :
  ∃kind,aB P (underlying kt)=some kind∧((∀x y,Instr.sameNow kind (v x) (v y)=some (decide (x=y)))∨∀x y,Instr.sameNow kind (v x) (v y)=none∧aB P (Op.equal kt (v x) (v y))=some (decide (x=y))):=
 ⟨_,Jm hu,.inr fun x y=>⟨by simp[Instr.sameNow],he x y⟩⟩
end Pv
namespace Go.Proofs.YtmobpoiejckagaaGreat
open Go Tw Pv dh
def kV:oQ X0 Qp 39 V where
 pv x:=.agg x.ps
 tv x:=x.tv
 v x:=.agg #[.int .u8 x.f,.int .i64 x.n]
 hp _:=rfl
 ht _:=rfl
 hc em x:=by kernel_rfl
 hf x l:=a1x aeY (fun a b=>a1n 9998 a b) x l
 hk:=a1z aeY fun a b=>a1n 9998 a b
def kI:oQ X0 Qp 3 Int where
 pv x:=.int .i64 x
 tv x:=.int .i64 x
 v x:=.int .i64 x
 hp _:=rfl
 ht _:=rfl
 hc em x:=by kernel_rfl
 hf x l:=afe a3i x l
 hk:=aff a3i
abbrev zD(E:List V):List (V×PV X0.Γ):=E.zipIdx.map fun e=>(e.1,.int .i64 (e.2:Nat))
abbrev mkC(a b:List Int)(e n:Nat)(r:Int):PB aF:=.cells [.dB 3 a false,.dB 3 b false,.own 0,.own 1,.own e,.own n,.int .i64 r,.map 2,.map 3]
abbrev Qa(l:List V):PB aF:=.list false false 39 l
abbrev Qb(l:List Br):PB aF:=.list false false 105 l
abbrev MK(a b:List Int)(E:List V)(nd:List Br)(r:Int)(nm:List (PV aF×PV aF)):List (PB aF):=[.list false false 3 a,.list false false 3 b,.map (kV.es (zD E)),.map nm,mkC a b 5 6 r,Qa E,Qb nd]
abbrev MK'(a b:List Int)(E:List V)(nd:List Br)(r:Int)(nm:List (PV aF×PV aF)):List (PB aF):=[.list false false 3 a,.list false false 3 b,.map (kV.es (zD E)),.map nm,mkC a b 7 8 r,.gone,.gone,Qa E,Qb nd]
theorem SH(E:List V):(zD E).map (·.1)=E:=by
 unfold zD;rw[a7X];show E.zipIdx.map (·.1)=E;simp
theorem a6U(E:List V)(v:V):zD (E++[v])=zD E++[(v,.int .i64 (E.length:Nat))]:=by
 unfold zD;rw[List.zipIdx_append,a4j];simp
theorem a6V{E:List V}{v:V}(h:v∈E):(v,(.int .i64 (E.idxOf v:Nat):PV X0.Γ))∈zD E:=by
 unfold zD;rw[a1l];have hl:=a4F.2 h;exact⟨(v,E.idxOf v),by rw[a9u];simp[a0f hl],rfl⟩
def gK(E:List V)(v:V):List V:=if v∈E then E else E++[v]
theorem UL{E:List V}{v:V}(h:E.Nodup):(gK E v).Nodup:=by
 unfold gK;split
 .exact h
 rename_i hn;rw[a8P];exact⟨h,by simp,fun x hx y hy=>by rw[a2U]at hy;subst hy;intro e;subst e;exact hn hx⟩
theorem aoT{n:Nat}(hO:Ok n Dn){a b:List Int}{E:List V}{nd:List Br}{r:Int}{nm:List (PV aF×PV aF)}(v:V)(hE:E.Nodup)(hl:E.length+1<=ah):aW X0 Qp (bQ (n+1)) (.fn 196 [] []) [.ptr 4 0 9,.agg v.ps] (MK a b E nd r nm) (.int .i64 (i64.wrap (-1-(E.idxOf v:Nat)))) (MK' a b (gK E v) nd r nm):=by
 by_cases h:v∈E
 .rw[show gK E v=E from a0p h];have hf:qp X0 Qp 39 (kV.es (zD E)) v.tv (.int .i64 (E.idxOf v:Nat)):=kV.found (by rw[SH];exact hE) (a6V h);exact aW.gs hX (rG hX hO (first:=[]) (cap:=[]) (v:=.int .i64 (i64.wrap (-1-(E.idxOf v:Nat)))) (H1:=MK a b E nd r nm) (by kernel_rfl) (.c (.int .i64 (E.idxOf v:Nat)) [] hf (.b (rfl:(!true)=false) .er))) [.mv 5,.mv 6] rfl
 rw[show gK E v=E++[v]from a0o h,a8L h];have hf:nP X0 Qp 39 (kV.es (zD E)) v.tv:=kV.fresh (by rw[SH];exact h);have em:kV.es (zD (E++[v]))=kV.es (zD E)++[(.agg v.ps,.int .i64 (E.length:Nat))]:=by rw[a6U];exact a4j ..
 show aW X0 Qp _ _ _ _ _ [_,_,.map (kV.es (zD (E++[v]))),_,_,_,_,_,_];rw[em];exact aW.gs hX (rG hX hO (first:=[]) (cap:=[]) (v:=.int .i64 (i64.wrap (-1-(E.length:Nat)))) (H1:=[.list false false 3 a,.list false false 3 b,.map (kV.es (zD E)++[(.agg v.ps,.int .i64 (E.length:Nat))]),.map nm,mkC a b 8 6 r,.gone,Qb nd,.list true true 39 [v],Qa (E++[v])]) (by kernel_rfl) (.a .calm (.o hf (.b (rfl:(!false)=true) (.a .calm (.o (kV.ck v) (.o hf (.o (show E.length+[v].length<=ah by simpa using hl) .er)))))))) [.mv 6,.gc [8,9]] rfl
end Go.Proofs.YtmobpoiejckagaaGreat
namespace Tw
open Go
section
variable {P:Program}
theorem Dq{e:TypeId}(hg:aB P (isAgg e)=some false){xs:Array Value}{i:Nat}{v:Value}(h:xs[i]? = some v):aB P (part e xs i)=some v:=by
 unfold part;rw[bI,hg,a4t];simp only[a2P,a3T,h];rfl
def a3s(d:Nat)(e:TypeId)(c:Nat)(xs ys:Array Value):List Nat->Sem Bool
 | []=>pure true
 |i::is=>do
  let a <-part e xs (i*c)
  let b <-part e ys (i*c)
  let r <-Op.equalIn d e a b
  if(!r)=true then pure false else a3s d e c xs ys is
theorem Jo(d:Nat){t e:TypeId}{n c:Nat}(xs ys:Array Value)(hu:P.underlying t=some (.array n e))(hs:aB P (sizeOf e)=some c) :
  aB P (Op.equalIn (d+1) t (.agg xs) (.agg ys))=aB P (a3s d e c xs ys (List.range' 0 n)):=by
 have hu':aB P (underlying t)=some (.array n e):=by
  simp only[underlying,bI];have:aB P program=some P:=rfl;simp[this,hu,aB];rfl
 simp only[Op.equalIn,bI,hu',a4t,hs];simp only[Std.Legacy.Range.forIn_eq_forIn_range',Std.Legacy.Range.size,Nat.sub_zero,Nat.add_one_sub_one,Nat.div_one];generalize List.range' 0 n=is;clear hu hu' hs
 induction is with
 |nil=>simp[a3s,aB,bI];rfl
 |cons j is ih=>
  simp only[List.forIn_cons,a3s,bI]at ih ⊢;generalize aB P (part e xs (j*c))=r1;cases r1 with
  |none=>simp
  |some a=>
   simp only[a4t];generalize aB P (part e ys (j*c))=r2;cases r2 with
   |none=>simp
   |some b=>
    simp only[a4t];generalize aB P (Op.equalIn d e a b)=r3;cases r3 with
    |none=>simp
    |some r=>
     cases r with
     |false=>simp only[a4t,abw,a2w];rfl
     |true=>simp only[a4t,a8U,a2P,a3T];exact ih
abbrev Du(k:IntKind)(l:List Int):Array Value:=(l.map fun x=>Value.int k x).toArray
theorem P6{k:IntKind}{l:List Int}{i:Nat}(h:i<l.length):(Du k l)[i]? = some (.int k l[i]):=by
 simp[Du,h]
theorem KJ{d:Nat}{e:TypeId}{k k':IntKind}(hu:P.underlying e=some (.int k'))(hg:aB P (isAgg e)=some false)(l l':List Int)(hl:l.length=l'.length):∀(m i:Nat),i+m=l.length->aB P (a3s (d+1) e 1 (Du k l) (Du k l') (List.range' i m))=some (decide (l.drop i=l'.drop i))
 | 0,i,h=>by
  rw[agz (by omega),agz (by omega)];rfl
 |m+1,i,h=>by
  have h1:i<l.length:=by omega
  have h2:i<l'.length:=by omega
  rw[List.range'_succ];simp only[a3s,agR];rw[bI,Dq hg (P6 h1),a4t,bI,Dq hg (P6 h2),a4t,bI,qY d e k k' _ _ hu,a4t];rw[a6D h1,a6D h2];by_cases hc:l[i]=l'[i]
  .have:=KJ (d:=d) (k:=k) hu hg l l' hl m (i+1) (by omega);simp only[hc,beq_self_eq_true,a8U,a2P,a3T,this,aeb,true_and]
  have:(l[i]==l'[i])=false:=by simpa using hc
  simp only[this,abw,a2w,aeb,hc,false_and,decide_false];rfl
theorem Bv(d:Nat){t e:TypeId}{n:Nat}{k k':IntKind}(ht:P.underlying t=some (.array n e))(hs:aB P (sizeOf e)=some 1)(hu:P.underlying e=some (.int k'))(hg:aB P (isAgg e)=some false){l l':List Int}(hl:l.length=n)(hl':l'.length=n) :
  aB P (Op.equalIn (d+2) t (.agg (Du k l)) (.agg (Du k l')))=some (decide (l=l')):=by
 rw[Jo (d+1) _ _ ht hs,KJ hu hg l l' (by omega) n 0 (by omega),abx,abx]
end
end Tw
namespace Go.Proofs.YtmobpoiejckagaaGreat
open Go Tw Pv dh
abbrev oI(k ex:Bool)(l:List Int):PB aF:=.list k ex 3 l
abbrev wOI(f:Nat)(a c:List (PV aF))(k ex:Bool)(R:List (PB aF))(l:List Int)(i:Int)(x:List (Nat×PE aF)):aS aF:=⟨[(0,.val (.own 0)),(1,.val (.fn f a c)),(7,xi l.length),(8,xi i)]++x,[],oI k ex l::R⟩
def zOI(f:Nat)(a c:List (PV aF))(k ex:Bool)(R:List (PB aF))(l:List Int):Unit⊕(Nat×Int×Unit)->Ex×aS aF
 |.inl _=>(.exit 0,wOI f a c k ex R l l.length [(9,xl false)])
 |.inr r=>(.ret,⟨[(4,xi r.1)],[],oI k ex l::R⟩)
theorem qoI{n f:Nat}{a c:List (PV aF)}{ko ex:Bool}{R:List (PB aF)}{g:Int->Bool}(l:List Int)(hf:∀x∈l,aW X0 Qp (bQ n) (.fn f a c) [.int .i64 x] (oI ko ex l::R) (.bool (g x)) (oI ko ex l::R))(hl:l.length<=ah):aW X0 Qp (bQ (n+1)) (.fn 218 [] []) [.own 0,.fn f a c] (oI ko ex l::R) (iA.put (rJ g l)) (oI ko ex l::R):=by
 have lp:OU n 218 0 (R.length+1) (wOI f a c ko ex R l 0 []) (zOI f a c ko ex R l (mQ (pR g) l 0 ())).1 (zOI f a c ko ex R l (mQ (pR g) l 0 ())).2:=
  X3 (st:=fun i _=>wOI f a c ko ex R l i []) (0:Int) (fun _ _=>True) (by kernel_rfl) hl Qu trivial (fun k s n hk _ ih=>aO fV (.b (bC hk) (.o (aH hk) (.k (hf (l.getD k (0:Int)) (dn hk)) (.ls (.ou nofun) (.nx (ih _ trivial))))))) (fun s _=>aO fV (.b (fD l.length) (.ou nofun)))
 exact jk fV (first:=[]) (cap:=[]) (.szh (fun h=>.w (kG lp () h) .sr) (fun h=>.w (kH lp (0,0,()) h) .sr))
theorem qoC{n f:Nat}{a c:List (PV aF)}{ko ex:Bool}{R:List (PB aF)}{g:Int->Bool}(l:List Int)(hf:∀x∈l,aW X0 Qp (bQ n) (.fn f a c) [.int .i64 x] (oI ko ex l::R) (.bool (g x)) (oI ko ex l::R))(hl:l.length<=ah):aW X0 Qp (bQ (n+2)) (.fn 181 [] []) [.own 0,.fn f a c] (oI ko ex l::R) (tA.put (l.any g)) (oI ko ex l::R):=by
 have h1:=qoI l hf hl;have h2:=Ec g l;rw[<-h2];exact jk fV (first:=[]) (cap:=[]) (.k h1 .sr)
abbrev Hk(k ex:Bool)(l:List Int):List (PB aF):=[oI k ex l,.cells [.own 0]]
theorem qoA{n f:Nat}{ko ex:Bool}{g:Int->Bool}(l:List Int)(hf:∀x∈l,aW X0 Qp (bQ n) (.fn f [] [.ptr 1 0 1]) [.int .i64 x] (Hk ko ex l) (tA.put (g x)) (Hk ko ex l))(hl:l.length<=ah):aW X0 Qp (bQ (n+4)) (.fn 191 [] []) [.own 0,.fn f [] [.ptr 1 0 1]] (Hk ko ex l) (tA.put (l.all g)) (Hk ko ex l):=by
 have h1:∀x∈l,aW X0 Qp (bQ (n+1)) (.fn 221 [] [.ptr 2 0 1]) [.int .i64 x] (Hk ko ex l++[.cells [.fn f [] [.ptr 1 0 1]]]) (tA.put (!(g x))) (Hk ko ex l++[.cells [.fn f [] [.ptr 1 0 1]]]):=fun x hx=>
  jk fV (first:=[]) (.fr [0,1] (hf x hx) .sr)
 have h2:=qoC (R:=[.cells [.own 0],.cells [.fn f [] [.ptr 1 0 1]]]) l h1 hl;rw[<-Eh l g];exact aW.drop hX (D5 hX fV (first:=[]) (cap:=[]) (H1:=Hk ko ex l++[.cells [.fn f [] [.ptr 1 0 1]]]) (by kernel_rfl) (.k h2 .sr)) rfl rfl
theorem a6W{n:Nat}{ko ex:Bool}(l:List Int)(hl:l.length<=ah):aW X0 Qp (bQ (n+5)) (.fn 191 [] []) [.own 0,.fn 224 [] [.ptr 1 0 1]] (Hk ko ex l) (tA.put (l.all fun x=>x==l.getD 0 0)) (Hk ko ex l):=
 qoA (n:=n+1) l (fun x hx=>jk fV (first:=[]) (.o (show gq 0 l.length from⟨by omega,by have:=List.length_pos_of_mem hx;omega⟩) .sr)) hl
theorem a6X:∀l:List Int,l.length=12->∃a0 a1 a2 a3 a4 a5 a6 a7 a8 a9 a10 a11:Int,l=[a0,a1,a2,a3,a4,a5,a6,a7,a8,a9,a10,a11]
 | [a0,a1,a2,a3,a4,a5,a6,a7,a8,a9,a10,a11],_=>⟨a0,a1,a2,a3,a4,a5,a6,a7,a8,a9,a10,a11,rfl⟩
 | [],h=>by simp at h
 | [_],h=>by simp at h
 | [_,_],h=>by simp at h
 | [_,_,_],h=>by simp at h
 | [_,_,_,_],h=>by simp at h
 | [_,_,_,_,_],h=>by simp at h
 | [_,_,_,_,_,_],h=>by simp at h
 | [_,_,_,_,_,_,_],h=>by simp at h
 | [_,_,_,_,_,_,_,_],h=>by simp at h
 | [_,_,_,_,_,_,_,_,_],h=>by simp at h
 | [_,_,_,_,_,_,_,_,_,_],h=>by simp at h
 | [_,_,_,_,_,_,_,_,_,_,_],h=>by simp at h
 |_::_::_::_::_::_::_::_::_::_::_::_::_::_,h=>by simp at h
abbrev Ky:=Int×{l:List Int // l.length=12}
abbrev Ky.l(x:Ky):List Int:=x.1::x.2.val
theorem P7:∀l:List Int,iI (Γ:=aF) (l.map fun x=>PV.int .i64 x)=some (l.map fun x=>TV.int .i64 x)
 | []=>rfl
 |a::l=>by simp only[a4k,iI,qW,P7 l]
theorem SI:∀l:List Int,TV.TF (l.map fun x=>TV.int .i64 x)=some (l.map fun x=>Value.int .i64 x)
 | []=>rfl
 |a::l=>by simp only[a4k,TV.TF,TV.toC,SI l]
theorem afi : Tryz.prog.underlying 223 = some (.struct #[⟨"choice", 3, 0, false, "", "mist/node", 0⟩, ⟨"kids", 221, 1, false, "", "mist/node", 8⟩]) := by kernel_rfl
theorem acX(d:Nat)(a b:Ky):aB Qp (Op.equalIn (d+3) 223 (.agg (Du .i64 a.l)) (.agg (Du .i64 b.l)))=some (decide (a=b)):=by
 obtain⟨a1,a2,ha⟩:=a;obtain⟨b1,b2,hb⟩:=b;rw[yg (d+2) 223 _ _ _ afi (by kernel_rfl)];have gI:aB Qp (isAgg 3)=some false:=by kernel_rfl
 have gA:aB Qp (isAgg 221)=some true:=by kernel_rfl
 have sA:aB Qp (sizeOf 221)=some 12:=by kernel_rfl
 have sI:aB Qp (sizeOf 3)=some 1:=by kernel_rfl
 have p0:∀x l,aB Qp (part 3 (Du .i64 (x::l)) 0)=some (.int .i64 x):=fun x l=>Dq gI (P6 (l:=x::l) (by simp));have p1:∀x l,l.length=12->aB Qp (part 221 (Du .i64 (x::l)) 1)=some (.agg (Du .i64 l)):=fun x l h=>by
  obtain⟨a0,a1,a2,a3,a4,a5,a6,a7,a8,a9,a10,a11,rfl⟩:=a6X l h
  kernel_rfl
 have q1 := oL (f := ⟨"choice", 3, 0, false, "", "mist/node", 0⟩) (fs := [⟨"kids", 221, 1, false, "", "mist/node", 8⟩]) (by decide) (p0 a1 a2) (p0 b1 b2) (qY (d + 1) _ .i64 _ a1 b1 a3i);have q2 := oL (f := ⟨"kids", 221, 1, false, "", "mist/node", 8⟩) (fs := []) (by decide) (p1 a1 a2 ha) (p1 b1 b2 hb) (Bv d (k := .i64) (t := 221) (by kernel_rfl) sI a3i gI ha hb);rw[q1,q2];rw[show aB Qp (Op.eqFields (d+2) (Du .i64 (a1::a2)) (Du .i64 (b1::b2)) [])=some true from rfl];by_cases h1:a1=b1<;>by_cases h2:a2=b2<;>simp[h1,h2]
def kK:oQ X0 Qp 223 Ky where
 pv x:=.agg (x.l.map fun i=>.int .i64 i)
 tv x:=.agg (x.l.map fun i=>.int .i64 i)
 v x:=.agg (Du .i64 x.l)
 hp x:=congrArg (Option.map TV.agg) (P7 x.l)
 ht x:=congrArg (Option.map fun vs:List Value=>Value.agg vs.toArray) (SI x.l)
 hc em x:=by
  obtain⟨c,l,h⟩:=x;obtain⟨a0,a1,a2,a3,a4,a5,a6,a7,a8,a9,a10,a11,rfl⟩:=a6X l h
  kernel_rfl
 hf x l:=a1x afi (fun a b=>acX 9997 a b) x l
 hk:=a1z afi (fun a b=>acX 9997 a b)
open Go Tw Pv dh
def HY(l:List Int):List Int:=(l++[0,0,0,0,0,0,0,0,0,0,0,0]).take 12
theorem a6Y(l:List Int):(HY l).length=12:=by unfold HY;simp
def tV(c:Int)(ks:List Int):Ky:=(c,⟨HY ks,a6Y ks⟩)
abbrev BN(b:Br):Ky:=tV b.var b.ay
abbrev yJ(nd:List Br):List (Ky×PV X0.Γ):=nd.zipIdx.map fun e=>(BN e.1,.int .i64 (e.2:Nat))
theorem SK(nd:List Br):(yJ nd).map (·.1)=nd.map BN:=by
 unfold yJ;rw[a7X];show nd.zipIdx.map (BN∘fun e=>e.1)=_;rw[<-a7X];simp
theorem a6Z(nd:List Br)(b:Br):yJ (nd++[b])=yJ nd++[(BN b,.int .i64 (nd.length:Nat))]:=by
 unfold yJ;rw[List.zipIdx_append,a4j];simp
theorem a7a{nd:List Br}{k:Ky}(h:k∈nd.map BN):(k,(.int .i64 ((nd.map BN).idxOf k:Nat):PV X0.Γ))∈yJ nd:=by
 have hl:=a4F.2 h;have QH:(nd.map BN).idxOf k<nd.length:=by simpa using hl
 unfold yJ;rw[a1l];refine⟨(nd[(nd.map BN).idxOf k],(nd.map BN).idxOf k),by rw[a9u];simp[a0f QH],?_⟩;have:=a8M hl;rw[a8T]at this;show(BN _,_)=_;rw[this]
def dw(nd:List Br)(c:Int)(ks:List Int):List Br:=if(ks.all fun x=>x==ks.getD 0 0)=true then nd else if tV c ks∈nd.map BN then nd else nd++[⟨c,ks⟩]
def dZ(nd:List Br)(c:Int)(ks:List Int):Int:=if(ks.all fun x=>x==ks.getD 0 0)=true then ks.getD 0 0 else((nd.map BN).idxOf (tV c ks):Nat)
abbrev MN(a b:List Int)(E:List V)(nd:List Br)(r:Int):List (PB aF):=MK a b E nd r (kK.es (yJ nd))
abbrev MNg(a b:List Int)(E:List V)(nd:List Br)(r:Int)(nm:List (PV aF×PV aF)):List (PB aF):=[.list false false 3 a,.list false false 3 b,.map (kV.es (zD E)),.map nm,mkC a b 8 9 r,.gone,.gone,.gone,Qa E,Qb nd]
abbrev MN'(a b:List Int)(E:List V)(nd:List Br)(r:Int):List (PB aF):=MNg a b E nd r (kK.es (yJ nd))
theorem afj{n:Nat}(hO:Ok (n+5) Dn){a b:List Int}{E:List V}{nd:List Br}{r:Int}(c:Int)(ks:List Int)(hk:1<=ks.length∧ks.length<=12)(hf:(ks.all fun x=>x==ks.getD 0 0)=true):aW X0 Qp (bQ (n+6)) (.fn 198 [] []) [.ptr 4 0 9,.int .i64 c,.own 7] (MN a b E nd r++[oI true true ks]) (.int .i64 (ks.getD 0 0)) (MN' a b E nd r):=by
 have h1:=rG hX hO (first:=[]) (cap:=[]) (xs:=[.ptr 4 0 9,.int .i64 c,.own 7]) (H:=MN a b E nd r++[oI true true ks]) (v:=.int .i64 (ks.getD 0 0)) (H1:=MN a b E nd r++[oI true true ks,.cells [.own 7]]) (f:=198) (by kernel_rfl) (.fr [7,8] (a6W (n:=n) (ko:=true) (ex:=true) ks (m12 hk.2)) (.b hf (.o (show gq 0 ks.length from⟨by omega,by omega⟩) .er)));exact aW.forget (aW.gs hX h1 [.mv 5,.mv 6,.gc [9,10]] rfl) 7
abbrev a7b(c:Int)(ks:List Int):PB aF:=.cells ((Ky.l (tV c ks)).map fun i=>.int .i64 i)
theorem afk{n:Nat}(hO:Ok (n+5) Dn){a b:List Int}{E:List V}{nd:List Br}{r:Int}(c:Int)(ks:List Int)(hk:1<=ks.length∧ks.length<=12)(hf:(ks.all fun x=>x==ks.getD 0 0)=false)(hN:(nd.map BN).Nodup)(hm:tV c ks∈nd.map BN):aW X0 Qp (bQ (n+6)) (.fn 198 [] []) [.ptr 4 0 9,.int .i64 c,.own 7] (MN a b E nd r++[oI true true ks]) (.int .i64 ((nd.map BN).idxOf (tV c ks):Nat)) (MN' a b E nd r):=by
 have hF:qp X0 Qp 223 (kK.es (yJ nd)) (kK.tv (tV c ks)) (.int .i64 ((nd.map BN).idxOf (tV c ks):Nat)):=kK.found (by rw[SK];exact hN) (a7a hm);have h1:aW X0 Qp (bQ (n+6)) (.fn 198 [] []) [.ptr 4 0 9,.int .i64 c,.own 7] (MN a b E nd r++[oI true true ks]) (.int .i64 ((nd.map BN).idxOf (tV c ks):Nat)) (MN a b E nd r++[oI true true ks,.cells [.own 7],a7b c ks]):=by
  generalize (nd.map BN).idxOf (tV c ks)=j at hF ⊢;generalize yJ nd=nm at hF ⊢;obtain⟨k1,k2⟩:=hk;rcases ks with _|⟨x0,_|⟨x1,_|⟨x2,_|⟨x3,_|⟨x4,_|⟨x5,_|⟨x6,_|⟨x7,_|⟨x8,_|⟨x9,_|⟨x10,_|⟨x11,_|⟨x12,_⟩⟩⟩⟩⟩⟩⟩⟩⟩⟩⟩⟩⟩<;>first|(exfalso;simp at k1;done)|(exfalso;simp at k2;omega)|(exact fO hO (first:=[]) (cap:=[]) (.fr [7,8] (a6W (n:=n) (ko:=true) (ex:=true) _ (m12 k2)) (.b hf (.c (.int .i64 (j:Nat)) [] hF (.b (rfl:(!true)=false) .er)))))
 exact aW.forget (aW.gs hX (aW.forget h1 9) [.mv 5,.mv 6,.gc [10,11]] rfl) 7
theorem afl{n:Nat}(hO:Ok (n+5) Dn){a b:List Int}{E:List V}{nd:List Br}{r:Int}(c:Int)(ks:List Int)(hk:1<=ks.length∧ks.length<=12)(hf:(ks.all fun x=>x==ks.getD 0 0)=false)(hm:tV c ks∉nd.map BN)(hl:nd.length+1<=ah):aW X0 Qp (bQ (n+6)) (.fn 198 [] []) [.ptr 4 0 9,.int .i64 c,.own 7] (MN a b E nd r++[oI true true ks]) (.int .i64 (nd.length:Nat)) (MN' a b E (nd++[⟨c,ks⟩]) r):=by
 have hF:nP X0 Qp 223 (kK.es (yJ nd)) (kK.tv (tV c ks)):=kK.fresh (by rw[SK];exact hm);have hC:=kK.ck (tV c ks);have hL:nd.length+([⟨c,ks⟩]:List Br).length<=ah:=by simpa using hl
 have em:kK.es (yJ (nd++[⟨c,ks⟩]))=kK.es (yJ nd)++[(kK.pv (tV c ks),.int .i64 (nd.length:Nat))]:=by rw[a6Z];exact a4j ..
 show aW X0 Qp _ _ _ _ _ (MNg a b E (nd++[⟨c,ks⟩]) r (kK.es (yJ (nd++[⟨c,ks⟩]))));rw[em];have h1:aW X0 Qp (bQ (n+6)) (.fn 198 [] []) [.ptr 4 0 9,.int .i64 c,.own 7] (MN a b E nd r++[oI true true ks]) (.int .i64 (nd.length:Nat)) [.list false false 3 a,.list false false 3 b,.map (kV.es (zD E)),.map (kK.es (yJ nd)++[(kK.pv (tV c ks),.int .i64 (nd.length:Nat))]),mkC a b 5 11 r,Qa E,.gone,.gone,.cells [.own 7],a7b c ks,.list true true 105 [⟨c,ks⟩],Qb (nd++[⟨c,ks⟩])]:=by
  generalize yJ nd=nm at hF ⊢;obtain⟨k1,k2⟩:=hk;rcases ks with _|⟨x0,_|⟨x1,_|⟨x2,_|⟨x3,_|⟨x4,_|⟨x5,_|⟨x6,_|⟨x7,_|⟨x8,_|⟨x9,_|⟨x10,_|⟨x11,_|⟨x12,_⟩⟩⟩⟩⟩⟩⟩⟩⟩⟩⟩⟩⟩<;>first|(exfalso;simp at k1;done)|(exfalso;simp at k2;omega)|(exact fO hO (first:=[]) (cap:=[]) (.fr [7,8] (a6W (n:=n) (ko:=true) (ex:=true) _ (m12 k2)) (.b hf (.q (.bool false) hF (.b (rfl:(!false)=true) (.q (.bool false) hC (.o hF (.o hL .er))))))))
 exact aW.gs hX (aW.forget (aW.forget h1 9) 10) [.mv 5,.gc [12,11]] rfl
theorem ajW{n:Nat}(hO:Ok (n+5) Dn){a b:List Int}{E:List V}{nd:List Br}{r:Int}(c:Int)(ks:List Int)(hk:1<=ks.length∧ks.length<=12)(hN:(nd.map BN).Nodup)(hl:nd.length+1<=ah):aW X0 Qp (bQ (n+6)) (.fn 198 [] []) [.ptr 4 0 9,.int .i64 c,.own 7] (MN a b E nd r++[oI true true ks]) (.int .i64 (dZ nd c ks)) (MN' a b E (dw nd c ks) r):=by
 unfold dZ dw;cases hf:ks.all fun x=>x==ks.getD 0 0
 .rw[a0o (by simp),a0o (by simp)];by_cases hm:tV c ks∈nd.map BN
  .rw[a0p hm];exact afk hO c ks hk hf hN hm
  rw[a0o hm,a8L hm,a4n];exact afl hO c ks hk hf hm hl
 rw[a0p rfl,a0p rfl];exact afj hO c ks hk hf
theorem Qv{nd:List Br}{c:Int}{ks:List Int}(h:(nd.map BN).Nodup):((dw nd c ks).map BN).Nodup:=by
 unfold dw;split
 .exact h
 split
 .exact h
 rename_i hn;rw[a4j,a8P];exact⟨h,by simp,fun x hx y hy=>by simp at hy;subst hy;intro e;subst e;exact hn hx⟩
open Go Tw Pv dh
theorem aoV{n:Nat}(hO:Ok n Dn)(a b:List Int)(ha:a.length<=ah)(hb:b.length<=ah):aW X0 Qp (bQ (n+1)) (.fn 194 [] []) [.agg [.dB 3 a false,.dB 3 b false]] [] (.ptr 4 0 9) (MN a b [] [] 0):=
 aW.gs hX (rG hX hO (first:=[]) (cap:=[]) (v:=.ptr 4 0 9) (H1:=[.list false false 3 a,.list false false 3 b,.map [],.map [],.cells [.dB 3 a false,.dB 3 b false,.own 0,.own 1,.nil .slc,.nil .slc,.int .i64 0,.map 2,.map 3]]) (by kernel_rfl) (.o ha (.o hb .er))) [.Ui 4 4 39,.Ui 4 5 105] rfl
structure Cs where
 e:List V
 n:List Br
 k:List (Int×Int)
abbrev Lh(k:List (Int×Int)):List (Int×PV X0.Γ):=k.map fun p=>(p.1,.int .i64 p.2)
abbrev pC:List (PV aF):=[.ptr 8 0 1,.ptr 7 0 7,.ptr 10 0 1,.ptr 11 0 1]
abbrev acY(l:Lo)(k:List (Int×Int)):List (PB aF):=[.aC l.ps,.aC [.ptr 4 0 9],.map (kI.es (Lh k)),.aC [.map 9],.aC [.fn 195 [] pC]]
abbrev HC(l:Lo)(x:Cs):List (PB aF):=MN l.s l.o x.e x.n 0++acY l x.k
abbrev HC'(l:Lo)(x:Cs):List (PB aF):=[.list false false 3 l.s,.list false false 3 l.o,.map (kV.es (zD x.e)),.map (kK.es (yJ x.n)),mkC l.s l.o 12 13 0,.gone,.gone]++acY l x.k++[Qa x.e,Qb x.n]
def pW(d:Dg)(r:Int):V:=d.aK.getD (i64.wrap (-1-r)).toNat V0
def UM(k:List (Int×Int))(r:Int):Int:=((k.find? fun p=>p.1==r).getD (0,0)).2
def bV(d:Dg):Nat->Int->Cs->Int×Cs
 | 0,_,x=>(0,x)
 |F+1,r,x=>if decide (r<0)=true then(i64.wrap (-1-(x.e.idxOf (pW d r):Nat)),⟨gK x.e (pW d r),x.n,x.k⟩)else if decide (r∈x.k.map (·.1))=true then(UM x.k r,x)
  else
   let y:=aT (fun j (y:List Int×Cs)=>(y.1.set j (bV d F ((au d r).ay.getD j 0) y.2).1,(bV d F ((au d r).ay.getD j 0) y.2).2)) (au d r).ay.length 0 (List.replicate (au d r).ay.length 0,x)
   (dZ y.2.n (au d r).var y.1,⟨y.2.e,dw y.2.n (au d r).var y.1,y.2.k++[(r,dZ y.2.n (au d r).var y.1)]⟩)
structure Dv(d:Dg)(x:Cs):Prop where
 e1:x.e.Nodup
 e2:∀v∈x.e,v∈d.aK
 n1:(x.n.map BN).Nodup
 n2:x.n.length<=x.k.length
 k1:(x.k.map (·.1)).Nodup
 k2:∀a∈x.k.map (·.1),gq a d.aj.length
theorem Dv.Jj{d:Dg}{x:Cs}(h:Dv d x):x.k.length<=d.aj.length:=by
 have:=zC _ _ h.k1 h.k2;simpa using this
theorem Dv.ajX{d:Dg}{x:Cs}(h:Dv d x):x.e.length<=d.aK.length:=ady h.e1 h.e2
theorem Xx(nd:List Br)(c:Int)(ks:List Int):(dw nd c ks).length<=nd.length+1:=by
 unfold dw;split
 .omega
 split
 .omega
 simp
theorem a1A{k:List (Int×Int)}{r:Int}(h:r∈k.map (·.1)):(r,UM k r)∈k:=by
 rw[a1l]at h;obtain⟨p,hp,rfl⟩:=h;unfold UM;cases e:k.find? fun q=>q.1==p.1 with
 |none=>have:=afn.1 e p hp;simp at this
 |some q=>
  have h1:=List.mem_of_find?_eq_some e;have h2:=List.find?_some e;simp at h2;rw[<-h2];exact h1
theorem a7c{d:Dg}{r:Int}(h:gq (i64.wrap (-1-r)) d.aK.length):pW d r∈d.aK:=by
 have h1:(i64.wrap (-1-r)).toNat<d.aK.length:=by have:=h.1;have:=h.2;omega
 unfold pW;simp[List.getD,a0f h1]
theorem I4{d:Dg}(P:Cs->Prop){F:Nat}{r:Int}{x:Cs}(h:P x)(hs:∀j y,j<(au d r).ay.length->P y->P (bV d F ((au d r).ay.getD j 0) y).2) :
  (aT (fun j (y:List Int×Cs)=>(y.1.set j (bV d F ((au d r).ay.getD j 0) y.2).1,(bV d F ((au d r).ay.getD j 0) y.2).2)) (au d r).ay.length 0 (List.replicate (au d r).ay.length 0,x)).1.length=(au d r).ay.length∧P (aT (fun j (y:List Int×Cs)=>(y.1.set j (bV d F ((au d r).ay.getD j 0) y.2).1,(bV d F ((au d r).ay.getD j 0) y.2).2)) (au d r).ay.length 0 (List.replicate (au d r).ay.length 0,x)).2:=
 dF (g:=fun j (y:List Int×Cs)=>(y.1.set j (bV d F ((au d r).ay.getD j 0) y.2).1,(bV d F ((au d r).ay.getD j 0) y.2).2)) (m:=(au d r).ay.length) (k:=0) (s:=(List.replicate (au d r).ay.length 0,x)) (fun _ y=>y.1.length=(au d r).ay.length∧P y.2) ⟨by simp,h⟩ (fun j y _ hj hy=>⟨by simp[hy.1],hs j y.2 (by omega) hy.2⟩)
theorem Xy{d:Dg}:∀(F:Nat) (r s:Int) (x:Cs),r<s->s∉x.k.map (·.1)->0<=s->(∀i,i<d.aj.length->∀k,k<(fA d i).ay.length->(fA d i).ay.getD k 0<i)->(0<=r->gq r d.aj.length)->s∉(bV d F r x).2.k.map (·.1)
 | 0,_,_,_,_,h,_,_,_=>h
 |F+1,r,s,x,hr,h,h0,hk,hn=>by
  unfold bV;by_cases c:r<0
  .rw[a0p (by simpa using c)];exact h
  rw[a0o (by simpa using c)];split
  .exact h
  have hi:=hn (by omega);have DT:∀k,k<(au d r).ay.length->(au d r).ay.getD k 0<r:=fun k kC=>by
   obtain⟨i1,i2⟩:=hi;have h9:(au d r).ay.getD k 0<(r.toNat:Int):=hk r.toNat (by omega) k kC;omega
  have:=(I4 (d:=d) (fun y=>s∉y.k.map (·.1)) (F:=F) (r:=r) h (fun j y hj hy=>Xy F _ s y (by have:=DT j hj;omega) hy h0 hk fun h5=>⟨h5,by have:=hi.2;have:=DT j hj;omega⟩)).2;simp only[a4j,a3k,adw];exact⟨this,by simp;omega⟩
theorem P8{d:Dg}(h:BH d):∀(F:Nat) (r:Int) (x:Cs),Dv d x->jq d r d.aj.length->Dv d (bV d F r x).2
 | 0,_,_,hx,_=>hx
 |F+1,r,x,hx,hr=>by
  unfold bV;by_cases c:r<0
  .rw[a0p (by simpa using c)];refine⟨UL hx.e1,fun v hv=>?_,hx.n1,hx.n2,hx.k1,hx.k2⟩;have hv:v∈gK x.e (pW d r):=hv;unfold gK at hv;split at hv
   .exact hx.e2 v hv
   rcases a3k.1 hv with hv|hv
   .exact hx.e2 v hv
   rw[a2U.1 hv];exact a7c (hr.2 c)
  rw[a0o (by simpa using c)];split
  .exact hx
  rename_i c2;have aQ:r.toNat<d.aj.length:=by have:=hr.1;omega
  have BI:∀k,k<(au d r).ay.length->(au d r).ay.getD k 0<r:=fun k kC=>by
   have h9:=(h.zB r.toNat aQ k kC).1;have h9:(au d r).ay.getD k 0<(r.toNat:Int):=h9;omega
  have hb:=(I4 (d:=d) (fun y=>Dv d y∧r∉y.k.map (·.1)) (F:=F) (r:=r) ⟨hx,by simpa using c2⟩ (fun j y hj hy=>by
   have KL:jq d ((au d r).ay.getD j 0) d.aj.length:=⟨by have:=BI j hj;have:=hr.1;omega,(h.zB r.toNat aQ j hj).2⟩;refine⟨P8 h F _ y hy.1 KL,Xy F _ r y (BI j hj) hy.2 (by omega) (fun i hi k hk=>(h.zB i hi k hk).1) (fun h5=>⟨h5,by have:=KL.1;omega⟩)⟩)).2
  obtain⟨hb,xX⟩:=hb;refine⟨hb.e1,hb.e2,Qv hb.n1,?_,?_,?_⟩
  .have:=Xx (aT (fun j (y:List Int×Cs)=>(y.1.set j (bV d F ((au d r).ay.getD j 0) y.2).1,(bV d F ((au d r).ay.getD j 0) y.2).2)) (au d r).ay.length 0 (List.replicate (au d r).ay.length 0,x)).2.n (au d r).var (aT (fun j (y:List Int×Cs)=>(y.1.set j (bV d F ((au d r).ay.getD j 0) y.2).1,(bV d F ((au d r).ay.getD j 0) y.2).2)) (au d r).ay.length 0 (List.replicate (au d r).ay.length 0,x)).1;have:=hb.n2;simp only[a2j,a4f];omega
  .simp only[a4j,a4k,abG];exact wV hb.k1 xX
  intro a ha;simp only[a4j,a3k,a4k,abG,a2U]at ha;rcases ha with ha|rfl
  .exact hb.k2 a ha
  exact⟨by omega,by omega⟩
open Go Tw Pv dh
abbrev hCl(l:Lo)(x:Cs)(ks:List Int):List (PB aF):=HC' l x++[oI true true ks]
abbrev wCl(l:Lo)(r:Int)(i:Int)(y:List Int×Cs)(x:List (Nat×PE aF)):aS aF:=⟨[(0,xi r),(1,.val (.ptr 8 0 1)),(3,.val (.ptr 10 0 1)),(4,.val (.ptr 11 0 1)),(9,.loc 0 0),(10,xo 14),(43,xL 3 (au l.d r).ay),(44,xi (au l.d r).ay.length),(45,xi i)]++x,[(au l.d r).ps],hCl l y.2 y.1⟩
theorem lCl{M:Nat}(hO:Ok M Dn){d:Dg}{F:Nat}{r:Int}(hk:(au d r).ay.length<=12)(Q:Cs->Prop){x:Cs}(hx:Q x)(hq:∀j y,j<(au d r).ay.length->Q y->Q (bV d F ((au d r).ay.getD j 0) y).2)(hs:∀j y,j<(au d r).ay.length->Q y->aW X0 Qp (bQ M) (.fn 195 [] pC) [.int .i64 ((au d r).ay.getD j 0)] (HC (yL d) y) (.int .i64 (bV d F ((au d r).ay.getD j 0) y).1) (HC' (yL d) (bV d F ((au d r).ay.getD j 0) y).2)) :
  OU M 195 0 12 (wCl (yL d) r 0 (List.replicate (au d r).ay.length 0,x) []) (.exit 0) (wCl (yL d) r (au d r).ay.length (aT (fun j (y:List Int×Cs)=>(y.1.set j (bV d F ((au d r).ay.getD j 0) y.2).1,(bV d F ((au d r).ay.getD j 0) y.2).2)) (au d r).ay.length 0 (List.replicate (au d r).ay.length 0,x)) [(46,xl false)]):=by
 refine yu (σ:=List Int×Cs) (N:=(au d r).ay.length) (g:=fun j (y:List Int×Cs)=>(y.1.set j (bV d F ((au d r).ay.getD j 0) y.2).1,(bV d F ((au d r).ay.getD j 0) y.2).2)) (s0:=(List.replicate (au d r).ay.length 0,x)) (st:=fun k y=>wCl (yL d) r k y []) (fin:=fun y=>wCl (yL d) r (au d r).ay.length y [(46,xl false)]) (fun _ y=>y.1.length=(au d r).ay.length∧Q y.2) (by kernel_rfl) (m12 hk) ⟨by simp,hx⟩ (fun j y hj hy=>⟨by simp[hy.1],hq j y.2 hj hy.2⟩) (fun j y hj hy m e p g=>?_) (fun y _=>aO hO (.b (fD (au d r).ay.length) .ex));have h1:=hs j y.2 hj hy.2;have h2:gq j y.1.length:=aH (by rw[hy.1];exact hj);generalize bV d F ((au d r).ay.getD j 0) y.2=z at h1 g;obtain⟨v,z⟩:=z;exact aO hO (.b (bC hj) (.o (aH hj) (.fr [0,1,2,3,4,12,13,7,8,9,10,11] h1 (.o h2 (.goG [.gc [15,16,14]] g)))))
theorem Ei(k:List (Int×Int)):(Lh k).map (·.1)=k.map (·.1):=by
 unfold Lh;rw[a7X];rfl
theorem aoW{n:Nat}(hO:Ok n Dn)(k:Int):aW X0 Qp (bQ n) (.fn 197 [] []) [.int .i64 k] [] (iA.put (i64.wrap (-1-k))) []:=
 oq.aak hX (hO 197 [.int .i64 k] (iA.put (i64.wrap (-1-k))) [] [] (by kernel_rfl) (fun q hq=>by cases hq)) rfl rfl rfl rfl
theorem sCl{N:Nat}(hO:∀m,N<=m->Ok m Dn){d:Dg}(h:BH d)(he:d.aK.length+1<=ah)(hn:d.aj.length+1<=ah)(h1k:∀i,i<d.aj.length->1<=(fA d i).ay.length):∀(F:Nat) (r:Int) (x:Cs),r+1<F->Dv d x->jq d r d.aj.length->1<=F->aW X0 Qp (bQ (N+F+6)) (.fn 195 [] pC) [.int .i64 r] (HC (yL d) x) (.int .i64 (bV d F r x).1) (HC' (yL d) (bV d F r x).2)
 | 0,r,x,_,_,_,h1=>by omega
 |F+1,r,x,hF,hx,hr,_=>by
  rw[show N+(F+1)+6=N+F+6+1 by omega];have FT:=hO (N+F+6) (by omega);have Gh:=hO (N+F+5) (by omega);unfold bV;by_cases c:r<0
  .have t0:decide (r<0)=true:=(by simpa using c);rw[a0p t0];have hi:gq (i64.wrap (-1-r)) d.aK.length:=hr.2 c;have hs:=aoT Gh (a:=d.aA) (b:=d.aG) (E:=x.e) (nd:=x.n) (r:=0) (nm:=kK.es (yJ x.n)) (pW d r) hx.e1 (by have:=hx.ajX;omega);exact fO FT (first:=[]) (.b t0 (.fr [] (aoW FT r) (.o hi (.fr [0,1,2,3,4,5,6] hs .er))))
  have t0:decide (r<0)=false:=by simpa using c
  rw[a0o (by rw[t0];simp)];have aQ:r.toNat<d.aj.length:=by have:=hr.1;omega
  by_cases c2:r∈x.k.map (·.1)
  .rw[a0p (by simpa using c2)];have hf:qp X0 Qp 3 (kI.es (Lh x.k)) (kI.tv r) (.int .i64 (UM x.k r)):=kI.found (by rw[Ei];exact hx.k1) (a1l.2 ⟨(r,UM x.k r),a1A c2,rfl⟩);generalize UM x.k r=v at hf ⊢;exact aW.gs hX (rG hX FT (first:=[]) (H1:=HC (yL d) x) (v:=.int .i64 v) (by kernel_rfl) (.b t0 (.c (.int .i64 v) [] hf (.b (rfl:true=true) .er)))) [.mv 5,.mv 6] rfl
  rw[a0o (by simpa using c2)];have BI:∀k,k<(au d r).ay.length->(au d r).ay.getD k 0<r:=fun k kC=>by
   have h9:=(h.zB r.toNat aQ k kC).1;have h9:(au d r).ay.getD k 0<(r.toNat:Int):=h9;omega
  have KL:∀j,j<(au d r).ay.length->jq d ((au d r).ay.getD j 0) d.aj.length:=fun j hj=>⟨by have:=BI j hj;have:=hr.1;omega,(h.zB r.toNat aQ j hj).2⟩;have JX:(au d r).ay.length<=12:=h.Jj r.toNat aQ;have hq:∀j y,j<(au d r).ay.length->(Dv d y∧r∉y.k.map (·.1))->Dv d (bV d F ((au d r).ay.getD j 0) y).2∧r∉(bV d F ((au d r).ay.getD j 0) y).2.k.map (·.1):=fun j y hj hy=>
   ⟨P8 h F _ y hy.1 (KL j hj),Xy F _ r y (BI j hj) hy.2 (by omega) (fun i hi k hk=>(h.zB i hi k hk).1) (fun h5=>⟨h5,by have:=(KL j hj).1;omega⟩)⟩
  have hl:=lCl FT (d:=d) (F:=F) (r:=r) JX (fun y=>Dv d y∧r∉y.k.map (·.1)) (x:=x) ⟨hx,c2⟩ hq (fun j y hj hy=>sCl hO h he hn h1k F _ y (by have:=BI j hj;omega) hy.1 (KL j hj) (by omega));obtain⟨g1,g2,g3⟩:=I4 (d:=d) (fun y=>Dv d y∧r∉y.k.map (·.1)) (F:=F) (r:=r) (x:=x) ⟨hx,c2⟩ hq;generalize aT (fun j (y:List Int×Cs)=>(y.1.set j (bV d F ((au d r).ay.getD j 0) y.2).1,(bV d F ((au d r).ay.getD j 0) y.2).2)) (au d r).ay.length 0 (List.replicate (au d r).ay.length 0,x)=y at hl g1 g2 g3;obtain⟨ks,e,nd,kn⟩:=y;have g1:ks.length=(au d r).ay.length:=g1;have EL:1<=ks.length∧ks.length<=12:=by rw[g1];exact⟨h1k r.toNat aQ,JX⟩
  have hN:nd.length+1<=ah:=by have:=g2.Jj;have:=g2.n2;simp at *;omega
  have hs:=ajW (n:=N+F) Gh (a:=d.aA) (b:=d.aG) (E:=e) (nd:=nd) (r:=0) (au d r).var ks EL g2.n1 hN;have f0:nP X0 Qp 3 (kI.es (Lh x.k)) (kI.tv r):=kI.fresh (by rw[Ei];exact c2);have f1:nP X0 Qp 3 (kI.es (Lh kn)) (kI.tv r):=kI.fresh (by rw[Ei];exact g3);have f2:=kI.ck r;show aW X0 Qp _ _ _ _ (.int .i64 (dZ nd (au d r).var ks)) (HC' (yL d) ⟨e,dw nd (au d r).var ks,kn++[(r,dZ nd (au d r).var ks)]⟩);generalize dZ nd (au d r).var ks=v at hs ⊢;generalize dw nd (au d r).var ks=nd' at hs ⊢;have em:kI.es (Lh (kn++[(r,v)]))=kI.es (Lh kn)++[(kI.pv r,.int .i64 v)]:=by
   show List.map _ (List.map _ (kn++[(r,v)]))=_;rw[a4j,a4j];rfl
  have f3:qp X0 Qp 3 (kI.es (Lh kn)++[(kI.pv r,.int .i64 v)]) (kI.tv r) (.int .i64 v):=by
   rw[<-em];exact kI.found (by rw[Ei,a4j];exact wV g2.k1 g3) (a1l.2 ⟨(r,v),by simp,rfl⟩)
  have hi:gq r d.aj.length:=⟨by omega,hr.1⟩;have hm:((au d r).ay.length:Int)<=(ah:Int):=by have:=m12 JX;omega
  show aW X0 Qp _ _ _ _ _ ([_,_,_,_,_,_,_]++[_,_,.map (kI.es (Lh (kn++[(r,v)]))),_,_]++[_,_]);rw[em];exact aW.gs hX (rG hX FT (first:=[]) (v:=.int .i64 v) (H1:=[.list false false 3 d.aA,.list false false 3 d.aG,.map (kV.es (zD e)),.map (kK.es (yJ nd')),mkC d.aA d.aG 15 16 0,.gone,.gone,.aC (yL d).ps,.aC [.ptr 4 0 9],.map (kI.es (Lh kn)++[(kI.pv r,.int .i64 v)]),.aC [.map 9],.aC [.fn 195 [] pC],.gone,.gone,.gone,Qa e,Qb nd']) (by kernel_rfl) (.b t0 (.q (.bool false) f0 (.b (rfl:false=false) (.o hi (.o (show((au d r).ay.length:Int)=((au d r).ay.length:Int)from rfl) (.o (show(0:Int)<=((au d r).ay.length:Int) by omega) (.o hm (.wG [.mv 5,.mv 6,.gc [13,14,12]] hl (.fr [0,1,2,3,4,12,13,14] hs (.q (.bool false) f2 (.o f1 (.c (.int .i64 v) [] f3 .er))))))))))))) [.gc [15,16]] rfl
open Go Tw Pv dh
abbrev P9(a b:List V)(k:Nat):Bool:=!(decide (a.getD k V0=b.getD k V0))
abbrev afm(a b:List V)(i:Int)(x:List (Nat×PE aF)):aS aF:=⟨[(0,xL 39 a),(1,xL 39 b),(12,xi a.length),(13,xi i)]++x,[],[]⟩
def z227(a b:List V):Unit⊕Nat->Ex×aS aF
 |.inl _=>(.exit 0,afm a b a.length [(14,xl false)])
 |.inr _=>(.ret,⟨[(4,xl false)],[],[]⟩)
theorem ajY{n:Nat}{fJ:eY aF}(hO:Ok n fJ)(a b:List V)(hl:a.length<=ah)(h:a.length=b.length):Lp n 227 0 (afm a b 0 []) (z227 a b (bG (P9 a b) a.length)).1 (z227 a b (bG (P9 a b) a.length)).2:=
 iV (st:=fun i _=>afm a b i []) (fun _ _=>True) (by kernel_rfl) hl trivial (fun k s m hk _ ih=>aO hO (.b (bC hk) (.o (aH hk) (.o (aH (h▸hk)) (.q (.bool (!(decide (a.getD k V0=b.getD k V0)))) (neV (.tmp 19) (.tmp 23) (a.getD k V0) (b.getD k V0)) (.ls (.ou nofun) (.nx (ih _ trivial)))))))) (fun s _=>aO hO (.b (fD a.length) (.ou nofun)))
theorem aap{a b:List V}(h:a.length=b.length):a=b↔∀j,j<a.length->a.getD j V0=b.getD j V0:=by
 constructor
 .rintro rfl j _;rfl
 intro h2;apply a9k h;intro j h3 h4;have:=h2 j h3;simpa[List.getD,a0f h3,a0f h4]using this
theorem Pg{a b:List V}(h:a.length=b.length):jS (bG (P9 a b) a.length)=decide (a=b):=by
 rw[a4H,dK,a1Q,aap h];simp[P9]
theorem aaq{α:Type}[DecidableEq α]{a b:List α}(h:((a.length:Int) != (b.length:Int))=true):decide (a=b)=false:=by
 rw[a3g];rintro rfl;simp at h
def acZ:eY aF:=bZ 227 (a2 vsA vsA) tA (fun p=>decide (p.1=p.2)) (fun p=>[p.1.length<=ah]) Dn
theorem ajZ:Gd acZ:=acU.add fun n hO p hp=>aN hO (.s (fun h=>.v false (aaq h).symm) fun h=>.z (c:=jS (bG (P9 p.1 p.2) p.1.length)) (fun h2=>.w (kG (ajY hO p.1 p.2 (hp _ (.head _)) (lQ h)) () h2) (.v true (by rw[<-Pg (lQ h),h2]))) fun h2=>.w (kH (ajY hO p.1 p.2 (hp _ (.head _)) (lQ h)) 0 h2) (.v false (by rw[<-Pg (lQ h),h2])))
def UN(x y:Br):Bool:=if(x.var==y.var)=true then decide (x.ay=y.ay)else false
def a7d:eY aF:=bZ 226 (a2 brA brA) tA (fun p=>UN p.1 p.2) (fun p=>[p.1.ay.length<=ah]) acZ
theorem ak0:Gd a7d:=ajZ.add fun n hO p hp=>aN hO (.ss (.o (hp _ (.head _)) .rr) .rr)
abbrev wEB(a b:List Br)(i:Int)(x:List (Nat×PE aF)):aS aF:=⟨[(1,xL 105 b),(2,.val (.fn 226 [] [])),(15,xL 105 a),(16,xi a.length),(17,xi i)]++x,[],[]⟩
abbrev cEB(a b:List Br)(k:Nat):Bool:=!(UN (a.getD k kM) (b.getD k kM))
def zEB(a b:List Br):Unit⊕Nat->Ex×aS aF
 |.inl _=>(.exit 0,wEB a b a.length [(18,xl false)])
 |.inr k=>(.ret,⟨[(6,xl false)],[(a.getD k kM).ps,(b.getD k kM).ps],[]⟩)
theorem lEB{n:Nat}(hO:Ok n a7d)(a b:List Br)(hl:a.length<=ah)(h:a.length=b.length)(hk:∀k,k<a.length->(a.getD k kM).ay.length<=ah):Lp n 228 0 (wEB a b 0 []) (zEB a b (bG (cEB a b) a.length)).1 (zEB a b (bG (cEB a b) a.length)).2:=
 iV (st:=fun i _=>wEB a b i []) (fun _ _=>True) (by kernel_rfl) hl trivial (fun k s m kC _ ih=>aO hO (.b (bC kC) (.o (aH kC) (.o (aH (h▸kC)) (.o (hk k kC) (.ls (.ou nofun) (.nx (ih _ trivial)))))))) (fun s _=>aO hO (.b (fD a.length) (.ou nofun)))
def I5(a b:List Br):Bool:=if((a.length:Int) != (b.length:Int))=true then false else if jS (bG (cEB a b) a.length)=true then true else false
def ad1:eY aF:=bZ 228 (a3 aa0 aa0 (fnA 226)) tA (fun p=>I5 p.1 p.2.1) (fun p=>[p.1.length<=ah,∀k,k<p.1.length->(p.1.getD k kM).ay.length<=ah]) a7d
theorem ak1:Gd ad1:=ak0.add fun n hO p hp=>aN hO (.sh (fun _=>.rr) fun h=>.zh (fun h2=>.w (kG (lEB hO p.1 p.2.1 (hp _ (.head _)) (lQ h) (hp (∀k,k<p.1.length->(p.1.getD k kM).ay.length<=ah) (.tail _ (.head _)))) () h2) .rr) fun h2=>.w (kH (lEB hO p.1 p.2.1 (hp _ (.head _)) (lQ h) (hp (∀k,k<p.1.length->(p.1.getD k kM).ay.length<=ah) (.tail _ (.head _)))) 0 h2) .rr)
def I7(a b:Dg):Bool:=if decide (a.aA=b.aA)=true then(if decide (a.aG=b.aG)=true then(if decide (a.aK=b.aK)=true then(if I5 a.aj b.aj=true then a.root==b.root else false)else false)else false)else false
def ad2:eY aF:=bZ 203 (a2 dA dA) tA (fun p=>I7 p.1 p.2) (fun p=>[p.1.aA.length<=ah,p.1.aG.length<=ah,p.1.aK.length<=ah,p.1.aj.length<=ah,∀k,k<p.1.aj.length->(p.1.aj.getD k kM).ay.length<=ah]) ad1
theorem ak2:Gd ad2:=ak1.add fun n hO p hp=>aN hO (.o (hp _ (.head _)) (.ss (.o (hp _ (.tail _ (.head _))) (.ss (.o (hp _ (.tail _ (.tail _ (.head _)))) (.ss (.o (hp _ (.tail _ (.tail _ (.tail _ (.head _))))) (.o (hp (∀k,k<p.1.aj.length->(p.1.aj.getD k kM).ay.length<=ah) (.tail _ (.tail _ (.tail _ (.tail _ (.head _)))))) (.ss .rr .rr))) .rr)) .rr)) .rr))
theorem Xz{x y:Br}:UN x y=true↔x=y:=by
 obtain⟨a,b⟩:=x;obtain⟨c,e⟩:=y;unfold UN;simp only[Br.mk.injEq];by_cases h:a=c<;>simp[h]
theorem a3t{a b:List Br}:I5 a b=true↔a=b:=by
 unfold I5;by_cases h:a.length=b.length
 .rw[a0o (by simp;omega)];have e:jS (bG (cEB a b) a.length)=true↔a=b:=by
   rw[dK];constructor
   .intro h1;apply a9k h;intro j h3 h4;have:=h1 j h3;simp only[cEB,abD]at this;have:=Xz.1 this;simpa[List.getD,a0f h3,a0f h4]using this
   rintro rfl j _;simp only[cEB,abD];exact Xz.2 rfl
  rw[<-e];cases jS (bG (cEB a b) a.length)<;>simp
 rw[a0p (by simp;omega)];constructor
 .intro h1;cases h1
 rintro rfl;exact absurd rfl h
theorem a1B{a b:Dg}:I7 a b=true↔a=b:=by
 obtain⟨a1,a2,a3,a4,a5⟩:=a;obtain⟨b1,b2,b3,b4,b5⟩:=b;unfold I7;simp only[Dg.mk.injEq];by_cases h1:a1=b1
 .by_cases h2:a2=b2
  .by_cases h3:a3=b3
   .have h4:=a3t (a:=a4) (b:=b4);cases e:I5 a4 b4
    .rw[e]at h4;simp[h1,h2,h3];intro h5;exact absurd h5 (by simpa using h4)
    rw[e]at h4;simp at h4;simp[h1,h2,h3,h4]
   simp[h3]
  simp[h2]
 simp[h1]
open Go Tw Pv dh
def xk(s:List Int×List Int)(x:Int):Int:=if x<0 then i64.wrap (-1-(s.2.idxOf (jD x):Nat))else(s.1.idxOf x:Nat)
def Vy(s:List Int×List Int)(x:Int):Prop:=(x<0->jD x∈s.2)∧(0<=x->x∈s.1)
def KS(d:Dg)(s:List Int×List Int):Cs:=⟨s.2.map fun e=>d.aK.getD e.toNat V0,s.1.map fun o=>⟨(au d o).var,(au d o).ay.map (xk s)⟩,s.1.map fun o=>(o,xk s o)⟩
def Jp(d:Dg)(s:List Int×List Int):Prop:=∀o∈s.1,∀k∈(au d o).ay,Vy s k
theorem UO{s:List Int×List Int}{x:Int}(l:List Int)(h:Vy s x):xk (s.1,s.2++l) x=xk s x:=by
 unfold xk;split
 .rename_i c;rw[a9E,a0p (h.1 c)]
 rfl
theorem I8{s:List Int×List Int}{x:Int}(l:List Int)(h:Vy s x):xk (s.1++l,s.2) x=xk s x:=by
 unfold xk;split
 .rfl
 rename_i c;rw[a9E,a0p (h.2 (by omega))]
theorem afo{d:Dg}{s:List Int×List Int}(hk:Jp d s)(hn:∀o∈s.1,0<=o)(e:Int):KS d (s.1,s.2++[e])=⟨(KS d s).e++[d.aK.getD e.toNat V0],(KS d s).n,(KS d s).k⟩:=by
 unfold KS;simp only[a4j,a4k,abG,Cs.mk.injEq,true_and];constructor
 .apply a4P;intro o ho;congr 1;apply a4P;intro k kC;exact UO [e] (hk o ho k kC)
 apply a4P;intro o ho;rw[UO [e] ⟨fun c=>absurd (hn o ho) (by omega),fun _=>ho⟩]
theorem aar{d:Dg}{s:List Int×List Int}(hk:Jp d s)(hn:∀o∈s.1,0<=o){r:Int}(h0:0<=r)(hr:r∉s.1)(KL:∀k∈(au d r).ay,Vy s k):KS d (s.1++[r],s.2)=⟨(KS d s).e,(KS d s).n++[⟨(au d r).var,(au d r).ay.map (xk s)⟩],(KS d s).k++[(r,(s.1.length:Int))]⟩:=by
 unfold KS;simp only[a4j,a4k,abG,Cs.mk.injEq,true_and];refine⟨?_,?_⟩
 .congr 1
  .apply a4P;intro o ho;congr 1;exact a4P fun k kC=>I8 [r] (hk o ho k kC)
  congr 2;exact a4P fun k kC=>I8 [r] (KL k kC)
 congr 1
 .apply a4P;intro o ho;rw[I8 [r] ⟨fun c=>absurd (hn o ho) (by omega),fun _=>ho⟩]
 congr 2;unfold xk;rw[a0o (by omega)];simp[a9E,hr]
theorem ak3{a b:Nat}(ha:a<=2^61)(hb:b<=2^61)(h:i64.wrap (-1-(a:Int))=i64.wrap (-1-(b:Int))):a=b:=by
 rw[fG (by omega) (by omega),fG (by omega) (by omega)]at h;omega
theorem a1C{l:List Int}{a b:Int}(ha:a∈l)(hb:b∈l)(h:l.idxOf a=l.idxOf b):a=b:=by
 have h1:=a8M (a4F.2 ha);have h2:=a8M (a4F.2 hb);rw[<-h1,<-h2];congr 1
theorem a7e{x y:Int}(hx:FV x)(hy:FV y)(cx:x<0)(cy:y<0)(h:jD x=jD y):x=y:=by
 unfold jD at h;rw[MO hx cx,MO hy cy]at h;omega
theorem a1D{s:List Int×List Int}(hs:s.2.length<=2^61){x y:Int}(hx:Vy s x)(hy:Vy s y)(wx:FV x)(wy:FV y)(h:xk s x=xk s y):x=y:=by
 have lt:∀z,z∈s.2->s.2.idxOf z<=2^61:=fun z hz=>a4U (a9f (a4F.2 hz)) hs;unfold xk at h;by_cases cx:x<0
 .rw[a0p cx]at h;by_cases cy:y<0
  .rw[a0p cy]at h;exact a7e wx wy cx cy (a1C (hx.1 cx) (hy.1 cy) (ak3 (lt _ (hx.1 cx)) (lt _ (hy.1 cy)) h))
  rw[a0o cy]at h;have:=lt _ (hx.1 cx);rw[fG (by omega) (by omega)]at h;omega
 rw[a0o cx]at h;by_cases cy:y<0
 .rw[a0p cy]at h;have:=lt _ (hy.1 cy);rw[fG (by omega) (by omega)]at h;omega
 rw[a0o cy]at h;exact a1C (hx.2 (by omega)) (hy.2 (by omega)) (by omega)
open Go Tw Pv dh
def Ext(s t:List Int×List Int):Prop:=∃a b,t=(s.1++a,s.2++b)
theorem Ext.refl(s:List Int×List Int):Ext s s:=⟨[],[],by simp⟩
theorem Ext.trans{s t u:List Int×List Int}(h:Ext s t)(h2:Ext t u):Ext s u:=by
 obtain⟨a,b,rfl⟩:=h;obtain⟨c,e,rfl⟩:=h2;exact⟨a++c,b++e,by simp⟩
theorem Vy.ext{s t:List Int×List Int}{x:Int}(h:Vy s x)(he:Ext s t):Vy t x:=by
 obtain⟨a,b,rfl⟩:=he;exact⟨fun c=>a5U _ (h.1 c),fun c=>a5U _ (h.2 c)⟩
theorem aas{s t:List Int×List Int}{x:Int}(h:Vy s x)(he:Ext s t):xk t x=xk s x:=by
 have hc:=h;obtain⟨a,b,rfl⟩:=he;have h2:Vy (s.1,s.2++b) x:=⟨fun c=>a5U _ (h.1 c),h.2⟩;rw[<-UO b h,<-I8 a h2]
theorem SL{α β:Type}{g1:Nat->α->α}{g2:Nat->β->β}(R:Nat->α->β->Prop):∀(m k:Nat) (a:α) (b:β),R k a b->(∀j a b,k<=j->j<k+m->R j a b->R (j+1) (g1 j a) (g2 j b))->R (k+m) (aT g1 m k a) (aT g2 m k b)
 | 0,_,_,_,h,_=>h
 |m+1,k,a,b,h,hs=>by
  have:=SL R m (k+1) (g1 k a) (g2 k b) (hs k a b (a1b _) (by omega) h) (fun j a b h1 h2=>hs j a b (by omega) (by omega));rw[show k+(m+1)=k+1+m by omega];exact this
theorem a1E{α β:Type}[BEq α][LawfulBEq α][BEq β][LawfulBEq β]{f:α->β}{a:α}:∀{l:List α},(∀b∈l,f b=f a->b=a)->(l.map f).idxOf (f a)=l.idxOf a
 | [],_=>rfl
 |c::l,h=>by
  rw[a4k,adA,adA,a1E fun b hb=>h b (a3n _ hb)];by_cases hc:c=a
  .subst hc;simp
  have:¬(f c=f a):=fun e=>hc (h c (.head _) e);rw[show(c==a)=false by simpa using hc,show(f c==f a)=false by simpa using this]
structure DgD(d:Dg):Prop where
 aK:d.aK.Nodup
 aj:∀i j,i<d.aj.length->j<d.aj.length->(fA d i).var=(fA d j).var->(fA d i).ay=(fA d j).ay->i=j
 flat:∀i,i<d.aj.length->((fA d i).ay.all fun x=>x==(fA d i).ay.getD 0 0)=false
theorem XA{d:Dg}(h:d.aK.Nodup){a b:Int}(ha:gq a d.aK.length)(hb:gq b d.aK.length)(e:d.aK.getD a.toNat V0=d.aK.getD b.toNat V0):a=b:=by
 have h1:a.toNat<d.aK.length:=by have:=ha.1;have:=ha.2;omega
 have h2:b.toNat<d.aK.length:=by have:=hb.1;have:=hb.2;omega
 simp only[List.getD,a0f h1,a0f h2,a5e]at e;have:=(aae h).1 e;have:=ha.1;have:=hb.1;omega
theorem afp{d:Dg}(hd:DgD d){s:List Int×List Int}(hs:Jk d s){r:Int}(hr:gq (jD r) d.aK.length):(KS d s).e.idxOf (pW d r)=s.2.idxOf (jD r)∧(pW d r∈(KS d s).e↔jD r∈s.2):=by
 have hi:∀b∈s.2,(fun e:Int=>d.aK.getD e.toNat V0) b=(fun e:Int=>d.aK.getD e.toNat V0) (jD r)->b=jD r:=fun b hb e=>XA hd.aK (hs.e2 b hb) hr e;refine⟨a1E (f:=fun e:Int=>d.aK.getD e.toNat V0) (a:=jD r) hi,?_⟩;constructor
 .intro h;obtain⟨b,hb,e⟩:=a1l.1 h;rw[<-hi b hb e];exact hb
 intro h;exact a1l.2 ⟨jD r,h,rfl⟩
theorem afq{d:Dg}{s:List Int×List Int}{r:Int}(h:r∈s.1):UM (KS d s).k r=xk s r:=by
 have h1:r∈(KS d s).k.map (·.1):=by
  unfold KS;rw[a7X];exact a1l.2 ⟨r,h,rfl⟩
 have h2:=a1A h1;obtain⟨o,_,e⟩:=a1l.1 h2;have e1:o=r:=congrArg Prod.fst e;have e2:xk s o=UM (KS d s).k r:=congrArg Prod.snd e;rw[<-e2,e1]
theorem aat{a b:List Int}(h:a.length=b.length)(ha:a.length<=12)(e:HY a=HY b):a=b:=by
 unfold HY at e;have:=congrArg (List.take a.length) e;rw[afz,afz,a7M ha,List.take_append_of_le_length (a1b _),List.take_append_of_le_length (by omega),adb,h,adb]at this;exact this
theorem map_inj{α β:Type}{f:α->β}:∀{a b:List α},(∀x∈a,∀y∈b,f x=f y->x=y)->a.map f=b.map f->a=b
 | [],[],_,_=>rfl
 | [],_::_,_,h=>by simp at h
 |_::_,[],_,h=>by simp at h
 |x::a,y::b,hi,h=>by
  simp only[a4k,aeb]at h;rw[hi x (.head _) y (.head _) h.1,map_inj (fun u hu v hv=>hi u (a3n _ hu) v (a3n _ hv)) h.2]
open Go Tw Pv dh
structure Alk(d:Dg)(F:Nat)(r:Int)(s:List Int×List Int):Prop where
 eq:bV d F r (KS d s)=(xk (jO d F r s) r,KS d (jO d F r s))
 ay:Jp d (jO d F r s)
 cov:Vy (jO d F r s) r
 ext:Ext s (jO d F r s)
theorem ad4{d:Dg}(h:BH d)(hw:Ez d)(hd:DgD d)(he:d.aK.length<=2^61):∀(F:Nat) (r:Int) (s:List Int×List Int),r+1<F->Jk d s->Jp d s->jq d r d.aj.length->1<=F->Alk d F r s
 | 0,r,s,_,_,_,_,h1=>by omega
 |F+1,r,s,hF,hs,hk,hr,_=>by
  have hn:∀o∈s.1,0<=o:=fun o ho=>(hs.n2 o ho).1;by_cases c:r<0
  .have t0:decide (r<0)=true:=(by simpa using c);obtain⟨q1,q2⟩:=afp hd hs (hr.2 c);have e1:bV d (F+1) r (KS d s)=(i64.wrap (-1-((KS d s).e.idxOf (pW d r):Nat)),⟨gK (KS d s).e (pW d r),(KS d s).n,(KS d s).k⟩):=by unfold bV;rw[a0p t0]
   by_cases c2:jD r∈s.2
   .have e2:jO d (F+1) r s=s:=by unfold jO;rw[a0p t0,a0o (by simpa using c2)]
    refine⟨?_,by rw[e2];exact hk,by rw[e2];exact⟨fun _=>c2,fun h0=>by omega⟩,by rw[e2];exact .refl s⟩;rw[e1,e2,q1,show gK (KS d s).e (pW d r)=(KS d s).e from a0p (q2.2 c2)];unfold xk;rw[a0p c]
   have e2:jO d (F+1) r s=(s.1,s.2++[jD r]):=by unfold jO;rw[a0p t0,a0p (by simpa using c2)]
   have hc:Vy (s.1,s.2++[jD r]) r:=⟨fun _=>by simp,fun h0=>by omega⟩;have hx:Ext s (s.1,s.2++[jD r]):=⟨[],[jD r],by simp⟩;refine⟨?_,by rw[e2];exact fun o ho k kC=>(hk o ho k kC).ext hx,by rw[e2];exact hc,by rw[e2];exact hx⟩;rw[e1,e2,q1,afo hk hn,show gK (KS d s).e (pW d r)=(KS d s).e++[pW d r]from a0o (fun e=>c2 (q2.1 e))];unfold xk;rw[a0p c];simp[a9E,c2,a8L c2,pW]
  have t0:¬(decide (r<0)=true):=by simpa using c
  have xR:(KS d s).k.map (·.1)=s.1:=by unfold KS;rw[a7X];exact List.map_id _
  by_cases c2:r∈s.1
  .have e2:jO d (F+1) r s=s:=by unfold jO;rw[a0o t0,a0p (by simpa using c2)]
   have e1:bV d (F+1) r (KS d s)=(UM (KS d s).k r,KS d s):=by unfold bV;rw[a0o t0,a0p (by rw[xR];simpa using c2)]
   refine⟨?_,by rw[e2];exact hk,by rw[e2];exact⟨fun h0=>absurd h0 c,fun _=>c2⟩,by rw[e2];exact .refl s⟩;rw[e1,e2,afq c2]
  have aQ:r.toNat<d.aj.length:=by have:=hr.1;omega
  have BI:∀k,k<(au d r).ay.length->(au d r).ay.getD k 0<r:=fun k kC=>by
   have h9:=(h.zB r.toNat aQ k kC).1;have h9:(au d r).ay.getD k 0<(r.toNat:Int):=h9;omega
  have KL:∀j,j<(au d r).ay.length->jq d ((au d r).ay.getD j 0) d.aj.length:=fun j hj=>⟨by have:=BI j hj;have:=hr.1;omega,(h.zB r.toNat aQ j hj).2⟩;have a6w:=SL (g1:=fun j (y:List Int×Cs)=>(y.1.set j (bV d F ((au d r).ay.getD j 0) y.2).1,(bV d F ((au d r).ay.getD j 0) y.2).2)) (g2:=fun k y=>jO d F ((au d r).ay.getD k 0) y)
   (fun j (y:List Int×Cs) (t:List Int×List Int)=>y=(((au d r).ay.take j).map (xk t)++List.replicate ((au d r).ay.length-j) 0,KS d t)∧Jk d t∧Jp d t∧Ext s t∧r∉t.1∧∀i,i<j->Vy t ((au d r).ay.getD i 0)) (au d r).ay.length 0 (List.replicate (au d r).ay.length 0,KS d s) s ⟨by simp,hs,hk,.refl s,c2,fun i hi=>by omega⟩ (fun j y t _ hj hy=>by
    obtain⟨rfl,y1,y2,y3,y4,y5⟩:=hy;have hj:j<(au d r).ay.length:=(by omega);have ih:=ad4 h hw hd he F _ t (by have:=BI j hj;omega) y1 y2 (KL j hj) (by omega);have Yr:=a6J F ((au d r).ay.getD j 0) r t (BI j hj) y4 (by omega) (fun i hi k hk=>(h.zB i hi k hk).1) (fun h5=>⟨h5,by have:=(KL j hj).1;omega⟩);have QF:=KH h F ((au d r).ay.getD j 0) t y1 (KL j hj);obtain⟨i1,i2,i3,i4⟩:=ih;simp only[i1];generalize jO d F ((au d r).ay.getD j 0) t=u at i2 i3 i4 Yr QF ⊢;refine⟨?_,QF,i2,y3.trans i4,Yr,fun i hi=>?_⟩
    .simp only[a0t,and_true];have hl:(List.map (xk t) (List.take j (au d r).ay)).length=j:=by rw[a4n,a4d];omega
     rw[show(au d r).ay.length-j=((au d r).ay.length-(j+1))+1 by omega,adO,List.set_append_right _ _ (by rw[hl];exact a1b j)];rw[hl,agG,List.set_cons_zero,a8p hj,a4j,a4W];congr 1
     .apply a4P;intro x hx;obtain⟨i,hi,rfl⟩:=a4J.1 hx;have zZ:i<j:=by simp at hi;omega
      have:=y5 i zZ;rw[rP (l:=(au d r).ay) (show i<(au d r).ay.length by omega)]at this;rw[List.getElem_take];exact(aas this i4).symm
     .rw[rP hj];rfl
    .by_cases zZ:i<j
     .exact(y5 i zZ).ext i4
     .rw[show i=j by omega];exact i3)
  have e1:bV d (F+1) r (KS d s)=(dZ (aT (fun j (y:List Int×Cs)=>(y.1.set j (bV d F ((au d r).ay.getD j 0) y.2).1,(bV d F ((au d r).ay.getD j 0) y.2).2)) (au d r).ay.length 0 (List.replicate (au d r).ay.length 0,KS d s)).2.n (au d r).var (aT (fun j (y:List Int×Cs)=>(y.1.set j (bV d F ((au d r).ay.getD j 0) y.2).1,(bV d F ((au d r).ay.getD j 0) y.2).2)) (au d r).ay.length 0 (List.replicate (au d r).ay.length 0,KS d s)).1,⟨(aT (fun j (y:List Int×Cs)=>(y.1.set j (bV d F ((au d r).ay.getD j 0) y.2).1,(bV d F ((au d r).ay.getD j 0) y.2).2)) (au d r).ay.length 0 (List.replicate (au d r).ay.length 0,KS d s)).2.e,dw (aT (fun j (y:List Int×Cs)=>(y.1.set j (bV d F ((au d r).ay.getD j 0) y.2).1,(bV d F ((au d r).ay.getD j 0) y.2).2)) (au d r).ay.length 0 (List.replicate (au d r).ay.length 0,KS d s)).2.n (au d r).var (aT (fun j (y:List Int×Cs)=>(y.1.set j (bV d F ((au d r).ay.getD j 0) y.2).1,(bV d F ((au d r).ay.getD j 0) y.2).2)) (au d r).ay.length 0 (List.replicate (au d r).ay.length 0,KS d s)).1,(aT (fun j (y:List Int×Cs)=>(y.1.set j (bV d F ((au d r).ay.getD j 0) y.2).1,(bV d F ((au d r).ay.getD j 0) y.2).2)) (au d r).ay.length 0 (List.replicate (au d r).ay.length 0,KS d s)).2.k++[(r,dZ (aT (fun j (y:List Int×Cs)=>(y.1.set j (bV d F ((au d r).ay.getD j 0) y.2).1,(bV d F ((au d r).ay.getD j 0) y.2).2)) (au d r).ay.length 0 (List.replicate (au d r).ay.length 0,KS d s)).2.n (au d r).var (aT (fun j (y:List Int×Cs)=>(y.1.set j (bV d F ((au d r).ay.getD j 0) y.2).1,(bV d F ((au d r).ay.getD j 0) y.2).2)) (au d r).ay.length 0 (List.replicate (au d r).ay.length 0,KS d s)).1)]⟩):=by
   rw[bV,a0o t0,a0o (by rw[xR];simpa using c2)]
  have e2:jO d (F+1) r s=((aT (fun k y=>jO d F ((au d r).ay.getD k 0) y) (au d r).ay.length 0 s).1++[r],(aT (fun k y=>jO d F ((au d r).ay.getD k 0) y) (au d r).ay.length 0 s).2):=by
   rw[jO,a0o t0,a0o (by simpa using c2)]
  generalize aT (fun j (y:List Int×Cs)=>(y.1.set j (bV d F ((au d r).ay.getD j 0) y.2).1,(bV d F ((au d r).ay.getD j 0) y.2).2)) (au d r).ay.length 0 (List.replicate (au d r).ay.length 0,KS d s)=y at a6w e1;generalize aT (fun k y=>jO d F ((au d r).ay.getD k 0) y) (au d r).ay.length 0 s=t at a6w e2;obtain⟨rfl,f2,f3,f4,f5,f6⟩:=a6w;rw[a4e]at f6;simp only[a4e,adb,agG,List.replicate_zero,a5W]at e1;have a7f:∀k∈(au d r).ay,Vy t k:=fun k kC=>by
   obtain⟨i,hi,rfl⟩:=a4J.1 kC;have:=f6 i hi
   rwa [rP hi]at this
  have hW:∀o,0<=o->gq o d.aj.length->∀k∈(au d o).ay,FV k:=fun o _ ho k kC=>by
   obtain⟨i,hi,rfl⟩:=a4J.1 kC;have:=hw.zB o.toNat (by have:=ho.1;have:=ho.2;omega) i hi
   rwa [rP hi]at this
  have hrI:gq r d.aj.length:=⟨by omega,hr.1⟩;have hel:t.2.length<=2^61:=a4U f2.len.2 he;have ad5:((au d r).ay.map (xk t)).all (fun x=>x==((au d r).ay.map (xk t)).getD 0 0)=false:=by
   cases e:((au d r).ay.map (xk t)).all (fun x=>x==((au d r).ay.map (xk t)).getD 0 0)
   .rfl
   exfalso;have hf:=hd.flat r.toNat aQ;rw[List.all_eq_false]at hf;obtain⟨x,hx,hx2⟩:=hf;have hx:x∈(au d r).ay:=hx;have h0:0<(au d r).ay.length:=List.length_pos_of_mem hx;rw[a4A]at e;have:=e (xk t x) (a1l.2 ⟨x,hx,rfl⟩);rw[rP (by simpa using h0),a8T]at this;have h00:(au d r).ay[0]∈(au d r).ay:=a4z h0;have:=a1D hel (a7f x hx) (a7f _ h00) (hW r (by omega) hrI x hx) (hW r (by omega) hrI _ h00) (by simpa using this);apply hx2;have h9:(fA d r.toNat).ay.getD 0 0=(au d r).ay[0]:=rP h0;rw[h9,this];simp
  have aem:tV (au d r).var ((au d r).ay.map (xk t))∉(KS d t).n.map BN:=by
   intro hm;unfold KS at hm;rw[a7X]at hm;obtain⟨o,ho,e⟩:=a1l.1 hm;have Z4:=f2.n2 o ho;have QW:o.toNat<d.aj.length:=by have:=Z4.1;have:=Z4.2;omega
   have ev:(fA d o.toNat).var=(fA d r.toNat).var:=congrArg Prod.fst e;have ep:HY ((au d o).ay.map (xk t))=HY ((au d r).ay.map (xk t)):=congrArg (fun z:Ky=>z.2.val) e;have hlen:((fA d o.toNat).ay.length:Int)=((fA d r.toNat).ay.length:Int):=(by rw[h.ksz _ QW,h.ksz _ aQ,ev]);have hlen:(au d o).ay.length=(au d r).ay.length:=by exact_mod_cast hlen
   have em:=aat (by simpa using hlen) (by rw[a4n];exact h.Jj _ QW) ep;have ek:=map_inj (fun x hx y hy e=>a1D hel (f3 o ho x hx) (a7f y hy) (hW o Z4.1 Z4 x hx) (hW r (by omega) hrI y hy) e) em;have:=hd.aj _ _ QW aQ ev ek;have:o=r:=by have:=Z4.1;omega
   exact f5 (this▸ho)
  have hnl:(KS d t).n.length=t.1.length:=by unfold KS;simp
  have hR:dZ (KS d t).n (au d r).var ((au d r).ay.map (xk t))=(t.1.length:Int):=by
   unfold dZ;rw[ad5,a0o (by simp),a8L aem,a4n,hnl]
  have hS:dw (KS d t).n (au d r).var ((au d r).ay.map (xk t))=(KS d t).n++[⟨(au d r).var,(au d r).ay.map (xk t)⟩]:=by
   unfold dw;rw[ad5,a0o (by simp),a0o aem]
  have hx:Ext t (t.1++[r],t.2):=⟨[r],[],by simp⟩;have hc:Vy (t.1++[r],t.2) r:=⟨fun h0=>absurd h0 c,fun _=>by simp⟩;refine⟨?_,?_,by rw[e2];exact hc,by rw[e2];exact f4.trans hx⟩
  .rw[e1,e2,hR,hS,aar f3 (fun o ho=>(f2.n2 o ho).1) (by omega) f5 a7f];unfold xk;rw[a0o c];simp[a9E,f5]
  rw[e2];intro o ho k kC;rcases a3k.1 ho with ho|ho
  .exact(f3 o ho k kC).ext hx
  rw[a2U.1 ho]at kC;exact(a7f k kC).ext hx
open Go Tw Pv dh
theorem XB(b:Br):Dl b=b.ay.all fun x=>x==b.ay.getD 0 0:=by
 have e:jS (Sl (OY b) 1 (max 1 b.ay.length))=true↔∀k,1<=k->k<b.ay.length->b.ay.getD k 0=b.ay.getD 0 0:=by
  unfold Sl gS;rw[Hz (r:=fun k=>k)];constructor
  .intro h k h1 h2;simpa[OY]using h k h1 (by omega)
  intro h k h1 h2;simpa[OY]using h k h1 (by omega)
 have e2:(b.ay.all fun x=>x==b.ay.getD 0 0)=true↔∀k,1<=k->k<b.ay.length->b.ay.getD k 0=b.ay.getD 0 0:=by
  rw[a4A];constructor
  .intro h k _ h2;have:=h _ (dn h2);simpa using this
  intro h x hx;obtain⟨k,hk,rfl⟩:=a4J.1 hx;by_cases h0:k=0
  .subst h0;rw[rP hk];simp
  have:=h k (by omega) hk;rw[rP hk]at this;rw[this];simp
 have:Dl b=true↔(b.ay.all fun x=>x==b.ay.getD 0 0)=true:=by
  rw[e2,<-e];unfold Dl;cases jS (Sl (OY b) 1 (max 1 b.ay.length))<;>simp
 rw[a4H];exact this
theorem afr{d:Dg}:jS (bG (cD0 d) d.aK.length)=true↔d.aK.Nodup:=by
 rw[dK];have h1:∀i,cD0 d i=false↔∀j,j<i->d.aK.getD j V0≠d.aK.getD i V0:=fun i=>by
  have:jS (bG (cD1 d i) i)=true↔∀j,j<i->d.aK.getD j V0≠d.aK.getD i V0:=by
   rw[dK];simp[cD1]
  rw[<-this];unfold cD0;cases jS (bG (cD1 d i) i)<;>simp
 have hg:∀j,(hj:j<d.aK.length)->d.aK.getD j V0=d.aK[j]:=fun j hj=>by simp[List.getD,a0f hj]
 constructor
 .intro h;rw[abV,abX];intro i j hi hj zZ;have:=(h1 j).1 (h j hj) i zZ
  rwa [hg i hi,hg j hj]at this
 intro h i hi;rw[h1];intro j hj;rw[abV,abX]at h;have:=h j i (by omega) hi hj
 rwa [hg i hi,hg j (by omega)]
theorem afs{d:Dg}:jS (bG (cD2 d) d.aj.length)=true↔(∀i j,i<d.aj.length->j<d.aj.length->(fA d i).var=(fA d j).var->(fA d i).ay=(fA d j).ay->i=j)∧∀i,i<d.aj.length->((fA d i).ay.all fun x=>x==(fA d i).ay.getD 0 0)=false:=by
 rw[dK];have h1:∀i,cD2 d i=false↔Dl (fA d i)=false∧∀j,j<i->¬((fA d j).var=(fA d i).var∧(fA d j).ay=(fA d i).ay):=fun i=>by
  have h3:∀j,cD3 d i j=false↔¬((fA d j).var=(fA d i).var∧(fA d j).ay=(fA d i).ay):=fun j=>by
   unfold cD3;by_cases hv:(fA d j).var=(fA d i).var
   .rw[a0p (by rw[a6H];exact hv),a3g];exact⟨fun a b=>a b.2,fun a b=>a ⟨hv,b⟩⟩
   rw[a0o (by rw[a6H];exact hv)];exact⟨fun _ a=>hv a.1,fun _=>rfl⟩
  have:jS (bG (cD3 d i) i)=true↔∀j,j<i->¬((fA d j).var=(fA d i).var∧(fA d j).ay=(fA d i).ay):=by
   rw[dK];exact abT fun j=>abT fun _=>h3 j
  rw[<-this];unfold cD2;cases Dl (fA d i)
  .cases jS (bG (cD3 d i) i)<;>simp
  simp
 constructor
 .intro h;refine⟨fun i j hi hj hv hk=>?_,fun i hi=>by rw[<-XB];exact((h1 i).1 (h i hi)).1⟩;rcases Nat.lt_trichotomy i j with zZ|zZ|zZ
  .exact absurd ⟨hv,hk⟩ (((h1 j).1 (h j hj)).2 i zZ)
  .exact zZ
  exact absurd ⟨hv.symm,hk.symm⟩ (((h1 i).1 (h i hi)).2 j zZ)
 intro h i hi;rw[h1];refine⟨by rw[XB];exact h.2 i hi,fun j hj hc=>?_⟩;have:=h.1 j i (by omega) hi hc.1 hc.2;omega
theorem aau{d:Dg}:(jS (bG (cD0 d) d.aK.length)=true∧jS (bG (cD2 d) d.aj.length)=true)↔DgD d:=by
 rw[afr,afs];exact⟨fun h=>⟨h.1,h.2.1,h.2.2⟩,fun h=>⟨h.aK,h.aj,h.flat⟩⟩
theorem Ph{l:List Int}{m:Nat}:zA l m=true↔l=dO m:=by
 unfold zA;have e:jS (bG (a6E l) l.length)=true↔∀j,j<l.length->l.getD j 0=(j:Int):=by
  rw[dK];simp[a6E]
 constructor
 .intro h;split at h
  .rename_i h1;have hl:(l.length:Int)=(m:Int):=(by simpa using h);have hl:l.length=m:=(by omega);rw[oP (d:=0) (by rw[lS,hl])];intro j hj;rw[e.1 h1 j hj];have:j<m:=(by omega);simp[dO,List.getD,this]
  cases h
 rintro rfl;rw[a0p (e.2 fun j hj=>by rw[lS]at hj;simp[dO,List.getD,hj]),lS];simp
theorem XC{d:Dg}:pV d=true↔DgD d∧srN d d.root=dO d.aj.length∧srE d d.root=dO d.aK.length:=by
 rw[<-aau,<-Ph,<-Ph];unfold pV;cases jS (bG (cD0 d) d.aK.length)
 .simp
 cases jS (bG (cD2 d) d.aj.length)
 .simp
 cases zA (srN d d.root) (d.aj.length:Int)<;>simp
open Go Tw Pv dh
abbrev ZN:Cs:=⟨[],[],[]⟩
def eP(d:Dg):Dg:=⟨d.aA,d.aG,(bV d 6002 d.root ZN).2.e,(bV d 6002 d.root ZN).2.n,(bV d 6002 d.root ZN).1⟩
theorem UQ{d:Dg}:Dv d ZN:=⟨a5Y,by simp,a5Y,by simp,a5Y,by simp⟩
abbrev a7g(b:Br):Bool:=b.ay.all fun x=>x==b.ay.getD 0 0
theorem a1F{d:Dg}:∀(F:Nat) (r:Int) (x:Cs),(∀b∈x.n,a7g b=false)->∀b∈(bV d F r x).2.n,a7g b=false
 | 0,_,_,h=>h
 |F+1,r,x,h=>by
  unfold bV;split
  .exact h
  split
  .exact h
  have hb:=(I4 (d:=d) (fun y=>∀b∈y.n,a7g b=false) (F:=F) (r:=r) h (fun j y _ hy=>a1F F _ y hy)).2;intro b Qw;simp only[dw]at Qw;split at Qw
  .exact hb b Qw
  rename_i hf;split at Qw
  .exact hb b Qw
  rcases a3k.1 Qw with Qw|Qw
  .exact hb b Qw
  rw[a2U.1 Qw];simpa using hf
theorem a3u{d:Dg}(h:BH d)(e:eP d=d):DgD d:=by
 have hc:=P8 h 6002 d.root ZN UQ h.root;have hf:=a1F (d:=d) 6002 d.root ZN (by simp);have ee:(bV d 6002 d.root ZN).2.e=d.aK:=congrArg Dg.aK e;have en:(bV d 6002 d.root ZN).2.n=d.aj:=congrArg Dg.aj e;rw[en]at hf;have hg:∀j,(hj:j<d.aj.length)->fA d j=d.aj[j]:=fun j hj=>by simp[List.getD,a0f hj]
 refine⟨ee▸hc.e1,fun i j hi hj hv hk=>?_,fun i hi=>?_⟩
 .have hn:(d.aj.map BN).Nodup:=en▸hc.n1;have:=(aae (i:=i) (j:=j) (h₀:=by simpa using hi) (h₁:=by simpa using hj) hn).1 (by
   rw[a8T,a8T,<-hg i hi,<-hg j hj];show tV _ _=tV _ _;rw[hv,hk])
  exact this
 have:=hf (fA d i) (by rw[hg i hi];exact a4z hi);exact this
theorem Pj{d:Dg}{n m:Nat}{x:Int}(hm:m<=2^61)(hx:FV x)(hc:Vy (dO n,dO m) x):xk (dO n,dO m) x=x:=by
 have hid:∀(n:Nat) (y:Int),y∈dO n->(((dO n).idxOf y:Nat):Int)=y:=fun n y hy=>by
  have hl:=a4F.2 hy;have h1:=a8M hl;rw[lS]at hl;simp only[dO,a8T,agU]at h1;exact h1
 unfold xk;by_cases c:x<0
 .rw[a0p c];have h1:=hid m _ (hc.1 c);have h2:jD x=-1-x:=MO hx c;have h3:=a1v (hc.1 c);have h4:=h3.2;rw[show((((dO n,dO m):List Int×List Int).2.idxOf (jD x):Nat):Int)=jD x from h1,h2,fG (by omega) (by omega)];omega
 rw[a0o c];exact hid n _ (hc.2 (by omega))
theorem XD{α:Type}(l:List α)(f:Int->α)(h:∀j,(hj:j<l.length)->f j=l[j]):(dO l.length).map f=l:=by
 apply a9k (by simp[dO]);intro j h1 h2;simp[dO,h j h2]
theorem a1G{d:Dg}{j:Nat}(hj:j<d.aK.length):d.aK.getD ((j:Nat):Int).toNat V0=d.aK[j]:=by simp[List.getD,a0f hj]
theorem a1H{l:List Int}{m:Nat}(hl:l.length=m)(h:∀j,(hj:j<l.length)->l[j]=(j:Int)):l=dO m:=by
 apply a9k (by rw[lS,hl]);intro j h1 h2;rw[h j h1];simp[dO]
theorem aft{d:Dg}(h:BH d)(hw:Ez d)(hd:DgD d)(he:d.aK.length<=2^61){t:List Int×List Int}(ht:Jk d t)(hk:Jp d t)(hc:Vy t d.root):((KS d t).e=d.aK∧(KS d t).n=d.aj∧xk t d.root=d.root)↔(t.1=dO d.aj.length∧t.2=dO d.aK.length):=by
 have hW:∀o,gq o d.aj.length->∀k∈(au d o).ay,FV k:=fun o ho k kC=>by
  obtain⟨i,hi,rfl⟩:=a4J.1 kC;have:=hw.zB o.toNat (by have:=ho.1;have:=ho.2;omega) i hi
  rwa [rP hi]at this
 have hg:∀j,(hj:j<d.aj.length)->au d (j:Nat)=d.aj[j]:=fun j hj=>by simp[List.getD,a0f hj]
 constructor
 .rintro⟨h1,h2,h3⟩;have l1:t.2.length=d.aK.length:=by have:=congrArg List.length h1;simpa[KS]using this
  have l2:t.1.length=d.aj.length:=by have:=congrArg List.length h2;simpa[KS]using this
  have e2:t.2=dO d.aK.length:=a1H l1 fun j hj=>by
   have rV:j<d.aK.length:=(by omega);have:(KS d t).e[j]'(by rw[h1];exact rV)=d.aK[j]:=(by simp only[h1]);unfold KS at this;simp only[a8T]at this;rw[<-a1G rV]at this;exact XA hd.aK (ht.e2 _ (a4z hj)) (aH rV) this
  have key:∀(N:Nat) (o:Int),o∈t.1->o.toNat<N->xk t o=o:=by
   intro N
   induction N with
   |zero=>intro o _ hN;omega
   |succ N ih=>
    intro o ho hN;have Z4:=ht.n2 o ho;have aQ:=a4F.2 ho;have rV:t.1.idxOf o<d.aj.length:=(by omega);have hel:=a8M aQ;have:(KS d t).n[t.1.idxOf o]'(by rw[h2];exact rV)=d.aj[t.1.idxOf o]:=(by simp only[h2]);unfold KS at this;simp only[a8T,hel]at this;have hkm:(au d o).ay.map (xk t)=(au d o).ay:=by
     conv=>rhs;rw[<-List.map_id (au d o).ay]
     apply a4P;intro k kC;show xk t k=k;have hcv:=hk o ho k kC;by_cases c:k<0
     .have:=Pj (d:=d) (n:=0) (m:=d.aK.length) he (hW o Z4 k kC) ⟨fun c=>by have:=hcv.1 c;rwa [e2]at this,fun h0=>by omega⟩;unfold xk at this ⊢;rw[a0p c]at this ⊢;rw[e2];exact this
     obtain⟨i,hi,rfl⟩:=a4J.1 kC;have aoZ:o.toNat<d.aj.length:=by have:=Z4.1;have:=Z4.2;omega
     have h9:=(h.zB o.toNat aoZ i hi).1;have h9:(au d o).ay.getD i 0<(o.toNat:Int):=h9;rw[rP hi]at h9;exact ih _ (hcv.2 (by omega)) (by omega)
    rw[hkm]at this;have hv:(fA d (t.1.idxOf o)).var=(fA d o.toNat).var:=(by rw[show fA d (t.1.idxOf o)=d.aj[t.1.idxOf o]from hg _ rV,<-this]);have xR:(fA d (t.1.idxOf o)).ay=(fA d o.toNat).ay:=(by rw[show fA d (t.1.idxOf o)=d.aj[t.1.idxOf o]from hg _ rV,<-this]);have h8:=hd.aj _ _ rV (by have:=Z4.1;have:=Z4.2;omega) hv xR;unfold xk;rw[a0o (by have:=Z4.1;omega),h8];have:=Z4.1;omega
  refine⟨a1H l2 fun j hj=>?_,e2⟩;have hm:=a4z hj;have:=key ((t.1[j]).toNat+1) _ hm (by omega);unfold xk at this;rw[a0o (by have:=(ht.n2 _ hm).1;omega)]at this;rw[<-this];have:t.1.idxOf t.1[j]=j:=by
   have h5:=a4F.2 hm;exact(aae (i:=t.1.idxOf t.1[j]) (j:=j) (h₀:=h5) (h₁:=hj) ht.n1).1 (a8M h5)
  rw[this]
 rintro⟨h1,h2⟩;obtain⟨t1,t2⟩:=t;simp only at h1 h2;subst h1 h2;refine⟨?_,?_,Pj (d:=d) he hw.root hc⟩
 .exact XD d.aK (fun e=>d.aK.getD e.toNat V0) fun j hj=>a1G hj
 refine XD d.aj _ fun j hj=>?_;have hkm:(au d (j:Nat)).ay.map (xk (dO d.aj.length,dO d.aK.length))=(au d (j:Nat)).ay:=by
  conv=>rhs;rw[<-List.map_id (au d (j:Nat)).ay]
  apply a4P;intro k kC;exact Pj (d:=d) he (hW _ (aH hj) k kC) (hk _ (by show(j:Int)∈dO _;unfold dO;rw[a1l];exact⟨j,a4s.2 hj,rfl⟩) k kC)
 rw[hkm,hg j hj]
theorem SN{d:Dg}(h:BH d)(hw:Ez d)(he:d.aK.length<=2^61)(hn:d.aj.length<=6000):eP d=d↔pV d=true:=by
 have main:DgD d->(eP d=d↔(srN d d.root=dO d.aj.length∧srE d d.root=dO d.aK.length)):=fun hd=>by
  have hr:d.root+1<6002:=by have:=h.root.1;omega
  have ha:=ad4 h hw hd he 6002 d.root ([],[]) hr sr0 (fun o ho=>by cases ho) h.root (by omega);have hs:=KH h 6002 d.root ([],[]) sr0 h.root;have hi:=aft h hw hd he hs ha.ay ha.cov;have e0:KS d ([],[])=ZN:=rfl;have e1:=ha.eq;rw[e0]at e1;unfold srN srE;rw[<-hi];unfold eP;rw[e1];obtain⟨d1,d2,d3,d4,d5⟩:=d;simp
 rw[XC];constructor
 .intro e;have hd:=a3u h e;exact⟨hd,(main hd).1 e⟩
 rintro⟨hd,h2⟩;exact(main hd).2 h2
open Go Tw Pv dh
abbrev HCw(l:Lo)(x:Cs):List (PB aF):=[.list false false 3 l.s,.list false false 3 l.o,.map (kV.es (zD x.e)),.map (kK.es (yJ x.n)),mkC l.s l.o 12 13 0,.gone,.gone,.cells l.ps,.cells [.ptr 4 0 9],.map (kI.es (Lh x.k)),.cells [.map 9],.cells [.fn 195 [] pC],Qa x.e,Qb x.n]
structure ClP(l:Lo):Prop where
 s:l.s=l.d.aA
 o:l.o=l.d.aG
 t:BH l.d
 e:l.d.aK.length+1<=ah
 n:l.d.aj.length<=6000
 k:∀i,i<l.d.aj.length->1<=(fA l.d i).ay.length
 sl:l.d.aA.length<=ah
 ol:l.d.aG.length<=ah
def ad6:eY aF:=bZ 161 (a1 loA) dA (fun l=>eP l.d) (fun l=>[ClP l]) ad2
theorem ak4:Gd ad6:=ak2.X6 6010 acU fun n hn hO hOl l hp=>by
 obtain⟨n,rfl⟩:∃k,n=k+6009:=⟨n-6009,by omega⟩;have h:ClP l:=hp _ (.head _);obtain⟨s,o,d⟩:=l;obtain⟨e1,e2,ht,he,hn6,hk,hsl,QW⟩:=h;obtain rfl:s=d.aA:=e1;obtain rfl:o=d.aG:=e2;have hO':∀m,n+1<=m->Ok m _:=fun m hm=>hOl m (by omega);have he:d.aK.length+1<=ah:=he;have hn6:d.aj.length<=6000:=hn6;have hr:=ht.root.1;have hr:d.root<(d.aj.length:Int):=hr;have qm:=sCl (N:=n+1) hO' ht he (by unfold ah;omega) hk 6002 d.root ZN (by omega) UQ ht.root (by omega);have fP:=aoV (n:=n+6008) (hO' _ (by omega)) d.aA d.aG hsl QW;show oq _ _ _ _ _ (dA.put (eP d)) _;unfold eP;generalize bV d 6002 d.root ZN=z at qm ⊢;obtain⟨v,e,nd,k⟩:=z;exact aN (hO (n+6009) (by omega)) (.fr [] fP (.Qm (H2:=HCw (yL d) ⟨e,nd,k⟩) [1,2,3,4,5,6,7,0,8,9,10,11] [7,8,10,11] qm .rr))
open Go Tw Pv dh
theorem a1I{d:Dg}(h:BH d):∀(F:Nat) (r:Int) (x:Cs),(∀b∈x.n,b.ay.length<=12)->jq d r d.aj.length->∀b∈(bV d F r x).2.n,b.ay.length<=12
 | 0,_,_,hx,_=>hx
 |F+1,r,x,hx,hr=>by
  unfold bV;by_cases c:r<0
  .rw[a0p (by simpa using c)];exact hx
  rw[a0o (by simpa using c)];split
  .exact hx
  have aQ:r.toNat<d.aj.length:=by have:=hr.1;omega
  have hb:=I4 (d:=d) (fun y=>∀b∈y.n,b.ay.length<=12) (F:=F) (r:=r) hx (fun j y hj hy=>a1I h F _ y hy (by
   have h9:=h.zB r.toNat aQ j hj;have h8:=h9.1;have h8:(au d r).ay.getD j 0<(r.toNat:Int):=h8;exact⟨by have:=hr.1;omega,h9.2⟩))
  intro b Qw;simp only[dw]at Qw;split at Qw
  .exact hb.2 b Qw
  split at Qw
  .exact hb.2 b Qw
  rcases a3k.1 Qw with Qw|Qw
  .exact hb.2 b Qw
  rw[a2U.1 Qw];show List.length _<=12;rw[hb.1];exact h.Jj r.toNat aQ
theorem wY{d:Dg}(h:Ez d)(he:d.aK.length+1<=ah)(hs:d.aA.length<=ah)(ho:d.aG.length<=ah)(h0:(bF d).2=0):(bF d).1=yL d∧ClP (yL d):=by
 rw[Jl h (by omega)]at h0 ⊢;have h0:bD d=0:=h0;have hc:=iW ho (show d.aK.length<=ah by omega) (by simp[h0]);have hf:(bW d.aA d.aG != 0)=false:=by
  cases e:bW d.aA d.aG != 0
  .rfl
  unfold bD at h0;rw[a0p e]at h0;simp[h0]at e
 refine⟨by rw[a0o (by rw[hf];simp)],rfl,rfl,hc.1,he,hc.2,fun i hi=>?_,hs,ho⟩;have h1:=hc.1.ksz i hi;have h2:=hc.1.var i hi;have h3:=(Az hf).sz _ (dn (s:=d.aA) (k:=(fA d i).var.toNat) (by have:=h2.2;have:=h2.1;omega));have h1:((fA d i).ay.length:Int)=d.aA.getD (fA d i).var.toNat 0:=h1;show 1<=(fA d i).ay.length;omega
def vP(d:Dg):Lo×Int:=if(bF d).2==0 then(if(!(I7 (eP (bF d).1.d) d))=true then((bF d).1,4)else bF d)else bF d
theorem ZO{d:Dg}(h:BH d)(hn:d.aj.length<=6000):(eP d).aK.length<=d.aK.length∧(eP d).aj.length<=6000∧∀b∈(eP d).aj,b.ay.length<=12:=by
 have hc:=P8 h 6002 d.root ZN UQ h.root;refine⟨hc.ajX,?_,a1I h 6002 d.root ZN (by simp) h.root⟩;have h1:=hc.Jj;have h2:=hc.n2;show(bV d 6002 d.root ZN).2.n.length<=6000;omega
theorem a3v{d:Dg}(h:Ez d)(hs:d.aA.length<=ah)(ho:d.aG.length<=2^20)(he:d.aK.length+1<=ah)(h0:((bF d).2==0)=true):ClP (bF d).1∧(eP (bF d).1.d).aA.length<=ah∧(eP (bF d).1.d).aG.length<=ah∧(eP (bF d).1.d).aK.length<=ah∧(eP (bF d).1.d).aj.length<=ah∧∀k,k<(eP (bF d).1.d).aj.length->((eP (bF d).1.d).aj.getD k kM).ay.length<=ah:=by
 have ho:d.aG.length<=ah:=by unfold ah;omega
 obtain⟨h1,h2⟩:=wY h he hs ho (by simpa using h0);rw[h1];obtain⟨a,b,c⟩:=ZO h2.t h2.n;refine⟨h2,hs,ho,?_,?_,fun k hk=>?_⟩
 .have a:(eP d).aK.length<=d.aK.length:=a;show(eP d).aK.length<=ah;omega
 .have b:(eP d).aj.length<=6000:=b;show(eP d).aj.length<=ah;unfold ah;omega
 exact m12 (c _ (Xw hk))
def ad7:eY aF:=bZ 172 (a1 dA) (dQ (a2 loA iA)) (fun p=>vP p) (fun p=>[Ez p,p.aA.length<=ah,p.aG.length<=2^20,p.aK.length+1<=ah]) ad6
theorem ak5:Gd ad7:=ak4.add fun n hO p hp=>aN hO (.o (hp _ (.tail _ (.head _))) (.o (hp _ (.tail _ (.tail _ (.head _)))) (.o (by have h9:p.aK.length+1<=ah:=hp _ (.tail _ (.tail _ (.tail _ (.head _))));show p.aK.length<=ah;omega) (.sh (fun h=>have q:=a3v (hp _ (.head _)) (hp _ (.tail _ (.head _))) (hp _ (.tail _ (.tail _ (.head _)))) (hp _ (.tail _ (.tail _ (.tail _ (.head _))))) h;.o q.1 (.o q.2.1 (.o q.2.2.1 (.o q.2.2.2.1 (.o q.2.2.2.2.1 (.o q.2.2.2.2.2 (.ss .rr .rr))))))) fun _=>.rr))))
theorem XE{d:Dg}(h:Ez d)(hs:d.aA.length<=ah)(ho:d.aG.length<=ah)(he:d.aK.length+1<=ah):vP d=(if(bW d.aA d.aG != 0)=true then lo0 else yL d,lU d):=by
 have h9:=Jl h (show d.aK.length<=ah by omega);unfold vP lU;by_cases h0:(bF d).2=0
 .obtain⟨h1,h2⟩:=wY h he hs ho h0;have h3:=SN h2.t h (show d.aK.length<=2^61 by unfold ah at he;omega) h2.n;have h4:bD d=0:=by rw[h9]at h0;exact h0
  rw[a0p (show((bF d).2==0)=true by simpa using h0),h1,h4,a0o (show ¬(((0:Int) != 0)=true) by simp)];rw[h9]at h1;show(if(!(I7 (eP d) d))=true then(yL d,4)else bF d)=_;have h1:(if(bW d.aA d.aG != 0)=true then lo0 else yL d)=yL d:=h1;rw[h9,h1];by_cases h5:eP d=d
  .rw[a0o (show ¬((!(I7 (eP d) d))=true) by rw[a1B.2 h5];simp),a0o (show ¬((!(pV d))=true) by rw[h3.1 h5];simp),h4]
  have h6:I7 (eP d) d=false:=by
   cases e:I7 (eP d) d
   .rfl
   exact absurd (a1B.1 e) h5
  have h7:pV d=false:=by
   cases e:pV d
   .rfl
   exact absurd (h3.2 e) h5
  rw[a0p (show(!(I7 (eP d) d))=true by rw[h6];rfl),a0p (show(!(pV d))=true by rw[h7];rfl)]
 have h4:¬bD d=0:=by rw[h9]at h0;exact h0
 rw[a0o (show ¬(((bF d).2==0)=true) by simpa using h0),h9,a0p (show(bD d != 0)=true by simpa using h4)]
end Go.Proofs.YtmobpoiejckagaaGreat
namespace Pv
open Go Tw
def yw:Code->Option (Code×Code)
 |.seq a b=>match yw a with
  |some r=>some r
  |none=>yw b
 |.cond _ a b=>match yw a with
  |some r=>some r
  |none=>yw b
 |.block _ b=>yw b
 |.loop b=>yw b
 |.rangeFunc _ _ a b=>some (a,b)
 |_=>none
def wZ(P:Program)(f:Nat):Code:=
 match TL P f with
 |some t=>match yw t.body with
  |some (a,_)=>a
  |none=>.skip
 |none=>.skip
def AB(P:Program)(f:Nat):Code:=
 match TL P f with
 |some t=>match yw t.body with
  |some (_,b)=>b
  |none=>.skip
 |none=>.skip
end Pv
namespace Go.Proofs.YtmobpoiejckagaaGreat
open Go Tw Pv dh
def cellsD(d:Dg):List V:=(List.range (EY d.aA)).map fun(k:Nat)=>wW d (jT d.aA k)
open Go Tw Pv dh
def FW(N:List Br)(c:Int)(ks:List Int):Int:=if(ks.all fun x=>x==ks.getD 0 0)=true then ks.getD 0 0 else(N.idxOf (⟨c,ks⟩:Br):Nat)
def qx(N:List Br)(c:Int)(ks:List Int):List Br:=if(ks.all fun x=>x==ks.getD 0 0)=true then N else if(⟨c,ks⟩:Br)∈N then N else N++[⟨c,ks⟩]
abbrev EN:Type:=List V×List Br
def BJ(f:List Int->EN->Int×EN)(c:Int)(p:List Int)(j:Nat)(y:List Int×EN):List Int×EN:=(y.1++[(f (p.set c.toNat j) y.2).1],(f (p.set c.toNat j) y.2).2)
def iO(s:List Int)(l:List V):List Int->List Int->EN->Int×EN
 | [],p,x=>(i64.wrap (-1-(x.1.idxOf (l.getD (ji s p).toNat V0):Nat)),(gK x.1 (l.getD (ji s p).toNat V0),x.2))
 |c::r,p,x=>
  let y:=aT (BJ (iO s l r) c p) (s.getD c.toNat 0).toNat 0 ([],x)
  (FW y.2.2 c y.1,(y.2.1,qx y.2.2 c y.1))
def wO(s:List Int):List Int->Nat
 | []=>1
 |c::r=>(s.getD c.toNat 0).toNat*wO s r
theorem UR{s:List Int}(hs:nJ s):∀{o:List Int},(∀c∈o,gq c s.length)->1<=wO s o
 | [],_=>a1b _
 |c::r,h=>by
  have h1:=UR hs (o:=r) fun c hc=>h c (by simp[hc]);obtain⟨h2,h3⟩:=h c (by simp);have h4:=hs _ (dn (s:=s) (k:=c.toNat) (by omega));have h5:1*1<=(s.getD c.toNat 0).toNat*wO s r:=agP (by omega) h1;simpa[wO]using h5
theorem ZP(E:List V)(v:V):(gK E v).length<=E.length+1:=by
 unfold gK;split<;>simp
theorem a7i(N:List Br)(c:Int)(ks:List Int):(qx N c ks).length<=N.length+1:=by
 unfold qx;split
 .omega
 split<;>simp
theorem aav{f:List Int->EN->Int×EN}{c:Int}{p:List Int}{n w:Nat}(h:∀q x,(f q x).2.1.length<=x.1.length+w∧(f q x).2.2.length+1<=x.2.length+w)(x:EN):(aT (BJ f c p) n 0 ([],x)).1.length=n∧(aT (BJ f c p) n 0 ([],x)).2.1.length<=x.1.length+n*w∧(aT (BJ f c p) n 0 ([],x)).2.2.length+n<=x.2.length+n*w:=by
 have:=dF (g:=BJ f c p) (m:=n) (k:=0) (s:=([],x)) (fun k y=>y.1.length=k∧y.2.1.length<=x.1.length+k*w∧y.2.2.length+k<=x.2.length+k*w) ⟨rfl,by simp,by simp⟩ (fun j y _ _ hy=>by
  obtain⟨h1,h2,h3⟩:=hy;have:=h (p.set c.toNat j) y.2;refine⟨by simp[BJ,h1],?_,?_⟩
  .simp only[BJ,a3E,abB];omega
  simp only[BJ,a3E,abB];omega)
 rw[a4e]at this;exact this
theorem ZQ{s:List Int}{l:List V}(hs:nJ s):∀(o p:List Int) (x:EN),(∀c∈o,gq c s.length)->(iO s l o p x).2.1.length<=x.1.length+wO s o∧(iO s l o p x).2.2.length+1<=x.2.length+wO s o
 | [],p,x,_=>by
  have:=ZP x.1 (l.getD (ji s p).toNat V0);exact⟨this,by simp[iO,wO]⟩
 |c::r,p,x,h=>by
  obtain⟨h1,h2,h3⟩:=aav (f:=iO s l r) (c:=c) (p:=p) (n:=(s.getD c.toNat 0).toNat) (w:=wO s r) (fun q x=>ZQ hs r q x fun c hc=>h c (by simp[hc])) x;obtain⟨i1,i2⟩:=h c (by simp);have h4:=hs _ (dn (s:=s) (k:=c.toNat) (by omega));simp only[iO,wO];generalize aT (BJ (iO s l r) c p) (s.getD c.toNat 0).toNat 0 ([],x)=y at h1 h2 h3;refine⟨h2,?_⟩;by_cases hn:(s.getD c.toNat 0).toNat=1
  .have e:qx y.2.2 c y.1=y.2.2:=by
    unfold qx;rw[a0p];rw[hn]at h1
    match hy:y.1,h1 with
    | [a],_=>simp
   rw[e];omega
  have:=a7i y.2.2 c y.1;omega
theorem a7j{α:Type}[DecidableEq α]{l:List α}{d a:α}{c:Nat->Bool}(hc:∀k,k<l.length->c k=decide (l.getD k d=a)):(a∈l->bG c l.length=.inr (l.idxOf a))∧(a∉l->jS (bG c l.length)=true):=by
 constructor
 .intro h;have hi:=a4F.2 h;have h1:c (l.idxOf a)=true:=by
   rw[hc _ hi,a1Q,List.getD,a0f hi,a5e,a8M]
  cases e:jS (bG c l.length)
  .obtain⟨j,hj,cj,hb,e2⟩:=Ed e;rw[e2];congr 1;rcases Nat.lt_trichotomy j (l.idxOf a)with g|g|g
   .exfalso;rw[hc j hj,a1Q,List.getD,a0f hj,a5e]at cj;have:=List.not_of_lt_findIdx (p:=(·==a)) g;rw[cj]at this;simp at this
   .exact g
   rw[hb _ g]at h1;cases h1
  rw[dK.1 e _ hi]at h1;cases h1
 intro h;refine dK.2 fun j hj=>?_;rw[hc j hj,a3g,List.getD,a0f hj,a5e];rintro rfl;exact h (a4z hj)
structure PtP(s o:List Int)(l:List V):Prop where
 bY:uS s
 ord:∀c∈o,gq c s.length
 len:(l.length:Int)=bg s
 afu:o.length<=ah
 slen:s.length<=ah
end Go.Proofs.YtmobpoiejckagaaGreat
namespace Pv
open Go Tw
section
variable {X:kQ} {P:Program}
theorem Ej{A:Nat->Prop}{m:List MB}{h:List HB}:∀{a b:List (PV X.Γ)} {z:List TV},bU X P A m h (a++b) z->∃x y,z=x++y∧bU X P A m h a x∧bU X P A m h b y
 | [],b,z,hz=>⟨[],z,rfl,.nil,hz⟩
 |v::a,b,z,hz=>by
  obtain⟨x0,r,rfl,v0,vr⟩:=bU.inv (v:=v) (vs:=a++b) hz;obtain⟨x,y,rfl,h1,h2⟩:=Ej vr;exact⟨x0::x,y,rfl,.cons v0 h1,h2⟩
theorem aW.fz(hX:bM X P){call:aY}{f:FuncId}{cs ws rest xs:List (PV X.Γ)}{H H1:List (PB X.Γ)}{v:PV X.Γ}(is:List Nat)(hs:aW X P call (.fn f [] []) (.agg (ws++rest)::xs) (aX is H) v H1)(hv:views H cs=some ws)(ho:∀i,i∈kU.kD cs->i∈is):aW X P call (.fn f [] []) (.agg (cs++rest)::xs) H v H1:=by
 intro A m h tf rW hr hf hx;obtain⟨x0,r,rfl,v0,vr⟩:=hx.inv;cases v0 with
 |gone hi _ _=>simp[bf]at hi
 |agg a1 a2=>
  rename_i cs';have ha:bU X P (AA A m) m h (cs++rest) cs':=⟨a1,a2⟩;obtain⟨c1,c2,rfl,b1,b2⟩:=Ej ha;have hF:=iq (h:=h) is m;have w1:=(lF (m':=bT is m) hX hr b1 hv ho).mono fun b hb=>FA.gone hr hb;have w2:=b2.step hF.1 hF.2;have w3:=w1.app w2;obtain⟨w,h',TQ,m1,k1,k2,k3,k4,k5,k6⟩:=hs A (bT is m) h tf (.agg (c1++c2)::r) (hr.aX is) (hf.step hF.1 hF.2) (.cons (.agg w3.1 w3.2) (vr.step hF.1 hF.2));refine⟨w,h',TQ,m1,k1,k2,k3,hF.1.trans k4,hF.2.trans k5,fun b hb=>?_⟩;rcases hF.1.new b (k6 b hb)with g|g
  .exact g
  have:=(hr.aX is).inb (k6 b hb);omega
end
theorem Good.ad8{X:kQ}{P:Program}{T:qJ}{L:Nat}{α β:Type}{f:FuncId}{a:UA X P α}{r:Ar X P β}{S:α->β}{pre:α->List Prop}{fJ X7 a7k:eY X.Γ}(d:Nat)(hg:Good X P T L fJ)(hg2:Good X P T L X7)(hg3:Good X P T L a7k)
  (hf:∀n,d<=n->(∀m,n-d<=m->jE X P (kY P T L m) fJ)->(∀m,n-d<=m->jE X P (kY P T L m) X7)->(∀m,n-d<=m->jE X P (kY P T L m) a7k)->∀x,(∀p∈pre x,p)->oq X P (kY P T L (n+1)) f (a.put x) (r.put (S x)) []):Good X P T L (bZ f a r S pre fJ):=by
 obtain⟨N2,hN2⟩:=hg2;obtain⟨N3,hN3⟩:=hg3;obtain⟨M,hM⟩:=hg;refine⟨M+N2+N3+d+1,fun n hn=>?_⟩;obtain⟨k,rfl⟩:∃k,n=k+1:=⟨n-1,by omega⟩;intro g vs v ext ps ho hp;unfold bZ at ho;split at ho
 .rename_i e;have e:=a8S e;subst e;split at ho
  .rename_i x hx;cases ho;intro A h first args cap Iw hv
   exact hf k (by omega) (fun m hm=>hM m (by omega)) (fun m hm=>hN2 m (by omega)) (fun m hm=>hN3 m (by omega)) x hp A h first args cap Iw (a.ok hx hv)
  .exact hM (k+1) (by omega) g vs v ext ps ho hp
 .exact hM (k+1) (by omega) g vs v ext ps ho hp
end Pv
namespace Go.Proofs.YtmobpoiejckagaaGreat
open Go Tw Pv dh
def qy(s o:List Int)(l:List V):Dg:=⟨s,o,(iO s l o (List.replicate s.length 0) ([],[])).2.1,(iO s l o (List.replicate s.length 0) ([],[])).2.2,(iO s l o (List.replicate s.length 0) ([],[])).1⟩
theorem Pm:∀{s:List Int},nJ s->jM s (List.replicate s.length 0)=true
 | [],_=>rfl
 |a::s,h=>by
  have:=h a (a3m ..);simp only[a4i,adO,jM,a2o,a1Q];exact⟨⟨a9s _,by omega⟩,Pm h.tail⟩
open Go Tw Pv dh
theorem a7l{a b:List Int}(ha:a.length<=12)(he:a.length=b.length)(h:HY a=HY b):a=b:=by
 have e:∀l:List Int,l.length<=12->(HY l).take l.length=l:=fun l hl=>by
  unfold HY;rw[afz,a7M hl,List.take_left]
 rw[<-e a ha,<-e b (by omega),h,he]
def NOk(s:List Int)(N:List Br):Prop:=∀b∈N,gq b.var s.length∧(b.ay.length:Int)=s.getD b.var.toNat 0
theorem a7m{s:List Int}(hs:nJ s){N:List Br}(h:NOk s N){c:Int}{ks:List Int}(hc:gq c s.length)(hk:(ks.length:Int)=s.getD c.toNat 0){b:Br}(hb:b∈N):BN b=tV c ks↔b=⟨c,ks⟩:=by
 constructor
 .intro e;obtain⟨v,l⟩:=b;have e1:v=c:=congrArg Prod.fst e;subst e1;have e2:HY l=HY ks:=congrArg (fun x:Ky=>x.2.1) e;have hl:=(h _ hb).2;have hl:(l.length:Int)=s.getD v.toNat 0:=hl;have hz:=hs _ (dn (s:=s) (k:=v.toNat) (by have:=hc.1;have:=hc.2;omega));rw[a7l (by omega) (by omega) e2]
 rintro rfl;rfl
theorem XF{s:List Int}(hs:nJ s){N:List Br}(h:NOk s N){c:Int}{ks:List Int}(hc:gq c s.length)(hk:(ks.length:Int)=s.getD c.toNat 0):dZ N c ks=FW N c ks∧dw N c ks=qx N c ks:=by
 have hm:tV c ks∈N.map BN↔(⟨c,ks⟩:Br)∈N:=by
  rw[a1l];constructor
  .rintro⟨b,hb,e⟩;rw[(a7m hs h hc hk hb).1 e]at hb;exact hb
  intro hb;exact⟨_,hb,rfl⟩
 have hi:(N.map BN).idxOf (tV c ks)=N.idxOf (⟨c,ks⟩:Br):=by
  clear hm
  induction N with
  |nil=>rfl
  |cons b N ih=>
   have e:=a7m hs h hc hk (b:=b) (by simp);rw[a4k,adA,adA,ih fun b hb=>h b (by simp[hb])];have:(BN b==tV c ks)=(b==(⟨c,ks⟩:Br)):=by rw[a4H,a6H,a6H];exact e
   rw[this]
 unfold dZ FW dw qx;rw[hi];refine⟨rfl,?_⟩;split
 .rfl
 by_cases g:tV c ks∈N.map BN
 .rw[a0p g,a0p (hm.1 g)]
 rw[a0o g,a0o fun x=>g (hm.2 x)]
open Go Tw Pv dh
theorem aaw{s:List Int}{a b:List Int}(h:a.Perm b):wO s a=wO s b:=by
 induction h with
 |nil=>rfl
 |cons x _ ih=>simp only[wO,ih]
 |swap x y l=>simp only[wO];rw[<-Nat.mul_assoc,<-Nat.mul_assoc,Nat.mul_comm (s.getD y.toNat 0).toNat]
 |trans _ _ i1 i2=>rw[i1,i2]
theorem XG{s:List Int}(hs:nJ s):∀(m k:Nat),k+m=s.length->(wO s ((List.range' k m).map fun(j:Nat)=>(j:Int)):Int)=bg (s.drop k)
 | 0,k,h=>by rw[agz (by omega)];rfl
 |m+1,k,h=>by
  have hk:k<s.length:=by omega
  have hz:=hs _ (dn (s:=s) (k:=k) hk);rw[List.range'_succ,a4k,wO,OL hk,adY,XG hs m (k+1) (by omega),a4L,agL (by omega)]
theorem FX{s o:List Int}(hs:nJ s)(h:jV s.length o=true):(wO s o:Int)=bg s:=by
 have h':=h;unfold jV at h';rw[a1Q]at h';have hi:=Sz s.length;have xE:=hi;unfold jV at xE;rw[a1Q]at xE;have hp:o.Perm (dO s.length):=(a7n h'.2.2 xE.2.2).2 fun a=>⟨fun ha=>lW hi (h'.2.1 a ha),fun ha=>lW h (xE.2.1 a ha)⟩;rw[aaw hp];have:=XG hs s.length 0 (by omega);rw[<-List.range_eq_range']at this;exact this
open Go Tw Pv dh
inductive To(d:Dg)(q:List Int):Int->V->Prop
 |fin {r:Int} (h:r<0):To d q r (d.aK.getD (jD r).toNat V0)
 |step {r:Int} {c:V} (h:0<=r) (t:To d q ((au d r).ay.getD (q.getD (au d r).var.toNat 0).toNat 0) c):To d q r c
theorem To.at_{d:Dg}(h:BH d){q:List Int}(hq:jM d.aA q=true){r:Int}{c:V}(t:To d q r c):∀F:Nat,r<F->jq d r d.aj.length->c=d.aK.getD (jD (ZL d q F r)).toNat V0:=by
 induction t with
 |fin hr=>
  intro F _ _;cases F with
  |zero=>rfl
  |succ F=>rw[ZL,a0p hr]
 |step hr _ ih=>
  intro F hF hk;cases F with
  |zero=>omega
  |succ F=>
   rw[ZL,a0o (by omega)];have:=(OZ h hq ⟨hr,hk.1⟩).2.2;exact ih F (by have:=this.1;omega) ⟨by have:=this.1;have:=hk.1;omega,this.2⟩
theorem To.of{d:Dg}(h:BH d){q:List Int}(hq:jM d.aA q=true):∀(F:Nat) (r:Int),r<F->jq d r d.aj.length->To d q r (d.aK.getD (jD (ZL d q F r)).toNat V0)
 | 0,r,hr,_=>.fin (by omega)
 |F+1,r,hr,hk=>by
  rw[ZL];split
  .rename_i c;exact .fin c
  rename_i c;have:=(OZ h hq ⟨by omega,hk.1⟩).2.2;exact .step (by omega) (To.of h hq F _ (by have:=this.1;omega) ⟨by have:=this.1;have:=hk.1;omega,this.2⟩)
theorem To.det{d:Dg}{q:List Int}{r:Int}{a b:V}(h:To d q r a):To d q r b->a=b:=by
 induction h with
 |fin hr=>intro g;cases g with
  |fin _=>rfl
  |step h _=>omega
 |step hr _ ih=>intro g;cases g with
  |fin h=>omega
  |step _ t=>exact ih t
theorem AL(E:List V)(v:V):E <+: gK E v:=by
 unfold gK;split
 .exact a4w
 exact a8N _ _
theorem I9(N:List Br)(c:Int)(ks:List Int):N <+: qx N c ks:=by
 unfold qx;split
 .exact a4w
 split
 .exact a4w
 exact a8N _ _
def Pn(x y:EN):Prop:=x.1 <+: y.1∧x.2 <+: y.2
theorem Pn.rfl{x:EN}:Pn x x:=⟨a4w,a4w⟩
theorem Pn.trans{x y z:EN}(a:Pn x y)(b:Pn y z):Pn x z:=⟨a.1.trans b.1,a.2.trans b.2⟩
theorem Po{s:List Int}{l:List V}:∀(r p:List Int) (x:EN),Pn x (iO s l r p x).2
 | [],p,x=>⟨AL _ _,a4w⟩
 |c::r,p,x=>by
  have:=dF (g:=BJ (iO s l r) c p) (m:=(s.getD c.toNat 0).toNat) (k:=0) (s:=([],x)) (fun _ y=>Pn x y.2) Pn.rfl (fun j y _ _ hy=>hy.trans (Po r _ y.2));exact⟨this.1,this.2.trans (I9 _ _ _)⟩
theorem zF{α:Type}{a b:List α}{d:α}(h:a <+: b){k:Nat}(hk:k<a.length):b.getD k d=a.getD k d:=by
 obtain⟨t,rfl⟩:=h;simp[List.getD,a0j hk]
theorem Pq{k:Nat}(hk:k<2^61):i64.wrap (-1-(k:Int))=-1-(k:Int)∧jD (-1-(k:Int))=(k:Int):=by
 refine⟨fG (by omega) (by omega),?_⟩;unfold jD;rw[fG (by omega) (by omega)];omega
theorem SQ(E:List V)(v:V):E.idxOf v<(gK E v).length∧(gK E v).getD (E.idxOf v) V0=v:=by
 unfold gK;split
 .rename_i h;have:=a4F.2 h;exact⟨this,by simp[List.getD,a0f this]⟩
 rename_i h;rw[a8L h];exact⟨by simp,by simp[List.getD]⟩
theorem UU{N:List Br}{c:Int}{ks:List Int}(hf:¬(ks.all fun x=>x==ks.getD 0 0)=true):N.idxOf (⟨c,ks⟩:Br)<(qx N c ks).length∧(qx N c ks).getD (N.idxOf (⟨c,ks⟩:Br)) kM=⟨c,ks⟩:=by
 unfold qx;rw[a0o hf];split
 .rename_i h;have:=a4F.2 h;exact⟨this,by simp[List.getD,a0f this]⟩
 rename_i h;rw[a8L h];exact⟨by simp,by simp[List.getD]⟩
def ZR(s r q p:List Int):Prop:=∀k:Nat,k<s.length->(k:Int)∉r->q.getD k 0=p.getD k 0
theorem ZR.set{s r q p:List Int}{c:Int}(hc:gq c s.length)(hp:p.length=s.length)(h:ZR s (c::r) q p):ZR s r q (p.set c.toNat (q.getD c.toNat 0)):=fun k hk hr=>by
 by_cases e:k=c.toNat
 .subst e;have e2:(p.set c.toNat (q.getD c.toNat 0)).getD c.toNat 0=q.getD c.toNat 0:=by
   simp[List.getD,a2l (show c.toNat<p.length by omega)]
  exact e2.symm
 .rw[show(p.set c.toNat (q.getD c.toNat 0)).getD k 0=p.getD k 0 by rw[List.getD,a1q (Ne.symm e)];rfl];exact h k hk (by simp only[a2y,adw];exact⟨fun e2=>e (by omega),hr⟩)
theorem ZR.back{s r q p:List Int}{c j:Int}(hc:gq c s.length)(h:ZR s r q (p.set c.toNat j)):ZR s (c::r) q p:=fun k hk hr=>by
 simp only[a2y,adw]at hr;have hc:=hc.1;have e:k≠c.toNat:=fun e=>hr.1 (by omega);have:=h k hk hr.2;rw[this,List.getD,a1q (Ne.symm e)];rfl
theorem afv{s q p:List Int}(hq:q.length=s.length)(hp:p.length=s.length)(h:ZR s [] q p):q=p:=(oP (d:=(0:Int)) (by omega)).2 fun k hk=>h k (by omega) (by simp)
theorem a3w{ks:List Int}(h:(ks.all fun x=>x==ks.getD 0 0)=true){j:Nat}(hj:j<ks.length):ks.getD j 0=ks.getD 0 0:=by
 rw[a4A]at h;have:=h (ks.getD j 0) (dn hj);simpa using this
theorem ada{s:List Int}{l:List V}(hs:nJ s):∀(r p:List Int) (x:EN),(∀c∈r,gq c s.length)->p.length=s.length->∀d:Dg,d.aK.length<2^61->(iO s l r p x).2.1 <+: d.aK->(iO s l r p x).2.2 <+: d.aj->∀q,jM s q=true->ZR s r q p->To d q (iO s l r p x).1 (l.getD (ji s q).toNat V0)
 | [],p,x,_,hp,d,hd,h1,_,q,hq,ha=>by
  have e:=afv (uH hq) hp ha;subst e;obtain⟨g1,g2⟩:=SQ x.1 (l.getD (ji s q).toNat V0);have h1:gK x.1 (l.getD (ji s q).toNat V0) <+: d.aK:=h1;have aQ:x.1.idxOf (l.getD (ji s q).toNat V0)<2^61:=by have:=h1.length_le;omega
  obtain⟨e1,e2⟩:=Pq aQ;show To d q (i64.wrap (-1-(x.1.idxOf (l.getD (ji s q).toNat V0):Nat))) _;rw[e1];have:=To.fin (d:=d) (q:=q) (r:=-1-((x.1.idxOf (l.getD (ji s q).toNat V0):Nat):Int)) (by omega);rw[e2,a4L,zF h1 g1,g2]at this;exact this
 |c::r,p,x,hr,hp,d,hd,h1,h2,q,hq,ha=>by
  have hc:=hr c (by simp);have hri:∀c'∈r,gq c' s.length:=fun c' h=>hr c' (by simp[h]);have Yp:=(pU.1 hq).2 c.toNat (by have:=hc.1;have:=hc.2;omega);have inv:=dF (g:=BJ (iO s l r) c p) (m:=(s.getD c.toNat 0).toNat) (k:=0) (s:=([],x)) (fun k y=>y.1.length=k∧∀j:Nat,j<k->y.2.1 <+: d.aK->y.2.2 <+: d.aj->∀q,jM s q=true->ZR s r q (p.set c.toNat j)->To d q (y.1.getD j 0) (l.getD (ji s q).toNat V0)) ⟨rfl,fun j hj=>by omega⟩ (fun j y _ hj hy=>by
   obtain⟨y1,y2⟩:=hy;refine⟨by simp[BJ,y1],fun j' DR g1 g2 q hq ha=>?_⟩;have Eu:=Po (s:=s) (l:=l) r (p.set c.toNat j) y.2;by_cases e:j'<j
   .have:(BJ (iO s l r) c p j y).1.getD j' 0=y.1.getD j' 0:=by
     show(y.1++_).getD j' 0=_;simp[List.getD,a0j (show j'<y.1.length by omega)]
    rw[this];exact y2 j' e (Eu.1.trans g1) (Eu.2.trans g2) q hq ha
   have e:j'=j:=(by omega);subst e;have:(BJ (iO s l r) c p j' y).1.getD j' 0=(iO s l r (p.set c.toNat j') y.2).1:=by
    show(y.1++[_]).getD j' 0=_;simp[List.getD,<-y1]
   rw[this];exact ada hs r _ y.2 hri (by simp[hp]) d hd g1 g2 q hq ha)
  rw[a4e]at inv;simp only[iO]at h1 h2 ⊢;generalize aT (BJ (iO s l r) c p) (s.getD c.toNat 0).toNat 0 ([],x)=y at inv h1 h2;obtain⟨ks,E,N⟩:=y;obtain⟨hlen,inv⟩:=inv;have hlen:ks.length=(s.getD c.toNat 0).toNat:=hlen;have h2:qx N c ks <+: d.aj:=h2;have hj:(q.getD c.toNat 0).toNat<(s.getD c.toNat 0).toNat:=by omega
  have YC:((q.getD c.toNat 0).toNat:Int)=q.getD c.toNat 0:=by omega
  have t:=inv (q.getD c.toNat 0).toNat hj h1 ((I9 N c ks).trans h2) q hq (by rw[YC];exact ZR.set hc hp ha);have t:To d q (ks.getD (q.getD c.toNat 0).toNat 0) (l.getD (ji s q).toNat V0):=t;show To d q (FW N c ks) _;by_cases hf:(ks.all fun x=>x==ks.getD 0 0)=true
  .rw[show FW N c ks=ks.getD 0 0 from a0p hf];rw[a3w hf (by omega)]at t;exact t
  rw[show FW N c ks=(N.idxOf (⟨c,ks⟩:Br):Nat)from a0o hf];obtain⟨g1,g2⟩:=UU (N:=N) (c:=c) hf;have en:au d ((N.idxOf (⟨c,ks⟩:Br):Nat):Int)=⟨c,ks⟩:=by
   unfold au;rw[a4L,zF h2 g1,g2]
  refine .step (by omega) ?_;rw[en];exact t
open Go Tw Pv dh
def EC(o:List Int)(N:List Br)(r:Int):Nat:=if r<0 then o.length else o.idxOf (N.getD r.toNat kM).var
def BL(o:List Int)(x:EN)(v:Int)(b a:Nat):Prop:=(v<0->gq (jD v) x.1.length)∧v<(b:Int)∧a<=EC o x.2 v
structure PtV(s o:List Int)(x:EN):Prop where
 var:∀i,i<x.2.length->gq (x.2.getD i kM).var s.length
 ksz:∀i,i<x.2.length->((x.2.getD i kM).ay.length:Int)=s.getD (x.2.getD i kM).var.toNat 0
 zB:∀i,i<x.2.length->∀k,k<(x.2.getD i kM).ay.length->BL o x ((x.2.getD i kM).ay.getD k 0) i (o.idxOf (x.2.getD i kM).var+1)
theorem BL.mono{o:List Int}{x y:EN}{v:Int}{b b' a a':Nat}(h:BL o x v b a)(hp:Pn x y)(hb:b<=b')(hx:b<=x.2.length)(ha:a'<=a):BL o y v b' a':=by
 obtain⟨h1,h2,h3⟩:=h;refine⟨fun hv=>⟨(h1 hv).1,by have:=(h1 hv).2;have:=hp.1.length_le;omega⟩,by omega,?_⟩;unfold EC at h3 ⊢;split
 .rename_i c;rw[a0p c]at h3;omega
 rename_i c;rw[a0o c]at h3;rw[zF hp.2 (by omega)];omega
theorem a7o{s o:List Int}{l:List V}(hs:nJ s)(ho:∀c∈o,gq c s.length)(hn:o.Nodup):∀(r:List Int) (a:Nat) (p:List Int) (x:EN),o.drop a=r->a<=o.length->PtV s o x->(iO s l r p x).2.1.length<2^61->PtV s o (iO s l r p x).2∧BL o (iO s l r p x).2 (iO s l r p x).1 (iO s l r p x).2.2.length a
 | [],a,p,x,hr,ha,hx,hE=>by
  have:a=o.length:=by
   have:=congrArg List.length hr;rw[a4b,a4R]at this;omega
  subst this;obtain⟨g1,g2⟩:=SQ x.1 (l.getD (ji s p).toNat V0);have hE:(gK x.1 (l.getD (ji s p).toNat V0)).length<2^61:=hE;obtain⟨e1,e2⟩:=Pq (k:=x.1.idxOf (l.getD (ji s p).toNat V0)) (by omega);have hp:Pn x (gK x.1 (l.getD (ji s p).toNat V0),x.2):=⟨AL _ _,a4w⟩;refine⟨⟨hx.var,hx.ksz,fun i hi k hk=>(hx.zB i hi k hk).mono hp (a1b _) (a9f hi) (a1b _)⟩,?_⟩;show BL o _ (i64.wrap (-1-(x.1.idxOf (l.getD (ji s p).toNat V0):Nat))) _ _;rw[e1];refine⟨fun _=>by rw[e2];exact⟨by omega,by show _<((gK x.1 (l.getD (ji s p).toNat V0)).length:Int);omega⟩,by omega,?_⟩;unfold EC;rw[a0p (by omega)];exact a1b _
 |c::r,a,p,x,hr,ha,hx,hE=>by
  have aQ:a<o.length:=by
   have:=congrArg List.length hr;rw[a4b,a4i]at this;omega
  have hd:=a6D aQ;rw[hr]at hd;obtain⟨hc,wJ⟩:=List.cons.inj hd;have FQ:c∈o:=by rw[hc];exact a4z aQ
  have qA:=ho c FQ;have hia:o.idxOf c=a:=by rw[hc];exact hn.idxOf_getElem a aQ
  have hz:=hs _ (dn (s:=s) (k:=c.toNat) (by have:=qA.1;have:=qA.2;omega));have mono:=fun(n:Nat) (m:Nat) (y:List Int×EN)=>(dF (g:=BJ (iO s l r) c p) (m:=m) (k:=n) (s:=y) (fun _ z=>Pn y.2 z.2) Pn.rfl (fun j z _ _ hz=>hz.trans (Po r _ z.2)));have hEf:(aT (BJ (iO s l r) c p) (s.getD c.toNat 0).toNat 0 ([],x)).2.1.length<2^61:=hE;have inv:=dF (g:=BJ (iO s l r) c p) (m:=(s.getD c.toNat 0).toNat) (k:=0) (s:=([],x)) (fun k y=>y.1.length=k∧(y.2.1.length<2^61->PtV s o y.2∧∀j:Nat,j<k->BL o y.2 (y.1.getD j 0) y.2.2.length (a+1))) ⟨rfl,fun _=>⟨hx,fun j hj=>by omega⟩⟩ (fun j y _ hj hy=>by
   obtain⟨y1,y2⟩:=hy;refine⟨by simp[BJ,y1],fun hE=>?_⟩;have Eu:=Po (s:=s) (l:=l) r (p.set c.toNat j) y.2;have hE:(iO s l r (p.set c.toNat j) y.2).2.1.length<2^61:=hE;obtain⟨v1,v2⟩:=y2 (by have:=Eu.1.length_le;omega);obtain⟨w1,w2⟩:=a7o hs ho hn r (a+1) (p.set c.toNat j) y.2 wJ.symm aQ v1 hE;refine⟨w1,fun j' DR=>?_⟩;by_cases e:j'<j
   .have:(BJ (iO s l r) c p j y).1.getD j' 0=y.1.getD j' 0:=by
     show(y.1++_).getD j' 0=_;simp[List.getD,a0j (show j'<y.1.length by omega)]
    rw[this];exact(v2 j' e).mono Eu Eu.2.length_le (a1b _) (a1b _)
   have e:j'=j:=(by omega);subst e;have:(BJ (iO s l r) c p j' y).1.getD j' 0=(iO s l r (p.set c.toNat j') y.2).1:=by
    show(y.1++[_]).getD j' 0=_;simp[List.getD,<-y1]
   rw[this];exact w2)
  rw[a4e]at inv;simp only[iO];generalize aT (BJ (iO s l r) c p) (s.getD c.toNat 0).toNat 0 ([],x)=y at inv hEf;obtain⟨ks,E,N⟩:=y;obtain⟨hlen,inv⟩:=inv;obtain⟨i1,i2⟩:=inv hEf;have hlen:ks.length=(s.getD c.toNat 0).toNat:=hlen;have i2:∀j:Nat,j<(s.getD c.toNat 0).toNat->BL o (E,N) (ks.getD j 0) N.length (a+1):=i2;have Eu:Pn (E,N) (E,qx N c ks):=⟨a4w,I9 N c ks⟩;show PtV s o (E,qx N c ks)∧BL o (E,qx N c ks) (FW N c ks) (qx N c ks).length a;by_cases hf:(ks.all fun x=>x==ks.getD 0 0)=true
  .rw[show FW N c ks=ks.getD 0 0 from a0p hf,show qx N c ks=N from a0p hf];exact⟨i1,(i2 0 (by omega)).mono Pn.rfl (a1b _) (a1b _) (by omega)⟩
  obtain⟨g1,g2⟩:=UU (N:=N) (c:=c) hf;rw[show FW N c ks=(N.idxOf (⟨c,ks⟩:Br):Nat)from a0o hf];have KL:a<=EC o (qx N c ks) ((N.idxOf (⟨c,ks⟩:Br):Nat):Int):=by
   unfold EC;rw[a0o (by omega),a4L,g2];show a<=o.idxOf c;omega
  refine⟨?_,⟨fun h=>by omega,by omega,KL⟩⟩;by_cases hm:(⟨c,ks⟩:Br)∈N
  .rw[show qx N c ks=N by unfold qx;rw[a0o hf,a0p hm]];exact i1
  have eN:qx N c ks=N++[⟨c,ks⟩]:=by unfold qx;rw[a0o hf,a0o hm]
  rw[eN]at Eu ⊢;have hold:∀i,i<N.length->(N++[(⟨c,ks⟩:Br)]).getD i kM=N.getD i kM:=fun i hi=>zF (a8N _ _) hi;have fP:(N++[(⟨c,ks⟩:Br)]).getD N.length kM=⟨c,ks⟩:=by simp[List.getD]
  have uY:∀i,i<(N++[(⟨c,ks⟩:Br)]).length->i<N.length∨i=N.length:=fun i hi=>by
   rw[a2j,a4f]at hi;omega
  refine⟨fun i hi=>?_,fun i hi=>?_,fun i hi k hk=>?_⟩
  .show gq ((N++[(⟨c,ks⟩:Br)]).getD i kM).var s.length;rcases uY i hi with h|rfl
   .rw[hold i h];exact i1.var i h
   rw[fP];exact qA
  .show(((N++[(⟨c,ks⟩:Br)]).getD i kM).ay.length:Int)=s.getD ((N++[(⟨c,ks⟩:Br)]).getD i kM).var.toNat 0;rcases uY i hi with h|rfl
   .rw[hold i h];exact i1.ksz i h
   rw[fP];show(ks.length:Int)=s.getD c.toNat 0;omega
  have hk:k<((N++[(⟨c,ks⟩:Br)]).getD i kM).ay.length:=hk;show BL o (E,N++[(⟨c,ks⟩:Br)]) (((N++[(⟨c,ks⟩:Br)]).getD i kM).ay.getD k 0) i (o.idxOf ((N++[(⟨c,ks⟩:Br)]).getD i kM).var+1);rcases uY i hi with h|rfl
  .rw[hold i h]at hk ⊢;exact(i1.zB i h k hk).mono Eu (a1b _) (a9f h) (a1b _)
  rw[fP]at hk ⊢;have hk:k<ks.length:=hk;exact(i2 k (by omega)).mono Eu (a1b _) (a1b _) (by show o.idxOf c+1<=a+1;omega)
open Go Tw Pv dh
theorem MP(d:Dg)(v:Int):tK d v=(EC d.aG d.aj v:Int):=by
 unfold tK EC;by_cases c:v<0
 .rw[a0p (by simpa using c),a0p c]
 rw[a0o (by simpa using c),a0o c];have hs:=a7j (l:=d.aG) (d:=0) (a:=(au d v).var) (c:=OX d v) (fun k _=>by unfold OX;rw[a4H];simp);by_cases hm:(au d v).var∈d.aG
 .rw[hs.1 hm];rfl
 rw[a0p (hs.2 hm),a8L hm]
theorem SS{d:Dg}(hm:d.aK.length<=ah)(hf:(bW d.aA d.aG != 0)=false)(hv:∀v∈d.aK,vOk v=true)(hn:d.aj.length<=6000)(hp:PtV d.aA d.aG (d.aK,d.aj))(hr:BL d.aG (d.aK,d.aj) d.root d.aj.length 0):bD d=0:=by
 obtain⟨bY,Px⟩:=kN.1 (show bW d.aA d.aG=0 by simpa using hf);have ak6:∀(v:Int) (b a:Nat),BL d.aG (d.aK,d.aj) v b a->iJ d v b=true:=fun v b a h=>by
  unfold iJ;split
  .simpa using h.2.1
  rename_i c;have c:v<0:=by simpa using c
  have:=h.1 c;have e:i64.wrap ((d.aK.length:Int)-1)=(d.aK.length:Int)-1:=by unfold ah at hm;rw[fG (by omega) (by omega)]
  rw[vO,e];have h2:=this.2;have h2:jD v<(d.aK.length:Int):=h2;exact⟨this.1,by show jD v<=_;omega⟩
 have hl:lT d=true:=by
  unfold lT;rw[a0p (dK.2 fun j hj=>by
   rw[cLe,hv _ (by simp[List.getD,a0f hj])];rfl),a0p (dK.2 fun i hi=>?_)]
  .exact ak6 _ _ _ hr
  have h1:=hp.var i hi;have h2:=hp.ksz i hi;have h3:=hp.zB i hi;have h1:gq (fA d i).var d.aA.length:=h1;have h2:((fA d i).ay.length:Int)=d.aA.getD (fA d i).var.toNat 0:=h2;have e:xw d.aA=(d.aA.length:Int)-1:=by
   have:=bY.len;unfold xw;rw[fG (by omega) (by omega)]
  unfold ZK;rw[a0o,a0o (by rw[h2];simp),a0p]
  .refine dK.2 fun k hk=>?_;have h4:=h3 k hk;unfold cLk;rw[a0o (by rw[ak6 _ _ _ h4];simp),a3g,MP,MP];have h5:=h4.2.2;have e6:EC d.aG d.aj ((i:Nat):Int)=d.aG.idxOf (fA d i).var:=by unfold EC;rw[a0o (by omega),a4L]
   rw[e6];have h5:d.aG.idxOf (fA d i).var+1<=EC d.aG d.aj ((d.aj.getD i kM).ay.getD k 0):=h5;omega
  have:nX (fA d i).var 0 (xw d.aA)=true:=by rw[vO,e];have:=h1.1;have:=h1.2;exact⟨by omega,by omega⟩
  rw[this];simp
 unfold bD;rw[a0o (by rw[hf];simp),a0o (by rw[a1Q];omega),a0o (by rw[hl];simp)]
structure OfP(s o:List Int)(l:List V):Prop where
 bY:uS s
 ord:jV s.length o=true
 len:(l.length:Int)=bg s
theorem OfP.p{s o:List Int}{l:List V}(h:OfP s o l):PtP s o l∧o.Nodup∧o.length=s.length:=by
 have ho:=h.ord;unfold jV at ho;rw[a1Q]at ho;have:=h.bY.len;exact⟨⟨h.bY,fun c hc=>⟨(ho.2.1 c hc).1,(ho.2.1 c hc).2⟩,h.len,by unfold ah;omega,by unfold ah;omega⟩,ho.2.2,ho.1⟩
theorem XH{s:List Int}{l:List V}:∀(r p:List Int) (x:EN),(∀q,l.getD (ji s q).toNat V0∈l∨True)->(∀q,jM s q=true->l.getD (ji s q).toNat V0∈l)->jM s p=true->(∀c∈r,gq c s.length)->nJ s->(∀v∈x.1,v∈l)->∀v∈(iO s l r p x).2.1,v∈l
 | [],p,x,_,h,hp,_,_,hx,v,hv=>by
  have hv:v∈gK x.1 (l.getD (ji s p).toNat V0):=hv;unfold gK at hv;split at hv
  .exact hx v hv
  rcases a3k.1 hv with hv|hv
  .exact hx v hv
  rw[a2U.1 hv];exact h p hp
 |c::r,p,x,h0,h,hp,hr,hs,hx,v,hv=>by
  have hc:=hr c (by simp);have hz:=hs _ (dn (s:=s) (k:=c.toNat) (by have:=hc.1;have:=hc.2;omega));have:=dF (g:=BJ (iO s l r) c p) (m:=(s.getD c.toNat 0).toNat) (k:=0) (s:=([],x)) (fun _ y=>∀v∈y.2.1,v∈l) hx (fun j y _ hj hy=>XH r _ y.2 h0 h (Xl hp hc ⟨by omega,by omega⟩) (fun c hc=>hr c (by simp[hc])) hs hy);exact this v hv
theorem FY{s o:List Int}{l:List V}(h:OfP s o l)(hv:∀v∈l,vOk v=true):bD (qy s o l)=0∧(qy s o l).aK.length<=2000∧(∀v∈(qy s o l).aK,v∈l)∧PtV s o ((qy s o l).aK,(qy s o l).aj)∧BL o ((qy s o l).aK,(qy s o l).aj) (qy s o l).root (qy s o l).aj.length 0:=by
 obtain⟨hP,hn,ho⟩:=h.p;have hz:=Pm h.bY.sz;have hm:=h.bY.many;have hlen:=ZQ (l:=l) h.bY.sz o (List.replicate s.length 0) ([],[]) hP.ord;have hw:=FX h.bY.sz h.ord;have a2n:∀q,jM s q=true->l.getD (ji s q).toNat V0∈l:=fun q hq=>by
  have:=Dj hq h.bY.sz;have:=h.len;have aQ:(ji s q).toNat<l.length:=by omega
  simp[List.getD,a0f aQ]
 have oK:=XH o (List.replicate s.length 0) ([],[]) (fun _=>.inr trivial) a2n hz hP.ord h.bY.sz (by simp);have Wy:=a7o (l:=l) h.bY.sz hP.ord hn o 0 (List.replicate s.length 0) ([],[]) rfl (a4K _) ⟨fun i hi=>(by simp at hi),fun i hi=>(by simp at hi),fun i hi=>(by simp at hi)⟩ (by have:=hlen.1;simp at this;omega);have h1:(qy s o l).aK.length<=0+wO s o:=hlen.1;have h2:(qy s o l).aj.length+1<=0+wO s o:=hlen.2;refine⟨SS (by unfold ah;omega) ?_ (fun v hv2=>hv v (oK v hv2)) (by omega) Wy.1 Wy.2,by omega,oK,Wy.1,Wy.2⟩;have:bW s o=0:=kN.2 ⟨h.bY,h.ord⟩;show(bW s o != 0)=false;rw[this];rfl
theorem aax{s o:List Int}{l:List V}(h:OfP s o l)(hv:∀v∈l,vOk v=true){q:List Int}(hq:jM s q=true):wW (qy s o l) q=l.getD (ji s q).toNat V0:=by
 obtain⟨hP,hn,ho⟩:=h.p;obtain⟨h1,h2,h3,h4,h5⟩:=FY h hv;have ht:=iW (d:=qy s o l) hP.afu (by unfold ah;omega) (by rw[h1];rfl);have hto:=ada (l:=l) h.bY.sz o (List.replicate s.length 0) ([],[]) hP.ord (by simp) (qy s o l) (by omega) a4w a4w q hq (fun k hk Yr=>by
  exfalso;exact Yr (lW h.ord ⟨by omega,by omega⟩))
 have hr:=ht.1.root;exact(hto.at_ ht.1 hq 6001 (by have:=hr.1;have:=ht.2;show(qy s o l).root<_;omega) hr).symm
theorem Py{s o:List Int}{l:List V}(h:OfP s o l)(hv:∀v∈l,vOk v=true):cellsD (qy s o l)=l:=by
 have hl:=h.len;unfold cellsD;refine a9k (by simp[EY,qy];omega) fun n h1 h2=>?_;have hp:=vX (n:Int) h.bY.sz;simp only[a8T,agU];show wW (qy s o l) (jT s n)=_;rw[aax h hv hp,ML h.bY.sz (by omega) (by omega)];simp[List.getD,a0f h2]
open Go Tw Pv dh
def Kn(d:Dg)(x:Cs)(v:Int):Prop:=if v<0 then pW d v∈x.e else v∈x.k.map (·.1)
def uT(d:Dg)(x:Cs)(v:Int):Int:=if v<0 then i64.wrap (-1-(x.e.idxOf (pW d v):Nat))else UM x.k v
def AO(x y:Cs):Prop:=x.e <+: y.e∧x.n <+: y.n∧x.k <+: y.k
theorem AO.rfl{x:Cs}:AO x x:=⟨a4w,a4w,a4w⟩
theorem AO.trans{x y z:Cs}(a:AO x y)(b:AO y z):AO x z:=⟨a.1.trans b.1,a.2.1.trans b.2.1,a.2.2.trans b.2.2⟩
theorem Kn.mono{d:Dg}{x y:Cs}{v:Int}(h:Kn d x v)(hp:AO x y):Kn d y v:=by
 unfold Kn at h ⊢;split
 .rename_i c;rw[a0p c]at h;exact hp.1.subset h
 rename_i c;rw[a0o c]at h;obtain⟨t,ht⟩:=hp.2.2;rw[<-ht,a4j,a3k];exact .inl h
theorem SV{α:Type}[BEq α][LawfulBEq α]{a b:List α}{v:α}(h:v∈a)(hp:a <+: b):b.idxOf v=a.idxOf v:=by
 obtain⟨t,rfl⟩:=hp;rw[a9E,a0p h]
theorem a1J{a b:List (Int×Int)}{v:Int}(h:v∈a.map (·.1))(hp:a <+: b):UM b v=UM a v:=by
 obtain⟨t,rfl⟩:=hp;unfold UM;rw[List.find?_append];cases e:a.find? fun p=>p.1==v with
 |none=>
  rw[a1l]at h;obtain⟨p,hp,rfl⟩:=h;have:=afn.1 e p hp;simp at this
 |some q=>rfl
theorem SX{d:Dg}{x y:Cs}{v:Int}(h:Kn d x v)(hp:AO x y):uT d y v=uT d x v:=by
 unfold Kn at h;unfold uT;split
 .rename_i c;rw[a0p c]at h;rw[SV h hp.1]
 rename_i c;rw[a0o c]at h;rw[a1J h hp.2.2]
theorem XI{E:List V}{v:V}(h:v∈E):gK E v=E:=a0p h
theorem KN(N:List Br)(c:Int)(ks:List Int):N <+: dw N c ks:=by
 unfold dw;split
 .exact a4w
 split
 .exact a4w
 exact a8N _ _
theorem ZT{N M:List Br}{c:Int}{ks:List Int}(h:dw N c ks=N)(hp:N <+: M):dw M c ks=M∧dZ M c ks=dZ N c ks:=by
 unfold dw at h ⊢;unfold dZ;by_cases hf:(ks.all fun x=>x==ks.getD 0 0)=true
 .rw[a0p hf,a0p hf,a0p hf];exact⟨rfl,rfl⟩
 rw[a0o hf]at h ⊢;rw[a0o hf,a0o hf];by_cases hm:tV c ks∈N.map BN
 .have hp2:N.map BN <+: M.map BN:=by obtain⟨t,rfl⟩:=hp;rw[a4j];exact a8N _ _
  rw[a0p (hp2.subset hm),SV hm hp2];exact⟨rfl,rfl⟩
 rw[a0o hm]at h;have:=congrArg List.length h;simp at this
theorem a3x(N:List Br)(c:Int)(ks:List Int):dw (dw N c ks) c ks=dw N c ks∧dZ (dw N c ks) c ks=dZ N c ks:=by
 unfold dZ;by_cases hf:(ks.all fun x=>x==ks.getD 0 0)=true
 .rw[a0p hf,a0p hf];have:dw N c ks=N:=a0p hf;rw[this,this];exact⟨rfl,rfl⟩
 rw[a0o hf,a0o hf];by_cases hm:tV c ks∈N.map BN
 .have:dw N c ks=N:=by unfold dw;rw[a0o hf,a0p hm]
  rw[this,this];exact⟨rfl,rfl⟩
 have e:dw N c ks=N++[⟨c,ks⟩]:=by unfold dw;rw[a0o hf,a0o hm]
 have hm2:tV c ks∈(N++[(⟨c,ks⟩:Br)]).map BN:=by rw[a4j];simp
 have e2:dw (N++[⟨c,ks⟩]) c ks=N++[⟨c,ks⟩]:=by unfold dw;rw[a0o hf,a0p hm2]
 rw[e,e2];refine⟨rfl,?_⟩;rw[a4j,a9E,a0o hm,a8L hm];simp
abbrev aP(d:Dg)(v:Int):List Int:=(au d v).ay
def XJ(d:Dg)(x:Cs):Prop:=∀v∈x.k.map (·.1),(∀j,j<(aP d v).length->Kn d x ((aP d v).getD j 0))∧dZ x.n (au d v).var ((aP d v).map (uT d x))=UM x.k v∧dw x.n (au d v).var ((aP d v).map (uT d x))=x.n
abbrev BO(d:Dg)(F:Nat)(r:Int)(j:Nat)(y:List Int×Cs):List Int×Cs:=(y.1.set j (bV d F ((aP d r).getD j 0) y.2).1,(bV d F ((aP d r).getD j 0) y.2).2)
theorem a7p{d:Dg}:∀(F:Nat) (r:Int) (x:Cs),AO x (bV d F r x).2
 | 0,_,x=>AO.rfl
 |F+1,r,x=>by
  unfold bV;split
  .exact⟨AL _ _,a4w,a4w⟩
  split
  .exact AO.rfl
  have:=dF (g:=BO d F r) (m:=(aP d r).length) (k:=0) (s:=(List.replicate (aP d r).length 0,x)) (fun _ y=>AO x y.2) AO.rfl (fun j y _ _ hy=>hy.trans (a7p F _ y.2));exact⟨this.1,this.2.1.trans (KN _ _ _),this.2.2.trans (a8N _ _)⟩
theorem MQ{d:Dg}{F:Nat}{v:Int}{x:Cs}(h:Kn d x v):bV d (F+1) v x=(uT d x v,x):=by
 unfold Kn at h;unfold bV uT;by_cases c:v<0
 .rw[a0p (by simpa using c),a0p c];rw[a0p c]at h;rw[XI h]
 rw[a0o c]at h;rw[a0o (by simpa using c),a0p (by simpa using h),a0o c]
theorem Pz{d:Dg}{x y:Cs}{ks:List Int}(h:∀j,j<ks.length->Kn d x (ks.getD j 0))(hp:AO x y):ks.map (uT d y)=ks.map (uT d x):=by
 refine a4P fun v hv=>?_;obtain⟨j,hj,rfl⟩:=a8W hv;have:=h j hj;rw[List.getD,a0f hj]at this;exact SX this hp
theorem XJ.a1K{d:Dg}{x y:Cs}{v:Int}(h:(∀j,j<(aP d v).length->Kn d x ((aP d v).getD j 0))∧dZ x.n (au d v).var ((aP d v).map (uT d x))=UM x.k v∧dw x.n (au d v).var ((aP d v).map (uT d x))=x.n)(hv:v∈x.k.map (·.1))(hp:AO x y):(∀j,j<(aP d v).length->Kn d y ((aP d v).getD j 0))∧dZ y.n (au d v).var ((aP d v).map (uT d y))=UM y.k v∧dw y.n (au d v).var ((aP d v).map (uT d y))=y.n:=by
 obtain⟨h1,h2,h3⟩:=h;rw[Pz h1 hp];obtain⟨g1,g2⟩:=ZT h3 hp.2.1;exact⟨fun j hj=>(h1 j hj).mono hp,by rw[g2,h2,a1J hv hp.2.2],g1⟩
theorem ZU{d:Dg}(h:BH d):∀(F:Nat) (r:Int) (x:Cs),1<=F->r+1<F->jq d r d.aj.length->Dv d x->XJ d x->XJ d (bV d F r x).2∧Kn d (bV d F r x).2 r∧uT d (bV d F r x).2 r=(bV d F r x).1
 | 0,r,x,h1,_,_,_,_=>by omega
 |F+1,r,x,_,hF,hr,hx,hi=>by
  by_cases c:r<0
  .have e:bV d (F+1) r x=(i64.wrap (-1-(x.e.idxOf (pW d r):Nat)),⟨gK x.e (pW d r),x.n,x.k⟩):=by unfold bV;rw[a0p (by simpa using c)]
   rw[e];have hp:AO x ⟨gK x.e (pW d r),x.n,x.k⟩:=⟨AL _ _,a4w,a4w⟩;refine⟨fun v hv=>XJ.a1K (hi v hv) hv hp,?_,?_⟩
   .unfold Kn;rw[a0p c];show pW d r∈gK x.e (pW d r);unfold gK;split
    .assumption
    simp
   unfold uT;rw[a0p c];show i64.wrap (-1-((gK x.e (pW d r)).idxOf (pW d r):Nat))=_;congr 3;unfold gK;split
   .rfl
   rename_i hn;rw[a9E,a0o hn,a8L hn];simp
  by_cases c2:r∈x.k.map (·.1)
  .have hk:Kn d x r:=by unfold Kn;rw[a0o c];exact c2
   rw[MQ hk];exact⟨hi,hk,rfl⟩
  have aQ:r.toNat<d.aj.length:=by have:=hr.1;omega
  have BI:∀k,k<(aP d r).length->(aP d r).getD k 0<r:=fun k kC=>by
   have h9:=(h.zB r.toNat aQ k kC).1;have h9:(aP d r).getD k 0<(r.toNat:Int):=h9;omega
  have KL:∀j,j<(aP d r).length->jq d ((aP d r).getD j 0) d.aj.length:=fun j hj=>⟨by have:=BI j hj;have:=hr.1;omega,(h.zB r.toNat aQ j hj).2⟩;have inv:=dF (g:=BO d F r) (m:=(aP d r).length) (k:=0) (s:=(List.replicate (aP d r).length 0,x)) (fun k y=>(y.1.length=(aP d r).length∧AO x y.2)∧(Dv d y.2∧r∉y.2.k.map (·.1))∧XJ d y.2∧∀j,j<k->Kn d y.2 ((aP d r).getD j 0)∧uT d y.2 ((aP d r).getD j 0)=y.1.getD j 0) ⟨⟨by simp,AO.rfl⟩,⟨hx,c2⟩,hi,fun j hj=>by omega⟩ (fun j y _ hj hy=>by
   obtain⟨⟨y1,y2⟩,⟨y3,y4⟩,y5,y6⟩:=hy;have hj:j<(aP d r).length:=(by omega);have hp:=a7p (d:=d) F ((aP d r).getD j 0) y.2;obtain⟨z1,z2,z3⟩:=ZU h F ((aP d r).getD j 0) y.2 (by omega) (by have:=BI j hj;omega) (KL j hj) y3 y5;refine⟨⟨by simp[BO,y1],y2.trans hp⟩,⟨P8 h F _ y.2 y3 (KL j hj),Xy F _ r y.2 (BI j hj) y4 (by omega) (fun i hi k hk=>(h.zB i hi k hk).1) (fun h5=>⟨h5,(KL j hj).1⟩)⟩,z1,fun j' DR=>?_⟩;by_cases e:j'=j
   .subst e;refine⟨z2,?_⟩;rw[z3];show(bV d F ((aP d r).getD j' 0) y.2).1=(y.1.set j' (bV d F ((aP d r).getD j' 0) y.2).1).getD j' 0;generalize (bV d F ((aP d r).getD j' 0) y.2).1=z;simp[List.getD,a2l (show j'<y.1.length by omega)]
   obtain⟨a1,a2⟩:=y6 j' (by omega);refine⟨a1.mono hp,?_⟩;rw[SX a1 hp,a2];show _=(y.1.set j (bV d F ((aP d r).getD j 0) y.2).1).getD j' 0;generalize (bV d F ((aP d r).getD j 0) y.2).1=z;simp[List.getD,a1q (Ne.symm e)])
  rw[a4e]at inv;have e:bV d (F+1) r x=(dZ (aT (BO d F r) (aP d r).length 0 (List.replicate (aP d r).length 0,x)).2.n (au d r).var (aT (BO d F r) (aP d r).length 0 (List.replicate (aP d r).length 0,x)).1,⟨(aT (BO d F r) (aP d r).length 0 (List.replicate (aP d r).length 0,x)).2.e,dw (aT (BO d F r) (aP d r).length 0 (List.replicate (aP d r).length 0,x)).2.n (au d r).var (aT (BO d F r) (aP d r).length 0 (List.replicate (aP d r).length 0,x)).1,(aT (BO d F r) (aP d r).length 0 (List.replicate (aP d r).length 0,x)).2.k++[(r,dZ (aT (BO d F r) (aP d r).length 0 (List.replicate (aP d r).length 0,x)).2.n (au d r).var (aT (BO d F r) (aP d r).length 0 (List.replicate (aP d r).length 0,x)).1)]⟩):=by
   rw[bV,a0o (by simpa using c),a0o (by simpa using c2)]
  rw[e];generalize aT (BO d F r) (aP d r).length 0 (List.replicate (aP d r).length 0,x)=y at inv;obtain⟨ks,y⟩:=y;obtain⟨⟨y1,y2⟩,⟨y3,y4⟩,y5,y6⟩:=inv;have y1:ks.length=(aP d r).length:=y1;have y4:r∉y.k.map (·.1):=y4;have hp:AO y ⟨y.e,dw y.n (au d r).var ks,y.k++[(r,dZ y.n (au d r).var ks)]⟩:=⟨a4w,KN _ _ _,a8N _ _⟩;have EL:(aP d r).map (uT d y)=ks:=by
   refine a9k (by simp[y1]) fun j j1 j2=>?_;have hj:j<(aP d r).length:=(by omega);have:=(y6 j hj).2;rw[List.getD,List.getD,a0f hj,a0f j2]at this;simpa using this
  have fP:UM (y.k++[(r,dZ y.n (au d r).var ks)]) r=dZ y.n (au d r).var ks:=by
   unfold UM;rw[List.find?_append];have:(y.k.find? fun p=>p.1==r)=none:=afn.2 fun p hp=>by
    simp only[a6H];intro e2;exact y4 (a1l.2 ⟨p,hp,e2⟩)
   rw[this];simp
  obtain⟨g1,g2⟩:=a3x y.n (au d r).var ks;refine⟨fun v hv=>?_,?_,?_⟩
  .have hv:v∈(y.k++[(r,dZ y.n (au d r).var ks)]).map (·.1):=hv;rw[a4j,a3k]at hv;rcases hv with hv|hv
   .exact XJ.a1K (y5 v hv) hv hp
   have hv:v=r:=(by simpa using hv);subst hv;refine⟨fun j hj=>(y6 j hj).1.mono hp,?_,?_⟩
   .rw[Pz (fun j hj=>(y6 j hj).1) hp,EL];show dZ (dw y.n (au d v).var ks) _ ks=UM (y.k++[(v,dZ y.n (au d v).var ks)]) v;rw[g2,fP]
   rw[Pz (fun j hj=>(y6 j hj).1) hp,EL];exact g1
  .unfold Kn;rw[a0o c];show r∈(y.k++[(r,dZ y.n (au d r).var ks)]).map (·.1);simp
  unfold uT;rw[a0o c];exact fP
end Go.Proofs.YtmobpoiejckagaaGreat
