/- Part 5 of a proof: At how many places a diagram has a cell, and the first one, are the document's, or the errors are; for all diagrams and cells. -/
import Derived.Test.YtmobpoiejckagaaGreatP03
set_option linter.constructorNameAsVariable false
set_option linter.unusedVariables false
set_option linter.unusedSimpArgs false
set_option linter.unusedSectionVars false
open Go.IntKind (i64)
noncomputable section
namespace Go.Proofs.YtmobpoiejckagaaGreat
open Go Tw Pv
def abw:eU aF:=bZ 219 (a1 iA) tA (fun p=>Uk p) np (a9p (X:=X0))
theorem ai0:Gd abw:=Good.nil.add fun n hO p hp=>aK hO .rr
def abx:eU aF:=bZ 141 (a1 uA) vA (fun p=>GU p) np abw
theorem ai1:Gd abx:=ai0.add fun n hO p hp=>aK hO .rr
def aby:eU aF:=bZ 140 (a3 iA iA qB) tA (fun p=>vM p.2.2 p.1 p.2.1) (fun p=>[p.2.2.length<=ah]) abx
theorem ai2:Gd aby:=ai1.deep 3 fun n hn hO p hp=>by
 have h1:∀x,aV X0 Qp (bP (n-3+1)) (.fn 182 [] [.ptr 0 0 1,.ptr 1 0 1]) [.int .i64 x] [.cells [.int .i64 p.1],.cells [.int .i64 p.2.1]] (tA.put (sQ x p.1 p.2.1)) [.cells [.int .i64 p.1],.cells [.int .i64 p.2.1]]:=fun x=>iZ fQ (first:=[]) (.ssh (fun _=>.sr) (fun _=>.sr));obtain⟨n,rfl⟩:∃k,n=k+3:=⟨n-3,by omega⟩;rw[show n+3-3+1=n+1 by omega]at h1;have h2:=ahX (n:=n+2) (by omega) (g:=fun x=>sQ x p.1 p.2.1) h1 p.2.2 (hp _ (.head _));exact aK (hO _ (by omega)) (.k h2 (.v (!(lX (fun x=>sQ x p.1 p.2.1) p.2.2)) (by rw[DF];rfl)))
theorem nan(x:Int):Uk x=false:=by simp[Uk]
def abz:eU aF:=bZ 154 (a1 vA) tA (fun p=>wF p) np aby
theorem ai3:Gd abz:=ai2.add fun n hO p hp=>aK hO (.ss (.o le1 .rr) (.ss .rr .rr))
def abA:eU aF:=bZ 100 (a1 iA) vA (fun p=>og p) np abz
theorem ai4:Gd abA:=ai3.add fun n hO p hp=>aK hO (.o le1 (.ss .rr .rr))
def abB:eU aF:=bZ 186 (a1 tA) vA (fun p=>Og p) np abA
theorem ai5:Gd abB:=ai4.add fun n hO p hp=>aK hO (.ss .rr .rr)
def abC:eU aF:=bZ 156 (a1 vA) tA (fun p=>nJ p) np abB
theorem ai6:Gd abC:=ai5.add fun n hO p hp=>aK hO .rr
def abD:eU aF:=bZ 153 (a1 vA) tA (fun p=>Ag p) np abC
theorem ai7:Gd abD:=ai6.add fun n hO p hp=>aK hO .rr
def abE:eU aF:=bZ 142 (a2 iA iA) vA (fun p=>IK p.1 p.2) np abD
theorem ai8:Gd abE:=ai7.add fun n hO p hp=>aK hO .rr
def abG:eU aF:=bZ 143 (a2 iA iA) vA (fun p=>IL p.1 p.2) np abE
theorem ai9:Gd abG:=ai8.add fun n hO p hp=>aK hO .rr
def abH:eU aF:=bZ 144 (a2 iA iA) vA (fun p=>IQ p.1 p.2) np abG
theorem aia:Gd abH:=ai9.add fun n hO p hp=>aK hO .rr
def abI:eU aF:=bZ 146 (a2 iA iA) iA (fun p=>CS p.1 p.2) np abH
theorem aib:Gd abI:=aia.add fun n hO p hp=>aK hO .rr
def abJ:eU aF:=bZ 147 (a2 iA iA) iA (fun p=>CU p.1 p.2) np abI
theorem aic:Gd abJ:=aib.add fun n hO p hp=>aK hO .rr
def abK:eU aF:=bZ 149 (a1 iA) tA (fun p=>CV p) np abJ
theorem aie:Gd abK:=aic.add fun n hO p hp=>aK hO .rr
def abL:eU aF:=bZ 150 (a1 iA) tA (fun p=>CW p) np abK
theorem aif:Gd abL:=aie.add fun n hO p hp=>aK hO .rr
def abM:eU aF:=bZ 151 (a1 iA) tA (fun p=>CX p) np abL
theorem aii:Gd abM:=aif.add fun n hO p hp=>aK hO .rr
def abN:eU aF:=bZ 184 (a2 iA iA) (dK (a2 iA iA)) (fun p=>uw p.1 p.2) (fun p=>[p.2≠0]) abM
theorem aij:Gd abN:=aii.add fun n hO p hp=>aK hO (.o (hp _ (.head _)) (.o (hp _ (.head _)) (.ss (.ss .rr .rr) .rr)))
def abO:eU aF:=bZ 187 (a2 iA iA) iA (fun p=>IJ p.1 p.2) np abN
theorem aik:Gd abO:=aij.add fun n hO p hp=>aK hO (.b (nan p.1) (.b (nan p.2) (.ss .rr (.ss .rr .rr))))
theorem anN{n:Nat}{fH:eU aF}(hO:Ok n fH)(ho:∀x:V,fH 156 [.agg x.ps]=some (.bool (nJ x),[],[]))(H:List (PB aF))(x:V):aV X0 Qp (bP n) (.fn 156 [] []) [.agg x.ps] H (.bool (nJ x)) H:=
 LD hX hO (first:=[]) (cap:=[]) (vs:=[.agg x.ps]) (v:=.bool (nJ x)) rfl (ho x) (fun p h=>by cases h) rfl
theorem anO{n:Nat}{fH:eU aF}(hO:Ok n fH)(ho:∀x:V,fH 153 [.agg x.ps]=some (.bool (Ag x),[],[]))(H:List (PB aF))(x:V):aV X0 Qp (bP n) (.fn 153 [] []) [.agg x.ps] H (.bool (Ag x)) H:=
 LD hX hO (first:=[]) (cap:=[]) (vs:=[.agg x.ps]) (v:=.bool (Ag x)) rfl (ho x) (fun p h=>by cases h) rfl
def abP:eU aF:=bZ 103 (a1 vsA) (dK (a2 vA tA)) (fun p=>bM p) (fun p=>[p.length<=ah]) abO
theorem ail:Gd abP:=aik.deep 2 fun n hn hO p hp=>by
 have hs:=ahZ (n:=n-1) (H:=[]) (g:=fun v=>nJ v) (anN (hO (n-1) (by omega)) (fun _=>rfl) []) p (hp _ (.head _));rw[show n-1+1=n by omega]at hs;exact aK (hO n (by omega)) (.k hs (.sh (fun h=>.rr) (fun h=>.o (show gW (iC (fun v=>nJ v) p) p.length from⟨by simpa using h,Q9 _ _⟩) .rr)))
def abQ:eU aF:=bZ 102 (a1 vsA) tA (fun p=>gX p) (fun p=>[p.length<=ah]) abP
theorem ain:Gd abQ:=ail.deep 3 fun n hn hO p hp=>by
 have hs:=aep (n:=n-1) (by omega) (H:=[]) (g:=fun v=>Ag v) (anO (hO (n-2) (by omega)) (fun _=>rfl) []) p (hp _ (.head _));rw[show n-1+1=n by omega]at hs;exact aK (hO n (by omega)) (.k hs (.v (!(pO (fun v=>Ag v) p)) (by rw[II];rfl)))
def aio:eU aF:=bZ 99 (a3 vA vA vA) (dK (a2 vA iA)) (fun p=>jr p.1 p.2.1 p.2.2) np abQ
theorem anQ:Gd aio:=ain.add fun n hO p hp=>aK hO (.o le3 (.ss .rr (.ss .rr (.ss .rr .rr))))
def aip:Arg Nat where
 put f:=.fn f [] []
 get v:=match v with
  |.fn g [] []=>some g
  |_=>none
 ok:=by
  intro v a hg A m h x hv;split at hg
  .cases hg;exact hv
  .cases hg
def abR:eU aF:=Z8 145 (a1 aip) (fun _=>.fn 183 [] [.ptr 0 0 1]) (fun g=>[.cells [.fn g [] []]]) np aio
theorem aiq:Gd abR:=anQ.WB 0 fun n _ hO p hp=>Bd hX (hO n (by omega)) (by kernel_rfl) .er
def abS:eU aF:=Z8 148 (a1 aip) (fun _=>.fn 185 [] [.ptr 0 0 1]) (fun g=>[.cells [.fn g [] []]]) np abR
theorem air:Gd abS:=aiq.WB 0 fun n _ hO p hp=>Bd hX (hO n (by omega)) (by kernel_rfl) .er
def anR(p:Int):PV aF:=if p=7 then .fn 142 [] []else if p=8 then .fn 143 [] []else if p=9 then .fn 144 [] []else if p=10 then .fn 183 [] [.ptr 0 0 1]else if p=11 then .fn 183 [] [.ptr 0 0 1]else .fn 185 [] [.ptr 0 0 1]
def anS(p:Int):List (PB aF):=if p=10 then [.cells [.fn 146 [] []]]else if p=11 then [.cells [.fn 147 [] []]]else if p=12 then [.cells [.fn 149 [] []]]else if p=13 then [.cells [.fn 150 [] []]]else if p=14 then [.cells [.fn 151 [] []]]else []
def Ox:eU aF:=Z8 101 (a1 uA) anR anS (fun p=>[7<=p∧p<=14]) abS
theorem seven{p:Int}(h:7<=p∧p<=14):p=7∨p=8∨p=9∨p=10∨p=11∨p=12∨p=13∨p=14:=by omega
theorem ais:Gd Ox:=air.WB 0 fun n _ hO p hp=>by
 rcases seven (hp _ (.head _))with rfl|rfl|rfl|rfl|rfl|rfl|rfl|rfl
 .exact Bd hX (hO n (by omega)) (by kernel_rfl) (.b (rfl:true=true) .er)
 .exact Bd hX (hO n (by omega)) (by kernel_rfl) (.b (rfl:false=false) (.b (rfl:true=true) .er))
 .exact Bd hX (hO n (by omega)) (by kernel_rfl) (.b (rfl:false=false) (.b (rfl:false=false) (.b (rfl:true=true) .er)))
 .exact Bd hX (hO n (by omega)) (by kernel_rfl) (.b (rfl:false=false) (.b (rfl:false=false) (.b (rfl:false=false) (.b (rfl:true=true) .er))))
 .exact Bd hX (hO n (by omega)) (by kernel_rfl) (.b (rfl:false=false) (.b (rfl:false=false) (.b (rfl:false=false) (.b (rfl:false=false) (.b (rfl:true=true) .er)))))
 .exact Bd hX (hO n (by omega)) (by kernel_rfl) (.b (rfl:false=false) (.b (rfl:false=false) (.b (rfl:false=false) (.b (rfl:false=false) (.b (rfl:false=false) (.b (rfl:true=true) .er))))))
 .exact Bd hX (hO n (by omega)) (by kernel_rfl) (.b (rfl:false=false) (.b (rfl:false=false) (.b (rfl:false=false) (.b (rfl:false=false) (.b (rfl:false=false) (.b (rfl:false=false) (.b (rfl:true=true) .er)))))))
 .exact Bd hX (hO n (by omega)) (by kernel_rfl) (.b (rfl:false=false) (.b (rfl:false=false) (.b (rfl:false=false) (.b (rfl:false=false) (.b (rfl:false=false) (.b (rfl:false=false) (.b (rfl:false=false) (.b (rfl:true=true) .er))))))))
theorem a9y{n:Nat}(hO:Ok n Ox)(a b:V)(x y:Int):aV X0 Qp (bP (n+1)) (.fn 183 [] [.ptr 0 0 1]) [.int .i64 x,.int .i64 y] [.cells [.fn 146 [] []],.list true true 39 [a,b],.list true true 39 [a,b]] (vA.put (iD CS x y)) [.cells [.fn 146 [] []],.list true true 39 [a,b],.list true true 39 [a,b]]:=
 iZ hO (first:=[]) (.ssh (fun _=>.sr) (fun h=>.o (show y≠0 by simpa using h) .sr))
theorem a9z{n:Nat}(hO:Ok n Ox)(a b:V)(x y:Int):aV X0 Qp (bP (n+1)) (.fn 183 [] [.ptr 0 0 1]) [.int .i64 x,.int .i64 y] [.cells [.fn 147 [] []],.list true true 39 [a,b],.list true true 39 [a,b]] (vA.put (iD CU x y)) [.cells [.fn 147 [] []],.list true true 39 [a,b],.list true true 39 [a,b]]:=
 iZ hO (first:=[]) (.ssh (fun _=>.sr) (fun h=>.o (show y≠0 by simpa using h) .sr))
theorem a9A{n:Nat}(hO:Ok n Ox)(a b:V)(x y:Int):aV X0 Qp (bP (n+1)) (.fn 185 [] [.ptr 0 0 1]) [.int .i64 x,.int .i64 y] [.cells [.fn 149 [] []],.list true true 39 [a,b],.list true true 39 [a,b]] (vA.put (dP CV x y)) [.cells [.fn 149 [] []],.list true true 39 [a,b],.list true true 39 [a,b]]:=
 iZ hO (first:=[]) .sr
theorem a9B{n:Nat}(hO:Ok n Ox)(a b:V)(x y:Int):aV X0 Qp (bP (n+1)) (.fn 185 [] [.ptr 0 0 1]) [.int .i64 x,.int .i64 y] [.cells [.fn 150 [] []],.list true true 39 [a,b],.list true true 39 [a,b]] (vA.put (dP CW x y)) [.cells [.fn 150 [] []],.list true true 39 [a,b],.list true true 39 [a,b]]:=
 iZ hO (first:=[]) .sr
theorem a9C{n:Nat}(hO:Ok n Ox)(a b:V)(x y:Int):aV X0 Qp (bP (n+1)) (.fn 185 [] [.ptr 0 0 1]) [.int .i64 x,.int .i64 y] [.cells [.fn 151 [] []],.list true true 39 [a,b],.list true true 39 [a,b]] (vA.put (dP CX x y)) [.cells [.fn 151 [] []],.list true true 39 [a,b],.list true true 39 [a,b]]:=
 iZ hO (first:=[]) .sr
def ait:eU aF:=bZ 45 (a3 uA vA vA) (dK (a2 vA iA)) (fun p=>GV p.1 p.2.1 p.2.2) (fun p=>[7<=p.1∧p.1<=16]) Ox
theorem anT:Gd ait:=ais.deep 1 fun n hn hO p hp=>by
 obtain⟨n,rfl⟩:∃k,n=k+1:=⟨n-1,by omega⟩;have Ai:=hO n (by omega);have hO:=hO (n+1) (by omega);obtain⟨k,a,b⟩:=p;rcases nine (show 7<=k∧k<=16 from hp _ (.head _))with rfl|rfl|rfl|rfl|rfl|rfl|rfl|rfl|rfl|rfl
 .have:nR X0 Qp (bP (n+1+1)) 45 ((a3 uA vA vA).put (7,a,b)) ((dK (a2 vA iA)).put (qY a b)) []:=aK hO (.b (rfl:false=false) (.b (rfl:false=false) (.o (by decide:(7:Int)<=7∧(7:Int)<=14) (.b (rfl:false=false) (.o Y1 (.ss .rr (.o Y1 (.ss .rr .rr))))))));exact this
 .have:nR X0 Qp (bP (n+1+1)) 45 ((a3 uA vA vA).put (8,a,b)) ((dK (a2 vA iA)).put (qZ a b)) []:=aK hO (.b (rfl:false=false) (.b (rfl:false=false) (.o (by decide:(7:Int)<=8∧(8:Int)<=14) (.b (rfl:false=false) (.o Y1 (.ss .rr (.o Y1 (.ss .rr .rr))))))));exact this
 .have:nR X0 Qp (bP (n+1+1)) 45 ((a3 uA vA vA).put (9,a,b)) ((dK (a2 vA iA)).put (ru a b)) []:=aK hO (.b (rfl:false=false) (.b (rfl:false=false) (.o (by decide:(7:Int)<=9∧(9:Int)<=14) (.b (rfl:false=false) (.o Y1 (.ss .rr (.o Y1 (.ss .rr .rr))))))));exact this
 .have:nR X0 Qp (bP (n+1+1)) 45 ((a3 uA vA vA).put (10,a,b)) ((dK (a2 vA iA)).put (oh a b)) []:=aK hO (.b (rfl:false=false) (.b (rfl:false=false) (.o (by decide:(7:Int)<=10∧(10:Int)<=14) (.b (rfl:false=false) (.o Y1 (.ss .rr (.o Y1 (.ss .rr (.k (a9y Ai a b a.n b.n) .rr)))))))));exact this
 .have:nR X0 Qp (bP (n+1+1)) 45 ((a3 uA vA vA).put (11,a,b)) ((dK (a2 vA iA)).put (oq a b)) []:=aK hO (.b (rfl:false=false) (.b (rfl:false=false) (.o (by decide:(7:Int)<=11∧(11:Int)<=14) (.b (rfl:false=false) (.o Y1 (.ss .rr (.o Y1 (.ss .rr (.k (a9z Ai a b a.n b.n) .rr)))))))));exact this
 .have:nR X0 Qp (bP (n+1+1)) 45 ((a3 uA vA vA).put (12,a,b)) ((dK (a2 vA iA)).put (oz a b)) []:=aK hO (.b (rfl:false=false) (.b (rfl:false=false) (.o (by decide:(7:Int)<=12∧(12:Int)<=14) (.b (rfl:false=false) (.o Y1 (.ss .rr (.o Y1 (.ss .rr (.k (a9A Ai a b a.n b.n) .rr)))))))));exact this
 .have:nR X0 Qp (bP (n+1+1)) 45 ((a3 uA vA vA).put (13,a,b)) ((dK (a2 vA iA)).put (oC a b)) []:=aK hO (.b (rfl:false=false) (.b (rfl:false=false) (.o (by decide:(7:Int)<=13∧(13:Int)<=14) (.b (rfl:false=false) (.o Y1 (.ss .rr (.o Y1 (.ss .rr (.k (a9B Ai a b a.n b.n) .rr)))))))));exact this
 .have:nR X0 Qp (bP (n+1+1)) 45 ((a3 uA vA vA).put (14,a,b)) ((dK (a2 vA iA)).put (oD a b)) []:=aK hO (.b (rfl:false=false) (.b (rfl:false=false) (.o (by decide:(7:Int)<=14∧(14:Int)<=14) (.b (rfl:false=false) (.o Y1 (.ss .rr (.o Y1 (.ss .rr (.k (a9C Ai a b a.n b.n) .rr)))))))));exact this
 .have:nR X0 Qp (bP (n+1+1)) 45 ((a3 uA vA vA).put (15,a,b)) ((dK (a2 vA iA)).put (sS a b)) []:=aK hO (.b (rfl:true=true) .rr);exact this
 .have:nR X0 Qp (bP (n+1+1)) 45 ((a3 uA vA vA).put (16,a,b)) ((dK (a2 vA iA)).put (sU a b)) []:=aK hO (.b (rfl:false=false) (.b (rfl:true=true) .rr));exact this
open Go Tw Pv cO
def aiu:eU aF:=bZ 23 (a3 iA iA iA) tA (fun p=>mQ p.1 p.2.1 p.2.2) np ait
theorem anU:Gd aiu:=anT.add fun n hO p hp=>aK hO (.ss .rr .rr)
abbrev JL(a b:List Int)(k:Nat):Bool:=a.getD k 0 != b.getD k 0
abbrev w32(a b:List Int)(i:Int)(x:List (Nat×PE aF)):aS aF:=⟨[(0,xL 3 a),(1,xL 3 b),(5,xi i)]++x,[],[]⟩
def z32(a b:List Int):Unit⊕Nat->Ex×aS aF
 |.inl _=>(.exit 0,w32 a b a.length [(14,xl false)])
 |.inr _=>(.ret,⟨[(4,xl false)],[],[]⟩)
theorem l32{n:Nat}{fH:eU aF}(hO:Ok n fH)(a b:List Int)(hl:a.length<=ah)(h:a.length=b.length):Lp n 32 0 (w32 a b 0 []) (z32 a b (bG (JL a b) a.length)).1 (z32 a b (bG (JL a b) a.length)).2:=
 Om (st:=fun i _=>w32 a b i []) (fun _ _=>True) (by kernel_rfl) hl Qb trivial (fun k s n hk _ ih=>aN hO (.b (bC hk) (.o (aH hk) (.o (aH (h▸hk)) (.ls (.ou nofun) (.nx (ih _ trivial))))))) (fun s _=>aN hO (.b (fD a.length) (.ou nofun)))
theorem DL{a b:List Int}(h:a.length=b.length):jU (bG (JL a b) a.length)=decide (a=b):=by
 rw[a4g,dQ,a1T,rC (d:=0) h];simp[JL]
theorem a5X{a b:List Int}(h:((a.length:Int) != (b.length:Int))=true):decide (a=b)=false:=by
 rw[a3t];rintro rfl;simp at h
theorem kX{α β:Type}{a:List α}{b:List β}(h:((a.length:Int) != (b.length:Int))=false):a.length=b.length:=by simp at h;omega
def aiv:eU aF:=bZ 32 (a2 qB qB) tA (fun p=>decide (p.1=p.2)) (fun p=>[p.1.length<=ah]) aiu
theorem anX:Gd aiv:=anU.add fun n hO p hp=>aK hO (.s (fun h=>.v false (a5X h).symm) fun h=>.z (c:=jU (bG (JL p.1 p.2) p.1.length)) (fun h2=>.w (jV (l32 hO p.1 p.2 (hp _ (.head _)) (kX h)) () h2) (.v true (by rw[<-DL (kX h),h2]))) fun h2=>.w (jW (l32 hO p.1 p.2 (hp _ (.head _)) (kX h)) 0 h2) (.v false (by rw[<-DL (kX h),h2])))
abbrev a9D(a:List Int)(n i:Int)(x:List (Nat×PE aF)):aS aF:=⟨[(0,xL 3 a),(5,xi n),(6,xi i)]++x,[],[]⟩
theorem anY{n:Nat}{fH:eU aF}(hO:Ok n fH)(a:List Int)(hl:a.length<=ah):Lp n 104 0 (a9D a 1 0 []) (.exit 0) (a9D a (Ez a) a.length [(11,xl false)]):=
 JJ (st:=fun i n=>a9D a n i []) (fin:=fun n=>a9D a n a.length [(11,xl false)]) (fun _ _=>True) (by kernel_rfl) hl Qb trivial (fun _ _ _ _=>trivial) (fun k s hk _ n e p h=>aN hO (.b (bC hk) (.o (aH hk) (.go h)))) (fun s _=>aN hO (.b (fD a.length) .ex))
def abT:eU aF:=bZ 104 (a2 qB iA) iA (fun p=>Ez p.1) (fun p=>[p.1.length<=ah,p.2=0]) aiv
theorem aiw:Gd abT:=anX.add fun n hO p hp=>by
 obtain⟨a,k⟩:=p;have h0:k=0:=hp _ (.tail _ (.head _));subst h0;exact aK hO (.w (anY hO a (hp _ (.head _))) .rr)
def aer:eU aF:=bZ 49 (a1 qB) iA (fun p=>Ez p) (fun p=>[p.length<=ah]) abT
theorem anZ:Gd aer:=aiw.add fun n hO p hp=>aK hO (.o (hp _ (.head _)) (.o (rfl:(0:Int)=0) .rr))
abbrev JM(b:List Int)(k j:Nat):Bool:=b.getD j 0==b.getD k 0
abbrev a2E(a b:List Int)(i:Int)(x:List (Nat×PE aF)):aS aF:=⟨[(0,xL 3 a),(1,xL 3 b),(5,xi i)]++x,[],[]⟩
def abU(a b:List Int)(k:Int)(i:Int):Unit⊕Nat->Ex×aS aF
 |.inl _=>(.exit 2,a2E a b k [(6,xi i),(29,xl false)])
 |.inr _=>(.ret,⟨[(4,xl false)],[],[]⟩)
theorem abV{n:Nat}{fH:eU aF}(hO:Ok n fH)(a b:List Int)(k:Nat)(hl:k<=ah)(h:k<b.length):Lp n 109 1 (a2E a b k [(6,xi 0)]) (abU a b k k (bG (JM b k) k)).1 (abU a b k k (bG (JM b k) k)).2:=
 Om (st:=fun i _=>a2E a b k [(6,xi i)]) (fun _ _=>True) (by kernel_rfl) hl Qb trivial (fun j s n hk _ ih=>aN hO (.b (bC hk) (.o (aH (show j<b.length by omega)) (.o (aH h) (.ls (.ou nofun) (.nx (ih _ trivial))))))) (fun s _=>aN hO (.b (fD k) (.ou nofun)))
abbrev Za(m:Int)(b:List Int)(k:Nat):Bool:=if(!(mQ (b.getD k 0) 0 m))=true then true else if jU (bG (JM b k) k)=true then false else true
def z109(a b:List Int):Unit⊕Nat->Ex×aS aF
 |.inl _=>(.exit 0,a2E a b b.length [(15,xl false)])
 |.inr _=>(.ret,⟨[(4,xl false)],[],[]⟩)
abbrev xw(s:List Int):Int:=i64.wrap ((s.length:Int)-1)
theorem aix{n:Nat}(hO:Ok n aer)(a b:List Int)(hl:b.length<=ah):Lp n 109 0 (a2E a b 0 []) (z109 a b (bG (Za (xw a) b) b.length)).1 (z109 a b (bG (Za (xw a) b) b.length)).2:=
 Om (st:=fun i _=>a2E a b i []) (fun _ _=>True) (by kernel_rfl) hl Qb trivial (fun k s n hk _ ih=>by
  unfold gS Za;cases h1:(!(mQ (b.getD k 0) 0 (xw a)))
  .cases h2:jU (bG (JM b k) k)
   .exact aN hO (.b (bC hk) (.o (aH hk) (.b h1 (.w (jW (abV hO a b k (by omega) hk) 0 h2) (.ou nofun)))))
   .exact aN hO (.b (bC hk) (.o (aH hk) (.b h1 (.w (jV (abV hO a b k (by omega) hk) () h2) (.nx (ih _ trivial))))))
  .exact aN hO (.b (bC hk) (.o (aH hk) (.b h1 (.ou nofun))))
  ) (fun s _=>aN hO (.b (fD b.length) (.ou nofun)))
theorem a5Y{s:List Int}(h:s.length<=ah):xw s=(s.length:Int)-1:=by unfold xw;unfold ah at h;exact fF (by omega) (by omega)
theorem vw{k lo hi:Int}:mQ k lo hi=true↔lo<=k∧k<=hi:=by
 unfold mQ;split
 .rename_i h;simp at h ⊢;omega
 rename_i h;simp at h ⊢;omega
theorem WU{a b:List Int}(ha:a.length<=ah)(h:b.length=a.length):jU (bG (Za (xw a) b) b.length)=jX a.length b:=by
 rw[a4g,dQ,jX,a1T];have e1:(∀j,j<b.length->Za (xw a) b j=false)↔(∀j,j<b.length->(0<=b.getD j 0∧b.getD j 0<a.length)∧∀i,i<j->b.getD i 0≠b.getD j 0):=by
  refine abq fun j=>abq fun hj=>?_;unfold Za;rw[a5Y ha];cases h1:mQ (b.getD j 0) 0 ((a.length:Int)-1)
  .simp only[ab3,a2D,afm,false_iff];intro h2;have:mQ (b.getD j 0) 0 ((a.length:Int)-1)=true:=by
    rw[vw];omega
   rw[h1]at this;cases this
  have h3:0<=b.getD j 0∧b.getD j 0<a.length:=by
   rw[vw]at h1;omega
  simp only[a8q,a2H,a3x,h3,acG,true_and];cases h2:jU (bG (JM b j) j)
  .simp only[a2H,a3x,afm,false_iff];intro h4;have:jU (bG (JM b j) j)=true:=dQ.2 fun i hi=>(by simpa[JM]using h4 i hi);rw[h2]at this;cases this
  simp only[a2D,true_iff];intro i hi;have:=dQ.1 h2 i hi;simpa[JM]using this
 rw[e1];constructor
 .intro hq;refine⟨h,(Ol (d:=0)).1 fun j hj=>(hq j hj).1,?_⟩;rw[abr,ac6];intro i j hi hj zS;have:=(hq j hj).2 i zS;simpa[List.getD,a0E hi,a0E hj]using this
 rintro⟨_,h2,h3⟩ j hj;refine⟨(Ol (d:=0)).2 h2 j hj,fun i hi=>?_⟩;rw[abr,ac6]at h3;have:=h3 i j (by omega) hj hi;simpa[List.getD,a0E (show i<b.length by omega),a0E hj]using this
theorem a9E{a b:List Int}(h:((b.length:Int) != (a.length:Int))=true):jX a.length b=false:=by
 unfold jX;rw[a3t];rintro⟨h1,_⟩;rw[h1]at h;simp at h
def a5Z:eU aF:=bZ 109 (a2 qB qB) tA (fun p=>jX p.1.length p.2) (fun p=>[p.1.length<=ah,p.2.length<=ah]) aer
theorem aiy:Gd a5Z:=anZ.add fun n hO p hp=>aK hO (.s (fun h=>.v false (a9E h).symm) fun h=>.z (c:=jU (bG (Za (xw p.1) p.2) p.2.length)) (fun h2=>.w (jV (aix hO p.1 p.2 (hp _ (.tail _ (.head _)))) () h2) (.v true (by rw[<-WU (hp _ (.head _)) (kX h),h2]))) fun h2=>.w (jW (aix hO p.1 p.2 (hp _ (.tail _ (.head _)))) 0 h2) (.v false (by rw[<-WU (hp _ (.head _)) (kX h),h2])))
abbrev cSz(a:List Int)(k:Nat):Bool:=!(mQ (a.getD k 0) 1 12)
theorem a9F{a:List Int}:jU (bG (cSz a) a.length)=decide (oG a):=by
 rw[a4g,dQ,a1T,oG,<-Ol (d:=0)];refine abq fun j=>abq fun hj=>?_;simp only[cSz,ad4,vw]
abbrev w58(a b:List Int)(i:Int)(x:List (Nat×PE aF)):aS aF:=⟨[(0,xL 3 a),(1,xL 3 b),(5,xi i)]++x,[],[]⟩
def z58(a b:List Int):Unit⊕Nat->Ex×aS aF
 |.inl _=>(.exit 0,w58 a b a.length [(12,xl false)])
 |.inr _=>(.ret,⟨[(4,xi 3)],[],[]⟩)
theorem l58{n:Nat}(hO:Ok n a5Z)(a b:List Int)(hl:a.length<=ah):Lp n 58 0 (w58 a b 0 []) (z58 a b (bG (cSz a) a.length)).1 (z58 a b (bG (cSz a) a.length)).2:=
 Om (st:=fun i _=>w58 a b i []) (fun _ _=>True) (by kernel_rfl) hl Qb trivial (fun k s n hk _ ih=>aN hO (.b (bC hk) (.o (aH hk) (.ls (.ou nofun) (.nx (ih _ trivial)))))) (fun s _=>aN hO (.b (fD a.length) (.ou nofun)))
def cZ(s o:List Int):Int:=if decide ((s.length:Int)>6)=true then 5 else if jU (bG (cSz s) s.length)=true then(if decide (Ez s>2000)=true then 5 else if(!(jX s.length o))=true then 4 else 0)else 3
theorem a9G{s:List Int}(h:decide ((s.length:Int)>6)=false):s.length<=6:=by simp at h;omega
theorem a0O{k:Nat}(h:k<=6):k<=ah:=by unfold ah;omega
def aiA:eU aF:=bZ 58 (a2 qB qB) iA (fun p=>cZ p.1 p.2) (fun p=>[p.2.length<=ah]) a5Z
theorem ao1:Gd aiA:=aiy.add fun n hO p hp=>aK hO (.sh (fun _=>.rr) fun h=>.zh (fun h2=>.w (jV (l58 hO p.1 p.2 (a0O (a9G h))) () h2) (.o (a0O (a9G h)) (.o (rfl:(0:Int)=0) (.ss .rr (.o (a0O (a9G h)) (.o (hp _ (.head _)) (.ss .rr .rr))))))) fun h2=>.w (jW (l58 hO p.1 p.2 (a0O (a9G h))) 0 h2) .rr)
theorem Oy(s o:List Int):cZ s o=if 6<s.length then 5 else if oG s then(if 2000<bf s then 5 else if jX s.length o=true then 0 else 4)else 3:=by
 unfold cZ;rw[a9F];by_cases h1:6<s.length
 .rw[a0V h1,a0V (by simp;omega)]
 rw[a0S h1,a0S (by simp;omega)];by_cases h2:oG s
 .rw[a0V (by simpa using h2),a0V h2,WM h2];by_cases h3:2000<bf s
  .rw[a0V h3,a0V (by simp;omega)]
  rw[a0S h3,a0S (by simp;omega)];cases jX s.length o<;>simp
 rw[a0S (by simpa using h2),a0S h2]
theorem lU{s o:List Int}:cZ s o=0↔wH s∧jX s.length o=true:=by
 rw[Oy];constructor
 .intro h;split at h
  .cases h
  split at h
  .split at h
   .cases h
   split at h
   .exact⟨⟨by omega,by assumption,by omega⟩,by assumption⟩
   cases h
  cases h
 rintro⟨⟨h1,h2,h3⟩,h4⟩;rw[a0S (by omega),a0V h2,a0S (by omega),a0V h4]
abbrev w53(a:List Int)(i:Int)(s:Int×List Int)(x:List (Nat×PE aF)):aS aF:=⟨[(0,xL 3 a),(1,xi s.1),(5,xo 0),(6,xi i)]++x,[],[.list true true 3 s.2]⟩
theorem szk{a:List Int}(hs:oG a){k:Nat}(hk:k<a.length):a.getD k 0≠0:=by have:=hs _ (dZ hk);omega
theorem aes(k:Nat):decide ((k:Int)>=0)=true:=by simp
theorem l53{n:Nat}{fH:eU aF}(hO:Ok n fH)(a:List Int)(m:Int)(hl:a.length<=ah)(hs:oG a):Lp n 53 0 (w53 a (i64.wrap ((a.length:Int)-1)) (m,List.replicate a.length 0) []) (.exit 0) (w53 a (-1) (Oj (a2x a) a.length (m,List.replicate a.length 0)) [(14,xl false)]):=
 ahU (st:=fun i s=>w53 a i s []) (fin:=fun s=>w53 a (-1) s [(14,xl false)]) (fun _ s=>s.2.length=a.length) (by kernel_rfl) hl Qb (by simp) (fun k s _ h=>by simp[a2x,h]) (fun k s hk hi n e p h=>aN hO (.b (aes k) (.o (aH hk) (.o (szk hs hk) (.o (aH (show k<s.2.length by omega)) (.o (aH hk) (.o (szk hs hk) (.go h)))))))) (fun s _=>aN hO (.b (rfl:decide ((-1:Int)>=0)=false) .ex))
theorem mk1{α:Type}(l:List α):(l.length:Int)=(l.length:Int):=rfl
theorem mk2{α:Type}(l:List α):(0:Int)<=(l.length:Int):=by omega
theorem mk3{α:Type}{l:List α}(h:l.length<=ah):(l.length:Int)<=(ah:Int):=by omega
def aiB:eU aF:=bZ 53 (a2 qB iA) qB (fun p=>lu p.1 p.2) (fun p=>[p.1.length<=ah,oG p.1,0<=p.2,p.2<2^62]) aiA
theorem ao2:Gd aiB:=ao1.add fun n hO p hp=>aK hO (.o (mk1 p.1) (.o (mk2 p.1) (.o (mk3 (hp _ (.head _))) (.w (l53 hO p.1 p.2 (hp _ (.head _)) (hp _ (.tail _ (.head _)))) (.v (Oj (a2x p.1) p.1.length (p.2,List.replicate p.1.length 0)).2 (a5R (hp _ (.tail _ (.head _))) (hp _ (.tail _ (.tail _ (.head _)))) (hp _ (.tail _ (.tail _ (.tail _ (.head _))))) a8D))))))
def vOk(v:V):Bool:=if(v.f==0)=true then mQ v.n (-9999) 9999 else if(decide (v.f<=4))=true then v.n==0 else false
def aiC:eU aF:=bZ 29 (a1 vA) tA (fun p=>vOk p) np aiB
theorem ao3:Gd aiC:=ao2.add fun n hO p hp=>aK hO (.ss .rr (.ss .rr .rr))
def vIs(v:V):Bool:=if(decide (v.f>0))=true then(if(decide (v.f<=4))=true then v.n==0 else false)else mQ v.n (-9999) 9999
theorem aeu{v:V}(h:0<=v.f):vOk v=vIs v:=by
 unfold vOk vIs;by_cases h0:v.f=0
 .rw[a0V (by simp[h0]),a0S (by simp;omega)]
 have:v.f>0:=by omega
 simp[h0,this]
open Go Tw Pv cO
def dN(n:Nat):List Int:=(List.range n).map fun(k:Nat)=>(k:Int)
theorem kY(n:Nat):(dN n).length=n:=by simp[dN]
theorem RN(n:Nat):jX n (dN n)=true:=by
 unfold jX;rw[a1T];refine⟨kY n,fun a ha=>?_,?_⟩
 .simp only[dN,a1L,a3R]at ha;obtain⟨k,h1,rfl⟩:=ha;omega
 unfold dN;exact List.Pairwise.map _ (fun a b h=>by omega) adI
open Go Tw Pv cO
abbrev V.tv(v:V):TV:=.agg [.int .u8 v.f,.int .i64 v.n]
theorem a2F:Tryz.prog.underlying 3=some (.int .i64):=by kernel_rfl
theorem uU8:Tryz.prog.underlying 5=some (.int .u8):=by kernel_rfl
theorem aev : Tryz.prog.underlying 39 = some (.struct #[⟨"Fault", 5, 0, false, "", "", 0⟩, ⟨"N", 3, 1, false, "", "", 8⟩]) := by kernel_rfl
theorem a0P(d:Nat)(a b:V):aB Qp (Op.equalIn (d+2) 39 (.agg #[.int .u8 a.f,.int .i64 a.n]) (.agg #[.int .u8 b.f,.int .i64 b.n]))=some (decide (a=b)):=by
 rw[xU (d+1) 39 _ _ _ aev (by kernel_rfl)];have p0:∀x y:Value,aB Qp (part 5 #[x,y] 0)=some x:=by intro x y;kernel_rfl
 have p1:∀x y:Value,aB Qp (part 3 #[x,y] 1)=some y:=by intro x y;kernel_rfl
 have n1 : ("Fault" : String) ≠ "_" := by decide
 have n2 : ("N" : String) ≠ "_" := by decide
 have q1 := nZ (f := ⟨"Fault", 5, 0, false, "", "", 0⟩) (fs := [⟨"N", 3, 1, false, "", "", 8⟩]) n1 (p0 (.int .u8 a.f) (.int .i64 a.n)) (p0 (.int .u8 b.f) (.int .i64 b.n)) (qO d _ _ _ _ _ uU8);have q2 := nZ (f := ⟨"N", 3, 1, false, "", "", 8⟩) (fs := []) n2 (p1 (.int .u8 a.f) (.int .i64 a.n)) (p1 (.int .u8 b.f) (.int .i64 b.n)) (qO d _ _ _ _ _ a2F);rw[q1,q2];rw[show aB Qp (Op.eqFields (d+1) #[.int .u8 a.f,.int .i64 a.n] #[.int .u8 b.f,.int .i64 b.n] [])=some true from rfl];rcases a with⟨a1,a2⟩;rcases b with⟨b1,b2⟩;by_cases h1:a1=b1<;>by_cases h2:a2=b2<;>simp[h1,h2]
theorem eqV(x y:Operand)(a b:V):rY Qp .eql 39 x y (V.tv a) (V.tv b)=some (.bool (decide (a=b))):=(Gp rfl rfl (by kernel_rfl) (by decide) (a0P 9998 a b)).1
theorem neV(x y:Operand)(a b:V):rY Qp .neq 39 x y (V.tv a) (V.tv b)=some (.bool (!decide (a=b))):=(Gp rfl rfl (by kernel_rfl) (by decide) (a0P 9998 a b)).2
open Go Tw Pv cO
abbrev cAl(a b:List V)(k:Nat):Bool:=!decide (a.getD k V0=b.getD k V0)
abbrev w75(a b:List V)(i:Int)(x:List (Nat×PE aF)):aS aF:=⟨[(0,xL 39 a),(1,xL 39 b),(5,xi i)]++x,[],[]⟩
def z75(a b:List V):Unit⊕Nat->Ex×aS aF
 |.inl _=>(.exit 0,w75 a b a.length [(14,xl false)])
 |.inr _=>(.ret,⟨[(4,xl false)],[],[]⟩)
theorem l75{n:Nat}{fH:eU aF}(hO:Ok n fH)(a b:List V)(hl:a.length<=ah)(h:a.length=b.length):Lp n 75 0 (w75 a b 0 []) (z75 a b (bG (cAl a b) a.length)).1 (z75 a b (bG (cAl a b) a.length)).2:=
 Om (st:=fun i _=>w75 a b i []) (fun _ _=>True) (by kernel_rfl) hl Qb trivial (fun k s n hk _ ih=>aN hO (.b (bC hk) (.o (aH hk) (.o (aH (h▸hk)) (.q (.bool (cAl a b k)) (neV (.tmp 20) (.tmp 24) (a.getD k V0) (b.getD k V0)) (.ls (.ou nofun) (.nx (ih _ trivial)))))))) (fun s _=>aN hO (.b (fD a.length) (.ou nofun)))
theorem a0Q{a b:List V}(h:a.length=b.length):jU (bG (cAl a b) a.length)=decide (a=b):=by
 rw[a4g,dQ,a1T,rC (d:=V0) h];simp[cAl]
theorem a9H{a b:List V}(h:((a.length:Int) != (b.length:Int))=true):decide (a=b)=false:=by
 rw[a3t];rintro rfl;simp at h
def aiD:eU aF:=bZ 75 (a2 vsA vsA) tA (fun p=>decide (p.1=p.2)) (fun p=>[p.1.length<=ah]) aiC
theorem ao6:Gd aiD:=ao3.add fun n hO p hp=>aK hO (.s (fun h=>.v false (a9H h).symm) fun h=>.z (c:=jU (bG (cAl p.1 p.2) p.1.length)) (fun h2=>.w (jV (l75 hO p.1 p.2 (hp _ (.head _)) (kX h)) () h2) (.v true (by rw[<-a0Q (kX h),h2]))) fun h2=>.w (jW (l75 hO p.1 p.2 (hp _ (.head _)) (kX h)) 0 h2) (.v false (by rw[<-a0Q (kX h),h2])))
def a0R(v:V)(l:List V)(k:Nat)(m:Int):Int:=if decide (l.getD k V0=v)=true then i64.wrap (m+1)else m
def IV(l:List V)(v:V):Int:=aW (a0R v l) l.length 0 0
open Go Tw Pv cO
abbrev RhB(n f k B m:Nat)(s:aS aF)(e:Ex)(p:aS aF):Prop:=dI X0 Qp T (bP n) LL f false (Bz Qp f) B (Ry Qp f k) m s e p
abbrev hdP(f k:Nat)(w:aS aF):aS aF:=gq X0 (T.eH f (dR (Ry Qp f k))) w
section
variable {n f k B N:Nat} {σ ρ:Type}
theorem y9{st:Int->σ->aS aF}{g:Nat->σ->σ}{e:Ex}{fin:σ->aS aF}{s0:σ}{w:aS aF}(Inv:Nat->σ->Prop)(h0:hdP f k w=st 0 s0)(hl:N<=ah)(hi:Inv 0 s0)(hv:∀j s,j<N->Inv j s->Inv (j+1) (g j s))
  (hs:∀(j:Nat) (s:σ),j<N->Inv j s->∀m e1 p,RhB n f k B m (st (i64.wrap (j+1)) (g j s)) e1 p->RhB n f k B (m+1) (st j s) e1 p)
  (ho:∀s,Inv N s->RhB n f k B 1 (st N s) e (fin s)):Ov n f k B w e (fin (aW g N 0 s0)):=JJ Inv h0 hl Qb hi hv hs ho
theorem iR{st:Int->σ->aS aF}{g:Nat->σ->σ⊕ρ}{out:σ⊕ρ->Ex×aS aF}{s0:σ}{w:aS aF}(Inv:Nat->σ->Prop)(h0:hdP f k w=st 0 s0)(hl:N<=ah)(hi:Inv 0 s0)
  (hs:∀(j:Nat) (s:σ) (m:Nat),j<N->Inv j s->(∀s1,Inv (j+1) s1->RhB n f k B m (st (i64.wrap (j+1)) s1) (uS (X:=X0) out g (N-(j+1)) (j+1) (.inl s1)).1 (uS (X:=X0) out g (N-(j+1)) (j+1) (.inl s1)).2) ->
   RhB n f k B (m+1) (st j s) (uS (X:=X0) out g (N-(j+1)) (j+1) (g j s)).1 (uS (X:=X0) out g (N-(j+1)) (j+1) (g j s)).2)
  (ho:∀s,Inv N s->RhB n f k B 1 (st N s) (out (.inl s)).1 (out (.inl s)).2):Ov n f k B w (out (lq g N 0 s0)).1 (out (lq g N 0 s0)).2:=Om Inv h0 hl Qb hi hs ho
theorem a9I{a:Nat}{st:Int->σ->aS aF}{g:Nat->σ->σ⊕ρ}{out:σ⊕ρ->Ex×aS aF}{s0:σ}{w:aS aF}(Inv:Nat->σ->Prop)(h0:hdP f k w=st a s0)(ha:a<=N)(hl:N<=ah)(hi:Inv a s0)
  (hs:∀(j:Nat) (s:σ) (m:Nat),a<=j->j<N->Inv j s->(∀s1,Inv (j+1) s1->RhB n f k B m (st (i64.wrap (j+1)) s1) (uS (X:=X0) out g (N-(j+1)) (j+1) (.inl s1)).1 (uS (X:=X0) out g (N-(j+1)) (j+1) (.inl s1)).2) ->
   RhB n f k B (m+1) (st j s) (uS (X:=X0) out g (N-(j+1)) (j+1) (g j s)).1 (uS (X:=X0) out g (N-(j+1)) (j+1) (g j s)).2)
  (ho:∀s,Inv N s->RhB n f k B 1 (st N s) (out (.inl s)).1 (out (.inl s)).2):Ov n f k B w (out (lq g (N-a) a s0)).1 (out (lq g (N-a) a s0)).2:=aef Inv h0 ha hl Qb hi hs ho
theorem Zb{st:σ->aS aF}{g:σ->σ⊕ρ}{out:ρ->Ex×aS aF}(Inv:σ->Prop){m:Nat}{s:σ}{r:ρ}{w:aS aF}(hr:itF g m s=some r)(h0:hdP f k w=st s)(hk:m<=LL)(hv:Inv s)(hi:∀s s1,Inv s->g s=.inl s1->Inv s1)
  (hs:∀s m r,Inv s->(∀s1,g s=.inl s1->RhB n f k B m (st s1) (out r).1 (out r).2)->RhB n f k B (m+1) (st s) (CQ (X:=X0) out r (g s)).1 (CQ (X:=X0) out r (g s)).2):Ov n f k B w (out r).1 (out r).2:=aea Inv hr h0 hk hv hi hs
end
open Go Tw Pv cO
structure Prt(l:List V)(w n:Nat):Prop where
 n12:n<=12
 w2:w<=5000
 len:l.length=n*w
section
variable {l:List V} {w n j:Nat} (h:Prt l w n)
include h
end
theorem RP{α β:Type}(l:List α)(d:α)(f:α->β):(List.range l.length).map (fun k=>f (l.getD k d))=l.map f:=by
 apply aae (by simp);intro i h1 h2;have:i<l.length:=by simpa using h1
 simp[List.getD,a0E this]
open Go Tw Pv cO
theorem a6b{s p:List Int}{ch d:Int}(hp:jF s p=true)(hc:gW ch s.length)(hd:gW d (s.getD ch.toNat 0).toNat):jF s (p.set ch.toNat d)=true:=by
 rw[nK]at hp ⊢;obtain⟨c1,c2⟩:=hc;obtain⟨d1,d2⟩:=hd;refine⟨by simp[hp.1],fun j hj=>?_⟩;rw[yR (by omega)];split
 .rename_i e;subst e;omega
 exact hp.2 j hj
open Go Tw Pv cO
abbrev aj(d:Dg)(r:Int):Br:=d.au.getD r.toNat mP
abbrev Oz(d:Dg)(r:Int)(k:Nat):Bool:=d.aG.getD k 0==(aj d r).var
abbrev a2G(d:Dg)(r i:Int)(x:List (Nat×PE aF)):aS aF:=⟨[(1,xi r),(2,.loc 0 0),(5,xi i)]++x,[d.ps],[]⟩
def aiE(d:Dg)(r:Int)(N:Nat):Unit⊕Nat->Ex×aS aF
 |.inl _=>(.exit 0,a2G d r N [(14,xl false)])
 |.inr k=>(.ret,⟨[(4,xi k)],[d.ps],[]⟩)
theorem aiF{r:Int}(h:0<=r):decide (r>=0)=true:=by simpa using h
theorem aiG{n:Nat}{fH:eU aF}(hO:Ok n fH)(d:Dg)(r:Int)(hl:d.aG.length<=ah)(h:gW r d.au.length):Lp n 177 0 (a2G d r 0 []) (aiE d r d.aG.length (bG (Oz d r) d.aG.length)).1 (aiE d r d.aG.length (bG (Oz d r) d.aG.length)).2:=
 iR (st:=fun i _=>a2G d r i []) (fun _ _=>True) (by kernel_rfl) hl trivial (fun k s m hk _ ih=>aN hO (.b (aiF h.1) (.b (bC hk) (.o (aH hk) (.o h (.ls (.ou nofun) (.nx (ih _ trivial)))))))) (fun s _=>aN hO (.b (aiF h.1) (.b (fD d.aG.length) (.ou nofun))))
theorem aiH{n:Nat}{fH:eU aF}(hO:Ok n fH)(d:Dg)(r:Int)(h:r<0):Lp n 177 0 (a2G d r 0 []) (.exit 0) (a2G d r 0 [(14,xl false)]):=
 zi (ps:=a2G d r 0 []) (aN hO (.b (show decide (r>=0)=false by simpa using h) .ex)) (by kernel_rfl) (by decide:1<=LL)
def tC(d:Dg)(r:Int):Int:=if decide (r<0)=true then(d.aG.length:Int)else if jU (bG (Oz d r) d.aG.length)=true then(d.aG.length:Int)else((CP 0 (bG (Oz d r) d.aG.length):Nat):Int)
def abW:eU aF:=bZ 177 (a2 dA iA) iA (fun p=>tC p.1 p.2) (fun p=>[p.1.aG.length<=ah,0<=p.2->gW p.2 p.1.au.length]) aiD
theorem aiI:Gd abW:=ao6.add fun n hO p hp=>aK hO (.zh (fun h=>.w (aiH hO p.1 p.2 (by simpa using h)) .rr) fun h=>.zh (fun h2=>.w (jV (aiG hO p.1 p.2 (hp _ (.head _)) (hp (0<=p.2->gW p.2 p.1.au.length) (.tail _ (.head _)) (by simpa using h))) () h2) .rr) fun h2=>.w (jW (aiG hO p.1 p.2 (hp _ (.head _)) (hp (0<=p.2->gW p.2 p.1.au.length) (.tail _ (.head _)) (by simpa using h))) 0 h2) .rr)
def iG(d:Dg)(r below:Int):Bool:=if decide (r>=0)=true then decide (r<below)else mQ (i64.wrap (-1-r)) 0 (i64.wrap ((d.aO.length:Int)-1))
def abX:eU aF:=bZ 176 (a3 dA iA iA) tA (fun p=>iG p.1 p.2.1 p.2.2) np abW
theorem aiJ:Gd abX:=aiI.add fun n hO p hp=>aK hO (.ss .rr .rr)
abbrev OA(b:Br)(k:Nat):Bool:=b.aA.getD k 0 != b.aA.getD 0 0
abbrev aew(b:Br)(i:Int)(x:List (Nat×PE aF)):aS aF:=⟨[(1,.loc 0 0),(3,xi i)]++x,[b.ps],[]⟩
def aiK(b:Br):Unit⊕Nat->Ex×aS aF
 |.inl _=>(.exit 0,aew b (max 1 b.aA.length:Nat) [(8,xl false)])
 |.inr _=>(.ret,⟨[(2,xl false)],[b.ps],[]⟩)
theorem aiL{n:Nat}{fH:eU aF}(hO:Ok n fH)(b:Br)(hl:b.aA.length<=ah):Lp n 132 0 (aew b 1 []) (aiK b (RG (OA b) 1 (max 1 b.aA.length))).1 (aiK b (RG (OA b) 1 (max 1 b.aA.length))).2:=
 a9I (st:=fun i _=>aew b i []) (fun _ _=>True) (by kernel_rfl) (by omega) (by unfold ah at *;omega) trivial (fun k s m h1 hk _ ih=>aN hO (.b (bC (show k<b.aA.length by omega)) (.o (aH (show k<b.aA.length by omega)) (.o (show gW 0 b.aA.length from⟨by omega,by omega⟩) (.ls (.ou nofun) (.nx (ih _ trivial))))))) (fun s _=>aN hO (.b (show decide (((max 1 b.aA.length:Nat):Int)<(b.aA.length:Int))=false by simp only[a3t];omega) (.ou nofun)))
def CZ(b:Br):Bool:=if jU (RG (OA b) 1 (max 1 b.aA.length))=true then true else false
def abY:eU aF:=bZ 132 (a1 brA) tA (fun p=>CZ p) (fun p=>[p.aA.length<=ah]) abX
theorem aiM:Gd abY:=aiJ.add fun n hO p hp=>aK hO (.zh (fun h=>.w (jV (aiL hO p (hp _ (.head _))) () h) .rr) fun h=>.w (jW (aiL hO p (hp _ (.head _))) 0 h) .rr)
abbrev RQ(l:List Int)(n:Int)(k:Nat):Bool:=l.getD k 0==n
abbrev aex(l:List Int)(m i:Int)(x:List (Nat×PE aF)):aS aF:=⟨[(0,xL 3 l),(1,xi m),(5,xi i)]++x,[],[]⟩
def aiN(l:List Int)(m:Int):Unit⊕Nat->Ex×aS aF
 |.inl _=>(.exit 0,aex l m l.length [(9,xl false)])
 |.inr _=>(.ret,⟨[(4,xl true)],[],[]⟩)
theorem aiO{n:Nat}{fH:eU aF}(hO:Ok n fH)(l:List Int)(m:Int)(hl:l.length<=ah):Lp n 178 0 (aex l m 0 []) (aiN l m (bG (RQ l m) l.length)).1 (aiN l m (bG (RQ l m) l.length)).2:=
 iR (st:=fun i _=>aex l m i []) (fun _ _=>True) (by kernel_rfl) hl trivial (fun k s m hk _ ih=>aN hO (.b (bC hk) (.o (aH hk) (.ls (.ou nofun) (.nx (ih _ trivial)))))) (fun s _=>aN hO (.b (fD l.length) (.ou nofun)))
theorem RS{l:List Int}{m:Int}:jU (bG (RQ l m) l.length)=!decide (m∈l):=by
 rw[a4g,dQ];simp only[a8m,a3t];constructor
 .intro h hm;obtain⟨j,hj,e⟩:=a4h.1 hm;have:=h j hj;simp[RQ,List.getD,a0E hj,e]at this
 intro h j hj;have e:l.getD j 0=l[j]:=by simp[List.getD,a0E hj]
 simp only[RQ,agq,ne_eq,e];intro e2;exact h (e2▸a4d hj)
def abZ:eU aF:=bZ 178 (a2 qB iA) tA (fun p=>decide (p.2∈p.1)) (fun p=>[p.1.length<=ah]) abY
theorem aiP:Gd abZ:=aiM.add fun n hO p hp=>aK hO (.z (c:=jU (bG (RQ p.1 p.2) p.1.length)) (fun h=>.w (jV (aiO hO p.1 p.2 (hp _ (.head _))) () h) (.v false (by rw[RS]at h;simp at h;simp[h]))) fun h=>.w (jW (aiO hO p.1 p.2 (hp _ (.head _))) 0 h) (.v true (by rw[RS]at h;simp at h;simp[h])))
abbrev a6c(l:List Int)(k:Nat):Bool:=l.getD k 0 != (k:Int)
abbrev aey(l:List Int)(m i:Int)(x:List (Nat×PE aF)):aS aF:=⟨[(0,xL 3 l),(1,xi m),(5,xi i)]++x,[],[]⟩
def aiQ(l:List Int)(m:Int):Unit⊕Nat->Ex×aS aF
 |.inl _=>(.exit 0,aey l m l.length [(9,xl false)])
 |.inr _=>(.ret,⟨[(4,xl false)],[],[]⟩)
theorem aiR{n:Nat}{fH:eU aF}(hO:Ok n fH)(l:List Int)(m:Int)(hl:l.length<=ah):Lp n 134 0 (aey l m 0 []) (aiQ l m (bG (a6c l) l.length)).1 (aiQ l m (bG (a6c l) l.length)).2:=
 iR (st:=fun i _=>aey l m i []) (fun _ _=>True) (by kernel_rfl) hl trivial (fun k s m hk _ ih=>aN hO (.b (bC hk) (.o (aH hk) (.ls (.ou nofun) (.nx (ih _ trivial)))))) (fun s _=>aN hO (.b (fD l.length) (.ou nofun)))
def zl(l:List Int)(m:Int):Bool:=if jU (bG (a6c l) l.length)=true then((l.length:Int)==m)else false
def WV:eU aF:=bZ 134 (a2 qB iA) tA (fun p=>zl p.1 p.2) (fun p=>[p.1.length<=ah]) abZ
theorem aiS:Gd WV:=aiP.add fun n hO p hp=>aK hO (.zh (fun h=>.w (jV (aiR hO p.1 p.2 (hp _ (.head _))) () h) .rr) fun h=>.w (jW (aiR hO p.1 p.2 (hp _ (.head _))) 0 h) .rr)
abbrev cLk(d:Dg)(i k:Nat):Bool:=if(!(iG d ((d.au.getD i mP).aA.getD k 0) i))=true then true else decide (tC d ((d.au.getD i mP).aA.getD k 0)<=tC d i)
abbrev fA(d:Dg)(i:Nat):Br:=d.au.getD i mP
abbrev a6d(d:Dg)(i k:Int)(b:Br)(x:List (Nat×PE aF)):aS aF:=⟨[(1,.loc 0 0),(4,xi i),(5,.loc 1 0),(6,xi k)]++x,[d.ps,b.ps],[]⟩
def ac0(d:Dg)(i:Nat):Unit⊕Nat->Ex×aS aF
 |.inl _=>(.exit 4,a6d d i (fA d i).aA.length (fA d i) [(57,xl false)])
 |.inr _=>(.ret,⟨[(2,xl false)],[d.ps,(fA d i).ps],[]⟩)
structure DgL(d:Dg):Prop where
 aG:d.aG.length<=ah
 au:d.au.length<=ah
 aO:d.aO.length<=ah
 eu:wH d.ay
theorem WW{d:Dg}{r:Int}{i:Nat}(h:iG d r i=true)(h0:0<=r)(hi:i<=d.au.length):gW r d.au.length:=by
 unfold iG at h;rw[a0V (by simpa using h0)]at h;have:r<(i:Int):=by simpa using h
 exact⟨h0,by omega⟩
theorem aiT{n:Nat}(hO:Ok n WV){d:Dg}(h:DgL d){i:Nat}(hi:i<d.au.length)(hk:(fA d i).aA.length<=ah):Lp n 131 2 (a6d d i 0 (fA d i) []) (ac0 d i (bG (cLk d i) (fA d i).aA.length)).1 (ac0 d i (bG (cLk d i) (fA d i).aA.length)).2:=
 iR (st:=fun k _=>a6d d i k (fA d i) []) (fun _ _=>True) (by kernel_rfl) hk trivial (fun k s m hk _ ih=>by
  unfold gS cLk;cases e1:iG d ((fA d i).aA.getD k 0) i
  .exact aN hO (.b (bC hk) (.o (aH hk) (.b (show(!(iG d ((fA d i).aA.getD k 0) i))=true by rw[e1];rfl) (.ou nofun))))
  .exact aN hO (.b (bC hk) (.o (aH hk) (.b (show(!(iG d ((fA d i).aA.getD k 0) i))=false by rw[e1];rfl) (.o (aH hk) (.o h.aG (.o (show 0<=(fA d i).aA.getD k 0->gW ((fA d i).aA.getD k 0) d.au.length from fun h0=>WW e1 h0 (by omega)) (.o h.aG (.o (show 0<=((i:Nat):Int)->gW i d.au.length from fun _=>aH hi) (.ls (.ou nofun) (.nx (ih _ trivial)))))))))))
  ) (fun s _=>aN hO (.b (fD (fA d i).aA.length) (.ou nofun)))
abbrev Zc(d:Dg)(i:Nat):Bool:=if(!(mQ (fA d i).var 0 (xw d.ay)))=true then true else if(((fA d i).aA.length:Int) != d.ay.getD (fA d i).var.toNat 0)=true then true else if jU (bG (cLk d i) (fA d i).aA.length)=true then false else true
abbrev a6e(d:Dg)(i:Int)(x:List (Nat×PE aF)):aS aF:=⟨[(1,.loc 0 0),(4,xi i)]++x,[d.ps],[]⟩
def ac1(d:Dg):Unit⊕Nat->Ex×aS aF
 |.inl _=>(.exit 2,a6e d d.au.length [(25,xl false)])
 |.inr k=>(.ret,⟨[(2,xl false)],[d.ps,(fA d k).ps],[]⟩)
theorem IW{d:Dg}(h:wH d.ay){v:Int}(e:mQ v 0 (xw d.ay)=true):gW v d.ay.length:=by
 rw[vw,a5Y h.ahV]at e;exact⟨e.1,by omega⟩
theorem WX{d:Dg}(h:wH d.ay){v:Int}(e:gW v d.ay.length){l:List Int}(hl:(((l.length:Int)) != d.ay.getD v.toNat 0)=false):l.length<=12:=by
 have:=h.sz _ (dZ (s:=d.ay) (k:=v.toNat) (by have:=e.2;have:=e.1;omega));have hl:(l.length:Int)=d.ay.getD v.toNat 0:=by simpa using hl
 omega
theorem m12{k:Nat}(h:k<=12):k<=ah:=by unfold ah;omega
theorem ac2{n:Nat}(hO:Ok n WV){d:Dg}(h:DgL d):Lp n 131 1 (a6e d 0 []) (ac1 d (bG (Zc d) d.au.length)).1 (ac1 d (bG (Zc d) d.au.length)).2:=
 iR (st:=fun k _=>a6e d k []) (fun _ _=>True) (by kernel_rfl) h.au trivial (fun k s m hk _ ih=>by
  unfold gS Zc;cases e1:mQ (fA d k).var 0 (xw d.ay)
  .exact aN hO (.b (bC hk) (.o (aH hk) (.b (show(!(mQ (fA d k).var 0 (xw d.ay)))=true by rw[e1];rfl) (.ou nofun))))
  .have hv:=IW h.eu e1;cases e2:(((fA d k).aA.length:Int) != d.ay.getD (fA d k).var.toNat 0)
   .have hl:=aiT hO h hk (m12 (WX h.eu hv e2));cases e3:jU (bG (cLk d k) (fA d k).aA.length)
    .exact aN hO (.b (bC hk) (.o (aH hk) (.b (show(!(mQ (fA d k).var 0 (xw d.ay)))=false by rw[e1];rfl) (.o hv (.b e2 (.w (jW hl 0 e3) (.ou nofun)))))))
    .exact aN hO (.b (bC hk) (.o (aH hk) (.b (show(!(mQ (fA d k).var 0 (xw d.ay)))=false by rw[e1];rfl) (.o hv (.b e2 (.w (jV hl () e3) (.nx (ih _ trivial))))))))
   .exact aN hO (.b (bC hk) (.o (aH hk) (.b (show(!(mQ (fA d k).var 0 (xw d.ay)))=false by rw[e1];rfl) (.o hv (.b e2 (.ou nofun))))))
  ) (fun s _=>aN hO (.b (fD d.au.length) (.ou nofun)))
abbrev cLe(d:Dg)(k:Nat):Bool:=!(vOk (d.aO.getD k V0))
abbrev a6g(d:Dg)(i:Int)(x:List (Nat×PE aF)):aS aF:=⟨[(1,.loc 0 0),(3,xi i)]++x,[d.ps],[]⟩
def ac3(d:Dg):Unit⊕Nat->Ex×aS aF
 |.inl _=>(.exit 0,a6g d d.aO.length [(11,xl false)])
 |.inr _=>(.ret,⟨[(2,xl false)],[d.ps],[]⟩)
theorem ac4{n:Nat}(hO:Ok n WV){d:Dg}(h:DgL d):Lp n 131 0 (a6g d 0 []) (ac3 d (bG (cLe d) d.aO.length)).1 (ac3 d (bG (cLe d) d.aO.length)).2:=
 iR (st:=fun k _=>a6g d k []) (fun _ _=>True) (by kernel_rfl) h.aO trivial (fun k s m hk _ ih=>aN hO (.b (bC hk) (.o (aH hk) (.ls (.ou nofun) (.nx (ih _ trivial)))))) (fun s _=>aN hO (.b (fD d.aO.length) (.ou nofun)))
def kZ(d:Dg):Bool:=if jU (bG (cLe d) d.aO.length)=true then(if jU (bG (Zc d) d.au.length)=true then iG d d.root d.au.length else false)else false
def ac5:eU aF:=bZ 131 (a1 dA) tA (fun p=>kZ p) (fun p=>[DgL p]) WV
theorem aiU:Gd ac5:=aiS.add fun n hO p hp=>aK hO (.zh (fun h=>.w (jV (ac4 hO (show DgL p from hp _ (.head _))) () h) (.zh (fun h2=>.w (jV (ac2 hO (show DgL p from hp _ (.head _))) () h2) .rr) fun h2=>.w (jW (ac2 hO (show DgL p from hp _ (.head _))) 0 h2) .rr)) fun h=>.w (jW (ac4 hO (show DgL p from hp _ (.head _))) 0 h) .rr)
def bF(d:Dg):Int:=if(cZ d.ay d.aG != 0)=true then cZ d.ay d.aG else if decide ((d.au.length:Int)>6000)=true then 5 else if(!(kZ d))=true then 4 else 0
theorem Um{k:Nat}(h:decide ((k:Int)>6000)=false):k<=ah:=by simp at h;unfold ah;omega
theorem Aj{s o:List Int}(h:(cZ s o != 0)=false):wH s:=(lU.1 (by simpa using h)).1
def a9J:eU aF:=bZ 83 (a1 dA) iA (fun p=>bF p) (fun p=>[p.aG.length<=ah,p.aO.length<=ah]) ac5
theorem ao7:Gd a9J:=aiU.add fun n hO p hp=>aK hO (.o (hp _ (.head _)) (.sh (fun _=>.rr) fun h=>.sh (fun _=>.rr) fun h2=>.o (show DgL p from⟨hp _ (.head _),Um h2,hp _ (.tail _ (.head _)),Aj h⟩) (.ss .rr .rr)))
open Go Tw Pv cO
abbrev jw(r:Int):Int:=i64.wrap (-1-r)
def jG(d:Dg):Nat->Int->List Int×List Int->List Int×List Int
 | 0,_,x=>x
 |F+1,r,x=>if decide (r<0)=true then(if(!(decide (jw r∈x.2)))=true then(x.1,x.2++[jw r])else x)else if decide (r∈x.1)=true then x
  else((aW (fun k y=>jG d F ((aj d r).aA.getD k 0) y) (aj d r).aA.length 0 x).1++[r],(aW (fun k y=>jG d F ((aj d r).aA.getD k 0) y) (aj d r).aA.length 0 x).2)
def jf(d:Dg)(r:Int)(b:Nat):Prop:=r<b∧(r<0->gW (jw r) d.aO.length)
structure Bq(d:Dg):Prop extends DgL d where
 Ak:∀i,i<d.au.length->∀k,k<(fA d i).aA.length->jf d ((fA d i).aA.getD k 0) i
 KC:∀i,i<d.au.length->(fA d i).aA.length<=12
 var:∀i,i<d.au.length->gW (fA d i).var d.ay.length
 ksz:∀i,i<d.au.length->((fA d i).aA.length:Int)=d.ay.getD (fA d i).var.toNat 0
 root:jf d d.root d.au.length
structure IX(d:Dg)(x:List Int×List Int):Prop where
 n1:x.1.Nodup
 n2:∀a∈x.1,gW a d.au.length
 e1:x.2.Nodup
 e2:∀a∈x.2,gW a d.aO.length
theorem zn:∀(N:Nat) (l:List Int),l.Nodup->(∀a∈l,gW a N)->l.length<=N
 | 0,[],_,_=>a1J _
 | 0,a::l,_,h=>by obtain⟨h1,h2⟩:=h a (a3u ..);omega
 |N+1,l,hn,h=>by
  have h1:=zn N (l.erase (N:Int)) (hn.erase _) fun a ha=>by
   have h2:=(List.Nodup.mem_erase_iff hn).1 ha;have h3:=h a h2.2;exact⟨h3.1,by have:=h3.2;have:=h2.1;omega⟩
  by_cases hm:(N:Int)∈l
  .rw[List.length_erase_of_mem hm]at h1;omega
  rw[List.erase_of_not_mem hm]at h1;omega
theorem IX.len{d:Dg}{x:List Int×List Int}(h:IX d x):x.1.length<=d.au.length∧x.2.length<=d.aO.length:=⟨zn _ _ h.n1 h.n2,zn _ _ h.e1 h.e2⟩
theorem wJ{l:List Int}{a:Int}(h:l.Nodup)(ha:a∉l):(l++[a]).Nodup:=by
 rw[a8l];exact⟨h,by simp,fun x hx y hy e=>by simp at hy;subst hy;subst e;exact ha hx⟩
theorem a6i{d:Dg}:∀(F:Nat) (r s:Int) (x:List Int×List Int),r<s->s∉x.1->0<=s->(∀i,i<d.au.length->∀k,k<(fA d i).aA.length->(fA d i).aA.getD k 0<i)->(0<=r->gW r d.au.length)->s∉(jG d F r x).1
 | 0,_,_,_,_,h,_,_,_=>h
 |F+1,r,s,x,hr,h,h0,hk,hn=>by
  unfold jG;by_cases c:r<0
  .rw[a0V (by simpa using c)];split<;>exact h
  rw[a0S (by simpa using c)];split
  .exact h
  have hi:=hn (by omega);have Dk:∀k,k<(aj d r).aA.length->(aj d r).aA.getD k 0<r:=fun k mD=>by
   obtain⟨i1,i2⟩:=hi;have h9:(aj d r).aA.getD k 0<(r.toNat:Int):=hk r.toNat (by omega) k mD;omega
  have:=dW (g:=fun k y=>jG d F ((aj d r).aA.getD k 0) y) (m:=(aj d r).aA.length) (k:=0) (s:=x) (fun _ y=>s∉y.1) h (fun j y _ hj hy=>by
   have h4:=Dk j (by omega);exact a6i F _ s y (by omega) hy h0 hk fun h5=>⟨h5,by have:=hi.2;omega⟩)
  simp only[a3y,a2J,ad1];exact⟨this,by omega⟩
theorem JO{d:Dg}(h:Bq d):∀(F:Nat) (r:Int) (x:List Int×List Int),IX d x->jf d r d.au.length->IX d (jG d F r x)
 | 0,_,_,hx,_=>hx
 |F+1,r,x,hx,hr=>by
  unfold jG;by_cases c:r<0
  .rw[a0V (by simpa using c)];split
   .rename_i c2;have c2:jw r∉x.2:=(by simpa using c2);refine⟨hx.n1,hx.n2,wJ hx.e1 c2,fun a ha=>?_⟩;rw[a3y,a2J]at ha;rcases ha with ha|rfl
    .exact hx.e2 a ha
    exact hr.2 c
   exact hx
  rw[a0S (by simpa using c)];split
  .exact hx
  rename_i c2;have c2:r∉x.1:=by simpa using c2
  have hi:gW r d.au.length:=⟨by omega,hr.1⟩;have aQ:r.toNat<d.au.length:=by have:=hr.1;omega
  have h1:=dW (g:=fun k y=>jG d F ((aj d r).aA.getD k 0) y) (m:=(aj d r).aA.length) (k:=0) (s:=x) (fun _ y=>IX d y∧r∉y.1) ⟨hx,c2⟩ (fun j y _ hj hy=>by
   have hk:jf d ((aj d r).aA.getD j 0) r.toNat:=h.Ak r.toNat aQ j (by simpa using hj);obtain⟨k1,k2⟩:=hk;have mD:jf d ((aj d r).aA.getD j 0) d.au.length:=⟨by omega,k2⟩;refine⟨JO h F _ y hy.1 mD,a6i F _ r y (by omega) hy.2 (by omega) (fun i hi k hk=>(h.Ak i hi k hk).1) fun h5=>⟨h5,mD.1⟩⟩)
  obtain⟨h2,h3⟩:=h1;refine⟨wJ h2.n1 h3,fun a ha=>?_,h2.e1,h2.e2⟩;rw[a3y,a2J]at ha;rcases ha with ha|rfl
  .exact h2.n2 a ha
  exact hi
abbrev ls(l:List Int):PB aF:=.list false false 3 l
abbrev wSr(d:Dg)(r:Int)(k:Int)(s:List Int×List Int)(x:List (Nat×PE aF)):aS aF:=⟨[(1,xi r),(2,xo 2),(3,xo 3),(4,.loc 0 0),(10,.loc 1 0),(11,xi k)]++x,[d.ps,(aj d r).ps],[.gone,.gone,ls s.1,ls s.2]⟩
abbrev aiV(n:Nat)(d:Dg)(r:Int)(x y:List Int×List Int):Prop:=aV X0 Qp (bP n) (.fn 133 [] []) [.agg d.ps,.int .i64 r,.own 0,.own 1] [ls x.1,ls x.2] (.dG [.own 2,.own 3]) [.gone,.gone,ls y.1,ls y.2]
theorem sSr{N:Nat}(hO:∀m,N<=m->Ok m a9J){d:Dg}(h:Bq d):∀(F:Nat) (r:Int) (x:List Int×List Int),r+1<F->IX d x->jf d r d.au.length->1<=F->aiV (N+F) d r x (jG d F r x)
 | 0,r,x,_,_,_,h1=>by omega
 |F+1,r,x,hF,hx,hr,_=>by
  have hn:=hx.len.1;have he:=hx.len.2;have m1:=h.au;have m2:=h.aO;have Fe:=hO (N+F) (by omega);have mn:x.1.length<=ah:=by omega
  have me:x.2.length<=ah:=by omega
  unfold jG;by_cases c:r<0
  .have t0:decide (r<0)=true:=(by simpa using c);rw[a0V t0];by_cases c2:jw r∈x.2
   .have t1:(!(decide (jw r∈x.2)))=false:=(by simpa using c2);rw[a0S (by rw[t1];simp)];exact aV.gs hX (qU hX Fe (first:=[]) (cap:=[]) (v:=.dG [.own 0,.own 1]) (H1:=[ls x.1,ls x.2]) (by kernel_rfl) (.b t0 (.o me (.b t1 .er)))) [.mv 0,.mv 1] rfl
   have t1:(!(decide (jw r∈x.2)))=true:=(by simpa using c2);rw[a0V t1];have e1:=zn _ _ (wJ hx.e1 c2) (fun a ha=>by
    rw[a3y,a2J]at ha;rcases ha with ha|rfl
    .exact hx.e2 a ha
    exact hr.2 c)
   have e2:x.2.length+[jw r].length<=ah:=by rw[<-a2m];omega
   exact aV.gs hX (qU hX Fe (first:=[]) (cap:=[]) (v:=.dG [.own 0,.own 3]) (H1:=[ls x.1,.gone,.list true true 3 ([jw r]:List Int),ls (x.2++[jw r])]) (by kernel_rfl) (.b t0 (.o me (.b t1 (.o e2 .er))))) [.mv 0,.gc [4,3]] rfl
  have t0:decide (r<0)=false:=by simpa using c
  rw[a0S (by rw[t0];simp)];by_cases c2:r∈x.1
  .have t1:decide (r∈x.1)=true:=(by simpa using c2);rw[a0V t1];exact aV.gs hX (qU hX Fe (first:=[]) (cap:=[]) (v:=.dG [.own 0,.own 1]) (H1:=[ls x.1,ls x.2]) (by kernel_rfl) (.b t0 (.o mn (.b t1 .er)))) [.mv 0,.mv 1] rfl
  have t1:decide (r∈x.1)=false:=by simpa using c2
  rw[a0S (by rw[t1];simp)];have hi:gW r d.au.length:=⟨by omega,hr.1⟩;obtain⟨i1,i2⟩:=id hi;have aQ:r.toNat<d.au.length:=by omega
  have hl:Ov (N+F) 133 0 2 (wSr d r 0 x []) (.exit 0) (wSr d r (aj d r).aA.length (aW (fun k y=>jG d F ((aj d r).aA.getD k 0) y) (aj d r).aA.length 0 x) [(40,xl false)]):=by
   refine y9 (σ:=List Int×List Int) (N:=(aj d r).aA.length) (g:=fun k y=>jG d F ((aj d r).aA.getD k 0) y) (s0:=x) (st:=fun k y=>wSr d r k y []) (fin:=fun y=>wSr d r (aj d r).aA.length y [(40,xl false)]) (fun _ y=>IX d y) (by kernel_rfl) (m12 (h.KC r.toNat aQ)) hx (fun k y hk hy=>?_) (fun k y hk hy m e p g=>?_) (fun y _=>aN Fe (.b (fD (aj d r).aA.length) .ex))
   .have hk:jf d ((aj d r).aA.getD k 0) r.toNat:=h.Ak r.toNat aQ k hk;have k1:(aj d r).aA.getD k 0<(r.toNat:Int):=hk.1;exact JO h F _ y hy ⟨by omega,hk.2⟩
   have mD:jf d ((aj d r).aA.getD k 0) r.toNat:=h.Ak r.toNat aQ k hk;have k1:=mD.1;have hs:=sSr hO h F ((aj d r).aA.getD k 0) y (by omega) hy ⟨by omega,mD.2⟩ (by omega);exact aN Fe (.b (bC hk) (.o (aH hk) (.fr [2,3] hs (.goG [.gc [4,5]] g))))
  generalize hy:aW (fun k y=>jG d F ((aj d r).aA.getD k 0) y) (aj d r).aA.length 0 x=y at hl;have sk:=JO h (F+1) r x hx hr;unfold jG at sk;rw[a0S (by rw[t0];simp),a0S (by rw[t1];simp),hy]at sk;have sl:(y.1++[r]).length<=d.au.length:=sk.len.1;have ml:y.1.length+[r].length<=ah:=by rw[<-a2m];omega
  exact aV.gs hX (qU hX Fe (first:=[]) (cap:=[]) (v:=.dG [.own 5,.own 3]) (H1:=[.gone,.gone,.gone,ls y.2,.list true true 3 ([r]:List Int),ls (y.1++[r])]) (by kernel_rfl) (.b t0 (.o mn (.b t1 (.o hi (.wG [.mv 0,.mv 1] hl (.o ml .er))))))) [.gc [5,3]] rfl
def nlA:Arg Unit where
 put _:=.nil .slc
 get v:=match v with
  |.nil .slc=>some ()
  |_=>none
 ok:=by
  intro v a hg A m h x hv;split at hg
  .exact hv
  .cases hg
abbrev wSn(d:Dg)(r:Int)(k:Int)(s:List Int×List Int)(x:List (Nat×PE aF)):aS aF:=⟨[(1,xi r),(2,xo 0),(3,xo 1),(4,.loc 0 0),(10,.loc 1 0),(11,xi k)]++x,[d.ps,(aj d r).ps],[ls s.1,ls s.2]⟩
theorem sr0{d:Dg}:IX d ([],[]):=⟨a6a,by simp,a6a,by simp⟩
def srN(d:Dg)(r:Int):List Int:=(jG d 6002 r ([],[])).1
def srE(d:Dg)(r:Int):List Int:=(jG d 6002 r ([],[])).2
def a0T:eU aF:=bZ 133 (a4 dA iA nlA nlA) (dK (a2 qB qB)) (fun p=>(srN p.1 p.2.1,srE p.1 p.2.1)) (fun p=>[Bq p.1,jf p.1 p.2.1 p.1.au.length,p.1.au.length<=6000]) a9J
theorem aiX:Gd a0T:=ao7.deep 6001 fun n hn hO p hp=>by
 obtain⟨d,r,_,_⟩:=p;have h:Bq d:=hp _ (.head _);have hr:jf d r d.au.length:=hp _ (.tail _ (.head _));have hm:d.au.length<=6000:=hp _ (.tail _ (.tail _ (.head _)));obtain⟨N,rfl⟩:∃N,n=N+6001:=⟨n-6001,by omega⟩;have hO:∀m,N<=m->Ok m a9J:=fun m hm=>hO m (by omega);have Fe:=hO (N+6001) (by omega);by_cases c:r<0
 .have t0:decide (r<0)=true:=by simpa using c
  have t1:(!(decide (jw r∈([]:List Int))))=true:=by simp
  have e:jG d 6002 r ([],[])=([],[jw r]):=by
   rw[jG,a0V t0,a0V t1];rfl
  show nR X0 Qp _ _ _ ((dK (a2 qB qB)).put ((jG d 6002 r ([],[])).1,(jG d 6002 r ([],[])).2)) [];rw[e];exact aK Fe (.b t0 (.o le0 (.b t1 (.o le1 (.rn (.dG [.nil .slc,.dn 3 ([jw r]:List Int) false]) rfl)))))
 .have t0:decide (r<0)=false:=by simpa using c
  have t1:decide (r∈([]:List Int))=false:=by simp
  have hi:gW r d.au.length:=⟨by omega,hr.1⟩;obtain⟨i1,i2⟩:=id hi;have aQ:r.toNat<d.au.length:=by omega
  have hl:Ov (N+6001) 133 0 0 (wSn d r 0 ([],[]) []) (.exit 0) (wSn d r (aj d r).aA.length (aW (fun k y=>jG d 6001 ((aj d r).aA.getD k 0) y) (aj d r).aA.length 0 ([],[])) [(40,xl false)]):=by
   refine y9 (σ:=List Int×List Int) (N:=(aj d r).aA.length) (g:=fun k y=>jG d 6001 ((aj d r).aA.getD k 0) y) (s0:=(([],[]):List Int×List Int)) (st:=fun k y=>wSn d r k y []) (fin:=fun y=>wSn d r (aj d r).aA.length y [(40,xl false)]) (fun _ y=>IX d y) (by kernel_rfl) (m12 (h.KC r.toNat aQ)) sr0 (fun k y hk hy=>?_) (fun k y hk hy m e p g=>?_) (fun y _=>aN Fe (.b (fD (aj d r).aA.length) .ex))
   .have hk:jf d ((aj d r).aA.getD k 0) r.toNat:=h.Ak r.toNat aQ k hk;have k1:(aj d r).aA.getD k 0<(r.toNat:Int):=hk.1;exact JO h 6001 _ y hy ⟨by omega,hk.2⟩
   .have mD:jf d ((aj d r).aA.getD k 0) r.toNat:=h.Ak r.toNat aQ k hk;have k1:(aj d r).aA.getD k 0<(r.toNat:Int):=mD.1;have hs:=sSr hO h 6001 ((aj d r).aA.getD k 0) y (by omega) hy ⟨by omega,mD.2⟩ (by omega);exact aN Fe (.b (bC hk) (.o (aH hk) (.fr [0,1] hs (.goG [.gc [2,3]] g))))
  have sk:=JO h 6002 r ([],[]) sr0 hr;have e:jG d 6002 r ([],[])=((aW (fun k y=>jG d 6001 ((aj d r).aA.getD k 0) y) (aj d r).aA.length 0 ([],[])).1++[r],(aW (fun k y=>jG d 6001 ((aj d r).aA.getD k 0) y) (aj d r).aA.length 0 ([],[])).2):=by
   rw[jG,a0S (by rw[t0];simp),a0S (by rw[t1];simp)]
  show nR X0 Qp _ _ _ ((dK (a2 qB qB)).put ((jG d 6002 r ([],[])).1,(jG d 6002 r ([],[])).2)) [];rw[e]at sk ⊢;generalize aW (fun k y=>jG d 6001 ((aj d r).aA.getD k 0) y) (aj d r).aA.length 0 ([],[])=y at hl sk;have sl:(y.1++[r]).length<=d.au.length:=sk.len.1;have m1:=h.au;have ml:y.1.length+[r].length<=ah:=by rw[<-a2m];omega
  exact aK Fe (.b t0 (.o le0 (.b t1 (.o hi (.wG [.Iq 2 3,.Iq 3 3] hl (.o ml .rr))))))
open Go Tw Pv cO
abbrev cD1(d:Dg)(i j:Nat):Bool:=decide (d.aO.getD j V0=d.aO.getD i V0)
abbrev cD0(d:Dg)(i:Nat):Bool:=if jU (bG (cD1 d i) i)=true then false else true
abbrev cD3(d:Dg)(i j:Nat):Bool:=if((fA d j).var==(fA d i).var)=true then decide ((fA d j).aA=(fA d i).aA)else false
abbrev cD2(d:Dg)(i:Nat):Bool:=if CZ (fA d i)=true then true else if jU (bG (cD3 d i) i)=true then false else true
abbrev wD(d:Dg)(x:List (Nat×PE aF)):aS aF:=⟨[(1,.loc 0 0)]++x,[d.ps],[]⟩
abbrev rD(d:Dg):Ex×aS aF:=(.ret,⟨[(2,xl false)],[d.ps],[]⟩)
def zD1(d:Dg)(i:Nat):Unit⊕Nat->Ex×aS aF
 |.inl _=>(.exit 2,wD d [(3,xi i),(4,xi i),(18,xl false)])
 |.inr _=>rD d
theorem lD1{n:Nat}{fH:eU aF}(hO:Ok n fH){d:Dg}(h:DgL d){i:Nat}(hi:i<d.aO.length):Lp n 84 1 (wD d [(3,xi i),(4,xi 0)]) (zD1 d i (bG (cD1 d i) i)).1 (zD1 d i (bG (cD1 d i) i)).2:=
 iR (st:=fun j _=>wD d [(3,xi i),(4,xi j)]) (fun _ _=>True) (by kernel_rfl) (by have:=h.aO;omega) trivial (fun j s m hj _ ih=>aN hO (.b (bC hj) (.o (aH (show j<d.aO.length by omega)) (.o (aH hi) (.q (.bool (cD1 d i j)) (eqV (.tmp 25) (.tmp 30) (d.aO.getD j V0) (d.aO.getD i V0)) (.ls (.ou nofun) (.nx (ih _ trivial)))))))) (fun s _=>aN hO (.b (fD i) (.ou nofun)))
def zD0(d:Dg):Unit⊕Nat->Ex×aS aF
 |.inl _=>(.exit 0,wD d [(3,xi d.aO.length),(13,xl false)])
 |.inr _=>rD d
theorem lD0{n:Nat}{fH:eU aF}(hO:Ok n fH){d:Dg}(h:DgL d):Lp n 84 0 (wD d [(3,xi 0)]) (zD0 d (bG (cD0 d) d.aO.length)).1 (zD0 d (bG (cD0 d) d.aO.length)).2:=
 iR (st:=fun i _=>wD d [(3,xi i)]) (fun _ _=>True) (by kernel_rfl) h.aO trivial (fun i s m hi _ ih=>by
  have hl:=lD1 hO h hi;unfold gS cD0;cases e:jU (bG (cD1 d i) i)
  .exact aN hO (.b (bC hi) (.w (jW hl 0 e) (.ou nofun)))
  .exact aN hO (.b (bC hi) (.w (jV hl () e) (.nx (ih _ trivial))))
  ) (fun s _=>aN hO (.b (fD d.aO.length) (.ou nofun)))
def zD3(d:Dg)(i:Nat):Unit⊕Nat->Ex×aS aF
 |.inl _=>(.exit 6,wD d [(5,xi i),(6,xi i),(47,xl false)])
 |.inr _=>rD d
theorem lD3{n:Nat}(hO:Ok n a0T){d:Dg}(h:Bq d){i:Nat}(hi:i<d.au.length):Lp n 84 3 (wD d [(5,xi i),(6,xi 0)]) (zD3 d i (bG (cD3 d i) i)).1 (zD3 d i (bG (cD3 d i) i)).2:=
 iR (st:=fun j _=>wD d [(5,xi i),(6,xi j)]) (fun _ _=>True) (by kernel_rfl) (by have:=h.au;omega) trivial (fun j s m hj _ ih=>by
  have rM:j<d.au.length:=by omega
  unfold gS cD3;cases e:((fA d j).var==(fA d i).var)
  .exact aN hO (.b (bC hj) (.o (aH rM) (.o (aH hi) (.b e (.nx (ih _ trivial))))))
  .exact aN hO (.b (bC hj) (.o (aH rM) (.o (aH hi) (.b e (.o (aH rM) (.o (aH hi) (.o (m12 (h.KC j rM)) (.ls (.ou nofun) (.nx (ih _ trivial))))))))))
  ) (fun s _=>aN hO (.b (fD i) (.ou nofun)))
def zD2(d:Dg):Unit⊕Nat->Ex×aS aF
 |.inl _=>(.exit 4,wD d [(5,xi d.au.length),(36,xl false)])
 |.inr _=>rD d
theorem lD2{n:Nat}(hO:Ok n a0T){d:Dg}(h:Bq d):Lp n 84 2 (wD d [(5,xi 0)]) (zD2 d (bG (cD2 d) d.au.length)).1 (zD2 d (bG (cD2 d) d.au.length)).2:=
 iR (st:=fun i _=>wD d [(5,xi i)]) (fun _ _=>True) (by kernel_rfl) h.au trivial (fun i s m hi _ ih=>by
  have hl:=lD3 hO h hi;unfold gS cD2;cases e1:CZ (fA d i)
  .cases e:jU (bG (cD3 d i) i)
   .exact aN hO (.b (bC hi) (.o (aH hi) (.o (m12 (h.KC i hi)) (.b e1 (.w (jW hl 0 e) (.ou nofun))))))
   .exact aN hO (.b (bC hi) (.o (aH hi) (.o (m12 (h.KC i hi)) (.b e1 (.w (jV hl () e) (.nx (ih _ trivial)))))))
  .exact aN hO (.b (bC hi) (.o (aH hi) (.o (m12 (h.KC i hi)) (.b e1 (.ou nofun)))))
  ) (fun s _=>aN hO (.b (fD d.au.length) (.ou nofun)))
def pz(d:Dg):Bool:=if jU (bG (cD0 d) d.aO.length)=true then(if jU (bG (cD2 d) d.au.length)=true then(if zl (srN d d.root) (d.au.length:Int)=true then zl (srE d d.root) (d.aO.length:Int)else false)else false)else false
theorem a0U{d:Dg}(h:Bq d):(srN d d.root).length<=ah∧(srE d d.root).length<=ah:=by
 have hl:=(JO h 6002 d.root ([],[]) sr0 h.root).len;exact⟨a4p hl.1 h.au,a4p hl.2 h.aO⟩
def aiY:eU aF:=bZ 84 (a1 dA) tA (fun p=>pz p) (fun p=>[Bq p,p.au.length<=6000]) a0T
theorem ao8:Gd aiY:=aiX.add fun n hO p hp=>aK hO (.zh (fun h=>.w (jV (lD0 hO (show Bq p from hp _ (.head _)).toDgL) () h) (.zh (fun h2=>.w (jV (lD2 hO (show Bq p from hp _ (.head _))) () h2) (.o (hp _ (.head _)) (.o (show Bq p from hp _ (.head _)).root (.o (hp _ (.tail _ (.head _))) (.o (a0U (hp _ (.head _))).1 (.ss (.o (a0U (hp _ (.head _))).2 .rr) .rr)))))) fun h2=>.w (jW (lD2 hO (show Bq p from hp _ (.head _))) 0 h2) .rr)) fun h=>.w (jW (lD0 hO (show Bq p from hp _ (.head _)).toDgL) 0 h) .rr)
theorem WY{d:Dg}(hm:d.aO.length<=ah){r:Int}{b:Nat}(h:iG d r b=true):jf d r b:=by
 unfold iG at h;by_cases c:0<=r
 .rw[a0V (by simpa using c)]at h;exact⟨by simpa using h,fun h2=>by omega⟩
 rw[a0S (by simpa using c),vw]at h;have e:i64.wrap ((d.aO.length:Int)-1)=(d.aO.length:Int)-1:=by unfold ah at hm;exact fF (by omega) (by omega)
 rw[e]at h;obtain⟨h1,h2⟩:=h;exact⟨by omega,fun _=>⟨h1,show jw r<_ by show i64.wrap (-1-r)<_;omega⟩⟩
theorem a6j{d:Dg}(h:DgL d)(hl:kZ d=true):Bq d:=by
 unfold kZ at hl;split at hl
 rotate_left
 .cases hl
 split at hl
 rotate_left
 .cases hl
 rename_i h1 h2;have h2:=dQ.1 h2;have key:∀i,i<d.au.length->mQ (fA d i).var 0 (xw d.ay)=true∧(((fA d i).aA.length:Int) != d.ay.getD (fA d i).var.toNat 0)=false∧jU (bG (cLk d i) (fA d i).aA.length)=true:=fun i hi=>by
  have:=h2 i hi;unfold Zc at this;split at this
  .cases this
  split at this
  .cases this
  split at this
  .rename_i a b c;exact⟨by simpa using a,by simpa using b,c⟩
  cases this
 refine⟨h,fun i hi k hk=>?_,fun i hi=>?_,fun i hi=>?_,fun i hi=>?_,WY h.aO hl⟩
 .have:=dQ.1 (key i hi).2.2 k hk;unfold cLk at this;split at this
  .cases this
  rename_i a;exact WY h.aO (by simpa using a)
 .exact WX h.eu (IW h.eu (key i hi).1) (key i hi).2.1
 .exact IW h.eu (key i hi).1
 simpa using(key i hi).2.1
theorem mG{d:Dg}(ho:d.aG.length<=ah)(he:d.aO.length<=ah)(h:(bF d != 0)=false):Bq d∧d.au.length<=6000:=by
 unfold bF at h;split at h
 .rename_i h1;simp at h h1;exact absurd h h1
 split at h
 .cases h
 split at h
 .cases h
 rename_i h1 h2 h3;have h2:decide ((d.au.length:Int)>6000)=false:=by simpa using h2
 exact⟨a6j ⟨ho,Um h2,he,Aj (by simpa using h1)⟩ (by simpa using h3),by simp at h2;omega⟩
def lF(d:Dg):Int:=if(bF d != 0)=true then bF d else if(!(pz d))=true then 4 else 0
def aj0:eU aF:=bZ 22 (a1 dA) iA (fun p=>lF p) (fun p=>[p.aG.length<=ah,p.aO.length<=ah]) aiY
theorem ao9:Gd aj0:=ao8.add fun n hO p hp=>aK hO (.o (hp _ (.head _)) (.o (hp _ (.tail _ (.head _))) (.sh (fun _=>.rr) fun h=>.o (mG (hp _ (.head _)) (hp _ (.tail _ (.head _))) h).1 (.o (mG (hp _ (.head _)) (hp _ (.tail _ (.head _))) h).2 (.ss .rr .rr)))))
open Go Tw Pv cO
def gAt(d:Dg)(p:List Int)(r:Int):Int⊕Int:=if decide (r>=0)=true then .inl ((aj d r).aA.getD (p.getD (aj d r).var.toNat 0).toNat 0)else .inr r
def atF(d:Dg)(p:List Int):Nat->Int->Int
 | 0,r=>r
 |F+1,r=>if r<0 then r else atF d p F ((aj d r).aA.getD (p.getD (aj d r).var.toNat 0).toNat 0)
theorem ac7{d:Dg}{p:List Int}:∀(F:Nat) (r:Int),atF d p F r<0->itF (gAt d p) (F+1) r=some (atF d p F r)
 | 0,r,h=>by
  have h:r<0:=h;have e:gAt d p r=.inr r:=by unfold gAt;rw[a0S (by simpa using h)]
  rw[itF,e];rfl
 |F+1,r,h=>by
  by_cases c:r<0
  .have e:gAt d p r=.inr r:=by unfold gAt;rw[a0S (by simpa using c)]
   rw[itF,e,atF,a0V c]
  have e:gAt d p r=.inl ((aj d r).aA.getD (p.getD (aj d r).var.toNat 0).toNat 0):=by unfold gAt;rw[a0V (by simp;omega)]
  rw[atF,a0S c]at h;rw[itF,e,atF,a0S c];exact ac7 F _ h
theorem OB{d:Dg}(h:Bq d){p:List Int}(hp:jF d.ay p=true){r:Int}(hr:gW r d.au.length):gW (aj d r).var p.length∧gW (p.getD (aj d r).var.toNat 0) (aj d r).aA.length∧jf d ((aj d r).aA.getD (p.getD (aj d r).var.toNat 0).toNat 0) r.toNat:=by
 obtain⟨r1,r2⟩:=hr;have hl:r.toNat<d.au.length:=by omega
 have hv:=h.var r.toNat hl;have hk:=h.ksz r.toNat hl;obtain⟨v1,v2⟩:=hv;obtain⟨p1,p2⟩:=nK.1 hp;have p3:=p2 (aj d r).var.toNat (by show(fA d r.toNat).var.toNat<_;omega);have k1:gW (p.getD (aj d r).var.toNat 0) (aj d r).aA.length:=⟨p3.1,by show _<((fA d r.toNat).aA.length:Int);rw[hk];exact p3.2⟩;refine⟨⟨v1,by rw[p1];exact v2⟩,k1,h.Ak r.toNat hl _ ?_⟩;obtain⟨k2,k3⟩:=k1;show _<(aj d r).aA.length;omega
theorem Un{d:Dg}(h:Bq d){p:List Int}(hp:jF d.ay p=true):∀(F:Nat) (r:Int),r<F->jf d r d.au.length->jf d (atF d p F r) 0
 | 0,r,hr,hk=>⟨by show r<((0:Nat):Int);omega,hk.2⟩
 |F+1,r,hr,hk=>by
  unfold atF;split
  .rename_i c;exact⟨by show r<((0:Nat):Int);omega,hk.2⟩
  rename_i c;have:=(OB h hp (r:=r) ⟨by omega,hk.1⟩).2.2;obtain⟨a1,a2⟩:=this;have a3:r<(d.au.length:Int):=hk.1;exact Un h hp F _ (by omega) ⟨by omega,a2⟩
abbrev atR(d:Dg)(p:List Int):Int:=atF d p 6001 d.root
def wK(d:Dg)(p:List Int):V:=d.aO.getD (jw (atR d p)).toNat V0
abbrev wAt(d:Dg)(p:List Int)(r:Int)(x:List (Nat×PE aF)):aS aF:=⟨[(1,xL 3 p),(2,.loc 0 0),(4,.loc 1 0),(5,xi r)]++x,[d.ps,V0.ps],[]⟩
theorem lAt{n:Nat}{fH:eU aF}(hO:Ok n fH){d:Dg}(h:Bq d)(hm:d.au.length<=6000){p:List Int}(hp:jF d.ay p=true):Lp n 98 0 (wAt d p d.root []) (.exit 0) (wAt d p (atR d p) [(9,xl false)]):=by
 have h0:d.root<(d.au.length:Int):=h.root.1;have ha:=Un h hp 6001 d.root (by omega) h.root;have PW:=ac7 6001 d.root ha.1;refine Zb (st:=fun r=>wAt d p r []) (g:=gAt d p) (out:=fun r=>(.exit 0,wAt d p r [(9,xl false)])) (fun r=>jf d r d.au.length) PW (by kernel_rfl) (by decide) h.root ?_ ?_
 .intro r r1 hr e;unfold gAt at e;split at e
  .rename_i c;have c:0<=r:=(by simpa using c);cases e;have:=(OB h hp (r:=r) ⟨c,hr.1⟩).2.2;have a3:r<(d.au.length:Int):=hr.1;obtain⟨a1,a2⟩:=this;exact⟨by omega,a2⟩
  cases e
 intro r m r' hr ih;by_cases c:0<=r
 .have hk:=OB h hp (r:=r) ⟨c,hr.1⟩;have t1:decide (r>=0)=true:=by simpa using c
  have e:gAt d p r=.inl ((aj d r).aA.getD (p.getD (aj d r).var.toNat 0).toNat 0):=by unfold gAt;rw[a0V t1]
  have g:=ih _ e;rw[e];have xg:gW r d.au.length:=⟨c,hr.1⟩;exact aN hO (.b t1 (.o xg (.o xg (.o hk.1 (.o hk.2.1 (.go g))))))
 have t1:decide (r>=0)=false:=by simpa using c
 have e:gAt d p r=.inr r:=by unfold gAt;rw[a0S (by rw[t1];simp)]
 rw[e];dsimp only[CQ];exact aN hO (.b t1 .ex)
theorem a9N{d:Dg}(h:Bq d)(hm:d.au.length<=6000){p:List Int}(hp:jF d.ay p=true):gW (jw (atR d p)) d.aO.length:=by
 have h0:d.root<(d.au.length:Int):=h.root.1;have ha:=Un h hp 6001 d.root (by omega) h.root;exact ha.2 ha.1
def aj1:eU aF:=bZ 98 (a2 dA qB) vA (fun p=>wK p.1 p.2) (fun p=>[Bq p.1,p.1.au.length<=6000,jF p.1.ay p.2=true]) aj0
theorem aoa:Gd aj1:=ao9.add fun n hO p hp=>aK hO (.w (lAt hO (hp _ (.head _)) (hp _ (.tail _ (.head _))) (hp _ (.tail _ (.tail _ (.head _))))) (.o (a9N (hp _ (.head _)) (hp _ (.tail _ (.head _))) (hp _ (.tail _ (.tail _ (.head _))))) .rr))
open Go Tw Pv cO
theorem a9O{A:Nat->Prop}{m:List MB}{h:List HB}{l:List Int}{cs:List TV}(hr:dV X0 Qp A m h 3 l cs 0 1)(hc:cs.length=l.length):cs=l.map fun n=>TV.int .i64 n:=by
 apply aae (by simp[hc]);intro j h1 h2;have hj:j<l.length:=by omega
 have:=hr.2.2 j l[j] 0 (.int .i64 l[j]) cs[j] (a0E hj) rfl (by rw[a02];exact⟨by omega,by simp⟩);rw[this.a0M];simp
theorem RU:∀l:List Int,JK (l.map fun n=>TV.int .i64 n)=some l
 | []=>rfl
 |a::l=>by simp[JK,RU l]
theorem RV{A:Nat->Prop}{m:List MB}{h:List HB}(l:List Int):dV X0 Qp A m h 3 l (l.map fun n=>TV.int .i64 n) 0 1:=by
 refine⟨fun j a _=>rfl,by simp only[a3Q,agv,a3E];exact a1J _,fun j a i c v hj hi hv=>?_⟩;have rM:=(a02.1 hj).1;cases i with
 |zero=>
  have hi:some (PV.int .i64 a)=some c:=hi;cases hi;have hj:(l:List Int)[j]? = some a:=hj;rw[a3E,agv,ade,a3V,hj]at hv;have hv:some (TV.int .i64 a)=some v:=hv;cases hv;exact .int _ _
 |succ i=>have hi:([]:List (PV aF))[i]? = some c:=hi;simp at hi
theorem JQ:dw Qp 3=some 1:=by kernel_rfl
theorem a6k(n:Nat)(x:TV)(h:List HB):kJ Qp T LL (n+1) (.fn 137 [] []) [x] h=Ot 137 (.fn 137 [] []) [x] h:=rfl
theorem a9P{f c:Nat}{h:List HB}{kk AX:BK}{cs:List TV}{l:List Int}{e:Bool}(hb:h[c]? = some (.cells kk cs))(hk:zK kk true=some AX)(QB:cs=l.map fun n=>TV.int .i64 n)(h0:0<l.length)(h1:l.length<=2^20) :
  Ot f (.fn f [] []) [.slc c 0 l.length l.length 1 e] h=some (.dG [],h.set c (.cells AX ((gy l).map fun n=>TV.int .i64 n)),[c]):=by
 have pU:cs.length=l.length:=by rw[QB,a3Q]
 have him:JK cs=some l:=by rw[QB];exact RU l
 generalize l.length=n at *;obtain⟨j,rfl⟩:∃j,n=j+1:=⟨n-1,by omega⟩;simp only[Ot,a5U,a2D,hb,hk,him,pU,h0,h1,acG]
theorem ac8{n:Nat}{k ex:Bool}(l:List Int)(hl:l.length<=2^20):aV X0 Qp (bP (n+1)) (.fn 137 [] []) [.own 0] [.list k ex 3 l] (.dG []) [.list k ex 3 (gy l)]:=by
 intro A m h tf rO hr hf hx;obtain⟨x,r,rfl,h1,h2⟩:=hx.inv;have:=h2.inv0;subst this;obtain⟨g1,g2⟩:=a9t hr (i:=0) (k:=k) (ex:=ex) (t:=3) (l:=l) rfl h1;have htf:=hf.Uj;subst htf;show ∃w h1 ws m1,kJ Qp T LL (n+1) _ _ h=_∧_;rw[a6k];have aob:gy ([]:List Int)=[]:=by simp[gy]
 have hE:∀h0:(l:List Int)=[],gy l=l:=fun h0=>by rw[h0];exact aob
 rcases aeb g2 with⟨h0,rfl⟩|⟨h0,b,off,sz,cs,rfl,p0,p1,p2,p3,p4⟩|⟨p1,c,sz,e,kk,cs,rfl,p2,p3,p4,p5,p6,p7,p8,p9⟩
 .rw[hE h0];exact⟨.dG [],h,[],m,rfl,hr,.dG rfl (fun i x y hx=>by simp at hx),.refl,.refl,fun b hb=>by cases hb⟩
 .rw[hE h0];exact⟨.dG [],h,[],m,rfl,hr,.dG rfl (fun i x y hx=>by simp at hx),.refl,.refl,fun b hb=>by cases hb⟩
 rw[JQ]at p2;cases p2;have p8:cs.length=(l:List Int).length*1:=p8;have pU:cs.length=l.length:=by omega
 have QB:=a9O p9 pU;have hn0:0<l.length:=by cases l with|nil=>exact absurd rfl p1|cons=>simp
 obtain⟨AX,xJ,adG,hko⟩:=Iw p5;have aQ:=(a02.1 p4).1;have uZ:(MB.dn (TV.slc c 0 l.length l.length 1 e)).own=some c:=by simp only[MB.own];rw[a0S (by omega)]
 have hsl:(gy l).length=l.length:=by unfold gy;rw[aam]
 have iq:gy l≠[]:=fun e0=>by rw[e0]at hsl;simp at hsl;omega
 obtain⟨q1,q2⟩:=hr.set (i:=0) (c:=c) (pb:=.list k ex 3 (gy l)) (hb:=.cells AX ((gy l).map fun n=>TV.int .i64 n)) g1 uZ
  (fun VX I4=>⟨_,by simp only[aU];rw[a1V aQ],by
   simp only[aU,p4,a01]at I4;subst I4;rw[a3Q,hsl,pU];exact a1J _⟩)
  (fun hF=>by
   have r:=LR.some (X:=X0) (P:=Qp) (A:=AA A m) (m:=m) (k:=k) (ex:=ex) (e:=e) (t:=3) (b:=c) (kk:=AX) iq JQ (by decide) (by rw[a1V aQ]) adG (fun e0=>hko (p6 e0)) p7 (by rw[a3Q,agv];rfl) (RV (gy l));have aoc:@List.length (X0.Γ 3) (gy l)=l.length:=hsl;rw[aoc]at r;exact r)
 refine⟨.dG [],_,[c],m,?_,q1,.dG rfl (fun i x y hx=>by simp at hx),q2,.refl,fun d hd=>?_⟩
 .exact a9P p4 xJ QB hn0 hl
 simp at hd;subst hd;exact aZ g1 uZ
end Go.Proofs.YtmobpoiejckagaaGreat
namespace Pv
open Go Tw
variable {X:kC} {P:Program}
theorem nR.a9Q(hX:bK X P){call:aY}{f:FuncId}{xs vs:List (PV X.Γ)}{v v':PV X.Γ}{ext ext':List (PB X.Γ)}(hc:nR X P call f vs v ext)(hv:views [] ([]++xs++[])=some vs)(hs:qN X 0 ext=some ext')
  (e:shift 0 v=v') (he:(if xk v||ext.any (hasB X)then aX (kF.jR ([]++xs++[])) []else [])=([]:List (PB X.Γ))):aV X P call (.fn f [] []) xs [] v' ext':=by
 subst e;intro A m h tf rO hr hf hx;have htf:=hf.Uj;subst htf;obtain⟨w,h',m1,c1,c2,c3,c4,c5⟩:=GI hX hc hr hv hs (t1:=[]) (t3:=[]) .nil hx .nil;rw[he]at c2;exact⟨w,h',[],m1,c1,c2,c3,c4,c5,fun b hb=>by cases hb⟩
end Pv
namespace Go.Proofs.YtmobpoiejckagaaGreat
open Go Tw Pv cO
abbrev lsI(l:List Int):List (PB aF):=[.list false false 3 l]
theorem a2K(n:Nat)(h:List HB):TT Qp T (bP n) LL 125 [.nil .slc] h=some (.nil .slc,h,[]):=by kernel_rfl
theorem a2L(n b off cap:Nat)(ex:Bool)(h:List HB):TT Qp T (bP n) LL 125 [.slc b off 0 cap 1 ex] h=some (.slc h.length 0 0 0 1 true,h++[.cells .own []],[]):=by kernel_rfl
theorem aeB{n:Nat}:nR X0 Qp (bP (n+1)) 125 [.dn 3 ([]:List Int) false] (.own 0) (lsI []):=by
 intro A h first args cap I5 hv
 obtain⟨x,r,e,h1,h2⟩:=hv.inv;have:=h2.inv0;subst this;have hun:kJ Qp T LL (n+1) (.fn 125 first cap) args h=TT Qp T (bP n) LL 125 [x] h:=by
  rw[<-e];show kJ Qp T LL (n+1) _ _ _=_;rw[kJ,a0S (by decide),a0S (by decide)]
 rcases a5M h1 with rfl|⟨b,off,cap',sz,ex,cs,rfl,a1,a2,a3,a4,a5⟩
 .exact⟨.nil .slc,h,[.dn (.nil .slc)],by rw[<-a2K n h,<-hun],WG I5 .nil rfl,.own rfl rfl,⟨a1J _,fun _ _ _=>rfl,fun b hb=>by simp[bn,MB.own]at hb,fun b cs hc=>⟨cs,hc,a1J _⟩⟩⟩
 rw[JQ]at a3;cases a3;have hc:aU (h++[HB.cells .own []]) h.length=some []:=by unfold aU;rw[a1H (a1J _),agh];rfl
 refine⟨.slc h.length 0 0 0 1 true,h++[.cells .own []],[.dn (.slc h.length 0 0 0 1 true)],by rw[<-a2L n b off cap' ex h,<-hun],WG (fun b hb=>I5 b (by simp at hb;omega)) (.emp ⟨I5 _ (a1J _),by simp[bn,MB.own]⟩ hc (a1J _) JQ (by decide)) (by simp[MB.own]),.own rfl rfl,⟨by simp,fun b hb _=>by rw[a0N hb],fun b hb=>by simp[bn,MB.own]at hb,fun b cs hc=>⟨cs,?_,a1J _⟩⟩⟩;rw[fJ (a0N (gu hc)),hc]
def ac9:eU aF:=Z8 125 (a1 qB) (fun _=>.own 0) (fun p=>lsI p) (fun p=>[p.length<=ah]) aj1
theorem aj3:Gd ac9:=aoa.WB 0 fun n _ hO p hp=>by
 have hl:p.length<=ah:=hp _ (.head _);by_cases h:p=[]
 .subst h;exact aeB
 .have h2:([]:List Int).length+p.length<=ah:=by simpa using hl
  exact nR.gs hX (Bd hX (hO n (by omega)) (v:=.own 1) (H:=[.gone,.list true false 3 p]) (by kernel_rfl) (.o h (.b (rfl:false=false) (.o h2 .er)))) [.gc [1],.flag 0] rfl
abbrev a9R(m:Nat)(i:Int)(l:List Int)(x:List (Nat×PE aF)):aS aF:=⟨[(3,xo 0),(7,xi m),(8,xi i)]++x,[],[.list true true 3 l]⟩
theorem a6l(m:Nat):aW (fun k (l:List Int)=>l.set k (k:Int)) m 0 (List.replicate m 0)=dN m:=by
 have:=dW (g:=fun k (l:List Int)=>l.set k (k:Int)) (m:=m) (k:=0) (s:=List.replicate m 0) (fun k l=>l.length=m∧∀j,j<k->l.getD j 0=(j:Int)) ⟨by simp,by simp⟩ (fun j l _ hj h=>⟨by simp[h.1],fun i hi=>by
  rw[cO.yR (by omega)];split
  .rename_i e;rw[e]
  exact h.2 i (by omega)⟩)
 rw[rC (d:=0) (by rw[this.1,kY])];intro j hj;have rM:j<m:=by have:=this.1;omega
 rw[this.2 j (by omega)];simp[dN,List.getD,a3V,agr,rM]
theorem aod{n:Nat}{fH:eU aF}(hO:Ok n fH)(m:Nat)(hm:m<=ah):Lp n 159 0 (a9R m 0 (List.replicate m 0) []) (.exit 0) (a9R m m (dN m) [(9,xl false)]):=by
 rw[<-a6l];exact y9 (σ:=List Int) (N:=m) (g:=fun k (l:List Int)=>l.set k (k:Int)) (s0:=List.replicate m 0) (st:=fun i (l:List Int)=>a9R m i l []) (fin:=fun(l:List Int)=>a9R m m l [(9,xl false)]) (fun _ (l:List Int)=>l.length=m) (by kernel_rfl) hm (by simp) (fun k l _ h=>by simp[h]) (fun k l hk hl j e p g=>aN hO (.b (bC hk) (.o (aH (show k<l.length by omega)) (.go g)))) (fun l _=>aN hO (.b (fD m) .ex))
def acd:eU aF:=bZ 159 (a1 iA) qB (fun p=>dN p.toNat) (fun p=>[0<=p,p<=(ah:Int)]) ac9
theorem aj6:Gd acd:=aj3.add fun n hO p hp=>by
 have h0:0<=p:=hp _ (.head _);have h1:p<=(ah:Int):=hp _ (.tail _ (.head _));obtain⟨m,rfl⟩:∃m:Nat,p=(m:Int):=⟨p.toNat,by omega⟩;exact aK hO (.o (rfl:(m:Int)=(m:Int)) (.o h0 (.o h1 (.w (aod hO m (by omega)) .rr))))
abbrev aeC(a b:List Int)(i:Int)(x:List (Nat×PE aF)):aS aF:=⟨[(0,xL 3 a),(1,xL 3 b),(12,xi a.length),(13,xi i)]++x,[],[]⟩
def aj7(a b:List Int):Unit⊕Nat->Ex×aS aF
 |.inl _=>(.exit 0,aeC a b a.length [(14,xl false)])
 |.inr _=>(.ret,⟨[(4,xl false)],[],[]⟩)
theorem aj8{n:Nat}{fH:eU aF}(hO:Ok n fH)(a b:List Int)(hl:a.length<=ah)(h:a.length=b.length):Lp n 158 0 (aeC a b 0 []) (aj7 a b (bG (JL a b) a.length)).1 (aj7 a b (bG (JL a b) a.length)).2:=
 iR (st:=fun i _=>aeC a b i []) (fun _ _=>True) (by kernel_rfl) hl trivial (fun k s m hk _ ih=>aN hO (.b (bC hk) (.o (aH hk) (.o (aH (h▸hk)) (.ls (.ou nofun) (.nx (ih _ trivial))))))) (fun s _=>aN hO (.b (fD a.length) (.ou nofun)))
def ace:eU aF:=bZ 158 (a2 qB qB) tA (fun p=>decide (p.1=p.2)) (fun p=>[p.1.length<=ah]) acd
theorem aj9:Gd ace:=aj6.add fun n hO p hp=>aK hO (.s (fun h=>.v false (a5X h).symm) fun h=>.z (c:=jU (bG (JL p.1 p.2) p.1.length)) (fun h2=>.w (jV (aj8 hO p.1 p.2 (hp _ (.head _)) (kX h)) () h2) (.v true (by rw[<-DL (kX h),h2]))) fun h2=>.w (jW (aj8 hO p.1 p.2 (hp _ (.head _)) (kX h)) 0 h2) (.v false (by rw[<-DL (kX h),h2])))
def a6m:eU aF:=bZ 157 (a3 iA iA qB) tA (fun p=>lY p.2.2 p.1 p.2.1) (fun p=>[p.2.2.length<=ah]) ace
theorem aja:Gd a6m:=aj9.deep 3 fun n hn hO p hp=>by
 have h1:∀x,aV X0 Qp (bP (n-3+1)) (.fn 188 [] [.ptr 0 0 1,.ptr 1 0 1]) [.int .i64 x] [.cells [.int .i64 p.1],.cells [.int .i64 p.2.1]] (tA.put (vK x p.1 p.2.1)) [.cells [.int .i64 p.1],.cells [.int .i64 p.2.1]]:=fun x=>iZ fQ (first:=[]) (.ssh (fun _=>.sr) (fun _=>.sr));obtain⟨n,rfl⟩:∃k,n=k+3:=⟨n-3,by omega⟩;rw[show n+3-3+1=n+1 by omega]at h1;have h2:=ahX (n:=n+2) (by omega) (g:=fun x=>vK x p.1 p.2.1) h1 p.2.2 (hp _ (.head _));exact aK (hO _ (by omega)) (.k h2 (.v (!(lX (fun x=>vK x p.1 p.2.1) p.2.2)) (by rw[DF];rfl)))
def a0W(s:List Int):Int:=aW (fun k n=>i64.wrap (n*s.getD k 0)) s.length 0 1
theorem WZ:∀{s:List Int},oG s->bf s<=12^s.length
 | [],_=>by decide
 |a::t,h=>by
  have h1:=WZ h.tail;have h2:=iL h.tail;have h3:=h a (.head _);have h4:a*bf t<=12*bf t:=a8A h3.2 (by omega);show a*bf t<=12^(t.length+1);rw[Int.pow_succ];omega
theorem ajb:∀{n:Nat},n<=6->(12:Int)^n<=2985984:=by decide
theorem a6n{s:List Int}(h:oG s)(hl:s.length<=6):a0W s=bf s:=by
 have:=dW (g:=fun k n=>i64.wrap (n*s.getD k 0)) (m:=s.length) (k:=0) (s:=1) (fun k n=>n=bf (s.take k)) (by simp[bf]) (fun j n _ hj e=>by
  have rM:j<s.length:=by omega
  have e2:bf (s.take (j+1))=n*s.getD j 0:=by
   rw[a6Y rM,DI,e];simp[bf,List.getD,a0E rM]
  have h1:=Qa h (j+1);have h2:1<=bf (s.take (j+1)):=iL fun a ha=>h a (a8Z ha);have h3:=WZ h;have h4:=ajb hl;show i64.wrap (n*s.getD j 0)=_;rw[e2]at h1 h2 ⊢;exact fF (by omega) (by omega))
 rw[a0W,this];simp
abbrev a9S(a b:List Int)(p i:Int)(x:List (Nat×PE aF)):aS aF:=⟨[(0,xL 3 a),(1,xL 3 b),(5,xi p),(17,xL 3 a),(18,xi a.length),(19,xi i)]++x,[],[]⟩
theorem aoe{n:Nat}{fH:eU aF}(hO:Ok n fH)(a b:List Int)(hl:a.length<=ah):Lp n 105 0 (a9S a b 1 0 []) (.exit 1) (a9S a b (a0W a) a.length [(20,xl false)]):=
 JJ (st:=fun i n=>a9S a b n i []) (fin:=fun n=>a9S a b n a.length [(20,xl false)]) (fun _ _=>True) (by kernel_rfl) hl Qb trivial (fun _ _ _ _=>trivial) (fun k s hk _ n e p h=>aN hO (.b (bC hk) (.o (aH hk) (.go h)))) (fun s _=>aN hO (.b (fD a.length) .ex))
theorem aeD{n:Nat}(hO:Ok n a6m)(l:List Int)(hl:l.length<=ah):aV X0 Qp (bP n) (.fn 125 [] []) [.dn 3 l false] [] (.own 0) (lsI l):=
 nR.a9Q hX (hO 125 [.dn 3 l false] (.own 0) (lsI l) [l.length<=ah] (by kernel_rfl) (List.forall_mem_singleton.2 hl)) rfl rfl rfl rfl
theorem a6o(n:Nat):(dN n).Pairwise fun a b=>decide (a<=b)=true:=by
 unfold dN;rw[ag5];exact List.pairwise_lt_range.imp fun h=>by simp;omega
theorem a2M{n:Nat}{o:List Int}:decide (gy o=dN n)=jX n o:=by
 rw[a4g,a1T];have h2:=RN n;have hp:(gy o).Perm o:=aez _ _;constructor
 .intro h;rw[h]at hp;unfold jX at h2 ⊢;rw[a1T]at h2 ⊢;exact⟨by rw[<-hp.length_eq,h2.1],fun a ha=>h2.2.1 a (hp.mem_iff.2 ha),hp.nodup_iff.1 h2.2.2⟩
 intro h;unfold jX at h h2;rw[a1T]at h h2;have e:o.Perm (dN n):=(a7H h.2.2 h2.2.2).2 fun a=>by
  have hm:∀x,0<=x∧x<(n:Int)->x∈dN n:=fun x hx=>by
   unfold dN;rw[a1L];exact⟨x.toNat,by rw[a3R];omega,by omega⟩
  constructor
  .exact fun ha=>hm a (h.2.1 a ha)
  intro ha;by_cases hc:a∈o
  .exact hc
  have:=ad5 (l₁:=a::o) (l₂:=dN n) (a3P.2 ⟨hc,h.2.2⟩) (fun x hx=>by
   rcases a2t.1 hx with rfl|hx
   .exact ha
   exact hm x (h.2.1 x hx))
  rw[kY]at this;simp at this;omega
 refine List.Perm.eq_of_pairwise (le:=fun a b=>decide (a<=b)=true) (fun a b _ _ h1 h2=>by simp at h1 h2;omega) ?_ (a6o n) (hp.trans e);exact List.pairwise_mergeSort (fun a b c h1 h2=>by simp at h1 h2 ⊢;omega) (fun a b=>by simp;omega) o
def X3(s o:List Int):Int:=if decide ((s.length:Int)>6)=true then 5 else if(!(lY s 1 12))=true then 3 else if decide (a0W s>2000)=true then 5 else if(!(decide (gy o=dN s.length)))=true then 4 else 0
theorem X4(s o:List Int):X3 s o=cZ s o:=by
 rw[Oy];unfold X3;rw[a2M];by_cases h1:6<s.length
 .rw[a0V (by simp;omega),a0V h1]
 rw[a0S (by simp;omega),a0S h1];have hw:lY s 1 12=decide (oG s):=by
  unfold lY;rw[a4g,a8m,List.any_eq_false,a1T];refine abq fun a=>abq fun _=>?_;unfold vK;split
  .rename_i h;simp at h ⊢;omega
  rename_i h;simp at h ⊢;omega
 rw[hw];by_cases h2:oG s
 .rw[a0S (by simp[h2]),a0V h2,a6n h2 (by omega)];simp only[a1T,Int.not_lt,gt_iff_lt];split
  .rfl
  cases jX s.length o<;>simp
 rw[a0V (by simp[h2]),a0S h2]
def acf:eU aF:=bZ 105 (a2 qB qB) iA (fun p=>cZ p.1 p.2) (fun p=>[p.1.length<=ah,p.2.length<=2^20]) a6m
theorem ajc:Gd acf:=aja.deep 1 fun n hn hO p hp=>by
 obtain⟨n,rfl⟩:∃k,n=k+1:=⟨n-1,by omega⟩;have hO:=hO (n+1) (by omega);have h1:p.1.length<=ah:=hp _ (.head _);have h2:p.2.length<=2^20:=hp _ (.tail _ (.head _));have h3:p.2.length<=ah:=by unfold ah;omega
 have h4:(dN p.1.length).length<=ah:=by rw[kY];exact h1
 have h5:(gy p.2).length<=ah:=by unfold gy;rw[aam];exact h3
 show nR X0 Qp _ _ _ (iA.put (cZ p.1 p.2)) _;rw[<-X4];exact aK hO (.ss .rr (.o h1 (.ss .rr (.w (aoe hO p.1 p.2 h1) (.ss .rr (.fr [] (aeD hO p.2 h3) (.fr [0] (ac8 (n:=n) (k:=false) (ex:=false) p.2 h2) (.o (show(0:Int)<=(p.1.length:Int) by omega) (.o (show(p.1.length:Int)<=(ah:Int) by omega) (.o h5 (.ss .rr .rr)))))))))))
open Go Tw Pv cO
theorem X5{α:Type}(x:α):[x].length<=ah:=by unfold ah;simp
def qw(v:V):Bool:=if decide (v.f>0)=true then(if decide (v.f<=4)=true then v.n==0 else false)else lY [v.n] (-9999) 9999
def acg:eU aF:=bZ 190 (a1 vA) tA (fun p=>qw p) np acf
theorem ajd:Gd acg:=ajc.add fun n hO p hp=>aK hO (.ss (.ss .rr .rr) (.o (X5 p.n) .rr))
abbrev frA:Uh X0 Qp (List Int×List Int):=a2 qB qB
abbrev cIx(l:List Int)(v:Int)(k:Nat):Bool:=v==l.getD k 0
abbrev aeE(l:List Int)(v:Int)(i:Int)(x:List (Nat×PE aF)):aS aF:=⟨[(0,xL 3 l),(1,xi v),(7,xi l.length),(8,xi i)]++x,[],[]⟩
def z234(l:List Int)(v:Int):Unit⊕Nat->Ex×aS aF
 |.inl _=>(.exit 0,aeE l v l.length [(9,xl false)])
 |.inr k=>(.ret,⟨[(4,xi k)],[],[]⟩)
theorem aje{n:Nat}{fH:eU aF}(hO:Ok n fH)(l:List Int)(v:Int)(hl:l.length<=ah):Lp n 234 0 (aeE l v 0 []) (z234 l v (bG (cIx l v) l.length)).1 (z234 l v (bG (cIx l v) l.length)).2:=
 iR (st:=fun i _=>aeE l v i []) (fun _ _=>True) (by kernel_rfl) hl trivial (fun k s m hk _ ih=>aN hO (.b (bC hk) (.o (aH hk) (.ls (.ou nofun) (.nx (ih _ trivial)))))) (fun s _=>aN hO (.b (fD l.length) (.ou nofun)))
def mV(l:List Int)(v:Int):Int:=if jU (bG (cIx l v) l.length)=true then -1 else((CP 0 (bG (cIx l v) l.length):Nat):Int)
def aci:eU aF:=bZ 234 (a2 qB iA) iA (fun p=>mV p.1 p.2) (fun p=>[p.1.length<=ah]) acg
theorem ajf:Gd aci:=ajd.add fun n hO p hp=>aK hO (.zh (fun h=>.w (jV (aje hO p.1 p.2 (hp _ (.head _))) () h) .rr) fun h=>.w (jW (aje hO p.1 p.2 (hp _ (.head _))) 0 h) .rr)
def acj:eU aF:=bZ 223 (a2 (a5H (a2 qB qB)) iA) iA (fun p=>mV p.1.2 p.2) (fun p=>[p.1.2.length<=ah]) aci
theorem ajg:Gd acj:=ajf.add fun n hO p hp=>aK hO (.o (hp _ (.head _)) .rr)
def acn:eU aF:=bZ 197 (a1 iA) iA (fun p=>i64.wrap (-1-p)) np acj
theorem ajh:Gd acn:=ajg.add fun n hO p hp=>aK hO .rr
structure Lo where
 s:List Int
 o:List Int
 d:Dg
abbrev Lo.ps(l:Lo):List (PV aF):=[.dn 3 l.s false,.dn 3 l.o false]++l.d.ps
def loA:Arg Lo:=ae7 (a5H (KA qB (KA qB (KA qB (a4 qB vsA a9x iA))))) (fun p=>⟨p.1,p.2.1,⟨p.2.2.1,p.2.2.2.1,p.2.2.2.2.1,p.2.2.2.2.2.1,p.2.2.2.2.2.2⟩⟩) (fun l=>(l.s,l.o,l.d.ay,l.d.aG,l.d.aO,l.d.au,l.d.root)) fun _=>rfl
def pR(l:Lo)(Ak below KD:Int):Bool:=if decide (Ak<0)=true then decide (i64.wrap (-1-Ak)<(l.d.aO.length:Int))else if decide (Ak<below)=true then decide (mV l.o (l.d.au.getD Ak.toNat mP).var>KD)else false
def X6:eU aF:=bZ 193 (a4 loA iA iA iA) tA (fun p=>pR p.1 p.2.1 p.2.2.1 p.2.2.2) (fun p=>[p.1.o.length<=ah,0<=p.2.1->p.2.1<p.2.2.1->gW p.2.1 p.1.d.au.length]) acn
theorem aji:Gd X6:=ajh.add fun n hO p hp=>aK hO (.sh (fun _=>.rr) fun h=>.sh (fun h2=>.o (hp (0<=p.2.1->p.2.1<p.2.2.1->gW p.2.1 p.1.d.au.length) (.tail _ (.head _)) (by simpa using h) (by simpa using h2)) (.o (hp _ (.head _)) .rr)) fun _=>.rr)
abbrev Hb(l:Lo)(i:Int)(b:Br):List (PB aF):=[.cells l.ps,.cells [.int .i64 i],.cells b.ps]
theorem aof{n f:Nat}{a c:List (PV aF)}{H:List (PB aF)}{g:Int->Bool}(l:List Int)(hf:∀x∈l,aV X0 Qp (bP n) (.fn f a c) [.int .i64 x] H (.bool (g x)) H)(hl:l.length<=ah):aV X0 Qp (bP (n+1)) (.fn 218 [] []) [.dn 3 l false,.fn f a c] H (iA.put (qW g l)) H:=by
 have lp:Ov n 218 0 H.length (a5W f a c H l 0 []) (z218 f a c H l (lT (oZ g) l 0 ())).1 (z218 f a c H l (lT (oZ g) l 0 ())).2:=
  Wy (st:=fun i _=>a5W f a c H l i []) (0:Int) (fun _ _=>True) (by kernel_rfl) hl Qb trivial (fun k s n hk _ ih=>aN fQ (.b (bC hk) (.o (aH hk) (.k (hf (l.getD k (0:Int)) (dZ hk)) (.ls (.ou nofun) (.nx (ih _ trivial))))))) (fun s _=>aN fQ (.b (fD l.length) (.ou nofun)))
 exact iZ fQ (first:=[]) (cap:=[]) (.szh (fun h=>.w (jV lp () h) .sr) (fun h=>.w (jW lp (0,0,()) h) .sr))
theorem ajj{n f:Nat}{a c:List (PV aF)}{H:List (PB aF)}{g:Int->Bool}(l:List Int)(hf:∀x∈l,aV X0 Qp (bP n) (.fn f a c) [.int .i64 x] H (.bool (g x)) H)(hl:l.length<=ah):aV X0 Qp (bP (n+2)) (.fn 181 [] []) [.dn 3 l false,.fn f a c] H (tA.put (l.any g)) H:=by
 have h1:=aof l hf hl;have h2:=DF g l;rw[<-h2];exact iZ fQ (first:=[]) (cap:=[]) (.k h1 .sr)
theorem DN{α:Type}(l:List α)(g:α->Bool):(!(l.any fun x=>!(g x)))=l.all g:=by
 induction l with
 |nil=>rfl
 |cons a l ih=>simp only[acX,abn,Bool.not_or,Bool.not_not,ih]
abbrev pB:List (PV aF):=[.ptr 0 0 7,.ptr 1 0 1,.ptr 2 0 2]
theorem aog{n f:Nat}{l:Lo}{i:Int}{b:Br}{g:Int->Bool}(ks:List Int)(hf:∀x∈ks,aV X0 Qp (bP n) (.fn f [] pB) [.int .i64 x] (Hb l i b) (tA.put (g x)) (Hb l i b))(hl:ks.length<=ah):aV X0 Qp (bP (n+4)) (.fn 191 [] []) [.dn 3 ks false,.fn f [] pB] (Hb l i b) (tA.put (ks.all g)) (Hb l i b):=by
 have h1:∀x∈ks,aV X0 Qp (bP (n+1)) (.fn 221 [] [.ptr 3 0 1]) [.int .i64 x] (Hb l i b++[.cells [.fn f [] pB]]) (tA.put (!(g x))) (Hb l i b++[.cells [.fn f [] pB]]):=fun x hx=>
  iZ fQ (first:=[]) (.fr [0,1,2] (hf x hx) .sr)
 have h2:=ajj ks h1 hl;rw[<-DN ks g];exact aV.drop hX (CO hX fQ (first:=[]) (cap:=[]) (H1:=Hb l i b++[.cells [.fn f [] pB]]) (by kernel_rfl) (.k h2 .sr)) rfl rfl
theorem a0X{x a b:Int}:lY [x] a b=decide (a<=x∧x<=b):=by
 unfold lY vK;simp only[acX,List.any_nil,Bool.or_false];by_cases h:x<a
 .rw[a0V (by simpa using h),a8q,eq_comm,a3t];omega
 rw[a0S (by simpa using h),a4g,a8m,a3t,a1T];omega
theorem X7{l:List Br}{k:Nat}(h:k<l.length):l.getD k mP∈l:=by simp[List.getD,a0E h]
abbrev wL(l:Lo)(i:Int):Br:=l.d.au.getD i.toNat mP
def Fg(l:Lo)(i:Int):Bool:=if(!(lY [(wL l i).var] 0 (xw l.s)))=true then false else if(((wL l i).aA.length:Int) != l.s.getD (wL l i).var.toNat 0)=true then false else(wL l i).aA.all fun x=>pR l x i (mV l.o (wL l i).var)
theorem ajk{n:Nat}(hO:∀m,n<=m->Ok m X6){l:Lo}{i:Int}(ho:l.o.length<=ah)(hf:wH l.s)(hi:gW i l.d.au.length):aV X0 Qp (bP (n+6)) (.fn 192 [.agg l.ps] []) [.int .i64 i] [] (tA.put (Fg l i)) []:=by
 have h1:∀x∈(wL l i).aA,aV X0 Qp (bP (n+1)) (.fn 222 [] pB) [.int .i64 x] (Hb l i (wL l i)) (tA.put (pR l x i (mV l.o (wL l i).var))) (Hb l i (wL l i)):=fun x _=>
  iZ (hO n (a1J _)) (first:=[]) (.o ho (.o ho (.o (show 0<=x->x<i->gW x l.d.au.length from fun h0 h1=>⟨h0,by have:=hi.1;have:=hi.2;omega⟩) .sr)))
 have hv:(!(lY [(wL l i).var] 0 (xw l.s)))=false->gW (wL l i).var l.s.length:=fun h=>by
  rw[a0X,ad4,a1T,a5Y hf.ahV]at h;exact⟨h.1,by omega⟩
 have hk:(!(lY [(wL l i).var] 0 (xw l.s)))=false->(((wL l i).aA.length:Int) != l.s.getD (wL l i).var.toNat 0)=false->(wL l i).aA.length<=ah:=fun h h2=>by
  have h3:=hv h;have h4:=hf.sz _ (dZ (s:=l.s) (k:=(wL l i).var.toNat) (by have:=h3.2;have:=h3.1;omega));have h2:((wL l i).aA.length:Int)=l.s.getD (wL l i).var.toNat 0:=by simpa using h2
  exact m12 (by omega)
 exact aV.drop hX (CO hX (hO (n+5) (by omega)) (first:=[.agg l.ps]) (cap:=[]) (H1:=Hb l i (wL l i)++[.list true true 3 [(wL l i).var]]) (by kernel_rfl) (.o hi (.o (X5 (wL l i).var) (.ssh (fun _=>.sr) fun h5=>.o (hv h5) (.ssh (fun _=>.sr) fun h6=>.fr [0,1,2] (aog (wL l i).aA h1 (hk h5 h6)) .sr))))) rfl rfl
abbrev a2N(f:Nat)(a:List (PV aF)):List (PB aF):=[.cells [.fn f a []]]
theorem ajl{n:Nat}{l:Lo}{g:Int->Bool}(ks:List Int)(hf:∀x∈ks,aV X0 Qp (bP n) (.fn 192 [.agg l.ps] []) [.int .i64 x] [] (tA.put (g x)) [])(hl:ks.length<=ah):aV X0 Qp (bP (n+4)) (.fn 191 [] []) [.dn 3 ks false,.fn 192 [.agg l.ps] []] [] (tA.put (ks.all g)) []:=by
 have h1:∀x∈ks,aV X0 Qp (bP (n+1)) (.fn 221 [] [.ptr 0 0 1]) [.int .i64 x] (a2N 192 [.agg l.ps]) (tA.put (!(g x))) (a2N 192 [.agg l.ps]):=fun x hx=>
  iZ fQ (first:=[]) (.fr [] (hf x hx) .sr)
 have h2:=ajj ks h1 hl;rw[<-DN ks g];exact aV.drop hX (CO hX fQ (first:=[]) (cap:=[]) (H1:=a2N 192 [.agg l.ps]) (by kernel_rfl) (.k h2 .sr)) rfl rfl
theorem aoh{n:Nat}(hO:Ok n X6)(l:List V)(hl:l.length<=ah):aV X0 Qp (bP (n+4)) (.fn 189 [] []) [.dn 39 l false,.fn 190 [] []] [] (tA.put (l.all qw)) []:=by
 have h1:∀x:V,aV X0 Qp (bP (n+1)) (.fn 220 [] [.ptr 0 0 1]) [.agg x.ps] (a2N 190 []) (tA.put (!(qw x))) (a2N 190 []):=fun x=>
  iZ hO (first:=[]) .sr
 have h2:=aep (n:=n+2) (by omega) (g:=fun x=>!(qw x)) h1 l hl;rw[<-DN l,<-II];exact aV.drop hX (CO hX fQ (first:=[]) (cap:=[]) (H1:=a2N 190 []) (by kernel_rfl) (.k h2 .sr)) rfl rfl
theorem aoi{n:Nat}(hO:Ok n X6)(m:Nat)(hm:m<=ah):aV X0 Qp (bP n) (.fn 159 [] []) [.int .i64 m] [] (qB.put (dN m)) []:=
 nR.a9Q hX (hO 159 [.int .i64 m] (qB.put (dN m)) [] [0<=(m:Int),(m:Int)<=(ah:Int)] (by kernel_rfl) (by
  intro q hq;rcases a2t.1 hq with rfl|hq
  .omega
  .rw[a2J.1 hq];omega)) rfl rfl rfl rfl
theorem a0Y{x:Int}{m:Nat}(h:x∈dN m):gW x m:=by
 simp only[dN,a1L,a3R]at h;obtain⟨k,hk,rfl⟩:=h;exact aH hk
abbrev yG(d:Dg):Lo:=⟨d.ay,d.aG,d⟩
abbrev lo0:Lo:=⟨[],[],⟨[],[],[],[],0⟩⟩
def bD(d:Dg):Lo×Int:=if(cZ d.ay d.aG != 0)=true then(lo0,cZ d.ay d.aG)else if decide ((d.au.length:Int)>6000)=true then(yG d,5)else if(!(d.aO.all qw))=true then(yG d,4)else if(!((dN d.au.length).all (Fg (yG d))))=true then(yG d,4)else if(!(pR (yG d) d.root d.au.length (-1)))=true then(yG d,4)else(yG d,0)
def D5:eU aF:=bZ 160 (a1 dA) (dK (a2 loA iA)) (fun p=>bD p) (fun p=>[p.ay.length<=ah,p.aG.length<=2^20,p.aO.length<=ah]) X6
theorem aco:Gd D5:=aji.deep 11 fun n hn hO d hp=>by
 obtain⟨n,rfl⟩:∃k,n=k+10:=⟨n-10,by omega⟩;have h1:d.ay.length<=ah:=hp _ (.head _);have h2:d.aG.length<=2^20:=hp _ (.tail _ (.head _));have h3:d.aO.length<=ah:=hp _ (.tail _ (.tail _ (.head _)));have ho:d.aG.length<=ah:=by unfold ah;omega
 have hO:∀m,n<=m->Ok m _:=fun m hm=>hO m (by omega);have hI:(cZ d.ay d.aG != 0)=false->∀x∈dN d.au.length,aV X0 Qp (bP (n+6)) (.fn 192 [.agg (yG d).ps] []) [.int .i64 x] [] (tA.put (Fg (yG d) x)) []:=fun h x hx=>ajk hO (l:=yG d) ho (Aj h) (a0Y hx);have hR:0<=d.root->d.root<(d.au.length:Int)->gW d.root d.au.length:=fun a b=>⟨a,by omega⟩;have hL:decide ((d.au.length:Int)>6000)=false->(dN d.au.length).length<=ah:=fun h=>by rw[kY];exact Um h
 exact aK (hO (n+10) (by omega)) (.o h1 (.o h2 (.sh (fun _=>.rn (.dG [.agg [.nil .slc,.nil .slc,.nil .slc,.nil .slc,.nil .slc,.nil .slc,.int .i64 0],.int .i64 (cZ d.ay d.aG)]) rfl) fun h=>.sh (fun _=>.rr) fun h4=>.fr [] (aoh (n:=n+6) (hO (n+6) (by omega)) d.aO h3) (.ss .rr (.fr [] (aoi (hO (n+10) (by omega)) d.au.length (Um h4)) (.fr [] (ajl (l:=yG d) (n:=n+6) (dN d.au.length) (hI h) (hL h4)) (.ss .rr (.o ho (.o hR (.ss .rr .rr))))))))))
open Go Tw Pv cO
def KE(x:Int):Prop:=-(2^63)<=x∧x<2^63
structure KF(d:Dg):Prop where
 Ak:∀i,i<d.au.length->∀k,k<(fA d i).aA.length->KE ((fA d i).aA.getD k 0)
 root:KE d.root
 fault:∀v∈d.aO,0<=v.f
theorem mJ{n:Nat}{o:List Int}(h:jX n o=true){v:Int}(hv:gW v n):v∈o:=by
 unfold jX at h;rw[a1T]at h;obtain⟨h0,h1⟩:=hv;by_cases hc:v∈o
 .exact hc
 have:=ad5 (l₁:=v::o) (l₂:=dN n) (a3P.2 ⟨hc,h.2.2⟩) (fun x hx=>by
  have:0<=x∧x<(n:Int):=by
   rcases a2t.1 hx with rfl|hx
   .exact⟨h0,by omega⟩
   exact h.2.1 x hx
  unfold dN;rw[a1L];exact⟨x.toNat,by rw[a3R];omega,by omega⟩)
 rw[kY]at this;simp at this;omega
theorem rG{l:List Int}{k:Nat}(h:k<l.length):l.getD k 0=l[k]:=by simp[List.getD,a0E h]
theorem a0Z{l:List Int}{v:Int}(h:v∈l):jU (bG (cIx l v) l.length)=false:=by
 cases e:jU (bG (cIx l v) l.length)
 .rfl
 obtain⟨j,hj,e2⟩:=a4h.1 h;have:=dQ.1 e j hj;simp[cIx,List.getD,a0E hj,e2]at this
theorem a6p{d:Dg}{r:Int}:Oz d r=cIx d.aG (aj d r).var:=by
 funext k;exact BEq.comm
theorem Uo{d:Dg}{r:Int}(h0:0<=r)(h:(aj d r).var∈d.aG):tC d r=mV d.aG (aj d r).var:=by
 unfold tC mV;rw[a0S (by rw[a1T];omega),a6p,a0Z h,a0S (by decide),a0S (by decide)]
theorem ajm{l:List Int}{v:Int}(h:v∈l):mV l v<(l.length:Int):=by
 unfold mV;rw[a0Z h,a0S (by simp)];obtain⟨j,h1,_,_,h2⟩:=GX (a0Z h);rw[h2];show(j:Int)<_;omega
theorem OC{x a b:Int}:lY [x] a b=mQ x a b:=by
 rw[a0X,a4g,vw,a1T]
theorem a6q{v:V}(h:0<=v.f):qw v=vOk v:=by
 rw[aeu h];unfold qw vIs;rw[OC]
theorem aeF{z:Int}(h:KE z):i64.wrap z=z:=by
 obtain⟨h0,h1⟩:=h;simp only[IntKind.wrap,IntKind.bits,IntKind.signed];rcases Int.lt_or_le z 0 with h|h
 .have:z%(2^64:Int)=z+2^64:=by
   have:=abo z (2^64) 1;rw[ach]at this;rw[<-this];exact a8h (by omega) (by omega)
  simp only[this];rw[a0V (by simp;omega)];omega
 have:z%(2^64:Int)=z:=a8h h (by omega);simp only[this];rw[a0S (by simp;omega)]
theorem LJ{x:Int}(h:KE x)(h0:x<0):i64.wrap (-1-x)=-1-x:=by
 have h1:=h.1;exact aeF ⟨by omega,by omega⟩
theorem a9T{d:Dg}{x:Int}(below:Int)(h:KE x)(h0:x<0)(he:d.aO.length<=ah):iG d x below=decide (i64.wrap (-1-x)<(d.aO.length:Int)):=by
 have he:d.aO.length<=2^60:=by unfold ah at he;omega
 unfold iG;rw[a0S (by simp;omega),LJ h h0,a4g,vw,a1T];by_cases h1:d.aO.length=0
 .rw[h1,show i64.wrap (((0:Nat):Int)-1)=-1 by decide];omega
 rw[fF (by omega) (by omega)];omega
theorem ajn{l:List Int}{v:Int}(h:v∈l):0<=mV l v:=by
 unfold mV;rw[a0Z h,a0S (by simp)];omega
theorem aeG{d:Dg}{x below KD:Int}(h0:0<=x)(hv:x<below->(aj d x).var∈d.aG):pR (yG d) x below KD=(iG d x below&&decide (KD<tC d x)):=by
 unfold pR iG;rw[a0S (show ¬(decide (x<0)=true) by rw[a1T];omega),a0V (show decide (x>=0)=true by rw[a1T];omega)];by_cases h1:x<below
 .rw[a0V (show decide (x<below)=true by rw[a1T];exact h1),Uo h0 (hv h1),decide_eq_true h1,acW]
 rw[a0S (show ¬(decide (x<below)=true) by rw[a1T];exact h1),af5 h1,Bool.false_and]
theorem aeH{d:Dg}{x below KD:Int}(h:KE x)(h0:x<0)(he:d.aO.length<=ah)(hr:KD<(d.aG.length:Int)):pR (yG d) x below KD=(iG d x below&&decide (KD<tC d x)):=by
 rw[a9T _ h h0 he];unfold pR tC;rw[a0V (by rw[a1T];exact h0),a0V (by rw[a1T];exact h0),decide_eq_true hr,agy]
theorem a6r{d:Dg}{x below KD:Int}(h:KE x)(he:d.aO.length<=ah)(hr:KD<(d.aG.length:Int))(hv:0<=x->x<below->(aj d x).var∈d.aG):pR (yG d) x below KD=(iG d x below&&decide (KD<tC d x)):=by
 by_cases h0:0<=x
 .exact aeG h0 (hv h0)
 exact aeH h (by omega) he hr
theorem a6s{d:Dg}(h:KF d)(he:d.aO.length<=ah)(hv:∀r,gW r d.au.length->(aj d r).var∈d.aG):pR (yG d) d.root d.au.length (-1)=iG d d.root d.au.length:=by
 rw[a6r h.root he (by omega) (fun a b=>hv _ ⟨a,by omega⟩)];cases e:iG d d.root d.au.length
 .rfl
 rw[acW,a1T];by_cases h0:0<=d.root
 .have:=WW e h0 (a1J _);rw[Uo h0 (hv _ this)];have:=ajn (hv _ this);omega
 unfold tC;rw[a0V (by rw[a1T];omega)];omega
theorem acp{d:Dg}(h:KF d)(he:d.aO.length<=ah){i:Nat}(hi:i<d.au.length)(hf:wH d.ay)(ho:jX d.ay.length d.aG=true)(hv:∀j,j<i->(fA d j).var∈d.aG):Fg (yG d) i=!(Zc d i):=by
 have e0:wL (yG d) i=fA d i:=rfl;unfold Fg Zc;rw[e0];show(if(!(lY [(fA d i).var] 0 (xw d.ay)))=true then false else if(((fA d i).aA.length:Int) != d.ay.getD (fA d i).var.toNat 0)=true then false else _)=_;rw[OC];cases e1:mQ (fA d i).var 0 (xw d.ay)
 .rfl
 have hvi:(fA d i).var∈d.aG:=mJ ho (IW hf e1);have aoj:(aj d (i:Int)).var∈d.aG:=hvi;simp only[a8q,a2H,a3x];split
 .rfl
 have EO:((fA d i).aA.all fun x=>pR (yG d) x i (mV (yG d).o (fA d i).var))=jU (bG (cLk d i) (fA d i).aA.length):=by
  rw[a4g,a4f,dQ];have hk:∀k,k<(fA d i).aA.length->(pR (yG d) ((fA d i).aA.getD k 0) i (mV d.aG (fA d i).var)=true↔cLk d i k=false):=fun k hk=>by
   rw[a6r (h.Ak i hi k hk) he (ajm hvi) (fun a b=>hv _ (by omega)),a2r,a1T];unfold cLk;rw[show tC d (i:Int)=mV d.aG (fA d i).var from Uo (by omega) aoj];cases iG d ((fA d i).aA.getD k 0) i
   .simp
   simp<;>omega
  constructor
  .intro a k Jw;exact(hk k Jw).1 (a _ (dZ Jw))
  intro a x hx;obtain⟨k,Jw,rfl⟩:=a4h.1 hx;have:=(hk k Jw).2 (a k Jw);rw[rG Jw]at this;exact this
 rw[EO];cases jU (bG (cLk d i) (fA d i).aA.length)<;>rfl
theorem aeI{d:Dg}(h:KF d)(he:d.aO.length<=ah)(hf:wH d.ay)(ho:jX d.ay.length d.aG=true):(dN d.au.length).all (Fg (yG d))=jU (bG (Zc d) d.au.length):=by
 have ajo:∀i,Zc d i=false->(fA d i).var∈d.aG:=fun i hc=>by
  unfold Zc at hc;split at hc
  .cases hc
  rename_i e;exact mJ ho (IW hf (by simpa using e))
 have key:∀i,i<=d.au.length->((∀j,j<i->Fg (yG d) j=true)↔∀j,j<i->Zc d j=false):=by
  intro i
  induction i with
  |zero=>intro _;exact⟨fun _ j hj=>absurd hj (by omega),fun _ j hj=>absurd hj (by omega)⟩
  |succ i ih=>
   intro hi;have ih:=ih (by omega);constructor
   .intro a;have b:=ih.1 fun j hj=>a j (by omega);intro j hj;by_cases hji:j<i
    .exact b j hji
    have:j=i:=(by omega);subst this;have:=a j (by omega);rw[acp h he (by omega) hf ho (fun k hk=>ajo k (b k hk))]at this;simpa using this
   intro b j hj;by_cases hji:j<i
   .exact ih.2 (fun k hk=>b k (by omega)) j hji
   have:j=i:=(by omega);subst this;rw[acp h he (by omega) hf ho (fun k hk=>ajo k (b k (by omega))),b j (by omega)];rfl
 rw[a4g,a4f,dQ,<-key _ (a1J _)];constructor
 .intro a j hj;exact a _ (by unfold dN;rw[a1L];exact⟨j,a3R.2 hj,rfl⟩)
 intro a x hx;simp only[dN,a1L,a3R]at hx;obtain⟨k,hk,rfl⟩:=hx;exact a k hk
theorem a9U{d:Dg}(h:∀v∈d.aO,0<=v.f):d.aO.all qw=jU (bG (cLe d) d.aO.length):=by
 rw[a4g,a4f,dQ];have hg:∀k,(hk:k<d.aO.length)->d.aO.getD k V0=d.aO[k]:=fun k hk=>by simp[List.getD,a0E hk]
 constructor
 .intro a k hk;unfold cLe;rw[hg k hk,<-a6q (h _ (a4d hk)),a _ (a4d hk)];rfl
 intro a x hx;obtain⟨k,hk,rfl⟩:=a4h.1 hx;have:=a k hk;unfold cLe at this;rw[hg k hk,<-a6q (h _ hx)]at this;simpa using this
theorem IY{d:Dg}(h:KF d)(he:d.aO.length<=ah):bD d=(if(cZ d.ay d.aG != 0)=true then lo0 else yG d,bF d):=by
 unfold bD bF;split
 .rfl
 rename_i h1;have VE:=lU.1 (show cZ d.ay d.aG=0 by simpa using h1);split
 .rfl
 unfold kZ;rw[a9U h.fault,aeI h he VE.1 VE.2];cases e1:jU (bG (cLe d) d.aO.length)
 .rfl
 cases e2:jU (bG (Zc d) d.au.length)
 .rfl
 have hv:∀r,gW r d.au.length->(aj d r).var∈d.aG:=fun r hr=>by
  have:=dQ.1 e2 r.toNat (by have:=hr.1;have:=hr.2;omega);unfold Zc at this;split at this
  .cases this
  rename_i e;exact mJ VE.2 (IW VE.1 (by simpa using e))
 rw[a6s h he hv];simp only[a8q,a2H,a3x,a2D];cases iG d d.root d.au.length<;>rfl
end Go.Proofs.YtmobpoiejckagaaGreat
namespace Pv
open Go Tw
structure oJ(X:kC)(P:Program)(kt:TypeId)(α:Type)[DecidableEq α] where
 pv:α->PV X.Γ
 tv:α->TV
 v:α->Value
 hp:∀x,pJ (pv x)=some (tv x)
 ht:∀x,(tv x).yt=some (v x)
 hc:∀em x,aB P (Instr.checkKey em 10000 kt (v x))=some ()
 hf:∀(x:α) (l:List α),aB P (Instr.findKey kt (v x) (l.map fun y=>⟨v y,.bool false,0⟩))=some ((l.findIdx? fun y=>decide (x=y)).map fun i=>(i,.bool false))
 hk:∃kind,aB P (underlying kt)=some kind∧((∀x y,Instr.sameNow kind (v x) (v y)=some (decide (x=y)))∨∀x y,Instr.sameNow kind (v x) (v y)=none∧aB P (Op.equal kt (v x) (v y))=some (decide (x=y)))
variable {X:kC} {P:Program} {kt:TypeId} {α:Type} [DecidableEq α] (C:oJ X P kt α)
abbrev oJ.es(l:List (α×PV X.Γ)):List (PV X.Γ×PV X.Γ):=l.map fun e=>(C.pv e.1,e.2)
theorem oJ.tvs:∀l:List α,Tw.Bh (l.map C.tv)=some (l.map C.v)
 | []=>rfl
 |a::l=>by
  show(match(C.tv a).yt,Tw.Bh (l.map C.tv)with|some v,some vs=>some (v::vs)|_,_=>none)=_;rw[C.ht,oJ.tvs l];rfl
theorem oJ.find(x:α)(l:List α)(r:Option Nat)(hr:(l.findIdx? fun y=>decide (x=y))=r)(hs:∀(i:Nat) y,l[i]? = some y->decide (x=y)=(some i==r)):uQ P kt (C.v x) (l.map C.tv)=some r:=by
 unfold uQ;rw[C.tvs];simp only[];rw[bI,C.hc,a3S,a6Z];show(match aB P (Instr.findKey kt (C.v x) (l.map fun y=>⟨C.v y,.bool false,0⟩))with|some r=>if Vb P kt (C.v x) (l.map C.v) (Option.map (fun(q:Nat×Value)=>q.1) r)then some (Option.map (fun(q:Nat×Value)=>q.1) r)else none|none=>none)=_;rw[C.hf,hr];have e:Option.map (fun(q:Nat×Value)=>q.1) (r.map fun i=>(i,Value.bool false))=r:=by cases r<;>rfl
 simp only[e];rw[a0V];obtain⟨kind,h1,h2⟩:=C.hk;simp only[Vb,h1,a2r,a8t,a4f];constructor
 .cases r with
  |none=>rfl
  |some j=>
   have:=(a9K.1 hr).1;simpa using this
 have hz:∀p∈(l.map C.v).zipIdx,∃y,p.1=C.v y∧decide (x=y)=(some p.2==r):=fun p hp=>by
  have:=a95.1 hp;rw[a3V,a0D]at this;obtain⟨y,hy,e⟩:=this;exact⟨y,e.symm,hs _ _ hy⟩
 rcases h2 with h2|h2
 .left;intro p hp;obtain⟨y,e1,e2⟩:=hz p hp;rw[e1,h2,e2];simp
 right;intro p hp;obtain⟨y,e1,e2⟩:=hz p hp;rw[e1,(h2 x y).1,(h2 x y).2,e2];simp
theorem oJ.pk:∀l:List (α×PV X.Γ),uP X (C.es l)=some ((l.map (·.1)).map C.tv)
 | []=>rfl
 |a::l=>by
  show(match pJ (C.pv a.1),uP X (C.es l)with|some v,some vs=>some (v::vs)|_,_=>none)=_;rw[C.hp,oJ.pk l];rfl
theorem oJ.ck(x:α):∃kv,(C.tv x).yt=some kv∧aB P (Instr.checkKey false 10000 kt kv)=some ():=⟨C.v x,C.ht x,C.hc false x⟩
theorem oJ.fresh{l:List (α×PV X.Γ)}{x:α}(h:x∉l.map (·.1)):ny X P kt (C.es l) (C.tv x):=by
 refine⟨C.v x,_,C.ht x,C.pk l,?_⟩;have hno:∀y∈l.map (·.1),decide (x=y)=false:=fun y hy=>by
  simp only[a3t];intro e;exact h (e▸hy)
 exact C.find x _ none (List.findIdx?_eq_none_iff.2 hno) fun i y hy=>by rw[hno y (a4b hy)];rfl
theorem oJ.found{l:List (α×PV X.Γ)}{x:α}{v:PV X.Γ}(hn:(l.map (·.1)).Nodup)(h:(x,v)∈l):qc X P kt (C.es l) (C.tv x) v:=by
 obtain⟨j,hj,e⟩:=a4h.1 h;refine⟨C.v x,_,j,C.pv x,C.ht x,C.pk l,?_,?_⟩
 .have hxj:(l.map (·.1))[j]? = some x:=by simp[a0E hj,e]
  have hu:∀(i:Nat) y,(l.map (·.1))[i]? = some y->decide (x=y)=(some i==some j):=fun i y hy=>by
   rw[a4g];simp only[a1T,a7k,a01];constructor
   .rintro rfl;have i1:=a02.1 hy;have i2:=a02.1 hxj;exact(aa7 hn (h₀:=i1.1) (h₁:=i2.1)).1 (i1.2.trans i2.2.symm)
   rintro rfl;rw[hxj]at hy;exact a8x hy
  refine C.find x _ (some j) ?_ hu;rw[a9K];refine⟨by simpa using hj,by simp[e],fun i hi=>?_⟩;have hil:i<(l.map (·.1)).length:=by simp;omega
  rw[hu i _ (a0E hil)];simp;omega
 simp[oJ.es,a0E hj,e]
theorem IZ{t:TypeId}{d:TypeDesc}(h:P.underlying t=some d):aB P (underlying t)=some d:=by
 simp only[underlying,bI];show Option.bind (some P) _=_;simp[h];rfl
theorem Zd{v:α->Value}(he:∀x y,aB P (Op.equal kt (v x) (v y))=some (decide (x=y)))(x:α):∀(l:List α) (i:Nat),aB P (Instr.findAsking kt (v x) (l.map fun y=>⟨v y,.bool false,0⟩) i)=some ((l.findIdx? fun y=>decide (x=y)).map fun j=>(j+i,.bool false))
 | [],i=>rfl
 |y::l,i=>by
  simp only[a3K,Instr.findAsking];rw[bI,he,a3S,List.findIdx?_cons];cases decide (x=y)with
  |true=>simp only[a2D,a1z,a3E];rfl
  |false=>
   simp only[a2H,a3x];rw[Zd he x l (i+1)];cases l.findIdx? fun y=>decide (x=y)with
   |none=>rfl
   |some j=>simp;omega
theorem a13{v:α->Value}{fs:Array Field}(hu:P.underlying kt=some (.struct fs))(he:∀x y,aB P (Op.equal kt (v x) (v y))=some (decide (x=y)))(x:α)(l:List α):aB P (Instr.findKey kt (v x) (l.map fun y=>⟨v y,.bool false,0⟩))=some ((l.findIdx? fun y=>decide (x=y)).map fun i=>(i,.bool false)):=by
 have h:=Zd he x l 0;unfold Instr.findKey;rw[bI,IZ hu,a3S];cases l with
 |nil=>rfl
 |cons y l=>
  rw[show Instr.findNow (.struct fs) (v x) ((y::l).map fun y=>⟨v y,.bool false,0⟩) 0=none by simp[Instr.findNow,Instr.sameNow]];exact h
theorem a14{k:IntKind}(x:Int):∀(l:List Int) (i:Nat),Instr.findNow (.int k) (.int k x) (l.map fun y=>⟨.int k y,.bool false,0⟩) i=some ((l.findIdx? fun y=>decide (x=y)).map fun j=>(j+i,.bool false))
 | [],i=>rfl
 |y::l,i=>by
  simp only[a3K,Instr.findNow,Instr.sameNow,a2D];rw[List.findIdx?_cons];by_cases h:x=y
  .subst h;simp
  rw[show(x==y)=false by simpa using h,af5 h];simp only[a2H,a3x];rw[a14 x l (i+1)];cases l.findIdx? fun y=>decide (x=y)with
  |none=>rfl
  |some j=>simp;omega
theorem aeJ{k:IntKind}(hu:P.underlying kt=some (.int k))(x:Int)(l:List Int):aB P (Instr.findKey kt (.int k x) (l.map fun y=>⟨.int k y,.bool false,0⟩))=some ((l.findIdx? fun y=>decide (x=y)).map fun i=>(i,.bool false)):=by
 unfold Instr.findKey;rw[bI,IZ hu,a3S,a14 x l 0];cases l.findIdx? fun y=>decide (x=y)<;>rfl
theorem a15{v:α->Value}{fs:Array Field}(hu:P.underlying kt=some (.struct fs))(he:∀x y,aB P (Op.equal kt (v x) (v y))=some (decide (x=y))) :
  ∃kind,aB P (underlying kt)=some kind∧((∀x y,Instr.sameNow kind (v x) (v y)=some (decide (x=y)))∨∀x y,Instr.sameNow kind (v x) (v y)=none∧aB P (Op.equal kt (v x) (v y))=some (decide (x=y))):=
 ⟨_,IZ hu,.inr fun x y=>⟨by simp[Instr.sameNow],he x y⟩⟩
theorem aeK{k:IntKind}(hu:P.underlying kt=some (.int k)) :
  ∃kind,aB P (underlying kt)=some kind∧((∀x y:Int,Instr.sameNow kind (.int k x) (.int k y)=some (decide (x=y)))∨∀x y:Int,Instr.sameNow kind (.int k x) (.int k y)=none∧aB P (Op.equal kt (.int k x) (.int k y))=some (decide (x=y))):=
 ⟨_,IZ hu,.inl fun x y=>by simp only[Instr.sameNow,a2D];congr 1⟩
theorem aeL{v:α->Value}{n:Nat}{e:TypeId}(hu:P.underlying kt=some (.array n e))(he:∀x y,aB P (Op.equal kt (v x) (v y))=some (decide (x=y)))(x:α)(l:List α):aB P (Instr.findKey kt (v x) (l.map fun y=>⟨v y,.bool false,0⟩))=some ((l.findIdx? fun y=>decide (x=y)).map fun i=>(i,.bool false)):=by
 have h:=Zd he x l 0;unfold Instr.findKey;rw[bI,IZ hu,a3S];cases l with
 |nil=>rfl
 |cons y l=>
  rw[show Instr.findNow (.array n e) (v x) ((y::l).map fun y=>⟨v y,.bool false,0⟩) 0=none by simp[Instr.findNow,Instr.sameNow]];exact h
theorem aeM{v:α->Value}{n:Nat}{e:TypeId}(hu:P.underlying kt=some (.array n e))(he:∀x y,aB P (Op.equal kt (v x) (v y))=some (decide (x=y))) :
  ∃kind,aB P (underlying kt)=some kind∧((∀x y,Instr.sameNow kind (v x) (v y)=some (decide (x=y)))∨∀x y,Instr.sameNow kind (v x) (v y)=none∧aB P (Op.equal kt (v x) (v y))=some (decide (x=y))):=
 ⟨_,IZ hu,.inr fun x y=>⟨by simp[Instr.sameNow],he x y⟩⟩
end Pv
namespace Go.Proofs.YtmobpoiejckagaaGreat
open Go Tw Pv cO
def kV:oJ X0 Qp 39 V where
 pv x:=.agg x.ps
 tv x:=x.tv
 v x:=.agg #[.int .u8 x.f,.int .i64 x.n]
 hp _:=rfl
 ht _:=rfl
 hc em x:=by kernel_rfl
 hf x l:=a13 aev (fun a b=>a0P 9998 a b) x l
 hk:=a15 aev fun a b=>a0P 9998 a b
def kI:oJ X0 Qp 3 Int where
 pv x:=.int .i64 x
 tv x:=.int .i64 x
 v x:=.int .i64 x
 hp _:=rfl
 ht _:=rfl
 hc em x:=by kernel_rfl
 hf x l:=aeJ a2F x l
 hk:=aeK a2F
abbrev zo(E:List V):List (V×PV X0.Γ):=E.zipIdx.map fun e=>(e.1,.int .i64 (e.2:Nat))
abbrev mkC(a b:List Int)(e n:Nat)(r:Int):PB aF:=.cells [.dn 3 a false,.dn 3 b false,.own 0,.own 1,.own e,.own n,.int .i64 r,.map 2,.map 3]
abbrev Pz(l:List V):PB aF:=.list false false 39 l
abbrev PD(l:List Br):PB aF:=.list false false 105 l
abbrev MK(a b:List Int)(E:List V)(nd:List Br)(r:Int)(nm:List (PV aF×PV aF)):List (PB aF):=[.list false false 3 a,.list false false 3 b,.map (kV.es (zo E)),.map nm,mkC a b 5 6 r,Pz E,PD nd]
abbrev MK'(a b:List Int)(E:List V)(nd:List Br)(r:Int)(nm:List (PV aF×PV aF)):List (PB aF):=[.list false false 3 a,.list false false 3 b,.map (kV.es (zo E)),.map nm,mkC a b 7 8 r,.gone,.gone,Pz E,PD nd]
theorem RX(E:List V):(zo E).map (·.1)=E:=by
 unfold zo;rw[a6Z];show E.zipIdx.map (·.1)=E;simp
theorem a6t(E:List V)(v:V):zo (E++[v])=zo E++[(v,.int .i64 (E.length:Nat))]:=by
 unfold zo;rw[List.zipIdx_append,a3H];simp
theorem a6u{E:List V}{v:V}(h:v∈E):(v,(.int .i64 (E.idxOf v:Nat):PV X0.Γ))∈zo E:=by
 unfold zo;rw[a1L];have hl:=a4l.2 h;exact⟨(v,E.idxOf v),by rw[a95];simp[a0E hl],rfl⟩
def jO(E:List V)(v:V):List V:=if v∈E then E else E++[v]
theorem Ur{E:List V}{v:V}(h:E.Nodup):(jO E v).Nodup:=by
 unfold jO;split
 .exact h
 rename_i hn;rw[a8l];exact⟨h,by simp,fun x hx y hy=>by rw[a2J]at hy;subst hy;intro e;subst e;exact hn hx⟩
theorem aok{n:Nat}(hO:Ok n D5){a b:List Int}{E:List V}{nd:List Br}{r:Int}{nm:List (PV aF×PV aF)}(v:V)(hE:E.Nodup)(hl:E.length+1<=ah):aV X0 Qp (bP (n+1)) (.fn 196 [] []) [.ptr 4 0 9,.agg v.ps] (MK a b E nd r nm) (.int .i64 (i64.wrap (-1-(E.idxOf v:Nat)))) (MK' a b (jO E v) nd r nm):=by
 by_cases h:v∈E
 .rw[show jO E v=E from a0V h];have hf:qc X0 Qp 39 (kV.es (zo E)) v.tv (.int .i64 (E.idxOf v:Nat)):=kV.found (by rw[RX];exact hE) (a6u h);exact aV.gs hX (qU hX hO (first:=[]) (cap:=[]) (v:=.int .i64 (i64.wrap (-1-(E.idxOf v:Nat)))) (H1:=MK a b E nd r nm) (by kernel_rfl) (.c (.int .i64 (E.idxOf v:Nat)) [] hf (.b (rfl:(!true)=false) .er))) [.mv 5,.mv 6] rfl
 rw[show jO E v=E++[v]from a0S h,a9a h];have hf:ny X0 Qp 39 (kV.es (zo E)) v.tv:=kV.fresh (by rw[RX];exact h);have em:kV.es (zo (E++[v]))=kV.es (zo E)++[(.agg v.ps,.int .i64 (E.length:Nat))]:=by rw[a6t];exact a3H ..
 show aV X0 Qp _ _ _ _ _ [_,_,.map (kV.es (zo (E++[v]))),_,_,_,_,_,_];rw[em];exact aV.gs hX (qU hX hO (first:=[]) (cap:=[]) (v:=.int .i64 (i64.wrap (-1-(E.length:Nat)))) (H1:=[.list false false 3 a,.list false false 3 b,.map (kV.es (zo E)++[(.agg v.ps,.int .i64 (E.length:Nat))]),.map nm,mkC a b 8 6 r,.gone,PD nd,.list true true 39 [v],Pz (E++[v])]) (by kernel_rfl) (.a .calm (.o hf (.b (rfl:(!false)=true) (.a .calm (.o (kV.ck v) (.o hf (.o (show E.length+[v].length<=ah by simpa using hl) .er)))))))) [.mv 6,.gc [8,9]] rfl
end Go.Proofs.YtmobpoiejckagaaGreat
namespace Tw
open Go
section
variable {P:Program}
theorem D6{e:TypeId}(hg:aB P (isAgg e)=some false){xs:Array Value}{i:Nat}{v:Value}(h:xs[i]? = some v):aB P (part e xs i)=some v:=by
 unfold part;rw[bI,hg,a3S];simp only[a2H,a3x,h];rfl
def a2O(d:Nat)(e:TypeId)(c:Nat)(xs ys:Array Value):List Nat->Sem Bool
 | []=>pure true
 |i::is=>do
  let a <-part e xs (i*c)
  let b <-part e ys (i*c)
  let r <-Op.equalIn d e a b
  if(!r)=true then pure false else a2O d e c xs ys is
theorem J3(d:Nat){t e:TypeId}{n c:Nat}(xs ys:Array Value)(hu:P.underlying t=some (.array n e))(hs:aB P (sizeOf e)=some c) :
  aB P (Op.equalIn (d+1) t (.agg xs) (.agg ys))=aB P (a2O d e c xs ys (List.range' 0 n)):=by
 have hu':aB P (underlying t)=some (.array n e):=by
  simp only[underlying,bI];have:aB P program=some P:=rfl;simp[this,hu,aB];rfl
 simp only[Op.equalIn,bI,hu',a3S,hs];simp only[Std.Legacy.Range.forIn_eq_forIn_range',Std.Legacy.Range.size,Nat.sub_zero,Nat.add_one_sub_one,Nat.div_one];generalize List.range' 0 n=is;clear hu hu' hs
 induction is with
 |nil=>simp[a2O,aB,bI];rfl
 |cons j is ih=>
  simp only[List.forIn_cons,a2O,bI]at ih ⊢;generalize aB P (part e xs (j*c))=r1;cases r1 with
  |none=>simp
  |some a=>
   simp only[a3S];generalize aB P (part e ys (j*c))=r2;cases r2 with
   |none=>simp
   |some b=>
    simp only[a3S];generalize aB P (Op.equalIn d e a b)=r3;cases r3 with
    |none=>simp
    |some r=>
     cases r with
     |false=>simp only[a3S,ab3,a2D];rfl
     |true=>simp only[a3S,a8q,a2H,a3x];exact ih
abbrev D7(k:IntKind)(l:List Int):Array Value:=(l.map fun x=>Value.int k x).toArray
theorem OD{k:IntKind}{l:List Int}{i:Nat}(h:i<l.length):(D7 k l)[i]? = some (.int k l[i]):=by
 simp[D7,h]
theorem JR{d:Nat}{e:TypeId}{k k':IntKind}(hu:P.underlying e=some (.int k'))(hg:aB P (isAgg e)=some false)(l l':List Int)(hl:l.length=l'.length):∀(m i:Nat),i+m=l.length->aB P (a2O (d+1) e 1 (D7 k l) (D7 k l') (List.range' i m))=some (decide (l.drop i=l'.drop i))
 | 0,i,h=>by
  rw[ag7 (by omega),ag7 (by omega)];rfl
 |m+1,i,h=>by
  have h1:i<l.length:=by omega
  have h2:i<l'.length:=by omega
  rw[List.range'_succ];simp only[a2O,agv];rw[bI,D6 hg (OD h1),a3S,bI,D6 hg (OD h2),a3S,bI,qO d e k k' _ _ hu,a3S];rw[a7R h1,a7R h2];by_cases hc:l[i]=l'[i]
  .have:=JR (d:=d) (k:=k) hu hg l l' hl m (i+1) (by omega);simp only[hc,beq_self_eq_true,a8q,a2H,a3x,this,aeS,true_and]
  have:(l[i]==l'[i])=false:=by simpa using hc
  simp only[this,ab3,a2D,aeS,hc,false_and,decide_false];rfl
theorem Bf(d:Nat){t e:TypeId}{n:Nat}{k k':IntKind}(ht:P.underlying t=some (.array n e))(hs:aB P (sizeOf e)=some 1)(hu:P.underlying e=some (.int k'))(hg:aB P (isAgg e)=some false){l l':List Int}(hl:l.length=n)(hl':l'.length=n) :
  aB P (Op.equalIn (d+2) t (.agg (D7 k l)) (.agg (D7 k l')))=some (decide (l=l')):=by
 rw[J3 (d+1) _ _ ht hs,JR hu hg l l' (by omega) n 0 (by omega),ab4,ab4]
end
end Tw
namespace Go.Proofs.YtmobpoiejckagaaGreat
open Go Tw Pv cO
abbrev oI(k ex:Bool)(l:List Int):PB aF:=.list k ex 3 l
abbrev wOI(f:Nat)(a c:List (PV aF))(k ex:Bool)(R:List (PB aF))(l:List Int)(i:Int)(x:List (Nat×PE aF)):aS aF:=⟨[(0,.val (.own 0)),(1,.val (.fn f a c)),(7,xi l.length),(8,xi i)]++x,[],oI k ex l::R⟩
def zOI(f:Nat)(a c:List (PV aF))(k ex:Bool)(R:List (PB aF))(l:List Int):Unit⊕(Nat×Int×Unit)->Ex×aS aF
 |.inl _=>(.exit 0,wOI f a c k ex R l l.length [(9,xl false)])
 |.inr r=>(.ret,⟨[(4,xi r.1)],[],oI k ex l::R⟩)
theorem qoI{n f:Nat}{a c:List (PV aF)}{ko ex:Bool}{R:List (PB aF)}{g:Int->Bool}(l:List Int)(hf:∀x∈l,aV X0 Qp (bP n) (.fn f a c) [.int .i64 x] (oI ko ex l::R) (.bool (g x)) (oI ko ex l::R))(hl:l.length<=ah):aV X0 Qp (bP (n+1)) (.fn 218 [] []) [.own 0,.fn f a c] (oI ko ex l::R) (iA.put (qW g l)) (oI ko ex l::R):=by
 have lp:Ov n 218 0 (R.length+1) (wOI f a c ko ex R l 0 []) (zOI f a c ko ex R l (lT (oZ g) l 0 ())).1 (zOI f a c ko ex R l (lT (oZ g) l 0 ())).2:=
  Wy (st:=fun i _=>wOI f a c ko ex R l i []) (0:Int) (fun _ _=>True) (by kernel_rfl) hl Qb trivial (fun k s n hk _ ih=>aN fQ (.b (bC hk) (.o (aH hk) (.k (hf (l.getD k (0:Int)) (dZ hk)) (.ls (.ou nofun) (.nx (ih _ trivial))))))) (fun s _=>aN fQ (.b (fD l.length) (.ou nofun)))
 exact iZ fQ (first:=[]) (cap:=[]) (.szh (fun h=>.w (jV lp () h) .sr) (fun h=>.w (jW lp (0,0,()) h) .sr))
theorem qoC{n f:Nat}{a c:List (PV aF)}{ko ex:Bool}{R:List (PB aF)}{g:Int->Bool}(l:List Int)(hf:∀x∈l,aV X0 Qp (bP n) (.fn f a c) [.int .i64 x] (oI ko ex l::R) (.bool (g x)) (oI ko ex l::R))(hl:l.length<=ah):aV X0 Qp (bP (n+2)) (.fn 181 [] []) [.own 0,.fn f a c] (oI ko ex l::R) (tA.put (l.any g)) (oI ko ex l::R):=by
 have h1:=qoI l hf hl;have h2:=DF g l;rw[<-h2];exact iZ fQ (first:=[]) (cap:=[]) (.k h1 .sr)
abbrev Hk(k ex:Bool)(l:List Int):List (PB aF):=[oI k ex l,.cells [.own 0]]
theorem qoA{n f:Nat}{ko ex:Bool}{g:Int->Bool}(l:List Int)(hf:∀x∈l,aV X0 Qp (bP n) (.fn f [] [.ptr 1 0 1]) [.int .i64 x] (Hk ko ex l) (tA.put (g x)) (Hk ko ex l))(hl:l.length<=ah):aV X0 Qp (bP (n+4)) (.fn 191 [] []) [.own 0,.fn f [] [.ptr 1 0 1]] (Hk ko ex l) (tA.put (l.all g)) (Hk ko ex l):=by
 have h1:∀x∈l,aV X0 Qp (bP (n+1)) (.fn 221 [] [.ptr 2 0 1]) [.int .i64 x] (Hk ko ex l++[.cells [.fn f [] [.ptr 1 0 1]]]) (tA.put (!(g x))) (Hk ko ex l++[.cells [.fn f [] [.ptr 1 0 1]]]):=fun x hx=>
  iZ fQ (first:=[]) (.fr [0,1] (hf x hx) .sr)
 have h2:=qoC (R:=[.cells [.own 0],.cells [.fn f [] [.ptr 1 0 1]]]) l h1 hl;rw[<-DN l g];exact aV.drop hX (CO hX fQ (first:=[]) (cap:=[]) (H1:=Hk ko ex l++[.cells [.fn f [] [.ptr 1 0 1]]]) (by kernel_rfl) (.k h2 .sr)) rfl rfl
theorem a6v{n:Nat}{ko ex:Bool}(l:List Int)(hl:l.length<=ah):aV X0 Qp (bP (n+5)) (.fn 191 [] []) [.own 0,.fn 224 [] [.ptr 1 0 1]] (Hk ko ex l) (tA.put (l.all fun x=>x==l.getD 0 0)) (Hk ko ex l):=
 qoA (n:=n+1) l (fun x hx=>iZ fQ (first:=[]) (.o (show gW 0 l.length from⟨by omega,by have:=List.length_pos_of_mem hx;omega⟩) .sr)) hl
theorem a6w:∀l:List Int,l.length=12->∃a0 a1 a2 a3 a4 a5 a6 a7 a8 a9 a10 a11:Int,l=[a0,a1,a2,a3,a4,a5,a6,a7,a8,a9,a10,a11]
 | [a0,a1,a2,a3,a4,a5,a6,a7,a8,a9,a10,a11],_=>⟨a0,a1,a2,a3,a4,a5,a6,a7,a8,a9,a10,a11,rfl⟩
 | [],h=>by simp at h
 | [_],h=>by simp at h
 | [_,_],h=>by simp at h
 | [_,_,_],h=>by simp at h
 | [_,_,_,_],h=>by simp at h
 | [_,_,_,_,_],h=>by simp at h
 | [_,_,_,_,_,_],h=>by simp at h
 | [_,_,_,_,_,_,_],h=>by simp at h
 | [_,_,_,_,_,_,_,_],h=>by simp at h
 | [_,_,_,_,_,_,_,_,_],h=>by simp at h
 | [_,_,_,_,_,_,_,_,_,_],h=>by simp at h
 | [_,_,_,_,_,_,_,_,_,_,_],h=>by simp at h
 |_::_::_::_::_::_::_::_::_::_::_::_::_::_,h=>by simp at h
abbrev Ky:=Int×{l:List Int // l.length=12}
abbrev Ky.l(x:Ky):List Int:=x.1::x.2.val
theorem OE:∀l:List Int,iF (Γ:=aF) (l.map fun x=>PV.int .i64 x)=some (l.map fun x=>TV.int .i64 x)
 | []=>rfl
 |a::l=>by simp only[a3K,iF,qM,OE l]
theorem RY:∀l:List Int,TV.SQ (l.map fun x=>TV.int .i64 x)=some (l.map fun x=>Value.int .i64 x)
 | []=>rfl
 |a::l=>by simp only[a3K,TV.SQ,TV.toC,RY l]
theorem aeN : Tryz.prog.underlying 223 = some (.struct #[⟨"choice", 3, 0, false, "", "mist/node", 0⟩, ⟨"kids", 221, 1, false, "", "mist/node", 8⟩]) := by kernel_rfl
theorem acs(d:Nat)(a b:Ky):aB Qp (Op.equalIn (d+3) 223 (.agg (D7 .i64 a.l)) (.agg (D7 .i64 b.l)))=some (decide (a=b)):=by
 obtain⟨a1,a2,ha⟩:=a;obtain⟨b1,b2,hb⟩:=b;rw[xU (d+2) 223 _ _ _ aeN (by kernel_rfl)];have gI:aB Qp (isAgg 3)=some false:=by kernel_rfl
 have gA:aB Qp (isAgg 221)=some true:=by kernel_rfl
 have sA:aB Qp (sizeOf 221)=some 12:=by kernel_rfl
 have sI:aB Qp (sizeOf 3)=some 1:=by kernel_rfl
 have p0:∀x l,aB Qp (part 3 (D7 .i64 (x::l)) 0)=some (.int .i64 x):=fun x l=>D6 gI (OD (l:=x::l) (by simp));have p1:∀x l,l.length=12->aB Qp (part 221 (D7 .i64 (x::l)) 1)=some (.agg (D7 .i64 l)):=fun x l h=>by
  obtain⟨a0,a1,a2,a3,a4,a5,a6,a7,a8,a9,a10,a11,rfl⟩:=a6w l h
  kernel_rfl
 have q1 := nZ (f := ⟨"choice", 3, 0, false, "", "mist/node", 0⟩) (fs := [⟨"kids", 221, 1, false, "", "mist/node", 8⟩]) (by decide) (p0 a1 a2) (p0 b1 b2) (qO (d + 1) _ .i64 _ a1 b1 a2F);have q2 := nZ (f := ⟨"kids", 221, 1, false, "", "mist/node", 8⟩) (fs := []) (by decide) (p1 a1 a2 ha) (p1 b1 b2 hb) (Bf d (k := .i64) (t := 221) (by kernel_rfl) sI a2F gI ha hb);rw[q1,q2];rw[show aB Qp (Op.eqFields (d+2) (D7 .i64 (a1::a2)) (D7 .i64 (b1::b2)) [])=some true from rfl];by_cases h1:a1=b1<;>by_cases h2:a2=b2<;>simp[h1,h2]
def kK:oJ X0 Qp 223 Ky where
 pv x:=.agg (x.l.map fun i=>.int .i64 i)
 tv x:=.agg (x.l.map fun i=>.int .i64 i)
 v x:=.agg (D7 .i64 x.l)
 hp x:=congrArg (Option.map TV.agg) (OE x.l)
 ht x:=congrArg (Option.map fun vs:List Value=>Value.agg vs.toArray) (RY x.l)
 hc em x:=by
  obtain⟨c,l,h⟩:=x;obtain⟨a0,a1,a2,a3,a4,a5,a6,a7,a8,a9,a10,a11,rfl⟩:=a6w l h
  kernel_rfl
 hf x l:=a13 aeN (fun a b=>acs 9997 a b) x l
 hk:=a15 aeN (fun a b=>acs 9997 a b)
open Go Tw Pv cO
def GY(l:List Int):List Int:=(l++[0,0,0,0,0,0,0,0,0,0,0,0]).take 12
theorem a6x(l:List Int):(GY l).length=12:=by unfold GY;simp
def tH(c:Int)(ks:List Int):Ky:=(c,⟨GY ks,a6x ks⟩)
abbrev BA(b:Br):Ky:=tH b.var b.aA
abbrev yE(nd:List Br):List (Ky×PV X0.Γ):=nd.zipIdx.map fun e=>(BA e.1,.int .i64 (e.2:Nat))
theorem RZ(nd:List Br):(yE nd).map (·.1)=nd.map BA:=by
 unfold yE;rw[a6Z];show nd.zipIdx.map (BA∘fun e=>e.1)=_;rw[<-a6Z];simp
theorem a6y(nd:List Br)(b:Br):yE (nd++[b])=yE nd++[(BA b,.int .i64 (nd.length:Nat))]:=by
 unfold yE;rw[List.zipIdx_append,a3H];simp
theorem a6z{nd:List Br}{k:Ky}(h:k∈nd.map BA):(k,(.int .i64 ((nd.map BA).idxOf k:Nat):PV X0.Γ))∈yE nd:=by
 have hl:=a4l.2 h;have Tn:(nd.map BA).idxOf k<nd.length:=by simpa using hl
 unfold yE;rw[a1L];refine⟨(nd[(nd.map BA).idxOf k],(nd.map BA).idxOf k),by rw[a95];simp[a0E Tn],?_⟩;have:=a8j hl;rw[a8P]at this;show(BA _,_)=_;rw[this]
def dh(nd:List Br)(c:Int)(ks:List Int):List Br:=if(ks.all fun x=>x==ks.getD 0 0)=true then nd else if tH c ks∈nd.map BA then nd else nd++[⟨c,ks⟩]
def dU(nd:List Br)(c:Int)(ks:List Int):Int:=if(ks.all fun x=>x==ks.getD 0 0)=true then ks.getD 0 0 else((nd.map BA).idxOf (tH c ks):Nat)
abbrev MN(a b:List Int)(E:List V)(nd:List Br)(r:Int):List (PB aF):=MK a b E nd r (kK.es (yE nd))
abbrev MNg(a b:List Int)(E:List V)(nd:List Br)(r:Int)(nm:List (PV aF×PV aF)):List (PB aF):=[.list false false 3 a,.list false false 3 b,.map (kV.es (zo E)),.map nm,mkC a b 8 9 r,.gone,.gone,.gone,Pz E,PD nd]
abbrev MN'(a b:List Int)(E:List V)(nd:List Br)(r:Int):List (PB aF):=MNg a b E nd r (kK.es (yE nd))
theorem aeO{n:Nat}(hO:Ok (n+5) D5){a b:List Int}{E:List V}{nd:List Br}{r:Int}(c:Int)(ks:List Int)(hk:1<=ks.length∧ks.length<=12)(hf:(ks.all fun x=>x==ks.getD 0 0)=true):aV X0 Qp (bP (n+6)) (.fn 198 [] []) [.ptr 4 0 9,.int .i64 c,.own 7] (MN a b E nd r++[oI true true ks]) (.int .i64 (ks.getD 0 0)) (MN' a b E nd r):=by
 have h1:=qU hX hO (first:=[]) (cap:=[]) (xs:=[.ptr 4 0 9,.int .i64 c,.own 7]) (H:=MN a b E nd r++[oI true true ks]) (v:=.int .i64 (ks.getD 0 0)) (H1:=MN a b E nd r++[oI true true ks,.cells [.own 7]]) (f:=198) (by kernel_rfl) (.fr [7,8] (a6v (n:=n) (ko:=true) (ex:=true) ks (m12 hk.2)) (.b hf (.o (show gW 0 ks.length from⟨by omega,by omega⟩) .er)));exact aV.forget (aV.gs hX h1 [.mv 5,.mv 6,.gc [9,10]] rfl) 7
abbrev a6A(c:Int)(ks:List Int):PB aF:=.cells ((Ky.l (tH c ks)).map fun i=>.int .i64 i)
theorem aeP{n:Nat}(hO:Ok (n+5) D5){a b:List Int}{E:List V}{nd:List Br}{r:Int}(c:Int)(ks:List Int)(hk:1<=ks.length∧ks.length<=12)(hf:(ks.all fun x=>x==ks.getD 0 0)=false)(hN:(nd.map BA).Nodup)(hm:tH c ks∈nd.map BA):aV X0 Qp (bP (n+6)) (.fn 198 [] []) [.ptr 4 0 9,.int .i64 c,.own 7] (MN a b E nd r++[oI true true ks]) (.int .i64 ((nd.map BA).idxOf (tH c ks):Nat)) (MN' a b E nd r):=by
 have hF:qc X0 Qp 223 (kK.es (yE nd)) (kK.tv (tH c ks)) (.int .i64 ((nd.map BA).idxOf (tH c ks):Nat)):=kK.found (by rw[RZ];exact hN) (a6z hm);have h1:aV X0 Qp (bP (n+6)) (.fn 198 [] []) [.ptr 4 0 9,.int .i64 c,.own 7] (MN a b E nd r++[oI true true ks]) (.int .i64 ((nd.map BA).idxOf (tH c ks):Nat)) (MN a b E nd r++[oI true true ks,.cells [.own 7],a6A c ks]):=by
  generalize (nd.map BA).idxOf (tH c ks)=j at hF ⊢;generalize yE nd=nm at hF ⊢;obtain⟨k1,k2⟩:=hk;rcases ks with _|⟨x0,_|⟨x1,_|⟨x2,_|⟨x3,_|⟨x4,_|⟨x5,_|⟨x6,_|⟨x7,_|⟨x8,_|⟨x9,_|⟨x10,_|⟨x11,_|⟨x12,_⟩⟩⟩⟩⟩⟩⟩⟩⟩⟩⟩⟩⟩<;>first|(exfalso;simp at k1;done)|(exfalso;simp at k2;omega)|(exact fM hO (first:=[]) (cap:=[]) (.fr [7,8] (a6v (n:=n) (ko:=true) (ex:=true) _ (m12 k2)) (.b hf (.c (.int .i64 (j:Nat)) [] hF (.b (rfl:(!true)=false) .er)))))
 exact aV.forget (aV.gs hX (aV.forget h1 9) [.mv 5,.mv 6,.gc [10,11]] rfl) 7
theorem aeQ{n:Nat}(hO:Ok (n+5) D5){a b:List Int}{E:List V}{nd:List Br}{r:Int}(c:Int)(ks:List Int)(hk:1<=ks.length∧ks.length<=12)(hf:(ks.all fun x=>x==ks.getD 0 0)=false)(hm:tH c ks∉nd.map BA)(hl:nd.length+1<=ah):aV X0 Qp (bP (n+6)) (.fn 198 [] []) [.ptr 4 0 9,.int .i64 c,.own 7] (MN a b E nd r++[oI true true ks]) (.int .i64 (nd.length:Nat)) (MN' a b E (nd++[⟨c,ks⟩]) r):=by
 have hF:ny X0 Qp 223 (kK.es (yE nd)) (kK.tv (tH c ks)):=kK.fresh (by rw[RZ];exact hm);have hC:=kK.ck (tH c ks);have hL:nd.length+([⟨c,ks⟩]:List Br).length<=ah:=by simpa using hl
 have em:kK.es (yE (nd++[⟨c,ks⟩]))=kK.es (yE nd)++[(kK.pv (tH c ks),.int .i64 (nd.length:Nat))]:=by rw[a6y];exact a3H ..
 show aV X0 Qp _ _ _ _ _ (MNg a b E (nd++[⟨c,ks⟩]) r (kK.es (yE (nd++[⟨c,ks⟩]))));rw[em];have h1:aV X0 Qp (bP (n+6)) (.fn 198 [] []) [.ptr 4 0 9,.int .i64 c,.own 7] (MN a b E nd r++[oI true true ks]) (.int .i64 (nd.length:Nat)) [.list false false 3 a,.list false false 3 b,.map (kV.es (zo E)),.map (kK.es (yE nd)++[(kK.pv (tH c ks),.int .i64 (nd.length:Nat))]),mkC a b 5 11 r,Pz E,.gone,.gone,.cells [.own 7],a6A c ks,.list true true 105 [⟨c,ks⟩],PD (nd++[⟨c,ks⟩])]:=by
  generalize yE nd=nm at hF ⊢;obtain⟨k1,k2⟩:=hk;rcases ks with _|⟨x0,_|⟨x1,_|⟨x2,_|⟨x3,_|⟨x4,_|⟨x5,_|⟨x6,_|⟨x7,_|⟨x8,_|⟨x9,_|⟨x10,_|⟨x11,_|⟨x12,_⟩⟩⟩⟩⟩⟩⟩⟩⟩⟩⟩⟩⟩<;>first|(exfalso;simp at k1;done)|(exfalso;simp at k2;omega)|(exact fM hO (first:=[]) (cap:=[]) (.fr [7,8] (a6v (n:=n) (ko:=true) (ex:=true) _ (m12 k2)) (.b hf (.q (.bool false) hF (.b (rfl:(!false)=true) (.q (.bool false) hC (.o hF (.o hL .er))))))))
 exact aV.gs hX (aV.forget (aV.forget h1 9) 10) [.mv 5,.gc [12,11]] rfl
theorem ajt{n:Nat}(hO:Ok (n+5) D5){a b:List Int}{E:List V}{nd:List Br}{r:Int}(c:Int)(ks:List Int)(hk:1<=ks.length∧ks.length<=12)(hN:(nd.map BA).Nodup)(hl:nd.length+1<=ah):aV X0 Qp (bP (n+6)) (.fn 198 [] []) [.ptr 4 0 9,.int .i64 c,.own 7] (MN a b E nd r++[oI true true ks]) (.int .i64 (dU nd c ks)) (MN' a b E (dh nd c ks) r):=by
 unfold dU dh;cases hf:ks.all fun x=>x==ks.getD 0 0
 .rw[a0S (by simp),a0S (by simp)];by_cases hm:tH c ks∈nd.map BA
  .rw[a0V hm];exact aeP hO c ks hk hf hN hm
  rw[a0S hm,a9a hm,a3Q];exact aeQ hO c ks hk hf hm hl
 rw[a0V rfl,a0V rfl];exact aeO hO c ks hk hf
theorem Qc{nd:List Br}{c:Int}{ks:List Int}(h:(nd.map BA).Nodup):((dh nd c ks).map BA).Nodup:=by
 unfold dh;split
 .exact h
 split
 .exact h
 rename_i hn;rw[a3H,a8l];exact⟨h,by simp,fun x hx y hy=>by simp at hy;subst hy;intro e;subst e;exact hn hx⟩
open Go Tw Pv cO
theorem aom{n:Nat}(hO:Ok n D5)(a b:List Int)(ha:a.length<=ah)(hb:b.length<=ah):aV X0 Qp (bP (n+1)) (.fn 194 [] []) [.agg [.dn 3 a false,.dn 3 b false]] [] (.ptr 4 0 9) (MN a b [] [] 0):=
 aV.gs hX (qU hX hO (first:=[]) (cap:=[]) (v:=.ptr 4 0 9) (H1:=[.list false false 3 a,.list false false 3 b,.map [],.map [],.cells [.dn 3 a false,.dn 3 b false,.own 0,.own 1,.nil .slc,.nil .slc,.int .i64 0,.map 2,.map 3]]) (by kernel_rfl) (.o ha (.o hb .er))) [.U2 4 4 39,.U2 4 5 105] rfl
structure Cs where
 e:List V
 n:List Br
 k:List (Int×Int)
abbrev KG(k:List (Int×Int)):List (Int×PV X0.Γ):=k.map fun p=>(p.1,.int .i64 p.2)
abbrev pC:List (PV aF):=[.ptr 8 0 1,.ptr 7 0 7,.ptr 10 0 1,.ptr 11 0 1]
abbrev acu(l:Lo)(k:List (Int×Int)):List (PB aF):=[.aC l.ps,.aC [.ptr 4 0 9],.map (kI.es (KG k)),.aC [.map 9],.aC [.fn 195 [] pC]]
abbrev HC(l:Lo)(x:Cs):List (PB aF):=MN l.s l.o x.e x.n 0++acu l x.k
abbrev HC'(l:Lo)(x:Cs):List (PB aF):=[.list false false 3 l.s,.list false false 3 l.o,.map (kV.es (zo x.e)),.map (kK.es (yE x.n)),mkC l.s l.o 12 13 0,.gone,.gone]++acu l x.k++[Pz x.e,PD x.n]
def pF(d:Dg)(r:Int):V:=d.aO.getD (i64.wrap (-1-r)).toNat V0
def Us(k:List (Int×Int))(r:Int):Int:=((k.find? fun p=>p.1==r).getD (0,0)).2
def bV(d:Dg):Nat->Int->Cs->Int×Cs
 | 0,_,x=>(0,x)
 |F+1,r,x=>if decide (r<0)=true then(i64.wrap (-1-(x.e.idxOf (pF d r):Nat)),⟨jO x.e (pF d r),x.n,x.k⟩)else if decide (r∈x.k.map (·.1))=true then(Us x.k r,x)
  else
   let y:=aW (fun j (y:List Int×Cs)=>(y.1.set j (bV d F ((aj d r).aA.getD j 0) y.2).1,(bV d F ((aj d r).aA.getD j 0) y.2).2)) (aj d r).aA.length 0 (List.replicate (aj d r).aA.length 0,x)
   (dU y.2.n (aj d r).var y.1,⟨y.2.e,dh y.2.n (aj d r).var y.1,y.2.k++[(r,dU y.2.n (aj d r).var y.1)]⟩)
structure D8(d:Dg)(x:Cs):Prop where
 e1:x.e.Nodup
 e2:∀v∈x.e,v∈d.aO
 n1:(x.n.map BA).Nodup
 n2:x.n.length<=x.k.length
 k1:(x.k.map (·.1)).Nodup
 k2:∀a∈x.k.map (·.1),gW a d.au.length
theorem D8.KC{d:Dg}{x:Cs}(h:D8 d x):x.k.length<=d.au.length:=by
 have:=zn _ _ h.k1 h.k2;simpa using this
theorem D8.aju{d:Dg}{x:Cs}(h:D8 d x):x.e.length<=d.aO.length:=ad5 h.e1 h.e2
theorem X8(nd:List Br)(c:Int)(ks:List Int):(dh nd c ks).length<=nd.length+1:=by
 unfold dh;split
 .omega
 split
 .omega
 simp
theorem a18{k:List (Int×Int)}{r:Int}(h:r∈k.map (·.1)):(r,Us k r)∈k:=by
 rw[a1L]at h;obtain⟨p,hp,rfl⟩:=h;unfold Us;cases e:k.find? fun q=>q.1==p.1 with
 |none=>have:=ad6.1 e p hp;simp at this
 |some q=>
  have h1:=afg e;have h2:=List.find?_some e;simp at h2;rw[<-h2];exact h1
theorem a6B{d:Dg}{r:Int}(h:gW (i64.wrap (-1-r)) d.aO.length):pF d r∈d.aO:=by
 have h1:(i64.wrap (-1-r)).toNat<d.aO.length:=by have:=h.1;have:=h.2;omega
 unfold pF;simp[List.getD,a0E h1]
theorem GZ{d:Dg}(P:Cs->Prop){F:Nat}{r:Int}{x:Cs}(h:P x)(hs:∀j y,j<(aj d r).aA.length->P y->P (bV d F ((aj d r).aA.getD j 0) y).2) :
  (aW (fun j (y:List Int×Cs)=>(y.1.set j (bV d F ((aj d r).aA.getD j 0) y.2).1,(bV d F ((aj d r).aA.getD j 0) y.2).2)) (aj d r).aA.length 0 (List.replicate (aj d r).aA.length 0,x)).1.length=(aj d r).aA.length∧P (aW (fun j (y:List Int×Cs)=>(y.1.set j (bV d F ((aj d r).aA.getD j 0) y.2).1,(bV d F ((aj d r).aA.getD j 0) y.2).2)) (aj d r).aA.length 0 (List.replicate (aj d r).aA.length 0,x)).2:=
 dW (g:=fun j (y:List Int×Cs)=>(y.1.set j (bV d F ((aj d r).aA.getD j 0) y.2).1,(bV d F ((aj d r).aA.getD j 0) y.2).2)) (m:=(aj d r).aA.length) (k:=0) (s:=(List.replicate (aj d r).aA.length 0,x)) (fun _ y=>y.1.length=(aj d r).aA.length∧P y.2) ⟨by simp,h⟩ (fun j y _ hj hy=>⟨by simp[hy.1],hs j y.2 (by omega) hy.2⟩)
theorem X9{d:Dg}:∀(F:Nat) (r s:Int) (x:Cs),r<s->s∉x.k.map (·.1)->0<=s->(∀i,i<d.au.length->∀k,k<(fA d i).aA.length->(fA d i).aA.getD k 0<i)->(0<=r->gW r d.au.length)->s∉(bV d F r x).2.k.map (·.1)
 | 0,_,_,_,_,h,_,_,_=>h
 |F+1,r,s,x,hr,h,h0,hk,hn=>by
  unfold bV;by_cases c:r<0
  .rw[a0V (by simpa using c)];exact h
  rw[a0S (by simpa using c)];split
  .exact h
  have hi:=hn (by omega);have Dk:∀k,k<(aj d r).aA.length->(aj d r).aA.getD k 0<r:=fun k mD=>by
   obtain⟨i1,i2⟩:=hi;have h9:(aj d r).aA.getD k 0<(r.toNat:Int):=hk r.toNat (by omega) k mD;omega
  have:=(GZ (d:=d) (fun y=>s∉y.k.map (·.1)) (F:=F) (r:=r) h (fun j y hj hy=>X9 F _ s y (by have:=Dk j hj;omega) hy h0 hk fun h5=>⟨h5,by have:=hi.2;have:=Dk j hj;omega⟩)).2;simp only[a3H,a3y,ad1];exact⟨this,by simp;omega⟩
theorem OG{d:Dg}(h:Bq d):∀(F:Nat) (r:Int) (x:Cs),D8 d x->jf d r d.au.length->D8 d (bV d F r x).2
 | 0,_,_,hx,_=>hx
 |F+1,r,x,hx,hr=>by
  unfold bV;by_cases c:r<0
  .rw[a0V (by simpa using c)];refine⟨Ur hx.e1,fun v hv=>?_,hx.n1,hx.n2,hx.k1,hx.k2⟩;have hv:v∈jO x.e (pF d r):=hv;unfold jO at hv;split at hv
   .exact hx.e2 v hv
   rcases a3y.1 hv with hv|hv
   .exact hx.e2 v hv
   rw[a2J.1 hv];exact a6B (hr.2 c)
  rw[a0S (by simpa using c)];split
  .exact hx
  rename_i c2;have aQ:r.toNat<d.au.length:=by have:=hr.1;omega
  have Bv:∀k,k<(aj d r).aA.length->(aj d r).aA.getD k 0<r:=fun k mD=>by
   have h9:=(h.Ak r.toNat aQ k mD).1;have h9:(aj d r).aA.getD k 0<(r.toNat:Int):=h9;omega
  have hb:=(GZ (d:=d) (fun y=>D8 d y∧r∉y.k.map (·.1)) (F:=F) (r:=r) ⟨hx,by simpa using c2⟩ (fun j y hj hy=>by
   have LK:jf d ((aj d r).aA.getD j 0) d.au.length:=⟨by have:=Bv j hj;have:=hr.1;omega,(h.Ak r.toNat aQ j hj).2⟩;refine⟨OG h F _ y hy.1 LK,X9 F _ r y (Bv j hj) hy.2 (by omega) (fun i hi k hk=>(h.Ak i hi k hk).1) (fun h5=>⟨h5,by have:=LK.1;omega⟩)⟩)).2
  obtain⟨hb,xM⟩:=hb;refine⟨hb.e1,hb.e2,Qc hb.n1,?_,?_,?_⟩
  .have:=X8 (aW (fun j (y:List Int×Cs)=>(y.1.set j (bV d F ((aj d r).aA.getD j 0) y.2).1,(bV d F ((aj d r).aA.getD j 0) y.2).2)) (aj d r).aA.length 0 (List.replicate (aj d r).aA.length 0,x)).2.n (aj d r).var (aW (fun j (y:List Int×Cs)=>(y.1.set j (bV d F ((aj d r).aA.getD j 0) y.2).1,(bV d F ((aj d r).aA.getD j 0) y.2).2)) (aj d r).aA.length 0 (List.replicate (aj d r).aA.length 0,x)).1;have:=hb.n2;simp only[a2m,a3G];omega
  .simp only[a3H,a3K,ab9];exact wJ hb.k1 xM
  intro a ha;simp only[a3H,a3y,a3K,ab9,a2J]at ha;rcases ha with ha|rfl
  .exact hb.k2 a ha
  exact⟨by omega,by omega⟩
open Go Tw Pv cO
abbrev hCl(l:Lo)(x:Cs)(ks:List Int):List (PB aF):=HC' l x++[oI true true ks]
abbrev wCl(l:Lo)(r:Int)(i:Int)(y:List Int×Cs)(x:List (Nat×PE aF)):aS aF:=⟨[(0,xi r),(1,.val (.ptr 8 0 1)),(3,.val (.ptr 10 0 1)),(4,.val (.ptr 11 0 1)),(9,.loc 0 0),(10,xo 14),(43,xL 3 (aj l.d r).aA),(44,xi (aj l.d r).aA.length),(45,xi i)]++x,[(aj l.d r).ps],hCl l y.2 y.1⟩
theorem lCl{M:Nat}(hO:Ok M D5){d:Dg}{F:Nat}{r:Int}(hk:(aj d r).aA.length<=12)(Q:Cs->Prop){x:Cs}(hx:Q x)(hq:∀j y,j<(aj d r).aA.length->Q y->Q (bV d F ((aj d r).aA.getD j 0) y).2)(hs:∀j y,j<(aj d r).aA.length->Q y->aV X0 Qp (bP M) (.fn 195 [] pC) [.int .i64 ((aj d r).aA.getD j 0)] (HC (yG d) y) (.int .i64 (bV d F ((aj d r).aA.getD j 0) y).1) (HC' (yG d) (bV d F ((aj d r).aA.getD j 0) y).2)) :
  Ov M 195 0 12 (wCl (yG d) r 0 (List.replicate (aj d r).aA.length 0,x) []) (.exit 0) (wCl (yG d) r (aj d r).aA.length (aW (fun j (y:List Int×Cs)=>(y.1.set j (bV d F ((aj d r).aA.getD j 0) y.2).1,(bV d F ((aj d r).aA.getD j 0) y.2).2)) (aj d r).aA.length 0 (List.replicate (aj d r).aA.length 0,x)) [(46,xl false)]):=by
 refine y9 (σ:=List Int×Cs) (N:=(aj d r).aA.length) (g:=fun j (y:List Int×Cs)=>(y.1.set j (bV d F ((aj d r).aA.getD j 0) y.2).1,(bV d F ((aj d r).aA.getD j 0) y.2).2)) (s0:=(List.replicate (aj d r).aA.length 0,x)) (st:=fun k y=>wCl (yG d) r k y []) (fin:=fun y=>wCl (yG d) r (aj d r).aA.length y [(46,xl false)]) (fun _ y=>y.1.length=(aj d r).aA.length∧Q y.2) (by kernel_rfl) (m12 hk) ⟨by simp,hx⟩ (fun j y hj hy=>⟨by simp[hy.1],hq j y.2 hj hy.2⟩) (fun j y hj hy m e p g=>?_) (fun y _=>aN hO (.b (fD (aj d r).aA.length) .ex));have h1:=hs j y.2 hj hy.2;have h2:gW j y.1.length:=aH (by rw[hy.1];exact hj);generalize bV d F ((aj d r).aA.getD j 0) y.2=z at h1 g;obtain⟨v,z⟩:=z;exact aN hO (.b (bC hj) (.o (aH hj) (.fr [0,1,2,3,4,12,13,7,8,9,10,11] h1 (.o h2 (.goG [.gc [15,16,14]] g)))))
theorem DR(k:List (Int×Int)):(KG k).map (·.1)=k.map (·.1):=by
 unfold KG;rw[a6Z];rfl
theorem aon{n:Nat}(hO:Ok n D5)(k:Int):aV X0 Qp (bP n) (.fn 197 [] []) [.int .i64 k] [] (iA.put (i64.wrap (-1-k))) []:=
 nR.a9Q hX (hO 197 [.int .i64 k] (iA.put (i64.wrap (-1-k))) [] [] (by kernel_rfl) (fun q hq=>by cases hq)) rfl rfl rfl rfl
theorem sCl{N:Nat}(hO:∀m,N<=m->Ok m D5){d:Dg}(h:Bq d)(he:d.aO.length+1<=ah)(hn:d.au.length+1<=ah)(h1k:∀i,i<d.au.length->1<=(fA d i).aA.length):∀(F:Nat) (r:Int) (x:Cs),r+1<F->D8 d x->jf d r d.au.length->1<=F->aV X0 Qp (bP (N+F+6)) (.fn 195 [] pC) [.int .i64 r] (HC (yG d) x) (.int .i64 (bV d F r x).1) (HC' (yG d) (bV d F r x).2)
 | 0,r,x,_,_,_,h1=>by omega
 |F+1,r,x,hF,hx,hr,_=>by
  rw[show N+(F+1)+6=N+F+6+1 by omega];have Fe:=hO (N+F+6) (by omega);have FK:=hO (N+F+5) (by omega);unfold bV;by_cases c:r<0
  .have t0:decide (r<0)=true:=(by simpa using c);rw[a0V t0];have hi:gW (i64.wrap (-1-r)) d.aO.length:=hr.2 c;have hs:=aok FK (a:=d.ay) (b:=d.aG) (E:=x.e) (nd:=x.n) (r:=0) (nm:=kK.es (yE x.n)) (pF d r) hx.e1 (by have:=hx.aju;omega);exact fM Fe (first:=[]) (.b t0 (.fr [] (aon Fe r) (.o hi (.fr [0,1,2,3,4,5,6] hs .er))))
  have t0:decide (r<0)=false:=by simpa using c
  rw[a0S (by rw[t0];simp)];have aQ:r.toNat<d.au.length:=by have:=hr.1;omega
  by_cases c2:r∈x.k.map (·.1)
  .rw[a0V (by simpa using c2)];have hf:qc X0 Qp 3 (kI.es (KG x.k)) (kI.tv r) (.int .i64 (Us x.k r)):=kI.found (by rw[DR];exact hx.k1) (a1L.2 ⟨(r,Us x.k r),a18 c2,rfl⟩);generalize Us x.k r=v at hf ⊢;exact aV.gs hX (qU hX Fe (first:=[]) (H1:=HC (yG d) x) (v:=.int .i64 v) (by kernel_rfl) (.b t0 (.c (.int .i64 v) [] hf (.b (rfl:true=true) .er)))) [.mv 5,.mv 6] rfl
  rw[a0S (by simpa using c2)];have Bv:∀k,k<(aj d r).aA.length->(aj d r).aA.getD k 0<r:=fun k mD=>by
   have h9:=(h.Ak r.toNat aQ k mD).1;have h9:(aj d r).aA.getD k 0<(r.toNat:Int):=h9;omega
  have LK:∀j,j<(aj d r).aA.length->jf d ((aj d r).aA.getD j 0) d.au.length:=fun j hj=>⟨by have:=Bv j hj;have:=hr.1;omega,(h.Ak r.toNat aQ j hj).2⟩;have Jw:(aj d r).aA.length<=12:=h.KC r.toNat aQ;have hq:∀j y,j<(aj d r).aA.length->(D8 d y∧r∉y.k.map (·.1))->D8 d (bV d F ((aj d r).aA.getD j 0) y).2∧r∉(bV d F ((aj d r).aA.getD j 0) y).2.k.map (·.1):=fun j y hj hy=>
   ⟨OG h F _ y hy.1 (LK j hj),X9 F _ r y (Bv j hj) hy.2 (by omega) (fun i hi k hk=>(h.Ak i hi k hk).1) (fun h5=>⟨h5,by have:=(LK j hj).1;omega⟩)⟩
  have hl:=lCl Fe (d:=d) (F:=F) (r:=r) Jw (fun y=>D8 d y∧r∉y.k.map (·.1)) (x:=x) ⟨hx,c2⟩ hq (fun j y hj hy=>sCl hO h he hn h1k F _ y (by have:=Bv j hj;omega) hy.1 (LK j hj) (by omega));obtain⟨g1,g2,g3⟩:=GZ (d:=d) (fun y=>D8 d y∧r∉y.k.map (·.1)) (F:=F) (r:=r) (x:=x) ⟨hx,c2⟩ hq;generalize aW (fun j (y:List Int×Cs)=>(y.1.set j (bV d F ((aj d r).aA.getD j 0) y.2).1,(bV d F ((aj d r).aA.getD j 0) y.2).2)) (aj d r).aA.length 0 (List.replicate (aj d r).aA.length 0,x)=y at hl g1 g2 g3;obtain⟨ks,e,nd,kn⟩:=y;have g1:ks.length=(aj d r).aA.length:=g1;have En:1<=ks.length∧ks.length<=12:=by rw[g1];exact⟨h1k r.toNat aQ,Jw⟩
  have hN:nd.length+1<=ah:=by have:=g2.KC;have:=g2.n2;simp at *;omega
  have hs:=ajt (n:=N+F) FK (a:=d.ay) (b:=d.aG) (E:=e) (nd:=nd) (r:=0) (aj d r).var ks En g2.n1 hN;have f0:ny X0 Qp 3 (kI.es (KG x.k)) (kI.tv r):=kI.fresh (by rw[DR];exact c2);have f1:ny X0 Qp 3 (kI.es (KG kn)) (kI.tv r):=kI.fresh (by rw[DR];exact g3);have f2:=kI.ck r;show aV X0 Qp _ _ _ _ (.int .i64 (dU nd (aj d r).var ks)) (HC' (yG d) ⟨e,dh nd (aj d r).var ks,kn++[(r,dU nd (aj d r).var ks)]⟩);generalize dU nd (aj d r).var ks=v at hs ⊢;generalize dh nd (aj d r).var ks=nd' at hs ⊢;have em:kI.es (KG (kn++[(r,v)]))=kI.es (KG kn)++[(kI.pv r,.int .i64 v)]:=by
   show List.map _ (List.map _ (kn++[(r,v)]))=_;rw[a3H,a3H];rfl
  have f3:qc X0 Qp 3 (kI.es (KG kn)++[(kI.pv r,.int .i64 v)]) (kI.tv r) (.int .i64 v):=by
   rw[<-em];exact kI.found (by rw[DR,a3H];exact wJ g2.k1 g3) (a1L.2 ⟨(r,v),by simp,rfl⟩)
  have hi:gW r d.au.length:=⟨by omega,hr.1⟩;have hm:((aj d r).aA.length:Int)<=(ah:Int):=by have:=m12 Jw;omega
  show aV X0 Qp _ _ _ _ _ ([_,_,_,_,_,_,_]++[_,_,.map (kI.es (KG (kn++[(r,v)]))),_,_]++[_,_]);rw[em];exact aV.gs hX (qU hX Fe (first:=[]) (v:=.int .i64 v) (H1:=[.list false false 3 d.ay,.list false false 3 d.aG,.map (kV.es (zo e)),.map (kK.es (yE nd')),mkC d.ay d.aG 15 16 0,.gone,.gone,.aC (yG d).ps,.aC [.ptr 4 0 9],.map (kI.es (KG kn)++[(kI.pv r,.int .i64 v)]),.aC [.map 9],.aC [.fn 195 [] pC],.gone,.gone,.gone,Pz e,PD nd']) (by kernel_rfl) (.b t0 (.q (.bool false) f0 (.b (rfl:false=false) (.o hi (.o (show((aj d r).aA.length:Int)=((aj d r).aA.length:Int)from rfl) (.o (show(0:Int)<=((aj d r).aA.length:Int) by omega) (.o hm (.wG [.mv 5,.mv 6,.gc [13,14,12]] hl (.fr [0,1,2,3,4,12,13,14] hs (.q (.bool false) f2 (.o f1 (.c (.int .i64 v) [] f3 .er))))))))))))) [.gc [15,16]] rfl
open Go Tw Pv cO
abbrev OH(a b:List V)(k:Nat):Bool:=!(decide (a.getD k V0=b.getD k V0))
abbrev aeR(a b:List V)(i:Int)(x:List (Nat×PE aF)):aS aF:=⟨[(0,xL 39 a),(1,xL 39 b),(12,xi a.length),(13,xi i)]++x,[],[]⟩
def z227(a b:List V):Unit⊕Nat->Ex×aS aF
 |.inl _=>(.exit 0,aeR a b a.length [(14,xl false)])
 |.inr _=>(.ret,⟨[(4,xl false)],[],[]⟩)
theorem ajv{n:Nat}{fH:eU aF}(hO:Ok n fH)(a b:List V)(hl:a.length<=ah)(h:a.length=b.length):Lp n 227 0 (aeR a b 0 []) (z227 a b (bG (OH a b) a.length)).1 (z227 a b (bG (OH a b) a.length)).2:=
 iR (st:=fun i _=>aeR a b i []) (fun _ _=>True) (by kernel_rfl) hl trivial (fun k s m hk _ ih=>aN hO (.b (bC hk) (.o (aH hk) (.o (aH (h▸hk)) (.q (.bool (!(decide (a.getD k V0=b.getD k V0)))) (neV (.tmp 19) (.tmp 23) (a.getD k V0) (b.getD k V0)) (.ls (.ou nofun) (.nx (ih _ trivial)))))))) (fun s _=>aN hO (.b (fD a.length) (.ou nofun)))
theorem a9V{a b:List V}(h:a.length=b.length):a=b↔∀j,j<a.length->a.getD j V0=b.getD j V0:=by
 constructor
 .rintro rfl j _;rfl
 intro h2;apply aae h;intro j h3 h4;have:=h2 j h3;simpa[List.getD,a0E h3,a0E h4]using this
theorem OI{a b:List V}(h:a.length=b.length):jU (bG (OH a b) a.length)=decide (a=b):=by
 rw[a4g,dQ,a1T,a9V h];simp[OH]
theorem a9W{α:Type}[DecidableEq α]{a b:List α}(h:((a.length:Int) != (b.length:Int))=true):decide (a=b)=false:=by
 rw[a3t];rintro rfl;simp at h
def acv:eU aF:=bZ 227 (a2 vsA vsA) tA (fun p=>decide (p.1=p.2)) (fun p=>[p.1.length<=ah]) D5
theorem ajw:Gd acv:=aco.add fun n hO p hp=>aK hO (.s (fun h=>.v false (a9W h).symm) fun h=>.z (c:=jU (bG (OH p.1 p.2) p.1.length)) (fun h2=>.w (jV (ajv hO p.1 p.2 (hp _ (.head _)) (kX h)) () h2) (.v true (by rw[<-OI (kX h),h2]))) fun h2=>.w (jW (ajv hO p.1 p.2 (hp _ (.head _)) (kX h)) 0 h2) (.v false (by rw[<-OI (kX h),h2])))
def Ut(x y:Br):Bool:=if(x.var==y.var)=true then decide (x.aA=y.aA)else false
def a6C:eU aF:=bZ 226 (a2 brA brA) tA (fun p=>Ut p.1 p.2) (fun p=>[p.1.aA.length<=ah]) acv
theorem ajx:Gd a6C:=ajw.add fun n hO p hp=>aK hO (.ss (.o (hp _ (.head _)) .rr) .rr)
abbrev wEB(a b:List Br)(i:Int)(x:List (Nat×PE aF)):aS aF:=⟨[(1,xL 105 b),(2,.val (.fn 226 [] [])),(15,xL 105 a),(16,xi a.length),(17,xi i)]++x,[],[]⟩
abbrev cEB(a b:List Br)(k:Nat):Bool:=!(Ut (a.getD k mP) (b.getD k mP))
def zEB(a b:List Br):Unit⊕Nat->Ex×aS aF
 |.inl _=>(.exit 0,wEB a b a.length [(18,xl false)])
 |.inr k=>(.ret,⟨[(6,xl false)],[(a.getD k mP).ps,(b.getD k mP).ps],[]⟩)
theorem lEB{n:Nat}(hO:Ok n a6C)(a b:List Br)(hl:a.length<=ah)(h:a.length=b.length)(hk:∀k,k<a.length->(a.getD k mP).aA.length<=ah):Lp n 228 0 (wEB a b 0 []) (zEB a b (bG (cEB a b) a.length)).1 (zEB a b (bG (cEB a b) a.length)).2:=
 iR (st:=fun i _=>wEB a b i []) (fun _ _=>True) (by kernel_rfl) hl trivial (fun k s m mD _ ih=>aN hO (.b (bC mD) (.o (aH mD) (.o (aH (h▸mD)) (.o (hk k mD) (.ls (.ou nofun) (.nx (ih _ trivial)))))))) (fun s _=>aN hO (.b (fD a.length) (.ou nofun)))
def H6(a b:List Br):Bool:=if((a.length:Int) != (b.length:Int))=true then false else if jU (bG (cEB a b) a.length)=true then true else false
def acw:eU aF:=bZ 228 (a3 a9x a9x (fnA 226)) tA (fun p=>H6 p.1 p.2.1) (fun p=>[p.1.length<=ah,∀k,k<p.1.length->(p.1.getD k mP).aA.length<=ah]) a6C
theorem ajy:Gd acw:=ajx.add fun n hO p hp=>aK hO (.sh (fun _=>.rr) fun h=>.zh (fun h2=>.w (jV (lEB hO p.1 p.2.1 (hp _ (.head _)) (kX h) (hp (∀k,k<p.1.length->(p.1.getD k mP).aA.length<=ah) (.tail _ (.head _)))) () h2) .rr) fun h2=>.w (jW (lEB hO p.1 p.2.1 (hp _ (.head _)) (kX h) (hp (∀k,k<p.1.length->(p.1.getD k mP).aA.length<=ah) (.tail _ (.head _)))) 0 h2) .rr)
def H7(a b:Dg):Bool:=if decide (a.ay=b.ay)=true then(if decide (a.aG=b.aG)=true then(if decide (a.aO=b.aO)=true then(if H6 a.au b.au=true then a.root==b.root else false)else false)else false)else false
def acy:eU aF:=bZ 203 (a2 dA dA) tA (fun p=>H7 p.1 p.2) (fun p=>[p.1.ay.length<=ah,p.1.aG.length<=ah,p.1.aO.length<=ah,p.1.au.length<=ah,∀k,k<p.1.au.length->(p.1.au.getD k mP).aA.length<=ah]) acw
theorem ajz:Gd acy:=ajy.add fun n hO p hp=>aK hO (.o (hp _ (.head _)) (.ss (.o (hp _ (.tail _ (.head _))) (.ss (.o (hp _ (.tail _ (.tail _ (.head _)))) (.ss (.o (hp _ (.tail _ (.tail _ (.tail _ (.head _))))) (.o (hp (∀k,k<p.1.au.length->(p.1.au.getD k mP).aA.length<=ah) (.tail _ (.tail _ (.tail _ (.tail _ (.head _)))))) (.ss .rr .rr))) .rr)) .rr)) .rr))
theorem Xa{x y:Br}:Ut x y=true↔x=y:=by
 obtain⟨a,b⟩:=x;obtain⟨c,e⟩:=y;unfold Ut;simp only[Br.mk.injEq];by_cases h:a=c<;>simp[h]
theorem a2P{a b:List Br}:H6 a b=true↔a=b:=by
 unfold H6;by_cases h:a.length=b.length
 .rw[a0S (by simp;omega)];have e:jU (bG (cEB a b) a.length)=true↔a=b:=by
   rw[dQ];constructor
   .intro h1;apply aae h;intro j h3 h4;have:=h1 j h3;simp only[cEB,ad4]at this;have:=Xa.1 this;simpa[List.getD,a0E h3,a0E h4]using this
   rintro rfl j _;simp only[cEB,ad4];exact Xa.2 rfl
  rw[<-e];cases jU (bG (cEB a b) a.length)<;>simp
 rw[a0V (by simp;omega)];constructor
 .intro h1;cases h1
 rintro rfl;exact absurd rfl h
theorem a19{a b:Dg}:H7 a b=true↔a=b:=by
 obtain⟨a1,a2,a3,a4,a5⟩:=a;obtain⟨b1,b2,b3,b4,b5⟩:=b;unfold H7;simp only[Dg.mk.injEq];by_cases h1:a1=b1
 .by_cases h2:a2=b2
  .by_cases h3:a3=b3
   .have h4:=a2P (a:=a4) (b:=b4);cases e:H6 a4 b4
    .rw[e]at h4;simp[h1,h2,h3];intro h5;exact absurd h5 (by simpa using h4)
    rw[e]at h4;simp at h4;simp[h1,h2,h3,h4]
   simp[h3]
  simp[h2]
 simp[h1]
open Go Tw Pv cO
def wV(s:List Int×List Int)(x:Int):Int:=if x<0 then i64.wrap (-1-(s.2.idxOf (jw x):Nat))else(s.1.idxOf x:Nat)
def V8(s:List Int×List Int)(x:Int):Prop:=(x<0->jw x∈s.2)∧(0<=x->x∈s.1)
def KS(d:Dg)(s:List Int×List Int):Cs:=⟨s.2.map fun e=>d.aO.getD e.toNat V0,s.1.map fun o=>⟨(aj d o).var,(aj d o).aA.map (wV s)⟩,s.1.map fun o=>(o,wV s o)⟩
def J4(d:Dg)(s:List Int×List Int):Prop:=∀o∈s.1,∀k∈(aj d o).aA,V8 s k
theorem Uu{s:List Int×List Int}{x:Int}(l:List Int)(h:V8 s x):wV (s.1,s.2++l) x=wV s x:=by
 unfold wV;split
 .rename_i c;rw[a9o,a0V (h.1 c)]
 rfl
theorem H8{s:List Int×List Int}{x:Int}(l:List Int)(h:V8 s x):wV (s.1++l,s.2) x=wV s x:=by
 unfold wV;split
 .rfl
 rename_i c;rw[a9o,a0V (h.2 (by omega))]
theorem aeT{d:Dg}{s:List Int×List Int}(hk:J4 d s)(hn:∀o∈s.1,0<=o)(e:Int):KS d (s.1,s.2++[e])=⟨(KS d s).e++[d.aO.getD e.toNat V0],(KS d s).n,(KS d s).k⟩:=by
 unfold KS;simp only[a3H,a3K,ab9,Cs.mk.injEq,true_and];constructor
 .apply a6f;intro o ho;congr 1;apply a6f;intro k mD;exact Uu [e] (hk o ho k mD)
 apply a6f;intro o ho;rw[Uu [e] ⟨fun c=>absurd (hn o ho) (by omega),fun _=>ho⟩]
theorem a9X{d:Dg}{s:List Int×List Int}(hk:J4 d s)(hn:∀o∈s.1,0<=o){r:Int}(h0:0<=r)(hr:r∉s.1)(LK:∀k∈(aj d r).aA,V8 s k):KS d (s.1++[r],s.2)=⟨(KS d s).e,(KS d s).n++[⟨(aj d r).var,(aj d r).aA.map (wV s)⟩],(KS d s).k++[(r,(s.1.length:Int))]⟩:=by
 unfold KS;simp only[a3H,a3K,ab9,Cs.mk.injEq,true_and];refine⟨?_,?_⟩
 .congr 1
  .apply a6f;intro o ho;congr 1;exact a6f fun k mD=>H8 [r] (hk o ho k mD)
  congr 2;exact a6f fun k mD=>H8 [r] (LK k mD)
 congr 1
 .apply a6f;intro o ho;rw[H8 [r] ⟨fun c=>absurd (hn o ho) (by omega),fun _=>ho⟩]
 congr 2;unfold wV;rw[a0S (by omega)];simp[a9o,hr]
theorem ajA{a b:Nat}(ha:a<=2^61)(hb:b<=2^61)(h:i64.wrap (-1-(a:Int))=i64.wrap (-1-(b:Int))):a=b:=by
 rw[fF (by omega) (by omega),fF (by omega) (by omega)]at h;omega
theorem a1a{l:List Int}{a b:Int}(ha:a∈l)(hb:b∈l)(h:l.idxOf a=l.idxOf b):a=b:=by
 have h1:=a8j (a4l.2 ha);have h2:=a8j (a4l.2 hb);rw[<-h1,<-h2];congr 1
theorem a6D{x y:Int}(hx:KE x)(hy:KE y)(cx:x<0)(cy:y<0)(h:jw x=jw y):x=y:=by
 unfold jw at h;rw[LJ hx cx,LJ hy cy]at h;omega
theorem a1b{s:List Int×List Int}(hs:s.2.length<=2^61){x y:Int}(hx:V8 s x)(hy:V8 s y)(wx:KE x)(wy:KE y)(h:wV s x=wV s y):x=y:=by
 have lt:∀z,z∈s.2->s.2.idxOf z<=2^61:=fun z hz=>a4p (aaX (a4l.2 hz)) hs;unfold wV at h;by_cases cx:x<0
 .rw[a0V cx]at h;by_cases cy:y<0
  .rw[a0V cy]at h;exact a6D wx wy cx cy (a1a (hx.1 cx) (hy.1 cy) (ajA (lt _ (hx.1 cx)) (lt _ (hy.1 cy)) h))
  rw[a0S cy]at h;have:=lt _ (hx.1 cx);rw[fF (by omega) (by omega)]at h;omega
 rw[a0S cx]at h;by_cases cy:y<0
 .rw[a0V cy]at h;have:=lt _ (hy.1 cy);rw[fF (by omega) (by omega)]at h;omega
 rw[a0S cy]at h;exact a1a (hx.2 (by omega)) (hy.2 (by omega)) (by omega)
open Go Tw Pv cO
def Ext(s t:List Int×List Int):Prop:=∃a b,t=(s.1++a,s.2++b)
theorem Ext.refl(s:List Int×List Int):Ext s s:=⟨[],[],by simp⟩
theorem Ext.trans{s t u:List Int×List Int}(h:Ext s t)(h2:Ext t u):Ext s u:=by
 obtain⟨a,b,rfl⟩:=h;obtain⟨c,e,rfl⟩:=h2;exact⟨a++c,b++e,by simp⟩
theorem V8.ext{s t:List Int×List Int}{x:Int}(h:V8 s x)(he:Ext s t):V8 t x:=by
 obtain⟨a,b,rfl⟩:=he;exact⟨fun c=>a5u _ (h.1 c),fun c=>a5u _ (h.2 c)⟩
theorem a9Y{s t:List Int×List Int}{x:Int}(h:V8 s x)(he:Ext s t):wV t x=wV s x:=by
 have hc:=h;obtain⟨a,b,rfl⟩:=he;have h2:V8 (s.1,s.2++b) x:=⟨fun c=>a5u _ (h.1 c),h.2⟩;rw[<-Uu b h,<-H8 a h2]
theorem S9{α β:Type}{g1:Nat->α->α}{g2:Nat->β->β}(R:Nat->α->β->Prop):∀(m k:Nat) (a:α) (b:β),R k a b->(∀j a b,k<=j->j<k+m->R j a b->R (j+1) (g1 j a) (g2 j b))->R (k+m) (aW g1 m k a) (aW g2 m k b)
 | 0,_,_,_,h,_=>h
 |m+1,k,a,b,h,hs=>by
  have:=S9 R m (k+1) (g1 k a) (g2 k b) (hs k a b (a1J _) (by omega) h) (fun j a b h1 h2=>hs j a b (by omega) (by omega));rw[show k+(m+1)=k+1+m by omega];exact this
theorem a1c{α β:Type}[BEq α][LawfulBEq α][BEq β][LawfulBEq β]{f:α->β}{a:α}:∀{l:List α},(∀b∈l,f b=f a->b=a)->(l.map f).idxOf (f a)=l.idxOf a
 | [],_=>rfl
 |c::l,h=>by
  rw[a3K,ad7,ad7,a1c fun b hb=>h b (a3w _ hb)];by_cases hc:c=a
  .subst hc;simp
  have:¬(f c=f a):=fun e=>hc (h c (.head _) e);rw[show(c==a)=false by simpa using hc,show(f c==f a)=false by simpa using this]
structure DgD(d:Dg):Prop where
 aO:d.aO.Nodup
 au:∀i j,i<d.au.length->j<d.au.length->(fA d i).var=(fA d j).var->(fA d i).aA=(fA d j).aA->i=j
 flat:∀i,i<d.au.length->((fA d i).aA.all fun x=>x==(fA d i).aA.getD 0 0)=false
theorem Xb{d:Dg}(h:d.aO.Nodup){a b:Int}(ha:gW a d.aO.length)(hb:gW b d.aO.length)(e:d.aO.getD a.toNat V0=d.aO.getD b.toNat V0):a=b:=by
 have h1:a.toNat<d.aO.length:=by have:=ha.1;have:=ha.2;omega
 have h2:b.toNat<d.aO.length:=by have:=hb.1;have:=hb.2;omega
 simp only[List.getD,a0E h1,a0E h2,a4s]at e;have:=(aa7 h).1 e;have:=ha.1;have:=hb.1;omega
theorem aeU{d:Dg}(hd:DgD d){s:List Int×List Int}(hs:IX d s){r:Int}(hr:gW (jw r) d.aO.length):(KS d s).e.idxOf (pF d r)=s.2.idxOf (jw r)∧(pF d r∈(KS d s).e↔jw r∈s.2):=by
 have hi:∀b∈s.2,(fun e:Int=>d.aO.getD e.toNat V0) b=(fun e:Int=>d.aO.getD e.toNat V0) (jw r)->b=jw r:=fun b hb e=>Xb hd.aO (hs.e2 b hb) hr e;refine⟨a1c (f:=fun e:Int=>d.aO.getD e.toNat V0) (a:=jw r) hi,?_⟩;constructor
 .intro h;obtain⟨b,hb,e⟩:=a1L.1 h;rw[<-hi b hb e];exact hb
 intro h;exact a1L.2 ⟨jw r,h,rfl⟩
theorem aeV{d:Dg}{s:List Int×List Int}{r:Int}(h:r∈s.1):Us (KS d s).k r=wV s r:=by
 have h1:r∈(KS d s).k.map (·.1):=by
  unfold KS;rw[a6Z];exact a1L.2 ⟨r,h,rfl⟩
 have h2:=a18 h1;obtain⟨o,_,e⟩:=a1L.1 h2;have e1:o=r:=congrArg Prod.fst e;have e2:wV s o=Us (KS d s).k r:=congrArg Prod.snd e;rw[<-e2,e1]
theorem a9Z{a b:List Int}(h:a.length=b.length)(ha:a.length<=12)(e:GY a=GY b):a=b:=by
 unfold GY at e;have:=congrArg (List.take a.length) e;rw[afJ,afJ,a8d ha,List.take_append_of_le_length (a1J _),List.take_append_of_le_length (by omega),ab5,h,ab5]at this;exact this
theorem map_inj{α β:Type}{f:α->β}:∀{a b:List α},(∀x∈a,∀y∈b,f x=f y->x=y)->a.map f=b.map f->a=b
 | [],[],_,_=>rfl
 | [],_::_,_,h=>by simp at h
 |_::_,[],_,h=>by simp at h
 |x::a,y::b,hi,h=>by
  simp only[a3K,aeS]at h;rw[hi x (.head _) y (.head _) h.1,map_inj (fun u hu v hv=>hi u (a3w _ hu) v (a3w _ hv)) h.2]
open Go Tw Pv cO
structure Alk(d:Dg)(F:Nat)(r:Int)(s:List Int×List Int):Prop where
 eq:bV d F r (KS d s)=(wV (jG d F r s) r,KS d (jG d F r s))
 aA:J4 d (jG d F r s)
 cov:V8 (jG d F r s) r
 ext:Ext s (jG d F r s)
theorem acA{d:Dg}(h:Bq d)(hw:KF d)(hd:DgD d)(he:d.aO.length<=2^61):∀(F:Nat) (r:Int) (s:List Int×List Int),r+1<F->IX d s->J4 d s->jf d r d.au.length->1<=F->Alk d F r s
 | 0,r,s,_,_,_,_,h1=>by omega
 |F+1,r,s,hF,hs,hk,hr,_=>by
  have hn:∀o∈s.1,0<=o:=fun o ho=>(hs.n2 o ho).1;by_cases c:r<0
  .have t0:decide (r<0)=true:=(by simpa using c);obtain⟨q1,q2⟩:=aeU hd hs (hr.2 c);have e1:bV d (F+1) r (KS d s)=(i64.wrap (-1-((KS d s).e.idxOf (pF d r):Nat)),⟨jO (KS d s).e (pF d r),(KS d s).n,(KS d s).k⟩):=by unfold bV;rw[a0V t0]
   by_cases c2:jw r∈s.2
   .have e2:jG d (F+1) r s=s:=by unfold jG;rw[a0V t0,a0S (by simpa using c2)]
    refine⟨?_,by rw[e2];exact hk,by rw[e2];exact⟨fun _=>c2,fun h0=>by omega⟩,by rw[e2];exact .refl s⟩;rw[e1,e2,q1,show jO (KS d s).e (pF d r)=(KS d s).e from a0V (q2.2 c2)];unfold wV;rw[a0V c]
   have e2:jG d (F+1) r s=(s.1,s.2++[jw r]):=by unfold jG;rw[a0V t0,a0V (by simpa using c2)]
   have hc:V8 (s.1,s.2++[jw r]) r:=⟨fun _=>by simp,fun h0=>by omega⟩;have hx:Ext s (s.1,s.2++[jw r]):=⟨[],[jw r],by simp⟩;refine⟨?_,by rw[e2];exact fun o ho k mD=>(hk o ho k mD).ext hx,by rw[e2];exact hc,by rw[e2];exact hx⟩;rw[e1,e2,q1,aeT hk hn,show jO (KS d s).e (pF d r)=(KS d s).e++[pF d r]from a0S (fun e=>c2 (q2.1 e))];unfold wV;rw[a0V c];simp[a9o,c2,a9a c2,pF]
  have t0:¬(decide (r<0)=true):=by simpa using c
  have xJ:(KS d s).k.map (·.1)=s.1:=by unfold KS;rw[a6Z];exact List.map_id _
  by_cases c2:r∈s.1
  .have e2:jG d (F+1) r s=s:=by unfold jG;rw[a0S t0,a0V (by simpa using c2)]
   have e1:bV d (F+1) r (KS d s)=(Us (KS d s).k r,KS d s):=by unfold bV;rw[a0S t0,a0V (by rw[xJ];simpa using c2)]
   refine⟨?_,by rw[e2];exact hk,by rw[e2];exact⟨fun h0=>absurd h0 c,fun _=>c2⟩,by rw[e2];exact .refl s⟩;rw[e1,e2,aeV c2]
  have aQ:r.toNat<d.au.length:=by have:=hr.1;omega
  have Bv:∀k,k<(aj d r).aA.length->(aj d r).aA.getD k 0<r:=fun k mD=>by
   have h9:=(h.Ak r.toNat aQ k mD).1;have h9:(aj d r).aA.getD k 0<(r.toNat:Int):=h9;omega
  have LK:∀j,j<(aj d r).aA.length->jf d ((aj d r).aA.getD j 0) d.au.length:=fun j hj=>⟨by have:=Bv j hj;have:=hr.1;omega,(h.Ak r.toNat aQ j hj).2⟩;have a5T:=S9 (g1:=fun j (y:List Int×Cs)=>(y.1.set j (bV d F ((aj d r).aA.getD j 0) y.2).1,(bV d F ((aj d r).aA.getD j 0) y.2).2)) (g2:=fun k y=>jG d F ((aj d r).aA.getD k 0) y)
   (fun j (y:List Int×Cs) (t:List Int×List Int)=>y=(((aj d r).aA.take j).map (wV t)++List.replicate ((aj d r).aA.length-j) 0,KS d t)∧IX d t∧J4 d t∧Ext s t∧r∉t.1∧∀i,i<j->V8 t ((aj d r).aA.getD i 0)) (aj d r).aA.length 0 (List.replicate (aj d r).aA.length 0,KS d s) s ⟨by simp,hs,hk,.refl s,c2,fun i hi=>by omega⟩ (fun j y t _ hj hy=>by
    obtain⟨rfl,y1,y2,y3,y4,y5⟩:=hy;have hj:j<(aj d r).aA.length:=(by omega);have ih:=acA h hw hd he F _ t (by have:=Bv j hj;omega) y1 y2 (LK j hj) (by omega);have hno:=a6i F ((aj d r).aA.getD j 0) r t (Bv j hj) y4 (by omega) (fun i hi k hk=>(h.Ak i hi k hk).1) (fun h5=>⟨h5,by have:=(LK j hj).1;omega⟩);have Qo:=JO h F ((aj d r).aA.getD j 0) t y1 (LK j hj);obtain⟨i1,i2,i3,i4⟩:=ih;simp only[i1];generalize jG d F ((aj d r).aA.getD j 0) t=u at i2 i3 i4 hno Qo ⊢;refine⟨?_,Qo,i2,y3.trans i4,hno,fun i hi=>?_⟩
    .simp only[a1o,and_true];have hl:(List.map (wV t) (List.take j (aj d r).aA)).length=j:=by rw[a3Q,a3B];omega
     rw[show(aj d r).aA.length-j=((aj d r).aA.length-(j+1))+1 by omega,ae2,List.set_append_right _ _ (by rw[hl];exact a1J j)];rw[hl,agh,List.set_cons_zero,a6Y hj,a3H,a5I];congr 1
     .apply a6f;intro x hx;obtain⟨i,hi,rfl⟩:=a4h.1 hx;have zS:i<j:=by simp at hi;omega
      have:=y5 i zS;rw[rG (l:=(aj d r).aA) (show i<(aj d r).aA.length by omega)]at this;rw[List.getElem_take];exact(a9Y this i4).symm
     .rw[rG hj];rfl
    .by_cases zS:i<j
     .exact(y5 i zS).ext i4
     .rw[show i=j by omega];exact i3)
  have e1:bV d (F+1) r (KS d s)=(dU (aW (fun j (y:List Int×Cs)=>(y.1.set j (bV d F ((aj d r).aA.getD j 0) y.2).1,(bV d F ((aj d r).aA.getD j 0) y.2).2)) (aj d r).aA.length 0 (List.replicate (aj d r).aA.length 0,KS d s)).2.n (aj d r).var (aW (fun j (y:List Int×Cs)=>(y.1.set j (bV d F ((aj d r).aA.getD j 0) y.2).1,(bV d F ((aj d r).aA.getD j 0) y.2).2)) (aj d r).aA.length 0 (List.replicate (aj d r).aA.length 0,KS d s)).1,⟨(aW (fun j (y:List Int×Cs)=>(y.1.set j (bV d F ((aj d r).aA.getD j 0) y.2).1,(bV d F ((aj d r).aA.getD j 0) y.2).2)) (aj d r).aA.length 0 (List.replicate (aj d r).aA.length 0,KS d s)).2.e,dh (aW (fun j (y:List Int×Cs)=>(y.1.set j (bV d F ((aj d r).aA.getD j 0) y.2).1,(bV d F ((aj d r).aA.getD j 0) y.2).2)) (aj d r).aA.length 0 (List.replicate (aj d r).aA.length 0,KS d s)).2.n (aj d r).var (aW (fun j (y:List Int×Cs)=>(y.1.set j (bV d F ((aj d r).aA.getD j 0) y.2).1,(bV d F ((aj d r).aA.getD j 0) y.2).2)) (aj d r).aA.length 0 (List.replicate (aj d r).aA.length 0,KS d s)).1,(aW (fun j (y:List Int×Cs)=>(y.1.set j (bV d F ((aj d r).aA.getD j 0) y.2).1,(bV d F ((aj d r).aA.getD j 0) y.2).2)) (aj d r).aA.length 0 (List.replicate (aj d r).aA.length 0,KS d s)).2.k++[(r,dU (aW (fun j (y:List Int×Cs)=>(y.1.set j (bV d F ((aj d r).aA.getD j 0) y.2).1,(bV d F ((aj d r).aA.getD j 0) y.2).2)) (aj d r).aA.length 0 (List.replicate (aj d r).aA.length 0,KS d s)).2.n (aj d r).var (aW (fun j (y:List Int×Cs)=>(y.1.set j (bV d F ((aj d r).aA.getD j 0) y.2).1,(bV d F ((aj d r).aA.getD j 0) y.2).2)) (aj d r).aA.length 0 (List.replicate (aj d r).aA.length 0,KS d s)).1)]⟩):=by
   rw[bV,a0S t0,a0S (by rw[xJ];simpa using c2)]
  have e2:jG d (F+1) r s=((aW (fun k y=>jG d F ((aj d r).aA.getD k 0) y) (aj d r).aA.length 0 s).1++[r],(aW (fun k y=>jG d F ((aj d r).aA.getD k 0) y) (aj d r).aA.length 0 s).2):=by
   rw[jG,a0S t0,a0S (by simpa using c2)]
  generalize aW (fun j (y:List Int×Cs)=>(y.1.set j (bV d F ((aj d r).aA.getD j 0) y.2).1,(bV d F ((aj d r).aA.getD j 0) y.2).2)) (aj d r).aA.length 0 (List.replicate (aj d r).aA.length 0,KS d s)=y at a5T e1;generalize aW (fun k y=>jG d F ((aj d r).aA.getD k 0) y) (aj d r).aA.length 0 s=t at a5T e2;obtain⟨rfl,f2,f3,f4,f5,f6⟩:=a5T;rw[a3E]at f6;simp only[a3E,ab5,agh,List.replicate_zero,a6h]at e1;have a6E:∀k∈(aj d r).aA,V8 t k:=fun k mD=>by
   obtain⟨i,hi,rfl⟩:=a4h.1 mD;have:=f6 i hi
   rwa [rG hi]at this
  have hW:∀o,0<=o->gW o d.au.length->∀k∈(aj d o).aA,KE k:=fun o _ ho k mD=>by
   obtain⟨i,hi,rfl⟩:=a4h.1 mD;have:=hw.Ak o.toNat (by have:=ho.1;have:=ho.2;omega) i hi
   rwa [rG hi]at this
  have hrI:gW r d.au.length:=⟨by omega,hr.1⟩;have hel:t.2.length<=2^61:=a4p f2.len.2 he;have acB:((aj d r).aA.map (wV t)).all (fun x=>x==((aj d r).aA.map (wV t)).getD 0 0)=false:=by
   cases e:((aj d r).aA.map (wV t)).all (fun x=>x==((aj d r).aA.map (wV t)).getD 0 0)
   .rfl
   exfalso;have hf:=hd.flat r.toNat aQ;rw[List.all_eq_false]at hf;obtain⟨x,hx,hx2⟩:=hf;have hx:x∈(aj d r).aA:=hx;have h0:0<(aj d r).aA.length:=List.length_pos_of_mem hx;rw[a4f]at e;have:=e (wV t x) (a1L.2 ⟨x,hx,rfl⟩);rw[rG (by simpa using h0),a8P]at this;have h00:(aj d r).aA[0]∈(aj d r).aA:=a4d h0;have:=a1b hel (a6E x hx) (a6E _ h00) (hW r (by omega) hrI x hx) (hW r (by omega) hrI _ h00) (by simpa using this);apply hx2;have h9:(fA d r.toNat).aA.getD 0 0=(aj d r).aA[0]:=rG h0;rw[h9,this];simp
  have adS:tH (aj d r).var ((aj d r).aA.map (wV t))∉(KS d t).n.map BA:=by
   intro hm;unfold KS at hm;rw[a6Z]at hm;obtain⟨o,ho,e⟩:=a1L.1 hm;have Yu:=f2.n2 o ho;have QC:o.toNat<d.au.length:=by have:=Yu.1;have:=Yu.2;omega
   have ev:(fA d o.toNat).var=(fA d r.toNat).var:=congrArg Prod.fst e;have ep:GY ((aj d o).aA.map (wV t))=GY ((aj d r).aA.map (wV t)):=congrArg (fun z:Ky=>z.2.val) e;have hlen:((fA d o.toNat).aA.length:Int)=((fA d r.toNat).aA.length:Int):=(by rw[h.ksz _ QC,h.ksz _ aQ,ev]);have hlen:(aj d o).aA.length=(aj d r).aA.length:=by exact_mod_cast hlen
   have em:=a9Z (by simpa using hlen) (by rw[a3Q];exact h.KC _ QC) ep;have ek:=map_inj (fun x hx y hy e=>a1b hel (f3 o ho x hx) (a6E y hy) (hW o Yu.1 Yu x hx) (hW r (by omega) hrI y hy) e) em;have:=hd.au _ _ QC aQ ev ek;have:o=r:=by have:=Yu.1;omega
   exact f5 (this▸ho)
  have hnl:(KS d t).n.length=t.1.length:=by unfold KS;simp
  have hR:dU (KS d t).n (aj d r).var ((aj d r).aA.map (wV t))=(t.1.length:Int):=by
   unfold dU;rw[acB,a0S (by simp),a9a adS,a3Q,hnl]
  have hS:dh (KS d t).n (aj d r).var ((aj d r).aA.map (wV t))=(KS d t).n++[⟨(aj d r).var,(aj d r).aA.map (wV t)⟩]:=by
   unfold dh;rw[acB,a0S (by simp),a0S adS]
  have hx:Ext t (t.1++[r],t.2):=⟨[r],[],by simp⟩;have hc:V8 (t.1++[r],t.2) r:=⟨fun h0=>absurd h0 c,fun _=>by simp⟩;refine⟨?_,?_,by rw[e2];exact hc,by rw[e2];exact f4.trans hx⟩
  .rw[e1,e2,hR,hS,a9X f3 (fun o ho=>(f2.n2 o ho).1) (by omega) f5 a6E];unfold wV;rw[a0S c];simp[a9o,f5]
  rw[e2];intro o ho k mD;rcases a3y.1 ho with ho|ho
  .exact(f3 o ho k mD).ext hx
  rw[a2J.1 ho]at mD;exact(a6E k mD).ext hx
open Go Tw Pv cO
theorem Xc(b:Br):CZ b=b.aA.all fun x=>x==b.aA.getD 0 0:=by
 have e:jU (RG (OA b) 1 (max 1 b.aA.length))=true↔∀k,1<=k->k<b.aA.length->b.aA.getD k 0=b.aA.getD 0 0:=by
  unfold RG gS;rw[Oi (r:=fun k=>k)];constructor
  .intro h k h1 h2;simpa[OA]using h k h1 (by omega)
  intro h k h1 h2;simpa[OA]using h k h1 (by omega)
 have e2:(b.aA.all fun x=>x==b.aA.getD 0 0)=true↔∀k,1<=k->k<b.aA.length->b.aA.getD k 0=b.aA.getD 0 0:=by
  rw[a4f];constructor
  .intro h k _ h2;have:=h _ (dZ h2);simpa using this
  intro h x hx;obtain⟨k,hk,rfl⟩:=a4h.1 hx;by_cases h0:k=0
  .subst h0;rw[rG hk];simp
  have:=h k (by omega) hk;rw[rG hk]at this;rw[this];simp
 have:CZ b=true↔(b.aA.all fun x=>x==b.aA.getD 0 0)=true:=by
  rw[e2,<-e];unfold CZ;cases jU (RG (OA b) 1 (max 1 b.aA.length))<;>simp
 rw[a4g];exact this
theorem aeW{d:Dg}:jU (bG (cD0 d) d.aO.length)=true↔d.aO.Nodup:=by
 rw[dQ];have h1:∀i,cD0 d i=false↔∀j,j<i->d.aO.getD j V0≠d.aO.getD i V0:=fun i=>by
  have:jU (bG (cD1 d i) i)=true↔∀j,j<i->d.aO.getD j V0≠d.aO.getD i V0:=by
   rw[dQ];simp[cD1]
  rw[<-this];unfold cD0;cases jU (bG (cD1 d i) i)<;>simp
 have hg:∀j,(hj:j<d.aO.length)->d.aO.getD j V0=d.aO[j]:=fun j hj=>by simp[List.getD,a0E hj]
 constructor
 .intro h;rw[abr,ac6];intro i j hi hj zS;have:=(h1 j).1 (h j hj) i zS
  rwa [hg i hi,hg j hj]at this
 intro h i hi;rw[h1];intro j hj;rw[abr,ac6]at h;have:=h j i (by omega) hi hj
 rwa [hg i hi,hg j (by omega)]
theorem aeX{d:Dg}:jU (bG (cD2 d) d.au.length)=true↔(∀i j,i<d.au.length->j<d.au.length->(fA d i).var=(fA d j).var->(fA d i).aA=(fA d j).aA->i=j)∧∀i,i<d.au.length->((fA d i).aA.all fun x=>x==(fA d i).aA.getD 0 0)=false:=by
 rw[dQ];have h1:∀i,cD2 d i=false↔CZ (fA d i)=false∧∀j,j<i->¬((fA d j).var=(fA d i).var∧(fA d j).aA=(fA d i).aA):=fun i=>by
  have h3:∀j,cD3 d i j=false↔¬((fA d j).var=(fA d i).var∧(fA d j).aA=(fA d i).aA):=fun j=>by
   unfold cD3;by_cases hv:(fA d j).var=(fA d i).var
   .rw[a0V (by rw[a7k];exact hv),a3t];exact⟨fun a b=>a b.2,fun a b=>a ⟨hv,b⟩⟩
   rw[a0S (by rw[a7k];exact hv)];exact⟨fun _ a=>hv a.1,fun _=>rfl⟩
  have:jU (bG (cD3 d i) i)=true↔∀j,j<i->¬((fA d j).var=(fA d i).var∧(fA d j).aA=(fA d i).aA):=by
   rw[dQ];exact abq fun j=>abq fun _=>h3 j
  rw[<-this];unfold cD2;cases CZ (fA d i)
  .cases jU (bG (cD3 d i) i)<;>simp
  simp
 constructor
 .intro h;refine⟨fun i j hi hj hv hk=>?_,fun i hi=>by rw[<-Xc];exact((h1 i).1 (h i hi)).1⟩;rcases Nat.lt_trichotomy i j with zS|zS|zS
  .exact absurd ⟨hv,hk⟩ (((h1 j).1 (h j hj)).2 i zS)
  .exact zS
  exact absurd ⟨hv.symm,hk.symm⟩ (((h1 i).1 (h i hi)).2 j zS)
 intro h i hi;rw[h1];refine⟨by rw[Xc];exact h.2 i hi,fun j hj hc=>?_⟩;have:=h.1 j i (by omega) hi hc.1 hc.2;omega
theorem aa0{d:Dg}:(jU (bG (cD0 d) d.aO.length)=true∧jU (bG (cD2 d) d.au.length)=true)↔DgD d:=by
 rw[aeW,aeX];exact⟨fun h=>⟨h.1,h.2.1,h.2.2⟩,fun h=>⟨h.aO,h.au,h.flat⟩⟩
theorem OJ{l:List Int}{m:Nat}:zl l m=true↔l=dN m:=by
 unfold zl;have e:jU (bG (a6c l) l.length)=true↔∀j,j<l.length->l.getD j 0=(j:Int):=by
  rw[dQ];simp[a6c]
 constructor
 .intro h;split at h
  .rename_i h1;have hl:(l.length:Int)=(m:Int):=(by simpa using h);have hl:l.length=m:=(by omega);rw[rC (d:=0) (by rw[kY,hl])];intro j hj;rw[e.1 h1 j hj];have:j<m:=(by omega);simp[dN,List.getD,this]
  cases h
 rintro rfl;rw[a0V (e.2 fun j hj=>by rw[kY]at hj;simp[dN,List.getD,hj]),kY];simp
theorem Xd{d:Dg}:pz d=true↔DgD d∧srN d d.root=dN d.au.length∧srE d d.root=dN d.aO.length:=by
 rw[<-aa0,<-OJ,<-OJ];unfold pz;cases jU (bG (cD0 d) d.aO.length)
 .simp
 cases jU (bG (cD2 d) d.au.length)
 .simp
 cases zl (srN d d.root) (d.au.length:Int)<;>simp
open Go Tw Pv cO
abbrev Ze:Cs:=⟨[],[],[]⟩
def eP(d:Dg):Dg:=⟨d.ay,d.aG,(bV d 6002 d.root Ze).2.e,(bV d 6002 d.root Ze).2.n,(bV d 6002 d.root Ze).1⟩
theorem Uw{d:Dg}:D8 d Ze:=⟨a6a,by simp,a6a,by simp,a6a,by simp⟩
abbrev a6F(b:Br):Bool:=b.aA.all fun x=>x==b.aA.getD 0 0
theorem a1d{d:Dg}:∀(F:Nat) (r:Int) (x:Cs),(∀b∈x.n,a6F b=false)->∀b∈(bV d F r x).2.n,a6F b=false
 | 0,_,_,h=>h
 |F+1,r,x,h=>by
  unfold bV;split
  .exact h
  split
  .exact h
  have hb:=(GZ (d:=d) (fun y=>∀b∈y.n,a6F b=false) (F:=F) (r:=r) h (fun j y _ hy=>a1d F _ y hy)).2;intro b Qd;simp only[dh]at Qd;split at Qd
  .exact hb b Qd
  rename_i hf;split at Qd
  .exact hb b Qd
  rcases a3y.1 Qd with Qd|Qd
  .exact hb b Qd
  rw[a2J.1 Qd];simpa using hf
theorem a2Q{d:Dg}(h:Bq d)(e:eP d=d):DgD d:=by
 have hc:=OG h 6002 d.root Ze Uw h.root;have hf:=a1d (d:=d) 6002 d.root Ze (by simp);have ee:(bV d 6002 d.root Ze).2.e=d.aO:=congrArg Dg.aO e;have en:(bV d 6002 d.root Ze).2.n=d.au:=congrArg Dg.au e;rw[en]at hf;have hg:∀j,(hj:j<d.au.length)->fA d j=d.au[j]:=fun j hj=>by simp[List.getD,a0E hj]
 refine⟨ee▸hc.e1,fun i j hi hj hv hk=>?_,fun i hi=>?_⟩
 .have hn:(d.au.map BA).Nodup:=en▸hc.n1;have:=(aa7 (i:=i) (j:=j) (h₀:=by simpa using hi) (h₁:=by simpa using hj) hn).1 (by
   rw[a8P,a8P,<-hg i hi,<-hg j hj];show tH _ _=tH _ _;rw[hv,hk])
  exact this
 have:=hf (fA d i) (by rw[hg i hi];exact a4d hi);exact this
theorem OL{d:Dg}{n m:Nat}{x:Int}(hm:m<=2^61)(hx:KE x)(hc:V8 (dN n,dN m) x):wV (dN n,dN m) x=x:=by
 have hid:∀(n:Nat) (y:Int),y∈dN n->(((dN n).idxOf y:Nat):Int)=y:=fun n y hy=>by
  have hl:=a4l.2 hy;have h1:=a8j hl;rw[kY]at hl;simp only[dN,a8P,List.getElem_range]at h1;exact h1
 unfold wV;by_cases c:x<0
 .rw[a0V c];have h1:=hid m _ (hc.1 c);have h2:jw x=-1-x:=LJ hx c;have h3:=a0Y (hc.1 c);have h4:=h3.2;rw[show((((dN n,dN m):List Int×List Int).2.idxOf (jw x):Nat):Int)=jw x from h1,h2,fF (by omega) (by omega)];omega
 rw[a0S c];exact hid n _ (hc.2 (by omega))
theorem Xe{α:Type}(l:List α)(f:Int->α)(h:∀j,(hj:j<l.length)->f j=l[j]):(dN l.length).map f=l:=by
 apply aae (by simp[dN]);intro j h1 h2;simp[dN,h j h2]
theorem a1e{d:Dg}{j:Nat}(hj:j<d.aO.length):d.aO.getD ((j:Nat):Int).toNat V0=d.aO[j]:=by simp[List.getD,a0E hj]
theorem a1f{l:List Int}{m:Nat}(hl:l.length=m)(h:∀j,(hj:j<l.length)->l[j]=(j:Int)):l=dN m:=by
 apply aae (by rw[kY,hl]);intro j h1 h2;rw[h j h1];simp[dN]
theorem aeY{d:Dg}(h:Bq d)(hw:KF d)(hd:DgD d)(he:d.aO.length<=2^61){t:List Int×List Int}(ht:IX d t)(hk:J4 d t)(hc:V8 t d.root):((KS d t).e=d.aO∧(KS d t).n=d.au∧wV t d.root=d.root)↔(t.1=dN d.au.length∧t.2=dN d.aO.length):=by
 have hW:∀o,gW o d.au.length->∀k∈(aj d o).aA,KE k:=fun o ho k mD=>by
  obtain⟨i,hi,rfl⟩:=a4h.1 mD;have:=hw.Ak o.toNat (by have:=ho.1;have:=ho.2;omega) i hi
  rwa [rG hi]at this
 have hg:∀j,(hj:j<d.au.length)->aj d (j:Nat)=d.au[j]:=fun j hj=>by simp[List.getD,a0E hj]
 constructor
 .rintro⟨h1,h2,h3⟩;have l1:t.2.length=d.aO.length:=by have:=congrArg List.length h1;simpa[KS]using this
  have l2:t.1.length=d.au.length:=by have:=congrArg List.length h2;simpa[KS]using this
  have e2:t.2=dN d.aO.length:=a1f l1 fun j hj=>by
   have rM:j<d.aO.length:=(by omega);have:(KS d t).e[j]'(by rw[h1];exact rM)=d.aO[j]:=(by simp only[h1]);unfold KS at this;simp only[a8P]at this;rw[<-a1e rM]at this;exact Xb hd.aO (ht.e2 _ (a4d hj)) (aH rM) this
  have key:∀(N:Nat) (o:Int),o∈t.1->o.toNat<N->wV t o=o:=by
   intro N
   induction N with
   |zero=>intro o _ hN;omega
   |succ N ih=>
    intro o ho hN;have Yu:=ht.n2 o ho;have aQ:=a4l.2 ho;have rM:t.1.idxOf o<d.au.length:=(by omega);have hel:=a8j aQ;have:(KS d t).n[t.1.idxOf o]'(by rw[h2];exact rM)=d.au[t.1.idxOf o]:=(by simp only[h2]);unfold KS at this;simp only[a8P,hel]at this;have hkm:(aj d o).aA.map (wV t)=(aj d o).aA:=by
     conv=>rhs;rw[<-List.map_id (aj d o).aA]
     apply a6f;intro k mD;show wV t k=k;have hcv:=hk o ho k mD;by_cases c:k<0
     .have:=OL (d:=d) (n:=0) (m:=d.aO.length) he (hW o Yu k mD) ⟨fun c=>by have:=hcv.1 c;rwa [e2]at this,fun h0=>by omega⟩;unfold wV at this ⊢;rw[a0V c]at this ⊢;rw[e2];exact this
     obtain⟨i,hi,rfl⟩:=a4h.1 mD;have aoq:o.toNat<d.au.length:=by have:=Yu.1;have:=Yu.2;omega
     have h9:=(h.Ak o.toNat aoq i hi).1;have h9:(aj d o).aA.getD i 0<(o.toNat:Int):=h9;rw[rG hi]at h9;exact ih _ (hcv.2 (by omega)) (by omega)
    rw[hkm]at this;have hv:(fA d (t.1.idxOf o)).var=(fA d o.toNat).var:=(by rw[show fA d (t.1.idxOf o)=d.au[t.1.idxOf o]from hg _ rM,<-this]);have xJ:(fA d (t.1.idxOf o)).aA=(fA d o.toNat).aA:=(by rw[show fA d (t.1.idxOf o)=d.au[t.1.idxOf o]from hg _ rM,<-this]);have h8:=hd.au _ _ rM (by have:=Yu.1;have:=Yu.2;omega) hv xJ;unfold wV;rw[a0S (by have:=Yu.1;omega),h8];have:=Yu.1;omega
  refine⟨a1f l2 fun j hj=>?_,e2⟩;have hm:=a4d hj;have:=key ((t.1[j]).toNat+1) _ hm (by omega);unfold wV at this;rw[a0S (by have:=(ht.n2 _ hm).1;omega)]at this;rw[<-this];have:t.1.idxOf t.1[j]=j:=by
   have h5:=a4l.2 hm;exact(aa7 (i:=t.1.idxOf t.1[j]) (j:=j) (h₀:=h5) (h₁:=hj) ht.n1).1 (a8j h5)
  rw[this]
 rintro⟨h1,h2⟩;obtain⟨t1,t2⟩:=t;simp only at h1 h2;subst h1 h2;refine⟨?_,?_,OL (d:=d) he hw.root hc⟩
 .exact Xe d.aO (fun e=>d.aO.getD e.toNat V0) fun j hj=>a1e hj
 refine Xe d.au _ fun j hj=>?_;have hkm:(aj d (j:Nat)).aA.map (wV (dN d.au.length,dN d.aO.length))=(aj d (j:Nat)).aA:=by
  conv=>rhs;rw[<-List.map_id (aj d (j:Nat)).aA]
  apply a6f;intro k mD;exact OL (d:=d) he (hW _ (aH hj) k mD) (hk _ (by show(j:Int)∈dN _;unfold dN;rw[a1L];exact⟨j,a3R.2 hj,rfl⟩) k mD)
 rw[hkm,hg j hj]
theorem a2R{d:Dg}(h:Bq d)(hw:KF d)(he:d.aO.length<=2^61)(hn:d.au.length<=6000):eP d=d↔pz d=true:=by
 have main:DgD d->(eP d=d↔(srN d d.root=dN d.au.length∧srE d d.root=dN d.aO.length)):=fun hd=>by
  have hr:d.root+1<6002:=by have:=h.root.1;omega
  have ha:=acA h hw hd he 6002 d.root ([],[]) hr sr0 (fun o ho=>by cases ho) h.root (by omega);have hs:=JO h 6002 d.root ([],[]) sr0 h.root;have hi:=aeY h hw hd he hs ha.aA ha.cov;have e0:KS d ([],[])=Ze:=rfl;have e1:=ha.eq;rw[e0]at e1;unfold srN srE;rw[<-hi];unfold eP;rw[e1];obtain⟨d1,d2,d3,d4,d5⟩:=d;simp
 rw[Xd];constructor
 .intro e;have hd:=a2Q h e;exact⟨hd,(main hd).1 e⟩
 rintro⟨hd,h2⟩;exact(main hd).2 h2
open Go Tw Pv cO
abbrev HCw(l:Lo)(x:Cs):List (PB aF):=[.list false false 3 l.s,.list false false 3 l.o,.map (kV.es (zo x.e)),.map (kK.es (yE x.n)),mkC l.s l.o 12 13 0,.gone,.gone,.cells l.ps,.cells [.ptr 4 0 9],.map (kI.es (KG x.k)),.cells [.map 9],.cells [.fn 195 [] pC],Pz x.e,PD x.n]
structure ClP(l:Lo):Prop where
 s:l.s=l.d.ay
 o:l.o=l.d.aG
 t:Bq l.d
 e:l.d.aO.length+1<=ah
 n:l.d.au.length<=6000
 k:∀i,i<l.d.au.length->1<=(fA l.d i).aA.length
 sl:l.d.ay.length<=ah
 ol:l.d.aG.length<=ah
def acC:eU aF:=bZ 161 (a1 loA) dA (fun l=>eP l.d) (fun l=>[ClP l]) acy
theorem ajB:Gd acC:=ajz.WC 6010 aco fun n hn hO hOl l hp=>by
 obtain⟨n,rfl⟩:∃k,n=k+6009:=⟨n-6009,by omega⟩;have h:ClP l:=hp _ (.head _);obtain⟨s,o,d⟩:=l;obtain⟨e1,e2,ht,he,hn6,hk,hsl,QC⟩:=h;obtain rfl:s=d.ay:=e1;obtain rfl:o=d.aG:=e2;have hO':∀m,n+1<=m->Ok m _:=fun m hm=>hOl m (by omega);have he:d.aO.length+1<=ah:=he;have hn6:d.au.length<=6000:=hn6;have hr:=ht.root.1;have hr:d.root<(d.au.length:Int):=hr;have pU:=sCl (N:=n+1) hO' ht he (by unfold ah;omega) hk 6002 d.root Ze (by omega) Uw ht.root (by omega);have gQ:=aom (n:=n+6008) (hO' _ (by omega)) d.ay d.aG hsl QC;show nR _ _ _ _ _ (dA.put (eP d)) _;unfold eP;generalize bV d 6002 d.root Ze=z at pU ⊢;obtain⟨v,e,nd,k⟩:=z;exact aK (hO (n+6009) (by omega)) (.fr [] gQ (.PZ (H2:=HCw (yG d) ⟨e,nd,k⟩) [1,2,3,4,5,6,7,0,8,9,10,11] [7,8,10,11] pU .rr))
open Go Tw Pv cO
theorem a1g{d:Dg}(h:Bq d):∀(F:Nat) (r:Int) (x:Cs),(∀b∈x.n,b.aA.length<=12)->jf d r d.au.length->∀b∈(bV d F r x).2.n,b.aA.length<=12
 | 0,_,_,hx,_=>hx
 |F+1,r,x,hx,hr=>by
  unfold bV;by_cases c:r<0
  .rw[a0V (by simpa using c)];exact hx
  rw[a0S (by simpa using c)];split
  .exact hx
  have aQ:r.toNat<d.au.length:=by have:=hr.1;omega
  have hb:=GZ (d:=d) (fun y=>∀b∈y.n,b.aA.length<=12) (F:=F) (r:=r) hx (fun j y hj hy=>a1g h F _ y hy (by
   have h9:=h.Ak r.toNat aQ j hj;have h8:=h9.1;have h8:(aj d r).aA.getD j 0<(r.toNat:Int):=h8;exact⟨by have:=hr.1;omega,h9.2⟩))
  intro b Qd;simp only[dh]at Qd;split at Qd
  .exact hb.2 b Qd
  split at Qd
  .exact hb.2 b Qd
  rcases a3y.1 Qd with Qd|Qd
  .exact hb.2 b Qd
  rw[a2J.1 Qd];show List.length _<=12;rw[hb.1];exact h.KC r.toNat aQ
theorem wM{d:Dg}(h:KF d)(he:d.aO.length+1<=ah)(hs:d.ay.length<=ah)(ho:d.aG.length<=ah)(h0:(bD d).2=0):(bD d).1=yG d∧ClP (yG d):=by
 rw[IY h (by omega)]at h0 ⊢;have h0:bF d=0:=h0;have hc:=mG ho (show d.aO.length<=ah by omega) (by simp[h0]);have hf:(cZ d.ay d.aG != 0)=false:=by
  cases e:cZ d.ay d.aG != 0
  .rfl
  unfold bF at h0;rw[a0V e]at h0;simp[h0]at e
 refine⟨by rw[a0S (by rw[hf];simp)],rfl,rfl,hc.1,he,hc.2,fun i hi=>?_,hs,ho⟩;have h1:=hc.1.ksz i hi;have h2:=hc.1.var i hi;have h3:=(Aj hf).sz _ (dZ (s:=d.ay) (k:=(fA d i).var.toNat) (by have:=h2.2;have:=h2.1;omega));have h1:((fA d i).aA.length:Int)=d.ay.getD (fA d i).var.toNat 0:=h1;show 1<=(fA d i).aA.length;omega
def vC(d:Dg):Lo×Int:=if(bD d).2==0 then(if(!(H7 (eP (bD d).1.d) d))=true then((bD d).1,4)else bD d)else bD d
theorem Zf{d:Dg}(h:Bq d)(hn:d.au.length<=6000):(eP d).aO.length<=d.aO.length∧(eP d).au.length<=6000∧∀b∈(eP d).au,b.aA.length<=12:=by
 have hc:=OG h 6002 d.root Ze Uw h.root;refine⟨hc.aju,?_,a1g h 6002 d.root Ze (by simp) h.root⟩;have h1:=hc.KC;have h2:=hc.n2;show(bV d 6002 d.root Ze).2.n.length<=6000;omega
theorem a2S{d:Dg}(h:KF d)(hs:d.ay.length<=ah)(ho:d.aG.length<=2^20)(he:d.aO.length+1<=ah)(h0:((bD d).2==0)=true):ClP (bD d).1∧(eP (bD d).1.d).ay.length<=ah∧(eP (bD d).1.d).aG.length<=ah∧(eP (bD d).1.d).aO.length<=ah∧(eP (bD d).1.d).au.length<=ah∧∀k,k<(eP (bD d).1.d).au.length->((eP (bD d).1.d).au.getD k mP).aA.length<=ah:=by
 have ho:d.aG.length<=ah:=by unfold ah;omega
 obtain⟨h1,h2⟩:=wM h he hs ho (by simpa using h0);rw[h1];obtain⟨a,b,c⟩:=Zf h2.t h2.n;refine⟨h2,hs,ho,?_,?_,fun k hk=>?_⟩
 .have a:(eP d).aO.length<=d.aO.length:=a;show(eP d).aO.length<=ah;omega
 .have b:(eP d).au.length<=6000:=b;show(eP d).au.length<=ah;unfold ah;omega
 exact m12 (c _ (X7 hk))
def acD:eU aF:=bZ 172 (a1 dA) (dK (a2 loA iA)) (fun p=>vC p) (fun p=>[KF p,p.ay.length<=ah,p.aG.length<=2^20,p.aO.length+1<=ah]) acC
theorem ajC:Gd acD:=ajB.add fun n hO p hp=>aK hO (.o (hp _ (.tail _ (.head _))) (.o (hp _ (.tail _ (.tail _ (.head _)))) (.o (by have h9:p.aO.length+1<=ah:=hp _ (.tail _ (.tail _ (.tail _ (.head _))));show p.aO.length<=ah;omega) (.sh (fun h=>have q:=a2S (hp _ (.head _)) (hp _ (.tail _ (.head _))) (hp _ (.tail _ (.tail _ (.head _)))) (hp _ (.tail _ (.tail _ (.tail _ (.head _))))) h;.o q.1 (.o q.2.1 (.o q.2.2.1 (.o q.2.2.2.1 (.o q.2.2.2.2.1 (.o q.2.2.2.2.2 (.ss .rr .rr))))))) fun _=>.rr))))
theorem Xf{d:Dg}(h:KF d)(hs:d.ay.length<=ah)(ho:d.aG.length<=ah)(he:d.aO.length+1<=ah):vC d=(if(cZ d.ay d.aG != 0)=true then lo0 else yG d,lF d):=by
 have h9:=IY h (show d.aO.length<=ah by omega);unfold vC lF;by_cases h0:(bD d).2=0
 .obtain⟨h1,h2⟩:=wM h he hs ho h0;have h3:=a2R h2.t h (show d.aO.length<=2^61 by unfold ah at he;omega) h2.n;have h4:bF d=0:=by rw[h9]at h0;exact h0
  rw[a0V (show((bD d).2==0)=true by simpa using h0),h1,h4,a0S (show ¬(((0:Int) != 0)=true) by simp)];rw[h9]at h1;show(if(!(H7 (eP d) d))=true then(yG d,4)else bD d)=_;have h1:(if(cZ d.ay d.aG != 0)=true then lo0 else yG d)=yG d:=h1;rw[h9,h1];by_cases h5:eP d=d
  .rw[a0S (show ¬((!(H7 (eP d) d))=true) by rw[a19.2 h5];simp),a0S (show ¬((!(pz d))=true) by rw[h3.1 h5];simp),h4]
  have h6:H7 (eP d) d=false:=by
   cases e:H7 (eP d) d
   .rfl
   exact absurd (a19.1 e) h5
  have h7:pz d=false:=by
   cases e:pz d
   .rfl
   exact absurd (h3.2 e) h5
  rw[a0V (show(!(H7 (eP d) d))=true by rw[h6];rfl),a0V (show(!(pz d))=true by rw[h7];rfl)]
 have h4:¬bF d=0:=by rw[h9]at h0;exact h0
 rw[a0S (show ¬(((bD d).2==0)=true) by simpa using h0),h9,a0V (show(bF d != 0)=true by simpa using h4)]
end Go.Proofs.YtmobpoiejckagaaGreat
namespace Pv
open Go Tw
def yc:Code->Option (Code×Code)
 |.seq a b=>match yc a with
  |some r=>some r
  |none=>yc b
 |.cond _ a b=>match yc a with
  |some r=>some r
  |none=>yc b
 |.block _ b=>yc b
 |.loop b=>yc b
 |.rangeFunc _ _ a b=>some (a,b)
 |_=>none
def wP(P:Program)(f:Nat):Code:=
 match Tc P f with
 |some t=>match yc t.body with
  |some (a,_)=>a
  |none=>.skip
 |none=>.skip
def Am(P:Program)(f:Nat):Code:=
 match Tc P f with
 |some t=>match yc t.body with
  |some (_,b)=>b
  |none=>.skip
 |none=>.skip
end Pv
namespace Go.Proofs.YtmobpoiejckagaaGreat
open Go Tw Pv cO
def cellsD(d:Dg):List V:=(List.range (Fb d.ay)).map fun(k:Nat)=>wK d (lu d.ay k)
open Go Tw Pv cO
def a2T(N:List Br)(c:Int)(ks:List Int):Int:=if(ks.all fun x=>x==ks.getD 0 0)=true then ks.getD 0 0 else(N.idxOf (⟨c,ks⟩:Br):Nat)
def a2U(N:List Br)(c:Int)(ks:List Int):List Br:=if(ks.all fun x=>x==ks.getD 0 0)=true then N else if(⟨c,ks⟩:Br)∈N then N else N++[⟨c,ks⟩]
abbrev EN:Type:=List V×List Br
def gPt(f:List Int->EN->Int×EN)(c:Int)(p:List Int)(j:Nat)(y:List Int×EN):List Int×EN:=(y.1++[(f (p.set c.toNat j) y.2).1],(f (p.set c.toNat j) y.2).2)
def Qe(s:List Int)(l:List V):List Int->List Int->EN->Int×EN
 | [],p,x=>(i64.wrap (-1-(x.1.idxOf (l.getD (kG s p).toNat V0):Nat)),(jO x.1 (l.getD (kG s p).toNat V0),x.2))
 |c::r,p,x=>
  let y:=aW (gPt (Qe s l r) c p) (s.getD c.toNat 0).toNat 0 ([],x)
  (a2T y.2.2 c y.1,(y.2.1,a2U y.2.2 c y.1))
def wO(s:List Int):List Int->Nat
 | []=>1
 |c::r=>(s.getD c.toNat 0).toNat*wO s r
theorem Ux{s:List Int}(hs:oG s):∀{o:List Int},(∀c∈o,gW c s.length)->1<=wO s o
 | [],_=>a1J _
 |c::r,h=>by
  have h1:=Ux hs (o:=r) fun c hc=>h c (by simp[hc]);obtain⟨h2,h3⟩:=h c (by simp);have h4:=hs _ (dZ (s:=s) (k:=c.toNat) (by omega));have h5:1*1<=(s.getD c.toNat 0).toNat*wO s r:=agu (by omega) h1;simpa[wO]using h5
theorem a6H{α:Type}[DecidableEq α]{l:List α}{d a:α}{c:Nat->Bool}(hc:∀k,k<l.length->c k=decide (l.getD k d=a)):(a∈l->bG c l.length=.inr (l.idxOf a))∧(a∉l->jU (bG c l.length)=true):=by
 constructor
 .intro h;have hi:=a4l.2 h;have h1:c (l.idxOf a)=true:=by
   rw[hc _ hi,a1T,List.getD,a0E hi,a4s,a8j]
  cases e:jU (bG c l.length)
  .obtain⟨j,hj,cj,hb,e2⟩:=GX e;rw[e2];congr 1;rcases Nat.lt_trichotomy j (l.idxOf a)with g|g|g
   .exfalso;rw[hc j hj,a1T,List.getD,a0E hj,a4s]at cj;have:=List.not_of_lt_findIdx (p:=(·==a)) g;rw[cj]at this;simp at this
   .exact g
   rw[hb _ g]at h1;cases h1
  rw[dQ.1 e _ hi]at h1;cases h1
 intro h;refine dQ.2 fun j hj=>?_;rw[hc j hj,a3t,List.getD,a0E hj,a4s];rintro rfl;exact h (a4d hj)
end Go.Proofs.YtmobpoiejckagaaGreat
namespace Pv
open Go Tw
section
variable {X:kC} {P:Program}
theorem DT{A:Nat->Prop}{m:List MB}{h:List HB}:∀{a b:List (PV X.Γ)} {z:List TV},bU X P A m h (a++b) z->∃x y,z=x++y∧bU X P A m h a x∧bU X P A m h b y
 | [],b,z,hz=>⟨[],z,rfl,.nil,hz⟩
 |v::a,b,z,hz=>by
  obtain⟨x0,r,rfl,v0,vr⟩:=bU.inv (v:=v) (vs:=a++b) hz;obtain⟨x,y,rfl,h1,h2⟩:=DT vr;exact⟨x0::x,y,rfl,.cons v0 h1,h2⟩
theorem aV.fz(hX:bK X P){call:aY}{f:FuncId}{cs ws rest xs:List (PV X.Γ)}{H H1:List (PB X.Γ)}{v:PV X.Γ}(is:List Nat)(hs:aV X P call (.fn f [] []) (.agg (ws++rest)::xs) (aX is H) v H1)(hv:views H cs=some ws)(ho:∀i,i∈kF.jR cs->i∈is):aV X P call (.fn f [] []) (.agg (cs++rest)::xs) H v H1:=by
 intro A m h tf rO hr hf hx;obtain⟨x0,r,rfl,v0,vr⟩:=hx.inv;cases v0 with
 |gone hi _ _=>simp[bg]at hi
 |agg a1 a2=>
  rename_i cs';have ha:bU X P (AA A m) m h (cs++rest) cs':=⟨a1,a2⟩;obtain⟨c1,c2,rfl,b1,b2⟩:=DT ha;have hF:=gY (h:=h) is m;have w1:=(kU (m':=bQ is m) hX hr b1 hv ho).mono fun b hb=>FA.gone hr hb;have w2:=b2.step hF.1 hF.2;have w3:=w1.app w2;obtain⟨w,h',Tj,m1,k1,k2,k3,k4,k5,k6⟩:=hs A (bQ is m) h tf (.agg (c1++c2)::r) (hr.aX is) (hf.step hF.1 hF.2) (.cons (.agg w3.1 w3.2) (vr.step hF.1 hF.2));refine⟨w,h',Tj,m1,k1,k2,k3,hF.1.trans k4,hF.2.trans k5,fun b hb=>?_⟩;rcases hF.1.new b (k6 b hb)with g|g
  .exact g
  have:=(hr.aX is).inb (k6 b hb);omega
end
theorem Good.acF{X:kC}{P:Program}{T:qy}{L:Nat}{α β:Type}{f:FuncId}{a:Uh X P α}{r:Ar X P β}{S:α->β}{pre:α->List Prop}{fH WE a6I:eU X.Γ}(d:Nat)(hg:Good X P T L fH)(hg2:Good X P T L WE)(hg3:Good X P T L a6I)
  (hf:∀n,d<=n->(∀m,n-d<=m->jo X P (kJ P T L m) fH)->(∀m,n-d<=m->jo X P (kJ P T L m) WE)->(∀m,n-d<=m->jo X P (kJ P T L m) a6I)->∀x,(∀p∈pre x,p)->nR X P (kJ P T L (n+1)) f (a.put x) (r.put (S x)) []):Good X P T L (bZ f a r S pre fH):=by
 obtain⟨N2,hN2⟩:=hg2;obtain⟨N3,hN3⟩:=hg3;obtain⟨M,hM⟩:=hg;refine⟨M+N2+N3+d+1,fun n hn=>?_⟩;obtain⟨k,rfl⟩:∃k,n=k+1:=⟨n-1,by omega⟩;intro g vs v ext ps ho hp;unfold bZ at ho;split at ho
 .rename_i e;have e:=a8p e;subst e;split at ho
  .rename_i x hx;cases ho;intro A h first args cap I5 hv
   exact hf k (by omega) (fun m hm=>hM m (by omega)) (fun m hm=>hN2 m (by omega)) (fun m hm=>hN3 m (by omega)) x hp A h first args cap I5 (a.ok hx hv)
  .exact hM (k+1) (by omega) g vs v ext ps ho hp
 .exact hM (k+1) (by omega) g vs v ext ps ho hp
end Pv
namespace Go.Proofs.YtmobpoiejckagaaGreat
open Go Tw Pv cO
def aeZ(s o:List Int)(l:List V):Dg:=⟨s,o,(Qe s l o (List.replicate s.length 0) ([],[])).2.1,(Qe s l o (List.replicate s.length 0) ([],[])).2.2,(Qe s l o (List.replicate s.length 0) ([],[])).1⟩
theorem Xg:∀{s:List Int},oG s->jF s (List.replicate s.length 0)=true
 | [],_=>rfl
 |a::s,h=>by
  have:=h a (a3u ..);simp only[a3J,ae2,jF,a2r,a1T];exact⟨⟨a8Y _,by omega⟩,Xg h.tail⟩
open Go Tw Pv cO
theorem a6J{a b:List Int}(ha:a.length<=12)(he:a.length=b.length)(h:GY a=GY b):a=b:=by
 have e:∀l:List Int,l.length<=12->(GY l).take l.length=l:=fun l hl=>by
  unfold GY;rw[afJ,a8d hl,List.take_left]
 rw[<-e a ha,<-e b (by omega),h,he]
def NOk(s:List Int)(N:List Br):Prop:=∀b∈N,gW b.var s.length∧(b.aA.length:Int)=s.getD b.var.toNat 0
theorem a6K{s:List Int}(hs:oG s){N:List Br}(h:NOk s N){c:Int}{ks:List Int}(hc:gW c s.length)(hk:(ks.length:Int)=s.getD c.toNat 0){b:Br}(hb:b∈N):BA b=tH c ks↔b=⟨c,ks⟩:=by
 constructor
 .intro e;obtain⟨v,l⟩:=b;have e1:v=c:=congrArg Prod.fst e;subst e1;have e2:GY l=GY ks:=congrArg (fun x:Ky=>x.2.1) e;have hl:=(h _ hb).2;have hl:(l.length:Int)=s.getD v.toNat 0:=hl;have hz:=hs _ (dZ (s:=s) (k:=v.toNat) (by have:=hc.1;have:=hc.2;omega));rw[a6J (by omega) (by omega) e2]
 rintro rfl;rfl
theorem Xh{s:List Int}(hs:oG s){N:List Br}(h:NOk s N){c:Int}{ks:List Int}(hc:gW c s.length)(hk:(ks.length:Int)=s.getD c.toNat 0):dU N c ks=a2T N c ks∧dh N c ks=a2U N c ks:=by
 have hm:tH c ks∈N.map BA↔(⟨c,ks⟩:Br)∈N:=by
  rw[a1L];constructor
  .rintro⟨b,hb,e⟩;rw[(a6K hs h hc hk hb).1 e]at hb;exact hb
  intro hb;exact⟨_,hb,rfl⟩
 have hi:(N.map BA).idxOf (tH c ks)=N.idxOf (⟨c,ks⟩:Br):=by
  clear hm
  induction N with
  |nil=>rfl
  |cons b N ih=>
   have e:=a6K hs h hc hk (b:=b) (by simp);rw[a3K,ad7,ad7,ih fun b hb=>h b (by simp[hb])];have:(BA b==tH c ks)=(b==(⟨c,ks⟩:Br)):=by rw[a4g,a7k,a7k];exact e
   rw[this]
 unfold dU a2T dh a2U;rw[hi];refine⟨rfl,?_⟩;split
 .rfl
 by_cases g:tH c ks∈N.map BA
 .rw[a0V g,a0V (hm.1 g)]
 rw[a0S g,a0S fun x=>g (hm.2 x)]
open Go Tw Pv cO
theorem aa1{s:List Int}{a b:List Int}(h:a.Perm b):wO s a=wO s b:=by
 induction h with
 |nil=>rfl
 |cons x _ ih=>simp only[wO,ih]
 |swap x y l=>simp only[wO];rw[<-Nat.mul_assoc,<-Nat.mul_assoc,Nat.mul_comm (s.getD y.toNat 0).toNat]
 |trans _ _ i1 i2=>rw[i1,i2]
theorem Xi{s:List Int}(hs:oG s):∀(m k:Nat),k+m=s.length->(wO s ((List.range' k m).map fun(j:Nat)=>(j:Int)):Int)=bf (s.drop k)
 | 0,k,h=>by rw[ag7 (by omega)];rfl
 |m+1,k,h=>by
  have hk:k<s.length:=by omega
  have hz:=hs _ (dZ (s:=s) (k:=k) hk);rw[List.range'_succ,a3K,wO,Oo hk,aeA,Xi hs m (k+1) (by omega),a5m,agn (by omega)]
theorem OM{s o:List Int}(hs:oG s)(h:jX s.length o=true):(wO s o:Int)=bf s:=by
 have h':=h;unfold jX at h';rw[a1T]at h';have hi:=RN s.length;have wY:=hi;unfold jX at wY;rw[a1T]at wY;have hp:o.Perm (dN s.length):=(a7H h'.2.2 wY.2.2).2 fun a=>⟨fun ha=>mJ hi (h'.2.1 a ha),fun ha=>mJ h (wY.2.1 a ha)⟩;rw[aa1 hp];have:=Xi hs s.length 0 (by omega);rw[<-List.range_eq_range']at this;exact this
open Go Tw Pv cO
inductive To(d:Dg)(q:List Int):Int->V->Prop
 |fin {r:Int} (h:r<0):To d q r (d.aO.getD (jw r).toNat V0)
 |step {r:Int} {c:V} (h:0<=r) (t:To d q ((aj d r).aA.getD (q.getD (aj d r).var.toNat 0).toNat 0) c):To d q r c
theorem To.at_{d:Dg}(h:Bq d){q:List Int}(hq:jF d.ay q=true){r:Int}{c:V}(t:To d q r c):∀F:Nat,r<F->jf d r d.au.length->c=d.aO.getD (jw (atF d q F r)).toNat V0:=by
 induction t with
 |fin hr=>
  intro F _ _;cases F with
  |zero=>rfl
  |succ F=>rw[atF,a0V hr]
 |step hr _ ih=>
  intro F hF hk;cases F with
  |zero=>omega
  |succ F=>
   rw[atF,a0S (by omega)];have:=(OB h hq ⟨hr,hk.1⟩).2.2;exact ih F (by have:=this.1;omega) ⟨by have:=this.1;have:=hk.1;omega,this.2⟩
theorem To.of{d:Dg}(h:Bq d){q:List Int}(hq:jF d.ay q=true):∀(F:Nat) (r:Int),r<F->jf d r d.au.length->To d q r (d.aO.getD (jw (atF d q F r)).toNat V0)
 | 0,r,hr,_=>.fin (by omega)
 |F+1,r,hr,hk=>by
  rw[atF];split
  .rename_i c;exact .fin c
  rename_i c;have:=(OB h hq ⟨by omega,hk.1⟩).2.2;exact .step (by omega) (To.of h hq F _ (by have:=this.1;omega) ⟨by have:=this.1;have:=hk.1;omega,this.2⟩)
theorem To.det{d:Dg}{q:List Int}{r:Int}{a b:V}(h:To d q r a):To d q r b->a=b:=by
 induction h with
 |fin hr=>intro g;cases g with
  |fin _=>rfl
  |step h _=>omega
 |step hr _ ih=>intro g;cases g with
  |fin h=>omega
  |step _ t=>exact ih t
theorem OO(E:List V)(v:V):E <+: jO E v:=by
 unfold jO;split
 .exact a6G
 exact a8X _ _
def Zg(x y:EN):Prop:=x.1 <+: y.1∧x.2 <+: y.2
theorem Zg.rfl{x:EN}:Zg x x:=⟨a6G,a6G⟩
theorem Zg.trans{x y z:EN}(a:Zg x y)(b:Zg y z):Zg x z:=⟨a.1.trans b.1,a.2.trans b.2⟩
theorem OQ{α:Type}{a b:List α}{d:α}(h:a <+: b){k:Nat}(hk:k<a.length):b.getD k d=a.getD k d:=by
 obtain⟨t,rfl⟩:=h;simp[List.getD,a0N hk]
theorem a6L{k:Nat}(hk:k<2^61):i64.wrap (-1-(k:Int))=-1-(k:Int)∧jw (-1-(k:Int))=(k:Int):=by
 refine⟨fF (by omega) (by omega),?_⟩;unfold jw;rw[fF (by omega) (by omega)];omega
def Agr(s r q p:List Int):Prop:=∀k:Nat,k<s.length->(k:Int)∉r->q.getD k 0=p.getD k 0
theorem Agr.set{s r q p:List Int}{c:Int}(hc:gW c s.length)(hp:p.length=s.length)(h:Agr s (c::r) q p):Agr s r q (p.set c.toNat (q.getD c.toNat 0)):=fun k hk hr=>by
 by_cases e:k=c.toNat
 .subst e;have e2:(p.set c.toNat (q.getD c.toNat 0)).getD c.toNat 0=q.getD c.toNat 0:=by
   simp[List.getD,a1V (show c.toNat<p.length by omega)]
  exact e2.symm
 .rw[show(p.set c.toNat (q.getD c.toNat 0)).getD k 0=p.getD k 0 by rw[List.getD,a1M (Ne.symm e)];rfl];exact h k hk (by simp only[a2t,ad1];exact⟨fun e2=>e (by omega),hr⟩)
theorem Agr.back{s r q p:List Int}{c j:Int}(hc:gW c s.length)(h:Agr s r q (p.set c.toNat j)):Agr s (c::r) q p:=fun k hk hr=>by
 simp only[a2t,ad1]at hr;have hc:=hc.1;have e:k≠c.toNat:=fun e=>hr.1 (by omega);have:=h k hk hr.2;rw[this,List.getD,a1M (Ne.symm e)];rfl
open Go Tw Pv cO
def FM(o:List Int)(N:List Br)(r:Int):Nat:=if r<0 then o.length else o.idxOf (N.getD r.toNat mP).var
def OU(o:List Int)(x:EN)(v:Int)(b a:Nat):Prop:=(v<0->gW (jw v) x.1.length)∧v<(b:Int)∧a<=FM o x.2 v
structure PtV(s o:List Int)(x:EN):Prop where
 var:∀i,i<x.2.length->gW (x.2.getD i mP).var s.length
 ksz:∀i,i<x.2.length->((x.2.getD i mP).aA.length:Int)=s.getD (x.2.getD i mP).var.toNat 0
 Ak:∀i,i<x.2.length->∀k,k<(x.2.getD i mP).aA.length->OU o x ((x.2.getD i mP).aA.getD k 0) i (o.idxOf (x.2.getD i mP).var+1)
theorem OU.mono{o:List Int}{x y:EN}{v:Int}{b b' a a':Nat}(h:OU o x v b a)(hp:Zg x y)(hb:b<=b')(hx:b<=x.2.length)(ha:a'<=a):OU o y v b' a':=by
 obtain⟨h1,h2,h3⟩:=h;refine⟨fun hv=>⟨(h1 hv).1,by have:=(h1 hv).2;have:=hp.1.length_le;omega⟩,by omega,?_⟩;unfold FM at h3 ⊢;split
 .rename_i c;rw[a0V c]at h3;omega
 rename_i c;rw[a0S c]at h3;rw[OQ hp.2 (by omega)];omega
open Go Tw Pv cO
theorem LM(d:Dg)(v:Int):tC d v=(FM d.aG d.au v:Int):=by
 unfold tC FM;by_cases c:v<0
 .rw[a0V (by simpa using c),a0V c]
 rw[a0S (by simpa using c),a0S c];have hs:=a6H (l:=d.aG) (d:=0) (a:=(aj d v).var) (c:=Oz d v) (fun k _=>by unfold Oz;rw[a4g];simp);by_cases hm:(aj d v).var∈d.aG
 .rw[hs.1 hm];rfl
 rw[a0V (hs.2 hm),a9a hm]
theorem a2V{d:Dg}(hm:d.aO.length<=ah)(hf:(cZ d.ay d.aG != 0)=false)(hv:∀v∈d.aO,vOk v=true)(hn:d.au.length<=6000)(hp:PtV d.ay d.aG (d.aO,d.au))(hr:OU d.aG (d.aO,d.au) d.root d.au.length 0):bF d=0:=by
 obtain⟨eu,OV⟩:=lU.1 (show cZ d.ay d.aG=0 by simpa using hf);have ajD:∀(v:Int) (b a:Nat),OU d.aG (d.aO,d.au) v b a->iG d v b=true:=fun v b a h=>by
  unfold iG;split
  .simpa using h.2.1
  rename_i c;have c:v<0:=by simpa using c
  have:=h.1 c;have e:i64.wrap ((d.aO.length:Int)-1)=(d.aO.length:Int)-1:=by unfold ah at hm;rw[fF (by omega) (by omega)]
  rw[vw,e];have h2:=this.2;have h2:jw v<(d.aO.length:Int):=h2;exact⟨this.1,by show jw v<=_;omega⟩
 have hl:kZ d=true:=by
  unfold kZ;rw[a0V (dQ.2 fun j hj=>by
   rw[cLe,hv _ (by simp[List.getD,a0E hj])];rfl),a0V (dQ.2 fun i hi=>?_)]
  .exact ajD _ _ _ hr
  have h1:=hp.var i hi;have h2:=hp.ksz i hi;have h3:=hp.Ak i hi;have h1:gW (fA d i).var d.ay.length:=h1;have h2:((fA d i).aA.length:Int)=d.ay.getD (fA d i).var.toNat 0:=h2;have e:xw d.ay=(d.ay.length:Int)-1:=by
   have:=eu.len;unfold xw;rw[fF (by omega) (by omega)]
  unfold Zc;rw[a0S,a0S (by rw[h2];simp),a0V]
  .refine dQ.2 fun k hk=>?_;have h4:=h3 k hk;unfold cLk;rw[a0S (by rw[ajD _ _ _ h4];simp),a3t,LM,LM];have h5:=h4.2.2;have e6:FM d.aG d.au ((i:Nat):Int)=d.aG.idxOf (fA d i).var:=by unfold FM;rw[a0S (by omega),a5m]
   rw[e6];have h5:d.aG.idxOf (fA d i).var+1<=FM d.aG d.au ((d.au.getD i mP).aA.getD k 0):=h5;omega
  have:mQ (fA d i).var 0 (xw d.ay)=true:=by rw[vw,e];have:=h1.1;have:=h1.2;exact⟨by omega,by omega⟩
  rw[this];simp
 unfold bF;rw[a0S (by rw[hf];simp),a0S (by rw[a1T];omega),a0S (by rw[hl];simp)]
structure OfP(s o:List Int)(l:List V):Prop where
 eu:wH s
 ord:jX s.length o=true
 len:(l.length:Int)=bf s
open Go Tw Pv cO
def Kn(d:Dg)(x:Cs)(v:Int):Prop:=if v<0 then pF d v∈x.e else v∈x.k.map (·.1)
def uK(d:Dg)(x:Cs)(v:Int):Int:=if v<0 then i64.wrap (-1-(x.e.idxOf (pF d v):Nat))else Us x.k v
def Ap(x y:Cs):Prop:=x.e <+: y.e∧x.n <+: y.n∧x.k <+: y.k
theorem Ap.rfl{x:Cs}:Ap x x:=⟨a6G,a6G,a6G⟩
theorem Ap.trans{x y z:Cs}(a:Ap x y)(b:Ap y z):Ap x z:=⟨a.1.trans b.1,a.2.1.trans b.2.1,a.2.2.trans b.2.2⟩
theorem Kn.mono{d:Dg}{x y:Cs}{v:Int}(h:Kn d x v)(hp:Ap x y):Kn d y v:=by
 unfold Kn at h ⊢;split
 .rename_i c;rw[a0V c]at h;exact hp.1.subset h
 rename_i c;rw[a0S c]at h;obtain⟨t,ht⟩:=hp.2.2;rw[<-ht,a3H,a3y];exact .inl h
theorem Si{α:Type}[BEq α][LawfulBEq α]{a b:List α}{v:α}(h:v∈a)(hp:a <+: b):b.idxOf v=a.idxOf v:=by
 obtain⟨t,rfl⟩:=hp;rw[a9o,a0V h]
theorem a1h{a b:List (Int×Int)}{v:Int}(h:v∈a.map (·.1))(hp:a <+: b):Us b v=Us a v:=by
 obtain⟨t,rfl⟩:=hp;unfold Us;rw[List.find?_append];cases e:a.find? fun p=>p.1==v with
 |none=>
  rw[a1L]at h;obtain⟨p,hp,rfl⟩:=h;have:=ad6.1 e p hp;simp at this
 |some q=>rfl
theorem Sj{d:Dg}{x y:Cs}{v:Int}(h:Kn d x v)(hp:Ap x y):uK d y v=uK d x v:=by
 unfold Kn at h;unfold uK;split
 .rename_i c;rw[a0V c]at h;rw[Si h hp.1]
 rename_i c;rw[a0S c]at h;rw[a1h h hp.2.2]
theorem Xj{E:List V}{v:V}(h:v∈E):jO E v=E:=a0V h
theorem JU(N:List Br)(c:Int)(ks:List Int):N <+: dh N c ks:=by
 unfold dh;split
 .exact a6G
 split
 .exact a6G
 exact a8X _ _
theorem Zh{N M:List Br}{c:Int}{ks:List Int}(h:dh N c ks=N)(hp:N <+: M):dh M c ks=M∧dU M c ks=dU N c ks:=by
 unfold dh at h ⊢;unfold dU;by_cases hf:(ks.all fun x=>x==ks.getD 0 0)=true
 .rw[a0V hf,a0V hf,a0V hf];exact⟨rfl,rfl⟩
 rw[a0S hf]at h ⊢;rw[a0S hf,a0S hf];by_cases hm:tH c ks∈N.map BA
 .have hp2:N.map BA <+: M.map BA:=by obtain⟨t,rfl⟩:=hp;rw[a3H];exact a8X _ _
  rw[a0V (hp2.subset hm),Si hm hp2];exact⟨rfl,rfl⟩
 rw[a0S hm]at h;have:=congrArg List.length h;simp at this
theorem a2W(N:List Br)(c:Int)(ks:List Int):dh (dh N c ks) c ks=dh N c ks∧dU (dh N c ks) c ks=dU N c ks:=by
 unfold dU;by_cases hf:(ks.all fun x=>x==ks.getD 0 0)=true
 .rw[a0V hf,a0V hf];have:dh N c ks=N:=a0V hf;rw[this,this];exact⟨rfl,rfl⟩
 rw[a0S hf,a0S hf];by_cases hm:tH c ks∈N.map BA
 .have:dh N c ks=N:=by unfold dh;rw[a0S hf,a0V hm]
  rw[this,this];exact⟨rfl,rfl⟩
 have e:dh N c ks=N++[⟨c,ks⟩]:=by unfold dh;rw[a0S hf,a0S hm]
 have hm2:tH c ks∈(N++[(⟨c,ks⟩:Br)]).map BA:=by rw[a3H];simp
 have e2:dh (N++[⟨c,ks⟩]) c ks=N++[⟨c,ks⟩]:=by unfold dh;rw[a0S hf,a0V hm2]
 rw[e,e2];refine⟨rfl,?_⟩;rw[a3H,a9o,a0S hm,a9a hm];simp
abbrev aP(d:Dg)(v:Int):List Int:=(aj d v).aA
def Xk(d:Dg)(x:Cs):Prop:=∀v∈x.k.map (·.1),(∀j,j<(aP d v).length->Kn d x ((aP d v).getD j 0))∧dU x.n (aj d v).var ((aP d v).map (uK d x))=Us x.k v∧dh x.n (aj d v).var ((aP d v).map (uK d x))=x.n
abbrev BD(d:Dg)(F:Nat)(r:Int)(j:Nat)(y:List Int×Cs):List Int×Cs:=(y.1.set j (bV d F ((aP d r).getD j 0) y.2).1,(bV d F ((aP d r).getD j 0) y.2).2)
theorem a6N{d:Dg}:∀(F:Nat) (r:Int) (x:Cs),Ap x (bV d F r x).2
 | 0,_,x=>Ap.rfl
 |F+1,r,x=>by
  unfold bV;split
  .exact⟨OO _ _,a6G,a6G⟩
  split
  .exact Ap.rfl
  have:=dW (g:=BD d F r) (m:=(aP d r).length) (k:=0) (s:=(List.replicate (aP d r).length 0,x)) (fun _ y=>Ap x y.2) Ap.rfl (fun j y _ _ hy=>hy.trans (a6N F _ y.2));exact⟨this.1,this.2.1.trans (JU _ _ _),this.2.2.trans (a8X _ _)⟩
theorem LP{d:Dg}{F:Nat}{v:Int}{x:Cs}(h:Kn d x v):bV d (F+1) v x=(uK d x v,x):=by
 unfold Kn at h;unfold bV uK;by_cases c:v<0
 .rw[a0V (by simpa using c),a0V c];rw[a0V c]at h;rw[Xj h]
 rw[a0S c]at h;rw[a0S (by simpa using c),a0V (by simpa using h),a0S c]
theorem OW{d:Dg}{x y:Cs}{ks:List Int}(h:∀j,j<ks.length->Kn d x (ks.getD j 0))(hp:Ap x y):ks.map (uK d y)=ks.map (uK d x):=by
 refine a6f fun v hv=>?_;obtain⟨j,hj,rfl⟩:=aaZ hv;have:=h j hj;rw[List.getD,a0E hj]at this;exact Sj this hp
theorem Xk.a1i{d:Dg}{x y:Cs}{v:Int}(h:(∀j,j<(aP d v).length->Kn d x ((aP d v).getD j 0))∧dU x.n (aj d v).var ((aP d v).map (uK d x))=Us x.k v∧dh x.n (aj d v).var ((aP d v).map (uK d x))=x.n)(hv:v∈x.k.map (·.1))(hp:Ap x y):(∀j,j<(aP d v).length->Kn d y ((aP d v).getD j 0))∧dU y.n (aj d v).var ((aP d v).map (uK d y))=Us y.k v∧dh y.n (aj d v).var ((aP d v).map (uK d y))=y.n:=by
 obtain⟨h1,h2,h3⟩:=h;rw[OW h1 hp];obtain⟨g1,g2⟩:=Zh h3 hp.2.1;exact⟨fun j hj=>(h1 j hj).mono hp,by rw[g2,h2,a1h hv hp.2.2],g1⟩
theorem Zi{d:Dg}(h:Bq d):∀(F:Nat) (r:Int) (x:Cs),1<=F->r+1<F->jf d r d.au.length->D8 d x->Xk d x->Xk d (bV d F r x).2∧Kn d (bV d F r x).2 r∧uK d (bV d F r x).2 r=(bV d F r x).1
 | 0,r,x,h1,_,_,_,_=>by omega
 |F+1,r,x,_,hF,hr,hx,hi=>by
  by_cases c:r<0
  .have e:bV d (F+1) r x=(i64.wrap (-1-(x.e.idxOf (pF d r):Nat)),⟨jO x.e (pF d r),x.n,x.k⟩):=by unfold bV;rw[a0V (by simpa using c)]
   rw[e];have hp:Ap x ⟨jO x.e (pF d r),x.n,x.k⟩:=⟨OO _ _,a6G,a6G⟩;refine⟨fun v hv=>Xk.a1i (hi v hv) hv hp,?_,?_⟩
   .unfold Kn;rw[a0V c];show pF d r∈jO x.e (pF d r);unfold jO;split
    .assumption
    simp
   unfold uK;rw[a0V c];show i64.wrap (-1-((jO x.e (pF d r)).idxOf (pF d r):Nat))=_;congr 3;unfold jO;split
   .rfl
   rename_i hn;rw[a9o,a0S hn,a9a hn];simp
  by_cases c2:r∈x.k.map (·.1)
  .have hk:Kn d x r:=by unfold Kn;rw[a0S c];exact c2
   rw[LP hk];exact⟨hi,hk,rfl⟩
  have aQ:r.toNat<d.au.length:=by have:=hr.1;omega
  have Bv:∀k,k<(aP d r).length->(aP d r).getD k 0<r:=fun k mD=>by
   have h9:=(h.Ak r.toNat aQ k mD).1;have h9:(aP d r).getD k 0<(r.toNat:Int):=h9;omega
  have LK:∀j,j<(aP d r).length->jf d ((aP d r).getD j 0) d.au.length:=fun j hj=>⟨by have:=Bv j hj;have:=hr.1;omega,(h.Ak r.toNat aQ j hj).2⟩;have inv:=dW (g:=BD d F r) (m:=(aP d r).length) (k:=0) (s:=(List.replicate (aP d r).length 0,x)) (fun k y=>(y.1.length=(aP d r).length∧Ap x y.2)∧(D8 d y.2∧r∉y.2.k.map (·.1))∧Xk d y.2∧∀j,j<k->Kn d y.2 ((aP d r).getD j 0)∧uK d y.2 ((aP d r).getD j 0)=y.1.getD j 0) ⟨⟨by simp,Ap.rfl⟩,⟨hx,c2⟩,hi,fun j hj=>by omega⟩ (fun j y _ hj hy=>by
   obtain⟨⟨y1,y2⟩,⟨y3,y4⟩,y5,y6⟩:=hy;have hj:j<(aP d r).length:=(by omega);have hp:=a6N (d:=d) F ((aP d r).getD j 0) y.2;obtain⟨z1,z2,z3⟩:=Zi h F ((aP d r).getD j 0) y.2 (by omega) (by have:=Bv j hj;omega) (LK j hj) y3 y5;refine⟨⟨by simp[BD,y1],y2.trans hp⟩,⟨OG h F _ y.2 y3 (LK j hj),X9 F _ r y.2 (Bv j hj) y4 (by omega) (fun i hi k hk=>(h.Ak i hi k hk).1) (fun h5=>⟨h5,(LK j hj).1⟩)⟩,z1,fun j' Ei=>?_⟩;by_cases e:j'=j
   .subst e;refine⟨z2,?_⟩;rw[z3];show(bV d F ((aP d r).getD j' 0) y.2).1=(y.1.set j' (bV d F ((aP d r).getD j' 0) y.2).1).getD j' 0;generalize (bV d F ((aP d r).getD j' 0) y.2).1=z;simp[List.getD,a1V (show j'<y.1.length by omega)]
   obtain⟨a1,a2⟩:=y6 j' (by omega);refine⟨a1.mono hp,?_⟩;rw[Sj a1 hp,a2];show _=(y.1.set j (bV d F ((aP d r).getD j 0) y.2).1).getD j' 0;generalize (bV d F ((aP d r).getD j 0) y.2).1=z;simp[List.getD,a1M (Ne.symm e)])
  rw[a3E]at inv;have e:bV d (F+1) r x=(dU (aW (BD d F r) (aP d r).length 0 (List.replicate (aP d r).length 0,x)).2.n (aj d r).var (aW (BD d F r) (aP d r).length 0 (List.replicate (aP d r).length 0,x)).1,⟨(aW (BD d F r) (aP d r).length 0 (List.replicate (aP d r).length 0,x)).2.e,dh (aW (BD d F r) (aP d r).length 0 (List.replicate (aP d r).length 0,x)).2.n (aj d r).var (aW (BD d F r) (aP d r).length 0 (List.replicate (aP d r).length 0,x)).1,(aW (BD d F r) (aP d r).length 0 (List.replicate (aP d r).length 0,x)).2.k++[(r,dU (aW (BD d F r) (aP d r).length 0 (List.replicate (aP d r).length 0,x)).2.n (aj d r).var (aW (BD d F r) (aP d r).length 0 (List.replicate (aP d r).length 0,x)).1)]⟩):=by
   rw[bV,a0S (by simpa using c),a0S (by simpa using c2)]
  rw[e];generalize aW (BD d F r) (aP d r).length 0 (List.replicate (aP d r).length 0,x)=y at inv;obtain⟨ks,y⟩:=y;obtain⟨⟨y1,y2⟩,⟨y3,y4⟩,y5,y6⟩:=inv;have y1:ks.length=(aP d r).length:=y1;have y4:r∉y.k.map (·.1):=y4;have hp:Ap y ⟨y.e,dh y.n (aj d r).var ks,y.k++[(r,dU y.n (aj d r).var ks)]⟩:=⟨a6G,JU _ _ _,a8X _ _⟩;have En:(aP d r).map (uK d y)=ks:=by
   refine aae (by simp[y1]) fun j j1 j2=>?_;have hj:j<(aP d r).length:=(by omega);have:=(y6 j hj).2;rw[List.getD,List.getD,a0E hj,a0E j2]at this;simpa using this
  have gQ:Us (y.k++[(r,dU y.n (aj d r).var ks)]) r=dU y.n (aj d r).var ks:=by
   unfold Us;rw[List.find?_append];have:(y.k.find? fun p=>p.1==r)=none:=ad6.2 fun p hp=>by
    simp only[a7k];intro e2;exact y4 (a1L.2 ⟨p,hp,e2⟩)
   rw[this];simp
  obtain⟨g1,g2⟩:=a2W y.n (aj d r).var ks;refine⟨fun v hv=>?_,?_,?_⟩
  .have hv:v∈(y.k++[(r,dU y.n (aj d r).var ks)]).map (·.1):=hv;rw[a3H,a3y]at hv;rcases hv with hv|hv
   .exact Xk.a1i (y5 v hv) hv hp
   have hv:v=r:=(by simpa using hv);subst hv;refine⟨fun j hj=>(y6 j hj).1.mono hp,?_,?_⟩
   .rw[OW (fun j hj=>(y6 j hj).1) hp,En];show dU (dh y.n (aj d v).var ks) _ ks=Us (y.k++[(v,dU y.n (aj d v).var ks)]) v;rw[g2,gQ]
   rw[OW (fun j hj=>(y6 j hj).1) hp,En];exact g1
  .unfold Kn;rw[a0S c];show r∈(y.k++[(r,dU y.n (aj d r).var ks)]).map (·.1);simp
  unfold uK;rw[a0S c];exact gQ
open Go Tw Pv cO
theorem Xl{d:Dg}(h:bF d=0):∀i,i<d.au.length->∀k,k<(fA d i).aA.length->d.aG.idxOf (fA d i).var+1<=FM d.aG d.au ((fA d i).aA.getD k 0):=by
 intro i hi k hk;unfold bF at h;split at h
 .rename_i c;rw[h]at c;cases c
 split at h
 .cases h
 split at h
 .cases h
 rename_i c;have c:kZ d=true:=by simpa using c
 unfold kZ at c;split at c
 rotate_left
 .cases c
 split at c
 rotate_left
 .cases c
 rename_i c2;have:=dQ.1 c2 i hi;unfold Zc at this;split at this
 .cases this
 split at this
 .cases this
 split at this
 .rename_i c3;have:=dQ.1 c3 k hk;unfold cLk at this;split at this
  .cases this
  rw[a3t,LM,LM]at this;have e6:FM d.aG d.au ((i:Nat):Int)=d.aG.idxOf (fA d i).var:=by unfold FM;rw[a0S (by omega),a5m]
  rw[e6]at this;show d.aG.idxOf (fA d i).var+1<=FM d.aG d.au ((d.au.getD i mP).aA.getD k 0);omega
 cases this
theorem Zj{d:Dg}(h:Bq d):∀(F:Nat) (r:Int) (x:Cs),jf d r d.au.length->NOk d.ay x.n->NOk d.ay (bV d F r x).2.n
 | 0,_,_,_,hx=>hx
 |F+1,r,x,hr,hx=>by
  unfold bV;by_cases c:r<0
  .rw[a0V (by simpa using c)];exact hx
  rw[a0S (by simpa using c)];split
  .exact hx
  have aQ:r.toNat<d.au.length:=by have:=hr.1;omega
  have LK:∀j,j<(aP d r).length->jf d ((aP d r).getD j 0) d.au.length:=fun j hj=>by
   have h9:=h.Ak r.toNat aQ j hj;have h8:=h9.1;have h8:(aP d r).getD j 0<(r.toNat:Int):=h8;exact⟨by omega,h9.2⟩
  have inv:=dW (g:=BD d F r) (m:=(aP d r).length) (k:=0) (s:=(List.replicate (aP d r).length 0,x)) (fun _ y=>y.1.length=(aP d r).length∧NOk d.ay y.2.n) ⟨by simp,hx⟩ (fun j y _ hj hy=>⟨by simp[BD,hy.1],Zj h F _ y.2 (LK j (by omega)) hy.2⟩);show NOk d.ay (dh (aW (BD d F r) (aP d r).length 0 (List.replicate (aP d r).length 0,x)).2.n (aj d r).var (aW (BD d F r) (aP d r).length 0 (List.replicate (aP d r).length 0,x)).1);generalize aW (BD d F r) (aP d r).length 0 (List.replicate (aP d r).length 0,x)=y at inv;intro b hb;unfold dh at hb;split at hb
  .exact inv.2 b hb
  split at hb
  .exact inv.2 b hb
  rcases a3y.1 hb with hb|hb
  .exact inv.2 b hb
  rw[a2J.1 hb];refine⟨h.var r.toNat aQ,?_⟩;show(y.1.length:Int)=d.ay.getD (aj d r).var.toNat 0;rw[inv.1];exact h.ksz r.toNat aQ
theorem a6O{n:Nat}(hn:1<=n)(v:Int):((List.replicate n v).all fun x=>x==(List.replicate n v).getD 0 0)=true∧(List.replicate n v).getD 0 0=v:=by
 obtain⟨k,rfl⟩:∃k,n=k+1:=⟨n-1,by omega⟩;simp[ae2]
theorem Xm{d:Dg}{l:List V}(h:Bq d)(OV:jX d.ay.length d.aG=true)(hk:∀i,i<d.au.length->∀k,k<(fA d i).aA.length->d.aG.idxOf (fA d i).var+1<=FM d.aG d.au ((fA d i).aA.getD k 0)):∀(r:List Int) (a:Nat) (p:List Int) (v:Int) (x:Cs) (F:Nat),d.aG.drop a=r->a<=d.aG.length->jF d.ay p=true->D8 d x->Xk d x->NOk d.ay x.n->jf d v d.au.length->a<=FM d.aG d.au v->1<=F->v+1<F->(∀q,jF d.ay q=true->Agr d.ay r q p->To d q v (l.getD (kG d.ay q).toNat V0))->Qe d.ay l r p (x.e,x.n)=((bV d F v x).1,((bV d F v x).2.e,(bV d F v x).2.n))
 | [],a,p,v,x,F,hr,ha,hp,_,_,_,hv,LK,hF1,hF,hto=>by
  obtain⟨F,rfl⟩:∃k,F=k+1:=⟨F-1,by omega⟩;have:a=d.aG.length:=by
   have:=congrArg List.length hr;rw[a3D,a5q]at this;omega
  subst this;have hv0:v<0:=by
   rcases Int.lt_or_le v 0 with c|c
   .exact c
   exfalso;unfold FM at LK;rw[a0S (by omega)]at LK;have aQ:v.toNat<d.au.length:=by have:=hv.1;omega
   have hm:=mJ OV (h.var v.toNat aQ);have:=a4l.2 hm;have:d.aG.idxOf (d.au.getD v.toNat mP).var<d.aG.length:=this;omega
  have t:=hto p hp (fun _ _ _=>rfl);have e:l.getD (kG d.ay p).toNat V0=pF d v:=(To.fin hv0:To d p v _).det t |>.symm
  unfold bV;rw[a0V (by simpa using hv0)];show(i64.wrap (-1-(x.e.idxOf (l.getD (kG d.ay p).toNat V0):Nat)),(jO x.e (l.getD (kG d.ay p).toNat V0),x.n))=_;rw[e]
 |c::r,a,p,v,x,F,hr,ha,hp,hx,hi,hno,hv,LK,hF1,hF,hto=>by
  have aQ:a<d.aG.length:=by
   have:=congrArg List.length hr;rw[a3D,a3J]at this;omega
  have hd:=a7R aQ;rw[hr]at hd;obtain⟨hc,xg⟩:=List.cons.inj hd;have ho:=OV;unfold jX at ho;rw[a1T]at ho;have Gz:c∈d.aG:=by rw[hc];exact a4d aQ
  have rX:gW c d.ay.length:=⟨(ho.2.1 c Gz).1,(ho.2.1 c Gz).2⟩;have hia:d.aG.idxOf c=a:=by rw[hc];exact ho.2.2.idxOf_getElem a aQ
  have pU:c.toNat<d.ay.length:=by have:=rX.1;have:=rX.2;omega
  have hz:=h.eu.sz _ (dZ (s:=d.ay) (k:=c.toNat) pU);have FI:=pq hp;have hcr:c∉r:=by
   have:(d.aG.drop a).Nodup:=ho.2.2.sublist (List.drop_sublist _ _);rw[hr]at this;exact(a3P.1 this).1
  have EM:∀j:Nat,j<(d.ay.getD c.toNat 0).toNat->jF d.ay (p.set c.toNat j)=true:=fun j hj=>a6b hp rX ⟨by omega,by omega⟩;simp only[Qe];by_cases AZ:0<=v∧(aj d v).var=c
  .obtain⟨hv0,hvc⟩:=AZ;have a2X:v.toNat<d.au.length:=by have:=hv.1;omega
   have Jw:((aP d v).length:Int)=d.ay.getD c.toNat 0:=by rw[<-hvc];exact h.ksz v.toNat a2X
   have hkn:(d.ay.getD c.toNat 0).toNat=(aP d v).length:=(by omega);have Bv:∀j,j<(aP d v).length->(aP d v).getD j 0<v:=fun j hj=>by
    have h9:=(h.Ak v.toNat a2X j hj).1;have h9:(aP d v).getD j 0<(v.toNat:Int):=h9;omega
   have hrf:∀j,j<(aP d v).length->jf d ((aP d v).getD j 0) d.au.length:=fun j hj=>⟨by have:=Bv j hj;have:=hv.1;omega,(h.Ak v.toNat a2X j hj).2⟩;have ajE:∀j,j<(aP d v).length->a+1<=FM d.aG d.au ((aP d v).getD j 0):=fun j hj=>by
    have:=hk v.toNat a2X j hj;have:d.aG.idxOf (aj d v).var+1<=FM d.aG d.au ((aP d v).getD j 0):=this;rw[hvc,hia]at this;exact this
   have ajF:∀j:Nat,j<(aP d v).length->∀q,jF d.ay q=true->Agr d.ay r q (p.set c.toNat j)->To d q ((aP d v).getD j 0) (l.getD (kG d.ay q).toNat V0):=fun j hj q hq hag=>by
    have Y7:q.getD c.toNat 0=j:=by
     have:=hag c.toNat pU (by rw[agn rX.1];exact hcr);rw[this,List.getD,a1V (by omega)];rfl
    have t0:=hto q hq (Agr.back rX hag);revert t0;generalize l.getD (kG d.ay q).toNat V0=w;intro t0;cases t0 with
    |fin h9=>omega
    |step _ t=>
     rw[hvc,Y7,a5m]at t;exact t
   rw[hkn];by_cases O7:v∈x.k.map (·.1)
   .-- known
    have hKn:Kn d x v:=by unfold Kn;rw[a0S (by omega)];exact O7
    obtain⟨F',rfl⟩:∃k,F=k+1:=⟨F-1,by omega⟩;rw[LP hKn];obtain⟨i1,i2,i3⟩:=hi v O7;have inv:=dW (g:=gPt (Qe d.ay l r) c p) (m:=(aP d v).length) (k:=0) (s:=([],(x.e,x.n))) (fun k y=>y=(((aP d v).map (uK d x)).take k,(x.e,x.n))) (by simp) (fun j y _ hj hy=>by
     have hj:j<(aP d v).length:=(by omega);subst hy;have ih:=Xm h OV hk r (a+1) (p.set c.toNat j) ((aP d v).getD j 0) x (F'+1) xg.symm aQ (EM j (by omega)) hx hi hno (hrf j hj) (ajE j hj) (by omega) (by have:=Bv j hj;omega) (ajF j hj);rw[LP (i1 j hj)]at ih;unfold gPt;rw[ih];refine acL ?_ rfl;show(((aP d v).map (uK d x)).take j)++[uK d x ((aP d v).getD j 0)]=_;have hjm:j<((aP d v).map (uK d x)).length:=(by simpa using hj);rw[a6Y hjm];simp[List.getD,a0E hj])
    rw[a3E]at inv;rw[inv,a9s (by simp)];rw[hvc]at i2 i3;obtain⟨n1,n2⟩:=Xh h.eu.sz hno rX (ks:=(aP d v).map (uK d x)) (by simpa using Jw);show(a2T x.n c _,(x.e,a2U x.n c _))=_;rw[<-n1,<-n2,i2,i3];unfold uK;rw[a0S (by omega)]
   obtain⟨F',rfl⟩:∃k,F=k+1:=⟨F-1,by omega⟩;have key:∀j,j<=(aP d v).length->(aW (gPt (Qe d.ay l r) c p) j 0 ([],(x.e,x.n)))=((aW (BD d F' v) j 0 (List.replicate (aP d v).length 0,x)).1.take j,((aW (BD d F' v) j 0 (List.replicate (aP d v).length 0,x)).2.e,(aW (BD d F' v) j 0 (List.replicate (aP d v).length 0,x)).2.n))∧(aW (BD d F' v) j 0 (List.replicate (aP d v).length 0,x)).1.length=(aP d v).length∧(D8 d (aW (BD d F' v) j 0 (List.replicate (aP d v).length 0,x)).2∧v∉(aW (BD d F' v) j 0 (List.replicate (aP d v).length 0,x)).2.k.map (·.1))∧Xk d (aW (BD d F' v) j 0 (List.replicate (aP d v).length 0,x)).2∧NOk d.ay (aW (BD d F' v) j 0 (List.replicate (aP d v).length 0,x)).2.n:=by
    intro j
    induction j with
    |zero=>intro _;exact⟨rfl,by simp[aW],⟨hx,O7⟩,hi,hno⟩
    |succ j ih=>
     intro hj;have hj:j<(aP d v).length:=hj;obtain⟨q1,q2,⟨q3,q3'⟩,q4,q5⟩:=ih (by omega);rw[sW,sW,a3E];generalize aW (BD d F' v) j 0 (List.replicate (aP d v).length 0,x)=y at q1 q2 q3 q3' q4 q5;rw[q1];have Ve:=Bv j hj;have ih2:=Xm h OV hk r (a+1) (p.set c.toNat j) ((aP d v).getD j 0) y.2 F' xg.symm aQ (EM j (by omega)) q3 q4 q5 (hrf j hj) (ajE j hj) (by omega) (by omega) (ajF j hj);refine⟨?_,by simp[BD,q2],⟨OG h F' _ y.2 q3 (hrf j hj),X9 F' _ v y.2 Ve q3' (by omega) (fun i hi k hk=>(h.Ak i hi k hk).1) (fun h5=>⟨h5,(hrf j hj).1⟩)⟩,(Zi h F' _ y.2 (by omega) (by omega) (hrf j hj) q3 q4).1,Zj h F' _ y.2 (hrf j hj) q5⟩;unfold gPt;rw[ih2];refine acL ?_ rfl;show y.1.take j++[(bV d F' ((aP d v).getD j 0) y.2).1]=(y.1.set j (bV d F' ((aP d v).getD j 0) y.2).1).take (j+1);rw[a6Y (by simp;omega),List.take_set_of_le (a1J _),List.getElem_set_self]
   obtain⟨q1,q2,⟨q3,q3'⟩,q4,q5⟩:=key _ (a1J _);rw[q1];have e:bV d (F'+1) v x=(dU (aW (BD d F' v) (aP d v).length 0 (List.replicate (aP d v).length 0,x)).2.n (aj d v).var (aW (BD d F' v) (aP d v).length 0 (List.replicate (aP d v).length 0,x)).1,⟨(aW (BD d F' v) (aP d v).length 0 (List.replicate (aP d v).length 0,x)).2.e,dh (aW (BD d F' v) (aP d v).length 0 (List.replicate (aP d v).length 0,x)).2.n (aj d v).var (aW (BD d F' v) (aP d v).length 0 (List.replicate (aP d v).length 0,x)).1,(aW (BD d F' v) (aP d v).length 0 (List.replicate (aP d v).length 0,x)).2.k++[(v,dU (aW (BD d F' v) (aP d v).length 0 (List.replicate (aP d v).length 0,x)).2.n (aj d v).var (aW (BD d F' v) (aP d v).length 0 (List.replicate (aP d v).length 0,x)).1)]⟩):=by
    rw[bV,a0S (by simpa using hv0),a0S (by simpa using O7)]
   rw[e];generalize aW (BD d F' v) (aP d v).length 0 (List.replicate (aP d v).length 0,x)=y at q2 q5;rw[a9s (by omega),hvc];obtain⟨n1,n2⟩:=Xh h.eu.sz q5 rX (ks:=y.1) (by rw[q2];exact Jw);rw[n1,n2]
  -- asked later,or an end
  have ajG:a+1<=FM d.aG d.au v:=by
   unfold FM at LK ⊢;split
   .omega
   rename_i c1;rw[a0S c1]at LK;have iq:d.aG.idxOf (d.au.getD v.toNat mP).var≠a:=fun e=>by
    apply AZ;refine⟨by omega,?_⟩;have a2X:v.toNat<d.au.length:=by have:=hv.1;omega
    have hm:=mJ OV (h.var v.toNat a2X);have h1:=a8j (a4l.2 hm);have e:d.aG.idxOf (fA d v.toNat).var=a:=e;show(fA d v.toNat).var=c;rw[hc,<-h1];congr 1
   omega
  obtain⟨z1,z2,z3⟩:=Zi h F v x hF1 hF hv hx hi;have Qo:=OG h F v x hx hv;have adF:=Zj h F v x hv hno;have ajH:bV d F v (bV d F v x).2=((bV d F v x).1,(bV d F v x).2):=by
   have e:∀y,Kn d y v->uK d y v=(bV d F v x).1->bV d F v y=((bV d F v x).1,y):=fun y h1 h2=>by
    obtain⟨F',rfl⟩:∃k,F=k+1:=⟨F-1,by omega⟩;rw[LP h1,h2]
   exact e _ z2 z3
  have ajI:∀j:Nat,∀q,jF d.ay q=true->Agr d.ay r q (p.set c.toNat j)->To d q v (l.getD (kG d.ay q).toNat V0):=fun j q hq hag=>hto q hq (Agr.back rX hag);have inv:=dW (g:=gPt (Qe d.ay l r) c p) (m:=(d.ay.getD c.toNat 0).toNat) (k:=0) (s:=([],(x.e,x.n))) (fun k y=>(k=0∧y=([],(x.e,x.n)))∨(0<k∧y=(List.replicate k (bV d F v x).1,((bV d F v x).2.e,(bV d F v x).2.n)))) (.inl ⟨rfl,rfl⟩) (fun j y _ hj hy=>by
   right;refine⟨by omega,?_⟩;rcases hy with⟨rfl,rfl⟩|⟨h0,rfl⟩
   .have ih:=Xm h OV hk r (a+1) (p.set c.toNat ((0:Nat):Int)) v x F xg.symm aQ (EM 0 (by omega)) hx hi hno hv ajG hF1 hF (ajI 0);unfold gPt;rw[ih];rfl
   have ih:=Xm h OV hk r (a+1) (p.set c.toNat ((j:Nat):Int)) v (bV d F v x).2 F xg.symm aQ (EM j (by omega)) Qo z1 adF hv ajG hF1 hF (ajI j);rw[ajH]at ih;unfold gPt;rw[ih];refine acL ?_ rfl;show List.replicate j _++[_]=_;rw[List.replicate_succ'])
  rw[a3E]at inv;rcases inv with⟨h0,_⟩|⟨h0,e⟩
  .omega
  rw[e];obtain⟨f1,f2⟩:=a6O (n:=(d.ay.getD c.toNat 0).toNat) (by omega) (bV d F v x).1;show(a2T _ c _,(_,a2U _ c _))=_;unfold a2T a2U;rw[a0V f1,a0V f1,f2]
theorem a6P{d:Dg}(hl:bF d=0)(ho:d.aG.length<=ah)(he:d.aO.length<=ah):eP d=aeZ d.ay d.aG (cellsD d)∧OfP d.ay d.aG (cellsD d):=by
 obtain⟨h,hn⟩:=mG ho he (by rw[hl];rfl);have hf:(cZ d.ay d.aG != 0)=false:=by
  unfold bF at hl;split at hl
  .rename_i c;rw[hl]at c;cases c
  rename_i c;simpa using c
 obtain⟨eu,OV⟩:=lU.1 (show cZ d.ay d.aG=0 by simpa using hf);have hlen:((cellsD d).length:Int)=bf d.ay:=by unfold cellsD;rw[a3Q,a8r,eu.aei]
 have hr:=h.root;have hr1:=hr.1;have hto:∀q,jF d.ay q=true->To d q d.root ((cellsD d).getD (kG d.ay q).toNat V0):=fun q hq=>by
  have hrn:=wI hq eu.sz;have t:=To.of h hq 6001 d.root (by omega) hr;have e:(cellsD d).getD (kG d.ay q).toNat V0=wK d q:=by
   have aQ:(kG d.ay q).toNat<Fb d.ay:=by unfold Fb;omega
   unfold cellsD;rw[List.getD,a0E (by simpa using aQ)];simp only[a8P,List.getElem_range,a4s];rw[show(((kG d.ay q).toNat:Nat):Int)=kG d.ay q by omega,LH hq eu.sz]
  rw[e];exact t
 have key:=Xm (l:=cellsD d) h OV (Xl hl) d.aG 0 (List.replicate d.ay.length 0) d.root Ze 6002 rfl (a4A _) (Xg eu.sz) Uw (fun v hv=>by cases hv) (fun b hb=>by cases hb) hr (a4A _) (by omega) (by omega) (fun q hq _=>hto q hq);refine⟨?_,⟨eu,OV,hlen⟩⟩;have key:Qe d.ay (cellsD d) d.aG (List.replicate d.ay.length 0) ([],[])=_:=key;unfold eP aeZ;rw[key]
open Go Tw Pv cO
theorem Xn(k:Int):KE (i64.wrap k):=by
 have e:i64.wrap k=if k%(2^64:Int)>=(2^63:Int)then k%(2^64:Int)-2^64 else k%(2^64:Int):=by
  show(if(true&&decide (k%(2^64:Int)>=(2^63:Int)))=true then _ else _)=_;by_cases c:k%(2^64:Int)>=(2^63:Int)
  .rw[a0V (by simpa using c),a0V c];rfl
  rw[a0S (by simpa using c),a0S c];rfl
 rw[e];unfold KE;split<;>constructor<;>omega
open Go Tw Pv cO
def acH:eU aF:=bZ 121 (a1 dA) iA (fun p=>(vC p).2) (fun p=>[KF p,p.ay.length<=ah,p.aG.length<=2^20,p.aO.length+1<=ah]) acD
theorem ajJ:Gd acH:=ajC.add fun n hO p hp=>aK hO (.o (hp _ (.head _)) (.o (hp _ (.tail _ (.head _))) (.o (hp _ (.tail _ (.tail _ (.head _)))) (.o (hp _ (.tail _ (.tail _ (.tail _ (.head _))))) .rr))))
def zq(d:Dg):Dg×Int:=if((bD d).2 != 0)=true then(oH,(bD d).2)else(eP (bD d).1.d,0)
def a6Q:eU aF:=bZ 108 (a1 dA) (dK (a2 dA iA)) (fun p=>zq p) (fun p=>[KF p,p.ay.length<=ah,p.aG.length<=2^20,p.aO.length<=ah,((bD p).2 != 0)=false->ClP (bD p).1]) acH
theorem acI:Gd a6Q:=ajJ.add fun n hO p hp=>aK hO (.o (hp _ (.tail _ (.head _))) (.o (hp _ (.tail _ (.tail _ (.head _)))) (.o (hp _ (.tail _ (.tail _ (.tail _ (.head _))))) (.sh (fun _=>.rn (.dG [.agg [.nil .slc,.nil .slc,.nil .slc,.nil .slc,.int .i64 0],.int .i64 (bD p).2]) rfl) fun h=>.o (hp _ (.tail _ (.tail _ (.tail _ (.tail _ (.head _))))) h) .rr))))
def ajK:eU aF:=bZ 77 (a3 iA iA iA) tA (fun p=>(if decide (p.2.2>=p.1)=true then decide (p.2.2<=p.2.1)else false)) np a6Q
theorem aov:Gd ajK:=acI.add fun n hO p hp=>aK hO (.ss .rr .rr)
def a1j:eU aF:=bZ 123 (a2 (a5H frA) dA) tA (fun p=>(if decide (p.2.ay=p.1.1)=true then decide (p.2.aG=p.1.2)else false)) (fun p=>[p.2.ay.length<=ah,p.2.aG.length<=ah]) ajK
theorem ajL:Gd a1j:=aov.add fun n hO p hp=>aK hO (.o (hp _ (.head _)) (.ss (.o (hp _ (.tail _ (.head _))) .rr) .rr))
end Go.Proofs.YtmobpoiejckagaaGreat
namespace Pv
open Go Tw
variable {X:kC} {P:Program}
theorem nR.Zk(hX:bK X P){call:aY}{f:FuncId}{first xs cap vs:List (PV X.Γ)}{v v':PV X.Γ}{ext ext':List (PB X.Γ)}(hc:nR X P call f vs v ext)(hv:views [] (first++xs++cap)=some vs)(hs:qN X 0 ext=some ext')
  (e:shift 0 v=v') (he:(if xk v||ext.any (hasB X)then aX (kF.jR (first++xs++cap)) []else [])=([]:List (PB X.Γ))):aV X P call (.fn f first cap) xs [] v' ext':=by
 subst e;intro A m h tf rO hr hf hx;cases hf with
 |gone hi _ _=>simp[bg]at hi
 |fn p1 p2 p3 p4=>
  obtain⟨w,h',m1,c1,c2,c3,c4,c5⟩:=GI hX hc hr hv hs ⟨p1,p2⟩ hx ⟨p3,p4⟩;rw[he]at c2;exact⟨w,h',[],m1,c1,c2,c3,c4,c5,fun b hb=>by cases hb⟩
end Pv
namespace Go.Proofs.YtmobpoiejckagaaGreat
open Go Tw Pv cO
def a2Y{α:Type}(g:α->Bool)(i:Nat)(x:α)(s:Unit):Unit⊕(Nat×α×Unit):=if(g x)=true then .inr (i,x,s)else .inl ()
def af0{α:Type}(d:α)(g:α->Bool)(l:List α):Int:=if(jU (lT (a2Y g) l 0 ()))=true then -1 else(((CP (0,d,()) (lT (a2Y g) l 0 ())).1:Int))
theorem a6R{α:Type}(g:α->Bool):∀(l:List α) (i:Nat),jU (lT (a2Y g) l i ())=!(l.any g)
 | [],i=>rfl
 |x::l,i=>by
  simp only[lT,a2Y,acX];cases g x
  .simpa using a6R g l (i+1)
  simp[jU]
theorem af2{α:Type}(d:α)(g:α->Bool)(l:List α):decide (af0 d g l>=0)=l.any g:=by
 have:=a6R g l 0;unfold af0;rw[this];cases l.any g<;>simp
theorem gG{α:Type}{l:List α}{k:Nat}{d:α}(h:k<l.length):l.getD k d∈l:=by simp[List.getD,a0E h]
abbrev af4(f:Nat)(a c:List (PV aF))(H:List (PB aF))(l:List Dg)(i:Int)(x:List (Nat×PE aF)):aS aF:=⟨[(0,xL 26 l),(1,.val (.fn f a c)),(7,xi l.length),(8,xi i)]++x,[],H⟩
def ajM(f:Nat)(a c:List (PV aF))(H:List (PB aF))(l:List Dg):Unit⊕(Nat×Dg×Unit)->Ex×aS aF
 |.inl _=>(.exit 0,af4 f a c H l l.length [(9,xl false)])
 |.inr r=>(.ret,⟨[(4,xi r.1)],[],H⟩)
theorem aow{n f:Nat}{a c:List (PV aF)}{H:List (PB aF)}{g:Dg->Bool}(l:List Dg)(hf:∀x∈l,aV X0 Qp (bP n) (.fn f a c) [.agg x.ps] H (.bool (g x)) H)(hl:l.length<=ah):aV X0 Qp (bP (n+1)) (.fn 204 [] []) [lDg l,.fn f a c] H (iA.put (af0 oH g l)) H:=by
 have lp:Ov n 204 0 H.length (af4 f a c H l 0 []) (ajM f a c H l (lT (a2Y g) l 0 ())).1 (ajM f a c H l (lT (a2Y g) l 0 ())).2:=
  Wy (st:=fun i _=>af4 f a c H l i []) oH (fun _ _=>True) (by kernel_rfl) hl Qb trivial (fun k s n hk _ ih=>aN fQ (.b (bC hk) (.o (aH hk) (.k (hf (l.getD k oH) (gG hk)) (.ls (.ou nofun) (.nx (ih _ trivial))))))) (fun s _=>aN fQ (.b (fD l.length) (.ou nofun)))
 exact iZ fQ (first:=[]) (cap:=[]) (.szh (fun h=>.w (jV lp () h) .sr) (fun h=>.w (jW lp (0,oH,()) h) .sr))
theorem aox{n f:Nat}{a c:List (PV aF)}{H:List (PB aF)}{g:Dg->Bool}(l:List Dg)(hf:∀x∈l,aV X0 Qp (bP n) (.fn f a c) [.agg x.ps] H (.bool (g x)) H)(hl:l.length<=ah):aV X0 Qp (bP (n+2)) (.fn 173 [] []) [lDg l,.fn f a c] H (tA.put (l.any g)) H:=by
 rw[<-af2 oH g l];have h1:=aow l hf hl;exact iZ fQ (first:=[]) (cap:=[]) (.k h1 .sr)
def H9(f:List Int×List Int)(d:Dg):Bool:=if decide (d.ay=f.1)=true then decide (d.aG=f.2)else false
abbrev a6S(f:List Int×List Int):PV aF:=.fn 123 [.agg [lI f.1,lI f.2]] []
structure rP(d:Dg):Prop where
 r:KF d
 s:d.ay.length<=ah
 o:d.aG.length<=2^20
 e:d.aO.length+1<=ah
theorem aoy{n:Nat}(hO:Ok n a1j)(f:List Int×List Int)(l:List Dg)(hp:∀d∈l,rP d)(hl:l.length<=ah):aV X0 Qp (bP (n+4)) (.fn 122 [] []) [a6S f,lDg l] [] (tA.put (l.all (H9 f))) []:=by
 have hs:∀d∈l,aV X0 Qp (bP n) (a6S f) [.agg d.ps] [] (tA.put (H9 f d)) []:=fun d hd=>nR.Zk hX (first:=[.agg [lI f.1,lI f.2]]) (cap:=[]) (hO 123 [.agg [lI f.1,lI f.2],.agg d.ps] (tA.put (H9 f d)) [] [d.ay.length<=ah,d.aG.length<=ah] (by kernel_rfl) (fun p h=>by
  have h9:=hp d hd;have h8:=h9.o;rcases a2t.1 h with rfl|h
  .exact h9.s
  rw[a2J.1 h];exact h8)) rfl rfl rfl rfl
 have h1:∀d∈l,aV X0 Qp (bP (n+1)) (.fn 174 [] [.ptr 0 0 1]) [.agg d.ps] [.cells [a6S f]] (tA.put (!(H9 f d))) [.cells [a6S f]]:=fun d hd=>
  iZ fQ (first:=[]) (.fr [] (hs d hd) .sr)
 have h2:=aox l h1 hl;rw[<-DN l (H9 f)];exact aV.drop hX (CO hX fQ (first:=[]) (cap:=[]) (H1:=[.cells [a6S f]]) (by kernel_rfl) (.k h2 .sr)) rfl rfl
abbrev wCk(l:List Dg)(i:Int)(x:List (Nat×PE aF)):aS aF:=⟨[(0,xL 26 l),(6,xL 26 l),(7,xi l.length),(8,xi i)]++x,[],[]⟩
abbrev cCk(l:List Dg)(k:Nat):Bool:=(vC (l.getD k oH)).2 != 0
def zCk(l:List Dg):Unit⊕Nat->Ex×aS aF
 |.inl _=>(.exit 0,wCk l l.length [(9,xl false)])
 |.inr k=>(.ret,⟨[(2,xi (vC (l.getD k oH)).2)],[(l.getD k oH).ps],[]⟩)
theorem lCk{n:Nat}(hO:Ok n a1j){l:List Dg}(hp:∀d∈l,rP d)(hl:l.length<=ah):Lp n 76 0 (wCk l 0 []) (zCk l (bG (cCk l) l.length)).1 (zCk l (bG (cCk l) l.length)).2:=by
 refine iR (st:=fun i _=>wCk l i []) (g:=gS (cCk l)) (out:=zCk l) (fun _ _=>True) (by kernel_rfl) hl trivial (fun k u m hk _ ih=>?_) (fun _ _=>?_)
 .have h9:=hp _ (gG (d:=oH) hk);unfold gS cCk;exact aN hO (.b (bC hk) (.o (aH hk) (.o h9.r (.o h9.s (.o h9.o (.o h9.e (.ls (.ou nofun) (.nx (ih _ trivial)))))))))
 exact aN hO (.b (fD l.length) (.ou nofun))
def bT(l:List Dg):Int:=if jU (bG (cCk l) l.length)=true then(if(!(l.all (H9 ((l.getD 0 oH).ay,(l.getD 0 oH).aG))))=true then 2 else 0)else(vC (l.getD (CP 0 (bG (cCk l) l.length)) oH)).2
def ajN:eU aF:=bZ 76 (a1 anK) iA bT (fun l=>[∀d∈l,rP d,0<l.length∧l.length<=ah]) a1j
theorem aoB:Gd ajN:=ajL.deep 4 fun n hn hO l hp=>by
 have h1:∀d∈l,rP d:=hp _ (.head _);have h2:0<l.length∧l.length<=ah:=hp _ (.tail _ (.head _));have hs:=aoy (n:=n-4) (hO (n-4) (by omega)) ((l.getD 0 oH).ay,(l.getD 0 oH).aG) l h1 h2.2;rw[show n-4+4=n by omega]at hs;have i0:gW 0 l.length:=⟨by omega,by omega⟩;have hl:=lCk (hO n (by omega)) h1 h2.2;show nR X0 Qp _ _ _ (iA.put (bT l)) _;unfold bT;exact aK (hO n (by omega)) (.zh (fun h=>.w (jV hl () h) (.o i0 (.o i0 (.fr [] hs (.ss .rr .rr))))) (fun h=>.w (jW hl 0 h) .rr))
end Go.Proofs.YtmobpoiejckagaaGreat
