/- Part 5 of a proof: The answer to any query about any diagram, where any condition is met, is the document's, or the error is; for all queries and diagrams. -/
import Derived.Test.YtmobpoiejckagaaGreatP03
set_option linter.constructorNameAsVariable false
set_option linter.unusedVariables false
set_option linter.unusedSimpArgs false
set_option linter.unusedSectionVars false
open Go.IntKind (i64)
noncomputable section
namespace Go.Proofs.YtmobpoiejckagaaGreat
open Go Tw Pv
def abN:eY aF:=bZ 219 (a1 iA) tA (fun p=>UA p) np (a9E (X:=X0))
theorem aip:Gd abN:=Good.nil.add fun n hO p hp=>aN hO .rr
def abO:eY aF:=bZ 141 (a1 uA) vA (fun p=>H7 p) np abN
theorem aiq:Gd abO:=aip.add fun n hO p hp=>aN hO .rr
def abP:eY aF:=bZ 140 (a3 iA iA ql) tA (fun p=>zl p.2.2 p.1 p.2.1) (fun p=>[p.2.2.length<=ah]) abO
theorem air:Gd abP:=aiq.deep 3 fun n hn hO p hp=>by
 have h1:∀x,aX X0 Qp (bQ (n-3+1)) (.fn 182 [] [.ptr 0 0 1,.ptr 1 0 1]) [.int .i64 x] [.cells [.int .i64 p.1],.cells [.int .i64 p.2.1]] (tA.put (wC x p.1 p.2.1)) [.cells [.int .i64 p.1],.cells [.int .i64 p.2.1]]:=fun x=>jd fZ (first:=[]) (.ssh (fun _=>.sr) (fun _=>.sr));obtain⟨n,rfl⟩:∃k,n=k+3:=⟨n-3,by omega⟩;rw[show n+3-3+1=n+1 by omega]at h1;have h2:=ail (n:=n+2) (by omega) (g:=fun x=>wC x p.1 p.2.1) h1 p.2.2 (hp _ (.head _));exact aN (hO _ (by omega)) (.k h2 (.v (!(lW (fun x=>wC x p.1 p.2.1) p.2.2)) (by rw[DX];rfl)))
theorem nan(x:Int):UA x=false:=by simp[UA]
def abQ:eY aF:=bZ 154 (a1 vA) tA (fun p=>CY p) np abP
theorem ais:Gd abQ:=air.add fun n hO p hp=>aN hO (.ss (.o le1 .rr) (.ss .rr .rr))
def abR:eY aF:=bZ 100 (a1 iA) vA (fun p=>o9 p) np abQ
theorem ait:Gd abR:=ais.add fun n hO p hp=>aN hO (.o le1 (.ss .rr .rr))
def abS:eY aF:=bZ 186 (a1 tA) vA (fun p=>Om p) np abR
theorem aiu:Gd abS:=ait.add fun n hO p hp=>aN hO (.ss .rr .rr)
def abT:eY aF:=bZ 156 (a1 vA) tA (fun p=>nM p) np abS
theorem aiv:Gd abT:=aiu.add fun n hO p hp=>aN hO .rr
def abU:eY aF:=bZ 153 (a1 vA) tA (fun p=>Aj p) np abT
theorem aiw:Gd abU:=aiv.add fun n hO p hp=>aN hO .rr
def abV:eY aF:=bZ 142 (a2 iA iA) vA (fun p=>IY p.1 p.2) np abU
theorem aix:Gd abV:=aiw.add fun n hO p hp=>aN hO .rr
def abW:eY aF:=bZ 143 (a2 iA iA) vA (fun p=>IZ p.1 p.2) np abV
theorem aiy:Gd abW:=aix.add fun n hO p hp=>aN hO .rr
def abX:eY aF:=bZ 144 (a2 iA iA) vA (fun p=>J3 p.1 p.2) np abW
theorem aiz:Gd abX:=aiy.add fun n hO p hp=>aN hO .rr
def abY:eY aF:=bZ 146 (a2 iA iA) iA (fun p=>CZ p.1 p.2) np abX
theorem aiA:Gd abY:=aiz.add fun n hO p hp=>aN hO .rr
def abZ:eY aF:=bZ 147 (a2 iA iA) iA (fun p=>D5 p.1 p.2) np abY
theorem aiB:Gd abZ:=aiA.add fun n hO p hp=>aN hO .rr
def ac0:eY aF:=bZ 149 (a1 iA) tA (fun p=>D6 p) np abZ
theorem aiC:Gd ac0:=aiB.add fun n hO p hp=>aN hO .rr
def ac1:eY aF:=bZ 150 (a1 iA) tA (fun p=>D7 p) np ac0
theorem aiD:Gd ac1:=aiC.add fun n hO p hp=>aN hO .rr
def ac2:eY aF:=bZ 151 (a1 iA) tA (fun p=>D8 p) np ac1
theorem aiE:Gd ac2:=aiD.add fun n hO p hp=>aN hO .rr
def ac3:eY aF:=bZ 184 (a2 iA iA) (dP (a2 iA iA)) (fun p=>uq p.1 p.2) (fun p=>[p.2≠0]) ac2
theorem aiF:Gd ac3:=aiE.add fun n hO p hp=>aN hO (.o (hp _ (.head _)) (.o (hp _ (.head _)) (.ss (.ss .rr .rr) .rr)))
def ac4:eY aF:=bZ 187 (a2 iA iA) iA (fun p=>IX p.1 p.2) np ac3
theorem aiG:Gd ac4:=aiF.add fun n hO p hp=>aN hO (.b (nan p.1) (.b (nan p.2) (.ss .rr (.ss .rr .rr))))
theorem aoh{n:Nat}{fK:eY aF}(hO:Ok n fK)(ho:∀x:V,fK 156 [.agg x.ps]=some (.bool (nM x),[],[]))(H:List (PB aF))(x:V):aX X0 Qp (bQ n) (.fn 156 [] []) [.agg x.ps] H (.bool (nM x)) H:=
 LU hX hO (first:=[]) (cap:=[]) (vs:=[.agg x.ps]) (v:=.bool (nM x)) rfl (ho x) (fun p h=>by cases h) rfl
theorem aoi{n:Nat}{fK:eY aF}(hO:Ok n fK)(ho:∀x:V,fK 153 [.agg x.ps]=some (.bool (Aj x),[],[]))(H:List (PB aF))(x:V):aX X0 Qp (bQ n) (.fn 153 [] []) [.agg x.ps] H (.bool (Aj x)) H:=
 LU hX hO (first:=[]) (cap:=[]) (vs:=[.agg x.ps]) (v:=.bool (Aj x)) rfl (ho x) (fun p h=>by cases h) rfl
def ac5:eY aF:=bZ 103 (a1 Zv) (dP (a2 vA tA)) (fun p=>bP p) (fun p=>[p.length<=ah]) ac4
theorem aiH:Gd ac5:=aiG.deep 2 fun n hn hO p hp=>by
 have hs:=aio (n:=n-1) (H:=[]) (g:=fun v=>nM v) (aoh (hO (n-1) (by omega)) (fun _=>rfl) []) p (hp _ (.head _));rw[show n-1+1=n by omega]at hs;exact aN (hO n (by omega)) (.k hs (.sh (fun h=>.rr) (fun h=>.o (show gQ (iE (fun v=>nM v) p) p.length from⟨by simpa using h,Ql _ _⟩) .rr)))
def ac6:eY aF:=bZ 102 (a1 Zv) tA (fun p=>gZ p) (fun p=>[p.length<=ah]) ac5
theorem aiI:Gd ac6:=aiH.deep 3 fun n hn hO p hp=>by
 have hs:=aeH (n:=n-1) (by omega) (H:=[]) (g:=fun v=>Aj v) (aoi (hO (n-2) (by omega)) (fun _=>rfl) []) p (hp _ (.head _));rw[show n-1+1=n by omega]at hs;exact aN (hO n (by omega)) (.k hs (.v (!(pG (fun v=>Aj v) p)) (by rw[IW];rfl)))
def aiJ:eY aF:=bZ 99 (a3 vA vA vA) (dP (a2 vA iA)) (fun p=>jy p.1 p.2.1 p.2.2) np ac6
theorem aoj:Gd aiJ:=aiI.add fun n hO p hp=>aN hO (.o le3 (.ss .rr (.ss .rr (.ss .rr .rr))))
def aiK:Arg Nat where
 put f:=.fn f [] []
 get v:=match v with
  |.fn g [] []=>some g
  |_=>none
 ok:=by
  intro v a hg A m h x hv;split at hg
  .cases hg;exact hv
  .cases hg
def ac7:eY aF:=Zt 145 (a1 aiK) (fun _=>.fn 183 [] [.ptr 0 0 1]) (fun g=>[.cells [.fn g [] []]]) np aiJ
theorem aiL:Gd ac7:=aoj.WY 0 fun n _ hO p hp=>Bh hX (hO n (by omega)) (by kernel_rfl) .er
def ac8:eY aF:=Zt 148 (a1 aiK) (fun _=>.fn 185 [] [.ptr 0 0 1]) (fun g=>[.cells [.fn g [] []]]) np ac7
theorem aiM:Gd ac8:=aiL.WY 0 fun n _ hO p hp=>Bh hX (hO n (by omega)) (by kernel_rfl) .er
def aok(p:Int):PV aF:=if p=7 then .fn 142 [] []else if p=8 then .fn 143 [] []else if p=9 then .fn 144 [] []else if p=10 then .fn 183 [] [.ptr 0 0 1]else if p=11 then .fn 183 [] [.ptr 0 0 1]else .fn 185 [] [.ptr 0 0 1]
def aol(p:Int):List (PB aF):=if p=10 then [.cells [.fn 146 [] []]]else if p=11 then [.cells [.fn 147 [] []]]else if p=12 then [.cells [.fn 149 [] []]]else if p=13 then [.cells [.fn 150 [] []]]else if p=14 then [.cells [.fn 151 [] []]]else []
def OC:eY aF:=Zt 101 (a1 uA) aok aol (fun p=>[7<=p∧p<=14]) ac8
theorem seven{p:Int}(h:7<=p∧p<=14):p=7∨p=8∨p=9∨p=10∨p=11∨p=12∨p=13∨p=14:=by omega
theorem aiN:Gd OC:=aiM.WY 0 fun n _ hO p hp=>by
 rcases seven (hp _ (.head _))with rfl|rfl|rfl|rfl|rfl|rfl|rfl|rfl
 .exact Bh hX (hO n (by omega)) (by kernel_rfl) (.b (rfl:true=true) .er)
 .exact Bh hX (hO n (by omega)) (by kernel_rfl) (.b (rfl:false=false) (.b (rfl:true=true) .er))
 .exact Bh hX (hO n (by omega)) (by kernel_rfl) (.b (rfl:false=false) (.b (rfl:false=false) (.b (rfl:true=true) .er)))
 .exact Bh hX (hO n (by omega)) (by kernel_rfl) (.b (rfl:false=false) (.b (rfl:false=false) (.b (rfl:false=false) (.b (rfl:true=true) .er))))
 .exact Bh hX (hO n (by omega)) (by kernel_rfl) (.b (rfl:false=false) (.b (rfl:false=false) (.b (rfl:false=false) (.b (rfl:false=false) (.b (rfl:true=true) .er)))))
 .exact Bh hX (hO n (by omega)) (by kernel_rfl) (.b (rfl:false=false) (.b (rfl:false=false) (.b (rfl:false=false) (.b (rfl:false=false) (.b (rfl:false=false) (.b (rfl:true=true) .er))))))
 .exact Bh hX (hO n (by omega)) (by kernel_rfl) (.b (rfl:false=false) (.b (rfl:false=false) (.b (rfl:false=false) (.b (rfl:false=false) (.b (rfl:false=false) (.b (rfl:false=false) (.b (rfl:true=true) .er)))))))
 .exact Bh hX (hO n (by omega)) (by kernel_rfl) (.b (rfl:false=false) (.b (rfl:false=false) (.b (rfl:false=false) (.b (rfl:false=false) (.b (rfl:false=false) (.b (rfl:false=false) (.b (rfl:false=false) (.b (rfl:true=true) .er))))))))
theorem a9O{n:Nat}(hO:Ok n OC)(a b:V)(x y:Int):aX X0 Qp (bQ (n+1)) (.fn 183 [] [.ptr 0 0 1]) [.int .i64 x,.int .i64 y] [.cells [.fn 146 [] []],.list true true 39 [a,b],.list true true 39 [a,b]] (vA.put (iF CZ x y)) [.cells [.fn 146 [] []],.list true true 39 [a,b],.list true true 39 [a,b]]:=
 jd hO (first:=[]) (.ssh (fun _=>.sr) (fun h=>.o (show y≠0 by simpa using h) .sr))
theorem a9P{n:Nat}(hO:Ok n OC)(a b:V)(x y:Int):aX X0 Qp (bQ (n+1)) (.fn 183 [] [.ptr 0 0 1]) [.int .i64 x,.int .i64 y] [.cells [.fn 147 [] []],.list true true 39 [a,b],.list true true 39 [a,b]] (vA.put (iF D5 x y)) [.cells [.fn 147 [] []],.list true true 39 [a,b],.list true true 39 [a,b]]:=
 jd hO (first:=[]) (.ssh (fun _=>.sr) (fun h=>.o (show y≠0 by simpa using h) .sr))
theorem a9Q{n:Nat}(hO:Ok n OC)(a b:V)(x y:Int):aX X0 Qp (bQ (n+1)) (.fn 185 [] [.ptr 0 0 1]) [.int .i64 x,.int .i64 y] [.cells [.fn 149 [] []],.list true true 39 [a,b],.list true true 39 [a,b]] (vA.put (dQ D6 x y)) [.cells [.fn 149 [] []],.list true true 39 [a,b],.list true true 39 [a,b]]:=
 jd hO (first:=[]) .sr
theorem a9R{n:Nat}(hO:Ok n OC)(a b:V)(x y:Int):aX X0 Qp (bQ (n+1)) (.fn 185 [] [.ptr 0 0 1]) [.int .i64 x,.int .i64 y] [.cells [.fn 150 [] []],.list true true 39 [a,b],.list true true 39 [a,b]] (vA.put (dQ D7 x y)) [.cells [.fn 150 [] []],.list true true 39 [a,b],.list true true 39 [a,b]]:=
 jd hO (first:=[]) .sr
theorem a9S{n:Nat}(hO:Ok n OC)(a b:V)(x y:Int):aX X0 Qp (bQ (n+1)) (.fn 185 [] [.ptr 0 0 1]) [.int .i64 x,.int .i64 y] [.cells [.fn 151 [] []],.list true true 39 [a,b],.list true true 39 [a,b]] (vA.put (dQ D8 x y)) [.cells [.fn 151 [] []],.list true true 39 [a,b],.list true true 39 [a,b]]:=
 jd hO (first:=[]) .sr
def aiO:eY aF:=bZ 45 (a3 uA vA vA) (dP (a2 vA iA)) (fun p=>H8 p.1 p.2.1 p.2.2) (fun p=>[7<=p.1∧p.1<=16]) OC
theorem aom:Gd aiO:=aiN.deep 1 fun n hn hO p hp=>by
 obtain⟨n,rfl⟩:∃k,n=k+1:=⟨n-1,by omega⟩;have Am:=hO n (by omega);have hO:=hO (n+1) (by omega);obtain⟨k,a,b⟩:=p;rcases nine (show 7<=k∧k<=16 from hp _ (.head _))with rfl|rfl|rfl|rfl|rfl|rfl|rfl|rfl|rfl|rfl
 .have:mY X0 Qp (bQ (n+1+1)) 45 ((a3 uA vA vA).put (7,a,b)) ((dP (a2 vA iA)).put (qV a b)) []:=aN hO (.b (rfl:false=false) (.b (rfl:false=false) (.o (by decide:(7:Int)<=7∧(7:Int)<=14) (.b (rfl:false=false) (.o Yk (.ss .rr (.o Yk (.ss .rr .rr))))))));exact this
 .have:mY X0 Qp (bQ (n+1+1)) 45 ((a3 uA vA vA).put (8,a,b)) ((dP (a2 vA iA)).put (qW a b)) []:=aN hO (.b (rfl:false=false) (.b (rfl:false=false) (.o (by decide:(7:Int)<=8∧(8:Int)<=14) (.b (rfl:false=false) (.o Yk (.ss .rr (.o Yk (.ss .rr .rr))))))));exact this
 .have:mY X0 Qp (bQ (n+1+1)) 45 ((a3 uA vA vA).put (9,a,b)) ((dP (a2 vA iA)).put (qX a b)) []:=aN hO (.b (rfl:false=false) (.b (rfl:false=false) (.o (by decide:(7:Int)<=9∧(9:Int)<=14) (.b (rfl:false=false) (.o Yk (.ss .rr (.o Yk (.ss .rr .rr))))))));exact this
 .have:mY X0 Qp (bQ (n+1+1)) 45 ((a3 uA vA vA).put (10,a,b)) ((dP (a2 vA iA)).put (og a b)) []:=aN hO (.b (rfl:false=false) (.b (rfl:false=false) (.o (by decide:(7:Int)<=10∧(10:Int)<=14) (.b (rfl:false=false) (.o Yk (.ss .rr (.o Yk (.ss .rr (.k (a9O Am a b a.n b.n) .rr)))))))));exact this
 .have:mY X0 Qp (bQ (n+1+1)) 45 ((a3 uA vA vA).put (11,a,b)) ((dP (a2 vA iA)).put (oh a b)) []:=aN hO (.b (rfl:false=false) (.b (rfl:false=false) (.o (by decide:(7:Int)<=11∧(11:Int)<=14) (.b (rfl:false=false) (.o Yk (.ss .rr (.o Yk (.ss .rr (.k (a9P Am a b a.n b.n) .rr)))))))));exact this
 .have:mY X0 Qp (bQ (n+1+1)) 45 ((a3 uA vA vA).put (12,a,b)) ((dP (a2 vA iA)).put (oq a b)) []:=aN hO (.b (rfl:false=false) (.b (rfl:false=false) (.o (by decide:(7:Int)<=12∧(12:Int)<=14) (.b (rfl:false=false) (.o Yk (.ss .rr (.o Yk (.ss .rr (.k (a9Q Am a b a.n b.n) .rr)))))))));exact this
 .have:mY X0 Qp (bQ (n+1+1)) 45 ((a3 uA vA vA).put (13,a,b)) ((dP (a2 vA iA)).put (oz a b)) []:=aN hO (.b (rfl:false=false) (.b (rfl:false=false) (.o (by decide:(7:Int)<=13∧(13:Int)<=14) (.b (rfl:false=false) (.o Yk (.ss .rr (.o Yk (.ss .rr (.k (a9R Am a b a.n b.n) .rr)))))))));exact this
 .have:mY X0 Qp (bQ (n+1+1)) 45 ((a3 uA vA vA).put (14,a,b)) ((dP (a2 vA iA)).put (oC a b)) []:=aN hO (.b (rfl:false=false) (.b (rfl:false=false) (.o (by decide:(7:Int)<=14∧(14:Int)<=14) (.b (rfl:false=false) (.o Yk (.ss .rr (.o Yk (.ss .rr (.k (a9S Am a b a.n b.n) .rr)))))))));exact this
 .have:mY X0 Qp (bQ (n+1+1)) 45 ((a3 uA vA vA).put (15,a,b)) ((dP (a2 vA iA)).put (sQ a b)) []:=aN hO (.b (rfl:true=true) .rr);exact this
 .have:mY X0 Qp (bQ (n+1+1)) 45 ((a3 uA vA vA).put (16,a,b)) ((dP (a2 vA iA)).put (sS a b)) []:=aN hO (.b (rfl:false=false) (.b (rfl:true=true) .rr));exact this
open Go Tw Pv bW
def aiP:eY aF:=bZ 23 (a3 iA iA iA) tA (fun p=>kY p.1 p.2.1 p.2.2) np aiO
theorem aon:Gd aiP:=aom.add fun n hO p hp=>aN hO (.ss .rr .rr)
abbrev JY(a b:List Int)(k:Nat):Bool:=a.getD k 0 != b.getD k 0
abbrev w32(a b:List Int)(i:Int)(x:List (Nat×PE aF)):aQ aF:=⟨[(0,xL 3 a),(1,xL 3 b),(5,xi i)]++x,[],[]⟩
def z32(a b:List Int):Unit⊕Nat->Ex×aQ aF
 |.inl _=>(.exit 0,w32 a b a.length [(14,xl false)])
 |.inr _=>(.ret,⟨[(4,xl false)],[],[]⟩)
theorem l32{n:Nat}{fK:eY aF}(hO:Ok n fK)(a b:List Int)(hl:a.length<=ah)(h:a.length=b.length):Lp n 32 0 (w32 a b 0 []) (z32 a b (bF (JY a b) a.length)).1 (z32 a b (bF (JY a b) a.length)).2:=
 Ou (st:=fun i _=>w32 a b i []) (fun _ _=>True) (by kernel_rfl) hl Sl trivial (fun k s n hk _ ih=>aK hO (.b (aW hk) (.o (aG hk) (.o (aG (h▸hk)) (.ls (.ou nofun) (.nx (ih _ trivial))))))) (fun s _=>aK hO (.b (eX a.length) (.ou nofun)))
theorem E5{a b:List Int}(h:a.length=b.length):jK (bF (JY a b) a.length)=decide (a=b):=by
 rw[a4u,dI,a1X,qY (d:=0) h];simp[JY]
theorem a6j{a b:List Int}(h:((a.length:Int) != (b.length:Int))=true):decide (a=b)=false:=by
 rw[a2W];rintro rfl;simp at h
theorem l7{α β:Type}{a:List α}{b:List β}(h:((a.length:Int) != (b.length:Int))=false):a.length=b.length:=by simp at h;omega
def aiQ:eY aF:=bZ 32 (a2 ql ql) tA (fun p=>decide (p.1=p.2)) (fun p=>[p.1.length<=ah]) aiP
theorem aop:Gd aiQ:=aon.add fun n hO p hp=>aN hO (.s (fun h=>.v false (a6j h).symm) fun h=>.z (c:=jK (bF (JY p.1 p.2) p.1.length)) (fun h2=>.w (jV (l32 hO p.1 p.2 (hp _ (.head _)) (l7 h)) () h2) (.v true (by rw[<-E5 (l7 h),h2]))) fun h2=>.w (jW (l32 hO p.1 p.2 (hp _ (.head _)) (l7 h)) 0 h2) (.v false (by rw[<-E5 (l7 h),h2])))
abbrev a9T(a:List Int)(n i:Int)(x:List (Nat×PE aF)):aQ aF:=⟨[(0,xL 3 a),(5,xi n),(6,xi i)]++x,[],[]⟩
theorem aoq{n:Nat}{fK:eY aF}(hO:Ok n fK)(a:List Int)(hl:a.length<=ah):Lp n 104 0 (a9T a 1 0 []) (.exit 0) (a9T a (EL a) a.length [(11,xl false)]):=
 Ov (st:=fun i n=>a9T a n i []) (fin:=fun n=>a9T a n a.length [(11,xl false)]) (fun _ _=>True) (by kernel_rfl) hl Sl trivial (fun _ _ _ _=>trivial) (fun k s hk _ n e p h=>aK hO (.b (aW hk) (.o (aG hk) (.go h)))) (fun s _=>aK hO (.b (eX a.length) .ex))
def ac9:eY aF:=bZ 104 (a2 ql iA) iA (fun p=>EL p.1) (fun p=>[p.1.length<=ah,p.2=0]) aiQ
theorem aiR:Gd ac9:=aop.add fun n hO p hp=>by
 obtain⟨a,k⟩:=p;have h0:k=0:=hp _ (.tail _ (.head _));subst h0;exact aN hO (.w (aoq hO a (hp _ (.head _))) .rr)
def aeI:eY aF:=bZ 49 (a1 ql) iA (fun p=>EL p) (fun p=>[p.length<=ah]) ac9
theorem aor:Gd aeI:=aiR.add fun n hO p hp=>aN hO (.o (hp _ (.head _)) (.o (rfl:(0:Int)=0) .rr))
abbrev JZ(b:List Int)(k j:Nat):Bool:=b.getD j 0==b.getD k 0
abbrev a2T(a b:List Int)(i:Int)(x:List (Nat×PE aF)):aQ aF:=⟨[(0,xL 3 a),(1,xL 3 b),(5,xi i)]++x,[],[]⟩
def acd(a b:List Int)(k:Int)(i:Int):Unit⊕Nat->Ex×aQ aF
 |.inl _=>(.exit 2,a2T a b k [(6,xi i),(29,xl false)])
 |.inr _=>(.ret,⟨[(4,xl false)],[],[]⟩)
theorem ace{n:Nat}{fK:eY aF}(hO:Ok n fK)(a b:List Int)(k:Nat)(hl:k<=ah)(h:k<b.length):Lp n 109 1 (a2T a b k [(6,xi 0)]) (acd a b k k (bF (JZ b k) k)).1 (acd a b k k (bF (JZ b k) k)).2:=
 Ou (st:=fun i _=>a2T a b k [(6,xi i)]) (fun _ _=>True) (by kernel_rfl) hl Sl trivial (fun j s n hk _ ih=>aK hO (.b (aW hk) (.o (aG (show j<b.length by omega)) (.o (aG h) (.ls (.ou nofun) (.nx (ih _ trivial))))))) (fun s _=>aK hO (.b (eX k) (.ou nofun)))
abbrev Zw(m:Int)(b:List Int)(k:Nat):Bool:=if(!(kY (b.getD k 0) 0 m))=true then true else if jK (bF (JZ b k) k)=true then false else true
def z109(a b:List Int):Unit⊕Nat->Ex×aQ aF
 |.inl _=>(.exit 0,a2T a b b.length [(15,xl false)])
 |.inr _=>(.ret,⟨[(4,xl false)],[],[]⟩)
abbrev xw(s:List Int):Int:=i64.wrap ((s.length:Int)-1)
theorem aiS{n:Nat}(hO:Ok n aeI)(a b:List Int)(hl:b.length<=ah):Lp n 109 0 (a2T a b 0 []) (z109 a b (bF (Zw (xw a) b) b.length)).1 (z109 a b (bF (Zw (xw a) b) b.length)).2:=
 Ou (st:=fun i _=>a2T a b i []) (fun _ _=>True) (by kernel_rfl) hl Sl trivial (fun k s n hk _ ih=>by
  unfold gS Zw;cases h1:(!(kY (b.getD k 0) 0 (xw a)))
  .cases h2:jK (bF (JZ b k) k)
   .exact aK hO (.b (aW hk) (.o (aG hk) (.b h1 (.w (jW (ace hO a b k (by omega) hk) 0 h2) (.ou nofun)))))
   .exact aK hO (.b (aW hk) (.o (aG hk) (.b h1 (.w (jV (ace hO a b k (by omega) hk) () h2) (.nx (ih _ trivial))))))
  .exact aK hO (.b (aW hk) (.o (aG hk) (.b h1 (.ou nofun))))
  ) (fun s _=>aK hO (.b (eX b.length) (.ou nofun)))
theorem a6k{s:List Int}(h:s.length<=ah):xw s=(s.length:Int)-1:=by unfold xw;unfold ah at h;exact fH (by omega) (by omega)
theorem qZ{k lo hi:Int}:kY k lo hi=true↔lo<=k∧k<=hi:=by
 unfold kY;split
 .rename_i h;simp at h ⊢;omega
 rename_i h;simp at h ⊢;omega
theorem Xg{a b:List Int}(ha:a.length<=ah)(h:b.length=a.length):jK (bF (Zw (xw a) b) b.length)=jY a.length b:=by
 rw[a4u,dI,jY,a1X];have e1:(∀j,j<b.length->Zw (xw a) b j=false)↔(∀j,j<b.length->(0<=b.getD j 0∧b.getD j 0<a.length)∧∀i,i<j->b.getD i 0≠b.getD j 0):=by
  refine acv fun j=>acv fun hj=>?_;unfold Zw;rw[a6k ha];cases h1:kY (b.getD j 0) 0 ((a.length:Int)-1)
  .simp only[aaB,a2d,agp,false_iff];intro h2;have:kY (b.getD j 0) 0 ((a.length:Int)-1)=true:=by
    rw[qZ];omega
   rw[h1]at this;cases this
  have h3:0<=b.getD j 0∧b.getD j 0<a.length:=by
   rw[qZ]at h1;omega
  simp only[a8D,a2c,a2Y,h3,adf,true_and];cases h2:jK (bF (JZ b j) j)
  .simp only[a2c,a2Y,agp,false_iff];intro h4;have:jK (bF (JZ b j) j)=true:=dI.2 fun i hi=>(by simpa[JZ]using h4 i hi);rw[h2]at this;cases this
  simp only[a2d,true_iff];intro i hi;have:=dI.1 h2 i hi;simpa[JZ]using this
 rw[e1];constructor
 .intro hq;refine⟨h,(Ot (d:=0)).1 fun j hj=>(hq j hj).1,?_⟩;rw[acE,acV];intro i j hi hj zV;have:=(hq j hj).2 i zV;simpa[List.getD,a0a hi,a0a hj]using this
 rintro⟨_,h2,h3⟩ j hj;refine⟨(Ot (d:=0)).2 h2 j hj,fun i hi=>?_⟩;rw[acE,acV]at h3;have:=h3 i j (by omega) hj hi;simpa[List.getD,a0a (show i<b.length by omega),a0a hj]using this
theorem a9U{a b:List Int}(h:((b.length:Int) != (a.length:Int))=true):jY a.length b=false:=by
 unfold jY;rw[a2W];rintro⟨h1,_⟩;rw[h1]at h;simp at h
def a6l:eY aF:=bZ 109 (a2 ql ql) tA (fun p=>jY p.1.length p.2) (fun p=>[p.1.length<=ah,p.2.length<=ah]) aeI
theorem aiT:Gd a6l:=aor.add fun n hO p hp=>aN hO (.s (fun h=>.v false (a9U h).symm) fun h=>.z (c:=jK (bF (Zw (xw p.1) p.2) p.2.length)) (fun h2=>.w (jV (aiS hO p.1 p.2 (hp _ (.tail _ (.head _)))) () h2) (.v true (by rw[<-Xg (hp _ (.head _)) (l7 h),h2]))) fun h2=>.w (jW (aiS hO p.1 p.2 (hp _ (.tail _ (.head _)))) 0 h2) (.v false (by rw[<-Xg (hp _ (.head _)) (l7 h),h2])))
abbrev cSz(a:List Int)(k:Nat):Bool:=!(kY (a.getD k 0) 1 12)
theorem a9V{a:List Int}:jK (bF (cSz a) a.length)=decide (pR a):=by
 rw[a4u,dI,a1X,pR,<-Ot (d:=0)];refine acv fun j=>acv fun hj=>?_;simp only[cSz,abB,qZ]
abbrev w58(a b:List Int)(i:Int)(x:List (Nat×PE aF)):aQ aF:=⟨[(0,xL 3 a),(1,xL 3 b),(5,xi i)]++x,[],[]⟩
def z58(a b:List Int):Unit⊕Nat->Ex×aQ aF
 |.inl _=>(.exit 0,w58 a b a.length [(12,xl false)])
 |.inr _=>(.ret,⟨[(4,xi 3)],[],[]⟩)
theorem l58{n:Nat}(hO:Ok n a6l)(a b:List Int)(hl:a.length<=ah):Lp n 58 0 (w58 a b 0 []) (z58 a b (bF (cSz a) a.length)).1 (z58 a b (bF (cSz a) a.length)).2:=
 Ou (st:=fun i _=>w58 a b i []) (fun _ _=>True) (by kernel_rfl) hl Sl trivial (fun k s n hk _ ih=>aK hO (.b (aW hk) (.o (aG hk) (.ls (.ou nofun) (.nx (ih _ trivial)))))) (fun s _=>aK hO (.b (eX a.length) (.ou nofun)))
def dh(s o:List Int):Int:=if decide ((s.length:Int)>6)=true then 5 else if jK (bF (cSz s) s.length)=true then(if decide (EL s>2000)=true then 5 else if(!(jY s.length o))=true then 4 else 0)else 3
theorem a9W{s:List Int}(h:decide ((s.length:Int)>6)=false):s.length<=6:=by simp at h;omega
theorem a18{k:Nat}(h:k<=6):k<=ah:=by unfold ah;omega
def aiV:eY aF:=bZ 58 (a2 ql ql) iA (fun p=>dh p.1 p.2) (fun p=>[p.2.length<=ah]) a6l
theorem aot:Gd aiV:=aiT.add fun n hO p hp=>aN hO (.sh (fun _=>.rr) fun h=>.zh (fun h2=>.w (jV (l58 hO p.1 p.2 (a18 (a9W h))) () h2) (.o (a18 (a9W h)) (.o (rfl:(0:Int)=0) (.ss .rr (.o (a18 (a9W h)) (.o (hp _ (.head _)) (.ss .rr .rr))))))) fun h2=>.w (jW (l58 hO p.1 p.2 (a18 (a9W h))) 0 h2) .rr)
theorem OD(s o:List Int):dh s o=if 6<s.length then 5 else if pR s then(if 2000<bC s then 5 else if jY s.length o=true then 0 else 4)else 3:=by
 unfold dh;rw[a9V];by_cases h1:6<s.length
 .rw[a0h h1,a0h (by simp;omega)]
 rw[a0g h1,a0g (by simp;omega)];by_cases h2:pR s
 .rw[a0h (by simpa using h2),a0h h2,Xa h2];by_cases h3:2000<bC s
  .rw[a0h h3,a0h (by simp;omega)]
  rw[a0g h3,a0g (by simp;omega)];cases jY s.length o<;>simp
 rw[a0g (by simpa using h2),a0g h2]
theorem lT{s o:List Int}:dh s o=0↔wE s∧jY s.length o=true:=by
 rw[OD];constructor
 .intro h;split at h
  .cases h
  split at h
  .split at h
   .cases h
   split at h
   .exact⟨⟨by omega,by assumption,by omega⟩,by assumption⟩
   cases h
  cases h
 rintro⟨⟨h1,h2,h3⟩,h4⟩;rw[a0g (by omega),a0h h2,a0g (by omega),a0h h4]
abbrev w53(a:List Int)(i:Int)(s:Int×List Int)(x:List (Nat×PE aF)):aQ aF:=⟨[(0,xL 3 a),(1,xi s.1),(5,xo 0),(6,xi i)]++x,[],[.list true true 3 s.2]⟩
theorem szk{a:List Int}(hs:pR a){k:Nat}(hk:k<a.length):a.getD k 0≠0:=by have:=hs _ (dW hk);omega
theorem aeJ(k:Nat):decide ((k:Int)>=0)=true:=by simp
theorem l53{n:Nat}{fK:eY aF}(hO:Ok n fK)(a:List Int)(m:Int)(hl:a.length<=ah)(hs:pR a):Lp n 53 0 (w53 a (i64.wrap ((a.length:Int)-1)) (m,List.replicate a.length 0) []) (.exit 0) (w53 a (-1) (Oq (a2N a) a.length (m,List.replicate a.length 0)) [(14,xl false)]):=
 aif (st:=fun i s=>w53 a i s []) (fin:=fun s=>w53 a (-1) s [(14,xl false)]) (fun _ s=>s.2.length=a.length) (by kernel_rfl) hl Sl (by simp) (fun k s _ h=>by simp[a2N,h]) (fun k s hk hi n e p h=>aK hO (.b (aeJ k) (.o (aG hk) (.o (szk hs hk) (.o (aG (show k<s.2.length by omega)) (.o (aG hk) (.o (szk hs hk) (.go h)))))))) (fun s _=>aK hO (.b (rfl:decide ((-1:Int)>=0)=false) .ex))
theorem mk1{α:Type}(l:List α):(l.length:Int)=(l.length:Int):=rfl
theorem mk2{α:Type}(l:List α):(0:Int)<=(l.length:Int):=by omega
theorem mk3{α:Type}{l:List α}(h:l.length<=ah):(l.length:Int)<=(ah:Int):=by omega
def aiW:eY aF:=bZ 53 (a2 ql iA) ql (fun p=>mM p.1 p.2) (fun p=>[p.1.length<=ah,pR p.1,0<=p.2,p.2<2^62]) aiV
theorem aou:Gd aiW:=aot.add fun n hO p hp=>aN hO (.o (mk1 p.1) (.o (mk2 p.1) (.o (mk3 (hp _ (.head _))) (.w (l53 hO p.1 p.2 (hp _ (.head _)) (hp _ (.tail _ (.head _)))) (.v (Oq (a2N p.1) p.1.length (p.2,List.replicate p.1.length 0)).2 (a6e (hp _ (.tail _ (.head _))) (hp _ (.tail _ (.tail _ (.head _)))) (hp _ (.tail _ (.tail _ (.tail _ (.head _))))) a8v))))))
def vOk(v:V):Bool:=if(v.f==0)=true then kY v.n (-9999) 9999 else if(decide (v.f<=4))=true then v.n==0 else false
def aiX:eY aF:=bZ 29 (a1 vA) tA (fun p=>vOk p) np aiW
theorem aov:Gd aiX:=aou.add fun n hO p hp=>aN hO (.ss .rr (.ss .rr .rr))
def vIs(v:V):Bool:=if(decide (v.f>0))=true then(if(decide (v.f<=4))=true then v.n==0 else false)else kY v.n (-9999) 9999
theorem aeK{v:V}(h:0<=v.f):vOk v=vIs v:=by
 unfold vOk vIs;by_cases h0:v.f=0
 .rw[a0h (by simp[h0]),a0g (by simp;omega)]
 have:v.f>0:=by omega
 simp[h0,this]
open Go Tw Pv bW
def dM(n:Nat):List Int:=(List.range n).map fun(k:Nat)=>(k:Int)
theorem l9(n:Nat):(dM n).length=n:=by simp[dM]
theorem Sm(n:Nat):jY n (dM n)=true:=by
 unfold jY;rw[a1X];refine⟨l9 n,fun a ha=>?_,?_⟩
 .simp only[dM,a1f,a4f]at ha;obtain⟨k,h1,rfl⟩:=ha;omega
 unfold dM;exact List.Pairwise.map _ (fun a b h=>by omega) aeP
open Go Tw Pv bW
abbrev V.tv(v:V):TV:=.agg [.int .u8 v.f,.int .i64 v.n]
theorem a2U:Tryz.prog.underlying 3=some (.int .i64):=by kernel_rfl
theorem uU8:Tryz.prog.underlying 5=some (.int .u8):=by kernel_rfl
theorem aeL : Tryz.prog.underlying 39 = some (.struct #[⟨"Fault", 5, 0, false, "", "", 0⟩, ⟨"N", 3, 1, false, "", "", 8⟩]) := by kernel_rfl
theorem a19(d:Nat)(a b:V):aB Qp (Op.equalIn (d+2) 39 (.agg #[.int .u8 a.f,.int .i64 a.n]) (.agg #[.int .u8 b.f,.int .i64 b.n]))=some (decide (a=b)):=by
 rw[xQ (d+1) 39 _ _ _ aeL (by kernel_rfl)];have p0:∀x y:Value,aB Qp (part 5 #[x,y] 0)=some x:=by intro x y;kernel_rfl
 have p1:∀x y:Value,aB Qp (part 3 #[x,y] 1)=some y:=by intro x y;kernel_rfl
 have n1 : ("Fault" : String) ≠ "_" := by decide
 have n2 : ("N" : String) ≠ "_" := by decide
 have q1 := nY (f := ⟨"Fault", 5, 0, false, "", "", 0⟩) (fs := [⟨"N", 3, 1, false, "", "", 8⟩]) n1 (p0 (.int .u8 a.f) (.int .i64 a.n)) (p0 (.int .u8 b.f) (.int .i64 b.n)) (qL d _ _ _ _ _ uU8);have q2 := nY (f := ⟨"N", 3, 1, false, "", "", 8⟩) (fs := []) n2 (p1 (.int .u8 a.f) (.int .i64 a.n)) (p1 (.int .u8 b.f) (.int .i64 b.n)) (qL d _ _ _ _ _ a2U);rw[q1,q2];rw[show aB Qp (Op.eqFields (d+1) #[.int .u8 a.f,.int .i64 a.n] #[.int .u8 b.f,.int .i64 b.n] [])=some true from rfl];rcases a with⟨a1,a2⟩;rcases b with⟨b1,b2⟩;by_cases h1:a1=b1<;>by_cases h2:a2=b2<;>simp[h1,h2]
theorem eqV(x y:Operand)(a b:V):rY Qp .eql 39 x y (V.tv a) (V.tv b)=some (.bool (decide (a=b))):=(Gw rfl rfl (by kernel_rfl) (by decide) (a19 9998 a b)).1
theorem neV(x y:Operand)(a b:V):rY Qp .neq 39 x y (V.tv a) (V.tv b)=some (.bool (!decide (a=b))):=(Gw rfl rfl (by kernel_rfl) (by decide) (a19 9998 a b)).2
open Go Tw Pv bW
abbrev cAl(a b:List V)(k:Nat):Bool:=!decide (a.getD k V0=b.getD k V0)
abbrev w75(a b:List V)(i:Int)(x:List (Nat×PE aF)):aQ aF:=⟨[(0,xL 39 a),(1,xL 39 b),(5,xi i)]++x,[],[]⟩
def z75(a b:List V):Unit⊕Nat->Ex×aQ aF
 |.inl _=>(.exit 0,w75 a b a.length [(14,xl false)])
 |.inr _=>(.ret,⟨[(4,xl false)],[],[]⟩)
theorem l75{n:Nat}{fK:eY aF}(hO:Ok n fK)(a b:List V)(hl:a.length<=ah)(h:a.length=b.length):Lp n 75 0 (w75 a b 0 []) (z75 a b (bF (cAl a b) a.length)).1 (z75 a b (bF (cAl a b) a.length)).2:=
 Ou (st:=fun i _=>w75 a b i []) (fun _ _=>True) (by kernel_rfl) hl Sl trivial (fun k s n hk _ ih=>aK hO (.b (aW hk) (.o (aG hk) (.o (aG (h▸hk)) (.q (.bool (cAl a b k)) (neV (.tmp 20) (.tmp 24) (a.getD k V0) (b.getD k V0)) (.ls (.ou nofun) (.nx (ih _ trivial)))))))) (fun s _=>aK hO (.b (eX a.length) (.ou nofun)))
theorem a1a{a b:List V}(h:a.length=b.length):jK (bF (cAl a b) a.length)=decide (a=b):=by
 rw[a4u,dI,a1X,qY (d:=V0) h];simp[cAl]
theorem a9X{a b:List V}(h:((a.length:Int) != (b.length:Int))=true):decide (a=b)=false:=by
 rw[a2W];rintro rfl;simp at h
def aiY:eY aF:=bZ 75 (a2 Zv Zv) tA (fun p=>decide (p.1=p.2)) (fun p=>[p.1.length<=ah]) aiX
theorem aoy:Gd aiY:=aov.add fun n hO p hp=>aN hO (.s (fun h=>.v false (a9X h).symm) fun h=>.z (c:=jK (bF (cAl p.1 p.2) p.1.length)) (fun h2=>.w (jV (l75 hO p.1 p.2 (hp _ (.head _)) (l7 h)) () h2) (.v true (by rw[<-a1a (l7 h),h2]))) fun h2=>.w (jW (l75 hO p.1 p.2 (hp _ (.head _)) (l7 h)) 0 h2) (.v false (by rw[<-a1a (l7 h),h2])))
open Go Tw Pv bW
abbrev RhB(n f k B m:Nat)(s:aQ aF)(e:Ex)(p:aQ aF):Prop:=dH X0 Qp T (bQ n) LL f false (BG Qp f) B (RS Qp f k) m s e p
abbrev hdP(f k:Nat)(w:aQ aF):aQ aF:=gJ X0 (T.eP f (dR (RS Qp f k))) w
section
variable {n f k B N:Nat} {σ ρ:Type}
theorem uy{st:Int->σ->aQ aF}{g:Nat->σ->σ}{e:Ex}{fin:σ->aQ aF}{s0:σ}{w:aQ aF}(Inv:Nat->σ->Prop)(h0:hdP f k w=st 0 s0)(hl:N<=ah)(hi:Inv 0 s0)(hv:∀j s,j<N->Inv j s->Inv (j+1) (g j s))
  (hs:∀(j:Nat) (s:σ),j<N->Inv j s->∀m e1 p,RhB n f k B m (st (i64.wrap (j+1)) (g j s)) e1 p->RhB n f k B (m+1) (st j s) e1 p)
  (ho:∀s,Inv N s->RhB n f k B 1 (st N s) e (fin s)):OB n f k B w e (fin (aT g N 0 s0)):=Ov Inv h0 hl Sl hi hv hs ho
theorem iU{st:Int->σ->aQ aF}{g:Nat->σ->σ⊕ρ}{out:σ⊕ρ->Ex×aQ aF}{s0:σ}{w:aQ aF}(Inv:Nat->σ->Prop)(h0:hdP f k w=st 0 s0)(hl:N<=ah)(hi:Inv 0 s0)
  (hs:∀(j:Nat) (s:σ) (m:Nat),j<N->Inv j s->(∀s1,Inv (j+1) s1->RhB n f k B m (st (i64.wrap (j+1)) s1) (uS (X:=X0) out g (N-(j+1)) (j+1) (.inl s1)).1 (uS (X:=X0) out g (N-(j+1)) (j+1) (.inl s1)).2) ->
   RhB n f k B (m+1) (st j s) (uS (X:=X0) out g (N-(j+1)) (j+1) (g j s)).1 (uS (X:=X0) out g (N-(j+1)) (j+1) (g j s)).2)
  (ho:∀s,Inv N s->RhB n f k B 1 (st N s) (out (.inl s)).1 (out (.inl s)).2):OB n f k B w (out (jX g N 0 s0)).1 (out (jX g N 0 s0)).2:=Ou Inv h0 hl Sl hi hs ho
theorem a1b{a:Nat}{st:Int->σ->aQ aF}{g:Nat->σ->σ⊕ρ}{out:σ⊕ρ->Ex×aQ aF}{s0:σ}{w:aQ aF}(Inv:Nat->σ->Prop)(h0:hdP f k w=st a s0)(ha:a<=N)(hl:N<=ah)(hi:Inv a s0)
  (hs:∀(j:Nat) (s:σ) (m:Nat),a<=j->j<N->Inv j s->(∀s1,Inv (j+1) s1->RhB n f k B m (st (i64.wrap (j+1)) s1) (uS (X:=X0) out g (N-(j+1)) (j+1) (.inl s1)).1 (uS (X:=X0) out g (N-(j+1)) (j+1) (.inl s1)).2) ->
   RhB n f k B (m+1) (st j s) (uS (X:=X0) out g (N-(j+1)) (j+1) (g j s)).1 (uS (X:=X0) out g (N-(j+1)) (j+1) (g j s)).2)
  (ho:∀s,Inv N s->RhB n f k B 1 (st N s) (out (.inl s)).1 (out (.inl s)).2):OB n f k B w (out (jX g (N-a) a s0)).1 (out (jX g (N-a) a s0)).2:=aey Inv h0 ha hl Sl hi hs ho
theorem Zx{st:σ->aQ aF}{g:σ->σ⊕ρ}{out:ρ->Ex×aQ aF}(Inv:σ->Prop){m:Nat}{s:σ}{r:ρ}{w:aQ aF}(hr:itF g m s=some r)(h0:hdP f k w=st s)(hk:m<=LL)(hv:Inv s)(hi:∀s s1,Inv s->g s=.inl s1->Inv s1)
  (hs:∀s m r,Inv s->(∀s1,g s=.inl s1->RhB n f k B m (st s1) (out r).1 (out r).2)->RhB n f k B (m+1) (st s) (CX (X:=X0) out r (g s)).1 (CX (X:=X0) out r (g s)).2):OB n f k B w (out r).1 (out r).2:=aes Inv hr h0 hk hv hi hs
end
open Go Tw Pv bW
structure Prt(l:List V)(w n:Nat):Prop where
 n12:n<=12
 w2:w<=5000
 len:l.length=n*w
section
variable {l:List V} {w n j:Nat} (h:Prt l w n)
include h
end
theorem Sr{α β:Type}(l:List α)(d:α)(f:α->β):(List.range l.length).map (fun k=>f (l.getD k d))=l.map f:=by
 apply aat (by simp);intro i h1 h2;have:i<l.length:=by simpa using h1
 simp[List.getD,a0a this]
open Go Tw Pv bW
theorem a6n{s p:List Int}{ch d:Int}(hp:mO s p=true)(hc:gQ ch s.length)(hd:gQ d (s.getD ch.toNat 0).toNat):mO s (p.set ch.toNat d)=true:=by
 rw[wF]at hp ⊢;obtain⟨c1,c2⟩:=hc;obtain⟨d1,d2⟩:=hd;refine⟨by simp[hp.1],fun j hj=>?_⟩;rw[yR (by omega)];split
 .rename_i e;subst e;omega
 exact hp.2 j hj
open Go Tw Pv bW
abbrev aj(d:Dg)(r:Int):Br:=d.au.getD r.toNat mQ
abbrev OE(d:Dg)(r:Int)(k:Nat):Bool:=d.aH.getD k 0==(aj d r).var
abbrev a2V(d:Dg)(r i:Int)(x:List (Nat×PE aF)):aQ aF:=⟨[(1,xi r),(2,.loc 0 0),(5,xi i)]++x,[d.ps],[]⟩
def aiZ(d:Dg)(r:Int)(N:Nat):Unit⊕Nat->Ex×aQ aF
 |.inl _=>(.exit 0,a2V d r N [(14,xl false)])
 |.inr k=>(.ret,⟨[(4,xi k)],[d.ps],[]⟩)
theorem aj0{r:Int}(h:0<=r):decide (r>=0)=true:=by simpa using h
theorem aj1{n:Nat}{fK:eY aF}(hO:Ok n fK)(d:Dg)(r:Int)(hl:d.aH.length<=ah)(h:gQ r d.au.length):Lp n 177 0 (a2V d r 0 []) (aiZ d r d.aH.length (bF (OE d r) d.aH.length)).1 (aiZ d r d.aH.length (bF (OE d r) d.aH.length)).2:=
 iU (st:=fun i _=>a2V d r i []) (fun _ _=>True) (by kernel_rfl) hl trivial (fun k s m hk _ ih=>aK hO (.b (aj0 h.1) (.b (aW hk) (.o (aG hk) (.o h (.ls (.ou nofun) (.nx (ih _ trivial)))))))) (fun s _=>aK hO (.b (aj0 h.1) (.b (eX d.aH.length) (.ou nofun))))
theorem aj2{n:Nat}{fK:eY aF}(hO:Ok n fK)(d:Dg)(r:Int)(h:r<0):Lp n 177 0 (a2V d r 0 []) (.exit 0) (a2V d r 0 [(14,xl false)]):=
 zi (ps:=a2V d r 0 []) (aK hO (.b (show decide (r>=0)=false by simpa using h) .ex)) (by kernel_rfl) (by decide:1<=LL)
def sW(d:Dg)(r:Int):Int:=if decide (r<0)=true then(d.aH.length:Int)else if jK (bF (OE d r) d.aH.length)=true then(d.aH.length:Int)else((CW 0 (bF (OE d r) d.aH.length):Nat):Int)
def acg:eY aF:=bZ 177 (a2 dA iA) iA (fun p=>sW p.1 p.2) (fun p=>[p.1.aH.length<=ah,0<=p.2->gQ p.2 p.1.au.length]) aiY
theorem aj3:Gd acg:=aoy.add fun n hO p hp=>aN hO (.zh (fun h=>.w (aj2 hO p.1 p.2 (by simpa using h)) .rr) fun h=>.zh (fun h2=>.w (jV (aj1 hO p.1 p.2 (hp _ (.head _)) (hp (0<=p.2->gQ p.2 p.1.au.length) (.tail _ (.head _)) (by simpa using h))) () h2) .rr) fun h2=>.w (jW (aj1 hO p.1 p.2 (hp _ (.head _)) (hp (0<=p.2->gQ p.2 p.1.au.length) (.tail _ (.head _)) (by simpa using h))) 0 h2) .rr)
def iJ(d:Dg)(r below:Int):Bool:=if decide (r>=0)=true then decide (r<below)else kY (i64.wrap (-1-r)) 0 (i64.wrap ((d.aO.length:Int)-1))
def ach:eY aF:=bZ 176 (a3 dA iA iA) tA (fun p=>iJ p.1 p.2.1 p.2.2) np acg
theorem aj6:Gd ach:=aj3.add fun n hO p hp=>aN hO (.ss .rr .rr)
abbrev OG(b:Br)(k:Nat):Bool:=b.ay.getD k 0 != b.ay.getD 0 0
abbrev aeM(b:Br)(i:Int)(x:List (Nat×PE aF)):aQ aF:=⟨[(1,.loc 0 0),(3,xi i)]++x,[b.ps],[]⟩
def aj7(b:Br):Unit⊕Nat->Ex×aQ aF
 |.inl _=>(.exit 0,aeM b (max 1 b.ay.length:Nat) [(8,xl false)])
 |.inr _=>(.ret,⟨[(2,xl false)],[b.ps],[]⟩)
theorem aj8{n:Nat}{fK:eY aF}(hO:Ok n fK)(b:Br)(hl:b.ay.length<=ah):Lp n 132 0 (aeM b 1 []) (aj7 b (RZ (OG b) 1 (max 1 b.ay.length))).1 (aj7 b (RZ (OG b) 1 (max 1 b.ay.length))).2:=
 a1b (st:=fun i _=>aeM b i []) (fun _ _=>True) (by kernel_rfl) (by omega) (by unfold ah at *;omega) trivial (fun k s m h1 hk _ ih=>aK hO (.b (aW (show k<b.ay.length by omega)) (.o (aG (show k<b.ay.length by omega)) (.o (show gQ 0 b.ay.length from⟨by omega,by omega⟩) (.ls (.ou nofun) (.nx (ih _ trivial))))))) (fun s _=>aK hO (.b (show decide (((max 1 b.ay.length:Nat):Int)<(b.ay.length:Int))=false by simp only[a2W];omega) (.ou nofun)))
def Dc(b:Br):Bool:=if jK (RZ (OG b) 1 (max 1 b.ay.length))=true then true else false
def aci:eY aF:=bZ 132 (a1 brA) tA (fun p=>Dc p) (fun p=>[p.ay.length<=ah]) ach
theorem aj9:Gd aci:=aj6.add fun n hO p hp=>aN hO (.zh (fun h=>.w (jV (aj8 hO p (hp _ (.head _))) () h) .rr) fun h=>.w (jW (aj8 hO p (hp _ (.head _))) 0 h) .rr)
abbrev Sv(l:List Int)(n:Int)(k:Nat):Bool:=l.getD k 0==n
abbrev aeN(l:List Int)(m i:Int)(x:List (Nat×PE aF)):aQ aF:=⟨[(0,xL 3 l),(1,xi m),(5,xi i)]++x,[],[]⟩
def aja(l:List Int)(m:Int):Unit⊕Nat->Ex×aQ aF
 |.inl _=>(.exit 0,aeN l m l.length [(9,xl false)])
 |.inr _=>(.ret,⟨[(4,xl true)],[],[]⟩)
theorem ajb{n:Nat}{fK:eY aF}(hO:Ok n fK)(l:List Int)(m:Int)(hl:l.length<=ah):Lp n 178 0 (aeN l m 0 []) (aja l m (bF (Sv l m) l.length)).1 (aja l m (bF (Sv l m) l.length)).2:=
 iU (st:=fun i _=>aeN l m i []) (fun _ _=>True) (by kernel_rfl) hl trivial (fun k s m hk _ ih=>aK hO (.b (aW hk) (.o (aG hk) (.ls (.ou nofun) (.nx (ih _ trivial)))))) (fun s _=>aK hO (.b (eX l.length) (.ou nofun)))
theorem Sz{l:List Int}{m:Int}:jK (bF (Sv l m) l.length)=!decide (m∈l):=by
 rw[a4u,dI];simp only[a8x,a2W];constructor
 .intro h hm;obtain⟨j,hj,e⟩:=a4E.1 hm;have:=h j hj;simp[Sv,List.getD,a0a hj,e]at this
 intro h j hj;have e:l.getD j 0=l[j]:=by simp[List.getD,a0a hj]
 simp only[Sv,agL,ne_eq,e];intro e2;exact h (e2▸a4w hj)
def acj:eY aF:=bZ 178 (a2 ql iA) tA (fun p=>decide (p.2∈p.1)) (fun p=>[p.1.length<=ah]) aci
theorem ajc:Gd acj:=aj9.add fun n hO p hp=>aN hO (.z (c:=jK (bF (Sv p.1 p.2) p.1.length)) (fun h=>.w (jV (ajb hO p.1 p.2 (hp _ (.head _))) () h) (.v false (by rw[Sz]at h;simp at h;simp[h]))) fun h=>.w (jW (ajb hO p.1 p.2 (hp _ (.head _))) 0 h) (.v true (by rw[Sz]at h;simp at h;simp[h])))
abbrev a6o(l:List Int)(k:Nat):Bool:=l.getD k 0 != (k:Int)
abbrev aeO(l:List Int)(m i:Int)(x:List (Nat×PE aF)):aQ aF:=⟨[(0,xL 3 l),(1,xi m),(5,xi i)]++x,[],[]⟩
def ajd(l:List Int)(m:Int):Unit⊕Nat->Ex×aQ aF
 |.inl _=>(.exit 0,aeO l m l.length [(9,xl false)])
 |.inr _=>(.ret,⟨[(4,xl false)],[],[]⟩)
theorem aje{n:Nat}{fK:eY aF}(hO:Ok n fK)(l:List Int)(m:Int)(hl:l.length<=ah):Lp n 134 0 (aeO l m 0 []) (ajd l m (bF (a6o l) l.length)).1 (ajd l m (bF (a6o l) l.length)).2:=
 iU (st:=fun i _=>aeO l m i []) (fun _ _=>True) (by kernel_rfl) hl trivial (fun k s m hk _ ih=>aK hO (.b (aW hk) (.o (aG hk) (.ls (.ou nofun) (.nx (ih _ trivial)))))) (fun s _=>aK hO (.b (eX l.length) (.ou nofun)))
def zo(l:List Int)(m:Int):Bool:=if jK (bF (a6o l) l.length)=true then((l.length:Int)==m)else false
def Xh:eY aF:=bZ 134 (a2 ql iA) tA (fun p=>zo p.1 p.2) (fun p=>[p.1.length<=ah]) acj
theorem ajf:Gd Xh:=ajc.add fun n hO p hp=>aN hO (.zh (fun h=>.w (jV (aje hO p.1 p.2 (hp _ (.head _))) () h) .rr) fun h=>.w (jW (aje hO p.1 p.2 (hp _ (.head _))) 0 h) .rr)
abbrev cLk(d:Dg)(i k:Nat):Bool:=if(!(iJ d ((d.au.getD i mQ).ay.getD k 0) i))=true then true else decide (sW d ((d.au.getD i mQ).ay.getD k 0)<=sW d i)
abbrev fC(d:Dg)(i:Nat):Br:=d.au.getD i mQ
abbrev a6p(d:Dg)(i k:Int)(b:Br)(x:List (Nat×PE aF)):aQ aF:=⟨[(1,.loc 0 0),(4,xi i),(5,.loc 1 0),(6,xi k)]++x,[d.ps,b.ps],[]⟩
def acn(d:Dg)(i:Nat):Unit⊕Nat->Ex×aQ aF
 |.inl _=>(.exit 4,a6p d i (fC d i).ay.length (fC d i) [(57,xl false)])
 |.inr _=>(.ret,⟨[(2,xl false)],[d.ps,(fC d i).ps],[]⟩)
structure DgL(d:Dg):Prop where
 aH:d.aH.length<=ah
 au:d.au.length<=ah
 aO:d.aO.length<=ah
 eF:wE d.aA
theorem Xi{d:Dg}{r:Int}{i:Nat}(h:iJ d r i=true)(h0:0<=r)(hi:i<=d.au.length):gQ r d.au.length:=by
 unfold iJ at h;rw[a0h (by simpa using h0)]at h;have:r<(i:Int):=by simpa using h
 exact⟨h0,by omega⟩
theorem ajg{n:Nat}(hO:Ok n Xh){d:Dg}(h:DgL d){i:Nat}(hi:i<d.au.length)(hk:(fC d i).ay.length<=ah):Lp n 131 2 (a6p d i 0 (fC d i) []) (acn d i (bF (cLk d i) (fC d i).ay.length)).1 (acn d i (bF (cLk d i) (fC d i).ay.length)).2:=
 iU (st:=fun k _=>a6p d i k (fC d i) []) (fun _ _=>True) (by kernel_rfl) hk trivial (fun k s m hk _ ih=>by
  unfold gS cLk;cases e1:iJ d ((fC d i).ay.getD k 0) i
  .exact aK hO (.b (aW hk) (.o (aG hk) (.b (show(!(iJ d ((fC d i).ay.getD k 0) i))=true by rw[e1];rfl) (.ou nofun))))
  .exact aK hO (.b (aW hk) (.o (aG hk) (.b (show(!(iJ d ((fC d i).ay.getD k 0) i))=false by rw[e1];rfl) (.o (aG hk) (.o h.aH (.o (show 0<=(fC d i).ay.getD k 0->gQ ((fC d i).ay.getD k 0) d.au.length from fun h0=>Xi e1 h0 (by omega)) (.o h.aH (.o (show 0<=((i:Nat):Int)->gQ i d.au.length from fun _=>aG hi) (.ls (.ou nofun) (.nx (ih _ trivial)))))))))))
  ) (fun s _=>aK hO (.b (eX (fC d i).ay.length) (.ou nofun)))
abbrev Zy(d:Dg)(i:Nat):Bool:=if(!(kY (fC d i).var 0 (xw d.aA)))=true then true else if(((fC d i).ay.length:Int) != d.aA.getD (fC d i).var.toNat 0)=true then true else if jK (bF (cLk d i) (fC d i).ay.length)=true then false else true
abbrev a6q(d:Dg)(i:Int)(x:List (Nat×PE aF)):aQ aF:=⟨[(1,.loc 0 0),(4,xi i)]++x,[d.ps],[]⟩
def aco(d:Dg):Unit⊕Nat->Ex×aQ aF
 |.inl _=>(.exit 2,a6q d d.au.length [(25,xl false)])
 |.inr k=>(.ret,⟨[(2,xl false)],[d.ps,(fC d k).ps],[]⟩)
theorem J6{d:Dg}(h:wE d.aA){v:Int}(e:kY v 0 (xw d.aA)=true):gQ v d.aA.length:=by
 rw[qZ,a6k h.aii]at e;exact⟨e.1,by omega⟩
theorem Xj{d:Dg}(h:wE d.aA){v:Int}(e:gQ v d.aA.length){l:List Int}(hl:(((l.length:Int)) != d.aA.getD v.toNat 0)=false):l.length<=12:=by
 have:=h.sz _ (dW (s:=d.aA) (k:=v.toNat) (by have:=e.2;have:=e.1;omega));have hl:(l.length:Int)=d.aA.getD v.toNat 0:=by simpa using hl
 omega
theorem m12{k:Nat}(h:k<=12):k<=ah:=by unfold ah;omega
theorem acp{n:Nat}(hO:Ok n Xh){d:Dg}(h:DgL d):Lp n 131 1 (a6q d 0 []) (aco d (bF (Zy d) d.au.length)).1 (aco d (bF (Zy d) d.au.length)).2:=
 iU (st:=fun k _=>a6q d k []) (fun _ _=>True) (by kernel_rfl) h.au trivial (fun k s m hk _ ih=>by
  unfold gS Zy;cases e1:kY (fC d k).var 0 (xw d.aA)
  .exact aK hO (.b (aW hk) (.o (aG hk) (.b (show(!(kY (fC d k).var 0 (xw d.aA)))=true by rw[e1];rfl) (.ou nofun))))
  .have hv:=J6 h.eF e1;cases e2:(((fC d k).ay.length:Int) != d.aA.getD (fC d k).var.toNat 0)
   .have hl:=ajg hO h hk (m12 (Xj h.eF hv e2));cases e3:jK (bF (cLk d k) (fC d k).ay.length)
    .exact aK hO (.b (aW hk) (.o (aG hk) (.b (show(!(kY (fC d k).var 0 (xw d.aA)))=false by rw[e1];rfl) (.o hv (.b e2 (.w (jW hl 0 e3) (.ou nofun)))))))
    .exact aK hO (.b (aW hk) (.o (aG hk) (.b (show(!(kY (fC d k).var 0 (xw d.aA)))=false by rw[e1];rfl) (.o hv (.b e2 (.w (jV hl () e3) (.nx (ih _ trivial))))))))
   .exact aK hO (.b (aW hk) (.o (aG hk) (.b (show(!(kY (fC d k).var 0 (xw d.aA)))=false by rw[e1];rfl) (.o hv (.b e2 (.ou nofun))))))
  ) (fun s _=>aK hO (.b (eX d.au.length) (.ou nofun)))
abbrev cLe(d:Dg)(k:Nat):Bool:=!(vOk (d.aO.getD k V0))
abbrev a6s(d:Dg)(i:Int)(x:List (Nat×PE aF)):aQ aF:=⟨[(1,.loc 0 0),(3,xi i)]++x,[d.ps],[]⟩
def acr(d:Dg):Unit⊕Nat->Ex×aQ aF
 |.inl _=>(.exit 0,a6s d d.aO.length [(11,xl false)])
 |.inr _=>(.ret,⟨[(2,xl false)],[d.ps],[]⟩)
theorem acs{n:Nat}(hO:Ok n Xh){d:Dg}(h:DgL d):Lp n 131 0 (a6s d 0 []) (acr d (bF (cLe d) d.aO.length)).1 (acr d (bF (cLe d) d.aO.length)).2:=
 iU (st:=fun k _=>a6s d k []) (fun _ _=>True) (by kernel_rfl) h.aO trivial (fun k s m hk _ ih=>aK hO (.b (aW hk) (.o (aG hk) (.ls (.ou nofun) (.nx (ih _ trivial)))))) (fun s _=>aK hO (.b (eX d.aO.length) (.ou nofun)))
def lq(d:Dg):Bool:=if jK (bF (cLe d) d.aO.length)=true then(if jK (bF (Zy d) d.au.length)=true then iJ d d.root d.au.length else false)else false
def acu:eY aF:=bZ 131 (a1 dA) tA (fun p=>lq p) (fun p=>[DgL p]) Xh
theorem ajh:Gd acu:=ajf.add fun n hO p hp=>aN hO (.zh (fun h=>.w (jV (acs hO (show DgL p from hp _ (.head _))) () h) (.zh (fun h2=>.w (jV (acp hO (show DgL p from hp _ (.head _))) () h2) .rr) fun h2=>.w (jW (acp hO (show DgL p from hp _ (.head _))) 0 h2) .rr)) fun h=>.w (jW (acs hO (show DgL p from hp _ (.head _))) 0 h) .rr)
def bG(d:Dg):Int:=if(dh d.aA d.aH != 0)=true then dh d.aA d.aH else if decide ((d.au.length:Int)>6000)=true then 5 else if(!(lq d))=true then 4 else 0
theorem UF{k:Nat}(h:decide ((k:Int)>6000)=false):k<=ah:=by simp at h;unfold ah;omega
theorem Ap{s o:List Int}(h:(dh s o != 0)=false):wE s:=(lT.1 (by simpa using h)).1
def a9Y:eY aF:=bZ 83 (a1 dA) iA (fun p=>bG p) (fun p=>[p.aH.length<=ah,p.aO.length<=ah]) acu
theorem aoz:Gd a9Y:=ajh.add fun n hO p hp=>aN hO (.o (hp _ (.head _)) (.sh (fun _=>.rr) fun h=>.sh (fun _=>.rr) fun h2=>.o (show DgL p from⟨hp _ (.head _),UF h2,hp _ (.tail _ (.head _)),Ap h⟩) (.ss .rr .rr)))
open Go Tw Pv bW
abbrev jA(r:Int):Int:=i64.wrap (-1-r)
def jH(d:Dg):Nat->Int->List Int×List Int->List Int×List Int
 | 0,_,x=>x
 |F+1,r,x=>if decide (r<0)=true then(if(!(decide (jA r∈x.2)))=true then(x.1,x.2++[jA r])else x)else if decide (r∈x.1)=true then x
  else((aT (fun k y=>jH d F ((aj d r).ay.getD k 0) y) (aj d r).ay.length 0 x).1++[r],(aT (fun k y=>jH d F ((aj d r).ay.getD k 0) y) (aj d r).ay.length 0 x).2)
def jk(d:Dg)(r:Int)(b:Nat):Prop:=r<b∧(r<0->gQ (jA r) d.aO.length)
structure BD(d:Dg):Prop extends DgL d where
 Aq:∀i,i<d.au.length->∀k,k<(fC d i).ay.length->jk d ((fC d i).ay.getD k 0) i
 KN:∀i,i<d.au.length->(fC d i).ay.length<=12
 var:∀i,i<d.au.length->gQ (fC d i).var d.aA.length
 ksz:∀i,i<d.au.length->((fC d i).ay.length:Int)=d.aA.getD (fC d i).var.toNat 0
 root:jk d d.root d.au.length
structure J7(d:Dg)(x:List Int×List Int):Prop where
 n1:x.1.Nodup
 n2:∀a∈x.1,gQ a d.au.length
 e1:x.2.Nodup
 e2:∀a∈x.2,gQ a d.aO.length
theorem zq:∀(N:Nat) (l:List Int),l.Nodup->(∀a∈l,gQ a N)->l.length<=N
 | 0,[],_,_=>a15 _
 | 0,a::l,_,h=>by obtain⟨h1,h2⟩:=h a (a3N ..);omega
 |N+1,l,hn,h=>by
  have h1:=zq N (l.erase (N:Int)) (hn.erase _) fun a ha=>by
   have h2:=(List.Nodup.mem_erase_iff hn).1 ha;have h3:=h a h2.2;exact⟨h3.1,by have:=h3.2;have:=h2.1;omega⟩
  by_cases hm:(N:Int)∈l
  .rw[List.length_erase_of_mem hm]at h1;omega
  rw[List.erase_of_not_mem hm]at h1;omega
theorem J7.len{d:Dg}{x:List Int×List Int}(h:J7 d x):x.1.length<=d.au.length∧x.2.length<=d.aO.length:=⟨zq _ _ h.n1 h.n2,zq _ _ h.e1 h.e2⟩
theorem wH{l:List Int}{a:Int}(h:l.Nodup)(ha:a∉l):(l++[a]).Nodup:=by
 rw[a8B];exact⟨h,by simp,fun x hx y hy e=>by simp at hy;subst hy;subst e;exact ha hx⟩
theorem a6u{d:Dg}:∀(F:Nat) (r s:Int) (x:List Int×List Int),r<s->s∉x.1->0<=s->(∀i,i<d.au.length->∀k,k<(fC d i).ay.length->(fC d i).ay.getD k 0<i)->(0<=r->gQ r d.au.length)->s∉(jH d F r x).1
 | 0,_,_,_,_,h,_,_,_=>h
 |F+1,r,s,x,hr,h,h0,hk,hn=>by
  unfold jH;by_cases c:r<0
  .rw[a0h (by simpa using c)];split<;>exact h
  rw[a0g (by simpa using c)];split
  .exact h
  have hi:=hn (by omega);have DC:∀k,k<(aj d r).ay.length->(aj d r).ay.getD k 0<r:=fun k lN=>by
   obtain⟨i1,i2⟩:=hi;have h9:(aj d r).ay.getD k 0<(r.toNat:Int):=hk r.toNat (by omega) k lN;omega
  have:=dO (g:=fun k y=>jH d F ((aj d r).ay.getD k 0) y) (m:=(aj d r).ay.length) (k:=0) (s:=x) (fun _ y=>s∉y.1) h (fun j y _ hj hy=>by
   have h4:=DC j (by omega);exact a6u F _ s y (by omega) hy h0 hk fun h5=>⟨h5,by have:=hi.2;omega⟩)
  simp only[a3K,a2I,adq];exact⟨this,by omega⟩
theorem Ko{d:Dg}(h:BD d):∀(F:Nat) (r:Int) (x:List Int×List Int),J7 d x->jk d r d.au.length->J7 d (jH d F r x)
 | 0,_,_,hx,_=>hx
 |F+1,r,x,hx,hr=>by
  unfold jH;by_cases c:r<0
  .rw[a0h (by simpa using c)];split
   .rename_i c2;have c2:jA r∉x.2:=(by simpa using c2);refine⟨hx.n1,hx.n2,wH hx.e1 c2,fun a ha=>?_⟩;rw[a3K,a2I]at ha;rcases ha with ha|rfl
    .exact hx.e2 a ha
    exact hr.2 c
   exact hx
  rw[a0g (by simpa using c)];split
  .exact hx
  rename_i c2;have c2:r∉x.1:=by simpa using c2
  have hi:gQ r d.au.length:=⟨by omega,hr.1⟩;have aS:r.toNat<d.au.length:=by have:=hr.1;omega
  have h1:=dO (g:=fun k y=>jH d F ((aj d r).ay.getD k 0) y) (m:=(aj d r).ay.length) (k:=0) (s:=x) (fun _ y=>J7 d y∧r∉y.1) ⟨hx,c2⟩ (fun j y _ hj hy=>by
   have hk:jk d ((aj d r).ay.getD j 0) r.toNat:=h.Aq r.toNat aS j (by simpa using hj);obtain⟨k1,k2⟩:=hk;have lN:jk d ((aj d r).ay.getD j 0) d.au.length:=⟨by omega,k2⟩;refine⟨Ko h F _ y hy.1 lN,a6u F _ r y (by omega) hy.2 (by omega) (fun i hi k hk=>(h.Aq i hi k hk).1) fun h5=>⟨h5,lN.1⟩⟩)
  obtain⟨h2,h3⟩:=h1;refine⟨wH h2.n1 h3,fun a ha=>?_,h2.e1,h2.e2⟩;rw[a3K,a2I]at ha;rcases ha with ha|rfl
  .exact h2.n2 a ha
  exact hi
abbrev ls(l:List Int):PB aF:=.list false false 3 l
abbrev wSr(d:Dg)(r:Int)(k:Int)(s:List Int×List Int)(x:List (Nat×PE aF)):aQ aF:=⟨[(1,xi r),(2,xo 2),(3,xo 3),(4,.loc 0 0),(10,.loc 1 0),(11,xi k)]++x,[d.ps,(aj d r).ps],[.gone,.gone,ls s.1,ls s.2]⟩
abbrev aji(n:Nat)(d:Dg)(r:Int)(x y:List Int×List Int):Prop:=aX X0 Qp (bQ n) (.fn 133 [] []) [.agg d.ps,.int .i64 r,.own 0,.own 1] [ls x.1,ls x.2] (.dG [.own 2,.own 3]) [.gone,.gone,ls y.1,ls y.2]
theorem sSr{N:Nat}(hO:∀m,N<=m->Ok m a9Y){d:Dg}(h:BD d):∀(F:Nat) (r:Int) (x:List Int×List Int),r+1<F->J7 d x->jk d r d.au.length->1<=F->aji (N+F) d r x (jH d F r x)
 | 0,r,x,_,_,_,h1=>by omega
 |F+1,r,x,hF,hx,hr,_=>by
  have hn:=hx.len.1;have he:=hx.len.2;have m1:=h.au;have m2:=h.aO;have FD:=hO (N+F) (by omega);have mn:x.1.length<=ah:=by omega
  have me:x.2.length<=ah:=by omega
  unfold jH;by_cases c:r<0
  .have t0:decide (r<0)=true:=(by simpa using c);rw[a0h t0];by_cases c2:jA r∈x.2
   .have t1:(!(decide (jA r∈x.2)))=false:=(by simpa using c2);rw[a0g (by rw[t1];simp)];exact aX.gs hX (qP hX FD (first:=[]) (cap:=[]) (v:=.dG [.own 0,.own 1]) (H1:=[ls x.1,ls x.2]) (by kernel_rfl) (.b t0 (.o me (.b t1 .er)))) [.mv 0,.mv 1] rfl
   have t1:(!(decide (jA r∈x.2)))=true:=(by simpa using c2);rw[a0h t1];have e1:=zq _ _ (wH hx.e1 c2) (fun a ha=>by
    rw[a3K,a2I]at ha;rcases ha with ha|rfl
    .exact hx.e2 a ha
    exact hr.2 c)
   have e2:x.2.length+[jA r].length<=ah:=by rw[<-a2a];omega
   exact aX.gs hX (qP hX FD (first:=[]) (cap:=[]) (v:=.dG [.own 0,.own 3]) (H1:=[ls x.1,.gone,.list true true 3 ([jA r]:List Int),ls (x.2++[jA r])]) (by kernel_rfl) (.b t0 (.o me (.b t1 (.o e2 .er))))) [.mv 0,.gc [4,3]] rfl
  have t0:decide (r<0)=false:=by simpa using c
  rw[a0g (by rw[t0];simp)];by_cases c2:r∈x.1
  .have t1:decide (r∈x.1)=true:=(by simpa using c2);rw[a0h t1];exact aX.gs hX (qP hX FD (first:=[]) (cap:=[]) (v:=.dG [.own 0,.own 1]) (H1:=[ls x.1,ls x.2]) (by kernel_rfl) (.b t0 (.o mn (.b t1 .er)))) [.mv 0,.mv 1] rfl
  have t1:decide (r∈x.1)=false:=by simpa using c2
  rw[a0g (by rw[t1];simp)];have hi:gQ r d.au.length:=⟨by omega,hr.1⟩;obtain⟨i1,i2⟩:=id hi;have aS:r.toNat<d.au.length:=by omega
  have hl:OB (N+F) 133 0 2 (wSr d r 0 x []) (.exit 0) (wSr d r (aj d r).ay.length (aT (fun k y=>jH d F ((aj d r).ay.getD k 0) y) (aj d r).ay.length 0 x) [(40,xl false)]):=by
   refine uy (σ:=List Int×List Int) (N:=(aj d r).ay.length) (g:=fun k y=>jH d F ((aj d r).ay.getD k 0) y) (s0:=x) (st:=fun k y=>wSr d r k y []) (fin:=fun y=>wSr d r (aj d r).ay.length y [(40,xl false)]) (fun _ y=>J7 d y) (by kernel_rfl) (m12 (h.KN r.toNat aS)) hx (fun k y hk hy=>?_) (fun k y hk hy m e p g=>?_) (fun y _=>aK FD (.b (eX (aj d r).ay.length) .ex))
   .have hk:jk d ((aj d r).ay.getD k 0) r.toNat:=h.Aq r.toNat aS k hk;have k1:(aj d r).ay.getD k 0<(r.toNat:Int):=hk.1;exact Ko h F _ y hy ⟨by omega,hk.2⟩
   have lN:jk d ((aj d r).ay.getD k 0) r.toNat:=h.Aq r.toNat aS k hk;have k1:=lN.1;have hs:=sSr hO h F ((aj d r).ay.getD k 0) y (by omega) hy ⟨by omega,lN.2⟩ (by omega);exact aK FD (.b (aW hk) (.o (aG hk) (.fr [2,3] hs (.RU [.gc [4,5]] g))))
  generalize hy:aT (fun k y=>jH d F ((aj d r).ay.getD k 0) y) (aj d r).ay.length 0 x=y at hl;have sk:=Ko h (F+1) r x hx hr;unfold jH at sk;rw[a0g (by rw[t0];simp),a0g (by rw[t1];simp),hy]at sk;have sl:(y.1++[r]).length<=d.au.length:=sk.len.1;have ml:y.1.length+[r].length<=ah:=by rw[<-a2a];omega
  exact aX.gs hX (qP hX FD (first:=[]) (cap:=[]) (v:=.dG [.own 5,.own 3]) (H1:=[.gone,.gone,.gone,ls y.2,.list true true 3 ([r]:List Int),ls (y.1++[r])]) (by kernel_rfl) (.b t0 (.o mn (.b t1 (.o hi (.wG [.mv 0,.mv 1] hl (.o ml .er))))))) [.gc [5,3]] rfl
def nlA:Arg Unit where
 put _:=.nil .slc
 get v:=match v with
  |.nil .slc=>some ()
  |_=>none
 ok:=by
  intro v a hg A m h x hv;split at hg
  .exact hv
  .cases hg
abbrev wSn(d:Dg)(r:Int)(k:Int)(s:List Int×List Int)(x:List (Nat×PE aF)):aQ aF:=⟨[(1,xi r),(2,xo 0),(3,xo 1),(4,.loc 0 0),(10,.loc 1 0),(11,xi k)]++x,[d.ps,(aj d r).ps],[ls s.1,ls s.2]⟩
theorem sr0{d:Dg}:J7 d ([],[]):=⟨a7f,by simp,a7f,by simp⟩
def srN(d:Dg)(r:Int):List Int:=(jH d 6002 r ([],[])).1
def srE(d:Dg)(r:Int):List Int:=(jH d 6002 r ([],[])).2
def a1d:eY aF:=bZ 133 (a4 dA iA nlA nlA) (dP (a2 ql ql)) (fun p=>(srN p.1 p.2.1,srE p.1 p.2.1)) (fun p=>[BD p.1,jk p.1 p.2.1 p.1.au.length,p.1.au.length<=6000]) a9Y
theorem ajk:Gd a1d:=aoz.deep 6001 fun n hn hO p hp=>by
 obtain⟨d,r,_,_⟩:=p;have h:BD d:=hp _ (.head _);have hr:jk d r d.au.length:=hp _ (.tail _ (.head _));have hm:d.au.length<=6000:=hp _ (.tail _ (.tail _ (.head _)));obtain⟨N,rfl⟩:∃N,n=N+6001:=⟨n-6001,by omega⟩;have hO:∀m,N<=m->Ok m a9Y:=fun m hm=>hO m (by omega);have FD:=hO (N+6001) (by omega);by_cases c:r<0
 .have t0:decide (r<0)=true:=by simpa using c
  have t1:(!(decide (jA r∈([]:List Int))))=true:=by simp
  have e:jH d 6002 r ([],[])=([],[jA r]):=by
   rw[jH,a0h t0,a0h t1];rfl
  show mY X0 Qp _ _ _ ((dP (a2 ql ql)).put ((jH d 6002 r ([],[])).1,(jH d 6002 r ([],[])).2)) [];rw[e];exact aN FD (.b t0 (.o le0 (.b t1 (.o le1 (.rn (.dG [.nil .slc,.dw 3 ([jA r]:List Int) false]) rfl)))))
 .have t0:decide (r<0)=false:=by simpa using c
  have t1:decide (r∈([]:List Int))=false:=by simp
  have hi:gQ r d.au.length:=⟨by omega,hr.1⟩;obtain⟨i1,i2⟩:=id hi;have aS:r.toNat<d.au.length:=by omega
  have hl:OB (N+6001) 133 0 0 (wSn d r 0 ([],[]) []) (.exit 0) (wSn d r (aj d r).ay.length (aT (fun k y=>jH d 6001 ((aj d r).ay.getD k 0) y) (aj d r).ay.length 0 ([],[])) [(40,xl false)]):=by
   refine uy (σ:=List Int×List Int) (N:=(aj d r).ay.length) (g:=fun k y=>jH d 6001 ((aj d r).ay.getD k 0) y) (s0:=(([],[]):List Int×List Int)) (st:=fun k y=>wSn d r k y []) (fin:=fun y=>wSn d r (aj d r).ay.length y [(40,xl false)]) (fun _ y=>J7 d y) (by kernel_rfl) (m12 (h.KN r.toNat aS)) sr0 (fun k y hk hy=>?_) (fun k y hk hy m e p g=>?_) (fun y _=>aK FD (.b (eX (aj d r).ay.length) .ex))
   .have hk:jk d ((aj d r).ay.getD k 0) r.toNat:=h.Aq r.toNat aS k hk;have k1:(aj d r).ay.getD k 0<(r.toNat:Int):=hk.1;exact Ko h 6001 _ y hy ⟨by omega,hk.2⟩
   .have lN:jk d ((aj d r).ay.getD k 0) r.toNat:=h.Aq r.toNat aS k hk;have k1:(aj d r).ay.getD k 0<(r.toNat:Int):=lN.1;have hs:=sSr hO h 6001 ((aj d r).ay.getD k 0) y (by omega) hy ⟨by omega,lN.2⟩ (by omega);exact aK FD (.b (aW hk) (.o (aG hk) (.fr [0,1] hs (.RU [.gc [2,3]] g))))
  have sk:=Ko h 6002 r ([],[]) sr0 hr;have e:jH d 6002 r ([],[])=((aT (fun k y=>jH d 6001 ((aj d r).ay.getD k 0) y) (aj d r).ay.length 0 ([],[])).1++[r],(aT (fun k y=>jH d 6001 ((aj d r).ay.getD k 0) y) (aj d r).ay.length 0 ([],[])).2):=by
   rw[jH,a0g (by rw[t0];simp),a0g (by rw[t1];simp)]
  show mY X0 Qp _ _ _ ((dP (a2 ql ql)).put ((jH d 6002 r ([],[])).1,(jH d 6002 r ([],[])).2)) [];rw[e]at sk ⊢;generalize aT (fun k y=>jH d 6001 ((aj d r).ay.getD k 0) y) (aj d r).ay.length 0 ([],[])=y at hl sk;have sl:(y.1++[r]).length<=d.au.length:=sk.len.1;have m1:=h.au;have ml:y.1.length+[r].length<=ah:=by rw[<-a2a];omega
  exact aN FD (.b t0 (.o le0 (.b t1 (.o hi (.wG [.BA 2 3,.BA 3 3] hl (.o ml .rr))))))
open Go Tw Pv bW
abbrev cD1(d:Dg)(i j:Nat):Bool:=decide (d.aO.getD j V0=d.aO.getD i V0)
abbrev cD0(d:Dg)(i:Nat):Bool:=if jK (bF (cD1 d i) i)=true then false else true
abbrev cD3(d:Dg)(i j:Nat):Bool:=if((fC d j).var==(fC d i).var)=true then decide ((fC d j).ay=(fC d i).ay)else false
abbrev cD2(d:Dg)(i:Nat):Bool:=if Dc (fC d i)=true then true else if jK (bF (cD3 d i) i)=true then false else true
abbrev wD(d:Dg)(x:List (Nat×PE aF)):aQ aF:=⟨[(1,.loc 0 0)]++x,[d.ps],[]⟩
abbrev rD(d:Dg):Ex×aQ aF:=(.ret,⟨[(2,xl false)],[d.ps],[]⟩)
def zD1(d:Dg)(i:Nat):Unit⊕Nat->Ex×aQ aF
 |.inl _=>(.exit 2,wD d [(3,xi i),(4,xi i),(18,xl false)])
 |.inr _=>rD d
theorem lD1{n:Nat}{fK:eY aF}(hO:Ok n fK){d:Dg}(h:DgL d){i:Nat}(hi:i<d.aO.length):Lp n 84 1 (wD d [(3,xi i),(4,xi 0)]) (zD1 d i (bF (cD1 d i) i)).1 (zD1 d i (bF (cD1 d i) i)).2:=
 iU (st:=fun j _=>wD d [(3,xi i),(4,xi j)]) (fun _ _=>True) (by kernel_rfl) (by have:=h.aO;omega) trivial (fun j s m hj _ ih=>aK hO (.b (aW hj) (.o (aG (show j<d.aO.length by omega)) (.o (aG hi) (.q (.bool (cD1 d i j)) (eqV (.tmp 25) (.tmp 30) (d.aO.getD j V0) (d.aO.getD i V0)) (.ls (.ou nofun) (.nx (ih _ trivial)))))))) (fun s _=>aK hO (.b (eX i) (.ou nofun)))
def zD0(d:Dg):Unit⊕Nat->Ex×aQ aF
 |.inl _=>(.exit 0,wD d [(3,xi d.aO.length),(13,xl false)])
 |.inr _=>rD d
theorem lD0{n:Nat}{fK:eY aF}(hO:Ok n fK){d:Dg}(h:DgL d):Lp n 84 0 (wD d [(3,xi 0)]) (zD0 d (bF (cD0 d) d.aO.length)).1 (zD0 d (bF (cD0 d) d.aO.length)).2:=
 iU (st:=fun i _=>wD d [(3,xi i)]) (fun _ _=>True) (by kernel_rfl) h.aO trivial (fun i s m hi _ ih=>by
  have hl:=lD1 hO h hi;unfold gS cD0;cases e:jK (bF (cD1 d i) i)
  .exact aK hO (.b (aW hi) (.w (jW hl 0 e) (.ou nofun)))
  .exact aK hO (.b (aW hi) (.w (jV hl () e) (.nx (ih _ trivial))))
  ) (fun s _=>aK hO (.b (eX d.aO.length) (.ou nofun)))
def zD3(d:Dg)(i:Nat):Unit⊕Nat->Ex×aQ aF
 |.inl _=>(.exit 6,wD d [(5,xi i),(6,xi i),(47,xl false)])
 |.inr _=>rD d
theorem lD3{n:Nat}(hO:Ok n a1d){d:Dg}(h:BD d){i:Nat}(hi:i<d.au.length):Lp n 84 3 (wD d [(5,xi i),(6,xi 0)]) (zD3 d i (bF (cD3 d i) i)).1 (zD3 d i (bF (cD3 d i) i)).2:=
 iU (st:=fun j _=>wD d [(5,xi i),(6,xi j)]) (fun _ _=>True) (by kernel_rfl) (by have:=h.au;omega) trivial (fun j s m hj _ ih=>by
  have rO:j<d.au.length:=by omega
  unfold gS cD3;cases e:((fC d j).var==(fC d i).var)
  .exact aK hO (.b (aW hj) (.o (aG rO) (.o (aG hi) (.b e (.nx (ih _ trivial))))))
  .exact aK hO (.b (aW hj) (.o (aG rO) (.o (aG hi) (.b e (.o (aG rO) (.o (aG hi) (.o (m12 (h.KN j rO)) (.ls (.ou nofun) (.nx (ih _ trivial))))))))))
  ) (fun s _=>aK hO (.b (eX i) (.ou nofun)))
def zD2(d:Dg):Unit⊕Nat->Ex×aQ aF
 |.inl _=>(.exit 4,wD d [(5,xi d.au.length),(36,xl false)])
 |.inr _=>rD d
theorem lD2{n:Nat}(hO:Ok n a1d){d:Dg}(h:BD d):Lp n 84 2 (wD d [(5,xi 0)]) (zD2 d (bF (cD2 d) d.au.length)).1 (zD2 d (bF (cD2 d) d.au.length)).2:=
 iU (st:=fun i _=>wD d [(5,xi i)]) (fun _ _=>True) (by kernel_rfl) h.au trivial (fun i s m hi _ ih=>by
  have hl:=lD3 hO h hi;unfold gS cD2;cases e1:Dc (fC d i)
  .cases e:jK (bF (cD3 d i) i)
   .exact aK hO (.b (aW hi) (.o (aG hi) (.o (m12 (h.KN i hi)) (.b e1 (.w (jW hl 0 e) (.ou nofun))))))
   .exact aK hO (.b (aW hi) (.o (aG hi) (.o (m12 (h.KN i hi)) (.b e1 (.w (jV hl () e) (.nx (ih _ trivial)))))))
  .exact aK hO (.b (aW hi) (.o (aG hi) (.o (m12 (h.KN i hi)) (.b e1 (.ou nofun)))))
  ) (fun s _=>aK hO (.b (eX d.au.length) (.ou nofun)))
def oV(d:Dg):Bool:=if jK (bF (cD0 d) d.aO.length)=true then(if jK (bF (cD2 d) d.au.length)=true then(if zo (srN d d.root) (d.au.length:Int)=true then zo (srE d d.root) (d.aO.length:Int)else false)else false)else false
theorem a1e{d:Dg}(h:BD d):(srN d d.root).length<=ah∧(srE d d.root).length<=ah:=by
 have hl:=(Ko h 6002 d.root ([],[]) sr0 h.root).len;exact⟨a4A hl.1 h.au,a4A hl.2 h.aO⟩
def ajl:eY aF:=bZ 84 (a1 dA) tA (fun p=>oV p) (fun p=>[BD p,p.au.length<=6000]) a1d
theorem aoA:Gd ajl:=ajk.add fun n hO p hp=>aN hO (.zh (fun h=>.w (jV (lD0 hO (show BD p from hp _ (.head _)).toDgL) () h) (.zh (fun h2=>.w (jV (lD2 hO (show BD p from hp _ (.head _))) () h2) (.o (hp _ (.head _)) (.o (show BD p from hp _ (.head _)).root (.o (hp _ (.tail _ (.head _))) (.o (a1e (hp _ (.head _))).1 (.ss (.o (a1e (hp _ (.head _))).2 .rr) .rr)))))) fun h2=>.w (jW (lD2 hO (show BD p from hp _ (.head _))) 0 h2) .rr)) fun h=>.w (jW (lD0 hO (show BD p from hp _ (.head _)).toDgL) 0 h) .rr)
theorem Xk{d:Dg}(hm:d.aO.length<=ah){r:Int}{b:Nat}(h:iJ d r b=true):jk d r b:=by
 unfold iJ at h;by_cases c:0<=r
 .rw[a0h (by simpa using c)]at h;exact⟨by simpa using h,fun h2=>by omega⟩
 rw[a0g (by simpa using c),qZ]at h;have e:i64.wrap ((d.aO.length:Int)-1)=(d.aO.length:Int)-1:=by unfold ah at hm;exact fH (by omega) (by omega)
 rw[e]at h;obtain⟨h1,h2⟩:=h;exact⟨by omega,fun _=>⟨h1,show jA r<_ by show i64.wrap (-1-r)<_;omega⟩⟩
theorem a6v{d:Dg}(h:DgL d)(hl:lq d=true):BD d:=by
 unfold lq at hl;split at hl
 rotate_left
 .cases hl
 split at hl
 rotate_left
 .cases hl
 rename_i h1 h2;have h2:=dI.1 h2;have key:∀i,i<d.au.length->kY (fC d i).var 0 (xw d.aA)=true∧(((fC d i).ay.length:Int) != d.aA.getD (fC d i).var.toNat 0)=false∧jK (bF (cLk d i) (fC d i).ay.length)=true:=fun i hi=>by
  have:=h2 i hi;unfold Zy at this;split at this
  .cases this
  split at this
  .cases this
  split at this
  .rename_i a b c;exact⟨by simpa using a,by simpa using b,c⟩
  cases this
 refine⟨h,fun i hi k hk=>?_,fun i hi=>?_,fun i hi=>?_,fun i hi=>?_,Xk h.aO hl⟩
 .have:=dI.1 (key i hi).2.2 k hk;unfold cLk at this;split at this
  .cases this
  rename_i a;exact Xk h.aO (by simpa using a)
 .exact Xj h.eF (J6 h.eF (key i hi).1) (key i hi).2.1
 .exact J6 h.eF (key i hi).1
 simpa using(key i hi).2.1
theorem mD{d:Dg}(ho:d.aH.length<=ah)(he:d.aO.length<=ah)(h:(bG d != 0)=false):BD d∧d.au.length<=6000:=by
 unfold bG at h;split at h
 .rename_i h1;simp at h h1;exact absurd h h1
 split at h
 .cases h
 split at h
 .cases h
 rename_i h1 h2 h3;have h2:decide ((d.au.length:Int)>6000)=false:=by simpa using h2
 exact⟨a6v ⟨ho,UF h2,he,Ap (by simpa using h1)⟩ (by simpa using h3),by simp at h2;omega⟩
def ru(d:Dg):Int:=if(bG d != 0)=true then bG d else if(!(oV d))=true then 4 else 0
def ajn:eY aF:=bZ 22 (a1 dA) iA (fun p=>ru p) (fun p=>[p.aH.length<=ah,p.aO.length<=ah]) ajl
theorem aoB:Gd ajn:=aoA.add fun n hO p hp=>aN hO (.o (hp _ (.head _)) (.o (hp _ (.tail _ (.head _))) (.sh (fun _=>.rr) fun h=>.o (mD (hp _ (.head _)) (hp _ (.tail _ (.head _))) h).1 (.o (mD (hp _ (.head _)) (hp _ (.tail _ (.head _))) h).2 (.ss .rr .rr)))))
open Go Tw Pv bW
def gAt(d:Dg)(p:List Int)(r:Int):Int⊕Int:=if decide (r>=0)=true then .inl ((aj d r).ay.getD (p.getD (aj d r).var.toNat 0).toNat 0)else .inr r
def atF(d:Dg)(p:List Int):Nat->Int->Int
 | 0,r=>r
 |F+1,r=>if r<0 then r else atF d p F ((aj d r).ay.getD (p.getD (aj d r).var.toNat 0).toNat 0)
theorem acw{d:Dg}{p:List Int}:∀(F:Nat) (r:Int),atF d p F r<0->itF (gAt d p) (F+1) r=some (atF d p F r)
 | 0,r,h=>by
  have h:r<0:=h;have e:gAt d p r=.inr r:=by unfold gAt;rw[a0g (by simpa using h)]
  rw[itF,e];rfl
 |F+1,r,h=>by
  by_cases c:r<0
  .have e:gAt d p r=.inr r:=by unfold gAt;rw[a0g (by simpa using c)]
   rw[itF,e,atF,a0h c]
  have e:gAt d p r=.inl ((aj d r).ay.getD (p.getD (aj d r).var.toNat 0).toNat 0):=by unfold gAt;rw[a0h (by simp;omega)]
  rw[atF,a0g c]at h;rw[itF,e,atF,a0g c];exact acw F _ h
theorem OH{d:Dg}(h:BD d){p:List Int}(hp:mO d.aA p=true){r:Int}(hr:gQ r d.au.length):gQ (aj d r).var p.length∧gQ (p.getD (aj d r).var.toNat 0) (aj d r).ay.length∧jk d ((aj d r).ay.getD (p.getD (aj d r).var.toNat 0).toNat 0) r.toNat:=by
 obtain⟨r1,r2⟩:=hr;have hl:r.toNat<d.au.length:=by omega
 have hv:=h.var r.toNat hl;have hk:=h.ksz r.toNat hl;obtain⟨v1,v2⟩:=hv;obtain⟨p1,p2⟩:=wF.1 hp;have p3:=p2 (aj d r).var.toNat (by show(fC d r.toNat).var.toNat<_;omega);have k1:gQ (p.getD (aj d r).var.toNat 0) (aj d r).ay.length:=⟨p3.1,by show _<((fC d r.toNat).ay.length:Int);rw[hk];exact p3.2⟩;refine⟨⟨v1,by rw[p1];exact v2⟩,k1,h.Aq r.toNat hl _ ?_⟩;obtain⟨k2,k3⟩:=k1;show _<(aj d r).ay.length;omega
theorem UG{d:Dg}(h:BD d){p:List Int}(hp:mO d.aA p=true):∀(F:Nat) (r:Int),r<F->jk d r d.au.length->jk d (atF d p F r) 0
 | 0,r,hr,hk=>⟨by show r<((0:Nat):Int);omega,hk.2⟩
 |F+1,r,hr,hk=>by
  unfold atF;split
  .rename_i c;exact⟨by show r<((0:Nat):Int);omega,hk.2⟩
  rename_i c;have:=(OH h hp (r:=r) ⟨by omega,hk.1⟩).2.2;obtain⟨a1,a2⟩:=this;have a3:r<(d.au.length:Int):=hk.1;exact UG h hp F _ (by omega) ⟨by omega,a2⟩
abbrev atR(d:Dg)(p:List Int):Int:=atF d p 6001 d.root
def En(d:Dg)(p:List Int):V:=d.aO.getD (jA (atR d p)).toNat V0
abbrev wAt(d:Dg)(p:List Int)(r:Int)(x:List (Nat×PE aF)):aQ aF:=⟨[(1,xL 3 p),(2,.loc 0 0),(4,.loc 1 0),(5,xi r)]++x,[d.ps,V0.ps],[]⟩
theorem lAt{n:Nat}{fK:eY aF}(hO:Ok n fK){d:Dg}(h:BD d)(hm:d.au.length<=6000){p:List Int}(hp:mO d.aA p=true):Lp n 98 0 (wAt d p d.root []) (.exit 0) (wAt d p (atR d p) [(9,xl false)]):=by
 have h0:d.root<(d.au.length:Int):=h.root.1;have ha:=UG h hp 6001 d.root (by omega) h.root;have Qd:=acw 6001 d.root ha.1;refine Zx (st:=fun r=>wAt d p r []) (g:=gAt d p) (out:=fun r=>(.exit 0,wAt d p r [(9,xl false)])) (fun r=>jk d r d.au.length) Qd (by kernel_rfl) (by decide) h.root ?_ ?_
 .intro r r1 hr e;unfold gAt at e;split at e
  .rename_i c;have c:0<=r:=(by simpa using c);cases e;have:=(OH h hp (r:=r) ⟨c,hr.1⟩).2.2;have a3:r<(d.au.length:Int):=hr.1;obtain⟨a1,a2⟩:=this;exact⟨by omega,a2⟩
  cases e
 intro r m r' hr ih;by_cases c:0<=r
 .have hk:=OH h hp (r:=r) ⟨c,hr.1⟩;have t1:decide (r>=0)=true:=by simpa using c
  have e:gAt d p r=.inl ((aj d r).ay.getD (p.getD (aj d r).var.toNat 0).toNat 0):=by unfold gAt;rw[a0h t1]
  have g:=ih _ e;rw[e];have wX:gQ r d.au.length:=⟨c,hr.1⟩;exact aK hO (.b t1 (.o wX (.o wX (.o hk.1 (.o hk.2.1 (.go g))))))
 have t1:decide (r>=0)=false:=by simpa using c
 have e:gAt d p r=.inr r:=by unfold gAt;rw[a0g (by rw[t1];simp)]
 rw[e];dsimp only[CX];exact aK hO (.b t1 .ex)
theorem aa2{d:Dg}(h:BD d)(hm:d.au.length<=6000){p:List Int}(hp:mO d.aA p=true):gQ (jA (atR d p)) d.aO.length:=by
 have h0:d.root<(d.au.length:Int):=h.root.1;have ha:=UG h hp 6001 d.root (by omega) h.root;exact ha.2 ha.1
def ajo:eY aF:=bZ 98 (a2 dA ql) vA (fun p=>En p.1 p.2) (fun p=>[BD p.1,p.1.au.length<=6000,mO p.1.aA p.2=true]) ajn
theorem aoC:Gd ajo:=aoB.add fun n hO p hp=>aN hO (.w (lAt hO (hp _ (.head _)) (hp _ (.tail _ (.head _))) (hp _ (.tail _ (.tail _ (.head _))))) (.o (aa2 (hp _ (.head _)) (hp _ (.tail _ (.head _))) (hp _ (.tail _ (.tail _ (.head _))))) .rr))
open Go Tw Pv bW
theorem aa3{A:Nat->Prop}{m:List MB}{h:List HB}{l:List Int}{cs:List TV}(hr:dV X0 Qp A m h 3 l cs 0 1)(hc:cs.length=l.length):cs=l.map fun n=>TV.int .i64 n:=by
 apply aat (by simp[hc]);intro j h1 h2;have hj:j<l.length:=by omega
 have:=hr.2.2 j l[j] 0 (.int .i64 l[j]) cs[j] (a0a hj) rfl (by rw[a04];exact⟨by omega,by simp⟩);rw[this.a14];simp
theorem SA:∀l:List Int,JX (l.map fun n=>TV.int .i64 n)=some l
 | []=>rfl
 |a::l=>by simp[JX,SA l]
theorem SB{A:Nat->Prop}{m:List MB}{h:List HB}(l:List Int):dV X0 Qp A m h 3 l (l.map fun n=>TV.int .i64 n) 0 1:=by
 refine⟨fun j a _=>rfl,by simp only[a4e,agR,a3U];exact a15 _,fun j a i c v hj hi hv=>?_⟩;have rO:=(a04.1 hj).1;cases i with
 |zero=>
  have hi:some (PV.int .i64 a)=some c:=hi;cases hi;have hj:(l:List Int)[j]? = some a:=hj;rw[a3U,agR,adz,a4h,hj]at hv;have hv:some (TV.int .i64 a)=some v:=hv;cases hv;exact .int _ _
 |succ i=>have hi:([]:List (PV aF))[i]? = some c:=hi;simp at hi
theorem Kq:dB Qp 3=some 1:=by kernel_rfl
theorem a6w(n:Nat)(x:TV)(h:List HB):kM Qp T LL (n+1) (.fn 137 [] []) [x] h=Oz 137 (.fn 137 [] []) [x] h:=rfl
theorem aa4{f c:Nat}{h:List HB}{kk Ba:BK}{cs:List TV}{l:List Int}{e:Bool}(hb:h[c]? = some (.cells kk cs))(hk:zN kk true=some Ba)(QM:cs=l.map fun n=>TV.int .i64 n)(h0:0<l.length)(h1:l.length<=2^20) :
  Oz f (.fn f [] []) [.slc c 0 l.length l.length 1 e] h=some (.dG [],h.set c (.cells Ba ((fU l).map fun n=>TV.int .i64 n)),[c]):=by
 have pJ:cs.length=l.length:=by rw[QM,a4e]
 have him:JX cs=some l:=by rw[QM];exact SA l
 generalize l.length=n at *;obtain⟨j,rfl⟩:∃j,n=j+1:=⟨n-1,by omega⟩;simp only[Oz,a6g,a2d,hb,hk,him,pJ,h0,h1,adf]
theorem acy{n:Nat}{k ex:Bool}(l:List Int)(hl:l.length<=2^20):aX X0 Qp (bQ (n+1)) (.fn 137 [] []) [.own 0] [.list k ex 3 l] (.dG []) [.list k ex 3 (fU l)]:=by
 intro A m h tf rP hr hf hx;obtain⟨x,r,rfl,h1,h2⟩:=hx.inv;have:=h2.inv0;subst this;obtain⟨g1,g2⟩:=a9I hr (i:=0) (k:=k) (ex:=ex) (t:=3) (l:=l) rfl h1;have htf:=hf.Uz;subst htf;show ∃w h1 ws m1,kM Qp T LL (n+1) _ _ h=_∧_;rw[a6w];have aoD:fU ([]:List Int)=[]:=by simp[fU]
 have hE:∀h0:(l:List Int)=[],fU l=l:=fun h0=>by rw[h0];exact aoD
 rcases aeu g2 with⟨h0,rfl⟩|⟨h0,b,off,sz,cs,rfl,p0,p1,p2,p3,p4⟩|⟨p1,c,sz,e,kk,cs,rfl,p2,p3,p4,p5,p6,p7,p8,p9⟩
 .rw[hE h0];exact⟨.dG [],h,[],m,rfl,hr,.dG rfl (fun i x y hx=>by simp at hx),.refl,.refl,fun b hb=>by cases hb⟩
 .rw[hE h0];exact⟨.dG [],h,[],m,rfl,hr,.dG rfl (fun i x y hx=>by simp at hx),.refl,.refl,fun b hb=>by cases hb⟩
 rw[Kq]at p2;cases p2;have p8:cs.length=(l:List Int).length*1:=p8;have pJ:cs.length=l.length:=by omega
 have QM:=aa3 p9 pJ;have hn0:0<l.length:=by cases l with|nil=>exact absurd rfl p1|cons=>simp
 obtain⟨Ba,xH,adX,hko⟩:=II p5;have aS:=(a04.1 p4).1;have vg:(MB.dw (TV.slc c 0 l.length l.length 1 e)).own=some c:=by simp only[MB.own];rw[a0g (by omega)]
 have hsl:(fU l).length=l.length:=by unfold fU;rw[abj]
 have iy:fU l≠[]:=fun e0=>by rw[e0]at hsl;simp at hsl;omega
 obtain⟨q1,q2⟩:=hr.set (i:=0) (c:=c) (pb:=.list k ex 3 (fU l)) (hb:=.cells Ba ((fU l).map fun n=>TV.int .i64 n)) g1 vg
  (fun WE JH=>⟨_,by simp only[aV];rw[a2k aS],by
   simp only[aV,p4,a00]at JH;subst JH;rw[a4e,hsl,pJ];exact a15 _⟩)
  (fun hF=>by
   have r:=LR.some (X:=X0) (P:=Qp) (A:=AA A m) (m:=m) (k:=k) (ex:=ex) (e:=e) (t:=3) (b:=c) (kk:=Ba) iy Kq (by decide) (by rw[a2k aS]) adX (fun e0=>hko (p6 e0)) p7 (by rw[a4e,agR];rfl) (SB (fU l));have aoE:@List.length (X0.Γ 3) (fU l)=l.length:=hsl;rw[aoE]at r;exact r)
 refine⟨.dG [],_,[c],m,?_,q1,.dG rfl (fun i x y hx=>by simp at hx),q2,.refl,fun d hd=>?_⟩
 .exact aa4 p4 xH QM hn0 hl
 simp at hd;subst hd;exact bf g1 vg
end Go.Proofs.YtmobpoiejckagaaGreat
namespace Pv
open Go Tw
variable {X:kE} {P:Program}
theorem mY.aa5(hX:bM X P){call:aZ}{f:FuncId}{xs vs:List (PV X.Γ)}{v v':PV X.Γ}{ext ext':List (PB X.Γ)}(hc:mY X P call f vs v ext)(hv:views [] ([]++xs++[])=some vs)(hs:qK X 0 ext=some ext')
  (e:shift 0 v=v') (he:(if wY v||ext.any (hasB X)then aY (kH.jS ([]++xs++[])) []else [])=([]:List (PB X.Γ))):aX X P call (.fn f [] []) xs [] v' ext':=by
 subst e;intro A m h tf rP hr hf hx;have htf:=hf.Uz;subst htf;obtain⟨w,h',m1,c1,c2,c3,c4,c5⟩:=GV hX hc hr hv hs (t1:=[]) (t3:=[]) .nil hx .nil;rw[he]at c2;exact⟨w,h',[],m1,c1,c2,c3,c4,c5,fun b hb=>by cases hb⟩
end Pv
namespace Go.Proofs.YtmobpoiejckagaaGreat
open Go Tw Pv bW
abbrev lsI(l:List Int):List (PB aF):=[.list false false 3 l]
theorem a2Z(n:Nat)(h:List HB):U9 Qp T (bQ n) LL 125 [.nil .slc] h=some (.nil .slc,h,[]):=by kernel_rfl
theorem a3a(n b off cap:Nat)(ex:Bool)(h:List HB):U9 Qp T (bQ n) LL 125 [.slc b off 0 cap 1 ex] h=some (.slc h.length 0 0 0 1 true,h++[.cells .own []],[]):=by kernel_rfl
theorem aeR{n:Nat}:mY X0 Qp (bQ (n+1)) 125 [.dw 3 ([]:List Int) false] (.own 0) (lsI []):=by
 intro A h first args cap Ie hv
 obtain⟨x,r,e,h1,h2⟩:=hv.inv;have:=h2.inv0;subst this;have hun:kM Qp T LL (n+1) (.fn 125 first cap) args h=U9 Qp T (bQ n) LL 125 [x] h:=by
  rw[<-e];show kM Qp T LL (n+1) _ _ _=_;rw[kM,a0g (by decide),a0g (by decide)]
 rcases a6a h1 with rfl|⟨b,off,cap',sz,ex,cs,rfl,a1,a2,a3,a4,a5⟩
 .exact⟨.nil .slc,h,[.dw (.nil .slc)],by rw[<-a2Z n h,<-hun],X4 Ie .nil rfl,.own rfl rfl,⟨a15 _,fun _ _ _=>rfl,fun b hb=>by simp[bn,MB.own]at hb,fun b cs hc=>⟨cs,hc,a15 _⟩⟩⟩
 rw[Kq]at a3;cases a3;have hc:aV (h++[HB.cells .own []]) h.length=some []:=by unfold aV;rw[a1c (a15 _),agD];rfl
 refine⟨.slc h.length 0 0 0 1 true,h++[.cells .own []],[.dw (.slc h.length 0 0 0 1 true)],by rw[<-a3a n b off cap' ex h,<-hun],X4 (fun b hb=>Ie b (by simp at hb;omega)) (.emp ⟨Ie _ (a15 _),by simp[bn,MB.own]⟩ hc (a15 _) Kq (by decide)) (by simp[MB.own]),.own rfl rfl,⟨by simp,fun b hb _=>by rw[a0e hb],fun b hb=>by simp[bn,MB.own]at hb,fun b cs hc=>⟨cs,?_,a15 _⟩⟩⟩;rw[fM (a0e (gK hc)),hc]
def acz:eY aF:=Zt 125 (a1 ql) (fun _=>.own 0) (fun p=>lsI p) (fun p=>[p.length<=ah]) ajo
theorem ajq:Gd acz:=aoC.WY 0 fun n _ hO p hp=>by
 have hl:p.length<=ah:=hp _ (.head _);by_cases h:p=[]
 .subst h;exact aeR
 .have h2:([]:List Int).length+p.length<=ah:=by simpa using hl
  exact mY.gs hX (Bh hX (hO n (by omega)) (v:=.own 1) (H:=[.gone,.list true false 3 p]) (by kernel_rfl) (.o h (.b (rfl:false=false) (.o h2 .er)))) [.gc [1],.flag 0] rfl
abbrev aa6(m:Nat)(i:Int)(l:List Int)(x:List (Nat×PE aF)):aQ aF:=⟨[(3,xo 0),(7,xi m),(8,xi i)]++x,[],[.list true true 3 l]⟩
theorem a6x(m:Nat):aT (fun k (l:List Int)=>l.set k (k:Int)) m 0 (List.replicate m 0)=dM m:=by
 have:=dO (g:=fun k (l:List Int)=>l.set k (k:Int)) (m:=m) (k:=0) (s:=List.replicate m 0) (fun k l=>l.length=m∧∀j,j<k->l.getD j 0=(j:Int)) ⟨by simp,by simp⟩ (fun j l _ hj h=>⟨by simp[h.1],fun i hi=>by
  rw[bW.yR (by omega)];split
  .rename_i e;rw[e]
  exact h.2 i (by omega)⟩)
 rw[qY (d:=0) (by rw[this.1,l9])];intro j hj;have rO:j<m:=by have:=this.1;omega
 rw[this.2 j (by omega)];simp[dM,List.getD,a4h,afw,rO]
theorem aoF{n:Nat}{fK:eY aF}(hO:Ok n fK)(m:Nat)(hm:m<=ah):Lp n 159 0 (aa6 m 0 (List.replicate m 0) []) (.exit 0) (aa6 m m (dM m) [(9,xl false)]):=by
 rw[<-a6x];exact uy (σ:=List Int) (N:=m) (g:=fun k (l:List Int)=>l.set k (k:Int)) (s0:=List.replicate m 0) (st:=fun i (l:List Int)=>aa6 m i l []) (fin:=fun(l:List Int)=>aa6 m m l [(9,xl false)]) (fun _ (l:List Int)=>l.length=m) (by kernel_rfl) hm (by simp) (fun k l _ h=>by simp[h]) (fun k l hk hl j e p g=>aK hO (.b (aW hk) (.o (aG (show k<l.length by omega)) (.go g)))) (fun l _=>aK hO (.b (eX m) .ex))
def acA:eY aF:=bZ 159 (a1 iA) ql (fun p=>dM p.toNat) (fun p=>[0<=p,p<=(ah:Int)]) acz
theorem ajr:Gd acA:=ajq.add fun n hO p hp=>by
 have h0:0<=p:=hp _ (.head _);have h1:p<=(ah:Int):=hp _ (.tail _ (.head _));obtain⟨m,rfl⟩:∃m:Nat,p=(m:Int):=⟨p.toNat,by omega⟩;exact aN hO (.o (rfl:(m:Int)=(m:Int)) (.o h0 (.o h1 (.w (aoF hO m (by omega)) .rr))))
abbrev aeS(a b:List Int)(i:Int)(x:List (Nat×PE aF)):aQ aF:=⟨[(0,xL 3 a),(1,xL 3 b),(12,xi a.length),(13,xi i)]++x,[],[]⟩
def ajs(a b:List Int):Unit⊕Nat->Ex×aQ aF
 |.inl _=>(.exit 0,aeS a b a.length [(14,xl false)])
 |.inr _=>(.ret,⟨[(4,xl false)],[],[]⟩)
theorem ajt{n:Nat}{fK:eY aF}(hO:Ok n fK)(a b:List Int)(hl:a.length<=ah)(h:a.length=b.length):Lp n 158 0 (aeS a b 0 []) (ajs a b (bF (JY a b) a.length)).1 (ajs a b (bF (JY a b) a.length)).2:=
 iU (st:=fun i _=>aeS a b i []) (fun _ _=>True) (by kernel_rfl) hl trivial (fun k s m hk _ ih=>aK hO (.b (aW hk) (.o (aG hk) (.o (aG (h▸hk)) (.ls (.ou nofun) (.nx (ih _ trivial))))))) (fun s _=>aK hO (.b (eX a.length) (.ou nofun)))
def acB:eY aF:=bZ 158 (a2 ql ql) tA (fun p=>decide (p.1=p.2)) (fun p=>[p.1.length<=ah]) acA
theorem aju:Gd acB:=ajr.add fun n hO p hp=>aN hO (.s (fun h=>.v false (a6j h).symm) fun h=>.z (c:=jK (bF (JY p.1 p.2) p.1.length)) (fun h2=>.w (jV (ajt hO p.1 p.2 (hp _ (.head _)) (l7 h)) () h2) (.v true (by rw[<-E5 (l7 h),h2]))) fun h2=>.w (jW (ajt hO p.1 p.2 (hp _ (.head _)) (l7 h)) 0 h2) (.v false (by rw[<-E5 (l7 h),h2])))
def a6y:eY aF:=bZ 157 (a3 iA iA ql) tA (fun p=>lX p.2.2 p.1 p.2.1) (fun p=>[p.2.2.length<=ah]) acB
theorem ajv:Gd a6y:=aju.deep 3 fun n hn hO p hp=>by
 have h1:∀x,aX X0 Qp (bQ (n-3+1)) (.fn 188 [] [.ptr 0 0 1,.ptr 1 0 1]) [.int .i64 x] [.cells [.int .i64 p.1],.cells [.int .i64 p.2.1]] (tA.put (vK x p.1 p.2.1)) [.cells [.int .i64 p.1],.cells [.int .i64 p.2.1]]:=fun x=>jd fZ (first:=[]) (.ssh (fun _=>.sr) (fun _=>.sr));obtain⟨n,rfl⟩:∃k,n=k+3:=⟨n-3,by omega⟩;rw[show n+3-3+1=n+1 by omega]at h1;have h2:=ail (n:=n+2) (by omega) (g:=fun x=>vK x p.1 p.2.1) h1 p.2.2 (hp _ (.head _));exact aN (hO _ (by omega)) (.k h2 (.v (!(lW (fun x=>vK x p.1 p.2.1) p.2.2)) (by rw[DX];rfl)))
def a1g(s:List Int):Int:=aT (fun k n=>i64.wrap (n*s.getD k 0)) s.length 0 1
theorem Xl:∀{s:List Int},pR s->bC s<=12^s.length
 | [],_=>by decide
 |a::t,h=>by
  have h1:=Xl h.tail;have h2:=iZ h.tail;have h3:=h a (.head _);have h4:a*bC t<=12*bC t:=abo h3.2 (by omega);show a*bC t<=12^(t.length+1);rw[Int.pow_succ];omega
theorem ajw:∀{n:Nat},n<=6->(12:Int)^n<=2985984:=by decide
theorem a6z{s:List Int}(h:pR s)(hl:s.length<=6):a1g s=bC s:=by
 have:=dO (g:=fun k n=>i64.wrap (n*s.getD k 0)) (m:=s.length) (k:=0) (s:=1) (fun k n=>n=bC (s.take k)) (by simp[bC]) (fun j n _ hj e=>by
  have rO:j<s.length:=by omega
  have e2:bC (s.take (j+1))=n*s.getD j 0:=by
   rw[a7I rO,DZ,e];simp[bC,List.getD,a0a rO]
  have h1:=Qm h (j+1);have h2:1<=bC (s.take (j+1)):=iZ fun a ha=>h a (a9f ha);have h3:=Xl h;have h4:=ajw hl;show i64.wrap (n*s.getD j 0)=_;rw[e2]at h1 h2 ⊢;exact fH (by omega) (by omega))
 rw[a1g,this];simp
abbrev aa7(a b:List Int)(p i:Int)(x:List (Nat×PE aF)):aQ aF:=⟨[(0,xL 3 a),(1,xL 3 b),(5,xi p),(17,xL 3 a),(18,xi a.length),(19,xi i)]++x,[],[]⟩
theorem aoG{n:Nat}{fK:eY aF}(hO:Ok n fK)(a b:List Int)(hl:a.length<=ah):Lp n 105 0 (aa7 a b 1 0 []) (.exit 1) (aa7 a b (a1g a) a.length [(20,xl false)]):=
 Ov (st:=fun i n=>aa7 a b n i []) (fin:=fun n=>aa7 a b n a.length [(20,xl false)]) (fun _ _=>True) (by kernel_rfl) hl Sl trivial (fun _ _ _ _=>trivial) (fun k s hk _ n e p h=>aK hO (.b (aW hk) (.o (aG hk) (.go h)))) (fun s _=>aK hO (.b (eX a.length) .ex))
theorem aeT{n:Nat}(hO:Ok n a6y)(l:List Int)(hl:l.length<=ah):aX X0 Qp (bQ n) (.fn 125 [] []) [.dw 3 l false] [] (.own 0) (lsI l):=
 mY.aa5 hX (hO 125 [.dw 3 l false] (.own 0) (lsI l) [l.length<=ah] (by kernel_rfl) (List.forall_mem_singleton.2 hl)) rfl rfl rfl rfl
theorem a6A(n:Nat):(dM n).Pairwise fun a b=>decide (a<=b)=true:=by
 unfold dM;rw[acK];exact List.pairwise_lt_range.imp fun h=>by simp;omega
theorem a3b{n:Nat}{o:List Int}:decide (fU o=dM n)=jY n o:=by
 rw[a4u,a1X];have h2:=Sm n;have hp:(fU o).Perm o:=adh _ _;constructor
 .intro h;rw[h]at hp;unfold jY at h2 ⊢;rw[a1X]at h2 ⊢;exact⟨by rw[<-hp.length_eq,h2.1],fun a ha=>h2.2.1 a (hp.mem_iff.2 ha),hp.nodup_iff.1 h2.2.2⟩
 intro h;unfold jY at h h2;rw[a1X]at h h2;have e:o.Perm (dM n):=(a8c h.2.2 h2.2.2).2 fun a=>by
  have hm:∀x,0<=x∧x<(n:Int)->x∈dM n:=fun x hx=>by
   unfold dM;rw[a1f];exact⟨x.toNat,by rw[a4f];omega,by omega⟩
  constructor
  .exact fun ha=>hm a (h.2.1 a ha)
  intro ha;by_cases hc:a∈o
  .exact hc
  have:=adr (l₁:=a::o) (l₂:=dM n) (a4g.2 ⟨hc,h.2.2⟩) (fun x hx=>by
   rcases a1Y.1 hx with rfl|hx
   .exact ha
   exact hm x (h.2.1 x hx))
  rw[l9]at this;simp at this;omega
 refine List.Perm.eq_of_pairwise (le:=fun a b=>decide (a<=b)=true) (fun a b _ _ h1 h2=>by simp at h1 h2;omega) ?_ (a6A n) (hp.trans e);exact agw (fun a b c h1 h2=>by simp at h1 h2 ⊢;omega) (fun a b=>by simp;omega) o
def Xm(s o:List Int):Int:=if decide ((s.length:Int)>6)=true then 5 else if(!(lX s 1 12))=true then 3 else if decide (a1g s>2000)=true then 5 else if(!(decide (fU o=dM s.length)))=true then 4 else 0
theorem Xn(s o:List Int):Xm s o=dh s o:=by
 rw[OD];unfold Xm;rw[a3b];by_cases h1:6<s.length
 .rw[a0h (by simp;omega),a0h h1]
 rw[a0g (by simp;omega),a0g h1];have hw:lX s 1 12=decide (pR s):=by
  unfold lX;rw[a4u,a8x,List.any_eq_false,a1X];refine acv fun a=>acv fun _=>?_;unfold vK;split
  .rename_i h;simp at h ⊢;omega
  rename_i h;simp at h ⊢;omega
 rw[hw];by_cases h2:pR s
 .rw[a0g (by simp[h2]),a0h h2,a6z h2 (by omega)];simp only[a1X,Int.not_lt,gt_iff_lt];split
  .rfl
  cases jY s.length o<;>simp
 rw[a0h (by simp[h2]),a0g h2]
def acC:eY aF:=bZ 105 (a2 ql ql) iA (fun p=>dh p.1 p.2) (fun p=>[p.1.length<=ah,p.2.length<=2^20]) a6y
theorem ajx:Gd acC:=ajv.deep 1 fun n hn hO p hp=>by
 obtain⟨n,rfl⟩:∃k,n=k+1:=⟨n-1,by omega⟩;have hO:=hO (n+1) (by omega);have h1:p.1.length<=ah:=hp _ (.head _);have h2:p.2.length<=2^20:=hp _ (.tail _ (.head _));have h3:p.2.length<=ah:=by unfold ah;omega
 have h4:(dM p.1.length).length<=ah:=by rw[l9];exact h1
 have h5:(fU p.2).length<=ah:=by unfold fU;rw[abj];exact h3
 show mY X0 Qp _ _ _ (iA.put (dh p.1 p.2)) _;rw[<-Xn];exact aN hO (.ss .rr (.o h1 (.ss .rr (.w (aoG hO p.1 p.2 h1) (.ss .rr (.fr [] (aeT hO p.2 h3) (.fr [0] (acy (n:=n) (k:=false) (ex:=false) p.2 h2) (.o (show(0:Int)<=(p.1.length:Int) by omega) (.o (show(p.1.length:Int)<=(ah:Int) by omega) (.o h5 (.ss .rr .rr)))))))))))
open Go Tw Pv bW
theorem Xo{α:Type}(x:α):[x].length<=ah:=by unfold ah;simp
def qm(v:V):Bool:=if decide (v.f>0)=true then(if decide (v.f<=4)=true then v.n==0 else false)else lX [v.n] (-9999) 9999
def acD:eY aF:=bZ 190 (a1 vA) tA (fun p=>qm p) np acC
theorem ajy:Gd acD:=ajx.add fun n hO p hp=>aN hO (.ss (.ss .rr .rr) (.o (Xo p.n) .rr))
abbrev frA:Ux X0 Qp (List Int×List Int):=a2 ql ql
abbrev cIx(l:List Int)(v:Int)(k:Nat):Bool:=v==l.getD k 0
abbrev aeU(l:List Int)(v:Int)(i:Int)(x:List (Nat×PE aF)):aQ aF:=⟨[(0,xL 3 l),(1,xi v),(7,xi l.length),(8,xi i)]++x,[],[]⟩
def z234(l:List Int)(v:Int):Unit⊕Nat->Ex×aQ aF
 |.inl _=>(.exit 0,aeU l v l.length [(9,xl false)])
 |.inr k=>(.ret,⟨[(4,xi k)],[],[]⟩)
theorem ajz{n:Nat}{fK:eY aF}(hO:Ok n fK)(l:List Int)(v:Int)(hl:l.length<=ah):Lp n 234 0 (aeU l v 0 []) (z234 l v (bF (cIx l v) l.length)).1 (z234 l v (bF (cIx l v) l.length)).2:=
 iU (st:=fun i _=>aeU l v i []) (fun _ _=>True) (by kernel_rfl) hl trivial (fun k s m hk _ ih=>aK hO (.b (aW hk) (.o (aG hk) (.ls (.ou nofun) (.nx (ih _ trivial)))))) (fun s _=>aK hO (.b (eX l.length) (.ou nofun)))
def mV(l:List Int)(v:Int):Int:=if jK (bF (cIx l v) l.length)=true then -1 else((CW 0 (bF (cIx l v) l.length):Nat):Int)
def acF:eY aF:=bZ 234 (a2 ql iA) iA (fun p=>mV p.1 p.2) (fun p=>[p.1.length<=ah]) acD
theorem ajA:Gd acF:=ajy.add fun n hO p hp=>aN hO (.zh (fun h=>.w (jV (ajz hO p.1 p.2 (hp _ (.head _))) () h) .rr) fun h=>.w (jW (ajz hO p.1 p.2 (hp _ (.head _))) 0 h) .rr)
def acG:eY aF:=bZ 223 (a2 (a5W (a2 ql ql)) iA) iA (fun p=>mV p.1.2 p.2) (fun p=>[p.1.2.length<=ah]) acF
theorem ajB:Gd acG:=ajA.add fun n hO p hp=>aN hO (.o (hp _ (.head _)) .rr)
def acH:eY aF:=bZ 197 (a1 iA) iA (fun p=>i64.wrap (-1-p)) np acG
theorem ajC:Gd acH:=ajB.add fun n hO p hp=>aN hO .rr
structure Lo where
 s:List Int
 o:List Int
 d:Dg
abbrev Lo.ps(l:Lo):List (PV aF):=[.dw 3 l.s false,.dw 3 l.o false]++l.d.ps
def loA:Arg Lo:=aeo (a5W (KL ql (KL ql (KL ql (a4 ql Zv a9N iA))))) (fun p=>⟨p.1,p.2.1,⟨p.2.2.1,p.2.2.2.1,p.2.2.2.2.1,p.2.2.2.2.2.1,p.2.2.2.2.2.2⟩⟩) (fun l=>(l.s,l.o,l.d.aA,l.d.aH,l.d.aO,l.d.au,l.d.root)) fun _=>rfl
def pI(l:Lo)(Aq below KO:Int):Bool:=if decide (Aq<0)=true then decide (i64.wrap (-1-Aq)<(l.d.aO.length:Int))else if decide (Aq<below)=true then decide (mV l.o (l.d.au.getD Aq.toNat mQ).var>KO)else false
def Xp:eY aF:=bZ 193 (a4 loA iA iA iA) tA (fun p=>pI p.1 p.2.1 p.2.2.1 p.2.2.2) (fun p=>[p.1.o.length<=ah,0<=p.2.1->p.2.1<p.2.2.1->gQ p.2.1 p.1.d.au.length]) acH
theorem ajD:Gd Xp:=ajC.add fun n hO p hp=>aN hO (.sh (fun _=>.rr) fun h=>.sh (fun h2=>.o (hp (0<=p.2.1->p.2.1<p.2.2.1->gQ p.2.1 p.1.d.au.length) (.tail _ (.head _)) (by simpa using h) (by simpa using h2)) (.o (hp _ (.head _)) .rr)) fun _=>.rr)
abbrev Hb(l:Lo)(i:Int)(b:Br):List (PB aF):=[.cells l.ps,.cells [.int .i64 i],.cells b.ps]
theorem aoH{n f:Nat}{a c:List (PV aF)}{H:List (PB aF)}{g:Int->Bool}(l:List Int)(hf:∀x∈l,aX X0 Qp (bQ n) (.fn f a c) [.int .i64 x] H (.bool (g x)) H)(hl:l.length<=ah):aX X0 Qp (bQ (n+1)) (.fn 218 [] []) [.dw 3 l false,.fn f a c] H (iA.put (qR g l)) H:=by
 have lp:OB n 218 0 H.length (a6i f a c H l 0 []) (z218 f a c H l (lS (oU g) l 0 ())).1 (z218 f a c H l (lS (oU g) l 0 ())).2:=
  WW (st:=fun i _=>a6i f a c H l i []) (0:Int) (fun _ _=>True) (by kernel_rfl) hl Sl trivial (fun k s n hk _ ih=>aK fZ (.b (aW hk) (.o (aG hk) (.k (hf (l.getD k (0:Int)) (dW hk)) (.ls (.ou nofun) (.nx (ih _ trivial))))))) (fun s _=>aK fZ (.b (eX l.length) (.ou nofun)))
 exact jd fZ (first:=[]) (cap:=[]) (.szh (fun h=>.w (jV lp () h) .sr) (fun h=>.w (jW lp (0,0,()) h) .sr))
theorem ajE{n f:Nat}{a c:List (PV aF)}{H:List (PB aF)}{g:Int->Bool}(l:List Int)(hf:∀x∈l,aX X0 Qp (bQ n) (.fn f a c) [.int .i64 x] H (.bool (g x)) H)(hl:l.length<=ah):aX X0 Qp (bQ (n+2)) (.fn 181 [] []) [.dw 3 l false,.fn f a c] H (tA.put (l.any g)) H:=by
 have h1:=aoH l hf hl;have h2:=DX g l;rw[<-h2];exact jd fZ (first:=[]) (cap:=[]) (.k h1 .sr)
theorem E8{α:Type}(l:List α)(g:α->Bool):(!(l.any fun x=>!(g x)))=l.all g:=by
 induction l with
 |nil=>rfl
 |cons a l ih=>simp only[ado,abJ,Bool.not_or,Bool.not_not,ih]
abbrev pB:List (PV aF):=[.ptr 0 0 7,.ptr 1 0 1,.ptr 2 0 2]
theorem aoI{n f:Nat}{l:Lo}{i:Int}{b:Br}{g:Int->Bool}(ks:List Int)(hf:∀x∈ks,aX X0 Qp (bQ n) (.fn f [] pB) [.int .i64 x] (Hb l i b) (tA.put (g x)) (Hb l i b))(hl:ks.length<=ah):aX X0 Qp (bQ (n+4)) (.fn 191 [] []) [.dw 3 ks false,.fn f [] pB] (Hb l i b) (tA.put (ks.all g)) (Hb l i b):=by
 have h1:∀x∈ks,aX X0 Qp (bQ (n+1)) (.fn 221 [] [.ptr 3 0 1]) [.int .i64 x] (Hb l i b++[.cells [.fn f [] pB]]) (tA.put (!(g x))) (Hb l i b++[.cells [.fn f [] pB]]):=fun x hx=>
  jd fZ (first:=[]) (.fr [0,1,2] (hf x hx) .sr)
 have h2:=ajE ks h1 hl;rw[<-E8 ks g];exact aX.drop hX (CV hX fZ (first:=[]) (cap:=[]) (H1:=Hb l i b++[.cells [.fn f [] pB]]) (by kernel_rfl) (.k h2 .sr)) rfl rfl
theorem a1h{x a b:Int}:lX [x] a b=decide (a<=x∧x<=b):=by
 unfold lX vK;simp only[ado,List.any_nil,Bool.or_false];by_cases h:x<a
 .rw[a0h (by simpa using h),a8D,eq_comm,a2W];omega
 rw[a0g (by simpa using h),a4u,a8x,a2W,a1X];omega
theorem Xq{l:List Br}{k:Nat}(h:k<l.length):l.getD k mQ∈l:=by simp[List.getD,a0a h]
abbrev wI(l:Lo)(i:Int):Br:=l.d.au.getD i.toNat mQ
def FH(l:Lo)(i:Int):Bool:=if(!(lX [(wI l i).var] 0 (xw l.s)))=true then false else if(((wI l i).ay.length:Int) != l.s.getD (wI l i).var.toNat 0)=true then false else(wI l i).ay.all fun x=>pI l x i (mV l.o (wI l i).var)
theorem ajF{n:Nat}(hO:∀m,n<=m->Ok m Xp){l:Lo}{i:Int}(ho:l.o.length<=ah)(hf:wE l.s)(hi:gQ i l.d.au.length):aX X0 Qp (bQ (n+6)) (.fn 192 [.agg l.ps] []) [.int .i64 i] [] (tA.put (FH l i)) []:=by
 have h1:∀x∈(wI l i).ay,aX X0 Qp (bQ (n+1)) (.fn 222 [] pB) [.int .i64 x] (Hb l i (wI l i)) (tA.put (pI l x i (mV l.o (wI l i).var))) (Hb l i (wI l i)):=fun x _=>
  jd (hO n (a15 _)) (first:=[]) (.o ho (.o ho (.o (show 0<=x->x<i->gQ x l.d.au.length from fun h0 h1=>⟨h0,by have:=hi.1;have:=hi.2;omega⟩) .sr)))
 have hv:(!(lX [(wI l i).var] 0 (xw l.s)))=false->gQ (wI l i).var l.s.length:=fun h=>by
  rw[a1h,abB,a1X,a6k hf.aii]at h;exact⟨h.1,by omega⟩
 have hk:(!(lX [(wI l i).var] 0 (xw l.s)))=false->(((wI l i).ay.length:Int) != l.s.getD (wI l i).var.toNat 0)=false->(wI l i).ay.length<=ah:=fun h h2=>by
  have h3:=hv h;have h4:=hf.sz _ (dW (s:=l.s) (k:=(wI l i).var.toNat) (by have:=h3.2;have:=h3.1;omega));have h2:((wI l i).ay.length:Int)=l.s.getD (wI l i).var.toNat 0:=by simpa using h2
  exact m12 (by omega)
 exact aX.drop hX (CV hX (hO (n+5) (by omega)) (first:=[.agg l.ps]) (cap:=[]) (H1:=Hb l i (wI l i)++[.list true true 3 [(wI l i).var]]) (by kernel_rfl) (.o hi (.o (Xo (wI l i).var) (.ssh (fun _=>.sr) fun h5=>.o (hv h5) (.ssh (fun _=>.sr) fun h6=>.fr [0,1,2] (aoI (wI l i).ay h1 (hk h5 h6)) .sr))))) rfl rfl
abbrev a3c(f:Nat)(a:List (PV aF)):List (PB aF):=[.cells [.fn f a []]]
theorem ajG{n:Nat}{l:Lo}{g:Int->Bool}(ks:List Int)(hf:∀x∈ks,aX X0 Qp (bQ n) (.fn 192 [.agg l.ps] []) [.int .i64 x] [] (tA.put (g x)) [])(hl:ks.length<=ah):aX X0 Qp (bQ (n+4)) (.fn 191 [] []) [.dw 3 ks false,.fn 192 [.agg l.ps] []] [] (tA.put (ks.all g)) []:=by
 have h1:∀x∈ks,aX X0 Qp (bQ (n+1)) (.fn 221 [] [.ptr 0 0 1]) [.int .i64 x] (a3c 192 [.agg l.ps]) (tA.put (!(g x))) (a3c 192 [.agg l.ps]):=fun x hx=>
  jd fZ (first:=[]) (.fr [] (hf x hx) .sr)
 have h2:=ajE ks h1 hl;rw[<-E8 ks g];exact aX.drop hX (CV hX fZ (first:=[]) (cap:=[]) (H1:=a3c 192 [.agg l.ps]) (by kernel_rfl) (.k h2 .sr)) rfl rfl
theorem aoJ{n:Nat}(hO:Ok n Xp)(l:List V)(hl:l.length<=ah):aX X0 Qp (bQ (n+4)) (.fn 189 [] []) [.dw 39 l false,.fn 190 [] []] [] (tA.put (l.all qm)) []:=by
 have h1:∀x:V,aX X0 Qp (bQ (n+1)) (.fn 220 [] [.ptr 0 0 1]) [.agg x.ps] (a3c 190 []) (tA.put (!(qm x))) (a3c 190 []):=fun x=>
  jd hO (first:=[]) .sr
 have h2:=aeH (n:=n+2) (by omega) (g:=fun x=>!(qm x)) h1 l hl;rw[<-E8 l,<-IW];exact aX.drop hX (CV hX fZ (first:=[]) (cap:=[]) (H1:=a3c 190 []) (by kernel_rfl) (.k h2 .sr)) rfl rfl
theorem aoK{n:Nat}(hO:Ok n Xp)(m:Nat)(hm:m<=ah):aX X0 Qp (bQ n) (.fn 159 [] []) [.int .i64 m] [] (ql.put (dM m)) []:=
 mY.aa5 hX (hO 159 [.int .i64 m] (ql.put (dM m)) [] [0<=(m:Int),(m:Int)<=(ah:Int)] (by kernel_rfl) (by
  intro q hq;rcases a1Y.1 hq with rfl|hq
  .omega
  .rw[a2I.1 hq];omega)) rfl rfl rfl rfl
theorem a1i{x:Int}{m:Nat}(h:x∈dM m):gQ x m:=by
 simp only[dM,a1f,a4f]at h;obtain⟨k,hk,rfl⟩:=h;exact aG hk
abbrev yG(d:Dg):Lo:=⟨d.aA,d.aH,d⟩
abbrev lo0:Lo:=⟨[],[],⟨[],[],[],[],0⟩⟩
def bD(d:Dg):Lo×Int:=if(dh d.aA d.aH != 0)=true then(lo0,dh d.aA d.aH)else if decide ((d.au.length:Int)>6000)=true then(yG d,5)else if(!(d.aO.all qm))=true then(yG d,4)else if(!((dM d.au.length).all (FH (yG d))))=true then(yG d,4)else if(!(pI (yG d) d.root d.au.length (-1)))=true then(yG d,4)else(yG d,0)
def Df:eY aF:=bZ 160 (a1 dA) (dP (a2 loA iA)) (fun p=>bD p) (fun p=>[p.aA.length<=ah,p.aH.length<=2^20,p.aO.length<=ah]) Xp
theorem acI:Gd Df:=ajD.deep 11 fun n hn hO d hp=>by
 obtain⟨n,rfl⟩:∃k,n=k+10:=⟨n-10,by omega⟩;have h1:d.aA.length<=ah:=hp _ (.head _);have h2:d.aH.length<=2^20:=hp _ (.tail _ (.head _));have h3:d.aO.length<=ah:=hp _ (.tail _ (.tail _ (.head _)));have ho:d.aH.length<=ah:=by unfold ah;omega
 have hO:∀m,n<=m->Ok m _:=fun m hm=>hO m (by omega);have hI:(dh d.aA d.aH != 0)=false->∀x∈dM d.au.length,aX X0 Qp (bQ (n+6)) (.fn 192 [.agg (yG d).ps] []) [.int .i64 x] [] (tA.put (FH (yG d) x)) []:=fun h x hx=>ajF hO (l:=yG d) ho (Ap h) (a1i hx);have hR:0<=d.root->d.root<(d.au.length:Int)->gQ d.root d.au.length:=fun a b=>⟨a,by omega⟩;have hL:decide ((d.au.length:Int)>6000)=false->(dM d.au.length).length<=ah:=fun h=>by rw[l9];exact UF h
 exact aN (hO (n+10) (by omega)) (.o h1 (.o h2 (.sh (fun _=>.rn (.dG [.agg [.nil .slc,.nil .slc,.nil .slc,.nil .slc,.nil .slc,.nil .slc,.int .i64 0],.int .i64 (dh d.aA d.aH)]) rfl) fun h=>.sh (fun _=>.rr) fun h4=>.fr [] (aoJ (n:=n+6) (hO (n+6) (by omega)) d.aO h3) (.ss .rr (.fr [] (aoK (hO (n+10) (by omega)) d.au.length (UF h4)) (.fr [] (ajG (l:=yG d) (n:=n+6) (dM d.au.length) (hI h) (hL h4)) (.ss .rr (.o ho (.o hR (.ss .rr .rr))))))))))
open Go Tw Pv bW
def KP(x:Int):Prop:=-(2^63)<=x∧x<2^63
structure Ih(d:Dg):Prop where
 Aq:∀i,i<d.au.length->∀k,k<(fC d i).ay.length->KP ((fC d i).ay.getD k 0)
 root:KP d.root
 fault:∀v∈d.aO,0<=v.f
theorem mF{n:Nat}{o:List Int}(h:jY n o=true){v:Int}(hv:gQ v n):v∈o:=by
 unfold jY at h;rw[a1X]at h;obtain⟨h0,h1⟩:=hv;by_cases hc:v∈o
 .exact hc
 have:=adr (l₁:=v::o) (l₂:=dM n) (a4g.2 ⟨hc,h.2.2⟩) (fun x hx=>by
  have:0<=x∧x<(n:Int):=by
   rcases a1Y.1 hx with rfl|hx
   .exact⟨h0,by omega⟩
   exact h.2.1 x hx
  unfold dM;rw[a1f];exact⟨x.toNat,by rw[a4f];omega,by omega⟩)
 rw[l9]at this;simp at this;omega
theorem rC{l:List Int}{k:Nat}(h:k<l.length):l.getD k 0=l[k]:=by simp[List.getD,a0a h]
theorem a1j{l:List Int}{v:Int}(h:v∈l):jK (bF (cIx l v) l.length)=false:=by
 cases e:jK (bF (cIx l v) l.length)
 .rfl
 obtain⟨j,hj,e2⟩:=a4E.1 h;have:=dI.1 e j hj;simp[cIx,List.getD,a0a hj,e2]at this
theorem a6B{d:Dg}{r:Int}:OE d r=cIx d.aH (aj d r).var:=by
 funext k;exact BEq.comm
theorem UH{d:Dg}{r:Int}(h0:0<=r)(h:(aj d r).var∈d.aH):sW d r=mV d.aH (aj d r).var:=by
 unfold sW mV;rw[a0g (by rw[a1X];omega),a6B,a1j h,a0g (by decide),a0g (by decide)]
theorem ajH{l:List Int}{v:Int}(h:v∈l):mV l v<(l.length:Int):=by
 unfold mV;rw[a1j h,a0g (by simp)];obtain⟨j,h1,_,_,h2⟩:=DY (a1j h);rw[h2];show(j:Int)<_;omega
theorem OI{x a b:Int}:lX [x] a b=kY x a b:=by
 rw[a1h,a4u,qZ,a1X]
theorem a6C{v:V}(h:0<=v.f):qm v=vOk v:=by
 rw[aeK h];unfold qm vIs;rw[OI]
theorem aeV{z:Int}(h:KP z):i64.wrap z=z:=by
 obtain⟨h0,h1⟩:=h;simp only[IntKind.wrap,IntKind.bits,IntKind.signed];rcases Int.lt_or_le z 0 with h|h
 .have:z%(2^64:Int)=z+2^64:=by
   have:=acf z (2^64) 1;rw[acX]at this;rw[<-this];exact a8w (by omega) (by omega)
  simp only[this];rw[a0h (by simp;omega)];omega
 have:z%(2^64:Int)=z:=a8w h (by omega);simp only[this];rw[a0g (by simp;omega)]
theorem LV{x:Int}(h:KP x)(h0:x<0):i64.wrap (-1-x)=-1-x:=by
 have h1:=h.1;exact aeV ⟨by omega,by omega⟩
theorem aa8{d:Dg}{x:Int}(below:Int)(h:KP x)(h0:x<0)(he:d.aO.length<=ah):iJ d x below=decide (i64.wrap (-1-x)<(d.aO.length:Int)):=by
 have he:d.aO.length<=2^60:=by unfold ah at he;omega
 unfold iJ;rw[a0g (by simp;omega),LV h h0,a4u,qZ,a1X];by_cases h1:d.aO.length=0
 .rw[h1,show i64.wrap (((0:Nat):Int)-1)=-1 by decide];omega
 rw[fH (by omega) (by omega)];omega
theorem ajI{l:List Int}{v:Int}(h:v∈l):0<=mV l v:=by
 unfold mV;rw[a1j h,a0g (by simp)];omega
theorem aeW{d:Dg}{x below KO:Int}(h0:0<=x)(hv:x<below->(aj d x).var∈d.aH):pI (yG d) x below KO=(iJ d x below&&decide (KO<sW d x)):=by
 unfold pI iJ;rw[a0g (show ¬(decide (x<0)=true) by rw[a1X];omega),a0h (show decide (x>=0)=true by rw[a1X];omega)];by_cases h1:x<below
 .rw[a0h (show decide (x<below)=true by rw[a1X];exact h1),UH h0 (hv h1),decide_eq_true h1,abq]
 rw[a0g (show ¬(decide (x<below)=true) by rw[a1X];exact h1),afZ h1,agt]
theorem aeX{d:Dg}{x below KO:Int}(h:KP x)(h0:x<0)(he:d.aO.length<=ah)(hr:KO<(d.aH.length:Int)):pI (yG d) x below KO=(iJ d x below&&decide (KO<sW d x)):=by
 rw[aa8 _ h h0 he];unfold pI sW;rw[a0h (by rw[a1X];exact h0),a0h (by rw[a1X];exact h0),decide_eq_true hr,agT]
theorem a6D{d:Dg}{x below KO:Int}(h:KP x)(he:d.aO.length<=ah)(hr:KO<(d.aH.length:Int))(hv:0<=x->x<below->(aj d x).var∈d.aH):pI (yG d) x below KO=(iJ d x below&&decide (KO<sW d x)):=by
 by_cases h0:0<=x
 .exact aeW h0 (hv h0)
 exact aeX h (by omega) he hr
theorem a6E{d:Dg}(h:Ih d)(he:d.aO.length<=ah)(hv:∀r,gQ r d.au.length->(aj d r).var∈d.aH):pI (yG d) d.root d.au.length (-1)=iJ d d.root d.au.length:=by
 rw[a6D h.root he (by omega) (fun a b=>hv _ ⟨a,by omega⟩)];cases e:iJ d d.root d.au.length
 .rfl
 rw[abq,a1X];by_cases h0:0<=d.root
 .have:=Xi e h0 (a15 _);rw[UH h0 (hv _ this)];have:=ajI (hv _ this);omega
 unfold sW;rw[a0h (by rw[a1X];omega)];omega
theorem acJ{d:Dg}(h:Ih d)(he:d.aO.length<=ah){i:Nat}(hi:i<d.au.length)(hf:wE d.aA)(ho:jY d.aA.length d.aH=true)(hv:∀j,j<i->(fC d j).var∈d.aH):FH (yG d) i=!(Zy d i):=by
 have e0:wI (yG d) i=fC d i:=rfl;unfold FH Zy;rw[e0];show(if(!(lX [(fC d i).var] 0 (xw d.aA)))=true then false else if(((fC d i).ay.length:Int) != d.aA.getD (fC d i).var.toNat 0)=true then false else _)=_;rw[OI];cases e1:kY (fC d i).var 0 (xw d.aA)
 .rfl
 have hvi:(fC d i).var∈d.aH:=mF ho (J6 hf e1);have aoL:(aj d (i:Int)).var∈d.aH:=hvi;simp only[a8D,a2c,a2Y];split
 .rfl
 have F9:((fC d i).ay.all fun x=>pI (yG d) x i (mV (yG d).o (fC d i).var))=jK (bF (cLk d i) (fC d i).ay.length):=by
  rw[a4u,a4s,dI];have hk:∀k,k<(fC d i).ay.length->(pI (yG d) ((fC d i).ay.getD k 0) i (mV d.aH (fC d i).var)=true↔cLk d i k=false):=fun k hk=>by
   rw[a6D (h.Aq i hi k hk) he (ajH hvi) (fun a b=>hv _ (by omega)),a2m,a1X];unfold cLk;rw[show sW d (i:Int)=mV d.aH (fC d i).var from UH (by omega) aoL];cases iJ d ((fC d i).ay.getD k 0) i
   .simp
   simp<;>omega
  constructor
  .intro a k JG;exact(hk k JG).1 (a _ (dW JG))
  intro a x hx;obtain⟨k,JG,rfl⟩:=a4E.1 hx;have:=(hk k JG).2 (a k JG);rw[rC JG]at this;exact this
 rw[F9];cases jK (bF (cLk d i) (fC d i).ay.length)<;>rfl
theorem aeY{d:Dg}(h:Ih d)(he:d.aO.length<=ah)(hf:wE d.aA)(ho:jY d.aA.length d.aH=true):(dM d.au.length).all (FH (yG d))=jK (bF (Zy d) d.au.length):=by
 have ajJ:∀i,Zy d i=false->(fC d i).var∈d.aH:=fun i hc=>by
  unfold Zy at hc;split at hc
  .cases hc
  rename_i e;exact mF ho (J6 hf (by simpa using e))
 have key:∀i,i<=d.au.length->((∀j,j<i->FH (yG d) j=true)↔∀j,j<i->Zy d j=false):=by
  intro i
  induction i with
  |zero=>intro _;exact⟨fun _ j hj=>absurd hj (by omega),fun _ j hj=>absurd hj (by omega)⟩
  |succ i ih=>
   intro hi;have ih:=ih (by omega);constructor
   .intro a;have b:=ih.1 fun j hj=>a j (by omega);intro j hj;by_cases hji:j<i
    .exact b j hji
    have:j=i:=(by omega);subst this;have:=a j (by omega);rw[acJ h he (by omega) hf ho (fun k hk=>ajJ k (b k hk))]at this;simpa using this
   intro b j hj;by_cases hji:j<i
   .exact ih.2 (fun k hk=>b k (by omega)) j hji
   have:j=i:=(by omega);subst this;rw[acJ h he (by omega) hf ho (fun k hk=>ajJ k (b k (by omega))),b j (by omega)];rfl
 rw[a4u,a4s,dI,<-key _ (a15 _)];constructor
 .intro a j hj;exact a _ (by unfold dM;rw[a1f];exact⟨j,a4f.2 hj,rfl⟩)
 intro a x hx;simp only[dM,a1f,a4f]at hx;obtain⟨k,hk,rfl⟩:=hx;exact a k hk
theorem aa9{d:Dg}(h:∀v∈d.aO,0<=v.f):d.aO.all qm=jK (bF (cLe d) d.aO.length):=by
 rw[a4u,a4s,dI];have hg:∀k,(hk:k<d.aO.length)->d.aO.getD k V0=d.aO[k]:=fun k hk=>by simp[List.getD,a0a hk]
 constructor
 .intro a k hk;unfold cLe;rw[hg k hk,<-a6C (h _ (a4w hk)),a _ (a4w hk)];rfl
 intro a x hx;obtain⟨k,hk,rfl⟩:=a4E.1 hx;have:=a k hk;unfold cLe at this;rw[hg k hk,<-a6C (h _ hx)]at this;simpa using this
theorem J8{d:Dg}(h:Ih d)(he:d.aO.length<=ah):bD d=(if(dh d.aA d.aH != 0)=true then lo0 else yG d,bG d):=by
 unfold bD bG;split
 .rfl
 rename_i h1;have W9:=lT.1 (show dh d.aA d.aH=0 by simpa using h1);split
 .rfl
 unfold lq;rw[aa9 h.fault,aeY h he W9.1 W9.2];cases e1:jK (bF (cLe d) d.aO.length)
 .rfl
 cases e2:jK (bF (Zy d) d.au.length)
 .rfl
 have hv:∀r,gQ r d.au.length->(aj d r).var∈d.aH:=fun r hr=>by
  have:=dI.1 e2 r.toNat (by have:=hr.1;have:=hr.2;omega);unfold Zy at this;split at this
  .cases this
  rename_i e;exact mF W9.2 (J6 W9.1 (by simpa using e))
 rw[a6E h he hv];simp only[a8D,a2c,a2Y,a2d];cases iJ d d.root d.au.length<;>rfl
end Go.Proofs.YtmobpoiejckagaaGreat
namespace Pv
open Go Tw
structure oD(X:kE)(P:Program)(kt:TypeId)(α:Type)[DecidableEq α] where
 pv:α->PV X.Γ
 tv:α->TV
 v:α->Value
 hp:∀x,pz (pv x)=some (tv x)
 ht:∀x,(tv x).yg=some (v x)
 hc:∀em x,aB P (Instr.checkKey em 10000 kt (v x))=some ()
 hf:∀(x:α) (l:List α),aB P (Instr.findKey kt (v x) (l.map fun y=>⟨v y,.bool false,0⟩))=some ((l.findIdx? fun y=>decide (x=y)).map fun i=>(i,.bool false))
 hk:∃kind,aB P (underlying kt)=some kind∧((∀x y,Instr.sameNow kind (v x) (v y)=some (decide (x=y)))∨∀x y,Instr.sameNow kind (v x) (v y)=none∧aB P (Op.equal kt (v x) (v y))=some (decide (x=y)))
variable {X:kE} {P:Program} {kt:TypeId} {α:Type} [DecidableEq α] (C:oD X P kt α)
abbrev oD.es(l:List (α×PV X.Γ)):List (PV X.Γ×PV X.Γ):=l.map fun e=>(C.pv e.1,e.2)
theorem oD.tvs:∀l:List α,Tw.Bq (l.map C.tv)=some (l.map C.v)
 | []=>rfl
 |a::l=>by
  show(match(C.tv a).yg,Tw.Bq (l.map C.tv)with|some v,some vs=>some (v::vs)|_,_=>none)=_;rw[C.ht,oD.tvs l];rfl
theorem oD.find(x:α)(l:List α)(r:Option Nat)(hr:(l.findIdx? fun y=>decide (x=y))=r)(hs:∀(i:Nat) y,l[i]? = some y->decide (x=y)=(some i==r)):uQ P kt (C.v x) (l.map C.tv)=some r:=by
 unfold uQ;rw[C.tvs];simp only[];rw[bI,C.hc,a4k,a7U];show(match aB P (Instr.findKey kt (C.v x) (l.map fun y=>⟨C.v y,.bool false,0⟩))with|some r=>if Vy P kt (C.v x) (l.map C.v) (Option.map (fun(q:Nat×Value)=>q.1) r)then some (Option.map (fun(q:Nat×Value)=>q.1) r)else none|none=>none)=_;rw[C.hf,hr];have e:Option.map (fun(q:Nat×Value)=>q.1) (r.map fun i=>(i,Value.bool false))=r:=by cases r<;>rfl
 simp only[e];rw[a0h];obtain⟨kind,h1,h2⟩:=C.hk;simp only[Vy,h1,a2m,a8O,a4s];constructor
 .cases r with
  |none=>rfl
  |some j=>
   have:=(a9Z.1 hr).1;simpa using this
 have hz:∀p∈(l.map C.v).zipIdx,∃y,p.1=C.v y∧decide (x=y)=(some p.2==r):=fun p hp=>by
  have:=a9g.1 hp;rw[a4h,a09]at this;obtain⟨y,hy,e⟩:=this;exact⟨y,e.symm,hs _ _ hy⟩
 rcases h2 with h2|h2
 .left;intro p hp;obtain⟨y,e1,e2⟩:=hz p hp;rw[e1,h2,e2];simp
 right;intro p hp;obtain⟨y,e1,e2⟩:=hz p hp;rw[e1,(h2 x y).1,(h2 x y).2,e2];simp
theorem oD.pk:∀l:List (α×PV X.Γ),uP X (C.es l)=some ((l.map (·.1)).map C.tv)
 | []=>rfl
 |a::l=>by
  show(match pz (C.pv a.1),uP X (C.es l)with|some v,some vs=>some (v::vs)|_,_=>none)=_;rw[C.hp,oD.pk l];rfl
theorem oD.ck(x:α):∃kv,(C.tv x).yg=some kv∧aB P (Instr.checkKey false 10000 kt kv)=some ():=⟨C.v x,C.ht x,C.hc false x⟩
theorem oD.fresh{l:List (α×PV X.Γ)}{x:α}(h:x∉l.map (·.1)):nD X P kt (C.es l) (C.tv x):=by
 refine⟨C.v x,_,C.ht x,C.pk l,?_⟩;have hno:∀y∈l.map (·.1),decide (x=y)=false:=fun y hy=>by
  simp only[a2W];intro e;exact h (e▸hy)
 exact C.find x _ none (List.findIdx?_eq_none_iff.2 hno) fun i y hy=>by rw[hno y (a4l hy)];rfl
theorem oD.found{l:List (α×PV X.Γ)}{x:α}{v:PV X.Γ}(hn:(l.map (·.1)).Nodup)(h:(x,v)∈l):pO X P kt (C.es l) (C.tv x) v:=by
 obtain⟨j,hj,e⟩:=a4E.1 h;refine⟨C.v x,_,j,C.pv x,C.ht x,C.pk l,?_,?_⟩
 .have hxj:(l.map (·.1))[j]? = some x:=by simp[a0a hj,e]
  have hu:∀(i:Nat) y,(l.map (·.1))[i]? = some y->decide (x=y)=(some i==some j):=fun i y hy=>by
   rw[a4u];simp only[a1X,a88,a00];constructor
   .rintro rfl;have i1:=a04.1 hy;have i2:=a04.1 hxj;exact(aao hn (h₀:=i1.1) (h₁:=i2.1)).1 (i1.2.trans i2.2.symm)
   rintro rfl;rw[hxj]at hy;exact a8Q hy
  refine C.find x _ (some j) ?_ hu;rw[a9Z];refine⟨by simpa using hj,by simp[e],fun i hi=>?_⟩;have hil:i<(l.map (·.1)).length:=by simp;omega
  rw[hu i _ (a0a hil)];simp;omega
 simp[oD.es,a0a hj,e]
theorem J9{t:TypeId}{d:TypeDesc}(h:P.underlying t=some d):aB P (underlying t)=some d:=by
 simp only[underlying,bI];show Option.bind (some P) _=_;simp[h];rfl
theorem Zz{v:α->Value}(he:∀x y,aB P (Op.equal kt (v x) (v y))=some (decide (x=y)))(x:α):∀(l:List α) (i:Nat),aB P (Instr.findAsking kt (v x) (l.map fun y=>⟨v y,.bool false,0⟩) i)=some ((l.findIdx? fun y=>decide (x=y)).map fun j=>(j+i,.bool false))
 | [],i=>rfl
 |y::l,i=>by
  simp only[a3Z,Instr.findAsking];rw[bI,he,a4k,List.findIdx?_cons];cases decide (x=y)with
  |true=>simp only[a2d,a0T,a3U];rfl
  |false=>
   simp only[a2c,a2Y];rw[Zz he x l (i+1)];cases l.findIdx? fun y=>decide (x=y)with
   |none=>rfl
   |some j=>simp;omega
theorem a1k{v:α->Value}{fs:Array Field}(hu:P.underlying kt=some (.struct fs))(he:∀x y,aB P (Op.equal kt (v x) (v y))=some (decide (x=y)))(x:α)(l:List α):aB P (Instr.findKey kt (v x) (l.map fun y=>⟨v y,.bool false,0⟩))=some ((l.findIdx? fun y=>decide (x=y)).map fun i=>(i,.bool false)):=by
 have h:=Zz he x l 0;unfold Instr.findKey;rw[bI,J9 hu,a4k];cases l with
 |nil=>rfl
 |cons y l=>
  rw[show Instr.findNow (.struct fs) (v x) ((y::l).map fun y=>⟨v y,.bool false,0⟩) 0=none by simp[Instr.findNow,Instr.sameNow]];exact h
theorem a1l{k:IntKind}(x:Int):∀(l:List Int) (i:Nat),Instr.findNow (.int k) (.int k x) (l.map fun y=>⟨.int k y,.bool false,0⟩) i=some ((l.findIdx? fun y=>decide (x=y)).map fun j=>(j+i,.bool false))
 | [],i=>rfl
 |y::l,i=>by
  simp only[a3Z,Instr.findNow,Instr.sameNow,a2d];rw[List.findIdx?_cons];by_cases h:x=y
  .subst h;simp
  rw[show(x==y)=false by simpa using h,afZ h];simp only[a2c,a2Y];rw[a1l x l (i+1)];cases l.findIdx? fun y=>decide (x=y)with
  |none=>rfl
  |some j=>simp;omega
theorem aeZ{k:IntKind}(hu:P.underlying kt=some (.int k))(x:Int)(l:List Int):aB P (Instr.findKey kt (.int k x) (l.map fun y=>⟨.int k y,.bool false,0⟩))=some ((l.findIdx? fun y=>decide (x=y)).map fun i=>(i,.bool false)):=by
 unfold Instr.findKey;rw[bI,J9 hu,a4k,a1l x l 0];cases l.findIdx? fun y=>decide (x=y)<;>rfl
theorem a1m{v:α->Value}{fs:Array Field}(hu:P.underlying kt=some (.struct fs))(he:∀x y,aB P (Op.equal kt (v x) (v y))=some (decide (x=y))) :
  ∃kind,aB P (underlying kt)=some kind∧((∀x y,Instr.sameNow kind (v x) (v y)=some (decide (x=y)))∨∀x y,Instr.sameNow kind (v x) (v y)=none∧aB P (Op.equal kt (v x) (v y))=some (decide (x=y))):=
 ⟨_,J9 hu,.inr fun x y=>⟨by simp[Instr.sameNow],he x y⟩⟩
theorem af0{k:IntKind}(hu:P.underlying kt=some (.int k)) :
  ∃kind,aB P (underlying kt)=some kind∧((∀x y:Int,Instr.sameNow kind (.int k x) (.int k y)=some (decide (x=y)))∨∀x y:Int,Instr.sameNow kind (.int k x) (.int k y)=none∧aB P (Op.equal kt (.int k x) (.int k y))=some (decide (x=y))):=
 ⟨_,J9 hu,.inl fun x y=>by simp only[Instr.sameNow,a2d];congr 1⟩
theorem af2{v:α->Value}{n:Nat}{e:TypeId}(hu:P.underlying kt=some (.array n e))(he:∀x y,aB P (Op.equal kt (v x) (v y))=some (decide (x=y)))(x:α)(l:List α):aB P (Instr.findKey kt (v x) (l.map fun y=>⟨v y,.bool false,0⟩))=some ((l.findIdx? fun y=>decide (x=y)).map fun i=>(i,.bool false)):=by
 have h:=Zz he x l 0;unfold Instr.findKey;rw[bI,J9 hu,a4k];cases l with
 |nil=>rfl
 |cons y l=>
  rw[show Instr.findNow (.array n e) (v x) ((y::l).map fun y=>⟨v y,.bool false,0⟩) 0=none by simp[Instr.findNow,Instr.sameNow]];exact h
theorem af4{v:α->Value}{n:Nat}{e:TypeId}(hu:P.underlying kt=some (.array n e))(he:∀x y,aB P (Op.equal kt (v x) (v y))=some (decide (x=y))) :
  ∃kind,aB P (underlying kt)=some kind∧((∀x y,Instr.sameNow kind (v x) (v y)=some (decide (x=y)))∨∀x y,Instr.sameNow kind (v x) (v y)=none∧aB P (Op.equal kt (v x) (v y))=some (decide (x=y))):=
 ⟨_,J9 hu,.inr fun x y=>⟨by simp[Instr.sameNow],he x y⟩⟩
end Pv
namespace Go.Proofs.YtmobpoiejckagaaGreat
open Go Tw Pv bW
def kV:oD X0 Qp 39 V where
 pv x:=.agg x.ps
 tv x:=x.tv
 v x:=.agg #[.int .u8 x.f,.int .i64 x.n]
 hp _:=rfl
 ht _:=rfl
 hc em x:=by kernel_rfl
 hf x l:=a1k aeL (fun a b=>a19 9998 a b) x l
 hk:=a1m aeL fun a b=>a19 9998 a b
def kI:oD X0 Qp 3 Int where
 pv x:=.int .i64 x
 tv x:=.int .i64 x
 v x:=.int .i64 x
 hp _:=rfl
 ht _:=rfl
 hc em x:=by kernel_rfl
 hf x l:=aeZ a2U x l
 hk:=af0 a2U
abbrev zu(E:List V):List (V×PV X0.Γ):=E.zipIdx.map fun e=>(e.1,.int .i64 (e.2:Nat))
abbrev mkC(a b:List Int)(e n:Nat)(r:Int):PB aF:=.cells [.dw 3 a false,.dw 3 b false,.own 0,.own 1,.own e,.own n,.int .i64 r,.map 2,.map 3]
abbrev PX(l:List V):PB aF:=.list false false 39 l
abbrev PY(l:List Br):PB aF:=.list false false 105 l
abbrev MK(a b:List Int)(E:List V)(nd:List Br)(r:Int)(nm:List (PV aF×PV aF)):List (PB aF):=[.list false false 3 a,.list false false 3 b,.map (kV.es (zu E)),.map nm,mkC a b 5 6 r,PX E,PY nd]
abbrev MK'(a b:List Int)(E:List V)(nd:List Br)(r:Int)(nm:List (PV aF×PV aF)):List (PB aF):=[.list false false 3 a,.list false false 3 b,.map (kV.es (zu E)),.map nm,mkC a b 7 8 r,.gone,.gone,PX E,PY nd]
theorem SC(E:List V):(zu E).map (·.1)=E:=by
 unfold zu;rw[a7U];show E.zipIdx.map (·.1)=E;simp
theorem a6F(E:List V)(v:V):zu (E++[v])=zu E++[(v,.int .i64 (E.length:Nat))]:=by
 unfold zu;rw[List.zipIdx_append,a3Y];simp
theorem a6G{E:List V}{v:V}(h:v∈E):(v,(.int .i64 (E.idxOf v:Nat):PV X0.Γ))∈zu E:=by
 unfold zu;rw[a1f];have hl:=a4F.2 h;exact⟨(v,E.idxOf v),by rw[a9g];simp[a0a hl],rfl⟩
def jO(E:List V)(v:V):List V:=if v∈E then E else E++[v]
theorem UJ{E:List V}{v:V}(h:E.Nodup):(jO E v).Nodup:=by
 unfold jO;split
 .exact h
 rename_i hn;rw[a8B];exact⟨h,by simp,fun x hx y hy=>by rw[a2I]at hy;subst hy;intro e;subst e;exact hn hx⟩
theorem aoM{n:Nat}(hO:Ok n Df){a b:List Int}{E:List V}{nd:List Br}{r:Int}{nm:List (PV aF×PV aF)}(v:V)(hE:E.Nodup)(hl:E.length+1<=ah):aX X0 Qp (bQ (n+1)) (.fn 196 [] []) [.ptr 4 0 9,.agg v.ps] (MK a b E nd r nm) (.int .i64 (i64.wrap (-1-(E.idxOf v:Nat)))) (MK' a b (jO E v) nd r nm):=by
 by_cases h:v∈E
 .rw[show jO E v=E from a0h h];have hf:pO X0 Qp 39 (kV.es (zu E)) v.tv (.int .i64 (E.idxOf v:Nat)):=kV.found (by rw[SC];exact hE) (a6G h);exact aX.gs hX (qP hX hO (first:=[]) (cap:=[]) (v:=.int .i64 (i64.wrap (-1-(E.idxOf v:Nat)))) (H1:=MK a b E nd r nm) (by kernel_rfl) (.c (.int .i64 (E.idxOf v:Nat)) [] hf (.b (rfl:(!true)=false) .er))) [.mv 5,.mv 6] rfl
 rw[show jO E v=E++[v]from a0g h,a9m h];have hf:nD X0 Qp 39 (kV.es (zu E)) v.tv:=kV.fresh (by rw[SC];exact h);have em:kV.es (zu (E++[v]))=kV.es (zu E)++[(.agg v.ps,.int .i64 (E.length:Nat))]:=by rw[a6F];exact a3Y ..
 show aX X0 Qp _ _ _ _ _ [_,_,.map (kV.es (zu (E++[v]))),_,_,_,_,_,_];rw[em];exact aX.gs hX (qP hX hO (first:=[]) (cap:=[]) (v:=.int .i64 (i64.wrap (-1-(E.length:Nat)))) (H1:=[.list false false 3 a,.list false false 3 b,.map (kV.es (zu E)++[(.agg v.ps,.int .i64 (E.length:Nat))]),.map nm,mkC a b 8 6 r,.gone,PY nd,.list true true 39 [v],PX (E++[v])]) (by kernel_rfl) (.a .calm (.o hf (.b (rfl:(!false)=true) (.a .calm (.o (kV.ck v) (.o hf (.o (show E.length+[v].length<=ah by simpa using hl) .er)))))))) [.mv 6,.gc [8,9]] rfl
end Go.Proofs.YtmobpoiejckagaaGreat
namespace Tw
open Go
section
variable {P:Program}
theorem Dh{e:TypeId}(hg:aB P (isAgg e)=some false){xs:Array Value}{i:Nat}{v:Value}(h:xs[i]? = some v):aB P (part e xs i)=some v:=by
 unfold part;rw[bI,hg,a4k];simp only[a2c,a2Y,h];rfl
def a3d(d:Nat)(e:TypeId)(c:Nat)(xs ys:Array Value):List Nat->Sem Bool
 | []=>pure true
 |i::is=>do
  let a <-part e xs (i*c)
  let b <-part e ys (i*c)
  let r <-Op.equalIn d e a b
  if(!r)=true then pure false else a3d d e c xs ys is
theorem Ja(d:Nat){t e:TypeId}{n c:Nat}(xs ys:Array Value)(hu:P.underlying t=some (.array n e))(hs:aB P (sizeOf e)=some c) :
  aB P (Op.equalIn (d+1) t (.agg xs) (.agg ys))=aB P (a3d d e c xs ys (List.range' 0 n)):=by
 have hu':aB P (underlying t)=some (.array n e):=by
  simp only[underlying,bI];have:aB P program=some P:=rfl;simp[this,hu,aB];rfl
 simp only[Op.equalIn,bI,hu',a4k,hs];simp only[Std.Legacy.Range.forIn_eq_forIn_range',Std.Legacy.Range.size,Nat.sub_zero,Nat.add_one_sub_one,Nat.div_one];generalize List.range' 0 n=is;clear hu hu' hs
 induction is with
 |nil=>simp[a3d,aB,bI];rfl
 |cons j is ih=>
  simp only[List.forIn_cons,a3d,bI]at ih ⊢;generalize aB P (part e xs (j*c))=r1;cases r1 with
  |none=>simp
  |some a=>
   simp only[a4k];generalize aB P (part e ys (j*c))=r2;cases r2 with
   |none=>simp
   |some b=>
    simp only[a4k];generalize aB P (Op.equalIn d e a b)=r3;cases r3 with
    |none=>simp
    |some r=>
     cases r with
     |false=>simp only[a4k,aaB,a2d];rfl
     |true=>simp only[a4k,a8D,a2c,a2Y];exact ih
abbrev Di(k:IntKind)(l:List Int):Array Value:=(l.map fun x=>Value.int k x).toArray
theorem OJ{k:IntKind}{l:List Int}{i:Nat}(h:i<l.length):(Di k l)[i]? = some (.int k l[i]):=by
 simp[Di,h]
theorem Kr{d:Nat}{e:TypeId}{k k':IntKind}(hu:P.underlying e=some (.int k'))(hg:aB P (isAgg e)=some false)(l l':List Int)(hl:l.length=l'.length):∀(m i:Nat),i+m=l.length->aB P (a3d (d+1) e 1 (Di k l) (Di k l') (List.range' i m))=some (decide (l.drop i=l'.drop i))
 | 0,i,h=>by
  rw[agy (by omega),agy (by omega)];rfl
 |m+1,i,h=>by
  have h1:i<l.length:=by omega
  have h2:i<l'.length:=by omega
  rw[List.range'_succ];simp only[a3d,agR];rw[bI,Dh hg (OJ h1),a4k,bI,Dh hg (OJ h2),a4k,bI,qL d e k k' _ _ hu,a4k];rw[a4P h1,a4P h2];by_cases hc:l[i]=l'[i]
  .have:=Kr (d:=d) (k:=k) hu hg l l' hl m (i+1) (by omega);simp only[hc,beq_self_eq_true,a8D,a2c,a2Y,this,afN,true_and]
  have:(l[i]==l'[i])=false:=by simpa using hc
  simp only[this,aaB,a2d,afN,hc,false_and,decide_false];rfl
theorem Bj(d:Nat){t e:TypeId}{n:Nat}{k k':IntKind}(ht:P.underlying t=some (.array n e))(hs:aB P (sizeOf e)=some 1)(hu:P.underlying e=some (.int k'))(hg:aB P (isAgg e)=some false){l l':List Int}(hl:l.length=n)(hl':l'.length=n) :
  aB P (Op.equalIn (d+2) t (.agg (Di k l)) (.agg (Di k l')))=some (decide (l=l')):=by
 rw[Ja (d+1) _ _ ht hs,Kr hu hg l l' (by omega) n 0 (by omega),abt,abt]
end
end Tw
namespace Go.Proofs.YtmobpoiejckagaaGreat
open Go Tw Pv bW
abbrev oI(k ex:Bool)(l:List Int):PB aF:=.list k ex 3 l
abbrev wOI(f:Nat)(a c:List (PV aF))(k ex:Bool)(R:List (PB aF))(l:List Int)(i:Int)(x:List (Nat×PE aF)):aQ aF:=⟨[(0,.val (.own 0)),(1,.val (.fn f a c)),(7,xi l.length),(8,xi i)]++x,[],oI k ex l::R⟩
def zOI(f:Nat)(a c:List (PV aF))(k ex:Bool)(R:List (PB aF))(l:List Int):Unit⊕(Nat×Int×Unit)->Ex×aQ aF
 |.inl _=>(.exit 0,wOI f a c k ex R l l.length [(9,xl false)])
 |.inr r=>(.ret,⟨[(4,xi r.1)],[],oI k ex l::R⟩)
theorem qoI{n f:Nat}{a c:List (PV aF)}{ko ex:Bool}{R:List (PB aF)}{g:Int->Bool}(l:List Int)(hf:∀x∈l,aX X0 Qp (bQ n) (.fn f a c) [.int .i64 x] (oI ko ex l::R) (.bool (g x)) (oI ko ex l::R))(hl:l.length<=ah):aX X0 Qp (bQ (n+1)) (.fn 218 [] []) [.own 0,.fn f a c] (oI ko ex l::R) (iA.put (qR g l)) (oI ko ex l::R):=by
 have lp:OB n 218 0 (R.length+1) (wOI f a c ko ex R l 0 []) (zOI f a c ko ex R l (lS (oU g) l 0 ())).1 (zOI f a c ko ex R l (lS (oU g) l 0 ())).2:=
  WW (st:=fun i _=>wOI f a c ko ex R l i []) (0:Int) (fun _ _=>True) (by kernel_rfl) hl Sl trivial (fun k s n hk _ ih=>aK fZ (.b (aW hk) (.o (aG hk) (.k (hf (l.getD k (0:Int)) (dW hk)) (.ls (.ou nofun) (.nx (ih _ trivial))))))) (fun s _=>aK fZ (.b (eX l.length) (.ou nofun)))
 exact jd fZ (first:=[]) (cap:=[]) (.szh (fun h=>.w (jV lp () h) .sr) (fun h=>.w (jW lp (0,0,()) h) .sr))
theorem qoC{n f:Nat}{a c:List (PV aF)}{ko ex:Bool}{R:List (PB aF)}{g:Int->Bool}(l:List Int)(hf:∀x∈l,aX X0 Qp (bQ n) (.fn f a c) [.int .i64 x] (oI ko ex l::R) (.bool (g x)) (oI ko ex l::R))(hl:l.length<=ah):aX X0 Qp (bQ (n+2)) (.fn 181 [] []) [.own 0,.fn f a c] (oI ko ex l::R) (tA.put (l.any g)) (oI ko ex l::R):=by
 have h1:=qoI l hf hl;have h2:=DX g l;rw[<-h2];exact jd fZ (first:=[]) (cap:=[]) (.k h1 .sr)
abbrev Hk(k ex:Bool)(l:List Int):List (PB aF):=[oI k ex l,.cells [.own 0]]
theorem qoA{n f:Nat}{ko ex:Bool}{g:Int->Bool}(l:List Int)(hf:∀x∈l,aX X0 Qp (bQ n) (.fn f [] [.ptr 1 0 1]) [.int .i64 x] (Hk ko ex l) (tA.put (g x)) (Hk ko ex l))(hl:l.length<=ah):aX X0 Qp (bQ (n+4)) (.fn 191 [] []) [.own 0,.fn f [] [.ptr 1 0 1]] (Hk ko ex l) (tA.put (l.all g)) (Hk ko ex l):=by
 have h1:∀x∈l,aX X0 Qp (bQ (n+1)) (.fn 221 [] [.ptr 2 0 1]) [.int .i64 x] (Hk ko ex l++[.cells [.fn f [] [.ptr 1 0 1]]]) (tA.put (!(g x))) (Hk ko ex l++[.cells [.fn f [] [.ptr 1 0 1]]]):=fun x hx=>
  jd fZ (first:=[]) (.fr [0,1] (hf x hx) .sr)
 have h2:=qoC (R:=[.cells [.own 0],.cells [.fn f [] [.ptr 1 0 1]]]) l h1 hl;rw[<-E8 l g];exact aX.drop hX (CV hX fZ (first:=[]) (cap:=[]) (H1:=Hk ko ex l++[.cells [.fn f [] [.ptr 1 0 1]]]) (by kernel_rfl) (.k h2 .sr)) rfl rfl
theorem a6H{n:Nat}{ko ex:Bool}(l:List Int)(hl:l.length<=ah):aX X0 Qp (bQ (n+5)) (.fn 191 [] []) [.own 0,.fn 224 [] [.ptr 1 0 1]] (Hk ko ex l) (tA.put (l.all fun x=>x==l.getD 0 0)) (Hk ko ex l):=
 qoA (n:=n+1) l (fun x hx=>jd fZ (first:=[]) (.o (show gQ 0 l.length from⟨by omega,by have:=List.length_pos_of_mem hx;omega⟩) .sr)) hl
theorem a6I:∀l:List Int,l.length=12->∃a0 a1 a2 a3 a4 a5 a6 a7 a8 a9 a10 a11:Int,l=[a0,a1,a2,a3,a4,a5,a6,a7,a8,a9,a10,a11]
 | [a0,a1,a2,a3,a4,a5,a6,a7,a8,a9,a10,a11],_=>⟨a0,a1,a2,a3,a4,a5,a6,a7,a8,a9,a10,a11,rfl⟩
 | [],h=>by simp at h
 | [_],h=>by simp at h
 | [_,_],h=>by simp at h
 | [_,_,_],h=>by simp at h
 | [_,_,_,_],h=>by simp at h
 | [_,_,_,_,_],h=>by simp at h
 | [_,_,_,_,_,_],h=>by simp at h
 | [_,_,_,_,_,_,_],h=>by simp at h
 | [_,_,_,_,_,_,_,_],h=>by simp at h
 | [_,_,_,_,_,_,_,_,_],h=>by simp at h
 | [_,_,_,_,_,_,_,_,_,_],h=>by simp at h
 | [_,_,_,_,_,_,_,_,_,_,_],h=>by simp at h
 |_::_::_::_::_::_::_::_::_::_::_::_::_::_,h=>by simp at h
abbrev Ky:=Int×{l:List Int // l.length=12}
abbrev Ky.l(x:Ky):List Int:=x.1::x.2.val
theorem OL:∀l:List Int,iI (Γ:=aF) (l.map fun x=>PV.int .i64 x)=some (l.map fun x=>TV.int .i64 x)
 | []=>rfl
 |a::l=>by simp only[a3Z,iI,qJ,OL l]
theorem SE:∀l:List Int,TV.Tz (l.map fun x=>TV.int .i64 x)=some (l.map fun x=>Value.int .i64 x)
 | []=>rfl
 |a::l=>by simp only[a3Z,TV.Tz,TV.toC,SE l]
theorem af5 : Tryz.prog.underlying 223 = some (.struct #[⟨"choice", 3, 0, false, "", "mist/node", 0⟩, ⟨"kids", 221, 1, false, "", "mist/node", 8⟩]) := by kernel_rfl
theorem acL(d:Nat)(a b:Ky):aB Qp (Op.equalIn (d+3) 223 (.agg (Di .i64 a.l)) (.agg (Di .i64 b.l)))=some (decide (a=b)):=by
 obtain⟨a1,a2,ha⟩:=a;obtain⟨b1,b2,hb⟩:=b;rw[xQ (d+2) 223 _ _ _ af5 (by kernel_rfl)];have gI:aB Qp (isAgg 3)=some false:=by kernel_rfl
 have gA:aB Qp (isAgg 221)=some true:=by kernel_rfl
 have sA:aB Qp (sizeOf 221)=some 12:=by kernel_rfl
 have sI:aB Qp (sizeOf 3)=some 1:=by kernel_rfl
 have p0:∀x l,aB Qp (part 3 (Di .i64 (x::l)) 0)=some (.int .i64 x):=fun x l=>Dh gI (OJ (l:=x::l) (by simp));have p1:∀x l,l.length=12->aB Qp (part 221 (Di .i64 (x::l)) 1)=some (.agg (Di .i64 l)):=fun x l h=>by
  obtain⟨a0,a1,a2,a3,a4,a5,a6,a7,a8,a9,a10,a11,rfl⟩:=a6I l h
  kernel_rfl
 have q1 := nY (f := ⟨"choice", 3, 0, false, "", "mist/node", 0⟩) (fs := [⟨"kids", 221, 1, false, "", "mist/node", 8⟩]) (by decide) (p0 a1 a2) (p0 b1 b2) (qL (d + 1) _ .i64 _ a1 b1 a2U);have q2 := nY (f := ⟨"kids", 221, 1, false, "", "mist/node", 8⟩) (fs := []) (by decide) (p1 a1 a2 ha) (p1 b1 b2 hb) (Bj d (k := .i64) (t := 221) (by kernel_rfl) sI a2U gI ha hb);rw[q1,q2];rw[show aB Qp (Op.eqFields (d+2) (Di .i64 (a1::a2)) (Di .i64 (b1::b2)) [])=some true from rfl];by_cases h1:a1=b1<;>by_cases h2:a2=b2<;>simp[h1,h2]
def kK:oD X0 Qp 223 Ky where
 pv x:=.agg (x.l.map fun i=>.int .i64 i)
 tv x:=.agg (x.l.map fun i=>.int .i64 i)
 v x:=.agg (Di .i64 x.l)
 hp x:=congrArg (Option.map TV.agg) (OL x.l)
 ht x:=congrArg (Option.map fun vs:List Value=>Value.agg vs.toArray) (SE x.l)
 hc em x:=by
  obtain⟨c,l,h⟩:=x;obtain⟨a0,a1,a2,a3,a4,a5,a6,a7,a8,a9,a10,a11,rfl⟩:=a6I l h
  kernel_rfl
 hf x l:=a1k af5 (fun a b=>acL 9997 a b) x l
 hk:=a1m af5 (fun a b=>acL 9997 a b)
open Go Tw Pv bW
def Hf(l:List Int):List Int:=(l++[0,0,0,0,0,0,0,0,0,0,0,0]).take 12
theorem a6J(l:List Int):(Hf l).length=12:=by unfold Hf;simp
def tC(c:Int)(ks:List Int):Ky:=(c,⟨Hf ks,a6J ks⟩)
abbrev BH(b:Br):Ky:=tC b.var b.ay
abbrev yB(nd:List Br):List (Ky×PV X0.Γ):=nd.zipIdx.map fun e=>(BH e.1,.int .i64 (e.2:Nat))
theorem SG(nd:List Br):(yB nd).map (·.1)=nd.map BH:=by
 unfold yB;rw[a7U];show nd.zipIdx.map (BH∘fun e=>e.1)=_;rw[<-a7U];simp
theorem a6K(nd:List Br)(b:Br):yB (nd++[b])=yB nd++[(BH b,.int .i64 (nd.length:Nat))]:=by
 unfold yB;rw[List.zipIdx_append,a3Y];simp
theorem a6L{nd:List Br}{k:Ky}(h:k∈nd.map BH):(k,(.int .i64 ((nd.map BH).idxOf k:Nat):PV X0.Γ))∈yB nd:=by
 have hl:=a4F.2 h;have TM:(nd.map BH).idxOf k<nd.length:=by simpa using hl
 unfold yB;rw[a1f];refine⟨(nd[(nd.map BH).idxOf k],(nd.map BH).idxOf k),by rw[a9g];simp[a0a TM],?_⟩;have:=a8z hl;rw[a8Y]at this;show(BH _,_)=_;rw[this]
def dn(nd:List Br)(c:Int)(ks:List Int):List Br:=if(ks.all fun x=>x==ks.getD 0 0)=true then nd else if tC c ks∈nd.map BH then nd else nd++[⟨c,ks⟩]
def dU(nd:List Br)(c:Int)(ks:List Int):Int:=if(ks.all fun x=>x==ks.getD 0 0)=true then ks.getD 0 0 else((nd.map BH).idxOf (tC c ks):Nat)
abbrev MN(a b:List Int)(E:List V)(nd:List Br)(r:Int):List (PB aF):=MK a b E nd r (kK.es (yB nd))
abbrev MNg(a b:List Int)(E:List V)(nd:List Br)(r:Int)(nm:List (PV aF×PV aF)):List (PB aF):=[.list false false 3 a,.list false false 3 b,.map (kV.es (zu E)),.map nm,mkC a b 8 9 r,.gone,.gone,.gone,PX E,PY nd]
abbrev MN'(a b:List Int)(E:List V)(nd:List Br)(r:Int):List (PB aF):=MNg a b E nd r (kK.es (yB nd))
theorem af6{n:Nat}(hO:Ok (n+5) Df){a b:List Int}{E:List V}{nd:List Br}{r:Int}(c:Int)(ks:List Int)(hk:1<=ks.length∧ks.length<=12)(hf:(ks.all fun x=>x==ks.getD 0 0)=true):aX X0 Qp (bQ (n+6)) (.fn 198 [] []) [.ptr 4 0 9,.int .i64 c,.own 7] (MN a b E nd r++[oI true true ks]) (.int .i64 (ks.getD 0 0)) (MN' a b E nd r):=by
 have h1:=qP hX hO (first:=[]) (cap:=[]) (xs:=[.ptr 4 0 9,.int .i64 c,.own 7]) (H:=MN a b E nd r++[oI true true ks]) (v:=.int .i64 (ks.getD 0 0)) (H1:=MN a b E nd r++[oI true true ks,.cells [.own 7]]) (f:=198) (by kernel_rfl) (.fr [7,8] (a6H (n:=n) (ko:=true) (ex:=true) ks (m12 hk.2)) (.b hf (.o (show gQ 0 ks.length from⟨by omega,by omega⟩) .er)));exact aX.forget (aX.gs hX h1 [.mv 5,.mv 6,.gc [9,10]] rfl) 7
abbrev a6M(c:Int)(ks:List Int):PB aF:=.cells ((Ky.l (tC c ks)).map fun i=>.int .i64 i)
theorem af7{n:Nat}(hO:Ok (n+5) Df){a b:List Int}{E:List V}{nd:List Br}{r:Int}(c:Int)(ks:List Int)(hk:1<=ks.length∧ks.length<=12)(hf:(ks.all fun x=>x==ks.getD 0 0)=false)(hN:(nd.map BH).Nodup)(hm:tC c ks∈nd.map BH):aX X0 Qp (bQ (n+6)) (.fn 198 [] []) [.ptr 4 0 9,.int .i64 c,.own 7] (MN a b E nd r++[oI true true ks]) (.int .i64 ((nd.map BH).idxOf (tC c ks):Nat)) (MN' a b E nd r):=by
 have hF:pO X0 Qp 223 (kK.es (yB nd)) (kK.tv (tC c ks)) (.int .i64 ((nd.map BH).idxOf (tC c ks):Nat)):=kK.found (by rw[SG];exact hN) (a6L hm);have h1:aX X0 Qp (bQ (n+6)) (.fn 198 [] []) [.ptr 4 0 9,.int .i64 c,.own 7] (MN a b E nd r++[oI true true ks]) (.int .i64 ((nd.map BH).idxOf (tC c ks):Nat)) (MN a b E nd r++[oI true true ks,.cells [.own 7],a6M c ks]):=by
  generalize (nd.map BH).idxOf (tC c ks)=j at hF ⊢;generalize yB nd=nm at hF ⊢;obtain⟨k1,k2⟩:=hk;rcases ks with _|⟨x0,_|⟨x1,_|⟨x2,_|⟨x3,_|⟨x4,_|⟨x5,_|⟨x6,_|⟨x7,_|⟨x8,_|⟨x9,_|⟨x10,_|⟨x11,_|⟨x12,_⟩⟩⟩⟩⟩⟩⟩⟩⟩⟩⟩⟩⟩<;>first|(exfalso;simp at k1;done)|(exfalso;simp at k2;omega)|(exact fP hO (first:=[]) (cap:=[]) (.fr [7,8] (a6H (n:=n) (ko:=true) (ex:=true) _ (m12 k2)) (.b hf (.c (.int .i64 (j:Nat)) [] hF (.b (rfl:(!true)=false) .er)))))
 exact aX.forget (aX.gs hX (aX.forget h1 9) [.mv 5,.mv 6,.gc [10,11]] rfl) 7
theorem af8{n:Nat}(hO:Ok (n+5) Df){a b:List Int}{E:List V}{nd:List Br}{r:Int}(c:Int)(ks:List Int)(hk:1<=ks.length∧ks.length<=12)(hf:(ks.all fun x=>x==ks.getD 0 0)=false)(hm:tC c ks∉nd.map BH)(hl:nd.length+1<=ah):aX X0 Qp (bQ (n+6)) (.fn 198 [] []) [.ptr 4 0 9,.int .i64 c,.own 7] (MN a b E nd r++[oI true true ks]) (.int .i64 (nd.length:Nat)) (MN' a b E (nd++[⟨c,ks⟩]) r):=by
 have hF:nD X0 Qp 223 (kK.es (yB nd)) (kK.tv (tC c ks)):=kK.fresh (by rw[SG];exact hm);have hC:=kK.ck (tC c ks);have hL:nd.length+([⟨c,ks⟩]:List Br).length<=ah:=by simpa using hl
 have em:kK.es (yB (nd++[⟨c,ks⟩]))=kK.es (yB nd)++[(kK.pv (tC c ks),.int .i64 (nd.length:Nat))]:=by rw[a6K];exact a3Y ..
 show aX X0 Qp _ _ _ _ _ (MNg a b E (nd++[⟨c,ks⟩]) r (kK.es (yB (nd++[⟨c,ks⟩]))));rw[em];have h1:aX X0 Qp (bQ (n+6)) (.fn 198 [] []) [.ptr 4 0 9,.int .i64 c,.own 7] (MN a b E nd r++[oI true true ks]) (.int .i64 (nd.length:Nat)) [.list false false 3 a,.list false false 3 b,.map (kV.es (zu E)),.map (kK.es (yB nd)++[(kK.pv (tC c ks),.int .i64 (nd.length:Nat))]),mkC a b 5 11 r,PX E,.gone,.gone,.cells [.own 7],a6M c ks,.list true true 105 [⟨c,ks⟩],PY (nd++[⟨c,ks⟩])]:=by
  generalize yB nd=nm at hF ⊢;obtain⟨k1,k2⟩:=hk;rcases ks with _|⟨x0,_|⟨x1,_|⟨x2,_|⟨x3,_|⟨x4,_|⟨x5,_|⟨x6,_|⟨x7,_|⟨x8,_|⟨x9,_|⟨x10,_|⟨x11,_|⟨x12,_⟩⟩⟩⟩⟩⟩⟩⟩⟩⟩⟩⟩⟩<;>first|(exfalso;simp at k1;done)|(exfalso;simp at k2;omega)|(exact fP hO (first:=[]) (cap:=[]) (.fr [7,8] (a6H (n:=n) (ko:=true) (ex:=true) _ (m12 k2)) (.b hf (.q (.bool false) hF (.b (rfl:(!false)=true) (.q (.bool false) hC (.o hF (.o hL .er))))))))
 exact aX.gs hX (aX.forget (aX.forget h1 9) 10) [.mv 5,.gc [12,11]] rfl
theorem ajO{n:Nat}(hO:Ok (n+5) Df){a b:List Int}{E:List V}{nd:List Br}{r:Int}(c:Int)(ks:List Int)(hk:1<=ks.length∧ks.length<=12)(hN:(nd.map BH).Nodup)(hl:nd.length+1<=ah):aX X0 Qp (bQ (n+6)) (.fn 198 [] []) [.ptr 4 0 9,.int .i64 c,.own 7] (MN a b E nd r++[oI true true ks]) (.int .i64 (dU nd c ks)) (MN' a b E (dn nd c ks) r):=by
 unfold dU dn;cases hf:ks.all fun x=>x==ks.getD 0 0
 .rw[a0g (by simp),a0g (by simp)];by_cases hm:tC c ks∈nd.map BH
  .rw[a0h hm];exact af7 hO c ks hk hf hN hm
  rw[a0g hm,a9m hm,a4e];exact af8 hO c ks hk hf hm hl
 rw[a0h rfl,a0h rfl];exact af6 hO c ks hk hf
theorem Qn{nd:List Br}{c:Int}{ks:List Int}(h:(nd.map BH).Nodup):((dn nd c ks).map BH).Nodup:=by
 unfold dn;split
 .exact h
 split
 .exact h
 rename_i hn;rw[a3Y,a8B];exact⟨h,by simp,fun x hx y hy=>by simp at hy;subst hy;intro e;subst e;exact hn hx⟩
open Go Tw Pv bW
theorem aoO{n:Nat}(hO:Ok n Df)(a b:List Int)(ha:a.length<=ah)(hb:b.length<=ah):aX X0 Qp (bQ (n+1)) (.fn 194 [] []) [.agg [.dw 3 a false,.dw 3 b false]] [] (.ptr 4 0 9) (MN a b [] [] 0):=
 aX.gs hX (qP hX hO (first:=[]) (cap:=[]) (v:=.ptr 4 0 9) (H1:=[.list false false 3 a,.list false false 3 b,.map [],.map [],.cells [.dw 3 a false,.dw 3 b false,.own 0,.own 1,.nil .slc,.nil .slc,.int .i64 0,.map 2,.map 3]]) (by kernel_rfl) (.o ha (.o hb .er))) [.Uf 4 4 39,.Uf 4 5 105] rfl
structure Cs where
 e:List V
 n:List Br
 k:List (Int×Int)
abbrev KQ(k:List (Int×Int)):List (Int×PV X0.Γ):=k.map fun p=>(p.1,.int .i64 p.2)
abbrev pC:List (PV aF):=[.ptr 8 0 1,.ptr 7 0 7,.ptr 10 0 1,.ptr 11 0 1]
abbrev acM(l:Lo)(k:List (Int×Int)):List (PB aF):=[.aC l.ps,.aC [.ptr 4 0 9],.map (kI.es (KQ k)),.aC [.map 9],.aC [.fn 195 [] pC]]
abbrev HC(l:Lo)(x:Cs):List (PB aF):=MN l.s l.o x.e x.n 0++acM l x.k
abbrev HC'(l:Lo)(x:Cs):List (PB aF):=[.list false false 3 l.s,.list false false 3 l.o,.map (kV.es (zu x.e)),.map (kK.es (yB x.n)),mkC l.s l.o 12 13 0,.gone,.gone]++acM l x.k++[PX x.e,PY x.n]
def oW(d:Dg)(r:Int):V:=d.aO.getD (i64.wrap (-1-r)).toNat V0
def UK(k:List (Int×Int))(r:Int):Int:=((k.find? fun p=>p.1==r).getD (0,0)).2
def bY(d:Dg):Nat->Int->Cs->Int×Cs
 | 0,_,x=>(0,x)
 |F+1,r,x=>if decide (r<0)=true then(i64.wrap (-1-(x.e.idxOf (oW d r):Nat)),⟨jO x.e (oW d r),x.n,x.k⟩)else if decide (r∈x.k.map (·.1))=true then(UK x.k r,x)
  else
   let y:=aT (fun j (y:List Int×Cs)=>(y.1.set j (bY d F ((aj d r).ay.getD j 0) y.2).1,(bY d F ((aj d r).ay.getD j 0) y.2).2)) (aj d r).ay.length 0 (List.replicate (aj d r).ay.length 0,x)
   (dU y.2.n (aj d r).var y.1,⟨y.2.e,dn y.2.n (aj d r).var y.1,y.2.k++[(r,dU y.2.n (aj d r).var y.1)]⟩)
structure Dj(d:Dg)(x:Cs):Prop where
 e1:x.e.Nodup
 e2:∀v∈x.e,v∈d.aO
 n1:(x.n.map BH).Nodup
 n2:x.n.length<=x.k.length
 k1:(x.k.map (·.1)).Nodup
 k2:∀a∈x.k.map (·.1),gQ a d.au.length
theorem Dj.KN{d:Dg}{x:Cs}(h:Dj d x):x.k.length<=d.au.length:=by
 have:=zq _ _ h.k1 h.k2;simpa using this
theorem Dj.ajP{d:Dg}{x:Cs}(h:Dj d x):x.e.length<=d.aO.length:=adr h.e1 h.e2
theorem Xr(nd:List Br)(c:Int)(ks:List Int):(dn nd c ks).length<=nd.length+1:=by
 unfold dn;split
 .omega
 split
 .omega
 simp
theorem a1n{k:List (Int×Int)}{r:Int}(h:r∈k.map (·.1)):(r,UK k r)∈k:=by
 rw[a1f]at h;obtain⟨p,hp,rfl⟩:=h;unfold UK;cases e:k.find? fun q=>q.1==p.1 with
 |none=>have:=ads.1 e p hp;simp at this
 |some q=>
  have h1:=ag3 e;have h2:=List.find?_some e;simp at h2;rw[<-h2];exact h1
theorem a6N{d:Dg}{r:Int}(h:gQ (i64.wrap (-1-r)) d.aO.length):oW d r∈d.aO:=by
 have h1:(i64.wrap (-1-r)).toNat<d.aO.length:=by have:=h.1;have:=h.2;omega
 unfold oW;simp[List.getD,a0a h1]
theorem Hg{d:Dg}(P:Cs->Prop){F:Nat}{r:Int}{x:Cs}(h:P x)(hs:∀j y,j<(aj d r).ay.length->P y->P (bY d F ((aj d r).ay.getD j 0) y).2) :
  (aT (fun j (y:List Int×Cs)=>(y.1.set j (bY d F ((aj d r).ay.getD j 0) y.2).1,(bY d F ((aj d r).ay.getD j 0) y.2).2)) (aj d r).ay.length 0 (List.replicate (aj d r).ay.length 0,x)).1.length=(aj d r).ay.length∧P (aT (fun j (y:List Int×Cs)=>(y.1.set j (bY d F ((aj d r).ay.getD j 0) y.2).1,(bY d F ((aj d r).ay.getD j 0) y.2).2)) (aj d r).ay.length 0 (List.replicate (aj d r).ay.length 0,x)).2:=
 dO (g:=fun j (y:List Int×Cs)=>(y.1.set j (bY d F ((aj d r).ay.getD j 0) y.2).1,(bY d F ((aj d r).ay.getD j 0) y.2).2)) (m:=(aj d r).ay.length) (k:=0) (s:=(List.replicate (aj d r).ay.length 0,x)) (fun _ y=>y.1.length=(aj d r).ay.length∧P y.2) ⟨by simp,h⟩ (fun j y _ hj hy=>⟨by simp[hy.1],hs j y.2 (by omega) hy.2⟩)
theorem Xt{d:Dg}:∀(F:Nat) (r s:Int) (x:Cs),r<s->s∉x.k.map (·.1)->0<=s->(∀i,i<d.au.length->∀k,k<(fC d i).ay.length->(fC d i).ay.getD k 0<i)->(0<=r->gQ r d.au.length)->s∉(bY d F r x).2.k.map (·.1)
 | 0,_,_,_,_,h,_,_,_=>h
 |F+1,r,s,x,hr,h,h0,hk,hn=>by
  unfold bY;by_cases c:r<0
  .rw[a0h (by simpa using c)];exact h
  rw[a0g (by simpa using c)];split
  .exact h
  have hi:=hn (by omega);have DC:∀k,k<(aj d r).ay.length->(aj d r).ay.getD k 0<r:=fun k lN=>by
   obtain⟨i1,i2⟩:=hi;have h9:(aj d r).ay.getD k 0<(r.toNat:Int):=hk r.toNat (by omega) k lN;omega
  have:=(Hg (d:=d) (fun y=>s∉y.k.map (·.1)) (F:=F) (r:=r) h (fun j y hj hy=>Xt F _ s y (by have:=DC j hj;omega) hy h0 hk fun h5=>⟨h5,by have:=hi.2;have:=DC j hj;omega⟩)).2;simp only[a3Y,a3K,adq];exact⟨this,by simp;omega⟩
theorem OM{d:Dg}(h:BD d):∀(F:Nat) (r:Int) (x:Cs),Dj d x->jk d r d.au.length->Dj d (bY d F r x).2
 | 0,_,_,hx,_=>hx
 |F+1,r,x,hx,hr=>by
  unfold bY;by_cases c:r<0
  .rw[a0h (by simpa using c)];refine⟨UJ hx.e1,fun v hv=>?_,hx.n1,hx.n2,hx.k1,hx.k2⟩;have hv:v∈jO x.e (oW d r):=hv;unfold jO at hv;split at hv
   .exact hx.e2 v hv
   rcases a3K.1 hv with hv|hv
   .exact hx.e2 v hv
   rw[a2I.1 hv];exact a6N (hr.2 c)
  rw[a0g (by simpa using c)];split
  .exact hx
  rename_i c2;have aS:r.toNat<d.au.length:=by have:=hr.1;omega
  have BF:∀k,k<(aj d r).ay.length->(aj d r).ay.getD k 0<r:=fun k lN=>by
   have h9:=(h.Aq r.toNat aS k lN).1;have h9:(aj d r).ay.getD k 0<(r.toNat:Int):=h9;omega
  have hb:=(Hg (d:=d) (fun y=>Dj d y∧r∉y.k.map (·.1)) (F:=F) (r:=r) ⟨hx,by simpa using c2⟩ (fun j y hj hy=>by
   have LW:jk d ((aj d r).ay.getD j 0) d.au.length:=⟨by have:=BF j hj;have:=hr.1;omega,(h.Aq r.toNat aS j hj).2⟩;refine⟨OM h F _ y hy.1 LW,Xt F _ r y (BF j hj) hy.2 (by omega) (fun i hi k hk=>(h.Aq i hi k hk).1) (fun h5=>⟨h5,by have:=LW.1;omega⟩)⟩)).2
  obtain⟨hb,xJ⟩:=hb;refine⟨hb.e1,hb.e2,Qn hb.n1,?_,?_,?_⟩
  .have:=Xr (aT (fun j (y:List Int×Cs)=>(y.1.set j (bY d F ((aj d r).ay.getD j 0) y.2).1,(bY d F ((aj d r).ay.getD j 0) y.2).2)) (aj d r).ay.length 0 (List.replicate (aj d r).ay.length 0,x)).2.n (aj d r).var (aT (fun j (y:List Int×Cs)=>(y.1.set j (bY d F ((aj d r).ay.getD j 0) y.2).1,(bY d F ((aj d r).ay.getD j 0) y.2).2)) (aj d r).ay.length 0 (List.replicate (aj d r).ay.length 0,x)).1;have:=hb.n2;simp only[a2a,a3s];omega
  .simp only[a3Y,a3Z,abE];exact wH hb.k1 xJ
  intro a ha;simp only[a3Y,a3K,a3Z,abE,a2I]at ha;rcases ha with ha|rfl
  .exact hb.k2 a ha
  exact⟨by omega,by omega⟩
open Go Tw Pv bW
abbrev hCl(l:Lo)(x:Cs)(ks:List Int):List (PB aF):=HC' l x++[oI true true ks]
abbrev wCl(l:Lo)(r:Int)(i:Int)(y:List Int×Cs)(x:List (Nat×PE aF)):aQ aF:=⟨[(0,xi r),(1,.val (.ptr 8 0 1)),(3,.val (.ptr 10 0 1)),(4,.val (.ptr 11 0 1)),(9,.loc 0 0),(10,xo 14),(43,xL 3 (aj l.d r).ay),(44,xi (aj l.d r).ay.length),(45,xi i)]++x,[(aj l.d r).ps],hCl l y.2 y.1⟩
theorem lCl{M:Nat}(hO:Ok M Df){d:Dg}{F:Nat}{r:Int}(hk:(aj d r).ay.length<=12)(Q:Cs->Prop){x:Cs}(hx:Q x)(hq:∀j y,j<(aj d r).ay.length->Q y->Q (bY d F ((aj d r).ay.getD j 0) y).2)(hs:∀j y,j<(aj d r).ay.length->Q y->aX X0 Qp (bQ M) (.fn 195 [] pC) [.int .i64 ((aj d r).ay.getD j 0)] (HC (yG d) y) (.int .i64 (bY d F ((aj d r).ay.getD j 0) y).1) (HC' (yG d) (bY d F ((aj d r).ay.getD j 0) y).2)) :
  OB M 195 0 12 (wCl (yG d) r 0 (List.replicate (aj d r).ay.length 0,x) []) (.exit 0) (wCl (yG d) r (aj d r).ay.length (aT (fun j (y:List Int×Cs)=>(y.1.set j (bY d F ((aj d r).ay.getD j 0) y.2).1,(bY d F ((aj d r).ay.getD j 0) y.2).2)) (aj d r).ay.length 0 (List.replicate (aj d r).ay.length 0,x)) [(46,xl false)]):=by
 refine uy (σ:=List Int×Cs) (N:=(aj d r).ay.length) (g:=fun j (y:List Int×Cs)=>(y.1.set j (bY d F ((aj d r).ay.getD j 0) y.2).1,(bY d F ((aj d r).ay.getD j 0) y.2).2)) (s0:=(List.replicate (aj d r).ay.length 0,x)) (st:=fun k y=>wCl (yG d) r k y []) (fin:=fun y=>wCl (yG d) r (aj d r).ay.length y [(46,xl false)]) (fun _ y=>y.1.length=(aj d r).ay.length∧Q y.2) (by kernel_rfl) (m12 hk) ⟨by simp,hx⟩ (fun j y hj hy=>⟨by simp[hy.1],hq j y.2 hj hy.2⟩) (fun j y hj hy m e p g=>?_) (fun y _=>aK hO (.b (eX (aj d r).ay.length) .ex));have h1:=hs j y.2 hj hy.2;have h2:gQ j y.1.length:=aG (by rw[hy.1];exact hj);generalize bY d F ((aj d r).ay.getD j 0) y.2=z at h1 g;obtain⟨v,z⟩:=z;exact aK hO (.b (aW hj) (.o (aG hj) (.fr [0,1,2,3,4,12,13,7,8,9,10,11] h1 (.o h2 (.RU [.gc [15,16,14]] g)))))
theorem Ea(k:List (Int×Int)):(KQ k).map (·.1)=k.map (·.1):=by
 unfold KQ;rw[a7U];rfl
theorem aoP{n:Nat}(hO:Ok n Df)(k:Int):aX X0 Qp (bQ n) (.fn 197 [] []) [.int .i64 k] [] (iA.put (i64.wrap (-1-k))) []:=
 mY.aa5 hX (hO 197 [.int .i64 k] (iA.put (i64.wrap (-1-k))) [] [] (by kernel_rfl) (fun q hq=>by cases hq)) rfl rfl rfl rfl
theorem sCl{N:Nat}(hO:∀m,N<=m->Ok m Df){d:Dg}(h:BD d)(he:d.aO.length+1<=ah)(hn:d.au.length+1<=ah)(h1k:∀i,i<d.au.length->1<=(fC d i).ay.length):∀(F:Nat) (r:Int) (x:Cs),r+1<F->Dj d x->jk d r d.au.length->1<=F->aX X0 Qp (bQ (N+F+6)) (.fn 195 [] pC) [.int .i64 r] (HC (yG d) x) (.int .i64 (bY d F r x).1) (HC' (yG d) (bY d F r x).2)
 | 0,r,x,_,_,_,h1=>by omega
 |F+1,r,x,hF,hx,hr,_=>by
  rw[show N+(F+1)+6=N+F+6+1 by omega];have FD:=hO (N+F+6) (by omega);have FU:=hO (N+F+5) (by omega);unfold bY;by_cases c:r<0
  .have t0:decide (r<0)=true:=(by simpa using c);rw[a0h t0];have hi:gQ (i64.wrap (-1-r)) d.aO.length:=hr.2 c;have hs:=aoM FU (a:=d.aA) (b:=d.aH) (E:=x.e) (nd:=x.n) (r:=0) (nm:=kK.es (yB x.n)) (oW d r) hx.e1 (by have:=hx.ajP;omega);exact fP FD (first:=[]) (.b t0 (.fr [] (aoP FD r) (.o hi (.fr [0,1,2,3,4,5,6] hs .er))))
  have t0:decide (r<0)=false:=by simpa using c
  rw[a0g (by rw[t0];simp)];have aS:r.toNat<d.au.length:=by have:=hr.1;omega
  by_cases c2:r∈x.k.map (·.1)
  .rw[a0h (by simpa using c2)];have hf:pO X0 Qp 3 (kI.es (KQ x.k)) (kI.tv r) (.int .i64 (UK x.k r)):=kI.found (by rw[Ea];exact hx.k1) (a1f.2 ⟨(r,UK x.k r),a1n c2,rfl⟩);generalize UK x.k r=v at hf ⊢;exact aX.gs hX (qP hX FD (first:=[]) (H1:=HC (yG d) x) (v:=.int .i64 v) (by kernel_rfl) (.b t0 (.c (.int .i64 v) [] hf (.b (rfl:true=true) .er)))) [.mv 5,.mv 6] rfl
  rw[a0g (by simpa using c2)];have BF:∀k,k<(aj d r).ay.length->(aj d r).ay.getD k 0<r:=fun k lN=>by
   have h9:=(h.Aq r.toNat aS k lN).1;have h9:(aj d r).ay.getD k 0<(r.toNat:Int):=h9;omega
  have LW:∀j,j<(aj d r).ay.length->jk d ((aj d r).ay.getD j 0) d.au.length:=fun j hj=>⟨by have:=BF j hj;have:=hr.1;omega,(h.Aq r.toNat aS j hj).2⟩;have JG:(aj d r).ay.length<=12:=h.KN r.toNat aS;have hq:∀j y,j<(aj d r).ay.length->(Dj d y∧r∉y.k.map (·.1))->Dj d (bY d F ((aj d r).ay.getD j 0) y).2∧r∉(bY d F ((aj d r).ay.getD j 0) y).2.k.map (·.1):=fun j y hj hy=>
   ⟨OM h F _ y hy.1 (LW j hj),Xt F _ r y (BF j hj) hy.2 (by omega) (fun i hi k hk=>(h.Aq i hi k hk).1) (fun h5=>⟨h5,by have:=(LW j hj).1;omega⟩)⟩
  have hl:=lCl FD (d:=d) (F:=F) (r:=r) JG (fun y=>Dj d y∧r∉y.k.map (·.1)) (x:=x) ⟨hx,c2⟩ hq (fun j y hj hy=>sCl hO h he hn h1k F _ y (by have:=BF j hj;omega) hy.1 (LW j hj) (by omega));obtain⟨g1,g2,g3⟩:=Hg (d:=d) (fun y=>Dj d y∧r∉y.k.map (·.1)) (F:=F) (r:=r) (x:=x) ⟨hx,c2⟩ hq;generalize aT (fun j (y:List Int×Cs)=>(y.1.set j (bY d F ((aj d r).ay.getD j 0) y.2).1,(bY d F ((aj d r).ay.getD j 0) y.2).2)) (aj d r).ay.length 0 (List.replicate (aj d r).ay.length 0,x)=y at hl g1 g2 g3;obtain⟨ks,e,nd,kn⟩:=y;have g1:ks.length=(aj d r).ay.length:=g1;have EC:1<=ks.length∧ks.length<=12:=by rw[g1];exact⟨h1k r.toNat aS,JG⟩
  have hN:nd.length+1<=ah:=by have:=g2.KN;have:=g2.n2;simp at *;omega
  have hs:=ajO (n:=N+F) FU (a:=d.aA) (b:=d.aH) (E:=e) (nd:=nd) (r:=0) (aj d r).var ks EC g2.n1 hN;have f0:nD X0 Qp 3 (kI.es (KQ x.k)) (kI.tv r):=kI.fresh (by rw[Ea];exact c2);have f1:nD X0 Qp 3 (kI.es (KQ kn)) (kI.tv r):=kI.fresh (by rw[Ea];exact g3);have f2:=kI.ck r;show aX X0 Qp _ _ _ _ (.int .i64 (dU nd (aj d r).var ks)) (HC' (yG d) ⟨e,dn nd (aj d r).var ks,kn++[(r,dU nd (aj d r).var ks)]⟩);generalize dU nd (aj d r).var ks=v at hs ⊢;generalize dn nd (aj d r).var ks=nd' at hs ⊢;have em:kI.es (KQ (kn++[(r,v)]))=kI.es (KQ kn)++[(kI.pv r,.int .i64 v)]:=by
   show List.map _ (List.map _ (kn++[(r,v)]))=_;rw[a3Y,a3Y];rfl
  have f3:pO X0 Qp 3 (kI.es (KQ kn)++[(kI.pv r,.int .i64 v)]) (kI.tv r) (.int .i64 v):=by
   rw[<-em];exact kI.found (by rw[Ea,a3Y];exact wH g2.k1 g3) (a1f.2 ⟨(r,v),by simp,rfl⟩)
  have hi:gQ r d.au.length:=⟨by omega,hr.1⟩;have hm:((aj d r).ay.length:Int)<=(ah:Int):=by have:=m12 JG;omega
  show aX X0 Qp _ _ _ _ _ ([_,_,_,_,_,_,_]++[_,_,.map (kI.es (KQ (kn++[(r,v)]))),_,_]++[_,_]);rw[em];exact aX.gs hX (qP hX FD (first:=[]) (v:=.int .i64 v) (H1:=[.list false false 3 d.aA,.list false false 3 d.aH,.map (kV.es (zu e)),.map (kK.es (yB nd')),mkC d.aA d.aH 15 16 0,.gone,.gone,.aC (yG d).ps,.aC [.ptr 4 0 9],.map (kI.es (KQ kn)++[(kI.pv r,.int .i64 v)]),.aC [.map 9],.aC [.fn 195 [] pC],.gone,.gone,.gone,PX e,PY nd']) (by kernel_rfl) (.b t0 (.q (.bool false) f0 (.b (rfl:false=false) (.o hi (.o (show((aj d r).ay.length:Int)=((aj d r).ay.length:Int)from rfl) (.o (show(0:Int)<=((aj d r).ay.length:Int) by omega) (.o hm (.wG [.mv 5,.mv 6,.gc [13,14,12]] hl (.fr [0,1,2,3,4,12,13,14] hs (.q (.bool false) f2 (.o f1 (.c (.int .i64 v) [] f3 .er))))))))))))) [.gc [15,16]] rfl
open Go Tw Pv bW
abbrev OO(a b:List V)(k:Nat):Bool:=!(decide (a.getD k V0=b.getD k V0))
abbrev af9(a b:List V)(i:Int)(x:List (Nat×PE aF)):aQ aF:=⟨[(0,xL 39 a),(1,xL 39 b),(12,xi a.length),(13,xi i)]++x,[],[]⟩
def z227(a b:List V):Unit⊕Nat->Ex×aQ aF
 |.inl _=>(.exit 0,af9 a b a.length [(14,xl false)])
 |.inr _=>(.ret,⟨[(4,xl false)],[],[]⟩)
theorem ajQ{n:Nat}{fK:eY aF}(hO:Ok n fK)(a b:List V)(hl:a.length<=ah)(h:a.length=b.length):Lp n 227 0 (af9 a b 0 []) (z227 a b (bF (OO a b) a.length)).1 (z227 a b (bF (OO a b) a.length)).2:=
 iU (st:=fun i _=>af9 a b i []) (fun _ _=>True) (by kernel_rfl) hl trivial (fun k s m hk _ ih=>aK hO (.b (aW hk) (.o (aG hk) (.o (aG (h▸hk)) (.q (.bool (!(decide (a.getD k V0=b.getD k V0)))) (neV (.tmp 19) (.tmp 23) (a.getD k V0) (b.getD k V0)) (.ls (.ou nofun) (.nx (ih _ trivial)))))))) (fun s _=>aK hO (.b (eX a.length) (.ou nofun)))
theorem aac{a b:List V}(h:a.length=b.length):a=b↔∀j,j<a.length->a.getD j V0=b.getD j V0:=by
 constructor
 .rintro rfl j _;rfl
 intro h2;apply aat h;intro j h3 h4;have:=h2 j h3;simpa[List.getD,a0a h3,a0a h4]using this
theorem OQ{a b:List V}(h:a.length=b.length):jK (bF (OO a b) a.length)=decide (a=b):=by
 rw[a4u,dI,a1X,aac h];simp[OO]
theorem aad{α:Type}[DecidableEq α]{a b:List α}(h:((a.length:Int) != (b.length:Int))=true):decide (a=b)=false:=by
 rw[a2W];rintro rfl;simp at h
def acN:eY aF:=bZ 227 (a2 Zv Zv) tA (fun p=>decide (p.1=p.2)) (fun p=>[p.1.length<=ah]) Df
theorem ajR:Gd acN:=acI.add fun n hO p hp=>aN hO (.s (fun h=>.v false (aad h).symm) fun h=>.z (c:=jK (bF (OO p.1 p.2) p.1.length)) (fun h2=>.w (jV (ajQ hO p.1 p.2 (hp _ (.head _)) (l7 h)) () h2) (.v true (by rw[<-OQ (l7 h),h2]))) fun h2=>.w (jW (ajQ hO p.1 p.2 (hp _ (.head _)) (l7 h)) 0 h2) (.v false (by rw[<-OQ (l7 h),h2])))
def UL(x y:Br):Bool:=if(x.var==y.var)=true then decide (x.ay=y.ay)else false
def a6O:eY aF:=bZ 226 (a2 brA brA) tA (fun p=>UL p.1 p.2) (fun p=>[p.1.ay.length<=ah]) acN
theorem ajS:Gd a6O:=ajR.add fun n hO p hp=>aN hO (.ss (.o (hp _ (.head _)) .rr) .rr)
abbrev wEB(a b:List Br)(i:Int)(x:List (Nat×PE aF)):aQ aF:=⟨[(1,xL 105 b),(2,.val (.fn 226 [] [])),(15,xL 105 a),(16,xi a.length),(17,xi i)]++x,[],[]⟩
abbrev cEB(a b:List Br)(k:Nat):Bool:=!(UL (a.getD k mQ) (b.getD k mQ))
def zEB(a b:List Br):Unit⊕Nat->Ex×aQ aF
 |.inl _=>(.exit 0,wEB a b a.length [(18,xl false)])
 |.inr k=>(.ret,⟨[(6,xl false)],[(a.getD k mQ).ps,(b.getD k mQ).ps],[]⟩)
theorem lEB{n:Nat}(hO:Ok n a6O)(a b:List Br)(hl:a.length<=ah)(h:a.length=b.length)(hk:∀k,k<a.length->(a.getD k mQ).ay.length<=ah):Lp n 228 0 (wEB a b 0 []) (zEB a b (bF (cEB a b) a.length)).1 (zEB a b (bF (cEB a b) a.length)).2:=
 iU (st:=fun i _=>wEB a b i []) (fun _ _=>True) (by kernel_rfl) hl trivial (fun k s m lN _ ih=>aK hO (.b (aW lN) (.o (aG lN) (.o (aG (h▸lN)) (.o (hk k lN) (.ls (.ou nofun) (.nx (ih _ trivial)))))))) (fun s _=>aK hO (.b (eX a.length) (.ou nofun)))
def Hl(a b:List Br):Bool:=if((a.length:Int) != (b.length:Int))=true then false else if jK (bF (cEB a b) a.length)=true then true else false
def acO:eY aF:=bZ 228 (a3 a9N a9N (fnA 226)) tA (fun p=>Hl p.1 p.2.1) (fun p=>[p.1.length<=ah,∀k,k<p.1.length->(p.1.getD k mQ).ay.length<=ah]) a6O
theorem ajT:Gd acO:=ajS.add fun n hO p hp=>aN hO (.sh (fun _=>.rr) fun h=>.zh (fun h2=>.w (jV (lEB hO p.1 p.2.1 (hp _ (.head _)) (l7 h) (hp (∀k,k<p.1.length->(p.1.getD k mQ).ay.length<=ah) (.tail _ (.head _)))) () h2) .rr) fun h2=>.w (jW (lEB hO p.1 p.2.1 (hp _ (.head _)) (l7 h) (hp (∀k,k<p.1.length->(p.1.getD k mQ).ay.length<=ah) (.tail _ (.head _)))) 0 h2) .rr)
def Ho(a b:Dg):Bool:=if decide (a.aA=b.aA)=true then(if decide (a.aH=b.aH)=true then(if decide (a.aO=b.aO)=true then(if Hl a.au b.au=true then a.root==b.root else false)else false)else false)else false
def acP:eY aF:=bZ 203 (a2 dA dA) tA (fun p=>Ho p.1 p.2) (fun p=>[p.1.aA.length<=ah,p.1.aH.length<=ah,p.1.aO.length<=ah,p.1.au.length<=ah,∀k,k<p.1.au.length->(p.1.au.getD k mQ).ay.length<=ah]) acO
theorem ajU:Gd acP:=ajT.add fun n hO p hp=>aN hO (.o (hp _ (.head _)) (.ss (.o (hp _ (.tail _ (.head _))) (.ss (.o (hp _ (.tail _ (.tail _ (.head _)))) (.ss (.o (hp _ (.tail _ (.tail _ (.tail _ (.head _))))) (.o (hp (∀k,k<p.1.au.length->(p.1.au.getD k mQ).ay.length<=ah) (.tail _ (.tail _ (.tail _ (.tail _ (.head _)))))) (.ss .rr .rr))) .rr)) .rr)) .rr))
theorem Xu{x y:Br}:UL x y=true↔x=y:=by
 obtain⟨a,b⟩:=x;obtain⟨c,e⟩:=y;unfold UL;simp only[Br.mk.injEq];by_cases h:a=c<;>simp[h]
theorem a3e{a b:List Br}:Hl a b=true↔a=b:=by
 unfold Hl;by_cases h:a.length=b.length
 .rw[a0g (by simp;omega)];have e:jK (bF (cEB a b) a.length)=true↔a=b:=by
   rw[dI];constructor
   .intro h1;apply aat h;intro j h3 h4;have:=h1 j h3;simp only[cEB,abB]at this;have:=Xu.1 this;simpa[List.getD,a0a h3,a0a h4]using this
   rintro rfl j _;simp only[cEB,abB];exact Xu.2 rfl
  rw[<-e];cases jK (bF (cEB a b) a.length)<;>simp
 rw[a0h (by simp;omega)];constructor
 .intro h1;cases h1
 rintro rfl;exact absurd rfl h
theorem a1o{a b:Dg}:Ho a b=true↔a=b:=by
 obtain⟨a1,a2,a3,a4,a5⟩:=a;obtain⟨b1,b2,b3,b4,b5⟩:=b;unfold Ho;simp only[Dg.mk.injEq];by_cases h1:a1=b1
 .by_cases h2:a2=b2
  .by_cases h3:a3=b3
   .have h4:=a3e (a:=a4) (b:=b4);cases e:Hl a4 b4
    .rw[e]at h4;simp[h1,h2,h3];intro h5;exact absurd h5 (by simpa using h4)
    rw[e]at h4;simp at h4;simp[h1,h2,h3,h4]
   simp[h3]
  simp[h2]
 simp[h1]
open Go Tw Pv bW
def wR(s:List Int×List Int)(x:Int):Int:=if x<0 then i64.wrap (-1-(s.2.idxOf (jA x):Nat))else(s.1.idxOf x:Nat)
def Vw(s:List Int×List Int)(x:Int):Prop:=(x<0->jA x∈s.2)∧(0<=x->x∈s.1)
def KS(d:Dg)(s:List Int×List Int):Cs:=⟨s.2.map fun e=>d.aO.getD e.toNat V0,s.1.map fun o=>⟨(aj d o).var,(aj d o).ay.map (wR s)⟩,s.1.map fun o=>(o,wR s o)⟩
def Jc(d:Dg)(s:List Int×List Int):Prop:=∀o∈s.1,∀k∈(aj d o).ay,Vw s k
theorem UM{s:List Int×List Int}{x:Int}(l:List Int)(h:Vw s x):wR (s.1,s.2++l) x=wR s x:=by
 unfold wR;split
 .rename_i c;rw[a9u,a0h (h.1 c)]
 rfl
theorem Hq{s:List Int×List Int}{x:Int}(l:List Int)(h:Vw s x):wR (s.1++l,s.2) x=wR s x:=by
 unfold wR;split
 .rfl
 rename_i c;rw[a9u,a0h (h.2 (by omega))]
theorem afb{d:Dg}{s:List Int×List Int}(hk:Jc d s)(hn:∀o∈s.1,0<=o)(e:Int):KS d (s.1,s.2++[e])=⟨(KS d s).e++[d.aO.getD e.toNat V0],(KS d s).n,(KS d s).k⟩:=by
 unfold KS;simp only[a3Y,a3Z,abE,Cs.mk.injEq,true_and];constructor
 .apply a6m;intro o ho;congr 1;apply a6m;intro k lN;exact UM [e] (hk o ho k lN)
 apply a6m;intro o ho;rw[UM [e] ⟨fun c=>absurd (hn o ho) (by omega),fun _=>ho⟩]
theorem aae{d:Dg}{s:List Int×List Int}(hk:Jc d s)(hn:∀o∈s.1,0<=o){r:Int}(h0:0<=r)(hr:r∉s.1)(LW:∀k∈(aj d r).ay,Vw s k):KS d (s.1++[r],s.2)=⟨(KS d s).e,(KS d s).n++[⟨(aj d r).var,(aj d r).ay.map (wR s)⟩],(KS d s).k++[(r,(s.1.length:Int))]⟩:=by
 unfold KS;simp only[a3Y,a3Z,abE,Cs.mk.injEq,true_and];refine⟨?_,?_⟩
 .congr 1
  .apply a6m;intro o ho;congr 1;exact a6m fun k lN=>Hq [r] (hk o ho k lN)
  congr 2;exact a6m fun k lN=>Hq [r] (LW k lN)
 congr 1
 .apply a6m;intro o ho;rw[Hq [r] ⟨fun c=>absurd (hn o ho) (by omega),fun _=>ho⟩]
 congr 2;unfold wR;rw[a0g (by omega)];simp[a9u,hr]
theorem ajV{a b:Nat}(ha:a<=2^61)(hb:b<=2^61)(h:i64.wrap (-1-(a:Int))=i64.wrap (-1-(b:Int))):a=b:=by
 rw[fH (by omega) (by omega),fH (by omega) (by omega)]at h;omega
theorem a1p{l:List Int}{a b:Int}(ha:a∈l)(hb:b∈l)(h:l.idxOf a=l.idxOf b):a=b:=by
 have h1:=a8z (a4F.2 ha);have h2:=a8z (a4F.2 hb);rw[<-h1,<-h2];congr 1
theorem a6P{x y:Int}(hx:KP x)(hy:KP y)(cx:x<0)(cy:y<0)(h:jA x=jA y):x=y:=by
 unfold jA at h;rw[LV hx cx,LV hy cy]at h;omega
theorem a1q{s:List Int×List Int}(hs:s.2.length<=2^61){x y:Int}(hx:Vw s x)(hy:Vw s y)(wx:KP x)(wy:KP y)(h:wR s x=wR s y):x=y:=by
 have lt:∀z,z∈s.2->s.2.idxOf z<=2^61:=fun z hz=>a4A (abm (a4F.2 hz)) hs;unfold wR at h;by_cases cx:x<0
 .rw[a0h cx]at h;by_cases cy:y<0
  .rw[a0h cy]at h;exact a6P wx wy cx cy (a1p (hx.1 cx) (hy.1 cy) (ajV (lt _ (hx.1 cx)) (lt _ (hy.1 cy)) h))
  rw[a0g cy]at h;have:=lt _ (hx.1 cx);rw[fH (by omega) (by omega)]at h;omega
 rw[a0g cx]at h;by_cases cy:y<0
 .rw[a0h cy]at h;have:=lt _ (hy.1 cy);rw[fH (by omega) (by omega)]at h;omega
 rw[a0g cy]at h;exact a1p (hx.2 (by omega)) (hy.2 (by omega)) (by omega)
open Go Tw Pv bW
def Ext(s t:List Int×List Int):Prop:=∃a b,t=(s.1++a,s.2++b)
theorem Ext.refl(s:List Int×List Int):Ext s s:=⟨[],[],by simp⟩
theorem Ext.trans{s t u:List Int×List Int}(h:Ext s t)(h2:Ext t u):Ext s u:=by
 obtain⟨a,b,rfl⟩:=h;obtain⟨c,e,rfl⟩:=h2;exact⟨a++c,b++e,by simp⟩
theorem Vw.ext{s t:List Int×List Int}{x:Int}(h:Vw s x)(he:Ext s t):Vw t x:=by
 obtain⟨a,b,rfl⟩:=he;exact⟨fun c=>a5d _ (h.1 c),fun c=>a5d _ (h.2 c)⟩
theorem aaf{s t:List Int×List Int}{x:Int}(h:Vw s x)(he:Ext s t):wR t x=wR s x:=by
 have hc:=h;obtain⟨a,b,rfl⟩:=he;have h2:Vw (s.1,s.2++b) x:=⟨fun c=>a5d _ (h.1 c),h.2⟩;rw[<-UM b h,<-Hq a h2]
theorem SH{α β:Type}{g1:Nat->α->α}{g2:Nat->β->β}(R:Nat->α->β->Prop):∀(m k:Nat) (a:α) (b:β),R k a b->(∀j a b,k<=j->j<k+m->R j a b->R (j+1) (g1 j a) (g2 j b))->R (k+m) (aT g1 m k a) (aT g2 m k b)
 | 0,_,_,_,h,_=>h
 |m+1,k,a,b,h,hs=>by
  have:=SH R m (k+1) (g1 k a) (g2 k b) (hs k a b (a15 _) (by omega) h) (fun j a b h1 h2=>hs j a b (by omega) (by omega));rw[show k+(m+1)=k+1+m by omega];exact this
theorem a1r{α β:Type}[BEq α][LawfulBEq α][BEq β][LawfulBEq β]{f:α->β}{a:α}:∀{l:List α},(∀b∈l,f b=f a->b=a)->(l.map f).idxOf (f a)=l.idxOf a
 | [],_=>rfl
 |c::l,h=>by
  rw[a3Z,adu,adu,a1r fun b hb=>h b (a3O _ hb)];by_cases hc:c=a
  .subst hc;simp
  have:¬(f c=f a):=fun e=>hc (h c (.head _) e);rw[show(c==a)=false by simpa using hc,show(f c==f a)=false by simpa using this]
structure DgD(d:Dg):Prop where
 aO:d.aO.Nodup
 au:∀i j,i<d.au.length->j<d.au.length->(fC d i).var=(fC d j).var->(fC d i).ay=(fC d j).ay->i=j
 flat:∀i,i<d.au.length->((fC d i).ay.all fun x=>x==(fC d i).ay.getD 0 0)=false
theorem Xv{d:Dg}(h:d.aO.Nodup){a b:Int}(ha:gQ a d.aO.length)(hb:gQ b d.aO.length)(e:d.aO.getD a.toNat V0=d.aO.getD b.toNat V0):a=b:=by
 have h1:a.toNat<d.aO.length:=by have:=ha.1;have:=ha.2;omega
 have h2:b.toNat<d.aO.length:=by have:=hb.1;have:=hb.2;omega
 simp only[List.getD,a0a h1,a0a h2,a4H]at e;have:=(aao h).1 e;have:=ha.1;have:=hb.1;omega
theorem afc{d:Dg}(hd:DgD d){s:List Int×List Int}(hs:J7 d s){r:Int}(hr:gQ (jA r) d.aO.length):(KS d s).e.idxOf (oW d r)=s.2.idxOf (jA r)∧(oW d r∈(KS d s).e↔jA r∈s.2):=by
 have hi:∀b∈s.2,(fun e:Int=>d.aO.getD e.toNat V0) b=(fun e:Int=>d.aO.getD e.toNat V0) (jA r)->b=jA r:=fun b hb e=>Xv hd.aO (hs.e2 b hb) hr e;refine⟨a1r (f:=fun e:Int=>d.aO.getD e.toNat V0) (a:=jA r) hi,?_⟩;constructor
 .intro h;obtain⟨b,hb,e⟩:=a1f.1 h;rw[<-hi b hb e];exact hb
 intro h;exact a1f.2 ⟨jA r,h,rfl⟩
theorem afd{d:Dg}{s:List Int×List Int}{r:Int}(h:r∈s.1):UK (KS d s).k r=wR s r:=by
 have h1:r∈(KS d s).k.map (·.1):=by
  unfold KS;rw[a7U];exact a1f.2 ⟨r,h,rfl⟩
 have h2:=a1n h1;obtain⟨o,_,e⟩:=a1f.1 h2;have e1:o=r:=congrArg Prod.fst e;have e2:wR s o=UK (KS d s).k r:=congrArg Prod.snd e;rw[<-e2,e1]
theorem aag{a b:List Int}(h:a.length=b.length)(ha:a.length<=12)(e:Hf a=Hf b):a=b:=by
 unfold Hf at e;have:=congrArg (List.take a.length) e;rw[agr,agr,a8s ha,List.take_append_of_le_length (a15 _),List.take_append_of_le_length (by omega),abu,h,abu]at this;exact this
theorem map_inj{α β:Type}{f:α->β}:∀{a b:List α},(∀x∈a,∀y∈b,f x=f y->x=y)->a.map f=b.map f->a=b
 | [],[],_,_=>rfl
 | [],_::_,_,h=>by simp at h
 |_::_,[],_,h=>by simp at h
 |x::a,y::b,hi,h=>by
  simp only[a3Z,afN]at h;rw[hi x (.head _) y (.head _) h.1,map_inj (fun u hu v hv=>hi u (a3O _ hu) v (a3O _ hv)) h.2]
open Go Tw Pv bW
structure Alk(d:Dg)(F:Nat)(r:Int)(s:List Int×List Int):Prop where
 eq:bY d F r (KS d s)=(wR (jH d F r s) r,KS d (jH d F r s))
 ay:Jc d (jH d F r s)
 cov:Vw (jH d F r s) r
 ext:Ext s (jH d F r s)
theorem acR{d:Dg}(h:BD d)(hw:Ih d)(hd:DgD d)(he:d.aO.length<=2^61):∀(F:Nat) (r:Int) (s:List Int×List Int),r+1<F->J7 d s->Jc d s->jk d r d.au.length->1<=F->Alk d F r s
 | 0,r,s,_,_,_,_,h1=>by omega
 |F+1,r,s,hF,hs,hk,hr,_=>by
  have hn:∀o∈s.1,0<=o:=fun o ho=>(hs.n2 o ho).1;by_cases c:r<0
  .have t0:decide (r<0)=true:=(by simpa using c);obtain⟨q1,q2⟩:=afc hd hs (hr.2 c);have e1:bY d (F+1) r (KS d s)=(i64.wrap (-1-((KS d s).e.idxOf (oW d r):Nat)),⟨jO (KS d s).e (oW d r),(KS d s).n,(KS d s).k⟩):=by unfold bY;rw[a0h t0]
   by_cases c2:jA r∈s.2
   .have e2:jH d (F+1) r s=s:=by unfold jH;rw[a0h t0,a0g (by simpa using c2)]
    refine⟨?_,by rw[e2];exact hk,by rw[e2];exact⟨fun _=>c2,fun h0=>by omega⟩,by rw[e2];exact .refl s⟩;rw[e1,e2,q1,show jO (KS d s).e (oW d r)=(KS d s).e from a0h (q2.2 c2)];unfold wR;rw[a0h c]
   have e2:jH d (F+1) r s=(s.1,s.2++[jA r]):=by unfold jH;rw[a0h t0,a0h (by simpa using c2)]
   have hc:Vw (s.1,s.2++[jA r]) r:=⟨fun _=>by simp,fun h0=>by omega⟩;have hx:Ext s (s.1,s.2++[jA r]):=⟨[],[jA r],by simp⟩;refine⟨?_,by rw[e2];exact fun o ho k lN=>(hk o ho k lN).ext hx,by rw[e2];exact hc,by rw[e2];exact hx⟩;rw[e1,e2,q1,afb hk hn,show jO (KS d s).e (oW d r)=(KS d s).e++[oW d r]from a0g (fun e=>c2 (q2.1 e))];unfold wR;rw[a0h c];simp[a9u,c2,a9m c2,oW]
  have t0:¬(decide (r<0)=true):=by simpa using c
  have xH:(KS d s).k.map (·.1)=s.1:=by unfold KS;rw[a7U];exact List.map_id _
  by_cases c2:r∈s.1
  .have e2:jH d (F+1) r s=s:=by unfold jH;rw[a0g t0,a0h (by simpa using c2)]
   have e1:bY d (F+1) r (KS d s)=(UK (KS d s).k r,KS d s):=by unfold bY;rw[a0g t0,a0h (by rw[xH];simpa using c2)]
   refine⟨?_,by rw[e2];exact hk,by rw[e2];exact⟨fun h0=>absurd h0 c,fun _=>c2⟩,by rw[e2];exact .refl s⟩;rw[e1,e2,afd c2]
  have aS:r.toNat<d.au.length:=by have:=hr.1;omega
  have BF:∀k,k<(aj d r).ay.length->(aj d r).ay.getD k 0<r:=fun k lN=>by
   have h9:=(h.Aq r.toNat aS k lN).1;have h9:(aj d r).ay.getD k 0<(r.toNat:Int):=h9;omega
  have LW:∀j,j<(aj d r).ay.length->jk d ((aj d r).ay.getD j 0) d.au.length:=fun j hj=>⟨by have:=BF j hj;have:=hr.1;omega,(h.Aq r.toNat aS j hj).2⟩;have a6f:=SH (g1:=fun j (y:List Int×Cs)=>(y.1.set j (bY d F ((aj d r).ay.getD j 0) y.2).1,(bY d F ((aj d r).ay.getD j 0) y.2).2)) (g2:=fun k y=>jH d F ((aj d r).ay.getD k 0) y)
   (fun j (y:List Int×Cs) (t:List Int×List Int)=>y=(((aj d r).ay.take j).map (wR t)++List.replicate ((aj d r).ay.length-j) 0,KS d t)∧J7 d t∧Jc d t∧Ext s t∧r∉t.1∧∀i,i<j->Vw t ((aj d r).ay.getD i 0)) (aj d r).ay.length 0 (List.replicate (aj d r).ay.length 0,KS d s) s ⟨by simp,hs,hk,.refl s,c2,fun i hi=>by omega⟩ (fun j y t _ hj hy=>by
    obtain⟨rfl,y1,y2,y3,y4,y5⟩:=hy;have hj:j<(aj d r).ay.length:=(by omega);have ih:=acR h hw hd he F _ t (by have:=BF j hj;omega) y1 y2 (LW j hj) (by omega);have hno:=a6u F ((aj d r).ay.getD j 0) r t (BF j hj) y4 (by omega) (fun i hi k hk=>(h.Aq i hi k hk).1) (fun h5=>⟨h5,by have:=(LW j hj).1;omega⟩);have QB:=Ko h F ((aj d r).ay.getD j 0) t y1 (LW j hj);obtain⟨i1,i2,i3,i4⟩:=ih;simp only[i1];generalize jH d F ((aj d r).ay.getD j 0) t=u at i2 i3 i4 hno QB ⊢;refine⟨?_,QB,i2,y3.trans i4,hno,fun i hi=>?_⟩
    .simp only[a0S,and_true];have hl:(List.map (wR t) (List.take j (aj d r).ay)).length=j:=by rw[a4e,a3R];omega
     rw[show(aj d r).ay.length-j=((aj d r).ay.length-(j+1))+1 by omega,afl,List.set_append_right _ _ (by rw[hl];exact a15 j)];rw[hl,agD,List.set_cons_zero,a7I hj,a3Y,a5F];congr 1
     .apply a6m;intro x hx;obtain⟨i,hi,rfl⟩:=a4E.1 hx;have zV:i<j:=by simp at hi;omega
      have:=y5 i zV;rw[rC (l:=(aj d r).ay) (show i<(aj d r).ay.length by omega)]at this;rw[List.getElem_take];exact(aaf this i4).symm
     .rw[rC hj];rfl
    .by_cases zV:i<j
     .exact(y5 i zV).ext i4
     .rw[show i=j by omega];exact i3)
  have e1:bY d (F+1) r (KS d s)=(dU (aT (fun j (y:List Int×Cs)=>(y.1.set j (bY d F ((aj d r).ay.getD j 0) y.2).1,(bY d F ((aj d r).ay.getD j 0) y.2).2)) (aj d r).ay.length 0 (List.replicate (aj d r).ay.length 0,KS d s)).2.n (aj d r).var (aT (fun j (y:List Int×Cs)=>(y.1.set j (bY d F ((aj d r).ay.getD j 0) y.2).1,(bY d F ((aj d r).ay.getD j 0) y.2).2)) (aj d r).ay.length 0 (List.replicate (aj d r).ay.length 0,KS d s)).1,⟨(aT (fun j (y:List Int×Cs)=>(y.1.set j (bY d F ((aj d r).ay.getD j 0) y.2).1,(bY d F ((aj d r).ay.getD j 0) y.2).2)) (aj d r).ay.length 0 (List.replicate (aj d r).ay.length 0,KS d s)).2.e,dn (aT (fun j (y:List Int×Cs)=>(y.1.set j (bY d F ((aj d r).ay.getD j 0) y.2).1,(bY d F ((aj d r).ay.getD j 0) y.2).2)) (aj d r).ay.length 0 (List.replicate (aj d r).ay.length 0,KS d s)).2.n (aj d r).var (aT (fun j (y:List Int×Cs)=>(y.1.set j (bY d F ((aj d r).ay.getD j 0) y.2).1,(bY d F ((aj d r).ay.getD j 0) y.2).2)) (aj d r).ay.length 0 (List.replicate (aj d r).ay.length 0,KS d s)).1,(aT (fun j (y:List Int×Cs)=>(y.1.set j (bY d F ((aj d r).ay.getD j 0) y.2).1,(bY d F ((aj d r).ay.getD j 0) y.2).2)) (aj d r).ay.length 0 (List.replicate (aj d r).ay.length 0,KS d s)).2.k++[(r,dU (aT (fun j (y:List Int×Cs)=>(y.1.set j (bY d F ((aj d r).ay.getD j 0) y.2).1,(bY d F ((aj d r).ay.getD j 0) y.2).2)) (aj d r).ay.length 0 (List.replicate (aj d r).ay.length 0,KS d s)).2.n (aj d r).var (aT (fun j (y:List Int×Cs)=>(y.1.set j (bY d F ((aj d r).ay.getD j 0) y.2).1,(bY d F ((aj d r).ay.getD j 0) y.2).2)) (aj d r).ay.length 0 (List.replicate (aj d r).ay.length 0,KS d s)).1)]⟩):=by
   rw[bY,a0g t0,a0g (by rw[xH];simpa using c2)]
  have e2:jH d (F+1) r s=((aT (fun k y=>jH d F ((aj d r).ay.getD k 0) y) (aj d r).ay.length 0 s).1++[r],(aT (fun k y=>jH d F ((aj d r).ay.getD k 0) y) (aj d r).ay.length 0 s).2):=by
   rw[jH,a0g t0,a0g (by simpa using c2)]
  generalize aT (fun j (y:List Int×Cs)=>(y.1.set j (bY d F ((aj d r).ay.getD j 0) y.2).1,(bY d F ((aj d r).ay.getD j 0) y.2).2)) (aj d r).ay.length 0 (List.replicate (aj d r).ay.length 0,KS d s)=y at a6f e1;generalize aT (fun k y=>jH d F ((aj d r).ay.getD k 0) y) (aj d r).ay.length 0 s=t at a6f e2;obtain⟨rfl,f2,f3,f4,f5,f6⟩:=a6f;rw[a3U]at f6;simp only[a3U,abu,agD,List.replicate_zero,a6S]at e1;have a6Q:∀k∈(aj d r).ay,Vw t k:=fun k lN=>by
   obtain⟨i,hi,rfl⟩:=a4E.1 lN;have:=f6 i hi
   rwa [rC hi]at this
  have hW:∀o,0<=o->gQ o d.au.length->∀k∈(aj d o).ay,KP k:=fun o _ ho k lN=>by
   obtain⟨i,hi,rfl⟩:=a4E.1 lN;have:=hw.Aq o.toNat (by have:=ho.1;have:=ho.2;omega) i hi
   rwa [rC hi]at this
  have hrI:gQ r d.au.length:=⟨by omega,hr.1⟩;have hel:t.2.length<=2^61:=a4A f2.len.2 he;have acS:((aj d r).ay.map (wR t)).all (fun x=>x==((aj d r).ay.map (wR t)).getD 0 0)=false:=by
   cases e:((aj d r).ay.map (wR t)).all (fun x=>x==((aj d r).ay.map (wR t)).getD 0 0)
   .rfl
   exfalso;have hf:=hd.flat r.toNat aS;rw[List.all_eq_false]at hf;obtain⟨x,hx,hx2⟩:=hf;have hx:x∈(aj d r).ay:=hx;have h0:0<(aj d r).ay.length:=List.length_pos_of_mem hx;rw[a4s]at e;have:=e (wR t x) (a1f.2 ⟨x,hx,rfl⟩);rw[rC (by simpa using h0),a8Y]at this;have h00:(aj d r).ay[0]∈(aj d r).ay:=a4w h0;have:=a1q hel (a6Q x hx) (a6Q _ h00) (hW r (by omega) hrI x hx) (hW r (by omega) hrI _ h00) (by simpa using this);apply hx2;have h9:(fC d r.toNat).ay.getD 0 0=(aj d r).ay[0]:=rC h0;rw[h9,this];simp
  have ae9:tC (aj d r).var ((aj d r).ay.map (wR t))∉(KS d t).n.map BH:=by
   intro hm;unfold KS at hm;rw[a7U]at hm;obtain⟨o,ho,e⟩:=a1f.1 hm;have YN:=f2.n2 o ho;have QN:o.toNat<d.au.length:=by have:=YN.1;have:=YN.2;omega
   have ev:(fC d o.toNat).var=(fC d r.toNat).var:=congrArg Prod.fst e;have ep:Hf ((aj d o).ay.map (wR t))=Hf ((aj d r).ay.map (wR t)):=congrArg (fun z:Ky=>z.2.val) e;have hlen:((fC d o.toNat).ay.length:Int)=((fC d r.toNat).ay.length:Int):=(by rw[h.ksz _ QN,h.ksz _ aS,ev]);have hlen:(aj d o).ay.length=(aj d r).ay.length:=by exact_mod_cast hlen
   have em:=aag (by simpa using hlen) (by rw[a4e];exact h.KN _ QN) ep;have ek:=map_inj (fun x hx y hy e=>a1q hel (f3 o ho x hx) (a6Q y hy) (hW o YN.1 YN x hx) (hW r (by omega) hrI y hy) e) em;have:=hd.au _ _ QN aS ev ek;have:o=r:=by have:=YN.1;omega
   exact f5 (this▸ho)
  have hnl:(KS d t).n.length=t.1.length:=by unfold KS;simp
  have hR:dU (KS d t).n (aj d r).var ((aj d r).ay.map (wR t))=(t.1.length:Int):=by
   unfold dU;rw[acS,a0g (by simp),a9m ae9,a4e,hnl]
  have hS:dn (KS d t).n (aj d r).var ((aj d r).ay.map (wR t))=(KS d t).n++[⟨(aj d r).var,(aj d r).ay.map (wR t)⟩]:=by
   unfold dn;rw[acS,a0g (by simp),a0g ae9]
  have hx:Ext t (t.1++[r],t.2):=⟨[r],[],by simp⟩;have hc:Vw (t.1++[r],t.2) r:=⟨fun h0=>absurd h0 c,fun _=>by simp⟩;refine⟨?_,?_,by rw[e2];exact hc,by rw[e2];exact f4.trans hx⟩
  .rw[e1,e2,hR,hS,aae f3 (fun o ho=>(f2.n2 o ho).1) (by omega) f5 a6Q];unfold wR;rw[a0g c];simp[a9u,f5]
  rw[e2];intro o ho k lN;rcases a3K.1 ho with ho|ho
  .exact(f3 o ho k lN).ext hx
  rw[a2I.1 ho]at lN;exact(a6Q k lN).ext hx
open Go Tw Pv bW
theorem Xw(b:Br):Dc b=b.ay.all fun x=>x==b.ay.getD 0 0:=by
 have e:jK (RZ (OG b) 1 (max 1 b.ay.length))=true↔∀k,1<=k->k<b.ay.length->b.ay.getD k 0=b.ay.getD 0 0:=by
  unfold RZ gS;rw[H9 (r:=fun k=>k)];constructor
  .intro h k h1 h2;simpa[OG]using h k h1 (by omega)
  intro h k h1 h2;simpa[OG]using h k h1 (by omega)
 have e2:(b.ay.all fun x=>x==b.ay.getD 0 0)=true↔∀k,1<=k->k<b.ay.length->b.ay.getD k 0=b.ay.getD 0 0:=by
  rw[a4s];constructor
  .intro h k _ h2;have:=h _ (dW h2);simpa using this
  intro h x hx;obtain⟨k,hk,rfl⟩:=a4E.1 hx;by_cases h0:k=0
  .subst h0;rw[rC hk];simp
  have:=h k (by omega) hk;rw[rC hk]at this;rw[this];simp
 have:Dc b=true↔(b.ay.all fun x=>x==b.ay.getD 0 0)=true:=by
  rw[e2,<-e];unfold Dc;cases jK (RZ (OG b) 1 (max 1 b.ay.length))<;>simp
 rw[a4u];exact this
theorem afe{d:Dg}:jK (bF (cD0 d) d.aO.length)=true↔d.aO.Nodup:=by
 rw[dI];have h1:∀i,cD0 d i=false↔∀j,j<i->d.aO.getD j V0≠d.aO.getD i V0:=fun i=>by
  have:jK (bF (cD1 d i) i)=true↔∀j,j<i->d.aO.getD j V0≠d.aO.getD i V0:=by
   rw[dI];simp[cD1]
  rw[<-this];unfold cD0;cases jK (bF (cD1 d i) i)<;>simp
 have hg:∀j,(hj:j<d.aO.length)->d.aO.getD j V0=d.aO[j]:=fun j hj=>by simp[List.getD,a0a hj]
 constructor
 .intro h;rw[acE,acV];intro i j hi hj zV;have:=(h1 j).1 (h j hj) i zV
  rwa [hg i hi,hg j hj]at this
 intro h i hi;rw[h1];intro j hj;rw[acE,acV]at h;have:=h j i (by omega) hi hj
 rwa [hg i hi,hg j (by omega)]
theorem aff{d:Dg}:jK (bF (cD2 d) d.au.length)=true↔(∀i j,i<d.au.length->j<d.au.length->(fC d i).var=(fC d j).var->(fC d i).ay=(fC d j).ay->i=j)∧∀i,i<d.au.length->((fC d i).ay.all fun x=>x==(fC d i).ay.getD 0 0)=false:=by
 rw[dI];have h1:∀i,cD2 d i=false↔Dc (fC d i)=false∧∀j,j<i->¬((fC d j).var=(fC d i).var∧(fC d j).ay=(fC d i).ay):=fun i=>by
  have h3:∀j,cD3 d i j=false↔¬((fC d j).var=(fC d i).var∧(fC d j).ay=(fC d i).ay):=fun j=>by
   unfold cD3;by_cases hv:(fC d j).var=(fC d i).var
   .rw[a0h (by rw[a88];exact hv),a2W];exact⟨fun a b=>a b.2,fun a b=>a ⟨hv,b⟩⟩
   rw[a0g (by rw[a88];exact hv)];exact⟨fun _ a=>hv a.1,fun _=>rfl⟩
  have:jK (bF (cD3 d i) i)=true↔∀j,j<i->¬((fC d j).var=(fC d i).var∧(fC d j).ay=(fC d i).ay):=by
   rw[dI];exact acv fun j=>acv fun _=>h3 j
  rw[<-this];unfold cD2;cases Dc (fC d i)
  .cases jK (bF (cD3 d i) i)<;>simp
  simp
 constructor
 .intro h;refine⟨fun i j hi hj hv hk=>?_,fun i hi=>by rw[<-Xw];exact((h1 i).1 (h i hi)).1⟩;rcases Nat.lt_trichotomy i j with zV|zV|zV
  .exact absurd ⟨hv,hk⟩ (((h1 j).1 (h j hj)).2 i zV)
  .exact zV
  exact absurd ⟨hv.symm,hk.symm⟩ (((h1 i).1 (h i hi)).2 j zV)
 intro h i hi;rw[h1];refine⟨by rw[Xw];exact h.2 i hi,fun j hj hc=>?_⟩;have:=h.1 j i (by omega) hi hc.1 hc.2;omega
theorem aah{d:Dg}:(jK (bF (cD0 d) d.aO.length)=true∧jK (bF (cD2 d) d.au.length)=true)↔DgD d:=by
 rw[afe,aff];exact⟨fun h=>⟨h.1,h.2.1,h.2.2⟩,fun h=>⟨h.aO,h.au,h.flat⟩⟩
theorem OU{l:List Int}{m:Nat}:zo l m=true↔l=dM m:=by
 unfold zo;have e:jK (bF (a6o l) l.length)=true↔∀j,j<l.length->l.getD j 0=(j:Int):=by
  rw[dI];simp[a6o]
 constructor
 .intro h;split at h
  .rename_i h1;have hl:(l.length:Int)=(m:Int):=(by simpa using h);have hl:l.length=m:=(by omega);rw[qY (d:=0) (by rw[l9,hl])];intro j hj;rw[e.1 h1 j hj];have:j<m:=(by omega);simp[dM,List.getD,this]
  cases h
 rintro rfl;rw[a0h (e.2 fun j hj=>by rw[l9]at hj;simp[dM,List.getD,hj]),l9];simp
theorem Xx{d:Dg}:oV d=true↔DgD d∧srN d d.root=dM d.au.length∧srE d d.root=dM d.aO.length:=by
 rw[<-aah,<-OU,<-OU];unfold oV;cases jK (bF (cD0 d) d.aO.length)
 .simp
 cases jK (bF (cD2 d) d.au.length)
 .simp
 cases zo (srN d d.root) (d.au.length:Int)<;>simp
open Go Tw Pv bW
abbrev ZA:Cs:=⟨[],[],[]⟩
def eU(d:Dg):Dg:=⟨d.aA,d.aH,(bY d 6002 d.root ZA).2.e,(bY d 6002 d.root ZA).2.n,(bY d 6002 d.root ZA).1⟩
theorem UN{d:Dg}:Dj d ZA:=⟨a7f,by simp,a7f,by simp,a7f,by simp⟩
abbrev a6R(b:Br):Bool:=b.ay.all fun x=>x==b.ay.getD 0 0
theorem a1s{d:Dg}:∀(F:Nat) (r:Int) (x:Cs),(∀b∈x.n,a6R b=false)->∀b∈(bY d F r x).2.n,a6R b=false
 | 0,_,_,h=>h
 |F+1,r,x,h=>by
  unfold bY;split
  .exact h
  split
  .exact h
  have hb:=(Hg (d:=d) (fun y=>∀b∈y.n,a6R b=false) (F:=F) (r:=r) h (fun j y _ hy=>a1s F _ y hy)).2;intro b Qo;simp only[dn]at Qo;split at Qo
  .exact hb b Qo
  rename_i hf;split at Qo
  .exact hb b Qo
  rcases a3K.1 Qo with Qo|Qo
  .exact hb b Qo
  rw[a2I.1 Qo];simpa using hf
theorem a3f{d:Dg}(h:BD d)(e:eU d=d):DgD d:=by
 have hc:=OM h 6002 d.root ZA UN h.root;have hf:=a1s (d:=d) 6002 d.root ZA (by simp);have ee:(bY d 6002 d.root ZA).2.e=d.aO:=congrArg Dg.aO e;have en:(bY d 6002 d.root ZA).2.n=d.au:=congrArg Dg.au e;rw[en]at hf;have hg:∀j,(hj:j<d.au.length)->fC d j=d.au[j]:=fun j hj=>by simp[List.getD,a0a hj]
 refine⟨ee▸hc.e1,fun i j hi hj hv hk=>?_,fun i hi=>?_⟩
 .have hn:(d.au.map BH).Nodup:=en▸hc.n1;have:=(aao (i:=i) (j:=j) (h₀:=by simpa using hi) (h₁:=by simpa using hj) hn).1 (by
   rw[a8Y,a8Y,<-hg i hi,<-hg j hj];show tC _ _=tC _ _;rw[hv,hk])
  exact this
 have:=hf (fC d i) (by rw[hg i hi];exact a4w hi);exact this
theorem OV{d:Dg}{n m:Nat}{x:Int}(hm:m<=2^61)(hx:KP x)(hc:Vw (dM n,dM m) x):wR (dM n,dM m) x=x:=by
 have hid:∀(n:Nat) (y:Int),y∈dM n->(((dM n).idxOf y:Nat):Int)=y:=fun n y hy=>by
  have hl:=a4F.2 hy;have h1:=a8z hl;rw[l9]at hl;simp only[dM,a8Y,List.getElem_range]at h1;exact h1
 unfold wR;by_cases c:x<0
 .rw[a0h c];have h1:=hid m _ (hc.1 c);have h2:jA x=-1-x:=LV hx c;have h3:=a1i (hc.1 c);have h4:=h3.2;rw[show((((dM n,dM m):List Int×List Int).2.idxOf (jA x):Nat):Int)=jA x from h1,h2,fH (by omega) (by omega)];omega
 rw[a0g c];exact hid n _ (hc.2 (by omega))
theorem Xy{α:Type}(l:List α)(f:Int->α)(h:∀j,(hj:j<l.length)->f j=l[j]):(dM l.length).map f=l:=by
 apply aat (by simp[dM]);intro j h1 h2;simp[dM,h j h2]
theorem a1t{d:Dg}{j:Nat}(hj:j<d.aO.length):d.aO.getD ((j:Nat):Int).toNat V0=d.aO[j]:=by simp[List.getD,a0a hj]
theorem a1u{l:List Int}{m:Nat}(hl:l.length=m)(h:∀j,(hj:j<l.length)->l[j]=(j:Int)):l=dM m:=by
 apply aat (by rw[l9,hl]);intro j h1 h2;rw[h j h1];simp[dM]
theorem afg{d:Dg}(h:BD d)(hw:Ih d)(hd:DgD d)(he:d.aO.length<=2^61){t:List Int×List Int}(ht:J7 d t)(hk:Jc d t)(hc:Vw t d.root):((KS d t).e=d.aO∧(KS d t).n=d.au∧wR t d.root=d.root)↔(t.1=dM d.au.length∧t.2=dM d.aO.length):=by
 have hW:∀o,gQ o d.au.length->∀k∈(aj d o).ay,KP k:=fun o ho k lN=>by
  obtain⟨i,hi,rfl⟩:=a4E.1 lN;have:=hw.Aq o.toNat (by have:=ho.1;have:=ho.2;omega) i hi
  rwa [rC hi]at this
 have hg:∀j,(hj:j<d.au.length)->aj d (j:Nat)=d.au[j]:=fun j hj=>by simp[List.getD,a0a hj]
 constructor
 .rintro⟨h1,h2,h3⟩;have l1:t.2.length=d.aO.length:=by have:=congrArg List.length h1;simpa[KS]using this
  have l2:t.1.length=d.au.length:=by have:=congrArg List.length h2;simpa[KS]using this
  have e2:t.2=dM d.aO.length:=a1u l1 fun j hj=>by
   have rO:j<d.aO.length:=(by omega);have:(KS d t).e[j]'(by rw[h1];exact rO)=d.aO[j]:=(by simp only[h1]);unfold KS at this;simp only[a8Y]at this;rw[<-a1t rO]at this;exact Xv hd.aO (ht.e2 _ (a4w hj)) (aG rO) this
  have key:∀(N:Nat) (o:Int),o∈t.1->o.toNat<N->wR t o=o:=by
   intro N
   induction N with
   |zero=>intro o _ hN;omega
   |succ N ih=>
    intro o ho hN;have YN:=ht.n2 o ho;have aS:=a4F.2 ho;have rO:t.1.idxOf o<d.au.length:=(by omega);have hel:=a8z aS;have:(KS d t).n[t.1.idxOf o]'(by rw[h2];exact rO)=d.au[t.1.idxOf o]:=(by simp only[h2]);unfold KS at this;simp only[a8Y,hel]at this;have hkm:(aj d o).ay.map (wR t)=(aj d o).ay:=by
     conv=>rhs;rw[<-List.map_id (aj d o).ay]
     apply a6m;intro k lN;show wR t k=k;have hcv:=hk o ho k lN;by_cases c:k<0
     .have:=OV (d:=d) (n:=0) (m:=d.aO.length) he (hW o YN k lN) ⟨fun c=>by have:=hcv.1 c;rwa [e2]at this,fun h0=>by omega⟩;unfold wR at this ⊢;rw[a0h c]at this ⊢;rw[e2];exact this
     obtain⟨i,hi,rfl⟩:=a4E.1 lN;have aoS:o.toNat<d.au.length:=by have:=YN.1;have:=YN.2;omega
     have h9:=(h.Aq o.toNat aoS i hi).1;have h9:(aj d o).ay.getD i 0<(o.toNat:Int):=h9;rw[rC hi]at h9;exact ih _ (hcv.2 (by omega)) (by omega)
    rw[hkm]at this;have hv:(fC d (t.1.idxOf o)).var=(fC d o.toNat).var:=(by rw[show fC d (t.1.idxOf o)=d.au[t.1.idxOf o]from hg _ rO,<-this]);have xH:(fC d (t.1.idxOf o)).ay=(fC d o.toNat).ay:=(by rw[show fC d (t.1.idxOf o)=d.au[t.1.idxOf o]from hg _ rO,<-this]);have h8:=hd.au _ _ rO (by have:=YN.1;have:=YN.2;omega) hv xH;unfold wR;rw[a0g (by have:=YN.1;omega),h8];have:=YN.1;omega
  refine⟨a1u l2 fun j hj=>?_,e2⟩;have hm:=a4w hj;have:=key ((t.1[j]).toNat+1) _ hm (by omega);unfold wR at this;rw[a0g (by have:=(ht.n2 _ hm).1;omega)]at this;rw[<-this];have:t.1.idxOf t.1[j]=j:=by
   have h5:=a4F.2 hm;exact(aao (i:=t.1.idxOf t.1[j]) (j:=j) (h₀:=h5) (h₁:=hj) ht.n1).1 (a8z h5)
  rw[this]
 rintro⟨h1,h2⟩;obtain⟨t1,t2⟩:=t;simp only at h1 h2;subst h1 h2;refine⟨?_,?_,OV (d:=d) he hw.root hc⟩
 .exact Xy d.aO (fun e=>d.aO.getD e.toNat V0) fun j hj=>a1t hj
 refine Xy d.au _ fun j hj=>?_;have hkm:(aj d (j:Nat)).ay.map (wR (dM d.au.length,dM d.aO.length))=(aj d (j:Nat)).ay:=by
  conv=>rhs;rw[<-List.map_id (aj d (j:Nat)).ay]
  apply a6m;intro k lN;exact OV (d:=d) he (hW _ (aG hj) k lN) (hk _ (by show(j:Int)∈dM _;unfold dM;rw[a1f];exact⟨j,a4f.2 hj,rfl⟩) k lN)
 rw[hkm,hg j hj]
theorem a3g{d:Dg}(h:BD d)(hw:Ih d)(he:d.aO.length<=2^61)(hn:d.au.length<=6000):eU d=d↔oV d=true:=by
 have main:DgD d->(eU d=d↔(srN d d.root=dM d.au.length∧srE d d.root=dM d.aO.length)):=fun hd=>by
  have hr:d.root+1<6002:=by have:=h.root.1;omega
  have ha:=acR h hw hd he 6002 d.root ([],[]) hr sr0 (fun o ho=>by cases ho) h.root (by omega);have hs:=Ko h 6002 d.root ([],[]) sr0 h.root;have hi:=afg h hw hd he hs ha.ay ha.cov;have e0:KS d ([],[])=ZA:=rfl;have e1:=ha.eq;rw[e0]at e1;unfold srN srE;rw[<-hi];unfold eU;rw[e1];obtain⟨d1,d2,d3,d4,d5⟩:=d;simp
 rw[Xx];constructor
 .intro e;have hd:=a3f h e;exact⟨hd,(main hd).1 e⟩
 rintro⟨hd,h2⟩;exact(main hd).2 h2
open Go Tw Pv bW
abbrev HCw(l:Lo)(x:Cs):List (PB aF):=[.list false false 3 l.s,.list false false 3 l.o,.map (kV.es (zu x.e)),.map (kK.es (yB x.n)),mkC l.s l.o 12 13 0,.gone,.gone,.cells l.ps,.cells [.ptr 4 0 9],.map (kI.es (KQ x.k)),.cells [.map 9],.cells [.fn 195 [] pC],PX x.e,PY x.n]
structure ClP(l:Lo):Prop where
 s:l.s=l.d.aA
 o:l.o=l.d.aH
 t:BD l.d
 e:l.d.aO.length+1<=ah
 n:l.d.au.length<=6000
 k:∀i,i<l.d.au.length->1<=(fC l.d i).ay.length
 sl:l.d.aA.length<=ah
 ol:l.d.aH.length<=ah
def acT:eY aF:=bZ 161 (a1 loA) dA (fun l=>eU l.d) (fun l=>[ClP l]) acP
theorem ajW:Gd acT:=ajU.WZ 6010 acI fun n hn hO hOl l hp=>by
 obtain⟨n,rfl⟩:∃k,n=k+6009:=⟨n-6009,by omega⟩;have h:ClP l:=hp _ (.head _);obtain⟨s,o,d⟩:=l;obtain⟨e1,e2,ht,he,hn6,hk,hsl,QN⟩:=h;obtain rfl:s=d.aA:=e1;obtain rfl:o=d.aH:=e2;have hO':∀m,n+1<=m->Ok m _:=fun m hm=>hOl m (by omega);have he:d.aO.length+1<=ah:=he;have hn6:d.au.length<=6000:=hn6;have hr:=ht.root.1;have hr:d.root<(d.au.length:Int):=hr;have pJ:=sCl (N:=n+1) hO' ht he (by unfold ah;omega) hk 6002 d.root ZA (by omega) UN ht.root (by omega);have gW:=aoO (n:=n+6008) (hO' _ (by omega)) d.aA d.aH hsl QN;show mY _ _ _ _ _ (dA.put (eU d)) _;unfold eU;generalize bY d 6002 d.root ZA=z at pJ ⊢;obtain⟨v,e,nd,k⟩:=z;exact aN (hO (n+6009) (by omega)) (.fr [] gW (.Qh (H2:=HCw (yG d) ⟨e,nd,k⟩) [1,2,3,4,5,6,7,0,8,9,10,11] [7,8,10,11] pJ .rr))
open Go Tw Pv bW
theorem a1v{d:Dg}(h:BD d):∀(F:Nat) (r:Int) (x:Cs),(∀b∈x.n,b.ay.length<=12)->jk d r d.au.length->∀b∈(bY d F r x).2.n,b.ay.length<=12
 | 0,_,_,hx,_=>hx
 |F+1,r,x,hx,hr=>by
  unfold bY;by_cases c:r<0
  .rw[a0h (by simpa using c)];exact hx
  rw[a0g (by simpa using c)];split
  .exact hx
  have aS:r.toNat<d.au.length:=by have:=hr.1;omega
  have hb:=Hg (d:=d) (fun y=>∀b∈y.n,b.ay.length<=12) (F:=F) (r:=r) hx (fun j y hj hy=>a1v h F _ y hy (by
   have h9:=h.Aq r.toNat aS j hj;have h8:=h9.1;have h8:(aj d r).ay.getD j 0<(r.toNat:Int):=h8;exact⟨by have:=hr.1;omega,h9.2⟩))
  intro b Qo;simp only[dn]at Qo;split at Qo
  .exact hb.2 b Qo
  split at Qo
  .exact hb.2 b Qo
  rcases a3K.1 Qo with Qo|Qo
  .exact hb.2 b Qo
  rw[a2I.1 Qo];show List.length _<=12;rw[hb.1];exact h.KN r.toNat aS
theorem wJ{d:Dg}(h:Ih d)(he:d.aO.length+1<=ah)(hs:d.aA.length<=ah)(ho:d.aH.length<=ah)(h0:(bD d).2=0):(bD d).1=yG d∧ClP (yG d):=by
 rw[J8 h (by omega)]at h0 ⊢;have h0:bG d=0:=h0;have hc:=mD ho (show d.aO.length<=ah by omega) (by simp[h0]);have hf:(dh d.aA d.aH != 0)=false:=by
  cases e:dh d.aA d.aH != 0
  .rfl
  unfold bG at h0;rw[a0h e]at h0;simp[h0]at e
 refine⟨by rw[a0g (by rw[hf];simp)],rfl,rfl,hc.1,he,hc.2,fun i hi=>?_,hs,ho⟩;have h1:=hc.1.ksz i hi;have h2:=hc.1.var i hi;have h3:=(Ap hf).sz _ (dW (s:=d.aA) (k:=(fC d i).var.toNat) (by have:=h2.2;have:=h2.1;omega));have h1:((fC d i).ay.length:Int)=d.aA.getD (fC d i).var.toNat 0:=h1;show 1<=(fC d i).ay.length;omega
def vC(d:Dg):Lo×Int:=if(bD d).2==0 then(if(!(Ho (eU (bD d).1.d) d))=true then((bD d).1,4)else bD d)else bD d
theorem ZB{d:Dg}(h:BD d)(hn:d.au.length<=6000):(eU d).aO.length<=d.aO.length∧(eU d).au.length<=6000∧∀b∈(eU d).au,b.ay.length<=12:=by
 have hc:=OM h 6002 d.root ZA UN h.root;refine⟨hc.ajP,?_,a1v h 6002 d.root ZA (by simp) h.root⟩;have h1:=hc.KN;have h2:=hc.n2;show(bY d 6002 d.root ZA).2.n.length<=6000;omega
theorem a3h{d:Dg}(h:Ih d)(hs:d.aA.length<=ah)(ho:d.aH.length<=2^20)(he:d.aO.length+1<=ah)(h0:((bD d).2==0)=true):ClP (bD d).1∧(eU (bD d).1.d).aA.length<=ah∧(eU (bD d).1.d).aH.length<=ah∧(eU (bD d).1.d).aO.length<=ah∧(eU (bD d).1.d).au.length<=ah∧∀k,k<(eU (bD d).1.d).au.length->((eU (bD d).1.d).au.getD k mQ).ay.length<=ah:=by
 have ho:d.aH.length<=ah:=by unfold ah;omega
 obtain⟨h1,h2⟩:=wJ h he hs ho (by simpa using h0);rw[h1];obtain⟨a,b,c⟩:=ZB h2.t h2.n;refine⟨h2,hs,ho,?_,?_,fun k hk=>?_⟩
 .have a:(eU d).aO.length<=d.aO.length:=a;show(eU d).aO.length<=ah;omega
 .have b:(eU d).au.length<=6000:=b;show(eU d).au.length<=ah;unfold ah;omega
 exact m12 (c _ (Xq hk))
def acU:eY aF:=bZ 172 (a1 dA) (dP (a2 loA iA)) (fun p=>vC p) (fun p=>[Ih p,p.aA.length<=ah,p.aH.length<=2^20,p.aO.length+1<=ah]) acT
theorem ajX:Gd acU:=ajW.add fun n hO p hp=>aN hO (.o (hp _ (.tail _ (.head _))) (.o (hp _ (.tail _ (.tail _ (.head _)))) (.o (by have h9:p.aO.length+1<=ah:=hp _ (.tail _ (.tail _ (.tail _ (.head _))));show p.aO.length<=ah;omega) (.sh (fun h=>have q:=a3h (hp _ (.head _)) (hp _ (.tail _ (.head _))) (hp _ (.tail _ (.tail _ (.head _)))) (hp _ (.tail _ (.tail _ (.tail _ (.head _))))) h;.o q.1 (.o q.2.1 (.o q.2.2.1 (.o q.2.2.2.1 (.o q.2.2.2.2.1 (.o q.2.2.2.2.2 (.ss .rr .rr))))))) fun _=>.rr))))
theorem Xz{d:Dg}(h:Ih d)(hs:d.aA.length<=ah)(ho:d.aH.length<=ah)(he:d.aO.length+1<=ah):vC d=(if(dh d.aA d.aH != 0)=true then lo0 else yG d,ru d):=by
 have h9:=J8 h (show d.aO.length<=ah by omega);unfold vC ru;by_cases h0:(bD d).2=0
 .obtain⟨h1,h2⟩:=wJ h he hs ho h0;have h3:=a3g h2.t h (show d.aO.length<=2^61 by unfold ah at he;omega) h2.n;have h4:bG d=0:=by rw[h9]at h0;exact h0
  rw[a0h (show((bD d).2==0)=true by simpa using h0),h1,h4,a0g (show ¬(((0:Int) != 0)=true) by simp)];rw[h9]at h1;show(if(!(Ho (eU d) d))=true then(yG d,4)else bD d)=_;have h1:(if(dh d.aA d.aH != 0)=true then lo0 else yG d)=yG d:=h1;rw[h9,h1];by_cases h5:eU d=d
  .rw[a0g (show ¬((!(Ho (eU d) d))=true) by rw[a1o.2 h5];simp),a0g (show ¬((!(oV d))=true) by rw[h3.1 h5];simp),h4]
  have h6:Ho (eU d) d=false:=by
   cases e:Ho (eU d) d
   .rfl
   exact absurd (a1o.1 e) h5
  have h7:oV d=false:=by
   cases e:oV d
   .rfl
   exact absurd (h3.2 e) h5
  rw[a0h (show(!(Ho (eU d) d))=true by rw[h6];rfl),a0h (show(!(oV d))=true by rw[h7];rfl)]
 have h4:¬bG d=0:=by rw[h9]at h0;exact h0
 rw[a0g (show ¬(((bD d).2==0)=true) by simpa using h0),h9,a0h (show(bG d != 0)=true by simpa using h4)]
end Go.Proofs.YtmobpoiejckagaaGreat
namespace Pv
open Go Tw
def xY:Code->Option (Code×Code)
 |.seq a b=>match xY a with
  |some r=>some r
  |none=>xY b
 |.cond _ a b=>match xY a with
  |some r=>some r
  |none=>xY b
 |.block _ b=>xY b
 |.loop b=>xY b
 |.rangeFunc _ _ a b=>some (a,b)
 |_=>none
def wK(P:Program)(f:Nat):Code:=
 match TG P f with
 |some t=>match xY t.body with
  |some (a,_)=>a
  |none=>.skip
 |none=>.skip
def Au(P:Program)(f:Nat):Code:=
 match TG P f with
 |some t=>match xY t.body with
  |some (_,b)=>b
  |none=>.skip
 |none=>.skip
end Pv
namespace Go.Proofs.YtmobpoiejckagaaGreat
open Go Tw Pv bW
def cellsD(d:Dg):List V:=(List.range (EM d.aA)).map fun(k:Nat)=>En d (mM d.aA k)
open Go Tw Pv bW
def a3i(N:List Br)(c:Int)(ks:List Int):Int:=if(ks.all fun x=>x==ks.getD 0 0)=true then ks.getD 0 0 else(N.idxOf (⟨c,ks⟩:Br):Nat)
def a3j(N:List Br)(c:Int)(ks:List Int):List Br:=if(ks.all fun x=>x==ks.getD 0 0)=true then N else if(⟨c,ks⟩:Br)∈N then N else N++[⟨c,ks⟩]
abbrev EN:Type:=List V×List Br
def gPt(f:List Int->EN->Int×EN)(c:Int)(p:List Int)(j:Nat)(y:List Int×EN):List Int×EN:=(y.1++[(f (p.set c.toNat j) y.2).1],(f (p.set c.toNat j) y.2).2)
def Qq(s:List Int)(l:List V):List Int->List Int->EN->Int×EN
 | [],p,x=>(i64.wrap (-1-(x.1.idxOf (l.getD (qx s p).toNat V0):Nat)),(jO x.1 (l.getD (qx s p).toNat V0),x.2))
 |c::r,p,x=>
  let y:=aT (gPt (Qq s l r) c p) (s.getD c.toNat 0).toNat 0 ([],x)
  (a3i y.2.2 c y.1,(y.2.1,a3j y.2.2 c y.1))
def wO(s:List Int):List Int->Nat
 | []=>1
 |c::r=>(s.getD c.toNat 0).toNat*wO s r
theorem UO{s:List Int}(hs:pR s):∀{o:List Int},(∀c∈o,gQ c s.length)->1<=wO s o
 | [],_=>a15 _
 |c::r,h=>by
  have h1:=UO hs (o:=r) fun c hc=>h c (by simp[hc]);obtain⟨h2,h3⟩:=h c (by simp);have h4:=hs _ (dW (s:=s) (k:=c.toNat) (by omega));have h5:1*1<=(s.getD c.toNat 0).toNat*wO s r:=agP (by omega) h1;simpa[wO]using h5
theorem a6T{α:Type}[DecidableEq α]{l:List α}{d a:α}{c:Nat->Bool}(hc:∀k,k<l.length->c k=decide (l.getD k d=a)):(a∈l->bF c l.length=.inr (l.idxOf a))∧(a∉l->jK (bF c l.length)=true):=by
 constructor
 .intro h;have hi:=a4F.2 h;have h1:c (l.idxOf a)=true:=by
   rw[hc _ hi,a1X,List.getD,a0a hi,a4H,a8z]
  cases e:jK (bF c l.length)
  .obtain⟨j,hj,cj,hb,e2⟩:=DY e;rw[e2];congr 1;rcases Nat.lt_trichotomy j (l.idxOf a)with g|g|g
   .exfalso;rw[hc j hj,a1X,List.getD,a0a hj,a4H]at cj;have:=List.not_of_lt_findIdx (p:=(·==a)) g;rw[cj]at this;simp at this
   .exact g
   rw[hb _ g]at h1;cases h1
  rw[dI.1 e _ hi]at h1;cases h1
 intro h;refine dI.2 fun j hj=>?_;rw[hc j hj,a2W,List.getD,a0a hj,a4H];rintro rfl;exact h (a4w hj)
end Go.Proofs.YtmobpoiejckagaaGreat
namespace Pv
open Go Tw
section
variable {X:kE} {P:Program}
theorem Eb{A:Nat->Prop}{m:List MB}{h:List HB}:∀{a b:List (PV X.Γ)} {z:List TV},bV X P A m h (a++b) z->∃x y,z=x++y∧bV X P A m h a x∧bV X P A m h b y
 | [],b,z,hz=>⟨[],z,rfl,.nil,hz⟩
 |v::a,b,z,hz=>by
  obtain⟨x0,r,rfl,v0,vr⟩:=bV.inv (v:=v) (vs:=a++b) hz;obtain⟨x,y,rfl,h1,h2⟩:=Eb vr;exact⟨x0::x,y,rfl,.cons v0 h1,h2⟩
theorem aX.fz(hX:bM X P){call:aZ}{f:FuncId}{cs ws rest xs:List (PV X.Γ)}{H H1:List (PB X.Γ)}{v:PV X.Γ}(is:List Nat)(hs:aX X P call (.fn f [] []) (.agg (ws++rest)::xs) (aY is H) v H1)(hv:views H cs=some ws)(ho:∀i,i∈kH.jS cs->i∈is):aX X P call (.fn f [] []) (.agg (cs++rest)::xs) H v H1:=by
 intro A m h tf rP hr hf hx;obtain⟨x0,r,rfl,v0,vr⟩:=hx.inv;cases v0 with
 |gone hi _ _=>simp[bg]at hi
 |agg a1 a2=>
  rename_i cs';have ha:bV X P (AA A m) m h (cs++rest) cs':=⟨a1,a2⟩;obtain⟨c1,c2,rfl,b1,b2⟩:=Eb ha;have hF:=iq (h:=h) is m;have w1:=(kX (m':=bU is m) hX hr b1 hv ho).mono fun b hb=>FA.gone hr hb;have w2:=b2.step hF.1 hF.2;have w3:=w1.app w2;obtain⟨w,h',TL,m1,k1,k2,k3,k4,k5,k6⟩:=hs A (bU is m) h tf (.agg (c1++c2)::r) (hr.aY is) (hf.step hF.1 hF.2) (.cons (.agg w3.1 w3.2) (vr.step hF.1 hF.2));refine⟨w,h',TL,m1,k1,k2,k3,hF.1.trans k4,hF.2.trans k5,fun b hb=>?_⟩;rcases hF.1.new b (k6 b hb)with g|g
  .exact g
  have:=(hr.aY is).inb (k6 b hb);omega
end
theorem Good.acW{X:kE}{P:Program}{T:qp}{L:Nat}{α β:Type}{f:FuncId}{a:Ux X P α}{r:Ar X P β}{S:α->β}{pre:α->List Prop}{fK X3 a6U:eY X.Γ}(d:Nat)(hg:Good X P T L fK)(hg2:Good X P T L X3)(hg3:Good X P T L a6U)
  (hf:∀n,d<=n->(∀m,n-d<=m->jr X P (kM P T L m) fK)->(∀m,n-d<=m->jr X P (kM P T L m) X3)->(∀m,n-d<=m->jr X P (kM P T L m) a6U)->∀x,(∀p∈pre x,p)->mY X P (kM P T L (n+1)) f (a.put x) (r.put (S x)) []):Good X P T L (bZ f a r S pre fK):=by
 obtain⟨N2,hN2⟩:=hg2;obtain⟨N3,hN3⟩:=hg3;obtain⟨M,hM⟩:=hg;refine⟨M+N2+N3+d+1,fun n hn=>?_⟩;obtain⟨k,rfl⟩:∃k,n=k+1:=⟨n-1,by omega⟩;intro g vs v ext ps ho hp;unfold bZ at ho;split at ho
 .rename_i e;have e:=a8G e;subst e;split at ho
  .rename_i x hx;cases ho;intro A h first args cap Ie hv
   exact hf k (by omega) (fun m hm=>hM m (by omega)) (fun m hm=>hN2 m (by omega)) (fun m hm=>hN3 m (by omega)) x hp A h first args cap Ie (a.ok hx hv)
  .exact hM (k+1) (by omega) g vs v ext ps ho hp
 .exact hM (k+1) (by omega) g vs v ext ps ho hp
end Pv
namespace Go.Proofs.YtmobpoiejckagaaGreat
open Go Tw Pv bW
def afh(s o:List Int)(l:List V):Dg:=⟨s,o,(Qq s l o (List.replicate s.length 0) ([],[])).2.1,(Qq s l o (List.replicate s.length 0) ([],[])).2.2,(Qq s l o (List.replicate s.length 0) ([],[])).1⟩
theorem XA:∀{s:List Int},pR s->mO s (List.replicate s.length 0)=true
 | [],_=>rfl
 |a::s,h=>by
  have:=h a (a3N ..);simp only[a3V,afl,mO,a2m,a1X];exact⟨⟨a9e _,by omega⟩,XA h.tail⟩
open Go Tw Pv bW
theorem a6V{a b:List Int}(ha:a.length<=12)(he:a.length=b.length)(h:Hf a=Hf b):a=b:=by
 have e:∀l:List Int,l.length<=12->(Hf l).take l.length=l:=fun l hl=>by
  unfold Hf;rw[agr,a8s hl,List.take_left]
 rw[<-e a ha,<-e b (by omega),h,he]
def NOk(s:List Int)(N:List Br):Prop:=∀b∈N,gQ b.var s.length∧(b.ay.length:Int)=s.getD b.var.toNat 0
theorem a6W{s:List Int}(hs:pR s){N:List Br}(h:NOk s N){c:Int}{ks:List Int}(hc:gQ c s.length)(hk:(ks.length:Int)=s.getD c.toNat 0){b:Br}(hb:b∈N):BH b=tC c ks↔b=⟨c,ks⟩:=by
 constructor
 .intro e;obtain⟨v,l⟩:=b;have e1:v=c:=congrArg Prod.fst e;subst e1;have e2:Hf l=Hf ks:=congrArg (fun x:Ky=>x.2.1) e;have hl:=(h _ hb).2;have hl:(l.length:Int)=s.getD v.toNat 0:=hl;have hz:=hs _ (dW (s:=s) (k:=v.toNat) (by have:=hc.1;have:=hc.2;omega));rw[a6V (by omega) (by omega) e2]
 rintro rfl;rfl
theorem XB{s:List Int}(hs:pR s){N:List Br}(h:NOk s N){c:Int}{ks:List Int}(hc:gQ c s.length)(hk:(ks.length:Int)=s.getD c.toNat 0):dU N c ks=a3i N c ks∧dn N c ks=a3j N c ks:=by
 have hm:tC c ks∈N.map BH↔(⟨c,ks⟩:Br)∈N:=by
  rw[a1f];constructor
  .rintro⟨b,hb,e⟩;rw[(a6W hs h hc hk hb).1 e]at hb;exact hb
  intro hb;exact⟨_,hb,rfl⟩
 have hi:(N.map BH).idxOf (tC c ks)=N.idxOf (⟨c,ks⟩:Br):=by
  clear hm
  induction N with
  |nil=>rfl
  |cons b N ih=>
   have e:=a6W hs h hc hk (b:=b) (by simp);rw[a3Z,adu,adu,ih fun b hb=>h b (by simp[hb])];have:(BH b==tC c ks)=(b==(⟨c,ks⟩:Br)):=by rw[a4u,a88,a88];exact e
   rw[this]
 unfold dU a3i dn a3j;rw[hi];refine⟨rfl,?_⟩;split
 .rfl
 by_cases g:tC c ks∈N.map BH
 .rw[a0h g,a0h (hm.1 g)]
 rw[a0g g,a0g fun x=>g (hm.2 x)]
open Go Tw Pv bW
theorem aai{s:List Int}{a b:List Int}(h:a.Perm b):wO s a=wO s b:=by
 induction h with
 |nil=>rfl
 |cons x _ ih=>simp only[wO,ih]
 |swap x y l=>simp only[wO];rw[<-Nat.mul_assoc,<-Nat.mul_assoc,Nat.mul_comm (s.getD y.toNat 0).toNat]
 |trans _ _ i1 i2=>rw[i1,i2]
theorem XC{s:List Int}(hs:pR s):∀(m k:Nat),k+m=s.length->(wO s ((List.range' k m).map fun(j:Nat)=>(j:Int)):Int)=bC (s.drop k)
 | 0,k,h=>by rw[agy (by omega)];rfl
 |m+1,k,h=>by
  have hk:k<s.length:=by omega
  have hz:=hs _ (dW (s:=s) (k:=k) hk);rw[List.range'_succ,a3Z,wO,Ox hk,afC,XC hs m (k+1) (by omega),a7m,agJ (by omega)]
theorem OW{s o:List Int}(hs:pR s)(h:jY s.length o=true):(wO s o:Int)=bC s:=by
 have h':=h;unfold jY at h';rw[a1X]at h';have hi:=Sm s.length;have wV:=hi;unfold jY at wV;rw[a1X]at wV;have hp:o.Perm (dM s.length):=(a8c h'.2.2 wV.2.2).2 fun a=>⟨fun ha=>mF hi (h'.2.1 a ha),fun ha=>mF h (wV.2.1 a ha)⟩;rw[aai hp];have:=XC hs s.length 0 (by omega);rw[<-List.range_eq_range']at this;exact this
open Go Tw Pv bW
inductive To(d:Dg)(q:List Int):Int->V->Prop
 |fin {r:Int} (h:r<0):To d q r (d.aO.getD (jA r).toNat V0)
 |step {r:Int} {c:V} (h:0<=r) (t:To d q ((aj d r).ay.getD (q.getD (aj d r).var.toNat 0).toNat 0) c):To d q r c
theorem To.at_{d:Dg}(h:BD d){q:List Int}(hq:mO d.aA q=true){r:Int}{c:V}(t:To d q r c):∀F:Nat,r<F->jk d r d.au.length->c=d.aO.getD (jA (atF d q F r)).toNat V0:=by
 induction t with
 |fin hr=>
  intro F _ _;cases F with
  |zero=>rfl
  |succ F=>rw[atF,a0h hr]
 |step hr _ ih=>
  intro F hF hk;cases F with
  |zero=>omega
  |succ F=>
   rw[atF,a0g (by omega)];have:=(OH h hq ⟨hr,hk.1⟩).2.2;exact ih F (by have:=this.1;omega) ⟨by have:=this.1;have:=hk.1;omega,this.2⟩
theorem To.of{d:Dg}(h:BD d){q:List Int}(hq:mO d.aA q=true):∀(F:Nat) (r:Int),r<F->jk d r d.au.length->To d q r (d.aO.getD (jA (atF d q F r)).toNat V0)
 | 0,r,hr,_=>.fin (by omega)
 |F+1,r,hr,hk=>by
  rw[atF];split
  .rename_i c;exact .fin c
  rename_i c;have:=(OH h hq ⟨by omega,hk.1⟩).2.2;exact .step (by omega) (To.of h hq F _ (by have:=this.1;omega) ⟨by have:=this.1;have:=hk.1;omega,this.2⟩)
theorem To.det{d:Dg}{q:List Int}{r:Int}{a b:V}(h:To d q r a):To d q r b->a=b:=by
 induction h with
 |fin hr=>intro g;cases g with
  |fin _=>rfl
  |step h _=>omega
 |step hr _ ih=>intro g;cases g with
  |fin h=>omega
  |step _ t=>exact ih t
theorem OX(E:List V)(v:V):E <+: jO E v:=by
 unfold jO;split
 .exact a7l
 exact a96 _ _
def ZC(x y:EN):Prop:=x.1 <+: y.1∧x.2 <+: y.2
theorem ZC.rfl{x:EN}:ZC x x:=⟨a7l,a7l⟩
theorem ZC.trans{x y z:EN}(a:ZC x y)(b:ZC y z):ZC x z:=⟨a.1.trans b.1,a.2.trans b.2⟩
theorem OY{α:Type}{a b:List α}{d:α}(h:a <+: b){k:Nat}(hk:k<a.length):b.getD k d=a.getD k d:=by
 obtain⟨t,rfl⟩:=h;simp[List.getD,a0e hk]
theorem a6X{k:Nat}(hk:k<2^61):i64.wrap (-1-(k:Int))=-1-(k:Int)∧jA (-1-(k:Int))=(k:Int):=by
 refine⟨fH (by omega) (by omega),?_⟩;unfold jA;rw[fH (by omega) (by omega)];omega
def Agr(s r q p:List Int):Prop:=∀k:Nat,k<s.length->(k:Int)∉r->q.getD k 0=p.getD k 0
theorem Agr.set{s r q p:List Int}{c:Int}(hc:gQ c s.length)(hp:p.length=s.length)(h:Agr s (c::r) q p):Agr s r q (p.set c.toNat (q.getD c.toNat 0)):=fun k hk hr=>by
 by_cases e:k=c.toNat
 .subst e;have e2:(p.set c.toNat (q.getD c.toNat 0)).getD c.toNat 0=q.getD c.toNat 0:=by
   simp[List.getD,a2k (show c.toNat<p.length by omega)]
  exact e2.symm
 .rw[show(p.set c.toNat (q.getD c.toNat 0)).getD k 0=p.getD k 0 by rw[List.getD,a1D (Ne.symm e)];rfl];exact h k hk (by simp only[a1Y,adq];exact⟨fun e2=>e (by omega),hr⟩)
theorem Agr.back{s r q p:List Int}{c j:Int}(hc:gQ c s.length)(h:Agr s r q (p.set c.toNat j)):Agr s (c::r) q p:=fun k hk hr=>by
 simp only[a1Y,adq]at hr;have hc:=hc.1;have e:k≠c.toNat:=fun e=>hr.1 (by omega);have:=h k hk hr.2;rw[this,List.getD,a1D (Ne.symm e)];rfl
open Go Tw Pv bW
def FV(o:List Int)(N:List Br)(r:Int):Nat:=if r<0 then o.length else o.idxOf (N.getD r.toNat mQ).var
def OZ(o:List Int)(x:EN)(v:Int)(b a:Nat):Prop:=(v<0->gQ (jA v) x.1.length)∧v<(b:Int)∧a<=FV o x.2 v
structure PtV(s o:List Int)(x:EN):Prop where
 var:∀i,i<x.2.length->gQ (x.2.getD i mQ).var s.length
 ksz:∀i,i<x.2.length->((x.2.getD i mQ).ay.length:Int)=s.getD (x.2.getD i mQ).var.toNat 0
 Aq:∀i,i<x.2.length->∀k,k<(x.2.getD i mQ).ay.length->OZ o x ((x.2.getD i mQ).ay.getD k 0) i (o.idxOf (x.2.getD i mQ).var+1)
theorem OZ.mono{o:List Int}{x y:EN}{v:Int}{b b' a a':Nat}(h:OZ o x v b a)(hp:ZC x y)(hb:b<=b')(hx:b<=x.2.length)(ha:a'<=a):OZ o y v b' a':=by
 obtain⟨h1,h2,h3⟩:=h;refine⟨fun hv=>⟨(h1 hv).1,by have:=(h1 hv).2;have:=hp.1.length_le;omega⟩,by omega,?_⟩;unfold FV at h3 ⊢;split
 .rename_i c;rw[a0h c]at h3;omega
 rename_i c;rw[a0g c]at h3;rw[OY hp.2 (by omega)];omega
open Go Tw Pv bW
theorem LX(d:Dg)(v:Int):sW d v=(FV d.aH d.au v:Int):=by
 unfold sW FV;by_cases c:v<0
 .rw[a0h (by simpa using c),a0h c]
 rw[a0g (by simpa using c),a0g c];have hs:=a6T (l:=d.aH) (d:=0) (a:=(aj d v).var) (c:=OE d v) (fun k _=>by unfold OE;rw[a4u];simp);by_cases hm:(aj d v).var∈d.aH
 .rw[hs.1 hm];rfl
 rw[a0h (hs.2 hm),a9m hm]
theorem a3k{d:Dg}(hm:d.aO.length<=ah)(hf:(dh d.aA d.aH != 0)=false)(hv:∀v∈d.aO,vOk v=true)(hn:d.au.length<=6000)(hp:PtV d.aA d.aH (d.aO,d.au))(hr:OZ d.aH (d.aO,d.au) d.root d.au.length 0):bG d=0:=by
 obtain⟨eF,P5⟩:=lT.1 (show dh d.aA d.aH=0 by simpa using hf);have ajY:∀(v:Int) (b a:Nat),OZ d.aH (d.aO,d.au) v b a->iJ d v b=true:=fun v b a h=>by
  unfold iJ;split
  .simpa using h.2.1
  rename_i c;have c:v<0:=by simpa using c
  have:=h.1 c;have e:i64.wrap ((d.aO.length:Int)-1)=(d.aO.length:Int)-1:=by unfold ah at hm;rw[fH (by omega) (by omega)]
  rw[qZ,e];have h2:=this.2;have h2:jA v<(d.aO.length:Int):=h2;exact⟨this.1,by show jA v<=_;omega⟩
 have hl:lq d=true:=by
  unfold lq;rw[a0h (dI.2 fun j hj=>by
   rw[cLe,hv _ (by simp[List.getD,a0a hj])];rfl),a0h (dI.2 fun i hi=>?_)]
  .exact ajY _ _ _ hr
  have h1:=hp.var i hi;have h2:=hp.ksz i hi;have h3:=hp.Aq i hi;have h1:gQ (fC d i).var d.aA.length:=h1;have h2:((fC d i).ay.length:Int)=d.aA.getD (fC d i).var.toNat 0:=h2;have e:xw d.aA=(d.aA.length:Int)-1:=by
   have:=eF.len;unfold xw;rw[fH (by omega) (by omega)]
  unfold Zy;rw[a0g,a0g (by rw[h2];simp),a0h]
  .refine dI.2 fun k hk=>?_;have h4:=h3 k hk;unfold cLk;rw[a0g (by rw[ajY _ _ _ h4];simp),a2W,LX,LX];have h5:=h4.2.2;have e6:FV d.aH d.au ((i:Nat):Int)=d.aH.idxOf (fC d i).var:=by unfold FV;rw[a0g (by omega),a7m]
   rw[e6];have h5:d.aH.idxOf (fC d i).var+1<=FV d.aH d.au ((d.au.getD i mQ).ay.getD k 0):=h5;omega
  have:kY (fC d i).var 0 (xw d.aA)=true:=by rw[qZ,e];have:=h1.1;have:=h1.2;exact⟨by omega,by omega⟩
  rw[this];simp
 unfold bG;rw[a0g (by rw[hf];simp),a0g (by rw[a1X];omega),a0g (by rw[hl];simp)]
structure OfP(s o:List Int)(l:List V):Prop where
 eF:wE s
 ord:jY s.length o=true
 len:(l.length:Int)=bC s
open Go Tw Pv bW
def Kn(d:Dg)(x:Cs)(v:Int):Prop:=if v<0 then oW d v∈x.e else v∈x.k.map (·.1)
def uM(d:Dg)(x:Cs)(v:Int):Int:=if v<0 then i64.wrap (-1-(x.e.idxOf (oW d v):Nat))else UK x.k v
def Aw(x y:Cs):Prop:=x.e <+: y.e∧x.n <+: y.n∧x.k <+: y.k
theorem Aw.rfl{x:Cs}:Aw x x:=⟨a7l,a7l,a7l⟩
theorem Aw.trans{x y z:Cs}(a:Aw x y)(b:Aw y z):Aw x z:=⟨a.1.trans b.1,a.2.1.trans b.2.1,a.2.2.trans b.2.2⟩
theorem Kn.mono{d:Dg}{x y:Cs}{v:Int}(h:Kn d x v)(hp:Aw x y):Kn d y v:=by
 unfold Kn at h ⊢;split
 .rename_i c;rw[a0h c]at h;exact hp.1.subset h
 rename_i c;rw[a0g c]at h;obtain⟨t,ht⟩:=hp.2.2;rw[<-ht,a3Y,a3K];exact .inl h
theorem SI{α:Type}[BEq α][LawfulBEq α]{a b:List α}{v:α}(h:v∈a)(hp:a <+: b):b.idxOf v=a.idxOf v:=by
 obtain⟨t,rfl⟩:=hp;rw[a9u,a0h h]
theorem a1w{a b:List (Int×Int)}{v:Int}(h:v∈a.map (·.1))(hp:a <+: b):UK b v=UK a v:=by
 obtain⟨t,rfl⟩:=hp;unfold UK;rw[List.find?_append];cases e:a.find? fun p=>p.1==v with
 |none=>
  rw[a1f]at h;obtain⟨p,hp,rfl⟩:=h;have:=ads.1 e p hp;simp at this
 |some q=>rfl
theorem SK{d:Dg}{x y:Cs}{v:Int}(h:Kn d x v)(hp:Aw x y):uM d y v=uM d x v:=by
 unfold Kn at h;unfold uM;split
 .rename_i c;rw[a0h c]at h;rw[SI h hp.1]
 rename_i c;rw[a0g c]at h;rw[a1w h hp.2.2]
theorem XD{E:List V}{v:V}(h:v∈E):jO E v=E:=a0h h
theorem Kt(N:List Br)(c:Int)(ks:List Int):N <+: dn N c ks:=by
 unfold dn;split
 .exact a7l
 split
 .exact a7l
 exact a96 _ _
theorem ZE{N M:List Br}{c:Int}{ks:List Int}(h:dn N c ks=N)(hp:N <+: M):dn M c ks=M∧dU M c ks=dU N c ks:=by
 unfold dn at h ⊢;unfold dU;by_cases hf:(ks.all fun x=>x==ks.getD 0 0)=true
 .rw[a0h hf,a0h hf,a0h hf];exact⟨rfl,rfl⟩
 rw[a0g hf]at h ⊢;rw[a0g hf,a0g hf];by_cases hm:tC c ks∈N.map BH
 .have hp2:N.map BH <+: M.map BH:=by obtain⟨t,rfl⟩:=hp;rw[a3Y];exact a96 _ _
  rw[a0h (hp2.subset hm),SI hm hp2];exact⟨rfl,rfl⟩
 rw[a0g hm]at h;have:=congrArg List.length h;simp at this
theorem a3l(N:List Br)(c:Int)(ks:List Int):dn (dn N c ks) c ks=dn N c ks∧dU (dn N c ks) c ks=dU N c ks:=by
 unfold dU;by_cases hf:(ks.all fun x=>x==ks.getD 0 0)=true
 .rw[a0h hf,a0h hf];have:dn N c ks=N:=a0h hf;rw[this,this];exact⟨rfl,rfl⟩
 rw[a0g hf,a0g hf];by_cases hm:tC c ks∈N.map BH
 .have:dn N c ks=N:=by unfold dn;rw[a0g hf,a0h hm]
  rw[this,this];exact⟨rfl,rfl⟩
 have e:dn N c ks=N++[⟨c,ks⟩]:=by unfold dn;rw[a0g hf,a0g hm]
 have hm2:tC c ks∈(N++[(⟨c,ks⟩:Br)]).map BH:=by rw[a3Y];simp
 have e2:dn (N++[⟨c,ks⟩]) c ks=N++[⟨c,ks⟩]:=by unfold dn;rw[a0g hf,a0h hm2]
 rw[e,e2];refine⟨rfl,?_⟩;rw[a3Y,a9u,a0g hm,a9m hm];simp
abbrev aP(d:Dg)(v:Int):List Int:=(aj d v).ay
def XE(d:Dg)(x:Cs):Prop:=∀v∈x.k.map (·.1),(∀j,j<(aP d v).length->Kn d x ((aP d v).getD j 0))∧dU x.n (aj d v).var ((aP d v).map (uM d x))=UK x.k v∧dn x.n (aj d v).var ((aP d v).map (uM d x))=x.n
abbrev BI(d:Dg)(F:Nat)(r:Int)(j:Nat)(y:List Int×Cs):List Int×Cs:=(y.1.set j (bY d F ((aP d r).getD j 0) y.2).1,(bY d F ((aP d r).getD j 0) y.2).2)
theorem a6Z{d:Dg}:∀(F:Nat) (r:Int) (x:Cs),Aw x (bY d F r x).2
 | 0,_,x=>Aw.rfl
 |F+1,r,x=>by
  unfold bY;split
  .exact⟨OX _ _,a7l,a7l⟩
  split
  .exact Aw.rfl
  have:=dO (g:=BI d F r) (m:=(aP d r).length) (k:=0) (s:=(List.replicate (aP d r).length 0,x)) (fun _ y=>Aw x y.2) Aw.rfl (fun j y _ _ hy=>hy.trans (a6Z F _ y.2));exact⟨this.1,this.2.1.trans (Kt _ _ _),this.2.2.trans (a96 _ _)⟩
theorem LY{d:Dg}{F:Nat}{v:Int}{x:Cs}(h:Kn d x v):bY d (F+1) v x=(uM d x v,x):=by
 unfold Kn at h;unfold bY uM;by_cases c:v<0
 .rw[a0h (by simpa using c),a0h c];rw[a0h c]at h;rw[XD h]
 rw[a0g c]at h;rw[a0g (by simpa using c),a0h (by simpa using h),a0g c]
theorem P6{d:Dg}{x y:Cs}{ks:List Int}(h:∀j,j<ks.length->Kn d x (ks.getD j 0))(hp:Aw x y):ks.map (uM d y)=ks.map (uM d x):=by
 refine a6m fun v hv=>?_;obtain⟨j,hj,rfl⟩:=a9F hv;have:=h j hj;rw[List.getD,a0a hj]at this;exact SK this hp
theorem XE.a1x{d:Dg}{x y:Cs}{v:Int}(h:(∀j,j<(aP d v).length->Kn d x ((aP d v).getD j 0))∧dU x.n (aj d v).var ((aP d v).map (uM d x))=UK x.k v∧dn x.n (aj d v).var ((aP d v).map (uM d x))=x.n)(hv:v∈x.k.map (·.1))(hp:Aw x y):(∀j,j<(aP d v).length->Kn d y ((aP d v).getD j 0))∧dU y.n (aj d v).var ((aP d v).map (uM d y))=UK y.k v∧dn y.n (aj d v).var ((aP d v).map (uM d y))=y.n:=by
 obtain⟨h1,h2,h3⟩:=h;rw[P6 h1 hp];obtain⟨g1,g2⟩:=ZE h3 hp.2.1;exact⟨fun j hj=>(h1 j hj).mono hp,by rw[g2,h2,a1w hv hp.2.2],g1⟩
theorem ZF{d:Dg}(h:BD d):∀(F:Nat) (r:Int) (x:Cs),1<=F->r+1<F->jk d r d.au.length->Dj d x->XE d x->XE d (bY d F r x).2∧Kn d (bY d F r x).2 r∧uM d (bY d F r x).2 r=(bY d F r x).1
 | 0,r,x,h1,_,_,_,_=>by omega
 |F+1,r,x,_,hF,hr,hx,hi=>by
  by_cases c:r<0
  .have e:bY d (F+1) r x=(i64.wrap (-1-(x.e.idxOf (oW d r):Nat)),⟨jO x.e (oW d r),x.n,x.k⟩):=by unfold bY;rw[a0h (by simpa using c)]
   rw[e];have hp:Aw x ⟨jO x.e (oW d r),x.n,x.k⟩:=⟨OX _ _,a7l,a7l⟩;refine⟨fun v hv=>XE.a1x (hi v hv) hv hp,?_,?_⟩
   .unfold Kn;rw[a0h c];show oW d r∈jO x.e (oW d r);unfold jO;split
    .assumption
    simp
   unfold uM;rw[a0h c];show i64.wrap (-1-((jO x.e (oW d r)).idxOf (oW d r):Nat))=_;congr 3;unfold jO;split
   .rfl
   rename_i hn;rw[a9u,a0g hn,a9m hn];simp
  by_cases c2:r∈x.k.map (·.1)
  .have hk:Kn d x r:=by unfold Kn;rw[a0g c];exact c2
   rw[LY hk];exact⟨hi,hk,rfl⟩
  have aS:r.toNat<d.au.length:=by have:=hr.1;omega
  have BF:∀k,k<(aP d r).length->(aP d r).getD k 0<r:=fun k lN=>by
   have h9:=(h.Aq r.toNat aS k lN).1;have h9:(aP d r).getD k 0<(r.toNat:Int):=h9;omega
  have LW:∀j,j<(aP d r).length->jk d ((aP d r).getD j 0) d.au.length:=fun j hj=>⟨by have:=BF j hj;have:=hr.1;omega,(h.Aq r.toNat aS j hj).2⟩;have inv:=dO (g:=BI d F r) (m:=(aP d r).length) (k:=0) (s:=(List.replicate (aP d r).length 0,x)) (fun k y=>(y.1.length=(aP d r).length∧Aw x y.2)∧(Dj d y.2∧r∉y.2.k.map (·.1))∧XE d y.2∧∀j,j<k->Kn d y.2 ((aP d r).getD j 0)∧uM d y.2 ((aP d r).getD j 0)=y.1.getD j 0) ⟨⟨by simp,Aw.rfl⟩,⟨hx,c2⟩,hi,fun j hj=>by omega⟩ (fun j y _ hj hy=>by
   obtain⟨⟨y1,y2⟩,⟨y3,y4⟩,y5,y6⟩:=hy;have hj:j<(aP d r).length:=(by omega);have hp:=a6Z (d:=d) F ((aP d r).getD j 0) y.2;obtain⟨z1,z2,z3⟩:=ZF h F ((aP d r).getD j 0) y.2 (by omega) (by have:=BF j hj;omega) (LW j hj) y3 y5;refine⟨⟨by simp[BI,y1],y2.trans hp⟩,⟨OM h F _ y.2 y3 (LW j hj),Xt F _ r y.2 (BF j hj) y4 (by omega) (fun i hi k hk=>(h.Aq i hi k hk).1) (fun h5=>⟨h5,(LW j hj).1⟩)⟩,z1,fun j' Ew=>?_⟩;by_cases e:j'=j
   .subst e;refine⟨z2,?_⟩;rw[z3];show(bY d F ((aP d r).getD j' 0) y.2).1=(y.1.set j' (bY d F ((aP d r).getD j' 0) y.2).1).getD j' 0;generalize (bY d F ((aP d r).getD j' 0) y.2).1=z;simp[List.getD,a2k (show j'<y.1.length by omega)]
   obtain⟨a1,a2⟩:=y6 j' (by omega);refine⟨a1.mono hp,?_⟩;rw[SK a1 hp,a2];show _=(y.1.set j (bY d F ((aP d r).getD j 0) y.2).1).getD j' 0;generalize (bY d F ((aP d r).getD j 0) y.2).1=z;simp[List.getD,a1D (Ne.symm e)])
  rw[a3U]at inv;have e:bY d (F+1) r x=(dU (aT (BI d F r) (aP d r).length 0 (List.replicate (aP d r).length 0,x)).2.n (aj d r).var (aT (BI d F r) (aP d r).length 0 (List.replicate (aP d r).length 0,x)).1,⟨(aT (BI d F r) (aP d r).length 0 (List.replicate (aP d r).length 0,x)).2.e,dn (aT (BI d F r) (aP d r).length 0 (List.replicate (aP d r).length 0,x)).2.n (aj d r).var (aT (BI d F r) (aP d r).length 0 (List.replicate (aP d r).length 0,x)).1,(aT (BI d F r) (aP d r).length 0 (List.replicate (aP d r).length 0,x)).2.k++[(r,dU (aT (BI d F r) (aP d r).length 0 (List.replicate (aP d r).length 0,x)).2.n (aj d r).var (aT (BI d F r) (aP d r).length 0 (List.replicate (aP d r).length 0,x)).1)]⟩):=by
   rw[bY,a0g (by simpa using c),a0g (by simpa using c2)]
  rw[e];generalize aT (BI d F r) (aP d r).length 0 (List.replicate (aP d r).length 0,x)=y at inv;obtain⟨ks,y⟩:=y;obtain⟨⟨y1,y2⟩,⟨y3,y4⟩,y5,y6⟩:=inv;have y1:ks.length=(aP d r).length:=y1;have y4:r∉y.k.map (·.1):=y4;have hp:Aw y ⟨y.e,dn y.n (aj d r).var ks,y.k++[(r,dU y.n (aj d r).var ks)]⟩:=⟨a7l,Kt _ _ _,a96 _ _⟩;have EC:(aP d r).map (uM d y)=ks:=by
   refine aat (by simp[y1]) fun j j1 j2=>?_;have hj:j<(aP d r).length:=(by omega);have:=(y6 j hj).2;rw[List.getD,List.getD,a0a hj,a0a j2]at this;simpa using this
  have gW:UK (y.k++[(r,dU y.n (aj d r).var ks)]) r=dU y.n (aj d r).var ks:=by
   unfold UK;rw[List.find?_append];have:(y.k.find? fun p=>p.1==r)=none:=ads.2 fun p hp=>by
    simp only[a88];intro e2;exact y4 (a1f.2 ⟨p,hp,e2⟩)
   rw[this];simp
  obtain⟨g1,g2⟩:=a3l y.n (aj d r).var ks;refine⟨fun v hv=>?_,?_,?_⟩
  .have hv:v∈(y.k++[(r,dU y.n (aj d r).var ks)]).map (·.1):=hv;rw[a3Y,a3K]at hv;rcases hv with hv|hv
   .exact XE.a1x (y5 v hv) hv hp
   have hv:v=r:=(by simpa using hv);subst hv;refine⟨fun j hj=>(y6 j hj).1.mono hp,?_,?_⟩
   .rw[P6 (fun j hj=>(y6 j hj).1) hp,EC];show dU (dn y.n (aj d v).var ks) _ ks=UK (y.k++[(v,dU y.n (aj d v).var ks)]) v;rw[g2,gW]
   rw[P6 (fun j hj=>(y6 j hj).1) hp,EC];exact g1
  .unfold Kn;rw[a0g c];show r∈(y.k++[(r,dU y.n (aj d r).var ks)]).map (·.1);simp
  unfold uM;rw[a0g c];exact gW
open Go Tw Pv bW
theorem XF{d:Dg}(h:bG d=0):∀i,i<d.au.length->∀k,k<(fC d i).ay.length->d.aH.idxOf (fC d i).var+1<=FV d.aH d.au ((fC d i).ay.getD k 0):=by
 intro i hi k hk;unfold bG at h;split at h
 .rename_i c;rw[h]at c;cases c
 split at h
 .cases h
 split at h
 .cases h
 rename_i c;have c:lq d=true:=by simpa using c
 unfold lq at c;split at c
 rotate_left
 .cases c
 split at c
 rotate_left
 .cases c
 rename_i c2;have:=dI.1 c2 i hi;unfold Zy at this;split at this
 .cases this
 split at this
 .cases this
 split at this
 .rename_i c3;have:=dI.1 c3 k hk;unfold cLk at this;split at this
  .cases this
  rw[a2W,LX,LX]at this;have e6:FV d.aH d.au ((i:Nat):Int)=d.aH.idxOf (fC d i).var:=by unfold FV;rw[a0g (by omega),a7m]
  rw[e6]at this;show d.aH.idxOf (fC d i).var+1<=FV d.aH d.au ((d.au.getD i mQ).ay.getD k 0);omega
 cases this
theorem ZG{d:Dg}(h:BD d):∀(F:Nat) (r:Int) (x:Cs),jk d r d.au.length->NOk d.aA x.n->NOk d.aA (bY d F r x).2.n
 | 0,_,_,_,hx=>hx
 |F+1,r,x,hr,hx=>by
  unfold bY;by_cases c:r<0
  .rw[a0h (by simpa using c)];exact hx
  rw[a0g (by simpa using c)];split
  .exact hx
  have aS:r.toNat<d.au.length:=by have:=hr.1;omega
  have LW:∀j,j<(aP d r).length->jk d ((aP d r).getD j 0) d.au.length:=fun j hj=>by
   have h9:=h.Aq r.toNat aS j hj;have h8:=h9.1;have h8:(aP d r).getD j 0<(r.toNat:Int):=h8;exact⟨by omega,h9.2⟩
  have inv:=dO (g:=BI d F r) (m:=(aP d r).length) (k:=0) (s:=(List.replicate (aP d r).length 0,x)) (fun _ y=>y.1.length=(aP d r).length∧NOk d.aA y.2.n) ⟨by simp,hx⟩ (fun j y _ hj hy=>⟨by simp[BI,hy.1],ZG h F _ y.2 (LW j (by omega)) hy.2⟩);show NOk d.aA (dn (aT (BI d F r) (aP d r).length 0 (List.replicate (aP d r).length 0,x)).2.n (aj d r).var (aT (BI d F r) (aP d r).length 0 (List.replicate (aP d r).length 0,x)).1);generalize aT (BI d F r) (aP d r).length 0 (List.replicate (aP d r).length 0,x)=y at inv;intro b hb;unfold dn at hb;split at hb
  .exact inv.2 b hb
  split at hb
  .exact inv.2 b hb
  rcases a3K.1 hb with hb|hb
  .exact inv.2 b hb
  rw[a2I.1 hb];refine⟨h.var r.toNat aS,?_⟩;show(y.1.length:Int)=d.aA.getD (aj d r).var.toNat 0;rw[inv.1];exact h.ksz r.toNat aS
theorem a7a{n:Nat}(hn:1<=n)(v:Int):((List.replicate n v).all fun x=>x==(List.replicate n v).getD 0 0)=true∧(List.replicate n v).getD 0 0=v:=by
 obtain⟨k,rfl⟩:∃k,n=k+1:=⟨n-1,by omega⟩;simp[afl]
theorem XG{d:Dg}{l:List V}(h:BD d)(P5:jY d.aA.length d.aH=true)(hk:∀i,i<d.au.length->∀k,k<(fC d i).ay.length->d.aH.idxOf (fC d i).var+1<=FV d.aH d.au ((fC d i).ay.getD k 0)):∀(r:List Int) (a:Nat) (p:List Int) (v:Int) (x:Cs) (F:Nat),d.aH.drop a=r->a<=d.aH.length->mO d.aA p=true->Dj d x->XE d x->NOk d.aA x.n->jk d v d.au.length->a<=FV d.aH d.au v->1<=F->v+1<F->(∀q,mO d.aA q=true->Agr d.aA r q p->To d q v (l.getD (qx d.aA q).toNat V0))->Qq d.aA l r p (x.e,x.n)=((bY d F v x).1,((bY d F v x).2.e,(bY d F v x).2.n))
 | [],a,p,v,x,F,hr,ha,hp,_,_,_,hv,LW,hF1,hF,hto=>by
  obtain⟨F,rfl⟩:∃k,F=k+1:=⟨F-1,by omega⟩;have:a=d.aH.length:=by
   have:=congrArg List.length hr;rw[a3S,a5J]at this;omega
  subst this;have hv0:v<0:=by
   rcases Int.lt_or_le v 0 with c|c
   .exact c
   exfalso;unfold FV at LW;rw[a0g (by omega)]at LW;have aS:v.toNat<d.au.length:=by have:=hv.1;omega
   have hm:=mF P5 (h.var v.toNat aS);have:=a4F.2 hm;have:d.aH.idxOf (d.au.getD v.toNat mQ).var<d.aH.length:=this;omega
  have t:=hto p hp (fun _ _ _=>rfl);have e:l.getD (qx d.aA p).toNat V0=oW d v:=(To.fin hv0:To d p v _).det t |>.symm
  unfold bY;rw[a0h (by simpa using hv0)];show(i64.wrap (-1-(x.e.idxOf (l.getD (qx d.aA p).toNat V0):Nat)),(jO x.e (l.getD (qx d.aA p).toNat V0),x.n))=_;rw[e]
 |c::r,a,p,v,x,F,hr,ha,hp,hx,hi,hno,hv,LW,hF1,hF,hto=>by
  have aS:a<d.aH.length:=by
   have:=congrArg List.length hr;rw[a3S,a3V]at this;omega
  have hd:=a4P aS;rw[hr]at hd;obtain⟨hc,wX⟩:=afa hd;have ho:=P5;unfold jY at ho;rw[a1X]at ho;have GR:c∈d.aH:=by rw[hc];exact a4w aS
  have rX:gQ c d.aA.length:=⟨(ho.2.1 c GR).1,(ho.2.1 c GR).2⟩;have hia:d.aH.idxOf c=a:=by rw[hc];exact ho.2.2.idxOf_getElem a aS
  have pJ:c.toNat<d.aA.length:=by have:=rX.1;have:=rX.2;omega
  have hz:=h.eF.sz _ (dW (s:=d.aA) (k:=c.toNat) pJ);have FT:=zn hp;have hcr:c∉r:=by
   have:(d.aH.drop a).Nodup:=ho.2.2.sublist (List.drop_sublist _ _);rw[hr]at this;exact(a4g.1 this).1
  have F8:∀j:Nat,j<(d.aA.getD c.toNat 0).toNat->mO d.aA (p.set c.toNat j)=true:=fun j hj=>a6n hp rX ⟨by omega,by omega⟩;simp only[Qq];by_cases Bd:0<=v∧(aj d v).var=c
  .obtain⟨hv0,hvc⟩:=Bd;have a3m:v.toNat<d.au.length:=by have:=hv.1;omega
   have JG:((aP d v).length:Int)=d.aA.getD c.toNat 0:=by rw[<-hvc];exact h.ksz v.toNat a3m
   have hkn:(d.aA.getD c.toNat 0).toNat=(aP d v).length:=(by omega);have BF:∀j,j<(aP d v).length->(aP d v).getD j 0<v:=fun j hj=>by
    have h9:=(h.Aq v.toNat a3m j hj).1;have h9:(aP d v).getD j 0<(v.toNat:Int):=h9;omega
   have hrf:∀j,j<(aP d v).length->jk d ((aP d v).getD j 0) d.au.length:=fun j hj=>⟨by have:=BF j hj;have:=hv.1;omega,(h.Aq v.toNat a3m j hj).2⟩;have ajZ:∀j,j<(aP d v).length->a+1<=FV d.aH d.au ((aP d v).getD j 0):=fun j hj=>by
    have:=hk v.toNat a3m j hj;have:d.aH.idxOf (aj d v).var+1<=FV d.aH d.au ((aP d v).getD j 0):=this;rw[hvc,hia]at this;exact this
   have ak0:∀j:Nat,j<(aP d v).length->∀q,mO d.aA q=true->Agr d.aA r q (p.set c.toNat j)->To d q ((aP d v).getD j 0) (l.getD (qx d.aA q).toNat V0):=fun j hj q hq hag=>by
    have Yq:q.getD c.toNat 0=j:=by
     have:=hag c.toNat pJ (by rw[agJ rX.1];exact hcr);rw[this,List.getD,a2k (by omega)];rfl
    have t0:=hto q hq (Agr.back rX hag);revert t0;generalize l.getD (qx d.aA q).toNat V0=w;intro t0;cases t0 with
    |fin h9=>omega
    |step _ t=>
     rw[hvc,Yq,a7m]at t;exact t
   rw[hkn];by_cases Oc:v∈x.k.map (·.1)
   .-- known
    have hKn:Kn d x v:=by unfold Kn;rw[a0g (by omega)];exact Oc
    obtain⟨F',rfl⟩:∃k,F=k+1:=⟨F-1,by omega⟩;rw[LY hKn];obtain⟨i1,i2,i3⟩:=hi v Oc;have inv:=dO (g:=gPt (Qq d.aA l r) c p) (m:=(aP d v).length) (k:=0) (s:=([],(x.e,x.n))) (fun k y=>y=(((aP d v).map (uM d x)).take k,(x.e,x.n))) (by simp) (fun j y _ hj hy=>by
     have hj:j<(aP d v).length:=(by omega);subst hy;have ih:=XG h P5 hk r (a+1) (p.set c.toNat j) ((aP d v).getD j 0) x (F'+1) wX.symm aS (F8 j (by omega)) hx hi hno (hrf j hj) (ajZ j hj) (by omega) (by have:=BF j hj;omega) (ak0 j hj);rw[LY (i1 j hj)]at ih;unfold gPt;rw[ih];refine adg ?_ rfl;show(((aP d v).map (uM d x)).take j)++[uM d x ((aP d v).getD j 0)]=_;have hjm:j<((aP d v).map (uM d x)).length:=(by simpa using hj);rw[a7I hjm];simp[List.getD,a0a hj])
    rw[a3U]at inv;rw[inv,a9H (by simp)];rw[hvc]at i2 i3;obtain⟨n1,n2⟩:=XB h.eF.sz hno rX (ks:=(aP d v).map (uM d x)) (by simpa using JG);show(a3i x.n c _,(x.e,a3j x.n c _))=_;rw[<-n1,<-n2,i2,i3];unfold uM;rw[a0g (by omega)]
   obtain⟨F',rfl⟩:∃k,F=k+1:=⟨F-1,by omega⟩;have key:∀j,j<=(aP d v).length->(aT (gPt (Qq d.aA l r) c p) j 0 ([],(x.e,x.n)))=((aT (BI d F' v) j 0 (List.replicate (aP d v).length 0,x)).1.take j,((aT (BI d F' v) j 0 (List.replicate (aP d v).length 0,x)).2.e,(aT (BI d F' v) j 0 (List.replicate (aP d v).length 0,x)).2.n))∧(aT (BI d F' v) j 0 (List.replicate (aP d v).length 0,x)).1.length=(aP d v).length∧(Dj d (aT (BI d F' v) j 0 (List.replicate (aP d v).length 0,x)).2∧v∉(aT (BI d F' v) j 0 (List.replicate (aP d v).length 0,x)).2.k.map (·.1))∧XE d (aT (BI d F' v) j 0 (List.replicate (aP d v).length 0,x)).2∧NOk d.aA (aT (BI d F' v) j 0 (List.replicate (aP d v).length 0,x)).2.n:=by
    intro j
    induction j with
    |zero=>intro _;exact⟨rfl,by simp[aT],⟨hx,Oc⟩,hi,hno⟩
    |succ j ih=>
     intro hj;have hj:j<(aP d v).length:=hj;obtain⟨q1,q2,⟨q3,q3'⟩,q4,q5⟩:=ih (by omega);rw[sV,sV,a3U];generalize aT (BI d F' v) j 0 (List.replicate (aP d v).length 0,x)=y at q1 q2 q3 q3' q4 q5;rw[q1];have VA:=BF j hj;have ih2:=XG h P5 hk r (a+1) (p.set c.toNat j) ((aP d v).getD j 0) y.2 F' wX.symm aS (F8 j (by omega)) q3 q4 q5 (hrf j hj) (ajZ j hj) (by omega) (by omega) (ak0 j hj);refine⟨?_,by simp[BI,q2],⟨OM h F' _ y.2 q3 (hrf j hj),Xt F' _ v y.2 VA q3' (by omega) (fun i hi k hk=>(h.Aq i hi k hk).1) (fun h5=>⟨h5,(hrf j hj).1⟩)⟩,(ZF h F' _ y.2 (by omega) (by omega) (hrf j hj) q3 q4).1,ZG h F' _ y.2 (hrf j hj) q5⟩;unfold gPt;rw[ih2];refine adg ?_ rfl;show y.1.take j++[(bY d F' ((aP d v).getD j 0) y.2).1]=(y.1.set j (bY d F' ((aP d v).getD j 0) y.2).1).take (j+1);rw[a7I (by simp;omega),List.take_set_of_le (a15 _),List.getElem_set_self]
   obtain⟨q1,q2,⟨q3,q3'⟩,q4,q5⟩:=key _ (a15 _);rw[q1];have e:bY d (F'+1) v x=(dU (aT (BI d F' v) (aP d v).length 0 (List.replicate (aP d v).length 0,x)).2.n (aj d v).var (aT (BI d F' v) (aP d v).length 0 (List.replicate (aP d v).length 0,x)).1,⟨(aT (BI d F' v) (aP d v).length 0 (List.replicate (aP d v).length 0,x)).2.e,dn (aT (BI d F' v) (aP d v).length 0 (List.replicate (aP d v).length 0,x)).2.n (aj d v).var (aT (BI d F' v) (aP d v).length 0 (List.replicate (aP d v).length 0,x)).1,(aT (BI d F' v) (aP d v).length 0 (List.replicate (aP d v).length 0,x)).2.k++[(v,dU (aT (BI d F' v) (aP d v).length 0 (List.replicate (aP d v).length 0,x)).2.n (aj d v).var (aT (BI d F' v) (aP d v).length 0 (List.replicate (aP d v).length 0,x)).1)]⟩):=by
    rw[bY,a0g (by simpa using hv0),a0g (by simpa using Oc)]
   rw[e];generalize aT (BI d F' v) (aP d v).length 0 (List.replicate (aP d v).length 0,x)=y at q2 q5;rw[a9H (by omega),hvc];obtain⟨n1,n2⟩:=XB h.eF.sz q5 rX (ks:=y.1) (by rw[q2];exact JG);rw[n1,n2]
  -- asked later,or an end
  have ak1:a+1<=FV d.aH d.au v:=by
   unfold FV at LW ⊢;split
   .omega
   rename_i c1;rw[a0g c1]at LW;have iy:d.aH.idxOf (d.au.getD v.toNat mQ).var≠a:=fun e=>by
    apply Bd;refine⟨by omega,?_⟩;have a3m:v.toNat<d.au.length:=by have:=hv.1;omega
    have hm:=mF P5 (h.var v.toNat a3m);have h1:=a8z (a4F.2 hm);have e:d.aH.idxOf (fC d v.toNat).var=a:=e;show(fC d v.toNat).var=c;rw[hc,<-h1];congr 1
   omega
  obtain⟨z1,z2,z3⟩:=ZF h F v x hF1 hF hv hx hi;have QB:=OM h F v x hx hv;have adW:=ZG h F v x hv hno;have ak2:bY d F v (bY d F v x).2=((bY d F v x).1,(bY d F v x).2):=by
   have e:∀y,Kn d y v->uM d y v=(bY d F v x).1->bY d F v y=((bY d F v x).1,y):=fun y h1 h2=>by
    obtain⟨F',rfl⟩:∃k,F=k+1:=⟨F-1,by omega⟩;rw[LY h1,h2]
   exact e _ z2 z3
  have ak3:∀j:Nat,∀q,mO d.aA q=true->Agr d.aA r q (p.set c.toNat j)->To d q v (l.getD (qx d.aA q).toNat V0):=fun j q hq hag=>hto q hq (Agr.back rX hag);have inv:=dO (g:=gPt (Qq d.aA l r) c p) (m:=(d.aA.getD c.toNat 0).toNat) (k:=0) (s:=([],(x.e,x.n))) (fun k y=>(k=0∧y=([],(x.e,x.n)))∨(0<k∧y=(List.replicate k (bY d F v x).1,((bY d F v x).2.e,(bY d F v x).2.n)))) (.inl ⟨rfl,rfl⟩) (fun j y _ hj hy=>by
   right;refine⟨by omega,?_⟩;rcases hy with⟨rfl,rfl⟩|⟨h0,rfl⟩
   .have ih:=XG h P5 hk r (a+1) (p.set c.toNat ((0:Nat):Int)) v x F wX.symm aS (F8 0 (by omega)) hx hi hno hv ak1 hF1 hF (ak3 0);unfold gPt;rw[ih];rfl
   have ih:=XG h P5 hk r (a+1) (p.set c.toNat ((j:Nat):Int)) v (bY d F v x).2 F wX.symm aS (F8 j (by omega)) QB z1 adW hv ak1 hF1 hF (ak3 j);rw[ak2]at ih;unfold gPt;rw[ih];refine adg ?_ rfl;show List.replicate j _++[_]=_;rw[List.replicate_succ'])
  rw[a3U]at inv;rcases inv with⟨h0,_⟩|⟨h0,e⟩
  .omega
  rw[e];obtain⟨f1,f2⟩:=a7a (n:=(d.aA.getD c.toNat 0).toNat) (by omega) (bY d F v x).1;show(a3i _ c _,(_,a3j _ c _))=_;unfold a3i a3j;rw[a0h f1,a0h f1,f2]
theorem a7b{d:Dg}(hl:bG d=0)(ho:d.aH.length<=ah)(he:d.aO.length<=ah):eU d=afh d.aA d.aH (cellsD d)∧OfP d.aA d.aH (cellsD d):=by
 obtain⟨h,hn⟩:=mD ho he (by rw[hl];rfl);have hf:(dh d.aA d.aH != 0)=false:=by
  unfold bG at hl;split at hl
  .rename_i c;rw[hl]at c;cases c
  rename_i c;simpa using c
 obtain⟨eF,P5⟩:=lT.1 (show dh d.aA d.aH=0 by simpa using hf);have hlen:((cellsD d).length:Int)=bC d.aA:=by unfold cellsD;rw[a4e,a8C,eF.a9J]
 have hr:=h.root;have hr1:=hr.1;have hto:∀q,mO d.aA q=true->To d q d.root ((cellsD d).getD (qx d.aA q).toNat V0):=fun q hq=>by
  have hrn:=He hq eF.sz;have t:=To.of h hq 6001 d.root (by omega) hr;have e:(cellsD d).getD (qx d.aA q).toNat V0=En d q:=by
   have aS:(qx d.aA q).toNat<EM d.aA:=by unfold EM;omega
   unfold cellsD;rw[List.getD,a0a (by simpa using aS)];simp only[a8Y,List.getElem_range,a4H];rw[show(((qx d.aA q).toNat:Nat):Int)=qx d.aA q by omega,UD hq eF.sz]
  rw[e];exact t
 have key:=XG (l:=cellsD d) h P5 (XF hl) d.aH 0 (List.replicate d.aA.length 0) d.root ZA 6002 rfl (a4v _) (XA eF.sz) UN (fun v hv=>by cases hv) (fun b hb=>by cases hb) hr (a4v _) (by omega) (by omega) (fun q hq _=>hto q hq);refine⟨?_,⟨eF,P5,hlen⟩⟩;have key:Qq d.aA (cellsD d) d.aH (List.replicate d.aA.length 0) ([],[])=_:=key;unfold eU afh;rw[key]
open Go Tw Pv bW
theorem XH(k:Int):KP (i64.wrap k):=by
 have e:i64.wrap k=if k%(2^64:Int)>=(2^63:Int)then k%(2^64:Int)-2^64 else k%(2^64:Int):=by
  show(if(true&&decide (k%(2^64:Int)>=(2^63:Int)))=true then _ else _)=_;by_cases c:k%(2^64:Int)>=(2^63:Int)
  .rw[a0h (by simpa using c),a0h c];rfl
  rw[a0g (by simpa using c),a0g c];rfl
 rw[e];unfold KP;split<;>constructor<;>omega
open Go Tw Pv bW
def acY:eY aF:=bZ 121 (a1 dA) iA (fun p=>(vC p).2) (fun p=>[Ih p,p.aA.length<=ah,p.aH.length<=2^20,p.aO.length+1<=ah]) acU
theorem ak4:Gd acY:=ajX.add fun n hO p hp=>aN hO (.o (hp _ (.head _)) (.o (hp _ (.tail _ (.head _))) (.o (hp _ (.tail _ (.tail _ (.head _)))) (.o (hp _ (.tail _ (.tail _ (.tail _ (.head _))))) .rr))))
def zy(d:Dg):Dg×Int:=if((bD d).2 != 0)=true then(kJ,(bD d).2)else(eU (bD d).1.d,0)
def a7c:eY aF:=bZ 108 (a1 dA) (dP (a2 dA iA)) (fun p=>zy p) (fun p=>[Ih p,p.aA.length<=ah,p.aH.length<=2^20,p.aO.length<=ah,((bD p).2 != 0)=false->ClP (bD p).1]) acY
theorem acZ:Gd a7c:=ak4.add fun n hO p hp=>aN hO (.o (hp _ (.tail _ (.head _))) (.o (hp _ (.tail _ (.tail _ (.head _)))) (.o (hp _ (.tail _ (.tail _ (.tail _ (.head _))))) (.sh (fun _=>.rn (.dG [.agg [.nil .slc,.nil .slc,.nil .slc,.nil .slc,.int .i64 0],.int .i64 (bD p).2]) rfl) fun h=>.o (hp _ (.tail _ (.tail _ (.tail _ (.tail _ (.head _))))) h) .rr))))
def ak5:eY aF:=bZ 77 (a3 iA iA iA) tA (fun p=>(if decide (p.2.2>=p.1)=true then decide (p.2.2<=p.2.1)else false)) np a7c
theorem aoX:Gd ak5:=acZ.add fun n hO p hp=>aN hO (.ss .rr .rr)
def a1y:eY aF:=bZ 123 (a2 (a5W frA) dA) tA (fun p=>(if decide (p.2.aA=p.1.1)=true then decide (p.2.aH=p.1.2)else false)) (fun p=>[p.2.aA.length<=ah,p.2.aH.length<=ah]) ak5
theorem ak6:Gd a1y:=aoX.add fun n hO p hp=>aN hO (.o (hp _ (.head _)) (.ss (.o (hp _ (.tail _ (.head _))) .rr) .rr))
end Go.Proofs.YtmobpoiejckagaaGreat
namespace Pv
open Go Tw
variable {X:kE} {P:Program}
theorem mY.ZH(hX:bM X P){call:aZ}{f:FuncId}{first xs cap vs:List (PV X.Γ)}{v v':PV X.Γ}{ext ext':List (PB X.Γ)}(hc:mY X P call f vs v ext)(hv:views [] (first++xs++cap)=some vs)(hs:qK X 0 ext=some ext')
  (e:shift 0 v=v') (he:(if wY v||ext.any (hasB X)then aY (kH.jS (first++xs++cap)) []else [])=([]:List (PB X.Γ))):aX X P call (.fn f first cap) xs [] v' ext':=by
 subst e;intro A m h tf rP hr hf hx;cases hf with
 |gone hi _ _=>simp[bg]at hi
 |fn p1 p2 p3 p4=>
  obtain⟨w,h',m1,c1,c2,c3,c4,c5⟩:=GV hX hc hr hv hs ⟨p1,p2⟩ hx ⟨p3,p4⟩;rw[he]at c2;exact⟨w,h',[],m1,c1,c2,c3,c4,c5,fun b hb=>by cases hb⟩
end Pv
namespace Go.Proofs.YtmobpoiejckagaaGreat
open Go Tw Pv bW
def a3n{α:Type}(g:α->Bool)(i:Nat)(x:α)(s:Unit):Unit⊕(Nat×α×Unit):=if(g x)=true then .inr (i,x,s)else .inl ()
def afi{α:Type}(d:α)(g:α->Bool)(l:List α):Int:=if(jK (lS (a3n g) l 0 ()))=true then -1 else(((CW (0,d,()) (lS (a3n g) l 0 ())).1:Int))
theorem a7d{α:Type}(g:α->Bool):∀(l:List α) (i:Nat),jK (lS (a3n g) l i ())=!(l.any g)
 | [],i=>rfl
 |x::l,i=>by
  simp only[lS,a3n,ado];cases g x
  .simpa using a7d g l (i+1)
  simp[jK]
theorem afj{α:Type}(d:α)(g:α->Bool)(l:List α):decide (afi d g l>=0)=l.any g:=by
 have:=a7d g l 0;unfold afi;rw[this];cases l.any g<;>simp
theorem dZ{α:Type}{l:List α}{k:Nat}{d:α}(h:k<l.length):l.getD k d∈l:=by simp[List.getD,a0a h]
abbrev afk(f:Nat)(a c:List (PV aF))(H:List (PB aF))(l:List Dg)(i:Int)(x:List (Nat×PE aF)):aQ aF:=⟨[(0,xL 26 l),(1,.val (.fn f a c)),(7,xi l.length),(8,xi i)]++x,[],H⟩
def ak7(f:Nat)(a c:List (PV aF))(H:List (PB aF))(l:List Dg):Unit⊕(Nat×Dg×Unit)->Ex×aQ aF
 |.inl _=>(.exit 0,afk f a c H l l.length [(9,xl false)])
 |.inr r=>(.ret,⟨[(4,xi r.1)],[],H⟩)
theorem aoY{n f:Nat}{a c:List (PV aF)}{H:List (PB aF)}{g:Dg->Bool}(l:List Dg)(hf:∀x∈l,aX X0 Qp (bQ n) (.fn f a c) [.agg x.ps] H (.bool (g x)) H)(hl:l.length<=ah):aX X0 Qp (bQ (n+1)) (.fn 204 [] []) [lDg l,.fn f a c] H (iA.put (afi kJ g l)) H:=by
 have lp:OB n 204 0 H.length (afk f a c H l 0 []) (ak7 f a c H l (lS (a3n g) l 0 ())).1 (ak7 f a c H l (lS (a3n g) l 0 ())).2:=
  WW (st:=fun i _=>afk f a c H l i []) kJ (fun _ _=>True) (by kernel_rfl) hl Sl trivial (fun k s n hk _ ih=>aK fZ (.b (aW hk) (.o (aG hk) (.k (hf (l.getD k kJ) (dZ hk)) (.ls (.ou nofun) (.nx (ih _ trivial))))))) (fun s _=>aK fZ (.b (eX l.length) (.ou nofun)))
 exact jd fZ (first:=[]) (cap:=[]) (.szh (fun h=>.w (jV lp () h) .sr) (fun h=>.w (jW lp (0,kJ,()) h) .sr))
theorem aoZ{n f:Nat}{a c:List (PV aF)}{H:List (PB aF)}{g:Dg->Bool}(l:List Dg)(hf:∀x∈l,aX X0 Qp (bQ n) (.fn f a c) [.agg x.ps] H (.bool (g x)) H)(hl:l.length<=ah):aX X0 Qp (bQ (n+2)) (.fn 173 [] []) [lDg l,.fn f a c] H (tA.put (l.any g)) H:=by
 rw[<-afj kJ g l];have h1:=aoY l hf hl;exact jd fZ (first:=[]) (cap:=[]) (.k h1 .sr)
def Dk(f:List Int×List Int)(d:Dg):Bool:=if decide (d.aA=f.1)=true then decide (d.aH=f.2)else false
abbrev a7e(f:List Int×List Int):PV aF:=.fn 123 [.agg [lI f.1,lI f.2]] []
structure rG(d:Dg):Prop where
 r:Ih d
 s:d.aA.length<=ah
 o:d.aH.length<=2^20
 e:d.aO.length+1<=ah
theorem ap0{n:Nat}(hO:Ok n a1y)(f:List Int×List Int)(l:List Dg)(hp:∀d∈l,rG d)(hl:l.length<=ah):aX X0 Qp (bQ (n+4)) (.fn 122 [] []) [a7e f,lDg l] [] (tA.put (l.all (Dk f))) []:=by
 have hs:∀d∈l,aX X0 Qp (bQ n) (a7e f) [.agg d.ps] [] (tA.put (Dk f d)) []:=fun d hd=>mY.ZH hX (first:=[.agg [lI f.1,lI f.2]]) (cap:=[]) (hO 123 [.agg [lI f.1,lI f.2],.agg d.ps] (tA.put (Dk f d)) [] [d.aA.length<=ah,d.aH.length<=ah] (by kernel_rfl) (fun p h=>by
  have h9:=hp d hd;have h8:=h9.o;rcases a1Y.1 h with rfl|h
  .exact h9.s
  rw[a2I.1 h];exact h8)) rfl rfl rfl rfl
 have h1:∀d∈l,aX X0 Qp (bQ (n+1)) (.fn 174 [] [.ptr 0 0 1]) [.agg d.ps] [.cells [a7e f]] (tA.put (!(Dk f d))) [.cells [a7e f]]:=fun d hd=>
  jd fZ (first:=[]) (.fr [] (hs d hd) .sr)
 have h2:=aoZ l h1 hl;rw[<-E8 l (Dk f)];exact aX.drop hX (CV hX fZ (first:=[]) (cap:=[]) (H1:=[.cells [a7e f]]) (by kernel_rfl) (.k h2 .sr)) rfl rfl
abbrev wCk(l:List Dg)(i:Int)(x:List (Nat×PE aF)):aQ aF:=⟨[(0,xL 26 l),(6,xL 26 l),(7,xi l.length),(8,xi i)]++x,[],[]⟩
abbrev cCk(l:List Dg)(k:Nat):Bool:=(vC (l.getD k kJ)).2 != 0
def zCk(l:List Dg):Unit⊕Nat->Ex×aQ aF
 |.inl _=>(.exit 0,wCk l l.length [(9,xl false)])
 |.inr k=>(.ret,⟨[(2,xi (vC (l.getD k kJ)).2)],[(l.getD k kJ).ps],[]⟩)
theorem lCk{n:Nat}(hO:Ok n a1y){l:List Dg}(hp:∀d∈l,rG d)(hl:l.length<=ah):Lp n 76 0 (wCk l 0 []) (zCk l (bF (cCk l) l.length)).1 (zCk l (bF (cCk l) l.length)).2:=by
 refine iU (st:=fun i _=>wCk l i []) (g:=gS (cCk l)) (out:=zCk l) (fun _ _=>True) (by kernel_rfl) hl trivial (fun k u m hk _ ih=>?_) (fun _ _=>?_)
 .have h9:=hp _ (dZ (d:=kJ) hk);unfold gS cCk;exact aK hO (.b (aW hk) (.o (aG hk) (.o h9.r (.o h9.s (.o h9.o (.o h9.e (.ls (.ou nofun) (.nx (ih _ trivial)))))))))
 exact aK hO (.b (eX l.length) (.ou nofun))
def bT(l:List Dg):Int:=if jK (bF (cCk l) l.length)=true then(if(!(l.all (Dk ((l.getD 0 kJ).aA,(l.getD 0 kJ).aH))))=true then 2 else 0)else(vC (l.getD (CW 0 (bF (cCk l) l.length)) kJ)).2
def ak8:eY aF:=bZ 76 (a1 aik) iA bT (fun l=>[∀d∈l,rG d,0<l.length∧l.length<=ah]) a1y
theorem ap3:Gd ak8:=ak6.deep 4 fun n hn hO l hp=>by
 have h1:∀d∈l,rG d:=hp _ (.head _);have h2:0<l.length∧l.length<=ah:=hp _ (.tail _ (.head _));have hs:=ap0 (n:=n-4) (hO (n-4) (by omega)) ((l.getD 0 kJ).aA,(l.getD 0 kJ).aH) l h1 h2.2;rw[show n-4+4=n by omega]at hs;have i0:gQ 0 l.length:=⟨by omega,by omega⟩;have hl:=lCk (hO n (by omega)) h1 h2.2;show mY X0 Qp _ _ _ (iA.put (bT l)) _;unfold bT;exact aN (hO n (by omega)) (.zh (fun h=>.w (jV hl () h) (.o i0 (.o i0 (.fr [] hs (.ss .rr .rr))))) (fun h=>.w (jW hl 0 h) .rr))
end Go.Proofs.YtmobpoiejckagaaGreat
