/- Part 5 of a proof: Many of all cells of a diagram together is the number of places; the answer to AskCount is Many of 1 of OpAnd of the condition's Where and the diagram's Where; for two diagrams that fit. -/
import Derived.Test.YtmobpoiejckagaaGreatP03
set_option linter.constructorNameAsVariable false
set_option linter.unusedVariables false
set_option linter.unusedSimpArgs false
set_option linter.unusedSectionVars false
open Go.IntKind (i64)
noncomputable section
namespace Go.Proofs.YtmobpoiejckagaaGreat
open Go Tw Pv
def acw:fA aG:=cO 219 (a1 iA) tA (fun p=>Vb p) np (aai (X:=X0))
theorem aiW:Gd acw:=Good.nil.add fun n hO p hp=>aN hO .rr
def acy:fA aG:=cO 141 (a1 uA) vA (fun p=>I9 p) np acw
theorem aiX:Gd acy:=aiW.add fun n hO p hp=>aN hO .rr
def acz:fA aG:=cO 140 (a3 iA iA rZ) tA (fun p=>wC p.2.2 p.1 p.2.1) (fun p=>[p.2.2.length<=ah]) acy
theorem aiY:Gd acz:=aiX.deep 3 fun n hn hO p hp=>by
 have h1:∀x,aW X0 Qp (bT (n-3+1)) (.fn 182 [] [.ptr 0 0 1,.ptr 1 0 1]) [.int .i64 x] [.cells [.int .i64 p.1],.cells [.int .i64 p.2.1]] (tA.put (tY x p.1 p.2.1)) [.cells [.int .i64 p.1],.cells [.int .i64 p.2.1]]:=fun x=>jy gy (first:=[]) (.ssh (fun _=>.sr) (fun _=>.sr));obtain⟨n,rfl⟩:∃k,n=k+3:=⟨n-3,by omega⟩;rw[show n+3-3+1=n+1 by omega]at h1;have h2:=aiT (n:=n+2) (by omega) (g:=fun x=>tY x p.1 p.2.1) h1 p.2.2 (hp _ (.head _));exact aN (hO _ (by omega)) (.k h2 (.v (!(nG (fun x=>tY x p.1 p.2.1) p.2.2)) (by rw[Ep];rfl)))
theorem nan(x:Int):Vb x=false:=by simp[Vb]
def acA:fA aG:=cO 154 (a1 vA) tA (fun p=>xq p) np acz
theorem aiZ:Gd acA:=aiY.add fun n hO p hp=>aN hO (.ss (.o le1 .rr) (.ss .rr .rr))
def acB:fA aG:=cO 100 (a1 iA) vA (fun p=>ny p) np acA
theorem aj0:Gd acB:=aiZ.add fun n hO p hp=>aN hO (.o le1 (.ss .rr .rr))
def acC:fA aG:=cO 186 (a1 tA) vA (fun p=>P7 p) np acB
theorem aj1:Gd acC:=aj0.add fun n hO p hp=>aN hO (.ss .rr .rr)
def acD:fA aG:=cO 156 (a1 vA) tA (fun p=>oD p) np acC
theorem aj2:Gd acD:=aj1.add fun n hO p hp=>aN hO .rr
def acE:fA aG:=cO 153 (a1 vA) tA (fun p=>AY p) np acD
theorem aj3:Gd acE:=aj2.add fun n hO p hp=>aN hO .rr
def acF:fA aG:=cO 142 (a2 iA iA) vA (fun p=>Jp p.1 p.2) np acE
theorem aj6:Gd acF:=aj3.add fun n hO p hp=>aN hO .rr
def acG:fA aG:=cO 143 (a2 iA iA) vA (fun p=>Jq p.1 p.2) np acF
theorem aj7:Gd acG:=aj6.add fun n hO p hp=>aN hO .rr
def acH:fA aG:=cO 144 (a2 iA iA) vA (fun p=>Jr p.1 p.2) np acG
theorem aj8:Gd acH:=aj7.add fun n hO p hp=>aN hO .rr
def acI:fA aG:=cO 146 (a2 iA iA) iA (fun p=>Dv p.1 p.2) np acH
theorem aj9:Gd acI:=aj8.add fun n hO p hp=>aN hO .rr
def acJ:fA aG:=cO 147 (a2 iA iA) iA (fun p=>Dw p.1 p.2) np acI
theorem aja:Gd acJ:=aj9.add fun n hO p hp=>aN hO .rr
def acK:fA aG:=cO 149 (a1 iA) tA (fun p=>Dx p) np acJ
theorem ajb:Gd acK:=aja.add fun n hO p hp=>aN hO .rr
def acL:fA aG:=cO 150 (a1 iA) tA (fun p=>Dy p) np acK
theorem ajc:Gd acL:=ajb.add fun n hO p hp=>aN hO .rr
def acM:fA aG:=cO 151 (a1 iA) tA (fun p=>Dz p) np acL
theorem ajd:Gd acM:=ajc.add fun n hO p hp=>aN hO .rr
def acN:fA aG:=cO 184 (a2 iA iA) (dQ (a2 iA iA)) (fun p=>uS p.1 p.2) (fun p=>[p.2≠0]) acM
theorem aje:Gd acN:=ajd.add fun n hO p hp=>aN hO (.o (hp _ (.head _)) (.o (hp _ (.head _)) (.ss (.ss .rr .rr) .rr)))
def acO:fA aG:=cO 187 (a2 iA iA) iA (fun p=>Jo p.1 p.2) np acN
theorem ajf:Gd acO:=aje.add fun n hO p hp=>aN hO (.b (nan p.1) (.b (nan p.2) (.ss .rr (.ss .rr .rr))))
theorem aoM{n:Nat}{fM:fA aG}(hO:Ok n fM)(ho:∀x:V,fM 156 [.agg x.ps]=some (.bool (oD x),[],[]))(H:List (PB aG))(x:V):aW X0 Qp (bT n) (.fn 156 [] []) [.agg x.ps] H (.bool (oD x)) H:=
 N8 hX hO (first:=[]) (cap:=[]) (vs:=[.agg x.ps]) (v:=.bool (oD x)) rfl (ho x) (fun p h=>by cases h) rfl
theorem aoN{n:Nat}{fM:fA aG}(hO:Ok n fM)(ho:∀x:V,fM 153 [.agg x.ps]=some (.bool (AY x),[],[]))(H:List (PB aG))(x:V):aW X0 Qp (bT n) (.fn 153 [] []) [.agg x.ps] H (.bool (AY x)) H:=
 N8 hX hO (first:=[]) (cap:=[]) (vs:=[.agg x.ps]) (v:=.bool (AY x)) rfl (ho x) (fun p h=>by cases h) rfl
def acP:fA aG:=cO 103 (a1 vsA) (dQ (a2 vA tA)) (fun p=>bQ p) (fun p=>[p.length<=ah]) acO
theorem ajg:Gd acP:=ajf.deep 2 fun n hn hO p hp=>by
 have hs:=aiV (n:=n-1) (H:=[]) (g:=fun v=>oD v) (aoM (hO (n-1) (by omega)) (fun _=>rfl) []) p (hp _ (.head _));rw[show n-1+1=n by omega]at hs;exact aN (hO n (by omega)) (.k hs (.sh (fun h=>.rr) (fun h=>.o (show gJ (iM (fun v=>oD v) p) p.length from⟨by simpa using h,QO _ _⟩) .rr)))
def acQ:fA aG:=cO 102 (a1 vsA) tA (fun p=>gQ p) (fun p=>[p.length<=ah]) acP
theorem ajh:Gd acQ:=ajg.deep 3 fun n hn hO p hp=>by
 have hs:=afi (n:=n-1) (by omega) (H:=[]) (g:=fun v=>AY v) (aoN (hO (n-2) (by omega)) (fun _=>rfl) []) p (hp _ (.head _));rw[show n-1+1=n by omega]at hs;exact aN (hO n (by omega)) (.k hs (.v (!(qB (fun v=>AY v) p)) (by rw[Jm];rfl)))
def aji:fA aG:=cO 99 (a3 vA vA vA) (dQ (a2 vA iA)) (fun p=>iF p.1 p.2.1 p.2.2) np acQ
theorem aoO:Gd aji:=ajh.add fun n hO p hp=>aN hO (.o le3 (.ss .rr (.ss .rr (.ss .rr .rr))))
def ajj:Arg Nat where
 put f:=.fn f [] []
 get v:=match v with
  |.fn g [] []=>some g
  |_=>none
 ok:=by
  intro v a hg A m h x hv;split at hg
  .cases hg;exact hv
  .cases hg
def acR:fA aG:=ZY 145 (a1 ajj) (fun _=>.fn 183 [] [.ptr 0 0 1]) (fun g=>[.cells [.fn g [] []]]) np aji
theorem ajk:Gd acR:=aoO.Xt 0 fun n _ hO p hp=>BO hX (hO n (by omega)) (by kernel_rfl) .er
def acS:fA aG:=ZY 148 (a1 ajj) (fun _=>.fn 185 [] [.ptr 0 0 1]) (fun g=>[.cells [.fn g [] []]]) np acR
theorem ajl:Gd acS:=ajk.Xt 0 fun n _ hO p hp=>BO hX (hO n (by omega)) (by kernel_rfl) .er
def aoP(p:Int):PV aG:=if p=7 then .fn 142 [] []else if p=8 then .fn 143 [] []else if p=9 then .fn 144 [] []else if p=10 then .fn 183 [] [.ptr 0 0 1]else if p=11 then .fn 183 [] [.ptr 0 0 1]else .fn 185 [] [.ptr 0 0 1]
def aoQ(p:Int):List (PB aG):=if p=10 then [.cells [.fn 146 [] []]]else if p=11 then [.cells [.fn 147 [] []]]else if p=12 then [.cells [.fn 149 [] []]]else if p=13 then [.cells [.fn 150 [] []]]else if p=14 then [.cells [.fn 151 [] []]]else []
def Py:fA aG:=ZY 101 (a1 uA) aoP aoQ (fun p=>[7<=p∧p<=14]) acS
theorem seven{p:Int}(h:7<=p∧p<=14):p=7∨p=8∨p=9∨p=10∨p=11∨p=12∨p=13∨p=14:=by omega
theorem ajm:Gd Py:=ajl.Xt 0 fun n _ hO p hp=>by
 rcases seven (hp _ (.head _))with rfl|rfl|rfl|rfl|rfl|rfl|rfl|rfl
 .exact BO hX (hO n (by omega)) (by kernel_rfl) (.b (rfl:true=true) .er)
 .exact BO hX (hO n (by omega)) (by kernel_rfl) (.b (rfl:false=false) (.b (rfl:true=true) .er))
 .exact BO hX (hO n (by omega)) (by kernel_rfl) (.b (rfl:false=false) (.b (rfl:false=false) (.b (rfl:true=true) .er)))
 .exact BO hX (hO n (by omega)) (by kernel_rfl) (.b (rfl:false=false) (.b (rfl:false=false) (.b (rfl:false=false) (.b (rfl:true=true) .er))))
 .exact BO hX (hO n (by omega)) (by kernel_rfl) (.b (rfl:false=false) (.b (rfl:false=false) (.b (rfl:false=false) (.b (rfl:false=false) (.b (rfl:true=true) .er)))))
 .exact BO hX (hO n (by omega)) (by kernel_rfl) (.b (rfl:false=false) (.b (rfl:false=false) (.b (rfl:false=false) (.b (rfl:false=false) (.b (rfl:false=false) (.b (rfl:true=true) .er))))))
 .exact BO hX (hO n (by omega)) (by kernel_rfl) (.b (rfl:false=false) (.b (rfl:false=false) (.b (rfl:false=false) (.b (rfl:false=false) (.b (rfl:false=false) (.b (rfl:false=false) (.b (rfl:true=true) .er)))))))
 .exact BO hX (hO n (by omega)) (by kernel_rfl) (.b (rfl:false=false) (.b (rfl:false=false) (.b (rfl:false=false) (.b (rfl:false=false) (.b (rfl:false=false) (.b (rfl:false=false) (.b (rfl:false=false) (.b (rfl:true=true) .er))))))))
theorem aar{n:Nat}(hO:Ok n Py)(a b:V)(x y:Int):aW X0 Qp (bT (n+1)) (.fn 183 [] [.ptr 0 0 1]) [.int .i64 x,.int .i64 y] [.cells [.fn 146 [] []],.list true true 39 [a,b],.list true true 39 [a,b]] (vA.put (iO Dv x y)) [.cells [.fn 146 [] []],.list true true 39 [a,b],.list true true 39 [a,b]]:=
 jy hO (first:=[]) (.ssh (fun _=>.sr) (fun h=>.o (show y≠0 by simpa using h) .sr))
theorem aas{n:Nat}(hO:Ok n Py)(a b:V)(x y:Int):aW X0 Qp (bT (n+1)) (.fn 183 [] [.ptr 0 0 1]) [.int .i64 x,.int .i64 y] [.cells [.fn 147 [] []],.list true true 39 [a,b],.list true true 39 [a,b]] (vA.put (iO Dw x y)) [.cells [.fn 147 [] []],.list true true 39 [a,b],.list true true 39 [a,b]]:=
 jy hO (first:=[]) (.ssh (fun _=>.sr) (fun h=>.o (show y≠0 by simpa using h) .sr))
theorem aat{n:Nat}(hO:Ok n Py)(a b:V)(x y:Int):aW X0 Qp (bT (n+1)) (.fn 185 [] [.ptr 0 0 1]) [.int .i64 x,.int .i64 y] [.cells [.fn 149 [] []],.list true true 39 [a,b],.list true true 39 [a,b]] (vA.put (dW Dx x y)) [.cells [.fn 149 [] []],.list true true 39 [a,b],.list true true 39 [a,b]]:=
 jy hO (first:=[]) .sr
theorem aau{n:Nat}(hO:Ok n Py)(a b:V)(x y:Int):aW X0 Qp (bT (n+1)) (.fn 185 [] [.ptr 0 0 1]) [.int .i64 x,.int .i64 y] [.cells [.fn 150 [] []],.list true true 39 [a,b],.list true true 39 [a,b]] (vA.put (dW Dy x y)) [.cells [.fn 150 [] []],.list true true 39 [a,b],.list true true 39 [a,b]]:=
 jy hO (first:=[]) .sr
theorem aav{n:Nat}(hO:Ok n Py)(a b:V)(x y:Int):aW X0 Qp (bT (n+1)) (.fn 185 [] [.ptr 0 0 1]) [.int .i64 x,.int .i64 y] [.cells [.fn 151 [] []],.list true true 39 [a,b],.list true true 39 [a,b]] (vA.put (dW Dz x y)) [.cells [.fn 151 [] []],.list true true 39 [a,b],.list true true 39 [a,b]]:=
 jy hO (first:=[]) .sr
def ajn:fA aG:=cO 45 (a3 uA vA vA) (dQ (a2 vA iA)) (fun p=>Ia p.1 p.2.1 p.2.2) (fun p=>[7<=p.1∧p.1<=16]) Py
theorem aoR:Gd ajn:=ajm.deep 1 fun n hn hO p hp=>by
 obtain⟨n,rfl⟩:∃k,n=k+1:=⟨n-1,by omega⟩;have Bc:=hO n (by omega);have hO:=hO (n+1) (by omega);obtain⟨k,a,b⟩:=p;rcases nine (show 7<=k∧k<=16 from hp _ (.head _))with rfl|rfl|rfl|rfl|rfl|rfl|rfl|rfl|rfl|rfl
 .have:oN X0 Qp (bT (n+1+1)) 45 ((a3 uA vA vA).put (7,a,b)) ((dQ (a2 vA iA)).put (oG a b)) []:=aN hO (.b (rfl:false=false) (.b (rfl:false=false) (.o (by decide:(7:Int)<=7∧(7:Int)<=14) (.b (rfl:false=false) (.o YN (.ss .rr (.o YN (.ss .rr .rr))))))));exact this
 .have:oN X0 Qp (bT (n+1+1)) 45 ((a3 uA vA vA).put (8,a,b)) ((dQ (a2 vA iA)).put (oH a b)) []:=aN hO (.b (rfl:false=false) (.b (rfl:false=false) (.o (by decide:(7:Int)<=8∧(8:Int)<=14) (.b (rfl:false=false) (.o YN (.ss .rr (.o YN (.ss .rr .rr))))))));exact this
 .have:oN X0 Qp (bT (n+1+1)) 45 ((a3 uA vA vA).put (9,a,b)) ((dQ (a2 vA iA)).put (oJ a b)) []:=aN hO (.b (rfl:false=false) (.b (rfl:false=false) (.o (by decide:(7:Int)<=9∧(9:Int)<=14) (.b (rfl:false=false) (.o YN (.ss .rr (.o YN (.ss .rr .rr))))))));exact this
 .have:oN X0 Qp (bT (n+1+1)) 45 ((a3 uA vA vA).put (10,a,b)) ((dQ (a2 vA iA)).put (lT a b)) []:=aN hO (.b (rfl:false=false) (.b (rfl:false=false) (.o (by decide:(7:Int)<=10∧(10:Int)<=14) (.b (rfl:false=false) (.o YN (.ss .rr (.o YN (.ss .rr (.k (aar Bc a b a.n b.n) .rr)))))))));exact this
 .have:oN X0 Qp (bT (n+1+1)) 45 ((a3 uA vA vA).put (11,a,b)) ((dQ (a2 vA iA)).put (lU a b)) []:=aN hO (.b (rfl:false=false) (.b (rfl:false=false) (.o (by decide:(7:Int)<=11∧(11:Int)<=14) (.b (rfl:false=false) (.o YN (.ss .rr (.o YN (.ss .rr (.k (aas Bc a b a.n b.n) .rr)))))))));exact this
 .have:oN X0 Qp (bT (n+1+1)) 45 ((a3 uA vA vA).put (12,a,b)) ((dQ (a2 vA iA)).put (lW a b)) []:=aN hO (.b (rfl:false=false) (.b (rfl:false=false) (.o (by decide:(7:Int)<=12∧(12:Int)<=14) (.b (rfl:false=false) (.o YN (.ss .rr (.o YN (.ss .rr (.k (aat Bc a b a.n b.n) .rr)))))))));exact this
 .have:oN X0 Qp (bT (n+1+1)) 45 ((a3 uA vA vA).put (13,a,b)) ((dQ (a2 vA iA)).put (lX a b)) []:=aN hO (.b (rfl:false=false) (.b (rfl:false=false) (.o (by decide:(7:Int)<=13∧(13:Int)<=14) (.b (rfl:false=false) (.o YN (.ss .rr (.o YN (.ss .rr (.k (aau Bc a b a.n b.n) .rr)))))))));exact this
 .have:oN X0 Qp (bT (n+1+1)) 45 ((a3 uA vA vA).put (14,a,b)) ((dQ (a2 vA iA)).put (lY a b)) []:=aN hO (.b (rfl:false=false) (.b (rfl:false=false) (.o (by decide:(7:Int)<=14∧(14:Int)<=14) (.b (rfl:false=false) (.o YN (.ss .rr (.o YN (.ss .rr (.k (aav Bc a b a.n b.n) .rr)))))))));exact this
 .have:oN X0 Qp (bT (n+1+1)) 45 ((a3 uA vA vA).put (15,a,b)) ((dQ (a2 vA iA)).put (tZ a b)) []:=aN hO (.b (rfl:true=true) .rr);exact this
 .have:oN X0 Qp (bT (n+1+1)) 45 ((a3 uA vA vA).put (16,a,b)) ((dQ (a2 vA iA)).put (uf a b)) []:=aN hO (.b (rfl:false=false) (.b (rfl:true=true) .rr));exact this
open Go Tw Pv bZ
def ajo:fA aG:=cO 23 (a3 iA iA iA) tA (fun p=>nS p.1 p.2.1 p.2.2) np ajn
theorem aoS:Gd ajo:=aoR.add fun n hO p hp=>aN hO (.ss .rr .rr)
abbrev KT(a b:List Int)(k:Nat):Bool:=a.getD k 0 != b.getD k 0
abbrev w32(a b:List Int)(i:Int)(x:List (Nat×PE aG)):aS aG:=⟨[(0,xL 3 a),(1,xL 3 b),(5,xi i)]++x,[],[]⟩
def z32(a b:List Int):Unit⊕Nat->Ex×aS aG
 |.inl _=>(.exit 0,w32 a b a.length [(14,xl false)])
 |.inr _=>(.ret,⟨[(4,xl false)],[],[]⟩)
theorem l32{n:Nat}{fM:fA aG}(hO:Ok n fM)(a b:List Int)(hl:a.length<=ah)(h:a.length=b.length):Lp n 32 0 (w32 a b 0 []) (z32 a b (bG (KT a b) a.length)).1 (z32 a b (bG (KT a b) a.length)).2:=
 Ph (st:=fun i _=>w32 a b i []) (fun _ _=>True) (by kernel_rfl) hl QU trivial (fun k s n hk _ ih=>aO hO (.b (bF hk) (.o (aH hk) (.o (aH (h▸hk)) (.ls (.ou nofun) (.nx (ih _ trivial))))))) (fun s _=>aO hO (.b (fF a.length) (.ou nofun)))
theorem Et{a b:List Int}(h:a.length=b.length):jZ (bG (KT a b) a.length)=decide (a=b):=by
 rw[a4T,dI,a0N,pI (d:=0) h];simp[KT]
theorem a6X{a b:List Int}(h:((a.length:Int) != (b.length:Int))=true):decide (a=b)=false:=by
 rw[a2H];rintro rfl;simp at h
theorem lZ{α β:Type}{a:List α}{b:List β}(h:((a.length:Int) != (b.length:Int))=false):a.length=b.length:=by simp at h;omega
def ajp:fA aG:=cO 32 (a2 rZ rZ) tA (fun p=>decide (p.1=p.2)) (fun p=>[p.1.length<=ah]) ajo
theorem aoU:Gd ajp:=aoS.add fun n hO p hp=>aN hO (.s (fun h=>.v false (a6X h).symm) fun h=>.z (c:=jZ (bG (KT p.1 p.2) p.1.length)) (fun h2=>.w (kM (l32 hO p.1 p.2 (hp _ (.head _)) (lZ h)) () h2) (.v true (by rw[<-Et (lZ h),h2]))) fun h2=>.w (kN (l32 hO p.1 p.2 (hp _ (.head _)) (lZ h)) 0 h2) (.v false (by rw[<-Et (lZ h),h2])))
abbrev aaw(a:List Int)(n i:Int)(x:List (Nat×PE aG)):aS aG:=⟨[(0,xL 3 a),(5,xi n),(6,xi i)]++x,[],[]⟩
theorem aoV{n:Nat}{fM:fA aG}(hO:Ok n fM)(a:List Int)(hl:a.length<=ah):Lp n 104 0 (aaw a 1 0 []) (.exit 0) (aaw a (zL a) a.length [(11,xl false)]):=
 KQ (st:=fun i n=>aaw a n i []) (fin:=fun n=>aaw a n a.length [(11,xl false)]) (fun _ _=>True) (by kernel_rfl) hl QU trivial (fun _ _ _ _=>trivial) (fun k s hk _ n e p h=>aO hO (.b (bF hk) (.o (aH hk) (.go h)))) (fun s _=>aO hO (.b (fF a.length) .ex))
def acT:fA aG:=cO 104 (a2 rZ iA) iA (fun p=>zL p.1) (fun p=>[p.1.length<=ah,p.2=0]) ajp
theorem ajq:Gd acT:=aoU.add fun n hO p hp=>by
 obtain⟨a,k⟩:=p;have h0:k=0:=hp _ (.tail _ (.head _));subst h0;exact aN hO (.w (aoV hO a (hp _ (.head _))) .rr)
def afj:fA aG:=cO 49 (a1 rZ) iA (fun p=>zL p) (fun p=>[p.length<=ah]) acT
theorem aoW:Gd afj:=ajq.add fun n hO p hp=>aN hO (.o (hp _ (.head _)) (.o (rfl:(0:Int)=0) .rr))
abbrev KU(b:List Int)(k j:Nat):Bool:=b.getD j 0==b.getD k 0
abbrev a3D(a b:List Int)(i:Int)(x:List (Nat×PE aG)):aS aG:=⟨[(0,xL 3 a),(1,xL 3 b),(5,xi i)]++x,[],[]⟩
def acU(a b:List Int)(k:Int)(i:Int):Unit⊕Nat->Ex×aS aG
 |.inl _=>(.exit 2,a3D a b k [(6,xi i),(29,xl false)])
 |.inr _=>(.ret,⟨[(4,xl false)],[],[]⟩)
theorem acV{n:Nat}{fM:fA aG}(hO:Ok n fM)(a b:List Int)(k:Nat)(hl:k<=ah)(h:k<b.length):Lp n 109 1 (a3D a b k [(6,xi 0)]) (acU a b k k (bG (KU b k) k)).1 (acU a b k k (bG (KU b k) k)).2:=
 Ph (st:=fun i _=>a3D a b k [(6,xi i)]) (fun _ _=>True) (by kernel_rfl) hl QU trivial (fun j s n hk _ ih=>aO hO (.b (bF hk) (.o (aH (show j<b.length by omega)) (.o (aH h) (.ls (.ou nofun) (.nx (ih _ trivial))))))) (fun s _=>aO hO (.b (fF k) (.ou nofun)))
abbrev a02(m:Int)(b:List Int)(k:Nat):Bool:=if(!(nS (b.getD k 0) 0 m))=true then true else if jZ (bG (KU b k) k)=true then false else true
def z109(a b:List Int):Unit⊕Nat->Ex×aS aG
 |.inl _=>(.exit 0,a3D a b b.length [(15,xl false)])
 |.inr _=>(.ret,⟨[(4,xl false)],[],[]⟩)
abbrev xw(s:List Int):Int:=i64.wrap ((s.length:Int)-1)
theorem ajr{n:Nat}(hO:Ok n afj)(a b:List Int)(hl:b.length<=ah):Lp n 109 0 (a3D a b 0 []) (z109 a b (bG (a02 (xw a) b) b.length)).1 (z109 a b (bG (a02 (xw a) b) b.length)).2:=
 Ph (st:=fun i _=>a3D a b i []) (fun _ _=>True) (by kernel_rfl) hl QU trivial (fun k s n hk _ ih=>by
  unfold gS a02;cases h1:(!(nS (b.getD k 0) 0 (xw a)))
  .cases h2:jZ (bG (KU b k) k)
   .exact aO hO (.b (bF hk) (.o (aH hk) (.b h1 (.w (kN (acV hO a b k (by omega) hk) 0 h2) (.ou nofun)))))
   .exact aO hO (.b (bF hk) (.o (aH hk) (.b h1 (.w (kM (acV hO a b k (by omega) hk) () h2) (.nx (ih _ trivial))))))
  .exact aO hO (.b (bF hk) (.o (aH hk) (.b h1 (.ou nofun))))
  ) (fun s _=>aO hO (.b (fF b.length) (.ou nofun)))
theorem a6Y{s:List Int}(h:s.length<=ah):xw s=(s.length:Int)-1:=by unfold xw;unfold ah at h;exact fJ (by omega) (by omega)
theorem vY{k lo hi:Int}:nS k lo hi=true↔lo<=k∧k<=hi:=by
 unfold nS;split
 .rename_i h;simp at h ⊢;omega
 rename_i h;simp at h ⊢;omega
theorem XH{a b:List Int}(ha:a.length<=ah)(h:b.length=a.length):jZ (bG (a02 (xw a) b) b.length)=kD a.length b:=by
 rw[a4T,dI,kD,a0N];have e1:(∀j,j<b.length->a02 (xw a) b j=false)↔(∀j,j<b.length->(0<=b.getD j 0∧b.getD j 0<a.length)∧∀i,i<j->b.getD i 0≠b.getD j 0):=by
  refine ac5 fun j=>ac5 fun hj=>?_;unfold a02;rw[a6Y ha];cases h1:nS (b.getD j 0) 0 ((a.length:Int)-1)
  .simp only[aal,a2k,aeU,false_iff];intro h2;have:nS (b.getD j 0) 0 ((a.length:Int)-1)=true:=by
    rw[vY];omega
   rw[h1]at this;cases this
  have h3:0<=b.getD j 0∧b.getD j 0<a.length:=by
   rw[vY]at h1;omega
  simp only[a9f,a2u,a3q,h3,ad7,true_and];cases h2:jZ (bG (KU b j) j)
  .simp only[a2u,a3q,aeU,false_iff];intro h4;have:jZ (bG (KU b j) j)=true:=dI.2 fun i hi=>(by simpa[KU]using h4 i hi);rw[h2]at this;cases this
  simp only[a2k,true_iff];intro i hi;have:=dI.1 h2 i hi;simpa[KU]using this
 rw[e1];constructor
 .intro hq;refine⟨h,(Pg (d:=0)).1 fun j hj=>(hq j hj).1,?_⟩;rw[ac6,acg];intro i j hi hj Am;have:=(hq j hj).2 i Am;simpa[List.getD,a0b hi,a0b hj]using this
 rintro⟨_,h2,h3⟩ j hj;refine⟨(Pg (d:=0)).2 h2 j hj,fun i hi=>?_⟩;rw[ac6,acg]at h3;have:=h3 i j (by omega) hj hi;simpa[List.getD,a0b (show i<b.length by omega),a0b hj]using this
theorem aax{a b:List Int}(h:((b.length:Int) != (a.length:Int))=true):kD a.length b=false:=by
 unfold kD;rw[a2H];rintro⟨h1,_⟩;rw[h1]at h;simp at h
def a6Z:fA aG:=cO 109 (a2 rZ rZ) tA (fun p=>kD p.1.length p.2) (fun p=>[p.1.length<=ah,p.2.length<=ah]) afj
theorem ajs:Gd a6Z:=aoW.add fun n hO p hp=>aN hO (.s (fun h=>.v false (aax h).symm) fun h=>.z (c:=jZ (bG (a02 (xw p.1) p.2) p.2.length)) (fun h2=>.w (kM (ajr hO p.1 p.2 (hp _ (.tail _ (.head _)))) () h2) (.v true (by rw[<-XH (hp _ (.head _)) (lZ h),h2]))) fun h2=>.w (kN (ajr hO p.1 p.2 (hp _ (.tail _ (.head _)))) 0 h2) (.v false (by rw[<-XH (hp _ (.head _)) (lZ h),h2])))
abbrev cSz(a:List Int)(k:Nat):Bool:=!(nS (a.getD k 0) 1 12)
theorem aay{a:List Int}:jZ (bG (cSz a) a.length)=decide (nX a):=by
 rw[a4T,dI,a0N,nX,<-Pg (d:=0)];refine ac5 fun j=>ac5 fun hj=>?_;simp only[cSz,abU,vY]
abbrev w58(a b:List Int)(i:Int)(x:List (Nat×PE aG)):aS aG:=⟨[(0,xL 3 a),(1,xL 3 b),(5,xi i)]++x,[],[]⟩
def z58(a b:List Int):Unit⊕Nat->Ex×aS aG
 |.inl _=>(.exit 0,w58 a b a.length [(12,xl false)])
 |.inr _=>(.ret,⟨[(4,xi 3)],[],[]⟩)
theorem l58{n:Nat}(hO:Ok n a6Z)(a b:List Int)(hl:a.length<=ah):Lp n 58 0 (w58 a b 0 []) (z58 a b (bG (cSz a) a.length)).1 (z58 a b (bG (cSz a) a.length)).2:=
 Ph (st:=fun i _=>w58 a b i []) (fun _ _=>True) (by kernel_rfl) hl QU trivial (fun k s n hk _ ih=>aO hO (.b (bF hk) (.o (aH hk) (.ls (.ou nofun) (.nx (ih _ trivial)))))) (fun s _=>aO hO (.b (fF a.length) (.ou nofun)))
def bV(s o:List Int):Int:=if decide ((s.length:Int)>6)=true then 5 else if jZ (bG (cSz s) s.length)=true then(if decide (zL s>2000)=true then 5 else if(!(kD s.length o))=true then 4 else 0)else 3
theorem aaz{s:List Int}(h:decide ((s.length:Int)>6)=false):s.length<=6:=by simp at h;omega
theorem a1E{k:Nat}(h:k<=6):k<=ah:=by unfold ah;omega
def aju:fA aG:=cO 58 (a2 rZ rZ) iA (fun p=>bV p.1 p.2) (fun p=>[p.2.length<=ah]) a6Z
theorem aoY:Gd aju:=ajs.add fun n hO p hp=>aN hO (.sh (fun _=>.rr) fun h=>.zh (fun h2=>.w (kM (l58 hO p.1 p.2 (a1E (aaz h))) () h2) (.o (a1E (aaz h)) (.o (rfl:(0:Int)=0) (.ss .rr (.o (a1E (aaz h)) (.o (hp _ (.head _)) (.ss .rr .rr))))))) fun h2=>.w (kN (l58 hO p.1 p.2 (a1E (aaz h))) 0 h2) .rr)
theorem Pz(s o:List Int):bV s o=if 6<s.length then 5 else if nX s then(if 2000<bC s then 5 else if kD s.length o=true then 0 else 4)else 3:=by
 unfold bV;rw[aay];by_cases h1:6<s.length
 .rw[a0u h1,a0u (by simp;omega)]
 rw[a0o h1,a0o (by simp;omega)];by_cases h2:nX s
 .rw[a0u (by simpa using h2),a0u h2,Pm h2];by_cases h3:2000<bC s
  .rw[a0u h3,a0u (by simp;omega)]
  rw[a0o h3,a0o (by simp;omega)];cases kD s.length o<;>simp
 rw[a0o (by simpa using h2),a0o h2]
theorem jV{s o:List Int}:bV s o=0↔vC s∧kD s.length o=true:=by
 rw[Pz];constructor
 .intro h;split at h
  .cases h
  split at h
  .split at h
   .cases h
   split at h
   .exact⟨⟨by omega,by assumption,by omega⟩,by assumption⟩
   cases h
  cases h
 rintro⟨⟨h1,h2,h3⟩,h4⟩;rw[a0o (by omega),a0u h2,a0o (by omega),a0u h4]
abbrev w53(a:List Int)(i:Int)(s:Int×List Int)(x:List (Nat×PE aG)):aS aG:=⟨[(0,xL 3 a),(1,xi s.1),(5,xo 0),(6,xi i)]++x,[],[.list true true 3 s.2]⟩
theorem szk{a:List Int}(hs:nX a){k:Nat}(hk:k<a.length):a.getD k 0≠0:=by have:=hs _ (dB hk);omega
theorem afk(k:Nat):decide ((k:Int)>=0)=true:=by simp
theorem l53{n:Nat}{fM:fA aG}(hO:Ok n fM)(a:List Int)(m:Int)(hl:a.length<=ah)(hs:nX a):Lp n 53 0 (w53 a (i64.wrap ((a.length:Int)-1)) (m,List.replicate a.length 0) []) (.exit 0) (w53 a (-1) (P9 (a3w a) a.length (m,List.replicate a.length 0)) [(14,xl false)]):=
 aiP (st:=fun i s=>w53 a i s []) (fin:=fun s=>w53 a (-1) s [(14,xl false)]) (fun _ s=>s.2.length=a.length) (by kernel_rfl) hl QU (by simp) (fun k s _ h=>by simp[a3w,h]) (fun k s hk hi n e p h=>aO hO (.b (afk k) (.o (aH hk) (.o (szk hs hk) (.o (aH (show k<s.2.length by omega)) (.o (aH hk) (.o (szk hs hk) (.go h)))))))) (fun s _=>aO hO (.b (rfl:decide ((-1:Int)>=0)=false) .ex))
theorem mk1{α:Type}(l:List α):(l.length:Int)=(l.length:Int):=rfl
theorem mk2{α:Type}(l:List α):(0:Int)<=(l.length:Int):=by omega
theorem mk3{α:Type}{l:List α}(h:l.length<=ah):(l.length:Int)<=(ah:Int):=by omega
def ajv:fA aG:=cO 53 (a2 rZ iA) rZ (fun p=>iw p.1 p.2) (fun p=>[p.1.length<=ah,nX p.1,0<=p.2,p.2<2^62]) aju
theorem aoZ:Gd ajv:=aoY.add fun n hO p hp=>aN hO (.o (mk1 p.1) (.o (mk2 p.1) (.o (mk3 (hp _ (.head _))) (.w (l53 hO p.1 p.2 (hp _ (.head _)) (hp _ (.tail _ (.head _)))) (.v (P9 (a3w p.1) p.1.length (p.2,List.replicate p.1.length 0)).2 (a6S (hp _ (.tail _ (.head _))) (hp _ (.tail _ (.tail _ (.head _)))) (hp _ (.tail _ (.tail _ (.tail _ (.head _))))) a7Y))))))
def vOk(v:V):Bool:=if(v.f==0)=true then nS v.n (-9999) 9999 else if(decide (v.f<=4))=true then v.n==0 else false
def ajw:fA aG:=cO 29 (a1 vA) tA (fun p=>vOk p) np ajv
theorem ap0:Gd ajw:=aoZ.add fun n hO p hp=>aN hO (.ss .rr (.ss .rr .rr))
def vIs(v:V):Bool:=if(decide (v.f>0))=true then(if(decide (v.f<=4))=true then v.n==0 else false)else nS v.n (-9999) 9999
theorem afl{v:V}(h:0<=v.f):vOk v=vIs v:=by
 unfold vOk vIs;by_cases h0:v.f=0
 .rw[a0u (by simp[h0]),a0o (by simp;omega)]
 have:v.f>0:=by omega
 simp[h0,this]
open Go Tw Pv bZ
def dU(n:Nat):List Int:=(List.range n).map fun(k:Nat)=>(k:Int)
theorem mg(n:Nat):(dU n).length=n:=by simp[dU]
theorem Tq(n:Nat):kD n (dU n)=true:=by
 unfold kD;rw[a0N];refine⟨mg n,fun a ha=>?_,?_⟩
 .simp only[dU,a0H,a4L]at ha;obtain⟨k,h1,rfl⟩:=ha;omega
 unfold dU;exact List.Pairwise.map _ (fun a b h=>by omega) ae5
open Go Tw Pv bZ
abbrev V.tv(v:V):TV:=.agg [.int .u8 v.f,.int .i64 v.n]
theorem a3E:Tryz.prog.underlying 3=some (.int .i64):=by kernel_rfl
theorem uU8:Tryz.prog.underlying 5=some (.int .u8):=by kernel_rfl
theorem afm : Tryz.prog.underlying 39 = some (.struct #[⟨"Fault", 5, 0, false, "", "", 0⟩, ⟨"N", 3, 1, false, "", "", 8⟩]) := by kernel_rfl
theorem a1G(d:Nat)(a b:V):aC Qp (Op.equalIn (d+2) 39 (.agg #[.int .u8 a.f,.int .i64 a.n]) (.agg #[.int .u8 b.f,.int .i64 b.n]))=some (decide (a=b)):=by
 rw[yD (d+1) 39 _ _ _ afm (by kernel_rfl)];have p0:∀x y:Value,aC Qp (part 5 #[x,y] 0)=some x:=by intro x y;kernel_rfl
 have p1:∀x y:Value,aC Qp (part 3 #[x,y] 1)=some y:=by intro x y;kernel_rfl
 have n1 : ("Fault" : String) ≠ "_" := by decide
 have n2 : ("N" : String) ≠ "_" := by decide
 have q1 := pq (f := ⟨"Fault", 5, 0, false, "", "", 0⟩) (fs := [⟨"N", 3, 1, false, "", "", 8⟩]) n1 (p0 (.int .u8 a.f) (.int .i64 a.n)) (p0 (.int .u8 b.f) (.int .i64 b.n)) (rM d _ _ _ _ _ uU8);have q2 := pq (f := ⟨"N", 3, 1, false, "", "", 8⟩) (fs := []) n2 (p1 (.int .u8 a.f) (.int .i64 a.n)) (p1 (.int .u8 b.f) (.int .i64 b.n)) (rM d _ _ _ _ _ a3E);rw[q1,q2];rw[show aC Qp (Op.eqFields (d+1) #[.int .u8 a.f,.int .i64 a.n] #[.int .u8 b.f,.int .i64 b.n] [])=some true from rfl];rcases a with⟨a1,a2⟩;rcases b with⟨b1,b2⟩;by_cases h1:a1=b1<;>by_cases h2:a2=b2<;>simp[h1,h2]
theorem eqV(x y:Operand)(a b:V):sS Qp .eql 39 x y (V.tv a) (V.tv b)=some (.bool (decide (a=b))):=(Hf rfl rfl (by kernel_rfl) (by decide) (a1G 9998 a b)).1
theorem neV(x y:Operand)(a b:V):sS Qp .neq 39 x y (V.tv a) (V.tv b)=some (.bool (!decide (a=b))):=(Hf rfl rfl (by kernel_rfl) (by decide) (a1G 9998 a b)).2
open Go Tw Pv bZ
abbrev cAl(a b:List V)(k:Nat):Bool:=!decide (a.getD k V0=b.getD k V0)
abbrev w75(a b:List V)(i:Int)(x:List (Nat×PE aG)):aS aG:=⟨[(0,xL 39 a),(1,xL 39 b),(5,xi i)]++x,[],[]⟩
def z75(a b:List V):Unit⊕Nat->Ex×aS aG
 |.inl _=>(.exit 0,w75 a b a.length [(14,xl false)])
 |.inr _=>(.ret,⟨[(4,xl false)],[],[]⟩)
theorem l75{n:Nat}{fM:fA aG}(hO:Ok n fM)(a b:List V)(hl:a.length<=ah)(h:a.length=b.length):Lp n 75 0 (w75 a b 0 []) (z75 a b (bG (cAl a b) a.length)).1 (z75 a b (bG (cAl a b) a.length)).2:=
 Ph (st:=fun i _=>w75 a b i []) (fun _ _=>True) (by kernel_rfl) hl QU trivial (fun k s n hk _ ih=>aO hO (.b (bF hk) (.o (aH hk) (.o (aH (h▸hk)) (.q (.bool (cAl a b k)) (neV (.tmp 20) (.tmp 24) (a.getD k V0) (b.getD k V0)) (.ls (.ou nofun) (.nx (ih _ trivial)))))))) (fun s _=>aO hO (.b (fF a.length) (.ou nofun)))
theorem a1H{a b:List V}(h:a.length=b.length):jZ (bG (cAl a b) a.length)=decide (a=b):=by
 rw[a4T,dI,a0N,pI (d:=V0) h];simp[cAl]
theorem aaA{a b:List V}(h:((a.length:Int) != (b.length:Int))=true):decide (a=b)=false:=by
 rw[a2H];rintro rfl;simp at h
def ajx:fA aG:=cO 75 (a2 vsA vsA) tA (fun p=>decide (p.1=p.2)) (fun p=>[p.1.length<=ah]) ajw
theorem ap4:Gd ajx:=ap0.add fun n hO p hp=>aN hO (.s (fun h=>.v false (aaA h).symm) fun h=>.z (c:=jZ (bG (cAl p.1 p.2) p.1.length)) (fun h2=>.w (kM (l75 hO p.1 p.2 (hp _ (.head _)) (lZ h)) () h2) (.v true (by rw[<-a1H (lZ h),h2]))) fun h2=>.w (kN (l75 hO p.1 p.2 (hp _ (.head _)) (lZ h)) 0 h2) (.v false (by rw[<-a1H (lZ h),h2])))
open Go Tw Pv bZ
abbrev RhB(n f k B m:Nat)(s:aS aG)(e:Ex)(p:aS aG):Prop:=dN X0 Qp T (bT n) LL f false (Cj Qp f) B (SX Qp f k) m s e p
abbrev hdP(f k:Nat)(w:aS aG):aS aG:=gW X0 (T.eU f (dZ (SX Qp f k))) w
section
variable {n f k B N:Nat} {σ ρ:Type}
theorem yH{st:Int->σ->aS aG}{g:Nat->σ->σ}{e:Ex}{fin:σ->aS aG}{s0:σ}{w:aS aG}(Inv:Nat->σ->Prop)(h0:hdP f k w=st 0 s0)(hl:N<=ah)(hi:Inv 0 s0)(hv:∀j s,j<N->Inv j s->Inv (j+1) (g j s))
  (hs:∀(j:Nat) (s:σ),j<N->Inv j s->∀m e1 p,RhB n f k B m (st (i64.wrap (j+1)) (g j s)) e1 p->RhB n f k B (m+1) (st j s) e1 p)
  (ho:∀s,Inv N s->RhB n f k B 1 (st N s) e (fin s)):Px n f k B w e (fin (aT g N 0 s0)):=KQ Inv h0 hl QU hi hv hs ho
theorem jh{st:Int->σ->aS aG}{g:Nat->σ->σ⊕ρ}{out:σ⊕ρ->Ex×aS aG}{s0:σ}{w:aS aG}(Inv:Nat->σ->Prop)(h0:hdP f k w=st 0 s0)(hl:N<=ah)(hi:Inv 0 s0)
  (hs:∀(j:Nat) (s:σ) (m:Nat),j<N->Inv j s->(∀s1,Inv (j+1) s1->RhB n f k B m (st (i64.wrap (j+1)) s1) (vN (X:=X0) out g (N-(j+1)) (j+1) (.inl s1)).1 (vN (X:=X0) out g (N-(j+1)) (j+1) (.inl s1)).2) ->
   RhB n f k B (m+1) (st j s) (vN (X:=X0) out g (N-(j+1)) (j+1) (g j s)).1 (vN (X:=X0) out g (N-(j+1)) (j+1) (g j s)).2)
  (ho:∀s,Inv N s->RhB n f k B 1 (st N s) (out (.inl s)).1 (out (.inl s)).2):Px n f k B w (out (kP g N 0 s0)).1 (out (kP g N 0 s0)).2:=Ph Inv h0 hl QU hi hs ho
theorem a1I{a:Nat}{st:Int->σ->aS aG}{g:Nat->σ->σ⊕ρ}{out:σ⊕ρ->Ex×aS aG}{s0:σ}{w:aS aG}(Inv:Nat->σ->Prop)(h0:hdP f k w=st a s0)(ha:a<=N)(hl:N<=ah)(hi:Inv a s0)
  (hs:∀(j:Nat) (s:σ) (m:Nat),a<=j->j<N->Inv j s->(∀s1,Inv (j+1) s1->RhB n f k B m (st (i64.wrap (j+1)) s1) (vN (X:=X0) out g (N-(j+1)) (j+1) (.inl s1)).1 (vN (X:=X0) out g (N-(j+1)) (j+1) (.inl s1)).2) ->
   RhB n f k B (m+1) (st j s) (vN (X:=X0) out g (N-(j+1)) (j+1) (g j s)).1 (vN (X:=X0) out g (N-(j+1)) (j+1) (g j s)).2)
  (ho:∀s,Inv N s->RhB n f k B 1 (st N s) (out (.inl s)).1 (out (.inl s)).2):Px n f k B w (out (kP g (N-a) a s0)).1 (out (kP g (N-a) a s0)).2:=af9 Inv h0 ha hl QU hi hs ho
theorem a03{st:σ->aS aG}{g:σ->σ⊕ρ}{out:ρ->Ex×aS aG}(Inv:σ->Prop){m:Nat}{s:σ}{r:ρ}{w:aS aG}(hr:itF g m s=some r)(h0:hdP f k w=st s)(hk:m<=LL)(hv:Inv s)(hi:∀s s1,Inv s->g s=.inl s1->Inv s1)
  (hs:∀s m r,Inv s->(∀s1,g s=.inl s1->RhB n f k B m (st s1) (out r).1 (out r).2)->RhB n f k B (m+1) (st s) (Du (X:=X0) out r (g s)).1 (Du (X:=X0) out r (g s)).2):Px n f k B w (out r).1 (out r).2:=af4 Inv hr h0 hk hv hi hs
end
open Go Tw Pv bZ
structure Prt(l:List V)(w n:Nat):Prop where
 n12:n<=12
 w2:w<=5000
 len:l.length=n*w
section
variable {l:List V} {w n j:Nat} (h:Prt l w n)
include h
end
theorem Tt{α β:Type}(l:List α)(d:α)(f:α->β):(List.range l.length).map (fun k=>f (l.getD k d))=l.map f:=by
 apply a9o (by simp);intro i h1 h2;have:i<l.length:=by simpa using h1
 simp[List.getD,a0b this]
open Go Tw Pv bZ
theorem XI{s p:List Int}{ch d:Int}(hp:jK s p=true)(hc:gJ ch s.length)(hd:gJ d (s.getD ch.toNat 0).toNat):jK s (p.set ch.toNat d)=true:=by
 rw[qo]at hp ⊢;obtain⟨c1,c2⟩:=hc;obtain⟨d1,d2⟩:=hd;refine⟨by simp[hp.1],fun j hj=>?_⟩;rw[zA (by omega)];split
 .rename_i e;subst e;omega
 exact hp.2 j hj
open Go Tw Pv bZ
abbrev ay(d:Dg)(r:Int):Br:=d.au.getD r.toNat kW
abbrev PD(d:Dg)(r:Int)(k:Nat):Bool:=d.aB.getD k 0==(ay d r).var
abbrev a3F(d:Dg)(r i:Int)(x:List (Nat×PE aG)):aS aG:=⟨[(1,xi r),(2,.loc 0 0),(5,xi i)]++x,[d.ps],[]⟩
def ajy(d:Dg)(r:Int)(N:Nat):Unit⊕Nat->Ex×aS aG
 |.inl _=>(.exit 0,a3F d r N [(14,xl false)])
 |.inr k=>(.ret,⟨[(4,xi k)],[d.ps],[]⟩)
theorem ajz{r:Int}(h:0<=r):decide (r>=0)=true:=by simpa using h
theorem ajA{n:Nat}{fM:fA aG}(hO:Ok n fM)(d:Dg)(r:Int)(hl:d.aB.length<=ah)(h:gJ r d.au.length):Lp n 177 0 (a3F d r 0 []) (ajy d r d.aB.length (bG (PD d r) d.aB.length)).1 (ajy d r d.aB.length (bG (PD d r) d.aB.length)).2:=
 jh (st:=fun i _=>a3F d r i []) (fun _ _=>True) (by kernel_rfl) hl trivial (fun k s m hk _ ih=>aO hO (.b (ajz h.1) (.b (bF hk) (.o (aH hk) (.o h (.ls (.ou nofun) (.nx (ih _ trivial)))))))) (fun s _=>aO hO (.b (ajz h.1) (.b (fF d.aB.length) (.ou nofun))))
theorem ajB{n:Nat}{fM:fA aG}(hO:Ok n fM)(d:Dg)(r:Int)(h:r<0):Lp n 177 0 (a3F d r 0 []) (.exit 0) (a3F d r 0 [(14,xl false)]):=
 zJ (ps:=a3F d r 0 []) (aO hO (.b (show decide (r>=0)=false by simpa using h) .ex)) (by kernel_rfl) (by decide:1<=LL)
def um(d:Dg)(r:Int):Int:=if decide (r<0)=true then(d.aB.length:Int)else if jZ (bG (PD d r) d.aB.length)=true then(d.aB.length:Int)else((Dq 0 (bG (PD d r) d.aB.length):Nat):Int)
def acW:fA aG:=cO 177 (a2 dA iA) iA (fun p=>um p.1 p.2) (fun p=>[p.1.aB.length<=ah,0<=p.2->gJ p.2 p.1.au.length]) ajx
theorem ajC:Gd acW:=ap4.add fun n hO p hp=>aN hO (.zh (fun h=>.w (ajB hO p.1 p.2 (by simpa using h)) .rr) fun h=>.zh (fun h2=>.w (kM (ajA hO p.1 p.2 (hp _ (.head _)) (hp (0<=p.2->gJ p.2 p.1.au.length) (.tail _ (.head _)) (by simpa using h))) () h2) .rr) fun h2=>.w (kN (ajA hO p.1 p.2 (hp _ (.head _)) (hp (0<=p.2->gJ p.2 p.1.au.length) (.tail _ (.head _)) (by simpa using h))) 0 h2) .rr)
def iR(d:Dg)(r below:Int):Bool:=if decide (r>=0)=true then decide (r<below)else nS (i64.wrap (-1-r)) 0 (i64.wrap ((d.aI.length:Int)-1))
def acX:fA aG:=cO 176 (a3 dA iA iA) tA (fun p=>iR p.1 p.2.1 p.2.2) np acW
theorem ajD:Gd acX:=ajC.add fun n hO p hp=>aN hO (.ss .rr .rr)
abbrev PG(b:Br)(k:Nat):Bool:=b.aA.getD k 0 != b.aA.getD 0 0
abbrev afn(b:Br)(i:Int)(x:List (Nat×PE aG)):aS aG:=⟨[(1,.loc 0 0),(3,xi i)]++x,[b.ps],[]⟩
def ajE(b:Br):Unit⊕Nat->Ex×aS aG
 |.inl _=>(.exit 0,afn b (max 1 b.aA.length:Nat) [(8,xl false)])
 |.inr _=>(.ret,⟨[(2,xl false)],[b.ps],[]⟩)
theorem ajF{n:Nat}{fM:fA aG}(hO:Ok n fM)(b:Br)(hl:b.aA.length<=ah):Lp n 132 0 (afn b 1 []) (ajE b (Tf (PG b) 1 (max 1 b.aA.length))).1 (ajE b (Tf (PG b) 1 (max 1 b.aA.length))).2:=
 a1I (st:=fun i _=>afn b i []) (fun _ _=>True) (by kernel_rfl) (by omega) (by unfold ah at *;omega) trivial (fun k s m h1 hk _ ih=>aO hO (.b (bF (show k<b.aA.length by omega)) (.o (aH (show k<b.aA.length by omega)) (.o (show gJ 0 b.aA.length from⟨by omega,by omega⟩) (.ls (.ou nofun) (.nx (ih _ trivial))))))) (fun s _=>aO hO (.b (show decide (((max 1 b.aA.length:Nat):Int)<(b.aA.length:Int))=false by simp only[a2H];omega) (.ou nofun)))
def DI(b:Br):Bool:=if jZ (Tf (PG b) 1 (max 1 b.aA.length))=true then true else false
def acY:fA aG:=cO 132 (a1 brA) tA (fun p=>DI p) (fun p=>[p.aA.length<=ah]) acX
theorem ajG:Gd acY:=ajD.add fun n hO p hp=>aN hO (.zh (fun h=>.w (kM (ajF hO p (hp _ (.head _))) () h) .rr) fun h=>.w (kN (ajF hO p (hp _ (.head _))) 0 h) .rr)
abbrev Tv(l:List Int)(n:Int)(k:Nat):Bool:=l.getD k 0==n
abbrev afo(l:List Int)(m i:Int)(x:List (Nat×PE aG)):aS aG:=⟨[(0,xL 3 l),(1,xi m),(5,xi i)]++x,[],[]⟩
def ajH(l:List Int)(m:Int):Unit⊕Nat->Ex×aS aG
 |.inl _=>(.exit 0,afo l m l.length [(9,xl false)])
 |.inr _=>(.ret,⟨[(4,xl true)],[],[]⟩)
theorem ajI{n:Nat}{fM:fA aG}(hO:Ok n fM)(l:List Int)(m:Int)(hl:l.length<=ah):Lp n 178 0 (afo l m 0 []) (ajH l m (bG (Tv l m) l.length)).1 (ajH l m (bG (Tv l m) l.length)).2:=
 jh (st:=fun i _=>afo l m i []) (fun _ _=>True) (by kernel_rfl) hl trivial (fun k s m hk _ ih=>aO hO (.b (bF hk) (.o (aH hk) (.ls (.ou nofun) (.nx (ih _ trivial)))))) (fun s _=>aO hO (.b (fF l.length) (.ou nofun)))
theorem Tz{l:List Int}{m:Int}:jZ (bG (Tv l m) l.length)=!decide (m∈l):=by
 rw[a4T,dI];simp only[a8r,a2H];constructor
 .intro h hm;obtain⟨j,hj,e⟩:=a4U.1 hm;have:=h j hj;simp[Tv,List.getD,a0b hj,e]at this
 intro h j hj;have e:l.getD j 0=l[j]:=by simp[List.getD,a0b hj]
 simp only[Tv,ah8,ne_eq,e];intro e2;exact h (e2▸a4Q hj)
def acZ:fA aG:=cO 178 (a2 rZ iA) tA (fun p=>decide (p.2∈p.1)) (fun p=>[p.1.length<=ah]) acY
theorem ajJ:Gd acZ:=ajG.add fun n hO p hp=>aN hO (.z (c:=jZ (bG (Tv p.1 p.2) p.1.length)) (fun h=>.w (kM (ajI hO p.1 p.2 (hp _ (.head _))) () h) (.v false (by rw[Tz]at h;simp at h;simp[h]))) fun h=>.w (kN (ajI hO p.1 p.2 (hp _ (.head _))) 0 h) (.v true (by rw[Tz]at h;simp at h;simp[h])))
abbrev a7b(l:List Int)(k:Nat):Bool:=l.getD k 0 != (k:Int)
abbrev afp(l:List Int)(m i:Int)(x:List (Nat×PE aG)):aS aG:=⟨[(0,xL 3 l),(1,xi m),(5,xi i)]++x,[],[]⟩
def ajK(l:List Int)(m:Int):Unit⊕Nat->Ex×aS aG
 |.inl _=>(.exit 0,afp l m l.length [(9,xl false)])
 |.inr _=>(.ret,⟨[(4,xl false)],[],[]⟩)
theorem ajL{n:Nat}{fM:fA aG}(hO:Ok n fM)(l:List Int)(m:Int)(hl:l.length<=ah):Lp n 134 0 (afp l m 0 []) (ajK l m (bG (a7b l) l.length)).1 (ajK l m (bG (a7b l) l.length)).2:=
 jh (st:=fun i _=>afp l m i []) (fun _ _=>True) (by kernel_rfl) hl trivial (fun k s m hk _ ih=>aO hO (.b (bF hk) (.o (aH hk) (.ls (.ou nofun) (.nx (ih _ trivial)))))) (fun s _=>aO hO (.b (fF l.length) (.ou nofun)))
def zM(l:List Int)(m:Int):Bool:=if jZ (bG (a7b l) l.length)=true then((l.length:Int)==m)else false
def XJ:fA aG:=cO 134 (a2 rZ iA) tA (fun p=>zM p.1 p.2) (fun p=>[p.1.length<=ah]) acZ
theorem ajM:Gd XJ:=ajJ.add fun n hO p hp=>aN hO (.zh (fun h=>.w (kM (ajL hO p.1 p.2 (hp _ (.head _))) () h) .rr) fun h=>.w (kN (ajL hO p.1 p.2 (hp _ (.head _))) 0 h) .rr)
abbrev cLk(d:Dg)(i k:Nat):Bool:=if(!(iR d ((d.au.getD i kW).aA.getD k 0) i))=true then true else decide (um d ((d.au.getD i kW).aA.getD k 0)<=um d i)
abbrev fB(d:Dg)(i:Nat):Br:=d.au.getD i kW
abbrev a7c(d:Dg)(i k:Int)(b:Br)(x:List (Nat×PE aG)):aS aG:=⟨[(1,.loc 0 0),(4,xi i),(5,.loc 1 0),(6,xi k)]++x,[d.ps,b.ps],[]⟩
def ad1(d:Dg)(i:Nat):Unit⊕Nat->Ex×aS aG
 |.inl _=>(.exit 4,a7c d i (fB d i).aA.length (fB d i) [(57,xl false)])
 |.inr _=>(.ret,⟨[(2,xl false)],[d.ps,(fB d i).ps],[]⟩)
structure DgL(d:Dg):Prop where
 aB:d.aB.length<=ah
 au:d.au.length<=ah
 aI:d.aI.length<=ah
 bU:vC d.aj
theorem XK{d:Dg}{r:Int}{i:Nat}(h:iR d r i=true)(h0:0<=r)(hi:i<=d.au.length):gJ r d.au.length:=by
 unfold iR at h;rw[a0u (by simpa using h0)]at h;have:r<(i:Int):=by simpa using h
 exact⟨h0,by omega⟩
theorem ajN{n:Nat}(hO:Ok n XJ){d:Dg}(h:DgL d){i:Nat}(hi:i<d.au.length)(hk:(fB d i).aA.length<=ah):Lp n 131 2 (a7c d i 0 (fB d i) []) (ad1 d i (bG (cLk d i) (fB d i).aA.length)).1 (ad1 d i (bG (cLk d i) (fB d i).aA.length)).2:=
 jh (st:=fun k _=>a7c d i k (fB d i) []) (fun _ _=>True) (by kernel_rfl) hk trivial (fun k s m hk _ ih=>by
  unfold gS cLk;cases e1:iR d ((fB d i).aA.getD k 0) i
  .exact aO hO (.b (bF hk) (.o (aH hk) (.b (show(!(iR d ((fB d i).aA.getD k 0) i))=true by rw[e1];rfl) (.ou nofun))))
  .exact aO hO (.b (bF hk) (.o (aH hk) (.b (show(!(iR d ((fB d i).aA.getD k 0) i))=false by rw[e1];rfl) (.o (aH hk) (.o h.aB (.o (show 0<=(fB d i).aA.getD k 0->gJ ((fB d i).aA.getD k 0) d.au.length from fun h0=>XK e1 h0 (by omega)) (.o h.aB (.o (show 0<=((i:Nat):Int)->gJ i d.au.length from fun _=>aH hi) (.ls (.ou nofun) (.nx (ih _ trivial)))))))))))
  ) (fun s _=>aO hO (.b (fF (fB d i).aA.length) (.ou nofun)))
abbrev cLn(d:Dg)(i:Nat):Bool:=if(!(nS (fB d i).var 0 (xw d.aj)))=true then true else if(((fB d i).aA.length:Int) != d.aj.getD (fB d i).var.toNat 0)=true then true else if jZ (bG (cLk d i) (fB d i).aA.length)=true then false else true
abbrev a7d(d:Dg)(i:Int)(x:List (Nat×PE aG)):aS aG:=⟨[(1,.loc 0 0),(4,xi i)]++x,[d.ps],[]⟩
def ad2(d:Dg):Unit⊕Nat->Ex×aS aG
 |.inl _=>(.exit 2,a7d d d.au.length [(25,xl false)])
 |.inr k=>(.ret,⟨[(2,xl false)],[d.ps,(fB d k).ps],[]⟩)
theorem Jt{d:Dg}(h:vC d.aj){v:Int}(e:nS v 0 (xw d.aj)=true):gJ v d.aj.length:=by
 rw[vY,a6Y h.aiQ]at e;exact⟨e.1,by omega⟩
theorem XL{d:Dg}(h:vC d.aj){v:Int}(e:gJ v d.aj.length){l:List Int}(hl:(((l.length:Int)) != d.aj.getD v.toNat 0)=false):l.length<=12:=by
 have:=h.sz _ (dB (s:=d.aj) (k:=v.toNat) (by have:=e.2;have:=e.1;omega));have hl:(l.length:Int)=d.aj.getD v.toNat 0:=by simpa using hl
 omega
theorem m12{k:Nat}(h:k<=12):k<=ah:=by unfold ah;omega
theorem ad3{n:Nat}(hO:Ok n XJ){d:Dg}(h:DgL d):Lp n 131 1 (a7d d 0 []) (ad2 d (bG (cLn d) d.au.length)).1 (ad2 d (bG (cLn d) d.au.length)).2:=
 jh (st:=fun k _=>a7d d k []) (fun _ _=>True) (by kernel_rfl) h.au trivial (fun k s m hk _ ih=>by
  unfold gS cLn;cases e1:nS (fB d k).var 0 (xw d.aj)
  .exact aO hO (.b (bF hk) (.o (aH hk) (.b (show(!(nS (fB d k).var 0 (xw d.aj)))=true by rw[e1];rfl) (.ou nofun))))
  .have hv:=Jt h.bU e1;cases e2:(((fB d k).aA.length:Int) != d.aj.getD (fB d k).var.toNat 0)
   .have hl:=ajN hO h hk (m12 (XL h.bU hv e2));cases e3:jZ (bG (cLk d k) (fB d k).aA.length)
    .exact aO hO (.b (bF hk) (.o (aH hk) (.b (show(!(nS (fB d k).var 0 (xw d.aj)))=false by rw[e1];rfl) (.o hv (.b e2 (.w (kN hl 0 e3) (.ou nofun)))))))
    .exact aO hO (.b (bF hk) (.o (aH hk) (.b (show(!(nS (fB d k).var 0 (xw d.aj)))=false by rw[e1];rfl) (.o hv (.b e2 (.w (kM hl () e3) (.nx (ih _ trivial))))))))
   .exact aO hO (.b (bF hk) (.o (aH hk) (.b (show(!(nS (fB d k).var 0 (xw d.aj)))=false by rw[e1];rfl) (.o hv (.b e2 (.ou nofun))))))
  ) (fun s _=>aO hO (.b (fF d.au.length) (.ou nofun)))
abbrev cLe(d:Dg)(k:Nat):Bool:=!(vOk (d.aI.getD k V0))
abbrev a7f(d:Dg)(i:Int)(x:List (Nat×PE aG)):aS aG:=⟨[(1,.loc 0 0),(3,xi i)]++x,[d.ps],[]⟩
def ad4(d:Dg):Unit⊕Nat->Ex×aS aG
 |.inl _=>(.exit 0,a7f d d.aI.length [(11,xl false)])
 |.inr _=>(.ret,⟨[(2,xl false)],[d.ps],[]⟩)
theorem ad5{n:Nat}(hO:Ok n XJ){d:Dg}(h:DgL d):Lp n 131 0 (a7f d 0 []) (ad4 d (bG (cLe d) d.aI.length)).1 (ad4 d (bG (cLe d) d.aI.length)).2:=
 jh (st:=fun k _=>a7f d k []) (fun _ _=>True) (by kernel_rfl) h.aI trivial (fun k s m hk _ ih=>aO hO (.b (bF hk) (.o (aH hk) (.ls (.ou nofun) (.nx (ih _ trivial)))))) (fun s _=>aO hO (.b (fF d.aI.length) (.ou nofun)))
def mD(d:Dg):Bool:=if jZ (bG (cLe d) d.aI.length)=true then(if jZ (bG (cLn d) d.au.length)=true then iR d d.root d.au.length else false)else false
def ad6:fA aG:=cO 131 (a1 dA) tA (fun p=>mD p) (fun p=>[DgL p]) XJ
theorem ajO:Gd ad6:=ajM.add fun n hO p hp=>aN hO (.zh (fun h=>.w (kM (ad5 hO (show DgL p from hp _ (.head _))) () h) (.zh (fun h2=>.w (kM (ad3 hO (show DgL p from hp _ (.head _))) () h2) .rr) fun h2=>.w (kN (ad3 hO (show DgL p from hp _ (.head _))) 0 h2) .rr)) fun h=>.w (kN (ad5 hO (show DgL p from hp _ (.head _))) 0 h) .rr)
def aX(d:Dg):Int:=if(bV d.aj d.aB != 0)=true then bV d.aj d.aB else if decide ((d.au.length:Int)>6000)=true then 5 else if(!(mD d))=true then 4 else 0
theorem Vf{k:Nat}(h:decide ((k:Int)>6000)=false):k<=ah:=by simp at h;unfold ah;omega
theorem Bd{s o:List Int}(h:(bV s o != 0)=false):vC s:=(jV.1 (by simpa using h)).1
def aaB:fA aG:=cO 83 (a1 dA) iA (fun p=>aX p) (fun p=>[p.aB.length<=ah,p.aI.length<=ah]) ad6
theorem ap5:Gd aaB:=ajO.add fun n hO p hp=>aN hO (.o (hp _ (.head _)) (.sh (fun _=>.rr) fun h=>.sh (fun _=>.rr) fun h2=>.o (show DgL p from⟨hp _ (.head _),Vf h2,hp _ (.tail _ (.head _)),Bd h⟩) (.ss .rr .rr)))
open Go Tw Pv bZ
abbrev jL(r:Int):Int:=i64.wrap (-1-r)
def jW(d:Dg):Nat->Int->List Int×List Int->List Int×List Int
 | 0,_,x=>x
 |F+1,r,x=>if decide (r<0)=true then(if(!(decide (jL r∈x.2)))=true then(x.1,x.2++[jL r])else x)else if decide (r∈x.1)=true then x
  else((aT (fun k y=>jW d F ((ay d r).aA.getD k 0) y) (ay d r).aA.length 0 x).1++[r],(aT (fun k y=>jW d F ((ay d r).aA.getD k 0) y) (ay d r).aA.length 0 x).2)
def jD(d:Dg)(r:Int)(b:Nat):Prop:=r<b∧(r<0->gJ (jL r) d.aI.length)
structure C9(d:Dg):Prop extends DgL d where
 zN:∀i,i<d.au.length->∀k,k<(fB d i).aA.length->jD d ((fB d i).aA.getD k 0) i
 Ju:∀i,i<d.au.length->(fB d i).aA.length<=12
 var:∀i,i<d.au.length->gJ (fB d i).var d.aj.length
 ksz:∀i,i<d.au.length->((fB d i).aA.length:Int)=d.aj.getD (fB d i).var.toNat 0
 root:jD d d.root d.au.length
structure Jv(d:Dg)(x:List Int×List Int):Prop where
 n1:x.1.Nodup
 n2:∀a∈x.1,gJ a d.au.length
 e1:x.2.Nodup
 e2:∀a∈x.2,gJ a d.aI.length
theorem zO:∀(N:Nat) (l:List Int),l.Nodup->(∀a∈l,gJ a N)->l.length<=N
 | 0,[],_,_=>a0x _
 | 0,a::l,_,h=>by obtain⟨h1,h2⟩:=h a (a2S ..);omega
 |N+1,l,hn,h=>by
  have h1:=zO N (l.erase (N:Int)) (hn.erase _) fun a ha=>by
   have h2:=(List.Nodup.mem_erase_iff hn).1 ha;have h3:=h a h2.2;exact⟨h3.1,by have:=h3.2;have:=h2.1;omega⟩
  by_cases hm:(N:Int)∈l
  .rw[List.length_erase_of_mem hm]at h1;omega
  rw[List.erase_of_not_mem hm]at h1;omega
theorem Jv.len{d:Dg}{x:List Int×List Int}(h:Jv d x):x.1.length<=d.au.length∧x.2.length<=d.aI.length:=⟨zO _ _ h.n1 h.n2,zO _ _ h.e1 h.e2⟩
theorem xu{l:List Int}{a:Int}(h:l.Nodup)(ha:a∉l):(l++[a]).Nodup:=by
 rw[a99];exact⟨h,by simp,fun x hx y hy e=>by simp at hy;subst hy;subst e;exact ha hx⟩
theorem a7g{d:Dg}:∀(F:Nat) (r s:Int) (x:List Int×List Int),r<s->s∉x.1->0<=s->(∀i,i<d.au.length->∀k,k<(fB d i).aA.length->(fB d i).aA.getD k 0<i)->(0<=r->gJ r d.au.length)->s∉(jW d F r x).1
 | 0,_,_,_,_,h,_,_,_=>h
 |F+1,r,s,x,hr,h,h0,hk,hn=>by
  unfold jW;by_cases c:r<0
  .rw[a0u (by simpa using c)];split<;>exact h
  rw[a0o (by simpa using c)];split
  .exact h
  have hi:=hn (by omega);have Eb:∀k,k<(ay d r).aA.length->(ay d r).aA.getD k 0<r:=fun k kT=>by
   obtain⟨i1,i2⟩:=hi;have h9:(ay d r).aA.getD k 0<(r.toNat:Int):=hk r.toNat (by omega) k kT;omega
  have:=dw (g:=fun k y=>jW d F ((ay d r).aA.getD k 0) y) (m:=(ay d r).aA.length) (k:=0) (s:=x) (fun _ y=>s∉y.1) h (fun j y _ hj hy=>by
   have h4:=Eb j (by omega);exact a7g F _ s y (by omega) hy h0 hk fun h5=>⟨h5,by have:=hi.2;omega⟩)
  simp only[a2L,a2D,adJ];exact⟨this,by omega⟩
theorem KW{d:Dg}(h:C9 d):∀(F:Nat) (r:Int) (x:List Int×List Int),Jv d x->jD d r d.au.length->Jv d (jW d F r x)
 | 0,_,_,hx,_=>hx
 |F+1,r,x,hx,hr=>by
  unfold jW;by_cases c:r<0
  .rw[a0u (by simpa using c)];split
   .rename_i c2;have c2:jL r∉x.2:=(by simpa using c2);refine⟨hx.n1,hx.n2,xu hx.e1 c2,fun a ha=>?_⟩;rw[a2L,a2D]at ha;rcases ha with ha|rfl
    .exact hx.e2 a ha
    exact hr.2 c
   exact hx
  rw[a0o (by simpa using c)];split
  .exact hx
  rename_i c2;have c2:r∉x.1:=by simpa using c2
  have hi:gJ r d.au.length:=⟨by omega,hr.1⟩;have aQ:r.toNat<d.au.length:=by have:=hr.1;omega
  have h1:=dw (g:=fun k y=>jW d F ((ay d r).aA.getD k 0) y) (m:=(ay d r).aA.length) (k:=0) (s:=x) (fun _ y=>Jv d y∧r∉y.1) ⟨hx,c2⟩ (fun j y _ hj hy=>by
   have hk:jD d ((ay d r).aA.getD j 0) r.toNat:=h.zN r.toNat aQ j (by simpa using hj);obtain⟨k1,k2⟩:=hk;have kT:jD d ((ay d r).aA.getD j 0) d.au.length:=⟨by omega,k2⟩;refine⟨KW h F _ y hy.1 kT,a7g F _ r y (by omega) hy.2 (by omega) (fun i hi k hk=>(h.zN i hi k hk).1) fun h5=>⟨h5,kT.1⟩⟩)
  obtain⟨h2,h3⟩:=h1;refine⟨xu h2.n1 h3,fun a ha=>?_,h2.e1,h2.e2⟩;rw[a2L,a2D]at ha;rcases ha with ha|rfl
  .exact h2.n2 a ha
  exact hi
abbrev ls(l:List Int):PB aG:=.list false false 3 l
abbrev wSr(d:Dg)(r:Int)(k:Int)(s:List Int×List Int)(x:List (Nat×PE aG)):aS aG:=⟨[(1,xi r),(2,xo 2),(3,xo 3),(4,.loc 0 0),(10,.loc 1 0),(11,xi k)]++x,[d.ps,(ay d r).ps],[.gone,.gone,ls s.1,ls s.2]⟩
abbrev ajP(n:Nat)(d:Dg)(r:Int)(x y:List Int×List Int):Prop:=aW X0 Qp (bT n) (.fn 133 [] []) [.agg d.ps,.int .i64 r,.own 0,.own 1] [ls x.1,ls x.2] (.dM [.own 2,.own 3]) [.gone,.gone,ls y.1,ls y.2]
theorem sSr{N:Nat}(hO:∀m,N<=m->Ok m aaB){d:Dg}(h:C9 d):∀(F:Nat) (r:Int) (x:List Int×List Int),r+1<F->Jv d x->jD d r d.au.length->1<=F->ajP (N+F) d r x (jW d F r x)
 | 0,r,x,_,_,_,h1=>by omega
 |F+1,r,x,hF,hx,hr,_=>by
  have hn:=hx.len.1;have he:=hx.len.2;have m1:=h.au;have m2:=h.aI;have G7:=hO (N+F) (by omega);have mn:x.1.length<=ah:=by omega
  have me:x.2.length<=ah:=by omega
  unfold jW;by_cases c:r<0
  .have t0:decide (r<0)=true:=(by simpa using c);rw[a0u t0];by_cases c2:jL r∈x.2
   .have t1:(!(decide (jL r∈x.2)))=false:=(by simpa using c2);rw[a0o (by rw[t1];simp)];exact aW.gs hX (rU hX G7 (first:=[]) (cap:=[]) (v:=.dM [.own 0,.own 1]) (H1:=[ls x.1,ls x.2]) (by kernel_rfl) (.b t0 (.o me (.b t1 .er)))) [.mv 0,.mv 1] rfl
   have t1:(!(decide (jL r∈x.2)))=true:=(by simpa using c2);rw[a0u t1];have e1:=zO _ _ (xu hx.e1 c2) (fun a ha=>by
    rw[a2L,a2D]at ha;rcases ha with ha|rfl
    .exact hx.e2 a ha
    exact hr.2 c)
   have e2:x.2.length+[jL r].length<=ah:=by rw[<-a1t];omega
   exact aW.gs hX (rU hX G7 (first:=[]) (cap:=[]) (v:=.dM [.own 0,.own 3]) (H1:=[ls x.1,.gone,.list true true 3 ([jL r]:List Int),ls (x.2++[jL r])]) (by kernel_rfl) (.b t0 (.o me (.b t1 (.o e2 .er))))) [.mv 0,.gc [4,3]] rfl
  have t0:decide (r<0)=false:=by simpa using c
  rw[a0o (by rw[t0];simp)];by_cases c2:r∈x.1
  .have t1:decide (r∈x.1)=true:=(by simpa using c2);rw[a0u t1];exact aW.gs hX (rU hX G7 (first:=[]) (cap:=[]) (v:=.dM [.own 0,.own 1]) (H1:=[ls x.1,ls x.2]) (by kernel_rfl) (.b t0 (.o mn (.b t1 .er)))) [.mv 0,.mv 1] rfl
  have t1:decide (r∈x.1)=false:=by simpa using c2
  rw[a0o (by rw[t1];simp)];have hi:gJ r d.au.length:=⟨by omega,hr.1⟩;obtain⟨i1,i2⟩:=id hi;have aQ:r.toNat<d.au.length:=by omega
  have hl:Px (N+F) 133 0 2 (wSr d r 0 x []) (.exit 0) (wSr d r (ay d r).aA.length (aT (fun k y=>jW d F ((ay d r).aA.getD k 0) y) (ay d r).aA.length 0 x) [(40,xl false)]):=by
   refine yH (σ:=List Int×List Int) (N:=(ay d r).aA.length) (g:=fun k y=>jW d F ((ay d r).aA.getD k 0) y) (s0:=x) (st:=fun k y=>wSr d r k y []) (fin:=fun y=>wSr d r (ay d r).aA.length y [(40,xl false)]) (fun _ y=>Jv d y) (by kernel_rfl) (m12 (h.Ju r.toNat aQ)) hx (fun k y hk hy=>?_) (fun k y hk hy m e p g=>?_) (fun y _=>aO G7 (.b (fF (ay d r).aA.length) .ex))
   .have hk:jD d ((ay d r).aA.getD k 0) r.toNat:=h.zN r.toNat aQ k hk;have k1:(ay d r).aA.getD k 0<(r.toNat:Int):=hk.1;exact KW h F _ y hy ⟨by omega,hk.2⟩
   have kT:jD d ((ay d r).aA.getD k 0) r.toNat:=h.zN r.toNat aQ k hk;have k1:=kT.1;have hs:=sSr hO h F ((ay d r).aA.getD k 0) y (by omega) hy ⟨by omega,kT.2⟩ (by omega);exact aO G7 (.b (bF hk) (.o (aH hk) (.fr [2,3] hs (.goG [.gc [4,5]] g))))
  generalize hy:aT (fun k y=>jW d F ((ay d r).aA.getD k 0) y) (ay d r).aA.length 0 x=y at hl;have sk:=KW h (F+1) r x hx hr;unfold jW at sk;rw[a0o (by rw[t0];simp),a0o (by rw[t1];simp),hy]at sk;have sl:(y.1++[r]).length<=d.au.length:=sk.len.1;have ml:y.1.length+[r].length<=ah:=by rw[<-a1t];omega
  exact aW.gs hX (rU hX G7 (first:=[]) (cap:=[]) (v:=.dM [.own 5,.own 3]) (H1:=[.gone,.gone,.gone,ls y.2,.list true true 3 ([r]:List Int),ls (y.1++[r])]) (by kernel_rfl) (.b t0 (.o mn (.b t1 (.o hi (.wG [.mv 0,.mv 1] hl (.o ml .er))))))) [.gc [5,3]] rfl
def nlA:Arg Unit where
 put _:=.nil .slc
 get v:=match v with
  |.nil .slc=>some ()
  |_=>none
 ok:=by
  intro v a hg A m h x hv;split at hg
  .exact hv
  .cases hg
abbrev wSn(d:Dg)(r:Int)(k:Int)(s:List Int×List Int)(x:List (Nat×PE aG)):aS aG:=⟨[(1,xi r),(2,xo 0),(3,xo 1),(4,.loc 0 0),(10,.loc 1 0),(11,xi k)]++x,[d.ps,(ay d r).ps],[ls s.1,ls s.2]⟩
theorem sr0{d:Dg}:Jv d ([],[]):=⟨a5v,by simp,a5v,by simp⟩
def srN(d:Dg)(r:Int):List Int:=(jW d 6002 r ([],[])).1
def srE(d:Dg)(r:Int):List Int:=(jW d 6002 r ([],[])).2
def a1K:fA aG:=cO 133 (a4 dA iA nlA nlA) (dQ (a2 rZ rZ)) (fun p=>(srN p.1 p.2.1,srE p.1 p.2.1)) (fun p=>[C9 p.1,jD p.1 p.2.1 p.1.au.length,p.1.au.length<=6000]) aaB
theorem ajR:Gd a1K:=ap5.deep 6001 fun n hn hO p hp=>by
 obtain⟨d,r,_,_⟩:=p;have h:C9 d:=hp _ (.head _);have hr:jD d r d.au.length:=hp _ (.tail _ (.head _));have hm:d.au.length<=6000:=hp _ (.tail _ (.tail _ (.head _)));obtain⟨N,rfl⟩:∃N,n=N+6001:=⟨n-6001,by omega⟩;have hO:∀m,N<=m->Ok m aaB:=fun m hm=>hO m (by omega);have G7:=hO (N+6001) (by omega);by_cases c:r<0
 .have t0:decide (r<0)=true:=by simpa using c
  have t1:(!(decide (jL r∈([]:List Int))))=true:=by simp
  have e:jW d 6002 r ([],[])=([],[jL r]):=by
   rw[jW,a0u t0,a0u t1];rfl
  show oN X0 Qp _ _ _ ((dQ (a2 rZ rZ)).put ((jW d 6002 r ([],[])).1,(jW d 6002 r ([],[])).2)) [];rw[e];exact aN G7 (.b t0 (.o le0 (.b t1 (.o le1 (.rn (.dM [.nil .slc,.dF 3 ([jL r]:List Int) false]) rfl)))))
 .have t0:decide (r<0)=false:=by simpa using c
  have t1:decide (r∈([]:List Int))=false:=by simp
  have hi:gJ r d.au.length:=⟨by omega,hr.1⟩;obtain⟨i1,i2⟩:=id hi;have aQ:r.toNat<d.au.length:=by omega
  have hl:Px (N+6001) 133 0 0 (wSn d r 0 ([],[]) []) (.exit 0) (wSn d r (ay d r).aA.length (aT (fun k y=>jW d 6001 ((ay d r).aA.getD k 0) y) (ay d r).aA.length 0 ([],[])) [(40,xl false)]):=by
   refine yH (σ:=List Int×List Int) (N:=(ay d r).aA.length) (g:=fun k y=>jW d 6001 ((ay d r).aA.getD k 0) y) (s0:=(([],[]):List Int×List Int)) (st:=fun k y=>wSn d r k y []) (fin:=fun y=>wSn d r (ay d r).aA.length y [(40,xl false)]) (fun _ y=>Jv d y) (by kernel_rfl) (m12 (h.Ju r.toNat aQ)) sr0 (fun k y hk hy=>?_) (fun k y hk hy m e p g=>?_) (fun y _=>aO G7 (.b (fF (ay d r).aA.length) .ex))
   .have hk:jD d ((ay d r).aA.getD k 0) r.toNat:=h.zN r.toNat aQ k hk;have k1:(ay d r).aA.getD k 0<(r.toNat:Int):=hk.1;exact KW h 6001 _ y hy ⟨by omega,hk.2⟩
   .have kT:jD d ((ay d r).aA.getD k 0) r.toNat:=h.zN r.toNat aQ k hk;have k1:(ay d r).aA.getD k 0<(r.toNat:Int):=kT.1;have hs:=sSr hO h 6001 ((ay d r).aA.getD k 0) y (by omega) hy ⟨by omega,kT.2⟩ (by omega);exact aO G7 (.b (bF hk) (.o (aH hk) (.fr [0,1] hs (.goG [.gc [2,3]] g))))
  have sk:=KW h 6002 r ([],[]) sr0 hr;have e:jW d 6002 r ([],[])=((aT (fun k y=>jW d 6001 ((ay d r).aA.getD k 0) y) (ay d r).aA.length 0 ([],[])).1++[r],(aT (fun k y=>jW d 6001 ((ay d r).aA.getD k 0) y) (ay d r).aA.length 0 ([],[])).2):=by
   rw[jW,a0o (by rw[t0];simp),a0o (by rw[t1];simp)]
  show oN X0 Qp _ _ _ ((dQ (a2 rZ rZ)).put ((jW d 6002 r ([],[])).1,(jW d 6002 r ([],[])).2)) [];rw[e]at sk ⊢;generalize aT (fun k y=>jW d 6001 ((ay d r).aA.getD k 0) y) (ay d r).aA.length 0 ([],[])=y at hl sk;have sl:(y.1++[r]).length<=d.au.length:=sk.len.1;have m1:=h.au;have ml:y.1.length+[r].length<=ah:=by rw[<-a1t];omega
  exact aN G7 (.b t0 (.o le0 (.b t1 (.o hi (.wG [.Jc 2 3,.Jc 3 3] hl (.o ml .rr))))))
open Go Tw Pv bZ
abbrev cD1(d:Dg)(i j:Nat):Bool:=decide (d.aI.getD j V0=d.aI.getD i V0)
abbrev cD0(d:Dg)(i:Nat):Bool:=if jZ (bG (cD1 d i) i)=true then false else true
abbrev cD3(d:Dg)(i j:Nat):Bool:=if((fB d j).var==(fB d i).var)=true then decide ((fB d j).aA=(fB d i).aA)else false
abbrev cD2(d:Dg)(i:Nat):Bool:=if DI (fB d i)=true then true else if jZ (bG (cD3 d i) i)=true then false else true
abbrev wD(d:Dg)(x:List (Nat×PE aG)):aS aG:=⟨[(1,.loc 0 0)]++x,[d.ps],[]⟩
abbrev rD(d:Dg):Ex×aS aG:=(.ret,⟨[(2,xl false)],[d.ps],[]⟩)
def zD1(d:Dg)(i:Nat):Unit⊕Nat->Ex×aS aG
 |.inl _=>(.exit 2,wD d [(3,xi i),(4,xi i),(18,xl false)])
 |.inr _=>rD d
theorem lD1{n:Nat}{fM:fA aG}(hO:Ok n fM){d:Dg}(h:DgL d){i:Nat}(hi:i<d.aI.length):Lp n 84 1 (wD d [(3,xi i),(4,xi 0)]) (zD1 d i (bG (cD1 d i) i)).1 (zD1 d i (bG (cD1 d i) i)).2:=
 jh (st:=fun j _=>wD d [(3,xi i),(4,xi j)]) (fun _ _=>True) (by kernel_rfl) (by have:=h.aI;omega) trivial (fun j s m hj _ ih=>aO hO (.b (bF hj) (.o (aH (show j<d.aI.length by omega)) (.o (aH hi) (.q (.bool (cD1 d i j)) (eqV (.tmp 25) (.tmp 30) (d.aI.getD j V0) (d.aI.getD i V0)) (.ls (.ou nofun) (.nx (ih _ trivial)))))))) (fun s _=>aO hO (.b (fF i) (.ou nofun)))
def zD0(d:Dg):Unit⊕Nat->Ex×aS aG
 |.inl _=>(.exit 0,wD d [(3,xi d.aI.length),(13,xl false)])
 |.inr _=>rD d
theorem lD0{n:Nat}{fM:fA aG}(hO:Ok n fM){d:Dg}(h:DgL d):Lp n 84 0 (wD d [(3,xi 0)]) (zD0 d (bG (cD0 d) d.aI.length)).1 (zD0 d (bG (cD0 d) d.aI.length)).2:=
 jh (st:=fun i _=>wD d [(3,xi i)]) (fun _ _=>True) (by kernel_rfl) h.aI trivial (fun i s m hi _ ih=>by
  have hl:=lD1 hO h hi;unfold gS cD0;cases e:jZ (bG (cD1 d i) i)
  .exact aO hO (.b (bF hi) (.w (kN hl 0 e) (.ou nofun)))
  .exact aO hO (.b (bF hi) (.w (kM hl () e) (.nx (ih _ trivial))))
  ) (fun s _=>aO hO (.b (fF d.aI.length) (.ou nofun)))
def zD3(d:Dg)(i:Nat):Unit⊕Nat->Ex×aS aG
 |.inl _=>(.exit 6,wD d [(5,xi i),(6,xi i),(47,xl false)])
 |.inr _=>rD d
theorem lD3{n:Nat}(hO:Ok n a1K){d:Dg}(h:C9 d){i:Nat}(hi:i<d.au.length):Lp n 84 3 (wD d [(5,xi i),(6,xi 0)]) (zD3 d i (bG (cD3 d i) i)).1 (zD3 d i (bG (cD3 d i) i)).2:=
 jh (st:=fun j _=>wD d [(5,xi i),(6,xi j)]) (fun _ _=>True) (by kernel_rfl) (by have:=h.au;omega) trivial (fun j s m hj _ ih=>by
  have sG:j<d.au.length:=by omega
  unfold gS cD3;cases e:((fB d j).var==(fB d i).var)
  .exact aO hO (.b (bF hj) (.o (aH sG) (.o (aH hi) (.b e (.nx (ih _ trivial))))))
  .exact aO hO (.b (bF hj) (.o (aH sG) (.o (aH hi) (.b e (.o (aH sG) (.o (aH hi) (.o (m12 (h.Ju j sG)) (.ls (.ou nofun) (.nx (ih _ trivial))))))))))
  ) (fun s _=>aO hO (.b (fF i) (.ou nofun)))
def zD2(d:Dg):Unit⊕Nat->Ex×aS aG
 |.inl _=>(.exit 4,wD d [(5,xi d.au.length),(36,xl false)])
 |.inr _=>rD d
theorem lD2{n:Nat}(hO:Ok n a1K){d:Dg}(h:C9 d):Lp n 84 2 (wD d [(5,xi 0)]) (zD2 d (bG (cD2 d) d.au.length)).1 (zD2 d (bG (cD2 d) d.au.length)).2:=
 jh (st:=fun i _=>wD d [(5,xi i)]) (fun _ _=>True) (by kernel_rfl) h.au trivial (fun i s m hi _ ih=>by
  have hl:=lD3 hO h hi;unfold gS cD2;cases e1:DI (fB d i)
  .cases e:jZ (bG (cD3 d i) i)
   .exact aO hO (.b (bF hi) (.o (aH hi) (.o (m12 (h.Ju i hi)) (.b e1 (.w (kN hl 0 e) (.ou nofun))))))
   .exact aO hO (.b (bF hi) (.o (aH hi) (.o (m12 (h.Ju i hi)) (.b e1 (.w (kM hl () e) (.nx (ih _ trivial)))))))
  .exact aO hO (.b (bF hi) (.o (aH hi) (.o (m12 (h.Ju i hi)) (.b e1 (.ou nofun)))))
  ) (fun s _=>aO hO (.b (fF d.au.length) (.ou nofun)))
def oK(d:Dg):Bool:=if jZ (bG (cD0 d) d.aI.length)=true then(if jZ (bG (cD2 d) d.au.length)=true then(if zM (srN d d.root) (d.au.length:Int)=true then zM (srE d d.root) (d.aI.length:Int)else false)else false)else false
theorem a1L{d:Dg}(h:C9 d):(srN d d.root).length<=ah∧(srE d d.root).length<=ah:=by
 have hl:=(KW h 6002 d.root ([],[]) sr0 h.root).len;exact⟨a5e hl.1 h.au,a5e hl.2 h.aI⟩
def ajS:fA aG:=cO 84 (a1 dA) tA (fun p=>oK p) (fun p=>[C9 p,p.au.length<=6000]) a1K
theorem ap6:Gd ajS:=ajR.add fun n hO p hp=>aN hO (.zh (fun h=>.w (kM (lD0 hO (show C9 p from hp _ (.head _)).toDgL) () h) (.zh (fun h2=>.w (kM (lD2 hO (show C9 p from hp _ (.head _))) () h2) (.o (hp _ (.head _)) (.o (show C9 p from hp _ (.head _)).root (.o (hp _ (.tail _ (.head _))) (.o (a1L (hp _ (.head _))).1 (.ss (.o (a1L (hp _ (.head _))).2 .rr) .rr)))))) fun h2=>.w (kN (lD2 hO (show C9 p from hp _ (.head _))) 0 h2) .rr)) fun h=>.w (kN (lD0 hO (show C9 p from hp _ (.head _)).toDgL) 0 h) .rr)
theorem XM{d:Dg}(hm:d.aI.length<=ah){r:Int}{b:Nat}(h:iR d r b=true):jD d r b:=by
 unfold iR at h;by_cases c:0<=r
 .rw[a0u (by simpa using c)]at h;exact⟨by simpa using h,fun h2=>by omega⟩
 rw[a0o (by simpa using c),vY]at h;have e:i64.wrap ((d.aI.length:Int)-1)=(d.aI.length:Int)-1:=by unfold ah at hm;exact fJ (by omega) (by omega)
 rw[e]at h;obtain⟨h1,h2⟩:=h;exact⟨by omega,fun _=>⟨h1,show jL r<_ by show i64.wrap (-1-r)<_;omega⟩⟩
theorem a7h{d:Dg}(h:DgL d)(hl:mD d=true):C9 d:=by
 unfold mD at hl;split at hl
 rotate_left
 .cases hl
 split at hl
 rotate_left
 .cases hl
 rename_i h1 h2;have h2:=dI.1 h2;have key:∀i,i<d.au.length->nS (fB d i).var 0 (xw d.aj)=true∧(((fB d i).aA.length:Int) != d.aj.getD (fB d i).var.toNat 0)=false∧jZ (bG (cLk d i) (fB d i).aA.length)=true:=fun i hi=>by
  have:=h2 i hi;unfold cLn at this;split at this
  .cases this
  split at this
  .cases this
  split at this
  .rename_i a b c;exact⟨by simpa using a,by simpa using b,c⟩
  cases this
 refine⟨h,fun i hi k hk=>?_,fun i hi=>?_,fun i hi=>?_,fun i hi=>?_,XM h.aI hl⟩
 .have:=dI.1 (key i hi).2.2 k hk;unfold cLk at this;split at this
  .cases this
  rename_i a;exact XM h.aI (by simpa using a)
 .exact XL h.bU (Jt h.bU (key i hi).1) (key i hi).2.1
 .exact Jt h.bU (key i hi).1
 simpa using(key i hi).2.1
theorem iJ{d:Dg}(ho:d.aB.length<=ah)(he:d.aI.length<=ah)(h:(aX d != 0)=false):C9 d∧d.au.length<=6000:=by
 unfold aX at h;split at h
 .rename_i h1;simp at h h1;exact absurd h h1
 split at h
 .cases h
 split at h
 .cases h
 rename_i h1 h2 h3;have h2:decide ((d.au.length:Int)>6000)=false:=by simpa using h2
 exact⟨a7h ⟨ho,Vf h2,he,Bd (by simpa using h1)⟩ (by simpa using h3),by simp at h2;omega⟩
def iH(d:Dg):Int:=if(aX d != 0)=true then aX d else if(!(oK d))=true then 4 else 0
def ajU:fA aG:=cO 22 (a1 dA) iA (fun p=>iH p) (fun p=>[p.aB.length<=ah,p.aI.length<=ah]) ajS
theorem ap7:Gd ajU:=ap6.add fun n hO p hp=>aN hO (.o (hp _ (.head _)) (.o (hp _ (.tail _ (.head _))) (.sh (fun _=>.rr) fun h=>.o (iJ (hp _ (.head _)) (hp _ (.tail _ (.head _))) h).1 (.o (iJ (hp _ (.head _)) (hp _ (.tail _ (.head _))) h).2 (.ss .rr .rr)))))
open Go Tw Pv bZ
def gAt(d:Dg)(p:List Int)(r:Int):Int⊕Int:=if decide (r>=0)=true then .inl ((ay d r).aA.getD (p.getD (ay d r).var.toNat 0).toNat 0)else .inr r
def atF(d:Dg)(p:List Int):Nat->Int->Int
 | 0,r=>r
 |F+1,r=>if r<0 then r else atF d p F ((ay d r).aA.getD (p.getD (ay d r).var.toNat 0).toNat 0)
theorem ad8{d:Dg}{p:List Int}:∀(F:Nat) (r:Int),atF d p F r<0->itF (gAt d p) (F+1) r=some (atF d p F r)
 | 0,r,h=>by
  have h:r<0:=h;have e:gAt d p r=.inr r:=by unfold gAt;rw[a0o (by simpa using h)]
  rw[itF,e];rfl
 |F+1,r,h=>by
  by_cases c:r<0
  .have e:gAt d p r=.inr r:=by unfold gAt;rw[a0o (by simpa using c)]
   rw[itF,e,atF,a0u c]
  have e:gAt d p r=.inl ((ay d r).aA.getD (p.getD (ay d r).var.toNat 0).toNat 0):=by unfold gAt;rw[a0u (by simp;omega)]
  rw[atF,a0o c]at h;rw[itF,e,atF,a0o c];exact ad8 F _ h
theorem PK{d:Dg}(h:C9 d){p:List Int}(hp:jK d.aj p=true){r:Int}(hr:gJ r d.au.length):gJ (ay d r).var p.length∧gJ (p.getD (ay d r).var.toNat 0) (ay d r).aA.length∧jD d ((ay d r).aA.getD (p.getD (ay d r).var.toNat 0).toNat 0) r.toNat:=by
 obtain⟨r1,r2⟩:=hr;have hl:r.toNat<d.au.length:=by omega
 have hv:=h.var r.toNat hl;have hk:=h.ksz r.toNat hl;obtain⟨v1,v2⟩:=hv;obtain⟨p1,p2⟩:=qo.1 hp;have p3:=p2 (ay d r).var.toNat (by show(fB d r.toNat).var.toNat<_;omega);have k1:gJ (p.getD (ay d r).var.toNat 0) (ay d r).aA.length:=⟨p3.1,by show _<((fB d r.toNat).aA.length:Int);rw[hk];exact p3.2⟩;refine⟨⟨v1,by rw[p1];exact v2⟩,k1,h.zN r.toNat hl _ ?_⟩;obtain⟨k2,k3⟩:=k1;show _<(ay d r).aA.length;omega
theorem Vg{d:Dg}(h:C9 d){p:List Int}(hp:jK d.aj p=true):∀(F:Nat) (r:Int),r<F->jD d r d.au.length->jD d (atF d p F r) 0
 | 0,r,hr,hk=>⟨by show r<((0:Nat):Int);omega,hk.2⟩
 |F+1,r,hr,hk=>by
  unfold atF;split
  .rename_i c;exact⟨by show r<((0:Nat):Int);omega,hk.2⟩
  rename_i c;have:=(PK h hp (r:=r) ⟨by omega,hk.1⟩).2.2;obtain⟨a1,a2⟩:=this;have a3:r<(d.au.length:Int):=hk.1;exact Vg h hp F _ (by omega) ⟨by omega,a2⟩
abbrev atR(d:Dg)(p:List Int):Int:=atF d p 6001 d.root
def kX(d:Dg)(p:List Int):V:=d.aI.getD (jL (atR d p)).toNat V0
abbrev wAt(d:Dg)(p:List Int)(r:Int)(x:List (Nat×PE aG)):aS aG:=⟨[(1,xL 3 p),(2,.loc 0 0),(4,.loc 1 0),(5,xi r)]++x,[d.ps,V0.ps],[]⟩
theorem lAt{n:Nat}{fM:fA aG}(hO:Ok n fM){d:Dg}(h:C9 d)(hm:d.au.length<=6000){p:List Int}(hp:jK d.aj p=true):Lp n 98 0 (wAt d p d.root []) (.exit 0) (wAt d p (atR d p) [(9,xl false)]):=by
 have h0:d.root<(d.au.length:Int):=h.root.1;have ha:=Vg h hp 6001 d.root (by omega) h.root;have QH:=ad8 6001 d.root ha.1;refine a03 (st:=fun r=>wAt d p r []) (g:=gAt d p) (out:=fun r=>(.exit 0,wAt d p r [(9,xl false)])) (fun r=>jD d r d.au.length) QH (by kernel_rfl) (by decide) h.root ?_ ?_
 .intro r r1 hr e;unfold gAt at e;split at e
  .rename_i c;have c:0<=r:=(by simpa using c);cases e;have:=(PK h hp (r:=r) ⟨c,hr.1⟩).2.2;have a3:r<(d.au.length:Int):=hr.1;obtain⟨a1,a2⟩:=this;exact⟨by omega,a2⟩
  cases e
 intro r m r' hr ih;by_cases c:0<=r
 .have hk:=PK h hp (r:=r) ⟨c,hr.1⟩;have t1:decide (r>=0)=true:=by simpa using c
  have e:gAt d p r=.inl ((ay d r).aA.getD (p.getD (ay d r).var.toNat 0).toNat 0):=by unfold gAt;rw[a0u t1]
  have g:=ih _ e;rw[e];have wU:gJ r d.au.length:=⟨c,hr.1⟩;exact aO hO (.b t1 (.o wU (.o wU (.o hk.1 (.o hk.2.1 (.go g))))))
 have t1:decide (r>=0)=false:=by simpa using c
 have e:gAt d p r=.inr r:=by unfold gAt;rw[a0o (by rw[t1];simp)]
 rw[e];dsimp only[Du];exact aO hO (.b t1 .ex)
theorem a1M{d:Dg}(h:C9 d)(hm:d.au.length<=6000){p:List Int}(hp:jK d.aj p=true):gJ (jL (atR d p)) d.aI.length:=by
 have h0:d.root<(d.au.length:Int):=h.root.1;have ha:=Vg h hp 6001 d.root (by omega) h.root;exact ha.2 ha.1
def ajV:fA aG:=cO 98 (a2 dA rZ) vA (fun p=>kX p.1 p.2) (fun p=>[C9 p.1,p.1.au.length<=6000,jK p.1.aj p.2=true]) ajU
theorem ap8:Gd ajV:=ap7.add fun n hO p hp=>aN hO (.w (lAt hO (hp _ (.head _)) (hp _ (.tail _ (.head _))) (hp _ (.tail _ (.tail _ (.head _))))) (.o (a1M (hp _ (.head _)) (hp _ (.tail _ (.head _))) (hp _ (.tail _ (.tail _ (.head _))))) .rr))
open Go Tw Pv bZ
theorem aaF{A:Nat->Prop}{m:List MB}{h:List HB}{l:List Int}{cs:List TV}(hr:eG X0 Qp A m h 3 l cs 0 1)(hc:cs.length=l.length):cs=l.map fun n=>TV.int .i64 n:=by
 apply a9o (by simp[hc]);intro j h1 h2;have hj:j<l.length:=by omega
 have:=hr.2.2 j l[j] 0 (.int .i64 l[j]) cs[j] (a0b hj) rfl (by rw[a05];exact⟨by omega,by simp⟩);rw[this.a1C];simp
theorem TA:∀l:List Int,KR (l.map fun n=>TV.int .i64 n)=some l
 | []=>rfl
 |a::l=>by simp[KR,TA l]
theorem TB{A:Nat->Prop}{m:List MB}{h:List HB}(l:List Int):eG X0 Qp A m h 3 l (l.map fun n=>TV.int .i64 n) 0 1:=by
 refine⟨fun j a _=>rfl,by simp only[a4K,ahc,a3H];exact a0x _,fun j a i c v hj hi hv=>?_⟩;have sG:=(a05.1 hj).1;cases i with
 |zero=>
  have hi:some (PV.int .i64 a)=some c:=hi;cases hi;have hj:(l:List Int)[j]? = some a:=hj;rw[a3H,ahc,adV,a4H,hj]at hv;have hv:some (TV.int .i64 a)=some v:=hv;cases hv;exact .int _ _
 |succ i=>have hi:([]:List (PV aG))[i]? = some c:=hi;simp at hi
theorem KX:dG Qp 3=some 1:=by kernel_rfl
theorem a7i(n:Nat)(x:TV)(h:List HB):lF Qp T LL (n+1) (.fn 137 [] []) [x] h=Po 137 (.fn 137 [] []) [x] h:=rfl
theorem aaG{f c:Nat}{h:List HB}{kk BJ:BK}{cs:List TV}{l:List Int}{e:Bool}(hb:h[c]? = some (.cells kk cs))(hk:Af kk true=some BJ)(RI:cs=l.map fun n=>TV.int .i64 n)(h0:0<l.length)(h1:l.length<=2^20) :
  Po f (.fn f [] []) [.slc c 0 l.length l.length 1 e] h=some (.dM [],h.set c (.cells BJ ((gY l).map fun n=>TV.int .i64 n)),[c]):=by
 have qE:cs.length=l.length:=by rw[RI,a4K]
 have him:KR cs=some l:=by rw[RI];exact TA l
 generalize l.length=n at *;obtain⟨j,rfl⟩:∃j,n=j+1:=⟨n-1,by omega⟩;simp only[Po,a6U,a2k,hb,hk,him,qE,h0,h1,ad7]
theorem ad9{n:Nat}{k ex:Bool}(l:List Int)(hl:l.length<=2^20):aW X0 Qp (bT (n+1)) (.fn 137 [] []) [.own 0] [.list k ex 3 l] (.dM []) [.list k ex 3 (gY l)]:=by
 intro A m h tf sJ hr hf hx;obtain⟨x,r,rfl,h1,h2⟩:=hx.inv;have:=h2.inv0;subst this;obtain⟨g1,g2⟩:=aam hr (i:=0) (k:=k) (ex:=ex) (t:=3) (l:=l) rfl h1;have htf:=hf.Va;subst htf;show ∃w h1 ws m1,lF Qp T LL (n+1) _ _ h=_∧_;rw[a7i];have ap9:gY ([]:List Int)=[]:=by simp[gY]
 have hE:∀h0:(l:List Int)=[],gY l=l:=fun h0=>by rw[h0];exact ap9
 rcases af5 g2 with⟨h0,rfl⟩|⟨h0,b,off,sz,cs,rfl,p0,p1,p2,p3,p4⟩|⟨p1,c,sz,e,kk,cs,rfl,p2,p3,p4,p5,p6,p7,p8,p9⟩
 .rw[hE h0];exact⟨.dM [],h,[],m,rfl,hr,.dM rfl (fun i x y hx=>by simp at hx),.refl,.refl,fun b hb=>by cases hb⟩
 .rw[hE h0];exact⟨.dM [],h,[],m,rfl,hr,.dM rfl (fun i x y hx=>by simp at hx),.refl,.refl,fun b hb=>by cases hb⟩
 rw[KX]at p2;cases p2;have p8:cs.length=(l:List Int).length*1:=p8;have qE:cs.length=l.length:=by omega
 have RI:=aaF p9 qE;have hn0:0<l.length:=by cases l with|nil=>exact absurd rfl p1|cons=>simp
 obtain⟨BJ,yt,aey,hko⟩:=Jf p5;have aQ:=(a05.1 p4).1;have vV:(MB.dF (TV.slc c 0 l.length l.length 1 e)).own=some c:=by simp only[MB.own];rw[a0o (by omega)]
 have hsl:(gY l).length=l.length:=by unfold gY;rw[aa6]
 have iI:gY l≠[]:=fun e0=>by rw[e0]at hsl;simp at hsl;omega
 obtain⟨q1,q2⟩:=hr.set (i:=0) (c:=c) (pb:=.list k ex 3 (gY l)) (hb:=.cells BJ ((gY l).map fun n=>TV.int .i64 n)) g1 vV
  (fun Xc KC=>⟨_,by simp only[aV];rw[a1u aQ],by
   simp only[aV,p4,a04]at KC;subst KC;rw[a4K,hsl,qE];exact a0x _⟩)
  (fun hF=>by
   have r:=LR.some (X:=X0) (P:=Qp) (A:=AA A m) (m:=m) (k:=k) (ex:=ex) (e:=e) (t:=3) (b:=c) (kk:=BJ) iI KX (by decide) (by rw[a1u aQ]) aey (fun e0=>hko (p6 e0)) p7 (by rw[a4K,ahc];rfl) (TB (gY l));have apa:@List.length (X0.Γ 3) (gY l)=l.length:=hsl;rw[apa]at r;exact r)
 refine⟨.dM [],_,[c],m,?_,q1,.dM rfl (fun i x y hx=>by simp at hx),q2,.refl,fun d hd=>?_⟩
 .exact aaG p4 yt RI hn0 hl
 simp at hd;subst hd;exact bg g1 vV
end Go.Proofs.YtmobpoiejckagaaGreat
namespace Pv
open Go Tw
variable {X:l7} {P:Program}
theorem oN.aaH(hX:bP X P){call:bf}{f:FuncId}{xs vs:List (PV X.Γ)}{v v':PV X.Γ}{ext ext':List (PB X.Γ)}(hc:oN X P call f vs v ext)(hv:views [] ([]++xs++[])=some vs)(hs:rJ X 0 ext=some ext')
  (e:shift 0 v=v') (he:(if xU v||ext.any (hasB X)then aZ (lu.kH ([]++xs++[])) []else [])=([]:List (PB X.Γ))):aW X P call (.fn f [] []) xs [] v' ext':=by
 subst e;intro A m h tf sJ hr hf hx;have htf:=hf.Va;subst htf;obtain⟨w,h',m1,c1,c2,c3,c4,c5⟩:=HY hX hc hr hv hs (t1:=[]) (t3:=[]) .nil hx .nil;rw[he]at c2;exact⟨w,h',[],m1,c1,c2,c3,c4,c5,fun b hb=>by cases hb⟩
end Pv
namespace Go.Proofs.YtmobpoiejckagaaGreat
open Go Tw Pv bZ
abbrev lsI(l:List Int):List (PB aG):=[.list false false 3 l]
theorem a3K(n:Nat)(h:List HB):UE Qp T (bT n) LL 125 [.nil .slc] h=some (.nil .slc,h,[]):=by kernel_rfl
theorem a3L(n b off cap:Nat)(ex:Bool)(h:List HB):UE Qp T (bT n) LL 125 [.slc b off 0 cap 1 ex] h=some (.slc h.length 0 0 0 1 true,h++[.cells .own []],[]):=by kernel_rfl
theorem afs{n:Nat}:oN X0 Qp (bT (n+1)) 125 [.dF 3 ([]:List Int) false] (.own 0) (lsI []):=by
 intro A h first args cap IL hv
 obtain⟨x,r,e,h1,h2⟩:=hv.inv;have:=h2.inv0;subst this;have hun:lF Qp T LL (n+1) (.fn 125 first cap) args h=UE Qp T (bT n) LL 125 [x] h:=by
  rw[<-e];show lF Qp T LL (n+1) _ _ _=_;rw[lF,a0o (by decide),a0o (by decide)]
 rcases a6P h1 with rfl|⟨b,off,cap',sz,ex,cs,rfl,a1,a2,a3,a4,a5⟩
 .exact⟨.nil .slc,h,[.dF (.nil .slc)],by rw[<-a3K n h,<-hun],Xw IL .nil rfl,.own rfl rfl,⟨a0x _,fun _ _ _=>rfl,fun b hb=>by simp[bD,MB.own]at hb,fun b cs hc=>⟨cs,hc,a0x _⟩⟩⟩
 rw[KX]at a3;cases a3;have hc:aV (h++[HB.cells .own []]) h.length=some []:=by unfold aV;rw[a0G (a0x _),ah0];rfl
 refine⟨.slc h.length 0 0 0 1 true,h++[.cells .own []],[.dF (.slc h.length 0 0 0 1 true)],by rw[<-a3L n b off cap' ex h,<-hun],Xw (fun b hb=>IL b (by simp at hb;omega)) (.emp ⟨IL _ (a0x _),by simp[bD,MB.own]⟩ hc (a0x _) KX (by decide)) (by simp[MB.own]),.own rfl rfl,⟨by simp,fun b hb _=>by rw[a0g hb],fun b hb=>by simp[bD,MB.own]at hb,fun b cs hc=>⟨cs,?_,a0x _⟩⟩⟩;rw[fO (a0g (gX hc)),hc]
def ada:fA aG:=ZY 125 (a1 rZ) (fun _=>.own 0) (fun p=>lsI p) (fun p=>[p.length<=ah]) ajV
theorem ajX:Gd ada:=ap8.Xt 0 fun n _ hO p hp=>by
 have hl:p.length<=ah:=hp _ (.head _);by_cases h:p=[]
 .subst h;exact afs
 .have h2:([]:List Int).length+p.length<=ah:=by simpa using hl
  exact oN.gs hX (BO hX (hO n (by omega)) (v:=.own 1) (H:=[.gone,.list true false 3 p]) (by kernel_rfl) (.o h (.b (rfl:false=false) (.o h2 .er)))) [.gc [1],.flag 0] rfl
abbrev aaI(m:Nat)(i:Int)(l:List Int)(x:List (Nat×PE aG)):aS aG:=⟨[(3,xo 0),(7,xi m),(8,xi i)]++x,[],[.list true true 3 l]⟩
theorem a7j(m:Nat):aT (fun k (l:List Int)=>l.set k (k:Int)) m 0 (List.replicate m 0)=dU m:=by
 have:=dw (g:=fun k (l:List Int)=>l.set k (k:Int)) (m:=m) (k:=0) (s:=List.replicate m 0) (fun k l=>l.length=m∧∀j,j<k->l.getD j 0=(j:Int)) ⟨by simp,by simp⟩ (fun j l _ hj h=>⟨by simp[h.1],fun i hi=>by
  rw[bZ.zA (by omega)];split
  .rename_i e;rw[e]
  exact h.2 i (by omega)⟩)
 rw[pI (d:=0) (by rw[this.1,mg])];intro j hj;have sG:j<m:=by have:=this.1;omega
 rw[this.2 j (by omega)];simp[dU,List.getD,a4H,aaj,sG]
theorem apb{n:Nat}{fM:fA aG}(hO:Ok n fM)(m:Nat)(hm:m<=ah):Lp n 159 0 (aaI m 0 (List.replicate m 0) []) (.exit 0) (aaI m m (dU m) [(9,xl false)]):=by
 rw[<-a7j];exact yH (σ:=List Int) (N:=m) (g:=fun k (l:List Int)=>l.set k (k:Int)) (s0:=List.replicate m 0) (st:=fun i (l:List Int)=>aaI m i l []) (fin:=fun(l:List Int)=>aaI m m l [(9,xl false)]) (fun _ (l:List Int)=>l.length=m) (by kernel_rfl) hm (by simp) (fun k l _ h=>by simp[h]) (fun k l hk hl j e p g=>aO hO (.b (bF hk) (.o (aH (show k<l.length by omega)) (.go g)))) (fun l _=>aO hO (.b (fF m) .ex))
def adb:fA aG:=cO 159 (a1 iA) rZ (fun p=>dU p.toNat) (fun p=>[0<=p,p<=(ah:Int)]) ada
theorem ajY:Gd adb:=ajX.add fun n hO p hp=>by
 have h0:0<=p:=hp _ (.head _);have h1:p<=(ah:Int):=hp _ (.tail _ (.head _));obtain⟨m,rfl⟩:∃m:Nat,p=(m:Int):=⟨p.toNat,by omega⟩;exact aN hO (.o (rfl:(m:Int)=(m:Int)) (.o h0 (.o h1 (.w (apb hO m (by omega)) .rr))))
abbrev aft(a b:List Int)(i:Int)(x:List (Nat×PE aG)):aS aG:=⟨[(0,xL 3 a),(1,xL 3 b),(12,xi a.length),(13,xi i)]++x,[],[]⟩
def ajZ(a b:List Int):Unit⊕Nat->Ex×aS aG
 |.inl _=>(.exit 0,aft a b a.length [(14,xl false)])
 |.inr _=>(.ret,⟨[(4,xl false)],[],[]⟩)
theorem ak0{n:Nat}{fM:fA aG}(hO:Ok n fM)(a b:List Int)(hl:a.length<=ah)(h:a.length=b.length):Lp n 158 0 (aft a b 0 []) (ajZ a b (bG (KT a b) a.length)).1 (ajZ a b (bG (KT a b) a.length)).2:=
 jh (st:=fun i _=>aft a b i []) (fun _ _=>True) (by kernel_rfl) hl trivial (fun k s m hk _ ih=>aO hO (.b (bF hk) (.o (aH hk) (.o (aH (h▸hk)) (.ls (.ou nofun) (.nx (ih _ trivial))))))) (fun s _=>aO hO (.b (fF a.length) (.ou nofun)))
def ade:fA aG:=cO 158 (a2 rZ rZ) tA (fun p=>decide (p.1=p.2)) (fun p=>[p.1.length<=ah]) adb
theorem ak1:Gd ade:=ajY.add fun n hO p hp=>aN hO (.s (fun h=>.v false (a6X h).symm) fun h=>.z (c:=jZ (bG (KT p.1 p.2) p.1.length)) (fun h2=>.w (kM (ak0 hO p.1 p.2 (hp _ (.head _)) (lZ h)) () h2) (.v true (by rw[<-Et (lZ h),h2]))) fun h2=>.w (kN (ak0 hO p.1 p.2 (hp _ (.head _)) (lZ h)) 0 h2) (.v false (by rw[<-Et (lZ h),h2])))
def a7k:fA aG:=cO 157 (a3 iA iA rZ) tA (fun p=>nH p.2.2 p.1 p.2.1) (fun p=>[p.2.2.length<=ah]) ade
theorem ak2:Gd a7k:=ak1.deep 3 fun n hn hO p hp=>by
 have h1:∀x,aW X0 Qp (bT (n-3+1)) (.fn 188 [] [.ptr 0 0 1,.ptr 1 0 1]) [.int .i64 x] [.cells [.int .i64 p.1],.cells [.int .i64 p.2.1]] (tA.put (wB x p.1 p.2.1)) [.cells [.int .i64 p.1],.cells [.int .i64 p.2.1]]:=fun x=>jy gy (first:=[]) (.ssh (fun _=>.sr) (fun _=>.sr));obtain⟨n,rfl⟩:∃k,n=k+3:=⟨n-3,by omega⟩;rw[show n+3-3+1=n+1 by omega]at h1;have h2:=aiT (n:=n+2) (by omega) (g:=fun x=>wB x p.1 p.2.1) h1 p.2.2 (hp _ (.head _));exact aN (hO _ (by omega)) (.k h2 (.v (!(nG (fun x=>wB x p.1 p.2.1) p.2.2)) (by rw[Ep];rfl)))
def a1N(s:List Int):Int:=aT (fun k n=>i64.wrap (n*s.getD k 0)) s.length 0 1
theorem XO:∀{s:List Int},nX s->bC s<=12^s.length
 | [],_=>by decide
 |a::t,h=>by
  have h1:=XO h.tail;have h2:=jo h.tail;have h3:=h a (.head _);have h4:a*bC t<=12*bC t:=aa8 h3.2 (by omega);show a*bC t<=12^(t.length+1);rw[Int.pow_succ];omega
theorem ak3:∀{n:Nat},n<=6->(12:Int)^n<=2985984:=by decide
theorem a7l{s:List Int}(h:nX s)(hl:s.length<=6):a1N s=bC s:=by
 have:=dw (g:=fun k n=>i64.wrap (n*s.getD k 0)) (m:=s.length) (k:=0) (s:=1) (fun k n=>n=bC (s.take k)) (by simp[bC]) (fun j n _ hj e=>by
  have sG:j<s.length:=by omega
  have e2:bC (s.take (j+1))=n*s.getD j 0:=by
   rw[a6t sG,Es,e];simp[bC,List.getD,a0b sG]
  have h1:=QS h (j+1);have h2:1<=bC (s.take (j+1)):=jo fun a ha=>h a (a9u ha);have h3:=XO h;have h4:=ak3 hl;show i64.wrap (n*s.getD j 0)=_;rw[e2]at h1 h2 ⊢;exact fJ (by omega) (by omega))
 rw[a1N,this];simp
abbrev aaJ(a b:List Int)(p i:Int)(x:List (Nat×PE aG)):aS aG:=⟨[(0,xL 3 a),(1,xL 3 b),(5,xi p),(17,xL 3 a),(18,xi a.length),(19,xi i)]++x,[],[]⟩
theorem apc{n:Nat}{fM:fA aG}(hO:Ok n fM)(a b:List Int)(hl:a.length<=ah):Lp n 105 0 (aaJ a b 1 0 []) (.exit 1) (aaJ a b (a1N a) a.length [(20,xl false)]):=
 KQ (st:=fun i n=>aaJ a b n i []) (fin:=fun n=>aaJ a b n a.length [(20,xl false)]) (fun _ _=>True) (by kernel_rfl) hl QU trivial (fun _ _ _ _=>trivial) (fun k s hk _ n e p h=>aO hO (.b (bF hk) (.o (aH hk) (.go h)))) (fun s _=>aO hO (.b (fF a.length) .ex))
theorem afu{n:Nat}(hO:Ok n a7k)(l:List Int)(hl:l.length<=ah):aW X0 Qp (bT n) (.fn 125 [] []) [.dF 3 l false] [] (.own 0) (lsI l):=
 oN.aaH hX (hO 125 [.dF 3 l false] (.own 0) (lsI l) [l.length<=ah] (by kernel_rfl) (List.forall_mem_singleton.2 hl)) rfl rfl rfl rfl
theorem a7m(n:Nat):(dU n).Pairwise fun a b=>decide (a<=b)=true:=by
 unfold dU;rw[agd];exact List.pairwise_lt_range.imp fun h=>by simp;omega
theorem a3M{n:Nat}{o:List Int}:decide (gY o=dU n)=kD n o:=by
 rw[a4T,a0N];have h2:=Tq n;have hp:(gY o).Perm o:=ae8 _ _;constructor
 .intro h;rw[h]at hp;unfold kD at h2 ⊢;rw[a0N]at h2 ⊢;exact⟨by rw[<-hp.length_eq,h2.1],fun a ha=>h2.2.1 a (hp.mem_iff.2 ha),hp.nodup_iff.1 h2.2.2⟩
 intro h;unfold kD at h h2;rw[a0N]at h h2;have e:o.Perm (dU n):=(a6L h.2.2 h2.2.2).2 fun a=>by
  have hm:∀x,0<=x∧x<(n:Int)->x∈dU n:=fun x hx=>by
   unfold dU;rw[a0H];exact⟨x.toNat,by rw[a4L];omega,by omega⟩
  constructor
  .exact fun ha=>hm a (h.2.1 a ha)
  intro ha;by_cases hc:a∈o
  .exact hc
  have:=adN (l₁:=a::o) (l₂:=dU n) (a4J.2 ⟨hc,h.2.2⟩) (fun x hx=>by
   rcases a1J.1 hx with rfl|hx
   .exact ha
   exact hm x (h.2.1 x hx))
  rw[mg]at this;simp at this;omega
 refine List.Perm.eq_of_pairwise (le:=fun a b=>decide (a<=b)=true) (fun a b _ _ h1 h2=>by simp at h1 h2;omega) ?_ (a7m n) (hp.trans e);exact List.pairwise_mergeSort (fun a b c h1 h2=>by simp at h1 h2 ⊢;omega) (fun a b=>by simp;omega) o
def XP(s o:List Int):Int:=if decide ((s.length:Int)>6)=true then 5 else if(!(nH s 1 12))=true then 3 else if decide (a1N s>2000)=true then 5 else if(!(decide (gY o=dU s.length)))=true then 4 else 0
theorem XQ(s o:List Int):XP s o=bV s o:=by
 rw[Pz];unfold XP;rw[a3M];by_cases h1:6<s.length
 .rw[a0u (by simp;omega),a0u h1]
 rw[a0o (by simp;omega),a0o h1];have hw:nH s 1 12=decide (nX s):=by
  unfold nH;rw[a4T,a8r,List.any_eq_false,a0N];refine ac5 fun a=>ac5 fun _=>?_;unfold wB;split
  .rename_i h;simp at h ⊢;omega
  rename_i h;simp at h ⊢;omega
 rw[hw];by_cases h2:nX s
 .rw[a0o (by simp[h2]),a0u h2,a7l h2 (by omega)];simp only[a0N,Int.not_lt,gt_iff_lt];split
  .rfl
  cases kD s.length o<;>simp
 rw[a0u (by simp[h2]),a0o h2]
def adf:fA aG:=cO 105 (a2 rZ rZ) iA (fun p=>bV p.1 p.2) (fun p=>[p.1.length<=ah,p.2.length<=2^20]) a7k
theorem ak4:Gd adf:=ak2.deep 1 fun n hn hO p hp=>by
 obtain⟨n,rfl⟩:∃k,n=k+1:=⟨n-1,by omega⟩;have hO:=hO (n+1) (by omega);have h1:p.1.length<=ah:=hp _ (.head _);have h2:p.2.length<=2^20:=hp _ (.tail _ (.head _));have h3:p.2.length<=ah:=by unfold ah;omega
 have h4:(dU p.1.length).length<=ah:=by rw[mg];exact h1
 have h5:(gY p.2).length<=ah:=by unfold gY;rw[aa6];exact h3
 show oN X0 Qp _ _ _ (iA.put (bV p.1 p.2)) _;rw[<-XQ];exact aN hO (.ss .rr (.o h1 (.ss .rr (.w (apc hO p.1 p.2 h1) (.ss .rr (.fr [] (afu hO p.2 h3) (.fr [0] (ad9 (n:=n) (k:=false) (ex:=false) p.2 h2) (.o (show(0:Int)<=(p.1.length:Int) by omega) (.o (show(p.1.length:Int)<=(ah:Int) by omega) (.o h5 (.ss .rr .rr)))))))))))
open Go Tw Pv bZ
theorem XR{α:Type}(x:α):[x].length<=ah:=by unfold ah;simp
def qO(v:V):Bool:=if decide (v.f>0)=true then(if decide (v.f<=4)=true then v.n==0 else false)else nH [v.n] (-9999) 9999
def adg:fA aG:=cO 190 (a1 vA) tA (fun p=>qO p) np adf
theorem ak5:Gd adg:=ak4.add fun n hO p hp=>aN hO (.ss (.ss .rr .rr) (.o (XR p.n) .rr))
abbrev frA:V8 X0 Qp (List Int×List Int):=a2 rZ rZ
abbrev cIx(l:List Int)(v:Int)(k:Nat):Bool:=v==l.getD k 0
abbrev afv(l:List Int)(v:Int)(i:Int)(x:List (Nat×PE aG)):aS aG:=⟨[(0,xL 3 l),(1,xi v),(7,xi l.length),(8,xi i)]++x,[],[]⟩
def z234(l:List Int)(v:Int):Unit⊕Nat->Ex×aS aG
 |.inl _=>(.exit 0,afv l v l.length [(9,xl false)])
 |.inr k=>(.ret,⟨[(4,xi k)],[],[]⟩)
theorem ak6{n:Nat}{fM:fA aG}(hO:Ok n fM)(l:List Int)(v:Int)(hl:l.length<=ah):Lp n 234 0 (afv l v 0 []) (z234 l v (bG (cIx l v) l.length)).1 (z234 l v (bG (cIx l v) l.length)).2:=
 jh (st:=fun i _=>afv l v i []) (fun _ _=>True) (by kernel_rfl) hl trivial (fun k s m hk _ ih=>aO hO (.b (bF hk) (.o (aH hk) (.ls (.ou nofun) (.nx (ih _ trivial)))))) (fun s _=>aO hO (.b (fF l.length) (.ou nofun)))
def nT(l:List Int)(v:Int):Int:=if jZ (bG (cIx l v) l.length)=true then -1 else((Dq 0 (bG (cIx l v) l.length):Nat):Int)
def adi:fA aG:=cO 234 (a2 rZ iA) iA (fun p=>nT p.1 p.2) (fun p=>[p.1.length<=ah]) adg
theorem ak7:Gd adi:=ak5.add fun n hO p hp=>aN hO (.zh (fun h=>.w (kM (ak6 hO p.1 p.2 (hp _ (.head _))) () h) .rr) fun h=>.w (kN (ak6 hO p.1 p.2 (hp _ (.head _))) 0 h) .rr)
def adk:fA aG:=cO 223 (a2 (a6K (a2 rZ rZ)) iA) iA (fun p=>nT p.1.2 p.2) (fun p=>[p.1.2.length<=ah]) adi
theorem ak8:Gd adk:=ak7.add fun n hO p hp=>aN hO (.o (hp _ (.head _)) .rr)
def adl:fA aG:=cO 197 (a1 iA) iA (fun p=>i64.wrap (-1-p)) np adk
theorem ak9:Gd adl:=ak8.add fun n hO p hp=>aN hO .rr
structure Lo where
 s:List Int
 o:List Int
 d:Dg
abbrev Lo.ps(l:Lo):List (PV aG):=[.dF 3 l.s false,.dF 3 l.o false]++l.d.ps
def loA:Arg Lo:=aeZ (a6K (LJ rZ (LJ rZ (LJ rZ (a4 rZ vsA aaq iA))))) (fun p=>⟨p.1,p.2.1,⟨p.2.2.1,p.2.2.2.1,p.2.2.2.2.1,p.2.2.2.2.2.1,p.2.2.2.2.2.2⟩⟩) (fun l=>(l.s,l.o,l.d.aj,l.d.aB,l.d.aI,l.d.au,l.d.root)) fun _=>rfl
def qC(l:Lo)(zN below LK:Int):Bool:=if decide (zN<0)=true then decide (i64.wrap (-1-zN)<(l.d.aI.length:Int))else if decide (zN<below)=true then decide (nT l.o (l.d.au.getD zN.toNat kW).var>LK)else false
def XT:fA aG:=cO 193 (a4 loA iA iA iA) tA (fun p=>qC p.1 p.2.1 p.2.2.1 p.2.2.2) (fun p=>[p.1.o.length<=ah,0<=p.2.1->p.2.1<p.2.2.1->gJ p.2.1 p.1.d.au.length]) adl
theorem akb:Gd XT:=ak9.add fun n hO p hp=>aN hO (.sh (fun _=>.rr) fun h=>.sh (fun h2=>.o (hp (0<=p.2.1->p.2.1<p.2.2.1->gJ p.2.1 p.1.d.au.length) (.tail _ (.head _)) (by simpa using h) (by simpa using h2)) (.o (hp _ (.head _)) .rr)) fun _=>.rr)
abbrev Hb(l:Lo)(i:Int)(b:Br):List (PB aG):=[.cells l.ps,.cells [.int .i64 i],.cells b.ps]
theorem apd{n f:Nat}{a c:List (PV aG)}{H:List (PB aG)}{g:Int->Bool}(l:List Int)(hf:∀x∈l,aW X0 Qp (bT n) (.fn f a c) [.int .i64 x] H (.bool (g x)) H)(hl:l.length<=ah):aW X0 Qp (bT (n+1)) (.fn 218 [] []) [.dF 3 l false,.fn f a c] H (iA.put (rW g l)) H:=by
 have lp:Px n 218 0 H.length (a6W f a c H l 0 []) (z218 f a c H l (ni (ql g) l 0 ())).1 (z218 f a c H l (ni (ql g) l 0 ())).2:=
  Xq (st:=fun i _=>a6W f a c H l i []) (0:Int) (fun _ _=>True) (by kernel_rfl) hl QU trivial (fun k s n hk _ ih=>aO gy (.b (bF hk) (.o (aH hk) (.k (hf (l.getD k (0:Int)) (dB hk)) (.ls (.ou nofun) (.nx (ih _ trivial))))))) (fun s _=>aO gy (.b (fF l.length) (.ou nofun)))
 exact jy gy (first:=[]) (cap:=[]) (.szh (fun h=>.w (kM lp () h) .sr) (fun h=>.w (kN lp (0,0,()) h) .sr))
theorem akc{n f:Nat}{a c:List (PV aG)}{H:List (PB aG)}{g:Int->Bool}(l:List Int)(hf:∀x∈l,aW X0 Qp (bT n) (.fn f a c) [.int .i64 x] H (.bool (g x)) H)(hl:l.length<=ah):aW X0 Qp (bT (n+2)) (.fn 181 [] []) [.dF 3 l false,.fn f a c] H (tA.put (l.any g)) H:=by
 have h1:=apd l hf hl;have h2:=Ep g l;rw[<-h2];exact jy gy (first:=[]) (cap:=[]) (.k h1 .sr)
theorem Eu{α:Type}(l:List α)(g:α->Bool):(!(l.any fun x=>!(g x)))=l.all g:=by
 induction l with
 |nil=>rfl
 |cons a l ih=>simp only[adD,ac1,Bool.not_or,Bool.not_not,ih]
abbrev pB:List (PV aG):=[.ptr 0 0 7,.ptr 1 0 1,.ptr 2 0 2]
theorem ape{n f:Nat}{l:Lo}{i:Int}{b:Br}{g:Int->Bool}(ks:List Int)(hf:∀x∈ks,aW X0 Qp (bT n) (.fn f [] pB) [.int .i64 x] (Hb l i b) (tA.put (g x)) (Hb l i b))(hl:ks.length<=ah):aW X0 Qp (bT (n+4)) (.fn 191 [] []) [.dF 3 ks false,.fn f [] pB] (Hb l i b) (tA.put (ks.all g)) (Hb l i b):=by
 have h1:∀x∈ks,aW X0 Qp (bT (n+1)) (.fn 221 [] [.ptr 3 0 1]) [.int .i64 x] (Hb l i b++[.cells [.fn f [] pB]]) (tA.put (!(g x))) (Hb l i b++[.cells [.fn f [] pB]]):=fun x hx=>
  jy gy (first:=[]) (.fr [0,1,2] (hf x hx) .sr)
 have h2:=akc ks h1 hl;rw[<-Eu ks g];exact aW.drop hX (Dn hX gy (first:=[]) (cap:=[]) (H1:=Hb l i b++[.cells [.fn f [] pB]]) (by kernel_rfl) (.k h2 .sr)) rfl rfl
theorem a1O{x a b:Int}:nH [x] a b=decide (a<=x∧x<=b):=by
 unfold nH wB;simp only[adD,List.any_nil,Bool.or_false];by_cases h:x<a
 .rw[a0u (by simpa using h),a9f,eq_comm,a2H];omega
 rw[a0o (by simpa using h),a4T,a8r,a2H,a0N];omega
theorem XU{l:List Br}{k:Nat}(h:k<l.length):l.getD k kW∈l:=by simp[List.getD,a0b h]
abbrev xC(l:Lo)(i:Int):Br:=l.d.au.getD i.toNat kW
def G8(l:Lo)(i:Int):Bool:=if(!(nH [(xC l i).var] 0 (xw l.s)))=true then false else if(((xC l i).aA.length:Int) != l.s.getD (xC l i).var.toNat 0)=true then false else(xC l i).aA.all fun x=>qC l x i (nT l.o (xC l i).var)
theorem akd{n:Nat}(hO:∀m,n<=m->Ok m XT){l:Lo}{i:Int}(ho:l.o.length<=ah)(hf:vC l.s)(hi:gJ i l.d.au.length):aW X0 Qp (bT (n+6)) (.fn 192 [.agg l.ps] []) [.int .i64 i] [] (tA.put (G8 l i)) []:=by
 have h1:∀x∈(xC l i).aA,aW X0 Qp (bT (n+1)) (.fn 222 [] pB) [.int .i64 x] (Hb l i (xC l i)) (tA.put (qC l x i (nT l.o (xC l i).var))) (Hb l i (xC l i)):=fun x _=>
  jy (hO n (a0x _)) (first:=[]) (.o ho (.o ho (.o (show 0<=x->x<i->gJ x l.d.au.length from fun h0 h1=>⟨h0,by have:=hi.1;have:=hi.2;omega⟩) .sr)))
 have hv:(!(nH [(xC l i).var] 0 (xw l.s)))=false->gJ (xC l i).var l.s.length:=fun h=>by
  rw[a1O,abU,a0N,a6Y hf.aiQ]at h;exact⟨h.1,by omega⟩
 have hk:(!(nH [(xC l i).var] 0 (xw l.s)))=false->(((xC l i).aA.length:Int) != l.s.getD (xC l i).var.toNat 0)=false->(xC l i).aA.length<=ah:=fun h h2=>by
  have h3:=hv h;have h4:=hf.sz _ (dB (s:=l.s) (k:=(xC l i).var.toNat) (by have:=h3.2;have:=h3.1;omega));have h2:((xC l i).aA.length:Int)=l.s.getD (xC l i).var.toNat 0:=by simpa using h2
  exact m12 (by omega)
 exact aW.drop hX (Dn hX (hO (n+5) (by omega)) (first:=[.agg l.ps]) (cap:=[]) (H1:=Hb l i (xC l i)++[.list true true 3 [(xC l i).var]]) (by kernel_rfl) (.o hi (.o (XR (xC l i).var) (.ssh (fun _=>.sr) fun h5=>.o (hv h5) (.ssh (fun _=>.sr) fun h6=>.fr [0,1,2] (ape (xC l i).aA h1 (hk h5 h6)) .sr))))) rfl rfl
abbrev a3N(f:Nat)(a:List (PV aG)):List (PB aG):=[.cells [.fn f a []]]
theorem ake{n:Nat}{l:Lo}{g:Int->Bool}(ks:List Int)(hf:∀x∈ks,aW X0 Qp (bT n) (.fn 192 [.agg l.ps] []) [.int .i64 x] [] (tA.put (g x)) [])(hl:ks.length<=ah):aW X0 Qp (bT (n+4)) (.fn 191 [] []) [.dF 3 ks false,.fn 192 [.agg l.ps] []] [] (tA.put (ks.all g)) []:=by
 have h1:∀x∈ks,aW X0 Qp (bT (n+1)) (.fn 221 [] [.ptr 0 0 1]) [.int .i64 x] (a3N 192 [.agg l.ps]) (tA.put (!(g x))) (a3N 192 [.agg l.ps]):=fun x hx=>
  jy gy (first:=[]) (.fr [] (hf x hx) .sr)
 have h2:=akc ks h1 hl;rw[<-Eu ks g];exact aW.drop hX (Dn hX gy (first:=[]) (cap:=[]) (H1:=a3N 192 [.agg l.ps]) (by kernel_rfl) (.k h2 .sr)) rfl rfl
theorem apf{n:Nat}(hO:Ok n XT)(l:List V)(hl:l.length<=ah):aW X0 Qp (bT (n+4)) (.fn 189 [] []) [.dF 39 l false,.fn 190 [] []] [] (tA.put (l.all qO)) []:=by
 have h1:∀x:V,aW X0 Qp (bT (n+1)) (.fn 220 [] [.ptr 0 0 1]) [.agg x.ps] (a3N 190 []) (tA.put (!(qO x))) (a3N 190 []):=fun x=>
  jy hO (first:=[]) .sr
 have h2:=afi (n:=n+2) (by omega) (g:=fun x=>!(qO x)) h1 l hl;rw[<-Eu l,<-Jm];exact aW.drop hX (Dn hX gy (first:=[]) (cap:=[]) (H1:=a3N 190 []) (by kernel_rfl) (.k h2 .sr)) rfl rfl
theorem apg{n:Nat}(hO:Ok n XT)(m:Nat)(hm:m<=ah):aW X0 Qp (bT n) (.fn 159 [] []) [.int .i64 m] [] (rZ.put (dU m)) []:=
 oN.aaH hX (hO 159 [.int .i64 m] (rZ.put (dU m)) [] [0<=(m:Int),(m:Int)<=(ah:Int)] (by kernel_rfl) (by
  intro q hq;rcases a1J.1 hq with rfl|hq
  .omega
  .rw[a2D.1 hq];omega)) rfl rfl rfl rfl
theorem a1P{x:Int}{m:Nat}(h:x∈dU m):gJ x m:=by
 simp only[dU,a0H,a4L]at h;obtain⟨k,hk,rfl⟩:=h;exact aH hk
abbrev yY(d:Dg):Lo:=⟨d.aj,d.aB,d⟩
abbrev lo0:Lo:=⟨[],[],⟨[],[],[],[],0⟩⟩
def bH(d:Dg):Lo×Int:=if(bV d.aj d.aB != 0)=true then(lo0,bV d.aj d.aB)else if decide ((d.au.length:Int)>6000)=true then(yY d,5)else if(!(d.aI.all qO))=true then(yY d,4)else if(!((dU d.au.length).all (G8 (yY d))))=true then(yY d,4)else if(!(qC (yY d) d.root d.au.length (-1)))=true then(yY d,4)else(yY d,0)
def DK:fA aG:=cO 160 (a1 dA) (dQ (a2 loA iA)) (fun p=>bH p) (fun p=>[p.aj.length<=ah,p.aB.length<=2^20,p.aI.length<=ah]) XT
theorem adn:Gd DK:=akb.deep 11 fun n hn hO d hp=>by
 obtain⟨n,rfl⟩:∃k,n=k+10:=⟨n-10,by omega⟩;have h1:d.aj.length<=ah:=hp _ (.head _);have h2:d.aB.length<=2^20:=hp _ (.tail _ (.head _));have h3:d.aI.length<=ah:=hp _ (.tail _ (.tail _ (.head _)));have ho:d.aB.length<=ah:=by unfold ah;omega
 have hO:∀m,n<=m->Ok m _:=fun m hm=>hO m (by omega);have hI:(bV d.aj d.aB != 0)=false->∀x∈dU d.au.length,aW X0 Qp (bT (n+6)) (.fn 192 [.agg (yY d).ps] []) [.int .i64 x] [] (tA.put (G8 (yY d) x)) []:=fun h x hx=>akd hO (l:=yY d) ho (Bd h) (a1P hx);have hR:0<=d.root->d.root<(d.au.length:Int)->gJ d.root d.au.length:=fun a b=>⟨a,by omega⟩;have hL:decide ((d.au.length:Int)>6000)=false->(dU d.au.length).length<=ah:=fun h=>by rw[mg];exact Vf h
 exact aN (hO (n+10) (by omega)) (.o h1 (.o h2 (.sh (fun _=>.rn (.dM [.agg [.nil .slc,.nil .slc,.nil .slc,.nil .slc,.nil .slc,.nil .slc,.int .i64 0],.int .i64 (bV d.aj d.aB)]) rfl) fun h=>.sh (fun _=>.rr) fun h4=>.fr [] (apf (n:=n+6) (hO (n+6) (by omega)) d.aI h3) (.ss .rr (.fr [] (apg (hO (n+10) (by omega)) d.au.length (Vf h4)) (.fr [] (ake (l:=yY d) (n:=n+6) (dU d.au.length) (hI h) (hL h4)) (.ss .rr (.o ho (.o hR (.ss .rr .rr))))))))))
open Go Tw Pv bZ
def G9(x:Int):Prop:=-(2^63)<=x∧x<2^63
structure Ew(d:Dg):Prop where
 zN:∀i,i<d.au.length->∀k,k<(fB d i).aA.length->G9 ((fB d i).aA.getD k 0)
 root:G9 d.root
 fault:∀v∈d.aI,0<=v.f
theorem mF{n:Nat}{o:List Int}(h:kD n o=true){v:Int}(hv:gJ v n):v∈o:=by
 unfold kD at h;rw[a0N]at h;obtain⟨h0,h1⟩:=hv;by_cases hc:v∈o
 .exact hc
 have:=adN (l₁:=v::o) (l₂:=dU n) (a4J.2 ⟨hc,h.2.2⟩) (fun x hx=>by
  have:0<=x∧x<(n:Int):=by
   rcases a1J.1 hx with rfl|hx
   .exact⟨h0,by omega⟩
   exact h.2.1 x hx
  unfold dU;rw[a0H];exact⟨x.toNat,by rw[a4L];omega,by omega⟩)
 rw[mg]at this;simp at this;omega
theorem su{l:List Int}{k:Nat}(h:k<l.length):l.getD k 0=l[k]:=by simp[List.getD,a0b h]
theorem a1Q{l:List Int}{v:Int}(h:v∈l):jZ (bG (cIx l v) l.length)=false:=by
 cases e:jZ (bG (cIx l v) l.length)
 .rfl
 obtain⟨j,hj,e2⟩:=a4U.1 h;have:=dI.1 e j hj;simp[cIx,List.getD,a0b hj,e2]at this
theorem a7n{d:Dg}{r:Int}:PD d r=cIx d.aB (ay d r).var:=by
 funext k;exact BEq.comm
theorem Vh{d:Dg}{r:Int}(h0:0<=r)(h:(ay d r).var∈d.aB):um d r=nT d.aB (ay d r).var:=by
 unfold um nT;rw[a0o (by rw[a0N];omega),a7n,a1Q h,a0o (by decide),a0o (by decide)]
theorem akf{l:List Int}{v:Int}(h:v∈l):nT l v<(l.length:Int):=by
 unfold nT;rw[a1Q h,a0o (by simp)];obtain⟨j,h1,_,_,h2⟩:=Ba (a1Q h);rw[h2];show(j:Int)<_;omega
theorem PL{x a b:Int}:nH [x] a b=nS x a b:=by
 rw[a1O,a4T,vY,a0N]
theorem a7o{v:V}(h:0<=v.f):qO v=vOk v:=by
 rw[afl h];unfold qO vIs;rw[PL]
theorem afw{z:Int}(h:G9 z):i64.wrap z=z:=by
 obtain⟨h0,h1⟩:=h;simp only[IntKind.wrap,IntKind.bits,IntKind.signed];rcases Int.lt_or_le z 0 with h|h
 .have:z%(2^64:Int)=z+2^64:=by
   have:=ac3 z (2^64) 1;rw[acj]at this;rw[<-this];exact a8g (by omega) (by omega)
  simp only[this];rw[a0u (by simp;omega)];omega
 have:z%(2^64:Int)=z:=a8g h (by omega);simp only[this];rw[a0o (by simp;omega)]
theorem Na{x:Int}(h:G9 x)(h0:x<0):i64.wrap (-1-x)=-1-x:=by
 have h1:=h.1;exact afw ⟨by omega,by omega⟩
theorem aaK{d:Dg}{x:Int}(below:Int)(h:G9 x)(h0:x<0)(he:d.aI.length<=ah):iR d x below=decide (i64.wrap (-1-x)<(d.aI.length:Int)):=by
 have he:d.aI.length<=2^60:=by unfold ah at he;omega
 unfold iR;rw[a0o (by simp;omega),Na h h0,a4T,vY,a0N];by_cases h1:d.aI.length=0
 .rw[h1,show i64.wrap (((0:Nat):Int)-1)=-1 by decide];omega
 rw[fJ (by omega) (by omega)];omega
theorem akg{l:List Int}{v:Int}(h:v∈l):0<=nT l v:=by
 unfold nT;rw[a1Q h,a0o (by simp)];omega
theorem afx{d:Dg}{x below LK:Int}(h0:0<=x)(hv:x<below->(ay d x).var∈d.aB):qC (yY d) x below LK=(iR d x below&&decide (LK<um d x)):=by
 unfold qC iR;rw[a0o (show ¬(decide (x<0)=true) by rw[a0N];omega),a0u (show decide (x>=0)=true by rw[a0N];omega)];by_cases h1:x<below
 .rw[a0u (show decide (x<below)=true by rw[a0N];exact h1),Vh h0 (hv h1),decide_eq_true h1,adB]
 rw[a0o (show ¬(decide (x<below)=true) by rw[a0N];exact h1),aez h1,Bool.false_and]
theorem afy{d:Dg}{x below LK:Int}(h:G9 x)(h0:x<0)(he:d.aI.length<=ah)(hr:LK<(d.aB.length:Int)):qC (yY d) x below LK=(iR d x below&&decide (LK<um d x)):=by
 rw[aaK _ h h0 he];unfold qC um;rw[a0u (by rw[a0N];exact h0),a0u (by rw[a0N];exact h0),decide_eq_true hr,ahf]
theorem a7p{d:Dg}{x below LK:Int}(h:G9 x)(he:d.aI.length<=ah)(hr:LK<(d.aB.length:Int))(hv:0<=x->x<below->(ay d x).var∈d.aB):qC (yY d) x below LK=(iR d x below&&decide (LK<um d x)):=by
 by_cases h0:0<=x
 .exact afx h0 (hv h0)
 exact afy h (by omega) he hr
theorem a7q{d:Dg}(h:Ew d)(he:d.aI.length<=ah)(hv:∀r,gJ r d.au.length->(ay d r).var∈d.aB):qC (yY d) d.root d.au.length (-1)=iR d d.root d.au.length:=by
 rw[a7p h.root he (by omega) (fun a b=>hv _ ⟨a,by omega⟩)];cases e:iR d d.root d.au.length
 .rfl
 rw[adB,a0N];by_cases h0:0<=d.root
 .have:=XK e h0 (a0x _);rw[Vh h0 (hv _ this)];have:=akg (hv _ this);omega
 unfold um;rw[a0u (by rw[a0N];omega)];omega
theorem ado{d:Dg}(h:Ew d)(he:d.aI.length<=ah){i:Nat}(hi:i<d.au.length)(hf:vC d.aj)(ho:kD d.aj.length d.aB=true)(hv:∀j,j<i->(fB d j).var∈d.aB):G8 (yY d) i=!(cLn d i):=by
 have e0:xC (yY d) i=fB d i:=rfl;unfold G8 cLn;rw[e0];show(if(!(nH [(fB d i).var] 0 (xw d.aj)))=true then false else if(((fB d i).aA.length:Int) != d.aj.getD (fB d i).var.toNat 0)=true then false else _)=_;rw[PL];cases e1:nS (fB d i).var 0 (xw d.aj)
 .rfl
 have hvi:(fB d i).var∈d.aB:=mF ho (Jt hf e1);have aph:(ay d (i:Int)).var∈d.aB:=hvi;simp only[a9f,a2u,a3q];split
 .rfl
 have FM:((fB d i).aA.all fun x=>qC (yY d) x i (nT (yY d).o (fB d i).var))=jZ (bG (cLk d i) (fB d i).aA.length):=by
  rw[a4T,a4R,dI];have hk:∀k,k<(fB d i).aA.length->(qC (yY d) ((fB d i).aA.getD k 0) i (nT d.aB (fB d i).var)=true↔cLk d i k=false):=fun k hk=>by
   rw[a7p (h.zN i hi k hk) he (akf hvi) (fun a b=>hv _ (by omega)),a1D,a0N];unfold cLk;rw[show um d (i:Int)=nT d.aB (fB d i).var from Vh (by omega) aph];cases iR d ((fB d i).aA.getD k 0) i
   .simp
   simp<;>omega
  constructor
  .intro a k KA;exact(hk k KA).1 (a _ (dB KA))
  intro a x hx;obtain⟨k,KA,rfl⟩:=a4U.1 hx;have:=(hk k KA).2 (a k KA);rw[su KA]at this;exact this
 rw[FM];cases jZ (bG (cLk d i) (fB d i).aA.length)<;>rfl
theorem afz{d:Dg}(h:Ew d)(he:d.aI.length<=ah)(hf:vC d.aj)(ho:kD d.aj.length d.aB=true):(dU d.au.length).all (G8 (yY d))=jZ (bG (cLn d) d.au.length):=by
 have akh:∀i,cLn d i=false->(fB d i).var∈d.aB:=fun i hc=>by
  unfold cLn at hc;split at hc
  .cases hc
  rename_i e;exact mF ho (Jt hf (by simpa using e))
 have key:∀i,i<=d.au.length->((∀j,j<i->G8 (yY d) j=true)↔∀j,j<i->cLn d j=false):=by
  intro i
  induction i with
  |zero=>intro _;exact⟨fun _ j hj=>absurd hj (by omega),fun _ j hj=>absurd hj (by omega)⟩
  |succ i ih=>
   intro hi;have ih:=ih (by omega);constructor
   .intro a;have b:=ih.1 fun j hj=>a j (by omega);intro j hj;by_cases hji:j<i
    .exact b j hji
    have:j=i:=(by omega);subst this;have:=a j (by omega);rw[ado h he (by omega) hf ho (fun k hk=>akh k (b k hk))]at this;simpa using this
   intro b j hj;by_cases hji:j<i
   .exact ih.2 (fun k hk=>b k (by omega)) j hji
   have:j=i:=(by omega);subst this;rw[ado h he (by omega) hf ho (fun k hk=>akh k (b k (by omega))),b j (by omega)];rfl
 rw[a4T,a4R,dI,<-key _ (a0x _)];constructor
 .intro a j hj;exact a _ (by unfold dU;rw[a0H];exact⟨j,a4L.2 hj,rfl⟩)
 intro a x hx;simp only[dU,a0H,a4L]at hx;obtain⟨k,hk,rfl⟩:=hx;exact a k hk
theorem aaL{d:Dg}(h:∀v∈d.aI,0<=v.f):d.aI.all qO=jZ (bG (cLe d) d.aI.length):=by
 rw[a4T,a4R,dI];have hg:∀k,(hk:k<d.aI.length)->d.aI.getD k V0=d.aI[k]:=fun k hk=>by simp[List.getD,a0b hk]
 constructor
 .intro a k hk;unfold cLe;rw[hg k hk,<-a7o (h _ (a4Q hk)),a _ (a4Q hk)];rfl
 intro a x hx;obtain⟨k,hk,rfl⟩:=a4U.1 hx;have:=a k hk;unfold cLe at this;rw[hg k hk,<-a7o (h _ hx)]at this;simpa using this
theorem Jw{d:Dg}(h:Ew d)(he:d.aI.length<=ah):bH d=(if(bV d.aj d.aB != 0)=true then lo0 else yY d,aX d):=by
 unfold bH aX;split
 .rfl
 rename_i h1;have WT:=jV.1 (show bV d.aj d.aB=0 by simpa using h1);split
 .rfl
 unfold mD;rw[aaL h.fault,afz h he WT.1 WT.2];cases e1:jZ (bG (cLe d) d.aI.length)
 .rfl
 cases e2:jZ (bG (cLn d) d.au.length)
 .rfl
 have hv:∀r,gJ r d.au.length->(ay d r).var∈d.aB:=fun r hr=>by
  have:=dI.1 e2 r.toNat (by have:=hr.1;have:=hr.2;omega);unfold cLn at this;split at this
  .cases this
  rename_i e;exact mF WT.2 (Jt WT.1 (by simpa using e))
 rw[a7q h he hv];simp only[a9f,a2u,a3q,a2k];cases iR d d.root d.au.length<;>rfl
end Go.Proofs.YtmobpoiejckagaaGreat
namespace Pv
open Go Tw
structure pJ(X:l7)(P:Program)(kt:TypeId)(α:Type)[DecidableEq α] where
 pv:α->PV X.Γ
 tv:α->TV
 v:α->Value
 hp:∀x,qy (pv x)=some (tv x)
 ht:∀x,(tv x).yM=some (v x)
 hc:∀em x,aC P (Instr.checkKey em 10000 kt (v x))=some ()
 hf:∀(x:α) (l:List α),aC P (Instr.findKey kt (v x) (l.map fun y=>⟨v y,.bool false,0⟩))=some ((l.findIdx? fun y=>decide (x=y)).map fun i=>(i,.bool false))
 hk:∃kind,aC P (underlying kt)=some kind∧((∀x y,Instr.sameNow kind (v x) (v y)=some (decide (x=y)))∨∀x y,Instr.sameNow kind (v x) (v y)=none∧aC P (Op.equal kt (v x) (v y))=some (decide (x=y)))
variable {X:l7} {P:Program} {kt:TypeId} {α:Type} [DecidableEq α] (C:pJ X P kt α)
abbrev pJ.es(l:List (α×PV X.Γ)):List (PV X.Γ×PV X.Γ):=l.map fun e=>(C.pv e.1,e.2)
theorem pJ.tvs:∀l:List α,Tw.BU (l.map C.tv)=some (l.map C.v)
 | []=>rfl
 |a::l=>by
  show(match(C.tv a).yM,Tw.BU (l.map C.tv)with|some v,some vs=>some (v::vs)|_,_=>none)=_;rw[C.ht,pJ.tvs l];rfl
theorem pJ.find(x:α)(l:List α)(r:Option Nat)(hr:(l.findIdx? fun y=>decide (x=y))=r)(hs:∀(i:Nat) y,l[i]? = some y->decide (x=y)=(some i==r)):vM P kt (C.v x) (l.map C.tv)=some r:=by
 unfold vM;rw[C.tvs];simp only[];rw[bK,C.hc,a4M,a5D];show(match aC P (Instr.findKey kt (C.v x) (l.map fun y=>⟨C.v y,.bool false,0⟩))with|some r=>if Wj P kt (C.v x) (l.map C.v) (Option.map (fun(q:Nat×Value)=>q.1) r)then some (Option.map (fun(q:Nat×Value)=>q.1) r)else none|none=>none)=_;rw[C.hf,hr];have e:Option.map (fun(q:Nat×Value)=>q.1) (r.map fun i=>(i,Value.bool false))=r:=by cases r<;>rfl
 simp only[e];rw[a0u];obtain⟨kind,h1,h2⟩:=C.hk;simp only[Wj,h1,a1D,a9i,a4R];constructor
 .cases r with
  |none=>rfl
  |some j=>
   have:=(a9Y.1 hr).1;simpa using this
 have hz:∀p∈(l.map C.v).zipIdx,∃y,p.1=C.v y∧decide (x=y)=(some p.2==r):=fun p hp=>by
  have:=a9w.1 hp;rw[a4H,a07]at this;obtain⟨y,hy,e⟩:=this;exact⟨y,e.symm,hs _ _ hy⟩
 rcases h2 with h2|h2
 .left;intro p hp;obtain⟨y,e1,e2⟩:=hz p hp;rw[e1,h2,e2];simp
 right;intro p hp;obtain⟨y,e1,e2⟩:=hz p hp;rw[e1,(h2 x y).1,(h2 x y).2,e2];simp
theorem pJ.pk:∀l:List (α×PV X.Γ),vK X (C.es l)=some ((l.map (·.1)).map C.tv)
 | []=>rfl
 |a::l=>by
  show(match qy (C.pv a.1),vK X (C.es l)with|some v,some vs=>some (v::vs)|_,_=>none)=_;rw[C.hp,pJ.pk l];rfl
theorem pJ.ck(x:α):∃kv,(C.tv x).yM=some kv∧aC P (Instr.checkKey false 10000 kt kv)=some ():=⟨C.v x,C.ht x,C.hc false x⟩
theorem pJ.fresh{l:List (α×PV X.Γ)}{x:α}(h:x∉l.map (·.1)):o9 X P kt (C.es l) (C.tv x):=by
 refine⟨C.v x,_,C.ht x,C.pk l,?_⟩;have YJ:∀y∈l.map (·.1),decide (x=y)=false:=fun y hy=>by
  simp only[a2H];intro e;exact h (e▸hy)
 exact C.find x _ none (List.findIdx?_eq_none_iff.2 YJ) fun i y hy=>by rw[YJ y (a4N hy)];rfl
theorem pJ.found{l:List (α×PV X.Γ)}{x:α}{v:PV X.Γ}(hn:(l.map (·.1)).Nodup)(h:(x,v)∈l):qG X P kt (C.es l) (C.tv x) v:=by
 obtain⟨j,hj,e⟩:=a4U.1 h;refine⟨C.v x,_,j,C.pv x,C.ht x,C.pk l,?_,?_⟩
 .have hxj:(l.map (·.1))[j]? = some x:=by simp[a0b hj,e]
  have hu:∀(i:Nat) y,(l.map (·.1))[i]? = some y->decide (x=y)=(some i==some j):=fun i y hy=>by
   rw[a4T];simp only[a0N,a6v,a04];constructor
   .rintro rfl;have i1:=a05.1 hy;have i2:=a05.1 hxj;exact(aa2 hn (h₀:=i1.1) (h₁:=i2.1)).1 (i1.2.trans i2.2.symm)
   rintro rfl;rw[hxj]at hy;exact a9j hy
  refine C.find x _ (some j) ?_ hu;rw[a9Y];refine⟨by simpa using hj,by simp[e],fun i hi=>?_⟩;have hil:i<(l.map (·.1)).length:=by simp;omega
  rw[hu i _ (a0b hil)];simp;omega
 simp[pJ.es,a0b hj,e]
theorem Jy{t:TypeId}{d:TypeDesc}(h:P.underlying t=some d):aC P (underlying t)=some d:=by
 simp only[underlying,bK];show Option.bind (some P) _=_;simp[h];rfl
theorem a06{v:α->Value}(he:∀x y,aC P (Op.equal kt (v x) (v y))=some (decide (x=y)))(x:α):∀(l:List α) (i:Nat),aC P (Instr.findAsking kt (v x) (l.map fun y=>⟨v y,.bool false,0⟩) i)=some ((l.findIdx? fun y=>decide (x=y)).map fun j=>(j+i,.bool false))
 | [],i=>rfl
 |y::l,i=>by
  simp only[a4D,Instr.findAsking];rw[bK,he,a4M,List.findIdx?_cons];cases decide (x=y)with
  |true=>simp only[a2k,a0B,a3H];rfl
  |false=>
   simp only[a2u,a3q];rw[a06 he x l (i+1)];cases l.findIdx? fun y=>decide (x=y)with
   |none=>rfl
   |some j=>simp;omega
theorem a1R{v:α->Value}{fs:Array Field}(hu:P.underlying kt=some (.struct fs))(he:∀x y,aC P (Op.equal kt (v x) (v y))=some (decide (x=y)))(x:α)(l:List α):aC P (Instr.findKey kt (v x) (l.map fun y=>⟨v y,.bool false,0⟩))=some ((l.findIdx? fun y=>decide (x=y)).map fun i=>(i,.bool false)):=by
 have h:=a06 he x l 0;unfold Instr.findKey;rw[bK,Jy hu,a4M];cases l with
 |nil=>rfl
 |cons y l=>
  rw[show Instr.findNow (.struct fs) (v x) ((y::l).map fun y=>⟨v y,.bool false,0⟩) 0=none by simp[Instr.findNow,Instr.sameNow]];exact h
theorem a1S{k:IntKind}(x:Int):∀(l:List Int) (i:Nat),Instr.findNow (.int k) (.int k x) (l.map fun y=>⟨.int k y,.bool false,0⟩) i=some ((l.findIdx? fun y=>decide (x=y)).map fun j=>(j+i,.bool false))
 | [],i=>rfl
 |y::l,i=>by
  simp only[a4D,Instr.findNow,Instr.sameNow,a2k];rw[List.findIdx?_cons];by_cases h:x=y
  .subst h;simp
  rw[show(x==y)=false by simpa using h,aez h];simp only[a2u,a3q];rw[a1S x l (i+1)];cases l.findIdx? fun y=>decide (x=y)with
  |none=>rfl
  |some j=>simp;omega
theorem afA{k:IntKind}(hu:P.underlying kt=some (.int k))(x:Int)(l:List Int):aC P (Instr.findKey kt (.int k x) (l.map fun y=>⟨.int k y,.bool false,0⟩))=some ((l.findIdx? fun y=>decide (x=y)).map fun i=>(i,.bool false)):=by
 unfold Instr.findKey;rw[bK,Jy hu,a4M,a1S x l 0];cases l.findIdx? fun y=>decide (x=y)<;>rfl
theorem a1T{v:α->Value}{fs:Array Field}(hu:P.underlying kt=some (.struct fs))(he:∀x y,aC P (Op.equal kt (v x) (v y))=some (decide (x=y))) :
  ∃kind,aC P (underlying kt)=some kind∧((∀x y,Instr.sameNow kind (v x) (v y)=some (decide (x=y)))∨∀x y,Instr.sameNow kind (v x) (v y)=none∧aC P (Op.equal kt (v x) (v y))=some (decide (x=y))):=
 ⟨_,Jy hu,.inr fun x y=>⟨by simp[Instr.sameNow],he x y⟩⟩
theorem afB{k:IntKind}(hu:P.underlying kt=some (.int k)) :
  ∃kind,aC P (underlying kt)=some kind∧((∀x y:Int,Instr.sameNow kind (.int k x) (.int k y)=some (decide (x=y)))∨∀x y:Int,Instr.sameNow kind (.int k x) (.int k y)=none∧aC P (Op.equal kt (.int k x) (.int k y))=some (decide (x=y))):=
 ⟨_,Jy hu,.inl fun x y=>by simp only[Instr.sameNow,a2k];congr 1⟩
theorem afC{v:α->Value}{n:Nat}{e:TypeId}(hu:P.underlying kt=some (.array n e))(he:∀x y,aC P (Op.equal kt (v x) (v y))=some (decide (x=y)))(x:α)(l:List α):aC P (Instr.findKey kt (v x) (l.map fun y=>⟨v y,.bool false,0⟩))=some ((l.findIdx? fun y=>decide (x=y)).map fun i=>(i,.bool false)):=by
 have h:=a06 he x l 0;unfold Instr.findKey;rw[bK,Jy hu,a4M];cases l with
 |nil=>rfl
 |cons y l=>
  rw[show Instr.findNow (.array n e) (v x) ((y::l).map fun y=>⟨v y,.bool false,0⟩) 0=none by simp[Instr.findNow,Instr.sameNow]];exact h
theorem afD{v:α->Value}{n:Nat}{e:TypeId}(hu:P.underlying kt=some (.array n e))(he:∀x y,aC P (Op.equal kt (v x) (v y))=some (decide (x=y))) :
  ∃kind,aC P (underlying kt)=some kind∧((∀x y,Instr.sameNow kind (v x) (v y)=some (decide (x=y)))∨∀x y,Instr.sameNow kind (v x) (v y)=none∧aC P (Op.equal kt (v x) (v y))=some (decide (x=y))):=
 ⟨_,Jy hu,.inr fun x y=>⟨by simp[Instr.sameNow],he x y⟩⟩
end Pv
namespace Go.Proofs.YtmobpoiejckagaaGreat
open Go Tw Pv bZ
def kV:pJ X0 Qp 39 V where
 pv x:=.agg x.ps
 tv x:=x.tv
 v x:=.agg #[.int .u8 x.f,.int .i64 x.n]
 hp _:=rfl
 ht _:=rfl
 hc em x:=by kernel_rfl
 hf x l:=a1R afm (fun a b=>a1G 9998 a b) x l
 hk:=a1T afm fun a b=>a1G 9998 a b
def kI:pJ X0 Qp 3 Int where
 pv x:=.int .i64 x
 tv x:=.int .i64 x
 v x:=.int .i64 x
 hp _:=rfl
 ht _:=rfl
 hc em x:=by kernel_rfl
 hf x l:=afA a3E x l
 hk:=afB a3E
abbrev zQ(E:List V):List (V×PV X0.Γ):=E.zipIdx.map fun e=>(e.1,.int .i64 (e.2:Nat))
abbrev mkC(a b:List Int)(e n:Nat)(r:Int):PB aG:=.cells [.dF 3 a false,.dF 3 b false,.own 0,.own 1,.own e,.own n,.int .i64 r,.map 2,.map 3]
abbrev Qz(l:List V):PB aG:=.list false false 39 l
abbrev QA(l:List Br):PB aG:=.list false false 105 l
abbrev MK(a b:List Int)(E:List V)(nd:List Br)(r:Int)(nm:List (PV aG×PV aG)):List (PB aG):=[.list false false 3 a,.list false false 3 b,.map (kV.es (zQ E)),.map nm,mkC a b 5 6 r,Qz E,QA nd]
abbrev MK'(a b:List Int)(E:List V)(nd:List Br)(r:Int)(nm:List (PV aG×PV aG)):List (PB aG):=[.list false false 3 a,.list false false 3 b,.map (kV.es (zQ E)),.map nm,mkC a b 7 8 r,.gone,.gone,Qz E,QA nd]
theorem TD(E:List V):(zQ E).map (·.1)=E:=by
 unfold zQ;rw[a5D];show E.zipIdx.map (·.1)=E;simp
theorem a7r(E:List V)(v:V):zQ (E++[v])=zQ E++[(v,.int .i64 (E.length:Nat))]:=by
 unfold zQ;rw[List.zipIdx_append,a4C];simp
theorem a7s{E:List V}{v:V}(h:v∈E):(v,(.int .i64 (E.idxOf v:Nat):PV X0.Γ))∈zQ E:=by
 unfold zQ;rw[a0H];have hl:=a4S.2 h;exact⟨(v,E.idxOf v),by rw[a9w];simp[a0b hl],rfl⟩
def gV(E:List V)(v:V):List V:=if v∈E then E else E++[v]
theorem Vj{E:List V}{v:V}(h:E.Nodup):(gV E v).Nodup:=by
 unfold gV;split
 .exact h
 rename_i hn;rw[a99];exact⟨h,by simp,fun x hx y hy=>by rw[a2D]at hy;subst hy;intro e;subst e;exact hn hx⟩
theorem apj{n:Nat}(hO:Ok n DK){a b:List Int}{E:List V}{nd:List Br}{r:Int}{nm:List (PV aG×PV aG)}(v:V)(hE:E.Nodup)(hl:E.length+1<=ah):aW X0 Qp (bT (n+1)) (.fn 196 [] []) [.ptr 4 0 9,.agg v.ps] (MK a b E nd r nm) (.int .i64 (i64.wrap (-1-(E.idxOf v:Nat)))) (MK' a b (gV E v) nd r nm):=by
 by_cases h:v∈E
 .rw[show gV E v=E from a0u h];have hf:qG X0 Qp 39 (kV.es (zQ E)) v.tv (.int .i64 (E.idxOf v:Nat)):=kV.found (by rw[TD];exact hE) (a7s h);exact aW.gs hX (rU hX hO (first:=[]) (cap:=[]) (v:=.int .i64 (i64.wrap (-1-(E.idxOf v:Nat)))) (H1:=MK a b E nd r nm) (by kernel_rfl) (.c (.int .i64 (E.idxOf v:Nat)) [] hf (.b (rfl:(!true)=false) .er))) [.mv 5,.mv 6] rfl
 rw[show gV E v=E++[v]from a0o h,a8L h];have hf:o9 X0 Qp 39 (kV.es (zQ E)) v.tv:=kV.fresh (by rw[TD];exact h);have em:kV.es (zQ (E++[v]))=kV.es (zQ E)++[(.agg v.ps,.int .i64 (E.length:Nat))]:=by rw[a7r];exact a4C ..
 show aW X0 Qp _ _ _ _ _ [_,_,.map (kV.es (zQ (E++[v]))),_,_,_,_,_,_];rw[em];exact aW.gs hX (rU hX hO (first:=[]) (cap:=[]) (v:=.int .i64 (i64.wrap (-1-(E.length:Nat)))) (H1:=[.list false false 3 a,.list false false 3 b,.map (kV.es (zQ E)++[(.agg v.ps,.int .i64 (E.length:Nat))]),.map nm,mkC a b 8 6 r,.gone,QA nd,.list true true 39 [v],Qz (E++[v])]) (by kernel_rfl) (.a .calm (.o hf (.b (rfl:(!false)=true) (.a .calm (.o (kV.ck v) (.o hf (.o (show E.length+[v].length<=ah by simpa using hl) .er)))))))) [.mv 6,.gc [8,9]] rfl
end Go.Proofs.YtmobpoiejckagaaGreat
namespace Tw
open Go
section
variable {P:Program}
theorem DL{e:TypeId}(hg:aC P (isAgg e)=some false){xs:Array Value}{i:Nat}{v:Value}(h:xs[i]? = some v):aC P (part e xs i)=some v:=by
 unfold part;rw[bK,hg,a4M];simp only[a2u,a3q,h];rfl
def a3O(d:Nat)(e:TypeId)(c:Nat)(xs ys:Array Value):List Nat->Sem Bool
 | []=>pure true
 |i::is=>do
  let a <-part e xs (i*c)
  let b <-part e ys (i*c)
  let r <-Op.equalIn d e a b
  if(!r)=true then pure false else a3O d e c xs ys is
theorem Jz(d:Nat){t e:TypeId}{n c:Nat}(xs ys:Array Value)(hu:P.underlying t=some (.array n e))(hs:aC P (sizeOf e)=some c) :
  aC P (Op.equalIn (d+1) t (.agg xs) (.agg ys))=aC P (a3O d e c xs ys (List.range' 0 n)):=by
 have hu':aC P (underlying t)=some (.array n e):=by
  simp only[underlying,bK];have:aC P program=some P:=rfl;simp[this,hu,aC];rfl
 simp only[Op.equalIn,bK,hu',a4M,hs];simp only[Std.Legacy.Range.forIn_eq_forIn_range',Std.Legacy.Range.size,Nat.sub_zero,Nat.add_one_sub_one,Nat.div_one];generalize List.range' 0 n=is;clear hu hu' hs
 induction is with
 |nil=>simp[a3O,aC,bK];rfl
 |cons j is ih=>
  simp only[List.forIn_cons,a3O,bK]at ih ⊢;generalize aC P (part e xs (j*c))=r1;cases r1 with
  |none=>simp
  |some a=>
   simp only[a4M];generalize aC P (part e ys (j*c))=r2;cases r2 with
   |none=>simp
   |some b=>
    simp only[a4M];generalize aC P (Op.equalIn d e a b)=r3;cases r3 with
    |none=>simp
    |some r=>
     cases r with
     |false=>simp only[a4M,aal,a2k];rfl
     |true=>simp only[a4M,a9f,a2u,a3q];exact ih
abbrev DN(k:IntKind)(l:List Int):Array Value:=(l.map fun x=>Value.int k x).toArray
theorem PN{k:IntKind}{l:List Int}{i:Nat}(h:i<l.length):(DN k l)[i]? = some (.int k l[i]):=by
 simp[DN,h]
theorem KY{d:Nat}{e:TypeId}{k k':IntKind}(hu:P.underlying e=some (.int k'))(hg:aC P (isAgg e)=some false)(l l':List Int)(hl:l.length=l'.length):∀(m i:Nat),i+m=l.length->aC P (a3O (d+1) e 1 (DN k l) (DN k l') (List.range' i m))=some (decide (l.drop i=l'.drop i))
 | 0,i,h=>by
  rw[agq (by omega),agq (by omega)];rfl
 |m+1,i,h=>by
  have h1:i<l.length:=by omega
  have h2:i<l'.length:=by omega
  rw[List.range'_succ];simp only[a3O,ahc];rw[bK,DL hg (PN h1),a4M,bK,DL hg (PN h2),a4M,bK,rM d e k k' _ _ hu,a4M];rw[a6p h1,a6p h2];by_cases hc:l[i]=l'[i]
  .have:=KY (d:=d) (k:=k) hu hg l l' hl m (i+1) (by omega);simp only[hc,beq_self_eq_true,a9f,a2u,a3q,this,aek,true_and]
  have:(l[i]==l'[i])=false:=by simpa using hc
  simp only[this,aal,a2k,aek,hc,false_and,decide_false];rfl
theorem BP(d:Nat){t e:TypeId}{n:Nat}{k k':IntKind}(ht:P.underlying t=some (.array n e))(hs:aC P (sizeOf e)=some 1)(hu:P.underlying e=some (.int k'))(hg:aC P (isAgg e)=some false){l l':List Int}(hl:l.length=n)(hl':l'.length=n) :
  aC P (Op.equalIn (d+2) t (.agg (DN k l)) (.agg (DN k l')))=some (decide (l=l')):=by
 rw[Jz (d+1) _ _ ht hs,KY hu hg l l' (by omega) n 0 (by omega),aaC,aaC]
end
end Tw
namespace Go.Proofs.YtmobpoiejckagaaGreat
open Go Tw Pv bZ
abbrev oI(k ex:Bool)(l:List Int):PB aG:=.list k ex 3 l
abbrev wOI(f:Nat)(a c:List (PV aG))(k ex:Bool)(R:List (PB aG))(l:List Int)(i:Int)(x:List (Nat×PE aG)):aS aG:=⟨[(0,.val (.own 0)),(1,.val (.fn f a c)),(7,xi l.length),(8,xi i)]++x,[],oI k ex l::R⟩
def zOI(f:Nat)(a c:List (PV aG))(k ex:Bool)(R:List (PB aG))(l:List Int):Unit⊕(Nat×Int×Unit)->Ex×aS aG
 |.inl _=>(.exit 0,wOI f a c k ex R l l.length [(9,xl false)])
 |.inr r=>(.ret,⟨[(4,xi r.1)],[],oI k ex l::R⟩)
theorem qoI{n f:Nat}{a c:List (PV aG)}{ko ex:Bool}{R:List (PB aG)}{g:Int->Bool}(l:List Int)(hf:∀x∈l,aW X0 Qp (bT n) (.fn f a c) [.int .i64 x] (oI ko ex l::R) (.bool (g x)) (oI ko ex l::R))(hl:l.length<=ah):aW X0 Qp (bT (n+1)) (.fn 218 [] []) [.own 0,.fn f a c] (oI ko ex l::R) (iA.put (rW g l)) (oI ko ex l::R):=by
 have lp:Px n 218 0 (R.length+1) (wOI f a c ko ex R l 0 []) (zOI f a c ko ex R l (ni (ql g) l 0 ())).1 (zOI f a c ko ex R l (ni (ql g) l 0 ())).2:=
  Xq (st:=fun i _=>wOI f a c ko ex R l i []) (0:Int) (fun _ _=>True) (by kernel_rfl) hl QU trivial (fun k s n hk _ ih=>aO gy (.b (bF hk) (.o (aH hk) (.k (hf (l.getD k (0:Int)) (dB hk)) (.ls (.ou nofun) (.nx (ih _ trivial))))))) (fun s _=>aO gy (.b (fF l.length) (.ou nofun)))
 exact jy gy (first:=[]) (cap:=[]) (.szh (fun h=>.w (kM lp () h) .sr) (fun h=>.w (kN lp (0,0,()) h) .sr))
theorem qoC{n f:Nat}{a c:List (PV aG)}{ko ex:Bool}{R:List (PB aG)}{g:Int->Bool}(l:List Int)(hf:∀x∈l,aW X0 Qp (bT n) (.fn f a c) [.int .i64 x] (oI ko ex l::R) (.bool (g x)) (oI ko ex l::R))(hl:l.length<=ah):aW X0 Qp (bT (n+2)) (.fn 181 [] []) [.own 0,.fn f a c] (oI ko ex l::R) (tA.put (l.any g)) (oI ko ex l::R):=by
 have h1:=qoI l hf hl;have h2:=Ep g l;rw[<-h2];exact jy gy (first:=[]) (cap:=[]) (.k h1 .sr)
abbrev Hk(k ex:Bool)(l:List Int):List (PB aG):=[oI k ex l,.cells [.own 0]]
theorem qoA{n f:Nat}{ko ex:Bool}{g:Int->Bool}(l:List Int)(hf:∀x∈l,aW X0 Qp (bT n) (.fn f [] [.ptr 1 0 1]) [.int .i64 x] (Hk ko ex l) (tA.put (g x)) (Hk ko ex l))(hl:l.length<=ah):aW X0 Qp (bT (n+4)) (.fn 191 [] []) [.own 0,.fn f [] [.ptr 1 0 1]] (Hk ko ex l) (tA.put (l.all g)) (Hk ko ex l):=by
 have h1:∀x∈l,aW X0 Qp (bT (n+1)) (.fn 221 [] [.ptr 2 0 1]) [.int .i64 x] (Hk ko ex l++[.cells [.fn f [] [.ptr 1 0 1]]]) (tA.put (!(g x))) (Hk ko ex l++[.cells [.fn f [] [.ptr 1 0 1]]]):=fun x hx=>
  jy gy (first:=[]) (.fr [0,1] (hf x hx) .sr)
 have h2:=qoC (R:=[.cells [.own 0],.cells [.fn f [] [.ptr 1 0 1]]]) l h1 hl;rw[<-Eu l g];exact aW.drop hX (Dn hX gy (first:=[]) (cap:=[]) (H1:=Hk ko ex l++[.cells [.fn f [] [.ptr 1 0 1]]]) (by kernel_rfl) (.k h2 .sr)) rfl rfl
theorem a7t{n:Nat}{ko ex:Bool}(l:List Int)(hl:l.length<=ah):aW X0 Qp (bT (n+5)) (.fn 191 [] []) [.own 0,.fn 224 [] [.ptr 1 0 1]] (Hk ko ex l) (tA.put (l.all fun x=>x==l.getD 0 0)) (Hk ko ex l):=
 qoA (n:=n+1) l (fun x hx=>jy gy (first:=[]) (.o (show gJ 0 l.length from⟨by omega,by have:=List.length_pos_of_mem hx;omega⟩) .sr)) hl
theorem a7u:∀l:List Int,l.length=12->∃a0 a1 a2 a3 a4 a5 a6 a7 a8 a9 a10 a11:Int,l=[a0,a1,a2,a3,a4,a5,a6,a7,a8,a9,a10,a11]
 | [a0,a1,a2,a3,a4,a5,a6,a7,a8,a9,a10,a11],_=>⟨a0,a1,a2,a3,a4,a5,a6,a7,a8,a9,a10,a11,rfl⟩
 | [],h=>by simp at h
 | [_],h=>by simp at h
 | [_,_],h=>by simp at h
 | [_,_,_],h=>by simp at h
 | [_,_,_,_],h=>by simp at h
 | [_,_,_,_,_],h=>by simp at h
 | [_,_,_,_,_,_],h=>by simp at h
 | [_,_,_,_,_,_,_],h=>by simp at h
 | [_,_,_,_,_,_,_,_],h=>by simp at h
 | [_,_,_,_,_,_,_,_,_],h=>by simp at h
 | [_,_,_,_,_,_,_,_,_,_],h=>by simp at h
 | [_,_,_,_,_,_,_,_,_,_,_],h=>by simp at h
 |_::_::_::_::_::_::_::_::_::_::_::_::_::_,h=>by simp at h
abbrev Ky:=Int×{l:List Int // l.length=12}
abbrev Ky.l(x:Ky):List Int:=x.1::x.2.val
theorem PO:∀l:List Int,iQ (Γ:=aG) (l.map fun x=>PV.int .i64 x)=some (l.map fun x=>TV.int .i64 x)
 | []=>rfl
 |a::l=>by simp only[a4D,iQ,rH,PO l]
theorem TF:∀l:List Int,TV.U8 (l.map fun x=>TV.int .i64 x)=some (l.map fun x=>Value.int .i64 x)
 | []=>rfl
 |a::l=>by simp only[a4D,TV.U8,TV.toC,TF l]
theorem afE : Tryz.prog.underlying 223 = some (.struct #[⟨"choice", 3, 0, false, "", "mist/node", 0⟩, ⟨"kids", 221, 1, false, "", "mist/node", 8⟩]) := by kernel_rfl
theorem adq(d:Nat)(a b:Ky):aC Qp (Op.equalIn (d+3) 223 (.agg (DN .i64 a.l)) (.agg (DN .i64 b.l)))=some (decide (a=b)):=by
 obtain⟨a1,a2,ha⟩:=a;obtain⟨b1,b2,hb⟩:=b;rw[yD (d+2) 223 _ _ _ afE (by kernel_rfl)];have gI:aC Qp (isAgg 3)=some false:=by kernel_rfl
 have gA:aC Qp (isAgg 221)=some true:=by kernel_rfl
 have sA:aC Qp (sizeOf 221)=some 12:=by kernel_rfl
 have sI:aC Qp (sizeOf 3)=some 1:=by kernel_rfl
 have p0:∀x l,aC Qp (part 3 (DN .i64 (x::l)) 0)=some (.int .i64 x):=fun x l=>DL gI (PN (l:=x::l) (by simp));have p1:∀x l,l.length=12->aC Qp (part 221 (DN .i64 (x::l)) 1)=some (.agg (DN .i64 l)):=fun x l h=>by
  obtain⟨a0,a1,a2,a3,a4,a5,a6,a7,a8,a9,a10,a11,rfl⟩:=a7u l h
  kernel_rfl
 have q1 := pq (f := ⟨"choice", 3, 0, false, "", "mist/node", 0⟩) (fs := [⟨"kids", 221, 1, false, "", "mist/node", 8⟩]) (by decide) (p0 a1 a2) (p0 b1 b2) (rM (d + 1) _ .i64 _ a1 b1 a3E);have q2 := pq (f := ⟨"kids", 221, 1, false, "", "mist/node", 8⟩) (fs := []) (by decide) (p1 a1 a2 ha) (p1 b1 b2 hb) (BP d (k := .i64) (t := 221) (by kernel_rfl) sI a3E gI ha hb);rw[q1,q2];rw[show aC Qp (Op.eqFields (d+2) (DN .i64 (a1::a2)) (DN .i64 (b1::b2)) [])=some true from rfl];by_cases h1:a1=b1<;>by_cases h2:a2=b2<;>simp[h1,h2]
def kK:pJ X0 Qp 223 Ky where
 pv x:=.agg (x.l.map fun i=>.int .i64 i)
 tv x:=.agg (x.l.map fun i=>.int .i64 i)
 v x:=.agg (DN .i64 x.l)
 hp x:=congrArg (Option.map TV.agg) (PO x.l)
 ht x:=congrArg (Option.map fun vs:List Value=>Value.agg vs.toArray) (TF x.l)
 hc em x:=by
  obtain⟨c,l,h⟩:=x;obtain⟨a0,a1,a2,a3,a4,a5,a6,a7,a8,a9,a10,a11,rfl⟩:=a7u l h
  kernel_rfl
 hf x l:=a1R afE (fun a b=>adq 9997 a b) x l
 hk:=a1T afE (fun a b=>adq 9997 a b)
open Go Tw Pv bZ
def Ic(l:List Int):List Int:=(l++[0,0,0,0,0,0,0,0,0,0,0,0]).take 12
theorem a7v(l:List Int):(Ic l).length=12:=by unfold Ic;simp
def uo(c:Int)(ks:List Int):Ky:=(c,⟨Ic ks,a7v ks⟩)
abbrev Cm(b:Br):Ky:=uo b.var b.aA
abbrev yV(nd:List Br):List (Ky×PV X0.Γ):=nd.zipIdx.map fun e=>(Cm e.1,.int .i64 (e.2:Nat))
theorem TG(nd:List Br):(yV nd).map (·.1)=nd.map Cm:=by
 unfold yV;rw[a5D];show nd.zipIdx.map (Cm∘fun e=>e.1)=_;rw[<-a5D];simp
theorem a7w(nd:List Br)(b:Br):yV (nd++[b])=yV nd++[(Cm b,.int .i64 (nd.length:Nat))]:=by
 unfold yV;rw[List.zipIdx_append,a4C];simp
theorem a7x{nd:List Br}{k:Ky}(h:k∈nd.map Cm):(k,(.int .i64 ((nd.map Cm).idxOf k:Nat):PV X0.Γ))∈yV nd:=by
 have hl:=a4S.2 h;have Rq:(nd.map Cm).idxOf k<nd.length:=by simpa using hl
 unfold yV;rw[a0H];refine⟨(nd[(nd.map Cm).idxOf k],(nd.map Cm).idxOf k),by rw[a9w];simp[a0b Rq],?_⟩;have:=a8N hl;rw[a9e]at this;show(Cm _,_)=_;rw[this]
def dD(nd:List Br)(c:Int)(ks:List Int):List Br:=if(ks.all fun x=>x==ks.getD 0 0)=true then nd else if uo c ks∈nd.map Cm then nd else nd++[⟨c,ks⟩]
def eF(nd:List Br)(c:Int)(ks:List Int):Int:=if(ks.all fun x=>x==ks.getD 0 0)=true then ks.getD 0 0 else((nd.map Cm).idxOf (uo c ks):Nat)
abbrev MN(a b:List Int)(E:List V)(nd:List Br)(r:Int):List (PB aG):=MK a b E nd r (kK.es (yV nd))
abbrev MNg(a b:List Int)(E:List V)(nd:List Br)(r:Int)(nm:List (PV aG×PV aG)):List (PB aG):=[.list false false 3 a,.list false false 3 b,.map (kV.es (zQ E)),.map nm,mkC a b 8 9 r,.gone,.gone,.gone,Qz E,QA nd]
abbrev MN'(a b:List Int)(E:List V)(nd:List Br)(r:Int):List (PB aG):=MNg a b E nd r (kK.es (yV nd))
theorem afF{n:Nat}(hO:Ok (n+5) DK){a b:List Int}{E:List V}{nd:List Br}{r:Int}(c:Int)(ks:List Int)(hk:1<=ks.length∧ks.length<=12)(hf:(ks.all fun x=>x==ks.getD 0 0)=true):aW X0 Qp (bT (n+6)) (.fn 198 [] []) [.ptr 4 0 9,.int .i64 c,.own 7] (MN a b E nd r++[oI true true ks]) (.int .i64 (ks.getD 0 0)) (MN' a b E nd r):=by
 have h1:=rU hX hO (first:=[]) (cap:=[]) (xs:=[.ptr 4 0 9,.int .i64 c,.own 7]) (H:=MN a b E nd r++[oI true true ks]) (v:=.int .i64 (ks.getD 0 0)) (H1:=MN a b E nd r++[oI true true ks,.cells [.own 7]]) (f:=198) (by kernel_rfl) (.fr [7,8] (a7t (n:=n) (ko:=true) (ex:=true) ks (m12 hk.2)) (.b hf (.o (show gJ 0 ks.length from⟨by omega,by omega⟩) .er)));exact aW.forget (aW.gs hX h1 [.mv 5,.mv 6,.gc [9,10]] rfl) 7
abbrev a7y(c:Int)(ks:List Int):PB aG:=.cells ((Ky.l (uo c ks)).map fun i=>.int .i64 i)
theorem afG{n:Nat}(hO:Ok (n+5) DK){a b:List Int}{E:List V}{nd:List Br}{r:Int}(c:Int)(ks:List Int)(hk:1<=ks.length∧ks.length<=12)(hf:(ks.all fun x=>x==ks.getD 0 0)=false)(hN:(nd.map Cm).Nodup)(hm:uo c ks∈nd.map Cm):aW X0 Qp (bT (n+6)) (.fn 198 [] []) [.ptr 4 0 9,.int .i64 c,.own 7] (MN a b E nd r++[oI true true ks]) (.int .i64 ((nd.map Cm).idxOf (uo c ks):Nat)) (MN' a b E nd r):=by
 have hF:qG X0 Qp 223 (kK.es (yV nd)) (kK.tv (uo c ks)) (.int .i64 ((nd.map Cm).idxOf (uo c ks):Nat)):=kK.found (by rw[TG];exact hN) (a7x hm);have h1:aW X0 Qp (bT (n+6)) (.fn 198 [] []) [.ptr 4 0 9,.int .i64 c,.own 7] (MN a b E nd r++[oI true true ks]) (.int .i64 ((nd.map Cm).idxOf (uo c ks):Nat)) (MN a b E nd r++[oI true true ks,.cells [.own 7],a7y c ks]):=by
  generalize (nd.map Cm).idxOf (uo c ks)=j at hF ⊢;generalize yV nd=nm at hF ⊢;obtain⟨k1,k2⟩:=hk;rcases ks with _|⟨x0,_|⟨x1,_|⟨x2,_|⟨x3,_|⟨x4,_|⟨x5,_|⟨x6,_|⟨x7,_|⟨x8,_|⟨x9,_|⟨x10,_|⟨x11,_|⟨x12,_⟩⟩⟩⟩⟩⟩⟩⟩⟩⟩⟩⟩⟩<;>first|(exfalso;simp at k1;done)|(exfalso;simp at k2;omega)|(exact fV hO (first:=[]) (cap:=[]) (.fr [7,8] (a7t (n:=n) (ko:=true) (ex:=true) _ (m12 k2)) (.b hf (.c (.int .i64 (j:Nat)) [] hF (.b (rfl:(!true)=false) .er)))))
 exact aW.forget (aW.gs hX (aW.forget h1 9) [.mv 5,.mv 6,.gc [10,11]] rfl) 7
theorem afH{n:Nat}(hO:Ok (n+5) DK){a b:List Int}{E:List V}{nd:List Br}{r:Int}(c:Int)(ks:List Int)(hk:1<=ks.length∧ks.length<=12)(hf:(ks.all fun x=>x==ks.getD 0 0)=false)(hm:uo c ks∉nd.map Cm)(hl:nd.length+1<=ah):aW X0 Qp (bT (n+6)) (.fn 198 [] []) [.ptr 4 0 9,.int .i64 c,.own 7] (MN a b E nd r++[oI true true ks]) (.int .i64 (nd.length:Nat)) (MN' a b E (nd++[⟨c,ks⟩]) r):=by
 have hF:o9 X0 Qp 223 (kK.es (yV nd)) (kK.tv (uo c ks)):=kK.fresh (by rw[TG];exact hm);have hC:=kK.ck (uo c ks);have hL:nd.length+([⟨c,ks⟩]:List Br).length<=ah:=by simpa using hl
 have em:kK.es (yV (nd++[⟨c,ks⟩]))=kK.es (yV nd)++[(kK.pv (uo c ks),.int .i64 (nd.length:Nat))]:=by rw[a7w];exact a4C ..
 show aW X0 Qp _ _ _ _ _ (MNg a b E (nd++[⟨c,ks⟩]) r (kK.es (yV (nd++[⟨c,ks⟩]))));rw[em];have h1:aW X0 Qp (bT (n+6)) (.fn 198 [] []) [.ptr 4 0 9,.int .i64 c,.own 7] (MN a b E nd r++[oI true true ks]) (.int .i64 (nd.length:Nat)) [.list false false 3 a,.list false false 3 b,.map (kV.es (zQ E)),.map (kK.es (yV nd)++[(kK.pv (uo c ks),.int .i64 (nd.length:Nat))]),mkC a b 5 11 r,Qz E,.gone,.gone,.cells [.own 7],a7y c ks,.list true true 105 [⟨c,ks⟩],QA (nd++[⟨c,ks⟩])]:=by
  generalize yV nd=nm at hF ⊢;obtain⟨k1,k2⟩:=hk;rcases ks with _|⟨x0,_|⟨x1,_|⟨x2,_|⟨x3,_|⟨x4,_|⟨x5,_|⟨x6,_|⟨x7,_|⟨x8,_|⟨x9,_|⟨x10,_|⟨x11,_|⟨x12,_⟩⟩⟩⟩⟩⟩⟩⟩⟩⟩⟩⟩⟩<;>first|(exfalso;simp at k1;done)|(exfalso;simp at k2;omega)|(exact fV hO (first:=[]) (cap:=[]) (.fr [7,8] (a7t (n:=n) (ko:=true) (ex:=true) _ (m12 k2)) (.b hf (.q (.bool false) hF (.b (rfl:(!false)=true) (.q (.bool false) hC (.o hF (.o hL .er))))))))
 exact aW.gs hX (aW.forget (aW.forget h1 9) 10) [.mv 5,.gc [12,11]] rfl
theorem akm{n:Nat}(hO:Ok (n+5) DK){a b:List Int}{E:List V}{nd:List Br}{r:Int}(c:Int)(ks:List Int)(hk:1<=ks.length∧ks.length<=12)(hN:(nd.map Cm).Nodup)(hl:nd.length+1<=ah):aW X0 Qp (bT (n+6)) (.fn 198 [] []) [.ptr 4 0 9,.int .i64 c,.own 7] (MN a b E nd r++[oI true true ks]) (.int .i64 (eF nd c ks)) (MN' a b E (dD nd c ks) r):=by
 unfold eF dD;cases hf:ks.all fun x=>x==ks.getD 0 0
 .rw[a0o (by simp),a0o (by simp)];by_cases hm:uo c ks∈nd.map Cm
  .rw[a0u hm];exact afG hO c ks hk hf hN hm
  rw[a0o hm,a8L hm,a4K];exact afH hO c ks hk hf hm hl
 rw[a0u rfl,a0u rfl];exact afF hO c ks hk hf
theorem QV{nd:List Br}{c:Int}{ks:List Int}(h:(nd.map Cm).Nodup):((dD nd c ks).map Cm).Nodup:=by
 unfold dD;split
 .exact h
 split
 .exact h
 rename_i hn;rw[a4C,a99];exact⟨h,by simp,fun x hx y hy=>by simp at hy;subst hy;intro e;subst e;exact hn hx⟩
open Go Tw Pv bZ
theorem apl{n:Nat}(hO:Ok n DK)(a b:List Int)(ha:a.length<=ah)(hb:b.length<=ah):aW X0 Qp (bT (n+1)) (.fn 194 [] []) [.agg [.dF 3 a false,.dF 3 b false]] [] (.ptr 4 0 9) (MN a b [] [] 0):=
 aW.gs hX (rU hX hO (first:=[]) (cap:=[]) (v:=.ptr 4 0 9) (H1:=[.list false false 3 a,.list false false 3 b,.map [],.map [],.cells [.dF 3 a false,.dF 3 b false,.own 0,.own 1,.nil .slc,.nil .slc,.int .i64 0,.map 2,.map 3]]) (by kernel_rfl) (.o ha (.o hb .er))) [.UL 4 4 39,.UL 4 5 105] rfl
structure Cs where
 e:List V
 n:List Br
 k:List (Int×Int)
abbrev LM(k:List (Int×Int)):List (Int×PV X0.Γ):=k.map fun p=>(p.1,.int .i64 p.2)
abbrev pC:List (PV aG):=[.ptr 8 0 1,.ptr 7 0 7,.ptr 10 0 1,.ptr 11 0 1]
abbrev adr(l:Lo)(k:List (Int×Int)):List (PB aG):=[.aF l.ps,.aF [.ptr 4 0 9],.map (kI.es (LM k)),.aF [.map 9],.aF [.fn 195 [] pC]]
abbrev HC(l:Lo)(x:Cs):List (PB aG):=MN l.s l.o x.e x.n 0++adr l x.k
abbrev HC'(l:Lo)(x:Cs):List (PB aG):=[.list false false 3 l.s,.list false false 3 l.o,.map (kV.es (zQ x.e)),.map (kK.es (yV x.n)),mkC l.s l.o 12 13 0,.gone,.gone]++adr l x.k++[Qz x.e,QA x.n]
def qp(d:Dg)(r:Int):V:=d.aI.getD (i64.wrap (-1-r)).toNat V0
def Vk(k:List (Int×Int))(r:Int):Int:=((k.find? fun p=>p.1==r).getD (0,0)).2
def cu(d:Dg):Nat->Int->Cs->Int×Cs
 | 0,_,x=>(0,x)
 |F+1,r,x=>if decide (r<0)=true then(i64.wrap (-1-(x.e.idxOf (qp d r):Nat)),⟨gV x.e (qp d r),x.n,x.k⟩)else if decide (r∈x.k.map (·.1))=true then(Vk x.k r,x)
  else
   let y:=aT (fun j (y:List Int×Cs)=>(y.1.set j (cu d F ((ay d r).aA.getD j 0) y.2).1,(cu d F ((ay d r).aA.getD j 0) y.2).2)) (ay d r).aA.length 0 (List.replicate (ay d r).aA.length 0,x)
   (eF y.2.n (ay d r).var y.1,⟨y.2.e,dD y.2.n (ay d r).var y.1,y.2.k++[(r,eF y.2.n (ay d r).var y.1)]⟩)
structure DR(d:Dg)(x:Cs):Prop where
 e1:x.e.Nodup
 e2:∀v∈x.e,v∈d.aI
 n1:(x.n.map Cm).Nodup
 n2:x.n.length<=x.k.length
 k1:(x.k.map (·.1)).Nodup
 k2:∀a∈x.k.map (·.1),gJ a d.au.length
theorem DR.Ju{d:Dg}{x:Cs}(h:DR d x):x.k.length<=d.au.length:=by
 have:=zO _ _ h.k1 h.k2;simpa using this
theorem DR.akn{d:Dg}{x:Cs}(h:DR d x):x.e.length<=d.aI.length:=adN h.e1 h.e2
theorem XV(nd:List Br)(c:Int)(ks:List Int):(dD nd c ks).length<=nd.length+1:=by
 unfold dD;split
 .omega
 split
 .omega
 simp
theorem a1U{k:List (Int×Int)}{r:Int}(h:r∈k.map (·.1)):(r,Vk k r)∈k:=by
 rw[a0H]at h;obtain⟨p,hp,rfl⟩:=h;unfold Vk;cases e:k.find? fun q=>q.1==p.1 with
 |none=>have:=adO.1 e p hp;simp at this
 |some q=>
  have h1:=aeA e;have h2:=List.find?_some e;simp at h2;rw[<-h2];exact h1
theorem a7z{d:Dg}{r:Int}(h:gJ (i64.wrap (-1-r)) d.aI.length):qp d r∈d.aI:=by
 have h1:(i64.wrap (-1-r)).toNat<d.aI.length:=by have:=h.1;have:=h.2;omega
 unfold qp;simp[List.getD,a0b h1]
theorem Ie{d:Dg}(P:Cs->Prop){F:Nat}{r:Int}{x:Cs}(h:P x)(hs:∀j y,j<(ay d r).aA.length->P y->P (cu d F ((ay d r).aA.getD j 0) y).2) :
  (aT (fun j (y:List Int×Cs)=>(y.1.set j (cu d F ((ay d r).aA.getD j 0) y.2).1,(cu d F ((ay d r).aA.getD j 0) y.2).2)) (ay d r).aA.length 0 (List.replicate (ay d r).aA.length 0,x)).1.length=(ay d r).aA.length∧P (aT (fun j (y:List Int×Cs)=>(y.1.set j (cu d F ((ay d r).aA.getD j 0) y.2).1,(cu d F ((ay d r).aA.getD j 0) y.2).2)) (ay d r).aA.length 0 (List.replicate (ay d r).aA.length 0,x)).2:=
 dw (g:=fun j (y:List Int×Cs)=>(y.1.set j (cu d F ((ay d r).aA.getD j 0) y.2).1,(cu d F ((ay d r).aA.getD j 0) y.2).2)) (m:=(ay d r).aA.length) (k:=0) (s:=(List.replicate (ay d r).aA.length 0,x)) (fun _ y=>y.1.length=(ay d r).aA.length∧P y.2) ⟨by simp,h⟩ (fun j y _ hj hy=>⟨by simp[hy.1],hs j y.2 (by omega) hy.2⟩)
theorem XW{d:Dg}:∀(F:Nat) (r s:Int) (x:Cs),r<s->s∉x.k.map (·.1)->0<=s->(∀i,i<d.au.length->∀k,k<(fB d i).aA.length->(fB d i).aA.getD k 0<i)->(0<=r->gJ r d.au.length)->s∉(cu d F r x).2.k.map (·.1)
 | 0,_,_,_,_,h,_,_,_=>h
 |F+1,r,s,x,hr,h,h0,hk,hn=>by
  unfold cu;by_cases c:r<0
  .rw[a0u (by simpa using c)];exact h
  rw[a0o (by simpa using c)];split
  .exact h
  have hi:=hn (by omega);have Eb:∀k,k<(ay d r).aA.length->(ay d r).aA.getD k 0<r:=fun k kT=>by
   obtain⟨i1,i2⟩:=hi;have h9:(ay d r).aA.getD k 0<(r.toNat:Int):=hk r.toNat (by omega) k kT;omega
  have:=(Ie (d:=d) (fun y=>s∉y.k.map (·.1)) (F:=F) (r:=r) h (fun j y hj hy=>XW F _ s y (by have:=Eb j hj;omega) hy h0 hk fun h5=>⟨h5,by have:=hi.2;have:=Eb j hj;omega⟩)).2;simp only[a4C,a2L,adJ];exact⟨this,by simp;omega⟩
theorem PS{d:Dg}(h:C9 d):∀(F:Nat) (r:Int) (x:Cs),DR d x->jD d r d.au.length->DR d (cu d F r x).2
 | 0,_,_,hx,_=>hx
 |F+1,r,x,hx,hr=>by
  unfold cu;by_cases c:r<0
  .rw[a0u (by simpa using c)];refine⟨Vj hx.e1,fun v hv=>?_,hx.n1,hx.n2,hx.k1,hx.k2⟩;have hv:v∈gV x.e (qp d r):=hv;unfold gV at hv;split at hv
   .exact hx.e2 v hv
   rcases a2L.1 hv with hv|hv
   .exact hx.e2 v hv
   rw[a2D.1 hv];exact a7z (hr.2 c)
  rw[a0o (by simpa using c)];split
  .exact hx
  rename_i c2;have aQ:r.toNat<d.au.length:=by have:=hr.1;omega
  have Cb:∀k,k<(ay d r).aA.length->(ay d r).aA.getD k 0<r:=fun k kT=>by
   have h9:=(h.zN r.toNat aQ k kT).1;have h9:(ay d r).aA.getD k 0<(r.toNat:Int):=h9;omega
  have hb:=(Ie (d:=d) (fun y=>DR d y∧r∉y.k.map (·.1)) (F:=F) (r:=r) ⟨hx,by simpa using c2⟩ (fun j y hj hy=>by
   have KZ:jD d ((ay d r).aA.getD j 0) d.au.length:=⟨by have:=Cb j hj;have:=hr.1;omega,(h.zN r.toNat aQ j hj).2⟩;refine⟨PS h F _ y hy.1 KZ,XW F _ r y (Cb j hj) hy.2 (by omega) (fun i hi k hk=>(h.zN i hi k hk).1) (fun h5=>⟨h5,by have:=KZ.1;omega⟩)⟩)).2
  obtain⟨hb,yw⟩:=hb;refine⟨hb.e1,hb.e2,QV hb.n1,?_,?_,?_⟩
  .have:=XV (aT (fun j (y:List Int×Cs)=>(y.1.set j (cu d F ((ay d r).aA.getD j 0) y.2).1,(cu d F ((ay d r).aA.getD j 0) y.2).2)) (ay d r).aA.length 0 (List.replicate (ay d r).aA.length 0,x)).2.n (ay d r).var (aT (fun j (y:List Int×Cs)=>(y.1.set j (cu d F ((ay d r).aA.getD j 0) y.2).1,(cu d F ((ay d r).aA.getD j 0) y.2).2)) (ay d r).aA.length 0 (List.replicate (ay d r).aA.length 0,x)).1;have:=hb.n2;simp only[a1t,a3J];omega
  .simp only[a4C,a4D,abV];exact xu hb.k1 yw
  intro a ha;simp only[a4C,a2L,a4D,abV,a2D]at ha;rcases ha with ha|rfl
  .exact hb.k2 a ha
  exact⟨by omega,by omega⟩
open Go Tw Pv bZ
abbrev hCl(l:Lo)(x:Cs)(ks:List Int):List (PB aG):=HC' l x++[oI true true ks]
abbrev wCl(l:Lo)(r:Int)(i:Int)(y:List Int×Cs)(x:List (Nat×PE aG)):aS aG:=⟨[(0,xi r),(1,.val (.ptr 8 0 1)),(3,.val (.ptr 10 0 1)),(4,.val (.ptr 11 0 1)),(9,.loc 0 0),(10,xo 14),(43,xL 3 (ay l.d r).aA),(44,xi (ay l.d r).aA.length),(45,xi i)]++x,[(ay l.d r).ps],hCl l y.2 y.1⟩
theorem lCl{M:Nat}(hO:Ok M DK){d:Dg}{F:Nat}{r:Int}(hk:(ay d r).aA.length<=12)(Q:Cs->Prop){x:Cs}(hx:Q x)(hq:∀j y,j<(ay d r).aA.length->Q y->Q (cu d F ((ay d r).aA.getD j 0) y).2)(hs:∀j y,j<(ay d r).aA.length->Q y->aW X0 Qp (bT M) (.fn 195 [] pC) [.int .i64 ((ay d r).aA.getD j 0)] (HC (yY d) y) (.int .i64 (cu d F ((ay d r).aA.getD j 0) y).1) (HC' (yY d) (cu d F ((ay d r).aA.getD j 0) y).2)) :
  Px M 195 0 12 (wCl (yY d) r 0 (List.replicate (ay d r).aA.length 0,x) []) (.exit 0) (wCl (yY d) r (ay d r).aA.length (aT (fun j (y:List Int×Cs)=>(y.1.set j (cu d F ((ay d r).aA.getD j 0) y.2).1,(cu d F ((ay d r).aA.getD j 0) y.2).2)) (ay d r).aA.length 0 (List.replicate (ay d r).aA.length 0,x)) [(46,xl false)]):=by
 refine yH (σ:=List Int×Cs) (N:=(ay d r).aA.length) (g:=fun j (y:List Int×Cs)=>(y.1.set j (cu d F ((ay d r).aA.getD j 0) y.2).1,(cu d F ((ay d r).aA.getD j 0) y.2).2)) (s0:=(List.replicate (ay d r).aA.length 0,x)) (st:=fun k y=>wCl (yY d) r k y []) (fin:=fun y=>wCl (yY d) r (ay d r).aA.length y [(46,xl false)]) (fun _ y=>y.1.length=(ay d r).aA.length∧Q y.2) (by kernel_rfl) (m12 hk) ⟨by simp,hx⟩ (fun j y hj hy=>⟨by simp[hy.1],hq j y.2 hj hy.2⟩) (fun j y hj hy m e p g=>?_) (fun y _=>aO hO (.b (fF (ay d r).aA.length) .ex));have h1:=hs j y.2 hj hy.2;have h2:gJ j y.1.length:=aH (by rw[hy.1];exact hj);generalize cu d F ((ay d r).aA.getD j 0) y.2=z at h1 g;obtain⟨v,z⟩:=z;exact aO hO (.b (bF hj) (.o (aH hj) (.fr [0,1,2,3,4,12,13,7,8,9,10,11] h1 (.o h2 (.goG [.gc [15,16,14]] g)))))
theorem Ey(k:List (Int×Int)):(LM k).map (·.1)=k.map (·.1):=by
 unfold LM;rw[a5D];rfl
theorem apm{n:Nat}(hO:Ok n DK)(k:Int):aW X0 Qp (bT n) (.fn 197 [] []) [.int .i64 k] [] (iA.put (i64.wrap (-1-k))) []:=
 oN.aaH hX (hO 197 [.int .i64 k] (iA.put (i64.wrap (-1-k))) [] [] (by kernel_rfl) (fun q hq=>by cases hq)) rfl rfl rfl rfl
theorem sCl{N:Nat}(hO:∀m,N<=m->Ok m DK){d:Dg}(h:C9 d)(he:d.aI.length+1<=ah)(hn:d.au.length+1<=ah)(h1k:∀i,i<d.au.length->1<=(fB d i).aA.length):∀(F:Nat) (r:Int) (x:Cs),r+1<F->DR d x->jD d r d.au.length->1<=F->aW X0 Qp (bT (N+F+6)) (.fn 195 [] pC) [.int .i64 r] (HC (yY d) x) (.int .i64 (cu d F r x).1) (HC' (yY d) (cu d F r x).2)
 | 0,r,x,_,_,_,h1=>by omega
 |F+1,r,x,hF,hx,hr,_=>by
  rw[show N+(F+1)+6=N+F+6+1 by omega];have G7:=hO (N+F+6) (by omega);have Gq:=hO (N+F+5) (by omega);unfold cu;by_cases c:r<0
  .have t0:decide (r<0)=true:=(by simpa using c);rw[a0u t0];have hi:gJ (i64.wrap (-1-r)) d.aI.length:=hr.2 c;have hs:=apj Gq (a:=d.aj) (b:=d.aB) (E:=x.e) (nd:=x.n) (r:=0) (nm:=kK.es (yV x.n)) (qp d r) hx.e1 (by have:=hx.akn;omega);exact fV G7 (first:=[]) (.b t0 (.fr [] (apm G7 r) (.o hi (.fr [0,1,2,3,4,5,6] hs .er))))
  have t0:decide (r<0)=false:=by simpa using c
  rw[a0o (by rw[t0];simp)];have aQ:r.toNat<d.au.length:=by have:=hr.1;omega
  by_cases c2:r∈x.k.map (·.1)
  .rw[a0u (by simpa using c2)];have hf:qG X0 Qp 3 (kI.es (LM x.k)) (kI.tv r) (.int .i64 (Vk x.k r)):=kI.found (by rw[Ey];exact hx.k1) (a0H.2 ⟨(r,Vk x.k r),a1U c2,rfl⟩);generalize Vk x.k r=v at hf ⊢;exact aW.gs hX (rU hX G7 (first:=[]) (H1:=HC (yY d) x) (v:=.int .i64 v) (by kernel_rfl) (.b t0 (.c (.int .i64 v) [] hf (.b (rfl:true=true) .er)))) [.mv 5,.mv 6] rfl
  rw[a0o (by simpa using c2)];have Cb:∀k,k<(ay d r).aA.length->(ay d r).aA.getD k 0<r:=fun k kT=>by
   have h9:=(h.zN r.toNat aQ k kT).1;have h9:(ay d r).aA.getD k 0<(r.toNat:Int):=h9;omega
  have KZ:∀j,j<(ay d r).aA.length->jD d ((ay d r).aA.getD j 0) d.au.length:=fun j hj=>⟨by have:=Cb j hj;have:=hr.1;omega,(h.zN r.toNat aQ j hj).2⟩;have KA:(ay d r).aA.length<=12:=h.Ju r.toNat aQ;have hq:∀j y,j<(ay d r).aA.length->(DR d y∧r∉y.k.map (·.1))->DR d (cu d F ((ay d r).aA.getD j 0) y).2∧r∉(cu d F ((ay d r).aA.getD j 0) y).2.k.map (·.1):=fun j y hj hy=>
   ⟨PS h F _ y hy.1 (KZ j hj),XW F _ r y (Cb j hj) hy.2 (by omega) (fun i hi k hk=>(h.zN i hi k hk).1) (fun h5=>⟨h5,by have:=(KZ j hj).1;omega⟩)⟩
  have hl:=lCl G7 (d:=d) (F:=F) (r:=r) KA (fun y=>DR d y∧r∉y.k.map (·.1)) (x:=x) ⟨hx,c2⟩ hq (fun j y hj hy=>sCl hO h he hn h1k F _ y (by have:=Cb j hj;omega) hy.1 (KZ j hj) (by omega));obtain⟨g1,g2,g3⟩:=Ie (d:=d) (fun y=>DR d y∧r∉y.k.map (·.1)) (F:=F) (r:=r) (x:=x) ⟨hx,c2⟩ hq;generalize aT (fun j (y:List Int×Cs)=>(y.1.set j (cu d F ((ay d r).aA.getD j 0) y.2).1,(cu d F ((ay d r).aA.getD j 0) y.2).2)) (ay d r).aA.length 0 (List.replicate (ay d r).aA.length 0,x)=y at hl g1 g2 g3;obtain⟨ks,e,nd,kn⟩:=y;have g1:ks.length=(ay d r).aA.length:=g1;have F8:1<=ks.length∧ks.length<=12:=by rw[g1];exact⟨h1k r.toNat aQ,KA⟩
  have hN:nd.length+1<=ah:=by have:=g2.Ju;have:=g2.n2;simp at *;omega
  have hs:=akm (n:=N+F) Gq (a:=d.aj) (b:=d.aB) (E:=e) (nd:=nd) (r:=0) (ay d r).var ks F8 g2.n1 hN;have f0:o9 X0 Qp 3 (kI.es (LM x.k)) (kI.tv r):=kI.fresh (by rw[Ey];exact c2);have f1:o9 X0 Qp 3 (kI.es (LM kn)) (kI.tv r):=kI.fresh (by rw[Ey];exact g3);have f2:=kI.ck r;show aW X0 Qp _ _ _ _ (.int .i64 (eF nd (ay d r).var ks)) (HC' (yY d) ⟨e,dD nd (ay d r).var ks,kn++[(r,eF nd (ay d r).var ks)]⟩);generalize eF nd (ay d r).var ks=v at hs ⊢;generalize dD nd (ay d r).var ks=nd' at hs ⊢;have em:kI.es (LM (kn++[(r,v)]))=kI.es (LM kn)++[(kI.pv r,.int .i64 v)]:=by
   show List.map _ (List.map _ (kn++[(r,v)]))=_;rw[a4C,a4C];rfl
  have f3:qG X0 Qp 3 (kI.es (LM kn)++[(kI.pv r,.int .i64 v)]) (kI.tv r) (.int .i64 v):=by
   rw[<-em];exact kI.found (by rw[Ey,a4C];exact xu g2.k1 g3) (a0H.2 ⟨(r,v),by simp,rfl⟩)
  have hi:gJ r d.au.length:=⟨by omega,hr.1⟩;have hm:((ay d r).aA.length:Int)<=(ah:Int):=by have:=m12 KA;omega
  show aW X0 Qp _ _ _ _ _ ([_,_,_,_,_,_,_]++[_,_,.map (kI.es (LM (kn++[(r,v)]))),_,_]++[_,_]);rw[em];exact aW.gs hX (rU hX G7 (first:=[]) (v:=.int .i64 v) (H1:=[.list false false 3 d.aj,.list false false 3 d.aB,.map (kV.es (zQ e)),.map (kK.es (yV nd')),mkC d.aj d.aB 15 16 0,.gone,.gone,.aF (yY d).ps,.aF [.ptr 4 0 9],.map (kI.es (LM kn)++[(kI.pv r,.int .i64 v)]),.aF [.map 9],.aF [.fn 195 [] pC],.gone,.gone,.gone,Qz e,QA nd']) (by kernel_rfl) (.b t0 (.q (.bool false) f0 (.b (rfl:false=false) (.o hi (.o (show((ay d r).aA.length:Int)=((ay d r).aA.length:Int)from rfl) (.o (show(0:Int)<=((ay d r).aA.length:Int) by omega) (.o hm (.wG [.mv 5,.mv 6,.gc [13,14,12]] hl (.fr [0,1,2,3,4,12,13,14] hs (.q (.bool false) f2 (.o f1 (.c (.int .i64 v) [] f3 .er))))))))))))) [.gc [15,16]] rfl
open Go Tw Pv bZ
abbrev PU(a b:List V)(k:Nat):Bool:=!(decide (a.getD k V0=b.getD k V0))
abbrev afI(a b:List V)(i:Int)(x:List (Nat×PE aG)):aS aG:=⟨[(0,xL 39 a),(1,xL 39 b),(12,xi a.length),(13,xi i)]++x,[],[]⟩
def z227(a b:List V):Unit⊕Nat->Ex×aS aG
 |.inl _=>(.exit 0,afI a b a.length [(14,xl false)])
 |.inr _=>(.ret,⟨[(4,xl false)],[],[]⟩)
theorem ako{n:Nat}{fM:fA aG}(hO:Ok n fM)(a b:List V)(hl:a.length<=ah)(h:a.length=b.length):Lp n 227 0 (afI a b 0 []) (z227 a b (bG (PU a b) a.length)).1 (z227 a b (bG (PU a b) a.length)).2:=
 jh (st:=fun i _=>afI a b i []) (fun _ _=>True) (by kernel_rfl) hl trivial (fun k s m hk _ ih=>aO hO (.b (bF hk) (.o (aH hk) (.o (aH (h▸hk)) (.q (.bool (!(decide (a.getD k V0=b.getD k V0)))) (neV (.tmp 19) (.tmp 23) (a.getD k V0) (b.getD k V0)) (.ls (.ou nofun) (.nx (ih _ trivial)))))))) (fun s _=>aO hO (.b (fF a.length) (.ou nofun)))
theorem aaM{a b:List V}(h:a.length=b.length):a=b↔∀j,j<a.length->a.getD j V0=b.getD j V0:=by
 constructor
 .rintro rfl j _;rfl
 intro h2;apply a9o h;intro j h3 h4;have:=h2 j h3;simpa[List.getD,a0b h3,a0b h4]using this
theorem PW{a b:List V}(h:a.length=b.length):jZ (bG (PU a b) a.length)=decide (a=b):=by
 rw[a4T,dI,a0N,aaM h];simp[PU]
theorem aaN{α:Type}[DecidableEq α]{a b:List α}(h:((a.length:Int) != (b.length:Int))=true):decide (a=b)=false:=by
 rw[a2H];rintro rfl;simp at h
def ads:fA aG:=cO 227 (a2 vsA vsA) tA (fun p=>decide (p.1=p.2)) (fun p=>[p.1.length<=ah]) DK
theorem akp:Gd ads:=adn.add fun n hO p hp=>aN hO (.s (fun h=>.v false (aaN h).symm) fun h=>.z (c:=jZ (bG (PU p.1 p.2) p.1.length)) (fun h2=>.w (kM (ako hO p.1 p.2 (hp _ (.head _)) (lZ h)) () h2) (.v true (by rw[<-PW (lZ h),h2]))) fun h2=>.w (kN (ako hO p.1 p.2 (hp _ (.head _)) (lZ h)) 0 h2) (.v false (by rw[<-PW (lZ h),h2])))
def Vl(x y:Br):Bool:=if(x.var==y.var)=true then decide (x.aA=y.aA)else false
def a7A:fA aG:=cO 226 (a2 brA brA) tA (fun p=>Vl p.1 p.2) (fun p=>[p.1.aA.length<=ah]) ads
theorem akq:Gd a7A:=akp.add fun n hO p hp=>aN hO (.ss (.o (hp _ (.head _)) .rr) .rr)
abbrev wEB(a b:List Br)(i:Int)(x:List (Nat×PE aG)):aS aG:=⟨[(1,xL 105 b),(2,.val (.fn 226 [] [])),(15,xL 105 a),(16,xi a.length),(17,xi i)]++x,[],[]⟩
abbrev cEB(a b:List Br)(k:Nat):Bool:=!(Vl (a.getD k kW) (b.getD k kW))
def zEB(a b:List Br):Unit⊕Nat->Ex×aS aG
 |.inl _=>(.exit 0,wEB a b a.length [(18,xl false)])
 |.inr k=>(.ret,⟨[(6,xl false)],[(a.getD k kW).ps,(b.getD k kW).ps],[]⟩)
theorem lEB{n:Nat}(hO:Ok n a7A)(a b:List Br)(hl:a.length<=ah)(h:a.length=b.length)(hk:∀k,k<a.length->(a.getD k kW).aA.length<=ah):Lp n 228 0 (wEB a b 0 []) (zEB a b (bG (cEB a b) a.length)).1 (zEB a b (bG (cEB a b) a.length)).2:=
 jh (st:=fun i _=>wEB a b i []) (fun _ _=>True) (by kernel_rfl) hl trivial (fun k s m kT _ ih=>aO hO (.b (bF kT) (.o (aH kT) (.o (aH (h▸kT)) (.o (hk k kT) (.ls (.ou nofun) (.nx (ih _ trivial)))))))) (fun s _=>aO hO (.b (fF a.length) (.ou nofun)))
def Ig(a b:List Br):Bool:=if((a.length:Int) != (b.length:Int))=true then false else if jZ (bG (cEB a b) a.length)=true then true else false
def adt:fA aG:=cO 228 (a3 aaq aaq (fnA 226)) tA (fun p=>Ig p.1 p.2.1) (fun p=>[p.1.length<=ah,∀k,k<p.1.length->(p.1.getD k kW).aA.length<=ah]) a7A
theorem akr:Gd adt:=akq.add fun n hO p hp=>aN hO (.sh (fun _=>.rr) fun h=>.zh (fun h2=>.w (kM (lEB hO p.1 p.2.1 (hp _ (.head _)) (lZ h) (hp (∀k,k<p.1.length->(p.1.getD k kW).aA.length<=ah) (.tail _ (.head _)))) () h2) .rr) fun h2=>.w (kN (lEB hO p.1 p.2.1 (hp _ (.head _)) (lZ h) (hp (∀k,k<p.1.length->(p.1.getD k kW).aA.length<=ah) (.tail _ (.head _)))) 0 h2) .rr)
def Ih(a b:Dg):Bool:=if decide (a.aj=b.aj)=true then(if decide (a.aB=b.aB)=true then(if decide (a.aI=b.aI)=true then(if Ig a.au b.au=true then a.root==b.root else false)else false)else false)else false
def adu:fA aG:=cO 203 (a2 dA dA) tA (fun p=>Ih p.1 p.2) (fun p=>[p.1.aj.length<=ah,p.1.aB.length<=ah,p.1.aI.length<=ah,p.1.au.length<=ah,∀k,k<p.1.au.length->(p.1.au.getD k kW).aA.length<=ah]) adt
theorem aks:Gd adu:=akr.add fun n hO p hp=>aN hO (.o (hp _ (.head _)) (.ss (.o (hp _ (.tail _ (.head _))) (.ss (.o (hp _ (.tail _ (.tail _ (.head _)))) (.ss (.o (hp _ (.tail _ (.tail _ (.tail _ (.head _))))) (.o (hp (∀k,k<p.1.au.length->(p.1.au.getD k kW).aA.length<=ah) (.tail _ (.tail _ (.tail _ (.tail _ (.head _)))))) (.ss .rr .rr))) .rr)) .rr)) .rr))
theorem XY{x y:Br}:Vl x y=true↔x=y:=by
 obtain⟨a,b⟩:=x;obtain⟨c,e⟩:=y;unfold Vl;simp only[Br.mk.injEq];by_cases h:a=c<;>simp[h]
theorem a3P{a b:List Br}:Ig a b=true↔a=b:=by
 unfold Ig;by_cases h:a.length=b.length
 .rw[a0o (by simp;omega)];have e:jZ (bG (cEB a b) a.length)=true↔a=b:=by
   rw[dI];constructor
   .intro h1;apply a9o h;intro j h3 h4;have:=h1 j h3;simp only[cEB,abU]at this;have:=XY.1 this;simpa[List.getD,a0b h3,a0b h4]using this
   rintro rfl j _;simp only[cEB,abU];exact XY.2 rfl
  rw[<-e];cases jZ (bG (cEB a b) a.length)<;>simp
 rw[a0u (by simp;omega)];constructor
 .intro h1;cases h1
 rintro rfl;exact absurd rfl h
theorem a1V{a b:Dg}:Ih a b=true↔a=b:=by
 obtain⟨a1,a2,a3,a4,a5⟩:=a;obtain⟨b1,b2,b3,b4,b5⟩:=b;unfold Ih;simp only[Dg.mk.injEq];by_cases h1:a1=b1
 .by_cases h2:a2=b2
  .by_cases h3:a3=b3
   .have h4:=a3P (a:=a4) (b:=b4);cases e:Ig a4 b4
    .rw[e]at h4;simp[h1,h2,h3];intro h5;exact absurd h5 (by simpa using h4)
    rw[e]at h4;simp at h4;simp[h1,h2,h3,h4]
   simp[h3]
  simp[h2]
 simp[h1]
open Go Tw Pv bZ
def xM(s:List Int×List Int)(x:Int):Int:=if x<0 then i64.wrap (-1-(s.2.idxOf (jL x):Nat))else(s.1.idxOf x:Nat)
def W9(s:List Int×List Int)(x:Int):Prop:=(x<0->jL x∈s.2)∧(0<=x->x∈s.1)
def KS(d:Dg)(s:List Int×List Int):Cs:=⟨s.2.map fun e=>d.aI.getD e.toNat V0,s.1.map fun o=>⟨(ay d o).var,(ay d o).aA.map (xM s)⟩,s.1.map fun o=>(o,xM s o)⟩
def JA(d:Dg)(s:List Int×List Int):Prop:=∀o∈s.1,∀k∈(ay d o).aA,W9 s k
theorem Vm{s:List Int×List Int}{x:Int}(l:List Int)(h:W9 s x):xM (s.1,s.2++l) x=xM s x:=by
 unfold xM;split
 .rename_i c;rw[a9R,a0u (h.1 c)]
 rfl
theorem Ii{s:List Int×List Int}{x:Int}(l:List Int)(h:W9 s x):xM (s.1++l,s.2) x=xM s x:=by
 unfold xM;split
 .rfl
 rename_i c;rw[a9R,a0u (h.2 (by omega))]
theorem afK{d:Dg}{s:List Int×List Int}(hk:JA d s)(hn:∀o∈s.1,0<=o)(e:Int):KS d (s.1,s.2++[e])=⟨(KS d s).e++[d.aI.getD e.toNat V0],(KS d s).n,(KS d s).k⟩:=by
 unfold KS;simp only[a4C,a4D,abV,Cs.mk.injEq,true_and];constructor
 .apply a4V;intro o ho;congr 1;apply a4V;intro k kT;exact Vm [e] (hk o ho k kT)
 apply a4V;intro o ho;rw[Vm [e] ⟨fun c=>absurd (hn o ho) (by omega),fun _=>ho⟩]
theorem aaO{d:Dg}{s:List Int×List Int}(hk:JA d s)(hn:∀o∈s.1,0<=o){r:Int}(h0:0<=r)(hr:r∉s.1)(KZ:∀k∈(ay d r).aA,W9 s k):KS d (s.1++[r],s.2)=⟨(KS d s).e,(KS d s).n++[⟨(ay d r).var,(ay d r).aA.map (xM s)⟩],(KS d s).k++[(r,(s.1.length:Int))]⟩:=by
 unfold KS;simp only[a4C,a4D,abV,Cs.mk.injEq,true_and];refine⟨?_,?_⟩
 .congr 1
  .apply a4V;intro o ho;congr 1;exact a4V fun k kT=>Ii [r] (hk o ho k kT)
  congr 2;exact a4V fun k kT=>Ii [r] (KZ k kT)
 congr 1
 .apply a4V;intro o ho;rw[Ii [r] ⟨fun c=>absurd (hn o ho) (by omega),fun _=>ho⟩]
 congr 2;unfold xM;rw[a0o (by omega)];simp[a9R,hr]
theorem akt{a b:Nat}(ha:a<=2^61)(hb:b<=2^61)(h:i64.wrap (-1-(a:Int))=i64.wrap (-1-(b:Int))):a=b:=by
 rw[fJ (by omega) (by omega),fJ (by omega) (by omega)]at h;omega
theorem a1W{l:List Int}{a b:Int}(ha:a∈l)(hb:b∈l)(h:l.idxOf a=l.idxOf b):a=b:=by
 have h1:=a8N (a4S.2 ha);have h2:=a8N (a4S.2 hb);rw[<-h1,<-h2];congr 1
theorem a7B{x y:Int}(hx:G9 x)(hy:G9 y)(cx:x<0)(cy:y<0)(h:jL x=jL y):x=y:=by
 unfold jL at h;rw[Na hx cx,Na hy cy]at h;omega
theorem a1X{s:List Int×List Int}(hs:s.2.length<=2^61){x y:Int}(hx:W9 s x)(hy:W9 s y)(wx:G9 x)(wy:G9 y)(h:xM s x=xM s y):x=y:=by
 have lt:∀z,z∈s.2->s.2.idxOf z<=2^61:=fun z hz=>a5e (a9n (a4S.2 hz)) hs;unfold xM at h;by_cases cx:x<0
 .rw[a0u cx]at h;by_cases cy:y<0
  .rw[a0u cy]at h;exact a7B wx wy cx cy (a1W (hx.1 cx) (hy.1 cy) (akt (lt _ (hx.1 cx)) (lt _ (hy.1 cy)) h))
  rw[a0o cy]at h;have:=lt _ (hx.1 cx);rw[fJ (by omega) (by omega)]at h;omega
 rw[a0o cx]at h;by_cases cy:y<0
 .rw[a0u cy]at h;have:=lt _ (hy.1 cy);rw[fJ (by omega) (by omega)]at h;omega
 rw[a0o cy]at h;exact a1W (hx.2 (by omega)) (hy.2 (by omega)) (by omega)
open Go Tw Pv bZ
def Ext(s t:List Int×List Int):Prop:=∃a b,t=(s.1++a,s.2++b)
theorem Ext.refl(s:List Int×List Int):Ext s s:=⟨[],[],by simp⟩
theorem Ext.trans{s t u:List Int×List Int}(h:Ext s t)(h2:Ext t u):Ext s u:=by
 obtain⟨a,b,rfl⟩:=h;obtain⟨c,e,rfl⟩:=h2;exact⟨a++c,b++e,by simp⟩
theorem W9.ext{s t:List Int×List Int}{x:Int}(h:W9 s x)(he:Ext s t):W9 t x:=by
 obtain⟨a,b,rfl⟩:=he;exact⟨fun c=>a5s _ (h.1 c),fun c=>a5s _ (h.2 c)⟩
theorem aaP{s t:List Int×List Int}{x:Int}(h:W9 s x)(he:Ext s t):xM t x=xM s x:=by
 have hc:=h;obtain⟨a,b,rfl⟩:=he;have h2:W9 (s.1,s.2++b) x:=⟨fun c=>a5s _ (h.1 c),h.2⟩;rw[<-Vm b h,<-Ii a h2]
theorem TI{α β:Type}{g1:Nat->α->α}{g2:Nat->β->β}(R:Nat->α->β->Prop):∀(m k:Nat) (a:α) (b:β),R k a b->(∀j a b,k<=j->j<k+m->R j a b->R (j+1) (g1 j a) (g2 j b))->R (k+m) (aT g1 m k a) (aT g2 m k b)
 | 0,_,_,_,h,_=>h
 |m+1,k,a,b,h,hs=>by
  have:=TI R m (k+1) (g1 k a) (g2 k b) (hs k a b (a0x _) (by omega) h) (fun j a b h1 h2=>hs j a b (by omega) (by omega));rw[show k+(m+1)=k+1+m by omega];exact this
theorem a1Y{α β:Type}[BEq α][LawfulBEq α][BEq β][LawfulBEq β]{f:α->β}{a:α}:∀{l:List α},(∀b∈l,f b=f a->b=a)->(l.map f).idxOf (f a)=l.idxOf a
 | [],_=>rfl
 |c::l,h=>by
  rw[a4D,adT,adT,a1Y fun b hb=>h b (a2U _ hb)];by_cases hc:c=a
  .subst hc;simp
  have:¬(f c=f a):=fun e=>hc (h c (.head _) e);rw[show(c==a)=false by simpa using hc,show(f c==f a)=false by simpa using this]
structure DgD(d:Dg):Prop where
 aI:d.aI.Nodup
 au:∀i j,i<d.au.length->j<d.au.length->(fB d i).var=(fB d j).var->(fB d i).aA=(fB d j).aA->i=j
 flat:∀i,i<d.au.length->((fB d i).aA.all fun x=>x==(fB d i).aA.getD 0 0)=false
theorem XZ{d:Dg}(h:d.aI.Nodup){a b:Int}(ha:gJ a d.aI.length)(hb:gJ b d.aI.length)(e:d.aI.getD a.toNat V0=d.aI.getD b.toNat V0):a=b:=by
 have h1:a.toNat<d.aI.length:=by have:=ha.1;have:=ha.2;omega
 have h2:b.toNat<d.aI.length:=by have:=hb.1;have:=hb.2;omega
 simp only[List.getD,a0b h1,a0b h2,a5i]at e;have:=(aa2 h).1 e;have:=ha.1;have:=hb.1;omega
theorem afL{d:Dg}(hd:DgD d){s:List Int×List Int}(hs:Jv d s){r:Int}(hr:gJ (jL r) d.aI.length):(KS d s).e.idxOf (qp d r)=s.2.idxOf (jL r)∧(qp d r∈(KS d s).e↔jL r∈s.2):=by
 have hi:∀b∈s.2,(fun e:Int=>d.aI.getD e.toNat V0) b=(fun e:Int=>d.aI.getD e.toNat V0) (jL r)->b=jL r:=fun b hb e=>XZ hd.aI (hs.e2 b hb) hr e;refine⟨a1Y (f:=fun e:Int=>d.aI.getD e.toNat V0) (a:=jL r) hi,?_⟩;constructor
 .intro h;obtain⟨b,hb,e⟩:=a0H.1 h;rw[<-hi b hb e];exact hb
 intro h;exact a0H.2 ⟨jL r,h,rfl⟩
theorem afM{d:Dg}{s:List Int×List Int}{r:Int}(h:r∈s.1):Vk (KS d s).k r=xM s r:=by
 have h1:r∈(KS d s).k.map (·.1):=by
  unfold KS;rw[a5D];exact a0H.2 ⟨r,h,rfl⟩
 have h2:=a1U h1;obtain⟨o,_,e⟩:=a0H.1 h2;have e1:o=r:=congrArg Prod.fst e;have e2:xM s o=Vk (KS d s).k r:=congrArg Prod.snd e;rw[<-e2,e1]
theorem aaQ{a b:List Int}(h:a.length=b.length)(ha:a.length<=12)(e:Ic a=Ic b):a=b:=by
 unfold Ic at e;have:=congrArg (List.take a.length) e;rw[afr,afr,a7E ha,List.take_append_of_le_length (a0x _),List.take_append_of_le_length (by omega),aaE,h,aaE]at this;exact this
theorem map_inj{α β:Type}{f:α->β}:∀{a b:List α},(∀x∈a,∀y∈b,f x=f y->x=y)->a.map f=b.map f->a=b
 | [],[],_,_=>rfl
 | [],_::_,_,h=>by simp at h
 |_::_,[],_,h=>by simp at h
 |x::a,y::b,hi,h=>by
  simp only[a4D,aek]at h;rw[hi x (.head _) y (.head _) h.1,map_inj (fun u hu v hv=>hi u (a2U _ hu) v (a2U _ hv)) h.2]
open Go Tw Pv bZ
structure Alk(d:Dg)(F:Nat)(r:Int)(s:List Int×List Int):Prop where
 eq:cu d F r (KS d s)=(xM (jW d F r s) r,KS d (jW d F r s))
 aA:JA d (jW d F r s)
 cov:W9 (jW d F r s) r
 ext:Ext s (jW d F r s)
theorem adw{d:Dg}(h:C9 d)(hw:Ew d)(hd:DgD d)(he:d.aI.length<=2^61):∀(F:Nat) (r:Int) (s:List Int×List Int),r+1<F->Jv d s->JA d s->jD d r d.au.length->1<=F->Alk d F r s
 | 0,r,s,_,_,_,_,h1=>by omega
 |F+1,r,s,hF,hs,hk,hr,_=>by
  have hn:∀o∈s.1,0<=o:=fun o ho=>(hs.n2 o ho).1;by_cases c:r<0
  .have t0:decide (r<0)=true:=(by simpa using c);obtain⟨q1,q2⟩:=afL hd hs (hr.2 c);have e1:cu d (F+1) r (KS d s)=(i64.wrap (-1-((KS d s).e.idxOf (qp d r):Nat)),⟨gV (KS d s).e (qp d r),(KS d s).n,(KS d s).k⟩):=by unfold cu;rw[a0u t0]
   by_cases c2:jL r∈s.2
   .have e2:jW d (F+1) r s=s:=by unfold jW;rw[a0u t0,a0o (by simpa using c2)]
    refine⟨?_,by rw[e2];exact hk,by rw[e2];exact⟨fun _=>c2,fun h0=>by omega⟩,by rw[e2];exact .refl s⟩;rw[e1,e2,q1,show gV (KS d s).e (qp d r)=(KS d s).e from a0u (q2.2 c2)];unfold xM;rw[a0u c]
   have e2:jW d (F+1) r s=(s.1,s.2++[jL r]):=by unfold jW;rw[a0u t0,a0u (by simpa using c2)]
   have hc:W9 (s.1,s.2++[jL r]) r:=⟨fun _=>by simp,fun h0=>by omega⟩;have hx:Ext s (s.1,s.2++[jL r]):=⟨[],[jL r],by simp⟩;refine⟨?_,by rw[e2];exact fun o ho k kT=>(hk o ho k kT).ext hx,by rw[e2];exact hc,by rw[e2];exact hx⟩;rw[e1,e2,q1,afK hk hn,show gV (KS d s).e (qp d r)=(KS d s).e++[qp d r]from a0o (fun e=>c2 (q2.1 e))];unfold xM;rw[a0u c];simp[a9R,c2,a8L c2,qp]
  have t0:¬(decide (r<0)=true):=by simpa using c
  have yt:(KS d s).k.map (·.1)=s.1:=by unfold KS;rw[a5D];exact List.map_id _
  by_cases c2:r∈s.1
  .have e2:jW d (F+1) r s=s:=by unfold jW;rw[a0o t0,a0u (by simpa using c2)]
   have e1:cu d (F+1) r (KS d s)=(Vk (KS d s).k r,KS d s):=by unfold cu;rw[a0o t0,a0u (by rw[yt];simpa using c2)]
   refine⟨?_,by rw[e2];exact hk,by rw[e2];exact⟨fun h0=>absurd h0 c,fun _=>c2⟩,by rw[e2];exact .refl s⟩;rw[e1,e2,afM c2]
  have aQ:r.toNat<d.au.length:=by have:=hr.1;omega
  have Cb:∀k,k<(ay d r).aA.length->(ay d r).aA.getD k 0<r:=fun k kT=>by
   have h9:=(h.zN r.toNat aQ k kT).1;have h9:(ay d r).aA.getD k 0<(r.toNat:Int):=h9;omega
  have KZ:∀j,j<(ay d r).aA.length->jD d ((ay d r).aA.getD j 0) d.au.length:=fun j hj=>⟨by have:=Cb j hj;have:=hr.1;omega,(h.zN r.toNat aQ j hj).2⟩;have a6T:=TI (g1:=fun j (y:List Int×Cs)=>(y.1.set j (cu d F ((ay d r).aA.getD j 0) y.2).1,(cu d F ((ay d r).aA.getD j 0) y.2).2)) (g2:=fun k y=>jW d F ((ay d r).aA.getD k 0) y)
   (fun j (y:List Int×Cs) (t:List Int×List Int)=>y=(((ay d r).aA.take j).map (xM t)++List.replicate ((ay d r).aA.length-j) 0,KS d t)∧Jv d t∧JA d t∧Ext s t∧r∉t.1∧∀i,i<j->W9 t ((ay d r).aA.getD i 0)) (ay d r).aA.length 0 (List.replicate (ay d r).aA.length 0,KS d s) s ⟨by simp,hs,hk,.refl s,c2,fun i hi=>by omega⟩ (fun j y t _ hj hy=>by
    obtain⟨rfl,y1,y2,y3,y4,y5⟩:=hy;have hj:j<(ay d r).aA.length:=(by omega);have ih:=adw h hw hd he F _ t (by have:=Cb j hj;omega) y1 y2 (KZ j hj) (by omega);have YJ:=a7g F ((ay d r).aA.getD j 0) r t (Cb j hj) y4 (by omega) (fun i hi k hk=>(h.zN i hi k hk).1) (fun h5=>⟨h5,by have:=(KZ j hj).1;omega⟩);have Rl:=KW h F ((ay d r).aA.getD j 0) t y1 (KZ j hj);obtain⟨i1,i2,i3,i4⟩:=ih;simp only[i1];generalize jW d F ((ay d r).aA.getD j 0) t=u at i2 i3 i4 YJ Rl ⊢;refine⟨?_,Rl,i2,y3.trans i4,YJ,fun i hi=>?_⟩
    .simp only[a0w,and_true];have hl:(List.map (xM t) (List.take j (ay d r).aA)).length=j:=by rw[a4K,a3I];omega
     rw[show(ay d r).aA.length-j=((ay d r).aA.length-(j+1))+1 by omega,ae6,List.set_append_right _ _ (by rw[hl];exact a0x j)];rw[hl,ah0,List.set_cons_zero,a6t hj,a4C,a5t];congr 1
     .apply a4V;intro x hx;obtain⟨i,hi,rfl⟩:=a4U.1 hx;have Am:i<j:=by simp at hi;omega
      have:=y5 i Am;rw[su (l:=(ay d r).aA) (show i<(ay d r).aA.length by omega)]at this;rw[List.getElem_take];exact(aaP this i4).symm
     .rw[su hj];rfl
    .by_cases Am:i<j
     .exact(y5 i Am).ext i4
     .rw[show i=j by omega];exact i3)
  have e1:cu d (F+1) r (KS d s)=(eF (aT (fun j (y:List Int×Cs)=>(y.1.set j (cu d F ((ay d r).aA.getD j 0) y.2).1,(cu d F ((ay d r).aA.getD j 0) y.2).2)) (ay d r).aA.length 0 (List.replicate (ay d r).aA.length 0,KS d s)).2.n (ay d r).var (aT (fun j (y:List Int×Cs)=>(y.1.set j (cu d F ((ay d r).aA.getD j 0) y.2).1,(cu d F ((ay d r).aA.getD j 0) y.2).2)) (ay d r).aA.length 0 (List.replicate (ay d r).aA.length 0,KS d s)).1,⟨(aT (fun j (y:List Int×Cs)=>(y.1.set j (cu d F ((ay d r).aA.getD j 0) y.2).1,(cu d F ((ay d r).aA.getD j 0) y.2).2)) (ay d r).aA.length 0 (List.replicate (ay d r).aA.length 0,KS d s)).2.e,dD (aT (fun j (y:List Int×Cs)=>(y.1.set j (cu d F ((ay d r).aA.getD j 0) y.2).1,(cu d F ((ay d r).aA.getD j 0) y.2).2)) (ay d r).aA.length 0 (List.replicate (ay d r).aA.length 0,KS d s)).2.n (ay d r).var (aT (fun j (y:List Int×Cs)=>(y.1.set j (cu d F ((ay d r).aA.getD j 0) y.2).1,(cu d F ((ay d r).aA.getD j 0) y.2).2)) (ay d r).aA.length 0 (List.replicate (ay d r).aA.length 0,KS d s)).1,(aT (fun j (y:List Int×Cs)=>(y.1.set j (cu d F ((ay d r).aA.getD j 0) y.2).1,(cu d F ((ay d r).aA.getD j 0) y.2).2)) (ay d r).aA.length 0 (List.replicate (ay d r).aA.length 0,KS d s)).2.k++[(r,eF (aT (fun j (y:List Int×Cs)=>(y.1.set j (cu d F ((ay d r).aA.getD j 0) y.2).1,(cu d F ((ay d r).aA.getD j 0) y.2).2)) (ay d r).aA.length 0 (List.replicate (ay d r).aA.length 0,KS d s)).2.n (ay d r).var (aT (fun j (y:List Int×Cs)=>(y.1.set j (cu d F ((ay d r).aA.getD j 0) y.2).1,(cu d F ((ay d r).aA.getD j 0) y.2).2)) (ay d r).aA.length 0 (List.replicate (ay d r).aA.length 0,KS d s)).1)]⟩):=by
   rw[cu,a0o t0,a0o (by rw[yt];simpa using c2)]
  have e2:jW d (F+1) r s=((aT (fun k y=>jW d F ((ay d r).aA.getD k 0) y) (ay d r).aA.length 0 s).1++[r],(aT (fun k y=>jW d F ((ay d r).aA.getD k 0) y) (ay d r).aA.length 0 s).2):=by
   rw[jW,a0o t0,a0o (by simpa using c2)]
  generalize aT (fun j (y:List Int×Cs)=>(y.1.set j (cu d F ((ay d r).aA.getD j 0) y.2).1,(cu d F ((ay d r).aA.getD j 0) y.2).2)) (ay d r).aA.length 0 (List.replicate (ay d r).aA.length 0,KS d s)=y at a6T e1;generalize aT (fun k y=>jW d F ((ay d r).aA.getD k 0) y) (ay d r).aA.length 0 s=t at a6T e2;obtain⟨rfl,f2,f3,f4,f5,f6⟩:=a6T;rw[a3H]at f6;simp only[a3H,aaE,ah0,List.replicate_zero,a5R]at e1;have a7C:∀k∈(ay d r).aA,W9 t k:=fun k kT=>by
   obtain⟨i,hi,rfl⟩:=a4U.1 kT;have:=f6 i hi
   rwa [su hi]at this
  have hW:∀o,0<=o->gJ o d.au.length->∀k∈(ay d o).aA,G9 k:=fun o _ ho k kT=>by
   obtain⟨i,hi,rfl⟩:=a4U.1 kT;have:=hw.zN o.toNat (by have:=ho.1;have:=ho.2;omega) i hi
   rwa [su hi]at this
  have hrI:gJ r d.au.length:=⟨by omega,hr.1⟩;have hel:t.2.length<=2^61:=a5e f2.len.2 he;have adx:((ay d r).aA.map (xM t)).all (fun x=>x==((ay d r).aA.map (xM t)).getD 0 0)=false:=by
   cases e:((ay d r).aA.map (xM t)).all (fun x=>x==((ay d r).aA.map (xM t)).getD 0 0)
   .rfl
   exfalso;have hf:=hd.flat r.toNat aQ;rw[List.all_eq_false]at hf;obtain⟨x,hx,hx2⟩:=hf;have hx:x∈(ay d r).aA:=hx;have h0:0<(ay d r).aA.length:=List.length_pos_of_mem hx;rw[a4R]at e;have:=e (xM t x) (a0H.2 ⟨x,hx,rfl⟩);rw[su (by simpa using h0),a9e]at this;have h00:(ay d r).aA[0]∈(ay d r).aA:=a4Q h0;have:=a1X hel (a7C x hx) (a7C _ h00) (hW r (by omega) hrI x hx) (hW r (by omega) hrI _ h00) (by simpa using this);apply hx2;have h9:(fB d r.toNat).aA.getD 0 0=(ay d r).aA[0]:=su h0;rw[h9,this];simp
  have aeK:uo (ay d r).var ((ay d r).aA.map (xM t))∉(KS d t).n.map Cm:=by
   intro hm;unfold KS at hm;rw[a5D]at hm;obtain⟨o,ho,e⟩:=a0H.1 hm;have Zm:=f2.n2 o ho;have RJ:o.toNat<d.au.length:=by have:=Zm.1;have:=Zm.2;omega
   have ev:(fB d o.toNat).var=(fB d r.toNat).var:=congrArg Prod.fst e;have ep:Ic ((ay d o).aA.map (xM t))=Ic ((ay d r).aA.map (xM t)):=congrArg (fun z:Ky=>z.2.val) e;have hlen:((fB d o.toNat).aA.length:Int)=((fB d r.toNat).aA.length:Int):=(by rw[h.ksz _ RJ,h.ksz _ aQ,ev]);have hlen:(ay d o).aA.length=(ay d r).aA.length:=by exact_mod_cast hlen
   have em:=aaQ (by simpa using hlen) (by rw[a4K];exact h.Ju _ RJ) ep;have ek:=map_inj (fun x hx y hy e=>a1X hel (f3 o ho x hx) (a7C y hy) (hW o Zm.1 Zm x hx) (hW r (by omega) hrI y hy) e) em;have:=hd.au _ _ RJ aQ ev ek;have:o=r:=by have:=Zm.1;omega
   exact f5 (this▸ho)
  have hnl:(KS d t).n.length=t.1.length:=by unfold KS;simp
  have hR:eF (KS d t).n (ay d r).var ((ay d r).aA.map (xM t))=(t.1.length:Int):=by
   unfold eF;rw[adx,a0o (by simp),a8L aeK,a4K,hnl]
  have hS:dD (KS d t).n (ay d r).var ((ay d r).aA.map (xM t))=(KS d t).n++[⟨(ay d r).var,(ay d r).aA.map (xM t)⟩]:=by
   unfold dD;rw[adx,a0o (by simp),a0o aeK]
  have hx:Ext t (t.1++[r],t.2):=⟨[r],[],by simp⟩;have hc:W9 (t.1++[r],t.2) r:=⟨fun h0=>absurd h0 c,fun _=>by simp⟩;refine⟨?_,?_,by rw[e2];exact hc,by rw[e2];exact f4.trans hx⟩
  .rw[e1,e2,hR,hS,aaO f3 (fun o ho=>(f2.n2 o ho).1) (by omega) f5 a7C];unfold xM;rw[a0o c];simp[a9R,f5]
  rw[e2];intro o ho k kT;rcases a2L.1 ho with ho|ho
  .exact(f3 o ho k kT).ext hx
  rw[a2D.1 ho]at kT;exact(a7C k kT).ext hx
open Go Tw Pv bZ
theorem Y0(b:Br):DI b=b.aA.all fun x=>x==b.aA.getD 0 0:=by
 have e:jZ (Tf (PG b) 1 (max 1 b.aA.length))=true↔∀k,1<=k->k<b.aA.length->b.aA.getD k 0=b.aA.getD 0 0:=by
  unfold Tf gS;rw[Ib (r:=fun k=>k)];constructor
  .intro h k h1 h2;simpa[PG]using h k h1 (by omega)
  intro h k h1 h2;simpa[PG]using h k h1 (by omega)
 have e2:(b.aA.all fun x=>x==b.aA.getD 0 0)=true↔∀k,1<=k->k<b.aA.length->b.aA.getD k 0=b.aA.getD 0 0:=by
  rw[a4R];constructor
  .intro h k _ h2;have:=h _ (dB h2);simpa using this
  intro h x hx;obtain⟨k,hk,rfl⟩:=a4U.1 hx;by_cases h0:k=0
  .subst h0;rw[su hk];simp
  have:=h k (by omega) hk;rw[su hk]at this;rw[this];simp
 have:DI b=true↔(b.aA.all fun x=>x==b.aA.getD 0 0)=true:=by
  rw[e2,<-e];unfold DI;cases jZ (Tf (PG b) 1 (max 1 b.aA.length))<;>simp
 rw[a4T];exact this
theorem afN{d:Dg}:jZ (bG (cD0 d) d.aI.length)=true↔d.aI.Nodup:=by
 rw[dI];have h1:∀i,cD0 d i=false↔∀j,j<i->d.aI.getD j V0≠d.aI.getD i V0:=fun i=>by
  have:jZ (bG (cD1 d i) i)=true↔∀j,j<i->d.aI.getD j V0≠d.aI.getD i V0:=by
   rw[dI];simp[cD1]
  rw[<-this];unfold cD0;cases jZ (bG (cD1 d i) i)<;>simp
 have hg:∀j,(hj:j<d.aI.length)->d.aI.getD j V0=d.aI[j]:=fun j hj=>by simp[List.getD,a0b hj]
 constructor
 .intro h;rw[ac6,acg];intro i j hi hj Am;have:=(h1 j).1 (h j hj) i Am
  rwa [hg i hi,hg j hj]at this
 intro h i hi;rw[h1];intro j hj;rw[ac6,acg]at h;have:=h j i (by omega) hi hj
 rwa [hg i hi,hg j (by omega)]
theorem afO{d:Dg}:jZ (bG (cD2 d) d.au.length)=true↔(∀i j,i<d.au.length->j<d.au.length->(fB d i).var=(fB d j).var->(fB d i).aA=(fB d j).aA->i=j)∧∀i,i<d.au.length->((fB d i).aA.all fun x=>x==(fB d i).aA.getD 0 0)=false:=by
 rw[dI];have h1:∀i,cD2 d i=false↔DI (fB d i)=false∧∀j,j<i->¬((fB d j).var=(fB d i).var∧(fB d j).aA=(fB d i).aA):=fun i=>by
  have h3:∀j,cD3 d i j=false↔¬((fB d j).var=(fB d i).var∧(fB d j).aA=(fB d i).aA):=fun j=>by
   unfold cD3;by_cases hv:(fB d j).var=(fB d i).var
   .rw[a0u (by rw[a6v];exact hv),a2H];exact⟨fun a b=>a b.2,fun a b=>a ⟨hv,b⟩⟩
   rw[a0o (by rw[a6v];exact hv)];exact⟨fun _ a=>hv a.1,fun _=>rfl⟩
  have:jZ (bG (cD3 d i) i)=true↔∀j,j<i->¬((fB d j).var=(fB d i).var∧(fB d j).aA=(fB d i).aA):=by
   rw[dI];exact ac5 fun j=>ac5 fun _=>h3 j
  rw[<-this];unfold cD2;cases DI (fB d i)
  .cases jZ (bG (cD3 d i) i)<;>simp
  simp
 constructor
 .intro h;refine⟨fun i j hi hj hv hk=>?_,fun i hi=>by rw[<-Y0];exact((h1 i).1 (h i hi)).1⟩;rcases Nat.lt_trichotomy i j with Am|Am|Am
  .exact absurd ⟨hv,hk⟩ (((h1 j).1 (h j hj)).2 i Am)
  .exact Am
  exact absurd ⟨hv.symm,hk.symm⟩ (((h1 i).1 (h i hi)).2 j Am)
 intro h i hi;rw[h1];refine⟨by rw[Y0];exact h.2 i hi,fun j hj hc=>?_⟩;have:=h.1 j i (by omega) hi hc.1 hc.2;omega
theorem aaR{d:Dg}:(jZ (bG (cD0 d) d.aI.length)=true∧jZ (bG (cD2 d) d.au.length)=true)↔DgD d:=by
 rw[afN,afO];exact⟨fun h=>⟨h.1,h.2.1,h.2.2⟩,fun h=>⟨h.aI,h.au,h.flat⟩⟩
theorem PX{l:List Int}{m:Nat}:zM l m=true↔l=dU m:=by
 unfold zM;have e:jZ (bG (a7b l) l.length)=true↔∀j,j<l.length->l.getD j 0=(j:Int):=by
  rw[dI];simp[a7b]
 constructor
 .intro h;split at h
  .rename_i h1;have hl:(l.length:Int)=(m:Int):=(by simpa using h);have hl:l.length=m:=(by omega);rw[pI (d:=0) (by rw[mg,hl])];intro j hj;rw[e.1 h1 j hj];have:j<m:=(by omega);simp[dU,List.getD,this]
  cases h
 rintro rfl;rw[a0u (e.2 fun j hj=>by rw[mg]at hj;simp[dU,List.getD,hj]),mg];simp
theorem Y1{d:Dg}:oK d=true↔DgD d∧srN d d.root=dU d.au.length∧srE d d.root=dU d.aI.length:=by
 rw[<-aaR,<-PX,<-PX];unfold oK;cases jZ (bG (cD0 d) d.aI.length)
 .simp
 cases jZ (bG (cD2 d) d.au.length)
 .simp
 cases zM (srN d d.root) (d.au.length:Int)<;>simp
open Go Tw Pv bZ
abbrev cl0:Cs:=⟨[],[],[]⟩
def eX(d:Dg):Dg:=⟨d.aj,d.aB,(cu d 6002 d.root cl0).2.e,(cu d 6002 d.root cl0).2.n,(cu d 6002 d.root cl0).1⟩
theorem Vo{d:Dg}:DR d cl0:=⟨a5v,by simp,a5v,by simp,a5v,by simp⟩
abbrev a7D(b:Br):Bool:=b.aA.all fun x=>x==b.aA.getD 0 0
theorem a1Z{d:Dg}:∀(F:Nat) (r:Int) (x:Cs),(∀b∈x.n,a7D b=false)->∀b∈(cu d F r x).2.n,a7D b=false
 | 0,_,_,h=>h
 |F+1,r,x,h=>by
  unfold cu;split
  .exact h
  split
  .exact h
  have hb:=(Ie (d:=d) (fun y=>∀b∈y.n,a7D b=false) (F:=F) (r:=r) h (fun j y _ hy=>a1Z F _ y hy)).2;intro b QW;simp only[dD]at QW;split at QW
  .exact hb b QW
  rename_i hf;split at QW
  .exact hb b QW
  rcases a2L.1 QW with QW|QW
  .exact hb b QW
  rw[a2D.1 QW];simpa using hf
theorem a3Q{d:Dg}(h:C9 d)(e:eX d=d):DgD d:=by
 have hc:=PS h 6002 d.root cl0 Vo h.root;have hf:=a1Z (d:=d) 6002 d.root cl0 (by simp);have ee:(cu d 6002 d.root cl0).2.e=d.aI:=congrArg Dg.aI e;have en:(cu d 6002 d.root cl0).2.n=d.au:=congrArg Dg.au e;rw[en]at hf;have hg:∀j,(hj:j<d.au.length)->fB d j=d.au[j]:=fun j hj=>by simp[List.getD,a0b hj]
 refine⟨ee▸hc.e1,fun i j hi hj hv hk=>?_,fun i hi=>?_⟩
 .have hn:(d.au.map Cm).Nodup:=en▸hc.n1;have:=(aa2 (i:=i) (j:=j) (h₀:=by simpa using hi) (h₁:=by simpa using hj) hn).1 (by
   rw[a9e,a9e,<-hg i hi,<-hg j hj];show uo _ _=uo _ _;rw[hv,hk])
  exact this
 have:=hf (fB d i) (by rw[hg i hi];exact a4Q hi);exact this
theorem PY{d:Dg}{n m:Nat}{x:Int}(hm:m<=2^61)(hx:G9 x)(hc:W9 (dU n,dU m) x):xM (dU n,dU m) x=x:=by
 have hid:∀(n:Nat) (y:Int),y∈dU n->(((dU n).idxOf y:Nat):Int)=y:=fun n y hy=>by
  have hl:=a4S.2 hy;have h1:=a8N hl;rw[mg]at hl;simp only[dU,a9e,ahe]at h1;exact h1
 unfold xM;by_cases c:x<0
 .rw[a0u c];have h1:=hid m _ (hc.1 c);have h2:jL x=-1-x:=Na hx c;have h3:=a1P (hc.1 c);have h4:=h3.2;rw[show((((dU n,dU m):List Int×List Int).2.idxOf (jL x):Nat):Int)=jL x from h1,h2,fJ (by omega) (by omega)];omega
 rw[a0o c];exact hid n _ (hc.2 (by omega))
theorem Y2{α:Type}(l:List α)(f:Int->α)(h:∀j,(hj:j<l.length)->f j=l[j]):(dU l.length).map f=l:=by
 apply a9o (by simp[dU]);intro j h1 h2;simp[dU,h j h2]
theorem a2a{d:Dg}{j:Nat}(hj:j<d.aI.length):d.aI.getD ((j:Nat):Int).toNat V0=d.aI[j]:=by simp[List.getD,a0b hj]
theorem a2b{l:List Int}{m:Nat}(hl:l.length=m)(h:∀j,(hj:j<l.length)->l[j]=(j:Int)):l=dU m:=by
 apply a9o (by rw[mg,hl]);intro j h1 h2;rw[h j h1];simp[dU]
theorem afP{d:Dg}(h:C9 d)(hw:Ew d)(hd:DgD d)(he:d.aI.length<=2^61){t:List Int×List Int}(ht:Jv d t)(hk:JA d t)(hc:W9 t d.root):((KS d t).e=d.aI∧(KS d t).n=d.au∧xM t d.root=d.root)↔(t.1=dU d.au.length∧t.2=dU d.aI.length):=by
 have hW:∀o,gJ o d.au.length->∀k∈(ay d o).aA,G9 k:=fun o ho k kT=>by
  obtain⟨i,hi,rfl⟩:=a4U.1 kT;have:=hw.zN o.toNat (by have:=ho.1;have:=ho.2;omega) i hi
  rwa [su hi]at this
 have hg:∀j,(hj:j<d.au.length)->ay d (j:Nat)=d.au[j]:=fun j hj=>by simp[List.getD,a0b hj]
 constructor
 .rintro⟨h1,h2,h3⟩;have l1:t.2.length=d.aI.length:=by have:=congrArg List.length h1;simpa[KS]using this
  have l2:t.1.length=d.au.length:=by have:=congrArg List.length h2;simpa[KS]using this
  have e2:t.2=dU d.aI.length:=a2b l1 fun j hj=>by
   have sG:j<d.aI.length:=(by omega);have:(KS d t).e[j]'(by rw[h1];exact sG)=d.aI[j]:=(by simp only[h1]);unfold KS at this;simp only[a9e]at this;rw[<-a2a sG]at this;exact XZ hd.aI (ht.e2 _ (a4Q hj)) (aH sG) this
  have key:∀(N:Nat) (o:Int),o∈t.1->o.toNat<N->xM t o=o:=by
   intro N
   induction N with
   |zero=>intro o _ hN;omega
   |succ N ih=>
    intro o ho hN;have Zm:=ht.n2 o ho;have aQ:=a4S.2 ho;have sG:t.1.idxOf o<d.au.length:=(by omega);have hel:=a8N aQ;have:(KS d t).n[t.1.idxOf o]'(by rw[h2];exact sG)=d.au[t.1.idxOf o]:=(by simp only[h2]);unfold KS at this;simp only[a9e,hel]at this;have hkm:(ay d o).aA.map (xM t)=(ay d o).aA:=by
     conv=>rhs;rw[<-List.map_id (ay d o).aA]
     apply a4V;intro k kT;show xM t k=k;have hcv:=hk o ho k kT;by_cases c:k<0
     .have:=PY (d:=d) (n:=0) (m:=d.aI.length) he (hW o Zm k kT) ⟨fun c=>by have:=hcv.1 c;rwa [e2]at this,fun h0=>by omega⟩;unfold xM at this ⊢;rw[a0u c]at this ⊢;rw[e2];exact this
     obtain⟨i,hi,rfl⟩:=a4U.1 kT;have apq:o.toNat<d.au.length:=by have:=Zm.1;have:=Zm.2;omega
     have h9:=(h.zN o.toNat apq i hi).1;have h9:(ay d o).aA.getD i 0<(o.toNat:Int):=h9;rw[su hi]at h9;exact ih _ (hcv.2 (by omega)) (by omega)
    rw[hkm]at this;have hv:(fB d (t.1.idxOf o)).var=(fB d o.toNat).var:=(by rw[show fB d (t.1.idxOf o)=d.au[t.1.idxOf o]from hg _ sG,<-this]);have yt:(fB d (t.1.idxOf o)).aA=(fB d o.toNat).aA:=(by rw[show fB d (t.1.idxOf o)=d.au[t.1.idxOf o]from hg _ sG,<-this]);have h8:=hd.au _ _ sG (by have:=Zm.1;have:=Zm.2;omega) hv yt;unfold xM;rw[a0o (by have:=Zm.1;omega),h8];have:=Zm.1;omega
  refine⟨a2b l2 fun j hj=>?_,e2⟩;have hm:=a4Q hj;have:=key ((t.1[j]).toNat+1) _ hm (by omega);unfold xM at this;rw[a0o (by have:=(ht.n2 _ hm).1;omega)]at this;rw[<-this];have:t.1.idxOf t.1[j]=j:=by
   have h5:=a4S.2 hm;exact(aa2 (i:=t.1.idxOf t.1[j]) (j:=j) (h₀:=h5) (h₁:=hj) ht.n1).1 (a8N h5)
  rw[this]
 rintro⟨h1,h2⟩;obtain⟨t1,t2⟩:=t;simp only at h1 h2;subst h1 h2;refine⟨?_,?_,PY (d:=d) he hw.root hc⟩
 .exact Y2 d.aI (fun e=>d.aI.getD e.toNat V0) fun j hj=>a2a hj
 refine Y2 d.au _ fun j hj=>?_;have hkm:(ay d (j:Nat)).aA.map (xM (dU d.au.length,dU d.aI.length))=(ay d (j:Nat)).aA:=by
  conv=>rhs;rw[<-List.map_id (ay d (j:Nat)).aA]
  apply a4V;intro k kT;exact PY (d:=d) he (hW _ (aH hj) k kT) (hk _ (by show(j:Int)∈dU _;unfold dU;rw[a0H];exact⟨j,a4L.2 hj,rfl⟩) k kT)
 rw[hkm,hg j hj]
theorem JB{d:Dg}(h:C9 d)(hw:Ew d)(he:d.aI.length<=2^61)(hn:d.au.length<=6000):eX d=d↔oK d=true:=by
 have main:DgD d->(eX d=d↔(srN d d.root=dU d.au.length∧srE d d.root=dU d.aI.length)):=fun hd=>by
  have hr:d.root+1<6002:=by have:=h.root.1;omega
  have ha:=adw h hw hd he 6002 d.root ([],[]) hr sr0 (fun o ho=>by cases ho) h.root (by omega);have hs:=KW h 6002 d.root ([],[]) sr0 h.root;have hi:=afP h hw hd he hs ha.aA ha.cov;have e0:KS d ([],[])=cl0:=rfl;have e1:=ha.eq;rw[e0]at e1;unfold srN srE;rw[<-hi];unfold eX;rw[e1];obtain⟨d1,d2,d3,d4,d5⟩:=d;simp
 rw[Y1];constructor
 .intro e;have hd:=a3Q h e;exact⟨hd,(main hd).1 e⟩
 rintro⟨hd,h2⟩;exact(main hd).2 h2
open Go Tw Pv bZ
abbrev HCw(l:Lo)(x:Cs):List (PB aG):=[.list false false 3 l.s,.list false false 3 l.o,.map (kV.es (zQ x.e)),.map (kK.es (yV x.n)),mkC l.s l.o 12 13 0,.gone,.gone,.cells l.ps,.cells [.ptr 4 0 9],.map (kI.es (LM x.k)),.cells [.map 9],.cells [.fn 195 [] pC],Qz x.e,QA x.n]
structure ClP(l:Lo):Prop where
 s:l.s=l.d.aj
 o:l.o=l.d.aB
 t:C9 l.d
 e:l.d.aI.length+1<=ah
 n:l.d.au.length<=6000
 k:∀i,i<l.d.au.length->1<=(fB l.d i).aA.length
 sl:l.d.aj.length<=ah
 ol:l.d.aB.length<=ah
def ady:fA aG:=cO 161 (a1 loA) dA (fun l=>eX l.d) (fun l=>[ClP l]) adu
theorem aku:Gd ady:=aks.Xu 6010 adn fun n hn hO hOl l hp=>by
 obtain⟨n,rfl⟩:∃k,n=k+6009:=⟨n-6009,by omega⟩;have h:ClP l:=hp _ (.head _);obtain⟨s,o,d⟩:=l;obtain⟨e1,e2,ht,he,hn6,hk,hsl,RJ⟩:=h;obtain rfl:s=d.aj:=e1;obtain rfl:o=d.aB:=e2;have hO':∀m,n+1<=m->Ok m _:=fun m hm=>hOl m (by omega);have he:d.aI.length+1<=ah:=he;have hn6:d.au.length<=6000:=hn6;have hr:=ht.root.1;have hr:d.root<(d.au.length:Int):=hr;have qE:=sCl (N:=n+1) hO' ht he (by unfold ah;omega) hk 6002 d.root cl0 (by omega) Vo ht.root (by omega);have fZ:=apl (n:=n+6008) (hO' _ (by omega)) d.aj d.aB hsl RJ;show oN _ _ _ _ _ (dA.put (eX d)) _;unfold eX;generalize cu d 6002 d.root cl0=z at qE ⊢;obtain⟨v,e,nd,k⟩:=z;exact aN (hO (n+6009) (by omega)) (.fr [] fZ (.QK (H2:=HCw (yY d) ⟨e,nd,k⟩) [1,2,3,4,5,6,7,0,8,9,10,11] [7,8,10,11] qE .rr))
open Go Tw Pv bZ
theorem a2c{d:Dg}(h:C9 d):∀(F:Nat) (r:Int) (x:Cs),(∀b∈x.n,b.aA.length<=12)->jD d r d.au.length->∀b∈(cu d F r x).2.n,b.aA.length<=12
 | 0,_,_,hx,_=>hx
 |F+1,r,x,hx,hr=>by
  unfold cu;by_cases c:r<0
  .rw[a0u (by simpa using c)];exact hx
  rw[a0o (by simpa using c)];split
  .exact hx
  have aQ:r.toNat<d.au.length:=by have:=hr.1;omega
  have hb:=Ie (d:=d) (fun y=>∀b∈y.n,b.aA.length<=12) (F:=F) (r:=r) hx (fun j y hj hy=>a2c h F _ y hy (by
   have h9:=h.zN r.toNat aQ j hj;have h8:=h9.1;have h8:(ay d r).aA.getD j 0<(r.toNat:Int):=h8;exact⟨by have:=hr.1;omega,h9.2⟩))
  intro b QW;simp only[dD]at QW;split at QW
  .exact hb.2 b QW
  split at QW
  .exact hb.2 b QW
  rcases a2L.1 QW with QW|QW
  .exact hb.2 b QW
  rw[a2D.1 QW];show List.length _<=12;rw[hb.1];exact h.Ju r.toNat aQ
theorem xE{d:Dg}(h:Ew d)(he:d.aI.length+1<=ah)(hs:d.aj.length<=ah)(ho:d.aB.length<=ah)(h0:(bH d).2=0):(bH d).1=yY d∧ClP (yY d):=by
 rw[Jw h (by omega)]at h0 ⊢;have h0:aX d=0:=h0;have hc:=iJ ho (show d.aI.length<=ah by omega) (by simp[h0]);have hf:(bV d.aj d.aB != 0)=false:=by
  cases e:bV d.aj d.aB != 0
  .rfl
  unfold aX at h0;rw[a0u e]at h0;simp[h0]at e
 refine⟨by rw[a0o (by rw[hf];simp)],rfl,rfl,hc.1,he,hc.2,fun i hi=>?_,hs,ho⟩;have h1:=hc.1.ksz i hi;have h2:=hc.1.var i hi;have h3:=(Bd hf).sz _ (dB (s:=d.aj) (k:=(fB d i).var.toNat) (by have:=h2.2;have:=h2.1;omega));have h1:((fB d i).aA.length:Int)=d.aj.getD (fB d i).var.toNat 0:=h1;show 1<=(fB d i).aA.length;omega
def uG(d:Dg):Lo×Int:=if(bH d).2==0 then(if(!(Ih (eX (bH d).1.d) d))=true then((bH d).1,4)else bH d)else bH d
theorem a08{d:Dg}(h:C9 d)(hn:d.au.length<=6000):(eX d).aI.length<=d.aI.length∧(eX d).au.length<=6000∧∀b∈(eX d).au,b.aA.length<=12:=by
 have hc:=PS h 6002 d.root cl0 Vo h.root;refine⟨hc.akn,?_,a2c h 6002 d.root cl0 (by simp) h.root⟩;have h1:=hc.Ju;have h2:=hc.n2;show(cu d 6002 d.root cl0).2.n.length<=6000;omega
theorem a3R{d:Dg}(h:Ew d)(hs:d.aj.length<=ah)(ho:d.aB.length<=2^20)(he:d.aI.length+1<=ah)(h0:((bH d).2==0)=true):ClP (bH d).1∧(eX (bH d).1.d).aj.length<=ah∧(eX (bH d).1.d).aB.length<=ah∧(eX (bH d).1.d).aI.length<=ah∧(eX (bH d).1.d).au.length<=ah∧∀k,k<(eX (bH d).1.d).au.length->((eX (bH d).1.d).au.getD k kW).aA.length<=ah:=by
 have ho:d.aB.length<=ah:=by unfold ah;omega
 obtain⟨h1,h2⟩:=xE h he hs ho (by simpa using h0);rw[h1];obtain⟨a,b,c⟩:=a08 h2.t h2.n;refine⟨h2,hs,ho,?_,?_,fun k hk=>?_⟩
 .have a:(eX d).aI.length<=d.aI.length:=a;show(eX d).aI.length<=ah;omega
 .have b:(eX d).au.length<=6000:=b;show(eX d).au.length<=ah;unfold ah;omega
 exact m12 (c _ (XU hk))
def adz:fA aG:=cO 172 (a1 dA) (dQ (a2 loA iA)) (fun p=>uG p) (fun p=>[Ew p,p.aj.length<=ah,p.aB.length<=2^20,p.aI.length+1<=ah]) ady
theorem akv:Gd adz:=aku.add fun n hO p hp=>aN hO (.o (hp _ (.tail _ (.head _))) (.o (hp _ (.tail _ (.tail _ (.head _)))) (.o (by have h9:p.aI.length+1<=ah:=hp _ (.tail _ (.tail _ (.tail _ (.head _))));show p.aI.length<=ah;omega) (.sh (fun h=>have q:=a3R (hp _ (.head _)) (hp _ (.tail _ (.head _))) (hp _ (.tail _ (.tail _ (.head _)))) (hp _ (.tail _ (.tail _ (.tail _ (.head _))))) h;.o q.1 (.o q.2.1 (.o q.2.2.1 (.o q.2.2.2.1 (.o q.2.2.2.2.1 (.o q.2.2.2.2.2 (.ss .rr .rr))))))) fun _=>.rr))))
theorem Ij{d:Dg}(h:Ew d)(hs:d.aj.length<=ah)(ho:d.aB.length<=ah)(he:d.aI.length+1<=ah):uG d=(if(bV d.aj d.aB != 0)=true then lo0 else yY d,iH d):=by
 have h9:=Jw h (show d.aI.length<=ah by omega);unfold uG iH;by_cases h0:(bH d).2=0
 .obtain⟨h1,h2⟩:=xE h he hs ho h0;have h3:=JB h2.t h (show d.aI.length<=2^61 by unfold ah at he;omega) h2.n;have h4:aX d=0:=by rw[h9]at h0;exact h0
  rw[a0u (show((bH d).2==0)=true by simpa using h0),h1,h4,a0o (show ¬(((0:Int) != 0)=true) by simp)];rw[h9]at h1;show(if(!(Ih (eX d) d))=true then(yY d,4)else bH d)=_;have h1:(if(bV d.aj d.aB != 0)=true then lo0 else yY d)=yY d:=h1;rw[h9,h1];by_cases h5:eX d=d
  .rw[a0o (show ¬((!(Ih (eX d) d))=true) by rw[a1V.2 h5];simp),a0o (show ¬((!(oK d))=true) by rw[h3.1 h5];simp),h4]
  have h6:Ih (eX d) d=false:=by
   cases e:Ih (eX d) d
   .rfl
   exact absurd (a1V.1 e) h5
  have h7:oK d=false:=by
   cases e:oK d
   .rfl
   exact absurd (h3.2 e) h5
  rw[a0u (show(!(Ih (eX d) d))=true by rw[h6];rfl),a0u (show(!(oK d))=true by rw[h7];rfl)]
 have h4:¬aX d=0:=by rw[h9]at h0;exact h0
 rw[a0o (show ¬(((bH d).2==0)=true) by simpa using h0),h9,a0u (show(aX d != 0)=true by simpa using h4)]
end Go.Proofs.YtmobpoiejckagaaGreat
namespace Pv
open Go Tw
def yI:Code->Option (Code×Code)
 |.seq a b=>match yI a with
  |some r=>some r
  |none=>yI b
 |.cond _ a b=>match yI a with
  |some r=>some r
  |none=>yI b
 |.block _ b=>yI b
 |.loop b=>yI b
 |.rangeFunc _ _ a b=>some (a,b)
 |_=>none
def xG(P:Program)(f:Nat):Code:=
 match Ud P f with
 |some t=>match yI t.body with
  |some (a,_)=>a
  |none=>.skip
 |none=>.skip
def Bf(P:Program)(f:Nat):Code:=
 match Ud P f with
 |some t=>match yI t.body with
  |some (_,b)=>b
  |none=>.skip
 |none=>.skip
end Pv
namespace Go.Proofs.YtmobpoiejckagaaGreat
open Go Tw Pv bZ
def cellsD(d:Dg):List V:=(List.range (xZ d.aj)).map fun(k:Nat)=>kX d (iw d.aj k)
open Go Tw Pv bZ
def Gf(N:List Br)(c:Int)(ks:List Int):Int:=if(ks.all fun x=>x==ks.getD 0 0)=true then ks.getD 0 0 else(N.idxOf (⟨c,ks⟩:Br):Nat)
def qH(N:List Br)(c:Int)(ks:List Int):List Br:=if(ks.all fun x=>x==ks.getD 0 0)=true then N else if(⟨c,ks⟩:Br)∈N then N else N++[⟨c,ks⟩]
abbrev EN:Type:=List V×List Br
def Cc(f:List Int->EN->Int×EN)(c:Int)(p:List Int)(j:Nat)(y:List Int×EN):List Int×EN:=(y.1++[(f (p.set c.toNat j) y.2).1],(f (p.set c.toNat j) y.2).2)
def iW(s:List Int)(l:List V):List Int->List Int->EN->Int×EN
 | [],p,x=>(i64.wrap (-1-(x.1.idxOf (l.getD (jl s p).toNat V0):Nat)),(gV x.1 (l.getD (jl s p).toNat V0),x.2))
 |c::r,p,x=>
  let y:=aT (Cc (iW s l r) c p) (s.getD c.toNat 0).toNat 0 ([],x)
  (Gf y.2.2 c y.1,(y.2.1,qH y.2.2 c y.1))
def wO(s:List Int):List Int->Nat
 | []=>1
 |c::r=>(s.getD c.toNat 0).toNat*wO s r
theorem Vp{s:List Int}(hs:nX s):∀{o:List Int},(∀c∈o,gJ c s.length)->1<=wO s o
 | [],_=>a0x _
 |c::r,h=>by
  have h1:=Vp hs (o:=r) fun c hc=>h c (by simp[hc]);obtain⟨h2,h3⟩:=h c (by simp);have h4:=hs _ (dB (s:=s) (k:=c.toNat) (by omega));have h5:1*1<=(s.getD c.toNat 0).toNat*wO s r:=aha (by omega) h1;simpa[wO]using h5
theorem a09(E:List V)(v:V):(gV E v).length<=E.length+1:=by
 unfold gV;split<;>simp
theorem a7F(N:List Br)(c:Int)(ks:List Int):(qH N c ks).length<=N.length+1:=by
 unfold qH;split
 .omega
 split<;>simp
theorem aaS{f:List Int->EN->Int×EN}{c:Int}{p:List Int}{n w:Nat}(h:∀q x,(f q x).2.1.length<=x.1.length+w∧(f q x).2.2.length+1<=x.2.length+w)(x:EN):(aT (Cc f c p) n 0 ([],x)).1.length=n∧(aT (Cc f c p) n 0 ([],x)).2.1.length<=x.1.length+n*w∧(aT (Cc f c p) n 0 ([],x)).2.2.length+n<=x.2.length+n*w:=by
 have:=dw (g:=Cc f c p) (m:=n) (k:=0) (s:=([],x)) (fun k y=>y.1.length=k∧y.2.1.length<=x.1.length+k*w∧y.2.2.length+k<=x.2.length+k*w) ⟨rfl,by simp,by simp⟩ (fun j y _ _ hy=>by
  obtain⟨h1,h2,h3⟩:=hy;have:=h (p.set c.toNat j) y.2;refine⟨by simp[Cc,h1],?_,?_⟩
  .simp only[Cc,a3l,ab6];omega
  simp only[Cc,a3l,ab6];omega)
 rw[a3H]at this;exact this
theorem a0a{s:List Int}{l:List V}(hs:nX s):∀(o p:List Int) (x:EN),(∀c∈o,gJ c s.length)->(iW s l o p x).2.1.length<=x.1.length+wO s o∧(iW s l o p x).2.2.length+1<=x.2.length+wO s o
 | [],p,x,_=>by
  have:=a09 x.1 (l.getD (jl s p).toNat V0);exact⟨this,by simp[iW,wO]⟩
 |c::r,p,x,h=>by
  obtain⟨h1,h2,h3⟩:=aaS (f:=iW s l r) (c:=c) (p:=p) (n:=(s.getD c.toNat 0).toNat) (w:=wO s r) (fun q x=>a0a hs r q x fun c hc=>h c (by simp[hc])) x;obtain⟨i1,i2⟩:=h c (by simp);have h4:=hs _ (dB (s:=s) (k:=c.toNat) (by omega));simp only[iW,wO];generalize aT (Cc (iW s l r) c p) (s.getD c.toNat 0).toNat 0 ([],x)=y at h1 h2 h3;refine⟨h2,?_⟩;by_cases hn:(s.getD c.toNat 0).toNat=1
  .have e:qH y.2.2 c y.1=y.2.2:=by
    unfold qH;rw[a0u];rw[hn]at h1
    match hy:y.1,h1 with
    | [a],_=>simp
   rw[e];omega
  have:=a7F y.2.2 c y.1;omega
theorem a7G{α:Type}[DecidableEq α]{l:List α}{d a:α}{c:Nat->Bool}(hc:∀k,k<l.length->c k=decide (l.getD k d=a)):(a∈l->bG c l.length=.inr (l.idxOf a))∧(a∉l->jZ (bG c l.length)=true):=by
 constructor
 .intro h;have hi:=a4S.2 h;have h1:c (l.idxOf a)=true:=by
   rw[hc _ hi,a0N,List.getD,a0b hi,a5i,a8N]
  cases e:jZ (bG c l.length)
  .obtain⟨j,hj,cj,hb,e2⟩:=Ba e;rw[e2];congr 1;rcases Nat.lt_trichotomy j (l.idxOf a)with g|g|g
   .exfalso;rw[hc j hj,a0N,List.getD,a0b hj,a5i]at cj;have:=List.not_of_lt_findIdx (p:=(·==a)) g;rw[cj]at this;simp at this
   .exact g
   rw[hb _ g]at h1;cases h1
  rw[dI.1 e _ hi]at h1;cases h1
 intro h;refine dI.2 fun j hj=>?_;rw[hc j hj,a2H,List.getD,a0b hj,a5i];rintro rfl;exact h (a4Q hj)
structure PtP(s o:List Int)(l:List V):Prop where
 bU:vC s
 ord:∀c∈o,gJ c s.length
 len:(l.length:Int)=bC s
 afQ:o.length<=ah
 slen:s.length<=ah
end Go.Proofs.YtmobpoiejckagaaGreat
namespace Pv
open Go Tw
section
variable {X:l7} {P:Program}
theorem Ez{A:Nat->Prop}{m:List MB}{h:List HB}:∀{a b:List (PV X.Γ)} {z:List TV},bY X P A m h (a++b) z->∃x y,z=x++y∧bY X P A m h a x∧bY X P A m h b y
 | [],b,z,hz=>⟨[],z,rfl,.nil,hz⟩
 |v::a,b,z,hz=>by
  obtain⟨x0,r,rfl,v0,vr⟩:=bY.inv (v:=v) (vs:=a++b) hz;obtain⟨x,y,rfl,h1,h2⟩:=Ez vr;exact⟨x0::x,y,rfl,.cons v0 h1,h2⟩
theorem aW.fz(hX:bP X P){call:bf}{f:FuncId}{cs ws rest xs:List (PV X.Γ)}{H H1:List (PB X.Γ)}{v:PV X.Γ}(is:List Nat)(hs:aW X P call (.fn f [] []) (.agg (ws++rest)::xs) (aZ is H) v H1)(hv:views H cs=some ws)(ho:∀i,i∈lu.kH cs->i∈is):aW X P call (.fn f [] []) (.agg (cs++rest)::xs) H v H1:=by
 intro A m h tf sJ hr hf hx;obtain⟨x0,r,rfl,v0,vr⟩:=hx.inv;cases v0 with
 |gone hi _ _=>simp[bn]at hi
 |agg a1 a2=>
  rename_i cs';have ha:bY X P (AA A m) m h (cs++rest) cs':=⟨a1,a2⟩;obtain⟨c1,c2,rfl,b1,b2⟩:=Ez ha;have hF:=iE (h:=h) is m;have w1:=(lQ (m':=bW is m) hX hr b1 hv ho).mono fun b hb=>FA.gone hr hb;have w2:=b2.step hF.1 hF.2;have w3:=w1.app w2;obtain⟨w,h',Uh,m1,k1,k2,k3,k4,k5,k6⟩:=hs A (bW is m) h tf (.agg (c1++c2)::r) (hr.aZ is) (hf.step hF.1 hF.2) (.cons (.agg w3.1 w3.2) (vr.step hF.1 hF.2));refine⟨w,h',Uh,m1,k1,k2,k3,hF.1.trans k4,hF.2.trans k5,fun b hb=>?_⟩;rcases hF.1.new b (k6 b hb)with g|g
  .exact g
  have:=(hr.aZ is).inb (k6 b hb);omega
end
theorem Good.adA{X:l7}{P:Program}{T:qQ}{L:Nat}{α β:Type}{f:FuncId}{a:V8 X P α}{r:Ar X P β}{S:α->β}{pre:α->List Prop}{fM Xv a7H:fA X.Γ}(d:Nat)(hg:Good X P T L fM)(hg2:Good X P T L Xv)(hg3:Good X P T L a7H)
  (hf:∀n,d<=n->(∀m,n-d<=m->jM X P (lF P T L m) fM)->(∀m,n-d<=m->jM X P (lF P T L m) Xv)->(∀m,n-d<=m->jM X P (lF P T L m) a7H)->∀x,(∀p∈pre x,p)->oN X P (lF P T L (n+1)) f (a.put x) (r.put (S x)) []):Good X P T L (cO f a r S pre fM):=by
 obtain⟨N2,hN2⟩:=hg2;obtain⟨N3,hN3⟩:=hg3;obtain⟨M,hM⟩:=hg;refine⟨M+N2+N3+d+1,fun n hn=>?_⟩;obtain⟨k,rfl⟩:∃k,n=k+1:=⟨n-1,by omega⟩;intro g vs v ext ps ho hp;unfold cO at ho;split at ho
 .rename_i e;have e:=a9d e;subst e;split at ho
  .rename_i x hx;cases ho;intro A h first args cap IL hv
   exact hf k (by omega) (fun m hm=>hM m (by omega)) (fun m hm=>hN2 m (by omega)) (fun m hm=>hN3 m (by omega)) x hp A h first args cap IL (a.ok hx hv)
  .exact hM (k+1) (by omega) g vs v ext ps ho hp
 .exact hM (k+1) (by omega) g vs v ext ps ho hp
end Pv
namespace Go.Proofs.YtmobpoiejckagaaGreat
open Go Tw Pv bZ
def qw(s o:List Int)(l:List V):Dg:=⟨s,o,(iW s l o (List.replicate s.length 0) ([],[])).2.1,(iW s l o (List.replicate s.length 0) ([],[])).2.2,(iW s l o (List.replicate s.length 0) ([],[])).1⟩
theorem PZ:∀{s:List Int},nX s->jK s (List.replicate s.length 0)=true
 | [],_=>rfl
 |a::s,h=>by
  have:=h a (a2S ..);simp only[a4v,ae6,jK,a1D,a0N];exact⟨⟨a9s _,by omega⟩,PZ h.tail⟩
open Go Tw Pv bZ
theorem a7I{a b:List Int}(ha:a.length<=12)(he:a.length=b.length)(h:Ic a=Ic b):a=b:=by
 have e:∀l:List Int,l.length<=12->(Ic l).take l.length=l:=fun l hl=>by
  unfold Ic;rw[afr,a7E hl,List.take_left]
 rw[<-e a ha,<-e b (by omega),h,he]
def NOk(s:List Int)(N:List Br):Prop:=∀b∈N,gJ b.var s.length∧(b.aA.length:Int)=s.getD b.var.toNat 0
theorem a7J{s:List Int}(hs:nX s){N:List Br}(h:NOk s N){c:Int}{ks:List Int}(hc:gJ c s.length)(hk:(ks.length:Int)=s.getD c.toNat 0){b:Br}(hb:b∈N):Cm b=uo c ks↔b=⟨c,ks⟩:=by
 constructor
 .intro e;obtain⟨v,l⟩:=b;have e1:v=c:=congrArg Prod.fst e;subst e1;have e2:Ic l=Ic ks:=congrArg (fun x:Ky=>x.2.1) e;have hl:=(h _ hb).2;have hl:(l.length:Int)=s.getD v.toNat 0:=hl;have hz:=hs _ (dB (s:=s) (k:=v.toNat) (by have:=hc.1;have:=hc.2;omega));rw[a7I (by omega) (by omega) e2]
 rintro rfl;rfl
theorem Y3{s:List Int}(hs:nX s){N:List Br}(h:NOk s N){c:Int}{ks:List Int}(hc:gJ c s.length)(hk:(ks.length:Int)=s.getD c.toNat 0):eF N c ks=Gf N c ks∧dD N c ks=qH N c ks:=by
 have hm:uo c ks∈N.map Cm↔(⟨c,ks⟩:Br)∈N:=by
  rw[a0H];constructor
  .rintro⟨b,hb,e⟩;rw[(a7J hs h hc hk hb).1 e]at hb;exact hb
  intro hb;exact⟨_,hb,rfl⟩
 have hi:(N.map Cm).idxOf (uo c ks)=N.idxOf (⟨c,ks⟩:Br):=by
  clear hm
  induction N with
  |nil=>rfl
  |cons b N ih=>
   have e:=a7J hs h hc hk (b:=b) (by simp);rw[a4D,adT,adT,ih fun b hb=>h b (by simp[hb])];have:(Cm b==uo c ks)=(b==(⟨c,ks⟩:Br)):=by rw[a4T,a6v,a6v];exact e
   rw[this]
 unfold eF Gf dD qH;rw[hi];refine⟨rfl,?_⟩;split
 .rfl
 by_cases g:uo c ks∈N.map Cm
 .rw[a0u g,a0u (hm.1 g)]
 rw[a0o g,a0o fun x=>g (hm.2 x)]
open Go Tw Pv bZ
theorem aaT{s:List Int}{a b:List Int}(h:a.Perm b):wO s a=wO s b:=by
 induction h with
 |nil=>rfl
 |cons x _ ih=>simp only[wO,ih]
 |swap x y l=>simp only[wO];rw[<-Nat.mul_assoc,<-Nat.mul_assoc,Nat.mul_comm (s.getD y.toNat 0).toNat]
 |trans _ _ i1 i2=>rw[i1,i2]
theorem Y4{s:List Int}(hs:nX s):∀(m k:Nat),k+m=s.length->(wO s ((List.range' k m).map fun(j:Nat)=>(j:Int)):Int)=bC (s.drop k)
 | 0,k,h=>by rw[agq (by omega)];rfl
 |m+1,k,h=>by
  have hk:k<s.length:=by omega
  have hz:=hs _ (dB (s:=s) (k:=k) hk);rw[List.range'_succ,a4D,wO,Pj hk,aei,Y4 hs m (k+1) (by omega),a4Z,ah6 (by omega)]
theorem DT{s o:List Int}(hs:nX s)(h:kD s.length o=true):(wO s o:Int)=bC s:=by
 have h':=h;unfold kD at h';rw[a0N]at h';have hi:=Tq s.length;have xQ:=hi;unfold kD at xQ;rw[a0N]at xQ;have hp:o.Perm (dU s.length):=(a6L h'.2.2 xQ.2.2).2 fun a=>⟨fun ha=>mF hi (h'.2.1 a ha),fun ha=>mF h (xQ.2.1 a ha)⟩;rw[aaT hp];have:=Y4 hs s.length 0 (by omega);rw[<-List.range_eq_range']at this;exact this
open Go Tw Pv bZ
inductive To(d:Dg)(q:List Int):Int->V->Prop
 |fin {r:Int} (h:r<0):To d q r (d.aI.getD (jL r).toNat V0)
 |step {r:Int} {c:V} (h:0<=r) (t:To d q ((ay d r).aA.getD (q.getD (ay d r).var.toNat 0).toNat 0) c):To d q r c
theorem To.at_{d:Dg}(h:C9 d){q:List Int}(hq:jK d.aj q=true){r:Int}{c:V}(t:To d q r c):∀F:Nat,r<F->jD d r d.au.length->c=d.aI.getD (jL (atF d q F r)).toNat V0:=by
 induction t with
 |fin hr=>
  intro F _ _;cases F with
  |zero=>rfl
  |succ F=>rw[atF,a0u hr]
 |step hr _ ih=>
  intro F hF hk;cases F with
  |zero=>omega
  |succ F=>
   rw[atF,a0o (by omega)];have:=(PK h hq ⟨hr,hk.1⟩).2.2;exact ih F (by have:=this.1;omega) ⟨by have:=this.1;have:=hk.1;omega,this.2⟩
theorem To.of{d:Dg}(h:C9 d){q:List Int}(hq:jK d.aj q=true):∀(F:Nat) (r:Int),r<F->jD d r d.au.length->To d q r (d.aI.getD (jL (atF d q F r)).toNat V0)
 | 0,r,hr,_=>.fin (by omega)
 |F+1,r,hr,hk=>by
  rw[atF];split
  .rename_i c;exact .fin c
  rename_i c;have:=(PK h hq ⟨by omega,hk.1⟩).2.2;exact .step (by omega) (To.of h hq F _ (by have:=this.1;omega) ⟨by have:=this.1;have:=hk.1;omega,this.2⟩)
theorem To.det{d:Dg}{q:List Int}{r:Int}{a b:V}(h:To d q r a):To d q r b->a=b:=by
 induction h with
 |fin hr=>intro g;cases g with
  |fin _=>rfl
  |step h _=>omega
 |step hr _ ih=>intro g;cases g with
  |fin h=>omega
  |step _ t=>exact ih t
theorem Bg(E:List V)(v:V):E <+: gV E v:=by
 unfold gV;split
 .exact a4P
 exact a8O _ _
theorem Ik(N:List Br)(c:Int)(ks:List Int):N <+: qH N c ks:=by
 unfold qH;split
 .exact a4P
 split
 .exact a4P
 exact a8O _ _
def Q5(x y:EN):Prop:=x.1 <+: y.1∧x.2 <+: y.2
theorem Q5.rfl{x:EN}:Q5 x x:=⟨a4P,a4P⟩
theorem Q5.trans{x y z:EN}(a:Q5 x y)(b:Q5 y z):Q5 x z:=⟨a.1.trans b.1,a.2.trans b.2⟩
theorem Q7{s:List Int}{l:List V}:∀(r p:List Int) (x:EN),Q5 x (iW s l r p x).2
 | [],p,x=>⟨Bg _ _,a4P⟩
 |c::r,p,x=>by
  have:=dw (g:=Cc (iW s l r) c p) (m:=(s.getD c.toNat 0).toNat) (k:=0) (s:=([],x)) (fun _ y=>Q5 x y.2) Q5.rfl (fun j y _ _ hy=>hy.trans (Q7 r _ y.2));exact⟨this.1,this.2.trans (Ik _ _ _)⟩
theorem zS{α:Type}{a b:List α}{d:α}(h:a <+: b){k:Nat}(hk:k<a.length):b.getD k d=a.getD k d:=by
 obtain⟨t,rfl⟩:=h;simp[List.getD,a0g hk]
theorem Q8{k:Nat}(hk:k<2^61):i64.wrap (-1-(k:Int))=-1-(k:Int)∧jL (-1-(k:Int))=(k:Int):=by
 refine⟨fJ (by omega) (by omega),?_⟩;unfold jL;rw[fJ (by omega) (by omega)];omega
theorem TJ(E:List V)(v:V):E.idxOf v<(gV E v).length∧(gV E v).getD (E.idxOf v) V0=v:=by
 unfold gV;split
 .rename_i h;have:=a4S.2 h;exact⟨this,by simp[List.getD,a0b this]⟩
 rename_i h;rw[a8L h];exact⟨by simp,by simp[List.getD]⟩
theorem Vq{N:List Br}{c:Int}{ks:List Int}(hf:¬(ks.all fun x=>x==ks.getD 0 0)=true):N.idxOf (⟨c,ks⟩:Br)<(qH N c ks).length∧(qH N c ks).getD (N.idxOf (⟨c,ks⟩:Br)) kW=⟨c,ks⟩:=by
 unfold qH;rw[a0o hf];split
 .rename_i h;have:=a4S.2 h;exact⟨this,by simp[List.getD,a0b this]⟩
 rename_i h;rw[a8L h];exact⟨by simp,by simp[List.getD]⟩
def Agr(s r q p:List Int):Prop:=∀k:Nat,k<s.length->(k:Int)∉r->q.getD k 0=p.getD k 0
theorem Agr.set{s r q p:List Int}{c:Int}(hc:gJ c s.length)(hp:p.length=s.length)(h:Agr s (c::r) q p):Agr s r q (p.set c.toNat (q.getD c.toNat 0)):=fun k hk hr=>by
 by_cases e:k=c.toNat
 .subst e;have e2:(p.set c.toNat (q.getD c.toNat 0)).getD c.toNat 0=q.getD c.toNat 0:=by
   simp[List.getD,a1u (show c.toNat<p.length by omega)]
  exact e2.symm
 .rw[show(p.set c.toNat (q.getD c.toNat 0)).getD k 0=p.getD k 0 by rw[List.getD,a0L (Ne.symm e)];rfl];exact h k hk (by simp only[a1J,adJ];exact⟨fun e2=>e (by omega),hr⟩)
theorem Agr.back{s r q p:List Int}{c j:Int}(hc:gJ c s.length)(h:Agr s r q (p.set c.toNat j)):Agr s (c::r) q p:=fun k hk hr=>by
 simp only[a1J,adJ]at hr;have hc:=hc.1;have e:k≠c.toNat:=fun e=>hr.1 (by omega);have:=h k hk hr.2;rw[this,List.getD,a0L (Ne.symm e)];rfl
theorem afR{s q p:List Int}(hq:q.length=s.length)(hp:p.length=s.length)(h:Agr s [] q p):q=p:=(pI (d:=(0:Int)) (by omega)).2 fun k hk=>h k (by omega) (by simp)
theorem a3S{ks:List Int}(h:(ks.all fun x=>x==ks.getD 0 0)=true){j:Nat}(hj:j<ks.length):ks.getD j 0=ks.getD 0 0:=by
 rw[a4R]at h;have:=h (ks.getD j 0) (dB hj);simpa using this
theorem adC{s:List Int}{l:List V}(hs:nX s):∀(r p:List Int) (x:EN),(∀c∈r,gJ c s.length)->p.length=s.length->∀d:Dg,d.aI.length<2^61->(iW s l r p x).2.1 <+: d.aI->(iW s l r p x).2.2 <+: d.au->∀q,jK s q=true->Agr s r q p->To d q (iW s l r p x).1 (l.getD (jl s q).toNat V0)
 | [],p,x,_,hp,d,hd,h1,_,q,hq,ha=>by
  have e:=afR (rY hq) hp ha;subst e;obtain⟨g1,g2⟩:=TJ x.1 (l.getD (jl s q).toNat V0);have h1:gV x.1 (l.getD (jl s q).toNat V0) <+: d.aI:=h1;have aQ:x.1.idxOf (l.getD (jl s q).toNat V0)<2^61:=by have:=h1.length_le;omega
  obtain⟨e1,e2⟩:=Q8 aQ;show To d q (i64.wrap (-1-(x.1.idxOf (l.getD (jl s q).toNat V0):Nat))) _;rw[e1];have:=To.fin (d:=d) (q:=q) (r:=-1-((x.1.idxOf (l.getD (jl s q).toNat V0):Nat):Int)) (by omega);rw[e2,a4Z,zS h1 g1,g2]at this;exact this
 |c::r,p,x,hr,hp,d,hd,h1,h2,q,hq,ha=>by
  have hc:=hr c (by simp);have hri:∀c'∈r,gJ c' s.length:=fun c' h=>hr c' (by simp[h]);have YH:=(qo.1 hq).2 c.toNat (by have:=hc.1;have:=hc.2;omega);have inv:=dw (g:=Cc (iW s l r) c p) (m:=(s.getD c.toNat 0).toNat) (k:=0) (s:=([],x)) (fun k y=>y.1.length=k∧∀j:Nat,j<k->y.2.1 <+: d.aI->y.2.2 <+: d.au->∀q,jK s q=true->Agr s r q (p.set c.toNat j)->To d q (y.1.getD j 0) (l.getD (jl s q).toNat V0)) ⟨rfl,fun j hj=>by omega⟩ (fun j y _ hj hy=>by
   obtain⟨y1,y2⟩:=hy;refine⟨by simp[Cc,y1],fun j' Ea g1 g2 q hq ha=>?_⟩;have EK:=Q7 (s:=s) (l:=l) r (p.set c.toNat j) y.2;by_cases e:j'<j
   .have:(Cc (iW s l r) c p j y).1.getD j' 0=y.1.getD j' 0:=by
     show(y.1++_).getD j' 0=_;simp[List.getD,a0g (show j'<y.1.length by omega)]
    rw[this];exact y2 j' e (EK.1.trans g1) (EK.2.trans g2) q hq ha
   have e:j'=j:=(by omega);subst e;have:(Cc (iW s l r) c p j' y).1.getD j' 0=(iW s l r (p.set c.toNat j') y.2).1:=by
    show(y.1++[_]).getD j' 0=_;simp[List.getD,<-y1]
   rw[this];exact adC hs r _ y.2 hri (by simp[hp]) d hd g1 g2 q hq ha)
  rw[a3H]at inv;simp only[iW]at h1 h2 ⊢;generalize aT (Cc (iW s l r) c p) (s.getD c.toNat 0).toNat 0 ([],x)=y at inv h1 h2;obtain⟨ks,E,N⟩:=y;obtain⟨hlen,inv⟩:=inv;have hlen:ks.length=(s.getD c.toNat 0).toNat:=hlen;have h2:qH N c ks <+: d.au:=h2;have hj:(q.getD c.toNat 0).toNat<(s.getD c.toNat 0).toNat:=by omega
  have YT:((q.getD c.toNat 0).toNat:Int)=q.getD c.toNat 0:=by omega
  have t:=inv (q.getD c.toNat 0).toNat hj h1 ((Ik N c ks).trans h2) q hq (by rw[YT];exact Agr.set hc hp ha);have t:To d q (ks.getD (q.getD c.toNat 0).toNat 0) (l.getD (jl s q).toNat V0):=t;show To d q (Gf N c ks) _;by_cases hf:(ks.all fun x=>x==ks.getD 0 0)=true
  .rw[show Gf N c ks=ks.getD 0 0 from a0u hf];rw[a3S hf (by omega)]at t;exact t
  rw[show Gf N c ks=(N.idxOf (⟨c,ks⟩:Br):Nat)from a0o hf];obtain⟨g1,g2⟩:=Vq (N:=N) (c:=c) hf;have en:ay d ((N.idxOf (⟨c,ks⟩:Br):Nat):Int)=⟨c,ks⟩:=by
   unfold ay;rw[a4Z,zS h2 g1,g2]
  refine .step (by omega) ?_;rw[en];exact t
open Go Tw Pv bZ
def EP(o:List Int)(N:List Br)(r:Int):Nat:=if r<0 then o.length else o.idxOf (N.getD r.toNat kW).var
def Ce(o:List Int)(x:EN)(v:Int)(b a:Nat):Prop:=(v<0->gJ (jL v) x.1.length)∧v<(b:Int)∧a<=EP o x.2 v
structure PtV(s o:List Int)(x:EN):Prop where
 var:∀i,i<x.2.length->gJ (x.2.getD i kW).var s.length
 ksz:∀i,i<x.2.length->((x.2.getD i kW).aA.length:Int)=s.getD (x.2.getD i kW).var.toNat 0
 zN:∀i,i<x.2.length->∀k,k<(x.2.getD i kW).aA.length->Ce o x ((x.2.getD i kW).aA.getD k 0) i (o.idxOf (x.2.getD i kW).var+1)
theorem Ce.mono{o:List Int}{x y:EN}{v:Int}{b b' a a':Nat}(h:Ce o x v b a)(hp:Q5 x y)(hb:b<=b')(hx:b<=x.2.length)(ha:a'<=a):Ce o y v b' a':=by
 obtain⟨h1,h2,h3⟩:=h;refine⟨fun hv=>⟨(h1 hv).1,by have:=(h1 hv).2;have:=hp.1.length_le;omega⟩,by omega,?_⟩;unfold EP at h3 ⊢;split
 .rename_i c;rw[a0u c]at h3;omega
 rename_i c;rw[a0o c]at h3;rw[zS hp.2 (by omega)];omega
theorem a7L{s o:List Int}{l:List V}(hs:nX s)(ho:∀c∈o,gJ c s.length)(hn:o.Nodup):∀(r:List Int) (a:Nat) (p:List Int) (x:EN),o.drop a=r->a<=o.length->PtV s o x->(iW s l r p x).2.1.length<2^61->PtV s o (iW s l r p x).2∧Ce o (iW s l r p x).2 (iW s l r p x).1 (iW s l r p x).2.2.length a
 | [],a,p,x,hr,ha,hx,hE=>by
  have:a=o.length:=by
   have:=congrArg List.length hr;rw[a3C,a5j]at this;omega
  subst this;obtain⟨g1,g2⟩:=TJ x.1 (l.getD (jl s p).toNat V0);have hE:(gV x.1 (l.getD (jl s p).toNat V0)).length<2^61:=hE;obtain⟨e1,e2⟩:=Q8 (k:=x.1.idxOf (l.getD (jl s p).toNat V0)) (by omega);have hp:Q5 x (gV x.1 (l.getD (jl s p).toNat V0),x.2):=⟨Bg _ _,a4P⟩;refine⟨⟨hx.var,hx.ksz,fun i hi k hk=>(hx.zN i hi k hk).mono hp (a0x _) (a9n hi) (a0x _)⟩,?_⟩;show Ce o _ (i64.wrap (-1-(x.1.idxOf (l.getD (jl s p).toNat V0):Nat))) _ _;rw[e1];refine⟨fun _=>by rw[e2];exact⟨by omega,by show _<((gV x.1 (l.getD (jl s p).toNat V0)).length:Int);omega⟩,by omega,?_⟩;unfold EP;rw[a0u (by omega)];exact a0x _
 |c::r,a,p,x,hr,ha,hx,hE=>by
  have aQ:a<o.length:=by
   have:=congrArg List.length hr;rw[a3C,a4v]at this;omega
  have hd:=a6p aQ;rw[hr]at hd;obtain⟨hc,wU⟩:=List.cons.inj hd;have G6:c∈o:=by rw[hc];exact a4Q aQ
  have qI:=ho c G6;have hia:o.idxOf c=a:=by rw[hc];exact hn.idxOf_getElem a aQ
  have hz:=hs _ (dB (s:=s) (k:=c.toNat) (by have:=qI.1;have:=qI.2;omega));have mono:=fun(n:Nat) (m:Nat) (y:List Int×EN)=>(dw (g:=Cc (iW s l r) c p) (m:=m) (k:=n) (s:=y) (fun _ z=>Q5 y.2 z.2) Q5.rfl (fun j z _ _ hz=>hz.trans (Q7 r _ z.2)));have hEf:(aT (Cc (iW s l r) c p) (s.getD c.toNat 0).toNat 0 ([],x)).2.1.length<2^61:=hE;have inv:=dw (g:=Cc (iW s l r) c p) (m:=(s.getD c.toNat 0).toNat) (k:=0) (s:=([],x)) (fun k y=>y.1.length=k∧(y.2.1.length<2^61->PtV s o y.2∧∀j:Nat,j<k->Ce o y.2 (y.1.getD j 0) y.2.2.length (a+1))) ⟨rfl,fun _=>⟨hx,fun j hj=>by omega⟩⟩ (fun j y _ hj hy=>by
   obtain⟨y1,y2⟩:=hy;refine⟨by simp[Cc,y1],fun hE=>?_⟩;have EK:=Q7 (s:=s) (l:=l) r (p.set c.toNat j) y.2;have hE:(iW s l r (p.set c.toNat j) y.2).2.1.length<2^61:=hE;obtain⟨v1,v2⟩:=y2 (by have:=EK.1.length_le;omega);obtain⟨w1,w2⟩:=a7L hs ho hn r (a+1) (p.set c.toNat j) y.2 wU.symm aQ v1 hE;refine⟨w1,fun j' Ea=>?_⟩;by_cases e:j'<j
   .have:(Cc (iW s l r) c p j y).1.getD j' 0=y.1.getD j' 0:=by
     show(y.1++_).getD j' 0=_;simp[List.getD,a0g (show j'<y.1.length by omega)]
    rw[this];exact(v2 j' e).mono EK EK.2.length_le (a0x _) (a0x _)
   have e:j'=j:=(by omega);subst e;have:(Cc (iW s l r) c p j' y).1.getD j' 0=(iW s l r (p.set c.toNat j') y.2).1:=by
    show(y.1++[_]).getD j' 0=_;simp[List.getD,<-y1]
   rw[this];exact w2)
  rw[a3H]at inv;simp only[iW];generalize aT (Cc (iW s l r) c p) (s.getD c.toNat 0).toNat 0 ([],x)=y at inv hEf;obtain⟨ks,E,N⟩:=y;obtain⟨hlen,inv⟩:=inv;obtain⟨i1,i2⟩:=inv hEf;have hlen:ks.length=(s.getD c.toNat 0).toNat:=hlen;have i2:∀j:Nat,j<(s.getD c.toNat 0).toNat->Ce o (E,N) (ks.getD j 0) N.length (a+1):=i2;have EK:Q5 (E,N) (E,qH N c ks):=⟨a4P,Ik N c ks⟩;show PtV s o (E,qH N c ks)∧Ce o (E,qH N c ks) (Gf N c ks) (qH N c ks).length a;by_cases hf:(ks.all fun x=>x==ks.getD 0 0)=true
  .rw[show Gf N c ks=ks.getD 0 0 from a0u hf,show qH N c ks=N from a0u hf];exact⟨i1,(i2 0 (by omega)).mono Q5.rfl (a0x _) (a0x _) (by omega)⟩
  obtain⟨g1,g2⟩:=Vq (N:=N) (c:=c) hf;rw[show Gf N c ks=(N.idxOf (⟨c,ks⟩:Br):Nat)from a0o hf];have KZ:a<=EP o (qH N c ks) ((N.idxOf (⟨c,ks⟩:Br):Nat):Int):=by
   unfold EP;rw[a0o (by omega),a4Z,g2];show a<=o.idxOf c;omega
  refine⟨?_,⟨fun h=>by omega,by omega,KZ⟩⟩;by_cases hm:(⟨c,ks⟩:Br)∈N
  .rw[show qH N c ks=N by unfold qH;rw[a0o hf,a0u hm]];exact i1
  have eN:qH N c ks=N++[⟨c,ks⟩]:=by unfold qH;rw[a0o hf,a0o hm]
  rw[eN]at EK ⊢;have hold:∀i,i<N.length->(N++[(⟨c,ks⟩:Br)]).getD i kW=N.getD i kW:=fun i hi=>zS (a8O _ _) hi;have fZ:(N++[(⟨c,ks⟩:Br)]).getD N.length kW=⟨c,ks⟩:=by simp[List.getD]
  have vI:∀i,i<(N++[(⟨c,ks⟩:Br)]).length->i<N.length∨i=N.length:=fun i hi=>by
   rw[a1t,a3J]at hi;omega
  refine⟨fun i hi=>?_,fun i hi=>?_,fun i hi k hk=>?_⟩
  .show gJ ((N++[(⟨c,ks⟩:Br)]).getD i kW).var s.length;rcases vI i hi with h|rfl
   .rw[hold i h];exact i1.var i h
   rw[fZ];exact qI
  .show(((N++[(⟨c,ks⟩:Br)]).getD i kW).aA.length:Int)=s.getD ((N++[(⟨c,ks⟩:Br)]).getD i kW).var.toNat 0;rcases vI i hi with h|rfl
   .rw[hold i h];exact i1.ksz i h
   rw[fZ];show(ks.length:Int)=s.getD c.toNat 0;omega
  have hk:k<((N++[(⟨c,ks⟩:Br)]).getD i kW).aA.length:=hk;show Ce o (E,N++[(⟨c,ks⟩:Br)]) (((N++[(⟨c,ks⟩:Br)]).getD i kW).aA.getD k 0) i (o.idxOf ((N++[(⟨c,ks⟩:Br)]).getD i kW).var+1);rcases vI i hi with h|rfl
  .rw[hold i h]at hk ⊢;exact(i1.zN i h k hk).mono EK (a0x _) (a9n h) (a0x _)
  rw[fZ]at hk ⊢;have hk:k<ks.length:=hk;exact(i2 k (by omega)).mono EK (a0x _) (a0x _) (by show o.idxOf c+1<=a+1;omega)
open Go Tw Pv bZ
theorem Nb(d:Dg)(v:Int):um d v=(EP d.aB d.au v:Int):=by
 unfold um EP;by_cases c:v<0
 .rw[a0u (by simpa using c),a0u c]
 rw[a0o (by simpa using c),a0o c];have hs:=a7G (l:=d.aB) (d:=0) (a:=(ay d v).var) (c:=PD d v) (fun k _=>by unfold PD;rw[a4T];simp);by_cases hm:(ay d v).var∈d.aB
 .rw[hs.1 hm];rfl
 rw[a0u (hs.2 hm),a8L hm]
theorem TK{d:Dg}(hm:d.aI.length<=ah)(hf:(bV d.aj d.aB != 0)=false)(hv:∀v∈d.aI,vOk v=true)(hn:d.au.length<=6000)(hp:PtV d.aj d.aB (d.aI,d.au))(hr:Ce d.aB (d.aI,d.au) d.root d.au.length 0):aX d=0:=by
 obtain⟨bU,Q9⟩:=jV.1 (show bV d.aj d.aB=0 by simpa using hf);have akw:∀(v:Int) (b a:Nat),Ce d.aB (d.aI,d.au) v b a->iR d v b=true:=fun v b a h=>by
  unfold iR;split
  .simpa using h.2.1
  rename_i c;have c:v<0:=by simpa using c
  have:=h.1 c;have e:i64.wrap ((d.aI.length:Int)-1)=(d.aI.length:Int)-1:=by unfold ah at hm;rw[fJ (by omega) (by omega)]
  rw[vY,e];have h2:=this.2;have h2:jL v<(d.aI.length:Int):=h2;exact⟨this.1,by show jL v<=_;omega⟩
 have hl:mD d=true:=by
  unfold mD;rw[a0u (dI.2 fun j hj=>by
   rw[cLe,hv _ (by simp[List.getD,a0b hj])];rfl),a0u (dI.2 fun i hi=>?_)]
  .exact akw _ _ _ hr
  have h1:=hp.var i hi;have h2:=hp.ksz i hi;have h3:=hp.zN i hi;have h1:gJ (fB d i).var d.aj.length:=h1;have h2:((fB d i).aA.length:Int)=d.aj.getD (fB d i).var.toNat 0:=h2;have e:xw d.aj=(d.aj.length:Int)-1:=by
   have:=bU.len;unfold xw;rw[fJ (by omega) (by omega)]
  unfold cLn;rw[a0o,a0o (by rw[h2];simp),a0u]
  .refine dI.2 fun k hk=>?_;have h4:=h3 k hk;unfold cLk;rw[a0o (by rw[akw _ _ _ h4];simp),a2H,Nb,Nb];have h5:=h4.2.2;have e6:EP d.aB d.au ((i:Nat):Int)=d.aB.idxOf (fB d i).var:=by unfold EP;rw[a0o (by omega),a4Z]
   rw[e6];have h5:d.aB.idxOf (fB d i).var+1<=EP d.aB d.au ((d.au.getD i kW).aA.getD k 0):=h5;omega
  have:nS (fB d i).var 0 (xw d.aj)=true:=by rw[vY,e];have:=h1.1;have:=h1.2;exact⟨by omega,by omega⟩
  rw[this];simp
 unfold aX;rw[a0o (by rw[hf];simp),a0o (by rw[a0N];omega),a0o (by rw[hl];simp)]
structure OfP(s o:List Int)(l:List V):Prop where
 bU:vC s
 ord:kD s.length o=true
 len:(l.length:Int)=bC s
theorem OfP.p{s o:List Int}{l:List V}(h:OfP s o l):PtP s o l∧o.Nodup∧o.length=s.length:=by
 have ho:=h.ord;unfold kD at ho;rw[a0N]at ho;have:=h.bU.len;exact⟨⟨h.bU,fun c hc=>⟨(ho.2.1 c hc).1,(ho.2.1 c hc).2⟩,h.len,by unfold ah;omega,by unfold ah;omega⟩,ho.2.2,ho.1⟩
theorem Y5{s:List Int}{l:List V}:∀(r p:List Int) (x:EN),(∀q,l.getD (jl s q).toNat V0∈l∨True)->(∀q,jK s q=true->l.getD (jl s q).toNat V0∈l)->jK s p=true->(∀c∈r,gJ c s.length)->nX s->(∀v∈x.1,v∈l)->∀v∈(iW s l r p x).2.1,v∈l
 | [],p,x,_,h,hp,_,_,hx,v,hv=>by
  have hv:v∈gV x.1 (l.getD (jl s p).toNat V0):=hv;unfold gV at hv;split at hv
  .exact hx v hv
  rcases a2L.1 hv with hv|hv
  .exact hx v hv
  rw[a2D.1 hv];exact h p hp
 |c::r,p,x,h0,h,hp,hr,hs,hx,v,hv=>by
  have hc:=hr c (by simp);have hz:=hs _ (dB (s:=s) (k:=c.toNat) (by have:=hc.1;have:=hc.2;omega));have:=dw (g:=Cc (iW s l r) c p) (m:=(s.getD c.toNat 0).toNat) (k:=0) (s:=([],x)) (fun _ y=>∀v∈y.2.1,v∈l) hx (fun j y _ hj hy=>Y5 r _ y.2 h0 h (XI hp hc ⟨by omega,by omega⟩) (fun c hc=>hr c (by simp[hc])) hs hy);exact this v hv
theorem Bh{s o:List Int}{l:List V}(h:OfP s o l)(hv:∀v∈l,vOk v=true):aX (qw s o l)=0∧(qw s o l).aI.length<=2000∧(∀v∈(qw s o l).aI,v∈l)∧PtV s o ((qw s o l).aI,(qw s o l).au)∧Ce o ((qw s o l).aI,(qw s o l).au) (qw s o l).root (qw s o l).au.length 0:=by
 obtain⟨hP,hn,ho⟩:=h.p;have hz:=PZ h.bU.sz;have hm:=h.bU.many;have hlen:=a0a (l:=l) h.bU.sz o (List.replicate s.length 0) ([],[]) hP.ord;have hw:=DT h.bU.sz h.ord;have a2J:∀q,jK s q=true->l.getD (jl s q).toNat V0∈l:=fun q hq=>by
  have:=DC hq h.bU.sz;have:=h.len;have aQ:(jl s q).toNat<l.length:=by omega
  simp[List.getD,a0b aQ]
 have oZ:=Y5 o (List.replicate s.length 0) ([],[]) (fun _=>.inr trivial) a2J hz hP.ord h.bU.sz (by simp);have X4:=a7L (l:=l) h.bU.sz hP.ord hn o 0 (List.replicate s.length 0) ([],[]) rfl (a4Y _) ⟨fun i hi=>(by simp at hi),fun i hi=>(by simp at hi),fun i hi=>(by simp at hi)⟩ (by have:=hlen.1;simp at this;omega);have h1:(qw s o l).aI.length<=0+wO s o:=hlen.1;have h2:(qw s o l).au.length+1<=0+wO s o:=hlen.2;refine⟨TK (by unfold ah;omega) ?_ (fun v hv2=>hv v (oZ v hv2)) (by omega) X4.1 X4.2,by omega,oZ,X4.1,X4.2⟩;have:bV s o=0:=jV.2 ⟨h.bU,h.ord⟩;show(bV s o != 0)=false;rw[this];rfl
theorem aaU{s o:List Int}{l:List V}(h:OfP s o l)(hv:∀v∈l,vOk v=true){q:List Int}(hq:jK s q=true):kX (qw s o l) q=l.getD (jl s q).toNat V0:=by
 obtain⟨hP,hn,ho⟩:=h.p;obtain⟨h1,h2,h3,h4,h5⟩:=Bh h hv;have ht:=iJ (d:=qw s o l) hP.afQ (by unfold ah;omega) (by rw[h1];rfl);have hto:=adC (l:=l) h.bU.sz o (List.replicate s.length 0) ([],[]) hP.ord (by simp) (qw s o l) (by omega) a4P a4P q hq (fun k hk YJ=>by
  exfalso;exact YJ (mF h.ord ⟨by omega,by omega⟩))
 have hr:=ht.1.root;exact(hto.at_ ht.1 hq 6001 (by have:=hr.1;have:=ht.2;show(qw s o l).root<_;omega) hr).symm
theorem Qa{s o:List Int}{l:List V}(h:OfP s o l)(hv:∀v∈l,vOk v=true):cellsD (qw s o l)=l:=by
 have hl:=h.len;unfold cellsD;refine a9o (by simp[xZ,qw];omega) fun n h1 h2=>?_;have hp:=uj (n:Int) h.bU.sz;simp only[a9e,ahe];show kX (qw s o l) (iw s n)=_;rw[aaU h hv hp,N9 h.bU.sz (by omega) (by omega)];simp[List.getD,a0b h2]
open Go Tw Pv bZ
def Kn(d:Dg)(x:Cs)(v:Int):Prop:=if v<0 then qp d v∈x.e else v∈x.k.map (·.1)
def vG(d:Dg)(x:Cs)(v:Int):Int:=if v<0 then i64.wrap (-1-(x.e.idxOf (qp d v):Nat))else Vk x.k v
def Bj(x y:Cs):Prop:=x.e <+: y.e∧x.n <+: y.n∧x.k <+: y.k
theorem Bj.rfl{x:Cs}:Bj x x:=⟨a4P,a4P,a4P⟩
theorem Bj.trans{x y z:Cs}(a:Bj x y)(b:Bj y z):Bj x z:=⟨a.1.trans b.1,a.2.1.trans b.2.1,a.2.2.trans b.2.2⟩
theorem Kn.mono{d:Dg}{x y:Cs}{v:Int}(h:Kn d x v)(hp:Bj x y):Kn d y v:=by
 unfold Kn at h ⊢;split
 .rename_i c;rw[a0u c]at h;exact hp.1.subset h
 rename_i c;rw[a0o c]at h;obtain⟨t,ht⟩:=hp.2.2;rw[<-ht,a4C,a2L];exact .inl h
theorem TL{α:Type}[BEq α][LawfulBEq α]{a b:List α}{v:α}(h:v∈a)(hp:a <+: b):b.idxOf v=a.idxOf v:=by
 obtain⟨t,rfl⟩:=hp;rw[a9R,a0u h]
theorem a2d{a b:List (Int×Int)}{v:Int}(h:v∈a.map (·.1))(hp:a <+: b):Vk b v=Vk a v:=by
 obtain⟨t,rfl⟩:=hp;unfold Vk;rw[List.find?_append];cases e:a.find? fun p=>p.1==v with
 |none=>
  rw[a0H]at h;obtain⟨p,hp,rfl⟩:=h;have:=adO.1 e p hp;simp at this
 |some q=>rfl
theorem TM{d:Dg}{x y:Cs}{v:Int}(h:Kn d x v)(hp:Bj x y):vG d y v=vG d x v:=by
 unfold Kn at h;unfold vG;split
 .rename_i c;rw[a0u c]at h;rw[TL h hp.1]
 rename_i c;rw[a0o c]at h;rw[a2d h hp.2.2]
theorem Y6{E:List V}{v:V}(h:v∈E):gV E v=E:=a0u h
theorem L6(N:List Br)(c:Int)(ks:List Int):N <+: dD N c ks:=by
 unfold dD;split
 .exact a4P
 split
 .exact a4P
 exact a8O _ _
theorem a0c{N M:List Br}{c:Int}{ks:List Int}(h:dD N c ks=N)(hp:N <+: M):dD M c ks=M∧eF M c ks=eF N c ks:=by
 unfold dD at h ⊢;unfold eF;by_cases hf:(ks.all fun x=>x==ks.getD 0 0)=true
 .rw[a0u hf,a0u hf,a0u hf];exact⟨rfl,rfl⟩
 rw[a0o hf]at h ⊢;rw[a0o hf,a0o hf];by_cases hm:uo c ks∈N.map Cm
 .have hp2:N.map Cm <+: M.map Cm:=by obtain⟨t,rfl⟩:=hp;rw[a4C];exact a8O _ _
  rw[a0u (hp2.subset hm),TL hm hp2];exact⟨rfl,rfl⟩
 rw[a0o hm]at h;have:=congrArg List.length h;simp at this
theorem a3T(N:List Br)(c:Int)(ks:List Int):dD (dD N c ks) c ks=dD N c ks∧eF (dD N c ks) c ks=eF N c ks:=by
 unfold eF;by_cases hf:(ks.all fun x=>x==ks.getD 0 0)=true
 .rw[a0u hf,a0u hf];have:dD N c ks=N:=a0u hf;rw[this,this];exact⟨rfl,rfl⟩
 rw[a0o hf,a0o hf];by_cases hm:uo c ks∈N.map Cm
 .have:dD N c ks=N:=by unfold dD;rw[a0o hf,a0u hm]
  rw[this,this];exact⟨rfl,rfl⟩
 have e:dD N c ks=N++[⟨c,ks⟩]:=by unfold dD;rw[a0o hf,a0o hm]
 have hm2:uo c ks∈(N++[(⟨c,ks⟩:Br)]).map Cm:=by rw[a4C];simp
 have e2:dD (N++[⟨c,ks⟩]) c ks=N++[⟨c,ks⟩]:=by unfold dD;rw[a0o hf,a0u hm2]
 rw[e,e2];refine⟨rfl,?_⟩;rw[a4C,a9R,a0o hm,a8L hm];simp
abbrev aP(d:Dg)(v:Int):List Int:=(ay d v).aA
def Y7(d:Dg)(x:Cs):Prop:=∀v∈x.k.map (·.1),(∀j,j<(aP d v).length->Kn d x ((aP d v).getD j 0))∧eF x.n (ay d v).var ((aP d v).map (vG d x))=Vk x.k v∧dD x.n (ay d v).var ((aP d v).map (vG d x))=x.n
abbrev CB(d:Dg)(F:Nat)(r:Int)(j:Nat)(y:List Int×Cs):List Int×Cs:=(y.1.set j (cu d F ((aP d r).getD j 0) y.2).1,(cu d F ((aP d r).getD j 0) y.2).2)
theorem a7M{d:Dg}:∀(F:Nat) (r:Int) (x:Cs),Bj x (cu d F r x).2
 | 0,_,x=>Bj.rfl
 |F+1,r,x=>by
  unfold cu;split
  .exact⟨Bg _ _,a4P,a4P⟩
  split
  .exact Bj.rfl
  have:=dw (g:=CB d F r) (m:=(aP d r).length) (k:=0) (s:=(List.replicate (aP d r).length 0,x)) (fun _ y=>Bj x y.2) Bj.rfl (fun j y _ _ hy=>hy.trans (a7M F _ y.2));exact⟨this.1,this.2.1.trans (L6 _ _ _),this.2.2.trans (a8O _ _)⟩
theorem Nc{d:Dg}{F:Nat}{v:Int}{x:Cs}(h:Kn d x v):cu d (F+1) v x=(vG d x v,x):=by
 unfold Kn at h;unfold cu vG;by_cases c:v<0
 .rw[a0u (by simpa using c),a0u c];rw[a0u c]at h;rw[Y6 h]
 rw[a0o c]at h;rw[a0o (by simpa using c),a0u (by simpa using h),a0o c]
theorem Qb{d:Dg}{x y:Cs}{ks:List Int}(h:∀j,j<ks.length->Kn d x (ks.getD j 0))(hp:Bj x y):ks.map (vG d y)=ks.map (vG d x):=by
 refine a4V fun v hv=>?_;obtain⟨j,hj,rfl⟩:=a9h hv;have:=h j hj;rw[List.getD,a0b hj]at this;exact TM this hp
theorem Y7.a2e{d:Dg}{x y:Cs}{v:Int}(h:(∀j,j<(aP d v).length->Kn d x ((aP d v).getD j 0))∧eF x.n (ay d v).var ((aP d v).map (vG d x))=Vk x.k v∧dD x.n (ay d v).var ((aP d v).map (vG d x))=x.n)(hv:v∈x.k.map (·.1))(hp:Bj x y):(∀j,j<(aP d v).length->Kn d y ((aP d v).getD j 0))∧eF y.n (ay d v).var ((aP d v).map (vG d y))=Vk y.k v∧dD y.n (ay d v).var ((aP d v).map (vG d y))=y.n:=by
 obtain⟨h1,h2,h3⟩:=h;rw[Qb h1 hp];obtain⟨g1,g2⟩:=a0c h3 hp.2.1;exact⟨fun j hj=>(h1 j hj).mono hp,by rw[g2,h2,a2d hv hp.2.2],g1⟩
theorem a0d{d:Dg}(h:C9 d):∀(F:Nat) (r:Int) (x:Cs),1<=F->r+1<F->jD d r d.au.length->DR d x->Y7 d x->Y7 d (cu d F r x).2∧Kn d (cu d F r x).2 r∧vG d (cu d F r x).2 r=(cu d F r x).1
 | 0,r,x,h1,_,_,_,_=>by omega
 |F+1,r,x,_,hF,hr,hx,hi=>by
  by_cases c:r<0
  .have e:cu d (F+1) r x=(i64.wrap (-1-(x.e.idxOf (qp d r):Nat)),⟨gV x.e (qp d r),x.n,x.k⟩):=by unfold cu;rw[a0u (by simpa using c)]
   rw[e];have hp:Bj x ⟨gV x.e (qp d r),x.n,x.k⟩:=⟨Bg _ _,a4P,a4P⟩;refine⟨fun v hv=>Y7.a2e (hi v hv) hv hp,?_,?_⟩
   .unfold Kn;rw[a0u c];show qp d r∈gV x.e (qp d r);unfold gV;split
    .assumption
    simp
   unfold vG;rw[a0u c];show i64.wrap (-1-((gV x.e (qp d r)).idxOf (qp d r):Nat))=_;congr 3;unfold gV;split
   .rfl
   rename_i hn;rw[a9R,a0o hn,a8L hn];simp
  by_cases c2:r∈x.k.map (·.1)
  .have hk:Kn d x r:=by unfold Kn;rw[a0o c];exact c2
   rw[Nc hk];exact⟨hi,hk,rfl⟩
  have aQ:r.toNat<d.au.length:=by have:=hr.1;omega
  have Cb:∀k,k<(aP d r).length->(aP d r).getD k 0<r:=fun k kT=>by
   have h9:=(h.zN r.toNat aQ k kT).1;have h9:(aP d r).getD k 0<(r.toNat:Int):=h9;omega
  have KZ:∀j,j<(aP d r).length->jD d ((aP d r).getD j 0) d.au.length:=fun j hj=>⟨by have:=Cb j hj;have:=hr.1;omega,(h.zN r.toNat aQ j hj).2⟩;have inv:=dw (g:=CB d F r) (m:=(aP d r).length) (k:=0) (s:=(List.replicate (aP d r).length 0,x)) (fun k y=>(y.1.length=(aP d r).length∧Bj x y.2)∧(DR d y.2∧r∉y.2.k.map (·.1))∧Y7 d y.2∧∀j,j<k->Kn d y.2 ((aP d r).getD j 0)∧vG d y.2 ((aP d r).getD j 0)=y.1.getD j 0) ⟨⟨by simp,Bj.rfl⟩,⟨hx,c2⟩,hi,fun j hj=>by omega⟩ (fun j y _ hj hy=>by
   obtain⟨⟨y1,y2⟩,⟨y3,y4⟩,y5,y6⟩:=hy;have hj:j<(aP d r).length:=(by omega);have hp:=a7M (d:=d) F ((aP d r).getD j 0) y.2;obtain⟨z1,z2,z3⟩:=a0d h F ((aP d r).getD j 0) y.2 (by omega) (by have:=Cb j hj;omega) (KZ j hj) y3 y5;refine⟨⟨by simp[CB,y1],y2.trans hp⟩,⟨PS h F _ y.2 y3 (KZ j hj),XW F _ r y.2 (Cb j hj) y4 (by omega) (fun i hi k hk=>(h.zN i hi k hk).1) (fun h5=>⟨h5,(KZ j hj).1⟩)⟩,z1,fun j' Ea=>?_⟩;by_cases e:j'=j
   .subst e;refine⟨z2,?_⟩;rw[z3];show(cu d F ((aP d r).getD j' 0) y.2).1=(y.1.set j' (cu d F ((aP d r).getD j' 0) y.2).1).getD j' 0;generalize (cu d F ((aP d r).getD j' 0) y.2).1=z;simp[List.getD,a1u (show j'<y.1.length by omega)]
   obtain⟨a1,a2⟩:=y6 j' (by omega);refine⟨a1.mono hp,?_⟩;rw[TM a1 hp,a2];show _=(y.1.set j (cu d F ((aP d r).getD j 0) y.2).1).getD j' 0;generalize (cu d F ((aP d r).getD j 0) y.2).1=z;simp[List.getD,a0L (Ne.symm e)])
  rw[a3H]at inv;have e:cu d (F+1) r x=(eF (aT (CB d F r) (aP d r).length 0 (List.replicate (aP d r).length 0,x)).2.n (ay d r).var (aT (CB d F r) (aP d r).length 0 (List.replicate (aP d r).length 0,x)).1,⟨(aT (CB d F r) (aP d r).length 0 (List.replicate (aP d r).length 0,x)).2.e,dD (aT (CB d F r) (aP d r).length 0 (List.replicate (aP d r).length 0,x)).2.n (ay d r).var (aT (CB d F r) (aP d r).length 0 (List.replicate (aP d r).length 0,x)).1,(aT (CB d F r) (aP d r).length 0 (List.replicate (aP d r).length 0,x)).2.k++[(r,eF (aT (CB d F r) (aP d r).length 0 (List.replicate (aP d r).length 0,x)).2.n (ay d r).var (aT (CB d F r) (aP d r).length 0 (List.replicate (aP d r).length 0,x)).1)]⟩):=by
   rw[cu,a0o (by simpa using c),a0o (by simpa using c2)]
  rw[e];generalize aT (CB d F r) (aP d r).length 0 (List.replicate (aP d r).length 0,x)=y at inv;obtain⟨ks,y⟩:=y;obtain⟨⟨y1,y2⟩,⟨y3,y4⟩,y5,y6⟩:=inv;have y1:ks.length=(aP d r).length:=y1;have y4:r∉y.k.map (·.1):=y4;have hp:Bj y ⟨y.e,dD y.n (ay d r).var ks,y.k++[(r,eF y.n (ay d r).var ks)]⟩:=⟨a4P,L6 _ _ _,a8O _ _⟩;have F8:(aP d r).map (vG d y)=ks:=by
   refine a9o (by simp[y1]) fun j j1 j2=>?_;have hj:j<(aP d r).length:=(by omega);have:=(y6 j hj).2;rw[List.getD,List.getD,a0b hj,a0b j2]at this;simpa using this
  have fZ:Vk (y.k++[(r,eF y.n (ay d r).var ks)]) r=eF y.n (ay d r).var ks:=by
   unfold Vk;rw[List.find?_append];have:(y.k.find? fun p=>p.1==r)=none:=adO.2 fun p hp=>by
    simp only[a6v];intro e2;exact y4 (a0H.2 ⟨p,hp,e2⟩)
   rw[this];simp
  obtain⟨g1,g2⟩:=a3T y.n (ay d r).var ks;refine⟨fun v hv=>?_,?_,?_⟩
  .have hv:v∈(y.k++[(r,eF y.n (ay d r).var ks)]).map (·.1):=hv;rw[a4C,a2L]at hv;rcases hv with hv|hv
   .exact Y7.a2e (y5 v hv) hv hp
   have hv:v=r:=(by simpa using hv);subst hv;refine⟨fun j hj=>(y6 j hj).1.mono hp,?_,?_⟩
   .rw[Qb (fun j hj=>(y6 j hj).1) hp,F8];show eF (dD y.n (ay d v).var ks) _ ks=Vk (y.k++[(v,eF y.n (ay d v).var ks)]) v;rw[g2,fZ]
   rw[Qb (fun j hj=>(y6 j hj).1) hp,F8];exact g1
  .unfold Kn;rw[a0o c];show r∈(y.k++[(r,eF y.n (ay d r).var ks)]).map (·.1);simp
  unfold vG;rw[a0o c];exact fZ
end Go.Proofs.YtmobpoiejckagaaGreat
