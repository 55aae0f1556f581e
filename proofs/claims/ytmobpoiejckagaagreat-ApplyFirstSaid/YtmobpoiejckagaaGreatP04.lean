/- Part 5 of a proof: At the first place the diagram has the cell, and at no place before it; for all diagrams, and a cell of theirs by a number. -/
import Derived.Test.YtmobpoiejckagaaGreatP03
set_option linter.constructorNameAsVariable false
set_option linter.unusedVariables false
set_option linter.unusedSimpArgs false
set_option linter.unusedSectionVars false
open Go.IntKind (i64)
noncomputable section
namespace Go.Proofs.YtmobpoiejckagaaGreat
open Go Tw Pv
def abQ:eX aF:=cu 219 (a1 iA) tA (fun p=>Uo p) np (a9D (X:=X0))
theorem ain:Gd abQ:=Good.nil.add fun n hO p hp=>aO hO .rr
def abR:eX aF:=cu 141 (a1 uA) vA (fun p=>GZ p) np abQ
theorem aio:Gd abR:=ain.add fun n hO p hp=>aO hO .rr
def abS:eX aF:=cu 140 (a3 iA iA pW) tA (fun p=>vU p.2.2 p.1 p.2.1) (fun p=>[p.2.2.length<=ah]) abR
theorem aip:Gd abS:=aio.deep 3 fun n hn hO p hp=>by
 have h1:∀x,aX X0 Qp (bP (n-3+1)) (.fn 182 [] [.ptr 0 0 1,.ptr 1 0 1]) [.int .i64 x] [.cells [.int .i64 p.1],.cells [.int .i64 p.2.1]] (tA.put (sW x p.1 p.2.1)) [.cells [.int .i64 p.1],.cells [.int .i64 p.2.1]]:=fun x=>jd fZ (first:=[]) (.ssh (fun _=>.sr) (fun _=>.sr));obtain⟨n,rfl⟩:∃k,n=k+3:=⟨n-3,by omega⟩;rw[show n+3-3+1=n+1 by omega]at h1;have h2:=aij (n:=n+2) (by omega) (g:=fun x=>sW x p.1 p.2.1) h1 p.2.2 (hp _ (.head _));exact aO (hO _ (by omega)) (.k h2 (.v (!(mD (fun x=>sW x p.1 p.2.1) p.2.2)) (by rw[DR];rfl)))
theorem nan(x:Int):Uo x=false:=by simp[Uo]
def abT:eX aF:=cu 154 (a1 vA) tA (fun p=>wP p) np abS
theorem aiq:Gd abT:=aip.add fun n hO p hp=>aO hO (.ss (.o le1 .rr) (.ss .rr .rr))
def abU:eX aF:=cu 100 (a1 iA) vA (fun p=>oq p) np abT
theorem air:Gd abU:=aiq.add fun n hO p hp=>aO hO (.o le1 (.ss .rr .rr))
def abV:eX aF:=cu 186 (a1 tA) vA (fun p=>Ou p) np abU
theorem ais:Gd abV:=air.add fun n hO p hp=>aO hO (.ss .rr .rr)
def abW:eX aF:=cu 156 (a1 vA) tA (fun p=>nM p) np abV
theorem ait:Gd abW:=ais.add fun n hO p hp=>aO hO .rr
def abX:eX aF:=cu 153 (a1 vA) tA (fun p=>Am p) np abW
theorem aiu:Gd abX:=ait.add fun n hO p hp=>aO hO .rr
def abY:eX aF:=cu 142 (a2 iA iA) vA (fun p=>J3 p.1 p.2) np abX
theorem aiv:Gd abY:=aiu.add fun n hO p hp=>aO hO .rr
def abZ:eX aF:=cu 143 (a2 iA iA) vA (fun p=>J4 p.1 p.2) np abY
theorem aiw:Gd abZ:=aiv.add fun n hO p hp=>aO hO .rr
def ac0:eX aF:=cu 144 (a2 iA iA) vA (fun p=>J5 p.1 p.2) np abZ
theorem aix:Gd ac0:=aiw.add fun n hO p hp=>aO hO .rr
def ac1:eX aF:=cu 146 (a2 iA iA) iA (fun p=>CY p.1 p.2) np ac0
theorem aiy:Gd ac1:=aix.add fun n hO p hp=>aO hO .rr
def ac2:eX aF:=cu 147 (a2 iA iA) iA (fun p=>CZ p.1 p.2) np ac1
theorem aiz:Gd ac2:=aiy.add fun n hO p hp=>aO hO .rr
def ac3:eX aF:=cu 149 (a1 iA) tA (fun p=>D5 p) np ac2
theorem aiA:Gd ac3:=aiz.add fun n hO p hp=>aO hO .rr
def ac4:eX aF:=cu 150 (a1 iA) tA (fun p=>D6 p) np ac3
theorem aiB:Gd ac4:=aiA.add fun n hO p hp=>aO hO .rr
def ac5:eX aF:=cu 151 (a1 iA) tA (fun p=>D7 p) np ac4
theorem aiC:Gd ac5:=aiB.add fun n hO p hp=>aO hO .rr
def ac6:eX aF:=cu 184 (a2 iA iA) (dR (a2 iA iA)) (fun p=>uG p.1 p.2) (fun p=>[p.2≠0]) ac5
theorem aiD:Gd ac6:=aiC.add fun n hO p hp=>aO hO (.o (hp _ (.head _)) (.o (hp _ (.head _)) (.ss (.ss .rr .rr) .rr)))
def ac7:eX aF:=cu 187 (a2 iA iA) iA (fun p=>IZ p.1 p.2) np ac6
theorem aiE:Gd ac7:=aiD.add fun n hO p hp=>aO hO (.b (nan p.1) (.b (nan p.2) (.ss .rr (.ss .rr .rr))))
theorem aob{n:Nat}{fH:eX aF}(hO:Ok n fH)(ho:∀x:V,fH 156 [.agg x.ps]=some (.bool (nM x),[],[]))(H:List (PB aF))(x:V):aX X0 Qp (bP n) (.fn 156 [] []) [.agg x.ps] H (.bool (nM x)) H:=
 LX hX hO (first:=[]) (cap:=[]) (vs:=[.agg x.ps]) (v:=.bool (nM x)) rfl (ho x) (fun p h=>by cases h) rfl
theorem aoc{n:Nat}{fH:eX aF}(hO:Ok n fH)(ho:∀x:V,fH 153 [.agg x.ps]=some (.bool (Am x),[],[]))(H:List (PB aF))(x:V):aX X0 Qp (bP n) (.fn 153 [] []) [.agg x.ps] H (.bool (Am x)) H:=
 LX hX hO (first:=[]) (cap:=[]) (vs:=[.agg x.ps]) (v:=.bool (Am x)) rfl (ho x) (fun p h=>by cases h) rfl
def ac8:eX aF:=cu 103 (a1 vsA) (dR (a2 vA tA)) (fun p=>bM p) (fun p=>[p.length<=ah]) ac7
theorem aiF:Gd ac8:=aiE.deep 2 fun n hn hO p hp=>by
 have hs:=ail (n:=n-1) (H:=[]) (g:=fun v=>nM v) (aob (hO (n-1) (by omega)) (fun _=>rfl) []) p (hp _ (.head _));rw[show n-1+1=n by omega]at hs;exact aO (hO n (by omega)) (.k hs (.sh (fun h=>.rr) (fun h=>.o (show gQ (iF (fun v=>nM v) p) p.length from⟨by simpa using h,Qg _ _⟩) .rr)))
def ac9:eX aF:=cu 102 (a1 vsA) tA (fun p=>iq p) (fun p=>[p.length<=ah]) ac8
theorem aiG:Gd ac9:=aiF.deep 3 fun n hn hO p hp=>by
 have hs:=aeJ (n:=n-1) (by omega) (H:=[]) (g:=fun v=>Am v) (aoc (hO (n-2) (by omega)) (fun _=>rfl) []) p (hp _ (.head _));rw[show n-1+1=n by omega]at hs;exact aO (hO n (by omega)) (.k hs (.v (!(pV (fun v=>Am v) p)) (by rw[IY];rfl)))
def aiH:eX aF:=cu 99 (a3 vA vA vA) (dR (a2 vA iA)) (fun p=>jA p.1 p.2.1 p.2.2) np ac9
theorem aod:Gd aiH:=aiG.add fun n hO p hp=>aO hO (.o le3 (.ss .rr (.ss .rr (.ss .rr .rr))))
def aiI:Arg Nat where
 put f:=.fn f [] []
 get v:=match v with
  |.fn g [] []=>some g
  |_=>none
 ok:=by
  intro v a hg A m h x hv;split at hg
  .cases hg;exact hv
  .cases hg
def acd:eX aF:=Zn 145 (a1 aiI) (fun _=>.fn 183 [] [.ptr 0 0 1]) (fun g=>[.cells [.fn g [] []]]) np aiH
theorem aiJ:Gd acd:=aod.WM 0 fun n _ hO p hp=>Bh hX (hO n (by omega)) (by kernel_rfl) .er
def ace:eX aF:=Zn 148 (a1 aiI) (fun _=>.fn 185 [] [.ptr 0 0 1]) (fun g=>[.cells [.fn g [] []]]) np acd
theorem aiK:Gd ace:=aiJ.WM 0 fun n _ hO p hp=>Bh hX (hO n (by omega)) (by kernel_rfl) .er
def aoe(p:Int):PV aF:=if p=7 then .fn 142 [] []else if p=8 then .fn 143 [] []else if p=9 then .fn 144 [] []else if p=10 then .fn 183 [] [.ptr 0 0 1]else if p=11 then .fn 183 [] [.ptr 0 0 1]else .fn 185 [] [.ptr 0 0 1]
def aof(p:Int):List (PB aF):=if p=10 then [.cells [.fn 146 [] []]]else if p=11 then [.cells [.fn 147 [] []]]else if p=12 then [.cells [.fn 149 [] []]]else if p=13 then [.cells [.fn 150 [] []]]else if p=14 then [.cells [.fn 151 [] []]]else []
def OH:eX aF:=Zn 101 (a1 uA) aoe aof (fun p=>[7<=p∧p<=14]) ace
theorem seven{p:Int}(h:7<=p∧p<=14):p=7∨p=8∨p=9∨p=10∨p=11∨p=12∨p=13∨p=14:=by omega
theorem aiL:Gd OH:=aiK.WM 0 fun n _ hO p hp=>by
 rcases seven (hp _ (.head _))with rfl|rfl|rfl|rfl|rfl|rfl|rfl|rfl
 .exact Bh hX (hO n (by omega)) (by kernel_rfl) (.b (rfl:true=true) .er)
 .exact Bh hX (hO n (by omega)) (by kernel_rfl) (.b (rfl:false=false) (.b (rfl:true=true) .er))
 .exact Bh hX (hO n (by omega)) (by kernel_rfl) (.b (rfl:false=false) (.b (rfl:false=false) (.b (rfl:true=true) .er)))
 .exact Bh hX (hO n (by omega)) (by kernel_rfl) (.b (rfl:false=false) (.b (rfl:false=false) (.b (rfl:false=false) (.b (rfl:true=true) .er))))
 .exact Bh hX (hO n (by omega)) (by kernel_rfl) (.b (rfl:false=false) (.b (rfl:false=false) (.b (rfl:false=false) (.b (rfl:false=false) (.b (rfl:true=true) .er)))))
 .exact Bh hX (hO n (by omega)) (by kernel_rfl) (.b (rfl:false=false) (.b (rfl:false=false) (.b (rfl:false=false) (.b (rfl:false=false) (.b (rfl:false=false) (.b (rfl:true=true) .er))))))
 .exact Bh hX (hO n (by omega)) (by kernel_rfl) (.b (rfl:false=false) (.b (rfl:false=false) (.b (rfl:false=false) (.b (rfl:false=false) (.b (rfl:false=false) (.b (rfl:false=false) (.b (rfl:true=true) .er)))))))
 .exact Bh hX (hO n (by omega)) (by kernel_rfl) (.b (rfl:false=false) (.b (rfl:false=false) (.b (rfl:false=false) (.b (rfl:false=false) (.b (rfl:false=false) (.b (rfl:false=false) (.b (rfl:false=false) (.b (rfl:true=true) .er))))))))
theorem a9O{n:Nat}(hO:Ok n OH)(a b:V)(x y:Int):aX X0 Qp (bP (n+1)) (.fn 183 [] [.ptr 0 0 1]) [.int .i64 x,.int .i64 y] [.cells [.fn 146 [] []],.list true true 39 [a,b],.list true true 39 [a,b]] (vA.put (iG CY x y)) [.cells [.fn 146 [] []],.list true true 39 [a,b],.list true true 39 [a,b]]:=
 jd hO (first:=[]) (.ssh (fun _=>.sr) (fun h=>.o (show y≠0 by simpa using h) .sr))
theorem a9P{n:Nat}(hO:Ok n OH)(a b:V)(x y:Int):aX X0 Qp (bP (n+1)) (.fn 183 [] [.ptr 0 0 1]) [.int .i64 x,.int .i64 y] [.cells [.fn 147 [] []],.list true true 39 [a,b],.list true true 39 [a,b]] (vA.put (iG CZ x y)) [.cells [.fn 147 [] []],.list true true 39 [a,b],.list true true 39 [a,b]]:=
 jd hO (first:=[]) (.ssh (fun _=>.sr) (fun h=>.o (show y≠0 by simpa using h) .sr))
theorem a9Q{n:Nat}(hO:Ok n OH)(a b:V)(x y:Int):aX X0 Qp (bP (n+1)) (.fn 185 [] [.ptr 0 0 1]) [.int .i64 x,.int .i64 y] [.cells [.fn 149 [] []],.list true true 39 [a,b],.list true true 39 [a,b]] (vA.put (dS D5 x y)) [.cells [.fn 149 [] []],.list true true 39 [a,b],.list true true 39 [a,b]]:=
 jd hO (first:=[]) .sr
theorem a9R{n:Nat}(hO:Ok n OH)(a b:V)(x y:Int):aX X0 Qp (bP (n+1)) (.fn 185 [] [.ptr 0 0 1]) [.int .i64 x,.int .i64 y] [.cells [.fn 150 [] []],.list true true 39 [a,b],.list true true 39 [a,b]] (vA.put (dS D6 x y)) [.cells [.fn 150 [] []],.list true true 39 [a,b],.list true true 39 [a,b]]:=
 jd hO (first:=[]) .sr
theorem a9S{n:Nat}(hO:Ok n OH)(a b:V)(x y:Int):aX X0 Qp (bP (n+1)) (.fn 185 [] [.ptr 0 0 1]) [.int .i64 x,.int .i64 y] [.cells [.fn 151 [] []],.list true true 39 [a,b],.list true true 39 [a,b]] (vA.put (dS D7 x y)) [.cells [.fn 151 [] []],.list true true 39 [a,b],.list true true 39 [a,b]]:=
 jd hO (first:=[]) .sr
def aiM:eX aF:=cu 45 (a3 uA vA vA) (dR (a2 vA iA)) (fun p=>H6 p.1 p.2.1 p.2.2) (fun p=>[7<=p.1∧p.1<=16]) OH
theorem aog:Gd aiM:=aiL.deep 1 fun n hn hO p hp=>by
 obtain⟨n,rfl⟩:∃k,n=k+1:=⟨n-1,by omega⟩;have Aq:=hO n (by omega);have hO:=hO (n+1) (by omega);obtain⟨k,a,b⟩:=p;rcases nine (show 7<=k∧k<=16 from hp _ (.head _))with rfl|rfl|rfl|rfl|rfl|rfl|rfl|rfl|rfl|rfl
 .have:oh X0 Qp (bP (n+1+1)) 45 ((a3 uA vA vA).put (7,a,b)) ((dR (a2 vA iA)).put (rC a b)) []:=aO hO (.b (rfl:false=false) (.b (rfl:false=false) (.o (by decide:(7:Int)<=7∧(7:Int)<=14) (.b (rfl:false=false) (.o Yg (.ss .rr (.o Yg (.ss .rr .rr))))))));exact this
 .have:oh X0 Qp (bP (n+1+1)) 45 ((a3 uA vA vA).put (8,a,b)) ((dR (a2 vA iA)).put (rG a b)) []:=aO hO (.b (rfl:false=false) (.b (rfl:false=false) (.o (by decide:(7:Int)<=8∧(8:Int)<=14) (.b (rfl:false=false) (.o Yg (.ss .rr (.o Yg (.ss .rr .rr))))))));exact this
 .have:oh X0 Qp (bP (n+1+1)) 45 ((a3 uA vA vA).put (9,a,b)) ((dR (a2 vA iA)).put (rH a b)) []:=aO hO (.b (rfl:false=false) (.b (rfl:false=false) (.o (by decide:(7:Int)<=9∧(9:Int)<=14) (.b (rfl:false=false) (.o Yg (.ss .rr (.o Yg (.ss .rr .rr))))))));exact this
 .have:oh X0 Qp (bP (n+1+1)) 45 ((a3 uA vA vA).put (10,a,b)) ((dR (a2 vA iA)).put (oz a b)) []:=aO hO (.b (rfl:false=false) (.b (rfl:false=false) (.o (by decide:(7:Int)<=10∧(10:Int)<=14) (.b (rfl:false=false) (.o Yg (.ss .rr (.o Yg (.ss .rr (.k (a9O Aq a b a.n b.n) .rr)))))))));exact this
 .have:oh X0 Qp (bP (n+1+1)) 45 ((a3 uA vA vA).put (11,a,b)) ((dR (a2 vA iA)).put (oC a b)) []:=aO hO (.b (rfl:false=false) (.b (rfl:false=false) (.o (by decide:(7:Int)<=11∧(11:Int)<=14) (.b (rfl:false=false) (.o Yg (.ss .rr (.o Yg (.ss .rr (.k (a9P Aq a b a.n b.n) .rr)))))))));exact this
 .have:oh X0 Qp (bP (n+1+1)) 45 ((a3 uA vA vA).put (12,a,b)) ((dR (a2 vA iA)).put (oD a b)) []:=aO hO (.b (rfl:false=false) (.b (rfl:false=false) (.o (by decide:(7:Int)<=12∧(12:Int)<=14) (.b (rfl:false=false) (.o Yg (.ss .rr (.o Yg (.ss .rr (.k (a9Q Aq a b a.n b.n) .rr)))))))));exact this
 .have:oh X0 Qp (bP (n+1+1)) 45 ((a3 uA vA vA).put (13,a,b)) ((dR (a2 vA iA)).put (oG a b)) []:=aO hO (.b (rfl:false=false) (.b (rfl:false=false) (.o (by decide:(7:Int)<=13∧(13:Int)<=14) (.b (rfl:false=false) (.o Yg (.ss .rr (.o Yg (.ss .rr (.k (a9R Aq a b a.n b.n) .rr)))))))));exact this
 .have:oh X0 Qp (bP (n+1+1)) 45 ((a3 uA vA vA).put (14,a,b)) ((dR (a2 vA iA)).put (oH a b)) []:=aO hO (.b (rfl:false=false) (.b (rfl:false=false) (.o (by decide:(7:Int)<=14∧(14:Int)<=14) (.b (rfl:false=false) (.o Yg (.ss .rr (.o Yg (.ss .rr (.k (a9S Aq a b a.n b.n) .rr)))))))));exact this
 .have:oh X0 Qp (bP (n+1+1)) 45 ((a3 uA vA vA).put (15,a,b)) ((dR (a2 vA iA)).put (tC a b)) []:=aO hO (.b (rfl:true=true) .rr);exact this
 .have:oh X0 Qp (bP (n+1+1)) 45 ((a3 uA vA vA).put (16,a,b)) ((dR (a2 vA iA)).put (tH a b)) []:=aO hO (.b (rfl:false=false) (.b (rfl:true=true) .rr));exact this
open Go Tw Pv cO
def aiN:eX aF:=cu 23 (a3 iA iA iA) tA (fun p=>mG p.1 p.2.1 p.2.2) np aiM
theorem aoh:Gd aiN:=aog.add fun n hO p hp=>aO hO (.ss .rr .rr)
abbrev JX(a b:List Int)(k:Nat):Bool:=a.getD k 0 != b.getD k 0
abbrev w32(a b:List Int)(i:Int)(x:List (Nat×PE aF)):aS aF:=⟨[(0,xL 3 a),(1,xL 3 b),(5,xi i)]++x,[],[]⟩
def z32(a b:List Int):Unit⊕Nat->Ex×aS aF
 |.inl _=>(.exit 0,w32 a b a.length [(14,xl false)])
 |.inr _=>(.ret,⟨[(4,xl false)],[],[]⟩)
theorem l32{n:Nat}{fH:eX aF}(hO:Ok n fH)(a b:List Int)(hl:a.length<=ah)(h:a.length=b.length):Lp n 32 0 (w32 a b 0 []) (z32 a b (bG (JX a b) a.length)).1 (z32 a b (bG (JX a b) a.length)).2:=
 JV (st:=fun i _=>w32 a b i []) (fun _ _=>True) (by kernel_rfl) hl OE trivial (fun k s n hk _ ih=>aN hO (.b (bD hk) (.o (aH hk) (.o (aH (h▸hk)) (.ls (.ou nofun) (.nx (ih _ trivial))))))) (fun s _=>aN hO (.b (fF a.length) (.ou nofun)))
theorem DT{a b:List Int}(h:a.length=b.length):jT (bG (JX a b) a.length)=decide (a=b):=by
 rw[a4i,dL,a1E,rJ (d:=0) h];simp[JX]
theorem a6n{a b:List Int}(h:((a.length:Int) != (b.length:Int))=true):decide (a=b)=false:=by
 rw[a2H];rintro rfl;simp at h
theorem jr{α β:Type}{a:List α}{b:List β}(h:((a.length:Int) != (b.length:Int))=false):a.length=b.length:=by simp at h;omega
def aiO:eX aF:=cu 32 (a2 pW pW) tA (fun p=>decide (p.1=p.2)) (fun p=>[p.1.length<=ah]) aiN
theorem aoj:Gd aiO:=aoh.add fun n hO p hp=>aO hO (.s (fun h=>.v false (a6n h).symm) fun h=>.z (c:=jT (bG (JX p.1 p.2) p.1.length)) (fun h2=>.w (jP (l32 hO p.1 p.2 (hp _ (.head _)) (jr h)) () h2) (.v true (by rw[<-DT (jr h),h2]))) fun h2=>.w (jQ (l32 hO p.1 p.2 (hp _ (.head _)) (jr h)) 0 h2) (.v false (by rw[<-DT (jr h),h2])))
abbrev a9T(a:List Int)(n i:Int)(x:List (Nat×PE aF)):aS aF:=⟨[(0,xL 3 a),(5,xi n),(6,xi i)]++x,[],[]⟩
theorem aok{n:Nat}{fH:eX aF}(hO:Ok n fH)(a:List Int)(hl:a.length<=ah):Lp n 104 0 (a9T a 1 0 []) (.exit 0) (a9T a (EH a) a.length [(11,xl false)]):=
 H8 (st:=fun i n=>a9T a n i []) (fin:=fun n=>a9T a n a.length [(11,xl false)]) (fun _ _=>True) (by kernel_rfl) hl OE trivial (fun _ _ _ _=>trivial) (fun k s hk _ n e p h=>aN hO (.b (bD hk) (.o (aH hk) (.go h)))) (fun s _=>aN hO (.b (fF a.length) .ex))
def acf:eX aF:=cu 104 (a2 pW iA) iA (fun p=>EH p.1) (fun p=>[p.1.length<=ah,p.2=0]) aiO
theorem aiP:Gd acf:=aoj.add fun n hO p hp=>by
 obtain⟨a,k⟩:=p;have h0:k=0:=hp _ (.tail _ (.head _));subst h0;exact aO hO (.w (aok hO a (hp _ (.head _))) .rr)
def aeK:eX aF:=cu 49 (a1 pW) iA (fun p=>EH p) (fun p=>[p.length<=ah]) acf
theorem aol:Gd aeK:=aiP.add fun n hO p hp=>aO hO (.o (hp _ (.head _)) (.o (rfl:(0:Int)=0) .rr))
abbrev JY(b:List Int)(k j:Nat):Bool:=b.getD j 0==b.getD k 0
abbrev a2U(a b:List Int)(i:Int)(x:List (Nat×PE aF)):aS aF:=⟨[(0,xL 3 a),(1,xL 3 b),(5,xi i)]++x,[],[]⟩
def acg(a b:List Int)(k:Int)(i:Int):Unit⊕Nat->Ex×aS aF
 |.inl _=>(.exit 2,a2U a b k [(6,xi i),(29,xl false)])
 |.inr _=>(.ret,⟨[(4,xl false)],[],[]⟩)
theorem ach{n:Nat}{fH:eX aF}(hO:Ok n fH)(a b:List Int)(k:Nat)(hl:k<=ah)(h:k<b.length):Lp n 109 1 (a2U a b k [(6,xi 0)]) (acg a b k k (bG (JY b k) k)).1 (acg a b k k (bG (JY b k) k)).2:=
 JV (st:=fun i _=>a2U a b k [(6,xi i)]) (fun _ _=>True) (by kernel_rfl) hl OE trivial (fun j s n hk _ ih=>aN hO (.b (bD hk) (.o (aH (show j<b.length by omega)) (.o (aH h) (.ls (.ou nofun) (.nx (ih _ trivial))))))) (fun s _=>aN hO (.b (fF k) (.ou nofun)))
abbrev Zp(m:Int)(b:List Int)(k:Nat):Bool:=if(!(mG (b.getD k 0) 0 m))=true then true else if jT (bG (JY b k) k)=true then false else true
def z109(a b:List Int):Unit⊕Nat->Ex×aS aF
 |.inl _=>(.exit 0,a2U a b b.length [(15,xl false)])
 |.inr _=>(.ret,⟨[(4,xl false)],[],[]⟩)
abbrev xw(s:List Int):Int:=i64.wrap ((s.length:Int)-1)
theorem aiQ{n:Nat}(hO:Ok n aeK)(a b:List Int)(hl:b.length<=ah):Lp n 109 0 (a2U a b 0 []) (z109 a b (bG (Zp (xw a) b) b.length)).1 (z109 a b (bG (Zp (xw a) b) b.length)).2:=
 JV (st:=fun i _=>a2U a b i []) (fun _ _=>True) (by kernel_rfl) hl OE trivial (fun k s n hk _ ih=>by
  unfold gS Zp;cases h1:(!(mG (b.getD k 0) 0 (xw a)))
  .cases h2:jT (bG (JY b k) k)
   .exact aN hO (.b (bD hk) (.o (aH hk) (.b h1 (.w (jQ (ach hO a b k (by omega) hk) 0 h2) (.ou nofun)))))
   .exact aN hO (.b (bD hk) (.o (aH hk) (.b h1 (.w (jP (ach hO a b k (by omega) hk) () h2) (.nx (ih _ trivial))))))
  .exact aN hO (.b (bD hk) (.o (aH hk) (.b h1 (.ou nofun))))
  ) (fun s _=>aN hO (.b (fF b.length) (.ou nofun)))
theorem a6o{s:List Int}(h:s.length<=ah):xw s=(s.length:Int)-1:=by unfold xw;unfold ah at h;exact eP (by omega) (by omega)
theorem uh{k lo hi:Int}:mG k lo hi=true↔lo<=k∧k<=hi:=by
 unfold mG;split
 .rename_i h;simp at h ⊢;omega
 rename_i h;simp at h ⊢;omega
theorem X6{a b:List Int}(ha:a.length<=ah)(h:b.length=a.length):jT (bG (Zp (xw a) b) b.length)=jR a.length b:=by
 rw[a4i,dL,jR,a1E];have e1:(∀j,j<b.length->Zp (xw a) b j=false)↔(∀j,j<b.length->(0<=b.getD j 0∧b.getD j 0<a.length)∧∀i,i<j->b.getD i 0≠b.getD j 0):=by
  refine a9E fun j=>a9E fun hj=>?_;unfold Zp;rw[a6o ha];cases h1:mG (b.getD j 0) 0 ((a.length:Int)-1)
  .simp only[aaw,a2j,aeU,false_iff];intro h2;have:mG (b.getD j 0) 0 ((a.length:Int)-1)=true:=by
    rw[uh];omega
   rw[h1]at this;cases this
  have h3:0<=b.getD j 0∧b.getD j 0<a.length:=by
   rw[uh]at h1;omega
  simp only[a8C,a2l,a3a,h3,acG,true_and];cases h2:jT (bG (JY b j) j)
  .simp only[a2l,a3a,aeU,false_iff];intro h4;have:jT (bG (JY b j) j)=true:=dL.2 fun i hi=>(by simpa[JY]using h4 i hi);rw[h2]at this;cases this
  simp only[a2j,true_iff];intro i hi;have:=dL.1 h2 i hi;simpa[JY]using this
 rw[e1];constructor
 .intro hq;refine⟨h,(Oz (d:=0)).1 fun j hj=>(hq j hj).1,?_⟩;rw[abE,abJ];intro i j hi hj zX;have:=(hq j hj).2 i zX;simpa[List.getD,a0b hi,a0b hj]using this
 rintro⟨_,h2,h3⟩ j hj;refine⟨(Oz (d:=0)).2 h2 j hj,fun i hi=>?_⟩;rw[abE,abJ]at h3;have:=h3 i j (by omega) hj hi;simpa[List.getD,a0b (show i<b.length by omega),a0b hj]using this
theorem a9U{a b:List Int}(h:((b.length:Int) != (a.length:Int))=true):jR a.length b=false:=by
 unfold jR;rw[a2H];rintro⟨h1,_⟩;rw[h1]at h;simp at h
def a6p:eX aF:=cu 109 (a2 pW pW) tA (fun p=>jR p.1.length p.2) (fun p=>[p.1.length<=ah,p.2.length<=ah]) aeK
theorem aiR:Gd a6p:=aol.add fun n hO p hp=>aO hO (.s (fun h=>.v false (a9U h).symm) fun h=>.z (c:=jT (bG (Zp (xw p.1) p.2) p.2.length)) (fun h2=>.w (jP (aiQ hO p.1 p.2 (hp _ (.tail _ (.head _)))) () h2) (.v true (by rw[<-X6 (hp _ (.head _)) (jr h),h2]))) fun h2=>.w (jQ (aiQ hO p.1 p.2 (hp _ (.tail _ (.head _)))) 0 h2) (.v false (by rw[<-X6 (hp _ (.head _)) (jr h),h2])))
abbrev cSz(a:List Int)(k:Nat):Bool:=!(mG (a.getD k 0) 1 12)
theorem a9V{a:List Int}:jT (bG (cSz a) a.length)=decide (lZ a):=by
 rw[a4i,dL,a1E,lZ,<-Oz (d:=0)];refine a9E fun j=>a9E fun hj=>?_;simp only[cSz,abp,uh]
abbrev w58(a b:List Int)(i:Int)(x:List (Nat×PE aF)):aS aF:=⟨[(0,xL 3 a),(1,xL 3 b),(5,xi i)]++x,[],[]⟩
def z58(a b:List Int):Unit⊕Nat->Ex×aS aF
 |.inl _=>(.exit 0,w58 a b a.length [(12,xl false)])
 |.inr _=>(.ret,⟨[(4,xi 3)],[],[]⟩)
theorem l58{n:Nat}(hO:Ok n a6p)(a b:List Int)(hl:a.length<=ah):Lp n 58 0 (w58 a b 0 []) (z58 a b (bG (cSz a) a.length)).1 (z58 a b (bG (cSz a) a.length)).2:=
 JV (st:=fun i _=>w58 a b i []) (fun _ _=>True) (by kernel_rfl) hl OE trivial (fun k s n hk _ ih=>aN hO (.b (bD hk) (.o (aH hk) (.ls (.ou nofun) (.nx (ih _ trivial)))))) (fun s _=>aN hO (.b (fF a.length) (.ou nofun)))
def bU(s o:List Int):Int:=if decide ((s.length:Int)>6)=true then 5 else if jT (bG (cSz s) s.length)=true then(if decide (EH s>2000)=true then 5 else if(!(jR s.length o))=true then 4 else 0)else 3
theorem a9W{s:List Int}(h:decide ((s.length:Int)>6)=false):s.length<=6:=by simp at h;omega
theorem X7{k:Nat}(h:k<=6):k<=ah:=by unfold ah;omega
def aiT:eX aF:=cu 58 (a2 pW pW) iA (fun p=>bU p.1 p.2) (fun p=>[p.2.length<=ah]) a6p
theorem aon:Gd aiT:=aiR.add fun n hO p hp=>aO hO (.sh (fun _=>.rr) fun h=>.zh (fun h2=>.w (jP (l58 hO p.1 p.2 (X7 (a9W h))) () h2) (.o (X7 (a9W h)) (.o (rfl:(0:Int)=0) (.ss .rr (.o (X7 (a9W h)) (.o (hp _ (.head _)) (.ss .rr .rr))))))) fun h2=>.w (jQ (l58 hO p.1 p.2 (X7 (a9W h))) 0 h2) .rr)
theorem OI(s o:List Int):bU s o=if 6<s.length then 5 else if lZ s then(if 2000<aY s then 5 else if jR s.length o=true then 0 else 4)else 3:=by
 unfold bU;rw[a9V];by_cases h1:6<s.length
 .rw[a0i h1,a0i (by simp;omega)]
 rw[a0g h1,a0g (by simp;omega)];by_cases h2:lZ s
 .rw[a0i (by simpa using h2),a0i h2,WW h2];by_cases h3:2000<aY s
  .rw[a0i h3,a0i (by simp;omega)]
  rw[a0g h3,a0g (by simp;omega)];cases jR s.length o<;>simp
 rw[a0g (by simpa using h2),a0g h2]
theorem jJ{s o:List Int}:bU s o=0↔rW s∧jR s.length o=true:=by
 rw[OI];constructor
 .intro h;split at h
  .cases h
  split at h
  .split at h
   .cases h
   split at h
   .exact⟨⟨by omega,by assumption,by omega⟩,by assumption⟩
   cases h
  cases h
 rintro⟨⟨h1,h2,h3⟩,h4⟩;rw[a0g (by omega),a0i h2,a0g (by omega),a0i h4]
abbrev w53(a:List Int)(i:Int)(s:Int×List Int)(x:List (Nat×PE aF)):aS aF:=⟨[(0,xL 3 a),(1,xi s.1),(5,xo 0),(6,xi i)]++x,[],[.list true true 3 s.2]⟩
theorem szk{a:List Int}(hs:lZ a){k:Nat}(hk:k<a.length):a.getD k 0≠0:=by have:=hs _ (dG hk);omega
theorem aeL(k:Nat):decide ((k:Int)>=0)=true:=by simp
theorem l53{n:Nat}{fH:eX aF}(hO:Ok n fH)(a:List Int)(m:Int)(hl:a.length<=ah)(hs:lZ a):Lp n 53 0 (w53 a (i64.wrap ((a.length:Int)-1)) (m,List.replicate a.length 0) []) (.exit 0) (w53 a (-1) (Oy (a2N a) a.length (m,List.replicate a.length 0)) [(14,xl false)]):=
 aie (st:=fun i s=>w53 a i s []) (fin:=fun s=>w53 a (-1) s [(14,xl false)]) (fun _ s=>s.2.length=a.length) (by kernel_rfl) hl OE (by simp) (fun k s _ h=>by simp[a2N,h]) (fun k s hk hi n e p h=>aN hO (.b (aeL k) (.o (aH hk) (.o (szk hs hk) (.o (aH (show k<s.2.length by omega)) (.o (aH hk) (.o (szk hs hk) (.go h)))))))) (fun s _=>aN hO (.b (rfl:decide ((-1:Int)>=0)=false) .ex))
theorem mk1{α:Type}(l:List α):(l.length:Int)=(l.length:Int):=rfl
theorem mk2{α:Type}(l:List α):(0:Int)<=(l.length:Int):=by omega
theorem mk3{α:Type}{l:List α}(h:l.length<=ah):(l.length:Int)<=(ah:Int):=by omega
def aiU:eX aF:=cu 53 (a2 pW iA) pW (fun p=>lY p.1 p.2) (fun p=>[p.1.length<=ah,lZ p.1,0<=p.2,p.2<2^62]) aiT
theorem aoo:Gd aiU:=aon.add fun n hO p hp=>aO hO (.o (mk1 p.1) (.o (mk2 p.1) (.o (mk3 (hp _ (.head _))) (.w (l53 hO p.1 p.2 (hp _ (.head _)) (hp _ (.tail _ (.head _)))) (.v (Oy (a2N p.1) p.1.length (p.2,List.replicate p.1.length 0)).2 (a6h (hp _ (.tail _ (.head _))) (hp _ (.tail _ (.tail _ (.head _)))) (hp _ (.tail _ (.tail _ (.tail _ (.head _))))) a8O))))))
abbrev w52(a b:List Int)(m i:Int)(x:List (Nat×PE aF)):aS aF:=⟨[(0,xL 3 a),(1,xL 3 b),(5,xi m),(6,xi i)]++x,[],[]⟩
theorem l52{n:Nat}{fH:eX aF}(hO:Ok n fH)(a b:List Int)(hl:a.length<=ah)(h:b.length=a.length):Lp n 52 0 (w52 a b 0 0 []) (.exit 0) (w52 a b (aif a b) a.length [(10,xl false)]):=
 H8 (st:=fun i m=>w52 a b m i []) (fin:=fun m=>w52 a b m a.length [(10,xl false)]) (fun _ _=>True) (by kernel_rfl) hl OE trivial (fun _ _ _ _=>trivial) (fun k s hk _ n e p g=>aN hO (.b (bD hk) (.o (aH hk) (.o (aH (h▸hk)) (.go g))))) (fun s _=>aN hO (.b (fF a.length) .ex))
def aeM:eX aF:=cu 52 (a2 pW pW) iA (fun p=>fB p.1 p.2) (fun p=>[gU p.1 p.2=true,rW p.1]) aiU
theorem aop:Gd aeM:=aoo.add fun n hO p hp=>aO hO (.w (l52 hO p.1 p.2 (X7 (show rW p.1 from hp _ (.tail _ (.head _))).len) (ku (hp _ (.head _)))) (.v _ (a9I (hp _ (.head _)) (show rW p.1 from hp _ (.tail _ (.head _))).sz (show rW p.1 from hp _ (.tail _ (.head _))).many)))
abbrev cPl(a b:List Int)(k:Nat):Bool:=!(mG (b.getD k 0) 0 (i64.wrap (a.getD k 0-1)))
abbrev w50(a b:List Int)(i:Int)(x:List (Nat×PE aF)):aS aF:=⟨[(0,xL 3 a),(1,xL 3 b),(5,xi i)]++x,[],[]⟩
def z50(a b:List Int):Unit⊕Nat->Ex×aS aF
 |.inl _=>(.exit 0,w50 a b b.length [(14,xl false)])
 |.inr _=>(.ret,⟨[(4,xl false)],[],[]⟩)
theorem l50{n:Nat}(hO:Ok n aeM)(a b:List Int)(hl:b.length<=ah)(h:b.length=a.length):Lp n 50 0 (w50 a b 0 []) (z50 a b (bG (cPl a b) b.length)).1 (z50 a b (bG (cPl a b) b.length)).2:=
 JV (st:=fun i _=>w50 a b i []) (fun _ _=>True) (by kernel_rfl) hl OE trivial (fun k s n hk _ ih=>aN hO (.b (bD hk) (.o (aH hk) (.o (aH (show k<a.length by omega)) (.ls (.ou nofun) (.nx (ih _ trivial))))))) (fun s _=>aN hO (.b (fF b.length) (.ou nofun)))
theorem a1a{a b:List Int}(hs:lZ a)(h:b.length=a.length):jT (bG (cPl a b) b.length)=gU a b:=by
 rw[a4i,dL,jI,h];simp only[true_and];refine a9E fun j=>a9E fun hj=>?_;have:=hs _ (dG hj);simp only[cPl,abp,uh];rw[eP (by omega) (by omega)];omega
theorem aeN{a b:List Int}(h:((b.length:Int) != (a.length:Int))=true):gU a b=false:=by
 cases h2:gU a b
 .rfl
 rw[ku h2]at h;simp at h
def aiW:eX aF:=cu 50 (a2 pW pW) tA (fun p=>gU p.1 p.2) (fun p=>[p.2.length<=ah,lZ p.1]) aeM
theorem aor:Gd aiW:=aop.add fun n hO p hp=>aO hO (.s (fun h=>.v false (aeN h).symm) fun h=>.z (c:=jT (bG (cPl p.1 p.2) p.2.length)) (fun h2=>.w (jP (l50 hO p.1 p.2 (hp _ (.head _)) (jr h)) () h2) (.v true (by rw[<-a1a (hp _ (.tail _ (.head _))) (jr h),h2]))) fun h2=>.w (jQ (l50 hO p.1 p.2 (hp _ (.head _)) (jr h)) 0 h2) (.v false (by rw[<-a1a (hp _ (.tail _ (.head _))) (jr h),h2])))
def vOk(v:V):Bool:=if(v.f==0)=true then mG v.n (-9999) 9999 else if(decide (v.f<=4))=true then v.n==0 else false
def aiX:eX aF:=cu 29 (a1 vA) tA (fun p=>vOk p) np aiW
theorem aos:Gd aiX:=aor.add fun n hO p hp=>aO hO (.ss .rr (.ss .rr .rr))
def vIs(v:V):Bool:=if(decide (v.f>0))=true then(if(decide (v.f<=4))=true then v.n==0 else false)else mG v.n (-9999) 9999
theorem aeO{v:V}(h:0<=v.f):vOk v=vIs v:=by
 unfold vOk vIs;by_cases h0:v.f=0
 .rw[a0i (by simp[h0]),a0g (by simp;omega)]
 have:v.f>0:=by omega
 simp[h0,this]
open Go Tw Pv cO
def dO(n:Nat):List Int:=(List.range n).map fun(k:Nat)=>(k:Int)
theorem lq(n:Nat):(dO n).length=n:=by simp[dO]
theorem RS(n:Nat):jR n (dO n)=true:=by
 unfold jR;rw[a1E];refine⟨lq n,fun a ha=>?_,?_⟩
 .simp only[dO,a1d,a4b]at ha;obtain⟨k,h1,rfl⟩:=ha;omega
 unfold dO;exact List.Pairwise.map _ (fun a b h=>by omega) adA
open Go Tw Pv cO
abbrev V.tv(v:V):TV:=.agg [.int .u8 v.f,.int .i64 v.n]
theorem a2V:Tryz.prog.underlying 3=some (.int .i64):=by kernel_rfl
theorem uU8:Tryz.prog.underlying 5=some (.int .u8):=by kernel_rfl
theorem aeP : Tryz.prog.underlying 39 = some (.struct #[⟨"Fault", 5, 0, false, "", "", 0⟩, ⟨"N", 3, 1, false, "", "", 8⟩]) := by kernel_rfl
theorem a1b(d:Nat)(a b:V):aB Qp (Op.equalIn (d+2) 39 (.agg #[.int .u8 a.f,.int .i64 a.n]) (.agg #[.int .u8 b.f,.int .i64 b.n]))=some (decide (a=b)):=by
 rw[xY (d+1) 39 _ _ _ aeP (by kernel_rfl)];have p0:∀x y:Value,aB Qp (part 5 #[x,y] 0)=some x:=by intro x y;kernel_rfl
 have p1:∀x y:Value,aB Qp (part 3 #[x,y] 1)=some y:=by intro x y;kernel_rfl
 have n1 : ("Fault" : String) ≠ "_" := by decide
 have n2 : ("N" : String) ≠ "_" := by decide
 have q1 := o7 (f := ⟨"Fault", 5, 0, false, "", "", 0⟩) (fs := [⟨"N", 3, 1, false, "", "", 8⟩]) n1 (p0 (.int .u8 a.f) (.int .i64 a.n)) (p0 (.int .u8 b.f) (.int .i64 b.n)) (qR d _ _ _ _ _ uU8);have q2 := o7 (f := ⟨"N", 3, 1, false, "", "", 8⟩) (fs := []) n2 (p1 (.int .u8 a.f) (.int .i64 a.n)) (p1 (.int .u8 b.f) (.int .i64 b.n)) (qR d _ _ _ _ _ a2V);rw[q1,q2];rw[show aB Qp (Op.eqFields (d+1) #[.int .u8 a.f,.int .i64 a.n] #[.int .u8 b.f,.int .i64 b.n] [])=some true from rfl];rcases a with⟨a1,a2⟩;rcases b with⟨b1,b2⟩;by_cases h1:a1=b1<;>by_cases h2:a2=b2<;>simp[h1,h2]
theorem eqV(x y:Operand)(a b:V):sD Qp .eql 39 x y (V.tv a) (V.tv b)=some (.bool (decide (a=b))):=(Gv rfl rfl (by kernel_rfl) (by decide) (a1b 9998 a b)).1
theorem neV(x y:Operand)(a b:V):sD Qp .neq 39 x y (V.tv a) (V.tv b)=some (.bool (!decide (a=b))):=(Gv rfl rfl (by kernel_rfl) (by decide) (a1b 9998 a b)).2
open Go Tw Pv cO
abbrev cAl(a b:List V)(k:Nat):Bool:=!decide (a.getD k V0=b.getD k V0)
abbrev w75(a b:List V)(i:Int)(x:List (Nat×PE aF)):aS aF:=⟨[(0,xL 39 a),(1,xL 39 b),(5,xi i)]++x,[],[]⟩
def z75(a b:List V):Unit⊕Nat->Ex×aS aF
 |.inl _=>(.exit 0,w75 a b a.length [(14,xl false)])
 |.inr _=>(.ret,⟨[(4,xl false)],[],[]⟩)
theorem l75{n:Nat}{fH:eX aF}(hO:Ok n fH)(a b:List V)(hl:a.length<=ah)(h:a.length=b.length):Lp n 75 0 (w75 a b 0 []) (z75 a b (bG (cAl a b) a.length)).1 (z75 a b (bG (cAl a b) a.length)).2:=
 JV (st:=fun i _=>w75 a b i []) (fun _ _=>True) (by kernel_rfl) hl OE trivial (fun k s n hk _ ih=>aN hO (.b (bD hk) (.o (aH hk) (.o (aH (h▸hk)) (.q (.bool (cAl a b k)) (neV (.tmp 20) (.tmp 24) (a.getD k V0) (b.getD k V0)) (.ls (.ou nofun) (.nx (ih _ trivial)))))))) (fun s _=>aN hO (.b (fF a.length) (.ou nofun)))
theorem a1c{a b:List V}(h:a.length=b.length):jT (bG (cAl a b) a.length)=decide (a=b):=by
 rw[a4i,dL,a1E,rJ (d:=V0) h];simp[cAl]
theorem a9X{a b:List V}(h:((a.length:Int) != (b.length:Int))=true):decide (a=b)=false:=by
 rw[a2H];rintro rfl;simp at h
def aiY:eX aF:=cu 75 (a2 vsA vsA) tA (fun p=>decide (p.1=p.2)) (fun p=>[p.1.length<=ah]) aiX
theorem aow:Gd aiY:=aos.add fun n hO p hp=>aO hO (.s (fun h=>.v false (a9X h).symm) fun h=>.z (c:=jT (bG (cAl p.1 p.2) p.1.length)) (fun h2=>.w (jP (l75 hO p.1 p.2 (hp _ (.head _)) (jr h)) () h2) (.v true (by rw[<-a1c (jr h),h2]))) fun h2=>.w (jQ (l75 hO p.1 p.2 (hp _ (.head _)) (jr h)) 0 h2) (.v false (by rw[<-a1c (jr h),h2])))
open Go Tw Pv cO
abbrev RhB(n f k B m:Nat)(s:aS aF)(e:Ex)(p:aS aF):Prop:=dJ X0 Qp T (bP n) LL f false (BG Qp f) B (RF Qp f k) m s e p
abbrev hdP(f k:Nat)(w:aS aF):aS aF:=gG X0 (T.eH f (dU (RF Qp f k))) w
section
variable {n f k B N:Nat} {σ ρ:Type}
theorem yg{st:Int->σ->aS aF}{g:Nat->σ->σ}{e:Ex}{fin:σ->aS aF}{s0:σ}{w:aS aF}(Inv:Nat->σ->Prop)(h0:hdP f k w=st 0 s0)(hl:N<=ah)(hi:Inv 0 s0)(hv:∀j s,j<N->Inv j s->Inv (j+1) (g j s))
  (hs:∀(j:Nat) (s:σ),j<N->Inv j s->∀m e1 p,RhB n f k B m (st (i64.wrap (j+1)) (g j s)) e1 p->RhB n f k B (m+1) (st j s) e1 p)
  (ho:∀s,Inv N s->RhB n f k B 1 (st N s) e (fin s)):OG n f k B w e (fin (aT g N 0 s0)):=H8 Inv h0 hl OE hi hv hs ho
theorem iZ{st:Int->σ->aS aF}{g:Nat->σ->σ⊕ρ}{out:σ⊕ρ->Ex×aS aF}{s0:σ}{w:aS aF}(Inv:Nat->σ->Prop)(h0:hdP f k w=st 0 s0)(hl:N<=ah)(hi:Inv 0 s0)
  (hs:∀(j:Nat) (s:σ) (m:Nat),j<N->Inv j s->(∀s1,Inv (j+1) s1->RhB n f k B m (st (i64.wrap (j+1)) s1) (vg (X:=X0) out g (N-(j+1)) (j+1) (.inl s1)).1 (vg (X:=X0) out g (N-(j+1)) (j+1) (.inl s1)).2) ->
   RhB n f k B (m+1) (st j s) (vg (X:=X0) out g (N-(j+1)) (j+1) (g j s)).1 (vg (X:=X0) out g (N-(j+1)) (j+1) (g j s)).2)
  (ho:∀s,Inv N s->RhB n f k B 1 (st N s) (out (.inl s)).1 (out (.inl s)).2):OG n f k B w (out (lG g N 0 s0)).1 (out (lG g N 0 s0)).2:=JV Inv h0 hl OE hi hs ho
theorem a9Y{a:Nat}{st:Int->σ->aS aF}{g:Nat->σ->σ⊕ρ}{out:σ⊕ρ->Ex×aS aF}{s0:σ}{w:aS aF}(Inv:Nat->σ->Prop)(h0:hdP f k w=st a s0)(ha:a<=N)(hl:N<=ah)(hi:Inv a s0)
  (hs:∀(j:Nat) (s:σ) (m:Nat),a<=j->j<N->Inv j s->(∀s1,Inv (j+1) s1->RhB n f k B m (st (i64.wrap (j+1)) s1) (vg (X:=X0) out g (N-(j+1)) (j+1) (.inl s1)).1 (vg (X:=X0) out g (N-(j+1)) (j+1) (.inl s1)).2) ->
   RhB n f k B (m+1) (st j s) (vg (X:=X0) out g (N-(j+1)) (j+1) (g j s)).1 (vg (X:=X0) out g (N-(j+1)) (j+1) (g j s)).2)
  (ho:∀s,Inv N s->RhB n f k B 1 (st N s) (out (.inl s)).1 (out (.inl s)).2):OG n f k B w (out (lG g (N-a) a s0)).1 (out (lG g (N-a) a s0)).2:=aeA Inv h0 ha hl OE hi hs ho
theorem Zq{st:σ->aS aF}{g:σ->σ⊕ρ}{out:ρ->Ex×aS aF}(Inv:σ->Prop){m:Nat}{s:σ}{r:ρ}{w:aS aF}(hr:itF g m s=some r)(h0:hdP f k w=st s)(hk:m<=LL)(hv:Inv s)(hi:∀s s1,Inv s->g s=.inl s1->Inv s1)
  (hs:∀s m r,Inv s->(∀s1,g s=.inl s1->RhB n f k B m (st s1) (out r).1 (out r).2)->RhB n f k B (m+1) (st s) (CX (X:=X0) out r (g s)).1 (CX (X:=X0) out r (g s)).2):OG n f k B w (out r).1 (out r).2:=aev Inv hr h0 hk hv hi hs
end
open Go Tw Pv cO
structure Prt(l:List V)(w n:Nat):Prop where
 n12:n<=12
 w2:w<=5000
 len:l.length=n*w
section
variable {l:List V} {w n j:Nat} (h:Prt l w n)
include h
end
theorem RU{α β:Type}(l:List α)(d:α)(f:α->β):(List.range l.length).map (fun k=>f (l.getD k d))=l.map f:=by
 apply aa0 (by simp);intro i h1 h2;have:i<l.length:=by simpa using h1
 simp[List.getD,a0b this]
open Go Tw Pv cO
theorem X8{s p:List Int}{ch d:Int}(hp:gU s p=true)(hc:gQ ch s.length)(hd:gQ d (s.getD ch.toNat 0).toNat):gU s (p.set ch.toNat d)=true:=by
 rw[jI]at hp ⊢;obtain⟨c1,c2⟩:=hc;obtain⟨d1,d2⟩:=hd;refine⟨by simp[hp.1],fun j hj=>?_⟩;rw[yU (by omega)];split
 .rename_i e;subst e;omega
 exact hp.2 j hj
open Go Tw Pv cO
abbrev au(d:Dg)(r:Int):Br:=d.aj.getD r.toNat kN
abbrev OJ(d:Dg)(r:Int)(k:Nat):Bool:=d.aG.getD k 0==(au d r).var
abbrev a2W(d:Dg)(r i:Int)(x:List (Nat×PE aF)):aS aF:=⟨[(1,xi r),(2,.loc 0 0),(5,xi i)]++x,[d.ps],[]⟩
def aiZ(d:Dg)(r:Int)(N:Nat):Unit⊕Nat->Ex×aS aF
 |.inl _=>(.exit 0,a2W d r N [(14,xl false)])
 |.inr k=>(.ret,⟨[(4,xi k)],[d.ps],[]⟩)
theorem aj0{r:Int}(h:0<=r):decide (r>=0)=true:=by simpa using h
theorem aj1{n:Nat}{fH:eX aF}(hO:Ok n fH)(d:Dg)(r:Int)(hl:d.aG.length<=ah)(h:gQ r d.aj.length):Lp n 177 0 (a2W d r 0 []) (aiZ d r d.aG.length (bG (OJ d r) d.aG.length)).1 (aiZ d r d.aG.length (bG (OJ d r) d.aG.length)).2:=
 iZ (st:=fun i _=>a2W d r i []) (fun _ _=>True) (by kernel_rfl) hl trivial (fun k s m hk _ ih=>aN hO (.b (aj0 h.1) (.b (bD hk) (.o (aH hk) (.o h (.ls (.ou nofun) (.nx (ih _ trivial)))))))) (fun s _=>aN hO (.b (aj0 h.1) (.b (fF d.aG.length) (.ou nofun))))
theorem aj2{n:Nat}{fH:eX aF}(hO:Ok n fH)(d:Dg)(r:Int)(h:r<0):Lp n 177 0 (a2W d r 0 []) (.exit 0) (a2W d r 0 [(14,xl false)]):=
 zl (ps:=a2W d r 0 []) (aN hO (.b (show decide (r>=0)=false by simpa using h) .ex)) (by kernel_rfl) (by decide:1<=LL)
def tV(d:Dg)(r:Int):Int:=if decide (r<0)=true then(d.aG.length:Int)else if jT (bG (OJ d r) d.aG.length)=true then(d.aG.length:Int)else((CW 0 (bG (OJ d r) d.aG.length):Nat):Int)
def aci:eX aF:=cu 177 (a2 dA iA) iA (fun p=>tV p.1 p.2) (fun p=>[p.1.aG.length<=ah,0<=p.2->gQ p.2 p.1.aj.length]) aiY
theorem aj3:Gd aci:=aow.add fun n hO p hp=>aO hO (.zh (fun h=>.w (aj2 hO p.1 p.2 (by simpa using h)) .rr) fun h=>.zh (fun h2=>.w (jP (aj1 hO p.1 p.2 (hp _ (.head _)) (hp (0<=p.2->gQ p.2 p.1.aj.length) (.tail _ (.head _)) (by simpa using h))) () h2) .rr) fun h2=>.w (jQ (aj1 hO p.1 p.2 (hp _ (.head _)) (hp (0<=p.2->gQ p.2 p.1.aj.length) (.tail _ (.head _)) (by simpa using h))) 0 h2) .rr)
def iJ(d:Dg)(r below:Int):Bool:=if decide (r>=0)=true then decide (r<below)else mG (i64.wrap (-1-r)) 0 (i64.wrap ((d.aI.length:Int)-1))
def acj:eX aF:=cu 176 (a3 dA iA iA) tA (fun p=>iJ p.1 p.2.1 p.2.2) np aci
theorem aj6:Gd acj:=aj3.add fun n hO p hp=>aO hO (.ss .rr .rr)
abbrev OL(b:Br)(k:Nat):Bool:=b.aA.getD k 0 != b.aA.getD 0 0
abbrev aeQ(b:Br)(i:Int)(x:List (Nat×PE aF)):aS aF:=⟨[(1,.loc 0 0),(3,xi i)]++x,[b.ps],[]⟩
def aj7(b:Br):Unit⊕Nat->Ex×aS aF
 |.inl _=>(.exit 0,aeQ b (max 1 b.aA.length:Nat) [(8,xl false)])
 |.inr _=>(.ret,⟨[(2,xl false)],[b.ps],[]⟩)
theorem aj8{n:Nat}{fH:eX aF}(hO:Ok n fH)(b:Br)(hl:b.aA.length<=ah):Lp n 132 0 (aeQ b 1 []) (aj7 b (RJ (OL b) 1 (max 1 b.aA.length))).1 (aj7 b (RJ (OL b) 1 (max 1 b.aA.length))).2:=
 a9Y (st:=fun i _=>aeQ b i []) (fun _ _=>True) (by kernel_rfl) (by omega) (by unfold ah at *;omega) trivial (fun k s m h1 hk _ ih=>aN hO (.b (bD (show k<b.aA.length by omega)) (.o (aH (show k<b.aA.length by omega)) (.o (show gQ 0 b.aA.length from⟨by omega,by omega⟩) (.ls (.ou nofun) (.nx (ih _ trivial))))))) (fun s _=>aN hO (.b (show decide (((max 1 b.aA.length:Nat):Int)<(b.aA.length:Int))=false by simp only[a2H];omega) (.ou nofun)))
def D9(b:Br):Bool:=if jT (RJ (OL b) 1 (max 1 b.aA.length))=true then true else false
def acn:eX aF:=cu 132 (a1 brA) tA (fun p=>D9 p) (fun p=>[p.aA.length<=ah]) acj
theorem aj9:Gd acn:=aj6.add fun n hO p hp=>aO hO (.zh (fun h=>.w (jP (aj8 hO p (hp _ (.head _))) () h) .rr) fun h=>.w (jQ (aj8 hO p (hp _ (.head _))) 0 h) .rr)
abbrev RV(l:List Int)(n:Int)(k:Nat):Bool:=l.getD k 0==n
abbrev aeR(l:List Int)(m i:Int)(x:List (Nat×PE aF)):aS aF:=⟨[(0,xL 3 l),(1,xi m),(5,xi i)]++x,[],[]⟩
def aja(l:List Int)(m:Int):Unit⊕Nat->Ex×aS aF
 |.inl _=>(.exit 0,aeR l m l.length [(9,xl false)])
 |.inr _=>(.ret,⟨[(4,xl true)],[],[]⟩)
theorem ajb{n:Nat}{fH:eX aF}(hO:Ok n fH)(l:List Int)(m:Int)(hl:l.length<=ah):Lp n 178 0 (aeR l m 0 []) (aja l m (bG (RV l m) l.length)).1 (aja l m (bG (RV l m) l.length)).2:=
 iZ (st:=fun i _=>aeR l m i []) (fun _ _=>True) (by kernel_rfl) hl trivial (fun k s m hk _ ih=>aN hO (.b (bD hk) (.o (aH hk) (.ls (.ou nofun) (.nx (ih _ trivial)))))) (fun s _=>aN hO (.b (fF l.length) (.ou nofun)))
theorem RX{l:List Int}{m:Int}:jT (bG (RV l m) l.length)=!decide (m∈l):=by
 rw[a4i,dL];simp only[a8x,a2H];constructor
 .intro h hm;obtain⟨j,hj,e⟩:=a4m.1 hm;have:=h j hj;simp[RV,List.getD,a0b hj,e]at this
 intro h j hj;have e:l.getD j 0=l[j]:=by simp[List.getD,a0b hj]
 simp only[RV,agD,ne_eq,e];intro e2;exact h (e2▸a4h hj)
def aco:eX aF:=cu 178 (a2 pW iA) tA (fun p=>decide (p.2∈p.1)) (fun p=>[p.1.length<=ah]) acn
theorem ajc:Gd aco:=aj9.add fun n hO p hp=>aO hO (.z (c:=jT (bG (RV p.1 p.2) p.1.length)) (fun h=>.w (jP (ajb hO p.1 p.2 (hp _ (.head _))) () h) (.v false (by rw[RX]at h;simp at h;simp[h]))) fun h=>.w (jQ (ajb hO p.1 p.2 (hp _ (.head _))) 0 h) (.v true (by rw[RX]at h;simp at h;simp[h])))
abbrev a6s(l:List Int)(k:Nat):Bool:=l.getD k 0 != (k:Int)
abbrev aeS(l:List Int)(m i:Int)(x:List (Nat×PE aF)):aS aF:=⟨[(0,xL 3 l),(1,xi m),(5,xi i)]++x,[],[]⟩
def ajd(l:List Int)(m:Int):Unit⊕Nat->Ex×aS aF
 |.inl _=>(.exit 0,aeS l m l.length [(9,xl false)])
 |.inr _=>(.ret,⟨[(4,xl false)],[],[]⟩)
theorem aje{n:Nat}{fH:eX aF}(hO:Ok n fH)(l:List Int)(m:Int)(hl:l.length<=ah):Lp n 134 0 (aeS l m 0 []) (ajd l m (bG (a6s l) l.length)).1 (ajd l m (bG (a6s l) l.length)).2:=
 iZ (st:=fun i _=>aeS l m i []) (fun _ _=>True) (by kernel_rfl) hl trivial (fun k s m hk _ ih=>aN hO (.b (bD hk) (.o (aH hk) (.ls (.ou nofun) (.nx (ih _ trivial)))))) (fun s _=>aN hO (.b (fF l.length) (.ou nofun)))
def zu(l:List Int)(m:Int):Bool:=if jT (bG (a6s l) l.length)=true then((l.length:Int)==m)else false
def X9:eX aF:=cu 134 (a2 pW iA) tA (fun p=>zu p.1 p.2) (fun p=>[p.1.length<=ah]) aco
theorem ajf:Gd X9:=ajc.add fun n hO p hp=>aO hO (.zh (fun h=>.w (jP (aje hO p.1 p.2 (hp _ (.head _))) () h) .rr) fun h=>.w (jQ (aje hO p.1 p.2 (hp _ (.head _))) 0 h) .rr)
abbrev cLk(d:Dg)(i k:Nat):Bool:=if(!(iJ d ((d.aj.getD i kN).aA.getD k 0) i))=true then true else decide (tV d ((d.aj.getD i kN).aA.getD k 0)<=tV d i)
abbrev fC(d:Dg)(i:Nat):Br:=d.aj.getD i kN
abbrev a6t(d:Dg)(i k:Int)(b:Br)(x:List (Nat×PE aF)):aS aF:=⟨[(1,.loc 0 0),(4,xi i),(5,.loc 1 0),(6,xi k)]++x,[d.ps,b.ps],[]⟩
def acp(d:Dg)(i:Nat):Unit⊕Nat->Ex×aS aF
 |.inl _=>(.exit 4,a6t d i (fC d i).aA.length (fC d i) [(57,xl false)])
 |.inr _=>(.ret,⟨[(2,xl false)],[d.ps,(fC d i).ps],[]⟩)
structure DgL(d:Dg):Prop where
 aG:d.aG.length<=ah
 aj:d.aj.length<=ah
 aI:d.aI.length<=ah
 dw:rW d.ay
theorem Xa{d:Dg}{r:Int}{i:Nat}(h:iJ d r i=true)(h0:0<=r)(hi:i<=d.aj.length):gQ r d.aj.length:=by
 unfold iJ at h;rw[a0i (by simpa using h0)]at h;have:r<(i:Int):=by simpa using h
 exact⟨h0,by omega⟩
theorem ajg{n:Nat}(hO:Ok n X9){d:Dg}(h:DgL d){i:Nat}(hi:i<d.aj.length)(hk:(fC d i).aA.length<=ah):Lp n 131 2 (a6t d i 0 (fC d i) []) (acp d i (bG (cLk d i) (fC d i).aA.length)).1 (acp d i (bG (cLk d i) (fC d i).aA.length)).2:=
 iZ (st:=fun k _=>a6t d i k (fC d i) []) (fun _ _=>True) (by kernel_rfl) hk trivial (fun k s m hk _ ih=>by
  unfold gS cLk;cases e1:iJ d ((fC d i).aA.getD k 0) i
  .exact aN hO (.b (bD hk) (.o (aH hk) (.b (show(!(iJ d ((fC d i).aA.getD k 0) i))=true by rw[e1];rfl) (.ou nofun))))
  .exact aN hO (.b (bD hk) (.o (aH hk) (.b (show(!(iJ d ((fC d i).aA.getD k 0) i))=false by rw[e1];rfl) (.o (aH hk) (.o h.aG (.o (show 0<=(fC d i).aA.getD k 0->gQ ((fC d i).aA.getD k 0) d.aj.length from fun h0=>Xa e1 h0 (by omega)) (.o h.aG (.o (show 0<=((i:Nat):Int)->gQ i d.aj.length from fun _=>aH hi) (.ls (.ou nofun) (.nx (ih _ trivial)))))))))))
  ) (fun s _=>aN hO (.b (fF (fC d i).aA.length) (.ou nofun)))
abbrev Zr(d:Dg)(i:Nat):Bool:=if(!(mG (fC d i).var 0 (xw d.ay)))=true then true else if(((fC d i).aA.length:Int) != d.ay.getD (fC d i).var.toNat 0)=true then true else if jT (bG (cLk d i) (fC d i).aA.length)=true then false else true
abbrev a6u(d:Dg)(i:Int)(x:List (Nat×PE aF)):aS aF:=⟨[(1,.loc 0 0),(4,xi i)]++x,[d.ps],[]⟩
def acr(d:Dg):Unit⊕Nat->Ex×aS aF
 |.inl _=>(.exit 2,a6u d d.aj.length [(25,xl false)])
 |.inr k=>(.ret,⟨[(2,xl false)],[d.ps,(fC d k).ps],[]⟩)
theorem J7{d:Dg}(h:rW d.ay){v:Int}(e:mG v 0 (xw d.ay)=true):gQ v d.ay.length:=by
 rw[uh,a6o h.aeC]at e;exact⟨e.1,by omega⟩
theorem Xb{d:Dg}(h:rW d.ay){v:Int}(e:gQ v d.ay.length){l:List Int}(hl:(((l.length:Int)) != d.ay.getD v.toNat 0)=false):l.length<=12:=by
 have:=h.sz _ (dG (s:=d.ay) (k:=v.toNat) (by have:=e.2;have:=e.1;omega));have hl:(l.length:Int)=d.ay.getD v.toNat 0:=by simpa using hl
 omega
theorem m12{k:Nat}(h:k<=12):k<=ah:=by unfold ah;omega
theorem acs{n:Nat}(hO:Ok n X9){d:Dg}(h:DgL d):Lp n 131 1 (a6u d 0 []) (acr d (bG (Zr d) d.aj.length)).1 (acr d (bG (Zr d) d.aj.length)).2:=
 iZ (st:=fun k _=>a6u d k []) (fun _ _=>True) (by kernel_rfl) h.aj trivial (fun k s m hk _ ih=>by
  unfold gS Zr;cases e1:mG (fC d k).var 0 (xw d.ay)
  .exact aN hO (.b (bD hk) (.o (aH hk) (.b (show(!(mG (fC d k).var 0 (xw d.ay)))=true by rw[e1];rfl) (.ou nofun))))
  .have hv:=J7 h.dw e1;cases e2:(((fC d k).aA.length:Int) != d.ay.getD (fC d k).var.toNat 0)
   .have hl:=ajg hO h hk (m12 (Xb h.dw hv e2));cases e3:jT (bG (cLk d k) (fC d k).aA.length)
    .exact aN hO (.b (bD hk) (.o (aH hk) (.b (show(!(mG (fC d k).var 0 (xw d.ay)))=false by rw[e1];rfl) (.o hv (.b e2 (.w (jQ hl 0 e3) (.ou nofun)))))))
    .exact aN hO (.b (bD hk) (.o (aH hk) (.b (show(!(mG (fC d k).var 0 (xw d.ay)))=false by rw[e1];rfl) (.o hv (.b e2 (.w (jP hl () e3) (.nx (ih _ trivial))))))))
   .exact aN hO (.b (bD hk) (.o (aH hk) (.b (show(!(mG (fC d k).var 0 (xw d.ay)))=false by rw[e1];rfl) (.o hv (.b e2 (.ou nofun))))))
  ) (fun s _=>aN hO (.b (fF d.aj.length) (.ou nofun)))
abbrev cLe(d:Dg)(k:Nat):Bool:=!(vOk (d.aI.getD k V0))
abbrev a6w(d:Dg)(i:Int)(x:List (Nat×PE aF)):aS aF:=⟨[(1,.loc 0 0),(3,xi i)]++x,[d.ps],[]⟩
def acu(d:Dg):Unit⊕Nat->Ex×aS aF
 |.inl _=>(.exit 0,a6w d d.aI.length [(11,xl false)])
 |.inr _=>(.ret,⟨[(2,xl false)],[d.ps],[]⟩)
theorem acv{n:Nat}(hO:Ok n X9){d:Dg}(h:DgL d):Lp n 131 0 (a6w d 0 []) (acu d (bG (cLe d) d.aI.length)).1 (acu d (bG (cLe d) d.aI.length)).2:=
 iZ (st:=fun k _=>a6w d k []) (fun _ _=>True) (by kernel_rfl) h.aI trivial (fun k s m hk _ ih=>aN hO (.b (bD hk) (.o (aH hk) (.ls (.ou nofun) (.nx (ih _ trivial)))))) (fun s _=>aN hO (.b (fF d.aI.length) (.ou nofun)))
def lu(d:Dg):Bool:=if jT (bG (cLe d) d.aI.length)=true then(if jT (bG (Zr d) d.aj.length)=true then iJ d d.root d.aj.length else false)else false
def acw:eX aF:=cu 131 (a1 dA) tA (fun p=>lu p) (fun p=>[DgL p]) X9
theorem ajh:Gd acw:=ajf.add fun n hO p hp=>aO hO (.zh (fun h=>.w (jP (acv hO (show DgL p from hp _ (.head _))) () h) (.zh (fun h2=>.w (jP (acs hO (show DgL p from hp _ (.head _))) () h2) .rr) fun h2=>.w (jQ (acs hO (show DgL p from hp _ (.head _))) 0 h2) .rr)) fun h=>.w (jQ (acv hO (show DgL p from hp _ (.head _))) 0 h) .rr)
def aW(d:Dg):Int:=if(bU d.ay d.aG != 0)=true then bU d.ay d.aG else if decide ((d.aj.length:Int)>6000)=true then 5 else if(!(lu d))=true then 4 else 0
theorem Us{k:Nat}(h:decide ((k:Int)>6000)=false):k<=ah:=by simp at h;unfold ah;omega
theorem Au{s o:List Int}(h:(bU s o != 0)=false):rW s:=(jJ.1 (by simpa using h)).1
def a9Z:eX aF:=cu 83 (a1 dA) iA (fun p=>aW p) (fun p=>[p.aG.length<=ah,p.aI.length<=ah]) acw
theorem aox:Gd a9Z:=ajh.add fun n hO p hp=>aO hO (.o (hp _ (.head _)) (.sh (fun _=>.rr) fun h=>.sh (fun _=>.rr) fun h2=>.o (show DgL p from⟨hp _ (.head _),Us h2,hp _ (.tail _ (.head _)),Au h⟩) (.ss .rr .rr)))
open Go Tw Pv cO
abbrev jB(r:Int):Int:=i64.wrap (-1-r)
def jK(d:Dg):Nat->Int->List Int×List Int->List Int×List Int
 | 0,_,x=>x
 |F+1,r,x=>if decide (r<0)=true then(if(!(decide (jB r∈x.2)))=true then(x.1,x.2++[jB r])else x)else if decide (r∈x.1)=true then x
  else((aT (fun k y=>jK d F ((au d r).aA.getD k 0) y) (au d r).aA.length 0 x).1++[r],(aT (fun k y=>jK d F ((au d r).aA.getD k 0) y) (au d r).aA.length 0 x).2)
def ji(d:Dg)(r:Int)(b:Nat):Prop:=r<b∧(r<0->gQ (jB r) d.aI.length)
structure Bj(d:Dg):Prop extends DgL d where
 zy:∀i,i<d.aj.length->∀k,k<(fC d i).aA.length->ji d ((fC d i).aA.getD k 0) i
 KP:∀i,i<d.aj.length->(fC d i).aA.length<=12
 var:∀i,i<d.aj.length->gQ (fC d i).var d.ay.length
 ksz:∀i,i<d.aj.length->((fC d i).aA.length:Int)=d.ay.getD (fC d i).var.toNat 0
 root:ji d d.root d.aj.length
structure J8(d:Dg)(x:List Int×List Int):Prop where
 n1:x.1.Nodup
 n2:∀a∈x.1,gQ a d.aj.length
 e1:x.2.Nodup
 e2:∀a∈x.2,gQ a d.aI.length
theorem zA:∀(N:Nat) (l:List Int),l.Nodup->(∀a∈l,gQ a N)->l.length<=N
 | 0,[],_,_=>a0V _
 | 0,a::l,_,h=>by obtain⟨h1,h2⟩:=h a (a2T ..);omega
 |N+1,l,hn,h=>by
  have h1:=zA N (l.erase (N:Int)) (hn.erase _) fun a ha=>by
   have h2:=(List.Nodup.mem_erase_iff hn).1 ha;have h3:=h a h2.2;exact⟨h3.1,by have:=h3.2;have:=h2.1;omega⟩
  by_cases hm:(N:Int)∈l
  .rw[List.length_erase_of_mem hm]at h1;omega
  rw[List.erase_of_not_mem hm]at h1;omega
theorem J8.len{d:Dg}{x:List Int×List Int}(h:J8 d x):x.1.length<=d.aj.length∧x.2.length<=d.aI.length:=⟨zA _ _ h.n1 h.n2,zA _ _ h.e1 h.e2⟩
theorem wQ{l:List Int}{a:Int}(h:l.Nodup)(ha:a∉l):(l++[a]).Nodup:=by
 rw[a8w];exact⟨h,by simp,fun x hx y hy e=>by simp at hy;subst hy;subst e;exact ha hx⟩
theorem a6x{d:Dg}:∀(F:Nat) (r s:Int) (x:List Int×List Int),r<s->s∉x.1->0<=s->(∀i,i<d.aj.length->∀k,k<(fC d i).aA.length->(fC d i).aA.getD k 0<i)->(0<=r->gQ r d.aj.length)->s∉(jK d F r x).1
 | 0,_,_,_,_,h,_,_,_=>h
 |F+1,r,s,x,hr,h,h0,hk,hn=>by
  unfold jK;by_cases c:r<0
  .rw[a0i (by simpa using c)];split<;>exact h
  rw[a0g (by simpa using c)];split
  .exact h
  have hi:=hn (by omega);have Dv:∀k,k<(au d r).aA.length->(au d r).aA.getD k 0<r:=fun k mO=>by
   obtain⟨i1,i2⟩:=hi;have h9:(au d r).aA.getD k 0<(r.toNat:Int):=hk r.toNat (by omega) k mO;omega
  have:=dD (g:=fun k y=>jK d F ((au d r).aA.getD k 0) y) (m:=(au d r).aA.length) (k:=0) (s:=x) (fun _ y=>s∉y.1) h (fun j y _ hj hy=>by
   have h4:=Dv j (by omega);exact a6x F _ s y (by omega) hy h0 hk fun h5=>⟨h5,by have:=hi.2;omega⟩)
  simp only[a2X,a2J,ada];exact⟨this,by omega⟩
theorem JZ{d:Dg}(h:Bj d):∀(F:Nat) (r:Int) (x:List Int×List Int),J8 d x->ji d r d.aj.length->J8 d (jK d F r x)
 | 0,_,_,hx,_=>hx
 |F+1,r,x,hx,hr=>by
  unfold jK;by_cases c:r<0
  .rw[a0i (by simpa using c)];split
   .rename_i c2;have c2:jB r∉x.2:=(by simpa using c2);refine⟨hx.n1,hx.n2,wQ hx.e1 c2,fun a ha=>?_⟩;rw[a2X,a2J]at ha;rcases ha with ha|rfl
    .exact hx.e2 a ha
    exact hr.2 c
   exact hx
  rw[a0g (by simpa using c)];split
  .exact hx
  rename_i c2;have c2:r∉x.1:=by simpa using c2
  have hi:gQ r d.aj.length:=⟨by omega,hr.1⟩;have aQ:r.toNat<d.aj.length:=by have:=hr.1;omega
  have h1:=dD (g:=fun k y=>jK d F ((au d r).aA.getD k 0) y) (m:=(au d r).aA.length) (k:=0) (s:=x) (fun _ y=>J8 d y∧r∉y.1) ⟨hx,c2⟩ (fun j y _ hj hy=>by
   have hk:ji d ((au d r).aA.getD j 0) r.toNat:=h.zy r.toNat aQ j (by simpa using hj);obtain⟨k1,k2⟩:=hk;have mO:ji d ((au d r).aA.getD j 0) d.aj.length:=⟨by omega,k2⟩;refine⟨JZ h F _ y hy.1 mO,a6x F _ r y (by omega) hy.2 (by omega) (fun i hi k hk=>(h.zy i hi k hk).1) fun h5=>⟨h5,mO.1⟩⟩)
  obtain⟨h2,h3⟩:=h1;refine⟨wQ h2.n1 h3,fun a ha=>?_,h2.e1,h2.e2⟩;rw[a2X,a2J]at ha;rcases ha with ha|rfl
  .exact h2.n2 a ha
  exact hi
abbrev ls(l:List Int):PB aF:=.list false false 3 l
abbrev wSr(d:Dg)(r:Int)(k:Int)(s:List Int×List Int)(x:List (Nat×PE aF)):aS aF:=⟨[(1,xi r),(2,xo 2),(3,xo 3),(4,.loc 0 0),(10,.loc 1 0),(11,xi k)]++x,[d.ps,(au d r).ps],[.gone,.gone,ls s.1,ls s.2]⟩
abbrev aji(n:Nat)(d:Dg)(r:Int)(x y:List Int×List Int):Prop:=aX X0 Qp (bP n) (.fn 133 [] []) [.agg d.ps,.int .i64 r,.own 0,.own 1] [ls x.1,ls x.2] (.dI [.own 2,.own 3]) [.gone,.gone,ls y.1,ls y.2]
theorem sSr{N:Nat}(hO:∀m,N<=m->Ok m a9Z){d:Dg}(h:Bj d):∀(F:Nat) (r:Int) (x:List Int×List Int),r+1<F->J8 d x->ji d r d.aj.length->1<=F->aji (N+F) d r x (jK d F r x)
 | 0,r,x,_,_,_,h1=>by omega
 |F+1,r,x,hF,hx,hr,_=>by
  have hn:=hx.len.1;have he:=hx.len.2;have m1:=h.aj;have m2:=h.aI;have Fz:=hO (N+F) (by omega);have mn:x.1.length<=ah:=by omega
  have me:x.2.length<=ah:=by omega
  unfold jK;by_cases c:r<0
  .have t0:decide (r<0)=true:=(by simpa using c);rw[a0i t0];by_cases c2:jB r∈x.2
   .have t1:(!(decide (jB r∈x.2)))=false:=(by simpa using c2);rw[a0g (by rw[t1];simp)];exact aX.gs hX (qX hX Fz (first:=[]) (cap:=[]) (v:=.dI [.own 0,.own 1]) (H1:=[ls x.1,ls x.2]) (by kernel_rfl) (.b t0 (.o me (.b t1 .er)))) [.mv 0,.mv 1] rfl
   have t1:(!(decide (jB r∈x.2)))=true:=(by simpa using c2);rw[a0i t1];have e1:=zA _ _ (wQ hx.e1 c2) (fun a ha=>by
    rw[a2X,a2J]at ha;rcases ha with ha|rfl
    .exact hx.e2 a ha
    exact hr.2 c)
   have e2:x.2.length+[jB r].length<=ah:=by rw[<-a1X];omega
   exact aX.gs hX (qX hX Fz (first:=[]) (cap:=[]) (v:=.dI [.own 0,.own 3]) (H1:=[ls x.1,.gone,.list true true 3 ([jB r]:List Int),ls (x.2++[jB r])]) (by kernel_rfl) (.b t0 (.o me (.b t1 (.o e2 .er))))) [.mv 0,.gc [4,3]] rfl
  have t0:decide (r<0)=false:=by simpa using c
  rw[a0g (by rw[t0];simp)];by_cases c2:r∈x.1
  .have t1:decide (r∈x.1)=true:=(by simpa using c2);rw[a0i t1];exact aX.gs hX (qX hX Fz (first:=[]) (cap:=[]) (v:=.dI [.own 0,.own 1]) (H1:=[ls x.1,ls x.2]) (by kernel_rfl) (.b t0 (.o mn (.b t1 .er)))) [.mv 0,.mv 1] rfl
  have t1:decide (r∈x.1)=false:=by simpa using c2
  rw[a0g (by rw[t1];simp)];have hi:gQ r d.aj.length:=⟨by omega,hr.1⟩;obtain⟨i1,i2⟩:=id hi;have aQ:r.toNat<d.aj.length:=by omega
  have hl:OG (N+F) 133 0 2 (wSr d r 0 x []) (.exit 0) (wSr d r (au d r).aA.length (aT (fun k y=>jK d F ((au d r).aA.getD k 0) y) (au d r).aA.length 0 x) [(40,xl false)]):=by
   refine yg (σ:=List Int×List Int) (N:=(au d r).aA.length) (g:=fun k y=>jK d F ((au d r).aA.getD k 0) y) (s0:=x) (st:=fun k y=>wSr d r k y []) (fin:=fun y=>wSr d r (au d r).aA.length y [(40,xl false)]) (fun _ y=>J8 d y) (by kernel_rfl) (m12 (h.KP r.toNat aQ)) hx (fun k y hk hy=>?_) (fun k y hk hy m e p g=>?_) (fun y _=>aN Fz (.b (fF (au d r).aA.length) .ex))
   .have hk:ji d ((au d r).aA.getD k 0) r.toNat:=h.zy r.toNat aQ k hk;have k1:(au d r).aA.getD k 0<(r.toNat:Int):=hk.1;exact JZ h F _ y hy ⟨by omega,hk.2⟩
   have mO:ji d ((au d r).aA.getD k 0) r.toNat:=h.zy r.toNat aQ k hk;have k1:=mO.1;have hs:=sSr hO h F ((au d r).aA.getD k 0) y (by omega) hy ⟨by omega,mO.2⟩ (by omega);exact aN Fz (.b (bD hk) (.o (aH hk) (.fr [2,3] hs (.goG [.gc [4,5]] g))))
  generalize hy:aT (fun k y=>jK d F ((au d r).aA.getD k 0) y) (au d r).aA.length 0 x=y at hl;have sk:=JZ h (F+1) r x hx hr;unfold jK at sk;rw[a0g (by rw[t0];simp),a0g (by rw[t1];simp),hy]at sk;have sl:(y.1++[r]).length<=d.aj.length:=sk.len.1;have ml:y.1.length+[r].length<=ah:=by rw[<-a1X];omega
  exact aX.gs hX (qX hX Fz (first:=[]) (cap:=[]) (v:=.dI [.own 5,.own 3]) (H1:=[.gone,.gone,.gone,ls y.2,.list true true 3 ([r]:List Int),ls (y.1++[r])]) (by kernel_rfl) (.b t0 (.o mn (.b t1 (.o hi (.wG [.mv 0,.mv 1] hl (.o ml .er))))))) [.gc [5,3]] rfl
def nlA:Arg Unit where
 put _:=.nil .slc
 get v:=match v with
  |.nil .slc=>some ()
  |_=>none
 ok:=by
  intro v a hg A m h x hv;split at hg
  .exact hv
  .cases hg
abbrev wSn(d:Dg)(r:Int)(k:Int)(s:List Int×List Int)(x:List (Nat×PE aF)):aS aF:=⟨[(1,xi r),(2,xo 0),(3,xo 1),(4,.loc 0 0),(10,.loc 1 0),(11,xi k)]++x,[d.ps,(au d r).ps],[ls s.1,ls s.2]⟩
theorem sr0{d:Dg}:J8 d ([],[]):=⟨a5F,by simp,a5F,by simp⟩
def srN(d:Dg)(r:Int):List Int:=(jK d 6002 r ([],[])).1
def srE(d:Dg)(r:Int):List Int:=(jK d 6002 r ([],[])).2
def a1e:eX aF:=cu 133 (a4 dA iA nlA nlA) (dR (a2 pW pW)) (fun p=>(srN p.1 p.2.1,srE p.1 p.2.1)) (fun p=>[Bj p.1,ji p.1 p.2.1 p.1.aj.length,p.1.aj.length<=6000]) a9Z
theorem ajk:Gd a1e:=aox.deep 6001 fun n hn hO p hp=>by
 obtain⟨d,r,_,_⟩:=p;have h:Bj d:=hp _ (.head _);have hr:ji d r d.aj.length:=hp _ (.tail _ (.head _));have hm:d.aj.length<=6000:=hp _ (.tail _ (.tail _ (.head _)));obtain⟨N,rfl⟩:∃N,n=N+6001:=⟨n-6001,by omega⟩;have hO:∀m,N<=m->Ok m a9Z:=fun m hm=>hO m (by omega);have Fz:=hO (N+6001) (by omega);by_cases c:r<0
 .have t0:decide (r<0)=true:=by simpa using c
  have t1:(!(decide (jB r∈([]:List Int))))=true:=by simp
  have e:jK d 6002 r ([],[])=([],[jB r]):=by
   rw[jK,a0i t0,a0i t1];rfl
  show oh X0 Qp _ _ _ ((dR (a2 pW pW)).put ((jK d 6002 r ([],[])).1,(jK d 6002 r ([],[])).2)) [];rw[e];exact aO Fz (.b t0 (.o le0 (.b t1 (.o le1 (.rn (.dI [.nil .slc,.dn 3 ([jB r]:List Int) false]) rfl)))))
 .have t0:decide (r<0)=false:=by simpa using c
  have t1:decide (r∈([]:List Int))=false:=by simp
  have hi:gQ r d.aj.length:=⟨by omega,hr.1⟩;obtain⟨i1,i2⟩:=id hi;have aQ:r.toNat<d.aj.length:=by omega
  have hl:OG (N+6001) 133 0 0 (wSn d r 0 ([],[]) []) (.exit 0) (wSn d r (au d r).aA.length (aT (fun k y=>jK d 6001 ((au d r).aA.getD k 0) y) (au d r).aA.length 0 ([],[])) [(40,xl false)]):=by
   refine yg (σ:=List Int×List Int) (N:=(au d r).aA.length) (g:=fun k y=>jK d 6001 ((au d r).aA.getD k 0) y) (s0:=(([],[]):List Int×List Int)) (st:=fun k y=>wSn d r k y []) (fin:=fun y=>wSn d r (au d r).aA.length y [(40,xl false)]) (fun _ y=>J8 d y) (by kernel_rfl) (m12 (h.KP r.toNat aQ)) sr0 (fun k y hk hy=>?_) (fun k y hk hy m e p g=>?_) (fun y _=>aN Fz (.b (fF (au d r).aA.length) .ex))
   .have hk:ji d ((au d r).aA.getD k 0) r.toNat:=h.zy r.toNat aQ k hk;have k1:(au d r).aA.getD k 0<(r.toNat:Int):=hk.1;exact JZ h 6001 _ y hy ⟨by omega,hk.2⟩
   .have mO:ji d ((au d r).aA.getD k 0) r.toNat:=h.zy r.toNat aQ k hk;have k1:(au d r).aA.getD k 0<(r.toNat:Int):=mO.1;have hs:=sSr hO h 6001 ((au d r).aA.getD k 0) y (by omega) hy ⟨by omega,mO.2⟩ (by omega);exact aN Fz (.b (bD hk) (.o (aH hk) (.fr [0,1] hs (.goG [.gc [2,3]] g))))
  have sk:=JZ h 6002 r ([],[]) sr0 hr;have e:jK d 6002 r ([],[])=((aT (fun k y=>jK d 6001 ((au d r).aA.getD k 0) y) (au d r).aA.length 0 ([],[])).1++[r],(aT (fun k y=>jK d 6001 ((au d r).aA.getD k 0) y) (au d r).aA.length 0 ([],[])).2):=by
   rw[jK,a0g (by rw[t0];simp),a0g (by rw[t1];simp)]
  show oh X0 Qp _ _ _ ((dR (a2 pW pW)).put ((jK d 6002 r ([],[])).1,(jK d 6002 r ([],[])).2)) [];rw[e]at sk ⊢;generalize aT (fun k y=>jK d 6001 ((au d r).aA.getD k 0) y) (au d r).aA.length 0 ([],[])=y at hl sk;have sl:(y.1++[r]).length<=d.aj.length:=sk.len.1;have m1:=h.aj;have ml:y.1.length+[r].length<=ah:=by rw[<-a1X];omega
  exact aO Fz (.b t0 (.o le0 (.b t1 (.o hi (.wG [.IG 2 3,.IG 3 3] hl (.o ml .rr))))))
open Go Tw Pv cO
abbrev cD1(d:Dg)(i j:Nat):Bool:=decide (d.aI.getD j V0=d.aI.getD i V0)
abbrev cD0(d:Dg)(i:Nat):Bool:=if jT (bG (cD1 d i) i)=true then false else true
abbrev cD3(d:Dg)(i j:Nat):Bool:=if((fC d j).var==(fC d i).var)=true then decide ((fC d j).aA=(fC d i).aA)else false
abbrev cD2(d:Dg)(i:Nat):Bool:=if D9 (fC d i)=true then true else if jT (bG (cD3 d i) i)=true then false else true
abbrev wD(d:Dg)(x:List (Nat×PE aF)):aS aF:=⟨[(1,.loc 0 0)]++x,[d.ps],[]⟩
abbrev rD(d:Dg):Ex×aS aF:=(.ret,⟨[(2,xl false)],[d.ps],[]⟩)
def zD1(d:Dg)(i:Nat):Unit⊕Nat->Ex×aS aF
 |.inl _=>(.exit 2,wD d [(3,xi i),(4,xi i),(18,xl false)])
 |.inr _=>rD d
theorem lD1{n:Nat}{fH:eX aF}(hO:Ok n fH){d:Dg}(h:DgL d){i:Nat}(hi:i<d.aI.length):Lp n 84 1 (wD d [(3,xi i),(4,xi 0)]) (zD1 d i (bG (cD1 d i) i)).1 (zD1 d i (bG (cD1 d i) i)).2:=
 iZ (st:=fun j _=>wD d [(3,xi i),(4,xi j)]) (fun _ _=>True) (by kernel_rfl) (by have:=h.aI;omega) trivial (fun j s m hj _ ih=>aN hO (.b (bD hj) (.o (aH (show j<d.aI.length by omega)) (.o (aH hi) (.q (.bool (cD1 d i j)) (eqV (.tmp 25) (.tmp 30) (d.aI.getD j V0) (d.aI.getD i V0)) (.ls (.ou nofun) (.nx (ih _ trivial)))))))) (fun s _=>aN hO (.b (fF i) (.ou nofun)))
def zD0(d:Dg):Unit⊕Nat->Ex×aS aF
 |.inl _=>(.exit 0,wD d [(3,xi d.aI.length),(13,xl false)])
 |.inr _=>rD d
theorem lD0{n:Nat}{fH:eX aF}(hO:Ok n fH){d:Dg}(h:DgL d):Lp n 84 0 (wD d [(3,xi 0)]) (zD0 d (bG (cD0 d) d.aI.length)).1 (zD0 d (bG (cD0 d) d.aI.length)).2:=
 iZ (st:=fun i _=>wD d [(3,xi i)]) (fun _ _=>True) (by kernel_rfl) h.aI trivial (fun i s m hi _ ih=>by
  have hl:=lD1 hO h hi;unfold gS cD0;cases e:jT (bG (cD1 d i) i)
  .exact aN hO (.b (bD hi) (.w (jQ hl 0 e) (.ou nofun)))
  .exact aN hO (.b (bD hi) (.w (jP hl () e) (.nx (ih _ trivial))))
  ) (fun s _=>aN hO (.b (fF d.aI.length) (.ou nofun)))
def zD3(d:Dg)(i:Nat):Unit⊕Nat->Ex×aS aF
 |.inl _=>(.exit 6,wD d [(5,xi i),(6,xi i),(47,xl false)])
 |.inr _=>rD d
theorem lD3{n:Nat}(hO:Ok n a1e){d:Dg}(h:Bj d){i:Nat}(hi:i<d.aj.length):Lp n 84 3 (wD d [(5,xi i),(6,xi 0)]) (zD3 d i (bG (cD3 d i) i)).1 (zD3 d i (bG (cD3 d i) i)).2:=
 iZ (st:=fun j _=>wD d [(5,xi i),(6,xi j)]) (fun _ _=>True) (by kernel_rfl) (by have:=h.aj;omega) trivial (fun j s m hj _ ih=>by
  have rQ:j<d.aj.length:=by omega
  unfold gS cD3;cases e:((fC d j).var==(fC d i).var)
  .exact aN hO (.b (bD hj) (.o (aH rQ) (.o (aH hi) (.b e (.nx (ih _ trivial))))))
  .exact aN hO (.b (bD hj) (.o (aH rQ) (.o (aH hi) (.b e (.o (aH rQ) (.o (aH hi) (.o (m12 (h.KP j rQ)) (.ls (.ou nofun) (.nx (ih _ trivial))))))))))
  ) (fun s _=>aN hO (.b (fF i) (.ou nofun)))
def zD2(d:Dg):Unit⊕Nat->Ex×aS aF
 |.inl _=>(.exit 4,wD d [(5,xi d.aj.length),(36,xl false)])
 |.inr _=>rD d
theorem lD2{n:Nat}(hO:Ok n a1e){d:Dg}(h:Bj d):Lp n 84 2 (wD d [(5,xi 0)]) (zD2 d (bG (cD2 d) d.aj.length)).1 (zD2 d (bG (cD2 d) d.aj.length)).2:=
 iZ (st:=fun i _=>wD d [(5,xi i)]) (fun _ _=>True) (by kernel_rfl) h.aj trivial (fun i s m hi _ ih=>by
  have hl:=lD3 hO h hi;unfold gS cD2;cases e1:D9 (fC d i)
  .cases e:jT (bG (cD3 d i) i)
   .exact aN hO (.b (bD hi) (.o (aH hi) (.o (m12 (h.KP i hi)) (.b e1 (.w (jQ hl 0 e) (.ou nofun))))))
   .exact aN hO (.b (bD hi) (.o (aH hi) (.o (m12 (h.KP i hi)) (.b e1 (.w (jP hl () e) (.nx (ih _ trivial)))))))
  .exact aN hO (.b (bD hi) (.o (aH hi) (.o (m12 (h.KP i hi)) (.b e1 (.ou nofun)))))
  ) (fun s _=>aN hO (.b (fF d.aj.length) (.ou nofun)))
def nN(d:Dg):Bool:=if jT (bG (cD0 d) d.aI.length)=true then(if jT (bG (cD2 d) d.aj.length)=true then(if zu (srN d d.root) (d.aj.length:Int)=true then zu (srE d d.root) (d.aI.length:Int)else false)else false)else false
theorem a1f{d:Dg}(h:Bj d):(srN d d.root).length<=ah∧(srE d d.root).length<=ah:=by
 have hl:=(JZ h 6002 d.root ([],[]) sr0 h.root).len;exact⟨a4E hl.1 h.aj,a4E hl.2 h.aI⟩
def ajl:eX aF:=cu 84 (a1 dA) tA (fun p=>nN p) (fun p=>[Bj p,p.aj.length<=6000]) a1e
theorem aoy:Gd ajl:=ajk.add fun n hO p hp=>aO hO (.zh (fun h=>.w (jP (lD0 hO (show Bj p from hp _ (.head _)).toDgL) () h) (.zh (fun h2=>.w (jP (lD2 hO (show Bj p from hp _ (.head _))) () h2) (.o (hp _ (.head _)) (.o (show Bj p from hp _ (.head _)).root (.o (hp _ (.tail _ (.head _))) (.o (a1f (hp _ (.head _))).1 (.ss (.o (a1f (hp _ (.head _))).2 .rr) .rr)))))) fun h2=>.w (jQ (lD2 hO (show Bj p from hp _ (.head _))) 0 h2) .rr)) fun h=>.w (jQ (lD0 hO (show Bj p from hp _ (.head _)).toDgL) 0 h) .rr)
theorem Xc{d:Dg}(hm:d.aI.length<=ah){r:Int}{b:Nat}(h:iJ d r b=true):ji d r b:=by
 unfold iJ at h;by_cases c:0<=r
 .rw[a0i (by simpa using c)]at h;exact⟨by simpa using h,fun h2=>by omega⟩
 rw[a0g (by simpa using c),uh]at h;have e:i64.wrap ((d.aI.length:Int)-1)=(d.aI.length:Int)-1:=by unfold ah at hm;exact eP (by omega) (by omega)
 rw[e]at h;obtain⟨h1,h2⟩:=h;exact⟨by omega,fun _=>⟨h1,show jB r<_ by show i64.wrap (-1-r)<_;omega⟩⟩
theorem a6y{d:Dg}(h:DgL d)(hl:lu d=true):Bj d:=by
 unfold lu at hl;split at hl
 rotate_left
 .cases hl
 split at hl
 rotate_left
 .cases hl
 rename_i h1 h2;have h2:=dL.1 h2;have key:∀i,i<d.aj.length->mG (fC d i).var 0 (xw d.ay)=true∧(((fC d i).aA.length:Int) != d.ay.getD (fC d i).var.toNat 0)=false∧jT (bG (cLk d i) (fC d i).aA.length)=true:=fun i hi=>by
  have:=h2 i hi;unfold Zr at this;split at this
  .cases this
  split at this
  .cases this
  split at this
  .rename_i a b c;exact⟨by simpa using a,by simpa using b,c⟩
  cases this
 refine⟨h,fun i hi k hk=>?_,fun i hi=>?_,fun i hi=>?_,fun i hi=>?_,Xc h.aI hl⟩
 .have:=dL.1 (key i hi).2.2 k hk;unfold cLk at this;split at this
  .cases this
  rename_i a;exact Xc h.aI (by simpa using a)
 .exact Xb h.dw (J7 h.dw (key i hi).1) (key i hi).2.1
 .exact J7 h.dw (key i hi).1
 simpa using(key i hi).2.1
theorem kE{d:Dg}(ho:d.aG.length<=ah)(he:d.aI.length<=ah)(h:(aW d != 0)=false):Bj d∧d.aj.length<=6000:=by
 unfold aW at h;split at h
 .rename_i h1;simp at h h1;exact absurd h h1
 split at h
 .cases h
 split at h
 .cases h
 rename_i h1 h2 h3;have h2:decide ((d.aj.length:Int)>6000)=false:=by simpa using h2
 exact⟨a6y ⟨ho,Us h2,he,Au (by simpa using h1)⟩ (by simpa using h3),by simp at h2;omega⟩
def qy(d:Dg):Int:=if(aW d != 0)=true then aW d else if(!(nN d))=true then 4 else 0
def ajn:eX aF:=cu 22 (a1 dA) iA (fun p=>qy p) (fun p=>[p.aG.length<=ah,p.aI.length<=ah]) ajl
theorem aoz:Gd ajn:=aoy.add fun n hO p hp=>aO hO (.o (hp _ (.head _)) (.o (hp _ (.tail _ (.head _))) (.sh (fun _=>.rr) fun h=>.o (kE (hp _ (.head _)) (hp _ (.tail _ (.head _))) h).1 (.o (kE (hp _ (.head _)) (hp _ (.tail _ (.head _))) h).2 (.ss .rr .rr)))))
open Go Tw Pv cO
def gAt(d:Dg)(p:List Int)(r:Int):Int⊕Int:=if decide (r>=0)=true then .inl ((au d r).aA.getD (p.getD (au d r).var.toNat 0).toNat 0)else .inr r
def atF(d:Dg)(p:List Int):Nat->Int->Int
 | 0,r=>r
 |F+1,r=>if r<0 then r else atF d p F ((au d r).aA.getD (p.getD (au d r).var.toNat 0).toNat 0)
theorem acz{d:Dg}{p:List Int}:∀(F:Nat) (r:Int),atF d p F r<0->itF (gAt d p) (F+1) r=some (atF d p F r)
 | 0,r,h=>by
  have h:r<0:=h;have e:gAt d p r=.inr r:=by unfold gAt;rw[a0g (by simpa using h)]
  rw[itF,e];rfl
 |F+1,r,h=>by
  by_cases c:r<0
  .have e:gAt d p r=.inr r:=by unfold gAt;rw[a0g (by simpa using c)]
   rw[itF,e,atF,a0i c]
  have e:gAt d p r=.inl ((au d r).aA.getD (p.getD (au d r).var.toNat 0).toNat 0):=by unfold gAt;rw[a0i (by simp;omega)]
  rw[atF,a0g c]at h;rw[itF,e,atF,a0g c];exact acz F _ h
theorem OM{d:Dg}(h:Bj d){p:List Int}(hp:gU d.ay p=true){r:Int}(hr:gQ r d.aj.length):gQ (au d r).var p.length∧gQ (p.getD (au d r).var.toNat 0) (au d r).aA.length∧ji d ((au d r).aA.getD (p.getD (au d r).var.toNat 0).toNat 0) r.toNat:=by
 obtain⟨r1,r2⟩:=hr;have hl:r.toNat<d.aj.length:=by omega
 have hv:=h.var r.toNat hl;have hk:=h.ksz r.toNat hl;obtain⟨v1,v2⟩:=hv;obtain⟨p1,p2⟩:=jI.1 hp;have p3:=p2 (au d r).var.toNat (by show(fC d r.toNat).var.toNat<_;omega);have k1:gQ (p.getD (au d r).var.toNat 0) (au d r).aA.length:=⟨p3.1,by show _<((fC d r.toNat).aA.length:Int);rw[hk];exact p3.2⟩;refine⟨⟨v1,by rw[p1];exact v2⟩,k1,h.zy r.toNat hl _ ?_⟩;obtain⟨k2,k3⟩:=k1;show _<(au d r).aA.length;omega
theorem Ut{d:Dg}(h:Bj d){p:List Int}(hp:gU d.ay p=true):∀(F:Nat) (r:Int),r<F->ji d r d.aj.length->ji d (atF d p F r) 0
 | 0,r,hr,hk=>⟨by show r<((0:Nat):Int);omega,hk.2⟩
 |F+1,r,hr,hk=>by
  unfold atF;split
  .rename_i c;exact⟨by show r<((0:Nat):Int);omega,hk.2⟩
  rename_i c;have:=(OM h hp (r:=r) ⟨by omega,hk.1⟩).2.2;obtain⟨a1,a2⟩:=this;have a3:r<(d.aj.length:Int):=hk.1;exact Ut h hp F _ (by omega) ⟨by omega,a2⟩
abbrev atR(d:Dg)(p:List Int):Int:=atF d p 6001 d.root
def pG(d:Dg)(p:List Int):V:=d.aI.getD (jB (atR d p)).toNat V0
abbrev wAt(d:Dg)(p:List Int)(r:Int)(x:List (Nat×PE aF)):aS aF:=⟨[(1,xL 3 p),(2,.loc 0 0),(4,.loc 1 0),(5,xi r)]++x,[d.ps,V0.ps],[]⟩
theorem lAt{n:Nat}{fH:eX aF}(hO:Ok n fH){d:Dg}(h:Bj d)(hm:d.aj.length<=6000){p:List Int}(hp:gU d.ay p=true):Lp n 98 0 (wAt d p d.root []) (.exit 0) (wAt d p (atR d p) [(9,xl false)]):=by
 have h0:d.root<(d.aj.length:Int):=h.root.1;have ha:=Ut h hp 6001 d.root (by omega) h.root;have Q8:=acz 6001 d.root ha.1;refine Zq (st:=fun r=>wAt d p r []) (g:=gAt d p) (out:=fun r=>(.exit 0,wAt d p r [(9,xl false)])) (fun r=>ji d r d.aj.length) Q8 (by kernel_rfl) (by decide) h.root ?_ ?_
 .intro r r1 hr e;unfold gAt at e;split at e
  .rename_i c;have c:0<=r:=(by simpa using c);cases e;have:=(OM h hp (r:=r) ⟨c,hr.1⟩).2.2;have a3:r<(d.aj.length:Int):=hr.1;obtain⟨a1,a2⟩:=this;exact⟨by omega,a2⟩
  cases e
 intro r m r' hr ih;by_cases c:0<=r
 .have hk:=OM h hp (r:=r) ⟨c,hr.1⟩;have t1:decide (r>=0)=true:=by simpa using c
  have e:gAt d p r=.inl ((au d r).aA.getD (p.getD (au d r).var.toNat 0).toNat 0):=by unfold gAt;rw[a0i t1]
  have g:=ih _ e;rw[e];have wE:gQ r d.aj.length:=⟨c,hr.1⟩;exact aN hO (.b t1 (.o wE (.o wE (.o hk.1 (.o hk.2.1 (.go g))))))
 have t1:decide (r>=0)=false:=by simpa using c
 have e:gAt d p r=.inr r:=by unfold gAt;rw[a0g (by rw[t1];simp)]
 rw[e];dsimp only[CX];exact aN hO (.b t1 .ex)
theorem aa3{d:Dg}(h:Bj d)(hm:d.aj.length<=6000){p:List Int}(hp:gU d.ay p=true):gQ (jB (atR d p)) d.aI.length:=by
 have h0:d.root<(d.aj.length:Int):=h.root.1;have ha:=Ut h hp 6001 d.root (by omega) h.root;exact ha.2 ha.1
def ajo:eX aF:=cu 98 (a2 dA pW) vA (fun p=>pG p.1 p.2) (fun p=>[Bj p.1,p.1.aj.length<=6000,gU p.1.ay p.2=true]) ajn
theorem aoA:Gd ajo:=aoz.add fun n hO p hp=>aO hO (.w (lAt hO (hp _ (.head _)) (hp _ (.tail _ (.head _))) (hp _ (.tail _ (.tail _ (.head _))))) (.o (aa3 (hp _ (.head _)) (hp _ (.tail _ (.head _))) (hp _ (.tail _ (.tail _ (.head _))))) .rr))
structure DgU(d:Dg):Prop where
 t:Bj d
 aj:d.aj.length<=6000
 ok:(aW d != 0)=false
def ajp:eX aF:=cu 51 (a2 dA pW) vA (fun p=>pG p.1 p.2) (fun p=>[DgU p.1,gU p.1.ay p.2=true]) ajo
theorem aoB:Gd ajp:=aoA.add fun n hO p hp=>aO hO (.o (show DgU p.1 from hp _ (.head _)).t.aG (.o (show DgU p.1 from hp _ (.head _)).t.aI (.b (show DgU p.1 from hp _ (.head _)).ok (.o (show p.2.length<=ah by rw[ku (show gU p.1.ay p.2=true from hp _ (.tail _ (.head _)))];exact(show DgU p.1 from hp _ (.head _)).t.dw.aeC) (.o (show DgU p.1 from hp _ (.head _)).t.dw.sz (.b (show(!(gU p.1.ay p.2))=false by rw[show gU p.1.ay p.2=true from hp _ (.tail _ (.head _))];rfl) (.o (show DgU p.1 from hp _ (.head _)).t (.o (show DgU p.1 from hp _ (.head _)).aj (.o (hp _ (.tail _ (.head _))) .rr)))))))))
open Go Tw Pv cO
theorem aa4{A:Nat->Prop}{m:List MB}{h:List HB}{l:List Int}{cs:List TV}(hr:eu X0 Qp A m h 3 l cs 0 1)(hc:cs.length=l.length):cs=l.map fun n=>TV.int .i64 n:=by
 apply aa0 (by simp[hc]);intro j h1 h2;have hj:j<l.length:=by omega
 have:=hr.2.2 j l[j] 0 (.int .i64 l[j]) cs[j] (a0b hj) rfl (by rw[a02];exact⟨by omega,by simp⟩);rw[this.a18];simp
theorem RY:∀l:List Int,JW (l.map fun n=>TV.int .i64 n)=some l
 | []=>rfl
 |a::l=>by simp[JW,RY l]
theorem RZ{A:Nat->Prop}{m:List MB}{h:List HB}(l:List Int):eu X0 Qp A m h 3 l (l.map fun n=>TV.int .i64 n) 0 1:=by
 refine⟨fun j a _=>rfl,by simp only[a4a,agJ,a3O];exact a0V _,fun j a i c v hj hi hv=>?_⟩;have rQ:=(a02.1 hj).1;cases i with
 |zero=>
  have hi:some (PV.int .i64 a)=some c:=hi;cases hi;have hj:(l:List Int)[j]? = some a:=hj;rw[a3O,agJ,adr,a4d,hj]at hv;have hv:some (TV.int .i64 a)=some v:=hv;cases hv;exact .int _ _
 |succ i=>have hi:([]:List (PV aF))[i]? = some c:=hi;simp at hi
theorem Ko:dB Qp 3=some 1:=by kernel_rfl
theorem a6z(n:Nat)(x:TV)(h:List HB):kQ Qp T LL (n+1) (.fn 137 [] []) [x] h=OC 137 (.fn 137 [] []) [x] h:=rfl
theorem aa5{f c:Nat}{h:List HB}{kk Bc:BK}{cs:List TV}{l:List Int}{e:Bool}(hb:h[c]? = some (.cells kk cs))(hk:zQ kk true=some Bc)(QE:cs=l.map fun n=>TV.int .i64 n)(h0:0<l.length)(h1:l.length<=2^20) :
  OC f (.fn f [] []) [.slc c 0 l.length l.length 1 e] h=some (.dI [],h.set c (.cells Bc ((gK l).map fun n=>TV.int .i64 n)),[c]):=by
 have qg:cs.length=l.length:=by rw[QE,a4a]
 have him:JW cs=some l:=by rw[QE];exact RY l
 generalize l.length=n at *;obtain⟨j,rfl⟩:∃j,n=j+1:=⟨n-1,by omega⟩;simp only[OC,a6k,a2j,hb,hk,him,qg,h0,h1,acG]
theorem acA{n:Nat}{k ex:Bool}(l:List Int)(hl:l.length<=2^20):aX X0 Qp (bP (n+1)) (.fn 137 [] []) [.own 0] [.list k ex 3 l] (.dI []) [.list k ex 3 (gK l)]:=by
 intro A m h tf rU hr hf hx;obtain⟨x,r,rfl,h1,h2⟩:=hx.inv;have:=h2.inv0;subst this;obtain⟨g1,g2⟩:=a9H hr (i:=0) (k:=k) (ex:=ex) (t:=3) (l:=l) rfl h1;have htf:=hf.Un;subst htf;show ∃w h1 ws m1,kQ Qp T LL (n+1) _ _ h=_∧_;rw[a6z];have aoC:gK ([]:List Int)=[]:=by simp[gK]
 have hE:∀h0:(l:List Int)=[],gK l=l:=fun h0=>by rw[h0];exact aoC
 rcases aew g2 with⟨h0,rfl⟩|⟨h0,b,off,sz,cs,rfl,p0,p1,p2,p3,p4⟩|⟨p1,c,sz,e,kk,cs,rfl,p2,p3,p4,p5,p6,p7,p8,p9⟩
 .rw[hE h0];exact⟨.dI [],h,[],m,rfl,hr,.dI rfl (fun i x y hx=>by simp at hx),.refl,.refl,fun b hb=>by cases hb⟩
 .rw[hE h0];exact⟨.dI [],h,[],m,rfl,hr,.dI rfl (fun i x y hx=>by simp at hx),.refl,.refl,fun b hb=>by cases hb⟩
 rw[Ko]at p2;cases p2;have p8:cs.length=(l:List Int).length*1:=p8;have qg:cs.length=l.length:=by omega
 have QE:=aa4 p9 qg;have hn0:0<l.length:=by cases l with|nil=>exact absurd rfl p1|cons=>simp
 obtain⟨Bc,xM,adZ,hko⟩:=IK p5;have aQ:=(a02.1 p4).1;have vI:(MB.dn (TV.slc c 0 l.length l.length 1 e)).own=some c:=by simp only[MB.own];rw[a0g (by omega)]
 have hsl:(gK l).length=l.length:=by unfold gK;rw[aa1]
 have iC:gK l≠[]:=fun e0=>by rw[e0]at hsl;simp at hsl;omega
 obtain⟨q1,q2⟩:=hr.set (i:=0) (c:=c) (pb:=.list k ex 3 (gK l)) (hb:=.cells Bc ((gK l).map fun n=>TV.int .i64 n)) g1 vI
  (fun Wp Ie=>⟨_,by simp only[aV];rw[a1V aQ],by
   simp only[aV,p4,a01]at Ie;subst Ie;rw[a4a,hsl,qg];exact a0V _⟩)
  (fun hF=>by
   have r:=LR.some (X:=X0) (P:=Qp) (A:=AA A m) (m:=m) (k:=k) (ex:=ex) (e:=e) (t:=3) (b:=c) (kk:=Bc) iC Ko (by decide) (by rw[a1V aQ]) adZ (fun e0=>hko (p6 e0)) p7 (by rw[a4a,agJ];rfl) (RZ (gK l));have aoD:@List.length (X0.Γ 3) (gK l)=l.length:=hsl;rw[aoD]at r;exact r)
 refine⟨.dI [],_,[c],m,?_,q1,.dI rfl (fun i x y hx=>by simp at hx),q2,.refl,fun d hd=>?_⟩
 .exact aa5 p4 xM QE hn0 hl
 simp at hd;subst hd;exact bg g1 vI
end Go.Proofs.YtmobpoiejckagaaGreat
namespace Pv
open Go Tw
variable {X:kH} {P:Program}
theorem oh.aa6(hX:bK X P){call:bf}{f:FuncId}{xs vs:List (PV X.Γ)}{v v':PV X.Γ}{ext ext':List (PB X.Γ)}(hc:oh X P call f vs v ext)(hv:views [] ([]++xs++[])=some vs)(hs:qQ X 0 ext=some ext')
  (e:shift 0 v=v') (he:(if xu v||ext.any (hasB X)then aZ (kM.jX ([]++xs++[])) []else [])=([]:List (PB X.Γ))):aX X P call (.fn f [] []) xs [] v' ext':=by
 subst e;intro A m h tf rU hr hf hx;have htf:=hf.Un;subst htf;obtain⟨w,h',m1,c1,c2,c3,c4,c5⟩:=GR hX hc hr hv hs (t1:=[]) (t3:=[]) .nil hx .nil;rw[he]at c2;exact⟨w,h',[],m1,c1,c2,c3,c4,c5,fun b hb=>by cases hb⟩
end Pv
namespace Go.Proofs.YtmobpoiejckagaaGreat
open Go Tw Pv cO
abbrev lsI(l:List Int):List (PB aF):=[.list false false 3 l]
theorem a3b(n:Nat)(h:List HB):U0 Qp T (bP n) LL 125 [.nil .slc] h=some (.nil .slc,h,[]):=by kernel_rfl
theorem a3c(n b off cap:Nat)(ex:Bool)(h:List HB):U0 Qp T (bP n) LL 125 [.slc b off 0 cap 1 ex] h=some (.slc h.length 0 0 0 1 true,h++[.cells .own []],[]):=by kernel_rfl
theorem aeV{n:Nat}:oh X0 Qp (bP (n+1)) 125 [.dn 3 ([]:List Int) false] (.own 0) (lsI []):=by
 intro A h first args cap Ig hv
 obtain⟨x,r,e,h1,h2⟩:=hv.inv;have:=h2.inv0;subst this;have hun:kQ Qp T LL (n+1) (.fn 125 first cap) args h=U0 Qp T (bP n) LL 125 [x] h:=by
  rw[<-e];show kQ Qp T LL (n+1) _ _ _=_;rw[kQ,a0g (by decide),a0g (by decide)]
 rcases a6b h1 with rfl|⟨b,off,cap',sz,ex,cs,rfl,a1,a2,a3,a4,a5⟩
 .exact⟨.nil .slc,h,[.dn (.nil .slc)],by rw[<-a3b n h,<-hun],WR Ig .nil rfl,.own rfl rfl,⟨a0V _,fun _ _ _=>rfl,fun b hb=>by simp[bC,MB.own]at hb,fun b cs hc=>⟨cs,hc,a0V _⟩⟩⟩
 rw[Ko]at a3;cases a3;have hc:aV (h++[HB.cells .own []]) h.length=some []:=by unfold aV;rw[a19 (a0V _),agw];rfl
 refine⟨.slc h.length 0 0 0 1 true,h++[.cells .own []],[.dn (.slc h.length 0 0 0 1 true)],by rw[<-a3c n b off cap' ex h,<-hun],WR (fun b hb=>Ig b (by simp at hb;omega)) (.emp ⟨Ig _ (a0V _),by simp[bC,MB.own]⟩ hc (a0V _) Ko (by decide)) (by simp[MB.own]),.own rfl rfl,⟨by simp,fun b hb _=>by rw[a0c hb],fun b hb=>by simp[bC,MB.own]at hb,fun b cs hc=>⟨cs,?_,a0V _⟩⟩⟩;rw[fM (a0c (gJ hc)),hc]
def acB:eX aF:=Zn 125 (a1 pW) (fun _=>.own 0) (fun p=>lsI p) (fun p=>[p.length<=ah]) ajp
theorem ajr:Gd acB:=aoB.WM 0 fun n _ hO p hp=>by
 have hl:p.length<=ah:=hp _ (.head _);by_cases h:p=[]
 .subst h;exact aeV
 .have h2:([]:List Int).length+p.length<=ah:=by simpa using hl
  exact oh.gs hX (Bh hX (hO n (by omega)) (v:=.own 1) (H:=[.gone,.list true false 3 p]) (by kernel_rfl) (.o h (.b (rfl:false=false) (.o h2 .er)))) [.gc [1],.flag 0] rfl
abbrev aa7(m:Nat)(i:Int)(l:List Int)(x:List (Nat×PE aF)):aS aF:=⟨[(3,xo 0),(7,xi m),(8,xi i)]++x,[],[.list true true 3 l]⟩
theorem a6A(m:Nat):aT (fun k (l:List Int)=>l.set k (k:Int)) m 0 (List.replicate m 0)=dO m:=by
 have:=dD (g:=fun k (l:List Int)=>l.set k (k:Int)) (m:=m) (k:=0) (s:=List.replicate m 0) (fun k l=>l.length=m∧∀j,j<k->l.getD j 0=(j:Int)) ⟨by simp,by simp⟩ (fun j l _ hj h=>⟨by simp[h.1],fun i hi=>by
  rw[cO.yU (by omega)];split
  .rename_i e;rw[e]
  exact h.2 i (by omega)⟩)
 rw[rJ (d:=0) (by rw[this.1,lq])];intro j hj;have rQ:j<m:=by have:=this.1;omega
 rw[this.2 j (by omega)];simp[dO,List.getD,a4d,agE,rQ]
theorem aoE{n:Nat}{fH:eX aF}(hO:Ok n fH)(m:Nat)(hm:m<=ah):Lp n 159 0 (aa7 m 0 (List.replicate m 0) []) (.exit 0) (aa7 m m (dO m) [(9,xl false)]):=by
 rw[<-a6A];exact yg (σ:=List Int) (N:=m) (g:=fun k (l:List Int)=>l.set k (k:Int)) (s0:=List.replicate m 0) (st:=fun i (l:List Int)=>aa7 m i l []) (fin:=fun(l:List Int)=>aa7 m m l [(9,xl false)]) (fun _ (l:List Int)=>l.length=m) (by kernel_rfl) hm (by simp) (fun k l _ h=>by simp[h]) (fun k l hk hl j e p g=>aN hO (.b (bD hk) (.o (aH (show k<l.length by omega)) (.go g)))) (fun l _=>aN hO (.b (fF m) .ex))
def acC:eX aF:=cu 159 (a1 iA) pW (fun p=>dO p.toNat) (fun p=>[0<=p,p<=(ah:Int)]) acB
theorem ajs:Gd acC:=ajr.add fun n hO p hp=>by
 have h0:0<=p:=hp _ (.head _);have h1:p<=(ah:Int):=hp _ (.tail _ (.head _));obtain⟨m,rfl⟩:∃m:Nat,p=(m:Int):=⟨p.toNat,by omega⟩;exact aO hO (.o (rfl:(m:Int)=(m:Int)) (.o h0 (.o h1 (.w (aoE hO m (by omega)) .rr))))
abbrev aeW(a b:List Int)(i:Int)(x:List (Nat×PE aF)):aS aF:=⟨[(0,xL 3 a),(1,xL 3 b),(12,xi a.length),(13,xi i)]++x,[],[]⟩
def ajt(a b:List Int):Unit⊕Nat->Ex×aS aF
 |.inl _=>(.exit 0,aeW a b a.length [(14,xl false)])
 |.inr _=>(.ret,⟨[(4,xl false)],[],[]⟩)
theorem aju{n:Nat}{fH:eX aF}(hO:Ok n fH)(a b:List Int)(hl:a.length<=ah)(h:a.length=b.length):Lp n 158 0 (aeW a b 0 []) (ajt a b (bG (JX a b) a.length)).1 (ajt a b (bG (JX a b) a.length)).2:=
 iZ (st:=fun i _=>aeW a b i []) (fun _ _=>True) (by kernel_rfl) hl trivial (fun k s m hk _ ih=>aN hO (.b (bD hk) (.o (aH hk) (.o (aH (h▸hk)) (.ls (.ou nofun) (.nx (ih _ trivial))))))) (fun s _=>aN hO (.b (fF a.length) (.ou nofun)))
def acD:eX aF:=cu 158 (a2 pW pW) tA (fun p=>decide (p.1=p.2)) (fun p=>[p.1.length<=ah]) acC
theorem ajv:Gd acD:=ajs.add fun n hO p hp=>aO hO (.s (fun h=>.v false (a6n h).symm) fun h=>.z (c:=jT (bG (JX p.1 p.2) p.1.length)) (fun h2=>.w (jP (aju hO p.1 p.2 (hp _ (.head _)) (jr h)) () h2) (.v true (by rw[<-DT (jr h),h2]))) fun h2=>.w (jQ (aju hO p.1 p.2 (hp _ (.head _)) (jr h)) 0 h2) (.v false (by rw[<-DT (jr h),h2])))
def a6B:eX aF:=cu 157 (a3 iA iA pW) tA (fun p=>mF p.2.2 p.1 p.2.1) (fun p=>[p.2.2.length<=ah]) acD
theorem ajw:Gd a6B:=ajv.deep 3 fun n hn hO p hp=>by
 have h1:∀x,aX X0 Qp (bP (n-3+1)) (.fn 188 [] [.ptr 0 0 1,.ptr 1 0 1]) [.int .i64 x] [.cells [.int .i64 p.1],.cells [.int .i64 p.2.1]] (tA.put (vT x p.1 p.2.1)) [.cells [.int .i64 p.1],.cells [.int .i64 p.2.1]]:=fun x=>jd fZ (first:=[]) (.ssh (fun _=>.sr) (fun _=>.sr));obtain⟨n,rfl⟩:∃k,n=k+3:=⟨n-3,by omega⟩;rw[show n+3-3+1=n+1 by omega]at h1;have h2:=aij (n:=n+2) (by omega) (g:=fun x=>vT x p.1 p.2.1) h1 p.2.2 (hp _ (.head _));exact aO (hO _ (by omega)) (.k h2 (.v (!(mD (fun x=>vT x p.1 p.2.1) p.2.2)) (by rw[DR];rfl)))
def a1h(s:List Int):Int:=aT (fun k n=>i64.wrap (n*s.getD k 0)) s.length 0 1
theorem Xd:∀{s:List Int},lZ s->aY s<=12^s.length
 | [],_=>by decide
 |a::t,h=>by
  have h1:=Xd h.tail;have h2:=iP h.tail;have h3:=h a (.head _);have h4:a*aY t<=12*aY t:=a8I h3.2 (by omega);show a*aY t<=12^(t.length+1);rw[Int.pow_succ];omega
theorem ajx:∀{n:Nat},n<=6->(12:Int)^n<=2985984:=by decide
theorem a6C{s:List Int}(h:lZ s)(hl:s.length<=6):a1h s=aY s:=by
 have:=dD (g:=fun k n=>i64.wrap (n*s.getD k 0)) (m:=s.length) (k:=0) (s:=1) (fun k n=>n=aY (s.take k)) (by simp[aY]) (fun j n _ hj e=>by
  have rQ:j<s.length:=by omega
  have e2:aY (s.take (j+1))=n*s.getD j 0:=by
   rw[a5j rQ,zo,e];simp[aY,List.getD,a0b rQ]
  have h1:=EG h (j+1);have h2:1<=aY (s.take (j+1)):=iP fun a ha=>h a (a8B ha);have h3:=Xd h;have h4:=ajx hl;show i64.wrap (n*s.getD j 0)=_;rw[e2]at h1 h2 ⊢;exact eP (by omega) (by omega))
 rw[a1h,this];simp
abbrev aa8(a b:List Int)(p i:Int)(x:List (Nat×PE aF)):aS aF:=⟨[(0,xL 3 a),(1,xL 3 b),(5,xi p),(17,xL 3 a),(18,xi a.length),(19,xi i)]++x,[],[]⟩
theorem aoF{n:Nat}{fH:eX aF}(hO:Ok n fH)(a b:List Int)(hl:a.length<=ah):Lp n 105 0 (aa8 a b 1 0 []) (.exit 1) (aa8 a b (a1h a) a.length [(20,xl false)]):=
 H8 (st:=fun i n=>aa8 a b n i []) (fin:=fun n=>aa8 a b n a.length [(20,xl false)]) (fun _ _=>True) (by kernel_rfl) hl OE trivial (fun _ _ _ _=>trivial) (fun k s hk _ n e p h=>aN hO (.b (bD hk) (.o (aH hk) (.go h)))) (fun s _=>aN hO (.b (fF a.length) .ex))
theorem aeX{n:Nat}(hO:Ok n a6B)(l:List Int)(hl:l.length<=ah):aX X0 Qp (bP n) (.fn 125 [] []) [.dn 3 l false] [] (.own 0) (lsI l):=
 oh.aa6 hX (hO 125 [.dn 3 l false] (.own 0) (lsI l) [l.length<=ah] (by kernel_rfl) (List.forall_mem_singleton.2 hl)) rfl rfl rfl rfl
theorem a6D(n:Nat):(dO n).Pairwise fun a b=>decide (a<=b)=true:=by
 unfold dO;rw[ag2];exact List.pairwise_lt_range.imp fun h=>by simp;omega
theorem a3d{n:Nat}{o:List Int}:decide (gK o=dO n)=jR n o:=by
 rw[a4i,a1E];have h2:=RS n;have hp:(gK o).Perm o:=adL _ _;constructor
 .intro h;rw[h]at hp;unfold jR at h2 ⊢;rw[a1E]at h2 ⊢;exact⟨by rw[<-hp.length_eq,h2.1],fun a ha=>h2.2.1 a (hp.mem_iff.2 ha),hp.nodup_iff.1 h2.2.2⟩
 intro h;unfold jR at h h2;rw[a1E]at h h2;have e:o.Perm (dO n):=(a7c h.2.2 h2.2.2).2 fun a=>by
  have hm:∀x,0<=x∧x<(n:Int)->x∈dO n:=fun x hx=>by
   unfold dO;rw[a1d];exact⟨x.toNat,by rw[a4b];omega,by omega⟩
  constructor
  .exact fun ha=>hm a (h.2.1 a ha)
  intro ha;by_cases hc:a∈o
  .exact hc
  have:=adk (l₁:=a::o) (l₂:=dO n) (a3Z.2 ⟨hc,h.2.2⟩) (fun x hx=>by
   rcases a2e.1 hx with rfl|hx
   .exact ha
   exact hm x (h.2.1 x hx))
  rw[lq]at this;simp at this;omega
 refine List.Perm.eq_of_pairwise (le:=fun a b=>decide (a<=b)=true) (fun a b _ _ h1 h2=>by simp at h1 h2;omega) ?_ (a6D n) (hp.trans e);exact List.pairwise_mergeSort (fun a b c h1 h2=>by simp at h1 h2 ⊢;omega) (fun a b=>by simp;omega) o
def Xe(s o:List Int):Int:=if decide ((s.length:Int)>6)=true then 5 else if(!(mF s 1 12))=true then 3 else if decide (a1h s>2000)=true then 5 else if(!(decide (gK o=dO s.length)))=true then 4 else 0
theorem Xf(s o:List Int):Xe s o=bU s o:=by
 rw[OI];unfold Xe;rw[a3d];by_cases h1:6<s.length
 .rw[a0i (by simp;omega),a0i h1]
 rw[a0g (by simp;omega),a0g h1];have hw:mF s 1 12=decide (lZ s):=by
  unfold mF;rw[a4i,a8x,List.any_eq_false,a1E];refine a9E fun a=>a9E fun _=>?_;unfold vT;split
  .rename_i h;simp at h ⊢;omega
  rename_i h;simp at h ⊢;omega
 rw[hw];by_cases h2:lZ s
 .rw[a0g (by simp[h2]),a0i h2,a6C h2 (by omega)];simp only[a1E,Int.not_lt,gt_iff_lt];split
  .rfl
  cases jR s.length o<;>simp
 rw[a0i (by simp[h2]),a0g h2]
def acE:eX aF:=cu 105 (a2 pW pW) iA (fun p=>bU p.1 p.2) (fun p=>[p.1.length<=ah,p.2.length<=2^20]) a6B
theorem ajy:Gd acE:=ajw.deep 1 fun n hn hO p hp=>by
 obtain⟨n,rfl⟩:∃k,n=k+1:=⟨n-1,by omega⟩;have hO:=hO (n+1) (by omega);have h1:p.1.length<=ah:=hp _ (.head _);have h2:p.2.length<=2^20:=hp _ (.tail _ (.head _));have h3:p.2.length<=ah:=by unfold ah;omega
 have h4:(dO p.1.length).length<=ah:=by rw[lq];exact h1
 have h5:(gK p.2).length<=ah:=by unfold gK;rw[aa1];exact h3
 show oh X0 Qp _ _ _ (iA.put (bU p.1 p.2)) _;rw[<-Xf];exact aO hO (.ss .rr (.o h1 (.ss .rr (.w (aoF hO p.1 p.2 h1) (.ss .rr (.fr [] (aeX hO p.2 h3) (.fr [0] (acA (n:=n) (k:=false) (ex:=false) p.2 h2) (.o (show(0:Int)<=(p.1.length:Int) by omega) (.o (show(p.1.length:Int)<=(ah:Int) by omega) (.o h5 (.ss .rr .rr)))))))))))
open Go Tw Pv cO
theorem Xg{α:Type}(x:α):[x].length<=ah:=by unfold ah;simp
def qA(v:V):Bool:=if decide (v.f>0)=true then(if decide (v.f<=4)=true then v.n==0 else false)else mF [v.n] (-9999) 9999
def acF:eX aF:=cu 190 (a1 vA) tA (fun p=>qA p) np acE
theorem ajz:Gd acF:=ajy.add fun n hO p hp=>aO hO (.ss (.ss .rr .rr) (.o (Xg p.n) .rr))
abbrev frA:Ul X0 Qp (List Int×List Int):=a2 pW pW
abbrev cIx(l:List Int)(v:Int)(k:Nat):Bool:=v==l.getD k 0
abbrev aeY(l:List Int)(v:Int)(i:Int)(x:List (Nat×PE aF)):aS aF:=⟨[(0,xL 3 l),(1,xi v),(7,xi l.length),(8,xi i)]++x,[],[]⟩
def z234(l:List Int)(v:Int):Unit⊕Nat->Ex×aS aF
 |.inl _=>(.exit 0,aeY l v l.length [(9,xl false)])
 |.inr k=>(.ret,⟨[(4,xi k)],[],[]⟩)
theorem ajA{n:Nat}{fH:eX aF}(hO:Ok n fH)(l:List Int)(v:Int)(hl:l.length<=ah):Lp n 234 0 (aeY l v 0 []) (z234 l v (bG (cIx l v) l.length)).1 (z234 l v (bG (cIx l v) l.length)).2:=
 iZ (st:=fun i _=>aeY l v i []) (fun _ _=>True) (by kernel_rfl) hl trivial (fun k s m hk _ ih=>aN hO (.b (bD hk) (.o (aH hk) (.ls (.ou nofun) (.nx (ih _ trivial)))))) (fun s _=>aN hO (.b (fF l.length) (.ou nofun)))
def mX(l:List Int)(v:Int):Int:=if jT (bG (cIx l v) l.length)=true then -1 else((CW 0 (bG (cIx l v) l.length):Nat):Int)
def acH:eX aF:=cu 234 (a2 pW iA) iA (fun p=>mX p.1 p.2) (fun p=>[p.1.length<=ah]) acF
theorem ajB:Gd acH:=ajz.add fun n hO p hp=>aO hO (.zh (fun h=>.w (jP (ajA hO p.1 p.2 (hp _ (.head _))) () h) .rr) fun h=>.w (jQ (ajA hO p.1 p.2 (hp _ (.head _))) 0 h) .rr)
def acI:eX aF:=cu 223 (a2 (a5W (a2 pW pW)) iA) iA (fun p=>mX p.1.2 p.2) (fun p=>[p.1.2.length<=ah]) acH
theorem ajC:Gd acI:=ajB.add fun n hO p hp=>aO hO (.o (hp _ (.head _)) .rr)
def acJ:eX aF:=cu 197 (a1 iA) iA (fun p=>i64.wrap (-1-p)) np acI
theorem ajD:Gd acJ:=ajC.add fun n hO p hp=>aO hO .rr
structure Lo where
 s:List Int
 o:List Int
 d:Dg
abbrev Lo.ps(l:Lo):List (PV aF):=[.dn 3 l.s false,.dn 3 l.o false]++l.d.ps
def loA:Arg Lo:=aer (a5W (KO pW (KO pW (KO pW (a4 pW vsA a9N iA))))) (fun p=>⟨p.1,p.2.1,⟨p.2.2.1,p.2.2.2.1,p.2.2.2.2.1,p.2.2.2.2.2.1,p.2.2.2.2.2.2⟩⟩) (fun l=>(l.s,l.o,l.d.ay,l.d.aG,l.d.aI,l.d.aj,l.d.root)) fun _=>rfl
def qc(l:Lo)(zy below KQ:Int):Bool:=if decide (zy<0)=true then decide (i64.wrap (-1-zy)<(l.d.aI.length:Int))else if decide (zy<below)=true then decide (mX l.o (l.d.aj.getD zy.toNat kN).var>KQ)else false
def Xh:eX aF:=cu 193 (a4 loA iA iA iA) tA (fun p=>qc p.1 p.2.1 p.2.2.1 p.2.2.2) (fun p=>[p.1.o.length<=ah,0<=p.2.1->p.2.1<p.2.2.1->gQ p.2.1 p.1.d.aj.length]) acJ
theorem ajE:Gd Xh:=ajD.add fun n hO p hp=>aO hO (.sh (fun _=>.rr) fun h=>.sh (fun h2=>.o (hp (0<=p.2.1->p.2.1<p.2.2.1->gQ p.2.1 p.1.d.aj.length) (.tail _ (.head _)) (by simpa using h) (by simpa using h2)) (.o (hp _ (.head _)) .rr)) fun _=>.rr)
abbrev Hb(l:Lo)(i:Int)(b:Br):List (PB aF):=[.cells l.ps,.cells [.int .i64 i],.cells b.ps]
theorem aoG{n f:Nat}{a c:List (PV aF)}{H:List (PB aF)}{g:Int->Bool}(l:List Int)(hf:∀x∈l,aX X0 Qp (bP n) (.fn f a c) [.int .i64 x] H (.bool (g x)) H)(hl:l.length<=ah):aX X0 Qp (bP (n+1)) (.fn 218 [] []) [.dn 3 l false,.fn f a c] H (iA.put (qZ g l)) H:=by
 have lp:OG n 218 0 H.length (a6m f a c H l 0 []) (z218 f a c H l (lX (pz g) l 0 ())).1 (z218 f a c H l (lX (pz g) l 0 ())).2:=
  WJ (st:=fun i _=>a6m f a c H l i []) (0:Int) (fun _ _=>True) (by kernel_rfl) hl OE trivial (fun k s n hk _ ih=>aN fZ (.b (bD hk) (.o (aH hk) (.k (hf (l.getD k (0:Int)) (dG hk)) (.ls (.ou nofun) (.nx (ih _ trivial))))))) (fun s _=>aN fZ (.b (fF l.length) (.ou nofun)))
 exact jd fZ (first:=[]) (cap:=[]) (.szh (fun h=>.w (jP lp () h) .sr) (fun h=>.w (jQ lp (0,0,()) h) .sr))
theorem ajF{n f:Nat}{a c:List (PV aF)}{H:List (PB aF)}{g:Int->Bool}(l:List Int)(hf:∀x∈l,aX X0 Qp (bP n) (.fn f a c) [.int .i64 x] H (.bool (g x)) H)(hl:l.length<=ah):aX X0 Qp (bP (n+2)) (.fn 181 [] []) [.dn 3 l false,.fn f a c] H (tA.put (l.any g)) H:=by
 have h1:=aoG l hf hl;have h2:=DR g l;rw[<-h2];exact jd fZ (first:=[]) (cap:=[]) (.k h1 .sr)
theorem DU{α:Type}(l:List α)(g:α->Bool):(!(l.any fun x=>!(g x)))=l.all g:=by
 induction l with
 |nil=>rfl
 |cons a l ih=>simp only[ad6,abx,Bool.not_or,Bool.not_not,ih]
abbrev pB:List (PV aF):=[.ptr 0 0 7,.ptr 1 0 1,.ptr 2 0 2]
theorem aoH{n f:Nat}{l:Lo}{i:Int}{b:Br}{g:Int->Bool}(ks:List Int)(hf:∀x∈ks,aX X0 Qp (bP n) (.fn f [] pB) [.int .i64 x] (Hb l i b) (tA.put (g x)) (Hb l i b))(hl:ks.length<=ah):aX X0 Qp (bP (n+4)) (.fn 191 [] []) [.dn 3 ks false,.fn f [] pB] (Hb l i b) (tA.put (ks.all g)) (Hb l i b):=by
 have h1:∀x∈ks,aX X0 Qp (bP (n+1)) (.fn 221 [] [.ptr 3 0 1]) [.int .i64 x] (Hb l i b++[.cells [.fn f [] pB]]) (tA.put (!(g x))) (Hb l i b++[.cells [.fn f [] pB]]):=fun x hx=>
  jd fZ (first:=[]) (.fr [0,1,2] (hf x hx) .sr)
 have h2:=ajF ks h1 hl;rw[<-DU ks g];exact aX.drop hX (CV hX fZ (first:=[]) (cap:=[]) (H1:=Hb l i b++[.cells [.fn f [] pB]]) (by kernel_rfl) (.k h2 .sr)) rfl rfl
theorem a1i{x a b:Int}:mF [x] a b=decide (a<=x∧x<=b):=by
 unfold mF vT;simp only[ad6,List.any_nil,Bool.or_false];by_cases h:x<a
 .rw[a0i (by simpa using h),a8C,eq_comm,a2H];omega
 rw[a0g (by simpa using h),a4i,a8x,a2H,a1E];omega
theorem Xi{l:List Br}{k:Nat}(h:k<l.length):l.getD k kN∈l:=by simp[List.getD,a0b h]
abbrev wR(l:Lo)(i:Int):Br:=l.d.aj.getD i.toNat kN
def FB(l:Lo)(i:Int):Bool:=if(!(mF [(wR l i).var] 0 (xw l.s)))=true then false else if(((wR l i).aA.length:Int) != l.s.getD (wR l i).var.toNat 0)=true then false else(wR l i).aA.all fun x=>qc l x i (mX l.o (wR l i).var)
theorem ajG{n:Nat}(hO:∀m,n<=m->Ok m Xh){l:Lo}{i:Int}(ho:l.o.length<=ah)(hf:rW l.s)(hi:gQ i l.d.aj.length):aX X0 Qp (bP (n+6)) (.fn 192 [.agg l.ps] []) [.int .i64 i] [] (tA.put (FB l i)) []:=by
 have h1:∀x∈(wR l i).aA,aX X0 Qp (bP (n+1)) (.fn 222 [] pB) [.int .i64 x] (Hb l i (wR l i)) (tA.put (qc l x i (mX l.o (wR l i).var))) (Hb l i (wR l i)):=fun x _=>
  jd (hO n (a0V _)) (first:=[]) (.o ho (.o ho (.o (show 0<=x->x<i->gQ x l.d.aj.length from fun h0 h1=>⟨h0,by have:=hi.1;have:=hi.2;omega⟩) .sr)))
 have hv:(!(mF [(wR l i).var] 0 (xw l.s)))=false->gQ (wR l i).var l.s.length:=fun h=>by
  rw[a1i,abp,a1E,a6o hf.aeC]at h;exact⟨h.1,by omega⟩
 have hk:(!(mF [(wR l i).var] 0 (xw l.s)))=false->(((wR l i).aA.length:Int) != l.s.getD (wR l i).var.toNat 0)=false->(wR l i).aA.length<=ah:=fun h h2=>by
  have h3:=hv h;have h4:=hf.sz _ (dG (s:=l.s) (k:=(wR l i).var.toNat) (by have:=h3.2;have:=h3.1;omega));have h2:((wR l i).aA.length:Int)=l.s.getD (wR l i).var.toNat 0:=by simpa using h2
  exact m12 (by omega)
 exact aX.drop hX (CV hX (hO (n+5) (by omega)) (first:=[.agg l.ps]) (cap:=[]) (H1:=Hb l i (wR l i)++[.list true true 3 [(wR l i).var]]) (by kernel_rfl) (.o hi (.o (Xg (wR l i).var) (.ssh (fun _=>.sr) fun h5=>.o (hv h5) (.ssh (fun _=>.sr) fun h6=>.fr [0,1,2] (aoH (wR l i).aA h1 (hk h5 h6)) .sr))))) rfl rfl
abbrev a3e(f:Nat)(a:List (PV aF)):List (PB aF):=[.cells [.fn f a []]]
theorem ajH{n:Nat}{l:Lo}{g:Int->Bool}(ks:List Int)(hf:∀x∈ks,aX X0 Qp (bP n) (.fn 192 [.agg l.ps] []) [.int .i64 x] [] (tA.put (g x)) [])(hl:ks.length<=ah):aX X0 Qp (bP (n+4)) (.fn 191 [] []) [.dn 3 ks false,.fn 192 [.agg l.ps] []] [] (tA.put (ks.all g)) []:=by
 have h1:∀x∈ks,aX X0 Qp (bP (n+1)) (.fn 221 [] [.ptr 0 0 1]) [.int .i64 x] (a3e 192 [.agg l.ps]) (tA.put (!(g x))) (a3e 192 [.agg l.ps]):=fun x hx=>
  jd fZ (first:=[]) (.fr [] (hf x hx) .sr)
 have h2:=ajF ks h1 hl;rw[<-DU ks g];exact aX.drop hX (CV hX fZ (first:=[]) (cap:=[]) (H1:=a3e 192 [.agg l.ps]) (by kernel_rfl) (.k h2 .sr)) rfl rfl
theorem aoI{n:Nat}(hO:Ok n Xh)(l:List V)(hl:l.length<=ah):aX X0 Qp (bP (n+4)) (.fn 189 [] []) [.dn 39 l false,.fn 190 [] []] [] (tA.put (l.all qA)) []:=by
 have h1:∀x:V,aX X0 Qp (bP (n+1)) (.fn 220 [] [.ptr 0 0 1]) [.agg x.ps] (a3e 190 []) (tA.put (!(qA x))) (a3e 190 []):=fun x=>
  jd hO (first:=[]) .sr
 have h2:=aeJ (n:=n+2) (by omega) (g:=fun x=>!(qA x)) h1 l hl;rw[<-DU l,<-IY];exact aX.drop hX (CV hX fZ (first:=[]) (cap:=[]) (H1:=a3e 190 []) (by kernel_rfl) (.k h2 .sr)) rfl rfl
theorem aoJ{n:Nat}(hO:Ok n Xh)(m:Nat)(hm:m<=ah):aX X0 Qp (bP n) (.fn 159 [] []) [.int .i64 m] [] (pW.put (dO m)) []:=
 oh.aa6 hX (hO 159 [.int .i64 m] (pW.put (dO m)) [] [0<=(m:Int),(m:Int)<=(ah:Int)] (by kernel_rfl) (by
  intro q hq;rcases a2e.1 hq with rfl|hq
  .omega
  .rw[a2J.1 hq];omega)) rfl rfl rfl rfl
theorem a1j{x:Int}{m:Nat}(h:x∈dO m):gQ x m:=by
 simp only[dO,a1d,a4b]at h;obtain⟨k,hk,rfl⟩:=h;exact aH hk
abbrev yI(d:Dg):Lo:=⟨d.ay,d.aG,d⟩
abbrev lo0:Lo:=⟨[],[],⟨[],[],[],[],0⟩⟩
def bF(d:Dg):Lo×Int:=if(bU d.ay d.aG != 0)=true then(lo0,bU d.ay d.aG)else if decide ((d.aj.length:Int)>6000)=true then(yI d,5)else if(!(d.aI.all qA))=true then(yI d,4)else if(!((dO d.aj.length).all (FB (yI d))))=true then(yI d,4)else if(!(qc (yI d) d.root d.aj.length (-1)))=true then(yI d,4)else(yI d,0)
def Dc:eX aF:=cu 160 (a1 dA) (dR (a2 loA iA)) (fun p=>bF p) (fun p=>[p.ay.length<=ah,p.aG.length<=2^20,p.aI.length<=ah]) Xh
theorem acK:Gd Dc:=ajE.deep 11 fun n hn hO d hp=>by
 obtain⟨n,rfl⟩:∃k,n=k+10:=⟨n-10,by omega⟩;have h1:d.ay.length<=ah:=hp _ (.head _);have h2:d.aG.length<=2^20:=hp _ (.tail _ (.head _));have h3:d.aI.length<=ah:=hp _ (.tail _ (.tail _ (.head _)));have ho:d.aG.length<=ah:=by unfold ah;omega
 have hO:∀m,n<=m->Ok m _:=fun m hm=>hO m (by omega);have hI:(bU d.ay d.aG != 0)=false->∀x∈dO d.aj.length,aX X0 Qp (bP (n+6)) (.fn 192 [.agg (yI d).ps] []) [.int .i64 x] [] (tA.put (FB (yI d) x)) []:=fun h x hx=>ajG hO (l:=yI d) ho (Au h) (a1j hx);have hR:0<=d.root->d.root<(d.aj.length:Int)->gQ d.root d.aj.length:=fun a b=>⟨a,by omega⟩;have hL:decide ((d.aj.length:Int)>6000)=false->(dO d.aj.length).length<=ah:=fun h=>by rw[lq];exact Us h
 exact aO (hO (n+10) (by omega)) (.o h1 (.o h2 (.sh (fun _=>.rn (.dI [.agg [.nil .slc,.nil .slc,.nil .slc,.nil .slc,.nil .slc,.nil .slc,.int .i64 0],.int .i64 (bU d.ay d.aG)]) rfl) fun h=>.sh (fun _=>.rr) fun h4=>.fr [] (aoI (n:=n+6) (hO (n+6) (by omega)) d.aI h3) (.ss .rr (.fr [] (aoJ (hO (n+10) (by omega)) d.aj.length (Us h4)) (.fr [] (ajH (l:=yI d) (n:=n+6) (dO d.aj.length) (hI h) (hL h4)) (.ss .rr (.o ho (.o hR (.ss .rr .rr))))))))))
open Go Tw Pv cO
def KR(x:Int):Prop:=-(2^63)<=x∧x<2^63
structure Kq(d:Dg):Prop where
 zy:∀i,i<d.aj.length->∀k,k<(fC d i).aA.length->KR ((fC d i).aA.getD k 0)
 root:KR d.root
 fault:∀v∈d.aI,0<=v.f
theorem mQ{n:Nat}{o:List Int}(h:jR n o=true){v:Int}(hv:gQ v n):v∈o:=by
 unfold jR at h;rw[a1E]at h;obtain⟨h0,h1⟩:=hv;by_cases hc:v∈o
 .exact hc
 have:=adk (l₁:=v::o) (l₂:=dO n) (a3Z.2 ⟨hc,h.2.2⟩) (fun x hx=>by
  have:0<=x∧x<(n:Int):=by
   rcases a2e.1 hx with rfl|hx
   .exact⟨h0,by omega⟩
   exact h.2.1 x hx
  unfold dO;rw[a1d];exact⟨x.toNat,by rw[a4b];omega,by omega⟩)
 rw[lq]at this;simp at this;omega
theorem rM{l:List Int}{k:Nat}(h:k<l.length):l.getD k 0=l[k]:=by simp[List.getD,a0b h]
theorem a1k{l:List Int}{v:Int}(h:v∈l):jT (bG (cIx l v) l.length)=false:=by
 cases e:jT (bG (cIx l v) l.length)
 .rfl
 obtain⟨j,hj,e2⟩:=a4m.1 h;have:=dL.1 e j hj;simp[cIx,List.getD,a0b hj,e2]at this
theorem a6E{d:Dg}{r:Int}:OJ d r=cIx d.aG (au d r).var:=by
 funext k;exact BEq.comm
theorem Uu{d:Dg}{r:Int}(h0:0<=r)(h:(au d r).var∈d.aG):tV d r=mX d.aG (au d r).var:=by
 unfold tV mX;rw[a0g (by rw[a1E];omega),a6E,a1k h,a0g (by decide),a0g (by decide)]
theorem ajI{l:List Int}{v:Int}(h:v∈l):mX l v<(l.length:Int):=by
 unfold mX;rw[a1k h,a0g (by simp)];obtain⟨j,h1,_,_,h2⟩:=H7 (a1k h);rw[h2];show(j:Int)<_;omega
theorem OO{x a b:Int}:mF [x] a b=mG x a b:=by
 rw[a1i,a4i,uh,a1E]
theorem a6F{v:V}(h:0<=v.f):qA v=vOk v:=by
 rw[aeO h];unfold qA vIs;rw[OO]
theorem aeZ{z:Int}(h:KR z):i64.wrap z=z:=by
 obtain⟨h0,h1⟩:=h;simp only[IntKind.wrap,IntKind.bits,IntKind.signed];rcases Int.lt_or_le z 0 with h|h
 .have:z%(2^64:Int)=z+2^64:=by
   have:=abD z (2^64) 1;rw[abL]at this;rw[<-this];exact a8e (by omega) (by omega)
  simp only[this];rw[a0i (by simp;omega)];omega
 have:z%(2^64:Int)=z:=a8e h (by omega);simp only[this];rw[a0g (by simp;omega)]
theorem LZ{x:Int}(h:KR x)(h0:x<0):i64.wrap (-1-x)=-1-x:=by
 have h1:=h.1;exact aeZ ⟨by omega,by omega⟩
theorem aa9{d:Dg}{x:Int}(below:Int)(h:KR x)(h0:x<0)(he:d.aI.length<=ah):iJ d x below=decide (i64.wrap (-1-x)<(d.aI.length:Int)):=by
 have he:d.aI.length<=2^60:=by unfold ah at he;omega
 unfold iJ;rw[a0g (by simp;omega),LZ h h0,a4i,uh,a1E];by_cases h1:d.aI.length=0
 .rw[h1,show i64.wrap (((0:Nat):Int)-1)=-1 by decide];omega
 rw[eP (by omega) (by omega)];omega
theorem ajJ{l:List Int}{v:Int}(h:v∈l):0<=mX l v:=by
 unfold mX;rw[a1k h,a0g (by simp)];omega
theorem af0{d:Dg}{x below KQ:Int}(h0:0<=x)(hv:x<below->(au d x).var∈d.aG):qc (yI d) x below KQ=(iJ d x below&&decide (KQ<tV d x)):=by
 unfold qc iJ;rw[a0g (show ¬(decide (x<0)=true) by rw[a1E];omega),a0i (show decide (x>=0)=true by rw[a1E];omega)];by_cases h1:x<below
 .rw[a0i (show decide (x<below)=true by rw[a1E];exact h1),Uu h0 (hv h1),decide_eq_true h1,ad5]
 rw[a0g (show ¬(decide (x<below)=true) by rw[a1E];exact h1),ael h1,Bool.false_and]
theorem af2{d:Dg}{x below KQ:Int}(h:KR x)(h0:x<0)(he:d.aI.length<=ah)(hr:KQ<(d.aG.length:Int)):qc (yI d) x below KQ=(iJ d x below&&decide (KQ<tV d x)):=by
 rw[aa9 _ h h0 he];unfold qc tV;rw[a0i (by rw[a1E];exact h0),a0i (by rw[a1E];exact h0),decide_eq_true hr,agM]
theorem a6G{d:Dg}{x below KQ:Int}(h:KR x)(he:d.aI.length<=ah)(hr:KQ<(d.aG.length:Int))(hv:0<=x->x<below->(au d x).var∈d.aG):qc (yI d) x below KQ=(iJ d x below&&decide (KQ<tV d x)):=by
 by_cases h0:0<=x
 .exact af0 h0 (hv h0)
 exact af2 h (by omega) he hr
theorem a6H{d:Dg}(h:Kq d)(he:d.aI.length<=ah)(hv:∀r,gQ r d.aj.length->(au d r).var∈d.aG):qc (yI d) d.root d.aj.length (-1)=iJ d d.root d.aj.length:=by
 rw[a6G h.root he (by omega) (fun a b=>hv _ ⟨a,by omega⟩)];cases e:iJ d d.root d.aj.length
 .rfl
 rw[ad5,a1E];by_cases h0:0<=d.root
 .have:=Xa e h0 (a0V _);rw[Uu h0 (hv _ this)];have:=ajJ (hv _ this);omega
 unfold tV;rw[a0i (by rw[a1E];omega)];omega
theorem acL{d:Dg}(h:Kq d)(he:d.aI.length<=ah){i:Nat}(hi:i<d.aj.length)(hf:rW d.ay)(ho:jR d.ay.length d.aG=true)(hv:∀j,j<i->(fC d j).var∈d.aG):FB (yI d) i=!(Zr d i):=by
 have e0:wR (yI d) i=fC d i:=rfl;unfold FB Zr;rw[e0];show(if(!(mF [(fC d i).var] 0 (xw d.ay)))=true then false else if(((fC d i).aA.length:Int) != d.ay.getD (fC d i).var.toNat 0)=true then false else _)=_;rw[OO];cases e1:mG (fC d i).var 0 (xw d.ay)
 .rfl
 have hvi:(fC d i).var∈d.aG:=mQ ho (J7 hf e1);have aoK:(au d (i:Int)).var∈d.aG:=hvi;simp only[a8C,a2l,a3a];split
 .rfl
 have EX:((fC d i).aA.all fun x=>qc (yI d) x i (mX (yI d).o (fC d i).var))=jT (bG (cLk d i) (fC d i).aA.length):=by
  rw[a4i,a4l,dL];have hk:∀k,k<(fC d i).aA.length->(qc (yI d) ((fC d i).aA.getD k 0) i (mX d.aG (fC d i).var)=true↔cLk d i k=false):=fun k hk=>by
   rw[a6G (h.zy i hi k hk) he (ajI hvi) (fun a b=>hv _ (by omega)),a2a,a1E];unfold cLk;rw[show tV d (i:Int)=mX d.aG (fC d i).var from Uu (by omega) aoK];cases iJ d ((fC d i).aA.getD k 0) i
   .simp
   simp<;>omega
  constructor
  .intro a k JF;exact(hk k JF).1 (a _ (dG JF))
  intro a x hx;obtain⟨k,JF,rfl⟩:=a4m.1 hx;have:=(hk k JF).2 (a k JF);rw[rM JF]at this;exact this
 rw[EX];cases jT (bG (cLk d i) (fC d i).aA.length)<;>rfl
theorem af4{d:Dg}(h:Kq d)(he:d.aI.length<=ah)(hf:rW d.ay)(ho:jR d.ay.length d.aG=true):(dO d.aj.length).all (FB (yI d))=jT (bG (Zr d) d.aj.length):=by
 have ajK:∀i,Zr d i=false->(fC d i).var∈d.aG:=fun i hc=>by
  unfold Zr at hc;split at hc
  .cases hc
  rename_i e;exact mQ ho (J7 hf (by simpa using e))
 have key:∀i,i<=d.aj.length->((∀j,j<i->FB (yI d) j=true)↔∀j,j<i->Zr d j=false):=by
  intro i
  induction i with
  |zero=>intro _;exact⟨fun _ j hj=>absurd hj (by omega),fun _ j hj=>absurd hj (by omega)⟩
  |succ i ih=>
   intro hi;have ih:=ih (by omega);constructor
   .intro a;have b:=ih.1 fun j hj=>a j (by omega);intro j hj;by_cases hji:j<i
    .exact b j hji
    have:j=i:=(by omega);subst this;have:=a j (by omega);rw[acL h he (by omega) hf ho (fun k hk=>ajK k (b k hk))]at this;simpa using this
   intro b j hj;by_cases hji:j<i
   .exact ih.2 (fun k hk=>b k (by omega)) j hji
   have:j=i:=(by omega);subst this;rw[acL h he (by omega) hf ho (fun k hk=>ajK k (b k (by omega))),b j (by omega)];rfl
 rw[a4i,a4l,dL,<-key _ (a0V _)];constructor
 .intro a j hj;exact a _ (by unfold dO;rw[a1d];exact⟨j,a4b.2 hj,rfl⟩)
 intro a x hx;simp only[dO,a1d,a4b]at hx;obtain⟨k,hk,rfl⟩:=hx;exact a k hk
theorem aac{d:Dg}(h:∀v∈d.aI,0<=v.f):d.aI.all qA=jT (bG (cLe d) d.aI.length):=by
 rw[a4i,a4l,dL];have hg:∀k,(hk:k<d.aI.length)->d.aI.getD k V0=d.aI[k]:=fun k hk=>by simp[List.getD,a0b hk]
 constructor
 .intro a k hk;unfold cLe;rw[hg k hk,<-a6F (h _ (a4h hk)),a _ (a4h hk)];rfl
 intro a x hx;obtain⟨k,hk,rfl⟩:=a4m.1 hx;have:=a k hk;unfold cLe at this;rw[hg k hk,<-a6F (h _ hx)]at this;simpa using this
theorem J9{d:Dg}(h:Kq d)(he:d.aI.length<=ah):bF d=(if(bU d.ay d.aG != 0)=true then lo0 else yI d,aW d):=by
 unfold bF aW;split
 .rfl
 rename_i h1;have VL:=jJ.1 (show bU d.ay d.aG=0 by simpa using h1);split
 .rfl
 unfold lu;rw[aac h.fault,af4 h he VL.1 VL.2];cases e1:jT (bG (cLe d) d.aI.length)
 .rfl
 cases e2:jT (bG (Zr d) d.aj.length)
 .rfl
 have hv:∀r,gQ r d.aj.length->(au d r).var∈d.aG:=fun r hr=>by
  have:=dL.1 e2 r.toNat (by have:=hr.1;have:=hr.2;omega);unfold Zr at this;split at this
  .cases this
  rename_i e;exact mQ VL.2 (J7 VL.1 (by simpa using e))
 rw[a6H h he hv];simp only[a8C,a2l,a3a,a2j];cases iJ d d.root d.aj.length<;>rfl
end Go.Proofs.YtmobpoiejckagaaGreat
namespace Pv
open Go Tw
structure oK(X:kH)(P:Program)(kt:TypeId)(α:Type)[DecidableEq α] where
 pv:α->PV X.Γ
 tv:α->TV
 v:α->Value
 hp:∀x,pR (pv x)=some (tv x)
 ht:∀x,(tv x).yw=some (v x)
 hc:∀em x,aB P (Instr.checkKey em 10000 kt (v x))=some ()
 hf:∀(x:α) (l:List α),aB P (Instr.findKey kt (v x) (l.map fun y=>⟨v y,.bool false,0⟩))=some ((l.findIdx? fun y=>decide (x=y)).map fun i=>(i,.bool false))
 hk:∃kind,aB P (underlying kt)=some kind∧((∀x y,Instr.sameNow kind (v x) (v y)=some (decide (x=y)))∨∀x y,Instr.sameNow kind (v x) (v y)=none∧aB P (Op.equal kt (v x) (v y))=some (decide (x=y)))
variable {X:kH} {P:Program} {kt:TypeId} {α:Type} [DecidableEq α] (C:oK X P kt α)
abbrev oK.es(l:List (α×PV X.Γ)):List (PV X.Γ×PV X.Γ):=l.map fun e=>(C.pv e.1,e.2)
theorem oK.tvs:∀l:List α,Tw.Bv (l.map C.tv)=some (l.map C.v)
 | []=>rfl
 |a::l=>by
  show(match(C.tv a).yw,Tw.Bv (l.map C.tv)with|some v,some vs=>some (v::vs)|_,_=>none)=_;rw[C.ht,oK.tvs l];rfl
theorem oK.find(x:α)(l:List α)(r:Option Nat)(hr:(l.findIdx? fun y=>decide (x=y))=r)(hs:∀(i:Nat) y,l[i]? = some y->decide (x=y)=(some i==r)):uZ P kt (C.v x) (l.map C.tv)=some r:=by
 unfold uZ;rw[C.tvs];simp only[];rw[bI,C.hc,a4c,a6r];show(match aB P (Instr.findKey kt (C.v x) (l.map fun y=>⟨C.v y,.bool false,0⟩))with|some r=>if Vk P kt (C.v x) (l.map C.v) (Option.map (fun(q:Nat×Value)=>q.1) r)then some (Option.map (fun(q:Nat×Value)=>q.1) r)else none|none=>none)=_;rw[C.hf,hr];have e:Option.map (fun(q:Nat×Value)=>q.1) (r.map fun i=>(i,Value.bool false))=r:=by cases r<;>rfl
 simp only[e];rw[a0i];obtain⟨kind,h1,h2⟩:=C.hk;simp only[Vk,h1,a2a,a8G,a4l];constructor
 .cases r with
  |none=>rfl
  |some j=>
   have:=(a9t.1 hr).1;simpa using this
 have hz:∀p∈(l.map C.v).zipIdx,∃y,p.1=C.v y∧decide (x=y)=(some p.2==r):=fun p hp=>by
  have:=a9e.1 hp;rw[a4d,a06]at this;obtain⟨y,hy,e⟩:=this;exact⟨y,e.symm,hs _ _ hy⟩
 rcases h2 with h2|h2
 .left;intro p hp;obtain⟨y,e1,e2⟩:=hz p hp;rw[e1,h2,e2];simp
 right;intro p hp;obtain⟨y,e1,e2⟩:=hz p hp;rw[e1,(h2 x y).1,(h2 x y).2,e2];simp
theorem oK.pk:∀l:List (α×PV X.Γ),uY X (C.es l)=some ((l.map (·.1)).map C.tv)
 | []=>rfl
 |a::l=>by
  show(match pR (C.pv a.1),uY X (C.es l)with|some v,some vs=>some (v::vs)|_,_=>none)=_;rw[C.hp,oK.pk l];rfl
theorem oK.ck(x:α):∃kv,(C.tv x).yw=some kv∧aB P (Instr.checkKey false 10000 kt kv)=some ():=⟨C.v x,C.ht x,C.hc false x⟩
theorem oK.fresh{l:List (α×PV X.Γ)}{x:α}(h:x∉l.map (·.1)):nD X P kt (C.es l) (C.tv x):=by
 refine⟨C.v x,_,C.ht x,C.pk l,?_⟩;have hno:∀y∈l.map (·.1),decide (x=y)=false:=fun y hy=>by
  simp only[a2H];intro e;exact h (e▸hy)
 exact C.find x _ none (List.findIdx?_eq_none_iff.2 hno) fun i y hy=>by rw[hno y (a4f hy)];rfl
theorem oK.found{l:List (α×PV X.Γ)}{x:α}{v:PV X.Γ}(hn:(l.map (·.1)).Nodup)(h:(x,v)∈l):qj X P kt (C.es l) (C.tv x) v:=by
 obtain⟨j,hj,e⟩:=a4m.1 h;refine⟨C.v x,_,j,C.pv x,C.ht x,C.pk l,?_,?_⟩
 .have hxj:(l.map (·.1))[j]? = some x:=by simp[a0b hj,e]
  have hu:∀(i:Nat) y,(l.map (·.1))[i]? = some y->decide (x=y)=(some i==some j):=fun i y hy=>by
   rw[a4i];simp only[a1E,a6v,a01];constructor
   .rintro rfl;have i1:=a02.1 hy;have i2:=a02.1 hxj;exact(a9G hn (h₀:=i1.1) (h₁:=i2.1)).1 (i1.2.trans i2.2.symm)
   rintro rfl;rw[hxj]at hy;exact a8H hy
  refine C.find x _ (some j) ?_ hu;rw[a9t];refine⟨by simpa using hj,by simp[e],fun i hi=>?_⟩;have hil:i<(l.map (·.1)).length:=by simp;omega
  rw[hu i _ (a0b hil)];simp;omega
 simp[oK.es,a0b hj,e]
theorem Ja{t:TypeId}{d:TypeDesc}(h:P.underlying t=some d):aB P (underlying t)=some d:=by
 simp only[underlying,bI];show Option.bind (some P) _=_;simp[h];rfl
theorem Zt{v:α->Value}(he:∀x y,aB P (Op.equal kt (v x) (v y))=some (decide (x=y)))(x:α):∀(l:List α) (i:Nat),aB P (Instr.findAsking kt (v x) (l.map fun y=>⟨v y,.bool false,0⟩) i)=some ((l.findIdx? fun y=>decide (x=y)).map fun j=>(j+i,.bool false))
 | [],i=>rfl
 |y::l,i=>by
  simp only[a3U,Instr.findAsking];rw[bI,he,a4c,List.findIdx?_cons];cases decide (x=y)with
  |true=>simp only[a2j,a0U,a3O];rfl
  |false=>
   simp only[a2l,a3a];rw[Zt he x l (i+1)];cases l.findIdx? fun y=>decide (x=y)with
   |none=>rfl
   |some j=>simp;omega
theorem a1l{v:α->Value}{fs:Array Field}(hu:P.underlying kt=some (.struct fs))(he:∀x y,aB P (Op.equal kt (v x) (v y))=some (decide (x=y)))(x:α)(l:List α):aB P (Instr.findKey kt (v x) (l.map fun y=>⟨v y,.bool false,0⟩))=some ((l.findIdx? fun y=>decide (x=y)).map fun i=>(i,.bool false)):=by
 have h:=Zt he x l 0;unfold Instr.findKey;rw[bI,Ja hu,a4c];cases l with
 |nil=>rfl
 |cons y l=>
  rw[show Instr.findNow (.struct fs) (v x) ((y::l).map fun y=>⟨v y,.bool false,0⟩) 0=none by simp[Instr.findNow,Instr.sameNow]];exact h
theorem a1m{k:IntKind}(x:Int):∀(l:List Int) (i:Nat),Instr.findNow (.int k) (.int k x) (l.map fun y=>⟨.int k y,.bool false,0⟩) i=some ((l.findIdx? fun y=>decide (x=y)).map fun j=>(j+i,.bool false))
 | [],i=>rfl
 |y::l,i=>by
  simp only[a3U,Instr.findNow,Instr.sameNow,a2j];rw[List.findIdx?_cons];by_cases h:x=y
  .subst h;simp
  rw[show(x==y)=false by simpa using h,ael h];simp only[a2l,a3a];rw[a1m x l (i+1)];cases l.findIdx? fun y=>decide (x=y)with
  |none=>rfl
  |some j=>simp;omega
theorem af5{k:IntKind}(hu:P.underlying kt=some (.int k))(x:Int)(l:List Int):aB P (Instr.findKey kt (.int k x) (l.map fun y=>⟨.int k y,.bool false,0⟩))=some ((l.findIdx? fun y=>decide (x=y)).map fun i=>(i,.bool false)):=by
 unfold Instr.findKey;rw[bI,Ja hu,a4c,a1m x l 0];cases l.findIdx? fun y=>decide (x=y)<;>rfl
theorem a1n{v:α->Value}{fs:Array Field}(hu:P.underlying kt=some (.struct fs))(he:∀x y,aB P (Op.equal kt (v x) (v y))=some (decide (x=y))) :
  ∃kind,aB P (underlying kt)=some kind∧((∀x y,Instr.sameNow kind (v x) (v y)=some (decide (x=y)))∨∀x y,Instr.sameNow kind (v x) (v y)=none∧aB P (Op.equal kt (v x) (v y))=some (decide (x=y))):=
 ⟨_,Ja hu,.inr fun x y=>⟨by simp[Instr.sameNow],he x y⟩⟩
theorem af6{k:IntKind}(hu:P.underlying kt=some (.int k)) :
  ∃kind,aB P (underlying kt)=some kind∧((∀x y:Int,Instr.sameNow kind (.int k x) (.int k y)=some (decide (x=y)))∨∀x y:Int,Instr.sameNow kind (.int k x) (.int k y)=none∧aB P (Op.equal kt (.int k x) (.int k y))=some (decide (x=y))):=
 ⟨_,Ja hu,.inl fun x y=>by simp only[Instr.sameNow,a2j];congr 1⟩
theorem af7{v:α->Value}{n:Nat}{e:TypeId}(hu:P.underlying kt=some (.array n e))(he:∀x y,aB P (Op.equal kt (v x) (v y))=some (decide (x=y)))(x:α)(l:List α):aB P (Instr.findKey kt (v x) (l.map fun y=>⟨v y,.bool false,0⟩))=some ((l.findIdx? fun y=>decide (x=y)).map fun i=>(i,.bool false)):=by
 have h:=Zt he x l 0;unfold Instr.findKey;rw[bI,Ja hu,a4c];cases l with
 |nil=>rfl
 |cons y l=>
  rw[show Instr.findNow (.array n e) (v x) ((y::l).map fun y=>⟨v y,.bool false,0⟩) 0=none by simp[Instr.findNow,Instr.sameNow]];exact h
theorem af8{v:α->Value}{n:Nat}{e:TypeId}(hu:P.underlying kt=some (.array n e))(he:∀x y,aB P (Op.equal kt (v x) (v y))=some (decide (x=y))) :
  ∃kind,aB P (underlying kt)=some kind∧((∀x y,Instr.sameNow kind (v x) (v y)=some (decide (x=y)))∨∀x y,Instr.sameNow kind (v x) (v y)=none∧aB P (Op.equal kt (v x) (v y))=some (decide (x=y))):=
 ⟨_,Ja hu,.inr fun x y=>⟨by simp[Instr.sameNow],he x y⟩⟩
end Pv
namespace Go.Proofs.YtmobpoiejckagaaGreat
open Go Tw Pv cO
def kV:oK X0 Qp 39 V where
 pv x:=.agg x.ps
 tv x:=x.tv
 v x:=.agg #[.int .u8 x.f,.int .i64 x.n]
 hp _:=rfl
 ht _:=rfl
 hc em x:=by kernel_rfl
 hf x l:=a1l aeP (fun a b=>a1b 9998 a b) x l
 hk:=a1n aeP fun a b=>a1b 9998 a b
def kI:oK X0 Qp 3 Int where
 pv x:=.int .i64 x
 tv x:=.int .i64 x
 v x:=.int .i64 x
 hp _:=rfl
 ht _:=rfl
 hc em x:=by kernel_rfl
 hf x l:=af5 a2V x l
 hk:=af6 a2V
abbrev zB(E:List V):List (V×PV X0.Γ):=E.zipIdx.map fun e=>(e.1,.int .i64 (e.2:Nat))
abbrev mkC(a b:List Int)(e n:Nat)(r:Int):PB aF:=.cells [.dn 3 a false,.dn 3 b false,.own 0,.own 1,.own e,.own n,.int .i64 r,.map 2,.map 3]
abbrev PS(l:List V):PB aF:=.list false false 39 l
abbrev PU(l:List Br):PB aF:=.list false false 105 l
abbrev MK(a b:List Int)(E:List V)(nd:List Br)(r:Int)(nm:List (PV aF×PV aF)):List (PB aF):=[.list false false 3 a,.list false false 3 b,.map (kV.es (zB E)),.map nm,mkC a b 5 6 r,PS E,PU nd]
abbrev MK'(a b:List Int)(E:List V)(nd:List Br)(r:Int)(nm:List (PV aF×PV aF)):List (PB aF):=[.list false false 3 a,.list false false 3 b,.map (kV.es (zB E)),.map nm,mkC a b 7 8 r,.gone,.gone,PS E,PU nd]
theorem S9(E:List V):(zB E).map (·.1)=E:=by
 unfold zB;rw[a6r];show E.zipIdx.map (·.1)=E;simp
theorem a6I(E:List V)(v:V):zB (E++[v])=zB E++[(v,.int .i64 (E.length:Nat))]:=by
 unfold zB;rw[List.zipIdx_append,a3T];simp
theorem a6J{E:List V}{v:V}(h:v∈E):(v,(.int .i64 (E.idxOf v:Nat):PV X0.Γ))∈zB E:=by
 unfold zB;rw[a1d];have hl:=a4g.2 h;exact⟨(v,E.idxOf v),by rw[a9e];simp[a0b hl],rfl⟩
def gV(E:List V)(v:V):List V:=if v∈E then E else E++[v]
theorem Uw{E:List V}{v:V}(h:E.Nodup):(gV E v).Nodup:=by
 unfold gV;split
 .exact h
 rename_i hn;rw[a8w];exact⟨h,by simp,fun x hx y hy=>by rw[a2J]at hy;subst hy;intro e;subst e;exact hn hx⟩
theorem aoL{n:Nat}(hO:Ok n Dc){a b:List Int}{E:List V}{nd:List Br}{r:Int}{nm:List (PV aF×PV aF)}(v:V)(hE:E.Nodup)(hl:E.length+1<=ah):aX X0 Qp (bP (n+1)) (.fn 196 [] []) [.ptr 4 0 9,.agg v.ps] (MK a b E nd r nm) (.int .i64 (i64.wrap (-1-(E.idxOf v:Nat)))) (MK' a b (gV E v) nd r nm):=by
 by_cases h:v∈E
 .rw[show gV E v=E from a0i h];have hf:qj X0 Qp 39 (kV.es (zB E)) v.tv (.int .i64 (E.idxOf v:Nat)):=kV.found (by rw[S9];exact hE) (a6J h);exact aX.gs hX (qX hX hO (first:=[]) (cap:=[]) (v:=.int .i64 (i64.wrap (-1-(E.idxOf v:Nat)))) (H1:=MK a b E nd r nm) (by kernel_rfl) (.c (.int .i64 (E.idxOf v:Nat)) [] hf (.b (rfl:(!true)=false) .er))) [.mv 5,.mv 6] rfl
 rw[show gV E v=E++[v]from a0g h,a8s h];have hf:nD X0 Qp 39 (kV.es (zB E)) v.tv:=kV.fresh (by rw[S9];exact h);have em:kV.es (zB (E++[v]))=kV.es (zB E)++[(.agg v.ps,.int .i64 (E.length:Nat))]:=by rw[a6I];exact a3T ..
 show aX X0 Qp _ _ _ _ _ [_,_,.map (kV.es (zB (E++[v]))),_,_,_,_,_,_];rw[em];exact aX.gs hX (qX hX hO (first:=[]) (cap:=[]) (v:=.int .i64 (i64.wrap (-1-(E.length:Nat)))) (H1:=[.list false false 3 a,.list false false 3 b,.map (kV.es (zB E)++[(.agg v.ps,.int .i64 (E.length:Nat))]),.map nm,mkC a b 8 6 r,.gone,PU nd,.list true true 39 [v],PS (E++[v])]) (by kernel_rfl) (.a .calm (.o hf (.b (rfl:(!false)=true) (.a .calm (.o (kV.ck v) (.o hf (.o (show E.length+[v].length<=ah by simpa using hl) .er)))))))) [.mv 6,.gc [8,9]] rfl
end Go.Proofs.YtmobpoiejckagaaGreat
namespace Tw
open Go
section
variable {P:Program}
theorem Df{e:TypeId}(hg:aB P (isAgg e)=some false){xs:Array Value}{i:Nat}{v:Value}(h:xs[i]? = some v):aB P (part e xs i)=some v:=by
 unfold part;rw[bI,hg,a4c];simp only[a2l,a3a,h];rfl
def a3f(d:Nat)(e:TypeId)(c:Nat)(xs ys:Array Value):List Nat->Sem Bool
 | []=>pure true
 |i::is=>do
  let a <-part e xs (i*c)
  let b <-part e ys (i*c)
  let r <-Op.equalIn d e a b
  if(!r)=true then pure false else a3f d e c xs ys is
theorem Jc(d:Nat){t e:TypeId}{n c:Nat}(xs ys:Array Value)(hu:P.underlying t=some (.array n e))(hs:aB P (sizeOf e)=some c) :
  aB P (Op.equalIn (d+1) t (.agg xs) (.agg ys))=aB P (a3f d e c xs ys (List.range' 0 n)):=by
 have hu':aB P (underlying t)=some (.array n e):=by
  simp only[underlying,bI];have:aB P program=some P:=rfl;simp[this,hu,aB];rfl
 simp only[Op.equalIn,bI,hu',a4c,hs];simp only[Std.Legacy.Range.forIn_eq_forIn_range',Std.Legacy.Range.size,Nat.sub_zero,Nat.add_one_sub_one,Nat.div_one];generalize List.range' 0 n=is;clear hu hu' hs
 induction is with
 |nil=>simp[a3f,aB,bI];rfl
 |cons j is ih=>
  simp only[List.forIn_cons,a3f,bI]at ih ⊢;generalize aB P (part e xs (j*c))=r1;cases r1 with
  |none=>simp
  |some a=>
   simp only[a4c];generalize aB P (part e ys (j*c))=r2;cases r2 with
   |none=>simp
   |some b=>
    simp only[a4c];generalize aB P (Op.equalIn d e a b)=r3;cases r3 with
    |none=>simp
    |some r=>
     cases r with
     |false=>simp only[a4c,aaw,a2j];rfl
     |true=>simp only[a4c,a8C,a2l,a3a];exact ih
abbrev Dh(k:IntKind)(l:List Int):Array Value:=(l.map fun x=>Value.int k x).toArray
theorem OQ{k:IntKind}{l:List Int}{i:Nat}(h:i<l.length):(Dh k l)[i]? = some (.int k l[i]):=by
 simp[Dh,h]
theorem Kr{d:Nat}{e:TypeId}{k k':IntKind}(hu:P.underlying e=some (.int k'))(hg:aB P (isAgg e)=some false)(l l':List Int)(hl:l.length=l'.length):∀(m i:Nat),i+m=l.length->aB P (a3f (d+1) e 1 (Dh k l) (Dh k l') (List.range' i m))=some (decide (l.drop i=l'.drop i))
 | 0,i,h=>by
  rw[ag5 (by omega),ag5 (by omega)];rfl
 |m+1,i,h=>by
  have h1:i<l.length:=by omega
  have h2:i<l'.length:=by omega
  rw[List.range'_succ];simp only[a3f,agJ];rw[bI,Df hg (OQ h1),a4c,bI,Df hg (OQ h2),a4c,bI,qR d e k k' _ _ hu,a4c];rw[a6q h1,a6q h2];by_cases hc:l[i]=l'[i]
  .have:=Kr (d:=d) (k:=k) hu hg l l' hl m (i+1) (by omega);simp only[hc,beq_self_eq_true,a8C,a2l,a3a,this,ae0,true_and]
  have:(l[i]==l'[i])=false:=by simpa using hc
  simp only[this,aaw,a2j,ae0,hc,false_and,decide_false];rfl
theorem Bo(d:Nat){t e:TypeId}{n:Nat}{k k':IntKind}(ht:P.underlying t=some (.array n e))(hs:aB P (sizeOf e)=some 1)(hu:P.underlying e=some (.int k'))(hg:aB P (isAgg e)=some false){l l':List Int}(hl:l.length=n)(hl':l'.length=n) :
  aB P (Op.equalIn (d+2) t (.agg (Dh k l)) (.agg (Dh k l')))=some (decide (l=l')):=by
 rw[Jc (d+1) _ _ ht hs,Kr hu hg l l' (by omega) n 0 (by omega),aaE,aaE]
end
end Tw
namespace Go.Proofs.YtmobpoiejckagaaGreat
open Go Tw Pv cO
abbrev oI(k ex:Bool)(l:List Int):PB aF:=.list k ex 3 l
abbrev wOI(f:Nat)(a c:List (PV aF))(k ex:Bool)(R:List (PB aF))(l:List Int)(i:Int)(x:List (Nat×PE aF)):aS aF:=⟨[(0,.val (.own 0)),(1,.val (.fn f a c)),(7,xi l.length),(8,xi i)]++x,[],oI k ex l::R⟩
def zOI(f:Nat)(a c:List (PV aF))(k ex:Bool)(R:List (PB aF))(l:List Int):Unit⊕(Nat×Int×Unit)->Ex×aS aF
 |.inl _=>(.exit 0,wOI f a c k ex R l l.length [(9,xl false)])
 |.inr r=>(.ret,⟨[(4,xi r.1)],[],oI k ex l::R⟩)
theorem qoI{n f:Nat}{a c:List (PV aF)}{ko ex:Bool}{R:List (PB aF)}{g:Int->Bool}(l:List Int)(hf:∀x∈l,aX X0 Qp (bP n) (.fn f a c) [.int .i64 x] (oI ko ex l::R) (.bool (g x)) (oI ko ex l::R))(hl:l.length<=ah):aX X0 Qp (bP (n+1)) (.fn 218 [] []) [.own 0,.fn f a c] (oI ko ex l::R) (iA.put (qZ g l)) (oI ko ex l::R):=by
 have lp:OG n 218 0 (R.length+1) (wOI f a c ko ex R l 0 []) (zOI f a c ko ex R l (lX (pz g) l 0 ())).1 (zOI f a c ko ex R l (lX (pz g) l 0 ())).2:=
  WJ (st:=fun i _=>wOI f a c ko ex R l i []) (0:Int) (fun _ _=>True) (by kernel_rfl) hl OE trivial (fun k s n hk _ ih=>aN fZ (.b (bD hk) (.o (aH hk) (.k (hf (l.getD k (0:Int)) (dG hk)) (.ls (.ou nofun) (.nx (ih _ trivial))))))) (fun s _=>aN fZ (.b (fF l.length) (.ou nofun)))
 exact jd fZ (first:=[]) (cap:=[]) (.szh (fun h=>.w (jP lp () h) .sr) (fun h=>.w (jQ lp (0,0,()) h) .sr))
theorem qoC{n f:Nat}{a c:List (PV aF)}{ko ex:Bool}{R:List (PB aF)}{g:Int->Bool}(l:List Int)(hf:∀x∈l,aX X0 Qp (bP n) (.fn f a c) [.int .i64 x] (oI ko ex l::R) (.bool (g x)) (oI ko ex l::R))(hl:l.length<=ah):aX X0 Qp (bP (n+2)) (.fn 181 [] []) [.own 0,.fn f a c] (oI ko ex l::R) (tA.put (l.any g)) (oI ko ex l::R):=by
 have h1:=qoI l hf hl;have h2:=DR g l;rw[<-h2];exact jd fZ (first:=[]) (cap:=[]) (.k h1 .sr)
abbrev Hk(k ex:Bool)(l:List Int):List (PB aF):=[oI k ex l,.cells [.own 0]]
theorem qoA{n f:Nat}{ko ex:Bool}{g:Int->Bool}(l:List Int)(hf:∀x∈l,aX X0 Qp (bP n) (.fn f [] [.ptr 1 0 1]) [.int .i64 x] (Hk ko ex l) (tA.put (g x)) (Hk ko ex l))(hl:l.length<=ah):aX X0 Qp (bP (n+4)) (.fn 191 [] []) [.own 0,.fn f [] [.ptr 1 0 1]] (Hk ko ex l) (tA.put (l.all g)) (Hk ko ex l):=by
 have h1:∀x∈l,aX X0 Qp (bP (n+1)) (.fn 221 [] [.ptr 2 0 1]) [.int .i64 x] (Hk ko ex l++[.cells [.fn f [] [.ptr 1 0 1]]]) (tA.put (!(g x))) (Hk ko ex l++[.cells [.fn f [] [.ptr 1 0 1]]]):=fun x hx=>
  jd fZ (first:=[]) (.fr [0,1] (hf x hx) .sr)
 have h2:=qoC (R:=[.cells [.own 0],.cells [.fn f [] [.ptr 1 0 1]]]) l h1 hl;rw[<-DU l g];exact aX.drop hX (CV hX fZ (first:=[]) (cap:=[]) (H1:=Hk ko ex l++[.cells [.fn f [] [.ptr 1 0 1]]]) (by kernel_rfl) (.k h2 .sr)) rfl rfl
theorem a6K{n:Nat}{ko ex:Bool}(l:List Int)(hl:l.length<=ah):aX X0 Qp (bP (n+5)) (.fn 191 [] []) [.own 0,.fn 224 [] [.ptr 1 0 1]] (Hk ko ex l) (tA.put (l.all fun x=>x==l.getD 0 0)) (Hk ko ex l):=
 qoA (n:=n+1) l (fun x hx=>jd fZ (first:=[]) (.o (show gQ 0 l.length from⟨by omega,by have:=List.length_pos_of_mem hx;omega⟩) .sr)) hl
theorem a6L:∀l:List Int,l.length=12->∃a0 a1 a2 a3 a4 a5 a6 a7 a8 a9 a10 a11:Int,l=[a0,a1,a2,a3,a4,a5,a6,a7,a8,a9,a10,a11]
 | [a0,a1,a2,a3,a4,a5,a6,a7,a8,a9,a10,a11],_=>⟨a0,a1,a2,a3,a4,a5,a6,a7,a8,a9,a10,a11,rfl⟩
 | [],h=>by simp at h
 | [_],h=>by simp at h
 | [_,_],h=>by simp at h
 | [_,_,_],h=>by simp at h
 | [_,_,_,_],h=>by simp at h
 | [_,_,_,_,_],h=>by simp at h
 | [_,_,_,_,_,_],h=>by simp at h
 | [_,_,_,_,_,_,_],h=>by simp at h
 | [_,_,_,_,_,_,_,_],h=>by simp at h
 | [_,_,_,_,_,_,_,_,_],h=>by simp at h
 | [_,_,_,_,_,_,_,_,_,_],h=>by simp at h
 | [_,_,_,_,_,_,_,_,_,_,_],h=>by simp at h
 |_::_::_::_::_::_::_::_::_::_::_::_::_::_,h=>by simp at h
abbrev Ky:=Int×{l:List Int // l.length=12}
abbrev Ky.l(x:Ky):List Int:=x.1::x.2.val
theorem OU:∀l:List Int,iI (Γ:=aF) (l.map fun x=>PV.int .i64 x)=some (l.map fun x=>TV.int .i64 x)
 | []=>rfl
 |a::l=>by simp only[a3U,iI,qP,OU l]
theorem Si:∀l:List Int,TV.Tc (l.map fun x=>TV.int .i64 x)=some (l.map fun x=>Value.int .i64 x)
 | []=>rfl
 |a::l=>by simp only[a3U,TV.Tc,TV.toC,Si l]
theorem af9 : Tryz.prog.underlying 223 = some (.struct #[⟨"choice", 3, 0, false, "", "mist/node", 0⟩, ⟨"kids", 221, 1, false, "", "mist/node", 8⟩]) := by kernel_rfl
theorem acN(d:Nat)(a b:Ky):aB Qp (Op.equalIn (d+3) 223 (.agg (Dh .i64 a.l)) (.agg (Dh .i64 b.l)))=some (decide (a=b)):=by
 obtain⟨a1,a2,ha⟩:=a;obtain⟨b1,b2,hb⟩:=b;rw[xY (d+2) 223 _ _ _ af9 (by kernel_rfl)];have gI:aB Qp (isAgg 3)=some false:=by kernel_rfl
 have gA:aB Qp (isAgg 221)=some true:=by kernel_rfl
 have sA:aB Qp (sizeOf 221)=some 12:=by kernel_rfl
 have sI:aB Qp (sizeOf 3)=some 1:=by kernel_rfl
 have p0:∀x l,aB Qp (part 3 (Dh .i64 (x::l)) 0)=some (.int .i64 x):=fun x l=>Df gI (OQ (l:=x::l) (by simp));have p1:∀x l,l.length=12->aB Qp (part 221 (Dh .i64 (x::l)) 1)=some (.agg (Dh .i64 l)):=fun x l h=>by
  obtain⟨a0,a1,a2,a3,a4,a5,a6,a7,a8,a9,a10,a11,rfl⟩:=a6L l h
  kernel_rfl
 have q1 := o7 (f := ⟨"choice", 3, 0, false, "", "mist/node", 0⟩) (fs := [⟨"kids", 221, 1, false, "", "mist/node", 8⟩]) (by decide) (p0 a1 a2) (p0 b1 b2) (qR (d + 1) _ .i64 _ a1 b1 a2V);have q2 := o7 (f := ⟨"kids", 221, 1, false, "", "mist/node", 8⟩) (fs := []) (by decide) (p1 a1 a2 ha) (p1 b1 b2 hb) (Bo d (k := .i64) (t := 221) (by kernel_rfl) sI a2V gI ha hb);rw[q1,q2];rw[show aB Qp (Op.eqFields (d+2) (Dh .i64 (a1::a2)) (Dh .i64 (b1::b2)) [])=some true from rfl];by_cases h1:a1=b1<;>by_cases h2:a2=b2<;>simp[h1,h2]
def kK:oK X0 Qp 223 Ky where
 pv x:=.agg (x.l.map fun i=>.int .i64 i)
 tv x:=.agg (x.l.map fun i=>.int .i64 i)
 v x:=.agg (Dh .i64 x.l)
 hp x:=congrArg (Option.map TV.agg) (OU x.l)
 ht x:=congrArg (Option.map fun vs:List Value=>Value.agg vs.toArray) (Si x.l)
 hc em x:=by
  obtain⟨c,l,h⟩:=x;obtain⟨a0,a1,a2,a3,a4,a5,a6,a7,a8,a9,a10,a11,rfl⟩:=a6L l h
  kernel_rfl
 hf x l:=a1l af9 (fun a b=>acN 9997 a b) x l
 hk:=a1n af9 (fun a b=>acN 9997 a b)
open Go Tw Pv cO
def He(l:List Int):List Int:=(l++[0,0,0,0,0,0,0,0,0,0,0,0]).take 12
theorem a6M(l:List Int):(He l).length=12:=by unfold He;simp
def tX(c:Int)(ks:List Int):Ky:=(c,⟨He ks,a6M ks⟩)
abbrev BH(b:Br):Ky:=tX b.var b.aA
abbrev yG(nd:List Br):List (Ky×PV X0.Γ):=nd.zipIdx.map fun e=>(BH e.1,.int .i64 (e.2:Nat))
theorem Sj(nd:List Br):(yG nd).map (·.1)=nd.map BH:=by
 unfold yG;rw[a6r];show nd.zipIdx.map (BH∘fun e=>e.1)=_;rw[<-a6r];simp
theorem a6N(nd:List Br)(b:Br):yG (nd++[b])=yG nd++[(BH b,.int .i64 (nd.length:Nat))]:=by
 unfold yG;rw[List.zipIdx_append,a3T];simp
theorem a6O{nd:List Br}{k:Ky}(h:k∈nd.map BH):(k,(.int .i64 ((nd.map BH).idxOf k:Nat):PV X0.Γ))∈yG nd:=by
 have hl:=a4g.2 h;have TA:(nd.map BH).idxOf k<nd.length:=by simpa using hl
 unfold yG;rw[a1d];refine⟨(nd[(nd.map BH).idxOf k],(nd.map BH).idxOf k),by rw[a9e];simp[a0b TA],?_⟩;have:=a8t hl;rw[a8Y]at this;show(BH _,_)=_;rw[this]
def dh(nd:List Br)(c:Int)(ks:List Int):List Br:=if(ks.all fun x=>x==ks.getD 0 0)=true then nd else if tX c ks∈nd.map BH then nd else nd++[⟨c,ks⟩]
def dZ(nd:List Br)(c:Int)(ks:List Int):Int:=if(ks.all fun x=>x==ks.getD 0 0)=true then ks.getD 0 0 else((nd.map BH).idxOf (tX c ks):Nat)
abbrev MN(a b:List Int)(E:List V)(nd:List Br)(r:Int):List (PB aF):=MK a b E nd r (kK.es (yG nd))
abbrev MNg(a b:List Int)(E:List V)(nd:List Br)(r:Int)(nm:List (PV aF×PV aF)):List (PB aF):=[.list false false 3 a,.list false false 3 b,.map (kV.es (zB E)),.map nm,mkC a b 8 9 r,.gone,.gone,.gone,PS E,PU nd]
abbrev MN'(a b:List Int)(E:List V)(nd:List Br)(r:Int):List (PB aF):=MNg a b E nd r (kK.es (yG nd))
theorem afa{n:Nat}(hO:Ok (n+5) Dc){a b:List Int}{E:List V}{nd:List Br}{r:Int}(c:Int)(ks:List Int)(hk:1<=ks.length∧ks.length<=12)(hf:(ks.all fun x=>x==ks.getD 0 0)=true):aX X0 Qp (bP (n+6)) (.fn 198 [] []) [.ptr 4 0 9,.int .i64 c,.own 7] (MN a b E nd r++[oI true true ks]) (.int .i64 (ks.getD 0 0)) (MN' a b E nd r):=by
 have h1:=qX hX hO (first:=[]) (cap:=[]) (xs:=[.ptr 4 0 9,.int .i64 c,.own 7]) (H:=MN a b E nd r++[oI true true ks]) (v:=.int .i64 (ks.getD 0 0)) (H1:=MN a b E nd r++[oI true true ks,.cells [.own 7]]) (f:=198) (by kernel_rfl) (.fr [7,8] (a6K (n:=n) (ko:=true) (ex:=true) ks (m12 hk.2)) (.b hf (.o (show gQ 0 ks.length from⟨by omega,by omega⟩) .er)));exact aX.forget (aX.gs hX h1 [.mv 5,.mv 6,.gc [9,10]] rfl) 7
abbrev a6P(c:Int)(ks:List Int):PB aF:=.cells ((Ky.l (tX c ks)).map fun i=>.int .i64 i)
theorem afb{n:Nat}(hO:Ok (n+5) Dc){a b:List Int}{E:List V}{nd:List Br}{r:Int}(c:Int)(ks:List Int)(hk:1<=ks.length∧ks.length<=12)(hf:(ks.all fun x=>x==ks.getD 0 0)=false)(hN:(nd.map BH).Nodup)(hm:tX c ks∈nd.map BH):aX X0 Qp (bP (n+6)) (.fn 198 [] []) [.ptr 4 0 9,.int .i64 c,.own 7] (MN a b E nd r++[oI true true ks]) (.int .i64 ((nd.map BH).idxOf (tX c ks):Nat)) (MN' a b E nd r):=by
 have hF:qj X0 Qp 223 (kK.es (yG nd)) (kK.tv (tX c ks)) (.int .i64 ((nd.map BH).idxOf (tX c ks):Nat)):=kK.found (by rw[Sj];exact hN) (a6O hm);have h1:aX X0 Qp (bP (n+6)) (.fn 198 [] []) [.ptr 4 0 9,.int .i64 c,.own 7] (MN a b E nd r++[oI true true ks]) (.int .i64 ((nd.map BH).idxOf (tX c ks):Nat)) (MN a b E nd r++[oI true true ks,.cells [.own 7],a6P c ks]):=by
  generalize (nd.map BH).idxOf (tX c ks)=j at hF ⊢;generalize yG nd=nm at hF ⊢;obtain⟨k1,k2⟩:=hk;rcases ks with _|⟨x0,_|⟨x1,_|⟨x2,_|⟨x3,_|⟨x4,_|⟨x5,_|⟨x6,_|⟨x7,_|⟨x8,_|⟨x9,_|⟨x10,_|⟨x11,_|⟨x12,_⟩⟩⟩⟩⟩⟩⟩⟩⟩⟩⟩⟩⟩<;>first|(exfalso;simp at k1;done)|(exfalso;simp at k2;omega)|(exact fP hO (first:=[]) (cap:=[]) (.fr [7,8] (a6K (n:=n) (ko:=true) (ex:=true) _ (m12 k2)) (.b hf (.c (.int .i64 (j:Nat)) [] hF (.b (rfl:(!true)=false) .er)))))
 exact aX.forget (aX.gs hX (aX.forget h1 9) [.mv 5,.mv 6,.gc [10,11]] rfl) 7
theorem afc{n:Nat}(hO:Ok (n+5) Dc){a b:List Int}{E:List V}{nd:List Br}{r:Int}(c:Int)(ks:List Int)(hk:1<=ks.length∧ks.length<=12)(hf:(ks.all fun x=>x==ks.getD 0 0)=false)(hm:tX c ks∉nd.map BH)(hl:nd.length+1<=ah):aX X0 Qp (bP (n+6)) (.fn 198 [] []) [.ptr 4 0 9,.int .i64 c,.own 7] (MN a b E nd r++[oI true true ks]) (.int .i64 (nd.length:Nat)) (MN' a b E (nd++[⟨c,ks⟩]) r):=by
 have hF:nD X0 Qp 223 (kK.es (yG nd)) (kK.tv (tX c ks)):=kK.fresh (by rw[Sj];exact hm);have hC:=kK.ck (tX c ks);have hL:nd.length+([⟨c,ks⟩]:List Br).length<=ah:=by simpa using hl
 have em:kK.es (yG (nd++[⟨c,ks⟩]))=kK.es (yG nd)++[(kK.pv (tX c ks),.int .i64 (nd.length:Nat))]:=by rw[a6N];exact a3T ..
 show aX X0 Qp _ _ _ _ _ (MNg a b E (nd++[⟨c,ks⟩]) r (kK.es (yG (nd++[⟨c,ks⟩]))));rw[em];have h1:aX X0 Qp (bP (n+6)) (.fn 198 [] []) [.ptr 4 0 9,.int .i64 c,.own 7] (MN a b E nd r++[oI true true ks]) (.int .i64 (nd.length:Nat)) [.list false false 3 a,.list false false 3 b,.map (kV.es (zB E)),.map (kK.es (yG nd)++[(kK.pv (tX c ks),.int .i64 (nd.length:Nat))]),mkC a b 5 11 r,PS E,.gone,.gone,.cells [.own 7],a6P c ks,.list true true 105 [⟨c,ks⟩],PU (nd++[⟨c,ks⟩])]:=by
  generalize yG nd=nm at hF ⊢;obtain⟨k1,k2⟩:=hk;rcases ks with _|⟨x0,_|⟨x1,_|⟨x2,_|⟨x3,_|⟨x4,_|⟨x5,_|⟨x6,_|⟨x7,_|⟨x8,_|⟨x9,_|⟨x10,_|⟨x11,_|⟨x12,_⟩⟩⟩⟩⟩⟩⟩⟩⟩⟩⟩⟩⟩<;>first|(exfalso;simp at k1;done)|(exfalso;simp at k2;omega)|(exact fP hO (first:=[]) (cap:=[]) (.fr [7,8] (a6K (n:=n) (ko:=true) (ex:=true) _ (m12 k2)) (.b hf (.q (.bool false) hF (.b (rfl:(!false)=true) (.q (.bool false) hC (.o hF (.o hL .er))))))))
 exact aX.gs hX (aX.forget (aX.forget h1 9) 10) [.mv 5,.gc [12,11]] rfl
theorem ajP{n:Nat}(hO:Ok (n+5) Dc){a b:List Int}{E:List V}{nd:List Br}{r:Int}(c:Int)(ks:List Int)(hk:1<=ks.length∧ks.length<=12)(hN:(nd.map BH).Nodup)(hl:nd.length+1<=ah):aX X0 Qp (bP (n+6)) (.fn 198 [] []) [.ptr 4 0 9,.int .i64 c,.own 7] (MN a b E nd r++[oI true true ks]) (.int .i64 (dZ nd c ks)) (MN' a b E (dh nd c ks) r):=by
 unfold dZ dh;cases hf:ks.all fun x=>x==ks.getD 0 0
 .rw[a0g (by simp),a0g (by simp)];by_cases hm:tX c ks∈nd.map BH
  .rw[a0i hm];exact afb hO c ks hk hf hN hm
  rw[a0g hm,a8s hm,a4a];exact afc hO c ks hk hf hm hl
 rw[a0i rfl,a0i rfl];exact afa hO c ks hk hf
theorem Qh{nd:List Br}{c:Int}{ks:List Int}(h:(nd.map BH).Nodup):((dh nd c ks).map BH).Nodup:=by
 unfold dh;split
 .exact h
 split
 .exact h
 rename_i hn;rw[a3T,a8w];exact⟨h,by simp,fun x hx y hy=>by simp at hy;subst hy;intro e;subst e;exact hn hx⟩
open Go Tw Pv cO
theorem aoN{n:Nat}(hO:Ok n Dc)(a b:List Int)(ha:a.length<=ah)(hb:b.length<=ah):aX X0 Qp (bP (n+1)) (.fn 194 [] []) [.agg [.dn 3 a false,.dn 3 b false]] [] (.ptr 4 0 9) (MN a b [] [] 0):=
 aX.gs hX (qX hX hO (first:=[]) (cap:=[]) (v:=.ptr 4 0 9) (H1:=[.list false false 3 a,.list false false 3 b,.map [],.map [],.cells [.dn 3 a false,.dn 3 b false,.own 0,.own 1,.nil .slc,.nil .slc,.int .i64 0,.map 2,.map 3]]) (by kernel_rfl) (.o ha (.o hb .er))) [.U6 4 4 39,.U6 4 5 105] rfl
structure Cs where
 e:List V
 n:List Br
 k:List (Int×Int)
abbrev KT(k:List (Int×Int)):List (Int×PV X0.Γ):=k.map fun p=>(p.1,.int .i64 p.2)
abbrev pC:List (PV aF):=[.ptr 8 0 1,.ptr 7 0 7,.ptr 10 0 1,.ptr 11 0 1]
abbrev acO(l:Lo)(k:List (Int×Int)):List (PB aF):=[.aC l.ps,.aC [.ptr 4 0 9],.map (kI.es (KT k)),.aC [.map 9],.aC [.fn 195 [] pC]]
abbrev HC(l:Lo)(x:Cs):List (PB aF):=MN l.s l.o x.e x.n 0++acO l x.k
abbrev HC'(l:Lo)(x:Cs):List (PB aF):=[.list false false 3 l.s,.list false false 3 l.o,.map (kV.es (zB x.e)),.map (kK.es (yG x.n)),mkC l.s l.o 12 13 0,.gone,.gone]++acO l x.k++[PS x.e,PU x.n]
def pI(d:Dg)(r:Int):V:=d.aI.getD (i64.wrap (-1-r)).toNat V0
def Ux(k:List (Int×Int))(r:Int):Int:=((k.find? fun p=>p.1==r).getD (0,0)).2
def bW(d:Dg):Nat->Int->Cs->Int×Cs
 | 0,_,x=>(0,x)
 |F+1,r,x=>if decide (r<0)=true then(i64.wrap (-1-(x.e.idxOf (pI d r):Nat)),⟨gV x.e (pI d r),x.n,x.k⟩)else if decide (r∈x.k.map (·.1))=true then(Ux x.k r,x)
  else
   let y:=aT (fun j (y:List Int×Cs)=>(y.1.set j (bW d F ((au d r).aA.getD j 0) y.2).1,(bW d F ((au d r).aA.getD j 0) y.2).2)) (au d r).aA.length 0 (List.replicate (au d r).aA.length 0,x)
   (dZ y.2.n (au d r).var y.1,⟨y.2.e,dh y.2.n (au d r).var y.1,y.2.k++[(r,dZ y.2.n (au d r).var y.1)]⟩)
structure Di(d:Dg)(x:Cs):Prop where
 e1:x.e.Nodup
 e2:∀v∈x.e,v∈d.aI
 n1:(x.n.map BH).Nodup
 n2:x.n.length<=x.k.length
 k1:(x.k.map (·.1)).Nodup
 k2:∀a∈x.k.map (·.1),gQ a d.aj.length
theorem Di.KP{d:Dg}{x:Cs}(h:Di d x):x.k.length<=d.aj.length:=by
 have:=zA _ _ h.k1 h.k2;simpa using this
theorem Di.ajQ{d:Dg}{x:Cs}(h:Di d x):x.e.length<=d.aI.length:=adk h.e1 h.e2
theorem Xj(nd:List Br)(c:Int)(ks:List Int):(dh nd c ks).length<=nd.length+1:=by
 unfold dh;split
 .omega
 split
 .omega
 simp
theorem a1o{k:List (Int×Int)}{r:Int}(h:r∈k.map (·.1)):(r,Ux k r)∈k:=by
 rw[a1d]at h;obtain⟨p,hp,rfl⟩:=h;unfold Ux;cases e:k.find? fun q=>q.1==p.1 with
 |none=>have:=adl.1 e p hp;simp at this
 |some q=>
  have h1:=aeT e;have h2:=List.find?_some e;simp at h2;rw[<-h2];exact h1
theorem a6Q{d:Dg}{r:Int}(h:gQ (i64.wrap (-1-r)) d.aI.length):pI d r∈d.aI:=by
 have h1:(i64.wrap (-1-r)).toNat<d.aI.length:=by have:=h.1;have:=h.2;omega
 unfold pI;simp[List.getD,a0b h1]
theorem Hf{d:Dg}(P:Cs->Prop){F:Nat}{r:Int}{x:Cs}(h:P x)(hs:∀j y,j<(au d r).aA.length->P y->P (bW d F ((au d r).aA.getD j 0) y).2) :
  (aT (fun j (y:List Int×Cs)=>(y.1.set j (bW d F ((au d r).aA.getD j 0) y.2).1,(bW d F ((au d r).aA.getD j 0) y.2).2)) (au d r).aA.length 0 (List.replicate (au d r).aA.length 0,x)).1.length=(au d r).aA.length∧P (aT (fun j (y:List Int×Cs)=>(y.1.set j (bW d F ((au d r).aA.getD j 0) y.2).1,(bW d F ((au d r).aA.getD j 0) y.2).2)) (au d r).aA.length 0 (List.replicate (au d r).aA.length 0,x)).2:=
 dD (g:=fun j (y:List Int×Cs)=>(y.1.set j (bW d F ((au d r).aA.getD j 0) y.2).1,(bW d F ((au d r).aA.getD j 0) y.2).2)) (m:=(au d r).aA.length) (k:=0) (s:=(List.replicate (au d r).aA.length 0,x)) (fun _ y=>y.1.length=(au d r).aA.length∧P y.2) ⟨by simp,h⟩ (fun j y _ hj hy=>⟨by simp[hy.1],hs j y.2 (by omega) hy.2⟩)
theorem Xk{d:Dg}:∀(F:Nat) (r s:Int) (x:Cs),r<s->s∉x.k.map (·.1)->0<=s->(∀i,i<d.aj.length->∀k,k<(fC d i).aA.length->(fC d i).aA.getD k 0<i)->(0<=r->gQ r d.aj.length)->s∉(bW d F r x).2.k.map (·.1)
 | 0,_,_,_,_,h,_,_,_=>h
 |F+1,r,s,x,hr,h,h0,hk,hn=>by
  unfold bW;by_cases c:r<0
  .rw[a0i (by simpa using c)];exact h
  rw[a0g (by simpa using c)];split
  .exact h
  have hi:=hn (by omega);have Dv:∀k,k<(au d r).aA.length->(au d r).aA.getD k 0<r:=fun k mO=>by
   obtain⟨i1,i2⟩:=hi;have h9:(au d r).aA.getD k 0<(r.toNat:Int):=hk r.toNat (by omega) k mO;omega
  have:=(Hf (d:=d) (fun y=>s∉y.k.map (·.1)) (F:=F) (r:=r) h (fun j y hj hy=>Xk F _ s y (by have:=Dv j hj;omega) hy h0 hk fun h5=>⟨h5,by have:=hi.2;have:=Dv j hj;omega⟩)).2;simp only[a3T,a2X,ada];exact⟨this,by simp;omega⟩
theorem OV{d:Dg}(h:Bj d):∀(F:Nat) (r:Int) (x:Cs),Di d x->ji d r d.aj.length->Di d (bW d F r x).2
 | 0,_,_,hx,_=>hx
 |F+1,r,x,hx,hr=>by
  unfold bW;by_cases c:r<0
  .rw[a0i (by simpa using c)];refine⟨Uw hx.e1,fun v hv=>?_,hx.n1,hx.n2,hx.k1,hx.k2⟩;have hv:v∈gV x.e (pI d r):=hv;unfold gV at hv;split at hv
   .exact hx.e2 v hv
   rcases a2X.1 hv with hv|hv
   .exact hx.e2 v hv
   rw[a2J.1 hv];exact a6Q (hr.2 c)
  rw[a0g (by simpa using c)];split
  .exact hx
  rename_i c2;have aQ:r.toNat<d.aj.length:=by have:=hr.1;omega
  have BD:∀k,k<(au d r).aA.length->(au d r).aA.getD k 0<r:=fun k mO=>by
   have h9:=(h.zy r.toNat aQ k mO).1;have h9:(au d r).aA.getD k 0<(r.toNat:Int):=h9;omega
  have hb:=(Hf (d:=d) (fun y=>Di d y∧r∉y.k.map (·.1)) (F:=F) (r:=r) ⟨hx,by simpa using c2⟩ (fun j y hj hy=>by
   have Kt:ji d ((au d r).aA.getD j 0) d.aj.length:=⟨by have:=BD j hj;have:=hr.1;omega,(h.zy r.toNat aQ j hj).2⟩;refine⟨OV h F _ y hy.1 Kt,Xk F _ r y (BD j hj) hy.2 (by omega) (fun i hi k hk=>(h.zy i hi k hk).1) (fun h5=>⟨h5,by have:=Kt.1;omega⟩)⟩)).2
  obtain⟨hb,xP⟩:=hb;refine⟨hb.e1,hb.e2,Qh hb.n1,?_,?_,?_⟩
  .have:=Xj (aT (fun j (y:List Int×Cs)=>(y.1.set j (bW d F ((au d r).aA.getD j 0) y.2).1,(bW d F ((au d r).aA.getD j 0) y.2).2)) (au d r).aA.length 0 (List.replicate (au d r).aA.length 0,x)).2.n (au d r).var (aT (fun j (y:List Int×Cs)=>(y.1.set j (bW d F ((au d r).aA.getD j 0) y.2).1,(bW d F ((au d r).aA.getD j 0) y.2).2)) (au d r).aA.length 0 (List.replicate (au d r).aA.length 0,x)).1;have:=hb.n2;simp only[a1X,a3P];omega
  .simp only[a3T,a3U,abq];exact wQ hb.k1 xP
  intro a ha;simp only[a3T,a2X,a3U,abq,a2J]at ha;rcases ha with ha|rfl
  .exact hb.k2 a ha
  exact⟨by omega,by omega⟩
open Go Tw Pv cO
abbrev hCl(l:Lo)(x:Cs)(ks:List Int):List (PB aF):=HC' l x++[oI true true ks]
abbrev wCl(l:Lo)(r:Int)(i:Int)(y:List Int×Cs)(x:List (Nat×PE aF)):aS aF:=⟨[(0,xi r),(1,.val (.ptr 8 0 1)),(3,.val (.ptr 10 0 1)),(4,.val (.ptr 11 0 1)),(9,.loc 0 0),(10,xo 14),(43,xL 3 (au l.d r).aA),(44,xi (au l.d r).aA.length),(45,xi i)]++x,[(au l.d r).ps],hCl l y.2 y.1⟩
theorem lCl{M:Nat}(hO:Ok M Dc){d:Dg}{F:Nat}{r:Int}(hk:(au d r).aA.length<=12)(Q:Cs->Prop){x:Cs}(hx:Q x)(hq:∀j y,j<(au d r).aA.length->Q y->Q (bW d F ((au d r).aA.getD j 0) y).2)(hs:∀j y,j<(au d r).aA.length->Q y->aX X0 Qp (bP M) (.fn 195 [] pC) [.int .i64 ((au d r).aA.getD j 0)] (HC (yI d) y) (.int .i64 (bW d F ((au d r).aA.getD j 0) y).1) (HC' (yI d) (bW d F ((au d r).aA.getD j 0) y).2)) :
  OG M 195 0 12 (wCl (yI d) r 0 (List.replicate (au d r).aA.length 0,x) []) (.exit 0) (wCl (yI d) r (au d r).aA.length (aT (fun j (y:List Int×Cs)=>(y.1.set j (bW d F ((au d r).aA.getD j 0) y.2).1,(bW d F ((au d r).aA.getD j 0) y.2).2)) (au d r).aA.length 0 (List.replicate (au d r).aA.length 0,x)) [(46,xl false)]):=by
 refine yg (σ:=List Int×Cs) (N:=(au d r).aA.length) (g:=fun j (y:List Int×Cs)=>(y.1.set j (bW d F ((au d r).aA.getD j 0) y.2).1,(bW d F ((au d r).aA.getD j 0) y.2).2)) (s0:=(List.replicate (au d r).aA.length 0,x)) (st:=fun k y=>wCl (yI d) r k y []) (fin:=fun y=>wCl (yI d) r (au d r).aA.length y [(46,xl false)]) (fun _ y=>y.1.length=(au d r).aA.length∧Q y.2) (by kernel_rfl) (m12 hk) ⟨by simp,hx⟩ (fun j y hj hy=>⟨by simp[hy.1],hq j y.2 hj hy.2⟩) (fun j y hj hy m e p g=>?_) (fun y _=>aN hO (.b (fF (au d r).aA.length) .ex));have h1:=hs j y.2 hj hy.2;have h2:gQ j y.1.length:=aH (by rw[hy.1];exact hj);generalize bW d F ((au d r).aA.getD j 0) y.2=z at h1 g;obtain⟨v,z⟩:=z;exact aN hO (.b (bD hj) (.o (aH hj) (.fr [0,1,2,3,4,12,13,7,8,9,10,11] h1 (.o h2 (.goG [.gc [15,16,14]] g)))))
theorem DV(k:List (Int×Int)):(KT k).map (·.1)=k.map (·.1):=by
 unfold KT;rw[a6r];rfl
theorem aoO{n:Nat}(hO:Ok n Dc)(k:Int):aX X0 Qp (bP n) (.fn 197 [] []) [.int .i64 k] [] (iA.put (i64.wrap (-1-k))) []:=
 oh.aa6 hX (hO 197 [.int .i64 k] (iA.put (i64.wrap (-1-k))) [] [] (by kernel_rfl) (fun q hq=>by cases hq)) rfl rfl rfl rfl
theorem sCl{N:Nat}(hO:∀m,N<=m->Ok m Dc){d:Dg}(h:Bj d)(he:d.aI.length+1<=ah)(hn:d.aj.length+1<=ah)(h1k:∀i,i<d.aj.length->1<=(fC d i).aA.length):∀(F:Nat) (r:Int) (x:Cs),r+1<F->Di d x->ji d r d.aj.length->1<=F->aX X0 Qp (bP (N+F+6)) (.fn 195 [] pC) [.int .i64 r] (HC (yI d) x) (.int .i64 (bW d F r x).1) (HC' (yI d) (bW d F r x).2)
 | 0,r,x,_,_,_,h1=>by omega
 |F+1,r,x,hF,hx,hr,_=>by
  rw[show N+(F+1)+6=N+F+6+1 by omega];have Fz:=hO (N+F+6) (by omega);have FU:=hO (N+F+5) (by omega);unfold bW;by_cases c:r<0
  .have t0:decide (r<0)=true:=(by simpa using c);rw[a0i t0];have hi:gQ (i64.wrap (-1-r)) d.aI.length:=hr.2 c;have hs:=aoL FU (a:=d.ay) (b:=d.aG) (E:=x.e) (nd:=x.n) (r:=0) (nm:=kK.es (yG x.n)) (pI d r) hx.e1 (by have:=hx.ajQ;omega);exact fP Fz (first:=[]) (.b t0 (.fr [] (aoO Fz r) (.o hi (.fr [0,1,2,3,4,5,6] hs .er))))
  have t0:decide (r<0)=false:=by simpa using c
  rw[a0g (by rw[t0];simp)];have aQ:r.toNat<d.aj.length:=by have:=hr.1;omega
  by_cases c2:r∈x.k.map (·.1)
  .rw[a0i (by simpa using c2)];have hf:qj X0 Qp 3 (kI.es (KT x.k)) (kI.tv r) (.int .i64 (Ux x.k r)):=kI.found (by rw[DV];exact hx.k1) (a1d.2 ⟨(r,Ux x.k r),a1o c2,rfl⟩);generalize Ux x.k r=v at hf ⊢;exact aX.gs hX (qX hX Fz (first:=[]) (H1:=HC (yI d) x) (v:=.int .i64 v) (by kernel_rfl) (.b t0 (.c (.int .i64 v) [] hf (.b (rfl:true=true) .er)))) [.mv 5,.mv 6] rfl
  rw[a0g (by simpa using c2)];have BD:∀k,k<(au d r).aA.length->(au d r).aA.getD k 0<r:=fun k mO=>by
   have h9:=(h.zy r.toNat aQ k mO).1;have h9:(au d r).aA.getD k 0<(r.toNat:Int):=h9;omega
  have Kt:∀j,j<(au d r).aA.length->ji d ((au d r).aA.getD j 0) d.aj.length:=fun j hj=>⟨by have:=BD j hj;have:=hr.1;omega,(h.zy r.toNat aQ j hj).2⟩;have JF:(au d r).aA.length<=12:=h.KP r.toNat aQ;have hq:∀j y,j<(au d r).aA.length->(Di d y∧r∉y.k.map (·.1))->Di d (bW d F ((au d r).aA.getD j 0) y).2∧r∉(bW d F ((au d r).aA.getD j 0) y).2.k.map (·.1):=fun j y hj hy=>
   ⟨OV h F _ y hy.1 (Kt j hj),Xk F _ r y (BD j hj) hy.2 (by omega) (fun i hi k hk=>(h.zy i hi k hk).1) (fun h5=>⟨h5,by have:=(Kt j hj).1;omega⟩)⟩
  have hl:=lCl Fz (d:=d) (F:=F) (r:=r) JF (fun y=>Di d y∧r∉y.k.map (·.1)) (x:=x) ⟨hx,c2⟩ hq (fun j y hj hy=>sCl hO h he hn h1k F _ y (by have:=BD j hj;omega) hy.1 (Kt j hj) (by omega));obtain⟨g1,g2,g3⟩:=Hf (d:=d) (fun y=>Di d y∧r∉y.k.map (·.1)) (F:=F) (r:=r) (x:=x) ⟨hx,c2⟩ hq;generalize aT (fun j (y:List Int×Cs)=>(y.1.set j (bW d F ((au d r).aA.getD j 0) y.2).1,(bW d F ((au d r).aA.getD j 0) y.2).2)) (au d r).aA.length 0 (List.replicate (au d r).aA.length 0,x)=y at hl g1 g2 g3;obtain⟨ks,e,nd,kn⟩:=y;have g1:ks.length=(au d r).aA.length:=g1;have Et:1<=ks.length∧ks.length<=12:=by rw[g1];exact⟨h1k r.toNat aQ,JF⟩
  have hN:nd.length+1<=ah:=by have:=g2.KP;have:=g2.n2;simp at *;omega
  have hs:=ajP (n:=N+F) FU (a:=d.ay) (b:=d.aG) (E:=e) (nd:=nd) (r:=0) (au d r).var ks Et g2.n1 hN;have f0:nD X0 Qp 3 (kI.es (KT x.k)) (kI.tv r):=kI.fresh (by rw[DV];exact c2);have f1:nD X0 Qp 3 (kI.es (KT kn)) (kI.tv r):=kI.fresh (by rw[DV];exact g3);have f2:=kI.ck r;show aX X0 Qp _ _ _ _ (.int .i64 (dZ nd (au d r).var ks)) (HC' (yI d) ⟨e,dh nd (au d r).var ks,kn++[(r,dZ nd (au d r).var ks)]⟩);generalize dZ nd (au d r).var ks=v at hs ⊢;generalize dh nd (au d r).var ks=nd' at hs ⊢;have em:kI.es (KT (kn++[(r,v)]))=kI.es (KT kn)++[(kI.pv r,.int .i64 v)]:=by
   show List.map _ (List.map _ (kn++[(r,v)]))=_;rw[a3T,a3T];rfl
  have f3:qj X0 Qp 3 (kI.es (KT kn)++[(kI.pv r,.int .i64 v)]) (kI.tv r) (.int .i64 v):=by
   rw[<-em];exact kI.found (by rw[DV,a3T];exact wQ g2.k1 g3) (a1d.2 ⟨(r,v),by simp,rfl⟩)
  have hi:gQ r d.aj.length:=⟨by omega,hr.1⟩;have hm:((au d r).aA.length:Int)<=(ah:Int):=by have:=m12 JF;omega
  show aX X0 Qp _ _ _ _ _ ([_,_,_,_,_,_,_]++[_,_,.map (kI.es (KT (kn++[(r,v)]))),_,_]++[_,_]);rw[em];exact aX.gs hX (qX hX Fz (first:=[]) (v:=.int .i64 v) (H1:=[.list false false 3 d.ay,.list false false 3 d.aG,.map (kV.es (zB e)),.map (kK.es (yG nd')),mkC d.ay d.aG 15 16 0,.gone,.gone,.aC (yI d).ps,.aC [.ptr 4 0 9],.map (kI.es (KT kn)++[(kI.pv r,.int .i64 v)]),.aC [.map 9],.aC [.fn 195 [] pC],.gone,.gone,.gone,PS e,PU nd']) (by kernel_rfl) (.b t0 (.q (.bool false) f0 (.b (rfl:false=false) (.o hi (.o (show((au d r).aA.length:Int)=((au d r).aA.length:Int)from rfl) (.o (show(0:Int)<=((au d r).aA.length:Int) by omega) (.o hm (.wG [.mv 5,.mv 6,.gc [13,14,12]] hl (.fr [0,1,2,3,4,12,13,14] hs (.q (.bool false) f2 (.o f1 (.c (.int .i64 v) [] f3 .er))))))))))))) [.gc [15,16]] rfl
open Go Tw Pv cO
abbrev OW(a b:List V)(k:Nat):Bool:=!(decide (a.getD k V0=b.getD k V0))
abbrev afd(a b:List V)(i:Int)(x:List (Nat×PE aF)):aS aF:=⟨[(0,xL 39 a),(1,xL 39 b),(12,xi a.length),(13,xi i)]++x,[],[]⟩
def z227(a b:List V):Unit⊕Nat->Ex×aS aF
 |.inl _=>(.exit 0,afd a b a.length [(14,xl false)])
 |.inr _=>(.ret,⟨[(4,xl false)],[],[]⟩)
theorem ajR{n:Nat}{fH:eX aF}(hO:Ok n fH)(a b:List V)(hl:a.length<=ah)(h:a.length=b.length):Lp n 227 0 (afd a b 0 []) (z227 a b (bG (OW a b) a.length)).1 (z227 a b (bG (OW a b) a.length)).2:=
 iZ (st:=fun i _=>afd a b i []) (fun _ _=>True) (by kernel_rfl) hl trivial (fun k s m hk _ ih=>aN hO (.b (bD hk) (.o (aH hk) (.o (aH (h▸hk)) (.q (.bool (!(decide (a.getD k V0=b.getD k V0)))) (neV (.tmp 19) (.tmp 23) (a.getD k V0) (b.getD k V0)) (.ls (.ou nofun) (.nx (ih _ trivial)))))))) (fun s _=>aN hO (.b (fF a.length) (.ou nofun)))
theorem aad{a b:List V}(h:a.length=b.length):a=b↔∀j,j<a.length->a.getD j V0=b.getD j V0:=by
 constructor
 .rintro rfl j _;rfl
 intro h2;apply aa0 h;intro j h3 h4;have:=h2 j h3;simpa[List.getD,a0b h3,a0b h4]using this
theorem OX{a b:List V}(h:a.length=b.length):jT (bG (OW a b) a.length)=decide (a=b):=by
 rw[a4i,dL,a1E,aad h];simp[OW]
theorem aae{α:Type}[DecidableEq α]{a b:List α}(h:((a.length:Int) != (b.length:Int))=true):decide (a=b)=false:=by
 rw[a2H];rintro rfl;simp at h
def acP:eX aF:=cu 227 (a2 vsA vsA) tA (fun p=>decide (p.1=p.2)) (fun p=>[p.1.length<=ah]) Dc
theorem ajS:Gd acP:=acK.add fun n hO p hp=>aO hO (.s (fun h=>.v false (aae h).symm) fun h=>.z (c:=jT (bG (OW p.1 p.2) p.1.length)) (fun h2=>.w (jP (ajR hO p.1 p.2 (hp _ (.head _)) (jr h)) () h2) (.v true (by rw[<-OX (jr h),h2]))) fun h2=>.w (jQ (ajR hO p.1 p.2 (hp _ (.head _)) (jr h)) 0 h2) (.v false (by rw[<-OX (jr h),h2])))
def Uy(x y:Br):Bool:=if(x.var==y.var)=true then decide (x.aA=y.aA)else false
def a6R:eX aF:=cu 226 (a2 brA brA) tA (fun p=>Uy p.1 p.2) (fun p=>[p.1.aA.length<=ah]) acP
theorem ajT:Gd a6R:=ajS.add fun n hO p hp=>aO hO (.ss (.o (hp _ (.head _)) .rr) .rr)
abbrev wEB(a b:List Br)(i:Int)(x:List (Nat×PE aF)):aS aF:=⟨[(1,xL 105 b),(2,.val (.fn 226 [] [])),(15,xL 105 a),(16,xi a.length),(17,xi i)]++x,[],[]⟩
abbrev cEB(a b:List Br)(k:Nat):Bool:=!(Uy (a.getD k kN) (b.getD k kN))
def zEB(a b:List Br):Unit⊕Nat->Ex×aS aF
 |.inl _=>(.exit 0,wEB a b a.length [(18,xl false)])
 |.inr k=>(.ret,⟨[(6,xl false)],[(a.getD k kN).ps,(b.getD k kN).ps],[]⟩)
theorem lEB{n:Nat}(hO:Ok n a6R)(a b:List Br)(hl:a.length<=ah)(h:a.length=b.length)(hk:∀k,k<a.length->(a.getD k kN).aA.length<=ah):Lp n 228 0 (wEB a b 0 []) (zEB a b (bG (cEB a b) a.length)).1 (zEB a b (bG (cEB a b) a.length)).2:=
 iZ (st:=fun i _=>wEB a b i []) (fun _ _=>True) (by kernel_rfl) hl trivial (fun k s m mO _ ih=>aN hO (.b (bD mO) (.o (aH mO) (.o (aH (h▸mO)) (.o (hk k mO) (.ls (.ou nofun) (.nx (ih _ trivial)))))))) (fun s _=>aN hO (.b (fF a.length) (.ou nofun)))
def Hg(a b:List Br):Bool:=if((a.length:Int) != (b.length:Int))=true then false else if jT (bG (cEB a b) a.length)=true then true else false
def acQ:eX aF:=cu 228 (a3 a9N a9N (fnA 226)) tA (fun p=>Hg p.1 p.2.1) (fun p=>[p.1.length<=ah,∀k,k<p.1.length->(p.1.getD k kN).aA.length<=ah]) a6R
theorem ajU:Gd acQ:=ajT.add fun n hO p hp=>aO hO (.sh (fun _=>.rr) fun h=>.zh (fun h2=>.w (jP (lEB hO p.1 p.2.1 (hp _ (.head _)) (jr h) (hp (∀k,k<p.1.length->(p.1.getD k kN).aA.length<=ah) (.tail _ (.head _)))) () h2) .rr) fun h2=>.w (jQ (lEB hO p.1 p.2.1 (hp _ (.head _)) (jr h) (hp (∀k,k<p.1.length->(p.1.getD k kN).aA.length<=ah) (.tail _ (.head _)))) 0 h2) .rr)
def Hl(a b:Dg):Bool:=if decide (a.ay=b.ay)=true then(if decide (a.aG=b.aG)=true then(if decide (a.aI=b.aI)=true then(if Hg a.aj b.aj=true then a.root==b.root else false)else false)else false)else false
def acR:eX aF:=cu 203 (a2 dA dA) tA (fun p=>Hl p.1 p.2) (fun p=>[p.1.ay.length<=ah,p.1.aG.length<=ah,p.1.aI.length<=ah,p.1.aj.length<=ah,∀k,k<p.1.aj.length->(p.1.aj.getD k kN).aA.length<=ah]) acQ
theorem ajV:Gd acR:=ajU.add fun n hO p hp=>aO hO (.o (hp _ (.head _)) (.ss (.o (hp _ (.tail _ (.head _))) (.ss (.o (hp _ (.tail _ (.tail _ (.head _)))) (.ss (.o (hp _ (.tail _ (.tail _ (.tail _ (.head _))))) (.o (hp (∀k,k<p.1.aj.length->(p.1.aj.getD k kN).aA.length<=ah) (.tail _ (.tail _ (.tail _ (.tail _ (.head _)))))) (.ss .rr .rr))) .rr)) .rr)) .rr))
theorem Xl{x y:Br}:Uy x y=true↔x=y:=by
 obtain⟨a,b⟩:=x;obtain⟨c,e⟩:=y;unfold Uy;simp only[Br.mk.injEq];by_cases h:a=c<;>simp[h]
theorem a3g{a b:List Br}:Hg a b=true↔a=b:=by
 unfold Hg;by_cases h:a.length=b.length
 .rw[a0g (by simp;omega)];have e:jT (bG (cEB a b) a.length)=true↔a=b:=by
   rw[dL];constructor
   .intro h1;apply aa0 h;intro j h3 h4;have:=h1 j h3;simp only[cEB,abp]at this;have:=Xl.1 this;simpa[List.getD,a0b h3,a0b h4]using this
   rintro rfl j _;simp only[cEB,abp];exact Xl.2 rfl
  rw[<-e];cases jT (bG (cEB a b) a.length)<;>simp
 rw[a0i (by simp;omega)];constructor
 .intro h1;cases h1
 rintro rfl;exact absurd rfl h
theorem a1p{a b:Dg}:Hl a b=true↔a=b:=by
 obtain⟨a1,a2,a3,a4,a5⟩:=a;obtain⟨b1,b2,b3,b4,b5⟩:=b;unfold Hl;simp only[Dg.mk.injEq];by_cases h1:a1=b1
 .by_cases h2:a2=b2
  .by_cases h3:a3=b3
   .have h4:=a3g (a:=a4) (b:=b4);cases e:Hg a4 b4
    .rw[e]at h4;simp[h1,h2,h3];intro h5;exact absurd h5 (by simpa using h4)
    rw[e]at h4;simp at h4;simp[h1,h2,h3,h4]
   simp[h3]
  simp[h2]
 simp[h1]
open Go Tw Pv cO
def wZ(s:List Int×List Int)(x:Int):Int:=if x<0 then i64.wrap (-1-(s.2.idxOf (jB x):Nat))else(s.1.idxOf x:Nat)
def Vg(s:List Int×List Int)(x:Int):Prop:=(x<0->jB x∈s.2)∧(0<=x->x∈s.1)
def KS(d:Dg)(s:List Int×List Int):Cs:=⟨s.2.map fun e=>d.aI.getD e.toNat V0,s.1.map fun o=>⟨(au d o).var,(au d o).aA.map (wZ s)⟩,s.1.map fun o=>(o,wZ s o)⟩
def Jd(d:Dg)(s:List Int×List Int):Prop:=∀o∈s.1,∀k∈(au d o).aA,Vg s k
theorem Uz{s:List Int×List Int}{x:Int}(l:List Int)(h:Vg s x):wZ (s.1,s.2++l) x=wZ s x:=by
 unfold wZ;split
 .rename_i c;rw[a9o,a0i (h.1 c)]
 rfl
theorem Ho{s:List Int×List Int}{x:Int}(l:List Int)(h:Vg s x):wZ (s.1++l,s.2) x=wZ s x:=by
 unfold wZ;split
 .rfl
 rename_i c;rw[a9o,a0i (h.2 (by omega))]
theorem aff{d:Dg}{s:List Int×List Int}(hk:Jd d s)(hn:∀o∈s.1,0<=o)(e:Int):KS d (s.1,s.2++[e])=⟨(KS d s).e++[d.aI.getD e.toNat V0],(KS d s).n,(KS d s).k⟩:=by
 unfold KS;simp only[a3T,a3U,abq,Cs.mk.injEq,true_and];constructor
 .apply a5H;intro o ho;congr 1;apply a5H;intro k mO;exact Uz [e] (hk o ho k mO)
 apply a5H;intro o ho;rw[Uz [e] ⟨fun c=>absurd (hn o ho) (by omega),fun _=>ho⟩]
theorem aaf{d:Dg}{s:List Int×List Int}(hk:Jd d s)(hn:∀o∈s.1,0<=o){r:Int}(h0:0<=r)(hr:r∉s.1)(Kt:∀k∈(au d r).aA,Vg s k):KS d (s.1++[r],s.2)=⟨(KS d s).e,(KS d s).n++[⟨(au d r).var,(au d r).aA.map (wZ s)⟩],(KS d s).k++[(r,(s.1.length:Int))]⟩:=by
 unfold KS;simp only[a3T,a3U,abq,Cs.mk.injEq,true_and];refine⟨?_,?_⟩
 .congr 1
  .apply a5H;intro o ho;congr 1;exact a5H fun k mO=>Ho [r] (hk o ho k mO)
  congr 2;exact a5H fun k mO=>Ho [r] (Kt k mO)
 congr 1
 .apply a5H;intro o ho;rw[Ho [r] ⟨fun c=>absurd (hn o ho) (by omega),fun _=>ho⟩]
 congr 2;unfold wZ;rw[a0g (by omega)];simp[a9o,hr]
theorem ajW{a b:Nat}(ha:a<=2^61)(hb:b<=2^61)(h:i64.wrap (-1-(a:Int))=i64.wrap (-1-(b:Int))):a=b:=by
 rw[eP (by omega) (by omega),eP (by omega) (by omega)]at h;omega
theorem a1q{l:List Int}{a b:Int}(ha:a∈l)(hb:b∈l)(h:l.idxOf a=l.idxOf b):a=b:=by
 have h1:=a8t (a4g.2 ha);have h2:=a8t (a4g.2 hb);rw[<-h1,<-h2];congr 1
theorem a6S{x y:Int}(hx:KR x)(hy:KR y)(cx:x<0)(cy:y<0)(h:jB x=jB y):x=y:=by
 unfold jB at h;rw[LZ hx cx,LZ hy cy]at h;omega
theorem a1r{s:List Int×List Int}(hs:s.2.length<=2^61){x y:Int}(hx:Vg s x)(hy:Vg s y)(wx:KR x)(wy:KR y)(h:wZ s x=wZ s y):x=y:=by
 have lt:∀z,z∈s.2->s.2.idxOf z<=2^61:=fun z hz=>a4E (a8S (a4g.2 hz)) hs;unfold wZ at h;by_cases cx:x<0
 .rw[a0i cx]at h;by_cases cy:y<0
  .rw[a0i cy]at h;exact a6S wx wy cx cy (a1q (hx.1 cx) (hy.1 cy) (ajW (lt _ (hx.1 cx)) (lt _ (hy.1 cy)) h))
  rw[a0g cy]at h;have:=lt _ (hx.1 cx);rw[eP (by omega) (by omega)]at h;omega
 rw[a0g cx]at h;by_cases cy:y<0
 .rw[a0i cy]at h;have:=lt _ (hy.1 cy);rw[eP (by omega) (by omega)]at h;omega
 rw[a0g cy]at h;exact a1q (hx.2 (by omega)) (hy.2 (by omega)) (by omega)
open Go Tw Pv cO
def Ext(s t:List Int×List Int):Prop:=∃a b,t=(s.1++a,s.2++b)
theorem Ext.refl(s:List Int×List Int):Ext s s:=⟨[],[],by simp⟩
theorem Ext.trans{s t u:List Int×List Int}(h:Ext s t)(h2:Ext t u):Ext s u:=by
 obtain⟨a,b,rfl⟩:=h;obtain⟨c,e,rfl⟩:=h2;exact⟨a++c,b++e,by simp⟩
theorem Vg.ext{s t:List Int×List Int}{x:Int}(h:Vg s x)(he:Ext s t):Vg t x:=by
 obtain⟨a,b,rfl⟩:=he;exact⟨fun c=>a5d _ (h.1 c),fun c=>a5d _ (h.2 c)⟩
theorem aag{s t:List Int×List Int}{x:Int}(h:Vg s x)(he:Ext s t):wZ t x=wZ s x:=by
 have hc:=h;obtain⟨a,b,rfl⟩:=he;have h2:Vg (s.1,s.2++b) x:=⟨fun c=>a5d _ (h.1 c),h.2⟩;rw[<-Uz b h,<-Ho a h2]
theorem Sl{α β:Type}{g1:Nat->α->α}{g2:Nat->β->β}(R:Nat->α->β->Prop):∀(m k:Nat) (a:α) (b:β),R k a b->(∀j a b,k<=j->j<k+m->R j a b->R (j+1) (g1 j a) (g2 j b))->R (k+m) (aT g1 m k a) (aT g2 m k b)
 | 0,_,_,_,h,_=>h
 |m+1,k,a,b,h,hs=>by
  have:=Sl R m (k+1) (g1 k a) (g2 k b) (hs k a b (a0V _) (by omega) h) (fun j a b h1 h2=>hs j a b (by omega) (by omega));rw[show k+(m+1)=k+1+m by omega];exact this
theorem a1s{α β:Type}[BEq α][LawfulBEq α][BEq β][LawfulBEq β]{f:α->β}{a:α}:∀{l:List α},(∀b∈l,f b=f a->b=a)->(l.map f).idxOf (f a)=l.idxOf a
 | [],_=>rfl
 |c::l,h=>by
  rw[a3U,ado,ado,a1s fun b hb=>h b (a2Y _ hb)];by_cases hc:c=a
  .subst hc;simp
  have:¬(f c=f a):=fun e=>hc (h c (.head _) e);rw[show(c==a)=false by simpa using hc,show(f c==f a)=false by simpa using this]
structure DgD(d:Dg):Prop where
 aI:d.aI.Nodup
 aj:∀i j,i<d.aj.length->j<d.aj.length->(fC d i).var=(fC d j).var->(fC d i).aA=(fC d j).aA->i=j
 flat:∀i,i<d.aj.length->((fC d i).aA.all fun x=>x==(fC d i).aA.getD 0 0)=false
theorem Xm{d:Dg}(h:d.aI.Nodup){a b:Int}(ha:gQ a d.aI.length)(hb:gQ b d.aI.length)(e:d.aI.getD a.toNat V0=d.aI.getD b.toNat V0):a=b:=by
 have h1:a.toNat<d.aI.length:=by have:=ha.1;have:=ha.2;omega
 have h2:b.toNat<d.aI.length:=by have:=hb.1;have:=hb.2;omega
 simp only[List.getD,a0b h1,a0b h2,a4F]at e;have:=(a9G h).1 e;have:=ha.1;have:=hb.1;omega
theorem afg{d:Dg}(hd:DgD d){s:List Int×List Int}(hs:J8 d s){r:Int}(hr:gQ (jB r) d.aI.length):(KS d s).e.idxOf (pI d r)=s.2.idxOf (jB r)∧(pI d r∈(KS d s).e↔jB r∈s.2):=by
 have hi:∀b∈s.2,(fun e:Int=>d.aI.getD e.toNat V0) b=(fun e:Int=>d.aI.getD e.toNat V0) (jB r)->b=jB r:=fun b hb e=>Xm hd.aI (hs.e2 b hb) hr e;refine⟨a1s (f:=fun e:Int=>d.aI.getD e.toNat V0) (a:=jB r) hi,?_⟩;constructor
 .intro h;obtain⟨b,hb,e⟩:=a1d.1 h;rw[<-hi b hb e];exact hb
 intro h;exact a1d.2 ⟨jB r,h,rfl⟩
theorem afh{d:Dg}{s:List Int×List Int}{r:Int}(h:r∈s.1):Ux (KS d s).k r=wZ s r:=by
 have h1:r∈(KS d s).k.map (·.1):=by
  unfold KS;rw[a6r];exact a1d.2 ⟨r,h,rfl⟩
 have h2:=a1o h1;obtain⟨o,_,e⟩:=a1d.1 h2;have e1:o=r:=congrArg Prod.fst e;have e2:wZ s o=Ux (KS d s).k r:=congrArg Prod.snd e;rw[<-e2,e1]
theorem aah{a b:List Int}(h:a.length=b.length)(ha:a.length<=12)(e:He a=He b):a=b:=by
 unfold He at e;have:=congrArg (List.take a.length) e;rw[afz,afz,a7A ha,List.take_append_of_le_length (a0V _),List.take_append_of_le_length (by omega),abk,h,abk]at this;exact this
theorem map_inj{α β:Type}{f:α->β}:∀{a b:List α},(∀x∈a,∀y∈b,f x=f y->x=y)->a.map f=b.map f->a=b
 | [],[],_,_=>rfl
 | [],_::_,_,h=>by simp at h
 |_::_,[],_,h=>by simp at h
 |x::a,y::b,hi,h=>by
  simp only[a3U,ae0]at h;rw[hi x (.head _) y (.head _) h.1,map_inj (fun u hu v hv=>hi u (a2Y _ hu) v (a2Y _ hv)) h.2]
open Go Tw Pv cO
structure Alk(d:Dg)(F:Nat)(r:Int)(s:List Int×List Int):Prop where
 eq:bW d F r (KS d s)=(wZ (jK d F r s) r,KS d (jK d F r s))
 aA:Jd d (jK d F r s)
 cov:Vg (jK d F r s) r
 ext:Ext s (jK d F r s)
theorem acT{d:Dg}(h:Bj d)(hw:Kq d)(hd:DgD d)(he:d.aI.length<=2^61):∀(F:Nat) (r:Int) (s:List Int×List Int),r+1<F->J8 d s->Jd d s->ji d r d.aj.length->1<=F->Alk d F r s
 | 0,r,s,_,_,_,_,h1=>by omega
 |F+1,r,s,hF,hs,hk,hr,_=>by
  have hn:∀o∈s.1,0<=o:=fun o ho=>(hs.n2 o ho).1;by_cases c:r<0
  .have t0:decide (r<0)=true:=(by simpa using c);obtain⟨q1,q2⟩:=afg hd hs (hr.2 c);have e1:bW d (F+1) r (KS d s)=(i64.wrap (-1-((KS d s).e.idxOf (pI d r):Nat)),⟨gV (KS d s).e (pI d r),(KS d s).n,(KS d s).k⟩):=by unfold bW;rw[a0i t0]
   by_cases c2:jB r∈s.2
   .have e2:jK d (F+1) r s=s:=by unfold jK;rw[a0i t0,a0g (by simpa using c2)]
    refine⟨?_,by rw[e2];exact hk,by rw[e2];exact⟨fun _=>c2,fun h0=>by omega⟩,by rw[e2];exact .refl s⟩;rw[e1,e2,q1,show gV (KS d s).e (pI d r)=(KS d s).e from a0i (q2.2 c2)];unfold wZ;rw[a0i c]
   have e2:jK d (F+1) r s=(s.1,s.2++[jB r]):=by unfold jK;rw[a0i t0,a0i (by simpa using c2)]
   have hc:Vg (s.1,s.2++[jB r]) r:=⟨fun _=>by simp,fun h0=>by omega⟩;have hx:Ext s (s.1,s.2++[jB r]):=⟨[],[jB r],by simp⟩;refine⟨?_,by rw[e2];exact fun o ho k mO=>(hk o ho k mO).ext hx,by rw[e2];exact hc,by rw[e2];exact hx⟩;rw[e1,e2,q1,aff hk hn,show gV (KS d s).e (pI d r)=(KS d s).e++[pI d r]from a0g (fun e=>c2 (q2.1 e))];unfold wZ;rw[a0i c];simp[a9o,c2,a8s c2,pI]
  have t0:¬(decide (r<0)=true):=by simpa using c
  have xM:(KS d s).k.map (·.1)=s.1:=by unfold KS;rw[a6r];exact List.map_id _
  by_cases c2:r∈s.1
  .have e2:jK d (F+1) r s=s:=by unfold jK;rw[a0g t0,a0i (by simpa using c2)]
   have e1:bW d (F+1) r (KS d s)=(Ux (KS d s).k r,KS d s):=by unfold bW;rw[a0g t0,a0i (by rw[xM];simpa using c2)]
   refine⟨?_,by rw[e2];exact hk,by rw[e2];exact⟨fun h0=>absurd h0 c,fun _=>c2⟩,by rw[e2];exact .refl s⟩;rw[e1,e2,afh c2]
  have aQ:r.toNat<d.aj.length:=by have:=hr.1;omega
  have BD:∀k,k<(au d r).aA.length->(au d r).aA.getD k 0<r:=fun k mO=>by
   have h9:=(h.zy r.toNat aQ k mO).1;have h9:(au d r).aA.getD k 0<(r.toNat:Int):=h9;omega
  have Kt:∀j,j<(au d r).aA.length->ji d ((au d r).aA.getD j 0) d.aj.length:=fun j hj=>⟨by have:=BD j hj;have:=hr.1;omega,(h.zy r.toNat aQ j hj).2⟩;have a6j:=Sl (g1:=fun j (y:List Int×Cs)=>(y.1.set j (bW d F ((au d r).aA.getD j 0) y.2).1,(bW d F ((au d r).aA.getD j 0) y.2).2)) (g2:=fun k y=>jK d F ((au d r).aA.getD k 0) y)
   (fun j (y:List Int×Cs) (t:List Int×List Int)=>y=(((au d r).aA.take j).map (wZ t)++List.replicate ((au d r).aA.length-j) 0,KS d t)∧J8 d t∧Jd d t∧Ext s t∧r∉t.1∧∀i,i<j->Vg t ((au d r).aA.getD i 0)) (au d r).aA.length 0 (List.replicate (au d r).aA.length 0,KS d s) s ⟨by simp,hs,hk,.refl s,c2,fun i hi=>by omega⟩ (fun j y t _ hj hy=>by
    obtain⟨rfl,y1,y2,y3,y4,y5⟩:=hy;have hj:j<(au d r).aA.length:=(by omega);have ih:=acT h hw hd he F _ t (by have:=BD j hj;omega) y1 y2 (Kt j hj) (by omega);have hno:=a6x F ((au d r).aA.getD j 0) r t (BD j hj) y4 (by omega) (fun i hi k hk=>(h.zy i hi k hk).1) (fun h5=>⟨h5,by have:=(Kt j hj).1;omega⟩);have Qs:=JZ h F ((au d r).aA.getD j 0) t y1 (Kt j hj);obtain⟨i1,i2,i3,i4⟩:=ih;simp only[i1];generalize jK d F ((au d r).aA.getD j 0) t=u at i2 i3 i4 hno Qs ⊢;refine⟨?_,Qs,i2,y3.trans i4,hno,fun i hi=>?_⟩
    .simp only[a0j,and_true];have hl:(List.map (wZ t) (List.take j (au d r).aA)).length=j:=by rw[a4a,a3N];omega
     rw[show(au d r).aA.length-j=((au d r).aA.length-(j+1))+1 by omega,adI,List.set_append_right _ _ (by rw[hl];exact a0V j)];rw[hl,agw,List.set_cons_zero,a5j hj,a3T,a5B];congr 1
     .apply a5H;intro x hx;obtain⟨i,hi,rfl⟩:=a4m.1 hx;have zX:i<j:=by simp at hi;omega
      have:=y5 i zX;rw[rM (l:=(au d r).aA) (show i<(au d r).aA.length by omega)]at this;rw[List.getElem_take];exact(aag this i4).symm
     .rw[rM hj];rfl
    .by_cases zX:i<j
     .exact(y5 i zX).ext i4
     .rw[show i=j by omega];exact i3)
  have e1:bW d (F+1) r (KS d s)=(dZ (aT (fun j (y:List Int×Cs)=>(y.1.set j (bW d F ((au d r).aA.getD j 0) y.2).1,(bW d F ((au d r).aA.getD j 0) y.2).2)) (au d r).aA.length 0 (List.replicate (au d r).aA.length 0,KS d s)).2.n (au d r).var (aT (fun j (y:List Int×Cs)=>(y.1.set j (bW d F ((au d r).aA.getD j 0) y.2).1,(bW d F ((au d r).aA.getD j 0) y.2).2)) (au d r).aA.length 0 (List.replicate (au d r).aA.length 0,KS d s)).1,⟨(aT (fun j (y:List Int×Cs)=>(y.1.set j (bW d F ((au d r).aA.getD j 0) y.2).1,(bW d F ((au d r).aA.getD j 0) y.2).2)) (au d r).aA.length 0 (List.replicate (au d r).aA.length 0,KS d s)).2.e,dh (aT (fun j (y:List Int×Cs)=>(y.1.set j (bW d F ((au d r).aA.getD j 0) y.2).1,(bW d F ((au d r).aA.getD j 0) y.2).2)) (au d r).aA.length 0 (List.replicate (au d r).aA.length 0,KS d s)).2.n (au d r).var (aT (fun j (y:List Int×Cs)=>(y.1.set j (bW d F ((au d r).aA.getD j 0) y.2).1,(bW d F ((au d r).aA.getD j 0) y.2).2)) (au d r).aA.length 0 (List.replicate (au d r).aA.length 0,KS d s)).1,(aT (fun j (y:List Int×Cs)=>(y.1.set j (bW d F ((au d r).aA.getD j 0) y.2).1,(bW d F ((au d r).aA.getD j 0) y.2).2)) (au d r).aA.length 0 (List.replicate (au d r).aA.length 0,KS d s)).2.k++[(r,dZ (aT (fun j (y:List Int×Cs)=>(y.1.set j (bW d F ((au d r).aA.getD j 0) y.2).1,(bW d F ((au d r).aA.getD j 0) y.2).2)) (au d r).aA.length 0 (List.replicate (au d r).aA.length 0,KS d s)).2.n (au d r).var (aT (fun j (y:List Int×Cs)=>(y.1.set j (bW d F ((au d r).aA.getD j 0) y.2).1,(bW d F ((au d r).aA.getD j 0) y.2).2)) (au d r).aA.length 0 (List.replicate (au d r).aA.length 0,KS d s)).1)]⟩):=by
   rw[bW,a0g t0,a0g (by rw[xM];simpa using c2)]
  have e2:jK d (F+1) r s=((aT (fun k y=>jK d F ((au d r).aA.getD k 0) y) (au d r).aA.length 0 s).1++[r],(aT (fun k y=>jK d F ((au d r).aA.getD k 0) y) (au d r).aA.length 0 s).2):=by
   rw[jK,a0g t0,a0g (by simpa using c2)]
  generalize aT (fun j (y:List Int×Cs)=>(y.1.set j (bW d F ((au d r).aA.getD j 0) y.2).1,(bW d F ((au d r).aA.getD j 0) y.2).2)) (au d r).aA.length 0 (List.replicate (au d r).aA.length 0,KS d s)=y at a6j e1;generalize aT (fun k y=>jK d F ((au d r).aA.getD k 0) y) (au d r).aA.length 0 s=t at a6j e2;obtain⟨rfl,f2,f3,f4,f5,f6⟩:=a6j;rw[a3O]at f6;simp only[a3O,abk,agw,List.replicate_zero,a5J]at e1;have a6T:∀k∈(au d r).aA,Vg t k:=fun k mO=>by
   obtain⟨i,hi,rfl⟩:=a4m.1 mO;have:=f6 i hi
   rwa [rM hi]at this
  have hW:∀o,0<=o->gQ o d.aj.length->∀k∈(au d o).aA,KR k:=fun o _ ho k mO=>by
   obtain⟨i,hi,rfl⟩:=a4m.1 mO;have:=hw.zy o.toNat (by have:=ho.1;have:=ho.2;omega) i hi
   rwa [rM hi]at this
  have hrI:gQ r d.aj.length:=⟨by omega,hr.1⟩;have hel:t.2.length<=2^61:=a4E f2.len.2 he;have acU:((au d r).aA.map (wZ t)).all (fun x=>x==((au d r).aA.map (wZ t)).getD 0 0)=false:=by
   cases e:((au d r).aA.map (wZ t)).all (fun x=>x==((au d r).aA.map (wZ t)).getD 0 0)
   .rfl
   exfalso;have hf:=hd.flat r.toNat aQ;rw[List.all_eq_false]at hf;obtain⟨x,hx,hx2⟩:=hf;have hx:x∈(au d r).aA:=hx;have h0:0<(au d r).aA.length:=List.length_pos_of_mem hx;rw[a4l]at e;have:=e (wZ t x) (a1d.2 ⟨x,hx,rfl⟩);rw[rM (by simpa using h0),a8Y]at this;have h00:(au d r).aA[0]∈(au d r).aA:=a4h h0;have:=a1r hel (a6T x hx) (a6T _ h00) (hW r (by omega) hrI x hx) (hW r (by omega) hrI _ h00) (by simpa using this);apply hx2;have h9:(fC d r.toNat).aA.getD 0 0=(au d r).aA[0]:=rM h0;rw[h9,this];simp
  have aeb:tX (au d r).var ((au d r).aA.map (wZ t))∉(KS d t).n.map BH:=by
   intro hm;unfold KS at hm;rw[a6r]at hm;obtain⟨o,ho,e⟩:=a1d.1 hm;have YJ:=f2.n2 o ho;have QF:o.toNat<d.aj.length:=by have:=YJ.1;have:=YJ.2;omega
   have ev:(fC d o.toNat).var=(fC d r.toNat).var:=congrArg Prod.fst e;have ep:He ((au d o).aA.map (wZ t))=He ((au d r).aA.map (wZ t)):=congrArg (fun z:Ky=>z.2.val) e;have hlen:((fC d o.toNat).aA.length:Int)=((fC d r.toNat).aA.length:Int):=(by rw[h.ksz _ QF,h.ksz _ aQ,ev]);have hlen:(au d o).aA.length=(au d r).aA.length:=by exact_mod_cast hlen
   have em:=aah (by simpa using hlen) (by rw[a4a];exact h.KP _ QF) ep;have ek:=map_inj (fun x hx y hy e=>a1r hel (f3 o ho x hx) (a6T y hy) (hW o YJ.1 YJ x hx) (hW r (by omega) hrI y hy) e) em;have:=hd.aj _ _ QF aQ ev ek;have:o=r:=by have:=YJ.1;omega
   exact f5 (this▸ho)
  have hnl:(KS d t).n.length=t.1.length:=by unfold KS;simp
  have hR:dZ (KS d t).n (au d r).var ((au d r).aA.map (wZ t))=(t.1.length:Int):=by
   unfold dZ;rw[acU,a0g (by simp),a8s aeb,a4a,hnl]
  have hS:dh (KS d t).n (au d r).var ((au d r).aA.map (wZ t))=(KS d t).n++[⟨(au d r).var,(au d r).aA.map (wZ t)⟩]:=by
   unfold dh;rw[acU,a0g (by simp),a0g aeb]
  have hx:Ext t (t.1++[r],t.2):=⟨[r],[],by simp⟩;have hc:Vg (t.1++[r],t.2) r:=⟨fun h0=>absurd h0 c,fun _=>by simp⟩;refine⟨?_,?_,by rw[e2];exact hc,by rw[e2];exact f4.trans hx⟩
  .rw[e1,e2,hR,hS,aaf f3 (fun o ho=>(f2.n2 o ho).1) (by omega) f5 a6T];unfold wZ;rw[a0g c];simp[a9o,f5]
  rw[e2];intro o ho k mO;rcases a2X.1 ho with ho|ho
  .exact(f3 o ho k mO).ext hx
  rw[a2J.1 ho]at mO;exact(a6T k mO).ext hx
open Go Tw Pv cO
theorem Xn(b:Br):D9 b=b.aA.all fun x=>x==b.aA.getD 0 0:=by
 have e:jT (RJ (OL b) 1 (max 1 b.aA.length))=true↔∀k,1<=k->k<b.aA.length->b.aA.getD k 0=b.aA.getD 0 0:=by
  unfold RJ gS;rw[Ox (r:=fun k=>k)];constructor
  .intro h k h1 h2;simpa[OL]using h k h1 (by omega)
  intro h k h1 h2;simpa[OL]using h k h1 (by omega)
 have e2:(b.aA.all fun x=>x==b.aA.getD 0 0)=true↔∀k,1<=k->k<b.aA.length->b.aA.getD k 0=b.aA.getD 0 0:=by
  rw[a4l];constructor
  .intro h k _ h2;have:=h _ (dG h2);simpa using this
  intro h x hx;obtain⟨k,hk,rfl⟩:=a4m.1 hx;by_cases h0:k=0
  .subst h0;rw[rM hk];simp
  have:=h k (by omega) hk;rw[rM hk]at this;rw[this];simp
 have:D9 b=true↔(b.aA.all fun x=>x==b.aA.getD 0 0)=true:=by
  rw[e2,<-e];unfold D9;cases jT (RJ (OL b) 1 (max 1 b.aA.length))<;>simp
 rw[a4i];exact this
theorem afi{d:Dg}:jT (bG (cD0 d) d.aI.length)=true↔d.aI.Nodup:=by
 rw[dL];have h1:∀i,cD0 d i=false↔∀j,j<i->d.aI.getD j V0≠d.aI.getD i V0:=fun i=>by
  have:jT (bG (cD1 d i) i)=true↔∀j,j<i->d.aI.getD j V0≠d.aI.getD i V0:=by
   rw[dL];simp[cD1]
  rw[<-this];unfold cD0;cases jT (bG (cD1 d i) i)<;>simp
 have hg:∀j,(hj:j<d.aI.length)->d.aI.getD j V0=d.aI[j]:=fun j hj=>by simp[List.getD,a0b hj]
 constructor
 .intro h;rw[abE,abJ];intro i j hi hj zX;have:=(h1 j).1 (h j hj) i zX
  rwa [hg i hi,hg j hj]at this
 intro h i hi;rw[h1];intro j hj;rw[abE,abJ]at h;have:=h j i (by omega) hi hj
 rwa [hg i hi,hg j (by omega)]
theorem afj{d:Dg}:jT (bG (cD2 d) d.aj.length)=true↔(∀i j,i<d.aj.length->j<d.aj.length->(fC d i).var=(fC d j).var->(fC d i).aA=(fC d j).aA->i=j)∧∀i,i<d.aj.length->((fC d i).aA.all fun x=>x==(fC d i).aA.getD 0 0)=false:=by
 rw[dL];have h1:∀i,cD2 d i=false↔D9 (fC d i)=false∧∀j,j<i->¬((fC d j).var=(fC d i).var∧(fC d j).aA=(fC d i).aA):=fun i=>by
  have h3:∀j,cD3 d i j=false↔¬((fC d j).var=(fC d i).var∧(fC d j).aA=(fC d i).aA):=fun j=>by
   unfold cD3;by_cases hv:(fC d j).var=(fC d i).var
   .rw[a0i (by rw[a6v];exact hv),a2H];exact⟨fun a b=>a b.2,fun a b=>a ⟨hv,b⟩⟩
   rw[a0g (by rw[a6v];exact hv)];exact⟨fun _ a=>hv a.1,fun _=>rfl⟩
  have:jT (bG (cD3 d i) i)=true↔∀j,j<i->¬((fC d j).var=(fC d i).var∧(fC d j).aA=(fC d i).aA):=by
   rw[dL];exact a9E fun j=>a9E fun _=>h3 j
  rw[<-this];unfold cD2;cases D9 (fC d i)
  .cases jT (bG (cD3 d i) i)<;>simp
  simp
 constructor
 .intro h;refine⟨fun i j hi hj hv hk=>?_,fun i hi=>by rw[<-Xn];exact((h1 i).1 (h i hi)).1⟩;rcases Nat.lt_trichotomy i j with zX|zX|zX
  .exact absurd ⟨hv,hk⟩ (((h1 j).1 (h j hj)).2 i zX)
  .exact zX
  exact absurd ⟨hv.symm,hk.symm⟩ (((h1 i).1 (h i hi)).2 j zX)
 intro h i hi;rw[h1];refine⟨by rw[Xn];exact h.2 i hi,fun j hj hc=>?_⟩;have:=h.1 j i (by omega) hi hc.1 hc.2;omega
theorem aai{d:Dg}:(jT (bG (cD0 d) d.aI.length)=true∧jT (bG (cD2 d) d.aj.length)=true)↔DgD d:=by
 rw[afi,afj];exact⟨fun h=>⟨h.1,h.2.1,h.2.2⟩,fun h=>⟨h.aI,h.aj,h.flat⟩⟩
theorem OY{l:List Int}{m:Nat}:zu l m=true↔l=dO m:=by
 unfold zu;have e:jT (bG (a6s l) l.length)=true↔∀j,j<l.length->l.getD j 0=(j:Int):=by
  rw[dL];simp[a6s]
 constructor
 .intro h;split at h
  .rename_i h1;have hl:(l.length:Int)=(m:Int):=(by simpa using h);have hl:l.length=m:=(by omega);rw[rJ (d:=0) (by rw[lq,hl])];intro j hj;rw[e.1 h1 j hj];have:j<m:=(by omega);simp[dO,List.getD,this]
  cases h
 rintro rfl;rw[a0i (e.2 fun j hj=>by rw[lq]at hj;simp[dO,List.getD,hj]),lq];simp
theorem Xo{d:Dg}:nN d=true↔DgD d∧srN d d.root=dO d.aj.length∧srE d d.root=dO d.aI.length:=by
 rw[<-aai,<-OY,<-OY];unfold nN;cases jT (bG (cD0 d) d.aI.length)
 .simp
 cases jT (bG (cD2 d) d.aj.length)
 .simp
 cases zu (srN d d.root) (d.aj.length:Int)<;>simp
open Go Tw Pv cO
abbrev Zu:Cs:=⟨[],[],[]⟩
def eU(d:Dg):Dg:=⟨d.ay,d.aG,(bW d 6002 d.root Zu).2.e,(bW d 6002 d.root Zu).2.n,(bW d 6002 d.root Zu).1⟩
theorem UA{d:Dg}:Di d Zu:=⟨a5F,by simp,a5F,by simp,a5F,by simp⟩
abbrev a6U(b:Br):Bool:=b.aA.all fun x=>x==b.aA.getD 0 0
theorem a1t{d:Dg}:∀(F:Nat) (r:Int) (x:Cs),(∀b∈x.n,a6U b=false)->∀b∈(bW d F r x).2.n,a6U b=false
 | 0,_,_,h=>h
 |F+1,r,x,h=>by
  unfold bW;split
  .exact h
  split
  .exact h
  have hb:=(Hf (d:=d) (fun y=>∀b∈y.n,a6U b=false) (F:=F) (r:=r) h (fun j y _ hy=>a1t F _ y hy)).2;intro b Qi;simp only[dh]at Qi;split at Qi
  .exact hb b Qi
  rename_i hf;split at Qi
  .exact hb b Qi
  rcases a2X.1 Qi with Qi|Qi
  .exact hb b Qi
  rw[a2J.1 Qi];simpa using hf
theorem a3h{d:Dg}(h:Bj d)(e:eU d=d):DgD d:=by
 have hc:=OV h 6002 d.root Zu UA h.root;have hf:=a1t (d:=d) 6002 d.root Zu (by simp);have ee:(bW d 6002 d.root Zu).2.e=d.aI:=congrArg Dg.aI e;have en:(bW d 6002 d.root Zu).2.n=d.aj:=congrArg Dg.aj e;rw[en]at hf;have hg:∀j,(hj:j<d.aj.length)->fC d j=d.aj[j]:=fun j hj=>by simp[List.getD,a0b hj]
 refine⟨ee▸hc.e1,fun i j hi hj hv hk=>?_,fun i hi=>?_⟩
 .have hn:(d.aj.map BH).Nodup:=en▸hc.n1;have:=(a9G (i:=i) (j:=j) (h₀:=by simpa using hi) (h₁:=by simpa using hj) hn).1 (by
   rw[a8Y,a8Y,<-hg i hi,<-hg j hj];show tX _ _=tX _ _;rw[hv,hk])
  exact this
 have:=hf (fC d i) (by rw[hg i hi];exact a4h hi);exact this
theorem OZ{d:Dg}{n m:Nat}{x:Int}(hm:m<=2^61)(hx:KR x)(hc:Vg (dO n,dO m) x):wZ (dO n,dO m) x=x:=by
 have hid:∀(n:Nat) (y:Int),y∈dO n->(((dO n).idxOf y:Nat):Int)=y:=fun n y hy=>by
  have hl:=a4g.2 hy;have h1:=a8t hl;rw[lq]at hl;simp only[dO,a8Y,List.getElem_range]at h1;exact h1
 unfold wZ;by_cases c:x<0
 .rw[a0i c];have h1:=hid m _ (hc.1 c);have h2:jB x=-1-x:=LZ hx c;have h3:=a1j (hc.1 c);have h4:=h3.2;rw[show((((dO n,dO m):List Int×List Int).2.idxOf (jB x):Nat):Int)=jB x from h1,h2,eP (by omega) (by omega)];omega
 rw[a0g c];exact hid n _ (hc.2 (by omega))
theorem Xp{α:Type}(l:List α)(f:Int->α)(h:∀j,(hj:j<l.length)->f j=l[j]):(dO l.length).map f=l:=by
 apply aa0 (by simp[dO]);intro j h1 h2;simp[dO,h j h2]
theorem a1u{d:Dg}{j:Nat}(hj:j<d.aI.length):d.aI.getD ((j:Nat):Int).toNat V0=d.aI[j]:=by simp[List.getD,a0b hj]
theorem a1v{l:List Int}{m:Nat}(hl:l.length=m)(h:∀j,(hj:j<l.length)->l[j]=(j:Int)):l=dO m:=by
 apply aa0 (by rw[lq,hl]);intro j h1 h2;rw[h j h1];simp[dO]
theorem afk{d:Dg}(h:Bj d)(hw:Kq d)(hd:DgD d)(he:d.aI.length<=2^61){t:List Int×List Int}(ht:J8 d t)(hk:Jd d t)(hc:Vg t d.root):((KS d t).e=d.aI∧(KS d t).n=d.aj∧wZ t d.root=d.root)↔(t.1=dO d.aj.length∧t.2=dO d.aI.length):=by
 have hW:∀o,gQ o d.aj.length->∀k∈(au d o).aA,KR k:=fun o ho k mO=>by
  obtain⟨i,hi,rfl⟩:=a4m.1 mO;have:=hw.zy o.toNat (by have:=ho.1;have:=ho.2;omega) i hi
  rwa [rM hi]at this
 have hg:∀j,(hj:j<d.aj.length)->au d (j:Nat)=d.aj[j]:=fun j hj=>by simp[List.getD,a0b hj]
 constructor
 .rintro⟨h1,h2,h3⟩;have l1:t.2.length=d.aI.length:=by have:=congrArg List.length h1;simpa[KS]using this
  have l2:t.1.length=d.aj.length:=by have:=congrArg List.length h2;simpa[KS]using this
  have e2:t.2=dO d.aI.length:=a1v l1 fun j hj=>by
   have rQ:j<d.aI.length:=(by omega);have:(KS d t).e[j]'(by rw[h1];exact rQ)=d.aI[j]:=(by simp only[h1]);unfold KS at this;simp only[a8Y]at this;rw[<-a1u rQ]at this;exact Xm hd.aI (ht.e2 _ (a4h hj)) (aH rQ) this
  have key:∀(N:Nat) (o:Int),o∈t.1->o.toNat<N->wZ t o=o:=by
   intro N
   induction N with
   |zero=>intro o _ hN;omega
   |succ N ih=>
    intro o ho hN;have YJ:=ht.n2 o ho;have aQ:=a4g.2 ho;have rQ:t.1.idxOf o<d.aj.length:=(by omega);have hel:=a8t aQ;have:(KS d t).n[t.1.idxOf o]'(by rw[h2];exact rQ)=d.aj[t.1.idxOf o]:=(by simp only[h2]);unfold KS at this;simp only[a8Y,hel]at this;have hkm:(au d o).aA.map (wZ t)=(au d o).aA:=by
     conv=>rhs;rw[<-List.map_id (au d o).aA]
     apply a5H;intro k mO;show wZ t k=k;have hcv:=hk o ho k mO;by_cases c:k<0
     .have:=OZ (d:=d) (n:=0) (m:=d.aI.length) he (hW o YJ k mO) ⟨fun c=>by have:=hcv.1 c;rwa [e2]at this,fun h0=>by omega⟩;unfold wZ at this ⊢;rw[a0i c]at this ⊢;rw[e2];exact this
     obtain⟨i,hi,rfl⟩:=a4m.1 mO;have aoR:o.toNat<d.aj.length:=by have:=YJ.1;have:=YJ.2;omega
     have h9:=(h.zy o.toNat aoR i hi).1;have h9:(au d o).aA.getD i 0<(o.toNat:Int):=h9;rw[rM hi]at h9;exact ih _ (hcv.2 (by omega)) (by omega)
    rw[hkm]at this;have hv:(fC d (t.1.idxOf o)).var=(fC d o.toNat).var:=(by rw[show fC d (t.1.idxOf o)=d.aj[t.1.idxOf o]from hg _ rQ,<-this]);have xM:(fC d (t.1.idxOf o)).aA=(fC d o.toNat).aA:=(by rw[show fC d (t.1.idxOf o)=d.aj[t.1.idxOf o]from hg _ rQ,<-this]);have h8:=hd.aj _ _ rQ (by have:=YJ.1;have:=YJ.2;omega) hv xM;unfold wZ;rw[a0g (by have:=YJ.1;omega),h8];have:=YJ.1;omega
  refine⟨a1v l2 fun j hj=>?_,e2⟩;have hm:=a4h hj;have:=key ((t.1[j]).toNat+1) _ hm (by omega);unfold wZ at this;rw[a0g (by have:=(ht.n2 _ hm).1;omega)]at this;rw[<-this];have:t.1.idxOf t.1[j]=j:=by
   have h5:=a4g.2 hm;exact(a9G (i:=t.1.idxOf t.1[j]) (j:=j) (h₀:=h5) (h₁:=hj) ht.n1).1 (a8t h5)
  rw[this]
 rintro⟨h1,h2⟩;obtain⟨t1,t2⟩:=t;simp only at h1 h2;subst h1 h2;refine⟨?_,?_,OZ (d:=d) he hw.root hc⟩
 .exact Xp d.aI (fun e=>d.aI.getD e.toNat V0) fun j hj=>a1u hj
 refine Xp d.aj _ fun j hj=>?_;have hkm:(au d (j:Nat)).aA.map (wZ (dO d.aj.length,dO d.aI.length))=(au d (j:Nat)).aA:=by
  conv=>rhs;rw[<-List.map_id (au d (j:Nat)).aA]
  apply a5H;intro k mO;exact OZ (d:=d) he (hW _ (aH hj) k mO) (hk _ (by show(j:Int)∈dO _;unfold dO;rw[a1d];exact⟨j,a4b.2 hj,rfl⟩) k mO)
 rw[hkm,hg j hj]
theorem Sm{d:Dg}(h:Bj d)(hw:Kq d)(he:d.aI.length<=2^61)(hn:d.aj.length<=6000):eU d=d↔nN d=true:=by
 have main:DgD d->(eU d=d↔(srN d d.root=dO d.aj.length∧srE d d.root=dO d.aI.length)):=fun hd=>by
  have hr:d.root+1<6002:=by have:=h.root.1;omega
  have ha:=acT h hw hd he 6002 d.root ([],[]) hr sr0 (fun o ho=>by cases ho) h.root (by omega);have hs:=JZ h 6002 d.root ([],[]) sr0 h.root;have hi:=afk h hw hd he hs ha.aA ha.cov;have e0:KS d ([],[])=Zu:=rfl;have e1:=ha.eq;rw[e0]at e1;unfold srN srE;rw[<-hi];unfold eU;rw[e1];obtain⟨d1,d2,d3,d4,d5⟩:=d;simp
 rw[Xo];constructor
 .intro e;have hd:=a3h h e;exact⟨hd,(main hd).1 e⟩
 rintro⟨hd,h2⟩;exact(main hd).2 h2
open Go Tw Pv cO
abbrev HCw(l:Lo)(x:Cs):List (PB aF):=[.list false false 3 l.s,.list false false 3 l.o,.map (kV.es (zB x.e)),.map (kK.es (yG x.n)),mkC l.s l.o 12 13 0,.gone,.gone,.cells l.ps,.cells [.ptr 4 0 9],.map (kI.es (KT x.k)),.cells [.map 9],.cells [.fn 195 [] pC],PS x.e,PU x.n]
structure ClP(l:Lo):Prop where
 s:l.s=l.d.ay
 o:l.o=l.d.aG
 t:Bj l.d
 e:l.d.aI.length+1<=ah
 n:l.d.aj.length<=6000
 k:∀i,i<l.d.aj.length->1<=(fC l.d i).aA.length
 sl:l.d.ay.length<=ah
 ol:l.d.aG.length<=ah
def acV:eX aF:=cu 161 (a1 loA) dA (fun l=>eU l.d) (fun l=>[ClP l]) acR
theorem ajX:Gd acV:=ajV.WO 6010 acK fun n hn hO hOl l hp=>by
 obtain⟨n,rfl⟩:∃k,n=k+6009:=⟨n-6009,by omega⟩;have h:ClP l:=hp _ (.head _);obtain⟨s,o,d⟩:=l;obtain⟨e1,e2,ht,he,hn6,hk,hsl,QF⟩:=h;obtain rfl:s=d.ay:=e1;obtain rfl:o=d.aG:=e2;have hO':∀m,n+1<=m->Ok m _:=fun m hm=>hOl m (by omega);have he:d.aI.length+1<=ah:=he;have hn6:d.aj.length<=6000:=hn6;have hr:=ht.root.1;have hr:d.root<(d.aj.length:Int):=hr;have qg:=sCl (N:=n+1) hO' ht he (by unfold ah;omega) hk 6002 d.root Zu (by omega) UA ht.root (by omega);have fQ:=aoN (n:=n+6008) (hO' _ (by omega)) d.ay d.aG hsl QF;show oh _ _ _ _ _ (dA.put (eU d)) _;unfold eU;generalize bW d 6002 d.root Zu=z at qg ⊢;obtain⟨v,e,nd,k⟩:=z;exact aO (hO (n+6009) (by omega)) (.fr [] fQ (.Qb (H2:=HCw (yI d) ⟨e,nd,k⟩) [1,2,3,4,5,6,7,0,8,9,10,11] [7,8,10,11] qg .rr))
open Go Tw Pv cO
theorem a1w{d:Dg}(h:Bj d):∀(F:Nat) (r:Int) (x:Cs),(∀b∈x.n,b.aA.length<=12)->ji d r d.aj.length->∀b∈(bW d F r x).2.n,b.aA.length<=12
 | 0,_,_,hx,_=>hx
 |F+1,r,x,hx,hr=>by
  unfold bW;by_cases c:r<0
  .rw[a0i (by simpa using c)];exact hx
  rw[a0g (by simpa using c)];split
  .exact hx
  have aQ:r.toNat<d.aj.length:=by have:=hr.1;omega
  have hb:=Hf (d:=d) (fun y=>∀b∈y.n,b.aA.length<=12) (F:=F) (r:=r) hx (fun j y hj hy=>a1w h F _ y hy (by
   have h9:=h.zy r.toNat aQ j hj;have h8:=h9.1;have h8:(au d r).aA.getD j 0<(r.toNat:Int):=h8;exact⟨by have:=hr.1;omega,h9.2⟩))
  intro b Qi;simp only[dh]at Qi;split at Qi
  .exact hb.2 b Qi
  split at Qi
  .exact hb.2 b Qi
  rcases a2X.1 Qi with Qi|Qi
  .exact hb.2 b Qi
  rw[a2J.1 Qi];show List.length _<=12;rw[hb.1];exact h.KP r.toNat aQ
theorem wS{d:Dg}(h:Kq d)(he:d.aI.length+1<=ah)(hs:d.ay.length<=ah)(ho:d.aG.length<=ah)(h0:(bF d).2=0):(bF d).1=yI d∧ClP (yI d):=by
 rw[J9 h (by omega)]at h0 ⊢;have h0:aW d=0:=h0;have hc:=kE ho (show d.aI.length<=ah by omega) (by simp[h0]);have hf:(bU d.ay d.aG != 0)=false:=by
  cases e:bU d.ay d.aG != 0
  .rfl
  unfold aW at h0;rw[a0i e]at h0;simp[h0]at e
 refine⟨by rw[a0g (by rw[hf];simp)],rfl,rfl,hc.1,he,hc.2,fun i hi=>?_,hs,ho⟩;have h1:=hc.1.ksz i hi;have h2:=hc.1.var i hi;have h3:=(Au hf).sz _ (dG (s:=d.ay) (k:=(fC d i).var.toNat) (by have:=h2.2;have:=h2.1;omega));have h1:((fC d i).aA.length:Int)=d.ay.getD (fC d i).var.toNat 0:=h1;show 1<=(fC d i).aA.length;omega
def vM(d:Dg):Lo×Int:=if(bF d).2==0 then(if(!(Hl (eU (bF d).1.d) d))=true then((bF d).1,4)else bF d)else bF d
theorem Zv{d:Dg}(h:Bj d)(hn:d.aj.length<=6000):(eU d).aI.length<=d.aI.length∧(eU d).aj.length<=6000∧∀b∈(eU d).aj,b.aA.length<=12:=by
 have hc:=OV h 6002 d.root Zu UA h.root;refine⟨hc.ajQ,?_,a1w h 6002 d.root Zu (by simp) h.root⟩;have h1:=hc.KP;have h2:=hc.n2;show(bW d 6002 d.root Zu).2.n.length<=6000;omega
theorem a3i{d:Dg}(h:Kq d)(hs:d.ay.length<=ah)(ho:d.aG.length<=2^20)(he:d.aI.length+1<=ah)(h0:((bF d).2==0)=true):ClP (bF d).1∧(eU (bF d).1.d).ay.length<=ah∧(eU (bF d).1.d).aG.length<=ah∧(eU (bF d).1.d).aI.length<=ah∧(eU (bF d).1.d).aj.length<=ah∧∀k,k<(eU (bF d).1.d).aj.length->((eU (bF d).1.d).aj.getD k kN).aA.length<=ah:=by
 have ho:d.aG.length<=ah:=by unfold ah;omega
 obtain⟨h1,h2⟩:=wS h he hs ho (by simpa using h0);rw[h1];obtain⟨a,b,c⟩:=Zv h2.t h2.n;refine⟨h2,hs,ho,?_,?_,fun k hk=>?_⟩
 .have a:(eU d).aI.length<=d.aI.length:=a;show(eU d).aI.length<=ah;omega
 .have b:(eU d).aj.length<=6000:=b;show(eU d).aj.length<=ah;unfold ah;omega
 exact m12 (c _ (Xi hk))
def acW:eX aF:=cu 172 (a1 dA) (dR (a2 loA iA)) (fun p=>vM p) (fun p=>[Kq p,p.ay.length<=ah,p.aG.length<=2^20,p.aI.length+1<=ah]) acV
theorem ajY:Gd acW:=ajX.add fun n hO p hp=>aO hO (.o (hp _ (.tail _ (.head _))) (.o (hp _ (.tail _ (.tail _ (.head _)))) (.o (by have h9:p.aI.length+1<=ah:=hp _ (.tail _ (.tail _ (.tail _ (.head _))));show p.aI.length<=ah;omega) (.sh (fun h=>have q:=a3i (hp _ (.head _)) (hp _ (.tail _ (.head _))) (hp _ (.tail _ (.tail _ (.head _)))) (hp _ (.tail _ (.tail _ (.tail _ (.head _))))) h;.o q.1 (.o q.2.1 (.o q.2.2.1 (.o q.2.2.2.1 (.o q.2.2.2.2.1 (.o q.2.2.2.2.2 (.ss .rr .rr))))))) fun _=>.rr))))
theorem Xq{d:Dg}(h:Kq d)(hs:d.ay.length<=ah)(ho:d.aG.length<=ah)(he:d.aI.length+1<=ah):vM d=(if(bU d.ay d.aG != 0)=true then lo0 else yI d,qy d):=by
 have h9:=J9 h (show d.aI.length<=ah by omega);unfold vM qy;by_cases h0:(bF d).2=0
 .obtain⟨h1,h2⟩:=wS h he hs ho h0;have h3:=Sm h2.t h (show d.aI.length<=2^61 by unfold ah at he;omega) h2.n;have h4:aW d=0:=by rw[h9]at h0;exact h0
  rw[a0i (show((bF d).2==0)=true by simpa using h0),h1,h4,a0g (show ¬(((0:Int) != 0)=true) by simp)];rw[h9]at h1;show(if(!(Hl (eU d) d))=true then(yI d,4)else bF d)=_;have h1:(if(bU d.ay d.aG != 0)=true then lo0 else yI d)=yI d:=h1;rw[h9,h1];by_cases h5:eU d=d
  .rw[a0g (show ¬((!(Hl (eU d) d))=true) by rw[a1p.2 h5];simp),a0g (show ¬((!(nN d))=true) by rw[h3.1 h5];simp),h4]
  have h6:Hl (eU d) d=false:=by
   cases e:Hl (eU d) d
   .rfl
   exact absurd (a1p.1 e) h5
  have h7:nN d=false:=by
   cases e:nN d
   .rfl
   exact absurd (h3.2 e) h5
  rw[a0i (show(!(Hl (eU d) d))=true by rw[h6];rfl),a0i (show(!(nN d))=true by rw[h7];rfl)]
 have h4:¬aW d=0:=by rw[h9]at h0;exact h0
 rw[a0g (show ¬(((bF d).2==0)=true) by simpa using h0),h9,a0i (show(aW d != 0)=true by simpa using h4)]
end Go.Proofs.YtmobpoiejckagaaGreat
namespace Pv
open Go Tw
def yh:Code->Option (Code×Code)
 |.seq a b=>match yh a with
  |some r=>some r
  |none=>yh b
 |.cond _ a b=>match yh a with
  |some r=>some r
  |none=>yh b
 |.block _ b=>yh b
 |.loop b=>yh b
 |.rangeFunc _ _ a b=>some (a,b)
 |_=>none
def wU(P:Program)(f:Nat):Code:=
 match Tn P f with
 |some t=>match yh t.body with
  |some (a,_)=>a
  |none=>.skip
 |none=>.skip
def Aw(P:Program)(f:Nat):Code:=
 match Tn P f with
 |some t=>match yh t.body with
  |some (_,b)=>b
  |none=>.skip
 |none=>.skip
end Pv
namespace Go.Proofs.YtmobpoiejckagaaGreat
open Go Tw Pv cO
def cellsD(d:Dg):List V:=(List.range (EI d.ay)).map fun(k:Nat)=>pG d (lY d.ay k)
open Go Tw Pv cO
def UC(N:List Br)(c:Int)(ks:List Int):Int:=if(ks.all fun x=>x==ks.getD 0 0)=true then ks.getD 0 0 else(N.idxOf (⟨c,ks⟩:Br):Nat)
def uS(N:List Br)(c:Int)(ks:List Int):List Br:=if(ks.all fun x=>x==ks.getD 0 0)=true then N else if(⟨c,ks⟩:Br)∈N then N else N++[⟨c,ks⟩]
abbrev EN:Type:=List V×List Br
def KU(f:List Int->EN->Int×EN)(c:Int)(p:List Int)(j:Nat)(y:List Int×EN):List Int×EN:=(y.1++[(f (p.set c.toNat j) y.2).1],(f (p.set c.toNat j) y.2).2)
def oL(s:List Int)(l:List V):List Int->List Int->EN->Int×EN
 | [],p,x=>(i64.wrap (-1-(x.1.idxOf (l.getD (fB s p).toNat V0):Nat)),(gV x.1 (l.getD (fB s p).toNat V0),x.2))
 |c::r,p,x=>
  let y:=aT (KU (oL s l r) c p) (s.getD c.toNat 0).toNat 0 ([],x)
  (UC y.2.2 c y.1,(y.2.1,uS y.2.2 c y.1))
def wO(s:List Int):List Int->Nat
 | []=>1
 |c::r=>(s.getD c.toNat 0).toNat*wO s r
theorem UD{s:List Int}(hs:lZ s):∀{o:List Int},(∀c∈o,gQ c s.length)->1<=wO s o
 | [],_=>a0V _
 |c::r,h=>by
  have h1:=UD hs (o:=r) fun c hc=>h c (by simp[hc]);obtain⟨h2,h3⟩:=h c (by simp);have h4:=hs _ (dG (s:=s) (k:=c.toNat) (by omega));have h5:1*1<=(s.getD c.toNat 0).toNat*wO s r:=agI (by omega) h1;simpa[wO]using h5
theorem Zw(E:List V)(v:V):(gV E v).length<=E.length+1:=by
 unfold gV;split<;>simp
theorem a6W(N:List Br)(c:Int)(ks:List Int):(uS N c ks).length<=N.length+1:=by
 unfold uS;split
 .omega
 split<;>simp
theorem aaj{f:List Int->EN->Int×EN}{c:Int}{p:List Int}{n w:Nat}(h:∀q x,(f q x).2.1.length<=x.1.length+w∧(f q x).2.2.length+1<=x.2.length+w)(x:EN):(aT (KU f c p) n 0 ([],x)).1.length=n∧(aT (KU f c p) n 0 ([],x)).2.1.length<=x.1.length+n*w∧(aT (KU f c p) n 0 ([],x)).2.2.length+n<=x.2.length+n*w:=by
 have:=dD (g:=KU f c p) (m:=n) (k:=0) (s:=([],x)) (fun k y=>y.1.length=k∧y.2.1.length<=x.1.length+k*w∧y.2.2.length+k<=x.2.length+k*w) ⟨rfl,by simp,by simp⟩ (fun j y _ _ hy=>by
  obtain⟨h1,h2,h3⟩:=hy;have:=h (p.set c.toNat j) y.2;refine⟨by simp[KU,h1],?_,?_⟩
  .simp only[KU,a2Z,abl];omega
  simp only[KU,a2Z,abl];omega)
 rw[a3O]at this;exact this
theorem a6X{s:List Int}{l:List V}(hs:lZ s):∀(o p:List Int) (x:EN),(∀c∈o,gQ c s.length)->(oL s l o p x).2.1.length<=x.1.length+wO s o∧(oL s l o p x).2.2.length+1<=x.2.length+wO s o
 | [],p,x,_=>by
  have:=Zw x.1 (l.getD (fB s p).toNat V0);exact⟨this,by simp[oL,wO]⟩
 |c::r,p,x,h=>by
  obtain⟨h1,h2,h3⟩:=aaj (f:=oL s l r) (c:=c) (p:=p) (n:=(s.getD c.toNat 0).toNat) (w:=wO s r) (fun q x=>a6X hs r q x fun c hc=>h c (by simp[hc])) x;obtain⟨i1,i2⟩:=h c (by simp);have h4:=hs _ (dG (s:=s) (k:=c.toNat) (by omega));simp only[oL,wO];generalize aT (KU (oL s l r) c p) (s.getD c.toNat 0).toNat 0 ([],x)=y at h1 h2 h3;refine⟨h2,?_⟩;by_cases hn:(s.getD c.toNat 0).toNat=1
  .have e:uS y.2.2 c y.1=y.2.2:=by
    unfold uS;rw[a0i];rw[hn]at h1
    match hy:y.1,h1 with
    | [a],_=>simp
   rw[e];omega
  have:=a6W y.2.2 c y.1;omega
theorem a6Y{α:Type}[DecidableEq α]{l:List α}{d a:α}{c:Nat->Bool}(hc:∀k,k<l.length->c k=decide (l.getD k d=a)):(a∈l->bG c l.length=.inr (l.idxOf a))∧(a∉l->jT (bG c l.length)=true):=by
 constructor
 .intro h;have hi:=a4g.2 h;have h1:c (l.idxOf a)=true:=by
   rw[hc _ hi,a1E,List.getD,a0b hi,a4F,a8t]
  cases e:jT (bG c l.length)
  .obtain⟨j,hj,cj,hb,e2⟩:=H7 e;rw[e2];congr 1;rcases Nat.lt_trichotomy j (l.idxOf a)with g|g|g
   .exfalso;rw[hc j hj,a1E,List.getD,a0b hj,a4F]at cj;have:=List.not_of_lt_findIdx (p:=(·==a)) g;rw[cj]at this;simp at this
   .exact g
   rw[hb _ g]at h1;cases h1
  rw[dL.1 e _ hi]at h1;cases h1
 intro h;refine dL.2 fun j hj=>?_;rw[hc j hj,a2H,List.getD,a0b hj,a4F];rintro rfl;exact h (a4h hj)
structure PtP(s o:List Int)(l:List V):Prop where
 dw:rW s
 ord:∀c∈o,gQ c s.length
 len:(l.length:Int)=aY s
 auq:o.length<=ah
 slen:s.length<=ah
end Go.Proofs.YtmobpoiejckagaaGreat
namespace Pv
open Go Tw
section
variable {X:kH} {P:Program}
theorem DW{A:Nat->Prop}{m:List MB}{h:List HB}:∀{a b:List (PV X.Γ)} {z:List TV},bV X P A m h (a++b) z->∃x y,z=x++y∧bV X P A m h a x∧bV X P A m h b y
 | [],b,z,hz=>⟨[],z,rfl,.nil,hz⟩
 |v::a,b,z,hz=>by
  obtain⟨x0,r,rfl,v0,vr⟩:=bV.inv (v:=v) (vs:=a++b) hz;obtain⟨x,y,rfl,h1,h2⟩:=DW vr;exact⟨x0::x,y,rfl,.cons v0 h1,h2⟩
theorem aX.fz(hX:bK X P){call:bf}{f:FuncId}{cs ws rest xs:List (PV X.Γ)}{H H1:List (PB X.Γ)}{v:PV X.Γ}(is:List Nat)(hs:aX X P call (.fn f [] []) (.agg (ws++rest)::xs) (aZ is H) v H1)(hv:views H cs=some ws)(ho:∀i,i∈kM.jX cs->i∈is):aX X P call (.fn f [] []) (.agg (cs++rest)::xs) H v H1:=by
 intro A m h tf rU hr hf hx;obtain⟨x0,r,rfl,v0,vr⟩:=hx.inv;cases v0 with
 |gone hi _ _=>simp[bn]at hi
 |agg a1 a2=>
  rename_i cs';have ha:bV X P (AA A m) m h (cs++rest) cs':=⟨a1,a2⟩;obtain⟨c1,c2,rfl,b1,b2⟩:=DW ha;have hF:=iw (h:=h) is m;have w1:=(l7 (m':=bT is m) hX hr b1 hv ho).mono fun b hb=>FA.gone hr hb;have w2:=b2.step hF.1 hF.2;have w3:=w1.app w2;obtain⟨w,h',Tz,m1,k1,k2,k3,k4,k5,k6⟩:=hs A (bT is m) h tf (.agg (c1++c2)::r) (hr.aZ is) (hf.step hF.1 hF.2) (.cons (.agg w3.1 w3.2) (vr.step hF.1 hF.2));refine⟨w,h',Tz,m1,k1,k2,k3,hF.1.trans k4,hF.2.trans k5,fun b hb=>?_⟩;rcases hF.1.new b (k6 b hb)with g|g
  .exact g
  have:=(hr.aZ is).inb (k6 b hb);omega
end
theorem Good.acX{X:kH}{P:Program}{T:qC}{L:Nat}{α β:Type}{f:FuncId}{a:Ul X P α}{r:Ar X P β}{S:α->β}{pre:α->List Prop}{fH WQ a6Z:eX X.Γ}(d:Nat)(hg:Good X P T L fH)(hg2:Good X P T L WQ)(hg3:Good X P T L a6Z)
  (hf:∀n,d<=n->(∀m,n-d<=m->jw X P (kQ P T L m) fH)->(∀m,n-d<=m->jw X P (kQ P T L m) WQ)->(∀m,n-d<=m->jw X P (kQ P T L m) a6Z)->∀x,(∀p∈pre x,p)->oh X P (kQ P T L (n+1)) f (a.put x) (r.put (S x)) []):Good X P T L (cu f a r S pre fH):=by
 obtain⟨N2,hN2⟩:=hg2;obtain⟨N3,hN3⟩:=hg3;obtain⟨M,hM⟩:=hg;refine⟨M+N2+N3+d+1,fun n hn=>?_⟩;obtain⟨k,rfl⟩:∃k,n=k+1:=⟨n-1,by omega⟩;intro g vs v ext ps ho hp;unfold cu at ho;split at ho
 .rename_i e;have e:=a8A e;subst e;split at ho
  .rename_i x hx;cases ho;intro A h first args cap Ig hv
   exact hf k (by omega) (fun m hm=>hM m (by omega)) (fun m hm=>hN2 m (by omega)) (fun m hm=>hN3 m (by omega)) x hp A h first args cap Ig (a.ok hx hv)
  .exact hM (k+1) (by omega) g vs v ext ps ho hp
 .exact hM (k+1) (by omega) g vs v ext ps ho hp
end Pv
namespace Go.Proofs.YtmobpoiejckagaaGreat
open Go Tw Pv cO
def FC(s o:List Int)(l:List V):Dg:=⟨s,o,(oL s l o (List.replicate s.length 0) ([],[])).2.1,(oL s l o (List.replicate s.length 0) ([],[])).2.2,(oL s l o (List.replicate s.length 0) ([],[])).1⟩
theorem P5:∀{s:List Int},lZ s->gU s (List.replicate s.length 0)=true
 | [],_=>rfl
 |a::s,h=>by
  have:=h a (a2T ..);simp only[a3S,adI,gU,a2a,a1E];exact⟨⟨a96 _,by omega⟩,P5 h.tail⟩
open Go Tw Pv cO
theorem a7a{a b:List Int}(ha:a.length<=12)(he:a.length=b.length)(h:He a=He b):a=b:=by
 have e:∀l:List Int,l.length<=12->(He l).take l.length=l:=fun l hl=>by
  unfold He;rw[afz,a7A hl,List.take_left]
 rw[<-e a ha,<-e b (by omega),h,he]
def NOk(s:List Int)(N:List Br):Prop:=∀b∈N,gQ b.var s.length∧(b.aA.length:Int)=s.getD b.var.toNat 0
theorem a7b{s:List Int}(hs:lZ s){N:List Br}(h:NOk s N){c:Int}{ks:List Int}(hc:gQ c s.length)(hk:(ks.length:Int)=s.getD c.toNat 0){b:Br}(hb:b∈N):BH b=tX c ks↔b=⟨c,ks⟩:=by
 constructor
 .intro e;obtain⟨v,l⟩:=b;have e1:v=c:=congrArg Prod.fst e;subst e1;have e2:He l=He ks:=congrArg (fun x:Ky=>x.2.1) e;have hl:=(h _ hb).2;have hl:(l.length:Int)=s.getD v.toNat 0:=hl;have hz:=hs _ (dG (s:=s) (k:=v.toNat) (by have:=hc.1;have:=hc.2;omega));rw[a7a (by omega) (by omega) e2]
 rintro rfl;rfl
theorem Xr{s:List Int}(hs:lZ s){N:List Br}(h:NOk s N){c:Int}{ks:List Int}(hc:gQ c s.length)(hk:(ks.length:Int)=s.getD c.toNat 0):dZ N c ks=UC N c ks∧dh N c ks=uS N c ks:=by
 have hm:tX c ks∈N.map BH↔(⟨c,ks⟩:Br)∈N:=by
  rw[a1d];constructor
  .rintro⟨b,hb,e⟩;rw[(a7b hs h hc hk hb).1 e]at hb;exact hb
  intro hb;exact⟨_,hb,rfl⟩
 have hi:(N.map BH).idxOf (tX c ks)=N.idxOf (⟨c,ks⟩:Br):=by
  clear hm
  induction N with
  |nil=>rfl
  |cons b N ih=>
   have e:=a7b hs h hc hk (b:=b) (by simp);rw[a3U,ado,ado,ih fun b hb=>h b (by simp[hb])];have:(BH b==tX c ks)=(b==(⟨c,ks⟩:Br)):=by rw[a4i,a6v,a6v];exact e
   rw[this]
 unfold dZ UC dh uS;rw[hi];refine⟨rfl,?_⟩;split
 .rfl
 by_cases g:tX c ks∈N.map BH
 .rw[a0i g,a0i (hm.1 g)]
 rw[a0g g,a0g fun x=>g (hm.2 x)]
open Go Tw Pv cO
theorem aak{s:List Int}{a b:List Int}(h:a.Perm b):wO s a=wO s b:=by
 induction h with
 |nil=>rfl
 |cons x _ ih=>simp only[wO,ih]
 |swap x y l=>simp only[wO];rw[<-Nat.mul_assoc,<-Nat.mul_assoc,Nat.mul_comm (s.getD y.toNat 0).toNat]
 |trans _ _ i1 i2=>rw[i1,i2]
theorem Xt{s:List Int}(hs:lZ s):∀(m k:Nat),k+m=s.length->(wO s ((List.range' k m).map fun(j:Nat)=>(j:Int)):Int)=aY (s.drop k)
 | 0,k,h=>by rw[ag5 (by omega)];rfl
 |m+1,k,h=>by
  have hk:k<s.length:=by omega
  have hz:=hs _ (dG (s:=s) (k:=k) hk);rw[List.range'_succ,a3U,wO,OA hk,adN,Xt hs m (k+1) (by omega),a4v,agB (by omega)]
theorem FD{s o:List Int}(hs:lZ s)(h:jR s.length o=true):(wO s o:Int)=aY s:=by
 have h':=h;unfold jR at h';rw[a1E]at h';have hi:=RS s.length;have vW:=hi;unfold jR at vW;rw[a1E]at vW;have hp:o.Perm (dO s.length):=(a7c h'.2.2 vW.2.2).2 fun a=>⟨fun ha=>mQ hi (h'.2.1 a ha),fun ha=>mQ h (vW.2.1 a ha)⟩;rw[aak hp];have:=Xt hs s.length 0 (by omega);rw[<-List.range_eq_range']at this;exact this
open Go Tw Pv cO
inductive To(d:Dg)(q:List Int):Int->V->Prop
 |fin {r:Int} (h:r<0):To d q r (d.aI.getD (jB r).toNat V0)
 |step {r:Int} {c:V} (h:0<=r) (t:To d q ((au d r).aA.getD (q.getD (au d r).var.toNat 0).toNat 0) c):To d q r c
theorem To.at_{d:Dg}(h:Bj d){q:List Int}(hq:gU d.ay q=true){r:Int}{c:V}(t:To d q r c):∀F:Nat,r<F->ji d r d.aj.length->c=d.aI.getD (jB (atF d q F r)).toNat V0:=by
 induction t with
 |fin hr=>
  intro F _ _;cases F with
  |zero=>rfl
  |succ F=>rw[atF,a0i hr]
 |step hr _ ih=>
  intro F hF hk;cases F with
  |zero=>omega
  |succ F=>
   rw[atF,a0g (by omega)];have:=(OM h hq ⟨hr,hk.1⟩).2.2;exact ih F (by have:=this.1;omega) ⟨by have:=this.1;have:=hk.1;omega,this.2⟩
theorem To.of{d:Dg}(h:Bj d){q:List Int}(hq:gU d.ay q=true):∀(F:Nat) (r:Int),r<F->ji d r d.aj.length->To d q r (d.aI.getD (jB (atF d q F r)).toNat V0)
 | 0,r,hr,_=>.fin (by omega)
 |F+1,r,hr,hk=>by
  rw[atF];split
  .rename_i c;exact .fin c
  rename_i c;have:=(OM h hq ⟨by omega,hk.1⟩).2.2;exact .step (by omega) (To.of h hq F _ (by have:=this.1;omega) ⟨by have:=this.1;have:=hk.1;omega,this.2⟩)
theorem To.det{d:Dg}{q:List Int}{r:Int}{a b:V}(h:To d q r a):To d q r b->a=b:=by
 induction h with
 |fin hr=>intro g;cases g with
  |fin _=>rfl
  |step h _=>omega
 |step hr _ ih=>intro g;cases g with
  |fin h=>omega
  |step _ t=>exact ih t
theorem Az(E:List V)(v:V):E <+: gV E v:=by
 unfold gV;split
 .exact a4r
 exact a8u _ _
theorem Xu(N:List Br)(c:Int)(ks:List Int):N <+: uS N c ks:=by
 unfold uS;split
 .exact a4r
 split
 .exact a4r
 exact a8u _ _
def P6(x y:EN):Prop:=x.1 <+: y.1∧x.2 <+: y.2
theorem P6.rfl{x:EN}:P6 x x:=⟨a4r,a4r⟩
theorem P6.trans{x y z:EN}(a:P6 x y)(b:P6 y z):P6 x z:=⟨a.1.trans b.1,a.2.trans b.2⟩
theorem Zx{s:List Int}{l:List V}:∀(r p:List Int) (x:EN),P6 x (oL s l r p x).2
 | [],p,x=>⟨Az _ _,a4r⟩
 |c::r,p,x=>by
  have:=dD (g:=KU (oL s l r) c p) (m:=(s.getD c.toNat 0).toNat) (k:=0) (s:=([],x)) (fun _ y=>P6 x y.2) P6.rfl (fun j y _ _ hy=>hy.trans (Zx r _ y.2));exact⟨this.1,this.2.trans (Xu _ _ _)⟩
theorem Hq{α:Type}{a b:List α}{d:α}(h:a <+: b){k:Nat}(hk:k<a.length):b.getD k d=a.getD k d:=by
 obtain⟨t,rfl⟩:=h;simp[List.getD,a0c hk]
theorem Xv{k:Nat}(hk:k<2^61):i64.wrap (-1-(k:Int))=-1-(k:Int)∧jB (-1-(k:Int))=(k:Int):=by
 refine⟨eP (by omega) (by omega),?_⟩;unfold jB;rw[eP (by omega) (by omega)];omega
theorem a3j(E:List V)(v:V):E.idxOf v<(gV E v).length∧(gV E v).getD (E.idxOf v) V0=v:=by
 unfold gV;split
 .rename_i h;have:=a4g.2 h;exact⟨this,by simp[List.getD,a0b this]⟩
 rename_i h;rw[a8s h];exact⟨by simp,by simp[List.getD]⟩
theorem aal{N:List Br}{c:Int}{ks:List Int}(hf:¬(ks.all fun x=>x==ks.getD 0 0)=true):N.idxOf (⟨c,ks⟩:Br)<(uS N c ks).length∧(uS N c ks).getD (N.idxOf (⟨c,ks⟩:Br)) kN=⟨c,ks⟩:=by
 unfold uS;rw[a0g hf];split
 .rename_i h;have:=a4g.2 h;exact⟨this,by simp[List.getD,a0b this]⟩
 rename_i h;rw[a8s h];exact⟨by simp,by simp[List.getD]⟩
def Agr(s r q p:List Int):Prop:=∀k:Nat,k<s.length->(k:Int)∉r->q.getD k 0=p.getD k 0
theorem Agr.set{s r q p:List Int}{c:Int}(hc:gQ c s.length)(hp:p.length=s.length)(h:Agr s (c::r) q p):Agr s r q (p.set c.toNat (q.getD c.toNat 0)):=fun k hk hr=>by
 by_cases e:k=c.toNat
 .subst e;have e2:(p.set c.toNat (q.getD c.toNat 0)).getD c.toNat 0=q.getD c.toNat 0:=by
   simp[List.getD,a1V (show c.toNat<p.length by omega)]
  exact e2.symm
 .rw[show(p.set c.toNat (q.getD c.toNat 0)).getD k 0=p.getD k 0 by rw[List.getD,a1g (Ne.symm e)];rfl];exact h k hk (by simp only[a2e,ada];exact⟨fun e2=>e (by omega),hr⟩)
theorem Agr.back{s r q p:List Int}{c j:Int}(hc:gQ c s.length)(h:Agr s r q (p.set c.toNat j)):Agr s (c::r) q p:=fun k hk hr=>by
 simp only[a2e,ada]at hr;have hc:=hc.1;have e:k≠c.toNat:=fun e=>hr.1 (by omega);have:=h k hk hr.2;rw[this,List.getD,a1g (Ne.symm e)];rfl
open Go Tw Pv cO
def Ee(o:List Int)(N:List Br)(r:Int):Nat:=if r<0 then o.length else o.idxOf (N.getD r.toNat kN).var
def BF(o:List Int)(x:EN)(v:Int)(b a:Nat):Prop:=(v<0->gQ (jB v) x.1.length)∧v<(b:Int)∧a<=Ee o x.2 v
structure PtV(s o:List Int)(x:EN):Prop where
 var:∀i,i<x.2.length->gQ (x.2.getD i kN).var s.length
 ksz:∀i,i<x.2.length->((x.2.getD i kN).aA.length:Int)=s.getD (x.2.getD i kN).var.toNat 0
 zy:∀i,i<x.2.length->∀k,k<(x.2.getD i kN).aA.length->BF o x ((x.2.getD i kN).aA.getD k 0) i (o.idxOf (x.2.getD i kN).var+1)
theorem BF.mono{o:List Int}{x y:EN}{v:Int}{b b' a a':Nat}(h:BF o x v b a)(hp:P6 x y)(hb:b<=b')(hx:b<=x.2.length)(ha:a'<=a):BF o y v b' a':=by
 obtain⟨h1,h2,h3⟩:=h;refine⟨fun hv=>⟨(h1 hv).1,by have:=(h1 hv).2;have:=hp.1.length_le;omega⟩,by omega,?_⟩;unfold Ee at h3 ⊢;split
 .rename_i c;rw[a0i c]at h3;omega
 rename_i c;rw[a0g c]at h3;rw[Hq hp.2 (by omega)];omega
theorem a7d{s o:List Int}{l:List V}(hs:lZ s)(ho:∀c∈o,gQ c s.length)(hn:o.Nodup):∀(r:List Int) (a:Nat) (p:List Int) (x:EN),o.drop a=r->a<=o.length->PtV s o x->(oL s l r p x).2.1.length<2^61->PtV s o (oL s l r p x).2∧BF o (oL s l r p x).2 (oL s l r p x).1 (oL s l r p x).2.2.length a
 | [],a,p,x,hr,ha,hx,hE=>by
  have:a=o.length:=by
   have:=congrArg List.length hr;rw[a3H,a4x]at this;omega
  subst this;obtain⟨g1,g2⟩:=a3j x.1 (l.getD (fB s p).toNat V0);have hE:(gV x.1 (l.getD (fB s p).toNat V0)).length<2^61:=hE;obtain⟨e1,e2⟩:=Xv (k:=x.1.idxOf (l.getD (fB s p).toNat V0)) (by omega);have hp:P6 x (gV x.1 (l.getD (fB s p).toNat V0),x.2):=⟨Az _ _,a4r⟩;refine⟨⟨hx.var,hx.ksz,fun i hi k hk=>(hx.zy i hi k hk).mono hp (a0V _) (a8S hi) (a0V _)⟩,?_⟩;show BF o _ (i64.wrap (-1-(x.1.idxOf (l.getD (fB s p).toNat V0):Nat))) _ _;rw[e1];refine⟨fun _=>by rw[e2];exact⟨by omega,by show _<((gV x.1 (l.getD (fB s p).toNat V0)).length:Int);omega⟩,by omega,?_⟩;unfold Ee;rw[a0i (by omega)];exact a0V _
 |c::r,a,p,x,hr,ha,hx,hE=>by
  have aQ:a<o.length:=by
   have:=congrArg List.length hr;rw[a3H,a3S]at this;omega
  have hd:=a6q aQ;rw[hr]at hd;obtain⟨hc,wE⟩:=List.cons.inj hd;have Fv:c∈o:=by rw[hc];exact a4h aQ
  have qG:=ho c Fv;have hia:o.idxOf c=a:=by rw[hc];exact hn.idxOf_getElem a aQ
  have hz:=hs _ (dG (s:=s) (k:=c.toNat) (by have:=qG.1;have:=qG.2;omega));have mono:=fun(n:Nat) (m:Nat) (y:List Int×EN)=>(dD (g:=KU (oL s l r) c p) (m:=m) (k:=n) (s:=y) (fun _ z=>P6 y.2 z.2) P6.rfl (fun j z _ _ hz=>hz.trans (Zx r _ z.2)));have hEf:(aT (KU (oL s l r) c p) (s.getD c.toNat 0).toNat 0 ([],x)).2.1.length<2^61:=hE;have inv:=dD (g:=KU (oL s l r) c p) (m:=(s.getD c.toNat 0).toNat) (k:=0) (s:=([],x)) (fun k y=>y.1.length=k∧(y.2.1.length<2^61->PtV s o y.2∧∀j:Nat,j<k->BF o y.2 (y.1.getD j 0) y.2.2.length (a+1))) ⟨rfl,fun _=>⟨hx,fun j hj=>by omega⟩⟩ (fun j y _ hj hy=>by
   obtain⟨y1,y2⟩:=hy;refine⟨by simp[KU,y1],fun hE=>?_⟩;have Iw:=Zx (s:=s) (l:=l) r (p.set c.toNat j) y.2;have hE:(oL s l r (p.set c.toNat j) y.2).2.1.length<2^61:=hE;obtain⟨v1,v2⟩:=y2 (by have:=Iw.1.length_le;omega);obtain⟨w1,w2⟩:=a7d hs ho hn r (a+1) (p.set c.toNat j) y.2 wE.symm aQ v1 hE;refine⟨w1,fun j' Eb=>?_⟩;by_cases e:j'<j
   .have:(KU (oL s l r) c p j y).1.getD j' 0=y.1.getD j' 0:=by
     show(y.1++_).getD j' 0=_;simp[List.getD,a0c (show j'<y.1.length by omega)]
    rw[this];exact(v2 j' e).mono Iw Iw.2.length_le (a0V _) (a0V _)
   have e:j'=j:=(by omega);subst e;have:(KU (oL s l r) c p j' y).1.getD j' 0=(oL s l r (p.set c.toNat j') y.2).1:=by
    show(y.1++[_]).getD j' 0=_;simp[List.getD,<-y1]
   rw[this];exact w2)
  rw[a3O]at inv;simp only[oL];generalize aT (KU (oL s l r) c p) (s.getD c.toNat 0).toNat 0 ([],x)=y at inv hEf;obtain⟨ks,E,N⟩:=y;obtain⟨hlen,inv⟩:=inv;obtain⟨i1,i2⟩:=inv hEf;have hlen:ks.length=(s.getD c.toNat 0).toNat:=hlen;have i2:∀j:Nat,j<(s.getD c.toNat 0).toNat->BF o (E,N) (ks.getD j 0) N.length (a+1):=i2;have Iw:P6 (E,N) (E,uS N c ks):=⟨a4r,Xu N c ks⟩;show PtV s o (E,uS N c ks)∧BF o (E,uS N c ks) (UC N c ks) (uS N c ks).length a;by_cases hf:(ks.all fun x=>x==ks.getD 0 0)=true
  .rw[show UC N c ks=ks.getD 0 0 from a0i hf,show uS N c ks=N from a0i hf];exact⟨i1,(i2 0 (by omega)).mono P6.rfl (a0V _) (a0V _) (by omega)⟩
  obtain⟨g1,g2⟩:=aal (N:=N) (c:=c) hf;rw[show UC N c ks=(N.idxOf (⟨c,ks⟩:Br):Nat)from a0g hf];have Kt:a<=Ee o (uS N c ks) ((N.idxOf (⟨c,ks⟩:Br):Nat):Int):=by
   unfold Ee;rw[a0g (by omega),a4v,g2];show a<=o.idxOf c;omega
  refine⟨?_,⟨fun h=>by omega,by omega,Kt⟩⟩;by_cases hm:(⟨c,ks⟩:Br)∈N
  .rw[show uS N c ks=N by unfold uS;rw[a0g hf,a0i hm]];exact i1
  have eN:uS N c ks=N++[⟨c,ks⟩]:=by unfold uS;rw[a0g hf,a0g hm]
  rw[eN]at Iw ⊢;have hold:∀i,i<N.length->(N++[(⟨c,ks⟩:Br)]).getD i kN=N.getD i kN:=fun i hi=>Hq (a8u _ _) hi;have fQ:(N++[(⟨c,ks⟩:Br)]).getD N.length kN=⟨c,ks⟩:=by simp[List.getD]
  have uV:∀i,i<(N++[(⟨c,ks⟩:Br)]).length->i<N.length∨i=N.length:=fun i hi=>by
   rw[a1X,a3P]at hi;omega
  refine⟨fun i hi=>?_,fun i hi=>?_,fun i hi k hk=>?_⟩
  .show gQ ((N++[(⟨c,ks⟩:Br)]).getD i kN).var s.length;rcases uV i hi with h|rfl
   .rw[hold i h];exact i1.var i h
   rw[fQ];exact qG
  .show(((N++[(⟨c,ks⟩:Br)]).getD i kN).aA.length:Int)=s.getD ((N++[(⟨c,ks⟩:Br)]).getD i kN).var.toNat 0;rcases uV i hi with h|rfl
   .rw[hold i h];exact i1.ksz i h
   rw[fQ];show(ks.length:Int)=s.getD c.toNat 0;omega
  have hk:k<((N++[(⟨c,ks⟩:Br)]).getD i kN).aA.length:=hk;show BF o (E,N++[(⟨c,ks⟩:Br)]) (((N++[(⟨c,ks⟩:Br)]).getD i kN).aA.getD k 0) i (o.idxOf ((N++[(⟨c,ks⟩:Br)]).getD i kN).var+1);rcases uV i hi with h|rfl
  .rw[hold i h]at hk ⊢;exact(i1.zy i h k hk).mono Iw (a0V _) (a8S h) (a0V _)
  rw[fQ]at hk ⊢;have hk:k<ks.length:=hk;exact(i2 k (by omega)).mono Iw (a0V _) (a0V _) (by show o.idxOf c+1<=a+1;omega)
open Go Tw Pv cO
theorem Mc(d:Dg)(v:Int):tV d v=(Ee d.aG d.aj v:Int):=by
 unfold tV Ee;by_cases c:v<0
 .rw[a0i (by simpa using c),a0i c]
 rw[a0g (by simpa using c),a0g c];have hs:=a6Y (l:=d.aG) (d:=0) (a:=(au d v).var) (c:=OJ d v) (fun k _=>by unfold OJ;rw[a4i];simp);by_cases hm:(au d v).var∈d.aG
 .rw[hs.1 hm];rfl
 rw[a0i (hs.2 hm),a8s hm]
theorem Sr{d:Dg}(hm:d.aI.length<=ah)(hf:(bU d.ay d.aG != 0)=false)(hv:∀v∈d.aI,vOk v=true)(hn:d.aj.length<=6000)(hp:PtV d.ay d.aG (d.aI,d.aj))(hr:BF d.aG (d.aI,d.aj) d.root d.aj.length 0):aW d=0:=by
 obtain⟨dw,P7⟩:=jJ.1 (show bU d.ay d.aG=0 by simpa using hf);have ajZ:∀(v:Int) (b a:Nat),BF d.aG (d.aI,d.aj) v b a->iJ d v b=true:=fun v b a h=>by
  unfold iJ;split
  .simpa using h.2.1
  rename_i c;have c:v<0:=by simpa using c
  have:=h.1 c;have e:i64.wrap ((d.aI.length:Int)-1)=(d.aI.length:Int)-1:=by unfold ah at hm;rw[eP (by omega) (by omega)]
  rw[uh,e];have h2:=this.2;have h2:jB v<(d.aI.length:Int):=h2;exact⟨this.1,by show jB v<=_;omega⟩
 have hl:lu d=true:=by
  unfold lu;rw[a0i (dL.2 fun j hj=>by
   rw[cLe,hv _ (by simp[List.getD,a0b hj])];rfl),a0i (dL.2 fun i hi=>?_)]
  .exact ajZ _ _ _ hr
  have h1:=hp.var i hi;have h2:=hp.ksz i hi;have h3:=hp.zy i hi;have h1:gQ (fC d i).var d.ay.length:=h1;have h2:((fC d i).aA.length:Int)=d.ay.getD (fC d i).var.toNat 0:=h2;have e:xw d.ay=(d.ay.length:Int)-1:=by
   have:=dw.len;unfold xw;rw[eP (by omega) (by omega)]
  unfold Zr;rw[a0g,a0g (by rw[h2];simp),a0i]
  .refine dL.2 fun k hk=>?_;have h4:=h3 k hk;unfold cLk;rw[a0g (by rw[ajZ _ _ _ h4];simp),a2H,Mc,Mc];have h5:=h4.2.2;have e6:Ee d.aG d.aj ((i:Nat):Int)=d.aG.idxOf (fC d i).var:=by unfold Ee;rw[a0g (by omega),a4v]
   rw[e6];have h5:d.aG.idxOf (fC d i).var+1<=Ee d.aG d.aj ((d.aj.getD i kN).aA.getD k 0):=h5;omega
  have:mG (fC d i).var 0 (xw d.ay)=true:=by rw[uh,e];have:=h1.1;have:=h1.2;exact⟨by omega,by omega⟩
  rw[this];simp
 unfold aW;rw[a0g (by rw[hf];simp),a0g (by rw[a1E];omega),a0g (by rw[hl];simp)]
structure OfP(s o:List Int)(l:List V):Prop where
 dw:rW s
 ord:jR s.length o=true
 len:(l.length:Int)=aY s
theorem OfP.p{s o:List Int}{l:List V}(h:OfP s o l):PtP s o l∧o.Nodup∧o.length=s.length:=by
 have ho:=h.ord;unfold jR at ho;rw[a1E]at ho;have:=h.dw.len;exact⟨⟨h.dw,fun c hc=>⟨(ho.2.1 c hc).1,(ho.2.1 c hc).2⟩,h.len,by unfold ah;omega,by unfold ah;omega⟩,ho.2.2,ho.1⟩
theorem Xw{s:List Int}{l:List V}:∀(r p:List Int) (x:EN),(∀q,l.getD (fB s q).toNat V0∈l∨True)->(∀q,gU s q=true->l.getD (fB s q).toNat V0∈l)->gU s p=true->(∀c∈r,gQ c s.length)->lZ s->(∀v∈x.1,v∈l)->∀v∈(oL s l r p x).2.1,v∈l
 | [],p,x,_,h,hp,_,_,hx,v,hv=>by
  have hv:v∈gV x.1 (l.getD (fB s p).toNat V0):=hv;unfold gV at hv;split at hv
  .exact hx v hv
  rcases a2X.1 hv with hv|hv
  .exact hx v hv
  rw[a2J.1 hv];exact h p hp
 |c::r,p,x,h0,h,hp,hr,hs,hx,v,hv=>by
  have hc:=hr c (by simp);have hz:=hs _ (dG (s:=s) (k:=c.toNat) (by have:=hc.1;have:=hc.2;omega));have:=dD (g:=KU (oL s l r) c p) (m:=(s.getD c.toNat 0).toNat) (k:=0) (s:=([],x)) (fun _ y=>∀v∈y.2.1,v∈l) hx (fun j y _ hj hy=>Xw r _ y.2 h0 h (X8 hp hc ⟨by omega,by omega⟩) (fun c hc=>hr c (by simp[hc])) hs hy);exact this v hv
theorem Zy{s o:List Int}{l:List V}(h:OfP s o l)(hv:∀v∈l,vOk v=true):aW (FC s o l)=0∧(FC s o l).aI.length<=2000∧(∀v∈(FC s o l).aI,v∈l)∧PtV s o ((FC s o l).aI,(FC s o l).aj)∧BF o ((FC s o l).aI,(FC s o l).aj) (FC s o l).root (FC s o l).aj.length 0:=by
 obtain⟨hP,hn,ho⟩:=h.p;have hz:=P5 h.dw.sz;have hm:=h.dw.many;have hlen:=a6X (l:=l) h.dw.sz o (List.replicate s.length 0) ([],[]) hP.ord;have hw:=FD h.dw.sz h.ord;have a1Z:∀q,gU s q=true->l.getD (fB s q).toNat V0∈l:=fun q hq=>by
  have:=pF hq h.dw.sz;have:=h.len;have aQ:(fB s q).toNat<l.length:=by omega
  simp[List.getD,a0b aQ]
 have nZ:=Xw o (List.replicate s.length 0) ([],[]) (fun _=>.inr trivial) a1Z hz hP.ord h.dw.sz (by simp);have VX:=a7d (l:=l) h.dw.sz hP.ord hn o 0 (List.replicate s.length 0) ([],[]) rfl (a4t _) ⟨fun i hi=>(by simp at hi),fun i hi=>(by simp at hi),fun i hi=>(by simp at hi)⟩ (by have:=hlen.1;simp at this;omega);have h1:(FC s o l).aI.length<=0+wO s o:=hlen.1;have h2:(FC s o l).aj.length+1<=0+wO s o:=hlen.2;refine⟨Sr (by unfold ah;omega) ?_ (fun v hv2=>hv v (nZ v hv2)) (by omega) VX.1 VX.2,by omega,nZ,VX.1,VX.2⟩;have:bU s o=0:=jJ.2 ⟨h.dw,h.ord⟩;show(bU s o != 0)=false;rw[this];rfl
open Go Tw Pv cO
def Kn(d:Dg)(x:Cs)(v:Int):Prop:=if v<0 then pI d v∈x.e else v∈x.k.map (·.1)
def uT(d:Dg)(x:Cs)(v:Int):Int:=if v<0 then i64.wrap (-1-(x.e.idxOf (pI d v):Nat))else Ux x.k v
def AB(x y:Cs):Prop:=x.e <+: y.e∧x.n <+: y.n∧x.k <+: y.k
theorem AB.rfl{x:Cs}:AB x x:=⟨a4r,a4r,a4r⟩
theorem AB.trans{x y z:Cs}(a:AB x y)(b:AB y z):AB x z:=⟨a.1.trans b.1,a.2.1.trans b.2.1,a.2.2.trans b.2.2⟩
theorem Kn.mono{d:Dg}{x y:Cs}{v:Int}(h:Kn d x v)(hp:AB x y):Kn d y v:=by
 unfold Kn at h ⊢;split
 .rename_i c;rw[a0i c]at h;exact hp.1.subset h
 rename_i c;rw[a0g c]at h;obtain⟨t,ht⟩:=hp.2.2;rw[<-ht,a3T,a2X];exact .inl h
theorem Sv{α:Type}[BEq α][LawfulBEq α]{a b:List α}{v:α}(h:v∈a)(hp:a <+: b):b.idxOf v=a.idxOf v:=by
 obtain⟨t,rfl⟩:=hp;rw[a9o,a0i h]
theorem a1x{a b:List (Int×Int)}{v:Int}(h:v∈a.map (·.1))(hp:a <+: b):Ux b v=Ux a v:=by
 obtain⟨t,rfl⟩:=hp;unfold Ux;rw[List.find?_append];cases e:a.find? fun p=>p.1==v with
 |none=>
  rw[a1d]at h;obtain⟨p,hp,rfl⟩:=h;have:=adl.1 e p hp;simp at this
 |some q=>rfl
theorem Sz{d:Dg}{x y:Cs}{v:Int}(h:Kn d x v)(hp:AB x y):uT d y v=uT d x v:=by
 unfold Kn at h;unfold uT;split
 .rename_i c;rw[a0i c]at h;rw[Sv h hp.1]
 rename_i c;rw[a0g c]at h;rw[a1x h hp.2.2]
theorem Xx{E:List V}{v:V}(h:v∈E):gV E v=E:=a0i h
theorem Ku(N:List Br)(c:Int)(ks:List Int):N <+: dh N c ks:=by
 unfold dh;split
 .exact a4r
 split
 .exact a4r
 exact a8u _ _
theorem Zz{N M:List Br}{c:Int}{ks:List Int}(h:dh N c ks=N)(hp:N <+: M):dh M c ks=M∧dZ M c ks=dZ N c ks:=by
 unfold dh at h ⊢;unfold dZ;by_cases hf:(ks.all fun x=>x==ks.getD 0 0)=true
 .rw[a0i hf,a0i hf,a0i hf];exact⟨rfl,rfl⟩
 rw[a0g hf]at h ⊢;rw[a0g hf,a0g hf];by_cases hm:tX c ks∈N.map BH
 .have hp2:N.map BH <+: M.map BH:=by obtain⟨t,rfl⟩:=hp;rw[a3T];exact a8u _ _
  rw[a0i (hp2.subset hm),Sv hm hp2];exact⟨rfl,rfl⟩
 rw[a0g hm]at h;have:=congrArg List.length h;simp at this
theorem a3k(N:List Br)(c:Int)(ks:List Int):dh (dh N c ks) c ks=dh N c ks∧dZ (dh N c ks) c ks=dZ N c ks:=by
 unfold dZ;by_cases hf:(ks.all fun x=>x==ks.getD 0 0)=true
 .rw[a0i hf,a0i hf];have:dh N c ks=N:=a0i hf;rw[this,this];exact⟨rfl,rfl⟩
 rw[a0g hf,a0g hf];by_cases hm:tX c ks∈N.map BH
 .have:dh N c ks=N:=by unfold dh;rw[a0g hf,a0i hm]
  rw[this,this];exact⟨rfl,rfl⟩
 have e:dh N c ks=N++[⟨c,ks⟩]:=by unfold dh;rw[a0g hf,a0g hm]
 have hm2:tX c ks∈(N++[(⟨c,ks⟩:Br)]).map BH:=by rw[a3T];simp
 have e2:dh (N++[⟨c,ks⟩]) c ks=N++[⟨c,ks⟩]:=by unfold dh;rw[a0g hf,a0i hm2]
 rw[e,e2];refine⟨rfl,?_⟩;rw[a3T,a9o,a0g hm,a8s hm];simp
abbrev aP(d:Dg)(v:Int):List Int:=(au d v).aA
def Xy(d:Dg)(x:Cs):Prop:=∀v∈x.k.map (·.1),(∀j,j<(aP d v).length->Kn d x ((aP d v).getD j 0))∧dZ x.n (au d v).var ((aP d v).map (uT d x))=Ux x.k v∧dh x.n (au d v).var ((aP d v).map (uT d x))=x.n
abbrev BI(d:Dg)(F:Nat)(r:Int)(j:Nat)(y:List Int×Cs):List Int×Cs:=(y.1.set j (bW d F ((aP d r).getD j 0) y.2).1,(bW d F ((aP d r).getD j 0) y.2).2)
theorem a7e{d:Dg}:∀(F:Nat) (r:Int) (x:Cs),AB x (bW d F r x).2
 | 0,_,x=>AB.rfl
 |F+1,r,x=>by
  unfold bW;split
  .exact⟨Az _ _,a4r,a4r⟩
  split
  .exact AB.rfl
  have:=dD (g:=BI d F r) (m:=(aP d r).length) (k:=0) (s:=(List.replicate (aP d r).length 0,x)) (fun _ y=>AB x y.2) AB.rfl (fun j y _ _ hy=>hy.trans (a7e F _ y.2));exact⟨this.1,this.2.1.trans (Ku _ _ _),this.2.2.trans (a8u _ _)⟩
theorem Md{d:Dg}{F:Nat}{v:Int}{x:Cs}(h:Kn d x v):bW d (F+1) v x=(uT d x v,x):=by
 unfold Kn at h;unfold bW uT;by_cases c:v<0
 .rw[a0i (by simpa using c),a0i c];rw[a0i c]at h;rw[Xx h]
 rw[a0g c]at h;rw[a0g (by simpa using c),a0i (by simpa using h),a0g c]
theorem P8{d:Dg}{x y:Cs}{ks:List Int}(h:∀j,j<ks.length->Kn d x (ks.getD j 0))(hp:AB x y):ks.map (uT d y)=ks.map (uT d x):=by
 refine a5H fun v hv=>?_;obtain⟨j,hj,rfl⟩:=aar hv;have:=h j hj;rw[List.getD,a0b hj]at this;exact Sz this hp
theorem Xy.a1y{d:Dg}{x y:Cs}{v:Int}(h:(∀j,j<(aP d v).length->Kn d x ((aP d v).getD j 0))∧dZ x.n (au d v).var ((aP d v).map (uT d x))=Ux x.k v∧dh x.n (au d v).var ((aP d v).map (uT d x))=x.n)(hv:v∈x.k.map (·.1))(hp:AB x y):(∀j,j<(aP d v).length->Kn d y ((aP d v).getD j 0))∧dZ y.n (au d v).var ((aP d v).map (uT d y))=Ux y.k v∧dh y.n (au d v).var ((aP d v).map (uT d y))=y.n:=by
 obtain⟨h1,h2,h3⟩:=h;rw[P8 h1 hp];obtain⟨g1,g2⟩:=Zz h3 hp.2.1;exact⟨fun j hj=>(h1 j hj).mono hp,by rw[g2,h2,a1x hv hp.2.2],g1⟩
theorem ZA{d:Dg}(h:Bj d):∀(F:Nat) (r:Int) (x:Cs),1<=F->r+1<F->ji d r d.aj.length->Di d x->Xy d x->Xy d (bW d F r x).2∧Kn d (bW d F r x).2 r∧uT d (bW d F r x).2 r=(bW d F r x).1
 | 0,r,x,h1,_,_,_,_=>by omega
 |F+1,r,x,_,hF,hr,hx,hi=>by
  by_cases c:r<0
  .have e:bW d (F+1) r x=(i64.wrap (-1-(x.e.idxOf (pI d r):Nat)),⟨gV x.e (pI d r),x.n,x.k⟩):=by unfold bW;rw[a0i (by simpa using c)]
   rw[e];have hp:AB x ⟨gV x.e (pI d r),x.n,x.k⟩:=⟨Az _ _,a4r,a4r⟩;refine⟨fun v hv=>Xy.a1y (hi v hv) hv hp,?_,?_⟩
   .unfold Kn;rw[a0i c];show pI d r∈gV x.e (pI d r);unfold gV;split
    .assumption
    simp
   unfold uT;rw[a0i c];show i64.wrap (-1-((gV x.e (pI d r)).idxOf (pI d r):Nat))=_;congr 3;unfold gV;split
   .rfl
   rename_i hn;rw[a9o,a0g hn,a8s hn];simp
  by_cases c2:r∈x.k.map (·.1)
  .have hk:Kn d x r:=by unfold Kn;rw[a0g c];exact c2
   rw[Md hk];exact⟨hi,hk,rfl⟩
  have aQ:r.toNat<d.aj.length:=by have:=hr.1;omega
  have BD:∀k,k<(aP d r).length->(aP d r).getD k 0<r:=fun k mO=>by
   have h9:=(h.zy r.toNat aQ k mO).1;have h9:(aP d r).getD k 0<(r.toNat:Int):=h9;omega
  have Kt:∀j,j<(aP d r).length->ji d ((aP d r).getD j 0) d.aj.length:=fun j hj=>⟨by have:=BD j hj;have:=hr.1;omega,(h.zy r.toNat aQ j hj).2⟩;have inv:=dD (g:=BI d F r) (m:=(aP d r).length) (k:=0) (s:=(List.replicate (aP d r).length 0,x)) (fun k y=>(y.1.length=(aP d r).length∧AB x y.2)∧(Di d y.2∧r∉y.2.k.map (·.1))∧Xy d y.2∧∀j,j<k->Kn d y.2 ((aP d r).getD j 0)∧uT d y.2 ((aP d r).getD j 0)=y.1.getD j 0) ⟨⟨by simp,AB.rfl⟩,⟨hx,c2⟩,hi,fun j hj=>by omega⟩ (fun j y _ hj hy=>by
   obtain⟨⟨y1,y2⟩,⟨y3,y4⟩,y5,y6⟩:=hy;have hj:j<(aP d r).length:=(by omega);have hp:=a7e (d:=d) F ((aP d r).getD j 0) y.2;obtain⟨z1,z2,z3⟩:=ZA h F ((aP d r).getD j 0) y.2 (by omega) (by have:=BD j hj;omega) (Kt j hj) y3 y5;refine⟨⟨by simp[BI,y1],y2.trans hp⟩,⟨OV h F _ y.2 y3 (Kt j hj),Xk F _ r y.2 (BD j hj) y4 (by omega) (fun i hi k hk=>(h.zy i hi k hk).1) (fun h5=>⟨h5,(Kt j hj).1⟩)⟩,z1,fun j' Eb=>?_⟩;by_cases e:j'=j
   .subst e;refine⟨z2,?_⟩;rw[z3];show(bW d F ((aP d r).getD j' 0) y.2).1=(y.1.set j' (bW d F ((aP d r).getD j' 0) y.2).1).getD j' 0;generalize (bW d F ((aP d r).getD j' 0) y.2).1=z;simp[List.getD,a1V (show j'<y.1.length by omega)]
   obtain⟨a1,a2⟩:=y6 j' (by omega);refine⟨a1.mono hp,?_⟩;rw[Sz a1 hp,a2];show _=(y.1.set j (bW d F ((aP d r).getD j 0) y.2).1).getD j' 0;generalize (bW d F ((aP d r).getD j 0) y.2).1=z;simp[List.getD,a1g (Ne.symm e)])
  rw[a3O]at inv;have e:bW d (F+1) r x=(dZ (aT (BI d F r) (aP d r).length 0 (List.replicate (aP d r).length 0,x)).2.n (au d r).var (aT (BI d F r) (aP d r).length 0 (List.replicate (aP d r).length 0,x)).1,⟨(aT (BI d F r) (aP d r).length 0 (List.replicate (aP d r).length 0,x)).2.e,dh (aT (BI d F r) (aP d r).length 0 (List.replicate (aP d r).length 0,x)).2.n (au d r).var (aT (BI d F r) (aP d r).length 0 (List.replicate (aP d r).length 0,x)).1,(aT (BI d F r) (aP d r).length 0 (List.replicate (aP d r).length 0,x)).2.k++[(r,dZ (aT (BI d F r) (aP d r).length 0 (List.replicate (aP d r).length 0,x)).2.n (au d r).var (aT (BI d F r) (aP d r).length 0 (List.replicate (aP d r).length 0,x)).1)]⟩):=by
   rw[bW,a0g (by simpa using c),a0g (by simpa using c2)]
  rw[e];generalize aT (BI d F r) (aP d r).length 0 (List.replicate (aP d r).length 0,x)=y at inv;obtain⟨ks,y⟩:=y;obtain⟨⟨y1,y2⟩,⟨y3,y4⟩,y5,y6⟩:=inv;have y1:ks.length=(aP d r).length:=y1;have y4:r∉y.k.map (·.1):=y4;have hp:AB y ⟨y.e,dh y.n (au d r).var ks,y.k++[(r,dZ y.n (au d r).var ks)]⟩:=⟨a4r,Ku _ _ _,a8u _ _⟩;have Et:(aP d r).map (uT d y)=ks:=by
   refine aa0 (by simp[y1]) fun j j1 j2=>?_;have hj:j<(aP d r).length:=(by omega);have:=(y6 j hj).2;rw[List.getD,List.getD,a0b hj,a0b j2]at this;simpa using this
  have fQ:Ux (y.k++[(r,dZ y.n (au d r).var ks)]) r=dZ y.n (au d r).var ks:=by
   unfold Ux;rw[List.find?_append];have:(y.k.find? fun p=>p.1==r)=none:=adl.2 fun p hp=>by
    simp only[a6v];intro e2;exact y4 (a1d.2 ⟨p,hp,e2⟩)
   rw[this];simp
  obtain⟨g1,g2⟩:=a3k y.n (au d r).var ks;refine⟨fun v hv=>?_,?_,?_⟩
  .have hv:v∈(y.k++[(r,dZ y.n (au d r).var ks)]).map (·.1):=hv;rw[a3T,a2X]at hv;rcases hv with hv|hv
   .exact Xy.a1y (y5 v hv) hv hp
   have hv:v=r:=(by simpa using hv);subst hv;refine⟨fun j hj=>(y6 j hj).1.mono hp,?_,?_⟩
   .rw[P8 (fun j hj=>(y6 j hj).1) hp,Et];show dZ (dh y.n (au d v).var ks) _ ks=Ux (y.k++[(v,dZ y.n (au d v).var ks)]) v;rw[g2,fQ]
   rw[P8 (fun j hj=>(y6 j hj).1) hp,Et];exact g1
  .unfold Kn;rw[a0g c];show r∈(y.k++[(r,dZ y.n (au d r).var ks)]).map (·.1);simp
  unfold uT;rw[a0g c];exact fQ
end Go.Proofs.YtmobpoiejckagaaGreat
