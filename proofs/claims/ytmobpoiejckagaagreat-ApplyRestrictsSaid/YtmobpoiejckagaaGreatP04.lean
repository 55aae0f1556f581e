/- Part 5 of a proof: Any diagram with any digit for any choice is the document's, or the error is; for all diagrams, choices and digits. -/
import Derived.Test.YtmobpoiejckagaaGreatP03
set_option linter.constructorNameAsVariable false
set_option linter.unusedVariables false
set_option linter.unusedSimpArgs false
set_option linter.unusedSectionVars false
open Go.IntKind (i64)
noncomputable section
namespace Go.Proofs.YtmobpoiejckagaaGreat
open Go Tw Pv
def abY:fA aC:=cO 219 (a1 iA) tA (fun p=>UE p) np (a9L (X:=X0))
theorem aiE:Gd abY:=Good.nil.add fun n hO p hp=>aO hO .rr
def abZ:fA aC:=cO 141 (a1 uA) vA (fun p=>Ht p) np abY
theorem aiF:Gd abZ:=aiE.add fun n hO p hp=>aO hO .rr
def ac0:fA aC:=cO 140 (a3 iA iA pK) tA (fun p=>zo p.2.2 p.1 p.2.1) (fun p=>[p.2.2.length<=ah]) abZ
theorem aiG:Gd ac0:=aiF.deep 3 fun n hn hO p hp=>by
 have h1:∀x,aU X0 Qp (bQ (n-3+1)) (.fn 182 [] [.ptr 0 0 1,.ptr 1 0 1]) [.int .i64 x] [.cells [.int .i64 p.1],.cells [.int .i64 p.2.1]] (tA.put (wR x p.1 p.2.1)) [.cells [.int .i64 p.1],.cells [.int .i64 p.2.1]]:=fun x=>jh gG (first:=[]) (.ssh (fun _=>.sr) (fun _=>.sr));obtain⟨n,rfl⟩:∃k,n=k+3:=⟨n-3,by omega⟩;rw[show n+3-3+1=n+1 by omega]at h1;have h2:=aiB (n:=n+2) (by omega) (g:=fun x=>wR x p.1 p.2.1) h1 p.2.2 (hp _ (.head _));exact aO (hO _ (by omega)) (.k h2 (.v (!(mW (fun x=>wR x p.1 p.2.1) p.2.2)) (by rw[Eh];rfl)))
theorem nan(x:Int):UE x=false:=by simp[UE]
def ac1:fA aC:=cO 154 (a1 vA) tA (fun p=>Di p) np ac0
theorem aiH:Gd ac1:=aiG.add fun n hO p hp=>aO hO (.ss (.o le1 .rr) (.ss .rr .rr))
def ac2:fA aC:=cO 100 (a1 iA) vA (fun p=>oJ p) np ac1
theorem aiI:Gd ac2:=aiH.add fun n hO p hp=>aO hO (.o le1 (.ss .rr .rr))
def ac3:fA aC:=cO 186 (a1 tA) vA (fun p=>OJ p) np ac2
theorem aiJ:Gd ac3:=aiI.add fun n hO p hp=>aO hO (.ss .rr .rr)
def ac4:fA aC:=cO 156 (a1 vA) tA (fun p=>nU p) np ac3
theorem aiK:Gd ac4:=aiJ.add fun n hO p hp=>aO hO .rr
def ac5:fA aC:=cO 153 (a1 vA) tA (fun p=>Au p) np ac4
theorem aiL:Gd ac5:=aiK.add fun n hO p hp=>aO hO .rr
def ac6:fA aC:=cO 142 (a2 iA iA) vA (fun p=>Jf p.1 p.2) np ac5
theorem aiM:Gd ac6:=aiL.add fun n hO p hp=>aO hO .rr
def ac7:fA aC:=cO 143 (a2 iA iA) vA (fun p=>Jg p.1 p.2) np ac6
theorem aiN:Gd ac7:=aiM.add fun n hO p hp=>aO hO .rr
def ac8:fA aC:=cO 144 (a2 iA iA) vA (fun p=>Jh p.1 p.2) np ac7
theorem aiO:Gd ac8:=aiN.add fun n hO p hp=>aO hO .rr
def ac9:fA aC:=cO 146 (a2 iA iA) iA (fun p=>Dj p.1 p.2) np ac8
theorem aiP:Gd ac9:=aiO.add fun n hO p hp=>aO hO .rr
def acd:fA aC:=cO 147 (a2 iA iA) iA (fun p=>Dk p.1 p.2) np ac9
theorem aiQ:Gd acd:=aiP.add fun n hO p hp=>aO hO .rr
def ace:fA aC:=cO 149 (a1 iA) tA (fun p=>Dl p) np acd
theorem aiR:Gd ace:=aiQ.add fun n hO p hp=>aO hO .rr
def acf:fA aC:=cO 150 (a1 iA) tA (fun p=>Dn p) np ace
theorem aiS:Gd acf:=aiR.add fun n hO p hp=>aO hO .rr
def acg:fA aC:=cO 151 (a1 iA) tA (fun p=>Dq p) np acf
theorem aiT:Gd acg:=aiS.add fun n hO p hp=>aO hO .rr
def ach:fA aC:=cO 184 (a2 iA iA) (dR (a2 iA iA)) (fun p=>uF p.1 p.2) (fun p=>[p.2≠0]) acg
theorem aiU:Gd ach:=aiT.add fun n hO p hp=>aO hO (.o (hp _ (.head _)) (.o (hp _ (.head _)) (.ss (.ss .rr .rr) .rr)))
def aci:fA aC:=cO 187 (a2 iA iA) iA (fun p=>Je p.1 p.2) np ach
theorem aiV:Gd aci:=aiU.add fun n hO p hp=>aO hO (.b (nan p.1) (.b (nan p.2) (.ss .rr (.ss .rr .rr))))
theorem aoD{n:Nat}{fP:fA aC}(hO:Ok n fP)(ho:∀x:V,fP 156 [.agg x.ps]=some (.bool (nU x),[],[]))(H:List (PB aC))(x:V):aU X0 Qp (bQ n) (.fn 156 [] []) [.agg x.ps] H (.bool (nU x)) H:=
 ML hX hO (first:=[]) (cap:=[]) (vs:=[.agg x.ps]) (v:=.bool (nU x)) rfl (ho x) (fun p h=>by cases h) rfl
theorem aoE{n:Nat}{fP:fA aC}(hO:Ok n fP)(ho:∀x:V,fP 153 [.agg x.ps]=some (.bool (Au x),[],[]))(H:List (PB aC))(x:V):aU X0 Qp (bQ n) (.fn 153 [] []) [.agg x.ps] H (.bool (Au x)) H:=
 ML hX hO (first:=[]) (cap:=[]) (vs:=[.agg x.ps]) (v:=.bool (Au x)) rfl (ho x) (fun p h=>by cases h) rfl
def acj:fA aC:=cO 103 (a1 vsA) (dR (a2 vA tA)) (fun p=>bT p) (fun p=>[p.length<=ah]) aci
theorem aiW:Gd acj:=aiV.deep 2 fun n hn hO p hp=>by
 have hs:=aiD (n:=n-1) (H:=[]) (g:=fun v=>nU v) (aoD (hO (n-1) (by omega)) (fun _=>rfl) []) p (hp _ (.head _));rw[show n-1+1=n by omega]at hs;exact aO (hO n (by omega)) (.k hs (.sh (fun h=>.rr) (fun h=>.o (show fK (iH (fun v=>nU v) p) p.length from⟨by simpa using h,Qv _ _⟩) .rr)))
def acn:fA aC:=cO 102 (a1 vsA) tA (fun p=>iy p) (fun p=>[p.length<=ah]) acj
theorem aiX:Gd acn:=aiW.deep 3 fun n hn hO p hp=>by
 have hs:=aeT (n:=n-1) (by omega) (H:=[]) (g:=fun v=>Au v) (aoE (hO (n-2) (by omega)) (fun _=>rfl) []) p (hp _ (.head _));rw[show n-1+1=n by omega]at hs;exact aO (hO n (by omega)) (.k hs (.v (!(qj (fun v=>Au v) p)) (by rw[Jd];rfl)))
def aiY:fA aC:=cO 99 (a3 vA vA vA) (dR (a2 vA iA)) (fun p=>jH p.1 p.2.1 p.2.2) np acn
theorem aoF:Gd aiY:=aiX.add fun n hO p hp=>aO hO (.o le3 (.ss .rr (.ss .rr (.ss .rr .rr))))
def aiZ:Arg Nat where
 put f:=.fn f [] []
 get v:=match v with
  |.fn g [] []=>some g
  |_=>none
 ok:=by
  intro v a hg A m h x hv;split at hg
  .cases hg;exact hv
  .cases hg
def aco:fA aC:=ZC 145 (a1 aiZ) (fun _=>.fn 183 [] [.ptr 0 0 1]) (fun g=>[.cells [.fn g [] []]]) np aiY
theorem aj0:Gd aco:=aoF.X6 0 fun n _ hO p hp=>BA hX (hO n (by omega)) (by kernel_rfl) .er
def acp:fA aC:=ZC 148 (a1 aiZ) (fun _=>.fn 185 [] [.ptr 0 0 1]) (fun g=>[.cells [.fn g [] []]]) np aco
theorem aj1:Gd acp:=aj0.X6 0 fun n _ hO p hp=>BA hX (hO n (by omega)) (by kernel_rfl) .er
def aoG(p:Int):PV aC:=if p=7 then .fn 142 [] []else if p=8 then .fn 143 [] []else if p=9 then .fn 144 [] []else if p=10 then .fn 183 [] [.ptr 0 0 1]else if p=11 then .fn 183 [] [.ptr 0 0 1]else .fn 185 [] [.ptr 0 0 1]
def aoH(p:Int):List (PB aC):=if p=10 then [.cells [.fn 146 [] []]]else if p=11 then [.cells [.fn 147 [] []]]else if p=12 then [.cells [.fn 149 [] []]]else if p=13 then [.cells [.fn 150 [] []]]else if p=14 then [.cells [.fn 151 [] []]]else []
def OW:fA aC:=ZC 101 (a1 uA) aoG aoH (fun p=>[7<=p∧p<=14]) acp
theorem seven{p:Int}(h:7<=p∧p<=14):p=7∨p=8∨p=9∨p=10∨p=11∨p=12∨p=13∨p=14:=by omega
theorem aj2:Gd OW:=aj1.X6 0 fun n _ hO p hp=>by
 rcases seven (hp _ (.head _))with rfl|rfl|rfl|rfl|rfl|rfl|rfl|rfl
 .exact BA hX (hO n (by omega)) (by kernel_rfl) (.b (rfl:true=true) .er)
 .exact BA hX (hO n (by omega)) (by kernel_rfl) (.b (rfl:false=false) (.b (rfl:true=true) .er))
 .exact BA hX (hO n (by omega)) (by kernel_rfl) (.b (rfl:false=false) (.b (rfl:false=false) (.b (rfl:true=true) .er)))
 .exact BA hX (hO n (by omega)) (by kernel_rfl) (.b (rfl:false=false) (.b (rfl:false=false) (.b (rfl:false=false) (.b (rfl:true=true) .er))))
 .exact BA hX (hO n (by omega)) (by kernel_rfl) (.b (rfl:false=false) (.b (rfl:false=false) (.b (rfl:false=false) (.b (rfl:false=false) (.b (rfl:true=true) .er)))))
 .exact BA hX (hO n (by omega)) (by kernel_rfl) (.b (rfl:false=false) (.b (rfl:false=false) (.b (rfl:false=false) (.b (rfl:false=false) (.b (rfl:false=false) (.b (rfl:true=true) .er))))))
 .exact BA hX (hO n (by omega)) (by kernel_rfl) (.b (rfl:false=false) (.b (rfl:false=false) (.b (rfl:false=false) (.b (rfl:false=false) (.b (rfl:false=false) (.b (rfl:false=false) (.b (rfl:true=true) .er)))))))
 .exact BA hX (hO n (by omega)) (by kernel_rfl) (.b (rfl:false=false) (.b (rfl:false=false) (.b (rfl:false=false) (.b (rfl:false=false) (.b (rfl:false=false) (.b (rfl:false=false) (.b (rfl:false=false) (.b (rfl:true=true) .er))))))))
theorem a9V{n:Nat}(hO:Ok n OW)(a b:V)(x y:Int):aU X0 Qp (bQ (n+1)) (.fn 183 [] [.ptr 0 0 1]) [.int .i64 x,.int .i64 y] [.cells [.fn 146 [] []],.list true true 39 [a,b],.list true true 39 [a,b]] (vA.put (iI Dj x y)) [.cells [.fn 146 [] []],.list true true 39 [a,b],.list true true 39 [a,b]]:=
 jh hO (first:=[]) (.ssh (fun _=>.sr) (fun h=>.o (show y≠0 by simpa using h) .sr))
theorem a9W{n:Nat}(hO:Ok n OW)(a b:V)(x y:Int):aU X0 Qp (bQ (n+1)) (.fn 183 [] [.ptr 0 0 1]) [.int .i64 x,.int .i64 y] [.cells [.fn 147 [] []],.list true true 39 [a,b],.list true true 39 [a,b]] (vA.put (iI Dk x y)) [.cells [.fn 147 [] []],.list true true 39 [a,b],.list true true 39 [a,b]]:=
 jh hO (first:=[]) (.ssh (fun _=>.sr) (fun h=>.o (show y≠0 by simpa using h) .sr))
theorem a9X{n:Nat}(hO:Ok n OW)(a b:V)(x y:Int):aU X0 Qp (bQ (n+1)) (.fn 185 [] [.ptr 0 0 1]) [.int .i64 x,.int .i64 y] [.cells [.fn 149 [] []],.list true true 39 [a,b],.list true true 39 [a,b]] (vA.put (dS Dl x y)) [.cells [.fn 149 [] []],.list true true 39 [a,b],.list true true 39 [a,b]]:=
 jh hO (first:=[]) .sr
theorem a9Y{n:Nat}(hO:Ok n OW)(a b:V)(x y:Int):aU X0 Qp (bQ (n+1)) (.fn 185 [] [.ptr 0 0 1]) [.int .i64 x,.int .i64 y] [.cells [.fn 150 [] []],.list true true 39 [a,b],.list true true 39 [a,b]] (vA.put (dS Dn x y)) [.cells [.fn 150 [] []],.list true true 39 [a,b],.list true true 39 [a,b]]:=
 jh hO (first:=[]) .sr
theorem a9Z{n:Nat}(hO:Ok n OW)(a b:V)(x y:Int):aU X0 Qp (bQ (n+1)) (.fn 185 [] [.ptr 0 0 1]) [.int .i64 x,.int .i64 y] [.cells [.fn 151 [] []],.list true true 39 [a,b],.list true true 39 [a,b]] (vA.put (dS Dq x y)) [.cells [.fn 151 [] []],.list true true 39 [a,b],.list true true 39 [a,b]]:=
 jh hO (first:=[]) .sr
def aj3:fA aC:=cO 45 (a3 uA vA vA) (dR (a2 vA iA)) (fun p=>Hu p.1 p.2.1 p.2.2) (fun p=>[7<=p.1∧p.1<=16]) OW
theorem aoI:Gd aj3:=aj2.deep 1 fun n hn hO p hp=>by
 obtain⟨n,rfl⟩:∃k,n=k+1:=⟨n-1,by omega⟩;have Az:=hO n (by omega);have hO:=hO (n+1) (by omega);obtain⟨k,a,b⟩:=p;rcases nine (show 7<=k∧k<=16 from hp _ (.head _))with rfl|rfl|rfl|rfl|rfl|rfl|rfl|rfl|rfl|rfl
 .have:nZ X0 Qp (bQ (n+1+1)) 45 ((a3 uA vA vA).put (7,a,b)) ((dR (a2 vA iA)).put (rJ a b)) []:=aO hO (.b (rfl:false=false) (.b (rfl:false=false) (.o (by decide:(7:Int)<=7∧(7:Int)<=14) (.b (rfl:false=false) (.o Yu (.ss .rr (.o Yu (.ss .rr .rr))))))));exact this
 .have:nZ X0 Qp (bQ (n+1+1)) 45 ((a3 uA vA vA).put (8,a,b)) ((dR (a2 vA iA)).put (rM a b)) []:=aO hO (.b (rfl:false=false) (.b (rfl:false=false) (.o (by decide:(7:Int)<=8∧(8:Int)<=14) (.b (rfl:false=false) (.o Yu (.ss .rr (.o Yu (.ss .rr .rr))))))));exact this
 .have:nZ X0 Qp (bQ (n+1+1)) 45 ((a3 uA vA vA).put (9,a,b)) ((dR (a2 vA iA)).put (rO a b)) []:=aO hO (.b (rfl:false=false) (.b (rfl:false=false) (.o (by decide:(7:Int)<=9∧(9:Int)<=14) (.b (rfl:false=false) (.o Yu (.ss .rr (.o Yu (.ss .rr .rr))))))));exact this
 .have:nZ X0 Qp (bQ (n+1+1)) 45 ((a3 uA vA vA).put (10,a,b)) ((dR (a2 vA iA)).put (oK a b)) []:=aO hO (.b (rfl:false=false) (.b (rfl:false=false) (.o (by decide:(7:Int)<=10∧(10:Int)<=14) (.b (rfl:false=false) (.o Yu (.ss .rr (.o Yu (.ss .rr (.k (a9V Az a b a.n b.n) .rr)))))))));exact this
 .have:nZ X0 Qp (bQ (n+1+1)) 45 ((a3 uA vA vA).put (11,a,b)) ((dR (a2 vA iA)).put (oL a b)) []:=aO hO (.b (rfl:false=false) (.b (rfl:false=false) (.o (by decide:(7:Int)<=11∧(11:Int)<=14) (.b (rfl:false=false) (.o Yu (.ss .rr (.o Yu (.ss .rr (.k (a9W Az a b a.n b.n) .rr)))))))));exact this
 .have:nZ X0 Qp (bQ (n+1+1)) 45 ((a3 uA vA vA).put (12,a,b)) ((dR (a2 vA iA)).put (oM a b)) []:=aO hO (.b (rfl:false=false) (.b (rfl:false=false) (.o (by decide:(7:Int)<=12∧(12:Int)<=14) (.b (rfl:false=false) (.o Yu (.ss .rr (.o Yu (.ss .rr (.k (a9X Az a b a.n b.n) .rr)))))))));exact this
 .have:nZ X0 Qp (bQ (n+1+1)) 45 ((a3 uA vA vA).put (13,a,b)) ((dR (a2 vA iA)).put (oN a b)) []:=aO hO (.b (rfl:false=false) (.b (rfl:false=false) (.o (by decide:(7:Int)<=13∧(13:Int)<=14) (.b (rfl:false=false) (.o Yu (.ss .rr (.o Yu (.ss .rr (.k (a9Y Az a b a.n b.n) .rr)))))))));exact this
 .have:nZ X0 Qp (bQ (n+1+1)) 45 ((a3 uA vA vA).put (14,a,b)) ((dR (a2 vA iA)).put (oO a b)) []:=aO hO (.b (rfl:false=false) (.b (rfl:false=false) (.o (by decide:(7:Int)<=14∧(14:Int)<=14) (.b (rfl:false=false) (.o Yu (.ss .rr (.o Yu (.ss .rr (.k (a9Z Az a b a.n b.n) .rr)))))))));exact this
 .have:nZ X0 Qp (bQ (n+1+1)) 45 ((a3 uA vA vA).put (15,a,b)) ((dR (a2 vA iA)).put (sW a b)) []:=aO hO (.b (rfl:true=true) .rr);exact this
 .have:nZ X0 Qp (bQ (n+1+1)) 45 ((a3 uA vA vA).put (16,a,b)) ((dR (a2 vA iA)).put (tC a b)) []:=aO hO (.b (rfl:false=false) (.b (rfl:true=true) .rr));exact this
open Go Tw Pv dw
def aj6:fA aC:=cO 23 (a3 iA iA iA) tA (fun p=>jP p.1 p.2.1 p.2.2) np aj3
theorem aoJ:Gd aj6:=aoI.add fun n hO p hp=>aO hO (.ss .rr .rr)
abbrev KH(a b:List Int)(k:Nat):Bool:=a.getD k 0 != b.getD k 0
abbrev w32(a b:List Int)(i:Int)(x:List (Nat×PE aC)):aS aC:=⟨[(0,xL 3 a),(1,xL 3 b),(5,xi i)]++x,[],[]⟩
def z32(a b:List Int):Unit⊕Nat->Ex×aS aC
 |.inl _=>(.exit 0,w32 a b a.length [(14,xl false)])
 |.inr _=>(.ret,⟨[(4,xl false)],[],[]⟩)
theorem l32{n:Nat}{fP:fA aC}(hO:Ok n fP)(a b:List Int)(hl:a.length<=ah)(h:a.length=b.length):Lp n 32 0 (w32 a b 0 []) (z32 a b (bF (KH a b) a.length)).1 (z32 a b (bF (KH a b) a.length)).2:=
 KE (st:=fun i _=>w32 a b i []) (fun _ _=>True) (by kernel_rfl) hl Qd trivial (fun k s n hk _ ih=>aN hO (.b (bn hk) (.o (aH hk) (.o (aH (h▸hk)) (.ls (.ou nofun) (.nx (ih _ trivial))))))) (fun s _=>aN hO (.b (fB a.length) (.ou nofun)))
theorem Ei{a b:List Int}(h:a.length=b.length):kG (bF (KH a b) a.length)=decide (a=b):=by
 rw[a4E,dL,a1o,oP (d:=0) h];simp[KH]
theorem a6w{a b:List Int}(h:((a.length:Int) != (b.length:Int))=true):decide (a=b)=false:=by
 rw[a2W];rintro rfl;simp at h
theorem jD{α β:Type}{a:List α}{b:List β}(h:((a.length:Int) != (b.length:Int))=false):a.length=b.length:=by simp at h;omega
def aj7:fA aC:=cO 32 (a2 pK pK) tA (fun p=>decide (p.1=p.2)) (fun p=>[p.1.length<=ah]) aj6
theorem aoL:Gd aj7:=aoJ.add fun n hO p hp=>aO hO (.s (fun h=>.v false (a6w h).symm) fun h=>.z (c:=kG (bF (KH p.1 p.2) p.1.length)) (fun h2=>.w (jZ (l32 hO p.1 p.2 (hp _ (.head _)) (jD h)) () h2) (.v true (by rw[<-Ei (jD h),h2]))) fun h2=>.w (ku (l32 hO p.1 p.2 (hp _ (.head _)) (jD h)) 0 h2) (.v false (by rw[<-Ei (jD h),h2])))
abbrev aa0(a:List Int)(n i:Int)(x:List (Nat×PE aC)):aS aC:=⟨[(0,xL 3 a),(5,xi n),(6,xi i)]++x,[],[]⟩
theorem aoM{n:Nat}{fP:fA aC}(hO:Ok n fP)(a:List Int)(hl:a.length<=ah):Lp n 104 0 (aa0 a 1 0 []) (.exit 0) (aa0 a (EY a) a.length [(11,xl false)]):=
 KF (st:=fun i n=>aa0 a n i []) (fin:=fun n=>aa0 a n a.length [(11,xl false)]) (fun _ _=>True) (by kernel_rfl) hl Qd trivial (fun _ _ _ _=>trivial) (fun k s hk _ n e p h=>aN hO (.b (bn hk) (.o (aH hk) (.go h)))) (fun s _=>aN hO (.b (fB a.length) .ex))
def acr:fA aC:=cO 104 (a2 pK iA) iA (fun p=>EY p.1) (fun p=>[p.1.length<=ah,p.2=0]) aj7
theorem aj8:Gd acr:=aoL.add fun n hO p hp=>by
 obtain⟨a,k⟩:=p;have h0:k=0:=hp _ (.tail _ (.head _));subst h0;exact aO hO (.w (aoM hO a (hp _ (.head _))) .rr)
def aeU:fA aC:=cO 49 (a1 pK) iA (fun p=>EY p) (fun p=>[p.length<=ah]) acr
theorem aoN:Gd aeU:=aj8.add fun n hO p hp=>aO hO (.o (hp _ (.head _)) (.o (rfl:(0:Int)=0) .rr))
abbrev KI(b:List Int)(k j:Nat):Bool:=b.getD j 0==b.getD k 0
abbrev a3h(a b:List Int)(i:Int)(x:List (Nat×PE aC)):aS aC:=⟨[(0,xL 3 a),(1,xL 3 b),(5,xi i)]++x,[],[]⟩
def acs(a b:List Int)(k:Int)(i:Int):Unit⊕Nat->Ex×aS aC
 |.inl _=>(.exit 2,a3h a b k [(6,xi i),(29,xl false)])
 |.inr _=>(.ret,⟨[(4,xl false)],[],[]⟩)
theorem acu{n:Nat}{fP:fA aC}(hO:Ok n fP)(a b:List Int)(k:Nat)(hl:k<=ah)(h:k<b.length):Lp n 109 1 (a3h a b k [(6,xi 0)]) (acs a b k k (bF (KI b k) k)).1 (acs a b k k (bF (KI b k) k)).2:=
 KE (st:=fun i _=>a3h a b k [(6,xi i)]) (fun _ _=>True) (by kernel_rfl) hl Qd trivial (fun j s n hk _ ih=>aN hO (.b (bn hk) (.o (aH (show j<b.length by omega)) (.o (aH h) (.ls (.ou nofun) (.nx (ih _ trivial))))))) (fun s _=>aN hO (.b (fB k) (.ou nofun)))
abbrev ZG(m:Int)(b:List Int)(k:Nat):Bool:=if(!(jP (b.getD k 0) 0 m))=true then true else if kG (bF (KI b k) k)=true then false else true
def z109(a b:List Int):Unit⊕Nat->Ex×aS aC
 |.inl _=>(.exit 0,a3h a b b.length [(15,xl false)])
 |.inr _=>(.ret,⟨[(4,xl false)],[],[]⟩)
abbrev xw(s:List Int):Int:=i64.wrap ((s.length:Int)-1)
theorem aj9{n:Nat}(hO:Ok n aeU)(a b:List Int)(hl:b.length<=ah):Lp n 109 0 (a3h a b 0 []) (z109 a b (bF (ZG (xw a) b) b.length)).1 (z109 a b (bF (ZG (xw a) b) b.length)).2:=
 KE (st:=fun i _=>a3h a b i []) (fun _ _=>True) (by kernel_rfl) hl Qd trivial (fun k s n hk _ ih=>by
  unfold gS ZG;cases h1:(!(jP (b.getD k 0) 0 (xw a)))
  .cases h2:kG (bF (KI b k) k)
   .exact aN hO (.b (bn hk) (.o (aH hk) (.b h1 (.w (ku (acu hO a b k (by omega) hk) 0 h2) (.ou nofun)))))
   .exact aN hO (.b (bn hk) (.o (aH hk) (.b h1 (.w (jZ (acu hO a b k (by omega) hk) () h2) (.nx (ih _ trivial))))))
  .exact aN hO (.b (bn hk) (.o (aH hk) (.b h1 (.ou nofun))))
  ) (fun s _=>aN hO (.b (fB b.length) (.ou nofun)))
theorem a6x{s:List Int}(h:s.length<=ah):xw s=(s.length:Int)-1:=by unfold xw;unfold ah at h;exact dZ (by omega) (by omega)
theorem oQ{k lo hi:Int}:jP k lo hi=true↔lo<=k∧k<=hi:=by
 unfold jP;split
 .rename_i h;simp at h ⊢;omega
 rename_i h;simp at h ⊢;omega
theorem Xn{a b:List Int}(ha:a.length<=ah)(h:b.length=a.length):kG (bF (ZG (xw a) b) b.length)=kC a.length b:=by
 rw[a4E,dL,kC,a1o];have e1:(∀j,j<b.length->ZG (xw a) b j=false)↔(∀j,j<b.length->(0<=b.getD j 0∧b.getD j 0<a.length)∧∀i,i<j->b.getD i 0≠b.getD j 0):=by
  refine aa7 fun j=>aa7 fun hj=>?_;unfold ZG;rw[a6x ha];cases h1:jP (b.getD j 0) 0 ((a.length:Int)-1)
  .simp only[abt,a2y,adW,false_iff];intro h2;have:jP (b.getD j 0) 0 ((a.length:Int)-1)=true:=by
    rw[oQ];omega
   rw[h1]at this;cases this
  have h3:0<=b.getD j 0∧b.getD j 0<a.length:=by
   rw[oQ]at h1;omega
  simp only[a8N,a2V,a3U,h3,acU,true_and];cases h2:kG (bF (KI b j) j)
  .simp only[a2V,a3U,adW,false_iff];intro h4;have:kG (bF (KI b j) j)=true:=dL.2 fun i hi=>(by simpa[KI]using h4 i hi);rw[h2]at this;cases this
  simp only[a2y,true_iff];intro i hi;have:=dL.1 h2 i hi;simpa[KI]using this
 rw[e1];constructor
 .intro hq;refine⟨h,(Hw (d:=0)).1 fun j hj=>(hq j hj).1,?_⟩;rw[abQ,abT];intro i j hi hj A8;have:=(hq j hj).2 i A8;simpa[List.getD,a0g hi,a0g hj]using this
 rintro⟨_,h2,h3⟩ j hj;refine⟨(Hw (d:=0)).2 h2 j hj,fun i hi=>?_⟩;rw[abQ,abT]at h3;have:=h3 i j (by omega) hj hi;simpa[List.getD,a0g (show i<b.length by omega),a0g hj]using this
theorem aa1{a b:List Int}(h:((b.length:Int) != (a.length:Int))=true):kC a.length b=false:=by
 unfold kC;rw[a2W];rintro⟨h1,_⟩;rw[h1]at h;simp at h
def a6y:fA aC:=cO 109 (a2 pK pK) tA (fun p=>kC p.1.length p.2) (fun p=>[p.1.length<=ah,p.2.length<=ah]) aeU
theorem aja:Gd a6y:=aoN.add fun n hO p hp=>aO hO (.s (fun h=>.v false (aa1 h).symm) fun h=>.z (c:=kG (bF (ZG (xw p.1) p.2) p.2.length)) (fun h2=>.w (jZ (aj9 hO p.1 p.2 (hp _ (.tail _ (.head _)))) () h2) (.v true (by rw[<-Xn (hp _ (.head _)) (jD h),h2]))) fun h2=>.w (ku (aj9 hO p.1 p.2 (hp _ (.tail _ (.head _)))) 0 h2) (.v false (by rw[<-Xn (hp _ (.head _)) (jD h),h2])))
abbrev cSz(a:List Int)(k:Nat):Bool:=!(jP (a.getD k 0) 1 12)
theorem aa2{a:List Int}:kG (bF (cSz a) a.length)=decide (kU a):=by
 rw[a4E,dL,a1o,kU,<-Hw (d:=0)];refine aa7 fun j=>aa7 fun hj=>?_;simp only[cSz,abz,oQ]
abbrev w58(a b:List Int)(i:Int)(x:List (Nat×PE aC)):aS aC:=⟨[(0,xL 3 a),(1,xL 3 b),(5,xi i)]++x,[],[]⟩
def z58(a b:List Int):Unit⊕Nat->Ex×aS aC
 |.inl _=>(.exit 0,w58 a b a.length [(12,xl false)])
 |.inr _=>(.ret,⟨[(4,xi 3)],[],[]⟩)
theorem l58{n:Nat}(hO:Ok n a6y)(a b:List Int)(hl:a.length<=ah):Lp n 58 0 (w58 a b 0 []) (z58 a b (bF (cSz a) a.length)).1 (z58 a b (bF (cSz a) a.length)).2:=
 KE (st:=fun i _=>w58 a b i []) (fun _ _=>True) (by kernel_rfl) hl Qd trivial (fun k s n hk _ ih=>aN hO (.b (bn hk) (.o (aH hk) (.ls (.ou nofun) (.nx (ih _ trivial)))))) (fun s _=>aN hO (.b (fB a.length) (.ou nofun)))
def bY(s o:List Int):Int:=if decide ((s.length:Int)>6)=true then 5 else if kG (bF (cSz s) s.length)=true then(if decide (EY s>2000)=true then 5 else if(!(kC s.length o))=true then 4 else 0)else 3
theorem aa3{s:List Int}(h:decide ((s.length:Int)>6)=false):s.length<=6:=by simp at h;omega
theorem Xo{k:Nat}(h:k<=6):k<=ah:=by unfold ah;omega
def ajc:fA aC:=cO 58 (a2 pK pK) iA (fun p=>bY p.1 p.2) (fun p=>[p.2.length<=ah]) a6y
theorem aoP:Gd ajc:=aja.add fun n hO p hp=>aO hO (.sh (fun _=>.rr) fun h=>.zh (fun h2=>.w (jZ (l58 hO p.1 p.2 (Xo (aa3 h))) () h2) (.o (Xo (aa3 h)) (.o (rfl:(0:Int)=0) (.ss .rr (.o (Xo (aa3 h)) (.o (hp _ (.head _)) (.ss .rr .rr))))))) fun h2=>.w (ku (l58 hO p.1 p.2 (Xo (aa3 h))) 0 h2) .rr)
theorem OX(s o:List Int):bY s o=if 6<s.length then 5 else if kU s then(if 2000<bg s then 5 else if kC s.length o=true then 0 else 4)else 3:=by
 unfold bY;rw[aa2];by_cases h1:6<s.length
 .rw[a0q h1,a0q (by simp;omega)]
 rw[a0p h1,a0p (by simp;omega)];by_cases h2:kU s
 .rw[a0q (by simpa using h2),a0q h2,Xg h2];by_cases h3:2000<bg s
  .rw[a0q h3,a0q (by simp;omega)]
  rw[a0p h3,a0p (by simp;omega)];cases kC s.length o<;>simp
 rw[a0p (by simpa using h2),a0p h2]
theorem jQ{s o:List Int}:bY s o=0↔rP s∧kC s.length o=true:=by
 rw[OX];constructor
 .intro h;split at h
  .cases h
  split at h
  .split at h
   .cases h
   split at h
   .exact⟨⟨by omega,by assumption,by omega⟩,by assumption⟩
   cases h
  cases h
 rintro⟨⟨h1,h2,h3⟩,h4⟩;rw[a0p (by omega),a0q h2,a0p (by omega),a0q h4]
abbrev w53(a:List Int)(i:Int)(s:Int×List Int)(x:List (Nat×PE aC)):aS aC:=⟨[(0,xL 3 a),(1,xi s.1),(5,xo 0),(6,xi i)]++x,[],[.list true true 3 s.2]⟩
theorem szk{a:List Int}(hs:kU a){k:Nat}(hk:k<a.length):a.getD k 0≠0:=by have:=hs _ (bP hk);omega
theorem aeV(k:Nat):decide ((k:Int)>=0)=true:=by simp
theorem l53{n:Nat}{fP:fA aC}(hO:Ok n fP)(a:List Int)(m:Int)(hl:a.length<=ah)(hs:kU a):Lp n 53 0 (w53 a (i64.wrap ((a.length:Int)-1)) (m,List.replicate a.length 0) []) (.exit 0) (w53 a (-1) (KD (ZE a) a.length (m,List.replicate a.length 0)) [(14,xl false)]):=
 aiy (st:=fun i s=>w53 a i s []) (fin:=fun s=>w53 a (-1) s [(14,xl false)]) (fun _ s=>s.2.length=a.length) (by kernel_rfl) hl Qd (by simp) (fun k s _ h=>by simp[ZE,h]) (fun k s hk hi n e p h=>aN hO (.b (aeV k) (.o (aH hk) (.o (szk hs hk) (.o (aH (show k<s.2.length by omega)) (.o (aH hk) (.o (szk hs hk) (.go h)))))))) (fun s _=>aN hO (.b (rfl:decide ((-1:Int)>=0)=false) .ex))
theorem mk1{α:Type}(l:List α):(l.length:Int)=(l.length:Int):=rfl
theorem mk2{α:Type}(l:List α):(0:Int)<=(l.length:Int):=by omega
theorem mk3{α:Type}{l:List α}(h:l.length<=ah):(l.length:Int)<=(ah:Int):=by omega
def ajd:fA aC:=cO 53 (a2 pK iA) pK (fun p=>jW p.1 p.2) (fun p=>[p.1.length<=ah,kU p.1,0<=p.2,p.2<2^62]) ajc
theorem aoQ:Gd ajd:=aoP.add fun n hO p hp=>aO hO (.o (mk1 p.1) (.o (mk2 p.1) (.o (mk3 (hp _ (.head _))) (.w (l53 hO p.1 p.2 (hp _ (.head _)) (hp _ (.tail _ (.head _)))) (.v (KD (ZE p.1) p.1.length (p.2,List.replicate p.1.length 0)).2 (Xf (hp _ (.tail _ (.head _))) (hp _ (.tail _ (.tail _ (.head _)))) (hp _ (.tail _ (.tail _ (.tail _ (.head _))))) a7w))))))
abbrev w52(a b:List Int)(m i:Int)(x:List (Nat×PE aC)):aS aC:=⟨[(0,xL 3 a),(1,xL 3 b),(5,xi m),(6,xi i)]++x,[],[]⟩
theorem l52{n:Nat}{fP:fA aC}(hO:Ok n fP)(a b:List Int)(hl:a.length<=ah)(h:b.length=a.length):Lp n 52 0 (w52 a b 0 0 []) (.exit 0) (w52 a b (aiz a b) a.length [(10,xl false)]):=
 KF (st:=fun i m=>w52 a b m i []) (fin:=fun m=>w52 a b m a.length [(10,xl false)]) (fun _ _=>True) (by kernel_rfl) hl Qd trivial (fun _ _ _ _=>trivial) (fun k s hk _ n e p g=>aN hO (.b (bn hk) (.o (aH hk) (.o (aH (h▸hk)) (.go g))))) (fun s _=>aN hO (.b (fB a.length) .ex))
def aeW:fA aC:=cO 52 (a2 pK pK) iA (fun p=>dV p.1 p.2) (fun p=>[gX p.1 p.2=true,rP p.1]) ajd
theorem aoR:Gd aeW:=aoQ.add fun n hO p hp=>aO hO (.w (l52 hO p.1 p.2 (Xo (show rP p.1 from hp _ (.tail _ (.head _))).len) (jm (hp _ (.head _)))) (.v _ (a9Q (hp _ (.head _)) (show rP p.1 from hp _ (.tail _ (.head _))).sz (show rP p.1 from hp _ (.tail _ (.head _))).many)))
abbrev cPl(a b:List Int)(k:Nat):Bool:=!(jP (b.getD k 0) 0 (i64.wrap (a.getD k 0-1)))
abbrev w50(a b:List Int)(i:Int)(x:List (Nat×PE aC)):aS aC:=⟨[(0,xL 3 a),(1,xL 3 b),(5,xi i)]++x,[],[]⟩
def z50(a b:List Int):Unit⊕Nat->Ex×aS aC
 |.inl _=>(.exit 0,w50 a b b.length [(14,xl false)])
 |.inr _=>(.ret,⟨[(4,xl false)],[],[]⟩)
theorem l50{n:Nat}(hO:Ok n aeW)(a b:List Int)(hl:b.length<=ah)(h:b.length=a.length):Lp n 50 0 (w50 a b 0 []) (z50 a b (bF (cPl a b) b.length)).1 (z50 a b (bF (cPl a b) b.length)).2:=
 KE (st:=fun i _=>w50 a b i []) (fun _ _=>True) (by kernel_rfl) hl Qd trivial (fun k s n hk _ ih=>aN hO (.b (bn hk) (.o (aH hk) (.o (aH (show k<a.length by omega)) (.ls (.ou nofun) (.nx (ih _ trivial))))))) (fun s _=>aN hO (.b (fB b.length) (.ou nofun)))
theorem a1p{a b:List Int}(hs:kU a)(h:b.length=a.length):kG (bF (cPl a b) b.length)=gX a b:=by
 rw[a4E,dL,jo,h];simp only[true_and];refine aa7 fun j=>aa7 fun hj=>?_;have:=hs _ (bP hj);simp only[cPl,abz,oQ];rw[dZ (by omega) (by omega)];omega
theorem aeX{a b:List Int}(h:((b.length:Int) != (a.length:Int))=true):gX a b=false:=by
 cases h2:gX a b
 .rfl
 rw[jm h2]at h;simp at h
def ajf:fA aC:=cO 50 (a2 pK pK) tA (fun p=>gX p.1 p.2) (fun p=>[p.2.length<=ah,kU p.1]) aeW
theorem aoT:Gd ajf:=aoR.add fun n hO p hp=>aO hO (.s (fun h=>.v false (aeX h).symm) fun h=>.z (c:=kG (bF (cPl p.1 p.2) p.2.length)) (fun h2=>.w (jZ (l50 hO p.1 p.2 (hp _ (.head _)) (jD h)) () h2) (.v true (by rw[<-a1p (hp _ (.tail _ (.head _))) (jD h),h2]))) fun h2=>.w (ku (l50 hO p.1 p.2 (hp _ (.head _)) (jD h)) 0 h2) (.v false (by rw[<-a1p (hp _ (.tail _ (.head _))) (jD h),h2])))
def vOk(v:V):Bool:=if(v.f==0)=true then jP v.n (-9999) 9999 else if(decide (v.f<=4))=true then v.n==0 else false
def ajg:fA aC:=cO 29 (a1 vA) tA (fun p=>vOk p) np ajf
theorem aoU:Gd ajg:=aoT.add fun n hO p hp=>aO hO (.ss .rr (.ss .rr .rr))
def vIs(v:V):Bool:=if(decide (v.f>0))=true then(if(decide (v.f<=4))=true then v.n==0 else false)else jP v.n (-9999) 9999
theorem aeY{v:V}(h:0<=v.f):vOk v=vIs v:=by
 unfold vOk vIs;by_cases h0:v.f=0
 .rw[a0q (by simp[h0]),a0p (by simp;omega)]
 have:v.f>0:=by omega
 simp[h0,this]
open Go Tw Pv dw
def dO(n:Nat):List Int:=(List.range n).map fun(k:Nat)=>(k:Int)
theorem lM(n:Nat):(dO n).length=n:=by simp[dO]
theorem SA(n:Nat):kC n (dO n)=true:=by
 unfold kC;rw[a1o];refine⟨lM n,fun a ha=>?_,?_⟩
 .simp only[dO,a1e,a4o]at ha;obtain⟨k,h1,rfl⟩:=ha;omega
 unfold dO;exact List.Pairwise.map _ (fun a b h=>by omega) adE
open Go Tw Pv dw
abbrev V.tv(v:V):TV:=.agg [.int .u8 v.f,.int .i64 v.n]
theorem a3i:Tryz.prog.underlying 3=some (.int .i64):=by kernel_rfl
theorem uU8:Tryz.prog.underlying 5=some (.int .u8):=by kernel_rfl
theorem aeZ : Tryz.prog.underlying 39 = some (.struct #[⟨"Fault", 5, 0, false, "", "", 0⟩, ⟨"N", 3, 1, false, "", "", 8⟩]) := by kernel_rfl
theorem a1q(d:Nat)(a b:V):aB Qp (Op.equalIn (d+2) 39 (.agg #[.int .u8 a.f,.int .i64 a.n]) (.agg #[.int .u8 b.f,.int .i64 b.n]))=some (decide (a=b)):=by
 rw[y9 (d+1) 39 _ _ _ aeZ (by kernel_rfl)];have p0:∀x y:Value,aB Qp (part 5 #[x,y] 0)=some x:=by intro x y;kernel_rfl
 have p1:∀x y:Value,aB Qp (part 3 #[x,y] 1)=some y:=by intro x y;kernel_rfl
 have n1 : ("Fault" : String) ≠ "_" := by decide
 have n2 : ("N" : String) ≠ "_" := by decide
 have q1 := oC (f := ⟨"Fault", 5, 0, false, "", "", 0⟩) (fs := [⟨"N", 3, 1, false, "", "", 8⟩]) n1 (p0 (.int .u8 a.f) (.int .i64 a.n)) (p0 (.int .u8 b.f) (.int .i64 b.n)) (qW d _ _ _ _ _ uU8);have q2 := oC (f := ⟨"N", 3, 1, false, "", "", 8⟩) (fs := []) n2 (p1 (.int .u8 a.f) (.int .i64 a.n)) (p1 (.int .u8 b.f) (.int .i64 b.n)) (qW d _ _ _ _ _ a3i);rw[q1,q2];rw[show aB Qp (Op.eqFields (d+1) #[.int .u8 a.f,.int .i64 a.n] #[.int .u8 b.f,.int .i64 b.n] [])=some true from rfl];rcases a with⟨a1,a2⟩;rcases b with⟨b1,b2⟩;by_cases h1:a1=b1<;>by_cases h2:a2=b2<;>simp[h1,h2]
theorem eqV(x y:Operand)(a b:V):sF Qp .eql 39 x y (V.tv a) (V.tv b)=some (.bool (decide (a=b))):=(GR rfl rfl (by kernel_rfl) (by decide) (a1q 9998 a b)).1
theorem neV(x y:Operand)(a b:V):sF Qp .neq 39 x y (V.tv a) (V.tv b)=some (.bool (!decide (a=b))):=(GR rfl rfl (by kernel_rfl) (by decide) (a1q 9998 a b)).2
open Go Tw Pv dw
abbrev cAl(a b:List V)(k:Nat):Bool:=!decide (a.getD k V0=b.getD k V0)
abbrev w75(a b:List V)(i:Int)(x:List (Nat×PE aC)):aS aC:=⟨[(0,xL 39 a),(1,xL 39 b),(5,xi i)]++x,[],[]⟩
def z75(a b:List V):Unit⊕Nat->Ex×aS aC
 |.inl _=>(.exit 0,w75 a b a.length [(14,xl false)])
 |.inr _=>(.ret,⟨[(4,xl false)],[],[]⟩)
theorem l75{n:Nat}{fP:fA aC}(hO:Ok n fP)(a b:List V)(hl:a.length<=ah)(h:a.length=b.length):Lp n 75 0 (w75 a b 0 []) (z75 a b (bF (cAl a b) a.length)).1 (z75 a b (bF (cAl a b) a.length)).2:=
 KE (st:=fun i _=>w75 a b i []) (fun _ _=>True) (by kernel_rfl) hl Qd trivial (fun k s n hk _ ih=>aN hO (.b (bn hk) (.o (aH hk) (.o (aH (h▸hk)) (.q (.bool (cAl a b k)) (neV (.tmp 20) (.tmp 24) (a.getD k V0) (b.getD k V0)) (.ls (.ou nofun) (.nx (ih _ trivial)))))))) (fun s _=>aN hO (.b (fB a.length) (.ou nofun)))
theorem a1r{a b:List V}(h:a.length=b.length):kG (bF (cAl a b) a.length)=decide (a=b):=by
 rw[a4E,dL,a1o,oP (d:=V0) h];simp[cAl]
theorem aa4{a b:List V}(h:((a.length:Int) != (b.length:Int))=true):decide (a=b)=false:=by
 rw[a2W];rintro rfl;simp at h
def ajh:fA aC:=cO 75 (a2 vsA vsA) tA (fun p=>decide (p.1=p.2)) (fun p=>[p.1.length<=ah]) ajg
theorem aoX:Gd ajh:=aoU.add fun n hO p hp=>aO hO (.s (fun h=>.v false (aa4 h).symm) fun h=>.z (c:=kG (bF (cAl p.1 p.2) p.1.length)) (fun h2=>.w (jZ (l75 hO p.1 p.2 (hp _ (.head _)) (jD h)) () h2) (.v true (by rw[<-a1r (jD h),h2]))) fun h2=>.w (ku (l75 hO p.1 p.2 (hp _ (.head _)) (jD h)) 0 h2) (.v false (by rw[<-a1r (jD h),h2])))
open Go Tw Pv dw
abbrev RhB(n f k B m:Nat)(s:aS aC)(e:Ex)(p:aS aC):Prop:=dJ X0 Qp T (bQ n) LL f false (BQ Qp f) B (S9 Qp f k) m s e p
abbrev hdP(f k:Nat)(w:aS aC):aS aC:=gU X0 (T.eP f (dU (S9 Qp f k))) w
section
variable {n f k B N:Nat} {σ ρ:Type}
theorem vw{st:Int->σ->aS aC}{g:Nat->σ->σ}{e:Ex}{fin:σ->aS aC}{s0:σ}{w:aS aC}(Inv:Nat->σ->Prop)(h0:hdP f k w=st 0 s0)(hl:N<=ah)(hi:Inv 0 s0)(hv:∀j s,j<N->Inv j s->Inv (j+1) (g j s))
  (hs:∀(j:Nat) (s:σ),j<N->Inv j s->∀m e1 p,RhB n f k B m (st (i64.wrap (j+1)) (g j s)) e1 p->RhB n f k B (m+1) (st j s) e1 p)
  (ho:∀s,Inv N s->RhB n f k B 1 (st N s) e (fin s)):Jj n f k B w e (fin (aT g N 0 s0)):=KF Inv h0 hl Qd hi hv hs ho
theorem iL{st:Int->σ->aS aC}{g:Nat->σ->σ⊕ρ}{out:σ⊕ρ->Ex×aS aC}{s0:σ}{w:aS aC}(Inv:Nat->σ->Prop)(h0:hdP f k w=st 0 s0)(hl:N<=ah)(hi:Inv 0 s0)
  (hs:∀(j:Nat) (s:σ) (m:Nat),j<N->Inv j s->(∀s1,Inv (j+1) s1->RhB n f k B m (st (i64.wrap (j+1)) s1) (vg (X:=X0) out g (N-(j+1)) (j+1) (.inl s1)).1 (vg (X:=X0) out g (N-(j+1)) (j+1) (.inl s1)).2) ->
   RhB n f k B (m+1) (st j s) (vg (X:=X0) out g (N-(j+1)) (j+1) (g j s)).1 (vg (X:=X0) out g (N-(j+1)) (j+1) (g j s)).2)
  (ho:∀s,Inv N s->RhB n f k B 1 (st N s) (out (.inl s)).1 (out (.inl s)).2):Jj n f k B w (out (ni g N 0 s0)).1 (out (ni g N 0 s0)).2:=KE Inv h0 hl Qd hi hs ho
theorem aa5{a:Nat}{st:Int->σ->aS aC}{g:Nat->σ->σ⊕ρ}{out:σ⊕ρ->Ex×aS aC}{s0:σ}{w:aS aC}(Inv:Nat->σ->Prop)(h0:hdP f k w=st a s0)(ha:a<=N)(hl:N<=ah)(hi:Inv a s0)
  (hs:∀(j:Nat) (s:σ) (m:Nat),a<=j->j<N->Inv j s->(∀s1,Inv (j+1) s1->RhB n f k B m (st (i64.wrap (j+1)) s1) (vg (X:=X0) out g (N-(j+1)) (j+1) (.inl s1)).1 (vg (X:=X0) out g (N-(j+1)) (j+1) (.inl s1)).2) ->
   RhB n f k B (m+1) (st j s) (vg (X:=X0) out g (N-(j+1)) (j+1) (g j s)).1 (vg (X:=X0) out g (N-(j+1)) (j+1) (g j s)).2)
  (ho:∀s,Inv N s->RhB n f k B 1 (st N s) (out (.inl s)).1 (out (.inl s)).2):Jj n f k B w (out (ni g (N-a) a s0)).1 (out (ni g (N-a) a s0)).2:=aeJ Inv h0 ha hl Qd hi hs ho
theorem ZH{st:σ->aS aC}{g:σ->σ⊕ρ}{out:ρ->Ex×aS aC}(Inv:σ->Prop){m:Nat}{s:σ}{r:ρ}{w:aS aC}(hr:itF g m s=some r)(h0:hdP f k w=st s)(hk:m<=LL)(hv:Inv s)(hi:∀s s1,Inv s->g s=.inl s1->Inv s1)
  (hs:∀s m r,Inv s->(∀s1,g s=.inl s1->RhB n f k B m (st s1) (out r).1 (out r).2)->RhB n f k B (m+1) (st s) (Dh (X:=X0) out r (g s)).1 (Dh (X:=X0) out r (g s)).2):Jj n f k B w (out r).1 (out r).2:=aeE Inv hr h0 hk hv hi hs
end
open Go Tw Pv dw
structure Prt(l:List V)(w n:Nat):Prop where
 n12:n<=12
 w2:w<=5000
 len:l.length=n*w
section
variable {l:List V} {w n j:Nat} (h:Prt l w n)
include h
end
theorem SB{α β:Type}(l:List α)(d:α)(f:α->β):(List.range l.length).map (fun k=>f (l.getD k d))=l.map f:=by
 apply a9e (by simp);intro i h1 h2;have:i<l.length:=by simpa using h1
 simp[List.getD,a0g this]
open Go Tw Pv dw
theorem OY{s p:List Int}{ch d:Int}(hp:gX s p=true)(hc:fK ch s.length)(hd:fK d (s.getD ch.toNat 0).toNat):gX s (p.set ch.toNat d)=true:=by
 rw[jo]at hp ⊢;obtain⟨c1,c2⟩:=hc;obtain⟨d1,d2⟩:=hd;refine⟨by simp[hp.1],fun j hj=>?_⟩;rw[yU (by omega)];split
 .rename_i e;subst e;omega
 exact hp.2 j hj
open Go Tw Pv dw
abbrev au(d:Dg)(r:Int):Br:=d.aj.getD r.toNat jU
abbrev OZ(d:Dg)(r:Int)(k:Nat):Bool:=d.aG.getD k 0==(au d r).var
abbrev a3j(d:Dg)(r i:Int)(x:List (Nat×PE aC)):aS aC:=⟨[(1,xi r),(2,.loc 0 0),(5,xi i)]++x,[d.ps],[]⟩
def aji(d:Dg)(r:Int)(N:Nat):Unit⊕Nat->Ex×aS aC
 |.inl _=>(.exit 0,a3j d r N [(14,xl false)])
 |.inr k=>(.ret,⟨[(4,xi k)],[d.ps],[]⟩)
theorem ajj{r:Int}(h:0<=r):decide (r>=0)=true:=by simpa using h
theorem ajk{n:Nat}{fP:fA aC}(hO:Ok n fP)(d:Dg)(r:Int)(hl:d.aG.length<=ah)(h:fK r d.aj.length):Lp n 177 0 (a3j d r 0 []) (aji d r d.aG.length (bF (OZ d r) d.aG.length)).1 (aji d r d.aG.length (bF (OZ d r) d.aG.length)).2:=
 iL (st:=fun i _=>a3j d r i []) (fun _ _=>True) (by kernel_rfl) hl trivial (fun k s m hk _ ih=>aN hO (.b (ajj h.1) (.b (bn hk) (.o (aH hk) (.o h (.ls (.ou nofun) (.nx (ih _ trivial)))))))) (fun s _=>aN hO (.b (ajj h.1) (.b (fB d.aG.length) (.ou nofun))))
theorem ajl{n:Nat}{fP:fA aC}(hO:Ok n fP)(d:Dg)(r:Int)(h:r<0):Lp n 177 0 (a3j d r 0 []) (.exit 0) (a3j d r 0 [(14,xl false)]):=
 zl (ps:=a3j d r 0 []) (aN hO (.b (show decide (r>=0)=false by simpa using h) .ex)) (by kernel_rfl) (by decide:1<=LL)
def tV(d:Dg)(r:Int):Int:=if decide (r<0)=true then(d.aG.length:Int)else if kG (bF (OZ d r) d.aG.length)=true then(d.aG.length:Int)else((Df 0 (bF (OZ d r) d.aG.length):Nat):Int)
def acv:fA aC:=cO 177 (a2 dA iA) iA (fun p=>tV p.1 p.2) (fun p=>[p.1.aG.length<=ah,0<=p.2->fK p.2 p.1.aj.length]) ajh
theorem ajm:Gd acv:=aoX.add fun n hO p hp=>aO hO (.zh (fun h=>.w (ajl hO p.1 p.2 (by simpa using h)) .rr) fun h=>.zh (fun h2=>.w (jZ (ajk hO p.1 p.2 (hp _ (.head _)) (hp (0<=p.2->fK p.2 p.1.aj.length) (.tail _ (.head _)) (by simpa using h))) () h2) .rr) fun h2=>.w (ku (ajk hO p.1 p.2 (hp _ (.head _)) (hp (0<=p.2->fK p.2 p.1.aj.length) (.tail _ (.head _)) (by simpa using h))) 0 h2) .rr)
def iM(d:Dg)(r below:Int):Bool:=if decide (r>=0)=true then decide (r<below)else jP (i64.wrap (-1-r)) 0 (i64.wrap ((d.aK.length:Int)-1))
def acw:fA aC:=cO 176 (a3 dA iA iA) tA (fun p=>iM p.1 p.2.1 p.2.2) np acv
theorem ajn:Gd acw:=ajm.add fun n hO p hp=>aO hO (.ss .rr .rr)
abbrev P5(b:Br)(k:Nat):Bool:=b.aA.getD k 0 != b.aA.getD 0 0
abbrev af0(b:Br)(i:Int)(x:List (Nat×PE aC)):aS aC:=⟨[(1,.loc 0 0),(3,xi i)]++x,[b.ps],[]⟩
def ajo(b:Br):Unit⊕Nat->Ex×aS aC
 |.inl _=>(.exit 0,af0 b (max 1 b.aA.length:Nat) [(8,xl false)])
 |.inr _=>(.ret,⟨[(2,xl false)],[b.ps],[]⟩)
theorem ajp{n:Nat}{fP:fA aC}(hO:Ok n fP)(b:Br)(hl:b.aA.length<=ah):Lp n 132 0 (af0 b 1 []) (ajo b (Sm (P5 b) 1 (max 1 b.aA.length))).1 (ajo b (Sm (P5 b) 1 (max 1 b.aA.length))).2:=
 aa5 (st:=fun i _=>af0 b i []) (fun _ _=>True) (by kernel_rfl) (by omega) (by unfold ah at *;omega) trivial (fun k s m h1 hk _ ih=>aN hO (.b (bn (show k<b.aA.length by omega)) (.o (aH (show k<b.aA.length by omega)) (.o (show fK 0 b.aA.length from⟨by omega,by omega⟩) (.ls (.ou nofun) (.nx (ih _ trivial))))))) (fun s _=>aN hO (.b (show decide (((max 1 b.aA.length:Nat):Int)<(b.aA.length:Int))=false by simp only[a2W];omega) (.ou nofun)))
def wU(b:Br):Bool:=if kG (Sm (P5 b) 1 (max 1 b.aA.length))=true then true else false
def acy:fA aC:=cO 132 (a1 brA) tA (fun p=>wU p) (fun p=>[p.aA.length<=ah]) acw
theorem ajq:Gd acy:=ajn.add fun n hO p hp=>aO hO (.zh (fun h=>.w (jZ (ajp hO p (hp _ (.head _))) () h) .rr) fun h=>.w (ku (ajp hO p (hp _ (.head _))) 0 h) .rr)
abbrev SC(l:List Int)(n:Int)(k:Nat):Bool:=l.getD k 0==n
abbrev af2(l:List Int)(m i:Int)(x:List (Nat×PE aC)):aS aC:=⟨[(0,xL 3 l),(1,xi m),(5,xi i)]++x,[],[]⟩
def ajr(l:List Int)(m:Int):Unit⊕Nat->Ex×aS aC
 |.inl _=>(.exit 0,af2 l m l.length [(9,xl false)])
 |.inr _=>(.ret,⟨[(4,xl true)],[],[]⟩)
theorem ajs{n:Nat}{fP:fA aC}(hO:Ok n fP)(l:List Int)(m:Int)(hl:l.length<=ah):Lp n 178 0 (af2 l m 0 []) (ajr l m (bF (SC l m) l.length)).1 (ajr l m (bF (SC l m) l.length)).2:=
 iL (st:=fun i _=>af2 l m i []) (fun _ _=>True) (by kernel_rfl) hl trivial (fun k s m hk _ ih=>aN hO (.b (bn hk) (.o (aH hk) (.ls (.ou nofun) (.nx (ih _ trivial)))))) (fun s _=>aN hO (.b (fB l.length) (.ou nofun)))
theorem SE{l:List Int}{m:Int}:kG (bF (SC l m) l.length)=!decide (m∈l):=by
 rw[a4E,dL];simp only[a8H,a2W];constructor
 .intro h hm;obtain⟨j,hj,e⟩:=a4G.1 hm;have:=h j hj;simp[SC,List.getD,a0g hj,e]at this
 intro h j hj;have e:l.getD j 0=l[j]:=by simp[List.getD,a0g hj]
 simp only[SC,agT,ne_eq,e];intro e2;exact h (e2▸a4r hj)
def acz:fA aC:=cO 178 (a2 pK iA) tA (fun p=>decide (p.2∈p.1)) (fun p=>[p.1.length<=ah]) acy
theorem ajt:Gd acz:=ajq.add fun n hO p hp=>aO hO (.z (c:=kG (bF (SC p.1 p.2) p.1.length)) (fun h=>.w (jZ (ajs hO p.1 p.2 (hp _ (.head _))) () h) (.v false (by rw[SE]at h;simp at h;simp[h]))) fun h=>.w (ku (ajs hO p.1 p.2 (hp _ (.head _))) 0 h) (.v true (by rw[SE]at h;simp at h;simp[h])))
abbrev a6A(l:List Int)(k:Nat):Bool:=l.getD k 0 != (k:Int)
abbrev af4(l:List Int)(m i:Int)(x:List (Nat×PE aC)):aS aC:=⟨[(0,xL 3 l),(1,xi m),(5,xi i)]++x,[],[]⟩
def aju(l:List Int)(m:Int):Unit⊕Nat->Ex×aS aC
 |.inl _=>(.exit 0,af4 l m l.length [(9,xl false)])
 |.inr _=>(.ret,⟨[(4,xl false)],[],[]⟩)
theorem ajv{n:Nat}{fP:fA aC}(hO:Ok n fP)(l:List Int)(m:Int)(hl:l.length<=ah):Lp n 134 0 (af4 l m 0 []) (aju l m (bF (a6A l) l.length)).1 (aju l m (bF (a6A l) l.length)).2:=
 iL (st:=fun i _=>af4 l m i []) (fun _ _=>True) (by kernel_rfl) hl trivial (fun k s m hk _ ih=>aN hO (.b (bn hk) (.o (aH hk) (.ls (.ou nofun) (.nx (ih _ trivial)))))) (fun s _=>aN hO (.b (fB l.length) (.ou nofun)))
def zu(l:List Int)(m:Int):Bool:=if kG (bF (a6A l) l.length)=true then((l.length:Int)==m)else false
def Xp:fA aC:=cO 134 (a2 pK iA) tA (fun p=>zu p.1 p.2) (fun p=>[p.1.length<=ah]) acz
theorem ajw:Gd Xp:=ajt.add fun n hO p hp=>aO hO (.zh (fun h=>.w (jZ (ajv hO p.1 p.2 (hp _ (.head _))) () h) .rr) fun h=>.w (ku (ajv hO p.1 p.2 (hp _ (.head _))) 0 h) .rr)
abbrev cLk(d:Dg)(i k:Nat):Bool:=if(!(iM d ((d.aj.getD i jU).aA.getD k 0) i))=true then true else decide (tV d ((d.aj.getD i jU).aA.getD k 0)<=tV d i)
abbrev fC(d:Dg)(i:Nat):Br:=d.aj.getD i jU
abbrev a6B(d:Dg)(i k:Int)(b:Br)(x:List (Nat×PE aC)):aS aC:=⟨[(1,.loc 0 0),(4,xi i),(5,.loc 1 0),(6,xi k)]++x,[d.ps,b.ps],[]⟩
def acA(d:Dg)(i:Nat):Unit⊕Nat->Ex×aS aC
 |.inl _=>(.exit 4,a6B d i (fC d i).aA.length (fC d i) [(57,xl false)])
 |.inr _=>(.ret,⟨[(2,xl false)],[d.ps,(fC d i).ps],[]⟩)
structure DgL(d:Dg):Prop where
 aG:d.aG.length<=ah
 aj:d.aj.length<=ah
 aK:d.aK.length<=ah
 bJ:rP d.ay
theorem Xq{d:Dg}{r:Int}{i:Nat}(h:iM d r i=true)(h0:0<=r)(hi:i<=d.aj.length):fK r d.aj.length:=by
 unfold iM at h;rw[a0q (by simpa using h0)]at h;have:r<(i:Int):=by simpa using h
 exact⟨h0,by omega⟩
theorem ajx{n:Nat}(hO:Ok n Xp){d:Dg}(h:DgL d){i:Nat}(hi:i<d.aj.length)(hk:(fC d i).aA.length<=ah):Lp n 131 2 (a6B d i 0 (fC d i) []) (acA d i (bF (cLk d i) (fC d i).aA.length)).1 (acA d i (bF (cLk d i) (fC d i).aA.length)).2:=
 iL (st:=fun k _=>a6B d i k (fC d i) []) (fun _ _=>True) (by kernel_rfl) hk trivial (fun k s m hk _ ih=>by
  unfold gS cLk;cases e1:iM d ((fC d i).aA.getD k 0) i
  .exact aN hO (.b (bn hk) (.o (aH hk) (.b (show(!(iM d ((fC d i).aA.getD k 0) i))=true by rw[e1];rfl) (.ou nofun))))
  .exact aN hO (.b (bn hk) (.o (aH hk) (.b (show(!(iM d ((fC d i).aA.getD k 0) i))=false by rw[e1];rfl) (.o (aH hk) (.o h.aG (.o (show 0<=(fC d i).aA.getD k 0->fK ((fC d i).aA.getD k 0) d.aj.length from fun h0=>Xq e1 h0 (by omega)) (.o h.aG (.o (show 0<=((i:Nat):Int)->fK i d.aj.length from fun _=>aH hi) (.ls (.ou nofun) (.nx (ih _ trivial)))))))))))
  ) (fun s _=>aN hO (.b (fB (fC d i).aA.length) (.ou nofun)))
abbrev ZI(d:Dg)(i:Nat):Bool:=if(!(jP (fC d i).var 0 (xw d.ay)))=true then true else if(((fC d i).aA.length:Int) != d.ay.getD (fC d i).var.toNat 0)=true then true else if kG (bF (cLk d i) (fC d i).aA.length)=true then false else true
abbrev a6C(d:Dg)(i:Int)(x:List (Nat×PE aC)):aS aC:=⟨[(1,.loc 0 0),(4,xi i)]++x,[d.ps],[]⟩
def acB(d:Dg):Unit⊕Nat->Ex×aS aC
 |.inl _=>(.exit 2,a6C d d.aj.length [(25,xl false)])
 |.inr k=>(.ret,⟨[(2,xl false)],[d.ps,(fC d k).ps],[]⟩)
theorem Jk{d:Dg}(h:rP d.ay){v:Int}(e:jP v 0 (xw d.ay)=true):fK v d.ay.length:=by
 rw[oQ,a6x h.aeM]at e;exact⟨e.1,by omega⟩
theorem Xr{d:Dg}(h:rP d.ay){v:Int}(e:fK v d.ay.length){l:List Int}(hl:(((l.length:Int)) != d.ay.getD v.toNat 0)=false):l.length<=12:=by
 have:=h.sz _ (bP (s:=d.ay) (k:=v.toNat) (by have:=e.2;have:=e.1;omega));have hl:(l.length:Int)=d.ay.getD v.toNat 0:=by simpa using hl
 omega
theorem m12{k:Nat}(h:k<=12):k<=ah:=by unfold ah;omega
theorem acC{n:Nat}(hO:Ok n Xp){d:Dg}(h:DgL d):Lp n 131 1 (a6C d 0 []) (acB d (bF (ZI d) d.aj.length)).1 (acB d (bF (ZI d) d.aj.length)).2:=
 iL (st:=fun k _=>a6C d k []) (fun _ _=>True) (by kernel_rfl) h.aj trivial (fun k s m hk _ ih=>by
  unfold gS ZI;cases e1:jP (fC d k).var 0 (xw d.ay)
  .exact aN hO (.b (bn hk) (.o (aH hk) (.b (show(!(jP (fC d k).var 0 (xw d.ay)))=true by rw[e1];rfl) (.ou nofun))))
  .have hv:=Jk h.bJ e1;cases e2:(((fC d k).aA.length:Int) != d.ay.getD (fC d k).var.toNat 0)
   .have hl:=ajx hO h hk (m12 (Xr h.bJ hv e2));cases e3:kG (bF (cLk d k) (fC d k).aA.length)
    .exact aN hO (.b (bn hk) (.o (aH hk) (.b (show(!(jP (fC d k).var 0 (xw d.ay)))=false by rw[e1];rfl) (.o hv (.b e2 (.w (ku hl 0 e3) (.ou nofun)))))))
    .exact aN hO (.b (bn hk) (.o (aH hk) (.b (show(!(jP (fC d k).var 0 (xw d.ay)))=false by rw[e1];rfl) (.o hv (.b e2 (.w (jZ hl () e3) (.nx (ih _ trivial))))))))
   .exact aN hO (.b (bn hk) (.o (aH hk) (.b (show(!(jP (fC d k).var 0 (xw d.ay)))=false by rw[e1];rfl) (.o hv (.b e2 (.ou nofun))))))
  ) (fun s _=>aN hO (.b (fB d.aj.length) (.ou nofun)))
abbrev cLe(d:Dg)(k:Nat):Bool:=!(vOk (d.aK.getD k V0))
abbrev a6E(d:Dg)(i:Int)(x:List (Nat×PE aC)):aS aC:=⟨[(1,.loc 0 0),(3,xi i)]++x,[d.ps],[]⟩
def acD(d:Dg):Unit⊕Nat->Ex×aS aC
 |.inl _=>(.exit 0,a6E d d.aK.length [(11,xl false)])
 |.inr _=>(.ret,⟨[(2,xl false)],[d.ps],[]⟩)
theorem acE{n:Nat}(hO:Ok n Xp){d:Dg}(h:DgL d):Lp n 131 0 (a6E d 0 []) (acD d (bF (cLe d) d.aK.length)).1 (acD d (bF (cLe d) d.aK.length)).2:=
 iL (st:=fun k _=>a6E d k []) (fun _ _=>True) (by kernel_rfl) h.aK trivial (fun k s m hk _ ih=>aN hO (.b (bn hk) (.o (aH hk) (.ls (.ou nofun) (.nx (ih _ trivial)))))) (fun s _=>aN hO (.b (fB d.aK.length) (.ou nofun)))
def lN(d:Dg):Bool:=if kG (bF (cLe d) d.aK.length)=true then(if kG (bF (ZI d) d.aj.length)=true then iM d d.root d.aj.length else false)else false
def acF:fA aC:=cO 131 (a1 dA) tA (fun p=>lN p) (fun p=>[DgL p]) Xp
theorem ajy:Gd acF:=ajw.add fun n hO p hp=>aO hO (.zh (fun h=>.w (jZ (acE hO (show DgL p from hp _ (.head _))) () h) (.zh (fun h2=>.w (jZ (acC hO (show DgL p from hp _ (.head _))) () h2) .rr) fun h2=>.w (ku (acC hO (show DgL p from hp _ (.head _))) 0 h2) .rr)) fun h=>.w (ku (acE hO (show DgL p from hp _ (.head _))) 0 h) .rr)
def aX(d:Dg):Int:=if(bY d.ay d.aG != 0)=true then bY d.ay d.aG else if decide ((d.aj.length:Int)>6000)=true then 5 else if(!(lN d))=true then 4 else 0
theorem UH{k:Nat}(h:decide ((k:Int)>6000)=false):k<=ah:=by simp at h;unfold ah;omega
theorem AB{s o:List Int}(h:(bY s o != 0)=false):rP s:=(jQ.1 (by simpa using h)).1
def aa6:fA aC:=cO 83 (a1 dA) iA (fun p=>aX p) (fun p=>[p.aG.length<=ah,p.aK.length<=ah]) acF
theorem aoY:Gd aa6:=ajy.add fun n hO p hp=>aO hO (.o (hp _ (.head _)) (.sh (fun _=>.rr) fun h=>.sh (fun _=>.rr) fun h2=>.o (show DgL p from⟨hp _ (.head _),UH h2,hp _ (.tail _ (.head _)),AB h⟩) (.ss .rr .rr)))
open Go Tw Pv dw
abbrev jE(r:Int):Int:=i64.wrap (-1-r)
def jR(d:Dg):Nat->Int->List Int×List Int->List Int×List Int
 | 0,_,x=>x
 |F+1,r,x=>if decide (r<0)=true then(if(!(decide (jE r∈x.2)))=true then(x.1,x.2++[jE r])else x)else if decide (r∈x.1)=true then x
  else((aT (fun k y=>jR d F ((au d r).aA.getD k 0) y) (au d r).aA.length 0 x).1++[r],(aT (fun k y=>jR d F ((au d r).aA.getD k 0) y) (au d r).aA.length 0 x).2)
def jq(d:Dg)(r:Int)(b:Nat):Prop:=r<b∧(r<0->fK (jE r) d.aK.length)
structure BF(d:Dg):Prop extends DgL d where
 zy:∀i,i<d.aj.length->∀k,k<(fC d i).aA.length->jq d ((fC d i).aA.getD k 0) i
 Jl:∀i,i<d.aj.length->(fC d i).aA.length<=12
 var:∀i,i<d.aj.length->fK (fC d i).var d.ay.length
 ksz:∀i,i<d.aj.length->((fC d i).aA.length:Int)=d.ay.getD (fC d i).var.toNat 0
 root:jq d d.root d.aj.length
structure Jm(d:Dg)(x:List Int×List Int):Prop where
 n1:x.1.Nodup
 n2:∀a∈x.1,fK a d.aj.length
 e1:x.2.Nodup
 e2:∀a∈x.2,fK a d.aK.length
theorem zA:∀(N:Nat) (l:List Int),l.Nodup->(∀a∈l,fK a N)->l.length<=N
 | 0,[],_,_=>a0w _
 | 0,a::l,_,h=>by obtain⟨h1,h2⟩:=h a (a3l ..);omega
 |N+1,l,hn,h=>by
  have h1:=zA N (l.erase (N:Int)) (hn.erase _) fun a ha=>by
   have h2:=(List.Nodup.mem_erase_iff hn).1 ha;have h3:=h a h2.2;exact⟨h3.1,by have:=h3.2;have:=h2.1;omega⟩
  by_cases hm:(N:Int)∈l
  .rw[List.length_erase_of_mem hm]at h1;omega
  rw[List.erase_of_not_mem hm]at h1;omega
theorem Jm.len{d:Dg}{x:List Int×List Int}(h:Jm d x):x.1.length<=d.aj.length∧x.2.length<=d.aK.length:=⟨zA _ _ h.n1 h.n2,zA _ _ h.e1 h.e2⟩
theorem wV{l:List Int}{a:Int}(h:l.Nodup)(ha:a∉l):(l++[a]).Nodup:=by
 rw[a8G];exact⟨h,by simp,fun x hx y hy e=>by simp at hy;subst hy;subst e;exact ha hx⟩
theorem a6F{d:Dg}:∀(F:Nat) (r s:Int) (x:List Int×List Int),r<s->s∉x.1->0<=s->(∀i,i<d.aj.length->∀k,k<(fC d i).aA.length->(fC d i).aA.getD k 0<i)->(0<=r->fK r d.aj.length)->s∉(jR d F r x).1
 | 0,_,_,_,_,h,_,_,_=>h
 |F+1,r,s,x,hr,h,h0,hk,hn=>by
  unfold jR;by_cases c:r<0
  .rw[a0q (by simpa using c)];split<;>exact h
  rw[a0p (by simpa using c)];split
  .exact h
  have hi:=hn (by omega);have DW:∀k,k<(au d r).aA.length->(au d r).aA.getD k 0<r:=fun k kQ=>by
   obtain⟨i1,i2⟩:=hi;have h9:(au d r).aA.getD k 0<(r.toNat:Int):=hk r.toNat (by omega) k kQ;omega
  have:=bU (g:=fun k y=>jR d F ((au d r).aA.getD k 0) y) (m:=(au d r).aA.length) (k:=0) (s:=x) (fun _ y=>s∉y.1) h (fun j y _ hj hy=>by
   have h4:=DW j (by omega);exact a6F F _ s y (by omega) hy h0 hk fun h5=>⟨h5,by have:=hi.2;omega⟩)
  simp only[a2Y,a2A,adn];exact⟨this,by omega⟩
theorem KJ{d:Dg}(h:BF d):∀(F:Nat) (r:Int) (x:List Int×List Int),Jm d x->jq d r d.aj.length->Jm d (jR d F r x)
 | 0,_,_,hx,_=>hx
 |F+1,r,x,hx,hr=>by
  unfold jR;by_cases c:r<0
  .rw[a0q (by simpa using c)];split
   .rename_i c2;have c2:jE r∉x.2:=(by simpa using c2);refine⟨hx.n1,hx.n2,wV hx.e1 c2,fun a ha=>?_⟩;rw[a2Y,a2A]at ha;rcases ha with ha|rfl
    .exact hx.e2 a ha
    exact hr.2 c
   exact hx
  rw[a0p (by simpa using c)];split
  .exact hx
  rename_i c2;have c2:r∉x.1:=by simpa using c2
  have hi:fK r d.aj.length:=⟨by omega,hr.1⟩;have aQ:r.toNat<d.aj.length:=by have:=hr.1;omega
  have h1:=bU (g:=fun k y=>jR d F ((au d r).aA.getD k 0) y) (m:=(au d r).aA.length) (k:=0) (s:=x) (fun _ y=>Jm d y∧r∉y.1) ⟨hx,c2⟩ (fun j y _ hj hy=>by
   have hk:jq d ((au d r).aA.getD j 0) r.toNat:=h.zy r.toNat aQ j (by simpa using hj);obtain⟨k1,k2⟩:=hk;have kQ:jq d ((au d r).aA.getD j 0) d.aj.length:=⟨by omega,k2⟩;refine⟨KJ h F _ y hy.1 kQ,a6F F _ r y (by omega) hy.2 (by omega) (fun i hi k hk=>(h.zy i hi k hk).1) fun h5=>⟨h5,kQ.1⟩⟩)
  obtain⟨h2,h3⟩:=h1;refine⟨wV h2.n1 h3,fun a ha=>?_,h2.e1,h2.e2⟩;rw[a2Y,a2A]at ha;rcases ha with ha|rfl
  .exact h2.n2 a ha
  exact hi
abbrev ls(l:List Int):PB aC:=.list false false 3 l
abbrev wSr(d:Dg)(r:Int)(k:Int)(s:List Int×List Int)(x:List (Nat×PE aC)):aS aC:=⟨[(1,xi r),(2,xo 2),(3,xo 3),(4,.loc 0 0),(10,.loc 1 0),(11,xi k)]++x,[d.ps,(au d r).ps],[.gone,.gone,ls s.1,ls s.2]⟩
abbrev ajz(n:Nat)(d:Dg)(r:Int)(x y:List Int×List Int):Prop:=aU X0 Qp (bQ n) (.fn 133 [] []) [.agg d.ps,.int .i64 r,.own 0,.own 1] [ls x.1,ls x.2] (.dF [.own 2,.own 3]) [.gone,.gone,ls y.1,ls y.2]
theorem sSr{N:Nat}(hO:∀m,N<=m->Ok m aa6){d:Dg}(h:BF d):∀(F:Nat) (r:Int) (x:List Int×List Int),r+1<F->Jm d x->jq d r d.aj.length->1<=F->ajz (N+F) d r x (jR d F r x)
 | 0,r,x,_,_,_,h1=>by omega
 |F+1,r,x,hF,hx,hr,_=>by
  have hn:=hx.len.1;have he:=hx.len.2;have m1:=h.aj;have m2:=h.aK;have FT:=hO (N+F) (by omega);have mn:x.1.length<=ah:=by omega
  have me:x.2.length<=ah:=by omega
  unfold jR;by_cases c:r<0
  .have t0:decide (r<0)=true:=(by simpa using c);rw[a0q t0];by_cases c2:jE r∈x.2
   .have t1:(!(decide (jE r∈x.2)))=false:=(by simpa using c2);rw[a0p (by rw[t1];simp)];exact aU.gs hX (mQ hX FT (first:=[]) (cap:=[]) (v:=.dF [.own 0,.own 1]) (H1:=[ls x.1,ls x.2]) (by kernel_rfl) (.b t0 (.o me (.b t1 .er)))) [.mv 0,.mv 1] rfl
   have t1:(!(decide (jE r∈x.2)))=true:=(by simpa using c2);rw[a0q t1];have e1:=zA _ _ (wV hx.e1 c2) (fun a ha=>by
    rw[a2Y,a2A]at ha;rcases ha with ha|rfl
    .exact hx.e2 a ha
    exact hr.2 c)
   have e2:x.2.length+[jE r].length<=ah:=by rw[<-a1s];omega
   exact aU.gs hX (mQ hX FT (first:=[]) (cap:=[]) (v:=.dF [.own 0,.own 3]) (H1:=[ls x.1,.gone,.list true true 3 ([jE r]:List Int),ls (x.2++[jE r])]) (by kernel_rfl) (.b t0 (.o me (.b t1 (.o e2 .er))))) [.mv 0,.gc [4,3]] rfl
  have t0:decide (r<0)=false:=by simpa using c
  rw[a0p (by rw[t0];simp)];by_cases c2:r∈x.1
  .have t1:decide (r∈x.1)=true:=(by simpa using c2);rw[a0q t1];exact aU.gs hX (mQ hX FT (first:=[]) (cap:=[]) (v:=.dF [.own 0,.own 1]) (H1:=[ls x.1,ls x.2]) (by kernel_rfl) (.b t0 (.o mn (.b t1 .er)))) [.mv 0,.mv 1] rfl
  have t1:decide (r∈x.1)=false:=by simpa using c2
  rw[a0p (by rw[t1];simp)];have hi:fK r d.aj.length:=⟨by omega,hr.1⟩;obtain⟨i1,i2⟩:=id hi;have aQ:r.toNat<d.aj.length:=by omega
  have hl:Jj (N+F) 133 0 2 (wSr d r 0 x []) (.exit 0) (wSr d r (au d r).aA.length (aT (fun k y=>jR d F ((au d r).aA.getD k 0) y) (au d r).aA.length 0 x) [(40,xl false)]):=by
   refine vw (σ:=List Int×List Int) (N:=(au d r).aA.length) (g:=fun k y=>jR d F ((au d r).aA.getD k 0) y) (s0:=x) (st:=fun k y=>wSr d r k y []) (fin:=fun y=>wSr d r (au d r).aA.length y [(40,xl false)]) (fun _ y=>Jm d y) (by kernel_rfl) (m12 (h.Jl r.toNat aQ)) hx (fun k y hk hy=>?_) (fun k y hk hy m e p g=>?_) (fun y _=>aN FT (.b (fB (au d r).aA.length) .ex))
   .have hk:jq d ((au d r).aA.getD k 0) r.toNat:=h.zy r.toNat aQ k hk;have k1:(au d r).aA.getD k 0<(r.toNat:Int):=hk.1;exact KJ h F _ y hy ⟨by omega,hk.2⟩
   have kQ:jq d ((au d r).aA.getD k 0) r.toNat:=h.zy r.toNat aQ k hk;have k1:=kQ.1;have hs:=sSr hO h F ((au d r).aA.getD k 0) y (by omega) hy ⟨by omega,kQ.2⟩ (by omega);exact aN FT (.b (bn hk) (.o (aH hk) (.fr [2,3] hs (.goG [.gc [4,5]] g))))
  generalize hy:aT (fun k y=>jR d F ((au d r).aA.getD k 0) y) (au d r).aA.length 0 x=y at hl;have sk:=KJ h (F+1) r x hx hr;unfold jR at sk;rw[a0p (by rw[t0];simp),a0p (by rw[t1];simp),hy]at sk;have sl:(y.1++[r]).length<=d.aj.length:=sk.len.1;have ml:y.1.length+[r].length<=ah:=by rw[<-a1s];omega
  exact aU.gs hX (mQ hX FT (first:=[]) (cap:=[]) (v:=.dF [.own 5,.own 3]) (H1:=[.gone,.gone,.gone,ls y.2,.list true true 3 ([r]:List Int),ls (y.1++[r])]) (by kernel_rfl) (.b t0 (.o mn (.b t1 (.o hi (.wG [.mv 0,.mv 1] hl (.o ml .er))))))) [.gc [5,3]] rfl
def nlA:Arg Unit where
 put _:=.nil .slc
 get v:=match v with
  |.nil .slc=>some ()
  |_=>none
 ok:=by
  intro v a hg A m h x hv;split at hg
  .exact hv
  .cases hg
abbrev wSn(d:Dg)(r:Int)(k:Int)(s:List Int×List Int)(x:List (Nat×PE aC)):aS aC:=⟨[(1,xi r),(2,xo 0),(3,xo 1),(4,.loc 0 0),(10,.loc 1 0),(11,xi k)]++x,[d.ps,(au d r).ps],[ls s.1,ls s.2]⟩
theorem sr0{d:Dg}:Jm d ([],[]):=⟨a6z,by simp,a6z,by simp⟩
def srN(d:Dg)(r:Int):List Int:=(jR d 6002 r ([],[])).1
def srE(d:Dg)(r:Int):List Int:=(jR d 6002 r ([],[])).2
def a1t:fA aC:=cO 133 (a4 dA iA nlA nlA) (dR (a2 pK pK)) (fun p=>(srN p.1 p.2.1,srE p.1 p.2.1)) (fun p=>[BF p.1,jq p.1 p.2.1 p.1.aj.length,p.1.aj.length<=6000]) aa6
theorem ajB:Gd a1t:=aoY.deep 6001 fun n hn hO p hp=>by
 obtain⟨d,r,_,_⟩:=p;have h:BF d:=hp _ (.head _);have hr:jq d r d.aj.length:=hp _ (.tail _ (.head _));have hm:d.aj.length<=6000:=hp _ (.tail _ (.tail _ (.head _)));obtain⟨N,rfl⟩:∃N,n=N+6001:=⟨n-6001,by omega⟩;have hO:∀m,N<=m->Ok m aa6:=fun m hm=>hO m (by omega);have FT:=hO (N+6001) (by omega);by_cases c:r<0
 .have t0:decide (r<0)=true:=by simpa using c
  have t1:(!(decide (jE r∈([]:List Int))))=true:=by simp
  have e:jR d 6002 r ([],[])=([],[jE r]):=by
   rw[jR,a0q t0,a0q t1];rfl
  show nZ X0 Qp _ _ _ ((dR (a2 pK pK)).put ((jR d 6002 r ([],[])).1,(jR d 6002 r ([],[])).2)) [];rw[e];exact aO FT (.b t0 (.o le0 (.b t1 (.o le1 (.rn (.dF [.nil .slc,.dD 3 ([jE r]:List Int) false]) rfl)))))
 .have t0:decide (r<0)=false:=by simpa using c
  have t1:decide (r∈([]:List Int))=false:=by simp
  have hi:fK r d.aj.length:=⟨by omega,hr.1⟩;obtain⟨i1,i2⟩:=id hi;have aQ:r.toNat<d.aj.length:=by omega
  have hl:Jj (N+6001) 133 0 0 (wSn d r 0 ([],[]) []) (.exit 0) (wSn d r (au d r).aA.length (aT (fun k y=>jR d 6001 ((au d r).aA.getD k 0) y) (au d r).aA.length 0 ([],[])) [(40,xl false)]):=by
   refine vw (σ:=List Int×List Int) (N:=(au d r).aA.length) (g:=fun k y=>jR d 6001 ((au d r).aA.getD k 0) y) (s0:=(([],[]):List Int×List Int)) (st:=fun k y=>wSn d r k y []) (fin:=fun y=>wSn d r (au d r).aA.length y [(40,xl false)]) (fun _ y=>Jm d y) (by kernel_rfl) (m12 (h.Jl r.toNat aQ)) sr0 (fun k y hk hy=>?_) (fun k y hk hy m e p g=>?_) (fun y _=>aN FT (.b (fB (au d r).aA.length) .ex))
   .have hk:jq d ((au d r).aA.getD k 0) r.toNat:=h.zy r.toNat aQ k hk;have k1:(au d r).aA.getD k 0<(r.toNat:Int):=hk.1;exact KJ h 6001 _ y hy ⟨by omega,hk.2⟩
   .have kQ:jq d ((au d r).aA.getD k 0) r.toNat:=h.zy r.toNat aQ k hk;have k1:(au d r).aA.getD k 0<(r.toNat:Int):=kQ.1;have hs:=sSr hO h 6001 ((au d r).aA.getD k 0) y (by omega) hy ⟨by omega,kQ.2⟩ (by omega);exact aN FT (.b (bn hk) (.o (aH hk) (.fr [0,1] hs (.goG [.gc [2,3]] g))))
  have sk:=KJ h 6002 r ([],[]) sr0 hr;have e:jR d 6002 r ([],[])=((aT (fun k y=>jR d 6001 ((au d r).aA.getD k 0) y) (au d r).aA.length 0 ([],[])).1++[r],(aT (fun k y=>jR d 6001 ((au d r).aA.getD k 0) y) (au d r).aA.length 0 ([],[])).2):=by
   rw[jR,a0p (by rw[t0];simp),a0p (by rw[t1];simp)]
  show nZ X0 Qp _ _ _ ((dR (a2 pK pK)).put ((jR d 6002 r ([],[])).1,(jR d 6002 r ([],[])).2)) [];rw[e]at sk ⊢;generalize aT (fun k y=>jR d 6001 ((au d r).aA.getD k 0) y) (au d r).aA.length 0 ([],[])=y at hl sk;have sl:(y.1++[r]).length<=d.aj.length:=sk.len.1;have m1:=h.aj;have ml:y.1.length+[r].length<=ah:=by rw[<-a1s];omega
  exact aO FT (.b t0 (.o le0 (.b t1 (.o hi (.wG [.GU 2 3,.GU 3 3] hl (.o ml .rr))))))
open Go Tw Pv dw
abbrev cD1(d:Dg)(i j:Nat):Bool:=decide (d.aK.getD j V0=d.aK.getD i V0)
abbrev cD0(d:Dg)(i:Nat):Bool:=if kG (bF (cD1 d i) i)=true then false else true
abbrev cD3(d:Dg)(i j:Nat):Bool:=if((fC d j).var==(fC d i).var)=true then decide ((fC d j).aA=(fC d i).aA)else false
abbrev cD2(d:Dg)(i:Nat):Bool:=if wU (fC d i)=true then true else if kG (bF (cD3 d i) i)=true then false else true
abbrev wD(d:Dg)(x:List (Nat×PE aC)):aS aC:=⟨[(1,.loc 0 0)]++x,[d.ps],[]⟩
abbrev rD(d:Dg):Ex×aS aC:=(.ret,⟨[(2,xl false)],[d.ps],[]⟩)
def zD1(d:Dg)(i:Nat):Unit⊕Nat->Ex×aS aC
 |.inl _=>(.exit 2,wD d [(3,xi i),(4,xi i),(18,xl false)])
 |.inr _=>rD d
theorem lD1{n:Nat}{fP:fA aC}(hO:Ok n fP){d:Dg}(h:DgL d){i:Nat}(hi:i<d.aK.length):Lp n 84 1 (wD d [(3,xi i),(4,xi 0)]) (zD1 d i (bF (cD1 d i) i)).1 (zD1 d i (bF (cD1 d i) i)).2:=
 iL (st:=fun j _=>wD d [(3,xi i),(4,xi j)]) (fun _ _=>True) (by kernel_rfl) (by have:=h.aK;omega) trivial (fun j s m hj _ ih=>aN hO (.b (bn hj) (.o (aH (show j<d.aK.length by omega)) (.o (aH hi) (.q (.bool (cD1 d i j)) (eqV (.tmp 25) (.tmp 30) (d.aK.getD j V0) (d.aK.getD i V0)) (.ls (.ou nofun) (.nx (ih _ trivial)))))))) (fun s _=>aN hO (.b (fB i) (.ou nofun)))
def zD0(d:Dg):Unit⊕Nat->Ex×aS aC
 |.inl _=>(.exit 0,wD d [(3,xi d.aK.length),(13,xl false)])
 |.inr _=>rD d
theorem lD0{n:Nat}{fP:fA aC}(hO:Ok n fP){d:Dg}(h:DgL d):Lp n 84 0 (wD d [(3,xi 0)]) (zD0 d (bF (cD0 d) d.aK.length)).1 (zD0 d (bF (cD0 d) d.aK.length)).2:=
 iL (st:=fun i _=>wD d [(3,xi i)]) (fun _ _=>True) (by kernel_rfl) h.aK trivial (fun i s m hi _ ih=>by
  have hl:=lD1 hO h hi;unfold gS cD0;cases e:kG (bF (cD1 d i) i)
  .exact aN hO (.b (bn hi) (.w (ku hl 0 e) (.ou nofun)))
  .exact aN hO (.b (bn hi) (.w (jZ hl () e) (.nx (ih _ trivial))))
  ) (fun s _=>aN hO (.b (fB d.aK.length) (.ou nofun)))
def zD3(d:Dg)(i:Nat):Unit⊕Nat->Ex×aS aC
 |.inl _=>(.exit 6,wD d [(5,xi i),(6,xi i),(47,xl false)])
 |.inr _=>rD d
theorem lD3{n:Nat}(hO:Ok n a1t){d:Dg}(h:BF d){i:Nat}(hi:i<d.aj.length):Lp n 84 3 (wD d [(5,xi i),(6,xi 0)]) (zD3 d i (bF (cD3 d i) i)).1 (zD3 d i (bF (cD3 d i) i)).2:=
 iL (st:=fun j _=>wD d [(5,xi i),(6,xi j)]) (fun _ _=>True) (by kernel_rfl) (by have:=h.aj;omega) trivial (fun j s m hj _ ih=>by
  have rX:j<d.aj.length:=by omega
  unfold gS cD3;cases e:((fC d j).var==(fC d i).var)
  .exact aN hO (.b (bn hj) (.o (aH rX) (.o (aH hi) (.b e (.nx (ih _ trivial))))))
  .exact aN hO (.b (bn hj) (.o (aH rX) (.o (aH hi) (.b e (.o (aH rX) (.o (aH hi) (.o (m12 (h.Jl j rX)) (.ls (.ou nofun) (.nx (ih _ trivial))))))))))
  ) (fun s _=>aN hO (.b (fB i) (.ou nofun)))
def zD2(d:Dg):Unit⊕Nat->Ex×aS aC
 |.inl _=>(.exit 4,wD d [(5,xi d.aj.length),(36,xl false)])
 |.inr _=>rD d
theorem lD2{n:Nat}(hO:Ok n a1t){d:Dg}(h:BF d):Lp n 84 2 (wD d [(5,xi 0)]) (zD2 d (bF (cD2 d) d.aj.length)).1 (zD2 d (bF (cD2 d) d.aj.length)).2:=
 iL (st:=fun i _=>wD d [(5,xi i)]) (fun _ _=>True) (by kernel_rfl) h.aj trivial (fun i s m hi _ ih=>by
  have hl:=lD3 hO h hi;unfold gS cD2;cases e1:wU (fC d i)
  .cases e:kG (bF (cD3 d i) i)
   .exact aN hO (.b (bn hi) (.o (aH hi) (.o (m12 (h.Jl i hi)) (.b e1 (.w (ku hl 0 e) (.ou nofun))))))
   .exact aN hO (.b (bn hi) (.o (aH hi) (.o (m12 (h.Jl i hi)) (.b e1 (.w (jZ hl () e) (.nx (ih _ trivial)))))))
  .exact aN hO (.b (bn hi) (.o (aH hi) (.o (m12 (h.Jl i hi)) (.b e1 (.ou nofun)))))
  ) (fun s _=>aN hO (.b (fB d.aj.length) (.ou nofun)))
def pV(d:Dg):Bool:=if kG (bF (cD0 d) d.aK.length)=true then(if kG (bF (cD2 d) d.aj.length)=true then(if zu (srN d d.root) (d.aj.length:Int)=true then zu (srE d d.root) (d.aK.length:Int)else false)else false)else false
theorem a1u{d:Dg}(h:BF d):(srN d d.root).length<=ah∧(srE d d.root).length<=ah:=by
 have hl:=(KJ h 6002 d.root ([],[]) sr0 h.root).len;exact⟨a4T hl.1 h.aj,a4T hl.2 h.aK⟩
def ajC:fA aC:=cO 84 (a1 dA) tA (fun p=>pV p) (fun p=>[BF p,p.aj.length<=6000]) a1t
theorem aoZ:Gd ajC:=ajB.add fun n hO p hp=>aO hO (.zh (fun h=>.w (jZ (lD0 hO (show BF p from hp _ (.head _)).toDgL) () h) (.zh (fun h2=>.w (jZ (lD2 hO (show BF p from hp _ (.head _))) () h2) (.o (hp _ (.head _)) (.o (show BF p from hp _ (.head _)).root (.o (hp _ (.tail _ (.head _))) (.o (a1u (hp _ (.head _))).1 (.ss (.o (a1u (hp _ (.head _))).2 .rr) .rr)))))) fun h2=>.w (ku (lD2 hO (show BF p from hp _ (.head _))) 0 h2) .rr)) fun h=>.w (ku (lD0 hO (show BF p from hp _ (.head _)).toDgL) 0 h) .rr)
theorem Xt{d:Dg}(hm:d.aK.length<=ah){r:Int}{b:Nat}(h:iM d r b=true):jq d r b:=by
 unfold iM at h;by_cases c:0<=r
 .rw[a0q (by simpa using c)]at h;exact⟨by simpa using h,fun h2=>by omega⟩
 rw[a0p (by simpa using c),oQ]at h;have e:i64.wrap ((d.aK.length:Int)-1)=(d.aK.length:Int)-1:=by unfold ah at hm;exact dZ (by omega) (by omega)
 rw[e]at h;obtain⟨h1,h2⟩:=h;exact⟨by omega,fun _=>⟨h1,show jE r<_ by show i64.wrap (-1-r)<_;omega⟩⟩
theorem a6G{d:Dg}(h:DgL d)(hl:lN d=true):BF d:=by
 unfold lN at hl;split at hl
 rotate_left
 .cases hl
 split at hl
 rotate_left
 .cases hl
 rename_i h1 h2;have h2:=dL.1 h2;have key:∀i,i<d.aj.length->jP (fC d i).var 0 (xw d.ay)=true∧(((fC d i).aA.length:Int) != d.ay.getD (fC d i).var.toNat 0)=false∧kG (bF (cLk d i) (fC d i).aA.length)=true:=fun i hi=>by
  have:=h2 i hi;unfold ZI at this;split at this
  .cases this
  split at this
  .cases this
  split at this
  .rename_i a b c;exact⟨by simpa using a,by simpa using b,c⟩
  cases this
 refine⟨h,fun i hi k hk=>?_,fun i hi=>?_,fun i hi=>?_,fun i hi=>?_,Xt h.aK hl⟩
 .have:=dL.1 (key i hi).2.2 k hk;unfold cLk at this;split at this
  .cases this
  rename_i a;exact Xt h.aK (by simpa using a)
 .exact Xr h.bJ (Jk h.bJ (key i hi).1) (key i hi).2.1
 .exact Jk h.bJ (key i hi).1
 simpa using(key i hi).2.1
theorem iY{d:Dg}(ho:d.aG.length<=ah)(he:d.aK.length<=ah)(h:(aX d != 0)=false):BF d∧d.aj.length<=6000:=by
 unfold aX at h;split at h
 .rename_i h1;simp at h h1;exact absurd h h1
 split at h
 .cases h
 split at h
 .cases h
 rename_i h1 h2 h3;have h2:decide ((d.aj.length:Int)>6000)=false:=by simpa using h2
 exact⟨a6G ⟨ho,UH h2,he,AB (by simpa using h1)⟩ (by simpa using h3),by simp at h2;omega⟩
def kY(d:Dg):Int:=if(aX d != 0)=true then aX d else if(!(pV d))=true then 4 else 0
def ajE:fA aC:=cO 22 (a1 dA) iA (fun p=>kY p) (fun p=>[p.aG.length<=ah,p.aK.length<=ah]) ajC
theorem ap0:Gd ajE:=aoZ.add fun n hO p hp=>aO hO (.o (hp _ (.head _)) (.o (hp _ (.tail _ (.head _))) (.sh (fun _=>.rr) fun h=>.o (iY (hp _ (.head _)) (hp _ (.tail _ (.head _))) h).1 (.o (iY (hp _ (.head _)) (hp _ (.tail _ (.head _))) h).2 (.ss .rr .rr)))))
open Go Tw Pv dw
def gAt(d:Dg)(p:List Int)(r:Int):Int⊕Int:=if decide (r>=0)=true then .inl ((au d r).aA.getD (p.getD (au d r).var.toNat 0).toNat 0)else .inr r
def ZJ(d:Dg)(p:List Int):Nat->Int->Int
 | 0,r=>r
 |F+1,r=>if r<0 then r else ZJ d p F ((au d r).aA.getD (p.getD (au d r).var.toNat 0).toNat 0)
theorem acH{d:Dg}{p:List Int}:∀(F:Nat) (r:Int),ZJ d p F r<0->itF (gAt d p) (F+1) r=some (ZJ d p F r)
 | 0,r,h=>by
  have h:r<0:=h;have e:gAt d p r=.inr r:=by unfold gAt;rw[a0p (by simpa using h)]
  rw[itF,e];rfl
 |F+1,r,h=>by
  by_cases c:r<0
  .have e:gAt d p r=.inr r:=by unfold gAt;rw[a0p (by simpa using c)]
   rw[itF,e,ZJ,a0q c]
  have e:gAt d p r=.inl ((au d r).aA.getD (p.getD (au d r).var.toNat 0).toNat 0):=by unfold gAt;rw[a0q (by simp;omega)]
  rw[ZJ,a0p c]at h;rw[itF,e,ZJ,a0p c];exact acH F _ h
theorem P6{d:Dg}(h:BF d){p:List Int}(hp:gX d.ay p=true){r:Int}(hr:fK r d.aj.length):fK (au d r).var p.length∧fK (p.getD (au d r).var.toNat 0) (au d r).aA.length∧jq d ((au d r).aA.getD (p.getD (au d r).var.toNat 0).toNat 0) r.toNat:=by
 obtain⟨r1,r2⟩:=hr;have hl:r.toNat<d.aj.length:=by omega
 have hv:=h.var r.toNat hl;have hk:=h.ksz r.toNat hl;obtain⟨v1,v2⟩:=hv;obtain⟨p1,p2⟩:=jo.1 hp;have p3:=p2 (au d r).var.toNat (by show(fC d r.toNat).var.toNat<_;omega);have k1:fK (p.getD (au d r).var.toNat 0) (au d r).aA.length:=⟨p3.1,by show _<((fC d r.toNat).aA.length:Int);rw[hk];exact p3.2⟩;refine⟨⟨v1,by rw[p1];exact v2⟩,k1,h.zy r.toNat hl _ ?_⟩;obtain⟨k2,k3⟩:=k1;show _<(au d r).aA.length;omega
theorem UJ{d:Dg}(h:BF d){p:List Int}(hp:gX d.ay p=true):∀(F:Nat) (r:Int),r<F->jq d r d.aj.length->jq d (ZJ d p F r) 0
 | 0,r,hr,hk=>⟨by show r<((0:Nat):Int);omega,hk.2⟩
 |F+1,r,hr,hk=>by
  unfold ZJ;split
  .rename_i c;exact⟨by show r<((0:Nat):Int);omega,hk.2⟩
  rename_i c;have:=(P6 h hp (r:=r) ⟨by omega,hk.1⟩).2.2;obtain⟨a1,a2⟩:=this;have a3:r<(d.aj.length:Int):=hk.1;exact UJ h hp F _ (by omega) ⟨by omega,a2⟩
abbrev atR(d:Dg)(p:List Int):Int:=ZJ d p 6001 d.root
def vN(d:Dg)(p:List Int):V:=d.aK.getD (jE (atR d p)).toNat V0
abbrev wAt(d:Dg)(p:List Int)(r:Int)(x:List (Nat×PE aC)):aS aC:=⟨[(1,xL 3 p),(2,.loc 0 0),(4,.loc 1 0),(5,xi r)]++x,[d.ps,V0.ps],[]⟩
theorem lAt{n:Nat}{fP:fA aC}(hO:Ok n fP){d:Dg}(h:BF d)(hm:d.aj.length<=6000){p:List Int}(hp:gX d.ay p=true):Lp n 98 0 (wAt d p d.root []) (.exit 0) (wAt d p (atR d p) [(9,xl false)]):=by
 have h0:d.root<(d.aj.length:Int):=h.root.1;have ha:=UJ h hp 6001 d.root (by omega) h.root;have Qm:=acH 6001 d.root ha.1;refine ZH (st:=fun r=>wAt d p r []) (g:=gAt d p) (out:=fun r=>(.exit 0,wAt d p r [(9,xl false)])) (fun r=>jq d r d.aj.length) Qm (by kernel_rfl) (by decide) h.root ?_ ?_
 .intro r r1 hr e;unfold gAt at e;split at e
  .rename_i c;have c:0<=r:=(by simpa using c);cases e;have:=(P6 h hp (r:=r) ⟨c,hr.1⟩).2.2;have a3:r<(d.aj.length:Int):=hr.1;obtain⟨a1,a2⟩:=this;exact⟨by omega,a2⟩
  cases e
 intro r m r' hr ih;by_cases c:0<=r
 .have hk:=P6 h hp (r:=r) ⟨c,hr.1⟩;have t1:decide (r>=0)=true:=by simpa using c
  have e:gAt d p r=.inl ((au d r).aA.getD (p.getD (au d r).var.toNat 0).toNat 0):=by unfold gAt;rw[a0q t1]
  have g:=ih _ e;rw[e];have uV:fK r d.aj.length:=⟨c,hr.1⟩;exact aN hO (.b t1 (.o uV (.o uV (.o hk.1 (.o hk.2.1 (.go g))))))
 have t1:decide (r>=0)=false:=by simpa using c
 have e:gAt d p r=.inr r:=by unfold gAt;rw[a0p (by rw[t1];simp)]
 rw[e];dsimp only[Dh];exact aN hO (.b t1 .ex)
theorem aac{d:Dg}(h:BF d)(hm:d.aj.length<=6000){p:List Int}(hp:gX d.ay p=true):fK (jE (atR d p)) d.aK.length:=by
 have h0:d.root<(d.aj.length:Int):=h.root.1;have ha:=UJ h hp 6001 d.root (by omega) h.root;exact ha.2 ha.1
def ajF:fA aC:=cO 98 (a2 dA pK) vA (fun p=>vN p.1 p.2) (fun p=>[BF p.1,p.1.aj.length<=6000,gX p.1.ay p.2=true]) ajE
theorem ap1:Gd ajF:=ap0.add fun n hO p hp=>aO hO (.w (lAt hO (hp _ (.head _)) (hp _ (.tail _ (.head _))) (hp _ (.tail _ (.tail _ (.head _))))) (.o (aac (hp _ (.head _)) (hp _ (.tail _ (.head _))) (hp _ (.tail _ (.tail _ (.head _))))) .rr))
structure DgU(d:Dg):Prop where
 t:BF d
 aj:d.aj.length<=6000
 ok:(aX d != 0)=false
def ajG:fA aC:=cO 51 (a2 dA pK) vA (fun p=>vN p.1 p.2) (fun p=>[DgU p.1,gX p.1.ay p.2=true]) ajF
theorem ap2:Gd ajG:=ap1.add fun n hO p hp=>aO hO (.o (show DgU p.1 from hp _ (.head _)).t.aG (.o (show DgU p.1 from hp _ (.head _)).t.aK (.b (show DgU p.1 from hp _ (.head _)).ok (.o (show p.2.length<=ah by rw[jm (show gX p.1.ay p.2=true from hp _ (.tail _ (.head _)))];exact(show DgU p.1 from hp _ (.head _)).t.bJ.aeM) (.o (show DgU p.1 from hp _ (.head _)).t.bJ.sz (.b (show(!(gX p.1.ay p.2))=false by rw[show gX p.1.ay p.2=true from hp _ (.tail _ (.head _))];rfl) (.o (show DgU p.1 from hp _ (.head _)).t (.o (show DgU p.1 from hp _ (.head _)).aj (.o (hp _ (.tail _ (.head _))) .rr)))))))))
open Go Tw Pv dw
theorem aae{A:Nat->Prop}{m:List MB}{h:List HB}{l:List Int}{cs:List TV}(hr:eF X0 Qp A m h 3 l cs 0 1)(hc:cs.length=l.length):cs=l.map fun n=>TV.int .i64 n:=by
 apply a9e (by simp[hc]);intro j h1 h2;have hj:j<l.length:=by omega
 have:=hr.2.2 j l[j] 0 (.int .i64 l[j]) cs[j] (a0g hj) rfl (by rw[a0d];exact⟨by omega,by simp⟩);rw[this.a1m];simp
theorem SG:∀l:List Int,KG (l.map fun n=>TV.int .i64 n)=some l
 | []=>rfl
 |a::l=>by simp[KG,SG l]
theorem SH{A:Nat->Prop}{m:List MB}{h:List HB}(l:List Int):eF X0 Qp A m h 3 l (l.map fun n=>TV.int .i64 n) 0 1:=by
 refine⟨fun j a _=>rfl,by simp only[a4l,agX,a3Z];exact a0w _,fun j a i c v hj hi hv=>?_⟩;have rX:=(a0d.1 hj).1;cases i with
 |zero=>
  have hi:some (PV.int .i64 a)=some c:=hi;cases hi;have hj:(l:List Int)[j]? = some a:=hj;rw[a3Z,agX,adv,a4q,hj]at hv;have hv:some (TV.int .i64 a)=some v:=hv;cases hv;exact .int _ _
 |succ i=>have hi:([]:List (PV aC))[i]? = some c:=hi;simp at hi
theorem KL:dG Qp 3=some 1:=by kernel_rfl
theorem a6H(n:Nat)(x:TV)(h:List HB):lq Qp T LL (n+1) (.fn 137 [] []) [x] h=OU 137 (.fn 137 [] []) [x] h:=rfl
theorem aaf{f c:Nat}{h:List HB}{kk Bo:BK}{cs:List TV}{l:List Int}{e:Bool}(hb:h[c]? = some (.cells kk cs))(hk:zU kk true=some Bo)(QY:cs=l.map fun n=>TV.int .i64 n)(h0:0<l.length)(h1:l.length<=2^20) :
  OU f (.fn f [] []) [.slc c 0 l.length l.length 1 e] h=some (.dF [],h.set c (.cells Bo ((gW l).map fun n=>TV.int .i64 n)),[c]):=by
 have qm:cs.length=l.length:=by rw[QY,a4l]
 have him:KG cs=some l:=by rw[QY];exact SG l
 generalize l.length=n at *;obtain⟨j,rfl⟩:∃j,n=j+1:=⟨n-1,by omega⟩;simp only[OU,a6t,a2y,hb,hk,him,qm,h0,h1,acU]
theorem acI{n:Nat}{k ex:Bool}(l:List Int)(hl:l.length<=2^20):aU X0 Qp (bQ (n+1)) (.fn 137 [] []) [.own 0] [.list k ex 3 l] (.dF []) [.list k ex 3 (gW l)]:=by
 intro A m h tf qZ hr hf hx;obtain⟨x,r,rfl,h1,h2⟩:=hx.inv;have:=h2.inv0;subst this;obtain⟨g1,g2⟩:=a9P hr (i:=0) (k:=k) (ex:=ex) (t:=3) (l:=l) rfl h1;have htf:=hf.UD;subst htf;show ∃w h1 ws m1,lq Qp T LL (n+1) _ _ h=_∧_;rw[a6H];have ap3:gW ([]:List Int)=[]:=by simp[gW]
 have hE:∀h0:(l:List Int)=[],gW l=l:=fun h0=>by rw[h0];exact ap3
 rcases aeF g2 with⟨h0,rfl⟩|⟨h0,b,off,sz,cs,rfl,p0,p1,p2,p3,p4⟩|⟨p1,c,sz,e,kk,cs,rfl,p2,p3,p4,p5,p6,p7,p8,p9⟩
 .rw[hE h0];exact⟨.dF [],h,[],m,rfl,hr,.dF rfl (fun i x y hx=>by simp at hx),.refl,.refl,fun b hb=>by cases hb⟩
 .rw[hE h0];exact⟨.dF [],h,[],m,rfl,hr,.dF rfl (fun i x y hx=>by simp at hx),.refl,.refl,fun b hb=>by cases hb⟩
 rw[KL]at p2;cases p2;have p8:cs.length=(l:List Int).length*1:=p8;have qm:cs.length=l.length:=by omega
 have QY:=aae p9 qm;have hn0:0<l.length:=by cases l with|nil=>exact absurd rfl p1|cons=>simp
 obtain⟨Bo,xP,ae8,hko⟩:=J5 p5;have aQ:=(a0d.1 p4).1;have vJ:(MB.dD (TV.slc c 0 l.length l.length 1 e)).own=some c:=by simp only[MB.own];rw[a0p (by omega)]
 have hsl:(gW l).length=l.length:=by unfold gW;rw[aa9]
 have iE:gW l≠[]:=fun e0=>by rw[e0]at hsl;simp at hsl;omega
 obtain⟨q1,q2⟩:=hr.set (i:=0) (c:=c) (pb:=.list k ex 3 (gW l)) (hb:=.cells Bo ((gW l).map fun n=>TV.int .i64 n)) g1 vJ
  (fun WL JY=>⟨_,by simp only[aW];rw[a1T aQ],by
   simp only[aW,p4,a03]at JY;subst JY;rw[a4l,hsl,qm];exact a0w _⟩)
  (fun hF=>by
   have r:=LR.some (X:=X0) (P:=Qp) (A:=AA A m) (m:=m) (k:=k) (ex:=ex) (e:=e) (t:=3) (b:=c) (kk:=Bo) iE KL (by decide) (by rw[a1T aQ]) ae8 (fun e0=>hko (p6 e0)) p7 (by rw[a4l,agX];rfl) (SH (gW l));have ap4:@List.length (X0.Γ 3) (gW l)=l.length:=hsl;rw[ap4]at r;exact r)
 refine⟨.dF [],_,[c],m,?_,q1,.dF rfl (fun i x y hx=>by simp at hx),q2,.refl,fun d hd=>?_⟩
 .exact aaf p4 xP QY hn0 hl
 simp at hd;subst hd;exact bf g1 vJ
end Go.Proofs.YtmobpoiejckagaaGreat
namespace Pv
open Go Tw
variable {X:kR} {P:Program}
theorem nZ.aag(hX:bM X P){call:aY}{f:FuncId}{xs vs:List (PV X.Γ)}{v v':PV X.Γ}{ext ext':List (PB X.Γ)}(hc:nZ X P call f vs v ext)(hv:views [] ([]++xs++[])=some vs)(hs:qV X 0 ext=some ext')
  (e:shift 0 v=v') (he:(if xE v||ext.any (hasB X)then aZ (kL.jY ([]++xs++[])) []else [])=([]:List (PB X.Γ))):aU X P call (.fn f [] []) xs [] v' ext':=by
 subst e;intro A m h tf qZ hr hf hx;have htf:=hf.UD;subst htf;obtain⟨w,h',m1,c1,c2,c3,c4,c5⟩:=Hf hX hc hr hv hs (t1:=[]) (t3:=[]) .nil hx .nil;rw[he]at c2;exact⟨w,h',[],m1,c1,c2,c3,c4,c5,fun b hb=>by cases hb⟩
end Pv
namespace Go.Proofs.YtmobpoiejckagaaGreat
open Go Tw Pv dw
abbrev lsI(l:List Int):List (PB aC):=[.list false false 3 l]
theorem a3o(n:Nat)(h:List HB):Uc Qp T (bQ n) LL 125 [.nil .slc] h=some (.nil .slc,h,[]):=by kernel_rfl
theorem a3p(n b off cap:Nat)(ex:Bool)(h:List HB):Uc Qp T (bQ n) LL 125 [.slc b off 0 cap 1 ex] h=some (.slc h.length 0 0 0 1 true,h++[.cells .own []],[]):=by kernel_rfl
theorem af7{n:Nat}:nZ X0 Qp (bQ (n+1)) 125 [.dD 3 ([]:List Int) false] (.own 0) (lsI []):=by
 intro A h first args cap Iw hv
 obtain⟨x,r,e,h1,h2⟩:=hv.inv;have:=h2.inv0;subst this;have hun:lq Qp T LL (n+1) (.fn 125 first cap) args h=Uc Qp T (bQ n) LL 125 [x] h:=by
  rw[<-e];show lq Qp T LL (n+1) _ _ _=_;rw[lq,a0p (by decide),a0p (by decide)]
 rcases a6l h1 with rfl|⟨b,off,cap',sz,ex,cs,rfl,a1,a2,a3,a4,a5⟩
 .exact⟨.nil .slc,h,[.dD (.nil .slc)],by rw[<-a3o n h,<-hun],Xa Iw .nil rfl,.own rfl rfl,⟨a0w _,fun _ _ _=>rfl,fun b hb=>by simp[bD,MB.own]at hb,fun b cs hc=>⟨cs,hc,a0w _⟩⟩⟩
 rw[KL]at a3;cases a3;have hc:aW (h++[HB.cells .own []]) h.length=some []:=by unfold aW;rw[a1d (a0w _),agK];rfl
 refine⟨.slc h.length 0 0 0 1 true,h++[.cells .own []],[.dD (.slc h.length 0 0 0 1 true)],by rw[<-a3p n b off cap' ex h,<-hun],Xa (fun b hb=>Iw b (by simp at hb;omega)) (.emp ⟨Iw _ (a0w _),by simp[bD,MB.own]⟩ hc (a0w _) KL (by decide)) (by simp[MB.own]),.own rfl rfl,⟨by simp,fun b hb _=>by rw[a0k hb],fun b hb=>by simp[bD,MB.own]at hb,fun b cs hc=>⟨cs,?_,a0w _⟩⟩⟩;rw[fV (a0k (gV hc)),hc]
def acJ:fA aC:=ZC 125 (a1 pK) (fun _=>.own 0) (fun p=>lsI p) (fun p=>[p.length<=ah]) ajG
theorem ajI:Gd acJ:=ap2.X6 0 fun n _ hO p hp=>by
 have hl:p.length<=ah:=hp _ (.head _);by_cases h:p=[]
 .subst h;exact af7
 .have h2:([]:List Int).length+p.length<=ah:=by simpa using hl
  exact nZ.gs hX (BA hX (hO n (by omega)) (v:=.own 1) (H:=[.gone,.list true false 3 p]) (by kernel_rfl) (.o h (.b (rfl:false=false) (.o h2 .er)))) [.gc [1],.flag 0] rfl
abbrev aah(m:Nat)(i:Int)(l:List Int)(x:List (Nat×PE aC)):aS aC:=⟨[(3,xo 0),(7,xi m),(8,xi i)]++x,[],[.list true true 3 l]⟩
theorem a6I(m:Nat):aT (fun k (l:List Int)=>l.set k (k:Int)) m 0 (List.replicate m 0)=dO m:=by
 have:=bU (g:=fun k (l:List Int)=>l.set k (k:Int)) (m:=m) (k:=0) (s:=List.replicate m 0) (fun k l=>l.length=m∧∀j,j<k->l.getD j 0=(j:Int)) ⟨by simp,by simp⟩ (fun j l _ hj h=>⟨by simp[h.1],fun i hi=>by
  rw[dw.yU (by omega)];split
  .rename_i e;rw[e]
  exact h.2 i (by omega)⟩)
 rw[oP (d:=0) (by rw[this.1,lM])];intro j hj;have rX:j<m:=by have:=this.1;omega
 rw[this.2 j (by omega)];simp[dO,List.getD,a4q,List.getElem?_range,rX]
theorem ap5{n:Nat}{fP:fA aC}(hO:Ok n fP)(m:Nat)(hm:m<=ah):Lp n 159 0 (aah m 0 (List.replicate m 0) []) (.exit 0) (aah m m (dO m) [(9,xl false)]):=by
 rw[<-a6I];exact vw (σ:=List Int) (N:=m) (g:=fun k (l:List Int)=>l.set k (k:Int)) (s0:=List.replicate m 0) (st:=fun i (l:List Int)=>aah m i l []) (fin:=fun(l:List Int)=>aah m m l [(9,xl false)]) (fun _ (l:List Int)=>l.length=m) (by kernel_rfl) hm (by simp) (fun k l _ h=>by simp[h]) (fun k l hk hl j e p g=>aN hO (.b (bn hk) (.o (aH (show k<l.length by omega)) (.go g)))) (fun l _=>aN hO (.b (fB m) .ex))
def acK:fA aC:=cO 159 (a1 iA) pK (fun p=>dO p.toNat) (fun p=>[0<=p,p<=(ah:Int)]) acJ
theorem ajJ:Gd acK:=ajI.add fun n hO p hp=>by
 have h0:0<=p:=hp _ (.head _);have h1:p<=(ah:Int):=hp _ (.tail _ (.head _));obtain⟨m,rfl⟩:∃m:Nat,p=(m:Int):=⟨p.toNat,by omega⟩;exact aO hO (.o (rfl:(m:Int)=(m:Int)) (.o h0 (.o h1 (.w (ap5 hO m (by omega)) .rr))))
abbrev af8(a b:List Int)(i:Int)(x:List (Nat×PE aC)):aS aC:=⟨[(0,xL 3 a),(1,xL 3 b),(12,xi a.length),(13,xi i)]++x,[],[]⟩
def ajK(a b:List Int):Unit⊕Nat->Ex×aS aC
 |.inl _=>(.exit 0,af8 a b a.length [(14,xl false)])
 |.inr _=>(.ret,⟨[(4,xl false)],[],[]⟩)
theorem ajL{n:Nat}{fP:fA aC}(hO:Ok n fP)(a b:List Int)(hl:a.length<=ah)(h:a.length=b.length):Lp n 158 0 (af8 a b 0 []) (ajK a b (bF (KH a b) a.length)).1 (ajK a b (bF (KH a b) a.length)).2:=
 iL (st:=fun i _=>af8 a b i []) (fun _ _=>True) (by kernel_rfl) hl trivial (fun k s m hk _ ih=>aN hO (.b (bn hk) (.o (aH hk) (.o (aH (h▸hk)) (.ls (.ou nofun) (.nx (ih _ trivial))))))) (fun s _=>aN hO (.b (fB a.length) (.ou nofun)))
def acL:fA aC:=cO 158 (a2 pK pK) tA (fun p=>decide (p.1=p.2)) (fun p=>[p.1.length<=ah]) acK
theorem ajM:Gd acL:=ajJ.add fun n hO p hp=>aO hO (.s (fun h=>.v false (a6w h).symm) fun h=>.z (c:=kG (bF (KH p.1 p.2) p.1.length)) (fun h2=>.w (jZ (ajL hO p.1 p.2 (hp _ (.head _)) (jD h)) () h2) (.v true (by rw[<-Ei (jD h),h2]))) fun h2=>.w (ku (ajL hO p.1 p.2 (hp _ (.head _)) (jD h)) 0 h2) (.v false (by rw[<-Ei (jD h),h2])))
def a6J:fA aC:=cO 157 (a3 iA iA pK) tA (fun p=>mX p.2.2 p.1 p.2.1) (fun p=>[p.2.2.length<=ah]) acL
theorem ajN:Gd a6J:=ajM.deep 3 fun n hn hO p hp=>by
 have h1:∀x,aU X0 Qp (bQ (n-3+1)) (.fn 188 [] [.ptr 0 0 1,.ptr 1 0 1]) [.int .i64 x] [.cells [.int .i64 p.1],.cells [.int .i64 p.2.1]] (tA.put (vW x p.1 p.2.1)) [.cells [.int .i64 p.1],.cells [.int .i64 p.2.1]]:=fun x=>jh gG (first:=[]) (.ssh (fun _=>.sr) (fun _=>.sr));obtain⟨n,rfl⟩:∃k,n=k+3:=⟨n-3,by omega⟩;rw[show n+3-3+1=n+1 by omega]at h1;have h2:=aiB (n:=n+2) (by omega) (g:=fun x=>vW x p.1 p.2.1) h1 p.2.2 (hp _ (.head _));exact aO (hO _ (by omega)) (.k h2 (.v (!(mW (fun x=>vW x p.1 p.2.1) p.2.2)) (by rw[Eh];rfl)))
def a1v(s:List Int):Int:=aT (fun k n=>i64.wrap (n*s.getD k 0)) s.length 0 1
theorem Xu:∀{s:List Int},kU s->bg s<=12^s.length
 | [],_=>by decide
 |a::t,h=>by
  have h1:=Xu h.tail;have h2:=je h.tail;have h3:=h a (.head _);have h4:a*bg t<=12*bg t:=aas h3.2 (by omega);show a*bg t<=12^(t.length+1);rw[Int.pow_succ];omega
theorem ajO:∀{n:Nat},n<=6->(12:Int)^n<=2985984:=by decide
theorem a6K{s:List Int}(h:kU s)(hl:s.length<=6):a1v s=bg s:=by
 have:=bU (g:=fun k n=>i64.wrap (n*s.getD k 0)) (m:=s.length) (k:=0) (s:=1) (fun k n=>n=bg (s.take k)) (by simp[bg]) (fun j n _ hj e=>by
  have rX:j<s.length:=by omega
  have e2:bg (s.take (j+1))=n*s.getD j 0:=by
   rw[a5R rX,zq,e];simp[bg,List.getD,a0g rX]
  have h1:=EX h (j+1);have h2:1<=bg (s.take (j+1)):=je fun a ha=>h a (a8L ha);have h3:=Xu h;have h4:=ajO hl;show i64.wrap (n*s.getD j 0)=_;rw[e2]at h1 h2 ⊢;exact dZ (by omega) (by omega))
 rw[a1v,this];simp
abbrev aai(a b:List Int)(p i:Int)(x:List (Nat×PE aC)):aS aC:=⟨[(0,xL 3 a),(1,xL 3 b),(5,xi p),(17,xL 3 a),(18,xi a.length),(19,xi i)]++x,[],[]⟩
theorem ap6{n:Nat}{fP:fA aC}(hO:Ok n fP)(a b:List Int)(hl:a.length<=ah):Lp n 105 0 (aai a b 1 0 []) (.exit 1) (aai a b (a1v a) a.length [(20,xl false)]):=
 KF (st:=fun i n=>aai a b n i []) (fin:=fun n=>aai a b n a.length [(20,xl false)]) (fun _ _=>True) (by kernel_rfl) hl Qd trivial (fun _ _ _ _=>trivial) (fun k s hk _ n e p h=>aN hO (.b (bn hk) (.o (aH hk) (.go h)))) (fun s _=>aN hO (.b (fB a.length) .ex))
theorem af9{n:Nat}(hO:Ok n a6J)(l:List Int)(hl:l.length<=ah):aU X0 Qp (bQ n) (.fn 125 [] []) [.dD 3 l false] [] (.own 0) (lsI l):=
 nZ.aag hX (hO 125 [.dD 3 l false] (.own 0) (lsI l) [l.length<=ah] (by kernel_rfl) (List.forall_mem_singleton.2 hl)) rfl rfl rfl rfl
theorem a6L(n:Nat):(dO n).Pairwise fun a b=>decide (a<=b)=true:=by
 unfold dO;rw[afw];exact List.pairwise_lt_range.imp fun h=>by simp;omega
theorem a3q{n:Nat}{o:List Int}:decide (gW o=dO n)=kC n o:=by
 rw[a4E,a1o];have h2:=SA n;have hp:(gW o).Perm o:=adH _ _;constructor
 .intro h;rw[h]at hp;unfold kC at h2 ⊢;rw[a1o]at h2 ⊢;exact⟨by rw[<-hp.length_eq,h2.1],fun a ha=>h2.2.1 a (hp.mem_iff.2 ha),hp.nodup_iff.1 h2.2.2⟩
 intro h;unfold kC at h h2;rw[a1o]at h h2;have e:o.Perm (dO n):=(a8a h.2.2 h2.2.2).2 fun a=>by
  have hm:∀x,0<=x∧x<(n:Int)->x∈dO n:=fun x hx=>by
   unfold dO;rw[a1e];exact⟨x.toNat,by rw[a4o];omega,by omega⟩
  constructor
  .exact fun ha=>hm a (h.2.1 a ha)
  intro ha;by_cases hc:a∈o
  .exact hc
  have:=ado (l₁:=a::o) (l₂:=dO n) (a4m.2 ⟨hc,h.2.2⟩) (fun x hx=>by
   rcases a2r.1 hx with rfl|hx
   .exact ha
   exact hm x (h.2.1 x hx))
  rw[lM]at this;simp at this;omega
 refine List.Perm.eq_of_pairwise (le:=fun a b=>decide (a<=b)=true) (fun a b _ _ h1 h2=>by simp at h1 h2;omega) ?_ (a6L n) (hp.trans e);exact List.pairwise_mergeSort (fun a b c h1 h2=>by simp at h1 h2 ⊢;omega) (fun a b=>by simp;omega) o
def Xv(s o:List Int):Int:=if decide ((s.length:Int)>6)=true then 5 else if(!(mX s 1 12))=true then 3 else if decide (a1v s>2000)=true then 5 else if(!(decide (gW o=dO s.length)))=true then 4 else 0
theorem Xw(s o:List Int):Xv s o=bY s o:=by
 rw[OX];unfold Xv;rw[a3q];by_cases h1:6<s.length
 .rw[a0q (by simp;omega),a0q h1]
 rw[a0p (by simp;omega),a0p h1];have hw:mX s 1 12=decide (kU s):=by
  unfold mX;rw[a4E,a8H,List.any_eq_false,a1o];refine aa7 fun a=>aa7 fun _=>?_;unfold vW;split
  .rename_i h;simp at h ⊢;omega
  rename_i h;simp at h ⊢;omega
 rw[hw];by_cases h2:kU s
 .rw[a0p (by simp[h2]),a0q h2,a6K h2 (by omega)];simp only[a1o,Int.not_lt,gt_iff_lt];split
  .rfl
  cases kC s.length o<;>simp
 rw[a0q (by simp[h2]),a0p h2]
def acM:fA aC:=cO 105 (a2 pK pK) iA (fun p=>bY p.1 p.2) (fun p=>[p.1.length<=ah,p.2.length<=2^20]) a6J
theorem ajP:Gd acM:=ajN.deep 1 fun n hn hO p hp=>by
 obtain⟨n,rfl⟩:∃k,n=k+1:=⟨n-1,by omega⟩;have hO:=hO (n+1) (by omega);have h1:p.1.length<=ah:=hp _ (.head _);have h2:p.2.length<=2^20:=hp _ (.tail _ (.head _));have h3:p.2.length<=ah:=by unfold ah;omega
 have h4:(dO p.1.length).length<=ah:=by rw[lM];exact h1
 have h5:(gW p.2).length<=ah:=by unfold gW;rw[aa9];exact h3
 show nZ X0 Qp _ _ _ (iA.put (bY p.1 p.2)) _;rw[<-Xw];exact aO hO (.ss .rr (.o h1 (.ss .rr (.w (ap6 hO p.1 p.2 h1) (.ss .rr (.fr [] (af9 hO p.2 h3) (.fr [0] (acI (n:=n) (k:=false) (ex:=false) p.2 h2) (.o (show(0:Int)<=(p.1.length:Int) by omega) (.o (show(p.1.length:Int)<=(ah:Int) by omega) (.o h5 (.ss .rr .rr)))))))))))
open Go Tw Pv dw
theorem Xx{α:Type}(x:α):[x].length<=ah:=by unfold ah;simp
def qE(v:V):Bool:=if decide (v.f>0)=true then(if decide (v.f<=4)=true then v.n==0 else false)else mX [v.n] (-9999) 9999
def acN:fA aC:=cO 190 (a1 vA) tA (fun p=>qE p) np acM
theorem ajQ:Gd acN:=ajP.add fun n hO p hp=>aO hO (.ss (.ss .rr .rr) (.o (Xx p.n) .rr))
abbrev frA:UA X0 Qp (List Int×List Int):=a2 pK pK
abbrev cIx(l:List Int)(v:Int)(k:Nat):Bool:=v==l.getD k 0
abbrev afa(l:List Int)(v:Int)(i:Int)(x:List (Nat×PE aC)):aS aC:=⟨[(0,xL 3 l),(1,xi v),(7,xi l.length),(8,xi i)]++x,[],[]⟩
def z234(l:List Int)(v:Int):Unit⊕Nat->Ex×aS aC
 |.inl _=>(.exit 0,afa l v l.length [(9,xl false)])
 |.inr k=>(.ret,⟨[(4,xi k)],[],[]⟩)
theorem ajR{n:Nat}{fP:fA aC}(hO:Ok n fP)(l:List Int)(v:Int)(hl:l.length<=ah):Lp n 234 0 (afa l v 0 []) (z234 l v (bF (cIx l v) l.length)).1 (z234 l v (bF (cIx l v) l.length)).2:=
 iL (st:=fun i _=>afa l v i []) (fun _ _=>True) (by kernel_rfl) hl trivial (fun k s m hk _ ih=>aN hO (.b (bn hk) (.o (aH hk) (.ls (.ou nofun) (.nx (ih _ trivial)))))) (fun s _=>aN hO (.b (fB l.length) (.ou nofun)))
def nC(l:List Int)(v:Int):Int:=if kG (bF (cIx l v) l.length)=true then -1 else((Df 0 (bF (cIx l v) l.length):Nat):Int)
def acP:fA aC:=cO 234 (a2 pK iA) iA (fun p=>nC p.1 p.2) (fun p=>[p.1.length<=ah]) acN
theorem ajS:Gd acP:=ajQ.add fun n hO p hp=>aO hO (.zh (fun h=>.w (jZ (ajR hO p.1 p.2 (hp _ (.head _))) () h) .rr) fun h=>.w (ku (ajR hO p.1 p.2 (hp _ (.head _))) 0 h) .rr)
def acQ:fA aC:=cO 223 (a2 (a6h (a2 pK pK)) iA) iA (fun p=>nC p.1.2 p.2) (fun p=>[p.1.2.length<=ah]) acP
theorem ajT:Gd acQ:=ajS.add fun n hO p hp=>aO hO (.o (hp _ (.head _)) .rr)
def acR:fA aC:=cO 197 (a1 iA) iA (fun p=>i64.wrap (-1-p)) np acQ
theorem ajU:Gd acR:=ajT.add fun n hO p hp=>aO hO .rr
structure Lo where
 s:List Int
 o:List Int
 d:Dg
abbrev Lo.ps(l:Lo):List (PV aC):=[.dD 3 l.s false,.dD 3 l.o false]++l.d.ps
def loA:Arg Lo:=aeB (a6h (Le pK (Le pK (Le pK (a4 pK vsA a9U iA))))) (fun p=>⟨p.1,p.2.1,⟨p.2.2.1,p.2.2.2.1,p.2.2.2.2.1,p.2.2.2.2.2.1,p.2.2.2.2.2.2⟩⟩) (fun l=>(l.s,l.o,l.d.ay,l.d.aG,l.d.aK,l.d.aj,l.d.root)) fun _=>rfl
def ql(l:Lo)(zy below Lh:Int):Bool:=if decide (zy<0)=true then decide (i64.wrap (-1-zy)<(l.d.aK.length:Int))else if decide (zy<below)=true then decide (nC l.o (l.d.aj.getD zy.toNat jU).var>Lh)else false
def Xy:fA aC:=cO 193 (a4 loA iA iA iA) tA (fun p=>ql p.1 p.2.1 p.2.2.1 p.2.2.2) (fun p=>[p.1.o.length<=ah,0<=p.2.1->p.2.1<p.2.2.1->fK p.2.1 p.1.d.aj.length]) acR
theorem ajV:Gd Xy:=ajU.add fun n hO p hp=>aO hO (.sh (fun _=>.rr) fun h=>.sh (fun h2=>.o (hp (0<=p.2.1->p.2.1<p.2.2.1->fK p.2.1 p.1.d.aj.length) (.tail _ (.head _)) (by simpa using h) (by simpa using h2)) (.o (hp _ (.head _)) .rr)) fun _=>.rr)
abbrev Hb(l:Lo)(i:Int)(b:Br):List (PB aC):=[.cells l.ps,.cells [.int .i64 i],.cells b.ps]
theorem ap7{n f:Nat}{a c:List (PV aC)}{H:List (PB aC)}{g:Int->Bool}(l:List Int)(hf:∀x∈l,aU X0 Qp (bQ n) (.fn f a c) [.int .i64 x] H (.bool (g x)) H)(hl:l.length<=ah):aU X0 Qp (bQ (n+1)) (.fn 218 [] []) [.dD 3 l false,.fn f a c] H (iA.put (rG g l)) H:=by
 have lp:Jj n 218 0 H.length (a6v f a c H l 0 []) (z218 f a c H l (mP (pU g) l 0 ())).1 (z218 f a c H l (mP (pU g) l 0 ())).2:=
  X4 (st:=fun i _=>a6v f a c H l i []) (0:Int) (fun _ _=>True) (by kernel_rfl) hl Qd trivial (fun k s n hk _ ih=>aN gG (.b (bn hk) (.o (aH hk) (.k (hf (l.getD k (0:Int)) (bP hk)) (.ls (.ou nofun) (.nx (ih _ trivial))))))) (fun s _=>aN gG (.b (fB l.length) (.ou nofun)))
 exact jh gG (first:=[]) (cap:=[]) (.szh (fun h=>.w (jZ lp () h) .sr) (fun h=>.w (ku lp (0,0,()) h) .sr))
theorem ajW{n f:Nat}{a c:List (PV aC)}{H:List (PB aC)}{g:Int->Bool}(l:List Int)(hf:∀x∈l,aU X0 Qp (bQ n) (.fn f a c) [.int .i64 x] H (.bool (g x)) H)(hl:l.length<=ah):aU X0 Qp (bQ (n+2)) (.fn 181 [] []) [.dD 3 l false,.fn f a c] H (tA.put (l.any g)) H:=by
 have h1:=ap7 l hf hl;have h2:=Eh g l;rw[<-h2];exact jh gG (first:=[]) (cap:=[]) (.k h1 .sr)
theorem Ej{α:Type}(l:List α)(g:α->Bool):(!(l.any fun x=>!(g x)))=l.all g:=by
 induction l with
 |nil=>rfl
 |cons a l ih=>simp only[adh,abM,Bool.not_or,Bool.not_not,ih]
abbrev pB:List (PV aC):=[.ptr 0 0 7,.ptr 1 0 1,.ptr 2 0 2]
theorem ap8{n f:Nat}{l:Lo}{i:Int}{b:Br}{g:Int->Bool}(ks:List Int)(hf:∀x∈ks,aU X0 Qp (bQ n) (.fn f [] pB) [.int .i64 x] (Hb l i b) (tA.put (g x)) (Hb l i b))(hl:ks.length<=ah):aU X0 Qp (bQ (n+4)) (.fn 191 [] []) [.dD 3 ks false,.fn f [] pB] (Hb l i b) (tA.put (ks.all g)) (Hb l i b):=by
 have h1:∀x∈ks,aU X0 Qp (bQ (n+1)) (.fn 221 [] [.ptr 3 0 1]) [.int .i64 x] (Hb l i b++[.cells [.fn f [] pB]]) (tA.put (!(g x))) (Hb l i b++[.cells [.fn f [] pB]]):=fun x hx=>
  jh gG (first:=[]) (.fr [0,1,2] (hf x hx) .sr)
 have h2:=ajW ks h1 hl;rw[<-Ej ks g];exact aU.drop hX (Dc hX gG (first:=[]) (cap:=[]) (H1:=Hb l i b++[.cells [.fn f [] pB]]) (by kernel_rfl) (.k h2 .sr)) rfl rfl
theorem a1w{x a b:Int}:mX [x] a b=decide (a<=x∧x<=b):=by
 unfold mX vW;simp only[adh,List.any_nil,Bool.or_false];by_cases h:x<a
 .rw[a0q (by simpa using h),a8N,eq_comm,a2W];omega
 rw[a0p (by simpa using h),a4E,a8H,a2W,a1o];omega
theorem Xz{l:List Br}{k:Nat}(h:k<l.length):l.getD k jU∈l:=by simp[List.getD,a0g h]
abbrev wW(l:Lo)(i:Int):Br:=l.d.aj.getD i.toNat jU
def FU(l:Lo)(i:Int):Bool:=if(!(mX [(wW l i).var] 0 (xw l.s)))=true then false else if(((wW l i).aA.length:Int) != l.s.getD (wW l i).var.toNat 0)=true then false else(wW l i).aA.all fun x=>ql l x i (nC l.o (wW l i).var)
theorem ajX{n:Nat}(hO:∀m,n<=m->Ok m Xy){l:Lo}{i:Int}(ho:l.o.length<=ah)(hf:rP l.s)(hi:fK i l.d.aj.length):aU X0 Qp (bQ (n+6)) (.fn 192 [.agg l.ps] []) [.int .i64 i] [] (tA.put (FU l i)) []:=by
 have h1:∀x∈(wW l i).aA,aU X0 Qp (bQ (n+1)) (.fn 222 [] pB) [.int .i64 x] (Hb l i (wW l i)) (tA.put (ql l x i (nC l.o (wW l i).var))) (Hb l i (wW l i)):=fun x _=>
  jh (hO n (a0w _)) (first:=[]) (.o ho (.o ho (.o (show 0<=x->x<i->fK x l.d.aj.length from fun h0 h1=>⟨h0,by have:=hi.1;have:=hi.2;omega⟩) .sr)))
 have hv:(!(mX [(wW l i).var] 0 (xw l.s)))=false->fK (wW l i).var l.s.length:=fun h=>by
  rw[a1w,abz,a1o,a6x hf.aeM]at h;exact⟨h.1,by omega⟩
 have hk:(!(mX [(wW l i).var] 0 (xw l.s)))=false->(((wW l i).aA.length:Int) != l.s.getD (wW l i).var.toNat 0)=false->(wW l i).aA.length<=ah:=fun h h2=>by
  have h3:=hv h;have h4:=hf.sz _ (bP (s:=l.s) (k:=(wW l i).var.toNat) (by have:=h3.2;have:=h3.1;omega));have h2:((wW l i).aA.length:Int)=l.s.getD (wW l i).var.toNat 0:=by simpa using h2
  exact m12 (by omega)
 exact aU.drop hX (Dc hX (hO (n+5) (by omega)) (first:=[.agg l.ps]) (cap:=[]) (H1:=Hb l i (wW l i)++[.list true true 3 [(wW l i).var]]) (by kernel_rfl) (.o hi (.o (Xx (wW l i).var) (.ssh (fun _=>.sr) fun h5=>.o (hv h5) (.ssh (fun _=>.sr) fun h6=>.fr [0,1,2] (ap8 (wW l i).aA h1 (hk h5 h6)) .sr))))) rfl rfl
abbrev a3r(f:Nat)(a:List (PV aC)):List (PB aC):=[.cells [.fn f a []]]
theorem ajY{n:Nat}{l:Lo}{g:Int->Bool}(ks:List Int)(hf:∀x∈ks,aU X0 Qp (bQ n) (.fn 192 [.agg l.ps] []) [.int .i64 x] [] (tA.put (g x)) [])(hl:ks.length<=ah):aU X0 Qp (bQ (n+4)) (.fn 191 [] []) [.dD 3 ks false,.fn 192 [.agg l.ps] []] [] (tA.put (ks.all g)) []:=by
 have h1:∀x∈ks,aU X0 Qp (bQ (n+1)) (.fn 221 [] [.ptr 0 0 1]) [.int .i64 x] (a3r 192 [.agg l.ps]) (tA.put (!(g x))) (a3r 192 [.agg l.ps]):=fun x hx=>
  jh gG (first:=[]) (.fr [] (hf x hx) .sr)
 have h2:=ajW ks h1 hl;rw[<-Ej ks g];exact aU.drop hX (Dc hX gG (first:=[]) (cap:=[]) (H1:=a3r 192 [.agg l.ps]) (by kernel_rfl) (.k h2 .sr)) rfl rfl
theorem ap9{n:Nat}(hO:Ok n Xy)(l:List V)(hl:l.length<=ah):aU X0 Qp (bQ (n+4)) (.fn 189 [] []) [.dD 39 l false,.fn 190 [] []] [] (tA.put (l.all qE)) []:=by
 have h1:∀x:V,aU X0 Qp (bQ (n+1)) (.fn 220 [] [.ptr 0 0 1]) [.agg x.ps] (a3r 190 []) (tA.put (!(qE x))) (a3r 190 []):=fun x=>
  jh hO (first:=[]) .sr
 have h2:=aeT (n:=n+2) (by omega) (g:=fun x=>!(qE x)) h1 l hl;rw[<-Ej l,<-Jd];exact aU.drop hX (Dc hX gG (first:=[]) (cap:=[]) (H1:=a3r 190 []) (by kernel_rfl) (.k h2 .sr)) rfl rfl
theorem apa{n:Nat}(hO:Ok n Xy)(m:Nat)(hm:m<=ah):aU X0 Qp (bQ n) (.fn 159 [] []) [.int .i64 m] [] (pK.put (dO m)) []:=
 nZ.aag hX (hO 159 [.int .i64 m] (pK.put (dO m)) [] [0<=(m:Int),(m:Int)<=(ah:Int)] (by kernel_rfl) (by
  intro q hq;rcases a2r.1 hq with rfl|hq
  .omega
  .rw[a2A.1 hq];omega)) rfl rfl rfl rfl
theorem a1x{x:Int}{m:Nat}(h:x∈dO m):fK x m:=by
 simp only[dO,a1e,a4o]at h;obtain⟨k,hk,rfl⟩:=h;exact aH hk
abbrev yI(d:Dg):Lo:=⟨d.ay,d.aG,d⟩
abbrev lo0:Lo:=⟨[],[],⟨[],[],[],[],0⟩⟩
def bG(d:Dg):Lo×Int:=if(bY d.ay d.aG != 0)=true then(lo0,bY d.ay d.aG)else if decide ((d.aj.length:Int)>6000)=true then(yI d,5)else if(!(d.aK.all qE))=true then(yI d,4)else if(!((dO d.aj.length).all (FU (yI d))))=true then(yI d,4)else if(!(ql (yI d) d.root d.aj.length (-1)))=true then(yI d,4)else(yI d,0)
def Dv:fA aC:=cO 160 (a1 dA) (dR (a2 loA iA)) (fun p=>bG p) (fun p=>[p.ay.length<=ah,p.aG.length<=2^20,p.aK.length<=ah]) Xy
theorem acS:Gd Dv:=ajV.deep 11 fun n hn hO d hp=>by
 obtain⟨n,rfl⟩:∃k,n=k+10:=⟨n-10,by omega⟩;have h1:d.ay.length<=ah:=hp _ (.head _);have h2:d.aG.length<=2^20:=hp _ (.tail _ (.head _));have h3:d.aK.length<=ah:=hp _ (.tail _ (.tail _ (.head _)));have ho:d.aG.length<=ah:=by unfold ah;omega
 have hO:∀m,n<=m->Ok m _:=fun m hm=>hO m (by omega);have hI:(bY d.ay d.aG != 0)=false->∀x∈dO d.aj.length,aU X0 Qp (bQ (n+6)) (.fn 192 [.agg (yI d).ps] []) [.int .i64 x] [] (tA.put (FU (yI d) x)) []:=fun h x hx=>ajX hO (l:=yI d) ho (AB h) (a1x hx);have hR:0<=d.root->d.root<(d.aj.length:Int)->fK d.root d.aj.length:=fun a b=>⟨a,by omega⟩;have hL:decide ((d.aj.length:Int)>6000)=false->(dO d.aj.length).length<=ah:=fun h=>by rw[lM];exact UH h
 exact aO (hO (n+10) (by omega)) (.o h1 (.o h2 (.sh (fun _=>.rn (.dF [.agg [.nil .slc,.nil .slc,.nil .slc,.nil .slc,.nil .slc,.nil .slc,.int .i64 0],.int .i64 (bY d.ay d.aG)]) rfl) fun h=>.sh (fun _=>.rr) fun h4=>.fr [] (ap9 (n:=n+6) (hO (n+6) (by omega)) d.aK h3) (.ss .rr (.fr [] (apa (hO (n+10) (by omega)) d.aj.length (UH h4)) (.fr [] (ajY (l:=yI d) (n:=n+6) (dO d.aj.length) (hI h) (hL h4)) (.ss .rr (.o ho (.o hR (.ss .rr .rr))))))))))
open Go Tw Pv dw
def FV(x:Int):Prop:=-(2^63)<=x∧x<2^63
structure Iz(d:Dg):Prop where
 zy:∀i,i<d.aj.length->∀k,k<(fC d i).aA.length->FV ((fC d i).aA.getD k 0)
 root:FV d.root
 fault:∀v∈d.aK,0<=v.f
theorem lQ{n:Nat}{o:List Int}(h:kC n o=true){v:Int}(hv:fK v n):v∈o:=by
 unfold kC at h;rw[a1o]at h;obtain⟨h0,h1⟩:=hv;by_cases hc:v∈o
 .exact hc
 have:=ado (l₁:=v::o) (l₂:=dO n) (a4m.2 ⟨hc,h.2.2⟩) (fun x hx=>by
  have:0<=x∧x<(n:Int):=by
   rcases a2r.1 hx with rfl|hx
   .exact⟨h0,by omega⟩
   exact h.2.1 x hx
  unfold dO;rw[a1e];exact⟨x.toNat,by rw[a4o];omega,by omega⟩)
 rw[lM]at this;simp at this;omega
theorem rQ{l:List Int}{k:Nat}(h:k<l.length):l.getD k 0=l[k]:=by simp[List.getD,a0g h]
theorem a1y{l:List Int}{v:Int}(h:v∈l):kG (bF (cIx l v) l.length)=false:=by
 cases e:kG (bF (cIx l v) l.length)
 .rfl
 obtain⟨j,hj,e2⟩:=a4G.1 h;have:=dL.1 e j hj;simp[cIx,List.getD,a0g hj,e2]at this
theorem a6M{d:Dg}{r:Int}:OZ d r=cIx d.aG (au d r).var:=by
 funext k;exact BEq.comm
theorem UK{d:Dg}{r:Int}(h0:0<=r)(h:(au d r).var∈d.aG):tV d r=nC d.aG (au d r).var:=by
 unfold tV nC;rw[a0p (by rw[a1o];omega),a6M,a1y h,a0p (by decide),a0p (by decide)]
theorem ajZ{l:List Int}{v:Int}(h:v∈l):nC l v<(l.length:Int):=by
 unfold nC;rw[a1y h,a0p (by simp)];obtain⟨j,h1,_,_,h2⟩:=MO (a1y h);rw[h2];show(j:Int)<_;omega
theorem P7{x a b:Int}:mX [x] a b=jP x a b:=by
 rw[a1w,a4E,oQ,a1o]
theorem a6N{v:V}(h:0<=v.f):qE v=vOk v:=by
 rw[aeY h];unfold qE vIs;rw[P7]
theorem afb{z:Int}(h:FV z):i64.wrap z=z:=by
 obtain⟨h0,h1⟩:=h;simp only[IntKind.wrap,IntKind.bits,IntKind.signed];rcases Int.lt_or_le z 0 with h|h
 .have:z%(2^64:Int)=z+2^64:=by
   have:=abN z (2^64) 1;rw[abU]at this;rw[<-this];exact a8A (by omega) (by omega)
  simp only[this];rw[a0q (by simp;omega)];omega
 have:z%(2^64:Int)=z:=a8A h (by omega);simp only[this];rw[a0p (by simp;omega)]
theorem MQ{x:Int}(h:FV x)(h0:x<0):i64.wrap (-1-x)=-1-x:=by
 have h1:=h.1;exact afb ⟨by omega,by omega⟩
theorem aaj{d:Dg}{x:Int}(below:Int)(h:FV x)(h0:x<0)(he:d.aK.length<=ah):iM d x below=decide (i64.wrap (-1-x)<(d.aK.length:Int)):=by
 have he:d.aK.length<=2^60:=by unfold ah at he;omega
 unfold iM;rw[a0p (by simp;omega),MQ h h0,a4E,oQ,a1o];by_cases h1:d.aK.length=0
 .rw[h1,show i64.wrap (((0:Nat):Int)-1)=-1 by decide];omega
 rw[dZ (by omega) (by omega)];omega
theorem ak0{l:List Int}{v:Int}(h:v∈l):0<=nC l v:=by
 unfold nC;rw[a1y h,a0p (by simp)];omega
theorem afc{d:Dg}{x below Lh:Int}(h0:0<=x)(hv:x<below->(au d x).var∈d.aG):ql (yI d) x below Lh=(iM d x below&&decide (Lh<tV d x)):=by
 unfold ql iM;rw[a0p (show ¬(decide (x<0)=true) by rw[a1o];omega),a0q (show decide (x>=0)=true by rw[a1o];omega)];by_cases h1:x<below
 .rw[a0q (show decide (x<below)=true by rw[a1o];exact h1),UK h0 (hv h1),decide_eq_true h1,ada]
 rw[a0p (show ¬(decide (x<below)=true) by rw[a1o];exact h1),adU h1,Bool.false_and]
theorem afd{d:Dg}{x below Lh:Int}(h:FV x)(h0:x<0)(he:d.aK.length<=ah)(hr:Lh<(d.aG.length:Int)):ql (yI d) x below Lh=(iM d x below&&decide (Lh<tV d x)):=by
 rw[aaj _ h h0 he];unfold ql tV;rw[a0q (by rw[a1o];exact h0),a0q (by rw[a1o];exact h0),decide_eq_true hr,ah0]
theorem a6O{d:Dg}{x below Lh:Int}(h:FV x)(he:d.aK.length<=ah)(hr:Lh<(d.aG.length:Int))(hv:0<=x->x<below->(au d x).var∈d.aG):ql (yI d) x below Lh=(iM d x below&&decide (Lh<tV d x)):=by
 by_cases h0:0<=x
 .exact afc h0 (hv h0)
 exact afd h (by omega) he hr
theorem a6P{d:Dg}(h:Iz d)(he:d.aK.length<=ah)(hv:∀r,fK r d.aj.length->(au d r).var∈d.aG):ql (yI d) d.root d.aj.length (-1)=iM d d.root d.aj.length:=by
 rw[a6O h.root he (by omega) (fun a b=>hv _ ⟨a,by omega⟩)];cases e:iM d d.root d.aj.length
 .rfl
 rw[ada,a1o];by_cases h0:0<=d.root
 .have:=Xq e h0 (a0w _);rw[UK h0 (hv _ this)];have:=ak0 (hv _ this);omega
 unfold tV;rw[a0q (by rw[a1o];omega)];omega
theorem acT{d:Dg}(h:Iz d)(he:d.aK.length<=ah){i:Nat}(hi:i<d.aj.length)(hf:rP d.ay)(ho:kC d.ay.length d.aG=true)(hv:∀j,j<i->(fC d j).var∈d.aG):FU (yI d) i=!(ZI d i):=by
 have e0:wW (yI d) i=fC d i:=rfl;unfold FU ZI;rw[e0];show(if(!(mX [(fC d i).var] 0 (xw d.ay)))=true then false else if(((fC d i).aA.length:Int) != d.ay.getD (fC d i).var.toNat 0)=true then false else _)=_;rw[P7];cases e1:jP (fC d i).var 0 (xw d.ay)
 .rfl
 have hvi:(fC d i).var∈d.aG:=lQ ho (Jk hf e1);have apb:(au d (i:Int)).var∈d.aG:=hvi;simp only[a8N,a2V,a3U];split
 .rfl
 have Fv:((fC d i).aA.all fun x=>ql (yI d) x i (nC (yI d).o (fC d i).var))=kG (bF (cLk d i) (fC d i).aA.length):=by
  rw[a4E,a4x,dL];have hk:∀k,k<(fC d i).aA.length->(ql (yI d) ((fC d i).aA.getD k 0) i (nC d.aG (fC d i).var)=true↔cLk d i k=false):=fun k hk=>by
   rw[a6O (h.zy i hi k hk) he (ajZ hvi) (fun a b=>hv _ (by omega)),a2n,a1o];unfold cLk;rw[show tV d (i:Int)=nC d.aG (fC d i).var from UK (by omega) apb];cases iM d ((fC d i).aA.getD k 0) i
   .simp
   simp<;>omega
  constructor
  .intro a k JX;exact(hk k JX).1 (a _ (bP JX))
  intro a x hx;obtain⟨k,JX,rfl⟩:=a4G.1 hx;have:=(hk k JX).2 (a k JX);rw[rQ JX]at this;exact this
 rw[Fv];cases kG (bF (cLk d i) (fC d i).aA.length)<;>rfl
theorem afe{d:Dg}(h:Iz d)(he:d.aK.length<=ah)(hf:rP d.ay)(ho:kC d.ay.length d.aG=true):(dO d.aj.length).all (FU (yI d))=kG (bF (ZI d) d.aj.length):=by
 have ak1:∀i,ZI d i=false->(fC d i).var∈d.aG:=fun i hc=>by
  unfold ZI at hc;split at hc
  .cases hc
  rename_i e;exact lQ ho (Jk hf (by simpa using e))
 have key:∀i,i<=d.aj.length->((∀j,j<i->FU (yI d) j=true)↔∀j,j<i->ZI d j=false):=by
  intro i
  induction i with
  |zero=>intro _;exact⟨fun _ j hj=>absurd hj (by omega),fun _ j hj=>absurd hj (by omega)⟩
  |succ i ih=>
   intro hi;have ih:=ih (by omega);constructor
   .intro a;have b:=ih.1 fun j hj=>a j (by omega);intro j hj;by_cases hji:j<i
    .exact b j hji
    have:j=i:=(by omega);subst this;have:=a j (by omega);rw[acT h he (by omega) hf ho (fun k hk=>ak1 k (b k hk))]at this;simpa using this
   intro b j hj;by_cases hji:j<i
   .exact ih.2 (fun k hk=>b k (by omega)) j hji
   have:j=i:=(by omega);subst this;rw[acT h he (by omega) hf ho (fun k hk=>ak1 k (b k (by omega))),b j (by omega)];rfl
 rw[a4E,a4x,dL,<-key _ (a0w _)];constructor
 .intro a j hj;exact a _ (by unfold dO;rw[a1e];exact⟨j,a4o.2 hj,rfl⟩)
 intro a x hx;simp only[dO,a1e,a4o]at hx;obtain⟨k,hk,rfl⟩:=hx;exact a k hk
theorem aak{d:Dg}(h:∀v∈d.aK,0<=v.f):d.aK.all qE=kG (bF (cLe d) d.aK.length):=by
 rw[a4E,a4x,dL];have hg:∀k,(hk:k<d.aK.length)->d.aK.getD k V0=d.aK[k]:=fun k hk=>by simp[List.getD,a0g hk]
 constructor
 .intro a k hk;unfold cLe;rw[hg k hk,<-a6N (h _ (a4r hk)),a _ (a4r hk)];rfl
 intro a x hx;obtain⟨k,hk,rfl⟩:=a4G.1 hx;have:=a k hk;unfold cLe at this;rw[hg k hk,<-a6N (h _ hx)]at this;simpa using this
theorem Jo{d:Dg}(h:Iz d)(he:d.aK.length<=ah):bG d=(if(bY d.ay d.aG != 0)=true then lo0 else yI d,aX d):=by
 unfold bG aX;split
 .rfl
 rename_i h1;have Wn:=jQ.1 (show bY d.ay d.aG=0 by simpa using h1);split
 .rfl
 unfold lN;rw[aak h.fault,afe h he Wn.1 Wn.2];cases e1:kG (bF (cLe d) d.aK.length)
 .rfl
 cases e2:kG (bF (ZI d) d.aj.length)
 .rfl
 have hv:∀r,fK r d.aj.length->(au d r).var∈d.aG:=fun r hr=>by
  have:=dL.1 e2 r.toNat (by have:=hr.1;have:=hr.2;omega);unfold ZI at this;split at this
  .cases this
  rename_i e;exact lQ Wn.2 (Jk Wn.1 (by simpa using e))
 rw[a6P h he hv];simp only[a8N,a2V,a3U,a2y];cases iM d d.root d.aj.length<;>rfl
end Go.Proofs.YtmobpoiejckagaaGreat
namespace Pv
open Go Tw
structure oU(X:kR)(P:Program)(kt:TypeId)(α:Type)[DecidableEq α] where
 pv:α->PV X.Γ
 tv:α->TV
 v:α->Value
 hp:∀x,qg (pv x)=some (tv x)
 ht:∀x,(tv x).yx=some (v x)
 hc:∀em x,aB P (Instr.checkKey em 10000 kt (v x))=some ()
 hf:∀(x:α) (l:List α),aB P (Instr.findKey kt (v x) (l.map fun y=>⟨v y,.bool false,0⟩))=some ((l.findIdx? fun y=>decide (x=y)).map fun i=>(i,.bool false))
 hk:∃kind,aB P (underlying kt)=some kind∧((∀x y,Instr.sameNow kind (v x) (v y)=some (decide (x=y)))∨∀x y,Instr.sameNow kind (v x) (v y)=none∧aB P (Op.equal kt (v x) (v y))=some (decide (x=y)))
variable {X:kR} {P:Program} {kt:TypeId} {α:Type} [DecidableEq α] (C:oU X P kt α)
abbrev oU.es(l:List (α×PV X.Γ)):List (PV X.Γ×PV X.Γ):=l.map fun e=>(C.pv e.1,e.2)
theorem oU.tvs:∀l:List α,Tw.BI (l.map C.tv)=some (l.map C.v)
 | []=>rfl
 |a::l=>by
  show(match(C.tv a).yx,Tw.BI (l.map C.tv)with|some v,some vs=>some (v::vs)|_,_=>none)=_;rw[C.ht,oU.tvs l];rfl
theorem oU.find(x:α)(l:List α)(r:Option Nat)(hr:(l.findIdx? fun y=>decide (x=y))=r)(hs:∀(i:Nat) y,l[i]? = some y->decide (x=y)=(some i==r)):uZ P kt (C.v x) (l.map C.tv)=some r:=by
 unfold uZ;rw[C.tvs];simp only[];rw[bI,C.hc,a4p,a8o];show(match aB P (Instr.findKey kt (C.v x) (l.map fun y=>⟨C.v y,.bool false,0⟩))with|some r=>if VB P kt (C.v x) (l.map C.v) (Option.map (fun(q:Nat×Value)=>q.1) r)then some (Option.map (fun(q:Nat×Value)=>q.1) r)else none|none=>none)=_;rw[C.hf,hr];have e:Option.map (fun(q:Nat×Value)=>q.1) (r.map fun i=>(i,Value.bool false))=r:=by cases r<;>rfl
 simp only[e];rw[a0q];obtain⟨kind,h1,h2⟩:=C.hk;simp only[VB,h1,a2n,a8R,a4x];constructor
 .cases r with
  |none=>rfl
  |some j=>
   have:=(a9K.1 hr).1;simpa using this
 have hz:∀p∈(l.map C.v).zipIdx,∃y,p.1=C.v y∧decide (x=y)=(some p.2==r):=fun p hp=>by
  have:=a9n.1 hp;rw[a4q,a0f]at this;obtain⟨y,hy,e⟩:=this;exact⟨y,e.symm,hs _ _ hy⟩
 rcases h2 with h2|h2
 .left;intro p hp;obtain⟨y,e1,e2⟩:=hz p hp;rw[e1,h2,e2];simp
 right;intro p hp;obtain⟨y,e1,e2⟩:=hz p hp;rw[e1,(h2 x y).1,(h2 x y).2,e2];simp
theorem oU.pk:∀l:List (α×PV X.Γ),uY X (C.es l)=some ((l.map (·.1)).map C.tv)
 | []=>rfl
 |a::l=>by
  show(match qg (C.pv a.1),uY X (C.es l)with|some v,some vs=>some (v::vs)|_,_=>none)=_;rw[C.hp,oU.pk l];rfl
theorem oU.ck(x:α):∃kv,(C.tv x).yx=some kv∧aB P (Instr.checkKey false 10000 kt kv)=some ():=⟨C.v x,C.ht x,C.hc false x⟩
theorem oU.fresh{l:List (α×PV X.Γ)}{x:α}(h:x∉l.map (·.1)):nN X P kt (C.es l) (C.tv x):=by
 refine⟨C.v x,_,C.ht x,C.pk l,?_⟩;have Yq:∀y∈l.map (·.1),decide (x=y)=false:=fun y hy=>by
  simp only[a2W];intro e;exact h (e▸hy)
 exact C.find x _ none (List.findIdx?_eq_none_iff.2 Yq) fun i y hy=>by rw[Yq y (a4s hy)];rfl
theorem oU.found{l:List (α×PV X.Γ)}{x:α}{v:PV X.Γ}(hn:(l.map (·.1)).Nodup)(h:(x,v)∈l):qp X P kt (C.es l) (C.tv x) v:=by
 obtain⟨j,hj,e⟩:=a4G.1 h;refine⟨C.v x,_,j,C.pv x,C.ht x,C.pk l,?_,?_⟩
 .have hxj:(l.map (·.1))[j]? = some x:=by simp[a0g hj,e]
  have hu:∀(i:Nat) y,(l.map (·.1))[i]? = some y->decide (x=y)=(some i==some j):=fun i y hy=>by
   rw[a4E];simp only[a1o,a7H,a03];constructor
   .rintro rfl;have i1:=a0d.1 hy;have i2:=a0d.1 hxj;exact(aa8 hn (h₀:=i1.1) (h₁:=i2.1)).1 (i1.2.trans i2.2.symm)
   rintro rfl;rw[hxj]at hy;exact a8V hy
  refine C.find x _ (some j) ?_ hu;rw[a9K];refine⟨by simpa using hj,by simp[e],fun i hi=>?_⟩;have hil:i<(l.map (·.1)).length:=by simp;omega
  rw[hu i _ (a0g hil)];simp;omega
 simp[oU.es,a0g hj,e]
theorem Jp{t:TypeId}{d:TypeDesc}(h:P.underlying t=some d):aB P (underlying t)=some d:=by
 simp only[underlying,bI];show Option.bind (some P) _=_;simp[h];rfl
theorem ZK{v:α->Value}(he:∀x y,aB P (Op.equal kt (v x) (v y))=some (decide (x=y)))(x:α):∀(l:List α) (i:Nat),aB P (Instr.findAsking kt (v x) (l.map fun y=>⟨v y,.bool false,0⟩) i)=some ((l.findIdx? fun y=>decide (x=y)).map fun j=>(j+i,.bool false))
 | [],i=>rfl
 |y::l,i=>by
  simp only[a4g,Instr.findAsking];rw[bI,he,a4p,List.findIdx?_cons];cases decide (x=y)with
  |true=>simp only[a2y,a1b,a3Z];rfl
  |false=>
   simp only[a2V,a3U];rw[ZK he x l (i+1)];cases l.findIdx? fun y=>decide (x=y)with
   |none=>rfl
   |some j=>simp;omega
theorem a1z{v:α->Value}{fs:Array Field}(hu:P.underlying kt=some (.struct fs))(he:∀x y,aB P (Op.equal kt (v x) (v y))=some (decide (x=y)))(x:α)(l:List α):aB P (Instr.findKey kt (v x) (l.map fun y=>⟨v y,.bool false,0⟩))=some ((l.findIdx? fun y=>decide (x=y)).map fun i=>(i,.bool false)):=by
 have h:=ZK he x l 0;unfold Instr.findKey;rw[bI,Jp hu,a4p];cases l with
 |nil=>rfl
 |cons y l=>
  rw[show Instr.findNow (.struct fs) (v x) ((y::l).map fun y=>⟨v y,.bool false,0⟩) 0=none by simp[Instr.findNow,Instr.sameNow]];exact h
theorem a1A{k:IntKind}(x:Int):∀(l:List Int) (i:Nat),Instr.findNow (.int k) (.int k x) (l.map fun y=>⟨.int k y,.bool false,0⟩) i=some ((l.findIdx? fun y=>decide (x=y)).map fun j=>(j+i,.bool false))
 | [],i=>rfl
 |y::l,i=>by
  simp only[a4g,Instr.findNow,Instr.sameNow,a2y];rw[List.findIdx?_cons];by_cases h:x=y
  .subst h;simp
  rw[show(x==y)=false by simpa using h,adU h];simp only[a2V,a3U];rw[a1A x l (i+1)];cases l.findIdx? fun y=>decide (x=y)with
  |none=>rfl
  |some j=>simp;omega
theorem aff{k:IntKind}(hu:P.underlying kt=some (.int k))(x:Int)(l:List Int):aB P (Instr.findKey kt (.int k x) (l.map fun y=>⟨.int k y,.bool false,0⟩))=some ((l.findIdx? fun y=>decide (x=y)).map fun i=>(i,.bool false)):=by
 unfold Instr.findKey;rw[bI,Jp hu,a4p,a1A x l 0];cases l.findIdx? fun y=>decide (x=y)<;>rfl
theorem a1B{v:α->Value}{fs:Array Field}(hu:P.underlying kt=some (.struct fs))(he:∀x y,aB P (Op.equal kt (v x) (v y))=some (decide (x=y))) :
  ∃kind,aB P (underlying kt)=some kind∧((∀x y,Instr.sameNow kind (v x) (v y)=some (decide (x=y)))∨∀x y,Instr.sameNow kind (v x) (v y)=none∧aB P (Op.equal kt (v x) (v y))=some (decide (x=y))):=
 ⟨_,Jp hu,.inr fun x y=>⟨by simp[Instr.sameNow],he x y⟩⟩
theorem afg{k:IntKind}(hu:P.underlying kt=some (.int k)) :
  ∃kind,aB P (underlying kt)=some kind∧((∀x y:Int,Instr.sameNow kind (.int k x) (.int k y)=some (decide (x=y)))∨∀x y:Int,Instr.sameNow kind (.int k x) (.int k y)=none∧aB P (Op.equal kt (.int k x) (.int k y))=some (decide (x=y))):=
 ⟨_,Jp hu,.inl fun x y=>by simp only[Instr.sameNow,a2y];congr 1⟩
theorem afh{v:α->Value}{n:Nat}{e:TypeId}(hu:P.underlying kt=some (.array n e))(he:∀x y,aB P (Op.equal kt (v x) (v y))=some (decide (x=y)))(x:α)(l:List α):aB P (Instr.findKey kt (v x) (l.map fun y=>⟨v y,.bool false,0⟩))=some ((l.findIdx? fun y=>decide (x=y)).map fun i=>(i,.bool false)):=by
 have h:=ZK he x l 0;unfold Instr.findKey;rw[bI,Jp hu,a4p];cases l with
 |nil=>rfl
 |cons y l=>
  rw[show Instr.findNow (.array n e) (v x) ((y::l).map fun y=>⟨v y,.bool false,0⟩) 0=none by simp[Instr.findNow,Instr.sameNow]];exact h
theorem afi{v:α->Value}{n:Nat}{e:TypeId}(hu:P.underlying kt=some (.array n e))(he:∀x y,aB P (Op.equal kt (v x) (v y))=some (decide (x=y))) :
  ∃kind,aB P (underlying kt)=some kind∧((∀x y,Instr.sameNow kind (v x) (v y)=some (decide (x=y)))∨∀x y,Instr.sameNow kind (v x) (v y)=none∧aB P (Op.equal kt (v x) (v y))=some (decide (x=y))):=
 ⟨_,Jp hu,.inr fun x y=>⟨by simp[Instr.sameNow],he x y⟩⟩
end Pv
namespace Go.Proofs.YtmobpoiejckagaaGreat
open Go Tw Pv dw
def kV:oU X0 Qp 39 V where
 pv x:=.agg x.ps
 tv x:=x.tv
 v x:=.agg #[.int .u8 x.f,.int .i64 x.n]
 hp _:=rfl
 ht _:=rfl
 hc em x:=by kernel_rfl
 hf x l:=a1z aeZ (fun a b=>a1q 9998 a b) x l
 hk:=a1B aeZ fun a b=>a1q 9998 a b
def kI:oU X0 Qp 3 Int where
 pv x:=.int .i64 x
 tv x:=.int .i64 x
 v x:=.int .i64 x
 hp _:=rfl
 ht _:=rfl
 hc em x:=by kernel_rfl
 hf x l:=aff a3i x l
 hk:=afg a3i
abbrev zB(E:List V):List (V×PV X0.Γ):=E.zipIdx.map fun e=>(e.1,.int .i64 (e.2:Nat))
abbrev mkC(a b:List Int)(e n:Nat)(r:Int):PB aC:=.cells [.dD 3 a false,.dD 3 b false,.own 0,.own 1,.own e,.own n,.int .i64 r,.map 2,.map 3]
abbrev zC(l:List V):PB aC:=.list false false 39 l
abbrev zD(l:List Br):PB aC:=.list false false 105 l
abbrev MK(a b:List Int)(E:List V)(nd:List Br)(r:Int)(nm:List (PV aC×PV aC)):List (PB aC):=[.list false false 3 a,.list false false 3 b,.map (kV.es (zB E)),.map nm,mkC a b 5 6 r,zC E,zD nd]
abbrev MK'(a b:List Int)(E:List V)(nd:List Br)(r:Int)(nm:List (PV aC×PV aC)):List (PB aC):=[.list false false 3 a,.list false false 3 b,.map (kV.es (zB E)),.map nm,mkC a b 7 8 r,.gone,.gone,zC E,zD nd]
theorem SI(E:List V):(zB E).map (·.1)=E:=by
 unfold zB;rw[a8o];show E.zipIdx.map (·.1)=E;simp
theorem a6Q(E:List V)(v:V):zB (E++[v])=zB E++[(v,.int .i64 (E.length:Nat))]:=by
 unfold zB;rw[List.zipIdx_append,a4f];simp
theorem a6R{E:List V}{v:V}(h:v∈E):(v,(.int .i64 (E.idxOf v:Nat):PV X0.Γ))∈zB E:=by
 unfold zB;rw[a1e];have hl:=a4w.2 h;exact⟨(v,E.idxOf v),by rw[a9n];simp[a0g hl],rfl⟩
def fG(E:List V)(v:V):List V:=if v∈E then E else E++[v]
theorem UL{E:List V}{v:V}(h:E.Nodup):(fG E v).Nodup:=by
 unfold fG;split
 .exact h
 rename_i hn;rw[a8G];exact⟨h,by simp,fun x hx y hy=>by rw[a2A]at hy;subst hy;intro e;subst e;exact hn hx⟩
theorem apc{n:Nat}(hO:Ok n Dv){a b:List Int}{E:List V}{nd:List Br}{r:Int}{nm:List (PV aC×PV aC)}(v:V)(hE:E.Nodup)(hl:E.length+1<=ah):aU X0 Qp (bQ (n+1)) (.fn 196 [] []) [.ptr 4 0 9,.agg v.ps] (MK a b E nd r nm) (.int .i64 (i64.wrap (-1-(E.idxOf v:Nat)))) (MK' a b (fG E v) nd r nm):=by
 by_cases h:v∈E
 .rw[show fG E v=E from a0q h];have hf:qp X0 Qp 39 (kV.es (zB E)) v.tv (.int .i64 (E.idxOf v:Nat)):=kV.found (by rw[SI];exact hE) (a6R h);exact aU.gs hX (mQ hX hO (first:=[]) (cap:=[]) (v:=.int .i64 (i64.wrap (-1-(E.idxOf v:Nat)))) (H1:=MK a b E nd r nm) (by kernel_rfl) (.c (.int .i64 (E.idxOf v:Nat)) [] hf (.b (rfl:(!true)=false) .er))) [.mv 5,.mv 6] rfl
 rw[show fG E v=E++[v]from a0p h,a7x h];have hf:nN X0 Qp 39 (kV.es (zB E)) v.tv:=kV.fresh (by rw[SI];exact h);have em:kV.es (zB (E++[v]))=kV.es (zB E)++[(.agg v.ps,.int .i64 (E.length:Nat))]:=by rw[a6Q];exact a4f ..
 show aU X0 Qp _ _ _ _ _ [_,_,.map (kV.es (zB (E++[v]))),_,_,_,_,_,_];rw[em];exact aU.gs hX (mQ hX hO (first:=[]) (cap:=[]) (v:=.int .i64 (i64.wrap (-1-(E.length:Nat)))) (H1:=[.list false false 3 a,.list false false 3 b,.map (kV.es (zB E)++[(.agg v.ps,.int .i64 (E.length:Nat))]),.map nm,mkC a b 8 6 r,.gone,zD nd,.list true true 39 [v],zC (E++[v])]) (by kernel_rfl) (.a .calm (.o hf (.b (rfl:(!false)=true) (.a .calm (.o (kV.ck v) (.o hf (.o (show E.length+[v].length<=ah by simpa using hl) .er)))))))) [.mv 6,.gc [8,9]] rfl
end Go.Proofs.YtmobpoiejckagaaGreat
namespace Tw
open Go
section
variable {P:Program}
theorem Dw{e:TypeId}(hg:aB P (isAgg e)=some false){xs:Array Value}{i:Nat}{v:Value}(h:xs[i]? = some v):aB P (part e xs i)=some v:=by
 unfold part;rw[bI,hg,a4p];simp only[a2V,a3U,h];rfl
def a3s(d:Nat)(e:TypeId)(c:Nat)(xs ys:Array Value):List Nat->Sem Bool
 | []=>pure true
 |i::is=>do
  let a <-part e xs (i*c)
  let b <-part e ys (i*c)
  let r <-Op.equalIn d e a b
  if(!r)=true then pure false else a3s d e c xs ys is
theorem Jq(d:Nat){t e:TypeId}{n c:Nat}(xs ys:Array Value)(hu:P.underlying t=some (.array n e))(hs:aB P (sizeOf e)=some c) :
  aB P (Op.equalIn (d+1) t (.agg xs) (.agg ys))=aB P (a3s d e c xs ys (List.range' 0 n)):=by
 have hu':aB P (underlying t)=some (.array n e):=by
  simp only[underlying,bI];have:aB P program=some P:=rfl;simp[this,hu,aB];rfl
 simp only[Op.equalIn,bI,hu',a4p,hs];simp only[Std.Legacy.Range.forIn_eq_forIn_range',Std.Legacy.Range.size,Nat.sub_zero,Nat.add_one_sub_one,Nat.div_one];generalize List.range' 0 n=is;clear hu hu' hs
 induction is with
 |nil=>simp[a3s,aB,bI];rfl
 |cons j is ih=>
  simp only[List.forIn_cons,a3s,bI]at ih ⊢;generalize aB P (part e xs (j*c))=r1;cases r1 with
  |none=>simp
  |some a=>
   simp only[a4p];generalize aB P (part e ys (j*c))=r2;cases r2 with
   |none=>simp
   |some b=>
    simp only[a4p];generalize aB P (Op.equalIn d e a b)=r3;cases r3 with
    |none=>simp
    |some r=>
     cases r with
     |false=>simp only[a4p,abt,a2y];rfl
     |true=>simp only[a4p,a8N,a2V,a3U];exact ih
abbrev Dx(k:IntKind)(l:List Int):Array Value:=(l.map fun x=>Value.int k x).toArray
theorem P8{k:IntKind}{l:List Int}{i:Nat}(h:i<l.length):(Dx k l)[i]? = some (.int k l[i]):=by
 simp[Dx,h]
theorem KN{d:Nat}{e:TypeId}{k k':IntKind}(hu:P.underlying e=some (.int k'))(hg:aB P (isAgg e)=some false)(l l':List Int)(hl:l.length=l'.length):∀(m i:Nat),i+m=l.length->aB P (a3s (d+1) e 1 (Dx k l) (Dx k l') (List.range' i m))=some (decide (l.drop i=l'.drop i))
 | 0,i,h=>by
  rw[afM (by omega),afM (by omega)];rfl
 |m+1,i,h=>by
  have h1:i<l.length:=by omega
  have h2:i<l'.length:=by omega
  rw[List.range'_succ];simp only[a3s,agX];rw[bI,Dw hg (P8 h1),a4p,bI,Dw hg (P8 h2),a4p,bI,qW d e k k' _ _ hu,a4p];rw[a6D h1,a6D h2];by_cases hc:l[i]=l'[i]
  .have:=KN (d:=d) (k:=k) hu hg l l' hl m (i+1) (by omega);simp only[hc,beq_self_eq_true,a8N,a2V,a3U,this,adR,true_and]
  have:(l[i]==l'[i])=false:=by simpa using hc
  simp only[this,abt,a2y,adR,hc,false_and,decide_false];rfl
theorem BG(d:Nat){t e:TypeId}{n:Nat}{k k':IntKind}(ht:P.underlying t=some (.array n e))(hs:aB P (sizeOf e)=some 1)(hu:P.underlying e=some (.int k'))(hg:aB P (isAgg e)=some false){l l':List Int}(hl:l.length=n)(hl':l'.length=n) :
  aB P (Op.equalIn (d+2) t (.agg (Dx k l)) (.agg (Dx k l')))=some (decide (l=l')):=by
 rw[Jq (d+1) _ _ ht hs,KN hu hg l l' (by omega) n 0 (by omega),abu,abu]
end
end Tw
namespace Go.Proofs.YtmobpoiejckagaaGreat
open Go Tw Pv dw
abbrev oI(k ex:Bool)(l:List Int):PB aC:=.list k ex 3 l
abbrev wOI(f:Nat)(a c:List (PV aC))(k ex:Bool)(R:List (PB aC))(l:List Int)(i:Int)(x:List (Nat×PE aC)):aS aC:=⟨[(0,.val (.own 0)),(1,.val (.fn f a c)),(7,xi l.length),(8,xi i)]++x,[],oI k ex l::R⟩
def zOI(f:Nat)(a c:List (PV aC))(k ex:Bool)(R:List (PB aC))(l:List Int):Unit⊕(Nat×Int×Unit)->Ex×aS aC
 |.inl _=>(.exit 0,wOI f a c k ex R l l.length [(9,xl false)])
 |.inr r=>(.ret,⟨[(4,xi r.1)],[],oI k ex l::R⟩)
theorem qoI{n f:Nat}{a c:List (PV aC)}{ko ex:Bool}{R:List (PB aC)}{g:Int->Bool}(l:List Int)(hf:∀x∈l,aU X0 Qp (bQ n) (.fn f a c) [.int .i64 x] (oI ko ex l::R) (.bool (g x)) (oI ko ex l::R))(hl:l.length<=ah):aU X0 Qp (bQ (n+1)) (.fn 218 [] []) [.own 0,.fn f a c] (oI ko ex l::R) (iA.put (rG g l)) (oI ko ex l::R):=by
 have lp:Jj n 218 0 (R.length+1) (wOI f a c ko ex R l 0 []) (zOI f a c ko ex R l (mP (pU g) l 0 ())).1 (zOI f a c ko ex R l (mP (pU g) l 0 ())).2:=
  X4 (st:=fun i _=>wOI f a c ko ex R l i []) (0:Int) (fun _ _=>True) (by kernel_rfl) hl Qd trivial (fun k s n hk _ ih=>aN gG (.b (bn hk) (.o (aH hk) (.k (hf (l.getD k (0:Int)) (bP hk)) (.ls (.ou nofun) (.nx (ih _ trivial))))))) (fun s _=>aN gG (.b (fB l.length) (.ou nofun)))
 exact jh gG (first:=[]) (cap:=[]) (.szh (fun h=>.w (jZ lp () h) .sr) (fun h=>.w (ku lp (0,0,()) h) .sr))
theorem qoC{n f:Nat}{a c:List (PV aC)}{ko ex:Bool}{R:List (PB aC)}{g:Int->Bool}(l:List Int)(hf:∀x∈l,aU X0 Qp (bQ n) (.fn f a c) [.int .i64 x] (oI ko ex l::R) (.bool (g x)) (oI ko ex l::R))(hl:l.length<=ah):aU X0 Qp (bQ (n+2)) (.fn 181 [] []) [.own 0,.fn f a c] (oI ko ex l::R) (tA.put (l.any g)) (oI ko ex l::R):=by
 have h1:=qoI l hf hl;have h2:=Eh g l;rw[<-h2];exact jh gG (first:=[]) (cap:=[]) (.k h1 .sr)
abbrev Hk(k ex:Bool)(l:List Int):List (PB aC):=[oI k ex l,.cells [.own 0]]
theorem qoA{n f:Nat}{ko ex:Bool}{g:Int->Bool}(l:List Int)(hf:∀x∈l,aU X0 Qp (bQ n) (.fn f [] [.ptr 1 0 1]) [.int .i64 x] (Hk ko ex l) (tA.put (g x)) (Hk ko ex l))(hl:l.length<=ah):aU X0 Qp (bQ (n+4)) (.fn 191 [] []) [.own 0,.fn f [] [.ptr 1 0 1]] (Hk ko ex l) (tA.put (l.all g)) (Hk ko ex l):=by
 have h1:∀x∈l,aU X0 Qp (bQ (n+1)) (.fn 221 [] [.ptr 2 0 1]) [.int .i64 x] (Hk ko ex l++[.cells [.fn f [] [.ptr 1 0 1]]]) (tA.put (!(g x))) (Hk ko ex l++[.cells [.fn f [] [.ptr 1 0 1]]]):=fun x hx=>
  jh gG (first:=[]) (.fr [0,1] (hf x hx) .sr)
 have h2:=qoC (R:=[.cells [.own 0],.cells [.fn f [] [.ptr 1 0 1]]]) l h1 hl;rw[<-Ej l g];exact aU.drop hX (Dc hX gG (first:=[]) (cap:=[]) (H1:=Hk ko ex l++[.cells [.fn f [] [.ptr 1 0 1]]]) (by kernel_rfl) (.k h2 .sr)) rfl rfl
theorem a6S{n:Nat}{ko ex:Bool}(l:List Int)(hl:l.length<=ah):aU X0 Qp (bQ (n+5)) (.fn 191 [] []) [.own 0,.fn 224 [] [.ptr 1 0 1]] (Hk ko ex l) (tA.put (l.all fun x=>x==l.getD 0 0)) (Hk ko ex l):=
 qoA (n:=n+1) l (fun x hx=>jh gG (first:=[]) (.o (show fK 0 l.length from⟨by omega,by have:=List.length_pos_of_mem hx;omega⟩) .sr)) hl
theorem a6T:∀l:List Int,l.length=12->∃a0 a1 a2 a3 a4 a5 a6 a7 a8 a9 a10 a11:Int,l=[a0,a1,a2,a3,a4,a5,a6,a7,a8,a9,a10,a11]
 | [a0,a1,a2,a3,a4,a5,a6,a7,a8,a9,a10,a11],_=>⟨a0,a1,a2,a3,a4,a5,a6,a7,a8,a9,a10,a11,rfl⟩
 | [],h=>by simp at h
 | [_],h=>by simp at h
 | [_,_],h=>by simp at h
 | [_,_,_],h=>by simp at h
 | [_,_,_,_],h=>by simp at h
 | [_,_,_,_,_],h=>by simp at h
 | [_,_,_,_,_,_],h=>by simp at h
 | [_,_,_,_,_,_,_],h=>by simp at h
 | [_,_,_,_,_,_,_,_],h=>by simp at h
 | [_,_,_,_,_,_,_,_,_],h=>by simp at h
 | [_,_,_,_,_,_,_,_,_,_],h=>by simp at h
 | [_,_,_,_,_,_,_,_,_,_,_],h=>by simp at h
 |_::_::_::_::_::_::_::_::_::_::_::_::_::_,h=>by simp at h
abbrev Ky:=Int×{l:List Int // l.length=12}
abbrev Ky.l(x:Ky):List Int:=x.1::x.2.val
theorem P9:∀l:List Int,iK (Γ:=aC) (l.map fun x=>PV.int .i64 x)=some (l.map fun x=>TV.int .i64 x)
 | []=>rfl
 |a::l=>by simp only[a4g,iK,qU,P9 l]
theorem SK:∀l:List Int,TV.TF (l.map fun x=>TV.int .i64 x)=some (l.map fun x=>Value.int .i64 x)
 | []=>rfl
 |a::l=>by simp only[a4g,TV.TF,TV.toC,SK l]
theorem afj : Tryz.prog.underlying 223 = some (.struct #[⟨"choice", 3, 0, false, "", "mist/node", 0⟩, ⟨"kids", 221, 1, false, "", "mist/node", 8⟩]) := by kernel_rfl
theorem acV(d:Nat)(a b:Ky):aB Qp (Op.equalIn (d+3) 223 (.agg (Dx .i64 a.l)) (.agg (Dx .i64 b.l)))=some (decide (a=b)):=by
 obtain⟨a1,a2,ha⟩:=a;obtain⟨b1,b2,hb⟩:=b;rw[y9 (d+2) 223 _ _ _ afj (by kernel_rfl)];have gI:aB Qp (isAgg 3)=some false:=by kernel_rfl
 have gA:aB Qp (isAgg 221)=some true:=by kernel_rfl
 have sA:aB Qp (sizeOf 221)=some 12:=by kernel_rfl
 have sI:aB Qp (sizeOf 3)=some 1:=by kernel_rfl
 have p0:∀x l,aB Qp (part 3 (Dx .i64 (x::l)) 0)=some (.int .i64 x):=fun x l=>Dw gI (P8 (l:=x::l) (by simp));have p1:∀x l,l.length=12->aB Qp (part 221 (Dx .i64 (x::l)) 1)=some (.agg (Dx .i64 l)):=fun x l h=>by
  obtain⟨a0,a1,a2,a3,a4,a5,a6,a7,a8,a9,a10,a11,rfl⟩:=a6T l h
  kernel_rfl
 have q1 := oC (f := ⟨"choice", 3, 0, false, "", "mist/node", 0⟩) (fs := [⟨"kids", 221, 1, false, "", "mist/node", 8⟩]) (by decide) (p0 a1 a2) (p0 b1 b2) (qW (d + 1) _ .i64 _ a1 b1 a3i);have q2 := oC (f := ⟨"kids", 221, 1, false, "", "mist/node", 8⟩) (fs := []) (by decide) (p1 a1 a2 ha) (p1 b1 b2 hb) (BG d (k := .i64) (t := 221) (by kernel_rfl) sI a3i gI ha hb);rw[q1,q2];rw[show aB Qp (Op.eqFields (d+2) (Dx .i64 (a1::a2)) (Dx .i64 (b1::b2)) [])=some true from rfl];by_cases h1:a1=b1<;>by_cases h2:a2=b2<;>simp[h1,h2]
def kK:oU X0 Qp 223 Ky where
 pv x:=.agg (x.l.map fun i=>.int .i64 i)
 tv x:=.agg (x.l.map fun i=>.int .i64 i)
 v x:=.agg (Dx .i64 x.l)
 hp x:=congrArg (Option.map TV.agg) (P9 x.l)
 ht x:=congrArg (Option.map fun vs:List Value=>Value.agg vs.toArray) (SK x.l)
 hc em x:=by
  obtain⟨c,l,h⟩:=x;obtain⟨a0,a1,a2,a3,a4,a5,a6,a7,a8,a9,a10,a11,rfl⟩:=a6T l h
  kernel_rfl
 hf x l:=a1z afj (fun a b=>acV 9997 a b) x l
 hk:=a1B afj (fun a b=>acV 9997 a b)
open Go Tw Pv dw
def Hy(l:List Int):List Int:=(l++[0,0,0,0,0,0,0,0,0,0,0,0]).take 12
theorem a6U(l:List Int):(Hy l).length=12:=by unfold Hy;simp
def tX(c:Int)(ks:List Int):Ky:=(c,⟨Hy ks,a6U ks⟩)
abbrev BU(b:Br):Ky:=tX b.var b.aA
abbrev yH(nd:List Br):List (Ky×PV X0.Γ):=nd.zipIdx.map fun e=>(BU e.1,.int .i64 (e.2:Nat))
theorem SL(nd:List Br):(yH nd).map (·.1)=nd.map BU:=by
 unfold yH;rw[a8o];show nd.zipIdx.map (BU∘fun e=>e.1)=_;rw[<-a8o];simp
theorem a6V(nd:List Br)(b:Br):yH (nd++[b])=yH nd++[(BU b,.int .i64 (nd.length:Nat))]:=by
 unfold yH;rw[List.zipIdx_append,a4f];simp
theorem a6W{nd:List Br}{k:Ky}(h:k∈nd.map BU):(k,(.int .i64 ((nd.map BU).idxOf k:Nat):PV X0.Γ))∈yH nd:=by
 have hl:=a4w.2 h;have QK:(nd.map BU).idxOf k<nd.length:=by simpa using hl
 unfold yH;rw[a1e];refine⟨(nd[(nd.map BU).idxOf k],(nd.map BU).idxOf k),by rw[a9n];simp[a0g QK],?_⟩;have:=a8D hl;rw[a8M]at this;show(BU _,_)=_;rw[this]
def dB(nd:List Br)(c:Int)(ks:List Int):List Br:=if(ks.all fun x=>x==ks.getD 0 0)=true then nd else if tX c ks∈nd.map BU then nd else nd++[⟨c,ks⟩]
def eu(nd:List Br)(c:Int)(ks:List Int):Int:=if(ks.all fun x=>x==ks.getD 0 0)=true then ks.getD 0 0 else((nd.map BU).idxOf (tX c ks):Nat)
abbrev MN(a b:List Int)(E:List V)(nd:List Br)(r:Int):List (PB aC):=MK a b E nd r (kK.es (yH nd))
abbrev MNg(a b:List Int)(E:List V)(nd:List Br)(r:Int)(nm:List (PV aC×PV aC)):List (PB aC):=[.list false false 3 a,.list false false 3 b,.map (kV.es (zB E)),.map nm,mkC a b 8 9 r,.gone,.gone,.gone,zC E,zD nd]
abbrev MN'(a b:List Int)(E:List V)(nd:List Br)(r:Int):List (PB aC):=MNg a b E nd r (kK.es (yH nd))
theorem afk{n:Nat}(hO:Ok (n+5) Dv){a b:List Int}{E:List V}{nd:List Br}{r:Int}(c:Int)(ks:List Int)(hk:1<=ks.length∧ks.length<=12)(hf:(ks.all fun x=>x==ks.getD 0 0)=true):aU X0 Qp (bQ (n+6)) (.fn 198 [] []) [.ptr 4 0 9,.int .i64 c,.own 7] (MN a b E nd r++[oI true true ks]) (.int .i64 (ks.getD 0 0)) (MN' a b E nd r):=by
 have h1:=mQ hX hO (first:=[]) (cap:=[]) (xs:=[.ptr 4 0 9,.int .i64 c,.own 7]) (H:=MN a b E nd r++[oI true true ks]) (v:=.int .i64 (ks.getD 0 0)) (H1:=MN a b E nd r++[oI true true ks,.cells [.own 7]]) (f:=198) (by kernel_rfl) (.fr [7,8] (a6S (n:=n) (ko:=true) (ex:=true) ks (m12 hk.2)) (.b hf (.o (show fK 0 ks.length from⟨by omega,by omega⟩) .er)));exact aU.forget (aU.gs hX h1 [.mv 5,.mv 6,.gc [9,10]] rfl) 7
abbrev a6X(c:Int)(ks:List Int):PB aC:=.cells ((Ky.l (tX c ks)).map fun i=>.int .i64 i)
theorem afl{n:Nat}(hO:Ok (n+5) Dv){a b:List Int}{E:List V}{nd:List Br}{r:Int}(c:Int)(ks:List Int)(hk:1<=ks.length∧ks.length<=12)(hf:(ks.all fun x=>x==ks.getD 0 0)=false)(hN:(nd.map BU).Nodup)(hm:tX c ks∈nd.map BU):aU X0 Qp (bQ (n+6)) (.fn 198 [] []) [.ptr 4 0 9,.int .i64 c,.own 7] (MN a b E nd r++[oI true true ks]) (.int .i64 ((nd.map BU).idxOf (tX c ks):Nat)) (MN' a b E nd r):=by
 have hF:qp X0 Qp 223 (kK.es (yH nd)) (kK.tv (tX c ks)) (.int .i64 ((nd.map BU).idxOf (tX c ks):Nat)):=kK.found (by rw[SL];exact hN) (a6W hm);have h1:aU X0 Qp (bQ (n+6)) (.fn 198 [] []) [.ptr 4 0 9,.int .i64 c,.own 7] (MN a b E nd r++[oI true true ks]) (.int .i64 ((nd.map BU).idxOf (tX c ks):Nat)) (MN a b E nd r++[oI true true ks,.cells [.own 7],a6X c ks]):=by
  generalize (nd.map BU).idxOf (tX c ks)=j at hF ⊢;generalize yH nd=nm at hF ⊢;obtain⟨k1,k2⟩:=hk;rcases ks with _|⟨x0,_|⟨x1,_|⟨x2,_|⟨x3,_|⟨x4,_|⟨x5,_|⟨x6,_|⟨x7,_|⟨x8,_|⟨x9,_|⟨x10,_|⟨x11,_|⟨x12,_⟩⟩⟩⟩⟩⟩⟩⟩⟩⟩⟩⟩⟩<;>first|(exfalso;simp at k1;done)|(exfalso;simp at k2;omega)|(exact fU hO (first:=[]) (cap:=[]) (.fr [7,8] (a6S (n:=n) (ko:=true) (ex:=true) _ (m12 k2)) (.b hf (.c (.int .i64 (j:Nat)) [] hF (.b (rfl:(!true)=false) .er)))))
 exact aU.forget (aU.gs hX (aU.forget h1 9) [.mv 5,.mv 6,.gc [10,11]] rfl) 7
theorem afm{n:Nat}(hO:Ok (n+5) Dv){a b:List Int}{E:List V}{nd:List Br}{r:Int}(c:Int)(ks:List Int)(hk:1<=ks.length∧ks.length<=12)(hf:(ks.all fun x=>x==ks.getD 0 0)=false)(hm:tX c ks∉nd.map BU)(hl:nd.length+1<=ah):aU X0 Qp (bQ (n+6)) (.fn 198 [] []) [.ptr 4 0 9,.int .i64 c,.own 7] (MN a b E nd r++[oI true true ks]) (.int .i64 (nd.length:Nat)) (MN' a b E (nd++[⟨c,ks⟩]) r):=by
 have hF:nN X0 Qp 223 (kK.es (yH nd)) (kK.tv (tX c ks)):=kK.fresh (by rw[SL];exact hm);have hC:=kK.ck (tX c ks);have hL:nd.length+([⟨c,ks⟩]:List Br).length<=ah:=by simpa using hl
 have em:kK.es (yH (nd++[⟨c,ks⟩]))=kK.es (yH nd)++[(kK.pv (tX c ks),.int .i64 (nd.length:Nat))]:=by rw[a6V];exact a4f ..
 show aU X0 Qp _ _ _ _ _ (MNg a b E (nd++[⟨c,ks⟩]) r (kK.es (yH (nd++[⟨c,ks⟩]))));rw[em];have h1:aU X0 Qp (bQ (n+6)) (.fn 198 [] []) [.ptr 4 0 9,.int .i64 c,.own 7] (MN a b E nd r++[oI true true ks]) (.int .i64 (nd.length:Nat)) [.list false false 3 a,.list false false 3 b,.map (kV.es (zB E)),.map (kK.es (yH nd)++[(kK.pv (tX c ks),.int .i64 (nd.length:Nat))]),mkC a b 5 11 r,zC E,.gone,.gone,.cells [.own 7],a6X c ks,.list true true 105 [⟨c,ks⟩],zD (nd++[⟨c,ks⟩])]:=by
  generalize yH nd=nm at hF ⊢;obtain⟨k1,k2⟩:=hk;rcases ks with _|⟨x0,_|⟨x1,_|⟨x2,_|⟨x3,_|⟨x4,_|⟨x5,_|⟨x6,_|⟨x7,_|⟨x8,_|⟨x9,_|⟨x10,_|⟨x11,_|⟨x12,_⟩⟩⟩⟩⟩⟩⟩⟩⟩⟩⟩⟩⟩<;>first|(exfalso;simp at k1;done)|(exfalso;simp at k2;omega)|(exact fU hO (first:=[]) (cap:=[]) (.fr [7,8] (a6S (n:=n) (ko:=true) (ex:=true) _ (m12 k2)) (.b hf (.q (.bool false) hF (.b (rfl:(!false)=true) (.q (.bool false) hC (.o hF (.o hL .er))))))))
 exact aU.gs hX (aU.forget (aU.forget h1 9) 10) [.mv 5,.gc [12,11]] rfl
theorem ak6{n:Nat}(hO:Ok (n+5) Dv){a b:List Int}{E:List V}{nd:List Br}{r:Int}(c:Int)(ks:List Int)(hk:1<=ks.length∧ks.length<=12)(hN:(nd.map BU).Nodup)(hl:nd.length+1<=ah):aU X0 Qp (bQ (n+6)) (.fn 198 [] []) [.ptr 4 0 9,.int .i64 c,.own 7] (MN a b E nd r++[oI true true ks]) (.int .i64 (eu nd c ks)) (MN' a b E (dB nd c ks) r):=by
 unfold eu dB;cases hf:ks.all fun x=>x==ks.getD 0 0
 .rw[a0p (by simp),a0p (by simp)];by_cases hm:tX c ks∈nd.map BU
  .rw[a0q hm];exact afl hO c ks hk hf hN hm
  rw[a0p hm,a7x hm,a4l];exact afm hO c ks hk hf hm hl
 rw[a0q rfl,a0q rfl];exact afk hO c ks hk hf
theorem Qw{nd:List Br}{c:Int}{ks:List Int}(h:(nd.map BU).Nodup):((dB nd c ks).map BU).Nodup:=by
 unfold dB;split
 .exact h
 split
 .exact h
 rename_i hn;rw[a4f,a8G];exact⟨h,by simp,fun x hx y hy=>by simp at hy;subst hy;intro e;subst e;exact hn hx⟩
open Go Tw Pv dw
theorem ape{n:Nat}(hO:Ok n Dv)(a b:List Int)(ha:a.length<=ah)(hb:b.length<=ah):aU X0 Qp (bQ (n+1)) (.fn 194 [] []) [.agg [.dD 3 a false,.dD 3 b false]] [] (.ptr 4 0 9) (MN a b [] [] 0):=
 aU.gs hX (mQ hX hO (first:=[]) (cap:=[]) (v:=.ptr 4 0 9) (H1:=[.list false false 3 a,.list false false 3 b,.map [],.map [],.cells [.dD 3 a false,.dD 3 b false,.own 0,.own 1,.nil .slc,.nil .slc,.int .i64 0,.map 2,.map 3]]) (by kernel_rfl) (.o ha (.o hb .er))) [.Ui 4 4 39,.Ui 4 5 105] rfl
structure Cs where
 e:List V
 n:List Br
 k:List (Int×Int)
abbrev Lj(k:List (Int×Int)):List (Int×PV X0.Γ):=k.map fun p=>(p.1,.int .i64 p.2)
abbrev pC:List (PV aC):=[.ptr 8 0 1,.ptr 7 0 7,.ptr 10 0 1,.ptr 11 0 1]
abbrev acW(l:Lo)(k:List (Int×Int)):List (PB aC):=[.aF l.ps,.aF [.ptr 4 0 9],.map (kI.es (Lj k)),.aF [.map 9],.aF [.fn 195 [] pC]]
abbrev HC(l:Lo)(x:Cs):List (PB aC):=MN l.s l.o x.e x.n 0++acW l x.k
abbrev HC'(l:Lo)(x:Cs):List (PB aC):=[.list false false 3 l.s,.list false false 3 l.o,.map (kV.es (zB x.e)),.map (kK.es (yH x.n)),mkC l.s l.o 12 13 0,.gone,.gone]++acW l x.k++[zC x.e,zD x.n]
def pW(d:Dg)(r:Int):V:=d.aK.getD (i64.wrap (-1-r)).toNat V0
def UM(k:List (Int×Int))(r:Int):Int:=((k.find? fun p=>p.1==r).getD (0,0)).2
def cu(d:Dg):Nat->Int->Cs->Int×Cs
 | 0,_,x=>(0,x)
 |F+1,r,x=>if decide (r<0)=true then(i64.wrap (-1-(x.e.idxOf (pW d r):Nat)),⟨fG x.e (pW d r),x.n,x.k⟩)else if decide (r∈x.k.map (·.1))=true then(UM x.k r,x)
  else
   let y:=aT (fun j (y:List Int×Cs)=>(y.1.set j (cu d F ((au d r).aA.getD j 0) y.2).1,(cu d F ((au d r).aA.getD j 0) y.2).2)) (au d r).aA.length 0 (List.replicate (au d r).aA.length 0,x)
   (eu y.2.n (au d r).var y.1,⟨y.2.e,dB y.2.n (au d r).var y.1,y.2.k++[(r,eu y.2.n (au d r).var y.1)]⟩)
structure Dy(d:Dg)(x:Cs):Prop where
 e1:x.e.Nodup
 e2:∀v∈x.e,v∈d.aK
 n1:(x.n.map BU).Nodup
 n2:x.n.length<=x.k.length
 k1:(x.k.map (·.1)).Nodup
 k2:∀a∈x.k.map (·.1),fK a d.aj.length
theorem Dy.Jl{d:Dg}{x:Cs}(h:Dy d x):x.k.length<=d.aj.length:=by
 have:=zA _ _ h.k1 h.k2;simpa using this
theorem Dy.ak7{d:Dg}{x:Cs}(h:Dy d x):x.e.length<=d.aK.length:=ado h.e1 h.e2
theorem XA(nd:List Br)(c:Int)(ks:List Int):(dB nd c ks).length<=nd.length+1:=by
 unfold dB;split
 .omega
 split
 .omega
 simp
theorem a1C{k:List (Int×Int)}{r:Int}(h:r∈k.map (·.1)):(r,UM k r)∈k:=by
 rw[a1e]at h;obtain⟨p,hp,rfl⟩:=h;unfold UM;cases e:k.find? fun q=>q.1==p.1 with
 |none=>have:=aea.1 e p hp;simp at this
 |some q=>
  have h1:=List.mem_of_find?_eq_some e;have h2:=List.find?_some e;simp at h2;rw[<-h2];exact h1
theorem a6Y{d:Dg}{r:Int}(h:fK (i64.wrap (-1-r)) d.aK.length):pW d r∈d.aK:=by
 have h1:(i64.wrap (-1-r)).toNat<d.aK.length:=by have:=h.1;have:=h.2;omega
 unfold pW;simp[List.getD,a0g h1]
theorem Hz{d:Dg}(P:Cs->Prop){F:Nat}{r:Int}{x:Cs}(h:P x)(hs:∀j y,j<(au d r).aA.length->P y->P (cu d F ((au d r).aA.getD j 0) y).2) :
  (aT (fun j (y:List Int×Cs)=>(y.1.set j (cu d F ((au d r).aA.getD j 0) y.2).1,(cu d F ((au d r).aA.getD j 0) y.2).2)) (au d r).aA.length 0 (List.replicate (au d r).aA.length 0,x)).1.length=(au d r).aA.length∧P (aT (fun j (y:List Int×Cs)=>(y.1.set j (cu d F ((au d r).aA.getD j 0) y.2).1,(cu d F ((au d r).aA.getD j 0) y.2).2)) (au d r).aA.length 0 (List.replicate (au d r).aA.length 0,x)).2:=
 bU (g:=fun j (y:List Int×Cs)=>(y.1.set j (cu d F ((au d r).aA.getD j 0) y.2).1,(cu d F ((au d r).aA.getD j 0) y.2).2)) (m:=(au d r).aA.length) (k:=0) (s:=(List.replicate (au d r).aA.length 0,x)) (fun _ y=>y.1.length=(au d r).aA.length∧P y.2) ⟨by simp,h⟩ (fun j y _ hj hy=>⟨by simp[hy.1],hs j y.2 (by omega) hy.2⟩)
theorem XB{d:Dg}:∀(F:Nat) (r s:Int) (x:Cs),r<s->s∉x.k.map (·.1)->0<=s->(∀i,i<d.aj.length->∀k,k<(fC d i).aA.length->(fC d i).aA.getD k 0<i)->(0<=r->fK r d.aj.length)->s∉(cu d F r x).2.k.map (·.1)
 | 0,_,_,_,_,h,_,_,_=>h
 |F+1,r,s,x,hr,h,h0,hk,hn=>by
  unfold cu;by_cases c:r<0
  .rw[a0q (by simpa using c)];exact h
  rw[a0p (by simpa using c)];split
  .exact h
  have hi:=hn (by omega);have DW:∀k,k<(au d r).aA.length->(au d r).aA.getD k 0<r:=fun k kQ=>by
   obtain⟨i1,i2⟩:=hi;have h9:(au d r).aA.getD k 0<(r.toNat:Int):=hk r.toNat (by omega) k kQ;omega
  have:=(Hz (d:=d) (fun y=>s∉y.k.map (·.1)) (F:=F) (r:=r) h (fun j y hj hy=>XB F _ s y (by have:=DW j hj;omega) hy h0 hk fun h5=>⟨h5,by have:=hi.2;have:=DW j hj;omega⟩)).2;simp only[a4f,a2Y,adn];exact⟨this,by simp;omega⟩
theorem Pg{d:Dg}(h:BF d):∀(F:Nat) (r:Int) (x:Cs),Dy d x->jq d r d.aj.length->Dy d (cu d F r x).2
 | 0,_,_,hx,_=>hx
 |F+1,r,x,hx,hr=>by
  unfold cu;by_cases c:r<0
  .rw[a0q (by simpa using c)];refine⟨UL hx.e1,fun v hv=>?_,hx.n1,hx.n2,hx.k1,hx.k2⟩;have hv:v∈fG x.e (pW d r):=hv;unfold fG at hv;split at hv
   .exact hx.e2 v hv
   rcases a2Y.1 hv with hv|hv
   .exact hx.e2 v hv
   rw[a2A.1 hv];exact a6Y (hr.2 c)
  rw[a0p (by simpa using c)];split
  .exact hx
  rename_i c2;have aQ:r.toNat<d.aj.length:=by have:=hr.1;omega
  have BM:∀k,k<(au d r).aA.length->(au d r).aA.getD k 0<r:=fun k kQ=>by
   have h9:=(h.zy r.toNat aQ k kQ).1;have h9:(au d r).aA.getD k 0<(r.toNat:Int):=h9;omega
  have hb:=(Hz (d:=d) (fun y=>Dy d y∧r∉y.k.map (·.1)) (F:=F) (r:=r) ⟨hx,by simpa using c2⟩ (fun j y hj hy=>by
   have KO:jq d ((au d r).aA.getD j 0) d.aj.length:=⟨by have:=BM j hj;have:=hr.1;omega,(h.zy r.toNat aQ j hj).2⟩;refine⟨Pg h F _ y hy.1 KO,XB F _ r y (BM j hj) hy.2 (by omega) (fun i hi k hk=>(h.zy i hi k hk).1) (fun h5=>⟨h5,by have:=KO.1;omega⟩)⟩)).2
  obtain⟨hb,xR⟩:=hb;refine⟨hb.e1,hb.e2,Qw hb.n1,?_,?_,?_⟩
  .have:=XA (aT (fun j (y:List Int×Cs)=>(y.1.set j (cu d F ((au d r).aA.getD j 0) y.2).1,(cu d F ((au d r).aA.getD j 0) y.2).2)) (au d r).aA.length 0 (List.replicate (au d r).aA.length 0,x)).2.n (au d r).var (aT (fun j (y:List Int×Cs)=>(y.1.set j (cu d F ((au d r).aA.getD j 0) y.2).1,(cu d F ((au d r).aA.getD j 0) y.2).2)) (au d r).aA.length 0 (List.replicate (au d r).aA.length 0,x)).1;have:=hb.n2;simp only[a1s,a3F];omega
  .simp only[a4f,a4g,abA];exact wV hb.k1 xR
  intro a ha;simp only[a4f,a2Y,a4g,abA,a2A]at ha;rcases ha with ha|rfl
  .exact hb.k2 a ha
  exact⟨by omega,by omega⟩
open Go Tw Pv dw
abbrev hCl(l:Lo)(x:Cs)(ks:List Int):List (PB aC):=HC' l x++[oI true true ks]
abbrev wCl(l:Lo)(r:Int)(i:Int)(y:List Int×Cs)(x:List (Nat×PE aC)):aS aC:=⟨[(0,xi r),(1,.val (.ptr 8 0 1)),(3,.val (.ptr 10 0 1)),(4,.val (.ptr 11 0 1)),(9,.loc 0 0),(10,xo 14),(43,xL 3 (au l.d r).aA),(44,xi (au l.d r).aA.length),(45,xi i)]++x,[(au l.d r).ps],hCl l y.2 y.1⟩
theorem lCl{M:Nat}(hO:Ok M Dv){d:Dg}{F:Nat}{r:Int}(hk:(au d r).aA.length<=12)(Q:Cs->Prop){x:Cs}(hx:Q x)(hq:∀j y,j<(au d r).aA.length->Q y->Q (cu d F ((au d r).aA.getD j 0) y).2)(hs:∀j y,j<(au d r).aA.length->Q y->aU X0 Qp (bQ M) (.fn 195 [] pC) [.int .i64 ((au d r).aA.getD j 0)] (HC (yI d) y) (.int .i64 (cu d F ((au d r).aA.getD j 0) y).1) (HC' (yI d) (cu d F ((au d r).aA.getD j 0) y).2)) :
  Jj M 195 0 12 (wCl (yI d) r 0 (List.replicate (au d r).aA.length 0,x) []) (.exit 0) (wCl (yI d) r (au d r).aA.length (aT (fun j (y:List Int×Cs)=>(y.1.set j (cu d F ((au d r).aA.getD j 0) y.2).1,(cu d F ((au d r).aA.getD j 0) y.2).2)) (au d r).aA.length 0 (List.replicate (au d r).aA.length 0,x)) [(46,xl false)]):=by
 refine vw (σ:=List Int×Cs) (N:=(au d r).aA.length) (g:=fun j (y:List Int×Cs)=>(y.1.set j (cu d F ((au d r).aA.getD j 0) y.2).1,(cu d F ((au d r).aA.getD j 0) y.2).2)) (s0:=(List.replicate (au d r).aA.length 0,x)) (st:=fun k y=>wCl (yI d) r k y []) (fin:=fun y=>wCl (yI d) r (au d r).aA.length y [(46,xl false)]) (fun _ y=>y.1.length=(au d r).aA.length∧Q y.2) (by kernel_rfl) (m12 hk) ⟨by simp,hx⟩ (fun j y hj hy=>⟨by simp[hy.1],hq j y.2 hj hy.2⟩) (fun j y hj hy m e p g=>?_) (fun y _=>aN hO (.b (fB (au d r).aA.length) .ex));have h1:=hs j y.2 hj hy.2;have h2:fK j y.1.length:=aH (by rw[hy.1];exact hj);generalize cu d F ((au d r).aA.getD j 0) y.2=z at h1 g;obtain⟨v,z⟩:=z;exact aN hO (.b (bn hj) (.o (aH hj) (.fr [0,1,2,3,4,12,13,7,8,9,10,11] h1 (.o h2 (.goG [.gc [15,16,14]] g)))))
theorem Em(k:List (Int×Int)):(Lj k).map (·.1)=k.map (·.1):=by
 unfold Lj;rw[a8o];rfl
theorem apf{n:Nat}(hO:Ok n Dv)(k:Int):aU X0 Qp (bQ n) (.fn 197 [] []) [.int .i64 k] [] (iA.put (i64.wrap (-1-k))) []:=
 nZ.aag hX (hO 197 [.int .i64 k] (iA.put (i64.wrap (-1-k))) [] [] (by kernel_rfl) (fun q hq=>by cases hq)) rfl rfl rfl rfl
theorem sCl{N:Nat}(hO:∀m,N<=m->Ok m Dv){d:Dg}(h:BF d)(he:d.aK.length+1<=ah)(hn:d.aj.length+1<=ah)(h1k:∀i,i<d.aj.length->1<=(fC d i).aA.length):∀(F:Nat) (r:Int) (x:Cs),r+1<F->Dy d x->jq d r d.aj.length->1<=F->aU X0 Qp (bQ (N+F+6)) (.fn 195 [] pC) [.int .i64 r] (HC (yI d) x) (.int .i64 (cu d F r x).1) (HC' (yI d) (cu d F r x).2)
 | 0,r,x,_,_,_,h1=>by omega
 |F+1,r,x,hF,hx,hr,_=>by
  rw[show N+(F+1)+6=N+F+6+1 by omega];have FT:=hO (N+F+6) (by omega);have G9:=hO (N+F+5) (by omega);unfold cu;by_cases c:r<0
  .have t0:decide (r<0)=true:=(by simpa using c);rw[a0q t0];have hi:fK (i64.wrap (-1-r)) d.aK.length:=hr.2 c;have hs:=apc G9 (a:=d.ay) (b:=d.aG) (E:=x.e) (nd:=x.n) (r:=0) (nm:=kK.es (yH x.n)) (pW d r) hx.e1 (by have:=hx.ak7;omega);exact fU FT (first:=[]) (.b t0 (.fr [] (apf FT r) (.o hi (.fr [0,1,2,3,4,5,6] hs .er))))
  have t0:decide (r<0)=false:=by simpa using c
  rw[a0p (by rw[t0];simp)];have aQ:r.toNat<d.aj.length:=by have:=hr.1;omega
  by_cases c2:r∈x.k.map (·.1)
  .rw[a0q (by simpa using c2)];have hf:qp X0 Qp 3 (kI.es (Lj x.k)) (kI.tv r) (.int .i64 (UM x.k r)):=kI.found (by rw[Em];exact hx.k1) (a1e.2 ⟨(r,UM x.k r),a1C c2,rfl⟩);generalize UM x.k r=v at hf ⊢;exact aU.gs hX (mQ hX FT (first:=[]) (H1:=HC (yI d) x) (v:=.int .i64 v) (by kernel_rfl) (.b t0 (.c (.int .i64 v) [] hf (.b (rfl:true=true) .er)))) [.mv 5,.mv 6] rfl
  rw[a0p (by simpa using c2)];have BM:∀k,k<(au d r).aA.length->(au d r).aA.getD k 0<r:=fun k kQ=>by
   have h9:=(h.zy r.toNat aQ k kQ).1;have h9:(au d r).aA.getD k 0<(r.toNat:Int):=h9;omega
  have KO:∀j,j<(au d r).aA.length->jq d ((au d r).aA.getD j 0) d.aj.length:=fun j hj=>⟨by have:=BM j hj;have:=hr.1;omega,(h.zy r.toNat aQ j hj).2⟩;have JX:(au d r).aA.length<=12:=h.Jl r.toNat aQ;have hq:∀j y,j<(au d r).aA.length->(Dy d y∧r∉y.k.map (·.1))->Dy d (cu d F ((au d r).aA.getD j 0) y).2∧r∉(cu d F ((au d r).aA.getD j 0) y).2.k.map (·.1):=fun j y hj hy=>
   ⟨Pg h F _ y hy.1 (KO j hj),XB F _ r y (BM j hj) hy.2 (by omega) (fun i hi k hk=>(h.zy i hi k hk).1) (fun h5=>⟨h5,by have:=(KO j hj).1;omega⟩)⟩
  have hl:=lCl FT (d:=d) (F:=F) (r:=r) JX (fun y=>Dy d y∧r∉y.k.map (·.1)) (x:=x) ⟨hx,c2⟩ hq (fun j y hj hy=>sCl hO h he hn h1k F _ y (by have:=BM j hj;omega) hy.1 (KO j hj) (by omega));obtain⟨g1,g2,g3⟩:=Hz (d:=d) (fun y=>Dy d y∧r∉y.k.map (·.1)) (F:=F) (r:=r) (x:=x) ⟨hx,c2⟩ hq;generalize aT (fun j (y:List Int×Cs)=>(y.1.set j (cu d F ((au d r).aA.getD j 0) y.2).1,(cu d F ((au d r).aA.getD j 0) y.2).2)) (au d r).aA.length 0 (List.replicate (au d r).aA.length 0,x)=y at hl g1 g2 g3;obtain⟨ks,e,nd,kn⟩:=y;have g1:ks.length=(au d r).aA.length:=g1;have EL:1<=ks.length∧ks.length<=12:=by rw[g1];exact⟨h1k r.toNat aQ,JX⟩
  have hN:nd.length+1<=ah:=by have:=g2.Jl;have:=g2.n2;simp at *;omega
  have hs:=ak6 (n:=N+F) G9 (a:=d.ay) (b:=d.aG) (E:=e) (nd:=nd) (r:=0) (au d r).var ks EL g2.n1 hN;have f0:nN X0 Qp 3 (kI.es (Lj x.k)) (kI.tv r):=kI.fresh (by rw[Em];exact c2);have f1:nN X0 Qp 3 (kI.es (Lj kn)) (kI.tv r):=kI.fresh (by rw[Em];exact g3);have f2:=kI.ck r;show aU X0 Qp _ _ _ _ (.int .i64 (eu nd (au d r).var ks)) (HC' (yI d) ⟨e,dB nd (au d r).var ks,kn++[(r,eu nd (au d r).var ks)]⟩);generalize eu nd (au d r).var ks=v at hs ⊢;generalize dB nd (au d r).var ks=nd' at hs ⊢;have em:kI.es (Lj (kn++[(r,v)]))=kI.es (Lj kn)++[(kI.pv r,.int .i64 v)]:=by
   show List.map _ (List.map _ (kn++[(r,v)]))=_;rw[a4f,a4f];rfl
  have f3:qp X0 Qp 3 (kI.es (Lj kn)++[(kI.pv r,.int .i64 v)]) (kI.tv r) (.int .i64 v):=by
   rw[<-em];exact kI.found (by rw[Em,a4f];exact wV g2.k1 g3) (a1e.2 ⟨(r,v),by simp,rfl⟩)
  have hi:fK r d.aj.length:=⟨by omega,hr.1⟩;have hm:((au d r).aA.length:Int)<=(ah:Int):=by have:=m12 JX;omega
  show aU X0 Qp _ _ _ _ _ ([_,_,_,_,_,_,_]++[_,_,.map (kI.es (Lj (kn++[(r,v)]))),_,_]++[_,_]);rw[em];exact aU.gs hX (mQ hX FT (first:=[]) (v:=.int .i64 v) (H1:=[.list false false 3 d.ay,.list false false 3 d.aG,.map (kV.es (zB e)),.map (kK.es (yH nd')),mkC d.ay d.aG 15 16 0,.gone,.gone,.aF (yI d).ps,.aF [.ptr 4 0 9],.map (kI.es (Lj kn)++[(kI.pv r,.int .i64 v)]),.aF [.map 9],.aF [.fn 195 [] pC],.gone,.gone,.gone,zC e,zD nd']) (by kernel_rfl) (.b t0 (.q (.bool false) f0 (.b (rfl:false=false) (.o hi (.o (show((au d r).aA.length:Int)=((au d r).aA.length:Int)from rfl) (.o (show(0:Int)<=((au d r).aA.length:Int) by omega) (.o hm (.wG [.mv 5,.mv 6,.gc [13,14,12]] hl (.fr [0,1,2,3,4,12,13,14] hs (.q (.bool false) f2 (.o f1 (.c (.int .i64 v) [] f3 .er))))))))))))) [.gc [15,16]] rfl
open Go Tw Pv dw
abbrev Ph(a b:List V)(k:Nat):Bool:=!(decide (a.getD k V0=b.getD k V0))
abbrev afn(a b:List V)(i:Int)(x:List (Nat×PE aC)):aS aC:=⟨[(0,xL 39 a),(1,xL 39 b),(12,xi a.length),(13,xi i)]++x,[],[]⟩
def z227(a b:List V):Unit⊕Nat->Ex×aS aC
 |.inl _=>(.exit 0,afn a b a.length [(14,xl false)])
 |.inr _=>(.ret,⟨[(4,xl false)],[],[]⟩)
theorem ak8{n:Nat}{fP:fA aC}(hO:Ok n fP)(a b:List V)(hl:a.length<=ah)(h:a.length=b.length):Lp n 227 0 (afn a b 0 []) (z227 a b (bF (Ph a b) a.length)).1 (z227 a b (bF (Ph a b) a.length)).2:=
 iL (st:=fun i _=>afn a b i []) (fun _ _=>True) (by kernel_rfl) hl trivial (fun k s m hk _ ih=>aN hO (.b (bn hk) (.o (aH hk) (.o (aH (h▸hk)) (.q (.bool (!(decide (a.getD k V0=b.getD k V0)))) (neV (.tmp 19) (.tmp 23) (a.getD k V0) (b.getD k V0)) (.ls (.ou nofun) (.nx (ih _ trivial)))))))) (fun s _=>aN hO (.b (fB a.length) (.ou nofun)))
theorem aal{a b:List V}(h:a.length=b.length):a=b↔∀j,j<a.length->a.getD j V0=b.getD j V0:=by
 constructor
 .rintro rfl j _;rfl
 intro h2;apply a9e h;intro j h3 h4;have:=h2 j h3;simpa[List.getD,a0g h3,a0g h4]using this
theorem Pj{a b:List V}(h:a.length=b.length):kG (bF (Ph a b) a.length)=decide (a=b):=by
 rw[a4E,dL,a1o,aal h];simp[Ph]
theorem aam{α:Type}[DecidableEq α]{a b:List α}(h:((a.length:Int) != (b.length:Int))=true):decide (a=b)=false:=by
 rw[a2W];rintro rfl;simp at h
def acX:fA aC:=cO 227 (a2 vsA vsA) tA (fun p=>decide (p.1=p.2)) (fun p=>[p.1.length<=ah]) Dv
theorem ak9:Gd acX:=acS.add fun n hO p hp=>aO hO (.s (fun h=>.v false (aam h).symm) fun h=>.z (c:=kG (bF (Ph p.1 p.2) p.1.length)) (fun h2=>.w (jZ (ak8 hO p.1 p.2 (hp _ (.head _)) (jD h)) () h2) (.v true (by rw[<-Pj (jD h),h2]))) fun h2=>.w (ku (ak8 hO p.1 p.2 (hp _ (.head _)) (jD h)) 0 h2) (.v false (by rw[<-Pj (jD h),h2])))
def UN(x y:Br):Bool:=if(x.var==y.var)=true then decide (x.aA=y.aA)else false
def a6Z:fA aC:=cO 226 (a2 brA brA) tA (fun p=>UN p.1 p.2) (fun p=>[p.1.aA.length<=ah]) acX
theorem akb:Gd a6Z:=ak9.add fun n hO p hp=>aO hO (.ss (.o (hp _ (.head _)) .rr) .rr)
abbrev wEB(a b:List Br)(i:Int)(x:List (Nat×PE aC)):aS aC:=⟨[(1,xL 105 b),(2,.val (.fn 226 [] [])),(15,xL 105 a),(16,xi a.length),(17,xi i)]++x,[],[]⟩
abbrev cEB(a b:List Br)(k:Nat):Bool:=!(UN (a.getD k jU) (b.getD k jU))
def zEB(a b:List Br):Unit⊕Nat->Ex×aS aC
 |.inl _=>(.exit 0,wEB a b a.length [(18,xl false)])
 |.inr k=>(.ret,⟨[(6,xl false)],[(a.getD k jU).ps,(b.getD k jU).ps],[]⟩)
theorem lEB{n:Nat}(hO:Ok n a6Z)(a b:List Br)(hl:a.length<=ah)(h:a.length=b.length)(hk:∀k,k<a.length->(a.getD k jU).aA.length<=ah):Lp n 228 0 (wEB a b 0 []) (zEB a b (bF (cEB a b) a.length)).1 (zEB a b (bF (cEB a b) a.length)).2:=
 iL (st:=fun i _=>wEB a b i []) (fun _ _=>True) (by kernel_rfl) hl trivial (fun k s m kQ _ ih=>aN hO (.b (bn kQ) (.o (aH kQ) (.o (aH (h▸kQ)) (.o (hk k kQ) (.ls (.ou nofun) (.nx (ih _ trivial)))))))) (fun s _=>aN hO (.b (fB a.length) (.ou nofun)))
def HY(a b:List Br):Bool:=if((a.length:Int) != (b.length:Int))=true then false else if kG (bF (cEB a b) a.length)=true then true else false
def acY:fA aC:=cO 228 (a3 a9U a9U (fnA 226)) tA (fun p=>HY p.1 p.2.1) (fun p=>[p.1.length<=ah,∀k,k<p.1.length->(p.1.getD k jU).aA.length<=ah]) a6Z
theorem akc:Gd acY:=akb.add fun n hO p hp=>aO hO (.sh (fun _=>.rr) fun h=>.zh (fun h2=>.w (jZ (lEB hO p.1 p.2.1 (hp _ (.head _)) (jD h) (hp (∀k,k<p.1.length->(p.1.getD k jU).aA.length<=ah) (.tail _ (.head _)))) () h2) .rr) fun h2=>.w (ku (lEB hO p.1 p.2.1 (hp _ (.head _)) (jD h) (hp (∀k,k<p.1.length->(p.1.getD k jU).aA.length<=ah) (.tail _ (.head _)))) 0 h2) .rr)
def I4(a b:Dg):Bool:=if decide (a.ay=b.ay)=true then(if decide (a.aG=b.aG)=true then(if decide (a.aK=b.aK)=true then(if HY a.aj b.aj=true then a.root==b.root else false)else false)else false)else false
def acZ:fA aC:=cO 203 (a2 dA dA) tA (fun p=>I4 p.1 p.2) (fun p=>[p.1.ay.length<=ah,p.1.aG.length<=ah,p.1.aK.length<=ah,p.1.aj.length<=ah,∀k,k<p.1.aj.length->(p.1.aj.getD k jU).aA.length<=ah]) acY
theorem akd:Gd acZ:=akc.add fun n hO p hp=>aO hO (.o (hp _ (.head _)) (.ss (.o (hp _ (.tail _ (.head _))) (.ss (.o (hp _ (.tail _ (.tail _ (.head _)))) (.ss (.o (hp _ (.tail _ (.tail _ (.tail _ (.head _))))) (.o (hp (∀k,k<p.1.aj.length->(p.1.aj.getD k jU).aA.length<=ah) (.tail _ (.tail _ (.tail _ (.tail _ (.head _)))))) (.ss .rr .rr))) .rr)) .rr)) .rr))
theorem XC{x y:Br}:UN x y=true↔x=y:=by
 obtain⟨a,b⟩:=x;obtain⟨c,e⟩:=y;unfold UN;simp only[Br.mk.injEq];by_cases h:a=c<;>simp[h]
theorem a3t{a b:List Br}:HY a b=true↔a=b:=by
 unfold HY;by_cases h:a.length=b.length
 .rw[a0p (by simp;omega)];have e:kG (bF (cEB a b) a.length)=true↔a=b:=by
   rw[dL];constructor
   .intro h1;apply a9e h;intro j h3 h4;have:=h1 j h3;simp only[cEB,abz]at this;have:=XC.1 this;simpa[List.getD,a0g h3,a0g h4]using this
   rintro rfl j _;simp only[cEB,abz];exact XC.2 rfl
  rw[<-e];cases kG (bF (cEB a b) a.length)<;>simp
 rw[a0q (by simp;omega)];constructor
 .intro h1;cases h1
 rintro rfl;exact absurd rfl h
theorem a1D{a b:Dg}:I4 a b=true↔a=b:=by
 obtain⟨a1,a2,a3,a4,a5⟩:=a;obtain⟨b1,b2,b3,b4,b5⟩:=b;unfold I4;simp only[Dg.mk.injEq];by_cases h1:a1=b1
 .by_cases h2:a2=b2
  .by_cases h3:a3=b3
   .have h4:=a3t (a:=a4) (b:=b4);cases e:HY a4 b4
    .rw[e]at h4;simp[h1,h2,h3];intro h5;exact absurd h5 (by simpa using h4)
    rw[e]at h4;simp at h4;simp[h1,h2,h3,h4]
   simp[h3]
  simp[h2]
 simp[h1]
open Go Tw Pv dw
def xk(s:List Int×List Int)(x:Int):Int:=if x<0 then i64.wrap (-1-(s.2.idxOf (jE x):Nat))else(s.1.idxOf x:Nat)
def Vy(s:List Int×List Int)(x:Int):Prop:=(x<0->jE x∈s.2)∧(0<=x->x∈s.1)
def KS(d:Dg)(s:List Int×List Int):Cs:=⟨s.2.map fun e=>d.aK.getD e.toNat V0,s.1.map fun o=>⟨(au d o).var,(au d o).aA.map (xk s)⟩,s.1.map fun o=>(o,xk s o)⟩
def Jr(d:Dg)(s:List Int×List Int):Prop:=∀o∈s.1,∀k∈(au d o).aA,Vy s k
theorem UO{s:List Int×List Int}{x:Int}(l:List Int)(h:Vy s x):xk (s.1,s.2++l) x=xk s x:=by
 unfold xk;split
 .rename_i c;rw[a9x,a0q (h.1 c)]
 rfl
theorem I5{s:List Int×List Int}{x:Int}(l:List Int)(h:Vy s x):xk (s.1++l,s.2) x=xk s x:=by
 unfold xk;split
 .rfl
 rename_i c;rw[a9x,a0q (h.2 (by omega))]
theorem afp{d:Dg}{s:List Int×List Int}(hk:Jr d s)(hn:∀o∈s.1,0<=o)(e:Int):KS d (s.1,s.2++[e])=⟨(KS d s).e++[d.aK.getD e.toNat V0],(KS d s).n,(KS d s).k⟩:=by
 unfold KS;simp only[a4f,a4g,abA,Cs.mk.injEq,true_and];constructor
 .apply a4O;intro o ho;congr 1;apply a4O;intro k kQ;exact UO [e] (hk o ho k kQ)
 apply a4O;intro o ho;rw[UO [e] ⟨fun c=>absurd (hn o ho) (by omega),fun _=>ho⟩]
theorem aan{d:Dg}{s:List Int×List Int}(hk:Jr d s)(hn:∀o∈s.1,0<=o){r:Int}(h0:0<=r)(hr:r∉s.1)(KO:∀k∈(au d r).aA,Vy s k):KS d (s.1++[r],s.2)=⟨(KS d s).e,(KS d s).n++[⟨(au d r).var,(au d r).aA.map (xk s)⟩],(KS d s).k++[(r,(s.1.length:Int))]⟩:=by
 unfold KS;simp only[a4f,a4g,abA,Cs.mk.injEq,true_and];refine⟨?_,?_⟩
 .congr 1
  .apply a4O;intro o ho;congr 1;exact a4O fun k kQ=>I5 [r] (hk o ho k kQ)
  congr 2;exact a4O fun k kQ=>I5 [r] (KO k kQ)
 congr 1
 .apply a4O;intro o ho;rw[I5 [r] ⟨fun c=>absurd (hn o ho) (by omega),fun _=>ho⟩]
 congr 2;unfold xk;rw[a0p (by omega)];simp[a9x,hr]
theorem ake{a b:Nat}(ha:a<=2^61)(hb:b<=2^61)(h:i64.wrap (-1-(a:Int))=i64.wrap (-1-(b:Int))):a=b:=by
 rw[dZ (by omega) (by omega),dZ (by omega) (by omega)]at h;omega
theorem a1E{l:List Int}{a b:Int}(ha:a∈l)(hb:b∈l)(h:l.idxOf a=l.idxOf b):a=b:=by
 have h1:=a8D (a4w.2 ha);have h2:=a8D (a4w.2 hb);rw[<-h1,<-h2];congr 1
theorem a7a{x y:Int}(hx:FV x)(hy:FV y)(cx:x<0)(cy:y<0)(h:jE x=jE y):x=y:=by
 unfold jE at h;rw[MQ hx cx,MQ hy cy]at h;omega
theorem a1F{s:List Int×List Int}(hs:s.2.length<=2^61){x y:Int}(hx:Vy s x)(hy:Vy s y)(wx:FV x)(wy:FV y)(h:xk s x=xk s y):x=y:=by
 have lt:∀z,z∈s.2->s.2.idxOf z<=2^61:=fun z hz=>a4T (a99 (a4w.2 hz)) hs;unfold xk at h;by_cases cx:x<0
 .rw[a0q cx]at h;by_cases cy:y<0
  .rw[a0q cy]at h;exact a7a wx wy cx cy (a1E (hx.1 cx) (hy.1 cy) (ake (lt _ (hx.1 cx)) (lt _ (hy.1 cy)) h))
  rw[a0p cy]at h;have:=lt _ (hx.1 cx);rw[dZ (by omega) (by omega)]at h;omega
 rw[a0p cx]at h;by_cases cy:y<0
 .rw[a0q cy]at h;have:=lt _ (hy.1 cy);rw[dZ (by omega) (by omega)]at h;omega
 rw[a0p cy]at h;exact a1E (hx.2 (by omega)) (hy.2 (by omega)) (by omega)
open Go Tw Pv dw
def Ext(s t:List Int×List Int):Prop:=∃a b,t=(s.1++a,s.2++b)
theorem Ext.refl(s:List Int×List Int):Ext s s:=⟨[],[],by simp⟩
theorem Ext.trans{s t u:List Int×List Int}(h:Ext s t)(h2:Ext t u):Ext s u:=by
 obtain⟨a,b,rfl⟩:=h;obtain⟨c,e,rfl⟩:=h2;exact⟨a++c,b++e,by simp⟩
theorem Vy.ext{s t:List Int×List Int}{x:Int}(h:Vy s x)(he:Ext s t):Vy t x:=by
 obtain⟨a,b,rfl⟩:=he;exact⟨fun c=>a5N _ (h.1 c),fun c=>a5N _ (h.2 c)⟩
theorem aao{s t:List Int×List Int}{x:Int}(h:Vy s x)(he:Ext s t):xk t x=xk s x:=by
 have hc:=h;obtain⟨a,b,rfl⟩:=he;have h2:Vy (s.1,s.2++b) x:=⟨fun c=>a5N _ (h.1 c),h.2⟩;rw[<-UO b h,<-I5 a h2]
theorem SN{α β:Type}{g1:Nat->α->α}{g2:Nat->β->β}(R:Nat->α->β->Prop):∀(m k:Nat) (a:α) (b:β),R k a b->(∀j a b,k<=j->j<k+m->R j a b->R (j+1) (g1 j a) (g2 j b))->R (k+m) (aT g1 m k a) (aT g2 m k b)
 | 0,_,_,_,h,_=>h
 |m+1,k,a,b,h,hs=>by
  have:=SN R m (k+1) (g1 k a) (g2 k b) (hs k a b (a0w _) (by omega) h) (fun j a b h1 h2=>hs j a b (by omega) (by omega));rw[show k+(m+1)=k+1+m by omega];exact this
theorem a1G{α β:Type}[BEq α][LawfulBEq α][BEq β][LawfulBEq β]{f:α->β}{a:α}:∀{l:List α},(∀b∈l,f b=f a->b=a)->(l.map f).idxOf (f a)=l.idxOf a
 | [],_=>rfl
 |c::l,h=>by
  rw[a4g,adt,adt,a1G fun b hb=>h b (a3n _ hb)];by_cases hc:c=a
  .subst hc;simp
  have:¬(f c=f a):=fun e=>hc (h c (.head _) e);rw[show(c==a)=false by simpa using hc,show(f c==f a)=false by simpa using this]
structure DgD(d:Dg):Prop where
 aK:d.aK.Nodup
 aj:∀i j,i<d.aj.length->j<d.aj.length->(fC d i).var=(fC d j).var->(fC d i).aA=(fC d j).aA->i=j
 flat:∀i,i<d.aj.length->((fC d i).aA.all fun x=>x==(fC d i).aA.getD 0 0)=false
theorem XD{d:Dg}(h:d.aK.Nodup){a b:Int}(ha:fK a d.aK.length)(hb:fK b d.aK.length)(e:d.aK.getD a.toNat V0=d.aK.getD b.toNat V0):a=b:=by
 have h1:a.toNat<d.aK.length:=by have:=ha.1;have:=ha.2;omega
 have h2:b.toNat<d.aK.length:=by have:=hb.1;have:=hb.2;omega
 simp only[List.getD,a0g h1,a0g h2,a4M]at e;have:=(aa8 h).1 e;have:=ha.1;have:=hb.1;omega
theorem afq{d:Dg}(hd:DgD d){s:List Int×List Int}(hs:Jm d s){r:Int}(hr:fK (jE r) d.aK.length):(KS d s).e.idxOf (pW d r)=s.2.idxOf (jE r)∧(pW d r∈(KS d s).e↔jE r∈s.2):=by
 have hi:∀b∈s.2,(fun e:Int=>d.aK.getD e.toNat V0) b=(fun e:Int=>d.aK.getD e.toNat V0) (jE r)->b=jE r:=fun b hb e=>XD hd.aK (hs.e2 b hb) hr e;refine⟨a1G (f:=fun e:Int=>d.aK.getD e.toNat V0) (a:=jE r) hi,?_⟩;constructor
 .intro h;obtain⟨b,hb,e⟩:=a1e.1 h;rw[<-hi b hb e];exact hb
 intro h;exact a1e.2 ⟨jE r,h,rfl⟩
theorem afr{d:Dg}{s:List Int×List Int}{r:Int}(h:r∈s.1):UM (KS d s).k r=xk s r:=by
 have h1:r∈(KS d s).k.map (·.1):=by
  unfold KS;rw[a8o];exact a1e.2 ⟨r,h,rfl⟩
 have h2:=a1C h1;obtain⟨o,_,e⟩:=a1e.1 h2;have e1:o=r:=congrArg Prod.fst e;have e2:xk s o=UM (KS d s).k r:=congrArg Prod.snd e;rw[<-e2,e1]
theorem aap{a b:List Int}(h:a.length=b.length)(ha:a.length<=12)(e:Hy a=Hy b):a=b:=by
 unfold Hy at e;have:=congrArg (List.take a.length) e;rw[aew,aew,a8m ha,List.take_append_of_le_length (a0w _),List.take_append_of_le_length (by omega),abv,h,abv]at this;exact this
theorem map_inj{α β:Type}{f:α->β}:∀{a b:List α},(∀x∈a,∀y∈b,f x=f y->x=y)->a.map f=b.map f->a=b
 | [],[],_,_=>rfl
 | [],_::_,_,h=>by simp at h
 |_::_,[],_,h=>by simp at h
 |x::a,y::b,hi,h=>by
  simp only[a4g,adR]at h;rw[hi x (.head _) y (.head _) h.1,map_inj (fun u hu v hv=>hi u (a3n _ hu) v (a3n _ hv)) h.2]
open Go Tw Pv dw
structure Alk(d:Dg)(F:Nat)(r:Int)(s:List Int×List Int):Prop where
 eq:cu d F r (KS d s)=(xk (jR d F r s) r,KS d (jR d F r s))
 aA:Jr d (jR d F r s)
 cov:Vy (jR d F r s) r
 ext:Ext s (jR d F r s)
theorem ad2{d:Dg}(h:BF d)(hw:Iz d)(hd:DgD d)(he:d.aK.length<=2^61):∀(F:Nat) (r:Int) (s:List Int×List Int),r+1<F->Jm d s->Jr d s->jq d r d.aj.length->1<=F->Alk d F r s
 | 0,r,s,_,_,_,_,h1=>by omega
 |F+1,r,s,hF,hs,hk,hr,_=>by
  have hn:∀o∈s.1,0<=o:=fun o ho=>(hs.n2 o ho).1;by_cases c:r<0
  .have t0:decide (r<0)=true:=(by simpa using c);obtain⟨q1,q2⟩:=afq hd hs (hr.2 c);have e1:cu d (F+1) r (KS d s)=(i64.wrap (-1-((KS d s).e.idxOf (pW d r):Nat)),⟨fG (KS d s).e (pW d r),(KS d s).n,(KS d s).k⟩):=by unfold cu;rw[a0q t0]
   by_cases c2:jE r∈s.2
   .have e2:jR d (F+1) r s=s:=by unfold jR;rw[a0q t0,a0p (by simpa using c2)]
    refine⟨?_,by rw[e2];exact hk,by rw[e2];exact⟨fun _=>c2,fun h0=>by omega⟩,by rw[e2];exact .refl s⟩;rw[e1,e2,q1,show fG (KS d s).e (pW d r)=(KS d s).e from a0q (q2.2 c2)];unfold xk;rw[a0q c]
   have e2:jR d (F+1) r s=(s.1,s.2++[jE r]):=by unfold jR;rw[a0q t0,a0q (by simpa using c2)]
   have hc:Vy (s.1,s.2++[jE r]) r:=⟨fun _=>by simp,fun h0=>by omega⟩;have hx:Ext s (s.1,s.2++[jE r]):=⟨[],[jE r],by simp⟩;refine⟨?_,by rw[e2];exact fun o ho k kQ=>(hk o ho k kQ).ext hx,by rw[e2];exact hc,by rw[e2];exact hx⟩;rw[e1,e2,q1,afp hk hn,show fG (KS d s).e (pW d r)=(KS d s).e++[pW d r]from a0p (fun e=>c2 (q2.1 e))];unfold xk;rw[a0q c];simp[a9x,c2,a7x c2,pW]
  have t0:¬(decide (r<0)=true):=by simpa using c
  have xP:(KS d s).k.map (·.1)=s.1:=by unfold KS;rw[a8o];exact List.map_id _
  by_cases c2:r∈s.1
  .have e2:jR d (F+1) r s=s:=by unfold jR;rw[a0p t0,a0q (by simpa using c2)]
   have e1:cu d (F+1) r (KS d s)=(UM (KS d s).k r,KS d s):=by unfold cu;rw[a0p t0,a0q (by rw[xP];simpa using c2)]
   refine⟨?_,by rw[e2];exact hk,by rw[e2];exact⟨fun h0=>absurd h0 c,fun _=>c2⟩,by rw[e2];exact .refl s⟩;rw[e1,e2,afr c2]
  have aQ:r.toNat<d.aj.length:=by have:=hr.1;omega
  have BM:∀k,k<(au d r).aA.length->(au d r).aA.getD k 0<r:=fun k kQ=>by
   have h9:=(h.zy r.toNat aQ k kQ).1;have h9:(au d r).aA.getD k 0<(r.toNat:Int):=h9;omega
  have KO:∀j,j<(au d r).aA.length->jq d ((au d r).aA.getD j 0) d.aj.length:=fun j hj=>⟨by have:=BM j hj;have:=hr.1;omega,(h.zy r.toNat aQ j hj).2⟩;have a6s:=SN (g1:=fun j (y:List Int×Cs)=>(y.1.set j (cu d F ((au d r).aA.getD j 0) y.2).1,(cu d F ((au d r).aA.getD j 0) y.2).2)) (g2:=fun k y=>jR d F ((au d r).aA.getD k 0) y)
   (fun j (y:List Int×Cs) (t:List Int×List Int)=>y=(((au d r).aA.take j).map (xk t)++List.replicate ((au d r).aA.length-j) 0,KS d t)∧Jm d t∧Jr d t∧Ext s t∧r∉t.1∧∀i,i<j->Vy t ((au d r).aA.getD i 0)) (au d r).aA.length 0 (List.replicate (au d r).aA.length 0,KS d s) s ⟨by simp,hs,hk,.refl s,c2,fun i hi=>by omega⟩ (fun j y t _ hj hy=>by
    obtain⟨rfl,y1,y2,y3,y4,y5⟩:=hy;have hj:j<(au d r).aA.length:=(by omega);have ih:=ad2 h hw hd he F _ t (by have:=BM j hj;omega) y1 y2 (KO j hj) (by omega);have Yq:=a6F F ((au d r).aA.getD j 0) r t (BM j hj) y4 (by omega) (fun i hi k hk=>(h.zy i hi k hk).1) (fun h5=>⟨h5,by have:=(KO j hj).1;omega⟩);have QI:=KJ h F ((au d r).aA.getD j 0) t y1 (KO j hj);obtain⟨i1,i2,i3,i4⟩:=ih;simp only[i1];generalize jR d F ((au d r).aA.getD j 0) t=u at i2 i3 i4 Yq QI ⊢;refine⟨?_,QI,i2,y3.trans i4,Yq,fun i hi=>?_⟩
    .simp only[a0u,and_true];have hl:(List.map (xk t) (List.take j (au d r).aA)).length=j:=by rw[a4l,a4b];omega
     rw[show(au d r).aA.length-j=((au d r).aA.length-(j+1))+1 by omega,adG,List.set_append_right _ _ (by rw[hl];exact a0w j)];rw[hl,agK,List.set_cons_zero,a5R hj,a4f,a5b];congr 1
     .apply a4O;intro x hx;obtain⟨i,hi,rfl⟩:=a4G.1 hx;have A8:i<j:=by simp at hi;omega
      have:=y5 i A8;rw[rQ (l:=(au d r).aA) (show i<(au d r).aA.length by omega)]at this;rw[List.getElem_take];exact(aao this i4).symm
     .rw[rQ hj];rfl
    .by_cases A8:i<j
     .exact(y5 i A8).ext i4
     .rw[show i=j by omega];exact i3)
  have e1:cu d (F+1) r (KS d s)=(eu (aT (fun j (y:List Int×Cs)=>(y.1.set j (cu d F ((au d r).aA.getD j 0) y.2).1,(cu d F ((au d r).aA.getD j 0) y.2).2)) (au d r).aA.length 0 (List.replicate (au d r).aA.length 0,KS d s)).2.n (au d r).var (aT (fun j (y:List Int×Cs)=>(y.1.set j (cu d F ((au d r).aA.getD j 0) y.2).1,(cu d F ((au d r).aA.getD j 0) y.2).2)) (au d r).aA.length 0 (List.replicate (au d r).aA.length 0,KS d s)).1,⟨(aT (fun j (y:List Int×Cs)=>(y.1.set j (cu d F ((au d r).aA.getD j 0) y.2).1,(cu d F ((au d r).aA.getD j 0) y.2).2)) (au d r).aA.length 0 (List.replicate (au d r).aA.length 0,KS d s)).2.e,dB (aT (fun j (y:List Int×Cs)=>(y.1.set j (cu d F ((au d r).aA.getD j 0) y.2).1,(cu d F ((au d r).aA.getD j 0) y.2).2)) (au d r).aA.length 0 (List.replicate (au d r).aA.length 0,KS d s)).2.n (au d r).var (aT (fun j (y:List Int×Cs)=>(y.1.set j (cu d F ((au d r).aA.getD j 0) y.2).1,(cu d F ((au d r).aA.getD j 0) y.2).2)) (au d r).aA.length 0 (List.replicate (au d r).aA.length 0,KS d s)).1,(aT (fun j (y:List Int×Cs)=>(y.1.set j (cu d F ((au d r).aA.getD j 0) y.2).1,(cu d F ((au d r).aA.getD j 0) y.2).2)) (au d r).aA.length 0 (List.replicate (au d r).aA.length 0,KS d s)).2.k++[(r,eu (aT (fun j (y:List Int×Cs)=>(y.1.set j (cu d F ((au d r).aA.getD j 0) y.2).1,(cu d F ((au d r).aA.getD j 0) y.2).2)) (au d r).aA.length 0 (List.replicate (au d r).aA.length 0,KS d s)).2.n (au d r).var (aT (fun j (y:List Int×Cs)=>(y.1.set j (cu d F ((au d r).aA.getD j 0) y.2).1,(cu d F ((au d r).aA.getD j 0) y.2).2)) (au d r).aA.length 0 (List.replicate (au d r).aA.length 0,KS d s)).1)]⟩):=by
   rw[cu,a0p t0,a0p (by rw[xP];simpa using c2)]
  have e2:jR d (F+1) r s=((aT (fun k y=>jR d F ((au d r).aA.getD k 0) y) (au d r).aA.length 0 s).1++[r],(aT (fun k y=>jR d F ((au d r).aA.getD k 0) y) (au d r).aA.length 0 s).2):=by
   rw[jR,a0p t0,a0p (by simpa using c2)]
  generalize aT (fun j (y:List Int×Cs)=>(y.1.set j (cu d F ((au d r).aA.getD j 0) y.2).1,(cu d F ((au d r).aA.getD j 0) y.2).2)) (au d r).aA.length 0 (List.replicate (au d r).aA.length 0,KS d s)=y at a6s e1;generalize aT (fun k y=>jR d F ((au d r).aA.getD k 0) y) (au d r).aA.length 0 s=t at a6s e2;obtain⟨rfl,f2,f3,f4,f5,f6⟩:=a6s;rw[a3Z]at f6;simp only[a3Z,abv,agK,List.replicate_zero,a5T]at e1;have a7b:∀k∈(au d r).aA,Vy t k:=fun k kQ=>by
   obtain⟨i,hi,rfl⟩:=a4G.1 kQ;have:=f6 i hi
   rwa [rQ hi]at this
  have hW:∀o,0<=o->fK o d.aj.length->∀k∈(au d o).aA,FV k:=fun o _ ho k kQ=>by
   obtain⟨i,hi,rfl⟩:=a4G.1 kQ;have:=hw.zy o.toNat (by have:=ho.1;have:=ho.2;omega) i hi
   rwa [rQ hi]at this
  have hrI:fK r d.aj.length:=⟨by omega,hr.1⟩;have hel:t.2.length<=2^61:=a4T f2.len.2 he;have ad3:((au d r).aA.map (xk t)).all (fun x=>x==((au d r).aA.map (xk t)).getD 0 0)=false:=by
   cases e:((au d r).aA.map (xk t)).all (fun x=>x==((au d r).aA.map (xk t)).getD 0 0)
   .rfl
   exfalso;have hf:=hd.flat r.toNat aQ;rw[List.all_eq_false]at hf;obtain⟨x,hx,hx2⟩:=hf;have hx:x∈(au d r).aA:=hx;have h0:0<(au d r).aA.length:=List.length_pos_of_mem hx;rw[a4x]at e;have:=e (xk t x) (a1e.2 ⟨x,hx,rfl⟩);rw[rQ (by simpa using h0),a8M]at this;have h00:(au d r).aA[0]∈(au d r).aA:=a4r h0;have:=a1F hel (a7b x hx) (a7b _ h00) (hW r (by omega) hrI x hx) (hW r (by omega) hrI _ h00) (by simpa using this);apply hx2;have h9:(fC d r.toNat).aA.getD 0 0=(au d r).aA[0]:=rQ h0;rw[h9,this];simp
  have aek:tX (au d r).var ((au d r).aA.map (xk t))∉(KS d t).n.map BU:=by
   intro hm;unfold KS at hm;rw[a8o]at hm;obtain⟨o,ho,e⟩:=a1e.1 hm;have YX:=f2.n2 o ho;have Qc:o.toNat<d.aj.length:=by have:=YX.1;have:=YX.2;omega
   have ev:(fC d o.toNat).var=(fC d r.toNat).var:=congrArg Prod.fst e;have ep:Hy ((au d o).aA.map (xk t))=Hy ((au d r).aA.map (xk t)):=congrArg (fun z:Ky=>z.2.val) e;have hlen:((fC d o.toNat).aA.length:Int)=((fC d r.toNat).aA.length:Int):=(by rw[h.ksz _ Qc,h.ksz _ aQ,ev]);have hlen:(au d o).aA.length=(au d r).aA.length:=by exact_mod_cast hlen
   have em:=aap (by simpa using hlen) (by rw[a4l];exact h.Jl _ Qc) ep;have ek:=map_inj (fun x hx y hy e=>a1F hel (f3 o ho x hx) (a7b y hy) (hW o YX.1 YX x hx) (hW r (by omega) hrI y hy) e) em;have:=hd.aj _ _ Qc aQ ev ek;have:o=r:=by have:=YX.1;omega
   exact f5 (this▸ho)
  have hnl:(KS d t).n.length=t.1.length:=by unfold KS;simp
  have hR:eu (KS d t).n (au d r).var ((au d r).aA.map (xk t))=(t.1.length:Int):=by
   unfold eu;rw[ad3,a0p (by simp),a7x aek,a4l,hnl]
  have hS:dB (KS d t).n (au d r).var ((au d r).aA.map (xk t))=(KS d t).n++[⟨(au d r).var,(au d r).aA.map (xk t)⟩]:=by
   unfold dB;rw[ad3,a0p (by simp),a0p aek]
  have hx:Ext t (t.1++[r],t.2):=⟨[r],[],by simp⟩;have hc:Vy (t.1++[r],t.2) r:=⟨fun h0=>absurd h0 c,fun _=>by simp⟩;refine⟨?_,?_,by rw[e2];exact hc,by rw[e2];exact f4.trans hx⟩
  .rw[e1,e2,hR,hS,aan f3 (fun o ho=>(f2.n2 o ho).1) (by omega) f5 a7b];unfold xk;rw[a0p c];simp[a9x,f5]
  rw[e2];intro o ho k kQ;rcases a2Y.1 ho with ho|ho
  .exact(f3 o ho k kQ).ext hx
  rw[a2A.1 ho]at kQ;exact(a7b k kQ).ext hx
open Go Tw Pv dw
theorem Pm(b:Br):wU b=b.aA.all fun x=>x==b.aA.getD 0 0:=by
 have e:kG (Sm (P5 b) 1 (max 1 b.aA.length))=true↔∀k,1<=k->k<b.aA.length->b.aA.getD k 0=b.aA.getD 0 0:=by
  unfold Sm gS;rw[OM (r:=fun k=>k)];constructor
  .intro h k h1 h2;simpa[P5]using h k h1 (by omega)
  intro h k h1 h2;simpa[P5]using h k h1 (by omega)
 have e2:(b.aA.all fun x=>x==b.aA.getD 0 0)=true↔∀k,1<=k->k<b.aA.length->b.aA.getD k 0=b.aA.getD 0 0:=by
  rw[a4x];constructor
  .intro h k _ h2;have:=h _ (bP h2);simpa using this
  intro h x hx;obtain⟨k,hk,rfl⟩:=a4G.1 hx;by_cases h0:k=0
  .subst h0;rw[rQ hk];simp
  have:=h k (by omega) hk;rw[rQ hk]at this;rw[this];simp
 have:wU b=true↔(b.aA.all fun x=>x==b.aA.getD 0 0)=true:=by
  rw[e2,<-e];unfold wU;cases kG (Sm (P5 b) 1 (max 1 b.aA.length))<;>simp
 rw[a4E];exact this
theorem afs{d:Dg}:kG (bF (cD0 d) d.aK.length)=true↔d.aK.Nodup:=by
 rw[dL];have h1:∀i,cD0 d i=false↔∀j,j<i->d.aK.getD j V0≠d.aK.getD i V0:=fun i=>by
  have:kG (bF (cD1 d i) i)=true↔∀j,j<i->d.aK.getD j V0≠d.aK.getD i V0:=by
   rw[dL];simp[cD1]
  rw[<-this];unfold cD0;cases kG (bF (cD1 d i) i)<;>simp
 have hg:∀j,(hj:j<d.aK.length)->d.aK.getD j V0=d.aK[j]:=fun j hj=>by simp[List.getD,a0g hj]
 constructor
 .intro h;rw[abQ,abT];intro i j hi hj A8;have:=(h1 j).1 (h j hj) i A8
  rwa [hg i hi,hg j hj]at this
 intro h i hi;rw[h1];intro j hj;rw[abQ,abT]at h;have:=h j i (by omega) hi hj
 rwa [hg i hi,hg j (by omega)]
theorem aft{d:Dg}:kG (bF (cD2 d) d.aj.length)=true↔(∀i j,i<d.aj.length->j<d.aj.length->(fC d i).var=(fC d j).var->(fC d i).aA=(fC d j).aA->i=j)∧∀i,i<d.aj.length->((fC d i).aA.all fun x=>x==(fC d i).aA.getD 0 0)=false:=by
 rw[dL];have h1:∀i,cD2 d i=false↔wU (fC d i)=false∧∀j,j<i->¬((fC d j).var=(fC d i).var∧(fC d j).aA=(fC d i).aA):=fun i=>by
  have h3:∀j,cD3 d i j=false↔¬((fC d j).var=(fC d i).var∧(fC d j).aA=(fC d i).aA):=fun j=>by
   unfold cD3;by_cases hv:(fC d j).var=(fC d i).var
   .rw[a0q (by rw[a7H];exact hv),a2W];exact⟨fun a b=>a b.2,fun a b=>a ⟨hv,b⟩⟩
   rw[a0p (by rw[a7H];exact hv)];exact⟨fun _ a=>hv a.1,fun _=>rfl⟩
  have:kG (bF (cD3 d i) i)=true↔∀j,j<i->¬((fC d j).var=(fC d i).var∧(fC d j).aA=(fC d i).aA):=by
   rw[dL];exact aa7 fun j=>aa7 fun _=>h3 j
  rw[<-this];unfold cD2;cases wU (fC d i)
  .cases kG (bF (cD3 d i) i)<;>simp
  simp
 constructor
 .intro h;refine⟨fun i j hi hj hv hk=>?_,fun i hi=>by rw[<-Pm];exact((h1 i).1 (h i hi)).1⟩;rcases Nat.lt_trichotomy i j with A8|A8|A8
  .exact absurd ⟨hv,hk⟩ (((h1 j).1 (h j hj)).2 i A8)
  .exact A8
  exact absurd ⟨hv.symm,hk.symm⟩ (((h1 i).1 (h i hi)).2 j A8)
 intro h i hi;rw[h1];refine⟨by rw[Pm];exact h.2 i hi,fun j hj hc=>?_⟩;have:=h.1 j i (by omega) hi hc.1 hc.2;omega
theorem aaq{d:Dg}:(kG (bF (cD0 d) d.aK.length)=true∧kG (bF (cD2 d) d.aj.length)=true)↔DgD d:=by
 rw[afs,aft];exact⟨fun h=>⟨h.1,h.2.1,h.2.2⟩,fun h=>⟨h.aK,h.aj,h.flat⟩⟩
theorem Pn{l:List Int}{m:Nat}:zu l m=true↔l=dO m:=by
 unfold zu;have e:kG (bF (a6A l) l.length)=true↔∀j,j<l.length->l.getD j 0=(j:Int):=by
  rw[dL];simp[a6A]
 constructor
 .intro h;split at h
  .rename_i h1;have hl:(l.length:Int)=(m:Int):=(by simpa using h);have hl:l.length=m:=(by omega);rw[oP (d:=0) (by rw[lM,hl])];intro j hj;rw[e.1 h1 j hj];have:j<m:=(by omega);simp[dO,List.getD,this]
  cases h
 rintro rfl;rw[a0q (e.2 fun j hj=>by rw[lM]at hj;simp[dO,List.getD,hj]),lM];simp
theorem XE{d:Dg}:pV d=true↔DgD d∧srN d d.root=dO d.aj.length∧srE d d.root=dO d.aK.length:=by
 rw[<-aaq,<-Pn,<-Pn];unfold pV;cases kG (bF (cD0 d) d.aK.length)
 .simp
 cases kG (bF (cD2 d) d.aj.length)
 .simp
 cases zu (srN d d.root) (d.aj.length:Int)<;>simp
open Go Tw Pv dw
abbrev ZL:Cs:=⟨[],[],[]⟩
def eU(d:Dg):Dg:=⟨d.ay,d.aG,(cu d 6002 d.root ZL).2.e,(cu d 6002 d.root ZL).2.n,(cu d 6002 d.root ZL).1⟩
theorem UQ{d:Dg}:Dy d ZL:=⟨a6z,by simp,a6z,by simp,a6z,by simp⟩
abbrev a7c(b:Br):Bool:=b.aA.all fun x=>x==b.aA.getD 0 0
theorem a1H{d:Dg}:∀(F:Nat) (r:Int) (x:Cs),(∀b∈x.n,a7c b=false)->∀b∈(cu d F r x).2.n,a7c b=false
 | 0,_,_,h=>h
 |F+1,r,x,h=>by
  unfold cu;split
  .exact h
  split
  .exact h
  have hb:=(Hz (d:=d) (fun y=>∀b∈y.n,a7c b=false) (F:=F) (r:=r) h (fun j y _ hy=>a1H F _ y hy)).2;intro b Qx;simp only[dB]at Qx;split at Qx
  .exact hb b Qx
  rename_i hf;split at Qx
  .exact hb b Qx
  rcases a2Y.1 Qx with Qx|Qx
  .exact hb b Qx
  rw[a2A.1 Qx];simpa using hf
theorem a3u{d:Dg}(h:BF d)(e:eU d=d):DgD d:=by
 have hc:=Pg h 6002 d.root ZL UQ h.root;have hf:=a1H (d:=d) 6002 d.root ZL (by simp);have ee:(cu d 6002 d.root ZL).2.e=d.aK:=congrArg Dg.aK e;have en:(cu d 6002 d.root ZL).2.n=d.aj:=congrArg Dg.aj e;rw[en]at hf;have hg:∀j,(hj:j<d.aj.length)->fC d j=d.aj[j]:=fun j hj=>by simp[List.getD,a0g hj]
 refine⟨ee▸hc.e1,fun i j hi hj hv hk=>?_,fun i hi=>?_⟩
 .have hn:(d.aj.map BU).Nodup:=en▸hc.n1;have:=(aa8 (i:=i) (j:=j) (h₀:=by simpa using hi) (h₁:=by simpa using hj) hn).1 (by
   rw[a8M,a8M,<-hg i hi,<-hg j hj];show tX _ _=tX _ _;rw[hv,hk])
  exact this
 have:=hf (fC d i) (by rw[hg i hi];exact a4r hi);exact this
theorem Po{d:Dg}{n m:Nat}{x:Int}(hm:m<=2^61)(hx:FV x)(hc:Vy (dO n,dO m) x):xk (dO n,dO m) x=x:=by
 have hid:∀(n:Nat) (y:Int),y∈dO n->(((dO n).idxOf y:Nat):Int)=y:=fun n y hy=>by
  have hl:=a4w.2 hy;have h1:=a8D hl;rw[lM]at hl;simp only[dO,a8M,agZ]at h1;exact h1
 unfold xk;by_cases c:x<0
 .rw[a0q c];have h1:=hid m _ (hc.1 c);have h2:jE x=-1-x:=MQ hx c;have h3:=a1x (hc.1 c);have h4:=h3.2;rw[show((((dO n,dO m):List Int×List Int).2.idxOf (jE x):Nat):Int)=jE x from h1,h2,dZ (by omega) (by omega)];omega
 rw[a0p c];exact hid n _ (hc.2 (by omega))
theorem XF{α:Type}(l:List α)(f:Int->α)(h:∀j,(hj:j<l.length)->f j=l[j]):(dO l.length).map f=l:=by
 apply a9e (by simp[dO]);intro j h1 h2;simp[dO,h j h2]
theorem a1I{d:Dg}{j:Nat}(hj:j<d.aK.length):d.aK.getD ((j:Nat):Int).toNat V0=d.aK[j]:=by simp[List.getD,a0g hj]
theorem a1J{l:List Int}{m:Nat}(hl:l.length=m)(h:∀j,(hj:j<l.length)->l[j]=(j:Int)):l=dO m:=by
 apply a9e (by rw[lM,hl]);intro j h1 h2;rw[h j h1];simp[dO]
theorem afu{d:Dg}(h:BF d)(hw:Iz d)(hd:DgD d)(he:d.aK.length<=2^61){t:List Int×List Int}(ht:Jm d t)(hk:Jr d t)(hc:Vy t d.root):((KS d t).e=d.aK∧(KS d t).n=d.aj∧xk t d.root=d.root)↔(t.1=dO d.aj.length∧t.2=dO d.aK.length):=by
 have hW:∀o,fK o d.aj.length->∀k∈(au d o).aA,FV k:=fun o ho k kQ=>by
  obtain⟨i,hi,rfl⟩:=a4G.1 kQ;have:=hw.zy o.toNat (by have:=ho.1;have:=ho.2;omega) i hi
  rwa [rQ hi]at this
 have hg:∀j,(hj:j<d.aj.length)->au d (j:Nat)=d.aj[j]:=fun j hj=>by simp[List.getD,a0g hj]
 constructor
 .rintro⟨h1,h2,h3⟩;have l1:t.2.length=d.aK.length:=by have:=congrArg List.length h1;simpa[KS]using this
  have l2:t.1.length=d.aj.length:=by have:=congrArg List.length h2;simpa[KS]using this
  have e2:t.2=dO d.aK.length:=a1J l1 fun j hj=>by
   have rX:j<d.aK.length:=(by omega);have:(KS d t).e[j]'(by rw[h1];exact rX)=d.aK[j]:=(by simp only[h1]);unfold KS at this;simp only[a8M]at this;rw[<-a1I rX]at this;exact XD hd.aK (ht.e2 _ (a4r hj)) (aH rX) this
  have key:∀(N:Nat) (o:Int),o∈t.1->o.toNat<N->xk t o=o:=by
   intro N
   induction N with
   |zero=>intro o _ hN;omega
   |succ N ih=>
    intro o ho hN;have YX:=ht.n2 o ho;have aQ:=a4w.2 ho;have rX:t.1.idxOf o<d.aj.length:=(by omega);have hel:=a8D aQ;have:(KS d t).n[t.1.idxOf o]'(by rw[h2];exact rX)=d.aj[t.1.idxOf o]:=(by simp only[h2]);unfold KS at this;simp only[a8M,hel]at this;have hkm:(au d o).aA.map (xk t)=(au d o).aA:=by
     conv=>rhs;rw[<-List.map_id (au d o).aA]
     apply a4O;intro k kQ;show xk t k=k;have hcv:=hk o ho k kQ;by_cases c:k<0
     .have:=Po (d:=d) (n:=0) (m:=d.aK.length) he (hW o YX k kQ) ⟨fun c=>by have:=hcv.1 c;rwa [e2]at this,fun h0=>by omega⟩;unfold xk at this ⊢;rw[a0q c]at this ⊢;rw[e2];exact this
     obtain⟨i,hi,rfl⟩:=a4G.1 kQ;have apj:o.toNat<d.aj.length:=by have:=YX.1;have:=YX.2;omega
     have h9:=(h.zy o.toNat apj i hi).1;have h9:(au d o).aA.getD i 0<(o.toNat:Int):=h9;rw[rQ hi]at h9;exact ih _ (hcv.2 (by omega)) (by omega)
    rw[hkm]at this;have hv:(fC d (t.1.idxOf o)).var=(fC d o.toNat).var:=(by rw[show fC d (t.1.idxOf o)=d.aj[t.1.idxOf o]from hg _ rX,<-this]);have xP:(fC d (t.1.idxOf o)).aA=(fC d o.toNat).aA:=(by rw[show fC d (t.1.idxOf o)=d.aj[t.1.idxOf o]from hg _ rX,<-this]);have h8:=hd.aj _ _ rX (by have:=YX.1;have:=YX.2;omega) hv xP;unfold xk;rw[a0p (by have:=YX.1;omega),h8];have:=YX.1;omega
  refine⟨a1J l2 fun j hj=>?_,e2⟩;have hm:=a4r hj;have:=key ((t.1[j]).toNat+1) _ hm (by omega);unfold xk at this;rw[a0p (by have:=(ht.n2 _ hm).1;omega)]at this;rw[<-this];have:t.1.idxOf t.1[j]=j:=by
   have h5:=a4w.2 hm;exact(aa8 (i:=t.1.idxOf t.1[j]) (j:=j) (h₀:=h5) (h₁:=hj) ht.n1).1 (a8D h5)
  rw[this]
 rintro⟨h1,h2⟩;obtain⟨t1,t2⟩:=t;simp only at h1 h2;subst h1 h2;refine⟨?_,?_,Po (d:=d) he hw.root hc⟩
 .exact XF d.aK (fun e=>d.aK.getD e.toNat V0) fun j hj=>a1I hj
 refine XF d.aj _ fun j hj=>?_;have hkm:(au d (j:Nat)).aA.map (xk (dO d.aj.length,dO d.aK.length))=(au d (j:Nat)).aA:=by
  conv=>rhs;rw[<-List.map_id (au d (j:Nat)).aA]
  apply a4O;intro k kQ;exact Po (d:=d) he (hW _ (aH hj) k kQ) (hk _ (by show(j:Int)∈dO _;unfold dO;rw[a1e];exact⟨j,a4o.2 hj,rfl⟩) k kQ)
 rw[hkm,hg j hj]
theorem SQ{d:Dg}(h:BF d)(hw:Iz d)(he:d.aK.length<=2^61)(hn:d.aj.length<=6000):eU d=d↔pV d=true:=by
 have main:DgD d->(eU d=d↔(srN d d.root=dO d.aj.length∧srE d d.root=dO d.aK.length)):=fun hd=>by
  have hr:d.root+1<6002:=by have:=h.root.1;omega
  have ha:=ad2 h hw hd he 6002 d.root ([],[]) hr sr0 (fun o ho=>by cases ho) h.root (by omega);have hs:=KJ h 6002 d.root ([],[]) sr0 h.root;have hi:=afu h hw hd he hs ha.aA ha.cov;have e0:KS d ([],[])=ZL:=rfl;have e1:=ha.eq;rw[e0]at e1;unfold srN srE;rw[<-hi];unfold eU;rw[e1];obtain⟨d1,d2,d3,d4,d5⟩:=d;simp
 rw[XE];constructor
 .intro e;have hd:=a3u h e;exact⟨hd,(main hd).1 e⟩
 rintro⟨hd,h2⟩;exact(main hd).2 h2
open Go Tw Pv dw
abbrev HCw(l:Lo)(x:Cs):List (PB aC):=[.list false false 3 l.s,.list false false 3 l.o,.map (kV.es (zB x.e)),.map (kK.es (yH x.n)),mkC l.s l.o 12 13 0,.gone,.gone,.cells l.ps,.cells [.ptr 4 0 9],.map (kI.es (Lj x.k)),.cells [.map 9],.cells [.fn 195 [] pC],zC x.e,zD x.n]
structure ClP(l:Lo):Prop where
 s:l.s=l.d.ay
 o:l.o=l.d.aG
 t:BF l.d
 e:l.d.aK.length+1<=ah
 n:l.d.aj.length<=6000
 k:∀i,i<l.d.aj.length->1<=(fC l.d i).aA.length
 sl:l.d.ay.length<=ah
 ol:l.d.aG.length<=ah
def ad4:fA aC:=cO 161 (a1 loA) dA (fun l=>eU l.d) (fun l=>[ClP l]) acZ
theorem akf:Gd ad4:=akd.X7 6010 acS fun n hn hO hOl l hp=>by
 obtain⟨n,rfl⟩:∃k,n=k+6009:=⟨n-6009,by omega⟩;have h:ClP l:=hp _ (.head _);obtain⟨s,o,d⟩:=l;obtain⟨e1,e2,ht,he,hn6,hk,hsl,Qc⟩:=h;obtain rfl:s=d.ay:=e1;obtain rfl:o=d.aG:=e2;have hO':∀m,n+1<=m->Ok m _:=fun m hm=>hOl m (by omega);have he:d.aK.length+1<=ah:=he;have hn6:d.aj.length<=6000:=hn6;have hr:=ht.root.1;have hr:d.root<(d.aj.length:Int):=hr;have qm:=sCl (N:=n+1) hO' ht he (by unfold ah;omega) hk 6002 d.root ZL (by omega) UQ ht.root (by omega);have gq:=ape (n:=n+6008) (hO' _ (by omega)) d.ay d.aG hsl Qc;show nZ _ _ _ _ _ (dA.put (eU d)) _;unfold eU;generalize cu d 6002 d.root ZL=z at qm ⊢;obtain⟨v,e,nd,k⟩:=z;exact aO (hO (n+6009) (by omega)) (.fr [] gq (.Qq (H2:=HCw (yI d) ⟨e,nd,k⟩) [1,2,3,4,5,6,7,0,8,9,10,11] [7,8,10,11] qm .rr))
open Go Tw Pv dw
theorem a1K{d:Dg}(h:BF d):∀(F:Nat) (r:Int) (x:Cs),(∀b∈x.n,b.aA.length<=12)->jq d r d.aj.length->∀b∈(cu d F r x).2.n,b.aA.length<=12
 | 0,_,_,hx,_=>hx
 |F+1,r,x,hx,hr=>by
  unfold cu;by_cases c:r<0
  .rw[a0q (by simpa using c)];exact hx
  rw[a0p (by simpa using c)];split
  .exact hx
  have aQ:r.toNat<d.aj.length:=by have:=hr.1;omega
  have hb:=Hz (d:=d) (fun y=>∀b∈y.n,b.aA.length<=12) (F:=F) (r:=r) hx (fun j y hj hy=>a1K h F _ y hy (by
   have h9:=h.zy r.toNat aQ j hj;have h8:=h9.1;have h8:(au d r).aA.getD j 0<(r.toNat:Int):=h8;exact⟨by have:=hr.1;omega,h9.2⟩))
  intro b Qx;simp only[dB]at Qx;split at Qx
  .exact hb.2 b Qx
  split at Qx
  .exact hb.2 b Qx
  rcases a2Y.1 Qx with Qx|Qx
  .exact hb.2 b Qx
  rw[a2A.1 Qx];show List.length _<=12;rw[hb.1];exact h.Jl r.toNat aQ
theorem wX{d:Dg}(h:Iz d)(he:d.aK.length+1<=ah)(hs:d.ay.length<=ah)(ho:d.aG.length<=ah)(h0:(bG d).2=0):(bG d).1=yI d∧ClP (yI d):=by
 rw[Jo h (by omega)]at h0 ⊢;have h0:aX d=0:=h0;have hc:=iY ho (show d.aK.length<=ah by omega) (by simp[h0]);have hf:(bY d.ay d.aG != 0)=false:=by
  cases e:bY d.ay d.aG != 0
  .rfl
  unfold aX at h0;rw[a0q e]at h0;simp[h0]at e
 refine⟨by rw[a0p (by rw[hf];simp)],rfl,rfl,hc.1,he,hc.2,fun i hi=>?_,hs,ho⟩;have h1:=hc.1.ksz i hi;have h2:=hc.1.var i hi;have h3:=(AB hf).sz _ (bP (s:=d.ay) (k:=(fC d i).var.toNat) (by have:=h2.2;have:=h2.1;omega));have h1:((fC d i).aA.length:Int)=d.ay.getD (fC d i).var.toNat 0:=h1;show 1<=(fC d i).aA.length;omega
def vO(d:Dg):Lo×Int:=if(bG d).2==0 then(if(!(I4 (eU (bG d).1.d) d))=true then((bG d).1,4)else bG d)else bG d
theorem ZM{d:Dg}(h:BF d)(hn:d.aj.length<=6000):(eU d).aK.length<=d.aK.length∧(eU d).aj.length<=6000∧∀b∈(eU d).aj,b.aA.length<=12:=by
 have hc:=Pg h 6002 d.root ZL UQ h.root;refine⟨hc.ak7,?_,a1K h 6002 d.root ZL (by simp) h.root⟩;have h1:=hc.Jl;have h2:=hc.n2;show(cu d 6002 d.root ZL).2.n.length<=6000;omega
theorem a3v{d:Dg}(h:Iz d)(hs:d.ay.length<=ah)(ho:d.aG.length<=2^20)(he:d.aK.length+1<=ah)(h0:((bG d).2==0)=true):ClP (bG d).1∧(eU (bG d).1.d).ay.length<=ah∧(eU (bG d).1.d).aG.length<=ah∧(eU (bG d).1.d).aK.length<=ah∧(eU (bG d).1.d).aj.length<=ah∧∀k,k<(eU (bG d).1.d).aj.length->((eU (bG d).1.d).aj.getD k jU).aA.length<=ah:=by
 have ho:d.aG.length<=ah:=by unfold ah;omega
 obtain⟨h1,h2⟩:=wX h he hs ho (by simpa using h0);rw[h1];obtain⟨a,b,c⟩:=ZM h2.t h2.n;refine⟨h2,hs,ho,?_,?_,fun k hk=>?_⟩
 .have a:(eU d).aK.length<=d.aK.length:=a;show(eU d).aK.length<=ah;omega
 .have b:(eU d).aj.length<=6000:=b;show(eU d).aj.length<=ah;unfold ah;omega
 exact m12 (c _ (Xz hk))
def I7:fA aC:=cO 172 (a1 dA) (dR (a2 loA iA)) (fun p=>vO p) (fun p=>[Iz p,p.ay.length<=ah,p.aG.length<=2^20,p.aK.length+1<=ah]) ad4
theorem akg:Gd I7:=akf.add fun n hO p hp=>aO hO (.o (hp _ (.tail _ (.head _))) (.o (hp _ (.tail _ (.tail _ (.head _)))) (.o (by have h9:p.aK.length+1<=ah:=hp _ (.tail _ (.tail _ (.tail _ (.head _))));show p.aK.length<=ah;omega) (.sh (fun h=>have q:=a3v (hp _ (.head _)) (hp _ (.tail _ (.head _))) (hp _ (.tail _ (.tail _ (.head _)))) (hp _ (.tail _ (.tail _ (.tail _ (.head _))))) h;.o q.1 (.o q.2.1 (.o q.2.2.1 (.o q.2.2.2.1 (.o q.2.2.2.2.1 (.o q.2.2.2.2.2 (.ss .rr .rr))))))) fun _=>.rr))))
theorem XG{d:Dg}(h:Iz d)(hs:d.ay.length<=ah)(ho:d.aG.length<=ah)(he:d.aK.length+1<=ah):vO d=(if(bY d.ay d.aG != 0)=true then lo0 else yI d,kY d):=by
 have h9:=Jo h (show d.aK.length<=ah by omega);unfold vO kY;by_cases h0:(bG d).2=0
 .obtain⟨h1,h2⟩:=wX h he hs ho h0;have h3:=SQ h2.t h (show d.aK.length<=2^61 by unfold ah at he;omega) h2.n;have h4:aX d=0:=by rw[h9]at h0;exact h0
  rw[a0q (show((bG d).2==0)=true by simpa using h0),h1,h4,a0p (show ¬(((0:Int) != 0)=true) by simp)];rw[h9]at h1;show(if(!(I4 (eU d) d))=true then(yI d,4)else bG d)=_;have h1:(if(bY d.ay d.aG != 0)=true then lo0 else yI d)=yI d:=h1;rw[h9,h1];by_cases h5:eU d=d
  .rw[a0p (show ¬((!(I4 (eU d) d))=true) by rw[a1D.2 h5];simp),a0p (show ¬((!(pV d))=true) by rw[h3.1 h5];simp),h4]
  have h6:I4 (eU d) d=false:=by
   cases e:I4 (eU d) d
   .rfl
   exact absurd (a1D.1 e) h5
  have h7:pV d=false:=by
   cases e:pV d
   .rfl
   exact absurd (h3.2 e) h5
  rw[a0q (show(!(I4 (eU d) d))=true by rw[h6];rfl),a0q (show(!(pV d))=true by rw[h7];rfl)]
 have h4:¬aX d=0:=by rw[h9]at h0;exact h0
 rw[a0p (show ¬(((bG d).2==0)=true) by simpa using h0),h9,a0q (show(aX d != 0)=true by simpa using h4)]
end Go.Proofs.YtmobpoiejckagaaGreat
namespace Pv
open Go Tw
def yj:Code->Option (Code×Code)
 |.seq a b=>match yj a with
  |some r=>some r
  |none=>yj b
 |.cond _ a b=>match yj a with
  |some r=>some r
  |none=>yj b
 |.block _ b=>yj b
 |.loop b=>yj b
 |.rangeFunc _ _ a b=>some (a,b)
 |_=>none
def wY(P:Program)(f:Nat):Code:=
 match TL P f with
 |some t=>match yj t.body with
  |some (a,_)=>a
  |none=>.skip
 |none=>.skip
def AL(P:Program)(f:Nat):Code:=
 match TL P f with
 |some t=>match yj t.body with
  |some (_,b)=>b
  |none=>.skip
 |none=>.skip
end Pv
namespace Go.Proofs.YtmobpoiejckagaaGreat
open Go Tw Pv dw
def cellsD(d:Dg):List V:=(List.range (BD d.ay)).map fun(k:Nat)=>vN d (jW d.ay k)
open Go Tw Pv dw
def Dz(N:List Br)(c:Int)(ks:List Int):Int:=if(ks.all fun x=>x==ks.getD 0 0)=true then ks.getD 0 0 else(N.idxOf (⟨c,ks⟩:Br):Nat)
def oV(N:List Br)(c:Int)(ks:List Int):List Br:=if(ks.all fun x=>x==ks.getD 0 0)=true then N else if(⟨c,ks⟩:Br)∈N then N else N++[⟨c,ks⟩]
abbrev EN:Type:=List V×List Br
def vP(f:List Int->EN->Int×EN)(c:Int)(p:List Int)(j:Nat)(y:List Int×EN):List Int×EN:=(y.1++[(f (p.set c.toNat j) y.2).1],(f (p.set c.toNat j) y.2).2)
def fO(s:List Int)(l:List V):List Int->List Int->EN->Int×EN
 | [],p,x=>(i64.wrap (-1-(x.1.idxOf (l.getD (dV s p).toNat V0):Nat)),(fG x.1 (l.getD (dV s p).toNat V0),x.2))
 |c::r,p,x=>
  let y:=aT (vP (fO s l r) c p) (s.getD c.toNat 0).toNat 0 ([],x)
  (Dz y.2.2 c y.1,(y.2.1,oV y.2.2 c y.1))
def wO(s:List Int):List Int->Nat
 | []=>1
 |c::r=>(s.getD c.toNat 0).toNat*wO s r
theorem Pq{s:List Int}(hs:kU s):∀{o:List Int},(∀c∈o,fK c s.length)->1<=wO s o
 | [],_=>a0w _
 |c::r,h=>by
  have h1:=Pq hs (o:=r) fun c hc=>h c (by simp[hc]);obtain⟨h2,h3⟩:=h c (by simp);have h4:=hs _ (bP (s:=s) (k:=c.toNat) (by omega));have h5:1*1<=(s.getD c.toNat 0).toNat*wO s r:=agW (by omega) h1;simpa[wO]using h5
theorem ZN(E:List V)(v:V):(fG E v).length<=E.length+1:=by
 unfold fG;split<;>simp
theorem a7e(N:List Br)(c:Int)(ks:List Int):(oV N c ks).length<=N.length+1:=by
 unfold oV;split
 .omega
 split<;>simp
theorem a1L{f:List Int->EN->Int×EN}{c:Int}{p:List Int}{n w:Nat}(h:∀q x,(f q x).2.1.length<=x.1.length+w∧(f q x).2.2.length+1<=x.2.length+w)(x:EN):(aT (vP f c p) n 0 ([],x)).1.length=n∧(aT (vP f c p) n 0 ([],x)).2.1.length<=x.1.length+n*w∧(aT (vP f c p) n 0 ([],x)).2.2.length+n<=x.2.length+n*w:=by
 have:=bU (g:=vP f c p) (m:=n) (k:=0) (s:=([],x)) (fun k y=>y.1.length=k∧y.2.1.length<=x.1.length+k*w∧y.2.2.length+k<=x.2.length+k*w) ⟨rfl,by simp,by simp⟩ (fun j y _ _ hy=>by
  obtain⟨h1,h2,h3⟩:=hy;have:=h (p.set c.toNat j) y.2;refine⟨by simp[vP,h1],?_,?_⟩
  .simp only[vP,a3k,a9D];omega
  simp only[vP,a3k,a9D];omega)
 rw[a3Z]at this;exact this
theorem UR{s:List Int}{l:List V}(hs:kU s):∀(o p:List Int) (x:EN),(∀c∈o,fK c s.length)->(fO s l o p x).2.1.length<=x.1.length+wO s o∧(fO s l o p x).2.2.length+1<=x.2.length+wO s o
 | [],p,x,_=>by
  have:=ZN x.1 (l.getD (dV s p).toNat V0);exact⟨this,by simp[fO,wO]⟩
 |c::r,p,x,h=>by
  obtain⟨h1,h2,h3⟩:=a1L (f:=fO s l r) (c:=c) (p:=p) (n:=(s.getD c.toNat 0).toNat) (w:=wO s r) (fun q x=>UR hs r q x fun c hc=>h c (by simp[hc])) x;obtain⟨i1,i2⟩:=h c (by simp);have h4:=hs _ (bP (s:=s) (k:=c.toNat) (by omega));simp only[fO,wO];generalize aT (vP (fO s l r) c p) (s.getD c.toNat 0).toNat 0 ([],x)=y at h1 h2 h3;refine⟨h2,?_⟩;by_cases hn:(s.getD c.toNat 0).toNat=1
  .have e:oV y.2.2 c y.1=y.2.2:=by
    unfold oV;rw[a0q];rw[hn]at h1
    match hy:y.1,h1 with
    | [a],_=>simp
   rw[e];omega
  have:=a7e y.2.2 c y.1;omega
abbrev dP(s o:List Int)(i j:Nat):PV aC:=.agg [lI s,lI o,.own i,.own j,.int .i64 0]
abbrev d0P:List (PV aC):=[.nil .slc,.nil .slc,.nil .slc,.nil .slc,.int .i64 0]
abbrev w1P(s o:List Int)(v:V)(i:Int)(x:List (Nat×PE aC))(H:List (PB aC)):aS aC:=⟨[(4,.loc 0 0),(8,.loc 1 0),(10,.loc 2 0),(11,xi i)]++x,[[lI s,lI o,.own 0,.own 1,.int .i64 0],d0P,v.ps],H⟩
def z1P(s o:List Int)(E:List V)(v:V)(H:List (PB aC)):Unit⊕Nat->Ex×aS aC
 |.inl _=>(.exit 0,w1P s o v E.length [(33,xl false)] H)
 |.inr k=>(.ret,⟨[(8,.loc 1 0),(9,xi (i64.wrap (-1-(k:Int))))],[[lI s,lI o,.own 0,.own 1,.int .i64 0],[lI s,lI o,.own 0,.own 1,.int .i64 0],v.ps],H⟩)
abbrev c1P(E:List V)(v:V)(k:Nat):Bool:=decide (E.getD k V0=v)
theorem l1P{n:Nat}(hO:Ok n I7)(s o:List Int){E:List V}(N:List Br)(v:V)(pl:List Int)(ko ex:Bool)(hl:E.length<=ah):Jj n 135 0 3 (w1P s o v 0 [] [zC E,zD N,oI ko ex pl]) (z1P s o E v [zC E,zD N,oI ko ex pl] (bF (c1P E v) E.length)).1 (z1P s o E v [zC E,zD N,oI ko ex pl] (bF (c1P E v) E.length)).2:=
 iL (st:=fun i _=>w1P s o v i [] [zC E,zD N,oI ko ex pl]) (fun _ _=>True) (by kernel_rfl) hl trivial (fun k u m hk _ ih=>aN hO (.b (bn hk) (.o (aH hk) (.q (.bool (c1P E v k)) (eqV (.tmp 40) (.tmp 41) (E.getD k V0) v) (.ls (.ou nofun) (.nx (ih _ trivial)))))))
  (fun _ _=>aN hO (.b (fB E.length) (.ou nofun)))
theorem Px{α:Type}[DecidableEq α]{l:List α}{d a:α}{c:Nat->Bool}(hc:∀k,k<l.length->c k=decide (l.getD k d=a)):(a∈l->bF c l.length=.inr (l.idxOf a))∧(a∉l->kG (bF c l.length)=true):=by
 constructor
 .intro h;have hi:=a4w.2 h;have h1:c (l.idxOf a)=true:=by
   rw[hc _ hi,a1o,List.getD,a0g hi,a4M,a8D]
  cases e:kG (bF c l.length)
  .obtain⟨j,hj,cj,hb,e2⟩:=MO e;rw[e2];congr 1;rcases Nat.lt_trichotomy j (l.idxOf a)with g|g|g
   .exfalso;rw[hc j hj,a1o,List.getD,a0g hj,a4M]at cj;have:=List.not_of_lt_findIdx (p:=(·==a)) g;rw[cj]at this;simp at this
   .exact g
   rw[hb _ g]at h1;cases h1
  rw[dL.1 e _ hi]at h1;cases h1
 intro h;refine dL.2 fun j hj=>?_;rw[hc j hj,a2W,List.getD,a0g hj,a4M];rintro rfl;exact h (a4r hj)
abbrev w2P(s o:List Int)(l:List V)(a c:Int)(k:Nat)(x:Int)(y:List (Nat×PE aC))(H:List (PB aC)):aS aC:=⟨[(1,xL 39 l),(2,xi a),(3,.val (.own 2)),(4,.loc 0 0),(8,.loc 1 0),(12,.loc 2 0),(13,xi x)]++y,[[lI s,lI o,.own 3,.own 4,.int .i64 0],d0P,[.int .i64 c,.own k]],H⟩
abbrev HP(pl:List Int)(ko ex:Bool)(x:EN):List (PB aC):=[.gone,.gone,oI ko ex pl,zC x.1,zD x.2]
theorem l2P{M:Nat}(hO:Ok M I7){s o:List Int}{l:List V}{a c:Int}{pl:List Int}{ko ex:Bool}{f:List Int->EN->Int×EN}{w:Nat}(hs:kU s)(hc:fK c s.length)(hp:gX s pl=true)(hpm:pl.length<=ah)(x:EN)(hl:∀q x,(f q x).2.1.length<=x.1.length+w∧(f q x).2.2.length+1<=x.2.length+w)
  (hx:x.1.length+(s.getD c.toNat 0).toNat*w<=ah∧x.2.length+(s.getD c.toNat 0).toNat*w<=ah) (Q:EN->Prop) (hQ:Q x) (hQf:∀q y,Q y->Q (f q y).2)
  (hf:∀q y,gX s q=true->y.1.length+w<=ah->y.2.length+w<=ah->Q y->aU X0 Qp (bQ M) (.fn 135 [] []) [dP s o 0 1,lV l,.int .i64 (i64.wrap (a+1)),.own 2] [zC y.1,zD y.2,oI true false q] (.dF [dP s o 3 4,.int .i64 (f q y).1]) (HP q true false (f q y).2)) :
  Jj M 135 1 3 (w2P s o l a c 5 0 [] (HP pl ko ex x++[oI false false []])) (.exit 2) (w2P s o l a c 5 (((s.getD c.toNat 0).toNat:Nat):Int) [(70,xl false)] (HP pl ko ex (aT (vP f c pl) (s.getD c.toNat 0).toNat 0 ([],x)).2++[oI false false (aT (vP f c pl) (s.getD c.toNat 0).toNat 0 ([],x)).1])):=by
 obtain⟨c1,c2⟩:=hc;have hz:=hs _ (bP (s:=s) (k:=c.toNat) (by omega));have en:(((s.getD c.toNat 0).toNat:Nat):Int)=s.getD c.toNat 0:=by omega
 have DY:=jm hp;have nH:fK c s.length:=⟨c1,c2⟩;have hip:fK c pl.length:=by rw[DY];exact nH
 have hw:∀k,k<(s.getD c.toNat 0).toNat->k*w+w<=(s.getD c.toNat 0).toNat*w:=fun k hk=>by
  have:(k+1)*w<=(s.getD c.toNat 0).toNat*w:=a3m w hk;rw[a3k]at this;omega
 refine vw (σ:=List Int×EN) (N:=(s.getD c.toNat 0).toNat) (g:=vP f c pl) (s0:=([],x)) (st:=fun k y=>w2P s o l a c 5 k [] (HP pl ko ex y.2++[oI false false y.1])) (fin:=fun y=>w2P s o l a c 5 (((s.getD c.toNat 0).toNat:Nat):Int) [(70,xl false)] (HP pl ko ex y.2++[oI false false y.1])) (fun k y=>(y.1.length=k∧y.2.1.length<=x.1.length+k*w∧y.2.2.length<=x.2.length+k*w)∧Q y.2) (by kernel_rfl) (by unfold ah;omega) ⟨⟨rfl,by simp,by simp⟩,hQ⟩ (fun j y hj hy=>?_) (fun j y hj hy m e p g=>?_) (fun y _=>?_)
 .obtain⟨⟨h1,h2,h3⟩,hq⟩:=hy;have:=hl (pl.set c.toNat j) y.2;refine⟨⟨by simp[vP,h1],?_,?_⟩,hQf _ _ hq⟩
  .simp only[vP,a3k,a9D];omega
  .simp only[vP,a3k,a9D];omega
 .obtain⟨⟨h1,h2,h3⟩,hqy⟩:=hy;have VW:=hw j hj;have hq:gX s (pl.set c.toNat j)=true:=OY hp nH (by rw[<-en]at hz ⊢;exact⟨by omega,by omega⟩);have aar:=hf (pl.set c.toNat j) y.2 hq (by omega) (by omega) hqy;have t1:decide ((j:Int)<s.getD c.toNat 0)=true:=by rw[a1o];omega
  unfold vP at g;generalize f (pl.set c.toNat j) y.2=z at aar g;obtain⟨v,E',N'⟩:=z;exact aN hO (.o nH (.b t1 (.o hpm (.o hip (.fr [3,4,6] aar (.o (show y.1.length+[v].length<=ah by simp only[a3F];unfold ah;omega) (.goG [.gc [7,8,10]] g)))))))
 .have t1:decide ((((s.getD c.toNat 0).toNat:Nat):Int)<s.getD c.toNat 0)=false:=by rw[a2W];omega
  exact aN hO (.o nH (.b t1 .ex))
abbrev w3P(s o:List Int)(c:Int)(x:Int)(y:List (Nat×PE aC))(H:List (PB aC)):aS aC:=⟨[(4,.loc 0 0),(8,.loc 1 0),(12,.loc 2 0),(16,xi x)]++y,[[lI s,lI o,.own 3,.own 4,.int .i64 0],d0P,[.int .i64 c,.own 5]],H⟩
def z3P(s o:List Int)(c:Int)(N:List Br)(H:List (PB aC)):Unit⊕Nat->Ex×aS aC
 |.inl _=>(.exit 4,w3P s o c N.length [(106,xl false)] H)
 |.inr k=>(.ret,⟨[(8,.loc 1 0),(9,xi (k:Int))],[[lI s,lI o,.own 3,.own 4,.int .i64 0],[lI s,lI o,.own 3,.own 4,.int .i64 0],[.int .i64 c,.own 5]],H⟩)
abbrev c3P(N:List Br)(c:Int)(ks:List Int)(k:Nat):Bool:=if((N.getD k jU).var==c)=true then decide ((N.getD k jU).aA=ks)else false
theorem afv{N:List Br}{c:Int}{ks:List Int}{k:Nat}(_:k<N.length):c3P N c ks k=decide (N.getD k jU=⟨c,ks⟩):=by
 unfold c3P;rcases N.getD k jU with⟨v,l⟩;by_cases h1:v=c
 .by_cases h2:l=ks<;>simp[h1,h2]
 simp[h1]
theorem l3P{n:Nat}(hO:Ok n I7)(s o:List Int)(E:List V){N:List Br}(c:Int)(ks pl:List Int)(ko ex:Bool)(hl:N.length<=ah)(hk:∀b∈N,b.aA.length<=ah):Jj n 135 2 3 (w3P s o c 0 [] (HP pl ko ex (E,N)++[oI false false ks])) (z3P s o c N (HP pl ko ex (E,N)++[oI false false ks]) (bF (c3P N c ks) N.length)).1 (z3P s o c N (HP pl ko ex (E,N)++[oI false false ks]) (bF (c3P N c ks) N.length)).2:=by
 refine iL (st:=fun i _=>w3P s o c i [] (HP pl ko ex (E,N)++[oI false false ks])) (g:=gS (c3P N c ks)) (out:=z3P s o c N (HP pl ko ex (E,N)++[oI false false ks])) (fun _ _=>True) (by kernel_rfl) hl trivial (fun k u m kQ _ ih=>?_) (fun _ _=>?_)
 .have h1:=(Hw (d:=jU) (p:=fun b=>b.aA.length<=ah)).2 hk k kQ;unfold gS c3P;cases e:(N.getD k jU).var==c
  .exact aN hO (.b (bn kQ) (.o (aH kQ) (.b e (.nx (ih _ trivial)))))
  exact aN hO (.b (bn kQ) (.o (aH kQ) (.b e (.o (aH kQ) (.o h1 (.ls (.ou nofun) (.nx (ih _ trivial))))))))
 exact aN hO (.b (fB N.length) (.ou nofun))
structure PtP(s o:List Int)(l:List V):Prop where
 bJ:rP s
 ord:∀c∈o,fK c s.length
 len:(l.length:Int)=bg s
 a7f:o.length<=ah
 slen:s.length<=ah
theorem a7g(c:Int)(ks:List Int):wU ⟨c,ks⟩=ks.all fun x=>x==ks.getD 0 0:=Pm ⟨c,ks⟩
theorem apm{n:Nat}(hO:Ok n I7){s o:List Int}{l:List V}(h:PtP s o l)(pl:List Int)(ko ex:Bool)(hp:gX s pl=true)(x:EN)(hx:x.1.length+1<=ah):aU X0 Qp (bQ (n+1)) (.fn 135 [] []) [dP s o 0 1,lV l,.int .i64 o.length,.own 2] [zC x.1,zD x.2,oI ko ex pl] (.dF [dP s o 3 4,.int .i64 (i64.wrap (-1-(x.1.idxOf (l.getD (dV s pl).toNat V0):Nat)))]) (HP pl ko ex (fG x.1 (l.getD (dV s pl).toNat V0),x.2)):=by
 obtain⟨E,N⟩:=x;have hr:=wS hp h.bJ.sz;have CJ:fK (dV s pl) l.length:=⟨hr.1,by rw[h.len];exact hr.2⟩;have t0:((o.length:Int)==(o.length:Int))=true:=by simp
 have hE:E.length+1<=ah:=hx;have l1:=l1P hO s o (E:=E) N (l.getD (dV s pl).toNat V0) pl ko ex (by omega);have hs:=Px (l:=E) (d:=V0) (a:=l.getD (dV s pl).toNat V0) (c:=c1P E (l.getD (dV s pl).toNat V0)) (fun _ _=>rfl);have hf:=h.bJ;show aU X0 Qp _ _ _ _ (.dF [_,.int .i64 (i64.wrap (-1-(E.idxOf (l.getD (dV s pl).toNat V0):Nat)))]) (HP pl ko ex (fG E (l.getD (dV s pl).toNat V0),N));by_cases c:l.getD (dV s pl).toNat V0∈E
 .rw[show fG E (l.getD (dV s pl).toNat V0)=E from a0q c];rw[hs.1 c]at l1;generalize E.idxOf (l.getD (dV s pl).toNat V0)=j at l1 ⊢;exact aU.gs hX (mQ hX hO (first:=[]) (cap:=[]) (v:=.dF [dP s o 0 1,.int .i64 (i64.wrap (-1-(j:Nat)))]) (H1:=[zC E,zD N,oI ko ex pl]) (by kernel_rfl) (.b t0 (.o hp (.o hf (.o CJ (.w l1 .er)))))) [.mv 0,.mv 1] rfl
 rw[show fG E (l.getD (dV s pl).toNat V0)=E++[l.getD (dV s pl).toNat V0]from a0p c,a7x c];have hi:=hs.2 c;have hz:z1P s o E (l.getD (dV s pl).toNat V0) [zC E,zD N,oI ko ex pl] (bF (c1P E (l.getD (dV s pl).toNat V0)) E.length)=(.exit 0,w1P s o (l.getD (dV s pl).toNat V0) E.length [(33,xl false)] [zC E,zD N,oI ko ex pl]):=by
  cases e:bF (c1P E (l.getD (dV s pl).toNat V0)) E.length with
  |inl _=>rfl
  |inr _=>rw[e]at hi;cases hi
 rw[hz]at l1;have ew:i64.wrap (-1-(E.length:Nat))=i64.wrap (0-((E++[l.getD (dV s pl).toNat V0]).length:Int)):=by
  rw[a1s,a3F];congr 1;push_cast;omega
 rw[ew];exact aU.gs hX (mQ hX hO (first:=[]) (cap:=[]) (v:=.dF [dP s o 4 1,.int .i64 (i64.wrap (0-((E++[l.getD (dV s pl).toNat V0]).length:Int)))]) (H1:=[.gone,zD N,oI ko ex pl,.list true true 39 [l.getD (dV s pl).toNat V0],zC (E++[l.getD (dV s pl).toNat V0])]) (by kernel_rfl) (.b t0 (.o hp (.o hf (.o CJ (.w l1 (.o (show E.length+[l.getD (dV s pl).toNat V0].length<=ah by simpa using hE) .er))))))) [.mv 1,.gc [4,5]] rfl
theorem apn{n:Nat}(hO:Ok n I7){s o:List Int}{l:List V}{a:Nat}{c:Int}(ha:a<o.length)(hc:o.getD a 0=c)(pl:List Int)(ko ex:Bool)(E0:List V)(N0:List Br)(q:Int){ks:List Int}{E:List V}{N:List Br}(hk:1<=ks.length∧ks.length<=12)(hN:N.length+1<=ah)(hb:∀b∈N,b.aA.length<=ah)
  (l2:Jj n 135 1 3 (w2P s o l a c 5 0 [] (HP pl ko ex (E0,N0)++[oI false false []])) (.exit 2) (w2P s o l a c 5 q [(70,xl false)] (HP pl ko ex (E,N)++[oI false false ks]))):aU X0 Qp (bQ (n+1)) (.fn 135 [] []) [dP s o 0 1,lV l,.int .i64 a,.own 2] [zC E0,zD N0,oI ko ex pl] (.dF [dP s o 3 4,.int .i64 (Dz N c ks)]) (HP pl ko ex (E,oV N c ks)):=by
 have t0:((a:Int)==(o.length:Int))=false:=by simp;omega
 have ia:fK (a:Int) o.length:=aH ha;have hkm:ks.length<=ah:=by unfold ah;omega
 have i0:fK 0 ks.length:=⟨by omega,by omega⟩;unfold Dz oV;subst hc;cases hf:ks.all fun x=>x==ks.getD 0 0
 .rw[a0p (by simp),a0p (by simp)];have X9:wU ⟨o.getD a 0,ks⟩=false:=by rw[a7g];exact hf
  have l3:=l3P hO s o E (o.getD a 0) ks pl ko ex (by omega) hb;have hs:=Px (l:=N) (d:=jU) (a:=⟨o.getD a 0,ks⟩) (c:=c3P N (o.getD a 0) ks) (fun _ h=>afv h);by_cases hm:(⟨o.getD a 0,ks⟩:Br)∈N
  .rw[a0q hm];rw[hs.1 hm]at l3;generalize N.idxOf (⟨o.getD a 0,ks⟩:Br)=j at l3 ⊢;exact aU.gs hX (mQ hX hO (first:=[]) (cap:=[]) (v:=.dF [dP s o 3 4,.int .i64 (j:Nat)]) (H1:=HP pl ko ex (E,N)++[oI false false ks]) (by kernel_rfl) (.b t0 (.o ia (.wG [.mv 0,.mv 1,.Oi 2 1 3] l2 (.o hkm (.b X9 (.w l3 .er))))))) [.gc [3,4]] rfl
  .rw[a0p hm,a7x hm];have hi:=hs.2 hm;have hz:z3P s o (o.getD a 0) N (HP pl ko ex (E,N)++[oI false false ks]) (bF (c3P N (o.getD a 0) ks) N.length)=(.exit 4,w3P s o (o.getD a 0) N.length [(106,xl false)] (HP pl ko ex (E,N)++[oI false false ks])):=by
    cases e:bF (c3P N (o.getD a 0) ks) N.length with
    |inl _=>rfl
    |inr _=>rw[e]at hi;cases hi
   rw[hz]at l3;have ew:((N.length:Nat):Int)=i64.wrap (((N++[(⟨o.getD a 0,ks⟩:Br)]).length:Int)-1):=by
    rw[a1s,a3F,dZ (by unfold ah at hN;omega) (by unfold ah at hN;omega)];omega
   rw[ew];exact aU.gs hX (mQ hX hO (first:=[]) (cap:=[]) (v:=.dF [dP s o 3 7,.int .i64 (i64.wrap (((N++[(⟨o.getD a 0,ks⟩:Br)]).length:Int)-1))]) (H1:=[.gone,.gone,oI ko ex pl,zC E,.gone,.gone,.list true true 105 [⟨o.getD a 0,ks⟩],zD (N++[(⟨o.getD a 0,ks⟩:Br)])]) (by kernel_rfl) (.b t0 (.o ia (.wG [.mv 0,.mv 1,.Oi 2 1 3] l2 (.o hkm (.b X9 (.w l3 (.o (show N.length+[(⟨o.getD a 0,ks⟩:Br)].length<=ah by simpa using hN) .er)))))))) [.gc [3,7]] rfl
 .rw[a0q rfl,a0q rfl];have X9:wU ⟨o.getD a 0,ks⟩=true:=by rw[a7g];exact hf
  exact aU.gs hX (mQ hX hO (first:=[]) (cap:=[]) (v:=.dF [dP s o 3 4,.int .i64 (ks.getD 0 0)]) (H1:=HP pl ko ex (E,N)++[oI false false ks]) (by kernel_rfl) (.b t0 (.o ia (.wG [.mv 0,.mv 1,.Oi 2 1 3] l2 (.o hkm (.b X9 (.o i0 .er))))))) [.gc [3,4]] rfl
theorem UU{s:List Int}{l:List V}(hs:kU s):∀(o p:List Int) (x:EN),(∀c∈o,fK c s.length)->(∀b∈x.2,b.aA.length<=12)->∀b∈(fO s l o p x).2.2,b.aA.length<=12
 | [],p,x,_,hx=>hx
 |c::r,p,x,h,hx=>by
  have:=bU (g:=vP (fO s l r) c p) (m:=(s.getD c.toNat 0).toNat) (k:=0) (s:=([],x)) (fun k y=>y.1.length=k∧∀b∈y.2.2,b.aA.length<=12) ⟨rfl,hx⟩ (fun j y _ _ hy=>⟨by simp[vP,hy.1],UU hs r _ y.2 (fun c hc=>h c (by simp[hc])) hy.2⟩);rw[a3Z]at this;obtain⟨i1,i2⟩:=h c (by simp);have h4:=hs _ (bP (s:=s) (k:=c.toNat) (by omega));simp only[fO];generalize aT (vP (fO s l r) c p) (s.getD c.toNat 0).toNat 0 ([],x)=y at this;intro b hb;unfold oV at hb;split at hb
  .exact this.2 b hb
  split at hb
  .exact this.2 b hb
  rcases a2Y.1 hb with hb|hb
  .exact this.2 b hb
  rw[a2A.1 hb];show y.1.length<=12;omega
theorem sPt{n0:Nat}(hO:∀m,n0<=m->Ok m I7){s o:List Int}{l:List V}(h:PtP s o l):∀(r:List Int) (a:Nat) (pl:List Int) (ko ex:Bool) (x:EN),o.drop a=r->a<=o.length->gX s pl=true->x.1.length+wO s r<=ah->x.2.length+wO s r<=ah->(∀b∈x.2,b.aA.length<=12)->aU X0 Qp (bQ (n0+r.length+1)) (.fn 135 [] []) [dP s o 0 1,lV l,.int .i64 a,.own 2] [zC x.1,zD x.2,oI ko ex pl] (.dF [dP s o 3 4,.int .i64 (fO s l r pl x).1]) (HP pl ko ex (fO s l r pl x).2)
 | [],a,pl,ko,ex,x,hr,ha,hp,h1,h2,_=>by
  have:a=o.length:=by
   have:=congrArg List.length hr;rw[a3Y,a4H]at this;omega
  subst this;exact apm (hO _ (by omega)) h pl ko ex hp x h1
 |c::r,a,pl,ko,ex,x,hr,ha,hp,h1,h2,hb=>by
  have aQ:a<o.length:=by
   have:=congrArg List.length hr;rw[a3Y,a4d]at this;omega
  have hd:=a6D aQ;rw[hr]at hd;obtain⟨hc,uV⟩:=ah2 hd;have EC:c∈o:=by rw[hc];exact a4r aQ
  have nH:=h.ord c EC;have Yv:∀c'∈r,fK c' s.length:=fun c' Qi=>h.ord c' (by rw[uV]at Qi;exact a4Q Qi);have hcg:o.getD a 0=c:=by rw[hc];simp[List.getD,a0g aQ]
  have ho6:i64.wrap ((a:Int)+1)=((a+1:Nat):Int):=by
   have:=h.a7f;unfold ah at this;rw[dZ (by omega) (by omega)];omega
  have hz:=h.bJ.sz _ (bP (s:=s) (k:=c.toNat) (by have:=nH.1;have:=nH.2;omega));have hl:=fun q (x:EN)=>UR (l:=l) h.bJ.sz r q x Yv;have hp1:=Pq h.bJ.sz Yv;simp only[wO]at h1 h2;have hpm:pl.length<=ah:=by rw[jm hp];exact h.slen
  obtain⟨f1,f2,f3⟩:=a1L (f:=fO s l r) (c:=c) (p:=pl) (n:=(s.getD c.toNat 0).toNat) hl x;have ad5:=bU (g:=vP (fO s l r) c pl) (m:=(s.getD c.toNat 0).toNat) (k:=0) (s:=([],x)) (fun k y=>∀b∈y.2.2,b.aA.length<=12) hb (fun j y _ _ hy=>UU h.bJ.sz r _ y.2 Yv hy);have hfx:∀(M:Nat),n0+r.length+1=M->∀q (y:EN),gX s q=true->y.1.length+wO s r<=ah->y.2.length+wO s r<=ah->(∀b∈y.2,b.aA.length<=12)->aU X0 Qp (bQ M) (.fn 135 [] []) [dP s o 0 1,lV l,.int .i64 (i64.wrap ((a:Int)+1)),.own 2] [zC y.1,zD y.2,oI true false q] (.dF [dP s o 3 4,.int .i64 (fO s l r q y).1]) (HP q true false (fO s l r q y).2):=by
   rintro M rfl q y hq y1 y2 y3;rw[ho6];exact sPt hO h r (a+1) q true false y uV.symm aQ hq y1 y2 y3
  have l2:=l2P (hO (n0+(r.length+1)) (by omega)) (s:=s) (o:=o) (l:=l) (a:=a) (c:=c) (pl:=pl) (ko:=ko) (ex:=ex) (f:=fO s l r) (w:=wO s r) h.bJ.sz nH hp hpm x hl ⟨h1,h2⟩ (fun y=>∀b∈y.2,b.aA.length<=12) hb (fun q y hy=>UU h.bJ.sz r q y Yv hy) (hfx _ (by omega));simp only[fO];generalize aT (vP (fO s l r) c pl) (s.getD c.toNat 0).toNat 0 ([],x)=y at l2 f1 f2 f3 ad5;obtain⟨ks,E,N⟩:=y;have f1:ks.length=(s.getD c.toNat 0).toNat:=f1;have f3:N.length+(s.getD c.toNat 0).toNat<=x.2.length+(s.getD c.toNat 0).toNat*wO s r:=f3;exact apn (hO (n0+(r.length+1)) (by omega)) aQ hcg pl ko ex x.1 x.2 _ ⟨by omega,by omega⟩ (by omega) (fun b hb=>by have:=ad5 b hb;unfold ah;omega) l2
end Go.Proofs.YtmobpoiejckagaaGreat
namespace Pv
open Go Tw
section
variable {X:kR} {P:Program}
theorem aU.pre(hX:bM X P){call:aY}{f:FuncId}{cs MC xs:List (PV X.Γ)}{H H0 H1:List (PB X.Γ)}{v:PV X.Γ}(gs:List G)(hs:aU X P call (.fn f [] []) (.agg MC::xs) H0 v H1)(hg:kT H.length gs (⟨[],[cs],H⟩:aS X.Γ)=some ⟨[],[MC],H0⟩):aU X P call (.fn f [] []) (.agg cs::xs) H v H1:=by
 intro A m h tf qZ hr hf hx;obtain⟨x0,r,rfl,v0,vr⟩:=hx.inv;cases v0 with
 |gone hi _ _=>simp[bC]at hi
 |agg a1 a2=>
  rename_i cs';obtain⟨m2,q1,q2,q3⟩:=lJ hX hg A (fun b=>b∈bD m) h.length m ⟨[],[cs'],h,[]⟩ ⟨⟨hr,rfl,fun k c hk=>by
   cases k with
   |zero=>simp only[a2Q,a03]at hk;subst hk;exact⟨cs',rfl,a1,a2⟩
   |succ k=>simp at hk,.nil⟩,fun b hb=>.inl hb,fun b hb=>(by cases hb),a0w _⟩
  have up:Up m m2:=fun i mb hi=>q3 i mb (by rw[<-hr.len];exact(a0d.1 hi).1) hi;obtain⟨c2,e1,w1⟩:=q1.st.loc 0 MC rfl;simp only[a2Q,a03]at e1;subst e1;obtain⟨w,h',ws,m1,k1,k2,k3,k4,k5,k6⟩:=hs A m2 h tf (.agg cs'::r) q1.st.heap (hf.step q2 up) (.cons (.agg w1.1 w1.2) (vr.step q2 up));refine⟨w,h',ws,m1,k1,k2,k3,q2.trans k4,fun i mb hi=>?_,fun b hb=>?_⟩
  .rcases up i mb hi with g|g
   .exact k5 i mb g
   rcases k5 i _ g with g|g<;>exact .inr g
  have hb:=k6 b hb;rcases q1.own b hb with g|g
  .exact g
  have:=q1.st.heap.inb hb;have:b<h.length:=this;omega
end
section
variable {X:kR} {P:Program}
theorem En{A:Nat->Prop}{m:List MB}{h:List HB}:∀{a b:List (PV X.Γ)} {z:List TV},bZ X P A m h (a++b) z->∃x y,z=x++y∧bZ X P A m h a x∧bZ X P A m h b y
 | [],b,z,hz=>⟨[],z,rfl,.nil,hz⟩
 |v::a,b,z,hz=>by
  obtain⟨x0,r,rfl,v0,vr⟩:=bZ.inv (v:=v) (vs:=a++b) hz;obtain⟨x,y,rfl,h1,h2⟩:=En vr;exact⟨x0::x,y,rfl,.cons v0 h1,h2⟩
theorem aU.fz(hX:bM X P){call:aY}{f:FuncId}{cs ws rest xs:List (PV X.Γ)}{H H1:List (PB X.Γ)}{v:PV X.Γ}(is:List Nat)(hs:aU X P call (.fn f [] []) (.agg (ws++rest)::xs) (aZ is H) v H1)(hv:views H cs=some ws)(ho:∀i,i∈kL.jY cs->i∈is):aU X P call (.fn f [] []) (.agg (cs++rest)::xs) H v H1:=by
 intro A m h tf qZ hr hf hx;obtain⟨x0,r,rfl,v0,vr⟩:=hx.inv;cases v0 with
 |gone hi _ _=>simp[bC]at hi
 |agg a1 a2=>
  rename_i cs';have ha:bZ X P (AA A m) m h (cs++rest) cs':=⟨a1,a2⟩;obtain⟨c1,c2,rfl,b1,b2⟩:=En ha;have hF:=iC (h:=h) is m;have w1:=(lH (m':=bW is m) hX hr b1 hv ho).mono fun b hb=>FA.gone hr hb;have w2:=b2.step hF.1 hF.2;have w3:=w1.app w2;obtain⟨w,h',TQ,m1,k1,k2,k3,k4,k5,k6⟩:=hs A (bW is m) h tf (.agg (c1++c2)::r) (hr.aZ is) (hf.step hF.1 hF.2) (.cons (.agg w3.1 w3.2) (vr.step hF.1 hF.2));refine⟨w,h',TQ,m1,k1,k2,k3,hF.1.trans k4,hF.2.trans k5,fun b hb=>?_⟩;rcases hF.1.new b (k6 b hb)with g|g
  .exact g
  have:=(hr.aZ is).inb (k6 b hb);omega
end
theorem Good.ad6{X:kR}{P:Program}{T:qH}{L:Nat}{α β:Type}{f:FuncId}{a:UA X P α}{r:Ar X P β}{S:α->β}{pre:α->List Prop}{fP X8 a7h:fA X.Γ}(d:Nat)(hg:Good X P T L fP)(hg2:Good X P T L X8)(hg3:Good X P T L a7h)
  (hf:∀n,d<=n->(∀m,n-d<=m->jF X P (lq P T L m) fP)->(∀m,n-d<=m->jF X P (lq P T L m) X8)->(∀m,n-d<=m->jF X P (lq P T L m) a7h)->∀x,(∀p∈pre x,p)->nZ X P (lq P T L (n+1)) f (a.put x) (r.put (S x)) []):Good X P T L (cO f a r S pre fP):=by
 obtain⟨N2,hN2⟩:=hg2;obtain⟨N3,hN3⟩:=hg3;obtain⟨M,hM⟩:=hg;refine⟨M+N2+N3+d+1,fun n hn=>?_⟩;obtain⟨k,rfl⟩:∃k,n=k+1:=⟨n-1,by omega⟩;intro g vs v ext ps ho hp;unfold cO at ho;split at ho
 .rename_i e;have e:=a8K e;subst e;split at ho
  .rename_i x hx;cases ho;intro A h first args cap Iw hv
   exact hf k (by omega) (fun m hm=>hM m (by omega)) (fun m hm=>hN2 m (by omega)) (fun m hm=>hN3 m (by omega)) x hp A h first args cap Iw (a.ok hx hv)
  .exact hM (k+1) (by omega) g vs v ext ps ho hp
 .exact hM (k+1) (by omega) g vs v ext ps ho hp
end Pv
namespace Go.Proofs.YtmobpoiejckagaaGreat
open Go Tw Pv dw
def kF(s o:List Int)(l:List V):Dg:=⟨s,o,(fO s l o (List.replicate s.length 0) ([],[])).2.1,(fO s l o (List.replicate s.length 0) ([],[])).2.2,(fO s l o (List.replicate s.length 0) ([],[])).1⟩
theorem I8:∀{s:List Int},kU s->gX s (List.replicate s.length 0)=true
 | [],_=>rfl
 |a::s,h=>by
  have:=h a (a3l ..);simp only[a4d,adG,gX,a2n,a1o];exact⟨⟨a9m _,by omega⟩,I8 h.tail⟩
theorem apr{n0:Nat}(hO:∀m,n0<=m->Ok m I7){s o:List Int}{l:List V}(h:PtP s o l)(hw:wO s o<=ah){k1 e1 k2 e2:Bool}:aU X0 Qp (bQ (n0+o.length+1)) (.fn 135 [] []) [.agg [.own 0,.own 1,.nil .slc,.nil .slc,.int .i64 0],lV l,.int .i64 0,.own 2] [oI k1 e1 s,oI k2 e2 o,oI true true (List.replicate s.length 0)] (.dF [dP s o 5 6,.int .i64 (fO s l o (List.replicate s.length 0) ([],[])).1]) [.gone,.gone,oI true true (List.replicate s.length 0),.gone,.gone,zC (kF s o l).aK,zD (kF s o l).aj]:=by
 have hb:=sPt hO h o 0 (List.replicate s.length 0) true true ([],[]) rfl (a4C _) (I8 h.bJ.sz) (by simpa using hw) (by simpa using hw) (by simp);unfold kF;generalize fO s l o (List.replicate s.length 0) ([],[])=z at hb ⊢;obtain⟨q,E,N⟩:=z;have h1:=aU.frame hX (ks:=[3,4,2]) (H':=[.gone,.gone,oI true true (List.replicate s.length 0),zC [],zD []]) (Hp:=[zC [],zD [],oI true true (List.replicate s.length 0)]) (OI:=[.gone,.gone,oI true true (List.replicate s.length 0),zC E,zD N]) (v':=.dF [dP s o 5 6,.int .i64 q]) (fv':=.fn 135 [] []) (xs':=[.agg ([lI s,lI o]++[.own 3,.own 4,.int .i64 0]),lV l,.int .i64 0,.own 2]) hb (by decide) rfl rfl rfl rfl rfl rfl rfl;have h2:=aU.pre hX (H:=[.gone,.gone,oI true true (List.replicate s.length 0)]) (cs:=[lI s,lI o]++[.nil .slc,.nil .slc,.int .i64 0]) [.Oi 0 2 39,.Oi 0 3 105] h1 rfl;exact aU.fz hX (H:=[oI k1 e1 s,oI k2 e2 o,oI true true (List.replicate s.length 0)]) (cs:=[.own 0,.own 1]) [0,1] h2 rfl (fun i hi=>by simpa[kL.jY,kL]using hi)
def akh:fA aC:=cO 85 (a3 pK pK vsA) dA (fun p=>kF p.1 p.2.1 p.2.2) (fun p=>[PtP p.1 p.2.1 p.2.2,p.2.1.length<=6,wO p.1 p.2.1<=ah]) I7
theorem aps:Gd akh:=akg.deep 7 fun n hn hO p hp=>by
 obtain⟨s,o,l⟩:=p;have h:PtP s o l:=hp _ (.head _);have h6:o.length<=6:=hp _ (.tail _ (.head _));have hw:wO s o<=ah:=hp _ (.tail _ (.tail _ (.head _)));have hs:=apr (n0:=n-(o.length+1)) (fun m hm=>hO m (by omega)) h hw (k1:=true) (e1:=false) (k2:=true) (e2:=false);rw[show n-(o.length+1)+o.length+1=n by omega]at hs;have hsl:=h.slen;have Qc:=h.a7f;show nZ _ _ _ _ _ (dA.put (kF s o l)) _;have e:kF s o l=⟨s,o,(kF s o l).aK,(kF s o l).aj,(kF s o l).root⟩:=rfl;have er:(fO s l o (List.replicate s.length 0) ([],[])).1=(kF s o l).root:=rfl;rw[er]at hs;generalize kF s o l=d at hs e;obtain⟨s',o',E,N,q⟩:=d;injection e with e1 e2;subst e1 e2;have i1:(s'.length:Int)=s'.length:=rfl;have i2:(0:Int)<=s'.length:=by omega
 have i3:(s'.length:Int)<=(ah:Int):=by omega
 exact aO (hO n (by omega)) (.o hsl (.o Qc (.o i1 (.o i2 (.o i3 (.fr [0,1,2] hs .rr))))))
open Go Tw Pv dw
theorem a7i{a b:List Int}(ha:a.length<=12)(he:a.length=b.length)(h:Hy a=Hy b):a=b:=by
 have e:∀l:List Int,l.length<=12->(Hy l).take l.length=l:=fun l hl=>by
  unfold Hy;rw[aew,a8m hl,List.take_left]
 rw[<-e a ha,<-e b (by omega),h,he]
def NOk(s:List Int)(N:List Br):Prop:=∀b∈N,fK b.var s.length∧(b.aA.length:Int)=s.getD b.var.toNat 0
theorem a7j{s:List Int}(hs:kU s){N:List Br}(h:NOk s N){c:Int}{ks:List Int}(hc:fK c s.length)(hk:(ks.length:Int)=s.getD c.toNat 0){b:Br}(hb:b∈N):BU b=tX c ks↔b=⟨c,ks⟩:=by
 constructor
 .intro e;obtain⟨v,l⟩:=b;have e1:v=c:=congrArg Prod.fst e;subst e1;have e2:Hy l=Hy ks:=congrArg (fun x:Ky=>x.2.1) e;have hl:=(h _ hb).2;have hl:(l.length:Int)=s.getD v.toNat 0:=hl;have hz:=hs _ (bP (s:=s) (k:=v.toNat) (by have:=hc.1;have:=hc.2;omega));rw[a7i (by omega) (by omega) e2]
 rintro rfl;rfl
theorem XH{s:List Int}(hs:kU s){N:List Br}(h:NOk s N){c:Int}{ks:List Int}(hc:fK c s.length)(hk:(ks.length:Int)=s.getD c.toNat 0):eu N c ks=Dz N c ks∧dB N c ks=oV N c ks:=by
 have hm:tX c ks∈N.map BU↔(⟨c,ks⟩:Br)∈N:=by
  rw[a1e];constructor
  .rintro⟨b,hb,e⟩;rw[(a7j hs h hc hk hb).1 e]at hb;exact hb
  intro hb;exact⟨_,hb,rfl⟩
 have hi:(N.map BU).idxOf (tX c ks)=N.idxOf (⟨c,ks⟩:Br):=by
  clear hm
  induction N with
  |nil=>rfl
  |cons b N ih=>
   have e:=a7j hs h hc hk (b:=b) (by simp);rw[a4g,adt,adt,ih fun b hb=>h b (by simp[hb])];have:(BU b==tX c ks)=(b==(⟨c,ks⟩:Br)):=by rw[a4E,a7H,a7H];exact e
   rw[this]
 unfold eu Dz dB oV;rw[hi];refine⟨rfl,?_⟩;split
 .rfl
 by_cases g:tX c ks∈N.map BU
 .rw[a0q g,a0q (hm.1 g)]
 rw[a0p g,a0p fun x=>g (hm.2 x)]
open Go Tw Pv dw
theorem aat{s:List Int}{a b:List Int}(h:a.Perm b):wO s a=wO s b:=by
 induction h with
 |nil=>rfl
 |cons x _ ih=>simp only[wO,ih]
 |swap x y l=>simp only[wO];rw[<-Nat.mul_assoc,<-Nat.mul_assoc,Nat.mul_comm (s.getD y.toNat 0).toNat]
 |trans _ _ i1 i2=>rw[i1,i2]
theorem XI{s:List Int}(hs:kU s):∀(m k:Nat),k+m=s.length->(wO s ((List.range' k m).map fun(j:Nat)=>(j:Int)):Int)=bg (s.drop k)
 | 0,k,h=>by rw[afM (by omega)];rfl
 |m+1,k,h=>by
  have hk:k<s.length:=by omega
  have hz:=hs _ (bP (s:=s) (k:=k) hk);rw[List.range'_succ,a4g,wO,OO hk,adL,XI hs m (k+1) (by omega),a4I,agR (by omega)]
theorem DC{s o:List Int}(hs:kU s)(h:kC s.length o=true):(wO s o:Int)=bg s:=by
 have h':=h;unfold kC at h';rw[a1o]at h';have hi:=SA s.length;have vZ:=hi;unfold kC at vZ;rw[a1o]at vZ;have hp:o.Perm (dO s.length):=(a8a h'.2.2 vZ.2.2).2 fun a=>⟨fun ha=>lQ hi (h'.2.1 a ha),fun ha=>lQ h (vZ.2.1 a ha)⟩;rw[aat hp];have:=XI hs s.length 0 (by omega);rw[<-List.range_eq_range']at this;exact this
open Go Tw Pv dw
inductive To(d:Dg)(q:List Int):Int->V->Prop
 |fin {r:Int} (h:r<0):To d q r (d.aK.getD (jE r).toNat V0)
 |step {r:Int} {c:V} (h:0<=r) (t:To d q ((au d r).aA.getD (q.getD (au d r).var.toNat 0).toNat 0) c):To d q r c
theorem To.at_{d:Dg}(h:BF d){q:List Int}(hq:gX d.ay q=true){r:Int}{c:V}(t:To d q r c):∀F:Nat,r<F->jq d r d.aj.length->c=d.aK.getD (jE (ZJ d q F r)).toNat V0:=by
 induction t with
 |fin hr=>
  intro F _ _;cases F with
  |zero=>rfl
  |succ F=>rw[ZJ,a0q hr]
 |step hr _ ih=>
  intro F hF hk;cases F with
  |zero=>omega
  |succ F=>
   rw[ZJ,a0p (by omega)];have:=(P6 h hq ⟨hr,hk.1⟩).2.2;exact ih F (by have:=this.1;omega) ⟨by have:=this.1;have:=hk.1;omega,this.2⟩
theorem To.of{d:Dg}(h:BF d){q:List Int}(hq:gX d.ay q=true):∀(F:Nat) (r:Int),r<F->jq d r d.aj.length->To d q r (d.aK.getD (jE (ZJ d q F r)).toNat V0)
 | 0,r,hr,_=>.fin (by omega)
 |F+1,r,hr,hk=>by
  rw[ZJ];split
  .rename_i c;exact .fin c
  rename_i c;have:=(P6 h hq ⟨by omega,hk.1⟩).2.2;exact .step (by omega) (To.of h hq F _ (by have:=this.1;omega) ⟨by have:=this.1;have:=hk.1;omega,this.2⟩)
theorem To.det{d:Dg}{q:List Int}{r:Int}{a b:V}(h:To d q r a):To d q r b->a=b:=by
 induction h with
 |fin hr=>intro g;cases g with
  |fin _=>rfl
  |step h _=>omega
 |step hr _ ih=>intro g;cases g with
  |fin h=>omega
  |step _ t=>exact ih t
theorem AO(E:List V)(v:V):E <+: fG E v:=by
 unfold fG;split
 .exact a4t
 exact a8E _ _
theorem I9(N:List Br)(c:Int)(ks:List Int):N <+: oV N c ks:=by
 unfold oV;split
 .exact a4t
 split
 .exact a4t
 exact a8E _ _
def Py(x y:EN):Prop:=x.1 <+: y.1∧x.2 <+: y.2
theorem Py.rfl{x:EN}:Py x x:=⟨a4t,a4t⟩
theorem Py.trans{x y z:EN}(a:Py x y)(b:Py y z):Py x z:=⟨a.1.trans b.1,a.2.trans b.2⟩
theorem Pz{s:List Int}{l:List V}:∀(r p:List Int) (x:EN),Py x (fO s l r p x).2
 | [],p,x=>⟨AO _ _,a4t⟩
 |c::r,p,x=>by
  have:=bU (g:=vP (fO s l r) c p) (m:=(s.getD c.toNat 0).toNat) (k:=0) (s:=([],x)) (fun _ y=>Py x y.2) Py.rfl (fun j y _ _ hy=>hy.trans (Pz r _ y.2));exact⟨this.1,this.2.trans (I9 _ _ _)⟩
theorem zF{α:Type}{a b:List α}{d:α}(h:a <+: b){k:Nat}(hk:k<a.length):b.getD k d=a.getD k d:=by
 obtain⟨t,rfl⟩:=h;simp[List.getD,a0k hk]
theorem PD{k:Nat}(hk:k<2^61):i64.wrap (-1-(k:Int))=-1-(k:Int)∧jE (-1-(k:Int))=(k:Int):=by
 refine⟨dZ (by omega) (by omega),?_⟩;unfold jE;rw[dZ (by omega) (by omega)];omega
theorem SS(E:List V)(v:V):E.idxOf v<(fG E v).length∧(fG E v).getD (E.idxOf v) V0=v:=by
 unfold fG;split
 .rename_i h;have:=a4w.2 h;exact⟨this,by simp[List.getD,a0g this]⟩
 rename_i h;rw[a7x h];exact⟨by simp,by simp[List.getD]⟩
theorem UW{N:List Br}{c:Int}{ks:List Int}(hf:¬(ks.all fun x=>x==ks.getD 0 0)=true):N.idxOf (⟨c,ks⟩:Br)<(oV N c ks).length∧(oV N c ks).getD (N.idxOf (⟨c,ks⟩:Br)) jU=⟨c,ks⟩:=by
 unfold oV;rw[a0p hf];split
 .rename_i h;have:=a4w.2 h;exact⟨this,by simp[List.getD,a0g this]⟩
 rename_i h;rw[a7x h];exact⟨by simp,by simp[List.getD]⟩
def ZO(s r q p:List Int):Prop:=∀k:Nat,k<s.length->(k:Int)∉r->q.getD k 0=p.getD k 0
theorem ZO.set{s r q p:List Int}{c:Int}(hc:fK c s.length)(hp:p.length=s.length)(h:ZO s (c::r) q p):ZO s r q (p.set c.toNat (q.getD c.toNat 0)):=fun k hk hr=>by
 by_cases e:k=c.toNat
 .subst e;have e2:(p.set c.toNat (q.getD c.toNat 0)).getD c.toNat 0=q.getD c.toNat 0:=by
   simp[List.getD,a1T (show c.toNat<p.length by omega)]
  exact e2.symm
 .rw[show(p.set c.toNat (q.getD c.toNat 0)).getD k 0=p.getD k 0 by rw[List.getD,a1n (Ne.symm e)];rfl];exact h k hk (by simp only[a2r,adn];exact⟨fun e2=>e (by omega),hr⟩)
theorem ZO.back{s r q p:List Int}{c j:Int}(hc:fK c s.length)(h:ZO s r q (p.set c.toNat j)):ZO s (c::r) q p:=fun k hk hr=>by
 simp only[a2r,adn]at hr;have hc:=hc.1;have e:k≠c.toNat:=fun e=>hr.1 (by omega);have:=h k hk hr.2;rw[this,List.getD,a1n (Ne.symm e)];rfl
theorem afx{s q p:List Int}(hq:q.length=s.length)(hp:p.length=s.length)(h:ZO s [] q p):q=p:=(oP (d:=(0:Int)) (by omega)).2 fun k hk=>h k (by omega) (by simp)
theorem a3w{ks:List Int}(h:(ks.all fun x=>x==ks.getD 0 0)=true){j:Nat}(hj:j<ks.length):ks.getD j 0=ks.getD 0 0:=by
 rw[a4x]at h;have:=h (ks.getD j 0) (bP hj);simpa using this
theorem ad8{s:List Int}{l:List V}(hs:kU s):∀(r p:List Int) (x:EN),(∀c∈r,fK c s.length)->p.length=s.length->∀d:Dg,d.aK.length<2^61->(fO s l r p x).2.1 <+: d.aK->(fO s l r p x).2.2 <+: d.aj->∀q,gX s q=true->ZO s r q p->To d q (fO s l r p x).1 (l.getD (dV s q).toNat V0)
 | [],p,x,_,hp,d,hd,h1,_,q,hq,ha=>by
  have e:=afx (jm hq) hp ha;subst e;obtain⟨g1,g2⟩:=SS x.1 (l.getD (dV s q).toNat V0);have h1:fG x.1 (l.getD (dV s q).toNat V0) <+: d.aK:=h1;have aQ:x.1.idxOf (l.getD (dV s q).toNat V0)<2^61:=by have:=h1.length_le;omega
  obtain⟨e1,e2⟩:=PD aQ;show To d q (i64.wrap (-1-(x.1.idxOf (l.getD (dV s q).toNat V0):Nat))) _;rw[e1];have:=To.fin (d:=d) (q:=q) (r:=-1-((x.1.idxOf (l.getD (dV s q).toNat V0):Nat):Int)) (by omega);rw[e2,a4I,zF h1 g1,g2]at this;exact this
 |c::r,p,x,hr,hp,d,hd,h1,h2,q,hq,ha=>by
  have hc:=hr c (by simp);have Yv:∀c'∈r,fK c' s.length:=fun c' h=>hr c' (by simp[h]);have Yo:=(jo.1 hq).2 c.toNat (by have:=hc.1;have:=hc.2;omega);have inv:=bU (g:=vP (fO s l r) c p) (m:=(s.getD c.toNat 0).toNat) (k:=0) (s:=([],x)) (fun k y=>y.1.length=k∧∀j:Nat,j<k->y.2.1 <+: d.aK->y.2.2 <+: d.aj->∀q,gX s q=true->ZO s r q (p.set c.toNat j)->To d q (y.1.getD j 0) (l.getD (dV s q).toNat V0)) ⟨rfl,fun j hj=>by omega⟩ (fun j y _ hj hy=>by
   obtain⟨y1,y2⟩:=hy;refine⟨by simp[vP,y1],fun j' DV g1 g2 q hq ha=>?_⟩;have Ew:=Pz (s:=s) (l:=l) r (p.set c.toNat j) y.2;by_cases e:j'<j
   .have:(vP (fO s l r) c p j y).1.getD j' 0=y.1.getD j' 0:=by
     show(y.1++_).getD j' 0=_;simp[List.getD,a0k (show j'<y.1.length by omega)]
    rw[this];exact y2 j' e (Ew.1.trans g1) (Ew.2.trans g2) q hq ha
   have e:j'=j:=(by omega);subst e;have:(vP (fO s l r) c p j' y).1.getD j' 0=(fO s l r (p.set c.toNat j') y.2).1:=by
    show(y.1++[_]).getD j' 0=_;simp[List.getD,<-y1]
   rw[this];exact ad8 hs r _ y.2 Yv (by simp[hp]) d hd g1 g2 q hq ha)
  rw[a3Z]at inv;simp only[fO]at h1 h2 ⊢;generalize aT (vP (fO s l r) c p) (s.getD c.toNat 0).toNat 0 ([],x)=y at inv h1 h2;obtain⟨ks,E,N⟩:=y;obtain⟨hlen,inv⟩:=inv;have hlen:ks.length=(s.getD c.toNat 0).toNat:=hlen;have h2:oV N c ks <+: d.aj:=h2;have hj:(q.getD c.toNat 0).toNat<(s.getD c.toNat 0).toNat:=by omega
  have YB:((q.getD c.toNat 0).toNat:Int)=q.getD c.toNat 0:=by omega
  have t:=inv (q.getD c.toNat 0).toNat hj h1 ((I9 N c ks).trans h2) q hq (by rw[YB];exact ZO.set hc hp ha);have t:To d q (ks.getD (q.getD c.toNat 0).toNat 0) (l.getD (dV s q).toNat V0):=t;show To d q (Dz N c ks) _;by_cases hf:(ks.all fun x=>x==ks.getD 0 0)=true
  .rw[show Dz N c ks=ks.getD 0 0 from a0q hf];rw[a3w hf (by omega)]at t;exact t
  rw[show Dz N c ks=(N.idxOf (⟨c,ks⟩:Br):Nat)from a0p hf];obtain⟨g1,g2⟩:=UW (N:=N) (c:=c) hf;have en:au d ((N.idxOf (⟨c,ks⟩:Br):Nat):Int)=⟨c,ks⟩:=by
   unfold au;rw[a4I,zF h2 g1,g2]
  refine .step (by omega) ?_;rw[en];exact t
open Go Tw Pv dw
def ED(o:List Int)(N:List Br)(r:Int):Nat:=if r<0 then o.length else o.idxOf (N.getD r.toNat jU).var
def BN(o:List Int)(x:EN)(v:Int)(b a:Nat):Prop:=(v<0->fK (jE v) x.1.length)∧v<(b:Int)∧a<=ED o x.2 v
structure PtV(s o:List Int)(x:EN):Prop where
 var:∀i,i<x.2.length->fK (x.2.getD i jU).var s.length
 ksz:∀i,i<x.2.length->((x.2.getD i jU).aA.length:Int)=s.getD (x.2.getD i jU).var.toNat 0
 zy:∀i,i<x.2.length->∀k,k<(x.2.getD i jU).aA.length->BN o x ((x.2.getD i jU).aA.getD k 0) i (o.idxOf (x.2.getD i jU).var+1)
theorem BN.mono{o:List Int}{x y:EN}{v:Int}{b b' a a':Nat}(h:BN o x v b a)(hp:Py x y)(hb:b<=b')(hx:b<=x.2.length)(ha:a'<=a):BN o y v b' a':=by
 obtain⟨h1,h2,h3⟩:=h;refine⟨fun hv=>⟨(h1 hv).1,by have:=(h1 hv).2;have:=hp.1.length_le;omega⟩,by omega,?_⟩;unfold ED at h3 ⊢;split
 .rename_i c;rw[a0q c]at h3;omega
 rename_i c;rw[a0p c]at h3;rw[zF hp.2 (by omega)];omega
theorem a7k{s o:List Int}{l:List V}(hs:kU s)(ho:∀c∈o,fK c s.length)(hn:o.Nodup):∀(r:List Int) (a:Nat) (p:List Int) (x:EN),o.drop a=r->a<=o.length->PtV s o x->(fO s l r p x).2.1.length<2^61->PtV s o (fO s l r p x).2∧BN o (fO s l r p x).2 (fO s l r p x).1 (fO s l r p x).2.2.length a
 | [],a,p,x,hr,ha,hx,hE=>by
  have:a=o.length:=by
   have:=congrArg List.length hr;rw[a3Y,a4H]at this;omega
  subst this;obtain⟨g1,g2⟩:=SS x.1 (l.getD (dV s p).toNat V0);have hE:(fG x.1 (l.getD (dV s p).toNat V0)).length<2^61:=hE;obtain⟨e1,e2⟩:=PD (k:=x.1.idxOf (l.getD (dV s p).toNat V0)) (by omega);have hp:Py x (fG x.1 (l.getD (dV s p).toNat V0),x.2):=⟨AO _ _,a4t⟩;refine⟨⟨hx.var,hx.ksz,fun i hi k hk=>(hx.zy i hi k hk).mono hp (a0w _) (a99 hi) (a0w _)⟩,?_⟩;show BN o _ (i64.wrap (-1-(x.1.idxOf (l.getD (dV s p).toNat V0):Nat))) _ _;rw[e1];refine⟨fun _=>by rw[e2];exact⟨by omega,by show _<((fG x.1 (l.getD (dV s p).toNat V0)).length:Int);omega⟩,by omega,?_⟩;unfold ED;rw[a0q (by omega)];exact a0w _
 |c::r,a,p,x,hr,ha,hx,hE=>by
  have aQ:a<o.length:=by
   have:=congrArg List.length hr;rw[a3Y,a4d]at this;omega
  have hd:=a6D aQ;rw[hr]at hd;obtain⟨hc,uV⟩:=ah2 hd;have EC:c∈o:=by rw[hc];exact a4r aQ
  have nH:=ho c EC;have hia:o.idxOf c=a:=by rw[hc];exact hn.idxOf_getElem a aQ
  have hz:=hs _ (bP (s:=s) (k:=c.toNat) (by have:=nH.1;have:=nH.2;omega));have mono:=fun(n:Nat) (m:Nat) (y:List Int×EN)=>(bU (g:=vP (fO s l r) c p) (m:=m) (k:=n) (s:=y) (fun _ z=>Py y.2 z.2) Py.rfl (fun j z _ _ hz=>hz.trans (Pz r _ z.2)));have hEf:(aT (vP (fO s l r) c p) (s.getD c.toNat 0).toNat 0 ([],x)).2.1.length<2^61:=hE;have inv:=bU (g:=vP (fO s l r) c p) (m:=(s.getD c.toNat 0).toNat) (k:=0) (s:=([],x)) (fun k y=>y.1.length=k∧(y.2.1.length<2^61->PtV s o y.2∧∀j:Nat,j<k->BN o y.2 (y.1.getD j 0) y.2.2.length (a+1))) ⟨rfl,fun _=>⟨hx,fun j hj=>by omega⟩⟩ (fun j y _ hj hy=>by
   obtain⟨y1,y2⟩:=hy;refine⟨by simp[vP,y1],fun hE=>?_⟩;have Ew:=Pz (s:=s) (l:=l) r (p.set c.toNat j) y.2;have hE:(fO s l r (p.set c.toNat j) y.2).2.1.length<2^61:=hE;obtain⟨v1,v2⟩:=y2 (by have:=Ew.1.length_le;omega);obtain⟨w1,w2⟩:=a7k hs ho hn r (a+1) (p.set c.toNat j) y.2 uV.symm aQ v1 hE;refine⟨w1,fun j' DV=>?_⟩;by_cases e:j'<j
   .have:(vP (fO s l r) c p j y).1.getD j' 0=y.1.getD j' 0:=by
     show(y.1++_).getD j' 0=_;simp[List.getD,a0k (show j'<y.1.length by omega)]
    rw[this];exact(v2 j' e).mono Ew Ew.2.length_le (a0w _) (a0w _)
   have e:j'=j:=(by omega);subst e;have:(vP (fO s l r) c p j' y).1.getD j' 0=(fO s l r (p.set c.toNat j') y.2).1:=by
    show(y.1++[_]).getD j' 0=_;simp[List.getD,<-y1]
   rw[this];exact w2)
  rw[a3Z]at inv;simp only[fO];generalize aT (vP (fO s l r) c p) (s.getD c.toNat 0).toNat 0 ([],x)=y at inv hEf;obtain⟨ks,E,N⟩:=y;obtain⟨hlen,inv⟩:=inv;obtain⟨i1,i2⟩:=inv hEf;have hlen:ks.length=(s.getD c.toNat 0).toNat:=hlen;have i2:∀j:Nat,j<(s.getD c.toNat 0).toNat->BN o (E,N) (ks.getD j 0) N.length (a+1):=i2;have Ew:Py (E,N) (E,oV N c ks):=⟨a4t,I9 N c ks⟩;show PtV s o (E,oV N c ks)∧BN o (E,oV N c ks) (Dz N c ks) (oV N c ks).length a;by_cases hf:(ks.all fun x=>x==ks.getD 0 0)=true
  .rw[show Dz N c ks=ks.getD 0 0 from a0q hf,show oV N c ks=N from a0q hf];exact⟨i1,(i2 0 (by omega)).mono Py.rfl (a0w _) (a0w _) (by omega)⟩
  obtain⟨g1,g2⟩:=UW (N:=N) (c:=c) hf;rw[show Dz N c ks=(N.idxOf (⟨c,ks⟩:Br):Nat)from a0p hf];have KO:a<=ED o (oV N c ks) ((N.idxOf (⟨c,ks⟩:Br):Nat):Int):=by
   unfold ED;rw[a0p (by omega),a4I,g2];show a<=o.idxOf c;omega
  refine⟨?_,⟨fun h=>by omega,by omega,KO⟩⟩;by_cases hm:(⟨c,ks⟩:Br)∈N
  .rw[show oV N c ks=N by unfold oV;rw[a0p hf,a0q hm]];exact i1
  have eN:oV N c ks=N++[⟨c,ks⟩]:=by unfold oV;rw[a0p hf,a0p hm]
  rw[eN]at Ew ⊢;have hold:∀i,i<N.length->(N++[(⟨c,ks⟩:Br)]).getD i jU=N.getD i jU:=fun i hi=>zF (a8E _ _) hi;have gq:(N++[(⟨c,ks⟩:Br)]).getD N.length jU=⟨c,ks⟩:=by simp[List.getD]
  have uU:∀i,i<(N++[(⟨c,ks⟩:Br)]).length->i<N.length∨i=N.length:=fun i hi=>by
   rw[a1s,a3F]at hi;omega
  refine⟨fun i hi=>?_,fun i hi=>?_,fun i hi k hk=>?_⟩
  .show fK ((N++[(⟨c,ks⟩:Br)]).getD i jU).var s.length;rcases uU i hi with h|rfl
   .rw[hold i h];exact i1.var i h
   rw[gq];exact nH
  .show(((N++[(⟨c,ks⟩:Br)]).getD i jU).aA.length:Int)=s.getD ((N++[(⟨c,ks⟩:Br)]).getD i jU).var.toNat 0;rcases uU i hi with h|rfl
   .rw[hold i h];exact i1.ksz i h
   rw[gq];show(ks.length:Int)=s.getD c.toNat 0;omega
  have hk:k<((N++[(⟨c,ks⟩:Br)]).getD i jU).aA.length:=hk;show BN o (E,N++[(⟨c,ks⟩:Br)]) (((N++[(⟨c,ks⟩:Br)]).getD i jU).aA.getD k 0) i (o.idxOf ((N++[(⟨c,ks⟩:Br)]).getD i jU).var+1);rcases uU i hi with h|rfl
  .rw[hold i h]at hk ⊢;exact(i1.zy i h k hk).mono Ew (a0w _) (a99 h) (a0w _)
  rw[gq]at hk ⊢;have hk:k<ks.length:=hk;exact(i2 k (by omega)).mono Ew (a0w _) (a0w _) (by show o.idxOf c+1<=a+1;omega)
end Go.Proofs.YtmobpoiejckagaaGreat
