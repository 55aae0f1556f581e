/- Part 5 of a proof: ApplyLooks -/
import Derived.Test.YtmobpoiejckagaaGreatProg
import Derived.KernelRfl
import Derived.Test.YtmobpoiejckagaaGreatP03
set_option linter.constructorNameAsVariable false
set_option linter.unusedVariables false
set_option linter.unusedSimpArgs false
set_option linter.unusedSectionVars false
open Go.IntKind (i64)
noncomputable section
namespace Tw
open Go Go.ChangeShapes Go.WideShapes Go.RowKit
theorem a3a{H:Type}{enc:LI2×LI3->H}{P:LI1}{w:LI4}{t:LI2}{ts:List LI2}{vs:List LI3}{ds:List (DataW H)}{ps:List MemPlace}(h:DataW.TrodAll enc P w 0 (fun _=>true) true (t::ts) vs ds ps):∃d e,ds=d::e∧Rd enc P w t d∧∃vs ps,DataW.TrodAll enc P w 0 (fun _=>true) true ts vs e ps:=by obtain⟨v,vs',d,ds',p,q,rfl,rfl,rfl,⟨fuel,hd⟩,Nu⟩:=trodAll_cons h;exact⟨d,ds',rfl,⟨_,fuel,p,hd⟩,_,_,Nu⟩
section
variable {H:Type} {P:LI1} {g:Nat} {t:LI2} {ts:List LI2} {d:DataW H} {ds:List (DataW H)} {h h1 h2:List HB} {xs:List TV}
theorem aeT{x:TV}(ha:vP P t=some false)(he:CG P g t d h=some ([x],h1))(hr:U4 P g ts ds h1=some (xs,h2)):U4 P g (t::ts) (d::ds) h=some (x::xs,h2):=by simp only[U4,he,ha,hr]
theorem aeU:U4 (H:=H) P g [] [] h=some ([],h):=rfl
end
end Tw
namespace Pv
open Go Tw
section
variable {X:kJ} {P:LI1} {H:Type} {mD:LI2×LI3->H} {w:LI4}
abbrev AT:Nat->Prop:=fun _=>True
def RdP(mD:LI2×LI3->H)(X:kJ)(P:LI1)(w:LI4)(g t:Nat){α:Type}(ps:α->List (PV X.Γ))(Q:α->Prop):Prop:=
 ∀d,Rd mD P w t d->∃a,Q a∧∀h,∃xs ext,CG P g t d h=some (xs,h++ext)∧∀e,bU X P AT [] (h++ext++e) (ps a) xs
theorem a1f{t g:Nat}{k:IntKind}(ht:P.underlying t=some (.int k)):RdP mD X P w (g+1) t (fun n:Int=>[.int k n]) (fun n=>(Lit.int k n).wf=true):=fun d hd=>by obtain⟨n,rfl,hn⟩:=aeO ht hd;exact⟨n,hn,fun h=>⟨[.int k n],[],by simp[CG,ht],fun e=>.cons (.int _ _) .nil⟩⟩
theorem Sz{e g sz:Nat}{Q:X.Γ e->Prop}(hlen:∀a,(X.enc e a).length=sz)(hr:RdP mD X P w g e (X.enc e) Q):∀(ds:List (DataW H)),(∀y∈ds,Rd mD P w e y) ->
  ∃l:List (X.Γ e),l.length=ds.length∧(∀a∈l,Q a)∧∀h,∃cs ext,Wn (CG P g e) sz ds h=some (cs,h++ext)∧cs.length=l.length*sz∧∀e2 (j:Nat) a (i:Nat) c v,l[j]? = some a->(X.enc e a)[i]? = some c->cs[j*sz+i]? = some v->VR X P AT [] (h++ext++e2) c v
 | [],_=>⟨[],rfl,by simp,fun h=>⟨[],[],by simp[Wn],by simp,fun e2 j a i c v h1=>by simp at h1⟩⟩
 |d::ds,hd=>by
  obtain⟨a,qa,ha⟩:=hr d (hd d (a2O ..));obtain⟨l,l1,l2,l3⟩:=Sz hlen hr ds fun y hy=>hd y (a2P _ hy);refine⟨a::l,by simp[l1],fun b hb=>(a2d.1 hb).elim (fun e=>e▸qa) (l2 b),fun h=>?_⟩;obtain⟨xs,e1,h1,v1⟩:=ha h;obtain⟨cs,e2,h2,c2,v2⟩:=l3 (h++e1);have hx:xs.length=sz:=by rw[<-(v1 []).1];exact hlen a
  refine⟨xs++cs,e1++e2,?_,by simp only[a1I,a4b,hx,c2,a3m];omega,fun e3 j b i c v hj hi hv=>?_⟩
  .simp only[Wn,h1,hx,a1U,h2,a5R]
  .cases j with
   |zero=>
    simp only[a2r,a00]at hj;subst hj;have JO:i<sz:=by rw[<-hlen a];exact(a01.1 hi).1
    rw[abT,a3T,a0b (by omega)]at hv;have:=(v1 (e2++e3)).2 i c v hi hv;simp only[a5R]at this ⊢;exact this
   |succ j=>
    rw[a9p]at hj;rw[a0S (by rw[hx,a3m];omega),hx,show(j+1)*sz+i-sz=j*sz+i by rw[a3m];omega]at hv;have:=v2 e3 j b i c v hj hi hv;simp only[a5R]at this ⊢;exact this
theorem Ho{t e g sz:Nat}{Q:X.Γ e->Prop}(ht:P.underlying t=some (.slice e))(uT:P.cellsOf e=sz)(hz:dw P e=some sz)(h0:0<sz)(hlen:∀a,(X.enc e a).length=sz)(hr:RdP mD X P w g e (X.enc e) Q):RdP mD X P w (g+1) t (fun l:List (X.Γ e)=>[.dB e l false]) (fun l=>∀a∈l,Q a):=fun d hd=>by
 rcases a6o ht hd with rfl|⟨xs,ys,rfl,hy⟩
 .exact⟨[],by simp,fun h=>⟨[.nil .aP],[],by simp[CG,ht],fun e=>.cons .oW .nil⟩⟩
 .obtain⟨l,l1,l2,l3⟩:=Sz hlen hr (xs++ys) hy;have hl:xs.length<=l.length:=by rw[l1,a1I];omega
  refine⟨l.take xs.length,fun a ha=>l2 a (a95 ha),fun h=>?_⟩;obtain⟨cs,e1,h1,c1,v1⟩:=l3 h;refine⟨[.aP (h++e1).length 0 xs.length (xs.length+ys.length) sz true],e1++[.cells .ro cs],?_,fun e2=>.cons ?_ .nil⟩
  .have iq:¬sz=0:=(by omega);simp only[CG,ht,uT,h1,iq,a3g,a5R]
  .have hln:(l.take xs.length).length=xs.length:=(by rw[a3E,a7F hl]);have hb:(h++(e1++[HB.cells .ro cs])++e2)[(h++e1).length]? = some (.cells .ro cs):=by rw[show h++(e1++[HB.cells .ro cs])++e2=(h++e1)++(HB.cells .ro cs::e2) by simp,a0S (a0U _),agI];rfl
   have vW:(l.take xs.length).length<=xs.length+ys.length:=(by omega);have rU:∀(j:Nat) a,(l.take xs.length)[j]? = some a->l[j]? = some a:=fun j a hj=>by
    rw[a4g]at hj;split at hj
    .exact hj
    .cases hj
   have hle:(l.take xs.length).length*sz<=cs.length:=by rw[c1,hln];exact a3l sz hl
   generalize xs.length+ys.length=cp at vW ⊢;generalize l.take xs.length=l' at vW rU hle hln ⊢;rw[<-hln];exact VR.dB (X:=X) (P:=P) (A:=AT) (m:=[]) (t:=e) (l:=l') (fu:=false) (b:=(h++e1).length) (off:=0) (cap:=cp) (sz:=sz) (ex:=true) (cs:=cs) trivial (by unfold aX;rw[hb]) (fun _=>by unfold lQ;rw[hb];simp) hz h0 (by omega) vW (by simp) (fun j a _=>hlen a) (fun j a i c v hj hi hv=>by rw[a3T]at hv;have:=v1 ([HB.cells .ro cs]++e2) j a i c v (rU j a hj) hi hv;simp only[a5R]at this ⊢;exact this)
def RdF(mD:LI2×LI3->H)(X:kJ)(P:LI1)(w:LI4)(g o:Nat)(fs:List Field){α:Type}(ps:α->List (PV X.Γ))(Q:α->Prop):Prop:=
 ∀ds:List (DataW H),ds.length=fs.length->(∀(i:Nat) f d,fs[i]? = some f->ds[i]? = some d->Rd mD P w f.type d)->∃a,Q a∧∀h,∃xs ext,KQ P (CG P g) o fs ds h=some (xs,h++ext)∧∀e,bU X P AT [] (h++ext++e) (ps a) xs
theorem UE{g o:Nat}:RdF mD X P w g o [] (fun _:Unit=>[]) (fun _=>True):=fun ds hl _=>by have:=a3Y hl;subst this;exact⟨(),trivial,fun h=>⟨[],[],by simp[KQ],fun e=>.nil⟩⟩
theorem qY{g o n:Nat}{f:Field}{fs:List Field}{α β:Type}{p1:α->List (PV X.Γ)}{p2:β->List (PV X.Γ)}{Q1:α->Prop}{Q2:β->Prop}(ho:f.offset=o)(hc:P.cellsOf f.type=n)(hn:∀a,(p1 a).length=n)(h1:RdP mD X P w g f.type p1 Q1)(h2:RdF mD X P w g (o+n) fs p2 Q2):RdF mD X P w g o (f::fs) (fun x:α×β=>p1 x.1++p2 x.2) (fun x=>Q1 x.1∧Q2 x.2):=fun ds hl hd=>by
 cases ds with
 |nil=>cases hl
 |cons d ds=>
  obtain⟨a,qa,ha⟩:=h1 d (hd 0 f d rfl rfl);obtain⟨b,qb,hb⟩:=h2 ds (by simpa using hl) fun i f' d' e1 e2=>hd (i+1) f' d' e1 e2;refine⟨(a,b),⟨qa,qb⟩,fun h=>?_⟩;obtain⟨xs,e1,g1,v1⟩:=ha h;obtain⟨ys,e2,g2,v2⟩:=hb (h++e1);have hx:xs.length=n:=by rw[<-(v1 []).1];exact hn a
  refine⟨xs++ys,e1++e2,?_,fun e=>?_⟩
  .simp only[KQ,g1,ho,hx,hc,acP,a1U,g2,a5R]
  .have w1:=v1 (e2++e);have w2:=v2 e;simp only[a5R]at w1 w2 ⊢;exact w1.app w2
theorem FI{t g n:Nat}{fs:Array Field}{α:Type}{ps:α->List (PV X.Γ)}{Q:α->Prop}(ht:P.underlying t=some (.struct fs))(hc:P.cellsOf t=n)(hn:∀a,(ps a).length=n)(hf:RdF mD X P w g 0 fs.toList ps Q):RdP mD X P w (g+1) t ps Q:=fun d hd=>by
 obtain⟨ds,rfl,hl,Iq⟩:=a2T ht hd;obtain⟨a,qa,ha⟩:=hf ds (by simpa using hl) fun i f d e1 e2=>Iq i f d (by simpa using e1) e2;refine⟨a,qa,fun h=>?_⟩;obtain⟨xs,e1,g1,v1⟩:=ha h;have hx:xs.length=n:=by rw[<-(v1 []).1];exact hn a
 refine⟨xs,e1,?_,v1⟩;rw[Xa ht,g1];simp[hx,hc]
theorem RdP.iso{t g:Nat}{α β:Type}{ps:α->List (PV X.Γ)}{Q:α->Prop}(h:RdP mD X P w g t ps Q)(f:α->β){p2:β->List (PV X.Γ)}{Q2:β->Prop}(hp:∀a,p2 (f a)=ps a)(hq:∀a,Q a->Q2 (f a)):RdP mD X P w g t p2 Q2:=fun d hd=>by obtain⟨a,qa,ha⟩:=h d hd;exact⟨f a,hq a qa,fun h=>by rw[hp];exact ha h⟩
theorem aeV{T:qx}{L n f:Nat}{vs:List (PV X.Γ)}{xs:List TV}{h:List HB}(hc:nY X P (kR P T L (n+1)) f vs (PV.bool true) [])(hv:bU X P AT [] h vs xs):∃h',kR P T L (n+1) (TV.fn f [] []) xs h=some (TV.bool true,h',[]):=by
 obtain⟨x,h',m',c1,_,c3,_⟩:=hc AT h [] xs [] (fun _ _=>trivial) (by simpa using hv);have:x=TV.bool true:=by
  cases c3 with
  |bool=>rfl
  |gone hi _ _=>simp[bn]at hi
 subst this;exact⟨h',c1⟩
end
end Pv
namespace Go.Proofs.YtmobpoiejckagaaGreat
open Go Tw
structure B where
 lo:Int
 hi:Int
 f:Int
 deriving DecidableEq
structure O where
 code:Int
 a:Int
 b:Int
 c:Int
 n:Int
 deriving DecidableEq
structure K where
 name:ByteArray
 lo:Int
 hi:Int
structure V where
 f:Int
 n:Int
 deriving DecidableEq
abbrev B0:B:=⟨0,0,0⟩
abbrev O0:O:=⟨0,0,0,0,0⟩
abbrev K0:K:=⟨ByteArray.empty,0,0⟩
abbrev V0:V:=⟨0,0⟩
def pI(g:Int->Bool)(i:Nat)(x:Int)(s:Unit):(Unit)⊕(Nat×Int×(Unit)):=
 if(g x)=true then .inr (i,x,s)else .inl ()
def qZ(g:Int->Bool)(l:LI0):Int:=
 if(jP (mg (pI g) l 0 ()))=true then -1 else(((CX (0,0,()) (mg (pI g) l 0 ())).1:Int))
def mJ(g:Int->Bool)(l:LI0):Bool:=
 decide ((qZ g l)>=0)
theorem a6z(g:Int->Bool):∀(l:LI0) (i:Nat),jP (mg (pI g) l i ())=!(l.any g)
 | [],i=>rfl
 |x::l,i=>by
  simp only[mg,pI,adg];cases g x with
  |true=>rfl
  |false=>simpa using a6z g l (i+1)
theorem DZ(g:Int->Bool)(l:LI0):mJ g l=l.any g:=by
 have:=a6z g l 0;unfold mJ qZ;rw[this];cases l.any g with
 |true=>simp
 |false=>simp
def vN(x:Int)(lo:Int)(hi:Int):Bool:=
 if(decide ((x)<(lo)))=true then true else decide ((x)>(hi))
def mM(l:LI0)(lo:Int)(hi:Int):Bool:=
 !(l.any ((fun x=>vN x lo hi)))
theorem wrap_small{z:Int}(h0:-(2^62)<=z)(h1:z<2^62):i64.wrap z=z:=by
 simp only[IntKind.wrap,IntKind.bits,IntKind.signed];rcases Int.lt_or_le z 0 with h|h
 .have:z%(2^64:Int)=z+2^64:=by have:=abE z (2^64) 1;rw[abS]at this;rw[<-this];exact a8B (by omega) (by omega)
  simp only[this];rw[a0g (by simp;omega)];omega
 have:z%(2^64:Int)=z:=a8B h (by omega);simp only[this];rw[a0c (by simp;omega)]
def nT(k:Int)(least:Int)(ah:Int):Bool:=
 if(decide ((k)>=(least)))=true then decide ((k)<=(ah))else false
def fC(k:Int):V:=
 (⟨0,k⟩:V)
def lC(f:Int):V:=
 (⟨f,0⟩:V)
def ru(is:Bool):V:=
 if is=true then fC 1 else fC 0
def pV(k:Int):V:=
 if(decide ((k)<(-9999)))=true then lC 2 else if(decide ((k)>9999))=true then lC 2 else fC k
def Je(a:V)(b:V)(c:V):V:=
 if(decide ((a.f)>0))=true then a else if((a.n)==0)=true then c else b
def gu(a b:Int):Int:=if b<0 then(-a)/(-b)else a/b
def bH(code:Int)(a:V)(b:V):V:=
 if(decide ((a.f)>0))=true then a else if((code)==15)=true then if((a.n)==0)=true then a else if((code)==16)=true then if((a.n) != 0)=true then fC 1 else b else b else if((code)==16)=true then if((a.n) != 0)=true then fC 1 else b else if(decide ((b.f)>0))=true then b else if((code)==7)=true then pV (i64.wrap ((a.n)+(b.n)))else if((code)==8)=true then pV (i64.wrap ((a.n)-(b.n)))else if((code)==9)=true then pV (i64.wrap ((a.n)*(b.n)))else if((code)==12)=true then ru ((a.n)==(b.n))else if((code)==13)=true then ru (decide ((a.n)<(b.n)))else if((code)==14)=true then ru (decide ((a.n)<=(b.n)))else if((b.n)==0)=true then lC 1 else if((code)==10)=true then fC (gu (a.n) (b.n))else fC (i64.wrap ((a.n)-(i64.wrap ((b.n)*(gu (a.n) (b.n))))))
def jo(g:V->Bool)(i:Nat)(x:V)(s:Unit):(Unit)⊕(Nat×V×(Unit)):=
 if(g x)=true then .inr (i,x,s)else .inl ()
def iF(g:V->Bool)(l:List V):Int:=
 if(jP (mg (jo g) l 0 ()))=true then -1 else(((CX (0,V0,()) (mg (jo g) l 0 ())).1:Int))
def pW(g:V->Bool)(l:List V):Bool:=
 decide ((iF g l)>=0)
theorem a6A(g:V->Bool):∀(l:List V) (i:Nat),jP (mg (jo g) l i ())=!(l.any g)
 | [],i=>rfl
 |x::l,i=>by
  simp only[mg,jo,adg];cases g x with
  |true=>rfl
  |false=>simpa using a6A g l (i+1)
theorem Jf(g:V->Bool)(l:List V):pW g l=l.any g:=by
 have:=a6A g l 0;unfold pW iF;rw[this];cases l.any g with
 |true=>simp
 |false=>simp
theorem SA(g:V->Bool):∀(l:List V) (i:Nat),jP (mg (jo g) l i ())=false->(CX (0,V0,()) (mg (jo g) l i ())).1<i+l.length∧l[(CX (0,V0,()) (mg (jo g) l i ())).1-i]? = l.find? g∧i<=(CX (0,V0,()) (mg (jo g) l i ())).1
 | [],i,h=>by cases h
 |x::l,i,h=>by
  simp only[mg,jo]at h ⊢;by_cases hx:g x=true
  .simp only[hx,a1U,CX,a4b,agN];refine⟨by omega,by simp,by omega⟩
  simp only[adE]at hx;simp only[hx,a2i,a3g,a4b,agN]at h ⊢;obtain⟨h1,h2,h3⟩:=SA g l (i+1) h;refine⟨by omega,?_,by omega⟩;rw[<-h2,show(CX (0,V0,()) (mg (jo g) l (i+1) ())).1-i=((CX (0,V0,()) (mg (jo g) l (i+1) ())).1-(i+1))+1 by omega];simp
theorem Ql(g:V->Bool)(l:List V):iF g l<l.length:=by
 unfold iF;split
 .omega
 rename_i h;have:=(SA g l 0 (by simpa using h)).1;omega
def UF(x:Int):Bool:=
 (x) != (x)
def Jg(x:Int)(y:Int):Int:=
 if(decide ((x)<(y)))=true then -1 else if(decide ((x)>(y)))=true then 1 else 0
def Hq(f:Int):V:=
 (⟨f,0⟩:V)
def wL(x:Int)(lo:Int)(hi:Int):Bool:=
 if(decide ((x)<(lo)))=true then true else decide ((x)>(hi))
def zA(l:LI0)(lo:Int)(hi:Int):Bool:=
 !(l.any ((fun x=>wL x lo hi)))
def D9(v:V):Bool:=
 if((v.f)==0)=true then zA (([v.n]:LI0)) (-9999) 9999 else if(decide ((v.f)<=4))=true then(v.n)==0 else false
def oD(k:Int):V:=
 if(!(zA (([k]:LI0)) (-9999) 9999))=true then Hq 2 else(⟨0,k⟩:V)
def OQ(is:Bool):V:=
 if is=true then oD 1 else oD 0
def nU(v:V):Bool:=
 (v.f) != 0
def Am(v:V):Bool:=
 !(D9 v)
def bM(l:List V):V×Bool:=
 if(decide ((iF ((fun v=>nU v)) l)<0))=true then((⟨0,0⟩:V),false)else((l.getD (iF ((fun v=>nU v)) l).toNat V0),true)
def gY(l:List V):Bool:=
 !(l.any ((fun v=>Am v)))
def jF(a:V)(b:V)(c:V):V×Int:=
 if(!(gY (([a,b,c]:List V))))=true then((⟨0,0⟩:V),2)else if((a.f) != 0)=true then(a,0)else if((a.n)==0)=true then(c,0)else(b,0)
def Jh(a:Int)(b:Int):V:=
 oD (i64.wrap ((a)+(b)))
def Ji(a:Int)(b:Int):V:=
 oD (i64.wrap ((a)-(b)))
def Jj(a:Int)(b:Int):V:=
 oD (i64.wrap ((a)*(b)))
def Dc(a:Int)(b:Int):Int:=
 a
def Df(a:Int)(b:Int):Int:=
 b
def Dh(a:Int):Bool:=
 (a)==0
def Di(a:Int):Bool:=
 decide ((a)<0)
def Dj(a:Int):Bool:=
 decide ((a)<=0)
def uD(a:Int)(b:Int):Int×Int:=
 if((O6 .i64 (a) (b)) != 0)=true then if((decide ((O6 .i64 (a) (b))<0)) != (decide ((b)<0)))=true then(i64.wrap ((Ub .i64 (a) (b))-1),i64.wrap ((O6 .i64 (a) (b))+(b)))else(Ub .i64 (a) (b),O6 .i64 (a) (b))else(Ub .i64 (a) (b),O6 .i64 (a) (b))
def iG(g:Int->Int->Int)(a:Int)(b:Int):V:=
 if((b)==0)=true then Hq 1 else oD (g ((uD a b).1) ((uD a b).2))
def dP(g:Int->Bool)(a:Int)(b:Int):V:=
 OQ (g (Jg a b))
def rC(a:V)(b:V):V×Int:=
 if(!(gY (([a,b]:List V))))=true then((⟨0,0⟩:V),2)else if((bM (([a,b]:List V))).2)=true then((bM (([a,b]:List V))).1,0)else(Jh a.n b.n,0)
def rG(a:V)(b:V):V×Int:=
 if(!(gY (([a,b]:List V))))=true then((⟨0,0⟩:V),2)else if((bM (([a,b]:List V))).2)=true then((bM (([a,b]:List V))).1,0)else(Ji a.n b.n,0)
def rH(a:V)(b:V):V×Int:=
 if(!(gY (([a,b]:List V))))=true then((⟨0,0⟩:V),2)else if((bM (([a,b]:List V))).2)=true then((bM (([a,b]:List V))).1,0)else(Jj a.n b.n,0)
def oG(a:V)(b:V):V×Int:=
 if(!(gY (([a,b]:List V))))=true then((⟨0,0⟩:V),2)else if((bM (([a,b]:List V))).2)=true then((bM (([a,b]:List V))).1,0)else(iG Dc (a.n) (b.n),0)
def oH(a:V)(b:V):V×Int:=
 if(!(gY (([a,b]:List V))))=true then((⟨0,0⟩:V),2)else if((bM (([a,b]:List V))).2)=true then((bM (([a,b]:List V))).1,0)else(iG Df (a.n) (b.n),0)
def oJ(a:V)(b:V):V×Int:=
 if(!(gY (([a,b]:List V))))=true then((⟨0,0⟩:V),2)else if((bM (([a,b]:List V))).2)=true then((bM (([a,b]:List V))).1,0)else(dP Dh (a.n) (b.n),0)
def oK(a:V)(b:V):V×Int:=
 if(!(gY (([a,b]:List V))))=true then((⟨0,0⟩:V),2)else if((bM (([a,b]:List V))).2)=true then((bM (([a,b]:List V))).1,0)else(dP Di (a.n) (b.n),0)
def oL(a:V)(b:V):V×Int:=
 if(!(gY (([a,b]:List V))))=true then((⟨0,0⟩:V),2)else if((bM (([a,b]:List V))).2)=true then((bM (([a,b]:List V))).1,0)else(dP Dj (a.n) (b.n),0)
def sV(a:V)(b:V):V×Int:=
 ((jF a b (oD 0)).1,(jF a b (oD 0)).2)
def sW(a:V)(b:V):V×Int:=
 ((jF a (oD 1) b).1,(jF a (oD 1) b).2)
def gG(code:Int)(a b:V):V:=
 if code=7 then(rC a b).1 else if code=8 then(rG a b).1 else if code=9 then(rH a b).1 else if code=10 then(oG a b).1 else if code=11 then(oH a b).1 else if code=12 then(oJ a b).1 else if code=13 then(oK a b).1 else if code=14 then(oL a b).1 else if code=15 then(sV a b).1 else(sW a b).1
def Ht(code:Int)(a b:V):V×Int:=if code=7 then rC a b else if code=8 then rG a b else if code=9 then rH a b else if code=10 then oG a b else if code=11 then oH a b else if code=12 then oJ a b else if code=13 then oK a b else if code=14 then oL a b else if code=15 then sV a b else sW a b
theorem nine{p:Int}(h:7<=p∧p<=16):p=7∨p=8∨p=9∨p=10∨p=11∨p=12∨p=13∨p=14∨p=15∨p=16:=by omega
structure kL(v:V):Prop where
 f0:0<=v.f
 f1:v.f<=4
 n:v.f=0->-9999<=v.n∧v.n<=9999
 z:v.f≠0->v.n=0
theorem Xk(k:Int):zA [k] (-9999) 9999=(decide (-9999<=k)&&decide (k<=9999)):=by
 simp only[zA,wL,adg,List.any_nil,Bool.or_false];by_cases h:k < -9999
 .simp[h];omega
 by_cases h2:k>9999<;>simp[h,h2]<;>omega
theorem uF{v:V}(h:kL v):D9 v=true:=by
 obtain⟨f,n⟩:=v;have h0:=h.f0;have h1:=h.f1;have h2:=h.n;have h3:=h.z;simp only at h0 h1 h2 h3;unfold D9;simp only[Xk,a7r];by_cases hf:f=0
 .subst hf;simp;exact h2 rfl
 simp[hf,h1,h3 hf]
theorem aow{a b:V}(ha:kL a)(hb:kL b):(!(gY [a,b]))=false:=by simp[gY,Am,uF ha,uF hb]
theorem a6B{a b c:V}(ha:kL a)(hb:kL b)(hc:kL c):(!(gY [a,b,c]))=false:=by simp[gY,Am,uF ha,uF hb,uF hc]
theorem aeW(a b:V):bM [a,b]=if a.f≠0 then(a,true)else if b.f≠0 then(b,true)else(⟨0,0⟩,false):=by
 by_cases h:a.f=0
 .by_cases h2:b.f=0
  .simp[bM,iF,mg,jo,nU,jP,CX,h,h2]
  simp[bM,iF,mg,jo,nU,jP,CX,h,h2]
 simp[bM,iF,mg,jo,nU,jP,CX,h]
theorem vG(k:Int):oD k=pV k:=by
 unfold oD pV Hq lC fC;rw[Xk];by_cases h:k < -9999
 .rw[a0g (by simp;omega),a0g (by simpa using h)]
 rw[a0c (c:=decide (k < -9999)=true) (by simpa using h)];by_cases h2:k>9999
 .rw[a0g (by simp;omega),a0g (by simpa using h2)]
 rw[a0c (by simp;omega),a0c (by simpa using h2)]
theorem tC(k:Int):kL (pV k):=by
 unfold pV lC fC;split
 .exact⟨by decide,by decide,by simp,by simp⟩
 split
 .exact⟨by decide,by decide,by simp,by simp⟩
 rename_i h1 h2;simp at h1 h2;exact⟨by simp,by simp,fun _=>by simp only;omega,by simp⟩
theorem a3b(b:Bool):OQ b=ru b:=by cases b<;>rfl
theorem Jk(b:Bool):kL (ru b):=by cases b<;>exact⟨by decide,by decide,fun _=>by decide,by decide⟩
theorem a3c{a b:Int}(hb:b≠0):a.tmod b=0∨True->(gu a b=(if a.tmod b≠0∧(decide (a.tmod b<0) != decide (b<0))=true then a.tdiv b-1 else a.tdiv b))∧a-b*gu a b=(if a.tmod b≠0∧(decide (a.tmod b<0) != decide (b<0))=true then a.tmod b+b else a.tmod b)∧(a-b*gu a b).natAbs<b.natAbs:=by
 intro _;have hq:=@Int.tdiv_eq_ediv a b;have hr:=@Int.tmod_eq_emod a b;have hm:=Int.mul_ediv_add_emod a b;have h0:=agJ a hb;have h1:=Int.emod_lt a hb;have hd:b ∣ a↔a%b=0:=⟨Int.emod_eq_zero_of_dvd,Int.dvd_of_emod_eq_zero⟩;generalize a.tdiv b=T at *;generalize a.tmod b=R at *;generalize hE:a/b=e at *;generalize hM:a%b=m at *;unfold gu;have cT:0<=a∨b ∣ a->T=e∧R=m:=fun h=>by rw[a0g h]at hq hr;omega
 rcases Int.lt_or_gt_of_ne hb with zL|zL
 .rw[a0g zL];have hsg:b.sign=-1:=Int.sign_eq_neg_one_of_neg zL;have hna:(b.natAbs:Int)=-b:=by omega
  have cF:¬(0<=a∨b ∣ a)->T=e-1∧R=m+b:=fun h=>by rw[a0c h]at hq hr;omega
  rw[hna]at h1;by_cases QE:m=0
  .have u:=(Int.ediv_emod_unique (a:=-a) (b:=-b) (r:=0) (q:=e) (by omega)).2 ⟨by rw[Int.neg_mul];omega,by omega,by omega⟩;rw[u.1];obtain⟨c1,c2⟩:=cT (.inr (hd.2 QE));subst c1;subst c2;rw[a0c (by simp[QE]),a0c (by simp[QE])];omega
  have jy:¬b ∣ a:=fun h=>QE (hd.1 h);have e1:b*(e-1)=b*e-b:=by rw[Int.mul_sub,abS]
  have u:=(Int.ediv_emod_unique (a:=-a) (b:=-b) (r:=-b-m) (q:=e-1) (by omega)).2 ⟨by rw[Int.neg_mul,e1];omega,by omega,by omega⟩;rw[u.1,e1];by_cases ha:0<=a
  .obtain⟨c1,c2⟩:=cT (.inl ha);subst c1;subst c2;have hc:(R≠0∧(decide (R<0) != decide (b<0))=true):=⟨QE,by simp[zL];omega⟩;rw[a0g hc,a0g hc];omega
  obtain⟨c1,c2⟩:=cF (by simp[ha,jy]);have hc:¬(R≠0∧(decide (R<0) != decide (b<0))=true):=fun h=>by have:=h.2;simp[zL]at this;omega
  rw[a0c hc,a0c hc];omega
 rw[a0c (by omega),hE];have hsg:b.sign=1:=Int.sign_eq_one_of_pos zL;have hna:(b.natAbs:Int)=b:=by omega
 have cF:¬(0<=a∨b ∣ a)->T=e+1∧R=m-b:=fun h=>by rw[a0c h]at hq hr;omega
 rw[hna]at h1;by_cases hc0:0<=a∨b ∣ a
 .obtain⟨c1,c2⟩:=cT hc0;have hc:¬(R≠0∧(decide (R<0) != decide (b<0))=true):=fun h=>by have:=h.2;simp at this;omega
  rw[a0c hc,a0c hc];omega
 obtain⟨c1,c2⟩:=cF hc0;have QE:m≠0:=fun h=>hc0 (.inr (hd.2 h));have hc:(R≠0∧(decide (R<0) != decide (b<0))=true):=⟨by omega,by simp;omega⟩;rw[a0g hc,a0g hc];omega
theorem wr{z:Int}(h1:-1000000000<=z)(h2:z<=1000000000):i64.wrap z=z:=wrap_small (by omega) (by omega)
theorem Xl{a b:Int}(a0:-9999<=a)(a1:a<=9999)(b0:-9999<=b)(b1:b<=9999)(hb:b≠0):uD a b=(gu a b,a-b*gu a b)∧(-9999<=gu a b∧gu a b<=9999)∧(-9999<=a-b*gu a b∧a-b*gu a b<=9999)∧i64.wrap (a-i64.wrap (b*gu a b))=a-b*gu a b:=by
 obtain⟨h1,h2,h3⟩:=a3c (a:=a) hb (.inr trivial);have hna:(a.tdiv b).natAbs<=a.natAbs:=by rw[Int.natAbs_tdiv];exact Nat.div_le_self _ _
 have hq:Ub .i64 a b=a.tdiv b:=wr (by omega) (by omega);have hp:(b*gu a b).natAbs=b.natAbs*(gu a b).natAbs:=Int.natAbs_mul _ _;have hQ:(gu a b).natAbs<=9999:=by
  rcases a4d 9999 (gu a b).natAbs with h|h
  .have:=Nat.mul_le_mul_left b.natAbs (show 10000<=(gu a b).natAbs from h);generalize b*gu a b=p at *;generalize b.natAbs*(gu a b).natAbs=r at *;omega
  exact h
 refine⟨?_,by omega,by generalize b*gu a b=p at *;omega,?_⟩
 .unfold uD O6;rw[hq];have hw1:i64.wrap (a.tdiv b-1)=a.tdiv b-1:=wr (by omega) (by omega);have hrb:(a.tmod b).natAbs<=9999:=by rw[Int.natAbs_tmod];exact a4A (Nat.mod_le _ _) (by omega)
  have hw2:i64.wrap (a.tmod b+b)=a.tmod b+b:=wr (by omega) (by omega);rw[h2,h1,hw1,hw2];by_cases c1:a.tmod b=0
  .rw[a0c (by simp[c1]),a0c (by simp[c1]),a0c (by simp[c1])]
  rw[a0g (by simpa using c1)];by_cases c2:(decide (a.tmod b<0) != decide (b<0))=true
  .rw[a0g c2,a0g ⟨c1,c2⟩,a0g ⟨c1,c2⟩]
  rw[a0c c2,a0c (fun h=>c2 h.2),a0c (fun h=>c2 h.2)]
 rw[wr (z:=b*gu a b) (by generalize b*gu a b=p at *;omega) (by generalize b*gu a b=p at *;omega)];exact wr (by generalize b*gu a b=p at *;omega) (by generalize b*gu a b=p at *;omega)
theorem Xm{k:Int}(h1:-9999<=k)(h2:k<=9999):pV k=fC k:=by unfold pV;rw[a0c (by simp;omega),a0c (by simp;omega)]
theorem jB{g:Int->Int->V}{a b:V}(ha:kL a)(hb:kL b):(if(!(gY [a,b]))=true then((⟨0,0⟩:V),(2:Int))else if(bM [a,b]).2=true then((bM [a,b]).1,0)else(g a.n b.n,0)).1=if a.f≠0 then a else if b.f≠0 then b else g a.n b.n:=by
 rw[aow ha hb,aeW];by_cases h:a.f=0
 .by_cases h2:b.f=0<;>simp[h,h2]
 simp[h]
theorem Ap{a:V}(ha:kL a)(h:a.f≠0):decide (a.f>0)=true:=by have:=ha.f0;simp;omega
theorem OU{k:Int}(h1:-9999<=k)(h2:k<=9999):kL (fC k):=⟨by simp[fC],by simp[fC],fun _=>⟨h1,h2⟩,fun h=>by simp[fC]at h⟩
theorem div_eq{a b:V}(ha:kL a)(hb:kL b)(h:a.f=0)(h2:b.f=0):iG Dc a.n b.n=(if(b.n==0)=true then lC 1 else fC (gu a.n b.n))∧kL (if(b.n==0)=true then lC 1 else fC (gu a.n b.n)):=by
 have a9:=ha.n h;have b9:=hb.n h2;unfold iG Dc;by_cases hz:b.n=0
 .rw[a0g (by simpa using hz),a0g (by simpa using hz)];exact⟨rfl,⟨by decide,by decide,by decide,by decide⟩⟩
 obtain⟨q1,q2,_,_⟩:=Xl a9.1 a9.2 b9.1 b9.2 hz;rw[a0c (by simpa using hz),a0c (by simpa using hz),q1,vG,Xm q2.1 q2.2];exact⟨rfl,OU q2.1 q2.2⟩
theorem mod_eq{a b:V}(ha:kL a)(hb:kL b)(h:a.f=0)(h2:b.f=0):iG Df a.n b.n=(if(b.n==0)=true then lC 1 else fC (i64.wrap (a.n-i64.wrap (b.n*gu a.n b.n))))∧kL (if(b.n==0)=true then lC 1 else fC (i64.wrap (a.n-i64.wrap (b.n*gu a.n b.n)))):=by
 have a9:=ha.n h;have b9:=hb.n h2;unfold iG Df;by_cases hz:b.n=0
 .rw[a0g (by simpa using hz),a0g (by simpa using hz)];exact⟨rfl,⟨by decide,by decide,by decide,by decide⟩⟩
 obtain⟨q1,_,q3,q4⟩:=Xl a9.1 a9.2 b9.1 b9.2 hz;rw[a0c (by simpa using hz),a0c (by simpa using hz),q1,vG,q4,Xm q3.1 q3.2];exact⟨rfl,OU q3.1 q3.2⟩
theorem aeX(a b:Int):dP Dh a b=ru (a==b)∧dP Di a b=ru (decide (a<b))∧dP Dj a b=ru (decide (a<=b)):=by
 unfold dP Dh Di Dj Jg;simp only[a3b];rcases Int.lt_trichotomy a b with h|h|h
 .have:(a==b)=false:=by simp;omega
  simp[h,this,aey h]
 .subst h;simp
 have h1:¬a<b:=by omega
 have h2:(a==b)=false:=by simp;omega
 have h3:¬a<=b:=by omega
 simp[h,h1,h2,h3]
theorem aeY{k:Int}(h7:7<=k∧k<=16){a b:V}(ha:kL a)(hb:kL b):gG k a b=bH k a b∧kL (bH k a b):=by
 have e15:a.f=0->gG 15 a b=bH 15 a b∧kL (bH 15 a b):=fun h=>by
  rw[show gG 15 a b=(sV a b).1 from rfl,show bH 15 a b=(if(a.n==0)=true then a else b) by simp[bH,h]];unfold sV jF;rw[a6B ha hb (vG 0▸tC 0)];by_cases hz:a.n=0
  .have:a=⟨0,0⟩:=by obtain⟨f,n⟩:=a;simp only at h hz;rw[h,hz]
   subst this;exact⟨rfl,ha⟩
  simp[h,hz];exact hb
 have e16:a.f=0->gG 16 a b=bH 16 a b∧kL (bH 16 a b):=fun h=>by
  rw[show gG 16 a b=(sW a b).1 from rfl,show bH 16 a b=(if(a.n != 0)=true then fC 1 else b) by simp[bH,h]];unfold sW jF;rw[a6B ha (vG 1▸tC 1) hb];by_cases hz:a.n=0
  .simp[h,hz];exact hb
  simp[h,hz];exact⟨rfl,OU (by decide) (by decide)⟩
 by_cases h:a.f=0
 .by_cases h2:b.f=0
  .have d:=div_eq ha hb h h2;have m:=mod_eq ha hb h h2;have c:=aeX a.n b.n;rcases nine h7 with rfl|rfl|rfl|rfl|rfl|rfl|rfl|rfl|rfl|rfl
   .rw[show gG 7 a b=(rC a b).1 from rfl,show bH 7 a b=pV (i64.wrap (a.n+b.n)) by simp[bH,h,h2]];unfold rC;rw[jB (g:=fun x y=>Jh x y) ha hb];simp only[h,h2,ne_eq,a8i,a3g,Jh,vG];exact⟨trivial,tC _⟩
   .rw[show gG 8 a b=(rG a b).1 from rfl,show bH 8 a b=pV (i64.wrap (a.n-b.n)) by simp[bH,h,h2]];unfold rG;rw[jB (g:=fun x y=>Ji x y) ha hb];simp only[h,h2,ne_eq,a8i,a3g,Ji,vG];exact⟨trivial,tC _⟩
   .rw[show gG 9 a b=(rH a b).1 from rfl,show bH 9 a b=pV (i64.wrap (a.n*b.n)) by simp[bH,h,h2]];unfold rH;rw[jB (g:=fun x y=>Jj x y) ha hb];simp only[h,h2,ne_eq,a8i,a3g,Jj,vG];exact⟨trivial,tC _⟩
   .rw[show gG 10 a b=(oG a b).1 from rfl,show bH 10 a b=(if(b.n==0)=true then lC 1 else fC (gu a.n b.n)) by simp[bH,h,h2]];unfold oG;rw[jB (g:=fun x y=>iG Dc x y) ha hb];simp only[h,h2,ne_eq,a8i,a3g];exact d
   .rw[show gG 11 a b=(oH a b).1 from rfl,show bH 11 a b=(if(b.n==0)=true then lC 1 else fC (i64.wrap (a.n-i64.wrap (b.n*gu a.n b.n)))) by simp[bH,h,h2]];unfold oH;rw[jB (g:=fun x y=>iG Df x y) ha hb];simp only[h,h2,ne_eq,a8i,a3g];exact m
   .rw[show gG 12 a b=(oJ a b).1 from rfl,show bH 12 a b=ru (a.n==b.n) by simp[bH,h,h2]];unfold oJ;rw[jB (g:=fun x y=>dP Dh x y) ha hb];simp only[h,h2,ne_eq,a8i,a3g];exact⟨c.1,Jk _⟩
   .rw[show gG 13 a b=(oK a b).1 from rfl,show bH 13 a b=ru (decide (a.n<b.n)) by simp[bH,h,h2]];unfold oK;rw[jB (g:=fun x y=>dP Di x y) ha hb];simp only[h,h2,ne_eq,a8i,a3g];exact⟨c.2.1,Jk _⟩
   .rw[show gG 14 a b=(oL a b).1 from rfl,show bH 14 a b=ru (decide (a.n<=b.n)) by simp[bH,h,h2]];unfold oL;rw[jB (g:=fun x y=>dP Dj x y) ha hb];simp only[h,h2,ne_eq,a8i,a3g];exact⟨c.2.2,Jk _⟩
   .exact e15 h
   exact e16 h
  rcases nine h7 with rfl|rfl|rfl|rfl|rfl|rfl|rfl|rfl|rfl|rfl
  .rw[show gG 7 a b=(rC a b).1 from rfl,show bH 7 a b=b by simp[bH,h,Ap hb h2]];unfold rC;rw[jB (g:=fun x y=>Jh x y) ha hb];simp only[h,h2,ne_eq,a8i,a4O,a3g,a1U];exact⟨trivial,hb⟩
  .rw[show gG 8 a b=(rG a b).1 from rfl,show bH 8 a b=b by simp[bH,h,Ap hb h2]];unfold rG;rw[jB (g:=fun x y=>Ji x y) ha hb];simp only[h,h2,ne_eq,a8i,a4O,a3g,a1U];exact⟨trivial,hb⟩
  .rw[show gG 9 a b=(rH a b).1 from rfl,show bH 9 a b=b by simp[bH,h,Ap hb h2]];unfold rH;rw[jB (g:=fun x y=>Jj x y) ha hb];simp only[h,h2,ne_eq,a8i,a4O,a3g,a1U];exact⟨trivial,hb⟩
  .rw[show gG 10 a b=(oG a b).1 from rfl,show bH 10 a b=b by simp[bH,h,Ap hb h2]];unfold oG;rw[jB (g:=fun x y=>iG Dc x y) ha hb];simp only[h,h2,ne_eq,a8i,a4O,a3g,a1U];exact⟨trivial,hb⟩
  .rw[show gG 11 a b=(oH a b).1 from rfl,show bH 11 a b=b by simp[bH,h,Ap hb h2]];unfold oH;rw[jB (g:=fun x y=>iG Df x y) ha hb];simp only[h,h2,ne_eq,a8i,a4O,a3g,a1U];exact⟨trivial,hb⟩
  .rw[show gG 12 a b=(oJ a b).1 from rfl,show bH 12 a b=b by simp[bH,h,Ap hb h2]];unfold oJ;rw[jB (g:=fun x y=>dP Dh x y) ha hb];simp only[h,h2,ne_eq,a8i,a4O,a3g,a1U];exact⟨trivial,hb⟩
  .rw[show gG 13 a b=(oK a b).1 from rfl,show bH 13 a b=b by simp[bH,h,Ap hb h2]];unfold oK;rw[jB (g:=fun x y=>dP Di x y) ha hb];simp only[h,h2,ne_eq,a8i,a4O,a3g,a1U];exact⟨trivial,hb⟩
  .rw[show gG 14 a b=(oL a b).1 from rfl,show bH 14 a b=b by simp[bH,h,Ap hb h2]];unfold oL;rw[jB (g:=fun x y=>dP Dj x y) ha hb];simp only[h,h2,ne_eq,a8i,a4O,a3g,a1U];exact⟨trivial,hb⟩
  .exact e15 h
  exact e16 h
 rcases nine h7 with rfl|rfl|rfl|rfl|rfl|rfl|rfl|rfl|rfl|rfl
 .rw[show gG 7 a b=(rC a b).1 from rfl,show bH 7 a b=a by simp[bH,Ap ha h]];unfold rC;rw[jB (g:=fun x y=>Jh x y) ha hb];simp only[h,ne_eq,a8i,a4O,a1U];exact⟨trivial,ha⟩
 .rw[show gG 8 a b=(rG a b).1 from rfl,show bH 8 a b=a by simp[bH,Ap ha h]];unfold rG;rw[jB (g:=fun x y=>Ji x y) ha hb];simp only[h,ne_eq,a8i,a4O,a1U];exact⟨trivial,ha⟩
 .rw[show gG 9 a b=(rH a b).1 from rfl,show bH 9 a b=a by simp[bH,Ap ha h]];unfold rH;rw[jB (g:=fun x y=>Jj x y) ha hb];simp only[h,ne_eq,a8i,a4O,a1U];exact⟨trivial,ha⟩
 .rw[show gG 10 a b=(oG a b).1 from rfl,show bH 10 a b=a by simp[bH,Ap ha h]];unfold oG;rw[jB (g:=fun x y=>iG Dc x y) ha hb];simp only[h,ne_eq,a8i,a4O,a1U];exact⟨trivial,ha⟩
 .rw[show gG 11 a b=(oH a b).1 from rfl,show bH 11 a b=a by simp[bH,Ap ha h]];unfold oH;rw[jB (g:=fun x y=>iG Df x y) ha hb];simp only[h,ne_eq,a8i,a4O,a1U];exact⟨trivial,ha⟩
 .rw[show gG 12 a b=(oJ a b).1 from rfl,show bH 12 a b=a by simp[bH,Ap ha h]];unfold oJ;rw[jB (g:=fun x y=>dP Dh x y) ha hb];simp only[h,ne_eq,a8i,a4O,a1U];exact⟨trivial,ha⟩
 .rw[show gG 13 a b=(oK a b).1 from rfl,show bH 13 a b=a by simp[bH,Ap ha h]];unfold oK;rw[jB (g:=fun x y=>dP Di x y) ha hb];simp only[h,ne_eq,a8i,a4O,a1U];exact⟨trivial,ha⟩
 .rw[show gG 14 a b=(oL a b).1 from rfl,show bH 14 a b=a by simp[bH,Ap ha h]];unfold oL;rw[jB (g:=fun x y=>dP Dj x y) ha hb];simp only[h,ne_eq,a8i,a4O,a1U];exact⟨trivial,ha⟩
 .rw[show gG 15 a b=(sV a b).1 from rfl,show bH 15 a b=a by simp[bH,Ap ha h]];unfold sV jF;rw[a6B ha hb (vG 0▸tC 0)];simp[h];exact ha
 rw[show gG 16 a b=(sW a b).1 from rfl,show bH 16 a b=a by simp[bH,Ap ha h]];unfold sW jF;rw[a6B ha (vG 1▸tC 1) hb];simp[h];exact ha
theorem a3d{a b c:V}(ha:kL a)(hb:kL b)(hc:kL c):(jF a b c).1=Je a b c∧kL (Je a b c):=by
 unfold jF Je;rw[a6B ha hb hc];by_cases h:a.f=0
 .by_cases hz:a.n=0
  .simp[h,hz];exact hc
  simp[h,hz];exact hb
 have:=Ap ha h;simp only[a1o]at this;simp[h,this];exact ha
open Go.Shelf
def a3e:Go.Shelf.Ren:=⟨fun| 189=>137| 125=>180| 257=>179| 128=>216| 129=>217| 294=>207| 295=>208| 296=>209| 297=>210| 298=>211| 299=>212| 216=>213| 300=>214| 301=>215| 328=>229| 329=>230| 330=>231| 331=>232| 332=>233| 215=>219| 343=>235|n=>n,fun| 28=>22| 3=>3| 46=>184| 0=>0| 51=>204| 53=>207| 4=>4| 183=>212| 182=>211| 131=>152| 5=>5| 9=>9| 218=>227| 222=>231| 228=>233| 229=>192|n=>n,fun|n=>n⟩
theorem abX:Lays.n189 Tryz.prog a3e where
 mixed:=by kernel_rfl
 f125:=Tryz.func180.trans (congrArg some (by kernel_rfl))
 f128:=Tryz.func216.trans (congrArg some (by kernel_rfl))
 f129:=Tryz.func217.trans (congrArg some (by kernel_rfl))
 f189:=Tryz.func137.trans (congrArg some (by kernel_rfl))
 f215:=Tryz.func219.trans (congrArg some (by kernel_rfl))
 f216:=Tryz.func213.trans (congrArg some (by kernel_rfl))
 f257:=Tryz.func179.trans (congrArg some (by kernel_rfl))
 f294:=Tryz.func207.trans (congrArg some (by kernel_rfl))
 f295:=Tryz.func208.trans (congrArg some (by kernel_rfl))
 f296:=Tryz.func209.trans (congrArg some (by kernel_rfl))
 f297:=Tryz.func210.trans (congrArg some (by kernel_rfl))
 f298:=Tryz.func211.trans (congrArg some (by kernel_rfl))
 f299:=Tryz.func212.trans (congrArg some (by kernel_rfl))
 f300:=Tryz.func214.trans (congrArg some (by kernel_rfl))
 f301:=Tryz.func215.trans (congrArg some (by kernel_rfl))
 f328:=Tryz.func229.trans (congrArg some (by kernel_rfl))
 f329:=Tryz.func230.trans (congrArg some (by kernel_rfl))
 f330:=Tryz.func231.trans (congrArg some (by kernel_rfl))
 f331:=Tryz.func232.trans (congrArg some (by kernel_rfl))
 f332:=Tryz.func233.trans (congrArg some (by kernel_rfl))
 f343:=Tryz.func235.trans (congrArg some (by kernel_rfl))
 t0:=Tryz.underlying0
 a0:=Tryz.isAgg0
 z0:=Tryz.sizeOf0
 v0:=Tryz.zeroValue0
 t3:=Tryz.underlying3
 a3:=Tryz.isAgg3
 z3:=Tryz.sizeOf3
 v3:=Tryz.zeroValue3
 t4:=Tryz.underlying4
 a4:=Tryz.isAgg4
 z4:=Tryz.sizeOf4
 v4:=Tryz.zeroValue4
 t5:=Tryz.underlying5
 a5:=Tryz.isAgg5
 z5:=Tryz.sizeOf5
 v5:=Tryz.zeroValue5
 t9:=Tryz.underlying9
 a9:=Tryz.isAgg9
 z9:=Tryz.sizeOf9
 v9:=Tryz.zeroValue9
 t28:=Tryz.underlying22
 a28:=Tryz.isAgg22
 z28:=Tryz.sizeOf22
 v28:=Tryz.zeroValue22
 t46:=Tryz.underlying184
 a46:=Tryz.isAgg184
 z46:=Tryz.sizeOf184
 v46:=Tryz.zeroValue184
 t51:=Tryz.underlying204
 a51:=Tryz.isAgg204
 z51:=Tryz.sizeOf204
 v51:=Tryz.zeroValue204
 t53:=Tryz.underlying207
 a53:=Tryz.isAgg207
 z53:=Tryz.sizeOf207
 v53:=Tryz.zeroValue207
 t131:=Tryz.underlying152
 a131:=Tryz.isAgg152
 z131:=Tryz.sizeOf152
 v131:=Tryz.zeroValue152
 t182:=Tryz.underlying211
 a182:=Tryz.isAgg211
 z182:=Tryz.sizeOf211
 v182:=Tryz.zeroValue211
 t183:=Tryz.underlying212
 a183:=Tryz.isAgg212
 z183:=Tryz.sizeOf212
 v183:=Tryz.zeroValue212
 t218:=Tryz.underlying227
 a218:=Tryz.isAgg227
 z218:=Tryz.sizeOf227
 v218:=Tryz.zeroValue227
 t222:=Tryz.underlying231
 a222:=Tryz.isAgg231
 z222:=Tryz.sizeOf231
 v222:=Tryz.zeroValue231
 t228:=Tryz.underlying233
 a228:=Tryz.isAgg233
 z228:=Tryz.sizeOf233
 v228:=Tryz.zeroValue233
 t229:=Tryz.underlying192
 a229:=Tryz.isAgg192
 z229:=Tryz.sizeOf192
 v229:=Tryz.zeroValue192
def Tb:Tw.qx:={
 live:=[(6,[(0,[0]),(1,[0,15]),(2,[2]),(3,[0,3,4]),(4,[0,3,4,5,6]),(5,[0,3,4,5,6,7]),(6,[0,3,4,5,6,7,38]),(7,[0,3,4,5,6,7]),(8,[0,3,4,5,6,7,40]),(9,[3,4,5,6,7]),(10,[3,4,5,6,7,49]),(11,[3,4,5,6,7]),(12,[3,4,5,6,7,51]),(13,[2]),(14,[2])]),
  (18,[(0,[1]),(1,[1,21]),(2,[2]),(3,[1,3]),(4,[1,3,26]),(5,[1,3]),(6,[1,3,36]),(7,[2]),(8,[2])]),
  (19,[(0,[]),(1,[1,2]),(2,[1,2,3,4]),(3,[1,2,3,4,5,6]),(4,[1,2,3,4,5,6,7,8]),(5,[1,2,3,4,5,6,7,8,9,10]),(6,[1,2,3,4,5,6,7,8,9,10,11,12]),(7,[1,2,3,4,5,6,7,8,9,10,11,12,13,14]),(8,[1,2,3,4,5,6,7,8,9,10,11,12,13,14,15,16]),(9,[1,2,3,4,5,6,7,8,9,10,11,12,13,14,16,17,18]),(10,[1,2,3,4,5,6,7,8,9,10,11,12,13,14,16,17,18,19,20]),(11,[1,3,4,5,6,7,8,9,10,11,12,13,14,16,17,18,20,21,22]),(12,[0])]),
  (20,[(0,[1,2,3,6]),(1,[1,2,3,6,8]),(2,[1,2,3,6,8,14]),(3,[6,7]),(4,[1,2,3,6,34]),(5,[6,7]),(6,[1,2,6,9]),(7,[6,9]),(8,[6,7])]),
  (21,[(0,[1,2]),(1,[1,2,3]),(2,[1,2,3,4]),(3,[1,2,3,4,21]),(4,[1,2,3,4]),(5,[1,2,3,4]),(6,[2])]),
  (22,[(0,[1]),(1,[1,3]),(2,[1,3,7]),(3,[2]),(4,[11]),(5,[2]),(6,[2])]),
  (23,[(0,[0,1,2]),(1,[6])]),
  (25,[(0,[1,3,5]),(1,[6])]),
  (27,[(0,[2,3]),(1,[3,6,7]),(2,[3,6,7,15]),(3,[4,5]),(4,[4,5])]),
  (28,[(0,[2,3]),(1,[3,6,7]),(2,[3,6,7,17]),(3,[4,5]),(4,[3,6,21]),(5,[4,5]),(6,[3,6,29,30,31]),(7,[3,6,29,30,31,32]),(8,[3,6,8,9,29,30,31]),(9,[3,6,8,29,30,31,36,37]),(10,[3,6,8,29,30,31,36,37,38]),(11,[3,6,8,10,29,30,31,36,37]),(12,[3,6,8,29,30,31,36,37]),(13,[3,6,8,29,30,31,36,37,49]),(14,[3,6,8,29,30,31,36,37]),(15,[3,6,29,30,31]),(16,[4,5])]),
  (29,[(0,[1]),(1,[1,5]),(2,[2]),(3,[2])]),
  (32,[(0,[0,1]),(1,[0,1,10]),(2,[4]),(3,[0,1,5]),(4,[0,1,5,14]),(5,[0,1,5]),(6,[0,1,5,25]),(7,[4]),(8,[4])]),
  (33,[(0,[0,4,5,6]),(1,[0,4,5,6,8]),(2,[0,4,5,6,8,17]),(3,[6,7]),(4,[0,4,5,6,25]),(5,[6,7]),(6,[0,6,9]),(7,[0,6,9]),(8,[0,6,9,36]),(9,[6]),(10,[6,7]),(11,[0,6,9,10,11]),(12,[6,9,10,11,44]),(13,[6]),(14,[6,9,10,11,44,49]),(15,[6]),(16,[6,9,10,11,44,58]),(17,[6]),(18,[6,9,10,11,44,65]),(19,[6]),(20,[6,10,11,71]),(21,[6,10]),(22,[6,10]),(23,[6,10,81]),(24,[6]),(25,[6,7])]),
  (34,[(0,[0]),(1,[0,3]),(2,[0,3,9]),(3,[0,3]),(4,[0,3,4]),(5,[0,3,4,18]),(6,[2]),(7,[0,5]),(8,[0,5,23]),(9,[0,5]),(10,[0,5,34]),(11,[2]),(12,[2])]),
  (35,[(0,[2,3]),(1,[2,3,69]),(2,[4]),(3,[2,3,5]),(4,[2,3,5,74]),(5,[2,3,5]),(6,[2,3,5,87]),(7,[4]),(8,[4])]),
  (37,[(0,[2,3]),(1,[2,3,5]),(2,[5,6,7]),(3,[5,6,7,8]),(4,[5,6,7,8,22]),(5,[5,6,7,8]),(6,[5,6,7,8,29]),(7,[5,6,7,8]),(8,[4])]),
  (38,[(0,[0]),(1,[0,3]),(2,[0,3,11]),(3,[0,3]),(4,[0,3,19]),(5,[2]),(6,[2])]),
  (39,[(0,[0,3,4]),(1,[0,3,4,12]),(2,[4,5]),(3,[0,3,4,5]),(4,[0,3,4,5,20]),(5,[4,5]),(6,[0,3,4,25]),(7,[4,5]),(8,[0,3,4]),(9,[3,4,31,32,33]),(10,[3,4,31,32,33,34]),(11,[3,4,6,7,31,32,33]),(12,[3,4,6,8,31,32,33]),(13,[3,4,6,8,31,32,33,45]),(14,[4]),(15,[4,5]),(16,[3,4,6,9,31,32,33]),(17,[3,4,6,9,31,32,33,59]),(18,[3,4,31,32,33]),(19,[3,4,31,32,33]),(20,[4,5])]),
  (40,[(0,[0]),(1,[0,3]),(2,[0,3,4]),(3,[0,3,4,8]),(4,[0,3,4]),(5,[0,3,4]),(6,[2])]),
  (41,[(0,[0,3,4]),(1,[0,3,4,5]),(2,[0,3,4,5,14]),(3,[4,5]),(4,[4]),(5,[0,3,4,5,6]),(6,[0,3,4,5,6,7]),(7,[0,3,4,5,6,7,20]),(8,[0,3,4,5,6,7]),(9,[0,3,4,5,6,7,8]),(10,[0,3,4,5,6,7,8,37]),(11,[0,3,4,5,6,7]),(12,[4,5]),(13,[4])]),
  (44,[(0,[1]),(1,[1,3]),(2,[1,3,7]),(3,[2]),(4,[1,3,4]),(5,[1,3,4,12]),(6,[1,3,4]),(7,[1,3,4]),(8,[2])]),
  (45,[(0,[0,4,5,6]),(1,[0,4,5,6,11]),(2,[0,4,5,6,11,12]),(3,[6,7]),(4,[0,4,5,6,20]),(5,[6,7]),(6,[4,5,6,8]),(7,[4,5,6,8,38]),(8,[6,7]),(9,[4,5,6,8,9,10]),(10,[4,5,6,8,9,47]),(11,[6,7]),(12,[6,7])]),
  (48,[(0,[0,2]),(1,[2])]),
  (49,[(0,[0]),(1,[2])]),
  (53,[(0,[0,1]),(1,[0,1,5]),(2,[0,1,5,6]),(3,[0,1,5,6,14]),(4,[0,1,5,6]),(5,[0,1,5,6]),(6,[0,1,5,6]),(7,[4])]),
  (54,[(0,[0,1]),(1,[0,1,12]),(2,[4]),(3,[4])]),
  (57,[(0,[0,1,2,3,8]),(1,[0,1,2,3,8,10]),(2,[0,1,2,3,8,10,17]),(3,[8,9]),(4,[0,1,2,3,8,36]),(5,[8,9]),(6,[0,2,3,8,11]),(7,[3,8,11,47,48]),(8,[3,8,11,47,48,49]),(9,[3,8,11,12,47,48]),(10,[3,8,11,12,47,48]),(11,[3,8,11,47,48]),(12,[3,8,11,47,48]),(13,[8,9])]),
  (58,[(0,[0,1]),(1,[0,1,8]),(2,[4]),(3,[0,1,5]),(4,[0,1,5,12]),(5,[0,1,5]),(6,[0,1,5,20]),(7,[4]),(8,[0,1,23]),(9,[4]),(10,[27]),(11,[4]),(12,[4])]),
  (62,[(0,[3,4,5,6]),(1,[3,4,5,6,8]),(2,[3,4,5,6,8,16]),(3,[6,7]),(4,[3,4,5,6,10]),(5,[3,4,5,6,10,27]),(6,[6,7]),(7,[6,7])]),
  (63,[(0,[3,4,5,6]),(1,[3,4,5,6,8]),(2,[3,4,5,6,8,15]),(3,[6,7]),(4,[6,7])]),
  (67,[(0,[1,2]),(1,[1,2,4]),(2,[1,2,4,9]),(3,[2,3]),(4,[2,3])]),
  (70,[(0,[2,3]),(1,[4])]),
  (72,[(0,[2,3]),(1,[2,3,43]),(2,[4]),(3,[2,3,5]),(4,[2,3,5,48]),(5,[2,3,5]),(6,[2,3,5,79]),(7,[4]),(8,[4])]),
  (73,[(0,[0,1]),(1,[0,1,2]),(2,[0,1,2,3]),(3,[0,1])]),
  (74,[(0,[1,2,3]),(1,[1,2,3,7]),(2,[1,2,3,7,8]),(3,[1,2,3,7,8,12]),(4,[1,2,3,7,8]),(5,[1,2,3,7,8]),(6,[6])]),
  (75,[(0,[0,1]),(1,[0,1,10]),(2,[4]),(3,[0,1,5]),(4,[0,1,5,14]),(5,[0,1,5]),(6,[0,1,5,25]),(7,[4]),(8,[4])]),
  (76,[(0,[0]),(1,[0,6,7,8]),(2,[0,6,7,8,9]),(3,[0,4,6,7,8]),(4,[0,5,6,7,8]),(5,[0,5,6,7,8,15]),(6,[2]),(7,[0,6,7,8]),(8,[30]),(9,[2]),(10,[2])]),
  (77,[(0,[0,1,2]),(1,[6])]),
  (78,[(0,[0,1,4]),(1,[4])]),
  (79,[(0,[0,2]),(1,[2])]),
  (80,[(0,[1,2]),(1,[1,2,3]),(2,[1,2,3,4]),(3,[1,2,3,4,5]),(4,[1,2,3,5]),(5,[2,3]),(6,[2,6]),(7,[2])]),
  (81,[(0,[0]),(1,[2])]),
  (82,[(0,[0]),(1,[2])]),
  (83,[(0,[1]),(1,[1,3]),(2,[1,3,10]),(3,[2]),(4,[1,15]),(5,[2]),(6,[18]),(7,[2]),(8,[2])]),
  (84,[(0,[1]),(1,[1,3]),(2,[1,3,13]),(3,[1,3]),(4,[1,3,4]),(5,[1,3,4,18]),(6,[1,3,4]),(7,[1,3,4,31]),(8,[2]),(9,[1,5]),(10,[1,5,36]),(11,[1,5]),(12,[1,5,44]),(13,[2]),(14,[1,5,6]),(15,[1,5,6,47]),(16,[1,5,6]),(17,[1,5,6,77]),(18,[2]),(19,[1,7,8]),(20,[2])]),
  (86,[(0,[2,3,4]),(1,[2,3,4,6]),(2,[2,3,4,6,11]),(3,[4,5]),(4,[2,4,16]),(5,[4,5]),(6,[4,5])]),
  (87,[(0,[1,2]),(1,[1,2,3]),(2,[2,3,8]),(3,[3,4,10]),(4,[3,4,5]),(5,[3,4,5,15]),(6,[]),(7,[2])]),
  (88,[(0,[0,2,3]),(1,[2,3,6]),(2,[2,3,6,8]),(3,[2,3,4,6]),(4,[2,3,4,6,13]),(5,[2,3,6]),(6,[2,3,6]),(7,[2,3]),(8,[2,3])]),
  (89,[(0,[0]),(1,[0])]),
  (90,[(0,[0,2]),(1,[2,6]),(2,[2,6,8]),(3,[2,4,6]),(4,[2,6]),(5,[2])]),
  (91,[(0,[1]),(1,[2])]),
  (93,[(0,[0]),(1,[2])]),
  (94,[(0,[0]),(1,[0,7]),(2,[0]),(3,[0,3]),(4,[0,3,4]),(5,[0,3,4,15]),(6,[0,3,4]),(7,[0,3,4]),(8,[2])]),
  (95,[(0,[0]),(1,[2])]),
  (96,[(0,[1]),(1,[2])]),
  (97,[(0,[0]),(1,[0,3]),(2,[0,3,4]),(3,[0,3,4,10]),(4,[0,3,4]),(5,[0,3,4,5]),(6,[0,3,4,5,6]),(7,[0,3,4,5,6,16]),(8,[0,3,4,5,6]),(9,[0,3,4,5,6,27]),(10,[0,3,4,5,6]),(11,[0,3,4]),(12,[2])]),
  (98,[(0,[1,2,4]),(1,[1,2,4,5]),(2,[1,2,4,5,9]),(3,[1,2,4,5]),(4,[4])]),
  (99,[(0,[3,4,5,6]),(1,[3,4,5,6,8]),(2,[6,7]),(3,[3,4,5,6,16]),(4,[6,7]),(5,[4,5,6,21]),(6,[6,7]),(7,[6,7])]),
  (100,[(0,[0,2]),(1,[0,2,6]),(2,[2]),(3,[2])]),
  (101,[(0,[0]),(1,[3]),(2,[3,4]),(3,[2]),(4,[3,6]),(5,[2]),(6,[3,8]),(7,[2]),(8,[3,10]),(9,[2]),(10,[3,13]),(11,[2]),(12,[3,16]),(13,[2]),(14,[3,19]),(15,[2]),(16,[22]),(17,[2]),(18,[2])]),
  (102,[(0,[0]),(1,[2])]),
  (103,[(0,[0,2]),(1,[0,2,4]),(2,[0,2,4,8]),(3,[2,3]),(4,[2,3])]),
  (104,[(0,[0,1]),(1,[0,1,5]),(2,[0,5,6]),(3,[0,5,6,11]),(4,[0,5,6]),(5,[0,5,6]),(6,[4])]),
  (105,[(0,[0,1]),(1,[0,1,9]),(2,[4]),(3,[0,1,13]),(4,[4]),(5,[0,1,5]),(6,[0,1,5,17,18,19]),(7,[0,1,5,17,18,19,20]),(8,[0,1,5,7,17,18,19]),(9,[0,1,5,17,18,19]),(10,[0,1,5,17,18,19]),(11,[0,1,28]),(12,[4]),(13,[0,8]),(14,[0,8]),(15,[38]),(16,[4]),(17,[4])]),
  (106,[(0,[1]),(1,[5]),(2,[2]),(3,[2])]),
  (108,[(0,[1,2]),(1,[2,4,5]),(2,[2,4,5,12]),(3,[2,3]),(4,[2,3])]),
  (109,[(0,[0,1]),(1,[0,1,11]),(2,[4]),(3,[0,1,5]),(4,[0,1,5,15]),(5,[0,1,5]),(6,[0,1,5,26]),(7,[4]),(8,[0,1,5,6]),(9,[0,1,5,6,29]),(10,[0,1,5,6]),(11,[0,1,5,6,40]),(12,[4]),(13,[4])]),
  (112,[(0,[0,1,3]),(1,[3,4]),(2,[3])]),
  (113,[(0,[0,2]),(1,[2,3]),(2,[2])]),
  (117,[(0,[0,2]),(1,[2,4]),(2,[2]),(3,[2])]),
  (121,[(0,[1]),(1,[4]),(2,[2])]),
  (122,[(0,[1,2]),(1,[4])]),
  (123,[(0,[2,3]),(1,[4])]),
  (124,[(0,[0,1]),(1,[0,1,10]),(2,[0,1]),(3,[0,5,6]),(4,[0,6,26]),(5,[0,6]),(6,[0,7]),(7,[7,8]),(8,[7,8,37]),(9,[7,8]),(10,[4])]),
  (125,[(0,[0]),(1,[0,4]),(2,[2]),(3,[2])]),
  (126,[(0,[1,2,3,4,5,6]),(1,[1,2,3,4,5,6,32]),(2,[1,2,3,4,5,6]),(3,[1,2,3,4,5,6,40]),(4,[3]),(5,[8]),(6,[1,2,3,4,5,6,9]),(7,[1,2,3,4,5,6,9,10]),(8,[1,2,3,4,5,6,9,10,68]),(9,[8]),(10,[1,2,3,4,5,6,9,11,12]),(11,[1,2,3,4,5,6,9,11,84]),(12,[8]),(13,[1,2,3,4,5,6,9,13]),(14,[1,2,3,4,5,6,9,13,93,94]),(15,[1,2,3,4,5,6,9,13,93,94,95]),(16,[1,2,3,4,5,6,9,13,14,93,94]),(17,[1,2,3,4,5,6,9,13,93,94]),(18,[1,2,3,4,5,6,9,13,93,94]),(19,[3,5,6,13]),(20,[5,6]),(21,[8])]),
  (127,[(0,[2,3,4]),(1,[2,4,10,11,12]),(2,[2,4,10,11,12,13]),(3,[2,4,7,8,10,11,12]),(4,[2,4,10,11,12,32]),(5,[6]),(6,[2,4,10,11,12]),(7,[6])]),
  (128,[(0,[2,3,4]),(1,[3,4,8,9,10]),(2,[3,4,8,9,10,11]),(3,[3,4,5,6,8,9,10]),(4,[3,4,8,9,10]),(5,[3,4,8,9,10]),(6,[4])]),
  (129,[(0,[2,3,4,5,8]),(1,[2,3,5,8,12,13,14]),(2,[2,3,5,8,12,13,14,15]),(3,[2,3,5,8,9,10,12,13,14]),(4,[2,3,5,8,9,10,12,13,14,34]),(5,[2,3,5,8,12,13,14]),(6,[2,3,5,8,12,13,14]),(7,[8])]),
  (130,[(0,[1,2]),(1,[2,6,7,8]),(2,[2,6,7,8,9]),(3,[2,3,4,6,7,8]),(4,[2,6,7,8]),(5,[2,6,7,8]),(6,[2])]),
  (131,[(0,[1]),(1,[1,3]),(2,[1,3,11]),(3,[1,3]),(4,[1,3,20]),(5,[2]),(6,[1,4]),(7,[1,4,25]),(8,[1,4]),(9,[1,4,5]),(10,[1,4,5,52]),(11,[2]),(12,[1,4,5,6]),(13,[1,4,5,6,57]),(14,[1,4,5,6]),(15,[1,4,5,6,81]),(16,[2]),(17,[2])]),
  (132,[(0,[1]),(1,[1,3]),(2,[1,3,8]),(3,[1,3]),(4,[1,3,20]),(5,[2]),(6,[2])]),
  (133,[(0,[1,2,3,4]),(1,[1,2,3,4,13]),(2,[1,2,3,18]),(3,[2,3]),(4,[8,9]),(5,[1,2,3,4,28]),(6,[8,9]),(7,[1,2,3,4,10]),(8,[1,2,3,4,10,11]),(9,[1,2,3,4,10,11,40]),(10,[1,2,3,4,10,11]),(11,[1,2,3,4,10,11]),(12,[8,9])]),
  (134,[(0,[0,1]),(1,[0,1,5]),(2,[0,1,5,9]),(3,[0,1,5]),(4,[0,1,5,17]),(5,[4]),(6,[4])]),
  (136,[(0,[1,2]),(1,[1,2,4]),(2,[1,2,4,21,22,23]),(3,[1,2,4,21,22,23,24]),(4,[1,2,4,6,21,22,23]),(5,[1,2,4,6,7,21,22,23]),(6,[1,2,6,7,21,22,23,29]),(7,[1,2,6,7,21,22,23,29,31]),(8,[1,2,6,7,8,9,21,22,23,29]),(9,[1,2,6,7,8,9,10,21,22,23,29]),(10,[1,2,6,7,8,9,10,11,21,22,23,29]),(11,[1,2,6,7,8,9,10,11,21,22,23,29,46]),(12,[1,2,6,7,21,22,23,29]),(13,[1,2,6,7,8,9,10,21,22,23,29,60]),(14,[1,2,6,7,21,22,23,29]),(15,[1,2,6,7,8,9,21,22,23,29,75,76]),(16,[1,2,6,7,8,9,21,22,23,29,75,76,77]),(17,[1,2,6,7,8,9,12,21,22,23,29,75,76]),(18,[1,2,6,7,8,9,21,22,23,29,75,76]),(19,[1,2,6,7,8,9,21,22,23,29,75,76]),(20,[1,2,4,21,22,23]),(21,[1,2,4,21,22,23]),(22,[1,2,94]),(23,[1,2,94,96]),(24,[1,2,13,14,94]),(25,[1,2,94,106])]),
  (137,[(0,[0,2]),(1,[])]),
  (138,[(0,[1,2,4]),(1,[2,4,6]),(2,[2,5]),(3,[]),(4,[4])]),
  (139,[(0,[0,6]),(1,[0,6,8]),(2,[0,4,6]),(3,[0,6,14])]),
  (140,[(0,[2,3,4]),(1,[6])]),
  (141,[(0,[0,2]),(1,[2])]),
  (142,[(0,[0,1,4]),(1,[4])]),
  (143,[(0,[0,1,4]),(1,[4])]),
  (144,[(0,[0,1,4]),(1,[4])]),
  (145,[(0,[1]),(1,[2])]),
  (146,[(0,[0]),(1,[4])]),
  (147,[(0,[1]),(1,[4])]),
  (148,[(0,[1]),(1,[2])]),
  (149,[(0,[0]),(1,[2])]),
  (150,[(0,[0]),(1,[2])]),
  (151,[(0,[0]),(1,[2])]),
  (152,[(0,[0,1]),(1,[4])]),
  (153,[(0,[1]),(1,[2])]),
  (154,[(0,[1]),(1,[1,5]),(2,[2]),(3,[2])]),
  (155,[(0,[0,1]),(1,[0,1,7,8]),(2,[0,1,7,8,9]),(3,[0,1,5,7,8]),(4,[0,1,5,7,8,16]),(5,[4]),(6,[0,1,7,8]),(7,[4])]),
  (156,[(0,[1]),(1,[2])]),
  (157,[(0,[2,3,4]),(1,[6])]),
  (158,[(0,[0,1]),(1,[0,1,10]),(2,[4]),(3,[0,1,12,13]),(4,[0,1,12,13,14]),(5,[0,1,5,12,13]),(6,[0,1,12,13,24]),(7,[4]),(8,[0,1,12,13]),(9,[4])]),
  (159,[(0,[0]),(1,[0,3]),(2,[3,7,8]),(3,[3,7,8,9]),(4,[3,4,7,8]),(5,[3,7,8]),(6,[3,7,8]),(7,[2])]),
  (160,[(0,[1,2]),(1,[1,2,4]),(2,[1,2,4,11]),(3,[2,3]),(4,[1,2]),(5,[1,2,21]),(6,[2,3]),(7,[1,2,27]),(8,[1,2,27]),(9,[2,27]),(10,[2,3]),(11,[2,3])]),
  (161,[(0,[1,2]),(1,[1,2,3]),(2,[1,2,3,4]),(3,[1,2,3,4,5]),(4,[1,2,3,5]),(5,[2,3]),(6,[2])]),
  (168,[(0,[1,2]),(1,[4])]),
  (169,[(0,[1]),(1,[2])]),
  (172,[(0,[1,2]),(1,[1,2,3]),(2,[2,3,17]),(3,[2,3]),(4,[2,3])]),
  (173,[(0,[0,1]),(1,[4])]),
  (174,[(0,[1,2]),(1,[3])]),
  (175,[(0,[0,1]),(1,[6,7]),(2,[4,5]),(3,[8,9]),(4,[4,5])]),
  (176,[(0,[1,2,3]),(1,[1,2,3,8]),(2,[6]),(3,[6])]),
  (177,[(0,[1,2]),(1,[1,2,5]),(2,[1,2,5,14]),(3,[1,2,5]),(4,[1,2,5,28]),(5,[4]),(6,[4])]),
  (178,[(0,[0,1]),(1,[0,1,5]),(2,[0,1,5,9]),(3,[0,1,5]),(4,[0,1,5,17]),(5,[4]),(6,[4])]),
  (181,[(0,[0,1]),(1,[4])]),
  (182,[(0,[0,1,2]),(1,[4])]),
  (183,[(0,[0,1,2,5]),(1,[0,1,2,5,7]),(2,[5]),(3,[5])]),
  (184,[(0,[0,1]),(1,[1,4,5]),(2,[1,4,5,20]),(3,[4,5]),(4,[4,5])]),
  (185,[(0,[0,1,2,5]),(1,[5])]),
  (186,[(0,[0,2]),(1,[2,3]),(2,[2]),(3,[2])]),
  (187,[(0,[0,1]),(1,[0,1,5]),(2,[0,1,5,6]),(3,[0,1,6,11]),(4,[12]),(5,[4]),(6,[4]),(7,[0,1,13]),(8,[4]),(9,[0,1,16]),(10,[4]),(11,[19]),(12,[4]),(13,[4])]),
  (188,[(0,[0,1,2]),(1,[4])]),
  (189,[(0,[0,3]),(1,[4])]),
  (190,[(0,[1]),(1,[1,5]),(2,[2]),(3,[2])]),
  (191,[(0,[0,3]),(1,[4])]),
  (192,[(0,[2,3]),(1,[2,3,5]),(2,[2,3,5,34]),(3,[4]),(4,[4])]),
  (193,[(0,[1,2,3,4]),(1,[1,2,3,4,10]),(2,[8]),(3,[8])]),
  (194,[(0,[1]),(1,[2])]),
  (195,[(0,[0,1,2,3,4]),(1,[0,1,2,3,4,14]),(2,[6]),(3,[0,1,2,3,4,7,8]),(4,[0,1,2,3,4,7,30]),(5,[6]),(6,[0,1,3,4,9]),(7,[0,1,3,4,9,10]),(8,[0,1,3,4,9,10,43,44,45]),(9,[0,1,3,4,9,10,43,44,45,46]),(10,[0,1,3,4,9,10,11,12,43,44,45]),(11,[0,1,3,4,9,10,43,44,45]),(12,[0,1,3,4,9,10,43,44,45]),(13,[0,3]),(14,[6])]),
  (196,[(0,[0,3]),(1,[0,3,5,6]),(2,[0,3,5,17]),(3,[0,3,5]),(4,[0,3,5]),(5,[5]),(6,[4])]),
  (197,[(0,[0]),(1,[2])]),
  (198,[(0,[0,1,5]),(1,[0,1,5,12]),(2,[6]),(3,[0,1,5,7]),(4,[0,1,5,7]),(5,[0,1,5,7,8,9]),(6,[0,1,5,7,8,32]),(7,[0,1,5,7,8]),(8,[0,1,5,8]),(9,[8]),(10,[6])]),
  (201,[(0,[1,2]),(1,[3])]),
  (203,[(0,[2,3]),(1,[2,3,5]),(2,[4])]),
  (204,[(0,[0,1]),(1,[0,1,7,8]),(2,[0,1,7,8,9]),(3,[0,1,5,7,8]),(4,[0,1,5,7,8,16]),(5,[4]),(6,[0,1,7,8]),(7,[4])]),
  (205,[(0,[0,1]),(1,[6]),(2,[4,5])]),
  (206,[(0,[0,1]),(1,[0,1,6]),(2,[0,1,6,7]),(3,[0,1,6,7,8]),(4,[0,1,6,7,8,9]),(5,[0,1,6,7,8,9,10]),(6,[0,1,6,7,9,11]),(7,[0,1,6,7,9,11,12]),(8,[0,1,6,7,9,12,13]),(9,[0,1,7,9,12,13]),(10,[0,1,4]),(11,[4,5])]),
  (218,[(0,[0,1]),(1,[0,1,7,8]),(2,[0,1,7,8,9]),(3,[0,1,5,7,8]),(4,[0,1,5,7,8,16]),(5,[4]),(6,[0,1,7,8]),(7,[4])]),
  (219,[(0,[0]),(1,[2])]),
  (220,[(0,[1,2]),(1,[3])]),
  (221,[(0,[0,1]),(1,[3])]),
  (222,[(0,[0,1,2,3]),(1,[5])]),
  (223,[(0,[1,2]),(1,[4])]),
  (224,[(0,[0,1]),(1,[3])]),
  (226,[(0,[2,3]),(1,[4])]),
  (227,[(0,[0,1]),(1,[0,1,10]),(2,[4]),(3,[0,1,12,13]),(4,[0,1,12,13,14]),(5,[0,1,5,12,13]),(6,[0,1,12,13,24]),(7,[4]),(8,[0,1,12,13]),(9,[4])]),
  (228,[(0,[0,1,2]),(1,[0,1,2,14]),(2,[6]),(3,[1,2,15,16,17]),(4,[1,2,15,16,17,18]),(5,[1,2,7,8,15,16,17]),(6,[1,2,8,9,15,16,17]),(7,[1,2,15,16,17,30]),(8,[6]),(9,[1,2,15,16,17]),(10,[6])]),
  (234,[(0,[0,1]),(1,[0,1,7,8]),(2,[0,1,7,8,9]),(3,[0,1,5,7,8]),(4,[0,1,5,7,8,16]),(5,[4]),(6,[0,1,7,8]),(7,[4])])],
 head:=[(18,[(4,[1,3])]),
  (21,[(3,[1,2,3,4])]),
  (28,[(7,[3,6,29,30,31]),(10,[3,6,8,29,30,31,36,37])]),
  (32,[(4,[0,1,5])]),
  (34,[(2,[0,3]),(8,[0,5])]),
  (35,[(4,[2,3,5])]),
  (37,[(4,[5,6,7,8])]),
  (38,[(2,[0,3])]),
  (39,[(10,[3,4,31,32,33])]),
  (40,[(3,[0,3,4])]),
  (41,[(7,[0,3,4,5,6,7])]),
  (44,[(5,[1,3,4])]),
  (53,[(3,[0,1,5,6])]),
  (57,[(8,[3,8,11,47,48])]),
  (58,[(4,[0,1,5])]),
  (72,[(4,[2,3,5])]),
  (74,[(3,[1,2,3,7,8])]),
  (75,[(4,[0,1,5])]),
  (76,[(2,[0,6,7,8])]),
  (84,[(2,[1,3]),(5,[1,3,4]),(10,[1,5]),(15,[1,5,6])]),
  (88,[(2,[2,3,6])]),
  (90,[(2,[2,6])]),
  (94,[(5,[0,3,4])]),
  (97,[(3,[0,3,4]),(7,[0,3,4,5,6])]),
  (98,[(2,[1,2,4,5])]),
  (104,[(3,[0,5,6])]),
  (105,[(7,[0,1,5,17,18,19])]),
  (109,[(4,[0,1,5]),(9,[0,1,5,6])]),
  (124,[(8,[7,8])]),
  (126,[(1,[1,2,3,4,5,6]),(15,[1,2,3,4,5,6,9,13,93,94])]),
  (127,[(2,[2,4,10,11,12])]),
  (128,[(2,[3,4,8,9,10])]),
  (129,[(2,[2,3,5,8,12,13,14])]),
  (130,[(2,[2,6,7,8])]),
  (131,[(2,[1,3]),(7,[1,4]),(13,[1,4,5,6])]),
  (132,[(2,[1,3])]),
  (133,[(9,[1,2,3,4,10,11])]),
  (134,[(2,[0,1,5])]),
  (136,[(3,[1,2,4,21,22,23]),(7,[1,2,6,7,21,22,23,29]),(16,[1,2,6,7,8,9,21,22,23,29,75,76]),(23,[1,2,94])]),
  (139,[(1,[0,6])]),
  (155,[(2,[0,1,7,8])]),
  (158,[(4,[0,1,12,13])]),
  (159,[(3,[3,7,8])]),
  (177,[(2,[1,2,5])]),
  (178,[(2,[0,1,5])]),
  (195,[(9,[0,1,3,4,9,10,43,44,45])]),
  (204,[(2,[0,1,7,8])]),
  (218,[(2,[0,1,7,8])]),
  (227,[(4,[0,1,12,13])]),
  (228,[(4,[1,2,15,16,17])]),
  (234,[(2,[0,1,7,8])])],
 site:=[(61,[2]),(62,[3]),(80,[1,3,4,5]),(87,[1,3]),(96,[1]),(122,[2]),(138,[2]),(140,[3,4]),(145,[1]),(148,[1]),(157,[3,4]),(161,[1,3,4,5]),(168,[2]),(189,[3]),(191,[3]),(192,[2,3,5]),(194,[14]),(198,[5,7]),(209,[7]),(210,[9])] }
def Tm:Tw.qx:={ Tb with exts:=[],ext:=fun _ _ _=>none }
open Tw in
def aeZ:aY:=fun fv xs h=>match fv with
 |.fn f a b=>if f=94 then a2S 94 (kR Tryz.prog Tm (2^24) 2) (.fn f a b) xs h else OD 137 (.fn f a b) xs h
 |fv=>OD 137 fv xs h
def T:Tw.qx:={ Tb with exts:=[94,137],ext:=aeZ,dem:=[87,88,90,138],din:=[136,139],a8S:=[138] }
open Pv
structure Rw where
 fr:LI0
 to:LI0
 cell:V
 deriving DecidableEq
structure Br where
 var:Int
 ay:LI0
 deriving DecidableEq
structure Dg where
 aA:LI0
 aH:LI0
 aO:List V
 au:List Br
 root:Int
 deriving DecidableEq
structure Ld where
 s:LI0
 cells:List V
 deriving DecidableEq
structure Fc where
 name:ByteArray
 d:Dg
 deriving DecidableEq
structure Pc where
 facts:Int
 goal:Bool
 deriving DecidableEq
abbrev jf:Dg:=⟨[],[],[],[],0⟩
abbrev Fc0:Fc:=⟨⟨#[]⟩,jf⟩
abbrev Pc0:Pc:=⟨0,false⟩
abbrev Rw0:Rw:=⟨[],[],V0⟩
abbrev ny:Br:=⟨0,[]⟩
abbrev Ld0:Ld:=⟨[],[]⟩
inductive Kd where
 |i64|u8|u16|u64|b|o|k|v|rw|br|tb|vs|ld|dg|is|fc|pc|bl|bs|no
def Kd.T:Kd->Type
 |.i64|.u8|.u16|.u64=>Int
 |.dg=>Dg
 |.is=>LI0
 |.fc=>Fc
 |.pc=>Pc
 |.bl=>Bool
 |.bs=>List Bool
 |.b=>B
 |.o=>O
 |.k=>K
 |.v=>V
 |.rw=>Rw
 |.br=>Br
 |.tb=>List Rw
 |.vs=>List V
 |.ld=>Ld
 |.no=>Unit
def kd(t:Nat):Kd:=match t with
 | 3=>.i64
 | 5=>.u8
 | 900001=>.b
 | 900002=>.o
 | 900003=>.k
 | 900004=>.u16
 | 900005=>.u64
 | 26=>.dg
 | 22=>.is
 | 900006=>.fc
 | 900007=>.pc
 | 4=>.bl
 | 900008=>.bs
 | 39=>.v
 | 900009=>.rw
 | 105=>.br
 | 900010=>.tb
 | 23=>.vs
 | 900011=>.ld
 |_=>.no
def aC(t:Nat):Type:=(kd t).T
def Kd.z:(k:Kd)->k.T
 |.i64|.u8|.u16|.u64=>(0:Int)
 |.dg=>jf
 |.is=>([]:LI0)
 |.fc=>Fc0
 |.pc=>Pc0
 |.bl=>false
 |.bs=>([]:List Bool)
 |.b=>B0
 |.o=>O0
 |.k=>K0
 |.v=>V0
 |.rw=>Rw0
 |.br=>ny
 |.tb=>([]:List Rw)
 |.vs=>([]:List V)
 |.ld=>Ld0
 |.no=>()
abbrev lI(l:LI0):PV aC:=.dB 3 l false
abbrev lV(l:List V):PV aC:=.dB 39 l false
abbrev lRw(l:List Rw):PV aC:=.dB 900009 l false
abbrev lBr(l:List Br):PV aC:=.dB 105 l false
abbrev lDg(l:List Dg):PV aC:=.dB 26 l false
abbrev lB(l:List Bool):PV aC:=.dB 4 l false
def B.ps(b:B):List (PV aC):=[.int .i64 b.lo,.int .i64 b.hi,.int .u8 b.f]
def O.ps(o:O):List (PV aC):=[.int .u8 o.code,.int .i64 o.a,.int .i64 o.b,.int .i64 o.c,.int .i64 o.n]
def K.ps(c:K):List (PV aC):=[.str c.name,.int .i64 c.lo,.int .i64 c.hi]
def V.ps(v:V):List (PV aC):=[.int .u8 v.f,.int .i64 v.n]
def Rw.ps(r:Rw):List (PV aC):=[lI r.fr,lI r.to,.int .u8 r.cell.f,.int .i64 r.cell.n]
def Br.ps(b:Br):List (PV aC):=[.int .i64 b.var,lI b.ay]
def Ld.ps(x:Ld):List (PV aC):=[lI x.s,lV x.cells]
def Dg.ps(d:Dg):List (PV aC):=[lI d.aA,lI d.aH,lV d.aO,lBr d.au,.int .i64 d.root]
def Fc.ps(x:Fc):List (PV aC):=.str x.name::x.d.ps
def Pc.ps(x:Pc):List (PV aC):=[.int .u64 x.facts,.bool x.goal]
def B.un(l:List (PV aC)):Option B:=match l with
 | [.int .i64 a,.int .i64 b,.int .u8 c]=>some ⟨a,b,c⟩
 |_=>none
def O.un(l:List (PV aC)):Option O:=match l with
 | [.int .u8 c,.int .i64 x,.int .i64 y,.int .i64 z,.int .i64 n]=>some ⟨c,x,y,z,n⟩
 |_=>none
def K.un(l:List (PV aC)):Option K:=match l with
 | [.str c,.int .i64 x,.int .i64 y]=>some ⟨c,x,y⟩
 |_=>none
def V.un(l:List (PV aC)):Option V:=match l with
 | [.int .u8 c,.int .i64 x]=>some ⟨c,x⟩
 |_=>none
def I.un(k:IntKind)(l:List (PV aC)):Option Int:=match l with
 | [.int k' x]=>if k'=k then some x else none
 |_=>none
def L.un(t:Nat)(v:PV aC):Option (List (aC t)):=match v with
 |.dB t' l _=>Bg t t' l
 |.nil .aP=>some []
 |_=>none
def Rw.un(l:List (PV aC)):Option Rw:=match l with
 | [a,b,.int .u8 c,.int .i64 x]=>match L.un 3 a,L.un 3 b with
  |some a,some b=>some ⟨a,b,⟨c,x⟩⟩
  |_,_=>none
 |_=>none
def Br.un(l:List (PV aC)):Option Br:=match l with
 | [.int .i64 x,a]=>match L.un 3 a with
  |some a=>some ⟨x,a⟩
  |none=>none
 |_=>none
def Tb.un(l:List (PV aC)):Option (List Rw):=match l with
 | [a]=>L.un 900009 a
 |_=>none
def Vs.un(l:List (PV aC)):Option (List V):=match l with
 | [a]=>L.un 39 a
 |_=>none
def Ld.un(l:List (PV aC)):Option Ld:=match l with
 | [a,b]=>match L.un 3 a,L.un 39 b with
  |some a,some b=>some ⟨a,b⟩
  |_,_=>none
 |_=>none
def Dg.un(l:List (PV aC)):Option Dg:=match l with
 | [a,b,c,d,.int .i64 r]=>match L.un 3 a,L.un 3 b,L.un 39 c,L.un 105 d with
  |some a,some b,some c,some d=>some ⟨a,b,c,d,r⟩
  |_,_,_,_=>none
 |_=>none
def Is.un(l:List (PV aC)):Option LI0:=match l with
 | [a]=>L.un 3 a
 |_=>none
def Fc.un(l:List (PV aC)):Option Fc:=match l with
 |.str n::r=>(Dg.un r).map (⟨n,·⟩)
 |_=>none
def Pc.un(l:List (PV aC)):Option Pc:=match l with
 | [.int .u64 n,.bool b]=>some ⟨n,b⟩
 |_=>none
def Bl.un(l:List (PV aC)):Option Bool:=match l with
 | [.bool b]=>some b
 |_=>none
def Bs.un(l:List (PV aC)):Option (List Bool):=match l with
 | [a]=>L.un 4 a
 |_=>none
def Kd.enc:(k:Kd)->k.T->List (PV aC)
 |.i64=>fun n=>[.int .i64 n]
 |.u8=>fun n=>[.int .u8 n]
 |.u16=>fun n=>[.int .u16 n]
 |.u64=>fun n=>[.int .u64 n]
 |.dg=>Dg.ps
 |.is=>fun l=>[lI l]
 |.fc=>Fc.ps
 |.pc=>Pc.ps
 |.bl=>fun b=>[.bool b]
 |.bs=>fun l=>[lB l]
 |.b=>B.ps
 |.o=>O.ps
 |.k=>K.ps
 |.v=>V.ps
 |.rw=>Rw.ps
 |.br=>Br.ps
 |.tb=>fun l=>[lRw l]
 |.vs=>fun l=>[lV l]
 |.ld=>Ld.ps
 |.no=>fun _=>[]
def Kd.dec:(k:Kd)->List (PV aC)->Option k.T
 |.i64=>I.un .i64
 |.u8=>I.un .u8
 |.u16=>I.un .u16
 |.u64=>I.un .u64
 |.dg=>Dg.un
 |.is=>Is.un
 |.fc=>Fc.un
 |.pc=>Pc.un
 |.bl=>Bl.un
 |.bs=>Bs.un
 |.b=>B.un
 |.o=>O.un
 |.k=>K.un
 |.v=>V.un
 |.rw=>Rw.un
 |.br=>Br.un
 |.tb=>Tb.un
 |.vs=>Vs.un
 |.ld=>Ld.un
 |.no=>fun _=>none
def X0:kJ:=⟨aC,fun t=>(kd t).z,fun t=>(kd t).enc,fun t=>(kd t).dec⟩
theorem B.uZ{l:List (PV aC)}{b:B}(h:B.un l=some b):B.ps b=l:=by
 unfold B.un at h;split at h
 .cases h;rfl
 cases h
theorem O.uZ{l:List (PV aC)}{b:O}(h:O.un l=some b):O.ps b=l:=by
 unfold O.un at h;split at h
 .cases h;rfl
 cases h
theorem K.uZ{l:List (PV aC)}{b:K}(h:K.un l=some b):K.ps b=l:=by
 unfold K.un at h;split at h
 .cases h;rfl
 cases h
theorem V.uZ{l:List (PV aC)}{b:V}(h:V.un l=some b):V.ps b=l:=by
 unfold V.un at h;split at h
 .cases h;rfl
 cases h
theorem I.uZ{k:IntKind}{l:List (PV aC)}{b:Int}(h:I.un k l=some b):[PV.int k b]=l:=by
 unfold I.un at h;split at h
 .split at h
  .rename_i e;cases h;rw[e]
  cases h
 cases h
section
variable {A:Nat->Prop} {m:List MB} {h:List HB}
theorem L.iR{t:Nat}{v:PV aC}{l:List (aC t)}(hu:L.un t v=some l){x:TV}(hv:VR X0 Tryz.prog A m h v x):VR X0 Tryz.prog A m h (.dB t l false) x:=(a6e (X:=X0) (P:=Tryz.prog) t).ok (a:=l) (v:=v) (by
 cases v with
 |nil k=>cases k<;>first|exact hu|cases hu
 |dB t' l' f=>exact hu
 |_=>cases hu) hv
theorem Rw.iR{l:List (PV aC)}{r:Rw}(hu:Rw.un l=some r){xs:List TV}(hv:bU X0 Tryz.prog A m h l xs):bU X0 Tryz.prog A m h r.ps xs:=by
 unfold Rw.un at hu;split at hu
 .split at hu
  .rename_i e1 e2;cases hu;obtain⟨x1,r1,rfl,h1,hv⟩:=hv.inv;obtain⟨x2,r2,rfl,h2,hv⟩:=hv.inv;exact .cons (L.iR e1 h1) (.cons (L.iR e2 h2) hv)
  cases hu
 cases hu
theorem Br.iR{l:List (PV aC)}{r:Br}(hu:Br.un l=some r){xs:List TV}(hv:bU X0 Tryz.prog A m h l xs):bU X0 Tryz.prog A m h r.ps xs:=by
 unfold Br.un at hu;split at hu
 .split at hu
  .rename_i e1;cases hu;obtain⟨x1,r1,rfl,h1,hv⟩:=hv.inv;obtain⟨x2,r2,rfl,h2,hv⟩:=hv.inv;exact .cons h1 (.cons (L.iR e1 h2) hv)
  cases hu
 cases hu
theorem Ld.iR{l:List (PV aC)}{r:Ld}(hu:Ld.un l=some r){xs:List TV}(hv:bU X0 Tryz.prog A m h l xs):bU X0 Tryz.prog A m h r.ps xs:=by
 unfold Ld.un at hu;split at hu
 .split at hu
  .rename_i e1 e2;cases hu;obtain⟨x1,r1,rfl,h1,hv⟩:=hv.inv;obtain⟨x2,r2,rfl,h2,hv⟩:=hv.inv;exact .cons (L.iR e1 h1) (.cons (L.iR e2 h2) hv)
  cases hu
 cases hu
theorem Tb.iR{l:List (PV aC)}{r:List Rw}(hu:Tb.un l=some r){xs:List TV}(hv:bU X0 Tryz.prog A m h l xs):bU X0 Tryz.prog A m h [lRw r] xs:=by
 rcases l with _|⟨a,_|⟨b,l⟩⟩
 .cases hu
 .obtain⟨x1,r1,rfl,h1,hv⟩:=hv.inv;exact .cons (L.iR hu h1) hv
 cases hu
theorem Vs.iR{l:List (PV aC)}{r:List V}(hu:Vs.un l=some r){xs:List TV}(hv:bU X0 Tryz.prog A m h l xs):bU X0 Tryz.prog A m h [lV r] xs:=by
 rcases l with _|⟨a,_|⟨b,l⟩⟩
 .cases hu
 .obtain⟨x1,r1,rfl,h1,hv⟩:=hv.inv;exact .cons (L.iR hu h1) hv
 cases hu
theorem Dg.iR{l:List (PV aC)}{r:Dg}(hu:Dg.un l=some r){xs:List TV}(hv:bU X0 Tryz.prog A m h l xs):bU X0 Tryz.prog A m h r.ps xs:=by
 unfold Dg.un at hu;split at hu
 .split at hu
  .rename_i e1 e2 e3 e4;cases hu;obtain⟨x1,r1,rfl,h1,hv⟩:=hv.inv;obtain⟨x2,r2,rfl,h2,hv⟩:=hv.inv;obtain⟨x3,r3,rfl,h3,hv⟩:=hv.inv;obtain⟨x4,r4,rfl,h4,hv⟩:=hv.inv;exact .cons (L.iR e1 h1) (.cons (L.iR e2 h2) (.cons (L.iR e3 h3) (.cons (L.iR e4 h4) hv)))
  cases hu
 cases hu
theorem Is.iR{l:List (PV aC)}{r:LI0}(hu:Is.un l=some r){xs:List TV}(hv:bU X0 Tryz.prog A m h l xs):bU X0 Tryz.prog A m h [lI r] xs:=by
 rcases l with _|⟨a,_|⟨b,l⟩⟩
 .cases hu
 .obtain⟨x1,r1,rfl,h1,hv⟩:=hv.inv;exact .cons (L.iR hu h1) hv
 cases hu
theorem Bs.iR{l:List (PV aC)}{r:List Bool}(hu:Bs.un l=some r){xs:List TV}(hv:bU X0 Tryz.prog A m h l xs):bU X0 Tryz.prog A m h [lB r] xs:=by
 rcases l with _|⟨a,_|⟨b,l⟩⟩
 .cases hu
 .obtain⟨x1,r1,rfl,h1,hv⟩:=hv.inv;exact .cons (L.iR hu h1) hv
 cases hu
theorem Bl.uZ{l:List (PV aC)}{b:Bool}(h:Bl.un l=some b):[PV.bool b]=l:=by
 unfold Bl.un at h;split at h
 .cases h;rfl
 cases h
theorem Fc.iR{l:List (PV aC)}{r:Fc}(hu:Fc.un l=some r){xs:List TV}(hv:bU X0 Tryz.prog A m h l xs):bU X0 Tryz.prog A m h r.ps xs:=by
 unfold Fc.un at hu;split at hu
 .obtain⟨d,e1,rfl⟩:=a05.1 hu;obtain⟨x1,r1,rfl,h1,hv⟩:=hv.inv;exact .cons h1 (Dg.iR e1 hv)
 cases hu
theorem Pc.uZ{l:List (PV aC)}{b:Pc}(h:Pc.un l=some b):Pc.ps b=l:=by
 unfold Pc.un at h;split at h
 .cases h;rfl
 cases h
theorem a9Z:∀(k:Kd) {l:List (PV aC)} {a:k.T},k.dec l=some a->∀{xs:List TV},bU X0 Tryz.prog A m h l xs->bU X0 Tryz.prog A m h (k.enc a) xs
 |.i64,_,_,e,_,hv=>by rw[show Kd.enc .i64 _=_ from I.uZ e];exact hv
 |.u8,_,_,e,_,hv=>by rw[show Kd.enc .u8 _=_ from I.uZ e];exact hv
 |.u16,_,_,e,_,hv=>by rw[show Kd.enc .u16 _=_ from I.uZ e];exact hv
 |.u64,_,_,e,_,hv=>by rw[show Kd.enc .u64 _=_ from I.uZ e];exact hv
 |.dg,_,_,e,_,hv=>Dg.iR e hv
 |.is,_,_,e,_,hv=>Is.iR e hv
 |.fc,_,_,e,_,hv=>Fc.iR e hv
 |.pc,_,_,e,_,hv=>by rw[show Kd.enc .pc _=_ from Pc.uZ e];exact hv
 |.bl,_,_,e,_,hv=>by rw[show Kd.enc .bl _=_ from Bl.uZ e];exact hv
 |.bs,_,_,e,_,hv=>Bs.iR e hv
 |.b,_,_,e,_,hv=>by rw[show Kd.enc .b _=_ from B.uZ e];exact hv
 |.o,_,_,e,_,hv=>by rw[show Kd.enc .o _=_ from O.uZ e];exact hv
 |.k,_,_,e,_,hv=>by rw[show Kd.enc .k _=_ from K.uZ e];exact hv
 |.v,_,_,e,_,hv=>by rw[show Kd.enc .v _=_ from V.uZ e];exact hv
 |.rw,_,_,e,_,hv=>Rw.iR e hv
 |.br,_,_,e,_,hv=>Br.iR e hv
 |.tb,_,_,e,_,hv=>Tb.iR e hv
 |.vs,_,_,e,_,hv=>Vs.iR e hv
 |.ld,_,_,e,_,hv=>Ld.iR e hv
 |.no,_,_,e,_,_=>by cases e
end
theorem a3f:∀(k:Kd) (a:k.T),jk.Gw (k.enc a)=true:=by intro k a;cases k<;>rfl
theorem hX:bP X0 Tryz.prog:=⟨fun{t} vs a e {A m hh xs} hv=>a9Z (kd t) e hv,fun t a=>a3f (kd t) a⟩
abbrev Arg(α:Type):=Ar X0 Tryz.prog α
def iA:Arg Int:=aeB .i64
def uA:Arg Int:=aeB .u8
def tA:Arg Bool:=aiq
def vA:Arg V:=air hX 39
def brA:Arg Br:=air hX 105
def rJ:Arg LI0:=a6e 3
def Zx:Arg (List V):=a6e 39
def aa0:Arg (List Br):=a6e 105
def Xn:Arg (List Dg):=a6e 26
def pA:Arg Int:=aeB .u64
def dA:Arg Dg:=aeD (a6f (KT rJ (a4 rJ Zx aa0 iA))) (fun p=>⟨p.1,p.2.1,p.2.2.1,p.2.2.2.1,p.2.2.2.2⟩) (fun d=>(d.aA,d.aH,d.aO,d.au,d.root)) fun _=>rfl
abbrev LL:Nat:=2^24
abbrev Gd(fO:eY aC):Prop:=Pv.Good X0 Tryz.prog T LL fO
abbrev iy(n:Nat):aY:=kR Tryz.prog T LL n
theorem SB:ah<LL:=by decide
abbrev Lp(n f k:Nat)(s:aS aC)(e:Ex)(s':aS aC):Prop:=dM X0 Tryz.prog T (iy n) LL f false (BJ Tryz.prog f) 0 (.loop (RS Tryz.prog f k)) s e s'
abbrev Ok(n:Nat)(fO:eY aC):Prop:=jD X0 Tryz.prog (iy n) fO
abbrev xi(n:Int):PE aC:=.val (.int .i64 n)
abbrev xl(b:Bool):PE aC:=.val (.lit b)
abbrev xL(t:Nat)(l:List (aC t)):PE aC:=.val (.dB t l false)
abbrev xo(b:Nat):PE aC:=.val (.own b)
theorem le0:0<=ah:=by decide
theorem le1:1<=ah:=by decide
theorem Yj:2<=ah:=by decide
theorem le3:3<=ah:=by decide
theorem le8:8<=LL:=by decide
theorem fZ{n:Nat}:Ok n (a9O (X:=X0)):=fun f vs v ext ps h=>by cases h
abbrev MC(n f k B:Nat)(s:aS aC)(e:Ex)(s':aS aC):Prop:=dM X0 Tryz.prog T (iy n) LL f false (BJ Tryz.prog f) B (.loop (RS Tryz.prog f k)) s e s'
abbrev Qp:LI1:=Tryz.prog
abbrev iQ(n:Nat):=dD X0 Tryz.prog (iy n)
theorem gZ{α:Type}{a:α}{l:List α}:a∈a::l:=.head _
theorem yI{α:Type}{a b:α}{l:List α}:a∈b::a::l:=.tail _ (.head _)
theorem hh2{α:Type}{a b c:α}{l:List α}:a∈b::c::a::l:=.tail _ (.tail _ (.head _))
theorem aN{β:Type}{n f:Nat}{fO:eY aC}(hO:Ok n fO){vs:List (PV aC)}{an:PT aC}{r:Ar X0 Tryz.prog β}{s:β}{o:OT (Option (PV aC))}(ht:Fp (Is r s) an o)
  (hk:(CO X0 Tryz.prog T fO (dD X0 Tryz.prog (iy n)) (Bj X0 Tryz.prog T (iy n) LL f 0) LL f vs [] an).map frz=o:=by kernel_rfl):nY X0 Tryz.prog (iy (n+1)) f vs (r.put s) []:=ait hX hO hk ht
theorem jh{β:Type}{n f:Nat}{fO:eY aC}(hO:Ok n fO){first xs cap:List (PV aC)}{H H1:List (PB aC)}{an:PT aC}{r:Ar X0 Tryz.prog β}{s:β}{o:OT (PV aC×List (PB aC))}(ht:Fp (IsS r s H1) an o)
  (hk:CO X0 Tryz.prog T fO (dD X0 Tryz.prog (iy n)) (Bj X0 Tryz.prog T (iy n) LL f H.length) LL f (first++xs++cap) H an=o:=by kernel_rfl):dD X0 Tryz.prog (iy (n+1)) (.fn f first cap) xs H (r.put s) H1:=CW hX hO hk ht
theorem fB{n f:Nat}{fO:eY aC}(hO:Ok n fO){first xs cap:List (PV aC)}{H H1:List (PB aC)}{v:PV aC}{an:PT aC}{o:OT (PV aC×List (PB aC))}(ht:Fp (IsE (X:=X0) v H1) an o)
  (hk:CO X0 Tryz.prog T fO (dD X0 Tryz.prog (iy n)) (Bj X0 Tryz.prog T (iy n) LL f H.length) LL f (first++xs++cap) H an=o:=by kernel_rfl):dD X0 Tryz.prog (iy (n+1)) (.fn f first cap) xs H v H1:=mZ hX hO hk ht
theorem aJ{call:aY}{fO:eY aC}{L f:Nat}{gQ:Bool}{nt B:Nat}(hO:jD X0 Tryz.prog call fO){b:Code}{n:Nat}{ps:aS aC}{an:PT aC}{e:Ex}{s:aS aC}{o:OT (Ex×aS aC)}(ht:Fp (Rnd X0 Tryz.prog T call L f gQ nt B b n e s) an o)
  (hk:jL X0 Tryz.prog T fO (dD X0 Tryz.prog call) (dM X0 Tryz.prog T call L f gQ nt B) B L f gQ nt b ps an (aeA (gJ X0 (T.eX f (dQ b))) B)=o:=by kernel_rfl):dI X0 Tryz.prog T call L f gQ nt B b (n+1) ps e s:=round hX hO hk ht
abbrev a6C(f:Nat)(a c:List (PV aC))(H:List (PB aC))(l:LI0)(i:Int)(x:List (Nat×PE aC)):aS aC:=⟨[(0,xL 3 l),(1,.val (.fn f a c)),(7,xi l.length),(8,xi i)]++x,[],H⟩
def z218(f:Nat)(a c:List (PV aC))(H:List (PB aC))(l:LI0):Unit⊕(Nat×Int×Unit)->Ex×aS aC
 |.inl _=>(.exit 0,a6C f a c H l l.length [(9,xl false)])
 |.inr r=>(.ret,⟨[(4,xi r.1)],[],H⟩)
theorem aoz{n f:Nat}{a c:List (PV aC)}{H:List (PB aC)}{g:Int->Bool}(hf:∀x,iQ n (.fn f a c) [.int .i64 x] H (.bool (g x)) H)(l:LI0)(hl:l.length<=ah):iQ (n+1) (.fn 218 [] []) [.dB 3 l false,.fn f a c] H (iA.put (qZ g l)) H:=by
 have lp:MC n 218 0 H.length (a6C f a c H l 0 []) (z218 f a c H l (mg (pI g) l 0 ())).1 (z218 f a c H l (mg (pI g) l 0 ())).2:=
  WV (st:=fun i _=>a6C f a c H l i []) (0:Int) (fun _ _=>True) (by kernel_rfl) hl SB trivial (fun k s n hk _ ih=>aJ fZ (.b (aW hk) (.o (aG hk) (.k (hf (l.getD k (0:Int))) (.ls (.ou nofun) (.nx (ih _ trivial))))))) (fun s _=>aJ fZ (.b (eH l.length) (.ou nofun)))
 exact jh fZ (first:=[]) (cap:=[]) (.szh (fun h=>.w (ku lp () h) .sr) (fun h=>.w (kC lp (0,0,()) h) .sr))
theorem aiH{n f:Nat}(hn:0<n){a c:List (PV aC)}{H:List (PB aC)}{g:Int->Bool}(hf:∀x,dD X0 Qp (iy (n-1)) (.fn f a c) [.int .i64 x] H (.bool (g x)) H)(l:LI0)(hl:l.length<=ah):iQ (n+1) (.fn 181 [] []) [.dB 3 l false,.fn f a c] H (tA.put (mJ g l)) H:=by have h1:=aoz hf l hl;rw[show n-1+1=n by omega]at h1;exact jh fZ (first:=[]) (cap:=[]) (.k h1 .sr)
abbrev af0(f:Nat)(a c:List (PV aC))(H:List (PB aC))(l:List V)(i:Int)(x:List (Nat×PE aC)):aS aC:=⟨[(0,xL 39 l),(1,.val (.fn f a c)),(7,xi l.length),(8,xi i)]++x,[],H⟩
def aiI(f:Nat)(a c:List (PV aC))(H:List (PB aC))(l:List V):Unit⊕(Nat×V×Unit)->Ex×aS aC
 |.inl _=>(.exit 0,af0 f a c H l l.length [(9,xl false)])
 |.inr r=>(.ret,⟨[(4,xi r.1)],[],H⟩)
theorem aiJ{n f:Nat}{a c:List (PV aC)}{H:List (PB aC)}{g:V->Bool}(hf:∀x,iQ n (.fn f a c) [.agg x.ps] H (.bool (g x)) H)(l:List V)(hl:l.length<=ah):iQ (n+1) (.fn 155 [] []) [.dB 39 l false,.fn f a c] H (iA.put (iF g l)) H:=by
 have lp:MC n 155 0 H.length (af0 f a c H l 0 []) (aiI f a c H l (mg (jo g) l 0 ())).1 (aiI f a c H l (mg (jo g) l 0 ())).2:=
  WV (st:=fun i _=>af0 f a c H l i []) V0 (fun _ _=>True) (by kernel_rfl) hl SB trivial (fun k s n hk _ ih=>aJ fZ (.b (aW hk) (.o (aG hk) (.k (hf (l.getD k V0)) (.ls (.ou nofun) (.nx (ih _ trivial))))))) (fun s _=>aJ fZ (.b (eH l.length) (.ou nofun)))
 exact jh fZ (first:=[]) (cap:=[]) (.szh (fun h=>.w (ku lp () h) .sr) (fun h=>.w (kC lp (0,V0,()) h) .sr))
theorem af2{n f:Nat}(hn:0<n){a c:List (PV aC)}{H:List (PB aC)}{g:V->Bool}(hf:∀x,dD X0 Qp (iy (n-1)) (.fn f a c) [.agg x.ps] H (.bool (g x)) H)(l:List V)(hl:l.length<=ah):iQ (n+1) (.fn 152 [] []) [.dB 39 l false,.fn f a c] H (tA.put (pW g l)) H:=by have h1:=aiJ hf l hl;rw[show n-1+1=n by omega]at h1;exact jh fZ (first:=[]) (cap:=[]) (.k h1 .sr)
def abY:eY aC:=bT 219 (a1 iA) tA (fun p=>UF p) np (a9O (X:=X0))
theorem aiK:Gd abY:=Good.nil.add fun n hO p hp=>aN hO .rr
def abZ:eY aC:=bT 141 (a1 uA) vA (fun p=>Hq p) np abY
theorem aiL:Gd abZ:=aiK.add fun n hO p hp=>aN hO .rr
def ac0:eY aC:=bT 140 (a3 iA iA rJ) tA (fun p=>zA p.2.2 p.1 p.2.1) (fun p=>[p.2.2.length<=ah]) abZ
theorem aiM:Gd ac0:=aiL.deep 3 fun n hn hO p hp=>by have h1:∀x,dD X0 Qp (iy (n-3+1)) (.fn 182 [] [.ptr 0 0 1,.ptr 1 0 1]) [.int .i64 x] [.cells [.int .i64 p.1],.cells [.int .i64 p.2.1]] (tA.put (wL x p.1 p.2.1)) [.cells [.int .i64 p.1],.cells [.int .i64 p.2.1]]:=fun x=>jh fZ (first:=[]) (.ssh (fun _=>.sr) (fun _=>.sr));obtain⟨n,rfl⟩:∃k,n=k+3:=⟨n-3,by omega⟩;rw[show n+3-3+1=n+1 by omega]at h1;have h2:=aiH (n:=n+2) (by omega) (g:=fun x=>wL x p.1 p.2.1) h1 p.2.2 (hp _ gZ);exact aN (hO _ (by omega)) (.k h2 (.v (!(mJ (fun x=>wL x p.1 p.2.1) p.2.2)) (by rw[DZ];rfl)))
theorem nan(x:Int):UF x=false:=by simp[UF]
def ac1:eY aC:=bT 154 (a1 vA) tA (fun p=>D9 p) np ac0
theorem aiN:Gd ac1:=aiM.add fun n hO p hp=>aN hO (.ss (.o le1 .rr) (.ss .rr .rr))
def ac2:eY aC:=bT 100 (a1 iA) vA (fun p=>oD p) np ac1
theorem aiO:Gd ac2:=aiN.add fun n hO p hp=>aN hO (.o le1 (.ss .rr .rr))
def ac3:eY aC:=bT 186 (a1 tA) vA (fun p=>OQ p) np ac2
theorem aiP:Gd ac3:=aiO.add fun n hO p hp=>aN hO (.ss .rr .rr)
def ac4:eY aC:=bT 156 (a1 vA) tA (fun p=>nU p) np ac3
theorem aiQ:Gd ac4:=aiP.add fun n hO p hp=>aN hO .rr
def ac5:eY aC:=bT 153 (a1 vA) tA (fun p=>Am p) np ac4
theorem aiR:Gd ac5:=aiQ.add fun n hO p hp=>aN hO .rr
def ac6:eY aC:=bT 142 (a2 iA iA) vA (fun p=>Jh p.1 p.2) np ac5
theorem aiS:Gd ac6:=aiR.add fun n hO p hp=>aN hO .rr
def ac7:eY aC:=bT 143 (a2 iA iA) vA (fun p=>Ji p.1 p.2) np ac6
theorem aiT:Gd ac7:=aiS.add fun n hO p hp=>aN hO .rr
def ac8:eY aC:=bT 144 (a2 iA iA) vA (fun p=>Jj p.1 p.2) np ac7
theorem aiU:Gd ac8:=aiT.add fun n hO p hp=>aN hO .rr
def ac9:eY aC:=bT 146 (a2 iA iA) iA (fun p=>Dc p.1 p.2) np ac8
theorem aiV:Gd ac9:=aiU.add fun n hO p hp=>aN hO .rr
def acd:eY aC:=bT 147 (a2 iA iA) iA (fun p=>Df p.1 p.2) np ac9
theorem aiW:Gd acd:=aiV.add fun n hO p hp=>aN hO .rr
def ace:eY aC:=bT 149 (a1 iA) tA (fun p=>Dh p) np acd
theorem aiX:Gd ace:=aiW.add fun n hO p hp=>aN hO .rr
def acf:eY aC:=bT 150 (a1 iA) tA (fun p=>Di p) np ace
theorem aiY:Gd acf:=aiX.add fun n hO p hp=>aN hO .rr
def acg:eY aC:=bT 151 (a1 iA) tA (fun p=>Dj p) np acf
theorem aiZ:Gd acg:=aiY.add fun n hO p hp=>aN hO .rr
def ach:eY aC:=bT 184 (a2 iA iA) (dR (a2 iA iA)) (fun p=>uD p.1 p.2) (fun p=>[p.2≠0]) acg
theorem aj0:Gd ach:=aiZ.add fun n hO p hp=>aN hO (.o (hp _ gZ) (.o (hp _ gZ) (.ss (.ss .rr .rr) .rr)))
def aci:eY aC:=bT 187 (a2 iA iA) iA (fun p=>Jg p.1 p.2) np ach
theorem aj1:Gd aci:=aj0.add fun n hO p hp=>aN hO (.b (nan p.1) (.b (nan p.2) (.ss .rr (.ss .rr .rr))))
theorem aoA{n:Nat}{fO:eY aC}(hO:Ok n fO)(ho:∀x:V,fO 156 [.agg x.ps]=some (.bool (nU x),[],[]))(H:List (PB aC))(x:V):iQ n (.fn 156 [] []) [.agg x.ps] H (.bool (nU x)) H:=
 Mc hX hO (first:=[]) (cap:=[]) (vs:=[.agg x.ps]) (v:=.bool (nU x)) rfl (ho x) (fun p h=>by cases h) rfl
theorem aoB{n:Nat}{fO:eY aC}(hO:Ok n fO)(ho:∀x:V,fO 153 [.agg x.ps]=some (.bool (Am x),[],[]))(H:List (PB aC))(x:V):iQ n (.fn 153 [] []) [.agg x.ps] H (.bool (Am x)) H:=
 Mc hX hO (first:=[]) (cap:=[]) (vs:=[.agg x.ps]) (v:=.bool (Am x)) rfl (ho x) (fun p h=>by cases h) rfl
def acj:eY aC:=bT 103 (a1 Zx) (dR (a2 vA tA)) (fun p=>bM p) (fun p=>[p.length<=ah]) aci
theorem aj2:Gd acj:=aj1.deep 2 fun n hn hO p hp=>by have hs:=aiJ (n:=n-1) (H:=[]) (g:=fun v=>nU v) (aoA (hO (n-1) (by omega)) (fun _=>rfl) []) p (hp _ gZ);rw[show n-1+1=n by omega]at hs;exact aN (hO n (by omega)) (.k hs (.sh (fun h=>.rr) (fun h=>.o (show gW (iF (fun v=>nU v) p) p.length from⟨by simpa using h,Ql _ _⟩) .rr)))
def acn:eY aC:=bT 102 (a1 Zx) tA (fun p=>gY p) (fun p=>[p.length<=ah]) acj
theorem aj3:Gd acn:=aj2.deep 3 fun n hn hO p hp=>by have hs:=af2 (n:=n-1) (by omega) (H:=[]) (g:=fun v=>Am v) (aoB (hO (n-2) (by omega)) (fun _=>rfl) []) p (hp _ gZ);rw[show n-1+1=n by omega]at hs;exact aN (hO n (by omega)) (.k hs (.v (!(pW (fun v=>Am v) p)) (by rw[Jf];rfl)))
def aj6:eY aC:=bT 99 (a3 vA vA vA) (dR (a2 vA iA)) (fun p=>jF p.1 p.2.1 p.2.2) np acn
theorem aoC:Gd aj6:=aj3.add fun n hO p hp=>aN hO (.o le3 (.ss .rr (.ss .rr (.ss .rr .rr))))
def aj7:Arg Nat where
 put f:=.fn f [] []
 get v:=match v with
  |.fn g [] []=>some g
  |_=>none
 ok:=by
  intro v a hg A m h x hv;split at hg
  .cases hg;exact hv
  .cases hg
def aco:eY aC:=Zr 145 (a1 aj7) (fun _=>.fn 183 [] [.ptr 0 0 1]) (fun g=>[.cells [.fn g [] []]]) np aj6
theorem aj8:Gd aco:=aoC.WX 0 fun n _ hO p hp=>Bo hX (hO n (by omega)) (by kernel_rfl) .er
def acp:eY aC:=Zr 148 (a1 aj7) (fun _=>.fn 185 [] [.ptr 0 0 1]) (fun g=>[.cells [.fn g [] []]]) np aco
theorem aj9:Gd acp:=aj8.WX 0 fun n _ hO p hp=>Bo hX (hO n (by omega)) (by kernel_rfl) .er
def aoD(p:Int):PV aC:=if p=7 then .fn 142 [] []else if p=8 then .fn 143 [] []else if p=9 then .fn 144 [] []else if p=10 then .fn 183 [] [.ptr 0 0 1]else if p=11 then .fn 183 [] [.ptr 0 0 1]else .fn 185 [] [.ptr 0 0 1]
def aoE(p:Int):List (PB aC):=if p=10 then [.cells [.fn 146 [] []]]else if p=11 then [.cells [.fn 147 [] []]]else if p=12 then [.cells [.fn 149 [] []]]else if p=13 then [.cells [.fn 150 [] []]]else if p=14 then [.cells [.fn 151 [] []]]else []
def OV:eY aC:=Zr 101 (a1 uA) aoD aoE (fun p=>[7<=p∧p<=14]) acp
theorem seven{p:Int}(h:7<=p∧p<=14):p=7∨p=8∨p=9∨p=10∨p=11∨p=12∨p=13∨p=14:=by omega
theorem aja:Gd OV:=aj9.WX 0 fun n _ hO p hp=>by
 rcases seven (hp _ gZ)with rfl|rfl|rfl|rfl|rfl|rfl|rfl|rfl
 .exact Bo hX (hO n (by omega)) (by kernel_rfl) (.b (rfl:true=true) .er)
 .exact Bo hX (hO n (by omega)) (by kernel_rfl) (.b (rfl:false=false) (.b (rfl:true=true) .er))
 .exact Bo hX (hO n (by omega)) (by kernel_rfl) (.b (rfl:false=false) (.b (rfl:false=false) (.b (rfl:true=true) .er)))
 .exact Bo hX (hO n (by omega)) (by kernel_rfl) (.b (rfl:false=false) (.b (rfl:false=false) (.b (rfl:false=false) (.b (rfl:true=true) .er))))
 .exact Bo hX (hO n (by omega)) (by kernel_rfl) (.b (rfl:false=false) (.b (rfl:false=false) (.b (rfl:false=false) (.b (rfl:false=false) (.b (rfl:true=true) .er)))))
 .exact Bo hX (hO n (by omega)) (by kernel_rfl) (.b (rfl:false=false) (.b (rfl:false=false) (.b (rfl:false=false) (.b (rfl:false=false) (.b (rfl:false=false) (.b (rfl:true=true) .er))))))
 .exact Bo hX (hO n (by omega)) (by kernel_rfl) (.b (rfl:false=false) (.b (rfl:false=false) (.b (rfl:false=false) (.b (rfl:false=false) (.b (rfl:false=false) (.b (rfl:false=false) (.b (rfl:true=true) .er)))))))
 .exact Bo hX (hO n (by omega)) (by kernel_rfl) (.b (rfl:false=false) (.b (rfl:false=false) (.b (rfl:false=false) (.b (rfl:false=false) (.b (rfl:false=false) (.b (rfl:false=false) (.b (rfl:false=false) (.b (rfl:true=true) .er))))))))
theorem aa1{n:Nat}(hO:Ok n OV)(a b:V)(x y:Int):iQ (n+1) (.fn 183 [] [.ptr 0 0 1]) [.int .i64 x,.int .i64 y] [.cells [.fn 146 [] []],.list true true 39 [a,b],.list true true 39 [a,b]] (vA.put (iG Dc x y)) [.cells [.fn 146 [] []],.list true true 39 [a,b],.list true true 39 [a,b]]:=
 jh hO (first:=[]) (.ssh (fun _=>.sr) (fun h=>.o (show y≠0 by simpa using h) .sr))
theorem aa2{n:Nat}(hO:Ok n OV)(a b:V)(x y:Int):iQ (n+1) (.fn 183 [] [.ptr 0 0 1]) [.int .i64 x,.int .i64 y] [.cells [.fn 147 [] []],.list true true 39 [a,b],.list true true 39 [a,b]] (vA.put (iG Df x y)) [.cells [.fn 147 [] []],.list true true 39 [a,b],.list true true 39 [a,b]]:=
 jh hO (first:=[]) (.ssh (fun _=>.sr) (fun h=>.o (show y≠0 by simpa using h) .sr))
theorem aa3{n:Nat}(hO:Ok n OV)(a b:V)(x y:Int):iQ (n+1) (.fn 185 [] [.ptr 0 0 1]) [.int .i64 x,.int .i64 y] [.cells [.fn 149 [] []],.list true true 39 [a,b],.list true true 39 [a,b]] (vA.put (dP Dh x y)) [.cells [.fn 149 [] []],.list true true 39 [a,b],.list true true 39 [a,b]]:=
 jh hO (first:=[]) .sr
theorem aa4{n:Nat}(hO:Ok n OV)(a b:V)(x y:Int):iQ (n+1) (.fn 185 [] [.ptr 0 0 1]) [.int .i64 x,.int .i64 y] [.cells [.fn 150 [] []],.list true true 39 [a,b],.list true true 39 [a,b]] (vA.put (dP Di x y)) [.cells [.fn 150 [] []],.list true true 39 [a,b],.list true true 39 [a,b]]:=
 jh hO (first:=[]) .sr
theorem aa5{n:Nat}(hO:Ok n OV)(a b:V)(x y:Int):iQ (n+1) (.fn 185 [] [.ptr 0 0 1]) [.int .i64 x,.int .i64 y] [.cells [.fn 151 [] []],.list true true 39 [a,b],.list true true 39 [a,b]] (vA.put (dP Dj x y)) [.cells [.fn 151 [] []],.list true true 39 [a,b],.list true true 39 [a,b]]:=
 jh hO (first:=[]) .sr
def ajb:eY aC:=bT 45 (a3 uA vA vA) (dR (a2 vA iA)) (fun p=>Ht p.1 p.2.1 p.2.2) (fun p=>[7<=p.1∧p.1<=16]) OV
theorem aoF:Gd ajb:=aja.deep 1 fun n hn hO p hp=>by
 obtain⟨n,rfl⟩:∃k,n=k+1:=⟨n-1,by omega⟩;have BG:=hO n (by omega);have hO:=hO (n+1) (by omega);obtain⟨k,a,b⟩:=p;rcases nine (show 7<=k∧k<=16 from hp _ gZ)with rfl|rfl|rfl|rfl|rfl|rfl|rfl|rfl|rfl|rfl
 .have:nY X0 Qp (iy (n+1+1)) 45 ((a3 uA vA vA).put (7,a,b)) ((dR (a2 vA iA)).put (rC a b)) []:=aN hO (.b (rfl:false=false) (.b (rfl:false=false) (.o (by decide:(7:Int)<=7∧(7:Int)<=14) (.b (rfl:false=false) (.o Yj (.ss .rr (.o Yj (.ss .rr .rr))))))));exact this
 .have:nY X0 Qp (iy (n+1+1)) 45 ((a3 uA vA vA).put (8,a,b)) ((dR (a2 vA iA)).put (rG a b)) []:=aN hO (.b (rfl:false=false) (.b (rfl:false=false) (.o (by decide:(7:Int)<=8∧(8:Int)<=14) (.b (rfl:false=false) (.o Yj (.ss .rr (.o Yj (.ss .rr .rr))))))));exact this
 .have:nY X0 Qp (iy (n+1+1)) 45 ((a3 uA vA vA).put (9,a,b)) ((dR (a2 vA iA)).put (rH a b)) []:=aN hO (.b (rfl:false=false) (.b (rfl:false=false) (.o (by decide:(7:Int)<=9∧(9:Int)<=14) (.b (rfl:false=false) (.o Yj (.ss .rr (.o Yj (.ss .rr .rr))))))));exact this
 .have:nY X0 Qp (iy (n+1+1)) 45 ((a3 uA vA vA).put (10,a,b)) ((dR (a2 vA iA)).put (oG a b)) []:=aN hO (.b (rfl:false=false) (.b (rfl:false=false) (.o (by decide:(7:Int)<=10∧(10:Int)<=14) (.b (rfl:false=false) (.o Yj (.ss .rr (.o Yj (.ss .rr (.k (aa1 BG a b a.n b.n) .rr)))))))));exact this
 .have:nY X0 Qp (iy (n+1+1)) 45 ((a3 uA vA vA).put (11,a,b)) ((dR (a2 vA iA)).put (oH a b)) []:=aN hO (.b (rfl:false=false) (.b (rfl:false=false) (.o (by decide:(7:Int)<=11∧(11:Int)<=14) (.b (rfl:false=false) (.o Yj (.ss .rr (.o Yj (.ss .rr (.k (aa2 BG a b a.n b.n) .rr)))))))));exact this
 .have:nY X0 Qp (iy (n+1+1)) 45 ((a3 uA vA vA).put (12,a,b)) ((dR (a2 vA iA)).put (oJ a b)) []:=aN hO (.b (rfl:false=false) (.b (rfl:false=false) (.o (by decide:(7:Int)<=12∧(12:Int)<=14) (.b (rfl:false=false) (.o Yj (.ss .rr (.o Yj (.ss .rr (.k (aa3 BG a b a.n b.n) .rr)))))))));exact this
 .have:nY X0 Qp (iy (n+1+1)) 45 ((a3 uA vA vA).put (13,a,b)) ((dR (a2 vA iA)).put (oK a b)) []:=aN hO (.b (rfl:false=false) (.b (rfl:false=false) (.o (by decide:(7:Int)<=13∧(13:Int)<=14) (.b (rfl:false=false) (.o Yj (.ss .rr (.o Yj (.ss .rr (.k (aa4 BG a b a.n b.n) .rr)))))))));exact this
 .have:nY X0 Qp (iy (n+1+1)) 45 ((a3 uA vA vA).put (14,a,b)) ((dR (a2 vA iA)).put (oL a b)) []:=aN hO (.b (rfl:false=false) (.b (rfl:false=false) (.o (by decide:(7:Int)<=14∧(14:Int)<=14) (.b (rfl:false=false) (.o Yj (.ss .rr (.o Yj (.ss .rr (.k (aa5 BG a b a.n b.n) .rr)))))))));exact this
 .have:nY X0 Qp (iy (n+1+1)) 45 ((a3 uA vA vA).put (15,a,b)) ((dR (a2 vA iA)).put (sV a b)) []:=aN hO (.b (rfl:true=true) .rr);exact this
 .have:nY X0 Qp (iy (n+1+1)) 45 ((a3 uA vA vA).put (16,a,b)) ((dR (a2 vA iA)).put (sW a b)) []:=aN hO (.b (rfl:false=false) (.b (rfl:true=true) .rr));exact this
open Go Tw Pv bQ
def ajc:eY aC:=bT 23 (a3 iA iA iA) tA (fun p=>nT p.1 p.2.1 p.2.2) np ajb
theorem aoG:Gd ajc:=aoF.add fun n hO p hp=>aN hO (.ss .rr .rr)
abbrev Kw(a b:LI0)(k:Nat):Bool:=a.getD k 0 != b.getD k 0
abbrev w32(a b:LI0)(i:Int)(x:List (Nat×PE aC)):aS aC:=⟨[(0,xL 3 a),(1,xL 3 b),(5,xi i)]++x,[],[]⟩
def z32(a b:LI0):Unit⊕Nat->Ex×aS aC
 |.inl _=>(.exit 0,w32 a b a.length [(14,xl false)])
 |.inr _=>(.ret,⟨[(4,xl false)],[],[]⟩)
theorem l32{n:Nat}{fO:eY aC}(hO:Ok n fO)(a b:LI0)(hl:a.length<=ah)(h:a.length=b.length):Lp n 32 0 (w32 a b 0 []) (z32 a b (bC (Kw a b) a.length)).1 (z32 a b (bC (Kw a b) a.length)).2:=
 Oy (st:=fun i _=>w32 a b i []) (fun _ _=>True) (by kernel_rfl) hl SB trivial (fun k s n hk _ ih=>aJ hO (.b (aW hk) (.o (aG hk) (.o (aG (h▸hk)) (.ls (.ou nofun) (.nx (ih _ trivial))))))) (fun s _=>aJ hO (.b (eH a.length) (.ou nofun)))
theorem E5{a b:LI0}(h:a.length=b.length):jP (bC (Kw a b) a.length)=decide (a=b):=by rw[a4u,dH,a1o,qX (d:=0) h];simp[Kw]
theorem a6D{a b:LI0}(h:((a.length:Int) != (b.length:Int))=true):decide (a=b)=false:=by rw[a2I];rintro rfl;simp at h
theorem lD{α β:Type}{a:List α}{b:List β}(h:((a.length:Int) != (b.length:Int))=false):a.length=b.length:=by simp at h;omega
def ajd:eY aC:=bT 32 (a2 rJ rJ) tA (fun p=>decide (p.1=p.2)) (fun p=>[p.1.length<=ah]) ajc
theorem aoI:Gd ajd:=aoG.add fun n hO p hp=>aN hO (.s (fun h=>.v false (a6D h).symm) fun h=>.z (c:=jP (bC (Kw p.1 p.2) p.1.length)) (fun h2=>.w (ku (l32 hO p.1 p.2 (hp _ gZ) (lD h)) () h2) (.v true (by rw[<-E5 (lD h),h2]))) fun h2=>.w (kC (l32 hO p.1 p.2 (hp _ gZ) (lD h)) 0 h2) (.v false (by rw[<-E5 (lD h),h2])))
abbrev aa6(a:LI0)(n i:Int)(x:List (Nat×PE aC)):aS aC:=⟨[(0,xL 3 a),(5,xi n),(6,xi i)]++x,[],[]⟩
theorem aoJ{n:Nat}{fO:eY aC}(hO:Ok n fO)(a:LI0)(hl:a.length<=ah):Lp n 104 0 (aa6 a 1 0 []) (.exit 0) (aa6 a (EK a) a.length [(11,xl false)]):=
 Oz (st:=fun i n=>aa6 a n i []) (fin:=fun n=>aa6 a n a.length [(11,xl false)]) (fun _ _=>True) (by kernel_rfl) hl SB trivial (fun _ _ _ _=>trivial) (fun k s hk _ n e p h=>aJ hO (.b (aW hk) (.o (aG hk) (.go h)))) (fun s _=>aJ hO (.b (eH a.length) .ex))
def acr:eY aC:=bT 104 (a2 rJ iA) iA (fun p=>EK p.1) (fun p=>[p.1.length<=ah,p.2=0]) ajd
theorem aje:Gd acr:=aoI.add fun n hO p hp=>by obtain⟨a,k⟩:=p;have h0:k=0:=hp _ yI;subst h0;exact aN hO (.w (aoJ hO a (hp _ gZ)) .rr)
def af4:eY aC:=bT 49 (a1 rJ) iA (fun p=>EK p) (fun p=>[p.length<=ah]) acr
theorem aoK:Gd af4:=aje.add fun n hO p hp=>aN hO (.o (hp _ gZ) (.o (rfl:(0:Int)=0) .rr))
abbrev Kz(b:LI0)(k j:Nat):Bool:=b.getD j 0==b.getD k 0
abbrev a3h(a b:LI0)(i:Int)(x:List (Nat×PE aC)):aS aC:=⟨[(0,xL 3 a),(1,xL 3 b),(5,xi i)]++x,[],[]⟩
def acs(a b:LI0)(k:Int)(i:Int):Unit⊕Nat->Ex×aS aC
 |.inl _=>(.exit 2,a3h a b k [(6,xi i),(29,xl false)])
 |.inr _=>(.ret,⟨[(4,xl false)],[],[]⟩)
theorem acu{n:Nat}{fO:eY aC}(hO:Ok n fO)(a b:LI0)(k:Nat)(hl:k<=ah)(h:k<b.length):Lp n 109 1 (a3h a b k [(6,xi 0)]) (acs a b k k (bC (Kz b k) k)).1 (acs a b k k (bC (Kz b k) k)).2:=
 Oy (st:=fun i _=>a3h a b k [(6,xi i)]) (fun _ _=>True) (by kernel_rfl) hl SB trivial (fun j s n hk _ ih=>aJ hO (.b (aW hk) (.o (aG (show j<b.length by omega)) (.o (aG h) (.ls (.ou nofun) (.nx (ih _ trivial))))))) (fun s _=>aJ hO (.b (eH k) (.ou nofun)))
abbrev Zy(m:Int)(b:LI0)(k:Nat):Bool:=if(!(nT (b.getD k 0) 0 m))=true then true else if jP (bC (Kz b k) k)=true then false else true
def z109(a b:LI0):Unit⊕Nat->Ex×aS aC
 |.inl _=>(.exit 0,a3h a b b.length [(15,xl false)])
 |.inr _=>(.ret,⟨[(4,xl false)],[],[]⟩)
abbrev xw(s:LI0):Int:=i64.wrap ((s.length:Int)-1)
theorem ajf{n:Nat}(hO:Ok n af4)(a b:LI0)(hl:b.length<=ah):Lp n 109 0 (a3h a b 0 []) (z109 a b (bC (Zy (xw a) b) b.length)).1 (z109 a b (bC (Zy (xw a) b) b.length)).2:=
 Oy (st:=fun i _=>a3h a b i []) (fun _ _=>True) (by kernel_rfl) hl SB trivial (fun k s n hk _ ih=>by
  unfold gS Zy;cases h1:(!(nT (b.getD k 0) 0 (xw a)))
  .cases h2:jP (bC (Kz b k) k)
   .exact aJ hO (.b (aW hk) (.o (aG hk) (.b h1 (.w (kC (acu hO a b k (by omega) hk) 0 h2) (.ou nofun)))))
   .exact aJ hO (.b (aW hk) (.o (aG hk) (.b h1 (.w (ku (acu hO a b k (by omega) hk) () h2) (.nx (ih _ trivial))))))
  .exact aJ hO (.b (aW hk) (.o (aG hk) (.b h1 (.ou nofun))))
  ) (fun s _=>aJ hO (.b (eH b.length) (.ou nofun)))
theorem a6E{s:LI0}(h:s.length<=ah):xw s=(s.length:Int)-1:=by unfold xw;unfold ah at h;exact fK (by omega) (by omega)
theorem vH{k lo hi:Int}:nT k lo hi=true↔lo<=k∧k<=hi:=by
 unfold nT;split
 .rename_i h;simp at h ⊢;omega
 rename_i h;simp at h ⊢;omega
theorem Xo{a b:LI0}(ha:a.length<=ah)(h:b.length=a.length):jP (bC (Zy (xw a) b) b.length)=kD a.length b:=by
 rw[a4u,dH,kD,a1o];have e1:(∀j,j<b.length->Zy (xw a) b j=false)↔(∀j,j<b.length->(0<=b.getD j 0∧b.getD j 0<a.length)∧∀i,i<j->b.getD i 0≠b.getD j 0):=by
  refine abG fun j=>abG fun hj=>?_;unfold Zy;rw[a6E ha];cases h1:nT (b.getD j 0) 0 ((a.length:Int)-1)
  .simp only[abp,a1U,aec,false_iff];intro h2;have:nT (b.getD j 0) 0 ((a.length:Int)-1)=true:=by rw[vH];omega
   rw[h1]at this;cases this
  have h3:0<=b.getD j 0∧b.getD j 0<a.length:=by rw[vH]at h1;omega
  simp only[a8N,a2i,a3g,h3,acP,true_and];cases h2:jP (bC (Kz b j) j)
  .simp only[a2i,a3g,aec,false_iff];intro h4;have:jP (bC (Kz b j) j)=true:=dH.2 fun i hi=>(by simpa[Kz]using h4 i hi);rw[h2]at this;cases this
  simp only[a1U,true_iff];intro i hi;have:=dH.1 h2 i hi;simpa[Kz]using this
 rw[e1];constructor
 .intro hq;refine⟨h,(Ox (d:=0)).1 fun j hj=>(hq j hj).1,?_⟩;rw[abM,abR];intro i j hi hj zW;have:=(hq j hj).2 i zW;simpa[List.getD,a0a hi,a0a hj]using this
 rintro⟨_,h2,h3⟩ j hj;refine⟨(Ox (d:=0)).2 h2 j hj,fun i hi=>?_⟩;rw[abM,abR]at h3;have:=h3 i j (by omega) hj hi;simpa[List.getD,a0a (show i<b.length by omega),a0a hj]using this
theorem aa7{a b:LI0}(h:((b.length:Int) != (a.length:Int))=true):kD a.length b=false:=by unfold kD;rw[a2I];rintro⟨h1,_⟩;rw[h1]at h;simp at h
def a6F:eY aC:=bT 109 (a2 rJ rJ) tA (fun p=>kD p.1.length p.2) (fun p=>[p.1.length<=ah,p.2.length<=ah]) af4
theorem ajg:Gd a6F:=aoK.add fun n hO p hp=>aN hO (.s (fun h=>.v false (aa7 h).symm) fun h=>.z (c:=jP (bC (Zy (xw p.1) p.2) p.2.length)) (fun h2=>.w (ku (ajf hO p.1 p.2 (hp _ yI)) () h2) (.v true (by rw[<-Xo (hp _ gZ) (lD h),h2]))) fun h2=>.w (kC (ajf hO p.1 p.2 (hp _ yI)) 0 h2) (.v false (by rw[<-Xo (hp _ gZ) (lD h),h2])))
abbrev cSz(a:LI0)(k:Nat):Bool:=!(nT (a.getD k 0) 1 12)
theorem aa8{a:LI0}:jP (bC (cSz a) a.length)=decide (qh a):=by rw[a4u,dH,a1o,qh,<-Ox (d:=0)];refine abG fun j=>abG fun hj=>?_;simp only[cSz,aby,vH]
abbrev w58(a b:LI0)(i:Int)(x:List (Nat×PE aC)):aS aC:=⟨[(0,xL 3 a),(1,xL 3 b),(5,xi i)]++x,[],[]⟩
def z58(a b:LI0):Unit⊕Nat->Ex×aS aC
 |.inl _=>(.exit 0,w58 a b a.length [(12,xl false)])
 |.inr _=>(.ret,⟨[(4,xi 3)],[],[]⟩)
theorem l58{n:Nat}(hO:Ok n a6F)(a b:LI0)(hl:a.length<=ah):Lp n 58 0 (w58 a b 0 []) (z58 a b (bC (cSz a) a.length)).1 (z58 a b (bC (cSz a) a.length)).2:=
 Oy (st:=fun i _=>w58 a b i []) (fun _ _=>True) (by kernel_rfl) hl SB trivial (fun k s n hk _ ih=>aJ hO (.b (aW hk) (.o (aG hk) (.ls (.ou nofun) (.nx (ih _ trivial)))))) (fun s _=>aJ hO (.b (eH a.length) (.ou nofun)))
def dh(s o:LI0):Int:=if decide ((s.length:Int)>6)=true then 5 else if jP (bC (cSz s) s.length)=true then(if decide (EK s>2000)=true then 5 else if(!(kD s.length o))=true then 4 else 0)else 3
theorem aa9{s:LI0}(h:decide ((s.length:Int)>6)=false):s.length<=6:=by simp at h;omega
theorem a1h{k:Nat}(h:k<=6):k<=ah:=by unfold ah;omega
def aji:eY aC:=bT 58 (a2 rJ rJ) iA (fun p=>dh p.1 p.2) (fun p=>[p.2.length<=ah]) a6F
theorem aoM:Gd aji:=ajg.add fun n hO p hp=>aN hO (.sh (fun _=>.rr) fun h=>.zh (fun h2=>.w (ku (l58 hO p.1 p.2 (a1h (aa9 h))) () h2) (.o (a1h (aa9 h)) (.o (rfl:(0:Int)=0) (.ss .rr (.o (a1h (aa9 h)) (.o (hp _ gZ) (.ss .rr .rr))))))) fun h2=>.w (kC (l58 hO p.1 p.2 (a1h (aa9 h))) 0 h2) .rr)
theorem OW(s o:LI0):dh s o=if 6<s.length then 5 else if qh s then(if 2000<bD s then 5 else if kD s.length o=true then 0 else 4)else 3:=by
 unfold dh;rw[aa8];by_cases h1:6<s.length
 .rw[a0g h1,a0g (by simp;omega)]
 rw[a0c h1,a0c (by simp;omega)];by_cases h2:qh s
 .rw[a0g (by simpa using h2),a0g h2,X6 h2];by_cases h3:2000<bD s
  .rw[a0g h3,a0g (by simp;omega)]
  rw[a0c h3,a0c (by simp;omega)];cases kD s.length o<;>simp
 rw[a0c (by simpa using h2),a0c h2]
theorem mF{s o:LI0}:dh s o=0↔wH s∧kD s.length o=true:=by
 rw[OW];constructor
 .intro h;split at h
  .cases h
  split at h
  .split at h
   .cases h
   split at h
   .exact⟨⟨by omega,by assumption,by omega⟩,by assumption⟩
   cases h
  cases h
 rintro⟨⟨h1,h2,h3⟩,h4⟩;rw[a0c (by omega),a0g h2,a0c (by omega),a0g h4]
abbrev w53(a:LI0)(i:Int)(s:Int×LI0)(x:List (Nat×PE aC)):aS aC:=⟨[(0,xL 3 a),(1,xi s.1),(5,xo 0),(6,xi i)]++x,[],[.list true true 3 s.2]⟩
theorem szk{a:LI0}(hs:qh a){k:Nat}(hk:k<a.length):a.getD k 0≠0:=by have:=hs _ (eu hk);omega
theorem af5(k:Nat):decide ((k:Int)>=0)=true:=by simp
theorem l53{n:Nat}{fO:eY aC}(hO:Ok n fO)(a:LI0)(m:Int)(hl:a.length<=ah)(hs:qh a):Lp n 53 0 (w53 a (i64.wrap ((a.length:Int)-1)) (m,List.replicate a.length 0) []) (.exit 0) (w53 a (-1) (Ov (a2Q a) a.length (m,List.replicate a.length 0)) [(14,xl false)]):=
 aiz (st:=fun i s=>w53 a i s []) (fin:=fun s=>w53 a (-1) s [(14,xl false)]) (fun _ s=>s.2.length=a.length) (by kernel_rfl) hl SB (by simp) (fun k s _ h=>by simp[a2Q,h]) (fun k s hk hi n e p h=>aJ hO (.b (af5 k) (.o (aG hk) (.o (szk hs hk) (.o (aG (show k<s.2.length by omega)) (.o (aG hk) (.o (szk hs hk) (.go h)))))))) (fun s _=>aJ hO (.b (rfl:decide ((-1:Int)>=0)=false) .ex))
theorem mk1{α:Type}(l:List α):(l.length:Int)=(l.length:Int):=rfl
theorem mk2{α:Type}(l:List α):(0:Int)<=(l.length:Int):=by omega
theorem mk3{α:Type}{l:List α}(h:l.length<=ah):(l.length:Int)<=(ah:Int):=by omega
def ajj:eY aC:=bT 53 (a2 rJ iA) rJ (fun p=>ng p.1 p.2) (fun p=>[p.1.length<=ah,qh p.1,0<=p.2,p.2<2^62]) aji
theorem aoN:Gd ajj:=aoM.add fun n hO p hp=>aN hO (.o (mk1 p.1) (.o (mk2 p.1) (.o (mk3 (hp _ gZ)) (.w (l53 hO p.1 p.2 (hp _ gZ) (hp _ yI)) (.v (Ov (a2Q p.1) p.1.length (p.2,List.replicate p.1.length 0)).2 (a6k (hp _ yI) (hp _ hh2) (hp _ (.tail _ (.tail _ (.tail _ (.head _))))) a8A))))))
def vOk(v:V):Bool:=if(v.f==0)=true then nT v.n (-9999) 9999 else if(decide (v.f<=4))=true then v.n==0 else false
def ajk:eY aC:=bT 29 (a1 vA) tA (fun p=>vOk p) np ajj
theorem aoO:Gd ajk:=aoN.add fun n hO p hp=>aN hO (.ss .rr (.ss .rr .rr))
def vIs(v:V):Bool:=if(decide (v.f>0))=true then(if(decide (v.f<=4))=true then v.n==0 else false)else nT v.n (-9999) 9999
theorem af6{v:V}(h:0<=v.f):vOk v=vIs v:=by
 unfold vOk vIs;by_cases h0:v.f=0
 .rw[a0g (by simp[h0]),a0c (by simp;omega)]
 have:v.f>0:=by omega
 simp[h0,this]
open Go Tw Pv bQ
def dN(n:Nat):LI0:=(List.range n).map fun(k:Nat)=>(k:Int)
theorem lF(n:Nat):(dN n).length=n:=by simp[dN]
theorem SC(n:Nat):kD n (dN n)=true:=by
 unfold kD;rw[a1o];refine⟨lF n,fun a ha=>?_,?_⟩
 .simp only[dN,a1g,a4i]at ha;obtain⟨k,h1,rfl⟩:=ha;omega
 unfold dN;exact List.Pairwise.map _ (fun a b h=>by omega) adJ
open Go Tw Pv bQ
abbrev V.tv(v:V):TV:=.agg [.int .u8 v.f,.int .i64 v.n]
theorem a3i:Tryz.prog.underlying 3=some (.int .i64):=by kernel_rfl
theorem uU8:Tryz.prog.underlying 5=some (.int .u8):=by kernel_rfl
theorem af7 : Tryz.prog.underlying 39 = some (.struct #[⟨"Fault", 5, 0, false, "", "", 0⟩, ⟨"N", 3, 1, false, "", "", 8⟩]) := by kernel_rfl
theorem a1i(d:Nat)(a b:V):aB Qp (Op.equalIn (d+2) 39 (.agg #[.int .u8 a.f,.int .i64 a.n]) (.agg #[.int .u8 b.f,.int .i64 b.n]))=some (decide (a=b)):=by
 rw[xU (d+1) 39 _ _ _ af7 (by kernel_rfl)];have p0:∀x y:LI3,aB Qp (part 5 #[x,y] 0)=some x:=by intro x y;kernel_rfl
 have p1:∀x y:LI3,aB Qp (part 3 #[x,y] 1)=some y:=by intro x y;kernel_rfl
 have n1 : ("Fault" : String) ≠ "_" := by decide
 have n2 : ("N" : String) ≠ "_" := by decide
 have q1 := oq (f := ⟨"Fault", 5, 0, false, "", "", 0⟩) (fs := [⟨"N", 3, 1, false, "", "", 8⟩]) n1 (p0 (.int .u8 a.f) (.int .i64 a.n)) (p0 (.int .u8 b.f) (.int .i64 b.n)) (qO d _ _ _ _ _ uU8);have q2 := oq (f := ⟨"N", 3, 1, false, "", "", 8⟩) (fs := []) n2 (p1 (.int .u8 a.f) (.int .i64 a.n)) (p1 (.int .u8 b.f) (.int .i64 b.n)) (qO d _ _ _ _ _ a3i);rw[q1,q2];rw[show aB Qp (Op.eqFields (d+1) #[.int .u8 a.f,.int .i64 a.n] #[.int .u8 b.f,.int .i64 b.n] [])=some true from rfl];rcases a with⟨a1,a2⟩;rcases b with⟨b1,b2⟩;by_cases h1:a1=b1<;>by_cases h2:a2=b2<;>simp[h1,h2]
theorem eqV(x y:Operand)(a b:V):su Qp .eql 39 x y (V.tv a) (V.tv b)=some (.bool (decide (a=b))):=(Gy rfl rfl (by kernel_rfl) (by decide) (a1i 9998 a b)).1
theorem neV(x y:Operand)(a b:V):su Qp .neq 39 x y (V.tv a) (V.tv b)=some (.bool (!decide (a=b))):=(Gy rfl rfl (by kernel_rfl) (by decide) (a1i 9998 a b)).2
open Go Tw Pv bQ
abbrev cAl(a b:List V)(k:Nat):Bool:=!decide (a.getD k V0=b.getD k V0)
abbrev w75(a b:List V)(i:Int)(x:List (Nat×PE aC)):aS aC:=⟨[(0,xL 39 a),(1,xL 39 b),(5,xi i)]++x,[],[]⟩
def z75(a b:List V):Unit⊕Nat->Ex×aS aC
 |.inl _=>(.exit 0,w75 a b a.length [(14,xl false)])
 |.inr _=>(.ret,⟨[(4,xl false)],[],[]⟩)
theorem l75{n:Nat}{fO:eY aC}(hO:Ok n fO)(a b:List V)(hl:a.length<=ah)(h:a.length=b.length):Lp n 75 0 (w75 a b 0 []) (z75 a b (bC (cAl a b) a.length)).1 (z75 a b (bC (cAl a b) a.length)).2:=
 Oy (st:=fun i _=>w75 a b i []) (fun _ _=>True) (by kernel_rfl) hl SB trivial (fun k s n hk _ ih=>aJ hO (.b (aW hk) (.o (aG hk) (.o (aG (h▸hk)) (.q (.bool (cAl a b k)) (neV (.tmp 20) (.tmp 24) (a.getD k V0) (b.getD k V0)) (.ls (.ou nofun) (.nx (ih _ trivial)))))))) (fun s _=>aJ hO (.b (eH a.length) (.ou nofun)))
theorem a1j{a b:List V}(h:a.length=b.length):jP (bC (cAl a b) a.length)=decide (a=b):=by rw[a4u,dH,a1o,qX (d:=V0) h];simp[cAl]
theorem aac{a b:List V}(h:((a.length:Int) != (b.length:Int))=true):decide (a=b)=false:=by rw[a2I];rintro rfl;simp at h
def ajl:eY aC:=bT 75 (a2 Zx Zx) tA (fun p=>decide (p.1=p.2)) (fun p=>[p.1.length<=ah]) ajk
theorem aoR:Gd ajl:=aoO.add fun n hO p hp=>aN hO (.s (fun h=>.v false (aac h).symm) fun h=>.z (c:=jP (bC (cAl p.1 p.2) p.1.length)) (fun h2=>.w (ku (l75 hO p.1 p.2 (hp _ gZ) (lD h)) () h2) (.v true (by rw[<-a1j (lD h),h2]))) fun h2=>.w (kC (l75 hO p.1 p.2 (hp _ gZ) (lD h)) 0 h2) (.v false (by rw[<-a1j (lD h),h2])))
open Go Tw Pv bQ
abbrev RhB(n f k B m:Nat)(s:aS aC)(e:Ex)(p:aS aC):Prop:=dI X0 Qp T (iy n) LL f false (BJ Qp f) B (RS Qp f k) m s e p
abbrev hdP(f k:Nat)(w:aS aC):aS aC:=gJ X0 (T.eX f (dQ (RS Qp f k))) w
section
variable {n f k B N:Nat} {σ ρ:Type}
theorem rM{st:Int->σ->aS aC}{g:Nat->σ->σ}{e:Ex}{fin:σ->aS aC}{s0:σ}{w:aS aC}(Inv:Nat->σ->Prop)(h0:hdP f k w=st 0 s0)(hl:N<=ah)(hi:Inv 0 s0)(hv:∀j s,j<N->Inv j s->Inv (j+1) (g j s))
  (hs:∀(j:Nat) (s:σ),j<N->Inv j s->∀m e1 p,RhB n f k B m (st (i64.wrap (j+1)) (g j s)) e1 p->RhB n f k B (m+1) (st j s) e1 p)
  (ho:∀s,Inv N s->RhB n f k B 1 (st N s) e (fin s)):MC n f k B w e (fin (aU g N 0 s0)):=Oz Inv h0 hl SB hi hv hs ho
theorem iK{st:Int->σ->aS aC}{g:Nat->σ->σ⊕ρ}{out:σ⊕ρ->Ex×aS aC}{s0:σ}{w:aS aC}(Inv:Nat->σ->Prop)(h0:hdP f k w=st 0 s0)(hl:N<=ah)(hi:Inv 0 s0)
  (hs:∀(j:Nat) (s:σ) (m:Nat),j<N->Inv j s->(∀s1,Inv (j+1) s1->RhB n f k B m (st (i64.wrap (j+1)) s1) (uY (X:=X0) out g (N-(j+1)) (j+1) (.inl s1)).1 (uY (X:=X0) out g (N-(j+1)) (j+1) (.inl s1)).2) ->
   RhB n f k B (m+1) (st j s) (uY (X:=X0) out g (N-(j+1)) (j+1) (g j s)).1 (uY (X:=X0) out g (N-(j+1)) (j+1) (g j s)).2)
  (ho:∀s,Inv N s->RhB n f k B 1 (st N s) (out (.inl s)).1 (out (.inl s)).2):MC n f k B w (out (iZ g N 0 s0)).1 (out (iZ g N 0 s0)).2:=Oy Inv h0 hl SB hi hs ho
theorem a1k{a:Nat}{st:Int->σ->aS aC}{g:Nat->σ->σ⊕ρ}{out:σ⊕ρ->Ex×aS aC}{s0:σ}{w:aS aC}(Inv:Nat->σ->Prop)(h0:hdP f k w=st a s0)(ha:a<=N)(hl:N<=ah)(hi:Inv a s0)
  (hs:∀(j:Nat) (s:σ) (m:Nat),a<=j->j<N->Inv j s->(∀s1,Inv (j+1) s1->RhB n f k B m (st (i64.wrap (j+1)) s1) (uY (X:=X0) out g (N-(j+1)) (j+1) (.inl s1)).1 (uY (X:=X0) out g (N-(j+1)) (j+1) (.inl s1)).2) ->
   RhB n f k B (m+1) (st j s) (uY (X:=X0) out g (N-(j+1)) (j+1) (g j s)).1 (uY (X:=X0) out g (N-(j+1)) (j+1) (g j s)).2)
  (ho:∀s,Inv N s->RhB n f k B 1 (st N s) (out (.inl s)).1 (out (.inl s)).2):MC n f k B w (out (iZ g (N-a) a s0)).1 (out (iZ g (N-a) a s0)).2:=aeI Inv h0 ha hl SB hi hs ho
theorem Zz{st:σ->aS aC}{g:σ->σ⊕ρ}{out:ρ->Ex×aS aC}(Inv:σ->Prop){m:Nat}{s:σ}{r:ρ}{w:aS aC}(hr:itF g m s=some r)(h0:hdP f k w=st s)(hk:m<=LL)(hv:Inv s)(hi:∀s s1,Inv s->g s=.inl s1->Inv s1)
  (hs:∀s m r,Inv s->(∀s1,g s=.inl s1->RhB n f k B m (st s1) (out r).1 (out r).2)->RhB n f k B (m+1) (st s) (CY (X:=X0) out r (g s)).1 (CY (X:=X0) out r (g s)).2):MC n f k B w (out r).1 (out r).2:=aeG Inv hr h0 hk hv hi hs
end
open Go Tw Pv bQ
structure Prt(l:List V)(w n:Nat):Prop where
 n12:n<=12
 w2:w<=5000
 len:l.length=n*w
section
variable {l:List V} {w n j:Nat} (h:Prt l w n)
include h
end
theorem Jl{α β:Type}(l:List α)(d:α)(f:α->β):(List.range l.length).map (fun k=>f (l.getD k d))=l.map f:=by
 apply a9R (by simp);intro i h1 h2;have:i<l.length:=by simpa using h1
 simp[List.getD,a0a this]
open Go Tw Pv bQ
theorem a6H{s p:LI0}{ch d:Int}(hp:ni s p=true)(hc:gW ch s.length)(hd:gW d (s.getD ch.toNat 0).toNat):ni s (p.set ch.toNat d)=true:=by
 rw[wI]at hp ⊢;obtain⟨c1,c2⟩:=hc;obtain⟨d1,d2⟩:=hd;refine⟨by simp[hp.1],fun j hj=>?_⟩;rw[yV (by omega)];split
 .rename_i e;subst e;omega
 exact hp.2 j hj
open Go Tw Pv bQ
abbrev aj(d:Dg)(r:Int):Br:=d.au.getD r.toNat ny
abbrev OX(d:Dg)(r:Int)(k:Nat):Bool:=d.aH.getD k 0==(aj d r).var
abbrev a3j(d:Dg)(r i:Int)(x:List (Nat×PE aC)):aS aC:=⟨[(1,xi r),(2,.loc 0 0),(5,xi i)]++x,[d.ps],[]⟩
def ajm(d:Dg)(r:Int)(N:Nat):Unit⊕Nat->Ex×aS aC
 |.inl _=>(.exit 0,a3j d r N [(14,xl false)])
 |.inr k=>(.ret,⟨[(4,xi k)],[d.ps],[]⟩)
theorem ajn{r:Int}(h:0<=r):decide (r>=0)=true:=by simpa using h
theorem ajo{n:Nat}{fO:eY aC}(hO:Ok n fO)(d:Dg)(r:Int)(hl:d.aH.length<=ah)(h:gW r d.au.length):Lp n 177 0 (a3j d r 0 []) (ajm d r d.aH.length (bC (OX d r) d.aH.length)).1 (ajm d r d.aH.length (bC (OX d r) d.aH.length)).2:=
 iK (st:=fun i _=>a3j d r i []) (fun _ _=>True) (by kernel_rfl) hl trivial (fun k s m hk _ ih=>aJ hO (.b (ajn h.1) (.b (aW hk) (.o (aG hk) (.o h (.ls (.ou nofun) (.nx (ih _ trivial)))))))) (fun s _=>aJ hO (.b (ajn h.1) (.b (eH d.aH.length) (.ou nofun))))
theorem ajp{n:Nat}{fO:eY aC}(hO:Ok n fO)(d:Dg)(r:Int)(h:r<0):Lp n 177 0 (a3j d r 0 []) (.exit 0) (a3j d r 0 [(14,xl false)]):=
 zn (ps:=a3j d r 0 []) (aJ hO (.b (show decide (r>=0)=false by simpa using h) .ex)) (by kernel_rfl) (by decide:1<=LL)
def tH(d:Dg)(r:Int):Int:=if decide (r<0)=true then(d.aH.length:Int)else if jP (bC (OX d r) d.aH.length)=true then(d.aH.length:Int)else((CX 0 (bC (OX d r) d.aH.length):Nat):Int)
def acw:eY aC:=bT 177 (a2 dA iA) iA (fun p=>tH p.1 p.2) (fun p=>[p.1.aH.length<=ah,0<=p.2->gW p.2 p.1.au.length]) ajl
theorem ajq:Gd acw:=aoR.add fun n hO p hp=>aN hO (.zh (fun h=>.w (ajp hO p.1 p.2 (by simpa using h)) .rr) fun h=>.zh (fun h2=>.w (ku (ajo hO p.1 p.2 (hp _ gZ) (hp (0<=p.2->gW p.2 p.1.au.length) (.tail _ (.head _)) (by simpa using h))) () h2) .rr) fun h2=>.w (kC (ajo hO p.1 p.2 (hp _ gZ) (hp (0<=p.2->gW p.2 p.1.au.length) (.tail _ (.head _)) (by simpa using h))) 0 h2) .rr)
def iL(d:Dg)(r below:Int):Bool:=if decide (r>=0)=true then decide (r<below)else nT (i64.wrap (-1-r)) 0 (i64.wrap ((d.aO.length:Int)-1))
def acy:eY aC:=bT 176 (a3 dA iA iA) tA (fun p=>iL p.1 p.2.1 p.2.2) np acw
theorem ajr:Gd acy:=ajq.add fun n hO p hp=>aN hO (.ss .rr .rr)
abbrev OY(b:Br)(k:Nat):Bool:=b.ay.getD k 0 != b.ay.getD 0 0
abbrev af8(b:Br)(i:Int)(x:List (Nat×PE aC)):aS aC:=⟨[(1,.loc 0 0),(3,xi i)]++x,[b.ps],[]⟩
def ajs(b:Br):Unit⊕Nat->Ex×aS aC
 |.inl _=>(.exit 0,af8 b (max 1 b.ay.length:Nat) [(8,xl false)])
 |.inr _=>(.ret,⟨[(2,xl false)],[b.ps],[]⟩)
theorem ajt{n:Nat}{fO:eY aC}(hO:Ok n fO)(b:Br)(hl:b.ay.length<=ah):Lp n 132 0 (af8 b 1 []) (ajs b (RX (OY b) 1 (max 1 b.ay.length))).1 (ajs b (RX (OY b) 1 (max 1 b.ay.length))).2:=
 a1k (st:=fun i _=>af8 b i []) (fun _ _=>True) (by kernel_rfl) (by omega) (by unfold ah at *;omega) trivial (fun k s m h1 hk _ ih=>aJ hO (.b (aW (show k<b.ay.length by omega)) (.o (aG (show k<b.ay.length by omega)) (.o (show gW 0 b.ay.length from⟨by omega,by omega⟩) (.ls (.ou nofun) (.nx (ih _ trivial))))))) (fun s _=>aJ hO (.b (show decide (((max 1 b.ay.length:Nat):Int)<(b.ay.length:Int))=false by simp only[a2I];omega) (.ou nofun)))
def Dk(b:Br):Bool:=if jP (RX (OY b) 1 (max 1 b.ay.length))=true then true else false
def acz:eY aC:=bT 132 (a1 brA) tA (fun p=>Dk p) (fun p=>[p.ay.length<=ah]) acy
theorem aju:Gd acz:=ajr.add fun n hO p hp=>aN hO (.zh (fun h=>.w (ku (ajt hO p (hp _ gZ)) () h) .rr) fun h=>.w (kC (ajt hO p (hp _ gZ)) 0 h) .rr)
abbrev SE(l:LI0)(n:Int)(k:Nat):Bool:=l.getD k 0==n
abbrev af9(l:LI0)(m i:Int)(x:List (Nat×PE aC)):aS aC:=⟨[(0,xL 3 l),(1,xi m),(5,xi i)]++x,[],[]⟩
def ajv(l:LI0)(m:Int):Unit⊕Nat->Ex×aS aC
 |.inl _=>(.exit 0,af9 l m l.length [(9,xl false)])
 |.inr _=>(.ret,⟨[(4,xl true)],[],[]⟩)
theorem ajw{n:Nat}{fO:eY aC}(hO:Ok n fO)(l:LI0)(m:Int)(hl:l.length<=ah):Lp n 178 0 (af9 l m 0 []) (ajv l m (bC (SE l m) l.length)).1 (ajv l m (bC (SE l m) l.length)).2:=
 iK (st:=fun i _=>af9 l m i []) (fun _ _=>True) (by kernel_rfl) hl trivial (fun k s m hk _ ih=>aJ hO (.b (aW hk) (.o (aG hk) (.ls (.ou nofun) (.nx (ih _ trivial)))))) (fun s _=>aJ hO (.b (eH l.length) (.ou nofun)))
theorem SG{l:LI0}{m:Int}:jP (bC (SE l m) l.length)=!decide (m∈l):=by
 rw[a4u,dH];simp only[a8C,a2I];constructor
 .intro h hm;obtain⟨j,hj,e⟩:=a4v.1 hm;have:=h j hj;simp[SE,List.getD,a0a hj,e]at this
 intro h j hj;have e:l.getD j 0=l[j]:=by simp[List.getD,a0a hj]
 simp only[SE,agQ,ne_eq,e];intro e2;exact h (e2▸a4q hj)
def acA:eY aC:=bT 178 (a2 rJ iA) tA (fun p=>decide (p.2∈p.1)) (fun p=>[p.1.length<=ah]) acz
theorem ajx:Gd acA:=aju.add fun n hO p hp=>aN hO (.z (c:=jP (bC (SE p.1 p.2) p.1.length)) (fun h=>.w (ku (ajw hO p.1 p.2 (hp _ gZ)) () h) (.v false (by rw[SG]at h;simp at h;simp[h]))) fun h=>.w (kC (ajw hO p.1 p.2 (hp _ gZ)) 0 h) (.v true (by rw[SG]at h;simp at h;simp[h])))
abbrev a6I(l:LI0)(k:Nat):Bool:=l.getD k 0 != (k:Int)
abbrev afa(l:LI0)(m i:Int)(x:List (Nat×PE aC)):aS aC:=⟨[(0,xL 3 l),(1,xi m),(5,xi i)]++x,[],[]⟩
def ajy(l:LI0)(m:Int):Unit⊕Nat->Ex×aS aC
 |.inl _=>(.exit 0,afa l m l.length [(9,xl false)])
 |.inr _=>(.ret,⟨[(4,xl false)],[],[]⟩)
theorem ajz{n:Nat}{fO:eY aC}(hO:Ok n fO)(l:LI0)(m:Int)(hl:l.length<=ah):Lp n 134 0 (afa l m 0 []) (ajy l m (bC (a6I l) l.length)).1 (ajy l m (bC (a6I l) l.length)).2:=
 iK (st:=fun i _=>afa l m i []) (fun _ _=>True) (by kernel_rfl) hl trivial (fun k s m hk _ ih=>aJ hO (.b (aW hk) (.o (aG hk) (.ls (.ou nofun) (.nx (ih _ trivial)))))) (fun s _=>aJ hO (.b (eH l.length) (.ou nofun)))
def zB(l:LI0)(m:Int):Bool:=if jP (bC (a6I l) l.length)=true then((l.length:Int)==m)else false
def Xp:eY aC:=bT 134 (a2 rJ iA) tA (fun p=>zB p.1 p.2) (fun p=>[p.1.length<=ah]) acA
theorem ajA:Gd Xp:=ajx.add fun n hO p hp=>aN hO (.zh (fun h=>.w (ku (ajz hO p.1 p.2 (hp _ gZ)) () h) .rr) fun h=>.w (kC (ajz hO p.1 p.2 (hp _ gZ)) 0 h) .rr)
abbrev cLk(d:Dg)(i k:Nat):Bool:=if(!(iL d ((d.au.getD i ny).ay.getD k 0) i))=true then true else decide (tH d ((d.au.getD i ny).ay.getD k 0)<=tH d i)
abbrev fD(d:Dg)(i:Nat):Br:=d.au.getD i ny
abbrev a6J(d:Dg)(i k:Int)(b:Br)(x:List (Nat×PE aC)):aS aC:=⟨[(1,.loc 0 0),(4,xi i),(5,.loc 1 0),(6,xi k)]++x,[d.ps,b.ps],[]⟩
def acB(d:Dg)(i:Nat):Unit⊕Nat->Ex×aS aC
 |.inl _=>(.exit 4,a6J d i (fD d i).ay.length (fD d i) [(57,xl false)])
 |.inr _=>(.ret,⟨[(2,xl false)],[d.ps,(fD d i).ps],[]⟩)
structure DgL(d:Dg):Prop where
 aH:d.aH.length<=ah
 au:d.au.length<=ah
 aO:d.aO.length<=ah
 eF:wH d.aA
theorem Xq{d:Dg}{r:Int}{i:Nat}(h:iL d r i=true)(h0:0<=r)(hi:i<=d.au.length):gW r d.au.length:=by
 unfold iL at h;rw[a0g (by simpa using h0)]at h;have:r<(i:Int):=by simpa using h
 exact⟨h0,by omega⟩
theorem ajB{n:Nat}(hO:Ok n Xp){d:Dg}(h:DgL d){i:Nat}(hi:i<d.au.length)(hk:(fD d i).ay.length<=ah):Lp n 131 2 (a6J d i 0 (fD d i) []) (acB d i (bC (cLk d i) (fD d i).ay.length)).1 (acB d i (bC (cLk d i) (fD d i).ay.length)).2:=
 iK (st:=fun k _=>a6J d i k (fD d i) []) (fun _ _=>True) (by kernel_rfl) hk trivial (fun k s m hk _ ih=>by
  unfold gS cLk;cases e1:iL d ((fD d i).ay.getD k 0) i
  .exact aJ hO (.b (aW hk) (.o (aG hk) (.b (show(!(iL d ((fD d i).ay.getD k 0) i))=true by rw[e1];rfl) (.ou nofun))))
  .exact aJ hO (.b (aW hk) (.o (aG hk) (.b (show(!(iL d ((fD d i).ay.getD k 0) i))=false by rw[e1];rfl) (.o (aG hk) (.o h.aH (.o (show 0<=(fD d i).ay.getD k 0->gW ((fD d i).ay.getD k 0) d.au.length from fun h0=>Xq e1 h0 (by omega)) (.o h.aH (.o (show 0<=((i:Nat):Int)->gW i d.au.length from fun _=>aG hi) (.ls (.ou nofun) (.nx (ih _ trivial)))))))))))
  ) (fun s _=>aJ hO (.b (eH (fD d i).ay.length) (.ou nofun)))
abbrev ZA(d:Dg)(i:Nat):Bool:=if(!(nT (fD d i).var 0 (xw d.aA)))=true then true else if(((fD d i).ay.length:Int) != d.aA.getD (fD d i).var.toNat 0)=true then true else if jP (bC (cLk d i) (fD d i).ay.length)=true then false else true
abbrev a6K(d:Dg)(i:Int)(x:List (Nat×PE aC)):aS aC:=⟨[(1,.loc 0 0),(4,xi i)]++x,[d.ps],[]⟩
def acC(d:Dg):Unit⊕Nat->Ex×aS aC
 |.inl _=>(.exit 2,a6K d d.au.length [(25,xl false)])
 |.inr k=>(.ret,⟨[(2,xl false)],[d.ps,(fD d k).ps],[]⟩)
theorem Jm{d:Dg}(h:wH d.aA){v:Int}(e:nT v 0 (xw d.aA)=true):gW v d.aA.length:=by rw[vH,a6E h.aiA]at e;exact⟨e.1,by omega⟩
theorem Xr{d:Dg}(h:wH d.aA){v:Int}(e:gW v d.aA.length){l:LI0}(hl:(((l.length:Int)) != d.aA.getD v.toNat 0)=false):l.length<=12:=by
 have:=h.sz _ (eu (s:=d.aA) (k:=v.toNat) (by have:=e.2;have:=e.1;omega));have hl:(l.length:Int)=d.aA.getD v.toNat 0:=by simpa using hl
 omega
theorem m12{k:Nat}(h:k<=12):k<=ah:=by unfold ah;omega
theorem acD{n:Nat}(hO:Ok n Xp){d:Dg}(h:DgL d):Lp n 131 1 (a6K d 0 []) (acC d (bC (ZA d) d.au.length)).1 (acC d (bC (ZA d) d.au.length)).2:=
 iK (st:=fun k _=>a6K d k []) (fun _ _=>True) (by kernel_rfl) h.au trivial (fun k s m hk _ ih=>by
  unfold gS ZA;cases e1:nT (fD d k).var 0 (xw d.aA)
  .exact aJ hO (.b (aW hk) (.o (aG hk) (.b (show(!(nT (fD d k).var 0 (xw d.aA)))=true by rw[e1];rfl) (.ou nofun))))
  .have hv:=Jm h.eF e1;cases e2:(((fD d k).ay.length:Int) != d.aA.getD (fD d k).var.toNat 0)
   .have hl:=ajB hO h hk (m12 (Xr h.eF hv e2));cases e3:jP (bC (cLk d k) (fD d k).ay.length)
    .exact aJ hO (.b (aW hk) (.o (aG hk) (.b (show(!(nT (fD d k).var 0 (xw d.aA)))=false by rw[e1];rfl) (.o hv (.b e2 (.w (kC hl 0 e3) (.ou nofun)))))))
    .exact aJ hO (.b (aW hk) (.o (aG hk) (.b (show(!(nT (fD d k).var 0 (xw d.aA)))=false by rw[e1];rfl) (.o hv (.b e2 (.w (ku hl () e3) (.nx (ih _ trivial))))))))
   .exact aJ hO (.b (aW hk) (.o (aG hk) (.b (show(!(nT (fD d k).var 0 (xw d.aA)))=false by rw[e1];rfl) (.o hv (.b e2 (.ou nofun))))))
  ) (fun s _=>aJ hO (.b (eH d.au.length) (.ou nofun)))
abbrev cLe(d:Dg)(k:Nat):Bool:=!(vOk (d.aO.getD k V0))
abbrev a6M(d:Dg)(i:Int)(x:List (Nat×PE aC)):aS aC:=⟨[(1,.loc 0 0),(3,xi i)]++x,[d.ps],[]⟩
def acE(d:Dg):Unit⊕Nat->Ex×aS aC
 |.inl _=>(.exit 0,a6M d d.aO.length [(11,xl false)])
 |.inr _=>(.ret,⟨[(2,xl false)],[d.ps],[]⟩)
theorem acF{n:Nat}(hO:Ok n Xp){d:Dg}(h:DgL d):Lp n 131 0 (a6M d 0 []) (acE d (bC (cLe d) d.aO.length)).1 (acE d (bC (cLe d) d.aO.length)).2:=
 iK (st:=fun k _=>a6M d k []) (fun _ _=>True) (by kernel_rfl) h.aO trivial (fun k s m hk _ ih=>aJ hO (.b (aW hk) (.o (aG hk) (.ls (.ou nofun) (.nx (ih _ trivial)))))) (fun s _=>aJ hO (.b (eH d.aO.length) (.ou nofun)))
def lG(d:Dg):Bool:=if jP (bC (cLe d) d.aO.length)=true then(if jP (bC (ZA d) d.au.length)=true then iL d d.root d.au.length else false)else false
def acG:eY aC:=bT 131 (a1 dA) tA (fun p=>lG p) (fun p=>[DgL p]) Xp
theorem ajC:Gd acG:=ajA.add fun n hO p hp=>aN hO (.zh (fun h=>.w (ku (acF hO (show DgL p from hp _ gZ)) () h) (.zh (fun h2=>.w (ku (acD hO (show DgL p from hp _ gZ)) () h2) .rr) fun h2=>.w (kC (acD hO (show DgL p from hp _ gZ)) 0 h2) .rr)) fun h=>.w (kC (acF hO (show DgL p from hp _ gZ)) 0 h) .rr)
def bG(d:Dg):Int:=if(dh d.aA d.aH != 0)=true then dh d.aA d.aH else if decide ((d.au.length:Int)>6000)=true then 5 else if(!(lG d))=true then 4 else 0
theorem UG{k:Nat}(h:decide ((k:Int)>6000)=false):k<=ah:=by simp at h;unfold ah;omega
theorem Aq{s o:LI0}(h:(dh s o != 0)=false):wH s:=(mF.1 (by simpa using h)).1
def aad:eY aC:=bT 83 (a1 dA) iA (fun p=>bG p) (fun p=>[p.aH.length<=ah,p.aO.length<=ah]) acG
theorem aoS:Gd aad:=ajC.add fun n hO p hp=>aN hO (.o (hp _ gZ) (.sh (fun _=>.rr) fun h=>.sh (fun _=>.rr) fun h2=>.o (show DgL p from⟨hp _ gZ,UG h2,hp _ yI,Aq h⟩) (.ss .rr .rr)))
open Go Tw Pv bQ
abbrev jG(r:Int):Int:=i64.wrap (-1-r)
def jQ(d:Dg):Nat->Int->LI0×LI0->LI0×LI0
 | 0,_,x=>x
 |F+1,r,x=>if decide (r<0)=true then(if(!(decide (jG r∈x.2)))=true then(x.1,x.2++[jG r])else x)else if decide (r∈x.1)=true then x
  else((aU (fun k y=>jQ d F ((aj d r).ay.getD k 0) y) (aj d r).ay.length 0 x).1++[r],(aU (fun k y=>jQ d F ((aj d r).ay.getD k 0) y) (aj d r).ay.length 0 x).2)
def jq(d:Dg)(r:Int)(b:Nat):Prop:=r<b∧(r<0->gW (jG r) d.aO.length)
structure BH(d:Dg):Prop extends DgL d where
 Au:∀i,i<d.au.length->∀k,k<(fD d i).ay.length->jq d ((fD d i).ay.getD k 0) i
 KW:∀i,i<d.au.length->(fD d i).ay.length<=12
 var:∀i,i<d.au.length->gW (fD d i).var d.aA.length
 ksz:∀i,i<d.au.length->((fD d i).ay.length:Int)=d.aA.getD (fD d i).var.toNat 0
 root:jq d d.root d.au.length
structure Jo(d:Dg)(x:LI0×LI0):Prop where
 n1:x.1.Nodup
 n2:∀a∈x.1,gW a d.au.length
 e1:x.2.Nodup
 e2:∀a∈x.2,gW a d.aO.length
theorem zC:∀(N:Nat) (l:LI0),l.Nodup->(∀a∈l,gW a N)->l.length<=N
 | 0,[],_,_=>a0U _
 | 0,a::l,_,h=>by obtain⟨h1,h2⟩:=h a (a2O ..);omega
 |N+1,l,hn,h=>by
  have h1:=zC N (l.erase (N:Int)) (hn.erase _) fun a ha=>by have h2:=(List.Nodup.mem_erase_iff hn).1 ha;have h3:=h a h2.2;exact⟨h3.1,by have:=h3.2;have:=h2.1;omega⟩
  by_cases hm:(N:Int)∈l
  .rw[List.length_erase_of_mem hm]at h1;omega
  rw[List.erase_of_not_mem hm]at h1;omega
theorem Jo.len{d:Dg}{x:LI0×LI0}(h:Jo d x):x.1.length<=d.au.length∧x.2.length<=d.aO.length:=⟨zC _ _ h.n1 h.n2,zC _ _ h.e1 h.e2⟩
theorem wM{l:LI0}{a:Int}(h:l.Nodup)(ha:a∉l):(l++[a]).Nodup:=by rw[a8H];exact⟨h,by simp,fun x hx y hy e=>by simp at hy;subst hy;subst e;exact ha hx⟩
theorem a6O{d:Dg}:∀(F:Nat) (r s:Int) (x:LI0×LI0),r<s->s∉x.1->0<=s->(∀i,i<d.au.length->∀k,k<(fD d i).ay.length->(fD d i).ay.getD k 0<i)->(0<=r->gW r d.au.length)->s∉(jQ d F r x).1
 | 0,_,_,_,_,h,_,_,_=>h
 |F+1,r,s,x,hr,h,h0,hk,hn=>by
  unfold jQ;by_cases c:r<0
  .rw[a0g (by simpa using c)];split<;>exact h
  rw[a0c (by simpa using c)];split
  .exact h
  have hi:=hn (by omega);have Dz:∀k,k<(aj d r).ay.length->(aj d r).ay.getD k 0<r:=fun k kN=>by obtain⟨i1,i2⟩:=hi;have h9:(aj d r).ay.getD k 0<(r.toNat:Int):=hk r.toNat (by omega) k kN;omega
  have:=dU (g:=fun k y=>jQ d F ((aj d r).ay.getD k 0) y) (m:=(aj d r).ay.length) (k:=0) (s:=x) (fun _ y=>s∉y.1) h (fun j y _ hj hy=>by have h4:=Dz j (by omega);exact a6O F _ s y (by omega) hy h0 hk fun h5=>⟨h5,by have:=hi.2;omega⟩)
  simp only[a3k,a2p,adl];exact⟨this,by omega⟩
theorem KA{d:Dg}(h:BH d):∀(F:Nat) (r:Int) (x:LI0×LI0),Jo d x->jq d r d.au.length->Jo d (jQ d F r x)
 | 0,_,_,hx,_=>hx
 |F+1,r,x,hx,hr=>by
  unfold jQ;by_cases c:r<0
  .rw[a0g (by simpa using c)];split
   .rename_i c2;have c2:jG r∉x.2:=(by simpa using c2);refine⟨hx.n1,hx.n2,wM hx.e1 c2,fun a ha=>?_⟩;rw[a3k,a2p]at ha;rcases ha with ha|rfl
    .exact hx.e2 a ha
    exact hr.2 c
   exact hx
  rw[a0c (by simpa using c)];split
  .exact hx
  rename_i c2;have c2:r∉x.1:=by simpa using c2
  have hi:gW r d.au.length:=⟨by omega,hr.1⟩;have aT:r.toNat<d.au.length:=by have:=hr.1;omega
  have h1:=dU (g:=fun k y=>jQ d F ((aj d r).ay.getD k 0) y) (m:=(aj d r).ay.length) (k:=0) (s:=x) (fun _ y=>Jo d y∧r∉y.1) ⟨hx,c2⟩ (fun j y _ hj hy=>by have hk:jq d ((aj d r).ay.getD j 0) r.toNat:=h.Au r.toNat aT j (by simpa using hj);obtain⟨k1,k2⟩:=hk;have kN:jq d ((aj d r).ay.getD j 0) d.au.length:=⟨by omega,k2⟩;refine⟨KA h F _ y hy.1 kN,a6O F _ r y (by omega) hy.2 (by omega) (fun i hi k hk=>(h.Au i hi k hk).1) fun h5=>⟨h5,kN.1⟩⟩)
  obtain⟨h2,h3⟩:=h1;refine⟨wM h2.n1 h3,fun a ha=>?_,h2.e1,h2.e2⟩;rw[a3k,a2p]at ha;rcases ha with ha|rfl
  .exact h2.n2 a ha
  exact hi
abbrev ls(l:LI0):PB aC:=.list false false 3 l
abbrev wSr(d:Dg)(r:Int)(k:Int)(s:LI0×LI0)(x:List (Nat×PE aC)):aS aC:=⟨[(1,xi r),(2,xo 2),(3,xo 3),(4,.loc 0 0),(10,.loc 1 0),(11,xi k)]++x,[d.ps,(aj d r).ps],[.gone,.gone,ls s.1,ls s.2]⟩
abbrev ajD(n:Nat)(d:Dg)(r:Int)(x y:LI0×LI0):Prop:=iQ n (.fn 133 [] []) [.agg d.ps,.int .i64 r,.own 0,.own 1] [ls x.1,ls x.2] (.dG [.own 2,.own 3]) [.gone,.gone,ls y.1,ls y.2]
theorem sSr{N:Nat}(hO:∀m,N<=m->Ok m aad){d:Dg}(h:BH d):∀(F:Nat) (r:Int) (x:LI0×LI0),r+1<F->Jo d x->jq d r d.au.length->1<=F->ajD (N+F) d r x (jQ d F r x)
 | 0,r,x,_,_,_,h1=>by omega
 |F+1,r,x,hF,hx,hr,_=>by
  have hn:=hx.len.1;have he:=hx.len.2;have m1:=h.au;have m2:=h.aO;have Aw:=hO (N+F) (by omega);have mn:x.1.length<=ah:=by omega
  have me:x.2.length<=ah:=by omega
  unfold jQ;by_cases c:r<0
  .have t0:decide (r<0)=true:=(by simpa using c);rw[a0g t0];by_cases c2:jG r∈x.2
   .have t1:(!(decide (jG r∈x.2)))=false:=(by simpa using c2);rw[a0c (by rw[t1];simp)];exact dD.gs hX (mZ hX Aw (first:=[]) (cap:=[]) (v:=.dG [.own 0,.own 1]) (H1:=[ls x.1,ls x.2]) (by kernel_rfl) (.b t0 (.o me (.b t1 .er)))) [.mv 0,.mv 1] rfl
   have t1:(!(decide (jG r∈x.2)))=true:=(by simpa using c2);rw[a0g t1];have e1:=zC _ _ (wM hx.e1 c2) (fun a ha=>by
    rw[a3k,a2p]at ha;rcases ha with ha|rfl
    .exact hx.e2 a ha
    exact hr.2 c)
   have e2:x.2.length+[jG r].length<=ah:=by rw[<-a1I];omega
   exact dD.gs hX (mZ hX Aw (first:=[]) (cap:=[]) (v:=.dG [.own 0,.own 3]) (H1:=[ls x.1,.gone,.list true true 3 ([jG r]:LI0),ls (x.2++[jG r])]) (by kernel_rfl) (.b t0 (.o me (.b t1 (.o e2 .er))))) [.mv 0,.gc [4,3]] rfl
  have t0:decide (r<0)=false:=by simpa using c
  rw[a0c (by rw[t0];simp)];by_cases c2:r∈x.1
  .have t1:decide (r∈x.1)=true:=(by simpa using c2);rw[a0g t1];exact dD.gs hX (mZ hX Aw (first:=[]) (cap:=[]) (v:=.dG [.own 0,.own 1]) (H1:=[ls x.1,ls x.2]) (by kernel_rfl) (.b t0 (.o mn (.b t1 .er)))) [.mv 0,.mv 1] rfl
  have t1:decide (r∈x.1)=false:=by simpa using c2
  rw[a0c (by rw[t1];simp)];have hi:gW r d.au.length:=⟨by omega,hr.1⟩;obtain⟨i1,i2⟩:=id hi;have aT:r.toNat<d.au.length:=by omega
  have hl:MC (N+F) 133 0 2 (wSr d r 0 x []) (.exit 0) (wSr d r (aj d r).ay.length (aU (fun k y=>jQ d F ((aj d r).ay.getD k 0) y) (aj d r).ay.length 0 x) [(40,xl false)]):=by
   refine rM (σ:=LI0×LI0) (N:=(aj d r).ay.length) (g:=fun k y=>jQ d F ((aj d r).ay.getD k 0) y) (s0:=x) (st:=fun k y=>wSr d r k y []) (fin:=fun y=>wSr d r (aj d r).ay.length y [(40,xl false)]) (fun _ y=>Jo d y) (by kernel_rfl) (m12 (h.KW r.toNat aT)) hx (fun k y hk hy=>?_) (fun k y hk hy m e p g=>?_) (fun y _=>aJ Aw (.b (eH (aj d r).ay.length) .ex))
   .have hk:jq d ((aj d r).ay.getD k 0) r.toNat:=h.Au r.toNat aT k hk;have k1:(aj d r).ay.getD k 0<(r.toNat:Int):=hk.1;exact KA h F _ y hy ⟨by omega,hk.2⟩
   have kN:jq d ((aj d r).ay.getD k 0) r.toNat:=h.Au r.toNat aT k hk;have k1:=kN.1;have hs:=sSr hO h F ((aj d r).ay.getD k 0) y (by omega) hy ⟨by omega,kN.2⟩ (by omega);exact aJ Aw (.b (aW hk) (.o (aG hk) (.fr [2,3] hs (.goG [.gc [4,5]] g))))
  generalize hy:aU (fun k y=>jQ d F ((aj d r).ay.getD k 0) y) (aj d r).ay.length 0 x=y at hl;have sk:=KA h (F+1) r x hx hr;unfold jQ at sk;rw[a0c (by rw[t0];simp),a0c (by rw[t1];simp),hy]at sk;have sl:(y.1++[r]).length<=d.au.length:=sk.len.1;have ml:y.1.length+[r].length<=ah:=by rw[<-a1I];omega
  exact dD.gs hX (mZ hX Aw (first:=[]) (cap:=[]) (v:=.dG [.own 5,.own 3]) (H1:=[.gone,.gone,.gone,ls y.2,.list true true 3 ([r]:LI0),ls (y.1++[r])]) (by kernel_rfl) (.b t0 (.o mn (.b t1 (.o hi (.wG [.mv 0,.mv 1] hl (.o ml .er))))))) [.gc [5,3]] rfl
def nlA:Arg Unit where
 put _:=.nil .aP
 get v:=match v with
  |.nil .aP=>some ()
  |_=>none
 ok:=by
  intro v a hg A m h x hv;split at hg
  .exact hv
  .cases hg
abbrev wSn(d:Dg)(r:Int)(k:Int)(s:LI0×LI0)(x:List (Nat×PE aC)):aS aC:=⟨[(1,xi r),(2,xo 0),(3,xo 1),(4,.loc 0 0),(10,.loc 1 0),(11,xi k)]++x,[d.ps,(aj d r).ps],[ls s.1,ls s.2]⟩
theorem sr0{d:Dg}:Jo d ([],[]):=⟨a5O,by simp,a5O,by simp⟩
def srN(d:Dg)(r:Int):LI0:=(jQ d 6002 r ([],[])).1
def srE(d:Dg)(r:Int):LI0:=(jQ d 6002 r ([],[])).2
def a1m:eY aC:=bT 133 (a4 dA iA nlA nlA) (dR (a2 rJ rJ)) (fun p=>(srN p.1 p.2.1,srE p.1 p.2.1)) (fun p=>[BH p.1,jq p.1 p.2.1 p.1.au.length,p.1.au.length<=6000]) aad
theorem ajF:Gd a1m:=aoS.deep 6001 fun n hn hO p hp=>by
 obtain⟨d,r,_,_⟩:=p;have h:BH d:=hp _ gZ;have hr:jq d r d.au.length:=hp _ yI;have hm:d.au.length<=6000:=hp _ hh2;obtain⟨N,rfl⟩:∃N,n=N+6001:=⟨n-6001,by omega⟩;have hO:∀m,N<=m->Ok m aad:=fun m hm=>hO m (by omega);have Aw:=hO (N+6001) (by omega);by_cases c:r<0
 .have t0:decide (r<0)=true:=by simpa using c
  have t1:(!(decide (jG r∈([]:LI0))))=true:=by simp
  have e:jQ d 6002 r ([],[])=([],[jG r]):=by rw[jQ,a0g t0,a0g t1];rfl
  show nY X0 Qp _ _ _ ((dR (a2 rJ rJ)).put ((jQ d 6002 r ([],[])).1,(jQ d 6002 r ([],[])).2)) [];rw[e];exact aN Aw (.b t0 (.o le0 (.b t1 (.o le1 (.rn (.dG [.nil .aP,.dB 3 ([jG r]:LI0) false]) rfl)))))
 .have t0:decide (r<0)=false:=by simpa using c
  have t1:decide (r∈([]:LI0))=false:=by simp
  have hi:gW r d.au.length:=⟨by omega,hr.1⟩;obtain⟨i1,i2⟩:=id hi;have aT:r.toNat<d.au.length:=by omega
  have hl:MC (N+6001) 133 0 0 (wSn d r 0 ([],[]) []) (.exit 0) (wSn d r (aj d r).ay.length (aU (fun k y=>jQ d 6001 ((aj d r).ay.getD k 0) y) (aj d r).ay.length 0 ([],[])) [(40,xl false)]):=by
   refine rM (σ:=LI0×LI0) (N:=(aj d r).ay.length) (g:=fun k y=>jQ d 6001 ((aj d r).ay.getD k 0) y) (s0:=(([],[]):LI0×LI0)) (st:=fun k y=>wSn d r k y []) (fin:=fun y=>wSn d r (aj d r).ay.length y [(40,xl false)]) (fun _ y=>Jo d y) (by kernel_rfl) (m12 (h.KW r.toNat aT)) sr0 (fun k y hk hy=>?_) (fun k y hk hy m e p g=>?_) (fun y _=>aJ Aw (.b (eH (aj d r).ay.length) .ex))
   .have hk:jq d ((aj d r).ay.getD k 0) r.toNat:=h.Au r.toNat aT k hk;have k1:(aj d r).ay.getD k 0<(r.toNat:Int):=hk.1;exact KA h 6001 _ y hy ⟨by omega,hk.2⟩
   .have kN:jq d ((aj d r).ay.getD k 0) r.toNat:=h.Au r.toNat aT k hk;have k1:(aj d r).ay.getD k 0<(r.toNat:Int):=kN.1;have hs:=sSr hO h 6001 ((aj d r).ay.getD k 0) y (by omega) hy ⟨by omega,kN.2⟩ (by omega);exact aJ Aw (.b (aW hk) (.o (aG hk) (.fr [0,1] hs (.goG [.gc [2,3]] g))))
  have sk:=KA h 6002 r ([],[]) sr0 hr;have e:jQ d 6002 r ([],[])=((aU (fun k y=>jQ d 6001 ((aj d r).ay.getD k 0) y) (aj d r).ay.length 0 ([],[])).1++[r],(aU (fun k y=>jQ d 6001 ((aj d r).ay.getD k 0) y) (aj d r).ay.length 0 ([],[])).2):=by rw[jQ,a0c (by rw[t0];simp),a0c (by rw[t1];simp)]
  show nY X0 Qp _ _ _ ((dR (a2 rJ rJ)).put ((jQ d 6002 r ([],[])).1,(jQ d 6002 r ([],[])).2)) [];rw[e]at sk ⊢;generalize aU (fun k y=>jQ d 6001 ((aj d r).ay.getD k 0) y) (aj d r).ay.length 0 ([],[])=y at hl sk;have sl:(y.1++[r]).length<=d.au.length:=sk.len.1;have m1:=h.au;have ml:y.1.length+[r].length<=ah:=by rw[<-a1I];omega
  exact aN Aw (.b t0 (.o le0 (.b t1 (.o hi (.wG [.Ej 2 3,.Ej 3 3] hl (.o ml .rr))))))
open Go Tw Pv bQ
abbrev cD1(d:Dg)(i j:Nat):Bool:=decide (d.aO.getD j V0=d.aO.getD i V0)
abbrev cD0(d:Dg)(i:Nat):Bool:=if jP (bC (cD1 d i) i)=true then false else true
abbrev cD3(d:Dg)(i j:Nat):Bool:=if((fD d j).var==(fD d i).var)=true then decide ((fD d j).ay=(fD d i).ay)else false
abbrev cD2(d:Dg)(i:Nat):Bool:=if Dk (fD d i)=true then true else if jP (bC (cD3 d i) i)=true then false else true
abbrev wD(d:Dg)(x:List (Nat×PE aC)):aS aC:=⟨[(1,.loc 0 0)]++x,[d.ps],[]⟩
abbrev rD(d:Dg):Ex×aS aC:=(.ret,⟨[(2,xl false)],[d.ps],[]⟩)
def zD1(d:Dg)(i:Nat):Unit⊕Nat->Ex×aS aC
 |.inl _=>(.exit 2,wD d [(3,xi i),(4,xi i),(18,xl false)])
 |.inr _=>rD d
theorem lD1{n:Nat}{fO:eY aC}(hO:Ok n fO){d:Dg}(h:DgL d){i:Nat}(hi:i<d.aO.length):Lp n 84 1 (wD d [(3,xi i),(4,xi 0)]) (zD1 d i (bC (cD1 d i) i)).1 (zD1 d i (bC (cD1 d i) i)).2:=
 iK (st:=fun j _=>wD d [(3,xi i),(4,xi j)]) (fun _ _=>True) (by kernel_rfl) (by have:=h.aO;omega) trivial (fun j s m hj _ ih=>aJ hO (.b (aW hj) (.o (aG (show j<d.aO.length by omega)) (.o (aG hi) (.q (.bool (cD1 d i j)) (eqV (.tmp 25) (.tmp 30) (d.aO.getD j V0) (d.aO.getD i V0)) (.ls (.ou nofun) (.nx (ih _ trivial)))))))) (fun s _=>aJ hO (.b (eH i) (.ou nofun)))
def zD0(d:Dg):Unit⊕Nat->Ex×aS aC
 |.inl _=>(.exit 0,wD d [(3,xi d.aO.length),(13,xl false)])
 |.inr _=>rD d
theorem lD0{n:Nat}{fO:eY aC}(hO:Ok n fO){d:Dg}(h:DgL d):Lp n 84 0 (wD d [(3,xi 0)]) (zD0 d (bC (cD0 d) d.aO.length)).1 (zD0 d (bC (cD0 d) d.aO.length)).2:=
 iK (st:=fun i _=>wD d [(3,xi i)]) (fun _ _=>True) (by kernel_rfl) h.aO trivial (fun i s m hi _ ih=>by
  have hl:=lD1 hO h hi;unfold gS cD0;cases e:jP (bC (cD1 d i) i)
  .exact aJ hO (.b (aW hi) (.w (kC hl 0 e) (.ou nofun)))
  .exact aJ hO (.b (aW hi) (.w (ku hl () e) (.nx (ih _ trivial))))
  ) (fun s _=>aJ hO (.b (eH d.aO.length) (.ou nofun)))
def zD3(d:Dg)(i:Nat):Unit⊕Nat->Ex×aS aC
 |.inl _=>(.exit 6,wD d [(5,xi i),(6,xi i),(47,xl false)])
 |.inr _=>rD d
theorem lD3{n:Nat}(hO:Ok n a1m){d:Dg}(h:BH d){i:Nat}(hi:i<d.au.length):Lp n 84 3 (wD d [(5,xi i),(6,xi 0)]) (zD3 d i (bC (cD3 d i) i)).1 (zD3 d i (bC (cD3 d i) i)).2:=
 iK (st:=fun j _=>wD d [(5,xi i),(6,xi j)]) (fun _ _=>True) (by kernel_rfl) (by have:=h.au;omega) trivial (fun j s m hj _ ih=>by
  have rU:j<d.au.length:=by omega
  unfold gS cD3;cases e:((fD d j).var==(fD d i).var)
  .exact aJ hO (.b (aW hj) (.o (aG rU) (.o (aG hi) (.b e (.nx (ih _ trivial))))))
  .exact aJ hO (.b (aW hj) (.o (aG rU) (.o (aG hi) (.b e (.o (aG rU) (.o (aG hi) (.o (m12 (h.KW j rU)) (.ls (.ou nofun) (.nx (ih _ trivial))))))))))
  ) (fun s _=>aJ hO (.b (eH i) (.ou nofun)))
def zD2(d:Dg):Unit⊕Nat->Ex×aS aC
 |.inl _=>(.exit 4,wD d [(5,xi d.au.length),(36,xl false)])
 |.inr _=>rD d
theorem lD2{n:Nat}(hO:Ok n a1m){d:Dg}(h:BH d):Lp n 84 2 (wD d [(5,xi 0)]) (zD2 d (bC (cD2 d) d.au.length)).1 (zD2 d (bC (cD2 d) d.au.length)).2:=
 iK (st:=fun i _=>wD d [(5,xi i)]) (fun _ _=>True) (by kernel_rfl) h.au trivial (fun i s m hi _ ih=>by
  have hl:=lD3 hO h hi;unfold gS cD2;cases e1:Dk (fD d i)
  .cases e:jP (bC (cD3 d i) i)
   .exact aJ hO (.b (aW hi) (.o (aG hi) (.o (m12 (h.KW i hi)) (.b e1 (.w (kC hl 0 e) (.ou nofun))))))
   .exact aJ hO (.b (aW hi) (.o (aG hi) (.o (m12 (h.KW i hi)) (.b e1 (.w (ku hl () e) (.nx (ih _ trivial)))))))
  .exact aJ hO (.b (aW hi) (.o (aG hi) (.o (m12 (h.KW i hi)) (.b e1 (.ou nofun)))))
  ) (fun s _=>aJ hO (.b (eH d.au.length) (.ou nofun)))
def pJ(d:Dg):Bool:=if jP (bC (cD0 d) d.aO.length)=true then(if jP (bC (cD2 d) d.au.length)=true then(if zB (srN d d.root) (d.au.length:Int)=true then zB (srE d d.root) (d.aO.length:Int)else false)else false)else false
theorem a1n{d:Dg}(h:BH d):(srN d d.root).length<=ah∧(srE d d.root).length<=ah:=by have hl:=(KA h 6002 d.root ([],[]) sr0 h.root).len;exact⟨a4A hl.1 h.au,a4A hl.2 h.aO⟩
def ajG:eY aC:=bT 84 (a1 dA) tA (fun p=>pJ p) (fun p=>[BH p,p.au.length<=6000]) a1m
theorem aoT:Gd ajG:=ajF.add fun n hO p hp=>aN hO (.zh (fun h=>.w (ku (lD0 hO (show BH p from hp _ gZ).toDgL) () h) (.zh (fun h2=>.w (ku (lD2 hO (show BH p from hp _ gZ)) () h2) (.o (hp _ gZ) (.o (show BH p from hp _ gZ).root (.o (hp _ yI) (.o (a1n (hp _ gZ)).1 (.ss (.o (a1n (hp _ gZ)).2 .rr) .rr)))))) fun h2=>.w (kC (lD2 hO (show BH p from hp _ gZ)) 0 h2) .rr)) fun h=>.w (kC (lD0 hO (show BH p from hp _ gZ).toDgL) 0 h) .rr)
theorem Xt{d:Dg}(hm:d.aO.length<=ah){r:Int}{b:Nat}(h:iL d r b=true):jq d r b:=by
 unfold iL at h;by_cases c:0<=r
 .rw[a0g (by simpa using c)]at h;exact⟨by simpa using h,fun h2=>by omega⟩
 rw[a0c (by simpa using c),vH]at h;have e:i64.wrap ((d.aO.length:Int)-1)=(d.aO.length:Int)-1:=by unfold ah at hm;exact fK (by omega) (by omega)
 rw[e]at h;obtain⟨h1,h2⟩:=h;exact⟨by omega,fun _=>⟨h1,show jG r<_ by show i64.wrap (-1-r)<_;omega⟩⟩
theorem a6P{d:Dg}(h:DgL d)(hl:lG d=true):BH d:=by
 unfold lG at hl;split at hl
 rotate_left
 .cases hl
 split at hl
 rotate_left
 .cases hl
 rename_i h1 h2;have h2:=dH.1 h2;have key:∀i,i<d.au.length->nT (fD d i).var 0 (xw d.aA)=true∧(((fD d i).ay.length:Int) != d.aA.getD (fD d i).var.toNat 0)=false∧jP (bC (cLk d i) (fD d i).ay.length)=true:=fun i hi=>by
  have:=h2 i hi;unfold ZA at this;split at this
  .cases this
  split at this
  .cases this
  split at this
  .rename_i a b c;exact⟨by simpa using a,by simpa using b,c⟩
  cases this
 refine⟨h,fun i hi k hk=>?_,fun i hi=>?_,fun i hi=>?_,fun i hi=>?_,Xt h.aO hl⟩
 .have:=dH.1 (key i hi).2.2 k hk;unfold cLk at this;split at this
  .cases this
  rename_i a;exact Xt h.aO (by simpa using a)
 .exact Xr h.eF (Jm h.eF (key i hi).1) (key i hi).2.1
 .exact Jm h.eF (key i hi).1
 simpa using(key i hi).2.1
theorem mV{d:Dg}(ho:d.aH.length<=ah)(he:d.aO.length<=ah)(h:(bG d != 0)=false):BH d∧d.au.length<=6000:=by
 unfold bG at h;split at h
 .rename_i h1;simp at h h1;exact absurd h h1
 split at h
 .cases h
 split at h
 .cases h
 rename_i h1 h2 h3;have h2:decide ((d.au.length:Int)>6000)=false:=by simpa using h2
 exact⟨a6P ⟨ho,UG h2,he,Aq (by simpa using h1)⟩ (by simpa using h3),by simp at h2;omega⟩
def rO(d:Dg):Int:=if(bG d != 0)=true then bG d else if(!(pJ d))=true then 4 else 0
def ajI:eY aC:=bT 22 (a1 dA) iA (fun p=>rO p) (fun p=>[p.aH.length<=ah,p.aO.length<=ah]) ajG
theorem aoU:Gd ajI:=aoT.add fun n hO p hp=>aN hO (.o (hp _ gZ) (.o (hp _ yI) (.sh (fun _=>.rr) fun h=>.o (mV (hp _ gZ) (hp _ yI) h).1 (.o (mV (hp _ gZ) (hp _ yI) h).2 (.ss .rr .rr)))))
open Go Tw Pv bQ
def gAt(d:Dg)(p:LI0)(r:Int):Int⊕Int:=if decide (r>=0)=true then .inl ((aj d r).ay.getD (p.getD (aj d r).var.toNat 0).toNat 0)else .inr r
def atF(d:Dg)(p:LI0):Nat->Int->Int
 | 0,r=>r
 |F+1,r=>if r<0 then r else atF d p F ((aj d r).ay.getD (p.getD (aj d r).var.toNat 0).toNat 0)
theorem acI{d:Dg}{p:LI0}:∀(F:Nat) (r:Int),atF d p F r<0->itF (gAt d p) (F+1) r=some (atF d p F r)
 | 0,r,h=>by
  have h:r<0:=h;have e:gAt d p r=.inr r:=by unfold gAt;rw[a0c (by simpa using h)]
  rw[itF,e];rfl
 |F+1,r,h=>by
  by_cases c:r<0
  .have e:gAt d p r=.inr r:=by unfold gAt;rw[a0c (by simpa using c)]
   rw[itF,e,atF,a0g c]
  have e:gAt d p r=.inl ((aj d r).ay.getD (p.getD (aj d r).var.toNat 0).toNat 0):=by unfold gAt;rw[a0g (by simp;omega)]
  rw[atF,a0c c]at h;rw[itF,e,atF,a0c c];exact acI F _ h
theorem OZ{d:Dg}(h:BH d){p:LI0}(hp:ni d.aA p=true){r:Int}(hr:gW r d.au.length):gW (aj d r).var p.length∧gW (p.getD (aj d r).var.toNat 0) (aj d r).ay.length∧jq d ((aj d r).ay.getD (p.getD (aj d r).var.toNat 0).toNat 0) r.toNat:=by
 obtain⟨r1,r2⟩:=hr;have hl:r.toNat<d.au.length:=by omega
 have hv:=h.var r.toNat hl;have hk:=h.ksz r.toNat hl;obtain⟨v1,v2⟩:=hv;obtain⟨p1,p2⟩:=wI.1 hp;have p3:=p2 (aj d r).var.toNat (by show(fD d r.toNat).var.toNat<_;omega);have k1:gW (p.getD (aj d r).var.toNat 0) (aj d r).ay.length:=⟨p3.1,by show _<((fD d r.toNat).ay.length:Int);rw[hk];exact p3.2⟩;refine⟨⟨v1,by rw[p1];exact v2⟩,k1,h.Au r.toNat hl _ ?_⟩;obtain⟨k2,k3⟩:=k1;show _<(aj d r).ay.length;omega
theorem UH{d:Dg}(h:BH d){p:LI0}(hp:ni d.aA p=true):∀(F:Nat) (r:Int),r<F->jq d r d.au.length->jq d (atF d p F r) 0
 | 0,r,hr,hk=>⟨by show r<((0:Nat):Int);omega,hk.2⟩
 |F+1,r,hr,hk=>by
  unfold atF;split
  .rename_i c;exact⟨by show r<((0:Nat):Int);omega,hk.2⟩
  rename_i c;have:=(OZ h hp (r:=r) ⟨by omega,hk.1⟩).2.2;obtain⟨a1,a2⟩:=this;have a3:r<(d.au.length:Int):=hk.1;exact UH h hp F _ (by omega) ⟨by omega,a2⟩
abbrev atR(d:Dg)(p:LI0):Int:=atF d p 6001 d.root
def Em(d:Dg)(p:LI0):V:=d.aO.getD (jG (atR d p)).toNat V0
abbrev wAt(d:Dg)(p:LI0)(r:Int)(x:List (Nat×PE aC)):aS aC:=⟨[(1,xL 3 p),(2,.loc 0 0),(4,.loc 1 0),(5,xi r)]++x,[d.ps,V0.ps],[]⟩
theorem lAt{n:Nat}{fO:eY aC}(hO:Ok n fO){d:Dg}(h:BH d)(hm:d.au.length<=6000){p:LI0}(hp:ni d.aA p=true):Lp n 98 0 (wAt d p d.root []) (.exit 0) (wAt d p (atR d p) [(9,xl false)]):=by
 have h0:d.root<(d.au.length:Int):=h.root.1;have ha:=UH h hp 6001 d.root (by omega) h.root;have Qb:=acI 6001 d.root ha.1;refine Zz (st:=fun r=>wAt d p r []) (g:=gAt d p) (out:=fun r=>(.exit 0,wAt d p r [(9,xl false)])) (fun r=>jq d r d.au.length) Qb (by kernel_rfl) (by decide) h.root ?_ ?_
 .intro r r1 hr e;unfold gAt at e;split at e
  .rename_i c;have c:0<=r:=(by simpa using c);cases e;have:=(OZ h hp (r:=r) ⟨c,hr.1⟩).2.2;have a3:r<(d.au.length:Int):=hr.1;obtain⟨a1,a2⟩:=this;exact⟨by omega,a2⟩
  cases e
 intro r m r' hr ih;by_cases c:0<=r
 .have hk:=OZ h hp (r:=r) ⟨c,hr.1⟩;have t1:decide (r>=0)=true:=by simpa using c
  have e:gAt d p r=.inl ((aj d r).ay.getD (p.getD (aj d r).var.toNat 0).toNat 0):=by unfold gAt;rw[a0g t1]
  have g:=ih _ e;rw[e];have xg:gW r d.au.length:=⟨c,hr.1⟩;exact aJ hO (.b t1 (.o xg (.o xg (.o hk.1 (.o hk.2.1 (.go g))))))
 have t1:decide (r>=0)=false:=by simpa using c
 have e:gAt d p r=.inr r:=by unfold gAt;rw[a0c (by rw[t1];simp)]
 rw[e];dsimp only[CY];exact aJ hO (.b t1 .ex)
theorem aah{d:Dg}(h:BH d)(hm:d.au.length<=6000){p:LI0}(hp:ni d.aA p=true):gW (jG (atR d p)) d.aO.length:=by have h0:d.root<(d.au.length:Int):=h.root.1;have ha:=UH h hp 6001 d.root (by omega) h.root;exact ha.2 ha.1
def ajJ:eY aC:=bT 98 (a2 dA rJ) vA (fun p=>Em p.1 p.2) (fun p=>[BH p.1,p.1.au.length<=6000,ni p.1.aA p.2=true]) ajI
theorem aoV:Gd ajJ:=aoU.add fun n hO p hp=>aN hO (.w (lAt hO (hp _ gZ) (hp _ yI) (hp _ hh2)) (.o (aah (hp _ gZ) (hp _ yI) (hp _ hh2)) .rr))
open Go Tw Pv bQ
theorem aai{A:Nat->Prop}{m:List MB}{h:List HB}{l:LI0}{cs:List TV}(hr:dW X0 Qp A m h 3 l cs 0 1)(hc:cs.length=l.length):cs=l.map fun n=>TV.int .i64 n:=by
 apply a9R (by simp[hc]);intro j h1 h2;have hj:j<l.length:=by omega
 have:=hr.2.2 j l[j] 0 (.int .i64 l[j]) cs[j] (a0a hj) rfl (by rw[a01];exact⟨by omega,by simp⟩);rw[this.a15];simp
theorem SH:∀l:LI0,Ku (l.map fun n=>TV.int .i64 n)=some l
 | []=>rfl
 |a::l=>by simp[Ku,SH l]
theorem SI{A:Nat->Prop}{m:List MB}{h:List HB}(l:LI0):dW X0 Qp A m h 3 l (l.map fun n=>TV.int .i64 n) 0 1:=by
 refine⟨fun j a _=>rfl,by simp only[a4h,agW,a3T];exact a0U _,fun j a i c v hj hi hv=>?_⟩;have rU:=(a01.1 hj).1;cases i with
 |zero=>
  have hi:some (PV.int .i64 a)=some c:=hi;cases hi;have hj:(l:LI0)[j]? = some a:=hj;rw[a3T,agW,adz,a4j,hj]at hv;have hv:some (TV.int .i64 a)=some v:=hv;cases hv;exact .int _ _
 |succ i=>have hi:([]:List (PV aC))[i]? = some c:=hi;simp at hi
theorem KC:dw Qp 3=some 1:=by kernel_rfl
theorem a6Q(n:Nat)(x:TV)(h:List HB):kR Qp T LL (n+1) (.fn 137 [] []) [x] h=OD 137 (.fn 137 [] []) [x] h:=rfl
theorem aaj{f c:Nat}{h:List HB}{kk Bc:BK}{cs:List TV}{l:LI0}{e:Bool}(hb:h[c]? = some (.cells kk cs))(hk:zO kk true=some Bc)(QM:cs=l.map fun n=>TV.int .i64 n)(h0:0<l.length)(h1:l.length<=2^20) :
  OD f (.fn f [] []) [.aP c 0 l.length l.length 1 e] h=some (.dG [],h.set c (.cells Bc ((gK l).map fun n=>TV.int .i64 n)),[c]):=by
 have pF:cs.length=l.length:=by rw[QM,a4h]
 have him:Ku cs=some l:=by rw[QM];exact SH l
 generalize l.length=n at *;obtain⟨j,rfl⟩:∃j,n=j+1:=⟨n-1,by omega⟩;simp only[OD,a6n,a1U,hb,hk,him,pF,h0,h1,acP]
theorem acJ{n:Nat}{k ex:Bool}(l:LI0)(hl:l.length<=2^20):iQ (n+1) (.fn 137 [] []) [.own 0] [.list k ex 3 l] (.dG []) [.list k ex 3 (gK l)]:=by
 intro A m h tf qU hr hf hx;obtain⟨x,r,rfl,h1,h2⟩:=hx.inv;have:=h2.inv0;subst this;obtain⟨g1,g2⟩:=a9S hr (i:=0) (k:=k) (ex:=ex) (t:=3) (l:=l) rfl h1;have htf:=hf.Uw;subst htf;show ∃w h1 ws m1,kR Qp T LL (n+1) _ _ h=_∧_;rw[a6Q];have aoW:gK ([]:LI0)=[]:=by simp[gK]
 have hE:∀h0:(l:LI0)=[],gK l=l:=fun h0=>by rw[h0];exact aoW
 rcases aeH g2 with⟨h0,rfl⟩|⟨h0,b,off,sz,cs,rfl,p0,p1,p2,p3,p4⟩|⟨p1,c,sz,e,kk,cs,rfl,p2,p3,p4,p5,p6,p7,p8,p9⟩
 .rw[hE h0];exact⟨.dG [],h,[],m,rfl,hr,.dG rfl (fun i x y hx=>by simp at hx),.refl,.refl,fun b hb=>by cases hb⟩
 .rw[hE h0];exact⟨.dG [],h,[],m,rfl,hr,.dG rfl (fun i x y hx=>by simp at hx),.refl,.refl,fun b hb=>by cases hb⟩
 rw[KC]at p2;cases p2;have p8:cs.length=(l:LI0).length*1:=p8;have pF:cs.length=l.length:=by omega
 have QM:=aai p9 pF;have hn0:0<l.length:=by cases l with|nil=>exact absurd rfl p1|cons=>simp
 obtain⟨Bc,xJ,aea,hko⟩:=IZ p5;have aT:=(a01.1 p4).1;have uy:(MB.dB (TV.aP c 0 l.length l.length 1 e)).own=some c:=by simp only[MB.own];rw[a0c (by omega)]
 have hsl:(gK l).length=l.length:=by unfold gK;rw[aaB]
 have iq:gK l≠[]:=fun e0=>by rw[e0]at hsl;simp at hsl;omega
 obtain⟨q1,q2⟩:=hr.set (i:=0) (c:=c) (pb:=.list k ex 3 (gK l)) (hb:=.cells Bc ((gK l).map fun n=>TV.int .i64 n)) g1 uy
  (fun WC JR=>⟨_,by simp only[aX];rw[a2c aT],by
   simp only[aX,p4,a00]at JR;subst JR;rw[a4h,hsl,pF];exact a0U _⟩)
  (fun hF=>by have r:=LR.some (X:=X0) (P:=Qp) (A:=AA A m) (m:=m) (k:=k) (ex:=ex) (e:=e) (t:=3) (b:=c) (kk:=Bc) iq KC (by decide) (by rw[a2c aT]) aea (fun e0=>hko (p6 e0)) p7 (by rw[a4h,agW];rfl) (SI (gK l));have aoX:@List.length (X0.Γ 3) (gK l)=l.length:=hsl;rw[aoX]at r;exact r)
 refine⟨.dG [],_,[c],m,?_,q1,.dG rfl (fun i x y hx=>by simp at hx),q2,.refl,fun d hd=>?_⟩
 .exact aaj p4 xJ QM hn0 hl
 simp at hd;subst hd;exact aZ g1 uy
end Go.Proofs.YtmobpoiejckagaaGreat
namespace Pv
open Go Tw
variable {X:kJ} {P:LI1}
theorem nY.aak(hX:bP X P){call:aY}{f:FuncId}{xs vs:List (PV X.Γ)}{v v':PV X.Γ}{ext ext':List (PB X.Γ)}(hc:nY X P call f vs v ext)(hv:views [] ([]++xs++[])=some vs)(hs:qN X 0 ext=some ext')
  (e:shift 0 v=v') (he:(if xk v||ext.any (hasB X)then bf (kP.jX ([]++xs++[])) []else [])=([]:List (PB X.Γ))):dD X P call (.fn f [] []) xs [] v' ext':=by
 subst e;intro A m h tf qU hr hf hx;have htf:=hf.Uw;subst htf;obtain⟨w,h',m1,c1,c2,c3,c4,c5⟩:=GY hX hc hr hv hs (t1:=[]) (t3:=[]) .nil hx .nil;rw[he]at c2;exact⟨w,h',[],m1,c1,c2,c3,c4,c5,fun b hb=>by cases hb⟩
end Pv
namespace Go.Proofs.YtmobpoiejckagaaGreat
open Go Tw Pv bQ
abbrev lsI(l:LI0):List (PB aC):=[.list false false 3 l]
theorem a3n(n:Nat)(h:List HB):U6 Qp T (iy n) LL 125 [.nil .aP] h=some (.nil .aP,h,[]):=by kernel_rfl
theorem a3o(n b off cap:Nat)(ex:Bool)(h:List HB):U6 Qp T (iy n) LL 125 [.aP b off 0 cap 1 ex] h=some (.aP h.length 0 0 0 1 true,h++[.cells .own []],[]):=by kernel_rfl
theorem afd{n:Nat}:nY X0 Qp (iy (n+1)) 125 [.dB 3 ([]:LI0) false] (.own 0) (lsI []):=by
 intro A h first args cap Ir hv
 obtain⟨x,r,e,h1,h2⟩:=hv.inv;have:=h2.inv0;subst this;have hun:kR Qp T LL (n+1) (.fn 125 first cap) args h=U6 Qp T (iy n) LL 125 [x] h:=by rw[<-e];show kR Qp T LL (n+1) _ _ _=_;rw[kR,a0c (by decide),a0c (by decide)]
 rcases a6j h1 with rfl|⟨b,off,cap',sz,ex,cs,rfl,a1,a2,a3,a4,a5⟩
 .exact⟨.nil .aP,h,[.dB (.nil .aP)],by rw[<-a3n n h,<-hun],X3 Ir .nil rfl,.own rfl rfl,⟨a0U _,fun _ _ _=>rfl,fun b hb=>by simp[bg,MB.own]at hb,fun b cs hc=>⟨cs,hc,a0U _⟩⟩⟩
 rw[KC]at a3;cases a3;have hc:aX (h++[HB.cells .own []]) h.length=some []:=by unfold aX;rw[a0S (a0U _),agI];rfl
 refine⟨.aP h.length 0 0 0 1 true,h++[.cells .own []],[.dB (.aP h.length 0 0 0 1 true)],by rw[<-a3o n b off cap' ex h,<-hun],X3 (fun b hb=>Ir b (by simp at hb;omega)) (.emp ⟨Ir _ (a0U _),by simp[bg,MB.own]⟩ hc (a0U _) KC (by decide)) (by simp[MB.own]),.own rfl rfl,⟨by simp,fun b hb _=>by rw[a0b hb],fun b hb=>by simp[bg,MB.own]at hb,fun b cs hc=>⟨cs,?_,a0U _⟩⟩⟩;rw[fP (a0b (fM hc)),hc]
def acK:eY aC:=Zr 125 (a1 rJ) (fun _=>.own 0) (fun p=>lsI p) (fun p=>[p.length<=ah]) ajJ
theorem ajL:Gd acK:=aoV.WX 0 fun n _ hO p hp=>by
 have hl:p.length<=ah:=hp _ gZ;by_cases h:p=[]
 .subst h;exact afd
 .have h2:([]:LI0).length+p.length<=ah:=by simpa using hl
  exact nY.gs hX (Bo hX (hO n (by omega)) (v:=.own 1) (H:=[.gone,.list true false 3 p]) (by kernel_rfl) (.o h (.b (rfl:false=false) (.o h2 .er)))) [.gc [1],.flag 0] rfl
abbrev aal(m:Nat)(i:Int)(l:LI0)(x:List (Nat×PE aC)):aS aC:=⟨[(3,xo 0),(7,xi m),(8,xi i)]++x,[],[.list true true 3 l]⟩
theorem a6R(m:Nat):aU (fun k (l:LI0)=>l.set k (k:Int)) m 0 (List.replicate m 0)=dN m:=by
 have:=dU (g:=fun k (l:LI0)=>l.set k (k:Int)) (m:=m) (k:=0) (s:=List.replicate m 0) (fun k l=>l.length=m∧∀j,j<k->l.getD j 0=(j:Int)) ⟨by simp,by simp⟩ (fun j l _ hj h=>⟨by simp[h.1],fun i hi=>by
  rw[bQ.yV (by omega)];split
  .rename_i e;rw[e]
  exact h.2 i (by omega)⟩)
 rw[qX (d:=0) (by rw[this.1,lF])];intro j hj;have rU:j<m:=by have:=this.1;omega
 rw[this.2 j (by omega)];simp[dN,List.getD,a4j,ad2,rU]
theorem aoY{n:Nat}{fO:eY aC}(hO:Ok n fO)(m:Nat)(hm:m<=ah):Lp n 159 0 (aal m 0 (List.replicate m 0) []) (.exit 0) (aal m m (dN m) [(9,xl false)]):=by rw[<-a6R];exact rM (σ:=LI0) (N:=m) (g:=fun k (l:LI0)=>l.set k (k:Int)) (s0:=List.replicate m 0) (st:=fun i (l:LI0)=>aal m i l []) (fin:=fun(l:LI0)=>aal m m l [(9,xl false)]) (fun _ (l:LI0)=>l.length=m) (by kernel_rfl) hm (by simp) (fun k l _ h=>by simp[h]) (fun k l hk hl j e p g=>aJ hO (.b (aW hk) (.o (aG (show k<l.length by omega)) (.go g)))) (fun l _=>aJ hO (.b (eH m) .ex))
def acL:eY aC:=bT 159 (a1 iA) rJ (fun p=>dN p.toNat) (fun p=>[0<=p,p<=(ah:Int)]) acK
theorem ajM:Gd acL:=ajL.add fun n hO p hp=>by have h0:0<=p:=hp _ gZ;have h1:p<=(ah:Int):=hp _ yI;obtain⟨m,rfl⟩:∃m:Nat,p=(m:Int):=⟨p.toNat,by omega⟩;exact aN hO (.o (rfl:(m:Int)=(m:Int)) (.o h0 (.o h1 (.w (aoY hO m (by omega)) .rr))))
abbrev afe(a b:LI0)(i:Int)(x:List (Nat×PE aC)):aS aC:=⟨[(0,xL 3 a),(1,xL 3 b),(12,xi a.length),(13,xi i)]++x,[],[]⟩
def ajN(a b:LI0):Unit⊕Nat->Ex×aS aC
 |.inl _=>(.exit 0,afe a b a.length [(14,xl false)])
 |.inr _=>(.ret,⟨[(4,xl false)],[],[]⟩)
theorem ajO{n:Nat}{fO:eY aC}(hO:Ok n fO)(a b:LI0)(hl:a.length<=ah)(h:a.length=b.length):Lp n 158 0 (afe a b 0 []) (ajN a b (bC (Kw a b) a.length)).1 (ajN a b (bC (Kw a b) a.length)).2:=
 iK (st:=fun i _=>afe a b i []) (fun _ _=>True) (by kernel_rfl) hl trivial (fun k s m hk _ ih=>aJ hO (.b (aW hk) (.o (aG hk) (.o (aG (h▸hk)) (.ls (.ou nofun) (.nx (ih _ trivial))))))) (fun s _=>aJ hO (.b (eH a.length) (.ou nofun)))
def acM:eY aC:=bT 158 (a2 rJ rJ) tA (fun p=>decide (p.1=p.2)) (fun p=>[p.1.length<=ah]) acL
theorem ajP:Gd acM:=ajM.add fun n hO p hp=>aN hO (.s (fun h=>.v false (a6D h).symm) fun h=>.z (c:=jP (bC (Kw p.1 p.2) p.1.length)) (fun h2=>.w (ku (ajO hO p.1 p.2 (hp _ gZ) (lD h)) () h2) (.v true (by rw[<-E5 (lD h),h2]))) fun h2=>.w (kC (ajO hO p.1 p.2 (hp _ gZ) (lD h)) 0 h2) (.v false (by rw[<-E5 (lD h),h2])))
def a6S:eY aC:=bT 157 (a3 iA iA rJ) tA (fun p=>mM p.2.2 p.1 p.2.1) (fun p=>[p.2.2.length<=ah]) acM
theorem ajQ:Gd a6S:=ajP.deep 3 fun n hn hO p hp=>by have h1:∀x,dD X0 Qp (iy (n-3+1)) (.fn 188 [] [.ptr 0 0 1,.ptr 1 0 1]) [.int .i64 x] [.cells [.int .i64 p.1],.cells [.int .i64 p.2.1]] (tA.put (vN x p.1 p.2.1)) [.cells [.int .i64 p.1],.cells [.int .i64 p.2.1]]:=fun x=>jh fZ (first:=[]) (.ssh (fun _=>.sr) (fun _=>.sr));obtain⟨n,rfl⟩:∃k,n=k+3:=⟨n-3,by omega⟩;rw[show n+3-3+1=n+1 by omega]at h1;have h2:=aiH (n:=n+2) (by omega) (g:=fun x=>vN x p.1 p.2.1) h1 p.2.2 (hp _ gZ);exact aN (hO _ (by omega)) (.k h2 (.v (!(mJ (fun x=>vN x p.1 p.2.1) p.2.2)) (by rw[DZ];rfl)))
def a1p(s:LI0):Int:=aU (fun k n=>i64.wrap (n*s.getD k 0)) s.length 0 1
theorem Xu:∀{s:LI0},qh s->bD s<=12^s.length
 | [],_=>by decide
 |a::t,h=>by have h1:=Xu h.tail;have h2:=je h.tail;have h3:=h a (.head _);have h4:a*bD t<=12*bD t:=aaK h3.2 (by omega);show a*bD t<=12^(t.length+1);rw[Int.pow_succ];omega
theorem ajR:∀{n:Nat},n<=6->(12:Int)^n<=2985984:=by decide
theorem a6T{s:LI0}(h:qh s)(hl:s.length<=6):a1p s=bD s:=by
 have:=dU (g:=fun k n=>i64.wrap (n*s.getD k 0)) (m:=s.length) (k:=0) (s:=1) (fun k n=>n=bD (s.take k)) (by simp[bD]) (fun j n _ hj e=>by
  have rU:j<s.length:=by omega
  have e2:bD (s.take (j+1))=n*s.getD j 0:=by rw[a5K rU,DX,e];simp[bD,List.getD,a0a rU]
  have h1:=Qk h (j+1);have h2:1<=bD (s.take (j+1)):=je fun a ha=>h a (a95 ha);have h3:=Xu h;have h4:=ajR hl;show i64.wrap (n*s.getD j 0)=_;rw[e2]at h1 h2 ⊢;exact fK (by omega) (by omega))
 rw[a1p,this];simp
abbrev aam(a b:LI0)(p i:Int)(x:List (Nat×PE aC)):aS aC:=⟨[(0,xL 3 a),(1,xL 3 b),(5,xi p),(17,xL 3 a),(18,xi a.length),(19,xi i)]++x,[],[]⟩
theorem aoZ{n:Nat}{fO:eY aC}(hO:Ok n fO)(a b:LI0)(hl:a.length<=ah):Lp n 105 0 (aam a b 1 0 []) (.exit 1) (aam a b (a1p a) a.length [(20,xl false)]):=
 Oz (st:=fun i n=>aam a b n i []) (fin:=fun n=>aam a b n a.length [(20,xl false)]) (fun _ _=>True) (by kernel_rfl) hl SB trivial (fun _ _ _ _=>trivial) (fun k s hk _ n e p h=>aJ hO (.b (aW hk) (.o (aG hk) (.go h)))) (fun s _=>aJ hO (.b (eH a.length) .ex))
theorem aff{n:Nat}(hO:Ok n a6S)(l:LI0)(hl:l.length<=ah):iQ n (.fn 125 [] []) [.dB 3 l false] [] (.own 0) (lsI l):=
 nY.aak hX (hO 125 [.dB 3 l false] (.own 0) (lsI l) [l.length<=ah] (by kernel_rfl) (List.forall_mem_singleton.2 hl)) rfl rfl rfl rfl
theorem a6U(n:Nat):(dN n).Pairwise fun a b=>decide (a<=b)=true:=by unfold dN;rw[afS];exact List.pairwise_lt_range.imp fun h=>by simp;omega
theorem a3p{n:Nat}{o:LI0}:decide (gK o=dN n)=kD n o:=by
 rw[a4u,a1o];have h2:=SC n;have hp:(gK o).Perm o:=adQ _ _;constructor
 .intro h;rw[h]at hp;unfold kD at h2 ⊢;rw[a1o]at h2 ⊢;exact⟨by rw[<-hp.length_eq,h2.1],fun a ha=>h2.2.1 a (hp.mem_iff.2 ha),hp.nodup_iff.1 h2.2.2⟩
 intro h;unfold kD at h h2;rw[a1o]at h h2;have e:o.Perm (dN n):=(a7y h.2.2 h2.2.2).2 fun a=>by
  have hm:∀x,0<=x∧x<(n:Int)->x∈dN n:=fun x hx=>by unfold dN;rw[a1g];exact⟨x.toNat,by rw[a4i];omega,by omega⟩
  constructor
  .exact fun ha=>hm a (h.2.1 a ha)
  intro ha;by_cases hc:a∈o
  .exact hc
  have:=adt (l₁:=a::o) (l₂:=dN n) (a4k.2 ⟨hc,h.2.2⟩) (fun x hx=>by
   rcases a2d.1 hx with rfl|hx
   .exact ha
   exact hm x (h.2.1 x hx))
  rw[lF]at this;simp at this;omega
 refine List.Perm.eq_of_pairwise (le:=fun a b=>decide (a<=b)=true) (fun a b _ _ h1 h2=>by simp at h1 h2;omega) ?_ (a6U n) (hp.trans e);exact List.pairwise_mergeSort (fun a b c h1 h2=>by simp at h1 h2 ⊢;omega) (fun a b=>by simp;omega) o
def Xv(s o:LI0):Int:=if decide ((s.length:Int)>6)=true then 5 else if(!(mM s 1 12))=true then 3 else if decide (a1p s>2000)=true then 5 else if(!(decide (gK o=dN s.length)))=true then 4 else 0
theorem Xw(s o:LI0):Xv s o=dh s o:=by
 rw[OW];unfold Xv;rw[a3p];by_cases h1:6<s.length
 .rw[a0g (by simp;omega),a0g h1]
 rw[a0c (by simp;omega),a0c h1];have hw:mM s 1 12=decide (qh s):=by
  unfold mM;rw[a4u,a8C,List.any_eq_false,a1o];refine abG fun a=>abG fun _=>?_;unfold vN;split
  .rename_i h;simp at h ⊢;omega
  rename_i h;simp at h ⊢;omega
 rw[hw];by_cases h2:qh s
 .rw[a0c (by simp[h2]),a0g h2,a6T h2 (by omega)];simp only[a1o,Int.not_lt,gt_iff_lt];split
  .rfl
  cases kD s.length o<;>simp
 rw[a0g (by simp[h2]),a0c h2]
def acN:eY aC:=bT 105 (a2 rJ rJ) iA (fun p=>dh p.1 p.2) (fun p=>[p.1.length<=ah,p.2.length<=2^20]) a6S
theorem ajS:Gd acN:=ajQ.deep 1 fun n hn hO p hp=>by
 obtain⟨n,rfl⟩:∃k,n=k+1:=⟨n-1,by omega⟩;have hO:=hO (n+1) (by omega);have h1:p.1.length<=ah:=hp _ gZ;have h2:p.2.length<=2^20:=hp _ yI;have h3:p.2.length<=ah:=by unfold ah;omega
 have h4:(dN p.1.length).length<=ah:=by rw[lF];exact h1
 have h5:(gK p.2).length<=ah:=by unfold gK;rw[aaB];exact h3
 show nY X0 Qp _ _ _ (iA.put (dh p.1 p.2)) _;rw[<-Xw];exact aN hO (.ss .rr (.o h1 (.ss .rr (.w (aoZ hO p.1 p.2 h1) (.ss .rr (.fr [] (aff hO p.2 h3) (.fr [0] (acJ (n:=n) (k:=false) (ex:=false) p.2 h2) (.o (show(0:Int)<=(p.1.length:Int) by omega) (.o (show(p.1.length:Int)<=(ah:Int) by omega) (.o h5 (.ss .rr .rr)))))))))))
open Go Tw Pv bQ
theorem Xx{α:Type}(x:α):[x].length<=ah:=by unfold ah;simp
def qw(v:V):Bool:=if decide (v.f>0)=true then(if decide (v.f<=4)=true then v.n==0 else false)else mM [v.n] (-9999) 9999
def acO:eY aC:=bT 190 (a1 vA) tA (fun p=>qw p) np acN
theorem ajT:Gd acO:=ajS.add fun n hO p hp=>aN hO (.ss (.ss .rr .rr) (.o (Xx p.n) .rr))
abbrev frA:Ut X0 Qp (LI0×LI0):=a2 rJ rJ
abbrev cIx(l:LI0)(v:Int)(k:Nat):Bool:=v==l.getD k 0
abbrev afg(l:LI0)(v:Int)(i:Int)(x:List (Nat×PE aC)):aS aC:=⟨[(0,xL 3 l),(1,xi v),(7,xi l.length),(8,xi i)]++x,[],[]⟩
def z234(l:LI0)(v:Int):Unit⊕Nat->Ex×aS aC
 |.inl _=>(.exit 0,afg l v l.length [(9,xl false)])
 |.inr k=>(.ret,⟨[(4,xi k)],[],[]⟩)
theorem ajU{n:Nat}{fO:eY aC}(hO:Ok n fO)(l:LI0)(v:Int)(hl:l.length<=ah):Lp n 234 0 (afg l v 0 []) (z234 l v (bC (cIx l v) l.length)).1 (z234 l v (bC (cIx l v) l.length)).2:=
 iK (st:=fun i _=>afg l v i []) (fun _ _=>True) (by kernel_rfl) hl trivial (fun k s m hk _ ih=>aJ hO (.b (aW hk) (.o (aG hk) (.ls (.ou nofun) (.nx (ih _ trivial)))))) (fun s _=>aJ hO (.b (eH l.length) (.ou nofun)))
def nC(l:LI0)(v:Int):Int:=if jP (bC (cIx l v) l.length)=true then -1 else((CX 0 (bC (cIx l v) l.length):Nat):Int)
def acQ:eY aC:=bT 234 (a2 rJ iA) iA (fun p=>nC p.1 p.2) (fun p=>[p.1.length<=ah]) acO
theorem ajV:Gd acQ:=ajT.add fun n hO p hp=>aN hO (.zh (fun h=>.w (ku (ajU hO p.1 p.2 (hp _ gZ)) () h) .rr) fun h=>.w (kC (ajU hO p.1 p.2 (hp _ gZ)) 0 h) .rr)
def acR:eY aC:=bT 223 (a2 (a6f (a2 rJ rJ)) iA) iA (fun p=>nC p.1.2 p.2) (fun p=>[p.1.2.length<=ah]) acQ
theorem ajW:Gd acR:=ajV.add fun n hO p hp=>aN hO (.o (hp _ gZ) .rr)
def acS:eY aC:=bT 197 (a1 iA) iA (fun p=>i64.wrap (-1-p)) np acR
theorem ajX:Gd acS:=ajW.add fun n hO p hp=>aN hO .rr
structure Lo where
 s:LI0
 o:LI0
 d:Dg
abbrev Lo.ps(l:Lo):List (PV aC):=[.dB 3 l.s false,.dB 3 l.o false]++l.d.ps
def loA:Arg Lo:=aeD (a6f (KT rJ (KT rJ (KT rJ (a4 rJ Zx aa0 iA))))) (fun p=>⟨p.1,p.2.1,⟨p.2.2.1,p.2.2.2.1,p.2.2.2.2.1,p.2.2.2.2.2.1,p.2.2.2.2.2.2⟩⟩) (fun l=>(l.s,l.o,l.d.aA,l.d.aH,l.d.aO,l.d.au,l.d.root)) fun _=>rfl
def qc(l:Lo)(Au below KX:Int):Bool:=if decide (Au<0)=true then decide (i64.wrap (-1-Au)<(l.d.aO.length:Int))else if decide (Au<below)=true then decide (nC l.o (l.d.au.getD Au.toNat ny).var>KX)else false
def Xy:eY aC:=bT 193 (a4 loA iA iA iA) tA (fun p=>qc p.1 p.2.1 p.2.2.1 p.2.2.2) (fun p=>[p.1.o.length<=ah,0<=p.2.1->p.2.1<p.2.2.1->gW p.2.1 p.1.d.au.length]) acS
theorem ajY:Gd Xy:=ajX.add fun n hO p hp=>aN hO (.sh (fun _=>.rr) fun h=>.sh (fun h2=>.o (hp (0<=p.2.1->p.2.1<p.2.2.1->gW p.2.1 p.1.d.au.length) (.tail _ (.head _)) (by simpa using h) (by simpa using h2)) (.o (hp _ gZ) .rr)) fun _=>.rr)
abbrev Hb(l:Lo)(i:Int)(b:Br):List (PB aC):=[.cells l.ps,.cells [.int .i64 i],.cells b.ps]
theorem ap0{n f:Nat}{a c:List (PV aC)}{H:List (PB aC)}{g:Int->Bool}(l:LI0)(hf:∀x∈l,iQ n (.fn f a c) [.int .i64 x] H (.bool (g x)) H)(hl:l.length<=ah):iQ (n+1) (.fn 218 [] []) [.dB 3 l false,.fn f a c] H (iA.put (qZ g l)) H:=by
 have lp:MC n 218 0 H.length (a6C f a c H l 0 []) (z218 f a c H l (mg (pI g) l 0 ())).1 (z218 f a c H l (mg (pI g) l 0 ())).2:=
  WV (st:=fun i _=>a6C f a c H l i []) (0:Int) (fun _ _=>True) (by kernel_rfl) hl SB trivial (fun k s n hk _ ih=>aJ fZ (.b (aW hk) (.o (aG hk) (.k (hf (l.getD k (0:Int)) (eu hk)) (.ls (.ou nofun) (.nx (ih _ trivial))))))) (fun s _=>aJ fZ (.b (eH l.length) (.ou nofun)))
 exact jh fZ (first:=[]) (cap:=[]) (.szh (fun h=>.w (ku lp () h) .sr) (fun h=>.w (kC lp (0,0,()) h) .sr))
theorem ajZ{n f:Nat}{a c:List (PV aC)}{H:List (PB aC)}{g:Int->Bool}(l:LI0)(hf:∀x∈l,iQ n (.fn f a c) [.int .i64 x] H (.bool (g x)) H)(hl:l.length<=ah):iQ (n+2) (.fn 181 [] []) [.dB 3 l false,.fn f a c] H (tA.put (l.any g)) H:=by have h1:=ap0 l hf hl;have h2:=DZ g l;rw[<-h2];exact jh fZ (first:=[]) (cap:=[]) (.k h1 .sr)
theorem E8{α:Type}(l:List α)(g:α->Bool):(!(l.any fun x=>!(g x)))=l.all g:=by
 induction l with
 |nil=>rfl
 |cons a l ih=>simp only[adg,abC,Bool.not_or,Bool.not_not,ih]
abbrev pB:List (PV aC):=[.ptr 0 0 7,.ptr 1 0 1,.ptr 2 0 2]
theorem ap1{n f:Nat}{l:Lo}{i:Int}{b:Br}{g:Int->Bool}(ks:LI0)(hf:∀x∈ks,iQ n (.fn f [] pB) [.int .i64 x] (Hb l i b) (tA.put (g x)) (Hb l i b))(hl:ks.length<=ah):iQ (n+4) (.fn 191 [] []) [.dB 3 ks false,.fn f [] pB] (Hb l i b) (tA.put (ks.all g)) (Hb l i b):=by
 have h1:∀x∈ks,iQ (n+1) (.fn 221 [] [.ptr 3 0 1]) [.int .i64 x] (Hb l i b++[.cells [.fn f [] pB]]) (tA.put (!(g x))) (Hb l i b++[.cells [.fn f [] pB]]):=fun x hx=>
  jh fZ (first:=[]) (.fr [0,1,2] (hf x hx) .sr)
 have h2:=ajZ ks h1 hl;rw[<-E8 ks g];exact dD.drop hX (CW hX fZ (first:=[]) (cap:=[]) (H1:=Hb l i b++[.cells [.fn f [] pB]]) (by kernel_rfl) (.k h2 .sr)) rfl rfl
theorem a1q{x a b:Int}:mM [x] a b=decide (a<=x∧x<=b):=by
 unfold mM vN;simp only[adg,List.any_nil,Bool.or_false];by_cases h:x<a
 .rw[a0g (by simpa using h),a8N,eq_comm,a2I];omega
 rw[a0c (by simpa using h),a4u,a8C,a2I,a1o];omega
theorem Xz{l:List Br}{k:Nat}(h:k<l.length):l.getD k ny∈l:=by simp[List.getD,a0a h]
abbrev wP(l:Lo)(i:Int):Br:=l.d.au.getD i.toNat ny
def FK(l:Lo)(i:Int):Bool:=if(!(mM [(wP l i).var] 0 (xw l.s)))=true then false else if(((wP l i).ay.length:Int) != l.s.getD (wP l i).var.toNat 0)=true then false else(wP l i).ay.all fun x=>qc l x i (nC l.o (wP l i).var)
theorem ak0{n:Nat}(hO:∀m,n<=m->Ok m Xy){l:Lo}{i:Int}(ho:l.o.length<=ah)(hf:wH l.s)(hi:gW i l.d.au.length):iQ (n+6) (.fn 192 [.agg l.ps] []) [.int .i64 i] [] (tA.put (FK l i)) []:=by
 have h1:∀x∈(wP l i).ay,iQ (n+1) (.fn 222 [] pB) [.int .i64 x] (Hb l i (wP l i)) (tA.put (qc l x i (nC l.o (wP l i).var))) (Hb l i (wP l i)):=fun x _=>
  jh (hO n (a0U _)) (first:=[]) (.o ho (.o ho (.o (show 0<=x->x<i->gW x l.d.au.length from fun h0 h1=>⟨h0,by have:=hi.1;have:=hi.2;omega⟩) .sr)))
 have hv:(!(mM [(wP l i).var] 0 (xw l.s)))=false->gW (wP l i).var l.s.length:=fun h=>by rw[a1q,aby,a1o,a6E hf.aiA]at h;exact⟨h.1,by omega⟩
 have hk:(!(mM [(wP l i).var] 0 (xw l.s)))=false->(((wP l i).ay.length:Int) != l.s.getD (wP l i).var.toNat 0)=false->(wP l i).ay.length<=ah:=fun h h2=>by
  have h3:=hv h;have h4:=hf.sz _ (eu (s:=l.s) (k:=(wP l i).var.toNat) (by have:=h3.2;have:=h3.1;omega));have h2:((wP l i).ay.length:Int)=l.s.getD (wP l i).var.toNat 0:=by simpa using h2
  exact m12 (by omega)
 exact dD.drop hX (CW hX (hO (n+5) (by omega)) (first:=[.agg l.ps]) (cap:=[]) (H1:=Hb l i (wP l i)++[.list true true 3 [(wP l i).var]]) (by kernel_rfl) (.o hi (.o (Xx (wP l i).var) (.ssh (fun _=>.sr) fun h5=>.o (hv h5) (.ssh (fun _=>.sr) fun h6=>.fr [0,1,2] (ap1 (wP l i).ay h1 (hk h5 h6)) .sr))))) rfl rfl
abbrev a3q(f:Nat)(a:List (PV aC)):List (PB aC):=[.cells [.fn f a []]]
theorem ak1{n:Nat}{l:Lo}{g:Int->Bool}(ks:LI0)(hf:∀x∈ks,iQ n (.fn 192 [.agg l.ps] []) [.int .i64 x] [] (tA.put (g x)) [])(hl:ks.length<=ah):iQ (n+4) (.fn 191 [] []) [.dB 3 ks false,.fn 192 [.agg l.ps] []] [] (tA.put (ks.all g)) []:=by
 have h1:∀x∈ks,iQ (n+1) (.fn 221 [] [.ptr 0 0 1]) [.int .i64 x] (a3q 192 [.agg l.ps]) (tA.put (!(g x))) (a3q 192 [.agg l.ps]):=fun x hx=>
  jh fZ (first:=[]) (.fr [] (hf x hx) .sr)
 have h2:=ajZ ks h1 hl;rw[<-E8 ks g];exact dD.drop hX (CW hX fZ (first:=[]) (cap:=[]) (H1:=a3q 192 [.agg l.ps]) (by kernel_rfl) (.k h2 .sr)) rfl rfl
theorem ap2{n:Nat}(hO:Ok n Xy)(l:List V)(hl:l.length<=ah):iQ (n+4) (.fn 189 [] []) [.dB 39 l false,.fn 190 [] []] [] (tA.put (l.all qw)) []:=by
 have h1:∀x:V,iQ (n+1) (.fn 220 [] [.ptr 0 0 1]) [.agg x.ps] (a3q 190 []) (tA.put (!(qw x))) (a3q 190 []):=fun x=>
  jh hO (first:=[]) .sr
 have h2:=af2 (n:=n+2) (by omega) (g:=fun x=>!(qw x)) h1 l hl;rw[<-E8 l,<-Jf];exact dD.drop hX (CW hX fZ (first:=[]) (cap:=[]) (H1:=a3q 190 []) (by kernel_rfl) (.k h2 .sr)) rfl rfl
theorem ap3{n:Nat}(hO:Ok n Xy)(m:Nat)(hm:m<=ah):iQ n (.fn 159 [] []) [.int .i64 m] [] (rJ.put (dN m)) []:=
 nY.aak hX (hO 159 [.int .i64 m] (rJ.put (dN m)) [] [0<=(m:Int),(m:Int)<=(ah:Int)] (by kernel_rfl) (by
  intro q hq;rcases a2d.1 hq with rfl|hq
  .omega
  .rw[a2p.1 hq];omega)) rfl rfl rfl rfl
theorem a1r{x:Int}{m:Nat}(h:x∈dN m):gW x m:=by simp only[dN,a1g,a4i]at h;obtain⟨k,hk,rfl⟩:=h;exact aG hk
abbrev yJ(d:Dg):Lo:=⟨d.aA,d.aH,d⟩
abbrev lo0:Lo:=⟨[],[],⟨[],[],[],[],0⟩⟩
def bF(d:Dg):Lo×Int:=if(dh d.aA d.aH != 0)=true then(lo0,dh d.aA d.aH)else if decide ((d.au.length:Int)>6000)=true then(yJ d,5)else if(!(d.aO.all qw))=true then(yJ d,4)else if(!((dN d.au.length).all (FK (yJ d))))=true then(yJ d,4)else if(!(qc (yJ d) d.root d.au.length (-1)))=true then(yJ d,4)else(yJ d,0)
def Dl:eY aC:=bT 160 (a1 dA) (dR (a2 loA iA)) (fun p=>bF p) (fun p=>[p.aA.length<=ah,p.aH.length<=2^20,p.aO.length<=ah]) Xy
theorem acT:Gd Dl:=ajY.deep 11 fun n hn hO d hp=>by
 obtain⟨n,rfl⟩:∃k,n=k+10:=⟨n-10,by omega⟩;have h1:d.aA.length<=ah:=hp _ gZ;have h2:d.aH.length<=2^20:=hp _ yI;have h3:d.aO.length<=ah:=hp _ hh2;have ho:d.aH.length<=ah:=by unfold ah;omega
 have hO:∀m,n<=m->Ok m _:=fun m hm=>hO m (by omega);have hI:(dh d.aA d.aH != 0)=false->∀x∈dN d.au.length,iQ (n+6) (.fn 192 [.agg (yJ d).ps] []) [.int .i64 x] [] (tA.put (FK (yJ d) x)) []:=fun h x hx=>ak0 hO (l:=yJ d) ho (Aq h) (a1r hx);have hR:0<=d.root->d.root<(d.au.length:Int)->gW d.root d.au.length:=fun a b=>⟨a,by omega⟩;have hL:decide ((d.au.length:Int)>6000)=false->(dN d.au.length).length<=ah:=fun h=>by rw[lF];exact UG h
 exact aN (hO (n+10) (by omega)) (.o h1 (.o h2 (.sh (fun _=>.rn (.dG [.agg [.nil .aP,.nil .aP,.nil .aP,.nil .aP,.nil .aP,.nil .aP,.int .i64 0],.int .i64 (dh d.aA d.aH)]) rfl) fun h=>.sh (fun _=>.rr) fun h4=>.fr [] (ap2 (n:=n+6) (hO (n+6) (by omega)) d.aO h3) (.ss .rr (.fr [] (ap3 (hO (n+10) (by omega)) d.au.length (UG h4)) (.fr [] (ak1 (l:=yJ d) (n:=n+6) (dN d.au.length) (hI h) (hL h4)) (.ss .rr (.o ho (.o hR (.ss .rr .rr))))))))))
open Go Tw Pv bQ
def KY(x:Int):Prop:=-(2^63)<=x∧x<2^63
structure KD(d:Dg):Prop where
 Au:∀i,i<d.au.length->∀k,k<(fD d i).ay.length->KY ((fD d i).ay.getD k 0)
 root:KY d.root
 fault:∀v∈d.aO,0<=v.f
theorem mW{n:Nat}{o:LI0}(h:kD n o=true){v:Int}(hv:gW v n):v∈o:=by
 unfold kD at h;rw[a1o]at h;obtain⟨h0,h1⟩:=hv;by_cases hc:v∈o
 .exact hc
 have:=adt (l₁:=v::o) (l₂:=dN n) (a4k.2 ⟨hc,h.2.2⟩) (fun x hx=>by
  have:0<=x∧x<(n:Int):=by
   rcases a2d.1 hx with rfl|hx
   .exact⟨h0,by omega⟩
   exact h.2.1 x hx
  unfold dN;rw[a1g];exact⟨x.toNat,by rw[a4i];omega,by omega⟩)
 rw[lF]at this;simp at this;omega
theorem rP{l:LI0}{k:Nat}(h:k<l.length):l.getD k 0=l[k]:=by simp[List.getD,a0a h]
theorem a1s{l:LI0}{v:Int}(h:v∈l):jP (bC (cIx l v) l.length)=false:=by
 cases e:jP (bC (cIx l v) l.length)
 .rfl
 obtain⟨j,hj,e2⟩:=a4v.1 h;have:=dH.1 e j hj;simp[cIx,List.getD,a0a hj,e2]at this
theorem a6V{d:Dg}{r:Int}:OX d r=cIx d.aH (aj d r).var:=by funext k;exact BEq.comm
theorem UJ{d:Dg}{r:Int}(h0:0<=r)(h:(aj d r).var∈d.aH):tH d r=nC d.aH (aj d r).var:=by unfold tH nC;rw[a0c (by rw[a1o];omega),a6V,a1s h,a0c (by decide),a0c (by decide)]
theorem ak2{l:LI0}{v:Int}(h:v∈l):nC l v<(l.length:Int):=by unfold nC;rw[a1s h,a0c (by simp)];obtain⟨j,h1,_,_,h2⟩:=DW (a1s h);rw[h2];show(j:Int)<_;omega
theorem P5{x a b:Int}:mM [x] a b=nT x a b:=by rw[a1q,a4u,vH,a1o]
theorem a6W{v:V}(h:0<=v.f):qw v=vOk v:=by rw[af6 h];unfold qw vIs;rw[P5]
theorem afh{z:Int}(h:KY z):i64.wrap z=z:=by
 obtain⟨h0,h1⟩:=h;simp only[IntKind.wrap,IntKind.bits,IntKind.signed];rcases Int.lt_or_le z 0 with h|h
 .have:z%(2^64:Int)=z+2^64:=by have:=abE z (2^64) 1;rw[abS]at this;rw[<-this];exact a8B (by omega) (by omega)
  simp only[this];rw[a0g (by simp;omega)];omega
 have:z%(2^64:Int)=z:=a8B h (by omega);simp only[this];rw[a0c (by simp;omega)]
theorem MF{x:Int}(h:KY x)(h0:x<0):i64.wrap (-1-x)=-1-x:=by have h1:=h.1;exact afh ⟨by omega,by omega⟩
theorem aan{d:Dg}{x:Int}(below:Int)(h:KY x)(h0:x<0)(he:d.aO.length<=ah):iL d x below=decide (i64.wrap (-1-x)<(d.aO.length:Int)):=by
 have he:d.aO.length<=2^60:=by unfold ah at he;omega
 unfold iL;rw[a0c (by simp;omega),MF h h0,a4u,vH,a1o];by_cases h1:d.aO.length=0
 .rw[h1,show i64.wrap (((0:Nat):Int)-1)=-1 by decide];omega
 rw[fK (by omega) (by omega)];omega
theorem ak3{l:LI0}{v:Int}(h:v∈l):0<=nC l v:=by unfold nC;rw[a1s h,a0c (by simp)];omega
theorem afi{d:Dg}{x below KX:Int}(h0:0<=x)(hv:x<below->(aj d x).var∈d.aH):qc (yJ d) x below KX=(iL d x below&&decide (KX<tH d x)):=by
 unfold qc iL;rw[a0c (show ¬(decide (x<0)=true) by rw[a1o];omega),a0g (show decide (x>=0)=true by rw[a1o];omega)];by_cases h1:x<below
 .rw[a0g (show decide (x<below)=true by rw[a1o];exact h1),UJ h0 (hv h1),decide_eq_true h1,adf]
 rw[a0c (show ¬(decide (x<below)=true) by rw[a1o];exact h1),ae9 h1,Bool.false_and]
theorem afj{d:Dg}{x below KX:Int}(h:KY x)(h0:x<0)(he:d.aO.length<=ah)(hr:KX<(d.aH.length:Int)):qc (yJ d) x below KX=(iL d x below&&decide (KX<tH d x)):=by rw[aan _ h h0 he];unfold qc tH;rw[a0g (by rw[a1o];exact h0),a0g (by rw[a1o];exact h0),decide_eq_true hr,ah0]
theorem a6X{d:Dg}{x below KX:Int}(h:KY x)(he:d.aO.length<=ah)(hr:KX<(d.aH.length:Int))(hv:0<=x->x<below->(aj d x).var∈d.aH):qc (yJ d) x below KX=(iL d x below&&decide (KX<tH d x)):=by
 by_cases h0:0<=x
 .exact afi h0 (hv h0)
 exact afj h (by omega) he hr
theorem a6Y{d:Dg}(h:KD d)(he:d.aO.length<=ah)(hv:∀r,gW r d.au.length->(aj d r).var∈d.aH):qc (yJ d) d.root d.au.length (-1)=iL d d.root d.au.length:=by
 rw[a6X h.root he (by omega) (fun a b=>hv _ ⟨a,by omega⟩)];cases e:iL d d.root d.au.length
 .rfl
 rw[adf,a1o];by_cases h0:0<=d.root
 .have:=Xq e h0 (a0U _);rw[UJ h0 (hv _ this)];have:=ak3 (hv _ this);omega
 unfold tH;rw[a0g (by rw[a1o];omega)];omega
theorem acU{d:Dg}(h:KD d)(he:d.aO.length<=ah){i:Nat}(hi:i<d.au.length)(hf:wH d.aA)(ho:kD d.aA.length d.aH=true)(hv:∀j,j<i->(fD d j).var∈d.aH):FK (yJ d) i=!(ZA d i):=by
 have e0:wP (yJ d) i=fD d i:=rfl;unfold FK ZA;rw[e0];show(if(!(mM [(fD d i).var] 0 (xw d.aA)))=true then false else if(((fD d i).ay.length:Int) != d.aA.getD (fD d i).var.toNat 0)=true then false else _)=_;rw[P5];cases e1:nT (fD d i).var 0 (xw d.aA)
 .rfl
 have hvi:(fD d i).var∈d.aH:=mW ho (Jm hf e1);have ap4:(aj d (i:Int)).var∈d.aH:=hvi;simp only[a8N,a2i,a3g];split
 .rfl
 have F8:((fD d i).ay.all fun x=>qc (yJ d) x i (nC (yJ d).o (fD d i).var))=jP (bC (cLk d i) (fD d i).ay.length):=by
  rw[a4u,a4o,dH];have hk:∀k,k<(fD d i).ay.length->(qc (yJ d) ((fD d i).ay.getD k 0) i (nC d.aH (fD d i).var)=true↔cLk d i k=false):=fun k hk=>by
   rw[a6X (h.Au i hi k hk) he (ak2 hvi) (fun a b=>hv _ (by omega)),a2f,a1o];unfold cLk;rw[show tH d (i:Int)=nC d.aH (fD d i).var from UJ (by omega) ap4];cases iL d ((fD d i).ay.getD k 0) i
   .simp
   simp<;>omega
  constructor
  .intro a k JQ;exact(hk k JQ).1 (a _ (eu JQ))
  intro a x hx;obtain⟨k,JQ,rfl⟩:=a4v.1 hx;have:=(hk k JQ).2 (a k JQ);rw[rP JQ]at this;exact this
 rw[F8];cases jP (bC (cLk d i) (fD d i).ay.length)<;>rfl
theorem afk{d:Dg}(h:KD d)(he:d.aO.length<=ah)(hf:wH d.aA)(ho:kD d.aA.length d.aH=true):(dN d.au.length).all (FK (yJ d))=jP (bC (ZA d) d.au.length):=by
 have ak4:∀i,ZA d i=false->(fD d i).var∈d.aH:=fun i hc=>by
  unfold ZA at hc;split at hc
  .cases hc
  rename_i e;exact mW ho (Jm hf (by simpa using e))
 have key:∀i,i<=d.au.length->((∀j,j<i->FK (yJ d) j=true)↔∀j,j<i->ZA d j=false):=by
  intro i
  induction i with
  |zero=>intro _;exact⟨fun _ j hj=>absurd hj (by omega),fun _ j hj=>absurd hj (by omega)⟩
  |succ i ih=>
   intro hi;have ih:=ih (by omega);constructor
   .intro a;have b:=ih.1 fun j hj=>a j (by omega);intro j hj;by_cases hji:j<i
    .exact b j hji
    have:j=i:=(by omega);subst this;have:=a j (by omega);rw[acU h he (by omega) hf ho (fun k hk=>ak4 k (b k hk))]at this;simpa using this
   intro b j hj;by_cases hji:j<i
   .exact ih.2 (fun k hk=>b k (by omega)) j hji
   have:j=i:=(by omega);subst this;rw[acU h he (by omega) hf ho (fun k hk=>ak4 k (b k (by omega))),b j (by omega)];rfl
 rw[a4u,a4o,dH,<-key _ (a0U _)];constructor
 .intro a j hj;exact a _ (by unfold dN;rw[a1g];exact⟨j,a4i.2 hj,rfl⟩)
 intro a x hx;simp only[dN,a1g,a4i]at hx;obtain⟨k,hk,rfl⟩:=hx;exact a k hk
theorem aao{d:Dg}(h:∀v∈d.aO,0<=v.f):d.aO.all qw=jP (bC (cLe d) d.aO.length):=by
 rw[a4u,a4o,dH];have hg:∀k,(hk:k<d.aO.length)->d.aO.getD k V0=d.aO[k]:=fun k hk=>by simp[List.getD,a0a hk]
 constructor
 .intro a k hk;unfold cLe;rw[hg k hk,<-a6W (h _ (a4q hk)),a _ (a4q hk)];rfl
 intro a x hx;obtain⟨k,hk,rfl⟩:=a4v.1 hx;have:=a k hk;unfold cLe at this;rw[hg k hk,<-a6W (h _ hx)]at this;simpa using this
theorem Jp{d:Dg}(h:KD d)(he:d.aO.length<=ah):bF d=(if(dh d.aA d.aH != 0)=true then lo0 else yJ d,bG d):=by
 unfold bF bG;split
 .rfl
 rename_i h1;have VZ:=mF.1 (show dh d.aA d.aH=0 by simpa using h1);split
 .rfl
 unfold lG;rw[aao h.fault,afk h he VZ.1 VZ.2];cases e1:jP (bC (cLe d) d.aO.length)
 .rfl
 cases e2:jP (bC (ZA d) d.au.length)
 .rfl
 have hv:∀r,gW r d.au.length->(aj d r).var∈d.aH:=fun r hr=>by
  have:=dH.1 e2 r.toNat (by have:=hr.1;have:=hr.2;omega);unfold ZA at this;split at this
  .cases this
  rename_i e;exact mW VZ.2 (Jm VZ.1 (by simpa using e))
 rw[a6Y h he hv];simp only[a8N,a2i,a3g,a1U];cases iL d d.root d.au.length<;>rfl
open Go Tw Pv bQ
def kV:oC X0 Qp 39 V where
 pv x:=.agg x.ps
 tv x:=x.tv
 v x:=.agg #[.int .u8 x.f,.int .i64 x.n]
 hp _:=rfl
 ht _:=rfl
 hc em x:=by kernel_rfl
 hf x l:=a18 af7 (fun a b=>a1i 9998 a b) x l
 hk:=a1a af7 fun a b=>a1i 9998 a b
def kI:oC X0 Qp 3 Int where
 pv x:=.int .i64 x
 tv x:=.int .i64 x
 v x:=.int .i64 x
 hp _:=rfl
 ht _:=rfl
 hc em x:=by kernel_rfl
 hf x l:=aeP a3i x l
 hk:=aeQ a3i
abbrev zD(E:List V):List (V×PV X0.Γ):=E.zipIdx.map fun e=>(e.1,.int .i64 (e.2:Nat))
abbrev mkC(a b:LI0)(e n:Nat)(r:Int):PB aC:=.cells [.dB 3 a false,.dB 3 b false,.own 0,.own 1,.own e,.own n,.int .i64 r,.map 2,.map 3]
abbrev PX(l:List V):PB aC:=.list false false 39 l
abbrev PY(l:List Br):PB aC:=.list false false 105 l
abbrev MK(a b:LI0)(E:List V)(nd:List Br)(r:Int)(nm:List (PV aC×PV aC)):List (PB aC):=[.list false false 3 a,.list false false 3 b,.map (kV.es (zD E)),.map nm,mkC a b 5 6 r,PX E,PY nd]
abbrev MK'(a b:LI0)(E:List V)(nd:List Br)(r:Int)(nm:List (PV aC×PV aC)):List (PB aC):=[.list false false 3 a,.list false false 3 b,.map (kV.es (zD E)),.map nm,mkC a b 7 8 r,.gone,.gone,PX E,PY nd]
theorem SK(E:List V):(zD E).map (·.1)=E:=by unfold zD;rw[a7m];show E.zipIdx.map (·.1)=E;simp
theorem a6Z(E:List V)(v:V):zD (E++[v])=zD E++[(v,.int .i64 (E.length:Nat))]:=by unfold zD;rw[List.zipIdx_append,a3Z];simp
theorem a7a{E:List V}{v:V}(h:v∈E):(v,(.int .i64 (E.idxOf v:Nat):PV X0.Γ))∈zD E:=by unfold zD;rw[a1g];have hl:=a4C.2 h;exact⟨(v,E.idxOf v),by rw[a96];simp[a0a hl],rfl⟩
def jV(E:List V)(v:V):List V:=if v∈E then E else E++[v]
theorem UK{E:List V}{v:V}(h:E.Nodup):(jV E v).Nodup:=by
 unfold jV;split
 .exact h
 rename_i hn;rw[a8H];exact⟨h,by simp,fun x hx y hy=>by rw[a2p]at hy;subst hy;intro e;subst e;exact hn hx⟩
theorem ap5{n:Nat}(hO:Ok n Dl){a b:LI0}{E:List V}{nd:List Br}{r:Int}{nm:List (PV aC×PV aC)}(v:V)(hE:E.Nodup)(hl:E.length+1<=ah):iQ (n+1) (.fn 196 [] []) [.ptr 4 0 9,.agg v.ps] (MK a b E nd r nm) (.int .i64 (i64.wrap (-1-(E.idxOf v:Nat)))) (MK' a b (jV E v) nd r nm):=by
 by_cases h:v∈E
 .rw[show jV E v=E from a0g h];have hf:qg X0 Qp 39 (kV.es (zD E)) v.tv (.int .i64 (E.idxOf v:Nat)):=kV.found (by rw[SK];exact hE) (a7a h);exact dD.gs hX (mZ hX hO (first:=[]) (cap:=[]) (v:=.int .i64 (i64.wrap (-1-(E.idxOf v:Nat)))) (H1:=MK a b E nd r nm) (by kernel_rfl) (.c (.int .i64 (E.idxOf v:Nat)) [] hf (.b (rfl:(!true)=false) .er))) [.mv 5,.mv 6] rfl
 rw[show jV E v=E++[v]from a0c h,a9h h];have hf:nM X0 Qp 39 (kV.es (zD E)) v.tv:=kV.fresh (by rw[SK];exact h);have em:kV.es (zD (E++[v]))=kV.es (zD E)++[(.agg v.ps,.int .i64 (E.length:Nat))]:=by rw[a6Z];exact a3Z ..
 show dD X0 Qp _ _ _ _ _ [_,_,.map (kV.es (zD (E++[v]))),_,_,_,_,_,_];rw[em];exact dD.gs hX (mZ hX hO (first:=[]) (cap:=[]) (v:=.int .i64 (i64.wrap (-1-(E.length:Nat)))) (H1:=[.list false false 3 a,.list false false 3 b,.map (kV.es (zD E)++[(.agg v.ps,.int .i64 (E.length:Nat))]),.map nm,mkC a b 8 6 r,.gone,PY nd,.list true true 39 [v],PX (E++[v])]) (by kernel_rfl) (.a .calm (.o hf (.b (rfl:(!false)=true) (.a .calm (.o (kV.ck v) (.o hf (.o (show E.length+[v].length<=ah by simpa using hl) .er)))))))) [.mv 6,.gc [8,9]] rfl
open Go Tw Pv bQ
abbrev oI(k ex:Bool)(l:LI0):PB aC:=.list k ex 3 l
abbrev wOI(f:Nat)(a c:List (PV aC))(k ex:Bool)(R:List (PB aC))(l:LI0)(i:Int)(x:List (Nat×PE aC)):aS aC:=⟨[(0,.val (.own 0)),(1,.val (.fn f a c)),(7,xi l.length),(8,xi i)]++x,[],oI k ex l::R⟩
def zOI(f:Nat)(a c:List (PV aC))(k ex:Bool)(R:List (PB aC))(l:LI0):Unit⊕(Nat×Int×Unit)->Ex×aS aC
 |.inl _=>(.exit 0,wOI f a c k ex R l l.length [(9,xl false)])
 |.inr r=>(.ret,⟨[(4,xi r.1)],[],oI k ex l::R⟩)
theorem qoI{n f:Nat}{a c:List (PV aC)}{ko ex:Bool}{R:List (PB aC)}{g:Int->Bool}(l:LI0)(hf:∀x∈l,iQ n (.fn f a c) [.int .i64 x] (oI ko ex l::R) (.bool (g x)) (oI ko ex l::R))(hl:l.length<=ah):iQ (n+1) (.fn 218 [] []) [.own 0,.fn f a c] (oI ko ex l::R) (iA.put (qZ g l)) (oI ko ex l::R):=by
 have lp:MC n 218 0 (R.length+1) (wOI f a c ko ex R l 0 []) (zOI f a c ko ex R l (mg (pI g) l 0 ())).1 (zOI f a c ko ex R l (mg (pI g) l 0 ())).2:=
  WV (st:=fun i _=>wOI f a c ko ex R l i []) (0:Int) (fun _ _=>True) (by kernel_rfl) hl SB trivial (fun k s n hk _ ih=>aJ fZ (.b (aW hk) (.o (aG hk) (.k (hf (l.getD k (0:Int)) (eu hk)) (.ls (.ou nofun) (.nx (ih _ trivial))))))) (fun s _=>aJ fZ (.b (eH l.length) (.ou nofun)))
 exact jh fZ (first:=[]) (cap:=[]) (.szh (fun h=>.w (ku lp () h) .sr) (fun h=>.w (kC lp (0,0,()) h) .sr))
theorem qoC{n f:Nat}{a c:List (PV aC)}{ko ex:Bool}{R:List (PB aC)}{g:Int->Bool}(l:LI0)(hf:∀x∈l,iQ n (.fn f a c) [.int .i64 x] (oI ko ex l::R) (.bool (g x)) (oI ko ex l::R))(hl:l.length<=ah):iQ (n+2) (.fn 181 [] []) [.own 0,.fn f a c] (oI ko ex l::R) (tA.put (l.any g)) (oI ko ex l::R):=by have h1:=qoI l hf hl;have h2:=DZ g l;rw[<-h2];exact jh fZ (first:=[]) (cap:=[]) (.k h1 .sr)
abbrev Hk(k ex:Bool)(l:LI0):List (PB aC):=[oI k ex l,.cells [.own 0]]
theorem qoA{n f:Nat}{ko ex:Bool}{g:Int->Bool}(l:LI0)(hf:∀x∈l,iQ n (.fn f [] [.ptr 1 0 1]) [.int .i64 x] (Hk ko ex l) (tA.put (g x)) (Hk ko ex l))(hl:l.length<=ah):iQ (n+4) (.fn 191 [] []) [.own 0,.fn f [] [.ptr 1 0 1]] (Hk ko ex l) (tA.put (l.all g)) (Hk ko ex l):=by
 have h1:∀x∈l,iQ (n+1) (.fn 221 [] [.ptr 2 0 1]) [.int .i64 x] (Hk ko ex l++[.cells [.fn f [] [.ptr 1 0 1]]]) (tA.put (!(g x))) (Hk ko ex l++[.cells [.fn f [] [.ptr 1 0 1]]]):=fun x hx=>
  jh fZ (first:=[]) (.fr [0,1] (hf x hx) .sr)
 have h2:=qoC (R:=[.cells [.own 0],.cells [.fn f [] [.ptr 1 0 1]]]) l h1 hl;rw[<-E8 l g];exact dD.drop hX (CW hX fZ (first:=[]) (cap:=[]) (H1:=Hk ko ex l++[.cells [.fn f [] [.ptr 1 0 1]]]) (by kernel_rfl) (.k h2 .sr)) rfl rfl
theorem a7b{n:Nat}{ko ex:Bool}(l:LI0)(hl:l.length<=ah):iQ (n+5) (.fn 191 [] []) [.own 0,.fn 224 [] [.ptr 1 0 1]] (Hk ko ex l) (tA.put (l.all fun x=>x==l.getD 0 0)) (Hk ko ex l):=
 qoA (n:=n+1) l (fun x hx=>jh fZ (first:=[]) (.o (show gW 0 l.length from⟨by omega,by have:=List.length_pos_of_mem hx;omega⟩) .sr)) hl
theorem a7c:∀l:LI0,l.length=12->∃a0 a1 a2 a3 a4 a5 a6 a7 a8 a9 a10 a11:Int,l=[a0,a1,a2,a3,a4,a5,a6,a7,a8,a9,a10,a11]
 | [a0,a1,a2,a3,a4,a5,a6,a7,a8,a9,a10,a11],_=>⟨a0,a1,a2,a3,a4,a5,a6,a7,a8,a9,a10,a11,rfl⟩
 | [],h=>by simp at h
 | [_],h=>by simp at h
 | [_,_],h=>by simp at h
 | [_,_,_],h=>by simp at h
 | [_,_,_,_],h=>by simp at h
 | [_,_,_,_,_],h=>by simp at h
 | [_,_,_,_,_,_],h=>by simp at h
 | [_,_,_,_,_,_,_],h=>by simp at h
 | [_,_,_,_,_,_,_,_],h=>by simp at h
 | [_,_,_,_,_,_,_,_,_],h=>by simp at h
 | [_,_,_,_,_,_,_,_,_,_],h=>by simp at h
 | [_,_,_,_,_,_,_,_,_,_,_],h=>by simp at h
 |_::_::_::_::_::_::_::_::_::_::_::_::_::_,h=>by simp at h
abbrev Ky:=Int×{l:LI0 // l.length=12}
abbrev Ky.l(x:Ky):LI0:=x.1::x.2.val
theorem P6:∀l:LI0,iJ (Γ:=aC) (l.map fun x=>PV.int .i64 x)=some (l.map fun x=>TV.int .i64 x)
 | []=>rfl
 |a::l=>by simp only[a4c,iJ,qM,P6 l]
theorem SL:∀l:LI0,TV.Tn (l.map fun x=>TV.int .i64 x)=some (l.map fun x=>Value.int .i64 x)
 | []=>rfl
 |a::l=>by simp only[a4c,TV.Tn,TV.toC,SL l]
theorem afl : Tryz.prog.underlying 223 = some (.struct #[⟨"choice", 3, 0, false, "", "mist/node", 0⟩, ⟨"kids", 221, 1, false, "", "mist/node", 8⟩]) := by kernel_rfl
theorem acW(d:Nat)(a b:Ky):aB Qp (Op.equalIn (d+3) 223 (.agg (D6 .i64 a.l)) (.agg (D6 .i64 b.l)))=some (decide (a=b)):=by
 obtain⟨a1,a2,ha⟩:=a;obtain⟨b1,b2,hb⟩:=b;rw[xU (d+2) 223 _ _ _ afl (by kernel_rfl)];have gI:aB Qp (isAgg 3)=some false:=by kernel_rfl
 have gA:aB Qp (isAgg 221)=some true:=by kernel_rfl
 have sA:aB Qp (sizeOf 221)=some 12:=by kernel_rfl
 have sI:aB Qp (sizeOf 3)=some 1:=by kernel_rfl
 have p0:∀x l,aB Qp (part 3 (D6 .i64 (x::l)) 0)=some (.int .i64 x):=fun x l=>D5 gI (OG (l:=x::l) (by simp));have p1:∀x l,l.length=12->aB Qp (part 221 (D6 .i64 (x::l)) 1)=some (.agg (D6 .i64 l)):=fun x l h=>by
  obtain⟨a0,a1,a2,a3,a4,a5,a6,a7,a8,a9,a10,a11,rfl⟩:=a7c l h
  kernel_rfl
 have q1 := oq (f := ⟨"choice", 3, 0, false, "", "mist/node", 0⟩) (fs := [⟨"kids", 221, 1, false, "", "mist/node", 8⟩]) (by decide) (p0 a1 a2) (p0 b1 b2) (qO (d + 1) _ .i64 _ a1 b1 a3i);have q2 := oq (f := ⟨"kids", 221, 1, false, "", "mist/node", 8⟩) (fs := []) (by decide) (p1 a1 a2 ha) (p1 b1 b2 hb) (Bq d (k := .i64) (t := 221) (by kernel_rfl) sI a3i gI ha hb);rw[q1,q2];rw[show aB Qp (Op.eqFields (d+2) (D6 .i64 (a1::a2)) (D6 .i64 (b1::b2)) [])=some true from rfl];by_cases h1:a1=b1<;>by_cases h2:a2=b2<;>simp[h1,h2]
def kK:oC X0 Qp 223 Ky where
 pv x:=.agg (x.l.map fun i=>.int .i64 i)
 tv x:=.agg (x.l.map fun i=>.int .i64 i)
 v x:=.agg (D6 .i64 x.l)
 hp x:=congrArg (Option.map TV.agg) (P6 x.l)
 ht x:=congrArg (Option.map fun vs:List LI3=>Value.agg vs.toArray) (SL x.l)
 hc em x:=by
  obtain⟨c,l,h⟩:=x;obtain⟨a0,a1,a2,a3,a4,a5,a6,a7,a8,a9,a10,a11,rfl⟩:=a7c l h
  kernel_rfl
 hf x l:=a18 afl (fun a b=>acW 9997 a b) x l
 hk:=a1a afl (fun a b=>acW 9997 a b)
open Go Tw Pv bQ
def Hu(l:LI0):LI0:=(l++[0,0,0,0,0,0,0,0,0,0,0,0]).take 12
theorem a7d(l:LI0):(Hu l).length=12:=by unfold Hu;simp
def tJ(c:Int)(ks:LI0):Ky:=(c,⟨Hu ks,a7d ks⟩)
abbrev BL(b:Br):Ky:=tJ b.var b.ay
abbrev yH(nd:List Br):List (Ky×PV X0.Γ):=nd.zipIdx.map fun e=>(BL e.1,.int .i64 (e.2:Nat))
theorem SN(nd:List Br):(yH nd).map (·.1)=nd.map BL:=by unfold yH;rw[a7m];show nd.zipIdx.map (BL∘fun e=>e.1)=_;rw[<-a7m];simp
theorem a7e(nd:List Br)(b:Br):yH (nd++[b])=yH nd++[(BL b,.int .i64 (nd.length:Nat))]:=by unfold yH;rw[List.zipIdx_append,a3Z];simp
theorem a7f{nd:List Br}{k:Ky}(h:k∈nd.map BL):(k,(.int .i64 ((nd.map BL).idxOf k:Nat):PV X0.Γ))∈yH nd:=by
 have hl:=a4C.2 h;have TG:(nd.map BL).idxOf k<nd.length:=by simpa using hl
 unfold yH;rw[a1g];refine⟨(nd[(nd.map BL).idxOf k],(nd.map BL).idxOf k),by rw[a96];simp[a0a TG],?_⟩;have:=a8F hl;rw[a8Z]at this;show(BL _,_)=_;rw[this]
def dn(nd:List Br)(c:Int)(ks:LI0):List Br:=if(ks.all fun x=>x==ks.getD 0 0)=true then nd else if tJ c ks∈nd.map BL then nd else nd++[⟨c,ks⟩]
def dZ(nd:List Br)(c:Int)(ks:LI0):Int:=if(ks.all fun x=>x==ks.getD 0 0)=true then ks.getD 0 0 else((nd.map BL).idxOf (tJ c ks):Nat)
abbrev MN(a b:LI0)(E:List V)(nd:List Br)(r:Int):List (PB aC):=MK a b E nd r (kK.es (yH nd))
abbrev MNg(a b:LI0)(E:List V)(nd:List Br)(r:Int)(nm:List (PV aC×PV aC)):List (PB aC):=[.list false false 3 a,.list false false 3 b,.map (kV.es (zD E)),.map nm,mkC a b 8 9 r,.gone,.gone,.gone,PX E,PY nd]
abbrev MN'(a b:LI0)(E:List V)(nd:List Br)(r:Int):List (PB aC):=MNg a b E nd r (kK.es (yH nd))
theorem afm{n:Nat}(hO:Ok (n+5) Dl){a b:LI0}{E:List V}{nd:List Br}{r:Int}(c:Int)(ks:LI0)(hk:1<=ks.length∧ks.length<=12)(hf:(ks.all fun x=>x==ks.getD 0 0)=true):iQ (n+6) (.fn 198 [] []) [.ptr 4 0 9,.int .i64 c,.own 7] (MN a b E nd r++[oI true true ks]) (.int .i64 (ks.getD 0 0)) (MN' a b E nd r):=by have h1:=mZ hX hO (first:=[]) (cap:=[]) (xs:=[.ptr 4 0 9,.int .i64 c,.own 7]) (H:=MN a b E nd r++[oI true true ks]) (v:=.int .i64 (ks.getD 0 0)) (H1:=MN a b E nd r++[oI true true ks,.cells [.own 7]]) (f:=198) (by kernel_rfl) (.fr [7,8] (a7b (n:=n) (ko:=true) (ex:=true) ks (m12 hk.2)) (.b hf (.o (show gW 0 ks.length from⟨by omega,by omega⟩) .er)));exact dD.forget (dD.gs hX h1 [.mv 5,.mv 6,.gc [9,10]] rfl) 7
abbrev a7g(c:Int)(ks:LI0):PB aC:=.cells ((Ky.l (tJ c ks)).map fun i=>.int .i64 i)
theorem afn{n:Nat}(hO:Ok (n+5) Dl){a b:LI0}{E:List V}{nd:List Br}{r:Int}(c:Int)(ks:LI0)(hk:1<=ks.length∧ks.length<=12)(hf:(ks.all fun x=>x==ks.getD 0 0)=false)(hN:(nd.map BL).Nodup)(hm:tJ c ks∈nd.map BL):iQ (n+6) (.fn 198 [] []) [.ptr 4 0 9,.int .i64 c,.own 7] (MN a b E nd r++[oI true true ks]) (.int .i64 ((nd.map BL).idxOf (tJ c ks):Nat)) (MN' a b E nd r):=by
 have hF:qg X0 Qp 223 (kK.es (yH nd)) (kK.tv (tJ c ks)) (.int .i64 ((nd.map BL).idxOf (tJ c ks):Nat)):=kK.found (by rw[SN];exact hN) (a7f hm);have h1:iQ (n+6) (.fn 198 [] []) [.ptr 4 0 9,.int .i64 c,.own 7] (MN a b E nd r++[oI true true ks]) (.int .i64 ((nd.map BL).idxOf (tJ c ks):Nat)) (MN a b E nd r++[oI true true ks,.cells [.own 7],a7g c ks]):=by generalize (nd.map BL).idxOf (tJ c ks)=j at hF ⊢;generalize yH nd=nm at hF ⊢;obtain⟨k1,k2⟩:=hk;rcases ks with _|⟨x0,_|⟨x1,_|⟨x2,_|⟨x3,_|⟨x4,_|⟨x5,_|⟨x6,_|⟨x7,_|⟨x8,_|⟨x9,_|⟨x10,_|⟨x11,_|⟨x12,_⟩⟩⟩⟩⟩⟩⟩⟩⟩⟩⟩⟩⟩<;>first|(exfalso;simp at k1;done)|(exfalso;simp at k2;omega)|(exact fB hO (first:=[]) (cap:=[]) (.fr [7,8] (a7b (n:=n) (ko:=true) (ex:=true) _ (m12 k2)) (.b hf (.c (.int .i64 (j:Nat)) [] hF (.b (rfl:(!true)=false) .er)))))
 exact dD.forget (dD.gs hX (dD.forget h1 9) [.mv 5,.mv 6,.gc [10,11]] rfl) 7
theorem afo{n:Nat}(hO:Ok (n+5) Dl){a b:LI0}{E:List V}{nd:List Br}{r:Int}(c:Int)(ks:LI0)(hk:1<=ks.length∧ks.length<=12)(hf:(ks.all fun x=>x==ks.getD 0 0)=false)(hm:tJ c ks∉nd.map BL)(hl:nd.length+1<=ah):iQ (n+6) (.fn 198 [] []) [.ptr 4 0 9,.int .i64 c,.own 7] (MN a b E nd r++[oI true true ks]) (.int .i64 (nd.length:Nat)) (MN' a b E (nd++[⟨c,ks⟩]) r):=by
 have hF:nM X0 Qp 223 (kK.es (yH nd)) (kK.tv (tJ c ks)):=kK.fresh (by rw[SN];exact hm);have hC:=kK.ck (tJ c ks);have hL:nd.length+([⟨c,ks⟩]:List Br).length<=ah:=by simpa using hl
 have em:kK.es (yH (nd++[⟨c,ks⟩]))=kK.es (yH nd)++[(kK.pv (tJ c ks),.int .i64 (nd.length:Nat))]:=by rw[a7e];exact a3Z ..
 show dD X0 Qp _ _ _ _ _ (MNg a b E (nd++[⟨c,ks⟩]) r (kK.es (yH (nd++[⟨c,ks⟩]))));rw[em];have h1:iQ (n+6) (.fn 198 [] []) [.ptr 4 0 9,.int .i64 c,.own 7] (MN a b E nd r++[oI true true ks]) (.int .i64 (nd.length:Nat)) [.list false false 3 a,.list false false 3 b,.map (kV.es (zD E)),.map (kK.es (yH nd)++[(kK.pv (tJ c ks),.int .i64 (nd.length:Nat))]),mkC a b 5 11 r,PX E,.gone,.gone,.cells [.own 7],a7g c ks,.list true true 105 [⟨c,ks⟩],PY (nd++[⟨c,ks⟩])]:=by generalize yH nd=nm at hF ⊢;obtain⟨k1,k2⟩:=hk;rcases ks with _|⟨x0,_|⟨x1,_|⟨x2,_|⟨x3,_|⟨x4,_|⟨x5,_|⟨x6,_|⟨x7,_|⟨x8,_|⟨x9,_|⟨x10,_|⟨x11,_|⟨x12,_⟩⟩⟩⟩⟩⟩⟩⟩⟩⟩⟩⟩⟩<;>first|(exfalso;simp at k1;done)|(exfalso;simp at k2;omega)|(exact fB hO (first:=[]) (cap:=[]) (.fr [7,8] (a7b (n:=n) (ko:=true) (ex:=true) _ (m12 k2)) (.b hf (.q (.bool false) hF (.b (rfl:(!false)=true) (.q (.bool false) hC (.o hF (.o hL .er))))))))
 exact dD.gs hX (dD.forget (dD.forget h1 9) 10) [.mv 5,.gc [12,11]] rfl
theorem ak7{n:Nat}(hO:Ok (n+5) Dl){a b:LI0}{E:List V}{nd:List Br}{r:Int}(c:Int)(ks:LI0)(hk:1<=ks.length∧ks.length<=12)(hN:(nd.map BL).Nodup)(hl:nd.length+1<=ah):iQ (n+6) (.fn 198 [] []) [.ptr 4 0 9,.int .i64 c,.own 7] (MN a b E nd r++[oI true true ks]) (.int .i64 (dZ nd c ks)) (MN' a b E (dn nd c ks) r):=by
 unfold dZ dn;cases hf:ks.all fun x=>x==ks.getD 0 0
 .rw[a0c (by simp),a0c (by simp)];by_cases hm:tJ c ks∈nd.map BL
  .rw[a0g hm];exact afn hO c ks hk hf hN hm
  rw[a0c hm,a9h hm,a4h];exact afo hO c ks hk hf hm hl
 rw[a0g rfl,a0g rfl];exact afm hO c ks hk hf
theorem Qm{nd:List Br}{c:Int}{ks:LI0}(h:(nd.map BL).Nodup):((dn nd c ks).map BL).Nodup:=by
 unfold dn;split
 .exact h
 split
 .exact h
 rename_i hn;rw[a3Z,a8H];exact⟨h,by simp,fun x hx y hy=>by simp at hy;subst hy;intro e;subst e;exact hn hx⟩
open Go Tw Pv bQ
theorem ap7{n:Nat}(hO:Ok n Dl)(a b:LI0)(ha:a.length<=ah)(hb:b.length<=ah):iQ (n+1) (.fn 194 [] []) [.agg [.dB 3 a false,.dB 3 b false]] [] (.ptr 4 0 9) (MN a b [] [] 0):=
 dD.gs hX (mZ hX hO (first:=[]) (cap:=[]) (v:=.ptr 4 0 9) (H1:=[.list false false 3 a,.list false false 3 b,.map [],.map [],.cells [.dB 3 a false,.dB 3 b false,.own 0,.own 1,.nil .aP,.nil .aP,.int .i64 0,.map 2,.map 3]]) (by kernel_rfl) (.o ha (.o hb .er))) [.Uc 4 4 39,.Uc 4 5 105] rfl
structure Cs where
 e:List V
 n:List Br
 k:List (Int×Int)
abbrev KZ(k:List (Int×Int)):List (Int×PV X0.Γ):=k.map fun p=>(p.1,.int .i64 p.2)
abbrev pC:List (PV aC):=[.ptr 8 0 1,.ptr 7 0 7,.ptr 10 0 1,.ptr 11 0 1]
abbrev acX(l:Lo)(k:List (Int×Int)):List (PB aC):=[.aF l.ps,.aF [.ptr 4 0 9],.map (kI.es (KZ k)),.aF [.map 9],.aF [.fn 195 [] pC]]
abbrev HC(l:Lo)(x:Cs):List (PB aC):=MN l.s l.o x.e x.n 0++acX l x.k
abbrev HC'(l:Lo)(x:Cs):List (PB aC):=[.list false false 3 l.s,.list false false 3 l.o,.map (kV.es (zD x.e)),.map (kK.es (yH x.n)),mkC l.s l.o 12 13 0,.gone,.gone]++acX l x.k++[PX x.e,PY x.n]
def pK(d:Dg)(r:Int):V:=d.aO.getD (i64.wrap (-1-r)).toNat V0
def UL(k:List (Int×Int))(r:Int):Int:=((k.find? fun p=>p.1==r).getD (0,0)).2
def bV(d:Dg):Nat->Int->Cs->Int×Cs
 | 0,_,x=>(0,x)
 |F+1,r,x=>if decide (r<0)=true then(i64.wrap (-1-(x.e.idxOf (pK d r):Nat)),⟨jV x.e (pK d r),x.n,x.k⟩)else if decide (r∈x.k.map (·.1))=true then(UL x.k r,x)
  else
   let y:=aU (fun j (y:LI0×Cs)=>(y.1.set j (bV d F ((aj d r).ay.getD j 0) y.2).1,(bV d F ((aj d r).ay.getD j 0) y.2).2)) (aj d r).ay.length 0 (List.replicate (aj d r).ay.length 0,x)
   (dZ y.2.n (aj d r).var y.1,⟨y.2.e,dn y.2.n (aj d r).var y.1,y.2.k++[(r,dZ y.2.n (aj d r).var y.1)]⟩)
structure Dn(d:Dg)(x:Cs):Prop where
 e1:x.e.Nodup
 e2:∀v∈x.e,v∈d.aO
 n1:(x.n.map BL).Nodup
 n2:x.n.length<=x.k.length
 k1:(x.k.map (·.1)).Nodup
 k2:∀a∈x.k.map (·.1),gW a d.au.length
theorem Dn.KW{d:Dg}{x:Cs}(h:Dn d x):x.k.length<=d.au.length:=by have:=zC _ _ h.k1 h.k2;simpa using this
theorem Dn.ak8{d:Dg}{x:Cs}(h:Dn d x):x.e.length<=d.aO.length:=adt h.e1 h.e2
theorem XA(nd:List Br)(c:Int)(ks:LI0):(dn nd c ks).length<=nd.length+1:=by
 unfold dn;split
 .omega
 split
 .omega
 simp
theorem a1t{k:List (Int×Int)}{r:Int}(h:r∈k.map (·.1)):(r,UL k r)∈k:=by
 rw[a1g]at h;obtain⟨p,hp,rfl⟩:=h;unfold UL;cases e:k.find? fun q=>q.1==p.1 with
 |none=>have:=adu.1 e p hp;simp at this
 |some q=>
  have h1:=aeb e;have h2:=List.find?_some e;simp at h2;rw[<-h2];exact h1
theorem a7h{d:Dg}{r:Int}(h:gW (i64.wrap (-1-r)) d.aO.length):pK d r∈d.aO:=by
 have h1:(i64.wrap (-1-r)).toNat<d.aO.length:=by have:=h.1;have:=h.2;omega
 unfold pK;simp[List.getD,a0a h1]
theorem Hw{d:Dg}(P:Cs->Prop){F:Nat}{r:Int}{x:Cs}(h:P x)(hs:∀j y,j<(aj d r).ay.length->P y->P (bV d F ((aj d r).ay.getD j 0) y).2) :
  (aU (fun j (y:LI0×Cs)=>(y.1.set j (bV d F ((aj d r).ay.getD j 0) y.2).1,(bV d F ((aj d r).ay.getD j 0) y.2).2)) (aj d r).ay.length 0 (List.replicate (aj d r).ay.length 0,x)).1.length=(aj d r).ay.length∧P (aU (fun j (y:LI0×Cs)=>(y.1.set j (bV d F ((aj d r).ay.getD j 0) y.2).1,(bV d F ((aj d r).ay.getD j 0) y.2).2)) (aj d r).ay.length 0 (List.replicate (aj d r).ay.length 0,x)).2:=
 dU (g:=fun j (y:LI0×Cs)=>(y.1.set j (bV d F ((aj d r).ay.getD j 0) y.2).1,(bV d F ((aj d r).ay.getD j 0) y.2).2)) (m:=(aj d r).ay.length) (k:=0) (s:=(List.replicate (aj d r).ay.length 0,x)) (fun _ y=>y.1.length=(aj d r).ay.length∧P y.2) ⟨by simp,h⟩ (fun j y _ hj hy=>⟨by simp[hy.1],hs j y.2 (by omega) hy.2⟩)
theorem XB{d:Dg}:∀(F:Nat) (r s:Int) (x:Cs),r<s->s∉x.k.map (·.1)->0<=s->(∀i,i<d.au.length->∀k,k<(fD d i).ay.length->(fD d i).ay.getD k 0<i)->(0<=r->gW r d.au.length)->s∉(bV d F r x).2.k.map (·.1)
 | 0,_,_,_,_,h,_,_,_=>h
 |F+1,r,s,x,hr,h,h0,hk,hn=>by
  unfold bV;by_cases c:r<0
  .rw[a0g (by simpa using c)];exact h
  rw[a0c (by simpa using c)];split
  .exact h
  have hi:=hn (by omega);have Dz:∀k,k<(aj d r).ay.length->(aj d r).ay.getD k 0<r:=fun k kN=>by obtain⟨i1,i2⟩:=hi;have h9:(aj d r).ay.getD k 0<(r.toNat:Int):=hk r.toNat (by omega) k kN;omega
  have:=(Hw (d:=d) (fun y=>s∉y.k.map (·.1)) (F:=F) (r:=r) h (fun j y hj hy=>XB F _ s y (by have:=Dz j hj;omega) hy h0 hk fun h5=>⟨h5,by have:=hi.2;have:=Dz j hj;omega⟩)).2;simp only[a3Z,a3k,adl];exact⟨this,by simp;omega⟩
theorem P7{d:Dg}(h:BH d):∀(F:Nat) (r:Int) (x:Cs),Dn d x->jq d r d.au.length->Dn d (bV d F r x).2
 | 0,_,_,hx,_=>hx
 |F+1,r,x,hx,hr=>by
  unfold bV;by_cases c:r<0
  .rw[a0g (by simpa using c)];refine⟨UK hx.e1,fun v hv=>?_,hx.n1,hx.n2,hx.k1,hx.k2⟩;have hv:v∈jV x.e (pK d r):=hv;unfold jV at hv;split at hv
   .exact hx.e2 v hv
   rcases a3k.1 hv with hv|hv
   .exact hx.e2 v hv
   rw[a2p.1 hv];exact a7h (hr.2 c)
  rw[a0c (by simpa using c)];split
  .exact hx
  rename_i c2;have aT:r.toNat<d.au.length:=by have:=hr.1;omega
  have BI:∀k,k<(aj d r).ay.length->(aj d r).ay.getD k 0<r:=fun k kN=>by have h9:=(h.Au r.toNat aT k kN).1;have h9:(aj d r).ay.getD k 0<(r.toNat:Int):=h9;omega
  have hb:=(Hw (d:=d) (fun y=>Dn d y∧r∉y.k.map (·.1)) (F:=F) (r:=r) ⟨hx,by simpa using c2⟩ (fun j y hj hy=>by have MG:jq d ((aj d r).ay.getD j 0) d.au.length:=⟨by have:=BI j hj;have:=hr.1;omega,(h.Au r.toNat aT j hj).2⟩;refine⟨P7 h F _ y hy.1 MG,XB F _ r y (BI j hj) hy.2 (by omega) (fun i hi k hk=>(h.Au i hi k hk).1) (fun h5=>⟨h5,by have:=MG.1;omega⟩)⟩)).2
  obtain⟨hb,xM⟩:=hb;refine⟨hb.e1,hb.e2,Qm hb.n1,?_,?_,?_⟩
  .have:=XA (aU (fun j (y:LI0×Cs)=>(y.1.set j (bV d F ((aj d r).ay.getD j 0) y.2).1,(bV d F ((aj d r).ay.getD j 0) y.2).2)) (aj d r).ay.length 0 (List.replicate (aj d r).ay.length 0,x)).2.n (aj d r).var (aU (fun j (y:LI0×Cs)=>(y.1.set j (bV d F ((aj d r).ay.getD j 0) y.2).1,(bV d F ((aj d r).ay.getD j 0) y.2).2)) (aj d r).ay.length 0 (List.replicate (aj d r).ay.length 0,x)).1;have:=hb.n2;simp only[a1I,a3P];omega
  .simp only[a3Z,a4c,abv];exact wM hb.k1 xM
  intro a ha;simp only[a3Z,a3k,a4c,abv,a2p]at ha;rcases ha with ha|rfl
  .exact hb.k2 a ha
  exact⟨by omega,by omega⟩
open Go Tw Pv bQ
abbrev hCl(l:Lo)(x:Cs)(ks:LI0):List (PB aC):=HC' l x++[oI true true ks]
abbrev wCl(l:Lo)(r:Int)(i:Int)(y:LI0×Cs)(x:List (Nat×PE aC)):aS aC:=⟨[(0,xi r),(1,.val (.ptr 8 0 1)),(3,.val (.ptr 10 0 1)),(4,.val (.ptr 11 0 1)),(9,.loc 0 0),(10,xo 14),(43,xL 3 (aj l.d r).ay),(44,xi (aj l.d r).ay.length),(45,xi i)]++x,[(aj l.d r).ps],hCl l y.2 y.1⟩
theorem lCl{M:Nat}(hO:Ok M Dl){d:Dg}{F:Nat}{r:Int}(hk:(aj d r).ay.length<=12)(Q:Cs->Prop){x:Cs}(hx:Q x)(hq:∀j y,j<(aj d r).ay.length->Q y->Q (bV d F ((aj d r).ay.getD j 0) y).2)(hs:∀j y,j<(aj d r).ay.length->Q y->dD X0 Qp (iy M) (.fn 195 [] pC) [.int .i64 ((aj d r).ay.getD j 0)] (HC (yJ d) y) (.int .i64 (bV d F ((aj d r).ay.getD j 0) y).1) (HC' (yJ d) (bV d F ((aj d r).ay.getD j 0) y).2)) :
  MC M 195 0 12 (wCl (yJ d) r 0 (List.replicate (aj d r).ay.length 0,x) []) (.exit 0) (wCl (yJ d) r (aj d r).ay.length (aU (fun j (y:LI0×Cs)=>(y.1.set j (bV d F ((aj d r).ay.getD j 0) y.2).1,(bV d F ((aj d r).ay.getD j 0) y.2).2)) (aj d r).ay.length 0 (List.replicate (aj d r).ay.length 0,x)) [(46,xl false)]):=by
 refine rM (σ:=LI0×Cs) (N:=(aj d r).ay.length) (g:=fun j (y:LI0×Cs)=>(y.1.set j (bV d F ((aj d r).ay.getD j 0) y.2).1,(bV d F ((aj d r).ay.getD j 0) y.2).2)) (s0:=(List.replicate (aj d r).ay.length 0,x)) (st:=fun k y=>wCl (yJ d) r k y []) (fin:=fun y=>wCl (yJ d) r (aj d r).ay.length y [(46,xl false)]) (fun _ y=>y.1.length=(aj d r).ay.length∧Q y.2) (by kernel_rfl) (m12 hk) ⟨by simp,hx⟩ (fun j y hj hy=>⟨by simp[hy.1],hq j y.2 hj hy.2⟩) (fun j y hj hy m e p g=>?_) (fun y _=>aJ hO (.b (eH (aj d r).ay.length) .ex));have h1:=hs j y.2 hj hy.2;have h2:gW j y.1.length:=aG (by rw[hy.1];exact hj);generalize bV d F ((aj d r).ay.getD j 0) y.2=z at h1 g;obtain⟨v,z⟩:=z;exact aJ hO (.b (aW hj) (.o (aG hj) (.fr [0,1,2,3,4,12,13,7,8,9,10,11] h1 (.o h2 (.goG [.gc [15,16,14]] g)))))
theorem Ea(k:List (Int×Int)):(KZ k).map (·.1)=k.map (·.1):=by unfold KZ;rw[a7m];rfl
theorem ap8{n:Nat}(hO:Ok n Dl)(k:Int):iQ n (.fn 197 [] []) [.int .i64 k] [] (iA.put (i64.wrap (-1-k))) []:=
 nY.aak hX (hO 197 [.int .i64 k] (iA.put (i64.wrap (-1-k))) [] [] (by kernel_rfl) (fun q hq=>by cases hq)) rfl rfl rfl rfl
theorem sCl{N:Nat}(hO:∀m,N<=m->Ok m Dl){d:Dg}(h:BH d)(he:d.aO.length+1<=ah)(hn:d.au.length+1<=ah)(h1k:∀i,i<d.au.length->1<=(fD d i).ay.length):∀(F:Nat) (r:Int) (x:Cs),r+1<F->Dn d x->jq d r d.au.length->1<=F->dD X0 Qp (iy (N+F+6)) (.fn 195 [] pC) [.int .i64 r] (HC (yJ d) x) (.int .i64 (bV d F r x).1) (HC' (yJ d) (bV d F r x).2)
 | 0,r,x,_,_,_,h1=>by omega
 |F+1,r,x,hF,hx,hr,_=>by
  rw[show N+(F+1)+6=N+F+6+1 by omega];have Aw:=hO (N+F+6) (by omega);have FV:=hO (N+F+5) (by omega);unfold bV;by_cases c:r<0
  .have t0:decide (r<0)=true:=(by simpa using c);rw[a0g t0];have hi:gW (i64.wrap (-1-r)) d.aO.length:=hr.2 c;have hs:=ap5 FV (a:=d.aA) (b:=d.aH) (E:=x.e) (nd:=x.n) (r:=0) (nm:=kK.es (yH x.n)) (pK d r) hx.e1 (by have:=hx.ak8;omega);exact fB Aw (first:=[]) (.b t0 (.fr [] (ap8 Aw r) (.o hi (.fr [0,1,2,3,4,5,6] hs .er))))
  have t0:decide (r<0)=false:=by simpa using c
  rw[a0c (by rw[t0];simp)];have aT:r.toNat<d.au.length:=by have:=hr.1;omega
  by_cases c2:r∈x.k.map (·.1)
  .rw[a0g (by simpa using c2)];have hf:qg X0 Qp 3 (kI.es (KZ x.k)) (kI.tv r) (.int .i64 (UL x.k r)):=kI.found (by rw[Ea];exact hx.k1) (a1g.2 ⟨(r,UL x.k r),a1t c2,rfl⟩);generalize UL x.k r=v at hf ⊢;exact dD.gs hX (mZ hX Aw (first:=[]) (H1:=HC (yJ d) x) (v:=.int .i64 v) (by kernel_rfl) (.b t0 (.c (.int .i64 v) [] hf (.b (rfl:true=true) .er)))) [.mv 5,.mv 6] rfl
  rw[a0c (by simpa using c2)];have BI:∀k,k<(aj d r).ay.length->(aj d r).ay.getD k 0<r:=fun k kN=>by have h9:=(h.Au r.toNat aT k kN).1;have h9:(aj d r).ay.getD k 0<(r.toNat:Int):=h9;omega
  have MG:∀j,j<(aj d r).ay.length->jq d ((aj d r).ay.getD j 0) d.au.length:=fun j hj=>⟨by have:=BI j hj;have:=hr.1;omega,(h.Au r.toNat aT j hj).2⟩;have JQ:(aj d r).ay.length<=12:=h.KW r.toNat aT;have hq:∀j y,j<(aj d r).ay.length->(Dn d y∧r∉y.k.map (·.1))->Dn d (bV d F ((aj d r).ay.getD j 0) y).2∧r∉(bV d F ((aj d r).ay.getD j 0) y).2.k.map (·.1):=fun j y hj hy=>
   ⟨P7 h F _ y hy.1 (MG j hj),XB F _ r y (BI j hj) hy.2 (by omega) (fun i hi k hk=>(h.Au i hi k hk).1) (fun h5=>⟨h5,by have:=(MG j hj).1;omega⟩)⟩
  have hl:=lCl Aw (d:=d) (F:=F) (r:=r) JQ (fun y=>Dn d y∧r∉y.k.map (·.1)) (x:=x) ⟨hx,c2⟩ hq (fun j y hj hy=>sCl hO h he hn h1k F _ y (by have:=BI j hj;omega) hy.1 (MG j hj) (by omega));obtain⟨g1,g2,g3⟩:=Hw (d:=d) (fun y=>Dn d y∧r∉y.k.map (·.1)) (F:=F) (r:=r) (x:=x) ⟨hx,c2⟩ hq;generalize aU (fun j (y:LI0×Cs)=>(y.1.set j (bV d F ((aj d r).ay.getD j 0) y.2).1,(bV d F ((aj d r).ay.getD j 0) y.2).2)) (aj d r).ay.length 0 (List.replicate (aj d r).ay.length 0,x)=y at hl g1 g2 g3;obtain⟨ks,e,nd,kn⟩:=y;have g1:ks.length=(aj d r).ay.length:=g1;have Ez:1<=ks.length∧ks.length<=12:=by rw[g1];exact⟨h1k r.toNat aT,JQ⟩
  have hN:nd.length+1<=ah:=by have:=g2.KW;have:=g2.n2;simp at *;omega
  have hs:=ak7 (n:=N+F) FV (a:=d.aA) (b:=d.aH) (E:=e) (nd:=nd) (r:=0) (aj d r).var ks Ez g2.n1 hN;have f0:nM X0 Qp 3 (kI.es (KZ x.k)) (kI.tv r):=kI.fresh (by rw[Ea];exact c2);have f1:nM X0 Qp 3 (kI.es (KZ kn)) (kI.tv r):=kI.fresh (by rw[Ea];exact g3);have f2:=kI.ck r;show dD X0 Qp _ _ _ _ (.int .i64 (dZ nd (aj d r).var ks)) (HC' (yJ d) ⟨e,dn nd (aj d r).var ks,kn++[(r,dZ nd (aj d r).var ks)]⟩);generalize dZ nd (aj d r).var ks=v at hs ⊢;generalize dn nd (aj d r).var ks=nd' at hs ⊢;have em:kI.es (KZ (kn++[(r,v)]))=kI.es (KZ kn)++[(kI.pv r,.int .i64 v)]:=by show List.map _ (List.map _ (kn++[(r,v)]))=_;rw[a3Z,a3Z];rfl
  have f3:qg X0 Qp 3 (kI.es (KZ kn)++[(kI.pv r,.int .i64 v)]) (kI.tv r) (.int .i64 v):=by rw[<-em];exact kI.found (by rw[Ea,a3Z];exact wM g2.k1 g3) (a1g.2 ⟨(r,v),by simp,rfl⟩)
  have hi:gW r d.au.length:=⟨by omega,hr.1⟩;have hm:((aj d r).ay.length:Int)<=(ah:Int):=by have:=m12 JQ;omega
  show dD X0 Qp _ _ _ _ _ ([_,_,_,_,_,_,_]++[_,_,.map (kI.es (KZ (kn++[(r,v)]))),_,_]++[_,_]);rw[em];exact dD.gs hX (mZ hX Aw (first:=[]) (v:=.int .i64 v) (H1:=[.list false false 3 d.aA,.list false false 3 d.aH,.map (kV.es (zD e)),.map (kK.es (yH nd')),mkC d.aA d.aH 15 16 0,.gone,.gone,.aF (yJ d).ps,.aF [.ptr 4 0 9],.map (kI.es (KZ kn)++[(kI.pv r,.int .i64 v)]),.aF [.map 9],.aF [.fn 195 [] pC],.gone,.gone,.gone,PX e,PY nd']) (by kernel_rfl) (.b t0 (.q (.bool false) f0 (.b (rfl:false=false) (.o hi (.o (show((aj d r).ay.length:Int)=((aj d r).ay.length:Int)from rfl) (.o (show(0:Int)<=((aj d r).ay.length:Int) by omega) (.o hm (.wG [.mv 5,.mv 6,.gc [13,14,12]] hl (.fr [0,1,2,3,4,12,13,14] hs (.q (.bool false) f2 (.o f1 (.c (.int .i64 v) [] f3 .er))))))))))))) [.gc [15,16]] rfl
open Go Tw Pv bQ
abbrev P8(a b:List V)(k:Nat):Bool:=!(decide (a.getD k V0=b.getD k V0))
abbrev afp(a b:List V)(i:Int)(x:List (Nat×PE aC)):aS aC:=⟨[(0,xL 39 a),(1,xL 39 b),(12,xi a.length),(13,xi i)]++x,[],[]⟩
def z227(a b:List V):Unit⊕Nat->Ex×aS aC
 |.inl _=>(.exit 0,afp a b a.length [(14,xl false)])
 |.inr _=>(.ret,⟨[(4,xl false)],[],[]⟩)
theorem ak9{n:Nat}{fO:eY aC}(hO:Ok n fO)(a b:List V)(hl:a.length<=ah)(h:a.length=b.length):Lp n 227 0 (afp a b 0 []) (z227 a b (bC (P8 a b) a.length)).1 (z227 a b (bC (P8 a b) a.length)).2:=
 iK (st:=fun i _=>afp a b i []) (fun _ _=>True) (by kernel_rfl) hl trivial (fun k s m hk _ ih=>aJ hO (.b (aW hk) (.o (aG hk) (.o (aG (h▸hk)) (.q (.bool (!(decide (a.getD k V0=b.getD k V0)))) (neV (.tmp 19) (.tmp 23) (a.getD k V0) (b.getD k V0)) (.ls (.ou nofun) (.nx (ih _ trivial)))))))) (fun s _=>aJ hO (.b (eH a.length) (.ou nofun)))
theorem aap{a b:List V}(h:a.length=b.length):a=b↔∀j,j<a.length->a.getD j V0=b.getD j V0:=by
 constructor
 .rintro rfl j _;rfl
 intro h2;apply a9R h;intro j h3 h4;have:=h2 j h3;simpa[List.getD,a0a h3,a0a h4]using this
theorem P9{a b:List V}(h:a.length=b.length):jP (bC (P8 a b) a.length)=decide (a=b):=by rw[a4u,dH,a1o,aap h];simp[P8]
theorem aaq{α:Type}[DecidableEq α]{a b:List α}(h:((a.length:Int) != (b.length:Int))=true):decide (a=b)=false:=by rw[a2I];rintro rfl;simp at h
def acY:eY aC:=bT 227 (a2 Zx Zx) tA (fun p=>decide (p.1=p.2)) (fun p=>[p.1.length<=ah]) Dl
theorem akb:Gd acY:=acT.add fun n hO p hp=>aN hO (.s (fun h=>.v false (aaq h).symm) fun h=>.z (c:=jP (bC (P8 p.1 p.2) p.1.length)) (fun h2=>.w (ku (ak9 hO p.1 p.2 (hp _ gZ) (lD h)) () h2) (.v true (by rw[<-P9 (lD h),h2]))) fun h2=>.w (kC (ak9 hO p.1 p.2 (hp _ gZ) (lD h)) 0 h2) (.v false (by rw[<-P9 (lD h),h2])))
def UM(x y:Br):Bool:=if(x.var==y.var)=true then decide (x.ay=y.ay)else false
def a7i:eY aC:=bT 226 (a2 brA brA) tA (fun p=>UM p.1 p.2) (fun p=>[p.1.ay.length<=ah]) acY
theorem akc:Gd a7i:=akb.add fun n hO p hp=>aN hO (.ss (.o (hp _ gZ) .rr) .rr)
abbrev wEB(a b:List Br)(i:Int)(x:List (Nat×PE aC)):aS aC:=⟨[(1,xL 105 b),(2,.val (.fn 226 [] [])),(15,xL 105 a),(16,xi a.length),(17,xi i)]++x,[],[]⟩
abbrev cEB(a b:List Br)(k:Nat):Bool:=!(UM (a.getD k ny) (b.getD k ny))
def zEB(a b:List Br):Unit⊕Nat->Ex×aS aC
 |.inl _=>(.exit 0,wEB a b a.length [(18,xl false)])
 |.inr k=>(.ret,⟨[(6,xl false)],[(a.getD k ny).ps,(b.getD k ny).ps],[]⟩)
theorem lEB{n:Nat}(hO:Ok n a7i)(a b:List Br)(hl:a.length<=ah)(h:a.length=b.length)(hk:∀k,k<a.length->(a.getD k ny).ay.length<=ah):Lp n 228 0 (wEB a b 0 []) (zEB a b (bC (cEB a b) a.length)).1 (zEB a b (bC (cEB a b) a.length)).2:=
 iK (st:=fun i _=>wEB a b i []) (fun _ _=>True) (by kernel_rfl) hl trivial (fun k s m kN _ ih=>aJ hO (.b (aW kN) (.o (aG kN) (.o (aG (h▸kN)) (.o (hk k kN) (.ls (.ou nofun) (.nx (ih _ trivial)))))))) (fun s _=>aJ hO (.b (eH a.length) (.ou nofun)))
def Hy(a b:List Br):Bool:=if((a.length:Int) != (b.length:Int))=true then false else if jP (bC (cEB a b) a.length)=true then true else false
def acZ:eY aC:=bT 228 (a3 aa0 aa0 (fnA 226)) tA (fun p=>Hy p.1 p.2.1) (fun p=>[p.1.length<=ah,∀k,k<p.1.length->(p.1.getD k ny).ay.length<=ah]) a7i
theorem akd:Gd acZ:=akc.add fun n hO p hp=>aN hO (.sh (fun _=>.rr) fun h=>.zh (fun h2=>.w (ku (lEB hO p.1 p.2.1 (hp _ gZ) (lD h) (hp (∀k,k<p.1.length->(p.1.getD k ny).ay.length<=ah) (.tail _ (.head _)))) () h2) .rr) fun h2=>.w (kC (lEB hO p.1 p.2.1 (hp _ gZ) (lD h) (hp (∀k,k<p.1.length->(p.1.getD k ny).ay.length<=ah) (.tail _ (.head _)))) 0 h2) .rr)
def Hz(a b:Dg):Bool:=if decide (a.aA=b.aA)=true then(if decide (a.aH=b.aH)=true then(if decide (a.aO=b.aO)=true then(if Hy a.au b.au=true then a.root==b.root else false)else false)else false)else false
def ad1:eY aC:=bT 203 (a2 dA dA) tA (fun p=>Hz p.1 p.2) (fun p=>[p.1.aA.length<=ah,p.1.aH.length<=ah,p.1.aO.length<=ah,p.1.au.length<=ah,∀k,k<p.1.au.length->(p.1.au.getD k ny).ay.length<=ah]) acZ
theorem ake:Gd ad1:=akd.add fun n hO p hp=>aN hO (.o (hp _ gZ) (.ss (.o (hp _ yI) (.ss (.o (hp _ hh2) (.ss (.o (hp _ (.tail _ (.tail _ (.tail _ (.head _))))) (.o (hp (∀k,k<p.1.au.length->(p.1.au.getD k ny).ay.length<=ah) (.tail _ (.tail _ (.tail _ (.tail _ (.head _)))))) (.ss .rr .rr))) .rr)) .rr)) .rr))
theorem XC{x y:Br}:UM x y=true↔x=y:=by obtain⟨a,b⟩:=x;obtain⟨c,e⟩:=y;unfold UM;simp only[Br.mk.injEq];by_cases h:a=c<;>simp[h]
theorem a3r{a b:List Br}:Hy a b=true↔a=b:=by
 unfold Hy;by_cases h:a.length=b.length
 .rw[a0c (by simp;omega)];have e:jP (bC (cEB a b) a.length)=true↔a=b:=by
   rw[dH];constructor
   .intro h1;apply a9R h;intro j h3 h4;have:=h1 j h3;simp only[cEB,aby]at this;have:=XC.1 this;simpa[List.getD,a0a h3,a0a h4]using this
   rintro rfl j _;simp only[cEB,aby];exact XC.2 rfl
  rw[<-e];cases jP (bC (cEB a b) a.length)<;>simp
 rw[a0g (by simp;omega)];constructor
 .intro h1;cases h1
 rintro rfl;exact absurd rfl h
theorem a1u{a b:Dg}:Hz a b=true↔a=b:=by
 obtain⟨a1,a2,a3,a4,a5⟩:=a;obtain⟨b1,b2,b3,b4,b5⟩:=b;unfold Hz;simp only[Dg.mk.injEq];by_cases h1:a1=b1
 .by_cases h2:a2=b2
  .by_cases h3:a3=b3
   .have h4:=a3r (a:=a4) (b:=b4);cases e:Hy a4 b4
    .rw[e]at h4;simp[h1,h2,h3];intro h5;exact absurd h5 (by simpa using h4)
    rw[e]at h4;simp at h4;simp[h1,h2,h3,h4]
   simp[h3]
  simp[h2]
 simp[h1]
open Go Tw Pv bQ
def wV(s:LI0×LI0)(x:Int):Int:=if x<0 then i64.wrap (-1-(s.2.idxOf (jG x):Nat))else(s.1.idxOf x:Nat)
def Vr(s:LI0×LI0)(x:Int):Prop:=(x<0->jG x∈s.2)∧(0<=x->x∈s.1)
def KS(d:Dg)(s:LI0×LI0):Cs:=⟨s.2.map fun e=>d.aO.getD e.toNat V0,s.1.map fun o=>⟨(aj d o).var,(aj d o).ay.map (wV s)⟩,s.1.map fun o=>(o,wV s o)⟩
def Jq(d:Dg)(s:LI0×LI0):Prop:=∀o∈s.1,∀k∈(aj d o).ay,Vr s k
theorem UN{s:LI0×LI0}{x:Int}(l:LI0)(h:Vr s x):wV (s.1,s.2++l) x=wV s x:=by
 unfold wV;split
 .rename_i c;rw[a9u,a0g (h.1 c)]
 rfl
theorem HY{s:LI0×LI0}{x:Int}(l:LI0)(h:Vr s x):wV (s.1++l,s.2) x=wV s x:=by
 unfold wV;split
 .rfl
 rename_i c;rw[a9u,a0g (h.2 (by omega))]
theorem afr{d:Dg}{s:LI0×LI0}(hk:Jq d s)(hn:∀o∈s.1,0<=o)(e:Int):KS d (s.1,s.2++[e])=⟨(KS d s).e++[d.aO.getD e.toNat V0],(KS d s).n,(KS d s).k⟩:=by
 unfold KS;simp only[a3Z,a4c,abv,Cs.mk.injEq,true_and];constructor
 .apply a5m;intro o ho;congr 1;apply a5m;intro k kN;exact UN [e] (hk o ho k kN)
 apply a5m;intro o ho;rw[UN [e] ⟨fun c=>absurd (hn o ho) (by omega),fun _=>ho⟩]
theorem aar{d:Dg}{s:LI0×LI0}(hk:Jq d s)(hn:∀o∈s.1,0<=o){r:Int}(h0:0<=r)(hr:r∉s.1)(MG:∀k∈(aj d r).ay,Vr s k):KS d (s.1++[r],s.2)=⟨(KS d s).e,(KS d s).n++[⟨(aj d r).var,(aj d r).ay.map (wV s)⟩],(KS d s).k++[(r,(s.1.length:Int))]⟩:=by
 unfold KS;simp only[a3Z,a4c,abv,Cs.mk.injEq,true_and];refine⟨?_,?_⟩
 .congr 1
  .apply a5m;intro o ho;congr 1;exact a5m fun k kN=>HY [r] (hk o ho k kN)
  congr 2;exact a5m fun k kN=>HY [r] (MG k kN)
 congr 1
 .apply a5m;intro o ho;rw[HY [r] ⟨fun c=>absurd (hn o ho) (by omega),fun _=>ho⟩]
 congr 2;unfold wV;rw[a0c (by omega)];simp[a9u,hr]
theorem akf{a b:Nat}(ha:a<=2^61)(hb:b<=2^61)(h:i64.wrap (-1-(a:Int))=i64.wrap (-1-(b:Int))):a=b:=by rw[fK (by omega) (by omega),fK (by omega) (by omega)]at h;omega
theorem a1v{l:LI0}{a b:Int}(ha:a∈l)(hb:b∈l)(h:l.idxOf a=l.idxOf b):a=b:=by have h1:=a8F (a4C.2 ha);have h2:=a8F (a4C.2 hb);rw[<-h1,<-h2];congr 1
theorem a7j{x y:Int}(hx:KY x)(hy:KY y)(cx:x<0)(cy:y<0)(h:jG x=jG y):x=y:=by unfold jG at h;rw[MF hx cx,MF hy cy]at h;omega
theorem a1w{s:LI0×LI0}(hs:s.2.length<=2^61){x y:Int}(hx:Vr s x)(hy:Vr s y)(wx:KY x)(wy:KY y)(h:wV s x=wV s y):x=y:=by
 have lt:∀z,z∈s.2->s.2.idxOf z<=2^61:=fun z hz=>a4A (aaG (a4C.2 hz)) hs;unfold wV at h;by_cases cx:x<0
 .rw[a0g cx]at h;by_cases cy:y<0
  .rw[a0g cy]at h;exact a7j wx wy cx cy (a1v (hx.1 cx) (hy.1 cy) (akf (lt _ (hx.1 cx)) (lt _ (hy.1 cy)) h))
  rw[a0c cy]at h;have:=lt _ (hx.1 cx);rw[fK (by omega) (by omega)]at h;omega
 rw[a0c cx]at h;by_cases cy:y<0
 .rw[a0g cy]at h;have:=lt _ (hy.1 cy);rw[fK (by omega) (by omega)]at h;omega
 rw[a0c cy]at h;exact a1v (hx.2 (by omega)) (hy.2 (by omega)) (by omega)
open Go Tw Pv bQ
def Ext(s t:LI0×LI0):Prop:=∃a b,t=(s.1++a,s.2++b)
theorem Ext.refl(s:LI0×LI0):Ext s s:=⟨[],[],by simp⟩
theorem Ext.trans{s t u:LI0×LI0}(h:Ext s t)(h2:Ext t u):Ext s u:=by obtain⟨a,b,rfl⟩:=h;obtain⟨c,e,rfl⟩:=h2;exact⟨a++c,b++e,by simp⟩
theorem Vr.ext{s t:LI0×LI0}{x:Int}(h:Vr s x)(he:Ext s t):Vr t x:=by obtain⟨a,b,rfl⟩:=he;exact⟨fun c=>a4p _ (h.1 c),fun c=>a4p _ (h.2 c)⟩
theorem aas{s t:LI0×LI0}{x:Int}(h:Vr s x)(he:Ext s t):wV t x=wV s x:=by have hc:=h;obtain⟨a,b,rfl⟩:=he;have h2:Vr (s.1,s.2++b) x:=⟨fun c=>a4p _ (h.1 c),h.2⟩;rw[<-UN b h,<-HY a h2]
theorem SQ{α β:Type}{g1:Nat->α->α}{g2:Nat->β->β}(R:Nat->α->β->Prop):∀(m k:Nat) (a:α) (b:β),R k a b->(∀j a b,k<=j->j<k+m->R j a b->R (j+1) (g1 j a) (g2 j b))->R (k+m) (aU g1 m k a) (aU g2 m k b)
 | 0,_,_,_,h,_=>h
 |m+1,k,a,b,h,hs=>by have:=SQ R m (k+1) (g1 k a) (g2 k b) (hs k a b (a0U _) (by omega) h) (fun j a b h1 h2=>hs j a b (by omega) (by omega));rw[show k+(m+1)=k+1+m by omega];exact this
theorem a1x{α β:Type}[BEq α][LawfulBEq α][BEq β][LawfulBEq β]{f:α->β}{a:α}:∀{l:List α},(∀b∈l,f b=f a->b=a)->(l.map f).idxOf (f a)=l.idxOf a
 | [],_=>rfl
 |c::l,h=>by
  rw[a4c,ads,ads,a1x fun b hb=>h b (a2P _ hb)];by_cases hc:c=a
  .subst hc;simp
  have:¬(f c=f a):=fun e=>hc (h c (.head _) e);rw[show(c==a)=false by simpa using hc,show(f c==f a)=false by simpa using this]
structure DgD(d:Dg):Prop where
 aO:d.aO.Nodup
 au:∀i j,i<d.au.length->j<d.au.length->(fD d i).var=(fD d j).var->(fD d i).ay=(fD d j).ay->i=j
 flat:∀i,i<d.au.length->((fD d i).ay.all fun x=>x==(fD d i).ay.getD 0 0)=false
theorem XD{d:Dg}(h:d.aO.Nodup){a b:Int}(ha:gW a d.aO.length)(hb:gW b d.aO.length)(e:d.aO.getD a.toNat V0=d.aO.getD b.toNat V0):a=b:=by
 have h1:a.toNat<d.aO.length:=by have:=ha.1;have:=ha.2;omega
 have h2:b.toNat<d.aO.length:=by have:=hb.1;have:=hb.2;omega
 simp only[List.getD,a0a h1,a0a h2,a4r]at e;have:=(a9P h).1 e;have:=ha.1;have:=hb.1;omega
theorem afs{d:Dg}(hd:DgD d){s:LI0×LI0}(hs:Jo d s){r:Int}(hr:gW (jG r) d.aO.length):(KS d s).e.idxOf (pK d r)=s.2.idxOf (jG r)∧(pK d r∈(KS d s).e↔jG r∈s.2):=by
 have hi:∀b∈s.2,(fun e:Int=>d.aO.getD e.toNat V0) b=(fun e:Int=>d.aO.getD e.toNat V0) (jG r)->b=jG r:=fun b hb e=>XD hd.aO (hs.e2 b hb) hr e;refine⟨a1x (f:=fun e:Int=>d.aO.getD e.toNat V0) (a:=jG r) hi,?_⟩;constructor
 .intro h;obtain⟨b,hb,e⟩:=a1g.1 h;rw[<-hi b hb e];exact hb
 intro h;exact a1g.2 ⟨jG r,h,rfl⟩
theorem aft{d:Dg}{s:LI0×LI0}{r:Int}(h:r∈s.1):UL (KS d s).k r=wV s r:=by
 have h1:r∈(KS d s).k.map (·.1):=by unfold KS;rw[a7m];exact a1g.2 ⟨r,h,rfl⟩
 have h2:=a1t h1;obtain⟨o,_,e⟩:=a1g.1 h2;have e1:o=r:=congrArg Prod.fst e;have e2:wV s o=UL (KS d s).k r:=congrArg Prod.snd e;rw[<-e2,e1]
theorem aat{a b:LI0}(h:a.length=b.length)(ha:a.length<=12)(e:Hu a=Hu b):a=b:=by unfold Hu at e;have:=congrArg (List.take a.length) e;rw[afb,afb,a7F ha,List.take_append_of_le_length (a0U _),List.take_append_of_le_length (by omega),aae,h,aae]at this;exact this
theorem map_inj{α β:Type}{f:α->β}:∀{a b:List α},(∀x∈a,∀y∈b,f x=f y->x=y)->a.map f=b.map f->a=b
 | [],[],_,_=>rfl
 | [],_::_,_,h=>by simp at h
 |_::_,[],_,h=>by simp at h
 |x::a,y::b,hi,h=>by simp only[a4c,adW]at h;rw[hi x (.head _) y (.head _) h.1,map_inj (fun u hu v hv=>hi u (a2P _ hu) v (a2P _ hv)) h.2]
open Go Tw Pv bQ
structure Alk(d:Dg)(F:Nat)(r:Int)(s:LI0×LI0):Prop where
 eq:bV d F r (KS d s)=(wV (jQ d F r s) r,KS d (jQ d F r s))
 ay:Jq d (jQ d F r s)
 cov:Vr (jQ d F r s) r
 ext:Ext s (jQ d F r s)
theorem ad3{d:Dg}(h:BH d)(hw:KD d)(hd:DgD d)(he:d.aO.length<=2^61):∀(F:Nat) (r:Int) (s:LI0×LI0),r+1<F->Jo d s->Jq d s->jq d r d.au.length->1<=F->Alk d F r s
 | 0,r,s,_,_,_,_,h1=>by omega
 |F+1,r,s,hF,hs,hk,hr,_=>by
  have hn:∀o∈s.1,0<=o:=fun o ho=>(hs.n2 o ho).1;by_cases c:r<0
  .have t0:decide (r<0)=true:=(by simpa using c);obtain⟨q1,q2⟩:=afs hd hs (hr.2 c);have e1:bV d (F+1) r (KS d s)=(i64.wrap (-1-((KS d s).e.idxOf (pK d r):Nat)),⟨jV (KS d s).e (pK d r),(KS d s).n,(KS d s).k⟩):=by unfold bV;rw[a0g t0]
   by_cases c2:jG r∈s.2
   .have e2:jQ d (F+1) r s=s:=by unfold jQ;rw[a0g t0,a0c (by simpa using c2)]
    refine⟨?_,by rw[e2];exact hk,by rw[e2];exact⟨fun _=>c2,fun h0=>by omega⟩,by rw[e2];exact .refl s⟩;rw[e1,e2,q1,show jV (KS d s).e (pK d r)=(KS d s).e from a0g (q2.2 c2)];unfold wV;rw[a0g c]
   have e2:jQ d (F+1) r s=(s.1,s.2++[jG r]):=by unfold jQ;rw[a0g t0,a0g (by simpa using c2)]
   have hc:Vr (s.1,s.2++[jG r]) r:=⟨fun _=>by simp,fun h0=>by omega⟩;have hx:Ext s (s.1,s.2++[jG r]):=⟨[],[jG r],by simp⟩;refine⟨?_,by rw[e2];exact fun o ho k kN=>(hk o ho k kN).ext hx,by rw[e2];exact hc,by rw[e2];exact hx⟩;rw[e1,e2,q1,afr hk hn,show jV (KS d s).e (pK d r)=(KS d s).e++[pK d r]from a0c (fun e=>c2 (q2.1 e))];unfold wV;rw[a0g c];simp[a9u,c2,a9h c2,pK]
  have t0:¬(decide (r<0)=true):=by simpa using c
  have xJ:(KS d s).k.map (·.1)=s.1:=by unfold KS;rw[a7m];exact List.map_id _
  by_cases c2:r∈s.1
  .have e2:jQ d (F+1) r s=s:=by unfold jQ;rw[a0c t0,a0g (by simpa using c2)]
   have e1:bV d (F+1) r (KS d s)=(UL (KS d s).k r,KS d s):=by unfold bV;rw[a0c t0,a0g (by rw[xJ];simpa using c2)]
   refine⟨?_,by rw[e2];exact hk,by rw[e2];exact⟨fun h0=>absurd h0 c,fun _=>c2⟩,by rw[e2];exact .refl s⟩;rw[e1,e2,aft c2]
  have aT:r.toNat<d.au.length:=by have:=hr.1;omega
  have BI:∀k,k<(aj d r).ay.length->(aj d r).ay.getD k 0<r:=fun k kN=>by have h9:=(h.Au r.toNat aT k kN).1;have h9:(aj d r).ay.getD k 0<(r.toNat:Int):=h9;omega
  have MG:∀j,j<(aj d r).ay.length->jq d ((aj d r).ay.getD j 0) d.au.length:=fun j hj=>⟨by have:=BI j hj;have:=hr.1;omega,(h.Au r.toNat aT j hj).2⟩;have a6m:=SQ (g1:=fun j (y:LI0×Cs)=>(y.1.set j (bV d F ((aj d r).ay.getD j 0) y.2).1,(bV d F ((aj d r).ay.getD j 0) y.2).2)) (g2:=fun k y=>jQ d F ((aj d r).ay.getD k 0) y)
   (fun j (y:LI0×Cs) (t:LI0×LI0)=>y=(((aj d r).ay.take j).map (wV t)++List.replicate ((aj d r).ay.length-j) 0,KS d t)∧Jo d t∧Jq d t∧Ext s t∧r∉t.1∧∀i,i<j->Vr t ((aj d r).ay.getD i 0)) (aj d r).ay.length 0 (List.replicate (aj d r).ay.length 0,KS d s) s ⟨by simp,hs,hk,.refl s,c2,fun i hi=>by omega⟩ (fun j y t _ hj hy=>by
    obtain⟨rfl,y1,y2,y3,y4,y5⟩:=hy;have hj:j<(aj d r).ay.length:=(by omega);have ih:=ad3 h hw hd he F _ t (by have:=BI j hj;omega) y1 y2 (MG j hj) (by omega);have hno:=a6O F ((aj d r).ay.getD j 0) r t (BI j hj) y4 (by omega) (fun i hi k hk=>(h.Au i hi k hk).1) (fun h5=>⟨h5,by have:=(MG j hj).1;omega⟩);have QB:=KA h F ((aj d r).ay.getD j 0) t y1 (MG j hj);obtain⟨i1,i2,i3,i4⟩:=ih;simp only[i1];generalize jQ d F ((aj d r).ay.getD j 0) t=u at i2 i3 i4 hno QB ⊢;refine⟨?_,QB,i2,y3.trans i4,hno,fun i hi=>?_⟩
    .simp only[a0i,and_true];have hl:(List.map (wV t) (List.take j (aj d r).ay)).length=j:=by rw[a4h,a3E];omega
     rw[show(aj d r).ay.length-j=((aj d r).ay.length-(j+1))+1 by omega,adK,List.set_append_right _ _ (by rw[hl];exact a0U j)];rw[hl,agI,List.set_cons_zero,a5K hj,a3Z,a5R];congr 1
     .apply a5m;intro x hx;obtain⟨i,hi,rfl⟩:=a4v.1 hx;have zW:i<j:=by simp at hi;omega
      have:=y5 i zW;rw[rP (l:=(aj d r).ay) (show i<(aj d r).ay.length by omega)]at this;rw[List.getElem_take];exact(aas this i4).symm
     .rw[rP hj];rfl
    .by_cases zW:i<j
     .exact(y5 i zW).ext i4
     .rw[show i=j by omega];exact i3)
  have e1:bV d (F+1) r (KS d s)=(dZ (aU (fun j (y:LI0×Cs)=>(y.1.set j (bV d F ((aj d r).ay.getD j 0) y.2).1,(bV d F ((aj d r).ay.getD j 0) y.2).2)) (aj d r).ay.length 0 (List.replicate (aj d r).ay.length 0,KS d s)).2.n (aj d r).var (aU (fun j (y:LI0×Cs)=>(y.1.set j (bV d F ((aj d r).ay.getD j 0) y.2).1,(bV d F ((aj d r).ay.getD j 0) y.2).2)) (aj d r).ay.length 0 (List.replicate (aj d r).ay.length 0,KS d s)).1,⟨(aU (fun j (y:LI0×Cs)=>(y.1.set j (bV d F ((aj d r).ay.getD j 0) y.2).1,(bV d F ((aj d r).ay.getD j 0) y.2).2)) (aj d r).ay.length 0 (List.replicate (aj d r).ay.length 0,KS d s)).2.e,dn (aU (fun j (y:LI0×Cs)=>(y.1.set j (bV d F ((aj d r).ay.getD j 0) y.2).1,(bV d F ((aj d r).ay.getD j 0) y.2).2)) (aj d r).ay.length 0 (List.replicate (aj d r).ay.length 0,KS d s)).2.n (aj d r).var (aU (fun j (y:LI0×Cs)=>(y.1.set j (bV d F ((aj d r).ay.getD j 0) y.2).1,(bV d F ((aj d r).ay.getD j 0) y.2).2)) (aj d r).ay.length 0 (List.replicate (aj d r).ay.length 0,KS d s)).1,(aU (fun j (y:LI0×Cs)=>(y.1.set j (bV d F ((aj d r).ay.getD j 0) y.2).1,(bV d F ((aj d r).ay.getD j 0) y.2).2)) (aj d r).ay.length 0 (List.replicate (aj d r).ay.length 0,KS d s)).2.k++[(r,dZ (aU (fun j (y:LI0×Cs)=>(y.1.set j (bV d F ((aj d r).ay.getD j 0) y.2).1,(bV d F ((aj d r).ay.getD j 0) y.2).2)) (aj d r).ay.length 0 (List.replicate (aj d r).ay.length 0,KS d s)).2.n (aj d r).var (aU (fun j (y:LI0×Cs)=>(y.1.set j (bV d F ((aj d r).ay.getD j 0) y.2).1,(bV d F ((aj d r).ay.getD j 0) y.2).2)) (aj d r).ay.length 0 (List.replicate (aj d r).ay.length 0,KS d s)).1)]⟩):=by rw[bV,a0c t0,a0c (by rw[xJ];simpa using c2)]
  have e2:jQ d (F+1) r s=((aU (fun k y=>jQ d F ((aj d r).ay.getD k 0) y) (aj d r).ay.length 0 s).1++[r],(aU (fun k y=>jQ d F ((aj d r).ay.getD k 0) y) (aj d r).ay.length 0 s).2):=by rw[jQ,a0c t0,a0c (by simpa using c2)]
  generalize aU (fun j (y:LI0×Cs)=>(y.1.set j (bV d F ((aj d r).ay.getD j 0) y.2).1,(bV d F ((aj d r).ay.getD j 0) y.2).2)) (aj d r).ay.length 0 (List.replicate (aj d r).ay.length 0,KS d s)=y at a6m e1;generalize aU (fun k y=>jQ d F ((aj d r).ay.getD k 0) y) (aj d r).ay.length 0 s=t at a6m e2;obtain⟨rfl,f2,f3,f4,f5,f6⟩:=a6m;rw[a3T]at f6;simp only[a3T,aae,agI,List.replicate_zero,a6L]at e1;have a7k:∀k∈(aj d r).ay,Vr t k:=fun k kN=>by
   obtain⟨i,hi,rfl⟩:=a4v.1 kN;have:=f6 i hi
   rwa [rP hi]at this
  have hW:∀o,0<=o->gW o d.au.length->∀k∈(aj d o).ay,KY k:=fun o _ ho k kN=>by
   obtain⟨i,hi,rfl⟩:=a4v.1 kN;have:=hw.Au o.toNat (by have:=ho.1;have:=ho.2;omega) i hi
   rwa [rP hi]at this
  have hrI:gW r d.au.length:=⟨by omega,hr.1⟩;have hel:t.2.length<=2^61:=a4A f2.len.2 he;have ad4:((aj d r).ay.map (wV t)).all (fun x=>x==((aj d r).ay.map (wV t)).getD 0 0)=false:=by
   cases e:((aj d r).ay.map (wV t)).all (fun x=>x==((aj d r).ay.map (wV t)).getD 0 0)
   .rfl
   exfalso;have hf:=hd.flat r.toNat aT;rw[List.all_eq_false]at hf;obtain⟨x,hx,hx2⟩:=hf;have hx:x∈(aj d r).ay:=hx;have h0:0<(aj d r).ay.length:=List.length_pos_of_mem hx;rw[a4o]at e;have:=e (wV t x) (a1g.2 ⟨x,hx,rfl⟩);rw[rP (by simpa using h0),a8Z]at this;have h00:(aj d r).ay[0]∈(aj d r).ay:=a4q h0;have:=a1w hel (a7k x hx) (a7k _ h00) (hW r (by omega) hrI x hx) (hW r (by omega) hrI _ h00) (by simpa using this);apply hx2;have h9:(fD d r.toNat).ay.getD 0 0=(aj d r).ay[0]:=rP h0;rw[h9,this];simp
  have aem:tJ (aj d r).var ((aj d r).ay.map (wV t))∉(KS d t).n.map BL:=by
   intro hm;unfold KS at hm;rw[a7m]at hm;obtain⟨o,ho,e⟩:=a1g.1 hm;have YM:=f2.n2 o ho;have QN:o.toNat<d.au.length:=by have:=YM.1;have:=YM.2;omega
   have ev:(fD d o.toNat).var=(fD d r.toNat).var:=congrArg Prod.fst e;have ep:Hu ((aj d o).ay.map (wV t))=Hu ((aj d r).ay.map (wV t)):=congrArg (fun z:Ky=>z.2.val) e;have hlen:((fD d o.toNat).ay.length:Int)=((fD d r.toNat).ay.length:Int):=(by rw[h.ksz _ QN,h.ksz _ aT,ev]);have hlen:(aj d o).ay.length=(aj d r).ay.length:=by exact_mod_cast hlen
   have em:=aat (by simpa using hlen) (by rw[a4h];exact h.KW _ QN) ep;have ek:=map_inj (fun x hx y hy e=>a1w hel (f3 o ho x hx) (a7k y hy) (hW o YM.1 YM x hx) (hW r (by omega) hrI y hy) e) em;have:=hd.au _ _ QN aT ev ek;have:o=r:=by have:=YM.1;omega
   exact f5 (this▸ho)
  have hnl:(KS d t).n.length=t.1.length:=by unfold KS;simp
  have hR:dZ (KS d t).n (aj d r).var ((aj d r).ay.map (wV t))=(t.1.length:Int):=by unfold dZ;rw[ad4,a0c (by simp),a9h aem,a4h,hnl]
  have hS:dn (KS d t).n (aj d r).var ((aj d r).ay.map (wV t))=(KS d t).n++[⟨(aj d r).var,(aj d r).ay.map (wV t)⟩]:=by unfold dn;rw[ad4,a0c (by simp),a0c aem]
  have hx:Ext t (t.1++[r],t.2):=⟨[r],[],by simp⟩;have hc:Vr (t.1++[r],t.2) r:=⟨fun h0=>absurd h0 c,fun _=>by simp⟩;refine⟨?_,?_,by rw[e2];exact hc,by rw[e2];exact f4.trans hx⟩
  .rw[e1,e2,hR,hS,aar f3 (fun o ho=>(f2.n2 o ho).1) (by omega) f5 a7k];unfold wV;rw[a0c c];simp[a9u,f5]
  rw[e2];intro o ho k kN;rcases a3k.1 ho with ho|ho
  .exact(f3 o ho k kN).ext hx
  rw[a2p.1 ho]at kN;exact(a7k k kN).ext hx
open Go Tw Pv bQ
theorem XE(b:Br):Dk b=b.ay.all fun x=>x==b.ay.getD 0 0:=by
 have e:jP (RX (OY b) 1 (max 1 b.ay.length))=true↔∀k,1<=k->k<b.ay.length->b.ay.getD k 0=b.ay.getD 0 0:=by
  unfold RX gS;rw[H9 (r:=fun k=>k)];constructor
  .intro h k h1 h2;simpa[OY]using h k h1 (by omega)
  intro h k h1 h2;simpa[OY]using h k h1 (by omega)
 have e2:(b.ay.all fun x=>x==b.ay.getD 0 0)=true↔∀k,1<=k->k<b.ay.length->b.ay.getD k 0=b.ay.getD 0 0:=by
  rw[a4o];constructor
  .intro h k _ h2;have:=h _ (eu h2);simpa using this
  intro h x hx;obtain⟨k,hk,rfl⟩:=a4v.1 hx;by_cases h0:k=0
  .subst h0;rw[rP hk];simp
  have:=h k (by omega) hk;rw[rP hk]at this;rw[this];simp
 have:Dk b=true↔(b.ay.all fun x=>x==b.ay.getD 0 0)=true:=by rw[e2,<-e];unfold Dk;cases jP (RX (OY b) 1 (max 1 b.ay.length))<;>simp
 rw[a4u];exact this
theorem afu{d:Dg}:jP (bC (cD0 d) d.aO.length)=true↔d.aO.Nodup:=by
 rw[dH];have h1:∀i,cD0 d i=false↔∀j,j<i->d.aO.getD j V0≠d.aO.getD i V0:=fun i=>by
  have:jP (bC (cD1 d i) i)=true↔∀j,j<i->d.aO.getD j V0≠d.aO.getD i V0:=by rw[dH];simp[cD1]
  rw[<-this];unfold cD0;cases jP (bC (cD1 d i) i)<;>simp
 have hg:∀j,(hj:j<d.aO.length)->d.aO.getD j V0=d.aO[j]:=fun j hj=>by simp[List.getD,a0a hj]
 constructor
 .intro h;rw[abM,abR];intro i j hi hj zW;have:=(h1 j).1 (h j hj) i zW
  rwa [hg i hi,hg j hj]at this
 intro h i hi;rw[h1];intro j hj;rw[abM,abR]at h;have:=h j i (by omega) hi hj
 rwa [hg i hi,hg j (by omega)]
theorem afv{d:Dg}:jP (bC (cD2 d) d.au.length)=true↔(∀i j,i<d.au.length->j<d.au.length->(fD d i).var=(fD d j).var->(fD d i).ay=(fD d j).ay->i=j)∧∀i,i<d.au.length->((fD d i).ay.all fun x=>x==(fD d i).ay.getD 0 0)=false:=by
 rw[dH];have h1:∀i,cD2 d i=false↔Dk (fD d i)=false∧∀j,j<i->¬((fD d j).var=(fD d i).var∧(fD d j).ay=(fD d i).ay):=fun i=>by
  have h3:∀j,cD3 d i j=false↔¬((fD d j).var=(fD d i).var∧(fD d j).ay=(fD d i).ay):=fun j=>by
   unfold cD3;by_cases hv:(fD d j).var=(fD d i).var
   .rw[a0g (by rw[a7r];exact hv),a2I];exact⟨fun a b=>a b.2,fun a b=>a ⟨hv,b⟩⟩
   rw[a0c (by rw[a7r];exact hv)];exact⟨fun _ a=>hv a.1,fun _=>rfl⟩
  have:jP (bC (cD3 d i) i)=true↔∀j,j<i->¬((fD d j).var=(fD d i).var∧(fD d j).ay=(fD d i).ay):=by rw[dH];exact abG fun j=>abG fun _=>h3 j
  rw[<-this];unfold cD2;cases Dk (fD d i)
  .cases jP (bC (cD3 d i) i)<;>simp
  simp
 constructor
 .intro h;refine⟨fun i j hi hj hv hk=>?_,fun i hi=>by rw[<-XE];exact((h1 i).1 (h i hi)).1⟩;rcases Nat.lt_trichotomy i j with zW|zW|zW
  .exact absurd ⟨hv,hk⟩ (((h1 j).1 (h j hj)).2 i zW)
  .exact zW
  exact absurd ⟨hv.symm,hk.symm⟩ (((h1 i).1 (h i hi)).2 j zW)
 intro h i hi;rw[h1];refine⟨by rw[XE];exact h.2 i hi,fun j hj hc=>?_⟩;have:=h.1 j i (by omega) hi hc.1 hc.2;omega
theorem aau{d:Dg}:(jP (bC (cD0 d) d.aO.length)=true∧jP (bC (cD2 d) d.au.length)=true)↔DgD d:=by rw[afu,afv];exact⟨fun h=>⟨h.1,h.2.1,h.2.2⟩,fun h=>⟨h.aO,h.au,h.flat⟩⟩
theorem Pg{l:LI0}{m:Nat}:zB l m=true↔l=dN m:=by
 unfold zB;have e:jP (bC (a6I l) l.length)=true↔∀j,j<l.length->l.getD j 0=(j:Int):=by rw[dH];simp[a6I]
 constructor
 .intro h;split at h
  .rename_i h1;have hl:(l.length:Int)=(m:Int):=(by simpa using h);have hl:l.length=m:=(by omega);rw[qX (d:=0) (by rw[lF,hl])];intro j hj;rw[e.1 h1 j hj];have:j<m:=(by omega);simp[dN,List.getD,this]
  cases h
 rintro rfl;rw[a0g (e.2 fun j hj=>by rw[lF]at hj;simp[dN,List.getD,hj]),lF];simp
theorem XF{d:Dg}:pJ d=true↔DgD d∧srN d d.root=dN d.au.length∧srE d d.root=dN d.aO.length:=by
 rw[<-aau,<-Pg,<-Pg];unfold pJ;cases jP (bC (cD0 d) d.aO.length)
 .simp
 cases jP (bC (cD2 d) d.au.length)
 .simp
 cases zB (srN d d.root) (d.au.length:Int)<;>simp
end Go.Proofs.YtmobpoiejckagaaGreat
