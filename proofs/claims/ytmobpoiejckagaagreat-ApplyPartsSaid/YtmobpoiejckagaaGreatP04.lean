/- Part 5 of a proof: ApplyParts -/
import Derived.Test.YtmobpoiejckagaaGreatProg
import Derived.KernelRfl
import Derived.Test.YtmobpoiejckagaaGreatP03
set_option linter.constructorNameAsVariable false
set_option linter.unusedVariables false
set_option linter.unusedSimpArgs false
set_option linter.unusedSectionVars false
open Go.IntKind (i64)
noncomputable section
namespace Tw
open Go Go.ChangeShapes Go.WideShapes Go.RowKit
theorem Jv{H:Type}{enc:LI2×LI3->H}{P:LI1}{w:LI4}{t:LI2}{ts:List LI2}{vs:List LI3}{ds:List (DataW H)}{ps:List MemPlace}(h:DataW.TrodAll enc P w 0 (fun _=>true) true (t::ts) vs ds ps):∃d e,ds=d::e∧Rd enc P w t d∧∃vs ps,DataW.TrodAll enc P w 0 (fun _=>true) true ts vs e ps:=by obtain⟨v,vs',d,ds',p,q,rfl,rfl,rfl,⟨fuel,hd⟩,O6⟩:=trodAll_cons h;exact⟨d,ds',rfl,⟨_,fuel,p,hd⟩,_,_,O6⟩
section
variable {H:Type} {P:LI1} {g:Nat} {t:LI2} {ts:List LI2} {d:DataW H} {ds:List (DataW H)} {h h1 h2:List HB} {xs:List TV}
theorem afA{cs:List TV}(ha:uV P t=some true)(he:BQ P g t d h=some (cs,h1))(hr:LH P g ts ds h1=some (xs,h2)):LH P g (t::ts) (d::ds) h=some (.agg cs::xs,h2):=by simp only[LH,he,ha,hr]
theorem a7p{x:TV}(ha:uV P t=some false)(he:BQ P g t d h=some ([x],h1))(hr:LH P g ts ds h1=some (xs,h2)):LH P g (t::ts) (d::ds) h=some (x::xs,h2):=by simp only[LH,he,ha,hr]
theorem afB:LH (H:=H) P g [] [] h=some ([],h):=rfl
end
end Tw
namespace Pv
open Go Tw
section
variable {X:kX} {P:LI1} {H:Type} {nH:LI2×LI3->H} {w:LI4}
abbrev AT:Nat->Prop:=fun _=>True
def RdP(nH:LI2×LI3->H)(X:kX)(P:LI1)(w:LI4)(g t:Nat){α:Type}(ps:α->List (PV X.Γ))(Q:α->Prop):Prop:=
 ∀d,Rd nH P w t d->∃a,Q a∧∀h,∃xs ext,BQ P g t d h=some (xs,h++ext)∧∀e,bW X P AT [] (h++ext++e) (ps a) xs
theorem a1O{t g:Nat}{k:IntKind}(ht:P.underlying t=some (.int k)):RdP nH X P w (g+1) t (fun n:Int=>[.int k n]) (fun n=>(Lit.int k n).wf=true):=fun d hd=>by obtain⟨n,rfl,hn⟩:=afv ht hd;exact⟨n,hn,fun h=>⟨[.int k n],[],by simp[BQ,ht],fun e=>.cons (.int _ _) .nil⟩⟩
theorem Tj{e g sz:Nat}{Q:X.Γ e->Prop}(hlen:∀a,(X.enc e a).length=sz)(hr:RdP nH X P w g e (X.enc e) Q):∀(ds:List (DataW H)),(∀y∈ds,Rd nH P w e y) ->
  ∃l:List (X.Γ e),l.length=ds.length∧(∀a∈l,Q a)∧∀h,∃cs ext,WT (BQ P g e) sz ds h=some (cs,h++ext)∧cs.length=l.length*sz∧∀e2 (j:Nat) a (i:Nat) c v,l[j]? = some a->(X.enc e a)[i]? = some c->cs[j*sz+i]? = some v->VR X P AT [] (h++ext++e2) c v
 | [],_=>⟨[],rfl,by simp,fun h=>⟨[],[],by simp[WT],by simp,fun e2 j a i c v h1=>by simp at h1⟩⟩
 |d::ds,hd=>by
  obtain⟨a,qa,ha⟩:=hr d (hd d (a2Z ..));obtain⟨l,l1,l2,l3⟩:=Tj hlen hr ds fun y hy=>hd y (a3x _ hy);refine⟨a::l,by simp[l1],fun b hb=>(a1z.1 hb).elim (fun e=>e▸qa) (l2 b),fun h=>?_⟩;obtain⟨xs,e1,h1,v1⟩:=ha h;obtain⟨cs,e2,h2,c2,v2⟩:=l3 (h++e1);have hx:xs.length=sz:=by rw[<-(v1 []).1];exact hlen a
  refine⟨xs++cs,e1++e2,?_,by simp only[a1w,a4M,hx,c2,a3z];omega,fun e3 j b i c v hj hi hv=>?_⟩
  .simp only[WT,h1,hx,a1P,h2,a5y]
  .cases j with
   |zero=>
    simp only[a2S,a07]at hj;subst hj;have Lr:i<sz:=by rw[<-hlen a];exact(a08.1 hi).1
    rw[acz,a3T,a0m (by omega)]at hv;have:=(v1 (e2++e3)).2 i c v hi hv;simp only[a5y]at this ⊢;exact this
   |succ j=>
    rw[a9X]at hj;rw[a0L (by rw[hx,a3z];omega),hx,show(j+1)*sz+i-sz=j*sz+i by rw[a3z];omega]at hv;have:=v2 e3 j b i c v hj hi hv;simp only[a5y]at this ⊢;exact this
theorem PD{t e g sz:Nat}{Q:X.Γ e->Prop}(ht:P.underlying t=some (.slice e))(vI:P.cellsOf e=sz)(hz:dF P e=some sz)(h0:0<sz)(hlen:∀a,(X.enc e a).length=sz)(hr:RdP nH X P w g e (X.enc e) Q):RdP nH X P w (g+1) t (fun l:List (X.Γ e)=>[.dJ e l false]) (fun l=>∀a∈l,Q a):=fun d hd=>by
 rcases a7c ht hd with rfl|⟨xs,ys,rfl,hy⟩
 .exact⟨[],by simp,fun h=>⟨[.nil .aQ],[],by simp[BQ,ht],fun e=>.cons .pJ .nil⟩⟩
 .obtain⟨l,l1,l2,l3⟩:=Tj hlen hr (xs++ys) hy;have hl:xs.length<=l.length:=by rw[l1,a1w];omega
  refine⟨l.take xs.length,fun a ha=>l2 a (a9L ha),fun h=>?_⟩;obtain⟨cs,e1,h1,c1,v1⟩:=l3 h;refine⟨[.aQ (h++e1).length 0 xs.length (xs.length+ys.length) sz true],e1++[.cells .ro cs],?_,fun e2=>.cons ?_ .nil⟩
  .have iy:¬sz=0:=(by omega);simp only[BQ,ht,vI,h1,iy,a3y,a5y]
  .have hln:(l.take xs.length).length=xs.length:=(by rw[a3W,a8g hl]);have hb:(h++(e1++[HB.cells .ro cs])++e2)[(h++e1).length]? = some (.cells .ro cs):=by rw[show h++(e1++[HB.cells .ro cs])++e2=(h++e1)++(HB.cells .ro cs::e2) by simp,a0L (a0K _),ahu];rfl
   have wL:(l.take xs.length).length<=xs.length+ys.length:=(by omega);have sF:∀(j:Nat) a,(l.take xs.length)[j]? = some a->l[j]? = some a:=fun j a hj=>by
    rw[a4Q]at hj;split at hj
    .exact hj
    .cases hj
   have hle:(l.take xs.length).length*sz<=cs.length:=by rw[c1,hln];exact a3P sz hl
   generalize xs.length+ys.length=cp at wL ⊢;generalize l.take xs.length=l' at wL sF hle hln ⊢;rw[<-hln];exact VR.dJ (X:=X) (P:=P) (A:=AT) (m:=[]) (t:=e) (l:=l') (fu:=false) (b:=(h++e1).length) (off:=0) (cap:=cp) (sz:=sz) (ex:=true) (cs:=cs) trivial (by unfold aW;rw[hb]) (fun _=>by unfold mG;rw[hb];simp) hz h0 (by omega) wL (by simp) (fun j a _=>hlen a) (fun j a i c v hj hi hv=>by rw[a3T]at hv;have:=v1 ([HB.cells .ro cs]++e2) j a i c v (sF j a hj) hi hv;simp only[a5y]at this ⊢;exact this)
def RdF(nH:LI2×LI3->H)(X:kX)(P:LI1)(w:LI4)(g o:Nat)(fs:List Field){α:Type}(ps:α->List (PV X.Γ))(Q:α->Prop):Prop:=
 ∀ds:List (DataW H),ds.length=fs.length->(∀(i:Nat) f d,fs[i]? = some f->ds[i]? = some d->Rd nH P w f.type d)->∃a,Q a∧∀h,∃xs ext,LG P (BQ P g) o fs ds h=some (xs,h++ext)∧∀e,bW X P AT [] (h++ext++e) (ps a) xs
theorem Va{g o:Nat}:RdF nH X P w g o [] (fun _:Unit=>[]) (fun _=>True):=fun ds hl _=>by have:=a4I hl;subst this;exact⟨(),trivial,fun h=>⟨[],[],by simp[LG],fun e=>.nil⟩⟩
theorem rQ{g o n:Nat}{f:Field}{fs:List Field}{α β:Type}{p1:α->List (PV X.Γ)}{p2:β->List (PV X.Γ)}{Q1:α->Prop}{Q2:β->Prop}(ho:f.offset=o)(hc:P.cellsOf f.type=n)(hn:∀a,(p1 a).length=n)(h1:RdP nH X P w g f.type p1 Q1)(h2:RdF nH X P w g (o+n) fs p2 Q2):RdF nH X P w g o (f::fs) (fun x:α×β=>p1 x.1++p2 x.2) (fun x=>Q1 x.1∧Q2 x.2):=fun ds hl hd=>by
 cases ds with
 |nil=>cases hl
 |cons d ds=>
  obtain⟨a,qa,ha⟩:=h1 d (hd 0 f d rfl rfl);obtain⟨b,qb,hb⟩:=h2 ds (by simpa using hl) fun i f' d' e1 e2=>hd (i+1) f' d' e1 e2;refine⟨(a,b),⟨qa,qb⟩,fun h=>?_⟩;obtain⟨xs,e1,g1,v1⟩:=ha h;obtain⟨ys,e2,g2,v2⟩:=hb (h++e1);have hx:xs.length=n:=by rw[<-(v1 []).1];exact hn a
  refine⟨xs++ys,e1++e2,?_,fun e=>?_⟩
  .simp only[LG,g1,ho,hx,hc,acF,a1P,g2,a5y]
  .have w1:=v1 (e2++e);have w2:=v2 e;simp only[a5y]at w1 w2 ⊢;exact w1.app w2
theorem Gi{t g n:Nat}{fs:Array Field}{α:Type}{ps:α->List (PV X.Γ)}{Q:α->Prop}(ht:P.underlying t=some (.struct fs))(hc:P.cellsOf t=n)(hn:∀a,(ps a).length=n)(hf:RdF nH X P w g 0 fs.toList ps Q):RdP nH X P w (g+1) t ps Q:=fun d hd=>by
 obtain⟨ds,rfl,hl,IU⟩:=a3D ht hd;obtain⟨a,qa,ha⟩:=hf ds (by simpa using hl) fun i f d e1 e2=>IU i f d (by simpa using e1) e2;refine⟨a,qa,fun h=>?_⟩;obtain⟨xs,e1,g1,v1⟩:=ha h;have hx:xs.length=n:=by rw[<-(v1 []).1];exact hn a
 refine⟨xs,e1,?_,v1⟩;rw[Xy ht,g1];simp[hx,hc]
theorem RdP.iso{t g:Nat}{α β:Type}{ps:α->List (PV X.Γ)}{Q:α->Prop}(h:RdP nH X P w g t ps Q)(f:α->β){p2:β->List (PV X.Γ)}{Q2:β->Prop}(hp:∀a,p2 (f a)=ps a)(hq:∀a,Q a->Q2 (f a)):RdP nH X P w g t p2 Q2:=fun d hd=>by obtain⟨a,qa,ha⟩:=h d hd;exact⟨f a,hq a qa,fun h=>by rw[hp];exact ha h⟩
theorem afC{T:qL}{L n f:Nat}{vs:List (PV X.Γ)}{xs:List TV}{h:List HB}(hc:pR X P (lu P T L (n+1)) f vs (PV.bool true) [])(hv:bW X P AT [] h vs xs):∃h',lu P T L (n+1) (TV.fn f [] []) xs h=some (TV.bool true,h',[]):=by
 obtain⟨x,h',m',c1,_,c3,_⟩:=hc AT h [] xs [] (fun _ _=>trivial) (by simpa using hv);have:x=TV.bool true:=by
  cases c3 with
  |bool=>rfl
  |gone hi _ _=>simp[bC]at hi
 subst this;exact⟨h',c1⟩
end
end Pv
namespace Go.Proofs.YtmobpoiejckagaaGreat
open Go Tw
structure B where
 lo:Int
 hi:Int
 f:Int
 deriving DecidableEq
structure O where
 code:Int
 a:Int
 b:Int
 c:Int
 n:Int
 deriving DecidableEq
structure K where
 name:ByteArray
 lo:Int
 hi:Int
structure V where
 f:Int
 n:Int
 deriving DecidableEq
abbrev B0:B:=⟨0,0,0⟩
abbrev O0:O:=⟨0,0,0,0,0⟩
abbrev K0:K:=⟨ByteArray.empty,0,0⟩
abbrev V0:V:=⟨0,0⟩
def qh(g:Int->Bool)(i:Nat)(x:Int)(s:Unit):(Unit)⊕(Nat×Int×(Unit)):=
 if(g x)=true then .inr (i,x,s)else .inl ()
def rU(g:Int->Bool)(l:LI0):Int:=
 if(kR (mW (qh g) l 0 ()))=true then -1 else(((Dk (0,0,()) (mW (qh g) l 0 ())).1:Int))
def mY(g:Int->Bool)(l:LI0):Bool:=
 decide ((rU g l)>=0)
theorem a7q(g:Int->Bool):∀(l:LI0) (i:Nat),kR (mW (qh g) l i ())=!(l.any g)
 | [],i=>rfl
 |x::l,i=>by
  simp only[mW,qh,adP];cases g x with
  |true=>rfl
  |false=>simpa using a7q g l (i+1)
theorem Ep(g:Int->Bool)(l:LI0):mY g l=l.any g:=by
 have:=a7q g l 0;unfold mY rU;rw[this];cases l.any g with
 |true=>simp
 |false=>simp
def wB(x:Int)(lo:Int)(hi:Int):Bool:=
 if(decide ((x)<(lo)))=true then true else decide ((x)>(hi))
def mZ(l:LI0)(lo:Int)(hi:Int):Bool:=
 !(l.any ((fun x=>wB x lo hi)))
theorem wrap_small{z:Int}(h0:-(2^62)<=z)(h1:z<2^62):i64.wrap z=z:=by
 simp only[IntKind.wrap,IntKind.bits,IntKind.signed];rcases Int.lt_or_le z 0 with h|h
 .have:z%(2^64:Int)=z+2^64:=by have:=acg z (2^64) 1;rw[acy]at this;rw[<-this];exact a6T (by omega) (by omega)
  simp only[this];rw[a0A (by simp;omega)];omega
 have:z%(2^64:Int)=z:=a6T h (by omega);simp only[this];rw[a0y (by simp;omega)]
def nI(k:Int)(least:Int)(au:Int):Bool:=
 if(decide ((k)>=(least)))=true then decide ((k)<=(au))else false
def fE(k:Int):V:=
 (⟨0,k⟩:V)
def lS(f:Int):V:=
 (⟨f,0⟩:V)
def rV(is:Bool):V:=
 if is=true then fE 1 else fE 0
def qp(k:Int):V:=
 if(decide ((k)<(-9999)))=true then lS 2 else if(decide ((k)>9999))=true then lS 2 else fE k
def Jw(a:V)(b:V)(c:V):V:=
 if(decide ((a.f)>0))=true then a else if((a.n)==0)=true then c else b
def gU(a b:Int):Int:=if b<0 then(-a)/(-b)else a/b
def bG(code:Int)(a:V)(b:V):V:=
 if(decide ((a.f)>0))=true then a else if((code)==15)=true then if((a.n)==0)=true then a else if((code)==16)=true then if((a.n) != 0)=true then fE 1 else b else b else if((code)==16)=true then if((a.n) != 0)=true then fE 1 else b else if(decide ((b.f)>0))=true then b else if((code)==7)=true then qp (i64.wrap ((a.n)+(b.n)))else if((code)==8)=true then qp (i64.wrap ((a.n)-(b.n)))else if((code)==9)=true then qp (i64.wrap ((a.n)*(b.n)))else if((code)==12)=true then rV ((a.n)==(b.n))else if((code)==13)=true then rV (decide ((a.n)<(b.n)))else if((code)==14)=true then rV (decide ((a.n)<=(b.n)))else if((b.n)==0)=true then lS 1 else if((code)==10)=true then fE (gU (a.n) (b.n))else fE (i64.wrap ((a.n)-(i64.wrap ((b.n)*(gU (a.n) (b.n))))))
def jA(g:V->Bool)(i:Nat)(x:V)(s:Unit):(Unit)⊕(Nat×V×(Unit)):=
 if(g x)=true then .inr (i,x,s)else .inl ()
def iJ(g:V->Bool)(l:List V):Int:=
 if(kR (mW (jA g) l 0 ()))=true then -1 else(((Dk (0,V0,()) (mW (jA g) l 0 ())).1:Int))
def qw(g:V->Bool)(l:List V):Bool:=
 decide ((iJ g l)>=0)
theorem a7r(g:V->Bool):∀(l:List V) (i:Nat),kR (mW (jA g) l i ())=!(l.any g)
 | [],i=>rfl
 |x::l,i=>by
  simp only[mW,jA,adP];cases g x with
  |true=>rfl
  |false=>simpa using a7r g l (i+1)
theorem Jy(g:V->Bool)(l:List V):qw g l=l.any g:=by
 have:=a7r g l 0;unfold qw iJ;rw[this];cases l.any g with
 |true=>simp
 |false=>simp
theorem Tn(g:V->Bool):∀(l:List V) (i:Nat),kR (mW (jA g) l i ())=false->(Dk (0,V0,()) (mW (jA g) l i ())).1<i+l.length∧l[(Dk (0,V0,()) (mW (jA g) l i ())).1-i]? = l.find? g∧i<=(Dk (0,V0,()) (mW (jA g) l i ())).1
 | [],i,h=>by cases h
 |x::l,i,h=>by
  simp only[mW,jA]at h ⊢;by_cases hx:g x=true
  .simp only[hx,a1P,Dk,a4M,ahx];refine⟨by omega,by simp,by omega⟩
  simp only[aho]at hx;simp only[hx,a2r,a3y,a4M,ahx]at h ⊢;obtain⟨h1,h2,h3⟩:=Tn g l (i+1) h;refine⟨by omega,?_,by omega⟩;rw[<-h2,show(Dk (0,V0,()) (mW (jA g) l (i+1) ())).1-i=((Dk (0,V0,()) (mW (jA g) l (i+1) ())).1-(i+1))+1 by omega];simp
theorem QJ(g:V->Bool)(l:List V):iJ g l<l.length:=by
 unfold iJ;split
 .omega
 rename_i h;have:=(Tn g l 0 (by simpa using h)).1;omega
def Vb(x:Int):Bool:=
 (x) != (x)
def Jz(x:Int)(y:Int):Int:=
 if(decide ((x)<(y)))=true then -1 else if(decide ((x)>(y)))=true then 1 else 0
def Ih(f:Int):V:=
 (⟨f,0⟩:V)
def tZ(x:Int)(lo:Int)(hi:Int):Bool:=
 if(decide ((x)<(lo)))=true then true else decide ((x)>(hi))
def wC(l:LI0)(lo:Int)(hi:Int):Bool:=
 !(l.any ((fun x=>tZ x lo hi)))
def xE(v:V):Bool:=
 if((v.f)==0)=true then wC (([v.n]:LI0)) (-9999) 9999 else if(decide ((v.f)<=4))=true then(v.n)==0 else false
def oO(k:Int):V:=
 if(!(wC (([k]:LI0)) (-9999) 9999))=true then Ih 2 else(⟨0,k⟩:V)
def PG(is:Bool):V:=
 if is=true then oO 1 else oO 0
def o8(v:V):Bool:=
 (v.f) != 0
def AY(v:V):Bool:=
 !(xE v)
def bP(l:List V):V×Bool:=
 if(decide ((iJ ((fun v=>o8 v)) l)<0))=true then((⟨0,0⟩:V),false)else((l.getD (iJ ((fun v=>o8 v)) l).toNat V0),true)
def iw(l:List V):Bool:=
 !(l.any ((fun v=>AY v)))
def jL(a:V)(b:V)(c:V):V×Int:=
 if(!(iw (([a,b,c]:List V))))=true then((⟨0,0⟩:V),2)else if((a.f) != 0)=true then(a,0)else if((a.n)==0)=true then(c,0)else(b,0)
def JA(a:Int)(b:Int):V:=
 oO (i64.wrap ((a)+(b)))
def JB(a:Int)(b:Int):V:=
 oO (i64.wrap ((a)-(b)))
def JC(a:Int)(b:Int):V:=
 oO (i64.wrap ((a)*(b)))
def Dx(a:Int)(b:Int):Int:=
 a
def Dy(a:Int)(b:Int):Int:=
 b
def Dz(a:Int):Bool:=
 (a)==0
def DC(a:Int):Bool:=
 decide ((a)<0)
def DF(a:Int):Bool:=
 decide ((a)<=0)
def uP(a:Int)(b:Int):Int×Int:=
 if((wV .i64 (a) (b)) != 0)=true then if((decide ((wV .i64 (a) (b))<0)) != (decide ((b)<0)))=true then(i64.wrap ((UD .i64 (a) (b))-1),i64.wrap ((wV .i64 (a) (b))+(b)))else(UD .i64 (a) (b),wV .i64 (a) (b))else(UD .i64 (a) (b),wV .i64 (a) (b))
def iK(g:Int->Int->Int)(a:Int)(b:Int):V:=
 if((b)==0)=true then Ih 1 else oO (g ((uP a b).1) ((uP a b).2))
def dR(g:Int->Bool)(a:Int)(b:Int):V:=
 PG (g (Jz a b))
def rW(a:V)(b:V):V×Int:=
 if(!(iw (([a,b]:List V))))=true then((⟨0,0⟩:V),2)else if((bP (([a,b]:List V))).2)=true then((bP (([a,b]:List V))).1,0)else(JA a.n b.n,0)
def rX(a:V)(b:V):V×Int:=
 if(!(iw (([a,b]:List V))))=true then((⟨0,0⟩:V),2)else if((bP (([a,b]:List V))).2)=true then((bP (([a,b]:List V))).1,0)else(JB a.n b.n,0)
def rY(a:V)(b:V):V×Int:=
 if(!(iw (([a,b]:List V))))=true then((⟨0,0⟩:V),2)else if((bP (([a,b]:List V))).2)=true then((bP (([a,b]:List V))).1,0)else(JC a.n b.n,0)
def oP(a:V)(b:V):V×Int:=
 if(!(iw (([a,b]:List V))))=true then((⟨0,0⟩:V),2)else if((bP (([a,b]:List V))).2)=true then((bP (([a,b]:List V))).1,0)else(iK Dx (a.n) (b.n),0)
def oQ(a:V)(b:V):V×Int:=
 if(!(iw (([a,b]:List V))))=true then((⟨0,0⟩:V),2)else if((bP (([a,b]:List V))).2)=true then((bP (([a,b]:List V))).1,0)else(iK Dy (a.n) (b.n),0)
def oU(a:V)(b:V):V×Int:=
 if(!(iw (([a,b]:List V))))=true then((⟨0,0⟩:V),2)else if((bP (([a,b]:List V))).2)=true then((bP (([a,b]:List V))).1,0)else(dR Dz (a.n) (b.n),0)
def oV(a:V)(b:V):V×Int:=
 if(!(iw (([a,b]:List V))))=true then((⟨0,0⟩:V),2)else if((bP (([a,b]:List V))).2)=true then((bP (([a,b]:List V))).1,0)else(dR DC (a.n) (b.n),0)
def oW(a:V)(b:V):V×Int:=
 if(!(iw (([a,b]:List V))))=true then((⟨0,0⟩:V),2)else if((bP (([a,b]:List V))).2)=true then((bP (([a,b]:List V))).1,0)else(dR DF (a.n) (b.n),0)
def uf(a:V)(b:V):V×Int:=
 ((jL a b (oO 0)).1,(jL a b (oO 0)).2)
def ug(a:V)(b:V):V×Int:=
 ((jL a (oO 1) b).1,(jL a (oO 1) b).2)
def gV(code:Int)(a b:V):V:=
 if code=7 then(rW a b).1 else if code=8 then(rX a b).1 else if code=9 then(rY a b).1 else if code=10 then(oP a b).1 else if code=11 then(oQ a b).1 else if code=12 then(oU a b).1 else if code=13 then(oV a b).1 else if code=14 then(oW a b).1 else if code=15 then(uf a b).1 else(ug a b).1
def Ii(code:Int)(a b:V):V×Int:=if code=7 then rW a b else if code=8 then rX a b else if code=9 then rY a b else if code=10 then oP a b else if code=11 then oQ a b else if code=12 then oU a b else if code=13 then oV a b else if code=14 then oW a b else if code=15 then uf a b else ug a b
theorem nine{p:Int}(h:7<=p∧p<=16):p=7∨p=8∨p=9∨p=10∨p=11∨p=12∨p=13∨p=14∨p=15∨p=16:=by omega
structure kY(v:V):Prop where
 f0:0<=v.f
 f1:v.f<=4
 n:v.f=0->-9999<=v.n∧v.n<=9999
 z:v.f≠0->v.n=0
theorem XJ(k:Int):wC [k] (-9999) 9999=(decide (-9999<=k)&&decide (k<=9999)):=by
 simp only[wC,tZ,adP,List.any_nil,Bool.or_false];by_cases h:k < -9999
 .simp[h];omega
 by_cases h2:k>9999<;>simp[h,h2]<;>omega
theorem uQ{v:V}(h:kY v):xE v=true:=by
 obtain⟨f,n⟩:=v;have h0:=h.f0;have h1:=h.f1;have h2:=h.n;have h3:=h.z;simp only at h0 h1 h2 h3;unfold xE;simp only[XJ,a7h];by_cases hf:f=0
 .subst hf;simp;exact h2 rfl
 simp[hf,h1,h3 hf]
theorem ap8{a b:V}(ha:kY a)(hb:kY b):(!(iw [a,b]))=false:=by simp[iw,AY,uQ ha,uQ hb]
theorem a7s{a b c:V}(ha:kY a)(hb:kY b)(hc:kY c):(!(iw [a,b,c]))=false:=by simp[iw,AY,uQ ha,uQ hb,uQ hc]
theorem afD(a b:V):bP [a,b]=if a.f≠0 then(a,true)else if b.f≠0 then(b,true)else(⟨0,0⟩,false):=by
 by_cases h:a.f=0
 .by_cases h2:b.f=0
  .simp[bP,iJ,mW,jA,o8,kR,Dk,h,h2]
  simp[bP,iJ,mW,jA,o8,kR,Dk,h,h2]
 simp[bP,iJ,mW,jA,o8,kR,Dk,h]
theorem vX(k:Int):oO k=qp k:=by
 unfold oO qp Ih lS fE;rw[XJ];by_cases h:k < -9999
 .rw[a0A (by simp;omega),a0A (by simpa using h)]
 rw[a0y (c:=decide (k < -9999)=true) (by simpa using h)];by_cases h2:k>9999
 .rw[a0A (by simp;omega),a0A (by simpa using h2)]
 rw[a0y (by simp;omega),a0y (by simpa using h2)]
theorem uh(k:Int):kY (qp k):=by
 unfold qp lS fE;split
 .exact⟨by decide,by decide,by simp,by simp⟩
 split
 .exact⟨by decide,by decide,by simp,by simp⟩
 rename_i h1 h2;simp at h1 h2;exact⟨by simp,by simp,fun _=>by simp only;omega,by simp⟩
theorem a3K(b:Bool):PG b=rV b:=by cases b<;>rfl
theorem JD(b:Bool):kY (rV b):=by cases b<;>exact⟨by decide,by decide,fun _=>by decide,by decide⟩
theorem a3L{a b:Int}(hb:b≠0):a.tmod b=0∨True->(gU a b=(if a.tmod b≠0∧(decide (a.tmod b<0) != decide (b<0))=true then a.tdiv b-1 else a.tdiv b))∧a-b*gU a b=(if a.tmod b≠0∧(decide (a.tmod b<0) != decide (b<0))=true then a.tmod b+b else a.tmod b)∧(a-b*gU a b).natAbs<b.natAbs:=by
 intro _;have hq:=@Int.tdiv_eq_ediv a b;have hr:=@Int.tmod_eq_emod a b;have hm:=Int.mul_ediv_add_emod a b;have h0:=ac9 a hb;have h1:=Int.emod_lt a hb;have hd:b ∣ a↔a%b=0:=⟨Int.emod_eq_zero_of_dvd,Int.dvd_of_emod_eq_zero⟩;generalize a.tdiv b=T at *;generalize a.tmod b=R at *;generalize hE:a/b=e at *;generalize hM:a%b=m at *;unfold gU;have cT:0<=a∨b ∣ a->T=e∧R=m:=fun h=>by rw[a0A h]at hq hr;omega
 rcases Int.lt_or_gt_of_ne hb with zi|zi
 .rw[a0A zi];have hsg:b.sign=-1:=Int.sign_eq_neg_one_of_neg zi;have hna:(b.natAbs:Int)=-b:=by omega
  have cF:¬(0<=a∨b ∣ a)->T=e-1∧R=m+b:=fun h=>by rw[a0y h]at hq hr;omega
  rw[hna]at h1;by_cases Ri:m=0
  .have u:=(Int.ediv_emod_unique (a:=-a) (b:=-b) (r:=0) (q:=e) (by omega)).2 ⟨by rw[Int.neg_mul];omega,by omega,by omega⟩;rw[u.1];obtain⟨c1,c2⟩:=cT (.inr (hd.2 Ri));subst c1;subst c2;rw[a0y (by simp[Ri]),a0y (by simp[Ri])];omega
  have jF:¬b ∣ a:=fun h=>Ri (hd.1 h);have e1:b*(e-1)=b*e-b:=by rw[Int.mul_sub,acy]
  have u:=(Int.ediv_emod_unique (a:=-a) (b:=-b) (r:=-b-m) (q:=e-1) (by omega)).2 ⟨by rw[Int.neg_mul,e1];omega,by omega,by omega⟩;rw[u.1,e1];by_cases ha:0<=a
  .obtain⟨c1,c2⟩:=cT (.inl ha);subst c1;subst c2;have hc:(R≠0∧(decide (R<0) != decide (b<0))=true):=⟨Ri,by simp[zi];omega⟩;rw[a0A hc,a0A hc];omega
  obtain⟨c1,c2⟩:=cF (by simp[ha,jF]);have hc:¬(R≠0∧(decide (R<0) != decide (b<0))=true):=fun h=>by have:=h.2;simp[zi]at this;omega
  rw[a0y hc,a0y hc];omega
 rw[a0y (by omega),hE];have hsg:b.sign=1:=Int.sign_eq_one_of_pos zi;have hna:(b.natAbs:Int)=b:=by omega
 have cF:¬(0<=a∨b ∣ a)->T=e+1∧R=m-b:=fun h=>by rw[a0y h]at hq hr;omega
 rw[hna]at h1;by_cases hc0:0<=a∨b ∣ a
 .obtain⟨c1,c2⟩:=cT hc0;have hc:¬(R≠0∧(decide (R<0) != decide (b<0))=true):=fun h=>by have:=h.2;simp at this;omega
  rw[a0y hc,a0y hc];omega
 obtain⟨c1,c2⟩:=cF hc0;have Ri:m≠0:=fun h=>hc0 (.inr (hd.2 h));have hc:(R≠0∧(decide (R<0) != decide (b<0))=true):=⟨by omega,by simp;omega⟩;rw[a0A hc,a0A hc];omega
theorem wr{z:Int}(h1:-1000000000<=z)(h2:z<=1000000000):i64.wrap z=z:=wrap_small (by omega) (by omega)
theorem XK{a b:Int}(a0:-9999<=a)(a1:a<=9999)(b0:-9999<=b)(b1:b<=9999)(hb:b≠0):uP a b=(gU a b,a-b*gU a b)∧(-9999<=gU a b∧gU a b<=9999)∧(-9999<=a-b*gU a b∧a-b*gU a b<=9999)∧i64.wrap (a-i64.wrap (b*gU a b))=a-b*gU a b:=by
 obtain⟨h1,h2,h3⟩:=a3L (a:=a) hb (.inr trivial);have hna:(a.tdiv b).natAbs<=a.natAbs:=by rw[Int.natAbs_tdiv];exact Nat.div_le_self _ _
 have hq:UD .i64 a b=a.tdiv b:=wr (by omega) (by omega);have hp:(b*gU a b).natAbs=b.natAbs*(gU a b).natAbs:=Int.natAbs_mul _ _;have hQ:(gU a b).natAbs<=9999:=by
  rcases a4N 9999 (gU a b).natAbs with h|h
  .have:=Nat.mul_le_mul_left b.natAbs (show 10000<=(gU a b).natAbs from h);generalize b*gU a b=p at *;generalize b.natAbs*(gU a b).natAbs=r at *;omega
  exact h
 refine⟨?_,by omega,by generalize b*gU a b=p at *;omega,?_⟩
 .unfold uP wV;rw[hq];have hw1:i64.wrap (a.tdiv b-1)=a.tdiv b-1:=wr (by omega) (by omega);have hrb:(a.tmod b).natAbs<=9999:=by rw[Int.natAbs_tmod];exact a5w (Nat.mod_le _ _) (by omega)
  have hw2:i64.wrap (a.tmod b+b)=a.tmod b+b:=wr (by omega) (by omega);rw[h2,h1,hw1,hw2];by_cases c1:a.tmod b=0
  .rw[a0y (by simp[c1]),a0y (by simp[c1]),a0y (by simp[c1])]
  rw[a0A (by simpa using c1)];by_cases c2:(decide (a.tmod b<0) != decide (b<0))=true
  .rw[a0A c2,a0A ⟨c1,c2⟩,a0A ⟨c1,c2⟩]
  rw[a0y c2,a0y (fun h=>c2 h.2),a0y (fun h=>c2 h.2)]
 rw[wr (z:=b*gU a b) (by generalize b*gU a b=p at *;omega) (by generalize b*gU a b=p at *;omega)];exact wr (by generalize b*gU a b=p at *;omega) (by generalize b*gU a b=p at *;omega)
theorem XL{k:Int}(h1:-9999<=k)(h2:k<=9999):qp k=fE k:=by unfold qp;rw[a0y (by simp;omega),a0y (by simp;omega)]
theorem jH{g:Int->Int->V}{a b:V}(ha:kY a)(hb:kY b):(if(!(iw [a,b]))=true then((⟨0,0⟩:V),(2:Int))else if(bP [a,b]).2=true then((bP [a,b]).1,0)else(g a.n b.n,0)).1=if a.f≠0 then a else if b.f≠0 then b else g a.n b.n:=by
 rw[ap8 ha hb,afD];by_cases h:a.f=0
 .by_cases h2:b.f=0<;>simp[h,h2]
 simp[h]
theorem AZ{a:V}(ha:kY a)(h:a.f≠0):decide (a.f>0)=true:=by have:=ha.f0;simp;omega
theorem PK{k:Int}(h1:-9999<=k)(h2:k<=9999):kY (fE k):=⟨by simp[fE],by simp[fE],fun _=>⟨h1,h2⟩,fun h=>by simp[fE]at h⟩
theorem div_eq{a b:V}(ha:kY a)(hb:kY b)(h:a.f=0)(h2:b.f=0):iK Dx a.n b.n=(if(b.n==0)=true then lS 1 else fE (gU a.n b.n))∧kY (if(b.n==0)=true then lS 1 else fE (gU a.n b.n)):=by
 have a9:=ha.n h;have b9:=hb.n h2;unfold iK Dx;by_cases hz:b.n=0
 .rw[a0A (by simpa using hz),a0A (by simpa using hz)];exact⟨rfl,⟨by decide,by decide,by decide,by decide⟩⟩
 obtain⟨q1,q2,_,_⟩:=XK a9.1 a9.2 b9.1 b9.2 hz;rw[a0y (by simpa using hz),a0y (by simpa using hz),q1,vX,XL q2.1 q2.2];exact⟨rfl,PK q2.1 q2.2⟩
theorem mod_eq{a b:V}(ha:kY a)(hb:kY b)(h:a.f=0)(h2:b.f=0):iK Dy a.n b.n=(if(b.n==0)=true then lS 1 else fE (i64.wrap (a.n-i64.wrap (b.n*gU a.n b.n))))∧kY (if(b.n==0)=true then lS 1 else fE (i64.wrap (a.n-i64.wrap (b.n*gU a.n b.n)))):=by
 have a9:=ha.n h;have b9:=hb.n h2;unfold iK Dy;by_cases hz:b.n=0
 .rw[a0A (by simpa using hz),a0A (by simpa using hz)];exact⟨rfl,⟨by decide,by decide,by decide,by decide⟩⟩
 obtain⟨q1,_,q3,q4⟩:=XK a9.1 a9.2 b9.1 b9.2 hz;rw[a0y (by simpa using hz),a0y (by simpa using hz),q1,vX,q4,XL q3.1 q3.2];exact⟨rfl,PK q3.1 q3.2⟩
theorem afE(a b:Int):dR Dz a b=rV (a==b)∧dR DC a b=rV (decide (a<b))∧dR DF a b=rV (decide (a<=b)):=by
 unfold dR Dz DC DF Jz;simp only[a3K];rcases Int.lt_trichotomy a b with h|h|h
 .have:(a==b)=false:=by simp;omega
  simp[h,this,afg h]
 .subst h;simp
 have h1:¬a<b:=by omega
 have h2:(a==b)=false:=by simp;omega
 have h3:¬a<=b:=by omega
 simp[h,h1,h2,h3]
theorem afF{k:Int}(h7:7<=k∧k<=16){a b:V}(ha:kY a)(hb:kY b):gV k a b=bG k a b∧kY (bG k a b):=by
 have e15:a.f=0->gV 15 a b=bG 15 a b∧kY (bG 15 a b):=fun h=>by
  rw[show gV 15 a b=(uf a b).1 from rfl,show bG 15 a b=(if(a.n==0)=true then a else b) by simp[bG,h]];unfold uf jL;rw[a7s ha hb (vX 0▸uh 0)];by_cases hz:a.n=0
  .have:a=⟨0,0⟩:=by obtain⟨f,n⟩:=a;simp only at h hz;rw[h,hz]
   subst this;exact⟨rfl,ha⟩
  simp[h,hz];exact hb
 have e16:a.f=0->gV 16 a b=bG 16 a b∧kY (bG 16 a b):=fun h=>by
  rw[show gV 16 a b=(ug a b).1 from rfl,show bG 16 a b=(if(a.n != 0)=true then fE 1 else b) by simp[bG,h]];unfold ug jL;rw[a7s ha (vX 1▸uh 1) hb];by_cases hz:a.n=0
  .simp[h,hz];exact hb
  simp[h,hz];exact⟨rfl,PK (by decide) (by decide)⟩
 by_cases h:a.f=0
 .by_cases h2:b.f=0
  .have d:=div_eq ha hb h h2;have m:=mod_eq ha hb h h2;have c:=afE a.n b.n;rcases nine h7 with rfl|rfl|rfl|rfl|rfl|rfl|rfl|rfl|rfl|rfl
   .rw[show gV 7 a b=(rW a b).1 from rfl,show bG 7 a b=qp (i64.wrap (a.n+b.n)) by simp[bG,h,h2]];unfold rW;rw[jH (g:=fun x y=>JA x y) ha hb];simp only[h,h2,ne_eq,a8t,a3y,JA,vX];exact⟨trivial,uh _⟩
   .rw[show gV 8 a b=(rX a b).1 from rfl,show bG 8 a b=qp (i64.wrap (a.n-b.n)) by simp[bG,h,h2]];unfold rX;rw[jH (g:=fun x y=>JB x y) ha hb];simp only[h,h2,ne_eq,a8t,a3y,JB,vX];exact⟨trivial,uh _⟩
   .rw[show gV 9 a b=(rY a b).1 from rfl,show bG 9 a b=qp (i64.wrap (a.n*b.n)) by simp[bG,h,h2]];unfold rY;rw[jH (g:=fun x y=>JC x y) ha hb];simp only[h,h2,ne_eq,a8t,a3y,JC,vX];exact⟨trivial,uh _⟩
   .rw[show gV 10 a b=(oP a b).1 from rfl,show bG 10 a b=(if(b.n==0)=true then lS 1 else fE (gU a.n b.n)) by simp[bG,h,h2]];unfold oP;rw[jH (g:=fun x y=>iK Dx x y) ha hb];simp only[h,h2,ne_eq,a8t,a3y];exact d
   .rw[show gV 11 a b=(oQ a b).1 from rfl,show bG 11 a b=(if(b.n==0)=true then lS 1 else fE (i64.wrap (a.n-i64.wrap (b.n*gU a.n b.n)))) by simp[bG,h,h2]];unfold oQ;rw[jH (g:=fun x y=>iK Dy x y) ha hb];simp only[h,h2,ne_eq,a8t,a3y];exact m
   .rw[show gV 12 a b=(oU a b).1 from rfl,show bG 12 a b=rV (a.n==b.n) by simp[bG,h,h2]];unfold oU;rw[jH (g:=fun x y=>dR Dz x y) ha hb];simp only[h,h2,ne_eq,a8t,a3y];exact⟨c.1,JD _⟩
   .rw[show gV 13 a b=(oV a b).1 from rfl,show bG 13 a b=rV (decide (a.n<b.n)) by simp[bG,h,h2]];unfold oV;rw[jH (g:=fun x y=>dR DC x y) ha hb];simp only[h,h2,ne_eq,a8t,a3y];exact⟨c.2.1,JD _⟩
   .rw[show gV 14 a b=(oW a b).1 from rfl,show bG 14 a b=rV (decide (a.n<=b.n)) by simp[bG,h,h2]];unfold oW;rw[jH (g:=fun x y=>dR DF x y) ha hb];simp only[h,h2,ne_eq,a8t,a3y];exact⟨c.2.2,JD _⟩
   .exact e15 h
   exact e16 h
  rcases nine h7 with rfl|rfl|rfl|rfl|rfl|rfl|rfl|rfl|rfl|rfl
  .rw[show gV 7 a b=(rW a b).1 from rfl,show bG 7 a b=b by simp[bG,h,AZ hb h2]];unfold rW;rw[jH (g:=fun x y=>JA x y) ha hb];simp only[h,h2,ne_eq,a8t,a5A,a3y,a1P];exact⟨trivial,hb⟩
  .rw[show gV 8 a b=(rX a b).1 from rfl,show bG 8 a b=b by simp[bG,h,AZ hb h2]];unfold rX;rw[jH (g:=fun x y=>JB x y) ha hb];simp only[h,h2,ne_eq,a8t,a5A,a3y,a1P];exact⟨trivial,hb⟩
  .rw[show gV 9 a b=(rY a b).1 from rfl,show bG 9 a b=b by simp[bG,h,AZ hb h2]];unfold rY;rw[jH (g:=fun x y=>JC x y) ha hb];simp only[h,h2,ne_eq,a8t,a5A,a3y,a1P];exact⟨trivial,hb⟩
  .rw[show gV 10 a b=(oP a b).1 from rfl,show bG 10 a b=b by simp[bG,h,AZ hb h2]];unfold oP;rw[jH (g:=fun x y=>iK Dx x y) ha hb];simp only[h,h2,ne_eq,a8t,a5A,a3y,a1P];exact⟨trivial,hb⟩
  .rw[show gV 11 a b=(oQ a b).1 from rfl,show bG 11 a b=b by simp[bG,h,AZ hb h2]];unfold oQ;rw[jH (g:=fun x y=>iK Dy x y) ha hb];simp only[h,h2,ne_eq,a8t,a5A,a3y,a1P];exact⟨trivial,hb⟩
  .rw[show gV 12 a b=(oU a b).1 from rfl,show bG 12 a b=b by simp[bG,h,AZ hb h2]];unfold oU;rw[jH (g:=fun x y=>dR Dz x y) ha hb];simp only[h,h2,ne_eq,a8t,a5A,a3y,a1P];exact⟨trivial,hb⟩
  .rw[show gV 13 a b=(oV a b).1 from rfl,show bG 13 a b=b by simp[bG,h,AZ hb h2]];unfold oV;rw[jH (g:=fun x y=>dR DC x y) ha hb];simp only[h,h2,ne_eq,a8t,a5A,a3y,a1P];exact⟨trivial,hb⟩
  .rw[show gV 14 a b=(oW a b).1 from rfl,show bG 14 a b=b by simp[bG,h,AZ hb h2]];unfold oW;rw[jH (g:=fun x y=>dR DF x y) ha hb];simp only[h,h2,ne_eq,a8t,a5A,a3y,a1P];exact⟨trivial,hb⟩
  .exact e15 h
  exact e16 h
 rcases nine h7 with rfl|rfl|rfl|rfl|rfl|rfl|rfl|rfl|rfl|rfl
 .rw[show gV 7 a b=(rW a b).1 from rfl,show bG 7 a b=a by simp[bG,AZ ha h]];unfold rW;rw[jH (g:=fun x y=>JA x y) ha hb];simp only[h,ne_eq,a8t,a5A,a1P];exact⟨trivial,ha⟩
 .rw[show gV 8 a b=(rX a b).1 from rfl,show bG 8 a b=a by simp[bG,AZ ha h]];unfold rX;rw[jH (g:=fun x y=>JB x y) ha hb];simp only[h,ne_eq,a8t,a5A,a1P];exact⟨trivial,ha⟩
 .rw[show gV 9 a b=(rY a b).1 from rfl,show bG 9 a b=a by simp[bG,AZ ha h]];unfold rY;rw[jH (g:=fun x y=>JC x y) ha hb];simp only[h,ne_eq,a8t,a5A,a1P];exact⟨trivial,ha⟩
 .rw[show gV 10 a b=(oP a b).1 from rfl,show bG 10 a b=a by simp[bG,AZ ha h]];unfold oP;rw[jH (g:=fun x y=>iK Dx x y) ha hb];simp only[h,ne_eq,a8t,a5A,a1P];exact⟨trivial,ha⟩
 .rw[show gV 11 a b=(oQ a b).1 from rfl,show bG 11 a b=a by simp[bG,AZ ha h]];unfold oQ;rw[jH (g:=fun x y=>iK Dy x y) ha hb];simp only[h,ne_eq,a8t,a5A,a1P];exact⟨trivial,ha⟩
 .rw[show gV 12 a b=(oU a b).1 from rfl,show bG 12 a b=a by simp[bG,AZ ha h]];unfold oU;rw[jH (g:=fun x y=>dR Dz x y) ha hb];simp only[h,ne_eq,a8t,a5A,a1P];exact⟨trivial,ha⟩
 .rw[show gV 13 a b=(oV a b).1 from rfl,show bG 13 a b=a by simp[bG,AZ ha h]];unfold oV;rw[jH (g:=fun x y=>dR DC x y) ha hb];simp only[h,ne_eq,a8t,a5A,a1P];exact⟨trivial,ha⟩
 .rw[show gV 14 a b=(oW a b).1 from rfl,show bG 14 a b=a by simp[bG,AZ ha h]];unfold oW;rw[jH (g:=fun x y=>dR DF x y) ha hb];simp only[h,ne_eq,a8t,a5A,a1P];exact⟨trivial,ha⟩
 .rw[show gV 15 a b=(uf a b).1 from rfl,show bG 15 a b=a by simp[bG,AZ ha h]];unfold uf jL;rw[a7s ha hb (vX 0▸uh 0)];simp[h];exact ha
 rw[show gV 16 a b=(ug a b).1 from rfl,show bG 16 a b=a by simp[bG,AZ ha h]];unfold ug jL;rw[a7s ha (vX 1▸uh 1) hb];simp[h];exact ha
theorem a3M{a b c:V}(ha:kY a)(hb:kY b)(hc:kY c):(jL a b c).1=Jw a b c∧kY (Jw a b c):=by
 unfold jL Jw;rw[a7s ha hb hc];by_cases h:a.f=0
 .by_cases hz:a.n=0
  .simp[h,hz];exact hc
  simp[h,hz];exact hb
 have:=AZ ha h;simp only[a0S]at this;simp[h,this];exact ha
open Go.Shelf
def a3N:Go.Shelf.Ren:=⟨fun| 189=>137| 125=>180| 257=>179| 128=>216| 129=>217| 294=>207| 295=>208| 296=>209| 297=>210| 298=>211| 299=>212| 216=>213| 300=>214| 301=>215| 328=>229| 329=>230| 330=>231| 331=>232| 332=>233| 215=>219| 343=>235|n=>n,fun| 28=>22| 3=>3| 46=>184| 0=>0| 51=>204| 53=>207| 4=>4| 183=>212| 182=>211| 131=>152| 5=>5| 9=>9| 218=>227| 222=>231| 228=>233| 229=>192|n=>n,fun|n=>n⟩
theorem acJ:Lays.n189 Tryz.prog a3N where
 mixed:=by kernel_rfl
 f125:=Tryz.func180.trans (congrArg some (by kernel_rfl))
 f128:=Tryz.func216.trans (congrArg some (by kernel_rfl))
 f129:=Tryz.func217.trans (congrArg some (by kernel_rfl))
 f189:=Tryz.func137.trans (congrArg some (by kernel_rfl))
 f215:=Tryz.func219.trans (congrArg some (by kernel_rfl))
 f216:=Tryz.func213.trans (congrArg some (by kernel_rfl))
 f257:=Tryz.func179.trans (congrArg some (by kernel_rfl))
 f294:=Tryz.func207.trans (congrArg some (by kernel_rfl))
 f295:=Tryz.func208.trans (congrArg some (by kernel_rfl))
 f296:=Tryz.func209.trans (congrArg some (by kernel_rfl))
 f297:=Tryz.func210.trans (congrArg some (by kernel_rfl))
 f298:=Tryz.func211.trans (congrArg some (by kernel_rfl))
 f299:=Tryz.func212.trans (congrArg some (by kernel_rfl))
 f300:=Tryz.func214.trans (congrArg some (by kernel_rfl))
 f301:=Tryz.func215.trans (congrArg some (by kernel_rfl))
 f328:=Tryz.func229.trans (congrArg some (by kernel_rfl))
 f329:=Tryz.func230.trans (congrArg some (by kernel_rfl))
 f330:=Tryz.func231.trans (congrArg some (by kernel_rfl))
 f331:=Tryz.func232.trans (congrArg some (by kernel_rfl))
 f332:=Tryz.func233.trans (congrArg some (by kernel_rfl))
 f343:=Tryz.func235.trans (congrArg some (by kernel_rfl))
 t0:=Tryz.underlying0
 a0:=Tryz.isAgg0
 z0:=Tryz.sizeOf0
 v0:=Tryz.zeroValue0
 t3:=Tryz.underlying3
 a3:=Tryz.isAgg3
 z3:=Tryz.sizeOf3
 v3:=Tryz.zeroValue3
 t4:=Tryz.underlying4
 a4:=Tryz.isAgg4
 z4:=Tryz.sizeOf4
 v4:=Tryz.zeroValue4
 t5:=Tryz.underlying5
 a5:=Tryz.isAgg5
 z5:=Tryz.sizeOf5
 v5:=Tryz.zeroValue5
 t9:=Tryz.underlying9
 a9:=Tryz.isAgg9
 z9:=Tryz.sizeOf9
 v9:=Tryz.zeroValue9
 t28:=Tryz.underlying22
 a28:=Tryz.isAgg22
 z28:=Tryz.sizeOf22
 v28:=Tryz.zeroValue22
 t46:=Tryz.underlying184
 a46:=Tryz.isAgg184
 z46:=Tryz.sizeOf184
 v46:=Tryz.zeroValue184
 t51:=Tryz.underlying204
 a51:=Tryz.isAgg204
 z51:=Tryz.sizeOf204
 v51:=Tryz.zeroValue204
 t53:=Tryz.underlying207
 a53:=Tryz.isAgg207
 z53:=Tryz.sizeOf207
 v53:=Tryz.zeroValue207
 t131:=Tryz.underlying152
 a131:=Tryz.isAgg152
 z131:=Tryz.sizeOf152
 v131:=Tryz.zeroValue152
 t182:=Tryz.underlying211
 a182:=Tryz.isAgg211
 z182:=Tryz.sizeOf211
 v182:=Tryz.zeroValue211
 t183:=Tryz.underlying212
 a183:=Tryz.isAgg212
 z183:=Tryz.sizeOf212
 v183:=Tryz.zeroValue212
 t218:=Tryz.underlying227
 a218:=Tryz.isAgg227
 z218:=Tryz.sizeOf227
 v218:=Tryz.zeroValue227
 t222:=Tryz.underlying231
 a222:=Tryz.isAgg231
 z222:=Tryz.sizeOf231
 v222:=Tryz.zeroValue231
 t228:=Tryz.underlying233
 a228:=Tryz.isAgg233
 z228:=Tryz.sizeOf233
 v228:=Tryz.zeroValue233
 t229:=Tryz.underlying192
 a229:=Tryz.isAgg192
 z229:=Tryz.sizeOf192
 v229:=Tryz.zeroValue192
def Tb:Tw.qL:={
 live:=[(8,[(0,[1,2,3]),(1,[1,2,3,38]),(2,[6]),(3,[2,3,7]),(4,[2,3,7,8]),(5,[2,3,7,8,9]),(6,[2,3,7,8,9,10]),(7,[2,3,7,8,9,10,62]),(8,[2,3,7,8,9,10]),(9,[2,3,7,8,9,10,11,12]),(10,[2,3,7,8,9,10,11,96]),(11,[6]),(12,[2,3,7,8,9,10,11,13,14]),(13,[2,3,7,8,9,10,11,13,14,15,16]),(14,[2,3,7,8,9,10,15,126]),(15,[6]),(16,[2,3,7,8,9,10]),(17,[3,7,9,17,18]),(18,[6])]),
  (18,[(0,[1]),(1,[1,21]),(2,[2]),(3,[1,3]),(4,[1,3,26]),(5,[1,3]),(6,[1,3,36]),(7,[2]),(8,[2])]),
  (19,[(0,[]),(1,[1,2]),(2,[1,2,3,4]),(3,[1,2,3,4,5,6]),(4,[1,2,3,4,5,6,7,8]),(5,[1,2,3,4,5,6,7,8,9,10]),(6,[1,2,3,4,5,6,7,8,9,10,11,12]),(7,[1,2,3,4,5,6,7,8,9,10,11,12,13,14]),(8,[1,2,3,4,5,6,7,8,9,10,11,12,13,14,15,16]),(9,[1,2,3,4,5,6,7,8,9,10,11,12,13,14,16,17,18]),(10,[1,2,3,4,5,6,7,8,9,10,11,12,13,14,16,17,18,19,20]),(11,[1,3,4,5,6,7,8,9,10,11,12,13,14,16,17,18,20,21,22]),(12,[0])]),
  (20,[(0,[1,2,3,6]),(1,[1,2,3,6,8]),(2,[1,2,3,6,8,14]),(3,[6,7]),(4,[1,2,3,6,34]),(5,[6,7]),(6,[1,2,6,9]),(7,[6,9]),(8,[6,7])]),
  (21,[(0,[1,2]),(1,[1,2,3]),(2,[1,2,3,4]),(3,[1,2,3,4,21]),(4,[1,2,3,4]),(5,[1,2,3,4]),(6,[2])]),
  (22,[(0,[1]),(1,[1,3]),(2,[1,3,7]),(3,[2]),(4,[11]),(5,[2]),(6,[2])]),
  (23,[(0,[0,1,2]),(1,[6])]),
  (25,[(0,[1,3,5]),(1,[6])]),
  (27,[(0,[2,3]),(1,[3,6,7]),(2,[3,6,7,15]),(3,[4,5]),(4,[4,5])]),
  (28,[(0,[2,3]),(1,[3,6,7]),(2,[3,6,7,17]),(3,[4,5]),(4,[3,6,21]),(5,[4,5]),(6,[3,6,29,30,31]),(7,[3,6,29,30,31,32]),(8,[3,6,8,9,29,30,31]),(9,[3,6,8,29,30,31,36,37]),(10,[3,6,8,29,30,31,36,37,38]),(11,[3,6,8,10,29,30,31,36,37]),(12,[3,6,8,29,30,31,36,37]),(13,[3,6,8,29,30,31,36,37,49]),(14,[3,6,8,29,30,31,36,37]),(15,[3,6,29,30,31]),(16,[4,5])]),
  (29,[(0,[1]),(1,[1,5]),(2,[2]),(3,[2])]),
  (32,[(0,[0,1]),(1,[0,1,10]),(2,[4]),(3,[0,1,5]),(4,[0,1,5,14]),(5,[0,1,5]),(6,[0,1,5,25]),(7,[4]),(8,[4])]),
  (33,[(0,[0,4,5,6]),(1,[0,4,5,6,8]),(2,[0,4,5,6,8,17]),(3,[6,7]),(4,[0,4,5,6,25]),(5,[6,7]),(6,[0,6,9]),(7,[0,6,9]),(8,[0,6,9,36]),(9,[6]),(10,[6,7]),(11,[0,6,9,10,11]),(12,[6,9,10,11,44]),(13,[6]),(14,[6,9,10,11,44,49]),(15,[6]),(16,[6,9,10,11,44,58]),(17,[6]),(18,[6,9,10,11,44,65]),(19,[6]),(20,[6,10,11,71]),(21,[6,10]),(22,[6,10]),(23,[6,10,81]),(24,[6]),(25,[6,7])]),
  (35,[(0,[2,3]),(1,[2,3,69]),(2,[4]),(3,[2,3,5]),(4,[2,3,5,74]),(5,[2,3,5]),(6,[2,3,5,87]),(7,[4]),(8,[4])]),
  (39,[(0,[0,3,4]),(1,[0,3,4,12]),(2,[4,5]),(3,[0,3,4,5]),(4,[0,3,4,5,20]),(5,[4,5]),(6,[0,3,4,25]),(7,[4,5]),(8,[0,3,4]),(9,[3,4,31,32,33]),(10,[3,4,31,32,33,34]),(11,[3,4,6,7,31,32,33]),(12,[3,4,6,8,31,32,33]),(13,[3,4,6,8,31,32,33,45]),(14,[4]),(15,[4,5]),(16,[3,4,6,9,31,32,33]),(17,[3,4,6,9,31,32,33,59]),(18,[3,4,31,32,33]),(19,[3,4,31,32,33]),(20,[4,5])]),
  (44,[(0,[1]),(1,[1,3]),(2,[1,3,7]),(3,[2]),(4,[1,3,4]),(5,[1,3,4,12]),(6,[1,3,4]),(7,[1,3,4]),(8,[2])]),
  (45,[(0,[0,4,5,6]),(1,[0,4,5,6,11]),(2,[0,4,5,6,11,12]),(3,[6,7]),(4,[0,4,5,6,20]),(5,[6,7]),(6,[4,5,6,8]),(7,[4,5,6,8,38]),(8,[6,7]),(9,[4,5,6,8,9,10]),(10,[4,5,6,8,9,47]),(11,[6,7]),(12,[6,7])]),
  (46,[(0,[1]),(1,[1,3]),(2,[1,3,4]),(3,[1,3,4,13]),(4,[1,3,4]),(5,[1,3,4]),(6,[2])]),
  (48,[(0,[0,2]),(1,[2])]),
  (49,[(0,[0]),(1,[2])]),
  (53,[(0,[0,1]),(1,[0,1,5]),(2,[0,1,5,6]),(3,[0,1,5,6,14]),(4,[0,1,5,6]),(5,[0,1,5,6]),(6,[0,1,5,6]),(7,[4])]),
  (54,[(0,[0,1]),(1,[0,1,12]),(2,[4]),(3,[4])]),
  (57,[(0,[0,1,2,3,8]),(1,[0,1,2,3,8,10]),(2,[0,1,2,3,8,10,17]),(3,[8,9]),(4,[0,1,2,3,8,36]),(5,[8,9]),(6,[0,2,3,8,11]),(7,[3,8,11,47,48]),(8,[3,8,11,47,48,49]),(9,[3,8,11,12,47,48]),(10,[3,8,11,12,47,48]),(11,[3,8,11,47,48]),(12,[3,8,11,47,48]),(13,[8,9])]),
  (58,[(0,[0,1]),(1,[0,1,8]),(2,[4]),(3,[0,1,5]),(4,[0,1,5,12]),(5,[0,1,5]),(6,[0,1,5,20]),(7,[4]),(8,[0,1,23]),(9,[4]),(10,[27]),(11,[4]),(12,[4])]),
  (62,[(0,[3,4,5,6]),(1,[3,4,5,6,8]),(2,[3,4,5,6,8,16]),(3,[6,7]),(4,[3,4,5,6,10]),(5,[3,4,5,6,10,27]),(6,[6,7]),(7,[6,7])]),
  (63,[(0,[3,4,5,6]),(1,[3,4,5,6,8]),(2,[3,4,5,6,8,15]),(3,[6,7]),(4,[6,7])]),
  (67,[(0,[1,2]),(1,[1,2,4]),(2,[1,2,4,9]),(3,[2,3]),(4,[2,3])]),
  (72,[(0,[2,3]),(1,[2,3,43]),(2,[4]),(3,[2,3,5]),(4,[2,3,5,48]),(5,[2,3,5]),(6,[2,3,5,79]),(7,[4]),(8,[4])]),
  (73,[(0,[0,1]),(1,[0,1,2]),(2,[0,1,2,3]),(3,[0,1])]),
  (74,[(0,[1,2,3]),(1,[1,2,3,7]),(2,[1,2,3,7,8]),(3,[1,2,3,7,8,12]),(4,[1,2,3,7,8]),(5,[1,2,3,7,8]),(6,[6])]),
  (75,[(0,[0,1]),(1,[0,1,10]),(2,[4]),(3,[0,1,5]),(4,[0,1,5,14]),(5,[0,1,5]),(6,[0,1,5,25]),(7,[4]),(8,[4])]),
  (76,[(0,[0]),(1,[0,6,7,8]),(2,[0,6,7,8,9]),(3,[0,4,6,7,8]),(4,[0,5,6,7,8]),(5,[0,5,6,7,8,15]),(6,[2]),(7,[0,6,7,8]),(8,[30]),(9,[2]),(10,[2])]),
  (77,[(0,[0,1,2]),(1,[6])]),
  (78,[(0,[0,1,4]),(1,[4])]),
  (79,[(0,[0,2]),(1,[2])]),
  (80,[(0,[1,2]),(1,[1,2,3]),(2,[1,2,3,4]),(3,[1,2,3,4,5]),(4,[1,2,3,5]),(5,[2,3]),(6,[2,6]),(7,[2])]),
  (81,[(0,[0]),(1,[2])]),
  (82,[(0,[0]),(1,[2])]),
  (83,[(0,[1]),(1,[1,3]),(2,[1,3,10]),(3,[2]),(4,[1,15]),(5,[2]),(6,[18]),(7,[2]),(8,[2])]),
  (84,[(0,[1]),(1,[1,3]),(2,[1,3,13]),(3,[1,3]),(4,[1,3,4]),(5,[1,3,4,18]),(6,[1,3,4]),(7,[1,3,4,31]),(8,[2]),(9,[1,5]),(10,[1,5,36]),(11,[1,5]),(12,[1,5,44]),(13,[2]),(14,[1,5,6]),(15,[1,5,6,47]),(16,[1,5,6]),(17,[1,5,6,77]),(18,[2]),(19,[1,7,8]),(20,[2])]),
  (86,[(0,[2,3,4]),(1,[2,3,4,6]),(2,[2,3,4,6,11]),(3,[4,5]),(4,[2,4,16]),(5,[4,5]),(6,[4,5])]),
  (87,[(0,[1,2]),(1,[1,2,3]),(2,[2,3,8]),(3,[3,4,10]),(4,[3,4,5]),(5,[3,4,5,15]),(6,[]),(7,[2])]),
  (88,[(0,[0,2,3]),(1,[2,3,6]),(2,[2,3,6,8]),(3,[2,3,4,6]),(4,[2,3,4,6,13]),(5,[2,3,6]),(6,[2,3,6]),(7,[2,3]),(8,[2,3])]),
  (89,[(0,[0]),(1,[0])]),
  (90,[(0,[0,2]),(1,[2,6]),(2,[2,6,8]),(3,[2,4,6]),(4,[2,6]),(5,[2])]),
  (93,[(0,[0]),(1,[2])]),
  (94,[(0,[0]),(1,[0,7]),(2,[0]),(3,[0,3]),(4,[0,3,4]),(5,[0,3,4,15]),(6,[0,3,4]),(7,[0,3,4]),(8,[2])]),
  (95,[(0,[0]),(1,[2])]),
  (96,[(0,[1]),(1,[2])]),
  (98,[(0,[1,2,4]),(1,[1,2,4,5]),(2,[1,2,4,5,9]),(3,[1,2,4,5]),(4,[4])]),
  (99,[(0,[3,4,5,6]),(1,[3,4,5,6,8]),(2,[6,7]),(3,[3,4,5,6,16]),(4,[6,7]),(5,[4,5,6,21]),(6,[6,7]),(7,[6,7])]),
  (100,[(0,[0,2]),(1,[0,2,6]),(2,[2]),(3,[2])]),
  (101,[(0,[0]),(1,[3]),(2,[3,4]),(3,[2]),(4,[3,6]),(5,[2]),(6,[3,8]),(7,[2]),(8,[3,10]),(9,[2]),(10,[3,13]),(11,[2]),(12,[3,16]),(13,[2]),(14,[3,19]),(15,[2]),(16,[22]),(17,[2]),(18,[2])]),
  (102,[(0,[0]),(1,[2])]),
  (103,[(0,[0,2]),(1,[0,2,4]),(2,[0,2,4,8]),(3,[2,3]),(4,[2,3])]),
  (104,[(0,[0,1]),(1,[0,1,5]),(2,[0,5,6]),(3,[0,5,6,11]),(4,[0,5,6]),(5,[0,5,6]),(6,[4])]),
  (105,[(0,[0,1]),(1,[0,1,9]),(2,[4]),(3,[0,1,13]),(4,[4]),(5,[0,1,5]),(6,[0,1,5,17,18,19]),(7,[0,1,5,17,18,19,20]),(8,[0,1,5,7,17,18,19]),(9,[0,1,5,17,18,19]),(10,[0,1,5,17,18,19]),(11,[0,1,28]),(12,[4]),(13,[0,8]),(14,[0,8]),(15,[38]),(16,[4]),(17,[4])]),
  (106,[(0,[1]),(1,[5]),(2,[2]),(3,[2])]),
  (108,[(0,[1,2]),(1,[2,4,5]),(2,[2,4,5,12]),(3,[2,3]),(4,[2,3])]),
  (109,[(0,[0,1]),(1,[0,1,11]),(2,[4]),(3,[0,1,5]),(4,[0,1,5,15]),(5,[0,1,5]),(6,[0,1,5,26]),(7,[4]),(8,[0,1,5,6]),(9,[0,1,5,6,29]),(10,[0,1,5,6]),(11,[0,1,5,6,40]),(12,[4]),(13,[4])]),
  (112,[(0,[0,1,3]),(1,[3,4]),(2,[3])]),
  (113,[(0,[0,2]),(1,[2,3]),(2,[2])]),
  (117,[(0,[0,2]),(1,[2,4]),(2,[2]),(3,[2])]),
  (121,[(0,[1]),(1,[4]),(2,[2])]),
  (122,[(0,[1,2]),(1,[4])]),
  (123,[(0,[2,3]),(1,[4])]),
  (124,[(0,[0,1]),(1,[0,1,10]),(2,[0,1]),(3,[0,5,6]),(4,[0,6,26]),(5,[0,6]),(6,[0,7]),(7,[7,8]),(8,[7,8,37]),(9,[7,8]),(10,[4])]),
  (125,[(0,[0]),(1,[0,4]),(2,[2]),(3,[2])]),
  (126,[(0,[1,2,3,4,5,6]),(1,[1,2,3,4,5,6,32]),(2,[1,2,3,4,5,6]),(3,[1,2,3,4,5,6,40]),(4,[3]),(5,[8]),(6,[1,2,3,4,5,6,9]),(7,[1,2,3,4,5,6,9,10]),(8,[1,2,3,4,5,6,9,10,68]),(9,[8]),(10,[1,2,3,4,5,6,9,11,12]),(11,[1,2,3,4,5,6,9,11,84]),(12,[8]),(13,[1,2,3,4,5,6,9,13]),(14,[1,2,3,4,5,6,9,13,93,94]),(15,[1,2,3,4,5,6,9,13,93,94,95]),(16,[1,2,3,4,5,6,9,13,14,93,94]),(17,[1,2,3,4,5,6,9,13,93,94]),(18,[1,2,3,4,5,6,9,13,93,94]),(19,[3,5,6,13]),(20,[5,6]),(21,[8])]),
  (127,[(0,[2,3,4]),(1,[2,4,10,11,12]),(2,[2,4,10,11,12,13]),(3,[2,4,7,8,10,11,12]),(4,[2,4,10,11,12,32]),(5,[6]),(6,[2,4,10,11,12]),(7,[6])]),
  (128,[(0,[2,3,4]),(1,[3,4,8,9,10]),(2,[3,4,8,9,10,11]),(3,[3,4,5,6,8,9,10]),(4,[3,4,8,9,10]),(5,[3,4,8,9,10]),(6,[4])]),
  (129,[(0,[2,3,4,5,8]),(1,[2,3,5,8,12,13,14]),(2,[2,3,5,8,12,13,14,15]),(3,[2,3,5,8,9,10,12,13,14]),(4,[2,3,5,8,9,10,12,13,14,34]),(5,[2,3,5,8,12,13,14]),(6,[2,3,5,8,12,13,14]),(7,[8])]),
  (130,[(0,[1,2]),(1,[2,6,7,8]),(2,[2,6,7,8,9]),(3,[2,3,4,6,7,8]),(4,[2,6,7,8]),(5,[2,6,7,8]),(6,[2])]),
  (131,[(0,[1]),(1,[1,3]),(2,[1,3,11]),(3,[1,3]),(4,[1,3,20]),(5,[2]),(6,[1,4]),(7,[1,4,25]),(8,[1,4]),(9,[1,4,5]),(10,[1,4,5,52]),(11,[2]),(12,[1,4,5,6]),(13,[1,4,5,6,57]),(14,[1,4,5,6]),(15,[1,4,5,6,81]),(16,[2]),(17,[2])]),
  (132,[(0,[1]),(1,[1,3]),(2,[1,3,8]),(3,[1,3]),(4,[1,3,20]),(5,[2]),(6,[2])]),
  (133,[(0,[1,2,3,4]),(1,[1,2,3,4,13]),(2,[1,2,3,18]),(3,[2,3]),(4,[8,9]),(5,[1,2,3,4,28]),(6,[8,9]),(7,[1,2,3,4,10]),(8,[1,2,3,4,10,11]),(9,[1,2,3,4,10,11,40]),(10,[1,2,3,4,10,11]),(11,[1,2,3,4,10,11]),(12,[8,9])]),
  (134,[(0,[0,1]),(1,[0,1,5]),(2,[0,1,5,9]),(3,[0,1,5]),(4,[0,1,5,17]),(5,[4]),(6,[4])]),
  (136,[(0,[1,2]),(1,[1,2,4]),(2,[1,2,4,21,22,23]),(3,[1,2,4,21,22,23,24]),(4,[1,2,4,6,21,22,23]),(5,[1,2,4,6,7,21,22,23]),(6,[1,2,6,7,21,22,23,29]),(7,[1,2,6,7,21,22,23,29,31]),(8,[1,2,6,7,8,9,21,22,23,29]),(9,[1,2,6,7,8,9,10,21,22,23,29]),(10,[1,2,6,7,8,9,10,11,21,22,23,29]),(11,[1,2,6,7,8,9,10,11,21,22,23,29,46]),(12,[1,2,6,7,21,22,23,29]),(13,[1,2,6,7,8,9,10,21,22,23,29,60]),(14,[1,2,6,7,21,22,23,29]),(15,[1,2,6,7,8,9,21,22,23,29,75,76]),(16,[1,2,6,7,8,9,21,22,23,29,75,76,77]),(17,[1,2,6,7,8,9,12,21,22,23,29,75,76]),(18,[1,2,6,7,8,9,21,22,23,29,75,76]),(19,[1,2,6,7,8,9,21,22,23,29,75,76]),(20,[1,2,4,21,22,23]),(21,[1,2,4,21,22,23]),(22,[1,2,94]),(23,[1,2,94,96]),(24,[1,2,13,14,94]),(25,[1,2,94,106])]),
  (137,[(0,[0,2]),(1,[])]),
  (138,[(0,[1,2,4]),(1,[2,4,6]),(2,[2,5]),(3,[]),(4,[4])]),
  (139,[(0,[0,6]),(1,[0,6,8]),(2,[0,4,6]),(3,[0,6,14])]),
  (140,[(0,[2,3,4]),(1,[6])]),
  (141,[(0,[0,2]),(1,[2])]),
  (142,[(0,[0,1,4]),(1,[4])]),
  (143,[(0,[0,1,4]),(1,[4])]),
  (144,[(0,[0,1,4]),(1,[4])]),
  (145,[(0,[1]),(1,[2])]),
  (146,[(0,[0]),(1,[4])]),
  (147,[(0,[1]),(1,[4])]),
  (148,[(0,[1]),(1,[2])]),
  (149,[(0,[0]),(1,[2])]),
  (150,[(0,[0]),(1,[2])]),
  (151,[(0,[0]),(1,[2])]),
  (152,[(0,[0,1]),(1,[4])]),
  (153,[(0,[1]),(1,[2])]),
  (154,[(0,[1]),(1,[1,5]),(2,[2]),(3,[2])]),
  (155,[(0,[0,1]),(1,[0,1,7,8]),(2,[0,1,7,8,9]),(3,[0,1,5,7,8]),(4,[0,1,5,7,8,16]),(5,[4]),(6,[0,1,7,8]),(7,[4])]),
  (156,[(0,[1]),(1,[2])]),
  (157,[(0,[2,3,4]),(1,[6])]),
  (158,[(0,[0,1]),(1,[0,1,10]),(2,[4]),(3,[0,1,12,13]),(4,[0,1,12,13,14]),(5,[0,1,5,12,13]),(6,[0,1,12,13,24]),(7,[4]),(8,[0,1,12,13]),(9,[4])]),
  (159,[(0,[0]),(1,[0,3]),(2,[3,7,8]),(3,[3,7,8,9]),(4,[3,4,7,8]),(5,[3,7,8]),(6,[3,7,8]),(7,[2])]),
  (160,[(0,[1,2]),(1,[1,2,4]),(2,[1,2,4,11]),(3,[2,3]),(4,[1,2]),(5,[1,2,21]),(6,[2,3]),(7,[1,2,27]),(8,[1,2,27]),(9,[2,27]),(10,[2,3]),(11,[2,3])]),
  (161,[(0,[1,2]),(1,[1,2,3]),(2,[1,2,3,4]),(3,[1,2,3,4,5]),(4,[1,2,3,5]),(5,[2,3]),(6,[2])]),
  (168,[(0,[1,2]),(1,[4])]),
  (169,[(0,[1]),(1,[2])]),
  (172,[(0,[1,2]),(1,[1,2,3]),(2,[2,3,17]),(3,[2,3]),(4,[2,3])]),
  (173,[(0,[0,1]),(1,[4])]),
  (174,[(0,[1,2]),(1,[3])]),
  (175,[(0,[0,1]),(1,[6,7]),(2,[4,5]),(3,[8,9]),(4,[4,5])]),
  (176,[(0,[1,2,3]),(1,[1,2,3,8]),(2,[6]),(3,[6])]),
  (177,[(0,[1,2]),(1,[1,2,5]),(2,[1,2,5,14]),(3,[1,2,5]),(4,[1,2,5,28]),(5,[4]),(6,[4])]),
  (178,[(0,[0,1]),(1,[0,1,5]),(2,[0,1,5,9]),(3,[0,1,5]),(4,[0,1,5,17]),(5,[4]),(6,[4])]),
  (181,[(0,[0,1]),(1,[4])]),
  (182,[(0,[0,1,2]),(1,[4])]),
  (183,[(0,[0,1,2,5]),(1,[0,1,2,5,7]),(2,[5]),(3,[5])]),
  (184,[(0,[0,1]),(1,[1,4,5]),(2,[1,4,5,20]),(3,[4,5]),(4,[4,5])]),
  (185,[(0,[0,1,2,5]),(1,[5])]),
  (186,[(0,[0,2]),(1,[2,3]),(2,[2]),(3,[2])]),
  (187,[(0,[0,1]),(1,[0,1,5]),(2,[0,1,5,6]),(3,[0,1,6,11]),(4,[12]),(5,[4]),(6,[4]),(7,[0,1,13]),(8,[4]),(9,[0,1,16]),(10,[4]),(11,[19]),(12,[4]),(13,[4])]),
  (188,[(0,[0,1,2]),(1,[4])]),
  (189,[(0,[0,3]),(1,[4])]),
  (190,[(0,[1]),(1,[1,5]),(2,[2]),(3,[2])]),
  (191,[(0,[0,3]),(1,[4])]),
  (192,[(0,[2,3]),(1,[2,3,5]),(2,[2,3,5,34]),(3,[4]),(4,[4])]),
  (193,[(0,[1,2,3,4]),(1,[1,2,3,4,10]),(2,[8]),(3,[8])]),
  (194,[(0,[1]),(1,[2])]),
  (195,[(0,[0,1,2,3,4]),(1,[0,1,2,3,4,14]),(2,[6]),(3,[0,1,2,3,4,7,8]),(4,[0,1,2,3,4,7,30]),(5,[6]),(6,[0,1,3,4,9]),(7,[0,1,3,4,9,10]),(8,[0,1,3,4,9,10,43,44,45]),(9,[0,1,3,4,9,10,43,44,45,46]),(10,[0,1,3,4,9,10,11,12,43,44,45]),(11,[0,1,3,4,9,10,43,44,45]),(12,[0,1,3,4,9,10,43,44,45]),(13,[0,3]),(14,[6])]),
  (196,[(0,[0,3]),(1,[0,3,5,6]),(2,[0,3,5,17]),(3,[0,3,5]),(4,[0,3,5]),(5,[5]),(6,[4])]),
  (197,[(0,[0]),(1,[2])]),
  (198,[(0,[0,1,5]),(1,[0,1,5,12]),(2,[6]),(3,[0,1,5,7]),(4,[0,1,5,7]),(5,[0,1,5,7,8,9]),(6,[0,1,5,7,8,32]),(7,[0,1,5,7,8]),(8,[0,1,5,8]),(9,[8]),(10,[6])]),
  (201,[(0,[1,2]),(1,[3])]),
  (203,[(0,[2,3]),(1,[2,3,5]),(2,[4])]),
  (204,[(0,[0,1]),(1,[0,1,7,8]),(2,[0,1,7,8,9]),(3,[0,1,5,7,8]),(4,[0,1,5,7,8,16]),(5,[4]),(6,[0,1,7,8]),(7,[4])]),
  (205,[(0,[0,1]),(1,[6]),(2,[4,5])]),
  (206,[(0,[0,1]),(1,[0,1,6]),(2,[0,1,6,7]),(3,[0,1,6,7,8]),(4,[0,1,6,7,8,9]),(5,[0,1,6,7,8,9,10]),(6,[0,1,6,7,9,11]),(7,[0,1,6,7,9,11,12]),(8,[0,1,6,7,9,12,13]),(9,[0,1,7,9,12,13]),(10,[0,1,4]),(11,[4,5])]),
  (218,[(0,[0,1]),(1,[0,1,7,8]),(2,[0,1,7,8,9]),(3,[0,1,5,7,8]),(4,[0,1,5,7,8,16]),(5,[4]),(6,[0,1,7,8]),(7,[4])]),
  (219,[(0,[0]),(1,[2])]),
  (220,[(0,[1,2]),(1,[3])]),
  (221,[(0,[0,1]),(1,[3])]),
  (222,[(0,[0,1,2,3]),(1,[5])]),
  (223,[(0,[1,2]),(1,[4])]),
  (224,[(0,[0,1]),(1,[3])]),
  (226,[(0,[2,3]),(1,[4])]),
  (227,[(0,[0,1]),(1,[0,1,10]),(2,[4]),(3,[0,1,12,13]),(4,[0,1,12,13,14]),(5,[0,1,5,12,13]),(6,[0,1,12,13,24]),(7,[4]),(8,[0,1,12,13]),(9,[4])]),
  (228,[(0,[0,1,2]),(1,[0,1,2,14]),(2,[6]),(3,[1,2,15,16,17]),(4,[1,2,15,16,17,18]),(5,[1,2,7,8,15,16,17]),(6,[1,2,8,9,15,16,17]),(7,[1,2,15,16,17,30]),(8,[6]),(9,[1,2,15,16,17]),(10,[6])]),
  (234,[(0,[0,1]),(1,[0,1,7,8]),(2,[0,1,7,8,9]),(3,[0,1,5,7,8]),(4,[0,1,5,7,8,16]),(5,[4]),(6,[0,1,7,8]),(7,[4])])],
 head:=[(8,[(7,[2,3,7,8,9,10])]),
  (18,[(4,[1,3])]),
  (21,[(3,[1,2,3,4])]),
  (28,[(7,[3,6,29,30,31]),(10,[3,6,8,29,30,31,36,37])]),
  (32,[(4,[0,1,5])]),
  (35,[(4,[2,3,5])]),
  (39,[(10,[3,4,31,32,33])]),
  (44,[(5,[1,3,4])]),
  (46,[(3,[1,3,4])]),
  (53,[(3,[0,1,5,6])]),
  (57,[(8,[3,8,11,47,48])]),
  (58,[(4,[0,1,5])]),
  (72,[(4,[2,3,5])]),
  (74,[(3,[1,2,3,7,8])]),
  (75,[(4,[0,1,5])]),
  (76,[(2,[0,6,7,8])]),
  (84,[(2,[1,3]),(5,[1,3,4]),(10,[1,5]),(15,[1,5,6])]),
  (88,[(2,[2,3,6])]),
  (90,[(2,[2,6])]),
  (94,[(5,[0,3,4])]),
  (98,[(2,[1,2,4,5])]),
  (104,[(3,[0,5,6])]),
  (105,[(7,[0,1,5,17,18,19])]),
  (109,[(4,[0,1,5]),(9,[0,1,5,6])]),
  (124,[(8,[7,8])]),
  (126,[(1,[1,2,3,4,5,6]),(15,[1,2,3,4,5,6,9,13,93,94])]),
  (127,[(2,[2,4,10,11,12])]),
  (128,[(2,[3,4,8,9,10])]),
  (129,[(2,[2,3,5,8,12,13,14])]),
  (130,[(2,[2,6,7,8])]),
  (131,[(2,[1,3]),(7,[1,4]),(13,[1,4,5,6])]),
  (132,[(2,[1,3])]),
  (133,[(9,[1,2,3,4,10,11])]),
  (134,[(2,[0,1,5])]),
  (136,[(3,[1,2,4,21,22,23]),(7,[1,2,6,7,21,22,23,29]),(16,[1,2,6,7,8,9,21,22,23,29,75,76]),(23,[1,2,94])]),
  (139,[(1,[0,6])]),
  (155,[(2,[0,1,7,8])]),
  (158,[(4,[0,1,12,13])]),
  (159,[(3,[3,7,8])]),
  (177,[(2,[1,2,5])]),
  (178,[(2,[0,1,5])]),
  (195,[(9,[0,1,3,4,9,10,43,44,45])]),
  (204,[(2,[0,1,7,8])]),
  (218,[(2,[0,1,7,8])]),
  (227,[(4,[0,1,12,13])]),
  (228,[(4,[1,2,15,16,17])]),
  (234,[(2,[0,1,7,8])])],
 site:=[(61,[2]),(62,[3]),(80,[1,3,4,5]),(87,[1,3]),(96,[1]),(122,[2]),(138,[2]),(140,[3,4]),(145,[1]),(148,[1]),(157,[3,4]),(161,[1,3,4,5]),(168,[2]),(189,[3]),(191,[3]),(192,[2,3,5]),(194,[14]),(198,[5,7]),(209,[7]),(210,[9])] }
def Tm:Tw.qL:={ Tb with exts:=[],ext:=fun _ _ _=>none }
open Tw in
def afG:aZ:=fun fv xs h=>match fv with
 |.fn f a b=>if f=94 then a3C 94 (lu Tryz.prog Tm (2^24) 2) (.fn f a b) xs h else Pj 137 (.fn f a b) xs h
 |fv=>Pj 137 fv xs h
def T:Tw.qL:={ Tb with exts:=[94,137],ext:=afG,dem:=[87,88,90,138],din:=[136,139],a9E:=[138] }
open Pv
structure Rw where
 fr:LI0
 to:LI0
 cell:V
 deriving DecidableEq
structure Br where
 var:Int
 aA:LI0
 deriving DecidableEq
structure Dg where
 ah:LI0
 aB:LI0
 aJ:List V
 aj:List Br
 root:Int
 deriving DecidableEq
structure Ld where
 s:LI0
 cells:List V
 deriving DecidableEq
structure Fc where
 name:ByteArray
 d:Dg
 deriving DecidableEq
structure Pc where
 facts:Int
 goal:Bool
 deriving DecidableEq
abbrev nO:Dg:=⟨[],[],[],[],0⟩
abbrev Fc0:Fc:=⟨⟨#[]⟩,nO⟩
abbrev Pc0:Pc:=⟨0,false⟩
abbrev Rw0:Rw:=⟨[],[],V0⟩
abbrev jZ:Br:=⟨0,[]⟩
abbrev Ld0:Ld:=⟨[],[]⟩
inductive Kd where
 |i64|u8|u16|u64|b|o|k|v|rw|br|tb|vs|ld|dg|is|fc|pc|bl|bs|no
def Kd.T:Kd->Type
 |.i64|.u8|.u16|.u64=>Int
 |.dg=>Dg
 |.is=>LI0
 |.fc=>Fc
 |.pc=>Pc
 |.bl=>Bool
 |.bs=>List Bool
 |.b=>B
 |.o=>O
 |.k=>K
 |.v=>V
 |.rw=>Rw
 |.br=>Br
 |.tb=>List Rw
 |.vs=>List V
 |.ld=>Ld
 |.no=>Unit
def kd(t:Nat):Kd:=match t with
 | 3=>.i64
 | 5=>.u8
 | 900001=>.b
 | 900002=>.o
 | 900003=>.k
 | 900004=>.u16
 | 900005=>.u64
 | 26=>.dg
 | 22=>.is
 | 900006=>.fc
 | 900007=>.pc
 | 4=>.bl
 | 900008=>.bs
 | 39=>.v
 | 900009=>.rw
 | 105=>.br
 | 900010=>.tb
 | 23=>.vs
 | 900011=>.ld
 |_=>.no
def aG(t:Nat):Type:=(kd t).T
def Kd.z:(k:Kd)->k.T
 |.i64|.u8|.u16|.u64=>(0:Int)
 |.dg=>nO
 |.is=>([]:LI0)
 |.fc=>Fc0
 |.pc=>Pc0
 |.bl=>false
 |.bs=>([]:List Bool)
 |.b=>B0
 |.o=>O0
 |.k=>K0
 |.v=>V0
 |.rw=>Rw0
 |.br=>jZ
 |.tb=>([]:List Rw)
 |.vs=>([]:List V)
 |.ld=>Ld0
 |.no=>()
abbrev lI(l:LI0):PV aG:=.dJ 3 l false
abbrev lV(l:List V):PV aG:=.dJ 39 l false
abbrev lRw(l:List Rw):PV aG:=.dJ 900009 l false
abbrev lBr(l:List Br):PV aG:=.dJ 105 l false
abbrev lDg(l:List Dg):PV aG:=.dJ 26 l false
abbrev lB(l:List Bool):PV aG:=.dJ 4 l false
def B.ps(b:B):List (PV aG):=[.int .i64 b.lo,.int .i64 b.hi,.int .u8 b.f]
def O.ps(o:O):List (PV aG):=[.int .u8 o.code,.int .i64 o.a,.int .i64 o.b,.int .i64 o.c,.int .i64 o.n]
def K.ps(c:K):List (PV aG):=[.str c.name,.int .i64 c.lo,.int .i64 c.hi]
def V.ps(v:V):List (PV aG):=[.int .u8 v.f,.int .i64 v.n]
def Rw.ps(r:Rw):List (PV aG):=[lI r.fr,lI r.to,.int .u8 r.cell.f,.int .i64 r.cell.n]
def Br.ps(b:Br):List (PV aG):=[.int .i64 b.var,lI b.aA]
def Ld.ps(x:Ld):List (PV aG):=[lI x.s,lV x.cells]
def Dg.ps(d:Dg):List (PV aG):=[lI d.ah,lI d.aB,lV d.aJ,lBr d.aj,.int .i64 d.root]
def Fc.ps(x:Fc):List (PV aG):=.str x.name::x.d.ps
def Pc.ps(x:Pc):List (PV aG):=[.int .u64 x.facts,.bool x.goal]
def B.un(l:List (PV aG)):Option B:=match l with
 | [.int .i64 a,.int .i64 b,.int .u8 c]=>some ⟨a,b,c⟩
 |_=>none
def O.un(l:List (PV aG)):Option O:=match l with
 | [.int .u8 c,.int .i64 x,.int .i64 y,.int .i64 z,.int .i64 n]=>some ⟨c,x,y,z,n⟩
 |_=>none
def K.un(l:List (PV aG)):Option K:=match l with
 | [.str c,.int .i64 x,.int .i64 y]=>some ⟨c,x,y⟩
 |_=>none
def V.un(l:List (PV aG)):Option V:=match l with
 | [.int .u8 c,.int .i64 x]=>some ⟨c,x⟩
 |_=>none
def I.un(k:IntKind)(l:List (PV aG)):Option Int:=match l with
 | [.int k' x]=>if k'=k then some x else none
 |_=>none
def L.un(t:Nat)(v:PV aG):Option (List (aG t)):=match v with
 |.dJ t' l _=>BG t t' l
 |.nil .aQ=>some []
 |_=>none
def Rw.un(l:List (PV aG)):Option Rw:=match l with
 | [a,b,.int .u8 c,.int .i64 x]=>match L.un 3 a,L.un 3 b with
  |some a,some b=>some ⟨a,b,⟨c,x⟩⟩
  |_,_=>none
 |_=>none
def Br.un(l:List (PV aG)):Option Br:=match l with
 | [.int .i64 x,a]=>match L.un 3 a with
  |some a=>some ⟨x,a⟩
  |none=>none
 |_=>none
def Tb.un(l:List (PV aG)):Option (List Rw):=match l with
 | [a]=>L.un 900009 a
 |_=>none
def Vs.un(l:List (PV aG)):Option (List V):=match l with
 | [a]=>L.un 39 a
 |_=>none
def Ld.un(l:List (PV aG)):Option Ld:=match l with
 | [a,b]=>match L.un 3 a,L.un 39 b with
  |some a,some b=>some ⟨a,b⟩
  |_,_=>none
 |_=>none
def Dg.un(l:List (PV aG)):Option Dg:=match l with
 | [a,b,c,d,.int .i64 r]=>match L.un 3 a,L.un 3 b,L.un 39 c,L.un 105 d with
  |some a,some b,some c,some d=>some ⟨a,b,c,d,r⟩
  |_,_,_,_=>none
 |_=>none
def Is.un(l:List (PV aG)):Option LI0:=match l with
 | [a]=>L.un 3 a
 |_=>none
def Fc.un(l:List (PV aG)):Option Fc:=match l with
 |.str n::r=>(Dg.un r).map (⟨n,·⟩)
 |_=>none
def Pc.un(l:List (PV aG)):Option Pc:=match l with
 | [.int .u64 n,.bool b]=>some ⟨n,b⟩
 |_=>none
def Bl.un(l:List (PV aG)):Option Bool:=match l with
 | [.bool b]=>some b
 |_=>none
def Bs.un(l:List (PV aG)):Option (List Bool):=match l with
 | [a]=>L.un 4 a
 |_=>none
def Kd.enc:(k:Kd)->k.T->List (PV aG)
 |.i64=>fun n=>[.int .i64 n]
 |.u8=>fun n=>[.int .u8 n]
 |.u16=>fun n=>[.int .u16 n]
 |.u64=>fun n=>[.int .u64 n]
 |.dg=>Dg.ps
 |.is=>fun l=>[lI l]
 |.fc=>Fc.ps
 |.pc=>Pc.ps
 |.bl=>fun b=>[.bool b]
 |.bs=>fun l=>[lB l]
 |.b=>B.ps
 |.o=>O.ps
 |.k=>K.ps
 |.v=>V.ps
 |.rw=>Rw.ps
 |.br=>Br.ps
 |.tb=>fun l=>[lRw l]
 |.vs=>fun l=>[lV l]
 |.ld=>Ld.ps
 |.no=>fun _=>[]
def Kd.dec:(k:Kd)->List (PV aG)->Option k.T
 |.i64=>I.un .i64
 |.u8=>I.un .u8
 |.u16=>I.un .u16
 |.u64=>I.un .u64
 |.dg=>Dg.un
 |.is=>Is.un
 |.fc=>Fc.un
 |.pc=>Pc.un
 |.bl=>Bl.un
 |.bs=>Bs.un
 |.b=>B.un
 |.o=>O.un
 |.k=>K.un
 |.v=>V.un
 |.rw=>Rw.un
 |.br=>Br.un
 |.tb=>Tb.un
 |.vs=>Vs.un
 |.ld=>Ld.un
 |.no=>fun _=>none
def X0:kX:=⟨aG,fun t=>(kd t).z,fun t=>(kd t).enc,fun t=>(kd t).dec⟩
theorem B.vP{l:List (PV aG)}{b:B}(h:B.un l=some b):B.ps b=l:=by
 unfold B.un at h;split at h
 .cases h;rfl
 cases h
theorem O.vP{l:List (PV aG)}{b:O}(h:O.un l=some b):O.ps b=l:=by
 unfold O.un at h;split at h
 .cases h;rfl
 cases h
theorem K.vP{l:List (PV aG)}{b:K}(h:K.un l=some b):K.ps b=l:=by
 unfold K.un at h;split at h
 .cases h;rfl
 cases h
theorem V.vP{l:List (PV aG)}{b:V}(h:V.un l=some b):V.ps b=l:=by
 unfold V.un at h;split at h
 .cases h;rfl
 cases h
theorem I.vP{k:IntKind}{l:List (PV aG)}{b:Int}(h:I.un k l=some b):[PV.int k b]=l:=by
 unfold I.un at h;split at h
 .split at h
  .rename_i e;cases h;rw[e]
  cases h
 cases h
section
variable {A:Nat->Prop} {m:List MB} {h:List HB}
theorem L.iY{t:Nat}{v:PV aG}{l:List (aG t)}(hu:L.un t v=some l){x:TV}(hv:VR X0 Tryz.prog A m h v x):VR X0 Tryz.prog A m h (.dJ t l false) x:=(a6R (X:=X0) (P:=Tryz.prog) t).ok (a:=l) (v:=v) (by
 cases v with
 |nil k=>cases k<;>first|exact hu|cases hu
 |dJ t' l' f=>exact hu
 |_=>cases hu) hv
theorem Rw.iY{l:List (PV aG)}{r:Rw}(hu:Rw.un l=some r){xs:List TV}(hv:bW X0 Tryz.prog A m h l xs):bW X0 Tryz.prog A m h r.ps xs:=by
 unfold Rw.un at hu;split at hu
 .split at hu
  .rename_i e1 e2;cases hu;obtain⟨x1,r1,rfl,h1,hv⟩:=hv.inv;obtain⟨x2,r2,rfl,h2,hv⟩:=hv.inv;exact .cons (L.iY e1 h1) (.cons (L.iY e2 h2) hv)
  cases hu
 cases hu
theorem Br.iY{l:List (PV aG)}{r:Br}(hu:Br.un l=some r){xs:List TV}(hv:bW X0 Tryz.prog A m h l xs):bW X0 Tryz.prog A m h r.ps xs:=by
 unfold Br.un at hu;split at hu
 .split at hu
  .rename_i e1;cases hu;obtain⟨x1,r1,rfl,h1,hv⟩:=hv.inv;obtain⟨x2,r2,rfl,h2,hv⟩:=hv.inv;exact .cons h1 (.cons (L.iY e1 h2) hv)
  cases hu
 cases hu
theorem Ld.iY{l:List (PV aG)}{r:Ld}(hu:Ld.un l=some r){xs:List TV}(hv:bW X0 Tryz.prog A m h l xs):bW X0 Tryz.prog A m h r.ps xs:=by
 unfold Ld.un at hu;split at hu
 .split at hu
  .rename_i e1 e2;cases hu;obtain⟨x1,r1,rfl,h1,hv⟩:=hv.inv;obtain⟨x2,r2,rfl,h2,hv⟩:=hv.inv;exact .cons (L.iY e1 h1) (.cons (L.iY e2 h2) hv)
  cases hu
 cases hu
theorem Tb.iY{l:List (PV aG)}{r:List Rw}(hu:Tb.un l=some r){xs:List TV}(hv:bW X0 Tryz.prog A m h l xs):bW X0 Tryz.prog A m h [lRw r] xs:=by
 rcases l with _|⟨a,_|⟨b,l⟩⟩
 .cases hu
 .obtain⟨x1,r1,rfl,h1,hv⟩:=hv.inv;exact .cons (L.iY hu h1) hv
 cases hu
theorem Vs.iY{l:List (PV aG)}{r:List V}(hu:Vs.un l=some r){xs:List TV}(hv:bW X0 Tryz.prog A m h l xs):bW X0 Tryz.prog A m h [lV r] xs:=by
 rcases l with _|⟨a,_|⟨b,l⟩⟩
 .cases hu
 .obtain⟨x1,r1,rfl,h1,hv⟩:=hv.inv;exact .cons (L.iY hu h1) hv
 cases hu
theorem Dg.iY{l:List (PV aG)}{r:Dg}(hu:Dg.un l=some r){xs:List TV}(hv:bW X0 Tryz.prog A m h l xs):bW X0 Tryz.prog A m h r.ps xs:=by
 unfold Dg.un at hu;split at hu
 .split at hu
  .rename_i e1 e2 e3 e4;cases hu;obtain⟨x1,r1,rfl,h1,hv⟩:=hv.inv;obtain⟨x2,r2,rfl,h2,hv⟩:=hv.inv;obtain⟨x3,r3,rfl,h3,hv⟩:=hv.inv;obtain⟨x4,r4,rfl,h4,hv⟩:=hv.inv;exact .cons (L.iY e1 h1) (.cons (L.iY e2 h2) (.cons (L.iY e3 h3) (.cons (L.iY e4 h4) hv)))
  cases hu
 cases hu
theorem Is.iY{l:List (PV aG)}{r:LI0}(hu:Is.un l=some r){xs:List TV}(hv:bW X0 Tryz.prog A m h l xs):bW X0 Tryz.prog A m h [lI r] xs:=by
 rcases l with _|⟨a,_|⟨b,l⟩⟩
 .cases hu
 .obtain⟨x1,r1,rfl,h1,hv⟩:=hv.inv;exact .cons (L.iY hu h1) hv
 cases hu
theorem Bs.iY{l:List (PV aG)}{r:List Bool}(hu:Bs.un l=some r){xs:List TV}(hv:bW X0 Tryz.prog A m h l xs):bW X0 Tryz.prog A m h [lB r] xs:=by
 rcases l with _|⟨a,_|⟨b,l⟩⟩
 .cases hu
 .obtain⟨x1,r1,rfl,h1,hv⟩:=hv.inv;exact .cons (L.iY hu h1) hv
 cases hu
theorem Bl.vP{l:List (PV aG)}{b:Bool}(h:Bl.un l=some b):[PV.bool b]=l:=by
 unfold Bl.un at h;split at h
 .cases h;rfl
 cases h
theorem Fc.iY{l:List (PV aG)}{r:Fc}(hu:Fc.un l=some r){xs:List TV}(hv:bW X0 Tryz.prog A m h l xs):bW X0 Tryz.prog A m h r.ps xs:=by
 unfold Fc.un at hu;split at hu
 .obtain⟨d,e1,rfl⟩:=a09.1 hu;obtain⟨x1,r1,rfl,h1,hv⟩:=hv.inv;exact .cons h1 (Dg.iY e1 hv)
 cases hu
theorem Pc.vP{l:List (PV aG)}{b:Pc}(h:Pc.un l=some b):Pc.ps b=l:=by
 unfold Pc.un at h;split at h
 .cases h;rfl
 cases h
theorem aaG:∀(k:Kd) {l:List (PV aG)} {a:k.T},k.dec l=some a->∀{xs:List TV},bW X0 Tryz.prog A m h l xs->bW X0 Tryz.prog A m h (k.enc a) xs
 |.i64,_,_,e,_,hv=>by rw[show Kd.enc .i64 _=_ from I.vP e];exact hv
 |.u8,_,_,e,_,hv=>by rw[show Kd.enc .u8 _=_ from I.vP e];exact hv
 |.u16,_,_,e,_,hv=>by rw[show Kd.enc .u16 _=_ from I.vP e];exact hv
 |.u64,_,_,e,_,hv=>by rw[show Kd.enc .u64 _=_ from I.vP e];exact hv
 |.dg,_,_,e,_,hv=>Dg.iY e hv
 |.is,_,_,e,_,hv=>Is.iY e hv
 |.fc,_,_,e,_,hv=>Fc.iY e hv
 |.pc,_,_,e,_,hv=>by rw[show Kd.enc .pc _=_ from Pc.vP e];exact hv
 |.bl,_,_,e,_,hv=>by rw[show Kd.enc .bl _=_ from Bl.vP e];exact hv
 |.bs,_,_,e,_,hv=>Bs.iY e hv
 |.b,_,_,e,_,hv=>by rw[show Kd.enc .b _=_ from B.vP e];exact hv
 |.o,_,_,e,_,hv=>by rw[show Kd.enc .o _=_ from O.vP e];exact hv
 |.k,_,_,e,_,hv=>by rw[show Kd.enc .k _=_ from K.vP e];exact hv
 |.v,_,_,e,_,hv=>by rw[show Kd.enc .v _=_ from V.vP e];exact hv
 |.rw,_,_,e,_,hv=>Rw.iY e hv
 |.br,_,_,e,_,hv=>Br.iY e hv
 |.tb,_,_,e,_,hv=>Tb.iY e hv
 |.vs,_,_,e,_,hv=>Vs.iY e hv
 |.ld,_,_,e,_,hv=>Ld.iY e hv
 |.no,_,_,e,_,_=>by cases e
end
theorem a3O:∀(k:Kd) (a:k.T),jr.Ho (k.enc a)=true:=by intro k a;cases k<;>rfl
theorem hX:bT X0 Tryz.prog:=⟨fun{t} vs a e {A m hh xs} hv=>aaG (kd t) e hv,fun t a=>a3O (kd t) a⟩
abbrev Arg(α:Type):=Ar X0 Tryz.prog α
def iA:Arg Int:=afj .i64
def uA:Arg Int:=afj .u8
def tA:Arg Bool:=aj1
def vA:Arg V:=aj2 hX 39
def brA:Arg Br:=aj2 hX 105
def qO:Arg LI0:=a6R 3
def vsA:Arg (List V):=a6R 39
def aaH:Arg (List Br):=a6R 105
def apa:Arg (List Dg):=a6R 26
def pA:Arg Int:=afj .u64
def dA:Arg Dg:=afl (a6S (LK qO (a4 qO vsA aaH iA))) (fun p=>⟨p.1,p.2.1,p.2.2.1,p.2.2.2.1,p.2.2.2.2⟩) (fun d=>(d.ah,d.aB,d.aJ,d.aj,d.root)) fun _=>rfl
abbrev LL:Nat:=2^24
abbrev Gd(fV:fF aG):Prop:=Pv.Good X0 Tryz.prog T LL fV
abbrev iE(n:Nat):aZ:=lu Tryz.prog T LL n
theorem Tq:au<LL:=by decide
abbrev Lp(n f k:Nat)(s:aU aG)(e:Ex)(s':aU aG):Prop:=dN X0 Tryz.prog T (iE n) LL f false (Ce Tryz.prog f) 0 (.loop (SI Tryz.prog f k)) s e s'
abbrev Ok(n:Nat)(fV:fF aG):Prop:=jJ X0 Tryz.prog (iE n) fV
abbrev xi(n:Int):PE aG:=.val (.int .i64 n)
abbrev xu(n:Int):PE aG:=.val (.int .u8 n)
abbrev xl(b:Bool):PE aG:=.val (.lit b)
abbrev xL(t:Nat)(l:List (aG t)):PE aG:=.val (.dJ t l false)
abbrev xo(b:Nat):PE aG:=.val (.own b)
theorem le0:0<=au:=by decide
theorem le1:1<=au:=by decide
theorem YM:2<=au:=by decide
theorem le3:3<=au:=by decide
theorem le8:8<=LL:=by decide
theorem gJ{n:Nat}:Ok n (aav (X:=X0)):=fun f vs v ext ps h=>by cases h
abbrev Nr(n f k B:Nat)(s:aU aG)(e:Ex)(s':aU aG):Prop:=dN X0 Tryz.prog T (iE n) LL f false (Ce Tryz.prog f) B (.loop (SI Tryz.prog f k)) s e s'
abbrev Qp:LI1:=Tryz.prog
abbrev iW(n:Nat):=dG X0 Tryz.prog (iE n)
theorem iD{α:Type}{a:α}{l:List α}:a∈a::l:=.head _
theorem Ah{α:Type}{a b:α}{l:List α}:a∈b::a::l:=.tail _ (.head _)
theorem hh2{α:Type}{a b c:α}{l:List α}:a∈b::c::a::l:=.tail _ (.tail _ (.head _))
theorem aP{β:Type}{n f:Nat}{fV:fF aG}(hO:Ok n fV){vs:List (PV aG)}{an:PT aG}{r:Ar X0 Tryz.prog β}{s:β}{o:OT (Option (PV aG))}(ht:Fp (Is r s) an o)
  (hk:(D8 X0 Tryz.prog T fV (dG X0 Tryz.prog (iE n)) (BI X0 Tryz.prog T (iE n) LL f 0) LL f vs [] an).map frz=o:=by kernel_rfl):pR X0 Tryz.prog (iE (n+1)) f vs (r.put s) []:=aj6 hX hO hk ht
theorem jq{β:Type}{n f:Nat}{fV:fF aG}(hO:Ok n fV){first xs cap:List (PV aG)}{H H1:List (PB aG)}{an:PT aG}{r:Ar X0 Tryz.prog β}{s:β}{o:OT (PV aG×List (PB aG))}(ht:Fp (IsS r s H1) an o)
  (hk:D8 X0 Tryz.prog T fV (dG X0 Tryz.prog (iE n)) (BI X0 Tryz.prog T (iE n) LL f H.length) LL f (first++xs++cap) H an=o:=by kernel_rfl):dG X0 Tryz.prog (iE (n+1)) (.fn f first cap) xs H (r.put s) H1:=Dj hX hO hk ht
theorem fH{n f:Nat}{fV:fF aG}(hO:Ok n fV){first xs cap:List (PV aG)}{H H1:List (PB aG)}{v:PV aG}{an:PT aG}{o:OT (PV aG×List (PB aG))}(ht:Fp (IsE (X:=X0) v H1) an o)
  (hk:D8 X0 Tryz.prog T fV (dG X0 Tryz.prog (iE n)) (BI X0 Tryz.prog T (iE n) LL f H.length) LL f (first++xs++cap) H an=o:=by kernel_rfl):dG X0 Tryz.prog (iE (n+1)) (.fn f first cap) xs H v H1:=nD hX hO hk ht
theorem aN{call:aZ}{fV:fF aG}{L f:Nat}{gY:Bool}{nt B:Nat}(hO:jJ X0 Tryz.prog call fV){b:Code}{n:Nat}{ps:aU aG}{an:PT aG}{e:Ex}{s:aU aG}{o:OT (Ex×aU aG)}(ht:Fp (Rnd X0 Tryz.prog T call L f gY nt B b n e s) an o)
  (hk:jQ X0 Tryz.prog T fV (dG X0 Tryz.prog call) (dN X0 Tryz.prog T call L f gY nt B) B L f gY nt b ps an (afi (gW X0 (T.eX f (dS b))) B)=o:=by kernel_rfl):dK X0 Tryz.prog T call L f gY nt B b (n+1) ps e s:=round hX hO hk ht
abbrev a7t(f:Nat)(a c:List (PV aG))(H:List (PB aG))(l:LI0)(i:Int)(x:List (Nat×PE aG)):aU aG:=⟨[(0,xL 3 l),(1,.val (.fn f a c)),(7,xi l.length),(8,xi i)]++x,[],H⟩
def z218(f:Nat)(a c:List (PV aG))(H:List (PB aG))(l:LI0):Unit⊕(Nat×Int×Unit)->Ex×aU aG
 |.inl _=>(.exit 0,a7t f a c H l l.length [(9,xl false)])
 |.inr r=>(.ret,⟨[(4,xi r.1)],[],H⟩)
theorem apc{n f:Nat}{a c:List (PV aG)}{H:List (PB aG)}{g:Int->Bool}(hf:∀x,iW n (.fn f a c) [.int .i64 x] H (.bool (g x)) H)(l:LI0)(hl:l.length<=au):iW (n+1) (.fn 218 [] []) [.dJ 3 l false,.fn f a c] H (iA.put (rU g l)) H:=by
 have lp:Nr n 218 0 H.length (a7t f a c H l 0 []) (z218 f a c H l (mW (qh g) l 0 ())).1 (z218 f a c H l (mW (qh g) l 0 ())).2:=
  Xl (st:=fun i _=>a7t f a c H l i []) (0:Int) (fun _ _=>True) (by kernel_rfl) hl Tq trivial (fun k s n hk _ ih=>aN gJ (.b (bD hk) (.o (aH hk) (.k (hf (l.getD k (0:Int))) (.ls (.ou nofun) (.nx (ih _ trivial))))))) (fun s _=>aN gJ (.b (fO l.length) (.ou nofun)))
 exact jq gJ (first:=[]) (cap:=[]) (.szh (fun h=>.w (kM lp () h) .sr) (fun h=>.w (kN lp (0,0,()) h) .sr))
theorem ajk{n f:Nat}(hn:0<n){a c:List (PV aG)}{H:List (PB aG)}{g:Int->Bool}(hf:∀x,dG X0 Qp (iE (n-1)) (.fn f a c) [.int .i64 x] H (.bool (g x)) H)(l:LI0)(hl:l.length<=au):iW (n+1) (.fn 181 [] []) [.dJ 3 l false,.fn f a c] H (tA.put (mY g l)) H:=by have h1:=apc hf l hl;rw[show n-1+1=n by omega]at h1;exact jq gJ (first:=[]) (cap:=[]) (.k h1 .sr)
abbrev afH(f:Nat)(a c:List (PV aG))(H:List (PB aG))(l:List V)(i:Int)(x:List (Nat×PE aG)):aU aG:=⟨[(0,xL 39 l),(1,.val (.fn f a c)),(7,xi l.length),(8,xi i)]++x,[],H⟩
def ajl(f:Nat)(a c:List (PV aG))(H:List (PB aG))(l:List V):Unit⊕(Nat×V×Unit)->Ex×aU aG
 |.inl _=>(.exit 0,afH f a c H l l.length [(9,xl false)])
 |.inr r=>(.ret,⟨[(4,xi r.1)],[],H⟩)
theorem ajm{n f:Nat}{a c:List (PV aG)}{H:List (PB aG)}{g:V->Bool}(hf:∀x,iW n (.fn f a c) [.agg x.ps] H (.bool (g x)) H)(l:List V)(hl:l.length<=au):iW (n+1) (.fn 155 [] []) [.dJ 39 l false,.fn f a c] H (iA.put (iJ g l)) H:=by
 have lp:Nr n 155 0 H.length (afH f a c H l 0 []) (ajl f a c H l (mW (jA g) l 0 ())).1 (ajl f a c H l (mW (jA g) l 0 ())).2:=
  Xl (st:=fun i _=>afH f a c H l i []) V0 (fun _ _=>True) (by kernel_rfl) hl Tq trivial (fun k s n hk _ ih=>aN gJ (.b (bD hk) (.o (aH hk) (.k (hf (l.getD k V0)) (.ls (.ou nofun) (.nx (ih _ trivial))))))) (fun s _=>aN gJ (.b (fO l.length) (.ou nofun)))
 exact jq gJ (first:=[]) (cap:=[]) (.szh (fun h=>.w (kM lp () h) .sr) (fun h=>.w (kN lp (0,V0,()) h) .sr))
theorem afI{n f:Nat}(hn:0<n){a c:List (PV aG)}{H:List (PB aG)}{g:V->Bool}(hf:∀x,dG X0 Qp (iE (n-1)) (.fn f a c) [.agg x.ps] H (.bool (g x)) H)(l:List V)(hl:l.length<=au):iW (n+1) (.fn 152 [] []) [.dJ 39 l false,.fn f a c] H (tA.put (qw g l)) H:=by have h1:=ajm hf l hl;rw[show n-1+1=n by omega]at h1;exact jq gJ (first:=[]) (cap:=[]) (.k h1 .sr)
def acK:fF aG:=dw 219 (a1 iA) tA (fun p=>Vb p) np (aav (X:=X0))
theorem ajn:Gd acK:=Good.nil.add fun n hO p hp=>aP hO .rr
def acL:fF aG:=dw 141 (a1 uA) vA (fun p=>Ih p) np acK
theorem ajo:Gd acL:=ajn.add fun n hO p hp=>aP hO .rr
def acM:fF aG:=dw 140 (a3 iA iA qO) tA (fun p=>wC p.2.2 p.1 p.2.1) (fun p=>[p.2.2.length<=au]) acL
theorem ajp:Gd acM:=ajo.deep 3 fun n hn hO p hp=>by have h1:∀x,dG X0 Qp (iE (n-3+1)) (.fn 182 [] [.ptr 0 0 1,.ptr 1 0 1]) [.int .i64 x] [.cells [.int .i64 p.1],.cells [.int .i64 p.2.1]] (tA.put (tZ x p.1 p.2.1)) [.cells [.int .i64 p.1],.cells [.int .i64 p.2.1]]:=fun x=>jq gJ (first:=[]) (.ssh (fun _=>.sr) (fun _=>.sr));obtain⟨n,rfl⟩:∃k,n=k+3:=⟨n-3,by omega⟩;rw[show n+3-3+1=n+1 by omega]at h1;have h2:=ajk (n:=n+2) (by omega) (g:=fun x=>tZ x p.1 p.2.1) h1 p.2.2 (hp _ iD);exact aP (hO _ (by omega)) (.k h2 (.v (!(mY (fun x=>tZ x p.1 p.2.1) p.2.2)) (by rw[Ep];rfl)))
theorem nan(x:Int):Vb x=false:=by simp[Vb]
def acN:fF aG:=dw 154 (a1 vA) tA (fun p=>xE p) np acM
theorem ajq:Gd acN:=ajp.add fun n hO p hp=>aP hO (.ss (.o le1 .rr) (.ss .rr .rr))
def acO:fF aG:=dw 100 (a1 iA) vA (fun p=>oO p) np acN
theorem ajr:Gd acO:=ajq.add fun n hO p hp=>aP hO (.o le1 (.ss .rr .rr))
def acP:fF aG:=dw 186 (a1 tA) vA (fun p=>PG p) np acO
theorem ajs:Gd acP:=ajr.add fun n hO p hp=>aP hO (.ss .rr .rr)
def acQ:fF aG:=dw 156 (a1 vA) tA (fun p=>o8 p) np acP
theorem ajt:Gd acQ:=ajs.add fun n hO p hp=>aP hO .rr
def acR:fF aG:=dw 153 (a1 vA) tA (fun p=>AY p) np acQ
theorem aju:Gd acR:=ajt.add fun n hO p hp=>aP hO .rr
def acS:fF aG:=dw 142 (a2 iA iA) vA (fun p=>JA p.1 p.2) np acR
theorem ajv:Gd acS:=aju.add fun n hO p hp=>aP hO .rr
def acT:fF aG:=dw 143 (a2 iA iA) vA (fun p=>JB p.1 p.2) np acS
theorem ajw:Gd acT:=ajv.add fun n hO p hp=>aP hO .rr
def acU:fF aG:=dw 144 (a2 iA iA) vA (fun p=>JC p.1 p.2) np acT
theorem ajx:Gd acU:=ajw.add fun n hO p hp=>aP hO .rr
def acV:fF aG:=dw 146 (a2 iA iA) iA (fun p=>Dx p.1 p.2) np acU
theorem ajy:Gd acV:=ajx.add fun n hO p hp=>aP hO .rr
def acW:fF aG:=dw 147 (a2 iA iA) iA (fun p=>Dy p.1 p.2) np acV
theorem ajz:Gd acW:=ajy.add fun n hO p hp=>aP hO .rr
def acX:fF aG:=dw 149 (a1 iA) tA (fun p=>Dz p) np acW
theorem ajA:Gd acX:=ajz.add fun n hO p hp=>aP hO .rr
def acY:fF aG:=dw 150 (a1 iA) tA (fun p=>DC p) np acX
theorem ajB:Gd acY:=ajA.add fun n hO p hp=>aP hO .rr
def acZ:fF aG:=dw 151 (a1 iA) tA (fun p=>DF p) np acY
theorem ajC:Gd acZ:=ajB.add fun n hO p hp=>aP hO .rr
def ad1:fF aG:=dw 184 (a2 iA iA) (dU (a2 iA iA)) (fun p=>uP p.1 p.2) (fun p=>[p.2≠0]) acZ
theorem ajD:Gd ad1:=ajC.add fun n hO p hp=>aP hO (.o (hp _ iD) (.o (hp _ iD) (.ss (.ss .rr .rr) .rr)))
def ad2:fF aG:=dw 187 (a2 iA iA) iA (fun p=>Jz p.1 p.2) np ad1
theorem ajE:Gd ad2:=ajD.add fun n hO p hp=>aP hO (.b (nan p.1) (.b (nan p.2) (.ss .rr (.ss .rr .rr))))
theorem apd{n:Nat}{fV:fF aG}(hO:Ok n fV)(ho:∀x:V,fV 156 [.agg x.ps]=some (.bool (o8 x),[],[]))(H:List (PB aG))(x:V):iW n (.fn 156 [] []) [.agg x.ps] H (.bool (o8 x)) H:=
 Nb hX hO (first:=[]) (cap:=[]) (vs:=[.agg x.ps]) (v:=.bool (o8 x)) rfl (ho x) (fun p h=>by cases h) rfl
theorem ape{n:Nat}{fV:fF aG}(hO:Ok n fV)(ho:∀x:V,fV 153 [.agg x.ps]=some (.bool (AY x),[],[]))(H:List (PB aG))(x:V):iW n (.fn 153 [] []) [.agg x.ps] H (.bool (AY x)) H:=
 Nb hX hO (first:=[]) (cap:=[]) (vs:=[.agg x.ps]) (v:=.bool (AY x)) rfl (ho x) (fun p h=>by cases h) rfl
def ad3:fF aG:=dw 103 (a1 vsA) (dU (a2 vA tA)) (fun p=>bP p) (fun p=>[p.length<=au]) ad2
theorem ajF:Gd ad3:=ajE.deep 2 fun n hn hO p hp=>by have hs:=ajm (n:=n-1) (H:=[]) (g:=fun v=>o8 v) (apd (hO (n-1) (by omega)) (fun _=>rfl) []) p (hp _ iD);rw[show n-1+1=n by omega]at hs;exact aP (hO n (by omega)) (.k hs (.sh (fun h=>.rr) (fun h=>.o (show fK (iJ (fun v=>o8 v) p) p.length from⟨by simpa using h,QJ _ _⟩) .rr)))
def ad4:fF aG:=dw 102 (a1 vsA) tA (fun p=>iw p) (fun p=>[p.length<=au]) ad3
theorem ajG:Gd ad4:=ajF.deep 3 fun n hn hO p hp=>by have hs:=afI (n:=n-1) (by omega) (H:=[]) (g:=fun v=>AY v) (ape (hO (n-2) (by omega)) (fun _=>rfl) []) p (hp _ iD);rw[show n-1+1=n by omega]at hs;exact aP (hO n (by omega)) (.k hs (.v (!(qw (fun v=>AY v) p)) (by rw[Jy];rfl)))
def ajH:fF aG:=dw 99 (a3 vA vA vA) (dU (a2 vA iA)) (fun p=>jL p.1 p.2.1 p.2.2) np ad4
theorem apf:Gd ajH:=ajG.add fun n hO p hp=>aP hO (.o le3 (.ss .rr (.ss .rr (.ss .rr .rr))))
def ajI:Arg Nat where
 put f:=.fn f [] []
 get v:=match v with
  |.fn g [] []=>some g
  |_=>none
 ok:=by
  intro v a hg A m h x hv;split at hg
  .cases hg;exact hv
  .cases hg
def ad5:fF aG:=ZX 145 (a1 ajI) (fun _=>.fn 183 [] [.ptr 0 0 1]) (fun g=>[.cells [.fn g [] []]]) np ajH
theorem ajJ:Gd ad5:=apf.Xn 0 fun n _ hO p hp=>BJ hX (hO n (by omega)) (by kernel_rfl) .er
def ad6:fF aG:=ZX 148 (a1 ajI) (fun _=>.fn 185 [] [.ptr 0 0 1]) (fun g=>[.cells [.fn g [] []]]) np ad5
theorem ajK:Gd ad6:=ajJ.Xn 0 fun n _ hO p hp=>BJ hX (hO n (by omega)) (by kernel_rfl) .er
def apg(p:Int):PV aG:=if p=7 then .fn 142 [] []else if p=8 then .fn 143 [] []else if p=9 then .fn 144 [] []else if p=10 then .fn 183 [] [.ptr 0 0 1]else if p=11 then .fn 183 [] [.ptr 0 0 1]else .fn 185 [] [.ptr 0 0 1]
def aph(p:Int):List (PB aG):=if p=10 then [.cells [.fn 146 [] []]]else if p=11 then [.cells [.fn 147 [] []]]else if p=12 then [.cells [.fn 149 [] []]]else if p=13 then [.cells [.fn 150 [] []]]else if p=14 then [.cells [.fn 151 [] []]]else []
def PL:fF aG:=ZX 101 (a1 uA) apg aph (fun p=>[7<=p∧p<=14]) ad6
theorem seven{p:Int}(h:7<=p∧p<=14):p=7∨p=8∨p=9∨p=10∨p=11∨p=12∨p=13∨p=14:=by omega
theorem ajL:Gd PL:=ajK.Xn 0 fun n _ hO p hp=>by
 rcases seven (hp _ iD)with rfl|rfl|rfl|rfl|rfl|rfl|rfl|rfl
 .exact BJ hX (hO n (by omega)) (by kernel_rfl) (.b (rfl:true=true) .er)
 .exact BJ hX (hO n (by omega)) (by kernel_rfl) (.b (rfl:false=false) (.b (rfl:true=true) .er))
 .exact BJ hX (hO n (by omega)) (by kernel_rfl) (.b (rfl:false=false) (.b (rfl:false=false) (.b (rfl:true=true) .er)))
 .exact BJ hX (hO n (by omega)) (by kernel_rfl) (.b (rfl:false=false) (.b (rfl:false=false) (.b (rfl:false=false) (.b (rfl:true=true) .er))))
 .exact BJ hX (hO n (by omega)) (by kernel_rfl) (.b (rfl:false=false) (.b (rfl:false=false) (.b (rfl:false=false) (.b (rfl:false=false) (.b (rfl:true=true) .er)))))
 .exact BJ hX (hO n (by omega)) (by kernel_rfl) (.b (rfl:false=false) (.b (rfl:false=false) (.b (rfl:false=false) (.b (rfl:false=false) (.b (rfl:false=false) (.b (rfl:true=true) .er))))))
 .exact BJ hX (hO n (by omega)) (by kernel_rfl) (.b (rfl:false=false) (.b (rfl:false=false) (.b (rfl:false=false) (.b (rfl:false=false) (.b (rfl:false=false) (.b (rfl:false=false) (.b (rfl:true=true) .er)))))))
 .exact BJ hX (hO n (by omega)) (by kernel_rfl) (.b (rfl:false=false) (.b (rfl:false=false) (.b (rfl:false=false) (.b (rfl:false=false) (.b (rfl:false=false) (.b (rfl:false=false) (.b (rfl:false=false) (.b (rfl:true=true) .er))))))))
theorem aaI{n:Nat}(hO:Ok n PL)(a b:V)(x y:Int):iW (n+1) (.fn 183 [] [.ptr 0 0 1]) [.int .i64 x,.int .i64 y] [.cells [.fn 146 [] []],.list true true 39 [a,b],.list true true 39 [a,b]] (vA.put (iK Dx x y)) [.cells [.fn 146 [] []],.list true true 39 [a,b],.list true true 39 [a,b]]:=
 jq hO (first:=[]) (.ssh (fun _=>.sr) (fun h=>.o (show y≠0 by simpa using h) .sr))
theorem aaJ{n:Nat}(hO:Ok n PL)(a b:V)(x y:Int):iW (n+1) (.fn 183 [] [.ptr 0 0 1]) [.int .i64 x,.int .i64 y] [.cells [.fn 147 [] []],.list true true 39 [a,b],.list true true 39 [a,b]] (vA.put (iK Dy x y)) [.cells [.fn 147 [] []],.list true true 39 [a,b],.list true true 39 [a,b]]:=
 jq hO (first:=[]) (.ssh (fun _=>.sr) (fun h=>.o (show y≠0 by simpa using h) .sr))
theorem aaK{n:Nat}(hO:Ok n PL)(a b:V)(x y:Int):iW (n+1) (.fn 185 [] [.ptr 0 0 1]) [.int .i64 x,.int .i64 y] [.cells [.fn 149 [] []],.list true true 39 [a,b],.list true true 39 [a,b]] (vA.put (dR Dz x y)) [.cells [.fn 149 [] []],.list true true 39 [a,b],.list true true 39 [a,b]]:=
 jq hO (first:=[]) .sr
theorem aaL{n:Nat}(hO:Ok n PL)(a b:V)(x y:Int):iW (n+1) (.fn 185 [] [.ptr 0 0 1]) [.int .i64 x,.int .i64 y] [.cells [.fn 150 [] []],.list true true 39 [a,b],.list true true 39 [a,b]] (vA.put (dR DC x y)) [.cells [.fn 150 [] []],.list true true 39 [a,b],.list true true 39 [a,b]]:=
 jq hO (first:=[]) .sr
theorem aaM{n:Nat}(hO:Ok n PL)(a b:V)(x y:Int):iW (n+1) (.fn 185 [] [.ptr 0 0 1]) [.int .i64 x,.int .i64 y] [.cells [.fn 151 [] []],.list true true 39 [a,b],.list true true 39 [a,b]] (vA.put (dR DF x y)) [.cells [.fn 151 [] []],.list true true 39 [a,b],.list true true 39 [a,b]]:=
 jq hO (first:=[]) .sr
def ajM:fF aG:=dw 45 (a3 uA vA vA) (dU (a2 vA iA)) (fun p=>Ii p.1 p.2.1 p.2.2) (fun p=>[7<=p.1∧p.1<=16]) PL
theorem apj:Gd ajM:=ajL.deep 1 fun n hn hO p hp=>by
 obtain⟨n,rfl⟩:∃k,n=k+1:=⟨n-1,by omega⟩;have BZ:=hO n (by omega);have hO:=hO (n+1) (by omega);obtain⟨k,a,b⟩:=p;rcases nine (show 7<=k∧k<=16 from hp _ iD)with rfl|rfl|rfl|rfl|rfl|rfl|rfl|rfl|rfl|rfl
 .have:pR X0 Qp (iE (n+1+1)) 45 ((a3 uA vA vA).put (7,a,b)) ((dU (a2 vA iA)).put (rW a b)) []:=aP hO (.b (rfl:false=false) (.b (rfl:false=false) (.o (by decide:(7:Int)<=7∧(7:Int)<=14) (.b (rfl:false=false) (.o YM (.ss .rr (.o YM (.ss .rr .rr))))))));exact this
 .have:pR X0 Qp (iE (n+1+1)) 45 ((a3 uA vA vA).put (8,a,b)) ((dU (a2 vA iA)).put (rX a b)) []:=aP hO (.b (rfl:false=false) (.b (rfl:false=false) (.o (by decide:(7:Int)<=8∧(8:Int)<=14) (.b (rfl:false=false) (.o YM (.ss .rr (.o YM (.ss .rr .rr))))))));exact this
 .have:pR X0 Qp (iE (n+1+1)) 45 ((a3 uA vA vA).put (9,a,b)) ((dU (a2 vA iA)).put (rY a b)) []:=aP hO (.b (rfl:false=false) (.b (rfl:false=false) (.o (by decide:(7:Int)<=9∧(9:Int)<=14) (.b (rfl:false=false) (.o YM (.ss .rr (.o YM (.ss .rr .rr))))))));exact this
 .have:pR X0 Qp (iE (n+1+1)) 45 ((a3 uA vA vA).put (10,a,b)) ((dU (a2 vA iA)).put (oP a b)) []:=aP hO (.b (rfl:false=false) (.b (rfl:false=false) (.o (by decide:(7:Int)<=10∧(10:Int)<=14) (.b (rfl:false=false) (.o YM (.ss .rr (.o YM (.ss .rr (.k (aaI BZ a b a.n b.n) .rr)))))))));exact this
 .have:pR X0 Qp (iE (n+1+1)) 45 ((a3 uA vA vA).put (11,a,b)) ((dU (a2 vA iA)).put (oQ a b)) []:=aP hO (.b (rfl:false=false) (.b (rfl:false=false) (.o (by decide:(7:Int)<=11∧(11:Int)<=14) (.b (rfl:false=false) (.o YM (.ss .rr (.o YM (.ss .rr (.k (aaJ BZ a b a.n b.n) .rr)))))))));exact this
 .have:pR X0 Qp (iE (n+1+1)) 45 ((a3 uA vA vA).put (12,a,b)) ((dU (a2 vA iA)).put (oU a b)) []:=aP hO (.b (rfl:false=false) (.b (rfl:false=false) (.o (by decide:(7:Int)<=12∧(12:Int)<=14) (.b (rfl:false=false) (.o YM (.ss .rr (.o YM (.ss .rr (.k (aaK BZ a b a.n b.n) .rr)))))))));exact this
 .have:pR X0 Qp (iE (n+1+1)) 45 ((a3 uA vA vA).put (13,a,b)) ((dU (a2 vA iA)).put (oV a b)) []:=aP hO (.b (rfl:false=false) (.b (rfl:false=false) (.o (by decide:(7:Int)<=13∧(13:Int)<=14) (.b (rfl:false=false) (.o YM (.ss .rr (.o YM (.ss .rr (.k (aaL BZ a b a.n b.n) .rr)))))))));exact this
 .have:pR X0 Qp (iE (n+1+1)) 45 ((a3 uA vA vA).put (14,a,b)) ((dU (a2 vA iA)).put (oW a b)) []:=aP hO (.b (rfl:false=false) (.b (rfl:false=false) (.o (by decide:(7:Int)<=14∧(14:Int)<=14) (.b (rfl:false=false) (.o YM (.ss .rr (.o YM (.ss .rr (.k (aaM BZ a b a.n b.n) .rr)))))))));exact this
 .have:pR X0 Qp (iE (n+1+1)) 45 ((a3 uA vA vA).put (15,a,b)) ((dU (a2 vA iA)).put (uf a b)) []:=aP hO (.b (rfl:true=true) .rr);exact this
 .have:pR X0 Qp (iE (n+1+1)) 45 ((a3 uA vA vA).put (16,a,b)) ((dU (a2 vA iA)).put (ug a b)) []:=aP hO (.b (rfl:false=false) (.b (rfl:true=true) .rr));exact this
open Go Tw Pv bQ
def ajN:fF aG:=dw 23 (a3 iA iA iA) tA (fun p=>nI p.1 p.2.1 p.2.2) np ajM
theorem apk:Gd ajN:=apj.add fun n hO p hp=>aP hO (.ss .rr .rr)
abbrev KX(a b:LI0)(k:Nat):Bool:=a.getD k 0 != b.getD k 0
abbrev w32(a b:LI0)(i:Int)(x:List (Nat×PE aG)):aU aG:=⟨[(0,xL 3 a),(1,xL 3 b),(5,xi i)]++x,[],[]⟩
def z32(a b:LI0):Unit⊕Nat->Ex×aU aG
 |.inl _=>(.exit 0,w32 a b a.length [(14,xl false)])
 |.inr _=>(.ret,⟨[(4,xl false)],[],[]⟩)
theorem l32{n:Nat}{fV:fF aG}(hO:Ok n fV)(a b:LI0)(hl:a.length<=au)(h:a.length=b.length):Lp n 32 0 (w32 a b 0 []) (z32 a b (bM (KX a b) a.length)).1 (z32 a b (bM (KX a b) a.length)).2:=
 P8 (st:=fun i _=>w32 a b i []) (fun _ _=>True) (by kernel_rfl) hl Tq trivial (fun k s n hk _ ih=>aN hO (.b (bD hk) (.o (aH hk) (.o (aH (h▸hk)) (.ls (.ou nofun) (.nx (ih _ trivial))))))) (fun s _=>aN hO (.b (fO a.length) (.ou nofun)))
theorem Es{a b:LI0}(h:a.length=b.length):kR (bM (KX a b) a.length)=decide (a=b):=by rw[a5c,dQ,a0S,oM (d:=0) h];simp[KX]
theorem a7u{a b:LI0}(h:((a.length:Int) != (b.length:Int))=true):decide (a=b)=false:=by rw[a3b];rintro rfl;simp at h
theorem lT{α β:Type}{a:List α}{b:List β}(h:((a.length:Int) != (b.length:Int))=false):a.length=b.length:=by simp at h;omega
def ajO:fF aG:=dw 32 (a2 qO qO) tA (fun p=>decide (p.1=p.2)) (fun p=>[p.1.length<=au]) ajN
theorem apm:Gd ajO:=apk.add fun n hO p hp=>aP hO (.s (fun h=>.v false (a7u h).symm) fun h=>.z (c:=kR (bM (KX p.1 p.2) p.1.length)) (fun h2=>.w (kM (l32 hO p.1 p.2 (hp _ iD) (lT h)) () h2) (.v true (by rw[<-Es (lT h),h2]))) fun h2=>.w (kN (l32 hO p.1 p.2 (hp _ iD) (lT h)) 0 h2) (.v false (by rw[<-Es (lT h),h2])))
abbrev aaN(a:LI0)(n i:Int)(x:List (Nat×PE aG)):aU aG:=⟨[(0,xL 3 a),(5,xi n),(6,xi i)]++x,[],[]⟩
theorem apn{n:Nat}{fV:fF aG}(hO:Ok n fV)(a:LI0)(hl:a.length<=au):Lp n 104 0 (aaN a 1 0 []) (.exit 0) (aaN a (Fj a) a.length [(11,xl false)]):=
 P9 (st:=fun i n=>aaN a n i []) (fin:=fun n=>aaN a n a.length [(11,xl false)]) (fun _ _=>True) (by kernel_rfl) hl Tq trivial (fun _ _ _ _=>trivial) (fun k s hk _ n e p h=>aN hO (.b (bD hk) (.o (aH hk) (.go h)))) (fun s _=>aN hO (.b (fO a.length) .ex))
def ad7:fF aG:=dw 104 (a2 qO iA) iA (fun p=>Fj p.1) (fun p=>[p.1.length<=au,p.2=0]) ajO
theorem ajP:Gd ad7:=apm.add fun n hO p hp=>by obtain⟨a,k⟩:=p;have h0:k=0:=hp _ Ah;subst h0;exact aP hO (.w (apn hO a (hp _ iD)) .rr)
def afJ:fF aG:=dw 49 (a1 qO) iA (fun p=>Fj p) (fun p=>[p.length<=au]) ad7
theorem apo:Gd afJ:=ajP.add fun n hO p hp=>aP hO (.o (hp _ iD) (.o (rfl:(0:Int)=0) .rr))
abbrev KY(b:LI0)(k j:Nat):Bool:=b.getD j 0==b.getD k 0
abbrev a3Q(a b:LI0)(i:Int)(x:List (Nat×PE aG)):aU aG:=⟨[(0,xL 3 a),(1,xL 3 b),(5,xi i)]++x,[],[]⟩
def ad8(a b:LI0)(k:Int)(i:Int):Unit⊕Nat->Ex×aU aG
 |.inl _=>(.exit 2,a3Q a b k [(6,xi i),(29,xl false)])
 |.inr _=>(.ret,⟨[(4,xl false)],[],[]⟩)
theorem ad9{n:Nat}{fV:fF aG}(hO:Ok n fV)(a b:LI0)(k:Nat)(hl:k<=au)(h:k<b.length):Lp n 109 1 (a3Q a b k [(6,xi 0)]) (ad8 a b k k (bM (KY b k) k)).1 (ad8 a b k k (bM (KY b k) k)).2:=
 P8 (st:=fun i _=>a3Q a b k [(6,xi i)]) (fun _ _=>True) (by kernel_rfl) hl Tq trivial (fun j s n hk _ ih=>aN hO (.b (bD hk) (.o (aH (show j<b.length by omega)) (.o (aH h) (.ls (.ou nofun) (.nx (ih _ trivial))))))) (fun s _=>aN hO (.b (fO k) (.ou nofun)))
abbrev a05(m:Int)(b:LI0)(k:Nat):Bool:=if(!(nI (b.getD k 0) 0 m))=true then true else if kR (bM (KY b k) k)=true then false else true
def z109(a b:LI0):Unit⊕Nat->Ex×aU aG
 |.inl _=>(.exit 0,a3Q a b b.length [(15,xl false)])
 |.inr _=>(.ret,⟨[(4,xl false)],[],[]⟩)
abbrev xw(s:LI0):Int:=i64.wrap ((s.length:Int)-1)
theorem ajQ{n:Nat}(hO:Ok n afJ)(a b:LI0)(hl:b.length<=au):Lp n 109 0 (a3Q a b 0 []) (z109 a b (bM (a05 (xw a) b) b.length)).1 (z109 a b (bM (a05 (xw a) b) b.length)).2:=
 P8 (st:=fun i _=>a3Q a b i []) (fun _ _=>True) (by kernel_rfl) hl Tq trivial (fun k s n hk _ ih=>by
  unfold gS a05;cases h1:(!(nI (b.getD k 0) 0 (xw a)))
  .cases h2:kR (bM (KY b k) k)
   .exact aN hO (.b (bD hk) (.o (aH hk) (.b h1 (.w (kN (ad9 hO a b k (by omega) hk) 0 h2) (.ou nofun)))))
   .exact aN hO (.b (bD hk) (.o (aH hk) (.b h1 (.w (kM (ad9 hO a b k (by omega) hk) () h2) (.nx (ih _ trivial))))))
  .exact aN hO (.b (bD hk) (.o (aH hk) (.b h1 (.ou nofun))))
  ) (fun s _=>aN hO (.b (fO b.length) (.ou nofun)))
theorem a7v{s:LI0}(h:s.length<=au):xw s=(s.length:Int)-1:=by unfold xw;unfold au at h;exact fQ (by omega) (by omega)
theorem vY{k lo hi:Int}:nI k lo hi=true↔lo<=k∧k<=hi:=by
 unfold nI;split
 .rename_i h;simp at h ⊢;omega
 rename_i h;simp at h ⊢;omega
theorem XM{a b:LI0}(ha:a.length<=au)(h:b.length=a.length):kR (bM (a05 (xw a) b) b.length)=kE a.length b:=by
 rw[a5c,dQ,kE,a0S];have e1:(∀j,j<b.length->a05 (xw a) b j=false)↔(∀j,j<b.length->(0<=b.getD j 0∧b.getD j 0<a.length)∧∀i,i<j->b.getD i 0≠b.getD j 0):=by
  refine ach fun j=>ach fun hj=>?_;unfold a05;rw[a7v ha];cases h1:nI (b.getD j 0) 0 ((a.length:Int)-1)
  .simp only[aaW,a1P,aeU,false_iff];intro h2;have:nI (b.getD j 0) 0 ((a.length:Int)-1)=true:=by rw[vY];omega
   rw[h1]at this;cases this
  have h3:0<=b.getD j 0∧b.getD j 0<a.length:=by rw[vY]at h1;omega
  simp only[a9w,a2r,a3y,h3,acF,true_and];cases h2:kR (bM (KY b j) j)
  .simp only[a2r,a3y,aeU,false_iff];intro h4;have:kR (bM (KY b j) j)=true:=dQ.2 fun i hi=>(by simpa[KY]using h4 i hi);rw[h2]at this;cases this
  simp only[a1P,true_iff];intro i hi;have:=dQ.1 h2 i hi;simpa[KY]using this
 rw[e1];constructor
 .intro hq;refine⟨h,(P7 (d:=0)).1 fun j hj=>(hq j hj).1,?_⟩;rw[acj,acp];intro i j hi hj Ak;have:=(hq j hj).2 i Ak;simpa[List.getD,a0d hi,a0d hj]using this
 rintro⟨_,h2,h3⟩ j hj;refine⟨(P7 (d:=0)).2 h2 j hj,fun i hi=>?_⟩;rw[acj,acp]at h3;have:=h3 i j (by omega) hj hi;simpa[List.getD,a0d (show i<b.length by omega),a0d hj]using this
theorem aaO{a b:LI0}(h:((b.length:Int) != (a.length:Int))=true):kE a.length b=false:=by unfold kE;rw[a3b];rintro⟨h1,_⟩;rw[h1]at h;simp at h
def a7w:fF aG:=dw 109 (a2 qO qO) tA (fun p=>kE p.1.length p.2) (fun p=>[p.1.length<=au,p.2.length<=au]) afJ
theorem ajR:Gd a7w:=apo.add fun n hO p hp=>aP hO (.s (fun h=>.v false (aaO h).symm) fun h=>.z (c:=kR (bM (a05 (xw p.1) p.2) p.2.length)) (fun h2=>.w (kM (ajQ hO p.1 p.2 (hp _ Ah)) () h2) (.v true (by rw[<-XM (hp _ iD) (lT h),h2]))) fun h2=>.w (kN (ajQ hO p.1 p.2 (hp _ Ah)) 0 h2) (.v false (by rw[<-XM (hp _ iD) (lT h),h2])))
abbrev cSz(a:LI0)(k:Nat):Bool:=!(nI (a.getD k 0) 1 12)
theorem aaP{a:LI0}:kR (bM (cSz a) a.length)=decide (kU a):=by rw[a5c,dQ,a0S,kU,<-P7 (d:=0)];refine ach fun j=>ach fun hj=>?_;simp only[cSz,ae0,vY]
abbrev w58(a b:LI0)(i:Int)(x:List (Nat×PE aG)):aU aG:=⟨[(0,xL 3 a),(1,xL 3 b),(5,xi i)]++x,[],[]⟩
def z58(a b:LI0):Unit⊕Nat->Ex×aU aG
 |.inl _=>(.exit 0,w58 a b a.length [(12,xl false)])
 |.inr _=>(.ret,⟨[(4,xi 3)],[],[]⟩)
theorem l58{n:Nat}(hO:Ok n a7w)(a b:LI0)(hl:a.length<=au):Lp n 58 0 (w58 a b 0 []) (z58 a b (bM (cSz a) a.length)).1 (z58 a b (bM (cSz a) a.length)).2:=
 P8 (st:=fun i _=>w58 a b i []) (fun _ _=>True) (by kernel_rfl) hl Tq trivial (fun k s n hk _ ih=>aN hO (.b (bD hk) (.o (aH hk) (.ls (.ou nofun) (.nx (ih _ trivial)))))) (fun s _=>aN hO (.b (fO a.length) (.ou nofun)))
def bV(s o:LI0):Int:=if decide ((s.length:Int)>6)=true then 5 else if kR (bM (cSz s) s.length)=true then(if decide (Fj s>2000)=true then 5 else if(!(kE s.length o))=true then 4 else 0)else 3
theorem aaQ{s:LI0}(h:decide ((s.length:Int)>6)=false):s.length<=6:=by simp at h;omega
theorem a1Q{k:Nat}(h:k<=6):k<=au:=by unfold au;omega
def ajT:fF aG:=dw 58 (a2 qO qO) iA (fun p=>bV p.1 p.2) (fun p=>[p.2.length<=au]) a7w
theorem apr:Gd ajT:=ajR.add fun n hO p hp=>aP hO (.sh (fun _=>.rr) fun h=>.zh (fun h2=>.w (kM (l58 hO p.1 p.2 (a1Q (aaQ h))) () h2) (.o (a1Q (aaQ h)) (.o (rfl:(0:Int)=0) (.ss .rr (.o (a1Q (aaQ h)) (.o (hp _ iD) (.ss .rr .rr))))))) fun h2=>.w (kN (l58 hO p.1 p.2 (a1Q (aaQ h))) 0 h2) .rr)
theorem PN(s o:LI0):bV s o=if 6<s.length then 5 else if kU s then(if 2000<aY s then 5 else if kE s.length o=true then 0 else 4)else 3:=by
 unfold bV;rw[aaP];by_cases h1:6<s.length
 .rw[a0A h1,a0A (by simp;omega)]
 rw[a0y h1,a0y (by simp;omega)];by_cases h2:kU s
 .rw[a0A (by simpa using h2),a0A h2,Xt h2];by_cases h3:2000<aY s
  .rw[a0A h3,a0A (by simp;omega)]
  rw[a0y h3,a0y (by simp;omega)];cases kE s.length o<;>simp
 rw[a0y (by simpa using h2),a0y h2]
theorem jT{s o:LI0}:bV s o=0↔uO s∧kE s.length o=true:=by
 rw[PN];constructor
 .intro h;split at h
  .cases h
  split at h
  .split at h
   .cases h
   split at h
   .exact⟨⟨by omega,by assumption,by omega⟩,by assumption⟩
   cases h
  cases h
 rintro⟨⟨h1,h2,h3⟩,h4⟩;rw[a0y (by omega),a0A h2,a0y (by omega),a0A h4]
abbrev w53(a:LI0)(i:Int)(s:Int×LI0)(x:List (Nat×PE aG)):aU aG:=⟨[(0,xL 3 a),(1,xi s.1),(5,xo 0),(6,xi i)]++x,[],[.list true true 3 s.2]⟩
theorem szk{a:LI0}(hs:kU a){k:Nat}(hk:k<a.length):a.getD k 0≠0:=by have:=hs _ (cu hk);omega
theorem afK(k:Nat):decide ((k:Int)>=0)=true:=by simp
theorem l53{n:Nat}{fV:fF aG}(hO:Ok n fV)(a:LI0)(m:Int)(hl:a.length<=au)(hs:kU a):Lp n 53 0 (w53 a (i64.wrap ((a.length:Int)-1)) (m,List.replicate a.length 0) []) (.exit 0) (w53 a (-1) (P6 (a3A a) a.length (m,List.replicate a.length 0)) [(14,xl false)]):=
 ajc (st:=fun i s=>w53 a i s []) (fin:=fun s=>w53 a (-1) s [(14,xl false)]) (fun _ s=>s.2.length=a.length) (by kernel_rfl) hl Tq (by simp) (fun k s _ h=>by simp[a3A,h]) (fun k s hk hi n e p h=>aN hO (.b (afK k) (.o (aH hk) (.o (szk hs hk) (.o (aH (show k<s.2.length by omega)) (.o (aH hk) (.o (szk hs hk) (.go h)))))))) (fun s _=>aN hO (.b (rfl:decide ((-1:Int)>=0)=false) .ex))
theorem mk1{α:Type}(l:List α):(l.length:Int)=(l.length:Int):=rfl
theorem mk2{α:Type}(l:List α):(0:Int)<=(l.length:Int):=by omega
theorem mk3{α:Type}{l:List α}(h:l.length<=au):(l.length:Int)<=(au:Int):=by omega
def ajU:fF aG:=dw 53 (a2 qO iA) qO (fun p=>jo p.1 p.2) (fun p=>[p.1.length<=au,kU p.1,0<=p.2,p.2<2^62]) ajT
theorem aps:Gd ajU:=apr.add fun n hO p hp=>aP hO (.o (mk1 p.1) (.o (mk2 p.1) (.o (mk3 (hp _ iD)) (.w (l53 hO p.1 p.2 (hp _ iD) (hp _ Ah)) (.v (P6 (a3A p.1) p.1.length (p.2,List.replicate p.1.length 0)).2 (a6Z (hp _ Ah) (hp _ hh2) (hp _ (.tail _ (.tail _ (.tail _ (.head _))))) a6B))))))
def vOk(v:V):Bool:=if(v.f==0)=true then nI v.n (-9999) 9999 else if(decide (v.f<=4))=true then v.n==0 else false
def ajV:fF aG:=dw 29 (a1 vA) tA (fun p=>vOk p) np ajU
theorem apt:Gd ajV:=aps.add fun n hO p hp=>aP hO (.ss .rr (.ss .rr .rr))
def vIs(v:V):Bool:=if(decide (v.f>0))=true then(if(decide (v.f<=4))=true then v.n==0 else false)else nI v.n (-9999) 9999
theorem afL{v:V}(h:0<=v.f):vOk v=vIs v:=by
 unfold vOk vIs;by_cases h0:v.f=0
 .rw[a0A (by simp[h0]),a0y (by simp;omega)]
 have:v.f>0:=by omega
 simp[h0,this]
open Go Tw Pv bQ
def dO(n:Nat):LI0:=(List.range n).map fun(k:Nat)=>(k:Int)
theorem lU(n:Nat):(dO n).length=n:=by simp[dO]
theorem Tt(n:Nat):kE n (dO n)=true:=by
 unfold kE;rw[a0S];refine⟨lU n,fun a ha=>?_,?_⟩
 .simp only[dO,a0P,a4V]at ha;obtain⟨k,h1,rfl⟩:=ha;omega
 unfold dO;exact List.Pairwise.map _ (fun a b h=>by omega) aej
open Go Tw Pv bQ
abbrev V.tv(v:V):TV:=.agg [.int .u8 v.f,.int .i64 v.n]
theorem a3R:Tryz.prog.underlying 3=some (.int .i64):=by kernel_rfl
theorem uU8:Tryz.prog.underlying 5=some (.int .u8):=by kernel_rfl
theorem afM : Tryz.prog.underlying 39 = some (.struct #[⟨"Fault", 5, 0, false, "", "", 0⟩, ⟨"N", 3, 1, false, "", "", 8⟩]) := by kernel_rfl
theorem a1S(d:Nat)(a b:V):aC Qp (Op.equalIn (d+2) 39 (.agg #[.int .u8 a.f,.int .i64 a.n]) (.agg #[.int .u8 b.f,.int .i64 b.n]))=some (decide (a=b)):=by
 rw[yD (d+1) 39 _ _ _ afM (by kernel_rfl)];have p0:∀x y:LI3,aC Qp (part 5 #[x,y] 0)=some x:=by intro x y;kernel_rfl
 have p1:∀x y:LI3,aC Qp (part 3 #[x,y] 1)=some y:=by intro x y;kernel_rfl
 have n1 : ("Fault" : String) ≠ "_" := by decide
 have n2 : ("N" : String) ≠ "_" := by decide
 have q1 := oK (f := ⟨"Fault", 5, 0, false, "", "", 0⟩) (fs := [⟨"N", 3, 1, false, "", "", 8⟩]) n1 (p0 (.int .u8 a.f) (.int .i64 a.n)) (p0 (.int .u8 b.f) (.int .i64 b.n)) (rC d _ _ _ _ _ uU8);have q2 := oK (f := ⟨"N", 3, 1, false, "", "", 8⟩) (fs := []) n2 (p1 (.int .u8 a.f) (.int .i64 a.n)) (p1 (.int .u8 b.f) (.int .i64 b.n)) (rC d _ _ _ _ _ a3R);rw[q1,q2];rw[show aC Qp (Op.eqFields (d+1) #[.int .u8 a.f,.int .i64 a.n] #[.int .u8 b.f,.int .i64 b.n] [])=some true from rfl];rcases a with⟨a1,a2⟩;rcases b with⟨b1,b2⟩;by_cases h1:a1=b1<;>by_cases h2:a2=b2<;>simp[h1,h2]
theorem eqV(x y:Operand)(a b:V):sQ Qp .eql 39 x y (V.tv a) (V.tv b)=some (.bool (decide (a=b))):=(Ht rfl rfl (by kernel_rfl) (by decide) (a1S 9998 a b)).1
theorem neV(x y:Operand)(a b:V):sQ Qp .neq 39 x y (V.tv a) (V.tv b)=some (.bool (!decide (a=b))):=(Ht rfl rfl (by kernel_rfl) (by decide) (a1S 9998 a b)).2
open Go Tw Pv bQ
abbrev cAl(a b:List V)(k:Nat):Bool:=!decide (a.getD k V0=b.getD k V0)
abbrev w75(a b:List V)(i:Int)(x:List (Nat×PE aG)):aU aG:=⟨[(0,xL 39 a),(1,xL 39 b),(5,xi i)]++x,[],[]⟩
def z75(a b:List V):Unit⊕Nat->Ex×aU aG
 |.inl _=>(.exit 0,w75 a b a.length [(14,xl false)])
 |.inr _=>(.ret,⟨[(4,xl false)],[],[]⟩)
theorem l75{n:Nat}{fV:fF aG}(hO:Ok n fV)(a b:List V)(hl:a.length<=au)(h:a.length=b.length):Lp n 75 0 (w75 a b 0 []) (z75 a b (bM (cAl a b) a.length)).1 (z75 a b (bM (cAl a b) a.length)).2:=
 P8 (st:=fun i _=>w75 a b i []) (fun _ _=>True) (by kernel_rfl) hl Tq trivial (fun k s n hk _ ih=>aN hO (.b (bD hk) (.o (aH hk) (.o (aH (h▸hk)) (.q (.bool (cAl a b k)) (neV (.tmp 20) (.tmp 24) (a.getD k V0) (b.getD k V0)) (.ls (.ou nofun) (.nx (ih _ trivial)))))))) (fun s _=>aN hO (.b (fO a.length) (.ou nofun)))
theorem a1T{a b:List V}(h:a.length=b.length):kR (bM (cAl a b) a.length)=decide (a=b):=by rw[a5c,dQ,a0S,oM (d:=V0) h];simp[cAl]
theorem aaR{a b:List V}(h:((a.length:Int) != (b.length:Int))=true):decide (a=b)=false:=by rw[a3b];rintro rfl;simp at h
def ajW:fF aG:=dw 75 (a2 vsA vsA) tA (fun p=>decide (p.1=p.2)) (fun p=>[p.1.length<=au]) ajV
theorem apx:Gd ajW:=apt.add fun n hO p hp=>aP hO (.s (fun h=>.v false (aaR h).symm) fun h=>.z (c:=kR (bM (cAl p.1 p.2) p.1.length)) (fun h2=>.w (kM (l75 hO p.1 p.2 (hp _ iD) (lT h)) () h2) (.v true (by rw[<-a1T (lT h),h2]))) fun h2=>.w (kN (l75 hO p.1 p.2 (hp _ iD) (lT h)) 0 h2) (.v false (by rw[<-a1T (lT h),h2])))
open Go Tw Pv bQ
abbrev RhB(n f k B m:Nat)(s:aU aG)(e:Ex)(p:aU aG):Prop:=dK X0 Qp T (iE n) LL f false (Ce Qp f) B (SI Qp f k) m s e p
abbrev hdP(f k:Nat)(w:aU aG):aU aG:=gW X0 (T.eX f (dS (SI Qp f k))) w
section
variable {n f k B N:Nat} {σ ρ:Type}
theorem vS{st:Int->σ->aU aG}{g:Nat->σ->σ}{e:Ex}{fin:σ->aU aG}{s0:σ}{w:aU aG}(Inv:Nat->σ->Prop)(h0:hdP f k w=st 0 s0)(hl:N<=au)(hi:Inv 0 s0)(hv:∀j s,j<N->Inv j s->Inv (j+1) (g j s))
  (hs:∀(j:Nat) (s:σ),j<N->Inv j s->∀m e1 p,RhB n f k B m (st (i64.wrap (j+1)) (g j s)) e1 p->RhB n f k B (m+1) (st j s) e1 p)
  (ho:∀s,Inv N s->RhB n f k B 1 (st N s) e (fin s)):Nr n f k B w e (fin (aO g N 0 s0)):=P9 Inv h0 hl Tq hi hv hs ho
theorem jm{st:Int->σ->aU aG}{g:Nat->σ->σ⊕ρ}{out:σ⊕ρ->Ex×aU aG}{s0:σ}{w:aU aG}(Inv:Nat->σ->Prop)(h0:hdP f k w=st 0 s0)(hl:N<=au)(hi:Inv 0 s0)
  (hs:∀(j:Nat) (s:σ) (m:Nat),j<N->Inv j s->(∀s1,Inv (j+1) s1->RhB n f k B m (st (i64.wrap (j+1)) s1) (vO (X:=X0) out g (N-(j+1)) (j+1) (.inl s1)).1 (vO (X:=X0) out g (N-(j+1)) (j+1) (.inl s1)).2) ->
   RhB n f k B (m+1) (st j s) (vO (X:=X0) out g (N-(j+1)) (j+1) (g j s)).1 (vO (X:=X0) out g (N-(j+1)) (j+1) (g j s)).2)
  (ho:∀s,Inv N s->RhB n f k B 1 (st N s) (out (.inl s)).1 (out (.inl s)).2):Nr n f k B w (out (nG g N 0 s0)).1 (out (nG g N 0 s0)).2:=P8 Inv h0 hl Tq hi hs ho
theorem aaS{a:Nat}{st:Int->σ->aU aG}{g:Nat->σ->σ⊕ρ}{out:σ⊕ρ->Ex×aU aG}{s0:σ}{w:aU aG}(Inv:Nat->σ->Prop)(h0:hdP f k w=st a s0)(ha:a<=N)(hl:N<=au)(hi:Inv a s0)
  (hs:∀(j:Nat) (s:σ) (m:Nat),a<=j->j<N->Inv j s->(∀s1,Inv (j+1) s1->RhB n f k B m (st (i64.wrap (j+1)) s1) (vO (X:=X0) out g (N-(j+1)) (j+1) (.inl s1)).1 (vO (X:=X0) out g (N-(j+1)) (j+1) (.inl s1)).2) ->
   RhB n f k B (m+1) (st j s) (vO (X:=X0) out g (N-(j+1)) (j+1) (g j s)).1 (vO (X:=X0) out g (N-(j+1)) (j+1) (g j s)).2)
  (ho:∀s,Inv N s->RhB n f k B 1 (st N s) (out (.inl s)).1 (out (.inl s)).2):Nr n f k B w (out (nG g (N-a) a s0)).1 (out (nG g (N-a) a s0)).2:=afq Inv h0 ha hl Tq hi hs ho
theorem a06{st:σ->aU aG}{g:σ->σ⊕ρ}{out:ρ->Ex×aU aG}(Inv:σ->Prop){m:Nat}{s:σ}{r:ρ}{w:aU aG}(hr:itF g m s=some r)(h0:hdP f k w=st s)(hk:m<=LL)(hv:Inv s)(hi:∀s s1,Inv s->g s=.inl s1->Inv s1)
  (hs:∀s m r,Inv s->(∀s1,g s=.inl s1->RhB n f k B m (st s1) (out r).1 (out r).2)->RhB n f k B (m+1) (st s) (Dl (X:=X0) out r (g s)).1 (Dl (X:=X0) out r (g s)).2):Nr n f k B w (out r).1 (out r).2:=afo Inv hr h0 hk hv hi hs
end
open Go Tw Pv bQ
structure Prt(l:List V)(w n:Nat):Prop where
 n12:n<=12
 w2:w<=5000
 len:l.length=n*w
section
variable {l:List V} {w n j:Nat} (h:Prt l w n)
include h
end
theorem Tv{α β:Type}(l:List α)(d:α)(f:α->β):(List.range l.length).map (fun k=>f (l.getD k d))=l.map f:=by
 apply a9J (by simp);intro i h1 h2;have:i<l.length:=by simpa using h1
 simp[List.getD,a0d this]
open Go Tw Pv bQ
theorem DI{s p:LI0}{ch d:Int}(hp:iU s p=true)(hc:fK ch s.length)(hd:fK d (s.getD ch.toNat 0).toNat):iU s (p.set ch.toNat d)=true:=by
 rw[qg]at hp ⊢;obtain⟨c1,c2⟩:=hc;obtain⟨d1,d2⟩:=hd;refine⟨by simp[hp.1],fun j hj=>?_⟩;rw[zB (by omega)];split
 .rename_i e;subst e;omega
 exact hp.2 j hj
open Go Tw Pv bQ
abbrev ay(d:Dg)(r:Int):Br:=d.aj.getD r.toNat jZ
abbrev PO(d:Dg)(r:Int)(k:Nat):Bool:=d.aB.getD k 0==(ay d r).var
abbrev a3S(d:Dg)(r i:Int)(x:List (Nat×PE aG)):aU aG:=⟨[(1,xi r),(2,.loc 0 0),(5,xi i)]++x,[d.ps],[]⟩
def ajX(d:Dg)(r:Int)(N:Nat):Unit⊕Nat->Ex×aU aG
 |.inl _=>(.exit 0,a3S d r N [(14,xl false)])
 |.inr k=>(.ret,⟨[(4,xi k)],[d.ps],[]⟩)
theorem ajY{r:Int}(h:0<=r):decide (r>=0)=true:=by simpa using h
theorem ajZ{n:Nat}{fV:fF aG}(hO:Ok n fV)(d:Dg)(r:Int)(hl:d.aB.length<=au)(h:fK r d.aj.length):Lp n 177 0 (a3S d r 0 []) (ajX d r d.aB.length (bM (PO d r) d.aB.length)).1 (ajX d r d.aB.length (bM (PO d r) d.aB.length)).2:=
 jm (st:=fun i _=>a3S d r i []) (fun _ _=>True) (by kernel_rfl) hl trivial (fun k s m hk _ ih=>aN hO (.b (ajY h.1) (.b (bD hk) (.o (aH hk) (.o h (.ls (.ou nofun) (.nx (ih _ trivial)))))))) (fun s _=>aN hO (.b (ajY h.1) (.b (fO d.aB.length) (.ou nofun))))
theorem ak0{n:Nat}{fV:fF aG}(hO:Ok n fV)(d:Dg)(r:Int)(h:r<0):Lp n 177 0 (a3S d r 0 []) (.exit 0) (a3S d r 0 [(14,xl false)]):=
 zK (ps:=a3S d r 0 []) (aN hO (.b (show decide (r>=0)=false by simpa using h) .ex)) (by kernel_rfl) (by decide:1<=LL)
def uj(d:Dg)(r:Int):Int:=if decide (r<0)=true then(d.aB.length:Int)else if kR (bM (PO d r) d.aB.length)=true then(d.aB.length:Int)else((Dk 0 (bM (PO d r) d.aB.length):Nat):Int)
def ada:fF aG:=dw 177 (a2 dA iA) iA (fun p=>uj p.1 p.2) (fun p=>[p.1.aB.length<=au,0<=p.2->fK p.2 p.1.aj.length]) ajW
theorem ak1:Gd ada:=apx.add fun n hO p hp=>aP hO (.zh (fun h=>.w (ak0 hO p.1 p.2 (by simpa using h)) .rr) fun h=>.zh (fun h2=>.w (kM (ajZ hO p.1 p.2 (hp _ iD) (hp (0<=p.2->fK p.2 p.1.aj.length) (.tail _ (.head _)) (by simpa using h))) () h2) .rr) fun h2=>.w (kN (ajZ hO p.1 p.2 (hp _ iD) (hp (0<=p.2->fK p.2 p.1.aj.length) (.tail _ (.head _)) (by simpa using h))) 0 h2) .rr)
def iP(d:Dg)(r below:Int):Bool:=if decide (r>=0)=true then decide (r<below)else nI (i64.wrap (-1-r)) 0 (i64.wrap ((d.aJ.length:Int)-1))
def adb:fF aG:=dw 176 (a3 dA iA iA) tA (fun p=>iP p.1 p.2.1 p.2.2) np ada
theorem ak2:Gd adb:=ak1.add fun n hO p hp=>aP hO (.ss .rr .rr)
abbrev PS(b:Br)(k:Nat):Bool:=b.aA.getD k 0 != b.aA.getD 0 0
abbrev afN(b:Br)(i:Int)(x:List (Nat×PE aG)):aU aG:=⟨[(1,.loc 0 0),(3,xi i)]++x,[b.ps],[]⟩
def ak3(b:Br):Unit⊕Nat->Ex×aU aG
 |.inl _=>(.exit 0,afN b (max 1 b.aA.length:Nat) [(8,xl false)])
 |.inr _=>(.ret,⟨[(2,xl false)],[b.ps],[]⟩)
theorem ak4{n:Nat}{fV:fF aG}(hO:Ok n fV)(b:Br)(hl:b.aA.length<=au):Lp n 132 0 (afN b 1 []) (ak3 b (SN (PS b) 1 (max 1 b.aA.length))).1 (ak3 b (SN (PS b) 1 (max 1 b.aA.length))).2:=
 aaS (st:=fun i _=>afN b i []) (fun _ _=>True) (by kernel_rfl) (by omega) (by unfold au at *;omega) trivial (fun k s m h1 hk _ ih=>aN hO (.b (bD (show k<b.aA.length by omega)) (.o (aH (show k<b.aA.length by omega)) (.o (show fK 0 b.aA.length from⟨by omega,by omega⟩) (.ls (.ou nofun) (.nx (ih _ trivial))))))) (fun s _=>aN hO (.b (show decide (((max 1 b.aA.length:Nat):Int)<(b.aA.length:Int))=false by simp only[a3b];omega) (.ou nofun)))
def DK(b:Br):Bool:=if kR (SN (PS b) 1 (max 1 b.aA.length))=true then true else false
def ade:fF aG:=dw 132 (a1 brA) tA (fun p=>DK p) (fun p=>[p.aA.length<=au]) adb
theorem ak5:Gd ade:=ak2.add fun n hO p hp=>aP hO (.zh (fun h=>.w (kM (ak4 hO p (hp _ iD)) () h) .rr) fun h=>.w (kN (ak4 hO p (hp _ iD)) 0 h) .rr)
abbrev Tz(l:LI0)(n:Int)(k:Nat):Bool:=l.getD k 0==n
abbrev afO(l:LI0)(m i:Int)(x:List (Nat×PE aG)):aU aG:=⟨[(0,xL 3 l),(1,xi m),(5,xi i)]++x,[],[]⟩
def ak6(l:LI0)(m:Int):Unit⊕Nat->Ex×aU aG
 |.inl _=>(.exit 0,afO l m l.length [(9,xl false)])
 |.inr _=>(.ret,⟨[(4,xl true)],[],[]⟩)
theorem ak7{n:Nat}{fV:fF aG}(hO:Ok n fV)(l:LI0)(m:Int)(hl:l.length<=au):Lp n 178 0 (afO l m 0 []) (ak6 l m (bM (Tz l m) l.length)).1 (ak6 l m (bM (Tz l m) l.length)).2:=
 jm (st:=fun i _=>afO l m i []) (fun _ _=>True) (by kernel_rfl) hl trivial (fun k s m hk _ ih=>aN hO (.b (bD hk) (.o (aH hk) (.ls (.ou nofun) (.nx (ih _ trivial)))))) (fun s _=>aN hO (.b (fO l.length) (.ou nofun)))
theorem TA{l:LI0}{m:Int}:kR (bM (Tz l m) l.length)=!decide (m∈l):=by
 rw[a5c,dQ];simp only[a9o,a3b];constructor
 .intro h hm;obtain⟨j,hj,e⟩:=a5h.1 hm;have:=h j hj;simp[Tz,List.getD,a0d hj,e]at this
 intro h j hj;have e:l.getD j 0=l[j]:=by simp[List.getD,a0d hj]
 simp only[Tz,ahA,ne_eq,e];intro e2;exact h (e2▸a4X hj)
def adf:fF aG:=dw 178 (a2 qO iA) tA (fun p=>decide (p.2∈p.1)) (fun p=>[p.1.length<=au]) ade
theorem ak8:Gd adf:=ak5.add fun n hO p hp=>aP hO (.z (c:=kR (bM (Tz p.1 p.2) p.1.length)) (fun h=>.w (kM (ak7 hO p.1 p.2 (hp _ iD)) () h) (.v false (by rw[TA]at h;simp at h;simp[h]))) fun h=>.w (kN (ak7 hO p.1 p.2 (hp _ iD)) 0 h) (.v true (by rw[TA]at h;simp at h;simp[h])))
abbrev a7y(l:LI0)(k:Nat):Bool:=l.getD k 0 != (k:Int)
abbrev afP(l:LI0)(m i:Int)(x:List (Nat×PE aG)):aU aG:=⟨[(0,xL 3 l),(1,xi m),(5,xi i)]++x,[],[]⟩
def ak9(l:LI0)(m:Int):Unit⊕Nat->Ex×aU aG
 |.inl _=>(.exit 0,afP l m l.length [(9,xl false)])
 |.inr _=>(.ret,⟨[(4,xl false)],[],[]⟩)
theorem akb{n:Nat}{fV:fF aG}(hO:Ok n fV)(l:LI0)(m:Int)(hl:l.length<=au):Lp n 134 0 (afP l m 0 []) (ak9 l m (bM (a7y l) l.length)).1 (ak9 l m (bM (a7y l) l.length)).2:=
 jm (st:=fun i _=>afP l m i []) (fun _ _=>True) (by kernel_rfl) hl trivial (fun k s m hk _ ih=>aN hO (.b (bD hk) (.o (aH hk) (.ls (.ou nofun) (.nx (ih _ trivial)))))) (fun s _=>aN hO (.b (fO l.length) (.ou nofun)))
def zS(l:LI0)(m:Int):Bool:=if kR (bM (a7y l) l.length)=true then((l.length:Int)==m)else false
def XO:fF aG:=dw 134 (a2 qO iA) tA (fun p=>zS p.1 p.2) (fun p=>[p.1.length<=au]) adf
theorem akc:Gd XO:=ak8.add fun n hO p hp=>aP hO (.zh (fun h=>.w (kM (akb hO p.1 p.2 (hp _ iD)) () h) .rr) fun h=>.w (kN (akb hO p.1 p.2 (hp _ iD)) 0 h) .rr)
abbrev cLk(d:Dg)(i k:Nat):Bool:=if(!(iP d ((d.aj.getD i jZ).aA.getD k 0) i))=true then true else decide (uj d ((d.aj.getD i jZ).aA.getD k 0)<=uj d i)
abbrev fD(d:Dg)(i:Nat):Br:=d.aj.getD i jZ
abbrev a7z(d:Dg)(i k:Int)(b:Br)(x:List (Nat×PE aG)):aU aG:=⟨[(1,.loc 0 0),(4,xi i),(5,.loc 1 0),(6,xi k)]++x,[d.ps,b.ps],[]⟩
def adg(d:Dg)(i:Nat):Unit⊕Nat->Ex×aU aG
 |.inl _=>(.exit 4,a7z d i (fD d i).aA.length (fD d i) [(57,xl false)])
 |.inr _=>(.ret,⟨[(2,xl false)],[d.ps,(fD d i).ps],[]⟩)
structure DgL(d:Dg):Prop where
 aB:d.aB.length<=au
 aj:d.aj.length<=au
 aJ:d.aJ.length<=au
 bY:uO d.ah
theorem XP{d:Dg}{r:Int}{i:Nat}(h:iP d r i=true)(h0:0<=r)(hi:i<=d.aj.length):fK r d.aj.length:=by
 unfold iP at h;rw[a0A (by simpa using h0)]at h;have:r<(i:Int):=by simpa using h
 exact⟨h0,by omega⟩
theorem akd{n:Nat}(hO:Ok n XO){d:Dg}(h:DgL d){i:Nat}(hi:i<d.aj.length)(hk:(fD d i).aA.length<=au):Lp n 131 2 (a7z d i 0 (fD d i) []) (adg d i (bM (cLk d i) (fD d i).aA.length)).1 (adg d i (bM (cLk d i) (fD d i).aA.length)).2:=
 jm (st:=fun k _=>a7z d i k (fD d i) []) (fun _ _=>True) (by kernel_rfl) hk trivial (fun k s m hk _ ih=>by
  unfold gS cLk;cases e1:iP d ((fD d i).aA.getD k 0) i
  .exact aN hO (.b (bD hk) (.o (aH hk) (.b (show(!(iP d ((fD d i).aA.getD k 0) i))=true by rw[e1];rfl) (.ou nofun))))
  .exact aN hO (.b (bD hk) (.o (aH hk) (.b (show(!(iP d ((fD d i).aA.getD k 0) i))=false by rw[e1];rfl) (.o (aH hk) (.o h.aB (.o (show 0<=(fD d i).aA.getD k 0->fK ((fD d i).aA.getD k 0) d.aj.length from fun h0=>XP e1 h0 (by omega)) (.o h.aB (.o (show 0<=((i:Nat):Int)->fK i d.aj.length from fun _=>aH hi) (.ls (.ou nofun) (.nx (ih _ trivial)))))))))))
  ) (fun s _=>aN hO (.b (fO (fD d i).aA.length) (.ou nofun)))
abbrev cLn(d:Dg)(i:Nat):Bool:=if(!(nI (fD d i).var 0 (xw d.ah)))=true then true else if(((fD d i).aA.length:Int) != d.ah.getD (fD d i).var.toNat 0)=true then true else if kR (bM (cLk d i) (fD d i).aA.length)=true then false else true
abbrev a7A(d:Dg)(i:Int)(x:List (Nat×PE aG)):aU aG:=⟨[(1,.loc 0 0),(4,xi i)]++x,[d.ps],[]⟩
def adh(d:Dg):Unit⊕Nat->Ex×aU aG
 |.inl _=>(.exit 2,a7A d d.aj.length [(25,xl false)])
 |.inr k=>(.ret,⟨[(2,xl false)],[d.ps,(fD d k).ps],[]⟩)
theorem JE{d:Dg}(h:uO d.ah){v:Int}(e:nI v 0 (xw d.ah)=true):fK v d.ah.length:=by rw[vY,a7v h.ajd]at e;exact⟨e.1,by omega⟩
theorem XQ{d:Dg}(h:uO d.ah){v:Int}(e:fK v d.ah.length){l:LI0}(hl:(((l.length:Int)) != d.ah.getD v.toNat 0)=false):l.length<=12:=by
 have:=h.sz _ (cu (s:=d.ah) (k:=v.toNat) (by have:=e.2;have:=e.1;omega));have hl:(l.length:Int)=d.ah.getD v.toNat 0:=by simpa using hl
 omega
theorem m12{k:Nat}(h:k<=12):k<=au:=by unfold au;omega
theorem adi{n:Nat}(hO:Ok n XO){d:Dg}(h:DgL d):Lp n 131 1 (a7A d 0 []) (adh d (bM (cLn d) d.aj.length)).1 (adh d (bM (cLn d) d.aj.length)).2:=
 jm (st:=fun k _=>a7A d k []) (fun _ _=>True) (by kernel_rfl) h.aj trivial (fun k s m hk _ ih=>by
  unfold gS cLn;cases e1:nI (fD d k).var 0 (xw d.ah)
  .exact aN hO (.b (bD hk) (.o (aH hk) (.b (show(!(nI (fD d k).var 0 (xw d.ah)))=true by rw[e1];rfl) (.ou nofun))))
  .have hv:=JE h.bY e1;cases e2:(((fD d k).aA.length:Int) != d.ah.getD (fD d k).var.toNat 0)
   .have hl:=akd hO h hk (m12 (XQ h.bY hv e2));cases e3:kR (bM (cLk d k) (fD d k).aA.length)
    .exact aN hO (.b (bD hk) (.o (aH hk) (.b (show(!(nI (fD d k).var 0 (xw d.ah)))=false by rw[e1];rfl) (.o hv (.b e2 (.w (kN hl 0 e3) (.ou nofun)))))))
    .exact aN hO (.b (bD hk) (.o (aH hk) (.b (show(!(nI (fD d k).var 0 (xw d.ah)))=false by rw[e1];rfl) (.o hv (.b e2 (.w (kM hl () e3) (.nx (ih _ trivial))))))))
   .exact aN hO (.b (bD hk) (.o (aH hk) (.b (show(!(nI (fD d k).var 0 (xw d.ah)))=false by rw[e1];rfl) (.o hv (.b e2 (.ou nofun))))))
  ) (fun s _=>aN hO (.b (fO d.aj.length) (.ou nofun)))
abbrev cLe(d:Dg)(k:Nat):Bool:=!(vOk (d.aJ.getD k V0))
abbrev a7C(d:Dg)(i:Int)(x:List (Nat×PE aG)):aU aG:=⟨[(1,.loc 0 0),(3,xi i)]++x,[d.ps],[]⟩
def adk(d:Dg):Unit⊕Nat->Ex×aU aG
 |.inl _=>(.exit 0,a7C d d.aJ.length [(11,xl false)])
 |.inr _=>(.ret,⟨[(2,xl false)],[d.ps],[]⟩)
theorem adl{n:Nat}(hO:Ok n XO){d:Dg}(h:DgL d):Lp n 131 0 (a7C d 0 []) (adk d (bM (cLe d) d.aJ.length)).1 (adk d (bM (cLe d) d.aJ.length)).2:=
 jm (st:=fun k _=>a7C d k []) (fun _ _=>True) (by kernel_rfl) h.aJ trivial (fun k s m hk _ ih=>aN hO (.b (bD hk) (.o (aH hk) (.ls (.ou nofun) (.nx (ih _ trivial)))))) (fun s _=>aN hO (.b (fO d.aJ.length) (.ou nofun)))
def lW(d:Dg):Bool:=if kR (bM (cLe d) d.aJ.length)=true then(if kR (bM (cLn d) d.aj.length)=true then iP d d.root d.aj.length else false)else false
def adn:fF aG:=dw 131 (a1 dA) tA (fun p=>lW p) (fun p=>[DgL p]) XO
theorem ake:Gd adn:=akc.add fun n hO p hp=>aP hO (.zh (fun h=>.w (kM (adl hO (show DgL p from hp _ iD)) () h) (.zh (fun h2=>.w (kM (adi hO (show DgL p from hp _ iD)) () h2) .rr) fun h2=>.w (kN (adi hO (show DgL p from hp _ iD)) 0 h2) .rr)) fun h=>.w (kN (adl hO (show DgL p from hp _ iD)) 0 h) .rr)
def aX(d:Dg):Int:=if(bV d.ah d.aB != 0)=true then bV d.ah d.aB else if decide ((d.aj.length:Int)>6000)=true then 5 else if(!(lW d))=true then 4 else 0
theorem Vd{k:Nat}(h:decide ((k:Int)>6000)=false):k<=au:=by simp at h;unfold au;omega
theorem Ba{s o:LI0}(h:(bV s o != 0)=false):uO s:=(jT.1 (by simpa using h)).1
def aaT:fF aG:=dw 83 (a1 dA) iA (fun p=>aX p) (fun p=>[p.aB.length<=au,p.aJ.length<=au]) adn
theorem apy:Gd aaT:=ake.add fun n hO p hp=>aP hO (.o (hp _ iD) (.sh (fun _=>.rr) fun h=>.sh (fun _=>.rr) fun h2=>.o (show DgL p from⟨hp _ iD,Vd h2,hp _ Ah,Ba h⟩) (.ss .rr .rr)))
open Go Tw Pv bQ
abbrev jI(r:Int):Int:=i64.wrap (-1-r)
def jU(d:Dg):Nat->Int->LI0×LI0->LI0×LI0
 | 0,_,x=>x
 |F+1,r,x=>if decide (r<0)=true then(if(!(decide (jI r∈x.2)))=true then(x.1,x.2++[jI r])else x)else if decide (r∈x.1)=true then x
  else((aO (fun k y=>jU d F ((ay d r).aA.getD k 0) y) (ay d r).aA.length 0 x).1++[r],(aO (fun k y=>jU d F ((ay d r).aA.getD k 0) y) (ay d r).aA.length 0 x).2)
def jB(d:Dg)(r:Int)(b:Nat):Prop:=r<b∧(r<0->fK (jI r) d.aJ.length)
structure C9(d:Dg):Prop extends DgL d where
 zT:∀i,i<d.aj.length->∀k,k<(fD d i).aA.length->jB d ((fD d i).aA.getD k 0) i
 JF:∀i,i<d.aj.length->(fD d i).aA.length<=12
 var:∀i,i<d.aj.length->fK (fD d i).var d.ah.length
 ksz:∀i,i<d.aj.length->((fD d i).aA.length:Int)=d.ah.getD (fD d i).var.toNat 0
 root:jB d d.root d.aj.length
structure JG(d:Dg)(x:LI0×LI0):Prop where
 n1:x.1.Nodup
 n2:∀a∈x.1,fK a d.aj.length
 e1:x.2.Nodup
 e2:∀a∈x.2,fK a d.aJ.length
theorem zU:∀(N:Nat) (l:LI0),l.Nodup->(∀a∈l,fK a N)->l.length<=N
 | 0,[],_,_=>a0K _
 | 0,a::l,_,h=>by obtain⟨h1,h2⟩:=h a (a2Z ..);omega
 |N+1,l,hn,h=>by
  have h1:=zU N (l.erase (N:Int)) (hn.erase _) fun a ha=>by have h2:=(List.Nodup.mem_erase_iff hn).1 ha;have h3:=h a h2.2;exact⟨h3.1,by have:=h3.2;have:=h2.1;omega⟩
  by_cases hm:(N:Int)∈l
  .rw[List.length_erase_of_mem hm]at h1;omega
  rw[List.erase_of_not_mem hm]at h1;omega
theorem JG.len{d:Dg}{x:LI0×LI0}(h:JG d x):x.1.length<=d.aj.length∧x.2.length<=d.aJ.length:=⟨zU _ _ h.n1 h.n2,zU _ _ h.e1 h.e2⟩
theorem xG{l:LI0}{a:Int}(h:l.Nodup)(ha:a∉l):(l++[a]).Nodup:=by rw[a9n];exact⟨h,by simp,fun x hx y hy e=>by simp at hy;subst hy;subst e;exact ha hx⟩
theorem a7D{d:Dg}:∀(F:Nat) (r s:Int) (x:LI0×LI0),r<s->s∉x.1->0<=s->(∀i,i<d.aj.length->∀k,k<(fD d i).aA.length->(fD d i).aA.getD k 0<i)->(0<=r->fK r d.aj.length)->s∉(jU d F r x).1
 | 0,_,_,_,_,h,_,_,_=>h
 |F+1,r,s,x,hr,h,h0,hk,hn=>by
  unfold jU;by_cases c:r<0
  .rw[a0A (by simpa using c)];split<;>exact h
  rw[a0y (by simpa using c)];split
  .exact h
  have hi:=hn (by omega);have E5:∀k,k<(ay d r).aA.length->(ay d r).aA.getD k 0<r:=fun k lH=>by obtain⟨i1,i2⟩:=hi;have h9:(ay d r).aA.getD k 0<(r.toNat:Int):=hk r.toNat (by omega) k lH;omega
  have:=bK (g:=fun k y=>jU d F ((ay d r).aA.getD k 0) y) (m:=(ay d r).aA.length) (k:=0) (s:=x) (fun _ y=>s∉y.1) h (fun j y _ hj hy=>by have h4:=E5 j (by omega);exact a7D F _ s y (by omega) hy h0 hk fun h5=>⟨h5,by have:=hi.2;omega⟩)
  simp only[a3s,a2O,adV];exact⟨this,by omega⟩
theorem KZ{d:Dg}(h:C9 d):∀(F:Nat) (r:Int) (x:LI0×LI0),JG d x->jB d r d.aj.length->JG d (jU d F r x)
 | 0,_,_,hx,_=>hx
 |F+1,r,x,hx,hr=>by
  unfold jU;by_cases c:r<0
  .rw[a0A (by simpa using c)];split
   .rename_i c2;have c2:jI r∉x.2:=(by simpa using c2);refine⟨hx.n1,hx.n2,xG hx.e1 c2,fun a ha=>?_⟩;rw[a3s,a2O]at ha;rcases ha with ha|rfl
    .exact hx.e2 a ha
    exact hr.2 c
   exact hx
  rw[a0y (by simpa using c)];split
  .exact hx
  rename_i c2;have c2:r∉x.1:=by simpa using c2
  have hi:fK r d.aj.length:=⟨by omega,hr.1⟩;have aT:r.toNat<d.aj.length:=by have:=hr.1;omega
  have h1:=bK (g:=fun k y=>jU d F ((ay d r).aA.getD k 0) y) (m:=(ay d r).aA.length) (k:=0) (s:=x) (fun _ y=>JG d y∧r∉y.1) ⟨hx,c2⟩ (fun j y _ hj hy=>by have hk:jB d ((ay d r).aA.getD j 0) r.toNat:=h.zT r.toNat aT j (by simpa using hj);obtain⟨k1,k2⟩:=hk;have lH:jB d ((ay d r).aA.getD j 0) d.aj.length:=⟨by omega,k2⟩;refine⟨KZ h F _ y hy.1 lH,a7D F _ r y (by omega) hy.2 (by omega) (fun i hi k hk=>(h.zT i hi k hk).1) fun h5=>⟨h5,lH.1⟩⟩)
  obtain⟨h2,h3⟩:=h1;refine⟨xG h2.n1 h3,fun a ha=>?_,h2.e1,h2.e2⟩;rw[a3s,a2O]at ha;rcases ha with ha|rfl
  .exact h2.n2 a ha
  exact hi
abbrev ls(l:LI0):PB aG:=.list false false 3 l
abbrev wSr(d:Dg)(r:Int)(k:Int)(s:LI0×LI0)(x:List (Nat×PE aG)):aU aG:=⟨[(1,xi r),(2,xo 2),(3,xo 3),(4,.loc 0 0),(10,.loc 1 0),(11,xi k)]++x,[d.ps,(ay d r).ps],[.gone,.gone,ls s.1,ls s.2]⟩
abbrev akf(n:Nat)(d:Dg)(r:Int)(x y:LI0×LI0):Prop:=iW n (.fn 133 [] []) [.agg d.ps,.int .i64 r,.own 0,.own 1] [ls x.1,ls x.2] (.dI [.own 2,.own 3]) [.gone,.gone,ls y.1,ls y.2]
theorem sSr{N:Nat}(hO:∀m,N<=m->Ok m aaT){d:Dg}(h:C9 d):∀(F:Nat) (r:Int) (x:LI0×LI0),r+1<F->JG d x->jB d r d.aj.length->1<=F->akf (N+F) d r x (jU d F r x)
 | 0,r,x,_,_,_,h1=>by omega
 |F+1,r,x,hF,hx,hr,_=>by
  have hn:=hx.len.1;have he:=hx.len.2;have m1:=h.aj;have m2:=h.aJ;have Gj:=hO (N+F) (by omega);have mn:x.1.length<=au:=by omega
  have me:x.2.length<=au:=by omega
  unfold jU;by_cases c:r<0
  .have t0:decide (r<0)=true:=(by simpa using c);rw[a0A t0];by_cases c2:jI r∈x.2
   .have t1:(!(decide (jI r∈x.2)))=false:=(by simpa using c2);rw[a0y (by rw[t1];simp)];exact dG.gs hX (nD hX Gj (first:=[]) (cap:=[]) (v:=.dI [.own 0,.own 1]) (H1:=[ls x.1,ls x.2]) (by kernel_rfl) (.b t0 (.o me (.b t1 .er)))) [.mv 0,.mv 1] rfl
   have t1:(!(decide (jI r∈x.2)))=true:=(by simpa using c2);rw[a0A t1];have e1:=zU _ _ (xG hx.e1 c2) (fun a ha=>by
    rw[a3s,a2O]at ha;rcases ha with ha|rfl
    .exact hx.e2 a ha
    exact hr.2 c)
   have e2:x.2.length+[jI r].length<=au:=by rw[<-a1w];omega
   exact dG.gs hX (nD hX Gj (first:=[]) (cap:=[]) (v:=.dI [.own 0,.own 3]) (H1:=[ls x.1,.gone,.list true true 3 ([jI r]:LI0),ls (x.2++[jI r])]) (by kernel_rfl) (.b t0 (.o me (.b t1 (.o e2 .er))))) [.mv 0,.gc [4,3]] rfl
  have t0:decide (r<0)=false:=by simpa using c
  rw[a0y (by rw[t0];simp)];by_cases c2:r∈x.1
  .have t1:decide (r∈x.1)=true:=(by simpa using c2);rw[a0A t1];exact dG.gs hX (nD hX Gj (first:=[]) (cap:=[]) (v:=.dI [.own 0,.own 1]) (H1:=[ls x.1,ls x.2]) (by kernel_rfl) (.b t0 (.o mn (.b t1 .er)))) [.mv 0,.mv 1] rfl
  have t1:decide (r∈x.1)=false:=by simpa using c2
  rw[a0y (by rw[t1];simp)];have hi:fK r d.aj.length:=⟨by omega,hr.1⟩;obtain⟨i1,i2⟩:=id hi;have aT:r.toNat<d.aj.length:=by omega
  have hl:Nr (N+F) 133 0 2 (wSr d r 0 x []) (.exit 0) (wSr d r (ay d r).aA.length (aO (fun k y=>jU d F ((ay d r).aA.getD k 0) y) (ay d r).aA.length 0 x) [(40,xl false)]):=by
   refine vS (σ:=LI0×LI0) (N:=(ay d r).aA.length) (g:=fun k y=>jU d F ((ay d r).aA.getD k 0) y) (s0:=x) (st:=fun k y=>wSr d r k y []) (fin:=fun y=>wSr d r (ay d r).aA.length y [(40,xl false)]) (fun _ y=>JG d y) (by kernel_rfl) (m12 (h.JF r.toNat aT)) hx (fun k y hk hy=>?_) (fun k y hk hy m e p g=>?_) (fun y _=>aN Gj (.b (fO (ay d r).aA.length) .ex))
   .have hk:jB d ((ay d r).aA.getD k 0) r.toNat:=h.zT r.toNat aT k hk;have k1:(ay d r).aA.getD k 0<(r.toNat:Int):=hk.1;exact KZ h F _ y hy ⟨by omega,hk.2⟩
   have lH:jB d ((ay d r).aA.getD k 0) r.toNat:=h.zT r.toNat aT k hk;have k1:=lH.1;have hs:=sSr hO h F ((ay d r).aA.getD k 0) y (by omega) hy ⟨by omega,lH.2⟩ (by omega);exact aN Gj (.b (bD hk) (.o (aH hk) (.fr [2,3] hs (.goG [.gc [4,5]] g))))
  generalize hy:aO (fun k y=>jU d F ((ay d r).aA.getD k 0) y) (ay d r).aA.length 0 x=y at hl;have sk:=KZ h (F+1) r x hx hr;unfold jU at sk;rw[a0y (by rw[t0];simp),a0y (by rw[t1];simp),hy]at sk;have sl:(y.1++[r]).length<=d.aj.length:=sk.len.1;have ml:y.1.length+[r].length<=au:=by rw[<-a1w];omega
  exact dG.gs hX (nD hX Gj (first:=[]) (cap:=[]) (v:=.dI [.own 5,.own 3]) (H1:=[.gone,.gone,.gone,ls y.2,.list true true 3 ([r]:LI0),ls (y.1++[r])]) (by kernel_rfl) (.b t0 (.o mn (.b t1 (.o hi (.wG [.mv 0,.mv 1] hl (.o ml .er))))))) [.gc [5,3]] rfl
def nlA:Arg Unit where
 put _:=.nil .aQ
 get v:=match v with
  |.nil .aQ=>some ()
  |_=>none
 ok:=by
  intro v a hg A m h x hv;split at hg
  .exact hv
  .cases hg
abbrev wSn(d:Dg)(r:Int)(k:Int)(s:LI0×LI0)(x:List (Nat×PE aG)):aU aG:=⟨[(1,xi r),(2,xo 0),(3,xo 1),(4,.loc 0 0),(10,.loc 1 0),(11,xi k)]++x,[d.ps,(ay d r).ps],[ls s.1,ls s.2]⟩
theorem sr0{d:Dg}:JG d ([],[]):=⟨a6f,by simp,a6f,by simp⟩
def srN(d:Dg)(r:Int):LI0:=(jU d 6002 r ([],[])).1
def srE(d:Dg)(r:Int):LI0:=(jU d 6002 r ([],[])).2
def a1V:fF aG:=dw 133 (a4 dA iA nlA nlA) (dU (a2 qO qO)) (fun p=>(srN p.1 p.2.1,srE p.1 p.2.1)) (fun p=>[C9 p.1,jB p.1 p.2.1 p.1.aj.length,p.1.aj.length<=6000]) aaT
theorem akh:Gd a1V:=apy.deep 6001 fun n hn hO p hp=>by
 obtain⟨d,r,_,_⟩:=p;have h:C9 d:=hp _ iD;have hr:jB d r d.aj.length:=hp _ Ah;have hm:d.aj.length<=6000:=hp _ hh2;obtain⟨N,rfl⟩:∃N,n=N+6001:=⟨n-6001,by omega⟩;have hO:∀m,N<=m->Ok m aaT:=fun m hm=>hO m (by omega);have Gj:=hO (N+6001) (by omega);by_cases c:r<0
 .have t0:decide (r<0)=true:=by simpa using c
  have t1:(!(decide (jI r∈([]:LI0))))=true:=by simp
  have e:jU d 6002 r ([],[])=([],[jI r]):=by rw[jU,a0A t0,a0A t1];rfl
  show pR X0 Qp _ _ _ ((dU (a2 qO qO)).put ((jU d 6002 r ([],[])).1,(jU d 6002 r ([],[])).2)) [];rw[e];exact aP Gj (.b t0 (.o le0 (.b t1 (.o le1 (.rn (.dI [.nil .aQ,.dJ 3 ([jI r]:LI0) false]) rfl)))))
 .have t0:decide (r<0)=false:=by simpa using c
  have t1:decide (r∈([]:LI0))=false:=by simp
  have hi:fK r d.aj.length:=⟨by omega,hr.1⟩;obtain⟨i1,i2⟩:=id hi;have aT:r.toNat<d.aj.length:=by omega
  have hl:Nr (N+6001) 133 0 0 (wSn d r 0 ([],[]) []) (.exit 0) (wSn d r (ay d r).aA.length (aO (fun k y=>jU d 6001 ((ay d r).aA.getD k 0) y) (ay d r).aA.length 0 ([],[])) [(40,xl false)]):=by
   refine vS (σ:=LI0×LI0) (N:=(ay d r).aA.length) (g:=fun k y=>jU d 6001 ((ay d r).aA.getD k 0) y) (s0:=(([],[]):LI0×LI0)) (st:=fun k y=>wSn d r k y []) (fin:=fun y=>wSn d r (ay d r).aA.length y [(40,xl false)]) (fun _ y=>JG d y) (by kernel_rfl) (m12 (h.JF r.toNat aT)) sr0 (fun k y hk hy=>?_) (fun k y hk hy m e p g=>?_) (fun y _=>aN Gj (.b (fO (ay d r).aA.length) .ex))
   .have hk:jB d ((ay d r).aA.getD k 0) r.toNat:=h.zT r.toNat aT k hk;have k1:(ay d r).aA.getD k 0<(r.toNat:Int):=hk.1;exact KZ h 6001 _ y hy ⟨by omega,hk.2⟩
   .have lH:jB d ((ay d r).aA.getD k 0) r.toNat:=h.zT r.toNat aT k hk;have k1:(ay d r).aA.getD k 0<(r.toNat:Int):=lH.1;have hs:=sSr hO h 6001 ((ay d r).aA.getD k 0) y (by omega) hy ⟨by omega,lH.2⟩ (by omega);exact aN Gj (.b (bD hk) (.o (aH hk) (.fr [0,1] hs (.goG [.gc [2,3]] g))))
  have sk:=KZ h 6002 r ([],[]) sr0 hr;have e:jU d 6002 r ([],[])=((aO (fun k y=>jU d 6001 ((ay d r).aA.getD k 0) y) (ay d r).aA.length 0 ([],[])).1++[r],(aO (fun k y=>jU d 6001 ((ay d r).aA.getD k 0) y) (ay d r).aA.length 0 ([],[])).2):=by rw[jU,a0y (by rw[t0];simp),a0y (by rw[t1];simp)]
  show pR X0 Qp _ _ _ ((dU (a2 qO qO)).put ((jU d 6002 r ([],[])).1,(jU d 6002 r ([],[])).2)) [];rw[e]at sk ⊢;generalize aO (fun k y=>jU d 6001 ((ay d r).aA.getD k 0) y) (ay d r).aA.length 0 ([],[])=y at hl sk;have sl:(y.1++[r]).length<=d.aj.length:=sk.len.1;have m1:=h.aj;have ml:y.1.length+[r].length<=au:=by rw[<-a1w];omega
  exact aP Gj (.b t0 (.o le0 (.b t1 (.o hi (.wG [.Jg 2 3,.Jg 3 3] hl (.o ml .rr))))))
open Go Tw Pv bQ
abbrev cD1(d:Dg)(i j:Nat):Bool:=decide (d.aJ.getD j V0=d.aJ.getD i V0)
abbrev cD0(d:Dg)(i:Nat):Bool:=if kR (bM (cD1 d i) i)=true then false else true
abbrev cD3(d:Dg)(i j:Nat):Bool:=if((fD d j).var==(fD d i).var)=true then decide ((fD d j).aA=(fD d i).aA)else false
abbrev cD2(d:Dg)(i:Nat):Bool:=if DK (fD d i)=true then true else if kR (bM (cD3 d i) i)=true then false else true
abbrev wD(d:Dg)(x:List (Nat×PE aG)):aU aG:=⟨[(1,.loc 0 0)]++x,[d.ps],[]⟩
abbrev rD(d:Dg):Ex×aU aG:=(.ret,⟨[(2,xl false)],[d.ps],[]⟩)
def zD1(d:Dg)(i:Nat):Unit⊕Nat->Ex×aU aG
 |.inl _=>(.exit 2,wD d [(3,xi i),(4,xi i),(18,xl false)])
 |.inr _=>rD d
theorem lD1{n:Nat}{fV:fF aG}(hO:Ok n fV){d:Dg}(h:DgL d){i:Nat}(hi:i<d.aJ.length):Lp n 84 1 (wD d [(3,xi i),(4,xi 0)]) (zD1 d i (bM (cD1 d i) i)).1 (zD1 d i (bM (cD1 d i) i)).2:=
 jm (st:=fun j _=>wD d [(3,xi i),(4,xi j)]) (fun _ _=>True) (by kernel_rfl) (by have:=h.aJ;omega) trivial (fun j s m hj _ ih=>aN hO (.b (bD hj) (.o (aH (show j<d.aJ.length by omega)) (.o (aH hi) (.q (.bool (cD1 d i j)) (eqV (.tmp 25) (.tmp 30) (d.aJ.getD j V0) (d.aJ.getD i V0)) (.ls (.ou nofun) (.nx (ih _ trivial)))))))) (fun s _=>aN hO (.b (fO i) (.ou nofun)))
def zD0(d:Dg):Unit⊕Nat->Ex×aU aG
 |.inl _=>(.exit 0,wD d [(3,xi d.aJ.length),(13,xl false)])
 |.inr _=>rD d
theorem lD0{n:Nat}{fV:fF aG}(hO:Ok n fV){d:Dg}(h:DgL d):Lp n 84 0 (wD d [(3,xi 0)]) (zD0 d (bM (cD0 d) d.aJ.length)).1 (zD0 d (bM (cD0 d) d.aJ.length)).2:=
 jm (st:=fun i _=>wD d [(3,xi i)]) (fun _ _=>True) (by kernel_rfl) h.aJ trivial (fun i s m hi _ ih=>by
  have hl:=lD1 hO h hi;unfold gS cD0;cases e:kR (bM (cD1 d i) i)
  .exact aN hO (.b (bD hi) (.w (kN hl 0 e) (.ou nofun)))
  .exact aN hO (.b (bD hi) (.w (kM hl () e) (.nx (ih _ trivial))))
  ) (fun s _=>aN hO (.b (fO d.aJ.length) (.ou nofun)))
def zD3(d:Dg)(i:Nat):Unit⊕Nat->Ex×aU aG
 |.inl _=>(.exit 6,wD d [(5,xi i),(6,xi i),(47,xl false)])
 |.inr _=>rD d
theorem lD3{n:Nat}(hO:Ok n a1V){d:Dg}(h:C9 d){i:Nat}(hi:i<d.aj.length):Lp n 84 3 (wD d [(5,xi i),(6,xi 0)]) (zD3 d i (bM (cD3 d i) i)).1 (zD3 d i (bM (cD3 d i) i)).2:=
 jm (st:=fun j _=>wD d [(5,xi i),(6,xi j)]) (fun _ _=>True) (by kernel_rfl) (by have:=h.aj;omega) trivial (fun j s m hj _ ih=>by
  have sF:j<d.aj.length:=by omega
  unfold gS cD3;cases e:((fD d j).var==(fD d i).var)
  .exact aN hO (.b (bD hj) (.o (aH sF) (.o (aH hi) (.b e (.nx (ih _ trivial))))))
  .exact aN hO (.b (bD hj) (.o (aH sF) (.o (aH hi) (.b e (.o (aH sF) (.o (aH hi) (.o (m12 (h.JF j sF)) (.ls (.ou nofun) (.nx (ih _ trivial))))))))))
  ) (fun s _=>aN hO (.b (fO i) (.ou nofun)))
def zD2(d:Dg):Unit⊕Nat->Ex×aU aG
 |.inl _=>(.exit 4,wD d [(5,xi d.aj.length),(36,xl false)])
 |.inr _=>rD d
theorem lD2{n:Nat}(hO:Ok n a1V){d:Dg}(h:C9 d):Lp n 84 2 (wD d [(5,xi 0)]) (zD2 d (bM (cD2 d) d.aj.length)).1 (zD2 d (bM (cD2 d) d.aj.length)).2:=
 jm (st:=fun i _=>wD d [(5,xi i)]) (fun _ _=>True) (by kernel_rfl) h.aj trivial (fun i s m hi _ ih=>by
  have hl:=lD3 hO h hi;unfold gS cD2;cases e1:DK (fD d i)
  .cases e:kR (bM (cD3 d i) i)
   .exact aN hO (.b (bD hi) (.o (aH hi) (.o (m12 (h.JF i hi)) (.b e1 (.w (kN hl 0 e) (.ou nofun))))))
   .exact aN hO (.b (bD hi) (.o (aH hi) (.o (m12 (h.JF i hi)) (.b e1 (.w (kM hl () e) (.nx (ih _ trivial)))))))
  .exact aN hO (.b (bD hi) (.o (aH hi) (.o (m12 (h.JF i hi)) (.b e1 (.ou nofun)))))
  ) (fun s _=>aN hO (.b (fO d.aj.length) (.ou nofun)))
def o9(d:Dg):Bool:=if kR (bM (cD0 d) d.aJ.length)=true then(if kR (bM (cD2 d) d.aj.length)=true then(if zS (srN d d.root) (d.aj.length:Int)=true then zS (srE d d.root) (d.aJ.length:Int)else false)else false)else false
theorem a1W{d:Dg}(h:C9 d):(srN d d.root).length<=au∧(srE d d.root).length<=au:=by have hl:=(KZ h 6002 d.root ([],[]) sr0 h.root).len;exact⟨a5w hl.1 h.aj,a5w hl.2 h.aJ⟩
def aki:fF aG:=dw 84 (a1 dA) tA (fun p=>o9 p) (fun p=>[C9 p,p.aj.length<=6000]) a1V
theorem apz:Gd aki:=akh.add fun n hO p hp=>aP hO (.zh (fun h=>.w (kM (lD0 hO (show C9 p from hp _ iD).toDgL) () h) (.zh (fun h2=>.w (kM (lD2 hO (show C9 p from hp _ iD)) () h2) (.o (hp _ iD) (.o (show C9 p from hp _ iD).root (.o (hp _ Ah) (.o (a1W (hp _ iD)).1 (.ss (.o (a1W (hp _ iD)).2 .rr) .rr)))))) fun h2=>.w (kN (lD2 hO (show C9 p from hp _ iD)) 0 h2) .rr)) fun h=>.w (kN (lD0 hO (show C9 p from hp _ iD).toDgL) 0 h) .rr)
theorem XR{d:Dg}(hm:d.aJ.length<=au){r:Int}{b:Nat}(h:iP d r b=true):jB d r b:=by
 unfold iP at h;by_cases c:0<=r
 .rw[a0A (by simpa using c)]at h;exact⟨by simpa using h,fun h2=>by omega⟩
 rw[a0y (by simpa using c),vY]at h;have e:i64.wrap ((d.aJ.length:Int)-1)=(d.aJ.length:Int)-1:=by unfold au at hm;exact fQ (by omega) (by omega)
 rw[e]at h;obtain⟨h1,h2⟩:=h;exact⟨by omega,fun _=>⟨h1,show jI r<_ by show i64.wrap (-1-r)<_;omega⟩⟩
theorem a7E{d:Dg}(h:DgL d)(hl:lW d=true):C9 d:=by
 unfold lW at hl;split at hl
 rotate_left
 .cases hl
 split at hl
 rotate_left
 .cases hl
 rename_i h1 h2;have h2:=dQ.1 h2;have key:∀i,i<d.aj.length->nI (fD d i).var 0 (xw d.ah)=true∧(((fD d i).aA.length:Int) != d.ah.getD (fD d i).var.toNat 0)=false∧kR (bM (cLk d i) (fD d i).aA.length)=true:=fun i hi=>by
  have:=h2 i hi;unfold cLn at this;split at this
  .cases this
  split at this
  .cases this
  split at this
  .rename_i a b c;exact⟨by simpa using a,by simpa using b,c⟩
  cases this
 refine⟨h,fun i hi k hk=>?_,fun i hi=>?_,fun i hi=>?_,fun i hi=>?_,XR h.aJ hl⟩
 .have:=dQ.1 (key i hi).2.2 k hk;unfold cLk at this;split at this
  .cases this
  rename_i a;exact XR h.aJ (by simpa using a)
 .exact XQ h.bY (JE h.bY (key i hi).1) (key i hi).2.1
 .exact JE h.bY (key i hi).1
 simpa using(key i hi).2.1
theorem iF{d:Dg}(ho:d.aB.length<=au)(he:d.aJ.length<=au)(h:(aX d != 0)=false):C9 d∧d.aj.length<=6000:=by
 unfold aX at h;split at h
 .rename_i h1;simp at h h1;exact absurd h h1
 split at h
 .cases h
 split at h
 .cases h
 rename_i h1 h2 h3;have h2:decide ((d.aj.length:Int)>6000)=false:=by simpa using h2
 exact⟨a7E ⟨ho,Vd h2,he,Ba (by simpa using h1)⟩ (by simpa using h3),by simp at h2;omega⟩
def kP(d:Dg):Int:=if(aX d != 0)=true then aX d else if(!(o9 d))=true then 4 else 0
def akk:fF aG:=dw 22 (a1 dA) iA (fun p=>kP p) (fun p=>[p.aB.length<=au,p.aJ.length<=au]) aki
theorem apA:Gd akk:=apz.add fun n hO p hp=>aP hO (.o (hp _ iD) (.o (hp _ Ah) (.sh (fun _=>.rr) fun h=>.o (iF (hp _ iD) (hp _ Ah) h).1 (.o (iF (hp _ iD) (hp _ Ah) h).2 (.ss .rr .rr)))))
open Go Tw Pv bQ
def gAt(d:Dg)(p:LI0)(r:Int):Int⊕Int:=if decide (r>=0)=true then .inl ((ay d r).aA.getD (p.getD (ay d r).var.toNat 0).toNat 0)else .inr r
def atF(d:Dg)(p:LI0):Nat->Int->Int
 | 0,r=>r
 |F+1,r=>if r<0 then r else atF d p F ((ay d r).aA.getD (p.getD (ay d r).var.toNat 0).toNat 0)
theorem adp{d:Dg}{p:LI0}:∀(F:Nat) (r:Int),atF d p F r<0->itF (gAt d p) (F+1) r=some (atF d p F r)
 | 0,r,h=>by
  have h:r<0:=h;have e:gAt d p r=.inr r:=by unfold gAt;rw[a0y (by simpa using h)]
  rw[itF,e];rfl
 |F+1,r,h=>by
  by_cases c:r<0
  .have e:gAt d p r=.inr r:=by unfold gAt;rw[a0y (by simpa using c)]
   rw[itF,e,atF,a0A c]
  have e:gAt d p r=.inl ((ay d r).aA.getD (p.getD (ay d r).var.toNat 0).toNat 0):=by unfold gAt;rw[a0A (by simp;omega)]
  rw[atF,a0y c]at h;rw[itF,e,atF,a0y c];exact adp F _ h
theorem JH{d:Dg}(h:C9 d){p:LI0}(hp:iU d.ah p=true){r:Int}(hr:fK r d.aj.length):fK (ay d r).var p.length∧fK (p.getD (ay d r).var.toNat 0) (ay d r).aA.length∧jB d ((ay d r).aA.getD (p.getD (ay d r).var.toNat 0).toNat 0) r.toNat:=by
 obtain⟨r1,r2⟩:=hr;have hl:r.toNat<d.aj.length:=by omega
 have hv:=h.var r.toNat hl;have hk:=h.ksz r.toNat hl;obtain⟨v1,v2⟩:=hv;obtain⟨p1,p2⟩:=qg.1 hp;have p3:=p2 (ay d r).var.toNat (by show(fD d r.toNat).var.toNat<_;omega);have k1:fK (p.getD (ay d r).var.toNat 0) (ay d r).aA.length:=⟨p3.1,by show _<((fD d r.toNat).aA.length:Int);rw[hk];exact p3.2⟩;refine⟨⟨v1,by rw[p1];exact v2⟩,k1,h.zT r.toNat hl _ ?_⟩;obtain⟨k2,k3⟩:=k1;show _<(ay d r).aA.length;omega
theorem Ve{d:Dg}(h:C9 d){p:LI0}(hp:iU d.ah p=true):∀(F:Nat) (r:Int),r<F->jB d r d.aj.length->jB d (atF d p F r) 0
 | 0,r,hr,hk=>⟨by show r<((0:Nat):Int);omega,hk.2⟩
 |F+1,r,hr,hk=>by
  unfold atF;split
  .rename_i c;exact⟨by show r<((0:Nat):Int);omega,hk.2⟩
  rename_i c;have:=(JH h hp (r:=r) ⟨by omega,hk.1⟩).2.2;obtain⟨a1,a2⟩:=this;have a3:r<(d.aj.length:Int):=hk.1;exact Ve h hp F _ (by omega) ⟨by omega,a2⟩
abbrev atR(d:Dg)(p:LI0):Int:=atF d p 6001 d.root
def qE(d:Dg)(p:LI0):V:=d.aJ.getD (jI (atR d p)).toNat V0
abbrev wAt(d:Dg)(p:LI0)(r:Int)(x:List (Nat×PE aG)):aU aG:=⟨[(1,xL 3 p),(2,.loc 0 0),(4,.loc 1 0),(5,xi r)]++x,[d.ps,V0.ps],[]⟩
theorem lAt{n:Nat}{fV:fF aG}(hO:Ok n fV){d:Dg}(h:C9 d)(hm:d.aj.length<=6000){p:LI0}(hp:iU d.ah p=true):Lp n 98 0 (wAt d p d.root []) (.exit 0) (wAt d p (atR d p) [(9,xl false)]):=by
 have h0:d.root<(d.aj.length:Int):=h.root.1;have ha:=Ve h hp 6001 d.root (by omega) h.root;have QA:=adp 6001 d.root ha.1;refine a06 (st:=fun r=>wAt d p r []) (g:=gAt d p) (out:=fun r=>(.exit 0,wAt d p r [(9,xl false)])) (fun r=>jB d r d.aj.length) QA (by kernel_rfl) (by decide) h.root ?_ ?_
 .intro r r1 hr e;unfold gAt at e;split at e
  .rename_i c;have c:0<=r:=(by simpa using c);cases e;have:=(JH h hp (r:=r) ⟨c,hr.1⟩).2.2;have a3:r<(d.aj.length:Int):=hr.1;obtain⟨a1,a2⟩:=this;exact⟨by omega,a2⟩
  cases e
 intro r m r' hr ih;by_cases c:0<=r
 .have hk:=JH h hp (r:=r) ⟨c,hr.1⟩;have t1:decide (r>=0)=true:=by simpa using c
  have e:gAt d p r=.inl ((ay d r).aA.getD (p.getD (ay d r).var.toNat 0).toNat 0):=by unfold gAt;rw[a0A t1]
  have g:=ih _ e;rw[e];have wR:fK r d.aj.length:=⟨c,hr.1⟩;exact aN hO (.b t1 (.o wR (.o wR (.o hk.1 (.o hk.2.1 (.go g))))))
 have t1:decide (r>=0)=false:=by simpa using c
 have e:gAt d p r=.inr r:=by unfold gAt;rw[a0y (by rw[t1];simp)]
 rw[e];dsimp only[Dl];exact aN hO (.b t1 .ex)
theorem aaX{d:Dg}(h:C9 d)(hm:d.aj.length<=6000){p:LI0}(hp:iU d.ah p=true):fK (jI (atR d p)) d.aJ.length:=by have h0:d.root<(d.aj.length:Int):=h.root.1;have ha:=Ve h hp 6001 d.root (by omega) h.root;exact ha.2 ha.1
def akl:fF aG:=dw 98 (a2 dA qO) vA (fun p=>qE p.1 p.2) (fun p=>[C9 p.1,p.1.aj.length<=6000,iU p.1.ah p.2=true]) akk
theorem apB:Gd akl:=apA.add fun n hO p hp=>aP hO (.w (lAt hO (hp _ iD) (hp _ Ah) (hp _ hh2)) (.o (aaX (hp _ iD) (hp _ Ah) (hp _ hh2)) .rr))
open Go Tw Pv bQ
theorem aaY{A:Nat->Prop}{m:List MB}{h:List HB}{l:LI0}{cs:List TV}(hr:dZ X0 Qp A m h 3 l cs 0 1)(hc:cs.length=l.length):cs=l.map fun n=>TV.int .i64 n:=by
 apply a9J (by simp[hc]);intro j h1 h2;have hj:j<l.length:=by omega
 have:=hr.2.2 j l[j] 0 (.int .i64 l[j]) cs[j] (a0d hj) rfl (by rw[a08];exact⟨by omega,by simp⟩);rw[this.a1H];simp
theorem TB:∀l:LI0,KU (l.map fun n=>TV.int .i64 n)=some l
 | []=>rfl
 |a::l=>by simp[KU,TB l]
theorem TD{A:Nat->Prop}{m:List MB}{h:List HB}(l:LI0):dZ X0 Qp A m h 3 l (l.map fun n=>TV.int .i64 n) 0 1:=by
 refine⟨fun j a _=>rfl,by simp only[a4R,ahE,a3T];exact a0K _,fun j a i c v hj hi hv=>?_⟩;have sF:=(a08.1 hj).1;cases i with
 |zero=>
  have hi:some (PV.int .i64 a)=some c:=hi;cases hi;have hj:(l:LI0)[j]? = some a:=hj;rw[a3T,ahE,ae8,a4T,hj]at hv;have hv:some (TV.int .i64 a)=some v:=hv;cases hv;exact .int _ _
 |succ i=>have hi:([]:List (PV aG))[i]? = some c:=hi;simp at hi
theorem L6:dF Qp 3=some 1:=by kernel_rfl
theorem a7F(n:Nat)(x:TV)(h:List HB):lu Qp T LL (n+1) (.fn 137 [] []) [x] h=Pj 137 (.fn 137 [] []) [x] h:=rfl
theorem aaZ{f c:Nat}{h:List HB}{kk BD:BK}{cs:List TV}{l:LI0}{e:Bool}(hb:h[c]? = some (.cells kk cs))(hk:Ad kk true=some BD)(Rx:cs=l.map fun n=>TV.int .i64 n)(h0:0<l.length)(h1:l.length<=2^20) :
  Pj f (.fn f [] []) [.aQ c 0 l.length l.length 1 e] h=some (.dI [],h.set c (.cells BD ((gX l).map fun n=>TV.int .i64 n)),[c]):=by
 have pV:cs.length=l.length:=by rw[Rx,a4R]
 have him:KU cs=some l:=by rw[Rx];exact TB l
 generalize l.length=n at *;obtain⟨j,rfl⟩:∃j,n=j+1:=⟨n-1,by omega⟩;simp only[Pj,a7b,a1P,hb,hk,him,pV,h0,h1,acF]
theorem adq{n:Nat}{k ex:Bool}(l:LI0)(hl:l.length<=2^20):iW (n+1) (.fn 137 [] []) [.own 0] [.list k ex 3 l] (.dI []) [.list k ex 3 (gX l)]:=by
 intro A m h tf rM hr hf hx;obtain⟨x,r,rfl,h1,h2⟩:=hx.inv;have:=h2.inv0;subst this;obtain⟨g1,g2⟩:=aaz hr (i:=0) (k:=k) (ex:=ex) (t:=3) (l:=l) rfl h1;have htf:=hf.V4;subst htf;show ∃w h1 ws m1,lu Qp T LL (n+1) _ _ h=_∧_;rw[a7F];have apC:gX ([]:LI0)=[]:=by simp[gX]
 have hE:∀h0:(l:LI0)=[],gX l=l:=fun h0=>by rw[h0];exact apC
 rcases afp g2 with⟨h0,rfl⟩|⟨h0,b,off,sz,cs,rfl,p0,p1,p2,p3,p4⟩|⟨p1,c,sz,e,kk,cs,rfl,p2,p3,p4,p5,p6,p7,p8,p9⟩
 .rw[hE h0];exact⟨.dI [],h,[],m,rfl,hr,.dI rfl (fun i x y hx=>by simp at hx),.refl,.refl,fun b hb=>by cases hb⟩
 .rw[hE h0];exact⟨.dI [],h,[],m,rfl,hr,.dI rfl (fun i x y hx=>by simp at hx),.refl,.refl,fun b hb=>by cases hb⟩
 rw[L6]at p2;cases p2;have p8:cs.length=(l:LI0).length*1:=p8;have pV:cs.length=l.length:=by omega
 have Rx:=aaY p9 pV;have hn0:0<l.length:=by cases l with|nil=>exact absurd rfl p1|cons=>simp
 obtain⟨BD,yt,aeS,hko⟩:=Jk p5;have aT:=(a08.1 p4).1;have uM:(MB.dJ (TV.aQ c 0 l.length l.length 1 e)).own=some c:=by simp only[MB.own];rw[a0y (by omega)]
 have hsl:(gX l).length=l.length:=by unfold gX;rw[aau]
 have iy:gX l≠[]:=fun e0=>by rw[e0]at hsl;simp at hsl;omega
 obtain⟨q1,q2⟩:=hr.set (i:=0) (c:=c) (pb:=.list k ex 3 (gX l)) (hb:=.cells BD ((gX l).map fun n=>TV.int .i64 n)) g1 uM
  (fun X7 KG=>⟨_,by simp only[aW];rw[a1y aT],by
   simp only[aW,p4,a07]at KG;subst KG;rw[a4R,hsl,pV];exact a0K _⟩)
  (fun hF=>by have r:=LR.some (X:=X0) (P:=Qp) (A:=AA A m) (m:=m) (k:=k) (ex:=ex) (e:=e) (t:=3) (b:=c) (kk:=BD) iy L6 (by decide) (by rw[a1y aT]) aeS (fun e0=>hko (p6 e0)) p7 (by rw[a4R,ahE];rfl) (TD (gX l));have apD:@List.length (X0.Γ 3) (gX l)=l.length:=hsl;rw[apD]at r;exact r)
 refine⟨.dI [],_,[c],m,?_,q1,.dI rfl (fun i x y hx=>by simp at hx),q2,.refl,fun d hd=>?_⟩
 .exact aaZ p4 yt Rx hn0 hl
 simp at hd;subst hd;exact bf g1 uM
end Go.Proofs.YtmobpoiejckagaaGreat
namespace Pv
open Go Tw
variable {X:kX} {P:LI1}
theorem pR.ab1(hX:bT X P){call:aZ}{f:FuncId}{xs vs:List (PV X.Γ)}{v v':PV X.Γ}{ext ext':List (PB X.Γ)}(hc:pR X P call f vs v ext)(hv:views [] ([]++xs++[])=some vs)(hs:ru X 0 ext=some ext')
  (e:shift 0 v=v') (he:(if xX v||ext.any (hasB X)then bg (l7.kH ([]++xs++[])) []else [])=([]:List (PB X.Γ))):dG X P call (.fn f [] []) xs [] v' ext':=by
 subst e;intro A m h tf rM hr hf hx;have htf:=hf.V4;subst htf;obtain⟨w,h',m1,c1,c2,c3,c4,c5⟩:=I9 hX hc hr hv hs (t1:=[]) (t3:=[]) .nil hx .nil;rw[he]at c2;exact⟨w,h',[],m1,c1,c2,c3,c4,c5,fun b hb=>by cases hb⟩
end Pv
namespace Go.Proofs.YtmobpoiejckagaaGreat
open Go Tw Pv bQ
abbrev lsI(l:LI0):List (PB aG):=[.list false false 3 l]
theorem a3X(n:Nat)(h:List HB):Ux Qp T (iE n) LL 125 [.nil .aQ] h=some (.nil .aQ,h,[]):=by kernel_rfl
theorem a3Y(n b off cap:Nat)(ex:Bool)(h:List HB):Ux Qp T (iE n) LL 125 [.aQ b off 0 cap 1 ex] h=some (.aQ h.length 0 0 0 1 true,h++[.cells .own []],[]):=by kernel_rfl
theorem afS{n:Nat}:pR X0 Qp (iE (n+1)) 125 [.dJ 3 ([]:LI0) false] (.own 0) (lsI []):=by
 intro A h first args cap IV hv
 obtain⟨x,r,e,h1,h2⟩:=hv.inv;have:=h2.inv0;subst this;have hun:lu Qp T LL (n+1) (.fn 125 first cap) args h=Ux Qp T (iE n) LL 125 [x] h:=by rw[<-e];show lu Qp T LL (n+1) _ _ _=_;rw[lu,a0y (by decide),a0y (by decide)]
 rcases a6X h1 with rfl|⟨b,off,cap',sz,ex,cs,rfl,a1,a2,a3,a4,a5⟩
 .exact⟨.nil .aQ,h,[.dJ (.nil .aQ)],by rw[<-a3X n h,<-hun],Xq IV .nil rfl,.own rfl rfl,⟨a0K _,fun _ _ _=>rfl,fun b hb=>by simp[bn,MB.own]at hb,fun b cs hc=>⟨cs,hc,a0K _⟩⟩⟩
 rw[L6]at a3;cases a3;have hc:aW (h++[HB.cells .own []]) h.length=some []:=by unfold aW;rw[a0L (a0K _),ahu];rfl
 refine⟨.aQ h.length 0 0 0 1 true,h++[.cells .own []],[.dJ (.aQ h.length 0 0 0 1 true)],by rw[<-a3Y n b off cap' ex h,<-hun],Xq (fun b hb=>IV b (by simp at hb;omega)) (.emp ⟨IV _ (a0K _),by simp[bn,MB.own]⟩ hc (a0K _) L6 (by decide)) (by simp[MB.own]),.own rfl rfl,⟨by simp,fun b hb _=>by rw[a0m hb],fun b hb=>by simp[bn,MB.own]at hb,fun b cs hc=>⟨cs,?_,a0K _⟩⟩⟩;rw[fZ (a0m (fU hc)),hc]
def adr:fF aG:=ZX 125 (a1 qO) (fun _=>.own 0) (fun p=>lsI p) (fun p=>[p.length<=au]) akl
theorem akn:Gd adr:=apB.Xn 0 fun n _ hO p hp=>by
 have hl:p.length<=au:=hp _ iD;by_cases h:p=[]
 .subst h;exact afS
 .have h2:([]:LI0).length+p.length<=au:=by simpa using hl
  exact pR.gs hX (BJ hX (hO n (by omega)) (v:=.own 1) (H:=[.gone,.list true false 3 p]) (by kernel_rfl) (.o h (.b (rfl:false=false) (.o h2 .er)))) [.gc [1],.flag 0] rfl
abbrev ab2(m:Nat)(i:Int)(l:LI0)(x:List (Nat×PE aG)):aU aG:=⟨[(3,xo 0),(7,xi m),(8,xi i)]++x,[],[.list true true 3 l]⟩
theorem a7G(m:Nat):aO (fun k (l:LI0)=>l.set k (k:Int)) m 0 (List.replicate m 0)=dO m:=by
 have:=bK (g:=fun k (l:LI0)=>l.set k (k:Int)) (m:=m) (k:=0) (s:=List.replicate m 0) (fun k l=>l.length=m∧∀j,j<k->l.getD j 0=(j:Int)) ⟨by simp,by simp⟩ (fun j l _ hj h=>⟨by simp[h.1],fun i hi=>by
  rw[bQ.zB (by omega)];split
  .rename_i e;rw[e]
  exact h.2 i (by omega)⟩)
 rw[oM (d:=0) (by rw[this.1,lU])];intro j hj;have sF:j<m:=by have:=this.1;omega
 rw[this.2 j (by omega)];simp[dO,List.getD,a4T,aem,sF]
theorem apE{n:Nat}{fV:fF aG}(hO:Ok n fV)(m:Nat)(hm:m<=au):Lp n 159 0 (ab2 m 0 (List.replicate m 0) []) (.exit 0) (ab2 m m (dO m) [(9,xl false)]):=by rw[<-a7G];exact vS (σ:=LI0) (N:=m) (g:=fun k (l:LI0)=>l.set k (k:Int)) (s0:=List.replicate m 0) (st:=fun i (l:LI0)=>ab2 m i l []) (fin:=fun(l:LI0)=>ab2 m m l [(9,xl false)]) (fun _ (l:LI0)=>l.length=m) (by kernel_rfl) hm (by simp) (fun k l _ h=>by simp[h]) (fun k l hk hl j e p g=>aN hO (.b (bD hk) (.o (aH (show k<l.length by omega)) (.go g)))) (fun l _=>aN hO (.b (fO m) .ex))
def ads:fF aG:=dw 159 (a1 iA) qO (fun p=>dO p.toNat) (fun p=>[0<=p,p<=(au:Int)]) adr
theorem ako:Gd ads:=akn.add fun n hO p hp=>by have h0:0<=p:=hp _ iD;have h1:p<=(au:Int):=hp _ Ah;obtain⟨m,rfl⟩:∃m:Nat,p=(m:Int):=⟨p.toNat,by omega⟩;exact aP hO (.o (rfl:(m:Int)=(m:Int)) (.o h0 (.o h1 (.w (apE hO m (by omega)) .rr))))
abbrev afT(a b:LI0)(i:Int)(x:List (Nat×PE aG)):aU aG:=⟨[(0,xL 3 a),(1,xL 3 b),(12,xi a.length),(13,xi i)]++x,[],[]⟩
def akp(a b:LI0):Unit⊕Nat->Ex×aU aG
 |.inl _=>(.exit 0,afT a b a.length [(14,xl false)])
 |.inr _=>(.ret,⟨[(4,xl false)],[],[]⟩)
theorem akq{n:Nat}{fV:fF aG}(hO:Ok n fV)(a b:LI0)(hl:a.length<=au)(h:a.length=b.length):Lp n 158 0 (afT a b 0 []) (akp a b (bM (KX a b) a.length)).1 (akp a b (bM (KX a b) a.length)).2:=
 jm (st:=fun i _=>afT a b i []) (fun _ _=>True) (by kernel_rfl) hl trivial (fun k s m hk _ ih=>aN hO (.b (bD hk) (.o (aH hk) (.o (aH (h▸hk)) (.ls (.ou nofun) (.nx (ih _ trivial))))))) (fun s _=>aN hO (.b (fO a.length) (.ou nofun)))
def adt:fF aG:=dw 158 (a2 qO qO) tA (fun p=>decide (p.1=p.2)) (fun p=>[p.1.length<=au]) ads
theorem akr:Gd adt:=ako.add fun n hO p hp=>aP hO (.s (fun h=>.v false (a7u h).symm) fun h=>.z (c:=kR (bM (KX p.1 p.2) p.1.length)) (fun h2=>.w (kM (akq hO p.1 p.2 (hp _ iD) (lT h)) () h2) (.v true (by rw[<-Es (lT h),h2]))) fun h2=>.w (kN (akq hO p.1 p.2 (hp _ iD) (lT h)) 0 h2) (.v false (by rw[<-Es (lT h),h2])))
def a7H:fF aG:=dw 157 (a3 iA iA qO) tA (fun p=>mZ p.2.2 p.1 p.2.1) (fun p=>[p.2.2.length<=au]) adt
theorem aks:Gd a7H:=akr.deep 3 fun n hn hO p hp=>by have h1:∀x,dG X0 Qp (iE (n-3+1)) (.fn 188 [] [.ptr 0 0 1,.ptr 1 0 1]) [.int .i64 x] [.cells [.int .i64 p.1],.cells [.int .i64 p.2.1]] (tA.put (wB x p.1 p.2.1)) [.cells [.int .i64 p.1],.cells [.int .i64 p.2.1]]:=fun x=>jq gJ (first:=[]) (.ssh (fun _=>.sr) (fun _=>.sr));obtain⟨n,rfl⟩:∃k,n=k+3:=⟨n-3,by omega⟩;rw[show n+3-3+1=n+1 by omega]at h1;have h2:=ajk (n:=n+2) (by omega) (g:=fun x=>wB x p.1 p.2.1) h1 p.2.2 (hp _ iD);exact aP (hO _ (by omega)) (.k h2 (.v (!(mY (fun x=>wB x p.1 p.2.1) p.2.2)) (by rw[Ep];rfl)))
def a1X(s:LI0):Int:=aO (fun k n=>i64.wrap (n*s.getD k 0)) s.length 0 1
theorem XT:∀{s:LI0},kU s->aY s<=12^s.length
 | [],_=>by decide
 |a::t,h=>by have h1:=XT h.tail;have h2:=iV h.tail;have h3:=h a (.head _);have h4:a*aY t<=12*aY t:=a8Y h3.2 (by omega);show a*aY t<=12^(t.length+1);rw[Int.pow_succ];omega
theorem akt:∀{n:Nat},n<=6->(12:Int)^n<=2985984:=by decide
theorem a7I{s:LI0}(h:kU s)(hl:s.length<=6):a1X s=aY s:=by
 have:=bK (g:=fun k n=>i64.wrap (n*s.getD k 0)) (m:=s.length) (k:=0) (s:=1) (fun k n=>n=aY (s.take k)) (by simp[aY]) (fun j n _ hj e=>by
  have sF:j<s.length:=by omega
  have e2:aY (s.take (j+1))=n*s.getD j 0:=by rw[a8s sF,Em,e];simp[aY,List.getD,a0d sF]
  have h1:=QI h (j+1);have h2:1<=aY (s.take (j+1)):=iV fun a ha=>h a (a9L ha);have h3:=XT h;have h4:=akt hl;show i64.wrap (n*s.getD j 0)=_;rw[e2]at h1 h2 ⊢;exact fQ (by omega) (by omega))
 rw[a1X,this];simp
abbrev ab3(a b:LI0)(p i:Int)(x:List (Nat×PE aG)):aU aG:=⟨[(0,xL 3 a),(1,xL 3 b),(5,xi p),(17,xL 3 a),(18,xi a.length),(19,xi i)]++x,[],[]⟩
theorem apF{n:Nat}{fV:fF aG}(hO:Ok n fV)(a b:LI0)(hl:a.length<=au):Lp n 105 0 (ab3 a b 1 0 []) (.exit 1) (ab3 a b (a1X a) a.length [(20,xl false)]):=
 P9 (st:=fun i n=>ab3 a b n i []) (fin:=fun n=>ab3 a b n a.length [(20,xl false)]) (fun _ _=>True) (by kernel_rfl) hl Tq trivial (fun _ _ _ _=>trivial) (fun k s hk _ n e p h=>aN hO (.b (bD hk) (.o (aH hk) (.go h)))) (fun s _=>aN hO (.b (fO a.length) .ex))
theorem afU{n:Nat}(hO:Ok n a7H)(l:LI0)(hl:l.length<=au):iW n (.fn 125 [] []) [.dJ 3 l false] [] (.own 0) (lsI l):=
 pR.ab1 hX (hO 125 [.dJ 3 l false] (.own 0) (lsI l) [l.length<=au] (by kernel_rfl) (List.forall_mem_singleton.2 hl)) rfl rfl rfl rfl
theorem a7J(n:Nat):(dO n).Pairwise fun a b=>decide (a<=b)=true:=by unfold dO;rw[agw];exact List.pairwise_lt_range.imp fun h=>by simp;omega
theorem a3Z{n:Nat}{o:LI0}:decide (gX o=dO n)=kE n o:=by
 rw[a5c,a0S];have h2:=Tt n;have hp:(gX o).Perm o:=aep _ _;constructor
 .intro h;rw[h]at hp;unfold kE at h2 ⊢;rw[a0S]at h2 ⊢;exact⟨by rw[<-hp.length_eq,h2.1],fun a ha=>h2.2.1 a (hp.mem_iff.2 ha),hp.nodup_iff.1 h2.2.2⟩
 intro h;unfold kE at h h2;rw[a0S]at h h2;have e:o.Perm (dO n):=(a7B h.2.2 h2.2.2).2 fun a=>by
  have hm:∀x,0<=x∧x<(n:Int)->x∈dO n:=fun x hx=>by unfold dO;rw[a0P];exact⟨x.toNat,by rw[a4V];omega,by omega⟩
  constructor
  .exact fun ha=>hm a (h.2.1 a ha)
  intro ha;by_cases hc:a∈o
  .exact hc
  have:=ae3 (l₁:=a::o) (l₂:=dO n) (a4U.2 ⟨hc,h.2.2⟩) (fun x hx=>by
   rcases a1z.1 hx with rfl|hx
   .exact ha
   exact hm x (h.2.1 x hx))
  rw[lU]at this;simp at this;omega
 refine List.Perm.eq_of_pairwise (le:=fun a b=>decide (a<=b)=true) (fun a b _ _ h1 h2=>by simp at h1 h2;omega) ?_ (a7J n) (hp.trans e);exact List.pairwise_mergeSort (fun a b c h1 h2=>by simp at h1 h2 ⊢;omega) (fun a b=>by simp;omega) o
def XU(s o:LI0):Int:=if decide ((s.length:Int)>6)=true then 5 else if(!(mZ s 1 12))=true then 3 else if decide (a1X s>2000)=true then 5 else if(!(decide (gX o=dO s.length)))=true then 4 else 0
theorem XV(s o:LI0):XU s o=bV s o:=by
 rw[PN];unfold XU;rw[a3Z];by_cases h1:6<s.length
 .rw[a0A (by simp;omega),a0A h1]
 rw[a0y (by simp;omega),a0y h1];have hw:mZ s 1 12=decide (kU s):=by
  unfold mZ;rw[a5c,a9o,List.any_eq_false,a0S];refine ach fun a=>ach fun _=>?_;unfold wB;split
  .rename_i h;simp at h ⊢;omega
  rename_i h;simp at h ⊢;omega
 rw[hw];by_cases h2:kU s
 .rw[a0y (by simp[h2]),a0A h2,a7I h2 (by omega)];simp only[a0S,Int.not_lt,gt_iff_lt];split
  .rfl
  cases kE s.length o<;>simp
 rw[a0A (by simp[h2]),a0y h2]
def adu:fF aG:=dw 105 (a2 qO qO) iA (fun p=>bV p.1 p.2) (fun p=>[p.1.length<=au,p.2.length<=2^20]) a7H
theorem aku:Gd adu:=aks.deep 1 fun n hn hO p hp=>by
 obtain⟨n,rfl⟩:∃k,n=k+1:=⟨n-1,by omega⟩;have hO:=hO (n+1) (by omega);have h1:p.1.length<=au:=hp _ iD;have h2:p.2.length<=2^20:=hp _ Ah;have h3:p.2.length<=au:=by unfold au;omega
 have h4:(dO p.1.length).length<=au:=by rw[lU];exact h1
 have h5:(gX p.2).length<=au:=by unfold gX;rw[aau];exact h3
 show pR X0 Qp _ _ _ (iA.put (bV p.1 p.2)) _;rw[<-XV];exact aP hO (.ss .rr (.o h1 (.ss .rr (.w (apF hO p.1 p.2 h1) (.ss .rr (.fr [] (afU hO p.2 h3) (.fr [0] (adq (n:=n) (k:=false) (ex:=false) p.2 h2) (.o (show(0:Int)<=(p.1.length:Int) by omega) (.o (show(p.1.length:Int)<=(au:Int) by omega) (.o h5 (.ss .rr .rr)))))))))))
open Go Tw Pv bQ
theorem XW{α:Type}(x:α):[x].length<=au:=by unfold au;simp
def qK(v:V):Bool:=if decide (v.f>0)=true then(if decide (v.f<=4)=true then v.n==0 else false)else mZ [v.n] (-9999) 9999
def adv:fF aG:=dw 190 (a1 vA) tA (fun p=>qK p) np adu
theorem akv:Gd adv:=aku.add fun n hO p hp=>aP hO (.ss (.ss .rr .rr) (.o (XW p.n) .rr))
abbrev frA:UZ X0 Qp (LI0×LI0):=a2 qO qO
abbrev cIx(l:LI0)(v:Int)(k:Nat):Bool:=v==l.getD k 0
abbrev afV(l:LI0)(v:Int)(i:Int)(x:List (Nat×PE aG)):aU aG:=⟨[(0,xL 3 l),(1,xi v),(7,xi l.length),(8,xi i)]++x,[],[]⟩
def z234(l:LI0)(v:Int):Unit⊕Nat->Ex×aU aG
 |.inl _=>(.exit 0,afV l v l.length [(9,xl false)])
 |.inr k=>(.ret,⟨[(4,xi k)],[],[]⟩)
theorem akw{n:Nat}{fV:fF aG}(hO:Ok n fV)(l:LI0)(v:Int)(hl:l.length<=au):Lp n 234 0 (afV l v 0 []) (z234 l v (bM (cIx l v) l.length)).1 (z234 l v (bM (cIx l v) l.length)).2:=
 jm (st:=fun i _=>afV l v i []) (fun _ _=>True) (by kernel_rfl) hl trivial (fun k s m hk _ ih=>aN hO (.b (bD hk) (.o (aH hk) (.ls (.ou nofun) (.nx (ih _ trivial)))))) (fun s _=>aN hO (.b (fO l.length) (.ou nofun)))
def nJ(l:LI0)(v:Int):Int:=if kR (bM (cIx l v) l.length)=true then -1 else((Dk 0 (bM (cIx l v) l.length):Nat):Int)
def adx:fF aG:=dw 234 (a2 qO iA) iA (fun p=>nJ p.1 p.2) (fun p=>[p.1.length<=au]) adv
theorem akx:Gd adx:=akv.add fun n hO p hp=>aP hO (.zh (fun h=>.w (kM (akw hO p.1 p.2 (hp _ iD)) () h) .rr) fun h=>.w (kN (akw hO p.1 p.2 (hp _ iD)) 0 h) .rr)
def ady:fF aG:=dw 223 (a2 (a6S (a2 qO qO)) iA) iA (fun p=>nJ p.1.2 p.2) (fun p=>[p.1.2.length<=au]) adx
theorem aky:Gd ady:=akx.add fun n hO p hp=>aP hO (.o (hp _ iD) .rr)
def adz:fF aG:=dw 197 (a1 iA) iA (fun p=>i64.wrap (-1-p)) np ady
theorem akz:Gd adz:=aky.add fun n hO p hp=>aP hO .rr
structure Lo where
 s:LI0
 o:LI0
 d:Dg
abbrev Lo.ps(l:Lo):List (PV aG):=[.dJ 3 l.s false,.dJ 3 l.o false]++l.d.ps
def loA:Arg Lo:=afl (a6S (LK qO (LK qO (LK qO (a4 qO vsA aaH iA))))) (fun p=>⟨p.1,p.2.1,⟨p.2.2.1,p.2.2.2.1,p.2.2.2.2.1,p.2.2.2.2.2.1,p.2.2.2.2.2.2⟩⟩) (fun l=>(l.s,l.o,l.d.ah,l.d.aB,l.d.aJ,l.d.aj,l.d.root)) fun _=>rfl
def qx(l:Lo)(zT below LP:Int):Bool:=if decide (zT<0)=true then decide (i64.wrap (-1-zT)<(l.d.aJ.length:Int))else if decide (zT<below)=true then decide (nJ l.o (l.d.aj.getD zT.toNat jZ).var>LP)else false
def XY:fF aG:=dw 193 (a4 loA iA iA iA) tA (fun p=>qx p.1 p.2.1 p.2.2.1 p.2.2.2) (fun p=>[p.1.o.length<=au,0<=p.2.1->p.2.1<p.2.2.1->fK p.2.1 p.1.d.aj.length]) adz
theorem akA:Gd XY:=akz.add fun n hO p hp=>aP hO (.sh (fun _=>.rr) fun h=>.sh (fun h2=>.o (hp (0<=p.2.1->p.2.1<p.2.2.1->fK p.2.1 p.1.d.aj.length) (.tail _ (.head _)) (by simpa using h) (by simpa using h2)) (.o (hp _ iD) .rr)) fun _=>.rr)
abbrev Hb(l:Lo)(i:Int)(b:Br):List (PB aG):=[.cells l.ps,.cells [.int .i64 i],.cells b.ps]
theorem apG{n f:Nat}{a c:List (PV aG)}{H:List (PB aG)}{g:Int->Bool}(l:LI0)(hf:∀x∈l,iW n (.fn f a c) [.int .i64 x] H (.bool (g x)) H)(hl:l.length<=au):iW (n+1) (.fn 218 [] []) [.dJ 3 l false,.fn f a c] H (iA.put (rU g l)) H:=by
 have lp:Nr n 218 0 H.length (a7t f a c H l 0 []) (z218 f a c H l (mW (qh g) l 0 ())).1 (z218 f a c H l (mW (qh g) l 0 ())).2:=
  Xl (st:=fun i _=>a7t f a c H l i []) (0:Int) (fun _ _=>True) (by kernel_rfl) hl Tq trivial (fun k s n hk _ ih=>aN gJ (.b (bD hk) (.o (aH hk) (.k (hf (l.getD k (0:Int)) (cu hk)) (.ls (.ou nofun) (.nx (ih _ trivial))))))) (fun s _=>aN gJ (.b (fO l.length) (.ou nofun)))
 exact jq gJ (first:=[]) (cap:=[]) (.szh (fun h=>.w (kM lp () h) .sr) (fun h=>.w (kN lp (0,0,()) h) .sr))
theorem akB{n f:Nat}{a c:List (PV aG)}{H:List (PB aG)}{g:Int->Bool}(l:LI0)(hf:∀x∈l,iW n (.fn f a c) [.int .i64 x] H (.bool (g x)) H)(hl:l.length<=au):iW (n+2) (.fn 181 [] []) [.dJ 3 l false,.fn f a c] H (tA.put (l.any g)) H:=by have h1:=apG l hf hl;have h2:=Ep g l;rw[<-h2];exact jq gJ (first:=[]) (cap:=[]) (.k h1 .sr)
theorem Et{α:Type}(l:List α)(g:α->Bool):(!(l.any fun x=>!(g x)))=l.all g:=by
 induction l with
 |nil=>rfl
 |cons a l ih=>simp only[adP,acf,Bool.not_or,Bool.not_not,ih]
abbrev pB:List (PV aG):=[.ptr 0 0 7,.ptr 1 0 1,.ptr 2 0 2]
theorem apH{n f:Nat}{l:Lo}{i:Int}{b:Br}{g:Int->Bool}(ks:LI0)(hf:∀x∈ks,iW n (.fn f [] pB) [.int .i64 x] (Hb l i b) (tA.put (g x)) (Hb l i b))(hl:ks.length<=au):iW (n+4) (.fn 191 [] []) [.dJ 3 ks false,.fn f [] pB] (Hb l i b) (tA.put (ks.all g)) (Hb l i b):=by
 have h1:∀x∈ks,iW (n+1) (.fn 221 [] [.ptr 3 0 1]) [.int .i64 x] (Hb l i b++[.cells [.fn f [] pB]]) (tA.put (!(g x))) (Hb l i b++[.cells [.fn f [] pB]]):=fun x hx=>
  jq gJ (first:=[]) (.fr [0,1,2] (hf x hx) .sr)
 have h2:=akB ks h1 hl;rw[<-Et ks g];exact dG.drop hX (Dj hX gJ (first:=[]) (cap:=[]) (H1:=Hb l i b++[.cells [.fn f [] pB]]) (by kernel_rfl) (.k h2 .sr)) rfl rfl
theorem a1Y{x a b:Int}:mZ [x] a b=decide (a<=x∧x<=b):=by
 unfold mZ wB;simp only[adP,List.any_nil,Bool.or_false];by_cases h:x<a
 .rw[a0A (by simpa using h),a9w,eq_comm,a3b];omega
 rw[a0y (by simpa using h),a5c,a9o,a3b,a0S];omega
theorem XZ{l:List Br}{k:Nat}(h:k<l.length):l.getD k jZ∈l:=by simp[List.getD,a0d h]
abbrev xH(l:Lo)(i:Int):Br:=l.d.aj.getD i.toNat jZ
def Gl(l:Lo)(i:Int):Bool:=if(!(mZ [(xH l i).var] 0 (xw l.s)))=true then false else if(((xH l i).aA.length:Int) != l.s.getD (xH l i).var.toNat 0)=true then false else(xH l i).aA.all fun x=>qx l x i (nJ l.o (xH l i).var)
theorem akC{n:Nat}(hO:∀m,n<=m->Ok m XY){l:Lo}{i:Int}(ho:l.o.length<=au)(hf:uO l.s)(hi:fK i l.d.aj.length):iW (n+6) (.fn 192 [.agg l.ps] []) [.int .i64 i] [] (tA.put (Gl l i)) []:=by
 have h1:∀x∈(xH l i).aA,iW (n+1) (.fn 222 [] pB) [.int .i64 x] (Hb l i (xH l i)) (tA.put (qx l x i (nJ l.o (xH l i).var))) (Hb l i (xH l i)):=fun x _=>
  jq (hO n (a0K _)) (first:=[]) (.o ho (.o ho (.o (show 0<=x->x<i->fK x l.d.aj.length from fun h0 h1=>⟨h0,by have:=hi.1;have:=hi.2;omega⟩) .sr)))
 have hv:(!(mZ [(xH l i).var] 0 (xw l.s)))=false->fK (xH l i).var l.s.length:=fun h=>by rw[a1Y,ae0,a0S,a7v hf.ajd]at h;exact⟨h.1,by omega⟩
 have hk:(!(mZ [(xH l i).var] 0 (xw l.s)))=false->(((xH l i).aA.length:Int) != l.s.getD (xH l i).var.toNat 0)=false->(xH l i).aA.length<=au:=fun h h2=>by
  have h3:=hv h;have h4:=hf.sz _ (cu (s:=l.s) (k:=(xH l i).var.toNat) (by have:=h3.2;have:=h3.1;omega));have h2:((xH l i).aA.length:Int)=l.s.getD (xH l i).var.toNat 0:=by simpa using h2
  exact m12 (by omega)
 exact dG.drop hX (Dj hX (hO (n+5) (by omega)) (first:=[.agg l.ps]) (cap:=[]) (H1:=Hb l i (xH l i)++[.list true true 3 [(xH l i).var]]) (by kernel_rfl) (.o hi (.o (XW (xH l i).var) (.ssh (fun _=>.sr) fun h5=>.o (hv h5) (.ssh (fun _=>.sr) fun h6=>.fr [0,1,2] (apH (xH l i).aA h1 (hk h5 h6)) .sr))))) rfl rfl
abbrev a4a(f:Nat)(a:List (PV aG)):List (PB aG):=[.cells [.fn f a []]]
theorem akD{n:Nat}{l:Lo}{g:Int->Bool}(ks:LI0)(hf:∀x∈ks,iW n (.fn 192 [.agg l.ps] []) [.int .i64 x] [] (tA.put (g x)) [])(hl:ks.length<=au):iW (n+4) (.fn 191 [] []) [.dJ 3 ks false,.fn 192 [.agg l.ps] []] [] (tA.put (ks.all g)) []:=by
 have h1:∀x∈ks,iW (n+1) (.fn 221 [] [.ptr 0 0 1]) [.int .i64 x] (a4a 192 [.agg l.ps]) (tA.put (!(g x))) (a4a 192 [.agg l.ps]):=fun x hx=>
  jq gJ (first:=[]) (.fr [] (hf x hx) .sr)
 have h2:=akB ks h1 hl;rw[<-Et ks g];exact dG.drop hX (Dj hX gJ (first:=[]) (cap:=[]) (H1:=a4a 192 [.agg l.ps]) (by kernel_rfl) (.k h2 .sr)) rfl rfl
theorem apI{n:Nat}(hO:Ok n XY)(l:List V)(hl:l.length<=au):iW (n+4) (.fn 189 [] []) [.dJ 39 l false,.fn 190 [] []] [] (tA.put (l.all qK)) []:=by
 have h1:∀x:V,iW (n+1) (.fn 220 [] [.ptr 0 0 1]) [.agg x.ps] (a4a 190 []) (tA.put (!(qK x))) (a4a 190 []):=fun x=>
  jq hO (first:=[]) .sr
 have h2:=afI (n:=n+2) (by omega) (g:=fun x=>!(qK x)) h1 l hl;rw[<-Et l,<-Jy];exact dG.drop hX (Dj hX gJ (first:=[]) (cap:=[]) (H1:=a4a 190 []) (by kernel_rfl) (.k h2 .sr)) rfl rfl
theorem apJ{n:Nat}(hO:Ok n XY)(m:Nat)(hm:m<=au):iW n (.fn 159 [] []) [.int .i64 m] [] (qO.put (dO m)) []:=
 pR.ab1 hX (hO 159 [.int .i64 m] (qO.put (dO m)) [] [0<=(m:Int),(m:Int)<=(au:Int)] (by kernel_rfl) (by
  intro q hq;rcases a1z.1 hq with rfl|hq
  .omega
  .rw[a2O.1 hq];omega)) rfl rfl rfl rfl
theorem a1Z{x:Int}{m:Nat}(h:x∈dO m):fK x m:=by simp only[dO,a0P,a4V]at h;obtain⟨k,hk,rfl⟩:=h;exact aH hk
abbrev yY(d:Dg):Lo:=⟨d.ah,d.aB,d⟩
abbrev lo0:Lo:=⟨[],[],⟨[],[],[],[],0⟩⟩
def bF(d:Dg):Lo×Int:=if(bV d.ah d.aB != 0)=true then(lo0,bV d.ah d.aB)else if decide ((d.aj.length:Int)>6000)=true then(yY d,5)else if(!(d.aJ.all qK))=true then(yY d,4)else if(!((dO d.aj.length).all (Gl (yY d))))=true then(yY d,4)else if(!(qx (yY d) d.root d.aj.length (-1)))=true then(yY d,4)else(yY d,0)
def DL:fF aG:=dw 160 (a1 dA) (dU (a2 loA iA)) (fun p=>bF p) (fun p=>[p.ah.length<=au,p.aB.length<=2^20,p.aJ.length<=au]) XY
theorem adA:Gd DL:=akA.deep 11 fun n hn hO d hp=>by
 obtain⟨n,rfl⟩:∃k,n=k+10:=⟨n-10,by omega⟩;have h1:d.ah.length<=au:=hp _ iD;have h2:d.aB.length<=2^20:=hp _ Ah;have h3:d.aJ.length<=au:=hp _ hh2;have ho:d.aB.length<=au:=by unfold au;omega
 have hO:∀m,n<=m->Ok m _:=fun m hm=>hO m (by omega);have hI:(bV d.ah d.aB != 0)=false->∀x∈dO d.aj.length,iW (n+6) (.fn 192 [.agg (yY d).ps] []) [.int .i64 x] [] (tA.put (Gl (yY d) x)) []:=fun h x hx=>akC hO (l:=yY d) ho (Ba h) (a1Z hx);have hR:0<=d.root->d.root<(d.aj.length:Int)->fK d.root d.aj.length:=fun a b=>⟨a,by omega⟩;have hL:decide ((d.aj.length:Int)>6000)=false->(dO d.aj.length).length<=au:=fun h=>by rw[lU];exact Vd h
 exact aP (hO (n+10) (by omega)) (.o h1 (.o h2 (.sh (fun _=>.rn (.dI [.agg [.nil .aQ,.nil .aQ,.nil .aQ,.nil .aQ,.nil .aQ,.nil .aQ,.int .i64 0],.int .i64 (bV d.ah d.aB)]) rfl) fun h=>.sh (fun _=>.rr) fun h4=>.fr [] (apI (n:=n+6) (hO (n+6) (by omega)) d.aJ h3) (.ss .rr (.fr [] (apJ (hO (n+10) (by omega)) d.aj.length (Vd h4)) (.fr [] (akD (l:=yY d) (n:=n+6) (dO d.aj.length) (hI h) (hL h4)) (.ss .rr (.o ho (.o hR (.ss .rr .rr))))))))))
open Go Tw Pv bQ
def Gm(x:Int):Prop:=-(2^63)<=x∧x<2^63
structure Ij(d:Dg):Prop where
 zT:∀i,i<d.aj.length->∀k,k<(fD d i).aA.length->Gm ((fD d i).aA.getD k 0)
 root:Gm d.root
 fault:∀v∈d.aJ,0<=v.f
theorem lX{n:Nat}{o:LI0}(h:kE n o=true){v:Int}(hv:fK v n):v∈o:=by
 unfold kE at h;rw[a0S]at h;obtain⟨h0,h1⟩:=hv;by_cases hc:v∈o
 .exact hc
 have:=ae3 (l₁:=v::o) (l₂:=dO n) (a4U.2 ⟨hc,h.2.2⟩) (fun x hx=>by
  have:0<=x∧x<(n:Int):=by
   rcases a1z.1 hx with rfl|hx
   .exact⟨h0,by omega⟩
   exact h.2.1 x hx
  unfold dO;rw[a0P];exact⟨x.toNat,by rw[a4V];omega,by omega⟩)
 rw[lU]at this;simp at this;omega
theorem rZ{l:LI0}{k:Nat}(h:k<l.length):l.getD k 0=l[k]:=by simp[List.getD,a0d h]
theorem a2a{l:LI0}{v:Int}(h:v∈l):kR (bM (cIx l v) l.length)=false:=by
 cases e:kR (bM (cIx l v) l.length)
 .rfl
 obtain⟨j,hj,e2⟩:=a5h.1 h;have:=dQ.1 e j hj;simp[cIx,List.getD,a0d hj,e2]at this
theorem a7K{d:Dg}{r:Int}:PO d r=cIx d.aB (ay d r).var:=by funext k;exact BEq.comm
theorem Vf{d:Dg}{r:Int}(h0:0<=r)(h:(ay d r).var∈d.aB):uj d r=nJ d.aB (ay d r).var:=by unfold uj nJ;rw[a0y (by rw[a0S];omega),a7K,a2a h,a0y (by decide),a0y (by decide)]
theorem akE{l:LI0}{v:Int}(h:v∈l):nJ l v<(l.length:Int):=by unfold nJ;rw[a2a h,a0y (by simp)];obtain⟨j,h1,_,_,h2⟩:=Nc (a2a h);rw[h2];show(j:Int)<_;omega
theorem PU{x a b:Int}:mZ [x] a b=nI x a b:=by rw[a1Y,a5c,vY,a0S]
theorem a7L{v:V}(h:0<=v.f):qK v=vOk v:=by rw[afL h];unfold qK vIs;rw[PU]
theorem afW{z:Int}(h:Gm z):i64.wrap z=z:=by
 obtain⟨h0,h1⟩:=h;simp only[IntKind.wrap,IntKind.bits,IntKind.signed];rcases Int.lt_or_le z 0 with h|h
 .have:z%(2^64:Int)=z+2^64:=by have:=acg z (2^64) 1;rw[acy]at this;rw[<-this];exact a6T (by omega) (by omega)
  simp only[this];rw[a0A (by simp;omega)];omega
 have:z%(2^64:Int)=z:=a6T h (by omega);simp only[this];rw[a0y (by simp;omega)]
theorem Ns{x:Int}(h:Gm x)(h0:x<0):i64.wrap (-1-x)=-1-x:=by have h1:=h.1;exact afW ⟨by omega,by omega⟩
theorem ab4{d:Dg}{x:Int}(below:Int)(h:Gm x)(h0:x<0)(he:d.aJ.length<=au):iP d x below=decide (i64.wrap (-1-x)<(d.aJ.length:Int)):=by
 have he:d.aJ.length<=2^60:=by unfold au at he;omega
 unfold iP;rw[a0y (by simp;omega),Ns h h0,a5c,vY,a0S];by_cases h1:d.aJ.length=0
 .rw[h1,show i64.wrap (((0:Nat):Int)-1)=-1 by decide];omega
 rw[fQ (by omega) (by omega)];omega
theorem akF{l:LI0}{v:Int}(h:v∈l):0<=nJ l v:=by unfold nJ;rw[a2a h,a0y (by simp)];omega
theorem afX{d:Dg}{x below LP:Int}(h0:0<=x)(hv:x<below->(ay d x).var∈d.aB):qx (yY d) x below LP=(iP d x below&&decide (LP<uj d x)):=by
 unfold qx iP;rw[a0y (show ¬(decide (x<0)=true) by rw[a0S];omega),a0A (show decide (x>=0)=true by rw[a0S];omega)];by_cases h1:x<below
 .rw[a0A (show decide (x<below)=true by rw[a0S];exact h1),Vf h0 (hv h1),decide_eq_true h1,adN]
 rw[a0y (show ¬(decide (x<below)=true) by rw[a0S];exact h1),aeF h1,Bool.false_and]
theorem afY{d:Dg}{x below LP:Int}(h:Gm x)(h0:x<0)(he:d.aJ.length<=au)(hr:LP<(d.aB.length:Int)):qx (yY d) x below LP=(iP d x below&&decide (LP<uj d x)):=by rw[ab4 _ h h0 he];unfold qx uj;rw[a0A (by rw[a0S];exact h0),a0A (by rw[a0S];exact h0),decide_eq_true hr,ahH]
theorem a7M{d:Dg}{x below LP:Int}(h:Gm x)(he:d.aJ.length<=au)(hr:LP<(d.aB.length:Int))(hv:0<=x->x<below->(ay d x).var∈d.aB):qx (yY d) x below LP=(iP d x below&&decide (LP<uj d x)):=by
 by_cases h0:0<=x
 .exact afX h0 (hv h0)
 exact afY h (by omega) he hr
theorem a7N{d:Dg}(h:Ij d)(he:d.aJ.length<=au)(hv:∀r,fK r d.aj.length->(ay d r).var∈d.aB):qx (yY d) d.root d.aj.length (-1)=iP d d.root d.aj.length:=by
 rw[a7M h.root he (by omega) (fun a b=>hv _ ⟨a,by omega⟩)];cases e:iP d d.root d.aj.length
 .rfl
 rw[adN,a0S];by_cases h0:0<=d.root
 .have:=XP e h0 (a0K _);rw[Vf h0 (hv _ this)];have:=akF (hv _ this);omega
 unfold uj;rw[a0A (by rw[a0S];omega)];omega
theorem adB{d:Dg}(h:Ij d)(he:d.aJ.length<=au){i:Nat}(hi:i<d.aj.length)(hf:uO d.ah)(ho:kE d.ah.length d.aB=true)(hv:∀j,j<i->(fD d j).var∈d.aB):Gl (yY d) i=!(cLn d i):=by
 have e0:xH (yY d) i=fD d i:=rfl;unfold Gl cLn;rw[e0];show(if(!(mZ [(fD d i).var] 0 (xw d.ah)))=true then false else if(((fD d i).aA.length:Int) != d.ah.getD (fD d i).var.toNat 0)=true then false else _)=_;rw[PU];cases e1:nI (fD d i).var 0 (xw d.ah)
 .rfl
 have hvi:(fD d i).var∈d.aB:=lX ho (JE hf e1);have apK:(ay d (i:Int)).var∈d.aB:=hvi;simp only[a9w,a2r,a3y];split
 .rfl
 have CX:((fD d i).aA.all fun x=>qx (yY d) x i (nJ (yY d).o (fD d i).var))=kR (bM (cLk d i) (fD d i).aA.length):=by
  rw[a5c,a5a,dQ];have hk:∀k,k<(fD d i).aA.length->(qx (yY d) ((fD d i).aA.getD k 0) i (nJ d.aB (fD d i).var)=true↔cLk d i k=false):=fun k hk=>by
   rw[a7M (h.zT i hi k hk) he (akE hvi) (fun a b=>hv _ (by omega)),a1R,a0S];unfold cLk;rw[show uj d (i:Int)=nJ d.aB (fD d i).var from Vf (by omega) apK];cases iP d ((fD d i).aA.getD k 0) i
   .simp
   simp<;>omega
  constructor
  .intro a k KF;exact(hk k KF).1 (a _ (cu KF))
  intro a x hx;obtain⟨k,KF,rfl⟩:=a5h.1 hx;have:=(hk k KF).2 (a k KF);rw[rZ KF]at this;exact this
 rw[CX];cases kR (bM (cLk d i) (fD d i).aA.length)<;>rfl
theorem afZ{d:Dg}(h:Ij d)(he:d.aJ.length<=au)(hf:uO d.ah)(ho:kE d.ah.length d.aB=true):(dO d.aj.length).all (Gl (yY d))=kR (bM (cLn d) d.aj.length):=by
 have akG:∀i,cLn d i=false->(fD d i).var∈d.aB:=fun i hc=>by
  unfold cLn at hc;split at hc
  .cases hc
  rename_i e;exact lX ho (JE hf (by simpa using e))
 have key:∀i,i<=d.aj.length->((∀j,j<i->Gl (yY d) j=true)↔∀j,j<i->cLn d j=false):=by
  intro i
  induction i with
  |zero=>intro _;exact⟨fun _ j hj=>absurd hj (by omega),fun _ j hj=>absurd hj (by omega)⟩
  |succ i ih=>
   intro hi;have ih:=ih (by omega);constructor
   .intro a;have b:=ih.1 fun j hj=>a j (by omega);intro j hj;by_cases hji:j<i
    .exact b j hji
    have:j=i:=(by omega);subst this;have:=a j (by omega);rw[adB h he (by omega) hf ho (fun k hk=>akG k (b k hk))]at this;simpa using this
   intro b j hj;by_cases hji:j<i
   .exact ih.2 (fun k hk=>b k (by omega)) j hji
   have:j=i:=(by omega);subst this;rw[adB h he (by omega) hf ho (fun k hk=>akG k (b k (by omega))),b j (by omega)];rfl
 rw[a5c,a5a,dQ,<-key _ (a0K _)];constructor
 .intro a j hj;exact a _ (by unfold dO;rw[a0P];exact⟨j,a4V.2 hj,rfl⟩)
 intro a x hx;simp only[dO,a0P,a4V]at hx;obtain⟨k,hk,rfl⟩:=hx;exact a k hk
theorem ab5{d:Dg}(h:∀v∈d.aJ,0<=v.f):d.aJ.all qK=kR (bM (cLe d) d.aJ.length):=by
 rw[a5c,a5a,dQ];have hg:∀k,(hk:k<d.aJ.length)->d.aJ.getD k V0=d.aJ[k]:=fun k hk=>by simp[List.getD,a0d hk]
 constructor
 .intro a k hk;unfold cLe;rw[hg k hk,<-a7L (h _ (a4X hk)),a _ (a4X hk)];rfl
 intro a x hx;obtain⟨k,hk,rfl⟩:=a5h.1 hx;have:=a k hk;unfold cLe at this;rw[hg k hk,<-a7L (h _ hx)]at this;simpa using this
theorem JI{d:Dg}(h:Ij d)(he:d.aJ.length<=au):bF d=(if(bV d.ah d.aB != 0)=true then lo0 else yY d,aX d):=by
 unfold bF aX;split
 .rfl
 rename_i h1;have WM:=jT.1 (show bV d.ah d.aB=0 by simpa using h1);split
 .rfl
 unfold lW;rw[ab5 h.fault,afZ h he WM.1 WM.2];cases e1:kR (bM (cLe d) d.aJ.length)
 .rfl
 cases e2:kR (bM (cLn d) d.aj.length)
 .rfl
 have hv:∀r,fK r d.aj.length->(ay d r).var∈d.aB:=fun r hr=>by
  have:=dQ.1 e2 r.toNat (by have:=hr.1;have:=hr.2;omega);unfold cLn at this;split at this
  .cases this
  rename_i e;exact lX WM.2 (JE WM.1 (by simpa using e))
 rw[a7N h he hv];simp only[a9w,a2r,a3y,a1P];cases iP d d.root d.aj.length<;>rfl
open Go Tw Pv bQ
def kV:oN X0 Qp 39 V where
 pv x:=.agg x.ps
 tv x:=x.tv
 v x:=.agg #[.int .u8 x.f,.int .i64 x.n]
 hp _:=rfl
 ht _:=rfl
 hc em x:=by kernel_rfl
 hf x l:=a1I afM (fun a b=>a1S 9998 a b) x l
 hk:=a1K afM fun a b=>a1S 9998 a b
def kI:oN X0 Qp 3 Int where
 pv x:=.int .i64 x
 tv x:=.int .i64 x
 v x:=.int .i64 x
 hp _:=rfl
 ht _:=rfl
 hc em x:=by kernel_rfl
 hf x l:=afw a3R x l
 hk:=afx a3R
abbrev zV(E:List V):List (V×PV X0.Γ):=E.zipIdx.map fun e=>(e.1,.int .i64 (e.2:Nat))
abbrev mkC(a b:LI0)(e n:Nat)(r:Int):PB aG:=.cells [.dJ 3 a false,.dJ 3 b false,.own 0,.own 1,.own e,.own n,.int .i64 r,.map 2,.map 3]
abbrev Qr(l:List V):PB aG:=.list false false 39 l
abbrev Qs(l:List Br):PB aG:=.list false false 105 l
abbrev MK(a b:LI0)(E:List V)(nd:List Br)(r:Int)(nm:List (PV aG×PV aG)):List (PB aG):=[.list false false 3 a,.list false false 3 b,.map (kV.es (zV E)),.map nm,mkC a b 5 6 r,Qr E,Qs nd]
abbrev MK'(a b:LI0)(E:List V)(nd:List Br)(r:Int)(nm:List (PV aG×PV aG)):List (PB aG):=[.list false false 3 a,.list false false 3 b,.map (kV.es (zV E)),.map nm,mkC a b 7 8 r,.gone,.gone,Qr E,Qs nd]
theorem TF(E:List V):(zV E).map (·.1)=E:=by unfold zV;rw[a5D];show E.zipIdx.map (·.1)=E;simp
theorem a7O(E:List V)(v:V):zV (E++[v])=zV E++[(v,.int .i64 (E.length:Nat))]:=by unfold zV;rw[List.zipIdx_append,a4K];simp
theorem a7P{E:List V}{v:V}(h:v∈E):(v,(.int .i64 (E.idxOf v:Nat):PV X0.Γ))∈zV E:=by unfold zV;rw[a0P];have hl:=a5b.2 h;exact⟨(v,E.idxOf v),by rw[a9M];simp[a0d hl],rfl⟩
def fB(E:List V)(v:V):List V:=if v∈E then E else E++[v]
theorem Vg{E:List V}{v:V}(h:E.Nodup):(fB E v).Nodup:=by
 unfold fB;split
 .exact h
 rename_i hn;rw[a9n];exact⟨h,by simp,fun x hx y hy=>by rw[a2O]at hy;subst hy;intro e;subst e;exact hn hx⟩
theorem apL{n:Nat}(hO:Ok n DL){a b:LI0}{E:List V}{nd:List Br}{r:Int}{nm:List (PV aG×PV aG)}(v:V)(hE:E.Nodup)(hl:E.length+1<=au):iW (n+1) (.fn 196 [] []) [.ptr 4 0 9,.agg v.ps] (MK a b E nd r nm) (.int .i64 (i64.wrap (-1-(E.idxOf v:Nat)))) (MK' a b (fB E v) nd r nm):=by
 by_cases h:v∈E
 .rw[show fB E v=E from a0A h];have hf:qB X0 Qp 39 (kV.es (zV E)) v.tv (.int .i64 (E.idxOf v:Nat)):=kV.found (by rw[TF];exact hE) (a7P h);exact dG.gs hX (nD hX hO (first:=[]) (cap:=[]) (v:=.int .i64 (i64.wrap (-1-(E.idxOf v:Nat)))) (H1:=MK a b E nd r nm) (by kernel_rfl) (.c (.int .i64 (E.idxOf v:Nat)) [] hf (.b (rfl:(!true)=false) .er))) [.mv 5,.mv 6] rfl
 rw[show fB E v=E++[v]from a0y h,a8e h];have hf:nU X0 Qp 39 (kV.es (zV E)) v.tv:=kV.fresh (by rw[TF];exact h);have em:kV.es (zV (E++[v]))=kV.es (zV E)++[(.agg v.ps,.int .i64 (E.length:Nat))]:=by rw[a7O];exact a4K ..
 show dG X0 Qp _ _ _ _ _ [_,_,.map (kV.es (zV (E++[v]))),_,_,_,_,_,_];rw[em];exact dG.gs hX (nD hX hO (first:=[]) (cap:=[]) (v:=.int .i64 (i64.wrap (-1-(E.length:Nat)))) (H1:=[.list false false 3 a,.list false false 3 b,.map (kV.es (zV E)++[(.agg v.ps,.int .i64 (E.length:Nat))]),.map nm,mkC a b 8 6 r,.gone,Qs nd,.list true true 39 [v],Qr (E++[v])]) (by kernel_rfl) (.a .calm (.o hf (.b (rfl:(!false)=true) (.a .calm (.o (kV.ck v) (.o hf (.o (show E.length+[v].length<=au by simpa using hl) .er)))))))) [.mv 6,.gc [8,9]] rfl
open Go Tw Pv bQ
abbrev oI(k ex:Bool)(l:LI0):PB aG:=.list k ex 3 l
abbrev wOI(f:Nat)(a c:List (PV aG))(k ex:Bool)(R:List (PB aG))(l:LI0)(i:Int)(x:List (Nat×PE aG)):aU aG:=⟨[(0,.val (.own 0)),(1,.val (.fn f a c)),(7,xi l.length),(8,xi i)]++x,[],oI k ex l::R⟩
def zOI(f:Nat)(a c:List (PV aG))(k ex:Bool)(R:List (PB aG))(l:LI0):Unit⊕(Nat×Int×Unit)->Ex×aU aG
 |.inl _=>(.exit 0,wOI f a c k ex R l l.length [(9,xl false)])
 |.inr r=>(.ret,⟨[(4,xi r.1)],[],oI k ex l::R⟩)
theorem qoI{n f:Nat}{a c:List (PV aG)}{ko ex:Bool}{R:List (PB aG)}{g:Int->Bool}(l:LI0)(hf:∀x∈l,iW n (.fn f a c) [.int .i64 x] (oI ko ex l::R) (.bool (g x)) (oI ko ex l::R))(hl:l.length<=au):iW (n+1) (.fn 218 [] []) [.own 0,.fn f a c] (oI ko ex l::R) (iA.put (rU g l)) (oI ko ex l::R):=by
 have lp:Nr n 218 0 (R.length+1) (wOI f a c ko ex R l 0 []) (zOI f a c ko ex R l (mW (qh g) l 0 ())).1 (zOI f a c ko ex R l (mW (qh g) l 0 ())).2:=
  Xl (st:=fun i _=>wOI f a c ko ex R l i []) (0:Int) (fun _ _=>True) (by kernel_rfl) hl Tq trivial (fun k s n hk _ ih=>aN gJ (.b (bD hk) (.o (aH hk) (.k (hf (l.getD k (0:Int)) (cu hk)) (.ls (.ou nofun) (.nx (ih _ trivial))))))) (fun s _=>aN gJ (.b (fO l.length) (.ou nofun)))
 exact jq gJ (first:=[]) (cap:=[]) (.szh (fun h=>.w (kM lp () h) .sr) (fun h=>.w (kN lp (0,0,()) h) .sr))
theorem qoC{n f:Nat}{a c:List (PV aG)}{ko ex:Bool}{R:List (PB aG)}{g:Int->Bool}(l:LI0)(hf:∀x∈l,iW n (.fn f a c) [.int .i64 x] (oI ko ex l::R) (.bool (g x)) (oI ko ex l::R))(hl:l.length<=au):iW (n+2) (.fn 181 [] []) [.own 0,.fn f a c] (oI ko ex l::R) (tA.put (l.any g)) (oI ko ex l::R):=by have h1:=qoI l hf hl;have h2:=Ep g l;rw[<-h2];exact jq gJ (first:=[]) (cap:=[]) (.k h1 .sr)
abbrev Hk(k ex:Bool)(l:LI0):List (PB aG):=[oI k ex l,.cells [.own 0]]
theorem qoA{n f:Nat}{ko ex:Bool}{g:Int->Bool}(l:LI0)(hf:∀x∈l,iW n (.fn f [] [.ptr 1 0 1]) [.int .i64 x] (Hk ko ex l) (tA.put (g x)) (Hk ko ex l))(hl:l.length<=au):iW (n+4) (.fn 191 [] []) [.own 0,.fn f [] [.ptr 1 0 1]] (Hk ko ex l) (tA.put (l.all g)) (Hk ko ex l):=by
 have h1:∀x∈l,iW (n+1) (.fn 221 [] [.ptr 2 0 1]) [.int .i64 x] (Hk ko ex l++[.cells [.fn f [] [.ptr 1 0 1]]]) (tA.put (!(g x))) (Hk ko ex l++[.cells [.fn f [] [.ptr 1 0 1]]]):=fun x hx=>
  jq gJ (first:=[]) (.fr [0,1] (hf x hx) .sr)
 have h2:=qoC (R:=[.cells [.own 0],.cells [.fn f [] [.ptr 1 0 1]]]) l h1 hl;rw[<-Et l g];exact dG.drop hX (Dj hX gJ (first:=[]) (cap:=[]) (H1:=Hk ko ex l++[.cells [.fn f [] [.ptr 1 0 1]]]) (by kernel_rfl) (.k h2 .sr)) rfl rfl
theorem a7Q{n:Nat}{ko ex:Bool}(l:LI0)(hl:l.length<=au):iW (n+5) (.fn 191 [] []) [.own 0,.fn 224 [] [.ptr 1 0 1]] (Hk ko ex l) (tA.put (l.all fun x=>x==l.getD 0 0)) (Hk ko ex l):=
 qoA (n:=n+1) l (fun x hx=>jq gJ (first:=[]) (.o (show fK 0 l.length from⟨by omega,by have:=ah4 hx;omega⟩) .sr)) hl
theorem a7R:∀l:LI0,l.length=12->∃a0 a1 a2 a3 a4 a5 a6 a7 a8 a9 a10 a11:Int,l=[a0,a1,a2,a3,a4,a5,a6,a7,a8,a9,a10,a11]
 | [a0,a1,a2,a3,a4,a5,a6,a7,a8,a9,a10,a11],_=>⟨a0,a1,a2,a3,a4,a5,a6,a7,a8,a9,a10,a11,rfl⟩
 | [],h=>by simp at h
 | [_],h=>by simp at h
 | [_,_],h=>by simp at h
 | [_,_,_],h=>by simp at h
 | [_,_,_,_],h=>by simp at h
 | [_,_,_,_,_],h=>by simp at h
 | [_,_,_,_,_,_],h=>by simp at h
 | [_,_,_,_,_,_,_],h=>by simp at h
 | [_,_,_,_,_,_,_,_],h=>by simp at h
 | [_,_,_,_,_,_,_,_,_],h=>by simp at h
 | [_,_,_,_,_,_,_,_,_,_],h=>by simp at h
 | [_,_,_,_,_,_,_,_,_,_,_],h=>by simp at h
 |_::_::_::_::_::_::_::_::_::_::_::_::_::_,h=>by simp at h
abbrev Ky:=Int×{l:LI0 // l.length=12}
abbrev Ky.l(x:Ky):LI0:=x.1::x.2.val
theorem PW:∀l:LI0,iO (Γ:=aG) (l.map fun x=>PV.int .i64 x)=some (l.map fun x=>TV.int .i64 x)
 | []=>rfl
 |a::l=>by simp only[a4L,iO,qZ,PW l]
theorem TG:∀l:LI0,TV.U3 (l.map fun x=>TV.int .i64 x)=some (l.map fun x=>Value.int .i64 x)
 | []=>rfl
 |a::l=>by simp only[a4L,TV.U3,TV.toC,TG l]
theorem ag0 : Tryz.prog.underlying 223 = some (.struct #[⟨"choice", 3, 0, false, "", "mist/node", 0⟩, ⟨"kids", 221, 1, false, "", "mist/node", 8⟩]) := by kernel_rfl
theorem adD(d:Nat)(a b:Ky):aC Qp (Op.equalIn (d+3) 223 (.agg (Dq .i64 a.l)) (.agg (Dq .i64 b.l)))=some (decide (a=b)):=by
 obtain⟨a1,a2,ha⟩:=a;obtain⟨b1,b2,hb⟩:=b;rw[yD (d+2) 223 _ _ _ ag0 (by kernel_rfl)];have gI:aC Qp (isAgg 3)=some false:=by kernel_rfl
 have gA:aC Qp (isAgg 221)=some true:=by kernel_rfl
 have sA:aC Qp (sizeOf 221)=some 12:=by kernel_rfl
 have sI:aC Qp (sizeOf 3)=some 1:=by kernel_rfl
 have p0:∀x l,aC Qp (part 3 (Dq .i64 (x::l)) 0)=some (.int .i64 x):=fun x l=>Dn gI (Pn (l:=x::l) (by simp));have p1:∀x l,l.length=12->aC Qp (part 221 (Dq .i64 (x::l)) 1)=some (.agg (Dq .i64 l)):=fun x l h=>by
  obtain⟨a0,a1,a2,a3,a4,a5,a6,a7,a8,a9,a10,a11,rfl⟩:=a7R l h
  kernel_rfl
 have q1 := oK (f := ⟨"choice", 3, 0, false, "", "mist/node", 0⟩) (fs := [⟨"kids", 221, 1, false, "", "mist/node", 8⟩]) (by decide) (p0 a1 a2) (p0 b1 b2) (rC (d + 1) _ .i64 _ a1 b1 a3R);have q2 := oK (f := ⟨"kids", 221, 1, false, "", "mist/node", 8⟩) (fs := []) (by decide) (p1 a1 a2 ha) (p1 b1 b2 hb) (BL d (k := .i64) (t := 221) (by kernel_rfl) sI a3R gI ha hb);rw[q1,q2];rw[show aC Qp (Op.eqFields (d+2) (Dq .i64 (a1::a2)) (Dq .i64 (b1::b2)) [])=some true from rfl];by_cases h1:a1=b1<;>by_cases h2:a2=b2<;>simp[h1,h2]
def kK:oN X0 Qp 223 Ky where
 pv x:=.agg (x.l.map fun i=>.int .i64 i)
 tv x:=.agg (x.l.map fun i=>.int .i64 i)
 v x:=.agg (Dq .i64 x.l)
 hp x:=congrArg (Option.map TV.agg) (PW x.l)
 ht x:=congrArg (Option.map fun vs:List LI3=>Value.agg vs.toArray) (TG x.l)
 hc em x:=by
  obtain⟨c,l,h⟩:=x;obtain⟨a0,a1,a2,a3,a4,a5,a6,a7,a8,a9,a10,a11,rfl⟩:=a7R l h
  kernel_rfl
 hf x l:=a1I ag0 (fun a b=>adD 9997 a b) x l
 hk:=a1K ag0 (fun a b=>adD 9997 a b)
open Go Tw Pv bQ
def Ik(l:LI0):LI0:=(l++[0,0,0,0,0,0,0,0,0,0,0,0]).take 12
theorem a7S(l:LI0):(Ik l).length=12:=by unfold Ik;simp
def um(c:Int)(ks:LI0):Ky:=(c,⟨Ik ks,a7S ks⟩)
abbrev Ci(b:Br):Ky:=um b.var b.aA
abbrev yV(nd:List Br):List (Ky×PV X0.Γ):=nd.zipIdx.map fun e=>(Ci e.1,.int .i64 (e.2:Nat))
theorem TI(nd:List Br):(yV nd).map (·.1)=nd.map Ci:=by unfold yV;rw[a5D];show nd.zipIdx.map (Ci∘fun e=>e.1)=_;rw[<-a5D];simp
theorem a7T(nd:List Br)(b:Br):yV (nd++[b])=yV nd++[(Ci b,.int .i64 (nd.length:Nat))]:=by unfold yV;rw[List.zipIdx_append,a4K];simp
theorem a7U{nd:List Br}{k:Ky}(h:k∈nd.map Ci):(k,(.int .i64 ((nd.map Ci).idxOf k:Nat):PV X0.Γ))∈yV nd:=by
 have hl:=a5b.2 h;have Rh:(nd.map Ci).idxOf k<nd.length:=by simpa using hl
 unfold yV;rw[a0P];refine⟨(nd[(nd.map Ci).idxOf k],(nd.map Ci).idxOf k),by rw[a9M];simp[a0d Rh],?_⟩;have:=a90 hl;rw[a9v]at this;show(Ci _,_)=_;rw[this]
def dD(nd:List Br)(c:Int)(ks:LI0):List Br:=if(ks.all fun x=>x==ks.getD 0 0)=true then nd else if um c ks∈nd.map Ci then nd else nd++[⟨c,ks⟩]
def eu(nd:List Br)(c:Int)(ks:LI0):Int:=if(ks.all fun x=>x==ks.getD 0 0)=true then ks.getD 0 0 else((nd.map Ci).idxOf (um c ks):Nat)
abbrev MN(a b:LI0)(E:List V)(nd:List Br)(r:Int):List (PB aG):=MK a b E nd r (kK.es (yV nd))
abbrev MNg(a b:LI0)(E:List V)(nd:List Br)(r:Int)(nm:List (PV aG×PV aG)):List (PB aG):=[.list false false 3 a,.list false false 3 b,.map (kV.es (zV E)),.map nm,mkC a b 8 9 r,.gone,.gone,.gone,Qr E,Qs nd]
abbrev MN'(a b:LI0)(E:List V)(nd:List Br)(r:Int):List (PB aG):=MNg a b E nd r (kK.es (yV nd))
theorem ag2{n:Nat}(hO:Ok (n+5) DL){a b:LI0}{E:List V}{nd:List Br}{r:Int}(c:Int)(ks:LI0)(hk:1<=ks.length∧ks.length<=12)(hf:(ks.all fun x=>x==ks.getD 0 0)=true):iW (n+6) (.fn 198 [] []) [.ptr 4 0 9,.int .i64 c,.own 7] (MN a b E nd r++[oI true true ks]) (.int .i64 (ks.getD 0 0)) (MN' a b E nd r):=by have h1:=nD hX hO (first:=[]) (cap:=[]) (xs:=[.ptr 4 0 9,.int .i64 c,.own 7]) (H:=MN a b E nd r++[oI true true ks]) (v:=.int .i64 (ks.getD 0 0)) (H1:=MN a b E nd r++[oI true true ks,.cells [.own 7]]) (f:=198) (by kernel_rfl) (.fr [7,8] (a7Q (n:=n) (ko:=true) (ex:=true) ks (m12 hk.2)) (.b hf (.o (show fK 0 ks.length from⟨by omega,by omega⟩) .er)));exact dG.forget (dG.gs hX h1 [.mv 5,.mv 6,.gc [9,10]] rfl) 7
abbrev a7V(c:Int)(ks:LI0):PB aG:=.cells ((Ky.l (um c ks)).map fun i=>.int .i64 i)
theorem ag3{n:Nat}(hO:Ok (n+5) DL){a b:LI0}{E:List V}{nd:List Br}{r:Int}(c:Int)(ks:LI0)(hk:1<=ks.length∧ks.length<=12)(hf:(ks.all fun x=>x==ks.getD 0 0)=false)(hN:(nd.map Ci).Nodup)(hm:um c ks∈nd.map Ci):iW (n+6) (.fn 198 [] []) [.ptr 4 0 9,.int .i64 c,.own 7] (MN a b E nd r++[oI true true ks]) (.int .i64 ((nd.map Ci).idxOf (um c ks):Nat)) (MN' a b E nd r):=by
 have hF:qB X0 Qp 223 (kK.es (yV nd)) (kK.tv (um c ks)) (.int .i64 ((nd.map Ci).idxOf (um c ks):Nat)):=kK.found (by rw[TI];exact hN) (a7U hm);have h1:iW (n+6) (.fn 198 [] []) [.ptr 4 0 9,.int .i64 c,.own 7] (MN a b E nd r++[oI true true ks]) (.int .i64 ((nd.map Ci).idxOf (um c ks):Nat)) (MN a b E nd r++[oI true true ks,.cells [.own 7],a7V c ks]):=by generalize (nd.map Ci).idxOf (um c ks)=j at hF ⊢;generalize yV nd=nm at hF ⊢;obtain⟨k1,k2⟩:=hk;rcases ks with _|⟨x0,_|⟨x1,_|⟨x2,_|⟨x3,_|⟨x4,_|⟨x5,_|⟨x6,_|⟨x7,_|⟨x8,_|⟨x9,_|⟨x10,_|⟨x11,_|⟨x12,_⟩⟩⟩⟩⟩⟩⟩⟩⟩⟩⟩⟩⟩<;>first|(exfalso;simp at k1;done)|(exfalso;simp at k2;omega)|(exact fH hO (first:=[]) (cap:=[]) (.fr [7,8] (a7Q (n:=n) (ko:=true) (ex:=true) _ (m12 k2)) (.b hf (.c (.int .i64 (j:Nat)) [] hF (.b (rfl:(!true)=false) .er)))))
 exact dG.forget (dG.gs hX (dG.forget h1 9) [.mv 5,.mv 6,.gc [10,11]] rfl) 7
theorem ag4{n:Nat}(hO:Ok (n+5) DL){a b:LI0}{E:List V}{nd:List Br}{r:Int}(c:Int)(ks:LI0)(hk:1<=ks.length∧ks.length<=12)(hf:(ks.all fun x=>x==ks.getD 0 0)=false)(hm:um c ks∉nd.map Ci)(hl:nd.length+1<=au):iW (n+6) (.fn 198 [] []) [.ptr 4 0 9,.int .i64 c,.own 7] (MN a b E nd r++[oI true true ks]) (.int .i64 (nd.length:Nat)) (MN' a b E (nd++[⟨c,ks⟩]) r):=by
 have hF:nU X0 Qp 223 (kK.es (yV nd)) (kK.tv (um c ks)):=kK.fresh (by rw[TI];exact hm);have hC:=kK.ck (um c ks);have hL:nd.length+([⟨c,ks⟩]:List Br).length<=au:=by simpa using hl
 have em:kK.es (yV (nd++[⟨c,ks⟩]))=kK.es (yV nd)++[(kK.pv (um c ks),.int .i64 (nd.length:Nat))]:=by rw[a7T];exact a4K ..
 show dG X0 Qp _ _ _ _ _ (MNg a b E (nd++[⟨c,ks⟩]) r (kK.es (yV (nd++[⟨c,ks⟩]))));rw[em];have h1:iW (n+6) (.fn 198 [] []) [.ptr 4 0 9,.int .i64 c,.own 7] (MN a b E nd r++[oI true true ks]) (.int .i64 (nd.length:Nat)) [.list false false 3 a,.list false false 3 b,.map (kV.es (zV E)),.map (kK.es (yV nd)++[(kK.pv (um c ks),.int .i64 (nd.length:Nat))]),mkC a b 5 11 r,Qr E,.gone,.gone,.cells [.own 7],a7V c ks,.list true true 105 [⟨c,ks⟩],Qs (nd++[⟨c,ks⟩])]:=by generalize yV nd=nm at hF ⊢;obtain⟨k1,k2⟩:=hk;rcases ks with _|⟨x0,_|⟨x1,_|⟨x2,_|⟨x3,_|⟨x4,_|⟨x5,_|⟨x6,_|⟨x7,_|⟨x8,_|⟨x9,_|⟨x10,_|⟨x11,_|⟨x12,_⟩⟩⟩⟩⟩⟩⟩⟩⟩⟩⟩⟩⟩<;>first|(exfalso;simp at k1;done)|(exfalso;simp at k2;omega)|(exact fH hO (first:=[]) (cap:=[]) (.fr [7,8] (a7Q (n:=n) (ko:=true) (ex:=true) _ (m12 k2)) (.b hf (.q (.bool false) hF (.b (rfl:(!false)=true) (.q (.bool false) hC (.o hF (.o hL .er))))))))
 exact dG.gs hX (dG.forget (dG.forget h1 9) 10) [.mv 5,.gc [12,11]] rfl
theorem akJ{n:Nat}(hO:Ok (n+5) DL){a b:LI0}{E:List V}{nd:List Br}{r:Int}(c:Int)(ks:LI0)(hk:1<=ks.length∧ks.length<=12)(hN:(nd.map Ci).Nodup)(hl:nd.length+1<=au):iW (n+6) (.fn 198 [] []) [.ptr 4 0 9,.int .i64 c,.own 7] (MN a b E nd r++[oI true true ks]) (.int .i64 (eu nd c ks)) (MN' a b E (dD nd c ks) r):=by
 unfold eu dD;cases hf:ks.all fun x=>x==ks.getD 0 0
 .rw[a0y (by simp),a0y (by simp)];by_cases hm:um c ks∈nd.map Ci
  .rw[a0A hm];exact ag3 hO c ks hk hf hN hm
  rw[a0y hm,a8e hm,a4R];exact ag4 hO c ks hk hf hm hl
 rw[a0A rfl,a0A rfl];exact ag2 hO c ks hk hf
theorem QK{nd:List Br}{c:Int}{ks:LI0}(h:(nd.map Ci).Nodup):((dD nd c ks).map Ci).Nodup:=by
 unfold dD;split
 .exact h
 split
 .exact h
 rename_i hn;rw[a4K,a9n];exact⟨h,by simp,fun x hx y hy=>by simp at hy;subst hy;intro e;subst e;exact hn hx⟩
open Go Tw Pv bQ
theorem apO{n:Nat}(hO:Ok n DL)(a b:LI0)(ha:a.length<=au)(hb:b.length<=au):iW (n+1) (.fn 194 [] []) [.agg [.dJ 3 a false,.dJ 3 b false]] [] (.ptr 4 0 9) (MN a b [] [] 0):=
 dG.gs hX (nD hX hO (first:=[]) (cap:=[]) (v:=.ptr 4 0 9) (H1:=[.list false false 3 a,.list false false 3 b,.map [],.map [],.cells [.dJ 3 a false,.dJ 3 b false,.own 0,.own 1,.nil .aQ,.nil .aQ,.int .i64 0,.map 2,.map 3]]) (by kernel_rfl) (.o ha (.o hb .er))) [.UE 4 4 39,.UE 4 5 105] rfl
structure Cs where
 e:List V
 n:List Br
 k:List (Int×Int)
abbrev LQ(k:List (Int×Int)):List (Int×PV X0.Γ):=k.map fun p=>(p.1,.int .i64 p.2)
abbrev pC:List (PV aG):=[.ptr 8 0 1,.ptr 7 0 7,.ptr 10 0 1,.ptr 11 0 1]
abbrev adE(l:Lo)(k:List (Int×Int)):List (PB aG):=[.aF l.ps,.aF [.ptr 4 0 9],.map (kI.es (LQ k)),.aF [.map 9],.aF [.fn 195 [] pC]]
abbrev HC(l:Lo)(x:Cs):List (PB aG):=MN l.s l.o x.e x.n 0++adE l x.k
abbrev HC'(l:Lo)(x:Cs):List (PB aG):=[.list false false 3 l.s,.list false false 3 l.o,.map (kV.es (zV x.e)),.map (kK.es (yV x.n)),mkC l.s l.o 12 13 0,.gone,.gone]++adE l x.k++[Qr x.e,Qs x.n]
def qj(d:Dg)(r:Int):V:=d.aJ.getD (i64.wrap (-1-r)).toNat V0
def Vh(k:List (Int×Int))(r:Int):Int:=((k.find? fun p=>p.1==r).getD (0,0)).2
def bZ(d:Dg):Nat->Int->Cs->Int×Cs
 | 0,_,x=>(0,x)
 |F+1,r,x=>if decide (r<0)=true then(i64.wrap (-1-(x.e.idxOf (qj d r):Nat)),⟨fB x.e (qj d r),x.n,x.k⟩)else if decide (r∈x.k.map (·.1))=true then(Vh x.k r,x)
  else
   let y:=aO (fun j (y:LI0×Cs)=>(y.1.set j (bZ d F ((ay d r).aA.getD j 0) y.2).1,(bZ d F ((ay d r).aA.getD j 0) y.2).2)) (ay d r).aA.length 0 (List.replicate (ay d r).aA.length 0,x)
   (eu y.2.n (ay d r).var y.1,⟨y.2.e,dD y.2.n (ay d r).var y.1,y.2.k++[(r,eu y.2.n (ay d r).var y.1)]⟩)
structure DN(d:Dg)(x:Cs):Prop where
 e1:x.e.Nodup
 e2:∀v∈x.e,v∈d.aJ
 n1:(x.n.map Ci).Nodup
 n2:x.n.length<=x.k.length
 k1:(x.k.map (·.1)).Nodup
 k2:∀a∈x.k.map (·.1),fK a d.aj.length
theorem DN.JF{d:Dg}{x:Cs}(h:DN d x):x.k.length<=d.aj.length:=by have:=zU _ _ h.k1 h.k2;simpa using this
theorem DN.akK{d:Dg}{x:Cs}(h:DN d x):x.e.length<=d.aJ.length:=ae3 h.e1 h.e2
theorem Y0(nd:List Br)(c:Int)(ks:LI0):(dD nd c ks).length<=nd.length+1:=by
 unfold dD;split
 .omega
 split
 .omega
 simp
theorem a2b{k:List (Int×Int)}{r:Int}(h:r∈k.map (·.1)):(r,Vh k r)∈k:=by
 rw[a0P]at h;obtain⟨p,hp,rfl⟩:=h;unfold Vh;cases e:k.find? fun q=>q.1==p.1 with
 |none=>have:=ae6.1 e p hp;simp at this
 |some q=>
  have h1:=aeR e;have h2:=List.find?_some e;simp at h2;rw[<-h2];exact h1
theorem a7W{d:Dg}{r:Int}(h:fK (i64.wrap (-1-r)) d.aJ.length):qj d r∈d.aJ:=by
 have h1:(i64.wrap (-1-r)).toNat<d.aJ.length:=by have:=h.1;have:=h.2;omega
 unfold qj;simp[List.getD,a0d h1]
theorem Il{d:Dg}(P:Cs->Prop){F:Nat}{r:Int}{x:Cs}(h:P x)(hs:∀j y,j<(ay d r).aA.length->P y->P (bZ d F ((ay d r).aA.getD j 0) y).2) :
  (aO (fun j (y:LI0×Cs)=>(y.1.set j (bZ d F ((ay d r).aA.getD j 0) y.2).1,(bZ d F ((ay d r).aA.getD j 0) y.2).2)) (ay d r).aA.length 0 (List.replicate (ay d r).aA.length 0,x)).1.length=(ay d r).aA.length∧P (aO (fun j (y:LI0×Cs)=>(y.1.set j (bZ d F ((ay d r).aA.getD j 0) y.2).1,(bZ d F ((ay d r).aA.getD j 0) y.2).2)) (ay d r).aA.length 0 (List.replicate (ay d r).aA.length 0,x)).2:=
 bK (g:=fun j (y:LI0×Cs)=>(y.1.set j (bZ d F ((ay d r).aA.getD j 0) y.2).1,(bZ d F ((ay d r).aA.getD j 0) y.2).2)) (m:=(ay d r).aA.length) (k:=0) (s:=(List.replicate (ay d r).aA.length 0,x)) (fun _ y=>y.1.length=(ay d r).aA.length∧P y.2) ⟨by simp,h⟩ (fun j y _ hj hy=>⟨by simp[hy.1],hs j y.2 (by omega) hy.2⟩)
theorem Y1{d:Dg}:∀(F:Nat) (r s:Int) (x:Cs),r<s->s∉x.k.map (·.1)->0<=s->(∀i,i<d.aj.length->∀k,k<(fD d i).aA.length->(fD d i).aA.getD k 0<i)->(0<=r->fK r d.aj.length)->s∉(bZ d F r x).2.k.map (·.1)
 | 0,_,_,_,_,h,_,_,_=>h
 |F+1,r,s,x,hr,h,h0,hk,hn=>by
  unfold bZ;by_cases c:r<0
  .rw[a0A (by simpa using c)];exact h
  rw[a0y (by simpa using c)];split
  .exact h
  have hi:=hn (by omega);have E5:∀k,k<(ay d r).aA.length->(ay d r).aA.getD k 0<r:=fun k lH=>by obtain⟨i1,i2⟩:=hi;have h9:(ay d r).aA.getD k 0<(r.toNat:Int):=hk r.toNat (by omega) k lH;omega
  have:=(Il (d:=d) (fun y=>s∉y.k.map (·.1)) (F:=F) (r:=r) h (fun j y hj hy=>Y1 F _ s y (by have:=E5 j hj;omega) hy h0 hk fun h5=>⟨h5,by have:=hi.2;have:=E5 j hj;omega⟩)).2;simp only[a4K,a3s,adV];exact⟨this,by simp;omega⟩
theorem PX{d:Dg}(h:C9 d):∀(F:Nat) (r:Int) (x:Cs),DN d x->jB d r d.aj.length->DN d (bZ d F r x).2
 | 0,_,_,hx,_=>hx
 |F+1,r,x,hx,hr=>by
  unfold bZ;by_cases c:r<0
  .rw[a0A (by simpa using c)];refine⟨Vg hx.e1,fun v hv=>?_,hx.n1,hx.n2,hx.k1,hx.k2⟩;have hv:v∈fB x.e (qj d r):=hv;unfold fB at hv;split at hv
   .exact hx.e2 v hv
   rcases a3s.1 hv with hv|hv
   .exact hx.e2 v hv
   rw[a2O.1 hv];exact a7W (hr.2 c)
  rw[a0y (by simpa using c)];split
  .exact hx
  rename_i c2;have aT:r.toNat<d.aj.length:=by have:=hr.1;omega
  have Cb:∀k,k<(ay d r).aA.length->(ay d r).aA.getD k 0<r:=fun k lH=>by have h9:=(h.zT r.toNat aT k lH).1;have h9:(ay d r).aA.getD k 0<(r.toNat:Int):=h9;omega
  have hb:=(Il (d:=d) (fun y=>DN d y∧r∉y.k.map (·.1)) (F:=F) (r:=r) ⟨hx,by simpa using c2⟩ (fun j y hj hy=>by have L8:jB d ((ay d r).aA.getD j 0) d.aj.length:=⟨by have:=Cb j hj;have:=hr.1;omega,(h.zT r.toNat aT j hj).2⟩;refine⟨PX h F _ y hy.1 L8,Y1 F _ r y (Cb j hj) hy.2 (by omega) (fun i hi k hk=>(h.zT i hi k hk).1) (fun h5=>⟨h5,by have:=L8.1;omega⟩)⟩)).2
  obtain⟨hb,yw⟩:=hb;refine⟨hb.e1,hb.e2,QK hb.n1,?_,?_,?_⟩
  .have:=Y0 (aO (fun j (y:LI0×Cs)=>(y.1.set j (bZ d F ((ay d r).aA.getD j 0) y.2).1,(bZ d F ((ay d r).aA.getD j 0) y.2).2)) (ay d r).aA.length 0 (List.replicate (ay d r).aA.length 0,x)).2.n (ay d r).var (aO (fun j (y:LI0×Cs)=>(y.1.set j (bZ d F ((ay d r).aA.getD j 0) y.2).1,(bZ d F ((ay d r).aA.getD j 0) y.2).2)) (ay d r).aA.length 0 (List.replicate (ay d r).aA.length 0,x)).1;have:=hb.n2;simp only[a1w,a4n];omega
  .simp only[a4K,a4L,ac1];exact xG hb.k1 yw
  intro a ha;simp only[a4K,a3s,a4L,ac1,a2O]at ha;rcases ha with ha|rfl
  .exact hb.k2 a ha
  exact⟨by omega,by omega⟩
open Go Tw Pv bQ
abbrev hCl(l:Lo)(x:Cs)(ks:LI0):List (PB aG):=HC' l x++[oI true true ks]
abbrev wCl(l:Lo)(r:Int)(i:Int)(y:LI0×Cs)(x:List (Nat×PE aG)):aU aG:=⟨[(0,xi r),(1,.val (.ptr 8 0 1)),(3,.val (.ptr 10 0 1)),(4,.val (.ptr 11 0 1)),(9,.loc 0 0),(10,xo 14),(43,xL 3 (ay l.d r).aA),(44,xi (ay l.d r).aA.length),(45,xi i)]++x,[(ay l.d r).ps],hCl l y.2 y.1⟩
theorem lCl{M:Nat}(hO:Ok M DL){d:Dg}{F:Nat}{r:Int}(hk:(ay d r).aA.length<=12)(Q:Cs->Prop){x:Cs}(hx:Q x)(hq:∀j y,j<(ay d r).aA.length->Q y->Q (bZ d F ((ay d r).aA.getD j 0) y).2)(hs:∀j y,j<(ay d r).aA.length->Q y->dG X0 Qp (iE M) (.fn 195 [] pC) [.int .i64 ((ay d r).aA.getD j 0)] (HC (yY d) y) (.int .i64 (bZ d F ((ay d r).aA.getD j 0) y).1) (HC' (yY d) (bZ d F ((ay d r).aA.getD j 0) y).2)) :
  Nr M 195 0 12 (wCl (yY d) r 0 (List.replicate (ay d r).aA.length 0,x) []) (.exit 0) (wCl (yY d) r (ay d r).aA.length (aO (fun j (y:LI0×Cs)=>(y.1.set j (bZ d F ((ay d r).aA.getD j 0) y.2).1,(bZ d F ((ay d r).aA.getD j 0) y.2).2)) (ay d r).aA.length 0 (List.replicate (ay d r).aA.length 0,x)) [(46,xl false)]):=by
 refine vS (σ:=LI0×Cs) (N:=(ay d r).aA.length) (g:=fun j (y:LI0×Cs)=>(y.1.set j (bZ d F ((ay d r).aA.getD j 0) y.2).1,(bZ d F ((ay d r).aA.getD j 0) y.2).2)) (s0:=(List.replicate (ay d r).aA.length 0,x)) (st:=fun k y=>wCl (yY d) r k y []) (fin:=fun y=>wCl (yY d) r (ay d r).aA.length y [(46,xl false)]) (fun _ y=>y.1.length=(ay d r).aA.length∧Q y.2) (by kernel_rfl) (m12 hk) ⟨by simp,hx⟩ (fun j y hj hy=>⟨by simp[hy.1],hq j y.2 hj hy.2⟩) (fun j y hj hy m e p g=>?_) (fun y _=>aN hO (.b (fO (ay d r).aA.length) .ex));have h1:=hs j y.2 hj hy.2;have h2:fK j y.1.length:=aH (by rw[hy.1];exact hj);generalize bZ d F ((ay d r).aA.getD j 0) y.2=z at h1 g;obtain⟨v,z⟩:=z;exact aN hO (.b (bD hj) (.o (aH hj) (.fr [0,1,2,3,4,12,13,7,8,9,10,11] h1 (.o h2 (.goG [.gc [15,16,14]] g)))))
theorem Eu(k:List (Int×Int)):(LQ k).map (·.1)=k.map (·.1):=by unfold LQ;rw[a5D];rfl
theorem apP{n:Nat}(hO:Ok n DL)(k:Int):iW n (.fn 197 [] []) [.int .i64 k] [] (iA.put (i64.wrap (-1-k))) []:=
 pR.ab1 hX (hO 197 [.int .i64 k] (iA.put (i64.wrap (-1-k))) [] [] (by kernel_rfl) (fun q hq=>by cases hq)) rfl rfl rfl rfl
theorem sCl{N:Nat}(hO:∀m,N<=m->Ok m DL){d:Dg}(h:C9 d)(he:d.aJ.length+1<=au)(hn:d.aj.length+1<=au)(h1k:∀i,i<d.aj.length->1<=(fD d i).aA.length):∀(F:Nat) (r:Int) (x:Cs),r+1<F->DN d x->jB d r d.aj.length->1<=F->dG X0 Qp (iE (N+F+6)) (.fn 195 [] pC) [.int .i64 r] (HC (yY d) x) (.int .i64 (bZ d F r x).1) (HC' (yY d) (bZ d F r x).2)
 | 0,r,x,_,_,_,h1=>by omega
 |F+1,r,x,hF,hx,hr,_=>by
  rw[show N+(F+1)+6=N+F+6+1 by omega];have Gj:=hO (N+F+6) (by omega);have IX:=hO (N+F+5) (by omega);unfold bZ;by_cases c:r<0
  .have t0:decide (r<0)=true:=(by simpa using c);rw[a0A t0];have hi:fK (i64.wrap (-1-r)) d.aJ.length:=hr.2 c;have hs:=apL IX (a:=d.ah) (b:=d.aB) (E:=x.e) (nd:=x.n) (r:=0) (nm:=kK.es (yV x.n)) (qj d r) hx.e1 (by have:=hx.akK;omega);exact fH Gj (first:=[]) (.b t0 (.fr [] (apP Gj r) (.o hi (.fr [0,1,2,3,4,5,6] hs .er))))
  have t0:decide (r<0)=false:=by simpa using c
  rw[a0y (by rw[t0];simp)];have aT:r.toNat<d.aj.length:=by have:=hr.1;omega
  by_cases c2:r∈x.k.map (·.1)
  .rw[a0A (by simpa using c2)];have hf:qB X0 Qp 3 (kI.es (LQ x.k)) (kI.tv r) (.int .i64 (Vh x.k r)):=kI.found (by rw[Eu];exact hx.k1) (a0P.2 ⟨(r,Vh x.k r),a2b c2,rfl⟩);generalize Vh x.k r=v at hf ⊢;exact dG.gs hX (nD hX Gj (first:=[]) (H1:=HC (yY d) x) (v:=.int .i64 v) (by kernel_rfl) (.b t0 (.c (.int .i64 v) [] hf (.b (rfl:true=true) .er)))) [.mv 5,.mv 6] rfl
  rw[a0y (by simpa using c2)];have Cb:∀k,k<(ay d r).aA.length->(ay d r).aA.getD k 0<r:=fun k lH=>by have h9:=(h.zT r.toNat aT k lH).1;have h9:(ay d r).aA.getD k 0<(r.toNat:Int):=h9;omega
  have L8:∀j,j<(ay d r).aA.length->jB d ((ay d r).aA.getD j 0) d.aj.length:=fun j hj=>⟨by have:=Cb j hj;have:=hr.1;omega,(h.zT r.toNat aT j hj).2⟩;have KF:(ay d r).aA.length<=12:=h.JF r.toNat aT;have hq:∀j y,j<(ay d r).aA.length->(DN d y∧r∉y.k.map (·.1))->DN d (bZ d F ((ay d r).aA.getD j 0) y).2∧r∉(bZ d F ((ay d r).aA.getD j 0) y).2.k.map (·.1):=fun j y hj hy=>
   ⟨PX h F _ y hy.1 (L8 j hj),Y1 F _ r y (Cb j hj) hy.2 (by omega) (fun i hi k hk=>(h.zT i hi k hk).1) (fun h5=>⟨h5,by have:=(L8 j hj).1;omega⟩)⟩
  have hl:=lCl Gj (d:=d) (F:=F) (r:=r) KF (fun y=>DN d y∧r∉y.k.map (·.1)) (x:=x) ⟨hx,c2⟩ hq (fun j y hj hy=>sCl hO h he hn h1k F _ y (by have:=Cb j hj;omega) hy.1 (L8 j hj) (by omega));obtain⟨g1,g2,g3⟩:=Il (d:=d) (fun y=>DN d y∧r∉y.k.map (·.1)) (F:=F) (r:=r) (x:=x) ⟨hx,c2⟩ hq;generalize aO (fun j (y:LI0×Cs)=>(y.1.set j (bZ d F ((ay d r).aA.getD j 0) y.2).1,(bZ d F ((ay d r).aA.getD j 0) y.2).2)) (ay d r).aA.length 0 (List.replicate (ay d r).aA.length 0,x)=y at hl g1 g2 g3;obtain⟨ks,e,nd,kn⟩:=y;have g1:ks.length=(ay d r).aA.length:=g1;have EZ:1<=ks.length∧ks.length<=12:=by rw[g1];exact⟨h1k r.toNat aT,KF⟩
  have hN:nd.length+1<=au:=by have:=g2.JF;have:=g2.n2;simp at *;omega
  have hs:=akJ (n:=N+F) IX (a:=d.ah) (b:=d.aB) (E:=e) (nd:=nd) (r:=0) (ay d r).var ks EZ g2.n1 hN;have f0:nU X0 Qp 3 (kI.es (LQ x.k)) (kI.tv r):=kI.fresh (by rw[Eu];exact c2);have f1:nU X0 Qp 3 (kI.es (LQ kn)) (kI.tv r):=kI.fresh (by rw[Eu];exact g3);have f2:=kI.ck r;show dG X0 Qp _ _ _ _ (.int .i64 (eu nd (ay d r).var ks)) (HC' (yY d) ⟨e,dD nd (ay d r).var ks,kn++[(r,eu nd (ay d r).var ks)]⟩);generalize eu nd (ay d r).var ks=v at hs ⊢;generalize dD nd (ay d r).var ks=nd' at hs ⊢;have em:kI.es (LQ (kn++[(r,v)]))=kI.es (LQ kn)++[(kI.pv r,.int .i64 v)]:=by show List.map _ (List.map _ (kn++[(r,v)]))=_;rw[a4K,a4K];rfl
  have f3:qB X0 Qp 3 (kI.es (LQ kn)++[(kI.pv r,.int .i64 v)]) (kI.tv r) (.int .i64 v):=by rw[<-em];exact kI.found (by rw[Eu,a4K];exact xG g2.k1 g3) (a0P.2 ⟨(r,v),by simp,rfl⟩)
  have hi:fK r d.aj.length:=⟨by omega,hr.1⟩;have hm:((ay d r).aA.length:Int)<=(au:Int):=by have:=m12 KF;omega
  show dG X0 Qp _ _ _ _ _ ([_,_,_,_,_,_,_]++[_,_,.map (kI.es (LQ (kn++[(r,v)]))),_,_]++[_,_]);rw[em];exact dG.gs hX (nD hX Gj (first:=[]) (v:=.int .i64 v) (H1:=[.list false false 3 d.ah,.list false false 3 d.aB,.map (kV.es (zV e)),.map (kK.es (yV nd')),mkC d.ah d.aB 15 16 0,.gone,.gone,.aF (yY d).ps,.aF [.ptr 4 0 9],.map (kI.es (LQ kn)++[(kI.pv r,.int .i64 v)]),.aF [.map 9],.aF [.fn 195 [] pC],.gone,.gone,.gone,Qr e,Qs nd']) (by kernel_rfl) (.b t0 (.q (.bool false) f0 (.b (rfl:false=false) (.o hi (.o (show((ay d r).aA.length:Int)=((ay d r).aA.length:Int)from rfl) (.o (show(0:Int)<=((ay d r).aA.length:Int) by omega) (.o hm (.wG [.mv 5,.mv 6,.gc [13,14,12]] hl (.fr [0,1,2,3,4,12,13,14] hs (.q (.bool false) f2 (.o f1 (.c (.int .i64 v) [] f3 .er))))))))))))) [.gc [15,16]] rfl
open Go Tw Pv bQ
abbrev PY(a b:List V)(k:Nat):Bool:=!(decide (a.getD k V0=b.getD k V0))
abbrev ag5(a b:List V)(i:Int)(x:List (Nat×PE aG)):aU aG:=⟨[(0,xL 39 a),(1,xL 39 b),(12,xi a.length),(13,xi i)]++x,[],[]⟩
def z227(a b:List V):Unit⊕Nat->Ex×aU aG
 |.inl _=>(.exit 0,ag5 a b a.length [(14,xl false)])
 |.inr _=>(.ret,⟨[(4,xl false)],[],[]⟩)
theorem akL{n:Nat}{fV:fF aG}(hO:Ok n fV)(a b:List V)(hl:a.length<=au)(h:a.length=b.length):Lp n 227 0 (ag5 a b 0 []) (z227 a b (bM (PY a b) a.length)).1 (z227 a b (bM (PY a b) a.length)).2:=
 jm (st:=fun i _=>ag5 a b i []) (fun _ _=>True) (by kernel_rfl) hl trivial (fun k s m hk _ ih=>aN hO (.b (bD hk) (.o (aH hk) (.o (aH (h▸hk)) (.q (.bool (!(decide (a.getD k V0=b.getD k V0)))) (neV (.tmp 19) (.tmp 23) (a.getD k V0) (b.getD k V0)) (.ls (.ou nofun) (.nx (ih _ trivial)))))))) (fun s _=>aN hO (.b (fO a.length) (.ou nofun)))
theorem ab6{a b:List V}(h:a.length=b.length):a=b↔∀j,j<a.length->a.getD j V0=b.getD j V0:=by
 constructor
 .rintro rfl j _;rfl
 intro h2;apply a9J h;intro j h3 h4;have:=h2 j h3;simpa[List.getD,a0d h3,a0d h4]using this
theorem PZ{a b:List V}(h:a.length=b.length):kR (bM (PY a b) a.length)=decide (a=b):=by rw[a5c,dQ,a0S,ab6 h];simp[PY]
theorem ab7{α:Type}[DecidableEq α]{a b:List α}(h:((a.length:Int) != (b.length:Int))=true):decide (a=b)=false:=by rw[a3b];rintro rfl;simp at h
def adF:fF aG:=dw 227 (a2 vsA vsA) tA (fun p=>decide (p.1=p.2)) (fun p=>[p.1.length<=au]) DL
theorem akM:Gd adF:=adA.add fun n hO p hp=>aP hO (.s (fun h=>.v false (ab7 h).symm) fun h=>.z (c:=kR (bM (PY p.1 p.2) p.1.length)) (fun h2=>.w (kM (akL hO p.1 p.2 (hp _ iD) (lT h)) () h2) (.v true (by rw[<-PZ (lT h),h2]))) fun h2=>.w (kN (akL hO p.1 p.2 (hp _ iD) (lT h)) 0 h2) (.v false (by rw[<-PZ (lT h),h2])))
def Vj(x y:Br):Bool:=if(x.var==y.var)=true then decide (x.aA=y.aA)else false
def a7X:fF aG:=dw 226 (a2 brA brA) tA (fun p=>Vj p.1 p.2) (fun p=>[p.1.aA.length<=au]) adF
theorem akN:Gd a7X:=akM.add fun n hO p hp=>aP hO (.ss (.o (hp _ iD) .rr) .rr)
abbrev wEB(a b:List Br)(i:Int)(x:List (Nat×PE aG)):aU aG:=⟨[(1,xL 105 b),(2,.val (.fn 226 [] [])),(15,xL 105 a),(16,xi a.length),(17,xi i)]++x,[],[]⟩
abbrev cEB(a b:List Br)(k:Nat):Bool:=!(Vj (a.getD k jZ) (b.getD k jZ))
def zEB(a b:List Br):Unit⊕Nat->Ex×aU aG
 |.inl _=>(.exit 0,wEB a b a.length [(18,xl false)])
 |.inr k=>(.ret,⟨[(6,xl false)],[(a.getD k jZ).ps,(b.getD k jZ).ps],[]⟩)
theorem lEB{n:Nat}(hO:Ok n a7X)(a b:List Br)(hl:a.length<=au)(h:a.length=b.length)(hk:∀k,k<a.length->(a.getD k jZ).aA.length<=au):Lp n 228 0 (wEB a b 0 []) (zEB a b (bM (cEB a b) a.length)).1 (zEB a b (bM (cEB a b) a.length)).2:=
 jm (st:=fun i _=>wEB a b i []) (fun _ _=>True) (by kernel_rfl) hl trivial (fun k s m lH _ ih=>aN hO (.b (bD lH) (.o (aH lH) (.o (aH (h▸lH)) (.o (hk k lH) (.ls (.ou nofun) (.nx (ih _ trivial)))))))) (fun s _=>aN hO (.b (fO a.length) (.ou nofun)))
def Io(a b:List Br):Bool:=if((a.length:Int) != (b.length:Int))=true then false else if kR (bM (cEB a b) a.length)=true then true else false
def adG:fF aG:=dw 228 (a3 aaH aaH (fnA 226)) tA (fun p=>Io p.1 p.2.1) (fun p=>[p.1.length<=au,∀k,k<p.1.length->(p.1.getD k jZ).aA.length<=au]) a7X
theorem akO:Gd adG:=akN.add fun n hO p hp=>aP hO (.sh (fun _=>.rr) fun h=>.zh (fun h2=>.w (kM (lEB hO p.1 p.2.1 (hp _ iD) (lT h) (hp (∀k,k<p.1.length->(p.1.getD k jZ).aA.length<=au) (.tail _ (.head _)))) () h2) .rr) fun h2=>.w (kN (lEB hO p.1 p.2.1 (hp _ iD) (lT h) (hp (∀k,k<p.1.length->(p.1.getD k jZ).aA.length<=au) (.tail _ (.head _)))) 0 h2) .rr)
def Ip(a b:Dg):Bool:=if decide (a.ah=b.ah)=true then(if decide (a.aB=b.aB)=true then(if decide (a.aJ=b.aJ)=true then(if Io a.aj b.aj=true then a.root==b.root else false)else false)else false)else false
def adH:fF aG:=dw 203 (a2 dA dA) tA (fun p=>Ip p.1 p.2) (fun p=>[p.1.ah.length<=au,p.1.aB.length<=au,p.1.aJ.length<=au,p.1.aj.length<=au,∀k,k<p.1.aj.length->(p.1.aj.getD k jZ).aA.length<=au]) adG
theorem akP:Gd adH:=akO.add fun n hO p hp=>aP hO (.o (hp _ iD) (.ss (.o (hp _ Ah) (.ss (.o (hp _ hh2) (.ss (.o (hp _ (.tail _ (.tail _ (.tail _ (.head _))))) (.o (hp (∀k,k<p.1.aj.length->(p.1.aj.getD k jZ).aA.length<=au) (.tail _ (.tail _ (.tail _ (.tail _ (.head _)))))) (.ss .rr .rr))) .rr)) .rr)) .rr))
theorem Y2{x y:Br}:Vj x y=true↔x=y:=by obtain⟨a,b⟩:=x;obtain⟨c,e⟩:=y;unfold Vj;simp only[Br.mk.injEq];by_cases h:a=c<;>simp[h]
theorem a4b{a b:List Br}:Io a b=true↔a=b:=by
 unfold Io;by_cases h:a.length=b.length
 .rw[a0y (by simp;omega)];have e:kR (bM (cEB a b) a.length)=true↔a=b:=by
   rw[dQ];constructor
   .intro h1;apply a9J h;intro j h3 h4;have:=h1 j h3;simp only[cEB,ae0]at this;have:=Y2.1 this;simpa[List.getD,a0d h3,a0d h4]using this
   rintro rfl j _;simp only[cEB,ae0];exact Y2.2 rfl
  rw[<-e];cases kR (bM (cEB a b) a.length)<;>simp
 rw[a0A (by simp;omega)];constructor
 .intro h1;cases h1
 rintro rfl;exact absurd rfl h
theorem a2c{a b:Dg}:Ip a b=true↔a=b:=by
 obtain⟨a1,a2,a3,a4,a5⟩:=a;obtain⟨b1,b2,b3,b4,b5⟩:=b;unfold Ip;simp only[Dg.mk.injEq];by_cases h1:a1=b1
 .by_cases h2:a2=b2
  .by_cases h3:a3=b3
   .have h4:=a4b (a:=a4) (b:=b4);cases e:Io a4 b4
    .rw[e]at h4;simp[h1,h2,h3];intro h5;exact absurd h5 (by simpa using h4)
    rw[e]at h4;simp at h4;simp[h1,h2,h3,h4]
   simp[h3]
  simp[h2]
 simp[h1]
open Go Tw Pv bQ
def xO(s:LI0×LI0)(x:Int):Int:=if x<0 then i64.wrap (-1-(s.2.idxOf (jI x):Nat))else(s.1.idxOf x:Nat)
def VT(s:LI0×LI0)(x:Int):Prop:=(x<0->jI x∈s.2)∧(0<=x->x∈s.1)
def KS(d:Dg)(s:LI0×LI0):Cs:=⟨s.2.map fun e=>d.aJ.getD e.toNat V0,s.1.map fun o=>⟨(ay d o).var,(ay d o).aA.map (xO s)⟩,s.1.map fun o=>(o,xO s o)⟩
def JJ(d:Dg)(s:LI0×LI0):Prop:=∀o∈s.1,∀k∈(ay d o).aA,VT s k
theorem Vk{s:LI0×LI0}{x:Int}(l:LI0)(h:VT s x):xO (s.1,s.2++l) x=xO s x:=by
 unfold xO;split
 .rename_i c;rw[a9p,a0A (h.1 c)]
 rfl
theorem Iq{s:LI0×LI0}{x:Int}(l:LI0)(h:VT s x):xO (s.1++l,s.2) x=xO s x:=by
 unfold xO;split
 .rfl
 rename_i c;rw[a9p,a0A (h.2 (by omega))]
theorem ag7{d:Dg}{s:LI0×LI0}(hk:JJ d s)(hn:∀o∈s.1,0<=o)(e:Int):KS d (s.1,s.2++[e])=⟨(KS d s).e++[d.aJ.getD e.toNat V0],(KS d s).n,(KS d s).k⟩:=by
 unfold KS;simp only[a4K,a4L,ac1,Cs.mk.injEq,true_and];constructor
 .apply a5d;intro o ho;congr 1;apply a5d;intro k lH;exact Vk [e] (hk o ho k lH)
 apply a5d;intro o ho;rw[Vk [e] ⟨fun c=>absurd (hn o ho) (by omega),fun _=>ho⟩]
theorem ab8{d:Dg}{s:LI0×LI0}(hk:JJ d s)(hn:∀o∈s.1,0<=o){r:Int}(h0:0<=r)(hr:r∉s.1)(L8:∀k∈(ay d r).aA,VT s k):KS d (s.1++[r],s.2)=⟨(KS d s).e,(KS d s).n++[⟨(ay d r).var,(ay d r).aA.map (xO s)⟩],(KS d s).k++[(r,(s.1.length:Int))]⟩:=by
 unfold KS;simp only[a4K,a4L,ac1,Cs.mk.injEq,true_and];refine⟨?_,?_⟩
 .congr 1
  .apply a5d;intro o ho;congr 1;exact a5d fun k lH=>Iq [r] (hk o ho k lH)
  congr 2;exact a5d fun k lH=>Iq [r] (L8 k lH)
 congr 1
 .apply a5d;intro o ho;rw[Iq [r] ⟨fun c=>absurd (hn o ho) (by omega),fun _=>ho⟩]
 congr 2;unfold xO;rw[a0y (by omega)];simp[a9p,hr]
theorem akQ{a b:Nat}(ha:a<=2^61)(hb:b<=2^61)(h:i64.wrap (-1-(a:Int))=i64.wrap (-1-(b:Int))):a=b:=by rw[fQ (by omega) (by omega),fQ (by omega) (by omega)]at h;omega
theorem a2d{l:LI0}{a b:Int}(ha:a∈l)(hb:b∈l)(h:l.idxOf a=l.idxOf b):a=b:=by have h1:=a90 (a5b.2 ha);have h2:=a90 (a5b.2 hb);rw[<-h1,<-h2];congr 1
theorem a7Y{x y:Int}(hx:Gm x)(hy:Gm y)(cx:x<0)(cy:y<0)(h:jI x=jI y):x=y:=by unfold jI at h;rw[Ns hx cx,Ns hy cy]at h;omega
theorem a2e{s:LI0×LI0}(hs:s.2.length<=2^61){x y:Int}(hx:VT s x)(hy:VT s y)(wx:Gm x)(wy:Gm y)(h:xO s x=xO s y):x=y:=by
 have lt:∀z,z∈s.2->s.2.idxOf z<=2^61:=fun z hz=>a5w (a9H (a5b.2 hz)) hs;unfold xO at h;by_cases cx:x<0
 .rw[a0A cx]at h;by_cases cy:y<0
  .rw[a0A cy]at h;exact a7Y wx wy cx cy (a2d (hx.1 cx) (hy.1 cy) (akQ (lt _ (hx.1 cx)) (lt _ (hy.1 cy)) h))
  rw[a0y cy]at h;have:=lt _ (hx.1 cx);rw[fQ (by omega) (by omega)]at h;omega
 rw[a0y cx]at h;by_cases cy:y<0
 .rw[a0A cy]at h;have:=lt _ (hy.1 cy);rw[fQ (by omega) (by omega)]at h;omega
 rw[a0y cy]at h;exact a2d (hx.2 (by omega)) (hy.2 (by omega)) (by omega)
open Go Tw Pv bQ
def Ext(s t:LI0×LI0):Prop:=∃a b,t=(s.1++a,s.2++b)
theorem Ext.refl(s:LI0×LI0):Ext s s:=⟨[],[],by simp⟩
theorem Ext.trans{s t u:LI0×LI0}(h:Ext s t)(h2:Ext t u):Ext s u:=by obtain⟨a,b,rfl⟩:=h;obtain⟨c,e,rfl⟩:=h2;exact⟨a++c,b++e,by simp⟩
theorem VT.ext{s t:LI0×LI0}{x:Int}(h:VT s x)(he:Ext s t):VT t x:=by obtain⟨a,b,rfl⟩:=he;exact⟨fun c=>a5Z _ (h.1 c),fun c=>a5Z _ (h.2 c)⟩
theorem ab9{s t:LI0×LI0}{x:Int}(h:VT s x)(he:Ext s t):xO t x=xO s x:=by have hc:=h;obtain⟨a,b,rfl⟩:=he;have h2:VT (s.1,s.2++b) x:=⟨fun c=>a5Z _ (h.1 c),h.2⟩;rw[<-Vk b h,<-Iq a h2]
theorem TJ{α β:Type}{g1:Nat->α->α}{g2:Nat->β->β}(R:Nat->α->β->Prop):∀(m k:Nat) (a:α) (b:β),R k a b->(∀j a b,k<=j->j<k+m->R j a b->R (j+1) (g1 j a) (g2 j b))->R (k+m) (aO g1 m k a) (aO g2 m k b)
 | 0,_,_,_,h,_=>h
 |m+1,k,a,b,h,hs=>by have:=TJ R m (k+1) (g1 k a) (g2 k b) (hs k a b (a0K _) (by omega) h) (fun j a b h1 h2=>hs j a b (by omega) (by omega));rw[show k+(m+1)=k+1+m by omega];exact this
theorem a2f{α β:Type}[BEq α][LawfulBEq α][BEq β][LawfulBEq β]{f:α->β}{a:α}:∀{l:List α},(∀b∈l,f b=f a->b=a)->(l.map f).idxOf (f a)=l.idxOf a
 | [],_=>rfl
 |c::l,h=>by
  rw[a4L,adZ,adZ,a2f fun b hb=>h b (a3x _ hb)];by_cases hc:c=a
  .subst hc;simp
  have:¬(f c=f a):=fun e=>hc (h c (.head _) e);rw[show(c==a)=false by simpa using hc,show(f c==f a)=false by simpa using this]
structure DgD(d:Dg):Prop where
 aJ:d.aJ.Nodup
 aj:∀i j,i<d.aj.length->j<d.aj.length->(fD d i).var=(fD d j).var->(fD d i).aA=(fD d j).aA->i=j
 flat:∀i,i<d.aj.length->((fD d i).aA.all fun x=>x==(fD d i).aA.getD 0 0)=false
theorem Y3{d:Dg}(h:d.aJ.Nodup){a b:Int}(ha:fK a d.aJ.length)(hb:fK b d.aJ.length)(e:d.aJ.getD a.toNat V0=d.aJ.getD b.toNat V0):a=b:=by
 have h1:a.toNat<d.aJ.length:=by have:=ha.1;have:=ha.2;omega
 have h2:b.toNat<d.aJ.length:=by have:=hb.1;have:=hb.2;omega
 simp only[List.getD,a0d h1,a0d h2,a5q]at e;have:=(aal h).1 e;have:=ha.1;have:=hb.1;omega
theorem ag8{d:Dg}(hd:DgD d){s:LI0×LI0}(hs:JG d s){r:Int}(hr:fK (jI r) d.aJ.length):(KS d s).e.idxOf (qj d r)=s.2.idxOf (jI r)∧(qj d r∈(KS d s).e↔jI r∈s.2):=by
 have hi:∀b∈s.2,(fun e:Int=>d.aJ.getD e.toNat V0) b=(fun e:Int=>d.aJ.getD e.toNat V0) (jI r)->b=jI r:=fun b hb e=>Y3 hd.aJ (hs.e2 b hb) hr e;refine⟨a2f (f:=fun e:Int=>d.aJ.getD e.toNat V0) (a:=jI r) hi,?_⟩;constructor
 .intro h;obtain⟨b,hb,e⟩:=a0P.1 h;rw[<-hi b hb e];exact hb
 intro h;exact a0P.2 ⟨jI r,h,rfl⟩
theorem ag9{d:Dg}{s:LI0×LI0}{r:Int}(h:r∈s.1):Vh (KS d s).k r=xO s r:=by
 have h1:r∈(KS d s).k.map (·.1):=by unfold KS;rw[a5D];exact a0P.2 ⟨r,h,rfl⟩
 have h2:=a2b h1;obtain⟨o,_,e⟩:=a0P.1 h2;have e1:o=r:=congrArg Prod.fst e;have e2:xO s o=Vh (KS d s).k r:=congrArg Prod.snd e;rw[<-e2,e1]
theorem abb{a b:LI0}(h:a.length=b.length)(ha:a.length<=12)(e:Ik a=Ik b):a=b:=by unfold Ik at e;have:=congrArg (List.take a.length) e;rw[afQ,afQ,a8g ha,List.take_append_of_le_length (a0K _),List.take_append_of_le_length (by omega),adw,h,adw]at this;exact this
theorem map_inj{α β:Type}{f:α->β}:∀{a b:List α},(∀x∈a,∀y∈b,f x=f y->x=y)->a.map f=b.map f->a=b
 | [],[],_,_=>rfl
 | [],_::_,_,h=>by simp at h
 |_::_,[],_,h=>by simp at h
 |x::a,y::b,hi,h=>by simp only[a4L,aeC]at h;rw[hi x (.head _) y (.head _) h.1,map_inj (fun u hu v hv=>hi u (a3x _ hu) v (a3x _ hv)) h.2]
open Go Tw Pv bQ
structure Alk(d:Dg)(F:Nat)(r:Int)(s:LI0×LI0):Prop where
 eq:bZ d F r (KS d s)=(xO (jU d F r s) r,KS d (jU d F r s))
 aA:JJ d (jU d F r s)
 cov:VT (jU d F r s) r
 ext:Ext s (jU d F r s)
theorem adJ{d:Dg}(h:C9 d)(hw:Ij d)(hd:DgD d)(he:d.aJ.length<=2^61):∀(F:Nat) (r:Int) (s:LI0×LI0),r+1<F->JG d s->JJ d s->jB d r d.aj.length->1<=F->Alk d F r s
 | 0,r,s,_,_,_,_,h1=>by omega
 |F+1,r,s,hF,hs,hk,hr,_=>by
  have hn:∀o∈s.1,0<=o:=fun o ho=>(hs.n2 o ho).1;by_cases c:r<0
  .have t0:decide (r<0)=true:=(by simpa using c);obtain⟨q1,q2⟩:=ag8 hd hs (hr.2 c);have e1:bZ d (F+1) r (KS d s)=(i64.wrap (-1-((KS d s).e.idxOf (qj d r):Nat)),⟨fB (KS d s).e (qj d r),(KS d s).n,(KS d s).k⟩):=by unfold bZ;rw[a0A t0]
   by_cases c2:jI r∈s.2
   .have e2:jU d (F+1) r s=s:=by unfold jU;rw[a0A t0,a0y (by simpa using c2)]
    refine⟨?_,by rw[e2];exact hk,by rw[e2];exact⟨fun _=>c2,fun h0=>by omega⟩,by rw[e2];exact .refl s⟩;rw[e1,e2,q1,show fB (KS d s).e (qj d r)=(KS d s).e from a0A (q2.2 c2)];unfold xO;rw[a0A c]
   have e2:jU d (F+1) r s=(s.1,s.2++[jI r]):=by unfold jU;rw[a0A t0,a0A (by simpa using c2)]
   have hc:VT (s.1,s.2++[jI r]) r:=⟨fun _=>by simp,fun h0=>by omega⟩;have hx:Ext s (s.1,s.2++[jI r]):=⟨[],[jI r],by simp⟩;refine⟨?_,by rw[e2];exact fun o ho k lH=>(hk o ho k lH).ext hx,by rw[e2];exact hc,by rw[e2];exact hx⟩;rw[e1,e2,q1,ag7 hk hn,show fB (KS d s).e (qj d r)=(KS d s).e++[qj d r]from a0y (fun e=>c2 (q2.1 e))];unfold xO;rw[a0A c];simp[a9p,c2,a8e c2,qj]
  have t0:¬(decide (r<0)=true):=by simpa using c
  have yt:(KS d s).k.map (·.1)=s.1:=by unfold KS;rw[a5D];exact List.map_id _
  by_cases c2:r∈s.1
  .have e2:jU d (F+1) r s=s:=by unfold jU;rw[a0y t0,a0A (by simpa using c2)]
   have e1:bZ d (F+1) r (KS d s)=(Vh (KS d s).k r,KS d s):=by unfold bZ;rw[a0y t0,a0A (by rw[yt];simpa using c2)]
   refine⟨?_,by rw[e2];exact hk,by rw[e2];exact⟨fun h0=>absurd h0 c,fun _=>c2⟩,by rw[e2];exact .refl s⟩;rw[e1,e2,ag9 c2]
  have aT:r.toNat<d.aj.length:=by have:=hr.1;omega
  have Cb:∀k,k<(ay d r).aA.length->(ay d r).aA.getD k 0<r:=fun k lH=>by have h9:=(h.zT r.toNat aT k lH).1;have h9:(ay d r).aA.getD k 0<(r.toNat:Int):=h9;omega
  have L8:∀j,j<(ay d r).aA.length->jB d ((ay d r).aA.getD j 0) d.aj.length:=fun j hj=>⟨by have:=Cb j hj;have:=hr.1;omega,(h.zT r.toNat aT j hj).2⟩;have a7a:=TJ (g1:=fun j (y:LI0×Cs)=>(y.1.set j (bZ d F ((ay d r).aA.getD j 0) y.2).1,(bZ d F ((ay d r).aA.getD j 0) y.2).2)) (g2:=fun k y=>jU d F ((ay d r).aA.getD k 0) y)
   (fun j (y:LI0×Cs) (t:LI0×LI0)=>y=(((ay d r).aA.take j).map (xO t)++List.replicate ((ay d r).aA.length-j) 0,KS d t)∧JG d t∧JJ d t∧Ext s t∧r∉t.1∧∀i,i<j->VT t ((ay d r).aA.getD i 0)) (ay d r).aA.length 0 (List.replicate (ay d r).aA.length 0,KS d s) s ⟨by simp,hs,hk,.refl s,c2,fun i hi=>by omega⟩ (fun j y t _ hj hy=>by
    obtain⟨rfl,y1,y2,y3,y4,y5⟩:=hy;have hj:j<(ay d r).aA.length:=(by omega);have ih:=adJ h hw hd he F _ t (by have:=Cb j hj;omega) y1 y2 (L8 j hj) (by omega);have YI:=a7D F ((ay d r).aA.getD j 0) r t (Cb j hj) y4 (by omega) (fun i hi k hk=>(h.zT i hi k hk).1) (fun h5=>⟨h5,by have:=(L8 j hj).1;omega⟩);have QY:=KZ h F ((ay d r).aA.getD j 0) t y1 (L8 j hj);obtain⟨i1,i2,i3,i4⟩:=ih;simp only[i1];generalize jU d F ((ay d r).aA.getD j 0) t=u at i2 i3 i4 YI QY ⊢;refine⟨?_,QY,i2,y3.trans i4,YI,fun i hi=>?_⟩
    .simp only[a0B,and_true];have hl:(List.map (xO t) (List.take j (ay d r).aA)).length=j:=by rw[a4R,a3W];omega
     rw[show(ay d r).aA.length-j=((ay d r).aA.length-(j+1))+1 by omega,aen,List.set_append_right _ _ (by rw[hl];exact a0K j)];rw[hl,ahu,ahF,a8s hj,a4K,a5y];congr 1
     .apply a5d;intro x hx;obtain⟨i,hi,rfl⟩:=a5h.1 hx;have Ak:i<j:=by simp at hi;omega
      have:=y5 i Ak;rw[rZ (l:=(ay d r).aA) (show i<(ay d r).aA.length by omega)]at this;rw[List.getElem_take];exact(ab9 this i4).symm
     .rw[rZ hj];rfl
    .by_cases Ak:i<j
     .exact(y5 i Ak).ext i4
     .rw[show i=j by omega];exact i3)
  have e1:bZ d (F+1) r (KS d s)=(eu (aO (fun j (y:LI0×Cs)=>(y.1.set j (bZ d F ((ay d r).aA.getD j 0) y.2).1,(bZ d F ((ay d r).aA.getD j 0) y.2).2)) (ay d r).aA.length 0 (List.replicate (ay d r).aA.length 0,KS d s)).2.n (ay d r).var (aO (fun j (y:LI0×Cs)=>(y.1.set j (bZ d F ((ay d r).aA.getD j 0) y.2).1,(bZ d F ((ay d r).aA.getD j 0) y.2).2)) (ay d r).aA.length 0 (List.replicate (ay d r).aA.length 0,KS d s)).1,⟨(aO (fun j (y:LI0×Cs)=>(y.1.set j (bZ d F ((ay d r).aA.getD j 0) y.2).1,(bZ d F ((ay d r).aA.getD j 0) y.2).2)) (ay d r).aA.length 0 (List.replicate (ay d r).aA.length 0,KS d s)).2.e,dD (aO (fun j (y:LI0×Cs)=>(y.1.set j (bZ d F ((ay d r).aA.getD j 0) y.2).1,(bZ d F ((ay d r).aA.getD j 0) y.2).2)) (ay d r).aA.length 0 (List.replicate (ay d r).aA.length 0,KS d s)).2.n (ay d r).var (aO (fun j (y:LI0×Cs)=>(y.1.set j (bZ d F ((ay d r).aA.getD j 0) y.2).1,(bZ d F ((ay d r).aA.getD j 0) y.2).2)) (ay d r).aA.length 0 (List.replicate (ay d r).aA.length 0,KS d s)).1,(aO (fun j (y:LI0×Cs)=>(y.1.set j (bZ d F ((ay d r).aA.getD j 0) y.2).1,(bZ d F ((ay d r).aA.getD j 0) y.2).2)) (ay d r).aA.length 0 (List.replicate (ay d r).aA.length 0,KS d s)).2.k++[(r,eu (aO (fun j (y:LI0×Cs)=>(y.1.set j (bZ d F ((ay d r).aA.getD j 0) y.2).1,(bZ d F ((ay d r).aA.getD j 0) y.2).2)) (ay d r).aA.length 0 (List.replicate (ay d r).aA.length 0,KS d s)).2.n (ay d r).var (aO (fun j (y:LI0×Cs)=>(y.1.set j (bZ d F ((ay d r).aA.getD j 0) y.2).1,(bZ d F ((ay d r).aA.getD j 0) y.2).2)) (ay d r).aA.length 0 (List.replicate (ay d r).aA.length 0,KS d s)).1)]⟩):=by rw[bZ,a0y t0,a0y (by rw[yt];simpa using c2)]
  have e2:jU d (F+1) r s=((aO (fun k y=>jU d F ((ay d r).aA.getD k 0) y) (ay d r).aA.length 0 s).1++[r],(aO (fun k y=>jU d F ((ay d r).aA.getD k 0) y) (ay d r).aA.length 0 s).2):=by rw[jU,a0y t0,a0y (by simpa using c2)]
  generalize aO (fun j (y:LI0×Cs)=>(y.1.set j (bZ d F ((ay d r).aA.getD j 0) y.2).1,(bZ d F ((ay d r).aA.getD j 0) y.2).2)) (ay d r).aA.length 0 (List.replicate (ay d r).aA.length 0,KS d s)=y at a7a e1;generalize aO (fun k y=>jU d F ((ay d r).aA.getD k 0) y) (ay d r).aA.length 0 s=t at a7a e2;obtain⟨rfl,f2,f3,f4,f5,f6⟩:=a7a;rw[a3T]at f6;simp only[a3T,adw,ahu,List.replicate_zero,a5B]at e1;have a7Z:∀k∈(ay d r).aA,VT t k:=fun k lH=>by
   obtain⟨i,hi,rfl⟩:=a5h.1 lH;have:=f6 i hi
   rwa [rZ hi]at this
  have hW:∀o,0<=o->fK o d.aj.length->∀k∈(ay d o).aA,Gm k:=fun o _ ho k lH=>by
   obtain⟨i,hi,rfl⟩:=a5h.1 lH;have:=hw.zT o.toNat (by have:=ho.1;have:=ho.2;omega) i hi
   rwa [rZ hi]at this
  have hrI:fK r d.aj.length:=⟨by omega,hr.1⟩;have hel:t.2.length<=2^61:=a5w f2.len.2 he;have adK:((ay d r).aA.map (xO t)).all (fun x=>x==((ay d r).aA.map (xO t)).getD 0 0)=false:=by
   cases e:((ay d r).aA.map (xO t)).all (fun x=>x==((ay d r).aA.map (xO t)).getD 0 0)
   .rfl
   exfalso;have hf:=hd.flat r.toNat aT;rw[List.all_eq_false]at hf;obtain⟨x,hx,hx2⟩:=hf;have hx:x∈(ay d r).aA:=hx;have h0:0<(ay d r).aA.length:=ah4 hx;rw[a5a]at e;have:=e (xO t x) (a0P.2 ⟨x,hx,rfl⟩);rw[rZ (by simpa using h0),a9v]at this;have h00:(ay d r).aA[0]∈(ay d r).aA:=a4X h0;have:=a2e hel (a7Z x hx) (a7Z _ h00) (hW r (by omega) hrI x hx) (hW r (by omega) hrI _ h00) (by simpa using this);apply hx2;have h9:(fD d r.toNat).aA.getD 0 0=(ay d r).aA[0]:=rZ h0;rw[h9,this];simp
  have af6:um (ay d r).var ((ay d r).aA.map (xO t))∉(KS d t).n.map Ci:=by
   intro hm;unfold KS at hm;rw[a5D]at hm;obtain⟨o,ho,e⟩:=a0P.1 hm;have Zm:=f2.n2 o ho;have Ry:o.toNat<d.aj.length:=by have:=Zm.1;have:=Zm.2;omega
   have ev:(fD d o.toNat).var=(fD d r.toNat).var:=congrArg Prod.fst e;have ep:Ik ((ay d o).aA.map (xO t))=Ik ((ay d r).aA.map (xO t)):=congrArg (fun z:Ky=>z.2.val) e;have hlen:((fD d o.toNat).aA.length:Int)=((fD d r.toNat).aA.length:Int):=(by rw[h.ksz _ Ry,h.ksz _ aT,ev]);have hlen:(ay d o).aA.length=(ay d r).aA.length:=by exact_mod_cast hlen
   have em:=abb (by simpa using hlen) (by rw[a4R];exact h.JF _ Ry) ep;have ek:=map_inj (fun x hx y hy e=>a2e hel (f3 o ho x hx) (a7Z y hy) (hW o Zm.1 Zm x hx) (hW r (by omega) hrI y hy) e) em;have:=hd.aj _ _ Ry aT ev ek;have:o=r:=by have:=Zm.1;omega
   exact f5 (this▸ho)
  have hnl:(KS d t).n.length=t.1.length:=by unfold KS;simp
  have hR:eu (KS d t).n (ay d r).var ((ay d r).aA.map (xO t))=(t.1.length:Int):=by unfold eu;rw[adK,a0y (by simp),a8e af6,a4R,hnl]
  have hS:dD (KS d t).n (ay d r).var ((ay d r).aA.map (xO t))=(KS d t).n++[⟨(ay d r).var,(ay d r).aA.map (xO t)⟩]:=by unfold dD;rw[adK,a0y (by simp),a0y af6]
  have hx:Ext t (t.1++[r],t.2):=⟨[r],[],by simp⟩;have hc:VT (t.1++[r],t.2) r:=⟨fun h0=>absurd h0 c,fun _=>by simp⟩;refine⟨?_,?_,by rw[e2];exact hc,by rw[e2];exact f4.trans hx⟩
  .rw[e1,e2,hR,hS,ab8 f3 (fun o ho=>(f2.n2 o ho).1) (by omega) f5 a7Z];unfold xO;rw[a0y c];simp[a9p,f5]
  rw[e2];intro o ho k lH;rcases a3s.1 ho with ho|ho
  .exact(f3 o ho k lH).ext hx
  rw[a2O.1 ho]at lH;exact(a7Z k lH).ext hx
open Go Tw Pv bQ
theorem Y4(b:Br):DK b=b.aA.all fun x=>x==b.aA.getD 0 0:=by
 have e:kR (SN (PS b) 1 (max 1 b.aA.length))=true↔∀k,1<=k->k<b.aA.length->b.aA.getD k 0=b.aA.getD 0 0:=by
  unfold SN gS;rw[P5 (r:=fun k=>k)];constructor
  .intro h k h1 h2;simpa[PS]using h k h1 (by omega)
  intro h k h1 h2;simpa[PS]using h k h1 (by omega)
 have e2:(b.aA.all fun x=>x==b.aA.getD 0 0)=true↔∀k,1<=k->k<b.aA.length->b.aA.getD k 0=b.aA.getD 0 0:=by
  rw[a5a];constructor
  .intro h k _ h2;have:=h _ (cu h2);simpa using this
  intro h x hx;obtain⟨k,hk,rfl⟩:=a5h.1 hx;by_cases h0:k=0
  .subst h0;rw[rZ hk];simp
  have:=h k (by omega) hk;rw[rZ hk]at this;rw[this];simp
 have:DK b=true↔(b.aA.all fun x=>x==b.aA.getD 0 0)=true:=by rw[e2,<-e];unfold DK;cases kR (SN (PS b) 1 (max 1 b.aA.length))<;>simp
 rw[a5c];exact this
theorem aga{d:Dg}:kR (bM (cD0 d) d.aJ.length)=true↔d.aJ.Nodup:=by
 rw[dQ];have h1:∀i,cD0 d i=false↔∀j,j<i->d.aJ.getD j V0≠d.aJ.getD i V0:=fun i=>by
  have:kR (bM (cD1 d i) i)=true↔∀j,j<i->d.aJ.getD j V0≠d.aJ.getD i V0:=by rw[dQ];simp[cD1]
  rw[<-this];unfold cD0;cases kR (bM (cD1 d i) i)<;>simp
 have hg:∀j,(hj:j<d.aJ.length)->d.aJ.getD j V0=d.aJ[j]:=fun j hj=>by simp[List.getD,a0d hj]
 constructor
 .intro h;rw[acj,acp];intro i j hi hj Ak;have:=(h1 j).1 (h j hj) i Ak
  rwa [hg i hi,hg j hj]at this
 intro h i hi;rw[h1];intro j hj;rw[acj,acp]at h;have:=h j i (by omega) hi hj
 rwa [hg i hi,hg j (by omega)]
theorem agb{d:Dg}:kR (bM (cD2 d) d.aj.length)=true↔(∀i j,i<d.aj.length->j<d.aj.length->(fD d i).var=(fD d j).var->(fD d i).aA=(fD d j).aA->i=j)∧∀i,i<d.aj.length->((fD d i).aA.all fun x=>x==(fD d i).aA.getD 0 0)=false:=by
 rw[dQ];have h1:∀i,cD2 d i=false↔DK (fD d i)=false∧∀j,j<i->¬((fD d j).var=(fD d i).var∧(fD d j).aA=(fD d i).aA):=fun i=>by
  have h3:∀j,cD3 d i j=false↔¬((fD d j).var=(fD d i).var∧(fD d j).aA=(fD d i).aA):=fun j=>by
   unfold cD3;by_cases hv:(fD d j).var=(fD d i).var
   .rw[a0A (by rw[a7h];exact hv),a3b];exact⟨fun a b=>a b.2,fun a b=>a ⟨hv,b⟩⟩
   rw[a0y (by rw[a7h];exact hv)];exact⟨fun _ a=>hv a.1,fun _=>rfl⟩
  have:kR (bM (cD3 d i) i)=true↔∀j,j<i->¬((fD d j).var=(fD d i).var∧(fD d j).aA=(fD d i).aA):=by rw[dQ];exact ach fun j=>ach fun _=>h3 j
  rw[<-this];unfold cD2;cases DK (fD d i)
  .cases kR (bM (cD3 d i) i)<;>simp
  simp
 constructor
 .intro h;refine⟨fun i j hi hj hv hk=>?_,fun i hi=>by rw[<-Y4];exact((h1 i).1 (h i hi)).1⟩;rcases Nat.lt_trichotomy i j with Ak|Ak|Ak
  .exact absurd ⟨hv,hk⟩ (((h1 j).1 (h j hj)).2 i Ak)
  .exact Ak
  exact absurd ⟨hv.symm,hk.symm⟩ (((h1 i).1 (h i hi)).2 j Ak)
 intro h i hi;rw[h1];refine⟨by rw[Y4];exact h.2 i hi,fun j hj hc=>?_⟩;have:=h.1 j i (by omega) hi hc.1 hc.2;omega
theorem abd{d:Dg}:(kR (bM (cD0 d) d.aJ.length)=true∧kR (bM (cD2 d) d.aj.length)=true)↔DgD d:=by rw[aga,agb];exact⟨fun h=>⟨h.1,h.2.1,h.2.2⟩,fun h=>⟨h.aJ,h.aj,h.flat⟩⟩
theorem Q5{l:LI0}{m:Nat}:zS l m=true↔l=dO m:=by
 unfold zS;have e:kR (bM (a7y l) l.length)=true↔∀j,j<l.length->l.getD j 0=(j:Int):=by rw[dQ];simp[a7y]
 constructor
 .intro h;split at h
  .rename_i h1;have hl:(l.length:Int)=(m:Int):=(by simpa using h);have hl:l.length=m:=(by omega);rw[oM (d:=0) (by rw[lU,hl])];intro j hj;rw[e.1 h1 j hj];have:j<m:=(by omega);simp[dO,List.getD,this]
  cases h
 rintro rfl;rw[a0A (e.2 fun j hj=>by rw[lU]at hj;simp[dO,List.getD,hj]),lU];simp
theorem Y5{d:Dg}:o9 d=true↔DgD d∧srN d d.root=dO d.aj.length∧srE d d.root=dO d.aJ.length:=by
 rw[<-abd,<-Q5,<-Q5];unfold o9;cases kR (bM (cD0 d) d.aJ.length)
 .simp
 cases kR (bM (cD2 d) d.aj.length)
 .simp
 cases zS (srN d d.root) (d.aj.length:Int)<;>simp
end Go.Proofs.YtmobpoiejckagaaGreat
