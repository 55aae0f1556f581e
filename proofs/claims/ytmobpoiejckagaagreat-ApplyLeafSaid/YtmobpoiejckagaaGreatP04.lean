/- Part 5 of a proof: ApplyLeaf -/
import Derived.Test.YtmobpoiejckagaaGreatProg
import Derived.KernelRfl
import Derived.Test.YtmobpoiejckagaaGreatP03
set_option linter.constructorNameAsVariable false
set_option linter.unusedVariables false
set_option linter.unusedSimpArgs false
set_option linter.unusedSectionVars false
open Go.IntKind (i64)
noncomputable section
namespace Tw
open Go Go.ChangeShapes Go.WideShapes Go.RowKit
theorem Jt{H:Type}{enc:LI2×LI3->H}{P:LI1}{w:LI4}{t:LI2}{ts:List LI2}{vs:List LI3}{ds:List (DataW H)}{ps:List MemPlace}(h:DataW.TrodAll enc P w 0 (fun _=>true) true (t::ts) vs ds ps):∃d e,ds=d::e∧Rd enc P w t d∧∃vs ps,DataW.TrodAll enc P w 0 (fun _=>true) true ts vs e ps:=by obtain⟨v,vs',d,ds',p,q,rfl,rfl,rfl,⟨fuel,hd⟩,NV⟩:=trodAll_cons h;exact⟨d,ds',rfl,⟨_,fuel,p,hd⟩,_,_,NV⟩
section
variable {H:Type} {P:LI1} {g:Nat} {t:LI2} {ts:List LI2} {d:DataW H} {ds:List (DataW H)} {h h1 h2:List HB} {xs:List TV}
theorem ZU{cs:List TV}(ha:wE P t=some true)(he:zD P g t d h=some (cs,h1))(hr:Ul P g ts ds h1=some (xs,h2)):Ul P g (t::ts) (d::ds) h=some (.agg cs::xs,h2):=by simp only[Ul,he,ha,hr]
theorem afg:Ul (H:=H) P g [] [] h=some ([],h):=rfl
end
end Tw
namespace Pv
open Go Tw
section
variable {X:kP} {P:LI1} {H:Type} {kD:LI2×LI3->H} {w:LI4}
abbrev AT:Nat->Prop:=fun _=>True
def RdP(kD:LI2×LI3->H)(X:kP)(P:LI1)(w:LI4)(g t:Nat){α:Type}(ps:α->List (PV X.Γ))(Q:α->Prop):Prop:=
 ∀d,Rd kD P w t d->∃a,Q a∧∀h,∃xs ext,zD P g t d h=some (xs,h++ext)∧∀e,bY X P AT [] (h++ext++e) (ps a) xs
theorem a1D{t g:Nat}{k:IntKind}(ht:P.underlying t=some (.int k)):RdP kD X P w (g+1) t (fun n:Int=>[.int k n]) (fun n=>(Lit.int k n).wf=true):=fun d hd=>by obtain⟨n,rfl,hn⟩:=afb ht hd;exact⟨n,hn,fun h=>⟨[.int k n],[],by simp[zD,ht],fun e=>.cons (.int _ _) .nil⟩⟩
theorem Tc{e g sz:Nat}{Q:X.Γ e->Prop}(hlen:∀a,(X.enc e a).length=sz)(hr:RdP kD X P w g e (X.enc e) Q):∀(ds:List (DataW H)),(∀y∈ds,Rd kD P w e y) ->
  ∃l:List (X.Γ e),l.length=ds.length∧(∀a∈l,Q a)∧∀h,∃cs ext,WM (zD P g e) sz ds h=some (cs,h++ext)∧cs.length=l.length*sz∧∀e2 (j:Nat) a (i:Nat) c v,l[j]? = some a->(X.enc e a)[i]? = some c->cs[j*sz+i]? = some v->VR X P AT [] (h++ext++e2) c v
 | [],_=>⟨[],rfl,by simp,fun h=>⟨[],[],by simp[WM],by simp,fun e2 j a i c v h1=>by simp at h1⟩⟩
 |d::ds,hd=>by
  obtain⟨a,qa,ha⟩:=hr d (hd d (a2M ..));obtain⟨l,l1,l2,l3⟩:=Tc hlen hr ds fun y hy=>hd y (a3h _ hy);refine⟨a::l,by simp[l1],fun b hb=>(a1F.1 hb).elim (fun e=>e▸qa) (l2 b),fun h=>?_⟩;obtain⟨xs,e1,h1,v1⟩:=ha h;obtain⟨cs,e2,h2,c2,v2⟩:=l3 (h++e1);have hx:xs.length=sz:=by rw[<-(v1 []).1];exact hlen a
  refine⟨xs++cs,e1++e2,?_,by simp only[a1o,a4q,hx,c2,a3i];omega,fun e3 j b i c v hj hi hv=>?_⟩
  .simp only[WM,h1,hx,a1I,h2,a5d]
  .cases j with
   |zero=>
    simp only[a2C,a01]at hj;subst hj;have Le:i<sz:=by rw[<-hlen a];exact(a0a.1 hi).1
    rw[abR,a3I,a0p (by omega)]at hv;have:=(v1 (e2++e3)).2 i c v hi hv;simp only[a5d]at this ⊢;exact this
   |succ j=>
    rw[a9R]at hj;rw[a0G (by rw[hx,a3i];omega),hx,show(j+1)*sz+i-sz=j*sz+i by rw[a3i];omega]at hv;have:=v2 e3 j b i c v hj hi hv;simp only[a5d]at this ⊢;exact this
theorem Pn{t e g sz:Nat}{Q:X.Γ e->Prop}(ht:P.underlying t=some (.slice e))(vk:P.cellsOf e=sz)(hz:dH P e=some sz)(h0:0<sz)(hlen:∀a,(X.enc e a).length=sz)(hr:RdP kD X P w g e (X.enc e) Q):RdP kD X P w (g+1) t (fun l:List (X.Γ e)=>[.dJ e l false]) (fun l=>∀a∈l,Q a):=fun d hd=>by
 rcases a6K ht hd with rfl|⟨xs,ys,rfl,hy⟩
 .exact⟨[],by simp,fun h=>⟨[.nil .aP],[],by simp[zD,ht],fun e=>.cons .pK .nil⟩⟩
 .obtain⟨l,l1,l2,l3⟩:=Tc hlen hr (xs++ys) hy;have hl:xs.length<=l.length:=by rw[l1,a1o];omega
  refine⟨l.take xs.length,fun a ha=>l2 a (a9e ha),fun h=>?_⟩;obtain⟨cs,e1,h1,c1,v1⟩:=l3 h;refine⟨[.aP (h++e1).length 0 xs.length (xs.length+ys.length) sz true],e1++[.cells .ro cs],?_,fun e2=>.cons ?_ .nil⟩
  .have iF:¬sz=0:=(by omega);simp only[zD,ht,vk,h1,iF,a3l,a5d]
  .have hln:(l.take xs.length).length=xs.length:=(by rw[a3K,a88 hl]);have hb:(h++(e1++[HB.cells .ro cs])++e2)[(h++e1).length]? = some (.cells .ro cs):=by rw[show h++(e1++[HB.cells .ro cs])++e2=(h++e1)++(HB.cells .ro cs::e2) by simp,a0G (a0E _),agZ];rfl
   have wL:(l.take xs.length).length<=xs.length+ys.length:=(by omega);have sD:∀(j:Nat) a,(l.take xs.length)[j]? = some a->l[j]? = some a:=fun j a hj=>by
    rw[a4v]at hj;split at hj
    .exact hj
    .cases hj
   have hle:(l.take xs.length).length*sz<=cs.length:=by rw[c1,hln];exact a3w sz hl
   generalize xs.length+ys.length=cp at wL ⊢;generalize l.take xs.length=l' at wL sD hle hln ⊢;rw[<-hln];exact VR.dJ (X:=X) (P:=P) (A:=AT) (m:=[]) (t:=e) (l:=l') (fu:=false) (b:=(h++e1).length) (off:=0) (cap:=cp) (sz:=sz) (ex:=true) (cs:=cs) trivial (by unfold aX;rw[hb]) (fun _=>by unfold mM;rw[hb];simp) hz h0 (by omega) wL (by simp) (fun j a _=>hlen a) (fun j a i c v hj hi hv=>by rw[a3I]at hv;have:=v1 ([HB.cells .ro cs]++e2) j a i c v (sD j a hj) hi hv;simp only[a5d]at this ⊢;exact this)
def RdF(kD:LI2×LI3->H)(X:kP)(P:LI1)(w:LI4)(g o:Nat)(fs:List Field){α:Type}(ps:α->List (PV X.Γ))(Q:α->Prop):Prop:=
 ∀ds:List (DataW H),ds.length=fs.length->(∀(i:Nat) f d,fs[i]? = some f->ds[i]? = some d->Rd kD P w f.type d)->∃a,Q a∧∀h,∃xs ext,Jd P (zD P g) o fs ds h=some (xs,h++ext)∧∀e,bY X P AT [] (h++ext++e) (ps a) xs
theorem N9{g o:Nat}:RdF kD X P w g o [] (fun _:Unit=>[]) (fun _=>True):=fun ds hl _=>by have:=a4a hl;subst this;exact⟨(),trivial,fun h=>⟨[],[],by simp[Jd],fun e=>.nil⟩⟩
theorem o9{g o n:Nat}{f:Field}{fs:List Field}{α β:Type}{p1:α->List (PV X.Γ)}{p2:β->List (PV X.Γ)}{Q1:α->Prop}{Q2:β->Prop}(ho:f.offset=o)(hc:P.cellsOf f.type=n)(hn:∀a,(p1 a).length=n)(h1:RdP kD X P w g f.type p1 Q1)(h2:RdF kD X P w g (o+n) fs p2 Q2):RdF kD X P w g o (f::fs) (fun x:α×β=>p1 x.1++p2 x.2) (fun x=>Q1 x.1∧Q2 x.2):=fun ds hl hd=>by
 cases ds with
 |nil=>cases hl
 |cons d ds=>
  obtain⟨a,qa,ha⟩:=h1 d (hd 0 f d rfl rfl);obtain⟨b,qb,hb⟩:=h2 ds (by simpa using hl) fun i f' d' e1 e2=>hd (i+1) f' d' e1 e2;refine⟨(a,b),⟨qa,qb⟩,fun h=>?_⟩;obtain⟨xs,e1,g1,v1⟩:=ha h;obtain⟨ys,e2,g2,v2⟩:=hb (h++e1);have hx:xs.length=n:=by rw[<-(v1 []).1];exact hn a
  refine⟨xs++ys,e1++e2,?_,fun e=>?_⟩
  .simp only[Jd,g1,ho,hx,hc,adg,a1I,g2,a5d]
  .have w1:=v1 (e2++e);have w2:=v2 e;simp only[a5d]at w1 w2 ⊢;exact w1.app w2
theorem Gf{t g n:Nat}{fs:Array Field}{α:Type}{ps:α->List (PV X.Γ)}{Q:α->Prop}(ht:P.underlying t=some (.struct fs))(hc:P.cellsOf t=n)(hn:∀a,(ps a).length=n)(hf:RdF kD X P w g 0 fs.toList ps Q):RdP kD X P w (g+1) t ps Q:=fun d hd=>by
 obtain⟨ds,rfl,hl,EU⟩:=a3p ht hd;obtain⟨a,qa,ha⟩:=hf ds (by simpa using hl) fun i f d e1 e2=>EU i f d (by simpa using e1) e2;refine⟨a,qa,fun h=>?_⟩;obtain⟨xs,e1,g1,v1⟩:=ha h;have hx:xs.length=n:=by rw[<-(v1 []).1];exact hn a
 refine⟨xs,e1,?_,v1⟩;rw[Xt ht,g1];simp[hx,hc]
theorem a3x{t e g n k:Nat}{α:Type}{ps:α->List (PV X.Γ)}{Q:α->Prop}(ht:P.underlying t=some (.array k e))(hc:P.cellsOf t=n)(hn:∀a,(ps a).length=n)(hf:RdF kD X P w g 0 (WO P k e) ps Q):RdP kD X P w (g+1) t ps Q:=fun d hd=>by
 obtain⟨ds,rfl,hl,EU⟩:=a6J ht hd;obtain⟨a,qa,ha⟩:=hf ds (by simpa[WO]using hl) fun i f d e1 e2=>by simp only[WO,a4y,a0i]at e1;obtain⟨j,_,rfl⟩:=e1;exact EU i d e2
 refine⟨a,qa,fun h=>?_⟩;obtain⟨xs,e1,g1,v1⟩:=ha h;have hx:xs.length=n:=by rw[<-(v1 []).1];exact hn a
 refine⟨xs,e1,?_,v1⟩;rw[ZP ht,g1];simp[hx,hc]
theorem RdP.iso{t g:Nat}{α β:Type}{ps:α->List (PV X.Γ)}{Q:α->Prop}(h:RdP kD X P w g t ps Q)(f:α->β){p2:β->List (PV X.Γ)}{Q2:β->Prop}(hp:∀a,p2 (f a)=ps a)(hq:∀a,Q a->Q2 (f a)):RdP kD X P w g t p2 Q2:=fun d hd=>by obtain⟨a,qa,ha⟩:=h d hd;exact⟨f a,hq a qa,fun h=>by rw[hp];exact ha h⟩
theorem afh{T:qK}{L n f:Nat}{vs:List (PV X.Γ)}{xs:List TV}{h:List HB}(hc:pO X P (lC P T L (n+1)) f vs (PV.bool true) [])(hv:bY X P AT [] h vs xs):∃h',lC P T L (n+1) (TV.fn f [] []) xs h=some (TV.bool true,h',[]):=by
 obtain⟨x,h',m',c1,_,c3,_⟩:=hc AT h [] xs [] (fun _ _=>trivial) (by simpa using hv);have:x=TV.bool true:=by
  cases c3 with
  |bool=>rfl
  |gone hi _ _=>simp[bD]at hi
 subst this;exact⟨h',c1⟩
end
end Pv
namespace Go.Proofs.YtmobpoiejckagaaGreat
open Go Tw
structure B where
 lo:Int
 hi:Int
 f:Int
 deriving DecidableEq
structure O where
 code:Int
 a:Int
 b:Int
 c:Int
 n:Int
 deriving DecidableEq
structure K where
 name:ByteArray
 lo:Int
 hi:Int
structure V where
 f:Int
 n:Int
 deriving DecidableEq
abbrev B0:B:=⟨0,0,0⟩
abbrev O0:O:=⟨0,0,0,0,0⟩
abbrev K0:K:=⟨ByteArray.empty,0,0⟩
abbrev V0:V:=⟨0,0⟩
def qj(g:Int->Bool)(i:Nat)(x:Int)(s:Unit):(Unit)⊕(Nat×Int×(Unit)):=
 if(g x)=true then .inr (i,x,s)else .inl ()
def rP(g:Int->Bool)(l:LI0):Int:=
 if(kU (mY (qj g) l 0 ()))=true then -1 else(((Dq (0,0,()) (mY (qj g) l 0 ())).1:Int))
def nC(g:Int->Bool)(l:LI0):Bool:=
 decide ((rP g l)>=0)
theorem a6W(g:Int->Bool):∀(l:LI0) (i:Nat),kU (mY (qj g) l i ())=!(l.any g)
 | [],i=>rfl
 |x::l,i=>by
  simp only[mY,qj,ady];cases g x with
  |true=>rfl
  |false=>simpa using a6W g l (i+1)
theorem Ep(g:Int->Bool)(l:LI0):nC g l=l.any g:=by
 have:=a6W g l 0;unfold nC rP;rw[this];cases l.any g with
 |true=>simp
 |false=>simp
def wz(x:Int)(lo:Int)(hi:Int):Bool:=
 if(decide ((x)<(lo)))=true then true else decide ((x)>(hi))
def nD(l:LI0)(lo:Int)(hi:Int):Bool:=
 !(l.any ((fun x=>wz x lo hi)))
theorem wrap_small{z:Int}(h0:-(2^62)<=z)(h1:z<2^62):i64.wrap z=z:=by
 simp only[IntKind.wrap,IntKind.bits,IntKind.signed];rcases Int.lt_or_le z 0 with h|h
 .have:z%(2^64:Int)=z+2^64:=by have:=ac4 z (2^64) 1;rw[acf]at this;rw[<-this];exact a8F (by omega) (by omega)
  simp only[this];rw[a0u (by simp;omega)];omega
 have:z%(2^64:Int)=z:=a8F h (by omega);simp only[this];rw[a0q (by simp;omega)]
def jq(k:Int)(least:Int)(ah:Int):Bool:=
 if(decide ((k)>=(least)))=true then decide ((k)<=(ah))else false
def fG(k:Int):V:=
 (⟨0,k⟩:V)
def lT(f:Int):V:=
 (⟨f,0⟩:V)
def rQ(is:Bool):V:=
 if is=true then fG 1 else fG 0
def qw(k:Int):V:=
 if(decide ((k)<(-9999)))=true then lT 2 else if(decide ((k)>9999))=true then lT 2 else fG k
def Ju(a:V)(b:V)(c:V):V:=
 if(decide ((a.f)>0))=true then a else if((a.n)==0)=true then c else b
def gU(a b:Int):Int:=if b<0 then(-a)/(-b)else a/b
def bH(code:Int)(a:V)(b:V):V:=
 if(decide ((a.f)>0))=true then a else if((code)==15)=true then if((a.n)==0)=true then a else if((code)==16)=true then if((a.n) != 0)=true then fG 1 else b else b else if((code)==16)=true then if((a.n) != 0)=true then fG 1 else b else if(decide ((b.f)>0))=true then b else if((code)==7)=true then qw (i64.wrap ((a.n)+(b.n)))else if((code)==8)=true then qw (i64.wrap ((a.n)-(b.n)))else if((code)==9)=true then qw (i64.wrap ((a.n)*(b.n)))else if((code)==12)=true then rQ ((a.n)==(b.n))else if((code)==13)=true then rQ (decide ((a.n)<(b.n)))else if((code)==14)=true then rQ (decide ((a.n)<=(b.n)))else if((b.n)==0)=true then lT 1 else if((code)==10)=true then fG (gU (a.n) (b.n))else fG (i64.wrap ((a.n)-(i64.wrap ((b.n)*(gU (a.n) (b.n))))))
def jB(g:V->Bool)(i:Nat)(x:V)(s:Unit):(Unit)⊕(Nat×V×(Unit)):=
 if(g x)=true then .inr (i,x,s)else .inl ()
def iK(g:V->Bool)(l:List V):Int:=
 if(kU (mY (jB g) l 0 ()))=true then -1 else(((Dq (0,V0,()) (mY (jB g) l 0 ())).1:Int))
def qx(g:V->Bool)(l:List V):Bool:=
 decide ((iK g l)>=0)
theorem a6X(g:V->Bool):∀(l:List V) (i:Nat),kU (mY (jB g) l i ())=!(l.any g)
 | [],i=>rfl
 |x::l,i=>by
  simp only[mY,jB,ady];cases g x with
  |true=>rfl
  |false=>simpa using a6X g l (i+1)
theorem Jv(g:V->Bool)(l:List V):qx g l=l.any g:=by
 have:=a6X g l 0;unfold qx iK;rw[this];cases l.any g with
 |true=>simp
 |false=>simp
theorem Td(g:V->Bool):∀(l:List V) (i:Nat),kU (mY (jB g) l i ())=false->(Dq (0,V0,()) (mY (jB g) l i ())).1<i+l.length∧l[(Dq (0,V0,()) (mY (jB g) l i ())).1-i]? = l.find? g∧i<=(Dq (0,V0,()) (mY (jB g) l i ())).1
 | [],i,h=>by cases h
 |x::l,i,h=>by
  simp only[mY,jB]at h ⊢;by_cases hx:g x=true
  .simp only[hx,a1I,Dq,a4q,ah4];refine⟨by omega,by simp,by omega⟩
  simp only[agA]at hx;simp only[hx,a2z,a3l,a4q,ah4]at h ⊢;obtain⟨h1,h2,h3⟩:=Td g l (i+1) h;refine⟨by omega,?_,by omega⟩;rw[<-h2,show(Dq (0,V0,()) (mY (jB g) l (i+1) ())).1-i=((Dq (0,V0,()) (mY (jB g) l (i+1) ())).1-(i+1))+1 by omega];simp
theorem QG(g:V->Bool)(l:List V):iK g l<l.length:=by
 unfold iK;split
 .omega
 rename_i h;have:=(Td g l 0 (by simpa using h)).1;omega
def V6(x:Int):Bool:=
 (x) != (x)
def Jw(x:Int)(y:Int):Int:=
 if(decide ((x)<(y)))=true then -1 else if(decide ((x)>(y)))=true then 1 else 0
def Ig(f:Int):V:=
 (⟨f,0⟩:V)
def tV(x:Int)(lo:Int)(hi:Int):Bool:=
 if(decide ((x)<(lo)))=true then true else decide ((x)>(hi))
def wB(l:LI0)(lo:Int)(hi:Int):Bool:=
 !(l.any ((fun x=>tV x lo hi)))
def xu(v:V):Bool:=
 if((v.f)==0)=true then wB (([v.n]:LI0)) (-9999) 9999 else if(decide ((v.f)<=4))=true then(v.n)==0 else false
def oO(k:Int):V:=
 if(!(wB (([k]:LI0)) (-9999) 9999))=true then Ig 2 else(⟨0,k⟩:V)
def Po(is:Bool):V:=
 if is=true then oO 1 else oO 0
def og(v:V):Bool:=
 (v.f) != 0
def Ba(v:V):Bool:=
 !(xu v)
def bQ(l:List V):V×Bool:=
 if(decide ((iK ((fun v=>og v)) l)<0))=true then((⟨0,0⟩:V),false)else((l.getD (iK ((fun v=>og v)) l).toNat V0),true)
def iy(l:List V):Bool:=
 !(l.any ((fun v=>Ba v)))
def jM(a:V)(b:V)(c:V):V×Int:=
 if(!(iy (([a,b,c]:List V))))=true then((⟨0,0⟩:V),2)else if((a.f) != 0)=true then(a,0)else if((a.n)==0)=true then(c,0)else(b,0)
def Jy(a:Int)(b:Int):V:=
 oO (i64.wrap ((a)+(b)))
def Jz(a:Int)(b:Int):V:=
 oO (i64.wrap ((a)-(b)))
def JA(a:Int)(b:Int):V:=
 oO (i64.wrap ((a)*(b)))
def DC(a:Int)(b:Int):Int:=
 a
def DF(a:Int)(b:Int):Int:=
 b
def DI(a:Int):Bool:=
 (a)==0
def DK(a:Int):Bool:=
 decide ((a)<0)
def DL(a:Int):Bool:=
 decide ((a)<=0)
def uN(a:Int)(b:Int):Int×Int:=
 if((Ou .i64 (a) (b)) != 0)=true then if((decide ((Ou .i64 (a) (b))<0)) != (decide ((b)<0)))=true then(i64.wrap ((Uu .i64 (a) (b))-1),i64.wrap ((Ou .i64 (a) (b))+(b)))else(Uu .i64 (a) (b),Ou .i64 (a) (b))else(Uu .i64 (a) (b),Ou .i64 (a) (b))
def iL(g:Int->Int->Int)(a:Int)(b:Int):V:=
 if((b)==0)=true then Ig 1 else oO (g ((uN a b).1) ((uN a b).2))
def dR(g:Int->Bool)(a:Int)(b:Int):V:=
 Po (g (Jw a b))
def rU(a:V)(b:V):V×Int:=
 if(!(iy (([a,b]:List V))))=true then((⟨0,0⟩:V),2)else if((bQ (([a,b]:List V))).2)=true then((bQ (([a,b]:List V))).1,0)else(Jy a.n b.n,0)
def rV(a:V)(b:V):V×Int:=
 if(!(iy (([a,b]:List V))))=true then((⟨0,0⟩:V),2)else if((bQ (([a,b]:List V))).2)=true then((bQ (([a,b]:List V))).1,0)else(Jz a.n b.n,0)
def rW(a:V)(b:V):V×Int:=
 if(!(iy (([a,b]:List V))))=true then((⟨0,0⟩:V),2)else if((bQ (([a,b]:List V))).2)=true then((bQ (([a,b]:List V))).1,0)else(JA a.n b.n,0)
def oP(a:V)(b:V):V×Int:=
 if(!(iy (([a,b]:List V))))=true then((⟨0,0⟩:V),2)else if((bQ (([a,b]:List V))).2)=true then((bQ (([a,b]:List V))).1,0)else(iL DC (a.n) (b.n),0)
def oQ(a:V)(b:V):V×Int:=
 if(!(iy (([a,b]:List V))))=true then((⟨0,0⟩:V),2)else if((bQ (([a,b]:List V))).2)=true then((bQ (([a,b]:List V))).1,0)else(iL DF (a.n) (b.n),0)
def oU(a:V)(b:V):V×Int:=
 if(!(iy (([a,b]:List V))))=true then((⟨0,0⟩:V),2)else if((bQ (([a,b]:List V))).2)=true then((bQ (([a,b]:List V))).1,0)else(dR DI (a.n) (b.n),0)
def oV(a:V)(b:V):V×Int:=
 if(!(iy (([a,b]:List V))))=true then((⟨0,0⟩:V),2)else if((bQ (([a,b]:List V))).2)=true then((bQ (([a,b]:List V))).1,0)else(dR DK (a.n) (b.n),0)
def oW(a:V)(b:V):V×Int:=
 if(!(iy (([a,b]:List V))))=true then((⟨0,0⟩:V),2)else if((bQ (([a,b]:List V))).2)=true then((bQ (([a,b]:List V))).1,0)else(dR DL (a.n) (b.n),0)
def tX(a:V)(b:V):V×Int:=
 ((jM a b (oO 0)).1,(jM a b (oO 0)).2)
def tY(a:V)(b:V):V×Int:=
 ((jM a (oO 1) b).1,(jM a (oO 1) b).2)
def gV(code:Int)(a b:V):V:=
 if code=7 then(rU a b).1 else if code=8 then(rV a b).1 else if code=9 then(rW a b).1 else if code=10 then(oP a b).1 else if code=11 then(oQ a b).1 else if code=12 then(oU a b).1 else if code=13 then(oV a b).1 else if code=14 then(oW a b).1 else if code=15 then(tX a b).1 else(tY a b).1
def Ih(code:Int)(a b:V):V×Int:=if code=7 then rU a b else if code=8 then rV a b else if code=9 then rW a b else if code=10 then oP a b else if code=11 then oQ a b else if code=12 then oU a b else if code=13 then oV a b else if code=14 then oW a b else if code=15 then tX a b else tY a b
theorem nine{p:Int}(h:7<=p∧p<=16):p=7∨p=8∨p=9∨p=10∨p=11∨p=12∨p=13∨p=14∨p=15∨p=16:=by omega
structure l9(v:V):Prop where
 f0:0<=v.f
 f1:v.f<=4
 n:v.f=0->-9999<=v.n∧v.n<=9999
 z:v.f≠0->v.n=0
theorem XD(k:Int):wB [k] (-9999) 9999=(decide (-9999<=k)&&decide (k<=9999)):=by
 simp only[wB,tV,ady,List.any_nil,Bool.or_false];by_cases h:k < -9999
 .simp[h];omega
 by_cases h2:k>9999<;>simp[h,h2]<;>omega
theorem uO{v:V}(h:l9 v):xu v=true:=by
 obtain⟨f,n⟩:=v;have h0:=h.f0;have h1:=h.f1;have h2:=h.n;have h3:=h.z;simp only at h0 h1 h2 h3;unfold xu;simp only[XD,a6P];by_cases hf:f=0
 .subst hf;simp;exact h2 rfl
 simp[hf,h1,h3 hf]
theorem aoT{a b:V}(ha:l9 a)(hb:l9 b):(!(iy [a,b]))=false:=by simp[iy,Ba,uO ha,uO hb]
theorem a6Y{a b c:V}(ha:l9 a)(hb:l9 b)(hc:l9 c):(!(iy [a,b,c]))=false:=by simp[iy,Ba,uO ha,uO hb,uO hc]
theorem afi(a b:V):bQ [a,b]=if a.f≠0 then(a,true)else if b.f≠0 then(b,true)else(⟨0,0⟩,false):=by
 by_cases h:a.f=0
 .by_cases h2:b.f=0
  .simp[bQ,iK,mY,jB,og,kU,Dq,h,h2]
  simp[bQ,iK,mY,jB,og,kU,Dq,h,h2]
 simp[bQ,iK,mY,jB,og,kU,Dq,h]
theorem vW(k:Int):oO k=qw k:=by
 unfold oO qw Ig lT fG;rw[XD];by_cases h:k < -9999
 .rw[a0u (by simp;omega),a0u (by simpa using h)]
 rw[a0q (c:=decide (k < -9999)=true) (by simpa using h)];by_cases h2:k>9999
 .rw[a0u (by simp;omega),a0u (by simpa using h2)]
 rw[a0q (by simp;omega),a0q (by simpa using h2)]
theorem tZ(k:Int):l9 (qw k):=by
 unfold qw lT fG;split
 .exact⟨by decide,by decide,by simp,by simp⟩
 split
 .exact⟨by decide,by decide,by simp,by simp⟩
 rename_i h1 h2;simp at h1 h2;exact⟨by simp,by simp,fun _=>by simp only;omega,by simp⟩
theorem a3y(b:Bool):Po b=rQ b:=by cases b<;>rfl
theorem JB(b:Bool):l9 (rQ b):=by cases b<;>exact⟨by decide,by decide,fun _=>by decide,by decide⟩
theorem a3z{a b:Int}(hb:b≠0):a.tmod b=0∨True->(gU a b=(if a.tmod b≠0∧(decide (a.tmod b<0) != decide (b<0))=true then a.tdiv b-1 else a.tdiv b))∧a-b*gU a b=(if a.tmod b≠0∧(decide (a.tmod b<0) != decide (b<0))=true then a.tmod b+b else a.tmod b)∧(a-b*gU a b).natAbs<b.natAbs:=by
 intro _;have hq:=@Int.tdiv_eq_ediv a b;have hr:=@Int.tmod_eq_emod a b;have hm:=Int.mul_ediv_add_emod a b;have h0:=ah0 a hb;have h1:=Int.emod_lt a hb;have hd:b ∣ a↔a%b=0:=⟨Int.emod_eq_zero_of_dvd,Int.dvd_of_emod_eq_zero⟩;generalize a.tdiv b=T at *;generalize a.tmod b=R at *;generalize hE:a/b=e at *;generalize hM:a%b=m at *;unfold gU;have cT:0<=a∨b ∣ a->T=e∧R=m:=fun h=>by rw[a0u h]at hq hr;omega
 rcases Int.lt_or_gt_of_ne hb with Ad|Ad
 .rw[a0u Ad];have hsg:b.sign=-1:=Int.sign_eq_neg_one_of_neg Ad;have hna:(b.natAbs:Int)=-b:=by omega
  have cF:¬(0<=a∨b ∣ a)->T=e-1∧R=m+b:=fun h=>by rw[a0q h]at hq hr;omega
  rw[hna]at h1;by_cases Rf:m=0
  .have u:=(Int.ediv_emod_unique (a:=-a) (b:=-b) (r:=0) (q:=e) (by omega)).2 ⟨by rw[Int.neg_mul];omega,by omega,by omega⟩;rw[u.1];obtain⟨c1,c2⟩:=cT (.inr (hd.2 Rf));subst c1;subst c2;rw[a0q (by simp[Rf]),a0q (by simp[Rf])];omega
  have jG:¬b ∣ a:=fun h=>Rf (hd.1 h);have e1:b*(e-1)=b*e-b:=by rw[Int.mul_sub,acf]
  have u:=(Int.ediv_emod_unique (a:=-a) (b:=-b) (r:=-b-m) (q:=e-1) (by omega)).2 ⟨by rw[Int.neg_mul,e1];omega,by omega,by omega⟩;rw[u.1,e1];by_cases ha:0<=a
  .obtain⟨c1,c2⟩:=cT (.inl ha);subst c1;subst c2;have hc:(R≠0∧(decide (R<0) != decide (b<0))=true):=⟨Rf,by simp[Ad];omega⟩;rw[a0u hc,a0u hc];omega
  obtain⟨c1,c2⟩:=cF (by simp[ha,jG]);have hc:¬(R≠0∧(decide (R<0) != decide (b<0))=true):=fun h=>by have:=h.2;simp[Ad]at this;omega
  rw[a0q hc,a0q hc];omega
 rw[a0q (by omega),hE];have hsg:b.sign=1:=Int.sign_eq_one_of_pos Ad;have hna:(b.natAbs:Int)=b:=by omega
 have cF:¬(0<=a∨b ∣ a)->T=e+1∧R=m-b:=fun h=>by rw[a0q h]at hq hr;omega
 rw[hna]at h1;by_cases hc0:0<=a∨b ∣ a
 .obtain⟨c1,c2⟩:=cT hc0;have hc:¬(R≠0∧(decide (R<0) != decide (b<0))=true):=fun h=>by have:=h.2;simp at this;omega
  rw[a0q hc,a0q hc];omega
 obtain⟨c1,c2⟩:=cF hc0;have Rf:m≠0:=fun h=>hc0 (.inr (hd.2 h));have hc:(R≠0∧(decide (R<0) != decide (b<0))=true):=⟨by omega,by simp;omega⟩;rw[a0u hc,a0u hc];omega
theorem wr{z:Int}(h1:-1000000000<=z)(h2:z<=1000000000):i64.wrap z=z:=wrap_small (by omega) (by omega)
theorem XE{a b:Int}(a0:-9999<=a)(a1:a<=9999)(b0:-9999<=b)(b1:b<=9999)(hb:b≠0):uN a b=(gU a b,a-b*gU a b)∧(-9999<=gU a b∧gU a b<=9999)∧(-9999<=a-b*gU a b∧a-b*gU a b<=9999)∧i64.wrap (a-i64.wrap (b*gU a b))=a-b*gU a b:=by
 obtain⟨h1,h2,h3⟩:=a3z (a:=a) hb (.inr trivial);have hna:(a.tdiv b).natAbs<=a.natAbs:=by rw[Int.natAbs_tdiv];exact Nat.div_le_self _ _
 have hq:Uu .i64 a b=a.tdiv b:=wr (by omega) (by omega);have hp:(b*gU a b).natAbs=b.natAbs*(gU a b).natAbs:=Int.natAbs_mul _ _;have hQ:(gU a b).natAbs<=9999:=by
  rcases a4u 9999 (gU a b).natAbs with h|h
  .have:=Nat.mul_le_mul_left b.natAbs (show 10000<=(gU a b).natAbs from h);generalize b*gU a b=p at *;generalize b.natAbs*(gU a b).natAbs=r at *;omega
  exact h
 refine⟨?_,by omega,by generalize b*gU a b=p at *;omega,?_⟩
 .unfold uN Ou;rw[hq];have hw1:i64.wrap (a.tdiv b-1)=a.tdiv b-1:=wr (by omega) (by omega);have hrb:(a.tmod b).natAbs<=9999:=by rw[Int.natAbs_tmod];exact a4Z (Nat.mod_le _ _) (by omega)
  have hw2:i64.wrap (a.tmod b+b)=a.tmod b+b:=wr (by omega) (by omega);rw[h2,h1,hw1,hw2];by_cases c1:a.tmod b=0
  .rw[a0q (by simp[c1]),a0q (by simp[c1]),a0q (by simp[c1])]
  rw[a0u (by simpa using c1)];by_cases c2:(decide (a.tmod b<0) != decide (b<0))=true
  .rw[a0u c2,a0u ⟨c1,c2⟩,a0u ⟨c1,c2⟩]
  rw[a0q c2,a0q (fun h=>c2 h.2),a0q (fun h=>c2 h.2)]
 rw[wr (z:=b*gU a b) (by generalize b*gU a b=p at *;omega) (by generalize b*gU a b=p at *;omega)];exact wr (by generalize b*gU a b=p at *;omega) (by generalize b*gU a b=p at *;omega)
theorem XF{k:Int}(h1:-9999<=k)(h2:k<=9999):qw k=fG k:=by unfold qw;rw[a0q (by simp;omega),a0q (by simp;omega)]
theorem jI{g:Int->Int->V}{a b:V}(ha:l9 a)(hb:l9 b):(if(!(iy [a,b]))=true then((⟨0,0⟩:V),(2:Int))else if(bQ [a,b]).2=true then((bQ [a,b]).1,0)else(g a.n b.n,0)).1=if a.f≠0 then a else if b.f≠0 then b else g a.n b.n:=by
 rw[aoT ha hb,afi];by_cases h:a.f=0
 .by_cases h2:b.f=0<;>simp[h,h2]
 simp[h]
theorem Bc{a:V}(ha:l9 a)(h:a.f≠0):decide (a.f>0)=true:=by have:=ha.f0;simp;omega
theorem Pq{k:Int}(h1:-9999<=k)(h2:k<=9999):l9 (fG k):=⟨by simp[fG],by simp[fG],fun _=>⟨h1,h2⟩,fun h=>by simp[fG]at h⟩
theorem div_eq{a b:V}(ha:l9 a)(hb:l9 b)(h:a.f=0)(h2:b.f=0):iL DC a.n b.n=(if(b.n==0)=true then lT 1 else fG (gU a.n b.n))∧l9 (if(b.n==0)=true then lT 1 else fG (gU a.n b.n)):=by
 have a9:=ha.n h;have b9:=hb.n h2;unfold iL DC;by_cases hz:b.n=0
 .rw[a0u (by simpa using hz),a0u (by simpa using hz)];exact⟨rfl,⟨by decide,by decide,by decide,by decide⟩⟩
 obtain⟨q1,q2,_,_⟩:=XE a9.1 a9.2 b9.1 b9.2 hz;rw[a0q (by simpa using hz),a0q (by simpa using hz),q1,vW,XF q2.1 q2.2];exact⟨rfl,Pq q2.1 q2.2⟩
theorem mod_eq{a b:V}(ha:l9 a)(hb:l9 b)(h:a.f=0)(h2:b.f=0):iL DF a.n b.n=(if(b.n==0)=true then lT 1 else fG (i64.wrap (a.n-i64.wrap (b.n*gU a.n b.n))))∧l9 (if(b.n==0)=true then lT 1 else fG (i64.wrap (a.n-i64.wrap (b.n*gU a.n b.n)))):=by
 have a9:=ha.n h;have b9:=hb.n h2;unfold iL DF;by_cases hz:b.n=0
 .rw[a0u (by simpa using hz),a0u (by simpa using hz)];exact⟨rfl,⟨by decide,by decide,by decide,by decide⟩⟩
 obtain⟨q1,_,q3,q4⟩:=XE a9.1 a9.2 b9.1 b9.2 hz;rw[a0q (by simpa using hz),a0q (by simpa using hz),q1,vW,q4,XF q3.1 q3.2];exact⟨rfl,Pq q3.1 q3.2⟩
theorem afj(a b:Int):dR DI a b=rQ (a==b)∧dR DK a b=rQ (decide (a<b))∧dR DL a b=rQ (decide (a<=b)):=by
 unfold dR DI DK DL Jw;simp only[a3y];rcases Int.lt_trichotomy a b with h|h|h
 .have:(a==b)=false:=by simp;omega
  simp[h,this,aey h]
 .subst h;simp
 have h1:¬a<b:=by omega
 have h2:(a==b)=false:=by simp;omega
 have h3:¬a<=b:=by omega
 simp[h,h1,h2,h3]
theorem afk{k:Int}(h7:7<=k∧k<=16){a b:V}(ha:l9 a)(hb:l9 b):gV k a b=bH k a b∧l9 (bH k a b):=by
 have e15:a.f=0->gV 15 a b=bH 15 a b∧l9 (bH 15 a b):=fun h=>by
  rw[show gV 15 a b=(tX a b).1 from rfl,show bH 15 a b=(if(a.n==0)=true then a else b) by simp[bH,h]];unfold tX jM;rw[a6Y ha hb (vW 0▸tZ 0)];by_cases hz:a.n=0
  .have:a=⟨0,0⟩:=by obtain⟨f,n⟩:=a;simp only at h hz;rw[h,hz]
   subst this;exact⟨rfl,ha⟩
  simp[h,hz];exact hb
 have e16:a.f=0->gV 16 a b=bH 16 a b∧l9 (bH 16 a b):=fun h=>by
  rw[show gV 16 a b=(tY a b).1 from rfl,show bH 16 a b=(if(a.n != 0)=true then fG 1 else b) by simp[bH,h]];unfold tY jM;rw[a6Y ha (vW 1▸tZ 1) hb];by_cases hz:a.n=0
  .simp[h,hz];exact hb
  simp[h,hz];exact⟨rfl,Pq (by decide) (by decide)⟩
 by_cases h:a.f=0
 .by_cases h2:b.f=0
  .have d:=div_eq ha hb h h2;have m:=mod_eq ha hb h h2;have c:=afj a.n b.n;rcases nine h7 with rfl|rfl|rfl|rfl|rfl|rfl|rfl|rfl|rfl|rfl
   .rw[show gV 7 a b=(rU a b).1 from rfl,show bH 7 a b=qw (i64.wrap (a.n+b.n)) by simp[bH,h,h2]];unfold rU;rw[jI (g:=fun x y=>Jy x y) ha hb];simp only[h,h2,ne_eq,a8w,a3l,Jy,vW];exact⟨trivial,tZ _⟩
   .rw[show gV 8 a b=(rV a b).1 from rfl,show bH 8 a b=qw (i64.wrap (a.n-b.n)) by simp[bH,h,h2]];unfold rV;rw[jI (g:=fun x y=>Jz x y) ha hb];simp only[h,h2,ne_eq,a8w,a3l,Jz,vW];exact⟨trivial,tZ _⟩
   .rw[show gV 9 a b=(rW a b).1 from rfl,show bH 9 a b=qw (i64.wrap (a.n*b.n)) by simp[bH,h,h2]];unfold rW;rw[jI (g:=fun x y=>JA x y) ha hb];simp only[h,h2,ne_eq,a8w,a3l,JA,vW];exact⟨trivial,tZ _⟩
   .rw[show gV 10 a b=(oP a b).1 from rfl,show bH 10 a b=(if(b.n==0)=true then lT 1 else fG (gU a.n b.n)) by simp[bH,h,h2]];unfold oP;rw[jI (g:=fun x y=>iL DC x y) ha hb];simp only[h,h2,ne_eq,a8w,a3l];exact d
   .rw[show gV 11 a b=(oQ a b).1 from rfl,show bH 11 a b=(if(b.n==0)=true then lT 1 else fG (i64.wrap (a.n-i64.wrap (b.n*gU a.n b.n)))) by simp[bH,h,h2]];unfold oQ;rw[jI (g:=fun x y=>iL DF x y) ha hb];simp only[h,h2,ne_eq,a8w,a3l];exact m
   .rw[show gV 12 a b=(oU a b).1 from rfl,show bH 12 a b=rQ (a.n==b.n) by simp[bH,h,h2]];unfold oU;rw[jI (g:=fun x y=>dR DI x y) ha hb];simp only[h,h2,ne_eq,a8w,a3l];exact⟨c.1,JB _⟩
   .rw[show gV 13 a b=(oV a b).1 from rfl,show bH 13 a b=rQ (decide (a.n<b.n)) by simp[bH,h,h2]];unfold oV;rw[jI (g:=fun x y=>dR DK x y) ha hb];simp only[h,h2,ne_eq,a8w,a3l];exact⟨c.2.1,JB _⟩
   .rw[show gV 14 a b=(oW a b).1 from rfl,show bH 14 a b=rQ (decide (a.n<=b.n)) by simp[bH,h,h2]];unfold oW;rw[jI (g:=fun x y=>dR DL x y) ha hb];simp only[h,h2,ne_eq,a8w,a3l];exact⟨c.2.2,JB _⟩
   .exact e15 h
   exact e16 h
  rcases nine h7 with rfl|rfl|rfl|rfl|rfl|rfl|rfl|rfl|rfl|rfl
  .rw[show gV 7 a b=(rU a b).1 from rfl,show bH 7 a b=b by simp[bH,h,Bc hb h2]];unfold rU;rw[jI (g:=fun x y=>Jy x y) ha hb];simp only[h,h2,ne_eq,a8w,a5g,a3l,a1I];exact⟨trivial,hb⟩
  .rw[show gV 8 a b=(rV a b).1 from rfl,show bH 8 a b=b by simp[bH,h,Bc hb h2]];unfold rV;rw[jI (g:=fun x y=>Jz x y) ha hb];simp only[h,h2,ne_eq,a8w,a5g,a3l,a1I];exact⟨trivial,hb⟩
  .rw[show gV 9 a b=(rW a b).1 from rfl,show bH 9 a b=b by simp[bH,h,Bc hb h2]];unfold rW;rw[jI (g:=fun x y=>JA x y) ha hb];simp only[h,h2,ne_eq,a8w,a5g,a3l,a1I];exact⟨trivial,hb⟩
  .rw[show gV 10 a b=(oP a b).1 from rfl,show bH 10 a b=b by simp[bH,h,Bc hb h2]];unfold oP;rw[jI (g:=fun x y=>iL DC x y) ha hb];simp only[h,h2,ne_eq,a8w,a5g,a3l,a1I];exact⟨trivial,hb⟩
  .rw[show gV 11 a b=(oQ a b).1 from rfl,show bH 11 a b=b by simp[bH,h,Bc hb h2]];unfold oQ;rw[jI (g:=fun x y=>iL DF x y) ha hb];simp only[h,h2,ne_eq,a8w,a5g,a3l,a1I];exact⟨trivial,hb⟩
  .rw[show gV 12 a b=(oU a b).1 from rfl,show bH 12 a b=b by simp[bH,h,Bc hb h2]];unfold oU;rw[jI (g:=fun x y=>dR DI x y) ha hb];simp only[h,h2,ne_eq,a8w,a5g,a3l,a1I];exact⟨trivial,hb⟩
  .rw[show gV 13 a b=(oV a b).1 from rfl,show bH 13 a b=b by simp[bH,h,Bc hb h2]];unfold oV;rw[jI (g:=fun x y=>dR DK x y) ha hb];simp only[h,h2,ne_eq,a8w,a5g,a3l,a1I];exact⟨trivial,hb⟩
  .rw[show gV 14 a b=(oW a b).1 from rfl,show bH 14 a b=b by simp[bH,h,Bc hb h2]];unfold oW;rw[jI (g:=fun x y=>dR DL x y) ha hb];simp only[h,h2,ne_eq,a8w,a5g,a3l,a1I];exact⟨trivial,hb⟩
  .exact e15 h
  exact e16 h
 rcases nine h7 with rfl|rfl|rfl|rfl|rfl|rfl|rfl|rfl|rfl|rfl
 .rw[show gV 7 a b=(rU a b).1 from rfl,show bH 7 a b=a by simp[bH,Bc ha h]];unfold rU;rw[jI (g:=fun x y=>Jy x y) ha hb];simp only[h,ne_eq,a8w,a5g,a1I];exact⟨trivial,ha⟩
 .rw[show gV 8 a b=(rV a b).1 from rfl,show bH 8 a b=a by simp[bH,Bc ha h]];unfold rV;rw[jI (g:=fun x y=>Jz x y) ha hb];simp only[h,ne_eq,a8w,a5g,a1I];exact⟨trivial,ha⟩
 .rw[show gV 9 a b=(rW a b).1 from rfl,show bH 9 a b=a by simp[bH,Bc ha h]];unfold rW;rw[jI (g:=fun x y=>JA x y) ha hb];simp only[h,ne_eq,a8w,a5g,a1I];exact⟨trivial,ha⟩
 .rw[show gV 10 a b=(oP a b).1 from rfl,show bH 10 a b=a by simp[bH,Bc ha h]];unfold oP;rw[jI (g:=fun x y=>iL DC x y) ha hb];simp only[h,ne_eq,a8w,a5g,a1I];exact⟨trivial,ha⟩
 .rw[show gV 11 a b=(oQ a b).1 from rfl,show bH 11 a b=a by simp[bH,Bc ha h]];unfold oQ;rw[jI (g:=fun x y=>iL DF x y) ha hb];simp only[h,ne_eq,a8w,a5g,a1I];exact⟨trivial,ha⟩
 .rw[show gV 12 a b=(oU a b).1 from rfl,show bH 12 a b=a by simp[bH,Bc ha h]];unfold oU;rw[jI (g:=fun x y=>dR DI x y) ha hb];simp only[h,ne_eq,a8w,a5g,a1I];exact⟨trivial,ha⟩
 .rw[show gV 13 a b=(oV a b).1 from rfl,show bH 13 a b=a by simp[bH,Bc ha h]];unfold oV;rw[jI (g:=fun x y=>dR DK x y) ha hb];simp only[h,ne_eq,a8w,a5g,a1I];exact⟨trivial,ha⟩
 .rw[show gV 14 a b=(oW a b).1 from rfl,show bH 14 a b=a by simp[bH,Bc ha h]];unfold oW;rw[jI (g:=fun x y=>dR DL x y) ha hb];simp only[h,ne_eq,a8w,a5g,a1I];exact⟨trivial,ha⟩
 .rw[show gV 15 a b=(tX a b).1 from rfl,show bH 15 a b=a by simp[bH,Bc ha h]];unfold tX jM;rw[a6Y ha hb (vW 0▸tZ 0)];simp[h];exact ha
 rw[show gV 16 a b=(tY a b).1 from rfl,show bH 16 a b=a by simp[bH,Bc ha h]];unfold tY jM;rw[a6Y ha (vW 1▸tZ 1) hb];simp[h];exact ha
theorem a3A{a b c:V}(ha:l9 a)(hb:l9 b)(hc:l9 c):(jM a b c).1=Ju a b c∧l9 (Ju a b c):=by
 unfold jM Ju;rw[a6Y ha hb hc];by_cases h:a.f=0
 .by_cases hz:a.n=0
  .simp[h,hz];exact hc
  simp[h,hz];exact hb
 have:=Bc ha h;simp only[a1n]at this;simp[h,this];exact ha
open Go.Shelf
def a3B:Go.Shelf.Ren:=⟨fun| 189=>137| 125=>180| 257=>179| 128=>216| 129=>217| 294=>207| 295=>208| 296=>209| 297=>210| 298=>211| 299=>212| 216=>213| 300=>214| 301=>215| 328=>229| 329=>230| 330=>231| 331=>232| 332=>233| 215=>219| 343=>235|n=>n,fun| 28=>22| 3=>3| 46=>184| 0=>0| 51=>204| 53=>207| 4=>4| 183=>212| 182=>211| 131=>152| 5=>5| 9=>9| 218=>227| 222=>231| 228=>233| 229=>192|n=>n,fun|n=>n⟩
theorem acj:Lays.n189 Tryz.prog a3B where
 mixed:=by kernel_rfl
 f125:=Tryz.func180.trans (congrArg some (by kernel_rfl))
 f128:=Tryz.func216.trans (congrArg some (by kernel_rfl))
 f129:=Tryz.func217.trans (congrArg some (by kernel_rfl))
 f189:=Tryz.func137.trans (congrArg some (by kernel_rfl))
 f215:=Tryz.func219.trans (congrArg some (by kernel_rfl))
 f216:=Tryz.func213.trans (congrArg some (by kernel_rfl))
 f257:=Tryz.func179.trans (congrArg some (by kernel_rfl))
 f294:=Tryz.func207.trans (congrArg some (by kernel_rfl))
 f295:=Tryz.func208.trans (congrArg some (by kernel_rfl))
 f296:=Tryz.func209.trans (congrArg some (by kernel_rfl))
 f297:=Tryz.func210.trans (congrArg some (by kernel_rfl))
 f298:=Tryz.func211.trans (congrArg some (by kernel_rfl))
 f299:=Tryz.func212.trans (congrArg some (by kernel_rfl))
 f300:=Tryz.func214.trans (congrArg some (by kernel_rfl))
 f301:=Tryz.func215.trans (congrArg some (by kernel_rfl))
 f328:=Tryz.func229.trans (congrArg some (by kernel_rfl))
 f329:=Tryz.func230.trans (congrArg some (by kernel_rfl))
 f330:=Tryz.func231.trans (congrArg some (by kernel_rfl))
 f331:=Tryz.func232.trans (congrArg some (by kernel_rfl))
 f332:=Tryz.func233.trans (congrArg some (by kernel_rfl))
 f343:=Tryz.func235.trans (congrArg some (by kernel_rfl))
 t0:=Tryz.underlying0
 a0:=Tryz.isAgg0
 z0:=Tryz.sizeOf0
 v0:=Tryz.zeroValue0
 t3:=Tryz.underlying3
 a3:=Tryz.isAgg3
 z3:=Tryz.sizeOf3
 v3:=Tryz.zeroValue3
 t4:=Tryz.underlying4
 a4:=Tryz.isAgg4
 z4:=Tryz.sizeOf4
 v4:=Tryz.zeroValue4
 t5:=Tryz.underlying5
 a5:=Tryz.isAgg5
 z5:=Tryz.sizeOf5
 v5:=Tryz.zeroValue5
 t9:=Tryz.underlying9
 a9:=Tryz.isAgg9
 z9:=Tryz.sizeOf9
 v9:=Tryz.zeroValue9
 t28:=Tryz.underlying22
 a28:=Tryz.isAgg22
 z28:=Tryz.sizeOf22
 v28:=Tryz.zeroValue22
 t46:=Tryz.underlying184
 a46:=Tryz.isAgg184
 z46:=Tryz.sizeOf184
 v46:=Tryz.zeroValue184
 t51:=Tryz.underlying204
 a51:=Tryz.isAgg204
 z51:=Tryz.sizeOf204
 v51:=Tryz.zeroValue204
 t53:=Tryz.underlying207
 a53:=Tryz.isAgg207
 z53:=Tryz.sizeOf207
 v53:=Tryz.zeroValue207
 t131:=Tryz.underlying152
 a131:=Tryz.isAgg152
 z131:=Tryz.sizeOf152
 v131:=Tryz.zeroValue152
 t182:=Tryz.underlying211
 a182:=Tryz.isAgg211
 z182:=Tryz.sizeOf211
 v182:=Tryz.zeroValue211
 t183:=Tryz.underlying212
 a183:=Tryz.isAgg212
 z183:=Tryz.sizeOf212
 v183:=Tryz.zeroValue212
 t218:=Tryz.underlying227
 a218:=Tryz.isAgg227
 z218:=Tryz.sizeOf227
 v218:=Tryz.zeroValue227
 t222:=Tryz.underlying231
 a222:=Tryz.isAgg231
 z222:=Tryz.sizeOf231
 v222:=Tryz.zeroValue231
 t228:=Tryz.underlying233
 a228:=Tryz.isAgg233
 z228:=Tryz.sizeOf233
 v228:=Tryz.zeroValue233
 t229:=Tryz.underlying192
 a229:=Tryz.isAgg192
 z229:=Tryz.sizeOf192
 v229:=Tryz.zeroValue192
def Tb:Tw.qK:={
 live:=[(11,[(0,[3,4,5]),(1,[3,4,5,18]),(2,[6]),(3,[3,4,5,7,8]),(4,[3,4,5,7,8,9,10]),(5,[3,4,5,7,8,9,10,11]),(6,[3,4,5,7,8,9,10,11,12]),(7,[3,4,5,7,8,9,10,11,12,57]),(8,[3,4,5,7,8,9,10,11,12]),(9,[3,4,5,7,8,9,10,11,12,83]),(10,[3,4,5,7,8,9,10,11,12]),(11,[3,5,9,10,12,111]),(12,[6]),(13,[3,5,9,10,12,113]),(14,[6]),(15,[6])]),
  (19,[(0,[]),(1,[1,2]),(2,[1,2,3,4]),(3,[1,2,3,4,5,6]),(4,[1,2,3,4,5,6,7,8]),(5,[1,2,3,4,5,6,7,8,9,10]),(6,[1,2,3,4,5,6,7,8,9,10,11,12]),(7,[1,2,3,4,5,6,7,8,9,10,11,12,13,14]),(8,[1,2,3,4,5,6,7,8,9,10,11,12,13,14,15,16]),(9,[1,2,3,4,5,6,7,8,9,10,11,12,13,14,16,17,18]),(10,[1,2,3,4,5,6,7,8,9,10,11,12,13,14,16,17,18,19,20]),(11,[1,3,4,5,6,7,8,9,10,11,12,13,14,16,17,18,20,21,22]),(12,[0])]),
  (20,[(0,[1,2,3,6]),(1,[1,2,3,6,8]),(2,[1,2,3,6,8,14]),(3,[6,7]),(4,[1,2,3,6,34]),(5,[6,7]),(6,[1,2,6,9]),(7,[6,9]),(8,[6,7])]),
  (22,[(0,[1]),(1,[1,3]),(2,[1,3,7]),(3,[2]),(4,[11]),(5,[2]),(6,[2])]),
  (23,[(0,[0,1,2]),(1,[6])]),
  (24,[(0,[1]),(1,[2])]),
  (25,[(0,[1,3,5]),(1,[6])]),
  (27,[(0,[2,3]),(1,[3,6,7]),(2,[3,6,7,15]),(3,[4,5]),(4,[4,5])]),
  (28,[(0,[2,3]),(1,[3,6,7]),(2,[3,6,7,17]),(3,[4,5]),(4,[3,6,21]),(5,[4,5]),(6,[3,6,29,30,31]),(7,[3,6,29,30,31,32]),(8,[3,6,8,9,29,30,31]),(9,[3,6,8,29,30,31,36,37]),(10,[3,6,8,29,30,31,36,37,38]),(11,[3,6,8,10,29,30,31,36,37]),(12,[3,6,8,29,30,31,36,37]),(13,[3,6,8,29,30,31,36,37,49]),(14,[3,6,8,29,30,31,36,37]),(15,[3,6,29,30,31]),(16,[4,5])]),
  (29,[(0,[1]),(1,[1,5]),(2,[2]),(3,[2])]),
  (32,[(0,[0,1]),(1,[0,1,10]),(2,[4]),(3,[0,1,5]),(4,[0,1,5,14]),(5,[0,1,5]),(6,[0,1,5,25]),(7,[4]),(8,[4])]),
  (33,[(0,[0,4,5,6]),(1,[0,4,5,6,8]),(2,[0,4,5,6,8,17]),(3,[6,7]),(4,[0,4,5,6,25]),(5,[6,7]),(6,[0,6,9]),(7,[0,6,9]),(8,[0,6,9,36]),(9,[6]),(10,[6,7]),(11,[0,6,9,10,11]),(12,[6,9,10,11,44]),(13,[6]),(14,[6,9,10,11,44,49]),(15,[6]),(16,[6,9,10,11,44,58]),(17,[6]),(18,[6,9,10,11,44,65]),(19,[6]),(20,[6,10,11,71]),(21,[6,10]),(22,[6,10]),(23,[6,10,81]),(24,[6]),(25,[6,7])]),
  (35,[(0,[2,3]),(1,[2,3,69]),(2,[4]),(3,[2,3,5]),(4,[2,3,5,74]),(5,[2,3,5]),(6,[2,3,5,87]),(7,[4]),(8,[4])]),
  (39,[(0,[0,3,4]),(1,[0,3,4,12]),(2,[4,5]),(3,[0,3,4,5]),(4,[0,3,4,5,20]),(5,[4,5]),(6,[0,3,4,25]),(7,[4,5]),(8,[0,3,4]),(9,[3,4,31,32,33]),(10,[3,4,31,32,33,34]),(11,[3,4,6,7,31,32,33]),(12,[3,4,6,8,31,32,33]),(13,[3,4,6,8,31,32,33,45]),(14,[4]),(15,[4,5]),(16,[3,4,6,9,31,32,33]),(17,[3,4,6,9,31,32,33,59]),(18,[3,4,31,32,33]),(19,[3,4,31,32,33]),(20,[4,5])]),
  (44,[(0,[1]),(1,[1,3]),(2,[1,3,7]),(3,[2]),(4,[1,3,4]),(5,[1,3,4,12]),(6,[1,3,4]),(7,[1,3,4]),(8,[2])]),
  (45,[(0,[0,4,5,6]),(1,[0,4,5,6,11]),(2,[0,4,5,6,11,12]),(3,[6,7]),(4,[0,4,5,6,20]),(5,[6,7]),(6,[4,5,6,8]),(7,[4,5,6,8,38]),(8,[6,7]),(9,[4,5,6,8,9,10]),(10,[4,5,6,8,9,47]),(11,[6,7]),(12,[6,7])]),
  (48,[(0,[0,2]),(1,[2])]),
  (49,[(0,[0]),(1,[2])]),
  (52,[(0,[0,1]),(1,[0,1,5]),(2,[0,1,5,6]),(3,[0,1,5,6,10]),(4,[0,1,5,6]),(5,[0,1,5,6]),(6,[4])]),
  (53,[(0,[0,1]),(1,[0,1,5]),(2,[0,1,5,6]),(3,[0,1,5,6,14]),(4,[0,1,5,6]),(5,[0,1,5,6]),(6,[0,1,5,6]),(7,[4])]),
  (54,[(0,[0,1]),(1,[0,1,12]),(2,[4]),(3,[4])]),
  (55,[(0,[0,1,5,6]),(1,[0,1,5,6,8]),(2,[0,1,5,6,8,13]),(3,[6,7]),(4,[0,1,5,6,18]),(5,[6,7]),(6,[6,7])]),
  (56,[(0,[0]),(1,[2])]),
  (57,[(0,[0,1,2,3,8]),(1,[0,1,2,3,8,10]),(2,[0,1,2,3,8,10,17]),(3,[8,9]),(4,[0,1,2,3,8,36]),(5,[8,9]),(6,[0,2,3,8,11]),(7,[3,8,11,47,48]),(8,[3,8,11,47,48,49]),(9,[3,8,11,12,47,48]),(10,[3,8,11,12,47,48]),(11,[3,8,11,47,48]),(12,[3,8,11,47,48]),(13,[8,9])]),
  (58,[(0,[0,1]),(1,[0,1,8]),(2,[4]),(3,[0,1,5]),(4,[0,1,5,12]),(5,[0,1,5]),(6,[0,1,5,20]),(7,[4]),(8,[0,1,23]),(9,[4]),(10,[27]),(11,[4]),(12,[4])]),
  (59,[(0,[0,1,5,6]),(1,[0,1,5,6,7]),(2,[0,1,5,6,7,8]),(3,[0,1,5,6,7,8,12]),(4,[0,1,5,6,7,8]),(5,[0,1,5,6,7,8]),(6,[6])]),
  (60,[(0,[0,1,2,3,8]),(1,[0,1,2,3,8,9]),(2,[0,1,2,3,8,9,10]),(3,[0,1,2,3,8,9,10,14]),(4,[0,1,2,3,8,9,10]),(5,[0,1,2,3,8,9,10]),(6,[8])]),
  (62,[(0,[3,4,5,6]),(1,[3,4,5,6,8]),(2,[3,4,5,6,8,16]),(3,[6,7]),(4,[3,4,5,6,10]),(5,[3,4,5,6,10,27]),(6,[6,7]),(7,[6,7])]),
  (63,[(0,[3,4,5,6]),(1,[3,4,5,6,8]),(2,[3,4,5,6,8,15]),(3,[6,7]),(4,[6,7])]),
  (67,[(0,[1,2]),(1,[1,2,4]),(2,[1,2,4,9]),(3,[2,3]),(4,[2,3])]),
  (72,[(0,[2,3]),(1,[2,3,43]),(2,[4]),(3,[2,3,5]),(4,[2,3,5,48]),(5,[2,3,5]),(6,[2,3,5,79]),(7,[4]),(8,[4])]),
  (73,[(0,[0,1]),(1,[0,1,2]),(2,[0,1,2,3]),(3,[0,1])]),
  (74,[(0,[1,2,3]),(1,[1,2,3,7]),(2,[1,2,3,7,8]),(3,[1,2,3,7,8,12]),(4,[1,2,3,7,8]),(5,[1,2,3,7,8]),(6,[6])]),
  (75,[(0,[0,1]),(1,[0,1,10]),(2,[4]),(3,[0,1,5]),(4,[0,1,5,14]),(5,[0,1,5]),(6,[0,1,5,25]),(7,[4]),(8,[4])]),
  (76,[(0,[0]),(1,[0,6,7,8]),(2,[0,6,7,8,9]),(3,[0,4,6,7,8]),(4,[0,5,6,7,8]),(5,[0,5,6,7,8,15]),(6,[2]),(7,[0,6,7,8]),(8,[30]),(9,[2]),(10,[2])]),
  (77,[(0,[0,1,2]),(1,[6])]),
  (78,[(0,[0,1,4]),(1,[4])]),
  (79,[(0,[0,2]),(1,[2])]),
  (80,[(0,[1,2]),(1,[1,2,3]),(2,[1,2,3,4]),(3,[1,2,3,4,5]),(4,[1,2,3,5]),(5,[2,3]),(6,[2,6]),(7,[2])]),
  (83,[(0,[1]),(1,[1,3]),(2,[1,3,10]),(3,[2]),(4,[1,15]),(5,[2]),(6,[18]),(7,[2]),(8,[2])]),
  (84,[(0,[1]),(1,[1,3]),(2,[1,3,13]),(3,[1,3]),(4,[1,3,4]),(5,[1,3,4,18]),(6,[1,3,4]),(7,[1,3,4,31]),(8,[2]),(9,[1,5]),(10,[1,5,36]),(11,[1,5]),(12,[1,5,44]),(13,[2]),(14,[1,5,6]),(15,[1,5,6,47]),(16,[1,5,6]),(17,[1,5,6,77]),(18,[2]),(19,[1,7,8]),(20,[2])]),
  (85,[(0,[0,1,2,6]),(1,[0,2,6,7]),(2,[6,7]),(3,[6])]),
  (86,[(0,[2,3,4]),(1,[2,3,4,6]),(2,[2,3,4,6,11]),(3,[4,5]),(4,[2,4,16]),(5,[4,5]),(6,[4,5])]),
  (87,[(0,[1,2]),(1,[1,2,3]),(2,[2,3,8]),(3,[3,4,10]),(4,[3,4,5]),(5,[3,4,5,15]),(6,[]),(7,[2])]),
  (88,[(0,[0,2,3]),(1,[2,3,6]),(2,[2,3,6,8]),(3,[2,3,4,6]),(4,[2,3,4,6,13]),(5,[2,3,6]),(6,[2,3,6]),(7,[2,3]),(8,[2,3])]),
  (89,[(0,[0]),(1,[0])]),
  (90,[(0,[0,2]),(1,[2,6]),(2,[2,6,8]),(3,[2,4,6]),(4,[2,6]),(5,[2])]),
  (93,[(0,[0]),(1,[2])]),
  (94,[(0,[0]),(1,[0,7]),(2,[0]),(3,[0,3]),(4,[0,3,4]),(5,[0,3,4,15]),(6,[0,3,4]),(7,[0,3,4]),(8,[2])]),
  (95,[(0,[0]),(1,[2])]),
  (96,[(0,[1]),(1,[2])]),
  (98,[(0,[1,2,4]),(1,[1,2,4,5]),(2,[1,2,4,5,9]),(3,[1,2,4,5]),(4,[4])]),
  (99,[(0,[3,4,5,6]),(1,[3,4,5,6,8]),(2,[6,7]),(3,[3,4,5,6,16]),(4,[6,7]),(5,[4,5,6,21]),(6,[6,7]),(7,[6,7])]),
  (100,[(0,[0,2]),(1,[0,2,6]),(2,[2]),(3,[2])]),
  (101,[(0,[0]),(1,[3]),(2,[3,4]),(3,[2]),(4,[3,6]),(5,[2]),(6,[3,8]),(7,[2]),(8,[3,10]),(9,[2]),(10,[3,13]),(11,[2]),(12,[3,16]),(13,[2]),(14,[3,19]),(15,[2]),(16,[22]),(17,[2]),(18,[2])]),
  (102,[(0,[0]),(1,[2])]),
  (103,[(0,[0,2]),(1,[0,2,4]),(2,[0,2,4,8]),(3,[2,3]),(4,[2,3])]),
  (104,[(0,[0,1]),(1,[0,1,5]),(2,[0,5,6]),(3,[0,5,6,11]),(4,[0,5,6]),(5,[0,5,6]),(6,[4])]),
  (105,[(0,[0,1]),(1,[0,1,9]),(2,[4]),(3,[0,1,13]),(4,[4]),(5,[0,1,5]),(6,[0,1,5,17,18,19]),(7,[0,1,5,17,18,19,20]),(8,[0,1,5,7,17,18,19]),(9,[0,1,5,17,18,19]),(10,[0,1,5,17,18,19]),(11,[0,1,28]),(12,[4]),(13,[0,8]),(14,[0,8]),(15,[38]),(16,[4]),(17,[4])]),
  (106,[(0,[1]),(1,[5]),(2,[2]),(3,[2])]),
  (107,[(0,[0,1,5,6]),(1,[6])]),
  (108,[(0,[1,2]),(1,[2,4,5]),(2,[2,4,5,12]),(3,[2,3]),(4,[2,3])]),
  (109,[(0,[0,1]),(1,[0,1,11]),(2,[4]),(3,[0,1,5]),(4,[0,1,5,15]),(5,[0,1,5]),(6,[0,1,5,26]),(7,[4]),(8,[0,1,5,6]),(9,[0,1,5,6,29]),(10,[0,1,5,6]),(11,[0,1,5,6,40]),(12,[4]),(13,[4])]),
  (112,[(0,[0,1,3]),(1,[3,4]),(2,[3])]),
  (113,[(0,[0,2]),(1,[2,3]),(2,[2])]),
  (117,[(0,[0,2]),(1,[2,4]),(2,[2]),(3,[2])]),
  (121,[(0,[1]),(1,[4]),(2,[2])]),
  (122,[(0,[1,2]),(1,[4])]),
  (123,[(0,[2,3]),(1,[4])]),
  (124,[(0,[0,1]),(1,[0,1,10]),(2,[0,1]),(3,[0,5,6]),(4,[0,6,26]),(5,[0,6]),(6,[0,7]),(7,[7,8]),(8,[7,8,37]),(9,[7,8]),(10,[4])]),
  (125,[(0,[0]),(1,[0,4]),(2,[2]),(3,[2])]),
  (126,[(0,[1,2,3,4,5,6]),(1,[1,2,3,4,5,6,32]),(2,[1,2,3,4,5,6]),(3,[1,2,3,4,5,6,40]),(4,[3]),(5,[8]),(6,[1,2,3,4,5,6,9]),(7,[1,2,3,4,5,6,9,10]),(8,[1,2,3,4,5,6,9,10,68]),(9,[8]),(10,[1,2,3,4,5,6,9,11,12]),(11,[1,2,3,4,5,6,9,11,84]),(12,[8]),(13,[1,2,3,4,5,6,9,13]),(14,[1,2,3,4,5,6,9,13,93,94]),(15,[1,2,3,4,5,6,9,13,93,94,95]),(16,[1,2,3,4,5,6,9,13,14,93,94]),(17,[1,2,3,4,5,6,9,13,93,94]),(18,[1,2,3,4,5,6,9,13,93,94]),(19,[3,5,6,13]),(20,[5,6]),(21,[8])]),
  (127,[(0,[2,3,4]),(1,[2,4,10,11,12]),(2,[2,4,10,11,12,13]),(3,[2,4,7,8,10,11,12]),(4,[2,4,10,11,12,32]),(5,[6]),(6,[2,4,10,11,12]),(7,[6])]),
  (128,[(0,[2,3,4]),(1,[3,4,8,9,10]),(2,[3,4,8,9,10,11]),(3,[3,4,5,6,8,9,10]),(4,[3,4,8,9,10]),(5,[3,4,8,9,10]),(6,[4])]),
  (129,[(0,[2,3,4,5,8]),(1,[2,3,5,8,12,13,14]),(2,[2,3,5,8,12,13,14,15]),(3,[2,3,5,8,9,10,12,13,14]),(4,[2,3,5,8,9,10,12,13,14,34]),(5,[2,3,5,8,12,13,14]),(6,[2,3,5,8,12,13,14]),(7,[8])]),
  (130,[(0,[1,2]),(1,[2,6,7,8]),(2,[2,6,7,8,9]),(3,[2,3,4,6,7,8]),(4,[2,6,7,8]),(5,[2,6,7,8]),(6,[2])]),
  (131,[(0,[1]),(1,[1,3]),(2,[1,3,11]),(3,[1,3]),(4,[1,3,20]),(5,[2]),(6,[1,4]),(7,[1,4,25]),(8,[1,4]),(9,[1,4,5]),(10,[1,4,5,52]),(11,[2]),(12,[1,4,5,6]),(13,[1,4,5,6,57]),(14,[1,4,5,6]),(15,[1,4,5,6,81]),(16,[2]),(17,[2])]),
  (132,[(0,[1]),(1,[1,3]),(2,[1,3,8]),(3,[1,3]),(4,[1,3,20]),(5,[2]),(6,[2])]),
  (133,[(0,[1,2,3,4]),(1,[1,2,3,4,13]),(2,[1,2,3,18]),(3,[2,3]),(4,[8,9]),(5,[1,2,3,4,28]),(6,[8,9]),(7,[1,2,3,4,10]),(8,[1,2,3,4,10,11]),(9,[1,2,3,4,10,11,40]),(10,[1,2,3,4,10,11]),(11,[1,2,3,4,10,11]),(12,[8,9])]),
  (134,[(0,[0,1]),(1,[0,1,5]),(2,[0,1,5,9]),(3,[0,1,5]),(4,[0,1,5,17]),(5,[4]),(6,[4])]),
  (135,[(0,[1,2,3,4,8]),(1,[1,2,3,4,8,21]),(2,[4,8,10]),(3,[4,8,10,11]),(4,[4,8,10,11,33]),(5,[4,8,10,11]),(6,[4,8,10,11,42]),(7,[8,9]),(8,[4,8]),(9,[8,9]),(10,[1,2,3,4,8,12]),(11,[1,2,3,4,8,12,13]),(12,[1,2,3,4,8,12,13,70]),(13,[1,2,3,4,8,12,13]),(14,[1,2,3,4,8,12,13,14]),(15,[1,2,3,4,8,12,13,14]),(16,[1,2,3,4,8,12,13,14]),(17,[1,2,3,4,8,12,13,15]),(18,[1,2,3,4,8,12,13]),(19,[4,8,12,96]),(20,[8,9]),(21,[4,8,12,16]),(22,[4,8,12,16,106]),(23,[4,8,12,16]),(24,[4,8,12,16,128]),(25,[8,9]),(26,[4,8]),(27,[8,9])]),
  (136,[(0,[1,2]),(1,[1,2,4]),(2,[1,2,4,21,22,23]),(3,[1,2,4,21,22,23,24]),(4,[1,2,4,6,21,22,23]),(5,[1,2,4,6,7,21,22,23]),(6,[1,2,6,7,21,22,23,29]),(7,[1,2,6,7,21,22,23,29,31]),(8,[1,2,6,7,8,9,21,22,23,29]),(9,[1,2,6,7,8,9,10,21,22,23,29]),(10,[1,2,6,7,8,9,10,11,21,22,23,29]),(11,[1,2,6,7,8,9,10,11,21,22,23,29,46]),(12,[1,2,6,7,21,22,23,29]),(13,[1,2,6,7,8,9,10,21,22,23,29,60]),(14,[1,2,6,7,21,22,23,29]),(15,[1,2,6,7,8,9,21,22,23,29,75,76]),(16,[1,2,6,7,8,9,21,22,23,29,75,76,77]),(17,[1,2,6,7,8,9,12,21,22,23,29,75,76]),(18,[1,2,6,7,8,9,21,22,23,29,75,76]),(19,[1,2,6,7,8,9,21,22,23,29,75,76]),(20,[1,2,4,21,22,23]),(21,[1,2,4,21,22,23]),(22,[1,2,94]),(23,[1,2,94,96]),(24,[1,2,13,14,94]),(25,[1,2,94,106])]),
  (137,[(0,[0,2]),(1,[])]),
  (138,[(0,[1,2,4]),(1,[2,4,6]),(2,[2,5]),(3,[]),(4,[4])]),
  (139,[(0,[0,6]),(1,[0,6,8]),(2,[0,4,6]),(3,[0,6,14])]),
  (140,[(0,[2,3,4]),(1,[6])]),
  (141,[(0,[0,2]),(1,[2])]),
  (142,[(0,[0,1,4]),(1,[4])]),
  (143,[(0,[0,1,4]),(1,[4])]),
  (144,[(0,[0,1,4]),(1,[4])]),
  (145,[(0,[1]),(1,[2])]),
  (146,[(0,[0]),(1,[4])]),
  (147,[(0,[1]),(1,[4])]),
  (148,[(0,[1]),(1,[2])]),
  (149,[(0,[0]),(1,[2])]),
  (150,[(0,[0]),(1,[2])]),
  (151,[(0,[0]),(1,[2])]),
  (152,[(0,[0,1]),(1,[4])]),
  (153,[(0,[1]),(1,[2])]),
  (154,[(0,[1]),(1,[1,5]),(2,[2]),(3,[2])]),
  (155,[(0,[0,1]),(1,[0,1,7,8]),(2,[0,1,7,8,9]),(3,[0,1,5,7,8]),(4,[0,1,5,7,8,16]),(5,[4]),(6,[0,1,7,8]),(7,[4])]),
  (156,[(0,[1]),(1,[2])]),
  (157,[(0,[2,3,4]),(1,[6])]),
  (158,[(0,[0,1]),(1,[0,1,10]),(2,[4]),(3,[0,1,12,13]),(4,[0,1,12,13,14]),(5,[0,1,5,12,13]),(6,[0,1,12,13,24]),(7,[4]),(8,[0,1,12,13]),(9,[4])]),
  (159,[(0,[0]),(1,[0,3]),(2,[3,7,8]),(3,[3,7,8,9]),(4,[3,4,7,8]),(5,[3,7,8]),(6,[3,7,8]),(7,[2])]),
  (160,[(0,[1,2]),(1,[1,2,4]),(2,[1,2,4,11]),(3,[2,3]),(4,[1,2]),(5,[1,2,21]),(6,[2,3]),(7,[1,2,27]),(8,[1,2,27]),(9,[2,27]),(10,[2,3]),(11,[2,3])]),
  (161,[(0,[1,2]),(1,[1,2,3]),(2,[1,2,3,4]),(3,[1,2,3,4,5]),(4,[1,2,3,5]),(5,[2,3]),(6,[2])]),
  (168,[(0,[1,2]),(1,[4])]),
  (169,[(0,[1]),(1,[2])]),
  (172,[(0,[1,2]),(1,[1,2,3]),(2,[2,3,17]),(3,[2,3]),(4,[2,3])]),
  (173,[(0,[0,1]),(1,[4])]),
  (174,[(0,[1,2]),(1,[3])]),
  (175,[(0,[0,1]),(1,[6,7]),(2,[4,5]),(3,[8,9]),(4,[4,5])]),
  (176,[(0,[1,2,3]),(1,[1,2,3,8]),(2,[6]),(3,[6])]),
  (177,[(0,[1,2]),(1,[1,2,5]),(2,[1,2,5,14]),(3,[1,2,5]),(4,[1,2,5,28]),(5,[4]),(6,[4])]),
  (178,[(0,[0,1]),(1,[0,1,5]),(2,[0,1,5,9]),(3,[0,1,5]),(4,[0,1,5,17]),(5,[4]),(6,[4])]),
  (181,[(0,[0,1]),(1,[4])]),
  (182,[(0,[0,1,2]),(1,[4])]),
  (183,[(0,[0,1,2,5]),(1,[0,1,2,5,7]),(2,[5]),(3,[5])]),
  (184,[(0,[0,1]),(1,[1,4,5]),(2,[1,4,5,20]),(3,[4,5]),(4,[4,5])]),
  (185,[(0,[0,1,2,5]),(1,[5])]),
  (186,[(0,[0,2]),(1,[2,3]),(2,[2]),(3,[2])]),
  (187,[(0,[0,1]),(1,[0,1,5]),(2,[0,1,5,6]),(3,[0,1,6,11]),(4,[12]),(5,[4]),(6,[4]),(7,[0,1,13]),(8,[4]),(9,[0,1,16]),(10,[4]),(11,[19]),(12,[4]),(13,[4])]),
  (188,[(0,[0,1,2]),(1,[4])]),
  (189,[(0,[0,3]),(1,[4])]),
  (190,[(0,[1]),(1,[1,5]),(2,[2]),(3,[2])]),
  (191,[(0,[0,3]),(1,[4])]),
  (192,[(0,[2,3]),(1,[2,3,5]),(2,[2,3,5,34]),(3,[4]),(4,[4])]),
  (193,[(0,[1,2,3,4]),(1,[1,2,3,4,10]),(2,[8]),(3,[8])]),
  (194,[(0,[1]),(1,[2])]),
  (195,[(0,[0,1,2,3,4]),(1,[0,1,2,3,4,14]),(2,[6]),(3,[0,1,2,3,4,7,8]),(4,[0,1,2,3,4,7,30]),(5,[6]),(6,[0,1,3,4,9]),(7,[0,1,3,4,9,10]),(8,[0,1,3,4,9,10,43,44,45]),(9,[0,1,3,4,9,10,43,44,45,46]),(10,[0,1,3,4,9,10,11,12,43,44,45]),(11,[0,1,3,4,9,10,43,44,45]),(12,[0,1,3,4,9,10,43,44,45]),(13,[0,3]),(14,[6])]),
  (196,[(0,[0,3]),(1,[0,3,5,6]),(2,[0,3,5,17]),(3,[0,3,5]),(4,[0,3,5]),(5,[5]),(6,[4])]),
  (197,[(0,[0]),(1,[2])]),
  (198,[(0,[0,1,5]),(1,[0,1,5,12]),(2,[6]),(3,[0,1,5,7]),(4,[0,1,5,7]),(5,[0,1,5,7,8,9]),(6,[0,1,5,7,8,32]),(7,[0,1,5,7,8]),(8,[0,1,5,8]),(9,[8]),(10,[6])]),
  (201,[(0,[1,2]),(1,[3])]),
  (203,[(0,[2,3]),(1,[2,3,5]),(2,[4])]),
  (204,[(0,[0,1]),(1,[0,1,7,8]),(2,[0,1,7,8,9]),(3,[0,1,5,7,8]),(4,[0,1,5,7,8,16]),(5,[4]),(6,[0,1,7,8]),(7,[4])]),
  (205,[(0,[0,1]),(1,[6]),(2,[4,5])]),
  (206,[(0,[0,1]),(1,[0,1,6]),(2,[0,1,6,7]),(3,[0,1,6,7,8]),(4,[0,1,6,7,8,9]),(5,[0,1,6,7,8,9,10]),(6,[0,1,6,7,9,11]),(7,[0,1,6,7,9,11,12]),(8,[0,1,6,7,9,12,13]),(9,[0,1,7,9,12,13]),(10,[0,1,4]),(11,[4,5])]),
  (218,[(0,[0,1]),(1,[0,1,7,8]),(2,[0,1,7,8,9]),(3,[0,1,5,7,8]),(4,[0,1,5,7,8,16]),(5,[4]),(6,[0,1,7,8]),(7,[4])]),
  (219,[(0,[0]),(1,[2])]),
  (220,[(0,[1,2]),(1,[3])]),
  (221,[(0,[0,1]),(1,[3])]),
  (222,[(0,[0,1,2,3]),(1,[5])]),
  (223,[(0,[1,2]),(1,[4])]),
  (224,[(0,[0,1]),(1,[3])]),
  (226,[(0,[2,3]),(1,[4])]),
  (227,[(0,[0,1]),(1,[0,1,10]),(2,[4]),(3,[0,1,12,13]),(4,[0,1,12,13,14]),(5,[0,1,5,12,13]),(6,[0,1,12,13,24]),(7,[4]),(8,[0,1,12,13]),(9,[4])]),
  (228,[(0,[0,1,2]),(1,[0,1,2,14]),(2,[6]),(3,[1,2,15,16,17]),(4,[1,2,15,16,17,18]),(5,[1,2,7,8,15,16,17]),(6,[1,2,8,9,15,16,17]),(7,[1,2,15,16,17,30]),(8,[6]),(9,[1,2,15,16,17]),(10,[6])]),
  (234,[(0,[0,1]),(1,[0,1,7,8]),(2,[0,1,7,8,9]),(3,[0,1,5,7,8]),(4,[0,1,5,7,8,16]),(5,[4]),(6,[0,1,7,8]),(7,[4])])],
 head:=[(28,[(7,[3,6,29,30,31]),(10,[3,6,8,29,30,31,36,37])]),
  (32,[(4,[0,1,5])]),
  (35,[(4,[2,3,5])]),
  (39,[(10,[3,4,31,32,33])]),
  (44,[(5,[1,3,4])]),
  (52,[(3,[0,1,5,6])]),
  (53,[(3,[0,1,5,6])]),
  (57,[(8,[3,8,11,47,48])]),
  (58,[(4,[0,1,5])]),
  (59,[(3,[0,1,5,6,7,8])]),
  (60,[(3,[0,1,2,3,8,9,10])]),
  (72,[(4,[2,3,5])]),
  (74,[(3,[1,2,3,7,8])]),
  (75,[(4,[0,1,5])]),
  (76,[(2,[0,6,7,8])]),
  (84,[(2,[1,3]),(5,[1,3,4]),(10,[1,5]),(15,[1,5,6])]),
  (88,[(2,[2,3,6])]),
  (90,[(2,[2,6])]),
  (94,[(5,[0,3,4])]),
  (98,[(2,[1,2,4,5])]),
  (104,[(3,[0,5,6])]),
  (105,[(7,[0,1,5,17,18,19])]),
  (109,[(4,[0,1,5]),(9,[0,1,5,6])]),
  (124,[(8,[7,8])]),
  (126,[(1,[1,2,3,4,5,6]),(15,[1,2,3,4,5,6,9,13,93,94])]),
  (127,[(2,[2,4,10,11,12])]),
  (128,[(2,[3,4,8,9,10])]),
  (129,[(2,[2,3,5,8,12,13,14])]),
  (130,[(2,[2,6,7,8])]),
  (131,[(2,[1,3]),(7,[1,4]),(13,[1,4,5,6])]),
  (132,[(2,[1,3])]),
  (133,[(9,[1,2,3,4,10,11])]),
  (134,[(2,[0,1,5])]),
  (135,[(4,[4,8,10,11]),(12,[1,2,3,4,8,12,13]),(22,[4,8,12,16])]),
  (136,[(3,[1,2,4,21,22,23]),(7,[1,2,6,7,21,22,23,29]),(16,[1,2,6,7,8,9,21,22,23,29,75,76]),(23,[1,2,94])]),
  (139,[(1,[0,6])]),
  (155,[(2,[0,1,7,8])]),
  (158,[(4,[0,1,12,13])]),
  (159,[(3,[3,7,8])]),
  (177,[(2,[1,2,5])]),
  (178,[(2,[0,1,5])]),
  (195,[(9,[0,1,3,4,9,10,43,44,45])]),
  (204,[(2,[0,1,7,8])]),
  (218,[(2,[0,1,7,8])]),
  (227,[(4,[0,1,12,13])]),
  (228,[(4,[1,2,15,16,17])]),
  (234,[(2,[0,1,7,8])])],
 site:=[(61,[2]),(62,[3]),(80,[1,3,4,5]),(87,[1,3]),(96,[1]),(122,[2]),(138,[2]),(140,[3,4]),(145,[1]),(148,[1]),(157,[3,4]),(161,[1,3,4,5]),(168,[2]),(189,[3]),(191,[3]),(192,[2,3,5]),(194,[14]),(198,[5,7]),(209,[7]),(210,[9])] }
def Tm:Tw.qK:={ Tb with exts:=[],ext:=fun _ _ _=>none }
open Tw in
def afl:aY:=fun fv xs h=>match fv with
 |.fn f a b=>if f=94 then a3o 94 (lC Tryz.prog Tm (2^24) 2) (.fn f a b) xs h else P6 137 (.fn f a b) xs h
 |fv=>P6 137 fv xs h
def T:Tw.qK:={ Tb with exts:=[94,137],ext:=afl,dem:=[87,88,90,138],din:=[136,139],a9f:=[138] }
open Pv
structure Rw where
 fr:LI0
 to:LI0
 cell:V
 deriving DecidableEq
structure Br where
 var:Int
 ay:LI0
 deriving DecidableEq
structure Dg where
 aA:LI0
 aH:LI0
 aK:List V
 au:List Br
 root:Int
 deriving DecidableEq
structure Ld where
 s:LI0
 cells:List V
 deriving DecidableEq
structure Fc where
 name:ByteArray
 d:Dg
 deriving DecidableEq
structure Pc where
 facts:Int
 goal:Bool
 deriving DecidableEq
abbrev mG:Dg:=⟨[],[],[],[],0⟩
abbrev Fc0:Fc:=⟨⟨#[]⟩,mG⟩
abbrev Pc0:Pc:=⟨0,false⟩
abbrev Rw0:Rw:=⟨[],[],V0⟩
abbrev kW:Br:=⟨0,[]⟩
abbrev Ld0:Ld:=⟨[],[]⟩
inductive Kd where
 |i64|u8|u16|u64|b|o|k|v|rw|br|tb|vs|ld|dg|is|fc|pc|bl|bs|no
def Kd.T:Kd->Type
 |.i64|.u8|.u16|.u64=>Int
 |.dg=>Dg
 |.is=>LI0
 |.fc=>Fc
 |.pc=>Pc
 |.bl=>Bool
 |.bs=>List Bool
 |.b=>B
 |.o=>O
 |.k=>K
 |.v=>V
 |.rw=>Rw
 |.br=>Br
 |.tb=>List Rw
 |.vs=>List V
 |.ld=>Ld
 |.no=>Unit
def kd(t:Nat):Kd:=match t with
 | 3=>.i64
 | 5=>.u8
 | 900001=>.b
 | 900002=>.o
 | 900003=>.k
 | 900004=>.u16
 | 900005=>.u64
 | 26=>.dg
 | 22=>.is
 | 900006=>.fc
 | 900007=>.pc
 | 4=>.bl
 | 900008=>.bs
 | 39=>.v
 | 900009=>.rw
 | 105=>.br
 | 900010=>.tb
 | 23=>.vs
 | 900011=>.ld
 |_=>.no
def aC(t:Nat):Type:=(kd t).T
def Kd.z:(k:Kd)->k.T
 |.i64|.u8|.u16|.u64=>(0:Int)
 |.dg=>mG
 |.is=>([]:LI0)
 |.fc=>Fc0
 |.pc=>Pc0
 |.bl=>false
 |.bs=>([]:List Bool)
 |.b=>B0
 |.o=>O0
 |.k=>K0
 |.v=>V0
 |.rw=>Rw0
 |.br=>kW
 |.tb=>([]:List Rw)
 |.vs=>([]:List V)
 |.ld=>Ld0
 |.no=>()
abbrev lI(l:LI0):PV aC:=.dJ 3 l false
abbrev lV(l:List V):PV aC:=.dJ 39 l false
abbrev lRw(l:List Rw):PV aC:=.dJ 900009 l false
abbrev lBr(l:List Br):PV aC:=.dJ 105 l false
abbrev lDg(l:List Dg):PV aC:=.dJ 26 l false
abbrev lB(l:List Bool):PV aC:=.dJ 4 l false
def B.ps(b:B):List (PV aC):=[.int .i64 b.lo,.int .i64 b.hi,.int .u8 b.f]
def O.ps(o:O):List (PV aC):=[.int .u8 o.code,.int .i64 o.a,.int .i64 o.b,.int .i64 o.c,.int .i64 o.n]
def K.ps(c:K):List (PV aC):=[.str c.name,.int .i64 c.lo,.int .i64 c.hi]
def V.ps(v:V):List (PV aC):=[.int .u8 v.f,.int .i64 v.n]
def Rw.ps(r:Rw):List (PV aC):=[lI r.fr,lI r.to,.int .u8 r.cell.f,.int .i64 r.cell.n]
def Br.ps(b:Br):List (PV aC):=[.int .i64 b.var,lI b.ay]
def Ld.ps(x:Ld):List (PV aC):=[lI x.s,lV x.cells]
def Dg.ps(d:Dg):List (PV aC):=[lI d.aA,lI d.aH,lV d.aK,lBr d.au,.int .i64 d.root]
def Fc.ps(x:Fc):List (PV aC):=.str x.name::x.d.ps
def Pc.ps(x:Pc):List (PV aC):=[.int .u64 x.facts,.bool x.goal]
def B.un(l:List (PV aC)):Option B:=match l with
 | [.int .i64 a,.int .i64 b,.int .u8 c]=>some ⟨a,b,c⟩
 |_=>none
def O.un(l:List (PV aC)):Option O:=match l with
 | [.int .u8 c,.int .i64 x,.int .i64 y,.int .i64 z,.int .i64 n]=>some ⟨c,x,y,z,n⟩
 |_=>none
def K.un(l:List (PV aC)):Option K:=match l with
 | [.str c,.int .i64 x,.int .i64 y]=>some ⟨c,x,y⟩
 |_=>none
def V.un(l:List (PV aC)):Option V:=match l with
 | [.int .u8 c,.int .i64 x]=>some ⟨c,x⟩
 |_=>none
def I.un(k:IntKind)(l:List (PV aC)):Option Int:=match l with
 | [.int k' x]=>if k'=k then some x else none
 |_=>none
def L.un(t:Nat)(v:PV aC):Option (List (aC t)):=match v with
 |.dJ t' l _=>BM t t' l
 |.nil .aP=>some []
 |_=>none
def Rw.un(l:List (PV aC)):Option Rw:=match l with
 | [a,b,.int .u8 c,.int .i64 x]=>match L.un 3 a,L.un 3 b with
  |some a,some b=>some ⟨a,b,⟨c,x⟩⟩
  |_,_=>none
 |_=>none
def Br.un(l:List (PV aC)):Option Br:=match l with
 | [.int .i64 x,a]=>match L.un 3 a with
  |some a=>some ⟨x,a⟩
  |none=>none
 |_=>none
def Tb.un(l:List (PV aC)):Option (List Rw):=match l with
 | [a]=>L.un 900009 a
 |_=>none
def Vs.un(l:List (PV aC)):Option (List V):=match l with
 | [a]=>L.un 39 a
 |_=>none
def Ld.un(l:List (PV aC)):Option Ld:=match l with
 | [a,b]=>match L.un 3 a,L.un 39 b with
  |some a,some b=>some ⟨a,b⟩
  |_,_=>none
 |_=>none
def Dg.un(l:List (PV aC)):Option Dg:=match l with
 | [a,b,c,d,.int .i64 r]=>match L.un 3 a,L.un 3 b,L.un 39 c,L.un 105 d with
  |some a,some b,some c,some d=>some ⟨a,b,c,d,r⟩
  |_,_,_,_=>none
 |_=>none
def Is.un(l:List (PV aC)):Option LI0:=match l with
 | [a]=>L.un 3 a
 |_=>none
def Fc.un(l:List (PV aC)):Option Fc:=match l with
 |.str n::r=>(Dg.un r).map (⟨n,·⟩)
 |_=>none
def Pc.un(l:List (PV aC)):Option Pc:=match l with
 | [.int .u64 n,.bool b]=>some ⟨n,b⟩
 |_=>none
def Bl.un(l:List (PV aC)):Option Bool:=match l with
 | [.bool b]=>some b
 |_=>none
def Bs.un(l:List (PV aC)):Option (List Bool):=match l with
 | [a]=>L.un 4 a
 |_=>none
def Kd.enc:(k:Kd)->k.T->List (PV aC)
 |.i64=>fun n=>[.int .i64 n]
 |.u8=>fun n=>[.int .u8 n]
 |.u16=>fun n=>[.int .u16 n]
 |.u64=>fun n=>[.int .u64 n]
 |.dg=>Dg.ps
 |.is=>fun l=>[lI l]
 |.fc=>Fc.ps
 |.pc=>Pc.ps
 |.bl=>fun b=>[.bool b]
 |.bs=>fun l=>[lB l]
 |.b=>B.ps
 |.o=>O.ps
 |.k=>K.ps
 |.v=>V.ps
 |.rw=>Rw.ps
 |.br=>Br.ps
 |.tb=>fun l=>[lRw l]
 |.vs=>fun l=>[lV l]
 |.ld=>Ld.ps
 |.no=>fun _=>[]
def Kd.dec:(k:Kd)->List (PV aC)->Option k.T
 |.i64=>I.un .i64
 |.u8=>I.un .u8
 |.u16=>I.un .u16
 |.u64=>I.un .u64
 |.dg=>Dg.un
 |.is=>Is.un
 |.fc=>Fc.un
 |.pc=>Pc.un
 |.bl=>Bl.un
 |.bs=>Bs.un
 |.b=>B.un
 |.o=>O.un
 |.k=>K.un
 |.v=>V.un
 |.rw=>Rw.un
 |.br=>Br.un
 |.tb=>Tb.un
 |.vs=>Vs.un
 |.ld=>Ld.un
 |.no=>fun _=>none
def X0:kP:=⟨aC,fun t=>(kd t).z,fun t=>(kd t).enc,fun t=>(kd t).dec⟩
theorem B.vK{l:List (PV aC)}{b:B}(h:B.un l=some b):B.ps b=l:=by
 unfold B.un at h;split at h
 .cases h;rfl
 cases h
theorem O.vK{l:List (PV aC)}{b:O}(h:O.un l=some b):O.ps b=l:=by
 unfold O.un at h;split at h
 .cases h;rfl
 cases h
theorem K.vK{l:List (PV aC)}{b:K}(h:K.un l=some b):K.ps b=l:=by
 unfold K.un at h;split at h
 .cases h;rfl
 cases h
theorem V.vK{l:List (PV aC)}{b:V}(h:V.un l=some b):V.ps b=l:=by
 unfold V.un at h;split at h
 .cases h;rfl
 cases h
theorem I.vK{k:IntKind}{l:List (PV aC)}{b:Int}(h:I.un k l=some b):[PV.int k b]=l:=by
 unfold I.un at h;split at h
 .split at h
  .rename_i e;cases h;rw[e]
  cases h
 cases h
section
variable {A:Nat->Prop} {m:List MB} {h:List HB}
theorem L.iZ{t:Nat}{v:PV aC}{l:List (aC t)}(hu:L.un t v=some l){x:TV}(hv:VR X0 Tryz.prog A m h v x):VR X0 Tryz.prog A m h (.dJ t l false) x:=(a6y (X:=X0) (P:=Tryz.prog) t).ok (a:=l) (v:=v) (by
 cases v with
 |nil k=>cases k<;>first|exact hu|cases hu
 |dJ t' l' f=>exact hu
 |_=>cases hu) hv
theorem Rw.iZ{l:List (PV aC)}{r:Rw}(hu:Rw.un l=some r){xs:List TV}(hv:bY X0 Tryz.prog A m h l xs):bY X0 Tryz.prog A m h r.ps xs:=by
 unfold Rw.un at hu;split at hu
 .split at hu
  .rename_i e1 e2;cases hu;obtain⟨x1,r1,rfl,h1,hv⟩:=hv.inv;obtain⟨x2,r2,rfl,h2,hv⟩:=hv.inv;exact .cons (L.iZ e1 h1) (.cons (L.iZ e2 h2) hv)
  cases hu
 cases hu
theorem Br.iZ{l:List (PV aC)}{r:Br}(hu:Br.un l=some r){xs:List TV}(hv:bY X0 Tryz.prog A m h l xs):bY X0 Tryz.prog A m h r.ps xs:=by
 unfold Br.un at hu;split at hu
 .split at hu
  .rename_i e1;cases hu;obtain⟨x1,r1,rfl,h1,hv⟩:=hv.inv;obtain⟨x2,r2,rfl,h2,hv⟩:=hv.inv;exact .cons h1 (.cons (L.iZ e1 h2) hv)
  cases hu
 cases hu
theorem Ld.iZ{l:List (PV aC)}{r:Ld}(hu:Ld.un l=some r){xs:List TV}(hv:bY X0 Tryz.prog A m h l xs):bY X0 Tryz.prog A m h r.ps xs:=by
 unfold Ld.un at hu;split at hu
 .split at hu
  .rename_i e1 e2;cases hu;obtain⟨x1,r1,rfl,h1,hv⟩:=hv.inv;obtain⟨x2,r2,rfl,h2,hv⟩:=hv.inv;exact .cons (L.iZ e1 h1) (.cons (L.iZ e2 h2) hv)
  cases hu
 cases hu
theorem Tb.iZ{l:List (PV aC)}{r:List Rw}(hu:Tb.un l=some r){xs:List TV}(hv:bY X0 Tryz.prog A m h l xs):bY X0 Tryz.prog A m h [lRw r] xs:=by
 rcases l with _|⟨a,_|⟨b,l⟩⟩
 .cases hu
 .obtain⟨x1,r1,rfl,h1,hv⟩:=hv.inv;exact .cons (L.iZ hu h1) hv
 cases hu
theorem Vs.iZ{l:List (PV aC)}{r:List V}(hu:Vs.un l=some r){xs:List TV}(hv:bY X0 Tryz.prog A m h l xs):bY X0 Tryz.prog A m h [lV r] xs:=by
 rcases l with _|⟨a,_|⟨b,l⟩⟩
 .cases hu
 .obtain⟨x1,r1,rfl,h1,hv⟩:=hv.inv;exact .cons (L.iZ hu h1) hv
 cases hu
theorem Dg.iZ{l:List (PV aC)}{r:Dg}(hu:Dg.un l=some r){xs:List TV}(hv:bY X0 Tryz.prog A m h l xs):bY X0 Tryz.prog A m h r.ps xs:=by
 unfold Dg.un at hu;split at hu
 .split at hu
  .rename_i e1 e2 e3 e4;cases hu;obtain⟨x1,r1,rfl,h1,hv⟩:=hv.inv;obtain⟨x2,r2,rfl,h2,hv⟩:=hv.inv;obtain⟨x3,r3,rfl,h3,hv⟩:=hv.inv;obtain⟨x4,r4,rfl,h4,hv⟩:=hv.inv;exact .cons (L.iZ e1 h1) (.cons (L.iZ e2 h2) (.cons (L.iZ e3 h3) (.cons (L.iZ e4 h4) hv)))
  cases hu
 cases hu
theorem Is.iZ{l:List (PV aC)}{r:LI0}(hu:Is.un l=some r){xs:List TV}(hv:bY X0 Tryz.prog A m h l xs):bY X0 Tryz.prog A m h [lI r] xs:=by
 rcases l with _|⟨a,_|⟨b,l⟩⟩
 .cases hu
 .obtain⟨x1,r1,rfl,h1,hv⟩:=hv.inv;exact .cons (L.iZ hu h1) hv
 cases hu
theorem Bs.iZ{l:List (PV aC)}{r:List Bool}(hu:Bs.un l=some r){xs:List TV}(hv:bY X0 Tryz.prog A m h l xs):bY X0 Tryz.prog A m h [lB r] xs:=by
 rcases l with _|⟨a,_|⟨b,l⟩⟩
 .cases hu
 .obtain⟨x1,r1,rfl,h1,hv⟩:=hv.inv;exact .cons (L.iZ hu h1) hv
 cases hu
theorem Bl.vK{l:List (PV aC)}{b:Bool}(h:Bl.un l=some b):[PV.bool b]=l:=by
 unfold Bl.un at h;split at h
 .cases h;rfl
 cases h
theorem Fc.iZ{l:List (PV aC)}{r:Fc}(hu:Fc.un l=some r){xs:List TV}(hv:bY X0 Tryz.prog A m h l xs):bY X0 Tryz.prog A m h r.ps xs:=by
 unfold Fc.un at hu;split at hu
 .obtain⟨d,e1,rfl⟩:=a0i.1 hu;obtain⟨x1,r1,rfl,h1,hv⟩:=hv.inv;exact .cons h1 (Dg.iZ e1 hv)
 cases hu
theorem Pc.vK{l:List (PV aC)}{b:Pc}(h:Pc.un l=some b):Pc.ps b=l:=by
 unfold Pc.un at h;split at h
 .cases h;rfl
 cases h
theorem aak:∀(k:Kd) {l:List (PV aC)} {a:k.T},k.dec l=some a->∀{xs:List TV},bY X0 Tryz.prog A m h l xs->bY X0 Tryz.prog A m h (k.enc a) xs
 |.i64,_,_,e,_,hv=>by rw[show Kd.enc .i64 _=_ from I.vK e];exact hv
 |.u8,_,_,e,_,hv=>by rw[show Kd.enc .u8 _=_ from I.vK e];exact hv
 |.u16,_,_,e,_,hv=>by rw[show Kd.enc .u16 _=_ from I.vK e];exact hv
 |.u64,_,_,e,_,hv=>by rw[show Kd.enc .u64 _=_ from I.vK e];exact hv
 |.dg,_,_,e,_,hv=>Dg.iZ e hv
 |.is,_,_,e,_,hv=>Is.iZ e hv
 |.fc,_,_,e,_,hv=>Fc.iZ e hv
 |.pc,_,_,e,_,hv=>by rw[show Kd.enc .pc _=_ from Pc.vK e];exact hv
 |.bl,_,_,e,_,hv=>by rw[show Kd.enc .bl _=_ from Bl.vK e];exact hv
 |.bs,_,_,e,_,hv=>Bs.iZ e hv
 |.b,_,_,e,_,hv=>by rw[show Kd.enc .b _=_ from B.vK e];exact hv
 |.o,_,_,e,_,hv=>by rw[show Kd.enc .o _=_ from O.vK e];exact hv
 |.k,_,_,e,_,hv=>by rw[show Kd.enc .k _=_ from K.vK e];exact hv
 |.v,_,_,e,_,hv=>by rw[show Kd.enc .v _=_ from V.vK e];exact hv
 |.rw,_,_,e,_,hv=>Rw.iZ e hv
 |.br,_,_,e,_,hv=>Br.iZ e hv
 |.tb,_,_,e,_,hv=>Tb.iZ e hv
 |.vs,_,_,e,_,hv=>Vs.iZ e hv
 |.ld,_,_,e,_,hv=>Ld.iZ e hv
 |.no,_,_,e,_,_=>by cases e
end
theorem a3C:∀(k:Kd) (a:k.T),jw.He (k.enc a)=true:=by intro k a;cases k<;>rfl
theorem hX:bP X0 Tryz.prog:=⟨fun{t} vs a e {A m hh xs} hv=>aak (kd t) e hv,fun t a=>a3C (kd t) a⟩
abbrev Arg(α:Type):=Ar X0 Tryz.prog α
def iA:Arg Int:=aeW .i64
def uA:Arg Int:=aeW .u8
def tA:Arg Bool:=aiC
def vA:Arg V:=aiD hX 39
def brA:Arg Br:=aiD hX 105
def oh:Arg LI0:=a6y 3
def vsA:Arg (List V):=a6y 39
def aal:Arg (List Br):=a6y 105
def aoV:Arg (List Dg):=a6y 26
def pA:Arg Int:=aeW .u64
def dA:Arg Dg:=aeY (a3k (Ls oh (a4 oh vsA aal iA))) (fun p=>⟨p.1,p.2.1,p.2.2.1,p.2.2.2.1,p.2.2.2.2⟩) (fun d=>(d.aA,d.aH,d.aK,d.au,d.root)) fun _=>rfl
abbrev LL:Nat:=2^24
abbrev Gd(fV:fB aC):Prop:=Pv.Good X0 Tryz.prog T LL fV
abbrev iC(n:Nat):aY:=lC Tryz.prog T LL n
theorem QH:ah<LL:=by decide
abbrev Lp(n f k:Nat)(s:aT aC)(e:Ex)(s':aT aC):Prop:=dN X0 Tryz.prog T (iC n) LL f false (Cm Tryz.prog f) 0 (.loop (SC Tryz.prog f k)) s e s'
abbrev Ok(n:Nat)(fV:fB aC):Prop:=jJ X0 Tryz.prog (iC n) fV
abbrev xi(n:Int):PE aC:=.val (.int .i64 n)
abbrev xl(b:Bool):PE aC:=.val (.lit b)
abbrev xL(t:Nat)(l:List (aC t)):PE aC:=.val (.dJ t l false)
abbrev xo(b:Nat):PE aC:=.val (.own b)
theorem le0:0<=ah:=by decide
theorem le1:1<=ah:=by decide
theorem YB:2<=ah:=by decide
theorem le3:3<=ah:=by decide
theorem le8:8<=LL:=by decide
theorem gK{n:Nat}:Ok n (aa5 (X:=X0)):=fun f vs v ext ps h=>by cases h
abbrev Ii(n f k B:Nat)(s:aT aC)(e:Ex)(s':aT aC):Prop:=dN X0 Tryz.prog T (iC n) LL f false (Cm Tryz.prog f) B (.loop (SC Tryz.prog f k)) s e s'
abbrev Qp:LI1:=Tryz.prog
abbrev iW(n:Nat):=bZ X0 Tryz.prog (iC n)
theorem iD{α:Type}{a:α}{l:List α}:a∈a::l:=.head _
theorem xM{α:Type}{a b:α}{l:List α}:a∈b::a::l:=.tail _ (.head _)
theorem hh2{α:Type}{a b c:α}{l:List α}:a∈b::c::a::l:=.tail _ (.tail _ (.head _))
theorem aO{β:Type}{n f:Nat}{fV:fB aC}(hO:Ok n fV){vs:List (PV aC)}{an:PT aC}{r:Ar X0 Tryz.prog β}{s:β}{o:OT (Option (PV aC))}(ht:Fp (Is r s) an o)
  (hk:(Df X0 Tryz.prog T fV (bZ X0 Tryz.prog (iC n)) (BO X0 Tryz.prog T (iC n) LL f 0) LL f vs [] an).map frz=o:=by kernel_rfl):pO X0 Tryz.prog (iC (n+1)) f vs (r.put s) []:=aiF hX hO hk ht
theorem jr{β:Type}{n f:Nat}{fV:fB aC}(hO:Ok n fV){first xs cap:List (PV aC)}{H H1:List (PB aC)}{an:PT aC}{r:Ar X0 Tryz.prog β}{s:β}{o:OT (PV aC×List (PB aC))}(ht:Fp (IsS r s H1) an o)
  (hk:Df X0 Tryz.prog T fV (bZ X0 Tryz.prog (iC n)) (BO X0 Tryz.prog T (iC n) LL f H.length) LL f (first++xs++cap) H an=o:=by kernel_rfl):bZ X0 Tryz.prog (iC (n+1)) (.fn f first cap) xs H (r.put s) H1:=Dn hX hO hk ht
theorem fK{n f:Nat}{fV:fB aC}(hO:Ok n fV){first xs cap:List (PV aC)}{H H1:List (PB aC)}{v:PV aC}{an:PT aC}{o:OT (PV aC×List (PB aC))}(ht:Fp (IsE (X:=X0) v H1) an o)
  (hk:Df X0 Tryz.prog T fV (bZ X0 Tryz.prog (iC n)) (BO X0 Tryz.prog T (iC n) LL f H.length) LL f (first++xs++cap) H an=o:=by kernel_rfl):bZ X0 Tryz.prog (iC (n+1)) (.fn f first cap) xs H v H1:=jV hX hO hk ht
theorem aN{call:aY}{fV:fB aC}{L f:Nat}{gZ:Bool}{nt B:Nat}(hO:jJ X0 Tryz.prog call fV){b:Code}{n:Nat}{ps:aT aC}{an:PT aC}{e:Ex}{s:aT aC}{o:OT (Ex×aT aC)}(ht:Fp (Rnd X0 Tryz.prog T call L f gZ nt B b n e s) an o)
  (hk:jS X0 Tryz.prog T fV (bZ X0 Tryz.prog call) (dN X0 Tryz.prog T call L f gZ nt B) B L f gZ nt b ps an (aeV (gW X0 (T.eY f (dU b))) B)=o:=by kernel_rfl):dK X0 Tryz.prog T call L f gZ nt B b (n+1) ps e s:=round hX hO hk ht
abbrev a6Z(f:Nat)(a c:List (PV aC))(H:List (PB aC))(l:LI0)(i:Int)(x:List (Nat×PE aC)):aT aC:=⟨[(0,xL 3 l),(1,.val (.fn f a c)),(7,xi l.length),(8,xi i)]++x,[],H⟩
def z218(f:Nat)(a c:List (PV aC))(H:List (PB aC))(l:LI0):Unit⊕(Nat×Int×Unit)->Ex×aT aC
 |.inl _=>(.exit 0,a6Z f a c H l l.length [(9,xl false)])
 |.inr r=>(.ret,⟨[(4,xi r.1)],[],H⟩)
theorem aoX{n f:Nat}{a c:List (PV aC)}{H:List (PB aC)}{g:Int->Bool}(hf:∀x,iW n (.fn f a c) [.int .i64 x] H (.bool (g x)) H)(l:LI0)(hl:l.length<=ah):iW (n+1) (.fn 218 [] []) [.dJ 3 l false,.fn f a c] H (iA.put (rP g l)) H:=by
 have lp:Ii n 218 0 H.length (a6Z f a c H l 0 []) (z218 f a c H l (mY (qj g) l 0 ())).1 (z218 f a c H l (mY (qj g) l 0 ())).2:=
  Xh (st:=fun i _=>a6Z f a c H l i []) (0:Int) (fun _ _=>True) (by kernel_rfl) hl QH trivial (fun k s n hk _ ih=>aN gK (.b (bF hk) (.o (aG hk) (.k (hf (l.getD k (0:Int))) (.ls (.ou nofun) (.nx (ih _ trivial))))))) (fun s _=>aN gK (.b (fH l.length) (.ou nofun)))
 exact jr gK (first:=[]) (cap:=[]) (.szh (fun h=>.w (kZ lp () h) .sr) (fun h=>.w (l7 lp (0,0,()) h) .sr))
theorem aiU{n f:Nat}(hn:0<n){a c:List (PV aC)}{H:List (PB aC)}{g:Int->Bool}(hf:∀x,bZ X0 Qp (iC (n-1)) (.fn f a c) [.int .i64 x] H (.bool (g x)) H)(l:LI0)(hl:l.length<=ah):iW (n+1) (.fn 181 [] []) [.dJ 3 l false,.fn f a c] H (tA.put (nC g l)) H:=by have h1:=aoX hf l hl;rw[show n-1+1=n by omega]at h1;exact jr gK (first:=[]) (cap:=[]) (.k h1 .sr)
abbrev afm(f:Nat)(a c:List (PV aC))(H:List (PB aC))(l:List V)(i:Int)(x:List (Nat×PE aC)):aT aC:=⟨[(0,xL 39 l),(1,.val (.fn f a c)),(7,xi l.length),(8,xi i)]++x,[],H⟩
def aiV(f:Nat)(a c:List (PV aC))(H:List (PB aC))(l:List V):Unit⊕(Nat×V×Unit)->Ex×aT aC
 |.inl _=>(.exit 0,afm f a c H l l.length [(9,xl false)])
 |.inr r=>(.ret,⟨[(4,xi r.1)],[],H⟩)
theorem aiW{n f:Nat}{a c:List (PV aC)}{H:List (PB aC)}{g:V->Bool}(hf:∀x,iW n (.fn f a c) [.agg x.ps] H (.bool (g x)) H)(l:List V)(hl:l.length<=ah):iW (n+1) (.fn 155 [] []) [.dJ 39 l false,.fn f a c] H (iA.put (iK g l)) H:=by
 have lp:Ii n 155 0 H.length (afm f a c H l 0 []) (aiV f a c H l (mY (jB g) l 0 ())).1 (aiV f a c H l (mY (jB g) l 0 ())).2:=
  Xh (st:=fun i _=>afm f a c H l i []) V0 (fun _ _=>True) (by kernel_rfl) hl QH trivial (fun k s n hk _ ih=>aN gK (.b (bF hk) (.o (aG hk) (.k (hf (l.getD k V0)) (.ls (.ou nofun) (.nx (ih _ trivial))))))) (fun s _=>aN gK (.b (fH l.length) (.ou nofun)))
 exact jr gK (first:=[]) (cap:=[]) (.szh (fun h=>.w (kZ lp () h) .sr) (fun h=>.w (l7 lp (0,V0,()) h) .sr))
theorem afn{n f:Nat}(hn:0<n){a c:List (PV aC)}{H:List (PB aC)}{g:V->Bool}(hf:∀x,bZ X0 Qp (iC (n-1)) (.fn f a c) [.agg x.ps] H (.bool (g x)) H)(l:List V)(hl:l.length<=ah):iW (n+1) (.fn 152 [] []) [.dJ 39 l false,.fn f a c] H (tA.put (qx g l)) H:=by have h1:=aiW hf l hl;rw[show n-1+1=n by omega]at h1;exact jr gK (first:=[]) (cap:=[]) (.k h1 .sr)
def acn:fB aC:=cu 219 (a1 iA) tA (fun p=>V6 p) np (aa5 (X:=X0))
theorem aiX:Gd acn:=Good.nil.add fun n hO p hp=>aO hO .rr
def aco:fB aC:=cu 141 (a1 uA) vA (fun p=>Ig p) np acn
theorem aiY:Gd aco:=aiX.add fun n hO p hp=>aO hO .rr
def acp:fB aC:=cu 140 (a3 iA iA oh) tA (fun p=>wB p.2.2 p.1 p.2.1) (fun p=>[p.2.2.length<=ah]) aco
theorem aiZ:Gd acp:=aiY.deep 3 fun n hn hO p hp=>by have h1:∀x,bZ X0 Qp (iC (n-3+1)) (.fn 182 [] [.ptr 0 0 1,.ptr 1 0 1]) [.int .i64 x] [.cells [.int .i64 p.1],.cells [.int .i64 p.2.1]] (tA.put (tV x p.1 p.2.1)) [.cells [.int .i64 p.1],.cells [.int .i64 p.2.1]]:=fun x=>jr gK (first:=[]) (.ssh (fun _=>.sr) (fun _=>.sr));obtain⟨n,rfl⟩:∃k,n=k+3:=⟨n-3,by omega⟩;rw[show n+3-3+1=n+1 by omega]at h1;have h2:=aiU (n:=n+2) (by omega) (g:=fun x=>tV x p.1 p.2.1) h1 p.2.2 (hp _ iD);exact aO (hO _ (by omega)) (.k h2 (.v (!(nC (fun x=>tV x p.1 p.2.1) p.2.2)) (by rw[Ep];rfl)))
theorem nan(x:Int):V6 x=false:=by simp[V6]
def acr:fB aC:=cu 154 (a1 vA) tA (fun p=>xu p) np acp
theorem aj0:Gd acr:=aiZ.add fun n hO p hp=>aO hO (.ss (.o le1 .rr) (.ss .rr .rr))
def acs:fB aC:=cu 100 (a1 iA) vA (fun p=>oO p) np acr
theorem aj1:Gd acs:=aj0.add fun n hO p hp=>aO hO (.o le1 (.ss .rr .rr))
def acu:fB aC:=cu 186 (a1 tA) vA (fun p=>Po p) np acs
theorem aj2:Gd acu:=aj1.add fun n hO p hp=>aO hO (.ss .rr .rr)
def acv:fB aC:=cu 156 (a1 vA) tA (fun p=>og p) np acu
theorem aj3:Gd acv:=aj2.add fun n hO p hp=>aO hO .rr
def acw:fB aC:=cu 153 (a1 vA) tA (fun p=>Ba p) np acv
theorem aj6:Gd acw:=aj3.add fun n hO p hp=>aO hO .rr
def acy:fB aC:=cu 142 (a2 iA iA) vA (fun p=>Jy p.1 p.2) np acw
theorem aj7:Gd acy:=aj6.add fun n hO p hp=>aO hO .rr
def acz:fB aC:=cu 143 (a2 iA iA) vA (fun p=>Jz p.1 p.2) np acy
theorem aj8:Gd acz:=aj7.add fun n hO p hp=>aO hO .rr
def acA:fB aC:=cu 144 (a2 iA iA) vA (fun p=>JA p.1 p.2) np acz
theorem aj9:Gd acA:=aj8.add fun n hO p hp=>aO hO .rr
def acB:fB aC:=cu 146 (a2 iA iA) iA (fun p=>DC p.1 p.2) np acA
theorem aja:Gd acB:=aj9.add fun n hO p hp=>aO hO .rr
def acC:fB aC:=cu 147 (a2 iA iA) iA (fun p=>DF p.1 p.2) np acB
theorem ajb:Gd acC:=aja.add fun n hO p hp=>aO hO .rr
def acD:fB aC:=cu 149 (a1 iA) tA (fun p=>DI p) np acC
theorem ajc:Gd acD:=ajb.add fun n hO p hp=>aO hO .rr
def acE:fB aC:=cu 150 (a1 iA) tA (fun p=>DK p) np acD
theorem ajd:Gd acE:=ajc.add fun n hO p hp=>aO hO .rr
def acF:fB aC:=cu 151 (a1 iA) tA (fun p=>DL p) np acE
theorem aje:Gd acF:=ajd.add fun n hO p hp=>aO hO .rr
def acG:fB aC:=cu 184 (a2 iA iA) (dS (a2 iA iA)) (fun p=>uN p.1 p.2) (fun p=>[p.2≠0]) acF
theorem ajf:Gd acG:=aje.add fun n hO p hp=>aO hO (.o (hp _ iD) (.o (hp _ iD) (.ss (.ss .rr .rr) .rr)))
def acH:fB aC:=cu 187 (a2 iA iA) iA (fun p=>Jw p.1 p.2) np acG
theorem ajg:Gd acH:=ajf.add fun n hO p hp=>aO hO (.b (nan p.1) (.b (nan p.2) (.ss .rr (.ss .rr .rr))))
theorem aoY{n:Nat}{fV:fB aC}(hO:Ok n fV)(ho:∀x:V,fV 156 [.agg x.ps]=some (.bool (og x),[],[]))(H:List (PB aC))(x:V):iW n (.fn 156 [] []) [.agg x.ps] H (.bool (og x)) H:=
 MX hX hO (first:=[]) (cap:=[]) (vs:=[.agg x.ps]) (v:=.bool (og x)) rfl (ho x) (fun p h=>by cases h) rfl
theorem aoZ{n:Nat}{fV:fB aC}(hO:Ok n fV)(ho:∀x:V,fV 153 [.agg x.ps]=some (.bool (Ba x),[],[]))(H:List (PB aC))(x:V):iW n (.fn 153 [] []) [.agg x.ps] H (.bool (Ba x)) H:=
 MX hX hO (first:=[]) (cap:=[]) (vs:=[.agg x.ps]) (v:=.bool (Ba x)) rfl (ho x) (fun p h=>by cases h) rfl
def acI:fB aC:=cu 103 (a1 vsA) (dS (a2 vA tA)) (fun p=>bQ p) (fun p=>[p.length<=ah]) acH
theorem ajh:Gd acI:=ajg.deep 2 fun n hn hO p hp=>by have hs:=aiW (n:=n-1) (H:=[]) (g:=fun v=>og v) (aoY (hO (n-1) (by omega)) (fun _=>rfl) []) p (hp _ iD);rw[show n-1+1=n by omega]at hs;exact aO (hO n (by omega)) (.k hs (.sh (fun h=>.rr) (fun h=>.o (show fF (iK (fun v=>og v) p) p.length from⟨by simpa using h,QG _ _⟩) .rr)))
def acJ:fB aC:=cu 102 (a1 vsA) tA (fun p=>iy p) (fun p=>[p.length<=ah]) acI
theorem aji:Gd acJ:=ajh.deep 3 fun n hn hO p hp=>by have hs:=afn (n:=n-1) (by omega) (H:=[]) (g:=fun v=>Ba v) (aoZ (hO (n-2) (by omega)) (fun _=>rfl) []) p (hp _ iD);rw[show n-1+1=n by omega]at hs;exact aO (hO n (by omega)) (.k hs (.v (!(qx (fun v=>Ba v) p)) (by rw[Jv];rfl)))
def ajj:fB aC:=cu 99 (a3 vA vA vA) (dS (a2 vA iA)) (fun p=>jM p.1 p.2.1 p.2.2) np acJ
theorem ap0:Gd ajj:=aji.add fun n hO p hp=>aO hO (.o le3 (.ss .rr (.ss .rr (.ss .rr .rr))))
def ajk:Arg Nat where
 put f:=.fn f [] []
 get v:=match v with
  |.fn g [] []=>some g
  |_=>none
 ok:=by
  intro v a hg A m h x hv;split at hg
  .cases hg;exact hv
  .cases hg
def acK:fB aC:=ZN 145 (a1 ajk) (fun _=>.fn 183 [] [.ptr 0 0 1]) (fun g=>[.cells [.fn g [] []]]) np ajj
theorem ajl:Gd acK:=ap0.Xj 0 fun n _ hO p hp=>BP hX (hO n (by omega)) (by kernel_rfl) .er
def acL:fB aC:=ZN 148 (a1 ajk) (fun _=>.fn 185 [] [.ptr 0 0 1]) (fun g=>[.cells [.fn g [] []]]) np acK
theorem ajm:Gd acL:=ajl.Xj 0 fun n _ hO p hp=>BP hX (hO n (by omega)) (by kernel_rfl) .er
def ap1(p:Int):PV aC:=if p=7 then .fn 142 [] []else if p=8 then .fn 143 [] []else if p=9 then .fn 144 [] []else if p=10 then .fn 183 [] [.ptr 0 0 1]else if p=11 then .fn 183 [] [.ptr 0 0 1]else .fn 185 [] [.ptr 0 0 1]
def ap2(p:Int):List (PB aC):=if p=10 then [.cells [.fn 146 [] []]]else if p=11 then [.cells [.fn 147 [] []]]else if p=12 then [.cells [.fn 149 [] []]]else if p=13 then [.cells [.fn 150 [] []]]else if p=14 then [.cells [.fn 151 [] []]]else []
def Px:fB aC:=ZN 101 (a1 uA) ap1 ap2 (fun p=>[7<=p∧p<=14]) acL
theorem seven{p:Int}(h:7<=p∧p<=14):p=7∨p=8∨p=9∨p=10∨p=11∨p=12∨p=13∨p=14:=by omega
theorem ajn:Gd Px:=ajm.Xj 0 fun n _ hO p hp=>by
 rcases seven (hp _ iD)with rfl|rfl|rfl|rfl|rfl|rfl|rfl|rfl
 .exact BP hX (hO n (by omega)) (by kernel_rfl) (.b (rfl:true=true) .er)
 .exact BP hX (hO n (by omega)) (by kernel_rfl) (.b (rfl:false=false) (.b (rfl:true=true) .er))
 .exact BP hX (hO n (by omega)) (by kernel_rfl) (.b (rfl:false=false) (.b (rfl:false=false) (.b (rfl:true=true) .er)))
 .exact BP hX (hO n (by omega)) (by kernel_rfl) (.b (rfl:false=false) (.b (rfl:false=false) (.b (rfl:false=false) (.b (rfl:true=true) .er))))
 .exact BP hX (hO n (by omega)) (by kernel_rfl) (.b (rfl:false=false) (.b (rfl:false=false) (.b (rfl:false=false) (.b (rfl:false=false) (.b (rfl:true=true) .er)))))
 .exact BP hX (hO n (by omega)) (by kernel_rfl) (.b (rfl:false=false) (.b (rfl:false=false) (.b (rfl:false=false) (.b (rfl:false=false) (.b (rfl:false=false) (.b (rfl:true=true) .er))))))
 .exact BP hX (hO n (by omega)) (by kernel_rfl) (.b (rfl:false=false) (.b (rfl:false=false) (.b (rfl:false=false) (.b (rfl:false=false) (.b (rfl:false=false) (.b (rfl:false=false) (.b (rfl:true=true) .er)))))))
 .exact BP hX (hO n (by omega)) (by kernel_rfl) (.b (rfl:false=false) (.b (rfl:false=false) (.b (rfl:false=false) (.b (rfl:false=false) (.b (rfl:false=false) (.b (rfl:false=false) (.b (rfl:false=false) (.b (rfl:true=true) .er))))))))
theorem aam{n:Nat}(hO:Ok n Px)(a b:V)(x y:Int):iW (n+1) (.fn 183 [] [.ptr 0 0 1]) [.int .i64 x,.int .i64 y] [.cells [.fn 146 [] []],.list true true 39 [a,b],.list true true 39 [a,b]] (vA.put (iL DC x y)) [.cells [.fn 146 [] []],.list true true 39 [a,b],.list true true 39 [a,b]]:=
 jr hO (first:=[]) (.ssh (fun _=>.sr) (fun h=>.o (show y≠0 by simpa using h) .sr))
theorem aan{n:Nat}(hO:Ok n Px)(a b:V)(x y:Int):iW (n+1) (.fn 183 [] [.ptr 0 0 1]) [.int .i64 x,.int .i64 y] [.cells [.fn 147 [] []],.list true true 39 [a,b],.list true true 39 [a,b]] (vA.put (iL DF x y)) [.cells [.fn 147 [] []],.list true true 39 [a,b],.list true true 39 [a,b]]:=
 jr hO (first:=[]) (.ssh (fun _=>.sr) (fun h=>.o (show y≠0 by simpa using h) .sr))
theorem aao{n:Nat}(hO:Ok n Px)(a b:V)(x y:Int):iW (n+1) (.fn 185 [] [.ptr 0 0 1]) [.int .i64 x,.int .i64 y] [.cells [.fn 149 [] []],.list true true 39 [a,b],.list true true 39 [a,b]] (vA.put (dR DI x y)) [.cells [.fn 149 [] []],.list true true 39 [a,b],.list true true 39 [a,b]]:=
 jr hO (first:=[]) .sr
theorem aap{n:Nat}(hO:Ok n Px)(a b:V)(x y:Int):iW (n+1) (.fn 185 [] [.ptr 0 0 1]) [.int .i64 x,.int .i64 y] [.cells [.fn 150 [] []],.list true true 39 [a,b],.list true true 39 [a,b]] (vA.put (dR DK x y)) [.cells [.fn 150 [] []],.list true true 39 [a,b],.list true true 39 [a,b]]:=
 jr hO (first:=[]) .sr
theorem aaq{n:Nat}(hO:Ok n Px)(a b:V)(x y:Int):iW (n+1) (.fn 185 [] [.ptr 0 0 1]) [.int .i64 x,.int .i64 y] [.cells [.fn 151 [] []],.list true true 39 [a,b],.list true true 39 [a,b]] (vA.put (dR DL x y)) [.cells [.fn 151 [] []],.list true true 39 [a,b],.list true true 39 [a,b]]:=
 jr hO (first:=[]) .sr
def ajo:fB aC:=cu 45 (a3 uA vA vA) (dS (a2 vA iA)) (fun p=>Ih p.1 p.2.1 p.2.2) (fun p=>[7<=p.1∧p.1<=16]) Px
theorem ap3:Gd ajo:=ajn.deep 1 fun n hn hO p hp=>by
 obtain⟨n,rfl⟩:∃k,n=k+1:=⟨n-1,by omega⟩;have Cc:=hO n (by omega);have hO:=hO (n+1) (by omega);obtain⟨k,a,b⟩:=p;rcases nine (show 7<=k∧k<=16 from hp _ iD)with rfl|rfl|rfl|rfl|rfl|rfl|rfl|rfl|rfl|rfl
 .have:pO X0 Qp (iC (n+1+1)) 45 ((a3 uA vA vA).put (7,a,b)) ((dS (a2 vA iA)).put (rU a b)) []:=aO hO (.b (rfl:false=false) (.b (rfl:false=false) (.o (by decide:(7:Int)<=7∧(7:Int)<=14) (.b (rfl:false=false) (.o YB (.ss .rr (.o YB (.ss .rr .rr))))))));exact this
 .have:pO X0 Qp (iC (n+1+1)) 45 ((a3 uA vA vA).put (8,a,b)) ((dS (a2 vA iA)).put (rV a b)) []:=aO hO (.b (rfl:false=false) (.b (rfl:false=false) (.o (by decide:(7:Int)<=8∧(8:Int)<=14) (.b (rfl:false=false) (.o YB (.ss .rr (.o YB (.ss .rr .rr))))))));exact this
 .have:pO X0 Qp (iC (n+1+1)) 45 ((a3 uA vA vA).put (9,a,b)) ((dS (a2 vA iA)).put (rW a b)) []:=aO hO (.b (rfl:false=false) (.b (rfl:false=false) (.o (by decide:(7:Int)<=9∧(9:Int)<=14) (.b (rfl:false=false) (.o YB (.ss .rr (.o YB (.ss .rr .rr))))))));exact this
 .have:pO X0 Qp (iC (n+1+1)) 45 ((a3 uA vA vA).put (10,a,b)) ((dS (a2 vA iA)).put (oP a b)) []:=aO hO (.b (rfl:false=false) (.b (rfl:false=false) (.o (by decide:(7:Int)<=10∧(10:Int)<=14) (.b (rfl:false=false) (.o YB (.ss .rr (.o YB (.ss .rr (.k (aam Cc a b a.n b.n) .rr)))))))));exact this
 .have:pO X0 Qp (iC (n+1+1)) 45 ((a3 uA vA vA).put (11,a,b)) ((dS (a2 vA iA)).put (oQ a b)) []:=aO hO (.b (rfl:false=false) (.b (rfl:false=false) (.o (by decide:(7:Int)<=11∧(11:Int)<=14) (.b (rfl:false=false) (.o YB (.ss .rr (.o YB (.ss .rr (.k (aan Cc a b a.n b.n) .rr)))))))));exact this
 .have:pO X0 Qp (iC (n+1+1)) 45 ((a3 uA vA vA).put (12,a,b)) ((dS (a2 vA iA)).put (oU a b)) []:=aO hO (.b (rfl:false=false) (.b (rfl:false=false) (.o (by decide:(7:Int)<=12∧(12:Int)<=14) (.b (rfl:false=false) (.o YB (.ss .rr (.o YB (.ss .rr (.k (aao Cc a b a.n b.n) .rr)))))))));exact this
 .have:pO X0 Qp (iC (n+1+1)) 45 ((a3 uA vA vA).put (13,a,b)) ((dS (a2 vA iA)).put (oV a b)) []:=aO hO (.b (rfl:false=false) (.b (rfl:false=false) (.o (by decide:(7:Int)<=13∧(13:Int)<=14) (.b (rfl:false=false) (.o YB (.ss .rr (.o YB (.ss .rr (.k (aap Cc a b a.n b.n) .rr)))))))));exact this
 .have:pO X0 Qp (iC (n+1+1)) 45 ((a3 uA vA vA).put (14,a,b)) ((dS (a2 vA iA)).put (oW a b)) []:=aO hO (.b (rfl:false=false) (.b (rfl:false=false) (.o (by decide:(7:Int)<=14∧(14:Int)<=14) (.b (rfl:false=false) (.o YB (.ss .rr (.o YB (.ss .rr (.k (aaq Cc a b a.n b.n) .rr)))))))));exact this
 .have:pO X0 Qp (iC (n+1+1)) 45 ((a3 uA vA vA).put (15,a,b)) ((dS (a2 vA iA)).put (tX a b)) []:=aO hO (.b (rfl:true=true) .rr);exact this
 .have:pO X0 Qp (iC (n+1+1)) 45 ((a3 uA vA vA).put (16,a,b)) ((dS (a2 vA iA)).put (tY a b)) []:=aO hO (.b (rfl:false=false) (.b (rfl:true=true) .rr));exact this
open Go Tw Pv dB
def ajp:fB aC:=cu 23 (a3 iA iA iA) tA (fun p=>jq p.1 p.2.1 p.2.2) np ajo
theorem ap4:Gd ajp:=ap3.add fun n hO p hp=>aO hO (.ss .rr .rr)
abbrev KR(a b:LI0)(k:Nat):Bool:=a.getD k 0 != b.getD k 0
abbrev w32(a b:LI0)(i:Int)(x:List (Nat×PE aC)):aT aC:=⟨[(0,xL 3 a),(1,xL 3 b),(5,xi i)]++x,[],[]⟩
def z32(a b:LI0):Unit⊕Nat->Ex×aT aC
 |.inl _=>(.exit 0,w32 a b a.length [(14,xl false)])
 |.inr _=>(.ret,⟨[(4,xl false)],[],[]⟩)
theorem l32{n:Nat}{fV:fB aC}(hO:Ok n fV)(a b:LI0)(hl:a.length<=ah)(h:a.length=b.length):Lp n 32 0 (w32 a b 0 []) (z32 a b (bK (KR a b) a.length)).1 (z32 a b (bK (KR a b) a.length)).2:=
 OW (st:=fun i _=>w32 a b i []) (fun _ _=>True) (by kernel_rfl) hl QH trivial (fun k s n hk _ ih=>aN hO (.b (bF hk) (.o (aG hk) (.o (aG (h▸hk)) (.ls (.ou nofun) (.nx (ih _ trivial))))))) (fun s _=>aN hO (.b (fH a.length) (.ou nofun)))
theorem Es{a b:LI0}(h:a.length=b.length):kU (bK (KR a b) a.length)=decide (a=b):=by rw[a4J,eG,a1n,rO (d:=0) h];simp[KR]
theorem a7a{a b:LI0}(h:((a.length:Int) != (b.length:Int))=true):decide (a=b)=false:=by rw[a2K];rintro rfl;simp at h
theorem lU{α β:Type}{a:List α}{b:List β}(h:((a.length:Int) != (b.length:Int))=false):a.length=b.length:=by simp at h;omega
def ajq:fB aC:=cu 32 (a2 oh oh) tA (fun p=>decide (p.1=p.2)) (fun p=>[p.1.length<=ah]) ajp
theorem ap6:Gd ajq:=ap4.add fun n hO p hp=>aO hO (.s (fun h=>.v false (a7a h).symm) fun h=>.z (c:=kU (bK (KR p.1 p.2) p.1.length)) (fun h2=>.w (kZ (l32 hO p.1 p.2 (hp _ iD) (lU h)) () h2) (.v true (by rw[<-Es (lU h),h2]))) fun h2=>.w (l7 (l32 hO p.1 p.2 (hp _ iD) (lU h)) 0 h2) (.v false (by rw[<-Es (lU h),h2])))
abbrev aar(a:LI0)(n i:Int)(x:List (Nat×PE aC)):aT aC:=⟨[(0,xL 3 a),(5,xi n),(6,xi i)]++x,[],[]⟩
theorem ap7{n:Nat}{fV:fB aC}(hO:Ok n fV)(a:LI0)(hl:a.length<=ah):Lp n 104 0 (aar a 1 0 []) (.exit 0) (aar a (xg a) a.length [(11,xl false)]):=
 KO (st:=fun i n=>aar a n i []) (fin:=fun n=>aar a n a.length [(11,xl false)]) (fun _ _=>True) (by kernel_rfl) hl QH trivial (fun _ _ _ _=>trivial) (fun k s hk _ n e p h=>aN hO (.b (bF hk) (.o (aG hk) (.go h)))) (fun s _=>aN hO (.b (fH a.length) .ex))
def acM:fB aC:=cu 104 (a2 oh iA) iA (fun p=>xg p.1) (fun p=>[p.1.length<=ah,p.2=0]) ajq
theorem ajr:Gd acM:=ap6.add fun n hO p hp=>by obtain⟨a,k⟩:=p;have h0:k=0:=hp _ xM;subst h0;exact aO hO (.w (ap7 hO a (hp _ iD)) .rr)
def afo:fB aC:=cu 49 (a1 oh) iA (fun p=>xg p) (fun p=>[p.length<=ah]) acM
theorem ap8:Gd afo:=ajr.add fun n hO p hp=>aO hO (.o (hp _ iD) (.o (rfl:(0:Int)=0) .rr))
abbrev KT(b:LI0)(k j:Nat):Bool:=b.getD j 0==b.getD k 0
abbrev a3D(a b:LI0)(i:Int)(x:List (Nat×PE aC)):aT aC:=⟨[(0,xL 3 a),(1,xL 3 b),(5,xi i)]++x,[],[]⟩
def acN(a b:LI0)(k:Int)(i:Int):Unit⊕Nat->Ex×aT aC
 |.inl _=>(.exit 2,a3D a b k [(6,xi i),(29,xl false)])
 |.inr _=>(.ret,⟨[(4,xl false)],[],[]⟩)
theorem acO{n:Nat}{fV:fB aC}(hO:Ok n fV)(a b:LI0)(k:Nat)(hl:k<=ah)(h:k<b.length):Lp n 109 1 (a3D a b k [(6,xi 0)]) (acN a b k k (bK (KT b k) k)).1 (acN a b k k (bK (KT b k) k)).2:=
 OW (st:=fun i _=>a3D a b k [(6,xi i)]) (fun _ _=>True) (by kernel_rfl) hl QH trivial (fun j s n hk _ ih=>aN hO (.b (bF hk) (.o (aG (show j<b.length by omega)) (.o (aG h) (.ls (.ou nofun) (.nx (ih _ trivial))))))) (fun s _=>aN hO (.b (fH k) (.ou nofun)))
abbrev ZV(m:Int)(b:LI0)(k:Nat):Bool:=if(!(jq (b.getD k 0) 0 m))=true then true else if kU (bK (KT b k) k)=true then false else true
def z109(a b:LI0):Unit⊕Nat->Ex×aT aC
 |.inl _=>(.exit 0,a3D a b b.length [(15,xl false)])
 |.inr _=>(.ret,⟨[(4,xl false)],[],[]⟩)
abbrev xw(s:LI0):Int:=i64.wrap ((s.length:Int)-1)
theorem ajs{n:Nat}(hO:Ok n afo)(a b:LI0)(hl:b.length<=ah):Lp n 109 0 (a3D a b 0 []) (z109 a b (bK (ZV (xw a) b) b.length)).1 (z109 a b (bK (ZV (xw a) b) b.length)).2:=
 OW (st:=fun i _=>a3D a b i []) (fun _ _=>True) (by kernel_rfl) hl QH trivial (fun k s n hk _ ih=>by
  unfold gS ZV;cases h1:(!(jq (b.getD k 0) 0 (xw a)))
  .cases h2:kU (bK (KT b k) k)
   .exact aN hO (.b (bF hk) (.o (aG hk) (.b h1 (.w (l7 (acO hO a b k (by omega) hk) 0 h2) (.ou nofun)))))
   .exact aN hO (.b (bF hk) (.o (aG hk) (.b h1 (.w (kZ (acO hO a b k (by omega) hk) () h2) (.nx (ih _ trivial))))))
  .exact aN hO (.b (bF hk) (.o (aG hk) (.b h1 (.ou nofun))))
  ) (fun s _=>aN hO (.b (fH b.length) (.ou nofun)))
theorem a7b{s:LI0}(h:s.length<=ah):xw s=(s.length:Int)-1:=by unfold xw;unfold ah at h;exact eP (by omega) (by omega)
theorem uw{k lo hi:Int}:jq k lo hi=true↔lo<=k∧k<=hi:=by
 unfold jq;split
 .rename_i h;simp at h ⊢;omega
 rename_i h;simp at h ⊢;omega
theorem XG{a b:LI0}(ha:a.length<=ah)(h:b.length=a.length):kU (bK (ZV (xw a) b) b.length)=iG a.length b:=by
 rw[a4J,eG,iG,a1n];have e1:(∀j,j<b.length->ZV (xw a) b j=false)↔(∀j,j<b.length->(0<=b.getD j 0∧b.getD j 0<a.length)∧∀i,i<j->b.getD i 0≠b.getD j 0):=by
  refine ac7 fun j=>ac7 fun hj=>?_;unfold ZV;rw[a7b ha];cases h1:jq (b.getD j 0) 0 ((a.length:Int)-1)
  .simp only[abM,a1I,aew,false_iff];intro h2;have:jq (b.getD j 0) 0 ((a.length:Int)-1)=true:=by rw[uw];omega
   rw[h1]at this;cases this
  have h3:0<=b.getD j 0∧b.getD j 0<a.length:=by rw[uw]at h1;omega
  simp only[a9k,a2z,a3l,h3,adg,true_and];cases h2:kU (bK (KT b j) j)
  .simp only[a2z,a3l,aew,false_iff];intro h4;have:kU (bK (KT b j) j)=true:=eG.2 fun i hi=>(by simpa[KT]using h4 i hi);rw[h2]at this;cases this
  simp only[a1I,true_iff];intro i hi;have:=eG.1 h2 i hi;simpa[KT]using this
 rw[e1];constructor
 .intro hq;refine⟨h,(Ia (d:=0)).1 fun j hj=>(hq j hj).1,?_⟩;rw[ac8,ace];intro i j hi hj Ap;have:=(hq j hj).2 i Ap;simpa[List.getD,a0n hi,a0n hj]using this
 rintro⟨_,h2,h3⟩ j hj;refine⟨(Ia (d:=0)).2 h2 j hj,fun i hi=>?_⟩;rw[ac8,ace]at h3;have:=h3 i j (by omega) hj hi;simpa[List.getD,a0n (show i<b.length by omega),a0n hj]using this
theorem aas{a b:LI0}(h:((b.length:Int) != (a.length:Int))=true):iG a.length b=false:=by unfold iG;rw[a2K];rintro⟨h1,_⟩;rw[h1]at h;simp at h
def a7c:fB aC:=cu 109 (a2 oh oh) tA (fun p=>iG p.1.length p.2) (fun p=>[p.1.length<=ah,p.2.length<=ah]) afo
theorem ajt:Gd a7c:=ap8.add fun n hO p hp=>aO hO (.s (fun h=>.v false (aas h).symm) fun h=>.z (c:=kU (bK (ZV (xw p.1) p.2) p.2.length)) (fun h2=>.w (kZ (ajs hO p.1 p.2 (hp _ xM)) () h2) (.v true (by rw[<-XG (hp _ iD) (lU h),h2]))) fun h2=>.w (l7 (ajs hO p.1 p.2 (hp _ xM)) 0 h2) (.v false (by rw[<-XG (hp _ iD) (lU h),h2])))
abbrev cSz(a:LI0)(k:Nat):Bool:=!(jq (a.getD k 0) 1 12)
theorem aat{a:LI0}:kU (bK (cSz a) a.length)=decide (mZ a):=by rw[a4J,eG,a1n,mZ,<-Ia (d:=0)];refine ac7 fun j=>ac7 fun hj=>?_;simp only[cSz,adI,uw]
abbrev w58(a b:LI0)(i:Int)(x:List (Nat×PE aC)):aT aC:=⟨[(0,xL 3 a),(1,xL 3 b),(5,xi i)]++x,[],[]⟩
def z58(a b:LI0):Unit⊕Nat->Ex×aT aC
 |.inl _=>(.exit 0,w58 a b a.length [(12,xl false)])
 |.inr _=>(.ret,⟨[(4,xi 3)],[],[]⟩)
theorem l58{n:Nat}(hO:Ok n a7c)(a b:LI0)(hl:a.length<=ah):Lp n 58 0 (w58 a b 0 []) (z58 a b (bK (cSz a) a.length)).1 (z58 a b (bK (cSz a) a.length)).2:=
 OW (st:=fun i _=>w58 a b i []) (fun _ _=>True) (by kernel_rfl) hl QH trivial (fun k s n hk _ ih=>aN hO (.b (bF hk) (.o (aG hk) (.ls (.ou nofun) (.nx (ih _ trivial)))))) (fun s _=>aN hO (.b (fH a.length) (.ou nofun)))
def aV(s o:LI0):Int:=if decide ((s.length:Int)>6)=true then 5 else if kU (bK (cSz s) s.length)=true then(if decide (xg s>2000)=true then 5 else if(!(iG s.length o))=true then 4 else 0)else 3
theorem aau{s:LI0}(h:decide ((s.length:Int)>6)=false):s.length<=6:=by simp at h;omega
theorem XH{k:Nat}(h:k<=6):k<=ah:=by unfold ah;omega
def ajv:fB aC:=cu 58 (a2 oh oh) iA (fun p=>aV p.1 p.2) (fun p=>[p.2.length<=ah]) a7c
theorem apa:Gd ajv:=ajt.add fun n hO p hp=>aO hO (.sh (fun _=>.rr) fun h=>.zh (fun h2=>.w (kZ (l58 hO p.1 p.2 (XH (aau h))) () h2) (.o (XH (aau h)) (.o (rfl:(0:Int)=0) (.ss .rr (.o (XH (aau h)) (.o (hp _ iD) (.ss .rr .rr))))))) fun h2=>.w (l7 (l58 hO p.1 p.2 (XH (aau h))) 0 h2) .rr)
theorem Py(s o:LI0):aV s o=if 6<s.length then 5 else if mZ s then(if 2000<bg s then 5 else if iG s.length o=true then 0 else 4)else 3:=by
 unfold aV;rw[aat];by_cases h1:6<s.length
 .rw[a0u h1,a0u (by simp;omega)]
 rw[a0q h1,a0q (by simp;omega)];by_cases h2:mZ s
 .rw[a0u (by simpa using h2),a0u h2,OZ h2];by_cases h3:2000<bg s
  .rw[a0u h3,a0u (by simp;omega)]
  rw[a0q h3,a0q (by simp;omega)];cases iG s.length o<;>simp
 rw[a0q (by simpa using h2),a0q h2]
theorem iM{s o:LI0}:aV s o=0↔ng s∧iG s.length o=true:=by
 rw[Py];constructor
 .intro h;split at h
  .cases h
  split at h
  .split at h
   .cases h
   split at h
   .exact⟨⟨by omega,by assumption,by omega⟩,by assumption⟩
   cases h
  cases h
 rintro⟨⟨h1,h2,h3⟩,h4⟩;rw[a0q (by omega),a0u h2,a0q (by omega),a0u h4]
abbrev w53(a:LI0)(i:Int)(s:Int×LI0)(x:List (Nat×PE aC)):aT aC:=⟨[(0,xL 3 a),(1,xi s.1),(5,xo 0),(6,xi i)]++x,[],[.list true true 3 s.2]⟩
theorem szk{a:LI0}(hs:mZ a){k:Nat}(hk:k<a.length):a.getD k 0≠0:=by have:=hs _ (bT hk);omega
theorem afp(k:Nat):decide ((k:Int)>=0)=true:=by simp
theorem l53{n:Nat}{fV:fB aC}(hO:Ok n fV)(a:LI0)(m:Int)(hl:a.length<=ah)(hs:mZ a):Lp n 53 0 (w53 a (i64.wrap ((a.length:Int)-1)) (m,List.replicate a.length 0) []) (.exit 0) (w53 a (-1) (OV (a3m a) a.length (m,List.replicate a.length 0)) [(14,xl false)]):=
 aiL (st:=fun i s=>w53 a i s []) (fin:=fun s=>w53 a (-1) s [(14,xl false)]) (fun _ s=>s.2.length=a.length) (by kernel_rfl) hl QH (by simp) (fun k s _ h=>by simp[a3m,h]) (fun k s hk hi n e p h=>aN hO (.b (afp k) (.o (aG hk) (.o (szk hs hk) (.o (aG (show k<s.2.length by omega)) (.o (aG hk) (.o (szk hs hk) (.go h)))))))) (fun s _=>aN hO (.b (rfl:decide ((-1:Int)>=0)=false) .ex))
theorem mk1{α:Type}(l:List α):(l.length:Int)=(l.length:Int):=rfl
theorem mk2{α:Type}(l:List α):(0:Int)<=(l.length:Int):=by omega
theorem mk3{α:Type}{l:List α}(h:l.length<=ah):(l.length:Int)<=(ah:Int):=by omega
def ajw:fB aC:=cu 53 (a2 oh iA) oh (fun p=>mg p.1 p.2) (fun p=>[p.1.length<=ah,mZ p.1,0<=p.2,p.2<2^62]) ajv
theorem apb:Gd ajw:=apa.add fun n hO p hp=>aO hO (.o (mk1 p.1) (.o (mk2 p.1) (.o (mk3 (hp _ iD)) (.w (l53 hO p.1 p.2 (hp _ iD) (hp _ xM)) (.v (OV (a3m p.1) p.1.length (p.2,List.replicate p.1.length 0)).2 (a6E (hp _ xM) (hp _ hh2) (hp _ (.tail _ (.tail _ (.tail _ (.head _))))) a7h))))))
abbrev w52(a b:LI0)(m i:Int)(x:List (Nat×PE aC)):aT aC:=⟨[(0,xL 3 a),(1,xL 3 b),(5,xi m),(6,xi i)]++x,[],[]⟩
theorem l52{n:Nat}{fV:fB aC}(hO:Ok n fV)(a b:LI0)(hl:a.length<=ah)(h:b.length=a.length):Lp n 52 0 (w52 a b 0 0 []) (.exit 0) (w52 a b (aiM a b) a.length [(10,xl false)]):=
 KO (st:=fun i m=>w52 a b m i []) (fin:=fun m=>w52 a b m a.length [(10,xl false)]) (fun _ _=>True) (by kernel_rfl) hl QH trivial (fun _ _ _ _=>trivial) (fun k s hk _ n e p g=>aN hO (.b (bF hk) (.o (aG hk) (.o (aG (h▸hk)) (.go g))))) (fun s _=>aN hO (.b (fH a.length) .ex))
def ajx:fB aC:=cu 52 (a2 oh oh) iA (fun p=>dV p.1 p.2) (fun p=>[jf p.1 p.2=true,ng p.1]) ajw
theorem apc:Gd ajx:=apb.add fun n hO p hp=>aO hO (.w (l52 hO p.1 p.2 (XH (show ng p.1 from hp _ xM).len) (qh (hp _ iD))) (.v _ (aac (hp _ iD) (show ng p.1 from hp _ xM).sz (show ng p.1 from hp _ xM).many)))
def YC(v:V):Bool:=if(v.f==0)=true then jq v.n (-9999) 9999 else if(decide (v.f<=4))=true then v.n==0 else false
def ajy:fB aC:=cu 29 (a1 vA) tA (fun p=>YC p) np ajx
theorem apd:Gd ajy:=apc.add fun n hO p hp=>aO hO (.ss .rr (.ss .rr .rr))
def vIs(v:V):Bool:=if(decide (v.f>0))=true then(if(decide (v.f<=4))=true then v.n==0 else false)else jq v.n (-9999) 9999
theorem afq{v:V}(h:0<=v.f):YC v=vIs v:=by
 unfold YC vIs;by_cases h0:v.f=0
 .rw[a0u (by simp[h0]),a0q (by simp;omega)]
 have:v.f>0:=by omega
 simp[h0,this]
open Go Tw Pv dB
def dO(n:Nat):LI0:=(List.range n).map fun(k:Nat)=>(k:Int)
theorem lW(n:Nat):(dO n).length=n:=by simp[dO]
theorem Tf(n:Nat):iG n (dO n)=true:=by
 unfold iG;rw[a1n];refine⟨lW n,fun a ha=>?_,?_⟩
 .simp only[dO,a1k,a4B]at ha;obtain⟨k,h1,rfl⟩:=ha;omega
 unfold dO;exact List.Pairwise.map _ (fun a b h=>by omega) ae0
open Go Tw Pv dB
abbrev V.tv(v:V):TV:=.agg [.int .u8 v.f,.int .i64 v.n]
theorem a3E:Tryz.prog.underlying 3=some (.int .i64):=by kernel_rfl
theorem uU8:Tryz.prog.underlying 5=some (.int .u8):=by kernel_rfl
theorem afr : Tryz.prog.underlying 39 = some (.struct #[⟨"Fault", 5, 0, false, "", "", 0⟩, ⟨"N", 3, 1, false, "", "", 8⟩]) := by kernel_rfl
theorem a1G(d:Nat)(a b:V):aB Qp (Op.equalIn (d+2) 39 (.agg #[.int .u8 a.f,.int .i64 a.n]) (.agg #[.int .u8 b.f,.int .i64 b.n]))=some (decide (a=b)):=by
 rw[yC (d+1) 39 _ _ _ afr (by kernel_rfl)];have p0:∀x y:LI3,aB Qp (part 5 #[x,y] 0)=some x:=by intro x y;kernel_rfl
 have p1:∀x y:LI3,aB Qp (part 3 #[x,y] 1)=some y:=by intro x y;kernel_rfl
 have n1 : ("Fault" : String) ≠ "_" := by decide
 have n2 : ("N" : String) ≠ "_" := by decide
 have q1 := oL (f := ⟨"Fault", 5, 0, false, "", "", 0⟩) (fs := [⟨"N", 3, 1, false, "", "", 8⟩]) n1 (p0 (.int .u8 a.f) (.int .i64 a.n)) (p0 (.int .u8 b.f) (.int .i64 b.n)) (ru d _ _ _ _ _ uU8);have q2 := oL (f := ⟨"N", 3, 1, false, "", "", 8⟩) (fs := []) n2 (p1 (.int .u8 a.f) (.int .i64 a.n)) (p1 (.int .u8 b.f) (.int .i64 b.n)) (ru d _ _ _ _ _ a3E);rw[q1,q2];rw[show aB Qp (Op.eqFields (d+1) #[.int .u8 a.f,.int .i64 a.n] #[.int .u8 b.f,.int .i64 b.n] [])=some true from rfl];rcases a with⟨a1,a2⟩;rcases b with⟨b1,b2⟩;by_cases h1:a1=b1<;>by_cases h2:a2=b2<;>simp[h1,h2]
theorem eqV(x y:Operand)(a b:V):sO Qp .eql 39 x y (V.tv a) (V.tv b)=some (.bool (decide (a=b))):=(Hg rfl rfl (by kernel_rfl) (by decide) (a1G 9998 a b)).1
theorem neV(x y:Operand)(a b:V):sO Qp .neq 39 x y (V.tv a) (V.tv b)=some (.bool (!decide (a=b))):=(Hg rfl rfl (by kernel_rfl) (by decide) (a1G 9998 a b)).2
open Go Tw Pv dB
abbrev cAl(a b:List V)(k:Nat):Bool:=!decide (a.getD k V0=b.getD k V0)
abbrev w75(a b:List V)(i:Int)(x:List (Nat×PE aC)):aT aC:=⟨[(0,xL 39 a),(1,xL 39 b),(5,xi i)]++x,[],[]⟩
def z75(a b:List V):Unit⊕Nat->Ex×aT aC
 |.inl _=>(.exit 0,w75 a b a.length [(14,xl false)])
 |.inr _=>(.ret,⟨[(4,xl false)],[],[]⟩)
theorem l75{n:Nat}{fV:fB aC}(hO:Ok n fV)(a b:List V)(hl:a.length<=ah)(h:a.length=b.length):Lp n 75 0 (w75 a b 0 []) (z75 a b (bK (cAl a b) a.length)).1 (z75 a b (bK (cAl a b) a.length)).2:=
 OW (st:=fun i _=>w75 a b i []) (fun _ _=>True) (by kernel_rfl) hl QH trivial (fun k s n hk _ ih=>aN hO (.b (bF hk) (.o (aG hk) (.o (aG (h▸hk)) (.q (.bool (cAl a b k)) (neV (.tmp 20) (.tmp 24) (a.getD k V0) (b.getD k V0)) (.ls (.ou nofun) (.nx (ih _ trivial)))))))) (fun s _=>aN hO (.b (fH a.length) (.ou nofun)))
theorem a1H{a b:List V}(h:a.length=b.length):kU (bK (cAl a b) a.length)=decide (a=b):=by rw[a4J,eG,a1n,rO (d:=V0) h];simp[cAl]
theorem aav{a b:List V}(h:((a.length:Int) != (b.length:Int))=true):decide (a=b)=false:=by rw[a2K];rintro rfl;simp at h
def ajz:fB aC:=cu 75 (a2 vsA vsA) tA (fun p=>decide (p.1=p.2)) (fun p=>[p.1.length<=ah]) ajy
theorem apg:Gd ajz:=apd.add fun n hO p hp=>aO hO (.s (fun h=>.v false (aav h).symm) fun h=>.z (c:=kU (bK (cAl p.1 p.2) p.1.length)) (fun h2=>.w (kZ (l75 hO p.1 p.2 (hp _ iD) (lU h)) () h2) (.v true (by rw[<-a1H (lU h),h2]))) fun h2=>.w (l7 (l75 hO p.1 p.2 (hp _ iD) (lU h)) 0 h2) (.v false (by rw[<-a1H (lU h),h2])))
open Go Tw Pv dB
abbrev RhB(n f k B m:Nat)(s:aT aC)(e:Ex)(p:aT aC):Prop:=dK X0 Qp T (iC n) LL f false (Cm Qp f) B (SC Qp f k) m s e p
abbrev hdP(f k:Nat)(w:aT aC):aT aC:=gW X0 (T.eY f (dU (SC Qp f k))) w
section
variable {n f k B N:Nat} {σ ρ:Type}
theorem vM{st:Int->σ->aT aC}{g:Nat->σ->σ}{e:Ex}{fin:σ->aT aC}{s0:σ}{w:aT aC}(Inv:Nat->σ->Prop)(h0:hdP f k w=st 0 s0)(hl:N<=ah)(hi:Inv 0 s0)(hv:∀j s,j<N->Inv j s->Inv (j+1) (g j s))
  (hs:∀(j:Nat) (s:σ),j<N->Inv j s->∀m e1 p,RhB n f k B m (st (i64.wrap (j+1)) (g j s)) e1 p->RhB n f k B (m+1) (st j s) e1 p)
  (ho:∀s,Inv N s->RhB n f k B 1 (st N s) e (fin s)):Ii n f k B w e (fin (aU g N 0 s0)):=KO Inv h0 hl QH hi hv hs ho
theorem jh{st:Int->σ->aT aC}{g:Nat->σ->σ⊕ρ}{out:σ⊕ρ->Ex×aT aC}{s0:σ}{w:aT aC}(Inv:Nat->σ->Prop)(h0:hdP f k w=st 0 s0)(hl:N<=ah)(hi:Inv 0 s0)
  (hs:∀(j:Nat) (s:σ) (m:Nat),j<N->Inv j s->(∀s1,Inv (j+1) s1->RhB n f k B m (st (i64.wrap (j+1)) s1) (vJ (X:=X0) out g (N-(j+1)) (j+1) (.inl s1)).1 (vJ (X:=X0) out g (N-(j+1)) (j+1) (.inl s1)).2) ->
   RhB n f k B (m+1) (st j s) (vJ (X:=X0) out g (N-(j+1)) (j+1) (g j s)).1 (vJ (X:=X0) out g (N-(j+1)) (j+1) (g j s)).2)
  (ho:∀s,Inv N s->RhB n f k B 1 (st N s) (out (.inl s)).1 (out (.inl s)).2):Ii n f k B w (out (nJ g N 0 s0)).1 (out (nJ g N 0 s0)).2:=OW Inv h0 hl QH hi hs ho
theorem aaw{a:Nat}{st:Int->σ->aT aC}{g:Nat->σ->σ⊕ρ}{out:σ⊕ρ->Ex×aT aC}{s0:σ}{w:aT aC}(Inv:Nat->σ->Prop)(h0:hdP f k w=st a s0)(ha:a<=N)(hl:N<=ah)(hi:Inv a s0)
  (hs:∀(j:Nat) (s:σ) (m:Nat),a<=j->j<N->Inv j s->(∀s1,Inv (j+1) s1->RhB n f k B m (st (i64.wrap (j+1)) s1) (vJ (X:=X0) out g (N-(j+1)) (j+1) (.inl s1)).1 (vJ (X:=X0) out g (N-(j+1)) (j+1) (.inl s1)).2) ->
   RhB n f k B (m+1) (st j s) (vJ (X:=X0) out g (N-(j+1)) (j+1) (g j s)).1 (vJ (X:=X0) out g (N-(j+1)) (j+1) (g j s)).2)
  (ho:∀s,Inv N s->RhB n f k B 1 (st N s) (out (.inl s)).1 (out (.inl s)).2):Ii n f k B w (out (nJ g (N-a) a s0)).1 (out (nJ g (N-a) a s0)).2:=af5 Inv h0 ha hl QH hi hs ho
theorem ZW{st:σ->aT aC}{g:σ->σ⊕ρ}{out:ρ->Ex×aT aC}(Inv:σ->Prop){m:Nat}{s:σ}{r:ρ}{w:aT aC}(hr:itF g m s=some r)(h0:hdP f k w=st s)(hk:m<=LL)(hv:Inv s)(hi:∀s s1,Inv s->g s=.inl s1->Inv s1)
  (hs:∀s m r,Inv s->(∀s1,g s=.inl s1->RhB n f k B m (st s1) (out r).1 (out r).2)->RhB n f k B (m+1) (st s) (Du (X:=X0) out r (g s)).1 (Du (X:=X0) out r (g s)).2):Ii n f k B w (out r).1 (out r).2:=af2 Inv hr h0 hk hv hi hs
end
open Go Tw Pv dB
structure Prt(l:List V)(w n:Nat):Prop where
 n12:n<=12
 w2:w<=5000
 len:l.length=n*w
section
variable {l:List V} {w n j:Nat} (h:Prt l w n)
include h
end
theorem a3F{α β:Type}(l:List α)(d:α)(f:α->β):(List.range l.length).map (fun k=>f (l.getD k d))=l.map f:=by
 apply a9J (by simp);intro i h1 h2;have:i<l.length:=by simpa using h1
 simp[List.getD,a0n this]
open Go Tw Pv dB
theorem Pz{s p:LI0}{ch d:Int}(hp:jf s p=true)(hc:fF ch s.length)(hd:fF d (s.getD ch.toNat 0).toNat):jf s (p.set ch.toNat d)=true:=by
 rw[ny]at hp ⊢;obtain⟨c1,c2⟩:=hc;obtain⟨d1,d2⟩:=hd;refine⟨by simp[hp.1],fun j hj=>?_⟩;rw[zA (by omega)];split
 .rename_i e;subst e;omega
 exact hp.2 j hj
open Go Tw Pv dB
abbrev aj(d:Dg)(r:Int):Br:=d.au.getD r.toNat kW
abbrev PD(d:Dg)(r:Int)(k:Nat):Bool:=d.aH.getD k 0==(aj d r).var
abbrev a3G(d:Dg)(r i:Int)(x:List (Nat×PE aC)):aT aC:=⟨[(1,xi r),(2,.loc 0 0),(5,xi i)]++x,[d.ps],[]⟩
def ajA(d:Dg)(r:Int)(N:Nat):Unit⊕Nat->Ex×aT aC
 |.inl _=>(.exit 0,a3G d r N [(14,xl false)])
 |.inr k=>(.ret,⟨[(4,xi k)],[d.ps],[]⟩)
theorem ajB{r:Int}(h:0<=r):decide (r>=0)=true:=by simpa using h
theorem ajC{n:Nat}{fV:fB aC}(hO:Ok n fV)(d:Dg)(r:Int)(hl:d.aH.length<=ah)(h:fF r d.au.length):Lp n 177 0 (a3G d r 0 []) (ajA d r d.aH.length (bK (PD d r) d.aH.length)).1 (ajA d r d.aH.length (bK (PD d r) d.aH.length)).2:=
 jh (st:=fun i _=>a3G d r i []) (fun _ _=>True) (by kernel_rfl) hl trivial (fun k s m hk _ ih=>aN hO (.b (ajB h.1) (.b (bF hk) (.o (aG hk) (.o h (.ls (.ou nofun) (.nx (ih _ trivial)))))))) (fun s _=>aN hO (.b (ajB h.1) (.b (fH d.aH.length) (.ou nofun))))
theorem ajD{n:Nat}{fV:fB aC}(hO:Ok n fV)(d:Dg)(r:Int)(h:r<0):Lp n 177 0 (a3G d r 0 []) (.exit 0) (a3G d r 0 [(14,xl false)]):=
 zK (ps:=a3G d r 0 []) (aN hO (.b (show decide (r>=0)=false by simpa using h) .ex)) (by kernel_rfl) (by decide:1<=LL)
def uf(d:Dg)(r:Int):Int:=if decide (r<0)=true then(d.aH.length:Int)else if kU (bK (PD d r) d.aH.length)=true then(d.aH.length:Int)else((Dq 0 (bK (PD d r) d.aH.length):Nat):Int)
def acP:fB aC:=cu 177 (a2 dA iA) iA (fun p=>uf p.1 p.2) (fun p=>[p.1.aH.length<=ah,0<=p.2->fF p.2 p.1.au.length]) ajz
theorem ajE:Gd acP:=apg.add fun n hO p hp=>aO hO (.zh (fun h=>.w (ajD hO p.1 p.2 (by simpa using h)) .rr) fun h=>.zh (fun h2=>.w (kZ (ajC hO p.1 p.2 (hp _ iD) (hp (0<=p.2->fF p.2 p.1.au.length) (.tail _ (.head _)) (by simpa using h))) () h2) .rr) fun h2=>.w (l7 (ajC hO p.1 p.2 (hp _ iD) (hp (0<=p.2->fF p.2 p.1.au.length) (.tail _ (.head _)) (by simpa using h))) 0 h2) .rr)
def iR(d:Dg)(r below:Int):Bool:=if decide (r>=0)=true then decide (r<below)else jq (i64.wrap (-1-r)) 0 (i64.wrap ((d.aK.length:Int)-1))
def acQ:fB aC:=cu 176 (a3 dA iA iA) tA (fun p=>iR p.1 p.2.1 p.2.2) np acP
theorem ajF:Gd acQ:=ajE.add fun n hO p hp=>aO hO (.ss .rr .rr)
abbrev PG(b:Br)(k:Nat):Bool:=b.ay.getD k 0 != b.ay.getD 0 0
abbrev afs(b:Br)(i:Int)(x:List (Nat×PE aC)):aT aC:=⟨[(1,.loc 0 0),(3,xi i)]++x,[b.ps],[]⟩
def ajG(b:Br):Unit⊕Nat->Ex×aT aC
 |.inl _=>(.exit 0,afs b (max 1 b.ay.length:Nat) [(8,xl false)])
 |.inr _=>(.ret,⟨[(2,xl false)],[b.ps],[]⟩)
theorem ajH{n:Nat}{fV:fB aC}(hO:Ok n fV)(b:Br)(hl:b.ay.length<=ah):Lp n 132 0 (afs b 1 []) (ajG b (SH (PG b) 1 (max 1 b.ay.length))).1 (ajG b (SH (PG b) 1 (max 1 b.ay.length))).2:=
 aaw (st:=fun i _=>afs b i []) (fun _ _=>True) (by kernel_rfl) (by omega) (by unfold ah at *;omega) trivial (fun k s m h1 hk _ ih=>aN hO (.b (bF (show k<b.ay.length by omega)) (.o (aG (show k<b.ay.length by omega)) (.o (show fF 0 b.ay.length from⟨by omega,by omega⟩) (.ls (.ou nofun) (.nx (ih _ trivial))))))) (fun s _=>aN hO (.b (show decide (((max 1 b.ay.length:Nat):Int)<(b.ay.length:Int))=false by simp only[a2K];omega) (.ou nofun)))
def xC(b:Br):Bool:=if kU (SH (PG b) 1 (max 1 b.ay.length))=true then true else false
def acR:fB aC:=cu 132 (a1 brA) tA (fun p=>xC p) (fun p=>[p.ay.length<=ah]) acQ
theorem ajI:Gd acR:=ajF.add fun n hO p hp=>aO hO (.zh (fun h=>.w (kZ (ajH hO p (hp _ iD)) () h) .rr) fun h=>.w (l7 (ajH hO p (hp _ iD)) 0 h) .rr)
abbrev Ti(l:LI0)(n:Int)(k:Nat):Bool:=l.getD k 0==n
abbrev aft(l:LI0)(m i:Int)(x:List (Nat×PE aC)):aT aC:=⟨[(0,xL 3 l),(1,xi m),(5,xi i)]++x,[],[]⟩
def ajJ(l:LI0)(m:Int):Unit⊕Nat->Ex×aT aC
 |.inl _=>(.exit 0,aft l m l.length [(9,xl false)])
 |.inr _=>(.ret,⟨[(4,xl true)],[],[]⟩)
theorem ajK{n:Nat}{fV:fB aC}(hO:Ok n fV)(l:LI0)(m:Int)(hl:l.length<=ah):Lp n 178 0 (aft l m 0 []) (ajJ l m (bK (Ti l m) l.length)).1 (ajJ l m (bK (Ti l m) l.length)).2:=
 jh (st:=fun i _=>aft l m i []) (fun _ _=>True) (by kernel_rfl) hl trivial (fun k s m hk _ ih=>aN hO (.b (bF hk) (.o (aG hk) (.ls (.ou nofun) (.nx (ih _ trivial)))))) (fun s _=>aN hO (.b (fH l.length) (.ou nofun)))
theorem Tj{l:LI0}{m:Int}:kU (bK (Ti l m) l.length)=!decide (m∈l):=by
 rw[a4J,eG];simp only[a97,a2K];constructor
 .intro h hm;obtain⟨j,hj,e⟩:=a4N.1 hm;have:=h j hj;simp[Ti,List.getD,a0n hj,e]at this
 intro h j hj;have e:l.getD j 0=l[j]:=by simp[List.getD,a0n hj]
 simp only[Ti,ah8,ne_eq,e];intro e2;exact h (e2▸a4D hj)
def acS:fB aC:=cu 178 (a2 oh iA) tA (fun p=>decide (p.2∈p.1)) (fun p=>[p.1.length<=ah]) acR
theorem ajL:Gd acS:=ajI.add fun n hO p hp=>aO hO (.z (c:=kU (bK (Ti p.1 p.2) p.1.length)) (fun h=>.w (kZ (ajK hO p.1 p.2 (hp _ iD)) () h) (.v false (by rw[Tj]at h;simp at h;simp[h]))) fun h=>.w (l7 (ajK hO p.1 p.2 (hp _ iD)) 0 h) (.v true (by rw[Tj]at h;simp at h;simp[h])))
abbrev a7e(l:LI0)(k:Nat):Bool:=l.getD k 0 != (k:Int)
abbrev afu(l:LI0)(m i:Int)(x:List (Nat×PE aC)):aT aC:=⟨[(0,xL 3 l),(1,xi m),(5,xi i)]++x,[],[]⟩
def ajM(l:LI0)(m:Int):Unit⊕Nat->Ex×aT aC
 |.inl _=>(.exit 0,afu l m l.length [(9,xl false)])
 |.inr _=>(.ret,⟨[(4,xl false)],[],[]⟩)
theorem ajN{n:Nat}{fV:fB aC}(hO:Ok n fV)(l:LI0)(m:Int)(hl:l.length<=ah):Lp n 134 0 (afu l m 0 []) (ajM l m (bK (a7e l) l.length)).1 (ajM l m (bK (a7e l) l.length)).2:=
 jh (st:=fun i _=>afu l m i []) (fun _ _=>True) (by kernel_rfl) hl trivial (fun k s m hk _ ih=>aN hO (.b (bF hk) (.o (aG hk) (.ls (.ou nofun) (.nx (ih _ trivial)))))) (fun s _=>aN hO (.b (fH l.length) (.ou nofun)))
def zQ(l:LI0)(m:Int):Bool:=if kU (bK (a7e l) l.length)=true then((l.length:Int)==m)else false
def XI:fB aC:=cu 134 (a2 oh iA) tA (fun p=>zQ p.1 p.2) (fun p=>[p.1.length<=ah]) acS
theorem ajO:Gd XI:=ajL.add fun n hO p hp=>aO hO (.zh (fun h=>.w (kZ (ajN hO p.1 p.2 (hp _ iD)) () h) .rr) fun h=>.w (l7 (ajN hO p.1 p.2 (hp _ iD)) 0 h) .rr)
abbrev cLk(d:Dg)(i k:Nat):Bool:=if(!(iR d ((d.au.getD i kW).ay.getD k 0) i))=true then true else decide (uf d ((d.au.getD i kW).ay.getD k 0)<=uf d i)
abbrev fE(d:Dg)(i:Nat):Br:=d.au.getD i kW
abbrev a7f(d:Dg)(i k:Int)(b:Br)(x:List (Nat×PE aC)):aT aC:=⟨[(1,.loc 0 0),(4,xi i),(5,.loc 1 0),(6,xi k)]++x,[d.ps,b.ps],[]⟩
def acT(d:Dg)(i:Nat):Unit⊕Nat->Ex×aT aC
 |.inl _=>(.exit 4,a7f d i (fE d i).ay.length (fE d i) [(57,xl false)])
 |.inr _=>(.ret,⟨[(2,xl false)],[d.ps,(fE d i).ps],[]⟩)
structure DgL(d:Dg):Prop where
 aH:d.aH.length<=ah
 au:d.au.length<=ah
 aK:d.aK.length<=ah
 bI:ng d.aA
theorem XJ{d:Dg}{r:Int}{i:Nat}(h:iR d r i=true)(h0:0<=r)(hi:i<=d.au.length):fF r d.au.length:=by
 unfold iR at h;rw[a0u (by simpa using h0)]at h;have:r<(i:Int):=by simpa using h
 exact⟨h0,by omega⟩
theorem ajP{n:Nat}(hO:Ok n XI){d:Dg}(h:DgL d){i:Nat}(hi:i<d.au.length)(hk:(fE d i).ay.length<=ah):Lp n 131 2 (a7f d i 0 (fE d i) []) (acT d i (bK (cLk d i) (fE d i).ay.length)).1 (acT d i (bK (cLk d i) (fE d i).ay.length)).2:=
 jh (st:=fun k _=>a7f d i k (fE d i) []) (fun _ _=>True) (by kernel_rfl) hk trivial (fun k s m hk _ ih=>by
  unfold gS cLk;cases e1:iR d ((fE d i).ay.getD k 0) i
  .exact aN hO (.b (bF hk) (.o (aG hk) (.b (show(!(iR d ((fE d i).ay.getD k 0) i))=true by rw[e1];rfl) (.ou nofun))))
  .exact aN hO (.b (bF hk) (.o (aG hk) (.b (show(!(iR d ((fE d i).ay.getD k 0) i))=false by rw[e1];rfl) (.o (aG hk) (.o h.aH (.o (show 0<=(fE d i).ay.getD k 0->fF ((fE d i).ay.getD k 0) d.au.length from fun h0=>XJ e1 h0 (by omega)) (.o h.aH (.o (show 0<=((i:Nat):Int)->fF i d.au.length from fun _=>aG hi) (.ls (.ou nofun) (.nx (ih _ trivial)))))))))))
  ) (fun s _=>aN hO (.b (fH (fE d i).ay.length) (.ou nofun)))
abbrev ZX(d:Dg)(i:Nat):Bool:=if(!(jq (fE d i).var 0 (xw d.aA)))=true then true else if(((fE d i).ay.length:Int) != d.aA.getD (fE d i).var.toNat 0)=true then true else if kU (bK (cLk d i) (fE d i).ay.length)=true then false else true
abbrev a7g(d:Dg)(i:Int)(x:List (Nat×PE aC)):aT aC:=⟨[(1,.loc 0 0),(4,xi i)]++x,[d.ps],[]⟩
def acU(d:Dg):Unit⊕Nat->Ex×aT aC
 |.inl _=>(.exit 2,a7g d d.au.length [(25,xl false)])
 |.inr k=>(.ret,⟨[(2,xl false)],[d.ps,(fE d k).ps],[]⟩)
theorem JC{d:Dg}(h:ng d.aA){v:Int}(e:jq v 0 (xw d.aA)=true):fF v d.aA.length:=by rw[uw,a7b h.UW]at e;exact⟨e.1,by omega⟩
theorem XK{d:Dg}(h:ng d.aA){v:Int}(e:fF v d.aA.length){l:LI0}(hl:(((l.length:Int)) != d.aA.getD v.toNat 0)=false):l.length<=12:=by
 have:=h.sz _ (bT (s:=d.aA) (k:=v.toNat) (by have:=e.2;have:=e.1;omega));have hl:(l.length:Int)=d.aA.getD v.toNat 0:=by simpa using hl
 omega
theorem m12{k:Nat}(h:k<=12):k<=ah:=by unfold ah;omega
theorem acV{n:Nat}(hO:Ok n XI){d:Dg}(h:DgL d):Lp n 131 1 (a7g d 0 []) (acU d (bK (ZX d) d.au.length)).1 (acU d (bK (ZX d) d.au.length)).2:=
 jh (st:=fun k _=>a7g d k []) (fun _ _=>True) (by kernel_rfl) h.au trivial (fun k s m hk _ ih=>by
  unfold gS ZX;cases e1:jq (fE d k).var 0 (xw d.aA)
  .exact aN hO (.b (bF hk) (.o (aG hk) (.b (show(!(jq (fE d k).var 0 (xw d.aA)))=true by rw[e1];rfl) (.ou nofun))))
  .have hv:=JC h.bI e1;cases e2:(((fE d k).ay.length:Int) != d.aA.getD (fE d k).var.toNat 0)
   .have hl:=ajP hO h hk (m12 (XK h.bI hv e2));cases e3:kU (bK (cLk d k) (fE d k).ay.length)
    .exact aN hO (.b (bF hk) (.o (aG hk) (.b (show(!(jq (fE d k).var 0 (xw d.aA)))=false by rw[e1];rfl) (.o hv (.b e2 (.w (l7 hl 0 e3) (.ou nofun)))))))
    .exact aN hO (.b (bF hk) (.o (aG hk) (.b (show(!(jq (fE d k).var 0 (xw d.aA)))=false by rw[e1];rfl) (.o hv (.b e2 (.w (kZ hl () e3) (.nx (ih _ trivial))))))))
   .exact aN hO (.b (bF hk) (.o (aG hk) (.b (show(!(jq (fE d k).var 0 (xw d.aA)))=false by rw[e1];rfl) (.o hv (.b e2 (.ou nofun))))))
  ) (fun s _=>aN hO (.b (fH d.au.length) (.ou nofun)))
abbrev cLe(d:Dg)(k:Nat):Bool:=!(YC (d.aK.getD k V0))
abbrev a7i(d:Dg)(i:Int)(x:List (Nat×PE aC)):aT aC:=⟨[(1,.loc 0 0),(3,xi i)]++x,[d.ps],[]⟩
def acW(d:Dg):Unit⊕Nat->Ex×aT aC
 |.inl _=>(.exit 0,a7i d d.aK.length [(11,xl false)])
 |.inr _=>(.ret,⟨[(2,xl false)],[d.ps],[]⟩)
theorem acX{n:Nat}(hO:Ok n XI){d:Dg}(h:DgL d):Lp n 131 0 (a7i d 0 []) (acW d (bK (cLe d) d.aK.length)).1 (acW d (bK (cLe d) d.aK.length)).2:=
 jh (st:=fun k _=>a7i d k []) (fun _ _=>True) (by kernel_rfl) h.aK trivial (fun k s m hk _ ih=>aN hO (.b (bF hk) (.o (aG hk) (.ls (.ou nofun) (.nx (ih _ trivial)))))) (fun s _=>aN hO (.b (fH d.aK.length) (.ou nofun)))
def lX(d:Dg):Bool:=if kU (bK (cLe d) d.aK.length)=true then(if kU (bK (ZX d) d.au.length)=true then iR d d.root d.au.length else false)else false
def acY:fB aC:=cu 131 (a1 dA) tA (fun p=>lX p) (fun p=>[DgL p]) XI
theorem ajQ:Gd acY:=ajO.add fun n hO p hp=>aO hO (.zh (fun h=>.w (kZ (acX hO (show DgL p from hp _ iD)) () h) (.zh (fun h2=>.w (kZ (acV hO (show DgL p from hp _ iD)) () h2) .rr) fun h2=>.w (l7 (acV hO (show DgL p from hp _ iD)) 0 h2) .rr)) fun h=>.w (l7 (acX hO (show DgL p from hp _ iD)) 0 h) .rr)
def aZ(d:Dg):Int:=if(aV d.aA d.aH != 0)=true then aV d.aA d.aH else if decide ((d.au.length:Int)>6000)=true then 5 else if(!(lX d))=true then 4 else 0
theorem V7{k:Nat}(h:decide ((k:Int)>6000)=false):k<=ah:=by simp at h;unfold ah;omega
theorem Bd{s o:LI0}(h:(aV s o != 0)=false):ng s:=(iM.1 (by simpa using h)).1
def aax:fB aC:=cu 83 (a1 dA) iA (fun p=>aZ p) (fun p=>[p.aH.length<=ah,p.aK.length<=ah]) acY
theorem aph:Gd aax:=ajQ.add fun n hO p hp=>aO hO (.o (hp _ iD) (.sh (fun _=>.rr) fun h=>.sh (fun _=>.rr) fun h2=>.o (show DgL p from⟨hp _ iD,V7 h2,hp _ xM,Bd h⟩) (.ss .rr .rr)))
open Go Tw Pv dB
abbrev ji(r:Int):Int:=i64.wrap (-1-r)
def jW(d:Dg):Nat->Int->LI0×LI0->LI0×LI0
 | 0,_,x=>x
 |F+1,r,x=>if decide (r<0)=true then(if(!(decide (ji r∈x.2)))=true then(x.1,x.2++[ji r])else x)else if decide (r∈x.1)=true then x
  else((aU (fun k y=>jW d F ((aj d r).ay.getD k 0) y) (aj d r).ay.length 0 x).1++[r],(aU (fun k y=>jW d F ((aj d r).ay.getD k 0) y) (aj d r).ay.length 0 x).2)
def jC(d:Dg)(r:Int)(b:Nat):Prop:=r<b∧(r<0->fF (ji r) d.aK.length)
structure Ce(d:Dg):Prop extends DgL d where
 zS:∀i,i<d.au.length->∀k,k<(fE d i).ay.length->jC d ((fE d i).ay.getD k 0) i
 JD:∀i,i<d.au.length->(fE d i).ay.length<=12
 var:∀i,i<d.au.length->fF (fE d i).var d.aA.length
 ksz:∀i,i<d.au.length->((fE d i).ay.length:Int)=d.aA.getD (fE d i).var.toNat 0
 root:jC d d.root d.au.length
structure JE(d:Dg)(x:LI0×LI0):Prop where
 n1:x.1.Nodup
 n2:∀a∈x.1,fF a d.au.length
 e1:x.2.Nodup
 e2:∀a∈x.2,fF a d.aK.length
theorem zT:∀(N:Nat) (l:LI0),l.Nodup->(∀a∈l,fF a N)->l.length<=N
 | 0,[],_,_=>a0E _
 | 0,a::l,_,h=>by obtain⟨h1,h2⟩:=h a (a2M ..);omega
 |N+1,l,hn,h=>by
  have h1:=zT N (l.erase (N:Int)) (hn.erase _) fun a ha=>by have h2:=(List.Nodup.mem_erase_iff hn).1 ha;have h3:=h a h2.2;exact⟨h3.1,by have:=h3.2;have:=h2.1;omega⟩
  by_cases hm:(N:Int)∈l
  .rw[List.length_erase_of_mem hm]at h1;omega
  rw[List.erase_of_not_mem hm]at h1;omega
theorem JE.len{d:Dg}{x:LI0×LI0}(h:JE d x):x.1.length<=d.au.length∧x.2.length<=d.aK.length:=⟨zT _ _ h.n1 h.n2,zT _ _ h.e1 h.e2⟩
theorem xE{l:LI0}{a:Int}(h:l.Nodup)(ha:a∉l):(l++[a]).Nodup:=by rw[a96];exact⟨h,by simp,fun x hx y hy e=>by simp at hy;subst hy;subst e;exact ha hx⟩
theorem a7j{d:Dg}:∀(F:Nat) (r s:Int) (x:LI0×LI0),r<s->s∉x.1->0<=s->(∀i,i<d.au.length->∀k,k<(fE d i).ay.length->(fE d i).ay.getD k 0<i)->(0<=r->fF r d.au.length)->s∉(jW d F r x).1
 | 0,_,_,_,_,h,_,_,_=>h
 |F+1,r,s,x,hr,h,h0,hk,hn=>by
  unfold jW;by_cases c:r<0
  .rw[a0u (by simpa using c)];split<;>exact h
  rw[a0q (by simpa using c)];split
  .exact h
  have hi:=hn (by omega);have E8:∀k,k<(aj d r).ay.length->(aj d r).ay.getD k 0<r:=fun k kN=>by obtain⟨i1,i2⟩:=hi;have h9:(aj d r).ay.getD k 0<(r.toNat:Int):=hk r.toNat (by omega) k kN;omega
  have:=bU (g:=fun k y=>jW d F ((aj d r).ay.getD k 0) y) (m:=(aj d r).ay.length) (k:=0) (s:=x) (fun _ y=>s∉y.1) h (fun j y _ hj hy=>by have h4:=E8 j (by omega);exact a7j F _ s y (by omega) hy h0 hk fun h5=>⟨h5,by have:=hi.2;omega⟩)
  simp only[a3c,a2D,adE];exact⟨this,by omega⟩
theorem KU{d:Dg}(h:Ce d):∀(F:Nat) (r:Int) (x:LI0×LI0),JE d x->jC d r d.au.length->JE d (jW d F r x)
 | 0,_,_,hx,_=>hx
 |F+1,r,x,hx,hr=>by
  unfold jW;by_cases c:r<0
  .rw[a0u (by simpa using c)];split
   .rename_i c2;have c2:ji r∉x.2:=(by simpa using c2);refine⟨hx.n1,hx.n2,xE hx.e1 c2,fun a ha=>?_⟩;rw[a3c,a2D]at ha;rcases ha with ha|rfl
    .exact hx.e2 a ha
    exact hr.2 c
   exact hx
  rw[a0q (by simpa using c)];split
  .exact hx
  rename_i c2;have c2:r∉x.1:=by simpa using c2
  have hi:fF r d.au.length:=⟨by omega,hr.1⟩;have aQ:r.toNat<d.au.length:=by have:=hr.1;omega
  have h1:=bU (g:=fun k y=>jW d F ((aj d r).ay.getD k 0) y) (m:=(aj d r).ay.length) (k:=0) (s:=x) (fun _ y=>JE d y∧r∉y.1) ⟨hx,c2⟩ (fun j y _ hj hy=>by have hk:jC d ((aj d r).ay.getD j 0) r.toNat:=h.zS r.toNat aQ j (by simpa using hj);obtain⟨k1,k2⟩:=hk;have kN:jC d ((aj d r).ay.getD j 0) d.au.length:=⟨by omega,k2⟩;refine⟨KU h F _ y hy.1 kN,a7j F _ r y (by omega) hy.2 (by omega) (fun i hi k hk=>(h.zS i hi k hk).1) fun h5=>⟨h5,kN.1⟩⟩)
  obtain⟨h2,h3⟩:=h1;refine⟨xE h2.n1 h3,fun a ha=>?_,h2.e1,h2.e2⟩;rw[a3c,a2D]at ha;rcases ha with ha|rfl
  .exact h2.n2 a ha
  exact hi
abbrev ls(l:LI0):PB aC:=.list false false 3 l
abbrev wSr(d:Dg)(r:Int)(k:Int)(s:LI0×LI0)(x:List (Nat×PE aC)):aT aC:=⟨[(1,xi r),(2,xo 2),(3,xo 3),(4,.loc 0 0),(10,.loc 1 0),(11,xi k)]++x,[d.ps,(aj d r).ps],[.gone,.gone,ls s.1,ls s.2]⟩
abbrev ajR(n:Nat)(d:Dg)(r:Int)(x y:LI0×LI0):Prop:=iW n (.fn 133 [] []) [.agg d.ps,.int .i64 r,.own 0,.own 1] [ls x.1,ls x.2] (.cO [.own 2,.own 3]) [.gone,.gone,ls y.1,ls y.2]
theorem sSr{N:Nat}(hO:∀m,N<=m->Ok m aax){d:Dg}(h:Ce d):∀(F:Nat) (r:Int) (x:LI0×LI0),r+1<F->JE d x->jC d r d.au.length->1<=F->ajR (N+F) d r x (jW d F r x)
 | 0,r,x,_,_,_,h1=>by omega
 |F+1,r,x,hF,hx,hr,_=>by
  have hn:=hx.len.1;have he:=hx.len.2;have m1:=h.au;have m2:=h.aK;have Gg:=hO (N+F) (by omega);have mn:x.1.length<=ah:=by omega
  have me:x.2.length<=ah:=by omega
  unfold jW;by_cases c:r<0
  .have t0:decide (r<0)=true:=(by simpa using c);rw[a0u t0];by_cases c2:ji r∈x.2
   .have t1:(!(decide (ji r∈x.2)))=false:=(by simpa using c2);rw[a0q (by rw[t1];simp)];exact bZ.gs hX (jV hX Gg (first:=[]) (cap:=[]) (v:=.cO [.own 0,.own 1]) (H1:=[ls x.1,ls x.2]) (by kernel_rfl) (.b t0 (.o me (.b t1 .er)))) [.mv 0,.mv 1] rfl
   have t1:(!(decide (ji r∈x.2)))=true:=(by simpa using c2);rw[a0u t1];have e1:=zT _ _ (xE hx.e1 c2) (fun a ha=>by
    rw[a3c,a2D]at ha;rcases ha with ha|rfl
    .exact hx.e2 a ha
    exact hr.2 c)
   have e2:x.2.length+[ji r].length<=ah:=by rw[<-a1o];omega
   exact bZ.gs hX (jV hX Gg (first:=[]) (cap:=[]) (v:=.cO [.own 0,.own 3]) (H1:=[ls x.1,.gone,.list true true 3 ([ji r]:LI0),ls (x.2++[ji r])]) (by kernel_rfl) (.b t0 (.o me (.b t1 (.o e2 .er))))) [.mv 0,.gc [4,3]] rfl
  have t0:decide (r<0)=false:=by simpa using c
  rw[a0q (by rw[t0];simp)];by_cases c2:r∈x.1
  .have t1:decide (r∈x.1)=true:=(by simpa using c2);rw[a0u t1];exact bZ.gs hX (jV hX Gg (first:=[]) (cap:=[]) (v:=.cO [.own 0,.own 1]) (H1:=[ls x.1,ls x.2]) (by kernel_rfl) (.b t0 (.o mn (.b t1 .er)))) [.mv 0,.mv 1] rfl
  have t1:decide (r∈x.1)=false:=by simpa using c2
  rw[a0q (by rw[t1];simp)];have hi:fF r d.au.length:=⟨by omega,hr.1⟩;obtain⟨i1,i2⟩:=id hi;have aQ:r.toNat<d.au.length:=by omega
  have hl:Ii (N+F) 133 0 2 (wSr d r 0 x []) (.exit 0) (wSr d r (aj d r).ay.length (aU (fun k y=>jW d F ((aj d r).ay.getD k 0) y) (aj d r).ay.length 0 x) [(40,xl false)]):=by
   refine vM (σ:=LI0×LI0) (N:=(aj d r).ay.length) (g:=fun k y=>jW d F ((aj d r).ay.getD k 0) y) (s0:=x) (st:=fun k y=>wSr d r k y []) (fin:=fun y=>wSr d r (aj d r).ay.length y [(40,xl false)]) (fun _ y=>JE d y) (by kernel_rfl) (m12 (h.JD r.toNat aQ)) hx (fun k y hk hy=>?_) (fun k y hk hy m e p g=>?_) (fun y _=>aN Gg (.b (fH (aj d r).ay.length) .ex))
   .have hk:jC d ((aj d r).ay.getD k 0) r.toNat:=h.zS r.toNat aQ k hk;have k1:(aj d r).ay.getD k 0<(r.toNat:Int):=hk.1;exact KU h F _ y hy ⟨by omega,hk.2⟩
   have kN:jC d ((aj d r).ay.getD k 0) r.toNat:=h.zS r.toNat aQ k hk;have k1:=kN.1;have hs:=sSr hO h F ((aj d r).ay.getD k 0) y (by omega) hy ⟨by omega,kN.2⟩ (by omega);exact aN Gg (.b (bF hk) (.o (aG hk) (.fr [2,3] hs (.goG [.gc [4,5]] g))))
  generalize hy:aU (fun k y=>jW d F ((aj d r).ay.getD k 0) y) (aj d r).ay.length 0 x=y at hl;have sk:=KU h (F+1) r x hx hr;unfold jW at sk;rw[a0q (by rw[t0];simp),a0q (by rw[t1];simp),hy]at sk;have sl:(y.1++[r]).length<=d.au.length:=sk.len.1;have ml:y.1.length+[r].length<=ah:=by rw[<-a1o];omega
  exact bZ.gs hX (jV hX Gg (first:=[]) (cap:=[]) (v:=.cO [.own 5,.own 3]) (H1:=[.gone,.gone,.gone,ls y.2,.list true true 3 ([r]:LI0),ls (y.1++[r])]) (by kernel_rfl) (.b t0 (.o mn (.b t1 (.o hi (.wG [.mv 0,.mv 1] hl (.o ml .er))))))) [.gc [5,3]] rfl
def nlA:Arg Unit where
 put _:=.nil .aP
 get v:=match v with
  |.nil .aP=>some ()
  |_=>none
 ok:=by
  intro v a hg A m h x hv;split at hg
  .exact hv
  .cases hg
abbrev wSn(d:Dg)(r:Int)(k:Int)(s:LI0×LI0)(x:List (Nat×PE aC)):aT aC:=⟨[(1,xi r),(2,xo 0),(3,xo 1),(4,.loc 0 0),(10,.loc 1 0),(11,xi k)]++x,[d.ps,(aj d r).ps],[ls s.1,ls s.2]⟩
theorem sr0{d:Dg}:JE d ([],[]):=⟨a5L,by simp,a5L,by simp⟩
def srN(d:Dg)(r:Int):LI0:=(jW d 6002 r ([],[])).1
def srE(d:Dg)(r:Int):LI0:=(jW d 6002 r ([],[])).2
def a1J:fB aC:=cu 133 (a4 dA iA nlA nlA) (dS (a2 oh oh)) (fun p=>(srN p.1 p.2.1,srE p.1 p.2.1)) (fun p=>[Ce p.1,jC p.1 p.2.1 p.1.au.length,p.1.au.length<=6000]) aax
theorem ajT:Gd a1J:=aph.deep 6001 fun n hn hO p hp=>by
 obtain⟨d,r,_,_⟩:=p;have h:Ce d:=hp _ iD;have hr:jC d r d.au.length:=hp _ xM;have hm:d.au.length<=6000:=hp _ hh2;obtain⟨N,rfl⟩:∃N,n=N+6001:=⟨n-6001,by omega⟩;have hO:∀m,N<=m->Ok m aax:=fun m hm=>hO m (by omega);have Gg:=hO (N+6001) (by omega);by_cases c:r<0
 .have t0:decide (r<0)=true:=by simpa using c
  have t1:(!(decide (ji r∈([]:LI0))))=true:=by simp
  have e:jW d 6002 r ([],[])=([],[ji r]):=by rw[jW,a0u t0,a0u t1];rfl
  show pO X0 Qp _ _ _ ((dS (a2 oh oh)).put ((jW d 6002 r ([],[])).1,(jW d 6002 r ([],[])).2)) [];rw[e];exact aO Gg (.b t0 (.o le0 (.b t1 (.o le1 (.rn (.cO [.nil .aP,.dJ 3 ([ji r]:LI0) false]) rfl)))))
 .have t0:decide (r<0)=false:=by simpa using c
  have t1:decide (r∈([]:LI0))=false:=by simp
  have hi:fF r d.au.length:=⟨by omega,hr.1⟩;obtain⟨i1,i2⟩:=id hi;have aQ:r.toNat<d.au.length:=by omega
  have hl:Ii (N+6001) 133 0 0 (wSn d r 0 ([],[]) []) (.exit 0) (wSn d r (aj d r).ay.length (aU (fun k y=>jW d 6001 ((aj d r).ay.getD k 0) y) (aj d r).ay.length 0 ([],[])) [(40,xl false)]):=by
   refine vM (σ:=LI0×LI0) (N:=(aj d r).ay.length) (g:=fun k y=>jW d 6001 ((aj d r).ay.getD k 0) y) (s0:=(([],[]):LI0×LI0)) (st:=fun k y=>wSn d r k y []) (fin:=fun y=>wSn d r (aj d r).ay.length y [(40,xl false)]) (fun _ y=>JE d y) (by kernel_rfl) (m12 (h.JD r.toNat aQ)) sr0 (fun k y hk hy=>?_) (fun k y hk hy m e p g=>?_) (fun y _=>aN Gg (.b (fH (aj d r).ay.length) .ex))
   .have hk:jC d ((aj d r).ay.getD k 0) r.toNat:=h.zS r.toNat aQ k hk;have k1:(aj d r).ay.getD k 0<(r.toNat:Int):=hk.1;exact KU h 6001 _ y hy ⟨by omega,hk.2⟩
   .have kN:jC d ((aj d r).ay.getD k 0) r.toNat:=h.zS r.toNat aQ k hk;have k1:(aj d r).ay.getD k 0<(r.toNat:Int):=kN.1;have hs:=sSr hO h 6001 ((aj d r).ay.getD k 0) y (by omega) hy ⟨by omega,kN.2⟩ (by omega);exact aN Gg (.b (bF hk) (.o (aG hk) (.fr [0,1] hs (.goG [.gc [2,3]] g))))
  have sk:=KU h 6002 r ([],[]) sr0 hr;have e:jW d 6002 r ([],[])=((aU (fun k y=>jW d 6001 ((aj d r).ay.getD k 0) y) (aj d r).ay.length 0 ([],[])).1++[r],(aU (fun k y=>jW d 6001 ((aj d r).ay.getD k 0) y) (aj d r).ay.length 0 ([],[])).2):=by rw[jW,a0q (by rw[t0];simp),a0q (by rw[t1];simp)]
  show pO X0 Qp _ _ _ ((dS (a2 oh oh)).put ((jW d 6002 r ([],[])).1,(jW d 6002 r ([],[])).2)) [];rw[e]at sk ⊢;generalize aU (fun k y=>jW d 6001 ((aj d r).ay.getD k 0) y) (aj d r).ay.length 0 ([],[])=y at hl sk;have sl:(y.1++[r]).length<=d.au.length:=sk.len.1;have m1:=h.au;have ml:y.1.length+[r].length<=ah:=by rw[<-a1o];omega
  exact aO Gg (.b t0 (.o le0 (.b t1 (.o hi (.wG [.FZ 2 3,.FZ 3 3] hl (.o ml .rr))))))
open Go Tw Pv dB
abbrev cD1(d:Dg)(i j:Nat):Bool:=decide (d.aK.getD j V0=d.aK.getD i V0)
abbrev cD0(d:Dg)(i:Nat):Bool:=if kU (bK (cD1 d i) i)=true then false else true
abbrev cD3(d:Dg)(i j:Nat):Bool:=if((fE d j).var==(fE d i).var)=true then decide ((fE d j).ay=(fE d i).ay)else false
abbrev cD2(d:Dg)(i:Nat):Bool:=if xC (fE d i)=true then true else if kU (bK (cD3 d i) i)=true then false else true
abbrev wD(d:Dg)(x:List (Nat×PE aC)):aT aC:=⟨[(1,.loc 0 0)]++x,[d.ps],[]⟩
abbrev rD(d:Dg):Ex×aT aC:=(.ret,⟨[(2,xl false)],[d.ps],[]⟩)
def zD1(d:Dg)(i:Nat):Unit⊕Nat->Ex×aT aC
 |.inl _=>(.exit 2,wD d [(3,xi i),(4,xi i),(18,xl false)])
 |.inr _=>rD d
theorem lD1{n:Nat}{fV:fB aC}(hO:Ok n fV){d:Dg}(h:DgL d){i:Nat}(hi:i<d.aK.length):Lp n 84 1 (wD d [(3,xi i),(4,xi 0)]) (zD1 d i (bK (cD1 d i) i)).1 (zD1 d i (bK (cD1 d i) i)).2:=
 jh (st:=fun j _=>wD d [(3,xi i),(4,xi j)]) (fun _ _=>True) (by kernel_rfl) (by have:=h.aK;omega) trivial (fun j s m hj _ ih=>aN hO (.b (bF hj) (.o (aG (show j<d.aK.length by omega)) (.o (aG hi) (.q (.bool (cD1 d i j)) (eqV (.tmp 25) (.tmp 30) (d.aK.getD j V0) (d.aK.getD i V0)) (.ls (.ou nofun) (.nx (ih _ trivial)))))))) (fun s _=>aN hO (.b (fH i) (.ou nofun)))
def zD0(d:Dg):Unit⊕Nat->Ex×aT aC
 |.inl _=>(.exit 0,wD d [(3,xi d.aK.length),(13,xl false)])
 |.inr _=>rD d
theorem lD0{n:Nat}{fV:fB aC}(hO:Ok n fV){d:Dg}(h:DgL d):Lp n 84 0 (wD d [(3,xi 0)]) (zD0 d (bK (cD0 d) d.aK.length)).1 (zD0 d (bK (cD0 d) d.aK.length)).2:=
 jh (st:=fun i _=>wD d [(3,xi i)]) (fun _ _=>True) (by kernel_rfl) h.aK trivial (fun i s m hi _ ih=>by
  have hl:=lD1 hO h hi;unfold gS cD0;cases e:kU (bK (cD1 d i) i)
  .exact aN hO (.b (bF hi) (.w (l7 hl 0 e) (.ou nofun)))
  .exact aN hO (.b (bF hi) (.w (kZ hl () e) (.nx (ih _ trivial))))
  ) (fun s _=>aN hO (.b (fH d.aK.length) (.ou nofun)))
def zD3(d:Dg)(i:Nat):Unit⊕Nat->Ex×aT aC
 |.inl _=>(.exit 6,wD d [(5,xi i),(6,xi i),(47,xl false)])
 |.inr _=>rD d
theorem lD3{n:Nat}(hO:Ok n a1J){d:Dg}(h:Ce d){i:Nat}(hi:i<d.au.length):Lp n 84 3 (wD d [(5,xi i),(6,xi 0)]) (zD3 d i (bK (cD3 d i) i)).1 (zD3 d i (bK (cD3 d i) i)).2:=
 jh (st:=fun j _=>wD d [(5,xi i),(6,xi j)]) (fun _ _=>True) (by kernel_rfl) (by have:=h.au;omega) trivial (fun j s m hj _ ih=>by
  have sD:j<d.au.length:=by omega
  unfold gS cD3;cases e:((fE d j).var==(fE d i).var)
  .exact aN hO (.b (bF hj) (.o (aG sD) (.o (aG hi) (.b e (.nx (ih _ trivial))))))
  .exact aN hO (.b (bF hj) (.o (aG sD) (.o (aG hi) (.b e (.o (aG sD) (.o (aG hi) (.o (m12 (h.JD j sD)) (.ls (.ou nofun) (.nx (ih _ trivial))))))))))
  ) (fun s _=>aN hO (.b (fH i) (.ou nofun)))
def zD2(d:Dg):Unit⊕Nat->Ex×aT aC
 |.inl _=>(.exit 4,wD d [(5,xi d.au.length),(36,xl false)])
 |.inr _=>rD d
theorem lD2{n:Nat}(hO:Ok n a1J){d:Dg}(h:Ce d):Lp n 84 2 (wD d [(5,xi 0)]) (zD2 d (bK (cD2 d) d.au.length)).1 (zD2 d (bK (cD2 d) d.au.length)).2:=
 jh (st:=fun i _=>wD d [(5,xi i)]) (fun _ _=>True) (by kernel_rfl) h.au trivial (fun i s m hi _ ih=>by
  have hl:=lD3 hO h hi;unfold gS cD2;cases e1:xC (fE d i)
  .cases e:kU (bK (cD3 d i) i)
   .exact aN hO (.b (bF hi) (.o (aG hi) (.o (m12 (h.JD i hi)) (.b e1 (.w (l7 hl 0 e) (.ou nofun))))))
   .exact aN hO (.b (bF hi) (.o (aG hi) (.o (m12 (h.JD i hi)) (.b e1 (.w (kZ hl () e) (.nx (ih _ trivial)))))))
  .exact aN hO (.b (bF hi) (.o (aG hi) (.o (m12 (h.JD i hi)) (.b e1 (.ou nofun)))))
  ) (fun s _=>aN hO (.b (fH d.au.length) (.ou nofun)))
def ql(d:Dg):Bool:=if kU (bK (cD0 d) d.aK.length)=true then(if kU (bK (cD2 d) d.au.length)=true then(if zQ (srN d d.root) (d.au.length:Int)=true then zQ (srE d d.root) (d.aK.length:Int)else false)else false)else false
theorem a1K{d:Dg}(h:Ce d):(srN d d.root).length<=ah∧(srE d d.root).length<=ah:=by have hl:=(KU h 6002 d.root ([],[]) sr0 h.root).len;exact⟨a4Z hl.1 h.au,a4Z hl.2 h.aK⟩
def ajU:fB aC:=cu 84 (a1 dA) tA (fun p=>ql p) (fun p=>[Ce p,p.au.length<=6000]) a1J
theorem apj:Gd ajU:=ajT.add fun n hO p hp=>aO hO (.zh (fun h=>.w (kZ (lD0 hO (show Ce p from hp _ iD).toDgL) () h) (.zh (fun h2=>.w (kZ (lD2 hO (show Ce p from hp _ iD)) () h2) (.o (hp _ iD) (.o (show Ce p from hp _ iD).root (.o (hp _ xM) (.o (a1K (hp _ iD)).1 (.ss (.o (a1K (hp _ iD)).2 .rr) .rr)))))) fun h2=>.w (l7 (lD2 hO (show Ce p from hp _ iD)) 0 h2) .rr)) fun h=>.w (l7 (lD0 hO (show Ce p from hp _ iD).toDgL) 0 h) .rr)
theorem XL{d:Dg}(hm:d.aK.length<=ah){r:Int}{b:Nat}(h:iR d r b=true):jC d r b:=by
 unfold iR at h;by_cases c:0<=r
 .rw[a0u (by simpa using c)]at h;exact⟨by simpa using h,fun h2=>by omega⟩
 rw[a0q (by simpa using c),uw]at h;have e:i64.wrap ((d.aK.length:Int)-1)=(d.aK.length:Int)-1:=by unfold ah at hm;exact eP (by omega) (by omega)
 rw[e]at h;obtain⟨h1,h2⟩:=h;exact⟨by omega,fun _=>⟨h1,show ji r<_ by show i64.wrap (-1-r)<_;omega⟩⟩
theorem a7k{d:Dg}(h:DgL d)(hl:lX d=true):Ce d:=by
 unfold lX at hl;split at hl
 rotate_left
 .cases hl
 split at hl
 rotate_left
 .cases hl
 rename_i h1 h2;have h2:=eG.1 h2;have key:∀i,i<d.au.length->jq (fE d i).var 0 (xw d.aA)=true∧(((fE d i).ay.length:Int) != d.aA.getD (fE d i).var.toNat 0)=false∧kU (bK (cLk d i) (fE d i).ay.length)=true:=fun i hi=>by
  have:=h2 i hi;unfold ZX at this;split at this
  .cases this
  split at this
  .cases this
  split at this
  .rename_i a b c;exact⟨by simpa using a,by simpa using b,c⟩
  cases this
 refine⟨h,fun i hi k hk=>?_,fun i hi=>?_,fun i hi=>?_,fun i hi=>?_,XL h.aK hl⟩
 .have:=eG.1 (key i hi).2.2 k hk;unfold cLk at this;split at this
  .cases this
  rename_i a;exact XL h.aK (by simpa using a)
 .exact XK h.bI (JC h.bI (key i hi).1) (key i hi).2.1
 .exact JC h.bI (key i hi).1
 simpa using(key i hi).2.1
theorem jK{d:Dg}(ho:d.aH.length<=ah)(he:d.aK.length<=ah)(h:(aZ d != 0)=false):Ce d∧d.au.length<=6000:=by
 unfold aZ at h;split at h
 .rename_i h1;simp at h h1;exact absurd h h1
 split at h
 .cases h
 split at h
 .cases h
 rename_i h1 h2 h3;have h2:decide ((d.au.length:Int)>6000)=false:=by simpa using h2
 exact⟨a7k ⟨ho,V7 h2,he,Bd (by simpa using h1)⟩ (by simpa using h3),by simp at h2;omega⟩
def vN(d:Dg):Int:=if(aZ d != 0)=true then aZ d else if(!(ql d))=true then 4 else 0
def ajW:fB aC:=cu 22 (a1 dA) iA (fun p=>vN p) (fun p=>[p.aH.length<=ah,p.aK.length<=ah]) ajU
theorem apk:Gd ajW:=apj.add fun n hO p hp=>aO hO (.o (hp _ iD) (.o (hp _ xM) (.sh (fun _=>.rr) fun h=>.o (jK (hp _ iD) (hp _ xM) h).1 (.o (jK (hp _ iD) (hp _ xM) h).2 (.ss .rr .rr)))))
open Go Tw Pv dB
def gAt(d:Dg)(p:LI0)(r:Int):Int⊕Int:=if decide (r>=0)=true then .inl ((aj d r).ay.getD (p.getD (aj d r).var.toNat 0).toNat 0)else .inr r
def PK(d:Dg)(p:LI0):Nat->Int->Int
 | 0,r=>r
 |F+1,r=>if r<0 then r else PK d p F ((aj d r).ay.getD (p.getD (aj d r).var.toNat 0).toNat 0)
theorem ad1{d:Dg}{p:LI0}:∀(F:Nat) (r:Int),PK d p F r<0->itF (gAt d p) (F+1) r=some (PK d p F r)
 | 0,r,h=>by
  have h:r<0:=h;have e:gAt d p r=.inr r:=by unfold gAt;rw[a0q (by simpa using h)]
  rw[itF,e];rfl
 |F+1,r,h=>by
  by_cases c:r<0
  .have e:gAt d p r=.inr r:=by unfold gAt;rw[a0q (by simpa using c)]
   rw[itF,e,PK,a0u c]
  have e:gAt d p r=.inl ((aj d r).ay.getD (p.getD (aj d r).var.toNat 0).toNat 0):=by unfold gAt;rw[a0u (by simp;omega)]
  rw[PK,a0q c]at h;rw[itF,e,PK,a0q c];exact ad1 F _ h
theorem PL{d:Dg}(h:Ce d){p:LI0}(hp:jf d.aA p=true){r:Int}(hr:fF r d.au.length):fF (aj d r).var p.length∧fF (p.getD (aj d r).var.toNat 0) (aj d r).ay.length∧jC d ((aj d r).ay.getD (p.getD (aj d r).var.toNat 0).toNat 0) r.toNat:=by
 obtain⟨r1,r2⟩:=hr;have hl:r.toNat<d.au.length:=by omega
 have hv:=h.var r.toNat hl;have hk:=h.ksz r.toNat hl;obtain⟨v1,v2⟩:=hv;obtain⟨p1,p2⟩:=ny.1 hp;have p3:=p2 (aj d r).var.toNat (by show(fE d r.toNat).var.toNat<_;omega);have k1:fF (p.getD (aj d r).var.toNat 0) (aj d r).ay.length:=⟨p3.1,by show _<((fE d r.toNat).ay.length:Int);rw[hk];exact p3.2⟩;refine⟨⟨v1,by rw[p1];exact v2⟩,k1,h.zS r.toNat hl _ ?_⟩;obtain⟨k2,k3⟩:=k1;show _<(aj d r).ay.length;omega
theorem V8{d:Dg}(h:Ce d){p:LI0}(hp:jf d.aA p=true):∀(F:Nat) (r:Int),r<F->jC d r d.au.length->jC d (PK d p F r) 0
 | 0,r,hr,hk=>⟨by show r<((0:Nat):Int);omega,hk.2⟩
 |F+1,r,hr,hk=>by
  unfold PK;split
  .rename_i c;exact⟨by show r<((0:Nat):Int);omega,hk.2⟩
  rename_i c;have:=(PL h hp (r:=r) ⟨by omega,hk.1⟩).2.2;obtain⟨a1,a2⟩:=this;have a3:r<(d.au.length:Int):=hk.1;exact V8 h hp F _ (by omega) ⟨by omega,a2⟩
abbrev atR(d:Dg)(p:LI0):Int:=PK d p 6001 d.root
def Ci(d:Dg)(p:LI0):V:=d.aK.getD (ji (atR d p)).toNat V0
abbrev wAt(d:Dg)(p:LI0)(r:Int)(x:List (Nat×PE aC)):aT aC:=⟨[(1,xL 3 p),(2,.loc 0 0),(4,.loc 1 0),(5,xi r)]++x,[d.ps,V0.ps],[]⟩
theorem lAt{n:Nat}{fV:fB aC}(hO:Ok n fV){d:Dg}(h:Ce d)(hm:d.au.length<=6000){p:LI0}(hp:jf d.aA p=true):Lp n 98 0 (wAt d p d.root []) (.exit 0) (wAt d p (atR d p) [(9,xl false)]):=by
 have h0:d.root<(d.au.length:Int):=h.root.1;have ha:=V8 h hp 6001 d.root (by omega) h.root;have Qy:=ad1 6001 d.root ha.1;refine ZW (st:=fun r=>wAt d p r []) (g:=gAt d p) (out:=fun r=>(.exit 0,wAt d p r [(9,xl false)])) (fun r=>jC d r d.au.length) Qy (by kernel_rfl) (by decide) h.root ?_ ?_
 .intro r r1 hr e;unfold gAt at e;split at e
  .rename_i c;have c:0<=r:=(by simpa using c);cases e;have:=(PL h hp (r:=r) ⟨c,hr.1⟩).2.2;have a3:r<(d.au.length:Int):=hr.1;obtain⟨a1,a2⟩:=this;exact⟨by omega,a2⟩
  cases e
 intro r m r' hr ih;by_cases c:0<=r
 .have hk:=PL h hp (r:=r) ⟨c,hr.1⟩;have t1:decide (r>=0)=true:=by simpa using c
  have e:gAt d p r=.inl ((aj d r).ay.getD (p.getD (aj d r).var.toNat 0).toNat 0):=by unfold gAt;rw[a0u t1]
  have g:=ih _ e;rw[e];have vC:fF r d.au.length:=⟨c,hr.1⟩;exact aN hO (.b t1 (.o vC (.o vC (.o hk.1 (.o hk.2.1 (.go g))))))
 have t1:decide (r>=0)=false:=by simpa using c
 have e:gAt d p r=.inr r:=by unfold gAt;rw[a0q (by rw[t1];simp)]
 rw[e];dsimp only[Du];exact aN hO (.b t1 .ex)
theorem aaB{d:Dg}(h:Ce d)(hm:d.au.length<=6000){p:LI0}(hp:jf d.aA p=true):fF (ji (atR d p)) d.aK.length:=by have h0:d.root<(d.au.length:Int):=h.root.1;have ha:=V8 h hp 6001 d.root (by omega) h.root;exact ha.2 ha.1
def ajX:fB aC:=cu 98 (a2 dA oh) vA (fun p=>Ci p.1 p.2) (fun p=>[Ce p.1,p.1.au.length<=6000,jf p.1.aA p.2=true]) ajW
theorem apl:Gd ajX:=apk.add fun n hO p hp=>aO hO (.w (lAt hO (hp _ iD) (hp _ xM) (hp _ hh2)) (.o (aaB (hp _ iD) (hp _ xM) (hp _ hh2)) .rr))
open Go Tw Pv dB
theorem aaC{A:Nat->Prop}{m:List MB}{h:List HB}{l:LI0}{cs:List TV}(hr:eF X0 Qp A m h 3 l cs 0 1)(hc:cs.length=l.length):cs=l.map fun n=>TV.int .i64 n:=by
 apply a9J (by simp[hc]);intro j h1 h2;have hj:j<l.length:=by omega
 have:=hr.2.2 j l[j] 0 (.int .i64 l[j]) cs[j] (a0n hj) rfl (by rw[a0a];exact⟨by omega,by simp⟩);rw[this.a1w];simp
theorem Tn:∀l:LI0,KP (l.map fun n=>TV.int .i64 n)=some l
 | []=>rfl
 |a::l=>by simp[KP,Tn l]
theorem Tq{A:Nat->Prop}{m:List MB}{h:List HB}(l:LI0):eF X0 Qp A m h 3 l (l.map fun n=>TV.int .i64 n) 0 1:=by
 refine⟨fun j a _=>rfl,by simp only[a4A,ahc,a3I];exact a0E _,fun j a i c v hj hi hv=>?_⟩;have sD:=(a0a.1 hj).1;cases i with
 |zero=>
  have hi:some (PV.int .i64 a)=some c:=hi;cases hi;have hj:(l:LI0)[j]? = some a:=hj;rw[a3I,ahc,adR,a4y,hj]at hv;have hv:some (TV.int .i64 a)=some v:=hv;cases hv;exact .int _ _
 |succ i=>have hi:([]:List (PV aC))[i]? = some c:=hi;simp at hi
theorem KW:dH Qp 3=some 1:=by kernel_rfl
theorem a7l(n:Nat)(x:TV)(h:List HB):lC Qp T LL (n+1) (.fn 137 [] []) [x] h=P6 137 (.fn 137 [] []) [x] h:=rfl
theorem aaD{f c:Nat}{h:List HB}{kk BJ:BK}{cs:List TV}{l:LI0}{e:Bool}(hb:h[c]? = some (.cells kk cs))(hk:Ag kk true=some BJ)(Rt:cs=l.map fun n=>TV.int .i64 n)(h0:0<l.length)(h1:l.length<=2^20) :
  P6 f (.fn f [] []) [.aP c 0 l.length l.length 1 e] h=some (.cO [],h.set c (.cells BJ ((gX l).map fun n=>TV.int .i64 n)),[c]):=by
 have pV:cs.length=l.length:=by rw[Rt,a4A]
 have him:KP cs=some l:=by rw[Rt];exact Tn l
 generalize l.length=n at *;obtain⟨j,rfl⟩:∃j,n=j+1:=⟨n-1,by omega⟩;simp only[P6,a6I,a1I,hb,hk,him,pV,h0,h1,adg]
theorem ad2{n:Nat}{k ex:Bool}(l:LI0)(hl:l.length<=2^20):iW (n+1) (.fn 137 [] []) [.own 0] [.list k ex 3 l] (.cO []) [.list k ex 3 (gX l)]:=by
 intro A m h tf qN hr hf hx;obtain⟨x,r,rfl,h1,h2⟩:=hx.inv;have:=h2.inv0;subst this;obtain⟨g1,g2⟩:=aa9 hr (i:=0) (k:=k) (ex:=ex) (t:=3) (l:=l) rfl h1;have htf:=hf.UQ;subst htf;show ∃w h1 ws m1,lC Qp T LL (n+1) _ _ h=_∧_;rw[a7l];have apm:gX ([]:LI0)=[]:=by simp[gX]
 have hE:∀h0:(l:LI0)=[],gX l=l:=fun h0=>by rw[h0];exact apm
 rcases af4 g2 with⟨h0,rfl⟩|⟨h0,b,off,sz,cs,rfl,p0,p1,p2,p3,p4⟩|⟨p1,c,sz,e,kk,cs,rfl,p2,p3,p4,p5,p6,p7,p8,p9⟩
 .rw[hE h0];exact⟨.cO [],h,[],m,rfl,hr,.cO rfl (fun i x y hx=>by simp at hx),.refl,.refl,fun b hb=>by cases hb⟩
 .rw[hE h0];exact⟨.cO [],h,[],m,rfl,hr,.cO rfl (fun i x y hx=>by simp at hx),.refl,.refl,fun b hb=>by cases hb⟩
 rw[KW]at p2;cases p2;have p8:cs.length=(l:LI0).length*1:=p8;have pV:cs.length=l.length:=by omega
 have Rt:=aaC p9 pV;have hn0:0<l.length:=by cases l with|nil=>exact absurd rfl p1|cons=>simp
 obtain⟨BJ,yj,aex,hko⟩:=Ji p5;have aQ:=(a0a.1 p4).1;have uJ:(MB.dJ (TV.aP c 0 l.length l.length 1 e)).own=some c:=by simp only[MB.own];rw[a0q (by omega)]
 have hsl:(gX l).length=l.length:=by unfold gX;rw[ab7]
 have iF:gX l≠[]:=fun e0=>by rw[e0]at hsl;simp at hsl;omega
 obtain⟨q1,q2⟩:=hr.set (i:=0) (c:=c) (pb:=.list k ex 3 (gX l)) (hb:=.cells BJ ((gX l).map fun n=>TV.int .i64 n)) g1 uJ
  (fun X3 KA=>⟨_,by simp only[aX];rw[a1E aQ],by
   simp only[aX,p4,a01]at KA;subst KA;rw[a4A,hsl,pV];exact a0E _⟩)
  (fun hF=>by have r:=LR.some (X:=X0) (P:=Qp) (A:=AA A m) (m:=m) (k:=k) (ex:=ex) (e:=e) (t:=3) (b:=c) (kk:=BJ) iF KW (by decide) (by rw[a1E aQ]) aex (fun e0=>hko (p6 e0)) p7 (by rw[a4A,ahc];rfl) (Tq (gX l));have apn:@List.length (X0.Γ 3) (gX l)=l.length:=hsl;rw[apn]at r;exact r)
 refine⟨.cO [],_,[c],m,?_,q1,.cO rfl (fun i x y hx=>by simp at hx),q2,.refl,fun d hd=>?_⟩
 .exact aaD p4 yj Rt hn0 hl
 simp at hd;subst hd;exact bf g1 uJ
end Go.Proofs.YtmobpoiejckagaaGreat
namespace Pv
open Go Tw
variable {X:kP} {P:LI1}
theorem pO.aaE(hX:bP X P){call:aY}{f:FuncId}{xs vs:List (PV X.Γ)}{v v':PV X.Γ}{ext ext':List (PB X.Γ)}(hc:pO X P call f vs v ext)(hv:views [] ([]++xs++[])=some vs)(hs:qZ X 0 ext=some ext')
  (e:shift 0 v=v') (he:(if xU v||ext.any (hasB X)then bn (kG.ku ([]++xs++[])) []else [])=([]:List (PB X.Γ))):bZ X P call (.fn f [] []) xs [] v' ext':=by
 subst e;intro A m h tf qN hr hf hx;have htf:=hf.UQ;subst htf;obtain⟨w,h',m1,c1,c2,c3,c4,c5⟩:=I4 hX hc hr hv hs (t1:=[]) (t3:=[]) .nil hx .nil;rw[he]at c2;exact⟨w,h',[],m1,c1,c2,c3,c4,c5,fun b hb=>by cases hb⟩
end Pv
namespace Go.Proofs.YtmobpoiejckagaaGreat
open Go Tw Pv dB
abbrev lsI(l:LI0):List (PB aC):=[.list false false 3 l]
theorem a3L(n:Nat)(h:List HB):Un Qp T (iC n) LL 125 [.nil .aP] h=some (.nil .aP,h,[]):=by kernel_rfl
theorem a3M(n b off cap:Nat)(ex:Bool)(h:List HB):Un Qp T (iC n) LL 125 [.aP b off 0 cap 1 ex] h=some (.aP h.length 0 0 0 1 true,h++[.cells .own []],[]):=by kernel_rfl
theorem afx{n:Nat}:pO X0 Qp (iC (n+1)) 125 [.dJ 3 ([]:LI0) false] (.own 0) (lsI []):=by
 intro A h first args cap IQ hv
 obtain⟨x,r,e,h1,h2⟩:=hv.inv;have:=h2.inv0;subst this;have hun:lC Qp T LL (n+1) (.fn 125 first cap) args h=Un Qp T (iC n) LL 125 [x] h:=by rw[<-e];show lC Qp T LL (n+1) _ _ _=_;rw[lC,a0q (by decide),a0q (by decide)]
 rcases a6C h1 with rfl|⟨b,off,cap',sz,ex,cs,rfl,a1,a2,a3,a4,a5⟩
 .exact⟨.nil .aP,h,[.dJ (.nil .aP)],by rw[<-a3L n h,<-hun],Xn IQ .nil rfl,.own rfl rfl,⟨a0E _,fun _ _ _=>rfl,fun b hb=>by simp[bC,MB.own]at hb,fun b cs hc=>⟨cs,hc,a0E _⟩⟩⟩
 rw[KW]at a3;cases a3;have hc:aX (h++[HB.cells .own []]) h.length=some []:=by unfold aX;rw[a0G (a0E _),agZ];rfl
 refine⟨.aP h.length 0 0 0 1 true,h++[.cells .own []],[.dJ (.aP h.length 0 0 0 1 true)],by rw[<-a3M n b off cap' ex h,<-hun],Xn (fun b hb=>IQ b (by simp at hb;omega)) (.emp ⟨IQ _ (a0E _),by simp[bC,MB.own]⟩ hc (a0E _) KW (by decide)) (by simp[MB.own]),.own rfl rfl,⟨by simp,fun b hb _=>by rw[a0p hb],fun b hb=>by simp[bC,MB.own]at hb,fun b cs hc=>⟨cs,?_,a0E _⟩⟩⟩;rw[gq (a0p (fZ hc)),hc]
def ad3:fB aC:=ZN 125 (a1 oh) (fun _=>.own 0) (fun p=>lsI p) (fun p=>[p.length<=ah]) ajX
theorem ajZ:Gd ad3:=apl.Xj 0 fun n _ hO p hp=>by
 have hl:p.length<=ah:=hp _ iD;by_cases h:p=[]
 .subst h;exact afx
 .have h2:([]:LI0).length+p.length<=ah:=by simpa using hl
  exact pO.gs hX (BP hX (hO n (by omega)) (v:=.own 1) (H:=[.gone,.list true false 3 p]) (by kernel_rfl) (.o h (.b (rfl:false=false) (.o h2 .er)))) [.gc [1],.flag 0] rfl
abbrev aaF(m:Nat)(i:Int)(l:LI0)(x:List (Nat×PE aC)):aT aC:=⟨[(3,xo 0),(7,xi m),(8,xi i)]++x,[],[.list true true 3 l]⟩
theorem a7m(m:Nat):aU (fun k (l:LI0)=>l.set k (k:Int)) m 0 (List.replicate m 0)=dO m:=by
 have:=bU (g:=fun k (l:LI0)=>l.set k (k:Int)) (m:=m) (k:=0) (s:=List.replicate m 0) (fun k l=>l.length=m∧∀j,j<k->l.getD j 0=(j:Int)) ⟨by simp,by simp⟩ (fun j l _ hj h=>⟨by simp[h.1],fun i hi=>by
  rw[dB.zA (by omega)];split
  .rename_i e;rw[e]
  exact h.2 i (by omega)⟩)
 rw[rO (d:=0) (by rw[this.1,lW])];intro j hj;have sD:j<m:=by have:=this.1;omega
 rw[this.2 j (by omega)];simp[dO,List.getD,a4y,ae2,sD]
theorem apo{n:Nat}{fV:fB aC}(hO:Ok n fV)(m:Nat)(hm:m<=ah):Lp n 159 0 (aaF m 0 (List.replicate m 0) []) (.exit 0) (aaF m m (dO m) [(9,xl false)]):=by rw[<-a7m];exact vM (σ:=LI0) (N:=m) (g:=fun k (l:LI0)=>l.set k (k:Int)) (s0:=List.replicate m 0) (st:=fun i (l:LI0)=>aaF m i l []) (fin:=fun(l:LI0)=>aaF m m l [(9,xl false)]) (fun _ (l:LI0)=>l.length=m) (by kernel_rfl) hm (by simp) (fun k l _ h=>by simp[h]) (fun k l hk hl j e p g=>aN hO (.b (bF hk) (.o (aG (show k<l.length by omega)) (.go g)))) (fun l _=>aN hO (.b (fH m) .ex))
def ad4:fB aC:=cu 159 (a1 iA) oh (fun p=>dO p.toNat) (fun p=>[0<=p,p<=(ah:Int)]) ad3
theorem ak0:Gd ad4:=ajZ.add fun n hO p hp=>by have h0:0<=p:=hp _ iD;have h1:p<=(ah:Int):=hp _ xM;obtain⟨m,rfl⟩:∃m:Nat,p=(m:Int):=⟨p.toNat,by omega⟩;exact aO hO (.o (rfl:(m:Int)=(m:Int)) (.o h0 (.o h1 (.w (apo hO m (by omega)) .rr))))
abbrev afy(a b:LI0)(i:Int)(x:List (Nat×PE aC)):aT aC:=⟨[(0,xL 3 a),(1,xL 3 b),(12,xi a.length),(13,xi i)]++x,[],[]⟩
def ak1(a b:LI0):Unit⊕Nat->Ex×aT aC
 |.inl _=>(.exit 0,afy a b a.length [(14,xl false)])
 |.inr _=>(.ret,⟨[(4,xl false)],[],[]⟩)
theorem ak2{n:Nat}{fV:fB aC}(hO:Ok n fV)(a b:LI0)(hl:a.length<=ah)(h:a.length=b.length):Lp n 158 0 (afy a b 0 []) (ak1 a b (bK (KR a b) a.length)).1 (ak1 a b (bK (KR a b) a.length)).2:=
 jh (st:=fun i _=>afy a b i []) (fun _ _=>True) (by kernel_rfl) hl trivial (fun k s m hk _ ih=>aN hO (.b (bF hk) (.o (aG hk) (.o (aG (h▸hk)) (.ls (.ou nofun) (.nx (ih _ trivial))))))) (fun s _=>aN hO (.b (fH a.length) (.ou nofun)))
def ad5:fB aC:=cu 158 (a2 oh oh) tA (fun p=>decide (p.1=p.2)) (fun p=>[p.1.length<=ah]) ad4
theorem ak3:Gd ad5:=ak0.add fun n hO p hp=>aO hO (.s (fun h=>.v false (a7a h).symm) fun h=>.z (c:=kU (bK (KR p.1 p.2) p.1.length)) (fun h2=>.w (kZ (ak2 hO p.1 p.2 (hp _ iD) (lU h)) () h2) (.v true (by rw[<-Es (lU h),h2]))) fun h2=>.w (l7 (ak2 hO p.1 p.2 (hp _ iD) (lU h)) 0 h2) (.v false (by rw[<-Es (lU h),h2])))
def a7n:fB aC:=cu 157 (a3 iA iA oh) tA (fun p=>nD p.2.2 p.1 p.2.1) (fun p=>[p.2.2.length<=ah]) ad5
theorem ak4:Gd a7n:=ak3.deep 3 fun n hn hO p hp=>by have h1:∀x,bZ X0 Qp (iC (n-3+1)) (.fn 188 [] [.ptr 0 0 1,.ptr 1 0 1]) [.int .i64 x] [.cells [.int .i64 p.1],.cells [.int .i64 p.2.1]] (tA.put (wz x p.1 p.2.1)) [.cells [.int .i64 p.1],.cells [.int .i64 p.2.1]]:=fun x=>jr gK (first:=[]) (.ssh (fun _=>.sr) (fun _=>.sr));obtain⟨n,rfl⟩:∃k,n=k+3:=⟨n-3,by omega⟩;rw[show n+3-3+1=n+1 by omega]at h1;have h2:=aiU (n:=n+2) (by omega) (g:=fun x=>wz x p.1 p.2.1) h1 p.2.2 (hp _ iD);exact aO (hO _ (by omega)) (.k h2 (.v (!(nC (fun x=>wz x p.1 p.2.1) p.2.2)) (by rw[Ep];rfl)))
def a1L(s:LI0):Int:=aU (fun k n=>i64.wrap (n*s.getD k 0)) s.length 0 1
theorem XM:∀{s:LI0},mZ s->bg s<=12^s.length
 | [],_=>by decide
 |a::t,h=>by have h1:=XM h.tail;have h2:=iY h.tail;have h3:=h a (.head _);have h4:a*bg t<=12*bg t:=abI h3.2 (by omega);show a*bg t<=12^(t.length+1);rw[Int.pow_succ];omega
theorem ak5:∀{n:Nat},n<=6->(12:Int)^n<=2985984:=by decide
theorem a7o{s:LI0}(h:mZ s)(hl:s.length<=6):a1L s=bg s:=by
 have:=bU (g:=fun k n=>i64.wrap (n*s.getD k 0)) (m:=s.length) (k:=0) (s:=1) (fun k n=>n=bg (s.take k)) (by simp[bg]) (fun j n _ hj e=>by
  have sD:j<s.length:=by omega
  have e2:bg (s.take (j+1))=n*s.getD j 0:=by rw[a5r sD,zM,e];simp[bg,List.getD,a0n sD]
  have h1:=Fg h (j+1);have h2:1<=bg (s.take (j+1)):=iY fun a ha=>h a (a9e ha);have h3:=XM h;have h4:=ak5 hl;show i64.wrap (n*s.getD j 0)=_;rw[e2]at h1 h2 ⊢;exact eP (by omega) (by omega))
 rw[a1L,this];simp
abbrev aaG(a b:LI0)(p i:Int)(x:List (Nat×PE aC)):aT aC:=⟨[(0,xL 3 a),(1,xL 3 b),(5,xi p),(17,xL 3 a),(18,xi a.length),(19,xi i)]++x,[],[]⟩
theorem apq{n:Nat}{fV:fB aC}(hO:Ok n fV)(a b:LI0)(hl:a.length<=ah):Lp n 105 0 (aaG a b 1 0 []) (.exit 1) (aaG a b (a1L a) a.length [(20,xl false)]):=
 KO (st:=fun i n=>aaG a b n i []) (fin:=fun n=>aaG a b n a.length [(20,xl false)]) (fun _ _=>True) (by kernel_rfl) hl QH trivial (fun _ _ _ _=>trivial) (fun k s hk _ n e p h=>aN hO (.b (bF hk) (.o (aG hk) (.go h)))) (fun s _=>aN hO (.b (fH a.length) .ex))
theorem afz{n:Nat}(hO:Ok n a7n)(l:LI0)(hl:l.length<=ah):iW n (.fn 125 [] []) [.dJ 3 l false] [] (.own 0) (lsI l):=
 pO.aaE hX (hO 125 [.dJ 3 l false] (.own 0) (lsI l) [l.length<=ah] (by kernel_rfl) (List.forall_mem_singleton.2 hl)) rfl rfl rfl rfl
theorem a7p(n:Nat):(dO n).Pairwise fun a b=>decide (a<=b)=true:=by unfold dO;rw[afK];exact List.pairwise_lt_range.imp fun h=>by simp;omega
theorem a3N{n:Nat}{o:LI0}:decide (gX o=dO n)=iG n o:=by
 rw[a4J,a1n];have h2:=Tf n;have hp:(gX o).Perm o:=ae5 _ _;constructor
 .intro h;rw[h]at hp;unfold iG at h2 ⊢;rw[a1n]at h2 ⊢;exact⟨by rw[<-hp.length_eq,h2.1],fun a ha=>h2.2.1 a (hp.mem_iff.2 ha),hp.nodup_iff.1 h2.2.2⟩
 intro h;unfold iG at h h2;rw[a1n]at h h2;have e:o.Perm (dO n):=(a7H h.2.2 h2.2.2).2 fun a=>by
  have hm:∀x,0<=x∧x<(n:Int)->x∈dO n:=fun x hx=>by unfold dO;rw[a1k];exact⟨x.toNat,by rw[a4B];omega,by omega⟩
  constructor
  .exact fun ha=>hm a (h.2.1 a ha)
  intro ha;by_cases hc:a∈o
  .exact hc
  have:=adJ (l₁:=a::o) (l₂:=dO n) (a4z.2 ⟨hc,h.2.2⟩) (fun x hx=>by
   rcases a1F.1 hx with rfl|hx
   .exact ha
   exact hm x (h.2.1 x hx))
  rw[lW]at this;simp at this;omega
 refine List.Perm.eq_of_pairwise (le:=fun a b=>decide (a<=b)=true) (fun a b _ _ h1 h2=>by simp at h1 h2;omega) ?_ (a7p n) (hp.trans e);exact List.pairwise_mergeSort (fun a b c h1 h2=>by simp at h1 h2 ⊢;omega) (fun a b=>by simp;omega) o
def XO(s o:LI0):Int:=if decide ((s.length:Int)>6)=true then 5 else if(!(nD s 1 12))=true then 3 else if decide (a1L s>2000)=true then 5 else if(!(decide (gX o=dO s.length)))=true then 4 else 0
theorem XP(s o:LI0):XO s o=aV s o:=by
 rw[Py];unfold XO;rw[a3N];by_cases h1:6<s.length
 .rw[a0u (by simp;omega),a0u h1]
 rw[a0q (by simp;omega),a0q h1];have hw:nD s 1 12=decide (mZ s):=by
  unfold nD;rw[a4J,a97,List.any_eq_false,a1n];refine ac7 fun a=>ac7 fun _=>?_;unfold wz;split
  .rename_i h;simp at h ⊢;omega
  rename_i h;simp at h ⊢;omega
 rw[hw];by_cases h2:mZ s
 .rw[a0q (by simp[h2]),a0u h2,a7o h2 (by omega)];simp only[a1n,Int.not_lt,gt_iff_lt];split
  .rfl
  cases iG s.length o<;>simp
 rw[a0u (by simp[h2]),a0q h2]
def ad6:fB aC:=cu 105 (a2 oh oh) iA (fun p=>aV p.1 p.2) (fun p=>[p.1.length<=ah,p.2.length<=2^20]) a7n
theorem ak6:Gd ad6:=ak4.deep 1 fun n hn hO p hp=>by
 obtain⟨n,rfl⟩:∃k,n=k+1:=⟨n-1,by omega⟩;have hO:=hO (n+1) (by omega);have h1:p.1.length<=ah:=hp _ iD;have h2:p.2.length<=2^20:=hp _ xM;have h3:p.2.length<=ah:=by unfold ah;omega
 have h4:(dO p.1.length).length<=ah:=by rw[lW];exact h1
 have h5:(gX p.2).length<=ah:=by unfold gX;rw[ab7];exact h3
 show pO X0 Qp _ _ _ (iA.put (aV p.1 p.2)) _;rw[<-XP];exact aO hO (.ss .rr (.o h1 (.ss .rr (.w (apq hO p.1 p.2 h1) (.ss .rr (.fr [] (afz hO p.2 h3) (.fr [0] (ad2 (n:=n) (k:=false) (ex:=false) p.2 h2) (.o (show(0:Int)<=(p.1.length:Int) by omega) (.o (show(p.1.length:Int)<=(ah:Int) by omega) (.o h5 (.ss .rr .rr)))))))))))
open Go Tw Pv dB
theorem XQ{α:Type}(x:α):[x].length<=ah:=by unfold ah;simp
def qJ(v:V):Bool:=if decide (v.f>0)=true then(if decide (v.f<=4)=true then v.n==0 else false)else nD [v.n] (-9999) 9999
def ad7:fB aC:=cu 190 (a1 vA) tA (fun p=>qJ p) np ad6
theorem ak7:Gd ad7:=ak6.add fun n hO p hp=>aO hO (.ss (.ss .rr .rr) (.o (XQ p.n) .rr))
abbrev frA:UN X0 Qp (LI0×LI0):=a2 oh oh
abbrev cIx(l:LI0)(v:Int)(k:Nat):Bool:=v==l.getD k 0
abbrev afA(l:LI0)(v:Int)(i:Int)(x:List (Nat×PE aC)):aT aC:=⟨[(0,xL 3 l),(1,xi v),(7,xi l.length),(8,xi i)]++x,[],[]⟩
def z234(l:LI0)(v:Int):Unit⊕Nat->Ex×aT aC
 |.inl _=>(.exit 0,afA l v l.length [(9,xl false)])
 |.inr k=>(.ret,⟨[(4,xi k)],[],[]⟩)
theorem ak8{n:Nat}{fV:fB aC}(hO:Ok n fV)(l:LI0)(v:Int)(hl:l.length<=ah):Lp n 234 0 (afA l v 0 []) (z234 l v (bK (cIx l v) l.length)).1 (z234 l v (bK (cIx l v) l.length)).2:=
 jh (st:=fun i _=>afA l v i []) (fun _ _=>True) (by kernel_rfl) hl trivial (fun k s m hk _ ih=>aN hO (.b (bF hk) (.o (aG hk) (.ls (.ou nofun) (.nx (ih _ trivial)))))) (fun s _=>aN hO (.b (fH l.length) (.ou nofun)))
def nK(l:LI0)(v:Int):Int:=if kU (bK (cIx l v) l.length)=true then -1 else((Dq 0 (bK (cIx l v) l.length):Nat):Int)
def ad9:fB aC:=cu 234 (a2 oh iA) iA (fun p=>nK p.1 p.2) (fun p=>[p.1.length<=ah]) ad7
theorem ak9:Gd ad9:=ak7.add fun n hO p hp=>aO hO (.zh (fun h=>.w (kZ (ak8 hO p.1 p.2 (hp _ iD)) () h) .rr) fun h=>.w (l7 (ak8 hO p.1 p.2 (hp _ iD)) 0 h) .rr)
def ada:fB aC:=cu 223 (a2 (a3k (a2 oh oh)) iA) iA (fun p=>nK p.1.2 p.2) (fun p=>[p.1.2.length<=ah]) ad9
theorem akb:Gd ada:=ak9.add fun n hO p hp=>aO hO (.o (hp _ iD) .rr)
def adb:fB aC:=cu 197 (a1 iA) iA (fun p=>i64.wrap (-1-p)) np ada
theorem akc:Gd adb:=akb.add fun n hO p hp=>aO hO .rr
structure Lo where
 s:LI0
 o:LI0
 d:Dg
abbrev Lo.ps(l:Lo):List (PV aC):=[.dJ 3 l.s false,.dJ 3 l.o false]++l.d.ps
def loA:Arg Lo:=aeY (a3k (Ls oh (Ls oh (Ls oh (a4 oh vsA aal iA))))) (fun p=>⟨p.1,p.2.1,⟨p.2.2.1,p.2.2.2.1,p.2.2.2.2.1,p.2.2.2.2.2.1,p.2.2.2.2.2.2⟩⟩) (fun l=>(l.s,l.o,l.d.aA,l.d.aH,l.d.aK,l.d.au,l.d.root)) fun _=>rfl
def qy(l:Lo)(zS below LC:Int):Bool:=if decide (zS<0)=true then decide (i64.wrap (-1-zS)<(l.d.aK.length:Int))else if decide (zS<below)=true then decide (nK l.o (l.d.au.getD zS.toNat kW).var>LC)else false
def XR:fB aC:=cu 193 (a4 loA iA iA iA) tA (fun p=>qy p.1 p.2.1 p.2.2.1 p.2.2.2) (fun p=>[p.1.o.length<=ah,0<=p.2.1->p.2.1<p.2.2.1->fF p.2.1 p.1.d.au.length]) adb
theorem akd:Gd XR:=akc.add fun n hO p hp=>aO hO (.sh (fun _=>.rr) fun h=>.sh (fun h2=>.o (hp (0<=p.2.1->p.2.1<p.2.2.1->fF p.2.1 p.1.d.au.length) (.tail _ (.head _)) (by simpa using h) (by simpa using h2)) (.o (hp _ iD) .rr)) fun _=>.rr)
abbrev Hb(l:Lo)(i:Int)(b:Br):List (PB aC):=[.cells l.ps,.cells [.int .i64 i],.cells b.ps]
theorem apr{n f:Nat}{a c:List (PV aC)}{H:List (PB aC)}{g:Int->Bool}(l:LI0)(hf:∀x∈l,iW n (.fn f a c) [.int .i64 x] H (.bool (g x)) H)(hl:l.length<=ah):iW (n+1) (.fn 218 [] []) [.dJ 3 l false,.fn f a c] H (iA.put (rP g l)) H:=by
 have lp:Ii n 218 0 H.length (a6Z f a c H l 0 []) (z218 f a c H l (mY (qj g) l 0 ())).1 (z218 f a c H l (mY (qj g) l 0 ())).2:=
  Xh (st:=fun i _=>a6Z f a c H l i []) (0:Int) (fun _ _=>True) (by kernel_rfl) hl QH trivial (fun k s n hk _ ih=>aN gK (.b (bF hk) (.o (aG hk) (.k (hf (l.getD k (0:Int)) (bT hk)) (.ls (.ou nofun) (.nx (ih _ trivial))))))) (fun s _=>aN gK (.b (fH l.length) (.ou nofun)))
 exact jr gK (first:=[]) (cap:=[]) (.szh (fun h=>.w (kZ lp () h) .sr) (fun h=>.w (l7 lp (0,0,()) h) .sr))
theorem ake{n f:Nat}{a c:List (PV aC)}{H:List (PB aC)}{g:Int->Bool}(l:LI0)(hf:∀x∈l,iW n (.fn f a c) [.int .i64 x] H (.bool (g x)) H)(hl:l.length<=ah):iW (n+2) (.fn 181 [] []) [.dJ 3 l false,.fn f a c] H (tA.put (l.any g)) H:=by have h1:=apr l hf hl;have h2:=Ep g l;rw[<-h2];exact jr gK (first:=[]) (cap:=[]) (.k h1 .sr)
theorem Et{α:Type}(l:List α)(g:α->Bool):(!(l.any fun x=>!(g x)))=l.all g:=by
 induction l with
 |nil=>rfl
 |cons a l ih=>simp only[ady,ac3,Bool.not_or,Bool.not_not,ih]
abbrev pB:List (PV aC):=[.ptr 0 0 7,.ptr 1 0 1,.ptr 2 0 2]
theorem aps{n f:Nat}{l:Lo}{i:Int}{b:Br}{g:Int->Bool}(ks:LI0)(hf:∀x∈ks,iW n (.fn f [] pB) [.int .i64 x] (Hb l i b) (tA.put (g x)) (Hb l i b))(hl:ks.length<=ah):iW (n+4) (.fn 191 [] []) [.dJ 3 ks false,.fn f [] pB] (Hb l i b) (tA.put (ks.all g)) (Hb l i b):=by
 have h1:∀x∈ks,iW (n+1) (.fn 221 [] [.ptr 3 0 1]) [.int .i64 x] (Hb l i b++[.cells [.fn f [] pB]]) (tA.put (!(g x))) (Hb l i b++[.cells [.fn f [] pB]]):=fun x hx=>
  jr gK (first:=[]) (.fr [0,1,2] (hf x hx) .sr)
 have h2:=ake ks h1 hl;rw[<-Et ks g];exact bZ.drop hX (Dn hX gK (first:=[]) (cap:=[]) (H1:=Hb l i b++[.cells [.fn f [] pB]]) (by kernel_rfl) (.k h2 .sr)) rfl rfl
theorem a1M{x a b:Int}:nD [x] a b=decide (a<=x∧x<=b):=by
 unfold nD wz;simp only[ady,List.any_nil,Bool.or_false];by_cases h:x<a
 .rw[a0u (by simpa using h),a9k,eq_comm,a2K];omega
 rw[a0q (by simpa using h),a4J,a97,a2K,a1n];omega
theorem XT{l:List Br}{k:Nat}(h:k<l.length):l.getD k kW∈l:=by simp[List.getD,a0n h]
abbrev xG(l:Lo)(i:Int):Br:=l.d.au.getD i.toNat kW
def Gh(l:Lo)(i:Int):Bool:=if(!(nD [(xG l i).var] 0 (xw l.s)))=true then false else if(((xG l i).ay.length:Int) != l.s.getD (xG l i).var.toNat 0)=true then false else(xG l i).ay.all fun x=>qy l x i (nK l.o (xG l i).var)
theorem akf{n:Nat}(hO:∀m,n<=m->Ok m XR){l:Lo}{i:Int}(ho:l.o.length<=ah)(hf:ng l.s)(hi:fF i l.d.au.length):iW (n+6) (.fn 192 [.agg l.ps] []) [.int .i64 i] [] (tA.put (Gh l i)) []:=by
 have h1:∀x∈(xG l i).ay,iW (n+1) (.fn 222 [] pB) [.int .i64 x] (Hb l i (xG l i)) (tA.put (qy l x i (nK l.o (xG l i).var))) (Hb l i (xG l i)):=fun x _=>
  jr (hO n (a0E _)) (first:=[]) (.o ho (.o ho (.o (show 0<=x->x<i->fF x l.d.au.length from fun h0 h1=>⟨h0,by have:=hi.1;have:=hi.2;omega⟩) .sr)))
 have hv:(!(nD [(xG l i).var] 0 (xw l.s)))=false->fF (xG l i).var l.s.length:=fun h=>by rw[a1M,adI,a1n,a7b hf.UW]at h;exact⟨h.1,by omega⟩
 have hk:(!(nD [(xG l i).var] 0 (xw l.s)))=false->(((xG l i).ay.length:Int) != l.s.getD (xG l i).var.toNat 0)=false->(xG l i).ay.length<=ah:=fun h h2=>by
  have h3:=hv h;have h4:=hf.sz _ (bT (s:=l.s) (k:=(xG l i).var.toNat) (by have:=h3.2;have:=h3.1;omega));have h2:((xG l i).ay.length:Int)=l.s.getD (xG l i).var.toNat 0:=by simpa using h2
  exact m12 (by omega)
 exact bZ.drop hX (Dn hX (hO (n+5) (by omega)) (first:=[.agg l.ps]) (cap:=[]) (H1:=Hb l i (xG l i)++[.list true true 3 [(xG l i).var]]) (by kernel_rfl) (.o hi (.o (XQ (xG l i).var) (.ssh (fun _=>.sr) fun h5=>.o (hv h5) (.ssh (fun _=>.sr) fun h6=>.fr [0,1,2] (aps (xG l i).ay h1 (hk h5 h6)) .sr))))) rfl rfl
abbrev a3O(f:Nat)(a:List (PV aC)):List (PB aC):=[.cells [.fn f a []]]
theorem akg{n:Nat}{l:Lo}{g:Int->Bool}(ks:LI0)(hf:∀x∈ks,iW n (.fn 192 [.agg l.ps] []) [.int .i64 x] [] (tA.put (g x)) [])(hl:ks.length<=ah):iW (n+4) (.fn 191 [] []) [.dJ 3 ks false,.fn 192 [.agg l.ps] []] [] (tA.put (ks.all g)) []:=by
 have h1:∀x∈ks,iW (n+1) (.fn 221 [] [.ptr 0 0 1]) [.int .i64 x] (a3O 192 [.agg l.ps]) (tA.put (!(g x))) (a3O 192 [.agg l.ps]):=fun x hx=>
  jr gK (first:=[]) (.fr [] (hf x hx) .sr)
 have h2:=ake ks h1 hl;rw[<-Et ks g];exact bZ.drop hX (Dn hX gK (first:=[]) (cap:=[]) (H1:=a3O 192 [.agg l.ps]) (by kernel_rfl) (.k h2 .sr)) rfl rfl
theorem apt{n:Nat}(hO:Ok n XR)(l:List V)(hl:l.length<=ah):iW (n+4) (.fn 189 [] []) [.dJ 39 l false,.fn 190 [] []] [] (tA.put (l.all qJ)) []:=by
 have h1:∀x:V,iW (n+1) (.fn 220 [] [.ptr 0 0 1]) [.agg x.ps] (a3O 190 []) (tA.put (!(qJ x))) (a3O 190 []):=fun x=>
  jr hO (first:=[]) .sr
 have h2:=afn (n:=n+2) (by omega) (g:=fun x=>!(qJ x)) h1 l hl;rw[<-Et l,<-Jv];exact bZ.drop hX (Dn hX gK (first:=[]) (cap:=[]) (H1:=a3O 190 []) (by kernel_rfl) (.k h2 .sr)) rfl rfl
theorem apu{n:Nat}(hO:Ok n XR)(m:Nat)(hm:m<=ah):iW n (.fn 159 [] []) [.int .i64 m] [] (oh.put (dO m)) []:=
 pO.aaE hX (hO 159 [.int .i64 m] (oh.put (dO m)) [] [0<=(m:Int),(m:Int)<=(ah:Int)] (by kernel_rfl) (by
  intro q hq;rcases a1F.1 hq with rfl|hq
  .omega
  .rw[a2D.1 hq];omega)) rfl rfl rfl rfl
theorem a1N{x:Int}{m:Nat}(h:x∈dO m):fF x m:=by simp only[dO,a1k,a4B]at h;obtain⟨k,hk,rfl⟩:=h;exact aG hk
abbrev yY(d:Dg):Lo:=⟨d.aA,d.aH,d⟩
abbrev lo0:Lo:=⟨[],[],⟨[],[],[],[],0⟩⟩
def bG(d:Dg):Lo×Int:=if(aV d.aA d.aH != 0)=true then(lo0,aV d.aA d.aH)else if decide ((d.au.length:Int)>6000)=true then(yY d,5)else if(!(d.aK.all qJ))=true then(yY d,4)else if(!((dO d.au.length).all (Gh (yY d))))=true then(yY d,4)else if(!(qy (yY d) d.root d.au.length (-1)))=true then(yY d,4)else(yY d,0)
def DN:fB aC:=cu 160 (a1 dA) (dS (a2 loA iA)) (fun p=>bG p) (fun p=>[p.aA.length<=ah,p.aH.length<=2^20,p.aK.length<=ah]) XR
theorem ade:Gd DN:=akd.deep 11 fun n hn hO d hp=>by
 obtain⟨n,rfl⟩:∃k,n=k+10:=⟨n-10,by omega⟩;have h1:d.aA.length<=ah:=hp _ iD;have h2:d.aH.length<=2^20:=hp _ xM;have h3:d.aK.length<=ah:=hp _ hh2;have ho:d.aH.length<=ah:=by unfold ah;omega
 have hO:∀m,n<=m->Ok m _:=fun m hm=>hO m (by omega);have hI:(aV d.aA d.aH != 0)=false->∀x∈dO d.au.length,iW (n+6) (.fn 192 [.agg (yY d).ps] []) [.int .i64 x] [] (tA.put (Gh (yY d) x)) []:=fun h x hx=>akf hO (l:=yY d) ho (Bd h) (a1N hx);have hR:0<=d.root->d.root<(d.au.length:Int)->fF d.root d.au.length:=fun a b=>⟨a,by omega⟩;have hL:decide ((d.au.length:Int)>6000)=false->(dO d.au.length).length<=ah:=fun h=>by rw[lW];exact V7 h
 exact aO (hO (n+10) (by omega)) (.o h1 (.o h2 (.sh (fun _=>.rn (.cO [.agg [.nil .aP,.nil .aP,.nil .aP,.nil .aP,.nil .aP,.nil .aP,.int .i64 0],.int .i64 (aV d.aA d.aH)]) rfl) fun h=>.sh (fun _=>.rr) fun h4=>.fr [] (apt (n:=n+6) (hO (n+6) (by omega)) d.aK h3) (.ss .rr (.fr [] (apu (hO (n+10) (by omega)) d.au.length (V7 h4)) (.fr [] (akg (l:=yY d) (n:=n+6) (dO d.au.length) (hI h) (hL h4)) (.ss .rr (.o ho (.o hR (.ss .rr .rr))))))))))
open Go Tw Pv dB
def Gi(x:Int):Prop:=-(2^63)<=x∧x<2^63
structure Na(d:Dg):Prop where
 zS:∀i,i<d.au.length->∀k,k<(fE d i).ay.length->Gi ((fE d i).ay.getD k 0)
 root:Gi d.root
 fault:∀v∈d.aK,0<=v.f
theorem kE{n:Nat}{o:LI0}(h:iG n o=true){v:Int}(hv:fF v n):v∈o:=by
 unfold iG at h;rw[a1n]at h;obtain⟨h0,h1⟩:=hv;by_cases hc:v∈o
 .exact hc
 have:=adJ (l₁:=v::o) (l₂:=dO n) (a4z.2 ⟨hc,h.2.2⟩) (fun x hx=>by
  have:0<=x∧x<(n:Int):=by
   rcases a1F.1 hx with rfl|hx
   .exact⟨h0,by omega⟩
   exact h.2.1 x hx
  unfold dO;rw[a1k];exact⟨x.toNat,by rw[a4B];omega,by omega⟩)
 rw[lW]at this;simp at this;omega
theorem rX{l:LI0}{k:Nat}(h:k<l.length):l.getD k 0=l[k]:=by simp[List.getD,a0n h]
theorem a1O{l:LI0}{v:Int}(h:v∈l):kU (bK (cIx l v) l.length)=false:=by
 cases e:kU (bK (cIx l v) l.length)
 .rfl
 obtain⟨j,hj,e2⟩:=a4N.1 h;have:=eG.1 e j hj;simp[cIx,List.getD,a0n hj,e2]at this
theorem a7q{d:Dg}{r:Int}:PD d r=cIx d.aH (aj d r).var:=by funext k;exact BEq.comm
theorem V9{d:Dg}{r:Int}(h0:0<=r)(h:(aj d r).var∈d.aH):uf d r=nK d.aH (aj d r).var:=by unfold uf nK;rw[a0q (by rw[a1n];omega),a7q,a1O h,a0q (by decide),a0q (by decide)]
theorem akh{l:LI0}{v:Int}(h:v∈l):nK l v<(l.length:Int):=by unfold nK;rw[a1O h,a0q (by simp)];obtain⟨j,h1,_,_,h2⟩:=UR (a1O h);rw[h2];show(j:Int)<_;omega
theorem PN{x a b:Int}:nD [x] a b=jq x a b:=by rw[a1M,a4J,uw,a1n]
theorem a7r{v:V}(h:0<=v.f):qJ v=YC v:=by rw[afq h];unfold qJ vIs;rw[PN]
theorem afB{z:Int}(h:Gi z):i64.wrap z=z:=by
 obtain⟨h0,h1⟩:=h;simp only[IntKind.wrap,IntKind.bits,IntKind.signed];rcases Int.lt_or_le z 0 with h|h
 .have:z%(2^64:Int)=z+2^64:=by have:=ac4 z (2^64) 1;rw[acf]at this;rw[<-this];exact a8F (by omega) (by omega)
  simp only[this];rw[a0u (by simp;omega)];omega
 have:z%(2^64:Int)=z:=a8F h (by omega);simp only[this];rw[a0q (by simp;omega)]
theorem Nb{x:Int}(h:Gi x)(h0:x<0):i64.wrap (-1-x)=-1-x:=by have h1:=h.1;exact afB ⟨by omega,by omega⟩
theorem aaH{d:Dg}{x:Int}(below:Int)(h:Gi x)(h0:x<0)(he:d.aK.length<=ah):iR d x below=decide (i64.wrap (-1-x)<(d.aK.length:Int)):=by
 have he:d.aK.length<=2^60:=by unfold ah at he;omega
 unfold iR;rw[a0q (by simp;omega),Nb h h0,a4J,uw,a1n];by_cases h1:d.aK.length=0
 .rw[h1,show i64.wrap (((0:Nat):Int)-1)=-1 by decide];omega
 rw[eP (by omega) (by omega)];omega
theorem aki{l:LI0}{v:Int}(h:v∈l):0<=nK l v:=by unfold nK;rw[a1O h,a0q (by simp)];omega
theorem afC{d:Dg}{x below LC:Int}(h0:0<=x)(hv:x<below->(aj d x).var∈d.aH):qy (yY d) x below LC=(iR d x below&&decide (LC<uf d x)):=by
 unfold qy iR;rw[a0q (show ¬(decide (x<0)=true) by rw[a1n];omega),a0u (show decide (x>=0)=true by rw[a1n];omega)];by_cases h1:x<below
 .rw[a0u (show decide (x<below)=true by rw[a1n];exact h1),V9 h0 (hv h1),decide_eq_true h1,adx]
 rw[a0q (show ¬(decide (x<below)=true) by rw[a1n];exact h1),aeg h1,Bool.false_and]
theorem afD{d:Dg}{x below LC:Int}(h:Gi x)(h0:x<0)(he:d.aK.length<=ah)(hr:LC<(d.aH.length:Int)):qy (yY d) x below LC=(iR d x below&&decide (LC<uf d x)):=by rw[aaH _ h h0 he];unfold qy uf;rw[a0u (by rw[a1n];exact h0),a0u (by rw[a1n];exact h0),decide_eq_true hr,ahe]
theorem a7s{d:Dg}{x below LC:Int}(h:Gi x)(he:d.aK.length<=ah)(hr:LC<(d.aH.length:Int))(hv:0<=x->x<below->(aj d x).var∈d.aH):qy (yY d) x below LC=(iR d x below&&decide (LC<uf d x)):=by
 by_cases h0:0<=x
 .exact afC h0 (hv h0)
 exact afD h (by omega) he hr
theorem a7t{d:Dg}(h:Na d)(he:d.aK.length<=ah)(hv:∀r,fF r d.au.length->(aj d r).var∈d.aH):qy (yY d) d.root d.au.length (-1)=iR d d.root d.au.length:=by
 rw[a7s h.root he (by omega) (fun a b=>hv _ ⟨a,by omega⟩)];cases e:iR d d.root d.au.length
 .rfl
 rw[adx,a1n];by_cases h0:0<=d.root
 .have:=XJ e h0 (a0E _);rw[V9 h0 (hv _ this)];have:=aki (hv _ this);omega
 unfold uf;rw[a0u (by rw[a1n];omega)];omega
theorem adf{d:Dg}(h:Na d)(he:d.aK.length<=ah){i:Nat}(hi:i<d.au.length)(hf:ng d.aA)(ho:iG d.aA.length d.aH=true)(hv:∀j,j<i->(fE d j).var∈d.aH):Gh (yY d) i=!(ZX d i):=by
 have e0:xG (yY d) i=fE d i:=rfl;unfold Gh ZX;rw[e0];show(if(!(nD [(fE d i).var] 0 (xw d.aA)))=true then false else if(((fE d i).ay.length:Int) != d.aA.getD (fE d i).var.toNat 0)=true then false else _)=_;rw[PN];cases e1:jq (fE d i).var 0 (xw d.aA)
 .rfl
 have hvi:(fE d i).var∈d.aH:=kE ho (JC hf e1);have apv:(aj d (i:Int)).var∈d.aH:=hvi;simp only[a9k,a2z,a3l];split
 .rfl
 have FM:((fE d i).ay.all fun x=>qy (yY d) x i (nK (yY d).o (fE d i).var))=kU (bK (cLk d i) (fE d i).ay.length):=by
  rw[a4J,a4I,eG];have hk:∀k,k<(fE d i).ay.length->(qy (yY d) ((fE d i).ay.getD k 0) i (nK d.aH (fE d i).var)=true↔cLk d i k=false):=fun k hk=>by
   rw[a7s (h.zS i hi k hk) he (akh hvi) (fun a b=>hv _ (by omega)),a2f,a1n];unfold cLk;rw[show uf d (i:Int)=nK d.aH (fE d i).var from V9 (by omega) apv];cases iR d ((fE d i).ay.getD k 0) i
   .simp
   simp<;>omega
  constructor
  .intro a k Kz;exact(hk k Kz).1 (a _ (bT Kz))
  intro a x hx;obtain⟨k,Kz,rfl⟩:=a4N.1 hx;have:=(hk k Kz).2 (a k Kz);rw[rX Kz]at this;exact this
 rw[FM];cases kU (bK (cLk d i) (fE d i).ay.length)<;>rfl
theorem afE{d:Dg}(h:Na d)(he:d.aK.length<=ah)(hf:ng d.aA)(ho:iG d.aA.length d.aH=true):(dO d.au.length).all (Gh (yY d))=kU (bK (ZX d) d.au.length):=by
 have akj:∀i,ZX d i=false->(fE d i).var∈d.aH:=fun i hc=>by
  unfold ZX at hc;split at hc
  .cases hc
  rename_i e;exact kE ho (JC hf (by simpa using e))
 have key:∀i,i<=d.au.length->((∀j,j<i->Gh (yY d) j=true)↔∀j,j<i->ZX d j=false):=by
  intro i
  induction i with
  |zero=>intro _;exact⟨fun _ j hj=>absurd hj (by omega),fun _ j hj=>absurd hj (by omega)⟩
  |succ i ih=>
   intro hi;have ih:=ih (by omega);constructor
   .intro a;have b:=ih.1 fun j hj=>a j (by omega);intro j hj;by_cases hji:j<i
    .exact b j hji
    have:j=i:=(by omega);subst this;have:=a j (by omega);rw[adf h he (by omega) hf ho (fun k hk=>akj k (b k hk))]at this;simpa using this
   intro b j hj;by_cases hji:j<i
   .exact ih.2 (fun k hk=>b k (by omega)) j hji
   have:j=i:=(by omega);subst this;rw[adf h he (by omega) hf ho (fun k hk=>akj k (b k (by omega))),b j (by omega)];rfl
 rw[a4J,a4I,eG,<-key _ (a0E _)];constructor
 .intro a j hj;exact a _ (by unfold dO;rw[a1k];exact⟨j,a4B.2 hj,rfl⟩)
 intro a x hx;simp only[dO,a1k,a4B]at hx;obtain⟨k,hk,rfl⟩:=hx;exact a k hk
theorem aaI{d:Dg}(h:∀v∈d.aK,0<=v.f):d.aK.all qJ=kU (bK (cLe d) d.aK.length):=by
 rw[a4J,a4I,eG];have hg:∀k,(hk:k<d.aK.length)->d.aK.getD k V0=d.aK[k]:=fun k hk=>by simp[List.getD,a0n hk]
 constructor
 .intro a k hk;unfold cLe;rw[hg k hk,<-a7r (h _ (a4D hk)),a _ (a4D hk)];rfl
 intro a x hx;obtain⟨k,hk,rfl⟩:=a4N.1 hx;have:=a k hk;unfold cLe at this;rw[hg k hk,<-a7r (h _ hx)]at this;simpa using this
theorem Eu{d:Dg}(h:Na d)(he:d.aK.length<=ah):bG d=(if(aV d.aA d.aH != 0)=true then lo0 else yY d,aZ d):=by
 unfold bG aZ;split
 .rfl
 rename_i h1;have WG:=iM.1 (show aV d.aA d.aH=0 by simpa using h1);split
 .rfl
 unfold lX;rw[aaI h.fault,afE h he WG.1 WG.2];cases e1:kU (bK (cLe d) d.aK.length)
 .rfl
 cases e2:kU (bK (ZX d) d.au.length)
 .rfl
 have hv:∀r,fF r d.au.length->(aj d r).var∈d.aH:=fun r hr=>by
  have:=eG.1 e2 r.toNat (by have:=hr.1;have:=hr.2;omega);unfold ZX at this;split at this
  .cases this
  rename_i e;exact kE WG.2 (JC WG.1 (by simpa using e))
 rw[a7t h he hv];simp only[a9k,a2z,a3l,a1I];cases iR d d.root d.au.length<;>rfl
open Go Tw Pv dB
def kV:oN X0 Qp 39 V where
 pv x:=.agg x.ps
 tv x:=x.tv
 v x:=.agg #[.int .u8 x.f,.int .i64 x.n]
 hp _:=rfl
 ht _:=rfl
 hc em x:=by kernel_rfl
 hf x l:=a1x afr (fun a b=>a1G 9998 a b) x l
 hk:=a1z afr fun a b=>a1G 9998 a b
def kI:oN X0 Qp 3 Int where
 pv x:=.int .i64 x
 tv x:=.int .i64 x
 v x:=.int .i64 x
 hp _:=rfl
 ht _:=rfl
 hc em x:=by kernel_rfl
 hf x l:=afc a3E x l
 hk:=afd a3E
abbrev zU(E:List V):List (V×PV X0.Γ):=E.zipIdx.map fun e=>(e.1,.int .i64 (e.2:Nat))
abbrev mkC(a b:LI0)(e n:Nat)(r:Int):PB aC:=.cells [.dJ 3 a false,.dJ 3 b false,.own 0,.own 1,.own e,.own n,.int .i64 r,.map 2,.map 3]
abbrev zV(l:List V):PB aC:=.list false false 39 l
abbrev zW(l:List Br):PB aC:=.list false false 105 l
abbrev MK(a b:LI0)(E:List V)(nd:List Br)(r:Int)(nm:List (PV aC×PV aC)):List (PB aC):=[.list false false 3 a,.list false false 3 b,.map (kV.es (zU E)),.map nm,mkC a b 5 6 r,zV E,zW nd]
abbrev MK'(a b:LI0)(E:List V)(nd:List Br)(r:Int)(nm:List (PV aC×PV aC)):List (PB aC):=[.list false false 3 a,.list false false 3 b,.map (kV.es (zU E)),.map nm,mkC a b 7 8 r,.gone,.gone,zV E,zW nd]
theorem Tt(E:List V):(zU E).map (·.1)=E:=by unfold zU;rw[a8m];show E.zipIdx.map (·.1)=E;simp
theorem a7u(E:List V)(v:V):zU (E++[v])=zU E++[(v,.int .i64 (E.length:Nat))]:=by unfold zU;rw[List.zipIdx_append,a4s];simp
theorem a7v{E:List V}{v:V}(h:v∈E):(v,(.int .i64 (E.idxOf v:Nat):PV X0.Γ))∈zU E:=by unfold zU;rw[a1k];have hl:=a4H.2 h;exact⟨(v,E.idxOf v),by rw[a9M];simp[a0n hl],rfl⟩
def fC(E:List V)(v:V):List V:=if v∈E then E else E++[v]
theorem Va{E:List V}{v:V}(h:E.Nodup):(fC E v).Nodup:=by
 unfold fC;split
 .exact h
 rename_i hn;rw[a96];exact⟨h,by simp,fun x hx y hy=>by rw[a2D]at hy;subst hy;intro e;subst e;exact hn hx⟩
theorem apw{n:Nat}(hO:Ok n DN){a b:LI0}{E:List V}{nd:List Br}{r:Int}{nm:List (PV aC×PV aC)}(v:V)(hE:E.Nodup)(hl:E.length+1<=ah):iW (n+1) (.fn 196 [] []) [.ptr 4 0 9,.agg v.ps] (MK a b E nd r nm) (.int .i64 (i64.wrap (-1-(E.idxOf v:Nat)))) (MK' a b (fC E v) nd r nm):=by
 by_cases h:v∈E
 .rw[show fC E v=E from a0u h];have hf:qB X0 Qp 39 (kV.es (zU E)) v.tv (.int .i64 (E.idxOf v:Nat)):=kV.found (by rw[Tt];exact hE) (a7v h);exact bZ.gs hX (jV hX hO (first:=[]) (cap:=[]) (v:=.int .i64 (i64.wrap (-1-(E.idxOf v:Nat)))) (H1:=MK a b E nd r nm) (by kernel_rfl) (.c (.int .i64 (E.idxOf v:Nat)) [] hf (.b (rfl:(!true)=false) .er))) [.mv 5,.mv 6] rfl
 rw[show fC E v=E++[v]from a0q h,a6m h];have hf:nV X0 Qp 39 (kV.es (zU E)) v.tv:=kV.fresh (by rw[Tt];exact h);have em:kV.es (zU (E++[v]))=kV.es (zU E)++[(.agg v.ps,.int .i64 (E.length:Nat))]:=by rw[a7u];exact a4s ..
 show bZ X0 Qp _ _ _ _ _ [_,_,.map (kV.es (zU (E++[v]))),_,_,_,_,_,_];rw[em];exact bZ.gs hX (jV hX hO (first:=[]) (cap:=[]) (v:=.int .i64 (i64.wrap (-1-(E.length:Nat)))) (H1:=[.list false false 3 a,.list false false 3 b,.map (kV.es (zU E)++[(.agg v.ps,.int .i64 (E.length:Nat))]),.map nm,mkC a b 8 6 r,.gone,zW nd,.list true true 39 [v],zV (E++[v])]) (by kernel_rfl) (.a .calm (.o hf (.b (rfl:(!false)=true) (.a .calm (.o (kV.ck v) (.o hf (.o (show E.length+[v].length<=ah by simpa using hl) .er)))))))) [.mv 6,.gc [8,9]] rfl
open Go Tw Pv dB
abbrev oI(k ex:Bool)(l:LI0):PB aC:=.list k ex 3 l
abbrev wOI(f:Nat)(a c:List (PV aC))(k ex:Bool)(R:List (PB aC))(l:LI0)(i:Int)(x:List (Nat×PE aC)):aT aC:=⟨[(0,.val (.own 0)),(1,.val (.fn f a c)),(7,xi l.length),(8,xi i)]++x,[],oI k ex l::R⟩
def zOI(f:Nat)(a c:List (PV aC))(k ex:Bool)(R:List (PB aC))(l:LI0):Unit⊕(Nat×Int×Unit)->Ex×aT aC
 |.inl _=>(.exit 0,wOI f a c k ex R l l.length [(9,xl false)])
 |.inr r=>(.ret,⟨[(4,xi r.1)],[],oI k ex l::R⟩)
theorem qoI{n f:Nat}{a c:List (PV aC)}{ko ex:Bool}{R:List (PB aC)}{g:Int->Bool}(l:LI0)(hf:∀x∈l,iW n (.fn f a c) [.int .i64 x] (oI ko ex l::R) (.bool (g x)) (oI ko ex l::R))(hl:l.length<=ah):iW (n+1) (.fn 218 [] []) [.own 0,.fn f a c] (oI ko ex l::R) (iA.put (rP g l)) (oI ko ex l::R):=by
 have lp:Ii n 218 0 (R.length+1) (wOI f a c ko ex R l 0 []) (zOI f a c ko ex R l (mY (qj g) l 0 ())).1 (zOI f a c ko ex R l (mY (qj g) l 0 ())).2:=
  Xh (st:=fun i _=>wOI f a c ko ex R l i []) (0:Int) (fun _ _=>True) (by kernel_rfl) hl QH trivial (fun k s n hk _ ih=>aN gK (.b (bF hk) (.o (aG hk) (.k (hf (l.getD k (0:Int)) (bT hk)) (.ls (.ou nofun) (.nx (ih _ trivial))))))) (fun s _=>aN gK (.b (fH l.length) (.ou nofun)))
 exact jr gK (first:=[]) (cap:=[]) (.szh (fun h=>.w (kZ lp () h) .sr) (fun h=>.w (l7 lp (0,0,()) h) .sr))
theorem qoC{n f:Nat}{a c:List (PV aC)}{ko ex:Bool}{R:List (PB aC)}{g:Int->Bool}(l:LI0)(hf:∀x∈l,iW n (.fn f a c) [.int .i64 x] (oI ko ex l::R) (.bool (g x)) (oI ko ex l::R))(hl:l.length<=ah):iW (n+2) (.fn 181 [] []) [.own 0,.fn f a c] (oI ko ex l::R) (tA.put (l.any g)) (oI ko ex l::R):=by have h1:=qoI l hf hl;have h2:=Ep g l;rw[<-h2];exact jr gK (first:=[]) (cap:=[]) (.k h1 .sr)
abbrev Hk(k ex:Bool)(l:LI0):List (PB aC):=[oI k ex l,.cells [.own 0]]
theorem qoA{n f:Nat}{ko ex:Bool}{g:Int->Bool}(l:LI0)(hf:∀x∈l,iW n (.fn f [] [.ptr 1 0 1]) [.int .i64 x] (Hk ko ex l) (tA.put (g x)) (Hk ko ex l))(hl:l.length<=ah):iW (n+4) (.fn 191 [] []) [.own 0,.fn f [] [.ptr 1 0 1]] (Hk ko ex l) (tA.put (l.all g)) (Hk ko ex l):=by
 have h1:∀x∈l,iW (n+1) (.fn 221 [] [.ptr 2 0 1]) [.int .i64 x] (Hk ko ex l++[.cells [.fn f [] [.ptr 1 0 1]]]) (tA.put (!(g x))) (Hk ko ex l++[.cells [.fn f [] [.ptr 1 0 1]]]):=fun x hx=>
  jr gK (first:=[]) (.fr [0,1] (hf x hx) .sr)
 have h2:=qoC (R:=[.cells [.own 0],.cells [.fn f [] [.ptr 1 0 1]]]) l h1 hl;rw[<-Et l g];exact bZ.drop hX (Dn hX gK (first:=[]) (cap:=[]) (H1:=Hk ko ex l++[.cells [.fn f [] [.ptr 1 0 1]]]) (by kernel_rfl) (.k h2 .sr)) rfl rfl
theorem a7w{n:Nat}{ko ex:Bool}(l:LI0)(hl:l.length<=ah):iW (n+5) (.fn 191 [] []) [.own 0,.fn 224 [] [.ptr 1 0 1]] (Hk ko ex l) (tA.put (l.all fun x=>x==l.getD 0 0)) (Hk ko ex l):=
 qoA (n:=n+1) l (fun x hx=>jr gK (first:=[]) (.o (show fF 0 l.length from⟨by omega,by have:=List.length_pos_of_mem hx;omega⟩) .sr)) hl
theorem a7x:∀l:LI0,l.length=12->∃a0 a1 a2 a3 a4 a5 a6 a7 a8 a9 a10 a11:Int,l=[a0,a1,a2,a3,a4,a5,a6,a7,a8,a9,a10,a11]
 | [a0,a1,a2,a3,a4,a5,a6,a7,a8,a9,a10,a11],_=>⟨a0,a1,a2,a3,a4,a5,a6,a7,a8,a9,a10,a11,rfl⟩
 | [],h=>by simp at h
 | [_],h=>by simp at h
 | [_,_],h=>by simp at h
 | [_,_,_],h=>by simp at h
 | [_,_,_,_],h=>by simp at h
 | [_,_,_,_,_],h=>by simp at h
 | [_,_,_,_,_,_],h=>by simp at h
 | [_,_,_,_,_,_,_],h=>by simp at h
 | [_,_,_,_,_,_,_,_],h=>by simp at h
 | [_,_,_,_,_,_,_,_,_],h=>by simp at h
 | [_,_,_,_,_,_,_,_,_,_],h=>by simp at h
 | [_,_,_,_,_,_,_,_,_,_,_],h=>by simp at h
 |_::_::_::_::_::_::_::_::_::_::_::_::_::_,h=>by simp at h
abbrev Ky:=Int×{l:LI0 // l.length=12}
abbrev Ky.l(x:Ky):LI0:=x.1::x.2.val
theorem PO:∀l:LI0,iQ (Γ:=aC) (l.map fun x=>PV.int .i64 x)=some (l.map fun x=>TV.int .i64 x)
 | []=>rfl
 |a::l=>by simp only[a4t,iQ,qY,PO l]
theorem Tv:∀l:LI0,TV.TQ (l.map fun x=>TV.int .i64 x)=some (l.map fun x=>Value.int .i64 x)
 | []=>rfl
 |a::l=>by simp only[a4t,TV.TQ,TV.toC,Tv l]
theorem afF : Tryz.prog.underlying 223 = some (.struct #[⟨"choice", 3, 0, false, "", "mist/node", 0⟩, ⟨"kids", 221, 1, false, "", "mist/node", 8⟩]) := by kernel_rfl
theorem adh(d:Nat)(a b:Ky):aB Qp (Op.equalIn (d+3) 223 (.agg (Dx .i64 a.l)) (.agg (Dx .i64 b.l)))=some (decide (a=b)):=by
 obtain⟨a1,a2,ha⟩:=a;obtain⟨b1,b2,hb⟩:=b;rw[yC (d+2) 223 _ _ _ afF (by kernel_rfl)];have gI:aB Qp (isAgg 3)=some false:=by kernel_rfl
 have gA:aB Qp (isAgg 221)=some true:=by kernel_rfl
 have sA:aB Qp (sizeOf 221)=some 12:=by kernel_rfl
 have sI:aB Qp (sizeOf 3)=some 1:=by kernel_rfl
 have p0:∀x l,aB Qp (part 3 (Dx .i64 (x::l)) 0)=some (.int .i64 x):=fun x l=>Dw gI (P8 (l:=x::l) (by simp));have p1:∀x l,l.length=12->aB Qp (part 221 (Dx .i64 (x::l)) 1)=some (.agg (Dx .i64 l)):=fun x l h=>by
  obtain⟨a0,a1,a2,a3,a4,a5,a6,a7,a8,a9,a10,a11,rfl⟩:=a7x l h
  kernel_rfl
 have q1 := oL (f := ⟨"choice", 3, 0, false, "", "mist/node", 0⟩) (fs := [⟨"kids", 221, 1, false, "", "mist/node", 8⟩]) (by decide) (p0 a1 a2) (p0 b1 b2) (ru (d + 1) _ .i64 _ a1 b1 a3E);have q2 := oL (f := ⟨"kids", 221, 1, false, "", "mist/node", 8⟩) (fs := []) (by decide) (p1 a1 a2 ha) (p1 b1 b2 hb) (BQ d (k := .i64) (t := 221) (by kernel_rfl) sI a3E gI ha hb);rw[q1,q2];rw[show aB Qp (Op.eqFields (d+2) (Dx .i64 (a1::a2)) (Dx .i64 (b1::b2)) [])=some true from rfl];by_cases h1:a1=b1<;>by_cases h2:a2=b2<;>simp[h1,h2]
def kK:oN X0 Qp 223 Ky where
 pv x:=.agg (x.l.map fun i=>.int .i64 i)
 tv x:=.agg (x.l.map fun i=>.int .i64 i)
 v x:=.agg (Dx .i64 x.l)
 hp x:=congrArg (Option.map TV.agg) (PO x.l)
 ht x:=congrArg (Option.map fun vs:List LI3=>Value.agg vs.toArray) (Tv x.l)
 hc em x:=by
  obtain⟨c,l,h⟩:=x;obtain⟨a0,a1,a2,a3,a4,a5,a6,a7,a8,a9,a10,a11,rfl⟩:=a7x l h
  kernel_rfl
 hf x l:=a1x afF (fun a b=>adh 9997 a b) x l
 hk:=a1z afF (fun a b=>adh 9997 a b)
open Go Tw Pv dB
def Ij(l:LI0):LI0:=(l++[0,0,0,0,0,0,0,0,0,0,0,0]).take 12
theorem a7y(l:LI0):(Ij l).length=12:=by unfold Ij;simp
def ug(c:Int)(ks:LI0):Ky:=(c,⟨Ij ks,a7y ks⟩)
abbrev CB(b:Br):Ky:=ug b.var b.ay
abbrev yX(nd:List Br):List (Ky×PV X0.Γ):=nd.zipIdx.map fun e=>(CB e.1,.int .i64 (e.2:Nat))
theorem Tz(nd:List Br):(yX nd).map (·.1)=nd.map CB:=by unfold yX;rw[a8m];show nd.zipIdx.map (CB∘fun e=>e.1)=_;rw[<-a8m];simp
theorem a7z(nd:List Br)(b:Br):yX (nd++[b])=yX nd++[(CB b,.int .i64 (nd.length:Nat))]:=by unfold yX;rw[List.zipIdx_append,a4s];simp
theorem a7A{nd:List Br}{k:Ky}(h:k∈nd.map CB):(k,(.int .i64 ((nd.map CB).idxOf k:Nat):PV X0.Γ))∈yX nd:=by
 have hl:=a4H.2 h;have QZ:(nd.map CB).idxOf k<nd.length:=by simpa using hl
 unfold yX;rw[a1k];refine⟨(nd[(nd.map CB).idxOf k],(nd.map CB).idxOf k),by rw[a9M];simp[a0n QZ],?_⟩;have:=a8Z hl;rw[a9i]at this;show(CB _,_)=_;rw[this]
def dG(nd:List Br)(c:Int)(ks:LI0):List Br:=if(ks.all fun x=>x==ks.getD 0 0)=true then nd else if ug c ks∈nd.map CB then nd else nd++[⟨c,ks⟩]
def eH(nd:List Br)(c:Int)(ks:LI0):Int:=if(ks.all fun x=>x==ks.getD 0 0)=true then ks.getD 0 0 else((nd.map CB).idxOf (ug c ks):Nat)
abbrev MN(a b:LI0)(E:List V)(nd:List Br)(r:Int):List (PB aC):=MK a b E nd r (kK.es (yX nd))
abbrev MNg(a b:LI0)(E:List V)(nd:List Br)(r:Int)(nm:List (PV aC×PV aC)):List (PB aC):=[.list false false 3 a,.list false false 3 b,.map (kV.es (zU E)),.map nm,mkC a b 8 9 r,.gone,.gone,.gone,zV E,zW nd]
abbrev MN'(a b:LI0)(E:List V)(nd:List Br)(r:Int):List (PB aC):=MNg a b E nd r (kK.es (yX nd))
theorem afG{n:Nat}(hO:Ok (n+5) DN){a b:LI0}{E:List V}{nd:List Br}{r:Int}(c:Int)(ks:LI0)(hk:1<=ks.length∧ks.length<=12)(hf:(ks.all fun x=>x==ks.getD 0 0)=true):iW (n+6) (.fn 198 [] []) [.ptr 4 0 9,.int .i64 c,.own 7] (MN a b E nd r++[oI true true ks]) (.int .i64 (ks.getD 0 0)) (MN' a b E nd r):=by have h1:=jV hX hO (first:=[]) (cap:=[]) (xs:=[.ptr 4 0 9,.int .i64 c,.own 7]) (H:=MN a b E nd r++[oI true true ks]) (v:=.int .i64 (ks.getD 0 0)) (H1:=MN a b E nd r++[oI true true ks,.cells [.own 7]]) (f:=198) (by kernel_rfl) (.fr [7,8] (a7w (n:=n) (ko:=true) (ex:=true) ks (m12 hk.2)) (.b hf (.o (show fF 0 ks.length from⟨by omega,by omega⟩) .er)));exact bZ.forget (bZ.gs hX h1 [.mv 5,.mv 6,.gc [9,10]] rfl) 7
abbrev a7B(c:Int)(ks:LI0):PB aC:=.cells ((Ky.l (ug c ks)).map fun i=>.int .i64 i)
theorem afH{n:Nat}(hO:Ok (n+5) DN){a b:LI0}{E:List V}{nd:List Br}{r:Int}(c:Int)(ks:LI0)(hk:1<=ks.length∧ks.length<=12)(hf:(ks.all fun x=>x==ks.getD 0 0)=false)(hN:(nd.map CB).Nodup)(hm:ug c ks∈nd.map CB):iW (n+6) (.fn 198 [] []) [.ptr 4 0 9,.int .i64 c,.own 7] (MN a b E nd r++[oI true true ks]) (.int .i64 ((nd.map CB).idxOf (ug c ks):Nat)) (MN' a b E nd r):=by
 have hF:qB X0 Qp 223 (kK.es (yX nd)) (kK.tv (ug c ks)) (.int .i64 ((nd.map CB).idxOf (ug c ks):Nat)):=kK.found (by rw[Tz];exact hN) (a7A hm);have h1:iW (n+6) (.fn 198 [] []) [.ptr 4 0 9,.int .i64 c,.own 7] (MN a b E nd r++[oI true true ks]) (.int .i64 ((nd.map CB).idxOf (ug c ks):Nat)) (MN a b E nd r++[oI true true ks,.cells [.own 7],a7B c ks]):=by generalize (nd.map CB).idxOf (ug c ks)=j at hF ⊢;generalize yX nd=nm at hF ⊢;obtain⟨k1,k2⟩:=hk;rcases ks with _|⟨x0,_|⟨x1,_|⟨x2,_|⟨x3,_|⟨x4,_|⟨x5,_|⟨x6,_|⟨x7,_|⟨x8,_|⟨x9,_|⟨x10,_|⟨x11,_|⟨x12,_⟩⟩⟩⟩⟩⟩⟩⟩⟩⟩⟩⟩⟩<;>first|(exfalso;simp at k1;done)|(exfalso;simp at k2;omega)|(exact fK hO (first:=[]) (cap:=[]) (.fr [7,8] (a7w (n:=n) (ko:=true) (ex:=true) _ (m12 k2)) (.b hf (.c (.int .i64 (j:Nat)) [] hF (.b (rfl:(!true)=false) .er)))))
 exact bZ.forget (bZ.gs hX (bZ.forget h1 9) [.mv 5,.mv 6,.gc [10,11]] rfl) 7
theorem afI{n:Nat}(hO:Ok (n+5) DN){a b:LI0}{E:List V}{nd:List Br}{r:Int}(c:Int)(ks:LI0)(hk:1<=ks.length∧ks.length<=12)(hf:(ks.all fun x=>x==ks.getD 0 0)=false)(hm:ug c ks∉nd.map CB)(hl:nd.length+1<=ah):iW (n+6) (.fn 198 [] []) [.ptr 4 0 9,.int .i64 c,.own 7] (MN a b E nd r++[oI true true ks]) (.int .i64 (nd.length:Nat)) (MN' a b E (nd++[⟨c,ks⟩]) r):=by
 have hF:nV X0 Qp 223 (kK.es (yX nd)) (kK.tv (ug c ks)):=kK.fresh (by rw[Tz];exact hm);have hC:=kK.ck (ug c ks);have hL:nd.length+([⟨c,ks⟩]:List Br).length<=ah:=by simpa using hl
 have em:kK.es (yX (nd++[⟨c,ks⟩]))=kK.es (yX nd)++[(kK.pv (ug c ks),.int .i64 (nd.length:Nat))]:=by rw[a7z];exact a4s ..
 show bZ X0 Qp _ _ _ _ _ (MNg a b E (nd++[⟨c,ks⟩]) r (kK.es (yX (nd++[⟨c,ks⟩]))));rw[em];have h1:iW (n+6) (.fn 198 [] []) [.ptr 4 0 9,.int .i64 c,.own 7] (MN a b E nd r++[oI true true ks]) (.int .i64 (nd.length:Nat)) [.list false false 3 a,.list false false 3 b,.map (kV.es (zU E)),.map (kK.es (yX nd)++[(kK.pv (ug c ks),.int .i64 (nd.length:Nat))]),mkC a b 5 11 r,zV E,.gone,.gone,.cells [.own 7],a7B c ks,.list true true 105 [⟨c,ks⟩],zW (nd++[⟨c,ks⟩])]:=by generalize yX nd=nm at hF ⊢;obtain⟨k1,k2⟩:=hk;rcases ks with _|⟨x0,_|⟨x1,_|⟨x2,_|⟨x3,_|⟨x4,_|⟨x5,_|⟨x6,_|⟨x7,_|⟨x8,_|⟨x9,_|⟨x10,_|⟨x11,_|⟨x12,_⟩⟩⟩⟩⟩⟩⟩⟩⟩⟩⟩⟩⟩<;>first|(exfalso;simp at k1;done)|(exfalso;simp at k2;omega)|(exact fK hO (first:=[]) (cap:=[]) (.fr [7,8] (a7w (n:=n) (ko:=true) (ex:=true) _ (m12 k2)) (.b hf (.q (.bool false) hF (.b (rfl:(!false)=true) (.q (.bool false) hC (.o hF (.o hL .er))))))))
 exact bZ.gs hX (bZ.forget (bZ.forget h1 9) 10) [.mv 5,.gc [12,11]] rfl
theorem akm{n:Nat}(hO:Ok (n+5) DN){a b:LI0}{E:List V}{nd:List Br}{r:Int}(c:Int)(ks:LI0)(hk:1<=ks.length∧ks.length<=12)(hN:(nd.map CB).Nodup)(hl:nd.length+1<=ah):iW (n+6) (.fn 198 [] []) [.ptr 4 0 9,.int .i64 c,.own 7] (MN a b E nd r++[oI true true ks]) (.int .i64 (eH nd c ks)) (MN' a b E (dG nd c ks) r):=by
 unfold eH dG;cases hf:ks.all fun x=>x==ks.getD 0 0
 .rw[a0q (by simp),a0q (by simp)];by_cases hm:ug c ks∈nd.map CB
  .rw[a0u hm];exact afH hO c ks hk hf hN hm
  rw[a0q hm,a6m hm,a4A];exact afI hO c ks hk hf hm hl
 rw[a0u rfl,a0u rfl];exact afG hO c ks hk hf
theorem QI{nd:List Br}{c:Int}{ks:LI0}(h:(nd.map CB).Nodup):((dG nd c ks).map CB).Nodup:=by
 unfold dG;split
 .exact h
 split
 .exact h
 rename_i hn;rw[a4s,a96];exact⟨h,by simp,fun x hx y hy=>by simp at hy;subst hy;intro e;subst e;exact hn hx⟩
open Go Tw Pv dB
theorem apy{n:Nat}(hO:Ok n DN)(a b:LI0)(ha:a.length<=ah)(hb:b.length<=ah):iW (n+1) (.fn 194 [] []) [.agg [.dJ 3 a false,.dJ 3 b false]] [] (.ptr 4 0 9) (MN a b [] [] 0):=
 bZ.gs hX (jV hX hO (first:=[]) (cap:=[]) (v:=.ptr 4 0 9) (H1:=[.list false false 3 a,.list false false 3 b,.map [],.map [],.cells [.dJ 3 a false,.dJ 3 b false,.own 0,.own 1,.nil .aP,.nil .aP,.int .i64 0,.map 2,.map 3]]) (by kernel_rfl) (.o ha (.o hb .er))) [.Uw 4 4 39,.Uw 4 5 105] rfl
structure Cs where
 e:List V
 n:List Br
 k:List (Int×Int)
abbrev LD(k:List (Int×Int)):List (Int×PV X0.Γ):=k.map fun p=>(p.1,.int .i64 p.2)
abbrev pC:List (PV aC):=[.ptr 8 0 1,.ptr 7 0 7,.ptr 10 0 1,.ptr 11 0 1]
abbrev adi(l:Lo)(k:List (Int×Int)):List (PB aC):=[.aF l.ps,.aF [.ptr 4 0 9],.map (kI.es (LD k)),.aF [.map 9],.aF [.fn 195 [] pC]]
abbrev HC(l:Lo)(x:Cs):List (PB aC):=MN l.s l.o x.e x.n 0++adi l x.k
abbrev HC'(l:Lo)(x:Cs):List (PB aC):=[.list false false 3 l.s,.list false false 3 l.o,.map (kV.es (zU x.e)),.map (kK.es (yX x.n)),mkC l.s l.o 12 13 0,.gone,.gone]++adi l x.k++[zV x.e,zW x.n]
def oq(d:Dg)(r:Int):V:=d.aK.getD (i64.wrap (-1-r)).toNat V0
def Vb(k:List (Int×Int))(r:Int):Int:=((k.find? fun p=>p.1==r).getD (0,0)).2
def bV(d:Dg):Nat->Int->Cs->Int×Cs
 | 0,_,x=>(0,x)
 |F+1,r,x=>if decide (r<0)=true then(i64.wrap (-1-(x.e.idxOf (oq d r):Nat)),⟨fC x.e (oq d r),x.n,x.k⟩)else if decide (r∈x.k.map (·.1))=true then(Vb x.k r,x)
  else
   let y:=aU (fun j (y:LI0×Cs)=>(y.1.set j (bV d F ((aj d r).ay.getD j 0) y.2).1,(bV d F ((aj d r).ay.getD j 0) y.2).2)) (aj d r).ay.length 0 (List.replicate (aj d r).ay.length 0,x)
   (eH y.2.n (aj d r).var y.1,⟨y.2.e,dG y.2.n (aj d r).var y.1,y.2.k++[(r,eH y.2.n (aj d r).var y.1)]⟩)
structure DR(d:Dg)(x:Cs):Prop where
 e1:x.e.Nodup
 e2:∀v∈x.e,v∈d.aK
 n1:(x.n.map CB).Nodup
 n2:x.n.length<=x.k.length
 k1:(x.k.map (·.1)).Nodup
 k2:∀a∈x.k.map (·.1),fF a d.au.length
theorem DR.JD{d:Dg}{x:Cs}(h:DR d x):x.k.length<=d.au.length:=by have:=zT _ _ h.k1 h.k2;simpa using this
theorem DR.akn{d:Dg}{x:Cs}(h:DR d x):x.e.length<=d.aK.length:=adJ h.e1 h.e2
theorem XU(nd:List Br)(c:Int)(ks:LI0):(dG nd c ks).length<=nd.length+1:=by
 unfold dG;split
 .omega
 split
 .omega
 simp
theorem a1P{k:List (Int×Int)}{r:Int}(h:r∈k.map (·.1)):(r,Vb k r)∈k:=by
 rw[a1k]at h;obtain⟨p,hp,rfl⟩:=h;unfold Vb;cases e:k.find? fun q=>q.1==p.1 with
 |none=>have:=aez.1 e p hp;simp at this
 |some q=>
  have h1:=List.mem_of_find?_eq_some e;have h2:=List.find?_some e;simp at h2;rw[<-h2];exact h1
theorem a7C{d:Dg}{r:Int}(h:fF (i64.wrap (-1-r)) d.aK.length):oq d r∈d.aK:=by
 have h1:(i64.wrap (-1-r)).toNat<d.aK.length:=by have:=h.1;have:=h.2;omega
 unfold oq;simp[List.getD,a0n h1]
theorem Ik{d:Dg}(P:Cs->Prop){F:Nat}{r:Int}{x:Cs}(h:P x)(hs:∀j y,j<(aj d r).ay.length->P y->P (bV d F ((aj d r).ay.getD j 0) y).2) :
  (aU (fun j (y:LI0×Cs)=>(y.1.set j (bV d F ((aj d r).ay.getD j 0) y.2).1,(bV d F ((aj d r).ay.getD j 0) y.2).2)) (aj d r).ay.length 0 (List.replicate (aj d r).ay.length 0,x)).1.length=(aj d r).ay.length∧P (aU (fun j (y:LI0×Cs)=>(y.1.set j (bV d F ((aj d r).ay.getD j 0) y.2).1,(bV d F ((aj d r).ay.getD j 0) y.2).2)) (aj d r).ay.length 0 (List.replicate (aj d r).ay.length 0,x)).2:=
 bU (g:=fun j (y:LI0×Cs)=>(y.1.set j (bV d F ((aj d r).ay.getD j 0) y.2).1,(bV d F ((aj d r).ay.getD j 0) y.2).2)) (m:=(aj d r).ay.length) (k:=0) (s:=(List.replicate (aj d r).ay.length 0,x)) (fun _ y=>y.1.length=(aj d r).ay.length∧P y.2) ⟨by simp,h⟩ (fun j y _ hj hy=>⟨by simp[hy.1],hs j y.2 (by omega) hy.2⟩)
theorem XV{d:Dg}:∀(F:Nat) (r s:Int) (x:Cs),r<s->s∉x.k.map (·.1)->0<=s->(∀i,i<d.au.length->∀k,k<(fE d i).ay.length->(fE d i).ay.getD k 0<i)->(0<=r->fF r d.au.length)->s∉(bV d F r x).2.k.map (·.1)
 | 0,_,_,_,_,h,_,_,_=>h
 |F+1,r,s,x,hr,h,h0,hk,hn=>by
  unfold bV;by_cases c:r<0
  .rw[a0u (by simpa using c)];exact h
  rw[a0q (by simpa using c)];split
  .exact h
  have hi:=hn (by omega);have E8:∀k,k<(aj d r).ay.length->(aj d r).ay.getD k 0<r:=fun k kN=>by obtain⟨i1,i2⟩:=hi;have h9:(aj d r).ay.getD k 0<(r.toNat:Int):=hk r.toNat (by omega) k kN;omega
  have:=(Ik (d:=d) (fun y=>s∉y.k.map (·.1)) (F:=F) (r:=r) h (fun j y hj hy=>XV F _ s y (by have:=E8 j hj;omega) hy h0 hk fun h5=>⟨h5,by have:=hi.2;have:=E8 j hj;omega⟩)).2;simp only[a4s,a3c,adE];exact⟨this,by simp;omega⟩
theorem PS{d:Dg}(h:Ce d):∀(F:Nat) (r:Int) (x:Cs),DR d x->jC d r d.au.length->DR d (bV d F r x).2
 | 0,_,_,hx,_=>hx
 |F+1,r,x,hx,hr=>by
  unfold bV;by_cases c:r<0
  .rw[a0u (by simpa using c)];refine⟨Va hx.e1,fun v hv=>?_,hx.n1,hx.n2,hx.k1,hx.k2⟩;have hv:v∈fC x.e (oq d r):=hv;unfold fC at hv;split at hv
   .exact hx.e2 v hv
   rcases a3c.1 hv with hv|hv
   .exact hx.e2 v hv
   rw[a2D.1 hv];exact a7C (hr.2 c)
  rw[a0q (by simpa using c)];split
  .exact hx
  rename_i c2;have aQ:r.toNat<d.au.length:=by have:=hr.1;omega
  have Cj:∀k,k<(aj d r).ay.length->(aj d r).ay.getD k 0<r:=fun k kN=>by have h9:=(h.zS r.toNat aQ k kN).1;have h9:(aj d r).ay.getD k 0<(r.toNat:Int):=h9;omega
  have hb:=(Ik (d:=d) (fun y=>DR d y∧r∉y.k.map (·.1)) (F:=F) (r:=r) ⟨hx,by simpa using c2⟩ (fun j y hj hy=>by have KX:jC d ((aj d r).ay.getD j 0) d.au.length:=⟨by have:=Cj j hj;have:=hr.1;omega,(h.zS r.toNat aQ j hj).2⟩;refine⟨PS h F _ y hy.1 KX,XV F _ r y (Cj j hj) hy.2 (by omega) (fun i hi k hk=>(h.zS i hi k hk).1) (fun h5=>⟨h5,by have:=KX.1;omega⟩)⟩)).2
  obtain⟨hb,yu⟩:=hb;refine⟨hb.e1,hb.e2,QI hb.n1,?_,?_,?_⟩
  .have:=XU (aU (fun j (y:LI0×Cs)=>(y.1.set j (bV d F ((aj d r).ay.getD j 0) y.2).1,(bV d F ((aj d r).ay.getD j 0) y.2).2)) (aj d r).ay.length 0 (List.replicate (aj d r).ay.length 0,x)).2.n (aj d r).var (aU (fun j (y:LI0×Cs)=>(y.1.set j (bV d F ((aj d r).ay.getD j 0) y.2).1,(bV d F ((aj d r).ay.getD j 0) y.2).2)) (aj d r).ay.length 0 (List.replicate (aj d r).ay.length 0,x)).1;have:=hb.n2;simp only[a1o,a3j];omega
  .simp only[a4s,a4t,abS];exact xE hb.k1 yu
  intro a ha;simp only[a4s,a3c,a4t,abS,a2D]at ha;rcases ha with ha|rfl
  .exact hb.k2 a ha
  exact⟨by omega,by omega⟩
open Go Tw Pv dB
abbrev hCl(l:Lo)(x:Cs)(ks:LI0):List (PB aC):=HC' l x++[oI true true ks]
abbrev wCl(l:Lo)(r:Int)(i:Int)(y:LI0×Cs)(x:List (Nat×PE aC)):aT aC:=⟨[(0,xi r),(1,.val (.ptr 8 0 1)),(3,.val (.ptr 10 0 1)),(4,.val (.ptr 11 0 1)),(9,.loc 0 0),(10,xo 14),(43,xL 3 (aj l.d r).ay),(44,xi (aj l.d r).ay.length),(45,xi i)]++x,[(aj l.d r).ps],hCl l y.2 y.1⟩
theorem lCl{M:Nat}(hO:Ok M DN){d:Dg}{F:Nat}{r:Int}(hk:(aj d r).ay.length<=12)(Q:Cs->Prop){x:Cs}(hx:Q x)(hq:∀j y,j<(aj d r).ay.length->Q y->Q (bV d F ((aj d r).ay.getD j 0) y).2)(hs:∀j y,j<(aj d r).ay.length->Q y->bZ X0 Qp (iC M) (.fn 195 [] pC) [.int .i64 ((aj d r).ay.getD j 0)] (HC (yY d) y) (.int .i64 (bV d F ((aj d r).ay.getD j 0) y).1) (HC' (yY d) (bV d F ((aj d r).ay.getD j 0) y).2)) :
  Ii M 195 0 12 (wCl (yY d) r 0 (List.replicate (aj d r).ay.length 0,x) []) (.exit 0) (wCl (yY d) r (aj d r).ay.length (aU (fun j (y:LI0×Cs)=>(y.1.set j (bV d F ((aj d r).ay.getD j 0) y.2).1,(bV d F ((aj d r).ay.getD j 0) y.2).2)) (aj d r).ay.length 0 (List.replicate (aj d r).ay.length 0,x)) [(46,xl false)]):=by
 refine vM (σ:=LI0×Cs) (N:=(aj d r).ay.length) (g:=fun j (y:LI0×Cs)=>(y.1.set j (bV d F ((aj d r).ay.getD j 0) y.2).1,(bV d F ((aj d r).ay.getD j 0) y.2).2)) (s0:=(List.replicate (aj d r).ay.length 0,x)) (st:=fun k y=>wCl (yY d) r k y []) (fin:=fun y=>wCl (yY d) r (aj d r).ay.length y [(46,xl false)]) (fun _ y=>y.1.length=(aj d r).ay.length∧Q y.2) (by kernel_rfl) (m12 hk) ⟨by simp,hx⟩ (fun j y hj hy=>⟨by simp[hy.1],hq j y.2 hj hy.2⟩) (fun j y hj hy m e p g=>?_) (fun y _=>aN hO (.b (fH (aj d r).ay.length) .ex));have h1:=hs j y.2 hj hy.2;have h2:fF j y.1.length:=aG (by rw[hy.1];exact hj);generalize bV d F ((aj d r).ay.getD j 0) y.2=z at h1 g;obtain⟨v,z⟩:=z;exact aN hO (.b (bF hj) (.o (aG hj) (.fr [0,1,2,3,4,12,13,7,8,9,10,11] h1 (.o h2 (.goG [.gc [15,16,14]] g)))))
theorem Ew(k:List (Int×Int)):(LD k).map (·.1)=k.map (·.1):=by unfold LD;rw[a8m];rfl
theorem apz{n:Nat}(hO:Ok n DN)(k:Int):iW n (.fn 197 [] []) [.int .i64 k] [] (iA.put (i64.wrap (-1-k))) []:=
 pO.aaE hX (hO 197 [.int .i64 k] (iA.put (i64.wrap (-1-k))) [] [] (by kernel_rfl) (fun q hq=>by cases hq)) rfl rfl rfl rfl
theorem sCl{N:Nat}(hO:∀m,N<=m->Ok m DN){d:Dg}(h:Ce d)(he:d.aK.length+1<=ah)(hn:d.au.length+1<=ah)(h1k:∀i,i<d.au.length->1<=(fE d i).ay.length):∀(F:Nat) (r:Int) (x:Cs),r+1<F->DR d x->jC d r d.au.length->1<=F->bZ X0 Qp (iC (N+F+6)) (.fn 195 [] pC) [.int .i64 r] (HC (yY d) x) (.int .i64 (bV d F r x).1) (HC' (yY d) (bV d F r x).2)
 | 0,r,x,_,_,_,h1=>by omega
 |F+1,r,x,hF,hx,hr,_=>by
  rw[show N+(F+1)+6=N+F+6+1 by omega];have Gg:=hO (N+F+6) (by omega);have IV:=hO (N+F+5) (by omega);unfold bV;by_cases c:r<0
  .have t0:decide (r<0)=true:=(by simpa using c);rw[a0u t0];have hi:fF (i64.wrap (-1-r)) d.aK.length:=hr.2 c;have hs:=apw IV (a:=d.aA) (b:=d.aH) (E:=x.e) (nd:=x.n) (r:=0) (nm:=kK.es (yX x.n)) (oq d r) hx.e1 (by have:=hx.akn;omega);exact fK Gg (first:=[]) (.b t0 (.fr [] (apz Gg r) (.o hi (.fr [0,1,2,3,4,5,6] hs .er))))
  have t0:decide (r<0)=false:=by simpa using c
  rw[a0q (by rw[t0];simp)];have aQ:r.toNat<d.au.length:=by have:=hr.1;omega
  by_cases c2:r∈x.k.map (·.1)
  .rw[a0u (by simpa using c2)];have hf:qB X0 Qp 3 (kI.es (LD x.k)) (kI.tv r) (.int .i64 (Vb x.k r)):=kI.found (by rw[Ew];exact hx.k1) (a1k.2 ⟨(r,Vb x.k r),a1P c2,rfl⟩);generalize Vb x.k r=v at hf ⊢;exact bZ.gs hX (jV hX Gg (first:=[]) (H1:=HC (yY d) x) (v:=.int .i64 v) (by kernel_rfl) (.b t0 (.c (.int .i64 v) [] hf (.b (rfl:true=true) .er)))) [.mv 5,.mv 6] rfl
  rw[a0q (by simpa using c2)];have Cj:∀k,k<(aj d r).ay.length->(aj d r).ay.getD k 0<r:=fun k kN=>by have h9:=(h.zS r.toNat aQ k kN).1;have h9:(aj d r).ay.getD k 0<(r.toNat:Int):=h9;omega
  have KX:∀j,j<(aj d r).ay.length->jC d ((aj d r).ay.getD j 0) d.au.length:=fun j hj=>⟨by have:=Cj j hj;have:=hr.1;omega,(h.zS r.toNat aQ j hj).2⟩;have Kz:(aj d r).ay.length<=12:=h.JD r.toNat aQ;have hq:∀j y,j<(aj d r).ay.length->(DR d y∧r∉y.k.map (·.1))->DR d (bV d F ((aj d r).ay.getD j 0) y).2∧r∉(bV d F ((aj d r).ay.getD j 0) y).2.k.map (·.1):=fun j y hj hy=>
   ⟨PS h F _ y hy.1 (KX j hj),XV F _ r y (Cj j hj) hy.2 (by omega) (fun i hi k hk=>(h.zS i hi k hk).1) (fun h5=>⟨h5,by have:=(KX j hj).1;omega⟩)⟩
  have hl:=lCl Gg (d:=d) (F:=F) (r:=r) Kz (fun y=>DR d y∧r∉y.k.map (·.1)) (x:=x) ⟨hx,c2⟩ hq (fun j y hj hy=>sCl hO h he hn h1k F _ y (by have:=Cj j hj;omega) hy.1 (KX j hj) (by omega));obtain⟨g1,g2,g3⟩:=Ik (d:=d) (fun y=>DR d y∧r∉y.k.map (·.1)) (F:=F) (r:=r) (x:=x) ⟨hx,c2⟩ hq;generalize aU (fun j (y:LI0×Cs)=>(y.1.set j (bV d F ((aj d r).ay.getD j 0) y.2).1,(bV d F ((aj d r).ay.getD j 0) y.2).2)) (aj d r).ay.length 0 (List.replicate (aj d r).ay.length 0,x)=y at hl g1 g2 g3;obtain⟨ks,e,nd,kn⟩:=y;have g1:ks.length=(aj d r).ay.length:=g1;have EX:1<=ks.length∧ks.length<=12:=by rw[g1];exact⟨h1k r.toNat aQ,Kz⟩
  have hN:nd.length+1<=ah:=by have:=g2.JD;have:=g2.n2;simp at *;omega
  have hs:=akm (n:=N+F) IV (a:=d.aA) (b:=d.aH) (E:=e) (nd:=nd) (r:=0) (aj d r).var ks EX g2.n1 hN;have f0:nV X0 Qp 3 (kI.es (LD x.k)) (kI.tv r):=kI.fresh (by rw[Ew];exact c2);have f1:nV X0 Qp 3 (kI.es (LD kn)) (kI.tv r):=kI.fresh (by rw[Ew];exact g3);have f2:=kI.ck r;show bZ X0 Qp _ _ _ _ (.int .i64 (eH nd (aj d r).var ks)) (HC' (yY d) ⟨e,dG nd (aj d r).var ks,kn++[(r,eH nd (aj d r).var ks)]⟩);generalize eH nd (aj d r).var ks=v at hs ⊢;generalize dG nd (aj d r).var ks=nd' at hs ⊢;have em:kI.es (LD (kn++[(r,v)]))=kI.es (LD kn)++[(kI.pv r,.int .i64 v)]:=by show List.map _ (List.map _ (kn++[(r,v)]))=_;rw[a4s,a4s];rfl
  have f3:qB X0 Qp 3 (kI.es (LD kn)++[(kI.pv r,.int .i64 v)]) (kI.tv r) (.int .i64 v):=by rw[<-em];exact kI.found (by rw[Ew,a4s];exact xE g2.k1 g3) (a1k.2 ⟨(r,v),by simp,rfl⟩)
  have hi:fF r d.au.length:=⟨by omega,hr.1⟩;have hm:((aj d r).ay.length:Int)<=(ah:Int):=by have:=m12 Kz;omega
  show bZ X0 Qp _ _ _ _ _ ([_,_,_,_,_,_,_]++[_,_,.map (kI.es (LD (kn++[(r,v)]))),_,_]++[_,_]);rw[em];exact bZ.gs hX (jV hX Gg (first:=[]) (v:=.int .i64 v) (H1:=[.list false false 3 d.aA,.list false false 3 d.aH,.map (kV.es (zU e)),.map (kK.es (yX nd')),mkC d.aA d.aH 15 16 0,.gone,.gone,.aF (yY d).ps,.aF [.ptr 4 0 9],.map (kI.es (LD kn)++[(kI.pv r,.int .i64 v)]),.aF [.map 9],.aF [.fn 195 [] pC],.gone,.gone,.gone,zV e,zW nd']) (by kernel_rfl) (.b t0 (.q (.bool false) f0 (.b (rfl:false=false) (.o hi (.o (show((aj d r).ay.length:Int)=((aj d r).ay.length:Int)from rfl) (.o (show(0:Int)<=((aj d r).ay.length:Int) by omega) (.o hm (.wG [.mv 5,.mv 6,.gc [13,14,12]] hl (.fr [0,1,2,3,4,12,13,14] hs (.q (.bool false) f2 (.o f1 (.c (.int .i64 v) [] f3 .er))))))))))))) [.gc [15,16]] rfl
open Go Tw Pv dB
abbrev PU(a b:List V)(k:Nat):Bool:=!(decide (a.getD k V0=b.getD k V0))
abbrev afJ(a b:List V)(i:Int)(x:List (Nat×PE aC)):aT aC:=⟨[(0,xL 39 a),(1,xL 39 b),(12,xi a.length),(13,xi i)]++x,[],[]⟩
def z227(a b:List V):Unit⊕Nat->Ex×aT aC
 |.inl _=>(.exit 0,afJ a b a.length [(14,xl false)])
 |.inr _=>(.ret,⟨[(4,xl false)],[],[]⟩)
theorem ako{n:Nat}{fV:fB aC}(hO:Ok n fV)(a b:List V)(hl:a.length<=ah)(h:a.length=b.length):Lp n 227 0 (afJ a b 0 []) (z227 a b (bK (PU a b) a.length)).1 (z227 a b (bK (PU a b) a.length)).2:=
 jh (st:=fun i _=>afJ a b i []) (fun _ _=>True) (by kernel_rfl) hl trivial (fun k s m hk _ ih=>aN hO (.b (bF hk) (.o (aG hk) (.o (aG (h▸hk)) (.q (.bool (!(decide (a.getD k V0=b.getD k V0)))) (neV (.tmp 19) (.tmp 23) (a.getD k V0) (b.getD k V0)) (.ls (.ou nofun) (.nx (ih _ trivial)))))))) (fun s _=>aN hO (.b (fH a.length) (.ou nofun)))
theorem aaJ{a b:List V}(h:a.length=b.length):a=b↔∀j,j<a.length->a.getD j V0=b.getD j V0:=by
 constructor
 .rintro rfl j _;rfl
 intro h2;apply a9J h;intro j h3 h4;have:=h2 j h3;simpa[List.getD,a0n h3,a0n h4]using this
theorem PW{a b:List V}(h:a.length=b.length):kU (bK (PU a b) a.length)=decide (a=b):=by rw[a4J,eG,a1n,aaJ h];simp[PU]
theorem aaK{α:Type}[DecidableEq α]{a b:List α}(h:((a.length:Int) != (b.length:Int))=true):decide (a=b)=false:=by rw[a2K];rintro rfl;simp at h
def adk:fB aC:=cu 227 (a2 vsA vsA) tA (fun p=>decide (p.1=p.2)) (fun p=>[p.1.length<=ah]) DN
theorem akp:Gd adk:=ade.add fun n hO p hp=>aO hO (.s (fun h=>.v false (aaK h).symm) fun h=>.z (c:=kU (bK (PU p.1 p.2) p.1.length)) (fun h2=>.w (kZ (ako hO p.1 p.2 (hp _ iD) (lU h)) () h2) (.v true (by rw[<-PW (lU h),h2]))) fun h2=>.w (l7 (ako hO p.1 p.2 (hp _ iD) (lU h)) 0 h2) (.v false (by rw[<-PW (lU h),h2])))
def Vd(x y:Br):Bool:=if(x.var==y.var)=true then decide (x.ay=y.ay)else false
def a7D:fB aC:=cu 226 (a2 brA brA) tA (fun p=>Vd p.1 p.2) (fun p=>[p.1.ay.length<=ah]) adk
theorem akq:Gd a7D:=akp.add fun n hO p hp=>aO hO (.ss (.o (hp _ iD) .rr) .rr)
abbrev wEB(a b:List Br)(i:Int)(x:List (Nat×PE aC)):aT aC:=⟨[(1,xL 105 b),(2,.val (.fn 226 [] [])),(15,xL 105 a),(16,xi a.length),(17,xi i)]++x,[],[]⟩
abbrev cEB(a b:List Br)(k:Nat):Bool:=!(Vd (a.getD k kW) (b.getD k kW))
def zEB(a b:List Br):Unit⊕Nat->Ex×aT aC
 |.inl _=>(.exit 0,wEB a b a.length [(18,xl false)])
 |.inr k=>(.ret,⟨[(6,xl false)],[(a.getD k kW).ps,(b.getD k kW).ps],[]⟩)
theorem lEB{n:Nat}(hO:Ok n a7D)(a b:List Br)(hl:a.length<=ah)(h:a.length=b.length)(hk:∀k,k<a.length->(a.getD k kW).ay.length<=ah):Lp n 228 0 (wEB a b 0 []) (zEB a b (bK (cEB a b) a.length)).1 (zEB a b (bK (cEB a b) a.length)).2:=
 jh (st:=fun i _=>wEB a b i []) (fun _ _=>True) (by kernel_rfl) hl trivial (fun k s m kN _ ih=>aN hO (.b (bF kN) (.o (aG kN) (.o (aG (h▸kN)) (.o (hk k kN) (.ls (.ou nofun) (.nx (ih _ trivial)))))))) (fun s _=>aN hO (.b (fH a.length) (.ou nofun)))
def Il(a b:List Br):Bool:=if((a.length:Int) != (b.length:Int))=true then false else if kU (bK (cEB a b) a.length)=true then true else false
def adl:fB aC:=cu 228 (a3 aal aal (fnA 226)) tA (fun p=>Il p.1 p.2.1) (fun p=>[p.1.length<=ah,∀k,k<p.1.length->(p.1.getD k kW).ay.length<=ah]) a7D
theorem akr:Gd adl:=akq.add fun n hO p hp=>aO hO (.sh (fun _=>.rr) fun h=>.zh (fun h2=>.w (kZ (lEB hO p.1 p.2.1 (hp _ iD) (lU h) (hp (∀k,k<p.1.length->(p.1.getD k kW).ay.length<=ah) (.tail _ (.head _)))) () h2) .rr) fun h2=>.w (l7 (lEB hO p.1 p.2.1 (hp _ iD) (lU h) (hp (∀k,k<p.1.length->(p.1.getD k kW).ay.length<=ah) (.tail _ (.head _)))) 0 h2) .rr)
def Io(a b:Dg):Bool:=if decide (a.aA=b.aA)=true then(if decide (a.aH=b.aH)=true then(if decide (a.aK=b.aK)=true then(if Il a.au b.au=true then a.root==b.root else false)else false)else false)else false
def adn:fB aC:=cu 203 (a2 dA dA) tA (fun p=>Io p.1 p.2) (fun p=>[p.1.aA.length<=ah,p.1.aH.length<=ah,p.1.aK.length<=ah,p.1.au.length<=ah,∀k,k<p.1.au.length->(p.1.au.getD k kW).ay.length<=ah]) adl
theorem aks:Gd adn:=akr.add fun n hO p hp=>aO hO (.o (hp _ iD) (.ss (.o (hp _ xM) (.ss (.o (hp _ hh2) (.ss (.o (hp _ (.tail _ (.tail _ (.tail _ (.head _))))) (.o (hp (∀k,k<p.1.au.length->(p.1.au.getD k kW).ay.length<=ah) (.tail _ (.tail _ (.tail _ (.tail _ (.head _)))))) (.ss .rr .rr))) .rr)) .rr)) .rr))
theorem XW{x y:Br}:Vd x y=true↔x=y:=by obtain⟨a,b⟩:=x;obtain⟨c,e⟩:=y;unfold Vd;simp only[Br.mk.injEq];by_cases h:a=c<;>simp[h]
theorem a3P{a b:List Br}:Il a b=true↔a=b:=by
 unfold Il;by_cases h:a.length=b.length
 .rw[a0q (by simp;omega)];have e:kU (bK (cEB a b) a.length)=true↔a=b:=by
   rw[eG];constructor
   .intro h1;apply a9J h;intro j h3 h4;have:=h1 j h3;simp only[cEB,adI]at this;have:=XW.1 this;simpa[List.getD,a0n h3,a0n h4]using this
   rintro rfl j _;simp only[cEB,adI];exact XW.2 rfl
  rw[<-e];cases kU (bK (cEB a b) a.length)<;>simp
 rw[a0u (by simp;omega)];constructor
 .intro h1;cases h1
 rintro rfl;exact absurd rfl h
theorem a1Q{a b:Dg}:Io a b=true↔a=b:=by
 obtain⟨a1,a2,a3,a4,a5⟩:=a;obtain⟨b1,b2,b3,b4,b5⟩:=b;unfold Io;simp only[Dg.mk.injEq];by_cases h1:a1=b1
 .by_cases h2:a2=b2
  .by_cases h3:a3=b3
   .have h4:=a3P (a:=a4) (b:=b4);cases e:Il a4 b4
    .rw[e]at h4;simp[h1,h2,h3];intro h5;exact absurd h5 (by simpa using h4)
    rw[e]at h4;simp at h4;simp[h1,h2,h3,h4]
   simp[h3]
  simp[h2]
 simp[h1]
open Go Tw Pv dB
def xO(s:LI0×LI0)(x:Int):Int:=if x<0 then i64.wrap (-1-(s.2.idxOf (ji x):Nat))else(s.1.idxOf x:Nat)
def VL(s:LI0×LI0)(x:Int):Prop:=(x<0->ji x∈s.2)∧(0<=x->x∈s.1)
def KS(d:Dg)(s:LI0×LI0):Cs:=⟨s.2.map fun e=>d.aK.getD e.toNat V0,s.1.map fun o=>⟨(aj d o).var,(aj d o).ay.map (xO s)⟩,s.1.map fun o=>(o,xO s o)⟩
def JF(d:Dg)(s:LI0×LI0):Prop:=∀o∈s.1,∀k∈(aj d o).ay,VL s k
theorem Ve{s:LI0×LI0}{x:Int}(l:LI0)(h:VL s x):xO (s.1,s.2++l) x=xO s x:=by
 unfold xO;split
 .rename_i c;rw[aa4,a0u (h.1 c)]
 rfl
theorem Ip{s:LI0×LI0}{x:Int}(l:LI0)(h:VL s x):xO (s.1++l,s.2) x=xO s x:=by
 unfold xO;split
 .rfl
 rename_i c;rw[aa4,a0u (h.2 (by omega))]
theorem afL{d:Dg}{s:LI0×LI0}(hk:JF d s)(hn:∀o∈s.1,0<=o)(e:Int):KS d (s.1,s.2++[e])=⟨(KS d s).e++[d.aK.getD e.toNat V0],(KS d s).n,(KS d s).k⟩:=by
 unfold KS;simp only[a4s,a4t,abS,Cs.mk.injEq,true_and];constructor
 .apply a4V;intro o ho;congr 1;apply a4V;intro k kN;exact Ve [e] (hk o ho k kN)
 apply a4V;intro o ho;rw[Ve [e] ⟨fun c=>absurd (hn o ho) (by omega),fun _=>ho⟩]
theorem aaL{d:Dg}{s:LI0×LI0}(hk:JF d s)(hn:∀o∈s.1,0<=o){r:Int}(h0:0<=r)(hr:r∉s.1)(KX:∀k∈(aj d r).ay,VL s k):KS d (s.1++[r],s.2)=⟨(KS d s).e,(KS d s).n++[⟨(aj d r).var,(aj d r).ay.map (xO s)⟩],(KS d s).k++[(r,(s.1.length:Int))]⟩:=by
 unfold KS;simp only[a4s,a4t,abS,Cs.mk.injEq,true_and];refine⟨?_,?_⟩
 .congr 1
  .apply a4V;intro o ho;congr 1;exact a4V fun k kN=>Ip [r] (hk o ho k kN)
  congr 2;exact a4V fun k kN=>Ip [r] (KX k kN)
 congr 1
 .apply a4V;intro o ho;rw[Ip [r] ⟨fun c=>absurd (hn o ho) (by omega),fun _=>ho⟩]
 congr 2;unfold xO;rw[a0q (by omega)];simp[aa4,hr]
theorem akt{a b:Nat}(ha:a<=2^61)(hb:b<=2^61)(h:i64.wrap (-1-(a:Int))=i64.wrap (-1-(b:Int))):a=b:=by rw[eP (by omega) (by omega),eP (by omega) (by omega)]at h;omega
theorem a1R{l:LI0}{a b:Int}(ha:a∈l)(hb:b∈l)(h:l.idxOf a=l.idxOf b):a=b:=by have h1:=a8Z (a4H.2 ha);have h2:=a8Z (a4H.2 hb);rw[<-h1,<-h2];congr 1
theorem a7E{x y:Int}(hx:Gi x)(hy:Gi y)(cx:x<0)(cy:y<0)(h:ji x=ji y):x=y:=by unfold ji at h;rw[Nb hx cx,Nb hy cy]at h;omega
theorem a1S{s:LI0×LI0}(hs:s.2.length<=2^61){x y:Int}(hx:VL s x)(hy:VL s y)(wx:Gi x)(wy:Gi y)(h:xO s x=xO s y):x=y:=by
 have lt:∀z,z∈s.2->s.2.idxOf z<=2^61:=fun z hz=>a4Z (a9I (a4H.2 hz)) hs;unfold xO at h;by_cases cx:x<0
 .rw[a0u cx]at h;by_cases cy:y<0
  .rw[a0u cy]at h;exact a7E wx wy cx cy (a1R (hx.1 cx) (hy.1 cy) (akt (lt _ (hx.1 cx)) (lt _ (hy.1 cy)) h))
  rw[a0q cy]at h;have:=lt _ (hx.1 cx);rw[eP (by omega) (by omega)]at h;omega
 rw[a0q cx]at h;by_cases cy:y<0
 .rw[a0u cy]at h;have:=lt _ (hy.1 cy);rw[eP (by omega) (by omega)]at h;omega
 rw[a0q cy]at h;exact a1R (hx.2 (by omega)) (hy.2 (by omega)) (by omega)
open Go Tw Pv dB
def Ext(s t:LI0×LI0):Prop:=∃a b,t=(s.1++a,s.2++b)
theorem Ext.refl(s:LI0×LI0):Ext s s:=⟨[],[],by simp⟩
theorem Ext.trans{s t u:LI0×LI0}(h:Ext s t)(h2:Ext t u):Ext s u:=by obtain⟨a,b,rfl⟩:=h;obtain⟨c,e,rfl⟩:=h2;exact⟨a++c,b++e,by simp⟩
theorem VL.ext{s t:LI0×LI0}{x:Int}(h:VL s x)(he:Ext s t):VL t x:=by obtain⟨a,b,rfl⟩:=he;exact⟨fun c=>a5j _ (h.1 c),fun c=>a5j _ (h.2 c)⟩
theorem aaM{s t:LI0×LI0}{x:Int}(h:VL s x)(he:Ext s t):xO t x=xO s x:=by have hc:=h;obtain⟨a,b,rfl⟩:=he;have h2:VL (s.1,s.2++b) x:=⟨fun c=>a5j _ (h.1 c),h.2⟩;rw[<-Ve b h,<-Ip a h2]
theorem TA{α β:Type}{g1:Nat->α->α}{g2:Nat->β->β}(R:Nat->α->β->Prop):∀(m k:Nat) (a:α) (b:β),R k a b->(∀j a b,k<=j->j<k+m->R j a b->R (j+1) (g1 j a) (g2 j b))->R (k+m) (aU g1 m k a) (aU g2 m k b)
 | 0,_,_,_,h,_=>h
 |m+1,k,a,b,h,hs=>by have:=TA R m (k+1) (g1 k a) (g2 k b) (hs k a b (a0E _) (by omega) h) (fun j a b h1 h2=>hs j a b (by omega) (by omega));rw[show k+(m+1)=k+1+m by omega];exact this
theorem a1T{α β:Type}[BEq α][LawfulBEq α][BEq β][LawfulBEq β]{f:α->β}{a:α}:∀{l:List α},(∀b∈l,f b=f a->b=a)->(l.map f).idxOf (f a)=l.idxOf a
 | [],_=>rfl
 |c::l,h=>by
  rw[a4t,adF,adF,a1T fun b hb=>h b (a3h _ hb)];by_cases hc:c=a
  .subst hc;simp
  have:¬(f c=f a):=fun e=>hc (h c (.head _) e);rw[show(c==a)=false by simpa using hc,show(f c==f a)=false by simpa using this]
structure DgD(d:Dg):Prop where
 aK:d.aK.Nodup
 au:∀i j,i<d.au.length->j<d.au.length->(fE d i).var=(fE d j).var->(fE d i).ay=(fE d j).ay->i=j
 flat:∀i,i<d.au.length->((fE d i).ay.all fun x=>x==(fE d i).ay.getD 0 0)=false
theorem XY{d:Dg}(h:d.aK.Nodup){a b:Int}(ha:fF a d.aK.length)(hb:fF b d.aK.length)(e:d.aK.getD a.toNat V0=d.aK.getD b.toNat V0):a=b:=by
 have h1:a.toNat<d.aK.length:=by have:=ha.1;have:=ha.2;omega
 have h2:b.toNat<d.aK.length:=by have:=hb.1;have:=hb.2;omega
 simp only[List.getD,a0n h1,a0n h2,a6k]at e;have:=(aaP h).1 e;have:=ha.1;have:=hb.1;omega
theorem afM{d:Dg}(hd:DgD d){s:LI0×LI0}(hs:JE d s){r:Int}(hr:fF (ji r) d.aK.length):(KS d s).e.idxOf (oq d r)=s.2.idxOf (ji r)∧(oq d r∈(KS d s).e↔ji r∈s.2):=by
 have hi:∀b∈s.2,(fun e:Int=>d.aK.getD e.toNat V0) b=(fun e:Int=>d.aK.getD e.toNat V0) (ji r)->b=ji r:=fun b hb e=>XY hd.aK (hs.e2 b hb) hr e;refine⟨a1T (f:=fun e:Int=>d.aK.getD e.toNat V0) (a:=ji r) hi,?_⟩;constructor
 .intro h;obtain⟨b,hb,e⟩:=a1k.1 h;rw[<-hi b hb e];exact hb
 intro h;exact a1k.2 ⟨ji r,h,rfl⟩
theorem afN{d:Dg}{s:LI0×LI0}{r:Int}(h:r∈s.1):Vb (KS d s).k r=xO s r:=by
 have h1:r∈(KS d s).k.map (·.1):=by unfold KS;rw[a8m];exact a1k.2 ⟨r,h,rfl⟩
 have h2:=a1P h1;obtain⟨o,_,e⟩:=a1k.1 h2;have e1:o=r:=congrArg Prod.fst e;have e2:xO s o=Vb (KS d s).k r:=congrArg Prod.snd e;rw[<-e2,e1]
theorem aaN{a b:LI0}(h:a.length=b.length)(ha:a.length<=12)(e:Ij a=Ij b):a=b:=by unfold Ij at e;have:=congrArg (List.take a.length) e;rw[aeT,aeT,a88 ha,List.take_append_of_le_length (a0E _),List.take_append_of_le_length (by omega),abN,h,abN]at this;exact this
theorem map_inj{α β:Type}{f:α->β}:∀{a b:List α},(∀x∈a,∀y∈b,f x=f y->x=y)->a.map f=b.map f->a=b
 | [],[],_,_=>rfl
 | [],_::_,_,h=>by simp at h
 |_::_,[],_,h=>by simp at h
 |x::a,y::b,hi,h=>by simp only[a4t,aed]at h;rw[hi x (.head _) y (.head _) h.1,map_inj (fun u hu v hv=>hi u (a3h _ hu) v (a3h _ hv)) h.2]
open Go Tw Pv dB
structure Alk(d:Dg)(F:Nat)(r:Int)(s:LI0×LI0):Prop where
 eq:bV d F r (KS d s)=(xO (jW d F r s) r,KS d (jW d F r s))
 ay:JF d (jW d F r s)
 cov:VL (jW d F r s) r
 ext:Ext s (jW d F r s)
theorem adp{d:Dg}(h:Ce d)(hw:Na d)(hd:DgD d)(he:d.aK.length<=2^61):∀(F:Nat) (r:Int) (s:LI0×LI0),r+1<F->JE d s->JF d s->jC d r d.au.length->1<=F->Alk d F r s
 | 0,r,s,_,_,_,_,h1=>by omega
 |F+1,r,s,hF,hs,hk,hr,_=>by
  have hn:∀o∈s.1,0<=o:=fun o ho=>(hs.n2 o ho).1;by_cases c:r<0
  .have t0:decide (r<0)=true:=(by simpa using c);obtain⟨q1,q2⟩:=afM hd hs (hr.2 c);have e1:bV d (F+1) r (KS d s)=(i64.wrap (-1-((KS d s).e.idxOf (oq d r):Nat)),⟨fC (KS d s).e (oq d r),(KS d s).n,(KS d s).k⟩):=by unfold bV;rw[a0u t0]
   by_cases c2:ji r∈s.2
   .have e2:jW d (F+1) r s=s:=by unfold jW;rw[a0u t0,a0q (by simpa using c2)]
    refine⟨?_,by rw[e2];exact hk,by rw[e2];exact⟨fun _=>c2,fun h0=>by omega⟩,by rw[e2];exact .refl s⟩;rw[e1,e2,q1,show fC (KS d s).e (oq d r)=(KS d s).e from a0u (q2.2 c2)];unfold xO;rw[a0u c]
   have e2:jW d (F+1) r s=(s.1,s.2++[ji r]):=by unfold jW;rw[a0u t0,a0u (by simpa using c2)]
   have hc:VL (s.1,s.2++[ji r]) r:=⟨fun _=>by simp,fun h0=>by omega⟩;have hx:Ext s (s.1,s.2++[ji r]):=⟨[],[ji r],by simp⟩;refine⟨?_,by rw[e2];exact fun o ho k kN=>(hk o ho k kN).ext hx,by rw[e2];exact hc,by rw[e2];exact hx⟩;rw[e1,e2,q1,afL hk hn,show fC (KS d s).e (oq d r)=(KS d s).e++[oq d r]from a0q (fun e=>c2 (q2.1 e))];unfold xO;rw[a0u c];simp[aa4,c2,a6m c2,oq]
  have t0:¬(decide (r<0)=true):=by simpa using c
  have yj:(KS d s).k.map (·.1)=s.1:=by unfold KS;rw[a8m];exact List.map_id _
  by_cases c2:r∈s.1
  .have e2:jW d (F+1) r s=s:=by unfold jW;rw[a0q t0,a0u (by simpa using c2)]
   have e1:bV d (F+1) r (KS d s)=(Vb (KS d s).k r,KS d s):=by unfold bV;rw[a0q t0,a0u (by rw[yj];simpa using c2)]
   refine⟨?_,by rw[e2];exact hk,by rw[e2];exact⟨fun h0=>absurd h0 c,fun _=>c2⟩,by rw[e2];exact .refl s⟩;rw[e1,e2,afN c2]
  have aQ:r.toNat<d.au.length:=by have:=hr.1;omega
  have Cj:∀k,k<(aj d r).ay.length->(aj d r).ay.getD k 0<r:=fun k kN=>by have h9:=(h.zS r.toNat aQ k kN).1;have h9:(aj d r).ay.getD k 0<(r.toNat:Int):=h9;omega
  have KX:∀j,j<(aj d r).ay.length->jC d ((aj d r).ay.getD j 0) d.au.length:=fun j hj=>⟨by have:=Cj j hj;have:=hr.1;omega,(h.zS r.toNat aQ j hj).2⟩;have a6H:=TA (g1:=fun j (y:LI0×Cs)=>(y.1.set j (bV d F ((aj d r).ay.getD j 0) y.2).1,(bV d F ((aj d r).ay.getD j 0) y.2).2)) (g2:=fun k y=>jW d F ((aj d r).ay.getD k 0) y)
   (fun j (y:LI0×Cs) (t:LI0×LI0)=>y=(((aj d r).ay.take j).map (xO t)++List.replicate ((aj d r).ay.length-j) 0,KS d t)∧JE d t∧JF d t∧Ext s t∧r∉t.1∧∀i,i<j->VL t ((aj d r).ay.getD i 0)) (aj d r).ay.length 0 (List.replicate (aj d r).ay.length 0,KS d s) s ⟨by simp,hs,hk,.refl s,c2,fun i hi=>by omega⟩ (fun j y t _ hj hy=>by
    obtain⟨rfl,y1,y2,y3,y4,y5⟩:=hy;have hj:j<(aj d r).ay.length:=(by omega);have ih:=adp h hw hd he F _ t (by have:=Cj j hj;omega) y1 y2 (KX j hj) (by omega);have Yy:=a7j F ((aj d r).ay.getD j 0) r t (Cj j hj) y4 (by omega) (fun i hi k hk=>(h.zS i hi k hk).1) (fun h5=>⟨h5,by have:=(KX j hj).1;omega⟩);have QW:=KU h F ((aj d r).ay.getD j 0) t y1 (KX j hj);obtain⟨i1,i2,i3,i4⟩:=ih;simp only[i1];generalize jW d F ((aj d r).ay.getD j 0) t=u at i2 i3 i4 Yy QW ⊢;refine⟨?_,QW,i2,y3.trans i4,Yy,fun i hi=>?_⟩
    .simp only[a0z,and_true];have hl:(List.map (xO t) (List.take j (aj d r).ay)).length=j:=by rw[a4A,a3K];omega
     rw[show(aj d r).ay.length-j=((aj d r).ay.length-(j+1))+1 by omega,ae3,List.set_append_right _ _ (by rw[hl];exact a0E j)];rw[hl,agZ,List.set_cons_zero,a5r hj,a4s,a5d];congr 1
     .apply a4V;intro x hx;obtain⟨i,hi,rfl⟩:=a4N.1 hx;have Ap:i<j:=by simp at hi;omega
      have:=y5 i Ap;rw[rX (l:=(aj d r).ay) (show i<(aj d r).ay.length by omega)]at this;rw[List.getElem_take];exact(aaM this i4).symm
     .rw[rX hj];rfl
    .by_cases Ap:i<j
     .exact(y5 i Ap).ext i4
     .rw[show i=j by omega];exact i3)
  have e1:bV d (F+1) r (KS d s)=(eH (aU (fun j (y:LI0×Cs)=>(y.1.set j (bV d F ((aj d r).ay.getD j 0) y.2).1,(bV d F ((aj d r).ay.getD j 0) y.2).2)) (aj d r).ay.length 0 (List.replicate (aj d r).ay.length 0,KS d s)).2.n (aj d r).var (aU (fun j (y:LI0×Cs)=>(y.1.set j (bV d F ((aj d r).ay.getD j 0) y.2).1,(bV d F ((aj d r).ay.getD j 0) y.2).2)) (aj d r).ay.length 0 (List.replicate (aj d r).ay.length 0,KS d s)).1,⟨(aU (fun j (y:LI0×Cs)=>(y.1.set j (bV d F ((aj d r).ay.getD j 0) y.2).1,(bV d F ((aj d r).ay.getD j 0) y.2).2)) (aj d r).ay.length 0 (List.replicate (aj d r).ay.length 0,KS d s)).2.e,dG (aU (fun j (y:LI0×Cs)=>(y.1.set j (bV d F ((aj d r).ay.getD j 0) y.2).1,(bV d F ((aj d r).ay.getD j 0) y.2).2)) (aj d r).ay.length 0 (List.replicate (aj d r).ay.length 0,KS d s)).2.n (aj d r).var (aU (fun j (y:LI0×Cs)=>(y.1.set j (bV d F ((aj d r).ay.getD j 0) y.2).1,(bV d F ((aj d r).ay.getD j 0) y.2).2)) (aj d r).ay.length 0 (List.replicate (aj d r).ay.length 0,KS d s)).1,(aU (fun j (y:LI0×Cs)=>(y.1.set j (bV d F ((aj d r).ay.getD j 0) y.2).1,(bV d F ((aj d r).ay.getD j 0) y.2).2)) (aj d r).ay.length 0 (List.replicate (aj d r).ay.length 0,KS d s)).2.k++[(r,eH (aU (fun j (y:LI0×Cs)=>(y.1.set j (bV d F ((aj d r).ay.getD j 0) y.2).1,(bV d F ((aj d r).ay.getD j 0) y.2).2)) (aj d r).ay.length 0 (List.replicate (aj d r).ay.length 0,KS d s)).2.n (aj d r).var (aU (fun j (y:LI0×Cs)=>(y.1.set j (bV d F ((aj d r).ay.getD j 0) y.2).1,(bV d F ((aj d r).ay.getD j 0) y.2).2)) (aj d r).ay.length 0 (List.replicate (aj d r).ay.length 0,KS d s)).1)]⟩):=by rw[bV,a0q t0,a0q (by rw[yj];simpa using c2)]
  have e2:jW d (F+1) r s=((aU (fun k y=>jW d F ((aj d r).ay.getD k 0) y) (aj d r).ay.length 0 s).1++[r],(aU (fun k y=>jW d F ((aj d r).ay.getD k 0) y) (aj d r).ay.length 0 s).2):=by rw[jW,a0q t0,a0q (by simpa using c2)]
  generalize aU (fun j (y:LI0×Cs)=>(y.1.set j (bV d F ((aj d r).ay.getD j 0) y.2).1,(bV d F ((aj d r).ay.getD j 0) y.2).2)) (aj d r).ay.length 0 (List.replicate (aj d r).ay.length 0,KS d s)=y at a6H e1;generalize aU (fun k y=>jW d F ((aj d r).ay.getD k 0) y) (aj d r).ay.length 0 s=t at a6H e2;obtain⟨rfl,f2,f3,f4,f5,f6⟩:=a6H;rw[a3I]at f6;simp only[a3I,abN,agZ,List.replicate_zero,a5F]at e1;have a7F:∀k∈(aj d r).ay,VL t k:=fun k kN=>by
   obtain⟨i,hi,rfl⟩:=a4N.1 kN;have:=f6 i hi
   rwa [rX hi]at this
  have hW:∀o,0<=o->fF o d.au.length->∀k∈(aj d o).ay,Gi k:=fun o _ ho k kN=>by
   obtain⟨i,hi,rfl⟩:=a4N.1 kN;have:=hw.zS o.toNat (by have:=ho.1;have:=ho.2;omega) i hi
   rwa [rX hi]at this
  have hrI:fF r d.au.length:=⟨by omega,hr.1⟩;have hel:t.2.length<=2^61:=a4Z f2.len.2 he;have adq:((aj d r).ay.map (xO t)).all (fun x=>x==((aj d r).ay.map (xO t)).getD 0 0)=false:=by
   cases e:((aj d r).ay.map (xO t)).all (fun x=>x==((aj d r).ay.map (xO t)).getD 0 0)
   .rfl
   exfalso;have hf:=hd.flat r.toNat aQ;rw[List.all_eq_false]at hf;obtain⟨x,hx,hx2⟩:=hf;have hx:x∈(aj d r).ay:=hx;have h0:0<(aj d r).ay.length:=List.length_pos_of_mem hx;rw[a4I]at e;have:=e (xO t x) (a1k.2 ⟨x,hx,rfl⟩);rw[rX (by simpa using h0),a9i]at this;have h00:(aj d r).ay[0]∈(aj d r).ay:=a4D h0;have:=a1S hel (a7F x hx) (a7F _ h00) (hW r (by omega) hrI x hx) (hW r (by omega) hrI _ h00) (by simpa using this);apply hx2;have h9:(fE d r.toNat).ay.getD 0 0=(aj d r).ay[0]:=rX h0;rw[h9,this];simp
  have aeJ:ug (aj d r).var ((aj d r).ay.map (xO t))∉(KS d t).n.map CB:=by
   intro hm;unfold KS at hm;rw[a8m]at hm;obtain⟨o,ho,e⟩:=a1k.1 hm;have Zd:=f2.n2 o ho;have LQ:o.toNat<d.au.length:=by have:=Zd.1;have:=Zd.2;omega
   have ev:(fE d o.toNat).var=(fE d r.toNat).var:=congrArg Prod.fst e;have ep:Ij ((aj d o).ay.map (xO t))=Ij ((aj d r).ay.map (xO t)):=congrArg (fun z:Ky=>z.2.val) e;have hlen:((fE d o.toNat).ay.length:Int)=((fE d r.toNat).ay.length:Int):=(by rw[h.ksz _ LQ,h.ksz _ aQ,ev]);have hlen:(aj d o).ay.length=(aj d r).ay.length:=by exact_mod_cast hlen
   have em:=aaN (by simpa using hlen) (by rw[a4A];exact h.JD _ LQ) ep;have ek:=map_inj (fun x hx y hy e=>a1S hel (f3 o ho x hx) (a7F y hy) (hW o Zd.1 Zd x hx) (hW r (by omega) hrI y hy) e) em;have:=hd.au _ _ LQ aQ ev ek;have:o=r:=by have:=Zd.1;omega
   exact f5 (this▸ho)
  have hnl:(KS d t).n.length=t.1.length:=by unfold KS;simp
  have hR:eH (KS d t).n (aj d r).var ((aj d r).ay.map (xO t))=(t.1.length:Int):=by unfold eH;rw[adq,a0q (by simp),a6m aeJ,a4A,hnl]
  have hS:dG (KS d t).n (aj d r).var ((aj d r).ay.map (xO t))=(KS d t).n++[⟨(aj d r).var,(aj d r).ay.map (xO t)⟩]:=by unfold dG;rw[adq,a0q (by simp),a0q aeJ]
  have hx:Ext t (t.1++[r],t.2):=⟨[r],[],by simp⟩;have hc:VL (t.1++[r],t.2) r:=⟨fun h0=>absurd h0 c,fun _=>by simp⟩;refine⟨?_,?_,by rw[e2];exact hc,by rw[e2];exact f4.trans hx⟩
  .rw[e1,e2,hR,hS,aaL f3 (fun o ho=>(f2.n2 o ho).1) (by omega) f5 a7F];unfold xO;rw[a0q c];simp[aa4,f5]
  rw[e2];intro o ho k kN;rcases a3c.1 ho with ho|ho
  .exact(f3 o ho k kN).ext hx
  rw[a2D.1 ho]at kN;exact(a7F k kN).ext hx
open Go Tw Pv dB
theorem PX(b:Br):xC b=b.ay.all fun x=>x==b.ay.getD 0 0:=by
 have e:kU (SH (PG b) 1 (max 1 b.ay.length))=true↔∀k,1<=k->k<b.ay.length->b.ay.getD k 0=b.ay.getD 0 0:=by
  unfold SH gS;rw[OU (r:=fun k=>k)];constructor
  .intro h k h1 h2;simpa[PG]using h k h1 (by omega)
  intro h k h1 h2;simpa[PG]using h k h1 (by omega)
 have e2:(b.ay.all fun x=>x==b.ay.getD 0 0)=true↔∀k,1<=k->k<b.ay.length->b.ay.getD k 0=b.ay.getD 0 0:=by
  rw[a4I];constructor
  .intro h k _ h2;have:=h _ (bT h2);simpa using this
  intro h x hx;obtain⟨k,hk,rfl⟩:=a4N.1 hx;by_cases h0:k=0
  .subst h0;rw[rX hk];simp
  have:=h k (by omega) hk;rw[rX hk]at this;rw[this];simp
 have:xC b=true↔(b.ay.all fun x=>x==b.ay.getD 0 0)=true:=by rw[e2,<-e];unfold xC;cases kU (SH (PG b) 1 (max 1 b.ay.length))<;>simp
 rw[a4J];exact this
theorem afO{d:Dg}:kU (bK (cD0 d) d.aK.length)=true↔d.aK.Nodup:=by
 rw[eG];have h1:∀i,cD0 d i=false↔∀j,j<i->d.aK.getD j V0≠d.aK.getD i V0:=fun i=>by
  have:kU (bK (cD1 d i) i)=true↔∀j,j<i->d.aK.getD j V0≠d.aK.getD i V0:=by rw[eG];simp[cD1]
  rw[<-this];unfold cD0;cases kU (bK (cD1 d i) i)<;>simp
 have hg:∀j,(hj:j<d.aK.length)->d.aK.getD j V0=d.aK[j]:=fun j hj=>by simp[List.getD,a0n hj]
 constructor
 .intro h;rw[ac8,ace];intro i j hi hj Ap;have:=(h1 j).1 (h j hj) i Ap
  rwa [hg i hi,hg j hj]at this
 intro h i hi;rw[h1];intro j hj;rw[ac8,ace]at h;have:=h j i (by omega) hi hj
 rwa [hg i hi,hg j (by omega)]
theorem afP{d:Dg}:kU (bK (cD2 d) d.au.length)=true↔(∀i j,i<d.au.length->j<d.au.length->(fE d i).var=(fE d j).var->(fE d i).ay=(fE d j).ay->i=j)∧∀i,i<d.au.length->((fE d i).ay.all fun x=>x==(fE d i).ay.getD 0 0)=false:=by
 rw[eG];have h1:∀i,cD2 d i=false↔xC (fE d i)=false∧∀j,j<i->¬((fE d j).var=(fE d i).var∧(fE d j).ay=(fE d i).ay):=fun i=>by
  have h3:∀j,cD3 d i j=false↔¬((fE d j).var=(fE d i).var∧(fE d j).ay=(fE d i).ay):=fun j=>by
   unfold cD3;by_cases hv:(fE d j).var=(fE d i).var
   .rw[a0u (by rw[a6P];exact hv),a2K];exact⟨fun a b=>a b.2,fun a b=>a ⟨hv,b⟩⟩
   rw[a0q (by rw[a6P];exact hv)];exact⟨fun _ a=>hv a.1,fun _=>rfl⟩
  have:kU (bK (cD3 d i) i)=true↔∀j,j<i->¬((fE d j).var=(fE d i).var∧(fE d j).ay=(fE d i).ay):=by rw[eG];exact ac7 fun j=>ac7 fun _=>h3 j
  rw[<-this];unfold cD2;cases xC (fE d i)
  .cases kU (bK (cD3 d i) i)<;>simp
  simp
 constructor
 .intro h;refine⟨fun i j hi hj hv hk=>?_,fun i hi=>by rw[<-PX];exact((h1 i).1 (h i hi)).1⟩;rcases Nat.lt_trichotomy i j with Ap|Ap|Ap
  .exact absurd ⟨hv,hk⟩ (((h1 j).1 (h j hj)).2 i Ap)
  .exact Ap
  exact absurd ⟨hv.symm,hk.symm⟩ (((h1 i).1 (h i hi)).2 j Ap)
 intro h i hi;rw[h1];refine⟨by rw[PX];exact h.2 i hi,fun j hj hc=>?_⟩;have:=h.1 j i (by omega) hi hc.1 hc.2;omega
theorem aaO{d:Dg}:(kU (bK (cD0 d) d.aK.length)=true∧kU (bK (cD2 d) d.au.length)=true)↔DgD d:=by rw[afO,afP];exact⟨fun h=>⟨h.1,h.2.1,h.2.2⟩,fun h=>⟨h.aK,h.au,h.flat⟩⟩
theorem PY{l:LI0}{m:Nat}:zQ l m=true↔l=dO m:=by
 unfold zQ;have e:kU (bK (a7e l) l.length)=true↔∀j,j<l.length->l.getD j 0=(j:Int):=by rw[eG];simp[a7e]
 constructor
 .intro h;split at h
  .rename_i h1;have hl:(l.length:Int)=(m:Int):=(by simpa using h);have hl:l.length=m:=(by omega);rw[rO (d:=0) (by rw[lW,hl])];intro j hj;rw[e.1 h1 j hj];have:j<m:=(by omega);simp[dO,List.getD,this]
  cases h
 rintro rfl;rw[a0u (e.2 fun j hj=>by rw[lW]at hj;simp[dO,List.getD,hj]),lW];simp
theorem XZ{d:Dg}:ql d=true↔DgD d∧srN d d.root=dO d.au.length∧srE d d.root=dO d.aK.length:=by
 rw[<-aaO,<-PY,<-PY];unfold ql;cases kU (bK (cD0 d) d.aK.length)
 .simp
 cases kU (bK (cD2 d) d.au.length)
 .simp
 cases zQ (srN d d.root) (d.au.length:Int)<;>simp
end Go.Proofs.YtmobpoiejckagaaGreat
