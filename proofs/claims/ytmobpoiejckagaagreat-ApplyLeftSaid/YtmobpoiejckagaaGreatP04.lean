/- Part 5 of a proof: ApplyLeft -/
import Derived.Test.YtmobpoiejckagaaGreatProg
import Derived.KernelRfl
import Derived.Test.YtmobpoiejckagaaGreatP03
set_option linter.constructorNameAsVariable false
set_option linter.unusedVariables false
set_option linter.unusedSimpArgs false
set_option linter.unusedSectionVars false
open Go.IntKind (i64)
noncomputable section
namespace Tw
open Go Go.ChangeShapes Go.WideShapes Go.RowKit
theorem JA{H:Type}{enc:LI2×LI3->H}{P:LI1}{w:LI4}{t:LI2}{ts:List LI2}{vs:List LI3}{ds:List (DataW H)}{ps:List MemPlace}(h:DataW.TrodAll enc P w 0 (fun _=>true) true (t::ts) vs ds ps):∃d e,ds=d::e∧Rd enc P w t d∧∃vs ps,DataW.TrodAll enc P w 0 (fun _=>true) true ts vs e ps:=by obtain⟨v,vs',d,ds',p,q,rfl,rfl,rfl,⟨fuel,hd⟩,O6⟩:=trodAll_cons h;exact⟨d,ds',rfl,⟨_,fuel,p,hd⟩,_,_,O6⟩
section
variable {H:Type} {P:LI1} {g:Nat} {t:LI2} {ts:List LI2} {d:DataW H} {ds:List (DataW H)} {h h1 h2:List HB} {xs:List TV}
theorem a0a{cs:List TV}(ha:wu P t=some true)(he:D7 P g t d h=some (cs,h1))(hr:UG P g ts ds h1=some (xs,h2)):UG P g (t::ts) (d::ds) h=some (.agg cs::xs,h2):=by simp only[UG,he,ha,hr]
theorem afF:UG (H:=H) P g [] [] h=some ([],h):=rfl
end
end Tw
namespace Pv
open Go Tw
section
variable {X:kX} {P:LI1} {H:Type} {nI:LI2×LI3->H} {w:LI4}
abbrev AT:Nat->Prop:=fun _=>True
def RdP(nI:LI2×LI3->H)(X:kX)(P:LI1)(w:LI4)(g t:Nat){α:Type}(ps:α->List (PV X.Γ))(Q:α->Prop):Prop:=
 ∀d,Rd nI P w t d->∃a,Q a∧∀h,∃xs ext,D7 P g t d h=some (xs,h++ext)∧∀e,bY X P AT [] (h++ext++e) (ps a) xs
theorem a1R{t g:Nat}{k:IntKind}(ht:P.underlying t=some (.int k)):RdP nI X P w (g+1) t (fun n:Int=>[.int k n]) (fun n=>(Lit.int k n).wf=true):=fun d hd=>by obtain⟨n,rfl,hn⟩:=afA ht hd;exact⟨n,hn,fun h=>⟨[.int k n],[],by simp[D7,ht],fun e=>.cons (.int _ _) .nil⟩⟩
theorem TI{e g sz:Nat}{Q:X.Γ e->Prop}(hlen:∀a,(X.enc e a).length=sz)(hr:RdP nI X P w g e (X.enc e) Q):∀(ds:List (DataW H)),(∀y∈ds,Rd nI P w e y) ->
  ∃l:List (X.Γ e),l.length=ds.length∧(∀a∈l,Q a)∧∀h,∃cs ext,X5 (D7 P g e) sz ds h=some (cs,h++ext)∧cs.length=l.length*sz∧∀e2 (j:Nat) a (i:Nat) c v,l[j]? = some a->(X.enc e a)[i]? = some c->cs[j*sz+i]? = some v->VR X P AT [] (h++ext++e2) c v
 | [],_=>⟨[],rfl,by simp,fun h=>⟨[],[],by simp[X5],by simp,fun e2 j a i c v h1=>by simp at h1⟩⟩
 |d::ds,hd=>by
  obtain⟨a,qa,ha⟩:=hr d (hd d (a3x ..));obtain⟨l,l1,l2,l3⟩:=TI hlen hr ds fun y hy=>hd y (a3y _ hy);refine⟨a::l,by simp[l1],fun b hb=>(a1Y.1 hb).elim (fun e=>e▸qa) (l2 b),fun h=>?_⟩;obtain⟨xs,e1,h1,v1⟩:=ha h;obtain⟨cs,e2,h2,c2,v2⟩:=l3 (h++e1);have hx:xs.length=sz:=by rw[<-(v1 []).1];exact hlen a
  refine⟨xs++cs,e1++e2,?_,by simp only[a1U,a4K,hx,c2,a3U];omega,fun e3 j b i c v hj hi hv=>?_⟩
  .simp only[X5,h1,hx,a2u,h2,a5A]
  .cases j with
   |zero=>
    simp only[a2Z,a0d]at hj;subst hj;have KI:i<sz:=by rw[<-hlen a];exact(a0h.1 hi).1
    rw[acF,a3W,a0C (by omega)]at hv;have:=(v1 (e2++e3)).2 i c v hi hv;simp only[a5A]at this ⊢;exact this
   |succ j=>
    rw[aa1]at hj;rw[a0T (by rw[hx,a3U];omega),hx,show(j+1)*sz+i-sz=j*sz+i by rw[a3U];omega]at hv;have:=v2 e3 j b i c v hj hi hv;simp only[a5A]at this ⊢;exact this
theorem PK{t e g sz:Nat}{Q:X.Γ e->Prop}(ht:P.underlying t=some (.slice e))(vC:P.cellsOf e=sz)(hz:dH P e=some sz)(h0:0<sz)(hlen:∀a,(X.enc e a).length=sz)(hr:RdP nI X P w g e (X.enc e) Q):RdP nI X P w (g+1) t (fun l:List (X.Γ e)=>[.dF e l false]) (fun l=>∀a∈l,Q a):=fun d hd=>by
 rcases a7b ht hd with rfl|⟨xs,ys,rfl,hy⟩
 .exact⟨[],by simp,fun h=>⟨[.nil .aP],[],by simp[D7,ht],fun e=>.cons .pK .nil⟩⟩
 .obtain⟨l,l1,l2,l3⟩:=TI hlen hr (xs++ys) hy;have hl:xs.length<=l.length:=by rw[l1,a1U];omega
  refine⟨l.take xs.length,fun a ha=>l2 a (a9I ha),fun h=>?_⟩;obtain⟨cs,e1,h1,c1,v1⟩:=l3 h;refine⟨[.aP (h++e1).length 0 xs.length (xs.length+ys.length) sz true],e1++[.cells .ro cs],?_,fun e2=>.cons ?_ .nil⟩
  .have iD:¬sz=0:=(by omega);simp only[D7,ht,vC,h1,iD,a3T,a5A]
  .have hln:(l.take xs.length).length=xs.length:=(by rw[a4C,a8a hl]);have hb:(h++(e1++[HB.cells .ro cs])++e2)[(h++e1).length]? = some (.cells .ro cs):=by rw[show h++(e1++[HB.cells .ro cs])++e2=(h++e1)++(HB.cells .ro cs::e2) by simp,a0T (a0P _),ahv];rfl
   have wF:(l.take xs.length).length<=xs.length+ys.length:=(by omega);have sF:∀(j:Nat) a,(l.take xs.length)[j]? = some a->l[j]? = some a:=fun j a hj=>by
    rw[a4R]at hj;split at hj
    .exact hj
    .cases hj
   have hle:(l.take xs.length).length*sz<=cs.length:=by rw[c1,hln];exact a3V sz hl
   generalize xs.length+ys.length=cp at wF ⊢;generalize l.take xs.length=l' at wF sF hle hln ⊢;rw[<-hln];exact VR.dF (X:=X) (P:=P) (A:=AT) (m:=[]) (t:=e) (l:=l') (fu:=false) (b:=(h++e1).length) (off:=0) (cap:=cp) (sz:=sz) (ex:=true) (cs:=cs) trivial (by unfold aW;rw[hb]) (fun _=>by unfold mG;rw[hb];simp) hz h0 (by omega) wF (by simp) (fun j a _=>hlen a) (fun j a i c v hj hi hv=>by rw[a3W]at hv;have:=v1 ([HB.cells .ro cs]++e2) j a i c v (sF j a hj) hi hv;simp only[a5A]at this ⊢;exact this)
def RdF(nI:LI2×LI3->H)(X:kX)(P:LI1)(w:LI4)(g o:Nat)(fs:List Field){α:Type}(ps:α->List (PV X.Γ))(Q:α->Prop):Prop:=
 ∀ds:List (DataW H),ds.length=fs.length->(∀(i:Nat) f d,fs[i]? = some f->ds[i]? = some d->Rd nI P w f.type d)->∃a,Q a∧∀h,∃xs ext,LH P (D7 P g) o fs ds h=some (xs,h++ext)∧∀e,bY X P AT [] (h++ext++e) (ps a) xs
theorem Vm{g o:Nat}:RdF nI X P w g o [] (fun _:Unit=>[]) (fun _=>True):=fun ds hl _=>by have:=a4I hl;subst this;exact⟨(),trivial,fun h=>⟨[],[],by simp[LH],fun e=>.nil⟩⟩
theorem rQ{g o n:Nat}{f:Field}{fs:List Field}{α β:Type}{p1:α->List (PV X.Γ)}{p2:β->List (PV X.Γ)}{Q1:α->Prop}{Q2:β->Prop}(ho:f.offset=o)(hc:P.cellsOf f.type=n)(hn:∀a,(p1 a).length=n)(h1:RdP nI X P w g f.type p1 Q1)(h2:RdF nI X P w g (o+n) fs p2 Q2):RdF nI X P w g o (f::fs) (fun x:α×β=>p1 x.1++p2 x.2) (fun x=>Q1 x.1∧Q2 x.2):=fun ds hl hd=>by
 cases ds with
 |nil=>cases hl
 |cons d ds=>
  obtain⟨a,qa,ha⟩:=h1 d (hd 0 f d rfl rfl);obtain⟨b,qb,hb⟩:=h2 ds (by simpa using hl) fun i f' d' e1 e2=>hd (i+1) f' d' e1 e2;refine⟨(a,b),⟨qa,qb⟩,fun h=>?_⟩;obtain⟨xs,e1,g1,v1⟩:=ha h;obtain⟨ys,e2,g2,v2⟩:=hb (h++e1);have hx:xs.length=n:=by rw[<-(v1 []).1];exact hn a
  refine⟨xs++ys,e1++e2,?_,fun e=>?_⟩
  .simp only[LH,g1,ho,hx,hc,acL,a2u,g2,a5A]
  .have w1:=v1 (e2++e);have w2:=v2 e;simp only[a5A]at w1 w2 ⊢;exact w1.app w2
theorem Gh{t g n:Nat}{fs:Array Field}{α:Type}{ps:α->List (PV X.Γ)}{Q:α->Prop}(ht:P.underlying t=some (.struct fs))(hc:P.cellsOf t=n)(hn:∀a,(ps a).length=n)(hf:RdF nI X P w g 0 fs.toList ps Q):RdP nI X P w (g+1) t ps Q:=fun d hd=>by
 obtain⟨ds,rfl,hl,IY⟩:=a3D ht hd;obtain⟨a,qa,ha⟩:=hf ds (by simpa using hl) fun i f d e1 e2=>IY i f d (by simpa using e1) e2;refine⟨a,qa,fun h=>?_⟩;obtain⟨xs,e1,g1,v1⟩:=ha h;have hx:xs.length=n:=by rw[<-(v1 []).1];exact hn a
 refine⟨xs,e1,?_,v1⟩;rw[XH ht,g1];simp[hx,hc]
theorem RdP.iso{t g:Nat}{α β:Type}{ps:α->List (PV X.Γ)}{Q:α->Prop}(h:RdP nI X P w g t ps Q)(f:α->β){p2:β->List (PV X.Γ)}{Q2:β->Prop}(hp:∀a,p2 (f a)=ps a)(hq:∀a,Q a->Q2 (f a)):RdP nI X P w g t p2 Q2:=fun d hd=>by obtain⟨a,qa,ha⟩:=h d hd;exact⟨f a,hq a qa,fun h=>by rw[hp];exact ha h⟩
theorem afG{T:qM}{L n f:Nat}{vs:List (PV X.Γ)}{xs:List TV}{h:List HB}(hc:nS X P (lq P T L (n+1)) f vs (PV.bool true) [])(hv:bY X P AT [] h vs xs):∃h',lq P T L (n+1) (TV.fn f [] []) xs h=some (TV.bool true,h',[]):=by
 obtain⟨x,h',m',c1,_,c3,_⟩:=hc AT h [] xs [] (fun _ _=>trivial) (by simpa using hv);have:x=TV.bool true:=by
  cases c3 with
  |bool=>rfl
  |gone hi _ _=>simp[bn]at hi
 subst this;exact⟨h',c1⟩
end
end Pv
namespace Go.Proofs.YtmobpoiejckagaaGreat
open Go Tw
structure B where
 lo:Int
 hi:Int
 f:Int
 deriving DecidableEq
structure O where
 code:Int
 a:Int
 b:Int
 c:Int
 n:Int
 deriving DecidableEq
structure K where
 name:ByteArray
 lo:Int
 hi:Int
structure V where
 f:Int
 n:Int
 deriving DecidableEq
abbrev B0:B:=⟨0,0,0⟩
abbrev O0:O:=⟨0,0,0,0,0⟩
abbrev K0:K:=⟨ByteArray.empty,0,0⟩
abbrev V0:V:=⟨0,0⟩
def qc(g:Int->Bool)(i:Nat)(x:Int)(s:Unit):(Unit)⊕(Nat×Int×(Unit)):=
 if(g x)=true then .inr (i,x,s)else .inl ()
def rU(g:Int->Bool)(l:LI0):Int:=
 if(jZ (mX (qc g) l 0 ()))=true then -1 else(((Dl (0,0,()) (mX (qc g) l 0 ())).1:Int))
def mZ(g:Int->Bool)(l:LI0):Bool:=
 decide ((rU g l)>=0)
theorem a7m(g:Int->Bool):∀(l:LI0) (i:Nat),jZ (mX (qc g) l i ())=!(l.any g)
 | [],i=>rfl
 |x::l,i=>by
  simp only[mX,qc,ae2];cases g x with
  |true=>rfl
  |false=>simpa using a7m g l (i+1)
theorem Eu(g:Int->Bool)(l:LI0):mZ g l=l.any g:=by
 have:=a7m g l 0;unfold mZ rU;rw[this];cases l.any g with
 |true=>simp
 |false=>simp
def vY(x:Int)(lo:Int)(hi:Int):Bool:=
 if(decide ((x)<(lo)))=true then true else decide ((x)>(hi))
def ng(l:LI0)(lo:Int)(hi:Int):Bool:=
 !(l.any ((fun x=>vY x lo hi)))
theorem wrap_small{z:Int}(h0:-(2^62)<=z)(h1:z<2^62):i64.wrap z=z:=by
 simp only[IntKind.wrap,IntKind.bits,IntKind.signed];rcases Int.lt_or_le z 0 with h|h
 .have:z%(2^64:Int)=z+2^64:=by have:=acp z (2^64) 1;rw[acE]at this;rw[<-this];exact a8U (by omega) (by omega)
  simp only[this];rw[a0F (by simp;omega)];omega
 have:z%(2^64:Int)=z:=a8U h (by omega);simp only[this];rw[a0E (by simp;omega)]
def nJ(k:Int)(least:Int)(ah:Int):Bool:=
 if(decide ((k)>=(least)))=true then decide ((k)<=(ah))else false
def fC(k:Int):V:=
 (⟨0,k⟩:V)
def lS(f:Int):V:=
 (⟨f,0⟩:V)
def rV(is:Bool):V:=
 if is=true then fC 1 else fC 0
def qy(k:Int):V:=
 if(decide ((k)<(-9999)))=true then lS 2 else if(decide ((k)>9999))=true then lS 2 else fC k
def JB(a:V)(b:V)(c:V):V:=
 if(decide ((a.f)>0))=true then a else if((a.n)==0)=true then c else b
def gK(a b:Int):Int:=if b<0 then(-a)/(-b)else a/b
def bI(code:Int)(a:V)(b:V):V:=
 if(decide ((a.f)>0))=true then a else if((code)==15)=true then if((a.n)==0)=true then a else if((code)==16)=true then if((a.n) != 0)=true then fC 1 else b else b else if((code)==16)=true then if((a.n) != 0)=true then fC 1 else b else if(decide ((b.f)>0))=true then b else if((code)==7)=true then qy (i64.wrap ((a.n)+(b.n)))else if((code)==8)=true then qy (i64.wrap ((a.n)-(b.n)))else if((code)==9)=true then qy (i64.wrap ((a.n)*(b.n)))else if((code)==12)=true then rV ((a.n)==(b.n))else if((code)==13)=true then rV (decide ((a.n)<(b.n)))else if((code)==14)=true then rV (decide ((a.n)<=(b.n)))else if((b.n)==0)=true then lS 1 else if((code)==10)=true then fC (gK (a.n) (b.n))else fC (i64.wrap ((a.n)-(i64.wrap ((b.n)*(gK (a.n) (b.n))))))
def jC(g:V->Bool)(i:Nat)(x:V)(s:Unit):(Unit)⊕(Nat×V×(Unit)):=
 if(g x)=true then .inr (i,x,s)else .inl ()
def iH(g:V->Bool)(l:List V):Int:=
 if(jZ (mX (jC g) l 0 ()))=true then -1 else(((Dl (0,V0,()) (mX (jC g) l 0 ())).1:Int))
def qA(g:V->Bool)(l:List V):Bool:=
 decide ((iH g l)>=0)
theorem a7n(g:V->Bool):∀(l:List V) (i:Nat),jZ (mX (jC g) l i ())=!(l.any g)
 | [],i=>rfl
 |x::l,i=>by
  simp only[mX,jC,ae2];cases g x with
  |true=>rfl
  |false=>simpa using a7n g l (i+1)
theorem JC(g:V->Bool)(l:List V):qA g l=l.any g:=by
 have:=a7n g l 0;unfold qA iH;rw[this];cases l.any g with
 |true=>simp
 |false=>simp
theorem TJ(g:V->Bool):∀(l:List V) (i:Nat),jZ (mX (jC g) l i ())=false->(Dl (0,V0,()) (mX (jC g) l i ())).1<i+l.length∧l[(Dl (0,V0,()) (mX (jC g) l i ())).1-i]? = l.find? g∧i<=(Dl (0,V0,()) (mX (jC g) l i ())).1
 | [],i,h=>by cases h
 |x::l,i,h=>by
  simp only[mX,jC]at h ⊢;by_cases hx:g x=true
  .simp only[hx,a2u,Dl,a4K,ahA];refine⟨by omega,by simp,by omega⟩
  simp only[aeo]at hx;simp only[hx,a2S,a3T,a4K,ahA]at h ⊢;obtain⟨h1,h2,h3⟩:=TJ g l (i+1) h;refine⟨by omega,?_,by omega⟩;rw[<-h2,show(Dl (0,V0,()) (mX (jC g) l (i+1) ())).1-i=((Dl (0,V0,()) (mX (jC g) l (i+1) ())).1-(i+1))+1 by omega];simp
theorem QZ(g:V->Bool)(l:List V):iH g l<l.length:=by
 unfold iH;split
 .omega
 rename_i h;have:=(TJ g l 0 (by simpa using h)).1;omega
def Vo(x:Int):Bool:=
 (x) != (x)
def JD(x:Int)(y:Int):Int:=
 if(decide ((x)<(y)))=true then -1 else if(decide ((x)>(y)))=true then 1 else 0
def Ik(f:Int):V:=
 (⟨f,0⟩:V)
def tX(x:Int)(lo:Int)(hi:Int):Bool:=
 if(decide ((x)<(lo)))=true then true else decide ((x)>(hi))
def vZ(l:LI0)(lo:Int)(hi:Int):Bool:=
 !(l.any ((fun x=>tX x lo hi)))
def wX(v:V):Bool:=
 if((v.f)==0)=true then vZ (([v.n]:LI0)) (-9999) 9999 else if(decide ((v.f)<=4))=true then(v.n)==0 else false
def oP(k:Int):V:=
 if(!(vZ (([k]:LI0)) (-9999) 9999))=true then Ik 2 else(⟨0,k⟩:V)
def PL(is:Bool):V:=
 if is=true then oP 1 else oP 0
def oh(v:V):Bool:=
 (v.f) != 0
def AX(v:V):Bool:=
 !(wX v)
def bQ(l:List V):V×Bool:=
 if(decide ((iH ((fun v=>oh v)) l)<0))=true then((⟨0,0⟩:V),false)else((l.getD (iH ((fun v=>oh v)) l).toNat V0),true)
def iq(l:List V):Bool:=
 !(l.any ((fun v=>AX v)))
def jO(a:V)(b:V)(c:V):V×Int:=
 if(!(iq (([a,b,c]:List V))))=true then((⟨0,0⟩:V),2)else if((a.f) != 0)=true then(a,0)else if((a.n)==0)=true then(c,0)else(b,0)
def JE(a:Int)(b:Int):V:=
 oP (i64.wrap ((a)+(b)))
def JF(a:Int)(b:Int):V:=
 oP (i64.wrap ((a)-(b)))
def JG(a:Int)(b:Int):V:=
 oP (i64.wrap ((a)*(b)))
def Dz(a:Int)(b:Int):Int:=
 a
def DC(a:Int)(b:Int):Int:=
 b
def DF(a:Int):Bool:=
 (a)==0
def DI(a:Int):Bool:=
 decide ((a)<0)
def DK(a:Int):Bool:=
 decide ((a)<=0)
def uP(a:Int)(b:Int):Int×Int:=
 if((OC .i64 (a) (b)) != 0)=true then if((decide ((OC .i64 (a) (b))<0)) != (decide ((b)<0)))=true then(i64.wrap ((UO .i64 (a) (b))-1),i64.wrap ((OC .i64 (a) (b))+(b)))else(UO .i64 (a) (b),OC .i64 (a) (b))else(UO .i64 (a) (b),OC .i64 (a) (b))
def iI(g:Int->Int->Int)(a:Int)(b:Int):V:=
 if((b)==0)=true then Ik 1 else oP (g ((uP a b).1) ((uP a b).2))
def dV(g:Int->Bool)(a:Int)(b:Int):V:=
 PL (g (JD a b))
def rW(a:V)(b:V):V×Int:=
 if(!(iq (([a,b]:List V))))=true then((⟨0,0⟩:V),2)else if((bQ (([a,b]:List V))).2)=true then((bQ (([a,b]:List V))).1,0)else(JE a.n b.n,0)
def rX(a:V)(b:V):V×Int:=
 if(!(iq (([a,b]:List V))))=true then((⟨0,0⟩:V),2)else if((bQ (([a,b]:List V))).2)=true then((bQ (([a,b]:List V))).1,0)else(JF a.n b.n,0)
def rY(a:V)(b:V):V×Int:=
 if(!(iq (([a,b]:List V))))=true then((⟨0,0⟩:V),2)else if((bQ (([a,b]:List V))).2)=true then((bQ (([a,b]:List V))).1,0)else(JG a.n b.n,0)
def oQ(a:V)(b:V):V×Int:=
 if(!(iq (([a,b]:List V))))=true then((⟨0,0⟩:V),2)else if((bQ (([a,b]:List V))).2)=true then((bQ (([a,b]:List V))).1,0)else(iI Dz (a.n) (b.n),0)
def oU(a:V)(b:V):V×Int:=
 if(!(iq (([a,b]:List V))))=true then((⟨0,0⟩:V),2)else if((bQ (([a,b]:List V))).2)=true then((bQ (([a,b]:List V))).1,0)else(iI DC (a.n) (b.n),0)
def oV(a:V)(b:V):V×Int:=
 if(!(iq (([a,b]:List V))))=true then((⟨0,0⟩:V),2)else if((bQ (([a,b]:List V))).2)=true then((bQ (([a,b]:List V))).1,0)else(dV DF (a.n) (b.n),0)
def oW(a:V)(b:V):V×Int:=
 if(!(iq (([a,b]:List V))))=true then((⟨0,0⟩:V),2)else if((bQ (([a,b]:List V))).2)=true then((bQ (([a,b]:List V))).1,0)else(dV DI (a.n) (b.n),0)
def oZ(a:V)(b:V):V×Int:=
 if(!(iq (([a,b]:List V))))=true then((⟨0,0⟩:V),2)else if((bQ (([a,b]:List V))).2)=true then((bQ (([a,b]:List V))).1,0)else(dV DK (a.n) (b.n),0)
def tY(a:V)(b:V):V×Int:=
 ((jO a b (oP 0)).1,(jO a b (oP 0)).2)
def tZ(a:V)(b:V):V×Int:=
 ((jO a (oP 1) b).1,(jO a (oP 1) b).2)
def gQ(code:Int)(a b:V):V:=
 if code=7 then(rW a b).1 else if code=8 then(rX a b).1 else if code=9 then(rY a b).1 else if code=10 then(oQ a b).1 else if code=11 then(oU a b).1 else if code=12 then(oV a b).1 else if code=13 then(oW a b).1 else if code=14 then(oZ a b).1 else if code=15 then(tY a b).1 else(tZ a b).1
def Il(code:Int)(a b:V):V×Int:=if code=7 then rW a b else if code=8 then rX a b else if code=9 then rY a b else if code=10 then oQ a b else if code=11 then oU a b else if code=12 then oV a b else if code=13 then oW a b else if code=14 then oZ a b else if code=15 then tY a b else tZ a b
theorem nine{p:Int}(h:7<=p∧p<=16):p=7∨p=8∨p=9∨p=10∨p=11∨p=12∨p=13∨p=14∨p=15∨p=16:=by omega
structure kY(v:V):Prop where
 f0:0<=v.f
 f1:v.f<=4
 n:v.f=0->-9999<=v.n∧v.n<=9999
 z:v.f≠0->v.n=0
theorem XT(k:Int):vZ [k] (-9999) 9999=(decide (-9999<=k)&&decide (k<=9999)):=by
 simp only[vZ,tX,ae2,List.any_nil,Bool.or_false];by_cases h:k < -9999
 .simp[h];omega
 by_cases h2:k>9999<;>simp[h,h2]<;>omega
theorem uQ{v:V}(h:kY v):wX v=true:=by
 obtain⟨f,n⟩:=v;have h0:=h.f0;have h1:=h.f1;have h2:=h.n;have h3:=h.z;simp only at h0 h1 h2 h3;unfold wX;simp only[XT,a7g];by_cases hf:f=0
 .subst hf;simp;exact h2 rfl
 simp[hf,h1,h3 hf]
theorem aph{a b:V}(ha:kY a)(hb:kY b):(!(iq [a,b]))=false:=by simp[iq,AX,uQ ha,uQ hb]
theorem a7o{a b c:V}(ha:kY a)(hb:kY b)(hc:kY c):(!(iq [a,b,c]))=false:=by simp[iq,AX,uQ ha,uQ hb,uQ hc]
theorem afH(a b:V):bQ [a,b]=if a.f≠0 then(a,true)else if b.f≠0 then(b,true)else(⟨0,0⟩,false):=by
 by_cases h:a.f=0
 .by_cases h2:b.f=0
  .simp[bQ,iH,mX,jC,oh,jZ,Dl,h,h2]
  simp[bQ,iH,mX,jC,oh,jZ,Dl,h,h2]
 simp[bQ,iH,mX,jC,oh,jZ,Dl,h]
theorem vT(k:Int):oP k=qy k:=by
 unfold oP qy Ik lS fC;rw[XT];by_cases h:k < -9999
 .rw[a0F (by simp;omega),a0F (by simpa using h)]
 rw[a0E (c:=decide (k < -9999)=true) (by simpa using h)];by_cases h2:k>9999
 .rw[a0F (by simp;omega),a0F (by simpa using h2)]
 rw[a0E (by simp;omega),a0E (by simpa using h2)]
theorem uf(k:Int):kY (qy k):=by
 unfold qy lS fC;split
 .exact⟨by decide,by decide,by simp,by simp⟩
 split
 .exact⟨by decide,by decide,by simp,by simp⟩
 rename_i h1 h2;simp at h1 h2;exact⟨by simp,by simp,fun _=>by simp only;omega,by simp⟩
theorem a3K(b:Bool):PL b=rV b:=by cases b<;>rfl
theorem JH(b:Bool):kY (rV b):=by cases b<;>exact⟨by decide,by decide,fun _=>by decide,by decide⟩
theorem a3L{a b:Int}(hb:b≠0):a.tmod b=0∨True->(gK a b=(if a.tmod b≠0∧(decide (a.tmod b<0) != decide (b<0))=true then a.tdiv b-1 else a.tdiv b))∧a-b*gK a b=(if a.tmod b≠0∧(decide (a.tmod b<0) != decide (b<0))=true then a.tmod b+b else a.tmod b)∧(a-b*gK a b).natAbs<b.natAbs:=by
 intro _;have hq:=@Int.tdiv_eq_ediv a b;have hr:=@Int.tmod_eq_emod a b;have hm:=Int.mul_ediv_add_emod a b;have h0:=ahw a hb;have h1:=Int.emod_lt a hb;have hd:b ∣ a↔a%b=0:=⟨Int.emod_eq_zero_of_dvd,Int.dvd_of_emod_eq_zero⟩;generalize a.tdiv b=T at *;generalize a.tmod b=R at *;generalize hE:a/b=e at *;generalize hM:a%b=m at *;unfold gK;have cT:0<=a∨b ∣ a->T=e∧R=m:=fun h=>by rw[a0F h]at hq hr;omega
 rcases Int.lt_or_gt_of_ne hb with zZ|zZ
 .rw[a0F zZ];have hsg:b.sign=-1:=Int.sign_eq_neg_one_of_neg zZ;have hna:(b.natAbs:Int)=-b:=by omega
  have cF:¬(0<=a∨b ∣ a)->T=e-1∧R=m+b:=fun h=>by rw[a0E h]at hq hr;omega
  rw[hna]at h1;by_cases RG:m=0
  .have u:=(Int.ediv_emod_unique (a:=-a) (b:=-b) (r:=0) (q:=e) (by omega)).2 ⟨by rw[Int.neg_mul];omega,by omega,by omega⟩;rw[u.1];obtain⟨c1,c2⟩:=cT (.inr (hd.2 RG));subst c1;subst c2;rw[a0E (by simp[RG]),a0E (by simp[RG])];omega
  have jH:¬b ∣ a:=fun h=>RG (hd.1 h);have e1:b*(e-1)=b*e-b:=by rw[Int.mul_sub,acE]
  have u:=(Int.ediv_emod_unique (a:=-a) (b:=-b) (r:=-b-m) (q:=e-1) (by omega)).2 ⟨by rw[Int.neg_mul,e1];omega,by omega,by omega⟩;rw[u.1,e1];by_cases ha:0<=a
  .obtain⟨c1,c2⟩:=cT (.inl ha);subst c1;subst c2;have hc:(R≠0∧(decide (R<0) != decide (b<0))=true):=⟨RG,by simp[zZ];omega⟩;rw[a0F hc,a0F hc];omega
  obtain⟨c1,c2⟩:=cF (by simp[ha,jH]);have hc:¬(R≠0∧(decide (R<0) != decide (b<0))=true):=fun h=>by have:=h.2;simp[zZ]at this;omega
  rw[a0E hc,a0E hc];omega
 rw[a0E (by omega),hE];have hsg:b.sign=1:=Int.sign_eq_one_of_pos zZ;have hna:(b.natAbs:Int)=b:=by omega
 have cF:¬(0<=a∨b ∣ a)->T=e+1∧R=m-b:=fun h=>by rw[a0E h]at hq hr;omega
 rw[hna]at h1;by_cases hc0:0<=a∨b ∣ a
 .obtain⟨c1,c2⟩:=cT hc0;have hc:¬(R≠0∧(decide (R<0) != decide (b<0))=true):=fun h=>by have:=h.2;simp at this;omega
  rw[a0E hc,a0E hc];omega
 obtain⟨c1,c2⟩:=cF hc0;have RG:m≠0:=fun h=>hc0 (.inr (hd.2 h));have hc:(R≠0∧(decide (R<0) != decide (b<0))=true):=⟨by omega,by simp;omega⟩;rw[a0F hc,a0F hc];omega
theorem wr{z:Int}(h1:-1000000000<=z)(h2:z<=1000000000):i64.wrap z=z:=wrap_small (by omega) (by omega)
theorem XU{a b:Int}(a0:-9999<=a)(a1:a<=9999)(b0:-9999<=b)(b1:b<=9999)(hb:b≠0):uP a b=(gK a b,a-b*gK a b)∧(-9999<=gK a b∧gK a b<=9999)∧(-9999<=a-b*gK a b∧a-b*gK a b<=9999)∧i64.wrap (a-i64.wrap (b*gK a b))=a-b*gK a b:=by
 obtain⟨h1,h2,h3⟩:=a3L (a:=a) hb (.inr trivial);have hna:(a.tdiv b).natAbs<=a.natAbs:=by rw[Int.natAbs_tdiv];exact Nat.div_le_self _ _
 have hq:UO .i64 a b=a.tdiv b:=wr (by omega) (by omega);have hp:(b*gK a b).natAbs=b.natAbs*(gK a b).natAbs:=Int.natAbs_mul _ _;have hQ:(gK a b).natAbs<=9999:=by
  rcases a4N 9999 (gK a b).natAbs with h|h
  .have:=Nat.mul_le_mul_left b.natAbs (show 10000<=(gK a b).natAbs from h);generalize b*gK a b=p at *;generalize b.natAbs*(gK a b).natAbs=r at *;omega
  exact h
 refine⟨?_,by omega,by generalize b*gK a b=p at *;omega,?_⟩
 .unfold uP OC;rw[hq];have hw1:i64.wrap (a.tdiv b-1)=a.tdiv b-1:=wr (by omega) (by omega);have hrb:(a.tmod b).natAbs<=9999:=by rw[Int.natAbs_tmod];exact a5x (Nat.mod_le _ _) (by omega)
  have hw2:i64.wrap (a.tmod b+b)=a.tmod b+b:=wr (by omega) (by omega);rw[h2,h1,hw1,hw2];by_cases c1:a.tmod b=0
  .rw[a0E (by simp[c1]),a0E (by simp[c1]),a0E (by simp[c1])]
  rw[a0F (by simpa using c1)];by_cases c2:(decide (a.tmod b<0) != decide (b<0))=true
  .rw[a0F c2,a0F ⟨c1,c2⟩,a0F ⟨c1,c2⟩]
  rw[a0E c2,a0E (fun h=>c2 h.2),a0E (fun h=>c2 h.2)]
 rw[wr (z:=b*gK a b) (by generalize b*gK a b=p at *;omega) (by generalize b*gK a b=p at *;omega)];exact wr (by generalize b*gK a b=p at *;omega) (by generalize b*gK a b=p at *;omega)
theorem XV{k:Int}(h1:-9999<=k)(h2:k<=9999):qy k=fC k:=by unfold qy;rw[a0E (by simp;omega),a0E (by simp;omega)]
theorem jJ{g:Int->Int->V}{a b:V}(ha:kY a)(hb:kY b):(if(!(iq [a,b]))=true then((⟨0,0⟩:V),(2:Int))else if(bQ [a,b]).2=true then((bQ [a,b]).1,0)else(g a.n b.n,0)).1=if a.f≠0 then a else if b.f≠0 then b else g a.n b.n:=by
 rw[aph ha hb,afH];by_cases h:a.f=0
 .by_cases h2:b.f=0<;>simp[h,h2]
 simp[h]
theorem AY{a:V}(ha:kY a)(h:a.f≠0):decide (a.f>0)=true:=by have:=ha.f0;simp;omega
theorem PN{k:Int}(h1:-9999<=k)(h2:k<=9999):kY (fC k):=⟨by simp[fC],by simp[fC],fun _=>⟨h1,h2⟩,fun h=>by simp[fC]at h⟩
theorem div_eq{a b:V}(ha:kY a)(hb:kY b)(h:a.f=0)(h2:b.f=0):iI Dz a.n b.n=(if(b.n==0)=true then lS 1 else fC (gK a.n b.n))∧kY (if(b.n==0)=true then lS 1 else fC (gK a.n b.n)):=by
 have a9:=ha.n h;have b9:=hb.n h2;unfold iI Dz;by_cases hz:b.n=0
 .rw[a0F (by simpa using hz),a0F (by simpa using hz)];exact⟨rfl,⟨by decide,by decide,by decide,by decide⟩⟩
 obtain⟨q1,q2,_,_⟩:=XU a9.1 a9.2 b9.1 b9.2 hz;rw[a0E (by simpa using hz),a0E (by simpa using hz),q1,vT,XV q2.1 q2.2];exact⟨rfl,PN q2.1 q2.2⟩
theorem mod_eq{a b:V}(ha:kY a)(hb:kY b)(h:a.f=0)(h2:b.f=0):iI DC a.n b.n=(if(b.n==0)=true then lS 1 else fC (i64.wrap (a.n-i64.wrap (b.n*gK a.n b.n))))∧kY (if(b.n==0)=true then lS 1 else fC (i64.wrap (a.n-i64.wrap (b.n*gK a.n b.n)))):=by
 have a9:=ha.n h;have b9:=hb.n h2;unfold iI DC;by_cases hz:b.n=0
 .rw[a0F (by simpa using hz),a0F (by simpa using hz)];exact⟨rfl,⟨by decide,by decide,by decide,by decide⟩⟩
 obtain⟨q1,_,q3,q4⟩:=XU a9.1 a9.2 b9.1 b9.2 hz;rw[a0E (by simpa using hz),a0E (by simpa using hz),q1,vT,q4,XV q3.1 q3.2];exact⟨rfl,PN q3.1 q3.2⟩
theorem afI(a b:Int):dV DF a b=rV (a==b)∧dV DI a b=rV (decide (a<b))∧dV DK a b=rV (decide (a<=b)):=by
 unfold dV DF DI DK JD;simp only[a3K];rcases Int.lt_trichotomy a b with h|h|h
 .have:(a==b)=false:=by simp;omega
  simp[h,this,afU h]
 .subst h;simp
 have h1:¬a<b:=by omega
 have h2:(a==b)=false:=by simp;omega
 have h3:¬a<=b:=by omega
 simp[h,h1,h2,h3]
theorem afJ{k:Int}(h7:7<=k∧k<=16){a b:V}(ha:kY a)(hb:kY b):gQ k a b=bI k a b∧kY (bI k a b):=by
 have e15:a.f=0->gQ 15 a b=bI 15 a b∧kY (bI 15 a b):=fun h=>by
  rw[show gQ 15 a b=(tY a b).1 from rfl,show bI 15 a b=(if(a.n==0)=true then a else b) by simp[bI,h]];unfold tY jO;rw[a7o ha hb (vT 0▸uf 0)];by_cases hz:a.n=0
  .have:a=⟨0,0⟩:=by obtain⟨f,n⟩:=a;simp only at h hz;rw[h,hz]
   subst this;exact⟨rfl,ha⟩
  simp[h,hz];exact hb
 have e16:a.f=0->gQ 16 a b=bI 16 a b∧kY (bI 16 a b):=fun h=>by
  rw[show gQ 16 a b=(tZ a b).1 from rfl,show bI 16 a b=(if(a.n != 0)=true then fC 1 else b) by simp[bI,h]];unfold tZ jO;rw[a7o ha (vT 1▸uf 1) hb];by_cases hz:a.n=0
  .simp[h,hz];exact hb
  simp[h,hz];exact⟨rfl,PN (by decide) (by decide)⟩
 by_cases h:a.f=0
 .by_cases h2:b.f=0
  .have d:=div_eq ha hb h h2;have m:=mod_eq ha hb h h2;have c:=afI a.n b.n;rcases nine h7 with rfl|rfl|rfl|rfl|rfl|rfl|rfl|rfl|rfl|rfl
   .rw[show gQ 7 a b=(rW a b).1 from rfl,show bI 7 a b=qy (i64.wrap (a.n+b.n)) by simp[bI,h,h2]];unfold rW;rw[jJ (g:=fun x y=>JE x y) ha hb];simp only[h,h2,ne_eq,a8o,a3T,JE,vT];exact⟨trivial,uf _⟩
   .rw[show gQ 8 a b=(rX a b).1 from rfl,show bI 8 a b=qy (i64.wrap (a.n-b.n)) by simp[bI,h,h2]];unfold rX;rw[jJ (g:=fun x y=>JF x y) ha hb];simp only[h,h2,ne_eq,a8o,a3T,JF,vT];exact⟨trivial,uf _⟩
   .rw[show gQ 9 a b=(rY a b).1 from rfl,show bI 9 a b=qy (i64.wrap (a.n*b.n)) by simp[bI,h,h2]];unfold rY;rw[jJ (g:=fun x y=>JG x y) ha hb];simp only[h,h2,ne_eq,a8o,a3T,JG,vT];exact⟨trivial,uf _⟩
   .rw[show gQ 10 a b=(oQ a b).1 from rfl,show bI 10 a b=(if(b.n==0)=true then lS 1 else fC (gK a.n b.n)) by simp[bI,h,h2]];unfold oQ;rw[jJ (g:=fun x y=>iI Dz x y) ha hb];simp only[h,h2,ne_eq,a8o,a3T];exact d
   .rw[show gQ 11 a b=(oU a b).1 from rfl,show bI 11 a b=(if(b.n==0)=true then lS 1 else fC (i64.wrap (a.n-i64.wrap (b.n*gK a.n b.n)))) by simp[bI,h,h2]];unfold oU;rw[jJ (g:=fun x y=>iI DC x y) ha hb];simp only[h,h2,ne_eq,a8o,a3T];exact m
   .rw[show gQ 12 a b=(oV a b).1 from rfl,show bI 12 a b=rV (a.n==b.n) by simp[bI,h,h2]];unfold oV;rw[jJ (g:=fun x y=>dV DF x y) ha hb];simp only[h,h2,ne_eq,a8o,a3T];exact⟨c.1,JH _⟩
   .rw[show gQ 13 a b=(oW a b).1 from rfl,show bI 13 a b=rV (decide (a.n<b.n)) by simp[bI,h,h2]];unfold oW;rw[jJ (g:=fun x y=>dV DI x y) ha hb];simp only[h,h2,ne_eq,a8o,a3T];exact⟨c.2.1,JH _⟩
   .rw[show gQ 14 a b=(oZ a b).1 from rfl,show bI 14 a b=rV (decide (a.n<=b.n)) by simp[bI,h,h2]];unfold oZ;rw[jJ (g:=fun x y=>dV DK x y) ha hb];simp only[h,h2,ne_eq,a8o,a3T];exact⟨c.2.2,JH _⟩
   .exact e15 h
   exact e16 h
  rcases nine h7 with rfl|rfl|rfl|rfl|rfl|rfl|rfl|rfl|rfl|rfl
  .rw[show gQ 7 a b=(rW a b).1 from rfl,show bI 7 a b=b by simp[bI,h,AY hb h2]];unfold rW;rw[jJ (g:=fun x y=>JE x y) ha hb];simp only[h,h2,ne_eq,a8o,a5B,a3T,a2u];exact⟨trivial,hb⟩
  .rw[show gQ 8 a b=(rX a b).1 from rfl,show bI 8 a b=b by simp[bI,h,AY hb h2]];unfold rX;rw[jJ (g:=fun x y=>JF x y) ha hb];simp only[h,h2,ne_eq,a8o,a5B,a3T,a2u];exact⟨trivial,hb⟩
  .rw[show gQ 9 a b=(rY a b).1 from rfl,show bI 9 a b=b by simp[bI,h,AY hb h2]];unfold rY;rw[jJ (g:=fun x y=>JG x y) ha hb];simp only[h,h2,ne_eq,a8o,a5B,a3T,a2u];exact⟨trivial,hb⟩
  .rw[show gQ 10 a b=(oQ a b).1 from rfl,show bI 10 a b=b by simp[bI,h,AY hb h2]];unfold oQ;rw[jJ (g:=fun x y=>iI Dz x y) ha hb];simp only[h,h2,ne_eq,a8o,a5B,a3T,a2u];exact⟨trivial,hb⟩
  .rw[show gQ 11 a b=(oU a b).1 from rfl,show bI 11 a b=b by simp[bI,h,AY hb h2]];unfold oU;rw[jJ (g:=fun x y=>iI DC x y) ha hb];simp only[h,h2,ne_eq,a8o,a5B,a3T,a2u];exact⟨trivial,hb⟩
  .rw[show gQ 12 a b=(oV a b).1 from rfl,show bI 12 a b=b by simp[bI,h,AY hb h2]];unfold oV;rw[jJ (g:=fun x y=>dV DF x y) ha hb];simp only[h,h2,ne_eq,a8o,a5B,a3T,a2u];exact⟨trivial,hb⟩
  .rw[show gQ 13 a b=(oW a b).1 from rfl,show bI 13 a b=b by simp[bI,h,AY hb h2]];unfold oW;rw[jJ (g:=fun x y=>dV DI x y) ha hb];simp only[h,h2,ne_eq,a8o,a5B,a3T,a2u];exact⟨trivial,hb⟩
  .rw[show gQ 14 a b=(oZ a b).1 from rfl,show bI 14 a b=b by simp[bI,h,AY hb h2]];unfold oZ;rw[jJ (g:=fun x y=>dV DK x y) ha hb];simp only[h,h2,ne_eq,a8o,a5B,a3T,a2u];exact⟨trivial,hb⟩
  .exact e15 h
  exact e16 h
 rcases nine h7 with rfl|rfl|rfl|rfl|rfl|rfl|rfl|rfl|rfl|rfl
 .rw[show gQ 7 a b=(rW a b).1 from rfl,show bI 7 a b=a by simp[bI,AY ha h]];unfold rW;rw[jJ (g:=fun x y=>JE x y) ha hb];simp only[h,ne_eq,a8o,a5B,a2u];exact⟨trivial,ha⟩
 .rw[show gQ 8 a b=(rX a b).1 from rfl,show bI 8 a b=a by simp[bI,AY ha h]];unfold rX;rw[jJ (g:=fun x y=>JF x y) ha hb];simp only[h,ne_eq,a8o,a5B,a2u];exact⟨trivial,ha⟩
 .rw[show gQ 9 a b=(rY a b).1 from rfl,show bI 9 a b=a by simp[bI,AY ha h]];unfold rY;rw[jJ (g:=fun x y=>JG x y) ha hb];simp only[h,ne_eq,a8o,a5B,a2u];exact⟨trivial,ha⟩
 .rw[show gQ 10 a b=(oQ a b).1 from rfl,show bI 10 a b=a by simp[bI,AY ha h]];unfold oQ;rw[jJ (g:=fun x y=>iI Dz x y) ha hb];simp only[h,ne_eq,a8o,a5B,a2u];exact⟨trivial,ha⟩
 .rw[show gQ 11 a b=(oU a b).1 from rfl,show bI 11 a b=a by simp[bI,AY ha h]];unfold oU;rw[jJ (g:=fun x y=>iI DC x y) ha hb];simp only[h,ne_eq,a8o,a5B,a2u];exact⟨trivial,ha⟩
 .rw[show gQ 12 a b=(oV a b).1 from rfl,show bI 12 a b=a by simp[bI,AY ha h]];unfold oV;rw[jJ (g:=fun x y=>dV DF x y) ha hb];simp only[h,ne_eq,a8o,a5B,a2u];exact⟨trivial,ha⟩
 .rw[show gQ 13 a b=(oW a b).1 from rfl,show bI 13 a b=a by simp[bI,AY ha h]];unfold oW;rw[jJ (g:=fun x y=>dV DI x y) ha hb];simp only[h,ne_eq,a8o,a5B,a2u];exact⟨trivial,ha⟩
 .rw[show gQ 14 a b=(oZ a b).1 from rfl,show bI 14 a b=a by simp[bI,AY ha h]];unfold oZ;rw[jJ (g:=fun x y=>dV DK x y) ha hb];simp only[h,ne_eq,a8o,a5B,a2u];exact⟨trivial,ha⟩
 .rw[show gQ 15 a b=(tY a b).1 from rfl,show bI 15 a b=a by simp[bI,AY ha h]];unfold tY jO;rw[a7o ha hb (vT 0▸uf 0)];simp[h];exact ha
 rw[show gQ 16 a b=(tZ a b).1 from rfl,show bI 16 a b=a by simp[bI,AY ha h]];unfold tZ jO;rw[a7o ha (vT 1▸uf 1) hb];simp[h];exact ha
theorem a3M{a b c:V}(ha:kY a)(hb:kY b)(hc:kY c):(jO a b c).1=JB a b c∧kY (JB a b c):=by
 unfold jO JB;rw[a7o ha hb hc];by_cases h:a.f=0
 .by_cases hz:a.n=0
  .simp[h,hz];exact hc
  simp[h,hz];exact hb
 have:=AY ha h;simp only[a1z]at this;simp[h,this];exact ha
open Go.Shelf
def a3N:Go.Shelf.Ren:=⟨fun| 189=>137| 125=>180| 257=>179| 128=>216| 129=>217| 294=>207| 295=>208| 296=>209| 297=>210| 298=>211| 299=>212| 216=>213| 300=>214| 301=>215| 328=>229| 329=>230| 330=>231| 331=>232| 332=>233| 215=>219| 343=>235|n=>n,fun| 28=>22| 3=>3| 46=>184| 0=>0| 51=>204| 53=>207| 4=>4| 183=>212| 182=>211| 131=>152| 5=>5| 9=>9| 218=>227| 222=>231| 228=>233| 229=>192|n=>n,fun|n=>n⟩
theorem acP:Lays.n189 Tryz.prog a3N where
 mixed:=by kernel_rfl
 f125:=Tryz.func180.trans (congrArg some (by kernel_rfl))
 f128:=Tryz.func216.trans (congrArg some (by kernel_rfl))
 f129:=Tryz.func217.trans (congrArg some (by kernel_rfl))
 f189:=Tryz.func137.trans (congrArg some (by kernel_rfl))
 f215:=Tryz.func219.trans (congrArg some (by kernel_rfl))
 f216:=Tryz.func213.trans (congrArg some (by kernel_rfl))
 f257:=Tryz.func179.trans (congrArg some (by kernel_rfl))
 f294:=Tryz.func207.trans (congrArg some (by kernel_rfl))
 f295:=Tryz.func208.trans (congrArg some (by kernel_rfl))
 f296:=Tryz.func209.trans (congrArg some (by kernel_rfl))
 f297:=Tryz.func210.trans (congrArg some (by kernel_rfl))
 f298:=Tryz.func211.trans (congrArg some (by kernel_rfl))
 f299:=Tryz.func212.trans (congrArg some (by kernel_rfl))
 f300:=Tryz.func214.trans (congrArg some (by kernel_rfl))
 f301:=Tryz.func215.trans (congrArg some (by kernel_rfl))
 f328:=Tryz.func229.trans (congrArg some (by kernel_rfl))
 f329:=Tryz.func230.trans (congrArg some (by kernel_rfl))
 f330:=Tryz.func231.trans (congrArg some (by kernel_rfl))
 f331:=Tryz.func232.trans (congrArg some (by kernel_rfl))
 f332:=Tryz.func233.trans (congrArg some (by kernel_rfl))
 f343:=Tryz.func235.trans (congrArg some (by kernel_rfl))
 t0:=Tryz.underlying0
 a0:=Tryz.isAgg0
 z0:=Tryz.sizeOf0
 v0:=Tryz.zeroValue0
 t3:=Tryz.underlying3
 a3:=Tryz.isAgg3
 z3:=Tryz.sizeOf3
 v3:=Tryz.zeroValue3
 t4:=Tryz.underlying4
 a4:=Tryz.isAgg4
 z4:=Tryz.sizeOf4
 v4:=Tryz.zeroValue4
 t5:=Tryz.underlying5
 a5:=Tryz.isAgg5
 z5:=Tryz.sizeOf5
 v5:=Tryz.zeroValue5
 t9:=Tryz.underlying9
 a9:=Tryz.isAgg9
 z9:=Tryz.sizeOf9
 v9:=Tryz.zeroValue9
 t28:=Tryz.underlying22
 a28:=Tryz.isAgg22
 z28:=Tryz.sizeOf22
 v28:=Tryz.zeroValue22
 t46:=Tryz.underlying184
 a46:=Tryz.isAgg184
 z46:=Tryz.sizeOf184
 v46:=Tryz.zeroValue184
 t51:=Tryz.underlying204
 a51:=Tryz.isAgg204
 z51:=Tryz.sizeOf204
 v51:=Tryz.zeroValue204
 t53:=Tryz.underlying207
 a53:=Tryz.isAgg207
 z53:=Tryz.sizeOf207
 v53:=Tryz.zeroValue207
 t131:=Tryz.underlying152
 a131:=Tryz.isAgg152
 z131:=Tryz.sizeOf152
 v131:=Tryz.zeroValue152
 t182:=Tryz.underlying211
 a182:=Tryz.isAgg211
 z182:=Tryz.sizeOf211
 v182:=Tryz.zeroValue211
 t183:=Tryz.underlying212
 a183:=Tryz.isAgg212
 z183:=Tryz.sizeOf212
 v183:=Tryz.zeroValue212
 t218:=Tryz.underlying227
 a218:=Tryz.isAgg227
 z218:=Tryz.sizeOf227
 v218:=Tryz.zeroValue227
 t222:=Tryz.underlying231
 a222:=Tryz.isAgg231
 z222:=Tryz.sizeOf231
 v222:=Tryz.zeroValue231
 t228:=Tryz.underlying233
 a228:=Tryz.isAgg233
 z228:=Tryz.sizeOf233
 v228:=Tryz.zeroValue233
 t229:=Tryz.underlying192
 a229:=Tryz.isAgg192
 z229:=Tryz.sizeOf192
 v229:=Tryz.zeroValue192
def Tb:Tw.qM:={
 live:=[(12,[(0,[3,4,5]),(1,[3,4,5,29]),(2,[6]),(3,[3,4,5,7,8]),(4,[3,4,5,7,8,9,10]),(5,[4,5,7,8,9,10,11,12]),(6,[5,7,8,9,10,11,12,13,14]),(7,[5,7,8,9,10,11,12,13,14,15,16]),(8,[7,8,9,10,11,12,13,14,16,17,18]),(9,[7,9,11,13,17,120]),(10,[6]),(11,[7,9,11,13,17,122]),(12,[6]),(13,[7,9,11,13,17,19]),(14,[7,9,11,13,17,19,128]),(15,[7,9,11,13,17,19]),(16,[6])]),
  (18,[(0,[1]),(1,[1,21]),(2,[2]),(3,[1,3]),(4,[1,3,26]),(5,[1,3]),(6,[1,3,36]),(7,[2]),(8,[2])]),
  (19,[(0,[]),(1,[1,2]),(2,[1,2,3,4]),(3,[1,2,3,4,5,6]),(4,[1,2,3,4,5,6,7,8]),(5,[1,2,3,4,5,6,7,8,9,10]),(6,[1,2,3,4,5,6,7,8,9,10,11,12]),(7,[1,2,3,4,5,6,7,8,9,10,11,12,13,14]),(8,[1,2,3,4,5,6,7,8,9,10,11,12,13,14,15,16]),(9,[1,2,3,4,5,6,7,8,9,10,11,12,13,14,16,17,18]),(10,[1,2,3,4,5,6,7,8,9,10,11,12,13,14,16,17,18,19,20]),(11,[1,3,4,5,6,7,8,9,10,11,12,13,14,16,17,18,20,21,22]),(12,[0])]),
  (20,[(0,[1,2,3,6]),(1,[1,2,3,6,8]),(2,[1,2,3,6,8,14]),(3,[6,7]),(4,[1,2,3,6,34]),(5,[6,7]),(6,[1,2,6,9]),(7,[6,9]),(8,[6,7])]),
  (21,[(0,[1,2]),(1,[1,2,3]),(2,[1,2,3,4]),(3,[1,2,3,4,21]),(4,[1,2,3,4]),(5,[1,2,3,4]),(6,[2])]),
  (22,[(0,[1]),(1,[1,3]),(2,[1,3,7]),(3,[2]),(4,[11]),(5,[2]),(6,[2])]),
  (23,[(0,[0,1,2]),(1,[6])]),
  (25,[(0,[1,3,5]),(1,[6])]),
  (27,[(0,[2,3]),(1,[3,6,7]),(2,[3,6,7,15]),(3,[4,5]),(4,[4,5])]),
  (28,[(0,[2,3]),(1,[3,6,7]),(2,[3,6,7,17]),(3,[4,5]),(4,[3,6,21]),(5,[4,5]),(6,[3,6,29,30,31]),(7,[3,6,29,30,31,32]),(8,[3,6,8,9,29,30,31]),(9,[3,6,8,29,30,31,36,37]),(10,[3,6,8,29,30,31,36,37,38]),(11,[3,6,8,10,29,30,31,36,37]),(12,[3,6,8,29,30,31,36,37]),(13,[3,6,8,29,30,31,36,37,49]),(14,[3,6,8,29,30,31,36,37]),(15,[3,6,29,30,31]),(16,[4,5])]),
  (29,[(0,[1]),(1,[1,5]),(2,[2]),(3,[2])]),
  (32,[(0,[0,1]),(1,[0,1,10]),(2,[4]),(3,[0,1,5]),(4,[0,1,5,14]),(5,[0,1,5]),(6,[0,1,5,25]),(7,[4]),(8,[4])]),
  (33,[(0,[0,4,5,6]),(1,[0,4,5,6,8]),(2,[0,4,5,6,8,17]),(3,[6,7]),(4,[0,4,5,6,25]),(5,[6,7]),(6,[0,6,9]),(7,[0,6,9]),(8,[0,6,9,36]),(9,[6]),(10,[6,7]),(11,[0,6,9,10,11]),(12,[6,9,10,11,44]),(13,[6]),(14,[6,9,10,11,44,49]),(15,[6]),(16,[6,9,10,11,44,58]),(17,[6]),(18,[6,9,10,11,44,65]),(19,[6]),(20,[6,10,11,71]),(21,[6,10]),(22,[6,10]),(23,[6,10,81]),(24,[6]),(25,[6,7])]),
  (34,[(0,[0]),(1,[0,3]),(2,[0,3,9]),(3,[0,3]),(4,[0,3,4]),(5,[0,3,4,18]),(6,[2]),(7,[0,5]),(8,[0,5,23]),(9,[0,5]),(10,[0,5,34]),(11,[2]),(12,[2])]),
  (35,[(0,[2,3]),(1,[2,3,69]),(2,[4]),(3,[2,3,5]),(4,[2,3,5,74]),(5,[2,3,5]),(6,[2,3,5,87]),(7,[4]),(8,[4])]),
  (39,[(0,[0,3,4]),(1,[0,3,4,12]),(2,[4,5]),(3,[0,3,4,5]),(4,[0,3,4,5,20]),(5,[4,5]),(6,[0,3,4,25]),(7,[4,5]),(8,[0,3,4]),(9,[3,4,31,32,33]),(10,[3,4,31,32,33,34]),(11,[3,4,6,7,31,32,33]),(12,[3,4,6,8,31,32,33]),(13,[3,4,6,8,31,32,33,45]),(14,[4]),(15,[4,5]),(16,[3,4,6,9,31,32,33]),(17,[3,4,6,9,31,32,33,59]),(18,[3,4,31,32,33]),(19,[3,4,31,32,33]),(20,[4,5])]),
  (40,[(0,[0]),(1,[0,3]),(2,[0,3,4]),(3,[0,3,4,8]),(4,[0,3,4]),(5,[0,3,4]),(6,[2])]),
  (42,[(0,[2,3]),(1,[4])]),
  (44,[(0,[1]),(1,[1,3]),(2,[1,3,7]),(3,[2]),(4,[1,3,4]),(5,[1,3,4,12]),(6,[1,3,4]),(7,[1,3,4]),(8,[2])]),
  (45,[(0,[0,4,5,6]),(1,[0,4,5,6,11]),(2,[0,4,5,6,11,12]),(3,[6,7]),(4,[0,4,5,6,20]),(5,[6,7]),(6,[4,5,6,8]),(7,[4,5,6,8,38]),(8,[6,7]),(9,[4,5,6,8,9,10]),(10,[4,5,6,8,9,47]),(11,[6,7]),(12,[6,7])]),
  (48,[(0,[0,2]),(1,[2])]),
  (49,[(0,[0]),(1,[2])]),
  (53,[(0,[0,1]),(1,[0,1,5]),(2,[0,1,5,6]),(3,[0,1,5,6,14]),(4,[0,1,5,6]),(5,[0,1,5,6]),(6,[0,1,5,6]),(7,[4])]),
  (54,[(0,[0,1]),(1,[0,1,12]),(2,[4]),(3,[4])]),
  (55,[(0,[0,1,5,6]),(1,[0,1,5,6,8]),(2,[0,1,5,6,8,13]),(3,[6,7]),(4,[0,1,5,6,18]),(5,[6,7]),(6,[6,7])]),
  (56,[(0,[0]),(1,[2])]),
  (57,[(0,[0,1,2,3,8]),(1,[0,1,2,3,8,10]),(2,[0,1,2,3,8,10,17]),(3,[8,9]),(4,[0,1,2,3,8,36]),(5,[8,9]),(6,[0,2,3,8,11]),(7,[3,8,11,47,48]),(8,[3,8,11,47,48,49]),(9,[3,8,11,12,47,48]),(10,[3,8,11,12,47,48]),(11,[3,8,11,47,48]),(12,[3,8,11,47,48]),(13,[8,9])]),
  (58,[(0,[0,1]),(1,[0,1,8]),(2,[4]),(3,[0,1,5]),(4,[0,1,5,12]),(5,[0,1,5]),(6,[0,1,5,20]),(7,[4]),(8,[0,1,23]),(9,[4]),(10,[27]),(11,[4]),(12,[4])]),
  (62,[(0,[3,4,5,6]),(1,[3,4,5,6,8]),(2,[3,4,5,6,8,16]),(3,[6,7]),(4,[3,4,5,6,10]),(5,[3,4,5,6,10,27]),(6,[6,7]),(7,[6,7])]),
  (63,[(0,[3,4,5,6]),(1,[3,4,5,6,8]),(2,[3,4,5,6,8,15]),(3,[6,7]),(4,[6,7])]),
  (67,[(0,[1,2]),(1,[1,2,4]),(2,[1,2,4,9]),(3,[2,3]),(4,[2,3])]),
  (70,[(0,[2,3]),(1,[4])]),
  (72,[(0,[2,3]),(1,[2,3,43]),(2,[4]),(3,[2,3,5]),(4,[2,3,5,48]),(5,[2,3,5]),(6,[2,3,5,79]),(7,[4]),(8,[4])]),
  (73,[(0,[0,1]),(1,[0,1,2]),(2,[0,1,2,3]),(3,[0,1])]),
  (74,[(0,[1,2,3]),(1,[1,2,3,7]),(2,[1,2,3,7,8]),(3,[1,2,3,7,8,12]),(4,[1,2,3,7,8]),(5,[1,2,3,7,8]),(6,[6])]),
  (75,[(0,[0,1]),(1,[0,1,10]),(2,[4]),(3,[0,1,5]),(4,[0,1,5,14]),(5,[0,1,5]),(6,[0,1,5,25]),(7,[4]),(8,[4])]),
  (76,[(0,[0]),(1,[0,6,7,8]),(2,[0,6,7,8,9]),(3,[0,4,6,7,8]),(4,[0,5,6,7,8]),(5,[0,5,6,7,8,15]),(6,[2]),(7,[0,6,7,8]),(8,[30]),(9,[2]),(10,[2])]),
  (77,[(0,[0,1,2]),(1,[6])]),
  (78,[(0,[0,1,4]),(1,[4])]),
  (79,[(0,[0,2]),(1,[2])]),
  (80,[(0,[1,2]),(1,[1,2,3]),(2,[1,2,3,4]),(3,[1,2,3,4,5]),(4,[1,2,3,5]),(5,[2,3]),(6,[2,6]),(7,[2])]),
  (81,[(0,[0]),(1,[2])]),
  (82,[(0,[0]),(1,[2])]),
  (83,[(0,[1]),(1,[1,3]),(2,[1,3,10]),(3,[2]),(4,[1,15]),(5,[2]),(6,[18]),(7,[2]),(8,[2])]),
  (84,[(0,[1]),(1,[1,3]),(2,[1,3,13]),(3,[1,3]),(4,[1,3,4]),(5,[1,3,4,18]),(6,[1,3,4]),(7,[1,3,4,31]),(8,[2]),(9,[1,5]),(10,[1,5,36]),(11,[1,5]),(12,[1,5,44]),(13,[2]),(14,[1,5,6]),(15,[1,5,6,47]),(16,[1,5,6]),(17,[1,5,6,77]),(18,[2]),(19,[1,7,8]),(20,[2])]),
  (86,[(0,[2,3,4]),(1,[2,3,4,6]),(2,[2,3,4,6,11]),(3,[4,5]),(4,[2,4,16]),(5,[4,5]),(6,[4,5])]),
  (87,[(0,[1,2]),(1,[1,2,3]),(2,[2,3,8]),(3,[3,4,10]),(4,[3,4,5]),(5,[3,4,5,15]),(6,[]),(7,[2])]),
  (88,[(0,[0,2,3]),(1,[2,3,6]),(2,[2,3,6,8]),(3,[2,3,4,6]),(4,[2,3,4,6,13]),(5,[2,3,6]),(6,[2,3,6]),(7,[2,3]),(8,[2,3])]),
  (89,[(0,[0]),(1,[0])]),
  (90,[(0,[0,2]),(1,[2,6]),(2,[2,6,8]),(3,[2,4,6]),(4,[2,6]),(5,[2])]),
  (93,[(0,[0]),(1,[2])]),
  (94,[(0,[0]),(1,[0,7]),(2,[0]),(3,[0,3]),(4,[0,3,4]),(5,[0,3,4,15]),(6,[0,3,4]),(7,[0,3,4]),(8,[2])]),
  (95,[(0,[0]),(1,[2])]),
  (96,[(0,[1]),(1,[2])]),
  (98,[(0,[1,2,4]),(1,[1,2,4,5]),(2,[1,2,4,5,9]),(3,[1,2,4,5]),(4,[4])]),
  (99,[(0,[3,4,5,6]),(1,[3,4,5,6,8]),(2,[6,7]),(3,[3,4,5,6,16]),(4,[6,7]),(5,[4,5,6,21]),(6,[6,7]),(7,[6,7])]),
  (100,[(0,[0,2]),(1,[0,2,6]),(2,[2]),(3,[2])]),
  (101,[(0,[0]),(1,[3]),(2,[3,4]),(3,[2]),(4,[3,6]),(5,[2]),(6,[3,8]),(7,[2]),(8,[3,10]),(9,[2]),(10,[3,13]),(11,[2]),(12,[3,16]),(13,[2]),(14,[3,19]),(15,[2]),(16,[22]),(17,[2]),(18,[2])]),
  (102,[(0,[0]),(1,[2])]),
  (103,[(0,[0,2]),(1,[0,2,4]),(2,[0,2,4,8]),(3,[2,3]),(4,[2,3])]),
  (104,[(0,[0,1]),(1,[0,1,5]),(2,[0,5,6]),(3,[0,5,6,11]),(4,[0,5,6]),(5,[0,5,6]),(6,[4])]),
  (105,[(0,[0,1]),(1,[0,1,9]),(2,[4]),(3,[0,1,13]),(4,[4]),(5,[0,1,5]),(6,[0,1,5,17,18,19]),(7,[0,1,5,17,18,19,20]),(8,[0,1,5,7,17,18,19]),(9,[0,1,5,17,18,19]),(10,[0,1,5,17,18,19]),(11,[0,1,28]),(12,[4]),(13,[0,8]),(14,[0,8]),(15,[38]),(16,[4]),(17,[4])]),
  (106,[(0,[1]),(1,[5]),(2,[2]),(3,[2])]),
  (107,[(0,[0,1,5,6]),(1,[6])]),
  (108,[(0,[1,2]),(1,[2,4,5]),(2,[2,4,5,12]),(3,[2,3]),(4,[2,3])]),
  (109,[(0,[0,1]),(1,[0,1,11]),(2,[4]),(3,[0,1,5]),(4,[0,1,5,15]),(5,[0,1,5]),(6,[0,1,5,26]),(7,[4]),(8,[0,1,5,6]),(9,[0,1,5,6,29]),(10,[0,1,5,6]),(11,[0,1,5,6,40]),(12,[4]),(13,[4])]),
  (112,[(0,[0,1,3]),(1,[3,4]),(2,[3])]),
  (113,[(0,[0,2]),(1,[2,3]),(2,[2])]),
  (117,[(0,[0,2]),(1,[2,4]),(2,[2]),(3,[2])]),
  (121,[(0,[1]),(1,[4]),(2,[2])]),
  (122,[(0,[1,2]),(1,[4])]),
  (123,[(0,[2,3]),(1,[4])]),
  (124,[(0,[0,1]),(1,[0,1,10]),(2,[0,1]),(3,[0,5,6]),(4,[0,6,26]),(5,[0,6]),(6,[0,7]),(7,[7,8]),(8,[7,8,37]),(9,[7,8]),(10,[4])]),
  (125,[(0,[0]),(1,[0,4]),(2,[2]),(3,[2])]),
  (126,[(0,[1,2,3,4,5,6]),(1,[1,2,3,4,5,6,32]),(2,[1,2,3,4,5,6]),(3,[1,2,3,4,5,6,40]),(4,[3]),(5,[8]),(6,[1,2,3,4,5,6,9]),(7,[1,2,3,4,5,6,9,10]),(8,[1,2,3,4,5,6,9,10,68]),(9,[8]),(10,[1,2,3,4,5,6,9,11,12]),(11,[1,2,3,4,5,6,9,11,84]),(12,[8]),(13,[1,2,3,4,5,6,9,13]),(14,[1,2,3,4,5,6,9,13,93,94]),(15,[1,2,3,4,5,6,9,13,93,94,95]),(16,[1,2,3,4,5,6,9,13,14,93,94]),(17,[1,2,3,4,5,6,9,13,93,94]),(18,[1,2,3,4,5,6,9,13,93,94]),(19,[3,5,6,13]),(20,[5,6]),(21,[8])]),
  (127,[(0,[2,3,4]),(1,[2,4,10,11,12]),(2,[2,4,10,11,12,13]),(3,[2,4,7,8,10,11,12]),(4,[2,4,10,11,12,32]),(5,[6]),(6,[2,4,10,11,12]),(7,[6])]),
  (128,[(0,[2,3,4]),(1,[3,4,8,9,10]),(2,[3,4,8,9,10,11]),(3,[3,4,5,6,8,9,10]),(4,[3,4,8,9,10]),(5,[3,4,8,9,10]),(6,[4])]),
  (129,[(0,[2,3,4,5,8]),(1,[2,3,5,8,12,13,14]),(2,[2,3,5,8,12,13,14,15]),(3,[2,3,5,8,9,10,12,13,14]),(4,[2,3,5,8,9,10,12,13,14,34]),(5,[2,3,5,8,12,13,14]),(6,[2,3,5,8,12,13,14]),(7,[8])]),
  (130,[(0,[1,2]),(1,[2,6,7,8]),(2,[2,6,7,8,9]),(3,[2,3,4,6,7,8]),(4,[2,6,7,8]),(5,[2,6,7,8]),(6,[2])]),
  (131,[(0,[1]),(1,[1,3]),(2,[1,3,11]),(3,[1,3]),(4,[1,3,20]),(5,[2]),(6,[1,4]),(7,[1,4,25]),(8,[1,4]),(9,[1,4,5]),(10,[1,4,5,52]),(11,[2]),(12,[1,4,5,6]),(13,[1,4,5,6,57]),(14,[1,4,5,6]),(15,[1,4,5,6,81]),(16,[2]),(17,[2])]),
  (132,[(0,[1]),(1,[1,3]),(2,[1,3,8]),(3,[1,3]),(4,[1,3,20]),(5,[2]),(6,[2])]),
  (133,[(0,[1,2,3,4]),(1,[1,2,3,4,13]),(2,[1,2,3,18]),(3,[2,3]),(4,[8,9]),(5,[1,2,3,4,28]),(6,[8,9]),(7,[1,2,3,4,10]),(8,[1,2,3,4,10,11]),(9,[1,2,3,4,10,11,40]),(10,[1,2,3,4,10,11]),(11,[1,2,3,4,10,11]),(12,[8,9])]),
  (134,[(0,[0,1]),(1,[0,1,5]),(2,[0,1,5,9]),(3,[0,1,5]),(4,[0,1,5,17]),(5,[4]),(6,[4])]),
  (136,[(0,[1,2]),(1,[1,2,4]),(2,[1,2,4,21,22,23]),(3,[1,2,4,21,22,23,24]),(4,[1,2,4,6,21,22,23]),(5,[1,2,4,6,7,21,22,23]),(6,[1,2,6,7,21,22,23,29]),(7,[1,2,6,7,21,22,23,29,31]),(8,[1,2,6,7,8,9,21,22,23,29]),(9,[1,2,6,7,8,9,10,21,22,23,29]),(10,[1,2,6,7,8,9,10,11,21,22,23,29]),(11,[1,2,6,7,8,9,10,11,21,22,23,29,46]),(12,[1,2,6,7,21,22,23,29]),(13,[1,2,6,7,8,9,10,21,22,23,29,60]),(14,[1,2,6,7,21,22,23,29]),(15,[1,2,6,7,8,9,21,22,23,29,75,76]),(16,[1,2,6,7,8,9,21,22,23,29,75,76,77]),(17,[1,2,6,7,8,9,12,21,22,23,29,75,76]),(18,[1,2,6,7,8,9,21,22,23,29,75,76]),(19,[1,2,6,7,8,9,21,22,23,29,75,76]),(20,[1,2,4,21,22,23]),(21,[1,2,4,21,22,23]),(22,[1,2,94]),(23,[1,2,94,96]),(24,[1,2,13,14,94]),(25,[1,2,94,106])]),
  (137,[(0,[0,2]),(1,[])]),
  (138,[(0,[1,2,4]),(1,[2,4,6]),(2,[2,5]),(3,[]),(4,[4])]),
  (139,[(0,[0,6]),(1,[0,6,8]),(2,[0,4,6]),(3,[0,6,14])]),
  (140,[(0,[2,3,4]),(1,[6])]),
  (141,[(0,[0,2]),(1,[2])]),
  (142,[(0,[0,1,4]),(1,[4])]),
  (143,[(0,[0,1,4]),(1,[4])]),
  (144,[(0,[0,1,4]),(1,[4])]),
  (145,[(0,[1]),(1,[2])]),
  (146,[(0,[0]),(1,[4])]),
  (147,[(0,[1]),(1,[4])]),
  (148,[(0,[1]),(1,[2])]),
  (149,[(0,[0]),(1,[2])]),
  (150,[(0,[0]),(1,[2])]),
  (151,[(0,[0]),(1,[2])]),
  (152,[(0,[0,1]),(1,[4])]),
  (153,[(0,[1]),(1,[2])]),
  (154,[(0,[1]),(1,[1,5]),(2,[2]),(3,[2])]),
  (155,[(0,[0,1]),(1,[0,1,7,8]),(2,[0,1,7,8,9]),(3,[0,1,5,7,8]),(4,[0,1,5,7,8,16]),(5,[4]),(6,[0,1,7,8]),(7,[4])]),
  (156,[(0,[1]),(1,[2])]),
  (157,[(0,[2,3,4]),(1,[6])]),
  (158,[(0,[0,1]),(1,[0,1,10]),(2,[4]),(3,[0,1,12,13]),(4,[0,1,12,13,14]),(5,[0,1,5,12,13]),(6,[0,1,12,13,24]),(7,[4]),(8,[0,1,12,13]),(9,[4])]),
  (159,[(0,[0]),(1,[0,3]),(2,[3,7,8]),(3,[3,7,8,9]),(4,[3,4,7,8]),(5,[3,7,8]),(6,[3,7,8]),(7,[2])]),
  (160,[(0,[1,2]),(1,[1,2,4]),(2,[1,2,4,11]),(3,[2,3]),(4,[1,2]),(5,[1,2,21]),(6,[2,3]),(7,[1,2,27]),(8,[1,2,27]),(9,[2,27]),(10,[2,3]),(11,[2,3])]),
  (161,[(0,[1,2]),(1,[1,2,3]),(2,[1,2,3,4]),(3,[1,2,3,4,5]),(4,[1,2,3,5]),(5,[2,3]),(6,[2])]),
  (168,[(0,[1,2]),(1,[4])]),
  (169,[(0,[1]),(1,[2])]),
  (172,[(0,[1,2]),(1,[1,2,3]),(2,[2,3,17]),(3,[2,3]),(4,[2,3])]),
  (173,[(0,[0,1]),(1,[4])]),
  (174,[(0,[1,2]),(1,[3])]),
  (175,[(0,[0,1]),(1,[6,7]),(2,[4,5]),(3,[8,9]),(4,[4,5])]),
  (176,[(0,[1,2,3]),(1,[1,2,3,8]),(2,[6]),(3,[6])]),
  (177,[(0,[1,2]),(1,[1,2,5]),(2,[1,2,5,14]),(3,[1,2,5]),(4,[1,2,5,28]),(5,[4]),(6,[4])]),
  (178,[(0,[0,1]),(1,[0,1,5]),(2,[0,1,5,9]),(3,[0,1,5]),(4,[0,1,5,17]),(5,[4]),(6,[4])]),
  (181,[(0,[0,1]),(1,[4])]),
  (182,[(0,[0,1,2]),(1,[4])]),
  (183,[(0,[0,1,2,5]),(1,[0,1,2,5,7]),(2,[5]),(3,[5])]),
  (184,[(0,[0,1]),(1,[1,4,5]),(2,[1,4,5,20]),(3,[4,5]),(4,[4,5])]),
  (185,[(0,[0,1,2,5]),(1,[5])]),
  (186,[(0,[0,2]),(1,[2,3]),(2,[2]),(3,[2])]),
  (187,[(0,[0,1]),(1,[0,1,5]),(2,[0,1,5,6]),(3,[0,1,6,11]),(4,[12]),(5,[4]),(6,[4]),(7,[0,1,13]),(8,[4]),(9,[0,1,16]),(10,[4]),(11,[19]),(12,[4]),(13,[4])]),
  (188,[(0,[0,1,2]),(1,[4])]),
  (189,[(0,[0,3]),(1,[4])]),
  (190,[(0,[1]),(1,[1,5]),(2,[2]),(3,[2])]),
  (191,[(0,[0,3]),(1,[4])]),
  (192,[(0,[2,3]),(1,[2,3,5]),(2,[2,3,5,34]),(3,[4]),(4,[4])]),
  (193,[(0,[1,2,3,4]),(1,[1,2,3,4,10]),(2,[8]),(3,[8])]),
  (194,[(0,[1]),(1,[2])]),
  (195,[(0,[0,1,2,3,4]),(1,[0,1,2,3,4,14]),(2,[6]),(3,[0,1,2,3,4,7,8]),(4,[0,1,2,3,4,7,30]),(5,[6]),(6,[0,1,3,4,9]),(7,[0,1,3,4,9,10]),(8,[0,1,3,4,9,10,43,44,45]),(9,[0,1,3,4,9,10,43,44,45,46]),(10,[0,1,3,4,9,10,11,12,43,44,45]),(11,[0,1,3,4,9,10,43,44,45]),(12,[0,1,3,4,9,10,43,44,45]),(13,[0,3]),(14,[6])]),
  (196,[(0,[0,3]),(1,[0,3,5,6]),(2,[0,3,5,17]),(3,[0,3,5]),(4,[0,3,5]),(5,[5]),(6,[4])]),
  (197,[(0,[0]),(1,[2])]),
  (198,[(0,[0,1,5]),(1,[0,1,5,12]),(2,[6]),(3,[0,1,5,7]),(4,[0,1,5,7]),(5,[0,1,5,7,8,9]),(6,[0,1,5,7,8,32]),(7,[0,1,5,7,8]),(8,[0,1,5,8]),(9,[8]),(10,[6])]),
  (201,[(0,[1,2]),(1,[3])]),
  (203,[(0,[2,3]),(1,[2,3,5]),(2,[4])]),
  (204,[(0,[0,1]),(1,[0,1,7,8]),(2,[0,1,7,8,9]),(3,[0,1,5,7,8]),(4,[0,1,5,7,8,16]),(5,[4]),(6,[0,1,7,8]),(7,[4])]),
  (205,[(0,[0,1]),(1,[6]),(2,[4,5])]),
  (206,[(0,[0,1]),(1,[0,1,6]),(2,[0,1,6,7]),(3,[0,1,6,7,8]),(4,[0,1,6,7,8,9]),(5,[0,1,6,7,8,9,10]),(6,[0,1,6,7,9,11]),(7,[0,1,6,7,9,11,12]),(8,[0,1,6,7,9,12,13]),(9,[0,1,7,9,12,13]),(10,[0,1,4]),(11,[4,5])]),
  (218,[(0,[0,1]),(1,[0,1,7,8]),(2,[0,1,7,8,9]),(3,[0,1,5,7,8]),(4,[0,1,5,7,8,16]),(5,[4]),(6,[0,1,7,8]),(7,[4])]),
  (219,[(0,[0]),(1,[2])]),
  (220,[(0,[1,2]),(1,[3])]),
  (221,[(0,[0,1]),(1,[3])]),
  (222,[(0,[0,1,2,3]),(1,[5])]),
  (223,[(0,[1,2]),(1,[4])]),
  (224,[(0,[0,1]),(1,[3])]),
  (226,[(0,[2,3]),(1,[4])]),
  (227,[(0,[0,1]),(1,[0,1,10]),(2,[4]),(3,[0,1,12,13]),(4,[0,1,12,13,14]),(5,[0,1,5,12,13]),(6,[0,1,12,13,24]),(7,[4]),(8,[0,1,12,13]),(9,[4])]),
  (228,[(0,[0,1,2]),(1,[0,1,2,14]),(2,[6]),(3,[1,2,15,16,17]),(4,[1,2,15,16,17,18]),(5,[1,2,7,8,15,16,17]),(6,[1,2,8,9,15,16,17]),(7,[1,2,15,16,17,30]),(8,[6]),(9,[1,2,15,16,17]),(10,[6])]),
  (234,[(0,[0,1]),(1,[0,1,7,8]),(2,[0,1,7,8,9]),(3,[0,1,5,7,8]),(4,[0,1,5,7,8,16]),(5,[4]),(6,[0,1,7,8]),(7,[4])])],
 head:=[(18,[(4,[1,3])]),
  (21,[(3,[1,2,3,4])]),
  (28,[(7,[3,6,29,30,31]),(10,[3,6,8,29,30,31,36,37])]),
  (32,[(4,[0,1,5])]),
  (34,[(2,[0,3]),(8,[0,5])]),
  (35,[(4,[2,3,5])]),
  (39,[(10,[3,4,31,32,33])]),
  (40,[(3,[0,3,4])]),
  (44,[(5,[1,3,4])]),
  (53,[(3,[0,1,5,6])]),
  (57,[(8,[3,8,11,47,48])]),
  (58,[(4,[0,1,5])]),
  (72,[(4,[2,3,5])]),
  (74,[(3,[1,2,3,7,8])]),
  (75,[(4,[0,1,5])]),
  (76,[(2,[0,6,7,8])]),
  (84,[(2,[1,3]),(5,[1,3,4]),(10,[1,5]),(15,[1,5,6])]),
  (88,[(2,[2,3,6])]),
  (90,[(2,[2,6])]),
  (94,[(5,[0,3,4])]),
  (98,[(2,[1,2,4,5])]),
  (104,[(3,[0,5,6])]),
  (105,[(7,[0,1,5,17,18,19])]),
  (109,[(4,[0,1,5]),(9,[0,1,5,6])]),
  (124,[(8,[7,8])]),
  (126,[(1,[1,2,3,4,5,6]),(15,[1,2,3,4,5,6,9,13,93,94])]),
  (127,[(2,[2,4,10,11,12])]),
  (128,[(2,[3,4,8,9,10])]),
  (129,[(2,[2,3,5,8,12,13,14])]),
  (130,[(2,[2,6,7,8])]),
  (131,[(2,[1,3]),(7,[1,4]),(13,[1,4,5,6])]),
  (132,[(2,[1,3])]),
  (133,[(9,[1,2,3,4,10,11])]),
  (134,[(2,[0,1,5])]),
  (136,[(3,[1,2,4,21,22,23]),(7,[1,2,6,7,21,22,23,29]),(16,[1,2,6,7,8,9,21,22,23,29,75,76]),(23,[1,2,94])]),
  (139,[(1,[0,6])]),
  (155,[(2,[0,1,7,8])]),
  (158,[(4,[0,1,12,13])]),
  (159,[(3,[3,7,8])]),
  (177,[(2,[1,2,5])]),
  (178,[(2,[0,1,5])]),
  (195,[(9,[0,1,3,4,9,10,43,44,45])]),
  (204,[(2,[0,1,7,8])]),
  (218,[(2,[0,1,7,8])]),
  (227,[(4,[0,1,12,13])]),
  (228,[(4,[1,2,15,16,17])]),
  (234,[(2,[0,1,7,8])])],
 site:=[(61,[2]),(62,[3]),(80,[1,3,4,5]),(87,[1,3]),(96,[1]),(122,[2]),(138,[2]),(140,[3,4]),(145,[1]),(148,[1]),(157,[3,4]),(161,[1,3,4,5]),(168,[2]),(189,[3]),(191,[3]),(192,[2,3,5]),(194,[14]),(198,[5,7]),(209,[7]),(210,[9])] }
def Tm:Tw.qM:={ Tb with exts:=[],ext:=fun _ _ _=>none }
open Tw in
def afK:aZ:=fun fv xs h=>match fv with
 |.fn f a b=>if f=94 then a3C 94 (lq Tryz.prog Tm (2^24) 2) (.fn f a b) xs h else Pm 137 (.fn f a b) xs h
 |fv=>Pm 137 fv xs h
def T:Tw.qM:={ Tb with exts:=[94,137],ext:=afK,dem:=[87,88,90,138],din:=[136,139],a9z:=[138] }
open Pv
structure Rw where
 fr:LI0
 to:LI0
 cell:V
 deriving DecidableEq
structure Br where
 var:Int
 aA:LI0
 deriving DecidableEq
structure Dg where
 ay:LI0
 aB:LI0
 aK:List V
 aj:List Br
 root:Int
 deriving DecidableEq
structure Ld where
 s:LI0
 cells:List V
 deriving DecidableEq
structure Fc where
 name:ByteArray
 d:Dg
 deriving DecidableEq
structure Pc where
 facts:Int
 goal:Bool
 deriving DecidableEq
abbrev jk:Dg:=⟨[],[],[],[],0⟩
abbrev Fc0:Fc:=⟨⟨#[]⟩,jk⟩
abbrev Pc0:Pc:=⟨0,false⟩
abbrev Rw0:Rw:=⟨[],[],V0⟩
abbrev kR:Br:=⟨0,[]⟩
abbrev Ld0:Ld:=⟨[],[]⟩
inductive Kd where
 |i64|u8|u16|u64|b|o|k|v|rw|br|tb|vs|ld|dg|is|fc|pc|bl|bs|no
def Kd.T:Kd->Type
 |.i64|.u8|.u16|.u64=>Int
 |.dg=>Dg
 |.is=>LI0
 |.fc=>Fc
 |.pc=>Pc
 |.bl=>Bool
 |.bs=>List Bool
 |.b=>B
 |.o=>O
 |.k=>K
 |.v=>V
 |.rw=>Rw
 |.br=>Br
 |.tb=>List Rw
 |.vs=>List V
 |.ld=>Ld
 |.no=>Unit
def kd(t:Nat):Kd:=match t with
 | 3=>.i64
 | 5=>.u8
 | 900001=>.b
 | 900002=>.o
 | 900003=>.k
 | 900004=>.u16
 | 900005=>.u64
 | 26=>.dg
 | 22=>.is
 | 900006=>.fc
 | 900007=>.pc
 | 4=>.bl
 | 900008=>.bs
 | 39=>.v
 | 900009=>.rw
 | 105=>.br
 | 900010=>.tb
 | 23=>.vs
 | 900011=>.ld
 |_=>.no
def aG(t:Nat):Type:=(kd t).T
def Kd.z:(k:Kd)->k.T
 |.i64|.u8|.u16|.u64=>(0:Int)
 |.dg=>jk
 |.is=>([]:LI0)
 |.fc=>Fc0
 |.pc=>Pc0
 |.bl=>false
 |.bs=>([]:List Bool)
 |.b=>B0
 |.o=>O0
 |.k=>K0
 |.v=>V0
 |.rw=>Rw0
 |.br=>kR
 |.tb=>([]:List Rw)
 |.vs=>([]:List V)
 |.ld=>Ld0
 |.no=>()
abbrev lI(l:LI0):PV aG:=.dF 3 l false
abbrev lV(l:List V):PV aG:=.dF 39 l false
abbrev lRw(l:List Rw):PV aG:=.dF 900009 l false
abbrev lBr(l:List Br):PV aG:=.dF 105 l false
abbrev lDg(l:List Dg):PV aG:=.dF 26 l false
abbrev lB(l:List Bool):PV aG:=.dF 4 l false
def B.ps(b:B):List (PV aG):=[.int .i64 b.lo,.int .i64 b.hi,.int .u8 b.f]
def O.ps(o:O):List (PV aG):=[.int .u8 o.code,.int .i64 o.a,.int .i64 o.b,.int .i64 o.c,.int .i64 o.n]
def K.ps(c:K):List (PV aG):=[.str c.name,.int .i64 c.lo,.int .i64 c.hi]
def V.ps(v:V):List (PV aG):=[.int .u8 v.f,.int .i64 v.n]
def Rw.ps(r:Rw):List (PV aG):=[lI r.fr,lI r.to,.int .u8 r.cell.f,.int .i64 r.cell.n]
def Br.ps(b:Br):List (PV aG):=[.int .i64 b.var,lI b.aA]
def Ld.ps(x:Ld):List (PV aG):=[lI x.s,lV x.cells]
def Dg.ps(d:Dg):List (PV aG):=[lI d.ay,lI d.aB,lV d.aK,lBr d.aj,.int .i64 d.root]
def Fc.ps(x:Fc):List (PV aG):=.str x.name::x.d.ps
def Pc.ps(x:Pc):List (PV aG):=[.int .u64 x.facts,.bool x.goal]
def B.un(l:List (PV aG)):Option B:=match l with
 | [.int .i64 a,.int .i64 b,.int .u8 c]=>some ⟨a,b,c⟩
 |_=>none
def O.un(l:List (PV aG)):Option O:=match l with
 | [.int .u8 c,.int .i64 x,.int .i64 y,.int .i64 z,.int .i64 n]=>some ⟨c,x,y,z,n⟩
 |_=>none
def K.un(l:List (PV aG)):Option K:=match l with
 | [.str c,.int .i64 x,.int .i64 y]=>some ⟨c,x,y⟩
 |_=>none
def V.un(l:List (PV aG)):Option V:=match l with
 | [.int .u8 c,.int .i64 x]=>some ⟨c,x⟩
 |_=>none
def I.un(k:IntKind)(l:List (PV aG)):Option Int:=match l with
 | [.int k' x]=>if k'=k then some x else none
 |_=>none
def L.un(t:Nat)(v:PV aG):Option (List (aG t)):=match v with
 |.dF t' l _=>BG t t' l
 |.nil .aP=>some []
 |_=>none
def Rw.un(l:List (PV aG)):Option Rw:=match l with
 | [a,b,.int .u8 c,.int .i64 x]=>match L.un 3 a,L.un 3 b with
  |some a,some b=>some ⟨a,b,⟨c,x⟩⟩
  |_,_=>none
 |_=>none
def Br.un(l:List (PV aG)):Option Br:=match l with
 | [.int .i64 x,a]=>match L.un 3 a with
  |some a=>some ⟨x,a⟩
  |none=>none
 |_=>none
def Tb.un(l:List (PV aG)):Option (List Rw):=match l with
 | [a]=>L.un 900009 a
 |_=>none
def Vs.un(l:List (PV aG)):Option (List V):=match l with
 | [a]=>L.un 39 a
 |_=>none
def Ld.un(l:List (PV aG)):Option Ld:=match l with
 | [a,b]=>match L.un 3 a,L.un 39 b with
  |some a,some b=>some ⟨a,b⟩
  |_,_=>none
 |_=>none
def Dg.un(l:List (PV aG)):Option Dg:=match l with
 | [a,b,c,d,.int .i64 r]=>match L.un 3 a,L.un 3 b,L.un 39 c,L.un 105 d with
  |some a,some b,some c,some d=>some ⟨a,b,c,d,r⟩
  |_,_,_,_=>none
 |_=>none
def Is.un(l:List (PV aG)):Option LI0:=match l with
 | [a]=>L.un 3 a
 |_=>none
def Fc.un(l:List (PV aG)):Option Fc:=match l with
 |.str n::r=>(Dg.un r).map (⟨n,·⟩)
 |_=>none
def Pc.un(l:List (PV aG)):Option Pc:=match l with
 | [.int .u64 n,.bool b]=>some ⟨n,b⟩
 |_=>none
def Bl.un(l:List (PV aG)):Option Bool:=match l with
 | [.bool b]=>some b
 |_=>none
def Bs.un(l:List (PV aG)):Option (List Bool):=match l with
 | [a]=>L.un 4 a
 |_=>none
def Kd.enc:(k:Kd)->k.T->List (PV aG)
 |.i64=>fun n=>[.int .i64 n]
 |.u8=>fun n=>[.int .u8 n]
 |.u16=>fun n=>[.int .u16 n]
 |.u64=>fun n=>[.int .u64 n]
 |.dg=>Dg.ps
 |.is=>fun l=>[lI l]
 |.fc=>Fc.ps
 |.pc=>Pc.ps
 |.bl=>fun b=>[.bool b]
 |.bs=>fun l=>[lB l]
 |.b=>B.ps
 |.o=>O.ps
 |.k=>K.ps
 |.v=>V.ps
 |.rw=>Rw.ps
 |.br=>Br.ps
 |.tb=>fun l=>[lRw l]
 |.vs=>fun l=>[lV l]
 |.ld=>Ld.ps
 |.no=>fun _=>[]
def Kd.dec:(k:Kd)->List (PV aG)->Option k.T
 |.i64=>I.un .i64
 |.u8=>I.un .u8
 |.u16=>I.un .u16
 |.u64=>I.un .u64
 |.dg=>Dg.un
 |.is=>Is.un
 |.fc=>Fc.un
 |.pc=>Pc.un
 |.bl=>Bl.un
 |.bs=>Bs.un
 |.b=>B.un
 |.o=>O.un
 |.k=>K.un
 |.v=>V.un
 |.rw=>Rw.un
 |.br=>Br.un
 |.tb=>Tb.un
 |.vs=>Vs.un
 |.ld=>Ld.un
 |.no=>fun _=>none
def X0:kX:=⟨aG,fun t=>(kd t).z,fun t=>(kd t).enc,fun t=>(kd t).dec⟩
theorem B.vM{l:List (PV aG)}{b:B}(h:B.un l=some b):B.ps b=l:=by
 unfold B.un at h;split at h
 .cases h;rfl
 cases h
theorem O.vM{l:List (PV aG)}{b:O}(h:O.un l=some b):O.ps b=l:=by
 unfold O.un at h;split at h
 .cases h;rfl
 cases h
theorem K.vM{l:List (PV aG)}{b:K}(h:K.un l=some b):K.ps b=l:=by
 unfold K.un at h;split at h
 .cases h;rfl
 cases h
theorem V.vM{l:List (PV aG)}{b:V}(h:V.un l=some b):V.ps b=l:=by
 unfold V.un at h;split at h
 .cases h;rfl
 cases h
theorem I.vM{k:IntKind}{l:List (PV aG)}{b:Int}(h:I.un k l=some b):[PV.int k b]=l:=by
 unfold I.un at h;split at h
 .split at h
  .rename_i e;cases h;rw[e]
  cases h
 cases h
section
variable {A:Nat->Prop} {m:List MB} {h:List HB}
theorem L.iV{t:Nat}{v:PV aG}{l:List (aG t)}(hu:L.un t v=some l){x:TV}(hv:VR X0 Tryz.prog A m h v x):VR X0 Tryz.prog A m h (.dF t l false) x:=(a6S (X:=X0) (P:=Tryz.prog) t).ok (a:=l) (v:=v) (by
 cases v with
 |nil k=>cases k<;>first|exact hu|cases hu
 |dF t' l' f=>exact hu
 |_=>cases hu) hv
theorem Rw.iV{l:List (PV aG)}{r:Rw}(hu:Rw.un l=some r){xs:List TV}(hv:bY X0 Tryz.prog A m h l xs):bY X0 Tryz.prog A m h r.ps xs:=by
 unfold Rw.un at hu;split at hu
 .split at hu
  .rename_i e1 e2;cases hu;obtain⟨x1,r1,rfl,h1,hv⟩:=hv.inv;obtain⟨x2,r2,rfl,h2,hv⟩:=hv.inv;exact .cons (L.iV e1 h1) (.cons (L.iV e2 h2) hv)
  cases hu
 cases hu
theorem Br.iV{l:List (PV aG)}{r:Br}(hu:Br.un l=some r){xs:List TV}(hv:bY X0 Tryz.prog A m h l xs):bY X0 Tryz.prog A m h r.ps xs:=by
 unfold Br.un at hu;split at hu
 .split at hu
  .rename_i e1;cases hu;obtain⟨x1,r1,rfl,h1,hv⟩:=hv.inv;obtain⟨x2,r2,rfl,h2,hv⟩:=hv.inv;exact .cons h1 (.cons (L.iV e1 h2) hv)
  cases hu
 cases hu
theorem Ld.iV{l:List (PV aG)}{r:Ld}(hu:Ld.un l=some r){xs:List TV}(hv:bY X0 Tryz.prog A m h l xs):bY X0 Tryz.prog A m h r.ps xs:=by
 unfold Ld.un at hu;split at hu
 .split at hu
  .rename_i e1 e2;cases hu;obtain⟨x1,r1,rfl,h1,hv⟩:=hv.inv;obtain⟨x2,r2,rfl,h2,hv⟩:=hv.inv;exact .cons (L.iV e1 h1) (.cons (L.iV e2 h2) hv)
  cases hu
 cases hu
theorem Tb.iV{l:List (PV aG)}{r:List Rw}(hu:Tb.un l=some r){xs:List TV}(hv:bY X0 Tryz.prog A m h l xs):bY X0 Tryz.prog A m h [lRw r] xs:=by
 rcases l with _|⟨a,_|⟨b,l⟩⟩
 .cases hu
 .obtain⟨x1,r1,rfl,h1,hv⟩:=hv.inv;exact .cons (L.iV hu h1) hv
 cases hu
theorem Vs.iV{l:List (PV aG)}{r:List V}(hu:Vs.un l=some r){xs:List TV}(hv:bY X0 Tryz.prog A m h l xs):bY X0 Tryz.prog A m h [lV r] xs:=by
 rcases l with _|⟨a,_|⟨b,l⟩⟩
 .cases hu
 .obtain⟨x1,r1,rfl,h1,hv⟩:=hv.inv;exact .cons (L.iV hu h1) hv
 cases hu
theorem Dg.iV{l:List (PV aG)}{r:Dg}(hu:Dg.un l=some r){xs:List TV}(hv:bY X0 Tryz.prog A m h l xs):bY X0 Tryz.prog A m h r.ps xs:=by
 unfold Dg.un at hu;split at hu
 .split at hu
  .rename_i e1 e2 e3 e4;cases hu;obtain⟨x1,r1,rfl,h1,hv⟩:=hv.inv;obtain⟨x2,r2,rfl,h2,hv⟩:=hv.inv;obtain⟨x3,r3,rfl,h3,hv⟩:=hv.inv;obtain⟨x4,r4,rfl,h4,hv⟩:=hv.inv;exact .cons (L.iV e1 h1) (.cons (L.iV e2 h2) (.cons (L.iV e3 h3) (.cons (L.iV e4 h4) hv)))
  cases hu
 cases hu
theorem Is.iV{l:List (PV aG)}{r:LI0}(hu:Is.un l=some r){xs:List TV}(hv:bY X0 Tryz.prog A m h l xs):bY X0 Tryz.prog A m h [lI r] xs:=by
 rcases l with _|⟨a,_|⟨b,l⟩⟩
 .cases hu
 .obtain⟨x1,r1,rfl,h1,hv⟩:=hv.inv;exact .cons (L.iV hu h1) hv
 cases hu
theorem Bs.iV{l:List (PV aG)}{r:List Bool}(hu:Bs.un l=some r){xs:List TV}(hv:bY X0 Tryz.prog A m h l xs):bY X0 Tryz.prog A m h [lB r] xs:=by
 rcases l with _|⟨a,_|⟨b,l⟩⟩
 .cases hu
 .obtain⟨x1,r1,rfl,h1,hv⟩:=hv.inv;exact .cons (L.iV hu h1) hv
 cases hu
theorem Bl.vM{l:List (PV aG)}{b:Bool}(h:Bl.un l=some b):[PV.bool b]=l:=by
 unfold Bl.un at h;split at h
 .cases h;rfl
 cases h
theorem Fc.iV{l:List (PV aG)}{r:Fc}(hu:Fc.un l=some r){xs:List TV}(hv:bY X0 Tryz.prog A m h l xs):bY X0 Tryz.prog A m h r.ps xs:=by
 unfold Fc.un at hu;split at hu
 .obtain⟨d,e1,rfl⟩:=a0l.1 hu;obtain⟨x1,r1,rfl,h1,hv⟩:=hv.inv;exact .cons h1 (Dg.iV e1 hv)
 cases hu
theorem Pc.vM{l:List (PV aG)}{b:Pc}(h:Pc.un l=some b):Pc.ps b=l:=by
 unfold Pc.un at h;split at h
 .cases h;rfl
 cases h
theorem aaD:∀(k:Kd) {l:List (PV aG)} {a:k.T},k.dec l=some a->∀{xs:List TV},bY X0 Tryz.prog A m h l xs->bY X0 Tryz.prog A m h (k.enc a) xs
 |.i64,_,_,e,_,hv=>by rw[show Kd.enc .i64 _=_ from I.vM e];exact hv
 |.u8,_,_,e,_,hv=>by rw[show Kd.enc .u8 _=_ from I.vM e];exact hv
 |.u16,_,_,e,_,hv=>by rw[show Kd.enc .u16 _=_ from I.vM e];exact hv
 |.u64,_,_,e,_,hv=>by rw[show Kd.enc .u64 _=_ from I.vM e];exact hv
 |.dg,_,_,e,_,hv=>Dg.iV e hv
 |.is,_,_,e,_,hv=>Is.iV e hv
 |.fc,_,_,e,_,hv=>Fc.iV e hv
 |.pc,_,_,e,_,hv=>by rw[show Kd.enc .pc _=_ from Pc.vM e];exact hv
 |.bl,_,_,e,_,hv=>by rw[show Kd.enc .bl _=_ from Bl.vM e];exact hv
 |.bs,_,_,e,_,hv=>Bs.iV e hv
 |.b,_,_,e,_,hv=>by rw[show Kd.enc .b _=_ from B.vM e];exact hv
 |.o,_,_,e,_,hv=>by rw[show Kd.enc .o _=_ from O.vM e];exact hv
 |.k,_,_,e,_,hv=>by rw[show Kd.enc .k _=_ from K.vM e];exact hv
 |.v,_,_,e,_,hv=>by rw[show Kd.enc .v _=_ from V.vM e];exact hv
 |.rw,_,_,e,_,hv=>Rw.iV e hv
 |.br,_,_,e,_,hv=>Br.iV e hv
 |.tb,_,_,e,_,hv=>Tb.iV e hv
 |.vs,_,_,e,_,hv=>Vs.iV e hv
 |.ld,_,_,e,_,hv=>Ld.iV e hv
 |.no,_,_,e,_,_=>by cases e
end
theorem a3O:∀(k:Kd) (a:k.T),jy.Ho (k.enc a)=true:=by intro k a;cases k<;>rfl
theorem hX:bT X0 Tryz.prog:=⟨fun{t} vs a e {A m hh xs} hv=>aaD (kd t) e hv,fun t a=>a3O (kd t) a⟩
abbrev Arg(α:Type):=Ar X0 Tryz.prog α
def iA:Arg Int:=afn .i64
def uA:Arg Int:=afn .u8
def tA:Arg Bool:=aj9
def vA:Arg V:=aja hX 39
def brA:Arg Br:=aja hX 105
def qg:Arg LI0:=a6S 3
def vsA:Arg (List V):=a6S 39
def aaE:Arg (List Br):=a6S 105
def aaF:Arg (List Dg):=a6S 26
def pA:Arg Int:=afn .u64
def dA:Arg Dg:=afp (a6T (LK qg (a4 qg vsA aaE iA))) (fun p=>⟨p.1,p.2.1,p.2.2.1,p.2.2.2.1,p.2.2.2.2⟩) (fun d=>(d.ay,d.aB,d.aK,d.aj,d.root)) fun _=>rfl
abbrev LL:Nat:=2^24
abbrev Gd(fO:eY aG):Prop:=Pv.Good X0 Tryz.prog T LL fO
abbrev iE(n:Nat):aZ:=lq Tryz.prog T LL n
theorem TK:ah<LL:=by decide
abbrev Lp(n f k:Nat)(s:aU aG)(e:Ex)(s':aU aG):Prop:=dR X0 Tryz.prog T (iE n) LL f false (Cc Tryz.prog f) 0 (.loop (Tf Tryz.prog f k)) s e s'
abbrev Ok(n:Nat)(fO:eY aG):Prop:=jK X0 Tryz.prog (iE n) fO
abbrev xi(n:Int):PE aG:=.val (.int .i64 n)
abbrev xl(b:Bool):PE aG:=.val (.lit b)
abbrev xL(t:Nat)(l:List (aG t)):PE aG:=.val (.dF t l false)
abbrev xo(b:Nat):PE aG:=.val (.own b)
theorem le0:0<=ah:=by decide
theorem le1:1<=ah:=by decide
theorem YS:2<=ah:=by decide
theorem le3:3<=ah:=by decide
theorem le8:8<=LL:=by decide
theorem gG{n:Nat}:Ok n (aas (X:=X0)):=fun f vs v ext ps h=>by cases h
abbrev Nk(n f k B:Nat)(s:aU aG)(e:Ex)(s':aU aG):Prop:=dR X0 Tryz.prog T (iE n) LL f false (Cc Tryz.prog f) B (.loop (Tf Tryz.prog f k)) s e s'
abbrev Qp:LI1:=Tryz.prog
abbrev iJ(n:Nat):=dG X0 Tryz.prog (iE n)
theorem gY{α:Type}{a:α}{l:List α}:a∈a::l:=.head _
theorem yc{α:Type}{a b:α}{l:List α}:a∈b::a::l:=.tail _ (.head _)
theorem hh2{α:Type}{a b c:α}{l:List α}:a∈b::c::a::l:=.tail _ (.tail _ (.head _))
theorem aO{β:Type}{n f:Nat}{fO:eY aG}(hO:Ok n fO){vs:List (PV aG)}{an:PT aG}{r:Ar X0 Tryz.prog β}{s:β}{o:OT (Option (PV aG))}(ht:Fp (Is r s) an o)
  (hk:(D9 X0 Tryz.prog T fO (dG X0 Tryz.prog (iE n)) (BI X0 Tryz.prog T (iE n) LL f 0) LL f vs [] an).map frz=o:=by kernel_rfl):nS X0 Tryz.prog (iE (n+1)) f vs (r.put s) []:=ajc hX hO hk ht
theorem jr{β:Type}{n f:Nat}{fO:eY aG}(hO:Ok n fO){first xs cap:List (PV aG)}{H H1:List (PB aG)}{an:PT aG}{r:Ar X0 Tryz.prog β}{s:β}{o:OT (PV aG×List (PB aG))}(ht:Fp (IsS r s H1) an o)
  (hk:D9 X0 Tryz.prog T fO (dG X0 Tryz.prog (iE n)) (BI X0 Tryz.prog T (iE n) LL f H.length) LL f (first++xs++cap) H an=o:=by kernel_rfl):dG X0 Tryz.prog (iE (n+1)) (.fn f first cap) xs H (r.put s) H1:=Dk hX hO hk ht
theorem fA{n f:Nat}{fO:eY aG}(hO:Ok n fO){first xs cap:List (PV aG)}{H H1:List (PB aG)}{v:PV aG}{an:PT aG}{o:OT (PV aG×List (PB aG))}(ht:Fp (IsE (X:=X0) v H1) an o)
  (hk:D9 X0 Tryz.prog T fO (dG X0 Tryz.prog (iE n)) (BI X0 Tryz.prog T (iE n) LL f H.length) LL f (first++xs++cap) H an=o:=by kernel_rfl):dG X0 Tryz.prog (iE (n+1)) (.fn f first cap) xs H v H1:=nH hX hO hk ht
theorem aN{call:aZ}{fO:eY aG}{L f:Nat}{gW:Bool}{nt B:Nat}(hO:jK X0 Tryz.prog call fO){b:Code}{n:Nat}{ps:aU aG}{an:PT aG}{e:Ex}{s:aU aG}{o:OT (Ex×aU aG)}(ht:Fp (Rnd X0 Tryz.prog T call L f gW nt B b n e s) an o)
  (hk:jT X0 Tryz.prog T fO (dG X0 Tryz.prog call) (dR X0 Tryz.prog T call L f gW nt B) B L f gW nt b ps an (afm (gU X0 (T.eX f (dW b))) B)=o:=by kernel_rfl):dM X0 Tryz.prog T call L f gW nt B b (n+1) ps e s:=round hX hO hk ht
abbrev a7p(f:Nat)(a c:List (PV aG))(H:List (PB aG))(l:LI0)(i:Int)(x:List (Nat×PE aG)):aU aG:=⟨[(0,xL 3 l),(1,.val (.fn f a c)),(7,xi l.length),(8,xi i)]++x,[],H⟩
def z218(f:Nat)(a c:List (PV aG))(H:List (PB aG))(l:LI0):Unit⊕(Nat×Int×Unit)->Ex×aU aG
 |.inl _=>(.exit 0,a7p f a c H l l.length [(9,xl false)])
 |.inr r=>(.ret,⟨[(4,xi r.1)],[],H⟩)
theorem apl{n f:Nat}{a c:List (PV aG)}{H:List (PB aG)}{g:Int->Bool}(hf:∀x,iJ n (.fn f a c) [.int .i64 x] H (.bool (g x)) H)(l:LI0)(hl:l.length<=ah):iJ (n+1) (.fn 218 [] []) [.dF 3 l false,.fn f a c] H (iA.put (rU g l)) H:=by
 have lp:Nk n 218 0 H.length (a7p f a c H l 0 []) (z218 f a c H l (mX (qc g) l 0 ())).1 (z218 f a c H l (mX (qc g) l 0 ())).2:=
  Xv (st:=fun i _=>a7p f a c H l i []) (0:Int) (fun _ _=>True) (by kernel_rfl) hl TK trivial (fun k s n hk _ ih=>aN gG (.b (bD hk) (.o (aH hk) (.k (hf (l.getD k (0:Int))) (.ls (.ou nofun) (.nx (ih _ trivial))))))) (fun s _=>aN gG (.b (fD l.length) (.ou nofun)))
 exact jr gG (first:=[]) (cap:=[]) (.szh (fun h=>.w (kM lp () h) .sr) (fun h=>.w (kN lp (0,0,()) h) .sr))
theorem ajq{n f:Nat}(hn:0<n){a c:List (PV aG)}{H:List (PB aG)}{g:Int->Bool}(hf:∀x,dG X0 Qp (iE (n-1)) (.fn f a c) [.int .i64 x] H (.bool (g x)) H)(l:LI0)(hl:l.length<=ah):iJ (n+1) (.fn 181 [] []) [.dF 3 l false,.fn f a c] H (tA.put (mZ g l)) H:=by have h1:=apl hf l hl;rw[show n-1+1=n by omega]at h1;exact jr gG (first:=[]) (cap:=[]) (.k h1 .sr)
abbrev afL(f:Nat)(a c:List (PV aG))(H:List (PB aG))(l:List V)(i:Int)(x:List (Nat×PE aG)):aU aG:=⟨[(0,xL 39 l),(1,.val (.fn f a c)),(7,xi l.length),(8,xi i)]++x,[],H⟩
def ajr(f:Nat)(a c:List (PV aG))(H:List (PB aG))(l:List V):Unit⊕(Nat×V×Unit)->Ex×aU aG
 |.inl _=>(.exit 0,afL f a c H l l.length [(9,xl false)])
 |.inr r=>(.ret,⟨[(4,xi r.1)],[],H⟩)
theorem ajs{n f:Nat}{a c:List (PV aG)}{H:List (PB aG)}{g:V->Bool}(hf:∀x,iJ n (.fn f a c) [.agg x.ps] H (.bool (g x)) H)(l:List V)(hl:l.length<=ah):iJ (n+1) (.fn 155 [] []) [.dF 39 l false,.fn f a c] H (iA.put (iH g l)) H:=by
 have lp:Nk n 155 0 H.length (afL f a c H l 0 []) (ajr f a c H l (mX (jC g) l 0 ())).1 (ajr f a c H l (mX (jC g) l 0 ())).2:=
  Xv (st:=fun i _=>afL f a c H l i []) V0 (fun _ _=>True) (by kernel_rfl) hl TK trivial (fun k s n hk _ ih=>aN gG (.b (bD hk) (.o (aH hk) (.k (hf (l.getD k V0)) (.ls (.ou nofun) (.nx (ih _ trivial))))))) (fun s _=>aN gG (.b (fD l.length) (.ou nofun)))
 exact jr gG (first:=[]) (cap:=[]) (.szh (fun h=>.w (kM lp () h) .sr) (fun h=>.w (kN lp (0,V0,()) h) .sr))
theorem afM{n f:Nat}(hn:0<n){a c:List (PV aG)}{H:List (PB aG)}{g:V->Bool}(hf:∀x,dG X0 Qp (iE (n-1)) (.fn f a c) [.agg x.ps] H (.bool (g x)) H)(l:List V)(hl:l.length<=ah):iJ (n+1) (.fn 152 [] []) [.dF 39 l false,.fn f a c] H (tA.put (qA g l)) H:=by have h1:=ajs hf l hl;rw[show n-1+1=n by omega]at h1;exact jr gG (first:=[]) (cap:=[]) (.k h1 .sr)
def acQ:eY aG:=bZ 219 (a1 iA) tA (fun p=>Vo p) np (aas (X:=X0))
theorem ajt:Gd acQ:=Good.nil.add fun n hO p hp=>aO hO .rr
def acR:eY aG:=bZ 141 (a1 uA) vA (fun p=>Ik p) np acQ
theorem aju:Gd acR:=ajt.add fun n hO p hp=>aO hO .rr
def acS:eY aG:=bZ 140 (a3 iA iA qg) tA (fun p=>vZ p.2.2 p.1 p.2.1) (fun p=>[p.2.2.length<=ah]) acR
theorem ajv:Gd acS:=aju.deep 3 fun n hn hO p hp=>by have h1:∀x,dG X0 Qp (iE (n-3+1)) (.fn 182 [] [.ptr 0 0 1,.ptr 1 0 1]) [.int .i64 x] [.cells [.int .i64 p.1],.cells [.int .i64 p.2.1]] (tA.put (tX x p.1 p.2.1)) [.cells [.int .i64 p.1],.cells [.int .i64 p.2.1]]:=fun x=>jr gG (first:=[]) (.ssh (fun _=>.sr) (fun _=>.sr));obtain⟨n,rfl⟩:∃k,n=k+3:=⟨n-3,by omega⟩;rw[show n+3-3+1=n+1 by omega]at h1;have h2:=ajq (n:=n+2) (by omega) (g:=fun x=>tX x p.1 p.2.1) h1 p.2.2 (hp _ gY);exact aO (hO _ (by omega)) (.k h2 (.v (!(mZ (fun x=>tX x p.1 p.2.1) p.2.2)) (by rw[Eu];rfl)))
theorem nan(x:Int):Vo x=false:=by simp[Vo]
def acT:eY aG:=bZ 154 (a1 vA) tA (fun p=>wX p) np acS
theorem ajw:Gd acT:=ajv.add fun n hO p hp=>aO hO (.ss (.o le1 .rr) (.ss .rr .rr))
def acU:eY aG:=bZ 100 (a1 iA) vA (fun p=>oP p) np acT
theorem ajx:Gd acU:=ajw.add fun n hO p hp=>aO hO (.o le1 (.ss .rr .rr))
def acV:eY aG:=bZ 186 (a1 tA) vA (fun p=>PL p) np acU
theorem ajy:Gd acV:=ajx.add fun n hO p hp=>aO hO (.ss .rr .rr)
def acW:eY aG:=bZ 156 (a1 vA) tA (fun p=>oh p) np acV
theorem ajz:Gd acW:=ajy.add fun n hO p hp=>aO hO .rr
def acX:eY aG:=bZ 153 (a1 vA) tA (fun p=>AX p) np acW
theorem ajA:Gd acX:=ajz.add fun n hO p hp=>aO hO .rr
def acY:eY aG:=bZ 142 (a2 iA iA) vA (fun p=>JE p.1 p.2) np acX
theorem ajB:Gd acY:=ajA.add fun n hO p hp=>aO hO .rr
def acZ:eY aG:=bZ 143 (a2 iA iA) vA (fun p=>JF p.1 p.2) np acY
theorem ajC:Gd acZ:=ajB.add fun n hO p hp=>aO hO .rr
def ad1:eY aG:=bZ 144 (a2 iA iA) vA (fun p=>JG p.1 p.2) np acZ
theorem ajD:Gd ad1:=ajC.add fun n hO p hp=>aO hO .rr
def ad2:eY aG:=bZ 146 (a2 iA iA) iA (fun p=>Dz p.1 p.2) np ad1
theorem ajE:Gd ad2:=ajD.add fun n hO p hp=>aO hO .rr
def ad3:eY aG:=bZ 147 (a2 iA iA) iA (fun p=>DC p.1 p.2) np ad2
theorem ajF:Gd ad3:=ajE.add fun n hO p hp=>aO hO .rr
def ad4:eY aG:=bZ 149 (a1 iA) tA (fun p=>DF p) np ad3
theorem ajG:Gd ad4:=ajF.add fun n hO p hp=>aO hO .rr
def ad5:eY aG:=bZ 150 (a1 iA) tA (fun p=>DI p) np ad4
theorem ajH:Gd ad5:=ajG.add fun n hO p hp=>aO hO .rr
def ad6:eY aG:=bZ 151 (a1 iA) tA (fun p=>DK p) np ad5
theorem ajI:Gd ad6:=ajH.add fun n hO p hp=>aO hO .rr
def ad7:eY aG:=bZ 184 (a2 iA iA) (dO (a2 iA iA)) (fun p=>uP p.1 p.2) (fun p=>[p.2≠0]) ad6
theorem ajJ:Gd ad7:=ajI.add fun n hO p hp=>aO hO (.o (hp _ gY) (.o (hp _ gY) (.ss (.ss .rr .rr) .rr)))
def ad8:eY aG:=bZ 187 (a2 iA iA) iA (fun p=>JD p.1 p.2) np ad7
theorem ajK:Gd ad8:=ajJ.add fun n hO p hp=>aO hO (.b (nan p.1) (.b (nan p.2) (.ss .rr (.ss .rr .rr))))
theorem apm{n:Nat}{fO:eY aG}(hO:Ok n fO)(ho:∀x:V,fO 156 [.agg x.ps]=some (.bool (oh x),[],[]))(H:List (PB aG))(x:V):iJ n (.fn 156 [] []) [.agg x.ps] H (.bool (oh x)) H:=
 Nb hX hO (first:=[]) (cap:=[]) (vs:=[.agg x.ps]) (v:=.bool (oh x)) rfl (ho x) (fun p h=>by cases h) rfl
theorem apn{n:Nat}{fO:eY aG}(hO:Ok n fO)(ho:∀x:V,fO 153 [.agg x.ps]=some (.bool (AX x),[],[]))(H:List (PB aG))(x:V):iJ n (.fn 153 [] []) [.agg x.ps] H (.bool (AX x)) H:=
 Nb hX hO (first:=[]) (cap:=[]) (vs:=[.agg x.ps]) (v:=.bool (AX x)) rfl (ho x) (fun p h=>by cases h) rfl
def ad9:eY aG:=bZ 103 (a1 vsA) (dO (a2 vA tA)) (fun p=>bQ p) (fun p=>[p.length<=ah]) ad8
theorem ajL:Gd ad9:=ajK.deep 2 fun n hn hO p hp=>by have hs:=ajs (n:=n-1) (H:=[]) (g:=fun v=>oh v) (apm (hO (n-1) (by omega)) (fun _=>rfl) []) p (hp _ gY);rw[show n-1+1=n by omega]at hs;exact aO (hO n (by omega)) (.k hs (.sh (fun h=>.rr) (fun h=>.o (show gu (iH (fun v=>oh v) p) p.length from⟨by simpa using h,QZ _ _⟩) .rr)))
def ada:eY aG:=bZ 102 (a1 vsA) tA (fun p=>iq p) (fun p=>[p.length<=ah]) ad9
theorem ajM:Gd ada:=ajL.deep 3 fun n hn hO p hp=>by have hs:=afM (n:=n-1) (by omega) (H:=[]) (g:=fun v=>AX v) (apn (hO (n-2) (by omega)) (fun _=>rfl) []) p (hp _ gY);rw[show n-1+1=n by omega]at hs;exact aO (hO n (by omega)) (.k hs (.v (!(qA (fun v=>AX v) p)) (by rw[JC];rfl)))
def ajN:eY aG:=bZ 99 (a3 vA vA vA) (dO (a2 vA iA)) (fun p=>jO p.1 p.2.1 p.2.2) np ada
theorem apo:Gd ajN:=ajM.add fun n hO p hp=>aO hO (.o le3 (.ss .rr (.ss .rr (.ss .rr .rr))))
def ajO:Arg Nat where
 put f:=.fn f [] []
 get v:=match v with
  |.fn g [] []=>some g
  |_=>none
 ok:=by
  intro v a hg A m h x hv;split at hg
  .cases hg;exact hv
  .cases hg
def adb:eY aG:=a05 145 (a1 ajO) (fun _=>.fn 183 [] [.ptr 0 0 1]) (fun g=>[.cells [.fn g [] []]]) np ajN
theorem ajP:Gd adb:=apo.Xx 0 fun n _ hO p hp=>BJ hX (hO n (by omega)) (by kernel_rfl) .er
def ade:eY aG:=a05 148 (a1 ajO) (fun _=>.fn 185 [] [.ptr 0 0 1]) (fun g=>[.cells [.fn g [] []]]) np adb
theorem ajQ:Gd ade:=ajP.Xx 0 fun n _ hO p hp=>BJ hX (hO n (by omega)) (by kernel_rfl) .er
def apq(p:Int):PV aG:=if p=7 then .fn 142 [] []else if p=8 then .fn 143 [] []else if p=9 then .fn 144 [] []else if p=10 then .fn 183 [] [.ptr 0 0 1]else if p=11 then .fn 183 [] [.ptr 0 0 1]else .fn 185 [] [.ptr 0 0 1]
def apr(p:Int):List (PB aG):=if p=10 then [.cells [.fn 146 [] []]]else if p=11 then [.cells [.fn 147 [] []]]else if p=12 then [.cells [.fn 149 [] []]]else if p=13 then [.cells [.fn 150 [] []]]else if p=14 then [.cells [.fn 151 [] []]]else []
def PO:eY aG:=a05 101 (a1 uA) apq apr (fun p=>[7<=p∧p<=14]) ade
theorem seven{p:Int}(h:7<=p∧p<=14):p=7∨p=8∨p=9∨p=10∨p=11∨p=12∨p=13∨p=14:=by omega
theorem ajR:Gd PO:=ajQ.Xx 0 fun n _ hO p hp=>by
 rcases seven (hp _ gY)with rfl|rfl|rfl|rfl|rfl|rfl|rfl|rfl
 .exact BJ hX (hO n (by omega)) (by kernel_rfl) (.b (rfl:true=true) .er)
 .exact BJ hX (hO n (by omega)) (by kernel_rfl) (.b (rfl:false=false) (.b (rfl:true=true) .er))
 .exact BJ hX (hO n (by omega)) (by kernel_rfl) (.b (rfl:false=false) (.b (rfl:false=false) (.b (rfl:true=true) .er)))
 .exact BJ hX (hO n (by omega)) (by kernel_rfl) (.b (rfl:false=false) (.b (rfl:false=false) (.b (rfl:false=false) (.b (rfl:true=true) .er))))
 .exact BJ hX (hO n (by omega)) (by kernel_rfl) (.b (rfl:false=false) (.b (rfl:false=false) (.b (rfl:false=false) (.b (rfl:false=false) (.b (rfl:true=true) .er)))))
 .exact BJ hX (hO n (by omega)) (by kernel_rfl) (.b (rfl:false=false) (.b (rfl:false=false) (.b (rfl:false=false) (.b (rfl:false=false) (.b (rfl:false=false) (.b (rfl:true=true) .er))))))
 .exact BJ hX (hO n (by omega)) (by kernel_rfl) (.b (rfl:false=false) (.b (rfl:false=false) (.b (rfl:false=false) (.b (rfl:false=false) (.b (rfl:false=false) (.b (rfl:false=false) (.b (rfl:true=true) .er)))))))
 .exact BJ hX (hO n (by omega)) (by kernel_rfl) (.b (rfl:false=false) (.b (rfl:false=false) (.b (rfl:false=false) (.b (rfl:false=false) (.b (rfl:false=false) (.b (rfl:false=false) (.b (rfl:false=false) (.b (rfl:true=true) .er))))))))
theorem aaG{n:Nat}(hO:Ok n PO)(a b:V)(x y:Int):iJ (n+1) (.fn 183 [] [.ptr 0 0 1]) [.int .i64 x,.int .i64 y] [.cells [.fn 146 [] []],.list true true 39 [a,b],.list true true 39 [a,b]] (vA.put (iI Dz x y)) [.cells [.fn 146 [] []],.list true true 39 [a,b],.list true true 39 [a,b]]:=
 jr hO (first:=[]) (.ssh (fun _=>.sr) (fun h=>.o (show y≠0 by simpa using h) .sr))
theorem aaH{n:Nat}(hO:Ok n PO)(a b:V)(x y:Int):iJ (n+1) (.fn 183 [] [.ptr 0 0 1]) [.int .i64 x,.int .i64 y] [.cells [.fn 147 [] []],.list true true 39 [a,b],.list true true 39 [a,b]] (vA.put (iI DC x y)) [.cells [.fn 147 [] []],.list true true 39 [a,b],.list true true 39 [a,b]]:=
 jr hO (first:=[]) (.ssh (fun _=>.sr) (fun h=>.o (show y≠0 by simpa using h) .sr))
theorem aaI{n:Nat}(hO:Ok n PO)(a b:V)(x y:Int):iJ (n+1) (.fn 185 [] [.ptr 0 0 1]) [.int .i64 x,.int .i64 y] [.cells [.fn 149 [] []],.list true true 39 [a,b],.list true true 39 [a,b]] (vA.put (dV DF x y)) [.cells [.fn 149 [] []],.list true true 39 [a,b],.list true true 39 [a,b]]:=
 jr hO (first:=[]) .sr
theorem aaJ{n:Nat}(hO:Ok n PO)(a b:V)(x y:Int):iJ (n+1) (.fn 185 [] [.ptr 0 0 1]) [.int .i64 x,.int .i64 y] [.cells [.fn 150 [] []],.list true true 39 [a,b],.list true true 39 [a,b]] (vA.put (dV DI x y)) [.cells [.fn 150 [] []],.list true true 39 [a,b],.list true true 39 [a,b]]:=
 jr hO (first:=[]) .sr
theorem aaK{n:Nat}(hO:Ok n PO)(a b:V)(x y:Int):iJ (n+1) (.fn 185 [] [.ptr 0 0 1]) [.int .i64 x,.int .i64 y] [.cells [.fn 151 [] []],.list true true 39 [a,b],.list true true 39 [a,b]] (vA.put (dV DK x y)) [.cells [.fn 151 [] []],.list true true 39 [a,b],.list true true 39 [a,b]]:=
 jr hO (first:=[]) .sr
def ajS:eY aG:=bZ 45 (a3 uA vA vA) (dO (a2 vA iA)) (fun p=>Il p.1 p.2.1 p.2.2) (fun p=>[7<=p.1∧p.1<=16]) PO
theorem aps:Gd ajS:=ajR.deep 1 fun n hn hO p hp=>by
 obtain⟨n,rfl⟩:∃k,n=k+1:=⟨n-1,by omega⟩;have BU:=hO n (by omega);have hO:=hO (n+1) (by omega);obtain⟨k,a,b⟩:=p;rcases nine (show 7<=k∧k<=16 from hp _ gY)with rfl|rfl|rfl|rfl|rfl|rfl|rfl|rfl|rfl|rfl
 .have:nS X0 Qp (iE (n+1+1)) 45 ((a3 uA vA vA).put (7,a,b)) ((dO (a2 vA iA)).put (rW a b)) []:=aO hO (.b (rfl:false=false) (.b (rfl:false=false) (.o (by decide:(7:Int)<=7∧(7:Int)<=14) (.b (rfl:false=false) (.o YS (.ss .rr (.o YS (.ss .rr .rr))))))));exact this
 .have:nS X0 Qp (iE (n+1+1)) 45 ((a3 uA vA vA).put (8,a,b)) ((dO (a2 vA iA)).put (rX a b)) []:=aO hO (.b (rfl:false=false) (.b (rfl:false=false) (.o (by decide:(7:Int)<=8∧(8:Int)<=14) (.b (rfl:false=false) (.o YS (.ss .rr (.o YS (.ss .rr .rr))))))));exact this
 .have:nS X0 Qp (iE (n+1+1)) 45 ((a3 uA vA vA).put (9,a,b)) ((dO (a2 vA iA)).put (rY a b)) []:=aO hO (.b (rfl:false=false) (.b (rfl:false=false) (.o (by decide:(7:Int)<=9∧(9:Int)<=14) (.b (rfl:false=false) (.o YS (.ss .rr (.o YS (.ss .rr .rr))))))));exact this
 .have:nS X0 Qp (iE (n+1+1)) 45 ((a3 uA vA vA).put (10,a,b)) ((dO (a2 vA iA)).put (oQ a b)) []:=aO hO (.b (rfl:false=false) (.b (rfl:false=false) (.o (by decide:(7:Int)<=10∧(10:Int)<=14) (.b (rfl:false=false) (.o YS (.ss .rr (.o YS (.ss .rr (.k (aaG BU a b a.n b.n) .rr)))))))));exact this
 .have:nS X0 Qp (iE (n+1+1)) 45 ((a3 uA vA vA).put (11,a,b)) ((dO (a2 vA iA)).put (oU a b)) []:=aO hO (.b (rfl:false=false) (.b (rfl:false=false) (.o (by decide:(7:Int)<=11∧(11:Int)<=14) (.b (rfl:false=false) (.o YS (.ss .rr (.o YS (.ss .rr (.k (aaH BU a b a.n b.n) .rr)))))))));exact this
 .have:nS X0 Qp (iE (n+1+1)) 45 ((a3 uA vA vA).put (12,a,b)) ((dO (a2 vA iA)).put (oV a b)) []:=aO hO (.b (rfl:false=false) (.b (rfl:false=false) (.o (by decide:(7:Int)<=12∧(12:Int)<=14) (.b (rfl:false=false) (.o YS (.ss .rr (.o YS (.ss .rr (.k (aaI BU a b a.n b.n) .rr)))))))));exact this
 .have:nS X0 Qp (iE (n+1+1)) 45 ((a3 uA vA vA).put (13,a,b)) ((dO (a2 vA iA)).put (oW a b)) []:=aO hO (.b (rfl:false=false) (.b (rfl:false=false) (.o (by decide:(7:Int)<=13∧(13:Int)<=14) (.b (rfl:false=false) (.o YS (.ss .rr (.o YS (.ss .rr (.k (aaJ BU a b a.n b.n) .rr)))))))));exact this
 .have:nS X0 Qp (iE (n+1+1)) 45 ((a3 uA vA vA).put (14,a,b)) ((dO (a2 vA iA)).put (oZ a b)) []:=aO hO (.b (rfl:false=false) (.b (rfl:false=false) (.o (by decide:(7:Int)<=14∧(14:Int)<=14) (.b (rfl:false=false) (.o YS (.ss .rr (.o YS (.ss .rr (.k (aaK BU a b a.n b.n) .rr)))))))));exact this
 .have:nS X0 Qp (iE (n+1+1)) 45 ((a3 uA vA vA).put (15,a,b)) ((dO (a2 vA iA)).put (tY a b)) []:=aO hO (.b (rfl:true=true) .rr);exact this
 .have:nS X0 Qp (iE (n+1+1)) 45 ((a3 uA vA vA).put (16,a,b)) ((dO (a2 vA iA)).put (tZ a b)) []:=aO hO (.b (rfl:false=false) (.b (rfl:true=true) .rr));exact this
open Go Tw Pv bP
def ajT:eY aG:=bZ 23 (a3 iA iA iA) tA (fun p=>nJ p.1 p.2.1 p.2.2) np ajS
theorem apt:Gd ajT:=aps.add fun n hO p hp=>aO hO (.ss .rr .rr)
abbrev L6(a b:LI0)(k:Nat):Bool:=a.getD k 0 != b.getD k 0
abbrev w32(a b:LI0)(i:Int)(x:List (Nat×PE aG)):aU aG:=⟨[(0,xL 3 a),(1,xL 3 b),(5,xi i)]++x,[],[]⟩
def z32(a b:LI0):Unit⊕Nat->Ex×aU aG
 |.inl _=>(.exit 0,w32 a b a.length [(14,xl false)])
 |.inr _=>(.ret,⟨[(4,xl false)],[],[]⟩)
theorem l32{n:Nat}{fO:eY aG}(hO:Ok n fO)(a b:LI0)(hl:a.length<=ah)(h:a.length=b.length):Lp n 32 0 (w32 a b 0 []) (z32 a b (bG (L6 a b) a.length)).1 (z32 a b (bG (L6 a b) a.length)).2:=
 P8 (st:=fun i _=>w32 a b i []) (fun _ _=>True) (by kernel_rfl) hl TK trivial (fun k s n hk _ ih=>aN hO (.b (bD hk) (.o (aH hk) (.o (aH (h▸hk)) (.ls (.ou nofun) (.nx (ih _ trivial))))))) (fun s _=>aN hO (.b (fD a.length) (.ou nofun)))
theorem Ew{a b:LI0}(h:a.length=b.length):jZ (bG (L6 a b) a.length)=decide (a=b):=by rw[a5b,dL,a1z,qx (d:=0) h];simp[L6]
theorem a7q{a b:LI0}(h:((a.length:Int) != (b.length:Int))=true):decide (a=b)=false:=by rw[a3b];rintro rfl;simp at h
theorem lT{α β:Type}{a:List α}{b:List β}(h:((a.length:Int) != (b.length:Int))=false):a.length=b.length:=by simp at h;omega
def ajU:eY aG:=bZ 32 (a2 qg qg) tA (fun p=>decide (p.1=p.2)) (fun p=>[p.1.length<=ah]) ajT
theorem apv:Gd ajU:=apt.add fun n hO p hp=>aO hO (.s (fun h=>.v false (a7q h).symm) fun h=>.z (c:=jZ (bG (L6 p.1 p.2) p.1.length)) (fun h2=>.w (kM (l32 hO p.1 p.2 (hp _ gY) (lT h)) () h2) (.v true (by rw[<-Ew (lT h),h2]))) fun h2=>.w (kN (l32 hO p.1 p.2 (hp _ gY) (lT h)) 0 h2) (.v false (by rw[<-Ew (lT h),h2])))
abbrev aaL(a:LI0)(n i:Int)(x:List (Nat×PE aG)):aU aG:=⟨[(0,xL 3 a),(5,xi n),(6,xi i)]++x,[],[]⟩
theorem apw{n:Nat}{fO:eY aG}(hO:Ok n fO)(a:LI0)(hl:a.length<=ah):Lp n 104 0 (aaL a 1 0 []) (.exit 0) (aaL a (Fj a) a.length [(11,xl false)]):=
 P9 (st:=fun i n=>aaL a n i []) (fin:=fun n=>aaL a n a.length [(11,xl false)]) (fun _ _=>True) (by kernel_rfl) hl TK trivial (fun _ _ _ _=>trivial) (fun k s hk _ n e p h=>aN hO (.b (bD hk) (.o (aH hk) (.go h)))) (fun s _=>aN hO (.b (fD a.length) .ex))
def adf:eY aG:=bZ 104 (a2 qg iA) iA (fun p=>Fj p.1) (fun p=>[p.1.length<=ah,p.2=0]) ajU
theorem ajV:Gd adf:=apv.add fun n hO p hp=>by obtain⟨a,k⟩:=p;have h0:k=0:=hp _ yc;subst h0;exact aO hO (.w (apw hO a (hp _ gY)) .rr)
def afN:eY aG:=bZ 49 (a1 qg) iA (fun p=>Fj p) (fun p=>[p.length<=ah]) adf
theorem apx:Gd afN:=ajV.add fun n hO p hp=>aO hO (.o (hp _ gY) (.o (rfl:(0:Int)=0) .rr))
abbrev L8(b:LI0)(k j:Nat):Bool:=b.getD j 0==b.getD k 0
abbrev a3Q(a b:LI0)(i:Int)(x:List (Nat×PE aG)):aU aG:=⟨[(0,xL 3 a),(1,xL 3 b),(5,xi i)]++x,[],[]⟩
def adg(a b:LI0)(k:Int)(i:Int):Unit⊕Nat->Ex×aU aG
 |.inl _=>(.exit 2,a3Q a b k [(6,xi i),(29,xl false)])
 |.inr _=>(.ret,⟨[(4,xl false)],[],[]⟩)
theorem adh{n:Nat}{fO:eY aG}(hO:Ok n fO)(a b:LI0)(k:Nat)(hl:k<=ah)(h:k<b.length):Lp n 109 1 (a3Q a b k [(6,xi 0)]) (adg a b k k (bG (L8 b k) k)).1 (adg a b k k (bG (L8 b k) k)).2:=
 P8 (st:=fun i _=>a3Q a b k [(6,xi i)]) (fun _ _=>True) (by kernel_rfl) hl TK trivial (fun j s n hk _ ih=>aN hO (.b (bD hk) (.o (aH (show j<b.length by omega)) (.o (aH h) (.ls (.ou nofun) (.nx (ih _ trivial))))))) (fun s _=>aN hO (.b (fD k) (.ou nofun)))
abbrev a0b(m:Int)(b:LI0)(k:Nat):Bool:=if(!(nJ (b.getD k 0) 0 m))=true then true else if jZ (bG (L8 b k) k)=true then false else true
def z109(a b:LI0):Unit⊕Nat->Ex×aU aG
 |.inl _=>(.exit 0,a3Q a b b.length [(15,xl false)])
 |.inr _=>(.ret,⟨[(4,xl false)],[],[]⟩)
abbrev xw(s:LI0):Int:=i64.wrap ((s.length:Int)-1)
theorem ajW{n:Nat}(hO:Ok n afN)(a b:LI0)(hl:b.length<=ah):Lp n 109 0 (a3Q a b 0 []) (z109 a b (bG (a0b (xw a) b) b.length)).1 (z109 a b (bG (a0b (xw a) b) b.length)).2:=
 P8 (st:=fun i _=>a3Q a b i []) (fun _ _=>True) (by kernel_rfl) hl TK trivial (fun k s n hk _ ih=>by
  unfold gS a0b;cases h1:(!(nJ (b.getD k 0) 0 (xw a)))
  .cases h2:jZ (bG (L8 b k) k)
   .exact aN hO (.b (bD hk) (.o (aH hk) (.b h1 (.w (kN (adh hO a b k (by omega) hk) 0 h2) (.ou nofun)))))
   .exact aN hO (.b (bD hk) (.o (aH hk) (.b h1 (.w (kM (adh hO a b k (by omega) hk) () h2) (.nx (ih _ trivial))))))
  .exact aN hO (.b (bD hk) (.o (aH hk) (.b h1 (.ou nofun))))
  ) (fun s _=>aN hO (.b (fD b.length) (.ou nofun)))
theorem a7r{s:LI0}(h:s.length<=ah):xw s=(s.length:Int)-1:=by unfold xw;unfold ah at h;exact fK (by omega) (by omega)
theorem vU{k lo hi:Int}:nJ k lo hi=true↔lo<=k∧k<=hi:=by
 unfold nJ;split
 .rename_i h;simp at h ⊢;omega
 rename_i h;simp at h ⊢;omega
theorem XW{a b:LI0}(ha:a.length<=ah)(h:b.length=a.length):jZ (bG (a0b (xw a) b) b.length)=jW a.length b:=by
 rw[a5b,dL,jW,a1z];have e1:(∀j,j<b.length->a0b (xw a) b j=false)↔(∀j,j<b.length->(0<=b.getD j 0∧b.getD j 0<a.length)∧∀i,i<j->b.getD i 0≠b.getD j 0):=by
  refine acr fun j=>acr fun hj=>?_;unfold a0b;rw[a7r ha];cases h1:nJ (b.getD j 0) 0 ((a.length:Int)-1)
  .simp only[aaT,a2u,afk,false_iff];intro h2;have:nJ (b.getD j 0) 0 ((a.length:Int)-1)=true:=by rw[vU];omega
   rw[h1]at this;cases this
  have h3:0<=b.getD j 0∧b.getD j 0<a.length:=by rw[vU]at h1;omega
  simp only[a9t,a2S,a3T,h3,acL,true_and];cases h2:jZ (bG (L8 b j) j)
  .simp only[a2S,a3T,afk,false_iff];intro h4;have:jZ (bG (L8 b j) j)=true:=dL.2 fun i hi=>(by simpa[L8]using h4 i hi);rw[h2]at this;cases this
  simp only[a2u,true_iff];intro i hi;have:=dL.1 h2 i hi;simpa[L8]using this
 rw[e1];constructor
 .intro hq;refine⟨h,(P7 (d:=0)).1 fun j hj=>(hq j hj).1,?_⟩;rw[acu,acy];intro i j hi hj Ai;have:=(hq j hj).2 i Ai;simpa[List.getD,a0q hi,a0q hj]using this
 rintro⟨_,h2,h3⟩ j hj;refine⟨(P7 (d:=0)).2 h2 j hj,fun i hi=>?_⟩;rw[acu,acy]at h3;have:=h3 i j (by omega) hj hi;simpa[List.getD,a0q (show i<b.length by omega),a0q hj]using this
theorem aaM{a b:LI0}(h:((b.length:Int) != (a.length:Int))=true):jW a.length b=false:=by unfold jW;rw[a3b];rintro⟨h1,_⟩;rw[h1]at h;simp at h
def a7s:eY aG:=bZ 109 (a2 qg qg) tA (fun p=>jW p.1.length p.2) (fun p=>[p.1.length<=ah,p.2.length<=ah]) afN
theorem ajX:Gd a7s:=apx.add fun n hO p hp=>aO hO (.s (fun h=>.v false (aaM h).symm) fun h=>.z (c:=jZ (bG (a0b (xw p.1) p.2) p.2.length)) (fun h2=>.w (kM (ajW hO p.1 p.2 (hp _ yc)) () h2) (.v true (by rw[<-XW (hp _ gY) (lT h),h2]))) fun h2=>.w (kN (ajW hO p.1 p.2 (hp _ yc)) 0 h2) (.v false (by rw[<-XW (hp _ gY) (lT h),h2])))
abbrev cSz(a:LI0)(k:Nat):Bool:=!(nJ (a.getD k 0) 1 12)
theorem aaN{a:LI0}:jZ (bG (cSz a) a.length)=decide (nR a):=by rw[a5b,dL,a1z,nR,<-P7 (d:=0)];refine acr fun j=>acr fun hj=>?_;simp only[cSz,acg,vU]
abbrev w58(a b:LI0)(i:Int)(x:List (Nat×PE aG)):aU aG:=⟨[(0,xL 3 a),(1,xL 3 b),(5,xi i)]++x,[],[]⟩
def z58(a b:LI0):Unit⊕Nat->Ex×aU aG
 |.inl _=>(.exit 0,w58 a b a.length [(12,xl false)])
 |.inr _=>(.ret,⟨[(4,xi 3)],[],[]⟩)
theorem l58{n:Nat}(hO:Ok n a7s)(a b:LI0)(hl:a.length<=ah):Lp n 58 0 (w58 a b 0 []) (z58 a b (bG (cSz a) a.length)).1 (z58 a b (bG (cSz a) a.length)).2:=
 P8 (st:=fun i _=>w58 a b i []) (fun _ _=>True) (by kernel_rfl) hl TK trivial (fun k s n hk _ ih=>aN hO (.b (bD hk) (.o (aH hk) (.ls (.ou nofun) (.nx (ih _ trivial)))))) (fun s _=>aN hO (.b (fD a.length) (.ou nofun)))
def bK(s o:LI0):Int:=if decide ((s.length:Int)>6)=true then 5 else if jZ (bG (cSz s) s.length)=true then(if decide (Fj s>2000)=true then 5 else if(!(jW s.length o))=true then 4 else 0)else 3
theorem aaO{s:LI0}(h:decide ((s.length:Int)>6)=false):s.length<=6:=by simp at h;omega
theorem a1T{k:Nat}(h:k<=6):k<=ah:=by unfold ah;omega
def ajZ:eY aG:=bZ 58 (a2 qg qg) iA (fun p=>bK p.1 p.2) (fun p=>[p.2.length<=ah]) a7s
theorem apz:Gd ajZ:=ajX.add fun n hO p hp=>aO hO (.sh (fun _=>.rr) fun h=>.zh (fun h2=>.w (kM (l58 hO p.1 p.2 (a1T (aaO h))) () h2) (.o (a1T (aaO h)) (.o (rfl:(0:Int)=0) (.ss .rr (.o (a1T (aaO h)) (.o (hp _ gY) (.ss .rr .rr))))))) fun h2=>.w (kN (l58 hO p.1 p.2 (a1T (aaO h))) 0 h2) .rr)
theorem PS(s o:LI0):bK s o=if 6<s.length then 5 else if nR s then(if 2000<bC s then 5 else if jW s.length o=true then 0 else 4)else 3:=by
 unfold bK;rw[aaN];by_cases h1:6<s.length
 .rw[a0F h1,a0F (by simp;omega)]
 rw[a0E h1,a0E (by simp;omega)];by_cases h2:nR s
 .rw[a0F (by simpa using h2),a0F h2,XD h2];by_cases h3:2000<bC s
  .rw[a0F h3,a0F (by simp;omega)]
  rw[a0E h3,a0E (by simp;omega)];cases jW s.length o<;>simp
 rw[a0E (by simpa using h2),a0E h2]
theorem jw{s o:LI0}:bK s o=0↔vk s∧jW s.length o=true:=by
 rw[PS];constructor
 .intro h;split at h
  .cases h
  split at h
  .split at h
   .cases h
   split at h
   .exact⟨⟨by omega,by assumption,by omega⟩,by assumption⟩
   cases h
  cases h
 rintro⟨⟨h1,h2,h3⟩,h4⟩;rw[a0E (by omega),a0F h2,a0E (by omega),a0F h4]
abbrev w53(a:LI0)(i:Int)(s:Int×LI0)(x:List (Nat×PE aG)):aU aG:=⟨[(0,xL 3 a),(1,xi s.1),(5,xo 0),(6,xi i)]++x,[],[.list true true 3 s.2]⟩
theorem szk{a:LI0}(hs:nR a){k:Nat}(hk:k<a.length):a.getD k 0≠0:=by have:=hs _ (dB hk);omega
theorem afO(k:Nat):decide ((k:Int)>=0)=true:=by simp
theorem l53{n:Nat}{fO:eY aG}(hO:Ok n fO)(a:LI0)(m:Int)(hl:a.length<=ah)(hs:nR a):Lp n 53 0 (w53 a (i64.wrap ((a.length:Int)-1)) (m,List.replicate a.length 0) []) (.exit 0) (w53 a (-1) (P6 (a3z a) a.length (m,List.replicate a.length 0)) [(14,xl false)]):=
 aji (st:=fun i s=>w53 a i s []) (fin:=fun s=>w53 a (-1) s [(14,xl false)]) (fun _ s=>s.2.length=a.length) (by kernel_rfl) hl TK (by simp) (fun k s _ h=>by simp[a3z,h]) (fun k s hk hi n e p h=>aN hO (.b (afO k) (.o (aH hk) (.o (szk hs hk) (.o (aH (show k<s.2.length by omega)) (.o (aH hk) (.o (szk hs hk) (.go h)))))))) (fun s _=>aN hO (.b (rfl:decide ((-1:Int)>=0)=false) .ex))
theorem mk1{α:Type}(l:List α):(l.length:Int)=(l.length:Int):=rfl
theorem mk2{α:Type}(l:List α):(0:Int)<=(l.length:Int):=by omega
theorem mk3{α:Type}{l:List α}(h:l.length<=ah):(l.length:Int)<=(ah:Int):=by omega
def ak0:eY aG:=bZ 53 (a2 qg iA) qg (fun p=>lQ p.1 p.2) (fun p=>[p.1.length<=ah,nR p.1,0<=p.2,p.2<2^62]) ajZ
theorem apA:Gd ak0:=apz.add fun n hO p hp=>aO hO (.o (mk1 p.1) (.o (mk2 p.1) (.o (mk3 (hp _ gY)) (.w (l53 hO p.1 p.2 (hp _ gY) (hp _ yc)) (.v (P6 (a3z p.1) p.1.length (p.2,List.replicate p.1.length 0)).2 (a6Y (hp _ yc) (hp _ hh2) (hp _ (.tail _ (.tail _ (.tail _ (.head _))))) a6E))))))
def vOk(v:V):Bool:=if(v.f==0)=true then nJ v.n (-9999) 9999 else if(decide (v.f<=4))=true then v.n==0 else false
def ak1:eY aG:=bZ 29 (a1 vA) tA (fun p=>vOk p) np ak0
theorem apB:Gd ak1:=apA.add fun n hO p hp=>aO hO (.ss .rr (.ss .rr .rr))
def vIs(v:V):Bool:=if(decide (v.f>0))=true then(if(decide (v.f<=4))=true then v.n==0 else false)else nJ v.n (-9999) 9999
theorem afP{v:V}(h:0<=v.f):vOk v=vIs v:=by
 unfold vOk vIs;by_cases h0:v.f=0
 .rw[a0F (by simp[h0]),a0E (by simp;omega)]
 have:v.f>0:=by omega
 simp[h0,this]
open Go Tw Pv bP
def dS(n:Nat):LI0:=(List.range n).map fun(k:Nat)=>(k:Int)
theorem lU(n:Nat):(dS n).length=n:=by simp[dS]
theorem TL(n:Nat):jW n (dS n)=true:=by
 unfold jW;rw[a1z];refine⟨lU n,fun a ha=>?_,?_⟩
 .simp only[dS,a0V,a4P]at ha;obtain⟨k,h1,rfl⟩:=ha;omega
 unfold dS;exact List.Pairwise.map _ (fun a b h=>by omega) aeu
open Go Tw Pv bP
abbrev V.tv(v:V):TV:=.agg [.int .u8 v.f,.int .i64 v.n]
theorem a3R:Tryz.prog.underlying 3=some (.int .i64):=by kernel_rfl
theorem uU8:Tryz.prog.underlying 5=some (.int .u8):=by kernel_rfl
theorem afQ : Tryz.prog.underlying 39 = some (.struct #[⟨"Fault", 5, 0, false, "", "", 0⟩, ⟨"N", 3, 1, false, "", "", 8⟩]) := by kernel_rfl
theorem a1V(d:Nat)(a b:V):aC Qp (Op.equalIn (d+2) 39 (.agg #[.int .u8 a.f,.int .i64 a.n]) (.agg #[.int .u8 b.f,.int .i64 b.n]))=some (decide (a=b)):=by
 rw[yw (d+1) 39 _ _ _ afQ (by kernel_rfl)];have p0:∀x y:LI3,aC Qp (part 5 #[x,y] 0)=some x:=by intro x y;kernel_rfl
 have p1:∀x y:LI3,aC Qp (part 3 #[x,y] 1)=some y:=by intro x y;kernel_rfl
 have n1 : ("Fault" : String) ≠ "_" := by decide
 have n2 : ("N" : String) ≠ "_" := by decide
 have q1 := oM (f := ⟨"Fault", 5, 0, false, "", "", 0⟩) (fs := [⟨"N", 3, 1, false, "", "", 8⟩]) n1 (p0 (.int .u8 a.f) (.int .i64 a.n)) (p0 (.int .u8 b.f) (.int .i64 b.n)) (rG d _ _ _ _ _ uU8);have q2 := oM (f := ⟨"N", 3, 1, false, "", "", 8⟩) (fs := []) n2 (p1 (.int .u8 a.f) (.int .i64 a.n)) (p1 (.int .u8 b.f) (.int .i64 b.n)) (rG d _ _ _ _ _ a3R);rw[q1,q2];rw[show aC Qp (Op.eqFields (d+1) #[.int .u8 a.f,.int .i64 a.n] #[.int .u8 b.f,.int .i64 b.n] [])=some true from rfl];rcases a with⟨a1,a2⟩;rcases b with⟨b1,b2⟩;by_cases h1:a1=b1<;>by_cases h2:a2=b2<;>simp[h1,h2]
theorem eqV(x y:Operand)(a b:V):sO Qp .eql 39 x y (V.tv a) (V.tv b)=some (.bool (decide (a=b))):=(Ht rfl rfl (by kernel_rfl) (by decide) (a1V 9998 a b)).1
theorem neV(x y:Operand)(a b:V):sO Qp .neq 39 x y (V.tv a) (V.tv b)=some (.bool (!decide (a=b))):=(Ht rfl rfl (by kernel_rfl) (by decide) (a1V 9998 a b)).2
open Go Tw Pv bP
abbrev cAl(a b:List V)(k:Nat):Bool:=!decide (a.getD k V0=b.getD k V0)
abbrev w75(a b:List V)(i:Int)(x:List (Nat×PE aG)):aU aG:=⟨[(0,xL 39 a),(1,xL 39 b),(5,xi i)]++x,[],[]⟩
def z75(a b:List V):Unit⊕Nat->Ex×aU aG
 |.inl _=>(.exit 0,w75 a b a.length [(14,xl false)])
 |.inr _=>(.ret,⟨[(4,xl false)],[],[]⟩)
theorem l75{n:Nat}{fO:eY aG}(hO:Ok n fO)(a b:List V)(hl:a.length<=ah)(h:a.length=b.length):Lp n 75 0 (w75 a b 0 []) (z75 a b (bG (cAl a b) a.length)).1 (z75 a b (bG (cAl a b) a.length)).2:=
 P8 (st:=fun i _=>w75 a b i []) (fun _ _=>True) (by kernel_rfl) hl TK trivial (fun k s n hk _ ih=>aN hO (.b (bD hk) (.o (aH hk) (.o (aH (h▸hk)) (.q (.bool (cAl a b k)) (neV (.tmp 20) (.tmp 24) (a.getD k V0) (b.getD k V0)) (.ls (.ou nofun) (.nx (ih _ trivial)))))))) (fun s _=>aN hO (.b (fD a.length) (.ou nofun)))
theorem a1W{a b:List V}(h:a.length=b.length):jZ (bG (cAl a b) a.length)=decide (a=b):=by rw[a5b,dL,a1z,qx (d:=V0) h];simp[cAl]
theorem aaP{a b:List V}(h:((a.length:Int) != (b.length:Int))=true):decide (a=b)=false:=by rw[a3b];rintro rfl;simp at h
def ak2:eY aG:=bZ 75 (a2 vsA vsA) tA (fun p=>decide (p.1=p.2)) (fun p=>[p.1.length<=ah]) ak1
theorem apF:Gd ak2:=apB.add fun n hO p hp=>aO hO (.s (fun h=>.v false (aaP h).symm) fun h=>.z (c:=jZ (bG (cAl p.1 p.2) p.1.length)) (fun h2=>.w (kM (l75 hO p.1 p.2 (hp _ gY) (lT h)) () h2) (.v true (by rw[<-a1W (lT h),h2]))) fun h2=>.w (kN (l75 hO p.1 p.2 (hp _ gY) (lT h)) 0 h2) (.v false (by rw[<-a1W (lT h),h2])))
open Go Tw Pv bP
abbrev RhB(n f k B m:Nat)(s:aU aG)(e:Ex)(p:aU aG):Prop:=dM X0 Qp T (iE n) LL f false (Cc Qp f) B (Tf Qp f k) m s e p
abbrev hdP(f k:Nat)(w:aU aG):aU aG:=gU X0 (T.eX f (dW (Tf Qp f k))) w
section
variable {n f k B N:Nat} {σ ρ:Type}
theorem wY{st:Int->σ->aU aG}{g:Nat->σ->σ}{e:Ex}{fin:σ->aU aG}{s0:σ}{w:aU aG}(Inv:Nat->σ->Prop)(h0:hdP f k w=st 0 s0)(hl:N<=ah)(hi:Inv 0 s0)(hv:∀j s,j<N->Inv j s->Inv (j+1) (g j s))
  (hs:∀(j:Nat) (s:σ),j<N->Inv j s->∀m e1 p,RhB n f k B m (st (i64.wrap (j+1)) (g j s)) e1 p->RhB n f k B (m+1) (st j s) e1 p)
  (ho:∀s,Inv N s->RhB n f k B 1 (st N s) e (fin s)):Nk n f k B w e (fin (aS g N 0 s0)):=P9 Inv h0 hl TK hi hv hs ho
theorem jd{st:Int->σ->aU aG}{g:Nat->σ->σ⊕ρ}{out:σ⊕ρ->Ex×aU aG}{s0:σ}{w:aU aG}(Inv:Nat->σ->Prop)(h0:hdP f k w=st 0 s0)(hl:N<=ah)(hi:Inv 0 s0)
  (hs:∀(j:Nat) (s:σ) (m:Nat),j<N->Inv j s->(∀s1,Inv (j+1) s1->RhB n f k B m (st (i64.wrap (j+1)) s1) (vK (X:=X0) out g (N-(j+1)) (j+1) (.inl s1)).1 (vK (X:=X0) out g (N-(j+1)) (j+1) (.inl s1)).2) ->
   RhB n f k B (m+1) (st j s) (vK (X:=X0) out g (N-(j+1)) (j+1) (g j s)).1 (vK (X:=X0) out g (N-(j+1)) (j+1) (g j s)).2)
  (ho:∀s,Inv N s->RhB n f k B 1 (st N s) (out (.inl s)).1 (out (.inl s)).2):Nk n f k B w (out (jq g N 0 s0)).1 (out (jq g N 0 s0)).2:=P8 Inv h0 hl TK hi hs ho
theorem a1X{a:Nat}{st:Int->σ->aU aG}{g:Nat->σ->σ⊕ρ}{out:σ⊕ρ->Ex×aU aG}{s0:σ}{w:aU aG}(Inv:Nat->σ->Prop)(h0:hdP f k w=st a s0)(ha:a<=N)(hl:N<=ah)(hi:Inv a s0)
  (hs:∀(j:Nat) (s:σ) (m:Nat),a<=j->j<N->Inv j s->(∀s1,Inv (j+1) s1->RhB n f k B m (st (i64.wrap (j+1)) s1) (vK (X:=X0) out g (N-(j+1)) (j+1) (.inl s1)).1 (vK (X:=X0) out g (N-(j+1)) (j+1) (.inl s1)).2) ->
   RhB n f k B (m+1) (st j s) (vK (X:=X0) out g (N-(j+1)) (j+1) (g j s)).1 (vK (X:=X0) out g (N-(j+1)) (j+1) (g j s)).2)
  (ho:∀s,Inv N s->RhB n f k B 1 (st N s) (out (.inl s)).1 (out (.inl s)).2):Nk n f k B w (out (jq g (N-a) a s0)).1 (out (jq g (N-a) a s0)).2:=afu Inv h0 ha hl TK hi hs ho
theorem a0c{st:σ->aU aG}{g:σ->σ⊕ρ}{out:ρ->Ex×aU aG}(Inv:σ->Prop){m:Nat}{s:σ}{r:ρ}{w:aU aG}(hr:itF g m s=some r)(h0:hdP f k w=st s)(hk:m<=LL)(hv:Inv s)(hi:∀s s1,Inv s->g s=.inl s1->Inv s1)
  (hs:∀s m r,Inv s->(∀s1,g s=.inl s1->RhB n f k B m (st s1) (out r).1 (out r).2)->RhB n f k B (m+1) (st s) (Dn (X:=X0) out r (g s)).1 (Dn (X:=X0) out r (g s)).2):Nk n f k B w (out r).1 (out r).2:=afs Inv hr h0 hk hv hi hs
end
open Go Tw Pv bP
structure Prt(l:List V)(w n:Nat):Prop where
 n12:n<=12
 w2:w<=5000
 len:l.length=n*w
section
variable {l:List V} {w n j:Nat} (h:Prt l w n)
include h
end
theorem Ey{α β:Type}(l:List α)(d:α)(f:α->β):(List.range l.length).map (fun k=>f (l.getD k d))=l.map f:=by
 apply a9H (by simp);intro i h1 h2;have:i<l.length:=by simpa using h1
 simp[List.getD,a0q this]
open Go Tw Pv bP
theorem XY{s p:LI0}{ch d:Int}(hp:kF s p=true)(hc:gu ch s.length)(hd:gu d (s.getD ch.toNat 0).toNat):kF s (p.set ch.toNat d)=true:=by
 rw[uO]at hp ⊢;obtain⟨c1,c2⟩:=hc;obtain⟨d1,d2⟩:=hd;refine⟨by simp[hp.1],fun j hj=>?_⟩;rw[zy (by omega)];split
 .rename_i e;subst e;omega
 exact hp.2 j hj
open Go Tw Pv bP
abbrev au(d:Dg)(r:Int):Br:=d.aj.getD r.toNat kR
abbrev PU(d:Dg)(r:Int)(k:Nat):Bool:=d.aB.getD k 0==(au d r).var
abbrev a3S(d:Dg)(r i:Int)(x:List (Nat×PE aG)):aU aG:=⟨[(1,xi r),(2,.loc 0 0),(5,xi i)]++x,[d.ps],[]⟩
def ak3(d:Dg)(r:Int)(N:Nat):Unit⊕Nat->Ex×aU aG
 |.inl _=>(.exit 0,a3S d r N [(14,xl false)])
 |.inr k=>(.ret,⟨[(4,xi k)],[d.ps],[]⟩)
theorem ak4{r:Int}(h:0<=r):decide (r>=0)=true:=by simpa using h
theorem ak5{n:Nat}{fO:eY aG}(hO:Ok n fO)(d:Dg)(r:Int)(hl:d.aB.length<=ah)(h:gu r d.aj.length):Lp n 177 0 (a3S d r 0 []) (ak3 d r d.aB.length (bG (PU d r) d.aB.length)).1 (ak3 d r d.aB.length (bG (PU d r) d.aB.length)).2:=
 jd (st:=fun i _=>a3S d r i []) (fun _ _=>True) (by kernel_rfl) hl trivial (fun k s m hk _ ih=>aN hO (.b (ak4 h.1) (.b (bD hk) (.o (aH hk) (.o h (.ls (.ou nofun) (.nx (ih _ trivial)))))))) (fun s _=>aN hO (.b (ak4 h.1) (.b (fD d.aB.length) (.ou nofun))))
theorem ak6{n:Nat}{fO:eY aG}(hO:Ok n fO)(d:Dg)(r:Int)(h:r<0):Lp n 177 0 (a3S d r 0 []) (.exit 0) (a3S d r 0 [(14,xl false)]):=
 zI (ps:=a3S d r 0 []) (aN hO (.b (show decide (r>=0)=false by simpa using h) .ex)) (by kernel_rfl) (by decide:1<=LL)
def ug(d:Dg)(r:Int):Int:=if decide (r<0)=true then(d.aB.length:Int)else if jZ (bG (PU d r) d.aB.length)=true then(d.aB.length:Int)else((Dl 0 (bG (PU d r) d.aB.length):Nat):Int)
def adi:eY aG:=bZ 177 (a2 dA iA) iA (fun p=>ug p.1 p.2) (fun p=>[p.1.aB.length<=ah,0<=p.2->gu p.2 p.1.aj.length]) ak2
theorem ak7:Gd adi:=apF.add fun n hO p hp=>aO hO (.zh (fun h=>.w (ak6 hO p.1 p.2 (by simpa using h)) .rr) fun h=>.zh (fun h2=>.w (kM (ak5 hO p.1 p.2 (hp _ gY) (hp (0<=p.2->gu p.2 p.1.aj.length) (.tail _ (.head _)) (by simpa using h))) () h2) .rr) fun h2=>.w (kN (ak5 hO p.1 p.2 (hp _ gY) (hp (0<=p.2->gu p.2 p.1.aj.length) (.tail _ (.head _)) (by simpa using h))) 0 h2) .rr)
def iP(d:Dg)(r below:Int):Bool:=if decide (r>=0)=true then decide (r<below)else nJ (i64.wrap (-1-r)) 0 (i64.wrap ((d.aK.length:Int)-1))
def adk:eY aG:=bZ 176 (a3 dA iA iA) tA (fun p=>iP p.1 p.2.1 p.2.2) np adi
theorem ak8:Gd adk:=ak7.add fun n hO p hp=>aO hO (.ss .rr .rr)
abbrev PW(b:Br)(k:Nat):Bool:=b.aA.getD k 0 != b.aA.getD 0 0
abbrev afR(b:Br)(i:Int)(x:List (Nat×PE aG)):aU aG:=⟨[(1,.loc 0 0),(3,xi i)]++x,[b.ps],[]⟩
def ak9(b:Br):Unit⊕Nat->Ex×aU aG
 |.inl _=>(.exit 0,afR b (max 1 b.aA.length:Nat) [(8,xl false)])
 |.inr _=>(.ret,⟨[(2,xl false)],[b.ps],[]⟩)
theorem akb{n:Nat}{fO:eY aG}(hO:Ok n fO)(b:Br)(hl:b.aA.length<=ah):Lp n 132 0 (afR b 1 []) (ak9 b (Tn (PW b) 1 (max 1 b.aA.length))).1 (ak9 b (Tn (PW b) 1 (max 1 b.aA.length))).2:=
 a1X (st:=fun i _=>afR b i []) (fun _ _=>True) (by kernel_rfl) (by omega) (by unfold ah at *;omega) trivial (fun k s m h1 hk _ ih=>aN hO (.b (bD (show k<b.aA.length by omega)) (.o (aH (show k<b.aA.length by omega)) (.o (show gu 0 b.aA.length from⟨by omega,by omega⟩) (.ls (.ou nofun) (.nx (ih _ trivial))))))) (fun s _=>aN hO (.b (show decide (((max 1 b.aA.length:Nat):Int)<(b.aA.length:Int))=false by simp only[a3b];omega) (.ou nofun)))
def DL(b:Br):Bool:=if jZ (Tn (PW b) 1 (max 1 b.aA.length))=true then true else false
def adl:eY aG:=bZ 132 (a1 brA) tA (fun p=>DL p) (fun p=>[p.aA.length<=ah]) adk
theorem akc:Gd adl:=ak8.add fun n hO p hp=>aO hO (.zh (fun h=>.w (kM (akb hO p (hp _ gY)) () h) .rr) fun h=>.w (kN (akb hO p (hp _ gY)) 0 h) .rr)
abbrev TM(l:LI0)(n:Int)(k:Nat):Bool:=l.getD k 0==n
abbrev afS(l:LI0)(m i:Int)(x:List (Nat×PE aG)):aU aG:=⟨[(0,xL 3 l),(1,xi m),(5,xi i)]++x,[],[]⟩
def akd(l:LI0)(m:Int):Unit⊕Nat->Ex×aU aG
 |.inl _=>(.exit 0,afS l m l.length [(9,xl false)])
 |.inr _=>(.ret,⟨[(4,xl true)],[],[]⟩)
theorem ake{n:Nat}{fO:eY aG}(hO:Ok n fO)(l:LI0)(m:Int)(hl:l.length<=ah):Lp n 178 0 (afS l m 0 []) (akd l m (bG (TM l m) l.length)).1 (akd l m (bG (TM l m) l.length)).2:=
 jd (st:=fun i _=>afS l m i []) (fun _ _=>True) (by kernel_rfl) hl trivial (fun k s m hk _ ih=>aN hO (.b (bD hk) (.o (aH hk) (.ls (.ou nofun) (.nx (ih _ trivial)))))) (fun s _=>aN hO (.b (fD l.length) (.ou nofun)))
theorem TN{l:LI0}{m:Int}:jZ (bG (TM l m) l.length)=!decide (m∈l):=by
 rw[a5b,dL];simp only[a8W,a3b];constructor
 .intro h hm;obtain⟨j,hj,e⟩:=a5d.1 hm;have:=h j hj;simp[TM,List.getD,a0q hj,e]at this
 intro h j hj;have e:l.getD j 0=l[j]:=by simp[List.getD,a0q hj]
 simp only[TM,ahD,ne_eq,e];intro e2;exact h (e2▸a4Z hj)
def adn:eY aG:=bZ 178 (a2 qg iA) tA (fun p=>decide (p.2∈p.1)) (fun p=>[p.1.length<=ah]) adl
theorem akf:Gd adn:=akc.add fun n hO p hp=>aO hO (.z (c:=jZ (bG (TM p.1 p.2) p.1.length)) (fun h=>.w (kM (ake hO p.1 p.2 (hp _ gY)) () h) (.v false (by rw[TN]at h;simp at h;simp[h]))) fun h=>.w (kN (ake hO p.1 p.2 (hp _ gY)) 0 h) (.v true (by rw[TN]at h;simp at h;simp[h])))
abbrev a7u(l:LI0)(k:Nat):Bool:=l.getD k 0 != (k:Int)
abbrev afT(l:LI0)(m i:Int)(x:List (Nat×PE aG)):aU aG:=⟨[(0,xL 3 l),(1,xi m),(5,xi i)]++x,[],[]⟩
def akg(l:LI0)(m:Int):Unit⊕Nat->Ex×aU aG
 |.inl _=>(.exit 0,afT l m l.length [(9,xl false)])
 |.inr _=>(.ret,⟨[(4,xl false)],[],[]⟩)
theorem akh{n:Nat}{fO:eY aG}(hO:Ok n fO)(l:LI0)(m:Int)(hl:l.length<=ah):Lp n 134 0 (afT l m 0 []) (akg l m (bG (a7u l) l.length)).1 (akg l m (bG (a7u l) l.length)).2:=
 jd (st:=fun i _=>afT l m i []) (fun _ _=>True) (by kernel_rfl) hl trivial (fun k s m hk _ ih=>aN hO (.b (bD hk) (.o (aH hk) (.ls (.ou nofun) (.nx (ih _ trivial)))))) (fun s _=>aN hO (.b (fD l.length) (.ou nofun)))
def zM(l:LI0)(m:Int):Bool:=if jZ (bG (a7u l) l.length)=true then((l.length:Int)==m)else false
def XZ:eY aG:=bZ 134 (a2 qg iA) tA (fun p=>zM p.1 p.2) (fun p=>[p.1.length<=ah]) adn
theorem aki:Gd XZ:=akf.add fun n hO p hp=>aO hO (.zh (fun h=>.w (kM (akh hO p.1 p.2 (hp _ gY)) () h) .rr) fun h=>.w (kN (akh hO p.1 p.2 (hp _ gY)) 0 h) .rr)
abbrev cLk(d:Dg)(i k:Nat):Bool:=if(!(iP d ((d.aj.getD i kR).aA.getD k 0) i))=true then true else decide (ug d ((d.aj.getD i kR).aA.getD k 0)<=ug d i)
abbrev fB(d:Dg)(i:Nat):Br:=d.aj.getD i kR
abbrev a7v(d:Dg)(i k:Int)(b:Br)(x:List (Nat×PE aG)):aU aG:=⟨[(1,.loc 0 0),(4,xi i),(5,.loc 1 0),(6,xi k)]++x,[d.ps,b.ps],[]⟩
def ado(d:Dg)(i:Nat):Unit⊕Nat->Ex×aU aG
 |.inl _=>(.exit 4,a7v d i (fB d i).aA.length (fB d i) [(57,xl false)])
 |.inr _=>(.ret,⟨[(2,xl false)],[d.ps,(fB d i).ps],[]⟩)
structure DgL(d:Dg):Prop where
 aB:d.aB.length<=ah
 aj:d.aj.length<=ah
 aK:d.aK.length<=ah
 cu:vk d.ay
theorem Y0{d:Dg}{r:Int}{i:Nat}(h:iP d r i=true)(h0:0<=r)(hi:i<=d.aj.length):gu r d.aj.length:=by
 unfold iP at h;rw[a0F (by simpa using h0)]at h;have:r<(i:Int):=by simpa using h
 exact⟨h0,by omega⟩
theorem akj{n:Nat}(hO:Ok n XZ){d:Dg}(h:DgL d){i:Nat}(hi:i<d.aj.length)(hk:(fB d i).aA.length<=ah):Lp n 131 2 (a7v d i 0 (fB d i) []) (ado d i (bG (cLk d i) (fB d i).aA.length)).1 (ado d i (bG (cLk d i) (fB d i).aA.length)).2:=
 jd (st:=fun k _=>a7v d i k (fB d i) []) (fun _ _=>True) (by kernel_rfl) hk trivial (fun k s m hk _ ih=>by
  unfold gS cLk;cases e1:iP d ((fB d i).aA.getD k 0) i
  .exact aN hO (.b (bD hk) (.o (aH hk) (.b (show(!(iP d ((fB d i).aA.getD k 0) i))=true by rw[e1];rfl) (.ou nofun))))
  .exact aN hO (.b (bD hk) (.o (aH hk) (.b (show(!(iP d ((fB d i).aA.getD k 0) i))=false by rw[e1];rfl) (.o (aH hk) (.o h.aB (.o (show 0<=(fB d i).aA.getD k 0->gu ((fB d i).aA.getD k 0) d.aj.length from fun h0=>Y0 e1 h0 (by omega)) (.o h.aB (.o (show 0<=((i:Nat):Int)->gu i d.aj.length from fun _=>aH hi) (.ls (.ou nofun) (.nx (ih _ trivial)))))))))))
  ) (fun s _=>aN hO (.b (fD (fB d i).aA.length) (.ou nofun)))
abbrev cLn(d:Dg)(i:Nat):Bool:=if(!(nJ (fB d i).var 0 (xw d.ay)))=true then true else if(((fB d i).aA.length:Int) != d.ay.getD (fB d i).var.toNat 0)=true then true else if jZ (bG (cLk d i) (fB d i).aA.length)=true then false else true
abbrev a7w(d:Dg)(i:Int)(x:List (Nat×PE aG)):aU aG:=⟨[(1,.loc 0 0),(4,xi i)]++x,[d.ps],[]⟩
def adp(d:Dg):Unit⊕Nat->Ex×aU aG
 |.inl _=>(.exit 2,a7w d d.aj.length [(25,xl false)])
 |.inr k=>(.ret,⟨[(2,xl false)],[d.ps,(fB d k).ps],[]⟩)
theorem JI{d:Dg}(h:vk d.ay){v:Int}(e:nJ v 0 (xw d.ay)=true):gu v d.ay.length:=by rw[vU,a7r h.ajj]at e;exact⟨e.1,by omega⟩
theorem Y1{d:Dg}(h:vk d.ay){v:Int}(e:gu v d.ay.length){l:LI0}(hl:(((l.length:Int)) != d.ay.getD v.toNat 0)=false):l.length<=12:=by
 have:=h.sz _ (dB (s:=d.ay) (k:=v.toNat) (by have:=e.2;have:=e.1;omega));have hl:(l.length:Int)=d.ay.getD v.toNat 0:=by simpa using hl
 omega
theorem m12{k:Nat}(h:k<=12):k<=ah:=by unfold ah;omega
theorem adq{n:Nat}(hO:Ok n XZ){d:Dg}(h:DgL d):Lp n 131 1 (a7w d 0 []) (adp d (bG (cLn d) d.aj.length)).1 (adp d (bG (cLn d) d.aj.length)).2:=
 jd (st:=fun k _=>a7w d k []) (fun _ _=>True) (by kernel_rfl) h.aj trivial (fun k s m hk _ ih=>by
  unfold gS cLn;cases e1:nJ (fB d k).var 0 (xw d.ay)
  .exact aN hO (.b (bD hk) (.o (aH hk) (.b (show(!(nJ (fB d k).var 0 (xw d.ay)))=true by rw[e1];rfl) (.ou nofun))))
  .have hv:=JI h.cu e1;cases e2:(((fB d k).aA.length:Int) != d.ay.getD (fB d k).var.toNat 0)
   .have hl:=akj hO h hk (m12 (Y1 h.cu hv e2));cases e3:jZ (bG (cLk d k) (fB d k).aA.length)
    .exact aN hO (.b (bD hk) (.o (aH hk) (.b (show(!(nJ (fB d k).var 0 (xw d.ay)))=false by rw[e1];rfl) (.o hv (.b e2 (.w (kN hl 0 e3) (.ou nofun)))))))
    .exact aN hO (.b (bD hk) (.o (aH hk) (.b (show(!(nJ (fB d k).var 0 (xw d.ay)))=false by rw[e1];rfl) (.o hv (.b e2 (.w (kM hl () e3) (.nx (ih _ trivial))))))))
   .exact aN hO (.b (bD hk) (.o (aH hk) (.b (show(!(nJ (fB d k).var 0 (xw d.ay)))=false by rw[e1];rfl) (.o hv (.b e2 (.ou nofun))))))
  ) (fun s _=>aN hO (.b (fD d.aj.length) (.ou nofun)))
abbrev cLe(d:Dg)(k:Nat):Bool:=!(vOk (d.aK.getD k V0))
abbrev a7y(d:Dg)(i:Int)(x:List (Nat×PE aG)):aU aG:=⟨[(1,.loc 0 0),(3,xi i)]++x,[d.ps],[]⟩
def adr(d:Dg):Unit⊕Nat->Ex×aU aG
 |.inl _=>(.exit 0,a7y d d.aK.length [(11,xl false)])
 |.inr _=>(.ret,⟨[(2,xl false)],[d.ps],[]⟩)
theorem ads{n:Nat}(hO:Ok n XZ){d:Dg}(h:DgL d):Lp n 131 0 (a7y d 0 []) (adr d (bG (cLe d) d.aK.length)).1 (adr d (bG (cLe d) d.aK.length)).2:=
 jd (st:=fun k _=>a7y d k []) (fun _ _=>True) (by kernel_rfl) h.aK trivial (fun k s m hk _ ih=>aN hO (.b (bD hk) (.o (aH hk) (.ls (.ou nofun) (.nx (ih _ trivial)))))) (fun s _=>aN hO (.b (fD d.aK.length) (.ou nofun)))
def lW(d:Dg):Bool:=if jZ (bG (cLe d) d.aK.length)=true then(if jZ (bG (cLn d) d.aj.length)=true then iP d d.root d.aj.length else false)else false
def adt:eY aG:=bZ 131 (a1 dA) tA (fun p=>lW p) (fun p=>[DgL p]) XZ
theorem akk:Gd adt:=aki.add fun n hO p hp=>aO hO (.zh (fun h=>.w (kM (ads hO (show DgL p from hp _ gY)) () h) (.zh (fun h2=>.w (kM (adq hO (show DgL p from hp _ gY)) () h2) .rr) fun h2=>.w (kN (adq hO (show DgL p from hp _ gY)) 0 h2) .rr)) fun h=>.w (kN (ads hO (show DgL p from hp _ gY)) 0 h) .rr)
def aX(d:Dg):Int:=if(bK d.ay d.aB != 0)=true then bK d.ay d.aB else if decide ((d.aj.length:Int)>6000)=true then 5 else if(!(lW d))=true then 4 else 0
theorem Vp{k:Nat}(h:decide ((k:Int)>6000)=false):k<=ah:=by simp at h;unfold ah;omega
theorem AZ{s o:LI0}(h:(bK s o != 0)=false):vk s:=(jw.1 (by simpa using h)).1
def aaQ:eY aG:=bZ 83 (a1 dA) iA (fun p=>aX p) (fun p=>[p.aB.length<=ah,p.aK.length<=ah]) adt
theorem apG:Gd aaQ:=akk.add fun n hO p hp=>aO hO (.o (hp _ gY) (.sh (fun _=>.rr) fun h=>.sh (fun _=>.rr) fun h2=>.o (show DgL p from⟨hp _ gY,Vp h2,hp _ yc,AZ h⟩) (.ss .rr .rr)))
open Go Tw Pv bP
abbrev je(r:Int):Int:=i64.wrap (-1-r)
def jX(d:Dg):Nat->Int->LI0×LI0->LI0×LI0
 | 0,_,x=>x
 |F+1,r,x=>if decide (r<0)=true then(if(!(decide (je r∈x.2)))=true then(x.1,x.2++[je r])else x)else if decide (r∈x.1)=true then x
  else((aS (fun k y=>jX d F ((au d r).aA.getD k 0) y) (au d r).aA.length 0 x).1++[r],(aS (fun k y=>jX d F ((au d r).aA.getD k 0) y) (au d r).aA.length 0 x).2)
def jD(d:Dg)(r:Int)(b:Nat):Prop:=r<b∧(r<0->gu (je r) d.aK.length)
structure BX(d:Dg):Prop extends DgL d where
 zN:∀i,i<d.aj.length->∀k,k<(fB d i).aA.length->jD d ((fB d i).aA.getD k 0) i
 JJ:∀i,i<d.aj.length->(fB d i).aA.length<=12
 var:∀i,i<d.aj.length->gu (fB d i).var d.ay.length
 ksz:∀i,i<d.aj.length->((fB d i).aA.length:Int)=d.ay.getD (fB d i).var.toNat 0
 root:jD d d.root d.aj.length
structure JK(d:Dg)(x:LI0×LI0):Prop where
 n1:x.1.Nodup
 n2:∀a∈x.1,gu a d.aj.length
 e1:x.2.Nodup
 e2:∀a∈x.2,gu a d.aK.length
theorem zO:∀(N:Nat) (l:LI0),l.Nodup->(∀a∈l,gu a N)->l.length<=N
 | 0,[],_,_=>a0P _
 | 0,a::l,_,h=>by obtain⟨h1,h2⟩:=h a (a3x ..);omega
 |N+1,l,hn,h=>by
  have h1:=zO N (l.erase (N:Int)) (hn.erase _) fun a ha=>by have h2:=(List.Nodup.mem_erase_iff hn).1 ha;have h3:=h a h2.2;exact⟨h3.1,by have:=h3.2;have:=h2.1;omega⟩
  by_cases hm:(N:Int)∈l
  .rw[List.length_erase_of_mem hm]at h1;omega
  rw[List.erase_of_not_mem hm]at h1;omega
theorem JK.len{d:Dg}{x:LI0×LI0}(h:JK d x):x.1.length<=d.aj.length∧x.2.length<=d.aK.length:=⟨zO _ _ h.n1 h.n2,zO _ _ h.e1 h.e2⟩
theorem wZ{l:LI0}{a:Int}(h:l.Nodup)(ha:a∉l):(l++[a]).Nodup:=by rw[a9l];exact⟨h,by simp,fun x hx y hy e=>by simp at hy;subst hy;subst e;exact ha hx⟩
theorem a7z{d:Dg}:∀(F:Nat) (r s:Int) (x:LI0×LI0),r<s->s∉x.1->0<=s->(∀i,i<d.aj.length->∀k,k<(fB d i).aA.length->(fB d i).aA.getD k 0<i)->(0<=r->gu r d.aj.length)->s∉(jX d F r x).1
 | 0,_,_,_,_,h,_,_,_=>h
 |F+1,r,s,x,hr,h,h0,hk,hn=>by
  unfold jX;by_cases c:r<0
  .rw[a0F (by simpa using c)];split<;>exact h
  rw[a0E (by simpa using c)];split
  .exact h
  have hi:=hn (by omega);have Eb:∀k,k<(au d r).aA.length->(au d r).aA.getD k 0<r:=fun k kQ=>by obtain⟨i1,i2⟩:=hi;have h9:(au d r).aA.getD k 0<(r.toNat:Int):=hk r.toNat (by omega) k kQ;omega
  have:=cO (g:=fun k y=>jX d F ((au d r).aA.getD k 0) y) (m:=(au d r).aA.length) (k:=0) (s:=x) (fun _ y=>s∉y.1) h (fun j y _ hj hy=>by have h4:=Eb j (by omega);exact a7z F _ s y (by omega) hy h0 hk fun h5=>⟨h5,by have:=hi.2;omega⟩)
  simp only[a3P,a1S,ae6];exact⟨this,by omega⟩
theorem L9{d:Dg}(h:BX d):∀(F:Nat) (r:Int) (x:LI0×LI0),JK d x->jD d r d.aj.length->JK d (jX d F r x)
 | 0,_,_,hx,_=>hx
 |F+1,r,x,hx,hr=>by
  unfold jX;by_cases c:r<0
  .rw[a0F (by simpa using c)];split
   .rename_i c2;have c2:je r∉x.2:=(by simpa using c2);refine⟨hx.n1,hx.n2,wZ hx.e1 c2,fun a ha=>?_⟩;rw[a3P,a1S]at ha;rcases ha with ha|rfl
    .exact hx.e2 a ha
    exact hr.2 c
   exact hx
  rw[a0E (by simpa using c)];split
  .exact hx
  rename_i c2;have c2:r∉x.1:=by simpa using c2
  have hi:gu r d.aj.length:=⟨by omega,hr.1⟩;have aT:r.toNat<d.aj.length:=by have:=hr.1;omega
  have h1:=cO (g:=fun k y=>jX d F ((au d r).aA.getD k 0) y) (m:=(au d r).aA.length) (k:=0) (s:=x) (fun _ y=>JK d y∧r∉y.1) ⟨hx,c2⟩ (fun j y _ hj hy=>by have hk:jD d ((au d r).aA.getD j 0) r.toNat:=h.zN r.toNat aT j (by simpa using hj);obtain⟨k1,k2⟩:=hk;have kQ:jD d ((au d r).aA.getD j 0) d.aj.length:=⟨by omega,k2⟩;refine⟨L9 h F _ y hy.1 kQ,a7z F _ r y (by omega) hy.2 (by omega) (fun i hi k hk=>(h.zN i hi k hk).1) fun h5=>⟨h5,kQ.1⟩⟩)
  obtain⟨h2,h3⟩:=h1;refine⟨wZ h2.n1 h3,fun a ha=>?_,h2.e1,h2.e2⟩;rw[a3P,a1S]at ha;rcases ha with ha|rfl
  .exact h2.n2 a ha
  exact hi
abbrev ls(l:LI0):PB aG:=.list false false 3 l
abbrev wSr(d:Dg)(r:Int)(k:Int)(s:LI0×LI0)(x:List (Nat×PE aG)):aU aG:=⟨[(1,xi r),(2,xo 2),(3,xo 3),(4,.loc 0 0),(10,.loc 1 0),(11,xi k)]++x,[d.ps,(au d r).ps],[.gone,.gone,ls s.1,ls s.2]⟩
abbrev akl(n:Nat)(d:Dg)(r:Int)(x y:LI0×LI0):Prop:=iJ n (.fn 133 [] []) [.agg d.ps,.int .i64 r,.own 0,.own 1] [ls x.1,ls x.2] (.dJ [.own 2,.own 3]) [.gone,.gone,ls y.1,ls y.2]
theorem sSr{N:Nat}(hO:∀m,N<=m->Ok m aaQ){d:Dg}(h:BX d):∀(F:Nat) (r:Int) (x:LI0×LI0),r+1<F->JK d x->jD d r d.aj.length->1<=F->akl (N+F) d r x (jX d F r x)
 | 0,r,x,_,_,_,h1=>by omega
 |F+1,r,x,hF,hx,hr,_=>by
  have hn:=hx.len.1;have he:=hx.len.2;have m1:=h.aj;have m2:=h.aK;have yF:=hO (N+F) (by omega);have mn:x.1.length<=ah:=by omega
  have me:x.2.length<=ah:=by omega
  unfold jX;by_cases c:r<0
  .have t0:decide (r<0)=true:=(by simpa using c);rw[a0F t0];by_cases c2:je r∈x.2
   .have t1:(!(decide (je r∈x.2)))=false:=(by simpa using c2);rw[a0E (by rw[t1];simp)];exact dG.gs hX (nH hX yF (first:=[]) (cap:=[]) (v:=.dJ [.own 0,.own 1]) (H1:=[ls x.1,ls x.2]) (by kernel_rfl) (.b t0 (.o me (.b t1 .er)))) [.mv 0,.mv 1] rfl
   have t1:(!(decide (je r∈x.2)))=true:=(by simpa using c2);rw[a0F t1];have e1:=zO _ _ (wZ hx.e1 c2) (fun a ha=>by
    rw[a3P,a1S]at ha;rcases ha with ha|rfl
    .exact hx.e2 a ha
    exact hr.2 c)
   have e2:x.2.length+[je r].length<=ah:=by rw[<-a1U];omega
   exact dG.gs hX (nH hX yF (first:=[]) (cap:=[]) (v:=.dJ [.own 0,.own 3]) (H1:=[ls x.1,.gone,.list true true 3 ([je r]:LI0),ls (x.2++[je r])]) (by kernel_rfl) (.b t0 (.o me (.b t1 (.o e2 .er))))) [.mv 0,.gc [4,3]] rfl
  have t0:decide (r<0)=false:=by simpa using c
  rw[a0E (by rw[t0];simp)];by_cases c2:r∈x.1
  .have t1:decide (r∈x.1)=true:=(by simpa using c2);rw[a0F t1];exact dG.gs hX (nH hX yF (first:=[]) (cap:=[]) (v:=.dJ [.own 0,.own 1]) (H1:=[ls x.1,ls x.2]) (by kernel_rfl) (.b t0 (.o mn (.b t1 .er)))) [.mv 0,.mv 1] rfl
  have t1:decide (r∈x.1)=false:=by simpa using c2
  rw[a0E (by rw[t1];simp)];have hi:gu r d.aj.length:=⟨by omega,hr.1⟩;obtain⟨i1,i2⟩:=id hi;have aT:r.toNat<d.aj.length:=by omega
  have hl:Nk (N+F) 133 0 2 (wSr d r 0 x []) (.exit 0) (wSr d r (au d r).aA.length (aS (fun k y=>jX d F ((au d r).aA.getD k 0) y) (au d r).aA.length 0 x) [(40,xl false)]):=by
   refine wY (σ:=LI0×LI0) (N:=(au d r).aA.length) (g:=fun k y=>jX d F ((au d r).aA.getD k 0) y) (s0:=x) (st:=fun k y=>wSr d r k y []) (fin:=fun y=>wSr d r (au d r).aA.length y [(40,xl false)]) (fun _ y=>JK d y) (by kernel_rfl) (m12 (h.JJ r.toNat aT)) hx (fun k y hk hy=>?_) (fun k y hk hy m e p g=>?_) (fun y _=>aN yF (.b (fD (au d r).aA.length) .ex))
   .have hk:jD d ((au d r).aA.getD k 0) r.toNat:=h.zN r.toNat aT k hk;have k1:(au d r).aA.getD k 0<(r.toNat:Int):=hk.1;exact L9 h F _ y hy ⟨by omega,hk.2⟩
   have kQ:jD d ((au d r).aA.getD k 0) r.toNat:=h.zN r.toNat aT k hk;have k1:=kQ.1;have hs:=sSr hO h F ((au d r).aA.getD k 0) y (by omega) hy ⟨by omega,kQ.2⟩ (by omega);exact aN yF (.b (bD hk) (.o (aH hk) (.fr [2,3] hs (.goG [.gc [4,5]] g))))
  generalize hy:aS (fun k y=>jX d F ((au d r).aA.getD k 0) y) (au d r).aA.length 0 x=y at hl;have sk:=L9 h (F+1) r x hx hr;unfold jX at sk;rw[a0E (by rw[t0];simp),a0E (by rw[t1];simp),hy]at sk;have sl:(y.1++[r]).length<=d.aj.length:=sk.len.1;have ml:y.1.length+[r].length<=ah:=by rw[<-a1U];omega
  exact dG.gs hX (nH hX yF (first:=[]) (cap:=[]) (v:=.dJ [.own 5,.own 3]) (H1:=[.gone,.gone,.gone,ls y.2,.list true true 3 ([r]:LI0),ls (y.1++[r])]) (by kernel_rfl) (.b t0 (.o mn (.b t1 (.o hi (.wG [.mv 0,.mv 1] hl (.o ml .er))))))) [.gc [5,3]] rfl
def nlA:Arg Unit where
 put _:=.nil .aP
 get v:=match v with
  |.nil .aP=>some ()
  |_=>none
 ok:=by
  intro v a hg A m h x hv;split at hg
  .exact hv
  .cases hg
abbrev wSn(d:Dg)(r:Int)(k:Int)(s:LI0×LI0)(x:List (Nat×PE aG)):aU aG:=⟨[(1,xi r),(2,xo 0),(3,xo 1),(4,.loc 0 0),(10,.loc 1 0),(11,xi k)]++x,[d.ps,(au d r).ps],[ls s.1,ls s.2]⟩
theorem sr0{d:Dg}:JK d ([],[]):=⟨a6x,by simp,a6x,by simp⟩
def srN(d:Dg)(r:Int):LI0:=(jX d 6002 r ([],[])).1
def srE(d:Dg)(r:Int):LI0:=(jX d 6002 r ([],[])).2
def a1Z:eY aG:=bZ 133 (a4 dA iA nlA nlA) (dO (a2 qg qg)) (fun p=>(srN p.1 p.2.1,srE p.1 p.2.1)) (fun p=>[BX p.1,jD p.1 p.2.1 p.1.aj.length,p.1.aj.length<=6000]) aaQ
theorem akn:Gd a1Z:=apG.deep 6001 fun n hn hO p hp=>by
 obtain⟨d,r,_,_⟩:=p;have h:BX d:=hp _ gY;have hr:jD d r d.aj.length:=hp _ yc;have hm:d.aj.length<=6000:=hp _ hh2;obtain⟨N,rfl⟩:∃N,n=N+6001:=⟨n-6001,by omega⟩;have hO:∀m,N<=m->Ok m aaQ:=fun m hm=>hO m (by omega);have yF:=hO (N+6001) (by omega);by_cases c:r<0
 .have t0:decide (r<0)=true:=by simpa using c
  have t1:(!(decide (je r∈([]:LI0))))=true:=by simp
  have e:jX d 6002 r ([],[])=([],[je r]):=by rw[jX,a0F t0,a0F t1];rfl
  show nS X0 Qp _ _ _ ((dO (a2 qg qg)).put ((jX d 6002 r ([],[])).1,(jX d 6002 r ([],[])).2)) [];rw[e];exact aO yF (.b t0 (.o le0 (.b t1 (.o le1 (.rn (.dJ [.nil .aP,.dF 3 ([je r]:LI0) false]) rfl)))))
 .have t0:decide (r<0)=false:=by simpa using c
  have t1:decide (r∈([]:LI0))=false:=by simp
  have hi:gu r d.aj.length:=⟨by omega,hr.1⟩;obtain⟨i1,i2⟩:=id hi;have aT:r.toNat<d.aj.length:=by omega
  have hl:Nk (N+6001) 133 0 0 (wSn d r 0 ([],[]) []) (.exit 0) (wSn d r (au d r).aA.length (aS (fun k y=>jX d 6001 ((au d r).aA.getD k 0) y) (au d r).aA.length 0 ([],[])) [(40,xl false)]):=by
   refine wY (σ:=LI0×LI0) (N:=(au d r).aA.length) (g:=fun k y=>jX d 6001 ((au d r).aA.getD k 0) y) (s0:=(([],[]):LI0×LI0)) (st:=fun k y=>wSn d r k y []) (fin:=fun y=>wSn d r (au d r).aA.length y [(40,xl false)]) (fun _ y=>JK d y) (by kernel_rfl) (m12 (h.JJ r.toNat aT)) sr0 (fun k y hk hy=>?_) (fun k y hk hy m e p g=>?_) (fun y _=>aN yF (.b (fD (au d r).aA.length) .ex))
   .have hk:jD d ((au d r).aA.getD k 0) r.toNat:=h.zN r.toNat aT k hk;have k1:(au d r).aA.getD k 0<(r.toNat:Int):=hk.1;exact L9 h 6001 _ y hy ⟨by omega,hk.2⟩
   .have kQ:jD d ((au d r).aA.getD k 0) r.toNat:=h.zN r.toNat aT k hk;have k1:(au d r).aA.getD k 0<(r.toNat:Int):=kQ.1;have hs:=sSr hO h 6001 ((au d r).aA.getD k 0) y (by omega) hy ⟨by omega,kQ.2⟩ (by omega);exact aN yF (.b (bD hk) (.o (aH hk) (.fr [0,1] hs (.goG [.gc [2,3]] g))))
  have sk:=L9 h 6002 r ([],[]) sr0 hr;have e:jX d 6002 r ([],[])=((aS (fun k y=>jX d 6001 ((au d r).aA.getD k 0) y) (au d r).aA.length 0 ([],[])).1++[r],(aS (fun k y=>jX d 6001 ((au d r).aA.getD k 0) y) (au d r).aA.length 0 ([],[])).2):=by rw[jX,a0E (by rw[t0];simp),a0E (by rw[t1];simp)]
  show nS X0 Qp _ _ _ ((dO (a2 qg qg)).put ((jX d 6002 r ([],[])).1,(jX d 6002 r ([],[])).2)) [];rw[e]at sk ⊢;generalize aS (fun k y=>jX d 6001 ((au d r).aA.getD k 0) y) (au d r).aA.length 0 ([],[])=y at hl sk;have sl:(y.1++[r]).length<=d.aj.length:=sk.len.1;have m1:=h.aj;have ml:y.1.length+[r].length<=ah:=by rw[<-a1U];omega
  exact aO yF (.b t0 (.o le0 (.b t1 (.o hi (.wG [.G6 2 3,.G6 3 3] hl (.o ml .rr))))))
open Go Tw Pv bP
abbrev cD1(d:Dg)(i j:Nat):Bool:=decide (d.aK.getD j V0=d.aK.getD i V0)
abbrev cD0(d:Dg)(i:Nat):Bool:=if jZ (bG (cD1 d i) i)=true then false else true
abbrev cD3(d:Dg)(i j:Nat):Bool:=if((fB d j).var==(fB d i).var)=true then decide ((fB d j).aA=(fB d i).aA)else false
abbrev cD2(d:Dg)(i:Nat):Bool:=if DL (fB d i)=true then true else if jZ (bG (cD3 d i) i)=true then false else true
abbrev wD(d:Dg)(x:List (Nat×PE aG)):aU aG:=⟨[(1,.loc 0 0)]++x,[d.ps],[]⟩
abbrev rD(d:Dg):Ex×aU aG:=(.ret,⟨[(2,xl false)],[d.ps],[]⟩)
def zD1(d:Dg)(i:Nat):Unit⊕Nat->Ex×aU aG
 |.inl _=>(.exit 2,wD d [(3,xi i),(4,xi i),(18,xl false)])
 |.inr _=>rD d
theorem lD1{n:Nat}{fO:eY aG}(hO:Ok n fO){d:Dg}(h:DgL d){i:Nat}(hi:i<d.aK.length):Lp n 84 1 (wD d [(3,xi i),(4,xi 0)]) (zD1 d i (bG (cD1 d i) i)).1 (zD1 d i (bG (cD1 d i) i)).2:=
 jd (st:=fun j _=>wD d [(3,xi i),(4,xi j)]) (fun _ _=>True) (by kernel_rfl) (by have:=h.aK;omega) trivial (fun j s m hj _ ih=>aN hO (.b (bD hj) (.o (aH (show j<d.aK.length by omega)) (.o (aH hi) (.q (.bool (cD1 d i j)) (eqV (.tmp 25) (.tmp 30) (d.aK.getD j V0) (d.aK.getD i V0)) (.ls (.ou nofun) (.nx (ih _ trivial)))))))) (fun s _=>aN hO (.b (fD i) (.ou nofun)))
def zD0(d:Dg):Unit⊕Nat->Ex×aU aG
 |.inl _=>(.exit 0,wD d [(3,xi d.aK.length),(13,xl false)])
 |.inr _=>rD d
theorem lD0{n:Nat}{fO:eY aG}(hO:Ok n fO){d:Dg}(h:DgL d):Lp n 84 0 (wD d [(3,xi 0)]) (zD0 d (bG (cD0 d) d.aK.length)).1 (zD0 d (bG (cD0 d) d.aK.length)).2:=
 jd (st:=fun i _=>wD d [(3,xi i)]) (fun _ _=>True) (by kernel_rfl) h.aK trivial (fun i s m hi _ ih=>by
  have hl:=lD1 hO h hi;unfold gS cD0;cases e:jZ (bG (cD1 d i) i)
  .exact aN hO (.b (bD hi) (.w (kN hl 0 e) (.ou nofun)))
  .exact aN hO (.b (bD hi) (.w (kM hl () e) (.nx (ih _ trivial))))
  ) (fun s _=>aN hO (.b (fD d.aK.length) (.ou nofun)))
def zD3(d:Dg)(i:Nat):Unit⊕Nat->Ex×aU aG
 |.inl _=>(.exit 6,wD d [(5,xi i),(6,xi i),(47,xl false)])
 |.inr _=>rD d
theorem lD3{n:Nat}(hO:Ok n a1Z){d:Dg}(h:BX d){i:Nat}(hi:i<d.aj.length):Lp n 84 3 (wD d [(5,xi i),(6,xi 0)]) (zD3 d i (bG (cD3 d i) i)).1 (zD3 d i (bG (cD3 d i) i)).2:=
 jd (st:=fun j _=>wD d [(5,xi i),(6,xi j)]) (fun _ _=>True) (by kernel_rfl) (by have:=h.aj;omega) trivial (fun j s m hj _ ih=>by
  have sF:j<d.aj.length:=by omega
  unfold gS cD3;cases e:((fB d j).var==(fB d i).var)
  .exact aN hO (.b (bD hj) (.o (aH sF) (.o (aH hi) (.b e (.nx (ih _ trivial))))))
  .exact aN hO (.b (bD hj) (.o (aH sF) (.o (aH hi) (.b e (.o (aH sF) (.o (aH hi) (.o (m12 (h.JJ j sF)) (.ls (.ou nofun) (.nx (ih _ trivial))))))))))
  ) (fun s _=>aN hO (.b (fD i) (.ou nofun)))
def zD2(d:Dg):Unit⊕Nat->Ex×aU aG
 |.inl _=>(.exit 4,wD d [(5,xi d.aj.length),(36,xl false)])
 |.inr _=>rD d
theorem lD2{n:Nat}(hO:Ok n a1Z){d:Dg}(h:BX d):Lp n 84 2 (wD d [(5,xi 0)]) (zD2 d (bG (cD2 d) d.aj.length)).1 (zD2 d (bG (cD2 d) d.aj.length)).2:=
 jd (st:=fun i _=>wD d [(5,xi i)]) (fun _ _=>True) (by kernel_rfl) h.aj trivial (fun i s m hi _ ih=>by
  have hl:=lD3 hO h hi;unfold gS cD2;cases e1:DL (fB d i)
  .cases e:jZ (bG (cD3 d i) i)
   .exact aN hO (.b (bD hi) (.o (aH hi) (.o (m12 (h.JJ i hi)) (.b e1 (.w (kN hl 0 e) (.ou nofun))))))
   .exact aN hO (.b (bD hi) (.o (aH hi) (.o (m12 (h.JJ i hi)) (.b e1 (.w (kM hl () e) (.nx (ih _ trivial)))))))
  .exact aN hO (.b (bD hi) (.o (aH hi) (.o (m12 (h.JJ i hi)) (.b e1 (.ou nofun)))))
  ) (fun s _=>aN hO (.b (fD d.aj.length) (.ou nofun)))
def qh(d:Dg):Bool:=if jZ (bG (cD0 d) d.aK.length)=true then(if jZ (bG (cD2 d) d.aj.length)=true then(if zM (srN d d.root) (d.aj.length:Int)=true then zM (srE d d.root) (d.aK.length:Int)else false)else false)else false
theorem a2a{d:Dg}(h:BX d):(srN d d.root).length<=ah∧(srE d d.root).length<=ah:=by have hl:=(L9 h 6002 d.root ([],[]) sr0 h.root).len;exact⟨a5x hl.1 h.aj,a5x hl.2 h.aK⟩
def ako:eY aG:=bZ 84 (a1 dA) tA (fun p=>qh p) (fun p=>[BX p,p.aj.length<=6000]) a1Z
theorem apH:Gd ako:=akn.add fun n hO p hp=>aO hO (.zh (fun h=>.w (kM (lD0 hO (show BX p from hp _ gY).toDgL) () h) (.zh (fun h2=>.w (kM (lD2 hO (show BX p from hp _ gY)) () h2) (.o (hp _ gY) (.o (show BX p from hp _ gY).root (.o (hp _ yc) (.o (a2a (hp _ gY)).1 (.ss (.o (a2a (hp _ gY)).2 .rr) .rr)))))) fun h2=>.w (kN (lD2 hO (show BX p from hp _ gY)) 0 h2) .rr)) fun h=>.w (kN (lD0 hO (show BX p from hp _ gY).toDgL) 0 h) .rr)
theorem Y2{d:Dg}(hm:d.aK.length<=ah){r:Int}{b:Nat}(h:iP d r b=true):jD d r b:=by
 unfold iP at h;by_cases c:0<=r
 .rw[a0F (by simpa using c)]at h;exact⟨by simpa using h,fun h2=>by omega⟩
 rw[a0E (by simpa using c),vU]at h;have e:i64.wrap ((d.aK.length:Int)-1)=(d.aK.length:Int)-1:=by unfold ah at hm;exact fK (by omega) (by omega)
 rw[e]at h;obtain⟨h1,h2⟩:=h;exact⟨by omega,fun _=>⟨h1,show je r<_ by show i64.wrap (-1-r)<_;omega⟩⟩
theorem a7A{d:Dg}(h:DgL d)(hl:lW d=true):BX d:=by
 unfold lW at hl;split at hl
 rotate_left
 .cases hl
 split at hl
 rotate_left
 .cases hl
 rename_i h1 h2;have h2:=dL.1 h2;have key:∀i,i<d.aj.length->nJ (fB d i).var 0 (xw d.ay)=true∧(((fB d i).aA.length:Int) != d.ay.getD (fB d i).var.toNat 0)=false∧jZ (bG (cLk d i) (fB d i).aA.length)=true:=fun i hi=>by
  have:=h2 i hi;unfold cLn at this;split at this
  .cases this
  split at this
  .cases this
  split at this
  .rename_i a b c;exact⟨by simpa using a,by simpa using b,c⟩
  cases this
 refine⟨h,fun i hi k hk=>?_,fun i hi=>?_,fun i hi=>?_,fun i hi=>?_,Y2 h.aK hl⟩
 .have:=dL.1 (key i hi).2.2 k hk;unfold cLk at this;split at this
  .cases this
  rename_i a;exact Y2 h.aK (by simpa using a)
 .exact Y1 h.cu (JI h.cu (key i hi).1) (key i hi).2.1
 .exact JI h.cu (key i hi).1
 simpa using(key i hi).2.1
theorem jL{d:Dg}(ho:d.aB.length<=ah)(he:d.aK.length<=ah)(h:(aX d != 0)=false):BX d∧d.aj.length<=6000:=by
 unfold aX at h;split at h
 .rename_i h1;simp at h h1;exact absurd h h1
 split at h
 .cases h
 split at h
 .cases h
 rename_i h1 h2 h3;have h2:decide ((d.aj.length:Int)>6000)=false:=by simpa using h2
 exact⟨a7A ⟨ho,Vp h2,he,AZ (by simpa using h1)⟩ (by simpa using h3),by simp at h2;omega⟩
def iW(d:Dg):Int:=if(aX d != 0)=true then aX d else if(!(qh d))=true then 4 else 0
def akq:eY aG:=bZ 22 (a1 dA) iA (fun p=>iW p) (fun p=>[p.aB.length<=ah,p.aK.length<=ah]) ako
theorem apI:Gd akq:=apH.add fun n hO p hp=>aO hO (.o (hp _ gY) (.o (hp _ yc) (.sh (fun _=>.rr) fun h=>.o (jL (hp _ gY) (hp _ yc) h).1 (.o (jL (hp _ gY) (hp _ yc) h).2 (.ss .rr .rr)))))
open Go Tw Pv bP
def gAt(d:Dg)(p:LI0)(r:Int):Int⊕Int:=if decide (r>=0)=true then .inl ((au d r).aA.getD (p.getD (au d r).var.toNat 0).toNat 0)else .inr r
def Wn(d:Dg)(p:LI0):Nat->Int->Int
 | 0,r=>r
 |F+1,r=>if r<0 then r else Wn d p F ((au d r).aA.getD (p.getD (au d r).var.toNat 0).toNat 0)
theorem adv{d:Dg}{p:LI0}:∀(F:Nat) (r:Int),Wn d p F r<0->itF (gAt d p) (F+1) r=some (Wn d p F r)
 | 0,r,h=>by
  have h:r<0:=h;have e:gAt d p r=.inr r:=by unfold gAt;rw[a0E (by simpa using h)]
  rw[itF,e];rfl
 |F+1,r,h=>by
  by_cases c:r<0
  .have e:gAt d p r=.inr r:=by unfold gAt;rw[a0E (by simpa using c)]
   rw[itF,e,Wn,a0F c]
  have e:gAt d p r=.inl ((au d r).aA.getD (p.getD (au d r).var.toNat 0).toNat 0):=by unfold gAt;rw[a0F (by simp;omega)]
  rw[Wn,a0E c]at h;rw[itF,e,Wn,a0E c];exact adv F _ h
theorem PX{d:Dg}(h:BX d){p:LI0}(hp:kF d.ay p=true){r:Int}(hr:gu r d.aj.length):gu (au d r).var p.length∧gu (p.getD (au d r).var.toNat 0) (au d r).aA.length∧jD d ((au d r).aA.getD (p.getD (au d r).var.toNat 0).toNat 0) r.toNat:=by
 obtain⟨r1,r2⟩:=hr;have hl:r.toNat<d.aj.length:=by omega
 have hv:=h.var r.toNat hl;have hk:=h.ksz r.toNat hl;obtain⟨v1,v2⟩:=hv;obtain⟨p1,p2⟩:=uO.1 hp;have p3:=p2 (au d r).var.toNat (by show(fB d r.toNat).var.toNat<_;omega);have k1:gu (p.getD (au d r).var.toNat 0) (au d r).aA.length:=⟨p3.1,by show _<((fB d r.toNat).aA.length:Int);rw[hk];exact p3.2⟩;refine⟨⟨v1,by rw[p1];exact v2⟩,k1,h.zN r.toNat hl _ ?_⟩;obtain⟨k2,k3⟩:=k1;show _<(au d r).aA.length;omega
theorem Vq{d:Dg}(h:BX d){p:LI0}(hp:kF d.ay p=true):∀(F:Nat) (r:Int),r<F->jD d r d.aj.length->jD d (Wn d p F r) 0
 | 0,r,hr,hk=>⟨by show r<((0:Nat):Int);omega,hk.2⟩
 |F+1,r,hr,hk=>by
  unfold Wn;split
  .rename_i c;exact⟨by show r<((0:Nat):Int);omega,hk.2⟩
  rename_i c;have:=(PX h hp (r:=r) ⟨by omega,hk.1⟩).2.2;obtain⟨a1,a2⟩:=this;have a3:r<(d.aj.length:Int):=hk.1;exact Vq h hp F _ (by omega) ⟨by omega,a2⟩
abbrev atR(d:Dg)(p:LI0):Int:=Wn d p 6001 d.root
def xP(d:Dg)(p:LI0):V:=d.aK.getD (je (atR d p)).toNat V0
abbrev wAt(d:Dg)(p:LI0)(r:Int)(x:List (Nat×PE aG)):aU aG:=⟨[(1,xL 3 p),(2,.loc 0 0),(4,.loc 1 0),(5,xi r)]++x,[d.ps,V0.ps],[]⟩
theorem lAt{n:Nat}{fO:eY aG}(hO:Ok n fO){d:Dg}(h:BX d)(hm:d.aj.length<=6000){p:LI0}(hp:kF d.ay p=true):Lp n 98 0 (wAt d p d.root []) (.exit 0) (wAt d p (atR d p) [(9,xl false)]):=by
 have h0:d.root<(d.aj.length:Int):=h.root.1;have ha:=Vq h hp 6001 d.root (by omega) h.root;have QN:=adv 6001 d.root ha.1;refine a0c (st:=fun r=>wAt d p r []) (g:=gAt d p) (out:=fun r=>(.exit 0,wAt d p r [(9,xl false)])) (fun r=>jD d r d.aj.length) QN (by kernel_rfl) (by decide) h.root ?_ ?_
 .intro r r1 hr e;unfold gAt at e;split at e
  .rename_i c;have c:0<=r:=(by simpa using c);cases e;have:=(PX h hp (r:=r) ⟨c,hr.1⟩).2.2;have a3:r<(d.aj.length:Int):=hr.1;obtain⟨a1,a2⟩:=this;exact⟨by omega,a2⟩
  cases e
 intro r m r' hr ih;by_cases c:0<=r
 .have hk:=PX h hp (r:=r) ⟨c,hr.1⟩;have t1:decide (r>=0)=true:=by simpa using c
  have e:gAt d p r=.inl ((au d r).aA.getD (p.getD (au d r).var.toNat 0).toNat 0):=by unfold gAt;rw[a0F t1]
  have g:=ih _ e;rw[e];have wK:gu r d.aj.length:=⟨c,hr.1⟩;exact aN hO (.b t1 (.o wK (.o wK (.o hk.1 (.o hk.2.1 (.go g))))))
 have t1:decide (r>=0)=false:=by simpa using c
 have e:gAt d p r=.inr r:=by unfold gAt;rw[a0E (by rw[t1];simp)]
 rw[e];dsimp only[Dn];exact aN hO (.b t1 .ex)
theorem aaU{d:Dg}(h:BX d)(hm:d.aj.length<=6000){p:LI0}(hp:kF d.ay p=true):gu (je (atR d p)) d.aK.length:=by have h0:d.root<(d.aj.length:Int):=h.root.1;have ha:=Vq h hp 6001 d.root (by omega) h.root;exact ha.2 ha.1
def akr:eY aG:=bZ 98 (a2 dA qg) vA (fun p=>xP p.1 p.2) (fun p=>[BX p.1,p.1.aj.length<=6000,kF p.1.ay p.2=true]) akq
theorem apJ:Gd akr:=apI.add fun n hO p hp=>aO hO (.w (lAt hO (hp _ gY) (hp _ yc) (hp _ hh2)) (.o (aaU (hp _ gY) (hp _ yc) (hp _ hh2)) .rr))
open Go Tw Pv bP
theorem aaV{A:Nat->Prop}{m:List MB}{h:List HB}{l:LI0}{cs:List TV}(hr:eF X0 Qp A m h 3 l cs 0 1)(hc:cs.length=l.length):cs=l.map fun n=>TV.int .i64 n:=by
 apply a9H (by simp[hc]);intro j h1 h2;have hj:j<l.length:=by omega
 have:=hr.2.2 j l[j] 0 (.int .i64 l[j]) cs[j] (a0q hj) rfl (by rw[a0h];exact⟨by omega,by simp⟩);rw[this.a1J];simp
theorem TP:∀l:LI0,KY (l.map fun n=>TV.int .i64 n)=some l
 | []=>rfl
 |a::l=>by simp[KY,TP l]
theorem TQ{A:Nat->Prop}{m:List MB}{h:List HB}(l:LI0):eF X0 Qp A m h 3 l (l.map fun n=>TV.int .i64 n) 0 1:=by
 refine⟨fun j a _=>rfl,by simp only[a4S,ahI,a3W];exact a0P _,fun j a i c v hj hi hv=>?_⟩;have sF:=(a0h.1 hj).1;cases i with
 |zero=>
  have hi:some (PV.int .i64 a)=some c:=hi;cases hi;have hj:(l:LI0)[j]? = some a:=hj;rw[a3W,ahI,aek,a4T,hj]at hv;have hv:some (TV.int .i64 a)=some v:=hv;cases hv;exact .int _ _
 |succ i=>have hi:([]:List (PV aG))[i]? = some c:=hi;simp at hi
theorem La:dH Qp 3=some 1:=by kernel_rfl
theorem a7B(n:Nat)(x:TV)(h:List HB):lq Qp T LL (n+1) (.fn 137 [] []) [x] h=Pm 137 (.fn 137 [] []) [x] h:=rfl
theorem aaW{f c:Nat}{h:List HB}{kk BD:BK}{cs:List TV}{l:LI0}{e:Bool}(hb:h[c]? = some (.cells kk cs))(hk:Ac kk true=some BD)(RU:cs=l.map fun n=>TV.int .i64 n)(h0:0<l.length)(h1:l.length<=2^20) :
  Pm f (.fn f [] []) [.aP c 0 l.length l.length 1 e] h=some (.dJ [],h.set c (.cells BD ((gV l).map fun n=>TV.int .i64 n)),[c]):=by
 have pV:cs.length=l.length:=by rw[RU,a4S]
 have him:KY cs=some l:=by rw[RU];exact TP l
 generalize l.length=n at *;obtain⟨j,rfl⟩:∃j,n=j+1:=⟨n-1,by omega⟩;simp only[Pm,a7a,a2u,hb,hk,him,pV,h0,h1,acL]
theorem adw{n:Nat}{k ex:Bool}(l:LI0)(hl:l.length<=2^20):iJ (n+1) (.fn 137 [] []) [.own 0] [.list k ex 3 l] (.dJ []) [.list k ex 3 (gV l)]:=by
 intro A m h tf qP hr hf hx;obtain⟨x,r,rfl,h1,h2⟩:=hx.inv;have:=h2.inv0;subst this;obtain⟨g1,g2⟩:=aaw hr (i:=0) (k:=k) (ex:=ex) (t:=3) (l:=l) rfl h1;have htf:=hf.Vf;subst htf;show ∃w h1 ws m1,lq Qp T LL (n+1) _ _ h=_∧_;rw[a7B];have apK:gV ([]:LI0)=[]:=by simp[gV]
 have hE:∀h0:(l:LI0)=[],gV l=l:=fun h0=>by rw[h0];exact apK
 rcases aft g2 with⟨h0,rfl⟩|⟨h0,b,off,sz,cs,rfl,p0,p1,p2,p3,p4⟩|⟨p1,c,sz,e,kk,cs,rfl,p2,p3,p4,p5,p6,p7,p8,p9⟩
 .rw[hE h0];exact⟨.dJ [],h,[],m,rfl,hr,.dJ rfl (fun i x y hx=>by simp at hx),.refl,.refl,fun b hb=>by cases hb⟩
 .rw[hE h0];exact⟨.dJ [],h,[],m,rfl,hr,.dJ rfl (fun i x y hx=>by simp at hx),.refl,.refl,fun b hb=>by cases hb⟩
 rw[La]at p2;cases p2;have p8:cs.length=(l:LI0).length*1:=p8;have pV:cs.length=l.length:=by omega
 have RU:=aaV p9 pV;have hn0:0<l.length:=by cases l with|nil=>exact absurd rfl p1|cons=>simp
 obtain⟨BD,xZ,aeW,hko⟩:=Jo p5;have aT:=(a0h.1 p4).1;have uK:(MB.dF (TV.aP c 0 l.length l.length 1 e)).own=some c:=by simp only[MB.own];rw[a0E (by omega)]
 have hsl:(gV l).length=l.length:=by unfold gV;rw[aaR]
 have iD:gV l≠[]:=fun e0=>by rw[e0]at hsl;simp at hsl;omega
 obtain⟨q1,q2⟩:=hr.set (i:=0) (c:=c) (pb:=.list k ex 3 (gV l)) (hb:=.cells BD ((gV l).map fun n=>TV.int .i64 n)) g1 uK
  (fun Xg Gu=>⟨_,by simp only[aW];rw[a2M aT],by
   simp only[aW,p4,a0d]at Gu;subst Gu;rw[a4S,hsl,pV];exact a0P _⟩)
  (fun hF=>by have r:=LR.some (X:=X0) (P:=Qp) (A:=AA A m) (m:=m) (k:=k) (ex:=ex) (e:=e) (t:=3) (b:=c) (kk:=BD) iD La (by decide) (by rw[a2M aT]) aeW (fun e0=>hko (p6 e0)) p7 (by rw[a4S,ahI];rfl) (TQ (gV l));have apL:@List.length (X0.Γ 3) (gV l)=l.length:=hsl;rw[apL]at r;exact r)
 refine⟨.dJ [],_,[c],m,?_,q1,.dJ rfl (fun i x y hx=>by simp at hx),q2,.refl,fun d hd=>?_⟩
 .exact aaW p4 xZ RU hn0 hl
 simp at hd;subst hd;exact bf g1 uK
end Go.Proofs.YtmobpoiejckagaaGreat
namespace Pv
open Go Tw
variable {X:kX} {P:LI1}
theorem nS.aaX(hX:bT X P){call:aZ}{f:FuncId}{xs vs:List (PV X.Γ)}{v v':PV X.Γ}{ext ext':List (PB X.Γ)}(hc:nS X P call f vs v ext)(hv:views [] ([]++xs++[])=some vs)(hs:rC X 0 ext=some ext')
  (e:shift 0 v=v') (he:(if xK v||ext.any (hasB X)then aY (l7.kH ([]++xs++[])) []else [])=([]:List (PB X.Γ))):dG X P call (.fn f [] []) xs [] v' ext':=by
 subst e;intro A m h tf qP hr hf hx;have htf:=hf.Vf;subst htf;obtain⟨w,h',m1,c1,c2,c3,c4,c5⟩:=I9 hX hc hr hv hs (t1:=[]) (t3:=[]) .nil hx .nil;rw[he]at c2;exact⟨w,h',[],m1,c1,c2,c3,c4,c5,fun b hb=>by cases hb⟩
end Pv
namespace Go.Proofs.YtmobpoiejckagaaGreat
open Go Tw Pv bP
abbrev lsI(l:LI0):List (PB aG):=[.list false false 3 l]
theorem a3X(n:Nat)(h:List HB):UJ Qp T (iE n) LL 125 [.nil .aP] h=some (.nil .aP,h,[]):=by kernel_rfl
theorem a3Y(n b off cap:Nat)(ex:Bool)(h:List HB):UJ Qp T (iE n) LL 125 [.aP b off 0 cap 1 ex] h=some (.aP h.length 0 0 0 1 true,h++[.cells .own []],[]):=by kernel_rfl
theorem afW{n:Nat}:nS X0 Qp (iE (n+1)) 125 [.dF 3 ([]:LI0) false] (.own 0) (lsI []):=by
 intro A h first args cap IZ hv
 obtain⟨x,r,e,h1,h2⟩:=hv.inv;have:=h2.inv0;subst this;have hun:lq Qp T LL (n+1) (.fn 125 first cap) args h=UJ Qp T (iE n) LL 125 [x] h:=by rw[<-e];show lq Qp T LL (n+1) _ _ _=_;rw[lq,a0E (by decide),a0E (by decide)]
 rcases a6X h1 with rfl|⟨b,off,cap',sz,ex,cs,rfl,a1,a2,a3,a4,a5⟩
 .exact⟨.nil .aP,h,[.dF (.nil .aP)],by rw[<-a3X n h,<-hun],XA IZ .nil rfl,.own rfl rfl,⟨a0P _,fun _ _ _=>rfl,fun b hb=>by simp[bg,MB.own]at hb,fun b cs hc=>⟨cs,hc,a0P _⟩⟩⟩
 rw[La]at a3;cases a3;have hc:aW (h++[HB.cells .own []]) h.length=some []:=by unfold aW;rw[a0T (a0P _),ahv];rfl
 refine⟨.aP h.length 0 0 0 1 true,h++[.cells .own []],[.dF (.aP h.length 0 0 0 1 true)],by rw[<-a3Y n b off cap' ex h,<-hun],XA (fun b hb=>IZ b (by simp at hb;omega)) (.emp ⟨IZ _ (a0P _),by simp[bg,MB.own]⟩ hc (a0P _) La (by decide)) (by simp[MB.own]),.own rfl rfl,⟨by simp,fun b hb _=>by rw[a0C hb],fun b hb=>by simp[bg,MB.own]at hb,fun b cs hc=>⟨cs,?_,a0P _⟩⟩⟩;rw[fP (a0C (fM hc)),hc]
def adx:eY aG:=a05 125 (a1 qg) (fun _=>.own 0) (fun p=>lsI p) (fun p=>[p.length<=ah]) akr
theorem akt:Gd adx:=apJ.Xx 0 fun n _ hO p hp=>by
 have hl:p.length<=ah:=hp _ gY;by_cases h:p=[]
 .subst h;exact afW
 .have h2:([]:LI0).length+p.length<=ah:=by simpa using hl
  exact nS.gs hX (BJ hX (hO n (by omega)) (v:=.own 1) (H:=[.gone,.list true false 3 p]) (by kernel_rfl) (.o h (.b (rfl:false=false) (.o h2 .er)))) [.gc [1],.flag 0] rfl
abbrev aaY(m:Nat)(i:Int)(l:LI0)(x:List (Nat×PE aG)):aU aG:=⟨[(3,xo 0),(7,xi m),(8,xi i)]++x,[],[.list true true 3 l]⟩
theorem a7C(m:Nat):aS (fun k (l:LI0)=>l.set k (k:Int)) m 0 (List.replicate m 0)=dS m:=by
 have:=cO (g:=fun k (l:LI0)=>l.set k (k:Int)) (m:=m) (k:=0) (s:=List.replicate m 0) (fun k l=>l.length=m∧∀j,j<k->l.getD j 0=(j:Int)) ⟨by simp,by simp⟩ (fun j l _ hj h=>⟨by simp[h.1],fun i hi=>by
  rw[bP.zy (by omega)];split
  .rename_i e;rw[e]
  exact h.2 i (by omega)⟩)
 rw[qx (d:=0) (by rw[this.1,lU])];intro j hj;have sF:j<m:=by have:=this.1;omega
 rw[this.2 j (by omega)];simp[dS,List.getD,a4T,adI,sF]
theorem apM{n:Nat}{fO:eY aG}(hO:Ok n fO)(m:Nat)(hm:m<=ah):Lp n 159 0 (aaY m 0 (List.replicate m 0) []) (.exit 0) (aaY m m (dS m) [(9,xl false)]):=by rw[<-a7C];exact wY (σ:=LI0) (N:=m) (g:=fun k (l:LI0)=>l.set k (k:Int)) (s0:=List.replicate m 0) (st:=fun i (l:LI0)=>aaY m i l []) (fin:=fun(l:LI0)=>aaY m m l [(9,xl false)]) (fun _ (l:LI0)=>l.length=m) (by kernel_rfl) hm (by simp) (fun k l _ h=>by simp[h]) (fun k l hk hl j e p g=>aN hO (.b (bD hk) (.o (aH (show k<l.length by omega)) (.go g)))) (fun l _=>aN hO (.b (fD m) .ex))
def ady:eY aG:=bZ 159 (a1 iA) qg (fun p=>dS p.toNat) (fun p=>[0<=p,p<=(ah:Int)]) adx
theorem aku:Gd ady:=akt.add fun n hO p hp=>by have h0:0<=p:=hp _ gY;have h1:p<=(ah:Int):=hp _ yc;obtain⟨m,rfl⟩:∃m:Nat,p=(m:Int):=⟨p.toNat,by omega⟩;exact aO hO (.o (rfl:(m:Int)=(m:Int)) (.o h0 (.o h1 (.w (apM hO m (by omega)) .rr))))
abbrev afX(a b:LI0)(i:Int)(x:List (Nat×PE aG)):aU aG:=⟨[(0,xL 3 a),(1,xL 3 b),(12,xi a.length),(13,xi i)]++x,[],[]⟩
def akv(a b:LI0):Unit⊕Nat->Ex×aU aG
 |.inl _=>(.exit 0,afX a b a.length [(14,xl false)])
 |.inr _=>(.ret,⟨[(4,xl false)],[],[]⟩)
theorem akw{n:Nat}{fO:eY aG}(hO:Ok n fO)(a b:LI0)(hl:a.length<=ah)(h:a.length=b.length):Lp n 158 0 (afX a b 0 []) (akv a b (bG (L6 a b) a.length)).1 (akv a b (bG (L6 a b) a.length)).2:=
 jd (st:=fun i _=>afX a b i []) (fun _ _=>True) (by kernel_rfl) hl trivial (fun k s m hk _ ih=>aN hO (.b (bD hk) (.o (aH hk) (.o (aH (h▸hk)) (.ls (.ou nofun) (.nx (ih _ trivial))))))) (fun s _=>aN hO (.b (fD a.length) (.ou nofun)))
def adz:eY aG:=bZ 158 (a2 qg qg) tA (fun p=>decide (p.1=p.2)) (fun p=>[p.1.length<=ah]) ady
theorem akx:Gd adz:=aku.add fun n hO p hp=>aO hO (.s (fun h=>.v false (a7q h).symm) fun h=>.z (c:=jZ (bG (L6 p.1 p.2) p.1.length)) (fun h2=>.w (kM (akw hO p.1 p.2 (hp _ gY) (lT h)) () h2) (.v true (by rw[<-Ew (lT h),h2]))) fun h2=>.w (kN (akw hO p.1 p.2 (hp _ gY) (lT h)) 0 h2) (.v false (by rw[<-Ew (lT h),h2])))
def a7D:eY aG:=bZ 157 (a3 iA iA qg) tA (fun p=>ng p.2.2 p.1 p.2.1) (fun p=>[p.2.2.length<=ah]) adz
theorem aky:Gd a7D:=akx.deep 3 fun n hn hO p hp=>by have h1:∀x,dG X0 Qp (iE (n-3+1)) (.fn 188 [] [.ptr 0 0 1,.ptr 1 0 1]) [.int .i64 x] [.cells [.int .i64 p.1],.cells [.int .i64 p.2.1]] (tA.put (vY x p.1 p.2.1)) [.cells [.int .i64 p.1],.cells [.int .i64 p.2.1]]:=fun x=>jr gG (first:=[]) (.ssh (fun _=>.sr) (fun _=>.sr));obtain⟨n,rfl⟩:∃k,n=k+3:=⟨n-3,by omega⟩;rw[show n+3-3+1=n+1 by omega]at h1;have h2:=ajq (n:=n+2) (by omega) (g:=fun x=>vY x p.1 p.2.1) h1 p.2.2 (hp _ gY);exact aO (hO _ (by omega)) (.k h2 (.v (!(mZ (fun x=>vY x p.1 p.2.1) p.2.2)) (by rw[Eu];rfl)))
def a2b(s:LI0):Int:=aS (fun k n=>i64.wrap (n*s.getD k 0)) s.length 0 1
theorem Y3:∀{s:LI0},nR s->bC s<=12^s.length
 | [],_=>by decide
 |a::t,h=>by have h1:=Y3 h.tail;have h2:=jo h.tail;have h3:=h a (.head _);have h4:a*bC t<=12*bC t:=aaS h3.2 (by omega);show a*bC t<=12^(t.length+1);rw[Int.pow_succ];omega
theorem akz:∀{n:Nat},n<=6->(12:Int)^n<=2985984:=by decide
theorem a7E{s:LI0}(h:nR s)(hl:s.length<=6):a2b s=bC s:=by
 have:=cO (g:=fun k n=>i64.wrap (n*s.getD k 0)) (m:=s.length) (k:=0) (s:=1) (fun k n=>n=bC (s.take k)) (by simp[bC]) (fun j n _ hj e=>by
  have sF:j<s.length:=by omega
  have e2:bC (s.take (j+1))=n*s.getD j 0:=by rw[a8n sF,Ep,e];simp[bC,List.getD,a0q sF]
  have h1:=QY h (j+1);have h2:1<=bC (s.take (j+1)):=jo fun a ha=>h a (a9I ha);have h3:=Y3 h;have h4:=akz hl;show i64.wrap (n*s.getD j 0)=_;rw[e2]at h1 h2 ⊢;exact fK (by omega) (by omega))
 rw[a2b,this];simp
abbrev aaZ(a b:LI0)(p i:Int)(x:List (Nat×PE aG)):aU aG:=⟨[(0,xL 3 a),(1,xL 3 b),(5,xi p),(17,xL 3 a),(18,xi a.length),(19,xi i)]++x,[],[]⟩
theorem apO{n:Nat}{fO:eY aG}(hO:Ok n fO)(a b:LI0)(hl:a.length<=ah):Lp n 105 0 (aaZ a b 1 0 []) (.exit 1) (aaZ a b (a2b a) a.length [(20,xl false)]):=
 P9 (st:=fun i n=>aaZ a b n i []) (fin:=fun n=>aaZ a b n a.length [(20,xl false)]) (fun _ _=>True) (by kernel_rfl) hl TK trivial (fun _ _ _ _=>trivial) (fun k s hk _ n e p h=>aN hO (.b (bD hk) (.o (aH hk) (.go h)))) (fun s _=>aN hO (.b (fD a.length) .ex))
theorem afY{n:Nat}(hO:Ok n a7D)(l:LI0)(hl:l.length<=ah):iJ n (.fn 125 [] []) [.dF 3 l false] [] (.own 0) (lsI l):=
 nS.aaX hX (hO 125 [.dF 3 l false] (.own 0) (lsI l) [l.length<=ah] (by kernel_rfl) (List.forall_mem_singleton.2 hl)) rfl rfl rfl rfl
theorem a7F(n:Nat):(dS n).Pairwise fun a b=>decide (a<=b)=true:=by unfold dS;rw[agS];exact List.pairwise_lt_range.imp fun h=>by simp;omega
theorem a3Z{n:Nat}{o:LI0}:decide (gV o=dS n)=jW n o:=by
 rw[a5b,a1z];have h2:=TL n;have hp:(gV o).Perm o:=aey _ _;constructor
 .intro h;rw[h]at hp;unfold jW at h2 ⊢;rw[a1z]at h2 ⊢;exact⟨by rw[<-hp.length_eq,h2.1],fun a ha=>h2.2.1 a (hp.mem_iff.2 ha),hp.nodup_iff.1 h2.2.2⟩
 intro h;unfold jW at h h2;rw[a1z]at h h2;have e:o.Perm (dS n):=(a7x h.2.2 h2.2.2).2 fun a=>by
  have hm:∀x,0<=x∧x<(n:Int)->x∈dS n:=fun x hx=>by unfold dS;rw[a0V];exact⟨x.toNat,by rw[a4P];omega,by omega⟩
  constructor
  .exact fun ha=>hm a (h.2.1 a ha)
  intro ha;by_cases hc:a∈o
  .exact hc
  have:=aee (l₁:=a::o) (l₂:=dS n) (a4U.2 ⟨hc,h.2.2⟩) (fun x hx=>by
   rcases a1Y.1 hx with rfl|hx
   .exact ha
   exact hm x (h.2.1 x hx))
  rw[lU]at this;simp at this;omega
 refine List.Perm.eq_of_pairwise (le:=fun a b=>decide (a<=b)=true) (fun a b _ _ h1 h2=>by simp at h1 h2;omega) ?_ (a7F n) (hp.trans e);exact List.pairwise_mergeSort (fun a b c h1 h2=>by simp at h1 h2 ⊢;omega) (fun a b=>by simp;omega) o
def Y4(s o:LI0):Int:=if decide ((s.length:Int)>6)=true then 5 else if(!(ng s 1 12))=true then 3 else if decide (a2b s>2000)=true then 5 else if(!(decide (gV o=dS s.length)))=true then 4 else 0
theorem Y5(s o:LI0):Y4 s o=bK s o:=by
 rw[PS];unfold Y4;rw[a3Z];by_cases h1:6<s.length
 .rw[a0F (by simp;omega),a0F h1]
 rw[a0E (by simp;omega),a0E h1];have hw:ng s 1 12=decide (nR s):=by
  unfold ng;rw[a5b,a8W,List.any_eq_false,a1z];refine acr fun a=>acr fun _=>?_;unfold vY;split
  .rename_i h;simp at h ⊢;omega
  rename_i h;simp at h ⊢;omega
 rw[hw];by_cases h2:nR s
 .rw[a0E (by simp[h2]),a0F h2,a7E h2 (by omega)];simp only[a1z,Int.not_lt,gt_iff_lt];split
  .rfl
  cases jW s.length o<;>simp
 rw[a0F (by simp[h2]),a0E h2]
def adA:eY aG:=bZ 105 (a2 qg qg) iA (fun p=>bK p.1 p.2) (fun p=>[p.1.length<=ah,p.2.length<=2^20]) a7D
theorem akA:Gd adA:=aky.deep 1 fun n hn hO p hp=>by
 obtain⟨n,rfl⟩:∃k,n=k+1:=⟨n-1,by omega⟩;have hO:=hO (n+1) (by omega);have h1:p.1.length<=ah:=hp _ gY;have h2:p.2.length<=2^20:=hp _ yc;have h3:p.2.length<=ah:=by unfold ah;omega
 have h4:(dS p.1.length).length<=ah:=by rw[lU];exact h1
 have h5:(gV p.2).length<=ah:=by unfold gV;rw[aaR];exact h3
 show nS X0 Qp _ _ _ (iA.put (bK p.1 p.2)) _;rw[<-Y5];exact aO hO (.ss .rr (.o h1 (.ss .rr (.w (apO hO p.1 p.2 h1) (.ss .rr (.fr [] (afY hO p.2 h3) (.fr [0] (adw (n:=n) (k:=false) (ex:=false) p.2 h2) (.o (show(0:Int)<=(p.1.length:Int) by omega) (.o (show(p.1.length:Int)<=(ah:Int) by omega) (.o h5 (.ss .rr .rr)))))))))))
open Go Tw Pv bP
theorem Y6{α:Type}(x:α):[x].length<=ah:=by unfold ah;simp
def qL(v:V):Bool:=if decide (v.f>0)=true then(if decide (v.f<=4)=true then v.n==0 else false)else ng [v.n] (-9999) 9999
def adB:eY aG:=bZ 190 (a1 vA) tA (fun p=>qL p) np adA
theorem akB:Gd adB:=akA.add fun n hO p hp=>aO hO (.ss (.ss .rr .rr) (.o (Y6 p.n) .rr))
abbrev frA:Vd X0 Qp (LI0×LI0):=a2 qg qg
abbrev cIx(l:LI0)(v:Int)(k:Nat):Bool:=v==l.getD k 0
abbrev afZ(l:LI0)(v:Int)(i:Int)(x:List (Nat×PE aG)):aU aG:=⟨[(0,xL 3 l),(1,xi v),(7,xi l.length),(8,xi i)]++x,[],[]⟩
def z234(l:LI0)(v:Int):Unit⊕Nat->Ex×aU aG
 |.inl _=>(.exit 0,afZ l v l.length [(9,xl false)])
 |.inr k=>(.ret,⟨[(4,xi k)],[],[]⟩)
theorem akC{n:Nat}{fO:eY aG}(hO:Ok n fO)(l:LI0)(v:Int)(hl:l.length<=ah):Lp n 234 0 (afZ l v 0 []) (z234 l v (bG (cIx l v) l.length)).1 (z234 l v (bG (cIx l v) l.length)).2:=
 jd (st:=fun i _=>afZ l v i []) (fun _ _=>True) (by kernel_rfl) hl trivial (fun k s m hk _ ih=>aN hO (.b (bD hk) (.o (aH hk) (.ls (.ou nofun) (.nx (ih _ trivial)))))) (fun s _=>aN hO (.b (fD l.length) (.ou nofun)))
def nK(l:LI0)(v:Int):Int:=if jZ (bG (cIx l v) l.length)=true then -1 else((Dl 0 (bG (cIx l v) l.length):Nat):Int)
def adD:eY aG:=bZ 234 (a2 qg iA) iA (fun p=>nK p.1 p.2) (fun p=>[p.1.length<=ah]) adB
theorem akD:Gd adD:=akB.add fun n hO p hp=>aO hO (.zh (fun h=>.w (kM (akC hO p.1 p.2 (hp _ gY)) () h) .rr) fun h=>.w (kN (akC hO p.1 p.2 (hp _ gY)) 0 h) .rr)
def adE:eY aG:=bZ 223 (a2 (a6T (a2 qg qg)) iA) iA (fun p=>nK p.1.2 p.2) (fun p=>[p.1.2.length<=ah]) adD
theorem akE:Gd adE:=akD.add fun n hO p hp=>aO hO (.o (hp _ gY) .rr)
def adF:eY aG:=bZ 197 (a1 iA) iA (fun p=>i64.wrap (-1-p)) np adE
theorem akF:Gd adF:=akE.add fun n hO p hp=>aO hO .rr
structure Lo where
 s:LI0
 o:LI0
 d:Dg
abbrev Lo.ps(l:Lo):List (PV aG):=[.dF 3 l.s false,.dF 3 l.o false]++l.d.ps
def loA:Arg Lo:=afp (a6T (LK qg (LK qg (LK qg (a4 qg vsA aaE iA))))) (fun p=>⟨p.1,p.2.1,⟨p.2.2.1,p.2.2.2.1,p.2.2.2.2.1,p.2.2.2.2.2.1,p.2.2.2.2.2.2⟩⟩) (fun l=>(l.s,l.o,l.d.ay,l.d.aB,l.d.aK,l.d.aj,l.d.root)) fun _=>rfl
def qB(l:Lo)(zN below LP:Int):Bool:=if decide (zN<0)=true then decide (i64.wrap (-1-zN)<(l.d.aK.length:Int))else if decide (zN<below)=true then decide (nK l.o (l.d.aj.getD zN.toNat kR).var>LP)else false
def Y7:eY aG:=bZ 193 (a4 loA iA iA iA) tA (fun p=>qB p.1 p.2.1 p.2.2.1 p.2.2.2) (fun p=>[p.1.o.length<=ah,0<=p.2.1->p.2.1<p.2.2.1->gu p.2.1 p.1.d.aj.length]) adF
theorem akG:Gd Y7:=akF.add fun n hO p hp=>aO hO (.sh (fun _=>.rr) fun h=>.sh (fun h2=>.o (hp (0<=p.2.1->p.2.1<p.2.2.1->gu p.2.1 p.1.d.aj.length) (.tail _ (.head _)) (by simpa using h) (by simpa using h2)) (.o (hp _ gY) .rr)) fun _=>.rr)
abbrev Hb(l:Lo)(i:Int)(b:Br):List (PB aG):=[.cells l.ps,.cells [.int .i64 i],.cells b.ps]
theorem apP{n f:Nat}{a c:List (PV aG)}{H:List (PB aG)}{g:Int->Bool}(l:LI0)(hf:∀x∈l,iJ n (.fn f a c) [.int .i64 x] H (.bool (g x)) H)(hl:l.length<=ah):iJ (n+1) (.fn 218 [] []) [.dF 3 l false,.fn f a c] H (iA.put (rU g l)) H:=by
 have lp:Nk n 218 0 H.length (a7p f a c H l 0 []) (z218 f a c H l (mX (qc g) l 0 ())).1 (z218 f a c H l (mX (qc g) l 0 ())).2:=
  Xv (st:=fun i _=>a7p f a c H l i []) (0:Int) (fun _ _=>True) (by kernel_rfl) hl TK trivial (fun k s n hk _ ih=>aN gG (.b (bD hk) (.o (aH hk) (.k (hf (l.getD k (0:Int)) (dB hk)) (.ls (.ou nofun) (.nx (ih _ trivial))))))) (fun s _=>aN gG (.b (fD l.length) (.ou nofun)))
 exact jr gG (first:=[]) (cap:=[]) (.szh (fun h=>.w (kM lp () h) .sr) (fun h=>.w (kN lp (0,0,()) h) .sr))
theorem akH{n f:Nat}{a c:List (PV aG)}{H:List (PB aG)}{g:Int->Bool}(l:LI0)(hf:∀x∈l,iJ n (.fn f a c) [.int .i64 x] H (.bool (g x)) H)(hl:l.length<=ah):iJ (n+2) (.fn 181 [] []) [.dF 3 l false,.fn f a c] H (tA.put (l.any g)) H:=by have h1:=apP l hf hl;have h2:=Eu g l;rw[<-h2];exact jr gG (first:=[]) (cap:=[]) (.k h1 .sr)
theorem Ez{α:Type}(l:List α)(g:α->Bool):(!(l.any fun x=>!(g x)))=l.all g:=by
 induction l with
 |nil=>rfl
 |cons a l ih=>simp only[ae2,aco,Bool.not_or,Bool.not_not,ih]
abbrev pB:List (PV aG):=[.ptr 0 0 7,.ptr 1 0 1,.ptr 2 0 2]
theorem apQ{n f:Nat}{l:Lo}{i:Int}{b:Br}{g:Int->Bool}(ks:LI0)(hf:∀x∈ks,iJ n (.fn f [] pB) [.int .i64 x] (Hb l i b) (tA.put (g x)) (Hb l i b))(hl:ks.length<=ah):iJ (n+4) (.fn 191 [] []) [.dF 3 ks false,.fn f [] pB] (Hb l i b) (tA.put (ks.all g)) (Hb l i b):=by
 have h1:∀x∈ks,iJ (n+1) (.fn 221 [] [.ptr 3 0 1]) [.int .i64 x] (Hb l i b++[.cells [.fn f [] pB]]) (tA.put (!(g x))) (Hb l i b++[.cells [.fn f [] pB]]):=fun x hx=>
  jr gG (first:=[]) (.fr [0,1,2] (hf x hx) .sr)
 have h2:=akH ks h1 hl;rw[<-Ez ks g];exact dG.drop hX (Dk hX gG (first:=[]) (cap:=[]) (H1:=Hb l i b++[.cells [.fn f [] pB]]) (by kernel_rfl) (.k h2 .sr)) rfl rfl
theorem a2c{x a b:Int}:ng [x] a b=decide (a<=x∧x<=b):=by
 unfold ng vY;simp only[ae2,List.any_nil,Bool.or_false];by_cases h:x<a
 .rw[a0F (by simpa using h),a9t,eq_comm,a3b];omega
 rw[a0E (by simpa using h),a5b,a8W,a3b,a1z];omega
theorem Y8{l:List Br}{k:Nat}(h:k<l.length):l.getD k kR∈l:=by simp[List.getD,a0q h]
abbrev xg(l:Lo)(i:Int):Br:=l.d.aj.getD i.toNat kR
def Gi(l:Lo)(i:Int):Bool:=if(!(ng [(xg l i).var] 0 (xw l.s)))=true then false else if(((xg l i).aA.length:Int) != l.s.getD (xg l i).var.toNat 0)=true then false else(xg l i).aA.all fun x=>qB l x i (nK l.o (xg l i).var)
theorem akI{n:Nat}(hO:∀m,n<=m->Ok m Y7){l:Lo}{i:Int}(ho:l.o.length<=ah)(hf:vk l.s)(hi:gu i l.d.aj.length):iJ (n+6) (.fn 192 [.agg l.ps] []) [.int .i64 i] [] (tA.put (Gi l i)) []:=by
 have h1:∀x∈(xg l i).aA,iJ (n+1) (.fn 222 [] pB) [.int .i64 x] (Hb l i (xg l i)) (tA.put (qB l x i (nK l.o (xg l i).var))) (Hb l i (xg l i)):=fun x _=>
  jr (hO n (a0P _)) (first:=[]) (.o ho (.o ho (.o (show 0<=x->x<i->gu x l.d.aj.length from fun h0 h1=>⟨h0,by have:=hi.1;have:=hi.2;omega⟩) .sr)))
 have hv:(!(ng [(xg l i).var] 0 (xw l.s)))=false->gu (xg l i).var l.s.length:=fun h=>by rw[a2c,acg,a1z,a7r hf.ajj]at h;exact⟨h.1,by omega⟩
 have hk:(!(ng [(xg l i).var] 0 (xw l.s)))=false->(((xg l i).aA.length:Int) != l.s.getD (xg l i).var.toNat 0)=false->(xg l i).aA.length<=ah:=fun h h2=>by
  have h3:=hv h;have h4:=hf.sz _ (dB (s:=l.s) (k:=(xg l i).var.toNat) (by have:=h3.2;have:=h3.1;omega));have h2:((xg l i).aA.length:Int)=l.s.getD (xg l i).var.toNat 0:=by simpa using h2
  exact m12 (by omega)
 exact dG.drop hX (Dk hX (hO (n+5) (by omega)) (first:=[.agg l.ps]) (cap:=[]) (H1:=Hb l i (xg l i)++[.list true true 3 [(xg l i).var]]) (by kernel_rfl) (.o hi (.o (Y6 (xg l i).var) (.ssh (fun _=>.sr) fun h5=>.o (hv h5) (.ssh (fun _=>.sr) fun h6=>.fr [0,1,2] (apQ (xg l i).aA h1 (hk h5 h6)) .sr))))) rfl rfl
abbrev a4a(f:Nat)(a:List (PV aG)):List (PB aG):=[.cells [.fn f a []]]
theorem akJ{n:Nat}{l:Lo}{g:Int->Bool}(ks:LI0)(hf:∀x∈ks,iJ n (.fn 192 [.agg l.ps] []) [.int .i64 x] [] (tA.put (g x)) [])(hl:ks.length<=ah):iJ (n+4) (.fn 191 [] []) [.dF 3 ks false,.fn 192 [.agg l.ps] []] [] (tA.put (ks.all g)) []:=by
 have h1:∀x∈ks,iJ (n+1) (.fn 221 [] [.ptr 0 0 1]) [.int .i64 x] (a4a 192 [.agg l.ps]) (tA.put (!(g x))) (a4a 192 [.agg l.ps]):=fun x hx=>
  jr gG (first:=[]) (.fr [] (hf x hx) .sr)
 have h2:=akH ks h1 hl;rw[<-Ez ks g];exact dG.drop hX (Dk hX gG (first:=[]) (cap:=[]) (H1:=a4a 192 [.agg l.ps]) (by kernel_rfl) (.k h2 .sr)) rfl rfl
theorem apR{n:Nat}(hO:Ok n Y7)(l:List V)(hl:l.length<=ah):iJ (n+4) (.fn 189 [] []) [.dF 39 l false,.fn 190 [] []] [] (tA.put (l.all qL)) []:=by
 have h1:∀x:V,iJ (n+1) (.fn 220 [] [.ptr 0 0 1]) [.agg x.ps] (a4a 190 []) (tA.put (!(qL x))) (a4a 190 []):=fun x=>
  jr hO (first:=[]) .sr
 have h2:=afM (n:=n+2) (by omega) (g:=fun x=>!(qL x)) h1 l hl;rw[<-Ez l,<-JC];exact dG.drop hX (Dk hX gG (first:=[]) (cap:=[]) (H1:=a4a 190 []) (by kernel_rfl) (.k h2 .sr)) rfl rfl
theorem apS{n:Nat}(hO:Ok n Y7)(m:Nat)(hm:m<=ah):iJ n (.fn 159 [] []) [.int .i64 m] [] (qg.put (dS m)) []:=
 nS.aaX hX (hO 159 [.int .i64 m] (qg.put (dS m)) [] [0<=(m:Int),(m:Int)<=(ah:Int)] (by kernel_rfl) (by
  intro q hq;rcases a1Y.1 hq with rfl|hq
  .omega
  .rw[a1S.1 hq];omega)) rfl rfl rfl rfl
theorem a2d{x:Int}{m:Nat}(h:x∈dS m):gu x m:=by simp only[dS,a0V,a4P]at h;obtain⟨k,hk,rfl⟩:=h;exact aH hk
abbrev yX(d:Dg):Lo:=⟨d.ay,d.aB,d⟩
abbrev lo0:Lo:=⟨[],[],⟨[],[],[],[],0⟩⟩
def bH(d:Dg):Lo×Int:=if(bK d.ay d.aB != 0)=true then(lo0,bK d.ay d.aB)else if decide ((d.aj.length:Int)>6000)=true then(yX d,5)else if(!(d.aK.all qL))=true then(yX d,4)else if(!((dS d.aj.length).all (Gi (yX d))))=true then(yX d,4)else if(!(qB (yX d) d.root d.aj.length (-1)))=true then(yX d,4)else(yX d,0)
def DN:eY aG:=bZ 160 (a1 dA) (dO (a2 loA iA)) (fun p=>bH p) (fun p=>[p.ay.length<=ah,p.aB.length<=2^20,p.aK.length<=ah]) Y7
theorem adG:Gd DN:=akG.deep 11 fun n hn hO d hp=>by
 obtain⟨n,rfl⟩:∃k,n=k+10:=⟨n-10,by omega⟩;have h1:d.ay.length<=ah:=hp _ gY;have h2:d.aB.length<=2^20:=hp _ yc;have h3:d.aK.length<=ah:=hp _ hh2;have ho:d.aB.length<=ah:=by unfold ah;omega
 have hO:∀m,n<=m->Ok m _:=fun m hm=>hO m (by omega);have hI:(bK d.ay d.aB != 0)=false->∀x∈dS d.aj.length,iJ (n+6) (.fn 192 [.agg (yX d).ps] []) [.int .i64 x] [] (tA.put (Gi (yX d) x)) []:=fun h x hx=>akI hO (l:=yX d) ho (AZ h) (a2d hx);have hR:0<=d.root->d.root<(d.aj.length:Int)->gu d.root d.aj.length:=fun a b=>⟨a,by omega⟩;have hL:decide ((d.aj.length:Int)>6000)=false->(dS d.aj.length).length<=ah:=fun h=>by rw[lU];exact Vp h
 exact aO (hO (n+10) (by omega)) (.o h1 (.o h2 (.sh (fun _=>.rn (.dJ [.agg [.nil .aP,.nil .aP,.nil .aP,.nil .aP,.nil .aP,.nil .aP,.int .i64 0],.int .i64 (bK d.ay d.aB)]) rfl) fun h=>.sh (fun _=>.rr) fun h4=>.fr [] (apR (n:=n+6) (hO (n+6) (by omega)) d.aK h3) (.ss .rr (.fr [] (apS (hO (n+10) (by omega)) d.aj.length (Vp h4)) (.fr [] (akJ (l:=yX d) (n:=n+6) (dS d.aj.length) (hI h) (hL h4)) (.ss .rr (.o ho (.o hR (.ss .rr .rr))))))))))
open Go Tw Pv bP
def Gj(x:Int):Prop:=-(2^63)<=x∧x<2^63
structure Ba(d:Dg):Prop where
 zN:∀i,i<d.aj.length->∀k,k<(fB d i).aA.length->Gj ((fB d i).aA.getD k 0)
 root:Gj d.root
 fault:∀v∈d.aK,0<=v.f
theorem lX{n:Nat}{o:LI0}(h:jW n o=true){v:Int}(hv:gu v n):v∈o:=by
 unfold jW at h;rw[a1z]at h;obtain⟨h0,h1⟩:=hv;by_cases hc:v∈o
 .exact hc
 have:=aee (l₁:=v::o) (l₂:=dS n) (a4U.2 ⟨hc,h.2.2⟩) (fun x hx=>by
  have:0<=x∧x<(n:Int):=by
   rcases a1Y.1 hx with rfl|hx
   .exact⟨h0,by omega⟩
   exact h.2.1 x hx
  unfold dS;rw[a0V];exact⟨x.toNat,by rw[a4P];omega,by omega⟩)
 rw[lU]at this;simp at this;omega
theorem rZ{l:LI0}{k:Nat}(h:k<l.length):l.getD k 0=l[k]:=by simp[List.getD,a0q h]
theorem a2e{l:LI0}{v:Int}(h:v∈l):jZ (bG (cIx l v) l.length)=false:=by
 cases e:jZ (bG (cIx l v) l.length)
 .rfl
 obtain⟨j,hj,e2⟩:=a5d.1 h;have:=dL.1 e j hj;simp[cIx,List.getD,a0q hj,e2]at this
theorem a7G{d:Dg}{r:Int}:PU d r=cIx d.aB (au d r).var:=by funext k;exact BEq.comm
theorem Vr{d:Dg}{r:Int}(h0:0<=r)(h:(au d r).var∈d.aB):ug d r=nK d.aB (au d r).var:=by unfold ug nK;rw[a0E (by rw[a1z];omega),a7G,a2e h,a0E (by decide),a0E (by decide)]
theorem akK{l:LI0}{v:Int}(h:v∈l):nK l v<(l.length:Int):=by unfold nK;rw[a2e h,a0E (by simp)];obtain⟨j,h1,_,_,h2⟩:=AQ (a2e h);rw[h2];show(j:Int)<_;omega
theorem PY{x a b:Int}:ng [x] a b=nJ x a b:=by rw[a2c,a5b,vU,a1z]
theorem a7H{v:V}(h:0<=v.f):qL v=vOk v:=by rw[afP h];unfold qL vIs;rw[PY]
theorem ag0{z:Int}(h:Gj z):i64.wrap z=z:=by
 obtain⟨h0,h1⟩:=h;simp only[IntKind.wrap,IntKind.bits,IntKind.signed];rcases Int.lt_or_le z 0 with h|h
 .have:z%(2^64:Int)=z+2^64:=by have:=acp z (2^64) 1;rw[acE]at this;rw[<-this];exact a8U (by omega) (by omega)
  simp only[this];rw[a0F (by simp;omega)];omega
 have:z%(2^64:Int)=z:=a8U h (by omega);simp only[this];rw[a0E (by simp;omega)]
theorem Nl{x:Int}(h:Gj x)(h0:x<0):i64.wrap (-1-x)=-1-x:=by have h1:=h.1;exact ag0 ⟨by omega,by omega⟩
theorem ab1{d:Dg}{x:Int}(below:Int)(h:Gj x)(h0:x<0)(he:d.aK.length<=ah):iP d x below=decide (i64.wrap (-1-x)<(d.aK.length:Int)):=by
 have he:d.aK.length<=2^60:=by unfold ah at he;omega
 unfold iP;rw[a0E (by simp;omega),Nl h h0,a5b,vU,a1z];by_cases h1:d.aK.length=0
 .rw[h1,show i64.wrap (((0:Nat):Int)-1)=-1 by decide];omega
 rw[fK (by omega) (by omega)];omega
theorem akL{l:LI0}{v:Int}(h:v∈l):0<=nK l v:=by unfold nK;rw[a2e h,a0E (by simp)];omega
theorem ag2{d:Dg}{x below LP:Int}(h0:0<=x)(hv:x<below->(au d x).var∈d.aB):qB (yX d) x below LP=(iP d x below&&decide (LP<ug d x)):=by
 unfold qB iP;rw[a0E (show ¬(decide (x<0)=true) by rw[a1z];omega),a0F (show decide (x>=0)=true by rw[a1z];omega)];by_cases h1:x<below
 .rw[a0F (show decide (x<below)=true by rw[a1z];exact h1),Vr h0 (hv h1),decide_eq_true h1,ae1]
 rw[a0E (show ¬(decide (x<below)=true) by rw[a1z];exact h1),aeJ h1,Bool.false_and]
theorem ag3{d:Dg}{x below LP:Int}(h:Gj x)(h0:x<0)(he:d.aK.length<=ah)(hr:LP<(d.aB.length:Int)):qB (yX d) x below LP=(iP d x below&&decide (LP<ug d x)):=by rw[ab1 _ h h0 he];unfold qB ug;rw[a0F (by rw[a1z];exact h0),a0F (by rw[a1z];exact h0),decide_eq_true hr,ahK]
theorem a7I{d:Dg}{x below LP:Int}(h:Gj x)(he:d.aK.length<=ah)(hr:LP<(d.aB.length:Int))(hv:0<=x->x<below->(au d x).var∈d.aB):qB (yX d) x below LP=(iP d x below&&decide (LP<ug d x)):=by
 by_cases h0:0<=x
 .exact ag2 h0 (hv h0)
 exact ag3 h (by omega) he hr
theorem a7J{d:Dg}(h:Ba d)(he:d.aK.length<=ah)(hv:∀r,gu r d.aj.length->(au d r).var∈d.aB):qB (yX d) d.root d.aj.length (-1)=iP d d.root d.aj.length:=by
 rw[a7I h.root he (by omega) (fun a b=>hv _ ⟨a,by omega⟩)];cases e:iP d d.root d.aj.length
 .rfl
 rw[ae1,a1z];by_cases h0:0<=d.root
 .have:=Y0 e h0 (a0P _);rw[Vr h0 (hv _ this)];have:=akL (hv _ this);omega
 unfold ug;rw[a0F (by rw[a1z];omega)];omega
theorem adH{d:Dg}(h:Ba d)(he:d.aK.length<=ah){i:Nat}(hi:i<d.aj.length)(hf:vk d.ay)(ho:jW d.ay.length d.aB=true)(hv:∀j,j<i->(fB d j).var∈d.aB):Gi (yX d) i=!(cLn d i):=by
 have e0:xg (yX d) i=fB d i:=rfl;unfold Gi cLn;rw[e0];show(if(!(ng [(fB d i).var] 0 (xw d.ay)))=true then false else if(((fB d i).aA.length:Int) != d.ay.getD (fB d i).var.toNat 0)=true then false else _)=_;rw[PY];cases e1:nJ (fB d i).var 0 (xw d.ay)
 .rfl
 have hvi:(fB d i).var∈d.aB:=lX ho (JI hf e1);have apT:(au d (i:Int)).var∈d.aB:=hvi;simp only[a9t,a2S,a3T];split
 .rfl
 have FP:((fB d i).aA.all fun x=>qB (yX d) x i (nK (yX d).o (fB d i).var))=jZ (bG (cLk d i) (fB d i).aA.length):=by
  rw[a5b,a4W,dL];have hk:∀k,k<(fB d i).aA.length->(qB (yX d) ((fB d i).aA.getD k 0) i (nK d.aB (fB d i).var)=true↔cLk d i k=false):=fun k hk=>by
   rw[a7I (h.zN i hi k hk) he (akK hvi) (fun a b=>hv _ (by omega)),a2O,a1z];unfold cLk;rw[show ug d (i:Int)=nK d.aB (fB d i).var from Vr (by omega) apT];cases iP d ((fB d i).aA.getD k 0) i
   .simp
   simp<;>omega
  constructor
  .intro a k KJ;exact(hk k KJ).1 (a _ (dB KJ))
  intro a x hx;obtain⟨k,KJ,rfl⟩:=a5d.1 hx;have:=(hk k KJ).2 (a k KJ);rw[rZ KJ]at this;exact this
 rw[FP];cases jZ (bG (cLk d i) (fB d i).aA.length)<;>rfl
theorem ag4{d:Dg}(h:Ba d)(he:d.aK.length<=ah)(hf:vk d.ay)(ho:jW d.ay.length d.aB=true):(dS d.aj.length).all (Gi (yX d))=jZ (bG (cLn d) d.aj.length):=by
 have akM:∀i,cLn d i=false->(fB d i).var∈d.aB:=fun i hc=>by
  unfold cLn at hc;split at hc
  .cases hc
  rename_i e;exact lX ho (JI hf (by simpa using e))
 have key:∀i,i<=d.aj.length->((∀j,j<i->Gi (yX d) j=true)↔∀j,j<i->cLn d j=false):=by
  intro i
  induction i with
  |zero=>intro _;exact⟨fun _ j hj=>absurd hj (by omega),fun _ j hj=>absurd hj (by omega)⟩
  |succ i ih=>
   intro hi;have ih:=ih (by omega);constructor
   .intro a;have b:=ih.1 fun j hj=>a j (by omega);intro j hj;by_cases hji:j<i
    .exact b j hji
    have:j=i:=(by omega);subst this;have:=a j (by omega);rw[adH h he (by omega) hf ho (fun k hk=>akM k (b k hk))]at this;simpa using this
   intro b j hj;by_cases hji:j<i
   .exact ih.2 (fun k hk=>b k (by omega)) j hji
   have:j=i:=(by omega);subst this;rw[adH h he (by omega) hf ho (fun k hk=>akM k (b k (by omega))),b j (by omega)];rfl
 rw[a5b,a4W,dL,<-key _ (a0P _)];constructor
 .intro a j hj;exact a _ (by unfold dS;rw[a0V];exact⟨j,a4P.2 hj,rfl⟩)
 intro a x hx;simp only[dS,a0V,a4P]at hx;obtain⟨k,hk,rfl⟩:=hx;exact a k hk
theorem ab2{d:Dg}(h:∀v∈d.aK,0<=v.f):d.aK.all qL=jZ (bG (cLe d) d.aK.length):=by
 rw[a5b,a4W,dL];have hg:∀k,(hk:k<d.aK.length)->d.aK.getD k V0=d.aK[k]:=fun k hk=>by simp[List.getD,a0q hk]
 constructor
 .intro a k hk;unfold cLe;rw[hg k hk,<-a7H (h _ (a4Z hk)),a _ (a4Z hk)];rfl
 intro a x hx;obtain⟨k,hk,rfl⟩:=a5d.1 hx;have:=a k hk;unfold cLe at this;rw[hg k hk,<-a7H (h _ hx)]at this;simpa using this
theorem JL{d:Dg}(h:Ba d)(he:d.aK.length<=ah):bH d=(if(bK d.ay d.aB != 0)=true then lo0 else yX d,aX d):=by
 unfold bH aX;split
 .rfl
 rename_i h1;have WX:=jw.1 (show bK d.ay d.aB=0 by simpa using h1);split
 .rfl
 unfold lW;rw[ab2 h.fault,ag4 h he WX.1 WX.2];cases e1:jZ (bG (cLe d) d.aK.length)
 .rfl
 cases e2:jZ (bG (cLn d) d.aj.length)
 .rfl
 have hv:∀r,gu r d.aj.length->(au d r).var∈d.aB:=fun r hr=>by
  have:=dL.1 e2 r.toNat (by have:=hr.1;have:=hr.2;omega);unfold cLn at this;split at this
  .cases this
  rename_i e;exact lX WX.2 (JI WX.1 (by simpa using e))
 rw[a7J h he hv];simp only[a9t,a2S,a3T,a2u];cases iP d d.root d.aj.length<;>rfl
open Go Tw Pv bP
def kV:oO X0 Qp 39 V where
 pv x:=.agg x.ps
 tv x:=x.tv
 v x:=.agg #[.int .u8 x.f,.int .i64 x.n]
 hp _:=rfl
 ht _:=rfl
 hc em x:=by kernel_rfl
 hf x l:=a1K afQ (fun a b=>a1V 9998 a b) x l
 hk:=a1M afQ fun a b=>a1V 9998 a b
def kI:oO X0 Qp 3 Int where
 pv x:=.int .i64 x
 tv x:=.int .i64 x
 v x:=.int .i64 x
 hp _:=rfl
 ht _:=rfl
 hc em x:=by kernel_rfl
 hf x l:=afB a3R x l
 hk:=afC a3R
abbrev zQ(E:List V):List (V×PV X0.Γ):=E.zipIdx.map fun e=>(e.1,.int .i64 (e.2:Nat))
abbrev mkC(a b:LI0)(e n:Nat)(r:Int):PB aG:=.cells [.dF 3 a false,.dF 3 b false,.own 0,.own 1,.own e,.own n,.int .i64 r,.map 2,.map 3]
abbrev QE(l:List V):PB aG:=.list false false 39 l
abbrev QF(l:List Br):PB aG:=.list false false 105 l
abbrev MK(a b:LI0)(E:List V)(nd:List Br)(r:Int)(nm:List (PV aG×PV aG)):List (PB aG):=[.list false false 3 a,.list false false 3 b,.map (kV.es (zQ E)),.map nm,mkC a b 5 6 r,QE E,QF nd]
abbrev MK'(a b:LI0)(E:List V)(nd:List Br)(r:Int)(nm:List (PV aG×PV aG)):List (PB aG):=[.list false false 3 a,.list false false 3 b,.map (kV.es (zQ E)),.map nm,mkC a b 7 8 r,.gone,.gone,QE E,QF nd]
theorem TR(E:List V):(zQ E).map (·.1)=E:=by unfold zQ;rw[a6B];show E.zipIdx.map (·.1)=E;simp
theorem a7K(E:List V)(v:V):zQ (E++[v])=zQ E++[(v,.int .i64 (E.length:Nat))]:=by unfold zQ;rw[List.zipIdx_append,a4J];simp
theorem a7L{E:List V}{v:V}(h:v∈E):(v,(.int .i64 (E.idxOf v:Nat):PV X0.Γ))∈zQ E:=by unfold zQ;rw[a0V];have hl:=a5a.2 h;exact⟨(v,E.idxOf v),by rw[a9O];simp[a0q hl],rfl⟩
def fU(E:List V)(v:V):List V:=if v∈E then E else E++[v]
theorem Vt{E:List V}{v:V}(h:E.Nodup):(fU E v).Nodup:=by
 unfold fU;split
 .exact h
 rename_i hn;rw[a9l];exact⟨h,by simp,fun x hx y hy=>by rw[a1S]at hy;subst hy;intro e;subst e;exact hn hx⟩
theorem apU{n:Nat}(hO:Ok n DN){a b:LI0}{E:List V}{nd:List Br}{r:Int}{nm:List (PV aG×PV aG)}(v:V)(hE:E.Nodup)(hl:E.length+1<=ah):iJ (n+1) (.fn 196 [] []) [.ptr 4 0 9,.agg v.ps] (MK a b E nd r nm) (.int .i64 (i64.wrap (-1-(E.idxOf v:Nat)))) (MK' a b (fU E v) nd r nm):=by
 by_cases h:v∈E
 .rw[show fU E v=E from a0F h];have hf:qC X0 Qp 39 (kV.es (zQ E)) v.tv (.int .i64 (E.idxOf v:Nat)):=kV.found (by rw[TR];exact hE) (a7L h);exact dG.gs hX (nH hX hO (first:=[]) (cap:=[]) (v:=.int .i64 (i64.wrap (-1-(E.idxOf v:Nat)))) (H1:=MK a b E nd r nm) (by kernel_rfl) (.c (.int .i64 (E.idxOf v:Nat)) [] hf (.b (rfl:(!true)=false) .er))) [.mv 5,.mv 6] rfl
 rw[show fU E v=E++[v]from a0E h,a9b h];have hf:nY X0 Qp 39 (kV.es (zQ E)) v.tv:=kV.fresh (by rw[TR];exact h);have em:kV.es (zQ (E++[v]))=kV.es (zQ E)++[(.agg v.ps,.int .i64 (E.length:Nat))]:=by rw[a7K];exact a4J ..
 show dG X0 Qp _ _ _ _ _ [_,_,.map (kV.es (zQ (E++[v]))),_,_,_,_,_,_];rw[em];exact dG.gs hX (nH hX hO (first:=[]) (cap:=[]) (v:=.int .i64 (i64.wrap (-1-(E.length:Nat)))) (H1:=[.list false false 3 a,.list false false 3 b,.map (kV.es (zQ E)++[(.agg v.ps,.int .i64 (E.length:Nat))]),.map nm,mkC a b 8 6 r,.gone,QF nd,.list true true 39 [v],QE (E++[v])]) (by kernel_rfl) (.a .calm (.o hf (.b (rfl:(!false)=true) (.a .calm (.o (kV.ck v) (.o hf (.o (show E.length+[v].length<=ah by simpa using hl) .er)))))))) [.mv 6,.gc [8,9]] rfl
open Go Tw Pv bP
abbrev oI(k ex:Bool)(l:LI0):PB aG:=.list k ex 3 l
abbrev wOI(f:Nat)(a c:List (PV aG))(k ex:Bool)(R:List (PB aG))(l:LI0)(i:Int)(x:List (Nat×PE aG)):aU aG:=⟨[(0,.val (.own 0)),(1,.val (.fn f a c)),(7,xi l.length),(8,xi i)]++x,[],oI k ex l::R⟩
def zOI(f:Nat)(a c:List (PV aG))(k ex:Bool)(R:List (PB aG))(l:LI0):Unit⊕(Nat×Int×Unit)->Ex×aU aG
 |.inl _=>(.exit 0,wOI f a c k ex R l l.length [(9,xl false)])
 |.inr r=>(.ret,⟨[(4,xi r.1)],[],oI k ex l::R⟩)
theorem qoI{n f:Nat}{a c:List (PV aG)}{ko ex:Bool}{R:List (PB aG)}{g:Int->Bool}(l:LI0)(hf:∀x∈l,iJ n (.fn f a c) [.int .i64 x] (oI ko ex l::R) (.bool (g x)) (oI ko ex l::R))(hl:l.length<=ah):iJ (n+1) (.fn 218 [] []) [.own 0,.fn f a c] (oI ko ex l::R) (iA.put (rU g l)) (oI ko ex l::R):=by
 have lp:Nk n 218 0 (R.length+1) (wOI f a c ko ex R l 0 []) (zOI f a c ko ex R l (mX (qc g) l 0 ())).1 (zOI f a c ko ex R l (mX (qc g) l 0 ())).2:=
  Xv (st:=fun i _=>wOI f a c ko ex R l i []) (0:Int) (fun _ _=>True) (by kernel_rfl) hl TK trivial (fun k s n hk _ ih=>aN gG (.b (bD hk) (.o (aH hk) (.k (hf (l.getD k (0:Int)) (dB hk)) (.ls (.ou nofun) (.nx (ih _ trivial))))))) (fun s _=>aN gG (.b (fD l.length) (.ou nofun)))
 exact jr gG (first:=[]) (cap:=[]) (.szh (fun h=>.w (kM lp () h) .sr) (fun h=>.w (kN lp (0,0,()) h) .sr))
theorem qoC{n f:Nat}{a c:List (PV aG)}{ko ex:Bool}{R:List (PB aG)}{g:Int->Bool}(l:LI0)(hf:∀x∈l,iJ n (.fn f a c) [.int .i64 x] (oI ko ex l::R) (.bool (g x)) (oI ko ex l::R))(hl:l.length<=ah):iJ (n+2) (.fn 181 [] []) [.own 0,.fn f a c] (oI ko ex l::R) (tA.put (l.any g)) (oI ko ex l::R):=by have h1:=qoI l hf hl;have h2:=Eu g l;rw[<-h2];exact jr gG (first:=[]) (cap:=[]) (.k h1 .sr)
abbrev Hk(k ex:Bool)(l:LI0):List (PB aG):=[oI k ex l,.cells [.own 0]]
theorem qoA{n f:Nat}{ko ex:Bool}{g:Int->Bool}(l:LI0)(hf:∀x∈l,iJ n (.fn f [] [.ptr 1 0 1]) [.int .i64 x] (Hk ko ex l) (tA.put (g x)) (Hk ko ex l))(hl:l.length<=ah):iJ (n+4) (.fn 191 [] []) [.own 0,.fn f [] [.ptr 1 0 1]] (Hk ko ex l) (tA.put (l.all g)) (Hk ko ex l):=by
 have h1:∀x∈l,iJ (n+1) (.fn 221 [] [.ptr 2 0 1]) [.int .i64 x] (Hk ko ex l++[.cells [.fn f [] [.ptr 1 0 1]]]) (tA.put (!(g x))) (Hk ko ex l++[.cells [.fn f [] [.ptr 1 0 1]]]):=fun x hx=>
  jr gG (first:=[]) (.fr [0,1] (hf x hx) .sr)
 have h2:=qoC (R:=[.cells [.own 0],.cells [.fn f [] [.ptr 1 0 1]]]) l h1 hl;rw[<-Ez l g];exact dG.drop hX (Dk hX gG (first:=[]) (cap:=[]) (H1:=Hk ko ex l++[.cells [.fn f [] [.ptr 1 0 1]]]) (by kernel_rfl) (.k h2 .sr)) rfl rfl
theorem a7M{n:Nat}{ko ex:Bool}(l:LI0)(hl:l.length<=ah):iJ (n+5) (.fn 191 [] []) [.own 0,.fn 224 [] [.ptr 1 0 1]] (Hk ko ex l) (tA.put (l.all fun x=>x==l.getD 0 0)) (Hk ko ex l):=
 qoA (n:=n+1) l (fun x hx=>jr gG (first:=[]) (.o (show gu 0 l.length from⟨by omega,by have:=List.length_pos_of_mem hx;omega⟩) .sr)) hl
theorem a7N:∀l:LI0,l.length=12->∃a0 a1 a2 a3 a4 a5 a6 a7 a8 a9 a10 a11:Int,l=[a0,a1,a2,a3,a4,a5,a6,a7,a8,a9,a10,a11]
 | [a0,a1,a2,a3,a4,a5,a6,a7,a8,a9,a10,a11],_=>⟨a0,a1,a2,a3,a4,a5,a6,a7,a8,a9,a10,a11,rfl⟩
 | [],h=>by simp at h
 | [_],h=>by simp at h
 | [_,_],h=>by simp at h
 | [_,_,_],h=>by simp at h
 | [_,_,_,_],h=>by simp at h
 | [_,_,_,_,_],h=>by simp at h
 | [_,_,_,_,_,_],h=>by simp at h
 | [_,_,_,_,_,_,_],h=>by simp at h
 | [_,_,_,_,_,_,_,_],h=>by simp at h
 | [_,_,_,_,_,_,_,_,_],h=>by simp at h
 | [_,_,_,_,_,_,_,_,_,_],h=>by simp at h
 | [_,_,_,_,_,_,_,_,_,_,_],h=>by simp at h
 |_::_::_::_::_::_::_::_::_::_::_::_::_::_,h=>by simp at h
abbrev Ky:=Int×{l:LI0 // l.length=12}
abbrev Ky.l(x:Ky):LI0:=x.1::x.2.val
theorem PZ:∀l:LI0,iO (Γ:=aG) (l.map fun x=>PV.int .i64 x)=some (l.map fun x=>TV.int .i64 x)
 | []=>rfl
 |a::l=>by simp only[a4M,iO,ru,PZ l]
theorem TT:∀l:LI0,TV.Ua (l.map fun x=>TV.int .i64 x)=some (l.map fun x=>Value.int .i64 x)
 | []=>rfl
 |a::l=>by simp only[a4M,TV.Ua,TV.toC,TT l]
theorem ag5 : Tryz.prog.underlying 223 = some (.struct #[⟨"choice", 3, 0, false, "", "mist/node", 0⟩, ⟨"kids", 221, 1, false, "", "mist/node", 8⟩]) := by kernel_rfl
theorem adJ(d:Nat)(a b:Ky):aC Qp (Op.equalIn (d+3) 223 (.agg (Dw .i64 a.l)) (.agg (Dw .i64 b.l)))=some (decide (a=b)):=by
 obtain⟨a1,a2,ha⟩:=a;obtain⟨b1,b2,hb⟩:=b;rw[yw (d+2) 223 _ _ _ ag5 (by kernel_rfl)];have gI:aC Qp (isAgg 3)=some false:=by kernel_rfl
 have gA:aC Qp (isAgg 221)=some true:=by kernel_rfl
 have sA:aC Qp (sizeOf 221)=some 12:=by kernel_rfl
 have sI:aC Qp (sizeOf 3)=some 1:=by kernel_rfl
 have p0:∀x l,aC Qp (part 3 (Dw .i64 (x::l)) 0)=some (.int .i64 x):=fun x l=>Dv gI (Po (l:=x::l) (by simp));have p1:∀x l,l.length=12->aC Qp (part 221 (Dw .i64 (x::l)) 1)=some (.agg (Dw .i64 l)):=fun x l h=>by
  obtain⟨a0,a1,a2,a3,a4,a5,a6,a7,a8,a9,a10,a11,rfl⟩:=a7N l h
  kernel_rfl
 have q1 := oM (f := ⟨"choice", 3, 0, false, "", "mist/node", 0⟩) (fs := [⟨"kids", 221, 1, false, "", "mist/node", 8⟩]) (by decide) (p0 a1 a2) (p0 b1 b2) (rG (d + 1) _ .i64 _ a1 b1 a3R);have q2 := oM (f := ⟨"kids", 221, 1, false, "", "mist/node", 8⟩) (fs := []) (by decide) (p1 a1 a2 ha) (p1 b1 b2 hb) (BL d (k := .i64) (t := 221) (by kernel_rfl) sI a3R gI ha hb);rw[q1,q2];rw[show aC Qp (Op.eqFields (d+2) (Dw .i64 (a1::a2)) (Dw .i64 (b1::b2)) [])=some true from rfl];by_cases h1:a1=b1<;>by_cases h2:a2=b2<;>simp[h1,h2]
def kK:oO X0 Qp 223 Ky where
 pv x:=.agg (x.l.map fun i=>.int .i64 i)
 tv x:=.agg (x.l.map fun i=>.int .i64 i)
 v x:=.agg (Dw .i64 x.l)
 hp x:=congrArg (Option.map TV.agg) (PZ x.l)
 ht x:=congrArg (Option.map fun vs:List LI3=>Value.agg vs.toArray) (TT x.l)
 hc em x:=by
  obtain⟨c,l,h⟩:=x;obtain⟨a0,a1,a2,a3,a4,a5,a6,a7,a8,a9,a10,a11,rfl⟩:=a7N l h
  kernel_rfl
 hf x l:=a1K ag5 (fun a b=>adJ 9997 a b) x l
 hk:=a1M ag5 (fun a b=>adJ 9997 a b)
open Go Tw Pv bP
def Io(l:LI0):LI0:=(l++[0,0,0,0,0,0,0,0,0,0,0,0]).take 12
theorem a7O(l:LI0):(Io l).length=12:=by unfold Io;simp
def uh(c:Int)(ks:LI0):Ky:=(c,⟨Io ks,a7O ks⟩)
abbrev Ci(b:Br):Ky:=uh b.var b.aA
abbrev yU(nd:List Br):List (Ky×PV X0.Γ):=nd.zipIdx.map fun e=>(Ci e.1,.int .i64 (e.2:Nat))
theorem TU(nd:List Br):(yU nd).map (·.1)=nd.map Ci:=by unfold yU;rw[a6B];show nd.zipIdx.map (Ci∘fun e=>e.1)=_;rw[<-a6B];simp
theorem a7P(nd:List Br)(b:Br):yU (nd++[b])=yU nd++[(Ci b,.int .i64 (nd.length:Nat))]:=by unfold yU;rw[List.zipIdx_append,a4J];simp
theorem a7Q{nd:List Br}{k:Ky}(h:k∈nd.map Ci):(k,(.int .i64 ((nd.map Ci).idxOf k:Nat):PV X0.Γ))∈yU nd:=by
 have hl:=a5a.2 h;have RF:(nd.map Ci).idxOf k<nd.length:=by simpa using hl
 unfold yU;rw[a0V];refine⟨(nd[(nd.map Ci).idxOf k],(nd.map Ci).idxOf k),by rw[a9O];simp[a0q RF],?_⟩;have:=a9i hl;rw[a9s]at this;show(Ci _,_)=_;rw[this]
def dD(nd:List Br)(c:Int)(ks:LI0):List Br:=if(ks.all fun x=>x==ks.getD 0 0)=true then nd else if uh c ks∈nd.map Ci then nd else nd++[⟨c,ks⟩]
def eG(nd:List Br)(c:Int)(ks:LI0):Int:=if(ks.all fun x=>x==ks.getD 0 0)=true then ks.getD 0 0 else((nd.map Ci).idxOf (uh c ks):Nat)
abbrev MN(a b:LI0)(E:List V)(nd:List Br)(r:Int):List (PB aG):=MK a b E nd r (kK.es (yU nd))
abbrev MNg(a b:LI0)(E:List V)(nd:List Br)(r:Int)(nm:List (PV aG×PV aG)):List (PB aG):=[.list false false 3 a,.list false false 3 b,.map (kV.es (zQ E)),.map nm,mkC a b 8 9 r,.gone,.gone,.gone,QE E,QF nd]
abbrev MN'(a b:LI0)(E:List V)(nd:List Br)(r:Int):List (PB aG):=MNg a b E nd r (kK.es (yU nd))
theorem ag6{n:Nat}(hO:Ok (n+5) DN){a b:LI0}{E:List V}{nd:List Br}{r:Int}(c:Int)(ks:LI0)(hk:1<=ks.length∧ks.length<=12)(hf:(ks.all fun x=>x==ks.getD 0 0)=true):iJ (n+6) (.fn 198 [] []) [.ptr 4 0 9,.int .i64 c,.own 7] (MN a b E nd r++[oI true true ks]) (.int .i64 (ks.getD 0 0)) (MN' a b E nd r):=by have h1:=nH hX hO (first:=[]) (cap:=[]) (xs:=[.ptr 4 0 9,.int .i64 c,.own 7]) (H:=MN a b E nd r++[oI true true ks]) (v:=.int .i64 (ks.getD 0 0)) (H1:=MN a b E nd r++[oI true true ks,.cells [.own 7]]) (f:=198) (by kernel_rfl) (.fr [7,8] (a7M (n:=n) (ko:=true) (ex:=true) ks (m12 hk.2)) (.b hf (.o (show gu 0 ks.length from⟨by omega,by omega⟩) .er)));exact dG.forget (dG.gs hX h1 [.mv 5,.mv 6,.gc [9,10]] rfl) 7
abbrev a7R(c:Int)(ks:LI0):PB aG:=.cells ((Ky.l (uh c ks)).map fun i=>.int .i64 i)
theorem ag7{n:Nat}(hO:Ok (n+5) DN){a b:LI0}{E:List V}{nd:List Br}{r:Int}(c:Int)(ks:LI0)(hk:1<=ks.length∧ks.length<=12)(hf:(ks.all fun x=>x==ks.getD 0 0)=false)(hN:(nd.map Ci).Nodup)(hm:uh c ks∈nd.map Ci):iJ (n+6) (.fn 198 [] []) [.ptr 4 0 9,.int .i64 c,.own 7] (MN a b E nd r++[oI true true ks]) (.int .i64 ((nd.map Ci).idxOf (uh c ks):Nat)) (MN' a b E nd r):=by
 have hF:qC X0 Qp 223 (kK.es (yU nd)) (kK.tv (uh c ks)) (.int .i64 ((nd.map Ci).idxOf (uh c ks):Nat)):=kK.found (by rw[TU];exact hN) (a7Q hm);have h1:iJ (n+6) (.fn 198 [] []) [.ptr 4 0 9,.int .i64 c,.own 7] (MN a b E nd r++[oI true true ks]) (.int .i64 ((nd.map Ci).idxOf (uh c ks):Nat)) (MN a b E nd r++[oI true true ks,.cells [.own 7],a7R c ks]):=by generalize (nd.map Ci).idxOf (uh c ks)=j at hF ⊢;generalize yU nd=nm at hF ⊢;obtain⟨k1,k2⟩:=hk;rcases ks with _|⟨x0,_|⟨x1,_|⟨x2,_|⟨x3,_|⟨x4,_|⟨x5,_|⟨x6,_|⟨x7,_|⟨x8,_|⟨x9,_|⟨x10,_|⟨x11,_|⟨x12,_⟩⟩⟩⟩⟩⟩⟩⟩⟩⟩⟩⟩⟩<;>first|(exfalso;simp at k1;done)|(exfalso;simp at k2;omega)|(exact fA hO (first:=[]) (cap:=[]) (.fr [7,8] (a7M (n:=n) (ko:=true) (ex:=true) _ (m12 k2)) (.b hf (.c (.int .i64 (j:Nat)) [] hF (.b (rfl:(!true)=false) .er)))))
 exact dG.forget (dG.gs hX (dG.forget h1 9) [.mv 5,.mv 6,.gc [10,11]] rfl) 7
theorem ag8{n:Nat}(hO:Ok (n+5) DN){a b:LI0}{E:List V}{nd:List Br}{r:Int}(c:Int)(ks:LI0)(hk:1<=ks.length∧ks.length<=12)(hf:(ks.all fun x=>x==ks.getD 0 0)=false)(hm:uh c ks∉nd.map Ci)(hl:nd.length+1<=ah):iJ (n+6) (.fn 198 [] []) [.ptr 4 0 9,.int .i64 c,.own 7] (MN a b E nd r++[oI true true ks]) (.int .i64 (nd.length:Nat)) (MN' a b E (nd++[⟨c,ks⟩]) r):=by
 have hF:nY X0 Qp 223 (kK.es (yU nd)) (kK.tv (uh c ks)):=kK.fresh (by rw[TU];exact hm);have hC:=kK.ck (uh c ks);have hL:nd.length+([⟨c,ks⟩]:List Br).length<=ah:=by simpa using hl
 have em:kK.es (yU (nd++[⟨c,ks⟩]))=kK.es (yU nd)++[(kK.pv (uh c ks),.int .i64 (nd.length:Nat))]:=by rw[a7P];exact a4J ..
 show dG X0 Qp _ _ _ _ _ (MNg a b E (nd++[⟨c,ks⟩]) r (kK.es (yU (nd++[⟨c,ks⟩]))));rw[em];have h1:iJ (n+6) (.fn 198 [] []) [.ptr 4 0 9,.int .i64 c,.own 7] (MN a b E nd r++[oI true true ks]) (.int .i64 (nd.length:Nat)) [.list false false 3 a,.list false false 3 b,.map (kV.es (zQ E)),.map (kK.es (yU nd)++[(kK.pv (uh c ks),.int .i64 (nd.length:Nat))]),mkC a b 5 11 r,QE E,.gone,.gone,.cells [.own 7],a7R c ks,.list true true 105 [⟨c,ks⟩],QF (nd++[⟨c,ks⟩])]:=by generalize yU nd=nm at hF ⊢;obtain⟨k1,k2⟩:=hk;rcases ks with _|⟨x0,_|⟨x1,_|⟨x2,_|⟨x3,_|⟨x4,_|⟨x5,_|⟨x6,_|⟨x7,_|⟨x8,_|⟨x9,_|⟨x10,_|⟨x11,_|⟨x12,_⟩⟩⟩⟩⟩⟩⟩⟩⟩⟩⟩⟩⟩<;>first|(exfalso;simp at k1;done)|(exfalso;simp at k2;omega)|(exact fA hO (first:=[]) (cap:=[]) (.fr [7,8] (a7M (n:=n) (ko:=true) (ex:=true) _ (m12 k2)) (.b hf (.q (.bool false) hF (.b (rfl:(!false)=true) (.q (.bool false) hC (.o hF (.o hL .er))))))))
 exact dG.gs hX (dG.forget (dG.forget h1 9) 10) [.mv 5,.gc [12,11]] rfl
theorem akP{n:Nat}(hO:Ok (n+5) DN){a b:LI0}{E:List V}{nd:List Br}{r:Int}(c:Int)(ks:LI0)(hk:1<=ks.length∧ks.length<=12)(hN:(nd.map Ci).Nodup)(hl:nd.length+1<=ah):iJ (n+6) (.fn 198 [] []) [.ptr 4 0 9,.int .i64 c,.own 7] (MN a b E nd r++[oI true true ks]) (.int .i64 (eG nd c ks)) (MN' a b E (dD nd c ks) r):=by
 unfold eG dD;cases hf:ks.all fun x=>x==ks.getD 0 0
 .rw[a0E (by simp),a0E (by simp)];by_cases hm:uh c ks∈nd.map Ci
  .rw[a0F hm];exact ag7 hO c ks hk hf hN hm
  rw[a0E hm,a9b hm,a4S];exact ag8 hO c ks hk hf hm hl
 rw[a0F rfl,a0F rfl];exact ag6 hO c ks hk hf
theorem Rf{nd:List Br}{c:Int}{ks:LI0}(h:(nd.map Ci).Nodup):((dD nd c ks).map Ci).Nodup:=by
 unfold dD;split
 .exact h
 split
 .exact h
 rename_i hn;rw[a4J,a9l];exact⟨h,by simp,fun x hx y hy=>by simp at hy;subst hy;intro e;subst e;exact hn hx⟩
open Go Tw Pv bP
theorem apW{n:Nat}(hO:Ok n DN)(a b:LI0)(ha:a.length<=ah)(hb:b.length<=ah):iJ (n+1) (.fn 194 [] []) [.agg [.dF 3 a false,.dF 3 b false]] [] (.ptr 4 0 9) (MN a b [] [] 0):=
 dG.gs hX (nH hX hO (first:=[]) (cap:=[]) (v:=.ptr 4 0 9) (H1:=[.list false false 3 a,.list false false 3 b,.map [],.map [],.cells [.dF 3 a false,.dF 3 b false,.own 0,.own 1,.nil .aP,.nil .aP,.int .i64 0,.map 2,.map 3]]) (by kernel_rfl) (.o ha (.o hb .er))) [.UQ 4 4 39,.UQ 4 5 105] rfl
structure Cs where
 e:List V
 n:List Br
 k:List (Int×Int)
abbrev LQ(k:List (Int×Int)):List (Int×PV X0.Γ):=k.map fun p=>(p.1,.int .i64 p.2)
abbrev pC:List (PV aG):=[.ptr 8 0 1,.ptr 7 0 7,.ptr 10 0 1,.ptr 11 0 1]
abbrev adK(l:Lo)(k:List (Int×Int)):List (PB aG):=[.aF l.ps,.aF [.ptr 4 0 9],.map (kI.es (LQ k)),.aF [.map 9],.aF [.fn 195 [] pC]]
abbrev HC(l:Lo)(x:Cs):List (PB aG):=MN l.s l.o x.e x.n 0++adK l x.k
abbrev HC'(l:Lo)(x:Cs):List (PB aG):=[.list false false 3 l.s,.list false false 3 l.o,.map (kV.es (zQ x.e)),.map (kK.es (yU x.n)),mkC l.s l.o 12 13 0,.gone,.gone]++adK l x.k++[QE x.e,QF x.n]
def oq(d:Dg)(r:Int):V:=d.aK.getD (i64.wrap (-1-r)).toNat V0
def Vu(k:List (Int×Int))(r:Int):Int:=((k.find? fun p=>p.1==r).getD (0,0)).2
def bU(d:Dg):Nat->Int->Cs->Int×Cs
 | 0,_,x=>(0,x)
 |F+1,r,x=>if decide (r<0)=true then(i64.wrap (-1-(x.e.idxOf (oq d r):Nat)),⟨fU x.e (oq d r),x.n,x.k⟩)else if decide (r∈x.k.map (·.1))=true then(Vu x.k r,x)
  else
   let y:=aS (fun j (y:LI0×Cs)=>(y.1.set j (bU d F ((au d r).aA.getD j 0) y.2).1,(bU d F ((au d r).aA.getD j 0) y.2).2)) (au d r).aA.length 0 (List.replicate (au d r).aA.length 0,x)
   (eG y.2.n (au d r).var y.1,⟨y.2.e,dD y.2.n (au d r).var y.1,y.2.k++[(r,eG y.2.n (au d r).var y.1)]⟩)
structure DR(d:Dg)(x:Cs):Prop where
 e1:x.e.Nodup
 e2:∀v∈x.e,v∈d.aK
 n1:(x.n.map Ci).Nodup
 n2:x.n.length<=x.k.length
 k1:(x.k.map (·.1)).Nodup
 k2:∀a∈x.k.map (·.1),gu a d.aj.length
theorem DR.JJ{d:Dg}{x:Cs}(h:DR d x):x.k.length<=d.aj.length:=by have:=zO _ _ h.k1 h.k2;simpa using this
theorem DR.akQ{d:Dg}{x:Cs}(h:DR d x):x.e.length<=d.aK.length:=aee h.e1 h.e2
theorem Y9(nd:List Br)(c:Int)(ks:LI0):(dD nd c ks).length<=nd.length+1:=by
 unfold dD;split
 .omega
 split
 .omega
 simp
theorem a2f{k:List (Int×Int)}{r:Int}(h:r∈k.map (·.1)):(r,Vu k r)∈k:=by
 rw[a0V]at h;obtain⟨p,hp,rfl⟩:=h;unfold Vu;cases e:k.find? fun q=>q.1==p.1 with
 |none=>have:=aef.1 e p hp;simp at this
 |some q=>
  have h1:=aeV e;have h2:=List.find?_some e;simp at h2;rw[<-h2];exact h1
theorem a7S{d:Dg}{r:Int}(h:gu (i64.wrap (-1-r)) d.aK.length):oq d r∈d.aK:=by
 have h1:(i64.wrap (-1-r)).toNat<d.aK.length:=by have:=h.1;have:=h.2;omega
 unfold oq;simp[List.getD,a0q h1]
theorem Ip{d:Dg}(P:Cs->Prop){F:Nat}{r:Int}{x:Cs}(h:P x)(hs:∀j y,j<(au d r).aA.length->P y->P (bU d F ((au d r).aA.getD j 0) y).2) :
  (aS (fun j (y:LI0×Cs)=>(y.1.set j (bU d F ((au d r).aA.getD j 0) y.2).1,(bU d F ((au d r).aA.getD j 0) y.2).2)) (au d r).aA.length 0 (List.replicate (au d r).aA.length 0,x)).1.length=(au d r).aA.length∧P (aS (fun j (y:LI0×Cs)=>(y.1.set j (bU d F ((au d r).aA.getD j 0) y.2).1,(bU d F ((au d r).aA.getD j 0) y.2).2)) (au d r).aA.length 0 (List.replicate (au d r).aA.length 0,x)).2:=
 cO (g:=fun j (y:LI0×Cs)=>(y.1.set j (bU d F ((au d r).aA.getD j 0) y.2).1,(bU d F ((au d r).aA.getD j 0) y.2).2)) (m:=(au d r).aA.length) (k:=0) (s:=(List.replicate (au d r).aA.length 0,x)) (fun _ y=>y.1.length=(au d r).aA.length∧P y.2) ⟨by simp,h⟩ (fun j y _ hj hy=>⟨by simp[hy.1],hs j y.2 (by omega) hy.2⟩)
theorem Ya{d:Dg}:∀(F:Nat) (r s:Int) (x:Cs),r<s->s∉x.k.map (·.1)->0<=s->(∀i,i<d.aj.length->∀k,k<(fB d i).aA.length->(fB d i).aA.getD k 0<i)->(0<=r->gu r d.aj.length)->s∉(bU d F r x).2.k.map (·.1)
 | 0,_,_,_,_,h,_,_,_=>h
 |F+1,r,s,x,hr,h,h0,hk,hn=>by
  unfold bU;by_cases c:r<0
  .rw[a0F (by simpa using c)];exact h
  rw[a0E (by simpa using c)];split
  .exact h
  have hi:=hn (by omega);have Eb:∀k,k<(au d r).aA.length->(au d r).aA.getD k 0<r:=fun k kQ=>by obtain⟨i1,i2⟩:=hi;have h9:(au d r).aA.getD k 0<(r.toNat:Int):=hk r.toNat (by omega) k kQ;omega
  have:=(Ip (d:=d) (fun y=>s∉y.k.map (·.1)) (F:=F) (r:=r) h (fun j y hj hy=>Ya F _ s y (by have:=Eb j hj;omega) hy h0 hk fun h5=>⟨h5,by have:=hi.2;have:=Eb j hj;omega⟩)).2;simp only[a4J,a3P,ae6];exact⟨this,by simp;omega⟩
theorem Q5{d:Dg}(h:BX d):∀(F:Nat) (r:Int) (x:Cs),DR d x->jD d r d.aj.length->DR d (bU d F r x).2
 | 0,_,_,hx,_=>hx
 |F+1,r,x,hx,hr=>by
  unfold bU;by_cases c:r<0
  .rw[a0F (by simpa using c)];refine⟨Vt hx.e1,fun v hv=>?_,hx.n1,hx.n2,hx.k1,hx.k2⟩;have hv:v∈fU x.e (oq d r):=hv;unfold fU at hv;split at hv
   .exact hx.e2 v hv
   rcases a3P.1 hv with hv|hv
   .exact hx.e2 v hv
   rw[a1S.1 hv];exact a7S (hr.2 c)
  rw[a0E (by simpa using c)];split
  .exact hx
  rename_i c2;have aT:r.toNat<d.aj.length:=by have:=hr.1;omega
  have BZ:∀k,k<(au d r).aA.length->(au d r).aA.getD k 0<r:=fun k kQ=>by have h9:=(h.zN r.toNat aT k kQ).1;have h9:(au d r).aA.getD k 0<(r.toNat:Int):=h9;omega
  have hb:=(Ip (d:=d) (fun y=>DR d y∧r∉y.k.map (·.1)) (F:=F) (r:=r) ⟨hx,by simpa using c2⟩ (fun j y hj hy=>by have Le:jD d ((au d r).aA.getD j 0) d.aj.length:=⟨by have:=BZ j hj;have:=hr.1;omega,(h.zN r.toNat aT j hj).2⟩;refine⟨Q5 h F _ y hy.1 Le,Ya F _ r y (BZ j hj) hy.2 (by omega) (fun i hi k hk=>(h.zN i hi k hk).1) (fun h5=>⟨h5,by have:=Le.1;omega⟩)⟩)).2
  obtain⟨hb,yg⟩:=hb;refine⟨hb.e1,hb.e2,Rf hb.n1,?_,?_,?_⟩
  .have:=Y9 (aS (fun j (y:LI0×Cs)=>(y.1.set j (bU d F ((au d r).aA.getD j 0) y.2).1,(bU d F ((au d r).aA.getD j 0) y.2).2)) (au d r).aA.length 0 (List.replicate (au d r).aA.length 0,x)).2.n (au d r).var (aS (fun j (y:LI0×Cs)=>(y.1.set j (bU d F ((au d r).aA.getD j 0) y.2).1,(bU d F ((au d r).aA.getD j 0) y.2).2)) (au d r).aA.length 0 (List.replicate (au d r).aA.length 0,x)).1;have:=hb.n2;simp only[a1U,a4H];omega
  .simp only[a4J,a4M,abL];exact wZ hb.k1 yg
  intro a ha;simp only[a4J,a3P,a4M,abL,a1S]at ha;rcases ha with ha|rfl
  .exact hb.k2 a ha
  exact⟨by omega,by omega⟩
open Go Tw Pv bP
abbrev hCl(l:Lo)(x:Cs)(ks:LI0):List (PB aG):=HC' l x++[oI true true ks]
abbrev wCl(l:Lo)(r:Int)(i:Int)(y:LI0×Cs)(x:List (Nat×PE aG)):aU aG:=⟨[(0,xi r),(1,.val (.ptr 8 0 1)),(3,.val (.ptr 10 0 1)),(4,.val (.ptr 11 0 1)),(9,.loc 0 0),(10,xo 14),(43,xL 3 (au l.d r).aA),(44,xi (au l.d r).aA.length),(45,xi i)]++x,[(au l.d r).ps],hCl l y.2 y.1⟩
theorem lCl{M:Nat}(hO:Ok M DN){d:Dg}{F:Nat}{r:Int}(hk:(au d r).aA.length<=12)(Q:Cs->Prop){x:Cs}(hx:Q x)(hq:∀j y,j<(au d r).aA.length->Q y->Q (bU d F ((au d r).aA.getD j 0) y).2)(hs:∀j y,j<(au d r).aA.length->Q y->dG X0 Qp (iE M) (.fn 195 [] pC) [.int .i64 ((au d r).aA.getD j 0)] (HC (yX d) y) (.int .i64 (bU d F ((au d r).aA.getD j 0) y).1) (HC' (yX d) (bU d F ((au d r).aA.getD j 0) y).2)) :
  Nk M 195 0 12 (wCl (yX d) r 0 (List.replicate (au d r).aA.length 0,x) []) (.exit 0) (wCl (yX d) r (au d r).aA.length (aS (fun j (y:LI0×Cs)=>(y.1.set j (bU d F ((au d r).aA.getD j 0) y.2).1,(bU d F ((au d r).aA.getD j 0) y.2).2)) (au d r).aA.length 0 (List.replicate (au d r).aA.length 0,x)) [(46,xl false)]):=by
 refine wY (σ:=LI0×Cs) (N:=(au d r).aA.length) (g:=fun j (y:LI0×Cs)=>(y.1.set j (bU d F ((au d r).aA.getD j 0) y.2).1,(bU d F ((au d r).aA.getD j 0) y.2).2)) (s0:=(List.replicate (au d r).aA.length 0,x)) (st:=fun k y=>wCl (yX d) r k y []) (fin:=fun y=>wCl (yX d) r (au d r).aA.length y [(46,xl false)]) (fun _ y=>y.1.length=(au d r).aA.length∧Q y.2) (by kernel_rfl) (m12 hk) ⟨by simp,hx⟩ (fun j y hj hy=>⟨by simp[hy.1],hq j y.2 hj hy.2⟩) (fun j y hj hy m e p g=>?_) (fun y _=>aN hO (.b (fD (au d r).aA.length) .ex));have h1:=hs j y.2 hj hy.2;have h2:gu j y.1.length:=aH (by rw[hy.1];exact hj);generalize bU d F ((au d r).aA.getD j 0) y.2=z at h1 g;obtain⟨v,z⟩:=z;exact aN hO (.b (bD hj) (.o (aH hj) (.fr [0,1,2,3,4,12,13,7,8,9,10,11] h1 (.o h2 (.goG [.gc [15,16,14]] g)))))
theorem EC(k:List (Int×Int)):(LQ k).map (·.1)=k.map (·.1):=by unfold LQ;rw[a6B];rfl
theorem apX{n:Nat}(hO:Ok n DN)(k:Int):iJ n (.fn 197 [] []) [.int .i64 k] [] (iA.put (i64.wrap (-1-k))) []:=
 nS.aaX hX (hO 197 [.int .i64 k] (iA.put (i64.wrap (-1-k))) [] [] (by kernel_rfl) (fun q hq=>by cases hq)) rfl rfl rfl rfl
theorem sCl{N:Nat}(hO:∀m,N<=m->Ok m DN){d:Dg}(h:BX d)(he:d.aK.length+1<=ah)(hn:d.aj.length+1<=ah)(h1k:∀i,i<d.aj.length->1<=(fB d i).aA.length):∀(F:Nat) (r:Int) (x:Cs),r+1<F->DR d x->jD d r d.aj.length->1<=F->dG X0 Qp (iE (N+F+6)) (.fn 195 [] pC) [.int .i64 r] (HC (yX d) x) (.int .i64 (bU d F r x).1) (HC' (yX d) (bU d F r x).2)
 | 0,r,x,_,_,_,h1=>by omega
 |F+1,r,x,hF,hx,hr,_=>by
  rw[show N+(F+1)+6=N+F+6+1 by omega];have yF:=hO (N+F+6) (by omega);have Gw:=hO (N+F+5) (by omega);unfold bU;by_cases c:r<0
  .have t0:decide (r<0)=true:=(by simpa using c);rw[a0F t0];have hi:gu (i64.wrap (-1-r)) d.aK.length:=hr.2 c;have hs:=apU Gw (a:=d.ay) (b:=d.aB) (E:=x.e) (nd:=x.n) (r:=0) (nm:=kK.es (yU x.n)) (oq d r) hx.e1 (by have:=hx.akQ;omega);exact fA yF (first:=[]) (.b t0 (.fr [] (apX yF r) (.o hi (.fr [0,1,2,3,4,5,6] hs .er))))
  have t0:decide (r<0)=false:=by simpa using c
  rw[a0E (by rw[t0];simp)];have aT:r.toNat<d.aj.length:=by have:=hr.1;omega
  by_cases c2:r∈x.k.map (·.1)
  .rw[a0F (by simpa using c2)];have hf:qC X0 Qp 3 (kI.es (LQ x.k)) (kI.tv r) (.int .i64 (Vu x.k r)):=kI.found (by rw[EC];exact hx.k1) (a0V.2 ⟨(r,Vu x.k r),a2f c2,rfl⟩);generalize Vu x.k r=v at hf ⊢;exact dG.gs hX (nH hX yF (first:=[]) (H1:=HC (yX d) x) (v:=.int .i64 v) (by kernel_rfl) (.b t0 (.c (.int .i64 v) [] hf (.b (rfl:true=true) .er)))) [.mv 5,.mv 6] rfl
  rw[a0E (by simpa using c2)];have BZ:∀k,k<(au d r).aA.length->(au d r).aA.getD k 0<r:=fun k kQ=>by have h9:=(h.zN r.toNat aT k kQ).1;have h9:(au d r).aA.getD k 0<(r.toNat:Int):=h9;omega
  have Le:∀j,j<(au d r).aA.length->jD d ((au d r).aA.getD j 0) d.aj.length:=fun j hj=>⟨by have:=BZ j hj;have:=hr.1;omega,(h.zN r.toNat aT j hj).2⟩;have KJ:(au d r).aA.length<=12:=h.JJ r.toNat aT;have hq:∀j y,j<(au d r).aA.length->(DR d y∧r∉y.k.map (·.1))->DR d (bU d F ((au d r).aA.getD j 0) y).2∧r∉(bU d F ((au d r).aA.getD j 0) y).2.k.map (·.1):=fun j y hj hy=>
   ⟨Q5 h F _ y hy.1 (Le j hj),Ya F _ r y (BZ j hj) hy.2 (by omega) (fun i hi k hk=>(h.zN i hi k hk).1) (fun h5=>⟨h5,by have:=(Le j hj).1;omega⟩)⟩
  have hl:=lCl yF (d:=d) (F:=F) (r:=r) KJ (fun y=>DR d y∧r∉y.k.map (·.1)) (x:=x) ⟨hx,c2⟩ hq (fun j y hj hy=>sCl hO h he hn h1k F _ y (by have:=BZ j hj;omega) hy.1 (Le j hj) (by omega));obtain⟨g1,g2,g3⟩:=Ip (d:=d) (fun y=>DR d y∧r∉y.k.map (·.1)) (F:=F) (r:=r) (x:=x) ⟨hx,c2⟩ hq;generalize aS (fun j (y:LI0×Cs)=>(y.1.set j (bU d F ((au d r).aA.getD j 0) y.2).1,(bU d F ((au d r).aA.getD j 0) y.2).2)) (au d r).aA.length 0 (List.replicate (au d r).aA.length 0,x)=y at hl g1 g2 g3;obtain⟨ks,e,nd,kn⟩:=y;have g1:ks.length=(au d r).aA.length:=g1;have EZ:1<=ks.length∧ks.length<=12:=by rw[g1];exact⟨h1k r.toNat aT,KJ⟩
  have hN:nd.length+1<=ah:=by have:=g2.JJ;have:=g2.n2;simp at *;omega
  have hs:=akP (n:=N+F) Gw (a:=d.ay) (b:=d.aB) (E:=e) (nd:=nd) (r:=0) (au d r).var ks EZ g2.n1 hN;have f0:nY X0 Qp 3 (kI.es (LQ x.k)) (kI.tv r):=kI.fresh (by rw[EC];exact c2);have f1:nY X0 Qp 3 (kI.es (LQ kn)) (kI.tv r):=kI.fresh (by rw[EC];exact g3);have f2:=kI.ck r;show dG X0 Qp _ _ _ _ (.int .i64 (eG nd (au d r).var ks)) (HC' (yX d) ⟨e,dD nd (au d r).var ks,kn++[(r,eG nd (au d r).var ks)]⟩);generalize eG nd (au d r).var ks=v at hs ⊢;generalize dD nd (au d r).var ks=nd' at hs ⊢;have em:kI.es (LQ (kn++[(r,v)]))=kI.es (LQ kn)++[(kI.pv r,.int .i64 v)]:=by show List.map _ (List.map _ (kn++[(r,v)]))=_;rw[a4J,a4J];rfl
  have f3:qC X0 Qp 3 (kI.es (LQ kn)++[(kI.pv r,.int .i64 v)]) (kI.tv r) (.int .i64 v):=by rw[<-em];exact kI.found (by rw[EC,a4J];exact wZ g2.k1 g3) (a0V.2 ⟨(r,v),by simp,rfl⟩)
  have hi:gu r d.aj.length:=⟨by omega,hr.1⟩;have hm:((au d r).aA.length:Int)<=(ah:Int):=by have:=m12 KJ;omega
  show dG X0 Qp _ _ _ _ _ ([_,_,_,_,_,_,_]++[_,_,.map (kI.es (LQ (kn++[(r,v)]))),_,_]++[_,_]);rw[em];exact dG.gs hX (nH hX yF (first:=[]) (v:=.int .i64 v) (H1:=[.list false false 3 d.ay,.list false false 3 d.aB,.map (kV.es (zQ e)),.map (kK.es (yU nd')),mkC d.ay d.aB 15 16 0,.gone,.gone,.aF (yX d).ps,.aF [.ptr 4 0 9],.map (kI.es (LQ kn)++[(kI.pv r,.int .i64 v)]),.aF [.map 9],.aF [.fn 195 [] pC],.gone,.gone,.gone,QE e,QF nd']) (by kernel_rfl) (.b t0 (.q (.bool false) f0 (.b (rfl:false=false) (.o hi (.o (show((au d r).aA.length:Int)=((au d r).aA.length:Int)from rfl) (.o (show(0:Int)<=((au d r).aA.length:Int) by omega) (.o hm (.wG [.mv 5,.mv 6,.gc [13,14,12]] hl (.fr [0,1,2,3,4,12,13,14] hs (.q (.bool false) f2 (.o f1 (.c (.int .i64 v) [] f3 .er))))))))))))) [.gc [15,16]] rfl
open Go Tw Pv bP
abbrev Q7(a b:List V)(k:Nat):Bool:=!(decide (a.getD k V0=b.getD k V0))
abbrev ag9(a b:List V)(i:Int)(x:List (Nat×PE aG)):aU aG:=⟨[(0,xL 39 a),(1,xL 39 b),(12,xi a.length),(13,xi i)]++x,[],[]⟩
def z227(a b:List V):Unit⊕Nat->Ex×aU aG
 |.inl _=>(.exit 0,ag9 a b a.length [(14,xl false)])
 |.inr _=>(.ret,⟨[(4,xl false)],[],[]⟩)
theorem akR{n:Nat}{fO:eY aG}(hO:Ok n fO)(a b:List V)(hl:a.length<=ah)(h:a.length=b.length):Lp n 227 0 (ag9 a b 0 []) (z227 a b (bG (Q7 a b) a.length)).1 (z227 a b (bG (Q7 a b) a.length)).2:=
 jd (st:=fun i _=>ag9 a b i []) (fun _ _=>True) (by kernel_rfl) hl trivial (fun k s m hk _ ih=>aN hO (.b (bD hk) (.o (aH hk) (.o (aH (h▸hk)) (.q (.bool (!(decide (a.getD k V0=b.getD k V0)))) (neV (.tmp 19) (.tmp 23) (a.getD k V0) (b.getD k V0)) (.ls (.ou nofun) (.nx (ih _ trivial)))))))) (fun s _=>aN hO (.b (fD a.length) (.ou nofun)))
theorem ab3{a b:List V}(h:a.length=b.length):a=b↔∀j,j<a.length->a.getD j V0=b.getD j V0:=by
 constructor
 .rintro rfl j _;rfl
 intro h2;apply a9H h;intro j h3 h4;have:=h2 j h3;simpa[List.getD,a0q h3,a0q h4]using this
theorem Q8{a b:List V}(h:a.length=b.length):jZ (bG (Q7 a b) a.length)=decide (a=b):=by rw[a5b,dL,a1z,ab3 h];simp[Q7]
theorem ab4{α:Type}[DecidableEq α]{a b:List α}(h:((a.length:Int) != (b.length:Int))=true):decide (a=b)=false:=by rw[a3b];rintro rfl;simp at h
def adL:eY aG:=bZ 227 (a2 vsA vsA) tA (fun p=>decide (p.1=p.2)) (fun p=>[p.1.length<=ah]) DN
theorem akS:Gd adL:=adG.add fun n hO p hp=>aO hO (.s (fun h=>.v false (ab4 h).symm) fun h=>.z (c:=jZ (bG (Q7 p.1 p.2) p.1.length)) (fun h2=>.w (kM (akR hO p.1 p.2 (hp _ gY) (lT h)) () h2) (.v true (by rw[<-Q8 (lT h),h2]))) fun h2=>.w (kN (akR hO p.1 p.2 (hp _ gY) (lT h)) 0 h2) (.v false (by rw[<-Q8 (lT h),h2])))
def Vw(x y:Br):Bool:=if(x.var==y.var)=true then decide (x.aA=y.aA)else false
def a7T:eY aG:=bZ 226 (a2 brA brA) tA (fun p=>Vw p.1 p.2) (fun p=>[p.1.aA.length<=ah]) adL
theorem akT:Gd a7T:=akS.add fun n hO p hp=>aO hO (.ss (.o (hp _ gY) .rr) .rr)
abbrev wEB(a b:List Br)(i:Int)(x:List (Nat×PE aG)):aU aG:=⟨[(1,xL 105 b),(2,.val (.fn 226 [] [])),(15,xL 105 a),(16,xi a.length),(17,xi i)]++x,[],[]⟩
abbrev cEB(a b:List Br)(k:Nat):Bool:=!(Vw (a.getD k kR) (b.getD k kR))
def zEB(a b:List Br):Unit⊕Nat->Ex×aU aG
 |.inl _=>(.exit 0,wEB a b a.length [(18,xl false)])
 |.inr k=>(.ret,⟨[(6,xl false)],[(a.getD k kR).ps,(b.getD k kR).ps],[]⟩)
theorem lEB{n:Nat}(hO:Ok n a7T)(a b:List Br)(hl:a.length<=ah)(h:a.length=b.length)(hk:∀k,k<a.length->(a.getD k kR).aA.length<=ah):Lp n 228 0 (wEB a b 0 []) (zEB a b (bG (cEB a b) a.length)).1 (zEB a b (bG (cEB a b) a.length)).2:=
 jd (st:=fun i _=>wEB a b i []) (fun _ _=>True) (by kernel_rfl) hl trivial (fun k s m kQ _ ih=>aN hO (.b (bD kQ) (.o (aH kQ) (.o (aH (h▸kQ)) (.o (hk k kQ) (.ls (.ou nofun) (.nx (ih _ trivial)))))))) (fun s _=>aN hO (.b (fD a.length) (.ou nofun)))
def Iq(a b:List Br):Bool:=if((a.length:Int) != (b.length:Int))=true then false else if jZ (bG (cEB a b) a.length)=true then true else false
def adM:eY aG:=bZ 228 (a3 aaE aaE (fnA 226)) tA (fun p=>Iq p.1 p.2.1) (fun p=>[p.1.length<=ah,∀k,k<p.1.length->(p.1.getD k kR).aA.length<=ah]) a7T
theorem akU:Gd adM:=akT.add fun n hO p hp=>aO hO (.sh (fun _=>.rr) fun h=>.zh (fun h2=>.w (kM (lEB hO p.1 p.2.1 (hp _ gY) (lT h) (hp (∀k,k<p.1.length->(p.1.getD k kR).aA.length<=ah) (.tail _ (.head _)))) () h2) .rr) fun h2=>.w (kN (lEB hO p.1 p.2.1 (hp _ gY) (lT h) (hp (∀k,k<p.1.length->(p.1.getD k kR).aA.length<=ah) (.tail _ (.head _)))) 0 h2) .rr)
def Ir(a b:Dg):Bool:=if decide (a.ay=b.ay)=true then(if decide (a.aB=b.aB)=true then(if decide (a.aK=b.aK)=true then(if Iq a.aj b.aj=true then a.root==b.root else false)else false)else false)else false
def adN:eY aG:=bZ 203 (a2 dA dA) tA (fun p=>Ir p.1 p.2) (fun p=>[p.1.ay.length<=ah,p.1.aB.length<=ah,p.1.aK.length<=ah,p.1.aj.length<=ah,∀k,k<p.1.aj.length->(p.1.aj.getD k kR).aA.length<=ah]) adM
theorem akV:Gd adN:=akU.add fun n hO p hp=>aO hO (.o (hp _ gY) (.ss (.o (hp _ yc) (.ss (.o (hp _ hh2) (.ss (.o (hp _ (.tail _ (.tail _ (.tail _ (.head _))))) (.o (hp (∀k,k<p.1.aj.length->(p.1.aj.getD k kR).aA.length<=ah) (.tail _ (.tail _ (.tail _ (.tail _ (.head _)))))) (.ss .rr .rr))) .rr)) .rr)) .rr))
theorem Yb{x y:Br}:Vw x y=true↔x=y:=by obtain⟨a,b⟩:=x;obtain⟨c,e⟩:=y;unfold Vw;simp only[Br.mk.injEq];by_cases h:a=c<;>simp[h]
theorem a4b{a b:List Br}:Iq a b=true↔a=b:=by
 unfold Iq;by_cases h:a.length=b.length
 .rw[a0E (by simp;omega)];have e:jZ (bG (cEB a b) a.length)=true↔a=b:=by
   rw[dL];constructor
   .intro h1;apply a9H h;intro j h3 h4;have:=h1 j h3;simp only[cEB,acg]at this;have:=Yb.1 this;simpa[List.getD,a0q h3,a0q h4]using this
   rintro rfl j _;simp only[cEB,acg];exact Yb.2 rfl
  rw[<-e];cases jZ (bG (cEB a b) a.length)<;>simp
 rw[a0F (by simp;omega)];constructor
 .intro h1;cases h1
 rintro rfl;exact absurd rfl h
theorem a2g{a b:Dg}:Ir a b=true↔a=b:=by
 obtain⟨a1,a2,a3,a4,a5⟩:=a;obtain⟨b1,b2,b3,b4,b5⟩:=b;unfold Ir;simp only[Dg.mk.injEq];by_cases h1:a1=b1
 .by_cases h2:a2=b2
  .by_cases h3:a3=b3
   .have h4:=a4b (a:=a4) (b:=b4);cases e:Iq a4 b4
    .rw[e]at h4;simp[h1,h2,h3];intro h5;exact absurd h5 (by simpa using h4)
    rw[e]at h4;simp at h4;simp[h1,h2,h3,h4]
   simp[h3]
  simp[h2]
 simp[h1]
open Go Tw Pv bP
def xE(s:LI0×LI0)(x:Int):Int:=if x<0 then i64.wrap (-1-(s.2.idxOf (je x):Nat))else(s.1.idxOf x:Nat)
def Wp(s:LI0×LI0)(x:Int):Prop:=(x<0->je x∈s.2)∧(0<=x->x∈s.1)
def KS(d:Dg)(s:LI0×LI0):Cs:=⟨s.2.map fun e=>d.aK.getD e.toNat V0,s.1.map fun o=>⟨(au d o).var,(au d o).aA.map (xE s)⟩,s.1.map fun o=>(o,xE s o)⟩
def JM(d:Dg)(s:LI0×LI0):Prop:=∀o∈s.1,∀k∈(au d o).aA,Wp s k
theorem Vx{s:LI0×LI0}{x:Int}(l:LI0)(h:Wp s x):xE (s.1,s.2++l) x=xE s x:=by
 unfold xE;split
 .rename_i c;rw[aa6,a0F (h.1 c)]
 rfl
theorem Iu{s:LI0×LI0}{x:Int}(l:LI0)(h:Wp s x):xE (s.1++l,s.2) x=xE s x:=by
 unfold xE;split
 .rfl
 rename_i c;rw[aa6,a0F (h.2 (by omega))]
theorem agb{d:Dg}{s:LI0×LI0}(hk:JM d s)(hn:∀o∈s.1,0<=o)(e:Int):KS d (s.1,s.2++[e])=⟨(KS d s).e++[d.aK.getD e.toNat V0],(KS d s).n,(KS d s).k⟩:=by
 unfold KS;simp only[a4J,a4M,abL,Cs.mk.injEq,true_and];constructor
 .apply a5L;intro o ho;congr 1;apply a5L;intro k kQ;exact Vx [e] (hk o ho k kQ)
 apply a5L;intro o ho;rw[Vx [e] ⟨fun c=>absurd (hn o ho) (by omega),fun _=>ho⟩]
theorem ab5{d:Dg}{s:LI0×LI0}(hk:JM d s)(hn:∀o∈s.1,0<=o){r:Int}(h0:0<=r)(hr:r∉s.1)(Le:∀k∈(au d r).aA,Wp s k):KS d (s.1++[r],s.2)=⟨(KS d s).e,(KS d s).n++[⟨(au d r).var,(au d r).aA.map (xE s)⟩],(KS d s).k++[(r,(s.1.length:Int))]⟩:=by
 unfold KS;simp only[a4J,a4M,abL,Cs.mk.injEq,true_and];refine⟨?_,?_⟩
 .congr 1
  .apply a5L;intro o ho;congr 1;exact a5L fun k kQ=>Iu [r] (hk o ho k kQ)
  congr 2;exact a5L fun k kQ=>Iu [r] (Le k kQ)
 congr 1
 .apply a5L;intro o ho;rw[Iu [r] ⟨fun c=>absurd (hn o ho) (by omega),fun _=>ho⟩]
 congr 2;unfold xE;rw[a0E (by omega)];simp[aa6,hr]
theorem akW{a b:Nat}(ha:a<=2^61)(hb:b<=2^61)(h:i64.wrap (-1-(a:Int))=i64.wrap (-1-(b:Int))):a=b:=by rw[fK (by omega) (by omega),fK (by omega) (by omega)]at h;omega
theorem a2h{l:LI0}{a b:Int}(ha:a∈l)(hb:b∈l)(h:l.idxOf a=l.idxOf b):a=b:=by have h1:=a9i (a5a.2 ha);have h2:=a9i (a5a.2 hb);rw[<-h1,<-h2];congr 1
theorem a7U{x y:Int}(hx:Gj x)(hy:Gj y)(cx:x<0)(cy:y<0)(h:je x=je y):x=y:=by unfold je at h;rw[Nl hx cx,Nl hy cy]at h;omega
theorem a2i{s:LI0×LI0}(hs:s.2.length<=2^61){x y:Int}(hx:Wp s x)(hy:Wp s y)(wx:Gj x)(wy:Gj y)(h:xE s x=xE s y):x=y:=by
 have lt:∀z,z∈s.2->s.2.idxOf z<=2^61:=fun z hz=>a5x (a9G (a5a.2 hz)) hs;unfold xE at h;by_cases cx:x<0
 .rw[a0F cx]at h;by_cases cy:y<0
  .rw[a0F cy]at h;exact a7U wx wy cx cy (a2h (hx.1 cx) (hy.1 cy) (akW (lt _ (hx.1 cx)) (lt _ (hy.1 cy)) h))
  rw[a0E cy]at h;have:=lt _ (hx.1 cx);rw[fK (by omega) (by omega)]at h;omega
 rw[a0E cx]at h;by_cases cy:y<0
 .rw[a0F cy]at h;have:=lt _ (hy.1 cy);rw[fK (by omega) (by omega)]at h;omega
 rw[a0E cy]at h;exact a2h (hx.2 (by omega)) (hy.2 (by omega)) (by omega)
open Go Tw Pv bP
def Ext(s t:LI0×LI0):Prop:=∃a b,t=(s.1++a,s.2++b)
theorem Ext.refl(s:LI0×LI0):Ext s s:=⟨[],[],by simp⟩
theorem Ext.trans{s t u:LI0×LI0}(h:Ext s t)(h2:Ext t u):Ext s u:=by obtain⟨a,b,rfl⟩:=h;obtain⟨c,e,rfl⟩:=h2;exact⟨a++c,b++e,by simp⟩
theorem Wp.ext{s t:LI0×LI0}{x:Int}(h:Wp s x)(he:Ext s t):Wp t x:=by obtain⟨a,b,rfl⟩:=he;exact⟨fun c=>a5h _ (h.1 c),fun c=>a5h _ (h.2 c)⟩
theorem ab6{s t:LI0×LI0}{x:Int}(h:Wp s x)(he:Ext s t):xE t x=xE s x:=by have hc:=h;obtain⟨a,b,rfl⟩:=he;have h2:Wp (s.1,s.2++b) x:=⟨fun c=>a5h _ (h.1 c),h.2⟩;rw[<-Vx b h,<-Iu a h2]
theorem TW{α β:Type}{g1:Nat->α->α}{g2:Nat->β->β}(R:Nat->α->β->Prop):∀(m k:Nat) (a:α) (b:β),R k a b->(∀j a b,k<=j->j<k+m->R j a b->R (j+1) (g1 j a) (g2 j b))->R (k+m) (aS g1 m k a) (aS g2 m k b)
 | 0,_,_,_,h,_=>h
 |m+1,k,a,b,h,hs=>by have:=TW R m (k+1) (g1 k a) (g2 k b) (hs k a b (a0P _) (by omega) h) (fun j a b h1 h2=>hs j a b (by omega) (by omega));rw[show k+(m+1)=k+1+m by omega];exact this
theorem a2j{α β:Type}[BEq α][LawfulBEq α][BEq β][LawfulBEq β]{f:α->β}{a:α}:∀{l:List α},(∀b∈l,f b=f a->b=a)->(l.map f).idxOf (f a)=l.idxOf a
 | [],_=>rfl
 |c::l,h=>by
  rw[a4M,aed,aed,a2j fun b hb=>h b (a3y _ hb)];by_cases hc:c=a
  .subst hc;simp
  have:¬(f c=f a):=fun e=>hc (h c (.head _) e);rw[show(c==a)=false by simpa using hc,show(f c==f a)=false by simpa using this]
structure DgD(d:Dg):Prop where
 aK:d.aK.Nodup
 aj:∀i j,i<d.aj.length->j<d.aj.length->(fB d i).var=(fB d j).var->(fB d i).aA=(fB d j).aA->i=j
 flat:∀i,i<d.aj.length->((fB d i).aA.all fun x=>x==(fB d i).aA.getD 0 0)=false
theorem Yc{d:Dg}(h:d.aK.Nodup){a b:Int}(ha:gu a d.aK.length)(hb:gu b d.aK.length)(e:d.aK.getD a.toNat V0=d.aK.getD b.toNat V0):a=b:=by
 have h1:a.toNat<d.aK.length:=by have:=ha.1;have:=ha.2;omega
 have h2:b.toNat<d.aK.length:=by have:=hb.1;have:=hb.2;omega
 simp only[List.getD,a0q h1,a0q h2,a5e]at e;have:=(aar h).1 e;have:=ha.1;have:=hb.1;omega
theorem agc{d:Dg}(hd:DgD d){s:LI0×LI0}(hs:JK d s){r:Int}(hr:gu (je r) d.aK.length):(KS d s).e.idxOf (oq d r)=s.2.idxOf (je r)∧(oq d r∈(KS d s).e↔je r∈s.2):=by
 have hi:∀b∈s.2,(fun e:Int=>d.aK.getD e.toNat V0) b=(fun e:Int=>d.aK.getD e.toNat V0) (je r)->b=je r:=fun b hb e=>Yc hd.aK (hs.e2 b hb) hr e;refine⟨a2j (f:=fun e:Int=>d.aK.getD e.toNat V0) (a:=je r) hi,?_⟩;constructor
 .intro h;obtain⟨b,hb,e⟩:=a0V.1 h;rw[<-hi b hb e];exact hb
 intro h;exact a0V.2 ⟨je r,h,rfl⟩
theorem agd{d:Dg}{s:LI0×LI0}{r:Int}(h:r∈s.1):Vu (KS d s).k r=xE s r:=by
 have h1:r∈(KS d s).k.map (·.1):=by unfold KS;rw[a6B];exact a0V.2 ⟨r,h,rfl⟩
 have h2:=a2f h1;obtain⟨o,_,e⟩:=a0V.1 h2;have e1:o=r:=congrArg Prod.fst e;have e2:xE s o=Vu (KS d s).k r:=congrArg Prod.snd e;rw[<-e2,e1]
theorem ab7{a b:LI0}(h:a.length=b.length)(ha:a.length<=12)(e:Io a=Io b):a=b:=by unfold Io at e;have:=congrArg (List.take a.length) e;rw[aga,aga,a8a ha,List.take_append_of_le_length (a0P _),List.take_append_of_le_length (by omega),adC,h,adC]at this;exact this
theorem map_inj{α β:Type}{f:α->β}:∀{a b:List α},(∀x∈a,∀y∈b,f x=f y->x=y)->a.map f=b.map f->a=b
 | [],[],_,_=>rfl
 | [],_::_,_,h=>by simp at h
 |_::_,[],_,h=>by simp at h
 |x::a,y::b,hi,h=>by simp only[a4M,aeG]at h;rw[hi x (.head _) y (.head _) h.1,map_inj (fun u hu v hv=>hi u (a3y _ hu) v (a3y _ hv)) h.2]
open Go Tw Pv bP
structure Alk(d:Dg)(F:Nat)(r:Int)(s:LI0×LI0):Prop where
 eq:bU d F r (KS d s)=(xE (jX d F r s) r,KS d (jX d F r s))
 aA:JM d (jX d F r s)
 cov:Wp (jX d F r s) r
 ext:Ext s (jX d F r s)
theorem adP{d:Dg}(h:BX d)(hw:Ba d)(hd:DgD d)(he:d.aK.length<=2^61):∀(F:Nat) (r:Int) (s:LI0×LI0),r+1<F->JK d s->JM d s->jD d r d.aj.length->1<=F->Alk d F r s
 | 0,r,s,_,_,_,_,h1=>by omega
 |F+1,r,s,hF,hs,hk,hr,_=>by
  have hn:∀o∈s.1,0<=o:=fun o ho=>(hs.n2 o ho).1;by_cases c:r<0
  .have t0:decide (r<0)=true:=(by simpa using c);obtain⟨q1,q2⟩:=agc hd hs (hr.2 c);have e1:bU d (F+1) r (KS d s)=(i64.wrap (-1-((KS d s).e.idxOf (oq d r):Nat)),⟨fU (KS d s).e (oq d r),(KS d s).n,(KS d s).k⟩):=by unfold bU;rw[a0F t0]
   by_cases c2:je r∈s.2
   .have e2:jX d (F+1) r s=s:=by unfold jX;rw[a0F t0,a0E (by simpa using c2)]
    refine⟨?_,by rw[e2];exact hk,by rw[e2];exact⟨fun _=>c2,fun h0=>by omega⟩,by rw[e2];exact .refl s⟩;rw[e1,e2,q1,show fU (KS d s).e (oq d r)=(KS d s).e from a0F (q2.2 c2)];unfold xE;rw[a0F c]
   have e2:jX d (F+1) r s=(s.1,s.2++[je r]):=by unfold jX;rw[a0F t0,a0F (by simpa using c2)]
   have hc:Wp (s.1,s.2++[je r]) r:=⟨fun _=>by simp,fun h0=>by omega⟩;have hx:Ext s (s.1,s.2++[je r]):=⟨[],[je r],by simp⟩;refine⟨?_,by rw[e2];exact fun o ho k kQ=>(hk o ho k kQ).ext hx,by rw[e2];exact hc,by rw[e2];exact hx⟩;rw[e1,e2,q1,agb hk hn,show fU (KS d s).e (oq d r)=(KS d s).e++[oq d r]from a0E (fun e=>c2 (q2.1 e))];unfold xE;rw[a0F c];simp[aa6,c2,a9b c2,oq]
  have t0:¬(decide (r<0)=true):=by simpa using c
  have xZ:(KS d s).k.map (·.1)=s.1:=by unfold KS;rw[a6B];exact List.map_id _
  by_cases c2:r∈s.1
  .have e2:jX d (F+1) r s=s:=by unfold jX;rw[a0E t0,a0F (by simpa using c2)]
   have e1:bU d (F+1) r (KS d s)=(Vu (KS d s).k r,KS d s):=by unfold bU;rw[a0E t0,a0F (by rw[xZ];simpa using c2)]
   refine⟨?_,by rw[e2];exact hk,by rw[e2];exact⟨fun h0=>absurd h0 c,fun _=>c2⟩,by rw[e2];exact .refl s⟩;rw[e1,e2,agd c2]
  have aT:r.toNat<d.aj.length:=by have:=hr.1;omega
  have BZ:∀k,k<(au d r).aA.length->(au d r).aA.getD k 0<r:=fun k kQ=>by have h9:=(h.zN r.toNat aT k kQ).1;have h9:(au d r).aA.getD k 0<(r.toNat:Int):=h9;omega
  have Le:∀j,j<(au d r).aA.length->jD d ((au d r).aA.getD j 0) d.aj.length:=fun j hj=>⟨by have:=BZ j hj;have:=hr.1;omega,(h.zN r.toNat aT j hj).2⟩;have a6Z:=TW (g1:=fun j (y:LI0×Cs)=>(y.1.set j (bU d F ((au d r).aA.getD j 0) y.2).1,(bU d F ((au d r).aA.getD j 0) y.2).2)) (g2:=fun k y=>jX d F ((au d r).aA.getD k 0) y)
   (fun j (y:LI0×Cs) (t:LI0×LI0)=>y=(((au d r).aA.take j).map (xE t)++List.replicate ((au d r).aA.length-j) 0,KS d t)∧JK d t∧JM d t∧Ext s t∧r∉t.1∧∀i,i<j->Wp t ((au d r).aA.getD i 0)) (au d r).aA.length 0 (List.replicate (au d r).aA.length 0,KS d s) s ⟨by simp,hs,hk,.refl s,c2,fun i hi=>by omega⟩ (fun j y t _ hj hy=>by
    obtain⟨rfl,y1,y2,y3,y4,y5⟩:=hy;have hj:j<(au d r).aA.length:=(by omega);have ih:=adP h hw hd he F _ t (by have:=BZ j hj;omega) y1 y2 (Le j hj) (by omega);have YN:=a7z F ((au d r).aA.getD j 0) r t (BZ j hj) y4 (by omega) (fun i hi k hk=>(h.zN i hi k hk).1) (fun h5=>⟨h5,by have:=(Le j hj).1;omega⟩);have Ry:=L9 h F ((au d r).aA.getD j 0) t y1 (Le j hj);obtain⟨i1,i2,i3,i4⟩:=ih;simp only[i1];generalize jX d F ((au d r).aA.getD j 0) t=u at i2 i3 i4 YN Ry ⊢;refine⟨?_,Ry,i2,y3.trans i4,YN,fun i hi=>?_⟩
    .simp only[a0J,and_true];have hl:(List.map (xE t) (List.take j (au d r).aA)).length=j:=by rw[a4S,a4C];omega
     rw[show(au d r).aA.length-j=((au d r).aA.length-(j+1))+1 by omega,aew,List.set_append_right _ _ (by rw[hl];exact a0P j)];rw[hl,ahv,List.set_cons_zero,a8n hj,a4J,a5A];congr 1
     .apply a5L;intro x hx;obtain⟨i,hi,rfl⟩:=a5d.1 hx;have Ai:i<j:=by simp at hi;omega
      have:=y5 i Ai;rw[rZ (l:=(au d r).aA) (show i<(au d r).aA.length by omega)]at this;rw[List.getElem_take];exact(ab6 this i4).symm
     .rw[rZ hj];rfl
    .by_cases Ai:i<j
     .exact(y5 i Ai).ext i4
     .rw[show i=j by omega];exact i3)
  have e1:bU d (F+1) r (KS d s)=(eG (aS (fun j (y:LI0×Cs)=>(y.1.set j (bU d F ((au d r).aA.getD j 0) y.2).1,(bU d F ((au d r).aA.getD j 0) y.2).2)) (au d r).aA.length 0 (List.replicate (au d r).aA.length 0,KS d s)).2.n (au d r).var (aS (fun j (y:LI0×Cs)=>(y.1.set j (bU d F ((au d r).aA.getD j 0) y.2).1,(bU d F ((au d r).aA.getD j 0) y.2).2)) (au d r).aA.length 0 (List.replicate (au d r).aA.length 0,KS d s)).1,⟨(aS (fun j (y:LI0×Cs)=>(y.1.set j (bU d F ((au d r).aA.getD j 0) y.2).1,(bU d F ((au d r).aA.getD j 0) y.2).2)) (au d r).aA.length 0 (List.replicate (au d r).aA.length 0,KS d s)).2.e,dD (aS (fun j (y:LI0×Cs)=>(y.1.set j (bU d F ((au d r).aA.getD j 0) y.2).1,(bU d F ((au d r).aA.getD j 0) y.2).2)) (au d r).aA.length 0 (List.replicate (au d r).aA.length 0,KS d s)).2.n (au d r).var (aS (fun j (y:LI0×Cs)=>(y.1.set j (bU d F ((au d r).aA.getD j 0) y.2).1,(bU d F ((au d r).aA.getD j 0) y.2).2)) (au d r).aA.length 0 (List.replicate (au d r).aA.length 0,KS d s)).1,(aS (fun j (y:LI0×Cs)=>(y.1.set j (bU d F ((au d r).aA.getD j 0) y.2).1,(bU d F ((au d r).aA.getD j 0) y.2).2)) (au d r).aA.length 0 (List.replicate (au d r).aA.length 0,KS d s)).2.k++[(r,eG (aS (fun j (y:LI0×Cs)=>(y.1.set j (bU d F ((au d r).aA.getD j 0) y.2).1,(bU d F ((au d r).aA.getD j 0) y.2).2)) (au d r).aA.length 0 (List.replicate (au d r).aA.length 0,KS d s)).2.n (au d r).var (aS (fun j (y:LI0×Cs)=>(y.1.set j (bU d F ((au d r).aA.getD j 0) y.2).1,(bU d F ((au d r).aA.getD j 0) y.2).2)) (au d r).aA.length 0 (List.replicate (au d r).aA.length 0,KS d s)).1)]⟩):=by rw[bU,a0E t0,a0E (by rw[xZ];simpa using c2)]
  have e2:jX d (F+1) r s=((aS (fun k y=>jX d F ((au d r).aA.getD k 0) y) (au d r).aA.length 0 s).1++[r],(aS (fun k y=>jX d F ((au d r).aA.getD k 0) y) (au d r).aA.length 0 s).2):=by rw[jX,a0E t0,a0E (by simpa using c2)]
  generalize aS (fun j (y:LI0×Cs)=>(y.1.set j (bU d F ((au d r).aA.getD j 0) y.2).1,(bU d F ((au d r).aA.getD j 0) y.2).2)) (au d r).aA.length 0 (List.replicate (au d r).aA.length 0,KS d s)=y at a6Z e1;generalize aS (fun k y=>jX d F ((au d r).aA.getD k 0) y) (au d r).aA.length 0 s=t at a6Z e2;obtain⟨rfl,f2,f3,f4,f5,f6⟩:=a6Z;rw[a3W]at f6;simp only[a3W,adC,ahv,List.replicate_zero,a6f]at e1;have a7V:∀k∈(au d r).aA,Wp t k:=fun k kQ=>by
   obtain⟨i,hi,rfl⟩:=a5d.1 kQ;have:=f6 i hi
   rwa [rZ hi]at this
  have hW:∀o,0<=o->gu o d.aj.length->∀k∈(au d o).aA,Gj k:=fun o _ ho k kQ=>by
   obtain⟨i,hi,rfl⟩:=a5d.1 kQ;have:=hw.zN o.toNat (by have:=ho.1;have:=ho.2;omega) i hi
   rwa [rZ hi]at this
  have hrI:gu r d.aj.length:=⟨by omega,hr.1⟩;have hel:t.2.length<=2^61:=a5x f2.len.2 he;have adQ:((au d r).aA.map (xE t)).all (fun x=>x==((au d r).aA.map (xE t)).getD 0 0)=false:=by
   cases e:((au d r).aA.map (xE t)).all (fun x=>x==((au d r).aA.map (xE t)).getD 0 0)
   .rfl
   exfalso;have hf:=hd.flat r.toNat aT;rw[List.all_eq_false]at hf;obtain⟨x,hx,hx2⟩:=hf;have hx:x∈(au d r).aA:=hx;have h0:0<(au d r).aA.length:=List.length_pos_of_mem hx;rw[a4W]at e;have:=e (xE t x) (a0V.2 ⟨x,hx,rfl⟩);rw[rZ (by simpa using h0),a9s]at this;have h00:(au d r).aA[0]∈(au d r).aA:=a4Z h0;have:=a2i hel (a7V x hx) (a7V _ h00) (hW r (by omega) hrI x hx) (hW r (by omega) hrI _ h00) (by simpa using this);apply hx2;have h9:(fB d r.toNat).aA.getD 0 0=(au d r).aA[0]:=rZ h0;rw[h9,this];simp
  have afa:uh (au d r).var ((au d r).aA.map (xE t))∉(KS d t).n.map Ci:=by
   intro hm;unfold KS at hm;rw[a6B]at hm;obtain⟨o,ho,e⟩:=a0V.1 hm;have Zt:=f2.n2 o ho;have QL:o.toNat<d.aj.length:=by have:=Zt.1;have:=Zt.2;omega
   have ev:(fB d o.toNat).var=(fB d r.toNat).var:=congrArg Prod.fst e;have ep:Io ((au d o).aA.map (xE t))=Io ((au d r).aA.map (xE t)):=congrArg (fun z:Ky=>z.2.val) e;have hlen:((fB d o.toNat).aA.length:Int)=((fB d r.toNat).aA.length:Int):=(by rw[h.ksz _ QL,h.ksz _ aT,ev]);have hlen:(au d o).aA.length=(au d r).aA.length:=by exact_mod_cast hlen
   have em:=ab7 (by simpa using hlen) (by rw[a4S];exact h.JJ _ QL) ep;have ek:=map_inj (fun x hx y hy e=>a2i hel (f3 o ho x hx) (a7V y hy) (hW o Zt.1 Zt x hx) (hW r (by omega) hrI y hy) e) em;have:=hd.aj _ _ QL aT ev ek;have:o=r:=by have:=Zt.1;omega
   exact f5 (this▸ho)
  have hnl:(KS d t).n.length=t.1.length:=by unfold KS;simp
  have hR:eG (KS d t).n (au d r).var ((au d r).aA.map (xE t))=(t.1.length:Int):=by unfold eG;rw[adQ,a0E (by simp),a9b afa,a4S,hnl]
  have hS:dD (KS d t).n (au d r).var ((au d r).aA.map (xE t))=(KS d t).n++[⟨(au d r).var,(au d r).aA.map (xE t)⟩]:=by unfold dD;rw[adQ,a0E (by simp),a0E afa]
  have hx:Ext t (t.1++[r],t.2):=⟨[r],[],by simp⟩;have hc:Wp (t.1++[r],t.2) r:=⟨fun h0=>absurd h0 c,fun _=>by simp⟩;refine⟨?_,?_,by rw[e2];exact hc,by rw[e2];exact f4.trans hx⟩
  .rw[e1,e2,hR,hS,ab5 f3 (fun o ho=>(f2.n2 o ho).1) (by omega) f5 a7V];unfold xE;rw[a0E c];simp[aa6,f5]
  rw[e2];intro o ho k kQ;rcases a3P.1 ho with ho|ho
  .exact(f3 o ho k kQ).ext hx
  rw[a1S.1 ho]at kQ;exact(a7V k kQ).ext hx
open Go Tw Pv bP
theorem Yd(b:Br):DL b=b.aA.all fun x=>x==b.aA.getD 0 0:=by
 have e:jZ (Tn (PW b) 1 (max 1 b.aA.length))=true↔∀k,1<=k->k<b.aA.length->b.aA.getD k 0=b.aA.getD 0 0:=by
  unfold Tn gS;rw[Ig (r:=fun k=>k)];constructor
  .intro h k h1 h2;simpa[PW]using h k h1 (by omega)
  intro h k h1 h2;simpa[PW]using h k h1 (by omega)
 have e2:(b.aA.all fun x=>x==b.aA.getD 0 0)=true↔∀k,1<=k->k<b.aA.length->b.aA.getD k 0=b.aA.getD 0 0:=by
  rw[a4W];constructor
  .intro h k _ h2;have:=h _ (dB h2);simpa using this
  intro h x hx;obtain⟨k,hk,rfl⟩:=a5d.1 hx;by_cases h0:k=0
  .subst h0;rw[rZ hk];simp
  have:=h k (by omega) hk;rw[rZ hk]at this;rw[this];simp
 have:DL b=true↔(b.aA.all fun x=>x==b.aA.getD 0 0)=true:=by rw[e2,<-e];unfold DL;cases jZ (Tn (PW b) 1 (max 1 b.aA.length))<;>simp
 rw[a5b];exact this
theorem agf{d:Dg}:jZ (bG (cD0 d) d.aK.length)=true↔d.aK.Nodup:=by
 rw[dL];have h1:∀i,cD0 d i=false↔∀j,j<i->d.aK.getD j V0≠d.aK.getD i V0:=fun i=>by
  have:jZ (bG (cD1 d i) i)=true↔∀j,j<i->d.aK.getD j V0≠d.aK.getD i V0:=by rw[dL];simp[cD1]
  rw[<-this];unfold cD0;cases jZ (bG (cD1 d i) i)<;>simp
 have hg:∀j,(hj:j<d.aK.length)->d.aK.getD j V0=d.aK[j]:=fun j hj=>by simp[List.getD,a0q hj]
 constructor
 .intro h;rw[acu,acy];intro i j hi hj Ai;have:=(h1 j).1 (h j hj) i Ai
  rwa [hg i hi,hg j hj]at this
 intro h i hi;rw[h1];intro j hj;rw[acu,acy]at h;have:=h j i (by omega) hi hj
 rwa [hg i hi,hg j (by omega)]
theorem agh{d:Dg}:jZ (bG (cD2 d) d.aj.length)=true↔(∀i j,i<d.aj.length->j<d.aj.length->(fB d i).var=(fB d j).var->(fB d i).aA=(fB d j).aA->i=j)∧∀i,i<d.aj.length->((fB d i).aA.all fun x=>x==(fB d i).aA.getD 0 0)=false:=by
 rw[dL];have h1:∀i,cD2 d i=false↔DL (fB d i)=false∧∀j,j<i->¬((fB d j).var=(fB d i).var∧(fB d j).aA=(fB d i).aA):=fun i=>by
  have h3:∀j,cD3 d i j=false↔¬((fB d j).var=(fB d i).var∧(fB d j).aA=(fB d i).aA):=fun j=>by
   unfold cD3;by_cases hv:(fB d j).var=(fB d i).var
   .rw[a0F (by rw[a7g];exact hv),a3b];exact⟨fun a b=>a b.2,fun a b=>a ⟨hv,b⟩⟩
   rw[a0E (by rw[a7g];exact hv)];exact⟨fun _ a=>hv a.1,fun _=>rfl⟩
  have:jZ (bG (cD3 d i) i)=true↔∀j,j<i->¬((fB d j).var=(fB d i).var∧(fB d j).aA=(fB d i).aA):=by rw[dL];exact acr fun j=>acr fun _=>h3 j
  rw[<-this];unfold cD2;cases DL (fB d i)
  .cases jZ (bG (cD3 d i) i)<;>simp
  simp
 constructor
 .intro h;refine⟨fun i j hi hj hv hk=>?_,fun i hi=>by rw[<-Yd];exact((h1 i).1 (h i hi)).1⟩;rcases Nat.lt_trichotomy i j with Ai|Ai|Ai
  .exact absurd ⟨hv,hk⟩ (((h1 j).1 (h j hj)).2 i Ai)
  .exact Ai
  exact absurd ⟨hv.symm,hk.symm⟩ (((h1 i).1 (h i hi)).2 j Ai)
 intro h i hi;rw[h1];refine⟨by rw[Yd];exact h.2 i hi,fun j hj hc=>?_⟩;have:=h.1 j i (by omega) hi hc.1 hc.2;omega
theorem ab8{d:Dg}:(jZ (bG (cD0 d) d.aK.length)=true∧jZ (bG (cD2 d) d.aj.length)=true)↔DgD d:=by rw[agf,agh];exact⟨fun h=>⟨h.1,h.2.1,h.2.2⟩,fun h=>⟨h.aK,h.aj,h.flat⟩⟩
theorem Q9{l:LI0}{m:Nat}:zM l m=true↔l=dS m:=by
 unfold zM;have e:jZ (bG (a7u l) l.length)=true↔∀j,j<l.length->l.getD j 0=(j:Int):=by rw[dL];simp[a7u]
 constructor
 .intro h;split at h
  .rename_i h1;have hl:(l.length:Int)=(m:Int):=(by simpa using h);have hl:l.length=m:=(by omega);rw[qx (d:=0) (by rw[lU,hl])];intro j hj;rw[e.1 h1 j hj];have:j<m:=(by omega);simp[dS,List.getD,this]
  cases h
 rintro rfl;rw[a0F (e.2 fun j hj=>by rw[lU]at hj;simp[dS,List.getD,hj]),lU];simp
theorem Ye{d:Dg}:qh d=true↔DgD d∧srN d d.root=dS d.aj.length∧srE d d.root=dS d.aK.length:=by
 rw[<-ab8,<-Q9,<-Q9];unfold qh;cases jZ (bG (cD0 d) d.aK.length)
 .simp
 cases jZ (bG (cD2 d) d.aj.length)
 .simp
 cases zM (srN d d.root) (d.aj.length:Int)<;>simp
end Go.Proofs.YtmobpoiejckagaaGreat
