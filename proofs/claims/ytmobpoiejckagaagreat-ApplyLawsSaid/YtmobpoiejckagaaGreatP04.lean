/- Part 5 of a proof: ApplyLaws -/
import Derived.Test.YtmobpoiejckagaaGreatProg
import Derived.KernelRfl
import Derived.Test.YtmobpoiejckagaaGreatChecked
import Derived.Tactics
import Derived.Tactics2
import Derived.Test.YtmobpoiejckagaaGreatP03
set_option linter.constructorNameAsVariable false
set_option linter.unusedVariables false
set_option linter.unusedSimpArgs false
set_option linter.unusedSectionVars false
open Go.IntKind (i64)
noncomputable section
namespace Go.Proofs.YtmobpoiejckagaaGreat
open Go Tw
structure B where
 lo:Int
 hi:Int
 f:Int
 deriving DecidableEq
structure O where
 code:Int
 a:Int
 b:Int
 c:Int
 n:Int
 deriving DecidableEq
structure K where
 name:ByteArray
 lo:Int
 hi:Int
structure V where
 f:Int
 n:Int
 deriving DecidableEq
abbrev B0:B:=⟨0,0,0⟩
abbrev O0:O:=⟨0,0,0,0,0⟩
abbrev K0:K:=⟨ByteArray.empty,0,0⟩
abbrev V0:V:=⟨0,0⟩
def qE(g:Int->Bool)(i:Nat)(x:Int)(s:Unit):(Unit)⊕(Nat×Int×(Unit)):=
 if(g x)=true then .inr (i,x,s)else .inl ()
def sS(g:Int->Bool)(l:LI0):Int:=
 if(jS (lZ (qE g) l 0 ()))=true then -1 else(((BA (0,0,()) (lZ (qE g) l 0 ())).1:Int))
def nP(g:Int->Bool)(l:LI0):Bool:=
 decide ((sS g l)>=0)
theorem a8c(g):∀(l) (i),jS (lZ (qE g) l i ())=!(l.any g)
 | [],i=>rfl
 |x::l,i=>by
  simp only[lZ,qE,aer];cases g x with
  |true=>rfl
  |false=>simpa using a8c g l (i+1)
theorem EY(g l):nP g l=l.any g:=by
 have:=a8c g l 0;unfold nP sS;rw[this];cases l.any g with
 |true=>simp
 |false=>simp
def wW(x:Int)(lo:Int)(hi:Int):Bool:=
 if(decide ((x)<(lo)))=true then true else decide ((x)>(hi))
def nR(l:LI0)(lo:Int)(hi:Int):Bool:=
 !(l.any ((fun x=>wW x lo hi)))
theorem wrap_small{z}(h0:-(2^62)<=z)(h1:z<2^62):i64.wrap z=z:=by
 simp only[IntKind.wrap,IntKind.bits,IntKind.signed];rcases Int.lt_or_le z 0 with h|h
 .have:z%(2^64:Int)=z+2^64:=by have:=acE z (2^64) 1;rw[adf]at this;rw[<-this];exact a9b (by omega) (by omega)
  simp only[this];rw[a18 (by simp;omega)];omega
 have:z%(2^64:Int)=z:=a9b h (by omega);simp only[this];rw[a0U (by simp;omega)]
def oP(k:Int)(least:Int)(ah:Int):Bool:=
 if(decide ((k)>=(least)))=true then decide ((k)<=(ah))else false
def eP(k:Int):V:=
 (⟨0,k⟩:V)
def mg(f:Int):V:=
 (⟨f,0⟩:V)
def qg(is:Bool):V:=
 if is=true then eP 1 else eP 0
def qH(k:Int):V:=
 if(decide ((k)<(-9999)))=true then mg 2 else if(decide ((k)>9999))=true then mg 2 else eP k
def KL(a:V)(b:V)(c:V):V:=
 if(decide ((a.f)>0))=true then a else if((a.n)==0)=true then c else b
def xZ(code:Int)(a:V):V:=
 if(decide ((a.f)>0))=true then a else if((code)==5)=true then eP (i64.wrap (0-(a.n)))else qg ((a.n)==0)
def gW(a b:Int):Int:=if b<0 then(-a)/(-b)else a/b
def bJ(code:Int)(a:V)(b:V):V:=
 if(decide ((a.f)>0))=true then a else if((code)==15)=true then if((a.n)==0)=true then a else if((code)==16)=true then if((a.n) != 0)=true then eP 1 else b else b else if((code)==16)=true then if((a.n) != 0)=true then eP 1 else b else if(decide ((b.f)>0))=true then b else if((code)==7)=true then qH (i64.wrap ((a.n)+(b.n)))else if((code)==8)=true then qH (i64.wrap ((a.n)-(b.n)))else if((code)==9)=true then qH (i64.wrap ((a.n)*(b.n)))else if((code)==12)=true then qg ((a.n)==(b.n))else if((code)==13)=true then qg (decide ((a.n)<(b.n)))else if((code)==14)=true then qg (decide ((a.n)<=(b.n)))else if((b.n)==0)=true then mg 1 else if((code)==10)=true then eP (gW (a.n) (b.n))else eP (i64.wrap ((a.n)-(i64.wrap ((b.n)*(gW (a.n) (b.n))))))
def jd(g:V->Bool)(i:Nat)(x:V)(s:Unit):(Unit)⊕(Nat×V×(Unit)):=
 if(g x)=true then .inr (i,x,s)else .inl ()
def gu(g:V->Bool)(l:List V):Int:=
 if(jS (lZ (jd g) l 0 ()))=true then -1 else(((BA (0,V0,()) (lZ (jd g) l 0 ())).1:Int))
def qI(g:V->Bool)(l:List V):Bool:=
 decide ((gu g l)>=0)
theorem a8d(g):∀(l) (i),jS (lZ (jd g) l i ())=!(l.any g)
 | [],i=>rfl
 |x::l,i=>by
  simp only[lZ,jd,aer];cases g x with
  |true=>rfl
  |false=>simpa using a8d g l (i+1)
theorem KN(g l):qI g l=l.any g:=by
 have:=a8d g l 0;unfold qI gu;rw[this];cases l.any g with
 |true=>simp
 |false=>simp
theorem Ui(g):∀(l) (i),jS (lZ (jd g) l i ())=false->(BA (0,V0,()) (lZ (jd g) l i ())).1<i+l.length/\l[(BA (0,V0,()) (lZ (jd g) l i ())).1-i]? = l.find? g/\i<=(BA (0,V0,()) (lZ (jd g) l i ())).1
 | [],i,h=>by cases h
 |x::l,i,h=>by
  simp only[lZ,jd]at h ⊢;by_cases hx:g x=true
  .simp only[hx,a2r,BA,a4T,air];refine⟨by omega,by simp,by omega⟩
  simp only[af6]at hx;simp only[hx,a3F,a3V,a4T,air]at h ⊢;obtain⟨h1,h2,h3⟩:=Ui g l (i+1) h;refine⟨by omega,?_,by omega⟩;rw[<-h2,show(BA (0,V0,()) (lZ (jd g) l (i+1) ())).1-i=((BA (0,V0,()) (lZ (jd g) l (i+1) ())).1-(i+1))+1 by omega];simp
theorem Sl(g l):gu g l<l.length:=by
 unfold gu;split
 .omega
 rename_i h;have:=(Ui g l 0 (by simpa using h)).1;omega
def VX(x:Int):Bool:=
 (x) != (x)
def KO(x:Int)(y:Int):Int:=
 if(decide ((x)<(y)))=true then -1 else if(decide ((x)>(y)))=true then 1 else 0
def Jc(f:Int):V:=
 (⟨f,0⟩:V)
def y9(x:Int)(lo:Int)(hi:Int):Bool:=
 if(decide ((x)<(lo)))=true then true else decide ((x)>(hi))
def Af(l:LI0)(lo:Int)(hi:Int):Bool:=
 !(l.any ((fun x=>y9 x lo hi)))
def sU(v:V):Bool:=
 if((v.f)==0)=true then Af (([v.n]:LI0)) (-9999) 9999 else if(decide ((v.f)<=4))=true then(v.n)==0 else false
def lN(k:Int):V:=
 if(!(Af (([k]:LI0)) (-9999) 9999))=true then Jc 2 else(⟨0,k⟩:V)
def Jd(is:Bool):V:=
 if is=true then lN 1 else lN 0
def Je(a:Int):V:=
 lN (i64.wrap (0-(a)))
def Jf(a:Int):V:=
 Jd ((a)==0)
def mD(v:V):Bool:=
 (v.f) != 0
def BH(v:V):Bool:=
 !(sU v)
def aW(l:List V):V×Bool:=
 if(decide ((gu ((fun v=>mD v)) l)<0))=true then((⟨0,0⟩:V),false)else((l.getD (gu ((fun v=>mD v)) l).toNat V0),true)
def gX(l:List V):Bool:=
 !(l.any ((fun v=>BH v)))
def gy(a:V)(b:V)(c:V):V×Int:=
 if(!(gX (([a,b,c]:List V))))=true then((⟨0,0⟩:V),2)else if((a.f) != 0)=true then(a,0)else if((a.n)==0)=true then(c,0)else(b,0)
def KP(a:Int)(b:Int):V:=
 lN (i64.wrap ((a)+(b)))
def KQ(a:Int)(b:Int):V:=
 lN (i64.wrap ((a)-(b)))
def KR(a:Int)(b:Int):V:=
 lN (i64.wrap ((a)*(b)))
def Ec(a:Int)(b:Int):Int:=
 a
def Ed(a:Int)(b:Int):Int:=
 b
def Ee(a:Int):Bool:=
 (a)==0
def Ef(a:Int):Bool:=
 decide ((a)<0)
def Eh(a:Int):Bool:=
 decide ((a)<=0)
def vS(a:Int)(b:Int):Int×Int:=
 if((PG .i64 (a) (b)) != 0)=true then if((decide ((PG .i64 (a) (b))<0)) != (decide ((b)<0)))=true then(i64.wrap ((Vt .i64 (a) (b))-1),i64.wrap ((PG .i64 (a) (b))+(b)))else(Vt .i64 (a) (b),PG .i64 (a) (b))else(Vt .i64 (a) (b),PG .i64 (a) (b))
def iQ(g:Int->Int->Int)(a:Int)(b:Int):V:=
 if((b)==0)=true then Jc 1 else lN (g ((vS a b).1) ((vS a b).2))
def dV(g:Int->Bool)(a:Int)(b:Int):V:=
 Jd (g (KO a b))
def sV(a:V):V×Int:=
 if(!(sU a))=true then((⟨0,0⟩:V),2)else if((aW (([a]:List V))).2)=true then((aW (([a]:List V))).1,0)else(Je a.n,0)
def sW(a:V):V×Int:=
 if(!(sU a))=true then((⟨0,0⟩:V),2)else if((aW (([a]:List V))).2)=true then((aW (([a]:List V))).1,0)else(Jf a.n,0)
def oQ(a:V)(b:V):V×Int:=
 if(!(gX (([a,b]:List V))))=true then((⟨0,0⟩:V),2)else if((aW (([a,b]:List V))).2)=true then((aW (([a,b]:List V))).1,0)else(KP a.n b.n,0)
def oU(a:V)(b:V):V×Int:=
 if(!(gX (([a,b]:List V))))=true then((⟨0,0⟩:V),2)else if((aW (([a,b]:List V))).2)=true then((aW (([a,b]:List V))).1,0)else(KQ a.n b.n,0)
def oV(a:V)(b:V):V×Int:=
 if(!(gX (([a,b]:List V))))=true then((⟨0,0⟩:V),2)else if((aW (([a,b]:List V))).2)=true then((aW (([a,b]:List V))).1,0)else(KR a.n b.n,0)
def mF(a:V)(b:V):V×Int:=
 if(!(gX (([a,b]:List V))))=true then((⟨0,0⟩:V),2)else if((aW (([a,b]:List V))).2)=true then((aW (([a,b]:List V))).1,0)else(iQ Ec (a.n) (b.n),0)
def mG(a:V)(b:V):V×Int:=
 if(!(gX (([a,b]:List V))))=true then((⟨0,0⟩:V),2)else if((aW (([a,b]:List V))).2)=true then((aW (([a,b]:List V))).1,0)else(iQ Ed (a.n) (b.n),0)
def mJ(a:V)(b:V):V×Int:=
 if(!(gX (([a,b]:List V))))=true then((⟨0,0⟩:V),2)else if((aW (([a,b]:List V))).2)=true then((aW (([a,b]:List V))).1,0)else(dV Ee (a.n) (b.n),0)
def mM(a:V)(b:V):V×Int:=
 if(!(gX (([a,b]:List V))))=true then((⟨0,0⟩:V),2)else if((aW (([a,b]:List V))).2)=true then((aW (([a,b]:List V))).1,0)else(dV Ef (a.n) (b.n),0)
def mO(a:V)(b:V):V×Int:=
 if(!(gX (([a,b]:List V))))=true then((⟨0,0⟩:V),2)else if((aW (([a,b]:List V))).2)=true then((aW (([a,b]:List V))).1,0)else(dV Eh (a.n) (b.n),0)
def uM(a:V)(b:V):V×Int:=
 ((gy a b (lN 0)).1,(gy a b (lN 0)).2)
def uN(a:V)(b:V):V×Int:=
 ((gy a (lN 1) b).1,(gy a (lN 1) b).2)
def He(code:Int)(a:V):V:=if code=5 then(sV a).1 else(sW a).1
def gY(code:Int)(a b:V):V:=
 if code=7 then(oQ a b).1 else if code=8 then(oU a b).1 else if code=9 then(oV a b).1 else if code=10 then(mF a b).1 else if code=11 then(mG a b).1 else if code=12 then(mJ a b).1 else if code=13 then(mM a b).1 else if code=14 then(mO a b).1 else if code=15 then(uM a b).1 else(uN a b).1
def Jg(code:Int)(a:V):V×Int:=if code=5 then sV a else sW a
def Jh(code:Int)(a b:V):V×Int:=if code=7 then oQ a b else if code=8 then oU a b else if code=9 then oV a b else if code=10 then mF a b else if code=11 then mG a b else if code=12 then mJ a b else if code=13 then mM a b else if code=14 then mO a b else if code=15 then uM a b else uN a b
theorem nine{p:Int}(h:7<=p/\p<=16):p=7\/p=8\/p=9\/p=10\/p=11\/p=12\/p=13\/p=14\/p=15\/p=16:=by omega
structure kC(v:V):Prop where
 f0:0<=v.f
 f1:v.f<=4
 n:v.f=0->-9999<=v.n/\v.n<=9999
 z:v.f≠0->v.n=0
theorem Yr(k):Af [k] (-9999) 9999=(decide (-9999<=k)&&decide (k<=9999)):=by
 simp only[Af,y9,aer,List.any_nil,Bool.or_false];by_cases h:k < -9999
 .simp[h];omega
 by_cases h2:k>9999<;>simp[h,h2]<;>omega
theorem oW{v}(h:kC v):sU v=true:=by
 obtain⟨f,n⟩:=v;have h0:=h.f0;have h1:=h.f1;have h2:=h.n;have h3:=h.z;simp only at h0 h1 h2 h3;unfold sU;simp only[Yr,a6E];by_cases hf:f=0
 .subst hf;simp;exact h2 rfl
 simp[hf,h1,h3 hf]
theorem akt{a b}(ha:kC a)(hb:kC b):(!(gX [a,b]))=false:=by simp[gX,BH,oW ha,oW hb]
theorem a0L{a b c}(ha:kC a)(hb:kC b)(hc:kC c):(!(gX [a,b,c]))=false:=by simp[gX,BH,oW ha,oW hb,oW hc]
theorem agI(a):aW [a]=if a.f≠0 then(a,true)else(⟨0,0⟩,false):=by
 by_cases h:a.f=0
 .simp[aW,gu,lZ,jd,mD,jS,BA,h]
 simp[aW,gu,lZ,jd,mD,jS,BA,h]
theorem agJ(a b):aW [a,b]=if a.f≠0 then(a,true)else if b.f≠0 then(b,true)else(⟨0,0⟩,false):=by
 by_cases h:a.f=0
 .by_cases h2:b.f=0
  .simp[aW,gu,lZ,jd,mD,jS,BA,h,h2]
  simp[aW,gu,lZ,jd,mD,jS,BA,h,h2]
 simp[aW,gu,lZ,jd,mD,jS,BA,h]
theorem uZ(k):lN k=qH k:=by
 unfold lN qH Jc mg eP;rw[Yr];by_cases h:k < -9999
 .rw[a18 (by simp;omega),a18 (by simpa using h)]
 rw[a0U (c:=decide (k < -9999)=true) (by simpa using h)];by_cases h2:k>9999
 .rw[a18 (by simp;omega),a18 (by simpa using h2)]
 rw[a0U (by simp;omega),a0U (by simpa using h2)]
theorem uO(k):kC (qH k):=by
 unfold qH mg eP;split
 .exact⟨by decide,by decide,by simp,by simp⟩
 split
 .exact⟨by decide,by decide,by simp,by simp⟩
 rename_i h1 h2;simp at h1 h2;exact⟨by simp,by simp,fun _=>by simp only;omega,by simp⟩
theorem Uj(b):Jd b=qg b:=by cases b<;>rfl
theorem EZ(b):kC (qg b):=by cases b<;>exact⟨by decide,by decide,fun _=>by decide,by decide⟩
theorem a4I{a b}(hb:b≠0):a.tmod b=0\/True->(gW a b=(if a.tmod b≠0/\(decide (a.tmod b<0) != decide (b<0))=true then a.tdiv b-1 else a.tdiv b))/\a-b*gW a b=(if a.tmod b≠0/\(decide (a.tmod b<0) != decide (b<0))=true then a.tmod b+b else a.tmod b)/\(a-b*gW a b).natAbs<b.natAbs:=by
 intro _;have hq:=@Int.tdiv_eq_ediv a b;have hr:=@Int.tmod_eq_emod a b;have hm:=Int.mul_ediv_add_emod a b;have h0:=ahR a hb;have h1:=Int.emod_lt a hb;have hd:b ∣ a↔a%b=0:=⟨Int.emod_eq_zero_of_dvd,Int.dvd_of_emod_eq_zero⟩;generalize a.tdiv b=T at *;generalize a.tmod b=R at *;generalize hE:a/b=e at *;generalize hM:a%b=m at *;unfold gW;have cT:0<=a\/b ∣ a->T=e/\R=m:=fun h=>by rw[a18 h]at hq hr;omega
 rcases Int.lt_or_gt_of_ne hb with yu|yu
 .rw[a18 yu];have hsg:b.sign=-1:=Int.sign_eq_neg_one_of_neg yu;have hna:(b.natAbs:Int)=-b:=by omega
  have cF:¬(0<=a\/b ∣ a)->T=e-1/\R=m+b:=fun h=>by rw[a0U h]at hq hr;omega
  rw[hna]at h1;by_cases SN:m=0
  .have u:=(Int.ediv_emod_unique (a:=-a) (b:=-b) (r:=0) (q:=e) (by omega)).2 ⟨by rw[Int.neg_mul];omega,by omega,by omega⟩;rw[u.1];obtain⟨c1,c2⟩:=cT (.inr (hd.2 SN));subst c1;subst c2;rw[a0U (by simp[SN]),a0U (by simp[SN])];omega
  have jG:¬b ∣ a:=fun h=>SN (hd.1 h);have e1:b*(e-1)=b*e-b:=by rw[Int.mul_sub,adf]
  have u:=(Int.ediv_emod_unique (a:=-a) (b:=-b) (r:=-b-m) (q:=e-1) (by omega)).2 ⟨by rw[Int.neg_mul,e1];omega,by omega,by omega⟩;rw[u.1,e1];by_cases ha:0<=a
  .obtain⟨c1,c2⟩:=cT (.inl ha);subst c1;subst c2;have hc:(R≠0/\(decide (R<0) != decide (b<0))=true):=⟨SN,by simp[yu];omega⟩;rw[a18 hc,a18 hc];omega
  obtain⟨c1,c2⟩:=cF (by simp[ha,jG]);have hc:¬(R≠0/\(decide (R<0) != decide (b<0))=true):=fun h=>by have:=h.2;simp[yu]at this;omega
  rw[a0U hc,a0U hc];omega
 rw[a0U (by omega),hE];have hsg:b.sign=1:=Int.sign_eq_one_of_pos yu;have hna:(b.natAbs:Int)=b:=by omega
 have cF:¬(0<=a\/b ∣ a)->T=e+1/\R=m-b:=fun h=>by rw[a0U h]at hq hr;omega
 rw[hna]at h1;by_cases hc0:0<=a\/b ∣ a
 .obtain⟨c1,c2⟩:=cT hc0;have hc:¬(R≠0/\(decide (R<0) != decide (b<0))=true):=fun h=>by have:=h.2;simp at this;omega
  rw[a0U hc,a0U hc];omega
 obtain⟨c1,c2⟩:=cF hc0;have SN:m≠0:=fun h=>hc0 (.inr (hd.2 h));have hc:(R≠0/\(decide (R<0) != decide (b<0))=true):=⟨by omega,by simp;omega⟩;rw[a18 hc,a18 hc];omega
theorem wr{z}(h1:-1000000000<=z)(h2:z<=1000000000):i64.wrap z=z:=wrap_small (by omega) (by omega)
theorem Yt{a b}(a0:-9999<=a)(a1:a<=9999)(b0:-9999<=b)(b1:b<=9999)(hb:b≠0):vS a b=(gW a b,a-b*gW a b)/\(-9999<=gW a b/\gW a b<=9999)/\(-9999<=a-b*gW a b/\a-b*gW a b<=9999)/\i64.wrap (a-i64.wrap (b*gW a b))=a-b*gW a b:=by
 obtain⟨h1,h2,h3⟩:=a4I (a:=a) hb (.inr trivial);have hna:(a.tdiv b).natAbs<=a.natAbs:=by rw[Int.natAbs_tdiv];exact Nat.div_le_self _ _
 have hq:Vt .i64 a b=a.tdiv b:=wr (by omega) (by omega);have hp:(b*gW a b).natAbs=b.natAbs*(gW a b).natAbs:=Int.natAbs_mul _ _;have hQ:(gW a b).natAbs<=9999:=by
  rcases a5l 9999 (gW a b).natAbs with h|h
  .have:=Nat.mul_le_mul_left b.natAbs (show 10000<=(gW a b).natAbs from h);generalize b*gW a b=p at *;generalize b.natAbs*(gW a b).natAbs=r at *;omega
  exact h
 refine⟨?_,by omega,by generalize b*gW a b=p at *;omega,?_⟩
 .unfold vS PG;rw[hq];have hw1:i64.wrap (a.tdiv b-1)=a.tdiv b-1:=wr (by omega) (by omega);have hrb:(a.tmod b).natAbs<=9999:=by rw[Int.natAbs_tmod];exact a5W (Nat.mod_le _ _) (by omega)
  have hw2:i64.wrap (a.tmod b+b)=a.tmod b+b:=wr (by omega) (by omega);rw[h2,h1,hw1,hw2];by_cases c1:a.tmod b=0
  .rw[a0U (by simp[c1]),a0U (by simp[c1]),a0U (by simp[c1])]
  rw[a18 (by simpa using c1)];by_cases c2:(decide (a.tmod b<0) != decide (b<0))=true
  .rw[a18 c2,a18 ⟨c1,c2⟩,a18 ⟨c1,c2⟩]
  rw[a0U c2,a0U (fun h=>c2 h.2),a0U (fun h=>c2 h.2)]
 rw[wr (z:=b*gW a b) (by generalize b*gW a b=p at *;omega) (by generalize b*gW a b=p at *;omega)];exact wr (by generalize b*gW a b=p at *;omega) (by generalize b*gW a b=p at *;omega)
theorem Qv{k}(h1:-9999<=k)(h2:k<=9999):qH k=eP k:=by unfold qH;rw[a0U (by simp;omega),a0U (by simp;omega)]
theorem jP{g:Int->Int->V}{a b}(ha:kC a)(hb:kC b):(if(!(gX [a,b]))=true then((⟨0,0⟩:V),(2:Int))else if(aW [a,b]).2=true then((aW [a,b]).1,0)else(g a.n b.n,0)).1=if a.f≠0 then a else if b.f≠0 then b else g a.n b.n:=by
 rw[akt ha hb,agJ];by_cases h:a.f=0
 .by_cases h2:b.f=0<;>simp[h,h2]
 simp[h]
theorem VY{g:Int->V}{a}(ha:kC a):(if(!(sU a))=true then((⟨0,0⟩:V),(2:Int))else if(aW [a]).2=true then((aW [a]).1,0)else(g a.n,0)).1=if a.f≠0 then a else g a.n:=by rw[oW ha,agI];by_cases h:a.f=0<;>simp[h]
theorem zD{a}(ha:kC a)(h:a.f≠0):decide (a.f>0)=true:=by have:=ha.f0;simp;omega
theorem Ji{k}(h1:-9999<=k)(h2:k<=9999):kC (eP k):=⟨by simp[eP],by simp[eP],fun _=>⟨h1,h2⟩,fun h=>by simp[eP]at h⟩
theorem div_eq{a b}(ha:kC a)(hb:kC b)(h:a.f=0)(h2:b.f=0):iQ Ec a.n b.n=(if(b.n==0)=true then mg 1 else eP (gW a.n b.n))/\kC (if(b.n==0)=true then mg 1 else eP (gW a.n b.n)):=by
 have a9:=ha.n h;have b9:=hb.n h2;unfold iQ Ec;by_cases hz:b.n=0
 .rw[a18 (by simpa using hz),a18 (by simpa using hz)];exact⟨rfl,⟨by decide,by decide,by decide,by decide⟩⟩
 obtain⟨q1,q2,_,_⟩:=Yt a9.1 a9.2 b9.1 b9.2 hz;rw[a0U (by simpa using hz),a0U (by simpa using hz),q1,uZ,Qv q2.1 q2.2];exact⟨rfl,Ji q2.1 q2.2⟩
theorem mod_eq{a b}(ha:kC a)(hb:kC b)(h:a.f=0)(h2:b.f=0):iQ Ed a.n b.n=(if(b.n==0)=true then mg 1 else eP (i64.wrap (a.n-i64.wrap (b.n*gW a.n b.n))))/\kC (if(b.n==0)=true then mg 1 else eP (i64.wrap (a.n-i64.wrap (b.n*gW a.n b.n)))):=by
 have a9:=ha.n h;have b9:=hb.n h2;unfold iQ Ed;by_cases hz:b.n=0
 .rw[a18 (by simpa using hz),a18 (by simpa using hz)];exact⟨rfl,⟨by decide,by decide,by decide,by decide⟩⟩
 obtain⟨q1,_,q3,q4⟩:=Yt a9.1 a9.2 b9.1 b9.2 hz;rw[a0U (by simpa using hz),a0U (by simpa using hz),q1,uZ,q4,Qv q3.1 q3.2];exact⟨rfl,Ji q3.1 q3.2⟩
theorem agK(a b):dV Ee a b=qg (a==b)/\dV Ef a b=qg (decide (a<b))/\dV Eh a b=qg (decide (a<=b)):=by
 unfold dV Ee Ef Eh KO;simp only[Uj];rcases Int.lt_trichotomy a b with h|h|h
 .have:(a==b)=false:=by simp;omega
  simp[h,this,afu h]
 .subst h;simp
 have h1:¬a<b:=by omega
 have h2:(a==b)=false:=by simp;omega
 have h3:¬a<=b:=by omega
 simp[h,h1,h2,h3]
theorem agL{k}(h7:7<=k/\k<=16){a b}(ha:kC a)(hb:kC b):gY k a b=bJ k a b/\kC (bJ k a b):=by
 have e15:a.f=0->gY 15 a b=bJ 15 a b/\kC (bJ 15 a b):=fun h=>by
  rw[show gY 15 a b=(uM a b).1 from rfl,show bJ 15 a b=(if(a.n==0)=true then a else b) by simp[bJ,h]];unfold uM gy;rw[a0L ha hb (uZ 0▸uO 0)];by_cases hz:a.n=0
  .have:a=⟨0,0⟩:=by obtain⟨f,n⟩:=a;simp only at h hz;rw[h,hz]
   subst this;exact⟨rfl,ha⟩
  simp[h,hz];exact hb
 have e16:a.f=0->gY 16 a b=bJ 16 a b/\kC (bJ 16 a b):=fun h=>by
  rw[show gY 16 a b=(uN a b).1 from rfl,show bJ 16 a b=(if(a.n != 0)=true then eP 1 else b) by simp[bJ,h]];unfold uN gy;rw[a0L ha (uZ 1▸uO 1) hb];by_cases hz:a.n=0
  .simp[h,hz];exact hb
  simp[h,hz];exact⟨rfl,Ji (by decide) (by decide)⟩
 by_cases h:a.f=0
 .by_cases h2:b.f=0
  .have d:=div_eq ha hb h h2;have m:=mod_eq ha hb h h2;have c:=agK a.n b.n;rcases nine h7 with rfl|rfl|rfl|rfl|rfl|rfl|rfl|rfl|rfl|rfl
   .rw[show gY 7 a b=(oQ a b).1 from rfl,show bJ 7 a b=qH (i64.wrap (a.n+b.n)) by simp[bJ,h,h2]];unfold oQ;rw[jP (g:=fun x y=>KP x y) ha hb];simp only[h,h2,ne_eq,a7u,a3V,KP,uZ];exact⟨trivial,uO _⟩
   .rw[show gY 8 a b=(oU a b).1 from rfl,show bJ 8 a b=qH (i64.wrap (a.n-b.n)) by simp[bJ,h,h2]];unfold oU;rw[jP (g:=fun x y=>KQ x y) ha hb];simp only[h,h2,ne_eq,a7u,a3V,KQ,uZ];exact⟨trivial,uO _⟩
   .rw[show gY 9 a b=(oV a b).1 from rfl,show bJ 9 a b=qH (i64.wrap (a.n*b.n)) by simp[bJ,h,h2]];unfold oV;rw[jP (g:=fun x y=>KR x y) ha hb];simp only[h,h2,ne_eq,a7u,a3V,KR,uZ];exact⟨trivial,uO _⟩
   .rw[show gY 10 a b=(mF a b).1 from rfl,show bJ 10 a b=(if(b.n==0)=true then mg 1 else eP (gW a.n b.n)) by simp[bJ,h,h2]];unfold mF;rw[jP (g:=fun x y=>iQ Ec x y) ha hb];simp only[h,h2,ne_eq,a7u,a3V];exact d
   .rw[show gY 11 a b=(mG a b).1 from rfl,show bJ 11 a b=(if(b.n==0)=true then mg 1 else eP (i64.wrap (a.n-i64.wrap (b.n*gW a.n b.n)))) by simp[bJ,h,h2]];unfold mG;rw[jP (g:=fun x y=>iQ Ed x y) ha hb];simp only[h,h2,ne_eq,a7u,a3V];exact m
   .rw[show gY 12 a b=(mJ a b).1 from rfl,show bJ 12 a b=qg (a.n==b.n) by simp[bJ,h,h2]];unfold mJ;rw[jP (g:=fun x y=>dV Ee x y) ha hb];simp only[h,h2,ne_eq,a7u,a3V];exact⟨c.1,EZ _⟩
   .rw[show gY 13 a b=(mM a b).1 from rfl,show bJ 13 a b=qg (decide (a.n<b.n)) by simp[bJ,h,h2]];unfold mM;rw[jP (g:=fun x y=>dV Ef x y) ha hb];simp only[h,h2,ne_eq,a7u,a3V];exact⟨c.2.1,EZ _⟩
   .rw[show gY 14 a b=(mO a b).1 from rfl,show bJ 14 a b=qg (decide (a.n<=b.n)) by simp[bJ,h,h2]];unfold mO;rw[jP (g:=fun x y=>dV Eh x y) ha hb];simp only[h,h2,ne_eq,a7u,a3V];exact⟨c.2.2,EZ _⟩
   .exact e15 h
   exact e16 h
  rcases nine h7 with rfl|rfl|rfl|rfl|rfl|rfl|rfl|rfl|rfl|rfl
  .rw[show gY 7 a b=(oQ a b).1 from rfl,show bJ 7 a b=b by simp[bJ,h,zD hb h2]];unfold oQ;rw[jP (g:=fun x y=>KP x y) ha hb];simp only[h,h2,ne_eq,a7u,a5T,a3V,a2r];exact⟨trivial,hb⟩
  .rw[show gY 8 a b=(oU a b).1 from rfl,show bJ 8 a b=b by simp[bJ,h,zD hb h2]];unfold oU;rw[jP (g:=fun x y=>KQ x y) ha hb];simp only[h,h2,ne_eq,a7u,a5T,a3V,a2r];exact⟨trivial,hb⟩
  .rw[show gY 9 a b=(oV a b).1 from rfl,show bJ 9 a b=b by simp[bJ,h,zD hb h2]];unfold oV;rw[jP (g:=fun x y=>KR x y) ha hb];simp only[h,h2,ne_eq,a7u,a5T,a3V,a2r];exact⟨trivial,hb⟩
  .rw[show gY 10 a b=(mF a b).1 from rfl,show bJ 10 a b=b by simp[bJ,h,zD hb h2]];unfold mF;rw[jP (g:=fun x y=>iQ Ec x y) ha hb];simp only[h,h2,ne_eq,a7u,a5T,a3V,a2r];exact⟨trivial,hb⟩
  .rw[show gY 11 a b=(mG a b).1 from rfl,show bJ 11 a b=b by simp[bJ,h,zD hb h2]];unfold mG;rw[jP (g:=fun x y=>iQ Ed x y) ha hb];simp only[h,h2,ne_eq,a7u,a5T,a3V,a2r];exact⟨trivial,hb⟩
  .rw[show gY 12 a b=(mJ a b).1 from rfl,show bJ 12 a b=b by simp[bJ,h,zD hb h2]];unfold mJ;rw[jP (g:=fun x y=>dV Ee x y) ha hb];simp only[h,h2,ne_eq,a7u,a5T,a3V,a2r];exact⟨trivial,hb⟩
  .rw[show gY 13 a b=(mM a b).1 from rfl,show bJ 13 a b=b by simp[bJ,h,zD hb h2]];unfold mM;rw[jP (g:=fun x y=>dV Ef x y) ha hb];simp only[h,h2,ne_eq,a7u,a5T,a3V,a2r];exact⟨trivial,hb⟩
  .rw[show gY 14 a b=(mO a b).1 from rfl,show bJ 14 a b=b by simp[bJ,h,zD hb h2]];unfold mO;rw[jP (g:=fun x y=>dV Eh x y) ha hb];simp only[h,h2,ne_eq,a7u,a5T,a3V,a2r];exact⟨trivial,hb⟩
  .exact e15 h
  exact e16 h
 rcases nine h7 with rfl|rfl|rfl|rfl|rfl|rfl|rfl|rfl|rfl|rfl
 .rw[show gY 7 a b=(oQ a b).1 from rfl,show bJ 7 a b=a by simp[bJ,zD ha h]];unfold oQ;rw[jP (g:=fun x y=>KP x y) ha hb];simp only[h,ne_eq,a7u,a5T,a2r];exact⟨trivial,ha⟩
 .rw[show gY 8 a b=(oU a b).1 from rfl,show bJ 8 a b=a by simp[bJ,zD ha h]];unfold oU;rw[jP (g:=fun x y=>KQ x y) ha hb];simp only[h,ne_eq,a7u,a5T,a2r];exact⟨trivial,ha⟩
 .rw[show gY 9 a b=(oV a b).1 from rfl,show bJ 9 a b=a by simp[bJ,zD ha h]];unfold oV;rw[jP (g:=fun x y=>KR x y) ha hb];simp only[h,ne_eq,a7u,a5T,a2r];exact⟨trivial,ha⟩
 .rw[show gY 10 a b=(mF a b).1 from rfl,show bJ 10 a b=a by simp[bJ,zD ha h]];unfold mF;rw[jP (g:=fun x y=>iQ Ec x y) ha hb];simp only[h,ne_eq,a7u,a5T,a2r];exact⟨trivial,ha⟩
 .rw[show gY 11 a b=(mG a b).1 from rfl,show bJ 11 a b=a by simp[bJ,zD ha h]];unfold mG;rw[jP (g:=fun x y=>iQ Ed x y) ha hb];simp only[h,ne_eq,a7u,a5T,a2r];exact⟨trivial,ha⟩
 .rw[show gY 12 a b=(mJ a b).1 from rfl,show bJ 12 a b=a by simp[bJ,zD ha h]];unfold mJ;rw[jP (g:=fun x y=>dV Ee x y) ha hb];simp only[h,ne_eq,a7u,a5T,a2r];exact⟨trivial,ha⟩
 .rw[show gY 13 a b=(mM a b).1 from rfl,show bJ 13 a b=a by simp[bJ,zD ha h]];unfold mM;rw[jP (g:=fun x y=>dV Ef x y) ha hb];simp only[h,ne_eq,a7u,a5T,a2r];exact⟨trivial,ha⟩
 .rw[show gY 14 a b=(mO a b).1 from rfl,show bJ 14 a b=a by simp[bJ,zD ha h]];unfold mO;rw[jP (g:=fun x y=>dV Eh x y) ha hb];simp only[h,ne_eq,a7u,a5T,a2r];exact⟨trivial,ha⟩
 .rw[show gY 15 a b=(uM a b).1 from rfl,show bJ 15 a b=a by simp[bJ,zD ha h]];unfold uM gy;rw[a0L ha hb (uZ 0▸uO 0)];simp[h];exact ha
 rw[show gY 16 a b=(uN a b).1 from rfl,show bJ 16 a b=a by simp[bJ,zD ha h]];unfold uN gy;rw[a0L ha (uZ 1▸uO 1) hb];simp[h];exact ha
theorem agM{k}(hk:k=5\/k=6){a}(ha:kC a):He k a=xZ k a/\kC (xZ k a):=by
 by_cases h:a.f=0
 .have a9:=ha.n h;have hw:i64.wrap (0-a.n)=0-a.n:=wr (by omega) (by omega);rcases hk with rfl|rfl
  .rw[show He 5 a=(sV a).1 from rfl,show xZ 5 a=eP (i64.wrap (0-a.n)) by simp[xZ,h]];unfold sV;rw[VY (g:=fun x=>Je x) ha];simp only[h,ne_eq,a7u,a3V,Je,uZ];rw[hw,Qv (by omega) (by omega)];exact⟨rfl,Ji (by omega) (by omega)⟩
  rw[show He 6 a=(sW a).1 from rfl,show xZ 6 a=qg (a.n==0) by simp[xZ,h]];unfold sW;rw[VY (g:=fun x=>Jf x) ha];simp only[h,ne_eq,a7u,a3V,Jf,Uj];exact⟨trivial,EZ _⟩
 rcases hk with rfl|rfl
 .rw[show He 5 a=(sV a).1 from rfl,show xZ 5 a=a by simp[xZ,zD ha h]];unfold sV;rw[VY (g:=fun x=>Je x) ha];simp only[h,ne_eq,a5T,a2r];exact⟨trivial,ha⟩
 rw[show He 6 a=(sW a).1 from rfl,show xZ 6 a=a by simp[xZ,zD ha h]];unfold sW;rw[VY (g:=fun x=>Jf x) ha];simp only[h,ne_eq,a5T,a2r];exact⟨trivial,ha⟩
theorem a4J{a b c}(ha:kC a)(hb:kC b)(hc:kC c):(gy a b c).1=KL a b c/\kC (KL a b c):=by
 unfold gy KL;rw[a0L ha hb hc];by_cases h:a.f=0
 .by_cases hz:a.n=0
  .simp[h,hz];exact hc
  simp[h,hz];exact hb
 have:=zD ha h;simp only[a1F]at this;simp[h,this];exact ha
open Go.Shelf
def a4K:Go.Shelf.Ren:=⟨fun| 189=>137| 125=>180| 257=>179| 128=>216| 129=>217| 294=>207| 295=>208| 296=>209| 297=>210| 298=>211| 299=>212| 216=>213| 300=>214| 301=>215| 328=>229| 329=>230| 330=>231| 331=>232| 332=>233| 215=>219| 343=>235|n=>n,fun| 28=>22| 3=>3| 46=>184| 0=>0| 51=>204| 53=>207| 4=>4| 183=>212| 182=>211| 131=>152| 5=>5| 9=>9| 218=>227| 222=>231| 228=>233| 229=>192|n=>n,fun|n=>n⟩
theorem adC:Lays.n189 Tryz.prog a4K where
 mixed:=by kernel_rfl
 f125:=Tryz.func180.trans (congrArg some (by kernel_rfl))
 f128:=Tryz.func216.trans (congrArg some (by kernel_rfl))
 f129:=Tryz.func217.trans (congrArg some (by kernel_rfl))
 f189:=Tryz.func137.trans (congrArg some (by kernel_rfl))
 f215:=Tryz.func219.trans (congrArg some (by kernel_rfl))
 f216:=Tryz.func213.trans (congrArg some (by kernel_rfl))
 f257:=Tryz.func179.trans (congrArg some (by kernel_rfl))
 f294:=Tryz.func207.trans (congrArg some (by kernel_rfl))
 f295:=Tryz.func208.trans (congrArg some (by kernel_rfl))
 f296:=Tryz.func209.trans (congrArg some (by kernel_rfl))
 f297:=Tryz.func210.trans (congrArg some (by kernel_rfl))
 f298:=Tryz.func211.trans (congrArg some (by kernel_rfl))
 f299:=Tryz.func212.trans (congrArg some (by kernel_rfl))
 f300:=Tryz.func214.trans (congrArg some (by kernel_rfl))
 f301:=Tryz.func215.trans (congrArg some (by kernel_rfl))
 f328:=Tryz.func229.trans (congrArg some (by kernel_rfl))
 f329:=Tryz.func230.trans (congrArg some (by kernel_rfl))
 f330:=Tryz.func231.trans (congrArg some (by kernel_rfl))
 f331:=Tryz.func232.trans (congrArg some (by kernel_rfl))
 f332:=Tryz.func233.trans (congrArg some (by kernel_rfl))
 f343:=Tryz.func235.trans (congrArg some (by kernel_rfl))
 t0:=Tryz.underlying0
 a0:=Tryz.isAgg0
 z0:=Tryz.sizeOf0
 v0:=Tryz.zeroValue0
 t3:=Tryz.underlying3
 a3:=Tryz.isAgg3
 z3:=Tryz.sizeOf3
 v3:=Tryz.zeroValue3
 t4:=Tryz.underlying4
 a4:=Tryz.isAgg4
 z4:=Tryz.sizeOf4
 v4:=Tryz.zeroValue4
 t5:=Tryz.underlying5
 a5:=Tryz.isAgg5
 z5:=Tryz.sizeOf5
 v5:=Tryz.zeroValue5
 t9:=Tryz.underlying9
 a9:=Tryz.isAgg9
 z9:=Tryz.sizeOf9
 v9:=Tryz.zeroValue9
 t28:=Tryz.underlying22
 a28:=Tryz.isAgg22
 z28:=Tryz.sizeOf22
 v28:=Tryz.zeroValue22
 t46:=Tryz.underlying184
 a46:=Tryz.isAgg184
 z46:=Tryz.sizeOf184
 v46:=Tryz.zeroValue184
 t51:=Tryz.underlying204
 a51:=Tryz.isAgg204
 z51:=Tryz.sizeOf204
 v51:=Tryz.zeroValue204
 t53:=Tryz.underlying207
 a53:=Tryz.isAgg207
 z53:=Tryz.sizeOf207
 v53:=Tryz.zeroValue207
 t131:=Tryz.underlying152
 a131:=Tryz.isAgg152
 z131:=Tryz.sizeOf152
 v131:=Tryz.zeroValue152
 t182:=Tryz.underlying211
 a182:=Tryz.isAgg211
 z182:=Tryz.sizeOf211
 v182:=Tryz.zeroValue211
 t183:=Tryz.underlying212
 a183:=Tryz.isAgg212
 z183:=Tryz.sizeOf212
 v183:=Tryz.zeroValue212
 t218:=Tryz.underlying227
 a218:=Tryz.isAgg227
 z218:=Tryz.sizeOf227
 v218:=Tryz.zeroValue227
 t222:=Tryz.underlying231
 a222:=Tryz.isAgg231
 z222:=Tryz.sizeOf231
 v222:=Tryz.zeroValue231
 t228:=Tryz.underlying233
 a228:=Tryz.isAgg233
 z228:=Tryz.sizeOf233
 v228:=Tryz.zeroValue233
 t229:=Tryz.underlying192
 a229:=Tryz.isAgg192
 z229:=Tryz.sizeOf192
 v229:=Tryz.zeroValue192
open Go.RowKit Go.Lib Go.Proofs
section
variable{P:LI1}
theorem qJ(w dT sT ty elem b o dLen dCap a sLen sCap cs sz k)(hu:P.underlying dT=some (.slice elem)) (hs:(P.info? elem).map (·.size)=some sz) (hk:Nat.min sLen dLen=k) (hn:cs.length=k*sz)(lC:∀j v,cs[j]? = some v->w.cell? (a.add j)=some v) (hc:∀j,j<cs.length->(w.cell? ⟨b,o+j,none⟩).isSome=true) (hf:∀j,j<cs.length->w.frozen? ⟨b,o+j,none⟩=false) (h1:∀v∈cs,v.oneCell'=true) :(Builtin.copy_ #[dT,sT] ty #[.slice (some ⟨b,o,none⟩) dLen dCap,.slice (some a) sLen sCap]).run P w=.ok (goInt k) (w.setCells b o cs):=by
 have hl:=run_loadCells_list (P:=P) w a cs lC;have vH:=run_storeCells_cells (P:=P) b o cs 0 w (by simpa using hc) (by simpa using hf) h1;cases hq:P.info? elem with
 |none=>simp[hq]at hs
 |some i=>
  have hi:i.size=sz:=by simpa[hq]using hs
  rw[hn]at hl;simp[Builtin.copy_,run_underlying hu,Builtin.lenOf,Builtin.firstCells,sizeOf,typeInfo,hq,hi,hk,hl,vH]
end
set_option maxHeartbeats 4000000 in
set_option maxRecDepth 100000 in
theorem a0M(b n c vb rH vc cs vs w)(hn:0<n)(xC:n+1<=c)(aku:c<=9223372036854775807)(hvb:vb≠b)(nV:cs.length=n*5) (hvl:vs.length=5)(JQ:∀j v,cs[j]? = some v->w.cell? ⟨b,j,none⟩=some v) (hsp:∀j,j<(n+1)*5->(w.cell? ⟨b,j,none⟩).isSome=true) (hfz:∀j,j<(n+1)*5->w.frozen? ⟨b,j,none⟩=false)(RH:∀j v,vs[j]? = some v->w.cell? ⟨vb,rH+j,none⟩=some v) (h1c:∀v∈cs,v.oneCell'=true) (h1v:∀v∈vs,v.oneCell'=true)(tA tB kA kB) (hsa:w.shape? vb=some (tA,kA)) (hsb:w.shape? b=some (tB,kB)) (hkB:kB≠0) (hfa:w.frozen? ⟨vb,rH,none⟩=false) (hfe:w.frozen? ⟨vb,kA,none⟩=false) :Calls Tryz.prog 118 #[.slice (some ⟨b,0,none⟩) n c,.int .i64 0,.slice (some ⟨vb,rH,none⟩) 1 vc] w fun e w'=> e=.returned (.slice (some ⟨b,0,none⟩) (n+1) c)/\w'=(w.drew.setCells b 5 cs).setCells b 0 vs:=by
 have qX:(Tryz.prog.info? 26).map (·.size)=some 5:=by kernel_rfl
 have hov:∀lb cb,(callFunc 170 #[.slice (some ⟨vb,rH,none⟩) 1 vc,.slice (some ⟨b,5,none⟩) lb cb]).run Tryz.prog w=.ok (.value (.bool false)) w:=fun lb cb=>by
  rw[run_callFunc_extern Tryz.func170 (by kernel_rfl) (by kernel_rfl) (by kernel_rfl) (e:=Extern.SlicesOverlaps.overlaps #[56,56] #[4]) (by kernel_rfl),
   Lib.run_overlaps_apart w 56 4 26 Tryz.underlying56 5 Tryz.sizeOf26 ⟨vb,rH,none⟩ ⟨b,5,none⟩ 1 vc lb cb hvb tA tB kA kB hsa hsb hkB hfa hfe]
  rfl
 have hz2:¬((0:Int)=(n:Int)):=by omega
 have akw:∀ty dc sc,(Builtin.copy_ #[56,56] ty #[.slice (some ⟨b,5,none⟩) n dc,.slice (some ⟨b,0,none⟩) (n+1) sc]).run Tryz.prog w.drew=.ok (goInt n) (w.drew.setCells b 5 cs):=fun ty dc sc=>
  qJ w.drew _ _ ty 26 b 5 n dc ⟨b,0,none⟩ (n+1) sc cs 5 n Tryz.underlying56 qX (by simp only[Nat.min_def];split<;>omega) nV
   (fun j v hj=>by rw[Addr.add_lit,a3O];exact JQ j v hj)
   (fun j hj=>hsp _ (by omega)) (fun j hj=>hfz _ (by omega)) h1c
 obtain⟨W1,hW1⟩:∃W1,W1=w.drew.setCells b 5 cs:=⟨_,rfl⟩;have aqE:∀k,k<(n+1)*5->(W1.cell? ⟨b,k,none⟩).isSome=true:=fun k hk=>by rw[hW1];exact isSome_setCells b cs 5 w.drew (fun j hj=>hsp (5+j) (by omega)) k (hsp k hk)
 have aqF:∀(W:LI4),(∀x,W.cell? x=W1.cell? x)->(∀x,W.frozen? x=W1.frozen? x)->∀ty dc,(Builtin.copy_ #[56,56] ty #[.slice (some ⟨b,0,none⟩) (n+1) dc,.slice (some ⟨vb,rH,none⟩) 1 vc]).run Tryz.prog W=.ok (goInt 1) (W.setCells b 0 vs):=fun W hWc hWf ty dc=>
  qJ W _ _ ty 26 b 0 (n+1) dc ⟨vb,rH,none⟩ 1 vc vs 5 1 Tryz.underlying56 qX (by simp only[Nat.min_def];split<;>omega) (by omega)
   (fun j v hj=>by rw[Addr.add_lit,hWc,hW1,World.cell?_setCells_out b _ _ _ _ (fun h _=>absurd h hvb)];exact RH j v hj)
   (fun j hj=>by rw[hWc];exact aqE _ (by omega)) (fun j hj=>by rw[hWf,hW1,World.frozen?_setCells];exact hfz _ (by omega)) h1v
 rw[<-hW1]at akw;have hw1:i64.wrap ((n:Int)+1)=(n:Int)+1:=by rw[IntKind.wrap_i64];omega
 have mixed:Tryz.prog.follows .mixedOrders=true:=by kernel_rfl
 have hw3:i64.wrap 1=1:=by decide
 have CU:(1:Int)<=(n:Int)+1:=by omega
 have hb3:(0:Int)<=(n:Int)+1:=by omega
 have hc1:¬(c=1):=by omega
 have hc0:¬(c=0):=by omega
 go_enter Tryz.func118,Tryz.ntmps118
 go_wp2_with (simp only[hov])
 go_region_law_o (refine step_copy_runI rfl _ _ 56 56 rfl _ _ (by simp[Act.eval,Act.put]) (by simp[Act.eval,Act.put]) (akw _ _ _) ?_)
 go_wp2_with (at_builtin;refine wpList_copy_runI _ rfl _ _ 56 56 rfl _ _ rfl rfl (aqF _ (fun _=>rfl) (fun _=>rfl) _ _) ?_)
 go_ret
 first|exact⟨rfl,rfl⟩|exact⟨rfl,by rw[hW1]⟩
abbrev Qw:LI3:=.agg #[.slice none 0 0,.slice none 0 0,.slice none 0 0,.slice none 0 0,.int .i64 0]
theorem a8e:(Tryz.prog.info? 26).map (fun i=>(i.zero,i.size,i.bytes))=some (some Qw,5,104):=by kernel_rfl
set_option maxHeartbeats 4000000 in
set_option maxRecDepth 100000 in
theorem a4L(b n c vb rH vc cs vs w)(hn:0<n)(hnc:n<=c)(xC:c<n+1)(Fz:n<=2^20)(nV:cs.length=n*5) (hvl:vs.length=5)(JQ:∀j v,cs[j]? = some v->w.cell? ⟨b,j,none⟩=some v)(RH:∀j v,vs[j]? = some v->w.cell? ⟨vb,rH+j,none⟩=some v) (h1c:∀v∈cs,v.oneCell'=true) (h1v:∀v∈vs,v.oneCell'=true) :Calls Tryz.prog 118 #[.slice (some ⟨b,0,none⟩) n c,.int .i64 0,.slice (some ⟨vb,rH,none⟩) 1 vc] w fun e w'=> e=.returned (.slice (some ⟨w.heap.size,0,none⟩) (n+1) (grownCap w (n+1) c 26)) /\w'=(((w.alloc (.cells (Builtin.zeroCells Qw.cells (n+1)++Builtin.zeroCells Qw.cells (grownCap w (n+1) c 26-(n+1))) 26)).drew.setCells w.heap.size 0 vs).drew).setCells w.heap.size 5 cs:=by
 obtain⟨i0,hi0,hz0,hzs,hzb⟩:=info_parts a8e;have hz2:¬((0:Int)=(n:Int)):=by omega
 have hz3:(c:Int)<(n:Int)+1:=by omega
 have qX:(Tryz.prog.info? 26).map (·.size)=some 5:=by kernel_rfl
 have hbw:b<w.heap.size:=block_lt_of_cell (JQ 0 _ (a0N (by omega)));have hvw:vb<w.heap.size:=block_lt_of_cell (RH 0 _ (a0N (by omega)));have hold:(Builtin.firstCells i0.size 0 (.slice (some ⟨b,0,none⟩) 0 c)).run Tryz.prog w.drew=.ok ([]:List LI3).toArray w.drew:=by rw[hzs];exact run_firstCells_some w.drew 5 0 ⟨b,0,none⟩ 0 c [] (by simp) (fun j v hj=>by simp at hj)
 have hrz:∀ty,(Builtin.append_ #[56,3] ty #[.slice (some ⟨b,0,none⟩) 0 c,.int .i64 ((n:Int)+1)]).run Tryz.prog w =
   .ok (.slice (some ⟨w.heap.size,0,none⟩) (n+1) (grownCap w (n+1) c 26)) (w.drew.alloc (.cells (Builtin.zeroCells Qw.cells (n+1)++Builtin.zeroCells Qw.cells (grownCap w (n+1) c 26-(n+1))) 26)):=fun ty=>by
  have h:=Lib.run_append_grow_zeros w 56 3 ty 26 i0 _ .i64 .i64 Tryz.underlying56 Tryz.underlying3 hi0 hz0 (some ⟨b,0,none⟩) 0 c [] hold (n+1) (by omega) (by rw[hzs];omega) (by omega) (by omega) (by rw[hzb];omega) (by rw[hzb,a3O];exact growslice_fits xC (by omega));rw[a3O]at h;simpa using h
 obtain⟨G,hG⟩:∃G,G=grownCap w (n+1) c 26:=⟨_,rfl⟩;obtain⟨ROW,hROW⟩:∃ROW:Array LI3,ROW=Builtin.zeroCells Qw.cells (n+1)++Builtin.zeroCells Qw.cells (G-(n+1)):=⟨_,rfl⟩;rw[<-hG]at hrz ⊢;rw[<-hROW]at hrz ⊢;have hRl:(n+1)*5<=ROW.size:=by rw[hROW];simp[Builtin.zeroCells,Value.cells]
 obtain⟨W1,hW1⟩:∃W1,W1=w.drew.alloc (.cells ROW 26):=⟨_,rfl⟩;rw[<-hW1]at hrz;have hN:∀j,j<(n+1)*5->(W1.cell? ⟨w.heap.size,j,none⟩).isSome=true:=fun j hj=>by rw[hW1,World.cell?_alloc_at (w:=w.drew) ROW _ w.heap.size j rfl,a4v (by omega)];rfl
 have hNf:∀j,W1.frozen? ⟨w.heap.size,j,none⟩=false:=fun j=>by rw[hW1];exact World.frozen?_alloc_at (w:=w.drew) ROW _ w.heap.size j rfl
 have hOb:∀j v,w.cell? ⟨b,j,none⟩=some v->W1.cell? ⟨b,j,none⟩=some v:=fun j v h=>by rw[hW1,World.cell?_alloc_past (w:=w.drew) _ b j hbw];exact h
 have hOv:∀j v,w.cell? ⟨vb,j,none⟩=some v->W1.cell? ⟨vb,j,none⟩=some v:=fun j v h=>by rw[hW1,World.cell?_alloc_past (w:=w.drew) _ vb j hvw];exact h
 have aqG:∀(W:LI4),(∀x,W.cell? x=W1.cell? x)->(∀x,W.frozen? x=W1.frozen? x)->∀ty dc,(Builtin.copy_ #[56,56] ty #[.slice (some ⟨w.heap.size,0,none⟩) (n+1) dc,.slice (some ⟨vb,rH,none⟩) 1 vc]).run Tryz.prog W=.ok (goInt 1) (W.setCells w.heap.size 0 vs):=fun W hWc hWf ty dc=>
  qJ W _ _ ty 26 w.heap.size 0 (n+1) dc ⟨vb,rH,none⟩ 1 vc vs 5 1 Tryz.underlying56 qX (by simp only[Nat.min_def];split<;>omega) (by omega)
   (fun j v hj=>by rw[Addr.add_lit,hWc];exact hOv _ v (RH j v hj))
   (fun j hj=>by rw[hWc];exact hN _ (by omega)) (fun j hj=>by rw[hWf];exact hNf _) h1v
 have hGn:n+1<=G:=by rw[hG];exact grownCap_ge w _ _ _
 have awO:G<=9223372036854775807:=by have:=grownCap_le_maxLen w (n+1) c 26 (by unfold maxLen;omega);rw[<-hG]at this;unfold maxLen at this;omega
 have hG0:¬(G=0):=by omega
 have hG1:¬(G=1):=by omega
 have hc0:¬(c=0):=by omega
 have hbN:b≠w.heap.size:=by omega
 have aky:∀(W:LI4),(∀x,W.cell? x=(W1.setCells w.heap.size 0 vs).cell? x)->(∀x,W.frozen? x=(W1.setCells w.heap.size 0 vs).frozen? x)->∀ty dc sc,(Builtin.copy_ #[56,56] ty #[.slice (some ⟨w.heap.size,5,none⟩) n dc,.slice (some ⟨b,0,none⟩) n sc]).run Tryz.prog W=.ok (goInt n) (W.setCells w.heap.size 5 cs):=fun W hWc hWf ty dc sc=>
  qJ W _ _ ty 26 w.heap.size 5 n dc ⟨b,0,none⟩ n sc cs 5 n Tryz.underlying56 qX (by simp only[Nat.min_def];split<;>omega) nV
   (fun j v hj=>by rw[Addr.add_lit,hWc,World.cell?_setCells_out _ _ _ _ _ (fun h _=>absurd h hbN),a3O];exact hOb _ v (JQ j v hj))
   (fun j hj=>by rw[hWc];exact isSome_setCells _ _ _ _ (fun t ht=>hN _ (by omega)) _ (hN _ (by omega)))
   (fun j hj=>by rw[hWf,World.frozen?_setCells];exact hNf _) h1c
 subst hW1;have hE1:∀x,((w.alloc (.cells ROW 26)).drew).cell? x=(w.drew.alloc (.cells ROW 26)).cell? x:=fun x=>rfl;have hE2:∀x,((w.alloc (.cells ROW 26)).drew).frozen? x=(w.drew.alloc (.cells ROW 26)).frozen? x:=fun x=>rfl;have hF1:∀x,(((w.alloc (.cells ROW 26)).drew.setCells w.heap.size 0 vs).drew).cell? x=((w.drew.alloc (.cells ROW 26)).setCells w.heap.size 0 vs).cell? x:=fun x=>rfl;have hF2:∀x,(((w.alloc (.cells ROW 26)).drew.setCells w.heap.size 0 vs).drew).frozen? x=((w.drew.alloc (.cells ROW 26)).setCells w.heap.size 0 vs).frozen? x:=fun x=>rfl;have hw1:i64.wrap ((n:Int)+1)=(n:Int)+1:=by rw[IntKind.wrap_i64];omega
 have hw3:i64.wrap 1=1:=by decide
 have mixed:Tryz.prog.follows .mixedOrders=true:=by kernel_rfl
 have CU:(1:Int)<=(n:Int)+1:=by omega
 have hb3:(0:Int)<=(n:Int)+1:=by omega
 clear hold hROW hG hRl
 go_enter Tryz.func118,Tryz.ntmps118
 go_wp2_with (first
  |(at_builtin;refine Lib.wpList_append_run _ rfl _ _ _ _ rfl _ _ rfl rfl _ _ (hrz _) ?_)
  |(at_builtin;refine wpList_copy_runI _ rfl _ _ 56 56 rfl _ _ rfl rfl (aqG _ hE1 hE2 _ _) ?_)
  |(at_builtin;refine wpList_copy_runI _ rfl _ _ 56 56 rfl _ _ rfl rfl (aky _ (fun _=>rfl) (fun _=>rfl) _ _ _) ?_))
 go_region_law_o (refine step_copy_runI rfl _ _ 56 56 rfl (.slice (some ⟨w.heap.size,5,none⟩) n (G-1)) (.slice (some ⟨b,0,none⟩) n c) (by simp[Act.eval,Act.put]) (by simp[Act.eval,Act.put]) (aky _ hF1 hF2 3 (G-1) c) ?_)
 go_wp2
 go_ret
 exact⟨rfl,rfl⟩
set_option maxHeartbeats 4000000 in
set_option maxRecDepth 100000 in
theorem a8f(base vb rH vc)(vs:List LI3)(w)(hvl:vs.length=5)(RH:∀j v,vs[j]? = some v->w.cell? ⟨vb,rH+j,none⟩=some v) (h1v:∀v∈vs,v.oneCell'=true) :Calls Tryz.prog 118 #[.slice base 0 0,.int .i64 0,.slice (some ⟨vb,rH,none⟩) 1 vc] w fun e w'=> e=.returned (.slice (some ⟨w.heap.size,0,none⟩) 1 (grownCap w 1 0 26)) /\w'=w.drew.alloc (.cells (vs.toArray++Builtin.zeroCells Qw.cells (grownCap w 1 0 26-1)) 26):=by
 have mixed:Tryz.prog.follows .mixedOrders=true:=by kernel_rfl
 obtain⟨i0,hi0,hz0,hzs,hzb⟩:=info_parts a8e;have lC:Src Tryz.prog i0.size 56 (.slice (some ⟨vb,rH,none⟩) 1 vc) 1 vs w:=by rw[hzs];exact Src.ofSlice w Tryz.underlying56 ⟨vb,rH,none⟩ 1 vc vs (by omega) (fun j u hj=>by rw[Addr.add_lit];exact RH j u hj) h1v
 have hold:(Builtin.firstCells i0.size 0 (.slice base 0 0)).run Tryz.prog w.drew=.ok ([]:List LI3).toArray w.drew:=by
  rw[hzs];cases base with
  |none=>exact run_firstCells_none w.drew 5 0 0 0
  |some a=>exact run_firstCells_some w.drew 5 0 a 0 0 [] (by simp) (fun j v hj=>by simp at hj)
 have uy:∀ty,(Builtin.append_ #[56,56] ty #[.slice base 0 0,.slice (some ⟨vb,rH,none⟩) 1 vc]).run Tryz.prog w=_:=fun ty=>
  run_append_grow_src w 56 56 ty 26 i0 _ Tryz.underlying56 hi0 hz0 base 0 0 [] hold _ 1 vs lC (by omega) (by omega) (by rw[hzb];exact growslice_fits (by omega) (by omega))
 go_enter Tryz.func118,Tryz.ntmps118
 cases base with
 |none=>
  go_wp2_with (at_builtin;refine Lib.wpList_append_run _ rfl _ _ _ _ rfl _ _ rfl rfl _ _ (uy _) ?_)
  go_ret
  exact⟨rfl,rfl⟩
 |some a=>
  obtain⟨ab,ao,asp⟩:=a
  go_wp2_with (at_builtin;refine Lib.wpList_append_run _ rfl _ _ _ _ rfl _ _ rfl rfl _ _ (uy _) ?_)
  all_goals (go_ret;exact⟨rfl,rfl⟩)
def Nr:dN
 |.fn f [] [],[d,.int .i64 0,.aO vb rH 1 akA 5 vex],h=>
  if f=118 then
   match h[vb]? with
   |some (.cells kv vcs)=>if kv=.ro\/(kv=.last/\rH+akA*5≠vcs.length)then none else
    match sub vcs rH 5 with
    |some vs=>match d with
     |.nil .aO=>some (.aO h.length 0 1 1 5 false,h++[.cells .own vs],[])
     |.aO b off n n' 5 ex=>if n=0 then(if n'=0/\ex=true then some (.aO h.length 0 1 1 5 false,h++[.cells .own vs],[])else none)else match h[b]? with
      |some (.cells k cs)=>if k≠.ro/\off=0/\n=n'/\cs.length=n*5/\n<=2^20/\vb≠b then some (.aO b 0 (n+1) (n+1) 5 false,h.set b (.cells .last (vs++cs)),[b])else none
      |_=>none
     |_=>none
    |_=>none
   |_=>none
  else none
 |_,_,_=>none
section
variable{P:LI1}
theorem Qx{M w h}(hV:Valid M rV (lq h) w){b off len cap ex y}(hx:VR M.h (.aO b off len cap 5 ex) y)(h0:0<len){k cs r}(hb:h[b]? = some (.cells k cs))(hk:k≠.ro)(hl:k=.last->off+cap*5=cs.length) (hr:sub cs off (len*5)=some r) :∃ls p cap',M (.h b)=some (.cells ls)/\p∈ls/\y=.slice (some ⟨p.c,off,none⟩) len cap'/\len<=cap'/\cap<=cap'/\(ex=true->cap'=cap)/\off+cap*5<=p.ext/\off+cap'*5<=p.tot/\cap'<2^63/\JK M.h w k cs p/\p.base=0/\(∀c∈cs,iM c=true) /\∃xs,bZ M.h r xs/\∀(j) (v),xs[j]? = some v->w.cell? ⟨p.c,off+j,none⟩=some v:=by
 cases hx with
 |aO hm hp yB hle tZ hex ha abo=>
  rename_i ls p a cap';obtain⟨gJ,h1,h2⟩:=hV.ok _ _ hm trivial;have hg:lq h (.h b)=some (.cells k cs):=by simp[St.get,hb]
  rw[hg]at h1;cases h1;have hp:=hp.resolve_left (by omega);have AQ:=h2.2.1 p hp;have yu:=AQ.base hk;rcases ha with ha|⟨rfl,ha⟩
  .omega
  obtain⟨xs,g1,g2⟩:=AQ.slice hr (by omega) (fun e=>by have:=hl e;have:=AQ.ext;omega);rw[yu]at g2 ha ⊢;simp only[a3O]at g2 ha yB ⊢;exact⟨ls,p,cap',hm,hp,rfl,by omega,tZ,hex,yB,ha,abo,AQ,yu,h2.1,xs,g1,g2⟩
theorem adE{M w w' h}(hV:Valid M rV (lq h) w)(vI:∀k,M (.l k)=none){b n k cs vs ls p}(hm:M (.h b)=some (.cells ls))(hb:h[b]? = some (.cells k cs))(hk:k≠.ro) (hp:p∈ls) (yB:p.ext=cs.length) (nV:cs.length=n*5) (hvl:vs.length=5) (vV:∀c∈vs++cs,iM c=true) (g arr ty)(vY:w'.heap[g]? = some (.cells arr ty (0,0))) (Rx:∀c,c<w.heap.size->c≠g->w'.heap[c]? = w.heap[c]?) (hg:(g=p.c/\arr.size=p.tot)\/g=w.heap.size)(qX:w.heap.size<=w'.heap.size) (ho:w'.os=w.os) (hou:w'.output=w.output) (ht:w'.tape=w.tape) {a4M} (tZ:n+1<=a4M) (auA:a4M*5<=arr.size) (aku:a4M<2^63)(VO:∀(i:Nat) (c) (x),(vs++cs)[i]? = some c->arr[i]? = some x->VR M.h c x) :jA M h w (.aO b 0 (n+1) (n+1) 5 false) (h.set b (.cells .last (vs++cs))) [b] (.slice (some ⟨g,0,none⟩) (n+1) a4M) w':=by
 have hl:(vs++cs).length=(n+1)*5:=by rw[a1D];omega
 obtain⟨M',q,h1,h2,⟨qA,h3,h4⟩,h5,h6,h7,h8⟩:=agv (s:=⟨[],[],h,[]⟩) (D:=rV) (new:=vs++cs) hV hm trivial hb hk hp yB vV (by rw[a1D];omega) g arr ty vY Rx hg qX ho hou ht (by omega) VO;refine⟨M',h1,fun k=>?_,h2,?_⟩
 .rw[h2.kP (.l k) (.inr (by simp[St.get])) (by simp)];exact vI k
 .exact .aO (p:=q) h3 (.inr h4) (by rw[h5];omega) (a1p _) tZ (fun e=>by cases e) (.inr ⟨by rw[h7,h6],by rw[h6,h8];omega⟩) aku
theorem abw:iK Tryz.prog Nr:=by
 intro fv args h v h' ws hc M w x xs hV vI hx Gy;unfold Nr at hc;split at hc
 case h_2=>cases hc
 rename_i f d vb rH akA vex;split at hc
 case isFalse=>cases hc
 rename_i hf;subst hf;split at hc
 case h_2=>cases hc
 rename_i kv vcs hvb;split at hc
 .cases hc
 rename_i CY;simp only[adk,not_and,Decidable.not_not]at CY;split at hc
 case h_2=>cases hc
 rename_i vx lT;cases hx with
 | @fn _ _ _ ys zs h1 h1a h3 h3a=>
 have:ys=[]:=a4D h1.symm;subst this;have:zs=[]:=a4D h3.symm;subst this;obtain⟨dv,r1,rfl,hdv,Gy⟩:=Gy.iE;obtain⟨iv,r2,rfl,hiv,Gy⟩:=Gy.iE;obtain⟨sv,r3,rfl,hsv,Gy⟩:=Gy.iE;have:=Gy.pG;subst this;cases hiv;obtain⟨lsv,pv,Qy,m1,m2,rfl,m3,m4,_,m5,m6,m7,m8,m9,m10,X8,m11,Yu⟩:=Qx hV hsv (by omega) hvb CY.1 CY.2 lT;have hvl:X8.length=5:=by rw[<-m11.len];exact(oC lT).2.2
 have hvx:vx.length=5:=(oC lT).2.2;have a8g:∀c∈vx,iM c=true:=fun c FH=>m10 c (a5X (aa8 (by rw[<-(oC lT).2.1];exact FH)));have X7:∀u∈X8,u.oneCell'=true:=a2B m11 a8g;obtain⟨aqH,tyv,fzv,w1,w2,w3,_⟩:=m8.row;have:=w3 CY.1;subst this;have enters:∀{R:LI3->LI4->Prop},Calls Tryz.prog 118 #[dv,.int .i64 0,.slice (some ⟨pv.c,rH,none⟩) 1 Qy] w (JW R) ->
   ∃d,(∀w,(Deferred.ofValue (.func (.func 118) [].toArray [].toArray) [dv,.int .i64 0,.slice (some ⟨pv.c,rH,none⟩) 1 Qy].toArray).run Tryz.prog w=.ok d w)/\((EI Tryz.prog d w R/\∃f a b,(TV.fn 118 [] [])=.fn f a b)\/(Il Tryz.prog d w R/\∃l,(TV.fn 118 [] [])=.l9 l)):=by
  intro R KF;refine⟨{ target:=.fn (.func 118) #[],args:=#[dv,.int .i64 0,.slice (some ⟨pv.c,rH,none⟩) 1 Qy] },fun w=>by simp[Deferred.ofValue],.inl ⟨⟨118,_,?_,fun n=>callsIn_wide.2 KF⟩,_,_,_,rfl⟩⟩;have e1:Tryz.prog.funcs[118]? = some Tryz.f118:=Tryz.func118;have e2 : ¬ (Tryz.f118.name = "runtime.NumGoroutine") := by decide +kernel
  obtain⟨c,e3⟩:∃c,Tryz.f118.body=some c:=⟨_,rfl⟩;simp[invoke,callFunc,program,Sem.run,e1,e2,e3]
 have fresh:∀{base:Option Addr},dv=.slice base 0 0->v=.aO h.length 0 1 1 5 false->h'=h++[.cells .own vx]->ws=[]->∃d,(∀w,(Deferred.ofValue (.func (.func 118) [].toArray [].toArray) [dv,.int .i64 0,.slice (some ⟨pv.c,rH,none⟩) 1 Qy].toArray).run Tryz.prog w=.ok d w)/\((EI Tryz.prog d w (jA M h w v h' ws)/\∃f a b,(TV.fn 118 [] [])=.fn f a b)\/(Il Tryz.prog d w (jA M h w v h' ws)/\∃l,(TV.fn 118 [] [])=.l9 l)):=by
  rintro base rfl rfl rfl rfl;refine enters ?_;refine(a8f base pv.c rH Qy X8 w hvl Yu X7).mono fun e w' ⟨he,hw⟩=>?_;subst he;subst hw;have hgl:=ML (w:=w) (need:=1) (old:=0) (e:=26) (by omega);have CS:=grownCap_ge (w:=w) (need:=1) (old:=0) (e:=26);obtain⟨M',hp⟩:=OM (s:=⟨[],[],h,[]⟩) (D:=rV) (size:=5) (len:=1) (cs:=vx) (pre:=X8.toArray) (rest:=Builtin.zeroCells Qw.cells (grownCap w 1 0 26-1)) (e:=26) hV
   (by
    cases hq:M (.h h.length)with
    |none=>rfl
    |some l=>have:=hV.has hq;simp[St.get]at this)
   (by simpa using m11) a8g (by omega) CS hgl (by simp[Builtin.zeroCells,Value.cells])
  refine⟨M',⟨fun k l hk _=>hp.val.ok k l hk (.inl trivial),fun k k' l l' b a1 a2 a3 _=>hp.val.own k k' l l' b a1 a2 a3 (.inl trivial),hp.val.inb⟩,fun k=>?_,hp.ext,?_⟩
  .rw[hp.ext.kP (.l k) (.inr (by simp[St.get])) (by simp)];exact vI k
  .exact hp.er.uT
 split at hc
 .-- nil
  simp only[a08,a1n]at hc;obtain⟨e1,e2,e3⟩:=hc;cases hdv;exact fresh rfl e1.symm e2.symm e3.symm
 .rename_i b off n n' ex;split at hc
  .-- an empty one
   rename_i Xl;split at hc
   case isFalse=>cases hc
   rename_i FW;obtain⟨rfl,rfl⟩:=FW;subst Xl;simp only[a08,a1n]at hc;obtain⟨e1,e2,e3⟩:=hc;cases hdv with
   |aO hm hp yB hle tZ hex ha abo=>
    cases hex rfl;exact fresh rfl e1.symm e2.symm e3.symm
  .-- a list
   rename_i Xl;split at hc
   case h_2=>cases hc
   rename_i k cs hb;split at hc
   case isFalse=>cases hc
   rename_i FW;obtain⟨hk,rfl,rfl,nV,akn,iI⟩:=FW;simp only[a08,a1n]at hc;obtain⟨rfl,rfl,rfl⟩:=hc;have a7S:sub cs 0 (n*5)=some cs:=by unfold sub;rw[a18 (by omega)];simp[<-nV]
   obtain⟨ls,p,cap',k1,k2,rfl,k3,k4,_,k5,k6,k7,k8,k9,k10,Zy,k11,k12⟩:=Qx hV hdv (by omega) hb hk (fun _=>by omega) a7S;have hpe:p.ext=cs.length:=by have:=k8.ext;omega
   obtain⟨arr,ty,fz,z1,z2,z3,_⟩:=k8.row;have:=z3 hk;subst this;have akB:Zy.length=n*5:=(by rw[<-k11.len,nV]);have akC:∀u∈Zy,u.oneCell'=true:=a2B k11 k10;have vV:∀c∈vx++cs,iM c=true:=fun c hc=>by
    rcases a3N.1 hc with hc|hc
    .exact a8g c hc
    .exact k10 c hc
   have hgb:lq h (.h b)=some (.cells k cs):=(by simp[St.get,hb]);have agN:pv.c≠p.c:=fun e=>by have:=hV.own (.h b) (.h vb) _ _ _ (by simp[afR iI]) k1 m1 trivial hgb (by cases k<;>simp_all [Tw.wr]) p.c (a1z.2 ⟨p,k2,rfl⟩);exact this (a1z.2 ⟨pv,m2,e⟩)
   have hrl:∀(i:Nat) (c:TV) (u:LI3),(vx++cs)[i]? = some c->(X8++Zy)[i]? = some u->VR M.h c u:=fun i c u hc hu=>(m11.append k11).at_ i c u hc hu;have akD:∀(j:Nat) (u:LI3),X8[j]? = some u->w.cell? ⟨pv.c,rH+j,none⟩=some u:=Yu;have akE:∀(j:Nat) (u:LI3),Zy[j]? = some u->w.cell? ⟨p.c,j,none⟩=some u:=fun j u hj=>by have:=k12 j u hj;rwa [a3O]at this
   refine enters ?_;by_cases xC:n+1<=cap'
   .have qX:(n+1)*5<=arr.size:=by have:(n+1)*5<=cap'*5:=a3X 5 xC;omega
    refine(a0M p.c n cap' pv.c rH Qy Zy X8 w (by omega) xC (by omega) agN akB hvl akE
     (fun j hj=>?_) (fun j hj=>?_) akD akC X7 tyv ty aqH.size arr.size (by simp[World.shape?,w1]) (by simp[World.shape?,z1]) (by omega) (by simp[World.frozen?,w1]) (by simp[World.frozen?,w1])).mono fun e w' ⟨he,hw⟩=>?_
    .simp only[World.cell?,z1];rw[a0U (by simp),a4v (by omega)];rfl
    .simp[World.frozen?,z1]
    .subst he;have s1:=sO p.c ty (0,0) Zy 5 arr w.drew z1 (by omega);rw[s1]at hw;have z1':=uw w.drew p.c ((arr.toList.take 5++Zy++arr.toList.drop (5+Zy.length)).toArray) arr ty (0,0) z1;have RS:((arr.toList.take 5++Zy++arr.toList.drop (5+Zy.length)).toArray).size=arr.size:=by simp;omega
     rw[sO p.c ty (0,0) X8 0 _ _ z1' (by rw[RS];omega),setRow_setRow]at hw;subst hw;refine adE hV vI k1 hb hk k2 hpe nV hvx vV p.c _ ty (uw w.drew p.c _ arr ty (0,0) z1) (fun c _ hcg=>nJ w.drew p.c _ c hcg) (.inl ⟨rfl,?_⟩) (by simp[World.setRow]) rfl rfl rfl (a4M:=cap') xC ?_ k7 fun i c u hc hu=>hrl i c u hc ?_
     .simp only[aeR,a1D,a4w,a4u,a8Q,RS];omega
     .simp only[aeR,a1D,a4w,a4u,a8Q,RS];omega
     .have hi:i<(n+1)*5:=by have:=(a0w.1 hc).1;rw[a1D]at this;omega
      rw[zJ i (by rw[RS];omega)]at hu;rw[<-hu];by_cases h0:i<5
      .rw[a0U (by omega),a18 (by omega),a0Q (by omega)];simp
      .rw[a0U (by omega),a0U (by omega),zJ i (by omega),a0U (by omega),a18 (by omega),a1y (by omega),hvl]
   .have hgl:=ML (w:=w) (need:=n+1) (old:=cap') (e:=26) (by omega);have CS:=grownCap_ge (w:=w) (need:=n+1) (old:=cap') (e:=26);refine(a4L p.c n cap' pv.c rH Qy Zy X8 w (by omega) k3 (by omega) akn akB hvl akE akD akC X7).mono fun e w' ⟨he,hw⟩=>?_;subst he;generalize hA:(Builtin.zeroCells Qw.cells (n+1)++Builtin.zeroCells Qw.cells (grownCap w (n+1) cap' 26-(n+1)))=A at hw;have hAs:A.size=grownCap w (n+1) cap' 26*5:=by rw[<-hA];simp[Builtin.zeroCells,Value.cells];omega
    have y1:((w.alloc (.cells A 26)).drew).heap[w.heap.size]? = some (.cells A 26 (0,0)):=heap_alloc_new w _;have awX:(n+1)*5<=A.size:=by rw[hAs];exact a3X 5 CS
    rw[sO w.heap.size 26 (0,0) X8 0 A _ y1 (by omega)]at hw;have RS:((A.toList.take 0++X8++A.toList.drop (0+X8.length)).toArray).size=A.size:=by simp;omega
    have y2:=uw (w.alloc (.cells A 26)).drew w.heap.size ((A.toList.take 0++X8++A.toList.drop (0+X8.length)).toArray) A 26 (0,0) y1;have y3:(((w.alloc (.cells A 26)).drew.setRow w.heap.size ((A.toList.take 0++X8++A.toList.drop (0+X8.length)).toArray)).drew).heap[w.heap.size]? = some (.cells ((A.toList.take 0++X8++A.toList.drop (0+X8.length)).toArray) 26 (0,0)):=y2;rw[sO w.heap.size 26 (0,0) Zy 5 _ _ y3 (by rw[RS];omega)]at hw;subst hw;refine adE hV vI k1 hb hk k2 hpe nV hvx vV w.heap.size _ 26 (uw _ w.heap.size _ _ 26 (0,0) y3) (fun c JQ hcg=>?_) (.inr rfl) (by simp[World.setRow]) rfl rfl rfl (a4M:=grownCap w (n+1) cap' 26) CS ?_ hgl fun i c u hc hu=>hrl i c u hc ?_
    .rw[nJ _ _ _ c hcg];show((w.alloc (.cells A 26)).drew.setRow w.heap.size _).heap[c]? = _;rw[nJ _ _ _ c hcg];exact vC w _ c JQ
    .simp only[aeR,a1D,a4w,a4u,a8Q,RS];omega
    .have hi:i<(n+1)*5:=by have:=(a0w.1 hc).1;rw[a1D]at this;omega
     rw[zJ i (by rw[RS];omega)]at hu;rw[<-hu];by_cases h0:i<5
     .rw[a18 h0,zJ i (by omega),a0U (by omega),a18 (by omega),a0Q (by omega)];simp
     .rw[a0U h0,a18 (by omega),a1y (by omega),hvl]
 .cases hc
end
def Tb:Tw.vw:={
 live:=[(16,[(0,[2,3]),(1,[2,3,28]),(2,[4]),(3,[2,3,5,6]),(4,[2,3,5,6,7,8]),(5,[2,3,5,7,45]),(6,[4]),(7,[2,3,5,7,9,10]),(8,[2,3,5,7,9,10,11,12]),(9,[2,3,5,7,9,10,11,12,13,14]),(10,[2,3,5,9,10,11,12,13,14,15,16]),(11,[3,5,9,10,11,12,13,14,15,16,17,18]),(12,[3,5,9,10,11,12,13,14,15,16,17,18,19,20]),(13,[3,5,9,10,11,12,13,14,15,16,17,18,20,21,22]),(14,[3,5,9,10,11,12,13,14,15,16,17,18,20,21,22,23,24]),(15,[4])]),
  (18,[(0,[1]),(1,[1,21]),(2,[2]),(3,[1,3]),(4,[1,3,26]),(5,[1,3]),(6,[1,3,36]),(7,[2]),(8,[2])]),
  (19,[(0,[]),(1,[1,2]),(2,[1,2,3,4]),(3,[1,2,3,4,5,6]),(4,[1,2,3,4,5,6,7,8]),(5,[1,2,3,4,5,6,7,8,9,10]),(6,[1,2,3,4,5,6,7,8,9,10,11,12]),(7,[1,2,3,4,5,6,7,8,9,10,11,12,13,14]),(8,[1,2,3,4,5,6,7,8,9,10,11,12,13,14,15,16]),(9,[1,2,3,4,5,6,7,8,9,10,11,12,13,14,16,17,18]),(10,[1,2,3,4,5,6,7,8,9,10,11,12,13,14,16,17,18,19,20]),(11,[1,3,4,5,6,7,8,9,10,11,12,13,14,16,17,18,20,21,22]),(12,[0])]),
  (20,[(0,[1,2,3,6]),(1,[1,2,3,6,8]),(2,[1,2,3,6,8,14]),(3,[6,7]),(4,[1,2,3,6,34]),(5,[6,7]),(6,[1,2,6,9]),(7,[6,9]),(8,[6,7])]),
  (21,[(0,[1,2]),(1,[1,2,3]),(2,[1,2,3,4]),(3,[1,2,3,4,21]),(4,[1,2,3,4]),(5,[1,2,3,4]),(6,[2])]),
  (22,[(0,[1]),(1,[1,3]),(2,[1,3,7]),(3,[2]),(4,[11]),(5,[2]),(6,[2])]),
  (23,[(0,[0,1,2]),(1,[6])]),
  (25,[(0,[1,3,5]),(1,[6])]),
  (27,[(0,[2,3]),(1,[3,6,7]),(2,[3,6,7,15]),(3,[4,5]),(4,[4,5])]),
  (28,[(0,[2,3]),(1,[3,6,7]),(2,[3,6,7,17]),(3,[4,5]),(4,[3,6,21]),(5,[4,5]),(6,[3,6,29,30,31]),(7,[3,6,29,30,31,32]),(8,[3,6,8,9,29,30,31]),(9,[3,6,8,29,30,31,36,37]),(10,[3,6,8,29,30,31,36,37,38]),(11,[3,6,8,10,29,30,31,36,37]),(12,[3,6,8,29,30,31,36,37]),(13,[3,6,8,29,30,31,36,37,49]),(14,[3,6,8,29,30,31,36,37]),(15,[3,6,29,30,31]),(16,[4,5])]),
  (29,[(0,[1]),(1,[1,5]),(2,[2]),(3,[2])]),
  (32,[(0,[0,1]),(1,[0,1,10]),(2,[4]),(3,[0,1,5]),(4,[0,1,5,14]),(5,[0,1,5]),(6,[0,1,5,25]),(7,[4]),(8,[4])]),
  (33,[(0,[0,4,5,6]),(1,[0,4,5,6,8]),(2,[0,4,5,6,8,17]),(3,[6,7]),(4,[0,4,5,6,25]),(5,[6,7]),(6,[0,6,9]),(7,[0,6,9]),(8,[0,6,9,36]),(9,[6]),(10,[6,7]),(11,[0,6,9,10,11]),(12,[6,9,10,11,44]),(13,[6]),(14,[6,9,10,11,44,49]),(15,[6]),(16,[6,9,10,11,44,58]),(17,[6]),(18,[6,9,10,11,44,65]),(19,[6]),(20,[6,10,11,71]),(21,[6,10]),(22,[6,10]),(23,[6,10,81]),(24,[6]),(25,[6,7])]),
  (34,[(0,[0]),(1,[0,3]),(2,[0,3,9]),(3,[0,3]),(4,[0,3,4]),(5,[0,3,4,18]),(6,[2]),(7,[0,5]),(8,[0,5,23]),(9,[0,5]),(10,[0,5,34]),(11,[2]),(12,[2])]),
  (35,[(0,[2,3]),(1,[2,3,69]),(2,[4]),(3,[2,3,5]),(4,[2,3,5,74]),(5,[2,3,5]),(6,[2,3,5,87]),(7,[4]),(8,[4])]),
  (39,[(0,[0,3,4]),(1,[0,3,4,12]),(2,[4,5]),(3,[0,3,4,5]),(4,[0,3,4,5,20]),(5,[4,5]),(6,[0,3,4,25]),(7,[4,5]),(8,[0,3,4]),(9,[3,4,31,32,33]),(10,[3,4,31,32,33,34]),(11,[3,4,6,7,31,32,33]),(12,[3,4,6,8,31,32,33]),(13,[3,4,6,8,31,32,33,45]),(14,[4]),(15,[4,5]),(16,[3,4,6,9,31,32,33]),(17,[3,4,6,9,31,32,33,59]),(18,[3,4,31,32,33]),(19,[3,4,31,32,33]),(20,[4,5])]),
  (40,[(0,[0]),(1,[0,3]),(2,[0,3,4]),(3,[0,3,4,8]),(4,[0,3,4]),(5,[0,3,4]),(6,[2])]),
  (42,[(0,[2,3]),(1,[4])]),
  (43,[(0,[0,4,5,6]),(1,[4,6,8,9]),(2,[6,7])]),
  (44,[(0,[1]),(1,[1,3]),(2,[1,3,7]),(3,[2]),(4,[1,3,4]),(5,[1,3,4,12]),(6,[1,3,4]),(7,[1,3,4]),(8,[2])]),
  (45,[(0,[0,4,5,6]),(1,[0,4,5,6,11]),(2,[0,4,5,6,11,12]),(3,[6,7]),(4,[0,4,5,6,20]),(5,[6,7]),(6,[4,5,6,8]),(7,[4,5,6,8,38]),(8,[6,7]),(9,[4,5,6,8,9,10]),(10,[4,5,6,8,9,47]),(11,[6,7]),(12,[6,7])]),
  (47,[(0,[1,2]),(1,[1,2,4,5]),(2,[2,3])]),
  (48,[(0,[0,2]),(1,[2])]),
  (49,[(0,[0]),(1,[2])]),
  (53,[(0,[0,1]),(1,[0,1,5]),(2,[0,1,5,6]),(3,[0,1,5,6,14]),(4,[0,1,5,6]),(5,[0,1,5,6]),(6,[0,1,5,6]),(7,[4])]),
  (54,[(0,[0,1]),(1,[0,1,12]),(2,[4]),(3,[4])]),
  (56,[(0,[0]),(1,[2])]),
  (57,[(0,[0,1,2,3,8]),(1,[0,1,2,3,8,10]),(2,[0,1,2,3,8,10,17]),(3,[8,9]),(4,[0,1,2,3,8,36]),(5,[8,9]),(6,[0,2,3,8,11]),(7,[3,8,11,47,48]),(8,[3,8,11,47,48,49]),(9,[3,8,11,12,47,48]),(10,[3,8,11,12,47,48]),(11,[3,8,11,47,48]),(12,[3,8,11,47,48]),(13,[8,9])]),
  (58,[(0,[0,1]),(1,[0,1,8]),(2,[4]),(3,[0,1,5]),(4,[0,1,5,12]),(5,[0,1,5]),(6,[0,1,5,20]),(7,[4]),(8,[0,1,23]),(9,[4]),(10,[27]),(11,[4]),(12,[4])]),
  (61,[(0,[2,3,4]),(1,[2,3,4,6]),(2,[2,3,4,6,13]),(3,[4,5]),(4,[2,3,4,8]),(5,[2,3,4,8,23]),(6,[4,5]),(7,[4,5])]),
  (62,[(0,[3,4,5,6]),(1,[3,4,5,6,8]),(2,[3,4,5,6,8,16]),(3,[6,7]),(4,[3,4,5,6,10]),(5,[3,4,5,6,10,27]),(6,[6,7]),(7,[6,7])]),
  (63,[(0,[3,4,5,6]),(1,[3,4,5,6,8]),(2,[3,4,5,6,8,15]),(3,[6,7]),(4,[6,7])]),
  (67,[(0,[1,2]),(1,[1,2,4]),(2,[1,2,4,9]),(3,[2,3]),(4,[2,3])]),
  (68,[(0,[0,1,2,6]),(1,[0,1,2,6,8]),(2,[0,1,2,6,8,17]),(3,[6,7]),(4,[2,6,9]),(5,[2,6,9,10]),(6,[2,6,9,10,31]),(7,[6,7]),(8,[6,9,34,35,36]),(9,[6,9,34,35,36,37]),(10,[6,9,12,34,35,36]),(11,[6,9,34,35,36]),(12,[6,9,34,35,36]),(13,[6,7])]),
  (70,[(0,[2,3]),(1,[4])]),
  (72,[(0,[2,3]),(1,[2,3,43]),(2,[4]),(3,[2,3,5]),(4,[2,3,5,48]),(5,[2,3,5]),(6,[2,3,5,79]),(7,[4]),(8,[4])]),
  (73,[(0,[0,1]),(1,[0,1,2]),(2,[0,1,2,3]),(3,[0,1])]),
  (74,[(0,[1,2,3]),(1,[1,2,3,7]),(2,[1,2,3,7,8]),(3,[1,2,3,7,8,12]),(4,[1,2,3,7,8]),(5,[1,2,3,7,8]),(6,[6])]),
  (75,[(0,[0,1]),(1,[0,1,10]),(2,[4]),(3,[0,1,5]),(4,[0,1,5,14]),(5,[0,1,5]),(6,[0,1,5,25]),(7,[4]),(8,[4])]),
  (76,[(0,[0]),(1,[0,6,7,8]),(2,[0,6,7,8,9]),(3,[0,4,6,7,8]),(4,[0,5,6,7,8]),(5,[0,5,6,7,8,15]),(6,[2]),(7,[0,6,7,8]),(8,[30]),(9,[2]),(10,[2])]),
  (77,[(0,[0,1,2]),(1,[6])]),
  (78,[(0,[0,1,4]),(1,[4])]),
  (79,[(0,[0,2]),(1,[2])]),
  (80,[(0,[1,2]),(1,[1,2,3]),(2,[1,2,3,4]),(3,[1,2,3,4,5]),(4,[1,2,3,5]),(5,[2,3]),(6,[2,6]),(7,[2])]),
  (81,[(0,[0]),(1,[2])]),
  (82,[(0,[0]),(1,[2])]),
  (83,[(0,[1]),(1,[1,3]),(2,[1,3,10]),(3,[2]),(4,[1,15]),(5,[2]),(6,[18]),(7,[2]),(8,[2])]),
  (84,[(0,[1]),(1,[1,3]),(2,[1,3,13]),(3,[1,3]),(4,[1,3,4]),(5,[1,3,4,18]),(6,[1,3,4]),(7,[1,3,4,31]),(8,[2]),(9,[1,5]),(10,[1,5,36]),(11,[1,5]),(12,[1,5,44]),(13,[2]),(14,[1,5,6]),(15,[1,5,6,47]),(16,[1,5,6]),(17,[1,5,6,77]),(18,[2]),(19,[1,7,8]),(20,[2])]),
  (86,[(0,[2,3,4]),(1,[2,3,4,6]),(2,[2,3,4,6,11]),(3,[4,5]),(4,[2,4,16]),(5,[4,5]),(6,[4,5])]),
  (87,[(0,[1,2]),(1,[1,2,3]),(2,[2,3,8]),(3,[3,4,10]),(4,[3,4,5]),(5,[3,4,5,15]),(6,[]),(7,[2])]),
  (88,[(0,[0,2,3]),(1,[2,3,6]),(2,[2,3,6,8]),(3,[2,3,4,6]),(4,[2,3,4,6,13]),(5,[2,3,6]),(6,[2,3,6]),(7,[2,3]),(8,[2,3])]),
  (89,[(0,[0]),(1,[0])]),
  (90,[(0,[0,2]),(1,[2,6]),(2,[2,6,8]),(3,[2,4,6]),(4,[2,6]),(5,[2])]),
  (93,[(0,[0]),(1,[2])]),
  (94,[(0,[0]),(1,[0,7]),(2,[0]),(3,[0,3]),(4,[0,3,4]),(5,[0,3,4,15]),(6,[0,3,4]),(7,[0,3,4]),(8,[2])]),
  (95,[(0,[0]),(1,[2])]),
  (96,[(0,[1]),(1,[2])]),
  (98,[(0,[1,2,4]),(1,[1,2,4,5]),(2,[1,2,4,5,9]),(3,[1,2,4,5]),(4,[4])]),
  (99,[(0,[3,4,5,6]),(1,[3,4,5,6,8]),(2,[6,7]),(3,[3,4,5,6,16]),(4,[6,7]),(5,[4,5,6,21]),(6,[6,7]),(7,[6,7])]),
  (100,[(0,[0,2]),(1,[0,2,6]),(2,[2]),(3,[2])]),
  (101,[(0,[0]),(1,[3]),(2,[3,4]),(3,[2]),(4,[3,6]),(5,[2]),(6,[3,8]),(7,[2]),(8,[3,10]),(9,[2]),(10,[3,13]),(11,[2]),(12,[3,16]),(13,[2]),(14,[3,19]),(15,[2]),(16,[22]),(17,[2]),(18,[2])]),
  (102,[(0,[0]),(1,[2])]),
  (103,[(0,[0,2]),(1,[0,2,4]),(2,[0,2,4,8]),(3,[2,3]),(4,[2,3])]),
  (104,[(0,[0,1]),(1,[0,1,5]),(2,[0,5,6]),(3,[0,5,6,11]),(4,[0,5,6]),(5,[0,5,6]),(6,[4])]),
  (105,[(0,[0,1]),(1,[0,1,9]),(2,[4]),(3,[0,1,13]),(4,[4]),(5,[0,1,5]),(6,[0,1,5,17,18,19]),(7,[0,1,5,17,18,19,20]),(8,[0,1,5,7,17,18,19]),(9,[0,1,5,17,18,19]),(10,[0,1,5,17,18,19]),(11,[0,1,28]),(12,[4]),(13,[0,8]),(14,[0,8]),(15,[38]),(16,[4]),(17,[4])]),
  (106,[(0,[1]),(1,[5]),(2,[2]),(3,[2])]),
  (107,[(0,[0,1,5,6]),(1,[6])]),
  (108,[(0,[1,2]),(1,[2,4,5]),(2,[2,4,5,12]),(3,[2,3]),(4,[2,3])]),
  (109,[(0,[0,1]),(1,[0,1,11]),(2,[4]),(3,[0,1,5]),(4,[0,1,5,15]),(5,[0,1,5]),(6,[0,1,5,26]),(7,[4]),(8,[0,1,5,6]),(9,[0,1,5,6,29]),(10,[0,1,5,6]),(11,[0,1,5,6,40]),(12,[4]),(13,[4])]),
  (110,[(0,[0,3,4]),(1,[3,4,6]),(2,[3,4,6,17]),(3,[4,5]),(4,[3,4,6,7,8]),(5,[3,4,6,7,25]),(6,[4,5]),(7,[4,5])]),
  (111,[(0,[0,1,3]),(1,[3,4]),(2,[3])]),
  (112,[(0,[0,1,3]),(1,[3,4]),(2,[3])]),
  (113,[(0,[0,2]),(1,[2,3]),(2,[2])]),
  (117,[(0,[0,2]),(1,[2,4]),(2,[2]),(3,[2])]),
  (118,[(0,[0,1,2]),(1,[0,1,2]),(2,[0,1,2,7]),(3,[0,1,2,7,16]),(4,[6]),(5,[0,1,2,7,8]),(6,[0,1,2,7,8,22]),(7,[6]),(8,[0,1,2,7,8,31]),(9,[0,1,2,7,9]),(10,[0,1,7,9]),(11,[9]),(12,[6]),(13,[0,1,2,7,8]),(14,[0,1,2,7,8,68]),(15,[0,1,2]),(16,[0]),(17,[6]),(18,[0,1,7]),(19,[0]),(20,[6])]),
  (119,[(0,[0]),(1,[0,4]),(2,[2]),(3,[2])]),
  (121,[(0,[1]),(1,[4]),(2,[2])]),
  (122,[(0,[1,2]),(1,[4])]),
  (123,[(0,[2,3]),(1,[4])]),
  (124,[(0,[0,1]),(1,[0,1,10]),(2,[0,1]),(3,[0,5,6]),(4,[0,6,26]),(5,[0,6]),(6,[0,7]),(7,[7,8]),(8,[7,8,37]),(9,[7,8]),(10,[4])]),
  (125,[(0,[0]),(1,[0,4]),(2,[2]),(3,[2])]),
  (126,[(0,[1,2,3,4,5,6]),(1,[1,2,3,4,5,6,32]),(2,[1,2,3,4,5,6]),(3,[1,2,3,4,5,6,40]),(4,[3]),(5,[8]),(6,[1,2,3,4,5,6,9]),(7,[1,2,3,4,5,6,9,10]),(8,[1,2,3,4,5,6,9,10,68]),(9,[8]),(10,[1,2,3,4,5,6,9,11,12]),(11,[1,2,3,4,5,6,9,11,84]),(12,[8]),(13,[1,2,3,4,5,6,9,13]),(14,[1,2,3,4,5,6,9,13,93,94]),(15,[1,2,3,4,5,6,9,13,93,94,95]),(16,[1,2,3,4,5,6,9,13,14,93,94]),(17,[1,2,3,4,5,6,9,13,93,94]),(18,[1,2,3,4,5,6,9,13,93,94]),(19,[3,5,6,13]),(20,[5,6]),(21,[8])]),
  (127,[(0,[2,3,4]),(1,[2,4,10,11,12]),(2,[2,4,10,11,12,13]),(3,[2,4,7,8,10,11,12]),(4,[2,4,10,11,12,32]),(5,[6]),(6,[2,4,10,11,12]),(7,[6])]),
  (128,[(0,[2,3,4]),(1,[3,4,8,9,10]),(2,[3,4,8,9,10,11]),(3,[3,4,5,6,8,9,10]),(4,[3,4,8,9,10]),(5,[3,4,8,9,10]),(6,[4])]),
  (129,[(0,[2,3,4,5,8]),(1,[2,3,5,8,12,13,14]),(2,[2,3,5,8,12,13,14,15]),(3,[2,3,5,8,9,10,12,13,14]),(4,[2,3,5,8,9,10,12,13,14,34]),(5,[2,3,5,8,12,13,14]),(6,[2,3,5,8,12,13,14]),(7,[8])]),
  (130,[(0,[1,2]),(1,[2,6,7,8]),(2,[2,6,7,8,9]),(3,[2,3,4,6,7,8]),(4,[2,6,7,8]),(5,[2,6,7,8]),(6,[2])]),
  (131,[(0,[1]),(1,[1,3]),(2,[1,3,11]),(3,[1,3]),(4,[1,3,20]),(5,[2]),(6,[1,4]),(7,[1,4,25]),(8,[1,4]),(9,[1,4,5]),(10,[1,4,5,52]),(11,[2]),(12,[1,4,5,6]),(13,[1,4,5,6,57]),(14,[1,4,5,6]),(15,[1,4,5,6,81]),(16,[2]),(17,[2])]),
  (132,[(0,[1]),(1,[1,3]),(2,[1,3,8]),(3,[1,3]),(4,[1,3,20]),(5,[2]),(6,[2])]),
  (133,[(0,[1,2,3,4]),(1,[1,2,3,4,13]),(2,[1,2,3,18]),(3,[2,3]),(4,[8,9]),(5,[1,2,3,4,28]),(6,[8,9]),(7,[1,2,3,4,10]),(8,[1,2,3,4,10,11]),(9,[1,2,3,4,10,11,40]),(10,[1,2,3,4,10,11]),(11,[1,2,3,4,10,11]),(12,[8,9])]),
  (134,[(0,[0,1]),(1,[0,1,5]),(2,[0,1,5,9]),(3,[0,1,5]),(4,[0,1,5,17]),(5,[4]),(6,[4])]),
  (136,[(0,[1,2]),(1,[1,2,4]),(2,[1,2,4,21,22,23]),(3,[1,2,4,21,22,23,24]),(4,[1,2,4,6,21,22,23]),(5,[1,2,4,6,7,21,22,23]),(6,[1,2,6,7,21,22,23,29]),(7,[1,2,6,7,21,22,23,29,31]),(8,[1,2,6,7,8,9,21,22,23,29]),(9,[1,2,6,7,8,9,10,21,22,23,29]),(10,[1,2,6,7,8,9,10,11,21,22,23,29]),(11,[1,2,6,7,8,9,10,11,21,22,23,29,46]),(12,[1,2,6,7,21,22,23,29]),(13,[1,2,6,7,8,9,10,21,22,23,29,60]),(14,[1,2,6,7,21,22,23,29]),(15,[1,2,6,7,8,9,21,22,23,29,75,76]),(16,[1,2,6,7,8,9,21,22,23,29,75,76,77]),(17,[1,2,6,7,8,9,12,21,22,23,29,75,76]),(18,[1,2,6,7,8,9,21,22,23,29,75,76]),(19,[1,2,6,7,8,9,21,22,23,29,75,76]),(20,[1,2,4,21,22,23]),(21,[1,2,4,21,22,23]),(22,[1,2,94]),(23,[1,2,94,96]),(24,[1,2,13,14,94]),(25,[1,2,94,106])]),
  (137,[(0,[0,2]),(1,[])]),
  (138,[(0,[1,2,4]),(1,[2,4,6]),(2,[2,5]),(3,[]),(4,[4])]),
  (139,[(0,[0,6]),(1,[0,6,8]),(2,[0,4,6]),(3,[0,6,14])]),
  (140,[(0,[2,3,4]),(1,[6])]),
  (141,[(0,[0,2]),(1,[2])]),
  (142,[(0,[0,1,4]),(1,[4])]),
  (143,[(0,[0,1,4]),(1,[4])]),
  (144,[(0,[0,1,4]),(1,[4])]),
  (145,[(0,[1]),(1,[2])]),
  (146,[(0,[0]),(1,[4])]),
  (147,[(0,[1]),(1,[4])]),
  (148,[(0,[1]),(1,[2])]),
  (149,[(0,[0]),(1,[2])]),
  (150,[(0,[0]),(1,[2])]),
  (151,[(0,[0]),(1,[2])]),
  (152,[(0,[0,1]),(1,[4])]),
  (153,[(0,[1]),(1,[2])]),
  (154,[(0,[1]),(1,[1,5]),(2,[2]),(3,[2])]),
  (155,[(0,[0,1]),(1,[0,1,7,8]),(2,[0,1,7,8,9]),(3,[0,1,5,7,8]),(4,[0,1,5,7,8,16]),(5,[4]),(6,[0,1,7,8]),(7,[4])]),
  (156,[(0,[1]),(1,[2])]),
  (157,[(0,[2,3,4]),(1,[6])]),
  (158,[(0,[0,1]),(1,[0,1,10]),(2,[4]),(3,[0,1,12,13]),(4,[0,1,12,13,14]),(5,[0,1,5,12,13]),(6,[0,1,12,13,24]),(7,[4]),(8,[0,1,12,13]),(9,[4])]),
  (159,[(0,[0]),(1,[0,3]),(2,[3,7,8]),(3,[3,7,8,9]),(4,[3,4,7,8]),(5,[3,7,8]),(6,[3,7,8]),(7,[2])]),
  (160,[(0,[1,2]),(1,[1,2,4]),(2,[1,2,4,11]),(3,[2,3]),(4,[1,2]),(5,[1,2,21]),(6,[2,3]),(7,[1,2,27]),(8,[1,2,27]),(9,[2,27]),(10,[2,3]),(11,[2,3])]),
  (161,[(0,[1,2]),(1,[1,2,3]),(2,[1,2,3,4]),(3,[1,2,3,4,5]),(4,[1,2,3,5]),(5,[2,3]),(6,[2])]),
  (162,[(0,[0]),(1,[3]),(2,[3,4]),(3,[2]),(4,[6]),(5,[2]),(6,[2])]),
  (168,[(0,[1,2]),(1,[4])]),
  (169,[(0,[1]),(1,[2])]),
  (172,[(0,[1,2]),(1,[1,2,3]),(2,[2,3,17]),(3,[2,3]),(4,[2,3])]),
  (173,[(0,[0,1]),(1,[4])]),
  (174,[(0,[1,2]),(1,[3])]),
  (175,[(0,[0,1]),(1,[6,7]),(2,[4,5]),(3,[8,9]),(4,[4,5])]),
  (176,[(0,[1,2,3]),(1,[1,2,3,8]),(2,[6]),(3,[6])]),
  (177,[(0,[1,2]),(1,[1,2,5]),(2,[1,2,5,14]),(3,[1,2,5]),(4,[1,2,5,28]),(5,[4]),(6,[4])]),
  (178,[(0,[0,1]),(1,[0,1,5]),(2,[0,1,5,9]),(3,[0,1,5]),(4,[0,1,5,17]),(5,[4]),(6,[4])]),
  (181,[(0,[0,1]),(1,[4])]),
  (182,[(0,[0,1,2]),(1,[4])]),
  (183,[(0,[0,1,2,5]),(1,[0,1,2,5,7]),(2,[5]),(3,[5])]),
  (184,[(0,[0,1]),(1,[1,4,5]),(2,[1,4,5,20]),(3,[4,5]),(4,[4,5])]),
  (185,[(0,[0,1,2,5]),(1,[5])]),
  (186,[(0,[0,2]),(1,[2,3]),(2,[2]),(3,[2])]),
  (187,[(0,[0,1]),(1,[0,1,5]),(2,[0,1,5,6]),(3,[0,1,6,11]),(4,[12]),(5,[4]),(6,[4]),(7,[0,1,13]),(8,[4]),(9,[0,1,16]),(10,[4]),(11,[19]),(12,[4]),(13,[4])]),
  (188,[(0,[0,1,2]),(1,[4])]),
  (189,[(0,[0,3]),(1,[4])]),
  (190,[(0,[1]),(1,[1,5]),(2,[2]),(3,[2])]),
  (191,[(0,[0,3]),(1,[4])]),
  (192,[(0,[2,3]),(1,[2,3,5]),(2,[2,3,5,34]),(3,[4]),(4,[4])]),
  (193,[(0,[1,2,3,4]),(1,[1,2,3,4,10]),(2,[8]),(3,[8])]),
  (194,[(0,[1]),(1,[2])]),
  (195,[(0,[0,1,2,3,4]),(1,[0,1,2,3,4,14]),(2,[6]),(3,[0,1,2,3,4,7,8]),(4,[0,1,2,3,4,7,30]),(5,[6]),(6,[0,1,3,4,9]),(7,[0,1,3,4,9,10]),(8,[0,1,3,4,9,10,43,44,45]),(9,[0,1,3,4,9,10,43,44,45,46]),(10,[0,1,3,4,9,10,11,12,43,44,45]),(11,[0,1,3,4,9,10,43,44,45]),(12,[0,1,3,4,9,10,43,44,45]),(13,[0,3]),(14,[6])]),
  (196,[(0,[0,3]),(1,[0,3,5,6]),(2,[0,3,5,17]),(3,[0,3,5]),(4,[0,3,5]),(5,[5]),(6,[4])]),
  (197,[(0,[0]),(1,[2])]),
  (198,[(0,[0,1,5]),(1,[0,1,5,12]),(2,[6]),(3,[0,1,5,7]),(4,[0,1,5,7]),(5,[0,1,5,7,8,9]),(6,[0,1,5,7,8,32]),(7,[0,1,5,7,8]),(8,[0,1,5,8]),(9,[8]),(10,[6])]),
  (199,[(0,[0,2]),(1,[2])]),
  (200,[(0,[0,2]),(1,[2])]),
  (201,[(0,[1,2]),(1,[3])]),
  (203,[(0,[2,3]),(1,[2,3,5]),(2,[4])]),
  (204,[(0,[0,1]),(1,[0,1,7,8]),(2,[0,1,7,8,9]),(3,[0,1,5,7,8]),(4,[0,1,5,7,8,16]),(5,[4]),(6,[0,1,7,8]),(7,[4])]),
  (205,[(0,[0,1]),(1,[6]),(2,[4,5])]),
  (206,[(0,[0,1]),(1,[0,1,6]),(2,[0,1,6,7]),(3,[0,1,6,7,8]),(4,[0,1,6,7,8,9]),(5,[0,1,6,7,8,9,10]),(6,[0,1,6,7,9,11]),(7,[0,1,6,7,9,11,12]),(8,[0,1,6,7,9,12,13]),(9,[0,1,7,9,12,13]),(10,[0,1,4]),(11,[4,5])]),
  (218,[(0,[0,1]),(1,[0,1,7,8]),(2,[0,1,7,8,9]),(3,[0,1,5,7,8]),(4,[0,1,5,7,8,16]),(5,[4]),(6,[0,1,7,8]),(7,[4])]),
  (219,[(0,[0]),(1,[2])]),
  (220,[(0,[1,2]),(1,[3])]),
  (221,[(0,[0,1]),(1,[3])]),
  (222,[(0,[0,1,2,3]),(1,[5])]),
  (223,[(0,[1,2]),(1,[4])]),
  (224,[(0,[0,1]),(1,[3])]),
  (226,[(0,[2,3]),(1,[4])]),
  (227,[(0,[0,1]),(1,[0,1,10]),(2,[4]),(3,[0,1,12,13]),(4,[0,1,12,13,14]),(5,[0,1,5,12,13]),(6,[0,1,12,13,24]),(7,[4]),(8,[0,1,12,13]),(9,[4])]),
  (228,[(0,[0,1,2]),(1,[0,1,2,14]),(2,[6]),(3,[1,2,15,16,17]),(4,[1,2,15,16,17,18]),(5,[1,2,7,8,15,16,17]),(6,[1,2,8,9,15,16,17]),(7,[1,2,15,16,17,30]),(8,[6]),(9,[1,2,15,16,17]),(10,[6])]),
  (234,[(0,[0,1]),(1,[0,1,7,8]),(2,[0,1,7,8,9]),(3,[0,1,5,7,8]),(4,[0,1,5,7,8,16]),(5,[4]),(6,[0,1,7,8]),(7,[4])])],
 head:=[(18,[(4,[1,3])]),
  (21,[(3,[1,2,3,4])]),
  (28,[(7,[3,6,29,30,31]),(10,[3,6,8,29,30,31,36,37])]),
  (32,[(4,[0,1,5])]),
  (34,[(2,[0,3]),(8,[0,5])]),
  (35,[(4,[2,3,5])]),
  (39,[(10,[3,4,31,32,33])]),
  (40,[(3,[0,3,4])]),
  (44,[(5,[1,3,4])]),
  (53,[(3,[0,1,5,6])]),
  (57,[(8,[3,8,11,47,48])]),
  (58,[(4,[0,1,5])]),
  (68,[(9,[6,9,34,35,36])]),
  (72,[(4,[2,3,5])]),
  (74,[(3,[1,2,3,7,8])]),
  (75,[(4,[0,1,5])]),
  (76,[(2,[0,6,7,8])]),
  (84,[(2,[1,3]),(5,[1,3,4]),(10,[1,5]),(15,[1,5,6])]),
  (88,[(2,[2,3,6])]),
  (90,[(2,[2,6])]),
  (94,[(5,[0,3,4])]),
  (98,[(2,[1,2,4,5])]),
  (104,[(3,[0,5,6])]),
  (105,[(7,[0,1,5,17,18,19])]),
  (109,[(4,[0,1,5]),(9,[0,1,5,6])]),
  (124,[(8,[7,8])]),
  (126,[(1,[1,2,3,4,5,6]),(15,[1,2,3,4,5,6,9,13,93,94])]),
  (127,[(2,[2,4,10,11,12])]),
  (128,[(2,[3,4,8,9,10])]),
  (129,[(2,[2,3,5,8,12,13,14])]),
  (130,[(2,[2,6,7,8])]),
  (131,[(2,[1,3]),(7,[1,4]),(13,[1,4,5,6])]),
  (132,[(2,[1,3])]),
  (133,[(9,[1,2,3,4,10,11])]),
  (134,[(2,[0,1,5])]),
  (136,[(3,[1,2,4,21,22,23]),(7,[1,2,6,7,21,22,23,29]),(16,[1,2,6,7,8,9,21,22,23,29,75,76]),(23,[1,2,94])]),
  (139,[(1,[0,6])]),
  (155,[(2,[0,1,7,8])]),
  (158,[(4,[0,1,12,13])]),
  (159,[(3,[3,7,8])]),
  (177,[(2,[1,2,5])]),
  (178,[(2,[0,1,5])]),
  (195,[(9,[0,1,3,4,9,10,43,44,45])]),
  (204,[(2,[0,1,7,8])]),
  (218,[(2,[0,1,7,8])]),
  (227,[(4,[0,1,12,13])]),
  (228,[(4,[1,2,15,16,17])]),
  (234,[(2,[0,1,7,8])])],
 site:=[(61,[2]),(62,[3]),(80,[1,3,4,5]),(87,[1,3]),(96,[1]),(122,[2]),(138,[2]),(140,[3,4]),(145,[1]),(148,[1]),(157,[3,4]),(161,[1,3,4,5]),(168,[2]),(189,[3]),(191,[3]),(192,[2,3,5]),(194,[14]),(198,[5,7]),(209,[7]),(210,[9])] }
def Tm:Tw.vw:={ Tb with exts:=[],ext:=fun _ _ _=>none }
open Tw in
def agO:dN:=fun fv xs h=>match fv with
 |.fn f a b=>if f=94 then a4z 94 (kR Tryz.prog Tm (2^24) 2) (.fn f a b) xs h else if f=118 then Nr (.fn f a b) xs h else Qk 137 (.fn f a b) xs h
 |fv=>Qk 137 fv xs h
def T:Tw.vw:={ Tb with exts:=[94,137,118],ext:=agO,dem:=[87,88,90,138],din:=[136,139],aao:=[138] }
open Pv
structure Rw where
 fr:LI0
 to:LI0
 cell:V
 deriving DecidableEq
structure Br where
 var:Int
 aA:LI0
 deriving DecidableEq
structure Dg where
 aj:LI0
 aB:LI0
 aK:List V
 au:List Br
 root:Int
 deriving DecidableEq
structure Ld where
 s:LI0
 cells:List V
 deriving DecidableEq
structure Fc where
 name:ByteArray
 d:Dg
 deriving DecidableEq
structure Pc where
 facts:Int
 goal:Bool
 deriving DecidableEq
abbrev iy:Dg:=⟨[],[],[],[],0⟩
abbrev Fc0:Fc:=⟨⟨#[]⟩,iy⟩
abbrev Pc0:Pc:=⟨0,false⟩
abbrev Rw0:Rw:=⟨[],[],V0⟩
abbrev lD:Br:=⟨0,[]⟩
abbrev Ld0:Ld:=⟨[],[]⟩
inductive Kd where
 |i64|u8|u16|u64|b|o|k|v|rw|br|tb|vs|ld|dg|is|fc|pc|bl|bs|no
def Kd.T:Kd->Type
 |.i64|.u8|.u16|.u64=>Int
 |.dg=>Dg
 |.is=>LI0
 |.fc=>Fc
 |.pc=>Pc
 |.bl=>Bool
 |.bs=>List Bool
 |.b=>B
 |.o=>O
 |.k=>K
 |.v=>V
 |.rw=>Rw
 |.br=>Br
 |.tb=>List Rw
 |.vs=>List V
 |.ld=>Ld
 |.no=>Unit
def kd(t:Nat):Kd:=match t with
 | 3=>.i64
 | 5=>.u8
 | 900001=>.b
 | 900002=>.o
 | 900003=>.k
 | 900004=>.u16
 | 900005=>.u64
 | 26=>.dg
 | 22=>.is
 | 900006=>.fc
 | 900007=>.pc
 | 4=>.bl
 | 900008=>.bs
 | 39=>.v
 | 900009=>.rw
 | 105=>.br
 | 900010=>.tb
 | 23=>.vs
 | 900011=>.ld
 |_=>.no
def aG(t:Nat):Type:=(kd t).T
def Kd.z:(k:Kd)->k.T
 |.i64|.u8|.u16|.u64=>(0:Int)
 |.dg=>iy
 |.is=>([]:LI0)
 |.fc=>Fc0
 |.pc=>Pc0
 |.bl=>false
 |.bs=>([]:List Bool)
 |.b=>B0
 |.o=>O0
 |.k=>K0
 |.v=>V0
 |.rw=>Rw0
 |.br=>lD
 |.tb=>([]:List Rw)
 |.vs=>([]:List V)
 |.ld=>Ld0
 |.no=>()
abbrev lI(l:LI0):PV aG:=.dw 3 l false
abbrev lV(l:List V):PV aG:=.dw 39 l false
abbrev lRw(l:List Rw):PV aG:=.dw 900009 l false
abbrev lBr(l:List Br):PV aG:=.dw 105 l false
abbrev lDg(l:List Dg):PV aG:=.dw 26 l false
abbrev lB(l:List Bool):PV aG:=.dw 4 l false
def B.ps(b:B):List (PV aG):=[.int .i64 b.lo,.int .i64 b.hi,.int .u8 b.f]
def O.ps(o:O):List (PV aG):=[.int .u8 o.code,.int .i64 o.a,.int .i64 o.b,.int .i64 o.c,.int .i64 o.n]
def K.ps(c:K):List (PV aG):=[.str c.name,.int .i64 c.lo,.int .i64 c.hi]
def V.ps(v:V):List (PV aG):=[.int .u8 v.f,.int .i64 v.n]
def Rw.ps(r:Rw):List (PV aG):=[lI r.fr,lI r.to,.int .u8 r.cell.f,.int .i64 r.cell.n]
def Br.ps(b:Br):List (PV aG):=[.int .i64 b.var,lI b.aA]
def Ld.ps(x:Ld):List (PV aG):=[lI x.s,lV x.cells]
def Dg.ps(d:Dg):List (PV aG):=[lI d.aj,lI d.aB,lV d.aK,lBr d.au,.int .i64 d.root]
def Fc.ps(x:Fc):List (PV aG):=.str x.name::x.d.ps
def Pc.ps(x:Pc):List (PV aG):=[.int .u64 x.facts,.bool x.goal]
def B.un(l:List (PV aG)):Option B:=match l with
 | [.int .i64 a,.int .i64 b,.int .u8 c]=>some ⟨a,b,c⟩
 |_=>none
def O.un(l:List (PV aG)):Option O:=match l with
 | [.int .u8 c,.int .i64 x,.int .i64 y,.int .i64 z,.int .i64 n]=>some ⟨c,x,y,z,n⟩
 |_=>none
def K.un(l:List (PV aG)):Option K:=match l with
 | [.str c,.int .i64 x,.int .i64 y]=>some ⟨c,x,y⟩
 |_=>none
def V.un(l:List (PV aG)):Option V:=match l with
 | [.int .u8 c,.int .i64 x]=>some ⟨c,x⟩
 |_=>none
def I.un(k:IntKind)(l:List (PV aG)):Option Int:=match l with
 | [.int k' x]=>if k'=k then some x else none
 |_=>none
def L.un(t)(v:PV aG):Option (List (aG t)):=match v with
 |.dw t' l _=>Cj t t' l
 |.nil .aO=>some []
 |_=>none
def Rw.un(l:List (PV aG)):Option Rw:=match l with
 | [a,b,.int .u8 c,.int .i64 x]=>match L.un 3 a,L.un 3 b with
  |some a,some b=>some ⟨a,b,⟨c,x⟩⟩
  |_,_=>none
 |_=>none
def Br.un(l:List (PV aG)):Option Br:=match l with
 | [.int .i64 x,a]=>match L.un 3 a with
  |some a=>some ⟨x,a⟩
  |none=>none
 |_=>none
def Tb.un(l:List (PV aG)):Option (List Rw):=match l with
 | [a]=>L.un 900009 a
 |_=>none
def Vs.un(l:List (PV aG)):Option (List V):=match l with
 | [a]=>L.un 39 a
 |_=>none
def Ld.un(l:List (PV aG)):Option Ld:=match l with
 | [a,b]=>match L.un 3 a,L.un 39 b with
  |some a,some b=>some ⟨a,b⟩
  |_,_=>none
 |_=>none
def Dg.un(l:List (PV aG)):Option Dg:=match l with
 | [a,b,c,d,.int .i64 r]=>match L.un 3 a,L.un 3 b,L.un 39 c,L.un 105 d with
  |some a,some b,some c,some d=>some ⟨a,b,c,d,r⟩
  |_,_,_,_=>none
 |_=>none
def Is.un(l:List (PV aG)):Option LI0:=match l with
 | [a]=>L.un 3 a
 |_=>none
def Fc.un(l:List (PV aG)):Option Fc:=match l with
 |.str n::r=>(Dg.un r).map (⟨n,·⟩)
 |_=>none
def Pc.un(l:List (PV aG)):Option Pc:=match l with
 | [.int .u64 n,.bool b]=>some ⟨n,b⟩
 |_=>none
def Bl.un(l:List (PV aG)):Option Bool:=match l with
 | [.bool b]=>some b
 |_=>none
def Bs.un(l:List (PV aG)):Option (List Bool):=match l with
 | [a]=>L.un 4 a
 |_=>none
def Kd.enc:(k:Kd)->k.T->List (PV aG)
 |.i64=>fun n=>[.int .i64 n]
 |.u8=>fun n=>[.int .u8 n]
 |.u16=>fun n=>[.int .u16 n]
 |.u64=>fun n=>[.int .u64 n]
 |.dg=>Dg.ps
 |.is=>fun l=>[lI l]
 |.fc=>Fc.ps
 |.pc=>Pc.ps
 |.bl=>fun b=>[.bool b]
 |.bs=>fun l=>[lB l]
 |.b=>B.ps
 |.o=>O.ps
 |.k=>K.ps
 |.v=>V.ps
 |.rw=>Rw.ps
 |.br=>Br.ps
 |.tb=>fun l=>[lRw l]
 |.vs=>fun l=>[lV l]
 |.ld=>Ld.ps
 |.no=>fun _=>[]
def Kd.dec:(k:Kd)->List (PV aG)->Option k.T
 |.i64=>I.un .i64
 |.u8=>I.un .u8
 |.u16=>I.un .u16
 |.u64=>I.un .u64
 |.dg=>Dg.un
 |.is=>Is.un
 |.fc=>Fc.un
 |.pc=>Pc.un
 |.bl=>Bl.un
 |.bs=>Bs.un
 |.b=>B.un
 |.o=>O.un
 |.k=>K.un
 |.v=>V.un
 |.rw=>Rw.un
 |.br=>Br.un
 |.tb=>Tb.un
 |.vs=>Vs.un
 |.ld=>Ld.un
 |.no=>fun _=>none
def X0:ny:=⟨aG,fun t=>(kd t).z,fun t=>(kd t).enc,fun t=>(kd t).dec⟩
theorem B.wJ{l b}(h:B.un l=some b):B.ps b=l:=by
 unfold B.un at h;split at h
 .cases h;rfl
 cases h
theorem O.wJ{l b}(h:O.un l=some b):O.ps b=l:=by
 unfold O.un at h;split at h
 .cases h;rfl
 cases h
theorem K.wJ{l b}(h:K.un l=some b):K.ps b=l:=by
 unfold K.un at h;split at h
 .cases h;rfl
 cases h
theorem V.wJ{l b}(h:V.un l=some b):V.ps b=l:=by
 unfold V.un at h;split at h
 .cases h;rfl
 cases h
theorem I.wJ{k l b}(h:I.un k l=some b):[PV.int k b]=l:=by
 unfold I.un at h;split at h
 .split at h
  .rename_i e;cases h;rw[e]
  cases h
 cases h
section
variable{A:Nat->Prop}{m:List MB}{h:List HB}
theorem L.ji{t v l}(hu:L.un t v=some l){x}(hv:VR X0 Tryz.prog A m h v x):VR X0 Tryz.prog A m h (.dw t l false) x:=(a7L (X:=X0) (P:=Tryz.prog) t).ok (a:=l) (v:=v) (by
 cases v with
 |nil k=>cases k<;>first|exact hu|cases hu
 |dw t' l' f=>exact hu
 |_=>cases hu) hv
theorem Rw.ji{l r}(hu:Rw.un l=some r){xs}(hv:bZ X0 Tryz.prog A m h l xs):bZ X0 Tryz.prog A m h r.ps xs:=by
 unfold Rw.un at hu;split at hu
 .split at hu
  .rename_i e1 e2;cases hu;obtain⟨x1,r1,rfl,h1,hv⟩:=hv.inv;obtain⟨x2,r2,rfl,h2,hv⟩:=hv.inv;exact .cons (L.ji e1 h1) (.cons (L.ji e2 h2) hv)
  cases hu
 cases hu
theorem Br.ji{l r}(hu:Br.un l=some r){xs}(hv:bZ X0 Tryz.prog A m h l xs):bZ X0 Tryz.prog A m h r.ps xs:=by
 unfold Br.un at hu;split at hu
 .split at hu
  .rename_i e1;cases hu;obtain⟨x1,r1,rfl,h1,hv⟩:=hv.inv;obtain⟨x2,r2,rfl,h2,hv⟩:=hv.inv;exact .cons h1 (.cons (L.ji e1 h2) hv)
  cases hu
 cases hu
theorem Ld.ji{l r}(hu:Ld.un l=some r){xs}(hv:bZ X0 Tryz.prog A m h l xs):bZ X0 Tryz.prog A m h r.ps xs:=by
 unfold Ld.un at hu;split at hu
 .split at hu
  .rename_i e1 e2;cases hu;obtain⟨x1,r1,rfl,h1,hv⟩:=hv.inv;obtain⟨x2,r2,rfl,h2,hv⟩:=hv.inv;exact .cons (L.ji e1 h1) (.cons (L.ji e2 h2) hv)
  cases hu
 cases hu
theorem Tb.ji{l r}(hu:Tb.un l=some r){xs}(hv:bZ X0 Tryz.prog A m h l xs):bZ X0 Tryz.prog A m h [lRw r] xs:=by
 rcases l with _|⟨a,_|⟨b,l⟩⟩
 .cases hu
 .obtain⟨x1,r1,rfl,h1,hv⟩:=hv.inv;exact .cons (L.ji hu h1) hv
 cases hu
theorem Vs.ji{l r}(hu:Vs.un l=some r){xs}(hv:bZ X0 Tryz.prog A m h l xs):bZ X0 Tryz.prog A m h [lV r] xs:=by
 rcases l with _|⟨a,_|⟨b,l⟩⟩
 .cases hu
 .obtain⟨x1,r1,rfl,h1,hv⟩:=hv.inv;exact .cons (L.ji hu h1) hv
 cases hu
theorem Dg.ji{l r}(hu:Dg.un l=some r){xs}(hv:bZ X0 Tryz.prog A m h l xs):bZ X0 Tryz.prog A m h r.ps xs:=by
 unfold Dg.un at hu;split at hu
 .split at hu
  .rename_i e1 e2 e3 e4;cases hu;obtain⟨x1,r1,rfl,h1,hv⟩:=hv.inv;obtain⟨x2,r2,rfl,h2,hv⟩:=hv.inv;obtain⟨x3,r3,rfl,h3,hv⟩:=hv.inv;obtain⟨x4,r4,rfl,h4,hv⟩:=hv.inv;exact .cons (L.ji e1 h1) (.cons (L.ji e2 h2) (.cons (L.ji e3 h3) (.cons (L.ji e4 h4) hv)))
  cases hu
 cases hu
theorem Is.ji{l r}(hu:Is.un l=some r){xs}(hv:bZ X0 Tryz.prog A m h l xs):bZ X0 Tryz.prog A m h [lI r] xs:=by
 rcases l with _|⟨a,_|⟨b,l⟩⟩
 .cases hu
 .obtain⟨x1,r1,rfl,h1,hv⟩:=hv.inv;exact .cons (L.ji hu h1) hv
 cases hu
theorem Bs.ji{l r}(hu:Bs.un l=some r){xs}(hv:bZ X0 Tryz.prog A m h l xs):bZ X0 Tryz.prog A m h [lB r] xs:=by
 rcases l with _|⟨a,_|⟨b,l⟩⟩
 .cases hu
 .obtain⟨x1,r1,rfl,h1,hv⟩:=hv.inv;exact .cons (L.ji hu h1) hv
 cases hu
theorem Bl.wJ{l b}(h:Bl.un l=some b):[PV.bool b]=l:=by
 unfold Bl.un at h;split at h
 .cases h;rfl
 cases h
theorem Fc.ji{l r}(hu:Fc.un l=some r){xs}(hv:bZ X0 Tryz.prog A m h l xs):bZ X0 Tryz.prog A m h r.ps xs:=by
 unfold Fc.un at hu;split at hu
 .obtain⟨d,e1,rfl⟩:=a0z.1 hu;obtain⟨x1,r1,rfl,h1,hv⟩:=hv.inv;exact .cons h1 (Dg.ji e1 hv)
 cases hu
theorem Pc.wJ{l b}(h:Pc.un l=some b):Pc.ps b=l:=by
 unfold Pc.un at h;split at h
 .cases h;rfl
 cases h
theorem abx:∀(k:Kd) {l} {a:k.T},k.dec l=some a->∀{xs},bZ X0 Tryz.prog A m h l xs->bZ X0 Tryz.prog A m h (k.enc a) xs
 |.i64,_,_,e,_,hv=>by rw[show Kd.enc .i64 _=_ from I.wJ e];exact hv
 |.u8,_,_,e,_,hv=>by rw[show Kd.enc .u8 _=_ from I.wJ e];exact hv
 |.u16,_,_,e,_,hv=>by rw[show Kd.enc .u16 _=_ from I.wJ e];exact hv
 |.u64,_,_,e,_,hv=>by rw[show Kd.enc .u64 _=_ from I.wJ e];exact hv
 |.dg,_,_,e,_,hv=>Dg.ji e hv
 |.is,_,_,e,_,hv=>Is.ji e hv
 |.fc,_,_,e,_,hv=>Fc.ji e hv
 |.pc,_,_,e,_,hv=>by rw[show Kd.enc .pc _=_ from Pc.wJ e];exact hv
 |.bl,_,_,e,_,hv=>by rw[show Kd.enc .bl _=_ from Bl.wJ e];exact hv
 |.bs,_,_,e,_,hv=>Bs.ji e hv
 |.b,_,_,e,_,hv=>by rw[show Kd.enc .b _=_ from B.wJ e];exact hv
 |.o,_,_,e,_,hv=>by rw[show Kd.enc .o _=_ from O.wJ e];exact hv
 |.k,_,_,e,_,hv=>by rw[show Kd.enc .k _=_ from K.wJ e];exact hv
 |.v,_,_,e,_,hv=>by rw[show Kd.enc .v _=_ from V.wJ e];exact hv
 |.rw,_,_,e,_,hv=>Rw.ji e hv
 |.br,_,_,e,_,hv=>Br.ji e hv
 |.tb,_,_,e,_,hv=>Tb.ji e hv
 |.vs,_,_,e,_,hv=>Vs.ji e hv
 |.ld,_,_,e,_,hv=>Ld.ji e hv
 |.no,_,_,e,_,_=>by cases e
end
theorem a4N:∀(k:Kd) (a),jD.Iz (k.enc a)=true:=by intro k a;cases k<;>rfl
theorem hX:bW X0 Tryz.prog:=⟨fun{t} vs a e {A m hh xs} hv=>abx (kd t) e hv,fun t a=>a4N (kd t) a⟩
abbrev Arg(α:Type):=Ar X0 Tryz.prog α
def iA:Arg Int:=agk .i64
def uA:Arg Int:=agk .u8
def tA:Arg Bool:=akc
def vA:Arg V:=akd hX 39
def brA:Arg Br:=akd hX 105
def qF:Arg LI0:=a7L 3
def vsA:Arg (List V):=a7L 39
def aby:Arg (List Br):=a7L 105
def a4P:Arg (List Dg):=a7L 26
def pA:Arg Int:=agk .u64
def dA:Arg Dg:=agm (a7M (Nq qF (a4 qF vsA aby iA))) (fun p=>⟨p.1,p.2.1,p.2.2.1,p.2.2.2.1,p.2.2.2.2⟩) (fun d=>(d.aj,d.aB,d.aK,d.au,d.root)) fun _=>rfl
abbrev LL:Nat:=2^24
abbrev Gd(fU:fV aG):Prop:=Pv.Good X0 Tryz.prog T LL fU
abbrev iD(n:Nat):dN:=kR Tryz.prog T LL n
theorem Uk:ah<LL:=by decide
abbrev Lp(n f k:Nat)(s:bT aG)(e:Ex)(s':bT aG):Prop:=dR X0 Tryz.prog T (iD n) LL f false (D9 Tryz.prog f) 0 (.loop (U3 Tryz.prog f k)) s e s'
abbrev Ok(n:Nat)(fU:fV aG):Prop:=jR X0 Tryz.prog (iD n) fU
abbrev xi(n:Int):PE aG:=.val (.int .i64 n)
abbrev xl(b:Bool):PE aG:=.val (.lit b)
abbrev xL(t:Nat)(l:List (aG t)):PE aG:=.val (.dw t l false)
abbrev xo(b:Nat):PE aG:=.val (.own b)
theorem le0:0<=ah:=by decide
theorem le1:1<=ah:=by decide
theorem Zz:2<=ah:=by decide
theorem le3:3<=ah:=by decide
theorem le8:8<=LL:=by decide
theorem gK{n}:Ok n (abj (X:=X0)):=fun f vs v ext ps h=>by cases h
abbrev Ob(n f k B:Nat)(s:bT aG)(e:Ex)(s':bT aG):Prop:=dR X0 Tryz.prog T (iD n) LL f false (D9 Tryz.prog f) B (.loop (U3 Tryz.prog f k)) s e s'
abbrev Qp:LI1:=Tryz.prog
abbrev jf(n:Nat):=dI X0 Tryz.prog (iD n)
theorem iC{α:Type}{a:α}{l:List α}:a∈a::l:=.head _
theorem yC{α:Type}{a b:α}{l:List α}:a∈b::a::l:=.tail _ (.head _)
theorem hh2{α:Type}{a b c:α}{l:List α}:a∈b::c::a::l:=.tail _ (.tail _ (.head _))
theorem aN{β:Type}{n f:Nat}{fU:fV aG}(hO:Ok n fU){vs:List (PV aG)}{an:PT aG}{r:Ar X0 Tryz.prog β}{s:β}{o:OT (Option (PV aG))}(ht:Fp (Is r s) an o)(hk:(DL X0 Tryz.prog T fU (dI X0 Tryz.prog (iD n)) (CB X0 Tryz.prog T (iD n) LL f 0) LL f vs [] an).map frz=o:=by kernel_rfl):nN X0 Tryz.prog (iD (n+1)) f vs (r.put s) []:=akf hX hO hk ht
theorem jF{β:Type}{n f:Nat}{fU:fV aG}(hO:Ok n fU){first xs cap:List (PV aG)}{H H1:List (PB aG)}{an:PT aG}{r:Ar X0 Tryz.prog β}{s:β}{o:OT (PV aG×List (PB aG))}(ht:Fp (IsS r s H1) an o)(hk:DL X0 Tryz.prog T fU (dI X0 Tryz.prog (iD n)) (CB X0 Tryz.prog T (iD n) LL f H.length) LL f (first++xs++cap) H an=o:=by kernel_rfl):dI X0 Tryz.prog (iD (n+1)) (.fn f first cap) xs H (r.put s) H1:=DW hX hO hk ht
theorem fD{n f:Nat}{fU:fV aG}(hO:Ok n fU){first xs cap:List (PV aG)}{H H1:List (PB aG)}{v:PV aG}{an:PT aG}{o:OT (PV aG×List (PB aG))}(ht:Fp (IsE (X:=X0) v H1) an o)(hk:DL X0 Tryz.prog T fU (dI X0 Tryz.prog (iD n)) (CB X0 Tryz.prog T (iD n) LL f H.length) LL f (first++xs++cap) H an=o:=by kernel_rfl):dI X0 Tryz.prog (iD (n+1)) (.fn f first cap) xs H v H1:=nY hX hO hk ht
theorem aP{call:dN}{fU:fV aG}{L f:Nat}{iF:Bool}{nt B:Nat}(hO:jR X0 Tryz.prog call fU){b:Code}{n:Nat}{ps:bT aG}{an:PT aG}{e:Ex}{s:bT aG}{o:OT (Ex×bT aG)}(ht:Fp (Rnd X0 Tryz.prog T call L f iF nt B b n e s) an o)(hk:jW X0 Tryz.prog T fU (dI X0 Tryz.prog call) (dR X0 Tryz.prog T call L f iF nt B) B L f iF nt b ps an (agj (iq X0 (T.eY f (dW b))) B)=o:=by kernel_rfl):dO X0 Tryz.prog T call L f iF nt B b (n+1) ps e s:=round hX hO hk ht
abbrev a8h(f:Nat)(a c:List (PV aG))(H:List (PB aG))(l:LI0)(i:Int)(x:List (Nat×PE aG)):bT aG:=⟨[(0,xL 3 l),(1,.val (.fn f a c)),(7,xi l.length),(8,xi i)]++x,[],H⟩
def z218(f:Nat)(a c:List (PV aG))(H:List (PB aG))(l:LI0):Unit⊕(Nat×Int×Unit)->Ex×bT aG
 |.inl _=>(.exit 0,a8h f a c H l l.length [(9,xl false)])
 |.inr r=>(.ret,⟨[(4,xi r.1)],[],H⟩)
theorem aqJ{n f:Nat}{a c:List (PV aG)}{H:List (PB aG)}{g}(hf:∀x,jf n (.fn f a c) [.int .i64 x] H (.bool (g x)) H)(l:LI0)(hl:l.length<=ah):jf (n+1) (.fn 218 [] []) [.dw 3 l false,.fn f a c] H (iA.put (sS g l)) H:=by
 have lp:Ob n 218 0 H.length (a8h f a c H l 0 []) (z218 f a c H l (lZ (qE g) l 0 ())).1 (z218 f a c H l (lZ (qE g) l 0 ())).2:=
  Y5 (st:=fun i _=>a8h f a c H l i []) (0:Int) (fun _ _=>True) (by kernel_rfl) hl Uk trivial (fun k s n hk _ ih=>aP gK (.b (bD hk) (.o (aH hk) (.k (hf (l.getD k (0:Int))) (.ls (.ou nofun) (.nx (ih _ trivial))))))) (fun s _=>aP gK (.b (fC l.length) (.ou nofun)))
 exact jF gK (first:=[]) (cap:=[]) (.szh (fun h=>.w (kX lp () h) .sr) (fun h=>.w (kY lp (0,0,()) h) .sr))
theorem akG{n f:Nat}(hn:0<n){a c:List (PV aG)}{H:List (PB aG)}{g}(hf:∀x,dI X0 Qp (iD (n-1)) (.fn f a c) [.int .i64 x] H (.bool (g x)) H)(l:LI0)(hl:l.length<=ah):jf (n+1) (.fn 181 [] []) [.dw 3 l false,.fn f a c] H (tA.put (nP g l)) H:=by have h1:=aqJ hf l hl;rw[show n-1+1=n by omega]at h1;exact jF gK (first:=[]) (cap:=[]) (.k h1 .sr)
abbrev agP(f:Nat)(a c:List (PV aG))(H:List (PB aG))(l:List V)(i:Int)(x:List (Nat×PE aG)):bT aG:=⟨[(0,xL 39 l),(1,.val (.fn f a c)),(7,xi l.length),(8,xi i)]++x,[],H⟩
def akH(f:Nat)(a c:List (PV aG))(H:List (PB aG))(l:List V):Unit⊕(Nat×V×Unit)->Ex×bT aG
 |.inl _=>(.exit 0,agP f a c H l l.length [(9,xl false)])
 |.inr r=>(.ret,⟨[(4,xi r.1)],[],H⟩)
theorem akI{n f:Nat}{a c:List (PV aG)}{H:List (PB aG)}{g}(hf:∀x,jf n (.fn f a c) [.agg x.ps] H (.bool (g x)) H)(l:List V)(hl:l.length<=ah):jf (n+1) (.fn 155 [] []) [.dw 39 l false,.fn f a c] H (iA.put (gu g l)) H:=by
 have lp:Ob n 155 0 H.length (agP f a c H l 0 []) (akH f a c H l (lZ (jd g) l 0 ())).1 (akH f a c H l (lZ (jd g) l 0 ())).2:=
  Y5 (st:=fun i _=>agP f a c H l i []) V0 (fun _ _=>True) (by kernel_rfl) hl Uk trivial (fun k s n hk _ ih=>aP gK (.b (bD hk) (.o (aH hk) (.k (hf (l.getD k V0)) (.ls (.ou nofun) (.nx (ih _ trivial))))))) (fun s _=>aP gK (.b (fC l.length) (.ou nofun)))
 exact jF gK (first:=[]) (cap:=[]) (.szh (fun h=>.w (kX lp () h) .sr) (fun h=>.w (kY lp (0,V0,()) h) .sr))
theorem agQ{n f:Nat}(hn:0<n){a c:List (PV aG)}{H:List (PB aG)}{g}(hf:∀x,dI X0 Qp (iD (n-1)) (.fn f a c) [.agg x.ps] H (.bool (g x)) H)(l:List V)(hl:l.length<=ah):jf (n+1) (.fn 152 [] []) [.dw 39 l false,.fn f a c] H (tA.put (qI g l)) H:=by have h1:=akI hf l hl;rw[show n-1+1=n by omega]at h1;exact jF gK (first:=[]) (cap:=[]) (.k h1 .sr)
def adF:fV aG:=bU 219 (a1 iA) tA (fun p=>VX p) np (abj (X:=X0))
theorem akJ:Gd adF:=Good.nil.add fun n hO p hp=>aN hO .rr
def adG:fV aG:=bU 141 (a1 uA) vA (fun p=>Jc p) np adF
theorem akK:Gd adG:=akJ.add fun n hO p hp=>aN hO .rr
def adH:fV aG:=bU 140 (a3 iA iA qF) tA (fun p=>Af p.2.2 p.1 p.2.1) (fun p=>[p.2.2.length<=ah]) adG
theorem akL:Gd adH:=akK.deep 3 fun n hn hO p hp=>by have h1:∀x,dI X0 Qp (iD (n-3+1)) (.fn 182 [] [.ptr 0 0 1,.ptr 1 0 1]) [.int .i64 x] [.cells [.int .i64 p.1],.cells [.int .i64 p.2.1]] (tA.put (y9 x p.1 p.2.1)) [.cells [.int .i64 p.1],.cells [.int .i64 p.2.1]]:=fun x=>jF gK (first:=[]) (.ssh (fun _=>.sr) (fun _=>.sr));obtain⟨n,rfl⟩:∃k,n=k+3:=⟨n-3,by omega⟩;rw[show n+3-3+1=n+1 by omega]at h1;have h2:=akG (n:=n+2) (by omega) (g:=fun x=>y9 x p.1 p.2.1) h1 p.2.2 (hp _ iC);exact aN (hO _ (by omega)) (.k h2 (.v (!(nP (fun x=>y9 x p.1 p.2.1) p.2.2)) (by rw[EY];rfl)))
theorem nan(x):VX x=false:=by simp[VX]
def adI:fV aG:=bU 154 (a1 vA) tA (fun p=>sU p) np adH
theorem akM:Gd adI:=akL.add fun n hO p hp=>aN hO (.ss (.o le1 .rr) (.ss .rr .rr))
def adJ:fV aG:=bU 100 (a1 iA) vA (fun p=>lN p) np adI
theorem akN:Gd adJ:=akM.add fun n hO p hp=>aN hO (.o le1 (.ss .rr .rr))
def adK:fV aG:=bU 186 (a1 tA) vA (fun p=>Jd p) np adJ
theorem akO:Gd adK:=akN.add fun n hO p hp=>aN hO (.ss .rr .rr)
def adL:fV aG:=bU 199 (a1 iA) vA (fun p=>Je p) np adK
theorem akP:Gd adL:=akO.add fun n hO p hp=>aN hO .rr
def adM:fV aG:=bU 200 (a1 iA) vA (fun p=>Jf p) np adL
theorem akQ:Gd adM:=akP.add fun n hO p hp=>aN hO .rr
def adN:fV aG:=bU 156 (a1 vA) tA (fun p=>mD p) np adM
theorem akR:Gd adN:=akQ.add fun n hO p hp=>aN hO .rr
def adO:fV aG:=bU 153 (a1 vA) tA (fun p=>BH p) np adN
theorem akS:Gd adO:=akR.add fun n hO p hp=>aN hO .rr
def adP:fV aG:=bU 142 (a2 iA iA) vA (fun p=>KP p.1 p.2) np adO
theorem akT:Gd adP:=akS.add fun n hO p hp=>aN hO .rr
def adQ:fV aG:=bU 143 (a2 iA iA) vA (fun p=>KQ p.1 p.2) np adP
theorem akU:Gd adQ:=akT.add fun n hO p hp=>aN hO .rr
def adR:fV aG:=bU 144 (a2 iA iA) vA (fun p=>KR p.1 p.2) np adQ
theorem akV:Gd adR:=akU.add fun n hO p hp=>aN hO .rr
def adS:fV aG:=bU 146 (a2 iA iA) iA (fun p=>Ec p.1 p.2) np adR
theorem akW:Gd adS:=akV.add fun n hO p hp=>aN hO .rr
def adT:fV aG:=bU 147 (a2 iA iA) iA (fun p=>Ed p.1 p.2) np adS
theorem akX:Gd adT:=akW.add fun n hO p hp=>aN hO .rr
def adU:fV aG:=bU 149 (a1 iA) tA (fun p=>Ee p) np adT
theorem akY:Gd adU:=akX.add fun n hO p hp=>aN hO .rr
def adV:fV aG:=bU 150 (a1 iA) tA (fun p=>Ef p) np adU
theorem akZ:Gd adV:=akY.add fun n hO p hp=>aN hO .rr
def adW:fV aG:=bU 151 (a1 iA) tA (fun p=>Eh p) np adV
theorem al0:Gd adW:=akZ.add fun n hO p hp=>aN hO .rr
def adX:fV aG:=bU 184 (a2 iA iA) (dJ (a2 iA iA)) (fun p=>vS p.1 p.2) (fun p=>[p.2≠0]) adW
theorem al1:Gd adX:=al0.add fun n hO p hp=>aN hO (.o (hp _ iC) (.o (hp _ iC) (.ss (.ss .rr .rr) .rr)))
def adY:fV aG:=bU 187 (a2 iA iA) iA (fun p=>KO p.1 p.2) np adX
theorem al2:Gd adY:=al1.add fun n hO p hp=>aN hO (.b (nan p.1) (.b (nan p.2) (.ss .rr (.ss .rr .rr))))
theorem aqK{n fU}(hO:Ok n fU)(ho:∀x,fU 156 [.agg x.ps]=some (.bool (mD x),[],[]))(H:List (PB aG))(x):jf n (.fn 156 [] []) [.agg x.ps] H (.bool (mD x)) H:=
 O8 hX hO (first:=[]) (cap:=[]) (vs:=[.agg x.ps]) (v:=.bool (mD x)) rfl (ho x) (fun p h=>by cases h) rfl
theorem aqL{n fU}(hO:Ok n fU)(ho:∀x,fU 153 [.agg x.ps]=some (.bool (BH x),[],[]))(H:List (PB aG))(x):jf n (.fn 153 [] []) [.agg x.ps] H (.bool (BH x)) H:=
 O8 hX hO (first:=[]) (cap:=[]) (vs:=[.agg x.ps]) (v:=.bool (BH x)) rfl (ho x) (fun p h=>by cases h) rfl
def adZ:fV aG:=bU 103 (a1 vsA) (dJ (a2 vA tA)) (fun p=>aW p) (fun p=>[p.length<=ah]) adY
theorem al3:Gd adZ:=al2.deep 2 fun n hn hO p hp=>by have hs:=akI (n:=n-1) (H:=[]) (g:=fun v=>mD v) (aqK (hO (n-1) (by omega)) (fun _=>rfl) []) p (hp _ iC);rw[show n-1+1=n by omega]at hs;exact aN (hO n (by omega)) (.k hs (.sh (fun h=>.rr) (fun h=>.o (show gV (gu (fun v=>mD v) p) p.length from⟨by simpa using h,Sl _ _⟩) .rr)))
def ae0:fV aG:=bU 102 (a1 vsA) tA (fun p=>gX p) (fun p=>[p.length<=ah]) adZ
theorem al4:Gd ae0:=al3.deep 3 fun n hn hO p hp=>by have hs:=agQ (n:=n-1) (by omega) (H:=[]) (g:=fun v=>BH v) (aqL (hO (n-2) (by omega)) (fun _=>rfl) []) p (hp _ iC);rw[show n-1+1=n by omega]at hs;exact aN (hO n (by omega)) (.k hs (.v (!(qI (fun v=>BH v) p)) (by rw[KN];rfl)))
def al5:fV aG:=bU 99 (a3 vA vA vA) (dJ (a2 vA iA)) (fun p=>gy p.1 p.2.1 p.2.2) np ae0
theorem aqM:Gd al5:=al4.add fun n hO p hp=>aN hO (.o le3 (.ss .rr (.ss .rr (.ss .rr .rr))))
def al6:Arg Nat where
 put f:=.fn f [] []
 get v:=match v with
  |.fn g [] []=>some g
  |_=>none
 ok:=by
  intro v a hg A m h x hv;split at hg
  .cases hg;exact hv
  .cases hg
def ae1:fV aG:=Si 162 (a1 uA) (fun p=>.fn (if p=5 then 199 else 200) [] []) (fun _=>[]) (fun p=>[p=5\/p=6]) al5
theorem al7:Gd ae1:=aqM.MJ 0 fun n _ hO p hp=>by
 rcases hp _ iC with rfl|rfl
 .exact wF hX (hO n (by omega)) (by kernel_rfl) (.b aiG .er)
 .exact wF hX (hO n (by omega)) (by kernel_rfl) (.b aiC (.b aiG .er))
def ae2:fV aG:=bU 110 (a2 uA vA) (dJ (a2 vA iA)) (fun p=>Jg p.1 p.2) (fun p=>[p.1=5\/p.1=6]) ae1
theorem al8:Gd ae2:=al7.add fun n hO p hp=>by
 obtain⟨k,a⟩:=p;rcases(show k=5\/k=6 from hp _ iC)with rfl|rfl
 .have:nN X0 Qp (iD (n+1)) 110 ((a2 uA vA).put (5,a)) ((dJ (a2 vA iA)).put (sV a)) []:=aN hO (.o (.inl rfl:(5:Int)=5\/(5:Int)=6) (.b aiC (.ss .rr (.o le1 (.ss .rr .rr)))));exact this
 .have:nN X0 Qp (iD (n+1)) 110 ((a2 uA vA).put (6,a)) ((dJ (a2 vA iA)).put (sW a)) []:=aN hO (.o (.inr rfl:(6:Int)=5\/(6:Int)=6) (.b aiC (.ss .rr (.o le1 (.ss .rr .rr)))));exact this
def ae3:fV aG:=Si 145 (a1 al6) (fun _=>.fn 183 [] [.ptr 0 0 1]) (fun g=>[.cells [.fn g [] []]]) np ae2
theorem al9:Gd ae3:=al8.MJ 0 fun n _ hO p hp=>wF hX (hO n (by omega)) (by kernel_rfl) .er
def ae4:fV aG:=Si 148 (a1 al6) (fun _=>.fn 185 [] [.ptr 0 0 1]) (fun g=>[.cells [.fn g [] []]]) np ae3
theorem ala:Gd ae4:=al9.MJ 0 fun n _ hO p hp=>wF hX (hO n (by omega)) (by kernel_rfl) .er
def aqN(p:Int):PV aG:=if p=7 then .fn 142 [] []else if p=8 then .fn 143 [] []else if p=9 then .fn 144 [] []else if p=10 then .fn 183 [] [.ptr 0 0 1]else if p=11 then .fn 183 [] [.ptr 0 0 1]else .fn 185 [] [.ptr 0 0 1]
def aqO(p:Int):List (PB aG):=if p=10 then [.cells [.fn 146 [] []]]else if p=11 then [.cells [.fn 147 [] []]]else if p=12 then [.cells [.fn 149 [] []]]else if p=13 then [.cells [.fn 150 [] []]]else if p=14 then [.cells [.fn 151 [] []]]else []
def Qz:fV aG:=Si 101 (a1 uA) aqN aqO (fun p=>[7<=p/\p<=14]) ae4
theorem seven{p:Int}(h:7<=p/\p<=14):p=7\/p=8\/p=9\/p=10\/p=11\/p=12\/p=13\/p=14:=by omega
theorem alb:Gd Qz:=ala.MJ 0 fun n _ hO p hp=>by
 rcases seven (hp _ iC)with rfl|rfl|rfl|rfl|rfl|rfl|rfl|rfl
 .exact wF hX (hO n (by omega)) (by kernel_rfl) (.b aiG .er)
 .exact wF hX (hO n (by omega)) (by kernel_rfl) (.b aiC (.b aiG .er))
 .exact wF hX (hO n (by omega)) (by kernel_rfl) (.b aiC (.b aiC (.b aiG .er)))
 .exact wF hX (hO n (by omega)) (by kernel_rfl) (.b aiC (.b aiC (.b aiC (.b aiG .er))))
 .exact wF hX (hO n (by omega)) (by kernel_rfl) (.b aiC (.b aiC (.b aiC (.b aiC (.b aiG .er)))))
 .exact wF hX (hO n (by omega)) (by kernel_rfl) (.b aiC (.b aiC (.b aiC (.b aiC (.b aiC (.b aiG .er))))))
 .exact wF hX (hO n (by omega)) (by kernel_rfl) (.b aiC (.b aiC (.b aiC (.b aiC (.b aiC (.b aiC (.b aiG .er)))))))
 .exact wF hX (hO n (by omega)) (by kernel_rfl) (.b aiC (.b aiC (.b aiC (.b aiC (.b aiC (.b aiC (.b aiC (.b aiG .er))))))))
theorem abz{n}(hO:Ok n Qz)(a b:V)(x y):jf (n+1) (.fn 183 [] [.ptr 0 0 1]) [.int .i64 x,.int .i64 y] [.cells [.fn 146 [] []],.list true true 39 [a,b],.list true true 39 [a,b]] (vA.put (iQ Ec x y)) [.cells [.fn 146 [] []],.list true true 39 [a,b],.list true true 39 [a,b]]:=
 jF hO (first:=[]) (.ssh (fun _=>.sr) (fun h=>.o (show y≠0 by simpa using h) .sr))
theorem abA{n}(hO:Ok n Qz)(a b:V)(x y):jf (n+1) (.fn 183 [] [.ptr 0 0 1]) [.int .i64 x,.int .i64 y] [.cells [.fn 147 [] []],.list true true 39 [a,b],.list true true 39 [a,b]] (vA.put (iQ Ed x y)) [.cells [.fn 147 [] []],.list true true 39 [a,b],.list true true 39 [a,b]]:=
 jF hO (first:=[]) (.ssh (fun _=>.sr) (fun h=>.o (show y≠0 by simpa using h) .sr))
theorem abB{n}(hO:Ok n Qz)(a b:V)(x y):jf (n+1) (.fn 185 [] [.ptr 0 0 1]) [.int .i64 x,.int .i64 y] [.cells [.fn 149 [] []],.list true true 39 [a,b],.list true true 39 [a,b]] (vA.put (dV Ee x y)) [.cells [.fn 149 [] []],.list true true 39 [a,b],.list true true 39 [a,b]]:=
 jF hO (first:=[]) .sr
theorem abC{n}(hO:Ok n Qz)(a b:V)(x y):jf (n+1) (.fn 185 [] [.ptr 0 0 1]) [.int .i64 x,.int .i64 y] [.cells [.fn 150 [] []],.list true true 39 [a,b],.list true true 39 [a,b]] (vA.put (dV Ef x y)) [.cells [.fn 150 [] []],.list true true 39 [a,b],.list true true 39 [a,b]]:=
 jF hO (first:=[]) .sr
theorem abD{n}(hO:Ok n Qz)(a b:V)(x y):jf (n+1) (.fn 185 [] [.ptr 0 0 1]) [.int .i64 x,.int .i64 y] [.cells [.fn 151 [] []],.list true true 39 [a,b],.list true true 39 [a,b]] (vA.put (dV Eh x y)) [.cells [.fn 151 [] []],.list true true 39 [a,b],.list true true 39 [a,b]]:=
 jF hO (first:=[]) .sr
def alc:fV aG:=bU 45 (a3 uA vA vA) (dJ (a2 vA iA)) (fun p=>Jh p.1 p.2.1 p.2.2) (fun p=>[7<=p.1/\p.1<=16]) Qz
theorem aqP:Gd alc:=alb.deep 1 fun n hn hO p hp=>by
 obtain⟨n,rfl⟩:∃k,n=k+1:=⟨n-1,by omega⟩;have CZ:=hO n (by omega);have hO:=hO (n+1) (by omega);obtain⟨k,a,b⟩:=p;rcases nine (show 7<=k/\k<=16 from hp _ iC)with rfl|rfl|rfl|rfl|rfl|rfl|rfl|rfl|rfl|rfl
 .have:nN X0 Qp (iD (n+1+1)) 45 ((a3 uA vA vA).put (7,a,b)) ((dJ (a2 vA iA)).put (oQ a b)) []:=aN hO (.b aiC (.b aiC (.o (by decide:(7:Int)<=7/\(7:Int)<=14) (.b aiC (.o Zz (.ss .rr (.o Zz (.ss .rr .rr))))))));exact this
 .have:nN X0 Qp (iD (n+1+1)) 45 ((a3 uA vA vA).put (8,a,b)) ((dJ (a2 vA iA)).put (oU a b)) []:=aN hO (.b aiC (.b aiC (.o (by decide:(7:Int)<=8/\(8:Int)<=14) (.b aiC (.o Zz (.ss .rr (.o Zz (.ss .rr .rr))))))));exact this
 .have:nN X0 Qp (iD (n+1+1)) 45 ((a3 uA vA vA).put (9,a,b)) ((dJ (a2 vA iA)).put (oV a b)) []:=aN hO (.b aiC (.b aiC (.o (by decide:(7:Int)<=9/\(9:Int)<=14) (.b aiC (.o Zz (.ss .rr (.o Zz (.ss .rr .rr))))))));exact this
 .have:nN X0 Qp (iD (n+1+1)) 45 ((a3 uA vA vA).put (10,a,b)) ((dJ (a2 vA iA)).put (mF a b)) []:=aN hO (.b aiC (.b aiC (.o (by decide:(7:Int)<=10/\(10:Int)<=14) (.b aiC (.o Zz (.ss .rr (.o Zz (.ss .rr (.k (abz CZ a b a.n b.n) .rr)))))))));exact this
 .have:nN X0 Qp (iD (n+1+1)) 45 ((a3 uA vA vA).put (11,a,b)) ((dJ (a2 vA iA)).put (mG a b)) []:=aN hO (.b aiC (.b aiC (.o (by decide:(7:Int)<=11/\(11:Int)<=14) (.b aiC (.o Zz (.ss .rr (.o Zz (.ss .rr (.k (abA CZ a b a.n b.n) .rr)))))))));exact this
 .have:nN X0 Qp (iD (n+1+1)) 45 ((a3 uA vA vA).put (12,a,b)) ((dJ (a2 vA iA)).put (mJ a b)) []:=aN hO (.b aiC (.b aiC (.o (by decide:(7:Int)<=12/\(12:Int)<=14) (.b aiC (.o Zz (.ss .rr (.o Zz (.ss .rr (.k (abB CZ a b a.n b.n) .rr)))))))));exact this
 .have:nN X0 Qp (iD (n+1+1)) 45 ((a3 uA vA vA).put (13,a,b)) ((dJ (a2 vA iA)).put (mM a b)) []:=aN hO (.b aiC (.b aiC (.o (by decide:(7:Int)<=13/\(13:Int)<=14) (.b aiC (.o Zz (.ss .rr (.o Zz (.ss .rr (.k (abC CZ a b a.n b.n) .rr)))))))));exact this
 .have:nN X0 Qp (iD (n+1+1)) 45 ((a3 uA vA vA).put (14,a,b)) ((dJ (a2 vA iA)).put (mO a b)) []:=aN hO (.b aiC (.b aiC (.o (by decide:(7:Int)<=14/\(14:Int)<=14) (.b aiC (.o Zz (.ss .rr (.o Zz (.ss .rr (.k (abD CZ a b a.n b.n) .rr)))))))));exact this
 .have:nN X0 Qp (iD (n+1+1)) 45 ((a3 uA vA vA).put (15,a,b)) ((dJ (a2 vA iA)).put (uM a b)) []:=aN hO (.b aiG .rr);exact this
 .have:nN X0 Qp (iD (n+1+1)) 45 ((a3 uA vA vA).put (16,a,b)) ((dJ (a2 vA iA)).put (uN a b)) []:=aN hO (.b aiC (.b aiG .rr));exact this
open Go Tw Pv bV
def ald:fV aG:=bU 23 (a3 iA iA iA) tA (fun p=>oP p.1 p.2.1 p.2.2) np alc
theorem aqQ:Gd ald:=aqP.add fun n hO p hp=>aN hO (.ss .rr .rr)
abbrev MQ(a b:LI0)(k:Nat):Bool:=a.getD k 0 != b.getD k 0
abbrev w32(a b:LI0)(i:Int)(x:List (Nat×PE aG)):bT aG:=⟨[(0,xL 3 a),(1,xL 3 b),(5,xi i)]++x,[],[]⟩
def z32(a b:LI0):Unit⊕Nat->Ex×bT aG
 |.inl _=>(.exit 0,w32 a b a.length [(14,xl false)])
 |.inr _=>(.ret,⟨[(4,xl false)],[],[]⟩)
theorem l32{n fU}(hO:Ok n fU)(a b)(hl:a.length<=ah)(h:a.length=b.length):Lp n 32 0 (w32 a b 0 []) (z32 a b (bH (MQ a b) a.length)).1 (z32 a b (bH (MQ a b) a.length)).2:=
 Qe (st:=fun i _=>w32 a b i []) (fun _ _=>True) (by kernel_rfl) hl Uk trivial (fun k s n hk _ ih=>aP hO (.b (bD hk) (.o (aH hk) (.o (aH (h▸hk)) (.ls (.ou nofun) (.nx (ih _ trivial))))))) (fun s _=>aP hO (.b (fC a.length) (.ou nofun)))
theorem F8{a b}(h:a.length=b.length):jS (bH (MQ a b) a.length)=decide (a=b):=by rw[a5R,dD,a1F,pW (d:=0) h];simp[MQ]
theorem a8i{a b:LI0}(h:((a.length:Int) != (b.length:Int))=true):decide (a=b)=false:=by rw[a3L];rintro rfl;simp at h
theorem mP{α β:Type}{a:List α}{b:List β}(h:((a.length:Int) != (b.length:Int))=false):a.length=b.length:=by simp at h;omega
def ale:fV aG:=bU 32 (a2 qF qF) tA (fun p=>decide (p.1=p.2)) (fun p=>[p.1.length<=ah]) ald
theorem aqS:Gd ale:=aqQ.add fun n hO p hp=>aN hO (.s (fun h=>.v false (a8i h).symm) fun h=>.z (c:=jS (bH (MQ p.1 p.2) p.1.length)) (fun h2=>.w (kX (l32 hO p.1 p.2 (hp _ iC) (mP h)) () h2) (.v true (by rw[<-F8 (mP h),h2]))) fun h2=>.w (kY (l32 hO p.1 p.2 (hp _ iC) (mP h)) 0 h2) (.v false (by rw[<-F8 (mP h),h2])))
abbrev abE(a:LI0)(n i:Int)(x:List (Nat×PE aG)):bT aG:=⟨[(0,xL 3 a),(5,xi n),(6,xi i)]++x,[],[]⟩
theorem aqT{n fU}(hO:Ok n fU)(a)(hl:a.length<=ah):Lp n 104 0 (abE a 1 0 []) (.exit 0) (abE a (Gi a) a.length [(11,xl false)]):=
 Qg (st:=fun i n=>abE a n i []) (fin:=fun n=>abE a n a.length [(11,xl false)]) (fun _ _=>True) (by kernel_rfl) hl Uk trivial (fun _ _ _ _=>trivial) (fun k s hk _ n e p h=>aP hO (.b (bD hk) (.o (aH hk) (.go h)))) (fun s _=>aP hO (.b (fC a.length) .ex))
def ae5:fV aG:=bU 104 (a2 qF iA) iA (fun p=>Gi p.1) (fun p=>[p.1.length<=ah,p.2=0]) ale
theorem alf:Gd ae5:=aqS.add fun n hO p hp=>by obtain⟨a,k⟩:=p;have h0:k=0:=hp _ yC;subst h0;exact aN hO (.w (aqT hO a (hp _ iC)) .rr)
def agR:fV aG:=bU 49 (a1 qF) iA (fun p=>Gi p) (fun p=>[p.length<=ah]) ae5
theorem aqU:Gd agR:=alf.add fun n hO p hp=>aN hO (.o (hp _ iC) (.o aiN .rr))
abbrev MR(b:LI0)(k j:Nat):Bool:=b.getD j 0==b.getD k 0
abbrev a4Q(a b:LI0)(i:Int)(x:List (Nat×PE aG)):bT aG:=⟨[(0,xL 3 a),(1,xL 3 b),(5,xi i)]++x,[],[]⟩
def ae6(a b:LI0)(k:Int)(i:Int):Unit⊕Nat->Ex×bT aG
 |.inl _=>(.exit 2,a4Q a b k [(6,xi i),(29,xl false)])
 |.inr _=>(.ret,⟨[(4,xl false)],[],[]⟩)
theorem ae7{n fU}(hO:Ok n fU)(a b k)(hl:k<=ah)(h:k<b.length):Lp n 109 1 (a4Q a b k [(6,xi 0)]) (ae6 a b k k (bH (MR b k) k)).1 (ae6 a b k k (bH (MR b k) k)).2:=
 Qe (st:=fun i _=>a4Q a b k [(6,xi i)]) (fun _ _=>True) (by kernel_rfl) hl Uk trivial (fun j s n hk _ ih=>aP hO (.b (bD hk) (.o (aH (show j<b.length by omega)) (.o (aH h) (.ls (.ou nofun) (.nx (ih _ trivial))))))) (fun s _=>aP hO (.b (fC k) (.ou nofun)))
abbrev a0O(m:Int)(b:LI0)(k:Nat):Bool:=if(!(oP (b.getD k 0) 0 m))=true then true else if jS (bH (MR b k) k)=true then false else true
def z109(a b:LI0):Unit⊕Nat->Ex×bT aG
 |.inl _=>(.exit 0,a4Q a b b.length [(15,xl false)])
 |.inr _=>(.ret,⟨[(4,xl false)],[],[]⟩)
abbrev xw(s:LI0):Int:=i64.wrap ((s.length:Int)-1)
theorem alg{n}(hO:Ok n agR)(a b)(hl:b.length<=ah):Lp n 109 0 (a4Q a b 0 []) (z109 a b (bH (a0O (xw a) b) b.length)).1 (z109 a b (bH (a0O (xw a) b) b.length)).2:=
 Qe (st:=fun i _=>a4Q a b i []) (fun _ _=>True) (by kernel_rfl) hl Uk trivial (fun k s n hk _ ih=>by
  unfold gS a0O;cases h1:(!(oP (b.getD k 0) 0 (xw a)))
  .cases h2:jS (bH (MR b k) k)
   .exact aP hO (.b (bD hk) (.o (aH hk) (.b h1 (.w (kY (ae7 hO a b k (by omega) hk) 0 h2) (.ou nofun)))))
   .exact aP hO (.b (bD hk) (.o (aH hk) (.b h1 (.w (kX (ae7 hO a b k (by omega) hk) () h2) (.nx (ih _ trivial))))))
  .exact aP hO (.b (bD hk) (.o (aH hk) (.b h1 (.ou nofun))))
  ) (fun s _=>aP hO (.b (fC b.length) (.ou nofun)))
theorem a8j{s}(h:s.length<=ah):xw s=(s.length:Int)-1:=by unfold xw;unfold ah at h;exact fP (by omega) (by omega)
theorem wP{k lo hi}:oP k lo hi=true↔lo<=k/\k<=hi:=by
 unfold oP;split
 .rename_i h;simp at h ⊢;omega
 rename_i h;simp at h ⊢;omega
theorem Yv{a b}(ha:a.length<=ah)(h:b.length=a.length):jS (bH (a0O (xw a) b) b.length)=ku a.length b:=by
 rw[a5R,dD,ku,a1F];have e1:(∀j,j<b.length->a0O (xw a) b j=false)↔(∀j,j<b.length->(0<=b.getD j 0/\b.getD j 0<a.length)/\∀i,i<j->b.getD i 0≠b.getD j 0):=by
  refine ad4 fun j=>ad4 fun hj=>?_;unfold a0O;rw[a8j ha];cases h1:oP (b.getD j 0) 0 ((a.length:Int)-1)
  .simp only[abh,a2r,afp,false_iff];intro h2;have:oP (b.getD j 0) 0 ((a.length:Int)-1)=true:=by rw[wP];omega
   rw[h1]at this;cases this
  have h3:0<=b.getD j 0/\b.getD j 0<a.length:=by rw[wP]at h1;omega
  simp only[aac,a3F,a3V,h3,adx,true_and];cases h2:jS (bH (MR b j) j)
  .simp only[a3F,a3V,afp,false_iff];intro h4;have:jS (bH (MR b j) j)=true:=dD.2 fun i hi=>(by simpa[MR]using h4 i hi);rw[h2]at this;cases this
  simp only[a2r,true_iff];intro i hi;have:=dD.1 h2 i hi;simpa[MR]using this
 rw[e1];constructor
 .intro hq;refine⟨h,(Qd (d:=0)).1 fun j hj=>(hq j hj).1,?_⟩;rw[ad8,ade];intro i j hi hj AY;have:=(hq j hj).2 i AY;simpa[List.getD,a0N hi,a0N hj]using this
 rintro⟨_,h2,h3⟩ j hj;refine⟨(Qd (d:=0)).2 h2 j hj,fun i hi=>?_⟩;rw[ad8,ade]at h3;have:=h3 i j (by omega) hj hi;simpa[List.getD,a0N (show i<b.length by omega),a0N hj]using this
theorem abG{a b:LI0}(h:((b.length:Int) != (a.length:Int))=true):ku a.length b=false:=by unfold ku;rw[a3L];rintro⟨h1,_⟩;rw[h1]at h;simp at h
def a8k:fV aG:=bU 109 (a2 qF qF) tA (fun p=>ku p.1.length p.2) (fun p=>[p.1.length<=ah,p.2.length<=ah]) agR
theorem alh:Gd a8k:=aqU.add fun n hO p hp=>aN hO (.s (fun h=>.v false (abG h).symm) fun h=>.z (c:=jS (bH (a0O (xw p.1) p.2) p.2.length)) (fun h2=>.w (kX (alg hO p.1 p.2 (hp _ yC)) () h2) (.v true (by rw[<-Yv (hp _ iC) (mP h),h2]))) fun h2=>.w (kY (alg hO p.1 p.2 (hp _ yC)) 0 h2) (.v false (by rw[<-Yv (hp _ iC) (mP h),h2])))
abbrev cSz(a:LI0)(k:Nat):Bool:=!(oP (a.getD k 0) 1 12)
theorem abH{a}:jS (bH (cSz a) a.length)=decide (oh a):=by rw[a5R,dD,a1F,oh,<-Qd (d:=0)];refine ad4 fun j=>ad4 fun hj=>?_;simp only[cSz,abN,wP]
abbrev w58(a b:LI0)(i:Int)(x:List (Nat×PE aG)):bT aG:=⟨[(0,xL 3 a),(1,xL 3 b),(5,xi i)]++x,[],[]⟩
def z58(a b:LI0):Unit⊕Nat->Ex×bT aG
 |.inl _=>(.exit 0,w58 a b a.length [(12,xl false)])
 |.inr _=>(.ret,⟨[(4,xi 3)],[],[]⟩)
theorem l58{n}(hO:Ok n a8k)(a b)(hl:a.length<=ah):Lp n 58 0 (w58 a b 0 []) (z58 a b (bH (cSz a) a.length)).1 (z58 a b (bH (cSz a) a.length)).2:=
 Qe (st:=fun i _=>w58 a b i []) (fun _ _=>True) (by kernel_rfl) hl Uk trivial (fun k s n hk _ ih=>aP hO (.b (bD hk) (.o (aH hk) (.ls (.ou nofun) (.nx (ih _ trivial)))))) (fun s _=>aP hO (.b (fC a.length) (.ou nofun)))
def bg(s o:LI0):Int:=if decide ((s.length:Int)>6)=true then 5 else if jS (bH (cSz s) s.length)=true then(if decide (Gi s>2000)=true then 5 else if(!(ku s.length o))=true then 4 else 0)else 3
theorem abI{s:LI0}(h:decide ((s.length:Int)>6)=false):s.length<=6:=by simp at h;omega
theorem a2L{k}(h:k<=6):k<=ah:=by unfold ah;omega
def alj:fV aG:=bU 58 (a2 qF qF) iA (fun p=>bg p.1 p.2) (fun p=>[p.2.length<=ah]) a8k
theorem aqW:Gd alj:=alh.add fun n hO p hp=>aN hO (.sh (fun _=>.rr) fun h=>.zh (fun h2=>.w (kX (l58 hO p.1 p.2 (a2L (abI h))) () h2) (.o (a2L (abI h)) (.o aiN (.ss .rr (.o (a2L (abI h)) (.o (hp _ iC) (.ss .rr .rr))))))) fun h2=>.w (kY (l58 hO p.1 p.2 (a2L (abI h))) 0 h2) .rr)
theorem QA(s o):bg s o=if 6<s.length then 5 else if oh s then(if 2000<bG s then 5 else if ku s.length o=true then 0 else 4)else 3:=by
 unfold bg;rw[abH];by_cases h1:6<s.length
 .rw[a18 h1,a18 (by simp;omega)]
 rw[a0U h1,a0U (by simp;omega)];by_cases h2:oh s
 .rw[a18 (by simpa using h2),a18 h2,Yc h2];by_cases h3:2000<bG s
  .rw[a18 h3,a18 (by simp;omega)]
  rw[a0U h3,a0U (by simp;omega)];cases ku s.length o<;>simp
 rw[a0U (by simpa using h2),a0U h2]
theorem iR{s o}:bg s o=0↔wo s/\ku s.length o=true:=by
 rw[QA];constructor
 .intro h;split at h
  .cases h
  split at h
  .split at h
   .cases h
   split at h
   .exact⟨⟨by omega,by assumption,by omega⟩,by assumption⟩
   cases h
  cases h
 rintro⟨⟨h1,h2,h3⟩,h4⟩;rw[a0U (by omega),a18 h2,a0U (by omega),a18 h4]
abbrev w53(a:LI0)(i:Int)(s:Int×LI0)(x:List (Nat×PE aG)):bT aG:=⟨[(0,xL 3 a),(1,xi s.1),(5,xo 0),(6,xi i)]++x,[],[.list true true 3 s.2]⟩
theorem szk{a}(hs:oh a){k}(hk:k<a.length):a.getD k 0≠0:=by have:=hs _ (dF hk);omega
theorem agS(k:Nat):decide ((k:Int)>=0)=true:=by simp
theorem l53{n fU}(hO:Ok n fU)(a m)(hl:a.length<=ah)(hs:oh a):Lp n 53 0 (w53 a (i64.wrap ((a.length:Int)-1)) (m,List.replicate a.length 0) []) (.exit 0) (w53 a (-1) (Qc (a4x a) a.length (m,List.replicate a.length 0)) [(14,xl false)]):=
 akl (st:=fun i s=>w53 a i s []) (fin:=fun s=>w53 a (-1) s [(14,xl false)]) (fun _ s=>s.2.length=a.length) (by kernel_rfl) hl Uk (by simp) (fun k s _ h=>by simp[a4x,h]) (fun k s hk hi n e p h=>aP hO (.b (agS k) (.o (aH hk) (.o (szk hs hk) (.o (aH (show k<s.2.length by omega)) (.o (aH hk) (.o (szk hs hk) (.go h)))))))) (fun s _=>aP hO (.b (rfl:decide ((-1:Int)>=0)=false) .ex))
theorem mk1{α:Type}(l:List α):(l.length:Int)=(l.length:Int):=rfl
theorem mk2{α:Type}(l:List α):(0:Int)<=(l.length:Int):=by omega
theorem mk3{α:Type}{l:List α}(h:l.length<=ah):(l.length:Int)<=(ah:Int):=by omega
def alk:fV aG:=bU 53 (a2 qF iA) qF (fun p=>gq p.1 p.2) (fun p=>[p.1.length<=ah,oh p.1,0<=p.2,p.2<2^62]) alj
theorem aqX:Gd alk:=aqW.add fun n hO p hp=>aN hO (.o (mk1 p.1) (.o (mk2 p.1) (.o (mk3 (hp _ iC)) (.w (l53 hO p.1 p.2 (hp _ iC) (hp _ yC)) (.v (Qc (a4x p.1) p.1.length (p.2,List.replicate p.1.length 0)).2 (a7Q (hp _ yC) (hp _ hh2) (hp _ (.tail _ (.tail _ (.tail _ (.head _))))) a7p))))))
def vOk(v:V):Bool:=if(v.f==0)=true then oP v.n (-9999) 9999 else if(decide (v.f<=4))=true then v.n==0 else false
def alm:fV aG:=bU 29 (a1 vA) tA (fun p=>vOk p) np alk
theorem aqY:Gd alm:=aqX.add fun n hO p hp=>aN hO (.ss .rr (.ss .rr .rr))
def vIs(v:V):Bool:=if(decide (v.f>0))=true then(if(decide (v.f<=4))=true then v.n==0 else false)else oP v.n (-9999) 9999
theorem agT{v}(h:0<=v.f):vOk v=vIs v:=by
 unfold vOk vIs;by_cases h0:v.f=0
 .rw[a18 (by simp[h0]),a0U (by simp;omega)]
 have:v.f>0:=by omega
 simp[h0,this]
open Go Tw Pv bV
def dS(n:Nat):LI0:=(List.range n).map fun(k:Nat)=>(k:Int)
theorem mQ(n):(dS n).length=n:=by simp[dS]
theorem Ul(n):ku n (dS n)=true:=by
 unfold ku;rw[a1F];refine⟨mQ n,fun a ha=>?_,?_⟩
 .simp only[dS,a1z,a5D]at ha;obtain⟨k,h1,rfl⟩:=ha;omega
 unfold dS;exact List.Pairwise.map _ (fun a b h=>by omega) afb
open Go Tw Pv bV
abbrev V.tv(v:V):TV:=.agg [.int .u8 v.f,.int .i64 v.n]
theorem a4R:Tryz.prog.underlying 3=some (.int .i64):=by kernel_rfl
theorem uU8:Tryz.prog.underlying 5=some (.int .u8):=by kernel_rfl
theorem agU : Tryz.prog.underlying 39 = some (.struct #[⟨"Fault", 5, 0, false, "", "", 0⟩, ⟨"N", 3, 1, false, "", "", 8⟩]) := by kernel_rfl
theorem a2M(d)(a b:V):aC Qp (Op.equalIn (d+2) 39 (.agg #[.int .u8 a.f,.int .i64 a.n]) (.agg #[.int .u8 b.f,.int .i64 b.n]))=some (decide (a=b)):=by
 rw[yU (d+1) 39 _ _ _ agU (by kernel_rfl)];have p0:∀x y:LI3,aC Qp (part 5 #[x,y] 0)=some x:=by intro x y;kernel_rfl
 have p1:∀x y:LI3,aC Qp (part 3 #[x,y] 1)=some y:=by intro x y;kernel_rfl
 have n1 : ("Fault" : String) ≠ "_" := by decide
 have n2 : ("N" : String) ≠ "_" := by decide
 have q1 := pU (f := ⟨"Fault", 5, 0, false, "", "", 0⟩) (fs := [⟨"N", 3, 1, false, "", "", 8⟩]) n1 (p0 (.int .u8 a.f) (.int .i64 a.n)) (p0 (.int .u8 b.f) (.int .i64 b.n)) (sD d _ _ _ _ _ uU8);have q2 := pU (f := ⟨"N", 3, 1, false, "", "", 8⟩) (fs := []) n2 (p1 (.int .u8 a.f) (.int .i64 a.n)) (p1 (.int .u8 b.f) (.int .i64 b.n)) (sD d _ _ _ _ _ a4R);rw[q1,q2];rw[show aC Qp (Op.eqFields (d+1) #[.int .u8 a.f,.int .i64 a.n] #[.int .u8 b.f,.int .i64 b.n] [])=some true from rfl];rcases a with⟨a1,a2⟩;rcases b with⟨b1,b2⟩;by_cases h1:a1=b1<;>by_cases h2:a2=b2<;>simp[h1,h2]
theorem eqV(x y a b):uj Qp .eql 39 x y (V.tv a) (V.tv b)=some (.bool (decide (a=b))):=(IC rfl rfl (by kernel_rfl) (by decide) (a2M 9998 a b)).1
theorem neV(x y a b):uj Qp .neq 39 x y (V.tv a) (V.tv b)=some (.bool (!decide (a=b))):=(IC rfl rfl (by kernel_rfl) (by decide) (a2M 9998 a b)).2
open Go Tw Pv bV
abbrev cAl(a b:List V)(k:Nat):Bool:=!decide (a.getD k V0=b.getD k V0)
abbrev w75(a b:List V)(i:Int)(x:List (Nat×PE aG)):bT aG:=⟨[(0,xL 39 a),(1,xL 39 b),(5,xi i)]++x,[],[]⟩
def z75(a b:List V):Unit⊕Nat->Ex×bT aG
 |.inl _=>(.exit 0,w75 a b a.length [(14,xl false)])
 |.inr _=>(.ret,⟨[(4,xl false)],[],[]⟩)
theorem l75{n fU}(hO:Ok n fU)(a b)(hl:a.length<=ah)(h:a.length=b.length):Lp n 75 0 (w75 a b 0 []) (z75 a b (bH (cAl a b) a.length)).1 (z75 a b (bH (cAl a b) a.length)).2:=
 Qe (st:=fun i _=>w75 a b i []) (fun _ _=>True) (by kernel_rfl) hl Uk trivial (fun k s n hk _ ih=>aP hO (.b (bD hk) (.o (aH hk) (.o (aH (h▸hk)) (.q (.bool (cAl a b k)) (neV (.tmp 20) (.tmp 24) (a.getD k V0) (b.getD k V0)) (.ls (.ou nofun) (.nx (ih _ trivial)))))))) (fun s _=>aP hO (.b (fC a.length) (.ou nofun)))
theorem a2N{a b}(h:a.length=b.length):jS (bH (cAl a b) a.length)=decide (a=b):=by rw[a5R,dD,a1F,pW (d:=V0) h];simp[cAl]
theorem abJ{a b:List V}(h:((a.length:Int) != (b.length:Int))=true):decide (a=b)=false:=by rw[a3L];rintro rfl;simp at h
def aln:fV aG:=bU 75 (a2 vsA vsA) tA (fun p=>decide (p.1=p.2)) (fun p=>[p.1.length<=ah]) alm
theorem ar2:Gd aln:=aqY.add fun n hO p hp=>aN hO (.s (fun h=>.v false (abJ h).symm) fun h=>.z (c:=jS (bH (cAl p.1 p.2) p.1.length)) (fun h2=>.w (kX (l75 hO p.1 p.2 (hp _ iC) (mP h)) () h2) (.v true (by rw[<-a2N (mP h),h2]))) fun h2=>.w (kY (l75 hO p.1 p.2 (hp _ iC) (mP h)) 0 h2) (.v false (by rw[<-a2N (mP h),h2])))
open Go Tw Pv bV
abbrev RhB(n f k B m:Nat)(s:bT aG)(e:Ex)(p:bT aG):Prop:=dO X0 Qp T (iD n) LL f false (D9 Qp f) B (U3 Qp f k) m s e p
abbrev hdP(f k:Nat)(w:bT aG):bT aG:=iq X0 (T.eY f (dW (U3 Qp f k))) w
section
variable{n f k B N:Nat}{σ ρ:Type}
theorem wK{st:Int->σ->bT aG}{g e}{fin:σ->bT aG}{s0 w}(Inv:Nat->σ->Prop)(h0:hdP f k w=st 0 s0)(hl:N<=ah)(hi:Inv 0 s0)(hv:∀j s,j<N->Inv j s->Inv (j+1) (g j s))(hs:∀(j) (s),j<N->Inv j s->∀m e1 p,RhB n f k B m (st (i64.wrap (j+1)) (g j s)) e1 p->RhB n f k B (m+1) (st j s) e1 p)(ho:∀s,Inv N s->RhB n f k B 1 (st N s) e (fin s)):Ob n f k B w e (fin (aT g N 0 s0)):=Qg Inv h0 hl Uk hi hv hs ho
theorem jm{st:Int->σ->bT aG}{g}{out:σ⊕ρ->Ex×bT aG}{s0 w}(Inv:Nat->σ->Prop)(h0:hdP f k w=st 0 s0)(hl:N<=ah)(hi:Inv 0 s0)(hs:∀(j) (s) (m),j<N->Inv j s->(∀s1,Inv (j+1) s1->RhB n f k B m (st (i64.wrap (j+1)) s1) (wH (X:=X0) out g (N-(j+1)) (j+1) (.inl s1)).1 (wH (X:=X0) out g (N-(j+1)) (j+1) (.inl s1)).2) ->RhB n f k B (m+1) (st j s) (wH (X:=X0) out g (N-(j+1)) (j+1) (g j s)).1 (wH (X:=X0) out g (N-(j+1)) (j+1) (g j s)).2)(ho:∀s,Inv N s->RhB n f k B 1 (st N s) (out (.inl s)).1 (out (.inl s)).2):Ob n f k B w (out (kZ g N 0 s0)).1 (out (kZ g N 0 s0)).2:=Qe Inv h0 hl Uk hi hs ho
theorem a2O{a:Nat}{st:Int->σ->bT aG}{g}{out:σ⊕ρ->Ex×bT aG}{s0 w}(Inv:Nat->σ->Prop)(h0:hdP f k w=st a s0)(ha:a<=N)(hl:N<=ah)(hi:Inv a s0)(hs:∀(j) (s) (m),a<=j->j<N->Inv j s->(∀s1,Inv (j+1) s1->RhB n f k B m (st (i64.wrap (j+1)) s1) (wH (X:=X0) out g (N-(j+1)) (j+1) (.inl s1)).1 (wH (X:=X0) out g (N-(j+1)) (j+1) (.inl s1)).2) ->RhB n f k B (m+1) (st j s) (wH (X:=X0) out g (N-(j+1)) (j+1) (g j s)).1 (wH (X:=X0) out g (N-(j+1)) (j+1) (g j s)).2)(ho:∀s,Inv N s->RhB n f k B 1 (st N s) (out (.inl s)).1 (out (.inl s)).2):Ob n f k B w (out (kZ g (N-a) a s0)).1 (out (kZ g (N-a) a s0)).2:=ags Inv h0 ha hl Uk hi hs ho
theorem a0P{st:σ->bT aG}{g}{out:ρ->Ex×bT aG}(Inv:σ->Prop){m s r w}(hr:itF g m s=some r)(h0:hdP f k w=st s)(hk:m<=LL)(hv:Inv s)(hi:∀s s1,Inv s->g s=.inl s1->Inv s1)(hs:∀s m r,Inv s->(∀s1,g s=.inl s1->RhB n f k B m (st s1) (out r).1 (out r).2)->RhB n f k B (m+1) (st s) (DX (X:=X0) out r (g s)).1 (DX (X:=X0) out r (g s)).2):Ob n f k B w (out r).1 (out r).2:=agq Inv hr h0 hk hv hi hs
end
open Go Tw Pv bV
structure Prt(l:List V)(w n:Nat):Prop where
 n12:n<=12
 w2:w<=5000
 len:l.length=n*w
section
variable{l:List V}{w n j:Nat}(h:Prt l w n)
include h
end
theorem KT{α β:Type}(l:List α)(d)(f:α->β):(List.range l.length).map (fun k=>f (l.getD k d))=l.map f:=by
 apply aan (by simp);intro i h1 h2;have:i<l.length:=by simpa using h1
 simp[List.getD,a0N this]
open Go Tw Pv bV
theorem Yw{s p ch d}(hp:jZ s p=true)(hc:gV ch s.length)(hd:gV d (s.getD ch.toNat 0).toNat):jZ s (p.set ch.toNat d)=true:=by
 rw[qC]at hp ⊢;obtain⟨c1,c2⟩:=hc;obtain⟨d1,d2⟩:=hd;refine⟨by simp[hp.1],fun j hj=>?_⟩;rw[zT (by omega)];split
 .rename_i e;subst e;omega
 exact hp.2 j hj
open Go Tw Pv bV
abbrev ay(d:Dg)(r:Int):Br:=d.au.getD r.toNat lD
abbrev QB(d:Dg)(r:Int)(k:Nat):Bool:=d.aB.getD k 0==(ay d r).var
abbrev a4S(d:Dg)(r i:Int)(x:List (Nat×PE aG)):bT aG:=⟨[(1,xi r),(2,.loc 0 0),(5,xi i)]++x,[d.ps],[]⟩
def alo(d:Dg)(r:Int)(N:Nat):Unit⊕Nat->Ex×bT aG
 |.inl _=>(.exit 0,a4S d r N [(14,xl false)])
 |.inr k=>(.ret,⟨[(4,xi k)],[d.ps],[]⟩)
theorem alp{r:Int}(h:0<=r):decide (r>=0)=true:=by simpa using h
theorem alq{n fU}(hO:Ok n fU)(d r)(hl:d.aB.length<=ah)(h:gV r d.au.length):Lp n 177 0 (a4S d r 0 []) (alo d r d.aB.length (bH (QB d r) d.aB.length)).1 (alo d r d.aB.length (bH (QB d r) d.aB.length)).2:=
 jm (st:=fun i _=>a4S d r i []) (fun _ _=>True) (by kernel_rfl) hl trivial (fun k s m hk _ ih=>aP hO (.b (alp h.1) (.b (bD hk) (.o (aH hk) (.o h (.ls (.ou nofun) (.nx (ih _ trivial)))))))) (fun s _=>aP hO (.b (alp h.1) (.b (fC d.aB.length) (.ou nofun))))
theorem alr{n fU}(hO:Ok n fU)(d r)(h:r<0):Lp n 177 0 (a4S d r 0 []) (.exit 0) (a4S d r 0 [(14,xl false)]):=
 Aa (ps:=a4S d r 0 []) (aP hO (.b (show decide (r>=0)=false by simpa using h) .ex)) (by kernel_rfl) (by decide:1<=LL)
def uP(d:Dg)(r:Int):Int:=if decide (r<0)=true then(d.aB.length:Int)else if jS (bH (QB d r) d.aB.length)=true then(d.aB.length:Int)else((BA 0 (bH (QB d r) d.aB.length):Nat):Int)
def ae8:fV aG:=bU 177 (a2 dA iA) iA (fun p=>uP p.1 p.2) (fun p=>[p.1.aB.length<=ah,0<=p.2->gV p.2 p.1.au.length]) aln
theorem als:Gd ae8:=ar2.add fun n hO p hp=>aN hO (.zh (fun h=>.w (alr hO p.1 p.2 (by simpa using h)) .rr) fun h=>.zh (fun h2=>.w (kX (alq hO p.1 p.2 (hp _ iC) (hp (0<=p.2->gV p.2 p.1.au.length) (.tail _ (.head _)) (by simpa using h))) () h2) .rr) fun h2=>.w (kY (alq hO p.1 p.2 (hp _ iC) (hp (0<=p.2->gV p.2 p.1.au.length) (.tail _ (.head _)) (by simpa using h))) 0 h2) .rr)
def iY(d:Dg)(r below:Int):Bool:=if decide (r>=0)=true then decide (r<below)else oP (i64.wrap (-1-r)) 0 (i64.wrap ((d.aK.length:Int)-1))
def ae9:fV aG:=bU 176 (a3 dA iA iA) tA (fun p=>iY p.1 p.2.1 p.2.2) np ae8
theorem alu:Gd ae9:=als.add fun n hO p hp=>aN hO (.ss .rr .rr)
abbrev QC(b:Br)(k:Nat):Bool:=b.aA.getD k 0 != b.aA.getD 0 0
abbrev agV(b:Br)(i:Int)(x:List (Nat×PE aG)):bT aG:=⟨[(1,.loc 0 0),(3,xi i)]++x,[b.ps],[]⟩
def alv(b:Br):Unit⊕Nat->Ex×bT aG
 |.inl _=>(.exit 0,agV b (max 1 b.aA.length:Nat) [(8,xl false)])
 |.inr _=>(.ret,⟨[(2,xl false)],[b.ps],[]⟩)
theorem alx{n fU}(hO:Ok n fU)(b)(hl:b.aA.length<=ah):Lp n 132 0 (agV b 1 []) (alv b (U6 (QC b) 1 (max 1 b.aA.length))).1 (alv b (U6 (QC b) 1 (max 1 b.aA.length))).2:=
 a2O (st:=fun i _=>agV b i []) (fun _ _=>True) (by kernel_rfl) (by omega) (by unfold ah at *;omega) trivial (fun k s m h1 hk _ ih=>aP hO (.b (bD (show k<b.aA.length by omega)) (.o (aH (show k<b.aA.length by omega)) (.o (show gV 0 b.aA.length from⟨by omega,by omega⟩) (.ls (.ou nofun) (.nx (ih _ trivial))))))) (fun s _=>aP hO (.b (show decide (((max 1 b.aA.length:Nat):Int)<(b.aA.length:Int))=false by simp only[a3L];omega) (.ou nofun)))
def Ei(b:Br):Bool:=if jS (U6 (QC b) 1 (max 1 b.aA.length))=true then true else false
def aea:fV aG:=bU 132 (a1 brA) tA (fun p=>Ei p) (fun p=>[p.aA.length<=ah]) ae9
theorem aly:Gd aea:=alu.add fun n hO p hp=>aN hO (.zh (fun h=>.w (kX (alx hO p (hp _ iC)) () h) .rr) fun h=>.w (kY (alx hO p (hp _ iC)) 0 h) .rr)
abbrev Um(l:LI0)(n:Int)(k:Nat):Bool:=l.getD k 0==n
abbrev agW(l:LI0)(m i:Int)(x:List (Nat×PE aG)):bT aG:=⟨[(0,xL 3 l),(1,xi m),(5,xi i)]++x,[],[]⟩
def alz(l:LI0)(m:Int):Unit⊕Nat->Ex×bT aG
 |.inl _=>(.exit 0,agW l m l.length [(9,xl false)])
 |.inr _=>(.ret,⟨[(4,xl true)],[],[]⟩)
theorem alA{n fU}(hO:Ok n fU)(l m)(hl:l.length<=ah):Lp n 178 0 (agW l m 0 []) (alz l m (bH (Um l m) l.length)).1 (alz l m (bH (Um l m) l.length)).2:=
 jm (st:=fun i _=>agW l m i []) (fun _ _=>True) (by kernel_rfl) hl trivial (fun k s m hk _ ih=>aP hO (.b (bD hk) (.o (aH hk) (.ls (.ou nofun) (.nx (ih _ trivial)))))) (fun s _=>aP hO (.b (fC l.length) (.ou nofun)))
theorem Un{l m}:jS (bH (Um l m) l.length)=!decide (m∈l):=by
 rw[a5R,dD];simp only[a9c,a3L];constructor
 .intro h hm;obtain⟨j,hj,e⟩:=a5Q.1 hm;have:=h j hj;simp[Um,List.getD,a0N hj,e]at this
 intro h j hj;have e:l.getD j 0=l[j]:=by simp[List.getD,a0N hj]
 simp only[Um,aiv,ne_eq,e];intro e2;exact h (e2▸a5K hj)
def aeb:fV aG:=bU 178 (a2 qF iA) tA (fun p=>decide (p.2∈p.1)) (fun p=>[p.1.length<=ah]) aea
theorem alB:Gd aeb:=aly.add fun n hO p hp=>aN hO (.z (c:=jS (bH (Um p.1 p.2) p.1.length)) (fun h=>.w (kX (alA hO p.1 p.2 (hp _ iC)) () h) (.v false (by rw[Un]at h;simp at h;simp[h]))) fun h=>.w (kY (alA hO p.1 p.2 (hp _ iC)) 0 h) (.v true (by rw[Un]at h;simp at h;simp[h])))
abbrev a8m(l:LI0)(k:Nat):Bool:=l.getD k 0 != (k:Int)
abbrev agX(l:LI0)(m i:Int)(x:List (Nat×PE aG)):bT aG:=⟨[(0,xL 3 l),(1,xi m),(5,xi i)]++x,[],[]⟩
def alC(l:LI0)(m:Int):Unit⊕Nat->Ex×bT aG
 |.inl _=>(.exit 0,agX l m l.length [(9,xl false)])
 |.inr _=>(.ret,⟨[(4,xl false)],[],[]⟩)
theorem alD{n fU}(hO:Ok n fU)(l m)(hl:l.length<=ah):Lp n 134 0 (agX l m 0 []) (alC l m (bH (a8m l) l.length)).1 (alC l m (bH (a8m l) l.length)).2:=
 jm (st:=fun i _=>agX l m i []) (fun _ _=>True) (by kernel_rfl) hl trivial (fun k s m hk _ ih=>aP hO (.b (bD hk) (.o (aH hk) (.ls (.ou nofun) (.nx (ih _ trivial)))))) (fun s _=>aP hO (.b (fC l.length) (.ou nofun)))
def Ag(l:LI0)(m:Int):Bool:=if jS (bH (a8m l) l.length)=true then((l.length:Int)==m)else false
def Yx:fV aG:=bU 134 (a2 qF iA) tA (fun p=>Ag p.1 p.2) (fun p=>[p.1.length<=ah]) aeb
theorem alE:Gd Yx:=alB.add fun n hO p hp=>aN hO (.zh (fun h=>.w (kX (alD hO p.1 p.2 (hp _ iC)) () h) .rr) fun h=>.w (kY (alD hO p.1 p.2 (hp _ iC)) 0 h) .rr)
abbrev cLk(d:Dg)(i k:Nat):Bool:=if(!(iY d ((d.au.getD i lD).aA.getD k 0) i))=true then true else decide (uP d ((d.au.getD i lD).aA.getD k 0)<=uP d i)
abbrev fE(d:Dg)(i:Nat):Br:=d.au.getD i lD
abbrev a8n(d:Dg)(i k:Int)(b:Br)(x:List (Nat×PE aG)):bT aG:=⟨[(1,.loc 0 0),(4,xi i),(5,.loc 1 0),(6,xi k)]++x,[d.ps,b.ps],[]⟩
def aec(d:Dg)(i:Nat):Unit⊕Nat->Ex×bT aG
 |.inl _=>(.exit 4,a8n d i (fE d i).aA.length (fE d i) [(57,xl false)])
 |.inr _=>(.ret,⟨[(2,xl false)],[d.ps,(fE d i).ps],[]⟩)
structure DgL(d:Dg):Prop where
 aB:d.aB.length<=ah
 au:d.au.length<=ah
 aK:d.aK.length<=ah
 bP:wo d.aj
theorem Yy{d r}{i:Nat}(h:iY d r i=true)(h0:0<=r)(hi:i<=d.au.length):gV r d.au.length:=by
 unfold iY at h;rw[a18 (by simpa using h0)]at h;have:r<(i:Int):=by simpa using h
 exact⟨h0,by omega⟩
theorem alF{n}(hO:Ok n Yx){d}(h:DgL d){i}(hi:i<d.au.length)(hk:(fE d i).aA.length<=ah):Lp n 131 2 (a8n d i 0 (fE d i) []) (aec d i (bH (cLk d i) (fE d i).aA.length)).1 (aec d i (bH (cLk d i) (fE d i).aA.length)).2:=
 jm (st:=fun k _=>a8n d i k (fE d i) []) (fun _ _=>True) (by kernel_rfl) hk trivial (fun k s m hk _ ih=>by
  unfold gS cLk;cases e1:iY d ((fE d i).aA.getD k 0) i
  .exact aP hO (.b (bD hk) (.o (aH hk) (.b (show(!(iY d ((fE d i).aA.getD k 0) i))=true by rw[e1];rfl) (.ou nofun))))
  .exact aP hO (.b (bD hk) (.o (aH hk) (.b (show(!(iY d ((fE d i).aA.getD k 0) i))=false by rw[e1];rfl) (.o (aH hk) (.o h.aB (.o (show 0<=(fE d i).aA.getD k 0->gV ((fE d i).aA.getD k 0) d.au.length from fun h0=>Yy e1 h0 (by omega)) (.o h.aB (.o (show 0<=((i:Nat):Int)->gV i d.au.length from fun _=>aH hi) (.ls (.ou nofun) (.nx (ih _ trivial)))))))))))
  ) (fun s _=>aP hO (.b (fC (fE d i).aA.length) (.ou nofun)))
abbrev cLn(d:Dg)(i:Nat):Bool:=if(!(oP (fE d i).var 0 (xw d.aj)))=true then true else if(((fE d i).aA.length:Int) != d.aj.getD (fE d i).var.toNat 0)=true then true else if jS (bH (cLk d i) (fE d i).aA.length)=true then false else true
abbrev a8o(d:Dg)(i:Int)(x:List (Nat×PE aG)):bT aG:=⟨[(1,.loc 0 0),(4,xi i)]++x,[d.ps],[]⟩
def aed(d:Dg):Unit⊕Nat->Ex×bT aG
 |.inl _=>(.exit 2,a8o d d.au.length [(25,xl false)])
 |.inr k=>(.ret,⟨[(2,xl false)],[d.ps,(fE d k).ps],[]⟩)
theorem KU{d:Dg}(h:wo d.aj){v}(e:oP v 0 (xw d.aj)=true):gV v d.aj.length:=by rw[wP,a8j h.akm]at e;exact⟨e.1,by omega⟩
theorem Yz{d:Dg}(h:wo d.aj){v}(e:gV v d.aj.length){l:LI0}(hl:(((l.length:Int)) != d.aj.getD v.toNat 0)=false):l.length<=12:=by
 have:=h.sz _ (dF (s:=d.aj) (k:=v.toNat) (by have:=e.2;have:=e.1;omega));have hl:(l.length:Int)=d.aj.getD v.toNat 0:=by simpa using hl
 omega
theorem Yu{k}(h:k<=12):k<=ah:=by unfold ah;omega
theorem aee{n}(hO:Ok n Yx){d}(h:DgL d):Lp n 131 1 (a8o d 0 []) (aed d (bH (cLn d) d.au.length)).1 (aed d (bH (cLn d) d.au.length)).2:=
 jm (st:=fun k _=>a8o d k []) (fun _ _=>True) (by kernel_rfl) h.au trivial (fun k s m hk _ ih=>by
  unfold gS cLn;cases e1:oP (fE d k).var 0 (xw d.aj)
  .exact aP hO (.b (bD hk) (.o (aH hk) (.b (show(!(oP (fE d k).var 0 (xw d.aj)))=true by rw[e1];rfl) (.ou nofun))))
  .have hv:=KU h.bP e1;cases e2:(((fE d k).aA.length:Int) != d.aj.getD (fE d k).var.toNat 0)
   .have hl:=alF hO h hk (Yu (Yz h.bP hv e2));cases e3:jS (bH (cLk d k) (fE d k).aA.length)
    .exact aP hO (.b (bD hk) (.o (aH hk) (.b (show(!(oP (fE d k).var 0 (xw d.aj)))=false by rw[e1];rfl) (.o hv (.b e2 (.w (kY hl 0 e3) (.ou nofun)))))))
    .exact aP hO (.b (bD hk) (.o (aH hk) (.b (show(!(oP (fE d k).var 0 (xw d.aj)))=false by rw[e1];rfl) (.o hv (.b e2 (.w (kX hl () e3) (.nx (ih _ trivial))))))))
   .exact aP hO (.b (bD hk) (.o (aH hk) (.b (show(!(oP (fE d k).var 0 (xw d.aj)))=false by rw[e1];rfl) (.o hv (.b e2 (.ou nofun))))))
  ) (fun s _=>aP hO (.b (fC d.au.length) (.ou nofun)))
abbrev cLe(d:Dg)(k:Nat):Bool:=!(vOk (d.aK.getD k V0))
abbrev a8q(d:Dg)(i:Int)(x:List (Nat×PE aG)):bT aG:=⟨[(1,.loc 0 0),(3,xi i)]++x,[d.ps],[]⟩
def aef(d:Dg):Unit⊕Nat->Ex×bT aG
 |.inl _=>(.exit 0,a8q d d.aK.length [(11,xl false)])
 |.inr _=>(.ret,⟨[(2,xl false)],[d.ps],[]⟩)
theorem aeg{n}(hO:Ok n Yx){d}(h:DgL d):Lp n 131 0 (a8q d 0 []) (aef d (bH (cLe d) d.aK.length)).1 (aef d (bH (cLe d) d.aK.length)).2:=
 jm (st:=fun k _=>a8q d k []) (fun _ _=>True) (by kernel_rfl) h.aK trivial (fun k s m hk _ ih=>aP hO (.b (bD hk) (.o (aH hk) (.ls (.ou nofun) (.nx (ih _ trivial)))))) (fun s _=>aP hO (.b (fC d.aK.length) (.ou nofun)))
def mV(d:Dg):Bool:=if jS (bH (cLe d) d.aK.length)=true then(if jS (bH (cLn d) d.au.length)=true then iY d d.root d.au.length else false)else false
def aeh:fV aG:=bU 131 (a1 dA) tA (fun p=>mV p) (fun p=>[DgL p]) Yx
theorem alG:Gd aeh:=alE.add fun n hO p hp=>aN hO (.zh (fun h=>.w (kX (aeg hO (show DgL p from hp _ iC)) () h) (.zh (fun h2=>.w (kX (aee hO (show DgL p from hp _ iC)) () h2) .rr) fun h2=>.w (kY (aee hO (show DgL p from hp _ iC)) 0 h2) .rr)) fun h=>.w (kY (aeg hO (show DgL p from hp _ iC)) 0 h) .rr)
def bn(d:Dg):Int:=if(bg d.aj d.aB != 0)=true then bg d.aj d.aB else if decide ((d.au.length:Int)>6000)=true then 5 else if(!(mV d))=true then 4 else 0
theorem VZ{k:Nat}(h:decide ((k:Int)>6000)=false):k<=ah:=by simp at h;unfold ah;omega
theorem BI{s o}(h:(bg s o != 0)=false):wo s:=(iR.1 (by simpa using h)).1
def abK:fV aG:=bU 83 (a1 dA) iA (fun p=>bn p) (fun p=>[p.aB.length<=ah,p.aK.length<=ah]) aeh
theorem ar4:Gd abK:=alG.add fun n hO p hp=>aN hO (.o (hp _ iC) (.sh (fun _=>.rr) fun h=>.sh (fun _=>.rr) fun h2=>.o (show DgL p from⟨hp _ iC,VZ h2,hp _ yC,BI h⟩) (.ss .rr .rr)))
open Go Tw Pv bV
abbrev jh(r:Int):Int:=i64.wrap (-1-r)
def kD(d:Dg):Nat->Int->LI0×LI0->LI0×LI0
 | 0,_,x=>x
 |F+1,r,x=>if decide (r<0)=true then(if(!(decide (jh r∈x.2)))=true then(x.1,x.2++[jh r])else x)else if decide (r∈x.1)=true then x
  else((aT (fun k y=>kD d F ((ay d r).aA.getD k 0) y) (ay d r).aA.length 0 x).1++[r],(aT (fun k y=>kD d F ((ay d r).aA.getD k 0) y) (ay d r).aA.length 0 x).2)
def jK(d:Dg)(r:Int)(b:Nat):Prop:=r<b/\(r<0->gV (jh r) d.aK.length)
structure D5(d:Dg):Prop extends DgL d where
 Ah:∀i,i<d.au.length->∀k,k<(fE d i).aA.length->jK d ((fE d i).aA.getD k 0) i
 KW:∀i,i<d.au.length->(fE d i).aA.length<=12
 var:∀i,i<d.au.length->gV (fE d i).var d.aj.length
 ksz:∀i,i<d.au.length->((fE d i).aA.length:Int)=d.aj.getD (fE d i).var.toNat 0
 root:jK d d.root d.au.length
structure KX(d:Dg)(x:LI0×LI0):Prop where
 n1:x.1.Nodup
 n2:∀a∈x.1,gV a d.au.length
 e1:x.2.Nodup
 e2:∀a∈x.2,gV a d.aK.length
theorem Ai:∀(N) (l:LI0),l.Nodup->(∀a∈l,gV a N)->l.length<=N
 | 0,[],_,_=>a1p _
 | 0,a::l,_,h=>by obtain⟨h1,h2⟩:=h a (a3M ..);omega
 |N+1,l,hn,h=>by
  have h1:=Ai N (l.erase (N:Int)) (hn.erase _) fun a ha=>by have h2:=(List.Nodup.mem_erase_iff hn).1 ha;have h3:=h a h2.2;exact⟨h3.1,by have:=h3.2;have:=h2.1;omega⟩
  by_cases hm:(N:Int)∈l
  .rw[List.length_erase_of_mem hm]at h1;omega
  rw[List.erase_of_not_mem hm]at h1;omega
theorem KX.len{d x}(h:KX d x):x.1.length<=d.au.length/\x.2.length<=d.aK.length:=⟨Ai _ _ h.n1 h.n2,Ai _ _ h.e1 h.e2⟩
theorem yc{l:LI0}{a}(h:l.Nodup)(ha:a∉l):(l++[a]).Nodup:=by rw[a9M];exact⟨h,by simp,fun x hx y hy e=>by simp at hy;subst hy;subst e;exact ha hx⟩
theorem a8r{d}:∀(F) (r s) (x),r<s->s∉x.1->0<=s->(∀i,i<d.au.length->∀k,k<(fE d i).aA.length->(fE d i).aA.getD k 0<i)->(0<=r->gV r d.au.length)->s∉(kD d F r x).1
 | 0,_,_,_,_,h,_,_,_=>h
 |F+1,r,s,x,hr,h,h0,hk,hn=>by
  unfold kD;by_cases c:r<0
  .rw[a18 (by simpa using c)];split<;>exact h
  rw[a0U (by simpa using c)];split
  .exact h
  have hi:=hn (by omega);have ED:∀k,k<(ay d r).aA.length->(ay d r).aA.getD k 0<r:=fun k lK=>by obtain⟨i1,i2⟩:=hi;have h9:(ay d r).aA.getD k 0<(r.toNat:Int):=hk r.toNat (by omega) k lK;omega
  have:=dB (g:=fun k y=>kD d F ((ay d r).aA.getD k 0) y) (m:=(ay d r).aA.length) (k:=0) (s:=x) (fun _ y=>s∉y.1) h (fun j y _ hj hy=>by have h4:=ED j (by omega);exact a8r F _ s y (by omega) hy h0 hk fun h5=>⟨h5,by have:=hi.2;omega⟩)
  simp only[a3N,a2p,adk];exact⟨this,by omega⟩
theorem MS{d}(h:D5 d):∀(F) (r) (x),KX d x->jK d r d.au.length->KX d (kD d F r x)
 | 0,_,_,hx,_=>hx
 |F+1,r,x,hx,hr=>by
  unfold kD;by_cases c:r<0
  .rw[a18 (by simpa using c)];split
   .rename_i c2;have c2:jh r∉x.2:=(by simpa using c2);refine⟨hx.n1,hx.n2,yc hx.e1 c2,fun a ha=>?_⟩;rw[a3N,a2p]at ha;rcases ha with ha|rfl
    .exact hx.e2 a ha
    exact hr.2 c
   exact hx
  rw[a0U (by simpa using c)];split
  .exact hx
  rename_i c2;have c2:r∉x.1:=by simpa using c2
  have hi:gV r d.au.length:=⟨by omega,hr.1⟩;have aQ:r.toNat<d.au.length:=by have:=hr.1;omega
  have h1:=dB (g:=fun k y=>kD d F ((ay d r).aA.getD k 0) y) (m:=(ay d r).aA.length) (k:=0) (s:=x) (fun _ y=>KX d y/\r∉y.1) ⟨hx,c2⟩ (fun j y _ hj hy=>by have hk:jK d ((ay d r).aA.getD j 0) r.toNat:=h.Ah r.toNat aQ j (by simpa using hj);obtain⟨k1,k2⟩:=hk;have lK:jK d ((ay d r).aA.getD j 0) d.au.length:=⟨by omega,k2⟩;refine⟨MS h F _ y hy.1 lK,a8r F _ r y (by omega) hy.2 (by omega) (fun i hi k hk=>(h.Ah i hi k hk).1) fun h5=>⟨h5,lK.1⟩⟩)
  obtain⟨h2,h3⟩:=h1;refine⟨yc h2.n1 h3,fun a ha=>?_,h2.e1,h2.e2⟩;rw[a3N,a2p]at ha;rcases ha with ha|rfl
  .exact h2.n2 a ha
  exact hi
abbrev ls(l:LI0):PB aG:=.list false false 3 l
abbrev wSr(d:Dg)(r:Int)(k:Int)(s:LI0×LI0)(x:List (Nat×PE aG)):bT aG:=⟨[(1,xi r),(2,xo 2),(3,xo 3),(4,.loc 0 0),(10,.loc 1 0),(11,xi k)]++x,[d.ps,(ay d r).ps],[.gone,.gone,ls s.1,ls s.2]⟩
abbrev alH(n:Nat)(d:Dg)(r:Int)(x y:LI0×LI0):Prop:=jf n (.fn 133 [] []) [.agg d.ps,.int .i64 r,.own 0,.own 1] [ls x.1,ls x.2] (.dK [.own 2,.own 3]) [.gone,.gone,ls y.1,ls y.2]
theorem sSr{N}(hO:∀m,N<=m->Ok m abK){d}(h:D5 d):∀(F:Nat) (r:Int) (x),r+1<F->KX d x->jK d r d.au.length->1<=F->alH (N+F) d r x (kD d F r x)
 | 0,r,x,_,_,_,h1=>by omega
 |F+1,r,x,hF,hx,hr,_=>by
  have hn:=hx.len.1;have he:=hx.len.2;have m1:=h.au;have m2:=h.aK;have CO:=hO (N+F) (by omega);have mn:x.1.length<=ah:=by omega
  have me:x.2.length<=ah:=by omega
  unfold kD;by_cases c:r<0
  .have t0:decide (r<0)=true:=(by simpa using c);rw[a18 t0];by_cases c2:jh r∈x.2
   .have t1:(!(decide (jh r∈x.2)))=false:=(by simpa using c2);rw[a0U (by rw[t1];simp)];exact dI.gs hX (nY hX CO (first:=[]) (cap:=[]) (v:=.dK [.own 0,.own 1]) (H1:=[ls x.1,ls x.2]) (by kernel_rfl) (.b t0 (.o me (.b t1 .er)))) [.mv 0,.mv 1] rfl
   have t1:(!(decide (jh r∈x.2)))=true:=(by simpa using c2);rw[a18 t1];have e1:=Ai _ _ (yc hx.e1 c2) (fun a ha=>by
    rw[a3N,a2p]at ha;rcases ha with ha|rfl
    .exact hx.e2 a ha
    exact hr.2 c)
   have e2:x.2.length+[jh r].length<=ah:=by rw[<-a1D];omega
   exact dI.gs hX (nY hX CO (first:=[]) (cap:=[]) (v:=.dK [.own 0,.own 3]) (H1:=[ls x.1,.gone,.list true true 3 ([jh r]:LI0),ls (x.2++[jh r])]) (by kernel_rfl) (.b t0 (.o me (.b t1 (.o e2 .er))))) [.mv 0,.gc [4,3]] rfl
  have t0:decide (r<0)=false:=by simpa using c
  rw[a0U (by rw[t0];simp)];by_cases c2:r∈x.1
  .have t1:decide (r∈x.1)=true:=(by simpa using c2);rw[a18 t1];exact dI.gs hX (nY hX CO (first:=[]) (cap:=[]) (v:=.dK [.own 0,.own 1]) (H1:=[ls x.1,ls x.2]) (by kernel_rfl) (.b t0 (.o mn (.b t1 .er)))) [.mv 0,.mv 1] rfl
  have t1:decide (r∈x.1)=false:=by simpa using c2
  rw[a0U (by rw[t1];simp)];have hi:gV r d.au.length:=⟨by omega,hr.1⟩;obtain⟨i1,i2⟩:=id hi;have aQ:r.toNat<d.au.length:=by omega
  have hl:Ob (N+F) 133 0 2 (wSr d r 0 x []) (.exit 0) (wSr d r (ay d r).aA.length (aT (fun k y=>kD d F ((ay d r).aA.getD k 0) y) (ay d r).aA.length 0 x) [(40,xl false)]):=by
   refine wK (σ:=LI0×LI0) (N:=(ay d r).aA.length) (g:=fun k y=>kD d F ((ay d r).aA.getD k 0) y) (s0:=x) (st:=fun k y=>wSr d r k y []) (fin:=fun y=>wSr d r (ay d r).aA.length y [(40,xl false)]) (fun _ y=>KX d y) (by kernel_rfl) (Yu (h.KW r.toNat aQ)) hx (fun k y hk hy=>?_) (fun k y hk hy m e p g=>?_) (fun y _=>aP CO (.b (fC (ay d r).aA.length) .ex))
   .have hk:jK d ((ay d r).aA.getD k 0) r.toNat:=h.Ah r.toNat aQ k hk;have k1:(ay d r).aA.getD k 0<(r.toNat:Int):=hk.1;exact MS h F _ y hy ⟨by omega,hk.2⟩
   have lK:jK d ((ay d r).aA.getD k 0) r.toNat:=h.Ah r.toNat aQ k hk;have k1:=lK.1;have hs:=sSr hO h F ((ay d r).aA.getD k 0) y (by omega) hy ⟨by omega,lK.2⟩ (by omega);exact aP CO (.b (bD hk) (.o (aH hk) (.fr [2,3] hs (.goG [.gc [4,5]] g))))
  generalize hy:aT (fun k y=>kD d F ((ay d r).aA.getD k 0) y) (ay d r).aA.length 0 x=y at hl;have sk:=MS h (F+1) r x hx hr;unfold kD at sk;rw[a0U (by rw[t0];simp),a0U (by rw[t1];simp),hy]at sk;have sl:(y.1++[r]).length<=d.au.length:=sk.len.1;have ml:y.1.length+[r].length<=ah:=by rw[<-a1D];omega
  exact dI.gs hX (nY hX CO (first:=[]) (cap:=[]) (v:=.dK [.own 5,.own 3]) (H1:=[.gone,.gone,.gone,ls y.2,.list true true 3 ([r]:LI0),ls (y.1++[r])]) (by kernel_rfl) (.b t0 (.o mn (.b t1 (.o hi (.wG [.mv 0,.mv 1] hl (.o ml .er))))))) [.gc [5,3]] rfl
def nlA:Arg Unit where
 put _:=.nil .aO
 get v:=match v with
  |.nil .aO=>some ()
  |_=>none
 ok:=by
  intro v a hg A m h x hv;split at hg
  .exact hv
  .cases hg
abbrev wSn(d:Dg)(r:Int)(k:Int)(s:LI0×LI0)(x:List (Nat×PE aG)):bT aG:=⟨[(1,xi r),(2,xo 0),(3,xo 1),(4,.loc 0 0),(10,.loc 1 0),(11,xi k)]++x,[d.ps,(ay d r).ps],[ls s.1,ls s.2]⟩
theorem sr0{d}:KX d ([],[]):=⟨a6m,by simp,a6m,by simp⟩
def srN(d:Dg)(r:Int):LI0:=(kD d 6002 r ([],[])).1
def srE(d:Dg)(r:Int):LI0:=(kD d 6002 r ([],[])).2
def a2P:fV aG:=bU 133 (a4 dA iA nlA nlA) (dJ (a2 qF qF)) (fun p=>(srN p.1 p.2.1,srE p.1 p.2.1)) (fun p=>[D5 p.1,jK p.1 p.2.1 p.1.au.length,p.1.au.length<=6000]) abK
theorem alJ:Gd a2P:=ar4.deep 6001 fun n hn hO p hp=>by
 obtain⟨d,r,_,_⟩:=p;have h:D5 d:=hp _ iC;have hr:jK d r d.au.length:=hp _ yC;have hm:d.au.length<=6000:=hp _ hh2;obtain⟨N,rfl⟩:∃N,n=N+6001:=⟨n-6001,by omega⟩;have hO:∀m,N<=m->Ok m abK:=fun m hm=>hO m (by omega);have CO:=hO (N+6001) (by omega);by_cases c:r<0
 .have t0:decide (r<0)=true:=by simpa using c
  have t1:(!(decide (jh r∈([]:LI0))))=true:=by simp
  have e:kD d 6002 r ([],[])=([],[jh r]):=by rw[kD,a18 t0,a18 t1];rfl
  show nN X0 Qp _ _ _ ((dJ (a2 qF qF)).put ((kD d 6002 r ([],[])).1,(kD d 6002 r ([],[])).2)) [];rw[e];exact aN CO (.b t0 (.o le0 (.b t1 (.o le1 (.rn (.dK [.nil .aO,.dw 3 ([jh r]:LI0) false]) rfl)))))
 .have t0:decide (r<0)=false:=by simpa using c
  have t1:decide (r∈([]:LI0))=false:=by simp
  have hi:gV r d.au.length:=⟨by omega,hr.1⟩;obtain⟨i1,i2⟩:=id hi;have aQ:r.toNat<d.au.length:=by omega
  have hl:Ob (N+6001) 133 0 0 (wSn d r 0 ([],[]) []) (.exit 0) (wSn d r (ay d r).aA.length (aT (fun k y=>kD d 6001 ((ay d r).aA.getD k 0) y) (ay d r).aA.length 0 ([],[])) [(40,xl false)]):=by
   refine wK (σ:=LI0×LI0) (N:=(ay d r).aA.length) (g:=fun k y=>kD d 6001 ((ay d r).aA.getD k 0) y) (s0:=(([],[]):LI0×LI0)) (st:=fun k y=>wSn d r k y []) (fin:=fun y=>wSn d r (ay d r).aA.length y [(40,xl false)]) (fun _ y=>KX d y) (by kernel_rfl) (Yu (h.KW r.toNat aQ)) sr0 (fun k y hk hy=>?_) (fun k y hk hy m e p g=>?_) (fun y _=>aP CO (.b (fC (ay d r).aA.length) .ex))
   .have hk:jK d ((ay d r).aA.getD k 0) r.toNat:=h.Ah r.toNat aQ k hk;have k1:(ay d r).aA.getD k 0<(r.toNat:Int):=hk.1;exact MS h 6001 _ y hy ⟨by omega,hk.2⟩
   .have lK:jK d ((ay d r).aA.getD k 0) r.toNat:=h.Ah r.toNat aQ k hk;have k1:(ay d r).aA.getD k 0<(r.toNat:Int):=lK.1;have hs:=sSr hO h 6001 ((ay d r).aA.getD k 0) y (by omega) hy ⟨by omega,lK.2⟩ (by omega);exact aP CO (.b (bD hk) (.o (aH hk) (.fr [0,1] hs (.goG [.gc [2,3]] g))))
  have sk:=MS h 6002 r ([],[]) sr0 hr;have e:kD d 6002 r ([],[])=((aT (fun k y=>kD d 6001 ((ay d r).aA.getD k 0) y) (ay d r).aA.length 0 ([],[])).1++[r],(aT (fun k y=>kD d 6001 ((ay d r).aA.getD k 0) y) (ay d r).aA.length 0 ([],[])).2):=by rw[kD,a0U (by rw[t0];simp),a0U (by rw[t1];simp)]
  show nN X0 Qp _ _ _ ((dJ (a2 qF qF)).put ((kD d 6002 r ([],[])).1,(kD d 6002 r ([],[])).2)) [];rw[e]at sk ⊢;generalize aT (fun k y=>kD d 6001 ((ay d r).aA.getD k 0) y) (ay d r).aA.length 0 ([],[])=y at hl sk;have sl:(y.1++[r]).length<=d.au.length:=sk.len.1;have m1:=h.au;have ml:y.1.length+[r].length<=ah:=by rw[<-a1D];omega
  exact aN CO (.b t0 (.o le0 (.b t1 (.o hi (.wG [.IE 2 3,.IE 3 3] hl (.o ml .rr))))))
open Go Tw Pv bV
abbrev cD1(d:Dg)(i j:Nat):Bool:=decide (d.aK.getD j V0=d.aK.getD i V0)
abbrev cD0(d:Dg)(i:Nat):Bool:=if jS (bH (cD1 d i) i)=true then false else true
abbrev cD3(d:Dg)(i j:Nat):Bool:=if((fE d j).var==(fE d i).var)=true then decide ((fE d j).aA=(fE d i).aA)else false
abbrev cD2(d:Dg)(i:Nat):Bool:=if Ei (fE d i)=true then true else if jS (bH (cD3 d i) i)=true then false else true
abbrev wD(d:Dg)(x:List (Nat×PE aG)):bT aG:=⟨[(1,.loc 0 0)]++x,[d.ps],[]⟩
abbrev rD(d:Dg):Ex×bT aG:=(.ret,⟨[(2,xl false)],[d.ps],[]⟩)
def zD1(d:Dg)(i:Nat):Unit⊕Nat->Ex×bT aG
 |.inl _=>(.exit 2,wD d [(3,xi i),(4,xi i),(18,xl false)])
 |.inr _=>rD d
theorem lD1{n fU}(hO:Ok n fU){d}(h:DgL d){i}(hi:i<d.aK.length):Lp n 84 1 (wD d [(3,xi i),(4,xi 0)]) (zD1 d i (bH (cD1 d i) i)).1 (zD1 d i (bH (cD1 d i) i)).2:=
 jm (st:=fun j _=>wD d [(3,xi i),(4,xi j)]) (fun _ _=>True) (by kernel_rfl) (by have:=h.aK;omega) trivial (fun j s m hj _ ih=>aP hO (.b (bD hj) (.o (aH (show j<d.aK.length by omega)) (.o (aH hi) (.q (.bool (cD1 d i j)) (eqV (.tmp 25) (.tmp 30) (d.aK.getD j V0) (d.aK.getD i V0)) (.ls (.ou nofun) (.nx (ih _ trivial)))))))) (fun s _=>aP hO (.b (fC i) (.ou nofun)))
def zD0(d:Dg):Unit⊕Nat->Ex×bT aG
 |.inl _=>(.exit 0,wD d [(3,xi d.aK.length),(13,xl false)])
 |.inr _=>rD d
theorem lD0{n fU}(hO:Ok n fU){d}(h:DgL d):Lp n 84 0 (wD d [(3,xi 0)]) (zD0 d (bH (cD0 d) d.aK.length)).1 (zD0 d (bH (cD0 d) d.aK.length)).2:=
 jm (st:=fun i _=>wD d [(3,xi i)]) (fun _ _=>True) (by kernel_rfl) h.aK trivial (fun i s m hi _ ih=>by
  have hl:=lD1 hO h hi;unfold gS cD0;cases e:jS (bH (cD1 d i) i)
  .exact aP hO (.b (bD hi) (.w (kY hl 0 e) (.ou nofun)))
  .exact aP hO (.b (bD hi) (.w (kX hl () e) (.nx (ih _ trivial))))
  ) (fun s _=>aP hO (.b (fC d.aK.length) (.ou nofun)))
def zD3(d:Dg)(i:Nat):Unit⊕Nat->Ex×bT aG
 |.inl _=>(.exit 6,wD d [(5,xi i),(6,xi i),(47,xl false)])
 |.inr _=>rD d
theorem lD3{n}(hO:Ok n a2P){d}(h:D5 d){i}(hi:i<d.au.length):Lp n 84 3 (wD d [(5,xi i),(6,xi 0)]) (zD3 d i (bH (cD3 d i) i)).1 (zD3 d i (bH (cD3 d i) i)).2:=
 jm (st:=fun j _=>wD d [(5,xi i),(6,xi j)]) (fun _ _=>True) (by kernel_rfl) (by have:=h.au;omega) trivial (fun j s m hj _ ih=>by
  have tX:j<d.au.length:=by omega
  unfold gS cD3;cases e:((fE d j).var==(fE d i).var)
  .exact aP hO (.b (bD hj) (.o (aH tX) (.o (aH hi) (.b e (.nx (ih _ trivial))))))
  .exact aP hO (.b (bD hj) (.o (aH tX) (.o (aH hi) (.b e (.o (aH tX) (.o (aH hi) (.o (Yu (h.KW j tX)) (.ls (.ou nofun) (.nx (ih _ trivial))))))))))
  ) (fun s _=>aP hO (.b (fC i) (.ou nofun)))
def zD2(d:Dg):Unit⊕Nat->Ex×bT aG
 |.inl _=>(.exit 4,wD d [(5,xi d.au.length),(36,xl false)])
 |.inr _=>rD d
theorem lD2{n}(hO:Ok n a2P){d}(h:D5 d):Lp n 84 2 (wD d [(5,xi 0)]) (zD2 d (bH (cD2 d) d.au.length)).1 (zD2 d (bH (cD2 d) d.au.length)).2:=
 jm (st:=fun i _=>wD d [(5,xi i)]) (fun _ _=>True) (by kernel_rfl) h.au trivial (fun i s m hi _ ih=>by
  have hl:=lD3 hO h hi;unfold gS cD2;cases e1:Ei (fE d i)
  .cases e:jS (bH (cD3 d i) i)
   .exact aP hO (.b (bD hi) (.o (aH hi) (.o (Yu (h.KW i hi)) (.b e1 (.w (kY hl 0 e) (.ou nofun))))))
   .exact aP hO (.b (bD hi) (.o (aH hi) (.o (Yu (h.KW i hi)) (.b e1 (.w (kX hl () e) (.nx (ih _ trivial)))))))
  .exact aP hO (.b (bD hi) (.o (aH hi) (.o (Yu (h.KW i hi)) (.b e1 (.ou nofun)))))
  ) (fun s _=>aP hO (.b (fC d.au.length) (.ou nofun)))
def oZ(d:Dg):Bool:=if jS (bH (cD0 d) d.aK.length)=true then(if jS (bH (cD2 d) d.au.length)=true then(if Ag (srN d d.root) (d.au.length:Int)=true then Ag (srE d d.root) (d.aK.length:Int)else false)else false)else false
theorem a2Q{d}(h:D5 d):(srN d d.root).length<=ah/\(srE d d.root).length<=ah:=by have hl:=(MS h 6002 d.root ([],[]) sr0 h.root).len;exact⟨a5W hl.1 h.au,a5W hl.2 h.aK⟩
def alK:fV aG:=bU 84 (a1 dA) tA (fun p=>oZ p) (fun p=>[D5 p,p.au.length<=6000]) a2P
theorem ar5:Gd alK:=alJ.add fun n hO p hp=>aN hO (.zh (fun h=>.w (kX (lD0 hO (show D5 p from hp _ iC).toDgL) () h) (.zh (fun h2=>.w (kX (lD2 hO (show D5 p from hp _ iC)) () h2) (.o (hp _ iC) (.o (show D5 p from hp _ iC).root (.o (hp _ yC) (.o (a2Q (hp _ iC)).1 (.ss (.o (a2Q (hp _ iC)).2 .rr) .rr)))))) fun h2=>.w (kY (lD2 hO (show D5 p from hp _ iC)) 0 h2) .rr)) fun h=>.w (kY (lD0 hO (show D5 p from hp _ iC).toDgL) 0 h) .rr)
theorem YA{d}(hm:d.aK.length<=ah){r}{b:Nat}(h:iY d r b=true):jK d r b:=by
 unfold iY at h;by_cases c:0<=r
 .rw[a18 (by simpa using c)]at h;exact⟨by simpa using h,fun h2=>by omega⟩
 rw[a0U (by simpa using c),wP]at h;have e:i64.wrap ((d.aK.length:Int)-1)=(d.aK.length:Int)-1:=by unfold ah at hm;exact fP (by omega) (by omega)
 rw[e]at h;obtain⟨h1,h2⟩:=h;exact⟨by omega,fun _=>⟨h1,show jh r<_ by show i64.wrap (-1-r)<_;omega⟩⟩
theorem a8s{d}(h:DgL d)(hl:mV d=true):D5 d:=by
 unfold mV at hl;split at hl
 rotate_left
 .cases hl
 split at hl
 rotate_left
 .cases hl
 rename_i h1 h2;have h2:=dD.1 h2;have key:∀i,i<d.au.length->oP (fE d i).var 0 (xw d.aj)=true/\(((fE d i).aA.length:Int) != d.aj.getD (fE d i).var.toNat 0)=false/\jS (bH (cLk d i) (fE d i).aA.length)=true:=fun i hi=>by
  have:=h2 i hi;unfold cLn at this;split at this
  .cases this
  split at this
  .cases this
  split at this
  .rename_i a b c;exact⟨by simpa using a,by simpa using b,c⟩
  cases this
 refine⟨h,fun i hi k hk=>?_,fun i hi=>?_,fun i hi=>?_,fun i hi=>?_,YA h.aK hl⟩
 .have:=dD.1 (key i hi).2.2 k hk;unfold cLk at this;split at this
  .cases this
  rename_i a;exact YA h.aK (by simpa using a)
 .exact Yz h.bP (KU h.bP (key i hi).1) (key i hi).2.1
 .exact KU h.bP (key i hi).1
 simpa using(key i hi).2.1
theorem jo{d}(ho:d.aB.length<=ah)(he:d.aK.length<=ah)(h:(bn d != 0)=false):D5 d/\d.au.length<=6000:=by
 unfold bn at h;split at h
 .rename_i h1;simp at h h1;exact absurd h h1
 split at h
 .cases h
 split at h
 .cases h
 rename_i h1 h2 h3;have h2:decide ((d.au.length:Int)>6000)=false:=by simpa using h2
 exact⟨a8s ⟨ho,VZ h2,he,BI (by simpa using h1)⟩ (by simpa using h3),by simp at h2;omega⟩
def gU(d:Dg):Int:=if(bn d != 0)=true then bn d else if(!(oZ d))=true then 4 else 0
def alM:fV aG:=bU 22 (a1 dA) iA (fun p=>gU p) (fun p=>[p.aB.length<=ah,p.aK.length<=ah]) alK
theorem ar6:Gd alM:=ar5.add fun n hO p hp=>aN hO (.o (hp _ iC) (.o (hp _ yC) (.sh (fun _=>.rr) fun h=>.o (jo (hp _ iC) (hp _ yC) h).1 (.o (jo (hp _ iC) (hp _ yC) h).2 (.ss .rr .rr)))))
open Go Tw Pv bV
def gAt(d:Dg)(p:LI0)(r:Int):Int⊕Int:=if decide (r>=0)=true then .inl ((ay d r).aA.getD (p.getD (ay d r).var.toNat 0).toNat 0)else .inr r
def W9(d:Dg)(p:LI0):Nat->Int->Int
 | 0,r=>r
 |F+1,r=>if r<0 then r else W9 d p F ((ay d r).aA.getD (p.getD (ay d r).var.toNat 0).toNat 0)
theorem aej{d p}:∀(F) (r),W9 d p F r<0->itF (gAt d p) (F+1) r=some (W9 d p F r)
 | 0,r,h=>by
  have h:r<0:=h;have e:gAt d p r=.inr r:=by unfold gAt;rw[a0U (by simpa using h)]
  rw[itF,e];rfl
 |F+1,r,h=>by
  by_cases c:r<0
  .have e:gAt d p r=.inr r:=by unfold gAt;rw[a0U (by simpa using c)]
   rw[itF,e,W9,a18 c]
  have e:gAt d p r=.inl ((ay d r).aA.getD (p.getD (ay d r).var.toNat 0).toNat 0):=by unfold gAt;rw[a18 (by simp;omega)]
  rw[W9,a0U c]at h;rw[itF,e,W9,a0U c];exact aej F _ h
theorem QD{d}(h:D5 d){p}(hp:jZ d.aj p=true){r}(hr:gV r d.au.length):gV (ay d r).var p.length/\gV (p.getD (ay d r).var.toNat 0) (ay d r).aA.length/\jK d ((ay d r).aA.getD (p.getD (ay d r).var.toNat 0).toNat 0) r.toNat:=by
 obtain⟨r1,r2⟩:=hr;have hl:r.toNat<d.au.length:=by omega
 have hv:=h.var r.toNat hl;have hk:=h.ksz r.toNat hl;obtain⟨v1,v2⟩:=hv;obtain⟨p1,p2⟩:=qC.1 hp;have p3:=p2 (ay d r).var.toNat (by show(fE d r.toNat).var.toNat<_;omega);have k1:gV (p.getD (ay d r).var.toNat 0) (ay d r).aA.length:=⟨p3.1,by show _<((fE d r.toNat).aA.length:Int);rw[hk];exact p3.2⟩;refine⟨⟨v1,by rw[p1];exact v2⟩,k1,h.Ah r.toNat hl _ ?_⟩;obtain⟨k2,k3⟩:=k1;show _<(ay d r).aA.length;omega
theorem Wh{d}(h:D5 d){p}(hp:jZ d.aj p=true):∀(F:Nat) (r:Int),r<F->jK d r d.au.length->jK d (W9 d p F r) 0
 | 0,r,hr,hk=>⟨by show r<((0:Nat):Int);omega,hk.2⟩
 |F+1,r,hr,hk=>by
  unfold W9;split
  .rename_i c;exact⟨by show r<((0:Nat):Int);omega,hk.2⟩
  rename_i c;have:=(QD h hp (r:=r) ⟨by omega,hk.1⟩).2.2;obtain⟨a1,a2⟩:=this;have a3:r<(d.au.length:Int):=hk.1;exact Wh h hp F _ (by omega) ⟨by omega,a2⟩
abbrev atR(d:Dg)(p:LI0):Int:=W9 d p 6001 d.root
def mW(d:Dg)(p:LI0):V:=d.aK.getD (jh (atR d p)).toNat V0
abbrev wAt(d:Dg)(p:LI0)(r:Int)(x:List (Nat×PE aG)):bT aG:=⟨[(1,xL 3 p),(2,.loc 0 0),(4,.loc 1 0),(5,xi r)]++x,[d.ps,V0.ps],[]⟩
theorem lAt{n fU}(hO:Ok n fU){d}(h:D5 d)(hm:d.au.length<=6000){p}(hp:jZ d.aj p=true):Lp n 98 0 (wAt d p d.root []) (.exit 0) (wAt d p (atR d p) [(9,xl false)]):=by
 have h0:d.root<(d.au.length:Int):=h.root.1;have ha:=Wh h hp 6001 d.root (by omega) h.root;have RQ:=aej 6001 d.root ha.1;refine a0P (st:=fun r=>wAt d p r []) (g:=gAt d p) (out:=fun r=>(.exit 0,wAt d p r [(9,xl false)])) (fun r=>jK d r d.au.length) RQ (by kernel_rfl) (by decide) h.root ?_ ?_
 .intro r r1 hr e;unfold gAt at e;split at e
  .rename_i c;have c:0<=r:=(by simpa using c);cases e;have:=(QD h hp (r:=r) ⟨c,hr.1⟩).2.2;have a3:r<(d.au.length:Int):=hr.1;obtain⟨a1,a2⟩:=this;exact⟨by omega,a2⟩
  cases e
 intro r m r' hr ih;by_cases c:0<=r
 .have hk:=QD h hp (r:=r) ⟨c,hr.1⟩;have t1:decide (r>=0)=true:=by simpa using c
  have e:gAt d p r=.inl ((ay d r).aA.getD (p.getD (ay d r).var.toNat 0).toNat 0):=by unfold gAt;rw[a18 t1]
  have g:=ih _ e;rw[e];have xI:gV r d.au.length:=⟨c,hr.1⟩;exact aP hO (.b t1 (.o xI (.o xI (.o hk.1 (.o hk.2.1 (.go g))))))
 have t1:decide (r>=0)=false:=by simpa using c
 have e:gAt d p r=.inr r:=by unfold gAt;rw[a0U (by rw[t1];simp)]
 rw[e];dsimp only[DX];exact aP hO (.b t1 .ex)
theorem abO{d}(h:D5 d)(hm:d.au.length<=6000){p}(hp:jZ d.aj p=true):gV (jh (atR d p)) d.aK.length:=by have h0:d.root<(d.au.length:Int):=h.root.1;have ha:=Wh h hp 6001 d.root (by omega) h.root;exact ha.2 ha.1
def alN:fV aG:=bU 98 (a2 dA qF) vA (fun p=>mW p.1 p.2) (fun p=>[D5 p.1,p.1.au.length<=6000,jZ p.1.aj p.2=true]) alM
theorem ar7:Gd alN:=ar6.add fun n hO p hp=>aN hO (.w (lAt hO (hp _ iC) (hp _ yC) (hp _ hh2)) (.o (abO (hp _ iC) (hp _ yC) (hp _ hh2)) .rr))
open Go Tw Pv bV
theorem abP{A m h}{l:LI0}{cs}(hr:eu X0 Qp A m h 3 l cs 0 1)(hc:cs.length=l.length):cs=l.map fun n=>TV.int .i64 n:=by
 apply aan (by simp[hc]);intro j h1 h2;have hj:j<l.length:=by omega
 have:=hr.2.2 j l[j] 0 (.int .i64 l[j]) cs[j] (a0N hj) rfl (by rw[a0w];exact⟨by omega,by simp⟩);rw[this.a2A];simp
theorem Uo:∀l,MO (l.map fun n=>TV.int .i64 n)=some l
 | []=>rfl
 |a::l=>by simp[MO,Uo l]
theorem Ur{A m h}(l:LI0):eu X0 Qp A m h 3 l (l.map fun n=>TV.int .i64 n) 0 1:=by
 refine⟨fun j a _=>rfl,by simp only[a5C,aiz,a3O];exact a1p _,fun j a i c v hj hi hv=>?_⟩;have tX:=(a0w.1 hj).1;cases i with
 |zero=>
  have hi:some (PV.int .i64 a)=some c:=hi;cases hi;have hj:(l:LI0)[j]? = some a:=hj;rw[a3O,aiz,adh,a5F,hj]at hv;have hv:some (TV.int .i64 a)=some v:=hv;cases hv;exact .int _ _
 |succ i=>have hi:([]:List (PV aG))[i]? = some c:=hi;simp at hi
theorem MV:dH Qp 3=some 1:=by kernel_rfl
theorem a8t(n x h):kR Qp T LL (n+1) (.fn 137 [] []) [x] h=Qk 137 (.fn 137 [] []) [x] h:=rfl
theorem abQ{f c h kk Ce cs l e}(hb:h[c]? = some (.cells kk cs))(hk:AL kk true=some Ce)(JQ:cs=l.map fun n=>TV.int .i64 n)(h0:0<l.length)(h1:l.length<=2^20) :Qk f (.fn f [] []) [.aO c 0 l.length l.length 1 e] h=some (.dK [],h.set c (.cells Ce ((iw l).map fun n=>TV.int .i64 n)),[c]):=by
 have nV:cs.length=l.length:=by rw[JQ,a5C]
 have him:MO cs=some l:=by rw[JQ];exact Uo l
 generalize l.length=n at *;obtain⟨j,rfl⟩:∃j,n=j+1:=⟨n-1,by omega⟩;simp only[Qk,a7R,a2r,hb,hk,him,nV,h0,h1,adx]
theorem aek{n k ex}(l:LI0)(hl:l.length<=2^20):jf (n+1) (.fn 137 [] []) [.own 0] [.list k ex 3 l] (.dK []) [.list k ex 3 (iw l)]:=by
 intro A m h tf rJ hr hf hx;obtain⟨x,r,rfl,h1,h2⟩:=hx.inv;have:=h2.inv0;subst this;obtain⟨g1,g2⟩:=abn hr (i:=0) (k:=k) (ex:=ex) (t:=3) (l:=l) rfl h1;have htf:=hf.Qb;subst htf;show ∃w h1 ws m1,kR Qp T LL (n+1) _ _ h=_/\_;rw[a8t];have ar8:iw ([]:LI0)=[]:=by simp[iw]
 have hE:∀h0:(l:LI0)=[],iw l=l:=fun h0=>by rw[h0];exact ar8
 rcases agr g2 with⟨h0,rfl⟩|⟨h0,b,off,sz,cs,rfl,p0,p1,p2,p3,p4⟩|⟨p1,c,sz,e,kk,cs,rfl,p2,p3,p4,p5,p6,p7,p8,p9⟩
 .rw[hE h0];exact⟨.dK [],h,[],m,rfl,hr,.dK rfl (fun i x y hx=>by simp at hx),.refl,.refl,fun b hb=>by cases hb⟩
 .rw[hE h0];exact⟨.dK [],h,[],m,rfl,hr,.dK rfl (fun i x y hx=>by simp at hx),.refl,.refl,fun b hb=>by cases hb⟩
 rw[MV]at p2;cases p2;have p8:cs.length=(l:LI0).length*1:=p8;have nV:cs.length=l.length:=by omega
 have JQ:=abP p9 nV;have Xl:0<l.length:=by cases l with|nil=>exact absurd rfl p1|cons=>simp
 obtain⟨Ce,yL,afS,hko⟩:=Kv p5;have aQ:=(a0w.1 p4).1;have rG:(MB.dw (TV.aO c 0 l.length l.length 1 e)).own=some c:=by simp only[MB.own];rw[a0U (by omega)]
 have hsl:(iw l).length=l.length:=by unfold iw;rw[aaX]
 have iI:iw l≠[]:=fun e0=>by rw[e0]at hsl;simp at hsl;omega
 obtain⟨q1,q2⟩:=hr.set (i:=0) (c:=c) (pb:=.list k ex 3 (iw l)) (hb:=.cells Ce ((iw l).map fun n=>TV.int .i64 n)) g1 rG
  (fun EO LY=>⟨_,by simp only[aV];rw[a2y aQ],by
   simp only[aV,p4,a08]at LY;subst LY;rw[a5C,hsl,nV];exact a1p _⟩)
  (fun hF=>by have r:=LR.some (X:=X0) (P:=Qp) (A:=AA A m) (m:=m) (k:=k) (ex:=ex) (e:=e) (t:=3) (b:=c) (kk:=Ce) iI MV (by decide) (by rw[a2y aQ]) afS (fun e0=>hko (p6 e0)) p7 (by rw[a5C,aiz];rfl) (Ur (iw l));have ar9:@List.length (X0.Γ 3) (iw l)=l.length:=hsl;rw[ar9]at r;exact r)
 refine⟨.dK [],_,[c],m,?_,q1,.dK rfl (fun i x y hx=>by simp at hx),q2,.refl,fun d hd=>?_⟩
 .exact abQ p4 yL JQ Xl hl
 simp at hd;subst hd;exact aY g1 rG
end Go.Proofs.YtmobpoiejckagaaGreat
namespace Pv
open Go Tw
variable{X:ny}{P:LI1}
theorem nN.a8u(hX:bW X P){call f xs vs v v' ext ext'}(hc:nN X P call f vs v ext)(hv:views [] ([]++xs++[])=some vs)(hs:su X 0 ext=some ext')(e:shift 0 v=v') (he:(if yE v||ext.any (hasB X)then bf (lG.kT ([]++xs++[])) []else [])=([]:List (PB X.Γ))):dI X P call (.fn f [] []) xs [] v' ext':=by
 subst e;intro A m h tf rJ hr hf hx;have htf:=hf.Qb;subst htf;obtain⟨w,h',m1,c1,c2,c3,c4,c5⟩:=IX hX hc hr hv hs (t1:=[]) (t3:=[]) .nil hx .nil;rw[he]at c2;exact⟨w,h',[],m1,c1,c2,c3,c4,c5,fun b hb=>by cases hb⟩
end Pv
namespace Go.Proofs.YtmobpoiejckagaaGreat
open Go Tw Pv bV
abbrev lsI(l:LI0):List (PB aG):=[.list false false 3 l]
theorem a4X(n h):Nj Qp T (iD n) LL 125 [.nil .aO] h=some (.nil .aO,h,[]):=by kernel_rfl
theorem a4Y(n b off cap ex h):Nj Qp T (iD n) LL 125 [.aO b off 0 cap 1 ex] h=some (.aO h.length 0 0 0 1 true,h++[.cells .own []],[]):=by kernel_rfl
theorem agZ{n}:nN X0 Qp (iD (n+1)) 125 [.dw 3 ([]:LI0) false] (.own 0) (lsI []):=by
 intro A h first args cap G5 hv
 obtain⟨x,r,e,h1,h2⟩:=hv.inv;have:=h2.inv0;subst this;have hun:kR Qp T LL (n+1) (.fn 125 first cap) args h=Nj Qp T (iD n) LL 125 [x] h:=by rw[<-e];show kR Qp T LL (n+1) _ _ _=_;rw[kR,a0U (by decide),a0U (by decide)]
 rcases Y9 h1 with rfl|⟨b,off,cap',sz,ex,cs,rfl,a1,a2,a3,a4,a5⟩
 .exact⟨.nil .aO,h,[.dw (.nil .aO)],by rw[<-a4X n h,<-hun],J5 G5 .nil rfl,.own rfl rfl,⟨a1p _,fun _ _ _=>rfl,fun b hb=>by simp[aZ,MB.own]at hb,fun b cs hc=>⟨cs,hc,a1p _⟩⟩⟩
 rw[MV]at a3;cases a3;have hc:aV (h++[HB.cells .own []]) h.length=some []:=by unfold aV;rw[a1y (a1p _),afs];rfl
 refine⟨.aO h.length 0 0 0 1 true,h++[.cells .own []],[.dw (.aO h.length 0 0 0 1 true)],by rw[<-a4Y n b off cap' ex h,<-hun],J5 (fun b hb=>G5 b (by simp at hb;omega)) (.emp ⟨G5 _ (a1p _),by simp[aZ,MB.own]⟩ hc (a1p _) MV (by decide)) (by simp[MB.own]),.own rfl rfl,⟨by simp,fun b hb _=>by rw[a0Q hb],fun b hb=>by simp[aZ,MB.own]at hb,fun b cs hc=>⟨cs,?_,a1p _⟩⟩⟩;rw[fF (a0Q (fG hc)),hc]
def ael:fV aG:=Si 125 (a1 qF) (fun _=>.own 0) (fun p=>lsI p) (fun p=>[p.length<=ah]) alN
theorem alP:Gd ael:=ar7.MJ 0 fun n _ hO p hp=>by
 have hl:p.length<=ah:=hp _ iC;by_cases h:p=[]
 .subst h;exact agZ
 .have h2:([]:LI0).length+p.length<=ah:=by simpa using hl
  exact nN.gs hX (wF hX (hO n (by omega)) (v:=.own 1) (H:=[.gone,.list true false 3 p]) (by kernel_rfl) (.o h (.b aiC (.o h2 .er)))) [.gc [1],.flag 0] rfl
abbrev abS(m:Nat)(i:Int)(l:LI0)(x:List (Nat×PE aG)):bT aG:=⟨[(3,xo 0),(7,xi m),(8,xi i)]++x,[],[.list true true 3 l]⟩
theorem a8v(m):aT (fun k (l:LI0)=>l.set k (k:Int)) m 0 (List.replicate m 0)=dS m:=by
 have:=dB (g:=fun k (l:LI0)=>l.set k (k:Int)) (m:=m) (k:=0) (s:=List.replicate m 0) (fun k l=>l.length=m/\∀j,j<k->l.getD j 0=(j:Int)) ⟨by simp,by simp⟩ (fun j l _ hj h=>⟨by simp[h.1],fun i hi=>by
  rw[bV.zT (by omega)];split
  .rename_i e;rw[e]
  exact h.2 i (by omega)⟩)
 rw[pW (d:=0) (by rw[this.1,mQ])];intro j hj;have tX:j<m:=by have:=this.1;omega
 rw[this.2 j (by omega)];simp[dS,List.getD,a5F,ab8,tX]
theorem ara{n fU}(hO:Ok n fU)(m)(hm:m<=ah):Lp n 159 0 (abS m 0 (List.replicate m 0) []) (.exit 0) (abS m m (dS m) [(9,xl false)]):=by rw[<-a8v];exact wK (σ:=LI0) (N:=m) (g:=fun k (l:LI0)=>l.set k (k:Int)) (s0:=List.replicate m 0) (st:=fun i (l:LI0)=>abS m i l []) (fin:=fun(l:LI0)=>abS m m l [(9,xl false)]) (fun _ (l:LI0)=>l.length=m) (by kernel_rfl) hm (by simp) (fun k l _ h=>by simp[h]) (fun k l hk hl j e p g=>aP hO (.b (bD hk) (.o (aH (show k<l.length by omega)) (.go g)))) (fun l _=>aP hO (.b (fC m) .ex))
def aem:fV aG:=bU 159 (a1 iA) qF (fun p=>dS p.toNat) (fun p=>[0<=p,p<=(ah:Int)]) ael
theorem alQ:Gd aem:=alP.add fun n hO p hp=>by have h0:0<=p:=hp _ iC;have h1:p<=(ah:Int):=hp _ yC;obtain⟨m,rfl⟩:∃m:Nat,p=(m:Int):=⟨p.toNat,by omega⟩;exact aN hO (.o (rfl:(m:Int)=(m:Int)) (.o h0 (.o h1 (.w (ara hO m (by omega)) .rr))))
abbrev ah1(a b:LI0)(i:Int)(x:List (Nat×PE aG)):bT aG:=⟨[(0,xL 3 a),(1,xL 3 b),(12,xi a.length),(13,xi i)]++x,[],[]⟩
def alR(a b:LI0):Unit⊕Nat->Ex×bT aG
 |.inl _=>(.exit 0,ah1 a b a.length [(14,xl false)])
 |.inr _=>(.ret,⟨[(4,xl false)],[],[]⟩)
theorem alS{n fU}(hO:Ok n fU)(a b)(hl:a.length<=ah)(h:a.length=b.length):Lp n 158 0 (ah1 a b 0 []) (alR a b (bH (MQ a b) a.length)).1 (alR a b (bH (MQ a b) a.length)).2:=
 jm (st:=fun i _=>ah1 a b i []) (fun _ _=>True) (by kernel_rfl) hl trivial (fun k s m hk _ ih=>aP hO (.b (bD hk) (.o (aH hk) (.o (aH (h▸hk)) (.ls (.ou nofun) (.nx (ih _ trivial))))))) (fun s _=>aP hO (.b (fC a.length) (.ou nofun)))
def aen:fV aG:=bU 158 (a2 qF qF) tA (fun p=>decide (p.1=p.2)) (fun p=>[p.1.length<=ah]) aem
theorem alT:Gd aen:=alQ.add fun n hO p hp=>aN hO (.s (fun h=>.v false (a8i h).symm) fun h=>.z (c:=jS (bH (MQ p.1 p.2) p.1.length)) (fun h2=>.w (kX (alS hO p.1 p.2 (hp _ iC) (mP h)) () h2) (.v true (by rw[<-F8 (mP h),h2]))) fun h2=>.w (kY (alS hO p.1 p.2 (hp _ iC) (mP h)) 0 h2) (.v false (by rw[<-F8 (mP h),h2])))
def a8w:fV aG:=bU 157 (a3 iA iA qF) tA (fun p=>nR p.2.2 p.1 p.2.1) (fun p=>[p.2.2.length<=ah]) aen
theorem alU:Gd a8w:=alT.deep 3 fun n hn hO p hp=>by have h1:∀x,dI X0 Qp (iD (n-3+1)) (.fn 188 [] [.ptr 0 0 1,.ptr 1 0 1]) [.int .i64 x] [.cells [.int .i64 p.1],.cells [.int .i64 p.2.1]] (tA.put (wW x p.1 p.2.1)) [.cells [.int .i64 p.1],.cells [.int .i64 p.2.1]]:=fun x=>jF gK (first:=[]) (.ssh (fun _=>.sr) (fun _=>.sr));obtain⟨n,rfl⟩:∃k,n=k+3:=⟨n-3,by omega⟩;rw[show n+3-3+1=n+1 by omega]at h1;have h2:=akG (n:=n+2) (by omega) (g:=fun x=>wW x p.1 p.2.1) h1 p.2.2 (hp _ iC);exact aN (hO _ (by omega)) (.k h2 (.v (!(nP (fun x=>wW x p.1 p.2.1) p.2.2)) (by rw[EY];rfl)))
def a2R(s:LI0):Int:=aT (fun k n=>i64.wrap (n*s.getD k 0)) s.length 0 1
theorem YB:∀{s},oh s->bG s<=12^s.length
 | [],_=>by decide
 |a::t,h=>by have h1:=YB h.tail;have h2:=jC h.tail;have h3:=h a (.head _);have h4:a*bG t<=12*bG t:=ab1 h3.2 (by omega);show a*bG t<=12^(t.length+1);rw[Int.pow_succ];omega
theorem alV:∀{n},n<=6->(12:Int)^n<=2985984:=by decide
theorem a8x{s}(h:oh s)(hl:s.length<=6):a2R s=bG s:=by
 have:=dB (g:=fun k n=>i64.wrap (n*s.getD k 0)) (m:=s.length) (k:=0) (s:=1) (fun k n=>n=bG (s.take k)) (by simp[bG]) (fun j n _ hj e=>by
  have tX:j<s.length:=by omega
  have e2:bG (s.take (j+1))=n*s.getD j 0:=by rw[a8p tX,EW,e];simp[bG,List.getD,a0N tX]
  have h1:=Sj h (j+1);have h2:1<=bG (s.take (j+1)):=jC fun a ha=>h a (aa8 ha);have h3:=YB h;have h4:=alV hl;show i64.wrap (n*s.getD j 0)=_;rw[e2]at h1 h2 ⊢;exact fP (by omega) (by omega))
 rw[a2R,this];simp
abbrev abT(a b:LI0)(p i:Int)(x:List (Nat×PE aG)):bT aG:=⟨[(0,xL 3 a),(1,xL 3 b),(5,xi p),(17,xL 3 a),(18,xi a.length),(19,xi i)]++x,[],[]⟩
theorem arb{n fU}(hO:Ok n fU)(a b)(hl:a.length<=ah):Lp n 105 0 (abT a b 1 0 []) (.exit 1) (abT a b (a2R a) a.length [(20,xl false)]):=
 Qg (st:=fun i n=>abT a b n i []) (fin:=fun n=>abT a b n a.length [(20,xl false)]) (fun _ _=>True) (by kernel_rfl) hl Uk trivial (fun _ _ _ _=>trivial) (fun k s hk _ n e p h=>aP hO (.b (bD hk) (.o (aH hk) (.go h)))) (fun s _=>aP hO (.b (fC a.length) .ex))
theorem ah2{n}(hO:Ok n a8w)(l:LI0)(hl:l.length<=ah):jf n (.fn 125 [] []) [.dw 3 l false] [] (.own 0) (lsI l):=
 nN.a8u hX (hO 125 [.dw 3 l false] (.own 0) (lsI l) [l.length<=ah] (by kernel_rfl) (afm.2 hl)) rfl rfl rfl rfl
theorem a8y(n):(dS n).Pairwise fun a b=>decide (a<=b)=true:=by unfold dS;rw[agy];exact List.pairwise_lt_range.imp fun h=>by simp;omega
theorem a4Z{n o}:decide (iw o=dS n)=ku n o:=by
 rw[a5R,a1F];have h2:=Ul n;have hp:(iw o).Perm o:=afg _ _;constructor
 .intro h;rw[h]at hp;unfold ku at h2 ⊢;rw[a1F]at h2 ⊢;exact⟨by rw[<-hp.length_eq,h2.1],fun a ha=>h2.2.1 a (hp.mem_iff.2 ha),hp.nodup_iff.1 h2.2.2⟩
 intro h;unfold ku at h h2;rw[a1F]at h h2;have e:o.Perm (dS n):=(a7t h.2.2 h2.2.2).2 fun a=>by
  have hm:∀x,0<=x/\x<(n:Int)->x∈dS n:=fun x hx=>by unfold dS;rw[a1z];exact⟨x.toNat,by rw[a5D];omega,by omega⟩
  constructor
  .exact fun ha=>hm a (h.2.1 a ha)
  intro ha;by_cases hc:a∈o
  .exact hc
  have:=aeL (l₁:=a::o) (l₂:=dS n) (a5I.2 ⟨hc,h.2.2⟩) (fun x hx=>by
   rcases a1G.1 hx with rfl|hx
   .exact ha
   exact hm x (h.2.1 x hx))
  rw[mQ]at this;simp at this;omega
 refine List.Perm.eq_of_pairwise (le:=fun a b=>decide (a<=b)=true) (fun a b _ _ h1 h2=>by simp at h1 h2;omega) ?_ (a8y n) (hp.trans e);exact List.pairwise_mergeSort (fun a b c h1 h2=>by simp at h1 h2 ⊢;omega) (fun a b=>by simp;omega) o
def YC(s o:LI0):Int:=if decide ((s.length:Int)>6)=true then 5 else if(!(nR s 1 12))=true then 3 else if decide (a2R s>2000)=true then 5 else if(!(decide (iw o=dS s.length)))=true then 4 else 0
theorem YD(s o):YC s o=bg s o:=by
 rw[QA];unfold YC;rw[a4Z];by_cases h1:6<s.length
 .rw[a18 (by simp;omega),a18 h1]
 rw[a0U (by simp;omega),a0U h1];have hw:nR s 1 12=decide (oh s):=by
  unfold nR;rw[a5R,a9c,List.any_eq_false,a1F];refine ad4 fun a=>ad4 fun _=>?_;unfold wW;split
  .rename_i h;simp at h ⊢;omega
  rename_i h;simp at h ⊢;omega
 rw[hw];by_cases h2:oh s
 .rw[a0U (by simp[h2]),a18 h2,a8x h2 (by omega)];simp only[a1F,Int.not_lt,gt_iff_lt];split
  .rfl
  cases ku s.length o<;>simp
 rw[a18 (by simp[h2]),a0U h2]
def aeo:fV aG:=bU 105 (a2 qF qF) iA (fun p=>bg p.1 p.2) (fun p=>[p.1.length<=ah,p.2.length<=2^20]) a8w
theorem alW:Gd aeo:=alU.deep 1 fun n hn hO p hp=>by
 obtain⟨n,rfl⟩:∃k,n=k+1:=⟨n-1,by omega⟩;have hO:=hO (n+1) (by omega);have h1:p.1.length<=ah:=hp _ iC;have h2:p.2.length<=2^20:=hp _ yC;have h3:p.2.length<=ah:=by unfold ah;omega
 have h4:(dS p.1.length).length<=ah:=by rw[mQ];exact h1
 have h5:(iw p.2).length<=ah:=by unfold iw;rw[aaX];exact h3
 show nN X0 Qp _ _ _ (iA.put (bg p.1 p.2)) _;rw[<-YD];exact aN hO (.ss .rr (.o h1 (.ss .rr (.w (arb hO p.1 p.2 h1) (.ss .rr (.fr [] (ah2 hO p.2 h3) (.fr [0] (aek (n:=n) (k:=false) (ex:=false) p.2 h2) (.o (show(0:Int)<=(p.1.length:Int) by omega) (.o (show(p.1.length:Int)<=(ah:Int) by omega) (.o h5 (.ss .rr .rr)))))))))))
open Go Tw Pv bV
theorem YE{α:Type}(x:α):[x].length<=ah:=by unfold ah;simp
def qZ(v:V):Bool:=if decide (v.f>0)=true then(if decide (v.f<=4)=true then v.n==0 else false)else nR [v.n] (-9999) 9999
def aep:fV aG:=bU 190 (a1 vA) tA (fun p=>qZ p) np aeo
theorem alX:Gd aep:=alW.add fun n hO p hp=>aN hO (.ss (.ss .rr .rr) (.o (YE p.n) .rr))
abbrev frA:ArL X0 Qp (LI0×LI0):=a2 qF qF
abbrev cIx(l:LI0)(v:Int)(k:Nat):Bool:=v==l.getD k 0
abbrev ah3(l:LI0)(v:Int)(i:Int)(x:List (Nat×PE aG)):bT aG:=⟨[(0,xL 3 l),(1,xi v),(7,xi l.length),(8,xi i)]++x,[],[]⟩
def z234(l:LI0)(v:Int):Unit⊕Nat->Ex×bT aG
 |.inl _=>(.exit 0,ah3 l v l.length [(9,xl false)])
 |.inr k=>(.ret,⟨[(4,xi k)],[],[]⟩)
theorem alY{n fU}(hO:Ok n fU)(l v)(hl:l.length<=ah):Lp n 234 0 (ah3 l v 0 []) (z234 l v (bH (cIx l v) l.length)).1 (z234 l v (bH (cIx l v) l.length)).2:=
 jm (st:=fun i _=>ah3 l v i []) (fun _ _=>True) (by kernel_rfl) hl trivial (fun k s m hk _ ih=>aP hO (.b (bD hk) (.o (aH hk) (.ls (.ou nofun) (.nx (ih _ trivial)))))) (fun s _=>aP hO (.b (fC l.length) (.ou nofun)))
def o8(l:LI0)(v:Int):Int:=if jS (bH (cIx l v) l.length)=true then -1 else((BA 0 (bH (cIx l v) l.length):Nat):Int)
def aes:fV aG:=bU 234 (a2 qF iA) iA (fun p=>o8 p.1 p.2) (fun p=>[p.1.length<=ah]) aep
theorem alZ:Gd aes:=alX.add fun n hO p hp=>aN hO (.zh (fun h=>.w (kX (alY hO p.1 p.2 (hp _ iC)) () h) .rr) fun h=>.w (kY (alY hO p.1 p.2 (hp _ iC)) 0 h) .rr)
def aeu:fV aG:=bU 223 (a2 (a7M (a2 qF qF)) iA) iA (fun p=>o8 p.1.2 p.2) (fun p=>[p.1.2.length<=ah]) aes
theorem am0:Gd aeu:=alZ.add fun n hO p hp=>aN hO (.o (hp _ iC) .rr)
def aev:fV aG:=bU 197 (a1 iA) iA (fun p=>i64.wrap (-1-p)) np aeu
theorem am1:Gd aev:=am0.add fun n hO p hp=>aN hO .rr
structure Lo where
 s:LI0
 o:LI0
 d:Dg
abbrev Lo.ps(l:Lo):List (PV aG):=[.dw 3 l.s false,.dw 3 l.o false]++l.d.ps
def loA:Arg Lo:=agm (a7M (Nq qF (Nq qF (Nq qF (a4 qF vsA aby iA))))) (fun p=>⟨p.1,p.2.1,⟨p.2.2.1,p.2.2.2.1,p.2.2.2.2.1,p.2.2.2.2.2.1,p.2.2.2.2.2.2⟩⟩) (fun l=>(l.s,l.o,l.d.aj,l.d.aB,l.d.aK,l.d.au,l.d.root)) fun _=>rfl
def qK(l:Lo)(Ah below Ns:Int):Bool:=if decide (Ah<0)=true then decide (i64.wrap (-1-Ah)<(l.d.aK.length:Int))else if decide (Ah<below)=true then decide (o8 l.o (l.d.au.getD Ah.toNat lD).var>Ns)else false
def YF:fV aG:=bU 193 (a4 loA iA iA iA) tA (fun p=>qK p.1 p.2.1 p.2.2.1 p.2.2.2) (fun p=>[p.1.o.length<=ah,0<=p.2.1->p.2.1<p.2.2.1->gV p.2.1 p.1.d.au.length]) aev
theorem am2:Gd YF:=am1.add fun n hO p hp=>aN hO (.sh (fun _=>.rr) fun h=>.sh (fun h2=>.o (hp (0<=p.2.1->p.2.1<p.2.2.1->gV p.2.1 p.1.d.au.length) (.tail _ (.head _)) (by simpa using h) (by simpa using h2)) (.o (hp _ iC) .rr)) fun _=>.rr)
abbrev Hb(l:Lo)(i:Int)(b:Br):List (PB aG):=[.cells l.ps,.cells [.int .i64 i],.cells b.ps]
theorem ard{n f:Nat}{a c:List (PV aG)}{H:List (PB aG)}{g}(l:LI0)(hf:∀x∈l,jf n (.fn f a c) [.int .i64 x] H (.bool (g x)) H)(hl:l.length<=ah):jf (n+1) (.fn 218 [] []) [.dw 3 l false,.fn f a c] H (iA.put (sS g l)) H:=by
 have lp:Ob n 218 0 H.length (a8h f a c H l 0 []) (z218 f a c H l (lZ (qE g) l 0 ())).1 (z218 f a c H l (lZ (qE g) l 0 ())).2:=
  Y5 (st:=fun i _=>a8h f a c H l i []) (0:Int) (fun _ _=>True) (by kernel_rfl) hl Uk trivial (fun k s n hk _ ih=>aP gK (.b (bD hk) (.o (aH hk) (.k (hf (l.getD k (0:Int)) (dF hk)) (.ls (.ou nofun) (.nx (ih _ trivial))))))) (fun s _=>aP gK (.b (fC l.length) (.ou nofun)))
 exact jF gK (first:=[]) (cap:=[]) (.szh (fun h=>.w (kX lp () h) .sr) (fun h=>.w (kY lp (0,0,()) h) .sr))
theorem am3{n f:Nat}{a c:List (PV aG)}{H:List (PB aG)}{g}(l:LI0)(hf:∀x∈l,jf n (.fn f a c) [.int .i64 x] H (.bool (g x)) H)(hl:l.length<=ah):jf (n+2) (.fn 181 [] []) [.dw 3 l false,.fn f a c] H (tA.put (l.any g)) H:=by have h1:=ard l hf hl;have h2:=EY g l;rw[<-h2];exact jF gK (first:=[]) (cap:=[]) (.k h1 .sr)
theorem F9{α:Type}(l:List α)(g):(!(l.any fun x=>!(g x)))=l.all g:=by
 induction l with
 |nil=>rfl
 |cons a l ih=>simp only[aer,aco,Bool.not_or,Bool.not_not,ih]
abbrev pB:List (PV aG):=[.ptr 0 0 7,.ptr 1 0 1,.ptr 2 0 2]
theorem arf{n f:Nat}{l i b g}(ks:LI0)(hf:∀x∈ks,jf n (.fn f [] pB) [.int .i64 x] (Hb l i b) (tA.put (g x)) (Hb l i b))(hl:ks.length<=ah):jf (n+4) (.fn 191 [] []) [.dw 3 ks false,.fn f [] pB] (Hb l i b) (tA.put (ks.all g)) (Hb l i b):=by
 have h1:∀x∈ks,jf (n+1) (.fn 221 [] [.ptr 3 0 1]) [.int .i64 x] (Hb l i b++[.cells [.fn f [] pB]]) (tA.put (!(g x))) (Hb l i b++[.cells [.fn f [] pB]]):=fun x hx=>
  jF gK (first:=[]) (.fr [0,1,2] (hf x hx) .sr)
 have h2:=am3 ks h1 hl;rw[<-F9 ks g];exact dI.drop hX (DW hX gK (first:=[]) (cap:=[]) (H1:=Hb l i b++[.cells [.fn f [] pB]]) (by kernel_rfl) (.k h2 .sr)) rfl rfl
theorem a2S{x a b}:nR [x] a b=decide (a<=x/\x<=b):=by
 unfold nR wW;simp only[aer,List.any_nil,Bool.or_false];by_cases h:x<a
 .rw[a18 (by simpa using h),aac,eq_comm,a3L];omega
 rw[a0U (by simpa using h),a5R,a9c,a3L,a1F];omega
theorem YG{l:List Br}{k}(h:k<l.length):l.getD k lD∈l:=by simp[List.getD,a0N h]
abbrev yg(l:Lo)(i:Int):Br:=l.d.au.getD i.toNat lD
def Hf(l:Lo)(i:Int):Bool:=if(!(nR [(yg l i).var] 0 (xw l.s)))=true then false else if(((yg l i).aA.length:Int) != l.s.getD (yg l i).var.toNat 0)=true then false else(yg l i).aA.all fun x=>qK l x i (o8 l.o (yg l i).var)
theorem am4{n}(hO:∀m,n<=m->Ok m YF){l i}(ho:l.o.length<=ah)(hf:wo l.s)(hi:gV i l.d.au.length):jf (n+6) (.fn 192 [.agg l.ps] []) [.int .i64 i] [] (tA.put (Hf l i)) []:=by
 have h1:∀x∈(yg l i).aA,jf (n+1) (.fn 222 [] pB) [.int .i64 x] (Hb l i (yg l i)) (tA.put (qK l x i (o8 l.o (yg l i).var))) (Hb l i (yg l i)):=fun x _=>
  jF (hO n (a1p _)) (first:=[]) (.o ho (.o ho (.o (show 0<=x->x<i->gV x l.d.au.length from fun h0 h1=>⟨h0,by have:=hi.1;have:=hi.2;omega⟩) .sr)))
 have hv:(!(nR [(yg l i).var] 0 (xw l.s)))=false->gV (yg l i).var l.s.length:=fun h=>by rw[a2S,abN,a1F,a8j hf.akm]at h;exact⟨h.1,by omega⟩
 have hk:(!(nR [(yg l i).var] 0 (xw l.s)))=false->(((yg l i).aA.length:Int) != l.s.getD (yg l i).var.toNat 0)=false->(yg l i).aA.length<=ah:=fun h h2=>by
  have h3:=hv h;have h4:=hf.sz _ (dF (s:=l.s) (k:=(yg l i).var.toNat) (by have:=h3.2;have:=h3.1;omega));have h2:((yg l i).aA.length:Int)=l.s.getD (yg l i).var.toNat 0:=by simpa using h2
  exact Yu (by omega)
 exact dI.drop hX (DW hX (hO (n+5) (by omega)) (first:=[.agg l.ps]) (cap:=[]) (H1:=Hb l i (yg l i)++[.list true true 3 [(yg l i).var]]) (by kernel_rfl) (.o hi (.o (YE (yg l i).var) (.ssh (fun _=>.sr) fun h5=>.o (hv h5) (.ssh (fun _=>.sr) fun h6=>.fr [0,1,2] (arf (yg l i).aA h1 (hk h5 h6)) .sr))))) rfl rfl
abbrev a5a(f:Nat)(a:List (PV aG)):List (PB aG):=[.cells [.fn f a []]]
theorem am5{n}{l:Lo}{g}(ks:LI0)(hf:∀x∈ks,jf n (.fn 192 [.agg l.ps] []) [.int .i64 x] [] (tA.put (g x)) [])(hl:ks.length<=ah):jf (n+4) (.fn 191 [] []) [.dw 3 ks false,.fn 192 [.agg l.ps] []] [] (tA.put (ks.all g)) []:=by
 have h1:∀x∈ks,jf (n+1) (.fn 221 [] [.ptr 0 0 1]) [.int .i64 x] (a5a 192 [.agg l.ps]) (tA.put (!(g x))) (a5a 192 [.agg l.ps]):=fun x hx=>
  jF gK (first:=[]) (.fr [] (hf x hx) .sr)
 have h2:=am3 ks h1 hl;rw[<-F9 ks g];exact dI.drop hX (DW hX gK (first:=[]) (cap:=[]) (H1:=a5a 192 [.agg l.ps]) (by kernel_rfl) (.k h2 .sr)) rfl rfl
theorem arh{n}(hO:Ok n YF)(l:List V)(hl:l.length<=ah):jf (n+4) (.fn 189 [] []) [.dw 39 l false,.fn 190 [] []] [] (tA.put (l.all qZ)) []:=by
 have h1:∀x:V,jf (n+1) (.fn 220 [] [.ptr 0 0 1]) [.agg x.ps] (a5a 190 []) (tA.put (!(qZ x))) (a5a 190 []):=fun x=>
  jF hO (first:=[]) .sr
 have h2:=agQ (n:=n+2) (by omega) (g:=fun x=>!(qZ x)) h1 l hl;rw[<-F9 l,<-KN];exact dI.drop hX (DW hX gK (first:=[]) (cap:=[]) (H1:=a5a 190 []) (by kernel_rfl) (.k h2 .sr)) rfl rfl
theorem ari{n}(hO:Ok n YF)(m)(hm:m<=ah):jf n (.fn 159 [] []) [.int .i64 m] [] (qF.put (dS m)) []:=
 nN.a8u hX (hO 159 [.int .i64 m] (qF.put (dS m)) [] [0<=(m:Int),(m:Int)<=(ah:Int)] (by kernel_rfl) (by
  intro q hq;rcases a1G.1 hq with rfl|hq
  .omega
  .rw[a2p.1 hq];omega)) rfl rfl rfl rfl
theorem a2T{x m}(h:x∈dS m):gV x m:=by simp only[dS,a1z,a5D]at h;obtain⟨k,hk,rfl⟩:=h;exact aH hk
abbrev zH(d:Dg):Lo:=⟨d.aj,d.aB,d⟩
abbrev lo0:Lo:=⟨[],[],⟨[],[],[],[],0⟩⟩
def bI(d:Dg):Lo×Int:=if(bg d.aj d.aB != 0)=true then(lo0,bg d.aj d.aB)else if decide ((d.au.length:Int)>6000)=true then(zH d,5)else if(!(d.aK.all qZ))=true then(zH d,4)else if(!((dS d.au.length).all (Hf (zH d))))=true then(zH d,4)else if(!(qK (zH d) d.root d.au.length (-1)))=true then(zH d,4)else(zH d,0)
def Ej:fV aG:=bU 160 (a1 dA) (dJ (a2 loA iA)) (fun p=>bI p) (fun p=>[p.aj.length<=ah,p.aB.length<=2^20,p.aK.length<=ah]) YF
theorem aew:Gd Ej:=am2.deep 11 fun n hn hO d hp=>by
 obtain⟨n,rfl⟩:∃k,n=k+10:=⟨n-10,by omega⟩;have h1:d.aj.length<=ah:=hp _ iC;have h2:d.aB.length<=2^20:=hp _ yC;have h3:d.aK.length<=ah:=hp _ hh2;have ho:d.aB.length<=ah:=by unfold ah;omega
 have hO:∀m,n<=m->Ok m _:=fun m hm=>hO m (by omega);have hI:(bg d.aj d.aB != 0)=false->∀x∈dS d.au.length,jf (n+6) (.fn 192 [.agg (zH d).ps] []) [.int .i64 x] [] (tA.put (Hf (zH d) x)) []:=fun h x hx=>am4 hO (l:=zH d) ho (BI h) (a2T hx);have hR:0<=d.root->d.root<(d.au.length:Int)->gV d.root d.au.length:=fun a b=>⟨a,by omega⟩;have hL:decide ((d.au.length:Int)>6000)=false->(dS d.au.length).length<=ah:=fun h=>by rw[mQ];exact VZ h
 exact aN (hO (n+10) (by omega)) (.o h1 (.o h2 (.sh (fun _=>.rn (.dK [.agg [.nil .aO,.nil .aO,.nil .aO,.nil .aO,.nil .aO,.nil .aO,.int .i64 0],.int .i64 (bg d.aj d.aB)]) rfl) fun h=>.sh (fun _=>.rr) fun h4=>.fr [] (arh (n:=n+6) (hO (n+6) (by omega)) d.aK h3) (.ss .rr (.fr [] (ari (hO (n+10) (by omega)) d.au.length (VZ h4)) (.fr [] (am5 (l:=zH d) (n:=n+6) (dS d.au.length) (hI h) (hL h4)) (.ss .rr (.o ho (.o hR (.ss .rr .rr))))))))))
open Go Tw Pv bV
def Hg(x:Int):Prop:=-(2^63)<=x/\x<2^63
structure FI(d:Dg):Prop where
 Ah:∀i,i<d.au.length->∀k,k<(fE d i).aA.length->Hg ((fE d i).aA.getD k 0)
 root:Hg d.root
 fault:∀v∈d.aK,0<=v.f
theorem mX{n o}(h:ku n o=true){v}(hv:gV v n):v∈o:=by
 unfold ku at h;rw[a1F]at h;obtain⟨h0,h1⟩:=hv;by_cases hc:v∈o
 .exact hc
 have:=aeL (l₁:=v::o) (l₂:=dS n) (a5I.2 ⟨hc,h.2.2⟩) (fun x hx=>by
  have:0<=x/\x<(n:Int):=by
   rcases a1G.1 hx with rfl|hx
   .exact⟨h0,by omega⟩
   exact h.2.1 x hx
  unfold dS;rw[a1z];exact⟨x.toNat,by rw[a5D];omega,by omega⟩)
 rw[mQ]at this;simp at this;omega
theorem tC{l:LI0}{k}(h):l.getD k 0=l[k]:=by simp[List.getD,a0N h]
theorem a2U{l v}(h:v∈l):jS (bH (cIx l v) l.length)=false:=by
 cases e:jS (bH (cIx l v) l.length)
 .rfl
 obtain⟨j,hj,e2⟩:=a5Q.1 h;have:=dD.1 e j hj;simp[cIx,List.getD,a0N hj,e2]at this
theorem a8z{d r}:QB d r=cIx d.aB (ay d r).var:=by funext k;exact BEq.comm
theorem Wi{d r}(h0:0<=r)(h:(ay d r).var∈d.aB):uP d r=o8 d.aB (ay d r).var:=by unfold uP o8;rw[a0U (by rw[a1F];omega),a8z,a2U h,a0U (by decide),a0U (by decide)]
theorem am6{l v}(h:v∈l):o8 l v<(l.length:Int):=by unfold o8;rw[a2U h,a0U (by simp)];obtain⟨j,h1,_,_,h2⟩:=BD (a2U h);rw[h2];show(j:Int)<_;omega
theorem QE{x a b}:nR [x] a b=oP x a b:=by rw[a2S,a5R,wP,a1F]
theorem a8A{v}(h:0<=v.f):qZ v=vOk v:=by rw[agT h];unfold qZ vIs;rw[QE]
theorem ah4{z}(h:Hg z):i64.wrap z=z:=by
 obtain⟨h0,h1⟩:=h;simp only[IntKind.wrap,IntKind.bits,IntKind.signed];rcases Int.lt_or_le z 0 with h|h
 .have:z%(2^64:Int)=z+2^64:=by have:=acE z (2^64) 1;rw[adf]at this;rw[<-this];exact a9b (by omega) (by omega)
  simp only[this];rw[a18 (by simp;omega)];omega
 have:z%(2^64:Int)=z:=a9b h (by omega);simp only[this];rw[a0U (by simp;omega)]
theorem Oc{x}(h:Hg x)(h0:x<0):i64.wrap (-1-x)=-1-x:=by have h1:=h.1;exact ah4 ⟨by omega,by omega⟩
theorem abU{d x}(below)(h:Hg x)(h0:x<0)(he:d.aK.length<=ah):iY d x below=decide (i64.wrap (-1-x)<(d.aK.length:Int)):=by
 have he:d.aK.length<=2^60:=by unfold ah at he;omega
 unfold iY;rw[a0U (by simp;omega),Oc h h0,a5R,wP,a1F];by_cases h1:d.aK.length=0
 .rw[h1,show i64.wrap (((0:Nat):Int)-1)=-1 by decide];omega
 rw[fP (by omega) (by omega)];omega
theorem am7{l v}(h:v∈l):0<=o8 l v:=by unfold o8;rw[a2U h,a0U (by simp)];omega
theorem ah5{d x below Ns}(h0:0<=x)(hv:x<below->(ay d x).var∈d.aB):qK (zH d) x below Ns=(iY d x below&&decide (Ns<uP d x)):=by
 unfold qK iY;rw[a0U (show ¬(decide (x<0)=true) by rw[a1F];omega),a18 (show decide (x>=0)=true by rw[a1F];omega)];by_cases h1:x<below
 .rw[a18 (show decide (x<below)=true by rw[a1F];exact h1),Wi h0 (hv h1),decide_eq_true h1,aei]
 rw[a0U (show ¬(decide (x<below)=true) by rw[a1F];exact h1),afk h1,Bool.false_and]
theorem ah6{d x below Ns}(h:Hg x)(h0:x<0)(he:d.aK.length<=ah)(hr:Ns<(d.aB.length:Int)):qK (zH d) x below Ns=(iY d x below&&decide (Ns<uP d x)):=by rw[abU _ h h0 he];unfold qK uP;rw[a18 (by rw[a1F];exact h0),a18 (by rw[a1F];exact h0),decide_eq_true hr,aiB]
theorem a8B{d x below Ns}(h:Hg x)(he:d.aK.length<=ah)(hr:Ns<(d.aB.length:Int))(hv:0<=x->x<below->(ay d x).var∈d.aB):qK (zH d) x below Ns=(iY d x below&&decide (Ns<uP d x)):=by
 by_cases h0:0<=x
 .exact ah5 h0 (hv h0)
 exact ah6 h (by omega) he hr
theorem a8C{d}(h:FI d)(he:d.aK.length<=ah)(hv:∀r,gV r d.au.length->(ay d r).var∈d.aB):qK (zH d) d.root d.au.length (-1)=iY d d.root d.au.length:=by
 rw[a8B h.root he (by omega) (fun a b=>hv _ ⟨a,by omega⟩)];cases e:iY d d.root d.au.length
 .rfl
 rw[aei,a1F];by_cases h0:0<=d.root
 .have:=Yy e h0 (a1p _);rw[Wi h0 (hv _ this)];have:=am7 (hv _ this);omega
 unfold uP;rw[a18 (by rw[a1F];omega)];omega
theorem aex{d}(h:FI d)(he:d.aK.length<=ah){i}(hi:i<d.au.length)(hf:wo d.aj)(ho:ku d.aj.length d.aB=true)(hv:∀j,j<i->(fE d j).var∈d.aB):Hf (zH d) i=!(cLn d i):=by
 have e0:yg (zH d) i=fE d i:=rfl;unfold Hf cLn;rw[e0];show(if(!(nR [(fE d i).var] 0 (xw d.aj)))=true then false else if(((fE d i).aA.length:Int) != d.aj.getD (fE d i).var.toNat 0)=true then false else _)=_;rw[QE];cases e1:oP (fE d i).var 0 (xw d.aj)
 .rfl
 have hvi:(fE d i).var∈d.aB:=mX ho (KU hf e1);have arj:(ay d (i:Int)).var∈d.aB:=hvi;simp only[aac,a3F,a3V];split
 .rfl
 have Gx:((fE d i).aA.all fun x=>qK (zH d) x i (o8 (zH d).o (fE d i).var))=jS (bH (cLk d i) (fE d i).aA.length):=by
  rw[a5R,a5L,dD];have hk:∀k,k<(fE d i).aA.length->(qK (zH d) ((fE d i).aA.getD k 0) i (o8 d.aB (fE d i).var)=true↔cLk d i k=false):=fun k hk=>by
   rw[a8B (h.Ah i hi k hk) he (am6 hvi) (fun a b=>hv _ (by omega)),a2K,a1F];unfold cLk;rw[show uP d (i:Int)=o8 d.aB (fE d i).var from Wi (by omega) arj];cases iY d ((fE d i).aA.getD k 0) i
   .simp
   simp<;>omega
  constructor
  .intro a k LX;exact(hk k LX).1 (a _ (dF LX))
  intro a x hx;obtain⟨k,LX,rfl⟩:=a5Q.1 hx;have:=(hk k LX).2 (a k LX);rw[tC LX]at this;exact this
 rw[Gx];cases jS (bH (cLk d i) (fE d i).aA.length)<;>rfl
theorem ah7{d}(h:FI d)(he:d.aK.length<=ah)(hf:wo d.aj)(ho:ku d.aj.length d.aB=true):(dS d.au.length).all (Hf (zH d))=jS (bH (cLn d) d.au.length):=by
 have am8:∀i,cLn d i=false->(fE d i).var∈d.aB:=fun i hc=>by
  unfold cLn at hc;split at hc
  .cases hc
  rename_i e;exact mX ho (KU hf (by simpa using e))
 have key:∀i,i<=d.au.length->((∀j,j<i->Hf (zH d) j=true)↔∀j,j<i->cLn d j=false):=by
  intro i
  induction i with
  |zero=>intro _;exact⟨fun _ j hj=>absurd hj (by omega),fun _ j hj=>absurd hj (by omega)⟩
  |succ i ih=>
   intro hi;have ih:=ih (by omega);constructor
   .intro a;have b:=ih.1 fun j hj=>a j (by omega);intro j hj;by_cases hji:j<i
    .exact b j hji
    have:j=i:=(by omega);subst this;have:=a j (by omega);rw[aex h he (by omega) hf ho (fun k hk=>am8 k (b k hk))]at this;simpa using this
   intro b j hj;by_cases hji:j<i
   .exact ih.2 (fun k hk=>b k (by omega)) j hji
   have:j=i:=(by omega);subst this;rw[aex h he (by omega) hf ho (fun k hk=>am8 k (b k (by omega))),b j (by omega)];rfl
 rw[a5R,a5L,dD,<-key _ (a1p _)];constructor
 .intro a j hj;exact a _ (by unfold dS;rw[a1z];exact⟨j,a5D.2 hj,rfl⟩)
 intro a x hx;simp only[dS,a1z,a5D]at hx;obtain⟨k,hk,rfl⟩:=hx;exact a k hk
theorem abV{d}(h:∀v∈d.aK,0<=v.f):d.aK.all qZ=jS (bH (cLe d) d.aK.length):=by
 rw[a5R,a5L,dD];have hg:∀k,(hk:k<d.aK.length)->d.aK.getD k V0=d.aK[k]:=fun k hk=>by simp[List.getD,a0N hk]
 constructor
 .intro a k hk;unfold cLe;rw[hg k hk,<-a8A (h _ (a5K hk)),a _ (a5K hk)];rfl
 intro a x hx;obtain⟨k,hk,rfl⟩:=a5Q.1 hx;have:=a k hk;unfold cLe at this;rw[hg k hk,<-a8A (h _ hx)]at this;simpa using this
theorem KY{d}(h:FI d)(he:d.aK.length<=ah):bI d=(if(bg d.aj d.aB != 0)=true then lo0 else zH d,bn d):=by
 unfold bI bn;split
 .rfl
 rename_i h1;have Rx:=iR.1 (show bg d.aj d.aB=0 by simpa using h1);split
 .rfl
 unfold mV;rw[abV h.fault,ah7 h he Rx.1 Rx.2];cases e1:jS (bH (cLe d) d.aK.length)
 .rfl
 cases e2:jS (bH (cLn d) d.au.length)
 .rfl
 have hv:∀r,gV r d.au.length->(ay d r).var∈d.aB:=fun r hr=>by
  have:=dD.1 e2 r.toNat (by have:=hr.1;have:=hr.2;omega);unfold cLn at this;split at this
  .cases this
  rename_i e;exact mX Rx.2 (KU Rx.1 (by simpa using e))
 rw[a8C h he hv];simp only[aac,a3F,a3V,a2r];cases iY d d.root d.au.length<;>rfl
open Go Tw Pv bV
def kV:qc X0 Qp 39 V where
 pv x:=.agg x.ps
 tv x:=x.tv
 v x:=.agg #[.int .u8 x.f,.int .i64 x.n]
 hp _:=rfl
 ht _:=rfl
 hc em x:=by kernel_rfl
 hf x l:=a2C agU (fun a b=>a2M 9998 a b) x l
 hk:=a2E agU fun a b=>a2M 9998 a b
def kI:qc X0 Qp 3 Int where
 pv x:=.int .i64 x
 tv x:=.int .i64 x
 v x:=.int .i64 x
 hp _:=rfl
 ht _:=rfl
 hc em x:=by kernel_rfl
 hf x l:=agC a4R x l
 hk:=agD a4R
abbrev Aj(E:List V):List (V×PV X0.Γ):=E.zipIdx.map fun e=>(e.1,.int .i64 (e.2:Nat))
abbrev mkC(a b:LI0)(e n:Nat)(r:Int):PB aG:=.cells [.dw 3 a false,.dw 3 b false,.own 0,.own 1,.own e,.own n,.int .i64 r,.map 2,.map 3]
abbrev Ry(l:List V):PB aG:=.list false false 39 l
abbrev Rz(l:List Br):PB aG:=.list false false 105 l
abbrev MK(a b:LI0)(E:List V)(nd:List Br)(r:Int)(nm:List (PV aG×PV aG)):List (PB aG):=[.list false false 3 a,.list false false 3 b,.map (kV.es (Aj E)),.map nm,mkC a b 5 6 r,Ry E,Rz nd]
abbrev MK'(a b:LI0)(E:List V)(nd:List Br)(r:Int)(nm:List (PV aG×PV aG)):List (PB aG):=[.list false false 3 a,.list false false 3 b,.map (kV.es (Aj E)),.map nm,mkC a b 7 8 r,.gone,.gone,Ry E,Rz nd]
theorem Us(E):(Aj E).map (·.1)=E:=by unfold Aj;rw[a8l];show E.zipIdx.map (·.1)=E;simp
theorem a8D(E v):Aj (E++[v])=Aj E++[(v,.int .i64 (E.length:Nat))]:=by unfold Aj;rw[List.zipIdx_append,a4V];simp
theorem a8E{E v}(h:v∈E):(v,(.int .i64 (E.idxOf v:Nat):PV X0.Γ))∈Aj E:=by unfold Aj;rw[a1z];have hl:=a5P.2 h;exact⟨(v,E.idxOf v),by rw[aau];simp[a0N hl],rfl⟩
def gG(E:List V)(v:V):List V:=if v∈E then E else E++[v]
theorem Wj{E v}(h:E.Nodup):(gG E v).Nodup:=by
 unfold gG;split
 .exact h
 rename_i hn;rw[a9M];exact⟨h,by simp,fun x hx y hy=>by rw[a2p]at hy;subst hy;intro e;subst e;exact hn hx⟩
theorem ark{n}(hO:Ok n Ej){a b E nd r nm}(v)(hE:E.Nodup)(hl:E.length+1<=ah):jf (n+1) (.fn 196 [] []) [.ptr 4 0 9,.agg v.ps] (MK a b E nd r nm) (.int .i64 (i64.wrap (-1-(E.idxOf v:Nat)))) (MK' a b (gG E v) nd r nm):=by
 by_cases h:v∈E
 .rw[show gG E v=E from a18 h];have hf:qM X0 Qp 39 (kV.es (Aj E)) v.tv (.int .i64 (E.idxOf v:Nat)):=kV.found (by rw[Us];exact hE) (a8E h);exact dI.gs hX (nY hX hO (first:=[]) (cap:=[]) (v:=.int .i64 (i64.wrap (-1-(E.idxOf v:Nat)))) (H1:=MK a b E nd r nm) (by kernel_rfl) (.c (.int .i64 (E.idxOf v:Nat)) [] hf (.b aiJ .er))) [.mv 5,.mv 6] rfl
 rw[show gG E v=E++[v]from a0U h,a9E h];have hf:oH X0 Qp 39 (kV.es (Aj E)) v.tv:=kV.fresh (by rw[Us];exact h);have em:kV.es (Aj (E++[v]))=kV.es (Aj E)++[(.agg v.ps,.int .i64 (E.length:Nat))]:=by rw[a8D];exact a4V ..
 show dI X0 Qp _ _ _ _ _ [_,_,.map (kV.es (Aj (E++[v]))),_,_,_,_,_,_];rw[em];exact dI.gs hX (nY hX hO (first:=[]) (cap:=[]) (v:=.int .i64 (i64.wrap (-1-(E.length:Nat)))) (H1:=[.list false false 3 a,.list false false 3 b,.map (kV.es (Aj E)++[(.agg v.ps,.int .i64 (E.length:Nat))]),.map nm,mkC a b 8 6 r,.gone,Rz nd,.list true true 39 [v],Ry (E++[v])]) (by kernel_rfl) (.a .calm (.o hf (.b aiK (.a .calm (.o (kV.ck v) (.o hf (.o (show E.length+[v].length<=ah by simpa using hl) .er)))))))) [.mv 6,.gc [8,9]] rfl
open Go Tw Pv bV
abbrev oI(k ex:Bool)(l:LI0):PB aG:=.list k ex 3 l
abbrev wOI(f:Nat)(a c:List (PV aG))(k ex:Bool)(R:List (PB aG))(l:LI0)(i:Int)(x:List (Nat×PE aG)):bT aG:=⟨[(0,.val (.own 0)),(1,.val (.fn f a c)),(7,xi l.length),(8,xi i)]++x,[],oI k ex l::R⟩
def zOI(f:Nat)(a c:List (PV aG))(k ex:Bool)(R:List (PB aG))(l:LI0):Unit⊕(Nat×Int×Unit)->Ex×bT aG
 |.inl _=>(.exit 0,wOI f a c k ex R l l.length [(9,xl false)])
 |.inr r=>(.ret,⟨[(4,xi r.1)],[],oI k ex l::R⟩)
theorem qoI{n f:Nat}{a c:List (PV aG)}{ko ex}{R:List (PB aG)}{g}(l)(hf:∀x∈l,jf n (.fn f a c) [.int .i64 x] (oI ko ex l::R) (.bool (g x)) (oI ko ex l::R))(hl:l.length<=ah):jf (n+1) (.fn 218 [] []) [.own 0,.fn f a c] (oI ko ex l::R) (iA.put (sS g l)) (oI ko ex l::R):=by
 have lp:Ob n 218 0 (R.length+1) (wOI f a c ko ex R l 0 []) (zOI f a c ko ex R l (lZ (qE g) l 0 ())).1 (zOI f a c ko ex R l (lZ (qE g) l 0 ())).2:=
  Y5 (st:=fun i _=>wOI f a c ko ex R l i []) (0:Int) (fun _ _=>True) (by kernel_rfl) hl Uk trivial (fun k s n hk _ ih=>aP gK (.b (bD hk) (.o (aH hk) (.k (hf (l.getD k (0:Int)) (dF hk)) (.ls (.ou nofun) (.nx (ih _ trivial))))))) (fun s _=>aP gK (.b (fC l.length) (.ou nofun)))
 exact jF gK (first:=[]) (cap:=[]) (.szh (fun h=>.w (kX lp () h) .sr) (fun h=>.w (kY lp (0,0,()) h) .sr))
theorem qoC{n f:Nat}{a c:List (PV aG)}{ko ex}{R:List (PB aG)}{g}(l)(hf:∀x∈l,jf n (.fn f a c) [.int .i64 x] (oI ko ex l::R) (.bool (g x)) (oI ko ex l::R))(hl:l.length<=ah):jf (n+2) (.fn 181 [] []) [.own 0,.fn f a c] (oI ko ex l::R) (tA.put (l.any g)) (oI ko ex l::R):=by have h1:=qoI l hf hl;have h2:=EY g l;rw[<-h2];exact jF gK (first:=[]) (cap:=[]) (.k h1 .sr)
abbrev Hk(k ex:Bool)(l:LI0):List (PB aG):=[oI k ex l,.cells [.own 0]]
theorem qoA{n f:Nat}{ko ex g}(l)(hf:∀x∈l,jf n (.fn f [] [.ptr 1 0 1]) [.int .i64 x] (Hk ko ex l) (tA.put (g x)) (Hk ko ex l))(hl:l.length<=ah):jf (n+4) (.fn 191 [] []) [.own 0,.fn f [] [.ptr 1 0 1]] (Hk ko ex l) (tA.put (l.all g)) (Hk ko ex l):=by
 have h1:∀x∈l,jf (n+1) (.fn 221 [] [.ptr 2 0 1]) [.int .i64 x] (Hk ko ex l++[.cells [.fn f [] [.ptr 1 0 1]]]) (tA.put (!(g x))) (Hk ko ex l++[.cells [.fn f [] [.ptr 1 0 1]]]):=fun x hx=>
  jF gK (first:=[]) (.fr [0,1] (hf x hx) .sr)
 have h2:=qoC (R:=[.cells [.own 0],.cells [.fn f [] [.ptr 1 0 1]]]) l h1 hl;rw[<-F9 l g];exact dI.drop hX (DW hX gK (first:=[]) (cap:=[]) (H1:=Hk ko ex l++[.cells [.fn f [] [.ptr 1 0 1]]]) (by kernel_rfl) (.k h2 .sr)) rfl rfl
theorem a8F{n ko ex}(l)(hl:l.length<=ah):jf (n+5) (.fn 191 [] []) [.own 0,.fn 224 [] [.ptr 1 0 1]] (Hk ko ex l) (tA.put (l.all fun x=>x==l.getD 0 0)) (Hk ko ex l):=
 qoA (n:=n+1) l (fun x hx=>jF gK (first:=[]) (.o (show gV 0 l.length from⟨by omega,by have:=List.length_pos_of_mem hx;omega⟩) .sr)) hl
theorem a8G:∀l:LI0,l.length=12->∃a0 a1 a2 a3 a4 a5 a6 a7 a8 a9 a10 a11,l=[a0,a1,a2,a3,a4,a5,a6,a7,a8,a9,a10,a11]
 | [a0,a1,a2,a3,a4,a5,a6,a7,a8,a9,a10,a11],_=>⟨a0,a1,a2,a3,a4,a5,a6,a7,a8,a9,a10,a11,rfl⟩
 | [],h=>by simp at h
 | [_],h=>by simp at h
 | [_,_],h=>by simp at h
 | [_,_,_],h=>by simp at h
 | [_,_,_,_],h=>by simp at h
 | [_,_,_,_,_],h=>by simp at h
 | [_,_,_,_,_,_],h=>by simp at h
 | [_,_,_,_,_,_,_],h=>by simp at h
 | [_,_,_,_,_,_,_,_],h=>by simp at h
 | [_,_,_,_,_,_,_,_,_],h=>by simp at h
 | [_,_,_,_,_,_,_,_,_,_],h=>by simp at h
 | [_,_,_,_,_,_,_,_,_,_,_],h=>by simp at h
 |_::_::_::_::_::_::_::_::_::_::_::_::_::_,h=>by simp at h
abbrev Ky:=Int×{l:LI0 // l.length=12}
abbrev Ky.l(x:Ky):LI0:=x.1::x.2.val
theorem QF:∀l:LI0,iV (Γ:=aG) (l.map fun x=>PV.int .i64 x)=some (l.map fun x=>TV.int .i64 x)
 | []=>rfl
 |a::l=>by simp only[a4W,iV,rZ,QF l]
theorem Ut:∀l:LI0,TV.UL (l.map fun x=>TV.int .i64 x)=some (l.map fun x=>Value.int .i64 x)
 | []=>rfl
 |a::l=>by simp only[a4W,TV.UL,TV.toC,Ut l]
theorem ah8 : Tryz.prog.underlying 223 = some (.struct #[⟨"choice", 3, 0, false, "", "mist/node", 0⟩, ⟨"kids", 221, 1, false, "", "mist/node", 8⟩]) := by kernel_rfl
theorem aez(d)(a b:Ky):aC Qp (Op.equalIn (d+3) 223 (.agg (E8 .i64 a.l)) (.agg (E8 .i64 b.l)))=some (decide (a=b)):=by
 obtain⟨a1,a2,ha⟩:=a;obtain⟨b1,b2,hb⟩:=b;rw[yU (d+2) 223 _ _ _ ah8 (by kernel_rfl)];have gI:aC Qp (isAgg 3)=some false:=by kernel_rfl
 have gA:aC Qp (isAgg 221)=some true:=by kernel_rfl
 have sA:aC Qp (sizeOf 221)=some 12:=by kernel_rfl
 have sI:aC Qp (sizeOf 3)=some 1:=by kernel_rfl
 have p0:∀x l,aC Qp (part 3 (E8 .i64 (x::l)) 0)=some (.int .i64 x):=fun x l=>E5 gI (Qm (l:=x::l) (by simp));have p1:∀x l,l.length=12->aC Qp (part 221 (E8 .i64 (x::l)) 1)=some (.agg (E8 .i64 l)):=fun x l h=>by
  obtain⟨a0,a1,a2,a3,a4,a5,a6,a7,a8,a9,a10,a11,rfl⟩:=a8G l h
  kernel_rfl
 have q1 := pU (f := ⟨"choice", 3, 0, false, "", "mist/node", 0⟩) (fs := [⟨"kids", 221, 1, false, "", "mist/node", 8⟩]) (by decide) (p0 a1 a2) (p0 b1 b2) (sD (d + 1) _ .i64 _ a1 b1 a4R);have q2 := pU (f := ⟨"kids", 221, 1, false, "", "mist/node", 8⟩) (fs := []) (by decide) (p1 a1 a2 ha) (p1 b1 b2 hb) (CG d (k := .i64) (t := 221) (by kernel_rfl) sI a4R gI ha hb);rw[q1,q2];rw[show aC Qp (Op.eqFields (d+2) (E8 .i64 (a1::a2)) (E8 .i64 (b1::b2)) [])=some true from rfl];by_cases h1:a1=b1<;>by_cases h2:a2=b2<;>simp[h1,h2]
def kK:qc X0 Qp 223 Ky where
 pv x:=.agg (x.l.map fun i=>.int .i64 i)
 tv x:=.agg (x.l.map fun i=>.int .i64 i)
 v x:=.agg (E8 .i64 x.l)
 hp x:=congrArg (Option.map TV.agg) (QF x.l)
 ht x:=congrArg (Option.map fun vs:List LI3=>Value.agg vs.toArray) (Ut x.l)
 hc em x:=by
  obtain⟨c,l,h⟩:=x;obtain⟨a0,a1,a2,a3,a4,a5,a6,a7,a8,a9,a10,a11,rfl⟩:=a8G l h
  kernel_rfl
 hf x l:=a2C ah8 (fun a b=>aez 9997 a b) x l
 hk:=a2E ah8 (fun a b=>aez 9997 a b)
open Go Tw Pv bV
def Jj(l:LI0):LI0:=(l++[0,0,0,0,0,0,0,0,0,0,0,0]).take 12
theorem a8H(l):(Jj l).length=12:=by unfold Jj;simp
def uQ(c:Int)(ks:LI0):Ky:=(c,⟨Jj ks,a8H ks⟩)
abbrev Dc(b:Br):Ky:=uQ b.var b.aA
abbrev zF(nd:List Br):List (Ky×PV X0.Γ):=nd.zipIdx.map fun e=>(Dc e.1,.int .i64 (e.2:Nat))
theorem Uu(nd):(zF nd).map (·.1)=nd.map Dc:=by unfold zF;rw[a8l];show nd.zipIdx.map (Dc∘fun e=>e.1)=_;rw[<-a8l];simp
theorem a8I(nd b):zF (nd++[b])=zF nd++[(Dc b,.int .i64 (nd.length:Nat))]:=by unfold zF;rw[List.zipIdx_append,a4V];simp
theorem a8J{nd k}(h:k∈nd.map Dc):(k,(.int .i64 ((nd.map Dc).idxOf k:Nat):PV X0.Γ))∈zF nd:=by
 have hl:=a5P.2 h;have SL:(nd.map Dc).idxOf k<nd.length:=by simpa using hl
 unfold zF;rw[a1z];refine⟨(nd[(nd.map Dc).idxOf k],(nd.map Dc).idxOf k),by rw[aau];simp[a0N SL],?_⟩;have:=a9I hl;rw[aa9]at this;show(Dc _,_)=_;rw[this]
def dG(nd:List Br)(c:Int)(ks:LI0):List Br:=if(ks.all fun x=>x==ks.getD 0 0)=true then nd else if uQ c ks∈nd.map Dc then nd else nd++[⟨c,ks⟩]
def eG(nd:List Br)(c:Int)(ks:LI0):Int:=if(ks.all fun x=>x==ks.getD 0 0)=true then ks.getD 0 0 else((nd.map Dc).idxOf (uQ c ks):Nat)
abbrev MN(a b:LI0)(E:List V)(nd:List Br)(r:Int):List (PB aG):=MK a b E nd r (kK.es (zF nd))
abbrev MNg(a b:LI0)(E:List V)(nd:List Br)(r:Int)(nm:List (PV aG×PV aG)):List (PB aG):=[.list false false 3 a,.list false false 3 b,.map (kV.es (Aj E)),.map nm,mkC a b 8 9 r,.gone,.gone,.gone,Ry E,Rz nd]
abbrev MN'(a b:LI0)(E:List V)(nd:List Br)(r:Int):List (PB aG):=MNg a b E nd r (kK.es (zF nd))
theorem ah9{n}(hO:Ok (n+5) Ej){a b E nd r}(c ks)(hk:1<=ks.length/\ks.length<=12)(hf:(ks.all fun x=>x==ks.getD 0 0)=true):jf (n+6) (.fn 198 [] []) [.ptr 4 0 9,.int .i64 c,.own 7] (MN a b E nd r++[oI true true ks]) (.int .i64 (ks.getD 0 0)) (MN' a b E nd r):=by have h1:=nY hX hO (first:=[]) (cap:=[]) (xs:=[.ptr 4 0 9,.int .i64 c,.own 7]) (H:=MN a b E nd r++[oI true true ks]) (v:=.int .i64 (ks.getD 0 0)) (H1:=MN a b E nd r++[oI true true ks,.cells [.own 7]]) (f:=198) (by kernel_rfl) (.fr [7,8] (a8F (n:=n) (ko:=true) (ex:=true) ks (Yu hk.2)) (.b hf (.o (show gV 0 ks.length from⟨by omega,by omega⟩) .er)));exact dI.forget (dI.gs hX h1 [.mv 5,.mv 6,.gc [9,10]] rfl) 7
abbrev a8K(c:Int)(ks:LI0):PB aG:=.cells ((Ky.l (uQ c ks)).map fun i=>.int .i64 i)
theorem aha{n}(hO:Ok (n+5) Ej){a b E nd r}(c ks)(hk:1<=ks.length/\ks.length<=12)(hf:(ks.all fun x=>x==ks.getD 0 0)=false)(hN:(nd.map Dc).Nodup)(hm:uQ c ks∈nd.map Dc):jf (n+6) (.fn 198 [] []) [.ptr 4 0 9,.int .i64 c,.own 7] (MN a b E nd r++[oI true true ks]) (.int .i64 ((nd.map Dc).idxOf (uQ c ks):Nat)) (MN' a b E nd r):=by
 have hF:qM X0 Qp 223 (kK.es (zF nd)) (kK.tv (uQ c ks)) (.int .i64 ((nd.map Dc).idxOf (uQ c ks):Nat)):=kK.found (by rw[Uu];exact hN) (a8J hm);have h1:jf (n+6) (.fn 198 [] []) [.ptr 4 0 9,.int .i64 c,.own 7] (MN a b E nd r++[oI true true ks]) (.int .i64 ((nd.map Dc).idxOf (uQ c ks):Nat)) (MN a b E nd r++[oI true true ks,.cells [.own 7],a8K c ks]):=by generalize (nd.map Dc).idxOf (uQ c ks)=j at hF ⊢;generalize zF nd=nm at hF ⊢;obtain⟨k1,k2⟩:=hk;rcases ks with _|⟨x0,_|⟨x1,_|⟨x2,_|⟨x3,_|⟨x4,_|⟨x5,_|⟨x6,_|⟨x7,_|⟨x8,_|⟨x9,_|⟨x10,_|⟨x11,_|⟨x12,_⟩⟩⟩⟩⟩⟩⟩⟩⟩⟩⟩⟩⟩<;>first|(exfalso;simp at k1;done)|(exfalso;simp at k2;omega)|(exact fD hO (first:=[]) (cap:=[]) (.fr [7,8] (a8F (n:=n) (ko:=true) (ex:=true) _ (Yu k2)) (.b hf (.c (.int .i64 (j:Nat)) [] hF (.b aiJ .er)))))
 exact dI.forget (dI.gs hX (dI.forget h1 9) [.mv 5,.mv 6,.gc [10,11]] rfl) 7
theorem ahb{n}(hO:Ok (n+5) Ej){a b E nd r}(c ks)(hk:1<=ks.length/\ks.length<=12)(hf:(ks.all fun x=>x==ks.getD 0 0)=false)(hm:uQ c ks∉nd.map Dc)(hl:nd.length+1<=ah):jf (n+6) (.fn 198 [] []) [.ptr 4 0 9,.int .i64 c,.own 7] (MN a b E nd r++[oI true true ks]) (.int .i64 (nd.length:Nat)) (MN' a b E (nd++[⟨c,ks⟩]) r):=by
 have hF:oH X0 Qp 223 (kK.es (zF nd)) (kK.tv (uQ c ks)):=kK.fresh (by rw[Uu];exact hm);have hC:=kK.ck (uQ c ks);have hL:nd.length+([⟨c,ks⟩]:List Br).length<=ah:=by simpa using hl
 have em:kK.es (zF (nd++[⟨c,ks⟩]))=kK.es (zF nd)++[(kK.pv (uQ c ks),.int .i64 (nd.length:Nat))]:=by rw[a8I];exact a4V ..
 show dI X0 Qp _ _ _ _ _ (MNg a b E (nd++[⟨c,ks⟩]) r (kK.es (zF (nd++[⟨c,ks⟩]))));rw[em];have h1:jf (n+6) (.fn 198 [] []) [.ptr 4 0 9,.int .i64 c,.own 7] (MN a b E nd r++[oI true true ks]) (.int .i64 (nd.length:Nat)) [.list false false 3 a,.list false false 3 b,.map (kV.es (Aj E)),.map (kK.es (zF nd)++[(kK.pv (uQ c ks),.int .i64 (nd.length:Nat))]),mkC a b 5 11 r,Ry E,.gone,.gone,.cells [.own 7],a8K c ks,.list true true 105 [⟨c,ks⟩],Rz (nd++[⟨c,ks⟩])]:=by generalize zF nd=nm at hF ⊢;obtain⟨k1,k2⟩:=hk;rcases ks with _|⟨x0,_|⟨x1,_|⟨x2,_|⟨x3,_|⟨x4,_|⟨x5,_|⟨x6,_|⟨x7,_|⟨x8,_|⟨x9,_|⟨x10,_|⟨x11,_|⟨x12,_⟩⟩⟩⟩⟩⟩⟩⟩⟩⟩⟩⟩⟩<;>first|(exfalso;simp at k1;done)|(exfalso;simp at k2;omega)|(exact fD hO (first:=[]) (cap:=[]) (.fr [7,8] (a8F (n:=n) (ko:=true) (ex:=true) _ (Yu k2)) (.b hf (.q (.bool false) hF (.b aiK (.q (.bool false) hC (.o hF (.o hL .er))))))))
 exact dI.gs hX (dI.forget (dI.forget h1 9) 10) [.mv 5,.gc [12,11]] rfl
theorem amb{n}(hO:Ok (n+5) Ej){a b E nd r}(c ks)(hk:1<=ks.length/\ks.length<=12)(hN:(nd.map Dc).Nodup)(hl:nd.length+1<=ah):jf (n+6) (.fn 198 [] []) [.ptr 4 0 9,.int .i64 c,.own 7] (MN a b E nd r++[oI true true ks]) (.int .i64 (eG nd c ks)) (MN' a b E (dG nd c ks) r):=by
 unfold eG dG;cases hf:ks.all fun x=>x==ks.getD 0 0
 .rw[a0U (by simp),a0U (by simp)];by_cases hm:uQ c ks∈nd.map Dc
  .rw[a18 hm];exact aha hO c ks hk hf hN hm
  rw[a0U hm,a9E hm,a5C];exact ahb hO c ks hk hf hm hl
 rw[a18 rfl,a18 rfl];exact ah9 hO c ks hk hf
theorem Sm{nd c ks}(h:(nd.map Dc).Nodup):((dG nd c ks).map Dc).Nodup:=by
 unfold dG;split
 .exact h
 split
 .exact h
 rename_i hn;rw[a4V,a9M];exact⟨h,by simp,fun x hx y hy=>by simp at hy;subst hy;intro e;subst e;exact hn hx⟩
open Go Tw Pv bV
theorem arn{n}(hO:Ok n Ej)(a b:LI0)(ha:a.length<=ah)(hb:b.length<=ah):jf (n+1) (.fn 194 [] []) [.agg [.dw 3 a false,.dw 3 b false]] [] (.ptr 4 0 9) (MN a b [] [] 0):=
 dI.gs hX (nY hX hO (first:=[]) (cap:=[]) (v:=.ptr 4 0 9) (H1:=[.list false false 3 a,.list false false 3 b,.map [],.map [],.cells [.dw 3 a false,.dw 3 b false,.own 0,.own 1,.nil .aO,.nil .aO,.int .i64 0,.map 2,.map 3]]) (by kernel_rfl) (.o ha (.o hb .er))) [.Vu 4 4 39,.Vu 4 5 105] rfl
structure Cs where
 e:List V
 n:List Br
 k:List (Int×Int)
abbrev Nu(k:List (Int×Int)):List (Int×PV X0.Γ):=k.map fun p=>(p.1,.int .i64 p.2)
abbrev pC:List (PV aG):=[.ptr 8 0 1,.ptr 7 0 7,.ptr 10 0 1,.ptr 11 0 1]
abbrev aeA(l:Lo)(k:List (Int×Int)):List (PB aG):=[.aF l.ps,.aF [.ptr 4 0 9],.map (kI.es (Nu k)),.aF [.map 9],.aF [.fn 195 [] pC]]
abbrev HC(l:Lo)(x:Cs):List (PB aG):=MN l.s l.o x.e x.n 0++aeA l x.k
abbrev HC'(l:Lo)(x:Cs):List (PB aG):=[.list false false 3 l.s,.list false false 3 l.o,.map (kV.es (Aj x.e)),.map (kK.es (zF x.n)),mkC l.s l.o 12 13 0,.gone,.gone]++aeA l x.k++[Ry x.e,Rz x.n]
def pq(d:Dg)(r:Int):V:=d.aK.getD (i64.wrap (-1-r)).toNat V0
def Wn(k:List (Int×Int))(r:Int):Int:=((k.find? fun p=>p.1==r).getD (0,0)).2
def bY(d:Dg):Nat->Int->Cs->Int×Cs
 | 0,_,x=>(0,x)
 |F+1,r,x=>if decide (r<0)=true then(i64.wrap (-1-(x.e.idxOf (pq d r):Nat)),⟨gG x.e (pq d r),x.n,x.k⟩)else if decide (r∈x.k.map (·.1))=true then(Wn x.k r,x)
  else
   let y:=aT (fun j (y:LI0×Cs)=>(y.1.set j (bY d F ((ay d r).aA.getD j 0) y.2).1,(bY d F ((ay d r).aA.getD j 0) y.2).2)) (ay d r).aA.length 0 (List.replicate (ay d r).aA.length 0,x)
   (eG y.2.n (ay d r).var y.1,⟨y.2.e,dG y.2.n (ay d r).var y.1,y.2.k++[(r,eG y.2.n (ay d r).var y.1)]⟩)
structure Em(d:Dg)(x:Cs):Prop where
 e1:x.e.Nodup
 e2:∀v∈x.e,v∈d.aK
 n1:(x.n.map Dc).Nodup
 n2:x.n.length<=x.k.length
 k1:(x.k.map (·.1)).Nodup
 k2:∀a∈x.k.map (·.1),gV a d.au.length
theorem Em.KW{d x}(h:Em d x):x.k.length<=d.au.length:=by have:=Ai _ _ h.k1 h.k2;simpa using this
theorem Em.amc{d x}(h:Em d x):x.e.length<=d.aK.length:=aeL h.e1 h.e2
theorem YH(nd c ks):(dG nd c ks).length<=nd.length+1:=by
 unfold dG;split
 .omega
 split
 .omega
 simp
theorem a2V{k r}(h:r∈k.map (·.1)):(r,Wn k r)∈k:=by
 rw[a1z]at h;obtain⟨p,hp,rfl⟩:=h;unfold Wn;cases e:k.find? fun q=>q.1==p.1 with
 |none=>have:=afz.1 e p hp;simp at this
 |some q=>
  have h1:=List.mem_of_find?_eq_some e;have h2:=List.find?_some e;simp at h2;rw[<-h2];exact h1
theorem a8L{d r}(h:gV (i64.wrap (-1-r)) d.aK.length):pq d r∈d.aK:=by
 have h1:(i64.wrap (-1-r)).toNat<d.aK.length:=by have:=h.1;have:=h.2;omega
 unfold pq;simp[List.getD,a0N h1]
theorem Jk{d}(P:Cs->Prop){F r x}(h:P x)(hs:∀j y,j<(ay d r).aA.length->P y->P (bY d F ((ay d r).aA.getD j 0) y).2) :(aT (fun j (y:LI0×Cs)=>(y.1.set j (bY d F ((ay d r).aA.getD j 0) y.2).1,(bY d F ((ay d r).aA.getD j 0) y.2).2)) (ay d r).aA.length 0 (List.replicate (ay d r).aA.length 0,x)).1.length=(ay d r).aA.length/\P (aT (fun j (y:LI0×Cs)=>(y.1.set j (bY d F ((ay d r).aA.getD j 0) y.2).1,(bY d F ((ay d r).aA.getD j 0) y.2).2)) (ay d r).aA.length 0 (List.replicate (ay d r).aA.length 0,x)).2:=
 dB (g:=fun j (y:LI0×Cs)=>(y.1.set j (bY d F ((ay d r).aA.getD j 0) y.2).1,(bY d F ((ay d r).aA.getD j 0) y.2).2)) (m:=(ay d r).aA.length) (k:=0) (s:=(List.replicate (ay d r).aA.length 0,x)) (fun _ y=>y.1.length=(ay d r).aA.length/\P y.2) ⟨by simp,h⟩ (fun j y _ hj hy=>⟨by simp[hy.1],hs j y.2 (by omega) hy.2⟩)
theorem YI{d}:∀(F) (r s) (x),r<s->s∉x.k.map (·.1)->0<=s->(∀i,i<d.au.length->∀k,k<(fE d i).aA.length->(fE d i).aA.getD k 0<i)->(0<=r->gV r d.au.length)->s∉(bY d F r x).2.k.map (·.1)
 | 0,_,_,_,_,h,_,_,_=>h
 |F+1,r,s,x,hr,h,h0,hk,hn=>by
  unfold bY;by_cases c:r<0
  .rw[a18 (by simpa using c)];exact h
  rw[a0U (by simpa using c)];split
  .exact h
  have hi:=hn (by omega);have ED:∀k,k<(ay d r).aA.length->(ay d r).aA.getD k 0<r:=fun k lK=>by obtain⟨i1,i2⟩:=hi;have h9:(ay d r).aA.getD k 0<(r.toNat:Int):=hk r.toNat (by omega) k lK;omega
  have:=(Jk (d:=d) (fun y=>s∉y.k.map (·.1)) (F:=F) (r:=r) h (fun j y hj hy=>YI F _ s y (by have:=ED j hj;omega) hy h0 hk fun h5=>⟨h5,by have:=hi.2;have:=ED j hj;omega⟩)).2;simp only[a4V,a3N,adk];exact⟨this,by simp;omega⟩
theorem QG{d}(h:D5 d):∀(F) (r) (x),Em d x->jK d r d.au.length->Em d (bY d F r x).2
 | 0,_,_,hx,_=>hx
 |F+1,r,x,hx,hr=>by
  unfold bY;by_cases c:r<0
  .rw[a18 (by simpa using c)];refine⟨Wj hx.e1,fun v hv=>?_,hx.n1,hx.n2,hx.k1,hx.k2⟩;have hv:v∈gG x.e (pq d r):=hv;unfold gG at hv;split at hv
   .exact hx.e2 v hv
   rcases a3N.1 hv with hv|hv
   .exact hx.e2 v hv
   rw[a2p.1 hv];exact a8L (hr.2 c)
  rw[a0U (by simpa using c)];split
  .exact hx
  rename_i c2;have aQ:r.toNat<d.au.length:=by have:=hr.1;omega
  have D6:∀k,k<(ay d r).aA.length->(ay d r).aA.getD k 0<r:=fun k lK=>by have h9:=(h.Ah r.toNat aQ k lK).1;have h9:(ay d r).aA.getD k 0<(r.toNat:Int):=h9;omega
  have hb:=(Jk (d:=d) (fun y=>Em d y/\r∉y.k.map (·.1)) (F:=F) (r:=r) ⟨hx,by simpa using c2⟩ (fun j y hj hy=>by have MW:jK d ((ay d r).aA.getD j 0) d.au.length:=⟨by have:=D6 j hj;have:=hr.1;omega,(h.Ah r.toNat aQ j hj).2⟩;refine⟨QG h F _ y hy.1 MW,YI F _ r y (D6 j hj) hy.2 (by omega) (fun i hi k hk=>(h.Ah i hi k hk).1) (fun h5=>⟨h5,by have:=MW.1;omega⟩)⟩)).2
  obtain⟨hb,yN⟩:=hb;refine⟨hb.e1,hb.e2,Sm hb.n1,?_,?_,?_⟩
  .have:=YH (aT (fun j (y:LI0×Cs)=>(y.1.set j (bY d F ((ay d r).aA.getD j 0) y.2).1,(bY d F ((ay d r).aA.getD j 0) y.2).2)) (ay d r).aA.length 0 (List.replicate (ay d r).aA.length 0,x)).2.n (ay d r).var (aT (fun j (y:LI0×Cs)=>(y.1.set j (bY d F ((ay d r).aA.getD j 0) y.2).1,(bY d F ((ay d r).aA.getD j 0) y.2).2)) (ay d r).aA.length 0 (List.replicate (ay d r).aA.length 0,x)).1;have:=hb.n2;simp only[a1D,a4O];omega
  .simp only[a4V,a4W,abM];exact yc hb.k1 yN
  intro a ha;simp only[a4V,a3N,a4W,abM,a2p]at ha;rcases ha with ha|rfl
  .exact hb.k2 a ha
  exact⟨by omega,by omega⟩
open Go Tw Pv bV
abbrev hCl(l:Lo)(x:Cs)(ks:LI0):List (PB aG):=HC' l x++[oI true true ks]
abbrev wCl(l:Lo)(r:Int)(i:Int)(y:LI0×Cs)(x:List (Nat×PE aG)):bT aG:=⟨[(0,xi r),(1,.val (.ptr 8 0 1)),(3,.val (.ptr 10 0 1)),(4,.val (.ptr 11 0 1)),(9,.loc 0 0),(10,xo 14),(43,xL 3 (ay l.d r).aA),(44,xi (ay l.d r).aA.length),(45,xi i)]++x,[(ay l.d r).ps],hCl l y.2 y.1⟩
theorem lCl{M}(hO:Ok M Ej){d F r}(hk:(ay d r).aA.length<=12)(Q:Cs->Prop){x}(hx:Q x)(hq:∀j y,j<(ay d r).aA.length->Q y->Q (bY d F ((ay d r).aA.getD j 0) y).2)(hs:∀j y,j<(ay d r).aA.length->Q y->dI X0 Qp (iD M) (.fn 195 [] pC) [.int .i64 ((ay d r).aA.getD j 0)] (HC (zH d) y) (.int .i64 (bY d F ((ay d r).aA.getD j 0) y).1) (HC' (zH d) (bY d F ((ay d r).aA.getD j 0) y).2)) :Ob M 195 0 12 (wCl (zH d) r 0 (List.replicate (ay d r).aA.length 0,x) []) (.exit 0) (wCl (zH d) r (ay d r).aA.length (aT (fun j (y:LI0×Cs)=>(y.1.set j (bY d F ((ay d r).aA.getD j 0) y.2).1,(bY d F ((ay d r).aA.getD j 0) y.2).2)) (ay d r).aA.length 0 (List.replicate (ay d r).aA.length 0,x)) [(46,xl false)]):=by
 refine wK (σ:=LI0×Cs) (N:=(ay d r).aA.length) (g:=fun j (y:LI0×Cs)=>(y.1.set j (bY d F ((ay d r).aA.getD j 0) y.2).1,(bY d F ((ay d r).aA.getD j 0) y.2).2)) (s0:=(List.replicate (ay d r).aA.length 0,x)) (st:=fun k y=>wCl (zH d) r k y []) (fin:=fun y=>wCl (zH d) r (ay d r).aA.length y [(46,xl false)]) (fun _ y=>y.1.length=(ay d r).aA.length/\Q y.2) (by kernel_rfl) (Yu hk) ⟨by simp,hx⟩ (fun j y hj hy=>⟨by simp[hy.1],hq j y.2 hj hy.2⟩) (fun j y hj hy m e p g=>?_) (fun y _=>aP hO (.b (fC (ay d r).aA.length) .ex));have h1:=hs j y.2 hj hy.2;have h2:gV j y.1.length:=aH (by rw[hy.1];exact hj);generalize bY d F ((ay d r).aA.getD j 0) y.2=z at h1 g;obtain⟨v,z⟩:=z;exact aP hO (.b (bD hj) (.o (aH hj) (.fr [0,1,2,3,4,12,13,7,8,9,10,11] h1 (.o h2 (.goG [.gc [15,16,14]] g)))))
theorem Fa(k):(Nu k).map (·.1)=k.map (·.1):=by unfold Nu;rw[a8l];rfl
theorem aro{n}(hO:Ok n Ej)(k):jf n (.fn 197 [] []) [.int .i64 k] [] (iA.put (i64.wrap (-1-k))) []:=
 nN.a8u hX (hO 197 [.int .i64 k] (iA.put (i64.wrap (-1-k))) [] [] (by kernel_rfl) (fun q hq=>by cases hq)) rfl rfl rfl rfl
theorem sCl{N}(hO:∀m,N<=m->Ok m Ej){d}(h:D5 d)(he:d.aK.length+1<=ah)(hn:d.au.length+1<=ah)(h1k:∀i,i<d.au.length->1<=(fE d i).aA.length):∀(F:Nat) (r:Int) (x),r+1<F->Em d x->jK d r d.au.length->1<=F->dI X0 Qp (iD (N+F+6)) (.fn 195 [] pC) [.int .i64 r] (HC (zH d) x) (.int .i64 (bY d F r x).1) (HC' (zH d) (bY d F r x).2)
 | 0,r,x,_,_,_,h1=>by omega
 |F+1,r,x,hF,hx,hr,_=>by
  rw[show N+(F+1)+6=N+F+6+1 by omega];have CO:=hO (N+F+6) (by omega);have Fb:=hO (N+F+5) (by omega);unfold bY;by_cases c:r<0
  .have t0:decide (r<0)=true:=(by simpa using c);rw[a18 t0];have hi:gV (i64.wrap (-1-r)) d.aK.length:=hr.2 c;have hs:=ark Fb (a:=d.aj) (b:=d.aB) (E:=x.e) (nd:=x.n) (r:=0) (nm:=kK.es (zF x.n)) (pq d r) hx.e1 (by have:=hx.amc;omega);exact fD CO (first:=[]) (.b t0 (.fr [] (aro CO r) (.o hi (.fr [0,1,2,3,4,5,6] hs .er))))
  have t0:decide (r<0)=false:=by simpa using c
  rw[a0U (by rw[t0];simp)];have aQ:r.toNat<d.au.length:=by have:=hr.1;omega
  by_cases c2:r∈x.k.map (·.1)
  .rw[a18 (by simpa using c2)];have hf:qM X0 Qp 3 (kI.es (Nu x.k)) (kI.tv r) (.int .i64 (Wn x.k r)):=kI.found (by rw[Fa];exact hx.k1) (a1z.2 ⟨(r,Wn x.k r),a2V c2,rfl⟩);generalize Wn x.k r=v at hf ⊢;exact dI.gs hX (nY hX CO (first:=[]) (H1:=HC (zH d) x) (v:=.int .i64 v) (by kernel_rfl) (.b t0 (.c (.int .i64 v) [] hf (.b aiG .er)))) [.mv 5,.mv 6] rfl
  rw[a0U (by simpa using c2)];have D6:∀k,k<(ay d r).aA.length->(ay d r).aA.getD k 0<r:=fun k lK=>by have h9:=(h.Ah r.toNat aQ k lK).1;have h9:(ay d r).aA.getD k 0<(r.toNat:Int):=h9;omega
  have MW:∀j,j<(ay d r).aA.length->jK d ((ay d r).aA.getD j 0) d.au.length:=fun j hj=>⟨by have:=D6 j hj;have:=hr.1;omega,(h.Ah r.toNat aQ j hj).2⟩;have LX:(ay d r).aA.length<=12:=h.KW r.toNat aQ;have hq:∀j y,j<(ay d r).aA.length->(Em d y/\r∉y.k.map (·.1))->Em d (bY d F ((ay d r).aA.getD j 0) y).2/\r∉(bY d F ((ay d r).aA.getD j 0) y).2.k.map (·.1):=fun j y hj hy=>
   ⟨QG h F _ y hy.1 (MW j hj),YI F _ r y (D6 j hj) hy.2 (by omega) (fun i hi k hk=>(h.Ah i hi k hk).1) (fun h5=>⟨h5,by have:=(MW j hj).1;omega⟩)⟩
  have hl:=lCl CO (d:=d) (F:=F) (r:=r) LX (fun y=>Em d y/\r∉y.k.map (·.1)) (x:=x) ⟨hx,c2⟩ hq (fun j y hj hy=>sCl hO h he hn h1k F _ y (by have:=D6 j hj;omega) hy.1 (MW j hj) (by omega));obtain⟨g1,g2,g3⟩:=Jk (d:=d) (fun y=>Em d y/\r∉y.k.map (·.1)) (F:=F) (r:=r) (x:=x) ⟨hx,c2⟩ hq;generalize aT (fun j (y:LI0×Cs)=>(y.1.set j (bY d F ((ay d r).aA.getD j 0) y.2).1,(bY d F ((ay d r).aA.getD j 0) y.2).2)) (ay d r).aA.length 0 (List.replicate (ay d r).aA.length 0,x)=y at hl g1 g2 g3;obtain⟨ks,e,nd,kn⟩:=y;have g1:ks.length=(ay d r).aA.length:=g1;have FZ:1<=ks.length/\ks.length<=12:=by rw[g1];exact⟨h1k r.toNat aQ,LX⟩
  have hN:nd.length+1<=ah:=by have:=g2.KW;have:=g2.n2;simp at *;omega
  have hs:=amb (n:=N+F) Fb (a:=d.aj) (b:=d.aB) (E:=e) (nd:=nd) (r:=0) (ay d r).var ks FZ g2.n1 hN;have f0:oH X0 Qp 3 (kI.es (Nu x.k)) (kI.tv r):=kI.fresh (by rw[Fa];exact c2);have f1:oH X0 Qp 3 (kI.es (Nu kn)) (kI.tv r):=kI.fresh (by rw[Fa];exact g3);have f2:=kI.ck r;show dI X0 Qp _ _ _ _ (.int .i64 (eG nd (ay d r).var ks)) (HC' (zH d) ⟨e,dG nd (ay d r).var ks,kn++[(r,eG nd (ay d r).var ks)]⟩);generalize eG nd (ay d r).var ks=v at hs ⊢;generalize dG nd (ay d r).var ks=nd' at hs ⊢;have em:kI.es (Nu (kn++[(r,v)]))=kI.es (Nu kn)++[(kI.pv r,.int .i64 v)]:=by show List.map _ (List.map _ (kn++[(r,v)]))=_;rw[a4V,a4V];rfl
  have f3:qM X0 Qp 3 (kI.es (Nu kn)++[(kI.pv r,.int .i64 v)]) (kI.tv r) (.int .i64 v):=by rw[<-em];exact kI.found (by rw[Fa,a4V];exact yc g2.k1 g3) (a1z.2 ⟨(r,v),by simp,rfl⟩)
  have hi:gV r d.au.length:=⟨by omega,hr.1⟩;have hm:((ay d r).aA.length:Int)<=(ah:Int):=by have:=Yu LX;omega
  show dI X0 Qp _ _ _ _ _ ([_,_,_,_,_,_,_]++[_,_,.map (kI.es (Nu (kn++[(r,v)]))),_,_]++[_,_]);rw[em];exact dI.gs hX (nY hX CO (first:=[]) (v:=.int .i64 v) (H1:=[.list false false 3 d.aj,.list false false 3 d.aB,.map (kV.es (Aj e)),.map (kK.es (zF nd')),mkC d.aj d.aB 15 16 0,.gone,.gone,.aF (zH d).ps,.aF [.ptr 4 0 9],.map (kI.es (Nu kn)++[(kI.pv r,.int .i64 v)]),.aF [.map 9],.aF [.fn 195 [] pC],.gone,.gone,.gone,Ry e,Rz nd']) (by kernel_rfl) (.b t0 (.q (.bool false) f0 (.b aiC (.o hi (.o (show((ay d r).aA.length:Int)=((ay d r).aA.length:Int)from rfl) (.o (show(0:Int)<=((ay d r).aA.length:Int) by omega) (.o hm (.wG [.mv 5,.mv 6,.gc [13,14,12]] hl (.fr [0,1,2,3,4,12,13,14] hs (.q (.bool false) f2 (.o f1 (.c (.int .i64 v) [] f3 .er))))))))))))) [.gc [15,16]] rfl
open Go Tw Pv bV
abbrev QH(a b:List V)(k:Nat):Bool:=!(decide (a.getD k V0=b.getD k V0))
abbrev ahc(a b:List V)(i:Int)(x:List (Nat×PE aG)):bT aG:=⟨[(0,xL 39 a),(1,xL 39 b),(12,xi a.length),(13,xi i)]++x,[],[]⟩
def z227(a b:List V):Unit⊕Nat->Ex×bT aG
 |.inl _=>(.exit 0,ahc a b a.length [(14,xl false)])
 |.inr _=>(.ret,⟨[(4,xl false)],[],[]⟩)
theorem amd{n fU}(hO:Ok n fU)(a b)(hl:a.length<=ah)(h:a.length=b.length):Lp n 227 0 (ahc a b 0 []) (z227 a b (bH (QH a b) a.length)).1 (z227 a b (bH (QH a b) a.length)).2:=
 jm (st:=fun i _=>ahc a b i []) (fun _ _=>True) (by kernel_rfl) hl trivial (fun k s m hk _ ih=>aP hO (.b (bD hk) (.o (aH hk) (.o (aH (h▸hk)) (.q (.bool (!(decide (a.getD k V0=b.getD k V0)))) (neV (.tmp 19) (.tmp 23) (a.getD k V0) (b.getD k V0)) (.ls (.ou nofun) (.nx (ih _ trivial)))))))) (fun s _=>aP hO (.b (fC a.length) (.ou nofun)))
theorem abW{a b:List V}(h:a.length=b.length):a=b↔∀j,j<a.length->a.getD j V0=b.getD j V0:=by
 constructor
 .rintro rfl j _;rfl
 intro h2;apply aan h;intro j h3 h4;have:=h2 j h3;simpa[List.getD,a0N h3,a0N h4]using this
theorem QI{a b}(h:a.length=b.length):jS (bH (QH a b) a.length)=decide (a=b):=by rw[a5R,dD,a1F,abW h];simp[QH]
theorem abX{α:Type}[DecidableEq α]{a b:List α}(h:((a.length:Int) != (b.length:Int))=true):decide (a=b)=false:=by rw[a3L];rintro rfl;simp at h
def aeB:fV aG:=bU 227 (a2 vsA vsA) tA (fun p=>decide (p.1=p.2)) (fun p=>[p.1.length<=ah]) Ej
theorem ame:Gd aeB:=aew.add fun n hO p hp=>aN hO (.s (fun h=>.v false (abX h).symm) fun h=>.z (c:=jS (bH (QH p.1 p.2) p.1.length)) (fun h2=>.w (kX (amd hO p.1 p.2 (hp _ iC) (mP h)) () h2) (.v true (by rw[<-QI (mP h),h2]))) fun h2=>.w (kY (amd hO p.1 p.2 (hp _ iC) (mP h)) 0 h2) (.v false (by rw[<-QI (mP h),h2])))
def Wp(x y:Br):Bool:=if(x.var==y.var)=true then decide (x.aA=y.aA)else false
def a8M:fV aG:=bU 226 (a2 brA brA) tA (fun p=>Wp p.1 p.2) (fun p=>[p.1.aA.length<=ah]) aeB
theorem amf:Gd a8M:=ame.add fun n hO p hp=>aN hO (.ss (.o (hp _ iC) .rr) .rr)
abbrev wEB(a b:List Br)(i:Int)(x:List (Nat×PE aG)):bT aG:=⟨[(1,xL 105 b),(2,.val (.fn 226 [] [])),(15,xL 105 a),(16,xi a.length),(17,xi i)]++x,[],[]⟩
abbrev cEB(a b:List Br)(k:Nat):Bool:=!(Wp (a.getD k lD) (b.getD k lD))
def zEB(a b:List Br):Unit⊕Nat->Ex×bT aG
 |.inl _=>(.exit 0,wEB a b a.length [(18,xl false)])
 |.inr k=>(.ret,⟨[(6,xl false)],[(a.getD k lD).ps,(b.getD k lD).ps],[]⟩)
theorem lEB{n}(hO:Ok n a8M)(a b)(hl:a.length<=ah)(h:a.length=b.length)(hk:∀k,k<a.length->(a.getD k lD).aA.length<=ah):Lp n 228 0 (wEB a b 0 []) (zEB a b (bH (cEB a b) a.length)).1 (zEB a b (bH (cEB a b) a.length)).2:=
 jm (st:=fun i _=>wEB a b i []) (fun _ _=>True) (by kernel_rfl) hl trivial (fun k s m lK _ ih=>aP hO (.b (bD lK) (.o (aH lK) (.o (aH (h▸lK)) (.o (hk k lK) (.ls (.ou nofun) (.nx (ih _ trivial)))))))) (fun s _=>aP hO (.b (fC a.length) (.ou nofun)))
def Jl(a b:List Br):Bool:=if((a.length:Int) != (b.length:Int))=true then false else if jS (bH (cEB a b) a.length)=true then true else false
def aeC:fV aG:=bU 228 (a3 aby aby (fnA 226)) tA (fun p=>Jl p.1 p.2.1) (fun p=>[p.1.length<=ah,∀k,k<p.1.length->(p.1.getD k lD).aA.length<=ah]) a8M
theorem amg:Gd aeC:=amf.add fun n hO p hp=>aN hO (.sh (fun _=>.rr) fun h=>.zh (fun h2=>.w (kX (lEB hO p.1 p.2.1 (hp _ iC) (mP h) (hp (∀k,k<p.1.length->(p.1.getD k lD).aA.length<=ah) (.tail _ (.head _)))) () h2) .rr) fun h2=>.w (kY (lEB hO p.1 p.2.1 (hp _ iC) (mP h) (hp (∀k,k<p.1.length->(p.1.getD k lD).aA.length<=ah) (.tail _ (.head _)))) 0 h2) .rr)
def Jm(a b:Dg):Bool:=if decide (a.aj=b.aj)=true then(if decide (a.aB=b.aB)=true then(if decide (a.aK=b.aK)=true then(if Jl a.au b.au=true then a.root==b.root else false)else false)else false)else false
def aeD:fV aG:=bU 203 (a2 dA dA) tA (fun p=>Jm p.1 p.2) (fun p=>[p.1.aj.length<=ah,p.1.aB.length<=ah,p.1.aK.length<=ah,p.1.au.length<=ah,∀k,k<p.1.au.length->(p.1.au.getD k lD).aA.length<=ah]) aeC
theorem amh:Gd aeD:=amg.add fun n hO p hp=>aN hO (.o (hp _ iC) (.ss (.o (hp _ yC) (.ss (.o (hp _ hh2) (.ss (.o (hp _ (.tail _ (.tail _ (.tail _ (.head _))))) (.o (hp (∀k,k<p.1.au.length->(p.1.au.getD k lD).aA.length<=ah) (.tail _ (.tail _ (.tail _ (.tail _ (.head _)))))) (.ss .rr .rr))) .rr)) .rr)) .rr))
theorem YJ{x y}:Wp x y=true↔x=y:=by obtain⟨a,b⟩:=x;obtain⟨c,e⟩:=y;unfold Wp;simp only[Br.mk.injEq];by_cases h:a=c<;>simp[h]
theorem a5b{a b}:Jl a b=true↔a=b:=by
 unfold Jl;by_cases h:a.length=b.length
 .rw[a0U (by simp;omega)];have e:jS (bH (cEB a b) a.length)=true↔a=b:=by
   rw[dD];constructor
   .intro h1;apply aan h;intro j h3 h4;have:=h1 j h3;simp only[cEB,abN]at this;have:=YJ.1 this;simpa[List.getD,a0N h3,a0N h4]using this
   rintro rfl j _;simp only[cEB,abN];exact YJ.2 rfl
  rw[<-e];cases jS (bH (cEB a b) a.length)<;>simp
 rw[a18 (by simp;omega)];constructor
 .intro h1;cases h1
 rintro rfl;exact absurd rfl h
theorem a2W{a b}:Jm a b=true↔a=b:=by
 obtain⟨a1,a2,a3,a4,a5⟩:=a;obtain⟨b1,b2,b3,b4,b5⟩:=b;unfold Jm;simp only[Dg.mk.injEq];by_cases h1:a1=b1
 .by_cases h2:a2=b2
  .by_cases h3:a3=b3
   .have h4:=a5b (a:=a4) (b:=b4);cases e:Jl a4 b4
    .rw[e]at h4;simp[h1,h2,h3];intro h5;exact absurd h5 (by simpa using h4)
    rw[e]at h4;simp at h4;simp[h1,h2,h3,h4]
   simp[h3]
  simp[h2]
 simp[h1]
open Go Tw Pv bV
def yw(s:LI0×LI0)(x:Int):Int:=if x<0 then i64.wrap (-1-(s.2.idxOf (jh x):Nat))else(s.1.idxOf x:Nat)
def X9(s:LI0×LI0)(x:Int):Prop:=(x<0->jh x∈s.2)/\(0<=x->x∈s.1)
def KS(d:Dg)(s:LI0×LI0):Cs:=⟨s.2.map fun e=>d.aK.getD e.toNat V0,s.1.map fun o=>⟨(ay d o).var,(ay d o).aA.map (yw s)⟩,s.1.map fun o=>(o,yw s o)⟩
def KZ(d:Dg)(s:LI0×LI0):Prop:=∀o∈s.1,∀k∈(ay d o).aA,X9 s k
theorem Wq{s x}(l)(h:X9 s x):yw (s.1,s.2++l) x=yw s x:=by
 unfold yw;split
 .rename_i c;rw[aaF,a18 (h.1 c)]
 rfl
theorem Jo{s x}(l)(h:X9 s x):yw (s.1++l,s.2) x=yw s x:=by
 unfold yw;split
 .rfl
 rename_i c;rw[aaF,a18 (h.2 (by omega))]
theorem ahe{d s}(hk:KZ d s)(hn:∀o∈s.1,0<=o)(e):KS d (s.1,s.2++[e])=⟨(KS d s).e++[d.aK.getD e.toNat V0],(KS d s).n,(KS d s).k⟩:=by
 unfold KS;simp only[a4V,a4W,abM,Cs.mk.injEq,true_and];constructor
 .apply a5H;intro o ho;congr 1;apply a5H;intro k lK;exact Wq [e] (hk o ho k lK)
 apply a5H;intro o ho;rw[Wq [e] ⟨fun c=>absurd (hn o ho) (by omega),fun _=>ho⟩]
theorem abY{d s}(hk:KZ d s)(hn:∀o∈s.1,0<=o){r}(h0:0<=r)(hr:r∉s.1)(MW:∀k∈(ay d r).aA,X9 s k):KS d (s.1++[r],s.2)=⟨(KS d s).e,(KS d s).n++[⟨(ay d r).var,(ay d r).aA.map (yw s)⟩],(KS d s).k++[(r,(s.1.length:Int))]⟩:=by
 unfold KS;simp only[a4V,a4W,abM,Cs.mk.injEq,true_and];refine⟨?_,?_⟩
 .congr 1
  .apply a5H;intro o ho;congr 1;exact a5H fun k lK=>Jo [r] (hk o ho k lK)
  congr 2;exact a5H fun k lK=>Jo [r] (MW k lK)
 congr 1
 .apply a5H;intro o ho;rw[Jo [r] ⟨fun c=>absurd (hn o ho) (by omega),fun _=>ho⟩]
 congr 2;unfold yw;rw[a0U (by omega)];simp[aaF,hr]
theorem ami{a b:Nat}(ha:a<=2^61)(hb:b<=2^61)(h:i64.wrap (-1-(a:Int))=i64.wrap (-1-(b:Int))):a=b:=by rw[fP (by omega) (by omega),fP (by omega) (by omega)]at h;omega
theorem a2X{l:LI0}{a b}(ha:a∈l)(hb:b∈l)(h:l.idxOf a=l.idxOf b):a=b:=by have h1:=a9I (a5P.2 ha);have h2:=a9I (a5P.2 hb);rw[<-h1,<-h2];congr 1
theorem a8N{x y}(hx:Hg x)(hy:Hg y)(cx:x<0)(cy:y<0)(h:jh x=jh y):x=y:=by unfold jh at h;rw[Oc hx cx,Oc hy cy]at h;omega
theorem a2Y{s}(hs:s.2.length<=2^61){x y}(hx:X9 s x)(hy:X9 s y)(wx:Hg x)(wy:Hg y)(h:yw s x=yw s y):x=y:=by
 have lt:∀z,z∈s.2->s.2.idxOf z<=2^61:=fun z hz=>a5W (aam (a5P.2 hz)) hs;unfold yw at h;by_cases cx:x<0
 .rw[a18 cx]at h;by_cases cy:y<0
  .rw[a18 cy]at h;exact a8N wx wy cx cy (a2X (hx.1 cx) (hy.1 cy) (ami (lt _ (hx.1 cx)) (lt _ (hy.1 cy)) h))
  rw[a0U cy]at h;have:=lt _ (hx.1 cx);rw[fP (by omega) (by omega)]at h;omega
 rw[a0U cx]at h;by_cases cy:y<0
 .rw[a18 cy]at h;have:=lt _ (hy.1 cy);rw[fP (by omega) (by omega)]at h;omega
 rw[a0U cy]at h;exact a2X (hx.2 (by omega)) (hy.2 (by omega)) (by omega)
open Go Tw Pv bV
def Ext(s t:LI0×LI0):Prop:=∃a b,t=(s.1++a,s.2++b)
theorem Ext.refl(s):Ext s s:=⟨[],[],by simp⟩
theorem Ext.trans{s t u}(h:Ext s t)(h2:Ext t u):Ext s u:=by obtain⟨a,b,rfl⟩:=h;obtain⟨c,e,rfl⟩:=h2;exact⟨a++c,b++e,by simp⟩
theorem X9.ext{s t x}(h:X9 s x)(he:Ext s t):X9 t x:=by obtain⟨a,b,rfl⟩:=he;exact⟨fun c=>a6h _ (h.1 c),fun c=>a6h _ (h.2 c)⟩
theorem abZ{s t x}(h:X9 s x)(he:Ext s t):yw t x=yw s x:=by have hc:=h;obtain⟨a,b,rfl⟩:=he;have h2:X9 (s.1,s.2++b) x:=⟨fun c=>a6h _ (h.1 c),h.2⟩;rw[<-Wq b h,<-Jo a h2]
theorem Uw{α β g1 g2}(R:Nat->α->β->Prop):∀(m k) (a) (b),R k a b->(∀j a b,k<=j->j<k+m->R j a b->R (j+1) (g1 j a) (g2 j b))->R (k+m) (aT g1 m k a) (aT g2 m k b)
 | 0,_,_,_,h,_=>h
 |m+1,k,a,b,h,hs=>by have:=Uw R m (k+1) (g1 k a) (g2 k b) (hs k a b (a1p _) (by omega) h) (fun j a b h1 h2=>hs j a b (by omega) (by omega));rw[show k+(m+1)=k+1+m by omega];exact this
theorem a2Z{α β:Type}[BEq α][LawfulBEq α][BEq β][LawfulBEq β]{f:α->β}{a}:∀{l:List α},(∀b∈l,f b=f a->b=a)->(l.map f).idxOf (f a)=l.idxOf a
 | [],_=>rfl
 |c::l,h=>by
  rw[a4W,aeJ,aeJ,a2Z fun b hb=>h b (a3J _ hb)];by_cases hc:c=a
  .subst hc;simp
  have:¬(f c=f a):=fun e=>hc (h c (.head _) e);rw[show(c==a)=false by simpa using hc,show(f c==f a)=false by simpa using this]
structure DgD(d:Dg):Prop where
 aK:d.aK.Nodup
 au:∀i j,i<d.au.length->j<d.au.length->(fE d i).var=(fE d j).var->(fE d i).aA=(fE d j).aA->i=j
 flat:∀i,i<d.au.length->((fE d i).aA.all fun x=>x==(fE d i).aA.getD 0 0)=false
theorem YK{d:Dg}(h:d.aK.Nodup){a b}(ha:gV a d.aK.length)(hb:gV b d.aK.length)(e:d.aK.getD a.toNat V0=d.aK.getD b.toNat V0):a=b:=by
 have h1:a.toNat<d.aK.length:=by have:=ha.1;have:=ha.2;omega
 have h2:b.toNat<d.aK.length:=by have:=hb.1;have:=hb.2;omega
 simp only[List.getD,a0N h1,a0N h2,a6b]at e;have:=(aaT h).1 e;have:=ha.1;have:=hb.1;omega
theorem ahf{d}(hd:DgD d){s}(hs:KX d s){r}(hr:gV (jh r) d.aK.length):(KS d s).e.idxOf (pq d r)=s.2.idxOf (jh r)/\(pq d r∈(KS d s).e↔jh r∈s.2):=by
 have hi:∀b∈s.2,(fun e:Int=>d.aK.getD e.toNat V0) b=(fun e:Int=>d.aK.getD e.toNat V0) (jh r)->b=jh r:=fun b hb e=>YK hd.aK (hs.e2 b hb) hr e;refine⟨a2Z (f:=fun e:Int=>d.aK.getD e.toNat V0) (a:=jh r) hi,?_⟩;constructor
 .intro h;obtain⟨b,hb,e⟩:=a1z.1 h;rw[<-hi b hb e];exact hb
 intro h;exact a1z.2 ⟨jh r,h,rfl⟩
theorem ahg{d s r}(h:r∈s.1):Wn (KS d s).k r=yw s r:=by
 have h1:r∈(KS d s).k.map (·.1):=by unfold KS;rw[a8l];exact a1z.2 ⟨r,h,rfl⟩
 have h2:=a2V h1;obtain⟨o,_,e⟩:=a1z.1 h2;have e1:o=r:=congrArg Prod.fst e;have e2:yw s o=Wn (KS d s).k r:=congrArg Prod.snd e;rw[<-e2,e1]
theorem ac0{a b}(h:a.length=b.length)(ha:a.length<=12)(e:Jj a=Jj b):a=b:=by unfold Jj at e;have:=congrArg (List.take a.length) e;rw[afC,afC,a7x ha,List.take_append_of_le_length (a1p _),List.take_append_of_le_length (by omega),ady,h,ady]at this;exact this
theorem map_inj{α β:Type}{f:α->β}:∀{a b:List α},(∀x∈a,∀y∈b,f x=f y->x=y)->a.map f=b.map f->a=b
 | [],[],_,_=>rfl
 | [],_::_,_,h=>by simp at h
 |_::_,[],_,h=>by simp at h
 |x::a,y::b,hi,h=>by simp only[a4W,afj]at h;rw[hi x (.head _) y (.head _) h.1,map_inj (fun u hu v hv=>hi u (a3J _ hu) v (a3J _ hv)) h.2]
end Go.Proofs.YtmobpoiejckagaaGreat
