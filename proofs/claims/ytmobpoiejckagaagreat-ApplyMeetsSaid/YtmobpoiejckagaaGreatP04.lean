/- Part 5 of a proof: ApplyMeets -/
import Derived.Test.YtmobpoiejckagaaGreatProg
import Derived.KernelRfl
import Derived.Test.YtmobpoiejckagaaGreatChecked
import Derived.Tactics
import Derived.Tactics2
import Derived.Test.YtmobpoiejckagaaGreatP03
set_option linter.constructorNameAsVariable false
set_option linter.unusedVariables false
set_option linter.unusedSimpArgs false
set_option linter.unusedSectionVars false
open Go.IntKind (i64)
noncomputable section
namespace Go.Proofs.YtmobpoiejckagaaGreat
open Go Tw
structure B where
 lo:Int
 hi:Int
 f:Int
 deriving DecidableEq
structure O where
 code:Int
 a:Int
 b:Int
 c:Int
 n:Int
 deriving DecidableEq
structure K where
 name:ByteArray
 lo:Int
 hi:Int
structure V where
 f:Int
 n:Int
 deriving DecidableEq
abbrev B0:B:=⟨0,0,0⟩
abbrev O0:O:=⟨0,0,0,0,0⟩
abbrev K0:K:=⟨ByteArray.empty,0,0⟩
abbrev V0:V:=⟨0,0⟩
def qF(g:Int->Bool)(i:Nat)(x:Int)(s:Unit):(Unit)⊕(Nat×Int×(Unit)):=
 if(g x)=true then .inr (i,x,s)else .inl ()
def sU(g:Int->Bool)(l:LI0):Int:=
 if(jO (nI (qF g) l 0 ()))=true then -1 else(((Eb (0,0,()) (nI (qF g) l 0 ())).1:Int))
def nM(g:Int->Bool)(l:LI0):Bool:=
 decide ((sU g l)>=0)
theorem a7T(g):∀(l) (i),jO (nI (qF g) l i ())=!(l.any g)
 | [],i=>rfl
 |x::l,i=>by
  simp only[nI,qF,adz];cases g x with
  |true=>rfl
  |false=>simpa using a7T g l (i+1)
theorem F8(g l):nM g l=l.any g:=by
 have:=a7T g l 0;unfold nM sU;rw[this];cases l.any g with
 |true=>simp
 |false=>simp
def wW(x:Int)(lo:Int)(hi:Int):Bool:=
 if(decide ((x)<(lo)))=true then true else decide ((x)>(hi))
def nN(l:LI0)(lo:Int)(hi:Int):Bool:=
 !(l.any ((fun x=>wW x lo hi)))
theorem wrap_small{z}(h0:-(2^62)<=z)(h1:z<2^62):i64.wrap z=z:=by
 simp only[IntKind.wrap,IntKind.bits,IntKind.signed];rcases Int.lt_or_le z 0 with h|h
 .have:z%(2^64:Int)=z+2^64:=by have:=acg z (2^64) 1;rw[ad8]at this;rw[<-this];exact a9u (by omega) (by omega)
  simp only[this];rw[a15 (by simp;omega)];omega
 have:z%(2^64:Int)=z:=a9u h (by omega);simp only[this];rw[a0S (by simp;omega)]
def nX(k:Int)(least:Int)(ah:Int):Bool:=
 if(decide ((k)>=(least)))=true then decide ((k)<=(ah))else false
def fO(k:Int):V:=
 (⟨0,k⟩:V)
def mP(f:Int):V:=
 (⟨f,0⟩:V)
def sV(is:Bool):V:=
 if is=true then fO 1 else fO 0
def qI(k:Int):V:=
 if(decide ((k)<(-9999)))=true then mP 2 else if(decide ((k)>9999))=true then mP 2 else fO k
def KN(a:V)(b:V)(c:V):V:=
 if(decide ((a.f)>0))=true then a else if((a.n)==0)=true then c else b
def iq(a b:Int):Int:=if b<0 then(-a)/(-b)else a/b
def bI(code:Int)(a:V)(b:V):V:=
 if(decide ((a.f)>0))=true then a else if((code)==15)=true then if((a.n)==0)=true then a else if((code)==16)=true then if((a.n) != 0)=true then fO 1 else b else b else if((code)==16)=true then if((a.n) != 0)=true then fO 1 else b else if(decide ((b.f)>0))=true then b else if((code)==7)=true then qI (i64.wrap ((a.n)+(b.n)))else if((code)==8)=true then qI (i64.wrap ((a.n)-(b.n)))else if((code)==9)=true then qI (i64.wrap ((a.n)*(b.n)))else if((code)==12)=true then sV ((a.n)==(b.n))else if((code)==13)=true then sV (decide ((a.n)<(b.n)))else if((code)==14)=true then sV (decide ((a.n)<=(b.n)))else if((b.n)==0)=true then mP 1 else if((code)==10)=true then fO (iq (a.n) (b.n))else fO (i64.wrap ((a.n)-(i64.wrap ((b.n)*(iq (a.n) (b.n))))))
def jP(g:V->Bool)(i:Nat)(x:V)(s:Unit):(Unit)⊕(Nat×V×(Unit)):=
 if(g x)=true then .inr (i,x,s)else .inl ()
def iW(g:V->Bool)(l:List V):Int:=
 if(jO (nI (jP g) l 0 ()))=true then -1 else(((Eb (0,V0,()) (nI (jP g) l 0 ())).1:Int))
def qJ(g:V->Bool)(l:List V):Bool:=
 decide ((iW g l)>=0)
theorem a7U(g):∀(l) (i),jO (nI (jP g) l i ())=!(l.any g)
 | [],i=>rfl
 |x::l,i=>by
  simp only[nI,jP,adz];cases g x with
  |true=>rfl
  |false=>simpa using a7U g l (i+1)
theorem KO(g l):qJ g l=l.any g:=by
 have:=a7U g l 0;unfold qJ iW;rw[this];cases l.any g with
 |true=>simp
 |false=>simp
theorem Ug(g):∀(l) (i),jO (nI (jP g) l i ())=false->(Eb (0,V0,()) (nI (jP g) l i ())).1<i+l.length/\l[(Eb (0,V0,()) (nI (jP g) l i ())).1-i]? = l.find? g/\i<=(Eb (0,V0,()) (nI (jP g) l i ())).1
 | [],i,h=>by cases h
 |x::l,i,h=>by
  simp only[nI,jP]at h ⊢;by_cases hx:g x=true
  .simp only[hx,a2l,Eb,a4p,ahY];refine⟨by omega,by simp,by omega⟩
  simp only[aeP]at hx;simp only[hx,a2H,a3S,a4p,ahY]at h ⊢;obtain⟨h1,h2,h3⟩:=Ug g l (i+1) h;refine⟨by omega,?_,by omega⟩;rw[<-h2,show(Eb (0,V0,()) (nI (jP g) l (i+1) ())).1-i=((Eb (0,V0,()) (nI (jP g) l (i+1) ())).1-(i+1))+1 by omega];simp
theorem S9(g l):iW g l<l.length:=by
 unfold iW;split
 .omega
 rename_i h;have:=(Ug g l 0 (by simpa using h)).1;omega
def VU(x:Int):Bool:=
 (x) != (x)
def KP(x:Int)(y:Int):Int:=
 if(decide ((x)<(y)))=true then -1 else if(decide ((x)>(y)))=true then 1 else 0
def Je(f:Int):V:=
 (⟨f,0⟩:V)
def xY(x:Int)(lo:Int)(hi:Int):Bool:=
 if(decide ((x)<(lo)))=true then true else decide ((x)>(hi))
def Ah(l:LI0)(lo:Int)(hi:Int):Bool:=
 !(l.any ((fun x=>xY x lo hi)))
def Ej(v:V):Bool:=
 if((v.f)==0)=true then Ah (([v.n]:LI0)) (-9999) 9999 else if(decide ((v.f)<=4))=true then(v.n)==0 else false
def pO(k:Int):V:=
 if(!(Ah (([k]:LI0)) (-9999) 9999))=true then Je 2 else(⟨0,k⟩:V)
def Qo(is:Bool):V:=
 if is=true then pO 1 else pO 0
def oO(v:V):Bool:=
 (v.f) != 0
def BM(v:V):Bool:=
 !(Ej v)
def bW(l:List V):V×Bool:=
 if(decide ((iW ((fun v=>oO v)) l)<0))=true then((⟨0,0⟩:V),false)else((l.getD (iW ((fun v=>oO v)) l).toNat V0),true)
def iK(l:List V):Bool:=
 !(l.any ((fun v=>BM v)))
def jZ(a:V)(b:V)(c:V):V×Int:=
 if(!(iK (([a,b,c]:List V))))=true then((⟨0,0⟩:V),2)else if((a.f) != 0)=true then(a,0)else if((a.n)==0)=true then(c,0)else(b,0)
def KQ(a:Int)(b:Int):V:=
 pO (i64.wrap ((a)+(b)))
def KR(a:Int)(b:Int):V:=
 pO (i64.wrap ((a)-(b)))
def KT(a:Int)(b:Int):V:=
 pO (i64.wrap ((a)*(b)))
def Em(a:Int)(b:Int):Int:=
 a
def En(a:Int)(b:Int):Int:=
 b
def Eo(a:Int):Bool:=
 (a)==0
def Ep(a:Int):Bool:=
 decide ((a)<0)
def Es(a:Int):Bool:=
 decide ((a)<=0)
def vP(a:Int)(b:Int):Int×Int:=
 if((Pz .i64 (a) (b)) != 0)=true then if((decide ((Pz .i64 (a) (b))<0)) != (decide ((b)<0)))=true then(i64.wrap ((Vq .i64 (a) (b))-1),i64.wrap ((Pz .i64 (a) (b))+(b)))else(Vq .i64 (a) (b),Pz .i64 (a) (b))else(Vq .i64 (a) (b),Pz .i64 (a) (b))
def iY(g:Int->Int->Int)(a:Int)(b:Int):V:=
 if((b)==0)=true then Je 1 else pO (g ((vP a b).1) ((vP a b).2))
def dV(g:Int->Bool)(a:Int)(b:Int):V:=
 Qo (g (KP a b))
def sW(a:V)(b:V):V×Int:=
 if(!(iK (([a,b]:List V))))=true then((⟨0,0⟩:V),2)else if((bW (([a,b]:List V))).2)=true then((bW (([a,b]:List V))).1,0)else(KQ a.n b.n,0)
def tC(a:V)(b:V):V×Int:=
 if(!(iK (([a,b]:List V))))=true then((⟨0,0⟩:V),2)else if((bW (([a,b]:List V))).2)=true then((bW (([a,b]:List V))).1,0)else(KR a.n b.n,0)
def tH(a:V)(b:V):V×Int:=
 if(!(iK (([a,b]:List V))))=true then((⟨0,0⟩:V),2)else if((bW (([a,b]:List V))).2)=true then((bW (([a,b]:List V))).1,0)else(KT a.n b.n,0)
def pR(a:V)(b:V):V×Int:=
 if(!(iK (([a,b]:List V))))=true then((⟨0,0⟩:V),2)else if((bW (([a,b]:List V))).2)=true then((bW (([a,b]:List V))).1,0)else(iY Em (a.n) (b.n),0)
def pU(a:V)(b:V):V×Int:=
 if(!(iK (([a,b]:List V))))=true then((⟨0,0⟩:V),2)else if((bW (([a,b]:List V))).2)=true then((bW (([a,b]:List V))).1,0)else(iY En (a.n) (b.n),0)
def pV(a:V)(b:V):V×Int:=
 if(!(iK (([a,b]:List V))))=true then((⟨0,0⟩:V),2)else if((bW (([a,b]:List V))).2)=true then((bW (([a,b]:List V))).1,0)else(dV Eo (a.n) (b.n),0)
def pW(a:V)(b:V):V×Int:=
 if(!(iK (([a,b]:List V))))=true then((⟨0,0⟩:V),2)else if((bW (([a,b]:List V))).2)=true then((bW (([a,b]:List V))).1,0)else(dV Ep (a.n) (b.n),0)
def qc(a:V)(b:V):V×Int:=
 if(!(iK (([a,b]:List V))))=true then((⟨0,0⟩:V),2)else if((bW (([a,b]:List V))).2)=true then((bW (([a,b]:List V))).1,0)else(dV Es (a.n) (b.n),0)
def uM(a:V)(b:V):V×Int:=
 ((jZ a b (pO 0)).1,(jZ a b (pO 0)).2)
def uN(a:V)(b:V):V×Int:=
 ((jZ a (pO 1) b).1,(jZ a (pO 1) b).2)
def iw(code:Int)(a b:V):V:=
 if code=7 then(sW a b).1 else if code=8 then(tC a b).1 else if code=9 then(tH a b).1 else if code=10 then(pR a b).1 else if code=11 then(pU a b).1 else if code=12 then(pV a b).1 else if code=13 then(pW a b).1 else if code=14 then(qc a b).1 else if code=15 then(uM a b).1 else(uN a b).1
def Jf(code:Int)(a b:V):V×Int:=if code=7 then sW a b else if code=8 then tC a b else if code=9 then tH a b else if code=10 then pR a b else if code=11 then pU a b else if code=12 then pV a b else if code=13 then pW a b else if code=14 then qc a b else if code=15 then uM a b else uN a b
theorem nine{p:Int}(h:7<=p/\p<=16):p=7\/p=8\/p=9\/p=10\/p=11\/p=12\/p=13\/p=14\/p=15\/p=16:=by omega
structure lS(v:V):Prop where
 f0:0<=v.f
 f1:v.f<=4
 n:v.f=0->-9999<=v.n/\v.n<=9999
 z:v.f≠0->v.n=0
theorem Yt(k):Ah [k] (-9999) 9999=(decide (-9999<=k)&&decide (k<=9999)):=by
 simp only[Ah,xY,adz,List.any_nil,Bool.or_false];by_cases h:k < -9999
 .simp[h];omega
 by_cases h2:k>9999<;>simp[h,h2]<;>omega
theorem vS{v}(h:lS v):Ej v=true:=by
 obtain⟨f,n⟩:=v;have h0:=h.f0;have h1:=h.f1;have h2:=h.n;have h3:=h.z;simp only at h0 h1 h2 h3;unfold Ej;simp only[Yt,a7l];by_cases hf:f=0
 .subst hf;simp;exact h2 rfl
 simp[hf,h1,h3 hf]
theorem aqV{a b}(ha:lS a)(hb:lS b):(!(iK [a,b]))=false:=by simp[iK,BM,vS ha,vS hb]
theorem a7V{a b c}(ha:lS a)(hb:lS b)(hc:lS c):(!(iK [a,b,c]))=false:=by simp[iK,BM,vS ha,vS hb,vS hc]
theorem agF(a b):bW [a,b]=if a.f≠0 then(a,true)else if b.f≠0 then(b,true)else(⟨0,0⟩,false):=by
 by_cases h:a.f=0
 .by_cases h2:b.f=0
  .simp[bW,iW,nI,jP,oO,jO,Eb,h,h2]
  simp[bW,iW,nI,jP,oO,jO,Eb,h,h2]
 simp[bW,iW,nI,jP,oO,jO,Eb,h]
theorem wP(k):pO k=qI k:=by
 unfold pO qI Je mP fO;rw[Yt];by_cases h:k < -9999
 .rw[a15 (by simp;omega),a15 (by simpa using h)]
 rw[a0S (c:=decide (k < -9999)=true) (by simpa using h)];by_cases h2:k>9999
 .rw[a15 (by simp;omega),a15 (by simpa using h2)]
 rw[a0S (by simp;omega),a0S (by simpa using h2)]
theorem uO(k):lS (qI k):=by
 unfold qI mP fO;split
 .exact⟨by decide,by decide,by simp,by simp⟩
 split
 .exact⟨by decide,by decide,by simp,by simp⟩
 rename_i h1 h2;simp at h1 h2;exact⟨by simp,by simp,fun _=>by simp only;omega,by simp⟩
theorem a4C(b):Qo b=sV b:=by cases b<;>rfl
theorem KU(b):lS (sV b):=by cases b<;>exact⟨by decide,by decide,fun _=>by decide,by decide⟩
theorem a4D{a b}(hb:b≠0):a.tmod b=0\/True->(iq a b=(if a.tmod b≠0/\(decide (a.tmod b<0) != decide (b<0))=true then a.tdiv b-1 else a.tdiv b))/\a-b*iq a b=(if a.tmod b≠0/\(decide (a.tmod b<0) != decide (b<0))=true then a.tmod b+b else a.tmod b)/\(a-b*iq a b).natAbs<b.natAbs:=by
 intro _;have hq:=@Int.tdiv_eq_ediv a b;have hr:=@Int.tmod_eq_emod a b;have hm:=Int.mul_ediv_add_emod a b;have h0:=ahm a hb;have h1:=Int.emod_lt a hb;have hd:b ∣ a↔a%b=0:=⟨Int.emod_eq_zero_of_dvd,Int.dvd_of_emod_eq_zero⟩;generalize a.tdiv b=T at *;generalize a.tmod b=R at *;generalize hE:a/b=e at *;generalize hM:a%b=m at *;unfold iq;have cT:0<=a\/b ∣ a->T=e/\R=m:=fun h=>by rw[a15 h]at hq hr;omega
 rcases Int.lt_or_gt_of_ne hb with yu|yu
 .rw[a15 yu];have hsg:b.sign=-1:=Int.sign_eq_neg_one_of_neg yu;have hna:(b.natAbs:Int)=-b:=by omega
  have cF:¬(0<=a\/b ∣ a)->T=e-1/\R=m+b:=fun h=>by rw[a0S h]at hq hr;omega
  rw[hna]at h1;by_cases SK:m=0
  .have u:=(Int.ediv_emod_unique (a:=-a) (b:=-b) (r:=0) (q:=e) (by omega)).2 ⟨by rw[Int.neg_mul];omega,by omega,by omega⟩;rw[u.1];obtain⟨c1,c2⟩:=cT (.inr (hd.2 SK));subst c1;subst c2;rw[a0S (by simp[SK]),a0S (by simp[SK])];omega
  have jJ:¬b ∣ a:=fun h=>SK (hd.1 h);have e1:b*(e-1)=b*e-b:=by rw[Int.mul_sub,ad8]
  have u:=(Int.ediv_emod_unique (a:=-a) (b:=-b) (r:=-b-m) (q:=e-1) (by omega)).2 ⟨by rw[Int.neg_mul,e1];omega,by omega,by omega⟩;rw[u.1,e1];by_cases ha:0<=a
  .obtain⟨c1,c2⟩:=cT (.inl ha);subst c1;subst c2;have hc:(R≠0/\(decide (R<0) != decide (b<0))=true):=⟨SK,by simp[yu];omega⟩;rw[a15 hc,a15 hc];omega
  obtain⟨c1,c2⟩:=cF (by simp[ha,jJ]);have hc:¬(R≠0/\(decide (R<0) != decide (b<0))=true):=fun h=>by have:=h.2;simp[yu]at this;omega
  rw[a0S hc,a0S hc];omega
 rw[a0S (by omega),hE];have hsg:b.sign=1:=Int.sign_eq_one_of_pos yu;have hna:(b.natAbs:Int)=b:=by omega
 have cF:¬(0<=a\/b ∣ a)->T=e+1/\R=m-b:=fun h=>by rw[a0S h]at hq hr;omega
 rw[hna]at h1;by_cases hc0:0<=a\/b ∣ a
 .obtain⟨c1,c2⟩:=cT hc0;have hc:¬(R≠0/\(decide (R<0) != decide (b<0))=true):=fun h=>by have:=h.2;simp at this;omega
  rw[a0S hc,a0S hc];omega
 obtain⟨c1,c2⟩:=cF hc0;have SK:m≠0:=fun h=>hc0 (.inr (hd.2 h));have hc:(R≠0/\(decide (R<0) != decide (b<0))=true):=⟨by omega,by simp;omega⟩;rw[a15 hc,a15 hc];omega
theorem wr{z}(h1:-1000000000<=z)(h2:z<=1000000000):i64.wrap z=z:=wrap_small (by omega) (by omega)
theorem Yu{a b}(a0:-9999<=a)(a1:a<=9999)(b0:-9999<=b)(b1:b<=9999)(hb:b≠0):vP a b=(iq a b,a-b*iq a b)/\(-9999<=iq a b/\iq a b<=9999)/\(-9999<=a-b*iq a b/\a-b*iq a b<=9999)/\i64.wrap (a-i64.wrap (b*iq a b))=a-b*iq a b:=by
 obtain⟨h1,h2,h3⟩:=a4D (a:=a) hb (.inr trivial);have hna:(a.tdiv b).natAbs<=a.natAbs:=by rw[Int.natAbs_tdiv];exact Nat.div_le_self _ _
 have hq:Vq .i64 a b=a.tdiv b:=wr (by omega) (by omega);have hp:(b*iq a b).natAbs=b.natAbs*(iq a b).natAbs:=Int.natAbs_mul _ _;have hQ:(iq a b).natAbs<=9999:=by
  rcases a4O 9999 (iq a b).natAbs with h|h
  .have:=Nat.mul_le_mul_left b.natAbs (show 10000<=(iq a b).natAbs from h);generalize b*iq a b=p at *;generalize b.natAbs*(iq a b).natAbs=r at *;omega
  exact h
 refine⟨?_,by omega,by generalize b*iq a b=p at *;omega,?_⟩
 .unfold vP Pz;rw[hq];have hw1:i64.wrap (a.tdiv b-1)=a.tdiv b-1:=wr (by omega) (by omega);have hrb:(a.tmod b).natAbs<=9999:=by rw[Int.natAbs_tmod];exact a5O (Nat.mod_le _ _) (by omega)
  have hw2:i64.wrap (a.tmod b+b)=a.tmod b+b:=wr (by omega) (by omega);rw[h2,h1,hw1,hw2];by_cases c1:a.tmod b=0
  .rw[a0S (by simp[c1]),a0S (by simp[c1]),a0S (by simp[c1])]
  rw[a15 (by simpa using c1)];by_cases c2:(decide (a.tmod b<0) != decide (b<0))=true
  .rw[a15 c2,a15 ⟨c1,c2⟩,a15 ⟨c1,c2⟩]
  rw[a0S c2,a0S (fun h=>c2 h.2),a0S (fun h=>c2 h.2)]
 rw[wr (z:=b*iq a b) (by generalize b*iq a b=p at *;omega) (by generalize b*iq a b=p at *;omega)];exact wr (by generalize b*iq a b=p at *;omega) (by generalize b*iq a b=p at *;omega)
theorem Yv{k}(h1:-9999<=k)(h2:k<=9999):qI k=fO k:=by unfold qI;rw[a0S (by simp;omega),a0S (by simp;omega)]
theorem jV{g:Int->Int->V}{a b}(ha:lS a)(hb:lS b):(if(!(iK [a,b]))=true then((⟨0,0⟩:V),(2:Int))else if(bW [a,b]).2=true then((bW [a,b]).1,0)else(g a.n b.n,0)).1=if a.f≠0 then a else if b.f≠0 then b else g a.n b.n:=by
 rw[aqV ha hb,agF];by_cases h:a.f=0
 .by_cases h2:b.f=0<;>simp[h,h2]
 simp[h]
theorem BN{a}(ha:lS a)(h:a.f≠0):decide (a.f>0)=true:=by have:=ha.f0;simp;omega
theorem Qq{k}(h1:-9999<=k)(h2:k<=9999):lS (fO k):=⟨by simp[fO],by simp[fO],fun _=>⟨h1,h2⟩,fun h=>by simp[fO]at h⟩
theorem div_eq{a b}(ha:lS a)(hb:lS b)(h:a.f=0)(h2:b.f=0):iY Em a.n b.n=(if(b.n==0)=true then mP 1 else fO (iq a.n b.n))/\lS (if(b.n==0)=true then mP 1 else fO (iq a.n b.n)):=by
 have a9:=ha.n h;have b9:=hb.n h2;unfold iY Em;by_cases hz:b.n=0
 .rw[a15 (by simpa using hz),a15 (by simpa using hz)];exact⟨rfl,⟨by decide,by decide,by decide,by decide⟩⟩
 obtain⟨q1,q2,_,_⟩:=Yu a9.1 a9.2 b9.1 b9.2 hz;rw[a0S (by simpa using hz),a0S (by simpa using hz),q1,wP,Yv q2.1 q2.2];exact⟨rfl,Qq q2.1 q2.2⟩
theorem mod_eq{a b}(ha:lS a)(hb:lS b)(h:a.f=0)(h2:b.f=0):iY En a.n b.n=(if(b.n==0)=true then mP 1 else fO (i64.wrap (a.n-i64.wrap (b.n*iq a.n b.n))))/\lS (if(b.n==0)=true then mP 1 else fO (i64.wrap (a.n-i64.wrap (b.n*iq a.n b.n)))):=by
 have a9:=ha.n h;have b9:=hb.n h2;unfold iY En;by_cases hz:b.n=0
 .rw[a15 (by simpa using hz),a15 (by simpa using hz)];exact⟨rfl,⟨by decide,by decide,by decide,by decide⟩⟩
 obtain⟨q1,_,q3,q4⟩:=Yu a9.1 a9.2 b9.1 b9.2 hz;rw[a0S (by simpa using hz),a0S (by simpa using hz),q1,wP,q4,Yv q3.1 q3.2];exact⟨rfl,Qq q3.1 q3.2⟩
theorem agG(a b):dV Eo a b=sV (a==b)/\dV Ep a b=sV (decide (a<b))/\dV Es a b=sV (decide (a<=b)):=by
 unfold dV Eo Ep Es KP;simp only[a4C];rcases Int.lt_trichotomy a b with h|h|h
 .have:(a==b)=false:=by simp;omega
  simp[h,this,afi h]
 .subst h;simp
 have h1:¬a<b:=by omega
 have h2:(a==b)=false:=by simp;omega
 have h3:¬a<=b:=by omega
 simp[h,h1,h2,h3]
theorem agH{k}(h7:7<=k/\k<=16){a b}(ha:lS a)(hb:lS b):iw k a b=bI k a b/\lS (bI k a b):=by
 have e15:a.f=0->iw 15 a b=bI 15 a b/\lS (bI 15 a b):=fun h=>by
  rw[show iw 15 a b=(uM a b).1 from rfl,show bI 15 a b=(if(a.n==0)=true then a else b) by simp[bI,h]];unfold uM jZ;rw[a7V ha hb (wP 0▸uO 0)];by_cases hz:a.n=0
  .have:a=⟨0,0⟩:=by obtain⟨f,n⟩:=a;simp only at h hz;rw[h,hz]
   subst this;exact⟨rfl,ha⟩
  simp[h,hz];exact hb
 have e16:a.f=0->iw 16 a b=bI 16 a b/\lS (bI 16 a b):=fun h=>by
  rw[show iw 16 a b=(uN a b).1 from rfl,show bI 16 a b=(if(a.n != 0)=true then fO 1 else b) by simp[bI,h]];unfold uN jZ;rw[a7V ha (wP 1▸uO 1) hb];by_cases hz:a.n=0
  .simp[h,hz];exact hb
  simp[h,hz];exact⟨rfl,Qq (by decide) (by decide)⟩
 by_cases h:a.f=0
 .by_cases h2:b.f=0
  .have d:=div_eq ha hb h h2;have m:=mod_eq ha hb h h2;have c:=agG a.n b.n;rcases nine h7 with rfl|rfl|rfl|rfl|rfl|rfl|rfl|rfl|rfl|rfl
   .rw[show iw 7 a b=(sW a b).1 from rfl,show bI 7 a b=qI (i64.wrap (a.n+b.n)) by simp[bI,h,h2]];unfold sW;rw[jV (g:=fun x y=>KQ x y) ha hb];simp only[h,h2,ne_eq,a8N,a3S,KQ,wP];exact⟨trivial,uO _⟩
   .rw[show iw 8 a b=(tC a b).1 from rfl,show bI 8 a b=qI (i64.wrap (a.n-b.n)) by simp[bI,h,h2]];unfold tC;rw[jV (g:=fun x y=>KR x y) ha hb];simp only[h,h2,ne_eq,a8N,a3S,KR,wP];exact⟨trivial,uO _⟩
   .rw[show iw 9 a b=(tH a b).1 from rfl,show bI 9 a b=qI (i64.wrap (a.n*b.n)) by simp[bI,h,h2]];unfold tH;rw[jV (g:=fun x y=>KT x y) ha hb];simp only[h,h2,ne_eq,a8N,a3S,KT,wP];exact⟨trivial,uO _⟩
   .rw[show iw 10 a b=(pR a b).1 from rfl,show bI 10 a b=(if(b.n==0)=true then mP 1 else fO (iq a.n b.n)) by simp[bI,h,h2]];unfold pR;rw[jV (g:=fun x y=>iY Em x y) ha hb];simp only[h,h2,ne_eq,a8N,a3S];exact d
   .rw[show iw 11 a b=(pU a b).1 from rfl,show bI 11 a b=(if(b.n==0)=true then mP 1 else fO (i64.wrap (a.n-i64.wrap (b.n*iq a.n b.n)))) by simp[bI,h,h2]];unfold pU;rw[jV (g:=fun x y=>iY En x y) ha hb];simp only[h,h2,ne_eq,a8N,a3S];exact m
   .rw[show iw 12 a b=(pV a b).1 from rfl,show bI 12 a b=sV (a.n==b.n) by simp[bI,h,h2]];unfold pV;rw[jV (g:=fun x y=>dV Eo x y) ha hb];simp only[h,h2,ne_eq,a8N,a3S];exact⟨c.1,KU _⟩
   .rw[show iw 13 a b=(pW a b).1 from rfl,show bI 13 a b=sV (decide (a.n<b.n)) by simp[bI,h,h2]];unfold pW;rw[jV (g:=fun x y=>dV Ep x y) ha hb];simp only[h,h2,ne_eq,a8N,a3S];exact⟨c.2.1,KU _⟩
   .rw[show iw 14 a b=(qc a b).1 from rfl,show bI 14 a b=sV (decide (a.n<=b.n)) by simp[bI,h,h2]];unfold qc;rw[jV (g:=fun x y=>dV Es x y) ha hb];simp only[h,h2,ne_eq,a8N,a3S];exact⟨c.2.2,KU _⟩
   .exact e15 h
   exact e16 h
  rcases nine h7 with rfl|rfl|rfl|rfl|rfl|rfl|rfl|rfl|rfl|rfl
  .rw[show iw 7 a b=(sW a b).1 from rfl,show bI 7 a b=b by simp[bI,h,BN hb h2]];unfold sW;rw[jV (g:=fun x y=>KQ x y) ha hb];simp only[h,h2,ne_eq,a8N,a5S,a3S,a2l];exact⟨trivial,hb⟩
  .rw[show iw 8 a b=(tC a b).1 from rfl,show bI 8 a b=b by simp[bI,h,BN hb h2]];unfold tC;rw[jV (g:=fun x y=>KR x y) ha hb];simp only[h,h2,ne_eq,a8N,a5S,a3S,a2l];exact⟨trivial,hb⟩
  .rw[show iw 9 a b=(tH a b).1 from rfl,show bI 9 a b=b by simp[bI,h,BN hb h2]];unfold tH;rw[jV (g:=fun x y=>KT x y) ha hb];simp only[h,h2,ne_eq,a8N,a5S,a3S,a2l];exact⟨trivial,hb⟩
  .rw[show iw 10 a b=(pR a b).1 from rfl,show bI 10 a b=b by simp[bI,h,BN hb h2]];unfold pR;rw[jV (g:=fun x y=>iY Em x y) ha hb];simp only[h,h2,ne_eq,a8N,a5S,a3S,a2l];exact⟨trivial,hb⟩
  .rw[show iw 11 a b=(pU a b).1 from rfl,show bI 11 a b=b by simp[bI,h,BN hb h2]];unfold pU;rw[jV (g:=fun x y=>iY En x y) ha hb];simp only[h,h2,ne_eq,a8N,a5S,a3S,a2l];exact⟨trivial,hb⟩
  .rw[show iw 12 a b=(pV a b).1 from rfl,show bI 12 a b=b by simp[bI,h,BN hb h2]];unfold pV;rw[jV (g:=fun x y=>dV Eo x y) ha hb];simp only[h,h2,ne_eq,a8N,a5S,a3S,a2l];exact⟨trivial,hb⟩
  .rw[show iw 13 a b=(pW a b).1 from rfl,show bI 13 a b=b by simp[bI,h,BN hb h2]];unfold pW;rw[jV (g:=fun x y=>dV Ep x y) ha hb];simp only[h,h2,ne_eq,a8N,a5S,a3S,a2l];exact⟨trivial,hb⟩
  .rw[show iw 14 a b=(qc a b).1 from rfl,show bI 14 a b=b by simp[bI,h,BN hb h2]];unfold qc;rw[jV (g:=fun x y=>dV Es x y) ha hb];simp only[h,h2,ne_eq,a8N,a5S,a3S,a2l];exact⟨trivial,hb⟩
  .exact e15 h
  exact e16 h
 rcases nine h7 with rfl|rfl|rfl|rfl|rfl|rfl|rfl|rfl|rfl|rfl
 .rw[show iw 7 a b=(sW a b).1 from rfl,show bI 7 a b=a by simp[bI,BN ha h]];unfold sW;rw[jV (g:=fun x y=>KQ x y) ha hb];simp only[h,ne_eq,a8N,a5S,a2l];exact⟨trivial,ha⟩
 .rw[show iw 8 a b=(tC a b).1 from rfl,show bI 8 a b=a by simp[bI,BN ha h]];unfold tC;rw[jV (g:=fun x y=>KR x y) ha hb];simp only[h,ne_eq,a8N,a5S,a2l];exact⟨trivial,ha⟩
 .rw[show iw 9 a b=(tH a b).1 from rfl,show bI 9 a b=a by simp[bI,BN ha h]];unfold tH;rw[jV (g:=fun x y=>KT x y) ha hb];simp only[h,ne_eq,a8N,a5S,a2l];exact⟨trivial,ha⟩
 .rw[show iw 10 a b=(pR a b).1 from rfl,show bI 10 a b=a by simp[bI,BN ha h]];unfold pR;rw[jV (g:=fun x y=>iY Em x y) ha hb];simp only[h,ne_eq,a8N,a5S,a2l];exact⟨trivial,ha⟩
 .rw[show iw 11 a b=(pU a b).1 from rfl,show bI 11 a b=a by simp[bI,BN ha h]];unfold pU;rw[jV (g:=fun x y=>iY En x y) ha hb];simp only[h,ne_eq,a8N,a5S,a2l];exact⟨trivial,ha⟩
 .rw[show iw 12 a b=(pV a b).1 from rfl,show bI 12 a b=a by simp[bI,BN ha h]];unfold pV;rw[jV (g:=fun x y=>dV Eo x y) ha hb];simp only[h,ne_eq,a8N,a5S,a2l];exact⟨trivial,ha⟩
 .rw[show iw 13 a b=(pW a b).1 from rfl,show bI 13 a b=a by simp[bI,BN ha h]];unfold pW;rw[jV (g:=fun x y=>dV Ep x y) ha hb];simp only[h,ne_eq,a8N,a5S,a2l];exact⟨trivial,ha⟩
 .rw[show iw 14 a b=(qc a b).1 from rfl,show bI 14 a b=a by simp[bI,BN ha h]];unfold qc;rw[jV (g:=fun x y=>dV Es x y) ha hb];simp only[h,ne_eq,a8N,a5S,a2l];exact⟨trivial,ha⟩
 .rw[show iw 15 a b=(uM a b).1 from rfl,show bI 15 a b=a by simp[bI,BN ha h]];unfold uM jZ;rw[a7V ha hb (wP 0▸uO 0)];simp[h];exact ha
 rw[show iw 16 a b=(uN a b).1 from rfl,show bI 16 a b=a by simp[bI,BN ha h]];unfold uN jZ;rw[a7V ha (wP 1▸uO 1) hb];simp[h];exact ha
theorem a4E{a b c}(ha:lS a)(hb:lS b)(hc:lS c):(jZ a b c).1=KN a b c/\lS (KN a b c):=by
 unfold jZ KN;rw[a7V ha hb hc];by_cases h:a.f=0
 .by_cases hz:a.n=0
  .simp[h,hz];exact hc
  simp[h,hz];exact hb
 have:=BN ha h;simp only[a1z]at this;simp[h,this];exact ha
open Go.Shelf
def a4F:Go.Shelf.Ren:=⟨fun| 189=>137| 125=>180| 257=>179| 128=>216| 129=>217| 294=>207| 295=>208| 296=>209| 297=>210| 298=>211| 299=>212| 216=>213| 300=>214| 301=>215| 328=>229| 329=>230| 330=>231| 331=>232| 332=>233| 215=>219| 343=>235|n=>n,fun| 28=>22| 3=>3| 46=>184| 0=>0| 51=>204| 53=>207| 4=>4| 183=>212| 182=>211| 131=>152| 5=>5| 9=>9| 218=>227| 222=>231| 228=>233| 229=>192|n=>n,fun|n=>n⟩
theorem adD:Lays.n189 Tryz.prog a4F where
 mixed:=by kernel_rfl
 f125:=Tryz.func180.trans (congrArg some (by kernel_rfl))
 f128:=Tryz.func216.trans (congrArg some (by kernel_rfl))
 f129:=Tryz.func217.trans (congrArg some (by kernel_rfl))
 f189:=Tryz.func137.trans (congrArg some (by kernel_rfl))
 f215:=Tryz.func219.trans (congrArg some (by kernel_rfl))
 f216:=Tryz.func213.trans (congrArg some (by kernel_rfl))
 f257:=Tryz.func179.trans (congrArg some (by kernel_rfl))
 f294:=Tryz.func207.trans (congrArg some (by kernel_rfl))
 f295:=Tryz.func208.trans (congrArg some (by kernel_rfl))
 f296:=Tryz.func209.trans (congrArg some (by kernel_rfl))
 f297:=Tryz.func210.trans (congrArg some (by kernel_rfl))
 f298:=Tryz.func211.trans (congrArg some (by kernel_rfl))
 f299:=Tryz.func212.trans (congrArg some (by kernel_rfl))
 f300:=Tryz.func214.trans (congrArg some (by kernel_rfl))
 f301:=Tryz.func215.trans (congrArg some (by kernel_rfl))
 f328:=Tryz.func229.trans (congrArg some (by kernel_rfl))
 f329:=Tryz.func230.trans (congrArg some (by kernel_rfl))
 f330:=Tryz.func231.trans (congrArg some (by kernel_rfl))
 f331:=Tryz.func232.trans (congrArg some (by kernel_rfl))
 f332:=Tryz.func233.trans (congrArg some (by kernel_rfl))
 f343:=Tryz.func235.trans (congrArg some (by kernel_rfl))
 t0:=Tryz.underlying0
 a0:=Tryz.isAgg0
 z0:=Tryz.sizeOf0
 v0:=Tryz.zeroValue0
 t3:=Tryz.underlying3
 a3:=Tryz.isAgg3
 z3:=Tryz.sizeOf3
 v3:=Tryz.zeroValue3
 t4:=Tryz.underlying4
 a4:=Tryz.isAgg4
 z4:=Tryz.sizeOf4
 v4:=Tryz.zeroValue4
 t5:=Tryz.underlying5
 a5:=Tryz.isAgg5
 z5:=Tryz.sizeOf5
 v5:=Tryz.zeroValue5
 t9:=Tryz.underlying9
 a9:=Tryz.isAgg9
 z9:=Tryz.sizeOf9
 v9:=Tryz.zeroValue9
 t28:=Tryz.underlying22
 a28:=Tryz.isAgg22
 z28:=Tryz.sizeOf22
 v28:=Tryz.zeroValue22
 t46:=Tryz.underlying184
 a46:=Tryz.isAgg184
 z46:=Tryz.sizeOf184
 v46:=Tryz.zeroValue184
 t51:=Tryz.underlying204
 a51:=Tryz.isAgg204
 z51:=Tryz.sizeOf204
 v51:=Tryz.zeroValue204
 t53:=Tryz.underlying207
 a53:=Tryz.isAgg207
 z53:=Tryz.sizeOf207
 v53:=Tryz.zeroValue207
 t131:=Tryz.underlying152
 a131:=Tryz.isAgg152
 z131:=Tryz.sizeOf152
 v131:=Tryz.zeroValue152
 t182:=Tryz.underlying211
 a182:=Tryz.isAgg211
 z182:=Tryz.sizeOf211
 v182:=Tryz.zeroValue211
 t183:=Tryz.underlying212
 a183:=Tryz.isAgg212
 z183:=Tryz.sizeOf212
 v183:=Tryz.zeroValue212
 t218:=Tryz.underlying227
 a218:=Tryz.isAgg227
 z218:=Tryz.sizeOf227
 v218:=Tryz.zeroValue227
 t222:=Tryz.underlying231
 a222:=Tryz.isAgg231
 z222:=Tryz.sizeOf231
 v222:=Tryz.zeroValue231
 t228:=Tryz.underlying233
 a228:=Tryz.isAgg233
 z228:=Tryz.sizeOf233
 v228:=Tryz.zeroValue233
 t229:=Tryz.underlying192
 a229:=Tryz.isAgg192
 z229:=Tryz.sizeOf192
 v229:=Tryz.zeroValue192
open Go.RowKit Go.Lib Go.Proofs
section
variable{P:LI1}
theorem qK(w dT sT ty elem b o dLen dCap a sLen sCap cs sz k)(hu:P.underlying dT=some (.slice elem)) (hs:(P.info? elem).map (·.size)=some sz) (hk:Nat.min sLen dLen=k) (hn:cs.length=k*sz)(lN:∀j v,cs[j]? = some v->w.cell? (a.add j)=some v) (hc:∀j,j<cs.length->(w.cell? ⟨b,o+j,none⟩).isSome=true) (hf:∀j,j<cs.length->w.frozen? ⟨b,o+j,none⟩=false) (h1:∀v∈cs,v.oneCell'=true) :(Builtin.copy_ #[dT,sT] ty #[.slice (some ⟨b,o,none⟩) dLen dCap,.slice (some a) sLen sCap]).run P w=.ok (goInt k) (w.setCells b o cs):=by
 have hl:=run_loadCells_list (P:=P) w a cs lN;have vH:=run_storeCells_cells (P:=P) b o cs 0 w (by simpa using hc) (by simpa using hf) h1;cases hq:P.info? elem with
 |none=>simp[hq]at hs
 |some i=>
  have hi:i.size=sz:=by simpa[hq]using hs
  rw[hn]at hl;simp[Builtin.copy_,run_underlying hu,Builtin.lenOf,Builtin.firstCells,sizeOf,typeInfo,hq,hi,hk,hl,vH]
end
set_option maxHeartbeats 4000000 in
set_option maxRecDepth 100000 in
theorem a0M(b n c vb rM vc cs vs w)(hn:0<n)(xu:n+1<=c)(akB:c<=9223372036854775807)(hvb:vb≠b)(nR:cs.length=n*5) (hvl:vs.length=5)(JR:∀j v,cs[j]? = some v->w.cell? ⟨b,j,none⟩=some v) (hsp:∀j,j<(n+1)*5->(w.cell? ⟨b,j,none⟩).isSome=true) (hfz:∀j,j<(n+1)*5->w.frozen? ⟨b,j,none⟩=false)(RF:∀j v,vs[j]? = some v->w.cell? ⟨vb,rM+j,none⟩=some v) (h1c:∀v∈cs,v.oneCell'=true) (h1v:∀v∈vs,v.oneCell'=true)(tA tB kA kB) (hsa:w.shape? vb=some (tA,kA)) (hsb:w.shape? b=some (tB,kB)) (hkB:kB≠0) (hfa:w.frozen? ⟨vb,rM,none⟩=false) (hfe:w.frozen? ⟨vb,kA,none⟩=false) :Calls Tryz.prog 118 #[.slice (some ⟨b,0,none⟩) n c,.int .i64 0,.slice (some ⟨vb,rM,none⟩) 1 vc] w fun e w'=> e=.returned (.slice (some ⟨b,0,none⟩) (n+1) c)/\w'=(w.drew.setCells b 5 cs).setCells b 0 vs:=by
 have qV:(Tryz.prog.info? 26).map (·.size)=some 5:=by kernel_rfl
 have hov:∀lb cb,(callFunc 170 #[.slice (some ⟨vb,rM,none⟩) 1 vc,.slice (some ⟨b,5,none⟩) lb cb]).run Tryz.prog w=.ok (.value (.bool false)) w:=fun lb cb=>by
  rw[run_callFunc_extern Tryz.func170 (by kernel_rfl) (by kernel_rfl) (by kernel_rfl) (e:=Extern.SlicesOverlaps.overlaps #[56,56] #[4]) (by kernel_rfl),
   Lib.run_overlaps_apart w 56 4 26 Tryz.underlying56 5 Tryz.sizeOf26 ⟨vb,rM,none⟩ ⟨b,5,none⟩ 1 vc lb cb hvb tA tB kA kB hsa hsb hkB hfa hfe]
  rfl
 have hz2:¬((0:Int)=(n:Int)):=by omega
 have akD:∀ty dc sc,(Builtin.copy_ #[56,56] ty #[.slice (some ⟨b,5,none⟩) n dc,.slice (some ⟨b,0,none⟩) (n+1) sc]).run Tryz.prog w.drew=.ok (goInt n) (w.drew.setCells b 5 cs):=fun ty dc sc=>
  qK w.drew _ _ ty 26 b 5 n dc ⟨b,0,none⟩ (n+1) sc cs 5 n Tryz.underlying56 qV (by simp only[Nat.min_def];split<;>omega) nR
   (fun j v hj=>by rw[Addr.add_lit,a3C];exact JR j v hj)
   (fun j hj=>hsp _ (by omega)) (fun j hj=>hfz _ (by omega)) h1c
 obtain⟨W1,hW1⟩:∃W1,W1=w.drew.setCells b 5 cs:=⟨_,rfl⟩;have aqW:∀k,k<(n+1)*5->(W1.cell? ⟨b,k,none⟩).isSome=true:=fun k hk=>by rw[hW1];exact isSome_setCells b cs 5 w.drew (fun j hj=>hsp (5+j) (by omega)) k (hsp k hk)
 have aqX:∀(W:LI4),(∀x,W.cell? x=W1.cell? x)->(∀x,W.frozen? x=W1.frozen? x)->∀ty dc,(Builtin.copy_ #[56,56] ty #[.slice (some ⟨b,0,none⟩) (n+1) dc,.slice (some ⟨vb,rM,none⟩) 1 vc]).run Tryz.prog W=.ok (goInt 1) (W.setCells b 0 vs):=fun W hWc hWf ty dc=>
  qK W _ _ ty 26 b 0 (n+1) dc ⟨vb,rM,none⟩ 1 vc vs 5 1 Tryz.underlying56 qV (by simp only[Nat.min_def];split<;>omega) (by omega)
   (fun j v hj=>by rw[Addr.add_lit,hWc,hW1,World.cell?_setCells_out b _ _ _ _ (fun h _=>absurd h hvb)];exact RF j v hj)
   (fun j hj=>by rw[hWc];exact aqW _ (by omega)) (fun j hj=>by rw[hWf,hW1,World.frozen?_setCells];exact hfz _ (by omega)) h1v
 rw[<-hW1]at akD;have hw1:i64.wrap ((n:Int)+1)=(n:Int)+1:=by rw[IntKind.wrap_i64];omega
 have mixed:Tryz.prog.follows .mixedOrders=true:=by kernel_rfl
 have hw3:i64.wrap 1=1:=by decide
 have CZ:(1:Int)<=(n:Int)+1:=by omega
 have hb3:(0:Int)<=(n:Int)+1:=by omega
 have hc1:¬(c=1):=by omega
 have hc0:¬(c=0):=by omega
 go_enter Tryz.func118,Tryz.ntmps118
 go_wp2_with (simp only[hov])
 go_region_law_o (refine step_copy_runI rfl _ _ 56 56 rfl _ _ (by simp[Act.eval,Act.put]) (by simp[Act.eval,Act.put]) (akD _ _ _) ?_)
 go_wp2_with (at_builtin;refine wpList_copy_runI _ rfl _ _ 56 56 rfl _ _ rfl rfl (aqX _ (fun _=>rfl) (fun _=>rfl) _ _) ?_)
 go_ret
 first|exact⟨rfl,rfl⟩|exact⟨rfl,by rw[hW1]⟩
abbrev Qr:LI3:=.agg #[.slice none 0 0,.slice none 0 0,.slice none 0 0,.slice none 0 0,.int .i64 0]
theorem a7W:(Tryz.prog.info? 26).map (fun i=>(i.zero,i.size,i.bytes))=some (some Qr,5,104):=by kernel_rfl
set_option maxHeartbeats 4000000 in
set_option maxRecDepth 100000 in
theorem a4G(b n c vb rM vc cs vs w)(hn:0<n)(hnc:n<=c)(xu:c<n+1)(FD:n<=2^20)(nR:cs.length=n*5) (hvl:vs.length=5)(JR:∀j v,cs[j]? = some v->w.cell? ⟨b,j,none⟩=some v)(RF:∀j v,vs[j]? = some v->w.cell? ⟨vb,rM+j,none⟩=some v) (h1c:∀v∈cs,v.oneCell'=true) (h1v:∀v∈vs,v.oneCell'=true) :Calls Tryz.prog 118 #[.slice (some ⟨b,0,none⟩) n c,.int .i64 0,.slice (some ⟨vb,rM,none⟩) 1 vc] w fun e w'=> e=.returned (.slice (some ⟨w.heap.size,0,none⟩) (n+1) (grownCap w (n+1) c 26)) /\w'=(((w.alloc (.cells (Builtin.zeroCells Qr.cells (n+1)++Builtin.zeroCells Qr.cells (grownCap w (n+1) c 26-(n+1))) 26)).drew.setCells w.heap.size 0 vs).drew).setCells w.heap.size 5 cs:=by
 obtain⟨i0,hi0,hz0,hzs,hzb⟩:=info_parts a7W;have hz2:¬((0:Int)=(n:Int)):=by omega
 have hz3:(c:Int)<(n:Int)+1:=by omega
 have qV:(Tryz.prog.info? 26).map (·.size)=some 5:=by kernel_rfl
 have hbw:b<w.heap.size:=block_lt_of_cell (JR 0 _ (a0A (by omega)));have hvw:vb<w.heap.size:=block_lt_of_cell (RF 0 _ (a0A (by omega)));have hold:(Builtin.firstCells i0.size 0 (.slice (some ⟨b,0,none⟩) 0 c)).run Tryz.prog w.drew=.ok ([]:List LI3).toArray w.drew:=by rw[hzs];exact run_firstCells_some w.drew 5 0 ⟨b,0,none⟩ 0 c [] (by simp) (fun j v hj=>by simp at hj)
 have hrz:∀ty,(Builtin.append_ #[56,3] ty #[.slice (some ⟨b,0,none⟩) 0 c,.int .i64 ((n:Int)+1)]).run Tryz.prog w =
   .ok (.slice (some ⟨w.heap.size,0,none⟩) (n+1) (grownCap w (n+1) c 26)) (w.drew.alloc (.cells (Builtin.zeroCells Qr.cells (n+1)++Builtin.zeroCells Qr.cells (grownCap w (n+1) c 26-(n+1))) 26)):=fun ty=>by
  have h:=Lib.run_append_grow_zeros w 56 3 ty 26 i0 _ .i64 .i64 Tryz.underlying56 Tryz.underlying3 hi0 hz0 (some ⟨b,0,none⟩) 0 c [] hold (n+1) (by omega) (by rw[hzs];omega) (by omega) (by omega) (by rw[hzb];omega) (by rw[hzb,a3C];exact growslice_fits xu (by omega));rw[a3C]at h;simpa using h
 obtain⟨G,hG⟩:∃G,G=grownCap w (n+1) c 26:=⟨_,rfl⟩;obtain⟨ROW,hROW⟩:∃ROW:Array LI3,ROW=Builtin.zeroCells Qr.cells (n+1)++Builtin.zeroCells Qr.cells (G-(n+1)):=⟨_,rfl⟩;rw[<-hG]at hrz ⊢;rw[<-hROW]at hrz ⊢;have hRl:(n+1)*5<=ROW.size:=by rw[hROW];simp[Builtin.zeroCells,Value.cells]
 obtain⟨W1,hW1⟩:∃W1,W1=w.drew.alloc (.cells ROW 26):=⟨_,rfl⟩;rw[<-hW1]at hrz;have hN:∀j,j<(n+1)*5->(W1.cell? ⟨w.heap.size,j,none⟩).isSome=true:=fun j hj=>by rw[hW1,World.cell?_alloc_at (w:=w.drew) ROW _ w.heap.size j rfl,a4j (by omega)];rfl
 have hNf:∀j,W1.frozen? ⟨w.heap.size,j,none⟩=false:=fun j=>by rw[hW1];exact World.frozen?_alloc_at (w:=w.drew) ROW _ w.heap.size j rfl
 have hOb:∀j v,w.cell? ⟨b,j,none⟩=some v->W1.cell? ⟨b,j,none⟩=some v:=fun j v h=>by rw[hW1,World.cell?_alloc_past (w:=w.drew) _ b j hbw];exact h
 have hOv:∀j v,w.cell? ⟨vb,j,none⟩=some v->W1.cell? ⟨vb,j,none⟩=some v:=fun j v h=>by rw[hW1,World.cell?_alloc_past (w:=w.drew) _ vb j hvw];exact h
 have aqY:∀(W:LI4),(∀x,W.cell? x=W1.cell? x)->(∀x,W.frozen? x=W1.frozen? x)->∀ty dc,(Builtin.copy_ #[56,56] ty #[.slice (some ⟨w.heap.size,0,none⟩) (n+1) dc,.slice (some ⟨vb,rM,none⟩) 1 vc]).run Tryz.prog W=.ok (goInt 1) (W.setCells w.heap.size 0 vs):=fun W hWc hWf ty dc=>
  qK W _ _ ty 26 w.heap.size 0 (n+1) dc ⟨vb,rM,none⟩ 1 vc vs 5 1 Tryz.underlying56 qV (by simp only[Nat.min_def];split<;>omega) (by omega)
   (fun j v hj=>by rw[Addr.add_lit,hWc];exact hOv _ v (RF j v hj))
   (fun j hj=>by rw[hWc];exact hN _ (by omega)) (fun j hj=>by rw[hWf];exact hNf _) h1v
 have hGn:n+1<=G:=by rw[hG];exact grownCap_ge w _ _ _
 have axc:G<=9223372036854775807:=by have:=grownCap_le_maxLen w (n+1) c 26 (by unfold maxLen;omega);rw[<-hG]at this;unfold maxLen at this;omega
 have hG0:¬(G=0):=by omega
 have hG1:¬(G=1):=by omega
 have hc0:¬(c=0):=by omega
 have hbN:b≠w.heap.size:=by omega
 have akF:∀(W:LI4),(∀x,W.cell? x=(W1.setCells w.heap.size 0 vs).cell? x)->(∀x,W.frozen? x=(W1.setCells w.heap.size 0 vs).frozen? x)->∀ty dc sc,(Builtin.copy_ #[56,56] ty #[.slice (some ⟨w.heap.size,5,none⟩) n dc,.slice (some ⟨b,0,none⟩) n sc]).run Tryz.prog W=.ok (goInt n) (W.setCells w.heap.size 5 cs):=fun W hWc hWf ty dc sc=>
  qK W _ _ ty 26 w.heap.size 5 n dc ⟨b,0,none⟩ n sc cs 5 n Tryz.underlying56 qV (by simp only[Nat.min_def];split<;>omega) nR
   (fun j v hj=>by rw[Addr.add_lit,hWc,World.cell?_setCells_out _ _ _ _ _ (fun h _=>absurd h hbN),a3C];exact hOb _ v (JR j v hj))
   (fun j hj=>by rw[hWc];exact isSome_setCells _ _ _ _ (fun t ht=>hN _ (by omega)) _ (hN _ (by omega)))
   (fun j hj=>by rw[hWf,World.frozen?_setCells];exact hNf _) h1c
 subst hW1;have hE1:∀x,((w.alloc (.cells ROW 26)).drew).cell? x=(w.drew.alloc (.cells ROW 26)).cell? x:=fun x=>rfl;have hE2:∀x,((w.alloc (.cells ROW 26)).drew).frozen? x=(w.drew.alloc (.cells ROW 26)).frozen? x:=fun x=>rfl;have hF1:∀x,(((w.alloc (.cells ROW 26)).drew.setCells w.heap.size 0 vs).drew).cell? x=((w.drew.alloc (.cells ROW 26)).setCells w.heap.size 0 vs).cell? x:=fun x=>rfl;have hF2:∀x,(((w.alloc (.cells ROW 26)).drew.setCells w.heap.size 0 vs).drew).frozen? x=((w.drew.alloc (.cells ROW 26)).setCells w.heap.size 0 vs).frozen? x:=fun x=>rfl;have hw1:i64.wrap ((n:Int)+1)=(n:Int)+1:=by rw[IntKind.wrap_i64];omega
 have hw3:i64.wrap 1=1:=by decide
 have mixed:Tryz.prog.follows .mixedOrders=true:=by kernel_rfl
 have CZ:(1:Int)<=(n:Int)+1:=by omega
 have hb3:(0:Int)<=(n:Int)+1:=by omega
 clear hold hROW hG hRl
 go_enter Tryz.func118,Tryz.ntmps118
 go_wp2_with (first
  |(at_builtin;refine Lib.wpList_append_run _ rfl _ _ _ _ rfl _ _ rfl rfl _ _ (hrz _) ?_)
  |(at_builtin;refine wpList_copy_runI _ rfl _ _ 56 56 rfl _ _ rfl rfl (aqY _ hE1 hE2 _ _) ?_)
  |(at_builtin;refine wpList_copy_runI _ rfl _ _ 56 56 rfl _ _ rfl rfl (akF _ (fun _=>rfl) (fun _=>rfl) _ _ _) ?_))
 go_region_law_o (refine step_copy_runI rfl _ _ 56 56 rfl (.slice (some ⟨w.heap.size,5,none⟩) n (G-1)) (.slice (some ⟨b,0,none⟩) n c) (by simp[Act.eval,Act.put]) (by simp[Act.eval,Act.put]) (akF _ hF1 hF2 3 (G-1) c) ?_)
 go_wp2
 go_ret
 exact⟨rfl,rfl⟩
set_option maxHeartbeats 4000000 in
set_option maxRecDepth 100000 in
theorem a7X(base vb rM vc)(vs:List LI3)(w)(hvl:vs.length=5)(RF:∀j v,vs[j]? = some v->w.cell? ⟨vb,rM+j,none⟩=some v) (h1v:∀v∈vs,v.oneCell'=true) :Calls Tryz.prog 118 #[.slice base 0 0,.int .i64 0,.slice (some ⟨vb,rM,none⟩) 1 vc] w fun e w'=> e=.returned (.slice (some ⟨w.heap.size,0,none⟩) 1 (grownCap w 1 0 26)) /\w'=w.drew.alloc (.cells (vs.toArray++Builtin.zeroCells Qr.cells (grownCap w 1 0 26-1)) 26):=by
 have mixed:Tryz.prog.follows .mixedOrders=true:=by kernel_rfl
 obtain⟨i0,hi0,hz0,hzs,hzb⟩:=info_parts a7W;have lN:Src Tryz.prog i0.size 56 (.slice (some ⟨vb,rM,none⟩) 1 vc) 1 vs w:=by rw[hzs];exact Src.ofSlice w Tryz.underlying56 ⟨vb,rM,none⟩ 1 vc vs (by omega) (fun j u hj=>by rw[Addr.add_lit];exact RF j u hj) h1v
 have hold:(Builtin.firstCells i0.size 0 (.slice base 0 0)).run Tryz.prog w.drew=.ok ([]:List LI3).toArray w.drew:=by
  rw[hzs];cases base with
  |none=>exact run_firstCells_none w.drew 5 0 0 0
  |some a=>exact run_firstCells_some w.drew 5 0 a 0 0 [] (by simp) (fun j v hj=>by simp at hj)
 have uy:∀ty,(Builtin.append_ #[56,56] ty #[.slice base 0 0,.slice (some ⟨vb,rM,none⟩) 1 vc]).run Tryz.prog w=_:=fun ty=>
  run_append_grow_src w 56 56 ty 26 i0 _ Tryz.underlying56 hi0 hz0 base 0 0 [] hold _ 1 vs lN (by omega) (by omega) (by rw[hzb];exact growslice_fits (by omega) (by omega))
 go_enter Tryz.func118,Tryz.ntmps118
 cases base with
 |none=>
  go_wp2_with (at_builtin;refine Lib.wpList_append_run _ rfl _ _ _ _ rfl _ _ rfl rfl _ _ (uy _) ?_)
  go_ret
  exact⟨rfl,rfl⟩
 |some a=>
  obtain⟨ab,ao,asp⟩:=a
  go_wp2_with (at_builtin;refine Lib.wpList_append_run _ rfl _ _ _ _ rfl _ _ rfl rfl _ _ (uy _) ?_)
  all_goals (go_ret;exact⟨rfl,rfl⟩)
def Nl:dM
 |.fn f [] [],[d,.int .i64 0,.aP vb rM 1 akH 5 vex],h=>
  if f=118 then
   match h[vb]? with
   |some (.cells kv vcs)=>if kv=.ro\/(kv=.last/\rM+akH*5≠vcs.length)then none else
    match sub vcs rM 5 with
    |some vs=>match d with
     |.nil .aP=>some (.aP h.length 0 1 1 5 false,h++[.cells .own vs],[])
     |.aP b off n n' 5 ex=>if n=0 then(if n'=0/\ex=true then some (.aP h.length 0 1 1 5 false,h++[.cells .own vs],[])else none)else match h[b]? with
      |some (.cells k cs)=>if k≠.ro/\off=0/\n=n'/\cs.length=n*5/\n<=2^20/\vb≠b then some (.aP b 0 (n+1) (n+1) 5 false,h.set b (.cells .last (vs++cs)),[b])else none
      |_=>none
     |_=>none
    |_=>none
   |_=>none
  else none
 |_,_,_=>none
section
variable{P:LI1}
theorem Qs{M w h}(hV:Valid M rW (lK h) w){b off len cap ex y}(hx:VR M.h (.aP b off len cap 5 ex) y)(h0:0<len){k cs r}(hb:h[b]? = some (.cells k cs))(hk:k≠.ro)(hl:k=.last->off+cap*5=cs.length) (hr:sub cs off (len*5)=some r) :∃ls p cap',M (.h b)=some (.cells ls)/\p∈ls/\y=.slice (some ⟨p.c,off,none⟩) len cap'/\len<=cap'/\cap<=cap'/\(ex=true->cap'=cap)/\off+cap*5<=p.ext/\off+cap'*5<=p.tot/\cap'<2^63/\JL M.h w k cs p/\p.base=0/\(∀c∈cs,iR c=true) /\∃xs,bZ M.h r xs/\∀(j) (v),xs[j]? = some v->w.cell? ⟨p.c,off+j,none⟩=some v:=by
 cases hx with
 |aP hm hp yB hle tZ hex ha abe=>
  rename_i ls p a cap';obtain⟨gW,h1,h2⟩:=hV.ok _ _ hm trivial;have hg:lK h (.h b)=some (.cells k cs):=by simp[St.get,hb]
  rw[hg]at h1;cases h1;have hp:=hp.resolve_left (by omega);have zq:=h2.2.1 p hp;have yu:=zq.base hk;rcases ha with ha|⟨rfl,ha⟩
  .omega
  obtain⟨xs,g1,g2⟩:=zq.slice hr (by omega) (fun e=>by have:=hl e;have:=zq.ext;omega);rw[yu]at g2 ha ⊢;simp only[a3C]at g2 ha yB ⊢;exact⟨ls,p,cap',hm,hp,rfl,by omega,tZ,hex,yB,ha,abe,zq,yu,h2.1,xs,g1,g2⟩
theorem adF{M w w' h}(hV:Valid M rW (lK h) w)(vI:∀k,M (.l k)=none){b n k cs vs ls p}(hm:M (.h b)=some (.cells ls))(hb:h[b]? = some (.cells k cs))(hk:k≠.ro) (hp:p∈ls) (yB:p.ext=cs.length) (nR:cs.length=n*5) (hvl:vs.length=5) (vW:∀c∈vs++cs,iR c=true) (g arr ty)(wo:w'.heap[g]? = some (.cells arr ty (0,0))) (Rq:∀c,c<w.heap.size->c≠g->w'.heap[c]? = w.heap[c]?) (hg:(g=p.c/\arr.size=p.tot)\/g=w.heap.size)(qV:w.heap.size<=w'.heap.size) (ho:w'.os=w.os) (hou:w'.output=w.output) (ht:w'.tape=w.tape) {a4H} (tZ:n+1<=a4H) (av1:a4H*5<=arr.size) (akB:a4H<2^63)(VL:∀(i:Nat) (c) (x),(vs++cs)[i]? = some c->arr[i]? = some x->VR M.h c x) :jF M h w (.aP b 0 (n+1) (n+1) 5 false) (h.set b (.cells .last (vs++cs))) [b] (.slice (some ⟨g,0,none⟩) (n+1) a4H) w':=by
 have hl:(vs++cs).length=(n+1)*5:=by rw[a1v];omega
 obtain⟨M',q,h1,h2,⟨qC,h3,h4⟩,h5,h6,h7,h8⟩:=agr (s:=⟨[],[],h,[]⟩) (D:=rW) (new:=vs++cs) hV hm trivial hb hk hp yB vW (by rw[a1v];omega) g arr ty wo Rq hg qV ho hou ht (by omega) VL;refine⟨M',h1,fun k=>?_,h2,?_⟩
 .rw[h2.l7 (.l k) (.inr (by simp[St.get])) (by simp)];exact vI k
 .exact .aP (p:=q) h3 (.inr h4) (by rw[h5];omega) (a1j _) tZ (fun e=>by cases e) (.inr ⟨by rw[h7,h6],by rw[h6,h8];omega⟩) akB
theorem abn:iQ Tryz.prog Nl:=by
 intro fv args h v h' ws hc M w x xs hV vI hx Gz;unfold Nl at hc;split at hc
 case h_2=>cases hc
 rename_i f d vb rM akH vex;split at hc
 case isFalse=>cases hc
 rename_i hf;subst hf;split at hc
 case h_2=>cases hc
 rename_i kv vcs hvb;split at hc
 .cases hc
 rename_i D8;simp only[ade,not_and,Decidable.not_not]at D8;split at hc
 case h_2=>cases hc
 rename_i vx mg;cases hx with
 | @fn _ _ _ ys zs h1 h1a h3 h3a=>
 have:ys=[]:=a4o h1.symm;subst this;have:zs=[]:=a4o h3.symm;subst this;obtain⟨dv,r1,rfl,hdv,Gz⟩:=Gz.iE;obtain⟨iv,r2,rfl,hiv,Gz⟩:=Gz.iE;obtain⟨sv,r3,rfl,hsv,Gz⟩:=Gz.iE;have:=Gz.oV;subst this;cases hiv;obtain⟨lsv,pv,Qu,m1,m2,rfl,m3,m4,_,m5,m6,m7,m8,m9,m10,X7,m11,Yw⟩:=Qs hV hsv (by omega) hvb D8.1 D8.2 mg;have hvl:X7.length=5:=by rw[<-m11.len];exact(oz mg).2.2
 have hvx:vx.length=5:=(oz mg).2.2;have a7Y:∀c∈vx,iR c=true:=fun c DY=>m10 c (a5N (a7q (by rw[<-(oz mg).2.1];exact DY)));have X6:∀u∈X7,u.oneCell'=true:=a2y m11 a7Y;obtain⟨aqZ,tyv,fzv,w1,w2,w3,_⟩:=m8.row;have:=w3 D8.1;subst this;have enters:∀{R:LI3->LI4->Prop},Calls Tryz.prog 118 #[dv,.int .i64 0,.slice (some ⟨pv.c,rM,none⟩) 1 Qu] w (JX R) ->
   ∃d,(∀w,(Deferred.ofValue (.func (.func 118) [].toArray [].toArray) [dv,.int .i64 0,.slice (some ⟨pv.c,rM,none⟩) 1 Qu].toArray).run Tryz.prog w=.ok d w)/\((EL Tryz.prog d w R/\∃f a b,(TV.fn 118 [] [])=.fn f a b)\/(Io Tryz.prog d w R/\∃l,(TV.fn 118 [] [])=.lJ l)):=by
  intro R KG;refine⟨{ target:=.fn (.func 118) #[],args:=#[dv,.int .i64 0,.slice (some ⟨pv.c,rM,none⟩) 1 Qu] },fun w=>by simp[Deferred.ofValue],.inl ⟨⟨118,_,?_,fun n=>callsIn_wide.2 KG⟩,_,_,_,rfl⟩⟩;have e1:Tryz.prog.funcs[118]? = some Tryz.f118:=Tryz.func118;have e2 : ¬ (Tryz.f118.name = "runtime.NumGoroutine") := by decide +kernel
  obtain⟨c,e3⟩:∃c,Tryz.f118.body=some c:=⟨_,rfl⟩;simp[invoke,callFunc,program,Sem.run,e1,e2,e3]
 have fresh:∀{base:Option Addr},dv=.slice base 0 0->v=.aP h.length 0 1 1 5 false->h'=h++[.cells .own vx]->ws=[]->∃d,(∀w,(Deferred.ofValue (.func (.func 118) [].toArray [].toArray) [dv,.int .i64 0,.slice (some ⟨pv.c,rM,none⟩) 1 Qu].toArray).run Tryz.prog w=.ok d w)/\((EL Tryz.prog d w (jF M h w v h' ws)/\∃f a b,(TV.fn 118 [] [])=.fn f a b)\/(Io Tryz.prog d w (jF M h w v h' ws)/\∃l,(TV.fn 118 [] [])=.lJ l)):=by
  rintro base rfl rfl rfl rfl;refine enters ?_;refine(a7X base pv.c rM Qu X7 w hvl Yw X6).mono fun e w' ⟨he,hw⟩=>?_;subst he;subst hw;have hgl:=MJ (w:=w) (need:=1) (old:=0) (e:=26) (by omega);have CY:=grownCap_ge (w:=w) (need:=1) (old:=0) (e:=26);obtain⟨M',hp⟩:=OI (s:=⟨[],[],h,[]⟩) (D:=rW) (size:=5) (len:=1) (cs:=vx) (pre:=X7.toArray) (rest:=Builtin.zeroCells Qr.cells (grownCap w 1 0 26-1)) (e:=26) hV
   (by
    cases hq:M (.h h.length)with
    |none=>rfl
    |some l=>have:=hV.has hq;simp[St.get]at this)
   (by simpa using m11) a7Y (by omega) CY hgl (by simp[Builtin.zeroCells,Value.cells])
  refine⟨M',⟨fun k l hk _=>hp.val.ok k l hk (.inl trivial),fun k k' l l' b a1 a2 a3 _=>hp.val.own k k' l l' b a1 a2 a3 (.inl trivial),hp.val.inb⟩,fun k=>?_,hp.ext,?_⟩
  .rw[hp.ext.l7 (.l k) (.inr (by simp[St.get])) (by simp)];exact vI k
  .exact hp.er.uU
 split at hc
 .-- nil
  simp only[a08,a1d]at hc;obtain⟨e1,e2,e3⟩:=hc;cases hdv;exact fresh rfl e1.symm e2.symm e3.symm
 .rename_i b off n n' ex;split at hc
  .-- an empty one
   rename_i Xk;split at hc
   case isFalse=>cases hc
   rename_i FX;obtain⟨rfl,rfl⟩:=FX;subst Xk;simp only[a08,a1d]at hc;obtain⟨e1,e2,e3⟩:=hc;cases hdv with
   |aP hm hp yB hle tZ hex ha abe=>
    cases hex rfl;exact fresh rfl e1.symm e2.symm e3.symm
  .-- a list
   rename_i Xk;split at hc
   case h_2=>cases hc
   rename_i k cs hb;split at hc
   case isFalse=>cases hc
   rename_i FX;obtain⟨hk,rfl,rfl,nR,akv,iO⟩:=FX;simp only[a08,a1d]at hc;obtain⟨rfl,rfl,rfl⟩:=hc;have a7J:sub cs 0 (n*5)=some cs:=by unfold sub;rw[a15 (by omega)];simp[<-nR]
   obtain⟨ls,p,cap',k1,k2,rfl,k3,k4,_,k5,k6,k7,k8,k9,k10,Zy,k11,k12⟩:=Qs hV hdv (by omega) hb hk (fun _=>by omega) a7J;have hpe:p.ext=cs.length:=by have:=k8.ext;omega
   obtain⟨arr,ty,fz,z1,z2,z3,_⟩:=k8.row;have:=z3 hk;subst this;have akI:Zy.length=n*5:=(by rw[<-k11.len,nR]);have akJ:∀u∈Zy,u.oneCell'=true:=a2y k11 k10;have vW:∀c∈vx++cs,iR c=true:=fun c hc=>by
    rcases a3E.1 hc with hc|hc
    .exact a7Y c hc
    .exact k10 c hc
   have hgb:lK h (.h b)=some (.cells k cs):=(by simp[St.get,hb]);have agI:pv.c≠p.c:=fun e=>by have:=hV.own (.h b) (.h vb) _ _ _ (by simp[afp iO]) k1 m1 trivial hgb (by cases k<;>simp_all [Tw.wr]) p.c (a1u.2 ⟨p,k2,rfl⟩);exact this (a1u.2 ⟨pv,m2,e⟩)
   have hrl:∀(i:Nat) (c:TV) (u:LI3),(vx++cs)[i]? = some c->(X7++Zy)[i]? = some u->VR M.h c u:=fun i c u hc hu=>(m11.append k11).at_ i c u hc hu;have akK:∀(j:Nat) (u:LI3),X7[j]? = some u->w.cell? ⟨pv.c,rM+j,none⟩=some u:=Yw;have akL:∀(j:Nat) (u:LI3),Zy[j]? = some u->w.cell? ⟨p.c,j,none⟩=some u:=fun j u hj=>by have:=k12 j u hj;rwa [a3C]at this
   refine enters ?_;by_cases xu:n+1<=cap'
   .have qV:(n+1)*5<=arr.size:=by have:(n+1)*5<=cap'*5:=a3I 5 xu;omega
    refine(a0M p.c n cap' pv.c rM Qu Zy X7 w (by omega) xu (by omega) agI akI hvl akL
     (fun j hj=>?_) (fun j hj=>?_) akK akJ X6 tyv ty aqZ.size arr.size (by simp[World.shape?,w1]) (by simp[World.shape?,z1]) (by omega) (by simp[World.frozen?,w1]) (by simp[World.frozen?,w1])).mono fun e w' ⟨he,hw⟩=>?_
    .simp only[World.cell?,z1];rw[a0S (by simp),a4j (by omega)];rfl
    .simp[World.frozen?,z1]
    .subst he;have s1:=sQ p.c ty (0,0) Zy 5 arr w.drew z1 (by omega);rw[s1]at hw;have z1':=uw w.drew p.c ((arr.toList.take 5++Zy++arr.toList.drop (5+Zy.length)).toArray) arr ty (0,0) z1;have RP:((arr.toList.take 5++Zy++arr.toList.drop (5+Zy.length)).toArray).size=arr.size:=by simp;omega
     rw[sQ p.c ty (0,0) X7 0 _ _ z1' (by rw[RP];omega),setRow_setRow]at hw;subst hw;refine adF hV vI k1 hb hk k2 hpe nR hvx vW p.c _ ty (uw w.drew p.c _ arr ty (0,0) z1) (fun c _ hcg=>nD w.drew p.c _ c hcg) (.inl ⟨rfl,?_⟩) (by simp[World.setRow]) rfl rfl rfl (a4H:=cap') xu ?_ k7 fun i c u hc hu=>hrl i c u hc ?_
     .simp only[aeB,a1v,a4c,a3Q,a8Z,RP];omega
     .simp only[aeB,a1v,a4c,a3Q,a8Z,RP];omega
     .have hi:i<(n+1)*5:=by have:=(a0u.1 hc).1;rw[a1v]at this;omega
      rw[zI i (by rw[RP];omega)]at hu;rw[<-hu];by_cases h0:i<5
      .rw[a0S (by omega),a15 (by omega),a0P (by omega)];simp
      .rw[a0S (by omega),a0S (by omega),zI i (by omega),a0S (by omega),a15 (by omega),a1p (by omega),hvl]
   .have hgl:=MJ (w:=w) (need:=n+1) (old:=cap') (e:=26) (by omega);have CY:=grownCap_ge (w:=w) (need:=n+1) (old:=cap') (e:=26);refine(a4G p.c n cap' pv.c rM Qu Zy X7 w (by omega) k3 (by omega) akv akI hvl akL akK akJ X6).mono fun e w' ⟨he,hw⟩=>?_;subst he;generalize hA:(Builtin.zeroCells Qr.cells (n+1)++Builtin.zeroCells Qr.cells (grownCap w (n+1) cap' 26-(n+1)))=A at hw;have hAs:A.size=grownCap w (n+1) cap' 26*5:=by rw[<-hA];simp[Builtin.zeroCells,Value.cells];omega
    have y1:((w.alloc (.cells A 26)).drew).heap[w.heap.size]? = some (.cells A 26 (0,0)):=heap_alloc_new w _;have axl:(n+1)*5<=A.size:=by rw[hAs];exact a3I 5 CY
    rw[sQ w.heap.size 26 (0,0) X7 0 A _ y1 (by omega)]at hw;have RP:((A.toList.take 0++X7++A.toList.drop (0+X7.length)).toArray).size=A.size:=by simp;omega
    have y2:=uw (w.alloc (.cells A 26)).drew w.heap.size ((A.toList.take 0++X7++A.toList.drop (0+X7.length)).toArray) A 26 (0,0) y1;have y3:(((w.alloc (.cells A 26)).drew.setRow w.heap.size ((A.toList.take 0++X7++A.toList.drop (0+X7.length)).toArray)).drew).heap[w.heap.size]? = some (.cells ((A.toList.take 0++X7++A.toList.drop (0+X7.length)).toArray) 26 (0,0)):=y2;rw[sQ w.heap.size 26 (0,0) Zy 5 _ _ y3 (by rw[RP];omega)]at hw;subst hw;refine adF hV vI k1 hb hk k2 hpe nR hvx vW w.heap.size _ 26 (uw _ w.heap.size _ _ 26 (0,0) y3) (fun c JR hcg=>?_) (.inr rfl) (by simp[World.setRow]) rfl rfl rfl (a4H:=grownCap w (n+1) cap' 26) CY ?_ hgl fun i c u hc hu=>hrl i c u hc ?_
    .rw[nD _ _ _ c hcg];show((w.alloc (.cells A 26)).drew.setRow w.heap.size _).heap[c]? = _;rw[nD _ _ _ c hcg];exact vC w _ c JR
    .simp only[aeB,a1v,a4c,a3Q,a8Z,RP];omega
    .have hi:i<(n+1)*5:=by have:=(a0u.1 hc).1;rw[a1v]at this;omega
     rw[zI i (by rw[RP];omega)]at hu;rw[<-hu];by_cases h0:i<5
     .rw[a15 h0,zI i (by omega),a0S (by omega),a15 (by omega),a0P (by omega)];simp
     .rw[a0S h0,a15 (by omega),a1p (by omega),hvl]
 .cases hc
end
def Tb:Tw.vw:={
 live:=[(14,[(0,[0]),(1,[0,20]),(2,[2]),(3,[3,4]),(4,[3,4,5,6]),(5,[3,4,5,6,7,8]),(6,[3,4,5,6,7,8,9]),(7,[3,4,7,8,76]),(8,[2]),(9,[3,4,7,8,10]),(10,[3,4,7,8,10,11]),(11,[3,4,7,8,10,11,89]),(12,[3,4,7,8,10,11]),(13,[3,4,7,8,10,11]),(14,[3,4,7,8,10,12]),(15,[3,4,7,8,10,12,104]),(16,[3,4,7,8,10,12]),(17,[3,4,7,8,10,12,113]),(18,[3,4,7,8,10,12]),(19,[3,4,7,8,10,115]),(20,[2]),(21,[2])]),
  (18,[(0,[1]),(1,[1,21]),(2,[2]),(3,[1,3]),(4,[1,3,26]),(5,[1,3]),(6,[1,3,36]),(7,[2]),(8,[2])]),
  (19,[(0,[]),(1,[1,2]),(2,[1,2,3,4]),(3,[1,2,3,4,5,6]),(4,[1,2,3,4,5,6,7,8]),(5,[1,2,3,4,5,6,7,8,9,10]),(6,[1,2,3,4,5,6,7,8,9,10,11,12]),(7,[1,2,3,4,5,6,7,8,9,10,11,12,13,14]),(8,[1,2,3,4,5,6,7,8,9,10,11,12,13,14,15,16]),(9,[1,2,3,4,5,6,7,8,9,10,11,12,13,14,16,17,18]),(10,[1,2,3,4,5,6,7,8,9,10,11,12,13,14,16,17,18,19,20]),(11,[1,3,4,5,6,7,8,9,10,11,12,13,14,16,17,18,20,21,22]),(12,[0])]),
  (20,[(0,[1,2,3,6]),(1,[1,2,3,6,8]),(2,[1,2,3,6,8,14]),(3,[6,7]),(4,[1,2,3,6,34]),(5,[6,7]),(6,[1,2,6,9]),(7,[6,9]),(8,[6,7])]),
  (21,[(0,[1,2]),(1,[1,2,3]),(2,[1,2,3,4]),(3,[1,2,3,4,21]),(4,[1,2,3,4]),(5,[1,2,3,4]),(6,[2])]),
  (22,[(0,[1]),(1,[1,3]),(2,[1,3,7]),(3,[2]),(4,[11]),(5,[2]),(6,[2])]),
  (23,[(0,[0,1,2]),(1,[6])]),
  (24,[(0,[1]),(1,[2])]),
  (25,[(0,[1,3,5]),(1,[6])]),
  (27,[(0,[2,3]),(1,[3,6,7]),(2,[3,6,7,15]),(3,[4,5]),(4,[4,5])]),
  (28,[(0,[2,3]),(1,[3,6,7]),(2,[3,6,7,17]),(3,[4,5]),(4,[3,6,21]),(5,[4,5]),(6,[3,6,29,30,31]),(7,[3,6,29,30,31,32]),(8,[3,6,8,9,29,30,31]),(9,[3,6,8,29,30,31,36,37]),(10,[3,6,8,29,30,31,36,37,38]),(11,[3,6,8,10,29,30,31,36,37]),(12,[3,6,8,29,30,31,36,37]),(13,[3,6,8,29,30,31,36,37,49]),(14,[3,6,8,29,30,31,36,37]),(15,[3,6,29,30,31]),(16,[4,5])]),
  (29,[(0,[1]),(1,[1,5]),(2,[2]),(3,[2])]),
  (32,[(0,[0,1]),(1,[0,1,10]),(2,[4]),(3,[0,1,5]),(4,[0,1,5,14]),(5,[0,1,5]),(6,[0,1,5,25]),(7,[4]),(8,[4])]),
  (33,[(0,[0,4,5,6]),(1,[0,4,5,6,8]),(2,[0,4,5,6,8,17]),(3,[6,7]),(4,[0,4,5,6,25]),(5,[6,7]),(6,[0,6,9]),(7,[0,6,9]),(8,[0,6,9,36]),(9,[6]),(10,[6,7]),(11,[0,6,9,10,11]),(12,[6,9,10,11,44]),(13,[6]),(14,[6,9,10,11,44,49]),(15,[6]),(16,[6,9,10,11,44,58]),(17,[6]),(18,[6,9,10,11,44,65]),(19,[6]),(20,[6,10,11,71]),(21,[6,10]),(22,[6,10]),(23,[6,10,81]),(24,[6]),(25,[6,7])]),
  (35,[(0,[2,3]),(1,[2,3,69]),(2,[4]),(3,[2,3,5]),(4,[2,3,5,74]),(5,[2,3,5]),(6,[2,3,5,87]),(7,[4]),(8,[4])]),
  (38,[(0,[0]),(1,[0,3]),(2,[0,3,11]),(3,[0,3]),(4,[0,3,19]),(5,[2]),(6,[2])]),
  (39,[(0,[0,3,4]),(1,[0,3,4,12]),(2,[4,5]),(3,[0,3,4,5]),(4,[0,3,4,5,20]),(5,[4,5]),(6,[0,3,4,25]),(7,[4,5]),(8,[0,3,4]),(9,[3,4,31,32,33]),(10,[3,4,31,32,33,34]),(11,[3,4,6,7,31,32,33]),(12,[3,4,6,8,31,32,33]),(13,[3,4,6,8,31,32,33,45]),(14,[4]),(15,[4,5]),(16,[3,4,6,9,31,32,33]),(17,[3,4,6,9,31,32,33,59]),(18,[3,4,31,32,33]),(19,[3,4,31,32,33]),(20,[4,5])]),
  (40,[(0,[0]),(1,[0,3]),(2,[0,3,4]),(3,[0,3,4,8]),(4,[0,3,4]),(5,[0,3,4]),(6,[2])]),
  (44,[(0,[1]),(1,[1,3]),(2,[1,3,7]),(3,[2]),(4,[1,3,4]),(5,[1,3,4,12]),(6,[1,3,4]),(7,[1,3,4]),(8,[2])]),
  (45,[(0,[0,4,5,6]),(1,[0,4,5,6,11]),(2,[0,4,5,6,11,12]),(3,[6,7]),(4,[0,4,5,6,20]),(5,[6,7]),(6,[4,5,6,8]),(7,[4,5,6,8,38]),(8,[6,7]),(9,[4,5,6,8,9,10]),(10,[4,5,6,8,9,47]),(11,[6,7]),(12,[6,7])]),
  (48,[(0,[0,2]),(1,[2])]),
  (49,[(0,[0]),(1,[2])]),
  (50,[(0,[0,1]),(1,[0,1,10]),(2,[4]),(3,[0,1,5]),(4,[0,1,5,14]),(5,[0,1,5]),(6,[0,1,5,27]),(7,[4]),(8,[4])]),
  (51,[(0,[1,2,4]),(1,[1,2,4,14]),(2,[4]),(3,[4])]),
  (52,[(0,[0,1]),(1,[0,1,5]),(2,[0,1,5,6]),(3,[0,1,5,6,10]),(4,[0,1,5,6]),(5,[0,1,5,6]),(6,[4])]),
  (53,[(0,[0,1]),(1,[0,1,5]),(2,[0,1,5,6]),(3,[0,1,5,6,14]),(4,[0,1,5,6]),(5,[0,1,5,6]),(6,[0,1,5,6]),(7,[4])]),
  (54,[(0,[0,1]),(1,[0,1,12]),(2,[4]),(3,[4])]),
  (56,[(0,[0]),(1,[2])]),
  (57,[(0,[0,1,2,3,8]),(1,[0,1,2,3,8,10]),(2,[0,1,2,3,8,10,17]),(3,[8,9]),(4,[0,1,2,3,8,36]),(5,[8,9]),(6,[0,2,3,8,11]),(7,[3,8,11,47,48]),(8,[3,8,11,47,48,49]),(9,[3,8,11,12,47,48]),(10,[3,8,11,12,47,48]),(11,[3,8,11,47,48]),(12,[3,8,11,47,48]),(13,[8,9])]),
  (58,[(0,[0,1]),(1,[0,1,8]),(2,[4]),(3,[0,1,5]),(4,[0,1,5,12]),(5,[0,1,5]),(6,[0,1,5,20]),(7,[4]),(8,[0,1,23]),(9,[4]),(10,[27]),(11,[4]),(12,[4])]),
  (62,[(0,[3,4,5,6]),(1,[3,4,5,6,8]),(2,[3,4,5,6,8,16]),(3,[6,7]),(4,[3,4,5,6,10]),(5,[3,4,5,6,10,27]),(6,[6,7]),(7,[6,7])]),
  (63,[(0,[3,4,5,6]),(1,[3,4,5,6,8]),(2,[3,4,5,6,8,15]),(3,[6,7]),(4,[6,7])]),
  (67,[(0,[1,2]),(1,[1,2,4]),(2,[1,2,4,9]),(3,[2,3]),(4,[2,3])]),
  (68,[(0,[0,1,2,6]),(1,[0,1,2,6,8]),(2,[0,1,2,6,8,17]),(3,[6,7]),(4,[2,6,9]),(5,[2,6,9,10]),(6,[2,6,9,10,31]),(7,[6,7]),(8,[6,9,34,35,36]),(9,[6,9,34,35,36,37]),(10,[6,9,12,34,35,36]),(11,[6,9,34,35,36]),(12,[6,9,34,35,36]),(13,[6,7])]),
  (69,[(0,[1,2]),(1,[1,2,3]),(2,[1,2,3,4]),(3,[1,2,3,4,10]),(4,[1,2,3,4]),(5,[1,2,3,4]),(6,[2])]),
  (70,[(0,[2,3]),(1,[4])]),
  (71,[(0,[0,1,2,6]),(1,[0,1,2,6,7]),(2,[0,1,2,6,7,8]),(3,[0,1,2,6,7,8,14]),(4,[0,1,2,6,7,8]),(5,[0,1,2,6,7,8,9]),(6,[0,1,2,6,7,8,9,10]),(7,[0,1,2,6,7,8,9,10,20]),(8,[0,1,2,6,7,8,9,10]),(9,[0,1,2,6,7,8,9,10]),(10,[0,1,2,6,7,8]),(11,[6])]),
  (72,[(0,[2,3]),(1,[2,3,43]),(2,[4]),(3,[2,3,5]),(4,[2,3,5,48]),(5,[2,3,5]),(6,[2,3,5,79]),(7,[4]),(8,[4])]),
  (73,[(0,[0,1]),(1,[0,1,2]),(2,[0,1,2,3]),(3,[0,1])]),
  (74,[(0,[1,2,3]),(1,[1,2,3,7]),(2,[1,2,3,7,8]),(3,[1,2,3,7,8,12]),(4,[1,2,3,7,8]),(5,[1,2,3,7,8]),(6,[6])]),
  (75,[(0,[0,1]),(1,[0,1,10]),(2,[4]),(3,[0,1,5]),(4,[0,1,5,14]),(5,[0,1,5]),(6,[0,1,5,25]),(7,[4]),(8,[4])]),
  (76,[(0,[0]),(1,[0,6,7,8]),(2,[0,6,7,8,9]),(3,[0,4,6,7,8]),(4,[0,5,6,7,8]),(5,[0,5,6,7,8,15]),(6,[2]),(7,[0,6,7,8]),(8,[30]),(9,[2]),(10,[2])]),
  (77,[(0,[0,1,2]),(1,[6])]),
  (78,[(0,[0,1,4]),(1,[4])]),
  (79,[(0,[0,2]),(1,[2])]),
  (80,[(0,[1,2]),(1,[1,2,3]),(2,[1,2,3,4]),(3,[1,2,3,4,5]),(4,[1,2,3,5]),(5,[2,3]),(6,[2,6]),(7,[2])]),
  (81,[(0,[0]),(1,[2])]),
  (82,[(0,[0]),(1,[2])]),
  (83,[(0,[1]),(1,[1,3]),(2,[1,3,10]),(3,[2]),(4,[1,15]),(5,[2]),(6,[18]),(7,[2]),(8,[2])]),
  (84,[(0,[1]),(1,[1,3]),(2,[1,3,13]),(3,[1,3]),(4,[1,3,4]),(5,[1,3,4,18]),(6,[1,3,4]),(7,[1,3,4,31]),(8,[2]),(9,[1,5]),(10,[1,5,36]),(11,[1,5]),(12,[1,5,44]),(13,[2]),(14,[1,5,6]),(15,[1,5,6,47]),(16,[1,5,6]),(17,[1,5,6,77]),(18,[2]),(19,[1,7,8]),(20,[2])]),
  (85,[(0,[0,1,2,6]),(1,[0,2,6,7]),(2,[6,7]),(3,[6])]),
  (86,[(0,[2,3,4]),(1,[2,3,4,6]),(2,[2,3,4,6,11]),(3,[4,5]),(4,[2,4,16]),(5,[4,5]),(6,[4,5])]),
  (87,[(0,[1,2]),(1,[1,2,3]),(2,[2,3,8]),(3,[3,4,10]),(4,[3,4,5]),(5,[3,4,5,15]),(6,[]),(7,[2])]),
  (88,[(0,[0,2,3]),(1,[2,3,6]),(2,[2,3,6,8]),(3,[2,3,4,6]),(4,[2,3,4,6,13]),(5,[2,3,6]),(6,[2,3,6]),(7,[2,3]),(8,[2,3])]),
  (89,[(0,[0]),(1,[0])]),
  (90,[(0,[0,2]),(1,[2,6]),(2,[2,6,8]),(3,[2,4,6]),(4,[2,6]),(5,[2])]),
  (91,[(0,[1]),(1,[2])]),
  (93,[(0,[0]),(1,[2])]),
  (94,[(0,[0]),(1,[0,7]),(2,[0]),(3,[0,3]),(4,[0,3,4]),(5,[0,3,4,15]),(6,[0,3,4]),(7,[0,3,4]),(8,[2])]),
  (95,[(0,[0]),(1,[2])]),
  (96,[(0,[1]),(1,[2])]),
  (98,[(0,[1,2,4]),(1,[1,2,4,5]),(2,[1,2,4,5,9]),(3,[1,2,4,5]),(4,[4])]),
  (99,[(0,[3,4,5,6]),(1,[3,4,5,6,8]),(2,[6,7]),(3,[3,4,5,6,16]),(4,[6,7]),(5,[4,5,6,21]),(6,[6,7]),(7,[6,7])]),
  (100,[(0,[0,2]),(1,[0,2,6]),(2,[2]),(3,[2])]),
  (101,[(0,[0]),(1,[3]),(2,[3,4]),(3,[2]),(4,[3,6]),(5,[2]),(6,[3,8]),(7,[2]),(8,[3,10]),(9,[2]),(10,[3,13]),(11,[2]),(12,[3,16]),(13,[2]),(14,[3,19]),(15,[2]),(16,[22]),(17,[2]),(18,[2])]),
  (102,[(0,[0]),(1,[2])]),
  (103,[(0,[0,2]),(1,[0,2,4]),(2,[0,2,4,8]),(3,[2,3]),(4,[2,3])]),
  (104,[(0,[0,1]),(1,[0,1,5]),(2,[0,5,6]),(3,[0,5,6,11]),(4,[0,5,6]),(5,[0,5,6]),(6,[4])]),
  (105,[(0,[0,1]),(1,[0,1,9]),(2,[4]),(3,[0,1,13]),(4,[4]),(5,[0,1,5]),(6,[0,1,5,17,18,19]),(7,[0,1,5,17,18,19,20]),(8,[0,1,5,7,17,18,19]),(9,[0,1,5,17,18,19]),(10,[0,1,5,17,18,19]),(11,[0,1,28]),(12,[4]),(13,[0,8]),(14,[0,8]),(15,[38]),(16,[4]),(17,[4])]),
  (106,[(0,[1]),(1,[5]),(2,[2]),(3,[2])]),
  (107,[(0,[0,1,5,6]),(1,[6])]),
  (108,[(0,[1,2]),(1,[2,4,5]),(2,[2,4,5,12]),(3,[2,3]),(4,[2,3])]),
  (109,[(0,[0,1]),(1,[0,1,11]),(2,[4]),(3,[0,1,5]),(4,[0,1,5,15]),(5,[0,1,5]),(6,[0,1,5,26]),(7,[4]),(8,[0,1,5,6]),(9,[0,1,5,6,29]),(10,[0,1,5,6]),(11,[0,1,5,6,40]),(12,[4]),(13,[4])]),
  (112,[(0,[0,1,3]),(1,[3,4]),(2,[3])]),
  (113,[(0,[0,2]),(1,[2,3]),(2,[2])]),
  (117,[(0,[0,2]),(1,[2,4]),(2,[2]),(3,[2])]),
  (118,[(0,[0,1,2]),(1,[0,1,2]),(2,[0,1,2,7]),(3,[0,1,2,7,16]),(4,[6]),(5,[0,1,2,7,8]),(6,[0,1,2,7,8,22]),(7,[6]),(8,[0,1,2,7,8,31]),(9,[0,1,2,7,9]),(10,[0,1,7,9]),(11,[9]),(12,[6]),(13,[0,1,2,7,8]),(14,[0,1,2,7,8,68]),(15,[0,1,2]),(16,[0]),(17,[6]),(18,[0,1,7]),(19,[0]),(20,[6])]),
  (119,[(0,[0]),(1,[0,4]),(2,[2]),(3,[2])]),
  (120,[(0,[0,2]),(1,[2,3]),(2,[2]),(3,[2])]),
  (121,[(0,[1]),(1,[4]),(2,[2])]),
  (122,[(0,[1,2]),(1,[4])]),
  (123,[(0,[2,3]),(1,[4])]),
  (124,[(0,[0,1]),(1,[0,1,10]),(2,[0,1]),(3,[0,5,6]),(4,[0,6,26]),(5,[0,6]),(6,[0,7]),(7,[7,8]),(8,[7,8,37]),(9,[7,8]),(10,[4])]),
  (125,[(0,[0]),(1,[0,4]),(2,[2]),(3,[2])]),
  (126,[(0,[1,2,3,4,5,6]),(1,[1,2,3,4,5,6,32]),(2,[1,2,3,4,5,6]),(3,[1,2,3,4,5,6,40]),(4,[3]),(5,[8]),(6,[1,2,3,4,5,6,9]),(7,[1,2,3,4,5,6,9,10]),(8,[1,2,3,4,5,6,9,10,68]),(9,[8]),(10,[1,2,3,4,5,6,9,11,12]),(11,[1,2,3,4,5,6,9,11,84]),(12,[8]),(13,[1,2,3,4,5,6,9,13]),(14,[1,2,3,4,5,6,9,13,93,94]),(15,[1,2,3,4,5,6,9,13,93,94,95]),(16,[1,2,3,4,5,6,9,13,14,93,94]),(17,[1,2,3,4,5,6,9,13,93,94]),(18,[1,2,3,4,5,6,9,13,93,94]),(19,[3,5,6,13]),(20,[5,6]),(21,[8])]),
  (127,[(0,[2,3,4]),(1,[2,4,10,11,12]),(2,[2,4,10,11,12,13]),(3,[2,4,7,8,10,11,12]),(4,[2,4,10,11,12,32]),(5,[6]),(6,[2,4,10,11,12]),(7,[6])]),
  (128,[(0,[2,3,4]),(1,[3,4,8,9,10]),(2,[3,4,8,9,10,11]),(3,[3,4,5,6,8,9,10]),(4,[3,4,8,9,10]),(5,[3,4,8,9,10]),(6,[4])]),
  (129,[(0,[2,3,4,5,8]),(1,[2,3,5,8,12,13,14]),(2,[2,3,5,8,12,13,14,15]),(3,[2,3,5,8,9,10,12,13,14]),(4,[2,3,5,8,9,10,12,13,14,34]),(5,[2,3,5,8,12,13,14]),(6,[2,3,5,8,12,13,14]),(7,[8])]),
  (130,[(0,[1,2]),(1,[2,6,7,8]),(2,[2,6,7,8,9]),(3,[2,3,4,6,7,8]),(4,[2,6,7,8]),(5,[2,6,7,8]),(6,[2])]),
  (131,[(0,[1]),(1,[1,3]),(2,[1,3,11]),(3,[1,3]),(4,[1,3,20]),(5,[2]),(6,[1,4]),(7,[1,4,25]),(8,[1,4]),(9,[1,4,5]),(10,[1,4,5,52]),(11,[2]),(12,[1,4,5,6]),(13,[1,4,5,6,57]),(14,[1,4,5,6]),(15,[1,4,5,6,81]),(16,[2]),(17,[2])]),
  (132,[(0,[1]),(1,[1,3]),(2,[1,3,8]),(3,[1,3]),(4,[1,3,20]),(5,[2]),(6,[2])]),
  (133,[(0,[1,2,3,4]),(1,[1,2,3,4,13]),(2,[1,2,3,18]),(3,[2,3]),(4,[8,9]),(5,[1,2,3,4,28]),(6,[8,9]),(7,[1,2,3,4,10]),(8,[1,2,3,4,10,11]),(9,[1,2,3,4,10,11,40]),(10,[1,2,3,4,10,11]),(11,[1,2,3,4,10,11]),(12,[8,9])]),
  (134,[(0,[0,1]),(1,[0,1,5]),(2,[0,1,5,9]),(3,[0,1,5]),(4,[0,1,5,17]),(5,[4]),(6,[4])]),
  (135,[(0,[1,2,3,4,8]),(1,[1,2,3,4,8,21]),(2,[4,8,10]),(3,[4,8,10,11]),(4,[4,8,10,11,33]),(5,[4,8,10,11]),(6,[4,8,10,11,42]),(7,[8,9]),(8,[4,8]),(9,[8,9]),(10,[1,2,3,4,8,12]),(11,[1,2,3,4,8,12,13]),(12,[1,2,3,4,8,12,13,70]),(13,[1,2,3,4,8,12,13]),(14,[1,2,3,4,8,12,13,14]),(15,[1,2,3,4,8,12,13,14]),(16,[1,2,3,4,8,12,13,14]),(17,[1,2,3,4,8,12,13,15]),(18,[1,2,3,4,8,12,13]),(19,[4,8,12,96]),(20,[8,9]),(21,[4,8,12,16]),(22,[4,8,12,16,106]),(23,[4,8,12,16]),(24,[4,8,12,16,128]),(25,[8,9]),(26,[4,8]),(27,[8,9])]),
  (136,[(0,[1,2]),(1,[1,2,4]),(2,[1,2,4,21,22,23]),(3,[1,2,4,21,22,23,24]),(4,[1,2,4,6,21,22,23]),(5,[1,2,4,6,7,21,22,23]),(6,[1,2,6,7,21,22,23,29]),(7,[1,2,6,7,21,22,23,29,31]),(8,[1,2,6,7,8,9,21,22,23,29]),(9,[1,2,6,7,8,9,10,21,22,23,29]),(10,[1,2,6,7,8,9,10,11,21,22,23,29]),(11,[1,2,6,7,8,9,10,11,21,22,23,29,46]),(12,[1,2,6,7,21,22,23,29]),(13,[1,2,6,7,8,9,10,21,22,23,29,60]),(14,[1,2,6,7,21,22,23,29]),(15,[1,2,6,7,8,9,21,22,23,29,75,76]),(16,[1,2,6,7,8,9,21,22,23,29,75,76,77]),(17,[1,2,6,7,8,9,12,21,22,23,29,75,76]),(18,[1,2,6,7,8,9,21,22,23,29,75,76]),(19,[1,2,6,7,8,9,21,22,23,29,75,76]),(20,[1,2,4,21,22,23]),(21,[1,2,4,21,22,23]),(22,[1,2,94]),(23,[1,2,94,96]),(24,[1,2,13,14,94]),(25,[1,2,94,106])]),
  (137,[(0,[0,2]),(1,[])]),
  (138,[(0,[1,2,4]),(1,[2,4,6]),(2,[2,5]),(3,[]),(4,[4])]),
  (139,[(0,[0,6]),(1,[0,6,8]),(2,[0,4,6]),(3,[0,6,14])]),
  (140,[(0,[2,3,4]),(1,[6])]),
  (141,[(0,[0,2]),(1,[2])]),
  (142,[(0,[0,1,4]),(1,[4])]),
  (143,[(0,[0,1,4]),(1,[4])]),
  (144,[(0,[0,1,4]),(1,[4])]),
  (145,[(0,[1]),(1,[2])]),
  (146,[(0,[0]),(1,[4])]),
  (147,[(0,[1]),(1,[4])]),
  (148,[(0,[1]),(1,[2])]),
  (149,[(0,[0]),(1,[2])]),
  (150,[(0,[0]),(1,[2])]),
  (151,[(0,[0]),(1,[2])]),
  (152,[(0,[0,1]),(1,[4])]),
  (153,[(0,[1]),(1,[2])]),
  (154,[(0,[1]),(1,[1,5]),(2,[2]),(3,[2])]),
  (155,[(0,[0,1]),(1,[0,1,7,8]),(2,[0,1,7,8,9]),(3,[0,1,5,7,8]),(4,[0,1,5,7,8,16]),(5,[4]),(6,[0,1,7,8]),(7,[4])]),
  (156,[(0,[1]),(1,[2])]),
  (157,[(0,[2,3,4]),(1,[6])]),
  (158,[(0,[0,1]),(1,[0,1,10]),(2,[4]),(3,[0,1,12,13]),(4,[0,1,12,13,14]),(5,[0,1,5,12,13]),(6,[0,1,12,13,24]),(7,[4]),(8,[0,1,12,13]),(9,[4])]),
  (159,[(0,[0]),(1,[0,3]),(2,[3,7,8]),(3,[3,7,8,9]),(4,[3,4,7,8]),(5,[3,7,8]),(6,[3,7,8]),(7,[2])]),
  (160,[(0,[1,2]),(1,[1,2,4]),(2,[1,2,4,11]),(3,[2,3]),(4,[1,2]),(5,[1,2,21]),(6,[2,3]),(7,[1,2,27]),(8,[1,2,27]),(9,[2,27]),(10,[2,3]),(11,[2,3])]),
  (161,[(0,[1,2]),(1,[1,2,3]),(2,[1,2,3,4]),(3,[1,2,3,4,5]),(4,[1,2,3,5]),(5,[2,3]),(6,[2])]),
  (168,[(0,[1,2]),(1,[4])]),
  (169,[(0,[1]),(1,[2])]),
  (172,[(0,[1,2]),(1,[1,2,3]),(2,[2,3,17]),(3,[2,3]),(4,[2,3])]),
  (173,[(0,[0,1]),(1,[4])]),
  (174,[(0,[1,2]),(1,[3])]),
  (175,[(0,[0,1]),(1,[6,7]),(2,[4,5]),(3,[8,9]),(4,[4,5])]),
  (176,[(0,[1,2,3]),(1,[1,2,3,8]),(2,[6]),(3,[6])]),
  (177,[(0,[1,2]),(1,[1,2,5]),(2,[1,2,5,14]),(3,[1,2,5]),(4,[1,2,5,28]),(5,[4]),(6,[4])]),
  (178,[(0,[0,1]),(1,[0,1,5]),(2,[0,1,5,9]),(3,[0,1,5]),(4,[0,1,5,17]),(5,[4]),(6,[4])]),
  (181,[(0,[0,1]),(1,[4])]),
  (182,[(0,[0,1,2]),(1,[4])]),
  (183,[(0,[0,1,2,5]),(1,[0,1,2,5,7]),(2,[5]),(3,[5])]),
  (184,[(0,[0,1]),(1,[1,4,5]),(2,[1,4,5,20]),(3,[4,5]),(4,[4,5])]),
  (185,[(0,[0,1,2,5]),(1,[5])]),
  (186,[(0,[0,2]),(1,[2,3]),(2,[2]),(3,[2])]),
  (187,[(0,[0,1]),(1,[0,1,5]),(2,[0,1,5,6]),(3,[0,1,6,11]),(4,[12]),(5,[4]),(6,[4]),(7,[0,1,13]),(8,[4]),(9,[0,1,16]),(10,[4]),(11,[19]),(12,[4]),(13,[4])]),
  (188,[(0,[0,1,2]),(1,[4])]),
  (189,[(0,[0,3]),(1,[4])]),
  (190,[(0,[1]),(1,[1,5]),(2,[2]),(3,[2])]),
  (191,[(0,[0,3]),(1,[4])]),
  (192,[(0,[2,3]),(1,[2,3,5]),(2,[2,3,5,34]),(3,[4]),(4,[4])]),
  (193,[(0,[1,2,3,4]),(1,[1,2,3,4,10]),(2,[8]),(3,[8])]),
  (194,[(0,[1]),(1,[2])]),
  (195,[(0,[0,1,2,3,4]),(1,[0,1,2,3,4,14]),(2,[6]),(3,[0,1,2,3,4,7,8]),(4,[0,1,2,3,4,7,30]),(5,[6]),(6,[0,1,3,4,9]),(7,[0,1,3,4,9,10]),(8,[0,1,3,4,9,10,43,44,45]),(9,[0,1,3,4,9,10,43,44,45,46]),(10,[0,1,3,4,9,10,11,12,43,44,45]),(11,[0,1,3,4,9,10,43,44,45]),(12,[0,1,3,4,9,10,43,44,45]),(13,[0,3]),(14,[6])]),
  (196,[(0,[0,3]),(1,[0,3,5,6]),(2,[0,3,5,17]),(3,[0,3,5]),(4,[0,3,5]),(5,[5]),(6,[4])]),
  (197,[(0,[0]),(1,[2])]),
  (198,[(0,[0,1,5]),(1,[0,1,5,12]),(2,[6]),(3,[0,1,5,7]),(4,[0,1,5,7]),(5,[0,1,5,7,8,9]),(6,[0,1,5,7,8,32]),(7,[0,1,5,7,8]),(8,[0,1,5,8]),(9,[8]),(10,[6])]),
  (201,[(0,[1,2]),(1,[3])]),
  (203,[(0,[2,3]),(1,[2,3,5]),(2,[4])]),
  (204,[(0,[0,1]),(1,[0,1,7,8]),(2,[0,1,7,8,9]),(3,[0,1,5,7,8]),(4,[0,1,5,7,8,16]),(5,[4]),(6,[0,1,7,8]),(7,[4])]),
  (205,[(0,[0,1]),(1,[6]),(2,[4,5])]),
  (206,[(0,[0,1]),(1,[0,1,6]),(2,[0,1,6,7]),(3,[0,1,6,7,8]),(4,[0,1,6,7,8,9]),(5,[0,1,6,7,8,9,10]),(6,[0,1,6,7,9,11]),(7,[0,1,6,7,9,11,12]),(8,[0,1,6,7,9,12,13]),(9,[0,1,7,9,12,13]),(10,[0,1,4]),(11,[4,5])]),
  (218,[(0,[0,1]),(1,[0,1,7,8]),(2,[0,1,7,8,9]),(3,[0,1,5,7,8]),(4,[0,1,5,7,8,16]),(5,[4]),(6,[0,1,7,8]),(7,[4])]),
  (219,[(0,[0]),(1,[2])]),
  (220,[(0,[1,2]),(1,[3])]),
  (221,[(0,[0,1]),(1,[3])]),
  (222,[(0,[0,1,2,3]),(1,[5])]),
  (223,[(0,[1,2]),(1,[4])]),
  (224,[(0,[0,1]),(1,[3])]),
  (226,[(0,[2,3]),(1,[4])]),
  (227,[(0,[0,1]),(1,[0,1,10]),(2,[4]),(3,[0,1,12,13]),(4,[0,1,12,13,14]),(5,[0,1,5,12,13]),(6,[0,1,12,13,24]),(7,[4]),(8,[0,1,12,13]),(9,[4])]),
  (228,[(0,[0,1,2]),(1,[0,1,2,14]),(2,[6]),(3,[1,2,15,16,17]),(4,[1,2,15,16,17,18]),(5,[1,2,7,8,15,16,17]),(6,[1,2,8,9,15,16,17]),(7,[1,2,15,16,17,30]),(8,[6]),(9,[1,2,15,16,17]),(10,[6])]),
  (234,[(0,[0,1]),(1,[0,1,7,8]),(2,[0,1,7,8,9]),(3,[0,1,5,7,8]),(4,[0,1,5,7,8,16]),(5,[4]),(6,[0,1,7,8]),(7,[4])])],
 head:=[(14,[(11,[3,4,7,8,10,11]),(15,[3,4,7,8,10,12])]),
  (18,[(4,[1,3])]),
  (21,[(3,[1,2,3,4])]),
  (28,[(7,[3,6,29,30,31]),(10,[3,6,8,29,30,31,36,37])]),
  (32,[(4,[0,1,5])]),
  (35,[(4,[2,3,5])]),
  (38,[(2,[0,3])]),
  (39,[(10,[3,4,31,32,33])]),
  (40,[(3,[0,3,4])]),
  (44,[(5,[1,3,4])]),
  (50,[(4,[0,1,5])]),
  (52,[(3,[0,1,5,6])]),
  (53,[(3,[0,1,5,6])]),
  (57,[(8,[3,8,11,47,48])]),
  (58,[(4,[0,1,5])]),
  (68,[(9,[6,9,34,35,36])]),
  (69,[(3,[1,2,3,4])]),
  (71,[(3,[0,1,2,6,7,8]),(7,[0,1,2,6,7,8,9,10])]),
  (72,[(4,[2,3,5])]),
  (74,[(3,[1,2,3,7,8])]),
  (75,[(4,[0,1,5])]),
  (76,[(2,[0,6,7,8])]),
  (84,[(2,[1,3]),(5,[1,3,4]),(10,[1,5]),(15,[1,5,6])]),
  (88,[(2,[2,3,6])]),
  (90,[(2,[2,6])]),
  (94,[(5,[0,3,4])]),
  (98,[(2,[1,2,4,5])]),
  (104,[(3,[0,5,6])]),
  (105,[(7,[0,1,5,17,18,19])]),
  (109,[(4,[0,1,5]),(9,[0,1,5,6])]),
  (124,[(8,[7,8])]),
  (126,[(1,[1,2,3,4,5,6]),(15,[1,2,3,4,5,6,9,13,93,94])]),
  (127,[(2,[2,4,10,11,12])]),
  (128,[(2,[3,4,8,9,10])]),
  (129,[(2,[2,3,5,8,12,13,14])]),
  (130,[(2,[2,6,7,8])]),
  (131,[(2,[1,3]),(7,[1,4]),(13,[1,4,5,6])]),
  (132,[(2,[1,3])]),
  (133,[(9,[1,2,3,4,10,11])]),
  (134,[(2,[0,1,5])]),
  (135,[(4,[4,8,10,11]),(12,[1,2,3,4,8,12,13]),(22,[4,8,12,16])]),
  (136,[(3,[1,2,4,21,22,23]),(7,[1,2,6,7,21,22,23,29]),(16,[1,2,6,7,8,9,21,22,23,29,75,76]),(23,[1,2,94])]),
  (139,[(1,[0,6])]),
  (155,[(2,[0,1,7,8])]),
  (158,[(4,[0,1,12,13])]),
  (159,[(3,[3,7,8])]),
  (177,[(2,[1,2,5])]),
  (178,[(2,[0,1,5])]),
  (195,[(9,[0,1,3,4,9,10,43,44,45])]),
  (204,[(2,[0,1,7,8])]),
  (218,[(2,[0,1,7,8])]),
  (227,[(4,[0,1,12,13])]),
  (228,[(4,[1,2,15,16,17])]),
  (234,[(2,[0,1,7,8])])],
 site:=[(61,[2]),(62,[3]),(80,[1,3,4,5]),(87,[1,3]),(96,[1]),(122,[2]),(138,[2]),(140,[3,4]),(145,[1]),(148,[1]),(157,[3,4]),(161,[1,3,4,5]),(168,[2]),(189,[3]),(191,[3]),(192,[2,3,5]),(194,[14]),(198,[5,7]),(209,[7]),(210,[9])] }
def Tm:Tw.vw:={ Tb with exts:=[],ext:=fun _ _ _=>none }
open Tw in
def agJ:dM:=fun fv xs h=>match fv with
 |.fn f a b=>if f=94 then a4s 94 (lu Tryz.prog Tm (2^24) 2) (.fn f a b) xs h else if f=118 then Nl (.fn f a b) xs h else Qg 137 (.fn f a b) xs h
 |fv=>Qg 137 fv xs h
def T:Tw.vw:={ Tb with exts:=[94,137,118],ext:=agJ,dem:=[87,88,90,138],din:=[136,139],aae:=[138] }
open Pv
structure Rw where
 fr:LI0
 to:LI0
 cell:V
 deriving DecidableEq
structure Br where
 var:Int
 aA:LI0
 deriving DecidableEq
structure Dg where
 aj:LI0
 aB:LI0
 aO:List V
 au:List Br
 root:Int
 deriving DecidableEq
structure Ld where
 s:LI0
 cells:List V
 deriving DecidableEq
structure Fc where
 name:ByteArray
 d:Dg
 deriving DecidableEq
structure Pc where
 facts:Int
 goal:Bool
 deriving DecidableEq
abbrev gK:Dg:=⟨[],[],[],[],0⟩
abbrev Fc0:Fc:=⟨⟨#[]⟩,gK⟩
abbrev Pc0:Pc:=⟨0,false⟩
abbrev Rw0:Rw:=⟨[],[],V0⟩
abbrev kP:Br:=⟨0,[]⟩
abbrev Ld0:Ld:=⟨[],[]⟩
inductive Kd where
 |i64|u8|u16|u64|b|o|k|v|rw|br|tb|vs|ld|dg|is|fc|pc|bl|bs|no
def Kd.T:Kd->Type
 |.i64|.u8|.u16|.u64=>Int
 |.dg=>Dg
 |.is=>LI0
 |.fc=>Fc
 |.pc=>Pc
 |.bl=>Bool
 |.bs=>List Bool
 |.b=>B
 |.o=>O
 |.k=>K
 |.v=>V
 |.rw=>Rw
 |.br=>Br
 |.tb=>List Rw
 |.vs=>List V
 |.ld=>Ld
 |.no=>Unit
def kd(t:Nat):Kd:=match t with
 | 3=>.i64
 | 5=>.u8
 | 900001=>.b
 | 900002=>.o
 | 900003=>.k
 | 900004=>.u16
 | 900005=>.u64
 | 26=>.dg
 | 22=>.is
 | 900006=>.fc
 | 900007=>.pc
 | 4=>.bl
 | 900008=>.bs
 | 39=>.v
 | 900009=>.rw
 | 105=>.br
 | 900010=>.tb
 | 23=>.vs
 | 900011=>.ld
 |_=>.no
def aH(t:Nat):Type:=(kd t).T
def Kd.z:(k:Kd)->k.T
 |.i64|.u8|.u16|.u64=>(0:Int)
 |.dg=>gK
 |.is=>([]:LI0)
 |.fc=>Fc0
 |.pc=>Pc0
 |.bl=>false
 |.bs=>([]:List Bool)
 |.b=>B0
 |.o=>O0
 |.k=>K0
 |.v=>V0
 |.rw=>Rw0
 |.br=>kP
 |.tb=>([]:List Rw)
 |.vs=>([]:List V)
 |.ld=>Ld0
 |.no=>()
abbrev lI(l:LI0):PV aH:=.dF 3 l false
abbrev lV(l:List V):PV aH:=.dF 39 l false
abbrev lRw(l:List Rw):PV aH:=.dF 900009 l false
abbrev lBr(l:List Br):PV aH:=.dF 105 l false
abbrev lDg(l:List Dg):PV aH:=.dF 26 l false
abbrev lB(l:List Bool):PV aH:=.dF 4 l false
def B.ps(b:B):List (PV aH):=[.int .i64 b.lo,.int .i64 b.hi,.int .u8 b.f]
def O.ps(o:O):List (PV aH):=[.int .u8 o.code,.int .i64 o.a,.int .i64 o.b,.int .i64 o.c,.int .i64 o.n]
def K.ps(c:K):List (PV aH):=[.str c.name,.int .i64 c.lo,.int .i64 c.hi]
def V.ps(v:V):List (PV aH):=[.int .u8 v.f,.int .i64 v.n]
def Rw.ps(r:Rw):List (PV aH):=[lI r.fr,lI r.to,.int .u8 r.cell.f,.int .i64 r.cell.n]
def Br.ps(b:Br):List (PV aH):=[.int .i64 b.var,lI b.aA]
def Ld.ps(x:Ld):List (PV aH):=[lI x.s,lV x.cells]
def Dg.ps(d:Dg):List (PV aH):=[lI d.aj,lI d.aB,lV d.aO,lBr d.au,.int .i64 d.root]
def Fc.ps(x:Fc):List (PV aH):=.str x.name::x.d.ps
def Pc.ps(x:Pc):List (PV aH):=[.int .u64 x.facts,.bool x.goal]
def B.un(l:List (PV aH)):Option B:=match l with
 | [.int .i64 a,.int .i64 b,.int .u8 c]=>some ⟨a,b,c⟩
 |_=>none
def O.un(l:List (PV aH)):Option O:=match l with
 | [.int .u8 c,.int .i64 x,.int .i64 y,.int .i64 z,.int .i64 n]=>some ⟨c,x,y,z,n⟩
 |_=>none
def K.un(l:List (PV aH)):Option K:=match l with
 | [.str c,.int .i64 x,.int .i64 y]=>some ⟨c,x,y⟩
 |_=>none
def V.un(l:List (PV aH)):Option V:=match l with
 | [.int .u8 c,.int .i64 x]=>some ⟨c,x⟩
 |_=>none
def I.un(k:IntKind)(l:List (PV aH)):Option Int:=match l with
 | [.int k' x]=>if k'=k then some x else none
 |_=>none
def L.un(t)(v:PV aH):Option (List (aH t)):=match v with
 |.dF t' l _=>CO t t' l
 |.nil .aP=>some []
 |_=>none
def Rw.un(l:List (PV aH)):Option Rw:=match l with
 | [a,b,.int .u8 c,.int .i64 x]=>match L.un 3 a,L.un 3 b with
  |some a,some b=>some ⟨a,b,⟨c,x⟩⟩
  |_,_=>none
 |_=>none
def Br.un(l:List (PV aH)):Option Br:=match l with
 | [.int .i64 x,a]=>match L.un 3 a with
  |some a=>some ⟨x,a⟩
  |none=>none
 |_=>none
def Tb.un(l:List (PV aH)):Option (List Rw):=match l with
 | [a]=>L.un 900009 a
 |_=>none
def Vs.un(l:List (PV aH)):Option (List V):=match l with
 | [a]=>L.un 39 a
 |_=>none
def Ld.un(l:List (PV aH)):Option Ld:=match l with
 | [a,b]=>match L.un 3 a,L.un 39 b with
  |some a,some b=>some ⟨a,b⟩
  |_,_=>none
 |_=>none
def Dg.un(l:List (PV aH)):Option Dg:=match l with
 | [a,b,c,d,.int .i64 r]=>match L.un 3 a,L.un 3 b,L.un 39 c,L.un 105 d with
  |some a,some b,some c,some d=>some ⟨a,b,c,d,r⟩
  |_,_,_,_=>none
 |_=>none
def Is.un(l:List (PV aH)):Option LI0:=match l with
 | [a]=>L.un 3 a
 |_=>none
def Fc.un(l:List (PV aH)):Option Fc:=match l with
 |.str n::r=>(Dg.un r).map (⟨n,·⟩)
 |_=>none
def Pc.un(l:List (PV aH)):Option Pc:=match l with
 | [.int .u64 n,.bool b]=>some ⟨n,b⟩
 |_=>none
def Bl.un(l:List (PV aH)):Option Bool:=match l with
 | [.bool b]=>some b
 |_=>none
def Bs.un(l:List (PV aH)):Option (List Bool):=match l with
 | [a]=>L.un 4 a
 |_=>none
def Kd.enc:(k:Kd)->k.T->List (PV aH)
 |.i64=>fun n=>[.int .i64 n]
 |.u8=>fun n=>[.int .u8 n]
 |.u16=>fun n=>[.int .u16 n]
 |.u64=>fun n=>[.int .u64 n]
 |.dg=>Dg.ps
 |.is=>fun l=>[lI l]
 |.fc=>Fc.ps
 |.pc=>Pc.ps
 |.bl=>fun b=>[.bool b]
 |.bs=>fun l=>[lB l]
 |.b=>B.ps
 |.o=>O.ps
 |.k=>K.ps
 |.v=>V.ps
 |.rw=>Rw.ps
 |.br=>Br.ps
 |.tb=>fun l=>[lRw l]
 |.vs=>fun l=>[lV l]
 |.ld=>Ld.ps
 |.no=>fun _=>[]
def Kd.dec:(k:Kd)->List (PV aH)->Option k.T
 |.i64=>I.un .i64
 |.u8=>I.un .u8
 |.u16=>I.un .u16
 |.u64=>I.un .u64
 |.dg=>Dg.un
 |.is=>Is.un
 |.fc=>Fc.un
 |.pc=>Pc.un
 |.bl=>Bl.un
 |.bs=>Bs.un
 |.b=>B.un
 |.o=>O.un
 |.k=>K.un
 |.v=>V.un
 |.rw=>Rw.un
 |.br=>Br.un
 |.tb=>Tb.un
 |.vs=>Vs.un
 |.ld=>Ld.un
 |.no=>fun _=>none
def X0:mX:=⟨aH,fun t=>(kd t).z,fun t=>(kd t).enc,fun t=>(kd t).dec⟩
theorem B.wK{l b}(h:B.un l=some b):B.ps b=l:=by
 unfold B.un at h;split at h
 .cases h;rfl
 cases h
theorem O.wK{l b}(h:O.un l=some b):O.ps b=l:=by
 unfold O.un at h;split at h
 .cases h;rfl
 cases h
theorem K.wK{l b}(h:K.un l=some b):K.ps b=l:=by
 unfold K.un at h;split at h
 .cases h;rfl
 cases h
theorem V.wK{l b}(h:V.un l=some b):V.ps b=l:=by
 unfold V.un at h;split at h
 .cases h;rfl
 cases h
theorem I.wK{k l b}(h:I.un k l=some b):[PV.int k b]=l:=by
 unfold I.un at h;split at h
 .split at h
  .rename_i e;cases h;rw[e]
  cases h
 cases h
section
variable{A:Nat->Prop}{m:List MB}{h:List HB}
theorem L.jq{t v l}(hu:L.un t v=some l){x}(hv:VR X0 Tryz.prog A m h v x):VR X0 Tryz.prog A m h (.dF t l false) x:=(a7C (X:=X0) (P:=Tryz.prog) t).ok (a:=l) (v:=v) (by
 cases v with
 |nil k=>cases k<;>first|exact hu|cases hu
 |dF t' l' f=>exact hu
 |_=>cases hu) hv
theorem Rw.jq{l r}(hu:Rw.un l=some r){xs}(hv:bZ X0 Tryz.prog A m h l xs):bZ X0 Tryz.prog A m h r.ps xs:=by
 unfold Rw.un at hu;split at hu
 .split at hu
  .rename_i e1 e2;cases hu;obtain⟨x1,r1,rfl,h1,hv⟩:=hv.inv;obtain⟨x2,r2,rfl,h2,hv⟩:=hv.inv;exact .cons (L.jq e1 h1) (.cons (L.jq e2 h2) hv)
  cases hu
 cases hu
theorem Br.jq{l r}(hu:Br.un l=some r){xs}(hv:bZ X0 Tryz.prog A m h l xs):bZ X0 Tryz.prog A m h r.ps xs:=by
 unfold Br.un at hu;split at hu
 .split at hu
  .rename_i e1;cases hu;obtain⟨x1,r1,rfl,h1,hv⟩:=hv.inv;obtain⟨x2,r2,rfl,h2,hv⟩:=hv.inv;exact .cons h1 (.cons (L.jq e1 h2) hv)
  cases hu
 cases hu
theorem Ld.jq{l r}(hu:Ld.un l=some r){xs}(hv:bZ X0 Tryz.prog A m h l xs):bZ X0 Tryz.prog A m h r.ps xs:=by
 unfold Ld.un at hu;split at hu
 .split at hu
  .rename_i e1 e2;cases hu;obtain⟨x1,r1,rfl,h1,hv⟩:=hv.inv;obtain⟨x2,r2,rfl,h2,hv⟩:=hv.inv;exact .cons (L.jq e1 h1) (.cons (L.jq e2 h2) hv)
  cases hu
 cases hu
theorem Tb.jq{l r}(hu:Tb.un l=some r){xs}(hv:bZ X0 Tryz.prog A m h l xs):bZ X0 Tryz.prog A m h [lRw r] xs:=by
 rcases l with _|⟨a,_|⟨b,l⟩⟩
 .cases hu
 .obtain⟨x1,r1,rfl,h1,hv⟩:=hv.inv;exact .cons (L.jq hu h1) hv
 cases hu
theorem Vs.jq{l r}(hu:Vs.un l=some r){xs}(hv:bZ X0 Tryz.prog A m h l xs):bZ X0 Tryz.prog A m h [lV r] xs:=by
 rcases l with _|⟨a,_|⟨b,l⟩⟩
 .cases hu
 .obtain⟨x1,r1,rfl,h1,hv⟩:=hv.inv;exact .cons (L.jq hu h1) hv
 cases hu
theorem Dg.jq{l r}(hu:Dg.un l=some r){xs}(hv:bZ X0 Tryz.prog A m h l xs):bZ X0 Tryz.prog A m h r.ps xs:=by
 unfold Dg.un at hu;split at hu
 .split at hu
  .rename_i e1 e2 e3 e4;cases hu;obtain⟨x1,r1,rfl,h1,hv⟩:=hv.inv;obtain⟨x2,r2,rfl,h2,hv⟩:=hv.inv;obtain⟨x3,r3,rfl,h3,hv⟩:=hv.inv;obtain⟨x4,r4,rfl,h4,hv⟩:=hv.inv;exact .cons (L.jq e1 h1) (.cons (L.jq e2 h2) (.cons (L.jq e3 h3) (.cons (L.jq e4 h4) hv)))
  cases hu
 cases hu
theorem Is.jq{l r}(hu:Is.un l=some r){xs}(hv:bZ X0 Tryz.prog A m h l xs):bZ X0 Tryz.prog A m h [lI r] xs:=by
 rcases l with _|⟨a,_|⟨b,l⟩⟩
 .cases hu
 .obtain⟨x1,r1,rfl,h1,hv⟩:=hv.inv;exact .cons (L.jq hu h1) hv
 cases hu
theorem Bs.jq{l r}(hu:Bs.un l=some r){xs}(hv:bZ X0 Tryz.prog A m h l xs):bZ X0 Tryz.prog A m h [lB r] xs:=by
 rcases l with _|⟨a,_|⟨b,l⟩⟩
 .cases hu
 .obtain⟨x1,r1,rfl,h1,hv⟩:=hv.inv;exact .cons (L.jq hu h1) hv
 cases hu
theorem Bl.wK{l b}(h:Bl.un l=some b):[PV.bool b]=l:=by
 unfold Bl.un at h;split at h
 .cases h;rfl
 cases h
theorem Fc.jq{l r}(hu:Fc.un l=some r){xs}(hv:bZ X0 Tryz.prog A m h l xs):bZ X0 Tryz.prog A m h r.ps xs:=by
 unfold Fc.un at hu;split at hu
 .obtain⟨d,e1,rfl⟩:=a0x.1 hu;obtain⟨x1,r1,rfl,h1,hv⟩:=hv.inv;exact .cons h1 (Dg.jq e1 hv)
 cases hu
theorem Pc.wK{l b}(h:Pc.un l=some b):Pc.ps b=l:=by
 unfold Pc.un at h;split at h
 .cases h;rfl
 cases h
theorem abo:∀(k:Kd) {l} {a:k.T},k.dec l=some a->∀{xs},bZ X0 Tryz.prog A m h l xs->bZ X0 Tryz.prog A m h (k.enc a) xs
 |.i64,_,_,e,_,hv=>by rw[show Kd.enc .i64 _=_ from I.wK e];exact hv
 |.u8,_,_,e,_,hv=>by rw[show Kd.enc .u8 _=_ from I.wK e];exact hv
 |.u16,_,_,e,_,hv=>by rw[show Kd.enc .u16 _=_ from I.wK e];exact hv
 |.u64,_,_,e,_,hv=>by rw[show Kd.enc .u64 _=_ from I.wK e];exact hv
 |.dg,_,_,e,_,hv=>Dg.jq e hv
 |.is,_,_,e,_,hv=>Is.jq e hv
 |.fc,_,_,e,_,hv=>Fc.jq e hv
 |.pc,_,_,e,_,hv=>by rw[show Kd.enc .pc _=_ from Pc.wK e];exact hv
 |.bl,_,_,e,_,hv=>by rw[show Kd.enc .bl _=_ from Bl.wK e];exact hv
 |.bs,_,_,e,_,hv=>Bs.jq e hv
 |.b,_,_,e,_,hv=>by rw[show Kd.enc .b _=_ from B.wK e];exact hv
 |.o,_,_,e,_,hv=>by rw[show Kd.enc .o _=_ from O.wK e];exact hv
 |.k,_,_,e,_,hv=>by rw[show Kd.enc .k _=_ from K.wK e];exact hv
 |.v,_,_,e,_,hv=>by rw[show Kd.enc .v _=_ from V.wK e];exact hv
 |.rw,_,_,e,_,hv=>Rw.jq e hv
 |.br,_,_,e,_,hv=>Br.jq e hv
 |.tb,_,_,e,_,hv=>Tb.jq e hv
 |.vs,_,_,e,_,hv=>Vs.jq e hv
 |.ld,_,_,e,_,hv=>Ld.jq e hv
 |.no,_,_,e,_,_=>by cases e
end
theorem a4I:∀(k:Kd) (a),jH.IB (k.enc a)=true:=by intro k a;cases k<;>rfl
theorem hX:bT X0 Tryz.prog:=⟨fun{t} vs a e {A m hh xs} hv=>abo (kd t) e hv,fun t a=>a4I (kd t) a⟩
abbrev Arg(α:Type):=Ar X0 Tryz.prog α
def iA:Arg Int:=agf .i64
def uA:Arg Int:=agf .u8
def tA:Arg Bool:=akk
def vA:Arg V:=akl hX 39
def brA:Arg Br:=akl hX 105
def nY:Arg LI0:=a7C 3
def vsA:Arg (List V):=a7C 39
def abp:Arg (List Br):=a7C 105
def VW:Arg (List Dg):=a7C 26
def pA:Arg Int:=agf .u64
def dA:Arg Dg:=agi (a7D (Nk nY (a4 nY vsA abp iA))) (fun p=>⟨p.1,p.2.1,p.2.2.1,p.2.2.2.1,p.2.2.2.2⟩) (fun d=>(d.aj,d.aB,d.aO,d.au,d.root)) fun _=>rfl
abbrev LL:Nat:=2^24
abbrev Gd(gG:gU aH):Prop:=Pv.Good X0 Tryz.prog T LL gG
abbrev iD(n:Nat):dM:=lu Tryz.prog T LL n
theorem Ru:ah<LL:=by decide
abbrev Lp(n f k:Nat)(s:bJ aH)(e:Ex)(s':bJ aH):Prop:=dQ X0 Tryz.prog T (iD n) LL f false (Di Tryz.prog f) 0 (.loop (U0 Tryz.prog f k)) s e s'
abbrev Ok(n:Nat)(gG:gU aH):Prop:=jX X0 Tryz.prog (iD n) gG
abbrev xi(n:Int):PE aH:=.val (.int .i64 n)
abbrev xt(b:Bool):PE aH:=.val (.bool b)
abbrev xl(b:Bool):PE aH:=.val (.lit b)
abbrev xL(t:Nat)(l:List (aH t)):PE aH:=.val (.dF t l false)
abbrev xo(b:Nat):PE aH:=.val (.own b)
theorem le0:0<=ah:=by decide
theorem le1:1<=ah:=by decide
theorem Zz:2<=ah:=by decide
theorem le3:3<=ah:=by decide
theorem le8:8<=LL:=by decide
theorem gX{n}:Ok n (ab6 (X:=X0)):=fun f vs v ext ps h=>by cases h
abbrev JH(n f k B:Nat)(s:bJ aH)(e:Ex)(s':bJ aH):Prop:=dQ X0 Tryz.prog T (iD n) LL f false (Di Tryz.prog f) B (.loop (U0 Tryz.prog f k)) s e s'
abbrev Qp:LI1:=Tryz.prog
abbrev jd(n:Nat):=cZ X0 Tryz.prog (iD n)
theorem gQ{α:Type}{a:α}{l:List α}:a∈a::l:=.head _
theorem vX{α:Type}{a b:α}{l:List α}:a∈b::a::l:=.tail _ (.head _)
theorem hh2{α:Type}{a b c:α}{l:List α}:a∈b::c::a::l:=.tail _ (.tail _ (.head _))
theorem aN{β:Type}{n f:Nat}{gG:gU aH}(hO:Ok n gG){vs:List (PV aH)}{an:PT aH}{r:Ar X0 Tryz.prog β}{s:β}{o:OT (Option (PV aH))}(ht:Fp (Is r s) an o)(hk:(DV X0 Tryz.prog T gG (cZ X0 Tryz.prog (iD n)) (CQ X0 Tryz.prog T (iD n) LL f 0) LL f vs [] an).map frz=o:=by kernel_rfl):nU X0 Tryz.prog (iD (n+1)) f vs (r.put s) []:=akn hX hO hk ht
theorem jI{β:Type}{n f:Nat}{gG:gU aH}(hO:Ok n gG){first xs cap:List (PV aH)}{H H1:List (PB aH)}{an:PT aH}{r:Ar X0 Tryz.prog β}{s:β}{o:OT (PV aH×List (PB aH))}(ht:Fp (IsS r s H1) an o)(hk:DV X0 Tryz.prog T gG (cZ X0 Tryz.prog (iD n)) (CQ X0 Tryz.prog T (iD n) LL f H.length) LL f (first++xs++cap) H an=o:=by kernel_rfl):cZ X0 Tryz.prog (iD (n+1)) (.fn f first cap) xs H (r.put s) H1:=Ea hX hO hk ht
theorem fH{n f:Nat}{gG:gU aH}(hO:Ok n gG){first xs cap:List (PV aH)}{H H1:List (PB aH)}{v:PV aH}{an:PT aH}{o:OT (PV aH×List (PB aH))}(ht:Fp (IsE (X:=X0) v H1) an o)(hk:DV X0 Tryz.prog T gG (cZ X0 Tryz.prog (iD n)) (CQ X0 Tryz.prog T (iD n) LL f H.length) LL f (first++xs++cap) H an=o:=by kernel_rfl):cZ X0 Tryz.prog (iD (n+1)) (.fn f first cap) xs H v H1:=kH hX hO hk ht
theorem aI{call:dM}{gG:gU aH}{L f:Nat}{iG:Bool}{nt B:Nat}(hO:jX X0 Tryz.prog call gG){b:Code}{n:Nat}{ps:bJ aH}{an:PT aH}{e:Ex}{s:bJ aH}{o:OT (Ex×bJ aH)}(ht:Fp (Rnd X0 Tryz.prog T call L f iG nt B b n e s) an o)(hk:kE X0 Tryz.prog T gG (cZ X0 Tryz.prog call) (dQ X0 Tryz.prog T call L f iG nt B) B L f iG nt b ps an (agd (iy X0 (T.fC f (eu b))) B)=o:=by kernel_rfl):dN X0 Tryz.prog T call L f iG nt B b (n+1) ps e s:=round hX hO hk ht
abbrev a7Z(f:Nat)(a c:List (PV aH))(H:List (PB aH))(l:LI0)(i:Int)(x:List (Nat×PE aH)):bJ aH:=⟨[(0,xL 3 l),(1,.val (.fn f a c)),(7,xi l.length),(8,xi i)]++x,[],H⟩
def z218(f:Nat)(a c:List (PV aH))(H:List (PB aH))(l:LI0):Unit⊕(Nat×Int×Unit)->Ex×bJ aH
 |.inl _=>(.exit 0,a7Z f a c H l l.length [(9,xl false)])
 |.inr r=>(.ret,⟨[(4,xi r.1)],[],H⟩)
theorem ar2{n f:Nat}{a c:List (PV aH)}{H:List (PB aH)}{g}(hf:∀x,jd n (.fn f a c) [.int .i64 x] H (.bool (g x)) H)(l:LI0)(hl:l.length<=ah):jd (n+1) (.fn 218 [] []) [.dF 3 l false,.fn f a c] H (iA.put (sU g l)) H:=by
 have lp:JH n 218 0 H.length (a7Z f a c H l 0 []) (z218 f a c H l (nI (qF g) l 0 ())).1 (z218 f a c H l (nI (qF g) l 0 ())).2:=
  Y5 (st:=fun i _=>a7Z f a c H l i []) (0:Int) (fun _ _=>True) (by kernel_rfl) hl Ru trivial (fun k s n hk _ ih=>aI gX (.b (aV hk) (.o (aF hk) (.k (hf (l.getD k (0:Int))) (.ls (.ou nofun) (.nx (ih _ trivial))))))) (fun s _=>aI gX (.b (dZ l.length) (.ou nofun)))
 exact jI gX (first:=[]) (cap:=[]) (.szh (fun h=>.w (kW lp () h) .sr) (fun h=>.w (kX lp (0,0,()) h) .sr))
theorem akM{n f:Nat}(hn:0<n){a c:List (PV aH)}{H:List (PB aH)}{g}(hf:∀x,cZ X0 Qp (iD (n-1)) (.fn f a c) [.int .i64 x] H (.bool (g x)) H)(l:LI0)(hl:l.length<=ah):jd (n+1) (.fn 181 [] []) [.dF 3 l false,.fn f a c] H (tA.put (nM g l)) H:=by have h1:=ar2 hf l hl;rw[show n-1+1=n by omega]at h1;exact jI gX (first:=[]) (cap:=[]) (.k h1 .sr)
abbrev agK(f:Nat)(a c:List (PV aH))(H:List (PB aH))(l:List V)(i:Int)(x:List (Nat×PE aH)):bJ aH:=⟨[(0,xL 39 l),(1,.val (.fn f a c)),(7,xi l.length),(8,xi i)]++x,[],H⟩
def akN(f:Nat)(a c:List (PV aH))(H:List (PB aH))(l:List V):Unit⊕(Nat×V×Unit)->Ex×bJ aH
 |.inl _=>(.exit 0,agK f a c H l l.length [(9,xl false)])
 |.inr r=>(.ret,⟨[(4,xi r.1)],[],H⟩)
theorem akO{n f:Nat}{a c:List (PV aH)}{H:List (PB aH)}{g}(hf:∀x,jd n (.fn f a c) [.agg x.ps] H (.bool (g x)) H)(l:List V)(hl:l.length<=ah):jd (n+1) (.fn 155 [] []) [.dF 39 l false,.fn f a c] H (iA.put (iW g l)) H:=by
 have lp:JH n 155 0 H.length (agK f a c H l 0 []) (akN f a c H l (nI (jP g) l 0 ())).1 (akN f a c H l (nI (jP g) l 0 ())).2:=
  Y5 (st:=fun i _=>agK f a c H l i []) V0 (fun _ _=>True) (by kernel_rfl) hl Ru trivial (fun k s n hk _ ih=>aI gX (.b (aV hk) (.o (aF hk) (.k (hf (l.getD k V0)) (.ls (.ou nofun) (.nx (ih _ trivial))))))) (fun s _=>aI gX (.b (dZ l.length) (.ou nofun)))
 exact jI gX (first:=[]) (cap:=[]) (.szh (fun h=>.w (kW lp () h) .sr) (fun h=>.w (kX lp (0,V0,()) h) .sr))
theorem agL{n f:Nat}(hn:0<n){a c:List (PV aH)}{H:List (PB aH)}{g}(hf:∀x,cZ X0 Qp (iD (n-1)) (.fn f a c) [.agg x.ps] H (.bool (g x)) H)(l:List V)(hl:l.length<=ah):jd (n+1) (.fn 152 [] []) [.dF 39 l false,.fn f a c] H (tA.put (qJ g l)) H:=by have h1:=akO hf l hl;rw[show n-1+1=n by omega]at h1;exact jI gX (first:=[]) (cap:=[]) (.k h1 .sr)
def adG:gU aH:=bU 219 (a1 iA) tA (fun p=>VU p) np (ab6 (X:=X0))
theorem akP:Gd adG:=Good.nil.add fun n hO p hp=>aN hO .rr
def adH:gU aH:=bU 141 (a1 uA) vA (fun p=>Je p) np adG
theorem akQ:Gd adH:=akP.add fun n hO p hp=>aN hO .rr
def adI:gU aH:=bU 140 (a3 iA iA nY) tA (fun p=>Ah p.2.2 p.1 p.2.1) (fun p=>[p.2.2.length<=ah]) adH
theorem akR:Gd adI:=akQ.deep 3 fun n hn hO p hp=>by have h1:∀x,cZ X0 Qp (iD (n-3+1)) (.fn 182 [] [.ptr 0 0 1,.ptr 1 0 1]) [.int .i64 x] [.cells [.int .i64 p.1],.cells [.int .i64 p.2.1]] (tA.put (xY x p.1 p.2.1)) [.cells [.int .i64 p.1],.cells [.int .i64 p.2.1]]:=fun x=>jI gX (first:=[]) (.ssh (fun _=>.sr) (fun _=>.sr));obtain⟨n,rfl⟩:∃k,n=k+3:=⟨n-3,by omega⟩;rw[show n+3-3+1=n+1 by omega]at h1;have h2:=akM (n:=n+2) (by omega) (g:=fun x=>xY x p.1 p.2.1) h1 p.2.2 (hp _ gQ);exact aN (hO _ (by omega)) (.k h2 (.v (!(nM (fun x=>xY x p.1 p.2.1) p.2.2)) (by rw[F8];rfl)))
theorem nan(x):VU x=false:=by simp[VU]
def adJ:gU aH:=bU 154 (a1 vA) tA (fun p=>Ej p) np adI
theorem akS:Gd adJ:=akR.add fun n hO p hp=>aN hO (.ss (.o le1 .rr) (.ss .rr .rr))
def adK:gU aH:=bU 100 (a1 iA) vA (fun p=>pO p) np adJ
theorem akT:Gd adK:=akS.add fun n hO p hp=>aN hO (.o le1 (.ss .rr .rr))
def adL:gU aH:=bU 186 (a1 tA) vA (fun p=>Qo p) np adK
theorem akU:Gd adL:=akT.add fun n hO p hp=>aN hO (.ss .rr .rr)
def adM:gU aH:=bU 156 (a1 vA) tA (fun p=>oO p) np adL
theorem akV:Gd adM:=akU.add fun n hO p hp=>aN hO .rr
def adN:gU aH:=bU 153 (a1 vA) tA (fun p=>BM p) np adM
theorem akW:Gd adN:=akV.add fun n hO p hp=>aN hO .rr
def adO:gU aH:=bU 142 (a2 iA iA) vA (fun p=>KQ p.1 p.2) np adN
theorem akX:Gd adO:=akW.add fun n hO p hp=>aN hO .rr
def adP:gU aH:=bU 143 (a2 iA iA) vA (fun p=>KR p.1 p.2) np adO
theorem akY:Gd adP:=akX.add fun n hO p hp=>aN hO .rr
def adQ:gU aH:=bU 144 (a2 iA iA) vA (fun p=>KT p.1 p.2) np adP
theorem akZ:Gd adQ:=akY.add fun n hO p hp=>aN hO .rr
def adR:gU aH:=bU 146 (a2 iA iA) iA (fun p=>Em p.1 p.2) np adQ
theorem al0:Gd adR:=akZ.add fun n hO p hp=>aN hO .rr
def adS:gU aH:=bU 147 (a2 iA iA) iA (fun p=>En p.1 p.2) np adR
theorem al1:Gd adS:=al0.add fun n hO p hp=>aN hO .rr
def adT:gU aH:=bU 149 (a1 iA) tA (fun p=>Eo p) np adS
theorem al2:Gd adT:=al1.add fun n hO p hp=>aN hO .rr
def adU:gU aH:=bU 150 (a1 iA) tA (fun p=>Ep p) np adT
theorem al3:Gd adU:=al2.add fun n hO p hp=>aN hO .rr
def adV:gU aH:=bU 151 (a1 iA) tA (fun p=>Es p) np adU
theorem al4:Gd adV:=al3.add fun n hO p hp=>aN hO .rr
def adW:gU aH:=bU 184 (a2 iA iA) (dU (a2 iA iA)) (fun p=>vP p.1 p.2) (fun p=>[p.2≠0]) adV
theorem al5:Gd adW:=al4.add fun n hO p hp=>aN hO (.o (hp _ gQ) (.o (hp _ gQ) (.ss (.ss .rr .rr) .rr)))
def adX:gU aH:=bU 187 (a2 iA iA) iA (fun p=>KP p.1 p.2) np adW
theorem al6:Gd adX:=al5.add fun n hO p hp=>aN hO (.b (nan p.1) (.b (nan p.2) (.ss .rr (.ss .rr .rr))))
theorem ar4{n gG}(hO:Ok n gG)(ho:∀x,gG 156 [.agg x.ps]=some (.bool (oO x),[],[]))(H:List (PB aH))(x):jd n (.fn 156 [] []) [.agg x.ps] H (.bool (oO x)) H:=
 O7 hX hO (first:=[]) (cap:=[]) (vs:=[.agg x.ps]) (v:=.bool (oO x)) rfl (ho x) (fun p h=>by cases h) rfl
theorem ar5{n gG}(hO:Ok n gG)(ho:∀x,gG 153 [.agg x.ps]=some (.bool (BM x),[],[]))(H:List (PB aH))(x):jd n (.fn 153 [] []) [.agg x.ps] H (.bool (BM x)) H:=
 O7 hX hO (first:=[]) (cap:=[]) (vs:=[.agg x.ps]) (v:=.bool (BM x)) rfl (ho x) (fun p h=>by cases h) rfl
def adY:gU aH:=bU 103 (a1 vsA) (dU (a2 vA tA)) (fun p=>bW p) (fun p=>[p.length<=ah]) adX
theorem al7:Gd adY:=al6.deep 2 fun n hn hO p hp=>by have hs:=akO (n:=n-1) (H:=[]) (g:=fun v=>oO v) (ar4 (hO (n-1) (by omega)) (fun _=>rfl) []) p (hp _ gQ);rw[show n-1+1=n by omega]at hs;exact aN (hO n (by omega)) (.k hs (.sh (fun h=>.rr) (fun h=>.o (show fZ (iW (fun v=>oO v) p) p.length from⟨by simpa using h,S9 _ _⟩) .rr)))
def adZ:gU aH:=bU 102 (a1 vsA) tA (fun p=>iK p) (fun p=>[p.length<=ah]) adY
theorem al8:Gd adZ:=al7.deep 3 fun n hn hO p hp=>by have hs:=agL (n:=n-1) (by omega) (H:=[]) (g:=fun v=>BM v) (ar5 (hO (n-2) (by omega)) (fun _=>rfl) []) p (hp _ gQ);rw[show n-1+1=n by omega]at hs;exact aN (hO n (by omega)) (.k hs (.v (!(qJ (fun v=>BM v) p)) (by rw[KO];rfl)))
def al9:gU aH:=bU 99 (a3 vA vA vA) (dU (a2 vA iA)) (fun p=>jZ p.1 p.2.1 p.2.2) np adZ
theorem ar6:Gd al9:=al8.add fun n hO p hp=>aN hO (.o le3 (.ss .rr (.ss .rr (.ss .rr .rr))))
def ala:Arg Nat where
 put f:=.fn f [] []
 get v:=match v with
  |.fn g [] []=>some g
  |_=>none
 ok:=by
  intro v a hg A m h x hv;split at hg
  .cases hg;exact hv
  .cases hg
def ae0:gU aH:=Y7 145 (a1 ala) (fun _=>.fn 183 [] [.ptr 0 0 1]) (fun g=>[.cells [.fn g [] []]]) np al9
theorem alb:Gd ae0:=ar6.U2 0 fun n _ hO p hp=>Ac hX (hO n (by omega)) (by kernel_rfl) .er
def ae1:gU aH:=Y7 148 (a1 ala) (fun _=>.fn 185 [] [.ptr 0 0 1]) (fun g=>[.cells [.fn g [] []]]) np ae0
theorem alc:Gd ae1:=alb.U2 0 fun n _ hO p hp=>Ac hX (hO n (by omega)) (by kernel_rfl) .er
def ar7(p:Int):PV aH:=if p=7 then .fn 142 [] []else if p=8 then .fn 143 [] []else if p=9 then .fn 144 [] []else if p=10 then .fn 183 [] [.ptr 0 0 1]else if p=11 then .fn 183 [] [.ptr 0 0 1]else .fn 185 [] [.ptr 0 0 1]
def ar8(p:Int):List (PB aH):=if p=10 then [.cells [.fn 146 [] []]]else if p=11 then [.cells [.fn 147 [] []]]else if p=12 then [.cells [.fn 149 [] []]]else if p=13 then [.cells [.fn 150 [] []]]else if p=14 then [.cells [.fn 151 [] []]]else []
def Qv:gU aH:=Y7 101 (a1 uA) ar7 ar8 (fun p=>[7<=p/\p<=14]) ae1
theorem seven{p:Int}(h:7<=p/\p<=14):p=7\/p=8\/p=9\/p=10\/p=11\/p=12\/p=13\/p=14:=by omega
theorem ald:Gd Qv:=alc.U2 0 fun n _ hO p hp=>by
 rcases seven (hp _ gQ)with rfl|rfl|rfl|rfl|rfl|rfl|rfl|rfl
 .exact Ac hX (hO n (by omega)) (by kernel_rfl) (.b aiH .er)
 .exact Ac hX (hO n (by omega)) (by kernel_rfl) (.b aiC (.b aiH .er))
 .exact Ac hX (hO n (by omega)) (by kernel_rfl) (.b aiC (.b aiC (.b aiH .er)))
 .exact Ac hX (hO n (by omega)) (by kernel_rfl) (.b aiC (.b aiC (.b aiC (.b aiH .er))))
 .exact Ac hX (hO n (by omega)) (by kernel_rfl) (.b aiC (.b aiC (.b aiC (.b aiC (.b aiH .er)))))
 .exact Ac hX (hO n (by omega)) (by kernel_rfl) (.b aiC (.b aiC (.b aiC (.b aiC (.b aiC (.b aiH .er))))))
 .exact Ac hX (hO n (by omega)) (by kernel_rfl) (.b aiC (.b aiC (.b aiC (.b aiC (.b aiC (.b aiC (.b aiH .er)))))))
 .exact Ac hX (hO n (by omega)) (by kernel_rfl) (.b aiC (.b aiC (.b aiC (.b aiC (.b aiC (.b aiC (.b aiC (.b aiH .er))))))))
theorem abq{n}(hO:Ok n Qv)(a b:V)(x y):jd (n+1) (.fn 183 [] [.ptr 0 0 1]) [.int .i64 x,.int .i64 y] [.cells [.fn 146 [] []],.list true true 39 [a,b],.list true true 39 [a,b]] (vA.put (iY Em x y)) [.cells [.fn 146 [] []],.list true true 39 [a,b],.list true true 39 [a,b]]:=
 jI hO (first:=[]) (.ssh (fun _=>.sr) (fun h=>.o (show y≠0 by simpa using h) .sr))
theorem abr{n}(hO:Ok n Qv)(a b:V)(x y):jd (n+1) (.fn 183 [] [.ptr 0 0 1]) [.int .i64 x,.int .i64 y] [.cells [.fn 147 [] []],.list true true 39 [a,b],.list true true 39 [a,b]] (vA.put (iY En x y)) [.cells [.fn 147 [] []],.list true true 39 [a,b],.list true true 39 [a,b]]:=
 jI hO (first:=[]) (.ssh (fun _=>.sr) (fun h=>.o (show y≠0 by simpa using h) .sr))
theorem abt{n}(hO:Ok n Qv)(a b:V)(x y):jd (n+1) (.fn 185 [] [.ptr 0 0 1]) [.int .i64 x,.int .i64 y] [.cells [.fn 149 [] []],.list true true 39 [a,b],.list true true 39 [a,b]] (vA.put (dV Eo x y)) [.cells [.fn 149 [] []],.list true true 39 [a,b],.list true true 39 [a,b]]:=
 jI hO (first:=[]) .sr
theorem abu{n}(hO:Ok n Qv)(a b:V)(x y):jd (n+1) (.fn 185 [] [.ptr 0 0 1]) [.int .i64 x,.int .i64 y] [.cells [.fn 150 [] []],.list true true 39 [a,b],.list true true 39 [a,b]] (vA.put (dV Ep x y)) [.cells [.fn 150 [] []],.list true true 39 [a,b],.list true true 39 [a,b]]:=
 jI hO (first:=[]) .sr
theorem abv{n}(hO:Ok n Qv)(a b:V)(x y):jd (n+1) (.fn 185 [] [.ptr 0 0 1]) [.int .i64 x,.int .i64 y] [.cells [.fn 151 [] []],.list true true 39 [a,b],.list true true 39 [a,b]] (vA.put (dV Es x y)) [.cells [.fn 151 [] []],.list true true 39 [a,b],.list true true 39 [a,b]]:=
 jI hO (first:=[]) .sr
def ale:gU aH:=bU 45 (a3 uA vA vA) (dU (a2 vA iA)) (fun p=>Jf p.1 p.2.1 p.2.2) (fun p=>[7<=p.1/\p.1<=16]) Qv
theorem ar9:Gd ale:=ald.deep 1 fun n hn hO p hp=>by
 obtain⟨n,rfl⟩:∃k,n=k+1:=⟨n-1,by omega⟩;have D9:=hO n (by omega);have hO:=hO (n+1) (by omega);obtain⟨k,a,b⟩:=p;rcases nine (show 7<=k/\k<=16 from hp _ gQ)with rfl|rfl|rfl|rfl|rfl|rfl|rfl|rfl|rfl|rfl
 .have:nU X0 Qp (iD (n+1+1)) 45 ((a3 uA vA vA).put (7,a,b)) ((dU (a2 vA iA)).put (sW a b)) []:=aN hO (.b aiC (.b aiC (.o (by decide:(7:Int)<=7/\(7:Int)<=14) (.b aiC (.o Zz (.ss .rr (.o Zz (.ss .rr .rr))))))));exact this
 .have:nU X0 Qp (iD (n+1+1)) 45 ((a3 uA vA vA).put (8,a,b)) ((dU (a2 vA iA)).put (tC a b)) []:=aN hO (.b aiC (.b aiC (.o (by decide:(7:Int)<=8/\(8:Int)<=14) (.b aiC (.o Zz (.ss .rr (.o Zz (.ss .rr .rr))))))));exact this
 .have:nU X0 Qp (iD (n+1+1)) 45 ((a3 uA vA vA).put (9,a,b)) ((dU (a2 vA iA)).put (tH a b)) []:=aN hO (.b aiC (.b aiC (.o (by decide:(7:Int)<=9/\(9:Int)<=14) (.b aiC (.o Zz (.ss .rr (.o Zz (.ss .rr .rr))))))));exact this
 .have:nU X0 Qp (iD (n+1+1)) 45 ((a3 uA vA vA).put (10,a,b)) ((dU (a2 vA iA)).put (pR a b)) []:=aN hO (.b aiC (.b aiC (.o (by decide:(7:Int)<=10/\(10:Int)<=14) (.b aiC (.o Zz (.ss .rr (.o Zz (.ss .rr (.k (abq D9 a b a.n b.n) .rr)))))))));exact this
 .have:nU X0 Qp (iD (n+1+1)) 45 ((a3 uA vA vA).put (11,a,b)) ((dU (a2 vA iA)).put (pU a b)) []:=aN hO (.b aiC (.b aiC (.o (by decide:(7:Int)<=11/\(11:Int)<=14) (.b aiC (.o Zz (.ss .rr (.o Zz (.ss .rr (.k (abr D9 a b a.n b.n) .rr)))))))));exact this
 .have:nU X0 Qp (iD (n+1+1)) 45 ((a3 uA vA vA).put (12,a,b)) ((dU (a2 vA iA)).put (pV a b)) []:=aN hO (.b aiC (.b aiC (.o (by decide:(7:Int)<=12/\(12:Int)<=14) (.b aiC (.o Zz (.ss .rr (.o Zz (.ss .rr (.k (abt D9 a b a.n b.n) .rr)))))))));exact this
 .have:nU X0 Qp (iD (n+1+1)) 45 ((a3 uA vA vA).put (13,a,b)) ((dU (a2 vA iA)).put (pW a b)) []:=aN hO (.b aiC (.b aiC (.o (by decide:(7:Int)<=13/\(13:Int)<=14) (.b aiC (.o Zz (.ss .rr (.o Zz (.ss .rr (.k (abu D9 a b a.n b.n) .rr)))))))));exact this
 .have:nU X0 Qp (iD (n+1+1)) 45 ((a3 uA vA vA).put (14,a,b)) ((dU (a2 vA iA)).put (qc a b)) []:=aN hO (.b aiC (.b aiC (.o (by decide:(7:Int)<=14/\(14:Int)<=14) (.b aiC (.o Zz (.ss .rr (.o Zz (.ss .rr (.k (abv D9 a b a.n b.n) .rr)))))))));exact this
 .have:nU X0 Qp (iD (n+1+1)) 45 ((a3 uA vA vA).put (15,a,b)) ((dU (a2 vA iA)).put (uM a b)) []:=aN hO (.b aiH .rr);exact this
 .have:nU X0 Qp (iD (n+1+1)) 45 ((a3 uA vA vA).put (16,a,b)) ((dU (a2 vA iA)).put (uN a b)) []:=aN hO (.b aiC (.b aiH .rr));exact this
open Go Tw Pv bQ
def alf:gU aH:=bU 23 (a3 iA iA iA) tA (fun p=>nX p.1 p.2.1 p.2.2) np ale
theorem ara:Gd alf:=ar9.add fun n hO p hp=>aN hO (.ss .rr .rr)
abbrev MP(a b:LI0)(k:Nat):Bool:=a.getD k 0 != b.getD k 0
abbrev w32(a b:LI0)(i:Int)(x:List (Nat×PE aH)):bJ aH:=⟨[(0,xL 3 a),(1,xL 3 b),(5,xi i)]++x,[],[]⟩
def z32(a b:LI0):Unit⊕Nat->Ex×bJ aH
 |.inl _=>(.exit 0,w32 a b a.length [(14,xl false)])
 |.inr _=>(.ret,⟨[(4,xl false)],[],[]⟩)
theorem l32{n gG}(hO:Ok n gG)(a b)(hl:a.length<=ah)(h:a.length=b.length):Lp n 32 0 (w32 a b 0 []) (z32 a b (aZ (MP a b) a.length)).1 (z32 a b (aZ (MP a b) a.length)).2:=
 MH (st:=fun i _=>w32 a b i []) (fun _ _=>True) (by kernel_rfl) hl Ru trivial (fun k s n hk _ ih=>aI hO (.b (aV hk) (.o (aF hk) (.o (aF (h▸hk)) (.ls (.ou nofun) (.nx (ih _ trivial))))))) (fun s _=>aI hO (.b (dZ a.length) (.ou nofun)))
theorem F9{a b}(h:a.length=b.length):jO (aZ (MP a b) a.length)=decide (a=b):=by rw[a5G,cO,a1z,nV (d:=0) h];simp[MP]
theorem a81{a b:LI0}(h:((a.length:Int) != (b.length:Int))=true):decide (a=b)=false:=by rw[a3k];rintro rfl;simp at h
theorem jW{α β:Type}{a:List α}{b:List β}(h:((a.length:Int) != (b.length:Int))=false):a.length=b.length:=by simp at h;omega
def alg:gU aH:=bU 32 (a2 nY nY) tA (fun p=>decide (p.1=p.2)) (fun p=>[p.1.length<=ah]) alf
theorem ard:Gd alg:=ara.add fun n hO p hp=>aN hO (.s (fun h=>.v false (a81 h).symm) fun h=>.z (c:=jO (aZ (MP p.1 p.2) p.1.length)) (fun h2=>.w (kW (l32 hO p.1 p.2 (hp _ gQ) (jW h)) () h2) (.v true (by rw[<-F9 (jW h),h2]))) fun h2=>.w (kX (l32 hO p.1 p.2 (hp _ gQ) (jW h)) 0 h2) (.v false (by rw[<-F9 (jW h),h2])))
abbrev abw(a:LI0)(n i:Int)(x:List (Nat×PE aH)):bJ aH:=⟨[(0,xL 3 a),(5,xi n),(6,xi i)]++x,[],[]⟩
theorem arf{n gG}(hO:Ok n gG)(a)(hl:a.length<=ah):Lp n 104 0 (abw a 1 0 []) (.exit 0) (abw a (Ae a) a.length [(11,xl false)]):=
 MI (st:=fun i n=>abw a n i []) (fin:=fun n=>abw a n a.length [(11,xl false)]) (fun _ _=>True) (by kernel_rfl) hl Ru trivial (fun _ _ _ _=>trivial) (fun k s hk _ n e p h=>aI hO (.b (aV hk) (.o (aF hk) (.go h)))) (fun s _=>aI hO (.b (dZ a.length) .ex))
def ae2:gU aH:=bU 104 (a2 nY iA) iA (fun p=>Ae p.1) (fun p=>[p.1.length<=ah,p.2=0]) alg
theorem alh:Gd ae2:=ard.add fun n hO p hp=>by obtain⟨a,k⟩:=p;have h0:k=0:=hp _ vX;subst h0;exact aN hO (.w (arf hO a (hp _ gQ)) .rr)
def agM:gU aH:=bU 49 (a1 nY) iA (fun p=>Ae p) (fun p=>[p.length<=ah]) ae2
theorem arh:Gd agM:=alh.add fun n hO p hp=>aN hO (.o (hp _ gQ) (.o aiN .rr))
abbrev MQ(b:LI0)(k j:Nat):Bool:=b.getD j 0==b.getD k 0
abbrev a4J(a b:LI0)(i:Int)(x:List (Nat×PE aH)):bJ aH:=⟨[(0,xL 3 a),(1,xL 3 b),(5,xi i)]++x,[],[]⟩
def ae3(a b:LI0)(k:Int)(i:Int):Unit⊕Nat->Ex×bJ aH
 |.inl _=>(.exit 2,a4J a b k [(6,xi i),(29,xl false)])
 |.inr _=>(.ret,⟨[(4,xl false)],[],[]⟩)
theorem ae4{n gG}(hO:Ok n gG)(a b k)(hl:k<=ah)(h:k<b.length):Lp n 109 1 (a4J a b k [(6,xi 0)]) (ae3 a b k k (aZ (MQ b k) k)).1 (ae3 a b k k (aZ (MQ b k) k)).2:=
 MH (st:=fun i _=>a4J a b k [(6,xi i)]) (fun _ _=>True) (by kernel_rfl) hl Ru trivial (fun j s n hk _ ih=>aI hO (.b (aV hk) (.o (aF (show j<b.length by omega)) (.o (aF h) (.ls (.ou nofun) (.nx (ih _ trivial))))))) (fun s _=>aI hO (.b (dZ k) (.ou nofun)))
abbrev a0N(m:Int)(b:LI0)(k:Nat):Bool:=if(!(nX (b.getD k 0) 0 m))=true then true else if jO (aZ (MQ b k) k)=true then false else true
def z109(a b:LI0):Unit⊕Nat->Ex×bJ aH
 |.inl _=>(.exit 0,a4J a b b.length [(15,xl false)])
 |.inr _=>(.ret,⟨[(4,xl false)],[],[]⟩)
abbrev xw(s:LI0):Int:=i64.wrap ((s.length:Int)-1)
theorem ali{n}(hO:Ok n agM)(a b)(hl:b.length<=ah):Lp n 109 0 (a4J a b 0 []) (z109 a b (aZ (a0N (xw a) b) b.length)).1 (z109 a b (aZ (a0N (xw a) b) b.length)).2:=
 MH (st:=fun i _=>a4J a b i []) (fun _ _=>True) (by kernel_rfl) hl Ru trivial (fun k s n hk _ ih=>by
  unfold gS a0N;cases h1:(!(nX (b.getD k 0) 0 (xw a)))
  .cases h2:jO (aZ (MQ b k) k)
   .exact aI hO (.b (aV hk) (.o (aF hk) (.b h1 (.w (kX (ae4 hO a b k (by omega) hk) 0 h2) (.ou nofun)))))
   .exact aI hO (.b (aV hk) (.o (aF hk) (.b h1 (.w (kW (ae4 hO a b k (by omega) hk) () h2) (.nx (ih _ trivial))))))
  .exact aI hO (.b (aV hk) (.o (aF hk) (.b h1 (.ou nofun))))
  ) (fun s _=>aI hO (.b (dZ b.length) (.ou nofun)))
theorem a88{s}(h:s.length<=ah):xw s=(s.length:Int)-1:=by unfold xw;unfold ah at h;exact eU (by omega) (by omega)
theorem vg{k lo hi}:nX k lo hi=true↔lo<=k/\k<=hi:=by
 unfold nX;split
 .rename_i h;simp at h ⊢;omega
 rename_i h;simp at h ⊢;omega
theorem Yx{a b}(ha:a.length<=ah)(h:b.length=a.length):jO (aZ (a0N (xw a) b) b.length)=jC a.length b:=by
 rw[a5G,cO,jC,a1z];have e1:(∀j,j<b.length->a0N (xw a) b j=false)↔(∀j,j<b.length->(0<=b.getD j 0/\b.getD j 0<a.length)/\∀i,i<j->b.getD i 0≠b.getD j 0):=by
  refine aaK fun j=>aaK fun hj=>?_;unfold a0N;rw[a88 ha];cases h1:nX (b.getD j 0) 0 ((a.length:Int)-1)
  .simp only[abD,a2l,aff,false_iff];intro h2;have:nX (b.getD j 0) 0 ((a.length:Int)-1)=true:=by rw[vg];omega
   rw[h1]at this;cases this
  have h3:0<=b.getD j 0/\b.getD j 0<a.length:=by rw[vg]at h1;omega
  simp only[aa2,a2H,a3S,h3,adr,true_and];cases h2:jO (aZ (MQ b j) j)
  .simp only[a2H,a3S,aff,false_iff];intro h4;have:jO (aZ (MQ b j) j)=true:=cO.2 fun i hi=>(by simpa[MQ]using h4 i hi);rw[h2]at this;cases this
  simp only[a2l,true_iff];intro i hi;have:=cO.1 h2 i hi;simpa[MQ]using this
 rw[e1];constructor
 .intro hq;refine⟨h,(J7 (d:=0)).1 fun j hj=>(hq j hj).1,?_⟩;rw[acA,ad4];intro i j hi hj Bg;have:=(hq j hj).2 i Bg;simpa[List.getD,a0A hi,a0A hj]using this
 rintro⟨_,h2,h3⟩ j hj;refine⟨(J7 (d:=0)).2 h2 j hj,fun i hi=>?_⟩;rw[acA,ad4]at h3;have:=h3 i j (by omega) hj hi;simpa[List.getD,a0A (show i<b.length by omega),a0A hj]using this
theorem abx{a b:LI0}(h:((b.length:Int) != (a.length:Int))=true):jC a.length b=false:=by unfold jC;rw[a3k];rintro⟨h1,_⟩;rw[h1]at h;simp at h
def a8a:gU aH:=bU 109 (a2 nY nY) tA (fun p=>jC p.1.length p.2) (fun p=>[p.1.length<=ah,p.2.length<=ah]) agM
theorem alj:Gd a8a:=arh.add fun n hO p hp=>aN hO (.s (fun h=>.v false (abx h).symm) fun h=>.z (c:=jO (aZ (a0N (xw p.1) p.2) p.2.length)) (fun h2=>.w (kW (ali hO p.1 p.2 (hp _ vX)) () h2) (.v true (by rw[<-Yx (hp _ gQ) (jW h),h2]))) fun h2=>.w (kX (ali hO p.1 p.2 (hp _ vX)) 0 h2) (.v false (by rw[<-Yx (hp _ gQ) (jW h),h2])))
abbrev cSz(a:LI0)(k:Nat):Bool:=!(nX (a.getD k 0) 1 12)
theorem aby{a}:jO (aZ (cSz a) a.length)=decide (mO a):=by rw[a5G,cO,a1z,mO,<-J7 (d:=0)];refine aaK fun j=>aaK fun hj=>?_;simp only[cSz,aaX,vg]
abbrev w58(a b:LI0)(i:Int)(x:List (Nat×PE aH)):bJ aH:=⟨[(0,xL 3 a),(1,xL 3 b),(5,xi i)]++x,[],[]⟩
def z58(a b:LI0):Unit⊕Nat->Ex×bJ aH
 |.inl _=>(.exit 0,w58 a b a.length [(12,xl false)])
 |.inr _=>(.ret,⟨[(4,xi 3)],[],[]⟩)
theorem l58{n}(hO:Ok n a8a)(a b)(hl:a.length<=ah):Lp n 58 0 (w58 a b 0 []) (z58 a b (aZ (cSz a) a.length)).1 (z58 a b (aZ (cSz a) a.length)).2:=
 MH (st:=fun i _=>w58 a b i []) (fun _ _=>True) (by kernel_rfl) hl Ru trivial (fun k s n hk _ ih=>aI hO (.b (aV hk) (.o (aF hk) (.ls (.ou nofun) (.nx (ih _ trivial)))))) (fun s _=>aI hO (.b (dZ a.length) (.ou nofun)))
def aY(s o:LI0):Int:=if decide ((s.length:Int)>6)=true then 5 else if jO (aZ (cSz s) s.length)=true then(if decide (Ae s>2000)=true then 5 else if(!(jC s.length o))=true then 4 else 0)else 3
theorem abz{s:LI0}(h:decide ((s.length:Int)>6)=false):s.length<=6:=by simp at h;omega
theorem Yy{k}(h:k<=6):k<=ah:=by unfold ah;omega
def alm:gU aH:=bU 58 (a2 nY nY) iA (fun p=>aY p.1 p.2) (fun p=>[p.2.length<=ah]) a8a
theorem arj:Gd alm:=alj.add fun n hO p hp=>aN hO (.sh (fun _=>.rr) fun h=>.zh (fun h2=>.w (kW (l58 hO p.1 p.2 (Yy (abz h))) () h2) (.o (Yy (abz h)) (.o aiN (.ss .rr (.o (Yy (abz h)) (.o (hp _ gQ) (.ss .rr .rr))))))) fun h2=>.w (kX (l58 hO p.1 p.2 (Yy (abz h))) 0 h2) .rr)
theorem Qw(s o):aY s o=if 6<s.length then 5 else if mO s then(if 2000<bC s then 5 else if jC s.length o=true then 0 else 4)else 3:=by
 unfold aY;rw[aby];by_cases h1:6<s.length
 .rw[a15 h1,a15 (by simp;omega)]
 rw[a0S h1,a0S (by simp;omega)];by_cases h2:mO s
 .rw[a15 (by simpa using h2),a15 h2,Qc h2];by_cases h3:2000<bC s
  .rw[a15 h3,a15 (by simp;omega)]
  rw[a0S h3,a0S (by simp;omega)];cases jC s.length o<;>simp
 rw[a0S (by simpa using h2),a0S h2]
theorem iL{s o}:aY s o=0↔qy s/\jC s.length o=true:=by
 rw[Qw];constructor
 .intro h;split at h
  .cases h
  split at h
  .split at h
   .cases h
   split at h
   .exact⟨⟨by omega,by assumption,by omega⟩,by assumption⟩
   cases h
  cases h
 rintro⟨⟨h1,h2,h3⟩,h4⟩;rw[a0S (by omega),a15 h2,a0S (by omega),a15 h4]
abbrev w53(a:LI0)(i:Int)(s:Int×LI0)(x:List (Nat×PE aH)):bJ aH:=⟨[(0,xL 3 a),(1,xi s.1),(5,xo 0),(6,xi i)]++x,[],[.list true true 3 s.2]⟩
theorem szk{a}(hs:mO a){k}(hk:k<a.length):a.getD k 0≠0:=by have:=hs _ (bV hk);omega
theorem agN(k:Nat):decide ((k:Int)>=0)=true:=by simp
theorem l53{n gG}(hO:Ok n gG)(a m)(hl:a.length<=ah)(hs:mO a):Lp n 53 0 (w53 a (i64.wrap ((a.length:Int)-1)) (m,List.replicate a.length 0) []) (.exit 0) (w53 a (-1) (Qa (a4q a) a.length (m,List.replicate a.length 0)) [(14,xl false)]):=
 akt (st:=fun i s=>w53 a i s []) (fin:=fun s=>w53 a (-1) s [(14,xl false)]) (fun _ s=>s.2.length=a.length) (by kernel_rfl) hl Ru (by simp) (fun k s _ h=>by simp[a4q,h]) (fun k s hk hi n e p h=>aI hO (.b (agN k) (.o (aF hk) (.o (szk hs hk) (.o (aF (show k<s.2.length by omega)) (.o (aF hk) (.o (szk hs hk) (.go h)))))))) (fun s _=>aI hO (.b (rfl:decide ((-1:Int)>=0)=false) .ex))
theorem mk1{α:Type}(l:List α):(l.length:Int)=(l.length:Int):=rfl
theorem mk2{α:Type}(l:List α):(0:Int)<=(l.length:Int):=by omega
theorem mk3{α:Type}{l:List α}(h:l.length<=ah):(l.length:Int)<=(ah:Int):=by omega
def aln:gU aH:=bU 53 (a2 nY iA) nY (fun p=>iV p.1 p.2) (fun p=>[p.1.length<=ah,mO p.1,0<=p.2,p.2<2^62]) alm
theorem ark:Gd aln:=arj.add fun n hO p hp=>aN hO (.o (mk1 p.1) (.o (mk2 p.1) (.o (mk3 (hp _ gQ)) (.w (l53 hO p.1 p.2 (hp _ gQ) (hp _ vX)) (.v (Qa (a4q p.1) p.1.length (p.2,List.replicate p.1.length 0)).2 (a7H (hp _ vX) (hp _ hh2) (hp _ (.tail _ (.tail _ (.tail _ (.head _))))) a6c))))))
abbrev w52(a b:LI0)(m i:Int)(x:List (Nat×PE aH)):bJ aH:=⟨[(0,xL 3 a),(1,xL 3 b),(5,xi m),(6,xi i)]++x,[],[]⟩
theorem l52{n gG}(hO:Ok n gG)(a b)(hl:a.length<=ah)(h:b.length=a.length):Lp n 52 0 (w52 a b 0 0 []) (.exit 0) (w52 a b (aku a b) a.length [(10,xl false)]):=
 MI (st:=fun i m=>w52 a b m i []) (fin:=fun m=>w52 a b m a.length [(10,xl false)]) (fun _ _=>True) (by kernel_rfl) hl Ru trivial (fun _ _ _ _=>trivial) (fun k s hk _ n e p g=>aI hO (.b (aV hk) (.o (aF hk) (.o (aF (h▸hk)) (.go g))))) (fun s _=>aI hO (.b (dZ a.length) .ex))
def agO:gU aH:=bU 52 (a2 nY nY) iA (fun p=>eH p.1 p.2) (fun p=>[iF p.1 p.2=true,qy p.1]) aln
theorem arl:Gd agO:=ark.add fun n hO p hp=>aN hO (.w (l52 hO p.1 p.2 (Yy (show qy p.1 from hp _ vX).len) (lG (hp _ gQ))) (.v _ (abd (hp _ gQ) (show qy p.1 from hp _ vX).sz (show qy p.1 from hp _ vX).many)))
abbrev cPl(a b:LI0)(k:Nat):Bool:=!(nX (b.getD k 0) 0 (i64.wrap (a.getD k 0-1)))
abbrev w50(a b:LI0)(i:Int)(x:List (Nat×PE aH)):bJ aH:=⟨[(0,xL 3 a),(1,xL 3 b),(5,xi i)]++x,[],[]⟩
def z50(a b:LI0):Unit⊕Nat->Ex×bJ aH
 |.inl _=>(.exit 0,w50 a b b.length [(14,xl false)])
 |.inr _=>(.ret,⟨[(4,xl false)],[],[]⟩)
theorem l50{n}(hO:Ok n agO)(a b)(hl:b.length<=ah)(h:b.length=a.length):Lp n 50 0 (w50 a b 0 []) (z50 a b (aZ (cPl a b) b.length)).1 (z50 a b (aZ (cPl a b) b.length)).2:=
 MH (st:=fun i _=>w50 a b i []) (fun _ _=>True) (by kernel_rfl) hl Ru trivial (fun k s n hk _ ih=>aI hO (.b (aV hk) (.o (aF hk) (.o (aF (show k<a.length by omega)) (.ls (.ou nofun) (.nx (ih _ trivial))))))) (fun s _=>aI hO (.b (dZ b.length) (.ou nofun)))
theorem a2K{a b}(hs:mO a)(h:b.length=a.length):jO (aZ (cPl a b) b.length)=iF a b:=by rw[a5G,cO,lH,h];simp only[true_and];refine aaK fun j=>aaK fun hj=>?_;have:=hs _ (bV hj);simp only[cPl,aaX,vg];rw[eU (by omega) (by omega)];omega
theorem agP{a b}(h:((b.length:Int) != (a.length:Int))=true):iF a b=false:=by
 cases h2:iF a b
 .rfl
 rw[lG h2]at h;simp at h
def alp:gU aH:=bU 50 (a2 nY nY) tA (fun p=>iF p.1 p.2) (fun p=>[p.2.length<=ah,mO p.1]) agO
theorem aro:Gd alp:=arl.add fun n hO p hp=>aN hO (.s (fun h=>.v false (agP h).symm) fun h=>.z (c:=jO (aZ (cPl p.1 p.2) p.2.length)) (fun h2=>.w (kW (l50 hO p.1 p.2 (hp _ gQ) (jW h)) () h2) (.v true (by rw[<-a2K (hp _ vX) (jW h),h2]))) fun h2=>.w (kX (l50 hO p.1 p.2 (hp _ gQ) (jW h)) 0 h2) (.v false (by rw[<-a2K (hp _ vX) (jW h),h2])))
def vOk(v:V):Bool:=if(v.f==0)=true then nX v.n (-9999) 9999 else if(decide (v.f<=4))=true then v.n==0 else false
def alq:gU aH:=bU 29 (a1 vA) tA (fun p=>vOk p) np alp
theorem arp:Gd alq:=aro.add fun n hO p hp=>aN hO (.ss .rr (.ss .rr .rr))
def vIs(v:V):Bool:=if(decide (v.f>0))=true then(if(decide (v.f<=4))=true then v.n==0 else false)else nX v.n (-9999) 9999
theorem agQ{v}(h:0<=v.f):vOk v=vIs v:=by
 unfold vOk vIs;by_cases h0:v.f=0
 .rw[a15 (by simp[h0]),a0S (by simp;omega)]
 have:v.f>0:=by omega
 simp[h0,this]
open Go Tw Pv bQ
def dR(n:Nat):LI0:=(List.range n).map fun(k:Nat)=>(k:Int)
theorem mQ(n):(dR n).length=n:=by simp[dR]
theorem Uh(n):jC n (dR n)=true:=by
 unfold jC;rw[a1z];refine⟨mQ n,fun a ha=>?_,?_⟩
 .simp only[dR,a1u,a5y]at ha;obtain⟨k,h1,rfl⟩:=ha;omega
 unfold dR;exact List.Pairwise.map _ (fun a b h=>by omega) af0
open Go Tw Pv bQ
abbrev V.tv(v:V):TV:=.agg [.int .u8 v.f,.int .i64 v.n]
theorem a4K:Tryz.prog.underlying 3=some (.int .i64):=by kernel_rfl
theorem uU8:Tryz.prog.underlying 5=some (.int .u8):=by kernel_rfl
theorem agR : Tryz.prog.underlying 39 = some (.struct #[⟨"Fault", 5, 0, false, "", "", 0⟩, ⟨"N", 3, 1, false, "", "", 8⟩]) := by kernel_rfl
theorem a2L(d)(a b:V):aC Qp (Op.equalIn (d+2) 39 (.agg #[.int .u8 a.f,.int .i64 a.n]) (.agg #[.int .u8 b.f,.int .i64 b.n]))=some (decide (a=b)):=by
 rw[yS (d+1) 39 _ _ _ agR (by kernel_rfl)];have p0:∀x y:LI3,aC Qp (part 5 #[x,y] 0)=some x:=by intro x y;kernel_rfl
 have p1:∀x y:LI3,aC Qp (part 3 #[x,y] 1)=some y:=by intro x y;kernel_rfl
 have n1 : ("Fault" : String) ≠ "_" := by decide
 have n2 : ("N" : String) ≠ "_" := by decide
 have q1 := pI (f := ⟨"Fault", 5, 0, false, "", "", 0⟩) (fs := [⟨"N", 3, 1, false, "", "", 8⟩]) n1 (p0 (.int .u8 a.f) (.int .i64 a.n)) (p0 (.int .u8 b.f) (.int .i64 b.n)) (sF d _ _ _ _ _ uU8);have q2 := pI (f := ⟨"N", 3, 1, false, "", "", 8⟩) (fs := []) n2 (p1 (.int .u8 a.f) (.int .i64 a.n)) (p1 (.int .u8 b.f) (.int .i64 b.n)) (sF d _ _ _ _ _ a4K);rw[q1,q2];rw[show aC Qp (Op.eqFields (d+1) #[.int .u8 a.f,.int .i64 a.n] #[.int .u8 b.f,.int .i64 b.n] [])=some true from rfl];rcases a with⟨a1,a2⟩;rcases b with⟨b1,b2⟩;by_cases h1:a1=b1<;>by_cases h2:a2=b2<;>simp[h1,h2]
theorem eqV(x y a b):uj Qp .eql 39 x y (V.tv a) (V.tv b)=some (.bool (decide (a=b))):=(IE rfl rfl (by kernel_rfl) (by decide) (a2L 9998 a b)).1
theorem neV(x y a b):uj Qp .neq 39 x y (V.tv a) (V.tv b)=some (.bool (!decide (a=b))):=(IE rfl rfl (by kernel_rfl) (by decide) (a2L 9998 a b)).2
open Go Tw Pv bQ
abbrev cAl(a b:List V)(k:Nat):Bool:=!decide (a.getD k V0=b.getD k V0)
abbrev w75(a b:List V)(i:Int)(x:List (Nat×PE aH)):bJ aH:=⟨[(0,xL 39 a),(1,xL 39 b),(5,xi i)]++x,[],[]⟩
def z75(a b:List V):Unit⊕Nat->Ex×bJ aH
 |.inl _=>(.exit 0,w75 a b a.length [(14,xl false)])
 |.inr _=>(.ret,⟨[(4,xl false)],[],[]⟩)
theorem l75{n gG}(hO:Ok n gG)(a b)(hl:a.length<=ah)(h:a.length=b.length):Lp n 75 0 (w75 a b 0 []) (z75 a b (aZ (cAl a b) a.length)).1 (z75 a b (aZ (cAl a b) a.length)).2:=
 MH (st:=fun i _=>w75 a b i []) (fun _ _=>True) (by kernel_rfl) hl Ru trivial (fun k s n hk _ ih=>aI hO (.b (aV hk) (.o (aF hk) (.o (aF (h▸hk)) (.q (.bool (cAl a b k)) (neV (.tmp 20) (.tmp 24) (a.getD k V0) (b.getD k V0)) (.ls (.ou nofun) (.nx (ih _ trivial)))))))) (fun s _=>aI hO (.b (dZ a.length) (.ou nofun)))
theorem a2M{a b}(h:a.length=b.length):jO (aZ (cAl a b) a.length)=decide (a=b):=by rw[a5G,cO,a1z,nV (d:=V0) h];simp[cAl]
theorem abA{a b:List V}(h:((a.length:Int) != (b.length:Int))=true):decide (a=b)=false:=by rw[a3k];rintro rfl;simp at h
def als:gU aH:=bU 75 (a2 vsA vsA) tA (fun p=>decide (p.1=p.2)) (fun p=>[p.1.length<=ah]) alq
theorem aru:Gd als:=arp.add fun n hO p hp=>aN hO (.s (fun h=>.v false (abA h).symm) fun h=>.z (c:=jO (aZ (cAl p.1 p.2) p.1.length)) (fun h2=>.w (kW (l75 hO p.1 p.2 (hp _ gQ) (jW h)) () h2) (.v true (by rw[<-a2M (jW h),h2]))) fun h2=>.w (kX (l75 hO p.1 p.2 (hp _ gQ) (jW h)) 0 h2) (.v false (by rw[<-a2M (jW h),h2])))
open Go Tw Pv bQ
abbrev RhB(n f k B m:Nat)(s:bJ aH)(e:Ex)(p:bJ aH):Prop:=dN X0 Qp T (iD n) LL f false (Di Qp f) B (U0 Qp f k) m s e p
abbrev hdP(f k:Nat)(w:bJ aH):bJ aH:=iy X0 (T.fC f (eu (U0 Qp f k))) w
section
variable{n f k B N:Nat}{σ ρ:Type}
theorem qY{st:Int->σ->bJ aH}{g e}{fin:σ->bJ aH}{s0 w}(Inv:Nat->σ->Prop)(h0:hdP f k w=st 0 s0)(hl:N<=ah)(hi:Inv 0 s0)(hv:∀j s,j<N->Inv j s->Inv (j+1) (g j s))(hs:∀(j) (s),j<N->Inv j s->∀m e1 p,RhB n f k B m (st (i64.wrap (j+1)) (g j s)) e1 p->RhB n f k B (m+1) (st j s) e1 p)(ho:∀s,Inv N s->RhB n f k B 1 (st N s) e (fin s)):JH n f k B w e (fin (aQ g N 0 s0)):=MI Inv h0 hl Ru hi hv hs ho
theorem iI{st:Int->σ->bJ aH}{g}{out:σ⊕ρ->Ex×bJ aH}{s0 w}(Inv:Nat->σ->Prop)(h0:hdP f k w=st 0 s0)(hl:N<=ah)(hi:Inv 0 s0)(hs:∀(j) (s) (m),j<N->Inv j s->(∀s1,Inv (j+1) s1->RhB n f k B m (st (i64.wrap (j+1)) s1) (wJ (X:=X0) out g (N-(j+1)) (j+1) (.inl s1)).1 (wJ (X:=X0) out g (N-(j+1)) (j+1) (.inl s1)).2) ->RhB n f k B (m+1) (st j s) (wJ (X:=X0) out g (N-(j+1)) (j+1) (g j s)).1 (wJ (X:=X0) out g (N-(j+1)) (j+1) (g j s)).2)(ho:∀s,Inv N s->RhB n f k B 1 (st N s) (out (.inl s)).1 (out (.inl s)).2):JH n f k B w (out (jU g N 0 s0)).1 (out (jU g N 0 s0)).2:=MH Inv h0 hl Ru hi hs ho
theorem abB{a:Nat}{st:Int->σ->bJ aH}{g}{out:σ⊕ρ->Ex×bJ aH}{s0 w}(Inv:Nat->σ->Prop)(h0:hdP f k w=st a s0)(ha:a<=N)(hl:N<=ah)(hi:Inv a s0)(hs:∀(j) (s) (m),a<=j->j<N->Inv j s->(∀s1,Inv (j+1) s1->RhB n f k B m (st (i64.wrap (j+1)) s1) (wJ (X:=X0) out g (N-(j+1)) (j+1) (.inl s1)).1 (wJ (X:=X0) out g (N-(j+1)) (j+1) (.inl s1)).2) ->RhB n f k B (m+1) (st j s) (wJ (X:=X0) out g (N-(j+1)) (j+1) (g j s)).1 (wJ (X:=X0) out g (N-(j+1)) (j+1) (g j s)).2)(ho:∀s,Inv N s->RhB n f k B 1 (st N s) (out (.inl s)).1 (out (.inl s)).2):JH n f k B w (out (jU g (N-a) a s0)).1 (out (jU g (N-a) a s0)).2:=agn Inv h0 ha hl Ru hi hs ho
theorem a0O{st:σ->bJ aH}{g}{out:ρ->Ex×bJ aH}(Inv:σ->Prop){m s r w}(hr:itF g m s=some r)(h0:hdP f k w=st s)(hk:m<=LL)(hv:Inv s)(hi:∀s s1,Inv s->g s=.inl s1->Inv s1)(hs:∀s m r,Inv s->(∀s1,g s=.inl s1->RhB n f k B m (st s1) (out r).1 (out r).2)->RhB n f k B (m+1) (st s) (Ec (X:=X0) out r (g s)).1 (Ec (X:=X0) out r (g s)).2):JH n f k B w (out r).1 (out r).2:=agl Inv hr h0 hk hv hi hs
end
open Go Tw Pv bQ
structure Prt(l:List V)(w n:Nat):Prop where
 n12:n<=12
 w2:w<=5000
 len:l.length=n*w
section
variable{l:List V}{w n j:Nat}(h:Prt l w n)
include h
end
theorem KW{α β:Type}(l:List α)(d)(f:α->β):(List.range l.length).map (fun k=>f (l.getD k d))=l.map f:=by
 apply aac (by simp);intro i h1 h2;have:i<l.length:=by simpa using h1
 simp[List.getD,a0A this]
open Go Tw Pv bQ
theorem Qx{s p ch d}(hp:iF s p=true)(hc:fZ ch s.length)(hd:fZ d (s.getD ch.toNat 0).toNat):iF s (p.set ch.toNat d)=true:=by
 rw[lH]at hp ⊢;obtain⟨c1,c2⟩:=hc;obtain⟨d1,d2⟩:=hd;refine⟨by simp[hp.1],fun j hj=>?_⟩;rw[zS (by omega)];split
 .rename_i e;subst e;omega
 exact hp.2 j hj
open Go Tw Pv bQ
abbrev ay(d:Dg)(r:Int):Br:=d.au.getD r.toNat kP
abbrev Qy(d:Dg)(r:Int)(k:Nat):Bool:=d.aB.getD k 0==(ay d r).var
abbrev a4L(d:Dg)(r i:Int)(x:List (Nat×PE aH)):bJ aH:=⟨[(1,xi r),(2,.loc 0 0),(5,xi i)]++x,[d.ps],[]⟩
def alv(d:Dg)(r:Int)(N:Nat):Unit⊕Nat->Ex×bJ aH
 |.inl _=>(.exit 0,a4L d r N [(14,xl false)])
 |.inr k=>(.ret,⟨[(4,xi k)],[d.ps],[]⟩)
theorem alx{r:Int}(h:0<=r):decide (r>=0)=true:=by simpa using h
theorem aly{n gG}(hO:Ok n gG)(d r)(hl:d.aB.length<=ah)(h:fZ r d.au.length):Lp n 177 0 (a4L d r 0 []) (alv d r d.aB.length (aZ (Qy d r) d.aB.length)).1 (alv d r d.aB.length (aZ (Qy d r) d.aB.length)).2:=
 iI (st:=fun i _=>a4L d r i []) (fun _ _=>True) (by kernel_rfl) hl trivial (fun k s m hk _ ih=>aI hO (.b (alx h.1) (.b (aV hk) (.o (aF hk) (.o h (.ls (.ou nofun) (.nx (ih _ trivial)))))))) (fun s _=>aI hO (.b (alx h.1) (.b (dZ d.aB.length) (.ou nofun))))
theorem alz{n gG}(hO:Ok n gG)(d r)(h:r<0):Lp n 177 0 (a4L d r 0 []) (.exit 0) (a4L d r 0 [(14,xl false)]):=
 A8 (ps:=a4L d r 0 []) (aI hO (.b (show decide (r>=0)=false by simpa using h) .ex)) (by kernel_rfl) (by decide:1<=LL)
def uP(d:Dg)(r:Int):Int:=if decide (r<0)=true then(d.aB.length:Int)else if jO (aZ (Qy d r) d.aB.length)=true then(d.aB.length:Int)else((Eb 0 (aZ (Qy d r) d.aB.length):Nat):Int)
def ae5:gU aH:=bU 177 (a2 dA iA) iA (fun p=>uP p.1 p.2) (fun p=>[p.1.aB.length<=ah,0<=p.2->fZ p.2 p.1.au.length]) als
theorem alA:Gd ae5:=aru.add fun n hO p hp=>aN hO (.zh (fun h=>.w (alz hO p.1 p.2 (by simpa using h)) .rr) fun h=>.zh (fun h2=>.w (kW (aly hO p.1 p.2 (hp _ gQ) (hp (0<=p.2->fZ p.2 p.1.au.length) (.tail _ (.head _)) (by simpa using h))) () h2) .rr) fun h2=>.w (kX (aly hO p.1 p.2 (hp _ gQ) (hp (0<=p.2->fZ p.2 p.1.au.length) (.tail _ (.head _)) (by simpa using h))) 0 h2) .rr)
def ji(d:Dg)(r below:Int):Bool:=if decide (r>=0)=true then decide (r<below)else nX (i64.wrap (-1-r)) 0 (i64.wrap ((d.aO.length:Int)-1))
def ae6:gU aH:=bU 176 (a3 dA iA iA) tA (fun p=>ji p.1 p.2.1 p.2.2) np ae5
theorem alB:Gd ae6:=alA.add fun n hO p hp=>aN hO (.ss .rr .rr)
abbrev Qz(b:Br)(k:Nat):Bool:=b.aA.getD k 0 != b.aA.getD 0 0
abbrev agS(b:Br)(i:Int)(x:List (Nat×PE aH)):bJ aH:=⟨[(1,.loc 0 0),(3,xi i)]++x,[b.ps],[]⟩
def alC(b:Br):Unit⊕Nat->Ex×bJ aH
 |.inl _=>(.exit 0,agS b (max 1 b.aA.length:Nat) [(8,xl false)])
 |.inr _=>(.ret,⟨[(2,xl false)],[b.ps],[]⟩)
theorem alD{n gG}(hO:Ok n gG)(b)(hl:b.aA.length<=ah):Lp n 132 0 (agS b 1 []) (alC b (U5 (Qz b) 1 (max 1 b.aA.length))).1 (alC b (U5 (Qz b) 1 (max 1 b.aA.length))).2:=
 abB (st:=fun i _=>agS b i []) (fun _ _=>True) (by kernel_rfl) (by omega) (by unfold ah at *;omega) trivial (fun k s m h1 hk _ ih=>aI hO (.b (aV (show k<b.aA.length by omega)) (.o (aF (show k<b.aA.length by omega)) (.o (show fZ 0 b.aA.length from⟨by omega,by omega⟩) (.ls (.ou nofun) (.nx (ih _ trivial))))))) (fun s _=>aI hO (.b (show decide (((max 1 b.aA.length:Nat):Int)<(b.aA.length:Int))=false by simp only[a3k];omega) (.ou nofun)))
def xZ(b:Br):Bool:=if jO (U5 (Qz b) 1 (max 1 b.aA.length))=true then true else false
def ae7:gU aH:=bU 132 (a1 brA) tA (fun p=>xZ p) (fun p=>[p.aA.length<=ah]) ae6
theorem alE:Gd ae7:=alB.add fun n hO p hp=>aN hO (.zh (fun h=>.w (kW (alD hO p (hp _ gQ)) () h) .rr) fun h=>.w (kX (alD hO p (hp _ gQ)) 0 h) .rr)
abbrev Ui(l:LI0)(n:Int)(k:Nat):Bool:=l.getD k 0==n
abbrev agT(l:LI0)(m i:Int)(x:List (Nat×PE aH)):bJ aH:=⟨[(0,xL 3 l),(1,xi m),(5,xi i)]++x,[],[]⟩
def alF(l:LI0)(m:Int):Unit⊕Nat->Ex×bJ aH
 |.inl _=>(.exit 0,agT l m l.length [(9,xl false)])
 |.inr _=>(.ret,⟨[(4,xl true)],[],[]⟩)
theorem alG{n gG}(hO:Ok n gG)(l m)(hl:l.length<=ah):Lp n 178 0 (agT l m 0 []) (alF l m (aZ (Ui l m) l.length)).1 (alF l m (aZ (Ui l m) l.length)).2:=
 iI (st:=fun i _=>agT l m i []) (fun _ _=>True) (by kernel_rfl) hl trivial (fun k s m hk _ ih=>aI hO (.b (aV hk) (.o (aF hk) (.ls (.ou nofun) (.nx (ih _ trivial)))))) (fun s _=>aI hO (.b (dZ l.length) (.ou nofun)))
theorem Uj{l m}:jO (aZ (Ui l m) l.length)=!decide (m∈l):=by
 rw[a5G,cO];simp only[a9y,a3k];constructor
 .intro h hm;obtain⟨j,hj,e⟩:=a5I.1 hm;have:=h j hj;simp[Ui,List.getD,a0A hj,e]at this
 intro h j hj;have e:l.getD j 0=l[j]:=by simp[List.getD,a0A hj]
 simp only[Ui,ait,ne_eq,e];intro e2;exact h (e2▸a5B hj)
def ae8:gU aH:=bU 178 (a2 nY iA) tA (fun p=>decide (p.2∈p.1)) (fun p=>[p.1.length<=ah]) ae7
theorem alH:Gd ae8:=alE.add fun n hO p hp=>aN hO (.z (c:=jO (aZ (Ui p.1 p.2) p.1.length)) (fun h=>.w (kW (alG hO p.1 p.2 (hp _ gQ)) () h) (.v false (by rw[Uj]at h;simp at h;simp[h]))) fun h=>.w (kX (alG hO p.1 p.2 (hp _ gQ)) 0 h) (.v true (by rw[Uj]at h;simp at h;simp[h])))
abbrev a8c(l:LI0)(k:Nat):Bool:=l.getD k 0 != (k:Int)
abbrev agU(l:LI0)(m i:Int)(x:List (Nat×PE aH)):bJ aH:=⟨[(0,xL 3 l),(1,xi m),(5,xi i)]++x,[],[]⟩
def alI(l:LI0)(m:Int):Unit⊕Nat->Ex×bJ aH
 |.inl _=>(.exit 0,agU l m l.length [(9,xl false)])
 |.inr _=>(.ret,⟨[(4,xl false)],[],[]⟩)
theorem alJ{n gG}(hO:Ok n gG)(l m)(hl:l.length<=ah):Lp n 134 0 (agU l m 0 []) (alI l m (aZ (a8c l) l.length)).1 (alI l m (aZ (a8c l) l.length)).2:=
 iI (st:=fun i _=>agU l m i []) (fun _ _=>True) (by kernel_rfl) hl trivial (fun k s m hk _ ih=>aI hO (.b (aV hk) (.o (aF hk) (.ls (.ou nofun) (.nx (ih _ trivial)))))) (fun s _=>aI hO (.b (dZ l.length) (.ou nofun)))
def Ai(l:LI0)(m:Int):Bool:=if jO (aZ (a8c l) l.length)=true then((l.length:Int)==m)else false
def Yz:gU aH:=bU 134 (a2 nY iA) tA (fun p=>Ai p.1 p.2) (fun p=>[p.1.length<=ah]) ae8
theorem alK:Gd Yz:=alH.add fun n hO p hp=>aN hO (.zh (fun h=>.w (kW (alJ hO p.1 p.2 (hp _ gQ)) () h) .rr) fun h=>.w (kX (alJ hO p.1 p.2 (hp _ gQ)) 0 h) .rr)
abbrev cLk(d:Dg)(i k:Nat):Bool:=if(!(ji d ((d.au.getD i kP).aA.getD k 0) i))=true then true else decide (uP d ((d.au.getD i kP).aA.getD k 0)<=uP d i)
abbrev fK(d:Dg)(i:Nat):Br:=d.au.getD i kP
abbrev a8d(d:Dg)(i k:Int)(b:Br)(x:List (Nat×PE aH)):bJ aH:=⟨[(1,.loc 0 0),(4,xi i),(5,.loc 1 0),(6,xi k)]++x,[d.ps,b.ps],[]⟩
def ae9(d:Dg)(i:Nat):Unit⊕Nat->Ex×bJ aH
 |.inl _=>(.exit 4,a8d d i (fK d i).aA.length (fK d i) [(57,xl false)])
 |.inr _=>(.ret,⟨[(2,xl false)],[d.ps,(fK d i).ps],[]⟩)
structure DgL(d:Dg):Prop where
 aB:d.aB.length<=ah
 au:d.au.length<=ah
 aO:d.aO.length<=ah
 bG:qy d.aj
theorem YA{d r}{i:Nat}(h:ji d r i=true)(h0:0<=r)(hi:i<=d.au.length):fZ r d.au.length:=by
 unfold ji at h;rw[a15 (by simpa using h0)]at h;have:r<(i:Int):=by simpa using h
 exact⟨h0,by omega⟩
theorem alL{n}(hO:Ok n Yz){d}(h:DgL d){i}(hi:i<d.au.length)(hk:(fK d i).aA.length<=ah):Lp n 131 2 (a8d d i 0 (fK d i) []) (ae9 d i (aZ (cLk d i) (fK d i).aA.length)).1 (ae9 d i (aZ (cLk d i) (fK d i).aA.length)).2:=
 iI (st:=fun k _=>a8d d i k (fK d i) []) (fun _ _=>True) (by kernel_rfl) hk trivial (fun k s m hk _ ih=>by
  unfold gS cLk;cases e1:ji d ((fK d i).aA.getD k 0) i
  .exact aI hO (.b (aV hk) (.o (aF hk) (.b (show(!(ji d ((fK d i).aA.getD k 0) i))=true by rw[e1];rfl) (.ou nofun))))
  .exact aI hO (.b (aV hk) (.o (aF hk) (.b (show(!(ji d ((fK d i).aA.getD k 0) i))=false by rw[e1];rfl) (.o (aF hk) (.o h.aB (.o (show 0<=(fK d i).aA.getD k 0->fZ ((fK d i).aA.getD k 0) d.au.length from fun h0=>YA e1 h0 (by omega)) (.o h.aB (.o (show 0<=((i:Nat):Int)->fZ i d.au.length from fun _=>aF hi) (.ls (.ou nofun) (.nx (ih _ trivial)))))))))))
  ) (fun s _=>aI hO (.b (dZ (fK d i).aA.length) (.ou nofun)))
abbrev cLn(d:Dg)(i:Nat):Bool:=if(!(nX (fK d i).var 0 (xw d.aj)))=true then true else if(((fK d i).aA.length:Int) != d.aj.getD (fK d i).var.toNat 0)=true then true else if jO (aZ (cLk d i) (fK d i).aA.length)=true then false else true
abbrev a8e(d:Dg)(i:Int)(x:List (Nat×PE aH)):bJ aH:=⟨[(1,.loc 0 0),(4,xi i)]++x,[d.ps],[]⟩
def aea(d:Dg):Unit⊕Nat->Ex×bJ aH
 |.inl _=>(.exit 2,a8e d d.au.length [(25,xl false)])
 |.inr k=>(.ret,⟨[(2,xl false)],[d.ps,(fK d k).ps],[]⟩)
theorem KX{d:Dg}(h:qy d.aj){v}(e:nX v 0 (xw d.aj)=true):fZ v d.aj.length:=by rw[vg,a88 h.Ye]at e;exact⟨e.1,by omega⟩
theorem YB{d:Dg}(h:qy d.aj){v}(e:fZ v d.aj.length){l:LI0}(hl:(((l.length:Int)) != d.aj.getD v.toNat 0)=false):l.length<=12:=by
 have:=h.sz _ (bV (s:=d.aj) (k:=v.toNat) (by have:=e.2;have:=e.1;omega));have hl:(l.length:Int)=d.aj.getD v.toNat 0:=by simpa using hl
 omega
theorem Yw{k}(h:k<=12):k<=ah:=by unfold ah;omega
theorem aeb{n}(hO:Ok n Yz){d}(h:DgL d):Lp n 131 1 (a8e d 0 []) (aea d (aZ (cLn d) d.au.length)).1 (aea d (aZ (cLn d) d.au.length)).2:=
 iI (st:=fun k _=>a8e d k []) (fun _ _=>True) (by kernel_rfl) h.au trivial (fun k s m hk _ ih=>by
  unfold gS cLn;cases e1:nX (fK d k).var 0 (xw d.aj)
  .exact aI hO (.b (aV hk) (.o (aF hk) (.b (show(!(nX (fK d k).var 0 (xw d.aj)))=true by rw[e1];rfl) (.ou nofun))))
  .have hv:=KX h.bG e1;cases e2:(((fK d k).aA.length:Int) != d.aj.getD (fK d k).var.toNat 0)
   .have hl:=alL hO h hk (Yw (YB h.bG hv e2));cases e3:jO (aZ (cLk d k) (fK d k).aA.length)
    .exact aI hO (.b (aV hk) (.o (aF hk) (.b (show(!(nX (fK d k).var 0 (xw d.aj)))=false by rw[e1];rfl) (.o hv (.b e2 (.w (kX hl 0 e3) (.ou nofun)))))))
    .exact aI hO (.b (aV hk) (.o (aF hk) (.b (show(!(nX (fK d k).var 0 (xw d.aj)))=false by rw[e1];rfl) (.o hv (.b e2 (.w (kW hl () e3) (.nx (ih _ trivial))))))))
   .exact aI hO (.b (aV hk) (.o (aF hk) (.b (show(!(nX (fK d k).var 0 (xw d.aj)))=false by rw[e1];rfl) (.o hv (.b e2 (.ou nofun))))))
  ) (fun s _=>aI hO (.b (dZ d.au.length) (.ou nofun)))
abbrev cLe(d:Dg)(k:Nat):Bool:=!(vOk (d.aO.getD k V0))
abbrev a8g(d:Dg)(i:Int)(x:List (Nat×PE aH)):bJ aH:=⟨[(1,.loc 0 0),(3,xi i)]++x,[d.ps],[]⟩
def aec(d:Dg):Unit⊕Nat->Ex×bJ aH
 |.inl _=>(.exit 0,a8g d d.aO.length [(11,xl false)])
 |.inr _=>(.ret,⟨[(2,xl false)],[d.ps],[]⟩)
theorem aed{n}(hO:Ok n Yz){d}(h:DgL d):Lp n 131 0 (a8g d 0 []) (aec d (aZ (cLe d) d.aO.length)).1 (aec d (aZ (cLe d) d.aO.length)).2:=
 iI (st:=fun k _=>a8g d k []) (fun _ _=>True) (by kernel_rfl) h.aO trivial (fun k s m hk _ ih=>aI hO (.b (aV hk) (.o (aF hk) (.ls (.ou nofun) (.nx (ih _ trivial)))))) (fun s _=>aI hO (.b (dZ d.aO.length) (.ou nofun)))
def mV(d:Dg):Bool:=if jO (aZ (cLe d) d.aO.length)=true then(if jO (aZ (cLn d) d.au.length)=true then ji d d.root d.au.length else false)else false
def aee:gU aH:=bU 131 (a1 dA) tA (fun p=>mV p) (fun p=>[DgL p]) Yz
theorem alM:Gd aee:=alK.add fun n hO p hp=>aN hO (.zh (fun h=>.w (kW (aed hO (show DgL p from hp _ gQ)) () h) (.zh (fun h2=>.w (kW (aeb hO (show DgL p from hp _ gQ)) () h2) .rr) fun h2=>.w (kX (aeb hO (show DgL p from hp _ gQ)) 0 h2) .rr)) fun h=>.w (kX (aed hO (show DgL p from hp _ gQ)) 0 h) .rr)
def aW(d:Dg):Int:=if(aY d.aj d.aB != 0)=true then aY d.aj d.aB else if decide ((d.au.length:Int)>6000)=true then 5 else if(!(mV d))=true then 4 else 0
theorem VX{k:Nat}(h:decide ((k:Int)>6000)=false):k<=ah:=by simp at h;unfold ah;omega
theorem BO{s o}(h:(aY s o != 0)=false):qy s:=(iL.1 (by simpa using h)).1
def abC:gU aH:=bU 83 (a1 dA) iA (fun p=>aW p) (fun p=>[p.aB.length<=ah,p.aO.length<=ah]) aee
theorem arv:Gd abC:=alM.add fun n hO p hp=>aN hO (.o (hp _ gQ) (.sh (fun _=>.rr) fun h=>.sh (fun _=>.rr) fun h2=>.o (show DgL p from⟨hp _ gQ,VX h2,hp _ vX,BO h⟩) (.ss .rr .rr)))
open Go Tw Pv bQ
abbrev jo(r:Int):Int:=i64.wrap (-1-r)
def kJ(d:Dg):Nat->Int->LI0×LI0->LI0×LI0
 | 0,_,x=>x
 |F+1,r,x=>if decide (r<0)=true then(if(!(decide (jo r∈x.2)))=true then(x.1,x.2++[jo r])else x)else if decide (r∈x.1)=true then x
  else((aQ (fun k y=>kJ d F ((ay d r).aA.getD k 0) y) (ay d r).aA.length 0 x).1++[r],(aQ (fun k y=>kJ d F ((ay d r).aA.getD k 0) y) (ay d r).aA.length 0 x).2)
def jQ(d:Dg)(r:Int)(b:Nat):Prop:=r<b/\(r<0->fZ (jo r) d.aO.length)
structure CV(d:Dg):Prop extends DgL d where
 Aj:∀i,i<d.au.length->∀k,k<(fK d i).aA.length->jQ d ((fK d i).aA.getD k 0) i
 KY:∀i,i<d.au.length->(fK d i).aA.length<=12
 var:∀i,i<d.au.length->fZ (fK d i).var d.aj.length
 ksz:∀i,i<d.au.length->((fK d i).aA.length:Int)=d.aj.getD (fK d i).var.toNat 0
 root:jQ d d.root d.au.length
structure KZ(d:Dg)(x:LI0×LI0):Prop where
 n1:x.1.Nodup
 n2:∀a∈x.1,fZ a d.au.length
 e1:x.2.Nodup
 e2:∀a∈x.2,fZ a d.aO.length
theorem Ak:∀(N) (l:LI0),l.Nodup->(∀a∈l,fZ a N)->l.length<=N
 | 0,[],_,_=>a1j _
 | 0,a::l,_,h=>by obtain⟨h1,h2⟩:=h a (a3G ..);omega
 |N+1,l,hn,h=>by
  have h1:=Ak N (l.erase (N:Int)) (hn.erase _) fun a ha=>by have h2:=(List.Nodup.mem_erase_iff hn).1 ha;have h3:=h a h2.2;exact⟨h3.1,by have:=h3.2;have:=h2.1;omega⟩
  by_cases hm:(N:Int)∈l
  .rw[List.length_erase_of_mem hm]at h1;omega
  rw[List.erase_of_not_mem hm]at h1;omega
theorem KZ.len{d x}(h:KZ d x):x.1.length<=d.au.length/\x.2.length<=d.aO.length:=⟨Ak _ _ h.n1 h.n2,Ak _ _ h.e1 h.e2⟩
theorem y9{l:LI0}{a}(h:l.Nodup)(ha:a∉l):(l++[a]).Nodup:=by rw[a9S];exact⟨h,by simp,fun x hx y hy e=>by simp at hy;subst hy;subst e;exact ha hx⟩
theorem a8h{d}:∀(F) (r s) (x),r<s->s∉x.1->0<=s->(∀i,i<d.au.length->∀k,k<(fK d i).aA.length->(fK d i).aA.getD k 0<i)->(0<=r->fZ r d.au.length)->s∉(kJ d F r x).1
 | 0,_,_,_,_,h,_,_,_=>h
 |F+1,r,s,x,hr,h,h0,hk,hn=>by
  unfold kJ;by_cases c:r<0
  .rw[a15 (by simpa using c)];split<;>exact h
  rw[a0S (by simpa using c)];split
  .exact h
  have hi:=hn (by omega);have EH:∀k,k<(ay d r).aA.length->(ay d r).aA.getD k 0<r:=fun k kN=>by obtain⟨i1,i2⟩:=hi;have h9:(ay d r).aA.getD k 0<(r.toNat:Int):=hk r.toNat (by omega) k kN;omega
  have:=bP (g:=fun k y=>kJ d F ((ay d r).aA.getD k 0) y) (m:=(ay d r).aA.length) (k:=0) (s:=x) (fun _ y=>s∉y.1) h (fun j y _ hj hy=>by have h4:=EH j (by omega);exact a8h F _ s y (by omega) hy h0 hk fun h5=>⟨h5,by have:=hi.2;omega⟩)
  simp only[a3E,a2m,ade];exact⟨this,by omega⟩
theorem MR{d}(h:CV d):∀(F) (r) (x),KZ d x->jQ d r d.au.length->KZ d (kJ d F r x)
 | 0,_,_,hx,_=>hx
 |F+1,r,x,hx,hr=>by
  unfold kJ;by_cases c:r<0
  .rw[a15 (by simpa using c)];split
   .rename_i c2;have c2:jo r∉x.2:=(by simpa using c2);refine⟨hx.n1,hx.n2,y9 hx.e1 c2,fun a ha=>?_⟩;rw[a3E,a2m]at ha;rcases ha with ha|rfl
    .exact hx.e2 a ha
    exact hr.2 c
   exact hx
  rw[a0S (by simpa using c)];split
  .exact hx
  rename_i c2;have c2:r∉x.1:=by simpa using c2
  have hi:fZ r d.au.length:=⟨by omega,hr.1⟩;have aS:r.toNat<d.au.length:=by have:=hr.1;omega
  have h1:=bP (g:=fun k y=>kJ d F ((ay d r).aA.getD k 0) y) (m:=(ay d r).aA.length) (k:=0) (s:=x) (fun _ y=>KZ d y/\r∉y.1) ⟨hx,c2⟩ (fun j y _ hj hy=>by have hk:jQ d ((ay d r).aA.getD j 0) r.toNat:=h.Aj r.toNat aS j (by simpa using hj);obtain⟨k1,k2⟩:=hk;have kN:jQ d ((ay d r).aA.getD j 0) d.au.length:=⟨by omega,k2⟩;refine⟨MR h F _ y hy.1 kN,a8h F _ r y (by omega) hy.2 (by omega) (fun i hi k hk=>(h.Aj i hi k hk).1) fun h5=>⟨h5,kN.1⟩⟩)
  obtain⟨h2,h3⟩:=h1;refine⟨y9 h2.n1 h3,fun a ha=>?_,h2.e1,h2.e2⟩;rw[a3E,a2m]at ha;rcases ha with ha|rfl
  .exact h2.n2 a ha
  exact hi
abbrev ls(l:LI0):PB aH:=.list false false 3 l
abbrev wSr(d:Dg)(r:Int)(k:Int)(s:LI0×LI0)(x:List (Nat×PE aH)):bJ aH:=⟨[(1,xi r),(2,xo 2),(3,xo 3),(4,.loc 0 0),(10,.loc 1 0),(11,xi k)]++x,[d.ps,(ay d r).ps],[.gone,.gone,ls s.1,ls s.2]⟩
abbrev alN(n:Nat)(d:Dg)(r:Int)(x y:LI0×LI0):Prop:=jd n (.fn 133 [] []) [.agg d.ps,.int .i64 r,.own 0,.own 1] [ls x.1,ls x.2] (.dB [.own 2,.own 3]) [.gone,.gone,ls y.1,ls y.2]
theorem sSr{N}(hO:∀m,N<=m->Ok m abC){d}(h:CV d):∀(F:Nat) (r:Int) (x),r+1<F->KZ d x->jQ d r d.au.length->1<=F->alN (N+F) d r x (kJ d F r x)
 | 0,r,x,_,_,_,h1=>by omega
 |F+1,r,x,hF,hx,hr,_=>by
  have hn:=hx.len.1;have he:=hx.len.2;have m1:=h.au;have m2:=h.aO;have CW:=hO (N+F) (by omega);have mn:x.1.length<=ah:=by omega
  have me:x.2.length<=ah:=by omega
  unfold kJ;by_cases c:r<0
  .have t0:decide (r<0)=true:=(by simpa using c);rw[a15 t0];by_cases c2:jo r∈x.2
   .have t1:(!(decide (jo r∈x.2)))=false:=(by simpa using c2);rw[a0S (by rw[t1];simp)];exact cZ.gs hX (kH hX CW (first:=[]) (cap:=[]) (v:=.dB [.own 0,.own 1]) (H1:=[ls x.1,ls x.2]) (by kernel_rfl) (.b t0 (.o me (.b t1 .er)))) [.mv 0,.mv 1] rfl
   have t1:(!(decide (jo r∈x.2)))=true:=(by simpa using c2);rw[a15 t1];have e1:=Ak _ _ (y9 hx.e1 c2) (fun a ha=>by
    rw[a3E,a2m]at ha;rcases ha with ha|rfl
    .exact hx.e2 a ha
    exact hr.2 c)
   have e2:x.2.length+[jo r].length<=ah:=by rw[<-a1v];omega
   exact cZ.gs hX (kH hX CW (first:=[]) (cap:=[]) (v:=.dB [.own 0,.own 3]) (H1:=[ls x.1,.gone,.list true true 3 ([jo r]:LI0),ls (x.2++[jo r])]) (by kernel_rfl) (.b t0 (.o me (.b t1 (.o e2 .er))))) [.mv 0,.gc [4,3]] rfl
  have t0:decide (r<0)=false:=by simpa using c
  rw[a0S (by rw[t0];simp)];by_cases c2:r∈x.1
  .have t1:decide (r∈x.1)=true:=(by simpa using c2);rw[a15 t1];exact cZ.gs hX (kH hX CW (first:=[]) (cap:=[]) (v:=.dB [.own 0,.own 1]) (H1:=[ls x.1,ls x.2]) (by kernel_rfl) (.b t0 (.o mn (.b t1 .er)))) [.mv 0,.mv 1] rfl
  have t1:decide (r∈x.1)=false:=by simpa using c2
  rw[a0S (by rw[t1];simp)];have hi:fZ r d.au.length:=⟨by omega,hr.1⟩;obtain⟨i1,i2⟩:=id hi;have aS:r.toNat<d.au.length:=by omega
  have hl:JH (N+F) 133 0 2 (wSr d r 0 x []) (.exit 0) (wSr d r (ay d r).aA.length (aQ (fun k y=>kJ d F ((ay d r).aA.getD k 0) y) (ay d r).aA.length 0 x) [(40,xl false)]):=by
   refine qY (σ:=LI0×LI0) (N:=(ay d r).aA.length) (g:=fun k y=>kJ d F ((ay d r).aA.getD k 0) y) (s0:=x) (st:=fun k y=>wSr d r k y []) (fin:=fun y=>wSr d r (ay d r).aA.length y [(40,xl false)]) (fun _ y=>KZ d y) (by kernel_rfl) (Yw (h.KY r.toNat aS)) hx (fun k y hk hy=>?_) (fun k y hk hy m e p g=>?_) (fun y _=>aI CW (.b (dZ (ay d r).aA.length) .ex))
   .have hk:jQ d ((ay d r).aA.getD k 0) r.toNat:=h.Aj r.toNat aS k hk;have k1:(ay d r).aA.getD k 0<(r.toNat:Int):=hk.1;exact MR h F _ y hy ⟨by omega,hk.2⟩
   have kN:jQ d ((ay d r).aA.getD k 0) r.toNat:=h.Aj r.toNat aS k hk;have k1:=kN.1;have hs:=sSr hO h F ((ay d r).aA.getD k 0) y (by omega) hy ⟨by omega,kN.2⟩ (by omega);exact aI CW (.b (aV hk) (.o (aF hk) (.fr [2,3] hs (.Zx [.gc [4,5]] g))))
  generalize hy:aQ (fun k y=>kJ d F ((ay d r).aA.getD k 0) y) (ay d r).aA.length 0 x=y at hl;have sk:=MR h (F+1) r x hx hr;unfold kJ at sk;rw[a0S (by rw[t0];simp),a0S (by rw[t1];simp),hy]at sk;have sl:(y.1++[r]).length<=d.au.length:=sk.len.1;have ml:y.1.length+[r].length<=ah:=by rw[<-a1v];omega
  exact cZ.gs hX (kH hX CW (first:=[]) (cap:=[]) (v:=.dB [.own 5,.own 3]) (H1:=[.gone,.gone,.gone,ls y.2,.list true true 3 ([r]:LI0),ls (y.1++[r])]) (by kernel_rfl) (.b t0 (.o mn (.b t1 (.o hi (.wG [.mv 0,.mv 1] hl (.o ml .er))))))) [.gc [5,3]] rfl
def nlA:Arg Unit where
 put _:=.nil .aP
 get v:=match v with
  |.nil .aP=>some ()
  |_=>none
 ok:=by
  intro v a hg A m h x hv;split at hg
  .exact hv
  .cases hg
abbrev wSn(d:Dg)(r:Int)(k:Int)(s:LI0×LI0)(x:List (Nat×PE aH)):bJ aH:=⟨[(1,xi r),(2,xo 0),(3,xo 1),(4,.loc 0 0),(10,.loc 1 0),(11,xi k)]++x,[d.ps,(ay d r).ps],[ls s.1,ls s.2]⟩
theorem sr0{d}:KZ d ([],[]):=⟨a6g,by simp,a6g,by simp⟩
def srN(d:Dg)(r:Int):LI0:=(kJ d 6002 r ([],[])).1
def srE(d:Dg)(r:Int):LI0:=(kJ d 6002 r ([],[])).2
def a2N:gU aH:=bU 133 (a4 dA iA nlA nlA) (dU (a2 nY nY)) (fun p=>(srN p.1 p.2.1,srE p.1 p.2.1)) (fun p=>[CV p.1,jQ p.1 p.2.1 p.1.au.length,p.1.au.length<=6000]) abC
theorem alP:Gd a2N:=arv.deep 6001 fun n hn hO p hp=>by
 obtain⟨d,r,_,_⟩:=p;have h:CV d:=hp _ gQ;have hr:jQ d r d.au.length:=hp _ vX;have hm:d.au.length<=6000:=hp _ hh2;obtain⟨N,rfl⟩:∃N,n=N+6001:=⟨n-6001,by omega⟩;have hO:∀m,N<=m->Ok m abC:=fun m hm=>hO m (by omega);have CW:=hO (N+6001) (by omega);by_cases c:r<0
 .have t0:decide (r<0)=true:=by simpa using c
  have t1:(!(decide (jo r∈([]:LI0))))=true:=by simp
  have e:kJ d 6002 r ([],[])=([],[jo r]):=by rw[kJ,a15 t0,a15 t1];rfl
  show nU X0 Qp _ _ _ ((dU (a2 nY nY)).put ((kJ d 6002 r ([],[])).1,(kJ d 6002 r ([],[])).2)) [];rw[e];exact aN CW (.b t0 (.o le0 (.b t1 (.o le1 (.rn (.dB [.nil .aP,.dF 3 ([jo r]:LI0) false]) rfl)))))
 .have t0:decide (r<0)=false:=by simpa using c
  have t1:decide (r∈([]:LI0))=false:=by simp
  have hi:fZ r d.au.length:=⟨by omega,hr.1⟩;obtain⟨i1,i2⟩:=id hi;have aS:r.toNat<d.au.length:=by omega
  have hl:JH (N+6001) 133 0 0 (wSn d r 0 ([],[]) []) (.exit 0) (wSn d r (ay d r).aA.length (aQ (fun k y=>kJ d 6001 ((ay d r).aA.getD k 0) y) (ay d r).aA.length 0 ([],[])) [(40,xl false)]):=by
   refine qY (σ:=LI0×LI0) (N:=(ay d r).aA.length) (g:=fun k y=>kJ d 6001 ((ay d r).aA.getD k 0) y) (s0:=(([],[]):LI0×LI0)) (st:=fun k y=>wSn d r k y []) (fin:=fun y=>wSn d r (ay d r).aA.length y [(40,xl false)]) (fun _ y=>KZ d y) (by kernel_rfl) (Yw (h.KY r.toNat aS)) sr0 (fun k y hk hy=>?_) (fun k y hk hy m e p g=>?_) (fun y _=>aI CW (.b (dZ (ay d r).aA.length) .ex))
   .have hk:jQ d ((ay d r).aA.getD k 0) r.toNat:=h.Aj r.toNat aS k hk;have k1:(ay d r).aA.getD k 0<(r.toNat:Int):=hk.1;exact MR h 6001 _ y hy ⟨by omega,hk.2⟩
   .have kN:jQ d ((ay d r).aA.getD k 0) r.toNat:=h.Aj r.toNat aS k hk;have k1:(ay d r).aA.getD k 0<(r.toNat:Int):=kN.1;have hs:=sSr hO h 6001 ((ay d r).aA.getD k 0) y (by omega) hy ⟨by omega,kN.2⟩ (by omega);exact aI CW (.b (aV hk) (.o (aF hk) (.fr [0,1] hs (.Zx [.gc [2,3]] g))))
  have sk:=MR h 6002 r ([],[]) sr0 hr;have e:kJ d 6002 r ([],[])=((aQ (fun k y=>kJ d 6001 ((ay d r).aA.getD k 0) y) (ay d r).aA.length 0 ([],[])).1++[r],(aQ (fun k y=>kJ d 6001 ((ay d r).aA.getD k 0) y) (ay d r).aA.length 0 ([],[])).2):=by rw[kJ,a0S (by rw[t0];simp),a0S (by rw[t1];simp)]
  show nU X0 Qp _ _ _ ((dU (a2 nY nY)).put ((kJ d 6002 r ([],[])).1,(kJ d 6002 r ([],[])).2)) [];rw[e]at sk ⊢;generalize aQ (fun k y=>kJ d 6001 ((ay d r).aA.getD k 0) y) (ay d r).aA.length 0 ([],[])=y at hl sk;have sl:(y.1++[r]).length<=d.au.length:=sk.len.1;have m1:=h.au;have ml:y.1.length+[r].length<=ah:=by rw[<-a1v];omega
  exact aN CW (.b t0 (.o le0 (.b t1 (.o hi (.wG [.FM 2 3,.FM 3 3] hl (.o ml .rr))))))
open Go Tw Pv bQ
abbrev cD1(d:Dg)(i j:Nat):Bool:=decide (d.aO.getD j V0=d.aO.getD i V0)
abbrev cD0(d:Dg)(i:Nat):Bool:=if jO (aZ (cD1 d i) i)=true then false else true
abbrev cD3(d:Dg)(i j:Nat):Bool:=if((fK d j).var==(fK d i).var)=true then decide ((fK d j).aA=(fK d i).aA)else false
abbrev cD2(d:Dg)(i:Nat):Bool:=if xZ (fK d i)=true then true else if jO (aZ (cD3 d i) i)=true then false else true
abbrev wD(d:Dg)(x:List (Nat×PE aH)):bJ aH:=⟨[(1,.loc 0 0)]++x,[d.ps],[]⟩
abbrev rD(d:Dg):Ex×bJ aH:=(.ret,⟨[(2,xl false)],[d.ps],[]⟩)
def zD1(d:Dg)(i:Nat):Unit⊕Nat->Ex×bJ aH
 |.inl _=>(.exit 2,wD d [(3,xi i),(4,xi i),(18,xl false)])
 |.inr _=>rD d
theorem lD1{n gG}(hO:Ok n gG){d}(h:DgL d){i}(hi:i<d.aO.length):Lp n 84 1 (wD d [(3,xi i),(4,xi 0)]) (zD1 d i (aZ (cD1 d i) i)).1 (zD1 d i (aZ (cD1 d i) i)).2:=
 iI (st:=fun j _=>wD d [(3,xi i),(4,xi j)]) (fun _ _=>True) (by kernel_rfl) (by have:=h.aO;omega) trivial (fun j s m hj _ ih=>aI hO (.b (aV hj) (.o (aF (show j<d.aO.length by omega)) (.o (aF hi) (.q (.bool (cD1 d i j)) (eqV (.tmp 25) (.tmp 30) (d.aO.getD j V0) (d.aO.getD i V0)) (.ls (.ou nofun) (.nx (ih _ trivial)))))))) (fun s _=>aI hO (.b (dZ i) (.ou nofun)))
def zD0(d:Dg):Unit⊕Nat->Ex×bJ aH
 |.inl _=>(.exit 0,wD d [(3,xi d.aO.length),(13,xl false)])
 |.inr _=>rD d
theorem lD0{n gG}(hO:Ok n gG){d}(h:DgL d):Lp n 84 0 (wD d [(3,xi 0)]) (zD0 d (aZ (cD0 d) d.aO.length)).1 (zD0 d (aZ (cD0 d) d.aO.length)).2:=
 iI (st:=fun i _=>wD d [(3,xi i)]) (fun _ _=>True) (by kernel_rfl) h.aO trivial (fun i s m hi _ ih=>by
  have hl:=lD1 hO h hi;unfold gS cD0;cases e:jO (aZ (cD1 d i) i)
  .exact aI hO (.b (aV hi) (.w (kX hl 0 e) (.ou nofun)))
  .exact aI hO (.b (aV hi) (.w (kW hl () e) (.nx (ih _ trivial))))
  ) (fun s _=>aI hO (.b (dZ d.aO.length) (.ou nofun)))
def zD3(d:Dg)(i:Nat):Unit⊕Nat->Ex×bJ aH
 |.inl _=>(.exit 6,wD d [(5,xi i),(6,xi i),(47,xl false)])
 |.inr _=>rD d
theorem lD3{n}(hO:Ok n a2N){d}(h:CV d){i}(hi:i<d.au.length):Lp n 84 3 (wD d [(5,xi i),(6,xi 0)]) (zD3 d i (aZ (cD3 d i) i)).1 (zD3 d i (aZ (cD3 d i) i)).2:=
 iI (st:=fun j _=>wD d [(5,xi i),(6,xi j)]) (fun _ _=>True) (by kernel_rfl) (by have:=h.au;omega) trivial (fun j s m hj _ ih=>by
  have tX:j<d.au.length:=by omega
  unfold gS cD3;cases e:((fK d j).var==(fK d i).var)
  .exact aI hO (.b (aV hj) (.o (aF tX) (.o (aF hi) (.b e (.nx (ih _ trivial))))))
  .exact aI hO (.b (aV hj) (.o (aF tX) (.o (aF hi) (.b e (.o (aF tX) (.o (aF hi) (.o (Yw (h.KY j tX)) (.ls (.ou nofun) (.nx (ih _ trivial))))))))))
  ) (fun s _=>aI hO (.b (dZ i) (.ou nofun)))
def zD2(d:Dg):Unit⊕Nat->Ex×bJ aH
 |.inl _=>(.exit 4,wD d [(5,xi d.au.length),(36,xl false)])
 |.inr _=>rD d
theorem lD2{n}(hO:Ok n a2N){d}(h:CV d):Lp n 84 2 (wD d [(5,xi 0)]) (zD2 d (aZ (cD2 d) d.au.length)).1 (zD2 d (aZ (cD2 d) d.au.length)).2:=
 iI (st:=fun i _=>wD d [(5,xi i)]) (fun _ _=>True) (by kernel_rfl) h.au trivial (fun i s m hi _ ih=>by
  have hl:=lD3 hO h hi;unfold gS cD2;cases e1:xZ (fK d i)
  .cases e:jO (aZ (cD3 d i) i)
   .exact aI hO (.b (aV hi) (.o (aF hi) (.o (Yw (h.KY i hi)) (.b e1 (.w (kX hl 0 e) (.ou nofun))))))
   .exact aI hO (.b (aV hi) (.o (aF hi) (.o (Yw (h.KY i hi)) (.b e1 (.w (kW hl () e) (.nx (ih _ trivial)))))))
  .exact aI hO (.b (aV hi) (.o (aF hi) (.o (Yw (h.KY i hi)) (.b e1 (.ou nofun)))))
  ) (fun s _=>aI hO (.b (dZ d.au.length) (.ou nofun)))
def qG(d:Dg):Bool:=if jO (aZ (cD0 d) d.aO.length)=true then(if jO (aZ (cD2 d) d.au.length)=true then(if Ai (srN d d.root) (d.au.length:Int)=true then Ai (srE d d.root) (d.aO.length:Int)else false)else false)else false
theorem a2O{d}(h:CV d):(srN d d.root).length<=ah/\(srE d d.root).length<=ah:=by have hl:=(MR h 6002 d.root ([],[]) sr0 h.root).len;exact⟨a5O hl.1 h.au,a5O hl.2 h.aO⟩
def alQ:gU aH:=bU 84 (a1 dA) tA (fun p=>qG p) (fun p=>[CV p,p.au.length<=6000]) a2N
theorem arw:Gd alQ:=alP.add fun n hO p hp=>aN hO (.zh (fun h=>.w (kW (lD0 hO (show CV p from hp _ gQ).toDgL) () h) (.zh (fun h2=>.w (kW (lD2 hO (show CV p from hp _ gQ)) () h2) (.o (hp _ gQ) (.o (show CV p from hp _ gQ).root (.o (hp _ vX) (.o (a2O (hp _ gQ)).1 (.ss (.o (a2O (hp _ gQ)).2 .rr) .rr)))))) fun h2=>.w (kX (lD2 hO (show CV p from hp _ gQ)) 0 h2) .rr)) fun h=>.w (kX (lD0 hO (show CV p from hp _ gQ).toDgL) 0 h) .rr)
theorem YC{d}(hm:d.aO.length<=ah){r}{b:Nat}(h:ji d r b=true):jQ d r b:=by
 unfold ji at h;by_cases c:0<=r
 .rw[a15 (by simpa using c)]at h;exact⟨by simpa using h,fun h2=>by omega⟩
 rw[a0S (by simpa using c),vg]at h;have e:i64.wrap ((d.aO.length:Int)-1)=(d.aO.length:Int)-1:=by unfold ah at hm;exact eU (by omega) (by omega)
 rw[e]at h;obtain⟨h1,h2⟩:=h;exact⟨by omega,fun _=>⟨h1,show jo r<_ by show i64.wrap (-1-r)<_;omega⟩⟩
theorem a8i{d}(h:DgL d)(hl:mV d=true):CV d:=by
 unfold mV at hl;split at hl
 rotate_left
 .cases hl
 split at hl
 rotate_left
 .cases hl
 rename_i h1 h2;have h2:=cO.1 h2;have key:∀i,i<d.au.length->nX (fK d i).var 0 (xw d.aj)=true/\(((fK d i).aA.length:Int) != d.aj.getD (fK d i).var.toNat 0)=false/\jO (aZ (cLk d i) (fK d i).aA.length)=true:=fun i hi=>by
  have:=h2 i hi;unfold cLn at this;split at this
  .cases this
  split at this
  .cases this
  split at this
  .rename_i a b c;exact⟨by simpa using a,by simpa using b,c⟩
  cases this
 refine⟨h,fun i hi k hk=>?_,fun i hi=>?_,fun i hi=>?_,fun i hi=>?_,YC h.aO hl⟩
 .have:=cO.1 (key i hi).2.2 k hk;unfold cLk at this;split at this
  .cases this
  rename_i a;exact YC h.aO (by simpa using a)
 .exact YB h.bG (KX h.bG (key i hi).1) (key i hi).2.1
 .exact KX h.bG (key i hi).1
 simpa using(key i hi).2.1
theorem jy{d}(ho:d.aB.length<=ah)(he:d.aO.length<=ah)(h:(aW d != 0)=false):CV d/\d.au.length<=6000:=by
 unfold aW at h;split at h
 .rename_i h1;simp at h h1;exact absurd h h1
 split at h
 .cases h
 split at h
 .cases h
 rename_i h1 h2 h3;have h2:decide ((d.au.length:Int)>6000)=false:=by simpa using h2
 exact⟨a8i ⟨ho,VX h2,he,BO (by simpa using h1)⟩ (by simpa using h3),by simp at h2;omega⟩
def gZ(d:Dg):Int:=if(aW d != 0)=true then aW d else if(!(qG d))=true then 4 else 0
def alS:gU aH:=bU 22 (a1 dA) iA (fun p=>gZ p) (fun p=>[p.aB.length<=ah,p.aO.length<=ah]) alQ
theorem arx:Gd alS:=arw.add fun n hO p hp=>aN hO (.o (hp _ gQ) (.o (hp _ vX) (.sh (fun _=>.rr) fun h=>.o (jy (hp _ gQ) (hp _ vX) h).1 (.o (jy (hp _ gQ) (hp _ vX) h).2 (.ss .rr .rr)))))
open Go Tw Pv bQ
def gAt(d:Dg)(p:LI0)(r:Int):Int⊕Int:=if decide (r>=0)=true then .inl ((ay d r).aA.getD (p.getD (ay d r).var.toNat 0).toNat 0)else .inr r
def VY(d:Dg)(p:LI0):Nat->Int->Int
 | 0,r=>r
 |F+1,r=>if r<0 then r else VY d p F ((ay d r).aA.getD (p.getD (ay d r).var.toNat 0).toNat 0)
theorem aeg{d p}:∀(F) (r),VY d p F r<0->itF (gAt d p) (F+1) r=some (VY d p F r)
 | 0,r,h=>by
  have h:r<0:=h;have e:gAt d p r=.inr r:=by unfold gAt;rw[a0S (by simpa using h)]
  rw[itF,e];rfl
 |F+1,r,h=>by
  by_cases c:r<0
  .have e:gAt d p r=.inr r:=by unfold gAt;rw[a0S (by simpa using c)]
   rw[itF,e,VY,a15 c]
  have e:gAt d p r=.inl ((ay d r).aA.getD (p.getD (ay d r).var.toNat 0).toNat 0):=by unfold gAt;rw[a15 (by simp;omega)]
  rw[VY,a0S c]at h;rw[itF,e,VY,a0S c];exact aeg F _ h
theorem QA{d}(h:CV d){p}(hp:iF d.aj p=true){r}(hr:fZ r d.au.length):fZ (ay d r).var p.length/\fZ (p.getD (ay d r).var.toNat 0) (ay d r).aA.length/\jQ d ((ay d r).aA.getD (p.getD (ay d r).var.toNat 0).toNat 0) r.toNat:=by
 obtain⟨r1,r2⟩:=hr;have hl:r.toNat<d.au.length:=by omega
 have hv:=h.var r.toNat hl;have hk:=h.ksz r.toNat hl;obtain⟨v1,v2⟩:=hv;obtain⟨p1,p2⟩:=lH.1 hp;have p3:=p2 (ay d r).var.toNat (by show(fK d r.toNat).var.toNat<_;omega);have k1:fZ (p.getD (ay d r).var.toNat 0) (ay d r).aA.length:=⟨p3.1,by show _<((fK d r.toNat).aA.length:Int);rw[hk];exact p3.2⟩;refine⟨⟨v1,by rw[p1];exact v2⟩,k1,h.Aj r.toNat hl _ ?_⟩;obtain⟨k2,k3⟩:=k1;show _<(ay d r).aA.length;omega
theorem VZ{d}(h:CV d){p}(hp:iF d.aj p=true):∀(F:Nat) (r:Int),r<F->jQ d r d.au.length->jQ d (VY d p F r) 0
 | 0,r,hr,hk=>⟨by show r<((0:Nat):Int);omega,hk.2⟩
 |F+1,r,hr,hk=>by
  unfold VY;split
  .rename_i c;exact⟨by show r<((0:Nat):Int);omega,hk.2⟩
  rename_i c;have:=(QA h hp (r:=r) ⟨by omega,hk.1⟩).2.2;obtain⟨a1,a2⟩:=this;have a3:r<(d.au.length:Int):=hk.1;exact VZ h hp F _ (by omega) ⟨by omega,a2⟩
abbrev atR(d:Dg)(p:LI0):Int:=VY d p 6001 d.root
def vT(d:Dg)(p:LI0):V:=d.aO.getD (jo (atR d p)).toNat V0
abbrev wAt(d:Dg)(p:LI0)(r:Int)(x:List (Nat×PE aH)):bJ aH:=⟨[(1,xL 3 p),(2,.loc 0 0),(4,.loc 1 0),(5,xi r)]++x,[d.ps,V0.ps],[]⟩
theorem lAt{n gG}(hO:Ok n gG){d}(h:CV d)(hm:d.au.length<=6000){p}(hp:iF d.aj p=true):Lp n 98 0 (wAt d p d.root []) (.exit 0) (wAt d p (atR d p) [(9,xl false)]):=by
 have h0:d.root<(d.au.length:Int):=h.root.1;have ha:=VZ h hp 6001 d.root (by omega) h.root;have RN:=aeg 6001 d.root ha.1;refine a0O (st:=fun r=>wAt d p r []) (g:=gAt d p) (out:=fun r=>(.exit 0,wAt d p r [(9,xl false)])) (fun r=>jQ d r d.au.length) RN (by kernel_rfl) (by decide) h.root ?_ ?_
 .intro r r1 hr e;unfold gAt at e;split at e
  .rename_i c;have c:0<=r:=(by simpa using c);cases e;have:=(QA h hp (r:=r) ⟨c,hr.1⟩).2.2;have a3:r<(d.au.length:Int):=hr.1;obtain⟨a1,a2⟩:=this;exact⟨by omega,a2⟩
  cases e
 intro r m r' hr ih;by_cases c:0<=r
 .have hk:=QA h hp (r:=r) ⟨c,hr.1⟩;have t1:decide (r>=0)=true:=by simpa using c
  have e:gAt d p r=.inl ((ay d r).aA.getD (p.getD (ay d r).var.toNat 0).toNat 0):=by unfold gAt;rw[a15 t1]
  have g:=ih _ e;rw[e];have wF:fZ r d.au.length:=⟨c,hr.1⟩;exact aI hO (.b t1 (.o wF (.o wF (.o hk.1 (.o hk.2.1 (.go g))))))
 have t1:decide (r>=0)=false:=by simpa using c
 have e:gAt d p r=.inr r:=by unfold gAt;rw[a0S (by rw[t1];simp)]
 rw[e];dsimp only[Ec];exact aI hO (.b t1 .ex)
theorem abH{d}(h:CV d)(hm:d.au.length<=6000){p}(hp:iF d.aj p=true):fZ (jo (atR d p)) d.aO.length:=by have h0:d.root<(d.au.length:Int):=h.root.1;have ha:=VZ h hp 6001 d.root (by omega) h.root;exact ha.2 ha.1
def alT:gU aH:=bU 98 (a2 dA nY) vA (fun p=>vT p.1 p.2) (fun p=>[CV p.1,p.1.au.length<=6000,iF p.1.aj p.2=true]) alS
theorem arz:Gd alT:=arx.add fun n hO p hp=>aN hO (.w (lAt hO (hp _ gQ) (hp _ vX) (hp _ hh2)) (.o (abH (hp _ gQ) (hp _ vX) (hp _ hh2)) .rr))
structure DgU(d:Dg):Prop where
 t:CV d
 au:d.au.length<=6000
 ok:(aW d != 0)=false
def alU:gU aH:=bU 51 (a2 dA nY) vA (fun p=>vT p.1 p.2) (fun p=>[DgU p.1,iF p.1.aj p.2=true]) alT
theorem arA:Gd alU:=arz.add fun n hO p hp=>aN hO (.o (show DgU p.1 from hp _ gQ).t.aB (.o (show DgU p.1 from hp _ gQ).t.aO (.b (show DgU p.1 from hp _ gQ).ok (.o (show p.2.length<=ah by rw[lG (show iF p.1.aj p.2=true from hp _ vX)];exact(show DgU p.1 from hp _ gQ).t.bG.Ye) (.o (show DgU p.1 from hp _ gQ).t.bG.sz (.b (show(!(iF p.1.aj p.2))=false by rw[show iF p.1.aj p.2=true from hp _ vX];rfl) (.o (show DgU p.1 from hp _ gQ).t (.o (show DgU p.1 from hp _ gQ).au (.o (hp _ vX) .rr)))))))))
open Go Tw Pv bQ
theorem abJ{A m h}{l:LI0}{cs}(hr:eG X0 Qp A m h 3 l cs 0 1)(hc:cs.length=l.length):cs=l.map fun n=>TV.int .i64 n:=by
 apply aac (by simp[hc]);intro j h1 h2;have hj:j<l.length:=by omega
 have:=hr.2.2 j l[j] 0 (.int .i64 l[j]) cs[j] (a0A hj) rfl (by rw[a0u];exact⟨by omega,by simp⟩);rw[this.a2x];simp
theorem Uk:∀l,ML (l.map fun n=>TV.int .i64 n)=some l
 | []=>rfl
 |a::l=>by simp[ML,Uk l]
theorem Ul{A m h}(l:LI0):eG X0 Qp A m h 3 l (l.map fun n=>TV.int .i64 n) 0 1:=by
 refine⟨fun j a _=>rfl,by simp only[a4P,aix,a3C];exact a1j _,fun j a i c v hj hi hv=>?_⟩;have tX:=(a0u.1 hj).1;cases i with
 |zero=>
  have hi:some (PV.int .i64 a)=some c:=hi;cases hi;have hj:(l:LI0)[j]? = some a:=hj;rw[a3C,aix,adb,a5w,hj]at hv;have hv:some (TV.int .i64 a)=some v:=hv;cases hv;exact .int _ _
 |succ i=>have hi:([]:List (PV aH))[i]? = some c:=hi;simp at hi
theorem MS:dG Qp 3=some 1:=by kernel_rfl
theorem a8j(n x h):lu Qp T LL (n+1) (.fn 137 [] []) [x] h=Qg 137 (.fn 137 [] []) [x] h:=rfl
theorem abK{f c h kk CG cs l e}(hb:h[c]? = some (.cells kk cs))(hk:AY kk true=some CG)(JR:cs=l.map fun n=>TV.int .i64 n)(h0:0<l.length)(h1:l.length<=2^20) :Qg f (.fn f [] []) [.aP c 0 l.length l.length 1 e] h=some (.dB [],h.set c (.cells CG ((iC l).map fun n=>TV.int .i64 n)),[c]):=by
 have nR:cs.length=l.length:=by rw[JR,a4P]
 have him:ML cs=some l:=by rw[JR];exact Uk l
 generalize l.length=n at *;obtain⟨j,rfl⟩:∃j,n=j+1:=⟨n-1,by omega⟩;simp only[Qg,a7I,a2l,hb,hk,him,nR,h0,h1,adr]
theorem aeh{n k ex}(l:LI0)(hl:l.length<=2^20):jd (n+1) (.fn 137 [] []) [.own 0] [.list k ex 3 l] (.dB []) [.list k ex 3 (iC l)]:=by
 intro A m h tf rJ hr hf hx;obtain⟨x,r,rfl,h1,h2⟩:=hx.inv;have:=h2.inv0;subst this;obtain⟨g1,g2⟩:=abb hr (i:=0) (k:=k) (ex:=ex) (t:=3) (l:=l) rfl h1;have htf:=hf.Q9;subst htf;show ∃w h1 ws m1,lu Qp T LL (n+1) _ _ h=_/\_;rw[a8j];have arB:iC ([]:LI0)=[]:=by simp[iC]
 have hE:∀h0:(l:LI0)=[],iC l=l:=fun h0=>by rw[h0];exact arB
 rcases agm g2 with⟨h0,rfl⟩|⟨h0,b,off,sz,cs,rfl,p0,p1,p2,p3,p4⟩|⟨p1,c,sz,e,kk,cs,rfl,p2,p3,p4,p5,p6,p7,p8,p9⟩
 .rw[hE h0];exact⟨.dB [],h,[],m,rfl,hr,.dB rfl (fun i x y hx=>by simp at hx),.refl,.refl,fun b hb=>by cases hb⟩
 .rw[hE h0];exact⟨.dB [],h,[],m,rfl,hr,.dB rfl (fun i x y hx=>by simp at hx),.refl,.refl,fun b hb=>by cases hb⟩
 rw[MS]at p2;cases p2;have p8:cs.length=(l:LI0).length*1:=p8;have nR:cs.length=l.length:=by omega
 have JR:=abJ p9 nR;have Xk:0<l.length:=by cases l with|nil=>exact absurd rfl p1|cons=>simp
 obtain⟨CG,yK,afO,hko⟩:=Kw p5;have aS:=(a0u.1 p4).1;have rH:(MB.dF (TV.aP c 0 l.length l.length 1 e)).own=some c:=by simp only[MB.own];rw[a0S (by omega)]
 have hsl:(iC l).length=l.length:=by unfold iC;rw[aaS]
 have iO:iC l≠[]:=fun e0=>by rw[e0]at hsl;simp at hsl;omega
 obtain⟨q1,q2⟩:=hr.set (i:=0) (c:=c) (pb:=.list k ex 3 (iC l)) (hb:=.cells CG ((iC l).map fun n=>TV.int .i64 n)) g1 rH
  (fun ET LW=>⟨_,by simp only[aU];rw[a1C aS],by
   simp only[aU,p4,a08]at LW;subst LW;rw[a4P,hsl,nR];exact a1j _⟩)
  (fun hF=>by have r:=LR.some (X:=X0) (P:=Qp) (A:=AA A m) (m:=m) (k:=k) (ex:=ex) (e:=e) (t:=3) (b:=c) (kk:=CG) iO MS (by decide) (by rw[a1C aS]) afO (fun e0=>hko (p6 e0)) p7 (by rw[a4P,aix];rfl) (Ul (iC l));have arC:@List.length (X0.Γ 3) (iC l)=l.length:=hsl;rw[arC]at r;exact r)
 refine⟨.dB [],_,[c],m,?_,q1,.dB rfl (fun i x y hx=>by simp at hx),q2,.refl,fun d hd=>?_⟩
 .exact abK p4 yK JR Xk hl
 simp at hd;subst hd;exact bg g1 rH
end Go.Proofs.YtmobpoiejckagaaGreat
namespace Pv
open Go Tw
variable{X:mX}{P:LI1}
theorem nU.a8k(hX:bT X P){call f xs vs v v' ext ext'}(hc:nU X P call f vs v ext)(hv:views [] ([]++xs++[])=some vs)(hs:sD X 0 ext=some ext')(e:shift 0 v=v') (he:(if yD v||ext.any (hasB X)then bD (lC.kU ([]++xs++[])) []else [])=([]:List (PB X.Γ))):cZ X P call (.fn f [] []) xs [] v' ext':=by
 subst e;intro A m h tf rJ hr hf hx;have htf:=hf.Q9;subst htf;obtain⟨w,h',m1,c1,c2,c3,c4,c5⟩:=IX hX hc hr hv hs (t1:=[]) (t3:=[]) .nil hx .nil;rw[he]at c2;exact⟨w,h',[],m1,c1,c2,c3,c4,c5,fun b hb=>by cases hb⟩
end Pv
namespace Go.Proofs.YtmobpoiejckagaaGreat
open Go Tw Pv bQ
abbrev lsI(l:LI0):List (PB aH):=[.list false false 3 l]
theorem a4Q(n h):Nc Qp T (iD n) LL 125 [.nil .aP] h=some (.nil .aP,h,[]):=by kernel_rfl
theorem a4R(n b off cap ex h):Nc Qp T (iD n) LL 125 [.aP b off 0 cap 1 ex] h=some (.aP h.length 0 0 0 1 true,h++[.cells .own []],[]):=by kernel_rfl
theorem agW{n}:nU X0 Qp (iD (n+1)) 125 [.dF 3 ([]:LI0) false] (.own 0) (lsI []):=by
 intro A h first args cap G5 hv
 obtain⟨x,r,e,h1,h2⟩:=hv.inv;have:=h2.inv0;subst this;have hun:lu Qp T LL (n+1) (.fn 125 first cap) args h=Nc Qp T (iD n) LL 125 [x] h:=by rw[<-e];show lu Qp T LL (n+1) _ _ _=_;rw[lu,a0S (by decide),a0S (by decide)]
 rcases Ya h1 with rfl|⟨b,off,cap',sz,ex,cs,rfl,a1,a2,a3,a4,a5⟩
 .exact⟨.nil .aP,h,[.dF (.nil .aP)],by rw[<-a4Q n h,<-hun],J5 G5 .nil rfl,.own rfl rfl,⟨a1j _,fun _ _ _=>rfl,fun b hb=>by simp[bn,MB.own]at hb,fun b cs hc=>⟨cs,hc,a1j _⟩⟩⟩
 rw[MS]at a3;cases a3;have hc:aU (h++[HB.cells .own []]) h.length=some []:=by unfold aU;rw[a1p (a1j _),afh];rfl
 refine⟨.aP h.length 0 0 0 1 true,h++[.cells .own []],[.dF (.aP h.length 0 0 0 1 true)],by rw[<-a4R n b off cap' ex h,<-hun],J5 (fun b hb=>G5 b (by simp at hb;omega)) (.emp ⟨G5 _ (a1j _),by simp[bn,MB.own]⟩ hc (a1j _) MS (by decide)) (by simp[MB.own]),.own rfl rfl,⟨by simp,fun b hb _=>by rw[a0P hb],fun b hb=>by simp[bn,MB.own]at hb,fun b cs hc=>⟨cs,?_,a1j _⟩⟩⟩;rw[fM (a0P (fP hc)),hc]
def aei:gU aH:=Y7 125 (a1 nY) (fun _=>.own 0) (fun p=>lsI p) (fun p=>[p.length<=ah]) alU
theorem alW:Gd aei:=arA.U2 0 fun n _ hO p hp=>by
 have hl:p.length<=ah:=hp _ gQ;by_cases h:p=[]
 .subst h;exact agW
 .have h2:([]:LI0).length+p.length<=ah:=by simpa using hl
  exact nU.gs hX (Ac hX (hO n (by omega)) (v:=.own 1) (H:=[.gone,.list true false 3 p]) (by kernel_rfl) (.o h (.b aiC (.o h2 .er)))) [.gc [1],.flag 0] rfl
abbrev abM(m:Nat)(i:Int)(l:LI0)(x:List (Nat×PE aH)):bJ aH:=⟨[(3,xo 0),(7,xi m),(8,xi i)]++x,[],[.list true true 3 l]⟩
theorem a8l(m):aQ (fun k (l:LI0)=>l.set k (k:Int)) m 0 (List.replicate m 0)=dR m:=by
 have:=bP (g:=fun k (l:LI0)=>l.set k (k:Int)) (m:=m) (k:=0) (s:=List.replicate m 0) (fun k l=>l.length=m/\∀j,j<k->l.getD j 0=(j:Int)) ⟨by simp,by simp⟩ (fun j l _ hj h=>⟨by simp[h.1],fun i hi=>by
  rw[bQ.zS (by omega)];split
  .rename_i e;rw[e]
  exact h.2 i (by omega)⟩)
 rw[nV (d:=0) (by rw[this.1,mQ])];intro j hj;have tX:j<m:=by have:=this.1;omega
 rw[this.2 j (by omega)];simp[dR,List.getD,a5w,ab9,tX]
theorem arD{n gG}(hO:Ok n gG)(m)(hm:m<=ah):Lp n 159 0 (abM m 0 (List.replicate m 0) []) (.exit 0) (abM m m (dR m) [(9,xl false)]):=by rw[<-a8l];exact qY (σ:=LI0) (N:=m) (g:=fun k (l:LI0)=>l.set k (k:Int)) (s0:=List.replicate m 0) (st:=fun i (l:LI0)=>abM m i l []) (fin:=fun(l:LI0)=>abM m m l [(9,xl false)]) (fun _ (l:LI0)=>l.length=m) (by kernel_rfl) hm (by simp) (fun k l _ h=>by simp[h]) (fun k l hk hl j e p g=>aI hO (.b (aV hk) (.o (aF (show k<l.length by omega)) (.go g)))) (fun l _=>aI hO (.b (dZ m) .ex))
def aej:gU aH:=bU 159 (a1 iA) nY (fun p=>dR p.toNat) (fun p=>[0<=p,p<=(ah:Int)]) aei
theorem alX:Gd aej:=alW.add fun n hO p hp=>by have h0:0<=p:=hp _ gQ;have h1:p<=(ah:Int):=hp _ vX;obtain⟨m,rfl⟩:∃m:Nat,p=(m:Int):=⟨p.toNat,by omega⟩;exact aN hO (.o (rfl:(m:Int)=(m:Int)) (.o h0 (.o h1 (.w (arD hO m (by omega)) .rr))))
abbrev agY(a b:LI0)(i:Int)(x:List (Nat×PE aH)):bJ aH:=⟨[(0,xL 3 a),(1,xL 3 b),(12,xi a.length),(13,xi i)]++x,[],[]⟩
def alY(a b:LI0):Unit⊕Nat->Ex×bJ aH
 |.inl _=>(.exit 0,agY a b a.length [(14,xl false)])
 |.inr _=>(.ret,⟨[(4,xl false)],[],[]⟩)
theorem alZ{n gG}(hO:Ok n gG)(a b)(hl:a.length<=ah)(h:a.length=b.length):Lp n 158 0 (agY a b 0 []) (alY a b (aZ (MP a b) a.length)).1 (alY a b (aZ (MP a b) a.length)).2:=
 iI (st:=fun i _=>agY a b i []) (fun _ _=>True) (by kernel_rfl) hl trivial (fun k s m hk _ ih=>aI hO (.b (aV hk) (.o (aF hk) (.o (aF (h▸hk)) (.ls (.ou nofun) (.nx (ih _ trivial))))))) (fun s _=>aI hO (.b (dZ a.length) (.ou nofun)))
def aek:gU aH:=bU 158 (a2 nY nY) tA (fun p=>decide (p.1=p.2)) (fun p=>[p.1.length<=ah]) aej
theorem am0:Gd aek:=alX.add fun n hO p hp=>aN hO (.s (fun h=>.v false (a81 h).symm) fun h=>.z (c:=jO (aZ (MP p.1 p.2) p.1.length)) (fun h2=>.w (kW (alZ hO p.1 p.2 (hp _ gQ) (jW h)) () h2) (.v true (by rw[<-F9 (jW h),h2]))) fun h2=>.w (kX (alZ hO p.1 p.2 (hp _ gQ) (jW h)) 0 h2) (.v false (by rw[<-F9 (jW h),h2])))
def a8m:gU aH:=bU 157 (a3 iA iA nY) tA (fun p=>nN p.2.2 p.1 p.2.1) (fun p=>[p.2.2.length<=ah]) aek
theorem am1:Gd a8m:=am0.deep 3 fun n hn hO p hp=>by have h1:∀x,cZ X0 Qp (iD (n-3+1)) (.fn 188 [] [.ptr 0 0 1,.ptr 1 0 1]) [.int .i64 x] [.cells [.int .i64 p.1],.cells [.int .i64 p.2.1]] (tA.put (wW x p.1 p.2.1)) [.cells [.int .i64 p.1],.cells [.int .i64 p.2.1]]:=fun x=>jI gX (first:=[]) (.ssh (fun _=>.sr) (fun _=>.sr));obtain⟨n,rfl⟩:∃k,n=k+3:=⟨n-3,by omega⟩;rw[show n+3-3+1=n+1 by omega]at h1;have h2:=akM (n:=n+2) (by omega) (g:=fun x=>wW x p.1 p.2.1) h1 p.2.2 (hp _ gQ);exact aN (hO _ (by omega)) (.k h2 (.v (!(nM (fun x=>wW x p.1 p.2.1) p.2.2)) (by rw[F8];rfl)))
def a2P(s:LI0):Int:=aQ (fun k n=>i64.wrap (n*s.getD k 0)) s.length 0 1
theorem YD:∀{s},mO s->bC s<=12^s.length
 | [],_=>by decide
 |a::t,h=>by have h1:=YD h.tail;have h2:=jm h.tail;have h3:=h a (.head _);have h4:a*bC t<=12*bC t:=ab5 h3.2 (by omega);show a*bC t<=12^(t.length+1);rw[Int.pow_succ];omega
theorem am2:∀{n},n<=6->(12:Int)^n<=2985984:=by decide
theorem a8n{s}(h:mO s)(hl:s.length<=6):a2P s=bC s:=by
 have:=bP (g:=fun k n=>i64.wrap (n*s.getD k 0)) (m:=s.length) (k:=0) (s:=1) (fun k n=>n=bC (s.take k)) (by simp[bC]) (fun j n _ hj e=>by
  have tX:j<s.length:=by omega
  have e2:bC (s.take (j+1))=n*s.getD j 0:=by rw[a6b tX,Ad,e];simp[bC,List.getD,a0A tX]
  have h1:=Gi h (j+1);have h2:1<=bC (s.take (j+1)):=jm fun a ha=>h a (a7q ha);have h3:=YD h;have h4:=am2 hl;show i64.wrap (n*s.getD j 0)=_;rw[e2]at h1 h2 ⊢;exact eU (by omega) (by omega))
 rw[a2P,this];simp
abbrev abN(a b:LI0)(p i:Int)(x:List (Nat×PE aH)):bJ aH:=⟨[(0,xL 3 a),(1,xL 3 b),(5,xi p),(17,xL 3 a),(18,xi a.length),(19,xi i)]++x,[],[]⟩
theorem arE{n gG}(hO:Ok n gG)(a b)(hl:a.length<=ah):Lp n 105 0 (abN a b 1 0 []) (.exit 1) (abN a b (a2P a) a.length [(20,xl false)]):=
 MI (st:=fun i n=>abN a b n i []) (fin:=fun n=>abN a b n a.length [(20,xl false)]) (fun _ _=>True) (by kernel_rfl) hl Ru trivial (fun _ _ _ _=>trivial) (fun k s hk _ n e p h=>aI hO (.b (aV hk) (.o (aF hk) (.go h)))) (fun s _=>aI hO (.b (dZ a.length) .ex))
theorem agZ{n}(hO:Ok n a8m)(l:LI0)(hl:l.length<=ah):jd n (.fn 125 [] []) [.dF 3 l false] [] (.own 0) (lsI l):=
 nU.a8k hX (hO 125 [.dF 3 l false] (.own 0) (lsI l) [l.length<=ah] (by kernel_rfl) (afd.2 hl)) rfl rfl rfl rfl
theorem a8o(n):(dR n).Pairwise fun a b=>decide (a<=b)=true:=by unfold dR;rw[afB];exact List.pairwise_lt_range.imp fun h=>by simp;omega
theorem a4S{n o}:decide (iC o=dR n)=jC n o:=by
 rw[a5G,a1z];have h2:=Uh n;have hp:(iC o).Perm o:=af4 _ _;constructor
 .intro h;rw[h]at hp;unfold jC at h2 ⊢;rw[a1z]at h2 ⊢;exact⟨by rw[<-hp.length_eq,h2.1],fun a ha=>h2.2.1 a (hp.mem_iff.2 ha),hp.nodup_iff.1 h2.2.2⟩
 intro h;unfold jC at h h2;rw[a1z]at h h2;have e:o.Perm (dR n):=(a7o h.2.2 h2.2.2).2 fun a=>by
  have hm:∀x,0<=x/\x<(n:Int)->x∈dR n:=fun x hx=>by unfold dR;rw[a1u];exact⟨x.toNat,by rw[a5y];omega,by omega⟩
  constructor
  .exact fun ha=>hm a (h.2.1 a ha)
  intro ha;by_cases hc:a∈o
  .exact hc
  have:=aen (l₁:=a::o) (l₂:=dR n) (a5x.2 ⟨hc,h.2.2⟩) (fun x hx=>by
   rcases a1B.1 hx with rfl|hx
   .exact ha
   exact hm x (h.2.1 x hx))
  rw[mQ]at this;simp at this;omega
 refine List.Perm.eq_of_pairwise (le:=fun a b=>decide (a<=b)=true) (fun a b _ _ h1 h2=>by simp at h1 h2;omega) ?_ (a8o n) (hp.trans e);exact List.pairwise_mergeSort (fun a b c h1 h2=>by simp at h1 h2 ⊢;omega) (fun a b=>by simp;omega) o
def YE(s o:LI0):Int:=if decide ((s.length:Int)>6)=true then 5 else if(!(nN s 1 12))=true then 3 else if decide (a2P s>2000)=true then 5 else if(!(decide (iC o=dR s.length)))=true then 4 else 0
theorem YF(s o):YE s o=aY s o:=by
 rw[Qw];unfold YE;rw[a4S];by_cases h1:6<s.length
 .rw[a15 (by simp;omega),a15 h1]
 rw[a0S (by simp;omega),a0S h1];have hw:nN s 1 12=decide (mO s):=by
  unfold nN;rw[a5G,a9y,List.any_eq_false,a1z];refine aaK fun a=>aaK fun _=>?_;unfold wW;split
  .rename_i h;simp at h ⊢;omega
  rename_i h;simp at h ⊢;omega
 rw[hw];by_cases h2:mO s
 .rw[a0S (by simp[h2]),a15 h2,a8n h2 (by omega)];simp only[a1z,Int.not_lt,gt_iff_lt];split
  .rfl
  cases jC s.length o<;>simp
 rw[a15 (by simp[h2]),a0S h2]
def ael:gU aH:=bU 105 (a2 nY nY) iA (fun p=>aY p.1 p.2) (fun p=>[p.1.length<=ah,p.2.length<=2^20]) a8m
theorem am3:Gd ael:=am1.deep 1 fun n hn hO p hp=>by
 obtain⟨n,rfl⟩:∃k,n=k+1:=⟨n-1,by omega⟩;have hO:=hO (n+1) (by omega);have h1:p.1.length<=ah:=hp _ gQ;have h2:p.2.length<=2^20:=hp _ vX;have h3:p.2.length<=ah:=by unfold ah;omega
 have h4:(dR p.1.length).length<=ah:=by rw[mQ];exact h1
 have h5:(iC p.2).length<=ah:=by unfold iC;rw[aaS];exact h3
 show nU X0 Qp _ _ _ (iA.put (aY p.1 p.2)) _;rw[<-YF];exact aN hO (.ss .rr (.o h1 (.ss .rr (.w (arE hO p.1 p.2 h1) (.ss .rr (.fr [] (agZ hO p.2 h3) (.fr [0] (aeh (n:=n) (k:=false) (ex:=false) p.2 h2) (.o (show(0:Int)<=(p.1.length:Int) by omega) (.o (show(p.1.length:Int)<=(ah:Int) by omega) (.o h5 (.ss .rr .rr)))))))))))
open Go Tw Pv bQ
theorem YG{α:Type}(x:α):[x].length<=ah:=by unfold ah;simp
def qZ(v:V):Bool:=if decide (v.f>0)=true then(if decide (v.f<=4)=true then v.n==0 else false)else nN [v.n] (-9999) 9999
def aem:gU aH:=bU 190 (a1 vA) tA (fun p=>qZ p) np ael
theorem am4:Gd aem:=am3.add fun n hO p hp=>aN hO (.ss (.ss .rr .rr) (.o (YG p.n) .rr))
abbrev frA:ArL X0 Qp (LI0×LI0):=a2 nY nY
abbrev cIx(l:LI0)(v:Int)(k:Nat):Bool:=v==l.getD k 0
abbrev ah0(l:LI0)(v:Int)(i:Int)(x:List (Nat×PE aH)):bJ aH:=⟨[(0,xL 3 l),(1,xi v),(7,xi l.length),(8,xi i)]++x,[],[]⟩
def z234(l:LI0)(v:Int):Unit⊕Nat->Ex×bJ aH
 |.inl _=>(.exit 0,ah0 l v l.length [(9,xl false)])
 |.inr k=>(.ret,⟨[(4,xi k)],[],[]⟩)
theorem am5{n gG}(hO:Ok n gG)(l v)(hl:l.length<=ah):Lp n 234 0 (ah0 l v 0 []) (z234 l v (aZ (cIx l v) l.length)).1 (z234 l v (aZ (cIx l v) l.length)).2:=
 iI (st:=fun i _=>ah0 l v i []) (fun _ _=>True) (by kernel_rfl) hl trivial (fun k s m hk _ ih=>aI hO (.b (aV hk) (.o (aF hk) (.ls (.ou nofun) (.nx (ih _ trivial)))))) (fun s _=>aI hO (.b (dZ l.length) (.ou nofun)))
def nZ(l:LI0)(v:Int):Int:=if jO (aZ (cIx l v) l.length)=true then -1 else((Eb 0 (aZ (cIx l v) l.length):Nat):Int)
def aeo:gU aH:=bU 234 (a2 nY iA) iA (fun p=>nZ p.1 p.2) (fun p=>[p.1.length<=ah]) aem
theorem am6:Gd aeo:=am4.add fun n hO p hp=>aN hO (.zh (fun h=>.w (kW (am5 hO p.1 p.2 (hp _ gQ)) () h) .rr) fun h=>.w (kX (am5 hO p.1 p.2 (hp _ gQ)) 0 h) .rr)
def aep:gU aH:=bU 223 (a2 (a7D (a2 nY nY)) iA) iA (fun p=>nZ p.1.2 p.2) (fun p=>[p.1.2.length<=ah]) aeo
theorem am7:Gd aep:=am6.add fun n hO p hp=>aN hO (.o (hp _ gQ) .rr)
def aer:gU aH:=bU 197 (a1 iA) iA (fun p=>i64.wrap (-1-p)) np aep
theorem am8:Gd aer:=am7.add fun n hO p hp=>aN hO .rr
structure Lo where
 s:LI0
 o:LI0
 d:Dg
abbrev Lo.ps(l:Lo):List (PV aH):=[.dF 3 l.s false,.dF 3 l.o false]++l.d.ps
def loA:Arg Lo:=agi (a7D (Nk nY (Nk nY (Nk nY (a4 nY vsA abp iA))))) (fun p=>⟨p.1,p.2.1,⟨p.2.2.1,p.2.2.2.1,p.2.2.2.2.1,p.2.2.2.2.2.1,p.2.2.2.2.2.2⟩⟩) (fun l=>(l.s,l.o,l.d.aj,l.d.aB,l.d.aO,l.d.au,l.d.root)) fun _=>rfl
def qL(l:Lo)(Aj below Nq:Int):Bool:=if decide (Aj<0)=true then decide (i64.wrap (-1-Aj)<(l.d.aO.length:Int))else if decide (Aj<below)=true then decide (nZ l.o (l.d.au.getD Aj.toNat kP).var>Nq)else false
def YH:gU aH:=bU 193 (a4 loA iA iA iA) tA (fun p=>qL p.1 p.2.1 p.2.2.1 p.2.2.2) (fun p=>[p.1.o.length<=ah,0<=p.2.1->p.2.1<p.2.2.1->fZ p.2.1 p.1.d.au.length]) aer
theorem am9:Gd YH:=am8.add fun n hO p hp=>aN hO (.sh (fun _=>.rr) fun h=>.sh (fun h2=>.o (hp (0<=p.2.1->p.2.1<p.2.2.1->fZ p.2.1 p.1.d.au.length) (.tail _ (.head _)) (by simpa using h) (by simpa using h2)) (.o (hp _ gQ) .rr)) fun _=>.rr)
abbrev Hb(l:Lo)(i:Int)(b:Br):List (PB aH):=[.cells l.ps,.cells [.int .i64 i],.cells b.ps]
theorem arF{n f:Nat}{a c:List (PV aH)}{H:List (PB aH)}{g}(l:LI0)(hf:∀x∈l,jd n (.fn f a c) [.int .i64 x] H (.bool (g x)) H)(hl:l.length<=ah):jd (n+1) (.fn 218 [] []) [.dF 3 l false,.fn f a c] H (iA.put (sU g l)) H:=by
 have lp:JH n 218 0 H.length (a7Z f a c H l 0 []) (z218 f a c H l (nI (qF g) l 0 ())).1 (z218 f a c H l (nI (qF g) l 0 ())).2:=
  Y5 (st:=fun i _=>a7Z f a c H l i []) (0:Int) (fun _ _=>True) (by kernel_rfl) hl Ru trivial (fun k s n hk _ ih=>aI gX (.b (aV hk) (.o (aF hk) (.k (hf (l.getD k (0:Int)) (bV hk)) (.ls (.ou nofun) (.nx (ih _ trivial))))))) (fun s _=>aI gX (.b (dZ l.length) (.ou nofun)))
 exact jI gX (first:=[]) (cap:=[]) (.szh (fun h=>.w (kW lp () h) .sr) (fun h=>.w (kX lp (0,0,()) h) .sr))
theorem ama{n f:Nat}{a c:List (PV aH)}{H:List (PB aH)}{g}(l:LI0)(hf:∀x∈l,jd n (.fn f a c) [.int .i64 x] H (.bool (g x)) H)(hl:l.length<=ah):jd (n+2) (.fn 181 [] []) [.dF 3 l false,.fn f a c] H (tA.put (l.any g)) H:=by have h1:=arF l hf hl;have h2:=F8 g l;rw[<-h2];exact jI gX (first:=[]) (cap:=[]) (.k h1 .sr)
theorem Fa{α:Type}(l:List α)(g):(!(l.any fun x=>!(g x)))=l.all g:=by
 induction l with
 |nil=>rfl
 |cons a l ih=>simp only[adz,ac9,Bool.not_or,Bool.not_not,ih]
abbrev pB:List (PV aH):=[.ptr 0 0 7,.ptr 1 0 1,.ptr 2 0 2]
theorem arG{n f:Nat}{l i b g}(ks:LI0)(hf:∀x∈ks,jd n (.fn f [] pB) [.int .i64 x] (Hb l i b) (tA.put (g x)) (Hb l i b))(hl:ks.length<=ah):jd (n+4) (.fn 191 [] []) [.dF 3 ks false,.fn f [] pB] (Hb l i b) (tA.put (ks.all g)) (Hb l i b):=by
 have h1:∀x∈ks,jd (n+1) (.fn 221 [] [.ptr 3 0 1]) [.int .i64 x] (Hb l i b++[.cells [.fn f [] pB]]) (tA.put (!(g x))) (Hb l i b++[.cells [.fn f [] pB]]):=fun x hx=>
  jI gX (first:=[]) (.fr [0,1,2] (hf x hx) .sr)
 have h2:=ama ks h1 hl;rw[<-Fa ks g];exact cZ.drop hX (Ea hX gX (first:=[]) (cap:=[]) (H1:=Hb l i b++[.cells [.fn f [] pB]]) (by kernel_rfl) (.k h2 .sr)) rfl rfl
theorem a2Q{x a b}:nN [x] a b=decide (a<=x/\x<=b):=by
 unfold nN wW;simp only[adz,List.any_nil,Bool.or_false];by_cases h:x<a
 .rw[a15 (by simpa using h),aa2,eq_comm,a3k];omega
 rw[a0S (by simpa using h),a5G,a9y,a3k,a1z];omega
theorem YI{l:List Br}{k}(h:k<l.length):l.getD k kP∈l:=by simp[List.getD,a0A h]
abbrev yc(l:Lo)(i:Int):Br:=l.d.au.getD i.toNat kP
def Hf(l:Lo)(i:Int):Bool:=if(!(nN [(yc l i).var] 0 (xw l.s)))=true then false else if(((yc l i).aA.length:Int) != l.s.getD (yc l i).var.toNat 0)=true then false else(yc l i).aA.all fun x=>qL l x i (nZ l.o (yc l i).var)
theorem amb{n}(hO:∀m,n<=m->Ok m YH){l i}(ho:l.o.length<=ah)(hf:qy l.s)(hi:fZ i l.d.au.length):jd (n+6) (.fn 192 [.agg l.ps] []) [.int .i64 i] [] (tA.put (Hf l i)) []:=by
 have h1:∀x∈(yc l i).aA,jd (n+1) (.fn 222 [] pB) [.int .i64 x] (Hb l i (yc l i)) (tA.put (qL l x i (nZ l.o (yc l i).var))) (Hb l i (yc l i)):=fun x _=>
  jI (hO n (a1j _)) (first:=[]) (.o ho (.o ho (.o (show 0<=x->x<i->fZ x l.d.au.length from fun h0 h1=>⟨h0,by have:=hi.1;have:=hi.2;omega⟩) .sr)))
 have hv:(!(nN [(yc l i).var] 0 (xw l.s)))=false->fZ (yc l i).var l.s.length:=fun h=>by rw[a2Q,aaX,a1z,a88 hf.Ye]at h;exact⟨h.1,by omega⟩
 have hk:(!(nN [(yc l i).var] 0 (xw l.s)))=false->(((yc l i).aA.length:Int) != l.s.getD (yc l i).var.toNat 0)=false->(yc l i).aA.length<=ah:=fun h h2=>by
  have h3:=hv h;have h4:=hf.sz _ (bV (s:=l.s) (k:=(yc l i).var.toNat) (by have:=h3.2;have:=h3.1;omega));have h2:((yc l i).aA.length:Int)=l.s.getD (yc l i).var.toNat 0:=by simpa using h2
  exact Yw (by omega)
 exact cZ.drop hX (Ea hX (hO (n+5) (by omega)) (first:=[.agg l.ps]) (cap:=[]) (H1:=Hb l i (yc l i)++[.list true true 3 [(yc l i).var]]) (by kernel_rfl) (.o hi (.o (YG (yc l i).var) (.ssh (fun _=>.sr) fun h5=>.o (hv h5) (.ssh (fun _=>.sr) fun h6=>.fr [0,1,2] (arG (yc l i).aA h1 (hk h5 h6)) .sr))))) rfl rfl
abbrev a4T(f:Nat)(a:List (PV aH)):List (PB aH):=[.cells [.fn f a []]]
theorem amc{n}{l:Lo}{g}(ks:LI0)(hf:∀x∈ks,jd n (.fn 192 [.agg l.ps] []) [.int .i64 x] [] (tA.put (g x)) [])(hl:ks.length<=ah):jd (n+4) (.fn 191 [] []) [.dF 3 ks false,.fn 192 [.agg l.ps] []] [] (tA.put (ks.all g)) []:=by
 have h1:∀x∈ks,jd (n+1) (.fn 221 [] [.ptr 0 0 1]) [.int .i64 x] (a4T 192 [.agg l.ps]) (tA.put (!(g x))) (a4T 192 [.agg l.ps]):=fun x hx=>
  jI gX (first:=[]) (.fr [] (hf x hx) .sr)
 have h2:=ama ks h1 hl;rw[<-Fa ks g];exact cZ.drop hX (Ea hX gX (first:=[]) (cap:=[]) (H1:=a4T 192 [.agg l.ps]) (by kernel_rfl) (.k h2 .sr)) rfl rfl
theorem arH{n}(hO:Ok n YH)(l:List V)(hl:l.length<=ah):jd (n+4) (.fn 189 [] []) [.dF 39 l false,.fn 190 [] []] [] (tA.put (l.all qZ)) []:=by
 have h1:∀x:V,jd (n+1) (.fn 220 [] [.ptr 0 0 1]) [.agg x.ps] (a4T 190 []) (tA.put (!(qZ x))) (a4T 190 []):=fun x=>
  jI hO (first:=[]) .sr
 have h2:=agL (n:=n+2) (by omega) (g:=fun x=>!(qZ x)) h1 l hl;rw[<-Fa l,<-KO];exact cZ.drop hX (Ea hX gX (first:=[]) (cap:=[]) (H1:=a4T 190 []) (by kernel_rfl) (.k h2 .sr)) rfl rfl
theorem arI{n}(hO:Ok n YH)(m)(hm:m<=ah):jd n (.fn 159 [] []) [.int .i64 m] [] (nY.put (dR m)) []:=
 nU.a8k hX (hO 159 [.int .i64 m] (nY.put (dR m)) [] [0<=(m:Int),(m:Int)<=(ah:Int)] (by kernel_rfl) (by
  intro q hq;rcases a1B.1 hq with rfl|hq
  .omega
  .rw[a2m.1 hq];omega)) rfl rfl rfl rfl
theorem a2R{x m}(h:x∈dR m):fZ x m:=by simp only[dR,a1u,a5y]at h;obtain⟨k,hk,rfl⟩:=h;exact aF hk
abbrev zG(d:Dg):Lo:=⟨d.aj,d.aB,d⟩
abbrev lo0:Lo:=⟨[],[],⟨[],[],[],[],0⟩⟩
def bH(d:Dg):Lo×Int:=if(aY d.aj d.aB != 0)=true then(lo0,aY d.aj d.aB)else if decide ((d.au.length:Int)>6000)=true then(zG d,5)else if(!(d.aO.all qZ))=true then(zG d,4)else if(!((dR d.au.length).all (Hf (zG d))))=true then(zG d,4)else if(!(qL (zG d) d.root d.au.length (-1)))=true then(zG d,4)else(zG d,0)
def Et:gU aH:=bU 160 (a1 dA) (dU (a2 loA iA)) (fun p=>bH p) (fun p=>[p.aj.length<=ah,p.aB.length<=2^20,p.aO.length<=ah]) YH
theorem aes:Gd Et:=am9.deep 11 fun n hn hO d hp=>by
 obtain⟨n,rfl⟩:∃k,n=k+10:=⟨n-10,by omega⟩;have h1:d.aj.length<=ah:=hp _ gQ;have h2:d.aB.length<=2^20:=hp _ vX;have h3:d.aO.length<=ah:=hp _ hh2;have ho:d.aB.length<=ah:=by unfold ah;omega
 have hO:∀m,n<=m->Ok m _:=fun m hm=>hO m (by omega);have hI:(aY d.aj d.aB != 0)=false->∀x∈dR d.au.length,jd (n+6) (.fn 192 [.agg (zG d).ps] []) [.int .i64 x] [] (tA.put (Hf (zG d) x)) []:=fun h x hx=>amb hO (l:=zG d) ho (BO h) (a2R hx);have hR:0<=d.root->d.root<(d.au.length:Int)->fZ d.root d.au.length:=fun a b=>⟨a,by omega⟩;have hL:decide ((d.au.length:Int)>6000)=false->(dR d.au.length).length<=ah:=fun h=>by rw[mQ];exact VX h
 exact aN (hO (n+10) (by omega)) (.o h1 (.o h2 (.sh (fun _=>.rn (.dB [.agg [.nil .aP,.nil .aP,.nil .aP,.nil .aP,.nil .aP,.nil .aP,.int .i64 0],.int .i64 (aY d.aj d.aB)]) rfl) fun h=>.sh (fun _=>.rr) fun h4=>.fr [] (arH (n:=n+6) (hO (n+6) (by omega)) d.aO h3) (.ss .rr (.fr [] (arI (hO (n+10) (by omega)) d.au.length (VX h4)) (.fr [] (amc (l:=zG d) (n:=n+6) (dR d.au.length) (hI h) (hL h4)) (.ss .rr (.o ho (.o hR (.ss .rr .rr))))))))))
open Go Tw Pv bQ
def Hg(x:Int):Prop:=-(2^63)<=x/\x<2^63
structure Jg(d:Dg):Prop where
 Aj:∀i,i<d.au.length->∀k,k<(fK d i).aA.length->Hg ((fK d i).aA.getD k 0)
 root:Hg d.root
 fault:∀v∈d.aO,0<=v.f
theorem mW{n o}(h:jC n o=true){v}(hv:fZ v n):v∈o:=by
 unfold jC at h;rw[a1z]at h;obtain⟨h0,h1⟩:=hv;by_cases hc:v∈o
 .exact hc
 have:=aen (l₁:=v::o) (l₂:=dR n) (a5x.2 ⟨hc,h.2.2⟩) (fun x hx=>by
  have:0<=x/\x<(n:Int):=by
   rcases a1B.1 hx with rfl|hx
   .exact⟨h0,by omega⟩
   exact h.2.1 x hx
  unfold dR;rw[a1u];exact⟨x.toNat,by rw[a5y];omega,by omega⟩)
 rw[mQ]at this;simp at this;omega
theorem tJ{l:LI0}{k}(h):l.getD k 0=l[k]:=by simp[List.getD,a0A h]
theorem a2S{l v}(h:v∈l):jO (aZ (cIx l v) l.length)=false:=by
 cases e:jO (aZ (cIx l v) l.length)
 .rfl
 obtain⟨j,hj,e2⟩:=a5I.1 h;have:=cO.1 e j hj;simp[cIx,List.getD,a0A hj,e2]at this
theorem a8p{d r}:Qy d r=cIx d.aB (ay d r).var:=by funext k;exact BEq.comm
theorem W9{d r}(h0:0<=r)(h:(ay d r).var∈d.aB):uP d r=nZ d.aB (ay d r).var:=by unfold uP nZ;rw[a0S (by rw[a1z];omega),a8p,a2S h,a0S (by decide),a0S (by decide)]
theorem amd{l v}(h:v∈l):nZ l v<(l.length:Int):=by unfold nZ;rw[a2S h,a0S (by simp)];obtain⟨j,h1,_,_,h2⟩:=wM (a2S h);rw[h2];show(j:Int)<_;omega
theorem QB{x a b}:nN [x] a b=nX x a b:=by rw[a2Q,a5G,vg,a1z]
theorem a8q{v}(h:0<=v.f):qZ v=vOk v:=by rw[agQ h];unfold qZ vIs;rw[QB]
theorem ah1{z}(h:Hg z):i64.wrap z=z:=by
 obtain⟨h0,h1⟩:=h;simp only[IntKind.wrap,IntKind.bits,IntKind.signed];rcases Int.lt_or_le z 0 with h|h
 .have:z%(2^64:Int)=z+2^64:=by have:=acg z (2^64) 1;rw[ad8]at this;rw[<-this];exact a9u (by omega) (by omega)
  simp only[this];rw[a15 (by simp;omega)];omega
 have:z%(2^64:Int)=z:=a9u h (by omega);simp only[this];rw[a0S (by simp;omega)]
theorem Oa{x}(h:Hg x)(h0:x<0):i64.wrap (-1-x)=-1-x:=by have h1:=h.1;exact ah1 ⟨by omega,by omega⟩
theorem abO{d x}(below)(h:Hg x)(h0:x<0)(he:d.aO.length<=ah):ji d x below=decide (i64.wrap (-1-x)<(d.aO.length:Int)):=by
 have he:d.aO.length<=2^60:=by unfold ah at he;omega
 unfold ji;rw[a0S (by simp;omega),Oa h h0,a5G,vg,a1z];by_cases h1:d.aO.length=0
 .rw[h1,show i64.wrap (((0:Nat):Int)-1)=-1 by decide];omega
 rw[eU (by omega) (by omega)];omega
theorem ame{l v}(h:v∈l):0<=nZ l v:=by unfold nZ;rw[a2S h,a0S (by simp)];omega
theorem ah2{d x below Nq}(h0:0<=x)(hv:x<below->(ay d x).var∈d.aB):qL (zG d) x below Nq=(ji d x below&&decide (Nq<uP d x)):=by
 unfold qL ji;rw[a0S (show ¬(decide (x<0)=true) by rw[a1z];omega),a15 (show decide (x>=0)=true by rw[a1z];omega)];by_cases h1:x<below
 .rw[a15 (show decide (x<below)=true by rw[a1z];exact h1),W9 h0 (hv h1),decide_eq_true h1,ady]
 rw[a0S (show ¬(decide (x<below)=true) by rw[a1z];exact h1),afc h1,Bool.false_and]
theorem ah3{d x below Nq}(h:Hg x)(h0:x<0)(he:d.aO.length<=ah)(hr:Nq<(d.aB.length:Int)):qL (zG d) x below Nq=(ji d x below&&decide (Nq<uP d x)):=by rw[abO _ h h0 he];unfold qL uP;rw[a15 (by rw[a1z];exact h0),a15 (by rw[a1z];exact h0),decide_eq_true hr,aiz]
theorem a8r{d x below Nq}(h:Hg x)(he:d.aO.length<=ah)(hr:Nq<(d.aB.length:Int))(hv:0<=x->x<below->(ay d x).var∈d.aB):qL (zG d) x below Nq=(ji d x below&&decide (Nq<uP d x)):=by
 by_cases h0:0<=x
 .exact ah2 h0 (hv h0)
 exact ah3 h (by omega) he hr
theorem a8s{d}(h:Jg d)(he:d.aO.length<=ah)(hv:∀r,fZ r d.au.length->(ay d r).var∈d.aB):qL (zG d) d.root d.au.length (-1)=ji d d.root d.au.length:=by
 rw[a8r h.root he (by omega) (fun a b=>hv _ ⟨a,by omega⟩)];cases e:ji d d.root d.au.length
 .rfl
 rw[ady,a1z];by_cases h0:0<=d.root
 .have:=YA e h0 (a1j _);rw[W9 h0 (hv _ this)];have:=ame (hv _ this);omega
 unfold uP;rw[a15 (by rw[a1z];omega)];omega
theorem aeu{d}(h:Jg d)(he:d.aO.length<=ah){i}(hi:i<d.au.length)(hf:qy d.aj)(ho:jC d.aj.length d.aB=true)(hv:∀j,j<i->(fK d j).var∈d.aB):Hf (zG d) i=!(cLn d i):=by
 have e0:yc (zG d) i=fK d i:=rfl;unfold Hf cLn;rw[e0];show(if(!(nN [(fK d i).var] 0 (xw d.aj)))=true then false else if(((fK d i).aA.length:Int) != d.aj.getD (fK d i).var.toNat 0)=true then false else _)=_;rw[QB];cases e1:nX (fK d i).var 0 (xw d.aj)
 .rfl
 have hvi:(fK d i).var∈d.aB:=mW ho (KX hf e1);have arJ:(ay d (i:Int)).var∈d.aB:=hvi;simp only[aa2,a2H,a3S];split
 .rfl
 have Gy:((fK d i).aA.all fun x=>qL (zG d) x i (nZ (zG d).o (fK d i).var))=jO (aZ (cLk d i) (fK d i).aA.length):=by
  rw[a5G,a5z,cO];have hk:∀k,k<(fK d i).aA.length->(qL (zG d) ((fK d i).aA.getD k 0) i (nZ d.aB (fK d i).var)=true↔cLk d i k=false):=fun k hk=>by
   rw[a8r (h.Aj i hi k hk) he (amd hvi) (fun a b=>hv _ (by omega)),a2o,a1z];unfold cLk;rw[show uP d (i:Int)=nZ d.aB (fK d i).var from W9 (by omega) arJ];cases ji d ((fK d i).aA.getD k 0) i
   .simp
   simp<;>omega
  constructor
  .intro a k LV;exact(hk k LV).1 (a _ (bV LV))
  intro a x hx;obtain⟨k,LV,rfl⟩:=a5I.1 hx;have:=(hk k LV).2 (a k LV);rw[tJ LV]at this;exact this
 rw[Gy];cases jO (aZ (cLk d i) (fK d i).aA.length)<;>rfl
theorem ah4{d}(h:Jg d)(he:d.aO.length<=ah)(hf:qy d.aj)(ho:jC d.aj.length d.aB=true):(dR d.au.length).all (Hf (zG d))=jO (aZ (cLn d) d.au.length):=by
 have amf:∀i,cLn d i=false->(fK d i).var∈d.aB:=fun i hc=>by
  unfold cLn at hc;split at hc
  .cases hc
  rename_i e;exact mW ho (KX hf (by simpa using e))
 have key:∀i,i<=d.au.length->((∀j,j<i->Hf (zG d) j=true)↔∀j,j<i->cLn d j=false):=by
  intro i
  induction i with
  |zero=>intro _;exact⟨fun _ j hj=>absurd hj (by omega),fun _ j hj=>absurd hj (by omega)⟩
  |succ i ih=>
   intro hi;have ih:=ih (by omega);constructor
   .intro a;have b:=ih.1 fun j hj=>a j (by omega);intro j hj;by_cases hji:j<i
    .exact b j hji
    have:j=i:=(by omega);subst this;have:=a j (by omega);rw[aeu h he (by omega) hf ho (fun k hk=>amf k (b k hk))]at this;simpa using this
   intro b j hj;by_cases hji:j<i
   .exact ih.2 (fun k hk=>b k (by omega)) j hji
   have:j=i:=(by omega);subst this;rw[aeu h he (by omega) hf ho (fun k hk=>amf k (b k (by omega))),b j (by omega)];rfl
 rw[a5G,a5z,cO,<-key _ (a1j _)];constructor
 .intro a j hj;exact a _ (by unfold dR;rw[a1u];exact⟨j,a5y.2 hj,rfl⟩)
 intro a x hx;simp only[dR,a1u,a5y]at hx;obtain⟨k,hk,rfl⟩:=hx;exact a k hk
theorem abP{d}(h:∀v∈d.aO,0<=v.f):d.aO.all qZ=jO (aZ (cLe d) d.aO.length):=by
 rw[a5G,a5z,cO];have hg:∀k,(hk:k<d.aO.length)->d.aO.getD k V0=d.aO[k]:=fun k hk=>by simp[List.getD,a0A hk]
 constructor
 .intro a k hk;unfold cLe;rw[hg k hk,<-a8q (h _ (a5B hk)),a _ (a5B hk)];rfl
 intro a x hx;obtain⟨k,hk,rfl⟩:=a5I.1 hx;have:=a k hk;unfold cLe at this;rw[hg k hk,<-a8q (h _ hx)]at this;simpa using this
theorem L6{d}(h:Jg d)(he:d.aO.length<=ah):bH d=(if(aY d.aj d.aB != 0)=true then lo0 else zG d,aW d):=by
 unfold bH aW;split
 .rfl
 rename_i h1;have Rq:=iL.1 (show aY d.aj d.aB=0 by simpa using h1);split
 .rfl
 unfold mV;rw[abP h.fault,ah4 h he Rq.1 Rq.2];cases e1:jO (aZ (cLe d) d.aO.length)
 .rfl
 cases e2:jO (aZ (cLn d) d.au.length)
 .rfl
 have hv:∀r,fZ r d.au.length->(ay d r).var∈d.aB:=fun r hr=>by
  have:=cO.1 e2 r.toNat (by have:=hr.1;have:=hr.2;omega);unfold cLn at this;split at this
  .cases this
  rename_i e;exact mW Rq.2 (KX Rq.1 (by simpa using e))
 rw[a8s h he hv];simp only[aa2,a2H,a3S,a2l];cases ji d d.root d.au.length<;>rfl
open Go Tw Pv bQ
def kV:pK X0 Qp 39 V where
 pv x:=.agg x.ps
 tv x:=x.tv
 v x:=.agg #[.int .u8 x.f,.int .i64 x.n]
 hp _:=rfl
 ht _:=rfl
 hc em x:=by kernel_rfl
 hf x l:=a2z agR (fun a b=>a2L 9998 a b) x l
 hk:=a2B agR fun a b=>a2L 9998 a b
def kI:pK X0 Qp 3 Int where
 pv x:=.int .i64 x
 tv x:=.int .i64 x
 v x:=.int .i64 x
 hp _:=rfl
 ht _:=rfl
 hc em x:=by kernel_rfl
 hf x l:=agy a4K x l
 hk:=agz a4K
abbrev Am(E:List V):List (V×PV X0.Γ):=E.zipIdx.map fun e=>(e.1,.int .i64 (e.2:Nat))
abbrev mkC(a b:LI0)(e n:Nat)(r:Int):PB aH:=.cells [.dF 3 a false,.dF 3 b false,.own 0,.own 1,.own e,.own n,.int .i64 r,.map 2,.map 3]
abbrev Ap(l:List V):PB aH:=.list false false 39 l
abbrev Aq(l:List Br):PB aH:=.list false false 105 l
abbrev MK(a b:LI0)(E:List V)(nd:List Br)(r:Int)(nm:List (PV aH×PV aH)):List (PB aH):=[.list false false 3 a,.list false false 3 b,.map (kV.es (Am E)),.map nm,mkC a b 5 6 r,Ap E,Aq nd]
abbrev MK'(a b:LI0)(E:List V)(nd:List Br)(r:Int)(nm:List (PV aH×PV aH)):List (PB aH):=[.list false false 3 a,.list false false 3 b,.map (kV.es (Am E)),.map nm,mkC a b 7 8 r,.gone,.gone,Ap E,Aq nd]
theorem Um(E):(Am E).map (·.1)=E:=by unfold Am;rw[a8G];show E.zipIdx.map (·.1)=E;simp
theorem a8t(E v):Am (E++[v])=Am E++[(v,.int .i64 (E.length:Nat))]:=by unfold Am;rw[List.zipIdx_append,a4M];simp
theorem a8u{E v}(h:v∈E):(v,(.int .i64 (E.idxOf v:Nat):PV X0.Γ))∈Am E:=by unfold Am;rw[a1u];have hl:=a5H.2 h;exact⟨(v,E.idxOf v),by rw[aah];simp[a0A hl],rfl⟩
def fJ(E:List V)(v:V):List V:=if v∈E then E else E++[v]
theorem Wh{E v}(h:E.Nodup):(fJ E v).Nodup:=by
 unfold fJ;split
 .exact h
 rename_i hn;rw[a9S];exact⟨h,by simp,fun x hx y hy=>by rw[a2m]at hy;subst hy;intro e;subst e;exact hn hx⟩
theorem arK{n}(hO:Ok n Et){a b E nd r nm}(v)(hE:E.Nodup)(hl:E.length+1<=ah):jd (n+1) (.fn 196 [] []) [.ptr 4 0 9,.agg v.ps] (MK a b E nd r nm) (.int .i64 (i64.wrap (-1-(E.idxOf v:Nat)))) (MK' a b (fJ E v) nd r nm):=by
 by_cases h:v∈E
 .rw[show fJ E v=E from a15 h];have hf:qN X0 Qp 39 (kV.es (Am E)) v.tv (.int .i64 (E.idxOf v:Nat)):=kV.found (by rw[Um];exact hE) (a8u h);exact cZ.gs hX (kH hX hO (first:=[]) (cap:=[]) (v:=.int .i64 (i64.wrap (-1-(E.idxOf v:Nat)))) (H1:=MK a b E nd r nm) (by kernel_rfl) (.c (.int .i64 (E.idxOf v:Nat)) [] hf (.b aiJ .er))) [.mv 5,.mv 6] rfl
 rw[show fJ E v=E++[v]from a0S h,a7k h];have hf:oG X0 Qp 39 (kV.es (Am E)) v.tv:=kV.fresh (by rw[Um];exact h);have em:kV.es (Am (E++[v]))=kV.es (Am E)++[(.agg v.ps,.int .i64 (E.length:Nat))]:=by rw[a8t];exact a4M ..
 show cZ X0 Qp _ _ _ _ _ [_,_,.map (kV.es (Am (E++[v]))),_,_,_,_,_,_];rw[em];exact cZ.gs hX (kH hX hO (first:=[]) (cap:=[]) (v:=.int .i64 (i64.wrap (-1-(E.length:Nat)))) (H1:=[.list false false 3 a,.list false false 3 b,.map (kV.es (Am E)++[(.agg v.ps,.int .i64 (E.length:Nat))]),.map nm,mkC a b 8 6 r,.gone,Aq nd,.list true true 39 [v],Ap (E++[v])]) (by kernel_rfl) (.a .calm (.o hf (.b aiK (.a .calm (.o (kV.ck v) (.o hf (.o (show E.length+[v].length<=ah by simpa using hl) .er)))))))) [.mv 6,.gc [8,9]] rfl
open Go Tw Pv bQ
abbrev oI(k ex:Bool)(l:LI0):PB aH:=.list k ex 3 l
abbrev wOI(f:Nat)(a c:List (PV aH))(k ex:Bool)(R:List (PB aH))(l:LI0)(i:Int)(x:List (Nat×PE aH)):bJ aH:=⟨[(0,.val (.own 0)),(1,.val (.fn f a c)),(7,xi l.length),(8,xi i)]++x,[],oI k ex l::R⟩
def zOI(f:Nat)(a c:List (PV aH))(k ex:Bool)(R:List (PB aH))(l:LI0):Unit⊕(Nat×Int×Unit)->Ex×bJ aH
 |.inl _=>(.exit 0,wOI f a c k ex R l l.length [(9,xl false)])
 |.inr r=>(.ret,⟨[(4,xi r.1)],[],oI k ex l::R⟩)
theorem qoI{n f:Nat}{a c:List (PV aH)}{ko ex}{R:List (PB aH)}{g}(l)(hf:∀x∈l,jd n (.fn f a c) [.int .i64 x] (oI ko ex l::R) (.bool (g x)) (oI ko ex l::R))(hl:l.length<=ah):jd (n+1) (.fn 218 [] []) [.own 0,.fn f a c] (oI ko ex l::R) (iA.put (sU g l)) (oI ko ex l::R):=by
 have lp:JH n 218 0 (R.length+1) (wOI f a c ko ex R l 0 []) (zOI f a c ko ex R l (nI (qF g) l 0 ())).1 (zOI f a c ko ex R l (nI (qF g) l 0 ())).2:=
  Y5 (st:=fun i _=>wOI f a c ko ex R l i []) (0:Int) (fun _ _=>True) (by kernel_rfl) hl Ru trivial (fun k s n hk _ ih=>aI gX (.b (aV hk) (.o (aF hk) (.k (hf (l.getD k (0:Int)) (bV hk)) (.ls (.ou nofun) (.nx (ih _ trivial))))))) (fun s _=>aI gX (.b (dZ l.length) (.ou nofun)))
 exact jI gX (first:=[]) (cap:=[]) (.szh (fun h=>.w (kW lp () h) .sr) (fun h=>.w (kX lp (0,0,()) h) .sr))
theorem qoC{n f:Nat}{a c:List (PV aH)}{ko ex}{R:List (PB aH)}{g}(l)(hf:∀x∈l,jd n (.fn f a c) [.int .i64 x] (oI ko ex l::R) (.bool (g x)) (oI ko ex l::R))(hl:l.length<=ah):jd (n+2) (.fn 181 [] []) [.own 0,.fn f a c] (oI ko ex l::R) (tA.put (l.any g)) (oI ko ex l::R):=by have h1:=qoI l hf hl;have h2:=F8 g l;rw[<-h2];exact jI gX (first:=[]) (cap:=[]) (.k h1 .sr)
abbrev Hk(k ex:Bool)(l:LI0):List (PB aH):=[oI k ex l,.cells [.own 0]]
theorem qoA{n f:Nat}{ko ex g}(l)(hf:∀x∈l,jd n (.fn f [] [.ptr 1 0 1]) [.int .i64 x] (Hk ko ex l) (tA.put (g x)) (Hk ko ex l))(hl:l.length<=ah):jd (n+4) (.fn 191 [] []) [.own 0,.fn f [] [.ptr 1 0 1]] (Hk ko ex l) (tA.put (l.all g)) (Hk ko ex l):=by
 have h1:∀x∈l,jd (n+1) (.fn 221 [] [.ptr 2 0 1]) [.int .i64 x] (Hk ko ex l++[.cells [.fn f [] [.ptr 1 0 1]]]) (tA.put (!(g x))) (Hk ko ex l++[.cells [.fn f [] [.ptr 1 0 1]]]):=fun x hx=>
  jI gX (first:=[]) (.fr [0,1] (hf x hx) .sr)
 have h2:=qoC (R:=[.cells [.own 0],.cells [.fn f [] [.ptr 1 0 1]]]) l h1 hl;rw[<-Fa l g];exact cZ.drop hX (Ea hX gX (first:=[]) (cap:=[]) (H1:=Hk ko ex l++[.cells [.fn f [] [.ptr 1 0 1]]]) (by kernel_rfl) (.k h2 .sr)) rfl rfl
theorem a8v{n ko ex}(l)(hl:l.length<=ah):jd (n+5) (.fn 191 [] []) [.own 0,.fn 224 [] [.ptr 1 0 1]] (Hk ko ex l) (tA.put (l.all fun x=>x==l.getD 0 0)) (Hk ko ex l):=
 qoA (n:=n+1) l (fun x hx=>jI gX (first:=[]) (.o (show fZ 0 l.length from⟨by omega,by have:=List.length_pos_of_mem hx;omega⟩) .sr)) hl
theorem a8w:∀l:LI0,l.length=12->∃a0 a1 a2 a3 a4 a5 a6 a7 a8 a9 a10 a11,l=[a0,a1,a2,a3,a4,a5,a6,a7,a8,a9,a10,a11]
 | [a0,a1,a2,a3,a4,a5,a6,a7,a8,a9,a10,a11],_=>⟨a0,a1,a2,a3,a4,a5,a6,a7,a8,a9,a10,a11,rfl⟩
 | [],h=>by simp at h
 | [_],h=>by simp at h
 | [_,_],h=>by simp at h
 | [_,_,_],h=>by simp at h
 | [_,_,_,_],h=>by simp at h
 | [_,_,_,_,_],h=>by simp at h
 | [_,_,_,_,_,_],h=>by simp at h
 | [_,_,_,_,_,_,_],h=>by simp at h
 | [_,_,_,_,_,_,_,_],h=>by simp at h
 | [_,_,_,_,_,_,_,_,_],h=>by simp at h
 | [_,_,_,_,_,_,_,_,_,_],h=>by simp at h
 | [_,_,_,_,_,_,_,_,_,_,_],h=>by simp at h
 |_::_::_::_::_::_::_::_::_::_::_::_::_::_,h=>by simp at h
abbrev Ky:=Int×{l:LI0 // l.length=12}
abbrev Ky.l(x:Ky):LI0:=x.1::x.2.val
theorem QC:∀l:LI0,jf (Γ:=aH) (l.map fun x=>PV.int .i64 x)=some (l.map fun x=>TV.int .i64 x)
 | []=>rfl
 |a::l=>by simp only[a4N,jf,su,QC l]
theorem Un:∀l:LI0,TV.UJ (l.map fun x=>TV.int .i64 x)=some (l.map fun x=>Value.int .i64 x)
 | []=>rfl
 |a::l=>by simp only[a4N,TV.UJ,TV.toC,Un l]
theorem ah5 : Tryz.prog.underlying 223 = some (.struct #[⟨"choice", 3, 0, false, "", "mist/node", 0⟩, ⟨"kids", 221, 1, false, "", "mist/node", 8⟩]) := by kernel_rfl
theorem aew(d)(a b:Ky):aC Qp (Op.equalIn (d+3) 223 (.agg (Ef .i64 a.l)) (.agg (Ef .i64 b.l)))=some (decide (a=b)):=by
 obtain⟨a1,a2,ha⟩:=a;obtain⟨b1,b2,hb⟩:=b;rw[yS (d+2) 223 _ _ _ ah5 (by kernel_rfl)];have gI:aC Qp (isAgg 3)=some false:=by kernel_rfl
 have gA:aC Qp (isAgg 221)=some true:=by kernel_rfl
 have sA:aC Qp (sizeOf 221)=some 12:=by kernel_rfl
 have sI:aC Qp (sizeOf 3)=some 1:=by kernel_rfl
 have p0:∀x l,aC Qp (part 3 (Ef .i64 (x::l)) 0)=some (.int .i64 x):=fun x l=>Ee gI (Qi (l:=x::l) (by simp));have p1:∀x l,l.length=12->aC Qp (part 221 (Ef .i64 (x::l)) 1)=some (.agg (Ef .i64 l)):=fun x l h=>by
  obtain⟨a0,a1,a2,a3,a4,a5,a6,a7,a8,a9,a10,a11,rfl⟩:=a8w l h
  kernel_rfl
 have q1 := pI (f := ⟨"choice", 3, 0, false, "", "mist/node", 0⟩) (fs := [⟨"kids", 221, 1, false, "", "mist/node", 8⟩]) (by decide) (p0 a1 a2) (p0 b1 b2) (sF (d + 1) _ .i64 _ a1 b1 a4K);have q2 := pI (f := ⟨"kids", 221, 1, false, "", "mist/node", 8⟩) (fs := []) (by decide) (p1 a1 a2 ha) (p1 b1 b2 hb) (CS d (k := .i64) (t := 221) (by kernel_rfl) sI a4K gI ha hb);rw[q1,q2];rw[show aC Qp (Op.eqFields (d+2) (Ef .i64 (a1::a2)) (Ef .i64 (b1::b2)) [])=some true from rfl];by_cases h1:a1=b1<;>by_cases h2:a2=b2<;>simp[h1,h2]
def kK:pK X0 Qp 223 Ky where
 pv x:=.agg (x.l.map fun i=>.int .i64 i)
 tv x:=.agg (x.l.map fun i=>.int .i64 i)
 v x:=.agg (Ef .i64 x.l)
 hp x:=congrArg (Option.map TV.agg) (QC x.l)
 ht x:=congrArg (Option.map fun vs:List LI3=>Value.agg vs.toArray) (Un x.l)
 hc em x:=by
  obtain⟨c,l,h⟩:=x;obtain⟨a0,a1,a2,a3,a4,a5,a6,a7,a8,a9,a10,a11,rfl⟩:=a8w l h
  kernel_rfl
 hf x l:=a2z ah5 (fun a b=>aew 9997 a b) x l
 hk:=a2B ah5 (fun a b=>aew 9997 a b)
open Go Tw Pv bQ
def Jh(l:LI0):LI0:=(l++[0,0,0,0,0,0,0,0,0,0,0,0]).take 12
theorem a8x(l):(Jh l).length=12:=by unfold Jh;simp
def uQ(c:Int)(ks:LI0):Ky:=(c,⟨Jh ks,a8x ks⟩)
abbrev Dj(b:Br):Ky:=uQ b.var b.aA
abbrev zF(nd:List Br):List (Ky×PV X0.Γ):=nd.zipIdx.map fun e=>(Dj e.1,.int .i64 (e.2:Nat))
theorem Uo(nd):(zF nd).map (·.1)=nd.map Dj:=by unfold zF;rw[a8G];show nd.zipIdx.map (Dj∘fun e=>e.1)=_;rw[<-a8G];simp
theorem a8y(nd b):zF (nd++[b])=zF nd++[(Dj b,.int .i64 (nd.length:Nat))]:=by unfold zF;rw[List.zipIdx_append,a4M];simp
theorem a8z{nd k}(h:k∈nd.map Dj):(k,(.int .i64 ((nd.map Dj).idxOf k:Nat):PV X0.Γ))∈zF nd:=by
 have hl:=a5H.2 h;have SI:(nd.map Dj).idxOf k<nd.length:=by simpa using hl
 unfold zF;rw[a1u];refine⟨(nd[(nd.map Dj).idxOf k],(nd.map Dj).idxOf k),by rw[aah];simp[a0A SI],?_⟩;have:=a9B hl;rw[aa1]at this;show(Dj _,_)=_;rw[this]
def dI(nd:List Br)(c:Int)(ks:LI0):List Br:=if(ks.all fun x=>x==ks.getD 0 0)=true then nd else if uQ c ks∈nd.map Dj then nd else nd++[⟨c,ks⟩]
def eX(nd:List Br)(c:Int)(ks:LI0):Int:=if(ks.all fun x=>x==ks.getD 0 0)=true then ks.getD 0 0 else((nd.map Dj).idxOf (uQ c ks):Nat)
abbrev MN(a b:LI0)(E:List V)(nd:List Br)(r:Int):List (PB aH):=MK a b E nd r (kK.es (zF nd))
abbrev MNg(a b:LI0)(E:List V)(nd:List Br)(r:Int)(nm:List (PV aH×PV aH)):List (PB aH):=[.list false false 3 a,.list false false 3 b,.map (kV.es (Am E)),.map nm,mkC a b 8 9 r,.gone,.gone,.gone,Ap E,Aq nd]
abbrev MN'(a b:LI0)(E:List V)(nd:List Br)(r:Int):List (PB aH):=MNg a b E nd r (kK.es (zF nd))
theorem ah6{n}(hO:Ok (n+5) Et){a b E nd r}(c ks)(hk:1<=ks.length/\ks.length<=12)(hf:(ks.all fun x=>x==ks.getD 0 0)=true):jd (n+6) (.fn 198 [] []) [.ptr 4 0 9,.int .i64 c,.own 7] (MN a b E nd r++[oI true true ks]) (.int .i64 (ks.getD 0 0)) (MN' a b E nd r):=by have h1:=kH hX hO (first:=[]) (cap:=[]) (xs:=[.ptr 4 0 9,.int .i64 c,.own 7]) (H:=MN a b E nd r++[oI true true ks]) (v:=.int .i64 (ks.getD 0 0)) (H1:=MN a b E nd r++[oI true true ks,.cells [.own 7]]) (f:=198) (by kernel_rfl) (.fr [7,8] (a8v (n:=n) (ko:=true) (ex:=true) ks (Yw hk.2)) (.b hf (.o (show fZ 0 ks.length from⟨by omega,by omega⟩) .er)));exact cZ.forget (cZ.gs hX h1 [.mv 5,.mv 6,.gc [9,10]] rfl) 7
abbrev a8A(c:Int)(ks:LI0):PB aH:=.cells ((Ky.l (uQ c ks)).map fun i=>.int .i64 i)
theorem ah7{n}(hO:Ok (n+5) Et){a b E nd r}(c ks)(hk:1<=ks.length/\ks.length<=12)(hf:(ks.all fun x=>x==ks.getD 0 0)=false)(hN:(nd.map Dj).Nodup)(hm:uQ c ks∈nd.map Dj):jd (n+6) (.fn 198 [] []) [.ptr 4 0 9,.int .i64 c,.own 7] (MN a b E nd r++[oI true true ks]) (.int .i64 ((nd.map Dj).idxOf (uQ c ks):Nat)) (MN' a b E nd r):=by
 have hF:qN X0 Qp 223 (kK.es (zF nd)) (kK.tv (uQ c ks)) (.int .i64 ((nd.map Dj).idxOf (uQ c ks):Nat)):=kK.found (by rw[Uo];exact hN) (a8z hm);have h1:jd (n+6) (.fn 198 [] []) [.ptr 4 0 9,.int .i64 c,.own 7] (MN a b E nd r++[oI true true ks]) (.int .i64 ((nd.map Dj).idxOf (uQ c ks):Nat)) (MN a b E nd r++[oI true true ks,.cells [.own 7],a8A c ks]):=by generalize (nd.map Dj).idxOf (uQ c ks)=j at hF ⊢;generalize zF nd=nm at hF ⊢;obtain⟨k1,k2⟩:=hk;rcases ks with _|⟨x0,_|⟨x1,_|⟨x2,_|⟨x3,_|⟨x4,_|⟨x5,_|⟨x6,_|⟨x7,_|⟨x8,_|⟨x9,_|⟨x10,_|⟨x11,_|⟨x12,_⟩⟩⟩⟩⟩⟩⟩⟩⟩⟩⟩⟩⟩<;>first|(exfalso;simp at k1;done)|(exfalso;simp at k2;omega)|(exact fH hO (first:=[]) (cap:=[]) (.fr [7,8] (a8v (n:=n) (ko:=true) (ex:=true) _ (Yw k2)) (.b hf (.c (.int .i64 (j:Nat)) [] hF (.b aiJ .er)))))
 exact cZ.forget (cZ.gs hX (cZ.forget h1 9) [.mv 5,.mv 6,.gc [10,11]] rfl) 7
theorem ah8{n}(hO:Ok (n+5) Et){a b E nd r}(c ks)(hk:1<=ks.length/\ks.length<=12)(hf:(ks.all fun x=>x==ks.getD 0 0)=false)(hm:uQ c ks∉nd.map Dj)(hl:nd.length+1<=ah):jd (n+6) (.fn 198 [] []) [.ptr 4 0 9,.int .i64 c,.own 7] (MN a b E nd r++[oI true true ks]) (.int .i64 (nd.length:Nat)) (MN' a b E (nd++[⟨c,ks⟩]) r):=by
 have hF:oG X0 Qp 223 (kK.es (zF nd)) (kK.tv (uQ c ks)):=kK.fresh (by rw[Uo];exact hm);have hC:=kK.ck (uQ c ks);have hL:nd.length+([⟨c,ks⟩]:List Br).length<=ah:=by simpa using hl
 have em:kK.es (zF (nd++[⟨c,ks⟩]))=kK.es (zF nd)++[(kK.pv (uQ c ks),.int .i64 (nd.length:Nat))]:=by rw[a8y];exact a4M ..
 show cZ X0 Qp _ _ _ _ _ (MNg a b E (nd++[⟨c,ks⟩]) r (kK.es (zF (nd++[⟨c,ks⟩]))));rw[em];have h1:jd (n+6) (.fn 198 [] []) [.ptr 4 0 9,.int .i64 c,.own 7] (MN a b E nd r++[oI true true ks]) (.int .i64 (nd.length:Nat)) [.list false false 3 a,.list false false 3 b,.map (kV.es (Am E)),.map (kK.es (zF nd)++[(kK.pv (uQ c ks),.int .i64 (nd.length:Nat))]),mkC a b 5 11 r,Ap E,.gone,.gone,.cells [.own 7],a8A c ks,.list true true 105 [⟨c,ks⟩],Aq (nd++[⟨c,ks⟩])]:=by generalize zF nd=nm at hF ⊢;obtain⟨k1,k2⟩:=hk;rcases ks with _|⟨x0,_|⟨x1,_|⟨x2,_|⟨x3,_|⟨x4,_|⟨x5,_|⟨x6,_|⟨x7,_|⟨x8,_|⟨x9,_|⟨x10,_|⟨x11,_|⟨x12,_⟩⟩⟩⟩⟩⟩⟩⟩⟩⟩⟩⟩⟩<;>first|(exfalso;simp at k1;done)|(exfalso;simp at k2;omega)|(exact fH hO (first:=[]) (cap:=[]) (.fr [7,8] (a8v (n:=n) (ko:=true) (ex:=true) _ (Yw k2)) (.b hf (.q (.bool false) hF (.b aiK (.q (.bool false) hC (.o hF (.o hL .er))))))))
 exact cZ.gs hX (cZ.forget (cZ.forget h1 9) 10) [.mv 5,.gc [12,11]] rfl
theorem ami{n}(hO:Ok (n+5) Et){a b E nd r}(c ks)(hk:1<=ks.length/\ks.length<=12)(hN:(nd.map Dj).Nodup)(hl:nd.length+1<=ah):jd (n+6) (.fn 198 [] []) [.ptr 4 0 9,.int .i64 c,.own 7] (MN a b E nd r++[oI true true ks]) (.int .i64 (eX nd c ks)) (MN' a b E (dI nd c ks) r):=by
 unfold eX dI;cases hf:ks.all fun x=>x==ks.getD 0 0
 .rw[a0S (by simp),a0S (by simp)];by_cases hm:uQ c ks∈nd.map Dj
  .rw[a15 hm];exact ah7 hO c ks hk hf hN hm
  rw[a0S hm,a7k hm,a4P];exact ah8 hO c ks hk hf hm hl
 rw[a15 rfl,a15 rfl];exact ah6 hO c ks hk hf
theorem Si{nd c ks}(h:(nd.map Dj).Nodup):((dI nd c ks).map Dj).Nodup:=by
 unfold dI;split
 .exact h
 split
 .exact h
 rename_i hn;rw[a4M,a9S];exact⟨h,by simp,fun x hx y hy=>by simp at hy;subst hy;intro e;subst e;exact hn hx⟩
open Go Tw Pv bQ
theorem arM{n}(hO:Ok n Et)(a b:LI0)(ha:a.length<=ah)(hb:b.length<=ah):jd (n+1) (.fn 194 [] []) [.agg [.dF 3 a false,.dF 3 b false]] [] (.ptr 4 0 9) (MN a b [] [] 0):=
 cZ.gs hX (kH hX hO (first:=[]) (cap:=[]) (v:=.ptr 4 0 9) (H1:=[.list false false 3 a,.list false false 3 b,.map [],.map [],.cells [.dF 3 a false,.dF 3 b false,.own 0,.own 1,.nil .aP,.nil .aP,.int .i64 0,.map 2,.map 3]]) (by kernel_rfl) (.o ha (.o hb .er))) [.Vr 4 4 39,.Vr 4 5 105] rfl
structure Cs where
 e:List V
 n:List Br
 k:List (Int×Int)
abbrev Nr(k:List (Int×Int)):List (Int×PV X0.Γ):=k.map fun p=>(p.1,.int .i64 p.2)
abbrev pC:List (PV aH):=[.ptr 8 0 1,.ptr 7 0 7,.ptr 10 0 1,.ptr 11 0 1]
abbrev aex(l:Lo)(k:List (Int×Int)):List (PB aH):=[.aG l.ps,.aG [.ptr 4 0 9],.map (kI.es (Nr k)),.aG [.map 9],.aG [.fn 195 [] pC]]
abbrev HC(l:Lo)(x:Cs):List (PB aH):=MN l.s l.o x.e x.n 0++aex l x.k
abbrev HC'(l:Lo)(x:Cs):List (PB aH):=[.list false false 3 l.s,.list false false 3 l.o,.map (kV.es (Am x.e)),.map (kK.es (zF x.n)),mkC l.s l.o 12 13 0,.gone,.gone]++aex l x.k++[Ap x.e,Aq x.n]
def oP(d:Dg)(r:Int):V:=d.aO.getD (i64.wrap (-1-r)).toNat V0
def Wi(k:List (Int×Int))(r:Int):Int:=((k.find? fun p=>p.1==r).getD (0,0)).2
def bY(d:Dg):Nat->Int->Cs->Int×Cs
 | 0,_,x=>(0,x)
 |F+1,r,x=>if decide (r<0)=true then(i64.wrap (-1-(x.e.idxOf (oP d r):Nat)),⟨fJ x.e (oP d r),x.n,x.k⟩)else if decide (r∈x.k.map (·.1))=true then(Wi x.k r,x)
  else
   let y:=aQ (fun j (y:LI0×Cs)=>(y.1.set j (bY d F ((ay d r).aA.getD j 0) y.2).1,(bY d F ((ay d r).aA.getD j 0) y.2).2)) (ay d r).aA.length 0 (List.replicate (ay d r).aA.length 0,x)
   (eX y.2.n (ay d r).var y.1,⟨y.2.e,dI y.2.n (ay d r).var y.1,y.2.k++[(r,eX y.2.n (ay d r).var y.1)]⟩)
structure Eu(d:Dg)(x:Cs):Prop where
 e1:x.e.Nodup
 e2:∀v∈x.e,v∈d.aO
 n1:(x.n.map Dj).Nodup
 n2:x.n.length<=x.k.length
 k1:(x.k.map (·.1)).Nodup
 k2:∀a∈x.k.map (·.1),fZ a d.au.length
theorem Eu.KY{d x}(h:Eu d x):x.k.length<=d.au.length:=by have:=Ak _ _ h.k1 h.k2;simpa using this
theorem Eu.amj{d x}(h:Eu d x):x.e.length<=d.aO.length:=aen h.e1 h.e2
theorem YJ(nd c ks):(dI nd c ks).length<=nd.length+1:=by
 unfold dI;split
 .omega
 split
 .omega
 simp
theorem a2T{k r}(h:r∈k.map (·.1)):(r,Wi k r)∈k:=by
 rw[a1u]at h;obtain⟨p,hp,rfl⟩:=h;unfold Wi;cases e:k.find? fun q=>q.1==p.1 with
 |none=>have:=afj.1 e p hp;simp at this
 |some q=>
  have h1:=List.mem_of_find?_eq_some e;have h2:=List.find?_some e;simp at h2;rw[<-h2];exact h1
theorem a8B{d r}(h:fZ (i64.wrap (-1-r)) d.aO.length):oP d r∈d.aO:=by
 have h1:(i64.wrap (-1-r)).toNat<d.aO.length:=by have:=h.1;have:=h.2;omega
 unfold oP;simp[List.getD,a0A h1]
theorem Ji{d}(P:Cs->Prop){F r x}(h:P x)(hs:∀j y,j<(ay d r).aA.length->P y->P (bY d F ((ay d r).aA.getD j 0) y).2) :(aQ (fun j (y:LI0×Cs)=>(y.1.set j (bY d F ((ay d r).aA.getD j 0) y.2).1,(bY d F ((ay d r).aA.getD j 0) y.2).2)) (ay d r).aA.length 0 (List.replicate (ay d r).aA.length 0,x)).1.length=(ay d r).aA.length/\P (aQ (fun j (y:LI0×Cs)=>(y.1.set j (bY d F ((ay d r).aA.getD j 0) y.2).1,(bY d F ((ay d r).aA.getD j 0) y.2).2)) (ay d r).aA.length 0 (List.replicate (ay d r).aA.length 0,x)).2:=
 bP (g:=fun j (y:LI0×Cs)=>(y.1.set j (bY d F ((ay d r).aA.getD j 0) y.2).1,(bY d F ((ay d r).aA.getD j 0) y.2).2)) (m:=(ay d r).aA.length) (k:=0) (s:=(List.replicate (ay d r).aA.length 0,x)) (fun _ y=>y.1.length=(ay d r).aA.length/\P y.2) ⟨by simp,h⟩ (fun j y _ hj hy=>⟨by simp[hy.1],hs j y.2 (by omega) hy.2⟩)
theorem YK{d}:∀(F) (r s) (x),r<s->s∉x.k.map (·.1)->0<=s->(∀i,i<d.au.length->∀k,k<(fK d i).aA.length->(fK d i).aA.getD k 0<i)->(0<=r->fZ r d.au.length)->s∉(bY d F r x).2.k.map (·.1)
 | 0,_,_,_,_,h,_,_,_=>h
 |F+1,r,s,x,hr,h,h0,hk,hn=>by
  unfold bY;by_cases c:r<0
  .rw[a15 (by simpa using c)];exact h
  rw[a0S (by simpa using c)];split
  .exact h
  have hi:=hn (by omega);have EH:∀k,k<(ay d r).aA.length->(ay d r).aA.getD k 0<r:=fun k kN=>by obtain⟨i1,i2⟩:=hi;have h9:(ay d r).aA.getD k 0<(r.toNat:Int):=hk r.toNat (by omega) k kN;omega
  have:=(Ji (d:=d) (fun y=>s∉y.k.map (·.1)) (F:=F) (r:=r) h (fun j y hj hy=>YK F _ s y (by have:=EH j hj;omega) hy h0 hk fun h5=>⟨h5,by have:=hi.2;have:=EH j hj;omega⟩)).2;simp only[a4M,a3E,ade];exact⟨this,by simp;omega⟩
theorem QD{d}(h:CV d):∀(F) (r) (x),Eu d x->jQ d r d.au.length->Eu d (bY d F r x).2
 | 0,_,_,hx,_=>hx
 |F+1,r,x,hx,hr=>by
  unfold bY;by_cases c:r<0
  .rw[a15 (by simpa using c)];refine⟨Wh hx.e1,fun v hv=>?_,hx.n1,hx.n2,hx.k1,hx.k2⟩;have hv:v∈fJ x.e (oP d r):=hv;unfold fJ at hv;split at hv
   .exact hx.e2 v hv
   rcases a3E.1 hv with hv|hv
   .exact hx.e2 v hv
   rw[a2m.1 hv];exact a8B (hr.2 c)
  rw[a0S (by simpa using c)];split
  .exact hx
  rename_i c2;have aS:r.toNat<d.au.length:=by have:=hr.1;omega
  have Dc:∀k,k<(ay d r).aA.length->(ay d r).aA.getD k 0<r:=fun k kN=>by have h9:=(h.Aj r.toNat aS k kN).1;have h9:(ay d r).aA.getD k 0<(r.toNat:Int):=h9;omega
  have hb:=(Ji (d:=d) (fun y=>Eu d y/\r∉y.k.map (·.1)) (F:=F) (r:=r) ⟨hx,by simpa using c2⟩ (fun j y hj hy=>by have MV:jQ d ((ay d r).aA.getD j 0) d.au.length:=⟨by have:=Dc j hj;have:=hr.1;omega,(h.Aj r.toNat aS j hj).2⟩;refine⟨QD h F _ y hy.1 MV,YK F _ r y (Dc j hj) hy.2 (by omega) (fun i hi k hk=>(h.Aj i hi k hk).1) (fun h5=>⟨h5,by have:=MV.1;omega⟩)⟩)).2
  obtain⟨hb,yM⟩:=hb;refine⟨hb.e1,hb.e2,Si hb.n1,?_,?_,?_⟩
  .have:=YJ (aQ (fun j (y:LI0×Cs)=>(y.1.set j (bY d F ((ay d r).aA.getD j 0) y.2).1,(bY d F ((ay d r).aA.getD j 0) y.2).2)) (ay d r).aA.length 0 (List.replicate (ay d r).aA.length 0,x)).2.n (ay d r).var (aQ (fun j (y:LI0×Cs)=>(y.1.set j (bY d F ((ay d r).aA.getD j 0) y.2).1,(bY d F ((ay d r).aA.getD j 0) y.2).2)) (ay d r).aA.length 0 (List.replicate (ay d r).aA.length 0,x)).1;have:=hb.n2;simp only[a1v,a3J];omega
  .simp only[a4M,a4N,abI];exact y9 hb.k1 yM
  intro a ha;simp only[a4M,a3E,a4N,abI,a2m]at ha;rcases ha with ha|rfl
  .exact hb.k2 a ha
  exact⟨by omega,by omega⟩
open Go Tw Pv bQ
abbrev hCl(l:Lo)(x:Cs)(ks:LI0):List (PB aH):=HC' l x++[oI true true ks]
abbrev wCl(l:Lo)(r:Int)(i:Int)(y:LI0×Cs)(x:List (Nat×PE aH)):bJ aH:=⟨[(0,xi r),(1,.val (.ptr 8 0 1)),(3,.val (.ptr 10 0 1)),(4,.val (.ptr 11 0 1)),(9,.loc 0 0),(10,xo 14),(43,xL 3 (ay l.d r).aA),(44,xi (ay l.d r).aA.length),(45,xi i)]++x,[(ay l.d r).ps],hCl l y.2 y.1⟩
theorem lCl{M}(hO:Ok M Et){d F r}(hk:(ay d r).aA.length<=12)(Q:Cs->Prop){x}(hx:Q x)(hq:∀j y,j<(ay d r).aA.length->Q y->Q (bY d F ((ay d r).aA.getD j 0) y).2)(hs:∀j y,j<(ay d r).aA.length->Q y->cZ X0 Qp (iD M) (.fn 195 [] pC) [.int .i64 ((ay d r).aA.getD j 0)] (HC (zG d) y) (.int .i64 (bY d F ((ay d r).aA.getD j 0) y).1) (HC' (zG d) (bY d F ((ay d r).aA.getD j 0) y).2)) :JH M 195 0 12 (wCl (zG d) r 0 (List.replicate (ay d r).aA.length 0,x) []) (.exit 0) (wCl (zG d) r (ay d r).aA.length (aQ (fun j (y:LI0×Cs)=>(y.1.set j (bY d F ((ay d r).aA.getD j 0) y.2).1,(bY d F ((ay d r).aA.getD j 0) y.2).2)) (ay d r).aA.length 0 (List.replicate (ay d r).aA.length 0,x)) [(46,xl false)]):=by
 refine qY (σ:=LI0×Cs) (N:=(ay d r).aA.length) (g:=fun j (y:LI0×Cs)=>(y.1.set j (bY d F ((ay d r).aA.getD j 0) y.2).1,(bY d F ((ay d r).aA.getD j 0) y.2).2)) (s0:=(List.replicate (ay d r).aA.length 0,x)) (st:=fun k y=>wCl (zG d) r k y []) (fin:=fun y=>wCl (zG d) r (ay d r).aA.length y [(46,xl false)]) (fun _ y=>y.1.length=(ay d r).aA.length/\Q y.2) (by kernel_rfl) (Yw hk) ⟨by simp,hx⟩ (fun j y hj hy=>⟨by simp[hy.1],hq j y.2 hj hy.2⟩) (fun j y hj hy m e p g=>?_) (fun y _=>aI hO (.b (dZ (ay d r).aA.length) .ex));have h1:=hs j y.2 hj hy.2;have h2:fZ j y.1.length:=aF (by rw[hy.1];exact hj);generalize bY d F ((ay d r).aA.getD j 0) y.2=z at h1 g;obtain⟨v,z⟩:=z;exact aI hO (.b (aV hj) (.o (aF hj) (.fr [0,1,2,3,4,12,13,7,8,9,10,11] h1 (.o h2 (.Zx [.gc [15,16,14]] g)))))
theorem Fb(k):(Nr k).map (·.1)=k.map (·.1):=by unfold Nr;rw[a8G];rfl
theorem arN{n}(hO:Ok n Et)(k):jd n (.fn 197 [] []) [.int .i64 k] [] (iA.put (i64.wrap (-1-k))) []:=
 nU.a8k hX (hO 197 [.int .i64 k] (iA.put (i64.wrap (-1-k))) [] [] (by kernel_rfl) (fun q hq=>by cases hq)) rfl rfl rfl rfl
theorem sCl{N}(hO:∀m,N<=m->Ok m Et){d}(h:CV d)(he:d.aO.length+1<=ah)(hn:d.au.length+1<=ah)(h1k:∀i,i<d.au.length->1<=(fK d i).aA.length):∀(F:Nat) (r:Int) (x),r+1<F->Eu d x->jQ d r d.au.length->1<=F->cZ X0 Qp (iD (N+F+6)) (.fn 195 [] pC) [.int .i64 r] (HC (zG d) x) (.int .i64 (bY d F r x).1) (HC' (zG d) (bY d F r x).2)
 | 0,r,x,_,_,_,h1=>by omega
 |F+1,r,x,hF,hx,hr,_=>by
  rw[show N+(F+1)+6=N+F+6+1 by omega];have CW:=hO (N+F+6) (by omega);have Fe:=hO (N+F+5) (by omega);unfold bY;by_cases c:r<0
  .have t0:decide (r<0)=true:=(by simpa using c);rw[a15 t0];have hi:fZ (i64.wrap (-1-r)) d.aO.length:=hr.2 c;have hs:=arK Fe (a:=d.aj) (b:=d.aB) (E:=x.e) (nd:=x.n) (r:=0) (nm:=kK.es (zF x.n)) (oP d r) hx.e1 (by have:=hx.amj;omega);exact fH CW (first:=[]) (.b t0 (.fr [] (arN CW r) (.o hi (.fr [0,1,2,3,4,5,6] hs .er))))
  have t0:decide (r<0)=false:=by simpa using c
  rw[a0S (by rw[t0];simp)];have aS:r.toNat<d.au.length:=by have:=hr.1;omega
  by_cases c2:r∈x.k.map (·.1)
  .rw[a15 (by simpa using c2)];have hf:qN X0 Qp 3 (kI.es (Nr x.k)) (kI.tv r) (.int .i64 (Wi x.k r)):=kI.found (by rw[Fb];exact hx.k1) (a1u.2 ⟨(r,Wi x.k r),a2T c2,rfl⟩);generalize Wi x.k r=v at hf ⊢;exact cZ.gs hX (kH hX CW (first:=[]) (H1:=HC (zG d) x) (v:=.int .i64 v) (by kernel_rfl) (.b t0 (.c (.int .i64 v) [] hf (.b aiH .er)))) [.mv 5,.mv 6] rfl
  rw[a0S (by simpa using c2)];have Dc:∀k,k<(ay d r).aA.length->(ay d r).aA.getD k 0<r:=fun k kN=>by have h9:=(h.Aj r.toNat aS k kN).1;have h9:(ay d r).aA.getD k 0<(r.toNat:Int):=h9;omega
  have MV:∀j,j<(ay d r).aA.length->jQ d ((ay d r).aA.getD j 0) d.au.length:=fun j hj=>⟨by have:=Dc j hj;have:=hr.1;omega,(h.Aj r.toNat aS j hj).2⟩;have LV:(ay d r).aA.length<=12:=h.KY r.toNat aS;have hq:∀j y,j<(ay d r).aA.length->(Eu d y/\r∉y.k.map (·.1))->Eu d (bY d F ((ay d r).aA.getD j 0) y).2/\r∉(bY d F ((ay d r).aA.getD j 0) y).2.k.map (·.1):=fun j y hj hy=>
   ⟨QD h F _ y hy.1 (MV j hj),YK F _ r y (Dc j hj) hy.2 (by omega) (fun i hi k hk=>(h.Aj i hi k hk).1) (fun h5=>⟨h5,by have:=(MV j hj).1;omega⟩)⟩
  have hl:=lCl CW (d:=d) (F:=F) (r:=r) LV (fun y=>Eu d y/\r∉y.k.map (·.1)) (x:=x) ⟨hx,c2⟩ hq (fun j y hj hy=>sCl hO h he hn h1k F _ y (by have:=Dc j hj;omega) hy.1 (MV j hj) (by omega));obtain⟨g1,g2,g3⟩:=Ji (d:=d) (fun y=>Eu d y/\r∉y.k.map (·.1)) (F:=F) (r:=r) (x:=x) ⟨hx,c2⟩ hq;generalize aQ (fun j (y:LI0×Cs)=>(y.1.set j (bY d F ((ay d r).aA.getD j 0) y.2).1,(bY d F ((ay d r).aA.getD j 0) y.2).2)) (ay d r).aA.length 0 (List.replicate (ay d r).aA.length 0,x)=y at hl g1 g2 g3;obtain⟨ks,e,nd,kn⟩:=y;have g1:ks.length=(ay d r).aA.length:=g1;have FZ:1<=ks.length/\ks.length<=12:=by rw[g1];exact⟨h1k r.toNat aS,LV⟩
  have hN:nd.length+1<=ah:=by have:=g2.KY;have:=g2.n2;simp at *;omega
  have hs:=ami (n:=N+F) Fe (a:=d.aj) (b:=d.aB) (E:=e) (nd:=nd) (r:=0) (ay d r).var ks FZ g2.n1 hN;have f0:oG X0 Qp 3 (kI.es (Nr x.k)) (kI.tv r):=kI.fresh (by rw[Fb];exact c2);have f1:oG X0 Qp 3 (kI.es (Nr kn)) (kI.tv r):=kI.fresh (by rw[Fb];exact g3);have f2:=kI.ck r;show cZ X0 Qp _ _ _ _ (.int .i64 (eX nd (ay d r).var ks)) (HC' (zG d) ⟨e,dI nd (ay d r).var ks,kn++[(r,eX nd (ay d r).var ks)]⟩);generalize eX nd (ay d r).var ks=v at hs ⊢;generalize dI nd (ay d r).var ks=nd' at hs ⊢;have em:kI.es (Nr (kn++[(r,v)]))=kI.es (Nr kn)++[(kI.pv r,.int .i64 v)]:=by show List.map _ (List.map _ (kn++[(r,v)]))=_;rw[a4M,a4M];rfl
  have f3:qN X0 Qp 3 (kI.es (Nr kn)++[(kI.pv r,.int .i64 v)]) (kI.tv r) (.int .i64 v):=by rw[<-em];exact kI.found (by rw[Fb,a4M];exact y9 g2.k1 g3) (a1u.2 ⟨(r,v),by simp,rfl⟩)
  have hi:fZ r d.au.length:=⟨by omega,hr.1⟩;have hm:((ay d r).aA.length:Int)<=(ah:Int):=by have:=Yw LV;omega
  show cZ X0 Qp _ _ _ _ _ ([_,_,_,_,_,_,_]++[_,_,.map (kI.es (Nr (kn++[(r,v)]))),_,_]++[_,_]);rw[em];exact cZ.gs hX (kH hX CW (first:=[]) (v:=.int .i64 v) (H1:=[.list false false 3 d.aj,.list false false 3 d.aB,.map (kV.es (Am e)),.map (kK.es (zF nd')),mkC d.aj d.aB 15 16 0,.gone,.gone,.aG (zG d).ps,.aG [.ptr 4 0 9],.map (kI.es (Nr kn)++[(kI.pv r,.int .i64 v)]),.aG [.map 9],.aG [.fn 195 [] pC],.gone,.gone,.gone,Ap e,Aq nd']) (by kernel_rfl) (.b t0 (.q (.bool false) f0 (.b aiC (.o hi (.o (show((ay d r).aA.length:Int)=((ay d r).aA.length:Int)from rfl) (.o (show(0:Int)<=((ay d r).aA.length:Int) by omega) (.o hm (.wG [.mv 5,.mv 6,.gc [13,14,12]] hl (.fr [0,1,2,3,4,12,13,14] hs (.q (.bool false) f2 (.o f1 (.c (.int .i64 v) [] f3 .er))))))))))))) [.gc [15,16]] rfl
open Go Tw Pv bQ
abbrev QE(a b:List V)(k:Nat):Bool:=!(decide (a.getD k V0=b.getD k V0))
abbrev ah9(a b:List V)(i:Int)(x:List (Nat×PE aH)):bJ aH:=⟨[(0,xL 39 a),(1,xL 39 b),(12,xi a.length),(13,xi i)]++x,[],[]⟩
def z227(a b:List V):Unit⊕Nat->Ex×bJ aH
 |.inl _=>(.exit 0,ah9 a b a.length [(14,xl false)])
 |.inr _=>(.ret,⟨[(4,xl false)],[],[]⟩)
theorem amk{n gG}(hO:Ok n gG)(a b)(hl:a.length<=ah)(h:a.length=b.length):Lp n 227 0 (ah9 a b 0 []) (z227 a b (aZ (QE a b) a.length)).1 (z227 a b (aZ (QE a b) a.length)).2:=
 iI (st:=fun i _=>ah9 a b i []) (fun _ _=>True) (by kernel_rfl) hl trivial (fun k s m hk _ ih=>aI hO (.b (aV hk) (.o (aF hk) (.o (aF (h▸hk)) (.q (.bool (!(decide (a.getD k V0=b.getD k V0)))) (neV (.tmp 19) (.tmp 23) (a.getD k V0) (b.getD k V0)) (.ls (.ou nofun) (.nx (ih _ trivial)))))))) (fun s _=>aI hO (.b (dZ a.length) (.ou nofun)))
theorem abQ{a b:List V}(h:a.length=b.length):a=b↔∀j,j<a.length->a.getD j V0=b.getD j V0:=by
 constructor
 .rintro rfl j _;rfl
 intro h2;apply aac h;intro j h3 h4;have:=h2 j h3;simpa[List.getD,a0A h3,a0A h4]using this
theorem QF{a b}(h:a.length=b.length):jO (aZ (QE a b) a.length)=decide (a=b):=by rw[a5G,cO,a1z,abQ h];simp[QE]
theorem abR{α:Type}[DecidableEq α]{a b:List α}(h:((a.length:Int) != (b.length:Int))=true):decide (a=b)=false:=by rw[a3k];rintro rfl;simp at h
def aey:gU aH:=bU 227 (a2 vsA vsA) tA (fun p=>decide (p.1=p.2)) (fun p=>[p.1.length<=ah]) Et
theorem aml:Gd aey:=aes.add fun n hO p hp=>aN hO (.s (fun h=>.v false (abR h).symm) fun h=>.z (c:=jO (aZ (QE p.1 p.2) p.1.length)) (fun h2=>.w (kW (amk hO p.1 p.2 (hp _ gQ) (jW h)) () h2) (.v true (by rw[<-QF (jW h),h2]))) fun h2=>.w (kX (amk hO p.1 p.2 (hp _ gQ) (jW h)) 0 h2) (.v false (by rw[<-QF (jW h),h2])))
def Wj(x y:Br):Bool:=if(x.var==y.var)=true then decide (x.aA=y.aA)else false
def a8C:gU aH:=bU 226 (a2 brA brA) tA (fun p=>Wj p.1 p.2) (fun p=>[p.1.aA.length<=ah]) aey
theorem amm:Gd a8C:=aml.add fun n hO p hp=>aN hO (.ss (.o (hp _ gQ) .rr) .rr)
abbrev wEB(a b:List Br)(i:Int)(x:List (Nat×PE aH)):bJ aH:=⟨[(1,xL 105 b),(2,.val (.fn 226 [] [])),(15,xL 105 a),(16,xi a.length),(17,xi i)]++x,[],[]⟩
abbrev cEB(a b:List Br)(k:Nat):Bool:=!(Wj (a.getD k kP) (b.getD k kP))
def zEB(a b:List Br):Unit⊕Nat->Ex×bJ aH
 |.inl _=>(.exit 0,wEB a b a.length [(18,xl false)])
 |.inr k=>(.ret,⟨[(6,xl false)],[(a.getD k kP).ps,(b.getD k kP).ps],[]⟩)
theorem lEB{n}(hO:Ok n a8C)(a b)(hl:a.length<=ah)(h:a.length=b.length)(hk:∀k,k<a.length->(a.getD k kP).aA.length<=ah):Lp n 228 0 (wEB a b 0 []) (zEB a b (aZ (cEB a b) a.length)).1 (zEB a b (aZ (cEB a b) a.length)).2:=
 iI (st:=fun i _=>wEB a b i []) (fun _ _=>True) (by kernel_rfl) hl trivial (fun k s m kN _ ih=>aI hO (.b (aV kN) (.o (aF kN) (.o (aF (h▸kN)) (.o (hk k kN) (.ls (.ou nofun) (.nx (ih _ trivial)))))))) (fun s _=>aI hO (.b (dZ a.length) (.ou nofun)))
def Jj(a b:List Br):Bool:=if((a.length:Int) != (b.length:Int))=true then false else if jO (aZ (cEB a b) a.length)=true then true else false
def aez:gU aH:=bU 228 (a3 abp abp (fnA 226)) tA (fun p=>Jj p.1 p.2.1) (fun p=>[p.1.length<=ah,∀k,k<p.1.length->(p.1.getD k kP).aA.length<=ah]) a8C
theorem amn:Gd aez:=amm.add fun n hO p hp=>aN hO (.sh (fun _=>.rr) fun h=>.zh (fun h2=>.w (kW (lEB hO p.1 p.2.1 (hp _ gQ) (jW h) (hp (∀k,k<p.1.length->(p.1.getD k kP).aA.length<=ah) (.tail _ (.head _)))) () h2) .rr) fun h2=>.w (kX (lEB hO p.1 p.2.1 (hp _ gQ) (jW h) (hp (∀k,k<p.1.length->(p.1.getD k kP).aA.length<=ah) (.tail _ (.head _)))) 0 h2) .rr)
def Jk(a b:Dg):Bool:=if decide (a.aj=b.aj)=true then(if decide (a.aB=b.aB)=true then(if decide (a.aO=b.aO)=true then(if Jj a.au b.au=true then a.root==b.root else false)else false)else false)else false
def aeA:gU aH:=bU 203 (a2 dA dA) tA (fun p=>Jk p.1 p.2) (fun p=>[p.1.aj.length<=ah,p.1.aB.length<=ah,p.1.aO.length<=ah,p.1.au.length<=ah,∀k,k<p.1.au.length->(p.1.au.getD k kP).aA.length<=ah]) aez
theorem amo:Gd aeA:=amn.add fun n hO p hp=>aN hO (.o (hp _ gQ) (.ss (.o (hp _ vX) (.ss (.o (hp _ hh2) (.ss (.o (hp _ (.tail _ (.tail _ (.tail _ (.head _))))) (.o (hp (∀k,k<p.1.au.length->(p.1.au.getD k kP).aA.length<=ah) (.tail _ (.tail _ (.tail _ (.tail _ (.head _)))))) (.ss .rr .rr))) .rr)) .rr)) .rr))
theorem YL{x y}:Wj x y=true↔x=y:=by obtain⟨a,b⟩:=x;obtain⟨c,e⟩:=y;unfold Wj;simp only[Br.mk.injEq];by_cases h:a=c<;>simp[h]
theorem a4U{a b}:Jj a b=true↔a=b:=by
 unfold Jj;by_cases h:a.length=b.length
 .rw[a0S (by simp;omega)];have e:jO (aZ (cEB a b) a.length)=true↔a=b:=by
   rw[cO];constructor
   .intro h1;apply aac h;intro j h3 h4;have:=h1 j h3;simp only[cEB,aaX]at this;have:=YL.1 this;simpa[List.getD,a0A h3,a0A h4]using this
   rintro rfl j _;simp only[cEB,aaX];exact YL.2 rfl
  rw[<-e];cases jO (aZ (cEB a b) a.length)<;>simp
 rw[a15 (by simp;omega)];constructor
 .intro h1;cases h1
 rintro rfl;exact absurd rfl h
theorem a2U{a b}:Jk a b=true↔a=b:=by
 obtain⟨a1,a2,a3,a4,a5⟩:=a;obtain⟨b1,b2,b3,b4,b5⟩:=b;unfold Jk;simp only[Dg.mk.injEq];by_cases h1:a1=b1
 .by_cases h2:a2=b2
  .by_cases h3:a3=b3
   .have h4:=a4U (a:=a4) (b:=b4);cases e:Jj a4 b4
    .rw[e]at h4;simp[h1,h2,h3];intro h5;exact absurd h5 (by simpa using h4)
    rw[e]at h4;simp at h4;simp[h1,h2,h3,h4]
   simp[h3]
  simp[h2]
 simp[h1]
open Go Tw Pv bQ
def yw(s:LI0×LI0)(x:Int):Int:=if x<0 then i64.wrap (-1-(s.2.idxOf (jo x):Nat))else(s.1.idxOf x:Nat)
def X8(s:LI0×LI0)(x:Int):Prop:=(x<0->jo x∈s.2)/\(0<=x->x∈s.1)
def KS(d:Dg)(s:LI0×LI0):Cs:=⟨s.2.map fun e=>d.aO.getD e.toNat V0,s.1.map fun o=>⟨(ay d o).var,(ay d o).aA.map (yw s)⟩,s.1.map fun o=>(o,yw s o)⟩
def L8(d:Dg)(s:LI0×LI0):Prop:=∀o∈s.1,∀k∈(ay d o).aA,X8 s k
theorem Wn{s x}(l)(h:X8 s x):yw (s.1,s.2++l) x=yw s x:=by
 unfold yw;split
 .rename_i c;rw[aap,a15 (h.1 c)]
 rfl
theorem Jl{s x}(l)(h:X8 s x):yw (s.1++l,s.2) x=yw s x:=by
 unfold yw;split
 .rfl
 rename_i c;rw[aap,a15 (h.2 (by omega))]
theorem ahb{d s}(hk:L8 d s)(hn:∀o∈s.1,0<=o)(e):KS d (s.1,s.2++[e])=⟨(KS d s).e++[d.aO.getD e.toNat V0],(KS d s).n,(KS d s).k⟩:=by
 unfold KS;simp only[a4M,a4N,abI,Cs.mk.injEq,true_and];constructor
 .apply a5J;intro o ho;congr 1;apply a5J;intro k kN;exact Wn [e] (hk o ho k kN)
 apply a5J;intro o ho;rw[Wn [e] ⟨fun c=>absurd (hn o ho) (by omega),fun _=>ho⟩]
theorem abS{d s}(hk:L8 d s)(hn:∀o∈s.1,0<=o){r}(h0:0<=r)(hr:r∉s.1)(MV:∀k∈(ay d r).aA,X8 s k):KS d (s.1++[r],s.2)=⟨(KS d s).e,(KS d s).n++[⟨(ay d r).var,(ay d r).aA.map (yw s)⟩],(KS d s).k++[(r,(s.1.length:Int))]⟩:=by
 unfold KS;simp only[a4M,a4N,abI,Cs.mk.injEq,true_and];refine⟨?_,?_⟩
 .congr 1
  .apply a5J;intro o ho;congr 1;exact a5J fun k kN=>Jl [r] (hk o ho k kN)
  congr 2;exact a5J fun k kN=>Jl [r] (MV k kN)
 congr 1
 .apply a5J;intro o ho;rw[Jl [r] ⟨fun c=>absurd (hn o ho) (by omega),fun _=>ho⟩]
 congr 2;unfold yw;rw[a0S (by omega)];simp[aap,hr]
theorem amq{a b:Nat}(ha:a<=2^61)(hb:b<=2^61)(h:i64.wrap (-1-(a:Int))=i64.wrap (-1-(b:Int))):a=b:=by rw[eU (by omega) (by omega),eU (by omega) (by omega)]at h;omega
theorem a2V{l:LI0}{a b}(ha:a∈l)(hb:b∈l)(h:l.idxOf a=l.idxOf b):a=b:=by have h1:=a9B (a5H.2 ha);have h2:=a9B (a5H.2 hb);rw[<-h1,<-h2];congr 1
theorem a8D{x y}(hx:Hg x)(hy:Hg y)(cx:x<0)(cy:y<0)(h:jo x=jo y):x=y:=by unfold jo at h;rw[Oa hx cx,Oa hy cy]at h;omega
theorem a2W{s}(hs:s.2.length<=2^61){x y}(hx:X8 s x)(hy:X8 s y)(wx:Hg x)(wy:Hg y)(h:yw s x=yw s y):x=y:=by
 have lt:∀z,z∈s.2->s.2.idxOf z<=2^61:=fun z hz=>a5O (aa9 (a5H.2 hz)) hs;unfold yw at h;by_cases cx:x<0
 .rw[a15 cx]at h;by_cases cy:y<0
  .rw[a15 cy]at h;exact a8D wx wy cx cy (a2V (hx.1 cx) (hy.1 cy) (amq (lt _ (hx.1 cx)) (lt _ (hy.1 cy)) h))
  rw[a0S cy]at h;have:=lt _ (hx.1 cx);rw[eU (by omega) (by omega)]at h;omega
 rw[a0S cx]at h;by_cases cy:y<0
 .rw[a15 cy]at h;have:=lt _ (hy.1 cy);rw[eU (by omega) (by omega)]at h;omega
 rw[a0S cy]at h;exact a2V (hx.2 (by omega)) (hy.2 (by omega)) (by omega)
open Go Tw Pv bQ
def Ext(s t:LI0×LI0):Prop:=∃a b,t=(s.1++a,s.2++b)
theorem Ext.refl(s):Ext s s:=⟨[],[],by simp⟩
theorem Ext.trans{s t u}(h:Ext s t)(h2:Ext t u):Ext s u:=by obtain⟨a,b,rfl⟩:=h;obtain⟨c,e,rfl⟩:=h2;exact⟨a++c,b++e,by simp⟩
theorem X8.ext{s t x}(h:X8 s x)(he:Ext s t):X8 t x:=by obtain⟨a,b,rfl⟩:=he;exact⟨fun c=>a5Z _ (h.1 c),fun c=>a5Z _ (h.2 c)⟩
theorem abT{s t x}(h:X8 s x)(he:Ext s t):yw t x=yw s x:=by have hc:=h;obtain⟨a,b,rfl⟩:=he;have h2:X8 (s.1,s.2++b) x:=⟨fun c=>a5Z _ (h.1 c),h.2⟩;rw[<-Wn b h,<-Jl a h2]
theorem Ur{α β g1 g2}(R:Nat->α->β->Prop):∀(m k) (a) (b),R k a b->(∀j a b,k<=j->j<k+m->R j a b->R (j+1) (g1 j a) (g2 j b))->R (k+m) (aQ g1 m k a) (aQ g2 m k b)
 | 0,_,_,_,h,_=>h
 |m+1,k,a,b,h,hs=>by have:=Ur R m (k+1) (g1 k a) (g2 k b) (hs k a b (a1j _) (by omega) h) (fun j a b h1 h2=>hs j a b (by omega) (by omega));rw[show k+(m+1)=k+1+m by omega];exact this
theorem a2X{α β:Type}[BEq α][LawfulBEq α][BEq β][LawfulBEq β]{f:α->β}{a}:∀{l:List α},(∀b∈l,f b=f a->b=a)->(l.map f).idxOf (f a)=l.idxOf a
 | [],_=>rfl
 |c::l,h=>by
  rw[a4N,aef,aef,a2X fun b hb=>h b (a3A _ hb)];by_cases hc:c=a
  .subst hc;simp
  have:¬(f c=f a):=fun e=>hc (h c (.head _) e);rw[show(c==a)=false by simpa using hc,show(f c==f a)=false by simpa using this]
structure DgD(d:Dg):Prop where
 aO:d.aO.Nodup
 au:∀i j,i<d.au.length->j<d.au.length->(fK d i).var=(fK d j).var->(fK d i).aA=(fK d j).aA->i=j
 flat:∀i,i<d.au.length->((fK d i).aA.all fun x=>x==(fK d i).aA.getD 0 0)=false
theorem YM{d:Dg}(h:d.aO.Nodup){a b}(ha:fZ a d.aO.length)(hb:fZ b d.aO.length)(e:d.aO.getD a.toNat V0=d.aO.getD b.toNat V0):a=b:=by
 have h1:a.toNat<d.aO.length:=by have:=ha.1;have:=ha.2;omega
 have h2:b.toNat<d.aO.length:=by have:=hb.1;have:=hb.2;omega
 simp only[List.getD,a0A h1,a0A h2,a5K]at e;have:=(aaL h).1 e;have:=ha.1;have:=hb.1;omega
theorem ahc{d}(hd:DgD d){s}(hs:KZ d s){r}(hr:fZ (jo r) d.aO.length):(KS d s).e.idxOf (oP d r)=s.2.idxOf (jo r)/\(oP d r∈(KS d s).e↔jo r∈s.2):=by
 have hi:∀b∈s.2,(fun e:Int=>d.aO.getD e.toNat V0) b=(fun e:Int=>d.aO.getD e.toNat V0) (jo r)->b=jo r:=fun b hb e=>YM hd.aO (hs.e2 b hb) hr e;refine⟨a2X (f:=fun e:Int=>d.aO.getD e.toNat V0) (a:=jo r) hi,?_⟩;constructor
 .intro h;obtain⟨b,hb,e⟩:=a1u.1 h;rw[<-hi b hb e];exact hb
 intro h;exact a1u.2 ⟨jo r,h,rfl⟩
theorem ahd{d s r}(h:r∈s.1):Wi (KS d s).k r=yw s r:=by
 have h1:r∈(KS d s).k.map (·.1):=by unfold KS;rw[a8G];exact a1u.2 ⟨r,h,rfl⟩
 have h2:=a2T h1;obtain⟨o,_,e⟩:=a1u.1 h2;have e1:o=r:=congrArg Prod.fst e;have e2:yw s o=Wi (KS d s).k r:=congrArg Prod.snd e;rw[<-e2,e1]
theorem abU{a b}(h:a.length=b.length)(ha:a.length<=12)(e:Jh a=Jh b):a=b:=by unfold Jh at e;have:=congrArg (List.take a.length) e;rw[afk,afk,a8b ha,List.take_append_of_le_length (a1j _),List.take_append_of_le_length (by omega),abE,h,abE]at this;exact this
theorem map_inj{α β:Type}{f:α->β}:∀{a b:List α},(∀x∈a,∀y∈b,f x=f y->x=y)->a.map f=b.map f->a=b
 | [],[],_,_=>rfl
 | [],_::_,_,h=>by simp at h
 |_::_,[],_,h=>by simp at h
 |x::a,y::b,hi,h=>by simp only[a4N,afb]at h;rw[hi x (.head _) y (.head _) h.1,map_inj (fun u hu v hv=>hi u (a3A _ hu) v (a3A _ hv)) h.2]
end Go.Proofs.YtmobpoiejckagaaGreat
