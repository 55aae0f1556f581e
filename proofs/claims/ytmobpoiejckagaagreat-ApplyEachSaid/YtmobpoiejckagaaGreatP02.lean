/- Part 3 of a proof: What Op2 makes has, at any place, the cell that value.Op2 returns of the cells there; for two diagrams that fit, and an operation. -/
import Derived.Test.YtmobpoiejckagaaGreatP01
set_option linter.constructorNameAsVariable false
set_option linter.unusedVariables false
set_option linter.unusedSimpArgs false
set_option linter.unusedSectionVars false
noncomputable section
namespace Pv
open Go Tw
section
variable {X:kQ} {P:Program} {A:Nat->Prop} {m m':List MB} {h h':List HB} {H H':List (PB X.Γ)}
theorem HR.next(hr:HR X P A m H h)(hF:Fr m h m' h')(hU:Up m m')(hl:m'.length=H'.length)(hn:(bn m').Nodup)
  (JW:∀(i:Nat) b,H'[i]? = some b->(∃mb,H[i]? = some b∧m[i]? = some mb∧m'[i]? = some mb∧∀c,mb.own=some c->h'[c]? = h[c]?)∨∃mb,m'[i]? = some mb∧BR X P (AA A m') m' h' b mb):HR X P A m' H' h':=by
 refine⟨hl,fun i b hb=>?_,hn,fun b hb=>hr.up b (by have:=hF.len;omega),fun b hb=>?_⟩
 .rcases JW i b hb with⟨mb,h1,h2,h3,h4⟩|h1
  .obtain⟨LZ,g1,g2⟩:=hr.at_ i b h1;rw[h2]at g1;cases g1;exact⟨mb,h3,g2.step hF hU h4⟩
  .exact h1
 .rcases hF.new b hb with h1|h1
  .exact hr.CW b h1
  .exact hr.up b h1
theorem BR.has{B:Nat->Prop}{b:PB X.Γ}{mb:MB}{c:Nat}(hb:BR X P B m h b mb)(ho:mb.own=some c):c<h.length:=by
 have key:∀{y},h[c]? = some y->c<h.length:=fun e=>(a0c.1 e).1;cases b with
 |cells cs=>
  cases mb with
  |fU b=>cases ho;obtain⟨_,h1,_⟩:=hb;exact key h1
  |_=>exact hb.elim
 |aC cs=>
  cases mb with
  |jl b=>cases ho
  |_=>exact hb.elim
 |list k ex t l=>
  cases mb with
  |dB x=>
   cases(hb:LR X P B m h k ex t l x)with
   |nil=>cases ho
   |emp=>simp[MB.own]at ho
   |some h1 _ _ h4=>
    simp only[MB.own]at ho;split at ho
    .cases ho
    cases ho;exact key h4
  |_=>exact hb.elim
 |map es=>
  cases mb with
  |fU b=>cases ho;obtain⟨_,h1,_⟩:=hb;exact key h1
  |_=>exact hb.elim
 |ng cs=>
  cases mb with
  |fU b=>cases ho;obtain⟨_,h1,_⟩:=hb;exact key h1
  |_=>exact hb.elim
 |iE es=>
  cases mb with
  |jl b=>cases ho
  |_=>exact hb.elim
 |cZ r n seen=>
  cases mb with
  |fU b=>cases ho;obtain⟨_,h1,_⟩:=hb;exact key h1
  |_=>exact hb.elim
 |mark=>
  cases mb with
  |fU b=>cases ho;exact key hb
  |_=>exact hb.elim
 |loop=>
  cases mb with
  |fU b=>cases ho;obtain⟨_,h1,_⟩:=hb;exact key h1
  |_=>exact hb.elim
 |gone=>
  cases mb with
  |gone=>cases ho
  |_=>exact hb.elim
theorem HR.inb(hr:HR X P A m H h){c:Nat}(hc:c∈bn m):c<h.length:=by
 obtain⟨mb,hm,ho⟩:=a6m.1 hc;obtain⟨i,hi⟩:=a8K hm;have:i<H.length:=by rw[<-hr.len];exact(a0c.1 hi).1
 obtain⟨LZ,h1,h2⟩:=hr.at_ i H[i] (a0f this);rw[hi]at h1;cases h1;exact h2.has ho
theorem iZ(a b:List MB):bn (a++b)=bn a++bn b:=List.filterMap_append ..
theorem kE(mb:MB):bn [mb]=mb.own.toList:=by unfold bn;simp[a8V];cases mb.own<;>rfl
theorem wQ(ms:List MB):Up m (m++ms):=fun i mb hi=>.inl (by rw[a0j (a0c.1 hi).1];exact hi)
theorem HR.push(hr:HR X P A m H h){pb:PB X.Γ}{hb:HB}{mb:MB}(ho:mb.own=some h.length∨mb.own=none)(qK:BR X P (AA A (m++[mb])) (m++[mb]) (h++[hb]) pb mb) :
  HR X P A (m++[mb]) (H++[pb]) (h++[hb])∧Fr m h (m++[mb]) (h++[hb])∧Up m (m++[mb]):=by
 have hF:Fr m h (m++[mb]) (h++[hb]):=by
  refine⟨by simp,fun b hb _=>by rw[a0j hb],fun b hb=>?_,fun b cs hc=>⟨cs,?_,a1b _⟩⟩
  .rw[iZ,a3k,kE]at hb;rcases hb with hb|hb
   .exact .inl hb
   .rcases ho with ho|ho<;>rw[ho]at hb<;>simp at hb
    exact .inr (by omega)
  .rw[fK (a0j (gU hc)),hc]
 refine⟨hr.next hF (wQ _) (by simp[hr.len]) ?_ fun i b hi=>?_,hF,wQ _⟩
 .rw[iZ,kE];refine a8P.2 ⟨hr.nodup,?_,?_⟩
  .cases mb.own<;>simp
  .intro a ha b hb e;subst e;have:=hr.inb ha;rcases ho with ho|ho<;>rw[ho]at hb<;>simp at hb
   omega
 .rcases a4l i H.length with aQ|EI
  .left;rw[a0j aQ]at hi;obtain⟨LZ,h1,h2⟩:=hr.at_ i b hi;refine⟨LZ,hi,h1,by rw[a0j (by rw[hr.len];exact aQ)];exact h1,fun c hc=>?_⟩;rw[a0j (h2.has hc)]
  .right;rw[a1c EI]at hi;have:i-H.length=0:=by
    rcases abC (i-H.length)with h|h
    .exact h
    .rw[a4h (by simp;omega)]at hi;cases hi
   rw[this]at hi;simp only[a2V,a05]at hi;subst hi;exact⟨mb,by rw[a1c (by rw[hr.len];exact EI),hr.len,this];rfl,qK⟩
theorem HR.abR(hr:HR X P A m H h){pb:PB X.Γ}{mb:MB}(ho:mb.own=none)(qK:BR X P (AA A (m++[mb])) (m++[mb]) h pb mb) :
  HR X P A (m++[mb]) (H++[pb]) h∧Fr m h (m++[mb]) h∧Up m (m++[mb]):=by
 have yQ:bn (m++[mb])=bn m:=by rw[iZ,kE,ho];simp
 have hF:Fr m h (m++[mb]) h:=⟨a1b _,fun _ _ _=>rfl,fun b hb=>.inl (yQ▸hb),fun b cs hc=>⟨cs,hc,a1b _⟩⟩;refine⟨hr.next hF (wQ _) (by simp[hr.len]) (by rw[yQ];exact hr.nodup) fun i b hi=>?_,hF,wQ _⟩;rcases a4l i H.length with aQ|EI
 .left;rw[a0j aQ]at hi;obtain⟨LZ,h1,h2⟩:=hr.at_ i b hi;exact⟨LZ,hi,h1,by rw[a0j (by rw[hr.len];exact aQ)];exact h1,fun c hc=>rfl⟩
 .right;rw[a1c EI]at hi;have:i-H.length=0:=by
   rcases abC (i-H.length)with h|h
   .exact h
   .rw[a4h (by simp;omega)]at hi;cases hi
  rw[this]at hi;simp only[a2V,a05]at hi;subst hi;exact⟨mb,by rw[a1c (by rw[hr.len];exact EI),hr.len,this];rfl,qK⟩
theorem HR.set(hr:HR X P A m H h){i c:Nat}{mb:MB}{pb:PB X.Γ}{hb:HB}(hi:m[i]? = some mb)(ho:mb.own=some c)(hg:∀cs,aV h c=some cs->∃cs',aV (h.set c hb) c=some cs'∧cs.length<=cs'.length)
  (qK:Fr m h m (h.set c hb)->BR X P (AA A m) m (h.set c hb) pb mb):HR X P A m (H.set i pb) (h.set c hb)∧Fr m h m (h.set c hb):=by
 have hF:Fr m h m (h.set c hb):=by
  refine⟨by simp,fun b hb hn=>?_,fun b hb=>.inl hb,fun b cs hc=>?_⟩
  .rw[a1q];intro e;subst e;exact hn (aZ hi ho)
  .by_cases e:c=b
   .subst e;exact hg cs hc
   .exact⟨cs,by rw[fK (a1q e),hc],a1b _⟩
 refine⟨hr.next hF .refl (by simp[hr.len]) hr.nodup fun j b hj=>?_,hF⟩;by_cases e:i=j
 .subst e;rw[a4o ]at hj;right;have:H[i]?.isSome:=by
   have:i<H.length:=by rw[<-hr.len];exact(a0c.1 hi).1
   simp[this]
  obtain⟨y,hy⟩:=a5y.1 this;rw[hy]at hj;cases hj;exact⟨mb,hi,qK hF⟩
 .rw[a1q e]at hj;left;obtain⟨LZ,h1,h2⟩:=hr.at_ j b hj;refine⟨LZ,hj,h1,h1,fun d hd=>a1q fun e2=>?_⟩;subst e2;exact e (iU hr.nodup hi h1 ho hd)
theorem EW{i:Nat}:∀{m:List MB} {b:Nat},b∈bn (m.set i .gone)->b∈bn m:=by
 intro m b hb;obtain⟨mb,hm,ho⟩:=a6m.1 hb;obtain⟨j,hj⟩:=a8K hm;by_cases e:i=j
 .subst e;rw[a4o]at hj;cases hx:m[i]? with
  |none=>rw[hx]at hj;cases hj
  |some y=>rw[hx]at hj;cases hj;cases ho
 rw[a1q e]at hj;exact aZ hj ho
theorem Oi{i:Nat}:∀{m:List MB},(bn m).Nodup->(bn (m.set i .gone)).Nodup:=by
 unfold bn;intro m
 induction m generalizing i with
 |nil=>intro h;simp
 |cons x r ih=>
  intro hn;cases i with
  |zero=>
   simp only[List.set_cons_zero,a8V,MB.own];simp only[a8V]at hn;split at hn
   .exact hn
   exact(a4r.1 hn).2
  |succ i=>
   simp only[List.set_cons_succ,a8V];simp only[a8V]at hn;split at hn
   .exact ih hn
   refine a4r.2 ⟨fun hb=>(a4r.1 hn).1 ?_,ih (a4r.1 hn).2⟩;exact EW (m:=r) hb
theorem a0Z{i:Nat}:Fr m h (m.set i .gone) h:=⟨a1b _,fun _ _ _=>rfl,fun _ hb=>.inl (EW hb),fun _ cs hc=>⟨cs,hc,a1b _⟩⟩
theorem a13{i:Nat}:Up m (m.set i .gone):=fun j mb hj=>by
 by_cases e:i=j
 .subst e;right;rw[a4o,hj];rfl
 .left;rw[a1q e];exact hj
theorem HR.gone(hr:HR X P A m H h)(i:Nat):HR X P A (m.set i .gone) (H.set i .gone) h:=by
 refine hr.next a0Z a13 (by simp[hr.len]) (Oi hr.nodup) fun j b hj=>?_;by_cases e:i=j
 .subst e;right;rw[a4o]at hj;cases hx:H[i]? with
  |none=>rw[hx]at hj;cases hj
  |some y=>
   rw[hx]at hj;cases hj;obtain⟨mb,h1,_⟩:=hr.at_ i y hx;exact⟨.gone,by rw[a4o,h1];rfl,trivial⟩
 rw[a1q e]at hj;left;obtain⟨mb,h1,_⟩:=hr.at_ j b hj;exact⟨mb,hj,h1,by rw[a1q e];exact h1,fun _ _=>rfl⟩
def bT:List Nat->List MB->List MB
 | [],m=>m
 |i::is,m=>bT is (m.set i .gone)
theorem iq:∀(is:List Nat) (m:List MB),Fr m h (bT is m) h∧Up m (bT is m)
 | [],m=>⟨.refl,.refl⟩
 |i::is,m=>⟨a0Z.trans (iq is _).1,a13.trans (iq is _).2⟩
theorem HR.aX:∀(is:List Nat) {m:List MB} {H:List (PB X.Γ)},HR X P A m H h->HR X P A (bT is m) (aX is H) h
 | [],_,_,hr=>hr
 |i::is,_,_,hr=>HR.aX is (hr.gone i)
theorem nR:∀(is:List Nat) (H:List (PB X.Γ)),(Pv.aX is H).length=H.length
 | [],_=>rfl
 |i::is,H=>by rw[Pv.aX,nR is];simp[WA]
theorem mP:∀(is:List Nat) (m:List MB),(bT is m).length=m.length
 | [],_=>rfl
 |i::is,m=>by rw[bT,mP is];simp
theorem GY:∀(is:List Nat) {m:List MB} {i:Nat} {mb:MB},m[i]? = some mb->(bT is m)[i]? = some (if is.contains i then .gone else mb)
 | [],_,_,_,h=>by simpa[bT]using h
 |j::is,m,i,mb,h=>by
  rw[bT];by_cases e:j=i
  .subst e;have:(m.set j .gone)[j]? = some .gone:=by rw[a4o,h];rfl
   rw[GY is this];simp
  rw[GY is (by rw[a1q e];exact h)];have:(i==j)=false:=by simp;omega
  simp only[agS,this,agA]
end
section
variable {X:kQ} {P:Program} {A:Nat->Prop} {m m':List MB} {h h':List HB} {H H':List (PB X.Γ)}
theorem bU.nil:bU X P A m h [] []:=⟨rfl,fun i x y hx=>by simp at hx⟩
theorem bU.cons{v:PV X.Γ}{x:TV}{vs:List (PV X.Γ)}{xs:List TV}(h1:VR X P A m h v x)(h2:bU X P A m h vs xs):bU X P A m h (v::vs) (x::xs):=by
 refine⟨by simp[h2.1],fun i a b ha hb=>?_⟩;cases i with
 |zero=>simp only[a2V,a05]at ha hb;subst ha;subst hb;exact h1
 |succ i=>exact h2.2 i a b (by simpa using ha) (by simpa using hb)
theorem bU.inv{v:PV X.Γ}{vs:List (PV X.Γ)}{xs:List TV}(hv:bU X P A m h (v::vs) xs):∃x r,xs=x::r∧VR X P A m h v x∧bU X P A m h vs r:=by
 cases xs with
 |nil=>have:=hv.1;simp at this
 |cons x r=>exact⟨x,r,rfl,hv.2 0 v x rfl rfl,by have:=hv.1;simpa using this,fun i a b ha hb=>hv.2 (i+1) a b (by simpa using ha) (by simpa using hb)⟩
theorem bU.inv0{xs:List TV}(hv:bU X P A m h [] xs):xs=[]:=by have:=hv.1;cases xs<;>simp_all
theorem bU.app{a b:List (PV X.Γ)}{x y:List TV}(h1:bU X P A m h a x)(h2:bU X P A m h b y):bU X P A m h (a++b) (x++y):=by
 refine⟨by simp[h1.1,h2.1],fun i c d hc hd=>?_⟩;rcases a4l i a.length with hl|hl
 .rw[a0j hl]at hc;rw[a0j (by rw[<-h1.1];exact hl)]at hd;exact h1.2 i c d hc hd
 rw[a1c hl]at hc;rw[a1c (by rw[<-h1.1];exact hl),<-h1.1]at hd;exact h2.2 _ c d hc hd
theorem bU.drop{a:List (PV X.Γ)}{x:List TV}(h1:bU X P A m h a x)(n:Nat):bU X P A m h (a.drop n) (x.drop n):=
 ⟨by simp[h1.1],fun i c d hc hd=>h1.2 (n+i) c d (by rw[<-hc,a4m]) (by rw[<-hd,a4m])⟩
theorem bU.take{a:List (PV X.Γ)}{x:List TV}(h1:bU X P A m h a x)(n:Nat):bU X P A m h (a.take n) (x.take n):=by
 refine⟨by simp[h1.1],fun i c d hc hd=>?_⟩;rw[a4p]at hc hd;split at hc
 .rename_i hl;rw[a0p hl]at hd;exact h1.2 i c d hc hd
 cases hc
theorem bU.get{a:List (PV X.Γ)}{x:List TV}(h1:bU X P A m h a x){i:Nat}{c:PV X.Γ}(hc:a[i]? = some c):∃v,x[i]? = some v∧VR X P A m h c v:=by
 have hl:i<x.length:=by rw[<-h1.1];exact(a0c.1 hc).1
 exact⟨x[i],a0f hl,h1.2 i c _ hc (a0f hl)⟩
theorem RG{v:PV X.Γ}{x tv:TV}(hv:VR X P A m h v x)(hp:qW v=some tv):x=tv:=by
 cases hv with
 |gone hi _ _=>cases v<;>simp[bf]at hi<;>simp[qW]at hp
 |_=>first|(simp only[qW,a05]at hp;exact hp)|(simp[qW]at hp;done)
theorem FN:∀{vs:List (PV X.Γ)} {xs tvs:List TV},bU X P A m h vs xs->iI vs=some tvs->xs=tvs
 | [],xs,tvs,hv,hp=>by simp only[iI,a05]at hp;rw[hv.inv0,hp]
 |v::vs,xs,tvs,hv,hp=>by
  obtain⟨x,r,rfl,h1,h2⟩:=hv.inv;simp only[iI]at hp;split at hp
  .rename_i a b ha hb;cases hp;rw[RG h1 ha,FN h2 hb]
  cases hp
theorem jL{v:PV X.Γ}{x tv:TV}(hv:VR X P A m h v x)(hp:qg v=some tv):x=tv:=by
 cases v with
 |agg cs=>
  simp only[qg,a0e]at hp;obtain⟨tvs,h1,rfl⟩:=hp;cases hv with
  |agg h2 h3=>rw[FN ⟨h2,h3⟩ h1]
  |gone hi _ _=>simp[bf]at hi
 |_=>exact RG hv hp
theorem a14:∀{vs:List (PV X.Γ)} {xs tvs:List TV},bU X P A m h vs xs->Ud vs=some tvs->xs=tvs
 | [],xs,tvs,hv,hp=>by simp only[Ud,a05]at hp;rw[hv.inv0,hp]
 |v::vs,xs,tvs,hv,hp=>by
  obtain⟨x,r,rfl,h1,h2⟩:=hv.inv;simp only[Ud]at hp;split at hp
  .rename_i a b ha hb;cases hp;rw[jL h1 ha,a14 h2 hb]
  cases hp
theorem a5M{v:PV X.Γ}{x:TV}(hp:ofC x=some v):VR X P A m h v x:=by
 cases x<;>simp[ofC]at hp<;>subst hp<;>constructor
theorem Un:∀{xs:List TV} {vs:List (PV X.Γ)},BP xs=some vs->bU X P A m h vs xs
 | [],vs,hp=>by simp only[BP,a05]at hp;subst hp;exact .nil
 |x::xs,vs,hp=>by
  simp only[BP]at hp;split at hp
  .rename_i a b ha hb;cases hp;exact .cons (a5M ha) (Un hb)
  cases hp
theorem wR{v:PV X.Γ}{x:TV}(hp:Yv x=some v):VR X P A m h v x:=by
 cases x with
 |agg cs=>
  simp only[Yv,a0e]at hp;obtain⟨vs,h1,rfl⟩:=hp;have:=Un (X:=X) (P:=P) (A:=A) (m:=m) (h:=h) h1;exact .agg this.1 this.2
 |_=>exact a5M hp
theorem RH{v:PV X.Γ}{x:TV}(hp:qW v=some x):VR X P A m h v x:=by
 cases v<;>simp only[qW,a05,reduceCtorEq]at hp<;>subst hp
 .exact .bool _
 .exact .int _ _
 .exact .str _
 exact .nil _
theorem FP:∀{vs:List (PV X.Γ)} {xs:List TV},iI vs=some xs->bU X P A m h vs xs
 | [],xs,hp=>by simp only[iI,a05]at hp;subst hp;exact .nil
 |v::vs,xs,hp=>by
  simp only[iI]at hp;split at hp
  .rename_i a b ha hb;cases hp;exact .cons (RH ha) (FP hb)
  cases hp
theorem nS{v:PV X.Γ}{x:TV}(hp:qg v=some x):VR X P A m h v x:=by
 cases v with
 |agg cs=>
  simp only[qg,a0e]at hp;obtain⟨vs,h1,rfl⟩:=hp;have:=FP (X:=X) (P:=P) (A:=A) (m:=m) (h:=h) h1;exact .agg this.1 this.2
 |_=>exact RH hp
theorem GZ{v:PV X.Γ}{x:TV}(hv:VR X P A m h v x):VR X P A m h (a0T v) x:=by
 cases v with
 |lit b=>
  cases hv with
  |lit=>exact .bool _
  |gone hi _ _=>simp[bf]at hi
 |_=>exact hv
theorem a5N{v:PV X.Γ}{x:TV}(hv:VR X P A m h v x):iR x=Zd v:=by
 cases hv with
 |own _ o=>exact o
 |gone hi _ o=>rw[o];cases v<;>simp[bf]at hi<;>rfl
 |_=>rfl
theorem H6{v:PV X.Γ}{x:TV}(hv:VR X P A m h v x):bU X P A m h v.cells x.cells:=by
 have hq:=a5N hv;cases v with
 |agg cs=>
  cases hv with
  |agg h1 h2=>exact⟨h1,h2⟩
  |gone hi _ _=>simp[bf]at hi
 |dI cs=>
  have hv':=hv;cases hv with
  |dI h1 h2=>exact .cons hv' .nil
  |gone hi _ _=>simp[bf]at hi
 |_=>
  have:x.cells=[x]:=by
   cases x<;>first|rfl|(simp[iR,Zd]at hq;done)
  rw[this];exact .cons hv .nil
theorem DY:∀{vs:List (PV X.Γ)} {xs:List TV},bU X P A m h vs xs->xs.all iR=vs.all Zd
 | [],xs,hv=>by rw[hv.inv0];rfl
 |v::vs,xs,hv=>by
  obtain⟨x,r,rfl,h1,h2⟩:=hv.inv;simp only[abP,a5N h1,DY h2]
theorem ae6{cs:List (PV X.Γ)}{xs:List TV}(hv:bU X P A m h cs xs){off n:Nat}{r:List (PV X.Γ)}(hs:adZ cs off n=some r):∃r',sub xs off n=some r'∧bU X P A m h r r':=by
 unfold adZ at hs;split at hs
 .rename_i hl;cases hs;exact⟨_,by unfold sub;rw[a0p (by rw[<-hv.1];exact hl)],(hv.drop off).take n⟩
 cases hs
theorem H7{cs new:List (PV X.Γ)}{xs ahT:List TV}(hv:bU X P A m h cs xs)(hn:bU X P A m h new ahT){off:Nat}{r:List (PV X.Γ)}(hs:Ob cs off new=some r):∃r',wo xs off ahT=some r'∧bU X P A m h r r':=by
 unfold Ob at hs;split at hs
 .rename_i hl;cases hs;refine⟨_,by unfold wo;rw[a0p (by rw[<-hv.1,<-hn.1];exact hl)],?_⟩;rw[<-hn.1];exact((hv.take off).app hn).app (hv.drop _)
 cases hs
theorem Ai{cs:List (PV X.Γ)}{xs:List TV}(hv:bU X P A m h cs xs){t:TypeId}{off:Nat}{v:PV X.Γ}(hs:GN P t cs off=some v):∃x,uh P t xs off=some x∧VR X P A m h v x:=by
 unfold GN at hs;unfold uh;split at hs
 .rename_i n ha hn;simp only[a0e]at hs;obtain⟨r,h1,rfl⟩:=hs;obtain⟨r',g1,g2⟩:=ae6 hv h1;exact⟨.agg r',by simp only[ha,hn,g1,a0v],.agg g2.1 g2.2⟩
 .rename_i n ha hn;split at hs
  .rename_i h1;obtain⟨x,g1,g2⟩:=hv.get hs;exact⟨x,by simp only[ha,hn,h1,a2w,g1],g2⟩
  cases hs
 cases hs
theorem H8{t:TypeId}{z:List (PV X.Γ)}(hz:Rz P t=some z):∃z',JL P t=some z'∧bU X P A m h z z':=by
 unfold Rz at hz;split at hz
 .rename_i z' h1;exact⟨z',h1,Un hz⟩
 cases hz
def VPs(X:kQ)(P:Program)(A:Nat->Prop)(m:List MB)(h:List HB)(ps:List (Nat×PV X.Γ))(qs:List (Nat×TV)):Prop:=
 ps.length=qs.length∧∀(i:Nat) a b,ps[i]? = some a->qs[i]? = some b->a.1=b.1∧VR X P A m h a.2 b.2
theorem VPs.inv{a:Nat×PV X.Γ}{ps:List (Nat×PV X.Γ)}{qs:List (Nat×TV)}(hv:VPs X P A m h (a::ps) qs):∃x r,qs=(a.1,x)::r∧VR X P A m h a.2 x∧VPs X P A m h ps r:=by
 cases qs with
 |nil=>have:=hv.1;simp at this
 |cons q r=>
  obtain⟨h1,h2⟩:=hv.2 0 a q rfl rfl;refine⟨q.2,r,by rw[h1],h2,by have:=hv.1;simpa using this,fun i x y hx hy=>hv.2 (i+1) x y (by simpa using hx) (by simpa using hy)⟩
theorem Mc{pl:Nat->Option (Nat×Nat)}:∀{ps:List (Nat×PV X.Γ)} {qs:List (Nat×TV)} {cs:List (PV X.Γ)} {xs:List TV},VPs X P A m h ps qs->bU X P A m h cs xs->∀{r:List (PV X.Γ)},Oc pl cs ps=some r->∃r',rY pl xs qs=some r'∧bU X P A m h r r'
 | [],qs,cs,xs,hp,hv,r,hs=>by
  have:qs=[]:=by have:=hp.1;cases qs<;>simp_all
  subst this;simp only[Oc,a05]at hs;subst hs;exact⟨xs,rfl,hv⟩
 |(i,v)::ps,qs,cs,xs,hp,hv,r,hs=>by
  obtain⟨x,rest,rfl,h1,h2⟩:=hp.inv;have hc:=H6 h1;simp only[Oc]at hs;split at hs
  .rename_i off size Gg;split at hs
   .rename_i uX;split at hs
    .rename_i cs' ho;obtain⟨xs',g1,g2⟩:=H7 hv hc ho;obtain⟨r',g3,g4⟩:=Mc h2 g2 hs;have adL:x.cells.length=size:=by rw[<-hc.1];exact uX
     exact⟨r',by simp only[rY,Gg,adL,a2w,g1,g3],g4⟩
    cases hs
   cases hs
  cases hs
theorem a5O{t:TypeId}{ps:List (Nat×PV X.Γ)}{qs:List (Nat×TV)}(hp:VPs X P A m h ps qs){v:PV X.Γ}(hs:Zf P t ps=some v):∃x,N8 P t qs=some x∧VR X P A m h v x:=by
 unfold Zf at hs;unfold N8;split at hs
 .rename_i z fs hz hu;obtain⟨z',g1,g2⟩:=H8 (A:=A) (m:=m) (h:=h) hz;split at hs
  .rename_i ha;simp only[a0e]at hs;obtain⟨r,h1,rfl⟩:=hs;obtain⟨r',g3,g4⟩:=Mc hp g2 h1;exact⟨.agg r',by simp only[g1,hu,ha,a2w,g3,a0v],.agg g4.1 g4.2⟩
  cases hs
 .rename_i z n e hz hu;obtain⟨z',g1,g2⟩:=H8 (A:=A) (m:=m) (h:=h) hz;split at hs
  .rename_i k hk;simp only[a0e]at hs;obtain⟨r,h1,rfl⟩:=hs;obtain⟨r',g3,g4⟩:=Mc hp g2 h1;exact⟨.agg r',by simp only[g1,hu,hk,g3,a0v],.agg g4.1 g4.2⟩
  cases hs
 cases hs
theorem WG{z:List (PV X.Γ)}{z':List TV}(hz:bU X P A m h z z'):∀n,bU X P A m h (Zg z n) (times z' n)
 | 0=>.nil
 |n+1=>hz.app (WG hz n)
section
variable {env:List (Nat×PE X.Γ)} {env':List (Nat×EV)}
theorem a15(he:jR X P A m h env env'){t:Nat}:(ET t env=none∧dM t env'=none)∨∃v x,ET t env=some v∧dM t env'=some x∧Iy X P A m h v x:=by
 induction he with
 |nil=>exact .inl ⟨rfl,rfl⟩
 |cons h1 _ ih=>
  rename_i k v x r r' _;simp only[ET,dM];by_cases e:k=t
  .right;exact⟨v,x,by rw[a0p e],by rw[a0p e],h1⟩
  rw[a0o e,a0o e];exact ih
theorem oN(he:jR X P A m h env env'){t:Nat}{v:PE X.Γ}(hl:ET t env=some v):∃x,dM t env'=some x∧Iy X P A m h v x:=by
 rcases a15 he (t:=t)with⟨h1,_⟩|⟨w,x,h1,h2,h3⟩
 .rw[hl]at h1;cases h1
 rw[hl]at h1;cases h1;exact⟨x,h2,h3⟩
theorem ny(he:jR X P A m h env env'){o:Operand}{v:PE X.Γ}(hl:FD env o=some v):∃x,Ir env' o=some x∧Iy X P A m h v x:=by
 cases o with
 |tmp t=>exact oN he hl
 |const c=>
  simp only[FD]at hl;split at hl
  .rename_i b hb;cases hl;exact⟨.val (.bool b),by simp only[Ir,hb,a0v],VR.lit b⟩
  .rename_i x _ hx;simp only[a0e]at hl;obtain⟨w,h1,rfl⟩:=hl;exact⟨.val x,by simp only[Ir,hx,a0v],wR h1⟩
  cases hl
 |func f=>
  simp only[FD,a05]at hl;subst hl;exact⟨.val (.fn f [] []),rfl,.fn rfl (by simp) rfl (by simp)⟩
 |global g=>cases hl
theorem fM{v:PV X.Γ}{x:EV}(hp:Iy X P A m h (.val v) x):∃y,x=.val y∧VR X P A m h v y:=by
 cases x with
 |val y=>exact⟨y,rfl,hp⟩
 |_=>exact hp.elim
theorem DZ{k o:Nat}{x:EV}(hp:Iy X P A m h (.loc k o) x):x=.loc k o:=by
 cases x with
 |loc k' o'=>obtain⟨rfl,rfl⟩:=hp;rfl
 |_=>exact hp.elim
theorem J5{x:EV}(hp:Iy X P A m h .undef x):x=.undef:=by
 cases x with
 |undef=>rfl
 |_=>exact hp.elim
theorem Md{r j:Nat}{v:PV X.Γ}{x:EV}(hp:Iy X P A m h (.ent r j v) x):∃c y,x=.ent c j y∧VR X P A m h (.map r) (.map c)∧qg v=some y:=by
 cases x with
 |ent c j' y=>obtain⟨h1,rfl,h2⟩:=hp;exact⟨c,y,rfl,h1,h2⟩
 |_=>exact hp.elim
theorem Me{r j:Nat}{x:EV}(hp:Iy X P A m h (.Es r j) x):∃c,x=.Es c j∧VR X P A m h (.map r) (.map c):=by
 cases x with
 |Es c j'=>obtain⟨h1,rfl⟩:=hp;exact⟨c,rfl,h1⟩
 |_=>exact hp.elim
theorem WH(he:jR X P A m h env env'){o:Operand}{v:PV X.Γ}(hl:a0U env o=some v):∃x,qM env' o=some x∧VR X P A m h v x:=by
 unfold a0U at hl;split at hl
 .rename_i w hw;cases hl;obtain⟨x,h1,h2⟩:=ny he hw;obtain⟨y,rfl,h3⟩:=fM h2;exact⟨y,by simp only[qM,h1],h3⟩
 cases hl
theorem jm(he:jR X P A m h env env'){o:Operand}{v:PV X.Γ}(hl:zQ env o=some v):∃x,qM env' o=some x∧VR X P A m h v x:=by
 unfold zQ at hl;split at hl
 .rename_i w hw;cases hl;obtain⟨x,h1,h2⟩:=ny he hw;obtain⟨y,rfl,h3⟩:=fM h2;exact⟨y,by simp only[qM,h1],GZ h3⟩
 cases hl
theorem Uo(he:jR X P A m h env env'):∀{os:List Operand} {vs:List (PV X.Γ)},Ze env os=some vs->∃xs,TG env' os=some xs∧bU X P A m h vs xs
 | [],vs,hl=>by simp only[Ze,a05]at hl;subst hl;exact⟨[],rfl,.nil⟩
 |o::os,vs,hl=>by
  simp only[Ze]at hl;split at hl
  .rename_i v ws h1 h2;cases hl;obtain⟨x,g1,g2⟩:=jm he h1;obtain⟨xs,g3,g4⟩:=Uo he h2;exact⟨x::xs,by simp only[TG,g1,g3],.cons g2 g4⟩
  cases hl
theorem Zp(he:jR X P A m h env env'):∀{os:List (Nat×Operand)} {vs:List (Nat×PV X.Γ)},a2J env os=some vs->∃xs,VA env' os=some xs∧VPs X P A m h vs xs
 | [],vs,hl=>by simp only[a2J,a05]at hl;subst hl;exact⟨[],rfl,rfl,fun i a b ha=>by simp at ha⟩
 |(i,o)::os,vs,hl=>by
  simp only[a2J]at hl;split at hl
  .rename_i v ws h1 h2;cases hl;obtain⟨x,g1,g2⟩:=jm he h1;obtain⟨xs,g3,g4⟩:=Zp he h2;refine⟨(i,x)::xs,by simp only[VA,g1,g3],by simp[g4.1],fun j a b ha hb=>?_⟩;cases j with
   |zero=>simp only[a2V,a05]at ha hb;subst ha;subst hb;exact⟨rfl,g2⟩
   |succ j=>exact g4.2 j a b (by simpa using ha) (by simpa using hb)
  cases hl
def OR(X:kQ)(P:Program)(A:Nat->Prop)(m:List MB)(h:List HB):Option (PV X.Γ)->Option TV->Prop
 |none,none=>True
 |some v,some x=>VR X P A m h v x
 |_,_=>False
theorem H9(he:jR X P A m h env env'){o:Option Operand}{v:Option (PV X.Γ)}(hl:Oa env o=some v):∃x,VD env' o=some x∧OR X P A m h v x:=by
 cases o with
 |none=>simp only[Oa,a05]at hl;subst hl;exact⟨none,rfl,trivial⟩
 |some o=>
  simp only[Oa]at hl;split at hl
  .rename_i w hw;cases hl;obtain⟨x,g1,g2⟩:=jm he hw;exact⟨some x,by simp only[VD,g1],g2⟩
  cases hl
theorem Ur(he:jR X P A m h env env'):∀live,jR X P A m h (jd live env) (pick live env')
 | []=>.nil
 |t::r=>by
  simp only[jd,pick];rcases a15 he (t:=t)with⟨h1,h2⟩|⟨v,x,h1,h2,h3⟩
  .rw[h1,h2];exact Ur he r
  rw[h1,h2];exact .cons h3 (Ur he r)
theorem a9v(he:jR X P A m h env env'){t:Nat}{b:Bool}(hb:dM t env'=some (.val (.bool b))):jR X P A m h (Pv.BF t b env) env':=by
 induction he with
 |nil=>exact .nil
 |cons h1 h2 ih=>
  rename_i k v x r r';simp only[dM]at hb;simp only[Pv.BF];by_cases e:k=t
  .rw[a0p e]at hb ⊢;cases hb;exact .cons (VR.lit b) h2
  rw[a0o e]at hb ⊢;exact .cons h1 (ih hb)
theorem ae7(he:jR X P A m h env env'):Ul X env=C9 env':=by
 induction he with
 |nil=>rfl
 |cons h1 _ ih=>
  rename_i k v x r r' _;cases v with
  |val v=>obtain⟨y,rfl,_⟩:=fM h1;simpa[Ul,C9]using ih
  |loc a b=>rw[DZ h1];simp only[Ul,C9,ih]
  |undef=>rw[J5 h1];simpa[Ul,C9]using ih
  |ent=>obtain⟨_,_,rfl,_⟩:=Md h1;simpa[Ul,C9]using ih
  |Es=>obtain⟨_,rfl,_⟩:=Me h1;simpa[Ul,C9]using ih
end
end
structure bM(X:kQ)(P:Program):Prop where
 dec:∀{t:Nat} {vs:List (PV X.Γ)} {a:X.Γ t},X.dec t vs=some a->∀{A:Nat->Prop} {m:List MB} {h:List HB} {xs:List TV},bU X P A m h vs xs->bU X P A m h (X.enc t a) xs
 jh:∀(t:Nat) (a:X.Γ t),jh.GU (X.enc t a)=true
section
variable {X:kQ} {P:Program} {A B:Nat->Prop} {m m':List MB} {h h':List HB} {H H':List (PB X.Γ)}
theorem VR.mono(hAB:∀b,A b->B b){v:PV X.Γ}{x:TV}(hv:VR X P A m h v x):VR X P B m h v x:=by
 induction hv with
 |bool=>exact .bool _
 |lit=>exact .lit _
 |int=>exact .int _ _
 |str=>exact .str _
 |nil=>exact .nil _
 |ptr e=>exact .ptr e
 |slc e=>exact .slc e
 |own e o=>exact .own e o
 |win e q q' q2=>exact .win e q q' q2
 |Ag e=>exact .Ag e
 |map e=>exact .map e
 |iter e=>exact .iter e
 |fn h1 _ h3 _ i2 i4=>exact .fn h1 i2 h3 i4
 |kP e=>exact .kP e
 |agg h1 _ i2=>exact .agg h1 i2
 |dI h1 _ i2=>exact .dI h1 i2
 |oM=>exact .oM
 |dB a c c2 s z o k f e _ ih=>exact .dB (hAB _ a) c c2 s z o k f e ih
 |el a c l o e q _ ih=>exact .el (hAB _ a) c l o e q ih
 |row e j q=>exact .row e j q
 |gone i e o=>exact .gone i e o
theorem bU.mono(hAB:∀b,A b->B b){v:List (PV X.Γ)}{x:List TV}(hv:bU X P A m h v x):bU X P B m h v x:=⟨hv.1,fun i a b ha hb=>(hv.2 i a b ha hb).mono hAB⟩
theorem fB:∀{vs:List (PV X.Γ)} {i:Nat} {v:PV X.Γ},jh.GU vs=true->vs[i]? = some v->jh v=true
 | [],_,_,_,h=>by simp at h
 |a::vs,i,v,hc,h=>by
  simp only[jh.GU,a2o]at hc;cases i with
  |zero=>simp only[a2V,a05]at h;subst h;exact hc.1
  |succ i=>exact fB hc.2 (by simpa using h)
theorem VR.jh(hX:bM X P){v:PV X.Γ}{x:TV}(hv:VR X P A m h v x)(hc:Pv.jh v=true):VR X P A m' h v x:=by
 induction hv with
 |bool=>exact .bool _
 |lit=>exact .lit _
 |int=>exact .int _ _
 |str=>exact .str _
 |nil=>exact .nil _
 |fn h1 _ h3 _ i2 i4=>
  simp only[Pv.jh,a2o]at hc;exact .fn h1 (fun i x y hx hy=>i2 i x y hx hy (fB hc.1 hx)) h3 (fun i x y hx hy=>i4 i x y hx hy (fB hc.2 hx))
 |agg h1 _ i2=>
  simp only[Pv.jh]at hc;exact .agg h1 (fun i x y hx hy=>i2 i x y hx hy (fB hc hx))
 |dI h1 _ i2=>
  simp only[Pv.jh]at hc;exact .dI h1 (fun i x y hx hy=>i2 i x y hx hy (fB hc hx))
 |oM=>exact .oM
 |dB a c c2 s z o k f e _ ih=>exact .dB a c c2 s z o k f e fun j y i d v h1 h2 h3=>ih j y i d v h1 h2 h3 (fB (hX.jh _ _) h2)
 |el a c l o e q _ ih=>exact .el a c l o e q fun i d v h1 h2=>ih i d v h1 h2 (fB (hX.jh _ _) h1)
 |gone i e o=>rename_i v _ _;cases v<;>simp[bf]at i<;>simp[Pv.jh]at hc
 |_=>simp[Pv.jh]at hc
theorem eu.jh(hX:bM X P){t:Nat}{l:List (X.Γ t)}{cs:List TV}{off sz:Nat}(hv:eu X P A m h t l cs off sz):eu X P A m' h t l cs off sz:=
 ⟨hv.1,hv.2.1,fun j a i c v h1 h2 h3=>(hv.2.2 j a i c v h1 h2 h3).jh hX (fB (hX.jh _ _) h2)⟩
theorem eu.mono(hAB:∀b,A b->B b){t:Nat}{l:List (X.Γ t)}{cs:List TV}{off sz:Nat}(hv:eu X P A m h t l cs off sz):eu X P B m h t l cs off sz:=
 ⟨hv.1,hv.2.1,fun j a i c v h1 h2 h3=>(hv.2.2 j a i c v h1 h2 h3).mono hAB⟩
theorem VR.move(hX:bM X P)(hA:∀q cs,A q->aV h q=some cs->B q∧h'[q]? = h[q]?){v:PV X.Γ}{x:TV}(hv:VR X P A m h v x)(hc:Pv.jh v=true):VR X P B m' h' v x:=by
 induction hv with
 |bool=>exact .bool _
 |lit=>exact .lit _
 |int=>exact .int _ _
 |str=>exact .str _
 |nil=>exact .nil _
 |fn h1 _ h3 _ i2 i4=>
  simp only[Pv.jh,a2o]at hc;exact .fn h1 (fun i x y hx hy=>i2 i x y hx hy (fB hc.1 hx)) h3 (fun i x y hx hy=>i4 i x y hx hy (fB hc.2 hx))
 |agg h1 _ i2=>
  simp only[Pv.jh]at hc;exact .agg h1 (fun i x y hx hy=>i2 i x y hx hy (fB hc hx))
 |dI h1 _ i2=>
  simp only[Pv.jh]at hc;exact .dI h1 (fun i x y hx hy=>i2 i x y hx hy (fB hc hx))
 |oM=>exact .oM
 |dB a c c2 s z o k f e _ ih=>obtain⟨a',c'⟩:=hA _ _ a c;exact .dB a' ((fK c').trans c) (fun hl=>(yh c').trans (c2 hl)) s z o k f e fun j y i d v h1 h2 h3=>ih j y i d v h1 h2 h3 (fB (hX.jh _ _) h2)
 |el a c l o e q _ ih=>obtain⟨a',c'⟩:=hA _ _ a (Ah c);exact .el a' ((yh c').trans c) l o e q fun i d v h1 h2=>ih i d v h1 h2 (fB (hX.jh _ _) h1)
 |gone i e o=>rename_i v _ _;cases v<;>simp[bf]at i<;>simp[Pv.jh]at hc
 |_=>simp[Pv.jh]at hc
theorem eu.move(hX:bM X P)(hA:∀q cs,A q->aV h q=some cs->B q∧h'[q]? = h[q]?){t:Nat}{l:List (X.Γ t)}{cs:List TV}{off sz:Nat}(hv:eu X P A m h t l cs off sz):eu X P B m' h' t l cs off sz:=
 ⟨hv.1,hv.2.1,fun j a i c v h1 h2 h3=>(hv.2.2 j a i c v h1 h2 h3).move hX hA (fB (hX.jh _ _) h2)⟩
def FA(A:Nat->Prop)(m:List MB)(is:List Nat):Nat->Prop:=fun b=>AA A m b∨∃i mb,i∈is∧m[i]? = some mb∧mb.own=some b
theorem FA.mono{is js:List Nat}(hs:∀i,i∈is->i∈js){b:Nat}(hb:FA A m is b):FA A m js b:=by
 rcases hb with h|⟨i,mb,h1,h2,h3⟩
 .exact .inl h
 exact .inr ⟨i,mb,hs i h1,h2,h3⟩
theorem Oj:∀(is:List Nat) {m:List MB} {i:Nat} {mb:MB},(bT is m)[i]? = some mb->mb.own≠none->i∉is∧m[i]? = some mb
 | [],_,_,_,h,_=>⟨by simp,h⟩
 |j::is,m,i,mb,h,hn=>by
  obtain⟨h1,h2⟩:=Oj is (m:=m.set j .gone) h hn;by_cases e:j=i
  .subst e;rw[a4o]at h2;cases hx:m[j]? with
   |none=>rw[hx]at h2;cases h2
   |some y=>rw[hx]at h2;cases h2;exact absurd rfl hn
  rw[a1q e]at h2;exact⟨by simp[h1,Ne.symm e],h2⟩
theorem Aj{is:List Nat}{m:List MB}{b:Nat}(hb:b∈bn (bT is m)):∃i mb,i∉is∧m[i]? = some mb∧mb.own=some b:=by
 obtain⟨mb,hm,ho⟩:=a6m.1 hb;obtain⟨i,hi⟩:=a8K hm;obtain⟨h1,h2⟩:=Oj is hi (by rw[ho];simp);exact⟨i,mb,h1,h2,ho⟩
theorem FA.gone(hr:HR X P A m H h){is:List Nat}{b:Nat}(hb:FA A m is b):AA A (bT is m) b:=by
 rcases hb with hb|⟨i,mb,h1,h2,h3⟩
 .refine⟨hb.1,fun hm=>?_⟩;obtain⟨i,mb,_,h2,h3⟩:=Aj hm;exact hb.2 (aZ h2 h3)
 refine⟨hr.CW b (aZ h2 h3),fun hm=>?_⟩;obtain⟨j,LZ,g1,g2,g3⟩:=Aj hm;have:=iU hr.nodup h2 g2 h3 g3;exact g1 (this▸h1)
theorem RI(hX:bM X P)(hr:HR X P A m H h){k ex:Bool}{t i:Nat}{l:List (X.Γ t)}{x:TV}(hl:LR X P (AA A m) m h k ex t l x)(hi:m[i]? = some (.dB x)){is:List Nat}(hs:i∈is):VR X P (FA A m is) m' h (.dB t l false) x:=by
 cases hl with
 |nil=>exact .oM
 |emp h0 h1 h2 h3 h4=>exact .dB (.inl h0) h1 (fun e=>absurd rfl e) h3 h4 (by simpa using h2) (a1b _) (by simp) (fun j a hj=>by simp at hj) (fun j a i c v hj=>by simp at hj)
 |some h1 h2 h3 h4 h5 h6 h7 h8 h9=>
  refine .dB (cs:=_) (.inr ⟨i,_,hs,hi,?_⟩) (by unfold aV;rw[h4]) (fun _=>wM h4 (by omega)) h2 h3 (by omega) (a1b _) (by simp) h9.1 ?_
  .simp only[MB.own];rw[a0o (by simpa using h1)]
  intro j a q c v e1 e2 e3;exact((h9.2.2 j a q c v e1 e2 e3).mono fun b hb=>.inl hb).jh hX (fB (hX.jh _ _) e2)
theorem VR.part{F:Nat->Prop}{t:Nat}{l:List (X.Γ t)}{fu:Bool}{b off len cap sz:Nat}{ex:Bool}(hv:VR X P F m h (.dB t l fu) (.slc b off len cap sz ex)){o n cap':Nat}{ex' fu':Bool}(hn:o+n<=len)(hc:n<=cap')(hw:n=0∨o+cap'=cap)(hfu:fu'=true->ex'=true∧cap'=n) :
  VR X P F m h (.dB t ((l.drop o).take n) fu') (.slc b (off+o*sz) n cap' sz ex'):=by
 cases hv with
 |dB a c c2 s z ol k f e r=>
  have hlen:((l.drop o).take n).length=n:=by rw[a4d,a4b];omega
  have:=@VR.dB X P F m h t ((l.drop o).take n) fu' b (off+o*sz) cap' sz ex' _ a c (fun iC=>by
   have h1:n≠0:=fun e=>iC (by subst e;simp);have h2:=hw.resolve_left h1;have h3:off+o*sz+cap'*sz=off+cap*sz:=by rw[<-h2,a3E];omega
   rw[h3];exact c2 (fun e=>by subst e;simp at hlen;omega)) s z (by
   rw[hlen];have:(o+n)*sz<=l.length*sz:=a3X sz hn;rw[a3E]at this;omega) (by rw[hlen];exact hc) (by rw[hlen];exact hfu) (fun j y hy=>by
    rw[a4p]at hy;split at hy
    .rw[a4m]at hy;exact e _ _ hy
    .cases hy) (fun j y i d v hy h2 h3=>by
    rw[a4p]at hy;split at hy
    .rw[a4m]at hy;refine r _ _ i d v hy h2 ?_;rw[<-h3];congr 1;rw[a3E];omega
    .cases hy)
  rwa [hlen]at this
 |gone hi _ _=>simp[bf]at hi
mutual
theorem Us(hX:bM X P)(hr:HR X P A m H h):∀{v w:PV X.Γ} {x:TV},VR X P (AA A m) m h v x->view H v=some w->∀{is:List Nat},(∀i,i∈kU v->i∈is)->VR X P (FA A m is) m' h w x
 |.own i,w,x,hv,hw,is,hs=>by
  simp only[view]at hw;split at hw
  .rename_i k ex t l hH;cases hw;obtain⟨mb,h1,h2⟩:=hr.at_ i _ hH;cases mb with
   |dB y=>
    cases hv with
    |own e o=>rw[h1]at e;cases e;exact RI hX hr h2 h1 (hs i (by simp[kU]))
    |gone hi e o=>simp only[bf,a05]at hi;subst hi;rw[h1]at e;cases e
   |_=>exact h2.elim
  cases hw
 |.win i o n,w,x,hv,hw,is,hs=>by
  simp only[view]at hw;split at hw
  .rename_i k ex t l hH;cases hw;obtain⟨mb,h1,h2⟩:=hr.at_ i _ hH;cases mb with
   |dB y=>
    have h2':LR X P (AA A m) m h k ex t l y:=h2;have hfz:VR X P (FA A m is) m' h (.dB t l false) y:=RI hX hr h2' h1 (hs i (by simp[kU]));cases hv with
    |win e q q' q2=>
     rw[h1]at e;cases e;exact hfz.part q q' q2 (by simp)
    |Ag e=>
     rw[h1]at e;cases e;cases h2' with
     |nil=>simp only[List.drop_nil,List.take_nil];exact .oM
    |gone hi e o=>simp only[bf,a05]at hi;subst hi;rw[h1]at e;cases e
   |_=>exact h2.elim
  cases hw
 |.fn f a c,w,x,hv,hw,is,hs=>by
  simp only[view]at hw;split at hw
  .rename_i a' c' h1 h2;cases hw;cases hv with
   |fn e1 e2 e3 e4=>
    have g1:=lF hX hr ⟨e1,e2⟩ h1 (is:=is) fun i hi=>hs i (by simp[kU,hi]);have g2:=lF hX hr ⟨e3,e4⟩ h2 (is:=is) fun i hi=>hs i (by simp[kU,hi]);exact .fn g1.1 g1.2 g2.1 g2.2
   |gone hi _ _=>simp[bf]at hi
  cases hw
 |.agg cs,w,x,hv,hw,is,hs=>by
  simp only[view,a0e]at hw;obtain⟨cs',h1,rfl⟩:=hw;cases hv with
  |agg e1 e2=>have g1:=lF hX hr ⟨e1,e2⟩ h1 (is:=is) fun i hi=>hs i (by simp[kU,hi]);exact .agg g1.1 g1.2
  |gone hi _ _=>simp[bf]at hi
 |.dI cs,w,x,hv,hw,is,hs=>by
  simp only[view,a0e]at hw;obtain⟨cs',h1,rfl⟩:=hw;cases hv with
  |dI e1 e2=>have g1:=lF hX hr ⟨e1,e2⟩ h1 (is:=is) fun i hi=>hs i (by simp[kU,hi]);exact .dI g1.1 g1.2
  |gone hi _ _=>simp[bf]at hi
 |.bool b,w,x,hv,hw,is,hs=>by simp only[view,a05]at hw;subst hw;exact(hv.mono fun b hb=>.inl hb).jh hX rfl
 |.lit b,w,x,hv,hw,is,hs=>by
  simp only[view,a05]at hw;subst hw;cases hv with
  |lit=>exact .bool _
  |gone hi _ _=>simp[bf]at hi
 |.int k n,w,x,hv,hw,is,hs=>by simp only[view,a05]at hw;subst hw;exact(hv.mono fun b hb=>.inl hb).jh hX rfl
 |.str b,w,x,hv,hw,is,hs=>by simp only[view,a05]at hw;subst hw;exact(hv.mono fun b hb=>.inl hb).jh hX rfl
 |.nil b,w,x,hv,hw,is,hs=>by simp only[view,a05]at hw;subst hw;exact(hv.mono fun b hb=>.inl hb).jh hX rfl
 |.dB t l f,w,x,hv,hw,is,hs=>by simp only[view,a05]at hw;subst hw;exact(hv.mono fun b hb=>.inl hb).jh hX rfl
 |.ptr _ _ _,w,x,hv,hw,is,hs=>by simp[view]at hw
 |.slc _ _ _ _ _ _,w,x,hv,hw,is,hs=>by simp[view]at hw
 |.map _,w,x,hv,hw,is,hs=>by simp[view]at hw
 |.kP _,w,x,hv,hw,is,hs=>by simp[view]at hw
 |.el _ _ _,w,x,hv,hw,is,hs=>by simp[view]at hw
 |.row _ _ _,w,x,hv,hw,is,hs=>by simp[view]at hw
theorem lF(hX:bM X P)(hr:HR X P A m H h):∀{vs ws:List (PV X.Γ)} {xs:List TV},bU X P (AA A m) m h vs xs->views H vs=some ws->∀{is:List Nat},(∀i,i∈kU.kD vs->i∈is)->bU X P (FA A m is) m' h ws xs
 | [],ws,xs,hv,hw,is,hs=>by simp only[view.views,a05]at hw;subst hw;rw[hv.inv0];exact .nil
 |v::vs,ws,xs,hv,hw,is,hs=>by
  obtain⟨x,r,rfl,h1,h2⟩:=hv.inv;simp only[view.views]at hw;split at hw
  .rename_i w TQ g1 g2;cases hw;exact .cons (Us hX hr h1 g1 fun i hi=>hs i (by simp[kU.kD,hi])) (lF hX hr h2 g2 fun i hi=>hs i (by simp[kU.kD,hi]))
  cases hw
end
end
open Go Tw
section
variable {X:kQ} {P:Program} {A B F:Nat->Prop} {m m':List MB} {h h':List HB} {H H':List (PB X.Γ)}
theorem a18(hX:bM X P)(hr:HR X P A m H h){t:Nat}{cs:List (PV X.Γ)}{xs:List TV}(hv:bU X P (AA A m) m h cs xs){a:X.Γ t}{is:List Nat}(hd:a9p X H t cs=some (a,is)):bU X P (FA A m is) m' h (X.enc t a) xs:=by
 unfold a9p at hd;split at hd
 .rename_i vs h1;split at hd
  .rename_i b h2;simp only[a05,a0t]at hd;obtain⟨rfl,rfl⟩:=hd;exact hX.dec h2 (lF hX hr hv h1 fun i hi=>hi)
  cases hd
 cases hd
theorem Ak(hX:bM X P)(hr:HR X P A m H h){t sz:Nat}:∀{n:Nat} {cs:List (PV X.Γ)} {xs:List TV},bU X P (AA A m) m h cs xs->∀{l:List (X.Γ t)} {is:List Nat},y9 X H t sz n cs=some (l,is)->l.length=n∧eu X P (FA A m is) m' h t l xs 0 sz
 | 0,cs,xs,hv,l,is,hd=>by
  simp only[y9,a05,a0t]at hd;obtain⟨rfl,rfl⟩:=hd;exact⟨rfl,fun j a hj=>by simp at hj,by simp,fun j a i c v hj=>by simp at hj⟩
 |n+1,cs,xs,hv,l,is,hd=>by
  simp only[y9]at hd;split at hd
  rotate_left
  .cases hd
  rename_i uX;split at hd
  rotate_left
  .cases hd
  rename_i a js l' ks h1 h2;simp only[a05,a0t]at hd;obtain⟨rfl,rfl⟩:=hd;have g1:=(a18 (m':=m') hX hr (hv.take sz) h1).mono fun b hb=>FA.mono (js:=js++ks) (fun i hi=>a5U _ hi) hb;obtain⟨e2,g2⟩:=Ak hX hr (hv.drop sz) h2;have g2:=g2.mono fun b hb=>FA.mono (js:=js++ks) (fun i hi=>abJ _ hi) hb;have hl:(X.enc t a).length=sz:=by rw[g1.1,a4d,<-hv.1];omega
  refine⟨by simp[e2],fun j b hj=>?_,?_,fun j b i c v hj hi hx=>?_⟩
  .cases j with
   |zero=>simp only[a2V,a05]at hj;subst hj;exact hl
   |succ j=>exact g2.1 j b (by simpa using hj)
  .have:=g2.2.1;rw[a4b]at this;have h3:=hv.1;simp only[a4i,a3E];omega
  cases j with
  |zero=>
   simp only[a2V,a05]at hj;subst hj;have aQ:i<sz:=by rw[<-hl];exact(a0c.1 hi).1
   refine g1.2 i c v hi ?_;rw[a4p,a0p aQ,<-hx];simp
  |succ j=>
   refine g2.2.2 j b i c v (by simpa using hj) hi ?_;rw[a4m,<-hx];congr 1;rw[a3E];omega
def SlR(X:kQ)(P:Program)(F:Nat->Prop)(m:List MB)(h:List HB)(t sz:Nat)(l:List (X.Γ t))(x:TV):Prop:=
 (x=.nil .slc∧l=[])∨∃b off cap ex cs,x=.slc b off l.length cap sz ex∧l.length<=cap∧aV h b=some cs∧(l≠[]->mD h b (off+cap*sz)=some cs)∧eu X P F m h t l cs off sz
theorem a19{t sz:Nat}{l:List (X.Γ t)}{fu:Bool}{x:TV}(hv:VR X P F m h (.dB t l fu) x)(hz:dD P t=some sz):SlR X P F m h t sz l x:=by
 cases hv with
 |oM=>exact .inl ⟨rfl,rfl⟩
 |dB a c c2 s z o k f e r=>
  rw[hz]at s;cases s;exact .inr ⟨_,_,_,_,_,rfl,k,c,c2,e,o,r⟩
 |gone hi _ _=>simp[bf]at hi
theorem a5P{k ex:Bool}{t sz:Nat}{l:List (X.Γ t)}{x:TV}(hv:LR X P F m h k ex t l x)(hz:dD P t=some sz):SlR X P F m h t sz l x:=by
 cases hv with
 |nil=>exact .inl ⟨rfl,rfl⟩
 |emp h0 h1 h2 h3 h4=>
  rw[hz]at h3;cases h3;exact .inr ⟨_,_,_,_,_,rfl,a1b _,h1,fun e=>absurd rfl e,fun j a hj=>by simp at hj,by simpa using h2,fun j a i c v hj=>by simp at hj⟩
 |some h1 h2 h3 h4 h5 h6 h7 h8 h9=>
  rw[hz]at h2;cases h2;exact .inr ⟨_,_,_,_,_,rfl,a1b _,by unfold aV;rw[h4],fun _=>wM h4 (by omega),h9⟩
theorem eu.part{t sz:Nat}{l:List (X.Γ t)}{cs:List TV}{off o n:Nat}(hv:eu X P F m h t l cs off sz)(hn:o+n<=l.length):eu X P F m h t ((l.drop o).take n) cs (off+o*sz) sz:=by
 have hlen:((l.drop o).take n).length=n:=by rw[a4d,a4b];omega
 refine⟨fun j y hy=>?_,?_,fun j y i c v hy h2 h3=>?_⟩
 .rw[a4p]at hy;split at hy
  .rw[a4m]at hy;exact hv.1 _ _ hy
  cases hy
 .have:=hv.2.1;have h2:(o+n)*sz<=l.length*sz:=a3X sz hn;rw[hlen];rw[a3E]at h2;omega
 rw[a4p]at hy;split at hy
 .rw[a4m]at hy;refine hv.2.2 _ y i c v hy h2 ?_;rw[<-h3];congr 1;rw[a3E];omega
 cases hy
theorem eu.take{t sz:Nat}{l:List (X.Γ t)}{cs:List TV}{off:Nat}(hv:eu X P F m h t l cs off sz):eu X P F m h t l ((cs.drop off).take (l.length*sz)) 0 sz:=by
 refine⟨hv.1,?_,fun j a i c v h1 h2 h3=>?_⟩
 .have:=hv.2.1;rw[a4d,a4b];omega
 rw[a4p]at h3;split at h3
 .rw[a4m]at h3;exact hv.2.2 j a i c v h1 h2 (by rw[<-h3];congr 1;omega)
 cases h3
theorem SlR.src{t sz:Nat}{l:List (X.Γ t)}{x:TV}(hv:SlR X P F m h t sz l x):∃new,fE sz h x=some (l.length,new)∧new.length=l.length*sz∧eu X P F m h t l new 0 sz:=by
 rcases hv with⟨rfl,rfl⟩|⟨b,off,cap,ex,cs,rfl,hk,hc,JY,hw⟩
 .exact⟨[],rfl,by simp,fun j a hj=>by simp at hj,by simp,fun j a i c v hj=>by simp at hj⟩
 refine⟨(cs.drop off).take (l.length*sz),?_,?_,hw.take⟩
 .have:=hw.2.1;simp only[fE,a2w,sub];by_cases h0:l.length=0
  .rw[a0p h0,h0];simp
  rw[a0o h0,JY (fun e=>h0 (by rw[e];rfl))];simp only;rw[a0p this];rfl
 have:=hw.2.1;rw[a4d,a4b];omega
theorem eu.app{t sz:Nat}{l r:List (X.Γ t)}{a b:List TV}(h1:eu X P F m h t l a 0 sz)(h2:eu X P F m h t r b 0 sz)(ha:a.length=l.length*sz):eu X P F m h t (l++r) (a++b) 0 sz:=by
 refine⟨fun j y hy=>?_,?_,fun j y i c v hy hi hx=>?_⟩
 .rcases a4l j l.length with hl|hl
  .rw[a0j hl]at hy;exact h1.1 j y hy
  rw[a1c hl]at hy;exact h2.1 _ y hy
 .have:=h2.2.1;simp only[a2j,a3E];omega
 rcases a4l j l.length with hl|hl
 .rw[a0j hl]at hy;have aQ:i<sz:=by rw[<-h1.1 j y hy];exact(a0c.1 hi).1
  have:(j+1)*sz<=l.length*sz:=a3X sz hl;rw[a3E]at this;rw[a0j (by omega)]at hx;exact h1.2.2 j y i c v hy hi hx
 rw[a1c hl]at hy;have:l.length*sz<=j*sz:=a3X sz hl;rw[a1c (by omega)]at hx;refine h2.2.2 _ y i c v hy hi ?_;rw[<-hx];congr 1;rw[ha,Nat.sub_mul];omega
theorem uy{Γ:Nat->Type}{t t':Nat}{l:List (Γ t')}{r:List (Γ t)}(h:CP t t' l=some r):∃e:t'=t,r=e▸l:=by
 unfold CP at h;split at h
 .rename_i e;cases h;exact⟨e,rfl⟩
 cases h
theorem Ut(hX:bM X P)(hr:HR X P A m H h){e sz:Nat}{x:PV X.Γ}{tx:TV}(hv:VR X P (AA A m) m h x tx)(hz:dD P e=some sz){rows:List (X.Γ e)}{is:List Nat}(hs:Ae X H e sz x=some (rows,is)) :
  ∃new,fE sz h tx=some (rows.length,new)∧new.length=rows.length*sz∧eu X P (FA A m is) m' h e rows new 0 sz:=by
 have up:∀{l:List (X.Γ e)} {y:TV},SlR X P (AA A m) m h e sz l y->∃new,fE sz h y=some (l.length,new)∧new.length=l.length*sz∧eu X P (FA A m []) m' h e l new 0 sz:=by
  intro l y hy;obtain⟨new,h1,h2,h3⟩:=hy.src;exact⟨new,h1,h2,(h3.mono fun b hb=>.inl hb).jh hX⟩
 cases x with
 |nil k=>
  cases k<;>simp only[Ae]at hs<;>try (cases hs;done)
  simp only[a05,a0t]at hs;obtain⟨rfl,rfl⟩:=hs;cases hv with
  |nil=>exact up (.inl ⟨rfl,rfl⟩)
  |gone hi _ _=>simp[bf]at hi
 |dB t l fu=>
  simp only[Ae,a0e,a0t]at hs;obtain⟨r,h1,rfl,rfl⟩:=hs;obtain⟨rfl,rfl⟩:=uy h1;exact up (a19 hv hz)
 |own i=>
  simp only[Ae]at hs;split at hs
  .rename_i k ex t l hH;simp only[a0e,a0t]at hs;obtain⟨r,h1,rfl,rfl⟩:=hs;obtain⟨rfl,rfl⟩:=uy h1;obtain⟨mb,g1,g2⟩:=hr.at_ i _ hH;cases mb with
   |dB y=>
    cases hv with
    |own e' o=>rw[g1]at e';cases e';exact up (a5P g2 hz)
    |gone hi e' o=>simp only[bf,a05]at hi;subst hi;rw[g1]at e';cases e'
   |_=>exact g2.elim
  .cases hs
 |win i o n=>
  simp only[Ae]at hs;split at hs
  .rename_i k ex t l hH;simp only[a0e,a0t]at hs;obtain⟨r,h1,rfl,rfl⟩:=hs;obtain⟨rfl,rfl⟩:=uy h1;obtain⟨mb,g1,g2⟩:=hr.at_ i _ hH;cases mb with
   |dB y=>
    have hsl:=a5P g2 hz;cases hv with
    |win e' q q' q2=>
     rw[g1]at e';cases e';rcases hsl with⟨h,_⟩|⟨b,off,cap,ex',cs,he,hk,hc,JY,hw⟩
     .cases h
     .cases he;have hlen:n=((r.drop o).take n).length:=by rw[a4d,a4b];omega
      refine up (.inr ⟨_,_,_,_,cs,congrArg (fun k=>TV.slc _ _ k _ _ _) hlen,hlen▸q',hc,fun iC=>?_,hw.part q⟩);have h1:n≠0:=fun e=>iC (by subst e;simp);have h2:=q2.resolve_left h1;rw[<-JY (fun e=>iC (by rw[e];simp)),<-h2];congr 1;rw[a3E];omega
    |Ag e'=>
     rw[g1]at e';cases e';refine up (.inl ⟨rfl,by simp⟩)
    |gone hi e' o=>simp only[bf,a05]at hi;subst hi;rw[g1]at e';cases e'
   |_=>exact g2.elim
  .cases hs
 |slc b off len cap sz' ex=>
  simp only[Ae]at hs;split at hs
  .rename_i cs hH;split at hs
   .rename_i uX;obtain⟨uX,ae8⟩:=uX;subst uX;obtain⟨mb,g1,g2⟩:=hr.at_ b _ hH;cases mb with
    |fU c=>
     obtain⟨cs',g3,g4⟩:=g2;cases hv with
     |slc e'=>
      rw[g1]at e';cases e';obtain⟨hl,hw⟩:=Ak (m':=m') hX hr (g4.drop off) hs;subst hl;rw[g4.1]at ae8;refine⟨(cs'.drop off).take (rows.length*sz'),?_,by rw[a4d,a4b];omega,by simpa using hw.take⟩;simp only[fE,a2w,wP g3 (by simp),sub];split
      .rename_i h0;rw[h0,acQ,List.take_zero]
      .simp only[ae8,a2w,a0v]
     |gone hi e' o=>simp only[bf,a05]at hi;subst hi;rw[g1]at e';cases e'
    |_=>exact g2.elim
   .cases hs
  .cases hs
 |_=>simp[Ae]at hs
end
open Go Tw
def He(m:List MB)(i b:Nat):Prop:=∃mb,m[i]? = some mb∧mb.own=some b
structure IR(m:List MB)(h:List HB)(p:PI)(t:mg):Prop where
 all:t.all=true->p.i.all=true
 tl:∀k,.l k∈t.ts->.l k∈p.i.ts
 wl:∀k,.l k∈t.ws->.l k∈p.i.ws
 wh:∀b,.h b∈t.ws->(∃i,.h i∈p.i.ws∧He m i b)∨(p.wall=true∧b∈bn m)
 th:∀b,.h b∈t.ts->((∃i,.h i∈p.i.ts∧He m i b)∨b∉bn m)∧b<h.length
 hp:p.hp=false->t.all=false∧(∀b,.h b∉t.ts)∧∀b,.h b∉t.ws
theorem IR.none{m:List MB}{h:List HB}{p:PI}:IR m h p cu:=⟨fun h=>(by cases h),fun _ h=>(by cases h),fun _ h=>(by cases h),fun _ h=>(by cases h),fun _ h=>(by cases h),fun _=>⟨rfl,fun _ h=>(by cases h),fun _ h=>(by cases h)⟩⟩
section
variable {X:kQ} {P:Program} {A F:Nat->Prop} {m m':List MB} {h h':List HB} {H H':List (PB X.Γ)}
structure uQ(X:kQ)(P:Program)(A:Nat->Prop)(m:List MB)(ps:aS X.Γ)(ts:St):Prop where
 heap:HR X P A m ps.heap ts.heap
 llen:ps.loc.length=ts.loc.length
 loc:∀(k:Nat) cs,ps.loc[k]? = some cs->∃cs',ts.loc[k]? = some cs'∧bU X P (AA A m) m ts.heap cs cs'
 env:jR X P (AA A m) m ts.heap ps.env ts.env
theorem uQ.step{ps:aS X.Γ}{ts:St}(hR:uQ X P A m ps ts){H1:List (PB X.Γ)}{h1:List HB}(hr:HR X P A m' H1 h1)(hF:Fr m ts.heap m' h1)(hU:Up m m'):uQ X P A m' { ps with heap:=H1 } { ts with heap:=h1 }:=
 ⟨hr,hR.llen,fun k cs hk=>let ⟨cs',g1,g2⟩:=hR.loc k cs hk;⟨cs',g1,g2.step hF hU⟩,hR.env.step hF hU⟩
def OpR(X:kQ)(P:Program)(A:Nat->Prop)(m:List MB)(call:aY)(site:Nat->Bool)(ts:St)(o:Oper)(pe:PE X.Γ)(ps1:aS X.Γ)(pi:PI):Prop:=
 ∃ev iH ti m1,pF P call site ts o=some (ev,iH,ti)∧iH.env=ts.env∧iH.ws=ts.ws∧uQ X P A m1 ps1 iH∧Iy X P (AA A m1) m1 iH.heap pe ev∧Fr m ts.heap m1 iH.heap∧Up m m1∧IR m ts.heap pi ti∧∀b,.h b∈ti.ws->b∈bn m
theorem uz{call:aY}{site:Nat->Bool}{ps:aS X.Γ}{ts:St}{o:Oper}{pe:PE X.Γ}{ev:EV}{pi:PI}(hR:uQ X P A m ps ts)(h:pF P call site ts o=some (ev,ts,cu))(hp:Iy X P (AA A m) m ts.heap pe ev):OpR X P A m call site ts o pe ps pi:=
 ⟨ev,ts,cu,m,h,rfl,rfl,hR,hp,.refl,.refl,.none,fun b hb=>by cases hb⟩
theorem uQ.BF{ps:aS X.Γ}{ts:St}(hR:uQ X P A m ps ts){x:Operand}{b:Bool}(hb:qM ts.env x=some (.bool b)):uQ X P A m (ps.BF x b) ts:=by
 cases x with
 |tmp t=>
  refine⟨hR.heap,hR.llen,hR.loc,a9v hR.env ?_⟩;simp only[qM,Ir]at hb;split at hb
  .rename_i v hv;cases hb;exact hv
  cases hb
 |_=>exact hR
theorem RJ{ps:aS X.Γ}{ts:St}(hR:uQ X P A m ps ts){site:Bool}{cs:List (PV X.Γ)}{cs':List TV}(hc:bU X P (AA A m) m ts.heap cs cs') :
  ∃m1,(qN site ts cs').2.env=ts.env∧(qN site ts cs').2.ws=ts.ws∧uQ X P A m1 (DX site ps cs).2 (qN site ts cs').2∧Iy X P (AA A m1) m1 (qN site ts cs').2.heap (DX site ps cs).1 (qN site ts cs').1∧Fr m ts.heap m1 (qN site ts cs').2.heap∧Up m m1:=by
 cases site with
 |true=>
  have hp:=hR.heap.push (pb:=.cells cs) (hb:=.cells .own cs') (mb:=.fU ts.heap.length) (.inl rfl) ?_
  .refine⟨m++[.fU ts.heap.length],rfl,rfl,hR.step hp.1 hp.2.1 hp.2.2,?_,hp.2.1,hp.2.2⟩;show VR X P _ _ _ (.ptr ps.heap.length 0 cs.length) (.ptr ts.heap.length 0 cs'.length);rw[hc.1];exact .ptr (by rw[<-hR.heap.len];simp)
  .refine⟨cs',by simp,hc.step ?_ (wQ _)⟩;refine⟨by simp,fun b hb _=>by rw[a0j hb],fun b hb=>?_,fun b cs hc=>⟨cs,by rw[fK (a0j (gU hc)),hc],a1b _⟩⟩;rw[iZ,a3k,kE]at hb;rcases hb with hb|hb
   .exact .inl hb
   .simp[MB.own]at hb;exact .inr (by omega)
 |false=>
  refine⟨m,rfl,rfl,⟨hR.heap,by simp[DX,qN,hR.llen],fun k ds hk=>?_,hR.env⟩,?_,.refl,.refl⟩
  .simp only[DX,qN,a2P,a3T]at hk ⊢;rcases a4l k ps.loc.length with hl|hl
   .rw[a0j hl]at hk;obtain⟨ds',g1,g2⟩:=hR.loc k ds hk;exact⟨ds',by rw[a0j (by rw[<-hR.llen];exact hl)];exact g1,g2⟩
   .rw[a1c hl]at hk;have:k-ps.loc.length=0:=by
     rcases abC (k-ps.loc.length)with e|e
     .exact e
     .rw[a4h (by simp;omega)]at hk;cases hk
    rw[this]at hk;simp only[a2V,a05]at hk;subst hk;exact⟨cs',by rw[a1c (by rw[<-hR.llen];exact hl),<-hR.llen,this];rfl,hc⟩
  .exact⟨hR.llen,rfl⟩
theorem iP{i:Nat}{mb:MB}{b:Nat}(h1:m[i]? = some mb)(h2:mb.own=some b):He m i b:=⟨mb,h1,h2⟩
theorem Zq{i b:Nat}(h:He m i b):b∈bn m:=let ⟨_,h1,h2⟩:=h;aZ h1 h2
theorem IR.rdH{i b:Nat}(h0:He m i b)(hl:b<h.length):IR m h ⟨xq (.h i),false,false,true⟩ (xq (.h b)):=
 ⟨fun h=>(by cases h),fun k hk=>(by simp[xq]at hk),fun k hk=>(by simp[xq]at hk),fun b hb=>(by simp[xq]at hb),fun c hc=>(by simp[xq]at hc;subst hc;exact⟨.inl ⟨i,by simp[xq],h0⟩,hl⟩),fun h=>(by cases h)⟩
theorem IR.wrH{i b:Nat}(h0:He m i b)(hl:b<h.length):IR m h ⟨pz (.h i),false,false,true⟩ (pz (.h b)):=
 ⟨fun h=>(by cases h),fun k hk=>(by simp[pz]at hk),fun k hk=>(by simp[pz]at hk),fun c hc=>(by simp[pz]at hc;subst hc;exact .inl ⟨i,by simp[pz],h0⟩),fun c hc=>(by simp[pz]at hc;subst hc;exact⟨.inl ⟨i,by simp[pz],h0⟩,hl⟩),fun h=>(by cases h)⟩
theorem IR.loc{k:Nat}:IR m h ⟨xq (.l k),false,false,false⟩ (xq (.l k)):=
 ⟨fun h=>(by cases h),fun j hj=>by simpa[xq]using hj,fun k hk=>(by simp[xq]at hk),fun b hb=>(by simp[xq]at hb),fun c hc=>(by simp[xq]at hc),fun _=>⟨rfl,fun b hb=>(by simp[xq]at hb),fun b hb=>(by simp[xq]at hb)⟩⟩
theorem IR.anC{k:Nat}:IR m h ⟨pz (.l k),false,false,false⟩ (pz (.l k)):=
 ⟨fun h=>(by cases h),fun j hj=>by simpa[pz]using hj,fun j hj=>by simpa[pz]using hj,fun c hc=>(by simp[pz]at hc),fun c hc=>(by simp[pz]at hc),fun _=>⟨rfl,fun b hb=>(by simp[pz]at hb),fun b hb=>(by simp[pz]at hb)⟩⟩
theorem WI{t:TypeId}{cs:List TV}{o sz off n:Nat}{x:TV}(ho:o+sz<=cs.length)(hp:uh P t ((cs.drop o).take sz) off=some x)(hn:dD P t=some n):uh P t cs (o+off)=some x∧off+n<=sz∧o+off+n<=cs.length:=by
 unfold uh at hp ⊢;split at hp
 .rename_i k ha hk;rw[hn]at hk;cases hk;simp only[a0e]at hp;obtain⟨r,h1,rfl⟩:=hp;unfold sub at h1;split at h1
  .rename_i hl;rw[a4d,a4b]at hl;refine⟨?_,by omega,by omega⟩;cases h1;simp only[ha,hn,sub];rw[a0p (by omega)];simp only[a0v,a05,TV.agg.injEq];rw[agO,afK,afz,a7M (by omega)]
  cases h1
 .rename_i k ha hk;rw[hn]at hk;cases hk;split at hp
  .rename_i h1;subst h1;rw[a4p]at hp;split at hp
   .rename_i h2;rw[a4m]at hp;have:=(a0c.1 hp).1;refine⟨by simp only[ha,hn,a2w];exact hp,by omega,by omega⟩
   cases hp
  cases hp
 cases hp
theorem RN{t:TypeId}{cs:List TV}{off:Nat}{x:TV}(hp:uh P t cs off=some x):∃n,dD P t=some n:=by
 unfold uh at hp;split at hp
 .rename_i n _ hn;exact⟨n,hn⟩
 .rename_i n _ hn;exact⟨n,hn⟩
 cases hp
theorem eu.row{t sz:Nat}{l:List (X.Γ t)}{cs:List TV}{off j:Nat}{a:X.Γ t}(hw:eu X P F m h t l cs off sz)(hj:l[j]? = some a):bU X P F m h (X.enc t a) ((cs.drop (off+j*sz)).take sz)∧off+j*sz+sz<=cs.length:=by
 have hlen:=hw.1 j a hj;have aQ:j<l.length:=(a0c.1 hj).1;have h2:(j+1)*sz<=l.length*sz:=a3X sz aQ;have h3:=hw.2.1;rw[a3E]at h2;refine⟨⟨by rw[hlen,a4d,a4b];omega,fun i c v hc hv=>?_⟩,by omega⟩;rw[a4p]at hv;split at hv
 .rw[a4m]at hv;exact hw.2.2 j a i c v hj hc hv
 cases hv
theorem Am{t:Nat}{l:List (X.Γ t)}{j:Nat}(hj:j<l.length):l[j]? = some (l.getD j (X.d0 t)):=by
 rw[a3l,a0f hj];rfl
theorem Gp(hX:bM X P){ps:aS X.Γ}{ts:St}(hR:uQ X P A m ps ts){t:TypeId}{pa:PE X.Γ}{ea:EV}(ha:Iy X P (AA A m) m ts.heap pa ea){v:PV X.Γ}{pi:mg}(hl:Af X P t ps pa=some (v,pi)) :
  ∃x ti,loadT P t ts ea=some (x,ti)∧VR X P (AA A m) m ts.heap v x∧IR m ts.heap ⟨pi,false,false,!Uj pa⟩ ti∧ti.ws=[]:=by
 cases pa with
 |loc k off=>
  rw[DZ ha];simp only[Af]at hl;split at hl
  .rename_i cs hk;simp only[a0e,a0t]at hl;obtain⟨w,h1,rfl,rfl⟩:=hl;obtain⟨cs',g1,g2⟩:=hR.loc k cs hk;obtain⟨x,g3,g4⟩:=Ai g2 h1;exact⟨x,xq (.l k),by simp only[loadT,g1,g3,a0v],g4,.loc,rfl⟩
  .cases hl
 |undef|ent|Es=>simp[Af]at hl
 |val a=>
  obtain⟨y,rfl,hy⟩:=fM ha;cases a with
  |ptr b off lim=>
   simp only[Af]at hl;split at hl
   .rename_i cs n hb hn;split at hl
    .rename_i KW;simp only[a0e,a0t]at hl;obtain⟨w,h1,rfl,rfl⟩:=hl;obtain⟨mb,g1,g2⟩:=hR.heap.at_ b _ hb;cases mb with
     |fU c=>
      obtain⟨cs',g3,g4⟩:=g2;cases hy with
      |ptr e=>
       rw[g1]at e;cases e;obtain⟨x,g5,g6⟩:=Ai g4 h1;refine⟨x,xq (.h c),?_,g6,.rdH (iP g1 rfl) (a0c.1 g3).1,rfl⟩;simp only[loadT,wP g3 (show BK.own≠.last by simp),hn,KW,a2w,g5,a0v]
      |gone hi e _=>simp only[bf,a05]at hi;subst hi;rw[g1]at e;cases e
     |_=>exact g2.elim
    .cases hl
   .rename_i cs n hb hn;split at hl
    .rename_i KW;simp only[a0e,a0t]at hl;obtain⟨w,h1,rfl,rfl⟩:=hl;obtain⟨mb,g1,g2⟩:=hR.heap.at_ b _ hb;cases mb with
     |jl c=>
      obtain⟨g0,cs',g3,g4⟩:=g2;cases hy with
      |ptr e=>rw[g1]at e;cases e
      |gone hi e _=>
       simp only[bf,a05]at hi;subst hi;rw[g1]at e;cases e with
       |r _ e=>
        simp only[roV,a05]at e;subst e;obtain⟨x,g5,g6⟩:=Ai g4 h1;refine⟨x,xq (.h c),?_,g6,⟨fun h=>(by cases h),fun k hk=>(by simp[xq]at hk),fun k hk=>(by simp[xq]at hk),fun b hb=>(by simp[xq]at hb),fun d hd=>?_,fun h=>(by cases h)⟩,rfl⟩
        .simp only[loadT,wP g3 (show BK.own≠.last by simp),hn,KW,a2w,g5,a0v]
        .simp[xq]at hd;subst hd;exact⟨.inr g0,(a0c.1 g3).1⟩
     |_=>exact g2.elim
    .cases hl
   .cases hl
  |row b j off=>
   simp only[Af]at hl;split at hl
   .rename_i k ex e l hb;simp only[a0e,a0t]at hl;obtain⟨w,h1,rfl,rfl⟩:=hl;obtain⟨mb,g1,g2⟩:=hR.heap.at_ b _ hb;cases mb with
    |dB z=>
     cases hy with
     |row e' hj hq=>
      rw[g1]at e';cases e';cases(g2:LR X P _ _ _ _ _ _ _ _)with
      |emp=>omega
      |some q1 q2 q3 q4 q5 q6 q7 q8 q9=>
       have yH:=q9.row (Am hj);obtain⟨x,g5,g6⟩:=Ai yH.1 h1;obtain⟨n,hn⟩:=RN g5;obtain⟨g7,g8,_⟩:=WI yH.2 g5 hn;rw[a4e]at g7;refine⟨x,xq (.h _),?_,g6,.rdH (iP g1 (by simp only[MB.own];rw[a0o (by simpa using q1)])) (a0c.1 q4).1,rfl⟩;have rV:=yH.2;simp only[loadT,wM q4 q8.symm,hn];rw[a0p (by omega),g7];rfl
     |gone hi e' _=>simp only[bf,a05]at hi;subst hi;rw[g1]at e';cases e'
    |_=>exact g2.elim
   .cases hl
  |el e a off=>
   simp only[Af,a0e,a0t]at hl;obtain⟨w,h1,rfl,rfl⟩:=hl;cases hy with
   |el q1 q2 q2' q3 q4 q5 q6=>
    rename_i b o sz lim cs;have yH:bU X P (AA A m) m ts.heap (X.enc e a) ((cs.drop o).take sz):=by
     refine⟨by rw[q4,a4d,a4b];omega,fun i c v hc hv=>?_⟩;rw[a4p]at hv;split at hv
     .rw[a4m]at hv;exact q6 i c v hc hv
     .cases hv
    obtain⟨x,g5,g6⟩:=Ai yH h1;obtain⟨n,hn⟩:=RN g5;obtain⟨g7,g8,_⟩:=WI q3 g5 hn;refine⟨x,xq (.h b),?_,g6,⟨fun h=>(by cases h),fun k hk=>(by simp[xq]at hk),fun k hk=>(by simp[xq]at hk),fun b hb=>(by simp[xq]at hb),fun c hc=>?_,fun h=>(by cases h)⟩,rfl⟩
    .simp only[loadT,q2,hn];rw[a0p (by omega),g7];rfl
    .simp[xq]at hc;subst hc;exact⟨.inr q1.2,a2O q2⟩
   |gone hi e' _=>simp[bf]at hi
  |_=>simp[Af]at hl
end
open Go Tw
section
variable {X:kQ} {P:Program} {A F:Nat->Prop} {m m':List MB} {h h':List HB} {H H':List (PB X.Γ)}
theorem Ol{cs new:List TV}{o sz off:Nat}{r:List TV}(ho:o+sz<=cs.length)(hr:wo ((cs.drop o).take sz) off new=some r):wo cs (o+off) new=some (cs.take o++r++cs.drop (o+sz))∧r.length=sz:=by
 unfold wo at hr ⊢;split at hr
 rotate_left
 .cases hr
 rename_i hl;have qL:=hl;rw[a4d,a4b]at hl;cases hr;refine⟨?_,?_⟩
 .rw[a0p (by omega)];simp only[a05];apply a9D;intro i;simp only[List.getElem?_append,a2j,a4d,a4b,a4p,a4m];rcases a4l i o with h1|h1
  .simp (disch:=omega) only [a7M,a0p]
  rcases a4l i (o+off)with h2|h2
  .rw[a0p (by omega),a0p (by omega),a0p (by omega),a0p (by omega),a0o (by omega),a0p (by omega),a0p (by omega),a0p (by omega),a0p (by omega)];congr 1;omega
  rcases a4l i (o+off+new.length)with h3|h3
  .rw[a0p (by omega),a0o (by omega),a0p (by omega),a0o (by omega),a0p (by omega),a0o (by omega)];congr 1;omega
  rcases a4l i (o+sz)with h4|h4
  .rw[a0o (by omega),a0p (by omega),a0o (by omega),a0o (by omega),a0p (by omega)];congr 1;omega
  rw[a0o (by omega),a0o (by omega)];congr 1;omega
 simp only[a2j,a4d,a4b];omega
theorem eu.set{t sz j:Nat}{l:List (X.Γ t)}{cs r:List TV}{a:X.Γ t}(hw:eu X P F m h t l cs 0 sz)(hr:bU X P F m h (X.enc t a) r)(hl:r.length=sz)(hj:j<l.length) :
  eu X P F m h t (l.set j a) (cs.take (j*sz)++r++cs.drop (j*sz+sz)) 0 sz:=by
 have h2:(j+1)*sz<=l.length*sz:=a3X sz hj;rw[a3E]at h2;have h3:=hw.2.1;refine⟨fun k y hy=>?_,?_,fun k y i c v hy hi hx=>?_⟩
 .rw[a9C]at hy;split at hy
  .cases hy;rw[hr.1,hl]
  .exact hw.1 k y hy
 .simp only[a2j,a4d,a4b,a4v];omega
 .rw[a9C]at hy;split at hy
  .rename_i e;subst e;cases hy;have aQ:i<sz:=by rw[<-hl,<-hr.1];exact(a0c.1 hi).1
   refine hr.2 i c v hi ?_;rw[a0j (by simp only[a2j,a4d];omega),a1c (by rw[a4d];omega),a4d]at hx;rw[<-hx];congr 1;omega
  .rename_i e;have hlen:=hw.1 k y hy;have aQ:i<sz:=by rw[<-hlen];exact(a0c.1 hi).1
   have hk:k<l.length:=(a0c.1 hy).1;refine hw.2.2 k y i c v hy hi ?_;rw[<-hx];rcases a4l k j with h4|h4
   .have:(k+1)*sz<=j*sz:=a3X sz h4;rw[a3E]at this;rw[a0j (by simp only[a2j,a4d];omega),a0j (by rw[a4d];omega),a4p,a0p (by omega)]
   .have h5:j+1<=k:=(by omega);have:(j+1)*sz<=k*sz:=a3X sz h5;rw[a3E]at this;rw[a1c (by simp only[a2j,a4d];omega),a4m];congr 1;simp only[a2j,a4d];omega
theorem Kv{b:Nat}{pb:PB X.Γ}:∀{is:List Nat} {H:List (PB X.Γ)},is.contains b=false->aX is (H.set b pb)=(aX is H).set b pb
 | [],_,_=>rfl
 |i::is,H,hn=>by
  simp only[agS,a9x,agN,ne_eq]at hn;simp only[aX,WA];rw[List.set_comm _ _ hn.1,Kv hn.2]
theorem yN(hX:bM X P){ps ps1:aS X.Γ}{ts:St}(hR:uQ X P A m ps ts){t:TypeId}{pa:PE X.Γ}{ea:EV}(ha:Iy X P (AA A m) m ts.heap pa ea){v:PV X.Γ}{x:TV}(hv:VR X P (AA A m) m ts.heap v x){pi:mg}(hl:Ue X P t ps pa v=some (ps1,pi)) :
  ∃iH ti m1,storeT P t ts ea x=some (iH,ti)∧iH.env=ts.env∧iH.ws=ts.ws∧uQ X P A m1 ps1 iH∧Fr m ts.heap m1 iH.heap∧Up m m1∧IR m ts.heap ⟨pi,false,false,!Uj pa⟩ ti∧∀b,.h b∈ti.ws->b∈bn m:=by
 have hc:=H6 hv;unfold Ue at hl;split at hl
 .rename_i n hn;split at hl
  .rename_i NH;have a9w:x.cells.length=n∧x.cells.all iR=true:=⟨by rw[<-hc.1];exact NH.1,by rw[DY hc];exact NH.2⟩;cases pa with
   |loc k off=>
    rw[DZ ha];simp only at hl;split at hl
    .rename_i cs hk;simp only[a0e,a0t]at hl;obtain⟨RP,h1,rfl,rfl⟩:=hl;obtain⟨cs',g1,g2⟩:=hR.loc k cs hk;obtain⟨J6,g3,g4⟩:=H7 g2 hc h1;refine⟨{ ts with loc:=ts.loc.set k J6 },pz (.l k),m,?_,rfl,rfl,⟨hR.heap,by simp[hR.llen],fun j ds hj=>?_,hR.env⟩,.refl,.refl,.anC,fun b hb=>by simp[pz]at hb⟩
     .simp only[storeT,hn,a9w,ad9,a2w,g1,g3,a0v]
     .by_cases e:k=j
      .subst e;rw[a4o]at hj;rw[hk]at hj;cases hj;exact⟨J6,by rw[a4o,g1];rfl,g4⟩
      .rw[a1q e]at hj;obtain⟨ds',q1,q2⟩:=hR.loc j ds hj;exact⟨ds',by rw[a1q e];exact q1,q2⟩
    .cases hl
   |undef|ent|Es=>simp at hl
   |val a=>
    obtain⟨y,rfl,hy⟩:=fM ha;cases a with
    |ptr b off lim=>
     simp only at hl;split at hl
     .rename_i KW;split at hl
      .rename_i cs hb;simp only[a0e,a0t]at hl;obtain⟨RP,h1,rfl,rfl⟩:=hl;obtain⟨mb,g1,g2⟩:=hR.heap.at_ b _ hb;cases mb with
       |fU c=>
        obtain⟨cs',g3,g4⟩:=g2;cases hy with
        |ptr e=>
         rw[g1]at e;cases e;obtain⟨J6,g5,g6⟩:=H7 g4 hc h1;have hlen:J6.length=cs'.length:=by
          unfold wo at g5;split at g5
          .cases g5;simp only[a2j,a4d,a4b];omega
          .cases g5
         have aQ:=(a0c.1 g3).1;obtain⟨hr1,hF⟩:=hR.heap.set (pb:=.cells RP) (hb:=.cells .own J6) g1 (c:=c) rfl (fun WJ WL=>⟨J6,by simp[aV,aQ],by
          simp only[aV,g3,a05]at WL;subst WL;omega⟩) fun hF=>⟨J6,by simp[aQ],g6.step hF .refl⟩
         refine⟨{ ts with heap:=ts.heap.set c (.cells .own J6) },pz (.h c),m,?_,rfl,rfl,hR.step hr1 hF .refl,hF,.refl,.wrH (iP g1 rfl) aQ,fun b hb=>?_⟩
         .simp only[storeT,hn,a9w,ad9,a2w,KW,WE g3,g5,a0v]
         .simp[pz]at hb;subst hb;exact aZ g1 rfl
        |gone hi e _=>simp only[bf,a05]at hi;subst hi;rw[g1]at e;cases e
       |_=>exact g2.elim
      .cases hl
     .cases hl
    |row b j off=>
     simp only at hl;split at hl
     .rename_i k0 ex e l hb;split at hl
      .rename_i RP h1;split at hl
       .rename_i a is hd;split at hl
        .cases hl
        .rename_i hnb;simp only[a05,a0t]at hl;obtain⟨rfl,rfl⟩:=hl;obtain⟨mb,g1,g2⟩:=hR.heap.at_ b _ hb;cases mb with
         |dB z=>
          cases hy with
          |row e' hj hq=>
           rw[g1]at e';cases e';cases(g2:LR X P _ _ _ _ _ _ _ _)with
           |emp=>omega
           |some q1 q2 q3 q4 q5 q6 q7 q8 q9=>
            rename_i c sz xx kk cs;obtain⟨Bg,xR,hkr,hko⟩:=J4 q5;have vK:(MB.dB (TV.slc c 0 l.length l.length sz xx)).own=some c:=by simp only[MB.own];rw[a0o (by simpa using q1)]
            have yH:=q9.row (Am hj);simp only[a4e]at yH;obtain⟨r,g3,g4⟩:=H7 yH.1 hc h1;obtain⟨g5,g6⟩:=Ol yH.2 g3;have anD:=a18 (m':=bT is m) hX hR.heap g4 hd;have hgo:=hR.heap.aX is;have Qn:=iq (h:=ts.heap) is m;have ahX:is.contains b=false:=(by simpa using hnb);have hm1:(bT is m)[b]? = some (.dB (.slc c 0 l.length l.length sz xx)):=by rw[GY is g1,ahX];rfl
            have aQ:=(a0c.1 q4).1;have QH:(cs.take (j*sz)++r++cs.drop (j*sz+sz)).length=cs.length:=by
             simp only[a2j,a4d,a4b];omega
            obtain⟨hr1,hF⟩:=hgo.set (pb:=.list k0 ex e (l.set j a)) (hb:=.cells Bg (cs.take (j*sz)++r++cs.drop (j*sz+sz))) hm1 vK (fun WJ WL=>⟨cs.take (j*sz)++r++cs.drop (j*sz+sz),by simp[aV,aQ],by
             simp only[aV,q4,a05]at WL;subst WL;omega⟩) fun hF=>by
              have hw:=(q9.step Qn.1 Qn.2).set (anD.mono fun b hb=>hb.gone hR.heap) g6 hj;have:=LR.some (X:=X) (P:=P) (A:=AA A (bT is m)) (m:=bT is m) (h:=ts.heap.set c (.cells Bg (cs.take (j*sz)++r++cs.drop (j*sz+sz)))) (k:=k0) (ex:=ex) (t:=e) (l:=l.set j a) (b:=c) (sz:=sz) (e:=xx) (kk:=Bg) (cs:=cs.take (j*sz)++r++cs.drop (j*sz+sz))
               (by intro e0;apply q1;have:=congrArg List.length e0;rw[a4v]at this;exact a7v.1 this) q2 q3 (by simp[aQ]) hkr (fun e0=>hko (q6 e0)) q7 (by rw[QH,a4v];exact q8) (hw.step hF .refl)
              rw[a4v]at this;exact this
            rw[<-Kv ahX]at hr1;have Wj:=Qn.1.trans hF;refine⟨{ ts with heap:=ts.heap.set c (.cells Bg (cs.take (j*sz)++r++cs.drop (j*sz+sz))) },pz (.h c),bT is m,?_,rfl,rfl,hR.step hr1 Wj Qn.2,Wj,Qn.2,.wrH (iP g1 vK) aQ,fun b hb=>?_⟩
            .have h9:j*sz+off+n<=l.length*sz:=by
              have h8:=yH.2;unfold wo at g3;split at g3
              .rename_i h0;rw[a4d,a4b,a9w.1]at h0;omega
              .cases g3
             simp only[storeT,hn,a9w,ad9,a2w,h9,a0Y q4 xR q8.symm,g5,a0v]
            .simp[pz]at hb;subst hb;exact aZ g1 vK
          |gone hi e' _=>simp only[bf,a05]at hi;subst hi;rw[g1]at e';cases e'
         |_=>exact g2.elim
       .cases hl
      .cases hl
     .cases hl
    |_=>simp at hl
  .cases hl
 .cases hl
end
open Go Tw
section
variable {X:kQ} {P:Program} {A F:Nat->Prop} {m m':List MB} {h h':List HB} {H H':List (PB X.Γ)}
theorem nT{v:PV X.Γ}{x:TV}(hv:VR X P A m h v x):Iy X P A m h (.val v) (.val x):=hv
theorem Ny{ps:aS X.Γ}{ts:St}(hR:uQ X P A m ps ts){o:Nat}{pa pb:PE X.Γ}{ea:EV}(ha:Iy X P (AA A m) m ts.heap pa ea)(hl:GV X ps o pa=some pb):∃eb,Qc o ea=some eb∧Iy X P (AA A m) m ts.heap pb eb:=by
 cases pa with
 |loc k off=>
  rw[DZ ha];simp only[GV,a05]at hl;subst hl;exact⟨.loc k (off+o),rfl,rfl,rfl⟩
 |undef|ent|Es=>simp[GV]at hl
 |val a=>
  obtain⟨y,rfl,hy⟩:=fM ha;cases a with
  |ptr b off lim=>
   simp only[GV]at hl;split at hl
   .rename_i cs hb;split at hl
    .rename_i hle;cases hl;obtain⟨mb,g1,g2⟩:=hR.heap.at_ b _ hb;cases mb with
     |fU c=>
      cases hy with
      |ptr e=>exact⟨.val (.ptr _ (off+o) lim),by simp only[Qc,hle,a2w],VR.ptr e⟩
      |gone hi e q=>simp only[bf,a05]at hi;subst hi;rw[g1]at e;cases e
     |_=>exact g2.elim
    cases hl
   .rename_i cs hb;split at hl
    .rename_i hle;cases hl;obtain⟨mb,g1,g2⟩:=hR.heap.at_ b _ hb;cases mb with
     |jl c=>
      cases hy with
      |ptr e=>rw[g1]at e;cases e
      |gone hi e q=>
       simp only[bf,a05]at hi;subst hi;rw[g1]at e;cases e with
       |r _ e=>simp only[roV,a05]at e;subst e;exact⟨.val (.ptr _ (off+o) lim),by simp only[Qc,hle,a2w],VR.gone rfl (.ofR g1 rfl) rfl⟩
     |_=>exact g2.elim
    cases hl
   cases hl
  |el t a off=>
   simp only[GV]at hl;split at hl
   .rename_i hle;cases hl;cases hy with
    |el q1 q2 q2' q3 q4 q5 q6=>
     rename_i b o0 sz lim cs;rw[q4]at hle;refine⟨.val (.ptr b (o0+off+o) lim),by simp only[Qc];rw[a0p (by omega)],?_⟩;rw[a9T];exact VR.el q1 q2 q2' q3 q4 hle q6
    |gone hi _ _=>simp[bf]at hi
   cases hl
  |row b j off=>
   simp only[GV,ahK]at hl;split at hl
   rotate_left
   .cases hl
   rename_i n hn;split at hn
   rotate_left
   .cases hn
   rename_i k ex e l hb;cases hn;split at hl
   .rename_i hle;cases hl;obtain⟨mb,g1,g2⟩:=hR.heap.at_ b _ hb;cases mb with
    |dB z=>
     cases hy with
     |row e' hj hq=>
      rw[g1]at e';cases e';cases(g2:LR X P _ _ _ _ _ _ _ _)with
      |emp=>omega
      |some q1 q2 q3 q4 q5 q6 q7 q8 q9=>
       rw[q9.1 j _ (Am hj)]at hle;have yH:=(q9.row (Am hj)).2;refine⟨.val (.ptr _ (j*_+off+o) (l.length*_)),by simp only[Qc];rw[a0p (by omega)],?_⟩;rw[a9T];exact VR.row g1 hj hle
     |gone hi e' _=>simp only[bf,a05]at hi;subst hi;rw[g1]at e';cases e'
    |_=>exact g2.elim
   cases hl
  |_=>simp[GV]at hl
theorem a9y{ps:aS X.Γ}{ts:St}(hR:uQ X P A m ps ts){b:Nat}{k ex:Bool}{e:Nat}{l:List (X.Γ e)}(hb:ps.heap[b]? = some (.list k ex e l)){y:TV}(hy:VR X P (AA A m) m ts.heap (.own b) y)(hl:l≠[]) :
  ∃c sz x,y=.slc c 0 l.length l.length sz x∧m[b]? = some (.dB y)∧dD P e=some sz∧0<sz:=by
 obtain⟨mb,g1,g2⟩:=hR.heap.at_ b _ hb;cases mb with
 |dB z=>
  cases hy with
  |own e' o=>
   rw[g1]at e';cases e';cases(g2:LR X P _ _ _ _ _ _ _ _)with
   |nil=>exact absurd rfl hl
   |emp=>exact absurd rfl hl
   |some q1 q2 q3=>exact⟨_,_,_,rfl,g1,q2,q3⟩
  |gone hi e' _=>simp only[bf,a05]at hi;subst hi;rw[g1]at e';cases e'
 |_=>exact g2.elim
theorem zW{ps:aS X.Γ}{ts:St}(hR:uQ X P A m ps ts){t:TypeId}{px pb:PE X.Γ}{ex:EV}(hx:Iy X P (AA A m) m ts.heap px ex){i:PV X.Γ}{ti:TV}(hi:VR X P (AA A m) m ts.heap i ti){qs:List Prop}(hl:FI X P t ps px i=some (pb,qs))(hq:∀q∈qs,q) :
  ∃eb,mF P t ex ti=some eb∧Iy X P (AA A m) m ts.heap pb eb:=by
 have U5:∀{k:IntKind} {iv:Int} {n:Nat},gq iv n->idx n (.int k iv)=some iv.toNat∧iv.toNat<n:=by
  intro k iv n hn;unfold gq at hn;refine⟨by simp only[idx];rw[a0p hn],by omega⟩
 have hpi:∀{n j:Nat},a2K X n i=some j->idx n ti=some j:=by
  intro n j hj;cases i<;>simp only[a2K]at hj<;>try (cases hj;done)
  cases hi with
  |int=>exact hj
  |gone e _ _=>simp[bf]at e
 unfold FI at hl;split at hl
 .rename_i e hu;split at hl
  .rename_i n t' l fu k iv hn;split at hl
   .rename_i ht;subst ht;simp only[a05,a0t]at hl;obtain⟨rfl,rfl⟩:=hl;have hr:=U5 (k:=k) (hq _ a3m);have:ti=.int k iv:=by
     cases hi with
     |int=>rfl
     |gone e _ _=>simp[bf]at e
    subst this;obtain⟨y,rfl,hy⟩:=fM hx;rcases a19 hy hn with⟨rfl,rfl⟩|⟨b,off,cap,ex',cs,rfl,hk,hc,JY,hw⟩
    .have:=hr.2;simp at this
    .have yH:=hw.row (Am hr.2);have hA:AA A m b:=by
      cases hy with
      |dB a=>exact a
      |gone e _ _=>simp[bf]at e
     have NH:=JY (by intro e0;rw[e0]at hr;have:=hr.2;simp at this);have hle:off+iv.toNat*n+n<=off+cap*n:=by
      have h1:(iv.toNat+1)*n<=cap*n:=a3X n (by have:=hr.2;omega);rw[a3E,abB]at h1;omega
     refine⟨.val (.ptr b (off+iv.toNat*n) (off+cap*n)),?_,?_⟩
     .simp only[mF,hu,hn,a2w,hr.1,a0v]
     .have:=VR.el (X:=X) (P:=P) (A:=AA A m) (m:=m) (h:=ts.heap) (t:=t') (a:=l.getD iv.toNat (X.d0 t')) (off:=0) (o:=off+iv.toNat*n) hA NH hle yH.2 (hw.1 _ _ (Am hr.2)) (a4K _) (fun i c v h1 h2=>hw.2.2 _ _ i c v (Am hr.2) h1 h2);exact nT (by simpa using this)
   .cases hl
  .rename_i n b k iv hn;split at hl
   .rename_i w ex' t' l hb;split at hl
    .rename_i ht;subst ht;simp only[a05,a0t]at hl;obtain⟨rfl,rfl⟩:=hl;have hr:=U5 (k:=k) (hq _ a3m);have:ti=.int k iv:=by
      cases hi with
      |int=>rfl
      |gone e _ _=>simp[bf]at e
     subst this;obtain⟨y,rfl,hy⟩:=fM hx;obtain⟨c,sz,x',rfl,g1,g2,g3⟩:=a9y hR hb hy (by intro e0;rw[e0]at hr;have:=hr.2;simp at this);rw[hn]at g2;cases g2;refine⟨.val (.ptr c (iv.toNat*n) (l.length*n)),?_,?_⟩
     .simp only[mF,hu,hn,a2w,hr.1,a0v,a4e]
     .have:=VR.row (X:=X) (P:=P) (A:=AA A m) (m:=m) (h:=ts.heap) (off:=0) g1 hr.2 (a4K n);exact nT (by simpa using this)
    .cases hl
   .cases hl
  .rename_i n b o q k iv hn;split at hl
   .rename_i w ex' t' l hb;split at hl
    .rename_i ht;subst ht;simp only[a05,a0t]at hl;obtain⟨rfl,rfl⟩:=hl;have hr:=U5 (k:=k) (hq _ a3m);have:ti=.int k iv:=by
      cases hi with
      |int=>rfl
      |gone e _ _=>simp[bf]at e
     subst this;obtain⟨y,rfl,hy⟩:=fM hx;obtain⟨mb,g1,g2⟩:=hR.heap.at_ b _ hb;cases mb with
     |dB z=>
      cases hy with
      |win e' w1 w2 w3=>
       rw[g1]at e';cases e';cases(g2:LR X P _ _ _ _ _ _ _ _)with
       |emp=>have:=hr.2;omega
       |some q1 q2 q3=>
        rw[hn]at q2;cases q2;have hp:=nT (VR.row (X:=X) (P:=P) (A:=AA A m) (m:=m) (h:=ts.heap) (j:=o+iv.toNat) (off:=0) g1 (by have:=hr.2;omega) (a4K n));refine⟨_,?_,hp⟩;have h3:=w3.resolve_left (by have:=hr.2;omega);simp only[mF,hu,hn,a2w,hr.1,a0v,a4e,a3E,adD,<-h3]
      |Ag e'=>have:=hr.2;omega
      |gone hi e' _=>simp only[bf,a05]at hi;subst hi;rw[g1]at e';cases e'
     |_=>exact g2.elim
    .cases hl
   .cases hl
  .rename_i n b off len cap sz ex' hn;split at hl
   .rename_i cs hb;split at hl
    .rename_i uX;subst uX;simp only[a0e,a0t]at hl;obtain⟨j,h1,rfl,rfl⟩:=hl;obtain⟨y,rfl,hy⟩:=fM hx;obtain⟨mb,g1,g2⟩:=hR.heap.at_ b _ hb;cases mb with
     |fU c=>
      cases hy with
      |slc e=>
       have:=hpi h1;rw[g1]at e;cases e;exact⟨.val (.ptr c (off+j*n) (off+cap*n)),by simp only[mF,hu,hn,a2w,this,a0v],VR.ptr g1⟩
      |gone xE e' _=>simp only[bf,a05]at xE;subst xE;rw[g1]at e';cases e'
     |_=>exact g2.elim
    .cases hl
   .cases hl
  .cases hl
 .rename_i len e hu;split at hl
  .rename_i n hn;split at hl
   .rename_i j hj;simp only[a0e,a0t]at hl;obtain⟨pa,h1,rfl,rfl⟩:=hl;obtain⟨eb,g1,g2⟩:=Ny hR hx h1;exact⟨eb,by simp only[mF,hu,hn,hpi hj,g1],g2⟩
   .cases hl
  .cases hl
 .cases hl
end
open Go Tw
section
variable {X:kQ} {P:Program} {A F:Nat->Prop} {m m':List MB} {h h':List HB} {H H':List (PB X.Γ)}
theorem YI(hr:HR X P A m H h){at_:Array TypeId}{x:PV X.Γ}{tx:TV}(hx:VR X P (AA A m) m h x tx){v:PV X.Γ}{pi:mg}(hl:ae0 X P at_ H x=some (v,pi)) :
  ∃w ti,Yx P at_ h tx=some (w,ti)∧VR X P (AA A m) m h v w∧IR m h ⟨pi,false,false,true⟩ ti∧ti.ws=[]:=by
 unfold ae0 at hl;split at hl
 .rename_i t ht;unfold Yx;simp only[ht];split at hl
  .rename_i s hu;cases hl;cases hx with
   |str=>exact⟨_,_,by first|(simp only[hu];done)|(simp only[hu];rfl),.int _ _,.none,rfl⟩
   |gone hi _ _=>simp[bf]at hi
  .rename_i n e _ hu;cases hl;exact⟨_,_,by first|(simp only[hu];done)|(simp only[hu];rfl),.int _ _,.none,rfl⟩
  .rename_i e b off len cap sz ex hu;split at hl
   .rename_i cs hb;cases hl;obtain⟨mb,g1,g2⟩:=hr.at_ b _ hb;cases mb with
    |fU c=>
     cases hx with
     |slc e'=>exact⟨_,_,by first|(simp only[hu];done)|(simp only[hu];rfl),.int _ _,.none,rfl⟩
     |gone hi e' _=>simp only[bf,a05]at hi;subst hi;rw[g1]at e';cases e'
    |_=>exact g2.elim
   .cases hl
  .rename_i e hu;cases hl;cases hx with
   |nil=>exact⟨_,_,by first|(simp only[hu];done)|(simp only[hu];rfl),.int _ _,.none,rfl⟩
   |gone hi _ _=>simp[bf]at hi
  .rename_i e t' l fu hu;cases hl;cases hx with
   |oM=>exact⟨_,_,by first|(simp only[hu];done)|(simp only[hu];rfl),.int _ _,.none,rfl⟩
   |dB=>exact⟨_,_,by first|(simp only[hu];done)|(simp only[hu];rfl),.int _ _,.none,rfl⟩
   |gone hi _ _=>simp[bf]at hi
  .rename_i e b hu;split at hl
   .rename_i k ex t' l hb;cases hl;obtain⟨mb,g1,g2⟩:=hr.at_ b _ hb;cases mb with
    |dB z=>
     cases hx with
     |own e' _=>
      rw[g1]at e';cases e';cases(g2:LR X P _ _ _ _ _ _ _ _)with
      |nil=>exact⟨_,_,by first|(simp only[hu];done)|(simp only[hu];rfl),.int _ _,.none,rfl⟩
      |emp=>exact⟨_,_,by first|(simp only[hu];done)|(simp only[hu];rfl),.int _ _,.none,rfl⟩
      |some=>exact⟨_,_,by first|(simp only[hu];done)|(simp only[hu];rfl),.int _ _,.none,rfl⟩
     |gone hi e' _=>simp only[bf,a05]at hi;subst hi;rw[g1]at e';cases e'
    |_=>exact g2.elim
   .cases hl
  .rename_i e b o n hu;split at hl
   .rename_i k ex t' l hb;cases hl;obtain⟨mb,g1,g2⟩:=hr.at_ b _ hb;cases mb with
    |dB z=>
     cases hx with
     |win=>exact⟨_,_,by first|(simp only[hu];done)|(simp only[hu];rfl),.int _ _,.none,rfl⟩
     |Ag=>exact⟨_,_,by first|(simp only[hu];done)|(simp only[hu];rfl),.int _ _,.none,rfl⟩
     |gone hi e' _=>simp only[bf,a05]at hi;subst hi;rw[g1]at e';cases e'
    |_=>exact g2.elim
   .cases hl
  .rename_i kt e hu;cases hl;cases hx with
   |nil=>exact⟨_,_,by first|(simp only[hu];done)|(simp only[hu];rfl),.int _ _,.none,rfl⟩
   |gone hi _ _=>simp[bf]at hi
  .rename_i kt e r hu;split at hl
   .rename_i es hb;cases hl;obtain⟨mb,g1,g2⟩:=hr.at_ r _ hb;cases mb with
    |fU c=>
     obtain⟨fQ,g3,g4,g5⟩:=g2;cases hx with
     |map e'=>
      rw[g1]at e';cases e';exact⟨_,_,by first|(simp only[hu,g3];done)|(simp only[hu,g3];rfl),by rw[g4];exact .int _ _,.rdH (iP g1 rfl) (a0c.1 g3).1,rfl⟩
     |gone hi e' _=>simp only[bf,a05]at hi;subst hi;rw[g1]at e';cases e'
    |_=>exact g2.elim
   .cases hl
  .cases hl
 .cases hl
def a5R:BinOp->Option TV
 |.eql=>some (.bool false)
 |.neq=>some (.bool true)
 |_=>none
theorem YG{op:BinOp}{t:TypeId}{x y:Operand}{a b:PV X.Γ}{ta tb:TV}(ha:VR X P A m h a ta)(hb:VR X P A m h b tb){v:PV X.Γ}(hl:ae1 X P op t x y a b=some v):∃w,sF P op t x y ta tb=some w∧VR X P A m h v w:=by
 unfold ae1 at hl;split at hl
 .rename_i u w h1 h2;split at hl
  .rename_i r hr;rw[jL ha h1,jL hb h2];exact⟨r,hr,wR hl⟩
  cases hl
 rename_i Yr;split at hl
 rotate_left
 .cases hl
 rename_i hn;have key:∃k,JO P t=some k∧((ta=.nil k∧JM tb=some k∧tb.yB=none)∨(tb=.nil k∧JM ta=some k∧ta.yB=none)):=by
  unfold a0V at hn;split at hn
  rotate_left
  .cases hn
  rename_i k hk;refine⟨k,hk,?_⟩;simp only[a8X,a2o,a6H]at hn;have ahY:∀{z:PV X.Γ} {tz:TV},VR X P A m h z tz->z=.nil k->tz=.nil k:=by
   intro z tz hz e;subst e;cases hz with
   |nil=>rfl
   |gone hi _ _=>simp[bf]at hi
  have abS:∀{z:PV X.Γ} {tz:TV},VR X P A m h z tz->(match z with|.fn _ _ _=>some NK.fn|.el _ _ _=>some NK.ptr|_=>none)=some k->JM tz=some k∧tz.yB=none:=by
   intro z tz hz e;cases hz with
   |fn=>exact⟨e,rfl⟩
   |el=>exact⟨e,rfl⟩
   |gone hi _ _=>cases z<;>simp[bf]at hi<;>simp at e
   |_=>simp at e
  have ahZ:∀{z:PV X.Γ},(match z with|.nil k=>some k|_=>none)=some k->z=.nil k:=by
   intro z e;cases z<;>simp at e
   rw[e]
  rcases hn with⟨h1,h2⟩|⟨h1,h2⟩
  .have:=abS hb h2;exact .inl ⟨ahY ha (ahZ h1),this.1,this.2⟩
  have:=abS ha h1;exact .inr ⟨ahY hb (ahZ h2),this.1,this.2⟩
 obtain⟨k,hk,hc⟩:=key;have ae9:sF P op t x y ta tb=a5R op:=by
  rcases hc with⟨rfl,h2,h3⟩|⟨rfl,h2,h3⟩
  .have hnn:BU P t (.nil k) tb=true:=by unfold BU;rw[hk];simp[Yy,h2]
   unfold sF;rw[h3];cases(TV.nil k).yB<;>simp only[hnn,a2w]<;>cases op<;>rfl
  have hnn:BU P t ta (.nil k)=true:=by unfold BU;rw[hk];simp[Yy,h2]
  unfold sF;rw[h3];simp only[hnn,a2w];cases op<;>rfl
 rw[ae9];cases op<;>simp only at hl ⊢<;>try (cases hl;done)
 .cases hl;exact⟨_,rfl,.bool _⟩
 cases hl;exact⟨_,rfl,.bool _⟩
theorem Om{op:BinOp}{t:TypeId}{x y:Operand}{b:PV X.Γ}{ta tb:TV}(hb:VR X P A m h b tb){v:PV X.Γ}{q q':Prop}(hl:LX X P op t b q=some (v,q'))(hq:q')(h2:q->JM ta=some .slc∧ta.yB=none):∃w,sF P op t x y ta tb=some w∧VR X P A m h v w:=by
 unfold LX at hl;split at hl
 .rename_i hk;have h1:tb=.nil .slc:=by
   cases hb with
   |nil=>rfl
   |gone hi _ _=>simp[bf]at hi
  subst h1;have key:q->sF P op t x y ta (.nil .slc)=a5R op:=fun hq=>by
   obtain⟨h2,h3⟩:=h2 hq;have hnn:BU P t ta (.nil .slc)=true:=by unfold BU;rw[hk];simp[Yy,h2]
   unfold sF;rw[h3];simp only[hnn,a2w];cases op<;>rfl
  split at hl
  .cases hl;rw[key hq];exact⟨_,rfl,.bool _⟩
  .cases hl;rw[key hq];exact⟨_,rfl,.bool _⟩
  cases hl
 cases hl
theorem a2Q(hr:HR X P A m H h){op:BinOp}{t:TypeId}{x y:Operand}{a b:PV X.Γ}{ta tb:TV}(ha:VR X P (AA A m) m h a ta)(hb:VR X P (AA A m) m h b tb){v:PV X.Γ}{q:Prop}(hl:Ug X P op t H a b=some (v,q))(hq:q):∃w,sF P op t x y ta tb=some w∧VR X P (AA A m) m h v w:=by
 unfold Ug at hl;split at hl
 .rename_i l fu;refine Om hb hl hq (fun iC=>?_);cases ha with
  |oM=>exact absurd rfl iC
  |dB=>exact⟨rfl,rfl⟩
  |gone hi _ _=>simp[bf]at hi
 .rename_i i;split at hl
  .rename_i k ex t' l hi;refine Om hb hl hq (fun iC=>?_);obtain⟨mb,g1,g2⟩:=hr.at_ i _ hi;cases ha with
   |own e o=>
    rw[g1]at e;cases e;cases g2 with
    |nil=>exact absurd rfl iC
    |emp=>exact absurd rfl iC
    |some=>exact⟨rfl,rfl⟩
   |gone hi e _=>simp only[bf,a05]at hi;subst hi;rw[g1]at e;cases e<;>exact g2.elim
  cases hl
 cases hl
theorem iQ{op:UnOp}{a:PV X.Γ}{ta:TV}(ha:VR X P A m h a ta){v:PV X.Γ}(hl:pun X P op a=some v):∃w,unT P op ta=some w∧VR X P A m h v w:=by
 unfold pun at hl;split at hl
 .rename_i u h1;split at hl
  .rename_i r hr;rw[jL ha h1];exact⟨r,hr,wR hl⟩
  cases hl
 cases hl
theorem TT{s d:TypeId}{a:PV X.Γ}{ta:TV}(ha:VR X P A m h a ta){v:PV X.Γ}(hl:a5A X P s d a=some v):∃w,QC P s d ta=some w∧VR X P A m h v w:=by
 unfold a5A at hl;split at hl
 .rename_i u h1;split at hl
  .rename_i r hr;rw[jL ha h1];exact⟨r,hr,wR hl⟩
  cases hl
 cases hl
theorem yP{mx:Bool}{at_:Array TypeId}{t:TypeId}{az:List (PV X.Γ)}{ts:List TV}(ha:bU X P A m h az ts){v:PV X.Γ}(hl:LY X P mx at_ t az=some v):∃w,DN P mx at_ t ts=some w∧VR X P A m h v w:=by
 unfold LY at hl;split at hl
 .rename_i u h1;split at hl
  .rename_i r hr;rw[a14 ha h1];exact⟨r,hr,wR hl⟩
  cases hl
 cases hl
theorem Nz{t:TypeId}{x:PV X.Γ}{tx:TV}(hx:VR X P A m h x tx){i:Nat}{v:PV X.Γ}(hl:Zi X P t x i=some v):∃w,N9 P t tx i=some w∧VR X P A m h v w:=by
 unfold Zi at hl;split at hl
 .rename_i fs cs hu;split at hl
  .rename_i f hf;cases hx with
   |agg h1 h2=>
    obtain⟨w,g1,g2⟩:=Ai ⟨h1,h2⟩ hl;exact⟨w,by simp only[N9,hu,hf,g1],g2⟩
   |gone hi _ _=>simp[bf]at hi
  cases hl
 cases hl
theorem NC{t:TypeId}{x i:PV X.Γ}{tx ti:TV}(hx:VR X P A m h x tx)(hi:VR X P A m h i ti){v:PV X.Γ}(hl:Zj X P t x i=some v):∃w,Iz P t tx ti=some w∧VR X P A m h v w:=by
 unfold Zj at hl;split at hl
 .rename_i len e cs hu;split at hl
  .rename_i n j hn hj;have:idx len ti=some j:=by
    cases i<;>simp only[a2K]at hj<;>try (cases hj;done)
    cases hi with
    |int=>exact hj
    |gone e _ _=>simp[bf]at e
   cases hx with
   |agg h1 h2=>
    obtain⟨w,g1,g2⟩:=Ai ⟨h1,h2⟩ hl;exact⟨w,by simp only[Iz,hu,hn,this,g1],g2⟩
   |gone hi _ _=>simp[bf]at hi
  cases hl
 cases hl
end
open Go Tw
section
variable {X:kQ} {P:Program} {A F:Nat->Prop} {m m':List MB} {h h':List HB} {H H':List (PB X.Γ)}
theorem Hf:∀{is:List Nat} {H:List (PB X.Γ)} {i:Nat} {pb:PB X.Γ},(aX is H)[i]? = some pb->(i∈is∧pb=.gone)∨(i∉is∧H[i]? = some pb)
 | [],_,_,_,h=>.inr ⟨by simp,h⟩
 |j::is,H,i,pb,h=>by
  rcases Hf (is:=is) (H:=WA j H) h with⟨h1,h2⟩|⟨h1,h2⟩
  .exact .inl ⟨a3n _ h1,h2⟩
  unfold WA at h2;by_cases e:j=i
  .subst e;rw[a4o]at h2;cases hx:H[j]? with
   |none=>rw[hx]at h2;cases h2
   |some y=>rw[hx]at h2;cases h2;exact .inl ⟨a3m,rfl⟩
  rw[a1q e]at h2;exact .inr ⟨by simp[h1,Ne.symm e],h2⟩
theorem qG(hr:HR X P A m H h)(is:List Nat){k ex x:Bool}{e size:Nat}{rows:List (X.Γ e)}{cs:List TV}(hw:eu X P (FA A m is) (bT is m) h e rows cs 0 size)(hc:cs.length=rows.length*size)(hn:rows≠[])(hz:dD P e=some size)(h0:0<size)(hx:ex=true->x=true) :
  ∃m1,HR X P A m1 (aX is H++[.list k ex e rows]) (h++[.cells .own cs])∧Fr m h m1 (h++[.cells .own cs])∧Up m m1∧VR X P (AA A m1) m1 (h++[.cells .own cs]) (.own H.length) (.slc h.length 0 rows.length rows.length size x):=by
 have hgo:=hr.aX is;have Qn:=iq (h:=h) is m;have vK:(MB.dB (.slc h.length 0 rows.length rows.length size x)).own=some h.length:=by simp only[MB.own];rw[a0o (by simpa using hn)]
 have hF:Fr (bT is m) h (bT is m++[.dB (.slc h.length 0 rows.length rows.length size x)]) (h++[.cells .own cs]):=by
  refine⟨by simp,fun b hb _=>by rw[a0j hb],fun b hb=>?_,fun b cs hc=>⟨cs,by rw[fK (a0j (gU hc)),hc],a1b _⟩⟩;rw[iZ,a3k,kE,vK]at hb;rcases hb with hb|hb
  .exact .inl hb
  .simp at hb;exact .inr (by omega)
 obtain⟨h1,h2,h3⟩:=hgo.push (pb:=.list k ex e rows) (hb:=.cells .own cs) (.inl vK)
  (LR.some (kk:=.own) hn hz h0 (by simp) (by simp) (fun _=>rfl) hx hc ((hw.mono fun b hb=>hb.gone hr).step hF (wQ _)))
 refine⟨_,h1,Qn.1.trans h2,Qn.2.trans h3,.own ?_ rfl⟩;rw[<-hr.len,<-mP is m];simp
theorem RQ(hr:HR X P A m H h)(is:List Nat){k ex:Bool}{e:Nat}{y:TV}(hy:(MB.dB y).own=none)(ho:iR y=true)(hl:LR X P (AA A (bT is m++[.dB y])) (bT is m++[.dB y]) h k ex e [] y) :
  ∃m1,HR X P A m1 (aX is H++[.list k ex e []]) h∧Fr m h m1 h∧Up m m1∧VR X P (AA A m1) m1 h (.own H.length) y:=by
 have Qn:=iq (h:=h) is m;obtain⟨h1,h2,h3⟩:=(hr.aX is).abR (pb:=.list k ex e []) hy hl;refine⟨_,h1,Qn.1.trans h2,Qn.2.trans h3,.own ?_ ho⟩;rw[<-hr.len,<-mP is m];simp
theorem a9z(hr:HR X P A m H h){is:List Nat}{y:TV}(hy:(MB.dB y).own=none){b:Nat}(hb:FA A m is b):AA A (bT is m++[.dB y]) b:=by
 have:=hb.gone hr;refine⟨this.1,fun hm=>this.2 ?_⟩;rw[iZ,a3k,kE,hy]at hm;simpa using hm
theorem push_empty(hr:HR X P A m H h)(is:List Nat){k ex:Bool}{e size b off:Nat}{cs:List TV}(hz:dD P e=some size)(h0:0<size)(ha:FA A m is b)(hb:aV h b=some cs)(ho:off<=cs.length) :
  ∃m1,HR X P A m1 (aX is H++[.list k ex e []]) h∧Fr m h m1 h∧Up m m1∧VR X P (AA A m1) m1 h (.own H.length) (.slc b off 0 0 size true):=
 RQ hr is rfl rfl (LR.emp (a9z hr rfl ha) hb ho hz h0)
theorem Oo(hr:HR X P A m H h)(is:List Nat){k ex:Bool}{e:Nat} :
  ∃m1,HR X P A m1 (aX is H++[.list k ex e []]) h∧Fr m h m1 h∧Up m m1∧VR X P (AA A m1) m1 h (.own H.length) (.nil .slc):=
 RQ hr is rfl rfl .nil
theorem Oq(hr:HR X P A m H h){b c:Nat}(is:List Nat){mb LZ:MB}{pb:PB X.Γ}{h1:List HB}(hb:m[b]? = some mb)(ho:mb.own=some c)(ho':LZ.own=some c)(hlen:h1.length=h.length)(hs:∀d,d≠c->h1[d]? = h[d]?)
  (hg:∀cs,aV h c=some cs->∃cs',aV h1 c=some cs'∧cs.length<=cs'.length)
  (qK:Fr m h (bT (b::is) m++[LZ]) h1->Up m (bT (b::is) m++[LZ])->BR X P (AA A (bT (b::is) m++[LZ])) (bT (b::is) m++[LZ]) h1 pb LZ) :
  ∃m1,m1=bT (b::is) m++[LZ]∧HR X P A m1 (aX (b::is) H++[pb]) h1∧Fr m h m1 h1∧Up m m1∧m1[H.length]? = some LZ:=by
 have Qn:=iq (h:=h) (b::is) m;have hgo:=hr.aX (b::is);have hnc:c∉bn (bT (b::is) m):=fun hm=>by
  obtain⟨j,mbj,g1,g2,g3⟩:=Aj hm;have:=iU hr.nodup hb g2 ho g3;exact g1 (by rw[<-this];exact a3m)
 have yQ:∀d,d∈bn (bT (b::is) m++[LZ])↔d∈bn (bT (b::is) m)∨d=c:=by
  intro d;rw[iZ,a3k,kE,ho'];simp
 have FQ:c∈bn m:=aZ hb ho;have hF:Fr m h (bT (b::is) m++[LZ]) h1:=by
  refine⟨by omega,fun d hd hn=>hs d fun e=>hn (e▸FQ),fun d hd=>?_,fun d cs hc=>?_⟩
  .rcases(yQ d).1 hd with hd|rfl
   .exact Qn.1.new d hd
   .exact .inl FQ
  .by_cases e:d=c
   .subst e;exact hg cs hc
   .exact⟨cs,by rw[fK (hs d e),hc],a1b _⟩
 have hU:Up m (bT (b::is) m++[LZ]):=Qn.2.trans (wQ _);refine⟨_,rfl,?_,hF,hU,?_⟩
 .refine hr.next hF hU (by simp[mP,nR,hr.len]) ?_ fun i pbi hi=>?_
  .rw[iZ,kE,ho'];refine a8P.2 ⟨hgo.nodup,by simp,fun a ha b' xX e=>?_⟩;simp at xX;subst xX;subst e;exact hnc ha
  .rcases a4l i (aX (b::is) H).length with aQ|EI
   .rw[a0j aQ]at hi;have a5S:i<(bT (b::is) m).length:=by rw[hgo.len];exact aQ
    rcases Hf hi with⟨e1,rfl⟩|⟨e1,e2⟩
    .obtain⟨mbi,g1,g2⟩:=hgo.at_ i _ hi;cases mbi with
     |gone=>exact .inr ⟨.gone,by rw[a0j a5S];exact g1,trivial⟩
     |_=>exact g2.elim
    .obtain⟨mbi,g1,_⟩:=hr.at_ i _ e2;left;have hm:=GY (b::is) g1;rw[show(b::is).contains i=false by simpa using e1]at hm;refine⟨mbi,e2,g1,by rw[a0j a5S];simpa using hm,fun d hd=>hs d fun e=>?_⟩;subst e;have:=iU hr.nodup hb g1 ho hd;exact e1 (by rw[<-this];exact a3m)
   .rw[a1c EI]at hi;have:i-(aX (b::is) H).length=0:=by
     rcases abC (i-(aX (b::is) H).length)with h|h
     .exact h
     .rw[a4h (by simp;omega)]at hi;cases hi
    rw[this]at hi;simp only[a2V,a05]at hi;subst hi;exact .inr ⟨LZ,by rw[a1c (by rw[hgo.len];exact EI),hgo.len,this];rfl,qK hF hU⟩
 .have:H.length=(bT (b::is) m).length:=by rw[mP,hr.len]
  rw[this];simp
end
open Go Tw
section
variable {X:kQ} {P:Program} {A F:Nat->Prop} {m m':List MB} {h h':List HB} {H H':List (PB X.Γ)}
def WM(X:kQ)(P:Program)(A:Nat->Prop)(m:List MB)(ts:St)(r:Option (TV×St×mg))(v:PV X.Γ)(H1:List (PB X.Γ))(pi:PI):Prop:=
 ∃w h1 ti m1,r=some (w,{ ts with heap:=h1 },ti)∧HR X P A m1 H1 h1∧VR X P (AA A m1) m1 h1 v w∧Fr m ts.heap m1 h1∧Up m m1∧IR m ts.heap pi ti∧∀b,.h b∈ti.ws->b∈bn m
theorem nU{e:TypeId}{n k:Nat}(hb:tY P e n=true)(hk:k<=n):tY P e k=true:=by
 unfold tY at hb ⊢;split at hb
 .rename_i i hi;simp only[a2o,a1Q]at hb ⊢;obtain⟨⟨⟨⟨h1,h2⟩,h3⟩,h4⟩,h5⟩:=hb;have:=a3X i.bytes hk;exact⟨⟨⟨⟨by omega,by omega⟩,h3⟩,h4⟩,h5⟩
 cases hb
theorem nV{t e:TypeId}{n:Nat}(hs:jF P t=some (e,n)):dD P e=some n∧0<n:=by
 unfold jF at hs;split at hs
 .split at hs
  .rename_i k hk;split at hs
   .cases hs
   rename_i h0;simp only[a05,a0t]at hs;obtain⟨rfl,rfl⟩:=hs;exact⟨hk,by omega⟩
  cases hs
 cases hs
theorem vM(hr:HR X P A m H h){e sz:Nat}{x:PV X.Γ}{tx:TV}(hv:VR X P (AA A m) m h x tx)(hz:dD P e=some sz){rows:List (X.Γ e)}{is:List Nat}(hs:Ae X H e sz x=some (rows,is)){b:Nat}(hb:.h b∈dH tx):((∃i,.h i∈CQ X x∧He m i b)∨b∉bn m)∧b<h.length:=by
 have lr:∀{i:Nat} {k ex:Bool} {t:Nat} {l:List (X.Γ t)} {c off len cap s:Nat} {e':Bool},H[i]? = some (.list k ex t l)->m[i]? = some (.dB (.slc c off len cap s e'))->(He m i c∨c∉bn m)∧c<h.length:=by
  intro i k ex t l c off len cap s e' hH hm;obtain⟨mb,g1,g2⟩:=hr.at_ i _ hH;rw[hm]at g1;cases g1;cases(g2:LR X P _ _ _ _ _ _ _ _)with
  |emp h0 h1=>exact⟨.inr h0.2,gU h1⟩
  |some q1 q2 q3 q4=>exact⟨.inl (iP hm (by simp only[MB.own];rw[a0o (by simpa using q1)])),(a0c.1 q4).1⟩
 cases x with
 |nil k=>
  cases hv with
  |nil=>simp[dH]at hb
  |gone hi _ _=>simp[bf]at hi
 |dB t l fu=>
  cases hv with
  |oM=>simp[dH]at hb
  |dB a ac=>simp[dH]at hb;subst hb;exact⟨.inr a.2,gU ac⟩
  |gone hi _ _=>simp[bf]at hi
 |own i=>
  simp only[Ae]at hs;split at hs
  .rename_i k ex t l hH;cases hv with
   |own e' o=>
    cases tx<;>simp[dH]at hb
    subst hb;obtain⟨h1,h2⟩:=lr hH e';rcases h1 with h1|h1
    .exact⟨.inl ⟨i,by simp[CQ],h1⟩,h2⟩
    exact⟨.inr h1,h2⟩
   |gone hi e' _=>
    simp only[bf,a05]at hi;subst hi;obtain⟨mb,g1,g2⟩:=hr.at_ i _ hH;rw[g1]at e';cases e'<;>exact g2.elim
  cases hs
 |win i o n=>
  simp only[Ae]at hs;split at hs
  .rename_i k ex t l hH;cases hv with
   |win e' q q'=>
    simp[dH]at hb;subst hb;obtain⟨h1,h2⟩:=lr hH e';rcases h1 with h1|h1
    .exact⟨.inl ⟨i,by simp[CQ],h1⟩,h2⟩
    exact⟨.inr h1,h2⟩
   |Ag=>simp[dH]at hb
   |gone hi e' _=>
    simp only[bf,a05]at hi;subst hi;obtain⟨mb,g1,g2⟩:=hr.at_ i _ hH;rw[g1]at e';cases e'<;>exact g2.elim
  cases hs
 |slc c off len cap s ex=>
  simp only[Ae]at hs;split at hs
  .rename_i cs hH;cases hv with
   |slc e'=>
    simp[dH]at hb;subst hb;obtain⟨mb,g1,g2⟩:=hr.at_ c _ hH;rw[e']at g1;cases g1;exact⟨.inl ⟨c,by simp[CQ],iP e' rfl⟩,g2.has rfl⟩
   |gone hi e' _=>
    simp only[bf,a05]at hi;subst hi;obtain⟨mb,g1,g2⟩:=hr.at_ c _ hH;rw[g1]at e';cases e'<;>exact g2.elim
  cases hs
 |_=>simp[Ae]at hs
theorem IR.reads{p:PI}{ks:List Key}(hp:p.hp=true)(hk:∀b,.h b∈ks->((∃i,.h i∈p.i.ts∧He m i b)∨b∉bn m)∧b<h.length)(hl:∀k,.l k∉ks):IR m h p (gY ks):=
 ⟨fun h=>(by cases h),fun k h=>absurd h (hl k),fun k h=>(by cases h),fun b h=>(by cases h),hk,fun h=>(by rw[hp]at h;cases h)⟩
theorem oO{tx:TV}{k:Nat}:Key.l k∉dH tx:=by cases tx<;>simp[dH]
theorem IK(hX:bM X P){ps:aS X.Γ}{ts:St}(hR:uQ X P A m ps ts){at_:Array TypeId}{d x:PV X.Γ}{td tx:TV}(hd:VR X P (AA A m) m ts.heap d td)(hx:VR X P (AA A m) m ts.heap x tx){v:PV X.Γ}{H1:List (PB X.Γ)}{pi:mg}{qs:List Prop}
  (hl:Uf X P at_ ps.heap d x=some (v,H1,pi,qs)) (hq:∀q∈qs,q):WM X P A m ts (jZ P at_ ts td tx) v H1 ⟨pi,false,false,true⟩:=by
 have hr:=hR.heap;unfold Uf at hl;split at hl
 .rename_i st xt vT Ko;split at hl
  .cases hl
  .rename_i hint;split at hl
   .rename_i e size zO;split at hl
    .rename_i KX;obtain⟨hz,h0⟩:=nV zO;split at hl
     .rename_i rows is hs;obtain⟨new,s1,s2,s3⟩:=Ut (m':=bT is m) hX hr hx hz hs;have hk0:IR m ts.heap ⟨gY (CQ X x),false,false,true⟩ (gY (dH tx)):=IR.reads rfl (fun b hb=>vM hr hx hz hs hb) fun k=>oO;have hrn:rows.length=0↔rows=[]:=a7v;split at hl
      .-- nil
       simp only[a05,a0t]at hl;obtain⟨rfl,rfl,rfl,rfl⟩:=hl;have JU:rows.length<=ah:=hq _ a3m;have:td=.nil .slc:=by
        cases hd with
        |nil=>rfl
        |gone hi _ _=>simp[bf]at hi
       subst this;by_cases hn:rows=[]
       .subst hn;obtain⟨m1,g1,g2,g3,g4⟩:=Oo hr is (k:=true) (ex:=false) (e:=e);exact⟨_,ts.heap,_,m1,by unfold jZ;simp only[vT,Ko,hint,a3T,zO,s1,a4R,a2w,a2P],g1,g4,g2,g3,hk0,fun b hb=>by simp[gY]at hb⟩
       .obtain⟨m1,g1,g2,g3,g4⟩:=qG hr is (k:=true) (ex:=false) (x:=false) s3 s2 hn hz h0 (by simp);refine⟨_,ts.heap++[.cells .own new],_,m1,?_,g1,g4,g2,g3,hk0,fun b hb=>by simp[gY]at hb⟩;unfold jZ;simp only[vT,Ko,hint,a3T,zO,s1,a2P,hrn,hn,s2,a2w,nU KX JU]
      .-- an own list
       rename_i b;split at hl
       .rename_i k ex t' l hb;split at hl
        .cases hl
        rename_i hnb;split at hl
        .rename_i l2 Ot;obtain⟨rfl,rfl⟩:=uy Ot;simp only[a05,a0t]at hl;obtain⟨rfl,rfl,rfl,rfl⟩:=hl;have JU:l2.length+rows.length<=ah:=hq _ a3m;obtain⟨mb,g1,g2⟩:=hr.at_ b _ hb;have VE:∀{c:Nat},He m b c∨c∉bn m->c<ts.heap.length->IR m ts.heap ⟨⟨false,.h b::CQ X x,[.h b]⟩,false,false,true⟩ (gY (.h c::dH tx)):=fun{c} hc aQ=>IR.reads rfl (fun d hd=>by
          rcases a2y.1 hd with e0|e0
          .cases e0;rcases hc with hc|hc
           .exact⟨.inl ⟨b,a3m,hc⟩,aQ⟩
           .exact⟨.inr hc,aQ⟩
          .obtain⟨h0,h9⟩:=vM hr hx hz hs e0;rcases h0 with⟨i,h1,h2⟩|h1
           .exact⟨.inl ⟨i,a3n _ h1,h2⟩,h9⟩
           .exact⟨.inr h1,h9⟩) fun j hj=>by
            rcases a2y.1 hj with e0|e0
            .cases e0
            .exact oO e0
         have kC:IR m ts.heap ⟨⟨false,.h b::CQ X x,[.h b]⟩,false,false,true⟩ (gY (dH tx)):=IR.reads rfl (fun d hd=>by
          obtain⟨h0,h9⟩:=vM hr hx hz hs hd;rcases h0 with⟨i,h1,h2⟩|h1
          .exact⟨.inl ⟨i,a3n _ h1,h2⟩,h9⟩
          .exact⟨.inr h1,h9⟩) fun j hj=>oO hj
         cases mb with
         |dB z=>
          cases hd with
          |gone hi e' _=>simp only[bf,a05]at hi;subst hi;rw[g1]at e';cases e'
          |own e' o=>
           rw[g1]at e';cases e';have hlr:LR X P (AA A m) m ts.heap k ex t' l2 td:=g2;have TY:eu X P (FA A m (b::is)) (bT (b::is) m) ts.heap t' rows new 0 size:=(s3.mono fun c hc=>FA.mono (fun i hi=>a3n _ hi) hc).jh hX;cases hlr with
           |nil=>
            simp only[aag];by_cases hn:rows=[]
            .subst hn;obtain⟨m1,f1,f2,f3,f4⟩:=Oo hr (b::is) (k:=k&&ex) (ex:=false) (e:=t');exact⟨_,ts.heap,_,m1,by unfold jZ;simp only[vT,Ko,hint,a3T,zO,s1,a4R,a2w,a2P],f1,f4,f2,f3,kC,fun c hc=>by simp[gY]at hc⟩
            .obtain⟨m1,f1,f2,f3,f4⟩:=qG hr (b::is) (k:=k&&ex) (ex:=false) (x:=false) TY s2 hn hz h0 (by simp);refine⟨_,ts.heap++[.cells .own new],_,m1,?_,f1,f4,f2,f3,kC,fun c hc=>by simp[gY]at hc⟩;unfold jZ;simp only[vT,Ko,hint,a3T,zO,s1,a2P,hrn,hn,s2,a2w,nU KX (show rows.length<=ah by omega)]
           |emp p0 p1 p2 p3 p4=>
            rename_i c off sz cs;rw[hz]at p3;cases p3;simp only[aag];by_cases hn:rows=[]
            .subst hn;obtain⟨m1,f1,f2,f3,f4⟩:=push_empty hr (b::is) (k:=k&&ex) (ex:=false) hz h0 (.inl p0) p1 p2;exact⟨_,ts.heap,_,m1,by unfold jZ;simp only[vT,Ko,hint,a3T,zO,s1,a4R,a2w,a2P],f1,f4,f2,f3,kC,fun c hc=>by simp[gY]at hc⟩
            .obtain⟨m1,f1,f2,f3,f4⟩:=qG hr (b::is) (k:=k&&ex) (ex:=false) (x:=false) TY s2 hn hz h0 (by simp);refine⟨_,ts.heap++[.cells .own new],_,m1,?_,f1,f4,f2,f3,VE (c:=c) (.inr p0.2) (gU p1),fun c hc=>by simp[gY]at hc⟩;have oK:fE size ts.heap (.slc c off 0 0 size true)=some (0,[]):=(by simp[fE]);unfold jZ;simp only[vT,Ko,hint,a3T,zO,s1,a2P,hrn,hn,s2,a2w,a4e,Nat.le_zero_eq,nU KX (show rows.length<=ah by omega),oK,a0v,aag]
           |some p1 p2 p3 p4 p5 p6 p7 p8 p9=>
            rename_i c sz xx kk cs;rw[hz]at p2;cases p2;have vK:(MB.dB (TV.slc c 0 l2.length l2.length size xx)).own=some c:=by simp only[MB.own];rw[a0o (by simpa using p1)]
            by_cases hn:rows=[]
            .subst hn;simp only[a5W];obtain⟨m1,f0,f1,f2,f3,f4⟩:=Oq (pb:=.list (k&&ex) false t' l2) hr is g1 vK vK rfl (fun _ _=>rfl) (fun cs hc=>⟨cs,hc,a1b _⟩) (fun hF hU=>LR.some p1 hz p3 p4 p5 (fun hk=>p6 (by simp at hk;exact hk.1)) (by simp) p8 (p9.step hF hU));exact⟨_,ts.heap,_,m1,by unfold jZ;simp only[vT,Ko,hint,a3T,zO,s1,a4R,a2w,a2P],f1,.own f4 rfl,f2,f3,kC,fun c hc=>by simp[gY]at hc⟩
            .have hle:¬l2.length+rows.length<=l2.length:=by
              have:rows.length≠0:=fun e0=>hn (hrn.1 e0);omega
             have iC:l2++rows≠[]:=(by simp[p1]);cases xx with
             |true=>
              have hold:fE size ts.heap (.slc c 0 l2.length l2.length size true)=some (l2.length,cs):=by
               simp only[fE,a2w];rw[a0o (fun e0=>p1 (a7v.1 e0)),wM p4 (by omega)];simp only[sub];rw[a0p (by omega),abx,a9K (by omega)];rfl
              have hw1:eu X P (FA A m (b::is)) (bT (b::is) m) ts.heap t' l2 cs 0 size:=(p9.mono fun c hc=>.inl hc).jh hX;obtain⟨m1,f1,f2,f3,f4⟩:=qG hr (b::is) (k:=k&&ex) (ex:=false) (x:=false) (hw1.app TY p8) (by rw[a2j,a2j,a3E,p8,s2]) iC hz h0 (by simp);refine⟨_,ts.heap++[.cells .own (cs++new)],_,m1,?_,f1,f4,f2,f3,VE (c:=c) (.inl (iP g1 vK)) (a0c.1 p4).1,fun c hc=>by simp[gY]at hc⟩;unfold jZ;simp only[vT,Ko,hint,a3T,zO,s1,a2P,hrn,hn,s2,a2w,hle,nU KX JU,hold,a0v,a2j]
             |false=>
              have hex:ex=false:=by cases ex with
               |true=>exact absurd (p7 rfl) (by simp)
               |false=>rfl
              subst hex;have aQ:=(a0c.1 p4).1;obtain⟨m1,f0,f1,f2,f3,f4⟩:=Oq (pb:=.list (k&&false) false t' (l2++rows)) (h1:=ts.heap.set c (.cells kk.more (cs++new))) (LZ:=.dB (.slc c 0 (l2.length+rows.length) (l2.length+rows.length) size false)) hr is g1 vK
               (by simp only[MB.own];rw[a0o (by omega)]) (by simp) (fun d hd=>a1q (Ne.symm hd)) (fun WJ JY=>⟨cs++new,by simp[aV,aQ],by
                simp only[aV,p4,a05]at JY;subst JY;simp⟩) (fun hF hU=>by
                have Qn:=iq (h:=ts.heap) (b::is) m;have Qh:∀q cs',FA A m is q->aV ts.heap q=some cs'->AA A (bT (b::is) m++[.dB (.slc c 0 (l2.length+rows.length) (l2.length+rows.length) size false)]) q∧(ts.heap.set c (.cells kk.more (cs++new)))[q]? = ts.heap[q]?:=fun q cs' hq hc=>by
                 have Yp:q≠c:=fun e0=>by
                  subst e0;rcases hq with hq|⟨i,mb,e1,e2,e3⟩
                  .exact hq.2 (aZ g1 vK)
                  .have:=iU hr.nodup g1 e2 vK e3;subst this;exact hnb (by simpa using e1)
                 have hg:=FA.gone hr (FA.mono (js:=b::is) (fun i hi=>a3n _ hi) hq);refine⟨⟨hg.1,fun hm=>?_⟩,a1q (Ne.symm Yp)⟩;rw[iZ,a3k,kE]at hm;rcases hm with hm|hm
                 .exact hg.2 hm
                 .simp only[MB.own]at hm;rw[a0o (by omega)]at hm;simp at hm;exact Yp hm
                have:=LR.some (X:=X) (P:=P) (A:=AA A (bT (b::is) m++[.dB (.slc c 0 (l2.length+rows.length) (l2.length+rows.length) size false)])) (m:=bT (b::is) m++[.dB (.slc c 0 (l2.length+rows.length) (l2.length+rows.length) size false)]) (h:=ts.heap.set c (.cells kk.more (cs++new))) (k:=k&&false) (ex:=false) (t:=t') (l:=l2++rows) (b:=c) (sz:=size) (e:=false) (kk:=kk.more) (cs:=cs++new)
                 iC hz h0 (by simp[aQ]) (by cases kk<;>simp[BK.more]) (by simp) (by simp) (by rw[a2j,a2j,a3E,p8,s2]) ((p9.step hF hU).app (s3.move hX Qh) p8)
                rw[a2j]at this;exact this)
              refine⟨_,ts.heap.set c (.cells kk.more (cs++new)),⟨false,.h c::dH tx,[.h c]⟩,m1,?_,f1,.own f4 rfl,f2,f3,⟨fun h=>(by cases h),fun j hj=>?_,fun j hj=>(by simp at hj),fun d hd=>?_,fun d hd=>?_,fun h=>(by cases h)⟩,fun d hd=>?_⟩
              .unfold jZ;simp only[vT,Ko,hint,a3T,zO,s1,a2P,hrn,hn,s2,a2w,hle,nU KX JU,p4,ne_eq,not_true_eq_false,p5,p8,a7v,p1,or_self]
              .rcases a2y.1 hj with e0|e0
               .cases e0
               .exact absurd e0 oO
              .simp at hd;subst hd;exact .inl ⟨b,by simp,iP g1 vK⟩
              .rcases a2y.1 hd with e0|e0
               .cases e0;exact⟨.inl ⟨b,a3m,iP g1 vK⟩,aQ⟩
               .obtain⟨h0,h9⟩:=vM hr hx hz hs e0;rcases h0 with⟨i,h1,h2⟩|h1
                .exact⟨.inl ⟨i,a3n _ h1,h2⟩,h9⟩
                .exact⟨.inr h1,h9⟩
              .simp at hd;subst hd;exact aZ g1 vK
         |_=>exact g2.elim
        .cases hl
       .cases hl
      .-- a full frozen list
       rename_i t' l;split at hl
       .rename_i l2 Ot;obtain⟨rfl,rfl⟩:=uy Ot;simp only[a05,a0t]at hl;obtain⟨rfl,rfl,rfl,rfl⟩:=hl;have JU:l2.length+rows.length<=ah:=hq _ a3m;have Gm:l2=[]∨rows≠[]:=hq _ (a3n _ a3m);cases hd with
        |gone hi _ _=>simp[bf]at hi
        |oM=>
         simp only[aag];by_cases hn:rows=[]
         .subst hn;obtain⟨m1,f1,f2,f3,f4⟩:=Oo hr is (k:=true) (ex:=false) (e:=t');exact⟨_,ts.heap,_,m1,by unfold jZ;simp only[vT,Ko,hint,a3T,zO,s1,a4R,a2w,a2P],f1,f4,f2,f3,hk0,fun c hc=>by simp[gY]at hc⟩
         .obtain⟨m1,f1,f2,f3,f4⟩:=qG hr is (k:=true) (ex:=false) (x:=false) s3 s2 hn hz h0 (by simp);refine⟨_,ts.heap++[.cells .own new],_,m1,?_,f1,f4,f2,f3,hk0,fun c hc=>by simp[gY]at hc⟩;unfold jZ;simp only[vT,Ko,hint,a3T,zO,s1,a2P,hrn,hn,s2,a2w,nU KX (show rows.length<=ah by omega)]
        |dB p1 p2 p2' p3 p4 p5 p6 p7 p8 p9=>
         rename_i c off cap sz xx cs;rw[hz]at p3;cases p3;obtain⟨rfl,rfl⟩:=p7 rfl;have hk3:IR m ts.heap ⟨gY (CQ X x),false,false,true⟩ (gY (.h c::dH tx)):=IR.reads rfl (fun d hd=>by
          rcases a2y.1 hd with e0|e0
          .cases e0;exact⟨.inr p1.2,gU p2⟩
          .exact vM hr hx hz hs e0) fun j hj=>by
           rcases a2y.1 hj with e0|e0
           .cases e0
           .exact oO e0
         by_cases hn:rows=[]
         .have qL:l2=[]:=by rcases Gm with h1|h1;exact h1;exact absurd hn h1
          subst hn;subst qL;obtain⟨m1,f1,f2,f3,f4⟩:=push_empty hr is (k:=true) (ex:=false) hz h0 (.inl p1) p2 (by simpa using p5);exact⟨_,ts.heap,_,m1,by unfold jZ;simp only[vT,Ko,hint,a3T,zO,s1,a4R,a2w,a2P],f1,f4,f2,f3,hk0,fun c hc=>by simp[gY]at hc⟩
         .have hle:¬l2.length+rows.length<=l2.length:=by
           have:rows.length≠0:=fun e0=>hn (hrn.1 e0);omega
          have hw1:eu X P (FA A m is) (bT is m) ts.heap t' l2 ((cs.drop off).take (l2.length*size)) 0 size:=by
           have hh:eu X P (AA A m) m ts.heap t' l2 cs off size:=⟨p8,p5,p9⟩;exact(hh.take.mono fun c hc=>.inl hc).jh hX
          have hlen:((cs.drop off).take (l2.length*size)).length=l2.length*size:=by rw[a4d,a4b];omega
          obtain⟨m1,f1,f2,f3,f4⟩:=qG hr is (k:=true) (ex:=false) (x:=false) (hw1.app s3 hlen) (by rw[a2j,a2j,a3E,hlen,s2]) (by simp[hn]) hz h0 (by simp);refine⟨_,ts.heap++[.cells .own ((cs.drop off).take (l2.length*size)++new)],_,m1,?_,f1,f4,f2,f3,hk3,fun c hc=>by simp[gY]at hc⟩;have oK:fE size ts.heap (.slc c off l2.length l2.length size true)=some (l2.length,(cs.drop off).take (l2.length*size)):=by
           simp only[fE,a2w,sub];by_cases qL:l2.length=0
           .rw[a0p qL,qL,acQ,List.take_zero]
           .rw[a0o qL,p2' (fun e0=>qL (by rw[e0];rfl))];simp only;rw[a0p p5];rfl
          unfold jZ;simp only[vT,Ko,hint,a3T,zO,s1,a2P,hrn,hn,s2,a2w,hle,nU KX JU,oK,a0v,a2j]
       .cases hl
      .cases hl
     .cases hl
    .cases hl
   .cases hl
 .cases hl
end
open Go Tw
theorem WO{α:Type}{l rows:List α}{o k:Nat}(h:o+k<=l.length)(hk:k<=rows.length):(Oe l o k rows).length=l.length:=by
 unfold Oe;simp;omega
theorem a2R{α:Type}{l rows:List α}{o:Nat}:Oe l o 0 rows=l:=by unfold Oe;simp
section
variable {X:kQ} {P:Program} {A F:Nat->Prop} {m m':List MB} {h h':List HB} {H H':List (PB X.Γ)}
theorem eu.put{t sz o k:Nat}{l rows:List (X.Γ t)}{cs new:List TV}(h1:eu X P F m h t l cs 0 sz)(h2:eu X P F m h t rows new 0 sz)(hc:cs.length=l.length*sz)(hn:new.length=rows.length*sz)(ho:o+k<=l.length)(hk:k<=rows.length) :
  eu X P F m h t (Oe l o k rows) (cs.take (o*sz)++new.take (k*sz)++cs.drop (o*sz+k*sz)) 0 sz:=by
 have a1:=(h1.part (o:=0) (n:=o) (by omega)).take;have a2:=(h2.part (o:=0) (n:=k) (by omega)).take;have a3:=(h1.part (o:=o+k) (n:=l.length-(o+k)) (by omega)).take;have l1:((l.drop 0).take o).length=o:=by simp;omega
 have l2:((rows.drop 0).take k).length=k:=by simp;omega
 have l3:((l.drop (o+k)).take (l.length-(o+k))).length=l.length-(o+k):=by simp
 rw[l1]at a1;rw[l2]at a2;rw[l3]at a3;simp only[acQ,adD,a4e,abx]at a1 a2 a3;have m1:o*sz<=cs.length:=by rw[hc];exact a3X _ (by omega)
 have m2:k*sz<=new.length:=by rw[hn];exact a3X _ hk
 have r:=(a1.app a2 (by rw[a4d,a4d];rw[a7M m1,a7M (by omega)])).app a3 (by
  simp only[a2j,a4d];rw[a7M m1,a7M m2,a7M (by omega),a7M hk,a3E])
 have e1:l.drop (o+k)=(l.drop (o+k)).take (l.length-(o+k)):=by rw[a9K (by simp)]
 have e2:cs.drop (o*sz+k*sz)=(cs.drop ((o+k)*sz)).take ((l.length-(o+k))*sz):=by
  rw[a3E,a9K];rw[a4b,hc,Nat.sub_mul,a3E];omega
 unfold Oe;rw[e1,e2];exact r
theorem E5(hX:bM X P){ps:aS X.Γ}{ts:St}(hR:uQ X P A m ps ts){at_:Array TypeId}{st e size b o n:Nat}{k0 ex:Bool}{l rows:List (X.Γ e)}{x:PV X.Γ}{td tx:TV}(vT:at_[0]? = some st)(zO:jF P st=some (e,size))(hx:VR X P (AA A m) m ts.heap x tx)
  (hs:Ae X ps.heap e size x=some (rows,[])) (hb:ps.heap[b]? = some (.list k0 ex e l)) {mb:MB} (g1:m[b]? = some mb) (g2:BR X P (AA A m) m ts.heap (.list k0 ex e l) mb)
  (htd:(∃c sz' xx' xx cap,mb=.dB (.slc c 0 l.length l.length sz' xx')∧l≠[]∧td=.slc c (o*sz') n cap sz' xx∧(n=0∨o+cap=l.length))∨(n=0∧(td=.nil .slc∨∃c f cap xx,td=.slc c f 0 cap size xx))) (hon:o+n<=l.length) (NJ:isStr tx=false) :
  WM X P A m ts (Gj P at_ ts td tx) (.int .i64 ((min rows.length n:Nat):Int)) (ps.heap.set b (.list k0 ex e (Oe l o (min rows.length n) rows))) ⟨⟨false,.h b::CQ X x,[.h b]⟩,false,false,true⟩:=by
 have hr:=hR.heap;obtain⟨hz,h0⟩:=nV zO;obtain⟨new,s1,s2,s3⟩:=Ut (m':=m) hX hr hx hz hs;have TY:eu X P (AA A m) m ts.heap e rows new 0 size:=s3.mono fun q hq=>by
  rcases hq with hq|⟨i,_,hi,_⟩
  .exact hq
  .simp at hi
 have kC:IR m ts.heap ⟨⟨false,.h b::CQ X x,[.h b]⟩,false,false,true⟩ (gY (dH tx)):=IR.reads rfl (fun d hd=>by
  obtain⟨h0,h9⟩:=vM hr hx hz hs hd;rcases h0 with⟨i,h1,h2⟩|h1
  .exact⟨.inl ⟨i,a3n _ h1,h2⟩,h9⟩
  .exact⟨.inr h1,h9⟩) fun j hj=>oO hj
 have same:ps.heap.set b (.list k0 ex e l)=ps.heap:=by
  apply a9D;intro i;by_cases e:b=i
  .subst e;rw[a2l (a0c.1 hb).1,hb]
  .rw[a1q e]
 by_cases hk:min rows.length n=0
 .rw[hk,a2R,same];refine⟨.int .i64 0,ts.heap,gY (dH tx),m,?_,hr,.int _ _,.refl,.refl,kC,fun c hc=>by simp[gY]at hc⟩;unfold Gj;simp only[vT,zO,s1,s2,NJ,ad9,a2w];rcases htd with⟨c,sz',xx',xx,cap,rfl,iC,rfl,wE⟩|⟨rfl,rfl|⟨c,f,cap,xx,rfl⟩⟩
  .have:sz'=size:=by cases g2 with|some _ q2 _ _ _ _ _ _ _=>rw[hz]at q2;cases q2;rfl|emp=>exact absurd rfl iC
   simp only[this,a2w,hk]
  .rfl
  .simp only[a2w,hk]
 .rcases htd with⟨c,sz',xx',xx,cap,rfl,iC,rfl,wE⟩|⟨rfl,_⟩
  .cases g2 with
   |emp=>exact absurd rfl iC
   |some p1 p2 p3 p4 p5 p6 p7 p8 p9=>
    rename_i kk cs;rw[hz]at p2;cases p2;obtain⟨Bg,xR,aea,hko⟩:=J4 p5;have ai1:o*size+cap*size=cs.length:=by
     have:=wE.resolve_left (by omega);rw[p8,<-this,a3E]
    have aQ:=(a0c.1 p4).1;have vK:(MB.dB (TV.slc c 0 l.length l.length size xx')).own=some c:=by simp only[MB.own];rw[a0o (by simpa using p1)]
    have hkn:o+min rows.length n<=l.length:=(by omega);have hkr:min rows.length n<=rows.length:=Nat.min_le_left _ _;have m1:o*size+min rows.length n*size<=cs.length:=by rw[p8,<-a3E];exact a3X _ hkn
    have m2:min rows.length n*size<=new.length:=by rw[s2];exact a3X _ hkr
    have m3:min (min rows.length n*size) (rows.length*size)=min rows.length n*size:=a7M (by rw[<-s2];exact m2);have anH:=eu.put p9 TY p8 s2 hkn hkr;have qm:(cs.take (o*size)++new.take (min rows.length n*size)++cs.drop (o*size+min rows.length n*size)).length=cs.length:=by simp;omega
    have hl:=WO (rows:=rows) hkn hkr;obtain⟨q1,q2⟩:=hr.set (i:=b) (c:=c) (pb:=.list k0 ex e (Oe l o (min rows.length n) rows)) (hb:=.cells Bg (cs.take (o*size)++new.take (min rows.length n*size)++cs.drop (o*size+min rows.length n*size))) g1 vK
     (fun WJ JY=>⟨_,by simp only[aV];rw[a2l aQ],by
      simp only[aV,p4,a05]at JY;subst JY;rw[qm];exact a1b _⟩)
     (fun hF=>by
      have aha:Oe l o (min rows.length n) rows≠[]:=fun e0=>by rw[e0]at hl;simp at hl;exact p1 (a7v.1 hl.symm)
      have r:=LR.some (k:=k0) (ex:=ex) (e:=xx') aha hz p3 (by rw[a2l aQ]) aea (fun e0=>hko (p6 e0)) p7 (by rw[qm,hl,p8]) (anH.step hF .refl);rw[hl]at r;exact r)
    refine⟨.int .i64 ((min rows.length n:Nat):Int),_,⟨false,.h c::dH tx,[.h c]⟩,m,?_,q1,.int _ _,q2,.refl,?_,fun d hd=>?_⟩
    .unfold Gj;simp only[vT,zO,s1,s2,NJ,ad9,a2w,hk,a3T,a0Y p4 xR ai1,wo,a4d,m3,m1,a0v]
    .refine⟨fun h=>(by cases h),fun k hk=>?_,fun k hk=>(by simp at hk),fun d hd=>?_,fun d hd=>?_,fun h=>(by cases h)⟩
     .rcases a2y.1 hk with e0|e0
      .cases e0
      .exact absurd e0 oO
     .simp at hd;subst hd;exact .inl ⟨b,a3m,iP g1 vK⟩
     .rcases a2y.1 hd with e0|e0
      .cases e0;exact⟨.inl ⟨b,a3m,iP g1 vK⟩,aQ⟩
      .obtain⟨h0,h9⟩:=vM hr hx hz hs e0;rcases h0 with⟨i,h1,h2⟩|h1
       .exact⟨.inl ⟨i,a3n _ h1,h2⟩,h9⟩
       .exact⟨.inr h1,h9⟩
    .simp at hd;subst hd;exact aZ g1 vK
  .simp at hk
theorem a5T(hr:HR X P A m H h){e sz:Nat}{x:PV X.Γ}{tx:TV}(hv:VR X P (AA A m) m h x tx){rows:List (X.Γ e)}{is:List Nat}(hs:Ae X H e sz x=some (rows,is)):isStr tx=false:=by
 cases hv with
 |own e' _=>
  unfold Ae at hs;simp only at hs;split at hs
  .rename_i hb;obtain⟨mb,g1,g2⟩:=hr.at_ _ _ hb;rw[e']at g1;cases g1;cases g2<;>rfl
  cases hs
 |gone hi e' _=>
  cases x<;>simp only[bf,a05]at hi<;>first|cases hi|skip
  all_goals (unfold Ae at hs;simp only at hs)
  all_goals first|(cases hs;done)|skip
  all_goals
   split at hs
   .rename_i hb;obtain⟨mb,g1,g2⟩:=hr.at_ _ _ hb;rw[g1]at e';cases e'<;>exact g2.elim
   .cases hs
 |str=>simp[Ae]at hs
 |_=>rfl
theorem eu.vrs{t sz:Nat}:∀{l:List (X.Γ t)} {cs:List TV},eu X P F m h t l cs 0 sz->cs.length=l.length*sz->bU X P F m h (Ey X t l) cs
 | [],cs,_,hl=>by
  have:cs=[]:=a7v.1 (by simpa using hl);subst this;exact .nil
 |a::r,cs,hw,hl=>by
  have h1:=hw.row (j:=0) (a:=a) rfl;have h2:=(hw.part (o:=1) (n:=r.length) (by simp;omega)).take;have e1:((a::r).drop 1).take r.length=r:=by simp
  rw[e1]at h2;have hl':cs.length=r.length*sz+sz:=by rw[hl,a4i,a3E,abB]
  have e2:(cs.drop (0+1*sz)).take (r.length*sz)=cs.drop sz:=by
   rw[a4e,abB,a9K];rw[a4b];omega
  rw[e2]at h2;have h3:=eu.vrs h2 (by rw[a4b];omega);have h4:bU X P F m h (X.enc t a) (cs.take sz):=by
   have:=h1.1;simpa using this
  have:=h4.app h3;rw[List.take_append_drop]at this;exact this
theorem U0(hX:bM X P){ps:aS X.Γ}{ts:St}(hR:uQ X P A m ps ts){at_:Array TypeId}{d x:PV X.Γ}{td tx:TV}(hd:VR X P (AA A m) m ts.heap d td)(hx:VR X P (AA A m) m ts.heap x tx){v:PV X.Γ}{H1:List (PB X.Γ)}{pi:mg}
  (hl:a5z X P at_ ps.heap d x=some (v,H1,pi)):WM X P A m ts (Gj P at_ ts td tx) v H1 ⟨pi,false,false,true⟩:=by
 have hr:=hR.heap;unfold a5z at hl;split at hl
 .rename_i st vT;split at hl
  .rename_i e size zO;obtain⟨hz,h0⟩:=nV zO;split at hl
   .rename_i rows hs;obtain⟨new,s1,s2,s3⟩:=Ut (m':=m) hX hr hx hz hs;have NJ:isStr tx=false:=a5T hr hx hs;split at hl
    .simp only[a05,a0t]at hl;obtain⟨rfl,rfl,rfl⟩:=hl;have:td=.nil .slc:=by
      cases hd with
      |nil=>rfl
      |gone hi _ _=>simp[bf]at hi
     subst this;exact⟨_,ts.heap,_,m,by unfold Gj;simp only[vT,zO,s1,s2,NJ,ad9,a2w],hr,.int _ _,.refl,.refl,IR.reads rfl (fun b hb=>vM hr hx hz hs hb) fun k=>oO,fun b hb=>by simp[gY]at hb⟩
    .rename_i b;split at hl
     .rename_i k0 ex t' l hb;split at hl
      .rename_i l2 Ot;obtain⟨rfl,rfl⟩:=uy Ot;simp only[a05,a0t]at hl;obtain⟨rfl,rfl,rfl⟩:=hl;obtain⟨mb,g1,g2⟩:=hr.at_ b _ hb;refine E5 (o:=0) (n:=l2.length) hX hR vT zO hx hs hb g1 g2 ?_ (by omega) NJ;cases hd with
       |gone hi e' _=>simp only[bf,a05]at hi;subst hi;rw[g1]at e';cases e'<;>exact g2.elim
       |own e' o=>
        rw[g1]at e';cases e';cases g2 with
        |nil=>exact .inr ⟨rfl,.inl rfl⟩
        |emp q1 q2 q3 q4 q5=>rw[hz]at q4;cases q4;exact .inr ⟨rfl,.inr ⟨_,_,_,_,rfl⟩⟩
        |some q1 q2=>rw[hz]at q2;cases q2;exact .inl ⟨_,_,_,_,_,rfl,q1,by rw[acQ],.inr (a4e _)⟩
      .cases hl
     .cases hl
    .rename_i b o n;split at hl
     .rename_i k0 ex t' l hb;split at hl
      .rename_i l2 Ot;obtain⟨rfl,rfl⟩:=uy Ot;simp only[a05,a0t]at hl;obtain⟨rfl,rfl,rfl⟩:=hl;obtain⟨mb,g1,g2⟩:=hr.at_ b _ hb;cases hd with
       |gone hi e' _=>simp only[bf,a05]at hi;subst hi;rw[g1]at e';cases e'<;>exact g2.elim
       |win e' o1 o2 o3=>
        rw[g1]at e';cases e';cases g2 with
        |emp q1 q2 q3 q4 q5=>
         rw[hz]at q4;cases q4;have:n=0:=(by omega);subst this;exact E5 hX hR vT zO hx hs hb g1 (LR.emp q1 q2 q3 hz q5) (.inr ⟨rfl,.inr ⟨_,_,_,_,rfl⟩⟩) o1 NJ
        |some q1 q2 q3 q4 q5 q6 q7 q8 q9=>exact E5 hX hR vT zO hx hs hb g1 (LR.some q1 q2 q3 q4 q5 q6 q7 q8 q9) (.inl ⟨_,_,_,_,_,rfl,q1,by rw[a4e],o3⟩) o1 NJ
       |Ag e'=>
        rw[g1]at e';cases e';exact E5 hX hR vT zO hx hs hb g1 g2 (.inr ⟨rfl,.inl rfl⟩) (by omega) NJ
      .cases hl
     .cases hl
    .rename_i b off len cap sz xx;split at hl
     .rename_i cs hb;split at hl
      .rename_i hc;obtain⟨hc1,JY⟩:=hc;subst hc1;simp only[a0e,a0t]at hl;obtain⟨RP,h1,rfl,rfl,rfl⟩:=hl;obtain⟨mb,g1,g2⟩:=hr.at_ b _ hb;cases mb with
       |fU c=>
        obtain⟨cs',g3,g4⟩:=g2;cases hd with
        |gone hi e _=>simp only[bf,a05]at hi;subst hi;rw[g1]at e;cases e
        |slc e=>
         rw[g1]at e;cases e;have TY:eu X P (AA A m) m ts.heap _ rows new 0 sz:=s3.mono fun q hq=>by
          rcases hq with hq|⟨i,_,hi,_⟩
          .exact hq
          .simp at hi
         have hv:=(TY.vrs s2).take (min rows.length len*sz);obtain⟨J6,g5,g6⟩:=H7 g4 hv h1;have hlen:J6.length=cs'.length:=by
          unfold wo at g5;split at g5
          .cases g5;simp only[a2j,a4d,a4b]at *;omega
          .cases g5
         have aQ:=(a0c.1 g3).1;obtain⟨hr1,hF⟩:=hr.set (pb:=.cells RP) (hb:=.cells .own J6) g1 (c:=c) rfl (fun WJ WL=>⟨J6,by simp[aV,aQ],by
          simp only[aV,g3,a05]at WL;subst WL;omega⟩) fun hF=>⟨J6,by simp[aQ],g6.step hF .refl⟩
         refine⟨.int .i64 ((min rows.length len:Nat):Int),_,⟨false,.h c::dH tx,[.h c]⟩,m,?_,hr1,.int _ _,hF,.refl,?_,fun d hd=>?_⟩
         .unfold Gj;simp only[vT,zO,s1,s2,NJ,ad9,a2w];rw[a0o (by omega),WE g3,g5];rfl
         .refine⟨fun h=>(by cases h),fun k hk=>?_,fun k hk=>(by simp at hk),fun d hd=>?_,fun d hd=>?_,fun h=>(by cases h)⟩
          .rcases a2y.1 hk with e0|e0
           .cases e0
           .exact absurd e0 oO
          .simp at hd;subst hd;exact .inl ⟨b,a3m,iP g1 rfl⟩
          .rcases a2y.1 hd with e0|e0
           .cases e0;exact⟨.inl ⟨b,a3m,iP g1 rfl⟩,aQ⟩
           .obtain⟨h0,h9⟩:=vM hr hx hz hs e0;rcases h0 with⟨i,h1,h2⟩|h1
            .exact⟨.inl ⟨i,a3n _ h1,h2⟩,h9⟩
            .exact⟨.inr h1,h9⟩
         .simp at hd;subst hd;exact aZ g1 rfl
       |_=>exact g2.elim
      .cases hl
     .cases hl
    .cases hl
   .cases hl
  .cases hl
 .cases hl
end
open Go Tw
section
variable {X:kQ} {P:Program} {A F:Nat->Prop} {m m':List MB} {h h':List HB} {H H':List (PB X.Γ)}
theorem VPs.qw{ps:List (Nat×PV X.Γ)}{qs:List (Nat×TV)}(hp:VPs X P A m h ps qs):qs.all (fun p=>p.2.cells.all iR)=ps.all fun p=>p.2.cells.all Zd:=by
 induction ps generalizing qs with
 |nil=>
  have:=hp.1;cases qs with
  |nil=>rfl
  |cons=>simp at this
 |cons a ps ih=>
  obtain⟨x,r,rfl,h1,h2⟩:=hp.inv;simp only[abP,DY (H6 h1),ih h2]
theorem WQ{pl:Nat->Option (Nat×Nat)}:∀{qs:List (Nat×TV)} {xs r:List TV},rY pl xs qs=some r->r.length=xs.length
 | [],xs,r,h=>by simp only[rY,a05]at h;rw[h]
 |(i,v)::qs,xs,r,h=>by
  simp only[rY]at h;split at h
  .split at h
   .split at h
    .rename_i cs' ho;rw[WQ h];unfold wo at ho;split at ho
     .cases ho;simp only[a2j,a4d,a4b];omega
     cases ho
    cases h
   cases h
  cases h
theorem oC{z:List TV}:∀n,(times z n).length=n*z.length
 | 0=>by simp[times]
 |n+1=>by simp[times,oC n,a3E];omega
theorem tZ(hX:bM X P){ps:aS X.Γ}{ts:St}(hR:uQ X P A m ps ts){t:TypeId}{len:Nat}{vs:List (Nat×PV X.Γ)}{xs:List (Nat×TV)}(hv:VPs X P (AA A m) m ts.heap vs xs){v:PV X.Γ}{H1:List (PB X.Γ)}
  {raw:Bool} (hl:yc X P t len ps.heap vs raw=some (v,H1)):WM X P A m ts ((qE P t len ts xs).map fun(v,s)=>(v,s,cu)) v H1 xI:=by
 have hr:=hR.heap;unfold yc at hl;split at hl
 .rename_i e n zO;obtain⟨hz,h0⟩:=nV zO;split at hl
  .rename_i hc;split at hl
   .rename_i z hzz;obtain⟨z',q1,q2⟩:=H8 (A:=AA A m) (m:=m) (h:=ts.heap) hzz;split at hl
    .rename_i Yq;split at hl
     .rename_i cs hf;obtain⟨cs',q3,q4⟩:=Mc hv (WG q2 len) hf;have hlen:cs'.length=len*n:=(by rw[WQ q3,oC,<-q2.1,Yq]);have hT:∀w h1,(w,h1)=(TV.slc ts.heap.length 0 len len n true,ts.heap++[HB.cells .own cs'])->(qE P t len ts xs).map (fun(v,s)=>(v,s,cu))=some (w,{ ts with heap:=h1 },cu):=by
       intro w h1 e0;cases e0;simp only[qE,zO,hv.qw,hc,ad9,a2w,q1,<-q2.1,Yq,q3,a0v]
      split at hl
      .rename_i rows is hd;cases hl;have hd:y9 X ps.heap e n len cs=some (rows,is):=by
        split at hd
        .cases hd
        .exact hd
       obtain⟨e1,hw⟩:=Ak (m':=bT is m) hX hr q4 hd;by_cases hn:rows=[]
       .subst hn;have e2:len=0:=(by simpa using e1.symm);subst e2;have QV:cs'=[]:=a7v.1 (by omega);subst QV;have Hg:HR X P A (bT is m++[.dB (.slc ts.heap.length 0 0 0 n true)]) (aX is ps.heap++[.list true true e []]) (ts.heap++[.cells .own []])∧_:=(hr.aX is).push (pb:=.list true true e []) (hb:=.cells .own []) (mb:=.dB (.slc ts.heap.length 0 0 0 n true)) (.inr rfl)
         (LR.emp (b:=ts.heap.length) (cs:=[]) ⟨hr.up _ (a1b _),fun hm=>by
          rw[iZ,a3k,kE]at hm;simp[MB.own]at hm;have:=(hr.aX is).inb hm;omega⟩ (by simp[aV]) (a1b _) hz h0)
        have Qn:=iq (h:=ts.heap) is m;refine⟨_,_,_,_,hT _ _ rfl,Hg.1,.own ?_ rfl,Qn.1.trans Hg.2.1,Qn.2.trans Hg.2.2,.none,fun b hb=>by cases hb⟩;rw[<-hr.len,<-mP is m];simp
       .have Hg:=qG hr is (k:=true) (ex:=true) (x:=true) hw (by rw[hlen,e1]) hn hz h0 (by simp);obtain⟨m1,g1,g2,g3,g4⟩:=Hg;refine⟨_,_,_,m1,hT _ _ rfl,g1,?_,g2,g3,.none,fun b hb=>by cases hb⟩;rw[e1]at g4;exact g4
      .cases hl;have hp:=hr.push (pb:=.cells cs) (hb:=.cells .own cs') (mb:=.fU ts.heap.length) (.inl rfl) ⟨cs',by simp,q4.step (by
        refine⟨by simp,fun b hb _=>by rw[a0j hb],fun b hb=>?_,fun b cs hc=>⟨cs,by rw[fK (a0j (gU hc)),hc],a1b _⟩⟩;rw[iZ,a3k,kE]at hb;rcases hb with hb|hb
        .exact .inl hb
        .simp[MB.own]at hb;exact .inr (by omega)) (wQ _)⟩
       exact⟨_,_,_,_,hT _ _ rfl,hp.1,.slc (by rw[<-hr.len];simp),hp.2.1,hp.2.2,.none,fun b hb=>by cases hb⟩
     .cases hl
    .cases hl
   .cases hl
  .cases hl
 .cases hl
theorem Ou{k:IntKind}{n:Int}{x:TV}(hv:VR X P A m h (.int k n) x):x=.int k n:=by
 cases hv with
 |int=>rfl
 |gone hi _ _=>simp[bf]at hi
theorem WR{t sz:Nat}{a:X.Γ t}{z:List TV}(ha:bU X P F m h (X.enc t a) z)(hz:z.length=sz):∀n,eu X P F m h t (List.replicate n a) (times z n) 0 sz
 | 0=>⟨fun j a hj=>by simp at hj,by simp,fun j a i c v hj=>by simp at hj⟩
 |n+1=>by
  have h1:eu X P F m h t [a] z 0 sz:=by
   refine⟨fun j b hj=>?_,by simp[hz],fun j b i c v hj hi hx=>?_⟩
   .cases j with
    |zero=>simp only[a2V,a05]at hj;subst hj;rw[ha.1,hz]
    |succ j=>simp at hj
   cases j with
   |zero=>simp only[a2V,a05]at hj;subst hj;exact ha.2 i c v hi (by simpa using hx)
   |succ j=>simp at hj
  have:=h1.app (WR ha hz n) (by simp[hz]);simpa[adO,times]using this
theorem zY(hX:bM X P){ps:aS X.Γ}{ts:St}(hR:uQ X P A m ps ts){t:TypeId}{l c:PV X.Γ}{tl tc:TV}(hvl:VR X P (AA A m) m ts.heap l tl)(hvc:VR X P (AA A m) m ts.heap c tc){v:PV X.Γ}{H1:List (PB X.Γ)}{qs:List Prop}
  (hl:FK X P t ps.heap l c=some (v,H1,qs)) (hq:∀q∈qs,q):WM X P A m ts ((sG P t ts tl tc).map fun(v,s)=>(v,s,cu)) v H1 xI:=by
 have hr:=hR.heap;unfold FK at hl;split at hl
 .rename_i e n kl li kc ci zO;obtain⟨hz,h0⟩:=nV zO;rw[Ou hvl,Ou hvc];split at hl
  .rename_i KX;split at hl
   .rename_i z hzz;obtain⟨z',q1,q2⟩:=H8 (A:=AA A m) (m:=m) (h:=ts.heap) hzz;split at hl
    .rename_i Yq;split at hl
     .rename_i a ha;cases hl;have e1:li=ci:=hq _ (by simp);have e2:0<=li:=hq _ (by simp);have e3:li<=(ah:Nat):=hq _ (by simp);subst e1;have hm:li.toNat<=ah:=(by omega);have hm2:ah=2^20:=rfl;have hz2:z'.length=n:=by rw[<-q2.1];exact Yq
      have hT:∀w h1,(w,h1)=(TV.slc ts.heap.length 0 li.toNat li.toNat n true,ts.heap++[HB.cells .own (times z' li.toNat)])->(sG P t ts (.int kl li) (.int kc li)).map (fun(v,s)=>(v,s,cu))=some (w,{ ts with heap:=h1 },cu):=by
       intro w h1 e0;cases e0;have hN:∀k,a2f (.int k li)=some li.toNat:=fun k=>by
        have h9:li<=2^40:=by
         have:((2^20:Nat):Int)<=2^40:=(by decide);rw[hm2]at e3;omega
        simp only[a2f];rw[a0p ⟨e2,h9⟩]
       simp only[sG,zO,hN,a1b,true_and,nU KX hm,a2w,q1,hz2,a0v]
      have yH:=WR (m:=m) (h:=ts.heap) (F:=AA A m) (hX.dec ha q2) hz2 li.toNat;have hlen:(times z' li.toNat).length=li.toNat*n:=(by rw[oC,hz2]);by_cases hn:li.toNat=0
      .rw[hn]at hT ⊢;simp only[List.replicate_zero];have Hg:=hr.push (pb:=.list true true e []) (hb:=.cells .own (times z' 0)) (mb:=.dB (.slc ts.heap.length 0 0 0 n true)) (.inr rfl)
         (LR.emp (b:=ts.heap.length) (cs:=times z' 0) ⟨hr.up _ (a1b _),fun hm=>by
          rw[iZ,a3k,kE]at hm;simp[MB.own]at hm;have:=hr.inb hm;omega⟩ (by simp[aV]) (a4K _) hz h0)
       exact⟨_,_,_,_,hT _ _ rfl,Hg.1,.own (by rw[<-hr.len];simp) rfl,Hg.2.1,Hg.2.2,.none,fun b hb=>by cases hb⟩
      .obtain⟨m1,g1,g2,g3,g4⟩:=qG hr [] (k:=true) (ex:=true) (x:=true) (rows:=List.replicate li.toNat a) (yH.mono fun b hb=>.inl hb) (by rw[a8s];exact hlen) (by intro e0;exact hn (by simpa using congrArg List.length e0)) hz h0 (by simp);refine⟨_,_,_,m1,hT _ _ rfl,g1,?_,g2,g3,.none,fun b hb=>by cases hb⟩;rw[a8s]at g4;exact g4
     .cases hl
    .cases hl
   .cases hl
  .cases hl
 .cases hl
end
open Go Tw
section
variable {X:kQ} {P:Program} {A F:Nat->Prop} {m m':List MB} {h h':List HB} {H H':List (PB X.Γ)}
theorem Ap{o:Option (PV X.Γ)}{to:Option TV}(ho:OR X P A m h o to){d n:Nat}{a:Int}(he:zi X d o=some a)(h0:0<=a)(h1:a<=n):jw n d to=some a.toNat:=by
 cases o with
 |none=>
  cases to with
  |none=>simp only[zi,a05]at he;subst he;simp[jw]
  |some=>exact ho.elim
 |some v=>
  cases to with
  |none=>exact ho.elim
  |some x=>
   cases v<;>simp only[zi]at he<;>try (cases he;done)
   cases he;rw[Ou ho];simp only[jw,qO];rw[a0p ⟨h0,h1⟩]
theorem Ov{k:IntKind}{n:Int}{to:Option TV}(ho:OR X P A m h (some (.int k n)) to):to=some (.int k n):=by
 cases to with
 |none=>exact ho.elim
 |some x=>rw[Ou ho]
theorem ru{to:Option TV}(ho:OR X P A m h none to):to=none:=by
 cases to with
 |none=>rfl
 |some x=>exact ho.elim
theorem MC{v:PV X.Γ}{to:Option TV}(ho:OR X P A m h (some v) to):∃x,to=some x:=by
 cases to with
 |none=>exact ho.elim
 |some x=>exact⟨x,rfl⟩
theorem aed{t e:TypeId}{b off len cap sz:Nat}{ex:Bool}(hu:P.underlying t=some (.slice e))(hz:dD P e=some sz){lo hi:Option (PV X.Γ)}{Qo Qq:Option TV}(h1:OR X P A m h lo Qo)(h2:OR X P A m h hi Qq){a z:Int}(e1:zi X 0 lo=some a)(e2:zi X len hi=some z)
  (q0:0<=a) (q1:a<=z) (q2:z<=len):qP P t (.slc b off len cap sz ex) Qo Qq none=some (.slc b (off+a.toNat*sz) (z.toNat-a.toNat) (cap-a.toNat) sz ex):=by
 have g1:=Ap h1 e1 (n:=z.toNat) q0 (by omega);have g2:=Ap h2 e2 (n:=len) (by omega) q2;simp only[qP,hu,hz,a2w,g2,g1]
theorem a9B{t e:TypeId}{b off len cap sz:Nat}{ex:Bool}(hu:P.underlying t=some (.slice e))(hz:dD P e=some sz){lo hi:Option (PV X.Γ)}{Qo Qq:Option TV}(h1:OR X P A m h lo Qo)(h2:OR X P A m h hi Qq){a z:Int}(e1:zi X 0 lo=some a)(e2:zi X len hi=some z)(hs:hi.isSome)
  (q0:0<=a) (q1:a<=z) (q2:z<=len) (wE:len<=cap) {k:IntKind}:qP P t (.slc b off len cap sz ex) Qo Qq (some (.int k z))=some (.slc b (off+a.toNat*sz) (z.toNat-a.toNat) (z.toNat-a.toNat) sz true):=by
 have g1:=Ap h1 e1 (n:=z.toNat) q0 (by omega);obtain⟨hv,rfl⟩:=a5y.1 hs;obtain⟨x,rfl⟩:=MC h2;have g3:qO cap (.int k z)=some z.toNat:=by simp only[qO];rw[a0p (by omega)]
 have g2:qO (min z.toNat len) x=some z.toNat:=by
  cases hv<;>simp only[zi]at e2<;>try (cases e2;done)
  cases e2;rw[Ou (show VR X P A m h _ x from h2)];simp only[qO];rw[a0p (by omega)]
 simp only[qP,hu,hz,a2w,g3,g2,g1]
theorem Zr{t e:TypeId}{sz:Nat}(hu:P.underlying t=some (.slice e))(hz:dD P e=some sz){lo hi:Option (PV X.Γ)}{Qo Qq:Option TV}(h1:OR X P A m h lo Qo)(h2:OR X P A m h hi Qq){a z:Int}(e1:zi X 0 lo=some a)(e2:zi X 0 hi=some z)(q0:a=0)(q1:z=0) :
  qP P t (.nil .slc) Qo Qq none=some (.nil .slc)∧∀{k:IntKind},hi.isSome->qP P t (.nil .slc) Qo Qq (some (.int k 0))=some (.nil .slc):=by
 subst q0;subst q1;have g1:=Ap h1 e1 (n:=0) (by omega) (by omega);have g2:=Ap h2 e2 (n:=0) (by omega) (by omega);have g0:jw 0 0 none=some 0:=rfl;refine⟨by simp only[qP,hu,hz,g0,g1,g2];rfl,fun{k} hs=>?_⟩;obtain⟨hv,rfl⟩:=a5y.1 hs;obtain⟨x,rfl⟩:=MC h2;have g3:jw 0 0 (some (.int k 0))=some 0:=rfl;simp only[qP,hu,hz,g1,g2,g3] ;rfl
theorem ND{ps:aS X.Γ}{ts:St}(hR:uQ X P A m ps ts){t:TypeId}{x:PV X.Γ}{tx:TV}(hx:VR X P (AA A m) m ts.heap x tx){lo hi mx:Option (PV X.Γ)}{Qo Qq tmx:Option TV}(h1:OR X P (AA A m) m ts.heap lo Qo)(h2:OR X P (AA A m) m ts.heap hi Qq)(h3:OR X P (AA A m) m ts.heap mx tmx){v:PV X.Γ}{qs:List Prop}
  (hl:Zh X P t ps.heap x lo hi mx=some (v,qs)) (hq:∀q∈qs,q):∃w,qP P t tx Qo Qq tmx=some w∧VR X P (AA A m) m ts.heap v w:=by
 have hr:=hR.heap;unfold Zh at hl;split at hl
 .rename_i e t' l fu hu;split at hl
  .rename_i n a z hz e1 e2;split at hl
   .rename_i ht;subst ht;cases hl;have q0:0<=a:=hq _ (by simp);have q1:a<=z:=hq _ (by simp);have q2:z<=(l.length:Nat):=hq _ (by simp);rw[ru h3,agO];cases hx with
    |oM=>
     have ea:a=0:=by simp at q2;omega
     have ez:z=0:=by simp at q2;omega
     exact⟨_,(Zr hu hz h1 h2 e1 e2 ea ez).1,by simp only[List.drop_nil,List.take_nil];exact .oM⟩
    |dB p1 p2 p2' p3 p4 p5 p6 p7 p8 p9=>
     rw[hz]at p3;cases p3;exact⟨_,aed hu hz h1 h2 e1 e2 q0 q1 q2,(VR.dB p1 p2 p2' hz p4 p5 p6 p7 p8 p9).part (by omega) (by omega) (.inr (by omega)) (by simp)⟩
    |gone hi _ _=>simp[bf]at hi
   .cases hl
  .rename_i n a z k mv hz e1 e2;split at hl
   .rename_i ht;obtain⟨ht,Bh⟩:=ht;subst ht;split at hl
    .rename_i hfu;subst hfu;cases hl;have q0:a=0:=hq _ (by simp);have q2:z=(l.length:Nat):=hq _ (by simp);have q3:mv=z:=hq _ (by simp);subst q3;subst q0;rw[Ov h3];cases hx with
     |oM=>
      have ez:mv=0:=(by simpa using q2);have:=(Zr hu hz h1 h2 e1 e2 rfl ez).2 (k:=k) Bh;exact⟨_,by rw[<-ez]at this;exact this,.oM⟩
     |dB p1 p2 p2' p3 p4 p5 p6 p7 p8 p9=>
      rw[hz]at p3;cases p3;obtain⟨p7a,p7b⟩:=p7 rfl;subst p7a;subst p7b;refine⟨_,a9B hu hz h1 h2 e1 e2 Bh (a9s 0) (by omega) (by omega) p6,?_⟩;subst q2;have:=VR.dB (fu:=true) p1 p2 p2' hz p4 p5 (a1b _) (fun _=>⟨rfl,rfl⟩) p8 p9;simpa using this
     |gone hi _ _=>simp[bf]at hi
    cases hl;have q0:0<=a:=hq _ (by simp);have q1:a<=z:=hq _ (by simp);have q2:z<=(l.length:Nat):=hq _ (by simp);have q3:mv=z:=hq _ (by simp);have q4:a=z:=hq _ (by simp);subst q3;rw[Ov h3,agO];cases hx with
    |oM=>
     have ea:a=0:=by simp at q2;omega
     have ez:mv=0:=by simp at q2;omega
     have:=(Zr hu hz h1 h2 e1 e2 ea ez).2 (k:=k) Bh;rw[<-ez]at this;exact⟨_,this,by simp only[List.drop_nil,List.take_nil];exact .oM⟩
    |dB p1 p2 p2' p3 p4 p5 p6 p7 p8 p9=>
     rw[hz]at p3;cases p3;exact⟨_,a9B hu hz h1 h2 e1 e2 Bh q0 q1 q2 p6,(VR.dB p1 p2 p2' hz p4 p5 p6 p7 p8 p9).part (by omega) (by omega) (.inl (by omega)) (by simp)⟩
    |gone hi _ _=>simp[bf]at hi
   .cases hl
  .cases hl
 .rename_i e i hu;split at hl
  .rename_i kk ex t' l hb;obtain⟨mb,g1,g2⟩:=hr.at_ i _ hb;cases mb with
   |dB y=>
    cases hx with
    |gone hi e' _=>simp only[bf,a05]at hi;subst hi;rw[g1]at e';cases e'
    |own e' o=>
     rw[g1]at e';cases e';have hlr:LR X P (AA A m) m ts.heap kk ex t' l tx:=g2;split at hl
     .rename_i n a z hz e1 e2;split at hl
      .rename_i ht;subst ht;cases hl;have q0:0<=a:=hq _ (by simp);have q1:a<=z:=hq _ (by simp);have q2:z<=(l.length:Nat):=hq _ (by simp);rw[ru h3];cases hlr with
       |nil=>
        have ea:a=0:=by simp at q2;omega
        have ez:z=0:=by simp at q2;omega
        refine⟨_,(Zr hu hz h1 h2 e1 e2 ea ez).1,?_⟩;subst ea;subst ez;exact .Ag g1
       |emp p0 p1 p2 p3 p4=>
        rw[hz]at p3;cases p3;exact⟨_,aed (len:=0) hu hz h1 h2 e1 e2 q0 q1 q2,.win g1 (by simp at q2;omega) (by simp at q2;omega) (.inl (by simp at q2;omega))⟩
       |some p1 p2 p3 p4 p5 p6 p7 p8 p9=>
        rw[hz]at p2;cases p2;exact⟨_,aed hu hz h1 h2 e1 e2 q0 q1 q2,.win g1 (by omega) (by omega) (.inr (by omega))⟩
      .cases hl
     .rename_i n a z k mv hz e1 e2;split at hl
      .rename_i ht;obtain⟨ht,Bh⟩:=ht;subst ht;cases hl;have q0:0<=a:=hq _ (by simp);have q1:a<=z:=hq _ (by simp);have q2:z<=(l.length:Nat):=hq _ (by simp);have q3:mv=z:=hq _ (by simp);have q4:a=z:=hq _ (by simp);subst q3;rw[Ov h3];cases hlr with
       |nil=>
        have ea:a=0:=by simp at q2;omega
        have ez:mv=0:=by simp at q2;omega
        have:=(Zr hu hz h1 h2 e1 e2 ea ez).2 (k:=k) Bh;rw[<-ez]at this;refine⟨_,this,?_⟩;subst ea;subst ez;exact .Ag g1
       |emp p0 p1 p2 p3 p4=>
        rw[hz]at p3;cases p3;exact⟨_,a9B (len:=0) hu hz h1 h2 e1 e2 Bh q0 q1 q2 (a1b _),.win g1 (by simp at q2;omega) (by omega) (.inl (by omega))⟩
       |some p1 p2 p3 p4 p5 p6 p7 p8 p9=>
        rw[hz]at p2;cases p2;exact⟨_,a9B hu hz h1 h2 e1 e2 Bh q0 q1 q2 (a1b _),.win g1 (by omega) (by omega) (.inl (by omega))⟩
      .cases hl
     .cases hl
   |_=>exact g2.elim
  .cases hl
 .rename_i e hu;have:tx=.nil .slc:=by
   cases hx with
   |nil=>rfl
   |gone hi _ _=>simp[bf]at hi
  subst this;split at hl
  .rename_i n a z hz e1 e2;cases hl;have q0:a=0:=hq _ (by simp);have q1:z=0:=hq _ (by simp);rw[ru h3];exact⟨_,(Zr hu hz h1 h2 e1 e2 q0 q1).1,.nil _⟩
  .rename_i n a z k mv hz e1 e2;split at hl
   .rename_i Bh;cases hl;have q0:a=0:=hq _ (by simp);have q1:z=0:=hq _ (by simp);have q2:mv=0:=hq _ (by simp);subst q2;rw[Ov h3];exact⟨_,(Zr hu hz h1 h2 e1 e2 q0 q1).2 Bh,.nil _⟩
   .cases hl
  .cases hl
 .cases hl
theorem Ce(hX:bM X P){ps:aS X.Γ}{ts:St}(hR:uQ X P A m ps ts){t:TypeId}{x:PE X.Γ}{ex:EV}(hx:Iy X P (AA A m) m ts.heap x ex){lo hi mx:Option (PV X.Γ)}{Qo Qq tmx:Option TV}(h1:OR X P (AA A m) m ts.heap lo Qo)(h2:OR X P (AA A m) m ts.heap hi Qq)(h3:OR X P (AA A m) m ts.heap mx tmx){v:PV X.Γ}{H1:List (PB X.Γ)}{qs:List Prop}
  (hl:IX X P t ps.heap x lo hi mx=some (v,H1,qs)) (hq:∀q∈qs,q):WM X P A m ts ((qC P t ex Qo Qq tmx).map fun v=>(v,ts,cu)) v H1 xI:=by
 have hr:=hR.heap;unfold IX at hl;split at hl
 .rename_i n e b off lim hu;split at hl
  .rename_i size hz;split at hl
   .cases hl
   .rename_i KW;split at hl
    .cases hl
    .rw[ru h3];obtain⟨y,rfl,hy⟩:=fM hx;split at hl
     .split at hl
      .rename_i cs hb;cases hl;rw[ru h1,ru h2];obtain⟨mb,g1,g2⟩:=hr.at_ b _ hb;cases mb with
       |fU c=>
        cases hy with
        |gone hi e' _=>simp only[bf,a05]at hi;subst hi;rw[g1]at e';cases e'
        |ptr e'=>
         rw[g1]at e';cases e';exact⟨.slc c off n n size true,ts.heap,cu,m,by simp[qC,hu,hz,KW,jw],hr,.slc g1,.refl,.refl,.none,fun d hd=>by cases hd⟩
       |_=>exact g2.elim
      .cases hl
     .rename_i YH xE _;split at hl
      .rename_i cs a z hb e1 e2;split at hl
       .cases hl
       rename_i ae8;split at hl
       .rename_i rows is hd;cases hl;have q0:0<=a:=hq _ (by simp);have q1:a<=z:=hq _ (by simp);have q2:z<=(n:Nat):=hq _ (by simp);obtain⟨mb,g1,g2⟩:=hr.at_ b _ hb;cases mb with
        |fU c=>
         obtain⟨cs',g3,g4⟩:=g2;cases hy with
         |gone hi e' _=>simp only[bf,a05]at hi;subst hi;rw[g1]at e';cases e'
         |ptr e'=>
          rw[g1]at e';cases e';have f1:=Ap h1 e1 (n:=z.toNat) q0 (by omega);have f2:=Ap h2 e2 (n:=n) (by omega) q2;obtain⟨w1,w2⟩:=Ak (m':=bT (b::is) m) hX hr (g4.drop off) hd;have w3:=w2.2.1;rw[a4b]at w3;have hgo:=hr.aX (b::is);have Qn:=iq (h:=ts.heap) (b::is) m;have hnc:AA A (bT (b::is) m) c:=by
           refine FA.gone hr (.inr ⟨b,_,a3m,g1,rfl⟩)
          refine⟨.slc c (off+a.toNat*size) (z.toNat-a.toNat) (n-a.toNat) size true,ts.heap,cu,bT (b::is) m,?_,hgo,?_,Qn.1,Qn.2,.none,fun d hd=>by cases hd⟩
          .have f0:jw n n none=some n:=rfl;simp only[qC,hu,hz,KW,a3T,f0,f2,f1,Option.isSome_none,Bool.false_and,a2P,a0v]
          .rw[agO];have ai2:VR X P (AA A (bT (b::is) m)) (bT (b::is) m) ts.heap (.dB e rows false) (.slc c off rows.length n size true):=by
            refine .dB hnc (by unfold aV;rw[g3]) (fun _=>wP g3 (by simp)) hz (by omega) ?_ (by omega) (by simp) w2.1 (fun j y i d v hj hi hx=>?_)
            .rw[w1,<-g4.1];omega
            .refine(w2.2.2 j y i d v hj hi ?_).mono fun q hq=>FA.gone hr (FA.mono (fun i hi=>a3n _ hi) hq);rw[a4m,<-hx];congr 1;omega
           exact ai2.part (by omega) (by omega) (.inr (by omega)) (by simp)
        |_=>exact g2.elim
       .cases hl
      .cases hl
  .cases hl
 .cases hl
theorem Uu{ps:aS X.Γ}{ts:St}(hR:uQ X P A m ps ts){t:TypeId}{x:PE X.Γ}{ex:EV}(hx:Iy X P (AA A m) m ts.heap x ex){lo hi:Option (PV X.Γ)}{Qo Qq tmx:Option TV}(h1:OR X P (AA A m) m ts.heap lo Qo)(h2:OR X P (AA A m) m ts.heap hi Qq)(h3:OR X P (AA A m) m ts.heap none tmx){v:PV X.Γ}
  (hl:FM X P t ps.heap x lo hi=some v):WM X P A m ts ((qC P t ex Qo Qq tmx).map fun v=>(v,ts,cu)) v ps.heap xI:=by
 have hr:=hR.heap;unfold FM at hl;split at hl
 .rename_i n e b off lim hu;split at hl
  .rename_i size cs a z hz hb e1 e2;split at hl
   .cases hl
   .rename_i KW;split at hl
    .rename_i hq;cases hl;rw[ru h3];obtain⟨y,rfl,hy⟩:=fM hx;obtain⟨mb,g1,g2⟩:=hr.at_ b _ hb;cases mb with
     |fU c=>
      cases hy with
      |gone hi e' _=>simp only[bf,a05]at hi;subst hi;rw[g1]at e';cases e'
      |ptr e'=>
       rw[g1]at e';cases e';have f1:=Ap h1 e1 (n:=z.toNat) hq.1 (by omega);have f2:=Ap h2 e2 (n:=n) (by omega) hq.2.2;refine⟨.slc c (off+a.toNat*size) (z.toNat-a.toNat) (n-a.toNat) size true,ts.heap,cu,m,?_,hr,.slc g1,.refl,.refl,.none,fun d hd=>by cases hd⟩;have f0:jw n n none=some n:=rfl;simp only[qC,hu,hz,KW,a3T,f0,f2,f1,Option.isSome_none,Bool.false_and,a2P,a0v]
     |_=>exact g2.elim
    .cases hl
  .cases hl
 .cases hl
end
open Go Tw
section
variable {X:kQ} {P:Program} {A B F:Nat->Prop} {m m':List MB} {h h':List HB} {H H':List (PB X.Γ)}
theorem vU:∀{vs:List (PV X.Γ)} {i:Nat} {v:PV X.Γ},xH.GR vs=false->vs[i]? = some v->xH v=false
 | [],_,_,_,h=>by simp at h
 |a::vs,i,v,hc,h=>by
  simp only[xH.GR,a9x]at hc;cases i with
  |zero=>simp only[a2V,a05]at h;subst h;exact hc.1
  |succ i=>exact vU hc.2 (by simpa using h)
theorem sQ{k:Nat}:∀{vs:List (PV X.Γ)} {i:Nat} {v:PV X.Γ},(shift.shifts k vs)[i]? = some v->∃u,vs[i]? = some u∧v=shift k u
 | [],_,_,h=>by simp[shift.shifts]at h
 |a::vs,i,v,h=>by
  cases i with
  |zero=>simp only[shift.shifts,a2V,a05]at h;exact⟨a,rfl,h.symm⟩
  |succ i=>obtain⟨u,h1,h2⟩:=sQ (vs:=vs) (i:=i) (by simpa[shift.shifts]using h);exact⟨u,by simpa using h1,h2⟩
theorem sS{k:Nat}:∀{vs:List (PV X.Γ)},(shift.shifts k vs).length=vs.length
 | []=>rfl
 |a::vs=>by simp[shift.shifts,sS (vs:=vs)]
theorem Zt{k i:Nat}{v:PV X.Γ}(h:bf v=some i):bf (shift k v)=some (i+k):=by
 cases v<;>simp[bf]at h<;>subst h<;>rfl
theorem VR.shift(hX:bM X P){m0:List MB}{v:PV X.Γ}{x:TV}(hv:VR X P A m h v x)(hq:(∀b,A b->B b)∨xH v=false):VR X P B (m0++m) h (Pv.shift m0.length v) x:=by
 have at':∀{i:Nat} {mb:MB},m[i]? = some mb->(m0++m)[i+m0.length]? = some mb:=by
  intro i mb hi;rw[a1c (by omega)];simpa using hi
 induction hv with
 |bool=>exact .bool _
 |lit=>exact .lit _
 |int=>exact .int _ _
 |str=>exact .str _
 |nil=>exact .nil _
 |ptr e=>exact .ptr (at' e)
 |slc e=>exact .slc (at' e)
 |own e o=>exact .own (at' e) o
 |win e q q' q2=>exact .win (at' e) q q' q2
 |Ag e=>exact .Ag (at' e)
 |map e=>exact .map (at' e)
 |iter e=>exact .iter (at' e)
 |fn h1 _ h3 _ i2 i4=>
  refine .fn (by rw[sS,h1]) (fun i x y hx hy=>?_) (by rw[sS,h3]) (fun i x y hx hy=>?_)
  .obtain⟨u,g1,rfl⟩:=sQ hx;exact i2 i u y g1 hy (hq.imp_right fun hq=>by simp only[xH,a9x]at hq;exact vU hq.1 g1)
  obtain⟨u,g1,rfl⟩:=sQ hx;exact i4 i u y g1 hy (hq.imp_right fun hq=>by simp only[xH,a9x]at hq;exact vU hq.2 g1)
 |kP e=>exact .kP (at' e)
 |agg h1 _ i2=>
  refine .agg (by rw[sS,h1]) (fun i x y hx hy=>?_);obtain⟨u,g1,rfl⟩:=sQ hx;exact i2 i u y g1 hy (hq.imp_right fun hq=>by simp only[xH]at hq;exact vU hq g1)
 |dI h1 _ i2=>
  refine .dI (by rw[sS,h1]) (fun i x y hx hy=>?_);obtain⟨u,g1,rfl⟩:=sQ hx;exact i2 i u y g1 hy (hq.imp_right fun hq=>by simp only[xH]at hq;exact vU hq g1)
 |oM=>exact .oM
 |dB a c c2 s z o k f e r _=>
  rcases hq with hq|hq
  .exact .dB (hq _ a) c c2 s z o k f e fun j y i d v h1 h2 h3=>((r j y i d v h1 h2 h3).mono hq).jh hX (fB (hX.jh _ _) h2)
  simp[xH]at hq
 |el a c l o e q r _=>
  rcases hq with hq|hq
  .exact .el (hq _ a) c l o e q fun i d v h1 h2=>((r i d v h1 h2).mono hq).jh hX (fB (hX.jh _ _) h1)
  simp[xH]at hq
 |row e j q=>exact .row (at' e) j q
 | @gone v i x hi e o=>
  have e':(m0++m)[i+m0.length]? = m[i]?:=by rw[a1c (by omega)];congr 1;omega
  exact .gone (Zt hi) (by rw[e'];exact e.as fun c=>by cases v<;>rfl) o
theorem bU.shift(hX:bM X P){m0:List MB}{v:List (PV X.Γ)}{x:List TV}(hv:bU X P A m h v x)(hq:(∀b,A b->B b)∨xH.GR v=false):bU X P B (m0++m) h (Pv.shift.shifts m0.length v) x:=by
 refine⟨by rw[sS,hv.1],fun i a b ha hb=>?_⟩;obtain⟨u,g1,rfl⟩:=sQ ha;exact(hv.2 i u b g1 hb).shift hX (hq.imp_right fun hq=>vU hq g1)
theorem BR.shift(hX:bM X P){m0:List MB}{b b':PB X.Γ}{mb:MB}(hb:BR X P A m h b mb)(hs:FH X m0.length b=some b')(hq:(∀c,A c->B c)∨hasB X b=false):BR X P B (m0++m) h b' mb:=by
 cases b with
 |cells cs=>
  cases mb with
  |fU c=>
   simp only[FH,a05]at hs;subst hs;obtain⟨cs',h1,h2⟩:=hb;exact⟨cs',h1,h2.shift hX hq⟩
  |_=>exact hb.elim
 |list k ex t l=>
  cases mb with
  |dB y=>
   simp only[FH,a05]at hs;subst hs;rcases hq with hq|hq
   .cases(hb:LR X P A m h k ex t l y)with
    |nil=>exact LR.nil
    |emp p0 p1 p2 p3 p4=>exact LR.emp (hq _ p0) p1 p2 p3 p4
    |some p1 p2 p3 p4 p5 p6 p7 p8 p9=>exact LR.some p1 p2 p3 p4 p5 p6 p7 p8 ((p9.mono hq).jh hX)
   simp[hasB]at hq
  |_=>exact hb.elim
 |gone=>
  cases mb with
  |gone=>simp only[FH,a05]at hs;subst hs;trivial
  |_=>exact hb.elim
 |_=>simp[FH]at hs
theorem Kw{k:Nat}:∀{bs bs':List (PB X.Γ)} {i:Nat} {b':PB X.Γ},qX X k bs=some bs'->bs'[i]? = some b'->∃b,bs[i]? = some b∧FH X k b=some b'
 | [],bs',i,b',h,hi=>by simp only[qX,a05]at h;subst h;simp at hi
 |b::bs,bs',i,b',h,hi=>by
  simp only[qX]at h;split at h
  .rename_i c cs h1 h2;cases h;cases i with
   |zero=>simp only[a2V,a05]at hi;subst hi;exact⟨b,rfl,h1⟩
   |succ i=>obtain⟨d,g1,g2⟩:=Kw h2 (i:=i) (by simpa using hi);exact⟨d,by simpa using g1,g2⟩
  cases h
theorem Kz{k:Nat}:∀{bs bs':List (PB X.Γ)},qX X k bs=some bs'->bs'.length=bs.length
 | [],bs',h=>by simp only[qX,a05]at h;subst h;rfl
 |b::bs,bs',h=>by
  simp only[qX]at h;split at h
  .rename_i c cs h1 h2;cases h;simp[Kz h2]
  cases h
def oq(X:kQ)(P:Program)(call:aY)(f:FuncId)(vs:List (PV X.Γ))(v:PV X.Γ)(ext:List (PB X.Γ)):Prop:=
 ∀(A:Nat->Prop) (h:List HB) (first args cap:List TV),(∀b,h.length<=b->A b)->bU X P A [] h vs (first++args++cap) ->
  ∃w h' m',call (.fn f first cap) args h=some (w,h',[])∧HR X P A m' ext h'∧VR X P (AA A m') m' h' v w∧Fr [] h m' h'
theorem Hl(hX:bM X P){call:aY}{f:FuncId}{first xs cap vs:List (PV X.Γ)}{v:PV X.Γ}{ext ext':List (PB X.Γ)}(hc:oq X P call f vs v ext)(hr:HR X P A m H h)(hv:views H (first++xs++cap)=some vs)(hs:qX X H.length ext=some ext')
  {t1 t2 t3:List TV} (h1:bU X P (AA A m) m h first t1) (h2:bU X P (AA A m) m h xs t2) (h3:bU X P (AA A m) m h cap t3) :
  ∃w h' m1,call (.fn f t1 t3) t2 h=some (w,h',[])∧HR X P A m1 ((if xH v||ext.any (hasB X)then aX (kU.kD (first++xs++cap)) H else H)++ext') h'∧VR X P (AA A m1) m1 h' (shift H.length v) w∧Fr m h m1 h'∧Up m m1:=by
 have hvs:=lF (m':=[]) hX hr ((h1.app h2).app h3) hv (is:=kU.kD (first++xs++cap)) fun i hi=>hi;generalize kU.kD (first++xs++cap)=is at hvs ⊢;obtain⟨w,h',m',c1,c2,c3,c4⟩:=hc (fun b=>FA A m is b∨h.length<=b) h t1 t2 t3 (fun b hb=>.inr hb) (hvs.mono fun b hb=>.inl hb);have hold:∀b,b<h.length->h'[b]? = h[b]?:=fun b hb=>c4.same b hb (by simp[bn]);have fP:∀b,b∈bn m'->h.length<=b:=fun b hb=>by
  rcases c4.new b hb with h0|h0
  .simp[bn]at h0
  .exact h0
 have key:∀(m0:List MB) (H0:List (PB X.Γ)),HR X P A m0 H0 h->Fr m h m0 h->Up m m0->m0.length=H.length->((∀b,FA A m is b->AA A m0 b)∨(xH v||ext.any (hasB X))=false) ->
   ∃m1,HR X P A m1 (H0++ext') h'∧VR X P (AA A m1) m1 h' (shift H.length v) w∧Fr m h m1 h'∧Up m m1:=by
  intro m0 H0 Zu hF0 hU0 qL hq;have hF:Fr m0 h (m0++m') h':=by
   refine⟨c4.len,fun b hb _=>hold b hb,fun b hb=>?_,fun b cs hc=>⟨cs,by rw[fK (hold b (gU hc)),hc],a1b _⟩⟩;rw[iZ,a3k]at hb;exact hb.imp_right fun hb=>fP b hb
  have hA:(∀b,AA (fun b=>FA A m is b∨h.length<=b) m' b->AA A (m0++m') b)∨(xH v||ext.any (hasB X))=false:=by
   refine hq.imp_left fun hq b hb=>?_;refine⟨?_,fun hm=>?_⟩
   .rcases hb.1 with h0|h0
    .exact(hq b h0).1
    .exact hr.up b h0
   .rw[iZ,a3k]at hm;rcases hm with hm|hm
    .rcases hb.1 with h0|h0
     .exact(hq b h0).2 hm
     .have:=Zu.inb hm;omega
    .exact hb.2 hm
  refine⟨m0++m',?_,?_,hF0.trans hF,hU0.trans (wQ _)⟩
  .refine Zu.next hF (wQ _) (by rw[a2j,a2j,Zu.len,Kz hs,c2.len]) ?_ fun i b hi=>?_
   .rw[iZ];refine a8P.2 ⟨Zu.nodup,c2.nodup,fun a ha b hb e=>?_⟩;subst e;have:=Zu.inb ha;have:=fP a hb;omega
   .rcases a4l i H0.length with aQ|EI
    .left;rw[a0j aQ]at hi;obtain⟨mb,g1,g2⟩:=Zu.at_ i b hi;exact⟨mb,hi,g1,by rw[a0j (by rw[Zu.len];exact aQ)];exact g1,fun c hc=>hold c (g2.has hc)⟩
    .right;rw[a1c EI]at hi;obtain⟨b0,g1,g2⟩:=Kw hs hi;obtain⟨mb,g3,g4⟩:=c2.at_ _ _ g1;refine⟨mb,by rw[a1c (by rw[Zu.len];exact EI),Zu.len];exact g3,?_⟩;rw[<-qL]at g2;refine g4.shift hX g2 (hA.imp_right fun hq=>?_);simp only[a9x,List.any_eq_false]at hq;simpa using hq.2 b0 (a4u g1)
  .rw[<-qL];exact c3.shift hX (hA.imp_right fun hq=>by simp only[a9x]at hq;exact hq.1)
 refine⟨w,h',?_⟩;by_cases hL:(xH v||ext.any (hasB X))=true
 .rw[a0p hL];obtain⟨m1,e1,e2,e3,e4⟩:=key (bT is m) (aX is H) (hr.aX is) (iq (h:=h) is m).1 (iq (h:=h) is m).2 (by rw[mP,hr.len]) (.inl fun b hb=>hb.gone hr);exact⟨m1,c1,e1,e2,e3,e4⟩
 .rw[a0o hL];obtain⟨m1,e1,e2,e3,e4⟩:=key m H hr .refl .refl hr.len (.inr (by simpa using hL));exact⟨m1,c1,e1,e2,e3,e4⟩
end
open Go Tw
section
variable {X:kQ} {P:Program} {A B F:Nat->Prop} {m m':List MB} {h h':List HB} {H H':List (PB X.Γ)}
def aW(X:kQ)(P:Program)(call:aY):a2N X.Γ:=fun fv xs H v H1=>
 ∀(A:Nat->Prop) (m:List MB) (h:List HB) (tf:TV) (rW:List TV),HR X P A m H h->VR X P (AA A m) m h fv tf->bU X P (AA A m) m h xs rW ->
  ∃w h1 ws m1,call tf rW h=some (w,h1,ws)∧HR X P A m1 H1 h1∧VR X P (AA A m1) m1 h1 v w∧Fr m h m1 h1∧Up m m1∧∀b∈ws,b∈bn m
def jE(X:kQ)(P:Program)(call:aY)(fJ:eY X.Γ):Prop:=∀f vs v ext ps,fJ f vs=some (v,ext,ps)->(∀p∈ps,p)->oq X P call f vs v ext
theorem uD{ρ:Type}{y:ρ}:∀{ps:List Prop} {x:OT ρ},(owe ps x).Ends y->(∀p∈ps,p)∧x.Ends y
 | [],x,h=>⟨by simp,h⟩
 |p::ps,x,h=>by
  have:=uD h.2;exact⟨fun q hq=>by rcases a2y.1 hq with rfl|hq;exact h.1;exact this.1 q hq,this.2⟩
theorem Zv{ρ:Type}{y:ρ}{u:PV X.Γ}{an:PT X.Γ}{k:Bool->PT X.Γ->OT ρ}(hk:(byB X u an k).Ends y){tu:TV}(hu:VR X P A m h u tu):∃t Ho,tu=.bool t∧(k t Ho).Ends y:=by
 cases u with
 |lit b=>
  have:tu=.bool b:=by
   cases hu with
   |lit=>rfl
   |gone hi _ _=>simp[bf]at hi
  exact⟨b,an,this,hk⟩
 |bool b=>
  have hb:tu=.bool b:=by
   cases hu with
   |bool=>rfl
   |gone hi _ _=>simp[bf]at hi
  subst hb;cases an with
  |s x z=>
   rcases hk with⟨h1,h2⟩|⟨h1,h2⟩
   .subst h1;exact⟨true,x,rfl,h2⟩
   subst h1;exact⟨false,z,rfl,h2⟩
  |a x r=>
   cases x with
   |br t=>obtain⟨h1,h2⟩:=hk;subst h1;exact⟨_,r,rfl,h2⟩
   |_=>exact hk.elim
  |_=>exact hk.elim
 |_=>exact hk.elim
theorem rC:∀{es:List (PV X.Γ×PV X.Γ)} {fQ:List (TV×TV)} {ks:List TV},es.length=fQ.length->(∀(i:Nat) x y,es[i]? = some x->fQ[i]? = some y->VR X P A m h x.1 y.1∧VR X P A m h x.2 y.2)->vg X es=some ks->fQ.map (·.1)=ks
 | [],fQ,ks,hl,_,hk=>by
  simp only[vg,a05]at hk;subst hk;cases fQ with
  |nil=>rfl
  |cons=>simp at hl
 |(k,v)::es,fQ,ks,hl,he,hk=>by
  cases fQ with
  |nil=>simp at hl
  |cons y fQ=>
   simp only[vg]at hk;split at hk
   .rename_i a b h1 h2;cases hk;have:=jL (he 0 _ _ rfl rfl).1 h1;simp only[a4k,this];rw[rC (by simpa using hl) (fun i x z hx hz=>he (i+1) x z (by simpa using hx) (by simpa using hz)) h2]
   cases hk
theorem WS:∀{ks:List TV} {vs:List Value},BA ks=some vs->vs.length=ks.length
 | [],vs,h=>by simp only[BA,a05]at h;subst h;rfl
 |k::ks,vs,h=>by
  simp only[BA]at h;split at h
  .rename_i v ws _ h2;cases h;simp[WS h2]
  cases h
theorem pO{kt:TypeId}{k:Value}{fQ:List (TV×TV)}:EF P kt k fQ=vk P kt k (fQ.map (·.1)):=by
 unfold EF vk;cases hv:BA (fQ.map (·.1))with
 |none=>rfl
 |some vs=>
  have hl:=WS hv;have:fQ.isEmpty=vs.isEmpty:=by
   cases fQ<;>cases vs<;>simp at hl<;>rfl
  simp only[this]<;>rfl
def RS:TV->List Key
 |.map r=>[.h r]
 |_=>[]
def a2S(h:List HB):TV->Option (List (TV×TV))
 |.nil .map=>some []
 |.map r=>match h[r]? with
  |some (.map es)=>some es
  |_=>none
 |_=>none
theorem KA{t:TypeId}{h:List HB}{tm tk:TV}{ok:Bool}{kt e:TypeId}{kv:Value}{es:List (TV×TV)}(hu:P.underlying t=some (.map kt e))(hk:tk.yB=some kv)(he:a2S h tm=some es) :
  gX P t h tm tk ok=match EF P kt kv es with
   |some (some i)=>match es[i]? with
    |some (_,v)=>some (if ok then .dI [v,.bool true]else v)
    |none=>none
   |some none=>match P.info? e with
    |some i=>match i.zero with
     |some z=>(TV.Vu z).map fun z=>if ok then .dI [z,.bool false]else z
     |none=>none
    |none=>none
   |none=>none:=by
 unfold gX;simp only[hu,hk];cases tm with
 |nil k=>
  cases k<;>simp only[a2S]at he<;>try (cases he;done)
  cases he;rfl
 |map r=>
  simp only[a2S]at he;split at he
  .rename_i es0 hb;cases he;simp only[hb];rfl
  .cases he
 |_=>simp[a2S]at he
theorem CX{H:List (PB X.Γ)}{h:List HB}(hr:HR X P A m H h){r:Nat}{es:List (PV X.Γ×PV X.Γ)}(he:Ku X H r=some es):∃c fQ,(m[r]? = some (.fU c)∨(m[r]? = some (.jl c)∧c∉bn m))∧h[c]? = some (.map fQ)∧es.length=fQ.length ∧
  ∀(i:Nat) x y,es[i]? = some x->fQ[i]? = some y->qg x.1=some y.1∧qg x.2=some y.2:=by
 unfold Ku at he;split at he
 .rename_i es0 hb;cases he;obtain⟨mb,g1,g2⟩:=hr.at_ r _ hb;cases mb with
  |fU c=>obtain⟨fQ,g3,g4,g5⟩:=g2;exact⟨c,fQ,.inl g1,g3,g4,g5⟩
  |_=>exact g2.elim
 .rename_i es0 hb;cases he;obtain⟨mb,g1,g2⟩:=hr.at_ r _ hb;cases mb with
  |jl c=>obtain⟨g0,fQ,g3,g4,g5⟩:=g2;exact⟨c,fQ,.inr ⟨g1,g0⟩,g3,g4,g5⟩
  |_=>exact g2.elim
 .cases he
theorem a1a{B:Nat->Prop}{h:List HB}{r c:Nat}{tm:TV}(hm:VR X P B m h (.map r) tm)(hc:m[r]? = some (.fU c)∨(m[r]? = some (.jl c)∧c∉bn m)):tm=.map c:=by
 cases hm with
 |map e=>
  rcases hc with h|⟨h,_⟩<;>rw[h]at e<;>cases e
  rfl
 |gone hi e _=>
  simp only[bf,a05]at hi;subst hi;rcases hc with h|⟨h,_⟩<;>rw[h]at e
  .cases e
  cases e with
  |r c hv=>simp only[roV,a05]at hv;exact hv.symm
theorem RU{r c:Nat}{ks:List Key}(hc:m[r]? = some (.fU c)∨(m[r]? = some (.jl c)∧c∉bn m)):(∃i,Key.h i∈Key.h r::ks∧He m i c)∨c∉bn m:=by
 rcases hc with h|⟨_,h⟩
 .exact .inl ⟨r,by simp,iP h rfl⟩
 exact .inr h
theorem aee{ps:aS X.Γ}{ts:St}(hR:uQ X P A m ps ts){mv:PV X.Γ}{tm:TV}(hm:VR X P (AA A m) m ts.heap mv tm){es:List (PV X.Γ×PV X.Γ)}(he:a5G X ps.heap mv=some es) :
  ∃fQ,a2S ts.heap tm=some fQ∧es.length=fQ.length∧(∀(i:Nat) x y,es[i]? = some x->fQ[i]? = some y->VR X P (AA A m) m ts.heap x.1 y.1∧VR X P (AA A m) m ts.heap x.2 y.2) ∧
   IR m ts.heap ⟨gY (RD X mv),false,false,true⟩ (gY (RS tm)):=by
 cases mv with
 |nil k=>
  cases hm with
  |nil=>
   cases k<;>simp only[a5G]at he<;>try (cases he;done)
   cases he;exact⟨[],rfl,rfl,fun i x y hx=>by simp at hx,IR.reads rfl (by simp[RS]) (by simp[RS])⟩
  |gone hi _ _=>simp[bf]at hi
 |map r=>
  simp only[a5G]at he;obtain⟨c,fQ,g0,g3,g4,g5⟩:=CX hR.heap he;have htm:=a1a hm g0;subst htm;refine⟨fQ,by simp only[a2S,g3],g4,fun i x y e1 e2=>⟨nS (g5 i x y e1 e2).1,nS (g5 i x y e1 e2).2⟩,IR.reads rfl (fun b hb=>?_) (by simp[RS])⟩;simp[RS]at hb;subst hb;exact⟨RU g0,(a0c.1 g3).1⟩
 |_=>simp[a5G]at he
theorem MF{a b:PV X.Γ}{x y:TV}(h1:VR X P A m h a x)(h2:VR X P A m h b y):VR X P A m h (.dI [a,b]) (.dI [x,y]):=by
 have:=(bU.nil (X:=X) (P:=P) (A:=A) (m:=m) (h:=h)).cons h2 |>.cons h1
 exact .dI this.1 this.2
theorem WT{e:TypeId}{z:PV X.Γ}(h:Oh X P e=some z):∃i z0 z1,P.info? e=some i∧i.zero=some z0∧TV.Vu z0=some z1∧Yv z1=some z:=by
 unfold Oh at h;split at h
 .rename_i i hi;split at h
  .rename_i z0 hz0;split at h
   .rename_i z1 hz1;exact⟨i,z0,z1,hi,hz0,hz1,h⟩
   cases h
  cases h
 cases h
theorem a9F{ρ:Type}{y:ρ}{ps:aS X.Γ}{ts:St}(hR:uQ X P A m ps ts){t:TypeId}{mv kv:PV X.Γ}{tm tk:TV}(hm:VR X P (AA A m) m ts.heap mv tm)(hk:VR X P (AA A m) m ts.heap kv tk){ok:Bool}{an:PT X.Γ}{c:PE X.Γ->PI->PT X.Γ->OT ρ}
  (hl:(Zl X P t ps mv kv ok an c).Ends y):∃v pi Ho w,gX P t ts.heap tm tk ok=some w∧VR X P (AA A m) m ts.heap v w∧(c (.val v) pi Ho).Ends y∧IR m ts.heap pi (gY (RS tm)):=by
 unfold Zl at hl;split at hl
 .rename_i kt e tk' es hu htk LD;have:=jL hk htk;subst this;obtain⟨fQ,f1,f2,f3,f4⟩:=aee hR hm LD;have fnd:∀{xJ ks j k0 v},tk.yB=some xJ->vg X es=some ks->vk P kt xJ ks=some (some j)->es[j]? = some (k0,v)->∃w,gX P t ts.heap tm tk ok=some w∧VR X P (AA A m) m ts.heap (if ok then .dI [v,.bool true]else v) w:=by
   intro xJ ks j k0 v Ox EL Oy hj;have su:=rC f2 f3 EL;have aQ:j<fQ.length:=by rw[<-f2];exact(a0c.1 hj).1
   have DR:=a0f aQ;have hv:=(f3 j _ _ hj DR).2;refine⟨(if ok then .dI [fQ[j].2,.bool true]else fQ[j].2),?_,?_⟩
   .rw[KA hu Ox f1];simp only[pO,su,Oy,DR]
   .cases ok with
    |true=>exact MF hv (.bool _)
    |false=>exact hv
  have non:∀{xJ ks z},tk.yB=some xJ->vg X es=some ks->vk P kt xJ ks=some none->Oh X P e=some z->∃w,gX P t ts.heap tm tk ok=some w∧VR X P (AA A m) m ts.heap (if ok then .dI [z,.bool false]else z) w:=by
   intro xJ ks z Ox EL Oy hz;have su:=rC f2 f3 EL;obtain⟨i,z0,z1,hi,hz0,hz1,hz2⟩:=WT hz;refine⟨(if ok then .dI [z1,.bool false]else z1),?_,?_⟩
   .rw[KA hu Ox f1];simp only[pO,su,Oy,hi,hz0,hz1,a0v]
   .cases ok with
    |true=>exact MF (wR hz2) (.bool _)
    |false=>exact wR hz2
  split at hl
  .obtain⟨⟨xJ,ks,j,k0,g1,g2,g3,g4⟩,hl⟩:=hl;obtain⟨w,w1,w2⟩:=fnd g1 g2 g3 g4;exact⟨_,_,_,w,w1,w2,hl,f4⟩
  .split at hl
   .rename_i z hz;obtain⟨⟨xJ,ks,g1,g2,g3⟩,hl⟩:=hl;obtain⟨w,w1,w2⟩:=non g1 g2 g3 hz;exact⟨_,_,_,w,w1,w2,hl,f4⟩
   .exact hl.elim
  .split at hl
   .rename_i z hz;obtain⟨⟨xJ,ks,g1,g2,g3⟩,hl⟩:=hl;obtain⟨w,w1,w2⟩:=non g1 g2 g3 hz;exact⟨_,_,_,w,w1,w2,hl,f4⟩
   .exact hl.elim
  .split at hl
   .rename_i xJ ks Ox EL;split at hl
    .rename_i j r _ _;split at hl
     .rename_i k0 v hj;obtain⟨Oy,hl⟩:=hl;obtain⟨w,w1,w2⟩:=fnd Ox EL Oy hj;exact⟨_,_,_,w,w1,w2,hl,f4⟩
     .exact hl.elim
    .split at hl
     .rename_i z hz;obtain⟨Oy,hl⟩:=hl;obtain⟨w,w1,w2⟩:=non Ox EL Oy hz;exact⟨_,_,_,w,w1,w2,hl,f4⟩
     .exact hl.elim
    .exact hl.elim
   .exact hl.elim
 .exact hl.elim
theorem a2T{x:TV}{v:PV X.Γ}(h:ofC x=some v):qW v=some x:=by
 cases x<;>simp only[ofC,a05,reduceCtorEq]at h<;>subst h<;>rfl
theorem Oz:∀{x:List TV} {v:List (PV X.Γ)},BP x=some v->iI v=some x
 | [],v,h=>by cases h;rfl
 |a::l,v,h=>by
  simp only[BP]at h;split at h
  .rename_i b bs h1 h2;cases h;simp only[iI,a2T h1,Oz h2]
  cases h
theorem a9G{x:TV}{v:PV X.Γ}(h:Yv x=some v):qg v=some x:=by
 cases x
 case agg cs=>
  simp only[Yv,a0e]at h;obtain⟨w,h1,rfl⟩:=h;simp only[qg,Oz h1,a0v]
 all_goals
  simp only[Yv,ofC,a05,reduceCtorEq]at h
  try subst h
  try rfl
theorem Zw{ps:aS X.Γ}{ts:St}(hR:uQ X P A m ps ts){r cb:Nat}{es0:List (TV×TV)}(g1:m[r]? = some (.fU cb))(f1:ts.heap[cb]? = some (.map es0))(en:List (PV X.Γ×PV X.Γ))(en':List (TV×TV))(h1:en.length=en'.length)
  (h2:∀(i:Nat) x y,en[i]? = some x->en'[i]? = some y->qg x.1=some y.1∧qg x.2=some y.2) :
  uQ X P A m { ps with heap:=ps.heap.set r (.map en) } { ts with heap:=ts.heap.set cb (.map en') }∧Fr m ts.heap m (ts.heap.set cb (.map en')):=by
 have aQ:=(a0c.1 f1).1;obtain⟨q1,q2⟩:=hR.heap.set (pb:=.map en) (hb:=.map en') g1 (c:=cb) rfl (fun cs hc=>by simp[aV,f1]at hc) fun hF=>⟨en',by simp[aQ],h1,h2⟩;exact⟨hR.step q1 q2 .refl,q2⟩
theorem RV{es:List (PV X.Γ×PV X.Γ)}{fQ:List (TV×TV)}(f2:es.length=fQ.length)(f3:∀(i:Nat) x y,es[i]? = some x->fQ[i]? = some y->qg x.1=some y.1∧qg x.2=some y.2){k v:PV X.Γ}{tk tv:TV}(h1:qg k=some tk)(h2:qg v=some tv) :
  ∀(i:Nat) x y,(es++[(k,v)])[i]? = some x->(fQ++[(tk,tv)])[i]? = some y->qg x.1=some y.1∧qg x.2=some y.2:=fun i a b ha qK=>by
 rcases a4l i es.length with aQ|EI
 .rw[a0j aQ]at ha;rw[a0j (by rw[<-f2];exact aQ)]at qK;exact f3 i a b ha qK
 .rw[a1c EI]at ha;rw[a1c (by rw[<-f2];exact EI),<-f2]at qK;cases hx:i-es.length with
  |zero=>
   rw[hx]at ha qK;simp only[a2V,a05]at ha qK;subst ha;subst qK;exact⟨h1,h2⟩
  |succ n=>rw[hx]at ha;simp at ha
theorem a5V{ps:aS X.Γ}{ts:St}(hR:uQ X P A m ps ts){r:Nat}{es:List (PV X.Γ×PV X.Γ)}{tm:TV}(hb:ps.heap[r]? = some (.map es))(hm:VR X P (AA A m) m ts.heap (.map r) tm) :
  ∃cb fQ,tm=.map cb∧m[r]? = some (.fU cb)∧ts.heap[cb]? = some (.map fQ)∧es.length=fQ.length∧∀(i:Nat) x y,es[i]? = some x->fQ[i]? = some y->qg x.1=some y.1∧qg x.2=some y.2:=by
 obtain⟨mb,g1,g2⟩:=hR.heap.at_ r _ hb;cases mb with
 |fU cb=>
  obtain⟨fQ,f1,f2,f3⟩:=g2;cases hm with
  |gone hi e' _=>simp only[bf,a05]at hi;subst hi;rw[g1]at e';cases e'
  |map e'=>rw[g1]at e';cases e';exact⟨cb,fQ,rfl,g1,f1,f2,f3⟩
 |_=>exact g2.elim
theorem a9H{ρ:Type}{y:ρ}{ps:aS X.Γ}{ts:St}(hR:uQ X P A m ps ts){t:TypeId}{mv kv:PV X.Γ}{tm tk:TV}(hm:VR X P (AA A m) m ts.heap mv tm)(hk:VR X P (AA A m) m ts.heap kv tk){an:PT X.Γ}{c:PE X.Γ->aS X.Γ->PI->PT X.Γ->OT ρ}
  (hl:(a5J X P t ps mv kv an c).Ends y):∃e e' ps1 pi Ho h1 ti,BX P t ts tm tk=some (e',{ ts with heap:=h1 },ti)∧Iy X P (AA A m) m h1 e e'∧uQ X P A m ps1 { ts with heap:=h1 }∧Fr m ts.heap m h1∧(c e ps1 pi Ho).Ends y∧IR m ts.heap pi ti∧∀b,.h b∈ti.ws->b∈bn m:=by
 unfold a5J at hl;split at hl
 .rename_i kt e tk' r hu htk;have:=jL hk htk;subst this;split at hl
  .rename_i es hb;obtain⟨cb,fQ,rfl,g1,f1,f2,f3⟩:=a5V hR hb hm;have f3v:∀(i:Nat) x y,es[i]? = some x->fQ[i]? = some y->VR X P (AA A m) m ts.heap x.1 y.1∧VR X P (AA A m) m ts.heap x.2 y.2:=fun i x y e1 e2=>⟨nS (f3 i x y e1 e2).1,nS (f3 i x y e1 e2).2⟩;have aQ:=(a0c.1 f1).1;split at hl
   .rename_i v _ j rest;split at hl
    case h_2=>exact hl.elim
    rename_i va vx;obtain⟨⟨xJ,ks,old,ov,Ox,c1,EL,c2,hj,hold,hov,c3⟩,hl⟩:=hl;have su:=rC f2 f3v EL;have DR:j<fQ.length:=by rw[<-f2];exact(a0c.1 hj).1
    have Vx:=a0f DR;have hy1:(fQ[j]).1=old:=by
     have:(fQ.map (·.1))[j]? = some (fQ[j]).1:=by rw[a4q,Vx];rfl
     rw[su,hold]at this;exact(a94 this).symm
    have htv:=(f3 j _ _ hj Vx).2;obtain⟨w1,w2⟩:=Zw hR g1 f1 es (fQ.set j (tk,(fQ[j]).2)) (by simp[f2]) fun i a b ha qK=>by
     by_cases e:j=i
     .subst e;rw[a4o,Vx]at qK;rw[hj]at ha;cases ha;cases qK;exact⟨htk,htv⟩
     .rw[a1q e]at qK;exact f3 i a b ha qK
    have Fj:ps.heap.set r (.map es)=ps.heap:=by
     refine a9D fun i=>?_;by_cases e:r=i
     .subst e;rw[a2l (a0c.1 hb).1,hb]
     .rw[a1q e]
    rw[Fj]at w1;refine⟨.ent r j (.int va vx),.ent cb j (fQ[j]).2,_,_,_,_,pz (.h cb),?_,⟨.map g1,rfl,htv⟩,w1,w2,hl,.wrH (iP g1 rfl) aQ,fun b hb=>by simp[pz]at hb;subst hb;exact aZ g1 rfl⟩;have VE:fQ[j].1=tk:=by
     have:=(f3 j _ _ hj Vx).1;rw[htk]at this;exact(a94 this).symm
    have hv1:fQ[j].2=.int va vx:=by
     have h9:some (TV.int va vx)=some (fQ[j]).2:=htv;exact(a94 h9).symm
    have VQ:fQ.set j (tk,(fQ[j]).2)=fQ:=by
     rw[show(tk,(fQ[j]).2)=fQ[j]from aby VE.symm rfl];exact List.set_getElem_self DR
    have hl1:gX P t ts.heap (.map cb) tk false=some (.int va vx):=by
     unfold gX;simp only[hu,Ox,f1,pO,su,c2,Vx,hv1,a2P,a3T]
    have hcb:ts.heap.set cb (.map fQ)=ts.heap:=by
     refine a9D fun i=>?_;by_cases e:cb=i
     .subst e;rw[a2l aQ,f1]
     .rw[a1q e]
    have h0:zU P t ts (.map cb) tk=some (.ent cb j (fQ[j]).2,{ ts with heap:=ts.heap.set cb (.map (fQ.set j (tk,(fQ[j]).2))) },pz (.h cb)):=by
     unfold zU;simp only[hu,Ox,f1,c1,pO,su,c2,Vx,hy1,hov,c3,a2w]
    unfold BX;rw[h0];simp only[];rw[a0p];unfold a0d;rw[VQ,hcb,hl1];simp
   .split at hl
    .rename_i va vx hz;obtain⟨⟨xJ,q1,c1⟩,⟨abU,ks,q2,EL,c2⟩,⟨arI,ks2,q3,anM,c4⟩,hl⟩:=hl;rw[q1]at q2;cases q2;rw[q1]at q3;cases q3;obtain⟨i,z0,z1,hi,hz0,hz1,hz2⟩:=WT hz;have su:=rC f2 f3v EL;have hzt:=a9G hz2;obtain⟨w1,w2⟩:=Zw hR g1 f1 (es++[(kv,.int va vx)]) (fQ++[(tk,z1)]) (by simp[f2]) (RV f2 f3 htk hzt);refine⟨.ent r es.length (.int va vx),.ent cb fQ.length z1,_,_,_,_,pz (.h cb),?_,⟨.map g1,f2,hzt⟩,w1,w2,hl,.wrH (iP g1 rfl) aQ,fun b hb=>by simp[pz]at hb;subst hb;exact aZ g1 rfl⟩;have hv1:z1=.int va vx:=by
      have h9:some (TV.int va vx)=some z1:=hzt;exact(a94 h9).symm
     have hl1:gX P t ts.heap (.map cb) tk false=some (.int va vx):=by
      unfold gX;simp only[hu,q1,f1,pO,su,c2,hi,hz0,hz1,hv1,a0v,a2P,a3T]
     have aef:(fQ++[(tk,z1)]).map (·.1)=ks2:=rC (P:=P) (A:=AA A m) (m:=m) (h:=ts.heap) (es:=es++[(kv,.int va vx)]) (by simp[f2]) (fun i x y e1 e2=>let ⟨a1,a2⟩:=RV f2 f3 htk hzt i x y e1 e2;⟨nS a1,nS a2⟩) anM;have QH:gX P t (ts.heap.set cb (.map (fQ++[(tk,z1)]))) (.map cb) tk false=some (.int va vx):=by
      have e9:(fQ++[(tk,z1)])[es.length]? = some (tk,z1):=by rw[f2];simp
      unfold gX;simp only[hu,q1,a2l aQ,pO,aef,c4,e9,a2P,a3T];rw[hv1]
     have h0:zU P t ts (.map cb) tk=some (.ent cb fQ.length z1,{ ts with heap:=ts.heap.set cb (.map (fQ++[(tk,z1)])) },pz (.h cb)):=by
      unfold zU;simp only[hu,q1,f1,c1,pO,su,c2,hi,hz0,hz1]
     unfold BX;rw[h0];simp only[];rw[a0p];unfold a0d;rw[hl1,QH];simp
    .exact hl.elim
   .exact hl.elim
  .exact hl.elim
 .exact hl.elim
theorem a9J{ρ:Type}{y:ρ}{ps:aS X.Γ}{ts:St}(hR:uQ X P A m ps ts){mv v:PV X.Γ}{e:PE X.Γ}{tm tv:TV}{e':EV}(hm:VR X P (AA A m) m ts.heap mv tm)(he:Iy X P (AA A m) m ts.heap e e')(hv:VR X P (AA A m) m ts.heap v tv){c:aS X.Γ->PI->OT ρ}
  (hl:(a5K X ps mv e v c).Ends y):∃ps1 pi h1 ti,Gl ts tm e' tv=some ({ ts with heap:=h1 },ti)∧uQ X P A m ps1 { ts with heap:=h1 }∧Fr m ts.heap m h1∧(c ps1 pi).Ends y∧IR m ts.heap pi ti∧∀b,.h b∈ti.ws->b∈bn m:=by
 unfold a5K at hl;split at hl
 .rename_i r r' j tv' htv;have:=jL hv htv;subst this;split at hl
  .rename_i hrr;subst hrr;split at hl
   .rename_i es hb;obtain⟨hj,hl⟩:=hl;obtain⟨cb,fQ,rfl,g1,f1,f2,f3⟩:=a5V hR hb hm;obtain⟨c',rfl,hm'⟩:=Me he;have hc:c'=cb:=by
     cases hm' with
     |gone hi e' _=>simp only[bf,a05]at hi;subst hi;rw[g1]at e';cases e'
     |map e'=>rw[g1]at e';cases e';rfl
    subst hc;have aQ:=(a0c.1 f1).1;have DR:j<fQ.length:=by rw[<-f2];exact hj
    have Vx:=a0f DR;obtain⟨w1,w2⟩:=Zw hR g1 f1 (J3 es j v) (fQ.set j ((fQ[j]).1,tv)) (by unfold J3;simp[f2]) fun i a b ha qK=>by
     unfold J3 at ha;rw[adK]at ha;by_cases e:j=i
     .subst e;rw[a4o,Vx]at qK;simp only[a2w,a0f hj,Option.map_eq_map,a0v,a05]at ha;subst ha;cases qK;exact⟨(f3 j _ _ (a0f hj) Vx).1,htv⟩
     .rw[a1q e]at qK;have ha:es[i]? = some a:=(by simpa[e]using ha);exact f3 i a b ha qK
    refine⟨_,_,_,pz (.h c'),?_,w1,w2,hl,.wrH (iP g1 rfl) aQ,fun b hb=>by simp[pz]at hb;subst hb;exact aZ g1 rfl⟩;unfold Gl;simp only[a2w,f1,Vx]
   .exact hl.elim
  .exact hl.elim
 .exact hl.elim
theorem a5X{ρ:Type}{y:ρ}{ps:aS X.Γ}{ts:St}(hR:uQ X P A m ps ts){t:TypeId}{mv kv v:PV X.Γ}{tm tk tv:TV}(hm:VR X P (AA A m) m ts.heap mv tm)(hk:VR X P (AA A m) m ts.heap kv tk)(hv:VR X P (AA A m) m ts.heap v tv){an:PT X.Γ}{c:aS X.Γ->PI->PT X.Γ->OT ρ}
  (hl:(a5H X P t ps mv kv v an c).Ends y):∃ps1 pi Ho h1 ti,xM P t ts tm tk tv=some ({ ts with heap:=h1 },ti)∧uQ X P A m ps1 { ts with heap:=h1 }∧Fr m ts.heap m h1∧(c ps1 pi Ho).Ends y∧IR m ts.heap pi ti∧∀b,.h b∈ti.ws->b∈bn m:=by
 unfold a5H at hl;split at hl
 .rename_i kt e tk' r tv' hu htk htv;have:=jL hk htk;subst this;have:=jL hv htv;subst this;split at hl
  .rename_i es hb;obtain⟨mb,g1,g2⟩:=hR.heap.at_ r _ hb;cases mb with
   |fU cb=>
    obtain⟨fQ,f1,f2,f3⟩:=g2;have f3v:∀(i:Nat) x y,es[i]? = some x->fQ[i]? = some y->VR X P (AA A m) m ts.heap x.1 y.1∧VR X P (AA A m) m ts.heap x.2 y.2:=fun i x y e1 e2=>⟨nS (f3 i x y e1 e2).1,nS (f3 i x y e1 e2).2⟩;cases hm with
    |gone hi e' _=>simp only[bf,a05]at hi;subst hi;rw[g1]at e';cases e'
    |map e'=>
     rw[g1]at e';cases e';have aQ:=(a0c.1 f1).1;have wr:∀(en:List (PV X.Γ×PV X.Γ)) (en':List (TV×TV)),en.length=en'.length->(∀(i:Nat) x y,en[i]? = some x->en'[i]? = some y->qg x.1=some y.1∧qg x.2=some y.2) ->
       uQ X P A m { ps with heap:=ps.heap.set r (.map en) } { ts with heap:=ts.heap.set cb (.map en') }∧Fr m ts.heap m (ts.heap.set cb (.map en')):=by
      intro en en' h1 h2;obtain⟨q1,q2⟩:=hR.heap.set (pb:=.map en) (hb:=.map en') g1 (c:=cb) rfl (fun cs hc=>by simp[aV,f1]at hc) fun hF=>⟨en',by simp[aQ],h1,h2⟩;exact⟨hR.step q1 q2 .refl,q2⟩
     have new:∀{xJ ks},tk.yB=some xJ->vg X es=some ks->aB P (Instr.checkKey false 10000 kt xJ)=some ()->vk P kt xJ ks=some none ->
       xM P t ts (.map cb) tk tv=some ({ ts with heap:=ts.heap.set cb (.map (fQ++[(tk,tv)])) },pz (.h cb))∧uQ X P A m { ps with heap:=ps.heap.set r (.map (es++[(kv,v)])) } { ts with heap:=ts.heap.set cb (.map (fQ++[(tk,tv)])) }∧Fr m ts.heap m (ts.heap.set cb (.map (fQ++[(tk,tv)]))):=by
      intro xJ ks Ox EL c1 c2;have su:=rC f2 f3v EL;obtain⟨w1,w2⟩:=wr (es++[(kv,v)]) (fQ++[(tk,tv)]) (by simp[f2]) fun i a b ha qK=>by
       rcases a4l i es.length with aQ|EI
       .rw[a0j aQ]at ha;rw[a0j (by rw[<-f2];exact aQ)]at qK;exact f3 i a b ha qK
       .rw[a1c EI]at ha;rw[a1c (by rw[<-f2];exact EI),<-f2]at qK;cases hx:i-es.length with
        |zero=>
         rw[hx]at ha qK;simp only[a2V,a05]at ha qK;subst ha;subst qK;exact⟨htk,htv⟩
        |succ n=>rw[hx]at ha;simp at ha
      refine⟨?_,w1,w2⟩;unfold xM;simp only[hu,Ox,f1,c1,pO,su,c2]
     split at hl
     .obtain⟨⟨xJ,q1,c1⟩,⟨abU,ks,q2,EL,c2⟩,hl⟩:=hl;rw[q1]at q2;cases q2;obtain⟨u1,u2,u3⟩:=new q1 EL c1 c2;exact⟨_,_,_,_,pz (.h cb),u1,u2,u3,hl,.wrH (iP g1 rfl) aQ,fun b hb=>by simp[pz]at hb;subst hb;exact aZ g1 rfl⟩
     .obtain⟨⟨xJ,q1,c1⟩,⟨abU,ks,q2,EL,c2⟩,hl⟩:=hl;rw[q1]at q2;cases q2;obtain⟨u1,u2,u3⟩:=new q1 EL c1 c2;exact⟨_,_,_,_,pz (.h cb),u1,u2,u3,hl,.wrH (iP g1 rfl) aQ,fun b hb=>by simp[pz]at hb;subst hb;exact aZ g1 rfl⟩
     .obtain⟨⟨xJ,ks,j,old,ov,Ox,c1,EL,c2,hj,hold,hov,c3⟩,hl⟩:=hl;have su:=rC f2 f3v EL;have DR:∃y0,fQ[j]? = some y0:=by
       have:j<fQ.length:=by rw[<-f2];exact(a0c.1 hj).1
       exact⟨_,a0f this⟩
      obtain⟨y0,Vx⟩:=DR;have hy1:y0.1=old:=by
       have:(fQ.map (·.1))[j]? = some y0.1:=by rw[a4q,Vx];rfl
       rw[su,hold]at this;exact(a94 this).symm
      obtain⟨w1,w2⟩:=wr es (fQ.set j (tk,tv)) (by simp[f2]) fun i a b ha qK=>by
       by_cases e:j=i
       .subst e;rw[a4o]at qK;rw[hj]at ha;rw[Vx]at qK;cases ha;cases qK;exact⟨htk,htv⟩
       .rw[a1q e]at qK;exact f3 i a b ha qK
      have Fj:ps.heap.set r (.map es)=ps.heap:=by
       refine a9D fun i=>?_;by_cases e:r=i
       .subst e;rw[a2l (a0c.1 hb).1,hb]
       .rw[a1q e]
      rw[Fj]at w1;refine⟨_,_,_,_,pz (.h cb),?_,w1,w2,hl,.wrH (iP g1 rfl) aQ,fun b hb=>by simp[pz]at hb;subst hb;exact aZ g1 rfl⟩;unfold xM;simp only[hu,Ox,f1,c1,pO,su,c2,Vx,hy1,hov,c3,a2w]
     .split at hl
      .rename_i xJ ks Ox EL;have su:=rC f2 f3v EL;split at hl
       .rename_i j rest _ _ _;split at hl
        .rename_i x0 old hj hold;split at hl
         .rename_i ov hov;obtain⟨c1,c2,c3,hl⟩:=hl;have DR:∃y0,fQ[j]? = some y0:=by
           have:j<fQ.length:=by rw[<-f2];exact(a0c.1 hj).1
           exact⟨_,a0f this⟩
          obtain⟨y0,Vx⟩:=DR;have hy1:y0.1=old:=by
           have:(fQ.map (·.1))[j]? = some y0.1:=by rw[a4q,Vx];rfl
           rw[su,hold]at this;exact(a94 this).symm
          obtain⟨w1,w2⟩:=wr (es.set j (kv,v)) (fQ.set j (tk,tv)) (by simp[f2]) fun i a b ha qK=>by
           by_cases e:j=i
           .subst e;rw[a4o]at ha qK;rw[hj]at ha;rw[Vx]at qK;cases ha;cases qK;exact⟨htk,htv⟩
           .rw[a1q e]at ha qK;exact f3 i a b ha qK
          refine⟨_,_,_,_,pz (.h cb),?_,w1,w2,hl,.wrH (iP g1 rfl) aQ,fun b hb=>by simp[pz]at hb;subst hb;exact aZ g1 rfl⟩;unfold xM;simp only[hu,Ox,f1,c1,pO,su,c2,Vx,hy1,hov,c3,a2w]
         .exact hl.elim
        .exact hl.elim
       .obtain⟨c1,c2,hl⟩:=hl;obtain⟨u1,u2,u3⟩:=new Ox EL c1 c2;exact⟨_,_,_,_,pz (.h cb),u1,u2,u3,hl,.wrH (iP g1 rfl) aQ,fun b hb=>by simp[pz]at hb;subst hb;exact aZ g1 rfl⟩
       .exact hl.elim
      .exact hl.elim
   |_=>exact g2.elim
  .exact hl.elim
 .exact hl.elim
end
open Go Tw
theorem kF{m:List MB}{b:Nat}(h:b∈bn m):∃i,He m i b:=by
 obtain⟨mb,h1,h2⟩:=a6m.1 h;obtain⟨i,hi⟩:=a8K h1;exact⟨i,mb,hi,h2⟩
section
variable {X:kQ} {P:Program} {A B:Nat->Prop} {m m1:List MB} {h:List HB} {g:Nat->Option Nat}
theorem jB:∀{m:List MB},(∀i j c,He m i c->He m j c->i=j)->(bn m).Nodup
 | [],_=>by simp[bn]
 |x::m,hu=>by
  have ih:(bn m).Nodup:=jB fun i j c h1 h2=>by
   have:=hu (i+1) (j+1) c (by obtain⟨mb,a,b⟩:=h1;exact⟨mb,by simpa using a,b⟩) (by obtain⟨mb,a,b⟩:=h2;exact⟨mb,by simpa using a,b⟩);omega
  unfold bn at ih ⊢;rw[a8V];split
  .exact ih
  rename_i b hb;refine a4r.2 ⟨fun hm=>?_,ih⟩;obtain⟨i,mb,h1,h2⟩:=kF (m:=m) hm;have:=hu 0 (i+1) b ⟨x,rfl,hb⟩ ⟨mb,by simpa using h1,h2⟩;omega
theorem OA:∀{ks:List Nat} {i p:Nat},wL ks i=some p->ks[p]? = some i
 | [],i,p,h=>by cases h
 |a::ks,i,p,h=>by
  simp only[wL]at h;split at h
  .rename_i e;cases h;simp[e]
  simp only[a0e]at h;obtain⟨q,h1,rfl⟩:=h;simpa using OA h1
section
variable {g:Nat->Option Nat} {m1:List MB}
theorem E8(hg:∀i j,g i=some j->m1[j]? = m[i]?){B:Nat->Prop}(hA:∀b,A b->B b)(hX:bM X P){v:PV X.Γ}{x:TV}(hv:VR X P A m h v x):∀{w:PV X.Γ},fH g v=some w->VR X P B m1 h w x:=by
 have lists:∀{vs:List (PV X.Γ)} {xs:List TV},vs.length=xs.length->(∀(i:Nat) a b,vs[i]? = some a->xs[i]? = some b->∀{w:PV X.Γ},fH g a=some w->VR X P B m1 h w b)->∀{ws:List (PV X.Γ)},fH.oW g vs=some ws->ws.length=xs.length∧∀(i:Nat) a b,ws[i]? = some a->xs[i]? = some b->VR X P B m1 h a b:=by
  intro vs
  induction vs with
  |nil=>
   intro xs hl _ ws hw;simp only[fH.oW,a05]at hw;subst hw;exact⟨hl,fun i a b ha=>by simp at ha⟩
  |cons v vs ih=>
   intro xs hl hh ws hw;cases xs with
   |nil=>simp at hl
   |cons x xs=>
    simp only[fH.oW]at hw;split at hw
    .rename_i w TQ h1 h2;cases hw;obtain⟨e1,e2⟩:=ih (xs:=xs) (by simpa using hl) (fun i a b ha hb=>hh (i+1) a b (by simpa using ha) (by simpa using hb)) h2;refine⟨by simp[e1],fun i a b ha hb=>?_⟩;cases i with
     |zero=>simp only[a2V,a05]at ha hb;subst ha;subst hb;exact hh 0 v x rfl rfl h1
     |succ i=>exact e2 i a b (by simpa using ha) (by simpa using hb)
    cases hw
 induction hv with
 |bool=>intro w hw;simp only[fH,a05]at hw;subst hw;exact .bool _
 |lit=>intro w hw;simp only[fH,a05]at hw;subst hw;exact .lit _
 |int=>intro w hw;simp only[fH,a05]at hw;subst hw;exact .int _ _
 |str=>intro w hw;simp only[fH,a05]at hw;subst hw;exact .str _
 |nil=>intro w hw;simp only[fH,a05]at hw;subst hw;exact .nil _
 |ptr e=>intro w hw;simp only[fH,a0e]at hw;obtain⟨j,h1,rfl⟩:=hw;exact .ptr (by rw[hg _ _ h1];exact e)
 |slc e=>intro w hw;simp only[fH,a0e]at hw;obtain⟨j,h1,rfl⟩:=hw;exact .slc (by rw[hg _ _ h1];exact e)
 |own e o=>intro w hw;simp only[fH,a0e]at hw;obtain⟨j,h1,rfl⟩:=hw;exact .own (by rw[hg _ _ h1];exact e) o
 |win e q q' q2=>intro w hw;simp only[fH,a0e]at hw;obtain⟨j,h1,rfl⟩:=hw;exact .win (by rw[hg _ _ h1];exact e) q q' q2
 |Ag e=>intro w hw;simp only[fH,a0e]at hw;obtain⟨j,h1,rfl⟩:=hw;exact .Ag (by rw[hg _ _ h1];exact e)
 |map e=>intro w hw;simp only[fH,a0e]at hw;obtain⟨j,h1,rfl⟩:=hw;exact .map (by rw[hg _ _ h1];exact e)
 |iter e=>intro w hw;simp only[fH,a0e]at hw;obtain⟨j,h1,rfl⟩:=hw;exact .iter (by rw[hg _ _ h1];exact e)
 |kP e=>intro w hw;simp only[fH,a0e]at hw;obtain⟨j,h1,rfl⟩:=hw;exact .kP (by rw[hg _ _ h1];exact e)
 |row e j q=>intro w hw;simp only[fH,a0e]at hw;obtain⟨j,h1,rfl⟩:=hw;exact .row (by rw[hg _ _ h1];exact e) (by assumption) q
 |fn h1 _ h3 _ i2 i4=>
  intro w hw;simp only[fH]at hw;split at hw
  .rename_i a c ha hc;cases hw;obtain⟨e1,e2⟩:=lists h1 i2 ha;obtain⟨e3,e4⟩:=lists h3 i4 hc;exact .fn e1 e2 e3 e4
  cases hw
 |agg h1 _ i2=>
  intro w hw;simp only[fH,a0e]at hw;obtain⟨cs,hc,rfl⟩:=hw;obtain⟨e1,e2⟩:=lists h1 i2 hc;exact .agg e1 e2
 |dI h1 _ i2=>
  intro w hw;simp only[fH,a0e]at hw;obtain⟨cs,hc,rfl⟩:=hw;obtain⟨e1,e2⟩:=lists h1 i2 hc;exact .dI e1 e2
 |oM=>intro w hw;simp only[fH,a05]at hw;subst hw;exact .oM
 |dB a c c2 s z o k f e r _=>intro w hw;simp only[fH,a05]at hw;subst hw;exact .dB (hA _ a) c c2 s z o k f e fun j y i d v h1 h2 h3=>((r j y i d v h1 h2 h3).mono hA).jh hX (fB (hX.jh _ _) h2)
 |el a c l o e q r _=>intro w hw;simp only[fH,a05]at hw;subst hw;exact .el (hA _ a) c l o e q fun i d v h1 h2=>((r i d v h1 h2).mono hA).jh hX (fB (hX.jh _ _) h1)
 |gone i e o=>
  intro w hw;rename_i v _ x;have:∃j,bf w=some j∧CV w x m1[j]?:=by
   cases v<;>simp[bf]at i<;>subst i<;>simp only[fH,a0e]at hw<;>obtain⟨j,h1,rfl⟩:=hw<;>exact⟨j,rfl,by rw[hg _ _ h1];exact e.as fun c=>rfl⟩
  obtain⟨j,h1,h2⟩:=this;exact .gone h1 h2 o
variable {B:Nat->Prop}
theorem zn(hX:bM X P)(hg:∀i j,g i=some j->m1[j]? = m[i]?)(hA:∀b,A b->B b):∀{vs:List (PV X.Γ)} {xs:List TV} {ws:List (PV X.Γ)},bU X P A m h vs xs->fH.oW g vs=some ws->bU X P B m1 h ws xs
 | [],xs,ws,hv,hw=>by simp only[fH.oW,a05]at hw;subst hw;rw[hv.inv0];exact .nil
 |v::vs,xs,ws,hv,hw=>by
  obtain⟨x,r,rfl,h1,h2⟩:=hv.inv;simp only[fH.oW]at hw;split at hw
  .rename_i w TQ g1 g2;cases hw;exact .cons (E8 hg hA hX h1 g1) (zn hX hg hA h2 g2)
  cases hw
theorem OB(hX:bM X P)(hg:∀i j,g i=some j->m1[j]? = m[i]?)(hA:∀b,A b->B b){env:List (Nat×PE X.Γ)}{env':List (Nat×EV)}(he:jR X P A m h env env'):∀{r:List (Nat×PE X.Γ)},oV g env=some r->jR X P B m1 h r env':=by
 induction he with
 |nil=>intro r h;simp only[oV,a05]at h;subst h;exact .nil
 |cons h1 h2 ih=>
  rename_i k v x q q';intro r hr;simp only[oV]at hr;split at hr
  rotate_left
  .cases hr
  rename_i w r' e1 e2;cases hr;refine .cons ?_ (ih e2);cases v with
  |val v=>
   obtain⟨y,rfl,h3⟩:=fM h1;simp only[Og,a0e]at e1;obtain⟨u,e3,rfl⟩:=e1;exact nT (E8 hg hA hX h3 e3)
  |loc a b=>simp only[Og,a05]at e1;subst e1;rw[DZ h1];exact⟨rfl,rfl⟩
  |undef=>simp only[Og,a05]at e1;subst e1;rw[J5 h1];trivial
  |ent r j v=>
   obtain⟨c,y,rfl,h3,h4⟩:=Md h1;simp only[Og,a0e]at e1;obtain⟨u,e3,rfl⟩:=e1;exact⟨E8 hg hA hX h3 (w:=.map u) (by simp only[fH,e3,a0v]),rfl,h4⟩
  |Es r j=>
   obtain⟨c,rfl,h3⟩:=Me h1;simp only[Og,a0e]at e1;obtain⟨u,e3,rfl⟩:=e1;exact⟨E8 hg hA hX h3 (w:=.map u) (by simp only[fH,e3,a0v]),rfl⟩
theorem Ea(hX:bM X P)(hg:∀i j,g i=some j->m1[j]? = m[i]?)(hA:∀b,A b->B b){b b':PB X.Γ}{mb:MB}(hn:∀c,mb=.jl c->c∉bn m->c∉bn m1)(hb:BR X P A m h b mb)(hr:zk g b=some b'):BR X P B m1 h b' mb:=by
 cases b with
 |cells cs=>
  cases mb with
  |fU c=>
   simp only[zk,a0e]at hr;obtain⟨cs',h1,rfl⟩:=hr;obtain⟨xs,h2,h3⟩:=hb;exact⟨xs,h2,zn hX hg hA h3 h1⟩
  |_=>exact hb.elim
 |aC cs=>
  cases mb with
  |jl c=>
   simp only[zk,a0e]at hr;obtain⟨cs',h1,rfl⟩:=hr;obtain⟨h0,xs,h2,h3⟩:=hb;exact⟨hn c rfl h0,xs,h2,zn hX hg hA h3 h1⟩
  |_=>exact hb.elim
 |list k ex t l=>
  cases mb with
  |dB y=>
   simp only[zk,a05]at hr;subst hr;cases(hb:LR X P A m h k ex t l y)with
   |nil=>exact LR.nil
   |emp p0 p1 p2 p3 p4=>exact LR.emp (hA _ p0) p1 p2 p3 p4
   |some p1 p2 p3 p4 p5 p6 p7 p8 p9=>exact LR.some p1 p2 p3 p4 p5 p6 p7 p8 ((p9.mono hA).jh hX)
  |_=>exact hb.elim
 |map es=>
  cases mb with
  |fU c=>
   simp only[zk,a05]at hr;subst hr;exact hb
  |_=>exact hb.elim
 |ng cs=>
  cases mb with
  |fU c=>
   simp only[zk,a05]at hr;subst hr;exact hb
  |_=>exact hb.elim
 |iE es=>
  cases mb with
  |jl c=>
   simp only[zk,a05]at hr;subst hr;exact⟨hn c rfl hb.1,hb.2⟩
  |_=>exact hb.elim
 |cZ r n seen=>
  cases mb with
  |fU b=>
   simp only[zk,a0e]at hr;obtain⟨j,h1,rfl⟩:=hr;obtain⟨c,h2,h3,h4⟩:=hb;exact⟨c,h2,by rw[hg _ _ h1];exact h3,fun c' hc=>h4 c' (by rw[<-hg _ _ h1];exact hc)⟩
  |_=>exact hb.elim
 |mark=>
  cases mb with
  |fU c=>simp only[zk,a05]at hr;subst hr;exact hb
  |_=>exact hb.elim
 |loop rd f nt env ps a c jH=>
  cases mb with
  |fU cb=>
   simp only[zk,a0e]at hr;obtain⟨atO,h1,rfl⟩:=hr;obtain⟨xs,h2,h3⟩:=hb;exact⟨xs,h2,OB hX hg hA h3 h1⟩
  |_=>exact hb.elim
 |gone=>
  cases mb with
  |gone=>simp only[zk,a05]at hr;subst hr;trivial
  |_=>exact hb.elim
theorem sU:∀{bs r:List (PB X.Γ)},nO g bs=some r->r.length=bs.length∧∀{i:Nat} {b':PB X.Γ},r[i]? = some b'->∃b,bs[i]? = some b∧zk g b=some b'
 | [],r,h=>by simp only[nO,a05]at h;subst h;exact⟨rfl,fun{i b'} hi=>by simp at hi⟩
 |b::bs,r,h=>by
  simp only[nO]at h;split at h
  .rename_i c cs h1 h2;cases h;obtain⟨e1,e2⟩:=sU h2;refine⟨by simp[e1],fun{i b'} hi=>?_⟩;cases i with
   |zero=>simp only[a2V,a05]at hi;subst hi;exact⟨b,rfl,h1⟩
   |succ i=>obtain⟨d,q1,q2⟩:=e2 (i:=i) (by simpa using hi);exact⟨d,by simpa using q1,q2⟩
  cases h
theorem OC:∀{bs r:List (List (PV X.Γ))},WB g bs=some r->r.length=bs.length∧∀{i:Nat} {b':List (PV X.Γ)},r[i]? = some b'->∃b,bs[i]? = some b∧fH.oW g b=some b'
 | [],r,h=>by simp only[WB,a05]at h;subst h;exact⟨rfl,fun{i b'} hi=>by simp at hi⟩
 |b::bs,r,h=>by
  simp only[WB]at h;split at h
  .rename_i c cs h1 h2;cases h;obtain⟨e1,e2⟩:=OC h2;refine⟨by simp[e1],fun{i b'} hi=>?_⟩;cases i with
   |zero=>simp only[a2V,a05]at hi;subst hi;exact⟨b,rfl,h1⟩
   |succ i=>obtain⟨d,q1,q2⟩:=e2 (i:=i) (by simpa using hi);exact⟨d,by simpa using q1,q2⟩
  cases h
theorem Eb:∀{ks:List Nat} {H r:List (PB X.Γ)},CS H ks=some r->r.length=ks.length∧∀{i k:Nat},ks[i]? = some k->∃b,H[k]? = some b∧r[i]? = some b
 | [],H,r,h=>by simp only[CS,a05]at h;subst h;exact⟨rfl,fun{i k} hi=>by simp at hi⟩
 |k::ks,H,r,h=>by
  simp only[CS]at h;split at h
  .rename_i b rs h1 h2;cases h;obtain⟨e1,e2⟩:=Eb h2;refine⟨by simp[e1],fun{i j} hi=>?_⟩;cases i with
   |zero=>simp only[a2V,a05]at hi;subst hi;exact⟨b,h1,rfl⟩
   |succ i=>obtain⟨d,q1,q2⟩:=e2 (i:=i) (k:=j) (by simpa using hi);exact⟨d,q1,by simpa using q2⟩
  cases h
end
theorem sV{α:Type}:∀{ks:List Nat} {bs l:List α},(putAt ks bs l).length=l.length
 | [],_,_=>rfl
 |_::_,[],_=>rfl
 |k::ks,b::bs,l=>by simp only[putAt];rw[sV,a4v]
theorem OD{α:Type}:∀{ks:List Nat} {bs l:List α} {p i:Nat},ks.Nodup->(∀k∈ks,k<l.length)->ks.length<=bs.length->ks[p]? = some i->(putAt ks bs l)[i]? = bs[p]?
 | [],_,_,p,i,_,_,_,h=>by simp at h
 |a::ks,[],_,_,_,_,_,hl,_=>by simp at hl
 |a::ks,b::bs,l,0,i,hn,hk,hl,h=>by
  simp only[a2V,a05]at h;subst h;have hn:=a4r.1 hn;simp only[putAt];have:∀{ks:List Nat} {bs l:List α} {i:Nat},i∉ks->(putAt ks bs l)[i]? = l[i]?:=by
   intro ks
   induction ks with
   |nil=>intro bs l i _;rfl
   |cons c ks ih=>
    intro bs l i hi;simp only[a2y,adw]at hi;cases bs with
    |nil=>rfl
    |cons b bs=>simp only[putAt];rw[ih hi.2,a1q (fun e=>hi.1 e.symm)]
  rw[this hn.1,a2l (hk a (a3m ..))];rfl
 |a::ks,b::bs,l,p+1,i,hn,hk,hl,h=>by
  simp only[a9A]at h;simp only[putAt];rw[OD (a4r.1 hn).2 (fun k oD=>by rw[a4v];exact hk k (a3n _ oD)) (by simpa using hl) h];rfl
theorem J7{α:Type}:∀{ks:List Nat} {bs l:List α} {i:Nat},i∉ks->(putAt ks bs l)[i]? = l[i]?
 | [],_,_,_,_=>rfl
 |a::ks,[],_,_,_=>rfl
 |a::ks,b::bs,l,i,hi=>by
  simp only[a2y,adw]at hi;simp only[putAt];rw[J7 hi.2,a1q (fun e=>hi.1 e.symm)]
def WU(X:kQ)(P:Program)(call:aY)(fv:PV X.Γ)(xs:List (PV X.Γ))(H:List (PB X.Γ))(v:PV X.Γ)(H1:List (PB X.Γ))(W:Nat->Prop):Prop:=
 ∀(A:Nat->Prop) (m:List MB) (h:List HB) (tf:TV) (rW:List TV),HR X P A m H h->VR X P (AA A m) m h fv tf->bU X P (AA A m) m h xs rW ->
  ∃w h1 ws m1,call tf rW h=some (w,h1,ws)∧HR X P A m1 H1 h1∧VR X P (AA A m1) m1 h1 v w∧Fr m h m1 h1∧Up m m1∧∀b∈ws,∃k,W k∧He m k b
theorem aW.w{call:aY}{fv v:PV X.Γ}{xs:List (PV X.Γ)}{H H1:List (PB X.Γ)}(h:aW X P call fv xs H v H1):WU X P call fv xs H v H1 fun _=>True:=fun A m h0 tf rW a b c=>by
 obtain⟨w,h1,ws,m1,c1,c2,c3,c4,c5,c6⟩:=h A m h0 tf rW a b c;exact⟨w,h1,ws,m1,c1,c2,c3,c4,c5,fun b hb=>by obtain⟨i,hi⟩:=kF (c6 b hb);exact⟨i,trivial,hi⟩⟩
theorem MG:∀{H:List (PB X.Γ)} {i:Nat} {b:PB X.Γ},IZ H=true->H[i]? = some b->IZ [b]=true
 | [],_,_,_,h=>by simp at h
 |a::H,0,b,hn,h=>by
  simp only[a2V,a05]at h;subst h;cases a<;>simp_all [IZ]
 |a::H,i+1,b,hn,h=>by
  have DT:IZ H=true:=by cases a<;>simp_all [IZ]
  exact MG DT (by simpa using h)
def SwM(m m':List MB):Prop:=∀i:Nat,m'[i]? = m[i]?∨(∃c,m[i]? = some (.fU c)∧m'[i]? = some (.jl c))∨∃c,m[i]? = some (.jl c)∧m'[i]? = some (.fU c)
section
variable {m':List MB}
theorem VR.sw(hm:SwM m m')(hA:∀b,A b->B b){v:PV X.Γ}{x:TV}(hv:VR X P A m h v x):VR X P B m' h v x:=by
 have hl:∀{i:Nat} {x:TV},m[i]? = some (.dB x)->m'[i]? = some (.dB x):=fun{i x} e=>by
  rcases hm i with g|⟨c,g,_⟩|⟨c,g,_⟩
  .rw[g,e]
  .rw[e]at g;cases g
  rw[e]at g;cases g
 have hb:∀{i c:Nat},m[i]? = some (.fU c)->m'[i]? = some (.fU c)∨m'[i]? = some (.jl c):=fun{i c} e=>by
  rcases hm i with g|⟨c',g,g2⟩|⟨c',g,_⟩
  .exact .inl (by rw[g,e])
  .rw[e]at g;cases g;exact .inr g2
  rw[e]at g;cases g
 induction hv with
 |bool=>exact .bool _
 |lit=>exact .lit _
 |int=>exact .int _ _
 |str=>exact .str _
 |nil=>exact .nil _
 |ptr e=>rcases hb e with e|e;exact .ptr e;exact .gone rfl (.ofR e rfl) rfl
 |slc e=>rcases hb e with e|e;exact .slc e;exact .gone rfl (.ofR e rfl) rfl
 |own e o=>exact .own (hl e) o
 |win e q q' q2=>exact .win (hl e) q q' q2
 |Ag e=>exact .Ag (hl e)
 |map e=>rcases hb e with e|e;exact .map e;exact .gone rfl (.ofR e rfl) rfl
 |iter e=>rcases hb e with e|e;exact .iter e;exact .gone rfl (.ofR e rfl) rfl
 |fn h1 _ h3 _ i2 i4=>exact .fn h1 i2 h3 i4
 |kP e=>rcases hb e with e|e;exact .kP e;exact .gone rfl (.ofR e rfl) rfl
 |agg h1 _ i2=>exact .agg h1 i2
 |dI h1 _ i2=>exact .dI h1 i2
 |oM=>exact .oM
 |dB a c c2 s z o k f e _ ih=>exact .dB (hA _ a) c c2 s z o k f e ih
 |el a c l o e q _ ih=>exact .el (hA _ a) c l o e q ih
 |row e j q=>exact .row (hl e) j q
 | @gone v i x hi e o=>
  generalize hq:m[i]? = q at e;cases e with
  |g=>
   rcases hm i with g|⟨c,g,_⟩|⟨c,g,_⟩
   .exact .gone hi (.of (by rw[g,hq])) o
   .rw[hq]at g;cases g
   rw[hq]at g;cases g
  |r c hv=>
   rcases hm i with g|⟨c',g,_⟩|⟨c',g,g2⟩
   .exact .gone hi (.ofR (by rw[g,hq]) hv) o
   .rw[hq]at g;cases g
   rw[hq]at g;cases g;cases v<;>simp only[roV,a05]at hv<;>first|cases hv;done|skip
   all_goals (subst hv;simp only[bf,a05]at hi;subst hi)
   .exact .ptr g2
   .exact .slc g2
   .exact .map g2
   .exact .kP g2
   exact .iter g2
theorem bU.sw(hm:SwM m m')(hA:∀b,A b->B b){v:List (PV X.Γ)}{x:List TV}(hv:bU X P A m h v x):bU X P B m' h v x:=
 ⟨hv.1,fun i a b ha hb=>(hv.2 i a b ha hb).sw hm hA⟩
theorem jR.sw(hm:SwM m m')(hA:∀b,A b->B b){v:List (Nat×PE X.Γ)}{x:List (Nat×EV)}(hv:jR X P A m h v x):jR X P B m' h v x:=by
 induction hv with
 |nil=>exact .nil
 |cons h1 _ ih=>
  refine .cons ?_ ih;rename_i v x _ _ _;cases v<;>cases x<;>first|exact VR.sw hm hA h1|exact h1|exact⟨VR.sw hm hA h1.1,h1.2⟩
theorem BR.sw(hm:SwM m m')(hA:∀b,A b->B b){b:PB X.Γ}{mb:MB}(hn:∀c,mb=.jl c->c∉bn m->c∉bn m')(hb:BR X P A m h b mb):BR X P B m' h b mb:=by
 cases b with
 |cells cs=>cases mb with
  |fU b=>obtain⟨cs',h1,h2⟩:=hb;exact⟨cs',h1,h2.sw hm hA⟩
  |_=>exact hb.elim
 |aC cs=>cases mb with
  |jl b=>obtain⟨h0,cs',h1,h2⟩:=hb;exact⟨hn b rfl h0,cs',h1,h2.sw hm hA⟩
  |_=>exact hb.elim
 |list k ex t l=>cases mb with
  |dB x=>
   cases(hb:LR X P A m h k ex t l x)with
   |nil=>exact LR.nil
   |emp h0 h1 h2 h3 h4=>exact LR.emp (hA _ h0) h1 h2 h3 h4
   |some h1 h2 h3 h4 h5 h6 h7 h8 h9=>exact LR.some h1 h2 h3 h4 h5 h6 h7 h8 ⟨h9.1,h9.2.1,fun j a i c v a1 a2 a3=>(h9.2.2 j a i c v a1 a2 a3).sw hm hA⟩
  |_=>exact hb.elim
 |map es=>cases mb with
  |fU b=>exact hb
  |_=>exact hb.elim
 |ng cs=>cases mb with
  |fU b=>exact hb
  |_=>exact hb.elim
 |iE es=>cases mb with
  |jl b=>exact⟨hn b rfl hb.1,hb.2⟩
  |_=>exact hb.elim
 |cZ r n seen=>cases mb with
  |fU b=>
   obtain⟨c,h1,h2,h3⟩:=hb;refine⟨c,h1,?_,fun c' hc=>?_⟩
   .rcases hm r with g|⟨c',g,g2⟩|⟨c',g,g2⟩
    .rw[g];exact h2
    .rw[g2];rfl
    .rw[g2];rfl
   .rcases hm r with g|⟨c2,g,g2⟩|⟨c2,g,g2⟩
    .exact h3 c' (by rw[<-g];exact hc)
    .rw[g2]at hc;simp at hc;subst hc;exact h3 c2 (.inl g)
    .rw[g2]at hc;simp at hc;subst hc;exact h3 c2 (.inr g)
  |_=>exact hb.elim
 |mark=>cases mb with
  |fU b=>exact hb
  |_=>exact hb.elim
 |loop rd f nt env ps a c jH=>cases mb with
  |fU b=>obtain⟨e',h1,h2⟩:=hb;exact⟨e',h1,h2.sw hm hA⟩
  |_=>exact hb.elim
 |gone=>cases mb with
  |gone=>trivial
  |_=>exact hb.elim
end
theorem aeg{call:aY}{fv v:PV X.Γ}{xs:List (PV X.Γ)}{H H1:List (PB X.Γ)}{W:Nat->Prop}{r:Nat}{cs RP:List (PV X.Γ)}(h0:H[r]? = some (.cells cs))(h9:H1[r]? = some (.cells RP))(hro:IZ (H1.drop H.length)=true)
  (hs:WU X P call fv xs (H.set r (.aC cs)) v (H1.set r (.aC RP)) W):WU X P call fv xs H v H1 fun k=>W k∧k≠r:=fun A m h tf rW hr hf hx=>by
 obtain⟨mb0,q1,q2⟩:=hr.at_ r _ h0;have hrl:r<H.length:=(a0c.1 h0).1;have hrm:r<m.length:=by rw[hr.len];exact hrl
 cases mb0 with
 |fU c=>
  obtain⟨cs',q3,q4⟩:=q2;have FQ:c∈bn m:=aZ q1 rfl;have hch:=(a0c.1 q3).1;have hm:SwM m (m.set r (.jl c)):=fun i=>by
   by_cases e:i=r
   .subst e;exact .inr (.inl ⟨c,q1,by rw[a2l hrm]⟩)
   .exact .inl (by rw[a1q (fun h=>e h.symm)])
  have old:∀{i b:Nat},He (m.set r (.jl c)) i b->i≠r∧He m i b:=fun{i b} ho=>by
   obtain⟨mb,a1,a2⟩:=ho;by_cases e:i=r
   .subst e;rw[a2l hrm]at a1;cases a1;cases a2
   .rw[a1q (fun h=>e h.symm)]at a1;exact⟨e,mb,a1,a2⟩
  have oK:∀b,b∈bn (m.set r (.jl c))->b∈bn m∧b≠c:=fun b hb=>by
   obtain⟨i,hi⟩:=kF hb;obtain⟨e,mb,a1,a2⟩:=old hi;refine⟨aZ a1 a2,fun e2=>?_⟩;subst e2;exact e (iU hr.nodup a1 q1 a2 rfl)
  have hA:∀b,AA A m b->AA (fun b=>A b∧b≠c) (m.set r (.jl c)) b:=fun b hb=>⟨⟨hb.1,fun e=>hb.2 (e▸FQ)⟩,fun h=>hb.2 (oK b h).1⟩;have wJ:HR X P (fun b=>A b∧b≠c) (m.set r (.jl c)) (H.set r (.aC cs)) h:=by
   refine⟨by simp[hr.len],fun i b hi=>?_,jB fun i j d a1 a2=>?_,fun b hb=>⟨hr.up b hb,by omega⟩,fun b hb=>⟨hr.CW b (oK b hb).1,(oK b hb).2⟩⟩
   .by_cases e:i=r
    .subst e;rw[a2l hrl]at hi;cases hi;exact⟨.jl c,by rw[a2l hrm],fun h=>(oK c h).2 rfl,cs',q3,q4.sw hm hA⟩
    .rw[a1q (fun h=>e h.symm)]at hi;obtain⟨mb,g1,g2⟩:=hr.at_ i b hi;exact⟨mb,by rw[a1q (fun h=>e h.symm)];exact g1,g2.sw hm hA fun d _ hn h=>hn (oK d h).1⟩
   .obtain⟨_,ma,u1,u2⟩:=old a1;obtain⟨_,mc,v1,v2⟩:=old a2;exact iU hr.nodup u1 v1 u2 v2
  obtain⟨w,h1,ws,m1,c1,c2,c3,c4,c5,c6⟩:=hs (fun b=>A b∧b≠c) (m.set r (.jl c)) h tf rW wJ (hf.sw hm hA) (hx.sw hm hA)
  .have aeh:r<H1.length:=(a0c.1 h9).1;obtain⟨mb1,e1,e2⟩:=c2.at_ r (.aC RP) (by rw[a2l aeh]);have e3:=c5 r (.jl c) (by rw[a2l hrm]);have e4:mb1=.jl c:=by
    rcases e3 with e3|e3<;>rw[e1]at e3<;>cases e3
    .rfl
    .exact e2.elim
   subst e4;obtain⟨p0,WJ,p1,p2⟩:=e2;have J8:r<m1.length:=(a0c.1 e1).1;have hm1:SwM m1 (m1.set r (.fU c)):=fun i=>by
    by_cases e:i=r
    .subst e;exact .inr (.inr ⟨c,e1,by rw[a2l J8]⟩)
    .exact .inl (by rw[a1q (fun h=>e h.symm)])
   have at1:∀{i:Nat} {mb:MB},i≠r->(m1.set r (.fU c))[i]? = some mb->m1[i]? = some mb:=fun{i mb} e h=>by rw[a1q (fun h=>e h.symm)]at h;exact h
   have Cc:∀b,b∈bn (m1.set r (.fU c))->b=c∨b∈bn m1:=fun b hb=>by
    obtain⟨i,mb,a1,a2⟩:=kF hb;by_cases e:i=r
    .subst e;rw[a2l J8]at a1;cases a1;cases a2;exact .inl rfl
    .exact .inr (aZ (at1 e a1) a2)
   have hA1:∀b,AA (fun b=>A b∧b≠c) m1 b->AA A (m1.set r (.fU c)) b:=fun b hb=>⟨hb.1.1,fun h=>by
    rcases Cc b h with e|e
    .exact hb.1.2 e
    .exact hb.2 e⟩
   refine⟨w,h1,ws,m1.set r (.fU c),c1,⟨by rw[a4v,c2.len,a4v],fun i b hi=>?_,jB fun i j d a1 a2=>?_,fun b hb=>(c2.up b hb).1,fun b hb=>?_⟩,c3.sw hm1 hA1,⟨c4.len,fun b hb hn=>c4.same b hb fun h=>hn (oK b h).1,fun b hb=>?_,c4.grow⟩,fun i mb hi=>?_,fun b hb=>?_⟩
   .by_cases e:i=r
    .subst e;rw[h9]at hi;cases hi;exact⟨.fU c,by rw[a2l J8],WJ,p1,p2.sw hm1 hA1⟩
    .obtain⟨mb,g1,g2⟩:=c2.at_ i b (by rw[a1q (fun h=>e h.symm)];exact hi);refine⟨mb,by rw[a1q (fun h=>e h.symm)];exact g1,g2.sw hm1 hA1 fun d hd hn Zx=>?_⟩;subst hd;rcases Cc d Zx with e5|e5
     .subst e5;rcases a4l i m.length with aQ|EI
      .have JV:(m.set r (.jl d))[i]? = m[i]?:=(by rw[a1q (fun h=>e h.symm)]);have hmi:m[i]? = some (.jl d):=by
        rcases c5 i m[i] (by rw[JV];exact a0f aQ)with e6|e6<;>rw[g1]at e6<;>simp only[a05]at e6
        .rw[a0f aQ,<-e6]
        .cases e6
       have hlH:i<H.length:=by rw[<-hr.len];exact aQ
       obtain⟨mb9,e7,e8⟩:=hr.at_ i _ (a0f hlH);rw[hmi]at e7;cases e7;generalize H[i]=b9 at e8;cases b9<;>first|exact e8.elim|exact e8.1 FQ
      .have e6:(H1.drop H.length)[i-H.length]? = some b:=by rw[a4m,<-hi];congr 1;rw[hr.len]at EI;omega
       have e7:=MG hro e6;cases b<;>first|exact g2.elim|cases e7
     .exact hn e5
   .obtain⟨ma,u1,u2⟩:=a1;obtain⟨mc,v1,v2⟩:=a2;by_cases e:i=r<;>by_cases e':j=r
    .rw[e,e']
    .subst e;rw[a2l J8]at u1;cases u1;cases u2;exact absurd (aZ (at1 e' v1) v2) p0
    .subst e';rw[a2l J8]at v1;cases v1;cases v2;exact absurd (aZ (at1 e u1) u2) p0
    .exact iU c2.nodup (at1 e u1) (at1 e' v1) u2 v2
   .rcases Cc b hb with e|e
    .subst e;exact hr.CW _ FQ
    .exact(c2.CW b e).1
   .rcases Cc b hb with e|e
    .subst e;exact .inl FQ
    .rcases c4.new b e with g|g
     .exact .inl (oK b g).1
     .exact .inr g
   .by_cases e:i=r
    .subst e;rw[q1]at hi;cases hi;exact .inl (by rw[a2l J8])
    .rw[a1q (fun h=>e h.symm)];exact c5 i mb (by rw[a1q (fun h=>e h.symm)];exact hi)
   .obtain⟨k,k1,k2⟩:=c6 b hb;obtain⟨k3,k4⟩:=old k2;exact⟨k,⟨k1,k3⟩,k4⟩
 |_=>exact q2.elim
theorem a9L{call:aY}{fv v:PV X.Γ}{xs:List (PV X.Γ)}{H H1:List (PB X.Γ)}{W:Nat->Prop}{r:Nat}{es es1:List (PV X.Γ×PV X.Γ)}(h0:H[r]? = some (.map es))(h9:H1[r]? = some (.map es1))(hro:IZ (H1.drop H.length)=true)
  (hs:WU X P call fv xs (H.set r (.iE es)) v (H1.set r (.iE es1)) W):WU X P call fv xs H v H1 fun k=>W k∧k≠r:=fun A m h tf rW hr hf hx=>by
 obtain⟨mb0,q1,q2⟩:=hr.at_ r _ h0;have hrl:r<H.length:=(a0c.1 h0).1;have hrm:r<m.length:=by rw[hr.len];exact hrl
 cases mb0 with
 |fU c=>
  obtain⟨cs',q3,q4⟩:=q2;have FQ:c∈bn m:=aZ q1 rfl;have hch:=(a0c.1 q3).1;have hm:SwM m (m.set r (.jl c)):=fun i=>by
   by_cases e:i=r
   .subst e;exact .inr (.inl ⟨c,q1,by rw[a2l hrm]⟩)
   .exact .inl (by rw[a1q (fun h=>e h.symm)])
  have old:∀{i b:Nat},He (m.set r (.jl c)) i b->i≠r∧He m i b:=fun{i b} ho=>by
   obtain⟨mb,a1,a2⟩:=ho;by_cases e:i=r
   .subst e;rw[a2l hrm]at a1;cases a1;cases a2
   .rw[a1q (fun h=>e h.symm)]at a1;exact⟨e,mb,a1,a2⟩
  have oK:∀b,b∈bn (m.set r (.jl c))->b∈bn m∧b≠c:=fun b hb=>by
   obtain⟨i,hi⟩:=kF hb;obtain⟨e,mb,a1,a2⟩:=old hi;refine⟨aZ a1 a2,fun e2=>?_⟩;subst e2;exact e (iU hr.nodup a1 q1 a2 rfl)
  have hA:∀b,AA A m b->AA (fun b=>A b∧b≠c) (m.set r (.jl c)) b:=fun b hb=>⟨⟨hb.1,fun e=>hb.2 (e▸FQ)⟩,fun h=>hb.2 (oK b h).1⟩;have wJ:HR X P (fun b=>A b∧b≠c) (m.set r (.jl c)) (H.set r (.iE es)) h:=by
   refine⟨by simp[hr.len],fun i b hi=>?_,jB fun i j d a1 a2=>?_,fun b hb=>⟨hr.up b hb,by omega⟩,fun b hb=>⟨hr.CW b (oK b hb).1,(oK b hb).2⟩⟩
   .by_cases e:i=r
    .subst e;rw[a2l hrl]at hi;cases hi;exact⟨.jl c,by rw[a2l hrm],fun h=>(oK c h).2 rfl,cs',q3,q4⟩
    .rw[a1q (fun h=>e h.symm)]at hi;obtain⟨mb,g1,g2⟩:=hr.at_ i b hi;exact⟨mb,by rw[a1q (fun h=>e h.symm)];exact g1,g2.sw hm hA fun d _ hn h=>hn (oK d h).1⟩
   .obtain⟨_,ma,u1,u2⟩:=old a1;obtain⟨_,mc,v1,v2⟩:=old a2;exact iU hr.nodup u1 v1 u2 v2
  obtain⟨w,h1,ws,m1,c1,c2,c3,c4,c5,c6⟩:=hs (fun b=>A b∧b≠c) (m.set r (.jl c)) h tf rW wJ (hf.sw hm hA) (hx.sw hm hA)
  .have aeh:r<H1.length:=(a0c.1 h9).1;obtain⟨mb1,e1,e2⟩:=c2.at_ r (.iE es1) (by rw[a2l aeh]);have e3:=c5 r (.jl c) (by rw[a2l hrm]);have e4:mb1=.jl c:=by
    rcases e3 with e3|e3<;>rw[e1]at e3<;>cases e3
    .rfl
    .exact e2.elim
   subst e4;obtain⟨p0,WJ,p1,p2⟩:=e2;have J8:r<m1.length:=(a0c.1 e1).1;have hm1:SwM m1 (m1.set r (.fU c)):=fun i=>by
    by_cases e:i=r
    .subst e;exact .inr (.inr ⟨c,e1,by rw[a2l J8]⟩)
    .exact .inl (by rw[a1q (fun h=>e h.symm)])
   have at1:∀{i:Nat} {mb:MB},i≠r->(m1.set r (.fU c))[i]? = some mb->m1[i]? = some mb:=fun{i mb} e h=>by rw[a1q (fun h=>e h.symm)]at h;exact h
   have Cc:∀b,b∈bn (m1.set r (.fU c))->b=c∨b∈bn m1:=fun b hb=>by
    obtain⟨i,mb,a1,a2⟩:=kF hb;by_cases e:i=r
    .subst e;rw[a2l J8]at a1;cases a1;cases a2;exact .inl rfl
    .exact .inr (aZ (at1 e a1) a2)
   have hA1:∀b,AA (fun b=>A b∧b≠c) m1 b->AA A (m1.set r (.fU c)) b:=fun b hb=>⟨hb.1.1,fun h=>by
    rcases Cc b h with e|e
    .exact hb.1.2 e
    .exact hb.2 e⟩
   refine⟨w,h1,ws,m1.set r (.fU c),c1,⟨by rw[a4v,c2.len,a4v],fun i b hi=>?_,jB fun i j d a1 a2=>?_,fun b hb=>(c2.up b hb).1,fun b hb=>?_⟩,c3.sw hm1 hA1,⟨c4.len,fun b hb hn=>c4.same b hb fun h=>hn (oK b h).1,fun b hb=>?_,c4.grow⟩,fun i mb hi=>?_,fun b hb=>?_⟩
   .by_cases e:i=r
    .subst e;rw[h9]at hi;cases hi;exact⟨.fU c,by rw[a2l J8],WJ,p1,p2⟩
    .obtain⟨mb,g1,g2⟩:=c2.at_ i b (by rw[a1q (fun h=>e h.symm)];exact hi);refine⟨mb,by rw[a1q (fun h=>e h.symm)];exact g1,g2.sw hm1 hA1 fun d hd hn Zx=>?_⟩;subst hd;rcases Cc d Zx with e5|e5
     .subst e5;rcases a4l i m.length with aQ|EI
      .have JV:(m.set r (.jl d))[i]? = m[i]?:=(by rw[a1q (fun h=>e h.symm)]);have hmi:m[i]? = some (.jl d):=by
        rcases c5 i m[i] (by rw[JV];exact a0f aQ)with e6|e6<;>rw[g1]at e6<;>simp only[a05]at e6
        .rw[a0f aQ,<-e6]
        .cases e6
       have hlH:i<H.length:=by rw[<-hr.len];exact aQ
       obtain⟨mb9,e7,e8⟩:=hr.at_ i _ (a0f hlH);rw[hmi]at e7;cases e7;generalize H[i]=b9 at e8;cases b9<;>first|exact e8.elim|exact e8.1 FQ
      .have e6:(H1.drop H.length)[i-H.length]? = some b:=by rw[a4m,<-hi];congr 1;rw[hr.len]at EI;omega
       have e7:=MG hro e6;cases b<;>first|exact g2.elim|cases e7
     .exact hn e5
   .obtain⟨ma,u1,u2⟩:=a1;obtain⟨mc,v1,v2⟩:=a2;by_cases e:i=r<;>by_cases e':j=r
    .rw[e,e']
    .subst e;rw[a2l J8]at u1;cases u1;cases u2;exact absurd (aZ (at1 e' v1) v2) p0
    .subst e';rw[a2l J8]at v1;cases v1;cases v2;exact absurd (aZ (at1 e u1) u2) p0
    .exact iU c2.nodup (at1 e u1) (at1 e' v1) u2 v2
   .rcases Cc b hb with e|e
    .subst e;exact hr.CW _ FQ
    .exact(c2.CW b e).1
   .rcases Cc b hb with e|e
    .subst e;exact .inl FQ
    .rcases c4.new b e with g|g
     .exact .inl (oK b g).1
     .exact .inr g
   .by_cases e:i=r
    .subst e;rw[q1]at hi;cases hi;exact .inl (by rw[a2l J8])
    .rw[a1q (fun h=>e h.symm)];exact c5 i mb (by rw[a1q (fun h=>e h.symm)];exact hi)
   .obtain⟨k,k1,k2⟩:=c6 b hb;obtain⟨k3,k4⟩:=old k2;exact⟨k,⟨k1,k3⟩,k4⟩
 |_=>exact q2.elim
theorem Zy{call:aY}{fv v:PV X.Γ}{xs:List (PV X.Γ)}{W:Nat->Prop}:∀{rs:List Nat} {H H1 Hr Q9:List (PB X.Γ)},roB rs H H1=some (Hr,Q9)->IZ (H1.drop H.length)=true->WU X P call fv xs Hr v Q9 W->WU X P call fv xs H v H1 fun k=>W k∧k∉rs
 | [],H,H1,Hr,Q9,h1,hn,hs=>by
  simp only[roB,a05,a0t]at h1;obtain⟨rfl,rfl⟩:=h1;intro A m h tf rW a b c;obtain⟨w,h1,ws,m1,c1,c2,c3,c4,c5,c6⟩:=hs A m h tf rW a b c;exact⟨w,h1,ws,m1,c1,c2,c3,c4,c5,fun b hb=>by obtain⟨k,k1,k2⟩:=c6 b hb;exact⟨k,⟨k1,by simp⟩,k2⟩⟩
 |r::rs,H,H1,Hr,Q9,h1,hn,hs=>by
  simp only[roB]at h1;split at h1
  .rename_i cs RP e1 e2;have aQ:r<H.length:=(a0c.1 e1).1;have:=aeg e1 e2 hn (Zy h1 (by rw[a4v,List.drop_set_of_lt aQ];exact hn) hs);intro A m h tf rW a b c;obtain⟨w,h1,ws,m1,c1,c2,c3,c4,c5,c6⟩:=this A m h tf rW a b c;exact⟨w,h1,ws,m1,c1,c2,c3,c4,c5,fun b hb=>by obtain⟨k,⟨⟨k1,k3⟩,k4⟩,k2⟩:=c6 b hb;exact⟨k,⟨k1,by simp[k3,k4]⟩,k2⟩⟩
  .rename_i cs RP e1 e2;have aQ:r<H.length:=(a0c.1 e1).1;have:=a9L e1 e2 hn (Zy h1 (by rw[a4v,List.drop_set_of_lt aQ];exact hn) hs);intro A m h tf rW a b c;obtain⟨w,h1,ws,m1,c1,c2,c3,c4,c5,c6⟩:=this A m h tf rW a b c;exact⟨w,h1,ws,m1,c1,c2,c3,c4,c5,fun b hb=>by obtain⟨k,⟨⟨k1,k3⟩,k4⟩,k2⟩:=c6 b hb;exact⟨k,⟨k1,by simp[k3,k4]⟩,k2⟩⟩
  cases h1
theorem WV{α:Type}{rs:List Nat}:∀{ks:List α} {i p:Nat} {k:α},ks[p]? = some k->i+p∉rs->k∈a2M rs i ks
 | [],_,_,_,h,_=>by simp at h
 |a::ks,i,0,k,h,hn=>by
  simp only[a2V,a05]at h;subst h;simp only[a2M];rw[a0o (by simpa using hn)];exact a3m
 |a::ks,i,p+1,k,h,hn=>by
  have:=WV (ks:=ks) (i:=i+1) (p:=p) (k:=k) (by simpa using h) (by rwa [Nat.add_right_comm,a9T] );simp only[a2M];split
  .exact this
  exact a3n _ this
theorem J9(hX:bM X P){call:aY}{ks:List Nat}{H' Hp H H1 Q9:List (PB X.Γ)}{fv fv' v v':PV X.Γ}{xs xs':List (PV X.Γ)}{W:Nat->Prop}(hs:WU X P call fv xs H v H1 W)
  (jA:ks.Nodup) (hp:CS H' ks=some Hp) (hH:nO (wL ks) Hp=some H) (hf:fH (wL ks) fv'=some fv) (hx:fH.oW (wL ks) xs'=some xs)
  (hv:fH (bk ks H'.length) v=some v') (hH1:nO (bk ks H'.length) H1=some Q9) (hro:IZ (H1.drop ks.length)=true) :
  ∀(A:Nat->Prop) (m':List MB) (h:List HB) (tf:TV) (rW:List TV),HR X P A m' H' h->VR X P (AA A m') m' h fv' tf->bU X P (AA A m') m' h xs' rW ->
  ∃w h1 ws m1,call tf rW h=some (w,h1,ws)∧HR X P A m1 (putAt ks Q9 H'++Q9.drop ks.length) h1∧VR X P (AA A m1) m1 h1 v' w∧Fr m' h m1 h1∧Up m' m1∧∀b∈ws,∃p k,ks[p]? = some k∧W p∧He m' k b:=by
 intro A m' h tf rW hr hf' Fg;have hpg:=Eb hp;have hHg:=sU hH;have hkH:∀{p k:Nat},ks[p]? = some k->k<m'.length:=fun{p k} hk=>by
  obtain⟨b,q1,_⟩:=hpg.2 hk;rw[hr.len];exact(a0c.1 q1).1
 have hkm:∀k∈ks,k<m'.length:=fun k hk=>by
  obtain⟨i,hi⟩:=a8K hk;exact hkH hi
 let m:List MB:=ks.map fun k=>m'.getD k .gone
 have hm:∀{p k:Nat},ks[p]? = some k->m[p]? = m'[k]?:=fun{p k} hk=>by
  show(ks.map _)[p]? = _;rw[a4q,hk];have:=hkH hk;simp[a3l,this]
 have a5Z:m.length=ks.length:=a4n ..;have RX:∀{p:Nat} {mb:MB},m[p]? = some mb->∃k,ks[p]? = some k∧m'[k]? = some mb:=fun{p mb} hpm=>by
  have:p<ks.length:=by rw[<-a5Z];exact(a0c.1 hpm).1
  have hk:=a0f this;exact⟨_,hk,by rw[<-hm hk];exact hpm⟩
 have oK:∀b,b∈bn m->b∈bn m':=fun b hb=>by
  obtain⟨j,mb,q1,q2⟩:=kF hb;obtain⟨k,_,q3⟩:=RX q1;exact aZ q3 q2
 have aei:∀{i:Nat} {mb:MB} {b:Nat},i∉ks->m'[i]? = some mb->mb.own=some b->b∉bn m:=fun{i mb b} hi h1 h2 hb=>by
  obtain⟨j,mc,q1,q2⟩:=kF hb;obtain⟨k,q3,q4⟩:=RX q1;have:=iU hr.nodup h1 q4 h2 q2;subst this;exact hi (a4u q3)
 let A2:Nat->Prop:=fun b=>A b∧(b∈bn m'->b∈bn m)
 have hA:∀b,AA A m' b->AA A2 m b:=fun b hb=>⟨⟨hb.1,fun h9=>absurd h9 hb.2⟩,fun h9=>hb.2 (oK b h9)⟩;have hg:∀i j,wL ks i=some j->m[j]? = m'[i]?:=fun i j zZ=>hm (OA zZ);have wJ:HR X P A2 m H h:=by
  refine⟨by rw[a5Z,hHg.1,hpg.1],fun j b hj=>?_,jB fun i j c q1 q2=>?_,fun b hb=>⟨hr.up b hb,fun h9=>absurd (hr.inb h9) (by omega)⟩,fun b hb=>⟨hr.CW b (oK b hb),fun _=>hb⟩⟩
  .obtain⟨b0,q1,q2⟩:=hHg.2 hj;have rV:j<ks.length:=by rw[<-hpg.1];exact(a0c.1 q1).1
   have hk:=a0f rV;obtain⟨b9,q5,q6⟩:=hpg.2 hk;rw[q1]at q6;cases q6;obtain⟨mb,q3,q4⟩:=hr.at_ _ _ q5;exact⟨mb,by rw[hm hk];exact q3,Ea hX hg hA (fun c _ h9 h8=>h9 (oK c h8)) q4 q2⟩
  .obtain⟨ma,a1,a2⟩:=q1;obtain⟨mc,c1,c2⟩:=q2;obtain⟨k,a3,a4⟩:=RX a1;obtain⟨l,c3,c4⟩:=RX c1;have e:=iU hr.nodup a4 c4 a2 c2;subst e;exact(List.getElem?_inj (a0c.1 a3).1 jA).1 (by rw[a3,c3])
 obtain⟨w,h1,ws,m1,c1,c2,c3,c4,c5,c6⟩:=hs A2 m h tf rW wJ (E8 hg hA hX hf' hf) (zn hX hg hA Fg hx);have a6a:ks.length<=m1.length:=by
  rcases abC ks.length with e|e
  .omega
  .have aQ:ks.length-1<m.length:=(by omega);have:=c5 (ks.length-1) m[ks.length-1] (a0f aQ);rcases this with g|g<;>(have:=(a0c.1 g).1;omega)
 let m1':List MB:=putAt ks m1 m'++m1.drop ks.length
 have hn:m'.length=H'.length:=hr.len;have a9M:(putAt ks m1 m').length=m'.length:=sV;have a1d:∀{p k:Nat},ks[p]? = some k->m1'[k]? = m1[p]?:=fun{p k} hk=>by
  show(putAt ks m1 m'++_)[k]? = _;rw[a0j (by rw[a9M];exact hkH hk),OD jA hkm a6a hk]
 have Zz:∀{i:Nat},i<m'.length->i∉ks->m1'[i]? = m'[i]?:=fun{i} hi hk=>by
  show(putAt ks m1 m'++_)[i]? = _;rw[a0j (by rw[a9M];exact hi),J7 hk]
 have ZA:∀{j:Nat},ks.length<=j->m1'[m'.length+(j-ks.length)]? = m1[j]?:=fun{j} hj=>by
  show(putAt ks m1 m'++_)[_]? = _;rw[a1c (by rw[a9M];omega),a9M,Nat.add_sub_cancel_left,a4m];congr 1;omega
 have hgb:∀j i,bk ks H'.length j=some i->m1'[i]? = m1[j]?:=fun j i zZ=>by
  unfold bk at zZ;split at zZ
  .rename_i k hk;cases zZ;exact a1d hk
  .rename_i hk;cases zZ;rw[<-hn];exact ZA (by rw[List.getElem?_eq_none_iff]at hk;exact hk)
 have uY:∀{i:Nat} {mb:MB},m1'[i]? = some mb->(∃p,ks[p]? = some i∧m1[p]? = some mb)∨(i<m'.length∧i∉ks∧m'[i]? = some mb)∨(∃j,ks.length<=j∧i=m'.length+(j-ks.length)∧m1[j]? = some mb):=fun{i mb} hi=>by
  rcases a4l i m'.length with aQ|EI
  .by_cases hk:i∈ks
   .obtain⟨p,hp⟩:=a8K hk;exact .inl ⟨p,hp,by rw[<-a1d hp];exact hi⟩
   .exact .inr (.inl ⟨aQ,hk,by rw[<-Zz aQ hk];exact hi⟩)
  .refine .inr (.inr ⟨i-m'.length+ks.length,by omega,by omega,?_⟩);rw[<-ZA (by omega)];rw[<-hi];congr 1;omega
 have yQ:∀{b:Nat},b∈bn m1'->b∈bn m1∨∃i mb,i∉ks∧m'[i]? = some mb∧mb.own=some b:=fun{b} hb=>by
  obtain⟨i,mb,q1,q2⟩:=kF hb;rcases uY q1 with⟨p,_,q3⟩|⟨_,q3,q4⟩|⟨j,_,_,q3⟩
  .exact .inl (aZ q3 q2)
  .exact .inr ⟨i,mb,q3,q4,q2⟩
  .exact .inl (aZ q3 q2)
 have a9N:∀{i b:Nat} {mb:MB},i∉ks->m'[i]? = some mb->mb.own=some b->b∉bn m1:=fun{i b mb} h1 h2 h3 h4=>by
  rcases c4.new b h4 with g|g
  .exact aei h1 h2 h3 g
  .exact absurd (hr.inb (aZ h2 h3)) (by omega)
 have hA3:∀b,AA A2 m1 b->AA A m1' b:=fun b hb=>⟨hb.1.1,fun h9=>by
  rcases yQ h9 with g|⟨i,mb,g1,g2,g3⟩
  .exact hb.2 g
  .exact aei g1 g2 g3 (hb.1.2 (aZ g2 g3))⟩
 have hF:Fr m' h m1' h1:=⟨c4.len,fun b hb hnb=>c4.same b hb fun h9=>hnb (oK b h9),fun b hb=>by
  rcases yQ hb with g|⟨i,mb,g1,g2,g3⟩
  .rcases c4.new b g with g|g
   .exact .inl (oK b g)
   .exact .inr g
  .exact .inl (aZ g2 g3),c4.grow⟩
 have hU:Up m' m1':=fun i mb hi=>by
  have aQ:=(a0c.1 hi).1;by_cases hk:i∈ks
  .obtain⟨p,hp⟩:=a8K hk;rw[a1d hp];exact c5 p mb (by rw[hm hp];exact hi)
  .exact .inl (by rw[Zz aQ hk];exact hi)
 have aej:=sU hH1;have ai4:m1.length=H1.length:=c2.len;refine⟨w,h1,ws,m1',c1,⟨?_,fun i b hi=>?_,?_,fun b hb=>(c2.up b hb).1,fun b hb=>?_⟩,E8 hgb hA3 hX c3 hv,hF,hU,fun b hb=>?_⟩
 .show(putAt ks m1 m'++_).length=_;rw[a2j,a2j,sV,sV,a4b,a4b,aej.1,ai4,hn]
 .have ai5:ks.length<=Q9.length:=by rw[aej.1,<-ai4];exact a6a
  have anX:∀k∈ks,k<H'.length:=fun k hk=>by rw[<-hn];exact hkm k hk
  have back:∀{j:Nat} {b:PB X.Γ},Q9[j]? = some b->∃mb,m1[j]? = some mb∧BR X P (AA A m1') m1' h1 b mb:=fun{j b} hj=>by
   obtain⟨b0,q1,q2⟩:=aej.2 hj;obtain⟨mb,q3,q4⟩:=c2.at_ j b0 q1;refine⟨mb,q3,Ea hX hgb hA3 (fun c e h9 h8=>?_) q4 q2⟩;rcases yQ h8 with g|⟨i,LZ,g1,g2,g3⟩
   .exact h9 g
   .subst e;rcases a4l j ks.length with hj1|hj1
    .have hk:=a0f hj1;have rV:j<m.length:=by rw[a5Z];exact hj1
     have hmj:m[j]? = some (.jl c):=by
      rcases c5 j _ (a0f rV)with e|e<;>rw[q3]at e<;>simp only[a05]at e
      .rw[a0f rV,<-e]
      .cases e
     obtain⟨k,e1,e2⟩:=RX hmj;obtain⟨b9,e3,_⟩:=hpg.2 e1;obtain⟨mb9,e4,e5⟩:=hr.at_ _ _ e3;rw[e2]at e4;cases e4;cases b9<;>first|exact e5.elim|exact e5.1 (aZ g2 g3)
    .have e1:(H1.drop ks.length)[j-ks.length]? = some b0:=by rw[a4m,<-q1];congr 1;omega
     have e2:=MG hro e1;cases b0<;>first|exact q4.elim|cases e2
  rcases a4l i H'.length with aQ|EI
  .rw[a0j (by rw[sV];exact aQ)]at hi;by_cases hk:i∈ks
   .obtain⟨p,hpk⟩:=a8K hk;rw[OD jA anX ai5 hpk]at hi;obtain⟨mb,q1,q2⟩:=back hi;exact⟨mb,by rw[a1d hpk];exact q1,q2⟩
   .rw[J7 hk]at hi;obtain⟨mb,q1,q2⟩:=hr.at_ i b hi;refine⟨mb,by rw[Zz (by rw[hn];exact aQ) hk];exact q1,q2.step hF hU fun c hc=>?_⟩;exact c4.same c (hr.inb (aZ q1 hc)) (aei hk q1 hc)
  .rw[a1c (by rw[sV];exact EI),sV,a4m]at hi;obtain⟨mb,q1,q2⟩:=back hi;refine⟨mb,?_,q2⟩;have:=ZA (j:=ks.length+(i-H'.length)) (by omega);rw[q1]at this;rw[<-this];congr 1;omega
 .refine jB fun i j c q1 q2=>?_;obtain⟨ma,a1,a2⟩:=q1;obtain⟨mc,b1,b2⟩:=q2;rcases uY a1 with⟨p,a3,a4⟩|⟨a3,a4,a5⟩|⟨p,a3,a4,a5⟩<;>rcases uY b1 with⟨q,b3,b4⟩|⟨b3,b4,b5⟩|⟨q,b3,b4,b5⟩
  .have:=iU c2.nodup a4 b4 a2 b2;subst this;rw[a3]at b3;cases b3;rfl
  .exact absurd (aZ a4 a2) (a9N b4 b5 b2)
  .have:=iU c2.nodup a4 b5 a2 b2;subst this;have:=(a0c.1 a3).1;omega
  .exact absurd (aZ b4 b2) (a9N a4 a5 a2)
  .exact iU hr.nodup a5 b5 a2 b2
  .exact absurd (aZ b5 b2) (a9N a4 a5 a2)
  .have:=iU c2.nodup a5 b4 a2 b2;subst this;have:=(a0c.1 b3).1;omega
  .exact absurd (aZ a5 a2) (a9N b4 b5 b2)
  .have:=iU c2.nodup a5 b5 a2 b2;subst this;omega
 .rcases yQ hb with g|⟨i,mb,g1,g2,g3⟩
  .exact(c2.CW b g).1
  .exact hr.CW b (aZ g2 g3)
 .obtain⟨j,hw,mb,q1,q2⟩:=c6 b hb;obtain⟨k,q3,q4⟩:=RX q1;exact⟨j,k,q3,hw,mb,q4,q2⟩
end
end Pv
