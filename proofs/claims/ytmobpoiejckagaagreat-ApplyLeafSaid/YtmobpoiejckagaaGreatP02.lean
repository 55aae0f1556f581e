/- Part 3 of a proof: ApplyLeaf -/
import Derived.Test.YtmobpoiejckagaaGreatP01
set_option linter.constructorNameAsVariable false
set_option linter.unusedVariables false
set_option linter.unusedSimpArgs false
set_option linter.unusedSectionVars false
noncomputable section
namespace Pv
open Go Tw
section
variable {X:kP} {P:LI1} {A:Nat->Prop} {m m':List MB} {h h':List HB} {H H':List (PB X.Γ)}
theorem HR.next(hr:HR X P A m H h)(hF:Fr m h m' h')(hU:Up m m')(hl:m'.length=H'.length)(hn:(bC m').Nodup)
  (EU:∀(i:Nat) b,H'[i]? = some b->(∃mb,H[i]? = some b∧m[i]? = some mb∧m'[i]? = some mb∧∀c,mb.own=some c->h'[c]? = h[c]?)∨∃mb,m'[i]? = some mb∧BR X P (AA A m') m' h' b mb):HR X P A m' H' h':=by
 refine⟨hl,fun i b hb=>?_,hn,fun b hb=>hr.up b (by have:=hF.len;omega),fun b hb=>?_⟩
 .rcases EU i b hb with⟨mb,h1,h2,h3,h4⟩|h1
  .obtain⟨MI,g1,g2⟩:=hr.at_ i b h1;rw[h2]at g1;cases g1;exact⟨mb,h3,g2.step hF hU h4⟩
  .exact h1
 .rcases hF.new b hb with h1|h1
  .exact hr.Di b h1
  .exact hr.up b h1
theorem BR.has{B:Nat->Prop}{b:PB X.Γ}{mb:MB}{c:Nat}(hb:BR X P B m h b mb)(ho:mb.own=some c):c<h.length:=by
 have key:∀{y},h[c]? = some y->c<h.length:=fun e=>(a0a.1 e).1;cases b with
 |cells cs=>
  cases mb with
  |gJ b=>cases ho;obtain⟨_,h1,_⟩:=hb;exact key h1
  |_=>exact hb.elim
 |aF cs=>
  cases mb with
  |jy b=>cases ho
  |_=>exact hb.elim
 |list k ex t l=>
  cases mb with
  |dJ x=>
   cases(hb:LR X P B m h k ex t l x)with
   |nil=>cases ho
   |emp=>simp[MB.own]at ho
   |some h1 _ _ h4=>
    simp only[MB.own]at ho;split at ho
    .cases ho
    cases ho;exact key h4
  |_=>exact hb.elim
 |map es=>
  cases mb with
  |gJ b=>cases ho;obtain⟨_,h1,_⟩:=hb;exact key h1
  |_=>exact hb.elim
 |nH cs=>
  cases mb with
  |gJ b=>cases ho;obtain⟨_,h1,_⟩:=hb;exact key h1
  |_=>exact hb.elim
 |iI es=>
  cases mb with
  |jy b=>cases ho
  |_=>exact hb.elim
 |dD r n seen=>
  cases mb with
  |gJ b=>cases ho;obtain⟨_,h1,_⟩:=hb;exact key h1
  |_=>exact hb.elim
 |mark=>
  cases mb with
  |gJ b=>cases ho;exact key hb
  |_=>exact hb.elim
 |loop=>
  cases mb with
  |gJ b=>cases ho;obtain⟨_,h1,_⟩:=hb;exact key h1
  |_=>exact hb.elim
 |gone=>
  cases mb with
  |gone=>cases ho
  |_=>exact hb.elim
theorem HR.inb(hr:HR X P A m H h){c:Nat}(hc:c∈bC m):c<h.length:=by
 obtain⟨mb,hm,ho⟩:=a6h.1 hc;obtain⟨i,hi⟩:=a8Y hm;have:i<H.length:=by rw[<-hr.len];exact(a0a.1 hi).1
 obtain⟨MI,h1,h2⟩:=hr.at_ i H[i] (a0n this);rw[hi]at h1;cases h1;exact h2.has ho
theorem jl(a b:List MB):bC (a++b)=bC a++bC b:=List.filterMap_append ..
theorem kH(mb:MB):bC [mb]=mb.own.toList:=by unfold bC;simp[a9m];cases mb.own<;>rfl
theorem wW(ms:List MB):Up m (m++ms):=fun i mb hi=>.inl (by rw[a0p (a0a.1 hi).1];exact hi)
theorem HR.push(hr:HR X P A m H h){pb:PB X.Γ}{hb:HB}{mb:MB}(ho:mb.own=some h.length∨mb.own=none)(qL:BR X P (AA A (m++[mb])) (m++[mb]) (h++[hb]) pb mb) :
  HR X P A (m++[mb]) (H++[pb]) (h++[hb])∧Fr m h (m++[mb]) (h++[hb])∧Up m (m++[mb]):=by
 have hF:Fr m h (m++[mb]) (h++[hb]):=by
  refine⟨by simp,fun b hb _=>by rw[a0p hb],fun b hb=>?_,fun b cs hc=>⟨cs,?_,a0E _⟩⟩
  .rw[jl,a3c,kH]at hb;rcases hb with hb|hb
   .exact .inl hb
   .rcases ho with ho|ho<;>rw[ho]at hb<;>simp at hb
    exact .inr (by omega)
  .rw[gq (a0p (fZ hc)),hc]
 refine⟨hr.next hF (wW _) (by simp[hr.len]) ?_ fun i b hi=>?_,hF,wW _⟩
 .rw[jl,kH];refine a96.2 ⟨hr.nodup,?_,?_⟩
  .cases mb.own<;>simp
  .intro a ha b hb e;subst e;have:=hr.inb ha;rcases ho with ho|ho<;>rw[ho]at hb<;>simp at hb
   omega
 .rcases a4u i H.length with aQ|ET
  .left;rw[a0p aQ]at hi;obtain⟨MI,h1,h2⟩:=hr.at_ i b hi;refine⟨MI,hi,h1,by rw[a0p (by rw[hr.len];exact aQ)];exact h1,fun c hc=>?_⟩;rw[a0p (h2.has hc)]
  .right;rw[a0G ET]at hi;have:i-H.length=0:=by
    rcases abQ (i-H.length)with h|h
    .exact h
    .rw[a4r (by simp;omega)]at hi;cases hi
   rw[this]at hi;simp only[a2C,a01]at hi;subst hi;exact⟨mb,by rw[a0G (by rw[hr.len];exact ET),hr.len,this];rfl,qL⟩
theorem HR.ac5(hr:HR X P A m H h){pb:PB X.Γ}{mb:MB}(ho:mb.own=none)(qL:BR X P (AA A (m++[mb])) (m++[mb]) h pb mb) :
  HR X P A (m++[mb]) (H++[pb]) h∧Fr m h (m++[mb]) h∧Up m (m++[mb]):=by
 have zl:bC (m++[mb])=bC m:=by rw[jl,kH,ho];simp
 have hF:Fr m h (m++[mb]) h:=⟨a0E _,fun _ _ _=>rfl,fun b hb=>.inl (zl▸hb),fun b cs hc=>⟨cs,hc,a0E _⟩⟩;refine⟨hr.next hF (wW _) (by simp[hr.len]) (by rw[zl];exact hr.nodup) fun i b hi=>?_,hF,wW _⟩;rcases a4u i H.length with aQ|ET
 .left;rw[a0p aQ]at hi;obtain⟨MI,h1,h2⟩:=hr.at_ i b hi;exact⟨MI,hi,h1,by rw[a0p (by rw[hr.len];exact aQ)];exact h1,fun c hc=>rfl⟩
 .right;rw[a0G ET]at hi;have:i-H.length=0:=by
   rcases abQ (i-H.length)with h|h
   .exact h
   .rw[a4r (by simp;omega)]at hi;cases hi
  rw[this]at hi;simp only[a2C,a01]at hi;subst hi;exact⟨mb,by rw[a0G (by rw[hr.len];exact ET),hr.len,this];rfl,qL⟩
theorem HR.set(hr:HR X P A m H h){i c:Nat}{mb:MB}{pb:PB X.Γ}{hb:HB}(hi:m[i]? = some mb)(ho:mb.own=some c)(hg:∀cs,aX h c=some cs->∃cs',aX (h.set c hb) c=some cs'∧cs.length<=cs'.length)
  (qL:Fr m h m (h.set c hb)->BR X P (AA A m) m (h.set c hb) pb mb):HR X P A m (H.set i pb) (h.set c hb)∧Fr m h m (h.set c hb):=by
 have hF:Fr m h m (h.set c hb):=by
  refine⟨by simp,fun b hb hn=>?_,fun b hb=>.inl hb,fun b cs hc=>?_⟩
  .rw[a1l];intro e;subst e;exact hn (bf hi ho)
  .by_cases e:c=b
   .subst e;exact hg cs hc
   .exact⟨cs,by rw[gq (a1l e),hc],a0E _⟩
 refine⟨hr.next hF .refl (by simp[hr.len]) hr.nodup fun j b hj=>?_,hF⟩;by_cases e:i=j
 .subst e;rw[a4x ]at hj;right;have:H[i]?.isSome:=by
   have:i<H.length:=by rw[<-hr.len];exact(a0a.1 hi).1
   simp[this]
  obtain⟨y,hy⟩:=a5h.1 this;rw[hy]at hj;cases hj;exact⟨mb,hi,qL hF⟩
 .rw[a1l e]at hj;left;obtain⟨MI,h1,h2⟩:=hr.at_ j b hj;refine⟨MI,hj,h1,h1,fun d hd=>a1l fun e2=>?_⟩;subst e2;exact e (je hr.nodup hi h1 ho hd)
theorem Fe{i:Nat}:∀{m:List MB} {b:Nat},b∈bC (m.set i .gone)->b∈bC m:=by
 intro m b hb;obtain⟨mb,hm,ho⟩:=a6h.1 hb;obtain⟨j,hj⟩:=a8Y hm;by_cases e:i=j
 .subst e;rw[a4x]at hj;cases hx:m[i]? with
  |none=>rw[hx]at hj;cases hj
  |some y=>rw[hx]at hj;cases hj;cases ho
 rw[a1l e]at hj;exact bf hj ho
theorem Oy{i:Nat}:∀{m:List MB},(bC m).Nodup->(bC (m.set i .gone)).Nodup:=by
 unfold bC;intro m
 induction m generalizing i with
 |nil=>intro h;simp
 |cons x r ih=>
  intro hn;cases i with
  |zero=>
   simp only[List.set_cons_zero,a9m,MB.own];simp only[a9m]at hn;split at hn
   .exact hn
   exact(a4z.1 hn).2
  |succ i=>
   simp only[List.set_cons_succ,a9m];simp only[a9m]at hn;split at hn
   .exact ih hn
   refine a4z.2 ⟨fun hb=>(a4z.1 hn).1 ?_,ih (a4z.1 hn).2⟩;exact Fe (m:=r) hb
theorem a1e{i:Nat}:Fr m h (m.set i .gone) h:=⟨a0E _,fun _ _ _=>rfl,fun _ hb=>.inl (Fe hb),fun _ cs hc=>⟨cs,hc,a0E _⟩⟩
theorem a1f{i:Nat}:Up m (m.set i .gone):=fun j mb hj=>by
 by_cases e:i=j
 .subst e;right;rw[a4x,hj];rfl
 .left;rw[a1l e];exact hj
theorem HR.gone(hr:HR X P A m H h)(i:Nat):HR X P A (m.set i .gone) (H.set i .gone) h:=by
 refine hr.next a1e a1f (by simp[hr.len]) (Oy hr.nodup) fun j b hj=>?_;by_cases e:i=j
 .subst e;right;rw[a4x]at hj;cases hx:H[i]? with
  |none=>rw[hx]at hj;cases hj
  |some y=>
   rw[hx]at hj;cases hj;obtain⟨mb,h1,_⟩:=hr.at_ i y hx;exact⟨.gone,by rw[a4x,h1];rfl,trivial⟩
 rw[a1l e]at hj;left;obtain⟨mb,h1,_⟩:=hr.at_ j b hj;exact⟨mb,hj,h1,by rw[a1l e];exact h1,fun _ _=>rfl⟩
def dw:List Nat->List MB->List MB
 | [],m=>m
 |i::is,m=>dw is (m.set i .gone)
theorem iJ:∀(is:List Nat) (m:List MB),Fr m h (dw is m) h∧Up m (dw is m)
 | [],m=>⟨.refl,.refl⟩
 |i::is,m=>⟨a1e.trans (iJ is _).1,a1f.trans (iJ is _).2⟩
theorem HR.bn:∀(is:List Nat) {m:List MB} {H:List (PB X.Γ)},HR X P A m H h->HR X P A (dw is m) (bn is H) h
 | [],_,_,hr=>hr
 |i::is,_,_,hr=>HR.bn is (hr.gone i)
theorem nX:∀(is:List Nat) (H:List (PB X.Γ)),(Pv.bn is H).length=H.length
 | [],_=>rfl
 |i::is,H=>by rw[Pv.bn,nX is];simp[WT]
theorem mX:∀(is:List Nat) (m:List MB),(dw is m).length=m.length
 | [],_=>rfl
 |i::is,m=>by rw[dw,mX is];simp
theorem Hl:∀(is:List Nat) {m:List MB} {i:Nat} {mb:MB},m[i]? = some mb->(dw is m)[i]? = some (if is.contains i then .gone else mb)
 | [],_,_,_,h=>by simpa[dw]using h
 |j::is,m,i,mb,h=>by
  rw[dw];by_cases e:j=i
  .subst e;have:(m.set j .gone)[j]? = some .gone:=by rw[a4x,h];rfl
   rw[Hl is this];simp
  rw[Hl is (by rw[a1l e];exact h)];have:(i==j)=false:=by simp;omega
  simp only[ahd,this,agf]
end
section
variable {X:kP} {P:LI1} {A:Nat->Prop} {m m':List MB} {h h':List HB} {H H':List (PB X.Γ)}
theorem bY.nil:bY X P A m h [] []:=⟨rfl,fun i x y hx=>by simp at hx⟩
theorem bY.cons{v:PV X.Γ}{x:TV}{vs:List (PV X.Γ)}{xs:List TV}(h1:VR X P A m h v x)(h2:bY X P A m h vs xs):bY X P A m h (v::vs) (x::xs):=by
 refine⟨by simp[h2.1],fun i a b ha hb=>?_⟩;cases i with
 |zero=>simp only[a2C,a01]at ha hb;subst ha;subst hb;exact h1
 |succ i=>exact h2.2 i a b (by simpa using ha) (by simpa using hb)
theorem bY.inv{v:PV X.Γ}{vs:List (PV X.Γ)}{xs:List TV}(hv:bY X P A m h (v::vs) xs):∃x r,xs=x::r∧VR X P A m h v x∧bY X P A m h vs r:=by
 cases xs with
 |nil=>have:=hv.1;simp at this
 |cons x r=>exact⟨x,r,rfl,hv.2 0 v x rfl rfl,by have:=hv.1;simpa using this,fun i a b ha hb=>hv.2 (i+1) a b (by simpa using ha) (by simpa using hb)⟩
theorem bY.inv0{xs:List TV}(hv:bY X P A m h [] xs):xs=[]:=by have:=hv.1;cases xs<;>simp_all
theorem bY.app{a b:List (PV X.Γ)}{x y:List TV}(h1:bY X P A m h a x)(h2:bY X P A m h b y):bY X P A m h (a++b) (x++y):=by
 refine⟨by simp[h1.1,h2.1],fun i c d hc hd=>?_⟩;rcases a4u i a.length with hl|hl
 .rw[a0p hl]at hc;rw[a0p (by rw[<-h1.1];exact hl)]at hd;exact h1.2 i c d hc hd
 rw[a0G hl]at hc;rw[a0G (by rw[<-h1.1];exact hl),<-h1.1]at hd;exact h2.2 _ c d hc hd
theorem bY.drop{a:List (PV X.Γ)}{x:List TV}(h1:bY X P A m h a x)(n:Nat):bY X P A m h (a.drop n) (x.drop n):=
 ⟨by simp[h1.1],fun i c d hc hd=>h1.2 (n+i) c d (by rw[<-hc,a4w]) (by rw[<-hd,a4w])⟩
theorem bY.take{a:List (PV X.Γ)}{x:List TV}(h1:bY X P A m h a x)(n:Nat):bY X P A m h (a.take n) (x.take n):=by
 refine⟨by simp[h1.1],fun i c d hc hd=>?_⟩;rw[a4v]at hc hd;split at hc
 .rename_i hl;rw[a0u hl]at hd;exact h1.2 i c d hc hd
 cases hc
theorem bY.get{a:List (PV X.Γ)}{x:List TV}(h1:bY X P A m h a x){i:Nat}{c:PV X.Γ}(hc:a[i]? = some c):∃v,x[i]? = some v∧VR X P A m h c v:=by
 have hl:i<x.length:=by rw[<-h1.1];exact(a0a.1 hc).1
 exact⟨x[i],a0n hl,h1.2 i c _ hc (a0n hl)⟩
theorem RZ{v:PV X.Γ}{x tv:TV}(hv:VR X P A m h v x)(hp:qY v=some tv):x=tv:=by
 cases hv with
 |gone hi _ _=>cases v<;>simp[bD]at hi<;>simp[qY]at hp
 |_=>first|(simp only[qY,a01]at hp;exact hp)|(simp[qY]at hp;done)
theorem G5:∀{vs:List (PV X.Γ)} {xs tvs:List TV},bY X P A m h vs xs->iQ vs=some tvs->xs=tvs
 | [],xs,tvs,hv,hp=>by simp only[iQ,a01]at hp;rw[hv.inv0,hp]
 |v::vs,xs,tvs,hv,hp=>by
  obtain⟨x,r,rfl,h1,h2⟩:=hv.inv;simp only[iQ]at hp;split at hp
  .rename_i a b ha hb;cases hp;rw[RZ h1 ha,G5 h2 hb]
  cases hp
theorem jT{v:PV X.Γ}{x tv:TV}(hv:VR X P A m h v x)(hp:qp v=some tv):x=tv:=by
 cases v with
 |agg cs=>
  simp only[qp,a0i]at hp;obtain⟨tvs,h1,rfl⟩:=hp;cases hv with
  |agg h2 h3=>rw[G5 ⟨h2,h3⟩ h1]
  |gone hi _ _=>simp[bD]at hi
 |_=>exact RZ hv hp
theorem a1g:∀{vs:List (PV X.Γ)} {xs tvs:List TV},bY X P A m h vs xs->Uo vs=some tvs->xs=tvs
 | [],xs,tvs,hv,hp=>by simp only[Uo,a01]at hp;rw[hv.inv0,hp]
 |v::vs,xs,tvs,hv,hp=>by
  obtain⟨x,r,rfl,h1,h2⟩:=hv.inv;simp only[Uo]at hp;split at hp
  .rename_i a b ha hb;cases hp;rw[jT h1 ha,a1g h2 hb]
  cases hp
theorem a5Z{v:PV X.Γ}{x:TV}(hp:ofC x=some v):VR X P A m h v x:=by cases x<;>simp[ofC]at hp<;>subst hp<;>constructor
theorem UC:∀{xs:List TV} {vs:List (PV X.Γ)},CJ xs=some vs->bY X P A m h vs xs
 | [],vs,hp=>by simp only[CJ,a01]at hp;subst hp;exact .nil
 |x::xs,vs,hp=>by
  simp only[CJ]at hp;split at hp
  .rename_i a b ha hb;cases hp;exact .cons (a5Z ha) (UC hb)
  cases hp
theorem wX{v:PV X.Γ}{x:TV}(hp:YA x=some v):VR X P A m h v x:=by
 cases x with
 |agg cs=>
  simp only[YA,a0i]at hp;obtain⟨vs,h1,rfl⟩:=hp;have:=UC (X:=X) (P:=P) (A:=A) (m:=m) (h:=h) h1;exact .agg this.1 this.2
 |_=>exact a5Z hp
theorem S9{v:PV X.Γ}{x:TV}(hp:qY v=some x):VR X P A m h v x:=by
 cases v<;>simp only[qY,a01,reduceCtorEq]at hp<;>subst hp
 .exact .bool _
 .exact .int _ _
 .exact .str _
 exact .nil _
theorem G6:∀{vs:List (PV X.Γ)} {xs:List TV},iQ vs=some xs->bY X P A m h vs xs
 | [],xs,hp=>by simp only[iQ,a01]at hp;subst hp;exact .nil
 |v::vs,xs,hp=>by
  simp only[iQ]at hp;split at hp
  .rename_i a b ha hb;cases hp;exact .cons (S9 ha) (G6 hb)
  cases hp
theorem nY{v:PV X.Γ}{x:TV}(hp:qp v=some x):VR X P A m h v x:=by
 cases v with
 |agg cs=>
  simp only[qp,a0i]at hp;obtain⟨vs,h1,rfl⟩:=hp;have:=G6 (X:=X) (P:=P) (A:=A) (m:=m) (h:=h) h1;exact .agg this.1 this.2
 |_=>exact S9 hp
theorem Ho{v:PV X.Γ}{x:TV}(hv:VR X P A m h v x):VR X P A m h (a18 v) x:=by
 cases v with
 |lit b=>
  cases hv with
  |lit=>exact .bool _
  |gone hi _ _=>simp[bD]at hi
 |_=>exact hv
theorem a6a{v:PV X.Γ}{x:TV}(hv:VR X P A m h v x):jc x=Zl v:=by
 cases hv with
 |own _ o=>exact o
 |gone hi _ o=>rw[o];cases v<;>simp[bD]at hi<;>rfl
 |_=>rfl
theorem Hq{v:PV X.Γ}{x:TV}(hv:VR X P A m h v x):bY X P A m h v.cells x.cells:=by
 have hq:=a6a hv;cases v with
 |agg cs=>
  cases hv with
  |agg h1 h2=>exact⟨h1,h2⟩
  |gone hi _ _=>simp[bD]at hi
 |cO cs=>
  have hv':=hv;cases hv with
  |cO h1 h2=>exact .cons hv' .nil
  |gone hi _ _=>simp[bD]at hi
 |_=>
  have:x.cells=[x]:=by cases x<;>first|rfl|(simp[jc,Zl]at hq;done)
  rw[this];exact .cons hv .nil
theorem Ef:∀{vs:List (PV X.Γ)} {xs:List TV},bY X P A m h vs xs->xs.all jc=vs.all Zl
 | [],xs,hv=>by rw[hv.inv0];rfl
 |v::vs,xs,hv=>by obtain⟨x,r,rfl,h1,h2⟩:=hv.inv;simp only[ac3,a6a h1,Ef h2]
theorem aer{cs:List (PV X.Γ)}{xs:List TV}(hv:bY X P A m h cs xs){off n:Nat}{r:List (PV X.Γ)}(hs:aej cs off n=some r):∃r',sub xs off n=some r'∧bY X P A m h r r':=by
 unfold aej at hs;split at hs
 .rename_i hl;cases hs;exact⟨_,by unfold sub;rw[a0u (by rw[<-hv.1];exact hl)],(hv.drop off).take n⟩
 cases hs
theorem Ht{cs new:List (PV X.Γ)}{xs aii:List TV}(hv:bY X P A m h cs xs)(hn:bY X P A m h new aii){off:Nat}{r:List (PV X.Γ)}(hs:Oo cs off new=some r):∃r',wC xs off aii=some r'∧bY X P A m h r r':=by
 unfold Oo at hs;split at hs
 .rename_i hl;cases hs;refine⟨_,by unfold wC;rw[a0u (by rw[<-hv.1,<-hn.1];exact hl)],?_⟩;rw[<-hn.1];exact((hv.take off).app hn).app (hv.drop _)
 cases hs
theorem AP{cs:List (PV X.Γ)}{xs:List TV}(hv:bY X P A m h cs xs){t:LI2}{off:Nat}{v:PV X.Γ}(hs:H8 P t cs off=some v):∃x,uy P t xs off=some x∧VR X P A m h v x:=by
 unfold H8 at hs;unfold uy;split at hs
 .rename_i n ha hn;simp only[a0i]at hs;obtain⟨r,h1,rfl⟩:=hs;obtain⟨r',g1,g2⟩:=aer hv h1;exact⟨.agg r',by simp only[ha,hn,g1,a0A],.agg g2.1 g2.2⟩
 .rename_i n ha hn;split at hs
  .rename_i h1;obtain⟨x,g1,g2⟩:=hv.get hs;exact⟨x,by simp only[ha,hn,h1,a1I,g1],g2⟩
  cases hs
 cases hs
theorem Hu{t:LI2}{z:List (PV X.Γ)}(hz:RV P t=some z):∃z',Kr P t=some z'∧bY X P A m h z z':=by
 unfold RV at hz;split at hz
 .rename_i z' h1;exact⟨z',h1,UC hz⟩
 cases hz
def VPs(X:kP)(P:LI1)(A:Nat->Prop)(m:List MB)(h:List HB)(ps:List (Nat×PV X.Γ))(qs:List (Nat×TV)):Prop:=
 ps.length=qs.length∧∀(i:Nat) a b,ps[i]? = some a->qs[i]? = some b->a.1=b.1∧VR X P A m h a.2 b.2
theorem VPs.inv{a:Nat×PV X.Γ}{ps:List (Nat×PV X.Γ)}{qs:List (Nat×TV)}(hv:VPs X P A m h (a::ps) qs):∃x r,qs=(a.1,x)::r∧VR X P A m h a.2 x∧VPs X P A m h ps r:=by
 cases qs with
 |nil=>have:=hv.1;simp at this
 |cons q r=>
  obtain⟨h1,h2⟩:=hv.2 0 a q rfl rfl;refine⟨q.2,r,by rw[h1],h2,by have:=hv.1;simpa using this,fun i x y hx hy=>hv.2 (i+1) x y (by simpa using hx) (by simpa using hy)⟩
theorem MJ{pl:Nat->Option (Nat×Nat)}:∀{ps:List (Nat×PV X.Γ)} {qs:List (Nat×TV)} {cs:List (PV X.Γ)} {xs:List TV},VPs X P A m h ps qs->bY X P A m h cs xs->∀{r:List (PV X.Γ)},Oq pl cs ps=some r->∃r',sJ pl xs qs=some r'∧bY X P A m h r r'
 | [],qs,cs,xs,hp,hv,r,hs=>by
  have:qs=[]:=by have:=hp.1;cases qs<;>simp_all
  subst this;simp only[Oq,a01]at hs;subst hs;exact⟨xs,rfl,hv⟩
 |(i,v)::ps,qs,cs,xs,hp,hv,r,hs=>by
  obtain⟨x,rest,rfl,h1,h2⟩:=hp.inv;have hc:=Hq h1;simp only[Oq]at hs;split at hs
  .rename_i off size Eb;split at hs
   .rename_i vk;split at hs
    .rename_i cs' ho;obtain⟨xs',g1,g2⟩:=Ht hv hc ho;obtain⟨r',g3,g4⟩:=MJ h2 g2 hs;have ae4:x.cells.length=size:=by rw[<-hc.1];exact vk
     exact⟨r',by simp only[sJ,Eb,ae4,a1I,g1,g3],g4⟩
    cases hs
   cases hs
  cases hs
theorem a6b{t:LI2}{ps:List (Nat×PV X.Γ)}{qs:List (Nat×TV)}(hp:VPs X P A m h ps qs){v:PV X.Γ}(hs:Zn P t ps=some v):∃x,Nr P t qs=some x∧VR X P A m h v x:=by
 unfold Zn at hs;unfold Nr;split at hs
 .rename_i z fs hz hu;obtain⟨z',g1,g2⟩:=Hu (A:=A) (m:=m) (h:=h) hz;split at hs
  .rename_i ha;simp only[a0i]at hs;obtain⟨r,h1,rfl⟩:=hs;obtain⟨r',g3,g4⟩:=MJ hp g2 h1;exact⟨.agg r',by simp only[g1,hu,ha,a1I,g3,a0A],.agg g4.1 g4.2⟩
  cases hs
 .rename_i z n e hz hu;obtain⟨z',g1,g2⟩:=Hu (A:=A) (m:=m) (h:=h) hz;split at hs
  .rename_i k hk;simp only[a0i]at hs;obtain⟨r,h1,rfl⟩:=hs;obtain⟨r',g3,g4⟩:=MJ hp g2 h1;exact⟨.agg r',by simp only[g1,hu,hk,g3,a0A],.agg g4.1 g4.2⟩
  cases hs
 cases hs
theorem WX{z:List (PV X.Γ)}{z':List TV}(hz:bY X P A m h z z'):∀n,bY X P A m h (Zo z n) (times z' n)
 | 0=>.nil
 |n+1=>hz.app (WX hz n)
section
variable {env:List (Nat×PE X.Γ)} {env':List (Nat×EV)}
theorem a1h(he:jY X P A m h env env'){t:Nat}:(Fa t env=none∧dM t env'=none)∨∃v x,Fa t env=some v∧dM t env'=some x∧IU X P A m h v x:=by
 induction he with
 |nil=>exact .inl ⟨rfl,rfl⟩
 |cons h1 _ ih=>
  rename_i k v x r r' _;simp only[Fa,dM];by_cases e:k=t
  .right;exact⟨v,x,by rw[a0u e],by rw[a0u e],h1⟩
  rw[a0q e,a0q e];exact ih
theorem oM(he:jY X P A m h env env'){t:Nat}{v:PE X.Γ}(hl:Fa t env=some v):∃x,dM t env'=some x∧IU X P A m h v x:=by
 rcases a1h he (t:=t)with⟨h1,_⟩|⟨w,x,h1,h2,h3⟩
 .rw[hl]at h1;cases h1
 rw[hl]at h1;cases h1;exact⟨x,h2,h3⟩
theorem nI(he:jY X P A m h env env'){o:Operand}{v:PE X.Γ}(hl:FU env o=some v):∃x,IJ env' o=some x∧IU X P A m h v x:=by
 cases o with
 |tmp t=>exact oM he hl
 |const c=>
  simp only[FU]at hl;split at hl
  .rename_i b hb;cases hl;exact⟨.val (.bool b),by simp only[IJ,hb,a0A],VR.lit b⟩
  .rename_i x _ hx;simp only[a0i]at hl;obtain⟨w,h1,rfl⟩:=hl;exact⟨.val x,by simp only[IJ,hx,a0A],wX h1⟩
  cases hl
 |func f=>
  simp only[FU,a01]at hl;subst hl;exact⟨.val (.fn f [] []),rfl,.fn rfl (by simp) rfl (by simp)⟩
 |global g=>cases hl
theorem gu{v:PV X.Γ}{x:EV}(hp:IU X P A m h (.val v) x):∃y,x=.val y∧VR X P A m h v y:=by
 cases x with
 |val y=>exact⟨y,rfl,hp⟩
 |_=>exact hp.elim
theorem Eh{k o:Nat}{x:EV}(hp:IU X P A m h (.loc k o) x):x=.loc k o:=by
 cases x with
 |loc k' o'=>obtain⟨rfl,rfl⟩:=hp;rfl
 |_=>exact hp.elim
theorem Jj{x:EV}(hp:IU X P A m h .undef x):x=.undef:=by
 cases x with
 |undef=>rfl
 |_=>exact hp.elim
theorem ML{r j:Nat}{v:PV X.Γ}{x:EV}(hp:IU X P A m h (.ent r j v) x):∃c y,x=.ent c j y∧VR X P A m h (.map r) (.map c)∧qp v=some y:=by
 cases x with
 |ent c j' y=>obtain⟨h1,rfl,h2⟩:=hp;exact⟨c,y,rfl,h1,h2⟩
 |_=>exact hp.elim
theorem MO{r j:Nat}{x:EV}(hp:IU X P A m h (.EG r j) x):∃c,x=.EG c j∧VR X P A m h (.map r) (.map c):=by
 cases x with
 |EG c j'=>obtain⟨h1,rfl⟩:=hp;exact⟨c,rfl,h1⟩
 |_=>exact hp.elim
theorem WY(he:jY X P A m h env env'){o:Operand}{v:PV X.Γ}(hl:a19 env o=some v):∃x,qO env' o=some x∧VR X P A m h v x:=by
 unfold a19 at hl;split at hl
 .rename_i w hw;cases hl;obtain⟨x,h1,h2⟩:=nI he hw;obtain⟨y,rfl,h3⟩:=gu h2;exact⟨y,by simp only[qO,h1],h3⟩
 cases hl
theorem jA(he:jY X P A m h env env'){o:Operand}{v:PV X.Γ}(hl:Ae env o=some v):∃x,qO env' o=some x∧VR X P A m h v x:=by
 unfold Ae at hl;split at hl
 .rename_i w hw;cases hl;obtain⟨x,h1,h2⟩:=nI he hw;obtain⟨y,rfl,h3⟩:=gu h2;exact⟨y,by simp only[qO,h1],Ho h3⟩
 cases hl
theorem UD(he:jY X P A m h env env'):∀{os:List Operand} {vs:List (PV X.Γ)},Zm env os=some vs->∃xs,TR env' os=some xs∧bY X P A m h vs xs
 | [],vs,hl=>by simp only[Zm,a01]at hl;subst hl;exact⟨[],rfl,.nil⟩
 |o::os,vs,hl=>by
  simp only[Zm]at hl;split at hl
  .rename_i v ws h1 h2;cases hl;obtain⟨x,g1,g2⟩:=jA he h1;obtain⟨xs,g3,g4⟩:=UD he h2;exact⟨x::xs,by simp only[TR,g1,g3],.cons g2 g4⟩
  cases hl
theorem Zy(he:jY X P A m h env env'):∀{os:List (Nat×Operand)} {vs:List (Nat×PV X.Γ)},a2X env os=some vs->∃xs,VO env' os=some xs∧VPs X P A m h vs xs
 | [],vs,hl=>by simp only[a2X,a01]at hl;subst hl;exact⟨[],rfl,rfl,fun i a b ha=>by simp at ha⟩
 |(i,o)::os,vs,hl=>by
  simp only[a2X]at hl;split at hl
  .rename_i v ws h1 h2;cases hl;obtain⟨x,g1,g2⟩:=jA he h1;obtain⟨xs,g3,g4⟩:=Zy he h2;refine⟨(i,x)::xs,by simp only[VO,g1,g3],by simp[g4.1],fun j a b ha hb=>?_⟩;cases j with
   |zero=>simp only[a2C,a01]at ha hb;subst ha;subst hb;exact⟨rfl,g2⟩
   |succ j=>exact g4.2 j a b (by simpa using ha) (by simpa using hb)
  cases hl
def OR(X:kP)(P:LI1)(A:Nat->Prop)(m:List MB)(h:List HB):Option (PV X.Γ)->Option TV->Prop
 |none,none=>True
 |some v,some x=>VR X P A m h v x
 |_,_=>False
theorem Hw(he:jY X P A m h env env'){o:Option Operand}{v:Option (PV X.Γ)}(hl:Om env o=some v):∃x,VQ env' o=some x∧OR X P A m h v x:=by
 cases o with
 |none=>simp only[Om,a01]at hl;subst hl;exact⟨none,rfl,trivial⟩
 |some o=>
  simp only[Om]at hl;split at hl
  .rename_i w hw;cases hl;obtain⟨x,g1,g2⟩:=jA he hw;exact⟨some x,by simp only[VQ,g1],g2⟩
  cases hl
theorem UE(he:jY X P A m h env env'):∀live,jY X P A m h (jo live env) (pick live env')
 | []=>.nil
 |t::r=>by
  simp only[jo,pick];rcases a1h he (t:=t)with⟨h1,h2⟩|⟨v,x,h1,h2,h3⟩
  .rw[h1,h2];exact UE he r
  rw[h1,h2];exact .cons h3 (UE he r)
theorem a9K(he:jY X P A m h env env'){t:Nat}{b:Bool}(hb:dM t env'=some (.val (.bool b))):jY X P A m h (Pv.C9 t b env) env':=by
 induction he with
 |nil=>exact .nil
 |cons h1 h2 ih=>
  rename_i k v x r r';simp only[dM]at hb;simp only[Pv.C9];by_cases e:k=t
  .rw[a0u e]at hb ⊢;cases hb;exact .cons (VR.lit b) h2
  rw[a0q e]at hb ⊢;exact .cons h1 (ih hb)
theorem aes(he:jY X P A m h env env'):Uz X env=CU env':=by
 induction he with
 |nil=>rfl
 |cons h1 _ ih=>
  rename_i k v x r r' _;cases v with
  |val v=>obtain⟨y,rfl,_⟩:=gu h1;simpa[Uz,CU]using ih
  |loc a b=>rw[Eh h1];simp only[Uz,CU,ih]
  |undef=>rw[Jj h1];simpa[Uz,CU]using ih
  |ent=>obtain⟨_,_,rfl,_⟩:=ML h1;simpa[Uz,CU]using ih
  |EG=>obtain⟨_,rfl,_⟩:=MO h1;simpa[Uz,CU]using ih
end
end
structure bP(X:kP)(P:LI1):Prop where
 dec:∀{t:Nat} {vs:List (PV X.Γ)} {a:X.Γ t},X.dec t vs=some a->∀{A:Nat->Prop} {m:List MB} {h:List HB} {xs:List TV},bY X P A m h vs xs->bY X P A m h (X.enc t a) xs
 jw:∀(t:Nat) (a:X.Γ t),jw.He (X.enc t a)=true
section
variable {X:kP} {P:LI1} {A B:Nat->Prop} {m m':List MB} {h h':List HB} {H H':List (PB X.Γ)}
theorem VR.mono(hAB:∀b,A b->B b){v:PV X.Γ}{x:TV}(hv:VR X P A m h v x):VR X P B m h v x:=by
 induction hv with
 |bool=>exact .bool _
 |lit=>exact .lit _
 |int=>exact .int _ _
 |str=>exact .str _
 |nil=>exact .nil _
 |ptr e=>exact .ptr e
 |aP e=>exact .aP e
 |own e o=>exact .own e o
 |win e q q' q2=>exact .win e q q' q2
 |Cb e=>exact .Cb e
 |Gq e=>exact .Gq e
 |Jh e=>exact .Jh e
 |map e=>exact .map e
 |iter e=>exact .iter e
 |fn h1 _ h3 _ i2 i4=>exact .fn h1 i2 h3 i4
 |kX e=>exact .kX e
 |agg h1 _ i2=>exact .agg h1 i2
 |cO h1 _ i2=>exact .cO h1 i2
 |pK=>exact .pK
 |dJ a c c2 s z o k f e _ ih=>exact .dJ (hAB _ a) c c2 s z o k f e ih
 |el a c l o e q _ ih=>exact .el (hAB _ a) c l o e q ih
 |row e j q=>exact .row e j q
 |gone i e o=>exact .gone i e o
theorem bY.mono(hAB:∀b,A b->B b){v:List (PV X.Γ)}{x:List TV}(hv:bY X P A m h v x):bY X P B m h v x:=⟨hv.1,fun i a b ha hb=>(hv.2 i a b ha hb).mono hAB⟩
theorem fP:∀{vs:List (PV X.Γ)} {i:Nat} {v:PV X.Γ},jw.He vs=true->vs[i]? = some v->jw v=true
 | [],_,_,_,h=>by simp at h
 |a::vs,i,v,hc,h=>by
  simp only[jw.He,a2f]at hc;cases i with
  |zero=>simp only[a2C,a01]at h;subst h;exact hc.1
  |succ i=>exact fP hc.2 (by simpa using h)
theorem VR.jw(hX:bP X P){v:PV X.Γ}{x:TV}(hv:VR X P A m h v x)(hc:Pv.jw v=true):VR X P A m' h v x:=by
 induction hv with
 |bool=>exact .bool _
 |lit=>exact .lit _
 |int=>exact .int _ _
 |str=>exact .str _
 |nil=>exact .nil _
 |fn h1 _ h3 _ i2 i4=>
  simp only[Pv.jw,a2f]at hc;exact .fn h1 (fun i x y hx hy=>i2 i x y hx hy (fP hc.1 hx)) h3 (fun i x y hx hy=>i4 i x y hx hy (fP hc.2 hx))
 |agg h1 _ i2=>
  simp only[Pv.jw]at hc;exact .agg h1 (fun i x y hx hy=>i2 i x y hx hy (fP hc hx))
 |cO h1 _ i2=>
  simp only[Pv.jw]at hc;exact .cO h1 (fun i x y hx hy=>i2 i x y hx hy (fP hc hx))
 |pK=>exact .pK
 |dJ a c c2 s z o k f e _ ih=>exact .dJ a c c2 s z o k f e fun j y i d v h1 h2 h3=>ih j y i d v h1 h2 h3 (fP (hX.jw _ _) h2)
 |el a c l o e q _ ih=>exact .el a c l o e q fun i d v h1 h2=>ih i d v h1 h2 (fP (hX.jw _ _) h1)
 |gone i e o=>rename_i v _ _;cases v<;>simp[bD]at i<;>simp[Pv.jw]at hc
 |_=>simp[Pv.jw]at hc
theorem eF.jw(hX:bP X P){t:Nat}{l:List (X.Γ t)}{cs:List TV}{off sz:Nat}(hv:eF X P A m h t l cs off sz):eF X P A m' h t l cs off sz:=
 ⟨hv.1,hv.2.1,fun j a i c v h1 h2 h3=>(hv.2.2 j a i c v h1 h2 h3).jw hX (fP (hX.jw _ _) h2)⟩
theorem eF.mono(hAB:∀b,A b->B b){t:Nat}{l:List (X.Γ t)}{cs:List TV}{off sz:Nat}(hv:eF X P A m h t l cs off sz):eF X P B m h t l cs off sz:=
 ⟨hv.1,hv.2.1,fun j a i c v h1 h2 h3=>(hv.2.2 j a i c v h1 h2 h3).mono hAB⟩
theorem VR.move(hX:bP X P)(hA:∀q cs,A q->aX h q=some cs->B q∧h'[q]? = h[q]?){v:PV X.Γ}{x:TV}(hv:VR X P A m h v x)(hc:Pv.jw v=true):VR X P B m' h' v x:=by
 induction hv with
 |bool=>exact .bool _
 |lit=>exact .lit _
 |int=>exact .int _ _
 |str=>exact .str _
 |nil=>exact .nil _
 |fn h1 _ h3 _ i2 i4=>
  simp only[Pv.jw,a2f]at hc;exact .fn h1 (fun i x y hx hy=>i2 i x y hx hy (fP hc.1 hx)) h3 (fun i x y hx hy=>i4 i x y hx hy (fP hc.2 hx))
 |agg h1 _ i2=>
  simp only[Pv.jw]at hc;exact .agg h1 (fun i x y hx hy=>i2 i x y hx hy (fP hc hx))
 |cO h1 _ i2=>
  simp only[Pv.jw]at hc;exact .cO h1 (fun i x y hx hy=>i2 i x y hx hy (fP hc hx))
 |pK=>exact .pK
 |dJ a c c2 s z o k f e _ ih=>obtain⟨a',c'⟩:=hA _ _ a c;exact .dJ a' ((gq c').trans c) (fun hl=>(yD c').trans (c2 hl)) s z o k f e fun j y i d v h1 h2 h3=>ih j y i d v h1 h2 h3 (fP (hX.jw _ _) h2)
 |el a c l o e q _ ih=>obtain⟨a',c'⟩:=hA _ _ a (AO c);exact .el a' ((yD c').trans c) l o e q fun i d v h1 h2=>ih i d v h1 h2 (fP (hX.jw _ _) h1)
 |gone i e o=>rename_i v _ _;cases v<;>simp[bD]at i<;>simp[Pv.jw]at hc
 |_=>simp[Pv.jw]at hc
theorem eF.move(hX:bP X P)(hA:∀q cs,A q->aX h q=some cs->B q∧h'[q]? = h[q]?){t:Nat}{l:List (X.Γ t)}{cs:List TV}{off sz:Nat}(hv:eF X P A m h t l cs off sz):eF X P B m' h' t l cs off sz:=
 ⟨hv.1,hv.2.1,fun j a i c v h1 h2 h3=>(hv.2.2 j a i c v h1 h2 h3).move hX hA (fP (hX.jw _ _) h2)⟩
def FA(A:Nat->Prop)(m:List MB)(is:List Nat):Nat->Prop:=fun b=>AA A m b∨∃i mb,i∈is∧m[i]? = some mb∧mb.own=some b
theorem FA.mono{is js:List Nat}(hs:∀i,i∈is->i∈js){b:Nat}(hb:FA A m is b):FA A m js b:=by
 rcases hb with h|⟨i,mb,h1,h2,h3⟩
 .exact .inl h
 exact .inr ⟨i,mb,hs i h1,h2,h3⟩
theorem Oz:∀(is:List Nat) {m:List MB} {i:Nat} {mb:MB},(dw is m)[i]? = some mb->mb.own≠none->i∉is∧m[i]? = some mb
 | [],_,_,_,h,_=>⟨by simp,h⟩
 |j::is,m,i,mb,h,hn=>by
  obtain⟨h1,h2⟩:=Oz is (m:=m.set j .gone) h hn;by_cases e:j=i
  .subst e;rw[a4x]at h2;cases hx:m[j]? with
   |none=>rw[hx]at h2;cases h2
   |some y=>rw[hx]at h2;cases h2;exact absurd rfl hn
  rw[a1l e]at h2;exact⟨by simp[h1,Ne.symm e],h2⟩
theorem AQ{is:List Nat}{m:List MB}{b:Nat}(hb:b∈bC (dw is m)):∃i mb,i∉is∧m[i]? = some mb∧mb.own=some b:=by obtain⟨mb,hm,ho⟩:=a6h.1 hb;obtain⟨i,hi⟩:=a8Y hm;obtain⟨h1,h2⟩:=Oz is hi (by rw[ho];simp);exact⟨i,mb,h1,h2,ho⟩
theorem FA.gone(hr:HR X P A m H h){is:List Nat}{b:Nat}(hb:FA A m is b):AA A (dw is m) b:=by
 rcases hb with hb|⟨i,mb,h1,h2,h3⟩
 .refine⟨hb.1,fun hm=>?_⟩;obtain⟨i,mb,_,h2,h3⟩:=AQ hm;exact hb.2 (bf h2 h3)
 refine⟨hr.Di b (bf h2 h3),fun hm=>?_⟩;obtain⟨j,MI,g1,g2,g3⟩:=AQ hm;have:=je hr.nodup h2 g2 h3 g3;exact g1 (this▸h1)
theorem Si(hX:bP X P)(hr:HR X P A m H h){k ex:Bool}{t i:Nat}{l:List (X.Γ t)}{x:TV}(hl:LR X P (AA A m) m h k ex t l x)(hi:m[i]? = some (.dJ x)){is:List Nat}(hs:i∈is):VR X P (FA A m is) m' h (.dJ t l false) x:=by
 cases hl with
 |nil=>exact .pK
 |emp h0 h1 h2 h3 h4=>exact .dJ (.inl h0) h1 (fun e=>absurd rfl e) h3 h4 (by simpa using h2) (a0E _) (by simp) (fun j a hj=>by simp at hj) (fun j a i c v hj=>by simp at hj)
 |some h1 h2 h3 h4 h5 h6 h7 h8 h9=>
  refine .dJ (cs:=_) (.inr ⟨i,_,hs,hi,?_⟩) (by unfold aX;rw[h4]) (fun _=>wU h4 (by omega)) h2 h3 (by omega) (a0E _) (by simp) h9.1 ?_
  .simp only[MB.own];rw[a0q (by simpa using h1)]
  intro j a q c v e1 e2 e3;exact((h9.2.2 j a q c v e1 e2 e3).mono fun b hb=>.inl hb).jw hX (fP (hX.jw _ _) e2)
theorem VR.part{F:Nat->Prop}{t:Nat}{l:List (X.Γ t)}{fu:Bool}{b off len cap sz:Nat}{ex:Bool}(hv:VR X P F m h (.dJ t l fu) (.aP b off len cap sz ex)){o n cap':Nat}{ex' fu':Bool}(hn:o+n<=len)(hc:n<=cap')(hw:n=0∨o+cap'=cap)(hfu:fu'=true->ex'=true∧cap'=n) :
  VR X P F m h (.dJ t ((l.drop o).take n) fu') (.aP b (off+o*sz) n cap' sz ex'):=by
 cases hv with
 |dJ a c c2 s z ol k f e r=>
  have hlen:((l.drop o).take n).length=n:=by rw[a3K,a3H];omega
  have:=@VR.dJ X P F m h t ((l.drop o).take n) fu' b (off+o*sz) cap' sz ex' _ a c (fun iF=>by
   have h1:n≠0:=fun e=>iF (by subst e;simp);have h2:=hw.resolve_left h1;have h3:off+o*sz+cap'*sz=off+cap*sz:=by rw[<-h2,a3i];omega
   rw[h3];exact c2 (fun e=>by subst e;simp at hlen;omega)) s z (by
   rw[hlen];have:(o+n)*sz<=l.length*sz:=a3w sz hn;rw[a3i]at this;omega) (by rw[hlen];exact hc) (by rw[hlen];exact hfu) (fun j y hy=>by
    rw[a4v]at hy;split at hy
    .rw[a4w]at hy;exact e _ _ hy
    .cases hy) (fun j y i d v hy h2 h3=>by
    rw[a4v]at hy;split at hy
    .rw[a4w]at hy;refine r _ _ i d v hy h2 ?_;rw[<-h3];congr 1;rw[a3i];omega
    .cases hy)
  rwa [hlen]at this
 |gone hi _ _=>simp[bD]at hi
mutual
theorem UF(hX:bP X P)(hr:HR X P A m H h):∀{v w:PV X.Γ} {x:TV},VR X P (AA A m) m h v x->view H v=some w->∀{is:List Nat},(∀i,i∈kG v->i∈is)->VR X P (FA A m is) m' h w x
 |.own i,w,x,hv,hw,is,hs=>by
  simp only[view]at hw;split at hw
  .rename_i k ex t l hH;cases hw;obtain⟨mb,h1,h2⟩:=hr.at_ i _ hH;cases mb with
   |dJ y=>
    cases hv with
    |own e o=>rw[h1]at e;cases e;exact Si hX hr h2 h1 (hs i (by simp[kG]))
    |gone hi e o=>simp only[bD,a01]at hi;subst hi;rw[h1]at e;cases e
   |_=>exact h2.elim
  cases hw
 |.win i o n,w,x,hv,hw,is,hs=>by
  simp only[view]at hw;split at hw
  .rename_i k ex t l hH;cases hw;obtain⟨mb,h1,h2⟩:=hr.at_ i _ hH;cases mb with
   |dJ y=>
    have h2':LR X P (AA A m) m h k ex t l y:=h2;have hfz:VR X P (FA A m is) m' h (.dJ t l false) y:=Si hX hr h2' h1 (hs i (by simp[kG]));cases hv with
    |win e q q' q2=>
     rw[h1]at e;cases e;exact hfz.part q q' q2 (by simp)
    |Cb e=>
     rw[h1]at e;cases e;cases h2' with
     |nil=>simp only[List.drop_nil,List.take_nil];exact .pK
    |gone hi e o=>simp only[bD,a01]at hi;subst hi;rw[h1]at e;cases e
   |_=>exact h2.elim
  cases hw
 |.fn f a c,w,x,hv,hw,is,hs=>by
  simp only[view]at hw;split at hw
  .rename_i a' c' h1 h2;cases hw;cases hv with
   |fn e1 e2 e3 e4=>
    have g1:=lM hX hr ⟨e1,e2⟩ h1 (is:=is) fun i hi=>hs i (by simp[kG,hi]);have g2:=lM hX hr ⟨e3,e4⟩ h2 (is:=is) fun i hi=>hs i (by simp[kG,hi]);exact .fn g1.1 g1.2 g2.1 g2.2
   |gone hi _ _=>simp[bD]at hi
  cases hw
 |.agg cs,w,x,hv,hw,is,hs=>by
  simp only[view,a0i]at hw;obtain⟨cs',h1,rfl⟩:=hw;cases hv with
  |agg e1 e2=>have g1:=lM hX hr ⟨e1,e2⟩ h1 (is:=is) fun i hi=>hs i (by simp[kG,hi]);exact .agg g1.1 g1.2
  |gone hi _ _=>simp[bD]at hi
 |.cO cs,w,x,hv,hw,is,hs=>by
  simp only[view,a0i]at hw;obtain⟨cs',h1,rfl⟩:=hw;cases hv with
  |cO e1 e2=>have g1:=lM hX hr ⟨e1,e2⟩ h1 (is:=is) fun i hi=>hs i (by simp[kG,hi]);exact .cO g1.1 g1.2
  |gone hi _ _=>simp[bD]at hi
 |.bool b,w,x,hv,hw,is,hs=>by simp only[view,a01]at hw;subst hw;exact(hv.mono fun b hb=>.inl hb).jw hX rfl
 |.lit b,w,x,hv,hw,is,hs=>by
  simp only[view,a01]at hw;subst hw;cases hv with
  |lit=>exact .bool _
  |gone hi _ _=>simp[bD]at hi
 |.int k n,w,x,hv,hw,is,hs=>by simp only[view,a01]at hw;subst hw;exact(hv.mono fun b hb=>.inl hb).jw hX rfl
 |.str b,w,x,hv,hw,is,hs=>by simp only[view,a01]at hw;subst hw;exact(hv.mono fun b hb=>.inl hb).jw hX rfl
 |.nil b,w,x,hv,hw,is,hs=>by simp only[view,a01]at hw;subst hw;exact(hv.mono fun b hb=>.inl hb).jw hX rfl
 |.dJ t l f,w,x,hv,hw,is,hs=>by simp only[view,a01]at hw;subst hw;exact(hv.mono fun b hb=>.inl hb).jw hX rfl
 |.ptr _ _ _,w,x,hv,hw,is,hs=>by simp[view]at hw
 |.aP _ _ _ _ _ _,w,x,hv,hw,is,hs=>by simp[view]at hw
 |.map _,w,x,hv,hw,is,hs=>by simp[view]at hw
 |.kX _,w,x,hv,hw,is,hs=>by simp[view]at hw
 |.el _ _ _,w,x,hv,hw,is,hs=>by simp[view]at hw
 |.row _ _ _,w,x,hv,hw,is,hs=>by simp[view]at hw
 |.Gq _,w,x,hv,hw,is,hs=>by simp[view]at hw
theorem lM(hX:bP X P)(hr:HR X P A m H h):∀{vs ws:List (PV X.Γ)} {xs:List TV},bY X P (AA A m) m h vs xs->views H vs=some ws->∀{is:List Nat},(∀i,i∈kG.ku vs->i∈is)->bY X P (FA A m is) m' h ws xs
 | [],ws,xs,hv,hw,is,hs=>by simp only[view.views,a01]at hw;subst hw;rw[hv.inv0];exact .nil
 |v::vs,ws,xs,hv,hw,is,hs=>by
  obtain⟨x,r,rfl,h1,h2⟩:=hv.inv;simp only[view.views]at hw;split at hw
  .rename_i w VT g1 g2;cases hw;exact .cons (UF hX hr h1 g1 fun i hi=>hs i (by simp[kG.ku,hi])) (lM hX hr h2 g2 fun i hi=>hs i (by simp[kG.ku,hi]))
  cases hw
end
end
open Go Tw
section
variable {X:kP} {P:LI1} {A B F:Nat->Prop} {m m':List MB} {h h':List HB} {H H':List (PB X.Γ)}
theorem a1i(hX:bP X P)(hr:HR X P A m H h){t:Nat}{cs:List (PV X.Γ)}{xs:List TV}(hv:bY X P (AA A m) m h cs xs){a:X.Γ t}{is:List Nat}(hd:a9E X H t cs=some (a,is)):bY X P (FA A m is) m' h (X.enc t a) xs:=by
 unfold a9E at hd;split at hd
 .rename_i vs h1;split at hd
  .rename_i b h2;simp only[a01,a0z]at hd;obtain⟨rfl,rfl⟩:=hd;exact hX.dec h2 (lM hX hr hv h1 fun i hi=>hi)
  cases hd
 cases hd
theorem AU(hX:bP X P)(hr:HR X P A m H h){t sz:Nat}:∀{n:Nat} {cs:List (PV X.Γ)} {xs:List TV},bY X P (AA A m) m h cs xs->∀{l:List (X.Γ t)} {is:List Nat},yA X H t sz n cs=some (l,is)->l.length=n∧eF X P (FA A m is) m' h t l xs 0 sz
 | 0,cs,xs,hv,l,is,hd=>by simp only[yA,a01,a0z]at hd;obtain⟨rfl,rfl⟩:=hd;exact⟨rfl,fun j a hj=>by simp at hj,by simp,fun j a i c v hj=>by simp at hj⟩
 |n+1,cs,xs,hv,l,is,hd=>by
  simp only[yA]at hd;split at hd
  rotate_left
  .cases hd
  rename_i vk;split at hd
  rotate_left
  .cases hd
  rename_i a js l' ks h1 h2;simp only[a01,a0z]at hd;obtain⟨rfl,rfl⟩:=hd;have g1:=(a1i (m':=m') hX hr (hv.take sz) h1).mono fun b hb=>FA.mono (js:=js++ks) (fun i hi=>a5j _ hi) hb;obtain⟨e2,g2⟩:=AU hX hr (hv.drop sz) h2;have g2:=g2.mono fun b hb=>FA.mono (js:=js++ks) (fun i hi=>abW _ hi) hb;have hl:(X.enc t a).length=sz:=by rw[g1.1,a3K,<-hv.1];omega
  refine⟨by simp[e2],fun j b hj=>?_,?_,fun j b i c v hj hi hx=>?_⟩
  .cases j with
   |zero=>simp only[a2C,a01]at hj;subst hj;exact hl
   |succ j=>exact g2.1 j b (by simpa using hj)
  .have:=g2.2.1;rw[a3H]at this;have h3:=hv.1;simp only[a4q,a3i];omega
  cases j with
  |zero=>
   simp only[a2C,a01]at hj;subst hj;have aQ:i<sz:=by rw[<-hl];exact(a0a.1 hi).1
   refine g1.2 i c v hi ?_;rw[a4v,a0u aQ,<-hx];simp
  |succ j=>
   refine g2.2.2 j b i c v (by simpa using hj) hi ?_;rw[a4w,<-hx];congr 1;rw[a3i];omega
def SlR(X:kP)(P:LI1)(F:Nat->Prop)(m:List MB)(h:List HB)(t sz:Nat)(l:List (X.Γ t))(x:TV):Prop:=
 (x=.nil .aP∧l=[])∨∃b off cap ex cs,x=.aP b off l.length cap sz ex∧l.length<=cap∧aX h b=some cs∧(l≠[]->mM h b (off+cap*sz)=some cs)∧eF X P F m h t l cs off sz
theorem a1j{t sz:Nat}{l:List (X.Γ t)}{fu:Bool}{x:TV}(hv:VR X P F m h (.dJ t l fu) x)(hz:dH P t=some sz):SlR X P F m h t sz l x:=by
 cases hv with
 |pK=>exact .inl ⟨rfl,rfl⟩
 |dJ a c c2 s z o k f e r=>
  rw[hz]at s;cases s;exact .inr ⟨_,_,_,_,_,rfl,k,c,c2,e,o,r⟩
 |gone hi _ _=>simp[bD]at hi
theorem a6c{k ex:Bool}{t sz:Nat}{l:List (X.Γ t)}{x:TV}(hv:LR X P F m h k ex t l x)(hz:dH P t=some sz):SlR X P F m h t sz l x:=by
 cases hv with
 |nil=>exact .inl ⟨rfl,rfl⟩
 |emp h0 h1 h2 h3 h4=>
  rw[hz]at h3;cases h3;exact .inr ⟨_,_,_,_,_,rfl,a0E _,h1,fun e=>absurd rfl e,fun j a hj=>by simp at hj,by simpa using h2,fun j a i c v hj=>by simp at hj⟩
 |some h1 h2 h3 h4 h5 h6 h7 h8 h9=>
  rw[hz]at h2;cases h2;exact .inr ⟨_,_,_,_,_,rfl,a0E _,by unfold aX;rw[h4],fun _=>wU h4 (by omega),h9⟩
theorem eF.part{t sz:Nat}{l:List (X.Γ t)}{cs:List TV}{off o n:Nat}(hv:eF X P F m h t l cs off sz)(hn:o+n<=l.length):eF X P F m h t ((l.drop o).take n) cs (off+o*sz) sz:=by
 have hlen:((l.drop o).take n).length=n:=by rw[a3K,a3H];omega
 refine⟨fun j y hy=>?_,?_,fun j y i c v hy h2 h3=>?_⟩
 .rw[a4v]at hy;split at hy
  .rw[a4w]at hy;exact hv.1 _ _ hy
  cases hy
 .have:=hv.2.1;have h2:(o+n)*sz<=l.length*sz:=a3w sz hn;rw[hlen];rw[a3i]at h2;omega
 rw[a4v]at hy;split at hy
 .rw[a4w]at hy;refine hv.2.2 _ y i c v hy h2 ?_;rw[<-h3];congr 1;rw[a3i];omega
 cases hy
theorem eF.take{t sz:Nat}{l:List (X.Γ t)}{cs:List TV}{off:Nat}(hv:eF X P F m h t l cs off sz):eF X P F m h t l ((cs.drop off).take (l.length*sz)) 0 sz:=by
 refine⟨hv.1,?_,fun j a i c v h1 h2 h3=>?_⟩
 .have:=hv.2.1;rw[a3K,a3H];omega
 rw[a4v]at h3;split at h3
 .rw[a4w]at h3;exact hv.2.2 j a i c v h1 h2 (by rw[<-h3];congr 1;omega)
 cases h3
theorem SlR.src{t sz:Nat}{l:List (X.Γ t)}{x:TV}(hv:SlR X P F m h t sz l x):∃new,dZ sz h x=some (l.length,new)∧new.length=l.length*sz∧eF X P F m h t l new 0 sz:=by
 rcases hv with⟨rfl,rfl⟩|⟨b,off,cap,ex,cs,rfl,hk,hc,KA,hw⟩
 .exact⟨[],rfl,by simp,fun j a hj=>by simp at hj,by simp,fun j a i c v hj=>by simp at hj⟩
 refine⟨(cs.drop off).take (l.length*sz),?_,?_,hw.take⟩
 .have:=hw.2.1;simp only[dZ,a1I,sub];by_cases h0:l.length=0
  .rw[a0u h0,h0];simp
  rw[a0q h0,KA (fun e=>h0 (by rw[e];rfl))];simp only;rw[a0u this];rfl
 have:=hw.2.1;rw[a3K,a3H];omega
theorem eF.app{t sz:Nat}{l r:List (X.Γ t)}{a b:List TV}(h1:eF X P F m h t l a 0 sz)(h2:eF X P F m h t r b 0 sz)(ha:a.length=l.length*sz):eF X P F m h t (l++r) (a++b) 0 sz:=by
 refine⟨fun j y hy=>?_,?_,fun j y i c v hy hi hx=>?_⟩
 .rcases a4u j l.length with hl|hl
  .rw[a0p hl]at hy;exact h1.1 j y hy
  rw[a0G hl]at hy;exact h2.1 _ y hy
 .have:=h2.2.1;simp only[a1o,a3i];omega
 rcases a4u j l.length with hl|hl
 .rw[a0p hl]at hy;have aQ:i<sz:=by rw[<-h1.1 j y hy];exact(a0a.1 hi).1
  have:(j+1)*sz<=l.length*sz:=a3w sz hl;rw[a3i]at this;rw[a0p (by omega)]at hx;exact h1.2.2 j y i c v hy hi hx
 rw[a0G hl]at hy;have:l.length*sz<=j*sz:=a3w sz hl;rw[a0G (by omega)]at hx;refine h2.2.2 _ y i c v hy hi ?_;rw[<-hx];congr 1;rw[ha,Nat.sub_mul];omega
theorem rG{Γ:Nat->Type}{t t':Nat}{l:List (Γ t')}{r:List (Γ t)}(h:BM t t' l=some r):∃e:t'=t,r=e▸l:=by
 unfold BM at h;split at h
 .rename_i e;cases h;exact⟨e,rfl⟩
 cases h
theorem UG(hX:bP X P)(hr:HR X P A m H h){e sz:Nat}{x:PV X.Γ}{tx:TV}(hv:VR X P (AA A m) m h x tx)(hz:dH P e=some sz){rows:List (X.Γ e)}{is:List Nat}(hs:AB X H e sz x=some (rows,is)) :
  ∃new,dZ sz h tx=some (rows.length,new)∧new.length=rows.length*sz∧eF X P (FA A m is) m' h e rows new 0 sz:=by
 have up:∀{l:List (X.Γ e)} {y:TV},SlR X P (AA A m) m h e sz l y->∃new,dZ sz h y=some (l.length,new)∧new.length=l.length*sz∧eF X P (FA A m []) m' h e l new 0 sz:=by intro l y hy;obtain⟨new,h1,h2,h3⟩:=hy.src;exact⟨new,h1,h2,(h3.mono fun b hb=>.inl hb).jw hX⟩
 cases x with
 |nil k=>
  cases k<;>simp only[AB]at hs<;>try (cases hs;done)
  simp only[a01,a0z]at hs;obtain⟨rfl,rfl⟩:=hs;cases hv with
  |nil=>exact up (.inl ⟨rfl,rfl⟩)
  |gone hi _ _=>simp[bD]at hi
 |dJ t l fu=>
  simp only[AB,a0i,a0z]at hs;obtain⟨r,h1,rfl,rfl⟩:=hs;obtain⟨rfl,rfl⟩:=rG h1;exact up (a1j hv hz)
 |own i=>
  simp only[AB]at hs;split at hs
  .rename_i k ex t l hH;simp only[a0i,a0z]at hs;obtain⟨r,h1,rfl,rfl⟩:=hs;obtain⟨rfl,rfl⟩:=rG h1;obtain⟨mb,g1,g2⟩:=hr.at_ i _ hH;cases mb with
   |dJ y=>
    cases hv with
    |own e' o=>rw[g1]at e';cases e';exact up (a6c g2 hz)
    |gone hi e' o=>simp only[bD,a01]at hi;subst hi;rw[g1]at e';cases e'
   |_=>exact g2.elim
  .cases hs
 |win i o n=>
  simp only[AB]at hs;split at hs
  .rename_i k ex t l hH;simp only[a0i,a0z]at hs;obtain⟨r,h1,rfl,rfl⟩:=hs;obtain⟨rfl,rfl⟩:=rG h1;obtain⟨mb,g1,g2⟩:=hr.at_ i _ hH;cases mb with
   |dJ y=>
    have hsl:=a6c g2 hz;cases hv with
    |win e' q q' q2=>
     rw[g1]at e';cases e';rcases hsl with⟨h,_⟩|⟨b,off,cap,ex',cs,he,hk,hc,KA,hw⟩
     .cases h
     .cases he;have hlen:n=((r.drop o).take n).length:=by rw[a3K,a3H];omega
      refine up (.inr ⟨_,_,_,_,cs,congrArg (fun k=>TV.aP _ _ k _ _ _) hlen,hlen▸q',hc,fun iF=>?_,hw.part q⟩);have h1:n≠0:=fun e=>iF (by subst e;simp);have h2:=q2.resolve_left h1;rw[<-KA (fun e=>iF (by rw[e];simp)),<-h2];congr 1;rw[a3i];omega
    |Cb e'=>
     rw[g1]at e';cases e';refine up (.inl ⟨rfl,by simp⟩)
    |gone hi e' o=>simp only[bD,a01]at hi;subst hi;rw[g1]at e';cases e'
   |_=>exact g2.elim
  .cases hs
 |aP b off len cap sz' ex=>
  simp only[AB]at hs;split at hs
  .rename_i cs hH;split at hs
   .rename_i vk;obtain⟨vk,aeu⟩:=vk;subst vk;obtain⟨mb,g1,g2⟩:=hr.at_ b _ hH;cases mb with
    |gJ c=>
     obtain⟨cs',g3,g4⟩:=g2;cases hv with
     |aP e'=>
      rw[g1]at e';cases e';obtain⟨hl,hw⟩:=AU (m':=m') hX hr (g4.drop off) hs;subst hl;rw[g4.1]at aeu;refine⟨(cs'.drop off).take (rows.length*sz'),?_,by rw[a3K,a3H];omega,by simpa using hw.take⟩;simp only[dZ,a1I,wV g3 (by simp),sub];split
      .rename_i h0;rw[h0,abR,List.take_zero]
      .simp only[aeu,a1I,a0A]
     |gone hi e' o=>simp only[bD,a01]at hi;subst hi;rw[g1]at e';cases e'
    |_=>exact g2.elim
   .cases hs
  .cases hs
 |_=>simp[AB]at hs
end
open Go Tw
def G7(m:List MB)(i b:Nat):Prop:=∃mb,m[i]? = some mb∧mb.own=some b
structure IR(m:List MB)(h:List HB)(p:PI)(t:mJ):Prop where
 all:t.all=true->p.i.all=true
 tl:∀k,.l k∈t.ts->.l k∈p.i.ts
 wl:∀k,.l k∈t.ws->.l k∈p.i.ws
 wh:∀b,.h b∈t.ws->(∃i,.h i∈p.i.ws∧G7 m i b)∨(p.wall=true∧b∈bC m)
 th:∀b,.h b∈t.ts->((∃i,.h i∈p.i.ts∧G7 m i b)∨b∉bC m)∧b<h.length
 hp:p.hp=false->t.all=false∧(∀b,.h b∉t.ts)∧∀b,.h b∉t.ws
theorem IR.none{m:List MB}{h:List HB}{p:PI}:IR m h p cZ:=⟨fun h=>(by cases h),fun _ h=>(by cases h),fun _ h=>(by cases h),fun _ h=>(by cases h),fun _ h=>(by cases h),fun _=>⟨rfl,fun _ h=>(by cases h),fun _ h=>(by cases h)⟩⟩
section
variable {X:kP} {P:LI1} {A F:Nat->Prop} {m m':List MB} {h h':List HB} {H H':List (PB X.Γ)}
structure uY(X:kP)(P:LI1)(A:Nat->Prop)(m:List MB)(ps:aT X.Γ)(ts:St):Prop where
 heap:HR X P A m ps.heap ts.heap
 llen:ps.loc.length=ts.loc.length
 loc:∀(k:Nat) cs,ps.loc[k]? = some cs->∃cs',ts.loc[k]? = some cs'∧bY X P (AA A m) m ts.heap cs cs'
 env:jY X P (AA A m) m ts.heap ps.env ts.env
theorem uY.step{ps:aT X.Γ}{ts:St}(hR:uY X P A m ps ts){H1:List (PB X.Γ)}{h1:List HB}(hr:HR X P A m' H1 h1)(hF:Fr m ts.heap m' h1)(hU:Up m m'):uY X P A m' { ps with heap:=H1 } { ts with heap:=h1 }:=
 ⟨hr,hR.llen,fun k cs hk=>let ⟨cs',g1,g2⟩:=hR.loc k cs hk;⟨cs',g1,g2.step hF hU⟩,hR.env.step hF hU⟩
def OpR(X:kP)(P:LI1)(A:Nat->Prop)(m:List MB)(call:aY)(site:Nat->Bool)(ts:St)(o:Oper)(pe:PE X.Γ)(ps1:aT X.Γ)(pi:PI):Prop:=
 ∃ev iO ti m1,pG P call site ts o=some (ev,iO,ti)∧iO.env=ts.env∧iO.ws=ts.ws∧uY X P A m1 ps1 iO∧IU X P (AA A m1) m1 iO.heap pe ev∧Fr m ts.heap m1 iO.heap∧Up m m1∧IR m ts.heap pi ti∧∀b,.h b∈ti.ws->b∈bC m
theorem uI{call:aY}{site:Nat->Bool}{ps:aT X.Γ}{ts:St}{o:Oper}{pe:PE X.Γ}{ev:EV}{pi:PI}(hR:uY X P A m ps ts)(h:pG P call site ts o=some (ev,ts,cZ))(hp:IU X P (AA A m) m ts.heap pe ev):OpR X P A m call site ts o pe ps pi:=
 ⟨ev,ts,cZ,m,h,rfl,rfl,hR,hp,.refl,.refl,.none,fun b hb=>by cases hb⟩
theorem uY.C9{ps:aT X.Γ}{ts:St}(hR:uY X P A m ps ts){x:Operand}{b:Bool}(hb:qO ts.env x=some (.bool b)):uY X P A m (ps.C9 x b) ts:=by
 cases x with
 |tmp t=>
  refine⟨hR.heap,hR.llen,hR.loc,a9K hR.env ?_⟩;simp only[qO,IJ]at hb;split at hb
  .rename_i v hv;cases hb;exact hv
  cases hb
 |_=>exact hR
theorem Sj{ps:aT X.Γ}{ts:St}(hR:uY X P A m ps ts){site:Bool}{cs:List (PV X.Γ)}{cs':List TV}(hc:bY X P (AA A m) m ts.heap cs cs') :
  ∃m1,(qP site ts cs').2.env=ts.env∧(qP site ts cs').2.ws=ts.ws∧uY X P A m1 (Ee site ps cs).2 (qP site ts cs').2∧IU X P (AA A m1) m1 (qP site ts cs').2.heap (Ee site ps cs).1 (qP site ts cs').1∧Fr m ts.heap m1 (qP site ts cs').2.heap∧Up m m1:=by
 cases site with
 |true=>
  have hp:=hR.heap.push (pb:=.cells cs) (hb:=.cells .own cs') (mb:=.gJ ts.heap.length) (.inl rfl) ?_
  .refine⟨m++[.gJ ts.heap.length],rfl,rfl,hR.step hp.1 hp.2.1 hp.2.2,?_,hp.2.1,hp.2.2⟩;show VR X P _ _ _ (.ptr ps.heap.length 0 cs.length) (.ptr ts.heap.length 0 cs'.length);rw[hc.1];exact .ptr (by rw[<-hR.heap.len];simp)
  .refine⟨cs',by simp,hc.step ?_ (wW _)⟩;refine⟨by simp,fun b hb _=>by rw[a0p hb],fun b hb=>?_,fun b cs hc=>⟨cs,by rw[gq (a0p (fZ hc)),hc],a0E _⟩⟩;rw[jl,a3c,kH]at hb;rcases hb with hb|hb
   .exact .inl hb
   .simp[MB.own]at hb;exact .inr (by omega)
 |false=>
  refine⟨m,rfl,rfl,⟨hR.heap,by simp[Ee,qP,hR.llen],fun k ds hk=>?_,hR.env⟩,?_,.refl,.refl⟩
  .simp only[Ee,qP,a2z,a3l]at hk ⊢;rcases a4u k ps.loc.length with hl|hl
   .rw[a0p hl]at hk;obtain⟨ds',g1,g2⟩:=hR.loc k ds hk;exact⟨ds',by rw[a0p (by rw[<-hR.llen];exact hl)];exact g1,g2⟩
   .rw[a0G hl]at hk;have:k-ps.loc.length=0:=by
     rcases abQ (k-ps.loc.length)with e|e
     .exact e
     .rw[a4r (by simp;omega)]at hk;cases hk
    rw[this]at hk;simp only[a2C,a01]at hk;subst hk;exact⟨cs',by rw[a0G (by rw[<-hR.llen];exact hl),<-hR.llen,this];rfl,hc⟩
  .exact⟨hR.llen,rfl⟩
theorem iP{i:Nat}{mb:MB}{b:Nat}(h1:m[i]? = some mb)(h2:mb.own=some b):G7 m i b:=⟨mb,h1,h2⟩
theorem Zz{i b:Nat}(h:G7 m i b):b∈bC m:=let ⟨_,h1,h2⟩:=h;bf h1 h2
theorem IR.rdH{i b:Nat}(h0:G7 m i b)(hl:b<h.length):IR m h ⟨xP (.h i),false,false,true⟩ (xP (.h b)):=
 ⟨fun h=>(by cases h),fun k hk=>(by simp[xP]at hk),fun k hk=>(by simp[xP]at hk),fun b hb=>(by simp[xP]at hb),fun c hc=>(by simp[xP]at hc;subst hc;exact⟨.inl ⟨i,by simp[xP],h0⟩,hl⟩),fun h=>(by cases h)⟩
theorem IR.wrH{i b:Nat}(h0:G7 m i b)(hl:b<h.length):IR m h ⟨pF (.h i),false,false,true⟩ (pF (.h b)):=
 ⟨fun h=>(by cases h),fun k hk=>(by simp[pF]at hk),fun k hk=>(by simp[pF]at hk),fun c hc=>(by simp[pF]at hc;subst hc;exact .inl ⟨i,by simp[pF],h0⟩),fun c hc=>(by simp[pF]at hc;subst hc;exact⟨.inl ⟨i,by simp[pF],h0⟩,hl⟩),fun h=>(by cases h)⟩
theorem IR.loc{k:Nat}:IR m h ⟨xP (.l k),false,false,false⟩ (xP (.l k)):=
 ⟨fun h=>(by cases h),fun j hj=>by simpa[xP]using hj,fun k hk=>(by simp[xP]at hk),fun b hb=>(by simp[xP]at hb),fun c hc=>(by simp[xP]at hc),fun _=>⟨rfl,fun b hb=>(by simp[xP]at hb),fun b hb=>(by simp[xP]at hb)⟩⟩
theorem IR.ao7{k:Nat}:IR m h ⟨pF (.l k),false,false,false⟩ (pF (.l k)):=
 ⟨fun h=>(by cases h),fun j hj=>by simpa[pF]using hj,fun j hj=>by simpa[pF]using hj,fun c hc=>(by simp[pF]at hc),fun c hc=>(by simp[pF]at hc),fun _=>⟨rfl,fun b hb=>(by simp[pF]at hb),fun b hb=>(by simp[pF]at hb)⟩⟩
theorem WZ{t:LI2}{cs:List TV}{o sz off n:Nat}{x:TV}(ho:o+sz<=cs.length)(hp:uy P t ((cs.drop o).take sz) off=some x)(hn:dH P t=some n):uy P t cs (o+off)=some x∧off+n<=sz∧o+off+n<=cs.length:=by
 unfold uy at hp ⊢;split at hp
 .rename_i k ha hk;rw[hn]at hk;cases hk;simp only[a0i]at hp;obtain⟨r,h1,rfl⟩:=hp;unfold sub at h1;split at h1
  .rename_i hl;rw[a3K,a3H]at hl;refine⟨?_,by omega,by omega⟩;cases h1;simp only[ha,hn,sub];rw[a0u (by omega)];simp only[a0A,a01,TV.agg.injEq];rw[ah9,afv,aeT,a88 (by omega)]
  cases h1
 .rename_i k ha hk;rw[hn]at hk;cases hk;split at hp
  .rename_i h1;subst h1;rw[a4v]at hp;split at hp
   .rename_i h2;rw[a4w]at hp;have:=(a0a.1 hp).1;refine⟨by simp only[ha,hn,a1I];exact hp,by omega,by omega⟩
   cases hp
  cases hp
 cases hp
theorem Sl{t:LI2}{cs:List TV}{off:Nat}{x:TV}(hp:uy P t cs off=some x):∃n,dH P t=some n:=by
 unfold uy at hp;split at hp
 .rename_i n _ hn;exact⟨n,hn⟩
 .rename_i n _ hn;exact⟨n,hn⟩
 cases hp
theorem eF.row{t sz:Nat}{l:List (X.Γ t)}{cs:List TV}{off j:Nat}{a:X.Γ t}(hw:eF X P F m h t l cs off sz)(hj:l[j]? = some a):bY X P F m h (X.enc t a) ((cs.drop (off+j*sz)).take sz)∧off+j*sz+sz<=cs.length:=by
 have hlen:=hw.1 j a hj;have aQ:j<l.length:=(a0a.1 hj).1;have h2:(j+1)*sz<=l.length*sz:=a3w sz aQ;have h3:=hw.2.1;rw[a3i]at h2;refine⟨⟨by rw[hlen,a3K,a3H];omega,fun i c v hc hv=>?_⟩,by omega⟩;rw[a4v]at hv;split at hv
 .rw[a4w]at hv;exact hw.2.2 j a i c v hj hc hv
 cases hv
theorem AV{t:Nat}{l:List (X.Γ t)}{j:Nat}(hj:j<l.length):l[j]? = some (l.getD j (X.d0 t)):=by rw[a4p,a0n hj];rfl
theorem Gy(hX:bP X P){ps:aT X.Γ}{ts:St}(hR:uY X P A m ps ts){t:LI2}{pa:PE X.Γ}{ea:EV}(ha:IU X P (AA A m) m ts.heap pa ea){v:PV X.Γ}{pi:mJ}(hl:AL X P t ps pa=some (v,pi)) :
  ∃x ti,loadT P t ts ea=some (x,ti)∧VR X P (AA A m) m ts.heap v x∧IR m ts.heap ⟨pi,false,false,!Ux pa⟩ ti∧ti.ws=[]:=by
 cases pa with
 |loc k off=>
  rw[Eh ha];simp only[AL]at hl;split at hl
  .rename_i cs hk;simp only[a0i,a0z]at hl;obtain⟨w,h1,rfl,rfl⟩:=hl;obtain⟨cs',g1,g2⟩:=hR.loc k cs hk;obtain⟨x,g3,g4⟩:=AP g2 h1;exact⟨x,xP (.l k),by simp only[loadT,g1,g3,a0A],g4,.loc,rfl⟩
  .cases hl
 |undef|ent|EG=>simp[AL]at hl
 |val a=>
  obtain⟨y,rfl,hy⟩:=gu ha;cases a with
  |ptr b off lim=>
   simp only[AL]at hl;split at hl
   .rename_i cs n hb hn;split at hl
    .rename_i Lh;simp only[a0i,a0z]at hl;obtain⟨w,h1,rfl,rfl⟩:=hl;obtain⟨mb,g1,g2⟩:=hR.heap.at_ b _ hb;cases mb with
     |gJ c=>
      obtain⟨cs',g3,g4⟩:=g2;cases hy with
      |ptr e=>
       rw[g1]at e;cases e;obtain⟨x,g5,g6⟩:=AP g4 h1;refine⟨x,xP (.h c),?_,g6,.rdH (iP g1 rfl) (a0a.1 g3).1,rfl⟩;simp only[loadT,wV g3 (show BK.own≠.last by simp),hn,Lh,a1I,g5,a0A]
      |gone hi e _=>simp only[bD,a01]at hi;subst hi;rw[g1]at e;cases e
     |_=>exact g2.elim
    .cases hl
   .rename_i cs n hb hn;split at hl
    .rename_i Lh;simp only[a0i,a0z]at hl;obtain⟨w,h1,rfl,rfl⟩:=hl;obtain⟨mb,g1,g2⟩:=hR.heap.at_ b _ hb;cases mb with
     |jy c=>
      obtain⟨g0,cs',g3,g4⟩:=g2;cases hy with
      |ptr e=>rw[g1]at e;cases e
      |gone hi e _=>
       simp only[bD,a01]at hi;subst hi;rw[g1]at e;cases e with
       |r _ e=>
        simp only[roV,a01]at e;subst e;obtain⟨x,g5,g6⟩:=AP g4 h1;refine⟨x,xP (.h c),?_,g6,⟨fun h=>(by cases h),fun k hk=>(by simp[xP]at hk),fun k hk=>(by simp[xP]at hk),fun b hb=>(by simp[xP]at hb),fun d hd=>?_,fun h=>(by cases h)⟩,rfl⟩
        .simp only[loadT,wV g3 (show BK.own≠.last by simp),hn,Lh,a1I,g5,a0A]
        .simp[xP]at hd;subst hd;exact⟨.inr g0,(a0a.1 g3).1⟩
     |_=>exact g2.elim
    .cases hl
   .cases hl
  |row b j off=>
   simp only[AL]at hl;split at hl
   .rename_i k ex e l hb;simp only[a0i,a0z]at hl;obtain⟨w,h1,rfl,rfl⟩:=hl;obtain⟨mb,g1,g2⟩:=hR.heap.at_ b _ hb;cases mb with
    |dJ z=>
     cases hy with
     |row e' hj hq=>
      rw[g1]at e';cases e';cases(g2:LR X P _ _ _ _ _ _ _ _)with
      |emp=>omega
      |some q1 q2 q3 q4 q5 q6 q7 q8 q9=>
       have yS:=q9.row (AV hj);obtain⟨x,g5,g6⟩:=AP yS.1 h1;obtain⟨n,hn⟩:=Sl g5;obtain⟨g7,g8,_⟩:=WZ yS.2 g5 hn;rw[a3I]at g7;refine⟨x,xP (.h _),?_,g6,.rdH (iP g1 (by simp only[MB.own];rw[a0q (by simpa using q1)])) (a0a.1 q4).1,rfl⟩;have sD:=yS.2;simp only[loadT,wU q4 q8.symm,hn];rw[a0u (by omega),g7];rfl
     |gone hi e' _=>simp only[bD,a01]at hi;subst hi;rw[g1]at e';cases e'
    |_=>exact g2.elim
   .cases hl
  |el e a off=>
   simp only[AL,a0i,a0z]at hl;obtain⟨w,h1,rfl,rfl⟩:=hl;cases hy with
   |el q1 q2 q2' q3 q4 q5 q6=>
    rename_i b o sz lim cs;have yS:bY X P (AA A m) m ts.heap (X.enc e a) ((cs.drop o).take sz):=by
     refine⟨by rw[q4,a3K,a3H];omega,fun i c v hc hv=>?_⟩;rw[a4v]at hv;split at hv
     .rw[a4w]at hv;exact q6 i c v hc hv
     .cases hv
    obtain⟨x,g5,g6⟩:=AP yS h1;obtain⟨n,hn⟩:=Sl g5;obtain⟨g7,g8,_⟩:=WZ q3 g5 hn;refine⟨x,xP (.h b),?_,g6,⟨fun h=>(by cases h),fun k hk=>(by simp[xP]at hk),fun k hk=>(by simp[xP]at hk),fun b hb=>(by simp[xP]at hb),fun c hc=>?_,fun h=>(by cases h)⟩,rfl⟩
    .simp only[loadT,q2,hn];rw[a0u (by omega),g7];rfl
    .simp[xP]at hc;subst hc;exact⟨.inr q1.2,a3b q2⟩
   |gone hi e' _=>simp[bD]at hi
  |_=>simp[AL]at hl
end
open Go Tw
section
variable {X:kP} {P:LI1} {A F:Nat->Prop} {m m':List MB} {h h':List HB} {H H':List (PB X.Γ)}
theorem OA{cs new:List TV}{o sz off:Nat}{r:List TV}(ho:o+sz<=cs.length)(hr:wC ((cs.drop o).take sz) off new=some r):wC cs (o+off) new=some (cs.take o++r++cs.drop (o+sz))∧r.length=sz:=by
 unfold wC at hr ⊢;split at hr
 rotate_left
 .cases hr
 rename_i hl;have qM:=hl;rw[a3K,a3H]at hl;cases hr;refine⟨?_,?_⟩
 .rw[a0u (by omega)];simp only[a01];apply a9X;intro i;simp only[List.getElem?_append,a1o,a3K,a3H,a4v,a4w];rcases a4u i o with h1|h1
  .simp (disch:=omega) only [a88,a0u]
  rcases a4u i (o+off)with h2|h2
  .rw[a0u (by omega),a0u (by omega),a0u (by omega),a0u (by omega),a0q (by omega),a0u (by omega),a0u (by omega),a0u (by omega),a0u (by omega)];congr 1;omega
  rcases a4u i (o+off+new.length)with h3|h3
  .rw[a0u (by omega),a0q (by omega),a0u (by omega),a0q (by omega),a0u (by omega),a0q (by omega)];congr 1;omega
  rcases a4u i (o+sz)with h4|h4
  .rw[a0q (by omega),a0u (by omega),a0q (by omega),a0q (by omega),a0u (by omega)];congr 1;omega
  rw[a0q (by omega),a0q (by omega)];congr 1;omega
 simp only[a1o,a3K,a3H];omega
theorem eF.set{t sz j:Nat}{l:List (X.Γ t)}{cs r:List TV}{a:X.Γ t}(hw:eF X P F m h t l cs 0 sz)(hr:bY X P F m h (X.enc t a) r)(hl:r.length=sz)(hj:j<l.length) :
  eF X P F m h t (l.set j a) (cs.take (j*sz)++r++cs.drop (j*sz+sz)) 0 sz:=by
 have h2:(j+1)*sz<=l.length*sz:=a3w sz hj;rw[a3i]at h2;have h3:=hw.2.1;refine⟨fun k y hy=>?_,?_,fun k y i c v hy hi hx=>?_⟩
 .rw[a9V]at hy;split at hy
  .cases hy;rw[hr.1,hl]
  .exact hw.1 k y hy
 .simp only[a1o,a3K,a3H,a4F];omega
 .rw[a9V]at hy;split at hy
  .rename_i e;subst e;cases hy;have aQ:i<sz:=by rw[<-hl,<-hr.1];exact(a0a.1 hi).1
   refine hr.2 i c v hi ?_;rw[a0p (by simp only[a1o,a3K];omega),a0G (by rw[a3K];omega),a3K]at hx;rw[<-hx];congr 1;omega
  .rename_i e;have hlen:=hw.1 k y hy;have aQ:i<sz:=by rw[<-hlen];exact(a0a.1 hi).1
   have hk:k<l.length:=(a0a.1 hy).1;refine hw.2.2 k y i c v hy hi ?_;rw[<-hx];rcases a4u k j with h4|h4
   .have:(k+1)*sz<=j*sz:=a3w sz h4;rw[a3i]at this;rw[a0p (by simp only[a1o,a3K];omega),a0p (by rw[a3K];omega),a4v,a0u (by omega)]
   .have h5:j+1<=k:=(by omega);have:(j+1)*sz<=k*sz:=a3w sz h5;rw[a3i]at this;rw[a0G (by simp only[a1o,a3K];omega),a4w];congr 1;simp only[a1o,a3K];omega
theorem KH{b:Nat}{pb:PB X.Γ}:∀{is:List Nat} {H:List (PB X.Γ)},is.contains b=false->bn is (H.set b pb)=(bn is H).set b pb
 | [],_,_=>rfl
 |i::is,H,hn=>by simp only[ahd,a9Q,ah8,ne_eq]at hn;simp only[bn,WT];rw[List.set_comm _ _ hn.1,KH hn.2]
theorem zf(hX:bP X P){ps ps1:aT X.Γ}{ts:St}(hR:uY X P A m ps ts){t:LI2}{pa:PE X.Γ}{ea:EV}(ha:IU X P (AA A m) m ts.heap pa ea){v:PV X.Γ}{x:TV}(hv:VR X P (AA A m) m ts.heap v x){pi:mJ}(hl:Ur X P t ps pa v=some (ps1,pi)) :
  ∃iO ti m1,storeT P t ts ea x=some (iO,ti)∧iO.env=ts.env∧iO.ws=ts.ws∧uY X P A m1 ps1 iO∧Fr m ts.heap m1 iO.heap∧Up m m1∧IR m ts.heap ⟨pi,false,false,!Ux pa⟩ ti∧∀b,.h b∈ti.ws->b∈bC m:=by
 have hc:=Hq hv;unfold Ur at hl;split at hl
 .rename_i n hn;split at hl
  .rename_i NW;have a9L:x.cells.length=n∧x.cells.all jc=true:=⟨by rw[<-hc.1];exact NW.1,by rw[Ef hc];exact NW.2⟩;cases pa with
   |loc k off=>
    rw[Eh ha];simp only at hl;split at hl
    .rename_i cs hk;simp only[a0i,a0z]at hl;obtain⟨MP,h1,rfl,rfl⟩:=hl;obtain⟨cs',g1,g2⟩:=hR.loc k cs hk;obtain⟨Jk,g3,g4⟩:=Ht g2 hc h1;refine⟨{ ts with loc:=ts.loc.set k Jk },pF (.l k),m,?_,rfl,rfl,⟨hR.heap,by simp[hR.llen],fun j ds hj=>?_,hR.env⟩,.refl,.refl,.ao7,fun b hb=>by simp[pF]at hb⟩
     .simp only[storeT,hn,a9L,adg,a1I,g1,g3,a0A]
     .by_cases e:k=j
      .subst e;rw[a4x]at hj;rw[hk]at hj;cases hj;exact⟨Jk,by rw[a4x,g1];rfl,g4⟩
      .rw[a1l e]at hj;obtain⟨ds',q1,q2⟩:=hR.loc j ds hj;exact⟨ds',by rw[a1l e];exact q1,q2⟩
    .cases hl
   |undef|ent|EG=>simp at hl
   |val a=>
    obtain⟨y,rfl,hy⟩:=gu ha;cases a with
    |ptr b off lim=>
     simp only at hl;split at hl
     .rename_i Lh;split at hl
      .rename_i cs hb;simp only[a0i,a0z]at hl;obtain⟨MP,h1,rfl,rfl⟩:=hl;obtain⟨mb,g1,g2⟩:=hR.heap.at_ b _ hb;cases mb with
       |gJ c=>
        obtain⟨cs',g3,g4⟩:=g2;cases hy with
        |ptr e=>
         rw[g1]at e;cases e;obtain⟨Jk,g5,g6⟩:=Ht g4 hc h1;have hlen:Jk.length=cs'.length:=by
          unfold wC at g5;split at g5
          .cases g5;simp only[a1o,a3K,a3H];omega
          .cases g5
         have aQ:=(a0a.1 g3).1;obtain⟨hr1,hF⟩:=hR.heap.set (pb:=.cells MP) (hb:=.cells .own Jk) g1 (c:=c) rfl (fun X3 X4=>⟨Jk,by simp[aX,aQ],by
          simp only[aX,g3,a01]at X4;subst X4;omega⟩) fun hF=>⟨Jk,by simp[aQ],g6.step hF .refl⟩
         refine⟨{ ts with heap:=ts.heap.set c (.cells .own Jk) },pF (.h c),m,?_,rfl,rfl,hR.step hr1 hF .refl,hF,.refl,.wrH (iP g1 rfl) aQ,fun b hb=>?_⟩
         .simp only[storeT,hn,a9L,adg,a1I,Lh,WW g3,g5,a0A]
         .simp[pF]at hb;subst hb;exact bf g1 rfl
        |gone hi e _=>simp only[bD,a01]at hi;subst hi;rw[g1]at e;cases e
       |_=>exact g2.elim
      .cases hl
     .cases hl
    |row b j off=>
     simp only at hl;split at hl
     .rename_i k0 ex e l hb;split at hl
      .rename_i MP h1;split at hl
       .rename_i a is hd;split at hl
        .cases hl
        .rename_i hnb;simp only[a01,a0z]at hl;obtain⟨rfl,rfl⟩:=hl;obtain⟨mb,g1,g2⟩:=hR.heap.at_ b _ hb;cases mb with
         |dJ z=>
          cases hy with
          |row e' hj hq=>
           rw[g1]at e';cases e';cases(g2:LR X P _ _ _ _ _ _ _ _)with
           |emp=>omega
           |some q1 q2 q3 q4 q5 q6 q7 q8 q9=>
            rename_i c sz xx kk cs;obtain⟨BJ,yj,hkr,hko⟩:=Ji q5;have uJ:(MB.dJ (TV.aP c 0 l.length l.length sz xx)).own=some c:=by simp only[MB.own];rw[a0q (by simpa using q1)]
            have yS:=q9.row (AV hj);simp only[a3I]at yS;obtain⟨r,g3,g4⟩:=Ht yS.1 hc h1;obtain⟨g5,g6⟩:=OA yS.2 g3;have ao8:=a1i (m':=dw is m) hX hR.heap g4 hd;have hgo:=hR.heap.bn is;have QD:=iJ (h:=ts.heap) is m;have ain:is.contains b=false:=(by simpa using hnb);have hm1:(dw is m)[b]? = some (.dJ (.aP c 0 l.length l.length sz xx)):=by rw[Hl is g1,ain];rfl
            have aQ:=(a0a.1 q4).1;have QZ:(cs.take (j*sz)++r++cs.drop (j*sz+sz)).length=cs.length:=by simp only[a1o,a3K,a3H];omega
            obtain⟨hr1,hF⟩:=hgo.set (pb:=.list k0 ex e (l.set j a)) (hb:=.cells BJ (cs.take (j*sz)++r++cs.drop (j*sz+sz))) hm1 uJ (fun X3 X4=>⟨cs.take (j*sz)++r++cs.drop (j*sz+sz),by simp[aX,aQ],by
             simp only[aX,q4,a01]at X4;subst X4;omega⟩) fun hF=>by
              have hw:=(q9.step QD.1 QD.2).set (ao8.mono fun b hb=>hb.gone hR.heap) g6 hj;have:=LR.some (X:=X) (P:=P) (A:=AA A (dw is m)) (m:=dw is m) (h:=ts.heap.set c (.cells BJ (cs.take (j*sz)++r++cs.drop (j*sz+sz)))) (k:=k0) (ex:=ex) (t:=e) (l:=l.set j a) (b:=c) (sz:=sz) (e:=xx) (kk:=BJ) (cs:=cs.take (j*sz)++r++cs.drop (j*sz+sz))
               (by intro e0;apply q1;have:=congrArg List.length e0;rw[a4F]at this;exact a6i.1 this) q2 q3 (by simp[aQ]) hkr (fun e0=>hko (q6 e0)) q7 (by rw[QZ,a4F];exact q8) (hw.step hF .refl)
              rw[a4F]at this;exact this
            rw[<-KH ain]at hr1;have WG:=QD.1.trans hF;refine⟨{ ts with heap:=ts.heap.set c (.cells BJ (cs.take (j*sz)++r++cs.drop (j*sz+sz))) },pF (.h c),dw is m,?_,rfl,rfl,hR.step hr1 WG QD.2,WG,QD.2,.wrH (iP g1 uJ) aQ,fun b hb=>?_⟩
            .have h9:j*sz+off+n<=l.length*sz:=by
              have h8:=yS.2;unfold wC at g3;split at g3
              .rename_i h0;rw[a3K,a3H,a9L.1]at h0;omega
              .cases g3
             simp only[storeT,hn,a9L,adg,a1I,h9,a1d q4 yj q8.symm,g5,a0A]
            .simp[pF]at hb;subst hb;exact bf g1 uJ
          |gone hi e' _=>simp only[bD,a01]at hi;subst hi;rw[g1]at e';cases e'
         |_=>exact g2.elim
       .cases hl
      .cases hl
     .cases hl
    |_=>simp at hl
  .cases hl
 .cases hl
end
open Go Tw
section
variable {X:kP} {P:LI1} {A F:Nat->Prop} {m m':List MB} {h h':List HB} {H H':List (PB X.Γ)}
theorem nZ{v:PV X.Γ}{x:TV}(hv:VR X P A m h v x):IU X P A m h (.val v) (.val x):=hv
theorem NR{ps:aT X.Γ}{ts:St}(hR:uY X P A m ps ts){o:Nat}{pa pb:PE X.Γ}{ea:EV}(ha:IU X P (AA A m) m ts.heap pa ea)(hl:Hf X ps o pa=some pb):∃eb,Qq o ea=some eb∧IU X P (AA A m) m ts.heap pb eb:=by
 cases pa with
 |loc k off=>
  rw[Eh ha];simp only[Hf,a01]at hl;subst hl;exact⟨.loc k (off+o),rfl,rfl,rfl⟩
 |undef|ent|EG=>simp[Hf]at hl
 |val a=>
  obtain⟨y,rfl,hy⟩:=gu ha;cases a with
  |ptr b off lim=>
   simp only[Hf]at hl;split at hl
   .rename_i cs hb;split at hl
    .rename_i hle;cases hl;obtain⟨mb,g1,g2⟩:=hR.heap.at_ b _ hb;cases mb with
     |gJ c=>
      cases hy with
      |ptr e=>exact⟨.val (.ptr _ (off+o) lim),by simp only[Qq,hle,a1I],VR.ptr e⟩
      |gone hi e q=>simp only[bD,a01]at hi;subst hi;rw[g1]at e;cases e
     |_=>exact g2.elim
    cases hl
   .rename_i cs hb;split at hl
    .rename_i hle;cases hl;obtain⟨mb,g1,g2⟩:=hR.heap.at_ b _ hb;cases mb with
     |jy c=>
      cases hy with
      |ptr e=>rw[g1]at e;cases e
      |gone hi e q=>
       simp only[bD,a01]at hi;subst hi;rw[g1]at e;cases e with
       |r _ e=>simp only[roV,a01]at e;subst e;exact⟨.val (.ptr _ (off+o) lim),by simp only[Qq,hle,a1I],VR.gone rfl (.ofR g1 rfl) rfl⟩
     |_=>exact g2.elim
    cases hl
   cases hl
  |el t a off=>
   simp only[Hf]at hl;split at hl
   .rename_i hle;cases hl;cases hy with
    |el q1 q2 q2' q3 q4 q5 q6=>
     rename_i b o0 sz lim cs;rw[q4]at hle;refine⟨.val (.ptr b (o0+off+o) lim),by simp only[Qq];rw[a0u (by omega)],?_⟩;rw[aaz];exact VR.el q1 q2 q2' q3 q4 hle q6
    |gone hi _ _=>simp[bD]at hi
   cases hl
  |row b j off=>
   simp only[Hf,ai6]at hl;split at hl
   rotate_left
   .cases hl
   rename_i n hn;split at hn
   rotate_left
   .cases hn
   rename_i k ex e l hb;cases hn;split at hl
   .rename_i hle;cases hl;obtain⟨mb,g1,g2⟩:=hR.heap.at_ b _ hb;cases mb with
    |dJ z=>
     cases hy with
     |row e' hj hq=>
      rw[g1]at e';cases e';cases(g2:LR X P _ _ _ _ _ _ _ _)with
      |emp=>omega
      |some q1 q2 q3 q4 q5 q6 q7 q8 q9=>
       rw[q9.1 j _ (AV hj)]at hle;have yS:=(q9.row (AV hj)).2;refine⟨.val (.ptr _ (j*_+off+o) (l.length*_)),by simp only[Qq];rw[a0u (by omega)],?_⟩;rw[aaz];exact VR.row g1 hj hle
     |gone hi e' _=>simp only[bD,a01]at hi;subst hi;rw[g1]at e';cases e'
    |_=>exact g2.elim
   cases hl
  |_=>simp[Hf]at hl
theorem a9N{ps:aT X.Γ}{ts:St}(hR:uY X P A m ps ts){b:Nat}{k ex:Bool}{e:Nat}{l:List (X.Γ e)}(hb:ps.heap[b]? = some (.list k ex e l)){y:TV}(hy:VR X P (AA A m) m ts.heap (.own b) y)(hl:l≠[]) :
  ∃c sz x,y=.aP c 0 l.length l.length sz x∧m[b]? = some (.dJ y)∧dH P e=some sz∧0<sz:=by
 obtain⟨mb,g1,g2⟩:=hR.heap.at_ b _ hb;cases mb with
 |dJ z=>
  cases hy with
  |own e' o=>
   rw[g1]at e';cases e';cases(g2:LR X P _ _ _ _ _ _ _ _)with
   |nil=>exact absurd rfl hl
   |emp=>exact absurd rfl hl
   |some q1 q2 q3=>exact⟨_,_,_,rfl,g1,q2,q3⟩
  |gone hi e' _=>simp only[bD,a01]at hi;subst hi;rw[g1]at e';cases e'
 |_=>exact g2.elim
theorem Aj{ps:aT X.Γ}{ts:St}(hR:uY X P A m ps ts){t:LI2}{px pb:PE X.Γ}{ex:EV}(hx:IU X P (AA A m) m ts.heap px ex){i:PV X.Γ}{ti:TV}(hi:VR X P (AA A m) m ts.heap i ti){qs:List Prop}(hl:FW X P t ps px i=some (pb,qs))(hq:∀q∈qs,q) :
  ∃eb,mO P t ex ti=some eb∧IU X P (AA A m) m ts.heap pb eb:=by
 have Ue:∀{k:IntKind} {iv:Int} {n:Nat},fF iv n->idx n (.int k iv)=some iv.toNat∧iv.toNat<n:=by intro k iv n hn;unfold fF at hn;refine⟨by simp only[idx];rw[a0u hn],by omega⟩
 have hpi:∀{n j:Nat},a2Y X n i=some j->idx n ti=some j:=by
  intro n j hj;cases i<;>simp only[a2Y]at hj<;>try (cases hj;done)
  cases hi with
  |int=>exact hj
  |gone e _ _=>simp[bD]at e
 unfold FW at hl;split at hl
 .rename_i e hu;split at hl
  .rename_i n t' l fu k iv hn;split at hl
   .rename_i ht;subst ht;simp only[a01,a0z]at hl;obtain⟨rfl,rfl⟩:=hl;have hr:=Ue (k:=k) (hq _ a2M);have:ti=.int k iv:=by
     cases hi with
     |int=>rfl
     |gone e _ _=>simp[bD]at e
    subst this;obtain⟨y,rfl,hy⟩:=gu hx;rcases a1j hy hn with⟨rfl,rfl⟩|⟨b,off,cap,ex',cs,rfl,hk,hc,KA,hw⟩
    .have:=hr.2;simp at this
    .have yS:=hw.row (AV hr.2);have hA:AA A m b:=by
      cases hy with
      |dJ a=>exact a
      |gone e _ _=>simp[bD]at e
     have NW:=KA (by intro e0;rw[e0]at hr;have:=hr.2;simp at this);have hle:off+iv.toNat*n+n<=off+cap*n:=by have h1:(iv.toNat+1)*n<=cap*n:=a3w n (by have:=hr.2;omega);rw[a3i,aa8]at h1;omega
     refine⟨.val (.ptr b (off+iv.toNat*n) (off+cap*n)),?_,?_⟩
     .simp only[mO,hu,hn,a1I,hr.1,a0A]
     .have:=VR.el (X:=X) (P:=P) (A:=AA A m) (m:=m) (h:=ts.heap) (t:=t') (a:=l.getD iv.toNat (X.d0 t')) (off:=0) (o:=off+iv.toNat*n) hA NW hle yS.2 (hw.1 _ _ (AV hr.2)) (a4G _) (fun i c v h1 h2=>hw.2.2 _ _ i c v (AV hr.2) h1 h2);exact nZ (by simpa using this)
   .cases hl
  .rename_i n b k iv hn;split at hl
   .rename_i w ex' t' l hb;split at hl
    .rename_i ht;subst ht;simp only[a01,a0z]at hl;obtain⟨rfl,rfl⟩:=hl;have hr:=Ue (k:=k) (hq _ a2M);have:ti=.int k iv:=by
      cases hi with
      |int=>rfl
      |gone e _ _=>simp[bD]at e
     subst this;obtain⟨y,rfl,hy⟩:=gu hx;obtain⟨c,sz,x',rfl,g1,g2,g3⟩:=a9N hR hb hy (by intro e0;rw[e0]at hr;have:=hr.2;simp at this);rw[hn]at g2;cases g2;refine⟨.val (.ptr c (iv.toNat*n) (l.length*n)),?_,?_⟩
     .simp only[mO,hu,hn,a1I,hr.1,a0A,a3I]
     .have:=VR.row (X:=X) (P:=P) (A:=AA A m) (m:=m) (h:=ts.heap) (off:=0) g1 hr.2 (a4G n);exact nZ (by simpa using this)
    .cases hl
   .cases hl
  .rename_i n b o q k iv hn;split at hl
   .rename_i w ex' t' l hb;split at hl
    .rename_i ht;subst ht;simp only[a01,a0z]at hl;obtain⟨rfl,rfl⟩:=hl;have hr:=Ue (k:=k) (hq _ a2M);have:ti=.int k iv:=by
      cases hi with
      |int=>rfl
      |gone e _ _=>simp[bD]at e
     subst this;obtain⟨y,rfl,hy⟩:=gu hx;obtain⟨mb,g1,g2⟩:=hR.heap.at_ b _ hb;cases mb with
     |dJ z=>
      cases hy with
      |win e' w1 w2 w3=>
       rw[g1]at e';cases e';cases(g2:LR X P _ _ _ _ _ _ _ _)with
       |emp=>have:=hr.2;omega
       |some q1 q2 q3=>
        rw[hn]at q2;cases q2;have hp:=nZ (VR.row (X:=X) (P:=P) (A:=AA A m) (m:=m) (h:=ts.heap) (j:=o+iv.toNat) (off:=0) g1 (by have:=hr.2;omega) (a4G n));refine⟨_,?_,hp⟩;have h3:=w3.resolve_left (by have:=hr.2;omega);simp only[mO,hu,hn,a1I,hr.1,a0A,a3I,a3i,adR,<-h3]
      |Cb e'=>have:=hr.2;omega
      |gone hi e' _=>simp only[bD,a01]at hi;subst hi;rw[g1]at e';cases e'
     |_=>exact g2.elim
    .cases hl
   .cases hl
  .rename_i n b off len cap sz ex' hn;split at hl
   .rename_i cs hb;split at hl
    .rename_i vk;subst vk;simp only[a0i,a0z]at hl;obtain⟨j,h1,rfl,rfl⟩:=hl;obtain⟨y,rfl,hy⟩:=gu hx;obtain⟨mb,g1,g2⟩:=hR.heap.at_ b _ hb;cases mb with
     |gJ c=>
      cases hy with
      |aP e=>
       have:=hpi h1;rw[g1]at e;cases e;exact⟨.val (.ptr c (off+j*n) (off+cap*n)),by simp only[mO,hu,hn,a1I,this,a0A],VR.ptr g1⟩
      |gone wF e' _=>simp only[bD,a01]at wF;subst wF;rw[g1]at e';cases e'
     |_=>exact g2.elim
    .cases hl
   .cases hl
  .cases hl
 .rename_i len e hu;split at hl
  .rename_i n hn;split at hl
   .rename_i j hj;simp only[a0i,a0z]at hl;obtain⟨pa,h1,rfl,rfl⟩:=hl;obtain⟨eb,g1,g2⟩:=NR hR hx h1;exact⟨eb,by simp only[mO,hu,hn,hpi hj,g1],g2⟩
   .cases hl
  .cases hl
 .cases hl
end
open Go Tw
section
variable {X:kP} {P:LI1} {A F:Nat->Prop} {m m':List MB} {h h':List HB} {H H':List (PB X.Γ)}
theorem YR(hr:HR X P A m H h){at_:Array LI2}{x:PV X.Γ}{tx:TV}(hx:VR X P (AA A m) m h x tx){v:PV X.Γ}{pi:mJ}(hl:aek X P at_ H x=some (v,pi)) :
  ∃w ti,YG P at_ h tx=some (w,ti)∧VR X P (AA A m) m h v w∧IR m h ⟨pi,false,false,true⟩ ti∧ti.ws=[]:=by
 unfold aek at hl;split at hl
 .rename_i t ht;unfold YG;simp only[ht];split at hl
  .rename_i s hu;cases hl;cases hx with
   |str=>exact⟨_,_,by first|(simp only[hu];done)|(simp only[hu];rfl),.int _ _,.none,rfl⟩
   |gone hi _ _=>simp[bD]at hi
  .rename_i n e _ hu;cases hl;exact⟨_,_,by first|(simp only[hu];done)|(simp only[hu];rfl),.int _ _,.none,rfl⟩
  .rename_i e b off len cap sz ex hu;split at hl
   .rename_i cs hb;cases hl;obtain⟨mb,g1,g2⟩:=hr.at_ b _ hb;cases mb with
    |gJ c=>
     cases hx with
     |aP e'=>exact⟨_,_,by first|(simp only[hu];done)|(simp only[hu];rfl),.int _ _,.none,rfl⟩
     |gone hi e' _=>simp only[bD,a01]at hi;subst hi;rw[g1]at e';cases e'
    |_=>exact g2.elim
   .cases hl
  .rename_i e hu;cases hl;cases hx with
   |nil=>exact⟨_,_,by first|(simp only[hu];done)|(simp only[hu];rfl),.int _ _,.none,rfl⟩
   |gone hi _ _=>simp[bD]at hi
  .rename_i e t' l fu hu;cases hl;cases hx with
   |pK=>exact⟨_,_,by first|(simp only[hu];done)|(simp only[hu];rfl),.int _ _,.none,rfl⟩
   |dJ=>exact⟨_,_,by first|(simp only[hu];done)|(simp only[hu];rfl),.int _ _,.none,rfl⟩
   |gone hi _ _=>simp[bD]at hi
  .rename_i e b hu;split at hl
   .rename_i k ex t' l hb;cases hl;obtain⟨mb,g1,g2⟩:=hr.at_ b _ hb;cases mb with
    |dJ z=>
     cases hx with
     |own e' _=>
      rw[g1]at e';cases e';cases(g2:LR X P _ _ _ _ _ _ _ _)with
      |nil=>exact⟨_,_,by first|(simp only[hu];done)|(simp only[hu];rfl),.int _ _,.none,rfl⟩
      |emp=>exact⟨_,_,by first|(simp only[hu];done)|(simp only[hu];rfl),.int _ _,.none,rfl⟩
      |some=>exact⟨_,_,by first|(simp only[hu];done)|(simp only[hu];rfl),.int _ _,.none,rfl⟩
     |gone hi e' _=>simp only[bD,a01]at hi;subst hi;rw[g1]at e';cases e'
    |_=>exact g2.elim
   .cases hl
  .rename_i e b o n hu;split at hl
   .rename_i k ex t' l hb;cases hl;obtain⟨mb,g1,g2⟩:=hr.at_ b _ hb;cases mb with
    |dJ z=>
     cases hx with
     |win=>exact⟨_,_,by first|(simp only[hu];done)|(simp only[hu];rfl),.int _ _,.none,rfl⟩
     |Cb=>exact⟨_,_,by first|(simp only[hu];done)|(simp only[hu];rfl),.int _ _,.none,rfl⟩
     |gone hi e' _=>simp only[bD,a01]at hi;subst hi;rw[g1]at e';cases e'
    |_=>exact g2.elim
   .cases hl
  .rename_i kt e hu;cases hl;cases hx with
   |nil=>exact⟨_,_,by first|(simp only[hu];done)|(simp only[hu];rfl),.int _ _,.none,rfl⟩
   |gone hi _ _=>simp[bD]at hi
  .rename_i kt e r hu;split at hl
   .rename_i es hb;cases hl;obtain⟨mb,g1,g2⟩:=hr.at_ r _ hb;cases mb with
    |gJ c=>
     obtain⟨gG,g3,g4,g5⟩:=g2;cases hx with
     |map e'=>
      rw[g1]at e';cases e';exact⟨_,_,by first|(simp only[hu,g3];done)|(simp only[hu,g3];rfl),by rw[g4];exact .int _ _,.rdH (iP g1 rfl) (a0a.1 g3).1,rfl⟩
     |gone hi e' _=>simp only[bD,a01]at hi;subst hi;rw[g1]at e';cases e'
    |_=>exact g2.elim
   .cases hl
  .cases hl
 .cases hl
def a6e:BinOp->Option TV
 |.eql=>some (.bool false)
 |.neq=>some (.bool true)
 |_=>none
theorem YP{op:BinOp}{t:LI2}{x y:Operand}{a b:PV X.Γ}{ta tb:TV}(ha:VR X P A m h a ta)(hb:VR X P A m h b tb){v:PV X.Γ}(hl:ael X P op t x y a b=some v):∃w,sO P op t x y ta tb=some w∧VR X P A m h v w:=by
 unfold ael at hl;split at hl
 .rename_i u w h1 h2;split at hl
  .rename_i r hr;rw[jT ha h1,jT hb h2];exact⟨r,hr,wX hl⟩
  cases hl
 rename_i Yy;split at hl
 rotate_left
 .cases hl
 rename_i hn;have key:∃k,Ku P t=some k∧((ta=.nil k∧Kt tb=some k∧tb.yL=none)∨(tb=.nil k∧Kt ta=some k∧ta.yL=none)):=by
  unfold a1a at hn;split at hn
  rotate_left
  .cases hn
  rename_i k hk;refine⟨k,hk,?_⟩;simp only[a9n,a2f,a6P]at hn;have aio:∀{z:PV X.Γ} {tz:TV},VR X P A m h z tz->z=.nil k->tz=.nil k:=by
   intro z tz hz e;subst e;cases hz with
   |nil=>rfl
   |gone hi _ _=>simp[bD]at hi
  have ac6:∀{z:PV X.Γ} {tz:TV},VR X P A m h z tz->(match z with|.fn _ _ _=>some NK.fn|.el _ _ _=>some NK.ptr|_=>none)=some k->Kt tz=some k∧tz.yL=none:=by
   intro z tz hz e;cases hz with
   |fn=>exact⟨e,rfl⟩
   |el=>exact⟨e,rfl⟩
   |gone hi _ _=>cases z<;>simp[bD]at hi<;>simp at e
   |_=>simp at e
  have aip:∀{z:PV X.Γ},(match z with|.nil k=>some k|_=>none)=some k->z=.nil k:=by
   intro z e;cases z<;>simp at e
   rw[e]
  rcases hn with⟨h1,h2⟩|⟨h1,h2⟩
  .have:=ac6 hb h2;exact .inl ⟨aio ha (aip h1),this.1,this.2⟩
  have:=ac6 ha h1;exact .inr ⟨aio hb (aip h2),this.1,this.2⟩
 obtain⟨k,hk,hc⟩:=key;have aev:sO P op t x y ta tb=a6e op:=by
  rcases hc with⟨rfl,h2,h3⟩|⟨rfl,h2,h3⟩
  .have hnn:CP P t (.nil k) tb=true:=by unfold CP;rw[hk];simp[YH,h2]
   unfold sO;rw[h3];cases(TV.nil k).yL<;>simp only[hnn,a1I]<;>cases op<;>rfl
  have hnn:CP P t ta (.nil k)=true:=by unfold CP;rw[hk];simp[YH,h2]
  unfold sO;rw[h3];simp only[hnn,a1I];cases op<;>rfl
 rw[aev];cases op<;>simp only at hl ⊢<;>try (cases hl;done)
 .cases hl;exact⟨_,rfl,.bool _⟩
 cases hl;exact⟨_,rfl,.bool _⟩
theorem OB{op:BinOp}{t:LI2}{x y:Operand}{b:PV X.Γ}{ta tb:TV}(hb:VR X P A m h b tb){v:PV X.Γ}{q q':Prop}(hl:MG X P op t b q=some (v,q'))(hq:q')(h2:q->Kt ta=some .aP∧ta.yL=none):∃w,sO P op t x y ta tb=some w∧VR X P A m h v w:=by
 unfold MG at hl;split at hl
 .rename_i hk;have h1:tb=.nil .aP:=by
   cases hb with
   |nil=>rfl
   |gone hi _ _=>simp[bD]at hi
  subst h1;have key:q->sO P op t x y ta (.nil .aP)=a6e op:=fun hq=>by
   obtain⟨h2,h3⟩:=h2 hq;have hnn:CP P t ta (.nil .aP)=true:=by unfold CP;rw[hk];simp[YH,h2]
   unfold sO;rw[h3];simp only[hnn,a1I];cases op<;>rfl
  split at hl
  .cases hl;rw[key hq];exact⟨_,rfl,.bool _⟩
  .cases hl;rw[key hq];exact⟨_,rfl,.bool _⟩
  cases hl
 cases hl
theorem a3d(hr:HR X P A m H h){op:BinOp}{t:LI2}{x y:Operand}{a b:PV X.Γ}{ta tb:TV}(ha:VR X P (AA A m) m h a ta)(hb:VR X P (AA A m) m h b tb){v:PV X.Γ}{q:Prop}(hl:Ut X P op t H a b=some (v,q))(hq:q):∃w,sO P op t x y ta tb=some w∧VR X P (AA A m) m h v w:=by
 unfold Ut at hl;split at hl
 .rename_i l fu;refine OB hb hl hq (fun iF=>?_);cases ha with
  |pK=>exact absurd rfl iF
  |dJ=>exact⟨rfl,rfl⟩
  |gone hi _ _=>simp[bD]at hi
 .rename_i i;split at hl
  .rename_i k ex t' l hi;refine OB hb hl hq (fun iF=>?_);obtain⟨mb,g1,g2⟩:=hr.at_ i _ hi;cases ha with
   |own e o=>
    rw[g1]at e;cases e;cases g2 with
    |nil=>exact absurd rfl iF
    |emp=>exact absurd rfl iF
    |some=>exact⟨rfl,rfl⟩
   |gone hi e _=>simp only[bD,a01]at hi;subst hi;rw[g1]at e;cases e<;>exact g2.elim
  cases hl
 cases hl
theorem iZ{op:UnOp}{a:PV X.Γ}{ta:TV}(ha:VR X P A m h a ta){v:PV X.Γ}(hl:pun X P op a=some v):∃w,unT P op ta=some w∧VR X P A m h v w:=by
 unfold pun at hl;split at hl
 .rename_i u h1;split at hl
  .rename_i r hr;rw[jT ha h1];exact⟨r,hr,wX hl⟩
  cases hl
 cases hl
theorem U4{s d:LI2}{a:PV X.Γ}{ta:TV}(ha:VR X P A m h a ta){v:PV X.Γ}(hl:a5N X P s d a=some v):∃w,QS P s d ta=some w∧VR X P A m h v w:=by
 unfold a5N at hl;split at hl
 .rename_i u h1;split at hl
  .rename_i r hr;rw[jT ha h1];exact⟨r,hr,wX hl⟩
  cases hl
 cases hl
theorem zk{mx:Bool}{at_:Array LI2}{t:LI2}{az:List (PV X.Γ)}{ts:List TV}(ha:bY X P A m h az ts){v:PV X.Γ}(hl:MH X P mx at_ t az=some v):∃w,DZ P mx at_ t ts=some w∧VR X P A m h v w:=by
 unfold MH at hl;split at hl
 .rename_i u h1;split at hl
  .rename_i r hr;rw[a1g ha h1];exact⟨r,hr,wX hl⟩
  cases hl
 cases hl
theorem NS{t:LI2}{x:PV X.Γ}{tx:TV}(hx:VR X P A m h x tx){i:Nat}{v:PV X.Γ}(hl:Zq X P t x i=some v):∃w,Ns P t tx i=some w∧VR X P A m h v w:=by
 unfold Zq at hl;split at hl
 .rename_i fs cs hu;split at hl
  .rename_i f hf;cases hx with
   |agg h1 h2=>
    obtain⟨w,g1,g2⟩:=AP ⟨h1,h2⟩ hl;exact⟨w,by simp only[Ns,hu,hf,g1],g2⟩
   |gone hi _ _=>simp[bD]at hi
  cases hl
 cases hl
theorem NT{t:LI2}{x i:PV X.Γ}{tx ti:TV}(hx:VR X P A m h x tx)(hi:VR X P A m h i ti){v:PV X.Γ}(hl:Zr X P t x i=some v):∃w,IW P t tx ti=some w∧VR X P A m h v w:=by
 unfold Zr at hl;split at hl
 .rename_i len e cs hu;split at hl
  .rename_i n j hn hj;have:idx len ti=some j:=by
    cases i<;>simp only[a2Y]at hj<;>try (cases hj;done)
    cases hi with
    |int=>exact hj
    |gone e _ _=>simp[bD]at e
   cases hx with
   |agg h1 h2=>
    obtain⟨w,g1,g2⟩:=AP ⟨h1,h2⟩ hl;exact⟨w,by simp only[IW,hu,hn,this,g1],g2⟩
   |gone hi _ _=>simp[bD]at hi
  cases hl
 cases hl
end
open Go Tw
section
variable {X:kP} {P:LI1} {A F:Nat->Prop} {m m':List MB} {h h':List HB} {H H':List (PB X.Γ)}
theorem Hy:∀{is:List Nat} {H:List (PB X.Γ)} {i:Nat} {pb:PB X.Γ},(bn is H)[i]? = some pb->(i∈is∧pb=.gone)∨(i∉is∧H[i]? = some pb)
 | [],_,_,_,h=>.inr ⟨by simp,h⟩
 |j::is,H,i,pb,h=>by
  rcases Hy (is:=is) (H:=WT j H) h with⟨h1,h2⟩|⟨h1,h2⟩
  .exact .inl ⟨a3h _ h1,h2⟩
  unfold WT at h2;by_cases e:j=i
  .subst e;rw[a4x]at h2;cases hx:H[j]? with
   |none=>rw[hx]at h2;cases h2
   |some y=>rw[hx]at h2;cases h2;exact .inl ⟨a2M,rfl⟩
  rw[a1l e]at h2;exact .inr ⟨by simp[h1,Ne.symm e],h2⟩
theorem lN(hr:HR X P A m H h)(is:List Nat){k ex x:Bool}{e size:Nat}{rows:List (X.Γ e)}{cs:List TV}(hw:eF X P (FA A m is) (dw is m) h e rows cs 0 size)(hc:cs.length=rows.length*size)(hn:rows≠[])(hz:dH P e=some size)(h0:0<size)(hx:ex=true->x=true) :
  ∃m1,HR X P A m1 (bn is H++[.list k ex e rows]) (h++[.cells .own cs])∧Fr m h m1 (h++[.cells .own cs])∧Up m m1∧VR X P (AA A m1) m1 (h++[.cells .own cs]) (.own H.length) (.aP h.length 0 rows.length rows.length size x):=by
 have hgo:=hr.bn is;have QD:=iJ (h:=h) is m;have uJ:(MB.dJ (.aP h.length 0 rows.length rows.length size x)).own=some h.length:=by simp only[MB.own];rw[a0q (by simpa using hn)]
 have hF:Fr (dw is m) h (dw is m++[.dJ (.aP h.length 0 rows.length rows.length size x)]) (h++[.cells .own cs]):=by
  refine⟨by simp,fun b hb _=>by rw[a0p hb],fun b hb=>?_,fun b cs hc=>⟨cs,by rw[gq (a0p (fZ hc)),hc],a0E _⟩⟩;rw[jl,a3c,kH,uJ]at hb;rcases hb with hb|hb
  .exact .inl hb
  .simp at hb;exact .inr (by omega)
 obtain⟨h1,h2,h3⟩:=hgo.push (pb:=.list k ex e rows) (hb:=.cells .own cs) (.inl uJ)
  (LR.some (kk:=.own) hn hz h0 (by simp) (by simp) (fun _=>rfl) hx hc ((hw.mono fun b hb=>hb.gone hr).step hF (wW _)))
 refine⟨_,h1,QD.1.trans h2,QD.2.trans h3,.own ?_ rfl⟩;rw[<-hr.len,<-mX is m];simp
theorem Sm(hr:HR X P A m H h)(is:List Nat){k ex:Bool}{e:Nat}{y:TV}(hy:(MB.dJ y).own=none)(ho:jc y=true)(hl:LR X P (AA A (dw is m++[.dJ y])) (dw is m++[.dJ y]) h k ex e [] y) :
  ∃m1,HR X P A m1 (bn is H++[.list k ex e []]) h∧Fr m h m1 h∧Up m m1∧VR X P (AA A m1) m1 h (.own H.length) y:=by
 have QD:=iJ (h:=h) is m;obtain⟨h1,h2,h3⟩:=(hr.bn is).ac5 (pb:=.list k ex e []) hy hl;refine⟨_,h1,QD.1.trans h2,QD.2.trans h3,.own ?_ ho⟩;rw[<-hr.len,<-mX is m];simp
theorem a9O(hr:HR X P A m H h){is:List Nat}{y:TV}(hy:(MB.dJ y).own=none){b:Nat}(hb:FA A m is b):AA A (dw is m++[.dJ y]) b:=by have:=hb.gone hr;refine⟨this.1,fun hm=>this.2 ?_⟩;rw[jl,a3c,kH,hy]at hm;simpa using hm
theorem push_empty(hr:HR X P A m H h)(is:List Nat){k ex:Bool}{e size b off:Nat}{cs:List TV}(hz:dH P e=some size)(h0:0<size)(ha:FA A m is b)(hb:aX h b=some cs)(ho:off<=cs.length) :
  ∃m1,HR X P A m1 (bn is H++[.list k ex e []]) h∧Fr m h m1 h∧Up m m1∧VR X P (AA A m1) m1 h (.own H.length) (.aP b off 0 0 size true):=
 Sm hr is rfl rfl (LR.emp (a9O hr rfl ha) hb ho hz h0)
theorem OC(hr:HR X P A m H h)(is:List Nat){k ex:Bool}{e:Nat} :
  ∃m1,HR X P A m1 (bn is H++[.list k ex e []]) h∧Fr m h m1 h∧Up m m1∧VR X P (AA A m1) m1 h (.own H.length) (.nil .aP):=
 Sm hr is rfl rfl .nil
theorem OD(hr:HR X P A m H h){b c:Nat}(is:List Nat){mb MI:MB}{pb:PB X.Γ}{h1:List HB}(hb:m[b]? = some mb)(ho:mb.own=some c)(ho':MI.own=some c)(hlen:h1.length=h.length)(hs:∀d,d≠c->h1[d]? = h[d]?)
  (hg:∀cs,aX h c=some cs->∃cs',aX h1 c=some cs'∧cs.length<=cs'.length)
  (qL:Fr m h (dw (b::is) m++[MI]) h1->Up m (dw (b::is) m++[MI])->BR X P (AA A (dw (b::is) m++[MI])) (dw (b::is) m++[MI]) h1 pb MI) :
  ∃m1,m1=dw (b::is) m++[MI]∧HR X P A m1 (bn (b::is) H++[pb]) h1∧Fr m h m1 h1∧Up m m1∧m1[H.length]? = some MI:=by
 have QD:=iJ (h:=h) (b::is) m;have hgo:=hr.bn (b::is);have hnc:c∉bC (dw (b::is) m):=fun hm=>by obtain⟨j,mbj,g1,g2,g3⟩:=AQ hm;have:=je hr.nodup hb g2 ho g3;exact g1 (by rw[<-this];exact a2M)
 have zl:∀d,d∈bC (dw (b::is) m++[MI])↔d∈bC (dw (b::is) m)∨d=c:=by intro d;rw[jl,a3c,kH,ho'];simp
 have EL:c∈bC m:=bf hb ho;have hF:Fr m h (dw (b::is) m++[MI]) h1:=by
  refine⟨by omega,fun d hd hn=>hs d fun e=>hn (e▸EL),fun d hd=>?_,fun d cs hc=>?_⟩
  .rcases(zl d).1 hd with hd|rfl
   .exact QD.1.new d hd
   .exact .inl EL
  .by_cases e:d=c
   .subst e;exact hg cs hc
   .exact⟨cs,by rw[gq (hs d e),hc],a0E _⟩
 have hU:Up m (dw (b::is) m++[MI]):=QD.2.trans (wW _);refine⟨_,rfl,?_,hF,hU,?_⟩
 .refine hr.next hF hU (by simp[mX,nX,hr.len]) ?_ fun i pbi hi=>?_
  .rw[jl,kH,ho'];refine a96.2 ⟨hgo.nodup,by simp,fun a ha b' yu e=>?_⟩;simp at yu;subst yu;subst e;exact hnc ha
  .rcases a4u i (bn (b::is) H).length with aQ|ET
   .rw[a0p aQ]at hi;have a6f:i<(dw (b::is) m).length:=by rw[hgo.len];exact aQ
    rcases Hy hi with⟨e1,rfl⟩|⟨e1,e2⟩
    .obtain⟨mbi,g1,g2⟩:=hgo.at_ i _ hi;cases mbi with
     |gone=>exact .inr ⟨.gone,by rw[a0p a6f];exact g1,trivial⟩
     |_=>exact g2.elim
    .obtain⟨mbi,g1,_⟩:=hr.at_ i _ e2;left;have hm:=Hl (b::is) g1;rw[show(b::is).contains i=false by simpa using e1]at hm;refine⟨mbi,e2,g1,by rw[a0p a6f];simpa using hm,fun d hd=>hs d fun e=>?_⟩;subst e;have:=je hr.nodup hb g1 ho hd;exact e1 (by rw[<-this];exact a2M)
   .rw[a0G ET]at hi;have:i-(bn (b::is) H).length=0:=by
     rcases abQ (i-(bn (b::is) H).length)with h|h
     .exact h
     .rw[a4r (by simp;omega)]at hi;cases hi
    rw[this]at hi;simp only[a2C,a01]at hi;subst hi;exact .inr ⟨MI,by rw[a0G (by rw[hgo.len];exact ET),hgo.len,this];rfl,qL hF hU⟩
 .have:H.length=(dw (b::is) m).length:=by rw[mX,hr.len]
  rw[this];simp
end
open Go Tw
section
variable {X:kP} {P:LI1} {A F:Nat->Prop} {m m':List MB} {h h':List HB} {H H':List (PB X.Γ)}
def X5(X:kP)(P:LI1)(A:Nat->Prop)(m:List MB)(ts:St)(r:Option (TV×St×mJ))(v:PV X.Γ)(H1:List (PB X.Γ))(pi:PI):Prop:=
 ∃w h1 ti m1,r=some (w,{ ts with heap:=h1 },ti)∧HR X P A m1 H1 h1∧VR X P (AA A m1) m1 h1 v w∧Fr m ts.heap m1 h1∧Up m m1∧IR m ts.heap pi ti∧∀b,.h b∈ti.ws->b∈bC m
theorem jU{e:LI2}{n k:Nat}(hb:uh P e n=true)(hk:k<=n):uh P e k=true:=by
 unfold uh at hb ⊢;split at hb
 .rename_i i hi;simp only[a2f,a1n]at hb ⊢;obtain⟨⟨⟨⟨h1,h2⟩,h3⟩,h4⟩,h5⟩:=hb;have:=a3w i.bytes hk;exact⟨⟨⟨⟨by omega,by omega⟩,h3⟩,h4⟩,h5⟩
 cases hb
theorem o7{t e:LI2}{n:Nat}(hs:jL P t=some (e,n)):dH P e=some n∧0<n:=by
 unfold jL at hs;split at hs
 .split at hs
  .rename_i k hk;split at hs
   .cases hs
   rename_i h0;simp only[a01,a0z]at hs;obtain⟨rfl,rfl⟩:=hs;exact⟨hk,by omega⟩
  cases hs
 cases hs
theorem um(hr:HR X P A m H h){e sz:Nat}{x:PV X.Γ}{tx:TV}(hv:VR X P (AA A m) m h x tx)(hz:dH P e=some sz){rows:List (X.Γ e)}{is:List Nat}(hs:AB X H e sz x=some (rows,is)){b:Nat}(hb:.h b∈dF tx):((∃i,.h i∈yU X x∧G7 m i b)∨b∉bC m)∧b<h.length:=by
 have lr:∀{i:Nat} {k ex:Bool} {t:Nat} {l:List (X.Γ t)} {c off len cap s:Nat} {e':Bool},H[i]? = some (.list k ex t l)->m[i]? = some (.dJ (.aP c off len cap s e'))->(G7 m i c∨c∉bC m)∧c<h.length:=by
  intro i k ex t l c off len cap s e' hH hm;obtain⟨mb,g1,g2⟩:=hr.at_ i _ hH;rw[hm]at g1;cases g1;cases(g2:LR X P _ _ _ _ _ _ _ _)with
  |emp h0 h1=>exact⟨.inr h0.2,fZ h1⟩
  |some q1 q2 q3 q4=>exact⟨.inl (iP hm (by simp only[MB.own];rw[a0q (by simpa using q1)])),(a0a.1 q4).1⟩
 cases x with
 |nil k=>
  cases hv with
  |nil=>simp[dF]at hb
  |gone hi _ _=>simp[bD]at hi
 |dJ t l fu=>
  cases hv with
  |pK=>simp[dF]at hb
  |dJ a ac=>simp[dF]at hb;subst hb;exact⟨.inr a.2,fZ ac⟩
  |gone hi _ _=>simp[bD]at hi
 |own i=>
  simp only[AB]at hs;split at hs
  .rename_i k ex t l hH;cases hv with
   |own e' o=>
    cases tx<;>simp[dF]at hb
    subst hb;obtain⟨h1,h2⟩:=lr hH e';rcases h1 with h1|h1
    .exact⟨.inl ⟨i,by simp[yU],h1⟩,h2⟩
    exact⟨.inr h1,h2⟩
   |gone hi e' _=>
    simp only[bD,a01]at hi;subst hi;obtain⟨mb,g1,g2⟩:=hr.at_ i _ hH;rw[g1]at e';cases e'<;>exact g2.elim
  cases hs
 |win i o n=>
  simp only[AB]at hs;split at hs
  .rename_i k ex t l hH;cases hv with
   |win e' q q'=>
    simp[dF]at hb;subst hb;obtain⟨h1,h2⟩:=lr hH e';rcases h1 with h1|h1
    .exact⟨.inl ⟨i,by simp[yU],h1⟩,h2⟩
    exact⟨.inr h1,h2⟩
   |Cb=>simp[dF]at hb
   |gone hi e' _=>
    simp only[bD,a01]at hi;subst hi;obtain⟨mb,g1,g2⟩:=hr.at_ i _ hH;rw[g1]at e';cases e'<;>exact g2.elim
  cases hs
 |aP c off len cap s ex=>
  simp only[AB]at hs;split at hs
  .rename_i cs hH;cases hv with
   |aP e'=>
    simp[dF]at hb;subst hb;obtain⟨mb,g1,g2⟩:=hr.at_ c _ hH;rw[e']at g1;cases g1;exact⟨.inl ⟨c,by simp[yU],iP e' rfl⟩,g2.has rfl⟩
   |gone hi e' _=>
    simp only[bD,a01]at hi;subst hi;obtain⟨mb,g1,g2⟩:=hr.at_ c _ hH;rw[g1]at e';cases e'<;>exact g2.elim
  cases hs
 |_=>simp[AB]at hs
theorem IR.reads{p:PI}{ks:List Key}(hp:p.hp=true)(hk:∀b,.h b∈ks->((∃i,.h i∈p.i.ts∧G7 m i b)∨b∉bC m)∧b<h.length)(hl:∀k,.l k∉ks):IR m h p (fQ ks):=
 ⟨fun h=>(by cases h),fun k h=>absurd h (hl k),fun k h=>(by cases h),fun b h=>(by cases h),hk,fun h=>(by rw[hp]at h;cases h)⟩
theorem lQ{tx:TV}{k:Nat}:Key.l k∉dF tx:=by cases tx<;>simp[dF]
theorem J6(hX:bP X P){ps:aT X.Γ}{ts:St}(hR:uY X P A m ps ts){at_:Array LI2}{d x:PV X.Γ}{td tx:TV}(hd:VR X P (AA A m) m ts.heap d td)(hx:VR X P (AA A m) m ts.heap x tx){v:PV X.Γ}{H1:List (PB X.Γ)}{pi:mJ}{qs:List Prop}
  (hl:Us X P at_ ps.heap d x=some (v,H1,pi,qs)) (hq:∀q∈qs,q):X5 X P A m ts (jm P at_ ts td tx) v H1 ⟨pi,false,false,true⟩:=by
 have hr:=hR.heap;unfold Us at hl;split at hl
 .rename_i st xt uU GI;split at hl
  .cases hl
  .rename_i hint;split at hl
   .rename_i e size yP;split at hl
    .rename_i FH;obtain⟨hz,h0⟩:=o7 yP;split at hl
     .rename_i rows is hs;obtain⟨new,s1,s2,s3⟩:=UG (m':=dw is m) hX hr hx hz hs;have hk0:IR m ts.heap ⟨fQ (yU X x),false,false,true⟩ (fQ (dF tx)):=IR.reads rfl (fun b hb=>um hr hx hz hs hb) fun k=>lQ;have hrn:rows.length=0↔rows=[]:=a6i;split at hl
      .-- nil
       simp only[a01,a0z]at hl;obtain⟨rfl,rfl,rfl,rfl⟩:=hl;have IL:rows.length<=ah:=hq _ a2M;have:td=.nil .aP:=by
        cases hd with
        |nil=>rfl
        |gone hi _ _=>simp[bD]at hi
       subst this;by_cases hn:rows=[]
       .subst hn;obtain⟨m1,g1,g2,g3,g4⟩:=OC hr is (k:=true) (ex:=false) (e:=e);exact⟨_,ts.heap,_,m1,by unfold jm;simp only[uU,GI,hint,a3l,yP,s1,a4O,a1I,a2z],g1,g4,g2,g3,hk0,fun b hb=>by simp[fQ]at hb⟩
       .obtain⟨m1,g1,g2,g3,g4⟩:=lN hr is (k:=true) (ex:=false) (x:=false) s3 s2 hn hz h0 (by simp);refine⟨_,ts.heap++[.cells .own new],_,m1,?_,g1,g4,g2,g3,hk0,fun b hb=>by simp[fQ]at hb⟩;unfold jm;simp only[uU,GI,hint,a3l,yP,s1,a2z,hrn,hn,s2,a1I,jU FH IL]
      .-- an own list
       rename_i b;split at hl
       .rename_i k ex t' l hb;split at hl
        .cases hl
        rename_i hnb;split at hl
        .rename_i l2 Hz;obtain⟨rfl,rfl⟩:=rG Hz;simp only[a01,a0z]at hl;obtain⟨rfl,rfl,rfl,rfl⟩:=hl;have IL:l2.length+rows.length<=ah:=hq _ a2M;obtain⟨mb,g1,g2⟩:=hr.at_ b _ hb;have QX:∀{c:Nat},G7 m b c∨c∉bC m->c<ts.heap.length->IR m ts.heap ⟨⟨false,.h b::yU X x,[.h b]⟩,false,false,true⟩ (fQ (.h c::dF tx)):=fun{c} hc aQ=>IR.reads rfl (fun d hd=>by
          rcases a1F.1 hd with e0|e0
          .cases e0;rcases hc with hc|hc
           .exact⟨.inl ⟨b,a2M,hc⟩,aQ⟩
           .exact⟨.inr hc,aQ⟩
          .obtain⟨h0,h9⟩:=um hr hx hz hs e0;rcases h0 with⟨i,h1,h2⟩|h1
           .exact⟨.inl ⟨i,a3h _ h1,h2⟩,h9⟩
           .exact⟨.inr h1,h9⟩) fun j hj=>by
            rcases a1F.1 hj with e0|e0
            .cases e0
            .exact lQ e0
         have kN:IR m ts.heap ⟨⟨false,.h b::yU X x,[.h b]⟩,false,false,true⟩ (fQ (dF tx)):=IR.reads rfl (fun d hd=>by
          obtain⟨h0,h9⟩:=um hr hx hz hs hd;rcases h0 with⟨i,h1,h2⟩|h1
          .exact⟨.inl ⟨i,a3h _ h1,h2⟩,h9⟩
          .exact⟨.inr h1,h9⟩) fun j hj=>lQ hj
         cases mb with
         |dJ z=>
          cases hd with
          |gone hi e' _=>simp only[bD,a01]at hi;subst hi;rw[g1]at e';cases e'
          |own e' o=>
           rw[g1]at e';cases e';have hlr:LR X P (AA A m) m ts.heap k ex t' l2 td:=g2;have U8:eF X P (FA A m (b::is)) (dw (b::is) m) ts.heap t' rows new 0 size:=(s3.mono fun c hc=>FA.mono (fun i hi=>a3h _ hi) hc).jw hX;cases hlr with
           |nil=>
            simp only[a9c];by_cases hn:rows=[]
            .subst hn;obtain⟨m1,f1,f2,f3,f4⟩:=OC hr (b::is) (k:=k&&ex) (ex:=false) (e:=t');exact⟨_,ts.heap,_,m1,by unfold jm;simp only[uU,GI,hint,a3l,yP,s1,a4O,a1I,a2z],f1,f4,f2,f3,kN,fun c hc=>by simp[fQ]at hc⟩
            .obtain⟨m1,f1,f2,f3,f4⟩:=lN hr (b::is) (k:=k&&ex) (ex:=false) (x:=false) U8 s2 hn hz h0 (by simp);refine⟨_,ts.heap++[.cells .own new],_,m1,?_,f1,f4,f2,f3,kN,fun c hc=>by simp[fQ]at hc⟩;unfold jm;simp only[uU,GI,hint,a3l,yP,s1,a2z,hrn,hn,s2,a1I,jU FH (show rows.length<=ah by omega)]
           |emp p0 p1 p2 p3 p4=>
            rename_i c off sz cs;rw[hz]at p3;cases p3;simp only[a9c];by_cases hn:rows=[]
            .subst hn;obtain⟨m1,f1,f2,f3,f4⟩:=push_empty hr (b::is) (k:=k&&ex) (ex:=false) hz h0 (.inl p0) p1 p2;exact⟨_,ts.heap,_,m1,by unfold jm;simp only[uU,GI,hint,a3l,yP,s1,a4O,a1I,a2z],f1,f4,f2,f3,kN,fun c hc=>by simp[fQ]at hc⟩
            .obtain⟨m1,f1,f2,f3,f4⟩:=lN hr (b::is) (k:=k&&ex) (ex:=false) (x:=false) U8 s2 hn hz h0 (by simp);refine⟨_,ts.heap++[.cells .own new],_,m1,?_,f1,f4,f2,f3,QX (c:=c) (.inr p0.2) (fZ p1),fun c hc=>by simp[fQ]at hc⟩;have nN:dZ size ts.heap (.aP c off 0 0 size true)=some (0,[]):=(by simp[dZ]);unfold jm;simp only[uU,GI,hint,a3l,yP,s1,a2z,hrn,hn,s2,a1I,a3I,Nat.le_zero_eq,jU FH (show rows.length<=ah by omega),nN,a0A,a9c]
           |some p1 p2 p3 p4 p5 p6 p7 p8 p9=>
            rename_i c sz xx kk cs;rw[hz]at p2;cases p2;have uJ:(MB.dJ (TV.aP c 0 l2.length l2.length size xx)).own=some c:=by simp only[MB.own];rw[a0q (by simpa using p1)]
            by_cases hn:rows=[]
            .subst hn;simp only[a5F];obtain⟨m1,f0,f1,f2,f3,f4⟩:=OD (pb:=.list (k&&ex) false t' l2) hr is g1 uJ uJ rfl (fun _ _=>rfl) (fun cs hc=>⟨cs,hc,a0E _⟩) (fun hF hU=>LR.some p1 hz p3 p4 p5 (fun hk=>p6 (by simp at hk;exact hk.1)) (by simp) p8 (p9.step hF hU));exact⟨_,ts.heap,_,m1,by unfold jm;simp only[uU,GI,hint,a3l,yP,s1,a4O,a1I,a2z],f1,.own f4 rfl,f2,f3,kN,fun c hc=>by simp[fQ]at hc⟩
            .have hle:¬l2.length+rows.length<=l2.length:=by have:rows.length≠0:=fun e0=>hn (hrn.1 e0);omega
             have iF:l2++rows≠[]:=(by simp[p1]);cases xx with
             |true=>
              have hold:dZ size ts.heap (.aP c 0 l2.length l2.length size true)=some (l2.length,cs):=by simp only[dZ,a1I];rw[a0q (fun e0=>p1 (a6i.1 e0)),wU p4 (by omega)];simp only[sub];rw[a0u (by omega),ab3,a94 (by omega)];rfl
              have hw1:eF X P (FA A m (b::is)) (dw (b::is) m) ts.heap t' l2 cs 0 size:=(p9.mono fun c hc=>.inl hc).jw hX;obtain⟨m1,f1,f2,f3,f4⟩:=lN hr (b::is) (k:=k&&ex) (ex:=false) (x:=false) (hw1.app U8 p8) (by rw[a1o,a1o,a3i,p8,s2]) iF hz h0 (by simp);refine⟨_,ts.heap++[.cells .own (cs++new)],_,m1,?_,f1,f4,f2,f3,QX (c:=c) (.inl (iP g1 uJ)) (a0a.1 p4).1,fun c hc=>by simp[fQ]at hc⟩;unfold jm;simp only[uU,GI,hint,a3l,yP,s1,a2z,hrn,hn,s2,a1I,hle,jU FH IL,hold,a0A,a1o]
             |false=>
              have hex:ex=false:=by cases ex with
               |true=>exact absurd (p7 rfl) (by simp)
               |false=>rfl
              subst hex;have aQ:=(a0a.1 p4).1;obtain⟨m1,f0,f1,f2,f3,f4⟩:=OD (pb:=.list (k&&false) false t' (l2++rows)) (h1:=ts.heap.set c (.cells kk.more (cs++new))) (MI:=.dJ (.aP c 0 (l2.length+rows.length) (l2.length+rows.length) size false)) hr is g1 uJ
               (by simp only[MB.own];rw[a0q (by omega)]) (by simp) (fun d hd=>a1l (Ne.symm hd)) (fun X3 KA=>⟨cs++new,by simp[aX,aQ],by
                simp only[aX,p4,a01]at KA;subst KA;simp⟩) (fun hF hU=>by
                have QD:=iJ (h:=ts.heap) (b::is) m;have Qw:∀q cs',FA A m is q->aX ts.heap q=some cs'->AA A (dw (b::is) m++[.dJ (.aP c 0 (l2.length+rows.length) (l2.length+rows.length) size false)]) q∧(ts.heap.set c (.cells kk.more (cs++new)))[q]? = ts.heap[q]?:=fun q cs' hq hc=>by
                 have Yx:q≠c:=fun e0=>by
                  subst e0;rcases hq with hq|⟨i,mb,e1,e2,e3⟩
                  .exact hq.2 (bf g1 uJ)
                  .have:=je hr.nodup g1 e2 uJ e3;subst this;exact hnb (by simpa using e1)
                 have hg:=FA.gone hr (FA.mono (js:=b::is) (fun i hi=>a3h _ hi) hq);refine⟨⟨hg.1,fun hm=>?_⟩,a1l (Ne.symm Yx)⟩;rw[jl,a3c,kH]at hm;rcases hm with hm|hm
                 .exact hg.2 hm
                 .simp only[MB.own]at hm;rw[a0q (by omega)]at hm;simp at hm;exact Yx hm
                have:=LR.some (X:=X) (P:=P) (A:=AA A (dw (b::is) m++[.dJ (.aP c 0 (l2.length+rows.length) (l2.length+rows.length) size false)])) (m:=dw (b::is) m++[.dJ (.aP c 0 (l2.length+rows.length) (l2.length+rows.length) size false)]) (h:=ts.heap.set c (.cells kk.more (cs++new))) (k:=k&&false) (ex:=false) (t:=t') (l:=l2++rows) (b:=c) (sz:=size) (e:=false) (kk:=kk.more) (cs:=cs++new)
                 iF hz h0 (by simp[aQ]) (by cases kk<;>simp[BK.more]) (by simp) (by simp) (by rw[a1o,a1o,a3i,p8,s2]) ((p9.step hF hU).app (s3.move hX Qw) p8)
                rw[a1o]at this;exact this)
              refine⟨_,ts.heap.set c (.cells kk.more (cs++new)),⟨false,.h c::dF tx,[.h c]⟩,m1,?_,f1,.own f4 rfl,f2,f3,⟨fun h=>(by cases h),fun j hj=>?_,fun j hj=>(by simp at hj),fun d hd=>?_,fun d hd=>?_,fun h=>(by cases h)⟩,fun d hd=>?_⟩
              .unfold jm;simp only[uU,GI,hint,a3l,yP,s1,a2z,hrn,hn,s2,a1I,hle,jU FH IL,p4,ne_eq,not_true_eq_false,p5,p8,a6i,p1,or_self]
              .rcases a1F.1 hj with e0|e0
               .cases e0
               .exact absurd e0 lQ
              .simp at hd;subst hd;exact .inl ⟨b,by simp,iP g1 uJ⟩
              .rcases a1F.1 hd with e0|e0
               .cases e0;exact⟨.inl ⟨b,a2M,iP g1 uJ⟩,aQ⟩
               .obtain⟨h0,h9⟩:=um hr hx hz hs e0;rcases h0 with⟨i,h1,h2⟩|h1
                .exact⟨.inl ⟨i,a3h _ h1,h2⟩,h9⟩
                .exact⟨.inr h1,h9⟩
              .simp at hd;subst hd;exact bf g1 uJ
         |_=>exact g2.elim
        .cases hl
       .cases hl
      .-- a full frozen list
       rename_i t' l;split at hl
       .rename_i l2 Hz;obtain⟨rfl,rfl⟩:=rG Hz;simp only[a01,a0z]at hl;obtain⟨rfl,rfl,rfl,rfl⟩:=hl;have IL:l2.length+rows.length<=ah:=hq _ a2M;have Gw:l2=[]∨rows≠[]:=hq _ (a3h _ a2M);cases hd with
        |gone hi _ _=>simp[bD]at hi
        |pK=>
         simp only[a9c];by_cases hn:rows=[]
         .subst hn;obtain⟨m1,f1,f2,f3,f4⟩:=OC hr is (k:=true) (ex:=false) (e:=t');exact⟨_,ts.heap,_,m1,by unfold jm;simp only[uU,GI,hint,a3l,yP,s1,a4O,a1I,a2z],f1,f4,f2,f3,hk0,fun c hc=>by simp[fQ]at hc⟩
         .obtain⟨m1,f1,f2,f3,f4⟩:=lN hr is (k:=true) (ex:=false) (x:=false) s3 s2 hn hz h0 (by simp);refine⟨_,ts.heap++[.cells .own new],_,m1,?_,f1,f4,f2,f3,hk0,fun c hc=>by simp[fQ]at hc⟩;unfold jm;simp only[uU,GI,hint,a3l,yP,s1,a2z,hrn,hn,s2,a1I,jU FH (show rows.length<=ah by omega)]
        |dJ p1 p2 p2' p3 p4 p5 p6 p7 p8 p9=>
         rename_i c off cap sz xx cs;rw[hz]at p3;cases p3;obtain⟨rfl,rfl⟩:=p7 rfl;have hk3:IR m ts.heap ⟨fQ (yU X x),false,false,true⟩ (fQ (.h c::dF tx)):=IR.reads rfl (fun d hd=>by
          rcases a1F.1 hd with e0|e0
          .cases e0;exact⟨.inr p1.2,fZ p2⟩
          .exact um hr hx hz hs e0) fun j hj=>by
           rcases a1F.1 hj with e0|e0
           .cases e0
           .exact lQ e0
         by_cases hn:rows=[]
         .have qM:l2=[]:=by rcases Gw with h1|h1;exact h1;exact absurd hn h1
          subst hn;subst qM;obtain⟨m1,f1,f2,f3,f4⟩:=push_empty hr is (k:=true) (ex:=false) hz h0 (.inl p1) p2 (by simpa using p5);exact⟨_,ts.heap,_,m1,by unfold jm;simp only[uU,GI,hint,a3l,yP,s1,a4O,a1I,a2z],f1,f4,f2,f3,hk0,fun c hc=>by simp[fQ]at hc⟩
         .have hle:¬l2.length+rows.length<=l2.length:=by have:rows.length≠0:=fun e0=>hn (hrn.1 e0);omega
          have hw1:eF X P (FA A m is) (dw is m) ts.heap t' l2 ((cs.drop off).take (l2.length*size)) 0 size:=by have hh:eF X P (AA A m) m ts.heap t' l2 cs off size:=⟨p8,p5,p9⟩;exact(hh.take.mono fun c hc=>.inl hc).jw hX
          have hlen:((cs.drop off).take (l2.length*size)).length=l2.length*size:=by rw[a3K,a3H];omega
          obtain⟨m1,f1,f2,f3,f4⟩:=lN hr is (k:=true) (ex:=false) (x:=false) (hw1.app s3 hlen) (by rw[a1o,a1o,a3i,hlen,s2]) (by simp[hn]) hz h0 (by simp);refine⟨_,ts.heap++[.cells .own ((cs.drop off).take (l2.length*size)++new)],_,m1,?_,f1,f4,f2,f3,hk3,fun c hc=>by simp[fQ]at hc⟩;have nN:dZ size ts.heap (.aP c off l2.length l2.length size true)=some (l2.length,(cs.drop off).take (l2.length*size)):=by
           simp only[dZ,a1I,sub];by_cases qM:l2.length=0
           .rw[a0u qM,qM,abR,List.take_zero]
           .rw[a0q qM,p2' (fun e0=>qM (by rw[e0];rfl))];simp only;rw[a0u p5];rfl
          unfold jm;simp only[uU,GI,hint,a3l,yP,s1,a2z,hrn,hn,s2,a1I,hle,jU FH IL,nN,a0A,a1o]
       .cases hl
      .-- a clipped own list
       rename_i b;split at hl
       .rename_i k ex t' l hb;split at hl
        .rename_i l2 Hz;obtain⟨rfl,rfl⟩:=rG Hz;simp only[a01,a0z]at hl;obtain⟨rfl,rfl,rfl,rfl⟩:=hl;have IL:l2.length+rows.length<=ah:=hq _ a2M;have hn:rows≠[]:=hq _ (a3h _ a2M);obtain⟨mb,g1,g2⟩:=hr.at_ b _ hb;have kN:∀d,.h d∈dF tx->((∃i,.h i∈(⟨fQ (.h b::yU X x),false,false,true⟩:PI).i.ts∧G7 m i d)∨d∉bC m)∧d<ts.heap.length:=fun d hd=>by
          obtain⟨h0,h9⟩:=um hr hx hz hs hd;rcases h0 with⟨i,h1,h2⟩|h1
          .exact⟨.inl ⟨i,a3h _ h1,h2⟩,h9⟩
          .exact⟨.inr h1,h9⟩
         have hk3:IR m ts.heap ⟨fQ (.h b::yU X x),false,false,true⟩ (fQ (dF tx)):=IR.reads rfl kN fun j hj=>lQ hj;have QX:∀{c:Nat},G7 m b c∨c∉bC m->c<ts.heap.length->IR m ts.heap ⟨fQ (.h b::yU X x),false,false,true⟩ (fQ (.h c::dF tx)):=fun{c} hc aQ=>IR.reads rfl (fun d hd=>by
          rcases a1F.1 hd with e0|e0
          .cases e0;rcases hc with hc|hc
           .exact⟨.inl ⟨b,a2M,hc⟩,aQ⟩
           .exact⟨.inr hc,aQ⟩
          .exact kN d e0) fun j hj=>by
           rcases a1F.1 hj with e0|e0
           .cases e0
           .exact lQ e0
         cases mb with
         |dJ z=>
          have hlr:LR X P (AA A m) m ts.heap k ex t' l2 z:=g2;cases hd with
          |gone hi e' _=>simp only[bD,a01]at hi;subst hi;rw[g1]at e';cases e'
          |Jh e'=>
           rw[g1]at e';cases e';cases hlr with
           |nil=>
            simp only[a9c];obtain⟨m1,f1,f2,f3,f4⟩:=lN hr is (k:=true) (ex:=false) (x:=false) s3 s2 hn hz h0 (by simp);refine⟨_,ts.heap++[.cells .own new],_,m1,?_,f1,f4,f2,f3,hk3,fun c hc=>by simp[fQ]at hc⟩;unfold jm;simp only[uU,GI,hint,a3l,yP,s1,a2z,hrn,hn,s2,a1I,jU FH (show rows.length<=ah by omega)]
          |Gq e'=>
           rw[g1]at e';cases e';cases hlr with
           |emp p0 p1 p2 p3 p4=>
            rename_i c off sz cs;rw[hz]at p3;cases p3;simp only[a9c];obtain⟨m1,f1,f2,f3,f4⟩:=lN hr is (k:=true) (ex:=false) (x:=false) s3 s2 hn hz h0 (by simp);refine⟨_,ts.heap++[.cells .own new],_,m1,?_,f1,f4,f2,f3,QX (c:=c) (.inr p0.2) (fZ p1),fun c hc=>by simp[fQ]at hc⟩;have nN:dZ size ts.heap (.aP c off 0 0 size true)=some (0,[]):=(by simp[dZ]);unfold jm;simp only[uU,GI,hint,a3l,yP,s1,a2z,hrn,hn,s2,a1I,a3I,Nat.le_zero_eq,jU FH (show rows.length<=ah by omega),nN,a0A,a9c]
           |some p1 p2 p3 p4 p5 p6 p7 p8 p9=>
            rename_i c sz xx kk cs;rw[hz]at p2;cases p2;have uJ:(MB.dJ (TV.aP c 0 l2.length l2.length size xx)).own=some c:=by simp only[MB.own];rw[a0q (by simpa using p1)]
            have hle:¬l2.length+rows.length<=l2.length:=by have:rows.length≠0:=fun e0=>hn (hrn.1 e0);omega
            have iF:l2++rows≠[]:=(by simp[p1]);have hold:dZ size ts.heap (.aP c 0 l2.length l2.length size true)=some (l2.length,cs):=by simp only[dZ,a1I];rw[a0q (fun e0=>p1 (a6i.1 e0)),wU p4 (by omega)];simp only[sub];rw[a0u (by omega),ab3,a94 (by omega)];rfl
            have hw1:eF X P (FA A m is) (dw is m) ts.heap t' l2 cs 0 size:=(p9.mono fun c hc=>.inl hc).jw hX;obtain⟨m1,f1,f2,f3,f4⟩:=lN hr is (k:=true) (ex:=false) (x:=false) (hw1.app s3 p8) (by rw[a1o,a1o,a3i,p8,s2]) iF hz h0 (by simp);refine⟨_,ts.heap++[.cells .own (cs++new)],_,m1,?_,f1,f4,f2,f3,QX (c:=c) (.inl (iP g1 uJ)) (a0a.1 p4).1,fun c hc=>by simp[fQ]at hc⟩;unfold jm;simp only[uU,GI,hint,a3l,yP,s1,a2z,hrn,hn,s2,a1I,hle,jU FH IL,hold,a0A,a1o]
         |_=>exact g2.elim
        .cases hl
       .cases hl
      .cases hl
     .cases hl
    .cases hl
   .cases hl
 .cases hl
end
open Go Tw
theorem X6{α:Type}{l rows:List α}{o k:Nat}(h:o+k<=l.length)(hk:k<=rows.length):(Ot l o k rows).length=l.length:=by unfold Ot;simp;omega
theorem a3e{α:Type}{l rows:List α}{o:Nat}:Ot l o 0 rows=l:=by unfold Ot;simp
section
variable {X:kP} {P:LI1} {A F:Nat->Prop} {m m':List MB} {h h':List HB} {H H':List (PB X.Γ)}
theorem eF.put{t sz o k:Nat}{l rows:List (X.Γ t)}{cs new:List TV}(h1:eF X P F m h t l cs 0 sz)(h2:eF X P F m h t rows new 0 sz)(hc:cs.length=l.length*sz)(hn:new.length=rows.length*sz)(ho:o+k<=l.length)(hk:k<=rows.length) :
  eF X P F m h t (Ot l o k rows) (cs.take (o*sz)++new.take (k*sz)++cs.drop (o*sz+k*sz)) 0 sz:=by
 have a1:=(h1.part (o:=0) (n:=o) (by omega)).take;have a2:=(h2.part (o:=0) (n:=k) (by omega)).take;have a3:=(h1.part (o:=o+k) (n:=l.length-(o+k)) (by omega)).take;have l1:((l.drop 0).take o).length=o:=by simp;omega
 have l2:((rows.drop 0).take k).length=k:=by simp;omega
 have l3:((l.drop (o+k)).take (l.length-(o+k))).length=l.length-(o+k):=by simp
 rw[l1]at a1;rw[l2]at a2;rw[l3]at a3;simp only[abR,adR,a3I,ab3]at a1 a2 a3;have m1:o*sz<=cs.length:=by rw[hc];exact a3w _ (by omega)
 have m2:k*sz<=new.length:=by rw[hn];exact a3w _ hk
 have r:=(a1.app a2 (by rw[a3K,a3K];rw[a88 m1,a88 (by omega)])).app a3 (by simp only[a1o,a3K];rw[a88 m1,a88 m2,a88 (by omega),a88 hk,a3i])
 have e1:l.drop (o+k)=(l.drop (o+k)).take (l.length-(o+k)):=by rw[a94 (by simp)]
 have e2:cs.drop (o*sz+k*sz)=(cs.drop ((o+k)*sz)).take ((l.length-(o+k))*sz):=by rw[a3i,a94];rw[a3H,hc,Nat.sub_mul,a3i];omega
 unfold Ot;rw[e1,e2];exact r
theorem Ei(hX:bP X P){ps:aT X.Γ}{ts:St}(hR:uY X P A m ps ts){at_:Array LI2}{st e size b o n:Nat}{k0 ex:Bool}{l rows:List (X.Γ e)}{x:PV X.Γ}{td tx:TV}(uU:at_[0]? = some st)(yP:jL P st=some (e,size))(hx:VR X P (AA A m) m ts.heap x tx)
  (hs:AB X ps.heap e size x=some (rows,[])) (hb:ps.heap[b]? = some (.list k0 ex e l)) {mb:MB} (g1:m[b]? = some mb) (g2:BR X P (AA A m) m ts.heap (.list k0 ex e l) mb)
  (htd:(∃c sz' xx' xx cap,mb=.dJ (.aP c 0 l.length l.length sz' xx')∧l≠[]∧td=.aP c (o*sz') n cap sz' xx∧(n=0∨o+cap=l.length))∨(n=0∧(td=.nil .aP∨∃c f cap xx,td=.aP c f 0 cap size xx))) (hon:o+n<=l.length) (NY:isStr tx=false) :
  X5 X P A m ts (Gu P at_ ts td tx) (.int .i64 ((min rows.length n:Nat):Int)) (ps.heap.set b (.list k0 ex e (Ot l o (min rows.length n) rows))) ⟨⟨false,.h b::yU X x,[.h b]⟩,false,false,true⟩:=by
 have hr:=hR.heap;obtain⟨hz,h0⟩:=o7 yP;obtain⟨new,s1,s2,s3⟩:=UG (m':=m) hX hr hx hz hs;have U8:eF X P (AA A m) m ts.heap e rows new 0 size:=s3.mono fun q hq=>by
  rcases hq with hq|⟨i,_,hi,_⟩
  .exact hq
  .simp at hi
 have kN:IR m ts.heap ⟨⟨false,.h b::yU X x,[.h b]⟩,false,false,true⟩ (fQ (dF tx)):=IR.reads rfl (fun d hd=>by
  obtain⟨h0,h9⟩:=um hr hx hz hs hd;rcases h0 with⟨i,h1,h2⟩|h1
  .exact⟨.inl ⟨i,a3h _ h1,h2⟩,h9⟩
  .exact⟨.inr h1,h9⟩) fun j hj=>lQ hj
 have same:ps.heap.set b (.list k0 ex e l)=ps.heap:=by
  apply a9X;intro i;by_cases e:b=i
  .subst e;rw[a1E (a0a.1 hb).1,hb]
  .rw[a1l e]
 by_cases hk:min rows.length n=0
 .rw[hk,a3e,same];refine⟨.int .i64 0,ts.heap,fQ (dF tx),m,?_,hr,.int _ _,.refl,.refl,kN,fun c hc=>by simp[fQ]at hc⟩;unfold Gu;simp only[uU,yP,s1,s2,NY,adg,a1I];rcases htd with⟨c,sz',xx',xx,cap,rfl,iF,rfl,wL⟩|⟨rfl,rfl|⟨c,f,cap,xx,rfl⟩⟩
  .have:sz'=size:=by cases g2 with|some _ q2 _ _ _ _ _ _ _=>rw[hz]at q2;cases q2;rfl|emp=>exact absurd rfl iF
   simp only[this,a1I,hk]
  .rfl
  .simp only[a1I,hk]
 .rcases htd with⟨c,sz',xx',xx,cap,rfl,iF,rfl,wL⟩|⟨rfl,_⟩
  .cases g2 with
   |emp=>exact absurd rfl iF
   |some p1 p2 p3 p4 p5 p6 p7 p8 p9=>
    rename_i kk cs;rw[hz]at p2;cases p2;obtain⟨BJ,yj,aex,hko⟩:=Ji p5;have air:o*size+cap*size=cs.length:=by have:=wL.resolve_left (by omega);rw[p8,<-this,a3i]
    have aQ:=(a0a.1 p4).1;have uJ:(MB.dJ (TV.aP c 0 l.length l.length size xx')).own=some c:=by simp only[MB.own];rw[a0q (by simpa using p1)]
    have hkn:o+min rows.length n<=l.length:=(by omega);have hkr:min rows.length n<=rows.length:=Nat.min_le_left _ _;have m1:o*size+min rows.length n*size<=cs.length:=by rw[p8,<-a3i];exact a3w _ hkn
    have m2:min rows.length n*size<=new.length:=by rw[s2];exact a3w _ hkr
    have m3:min (min rows.length n*size) (rows.length*size)=min rows.length n*size:=a88 (by rw[<-s2];exact m2);have aob:=eF.put p9 U8 p8 s2 hkn hkr;have pV:(cs.take (o*size)++new.take (min rows.length n*size)++cs.drop (o*size+min rows.length n*size)).length=cs.length:=by simp;omega
    have hl:=X6 (rows:=rows) hkn hkr;obtain⟨q1,q2⟩:=hr.set (i:=b) (c:=c) (pb:=.list k0 ex e (Ot l o (min rows.length n) rows)) (hb:=.cells BJ (cs.take (o*size)++new.take (min rows.length n*size)++cs.drop (o*size+min rows.length n*size))) g1 uJ
     (fun X3 KA=>⟨_,by simp only[aX];rw[a1E aQ],by
      simp only[aX,p4,a01]at KA;subst KA;rw[pV];exact a0E _⟩)
     (fun hF=>by
      have ahx:Ot l o (min rows.length n) rows≠[]:=fun e0=>by rw[e0]at hl;simp at hl;exact p1 (a6i.1 hl.symm)
      have r:=LR.some (k:=k0) (ex:=ex) (e:=xx') ahx hz p3 (by rw[a1E aQ]) aex (fun e0=>hko (p6 e0)) p7 (by rw[pV,hl,p8]) (aob.step hF .refl);rw[hl]at r;exact r)
    refine⟨.int .i64 ((min rows.length n:Nat):Int),_,⟨false,.h c::dF tx,[.h c]⟩,m,?_,q1,.int _ _,q2,.refl,?_,fun d hd=>?_⟩
    .unfold Gu;simp only[uU,yP,s1,s2,NY,adg,a1I,hk,a3l,a1d p4 yj air,wC,a3K,m3,m1,a0A]
    .refine⟨fun h=>(by cases h),fun k hk=>?_,fun k hk=>(by simp at hk),fun d hd=>?_,fun d hd=>?_,fun h=>(by cases h)⟩
     .rcases a1F.1 hk with e0|e0
      .cases e0
      .exact absurd e0 lQ
     .simp at hd;subst hd;exact .inl ⟨b,a2M,iP g1 uJ⟩
     .rcases a1F.1 hd with e0|e0
      .cases e0;exact⟨.inl ⟨b,a2M,iP g1 uJ⟩,aQ⟩
      .obtain⟨h0,h9⟩:=um hr hx hz hs e0;rcases h0 with⟨i,h1,h2⟩|h1
       .exact⟨.inl ⟨i,a3h _ h1,h2⟩,h9⟩
       .exact⟨.inr h1,h9⟩
    .simp at hd;subst hd;exact bf g1 uJ
  .simp at hk
theorem a6g(hr:HR X P A m H h){e sz:Nat}{x:PV X.Γ}{tx:TV}(hv:VR X P (AA A m) m h x tx){rows:List (X.Γ e)}{is:List Nat}(hs:AB X H e sz x=some (rows,is)):isStr tx=false:=by
 cases hv with
 |own e' _=>
  unfold AB at hs;simp only at hs;split at hs
  .rename_i hb;obtain⟨mb,g1,g2⟩:=hr.at_ _ _ hb;rw[e']at g1;cases g1;cases g2<;>rfl
  cases hs
 |gone hi e' _=>
  cases x<;>simp only[bD,a01]at hi<;>first|cases hi|skip
  all_goals (unfold AB at hs;simp only at hs)
  all_goals first|(cases hs;done)|skip
  all_goals
   split at hs
   .rename_i hb;obtain⟨mb,g1,g2⟩:=hr.at_ _ _ hb;rw[g1]at e';cases e'<;>exact g2.elim
   .cases hs
 |str=>simp[AB]at hs
 |_=>rfl
theorem eF.vrs{t sz:Nat}:∀{l:List (X.Γ t)} {cs:List TV},eF X P F m h t l cs 0 sz->cs.length=l.length*sz->bY X P F m h (EK X t l) cs
 | [],cs,_,hl=>by have:cs=[]:=a6i.1 (by simpa using hl);subst this;exact .nil
 |a::r,cs,hw,hl=>by
  have h1:=hw.row (j:=0) (a:=a) rfl;have h2:=(hw.part (o:=1) (n:=r.length) (by simp;omega)).take;have e1:((a::r).drop 1).take r.length=r:=by simp
  rw[e1]at h2;have hl':cs.length=r.length*sz+sz:=by rw[hl,a4q,a3i,aa8]
  have e2:(cs.drop (0+1*sz)).take (r.length*sz)=cs.drop sz:=by rw[a3I,aa8,a94];rw[a3H];omega
  rw[e2]at h2;have h3:=eF.vrs h2 (by rw[a3H];omega);have h4:bY X P F m h (X.enc t a) (cs.take sz):=by have:=h1.1;simpa using this
  have:=h4.app h3;rw[List.take_append_drop]at this;exact this
theorem U9(hX:bP X P){ps:aT X.Γ}{ts:St}(hR:uY X P A m ps ts){at_:Array LI2}{d x:PV X.Γ}{td tx:TV}(hd:VR X P (AA A m) m ts.heap d td)(hx:VR X P (AA A m) m ts.heap x tx){v:PV X.Γ}{H1:List (PB X.Γ)}{pi:mJ}
  (hl:a5M X P at_ ps.heap d x=some (v,H1,pi)):X5 X P A m ts (Gu P at_ ts td tx) v H1 ⟨pi,false,false,true⟩:=by
 have hr:=hR.heap;unfold a5M at hl;split at hl
 .rename_i st uU;split at hl
  .rename_i e size yP;obtain⟨hz,h0⟩:=o7 yP;split at hl
   .rename_i rows hs;obtain⟨new,s1,s2,s3⟩:=UG (m':=m) hX hr hx hz hs;have NY:isStr tx=false:=a6g hr hx hs;split at hl
    .simp only[a01,a0z]at hl;obtain⟨rfl,rfl,rfl⟩:=hl;have:td=.nil .aP:=by
      cases hd with
      |nil=>rfl
      |gone hi _ _=>simp[bD]at hi
     subst this;exact⟨_,ts.heap,_,m,by unfold Gu;simp only[uU,yP,s1,s2,NY,adg,a1I],hr,.int _ _,.refl,.refl,IR.reads rfl (fun b hb=>um hr hx hz hs hb) fun k=>lQ,fun b hb=>by simp[fQ]at hb⟩
    .rename_i b;split at hl
     .rename_i k0 ex t' l hb;split at hl
      .rename_i l2 Hz;obtain⟨rfl,rfl⟩:=rG Hz;simp only[a01,a0z]at hl;obtain⟨rfl,rfl,rfl⟩:=hl;obtain⟨mb,g1,g2⟩:=hr.at_ b _ hb;refine Ei (o:=0) (n:=l2.length) hX hR uU yP hx hs hb g1 g2 ?_ (by omega) NY;cases hd with
       |gone hi e' _=>simp only[bD,a01]at hi;subst hi;rw[g1]at e';cases e'<;>exact g2.elim
       |own e' o=>
        rw[g1]at e';cases e';cases g2 with
        |nil=>exact .inr ⟨rfl,.inl rfl⟩
        |emp q1 q2 q3 q4 q5=>rw[hz]at q4;cases q4;exact .inr ⟨rfl,.inr ⟨_,_,_,_,rfl⟩⟩
        |some q1 q2=>rw[hz]at q2;cases q2;exact .inl ⟨_,_,_,_,_,rfl,q1,by rw[abR],.inr (a3I _)⟩
      .cases hl
     .cases hl
    .rename_i b o n;split at hl
     .rename_i k0 ex t' l hb;split at hl
      .rename_i l2 Hz;obtain⟨rfl,rfl⟩:=rG Hz;simp only[a01,a0z]at hl;obtain⟨rfl,rfl,rfl⟩:=hl;obtain⟨mb,g1,g2⟩:=hr.at_ b _ hb;cases hd with
       |gone hi e' _=>simp only[bD,a01]at hi;subst hi;rw[g1]at e';cases e'<;>exact g2.elim
       |win e' o1 o2 o3=>
        rw[g1]at e';cases e';cases g2 with
        |emp q1 q2 q3 q4 q5=>
         rw[hz]at q4;cases q4;have:n=0:=(by omega);subst this;exact Ei hX hR uU yP hx hs hb g1 (LR.emp q1 q2 q3 hz q5) (.inr ⟨rfl,.inr ⟨_,_,_,_,rfl⟩⟩) o1 NY
        |some q1 q2 q3 q4 q5 q6 q7 q8 q9=>exact Ei hX hR uU yP hx hs hb g1 (LR.some q1 q2 q3 q4 q5 q6 q7 q8 q9) (.inl ⟨_,_,_,_,_,rfl,q1,by rw[a3I],o3⟩) o1 NY
       |Cb e'=>
        rw[g1]at e';cases e';exact Ei hX hR uU yP hx hs hb g1 g2 (.inr ⟨rfl,.inl rfl⟩) (by omega) NY
      .cases hl
     .cases hl
    .rename_i b off len cap sz xx;split at hl
     .rename_i cs hb;split at hl
      .rename_i hc;obtain⟨hc1,KA⟩:=hc;subst hc1;simp only[a0i,a0z]at hl;obtain⟨MP,h1,rfl,rfl,rfl⟩:=hl;obtain⟨mb,g1,g2⟩:=hr.at_ b _ hb;cases mb with
       |gJ c=>
        obtain⟨cs',g3,g4⟩:=g2;cases hd with
        |gone hi e _=>simp only[bD,a01]at hi;subst hi;rw[g1]at e;cases e
        |aP e=>
         rw[g1]at e;cases e;have U8:eF X P (AA A m) m ts.heap _ rows new 0 sz:=s3.mono fun q hq=>by
          rcases hq with hq|⟨i,_,hi,_⟩
          .exact hq
          .simp at hi
         have hv:=(U8.vrs s2).take (min rows.length len*sz);obtain⟨Jk,g5,g6⟩:=Ht g4 hv h1;have hlen:Jk.length=cs'.length:=by
          unfold wC at g5;split at g5
          .cases g5;simp only[a1o,a3K,a3H]at *;omega
          .cases g5
         have aQ:=(a0a.1 g3).1;obtain⟨hr1,hF⟩:=hr.set (pb:=.cells MP) (hb:=.cells .own Jk) g1 (c:=c) rfl (fun X3 X4=>⟨Jk,by simp[aX,aQ],by
          simp only[aX,g3,a01]at X4;subst X4;omega⟩) fun hF=>⟨Jk,by simp[aQ],g6.step hF .refl⟩
         refine⟨.int .i64 ((min rows.length len:Nat):Int),_,⟨false,.h c::dF tx,[.h c]⟩,m,?_,hr1,.int _ _,hF,.refl,?_,fun d hd=>?_⟩
         .unfold Gu;simp only[uU,yP,s1,s2,NY,adg,a1I];rw[a0q (by omega),WW g3,g5];rfl
         .refine⟨fun h=>(by cases h),fun k hk=>?_,fun k hk=>(by simp at hk),fun d hd=>?_,fun d hd=>?_,fun h=>(by cases h)⟩
          .rcases a1F.1 hk with e0|e0
           .cases e0
           .exact absurd e0 lQ
          .simp at hd;subst hd;exact .inl ⟨b,a2M,iP g1 rfl⟩
          .rcases a1F.1 hd with e0|e0
           .cases e0;exact⟨.inl ⟨b,a2M,iP g1 rfl⟩,aQ⟩
           .obtain⟨h0,h9⟩:=um hr hx hz hs e0;rcases h0 with⟨i,h1,h2⟩|h1
            .exact⟨.inl ⟨i,a3h _ h1,h2⟩,h9⟩
            .exact⟨.inr h1,h9⟩
         .simp at hd;subst hd;exact bf g1 rfl
       |_=>exact g2.elim
      .cases hl
     .cases hl
    .cases hl
   .cases hl
  .cases hl
 .cases hl
end
open Go Tw
section
variable {X:kP} {P:LI1} {A F:Nat->Prop} {m m':List MB} {h h':List HB} {H H':List (PB X.Γ)}
theorem VPs.qC{ps:List (Nat×PV X.Γ)}{qs:List (Nat×TV)}(hp:VPs X P A m h ps qs):qs.all (fun p=>p.2.cells.all jc)=ps.all fun p=>p.2.cells.all Zl:=by
 induction ps generalizing qs with
 |nil=>
  have:=hp.1;cases qs with
  |nil=>rfl
  |cons=>simp at this
 |cons a ps ih=>
  obtain⟨x,r,rfl,h1,h2⟩:=hp.inv;simp only[ac3,Ef (Hq h1),ih h2]
theorem X7{pl:Nat->Option (Nat×Nat)}:∀{qs:List (Nat×TV)} {xs r:List TV},sJ pl xs qs=some r->r.length=xs.length
 | [],xs,r,h=>by simp only[sJ,a01]at h;rw[h]
 |(i,v)::qs,xs,r,h=>by
  simp only[sJ]at h;split at h
  .split at h
   .split at h
    .rename_i cs' ho;rw[X7 h];unfold wC at ho;split at ho
     .cases ho;simp only[a1o,a3K,a3H];omega
     cases ho
    cases h
   cases h
  cases h
theorem oD{z:List TV}:∀n,(times z n).length=n*z.length
 | 0=>by simp[times]
 |n+1=>by simp[times,oD n,a3i];omega
theorem uj(hX:bP X P){ps:aT X.Γ}{ts:St}(hR:uY X P A m ps ts){t:LI2}{len:Nat}{vs:List (Nat×PV X.Γ)}{xs:List (Nat×TV)}(hv:VPs X P (AA A m) m ts.heap vs xs){v:PV X.Γ}{H1:List (PB X.Γ)}
  {raw:Bool} (hl:yB X P t len ps.heap vs raw=some (v,H1)):X5 X P A m ts ((qH P t len ts xs).map fun(v,s)=>(v,s,cZ)) v H1 xX:=by
 have hr:=hR.heap;unfold yB at hl;split at hl
 .rename_i e n yP;obtain⟨hz,h0⟩:=o7 yP;split at hl
  .rename_i hc;split at hl
   .rename_i z hzz;obtain⟨z',q1,q2⟩:=Hu (A:=AA A m) (m:=m) (h:=ts.heap) hzz;split at hl
    .rename_i U5;split at hl
     .rename_i cs hf;obtain⟨cs',q3,q4⟩:=MJ hv (WX q2 len) hf;have hlen:cs'.length=len*n:=(by rw[X7 q3,oD,<-q2.1,U5]);have hT:∀w h1,(w,h1)=(TV.aP ts.heap.length 0 len len n true,ts.heap++[HB.cells .own cs'])->(qH P t len ts xs).map (fun(v,s)=>(v,s,cZ))=some (w,{ ts with heap:=h1 },cZ):=by intro w h1 e0;cases e0;simp only[qH,yP,hv.qC,hc,adg,a1I,q1,<-q2.1,U5,q3,a0A]
      split at hl
      .rename_i rows is hd;cases hl;have hd:yA X ps.heap e n len cs=some (rows,is):=by
        split at hd
        .cases hd
        .exact hd
       obtain⟨e1,hw⟩:=AU (m':=dw is m) hX hr q4 hd;by_cases hn:rows=[]
       .subst hn;have e2:len=0:=(by simpa using e1.symm);subst e2;have Rt:cs'=[]:=a6i.1 (by omega);subst Rt;have HY:HR X P A (dw is m++[.dJ (.aP ts.heap.length 0 0 0 n true)]) (bn is ps.heap++[.list true true e []]) (ts.heap++[.cells .own []])∧_:=(hr.bn is).push (pb:=.list true true e []) (hb:=.cells .own []) (mb:=.dJ (.aP ts.heap.length 0 0 0 n true)) (.inr rfl)
         (LR.emp (b:=ts.heap.length) (cs:=[]) ⟨hr.up _ (a0E _),fun hm=>by rw[jl,a3c,kH]at hm;simp[MB.own]at hm;have:=(hr.bn is).inb hm;omega⟩ (by simp[aX]) (a0E _) hz h0)
        have QD:=iJ (h:=ts.heap) is m;refine⟨_,_,_,_,hT _ _ rfl,HY.1,.own ?_ rfl,QD.1.trans HY.2.1,QD.2.trans HY.2.2,.none,fun b hb=>by cases hb⟩;rw[<-hr.len,<-mX is m];simp
       .have HY:=lN hr is (k:=true) (ex:=true) (x:=true) hw (by rw[hlen,e1]) hn hz h0 (by simp);obtain⟨m1,g1,g2,g3,g4⟩:=HY;refine⟨_,_,_,m1,hT _ _ rfl,g1,?_,g2,g3,.none,fun b hb=>by cases hb⟩;rw[e1]at g4;exact g4
      .cases hl;have hp:=hr.push (pb:=.cells cs) (hb:=.cells .own cs') (mb:=.gJ ts.heap.length) (.inl rfl) ⟨cs',by simp,q4.step (by
        refine⟨by simp,fun b hb _=>by rw[a0p hb],fun b hb=>?_,fun b cs hc=>⟨cs,by rw[gq (a0p (fZ hc)),hc],a0E _⟩⟩;rw[jl,a3c,kH]at hb;rcases hb with hb|hb
        .exact .inl hb
        .simp[MB.own]at hb;exact .inr (by omega)) (wW _)⟩
       exact⟨_,_,_,_,hT _ _ rfl,hp.1,.aP (by rw[<-hr.len];simp),hp.2.1,hp.2.2,.none,fun b hb=>by cases hb⟩
     .cases hl
    .cases hl
   .cases hl
  .cases hl
 .cases hl
theorem OE{k:IntKind}{n:Int}{x:TV}(hv:VR X P A m h (.int k n) x):x=.int k n:=by
 cases hv with
 |int=>rfl
 |gone hi _ _=>simp[bD]at hi
theorem X8{t sz:Nat}{a:X.Γ t}{z:List TV}(ha:bY X P F m h (X.enc t a) z)(hz:z.length=sz):∀n,eF X P F m h t (List.replicate n a) (times z n) 0 sz
 | 0=>⟨fun j a hj=>by simp at hj,by simp,fun j a i c v hj=>by simp at hj⟩
 |n+1=>by
  have h1:eF X P F m h t [a] z 0 sz:=by
   refine⟨fun j b hj=>?_,by simp[hz],fun j b i c v hj hi hx=>?_⟩
   .cases j with
    |zero=>simp only[a2C,a01]at hj;subst hj;rw[ha.1,hz]
    |succ j=>simp at hj
   cases j with
   |zero=>simp only[a2C,a01]at hj;subst hj;exact ha.2 i c v hi (by simpa using hx)
   |succ j=>simp at hj
  have:=h1.app (X8 ha hz n) (by simp[hz]);simpa[ae3,times]using this
theorem Am(hX:bP X P){ps:aT X.Γ}{ts:St}(hR:uY X P A m ps ts){t:LI2}{l c:PV X.Γ}{tl tc:TV}(hvl:VR X P (AA A m) m ts.heap l tl)(hvc:VR X P (AA A m) m ts.heap c tc){v:PV X.Γ}{H1:List (PB X.Γ)}{qs:List Prop}
  (hl:FX X P t ps.heap l c=some (v,H1,qs)) (hq:∀q∈qs,q):X5 X P A m ts ((sQ P t ts tl tc).map fun(v,s)=>(v,s,cZ)) v H1 xX:=by
 have hr:=hR.heap;unfold FX at hl;split at hl
 .rename_i e n kl li kc ci yP;obtain⟨hz,h0⟩:=o7 yP;rw[OE hvl,OE hvc];split at hl
  .rename_i FH;split at hl
   .rename_i z hzz;obtain⟨z',q1,q2⟩:=Hu (A:=AA A m) (m:=m) (h:=ts.heap) hzz;split at hl
    .rename_i U5;split at hl
     .rename_i a ha;cases hl;have e1:li=ci:=hq _ (by simp);have e2:0<=li:=hq _ (by simp);have e3:li<=(ah:Nat):=hq _ (by simp);subst e1;have hm:li.toNat<=ah:=(by omega);have hm2:ah=2^20:=rfl;have hz2:z'.length=n:=by rw[<-q2.1];exact U5
      have hT:∀w h1,(w,h1)=(TV.aP ts.heap.length 0 li.toNat li.toNat n true,ts.heap++[HB.cells .own (times z' li.toNat)])->(sQ P t ts (.int kl li) (.int kc li)).map (fun(v,s)=>(v,s,cZ))=some (w,{ ts with heap:=h1 },cZ):=by
       intro w h1 e0;cases e0;have hN:∀k,a2u (.int k li)=some li.toNat:=fun k=>by
        have h9:li<=2^40:=by have:((2^20:Nat):Int)<=2^40:=(by decide);rw[hm2]at e3;omega
        simp only[a2u];rw[a0u ⟨e2,h9⟩]
       simp only[sQ,yP,hN,a0E,true_and,jU FH hm,a1I,q1,hz2,a0A]
      have yS:=X8 (m:=m) (h:=ts.heap) (F:=AA A m) (hX.dec ha q2) hz2 li.toNat;have hlen:(times z' li.toNat).length=li.toNat*n:=(by rw[oD,hz2]);by_cases hn:li.toNat=0
      .rw[hn]at hT ⊢;simp only[List.replicate_zero];have HY:=hr.push (pb:=.list true true e []) (hb:=.cells .own (times z' 0)) (mb:=.dJ (.aP ts.heap.length 0 0 0 n true)) (.inr rfl)
         (LR.emp (b:=ts.heap.length) (cs:=times z' 0) ⟨hr.up _ (a0E _),fun hm=>by rw[jl,a3c,kH]at hm;simp[MB.own]at hm;have:=hr.inb hm;omega⟩ (by simp[aX]) (a4G _) hz h0)
       exact⟨_,_,_,_,hT _ _ rfl,HY.1,.own (by rw[<-hr.len];simp) rfl,HY.2.1,HY.2.2,.none,fun b hb=>by cases hb⟩
      .obtain⟨m1,g1,g2,g3,g4⟩:=lN hr [] (k:=true) (ex:=true) (x:=true) (rows:=List.replicate li.toNat a) (yS.mono fun b hb=>.inl hb) (by rw[a7h];exact hlen) (by intro e0;exact hn (by simpa using congrArg List.length e0)) hz h0 (by simp);refine⟨_,_,_,m1,hT _ _ rfl,g1,?_,g2,g3,.none,fun b hb=>by cases hb⟩;rw[a7h]at g4;exact g4
     .cases hl
    .cases hl
   .cases hl
  .cases hl
 .cases hl
end
open Go Tw
section
variable {X:kP} {P:LI1} {A F:Nat->Prop} {m m':List MB} {h h':List HB} {H H':List (PB X.Γ)}
theorem AX{o:Option (PV X.Γ)}{to:Option TV}(ho:OR X P A m h o to){d n:Nat}{a:Int}(he:zF X d o=some a)(h0:0<=a)(h1:a<=n):jE n d to=some a.toNat:=by
 cases o with
 |none=>
  cases to with
  |none=>simp only[zF,a01]at he;subst he;simp[jE]
  |some=>exact ho.elim
 |some v=>
  cases to with
  |none=>exact ho.elim
  |some x=>
   cases v<;>simp only[zF]at he<;>try (cases he;done)
   cases he;rw[OE ho];simp only[jE,qQ];rw[a0u ⟨h0,h1⟩]
theorem OG{k:IntKind}{n:Int}{to:Option TV}(ho:OR X P A m h (some (.int k n)) to):to=some (.int k n):=by
 cases to with
 |none=>exact ho.elim
 |some x=>rw[OE ho]
theorem rH{to:Option TV}(ho:OR X P A m h none to):to=none:=by
 cases to with
 |none=>rfl
 |some x=>exact ho.elim
theorem MQ{v:PV X.Γ}{to:Option TV}(ho:OR X P A m h (some v) to):∃x,to=some x:=by
 cases to with
 |none=>exact ho.elim
 |some x=>exact⟨x,rfl⟩
theorem aeA{t e:LI2}{b off len cap sz:Nat}{ex:Bool}(hu:P.underlying t=some (.slice e))(hz:dH P e=some sz){lo hi:Option (PV X.Γ)}{QE QF:Option TV}(h1:OR X P A m h lo QE)(h2:OR X P A m h hi QF){a z:Int}(e1:zF X 0 lo=some a)(e2:zF X len hi=some z)
  (q0:0<=a) (q1:a<=z) (q2:z<=len):qR P t (.aP b off len cap sz ex) QE QF none=some (.aP b (off+a.toNat*sz) (z.toNat-a.toNat) (cap-a.toNat) sz ex):=by
 have g1:=AX h1 e1 (n:=z.toNat) q0 (by omega);have g2:=AX h2 e2 (n:=len) (by omega) q2;simp only[qR,hu,hz,a1I,g2,g1]
theorem a9P{t e:LI2}{b off len cap sz:Nat}{ex:Bool}(hu:P.underlying t=some (.slice e))(hz:dH P e=some sz){lo hi:Option (PV X.Γ)}{QE QF:Option TV}(h1:OR X P A m h lo QE)(h2:OR X P A m h hi QF){a z:Int}(e1:zF X 0 lo=some a)(e2:zF X len hi=some z)(hs:hi.isSome)
  (q0:0<=a) (q1:a<=z) (q2:z<=len) (wL:len<=cap) {k:IntKind}:qR P t (.aP b off len cap sz ex) QE QF (some (.int k z))=some (.aP b (off+a.toNat*sz) (z.toNat-a.toNat) (z.toNat-a.toNat) sz true):=by
 have g1:=AX h1 e1 (n:=z.toNat) q0 (by omega);obtain⟨hv,rfl⟩:=a5h.1 hs;obtain⟨x,rfl⟩:=MQ h2;have g3:qQ cap (.int k z)=some z.toNat:=by simp only[qQ];rw[a0u (by omega)]
 have g2:qQ (min z.toNat len) x=some z.toNat:=by
  cases hv<;>simp only[zF]at e2<;>try (cases e2;done)
  cases e2;rw[OE (show VR X P A m h _ x from h2)];simp only[qQ];rw[a0u (by omega)]
 simp only[qR,hu,hz,a1I,g3,g2,g1]
theorem ZA{t e:LI2}{sz:Nat}(hu:P.underlying t=some (.slice e))(hz:dH P e=some sz){lo hi:Option (PV X.Γ)}{QE QF:Option TV}(h1:OR X P A m h lo QE)(h2:OR X P A m h hi QF){a z:Int}(e1:zF X 0 lo=some a)(e2:zF X 0 hi=some z)(q0:a=0)(q1:z=0) :
  qR P t (.nil .aP) QE QF none=some (.nil .aP)∧∀{k:IntKind},hi.isSome->qR P t (.nil .aP) QE QF (some (.int k 0))=some (.nil .aP):=by
 subst q0;subst q1;have g1:=AX h1 e1 (n:=0) (by omega) (by omega);have g2:=AX h2 e2 (n:=0) (by omega) (by omega);have g0:jE 0 0 none=some 0:=rfl;refine⟨by simp only[qR,hu,hz,g0,g1,g2];rfl,fun{k} hs=>?_⟩;obtain⟨hv,rfl⟩:=a5h.1 hs;obtain⟨x,rfl⟩:=MQ h2;have g3:jE 0 0 (some (.int k 0))=some 0:=rfl;simp only[qR,hu,hz,g1,g2,g3] ;rfl
theorem NU{ps:aT X.Γ}{ts:St}(hR:uY X P A m ps ts){t:LI2}{x:PV X.Γ}{tx:TV}(hx:VR X P (AA A m) m ts.heap x tx){lo hi mx:Option (PV X.Γ)}{QE QF tmx:Option TV}(h1:OR X P (AA A m) m ts.heap lo QE)(h2:OR X P (AA A m) m ts.heap hi QF)(h3:OR X P (AA A m) m ts.heap mx tmx){v:PV X.Γ}{qs:List Prop}
  (hl:Zp X P t ps.heap x lo hi mx=some (v,qs)) (hq:∀q∈qs,q):∃w,qR P t tx QE QF tmx=some w∧VR X P (AA A m) m ts.heap v w:=by
 have hr:=hR.heap;unfold Zp at hl;split at hl
 .rename_i e t' l fu hu;split at hl
  .rename_i n a z hz e1 e2;split at hl
   .rename_i ht;subst ht;cases hl;have q0:0<=a:=hq _ (by simp);have q1:a<=z:=hq _ (by simp);have q2:z<=(l.length:Nat):=hq _ (by simp);rw[rH h3,ah9];cases hx with
    |pK=>
     have ea:a=0:=by simp at q2;omega
     have ez:z=0:=by simp at q2;omega
     exact⟨_,(ZA hu hz h1 h2 e1 e2 ea ez).1,by simp only[List.drop_nil,List.take_nil];exact .pK⟩
    |dJ p1 p2 p2' p3 p4 p5 p6 p7 p8 p9=>
     rw[hz]at p3;cases p3;exact⟨_,aeA hu hz h1 h2 e1 e2 q0 q1 q2,(VR.dJ p1 p2 p2' hz p4 p5 p6 p7 p8 p9).part (by omega) (by omega) (.inr (by omega)) (by simp)⟩
    |gone hi _ _=>simp[bD]at hi
   .cases hl
  .rename_i n a z k mv hz e1 e2;split at hl
   .rename_i ht;obtain⟨ht,BL⟩:=ht;subst ht;split at hl
    .rename_i hfu;subst hfu;cases hl;have q0:a=0:=hq _ (by simp);have q2:z=(l.length:Nat):=hq _ (by simp);have q3:mv=z:=hq _ (by simp);subst q3;subst q0;rw[OG h3];cases hx with
     |pK=>
      have ez:mv=0:=(by simpa using q2);have:=(ZA hu hz h1 h2 e1 e2 rfl ez).2 (k:=k) BL;exact⟨_,by rw[<-ez]at this;exact this,.pK⟩
     |dJ p1 p2 p2' p3 p4 p5 p6 p7 p8 p9=>
      rw[hz]at p3;cases p3;obtain⟨p7a,p7b⟩:=p7 rfl;subst p7a;subst p7b;refine⟨_,a9P hu hz h1 h2 e1 e2 BL (a9d 0) (by omega) (by omega) p6,?_⟩;subst q2;have:=VR.dJ (fu:=true) p1 p2 p2' hz p4 p5 (a0E _) (fun _=>⟨rfl,rfl⟩) p8 p9;simpa using this
     |gone hi _ _=>simp[bD]at hi
    cases hl;have q0:0<=a:=hq _ (by simp);have q1:a<=z:=hq _ (by simp);have q2:z<=(l.length:Nat):=hq _ (by simp);have q3:mv=z:=hq _ (by simp);have q4:a=z:=hq _ (by simp);subst q3;rw[OG h3,ah9];cases hx with
    |pK=>
     have ea:a=0:=by simp at q2;omega
     have ez:mv=0:=by simp at q2;omega
     have:=(ZA hu hz h1 h2 e1 e2 ea ez).2 (k:=k) BL;rw[<-ez]at this;exact⟨_,this,by simp only[List.drop_nil,List.take_nil];exact .pK⟩
    |dJ p1 p2 p2' p3 p4 p5 p6 p7 p8 p9=>
     rw[hz]at p3;cases p3;exact⟨_,a9P hu hz h1 h2 e1 e2 BL q0 q1 q2 p6,(VR.dJ p1 p2 p2' hz p4 p5 p6 p7 p8 p9).part (by omega) (by omega) (.inl (by omega)) (by simp)⟩
    |gone hi _ _=>simp[bD]at hi
   .cases hl
  .cases hl
 .rename_i e i hu;split at hl
  .rename_i kk ex t' l hb;obtain⟨mb,g1,g2⟩:=hr.at_ i _ hb;cases mb with
   |dJ y=>
    cases hx with
    |gone hi e' _=>simp only[bD,a01]at hi;subst hi;rw[g1]at e';cases e'
    |own e' o=>
     rw[g1]at e';cases e';have hlr:LR X P (AA A m) m ts.heap kk ex t' l tx:=g2;split at hl
     .rename_i n a z hz e1 e2;split at hl
      .rename_i ht;subst ht;cases hl;have q0:0<=a:=hq _ (by simp);have q1:a<=z:=hq _ (by simp);have q2:z<=(l.length:Nat):=hq _ (by simp);rw[rH h3];cases hlr with
       |nil=>
        have ea:a=0:=by simp at q2;omega
        have ez:z=0:=by simp at q2;omega
        refine⟨_,(ZA hu hz h1 h2 e1 e2 ea ez).1,?_⟩;subst ea;subst ez;exact .Cb g1
       |emp p0 p1 p2 p3 p4=>
        rw[hz]at p3;cases p3;exact⟨_,aeA (len:=0) hu hz h1 h2 e1 e2 q0 q1 q2,.win g1 (by simp at q2;omega) (by simp at q2;omega) (.inl (by simp at q2;omega))⟩
       |some p1 p2 p3 p4 p5 p6 p7 p8 p9=>
        rw[hz]at p2;cases p2;exact⟨_,aeA hu hz h1 h2 e1 e2 q0 q1 q2,.win g1 (by omega) (by omega) (.inr (by omega))⟩
      .cases hl
     .rename_i n a z k mv hz e1 e2;split at hl
      .rename_i ht;obtain⟨ht,BL⟩:=ht;subst ht;cases hl;have q0:a=0:=hq _ (by simp);have q2:z=(l.length:Nat):=hq _ (by simp);have q3:mv=z:=hq _ (by simp);subst q3;subst q0;rw[OG h3];cases hlr with
       |nil=>
        have ez:mv=0:=(by simpa using q2);have:=(ZA hu hz h1 h2 e1 e2 rfl ez).2 (k:=k) BL;exact⟨_,by rw[<-ez]at this;exact this,.Jh g1⟩
       |emp p0 p1 p2 p3 p4=>
        rw[hz]at p3;cases p3;have ez:mv=0:=(by simpa using q2);subst ez;refine⟨_,a9P (len:=0) hu hz h1 h2 e1 e2 BL (a9d 0) (by omega) (by omega) (a0E _),?_⟩;simpa using VR.Gq (X:=X) (P:=P) (A:=AA A m) (h:=ts.heap) g1
       |some p1 p2 p3 p4 p5 p6 p7 p8 p9=>
        rw[hz]at p2;cases p2;refine⟨_,a9P hu hz h1 h2 e1 e2 BL (a9d 0) (by omega) (by omega) (a0E _),?_⟩;subst q2;have:=VR.Gq (X:=X) (P:=P) (A:=AA A m) (h:=ts.heap) g1;simpa using this
      .cases hl
     .cases hl
   |_=>exact g2.elim
  .cases hl
 .rename_i e hu;have:tx=.nil .aP:=by
   cases hx with
   |nil=>rfl
   |gone hi _ _=>simp[bD]at hi
  subst this;split at hl
  .rename_i n a z hz e1 e2;cases hl;have q0:a=0:=hq _ (by simp);have q1:z=0:=hq _ (by simp);rw[rH h3];exact⟨_,(ZA hu hz h1 h2 e1 e2 q0 q1).1,.nil _⟩
  .rename_i n a z k mv hz e1 e2;split at hl
   .rename_i BL;cases hl;have q0:a=0:=hq _ (by simp);have q1:z=0:=hq _ (by simp);have q2:mv=0:=hq _ (by simp);subst q2;rw[OG h3];exact⟨_,(ZA hu hz h1 h2 e1 e2 q0 q1).2 BL,.nil _⟩
   .cases hl
  .cases hl
 .cases hl
theorem CX(hX:bP X P){ps:aT X.Γ}{ts:St}(hR:uY X P A m ps ts){t:LI2}{x:PE X.Γ}{ex:EV}(hx:IU X P (AA A m) m ts.heap x ex){lo hi mx:Option (PV X.Γ)}{QE QF tmx:Option TV}(h1:OR X P (AA A m) m ts.heap lo QE)(h2:OR X P (AA A m) m ts.heap hi QF)(h3:OR X P (AA A m) m ts.heap mx tmx){v:PV X.Γ}{H1:List (PB X.Γ)}{qs:List Prop}
  (hl:Je X P t ps.heap x lo hi mx=some (v,H1,qs)) (hq:∀q∈qs,q):X5 X P A m ts ((qG P t ex QE QF tmx).map fun v=>(v,ts,cZ)) v H1 xX:=by
 have hr:=hR.heap;unfold Je at hl;split at hl
 .rename_i n e b off lim hu;split at hl
  .rename_i size hz;split at hl
   .cases hl
   .rename_i Lh;split at hl
    .cases hl
    .rw[rH h3];obtain⟨y,rfl,hy⟩:=gu hx;split at hl
     .split at hl
      .rename_i cs hb;cases hl;rw[rH h1,rH h2];obtain⟨mb,g1,g2⟩:=hr.at_ b _ hb;cases mb with
       |gJ c=>
        cases hy with
        |gone hi e' _=>simp only[bD,a01]at hi;subst hi;rw[g1]at e';cases e'
        |ptr e'=>
         rw[g1]at e';cases e';exact⟨.aP c off n n size true,ts.heap,cZ,m,by simp[qG,hu,hz,Lh,jE],hr,.aP g1,.refl,.refl,.none,fun d hd=>by cases hd⟩
       |_=>exact g2.elim
      .cases hl
     .rename_i YQ wF _;split at hl
      .rename_i cs a z hb e1 e2;split at hl
       .cases hl
       rename_i aeu;split at hl
       .rename_i rows is hd;cases hl;have q0:0<=a:=hq _ (by simp);have q1:a<=z:=hq _ (by simp);have q2:z<=(n:Nat):=hq _ (by simp);obtain⟨mb,g1,g2⟩:=hr.at_ b _ hb;cases mb with
        |gJ c=>
         obtain⟨cs',g3,g4⟩:=g2;cases hy with
         |gone hi e' _=>simp only[bD,a01]at hi;subst hi;rw[g1]at e';cases e'
         |ptr e'=>
          rw[g1]at e';cases e';have f1:=AX h1 e1 (n:=z.toNat) q0 (by omega);have f2:=AX h2 e2 (n:=n) (by omega) q2;obtain⟨w1,w2⟩:=AU (m':=dw (b::is) m) hX hr (g4.drop off) hd;have w3:=w2.2.1;rw[a3H]at w3;have hgo:=hr.bn (b::is);have QD:=iJ (h:=ts.heap) (b::is) m;have hnc:AA A (dw (b::is) m) c:=by refine FA.gone hr (.inr ⟨b,_,a2M,g1,rfl⟩)
          refine⟨.aP c (off+a.toNat*size) (z.toNat-a.toNat) (n-a.toNat) size true,ts.heap,cZ,dw (b::is) m,?_,hgo,?_,QD.1,QD.2,.none,fun d hd=>by cases hd⟩
          .have f0:jE n n none=some n:=rfl;simp only[qG,hu,hz,Lh,a3l,f0,f2,f1,Option.isSome_none,Bool.false_and,a2z,a0A]
          .rw[ah9];have ais:VR X P (AA A (dw (b::is) m)) (dw (b::is) m) ts.heap (.dJ e rows false) (.aP c off rows.length n size true):=by
            refine .dJ hnc (by unfold aX;rw[g3]) (fun _=>wV g3 (by simp)) hz (by omega) ?_ (by omega) (by simp) w2.1 (fun j y i d v hj hi hx=>?_)
            .rw[w1,<-g4.1];omega
            .refine(w2.2.2 j y i d v hj hi ?_).mono fun q hq=>FA.gone hr (FA.mono (fun i hi=>a3h _ hi) hq);rw[a4w,<-hx];congr 1;omega
           exact ais.part (by omega) (by omega) (.inr (by omega)) (by simp)
        |_=>exact g2.elim
       .cases hl
      .cases hl
  .cases hl
 .cases hl
theorem UH{ps:aT X.Γ}{ts:St}(hR:uY X P A m ps ts){t:LI2}{x:PE X.Γ}{ex:EV}(hx:IU X P (AA A m) m ts.heap x ex){lo hi:Option (PV X.Γ)}{QE QF tmx:Option TV}(h1:OR X P (AA A m) m ts.heap lo QE)(h2:OR X P (AA A m) m ts.heap hi QF)(h3:OR X P (AA A m) m ts.heap none tmx){v:PV X.Γ}
  (hl:FY X P t ps.heap x lo hi=some v):X5 X P A m ts ((qG P t ex QE QF tmx).map fun v=>(v,ts,cZ)) v ps.heap xX:=by
 have hr:=hR.heap;unfold FY at hl;split at hl
 .rename_i n e b off lim hu;split at hl
  .rename_i size cs a z hz hb e1 e2;split at hl
   .cases hl
   .rename_i Lh;split at hl
    .rename_i hq;cases hl;rw[rH h3];obtain⟨y,rfl,hy⟩:=gu hx;obtain⟨mb,g1,g2⟩:=hr.at_ b _ hb;cases mb with
     |gJ c=>
      cases hy with
      |gone hi e' _=>simp only[bD,a01]at hi;subst hi;rw[g1]at e';cases e'
      |ptr e'=>
       rw[g1]at e';cases e';have f1:=AX h1 e1 (n:=z.toNat) hq.1 (by omega);have f2:=AX h2 e2 (n:=n) (by omega) hq.2.2;refine⟨.aP c (off+a.toNat*size) (z.toNat-a.toNat) (n-a.toNat) size true,ts.heap,cZ,m,?_,hr,.aP g1,.refl,.refl,.none,fun d hd=>by cases hd⟩;have f0:jE n n none=some n:=rfl;simp only[qG,hu,hz,Lh,a3l,f0,f2,f1,Option.isSome_none,Bool.false_and,a2z,a0A]
     |_=>exact g2.elim
    .cases hl
  .cases hl
 .cases hl
end
open Go Tw
section
variable {X:kP} {P:LI1} {A B F:Nat->Prop} {m m':List MB} {h h':List HB} {H H':List (PB X.Γ)}
theorem vZ:∀{vs:List (PV X.Γ)} {i:Nat} {v:PV X.Γ},xU.H9 vs=false->vs[i]? = some v->xU v=false
 | [],_,_,_,h=>by simp at h
 |a::vs,i,v,hc,h=>by
  simp only[xU.H9,a9Q]at hc;cases i with
  |zero=>simp only[a2C,a01]at h;subst h;exact hc.1
  |succ i=>exact vZ hc.2 (by simpa using h)
theorem tC{k:Nat}:∀{vs:List (PV X.Γ)} {i:Nat} {v:PV X.Γ},(shift.shifts k vs)[i]? = some v->∃u,vs[i]? = some u∧v=shift k u
 | [],_,_,h=>by simp[shift.shifts]at h
 |a::vs,i,v,h=>by
  cases i with
  |zero=>simp only[shift.shifts,a2C,a01]at h;exact⟨a,rfl,h.symm⟩
  |succ i=>obtain⟨u,h1,h2⟩:=tC (vs:=vs) (i:=i) (by simpa[shift.shifts]using h);exact⟨u,by simpa using h1,h2⟩
theorem tH{k:Nat}:∀{vs:List (PV X.Γ)},(shift.shifts k vs).length=vs.length
 | []=>rfl
 |a::vs=>by simp[shift.shifts,tH (vs:=vs)]
theorem ZB{k i:Nat}{v:PV X.Γ}(h:bD v=some i):bD (shift k v)=some (i+k):=by cases v<;>simp[bD]at h<;>subst h<;>rfl
theorem VR.shift(hX:bP X P){m0:List MB}{v:PV X.Γ}{x:TV}(hv:VR X P A m h v x)(hq:(∀b,A b->B b)∨xU v=false):VR X P B (m0++m) h (Pv.shift m0.length v) x:=by
 have at':∀{i:Nat} {mb:MB},m[i]? = some mb->(m0++m)[i+m0.length]? = some mb:=by intro i mb hi;rw[a0G (by omega)];simpa using hi
 induction hv with
 |bool=>exact .bool _
 |lit=>exact .lit _
 |int=>exact .int _ _
 |str=>exact .str _
 |nil=>exact .nil _
 |ptr e=>exact .ptr (at' e)
 |aP e=>exact .aP (at' e)
 |own e o=>exact .own (at' e) o
 |win e q q' q2=>exact .win (at' e) q q' q2
 |Cb e=>exact .Cb (at' e)
 |Gq e=>exact .Gq (at' e)
 |Jh e=>exact .Jh (at' e)
 |map e=>exact .map (at' e)
 |iter e=>exact .iter (at' e)
 |fn h1 _ h3 _ i2 i4=>
  refine .fn (by rw[tH,h1]) (fun i x y hx hy=>?_) (by rw[tH,h3]) (fun i x y hx hy=>?_)
  .obtain⟨u,g1,rfl⟩:=tC hx;exact i2 i u y g1 hy (hq.imp_right fun hq=>by simp only[xU,a9Q]at hq;exact vZ hq.1 g1)
  obtain⟨u,g1,rfl⟩:=tC hx;exact i4 i u y g1 hy (hq.imp_right fun hq=>by simp only[xU,a9Q]at hq;exact vZ hq.2 g1)
 |kX e=>exact .kX (at' e)
 |agg h1 _ i2=>
  refine .agg (by rw[tH,h1]) (fun i x y hx hy=>?_);obtain⟨u,g1,rfl⟩:=tC hx;exact i2 i u y g1 hy (hq.imp_right fun hq=>by simp only[xU]at hq;exact vZ hq g1)
 |cO h1 _ i2=>
  refine .cO (by rw[tH,h1]) (fun i x y hx hy=>?_);obtain⟨u,g1,rfl⟩:=tC hx;exact i2 i u y g1 hy (hq.imp_right fun hq=>by simp only[xU]at hq;exact vZ hq g1)
 |pK=>exact .pK
 |dJ a c c2 s z o k f e r _=>
  rcases hq with hq|hq
  .exact .dJ (hq _ a) c c2 s z o k f e fun j y i d v h1 h2 h3=>((r j y i d v h1 h2 h3).mono hq).jw hX (fP (hX.jw _ _) h2)
  simp[xU]at hq
 |el a c l o e q r _=>
  rcases hq with hq|hq
  .exact .el (hq _ a) c l o e q fun i d v h1 h2=>((r i d v h1 h2).mono hq).jw hX (fP (hX.jw _ _) h1)
  simp[xU]at hq
 |row e j q=>exact .row (at' e) j q
 | @gone v i x hi e o=>
  have e':(m0++m)[i+m0.length]? = m[i]?:=by rw[a0G (by omega)];congr 1;omega
  exact .gone (ZB hi) (by rw[e'];exact e.as fun c=>by cases v<;>rfl) o
theorem bY.shift(hX:bP X P){m0:List MB}{v:List (PV X.Γ)}{x:List TV}(hv:bY X P A m h v x)(hq:(∀b,A b->B b)∨xU.H9 v=false):bY X P B (m0++m) h (Pv.shift.shifts m0.length v) x:=by refine⟨by rw[tH,hv.1],fun i a b ha hb=>?_⟩;obtain⟨u,g1,rfl⟩:=tC ha;exact(hv.2 i u b g1 hb).shift hX (hq.imp_right fun hq=>vZ hq g1)
theorem BR.shift(hX:bP X P){m0:List MB}{b b':PB X.Γ}{mb:MB}(hb:BR X P A m h b mb)(hs:FV X m0.length b=some b')(hq:(∀c,A c->B c)∨hasB X b=false):BR X P B (m0++m) h b' mb:=by
 cases b with
 |cells cs=>
  cases mb with
  |gJ c=>
   simp only[FV,a01]at hs;subst hs;obtain⟨cs',h1,h2⟩:=hb;exact⟨cs',h1,h2.shift hX hq⟩
  |_=>exact hb.elim
 |list k ex t l=>
  cases mb with
  |dJ y=>
   simp only[FV,a01]at hs;subst hs;rcases hq with hq|hq
   .cases(hb:LR X P A m h k ex t l y)with
    |nil=>exact LR.nil
    |emp p0 p1 p2 p3 p4=>exact LR.emp (hq _ p0) p1 p2 p3 p4
    |some p1 p2 p3 p4 p5 p6 p7 p8 p9=>exact LR.some p1 p2 p3 p4 p5 p6 p7 p8 ((p9.mono hq).jw hX)
   simp[hasB]at hq
  |_=>exact hb.elim
 |gone=>
  cases mb with
  |gone=>simp only[FV,a01]at hs;subst hs;trivial
  |_=>exact hb.elim
 |_=>simp[FV]at hs
theorem KI{k:Nat}:∀{bs bs':List (PB X.Γ)} {i:Nat} {b':PB X.Γ},qZ X k bs=some bs'->bs'[i]? = some b'->∃b,bs[i]? = some b∧FV X k b=some b'
 | [],bs',i,b',h,hi=>by simp only[qZ,a01]at h;subst h;simp at hi
 |b::bs,bs',i,b',h,hi=>by
  simp only[qZ]at h;split at h
  .rename_i c cs h1 h2;cases h;cases i with
   |zero=>simp only[a2C,a01]at hi;subst hi;exact⟨b,rfl,h1⟩
   |succ i=>obtain⟨d,g1,g2⟩:=KI h2 (i:=i) (by simpa using hi);exact⟨d,by simpa using g1,g2⟩
  cases h
theorem KJ{k:Nat}:∀{bs bs':List (PB X.Γ)},qZ X k bs=some bs'->bs'.length=bs.length
 | [],bs',h=>by simp only[qZ,a01]at h;subst h;rfl
 |b::bs,bs',h=>by
  simp only[qZ]at h;split at h
  .rename_i c cs h1 h2;cases h;simp[KJ h2]
  cases h
def pO(X:kP)(P:LI1)(call:aY)(f:FuncId)(vs:List (PV X.Γ))(v:PV X.Γ)(ext:List (PB X.Γ)):Prop:=
 ∀(A:Nat->Prop) (h:List HB) (first args cap:List TV),(∀b,h.length<=b->A b)->bY X P A [] h vs (first++args++cap) ->
  ∃w h' m',call (.fn f first cap) args h=some (w,h',[])∧HR X P A m' ext h'∧VR X P (AA A m') m' h' v w∧Fr [] h m' h'
theorem I4(hX:bP X P){call:aY}{f:FuncId}{first xs cap vs:List (PV X.Γ)}{v:PV X.Γ}{ext ext':List (PB X.Γ)}(hc:pO X P call f vs v ext)(hr:HR X P A m H h)(hv:views H (first++xs++cap)=some vs)(hs:qZ X H.length ext=some ext')
  {t1 t2 t3:List TV} (h1:bY X P (AA A m) m h first t1) (h2:bY X P (AA A m) m h xs t2) (h3:bY X P (AA A m) m h cap t3) :
  ∃w h' m1,call (.fn f t1 t3) t2 h=some (w,h',[])∧HR X P A m1 ((if xU v||ext.any (hasB X)then bn (kG.ku (first++xs++cap)) H else H)++ext') h'∧VR X P (AA A m1) m1 h' (shift H.length v) w∧Fr m h m1 h'∧Up m m1:=by
 have hvs:=lM (m':=[]) hX hr ((h1.app h2).app h3) hv (is:=kG.ku (first++xs++cap)) fun i hi=>hi;generalize kG.ku (first++xs++cap)=is at hvs ⊢;obtain⟨w,h',m',c1,c2,c3,c4⟩:=hc (fun b=>FA A m is b∨h.length<=b) h t1 t2 t3 (fun b hb=>.inr hb) (hvs.mono fun b hb=>.inl hb);have hold:∀b,b<h.length->h'[b]? = h[b]?:=fun b hb=>c4.same b hb (by simp[bC]);have gy:∀b,b∈bC m'->h.length<=b:=fun b hb=>by
  rcases c4.new b hb with h0|h0
  .simp[bC]at h0
  .exact h0
 have key:∀(m0:List MB) (H0:List (PB X.Γ)),HR X P A m0 H0 h->Fr m h m0 h->Up m m0->m0.length=H.length->((∀b,FA A m is b->AA A m0 b)∨(xU v||ext.any (hasB X))=false) ->
   ∃m1,HR X P A m1 (H0++ext') h'∧VR X P (AA A m1) m1 h' (shift H.length v) w∧Fr m h m1 h'∧Up m m1:=by
  intro m0 H0 ZC hF0 hU0 qM hq;have hF:Fr m0 h (m0++m') h':=by refine⟨c4.len,fun b hb _=>hold b hb,fun b hb=>?_,fun b cs hc=>⟨cs,by rw[gq (hold b (fZ hc)),hc],a0E _⟩⟩;rw[jl,a3c]at hb;exact hb.imp_right fun hb=>gy b hb
  have hA:(∀b,AA (fun b=>FA A m is b∨h.length<=b) m' b->AA A (m0++m') b)∨(xU v||ext.any (hasB X))=false:=by
   refine hq.imp_left fun hq b hb=>?_;refine⟨?_,fun hm=>?_⟩
   .rcases hb.1 with h0|h0
    .exact(hq b h0).1
    .exact hr.up b h0
   .rw[jl,a3c]at hm;rcases hm with hm|hm
    .rcases hb.1 with h0|h0
     .exact(hq b h0).2 hm
     .have:=ZC.inb hm;omega
    .exact hb.2 hm
  refine⟨m0++m',?_,?_,hF0.trans hF,hU0.trans (wW _)⟩
  .refine ZC.next hF (wW _) (by rw[a1o,a1o,ZC.len,KJ hs,c2.len]) ?_ fun i b hi=>?_
   .rw[jl];refine a96.2 ⟨ZC.nodup,c2.nodup,fun a ha b hb e=>?_⟩;subst e;have:=ZC.inb ha;have:=gy a hb;omega
   .rcases a4u i H0.length with aQ|ET
    .left;rw[a0p aQ]at hi;obtain⟨mb,g1,g2⟩:=ZC.at_ i b hi;exact⟨mb,hi,g1,by rw[a0p (by rw[ZC.len];exact aQ)];exact g1,fun c hc=>hold c (g2.has hc)⟩
    .right;rw[a0G ET]at hi;obtain⟨b0,g1,g2⟩:=KI hs hi;obtain⟨mb,g3,g4⟩:=c2.at_ _ _ g1;refine⟨mb,by rw[a0G (by rw[ZC.len];exact ET),ZC.len];exact g3,?_⟩;rw[<-qM]at g2;refine g4.shift hX g2 (hA.imp_right fun hq=>?_);simp only[a9Q,List.any_eq_false]at hq;simpa using hq.2 b0 (a4E g1)
  .rw[<-qM];exact c3.shift hX (hA.imp_right fun hq=>by simp only[a9Q]at hq;exact hq.1)
 refine⟨w,h',?_⟩;by_cases hL:(xU v||ext.any (hasB X))=true
 .rw[a0u hL];obtain⟨m1,e1,e2,e3,e4⟩:=key (dw is m) (bn is H) (hr.bn is) (iJ (h:=h) is m).1 (iJ (h:=h) is m).2 (by rw[mX,hr.len]) (.inl fun b hb=>hb.gone hr);exact⟨m1,c1,e1,e2,e3,e4⟩
 .rw[a0q hL];obtain⟨m1,e1,e2,e3,e4⟩:=key m H hr .refl .refl hr.len (.inr (by simpa using hL));exact⟨m1,c1,e1,e2,e3,e4⟩
end
open Go Tw
section
variable {X:kP} {P:LI1} {A B F:Nat->Prop} {m m':List MB} {h h':List HB} {H H':List (PB X.Γ)}
def bZ(X:kP)(P:LI1)(call:aY):a3a X.Γ:=fun fv xs H v H1=>
 ∀(A:Nat->Prop) (m:List MB) (h:List HB) (tf:TV) (qN:List TV),HR X P A m H h->VR X P (AA A m) m h fv tf->bY X P (AA A m) m h xs qN ->
  ∃w h1 ws m1,call tf qN h=some (w,h1,ws)∧HR X P A m1 H1 h1∧VR X P (AA A m1) m1 h1 v w∧Fr m h m1 h1∧Up m m1∧∀b∈ws,b∈bC m
def jJ(X:kP)(P:LI1)(call:aY)(fV:fB X.Γ):Prop:=∀f vs v ext ps,fV f vs=some (v,ext,ps)->(∀p∈ps,p)->pO X P call f vs v ext
theorem uK{ρ:Type}{y:ρ}:∀{ps:List Prop} {x:OT ρ},(owe ps x).Ends y->(∀p∈ps,p)∧x.Ends y
 | [],x,h=>⟨by simp,h⟩
 |p::ps,x,h=>by have:=uK h.2;exact⟨fun q hq=>by rcases a1F.1 hq with rfl|hq;exact h.1;exact this.1 q hq,this.2⟩
theorem ZE{ρ:Type}{y:ρ}{u:PV X.Γ}{an:PT X.Γ}{k:Bool->PT X.Γ->OT ρ}(hk:(byB X u an k).Ends y){tu:TV}(hu:VR X P A m h u tu):∃t I5,tu=.bool t∧(k t I5).Ends y:=by
 cases u with
 |lit b=>
  have:tu=.bool b:=by
   cases hu with
   |lit=>rfl
   |gone hi _ _=>simp[bD]at hi
  exact⟨b,an,this,hk⟩
 |bool b=>
  have hb:tu=.bool b:=by
   cases hu with
   |bool=>rfl
   |gone hi _ _=>simp[bD]at hi
  subst hb;cases an with
  |s x z=>
   rcases hk with⟨h1,h2⟩|⟨h1,h2⟩
   .subst h1;exact⟨true,x,rfl,h2⟩
   subst h1;exact⟨false,z,rfl,h2⟩
  |a x r=>
   cases x with
   |br t=>obtain⟨h1,h2⟩:=hk;subst h1;exact⟨_,r,rfl,h2⟩
   |_=>exact hk.elim
  |_=>exact hk.elim
 |_=>exact hk.elim
theorem rJ:∀{es:List (PV X.Γ×PV X.Γ)} {gG:List (TV×TV)} {ks:List TV},es.length=gG.length->(∀(i:Nat) x y,es[i]? = some x->gG[i]? = some y->VR X P A m h x.1 y.1∧VR X P A m h x.2 y.2)->vH X es=some ks->gG.map (·.1)=ks
 | [],gG,ks,hl,_,hk=>by
  simp only[vH,a01]at hk;subst hk;cases gG with
  |nil=>rfl
  |cons=>simp at hl
 |(k,v)::es,gG,ks,hl,he,hk=>by
  cases gG with
  |nil=>simp at hl
  |cons y gG=>
   simp only[vH]at hk;split at hk
   .rename_i a b h1 h2;cases hk;have:=jT (he 0 _ _ rfl rfl).1 h1;simp only[a4t,this];rw[rJ (by simpa using hl) (fun i x z hx hz=>he (i+1) x z (by simpa using hx) (by simpa using hz)) h2]
   cases hk
theorem X9:∀{ks:List TV} {vs:List LI3},BX ks=some vs->vs.length=ks.length
 | [],vs,h=>by simp only[BX,a01]at h;subst h;rfl
 |k::ks,vs,h=>by
  simp only[BX]at h;split at h
  .rename_i v ws _ h2;cases h;simp[X9 h2]
  cases h
theorem qg{kt:LI2}{k:LI3}{gG:List (TV×TV)}:EO P kt k gG=vI P kt k (gG.map (·.1)):=by
 unfold EO vI;cases hv:BX (gG.map (·.1))with
 |none=>rfl
 |some vs=>
  have hl:=X9 hv;have:gG.isEmpty=vs.isEmpty:=by cases gG<;>cases vs<;>simp at hl<;>rfl
  simp only[this]<;>rfl
def Sr:TV->List Key
 |.map r=>[.h r]
 |_=>[]
def a3f(h:List HB):TV->Option (List (TV×TV))
 |.nil .map=>some []
 |.map r=>match h[r]? with
  |some (.map es)=>some es
  |_=>none
 |_=>none
theorem KL{t:LI2}{h:List HB}{tm tk:TV}{ok:Bool}{kt e:LI2}{kv:LI3}{es:List (TV×TV)}(hu:P.underlying t=some (.map kt e))(hk:tk.yL=some kv)(he:a3f h tm=some es) :
  iq P t h tm tk ok=match EO P kt kv es with
   |some (some i)=>match es[i]? with
    |some (_,v)=>some (if ok then .cO [v,.bool true]else v)
    |none=>none
   |some none=>match P.info? e with
    |some i=>match i.zero with
     |some z=>(TV.VJ z).map fun z=>if ok then .cO [z,.bool false]else z
     |none=>none
    |none=>none
   |none=>none:=by
 unfold iq;simp only[hu,hk];cases tm with
 |nil k=>
  cases k<;>simp only[a3f]at he<;>try (cases he;done)
  cases he;rfl
 |map r=>
  simp only[a3f]at he;split at he
  .rename_i es0 hb;cases he;simp only[hb];rfl
  .cases he
 |_=>simp[a3f]at he
theorem Dj{H:List (PB X.Γ)}{h:List HB}(hr:HR X P A m H h){r:Nat}{es:List (PV X.Γ×PV X.Γ)}(he:KG X H r=some es):∃c gG,(m[r]? = some (.gJ c)∨(m[r]? = some (.jy c)∧c∉bC m))∧h[c]? = some (.map gG)∧es.length=gG.length ∧
  ∀(i:Nat) x y,es[i]? = some x->gG[i]? = some y->qp x.1=some y.1∧qp x.2=some y.2:=by
 unfold KG at he;split at he
 .rename_i es0 hb;cases he;obtain⟨mb,g1,g2⟩:=hr.at_ r _ hb;cases mb with
  |gJ c=>obtain⟨gG,g3,g4,g5⟩:=g2;exact⟨c,gG,.inl g1,g3,g4,g5⟩
  |_=>exact g2.elim
 .rename_i es0 hb;cases he;obtain⟨mb,g1,g2⟩:=hr.at_ r _ hb;cases mb with
  |jy c=>obtain⟨g0,gG,g3,g4,g5⟩:=g2;exact⟨c,gG,.inr ⟨g1,g0⟩,g3,g4,g5⟩
  |_=>exact g2.elim
 .cases he
theorem a1m{B:Nat->Prop}{h:List HB}{r c:Nat}{tm:TV}(hm:VR X P B m h (.map r) tm)(hc:m[r]? = some (.gJ c)∨(m[r]? = some (.jy c)∧c∉bC m)):tm=.map c:=by
 cases hm with
 |map e=>
  rcases hc with h|⟨h,_⟩<;>rw[h]at e<;>cases e
  rfl
 |gone hi e _=>
  simp only[bD,a01]at hi;subst hi;rcases hc with h|⟨h,_⟩<;>rw[h]at e
  .cases e
  cases e with
  |r c hv=>simp only[roV,a01]at hv;exact hv.symm
theorem Sv{r c:Nat}{ks:List Key}(hc:m[r]? = some (.gJ c)∨(m[r]? = some (.jy c)∧c∉bC m)):(∃i,Key.h i∈Key.h r::ks∧G7 m i c)∨c∉bC m:=by
 rcases hc with h|⟨_,h⟩
 .exact .inl ⟨r,by simp,iP h rfl⟩
 exact .inr h
theorem aeB{ps:aT X.Γ}{ts:St}(hR:uY X P A m ps ts){mv:PV X.Γ}{tm:TV}(hm:VR X P (AA A m) m ts.heap mv tm){es:List (PV X.Γ×PV X.Γ)}(he:a5T X ps.heap mv=some es) :
  ∃gG,a3f ts.heap tm=some gG∧es.length=gG.length∧(∀(i:Nat) x y,es[i]? = some x->gG[i]? = some y->VR X P (AA A m) m ts.heap x.1 y.1∧VR X P (AA A m) m ts.heap x.2 y.2) ∧
   IR m ts.heap ⟨fQ (RX X mv),false,false,true⟩ (fQ (Sr tm)):=by
 cases mv with
 |nil k=>
  cases hm with
  |nil=>
   cases k<;>simp only[a5T]at he<;>try (cases he;done)
   cases he;exact⟨[],rfl,rfl,fun i x y hx=>by simp at hx,IR.reads rfl (by simp[Sr]) (by simp[Sr])⟩
  |gone hi _ _=>simp[bD]at hi
 |map r=>
  simp only[a5T]at he;obtain⟨c,gG,g0,g3,g4,g5⟩:=Dj hR.heap he;have htm:=a1m hm g0;subst htm;refine⟨gG,by simp only[a3f,g3],g4,fun i x y e1 e2=>⟨nY (g5 i x y e1 e2).1,nY (g5 i x y e1 e2).2⟩,IR.reads rfl (fun b hb=>?_) (by simp[Sr])⟩;simp[Sr]at hb;subst hb;exact⟨Sv g0,(a0a.1 g3).1⟩
 |_=>simp[a5T]at he
theorem MR{a b:PV X.Γ}{x y:TV}(h1:VR X P A m h a x)(h2:VR X P A m h b y):VR X P A m h (.cO [a,b]) (.cO [x,y]):=by
 have:=(bY.nil (X:=X) (P:=P) (A:=A) (m:=m) (h:=h)).cons h2 |>.cons h1
 exact .cO this.1 this.2
theorem Xa{e:LI2}{z:PV X.Γ}(h:Ox X P e=some z):∃i z0 z1,P.info? e=some i∧i.zero=some z0∧TV.VJ z0=some z1∧YA z1=some z:=by
 unfold Ox at h;split at h
 .rename_i i hi;split at h
  .rename_i z0 hz0;split at h
   .rename_i z1 hz1;exact⟨i,z0,z1,hi,hz0,hz1,h⟩
   cases h
  cases h
 cases h
theorem a9S{ρ:Type}{y:ρ}{ps:aT X.Γ}{ts:St}(hR:uY X P A m ps ts){t:LI2}{mv kv:PV X.Γ}{tm tk:TV}(hm:VR X P (AA A m) m ts.heap mv tm)(hk:VR X P (AA A m) m ts.heap kv tk){ok:Bool}{an:PT X.Γ}{c:PE X.Γ->PI->PT X.Γ->OT ρ}
  (hl:(Zu X P t ps mv kv ok an c).Ends y):∃v pi I5 w,iq P t ts.heap tm tk ok=some w∧VR X P (AA A m) m ts.heap v w∧(c (.val v) pi I5).Ends y∧IR m ts.heap pi (fQ (Sr tm)):=by
 unfold Zu at hl;split at hl
 .rename_i kt e tk' es hu htk LU;have:=jT hk htk;subst this;obtain⟨gG,f1,f2,f3,f4⟩:=aeB hR hm LU;have fnd:∀{xY ks j k0 v},tk.yL=some xY->vH X es=some ks->vI P kt xY ks=some (some j)->es[j]? = some (k0,v)->∃w,iq P t ts.heap tm tk ok=some w∧VR X P (AA A m) m ts.heap (if ok then .cO [v,.bool true]else v) w:=by
   intro xY ks j k0 v OH EX OI hj;have sN:=rJ f2 f3 EX;have aQ:j<gG.length:=by rw[<-f2];exact(a0a.1 hj).1
   have E5:=a0n aQ;have hv:=(f3 j _ _ hj E5).2;refine⟨(if ok then .cO [gG[j].2,.bool true]else gG[j].2),?_,?_⟩
   .rw[KL hu OH f1];simp only[qg,sN,OI,E5]
   .cases ok with
    |true=>exact MR hv (.bool _)
    |false=>exact hv
  have non:∀{xY ks z},tk.yL=some xY->vH X es=some ks->vI P kt xY ks=some none->Ox X P e=some z->∃w,iq P t ts.heap tm tk ok=some w∧VR X P (AA A m) m ts.heap (if ok then .cO [z,.bool false]else z) w:=by
   intro xY ks z OH EX OI hz;have sN:=rJ f2 f3 EX;obtain⟨i,z0,z1,hi,hz0,hz1,hz2⟩:=Xa hz;refine⟨(if ok then .cO [z1,.bool false]else z1),?_,?_⟩
   .rw[KL hu OH f1];simp only[qg,sN,OI,hi,hz0,hz1,a0A]
   .cases ok with
    |true=>exact MR (wX hz2) (.bool _)
    |false=>exact wX hz2
  split at hl
  .obtain⟨⟨xY,ks,j,k0,g1,g2,g3,g4⟩,hl⟩:=hl;obtain⟨w,w1,w2⟩:=fnd g1 g2 g3 g4;exact⟨_,_,_,w,w1,w2,hl,f4⟩
  .split at hl
   .rename_i z hz;obtain⟨⟨xY,ks,g1,g2,g3⟩,hl⟩:=hl;obtain⟨w,w1,w2⟩:=non g1 g2 g3 hz;exact⟨_,_,_,w,w1,w2,hl,f4⟩
   .exact hl.elim
  .split at hl
   .rename_i z hz;obtain⟨⟨xY,ks,g1,g2,g3⟩,hl⟩:=hl;obtain⟨w,w1,w2⟩:=non g1 g2 g3 hz;exact⟨_,_,_,w,w1,w2,hl,f4⟩
   .exact hl.elim
  .split at hl
   .rename_i xY ks OH EX;split at hl
    .rename_i j r _ _;split at hl
     .rename_i k0 v hj;obtain⟨OI,hl⟩:=hl;obtain⟨w,w1,w2⟩:=fnd OH EX OI hj;exact⟨_,_,_,w,w1,w2,hl,f4⟩
     .exact hl.elim
    .split at hl
     .rename_i z hz;obtain⟨OI,hl⟩:=hl;obtain⟨w,w1,w2⟩:=non OH EX OI hz;exact⟨_,_,_,w,w1,w2,hl,f4⟩
     .exact hl.elim
    .exact hl.elim
   .exact hl.elim
 .exact hl.elim
theorem a3g{x:TV}{v:PV X.Γ}(h:ofC x=some v):qY v=some x:=by cases x<;>simp only[ofC,a01,reduceCtorEq]at h<;>subst h<;>rfl
theorem OJ:∀{x:List TV} {v:List (PV X.Γ)},CJ x=some v->iQ v=some x
 | [],v,h=>by cases h;rfl
 |a::l,v,h=>by
  simp only[CJ]at h;split at h
  .rename_i b bs h1 h2;cases h;simp only[iQ,a3g h1,OJ h2]
  cases h
theorem a9T{x:TV}{v:PV X.Γ}(h:YA x=some v):qp v=some x:=by
 cases x
 case agg cs=>
  simp only[YA,a0i]at h;obtain⟨w,h1,rfl⟩:=h;simp only[qp,OJ h1,a0A]
 all_goals
  simp only[YA,ofC,a01,reduceCtorEq]at h
  try subst h
  try rfl
theorem ZF{ps:aT X.Γ}{ts:St}(hR:uY X P A m ps ts){r cb:Nat}{es0:List (TV×TV)}(g1:m[r]? = some (.gJ cb))(f1:ts.heap[cb]? = some (.map es0))(en:List (PV X.Γ×PV X.Γ))(en':List (TV×TV))(h1:en.length=en'.length)
  (h2:∀(i:Nat) x y,en[i]? = some x->en'[i]? = some y->qp x.1=some y.1∧qp x.2=some y.2) :
  uY X P A m { ps with heap:=ps.heap.set r (.map en) } { ts with heap:=ts.heap.set cb (.map en') }∧Fr m ts.heap m (ts.heap.set cb (.map en')):=by
 have aQ:=(a0a.1 f1).1;obtain⟨q1,q2⟩:=hR.heap.set (pb:=.map en) (hb:=.map en') g1 (c:=cb) rfl (fun cs hc=>by simp[aX,f1]at hc) fun hF=>⟨en',by simp[aQ],h1,h2⟩;exact⟨hR.step q1 q2 .refl,q2⟩
theorem Sz{es:List (PV X.Γ×PV X.Γ)}{gG:List (TV×TV)}(f2:es.length=gG.length)(f3:∀(i:Nat) x y,es[i]? = some x->gG[i]? = some y->qp x.1=some y.1∧qp x.2=some y.2){k v:PV X.Γ}{tk tv:TV}(h1:qp k=some tk)(h2:qp v=some tv) :
  ∀(i:Nat) x y,(es++[(k,v)])[i]? = some x->(gG++[(tk,tv)])[i]? = some y->qp x.1=some y.1∧qp x.2=some y.2:=fun i a b ha qL=>by
 rcases a4u i es.length with aQ|ET
 .rw[a0p aQ]at ha;rw[a0p (by rw[<-f2];exact aQ)]at qL;exact f3 i a b ha qL
 .rw[a0G ET]at ha;rw[a0G (by rw[<-f2];exact ET),<-f2]at qL;cases hx:i-es.length with
  |zero=>
   rw[hx]at ha qL;simp only[a2C,a01]at ha qL;subst ha;subst qL;exact⟨h1,h2⟩
  |succ n=>rw[hx]at ha;simp at ha
theorem a6j{ps:aT X.Γ}{ts:St}(hR:uY X P A m ps ts){r:Nat}{es:List (PV X.Γ×PV X.Γ)}{tm:TV}(hb:ps.heap[r]? = some (.map es))(hm:VR X P (AA A m) m ts.heap (.map r) tm) :
  ∃cb gG,tm=.map cb∧m[r]? = some (.gJ cb)∧ts.heap[cb]? = some (.map gG)∧es.length=gG.length∧∀(i:Nat) x y,es[i]? = some x->gG[i]? = some y->qp x.1=some y.1∧qp x.2=some y.2:=by
 obtain⟨mb,g1,g2⟩:=hR.heap.at_ r _ hb;cases mb with
 |gJ cb=>
  obtain⟨gG,f1,f2,f3⟩:=g2;cases hm with
  |gone hi e' _=>simp only[bD,a01]at hi;subst hi;rw[g1]at e';cases e'
  |map e'=>rw[g1]at e';cases e';exact⟨cb,gG,rfl,g1,f1,f2,f3⟩
 |_=>exact g2.elim
theorem a9U{ρ:Type}{y:ρ}{ps:aT X.Γ}{ts:St}(hR:uY X P A m ps ts){t:LI2}{mv kv:PV X.Γ}{tm tk:TV}(hm:VR X P (AA A m) m ts.heap mv tm)(hk:VR X P (AA A m) m ts.heap kv tk){an:PT X.Γ}{c:PE X.Γ->aT X.Γ->PI->PT X.Γ->OT ρ}
  (hl:(a5W X P t ps mv kv an c).Ends y):∃e e' ps1 pi I5 h1 ti,CQ P t ts tm tk=some (e',{ ts with heap:=h1 },ti)∧IU X P (AA A m) m h1 e e'∧uY X P A m ps1 { ts with heap:=h1 }∧Fr m ts.heap m h1∧(c e ps1 pi I5).Ends y∧IR m ts.heap pi ti∧∀b,.h b∈ti.ws->b∈bC m:=by
 unfold a5W at hl;split at hl
 .rename_i kt e tk' r hu htk;have:=jT hk htk;subst this;split at hl
  .rename_i es hb;obtain⟨cb,gG,rfl,g1,f1,f2,f3⟩:=a6j hR hb hm;have f3v:∀(i:Nat) x y,es[i]? = some x->gG[i]? = some y->VR X P (AA A m) m ts.heap x.1 y.1∧VR X P (AA A m) m ts.heap x.2 y.2:=fun i x y e1 e2=>⟨nY (f3 i x y e1 e2).1,nY (f3 i x y e1 e2).2⟩;have aQ:=(a0a.1 f1).1;split at hl
   .rename_i v _ j rest;split at hl
    case h_2=>exact hl.elim
    rename_i va vx;obtain⟨⟨xY,ks,old,ov,OH,c1,EX,c2,hj,hold,hov,c3⟩,hl⟩:=hl;have sN:=rJ f2 f3v EX;have E5:j<gG.length:=by rw[<-f2];exact(a0a.1 hj).1
    have VK:=a0n E5;have hy1:(gG[j]).1=old:=by
     have:(gG.map (·.1))[j]? = some (gG[j]).1:=by rw[a4y,VK];rfl
     rw[sN,hold]at this;exact(a9o this).symm
    have htv:=(f3 j _ _ hj VK).2;obtain⟨w1,w2⟩:=ZF hR g1 f1 es (gG.set j (tk,(gG[j]).2)) (by simp[f2]) fun i a b ha qL=>by
     by_cases e:j=i
     .subst e;rw[a4x,VK]at qL;rw[hj]at ha;cases ha;cases qL;exact⟨htk,htv⟩
     .rw[a1l e]at qL;exact f3 i a b ha qL
    have FK:ps.heap.set r (.map es)=ps.heap:=by
     refine a9X fun i=>?_;by_cases e:r=i
     .subst e;rw[a1E (a0a.1 hb).1,hb]
     .rw[a1l e]
    rw[FK]at w1;refine⟨.ent r j (.int va vx),.ent cb j (gG[j]).2,_,_,_,_,pF (.h cb),?_,⟨.map g1,rfl,htv⟩,w1,w2,hl,.wrH (iP g1 rfl) aQ,fun b hb=>by simp[pF]at hb;subst hb;exact bf g1 rfl⟩;have QX:gG[j].1=tk:=by have:=(f3 j _ _ hj VK).1;rw[htk]at this;exact(a9o this).symm
    have hv1:gG[j].2=.int va vx:=by have h9:some (TV.int va vx)=some (gG[j]).2:=htv;exact(a9o h9).symm
    have Wp:gG.set j (tk,(gG[j]).2)=gG:=by rw[show(tk,(gG[j]).2)=gG[j]from ado QX.symm rfl];exact List.set_getElem_self E5
    have hl1:iq P t ts.heap (.map cb) tk false=some (.int va vx):=by unfold iq;simp only[hu,OH,f1,qg,sN,c2,VK,hv1,a2z,a3l]
    have hcb:ts.heap.set cb (.map gG)=ts.heap:=by
     refine a9X fun i=>?_;by_cases e:cb=i
     .subst e;rw[a1E aQ,f1]
     .rw[a1l e]
    have h0:Ah P t ts (.map cb) tk=some (.ent cb j (gG[j]).2,{ ts with heap:=ts.heap.set cb (.map (gG.set j (tk,(gG[j]).2))) },pF (.h cb)):=by unfold Ah;simp only[hu,OH,f1,c1,qg,sN,c2,VK,hy1,hov,c3,a1I]
    unfold CQ;rw[h0];simp only[];rw[a0u];unfold a0o;rw[Wp,hcb,hl1];simp
   .split at hl
    .rename_i va vx hz;obtain⟨⟨xY,q1,c1⟩,⟨ac9,ks,q2,EX,c2⟩,⟨asb,ks2,q3,aog,c4⟩,hl⟩:=hl;rw[q1]at q2;cases q2;rw[q1]at q3;cases q3;obtain⟨i,z0,z1,hi,hz0,hz1,hz2⟩:=Xa hz;have sN:=rJ f2 f3v EX;have hzt:=a9T hz2;obtain⟨w1,w2⟩:=ZF hR g1 f1 (es++[(kv,.int va vx)]) (gG++[(tk,z1)]) (by simp[f2]) (Sz f2 f3 htk hzt);refine⟨.ent r es.length (.int va vx),.ent cb gG.length z1,_,_,_,_,pF (.h cb),?_,⟨.map g1,f2,hzt⟩,w1,w2,hl,.wrH (iP g1 rfl) aQ,fun b hb=>by simp[pF]at hb;subst hb;exact bf g1 rfl⟩;have hv1:z1=.int va vx:=by have h9:some (TV.int va vx)=some z1:=hzt;exact(a9o h9).symm
     have hl1:iq P t ts.heap (.map cb) tk false=some (.int va vx):=by unfold iq;simp only[hu,q1,f1,qg,sN,c2,hi,hz0,hz1,hv1,a0A,a2z,a3l]
     have aeC:(gG++[(tk,z1)]).map (·.1)=ks2:=rJ (P:=P) (A:=AA A m) (m:=m) (h:=ts.heap) (es:=es++[(kv,.int va vx)]) (by simp[f2]) (fun i x y e1 e2=>let ⟨a1,a2⟩:=Sz f2 f3 htk hzt i x y e1 e2;⟨nY a1,nY a2⟩) aog;have QZ:iq P t (ts.heap.set cb (.map (gG++[(tk,z1)]))) (.map cb) tk false=some (.int va vx):=by
      have e9:(gG++[(tk,z1)])[es.length]? = some (tk,z1):=by rw[f2];simp
      unfold iq;simp only[hu,q1,a1E aQ,qg,aeC,c4,e9,a2z,a3l];rw[hv1]
     have h0:Ah P t ts (.map cb) tk=some (.ent cb gG.length z1,{ ts with heap:=ts.heap.set cb (.map (gG++[(tk,z1)])) },pF (.h cb)):=by unfold Ah;simp only[hu,q1,f1,c1,qg,sN,c2,hi,hz0,hz1]
     unfold CQ;rw[h0];simp only[];rw[a0u];unfold a0o;rw[hl1,QZ];simp
    .exact hl.elim
   .exact hl.elim
  .exact hl.elim
 .exact hl.elim
theorem a9W{ρ:Type}{y:ρ}{ps:aT X.Γ}{ts:St}(hR:uY X P A m ps ts){mv v:PV X.Γ}{e:PE X.Γ}{tm tv:TV}{e':EV}(hm:VR X P (AA A m) m ts.heap mv tm)(he:IU X P (AA A m) m ts.heap e e')(hv:VR X P (AA A m) m ts.heap v tv){c:aT X.Γ->PI->OT ρ}
  (hl:(a5X X ps mv e v c).Ends y):∃ps1 pi h1 ti,Gv ts tm e' tv=some ({ ts with heap:=h1 },ti)∧uY X P A m ps1 { ts with heap:=h1 }∧Fr m ts.heap m h1∧(c ps1 pi).Ends y∧IR m ts.heap pi ti∧∀b,.h b∈ti.ws->b∈bC m:=by
 unfold a5X at hl;split at hl
 .rename_i r r' j tv' htv;have:=jT hv htv;subst this;split at hl
  .rename_i hrr;subst hrr;split at hl
   .rename_i es hb;obtain⟨hj,hl⟩:=hl;obtain⟨cb,gG,rfl,g1,f1,f2,f3⟩:=a6j hR hb hm;obtain⟨c',rfl,hm'⟩:=MO he;have hc:c'=cb:=by
     cases hm' with
     |gone hi e' _=>simp only[bD,a01]at hi;subst hi;rw[g1]at e';cases e'
     |map e'=>rw[g1]at e';cases e';rfl
    subst hc;have aQ:=(a0a.1 f1).1;have E5:j<gG.length:=by rw[<-f2];exact hj
    have VK:=a0n E5;obtain⟨w1,w2⟩:=ZF hR g1 f1 (Jg es j v) (gG.set j ((gG[j]).1,tv)) (by unfold Jg;simp[f2]) fun i a b ha qL=>by
     unfold Jg at ha;rw[adZ]at ha;by_cases e:j=i
     .subst e;rw[a4x,VK]at qL;simp only[a1I,a0n hj,Option.map_eq_map,a0A,a01]at ha;subst ha;cases qL;exact⟨(f3 j _ _ (a0n hj) VK).1,htv⟩
     .rw[a1l e]at qL;have ha:es[i]? = some a:=(by simpa[e]using ha);exact f3 i a b ha qL
    refine⟨_,_,_,pF (.h c'),?_,w1,w2,hl,.wrH (iP g1 rfl) aQ,fun b hb=>by simp[pF]at hb;subst hb;exact bf g1 rfl⟩;unfold Gv;simp only[a1I,f1,VK]
   .exact hl.elim
  .exact hl.elim
 .exact hl.elim
theorem a6l{ρ:Type}{y:ρ}{ps:aT X.Γ}{ts:St}(hR:uY X P A m ps ts){t:LI2}{mv kv v:PV X.Γ}{tm tk tv:TV}(hm:VR X P (AA A m) m ts.heap mv tm)(hk:VR X P (AA A m) m ts.heap kv tk)(hv:VR X P (AA A m) m ts.heap v tv){an:PT X.Γ}{c:aT X.Γ->PI->PT X.Γ->OT ρ}
  (hl:(a5U X P t ps mv kv v an c).Ends y):∃ps1 pi I5 h1 ti,y9 P t ts tm tk tv=some ({ ts with heap:=h1 },ti)∧uY X P A m ps1 { ts with heap:=h1 }∧Fr m ts.heap m h1∧(c ps1 pi I5).Ends y∧IR m ts.heap pi ti∧∀b,.h b∈ti.ws->b∈bC m:=by
 unfold a5U at hl;split at hl
 .rename_i kt e tk' r tv' hu htk htv;have:=jT hk htk;subst this;have:=jT hv htv;subst this;split at hl
  .rename_i es hb;obtain⟨mb,g1,g2⟩:=hR.heap.at_ r _ hb;cases mb with
   |gJ cb=>
    obtain⟨gG,f1,f2,f3⟩:=g2;have f3v:∀(i:Nat) x y,es[i]? = some x->gG[i]? = some y->VR X P (AA A m) m ts.heap x.1 y.1∧VR X P (AA A m) m ts.heap x.2 y.2:=fun i x y e1 e2=>⟨nY (f3 i x y e1 e2).1,nY (f3 i x y e1 e2).2⟩;cases hm with
    |gone hi e' _=>simp only[bD,a01]at hi;subst hi;rw[g1]at e';cases e'
    |map e'=>
     rw[g1]at e';cases e';have aQ:=(a0a.1 f1).1;have wr:∀(en:List (PV X.Γ×PV X.Γ)) (en':List (TV×TV)),en.length=en'.length->(∀(i:Nat) x y,en[i]? = some x->en'[i]? = some y->qp x.1=some y.1∧qp x.2=some y.2) ->
       uY X P A m { ps with heap:=ps.heap.set r (.map en) } { ts with heap:=ts.heap.set cb (.map en') }∧Fr m ts.heap m (ts.heap.set cb (.map en')):=by
      intro en en' h1 h2;obtain⟨q1,q2⟩:=hR.heap.set (pb:=.map en) (hb:=.map en') g1 (c:=cb) rfl (fun cs hc=>by simp[aX,f1]at hc) fun hF=>⟨en',by simp[aQ],h1,h2⟩;exact⟨hR.step q1 q2 .refl,q2⟩
     have new:∀{xY ks},tk.yL=some xY->vH X es=some ks->aB P (Instr.checkKey false 10000 kt xY)=some ()->vI P kt xY ks=some none ->
       y9 P t ts (.map cb) tk tv=some ({ ts with heap:=ts.heap.set cb (.map (gG++[(tk,tv)])) },pF (.h cb))∧uY X P A m { ps with heap:=ps.heap.set r (.map (es++[(kv,v)])) } { ts with heap:=ts.heap.set cb (.map (gG++[(tk,tv)])) }∧Fr m ts.heap m (ts.heap.set cb (.map (gG++[(tk,tv)]))):=by
      intro xY ks OH EX c1 c2;have sN:=rJ f2 f3v EX;obtain⟨w1,w2⟩:=wr (es++[(kv,v)]) (gG++[(tk,tv)]) (by simp[f2]) fun i a b ha qL=>by
       rcases a4u i es.length with aQ|ET
       .rw[a0p aQ]at ha;rw[a0p (by rw[<-f2];exact aQ)]at qL;exact f3 i a b ha qL
       .rw[a0G ET]at ha;rw[a0G (by rw[<-f2];exact ET),<-f2]at qL;cases hx:i-es.length with
        |zero=>
         rw[hx]at ha qL;simp only[a2C,a01]at ha qL;subst ha;subst qL;exact⟨htk,htv⟩
        |succ n=>rw[hx]at ha;simp at ha
      refine⟨?_,w1,w2⟩;unfold y9;simp only[hu,OH,f1,c1,qg,sN,c2]
     split at hl
     .obtain⟨⟨xY,q1,c1⟩,⟨ac9,ks,q2,EX,c2⟩,hl⟩:=hl;rw[q1]at q2;cases q2;obtain⟨u1,u2,u3⟩:=new q1 EX c1 c2;exact⟨_,_,_,_,pF (.h cb),u1,u2,u3,hl,.wrH (iP g1 rfl) aQ,fun b hb=>by simp[pF]at hb;subst hb;exact bf g1 rfl⟩
     .obtain⟨⟨xY,q1,c1⟩,⟨ac9,ks,q2,EX,c2⟩,hl⟩:=hl;rw[q1]at q2;cases q2;obtain⟨u1,u2,u3⟩:=new q1 EX c1 c2;exact⟨_,_,_,_,pF (.h cb),u1,u2,u3,hl,.wrH (iP g1 rfl) aQ,fun b hb=>by simp[pF]at hb;subst hb;exact bf g1 rfl⟩
     .obtain⟨⟨xY,ks,j,old,ov,OH,c1,EX,c2,hj,hold,hov,c3⟩,hl⟩:=hl;have sN:=rJ f2 f3v EX;have E5:∃y0,gG[j]? = some y0:=by
       have:j<gG.length:=by rw[<-f2];exact(a0a.1 hj).1
       exact⟨_,a0n this⟩
      obtain⟨y0,VK⟩:=E5;have hy1:y0.1=old:=by
       have:(gG.map (·.1))[j]? = some y0.1:=by rw[a4y,VK];rfl
       rw[sN,hold]at this;exact(a9o this).symm
      obtain⟨w1,w2⟩:=wr es (gG.set j (tk,tv)) (by simp[f2]) fun i a b ha qL=>by
       by_cases e:j=i
       .subst e;rw[a4x]at qL;rw[hj]at ha;rw[VK]at qL;cases ha;cases qL;exact⟨htk,htv⟩
       .rw[a1l e]at qL;exact f3 i a b ha qL
      have FK:ps.heap.set r (.map es)=ps.heap:=by
       refine a9X fun i=>?_;by_cases e:r=i
       .subst e;rw[a1E (a0a.1 hb).1,hb]
       .rw[a1l e]
      rw[FK]at w1;refine⟨_,_,_,_,pF (.h cb),?_,w1,w2,hl,.wrH (iP g1 rfl) aQ,fun b hb=>by simp[pF]at hb;subst hb;exact bf g1 rfl⟩;unfold y9;simp only[hu,OH,f1,c1,qg,sN,c2,VK,hy1,hov,c3,a1I]
     .split at hl
      .rename_i xY ks OH EX;have sN:=rJ f2 f3v EX;split at hl
       .rename_i j rest _ _ _;split at hl
        .rename_i x0 old hj hold;split at hl
         .rename_i ov hov;obtain⟨c1,c2,c3,hl⟩:=hl;have E5:∃y0,gG[j]? = some y0:=by
           have:j<gG.length:=by rw[<-f2];exact(a0a.1 hj).1
           exact⟨_,a0n this⟩
          obtain⟨y0,VK⟩:=E5;have hy1:y0.1=old:=by
           have:(gG.map (·.1))[j]? = some y0.1:=by rw[a4y,VK];rfl
           rw[sN,hold]at this;exact(a9o this).symm
          obtain⟨w1,w2⟩:=wr (es.set j (kv,v)) (gG.set j (tk,tv)) (by simp[f2]) fun i a b ha qL=>by
           by_cases e:j=i
           .subst e;rw[a4x]at ha qL;rw[hj]at ha;rw[VK]at qL;cases ha;cases qL;exact⟨htk,htv⟩
           .rw[a1l e]at ha qL;exact f3 i a b ha qL
          refine⟨_,_,_,_,pF (.h cb),?_,w1,w2,hl,.wrH (iP g1 rfl) aQ,fun b hb=>by simp[pF]at hb;subst hb;exact bf g1 rfl⟩;unfold y9;simp only[hu,OH,f1,c1,qg,sN,c2,VK,hy1,hov,c3,a1I]
         .exact hl.elim
        .exact hl.elim
       .obtain⟨c1,c2,hl⟩:=hl;obtain⟨u1,u2,u3⟩:=new OH EX c1 c2;exact⟨_,_,_,_,pF (.h cb),u1,u2,u3,hl,.wrH (iP g1 rfl) aQ,fun b hb=>by simp[pF]at hb;subst hb;exact bf g1 rfl⟩
       .exact hl.elim
      .exact hl.elim
   |_=>exact g2.elim
  .exact hl.elim
 .exact hl.elim
end
open Go Tw
theorem kJ{m:List MB}{b:Nat}(h:b∈bC m):∃i,G7 m i b:=by obtain⟨mb,h1,h2⟩:=a6h.1 h;obtain⟨i,hi⟩:=a8Y h1;exact⟨i,mb,hi,h2⟩
section
variable {X:kP} {P:LI1} {A B:Nat->Prop} {m m1:List MB} {h:List HB} {g:Nat->Option Nat}
theorem jH:∀{m:List MB},(∀i j c,G7 m i c->G7 m j c->i=j)->(bC m).Nodup
 | [],_=>by simp[bC]
 |x::m,hu=>by
  have ih:(bC m).Nodup:=jH fun i j c h1 h2=>by have:=hu (i+1) (j+1) c (by obtain⟨mb,a,b⟩:=h1;exact⟨mb,by simpa using a,b⟩) (by obtain⟨mb,a,b⟩:=h2;exact⟨mb,by simpa using a,b⟩);omega
  unfold bC at ih ⊢;rw[a9m];split
  .exact ih
  rename_i b hb;refine a4z.2 ⟨fun hm=>?_,ih⟩;obtain⟨i,mb,h1,h2⟩:=kJ (m:=m) hm;have:=hu 0 (i+1) b ⟨x,rfl,hb⟩ ⟨mb,by simpa using h1,h2⟩;omega
theorem OL:∀{ks:List Nat} {i p:Nat},wS ks i=some p->ks[p]? = some i
 | [],i,p,h=>by cases h
 |a::ks,i,p,h=>by
  simp only[wS]at h;split at h
  .rename_i e;cases h;simp[e]
  simp only[a0i]at h;obtain⟨q,h1,rfl⟩:=h;simpa using OL h1
section
variable {g:Nat->Option Nat} {m1:List MB}
theorem Ej(hg:∀i j,g i=some j->m1[j]? = m[i]?){B:Nat->Prop}(hA:∀b,A b->B b)(hX:bP X P){v:PV X.Γ}{x:TV}(hv:VR X P A m h v x):∀{w:PV X.Γ},fJ g v=some w->VR X P B m1 h w x:=by
 have lists:∀{vs:List (PV X.Γ)} {xs:List TV},vs.length=xs.length->(∀(i:Nat) a b,vs[i]? = some a->xs[i]? = some b->∀{w:PV X.Γ},fJ g a=some w->VR X P B m1 h w b)->∀{ws:List (PV X.Γ)},fJ.pz g vs=some ws->ws.length=xs.length∧∀(i:Nat) a b,ws[i]? = some a->xs[i]? = some b->VR X P B m1 h a b:=by
  intro vs
  induction vs with
  |nil=>
   intro xs hl _ ws hw;simp only[fJ.pz,a01]at hw;subst hw;exact⟨hl,fun i a b ha=>by simp at ha⟩
  |cons v vs ih=>
   intro xs hl hh ws hw;cases xs with
   |nil=>simp at hl
   |cons x xs=>
    simp only[fJ.pz]at hw;split at hw
    .rename_i w VT h1 h2;cases hw;obtain⟨e1,e2⟩:=ih (xs:=xs) (by simpa using hl) (fun i a b ha hb=>hh (i+1) a b (by simpa using ha) (by simpa using hb)) h2;refine⟨by simp[e1],fun i a b ha hb=>?_⟩;cases i with
     |zero=>simp only[a2C,a01]at ha hb;subst ha;subst hb;exact hh 0 v x rfl rfl h1
     |succ i=>exact e2 i a b (by simpa using ha) (by simpa using hb)
    cases hw
 induction hv with
 |bool=>intro w hw;simp only[fJ,a01]at hw;subst hw;exact .bool _
 |lit=>intro w hw;simp only[fJ,a01]at hw;subst hw;exact .lit _
 |int=>intro w hw;simp only[fJ,a01]at hw;subst hw;exact .int _ _
 |str=>intro w hw;simp only[fJ,a01]at hw;subst hw;exact .str _
 |nil=>intro w hw;simp only[fJ,a01]at hw;subst hw;exact .nil _
 |ptr e=>intro w hw;simp only[fJ,a0i]at hw;obtain⟨j,h1,rfl⟩:=hw;exact .ptr (by rw[hg _ _ h1];exact e)
 |aP e=>intro w hw;simp only[fJ,a0i]at hw;obtain⟨j,h1,rfl⟩:=hw;exact .aP (by rw[hg _ _ h1];exact e)
 |own e o=>intro w hw;simp only[fJ,a0i]at hw;obtain⟨j,h1,rfl⟩:=hw;exact .own (by rw[hg _ _ h1];exact e) o
 |win e q q' q2=>intro w hw;simp only[fJ,a0i]at hw;obtain⟨j,h1,rfl⟩:=hw;exact .win (by rw[hg _ _ h1];exact e) q q' q2
 |Cb e=>intro w hw;simp only[fJ,a0i]at hw;obtain⟨j,h1,rfl⟩:=hw;exact .Cb (by rw[hg _ _ h1];exact e)
 |Gq e=>intro w hw;simp only[fJ,a0i]at hw;obtain⟨j,h1,rfl⟩:=hw;exact .Gq (by rw[hg _ _ h1];exact e)
 |Jh e=>intro w hw;simp only[fJ,a0i]at hw;obtain⟨j,h1,rfl⟩:=hw;exact .Jh (by rw[hg _ _ h1];exact e)
 |map e=>intro w hw;simp only[fJ,a0i]at hw;obtain⟨j,h1,rfl⟩:=hw;exact .map (by rw[hg _ _ h1];exact e)
 |iter e=>intro w hw;simp only[fJ,a0i]at hw;obtain⟨j,h1,rfl⟩:=hw;exact .iter (by rw[hg _ _ h1];exact e)
 |kX e=>intro w hw;simp only[fJ,a0i]at hw;obtain⟨j,h1,rfl⟩:=hw;exact .kX (by rw[hg _ _ h1];exact e)
 |row e j q=>intro w hw;simp only[fJ,a0i]at hw;obtain⟨j,h1,rfl⟩:=hw;exact .row (by rw[hg _ _ h1];exact e) (by assumption) q
 |fn h1 _ h3 _ i2 i4=>
  intro w hw;simp only[fJ]at hw;split at hw
  .rename_i a c ha hc;cases hw;obtain⟨e1,e2⟩:=lists h1 i2 ha;obtain⟨e3,e4⟩:=lists h3 i4 hc;exact .fn e1 e2 e3 e4
  cases hw
 |agg h1 _ i2=>
  intro w hw;simp only[fJ,a0i]at hw;obtain⟨cs,hc,rfl⟩:=hw;obtain⟨e1,e2⟩:=lists h1 i2 hc;exact .agg e1 e2
 |cO h1 _ i2=>
  intro w hw;simp only[fJ,a0i]at hw;obtain⟨cs,hc,rfl⟩:=hw;obtain⟨e1,e2⟩:=lists h1 i2 hc;exact .cO e1 e2
 |pK=>intro w hw;simp only[fJ,a01]at hw;subst hw;exact .pK
 |dJ a c c2 s z o k f e r _=>intro w hw;simp only[fJ,a01]at hw;subst hw;exact .dJ (hA _ a) c c2 s z o k f e fun j y i d v h1 h2 h3=>((r j y i d v h1 h2 h3).mono hA).jw hX (fP (hX.jw _ _) h2)
 |el a c l o e q r _=>intro w hw;simp only[fJ,a01]at hw;subst hw;exact .el (hA _ a) c l o e q fun i d v h1 h2=>((r i d v h1 h2).mono hA).jw hX (fP (hX.jw _ _) h1)
 |gone i e o=>
  intro w hw;rename_i v _ x;have:∃j,bD w=some j∧Dh w x m1[j]?:=by cases v<;>simp[bD]at i<;>subst i<;>simp only[fJ,a0i]at hw<;>obtain⟨j,h1,rfl⟩:=hw<;>exact⟨j,rfl,by rw[hg _ _ h1];exact e.as fun c=>rfl⟩
  obtain⟨j,h1,h2⟩:=this;exact .gone h1 h2 o
variable {B:Nat->Prop}
theorem zI(hX:bP X P)(hg:∀i j,g i=some j->m1[j]? = m[i]?)(hA:∀b,A b->B b):∀{vs:List (PV X.Γ)} {xs:List TV} {ws:List (PV X.Γ)},bY X P A m h vs xs->fJ.pz g vs=some ws->bY X P B m1 h ws xs
 | [],xs,ws,hv,hw=>by simp only[fJ.pz,a01]at hw;subst hw;rw[hv.inv0];exact .nil
 |v::vs,xs,ws,hv,hw=>by
  obtain⟨x,r,rfl,h1,h2⟩:=hv.inv;simp only[fJ.pz]at hw;split at hw
  .rename_i w VT g1 g2;cases hw;exact .cons (Ej hg hA hX h1 g1) (zI hX hg hA h2 g2)
  cases hw
theorem OM(hX:bP X P)(hg:∀i j,g i=some j->m1[j]? = m[i]?)(hA:∀b,A b->B b){env:List (Nat×PE X.Γ)}{env':List (Nat×EV)}(he:jY X P A m h env env'):∀{r:List (Nat×PE X.Γ)},pq g env=some r->jY X P B m1 h r env':=by
 induction he with
 |nil=>intro r h;simp only[pq,a01]at h;subst h;exact .nil
 |cons h1 h2 ih=>
  rename_i k v x q q';intro r hr;simp only[pq]at hr;split at hr
  rotate_left
  .cases hr
  rename_i w r' e1 e2;cases hr;refine .cons ?_ (ih e2);cases v with
  |val v=>
   obtain⟨y,rfl,h3⟩:=gu h1;simp only[Ov,a0i]at e1;obtain⟨u,e3,rfl⟩:=e1;exact nZ (Ej hg hA hX h3 e3)
  |loc a b=>simp only[Ov,a01]at e1;subst e1;rw[Eh h1];exact⟨rfl,rfl⟩
  |undef=>simp only[Ov,a01]at e1;subst e1;rw[Jj h1];trivial
  |ent r j v=>
   obtain⟨c,y,rfl,h3,h4⟩:=ML h1;simp only[Ov,a0i]at e1;obtain⟨u,e3,rfl⟩:=e1;exact⟨Ej hg hA hX h3 (w:=.map u) (by simp only[fJ,e3,a0A]),rfl,h4⟩
  |EG r j=>
   obtain⟨c,rfl,h3⟩:=MO h1;simp only[Ov,a0i]at e1;obtain⟨u,e3,rfl⟩:=e1;exact⟨Ej hg hA hX h3 (w:=.map u) (by simp only[fJ,e3,a0A]),rfl⟩
theorem Em(hX:bP X P)(hg:∀i j,g i=some j->m1[j]? = m[i]?)(hA:∀b,A b->B b){b b':PB X.Γ}{mb:MB}(hn:∀c,mb=.jy c->c∉bC m->c∉bC m1)(hb:BR X P A m h b mb)(hr:zG g b=some b'):BR X P B m1 h b' mb:=by
 cases b with
 |cells cs=>
  cases mb with
  |gJ c=>
   simp only[zG,a0i]at hr;obtain⟨cs',h1,rfl⟩:=hr;obtain⟨xs,h2,h3⟩:=hb;exact⟨xs,h2,zI hX hg hA h3 h1⟩
  |_=>exact hb.elim
 |aF cs=>
  cases mb with
  |jy c=>
   simp only[zG,a0i]at hr;obtain⟨cs',h1,rfl⟩:=hr;obtain⟨h0,xs,h2,h3⟩:=hb;exact⟨hn c rfl h0,xs,h2,zI hX hg hA h3 h1⟩
  |_=>exact hb.elim
 |list k ex t l=>
  cases mb with
  |dJ y=>
   simp only[zG,a01]at hr;subst hr;cases(hb:LR X P A m h k ex t l y)with
   |nil=>exact LR.nil
   |emp p0 p1 p2 p3 p4=>exact LR.emp (hA _ p0) p1 p2 p3 p4
   |some p1 p2 p3 p4 p5 p6 p7 p8 p9=>exact LR.some p1 p2 p3 p4 p5 p6 p7 p8 ((p9.mono hA).jw hX)
  |_=>exact hb.elim
 |map es=>
  cases mb with
  |gJ c=>
   simp only[zG,a01]at hr;subst hr;exact hb
  |_=>exact hb.elim
 |nH cs=>
  cases mb with
  |gJ c=>
   simp only[zG,a01]at hr;subst hr;exact hb
  |_=>exact hb.elim
 |iI es=>
  cases mb with
  |jy c=>
   simp only[zG,a01]at hr;subst hr;exact⟨hn c rfl hb.1,hb.2⟩
  |_=>exact hb.elim
 |dD r n seen=>
  cases mb with
  |gJ b=>
   simp only[zG,a0i]at hr;obtain⟨j,h1,rfl⟩:=hr;obtain⟨c,h2,h3,h4⟩:=hb;exact⟨c,h2,by rw[hg _ _ h1];exact h3,fun c' hc=>h4 c' (by rw[<-hg _ _ h1];exact hc)⟩
  |_=>exact hb.elim
 |mark=>
  cases mb with
  |gJ c=>simp only[zG,a01]at hr;subst hr;exact hb
  |_=>exact hb.elim
 |loop rd f nt env ps a c jP=>
  cases mb with
  |gJ cb=>
   simp only[zG,a0i]at hr;obtain⟨aug,h1,rfl⟩:=hr;obtain⟨xs,h2,h3⟩:=hb;exact⟨xs,h2,OM hX hg hA h3 h1⟩
  |_=>exact hb.elim
 |gone=>
  cases mb with
  |gone=>simp only[zG,a01]at hr;subst hr;trivial
  |_=>exact hb.elim
theorem tJ:∀{bs r:List (PB X.Γ)},nU g bs=some r->r.length=bs.length∧∀{i:Nat} {b':PB X.Γ},r[i]? = some b'->∃b,bs[i]? = some b∧zG g b=some b'
 | [],r,h=>by simp only[nU,a01]at h;subst h;exact⟨rfl,fun{i b'} hi=>by simp at hi⟩
 |b::bs,r,h=>by
  simp only[nU]at h;split at h
  .rename_i c cs h1 h2;cases h;obtain⟨e1,e2⟩:=tJ h2;refine⟨by simp[e1],fun{i b'} hi=>?_⟩;cases i with
   |zero=>simp only[a2C,a01]at hi;subst hi;exact⟨b,rfl,h1⟩
   |succ i=>obtain⟨d,q1,q2⟩:=e2 (i:=i) (by simpa using hi);exact⟨d,by simpa using q1,q2⟩
  cases h
theorem OO:∀{bs r:List (List (PV X.Γ))},WU g bs=some r->r.length=bs.length∧∀{i:Nat} {b':List (PV X.Γ)},r[i]? = some b'->∃b,bs[i]? = some b∧fJ.pz g b=some b'
 | [],r,h=>by simp only[WU,a01]at h;subst h;exact⟨rfl,fun{i b'} hi=>by simp at hi⟩
 |b::bs,r,h=>by
  simp only[WU]at h;split at h
  .rename_i c cs h1 h2;cases h;obtain⟨e1,e2⟩:=OO h2;refine⟨by simp[e1],fun{i b'} hi=>?_⟩;cases i with
   |zero=>simp only[a2C,a01]at hi;subst hi;exact⟨b,rfl,h1⟩
   |succ i=>obtain⟨d,q1,q2⟩:=e2 (i:=i) (by simpa using hi);exact⟨d,by simpa using q1,q2⟩
  cases h
theorem En:∀{ks:List Nat} {H r:List (PB X.Γ)},Dc H ks=some r->r.length=ks.length∧∀{i k:Nat},ks[i]? = some k->∃b,H[k]? = some b∧r[i]? = some b
 | [],H,r,h=>by simp only[Dc,a01]at h;subst h;exact⟨rfl,fun{i k} hi=>by simp at hi⟩
 |k::ks,H,r,h=>by
  simp only[Dc]at h;split at h
  .rename_i b rs h1 h2;cases h;obtain⟨e1,e2⟩:=En h2;refine⟨by simp[e1],fun{i j} hi=>?_⟩;cases i with
   |zero=>simp only[a2C,a01]at hi;subst hi;exact⟨b,h1,rfl⟩
   |succ i=>obtain⟨d,q1,q2⟩:=e2 (i:=i) (k:=j) (by simpa using hi);exact⟨d,q1,by simpa using q2⟩
  cases h
end
theorem tK{α:Type}:∀{ks:List Nat} {bs l:List α},(putAt ks bs l).length=l.length
 | [],_,_=>rfl
 |_::_,[],_=>rfl
 |k::ks,b::bs,l=>by simp only[putAt];rw[tK,a4F]
theorem OQ{α:Type}:∀{ks:List Nat} {bs l:List α} {p i:Nat},ks.Nodup->(∀k∈ks,k<l.length)->ks.length<=bs.length->ks[p]? = some i->(putAt ks bs l)[i]? = bs[p]?
 | [],_,_,p,i,_,_,_,h=>by simp at h
 |a::ks,[],_,_,_,_,_,hl,_=>by simp at hl
 |a::ks,b::bs,l,0,i,hn,hk,hl,h=>by
  simp only[a2C,a01]at h;subst h;have hn:=a4z.1 hn;simp only[putAt];have:∀{ks:List Nat} {bs l:List α} {i:Nat},i∉ks->(putAt ks bs l)[i]? = l[i]?:=by
   intro ks
   induction ks with
   |nil=>intro bs l i _;rfl
   |cons c ks ih=>
    intro bs l i hi;simp only[a1F,adE]at hi;cases bs with
    |nil=>rfl
    |cons b bs=>simp only[putAt];rw[ih hi.2,a1l (fun e=>hi.1 e.symm)]
  rw[this hn.1,a1E (hk a (a2M ..))];rfl
 |a::ks,b::bs,l,p+1,i,hn,hk,hl,h=>by simp only[a9R]at h;simp only[putAt];rw[OQ (a4z.1 hn).2 (fun k oG=>by rw[a4F];exact hk k (a3h _ oG)) (by simpa using hl) h];rfl
theorem Jl{α:Type}:∀{ks:List Nat} {bs l:List α} {i:Nat},i∉ks->(putAt ks bs l)[i]? = l[i]?
 | [],_,_,_,_=>rfl
 |a::ks,[],_,_,_=>rfl
 |a::ks,b::bs,l,i,hi=>by simp only[a1F,adE]at hi;simp only[putAt];rw[Jl hi.2,a1l (fun e=>hi.1 e.symm)]
def Xb(X:kP)(P:LI1)(call:aY)(fv:PV X.Γ)(xs:List (PV X.Γ))(H:List (PB X.Γ))(v:PV X.Γ)(H1:List (PB X.Γ))(W:Nat->Prop):Prop:=
 ∀(A:Nat->Prop) (m:List MB) (h:List HB) (tf:TV) (qN:List TV),HR X P A m H h->VR X P (AA A m) m h fv tf->bY X P (AA A m) m h xs qN ->
  ∃w h1 ws m1,call tf qN h=some (w,h1,ws)∧HR X P A m1 H1 h1∧VR X P (AA A m1) m1 h1 v w∧Fr m h m1 h1∧Up m m1∧∀b∈ws,∃k,W k∧G7 m k b
theorem bZ.w{call:aY}{fv v:PV X.Γ}{xs:List (PV X.Γ)}{H H1:List (PB X.Γ)}(h:bZ X P call fv xs H v H1):Xb X P call fv xs H v H1 fun _=>True:=fun A m h0 tf qN a b c=>by obtain⟨w,h1,ws,m1,c1,c2,c3,c4,c5,c6⟩:=h A m h0 tf qN a b c;exact⟨w,h1,ws,m1,c1,c2,c3,c4,c5,fun b hb=>by obtain⟨i,hi⟩:=kJ (c6 b hb);exact⟨i,trivial,hi⟩⟩
theorem MS:∀{H:List (PB X.Γ)} {i:Nat} {b:PB X.Γ},Jf H=true->H[i]? = some b->Jf [b]=true
 | [],_,_,_,h=>by simp at h
 |a::H,0,b,hn,h=>by simp only[a2C,a01]at h;subst h;cases a<;>simp_all [Jf]
 |a::H,i+1,b,hn,h=>by
  have E8:Jf H=true:=by cases a<;>simp_all [Jf]
  exact MS E8 (by simpa using h)
def SwM(m m':List MB):Prop:=∀i:Nat,m'[i]? = m[i]?∨(∃c,m[i]? = some (.gJ c)∧m'[i]? = some (.jy c))∨∃c,m[i]? = some (.jy c)∧m'[i]? = some (.gJ c)
section
variable {m':List MB}
theorem VR.sw(hm:SwM m m')(hA:∀b,A b->B b){v:PV X.Γ}{x:TV}(hv:VR X P A m h v x):VR X P B m' h v x:=by
 have hl:∀{i:Nat} {x:TV},m[i]? = some (.dJ x)->m'[i]? = some (.dJ x):=fun{i x} e=>by
  rcases hm i with g|⟨c,g,_⟩|⟨c,g,_⟩
  .rw[g,e]
  .rw[e]at g;cases g
  rw[e]at g;cases g
 have hb:∀{i c:Nat},m[i]? = some (.gJ c)->m'[i]? = some (.gJ c)∨m'[i]? = some (.jy c):=fun{i c} e=>by
  rcases hm i with g|⟨c',g,g2⟩|⟨c',g,_⟩
  .exact .inl (by rw[g,e])
  .rw[e]at g;cases g;exact .inr g2
  rw[e]at g;cases g
 induction hv with
 |bool=>exact .bool _
 |lit=>exact .lit _
 |int=>exact .int _ _
 |str=>exact .str _
 |nil=>exact .nil _
 |ptr e=>rcases hb e with e|e;exact .ptr e;exact .gone rfl (.ofR e rfl) rfl
 |aP e=>rcases hb e with e|e;exact .aP e;exact .gone rfl (.ofR e rfl) rfl
 |own e o=>exact .own (hl e) o
 |win e q q' q2=>exact .win (hl e) q q' q2
 |Cb e=>exact .Cb (hl e)
 |Gq e=>exact .Gq (hl e)
 |Jh e=>exact .Jh (hl e)
 |map e=>rcases hb e with e|e;exact .map e;exact .gone rfl (.ofR e rfl) rfl
 |iter e=>rcases hb e with e|e;exact .iter e;exact .gone rfl (.ofR e rfl) rfl
 |fn h1 _ h3 _ i2 i4=>exact .fn h1 i2 h3 i4
 |kX e=>rcases hb e with e|e;exact .kX e;exact .gone rfl (.ofR e rfl) rfl
 |agg h1 _ i2=>exact .agg h1 i2
 |cO h1 _ i2=>exact .cO h1 i2
 |pK=>exact .pK
 |dJ a c c2 s z o k f e _ ih=>exact .dJ (hA _ a) c c2 s z o k f e ih
 |el a c l o e q _ ih=>exact .el (hA _ a) c l o e q ih
 |row e j q=>exact .row (hl e) j q
 | @gone v i x hi e o=>
  generalize hq:m[i]? = q at e;cases e with
  |g=>
   rcases hm i with g|⟨c,g,_⟩|⟨c,g,_⟩
   .exact .gone hi (.of (by rw[g,hq])) o
   .rw[hq]at g;cases g
   rw[hq]at g;cases g
  |r c hv=>
   rcases hm i with g|⟨c',g,_⟩|⟨c',g,g2⟩
   .exact .gone hi (.ofR (by rw[g,hq]) hv) o
   .rw[hq]at g;cases g
   rw[hq]at g;cases g;cases v<;>simp only[roV,a01]at hv<;>first|cases hv;done|skip
   all_goals (subst hv;simp only[bD,a01]at hi;subst hi)
   .exact .ptr g2
   .exact .aP g2
   .exact .map g2
   .exact .kX g2
   exact .iter g2
theorem bY.sw(hm:SwM m m')(hA:∀b,A b->B b){v:List (PV X.Γ)}{x:List TV}(hv:bY X P A m h v x):bY X P B m' h v x:=
 ⟨hv.1,fun i a b ha hb=>(hv.2 i a b ha hb).sw hm hA⟩
theorem jY.sw(hm:SwM m m')(hA:∀b,A b->B b){v:List (Nat×PE X.Γ)}{x:List (Nat×EV)}(hv:jY X P A m h v x):jY X P B m' h v x:=by
 induction hv with
 |nil=>exact .nil
 |cons h1 _ ih=>
  refine .cons ?_ ih;rename_i v x _ _ _;cases v<;>cases x<;>first|exact VR.sw hm hA h1|exact h1|exact⟨VR.sw hm hA h1.1,h1.2⟩
theorem BR.sw(hm:SwM m m')(hA:∀b,A b->B b){b:PB X.Γ}{mb:MB}(hn:∀c,mb=.jy c->c∉bC m->c∉bC m')(hb:BR X P A m h b mb):BR X P B m' h b mb:=by
 cases b with
 |cells cs=>cases mb with
  |gJ b=>obtain⟨cs',h1,h2⟩:=hb;exact⟨cs',h1,h2.sw hm hA⟩
  |_=>exact hb.elim
 |aF cs=>cases mb with
  |jy b=>obtain⟨h0,cs',h1,h2⟩:=hb;exact⟨hn b rfl h0,cs',h1,h2.sw hm hA⟩
  |_=>exact hb.elim
 |list k ex t l=>cases mb with
  |dJ x=>
   cases(hb:LR X P A m h k ex t l x)with
   |nil=>exact LR.nil
   |emp h0 h1 h2 h3 h4=>exact LR.emp (hA _ h0) h1 h2 h3 h4
   |some h1 h2 h3 h4 h5 h6 h7 h8 h9=>exact LR.some h1 h2 h3 h4 h5 h6 h7 h8 ⟨h9.1,h9.2.1,fun j a i c v a1 a2 a3=>(h9.2.2 j a i c v a1 a2 a3).sw hm hA⟩
  |_=>exact hb.elim
 |map es=>cases mb with
  |gJ b=>exact hb
  |_=>exact hb.elim
 |nH cs=>cases mb with
  |gJ b=>exact hb
  |_=>exact hb.elim
 |iI es=>cases mb with
  |jy b=>exact⟨hn b rfl hb.1,hb.2⟩
  |_=>exact hb.elim
 |dD r n seen=>cases mb with
  |gJ b=>
   obtain⟨c,h1,h2,h3⟩:=hb;refine⟨c,h1,?_,fun c' hc=>?_⟩
   .rcases hm r with g|⟨c',g,g2⟩|⟨c',g,g2⟩
    .rw[g];exact h2
    .rw[g2];rfl
    .rw[g2];rfl
   .rcases hm r with g|⟨c2,g,g2⟩|⟨c2,g,g2⟩
    .exact h3 c' (by rw[<-g];exact hc)
    .rw[g2]at hc;simp at hc;subst hc;exact h3 c2 (.inl g)
    .rw[g2]at hc;simp at hc;subst hc;exact h3 c2 (.inr g)
  |_=>exact hb.elim
 |mark=>cases mb with
  |gJ b=>exact hb
  |_=>exact hb.elim
 |loop rd f nt env ps a c jP=>cases mb with
  |gJ b=>obtain⟨e',h1,h2⟩:=hb;exact⟨e',h1,h2.sw hm hA⟩
  |_=>exact hb.elim
 |gone=>cases mb with
  |gone=>trivial
  |_=>exact hb.elim
end
theorem aeD{call:aY}{fv v:PV X.Γ}{xs:List (PV X.Γ)}{H H1:List (PB X.Γ)}{W:Nat->Prop}{r:Nat}{cs MP:List (PV X.Γ)}(h0:H[r]? = some (.cells cs))(h9:H1[r]? = some (.cells MP))(hro:Jf (H1.drop H.length)=true)
  (hs:Xb X P call fv xs (H.set r (.aF cs)) v (H1.set r (.aF MP)) W):Xb X P call fv xs H v H1 fun k=>W k∧k≠r:=fun A m h tf qN hr hf hx=>by
 obtain⟨mb0,q1,q2⟩:=hr.at_ r _ h0;have hrl:r<H.length:=(a0a.1 h0).1;have hrm:r<m.length:=by rw[hr.len];exact hrl
 cases mb0 with
 |gJ c=>
  obtain⟨cs',q3,q4⟩:=q2;have EL:c∈bC m:=bf q1 rfl;have hch:=(a0a.1 q3).1;have hm:SwM m (m.set r (.jy c)):=fun i=>by
   by_cases e:i=r
   .subst e;exact .inr (.inl ⟨c,q1,by rw[a1E hrm]⟩)
   .exact .inl (by rw[a1l (fun h=>e h.symm)])
  have old:∀{i b:Nat},G7 (m.set r (.jy c)) i b->i≠r∧G7 m i b:=fun{i b} ho=>by
   obtain⟨mb,a1,a2⟩:=ho;by_cases e:i=r
   .subst e;rw[a1E hrm]at a1;cases a1;cases a2
   .rw[a1l (fun h=>e h.symm)]at a1;exact⟨e,mb,a1,a2⟩
  have nN:∀b,b∈bC (m.set r (.jy c))->b∈bC m∧b≠c:=fun b hb=>by obtain⟨i,hi⟩:=kJ hb;obtain⟨e,mb,a1,a2⟩:=old hi;refine⟨bf a1 a2,fun e2=>?_⟩;subst e2;exact e (je hr.nodup a1 q1 a2 rfl)
  have hA:∀b,AA A m b->AA (fun b=>A b∧b≠c) (m.set r (.jy c)) b:=fun b hb=>⟨⟨hb.1,fun e=>hb.2 (e▸EL)⟩,fun h=>hb.2 (nN b h).1⟩;have vC:HR X P (fun b=>A b∧b≠c) (m.set r (.jy c)) (H.set r (.aF cs)) h:=by
   refine⟨by simp[hr.len],fun i b hi=>?_,jH fun i j d a1 a2=>?_,fun b hb=>⟨hr.up b hb,by omega⟩,fun b hb=>⟨hr.Di b (nN b hb).1,(nN b hb).2⟩⟩
   .by_cases e:i=r
    .subst e;rw[a1E hrl]at hi;cases hi;exact⟨.jy c,by rw[a1E hrm],fun h=>(nN c h).2 rfl,cs',q3,q4.sw hm hA⟩
    .rw[a1l (fun h=>e h.symm)]at hi;obtain⟨mb,g1,g2⟩:=hr.at_ i b hi;exact⟨mb,by rw[a1l (fun h=>e h.symm)];exact g1,g2.sw hm hA fun d _ hn h=>hn (nN d h).1⟩
   .obtain⟨_,ma,u1,u2⟩:=old a1;obtain⟨_,mc,v1,v2⟩:=old a2;exact je hr.nodup u1 v1 u2 v2
  obtain⟨w,h1,ws,m1,c1,c2,c3,c4,c5,c6⟩:=hs (fun b=>A b∧b≠c) (m.set r (.jy c)) h tf qN vC (hf.sw hm hA) (hx.sw hm hA)
  .have aeE:r<H1.length:=(a0a.1 h9).1;obtain⟨mb1,e1,e2⟩:=c2.at_ r (.aF MP) (by rw[a1E aeE]);have e3:=c5 r (.jy c) (by rw[a1E hrm]);have e4:mb1=.jy c:=by
    rcases e3 with e3|e3<;>rw[e1]at e3<;>cases e3
    .rfl
    .exact e2.elim
   subst e4;obtain⟨p0,X3,p1,p2⟩:=e2;have Jm:r<m1.length:=(a0a.1 e1).1;have hm1:SwM m1 (m1.set r (.gJ c)):=fun i=>by
    by_cases e:i=r
    .subst e;exact .inr (.inr ⟨c,e1,by rw[a1E Jm]⟩)
    .exact .inl (by rw[a1l (fun h=>e h.symm)])
   have at1:∀{i:Nat} {mb:MB},i≠r->(m1.set r (.gJ c))[i]? = some mb->m1[i]? = some mb:=fun{i mb} e h=>by rw[a1l (fun h=>e h.symm)]at h;exact h
   have CW:∀b,b∈bC (m1.set r (.gJ c))->b=c∨b∈bC m1:=fun b hb=>by
    obtain⟨i,mb,a1,a2⟩:=kJ hb;by_cases e:i=r
    .subst e;rw[a1E Jm]at a1;cases a1;cases a2;exact .inl rfl
    .exact .inr (bf (at1 e a1) a2)
   have hA1:∀b,AA (fun b=>A b∧b≠c) m1 b->AA A (m1.set r (.gJ c)) b:=fun b hb=>⟨hb.1.1,fun h=>by
    rcases CW b h with e|e
    .exact hb.1.2 e
    .exact hb.2 e⟩
   refine⟨w,h1,ws,m1.set r (.gJ c),c1,⟨by rw[a4F,c2.len,a4F],fun i b hi=>?_,jH fun i j d a1 a2=>?_,fun b hb=>(c2.up b hb).1,fun b hb=>?_⟩,c3.sw hm1 hA1,⟨c4.len,fun b hb hn=>c4.same b hb fun h=>hn (nN b h).1,fun b hb=>?_,c4.grow⟩,fun i mb hi=>?_,fun b hb=>?_⟩
   .by_cases e:i=r
    .subst e;rw[h9]at hi;cases hi;exact⟨.gJ c,by rw[a1E Jm],X3,p1,p2.sw hm1 hA1⟩
    .obtain⟨mb,g1,g2⟩:=c2.at_ i b (by rw[a1l (fun h=>e h.symm)];exact hi);refine⟨mb,by rw[a1l (fun h=>e h.symm)];exact g1,g2.sw hm1 hA1 fun d hd hn hd2=>?_⟩;subst hd;rcases CW d hd2 with e5|e5
     .subst e5;rcases a4u i m.length with aQ|ET
      .have Le:(m.set r (.jy d))[i]? = m[i]?:=(by rw[a1l (fun h=>e h.symm)]);have hmi:m[i]? = some (.jy d):=by
        rcases c5 i m[i] (by rw[Le];exact a0n aQ)with e6|e6<;>rw[g1]at e6<;>simp only[a01]at e6
        .rw[a0n aQ,<-e6]
        .cases e6
       have hlH:i<H.length:=by rw[<-hr.len];exact aQ
       obtain⟨mb9,e7,e8⟩:=hr.at_ i _ (a0n hlH);rw[hmi]at e7;cases e7;generalize H[i]=b9 at e8;cases b9<;>first|exact e8.elim|exact e8.1 EL
      .have e6:(H1.drop H.length)[i-H.length]? = some b:=by rw[a4w,<-hi];congr 1;rw[hr.len]at ET;omega
       have e7:=MS hro e6;cases b<;>first|exact g2.elim|cases e7
     .exact hn e5
   .obtain⟨ma,u1,u2⟩:=a1;obtain⟨mc,v1,v2⟩:=a2;by_cases e:i=r<;>by_cases e':j=r
    .rw[e,e']
    .subst e;rw[a1E Jm]at u1;cases u1;cases u2;exact absurd (bf (at1 e' v1) v2) p0
    .subst e';rw[a1E Jm]at v1;cases v1;cases v2;exact absurd (bf (at1 e u1) u2) p0
    .exact je c2.nodup (at1 e u1) (at1 e' v1) u2 v2
   .rcases CW b hb with e|e
    .subst e;exact hr.Di _ EL
    .exact(c2.Di b e).1
   .rcases CW b hb with e|e
    .subst e;exact .inl EL
    .rcases c4.new b e with g|g
     .exact .inl (nN b g).1
     .exact .inr g
   .by_cases e:i=r
    .subst e;rw[q1]at hi;cases hi;exact .inl (by rw[a1E Jm])
    .rw[a1l (fun h=>e h.symm)];exact c5 i mb (by rw[a1l (fun h=>e h.symm)];exact hi)
   .obtain⟨k,k1,k2⟩:=c6 b hb;obtain⟨k3,k4⟩:=old k2;exact⟨k,⟨k1,k3⟩,k4⟩
 |_=>exact q2.elim
theorem a9Y{call:aY}{fv v:PV X.Γ}{xs:List (PV X.Γ)}{H H1:List (PB X.Γ)}{W:Nat->Prop}{r:Nat}{es es1:List (PV X.Γ×PV X.Γ)}(h0:H[r]? = some (.map es))(h9:H1[r]? = some (.map es1))(hro:Jf (H1.drop H.length)=true)
  (hs:Xb X P call fv xs (H.set r (.iI es)) v (H1.set r (.iI es1)) W):Xb X P call fv xs H v H1 fun k=>W k∧k≠r:=fun A m h tf qN hr hf hx=>by
 obtain⟨mb0,q1,q2⟩:=hr.at_ r _ h0;have hrl:r<H.length:=(a0a.1 h0).1;have hrm:r<m.length:=by rw[hr.len];exact hrl
 cases mb0 with
 |gJ c=>
  obtain⟨cs',q3,q4⟩:=q2;have EL:c∈bC m:=bf q1 rfl;have hch:=(a0a.1 q3).1;have hm:SwM m (m.set r (.jy c)):=fun i=>by
   by_cases e:i=r
   .subst e;exact .inr (.inl ⟨c,q1,by rw[a1E hrm]⟩)
   .exact .inl (by rw[a1l (fun h=>e h.symm)])
  have old:∀{i b:Nat},G7 (m.set r (.jy c)) i b->i≠r∧G7 m i b:=fun{i b} ho=>by
   obtain⟨mb,a1,a2⟩:=ho;by_cases e:i=r
   .subst e;rw[a1E hrm]at a1;cases a1;cases a2
   .rw[a1l (fun h=>e h.symm)]at a1;exact⟨e,mb,a1,a2⟩
  have nN:∀b,b∈bC (m.set r (.jy c))->b∈bC m∧b≠c:=fun b hb=>by obtain⟨i,hi⟩:=kJ hb;obtain⟨e,mb,a1,a2⟩:=old hi;refine⟨bf a1 a2,fun e2=>?_⟩;subst e2;exact e (je hr.nodup a1 q1 a2 rfl)
  have hA:∀b,AA A m b->AA (fun b=>A b∧b≠c) (m.set r (.jy c)) b:=fun b hb=>⟨⟨hb.1,fun e=>hb.2 (e▸EL)⟩,fun h=>hb.2 (nN b h).1⟩;have vC:HR X P (fun b=>A b∧b≠c) (m.set r (.jy c)) (H.set r (.iI es)) h:=by
   refine⟨by simp[hr.len],fun i b hi=>?_,jH fun i j d a1 a2=>?_,fun b hb=>⟨hr.up b hb,by omega⟩,fun b hb=>⟨hr.Di b (nN b hb).1,(nN b hb).2⟩⟩
   .by_cases e:i=r
    .subst e;rw[a1E hrl]at hi;cases hi;exact⟨.jy c,by rw[a1E hrm],fun h=>(nN c h).2 rfl,cs',q3,q4⟩
    .rw[a1l (fun h=>e h.symm)]at hi;obtain⟨mb,g1,g2⟩:=hr.at_ i b hi;exact⟨mb,by rw[a1l (fun h=>e h.symm)];exact g1,g2.sw hm hA fun d _ hn h=>hn (nN d h).1⟩
   .obtain⟨_,ma,u1,u2⟩:=old a1;obtain⟨_,mc,v1,v2⟩:=old a2;exact je hr.nodup u1 v1 u2 v2
  obtain⟨w,h1,ws,m1,c1,c2,c3,c4,c5,c6⟩:=hs (fun b=>A b∧b≠c) (m.set r (.jy c)) h tf qN vC (hf.sw hm hA) (hx.sw hm hA)
  .have aeE:r<H1.length:=(a0a.1 h9).1;obtain⟨mb1,e1,e2⟩:=c2.at_ r (.iI es1) (by rw[a1E aeE]);have e3:=c5 r (.jy c) (by rw[a1E hrm]);have e4:mb1=.jy c:=by
    rcases e3 with e3|e3<;>rw[e1]at e3<;>cases e3
    .rfl
    .exact e2.elim
   subst e4;obtain⟨p0,X3,p1,p2⟩:=e2;have Jm:r<m1.length:=(a0a.1 e1).1;have hm1:SwM m1 (m1.set r (.gJ c)):=fun i=>by
    by_cases e:i=r
    .subst e;exact .inr (.inr ⟨c,e1,by rw[a1E Jm]⟩)
    .exact .inl (by rw[a1l (fun h=>e h.symm)])
   have at1:∀{i:Nat} {mb:MB},i≠r->(m1.set r (.gJ c))[i]? = some mb->m1[i]? = some mb:=fun{i mb} e h=>by rw[a1l (fun h=>e h.symm)]at h;exact h
   have CW:∀b,b∈bC (m1.set r (.gJ c))->b=c∨b∈bC m1:=fun b hb=>by
    obtain⟨i,mb,a1,a2⟩:=kJ hb;by_cases e:i=r
    .subst e;rw[a1E Jm]at a1;cases a1;cases a2;exact .inl rfl
    .exact .inr (bf (at1 e a1) a2)
   have hA1:∀b,AA (fun b=>A b∧b≠c) m1 b->AA A (m1.set r (.gJ c)) b:=fun b hb=>⟨hb.1.1,fun h=>by
    rcases CW b h with e|e
    .exact hb.1.2 e
    .exact hb.2 e⟩
   refine⟨w,h1,ws,m1.set r (.gJ c),c1,⟨by rw[a4F,c2.len,a4F],fun i b hi=>?_,jH fun i j d a1 a2=>?_,fun b hb=>(c2.up b hb).1,fun b hb=>?_⟩,c3.sw hm1 hA1,⟨c4.len,fun b hb hn=>c4.same b hb fun h=>hn (nN b h).1,fun b hb=>?_,c4.grow⟩,fun i mb hi=>?_,fun b hb=>?_⟩
   .by_cases e:i=r
    .subst e;rw[h9]at hi;cases hi;exact⟨.gJ c,by rw[a1E Jm],X3,p1,p2⟩
    .obtain⟨mb,g1,g2⟩:=c2.at_ i b (by rw[a1l (fun h=>e h.symm)];exact hi);refine⟨mb,by rw[a1l (fun h=>e h.symm)];exact g1,g2.sw hm1 hA1 fun d hd hn hd2=>?_⟩;subst hd;rcases CW d hd2 with e5|e5
     .subst e5;rcases a4u i m.length with aQ|ET
      .have Le:(m.set r (.jy d))[i]? = m[i]?:=(by rw[a1l (fun h=>e h.symm)]);have hmi:m[i]? = some (.jy d):=by
        rcases c5 i m[i] (by rw[Le];exact a0n aQ)with e6|e6<;>rw[g1]at e6<;>simp only[a01]at e6
        .rw[a0n aQ,<-e6]
        .cases e6
       have hlH:i<H.length:=by rw[<-hr.len];exact aQ
       obtain⟨mb9,e7,e8⟩:=hr.at_ i _ (a0n hlH);rw[hmi]at e7;cases e7;generalize H[i]=b9 at e8;cases b9<;>first|exact e8.elim|exact e8.1 EL
      .have e6:(H1.drop H.length)[i-H.length]? = some b:=by rw[a4w,<-hi];congr 1;rw[hr.len]at ET;omega
       have e7:=MS hro e6;cases b<;>first|exact g2.elim|cases e7
     .exact hn e5
   .obtain⟨ma,u1,u2⟩:=a1;obtain⟨mc,v1,v2⟩:=a2;by_cases e:i=r<;>by_cases e':j=r
    .rw[e,e']
    .subst e;rw[a1E Jm]at u1;cases u1;cases u2;exact absurd (bf (at1 e' v1) v2) p0
    .subst e';rw[a1E Jm]at v1;cases v1;cases v2;exact absurd (bf (at1 e u1) u2) p0
    .exact je c2.nodup (at1 e u1) (at1 e' v1) u2 v2
   .rcases CW b hb with e|e
    .subst e;exact hr.Di _ EL
    .exact(c2.Di b e).1
   .rcases CW b hb with e|e
    .subst e;exact .inl EL
    .rcases c4.new b e with g|g
     .exact .inl (nN b g).1
     .exact .inr g
   .by_cases e:i=r
    .subst e;rw[q1]at hi;cases hi;exact .inl (by rw[a1E Jm])
    .rw[a1l (fun h=>e h.symm)];exact c5 i mb (by rw[a1l (fun h=>e h.symm)];exact hi)
   .obtain⟨k,k1,k2⟩:=c6 b hb;obtain⟨k3,k4⟩:=old k2;exact⟨k,⟨k1,k3⟩,k4⟩
 |_=>exact q2.elim
theorem ZG{call:aY}{fv v:PV X.Γ}{xs:List (PV X.Γ)}{W:Nat->Prop}:∀{rs:List Nat} {H H1 Hr Qo:List (PB X.Γ)},roB rs H H1=some (Hr,Qo)->Jf (H1.drop H.length)=true->Xb X P call fv xs Hr v Qo W->Xb X P call fv xs H v H1 fun k=>W k∧k∉rs
 | [],H,H1,Hr,Qo,h1,hn,hs=>by simp only[roB,a01,a0z]at h1;obtain⟨rfl,rfl⟩:=h1;intro A m h tf qN a b c;obtain⟨w,h1,ws,m1,c1,c2,c3,c4,c5,c6⟩:=hs A m h tf qN a b c;exact⟨w,h1,ws,m1,c1,c2,c3,c4,c5,fun b hb=>by obtain⟨k,k1,k2⟩:=c6 b hb;exact⟨k,⟨k1,by simp⟩,k2⟩⟩
 |r::rs,H,H1,Hr,Qo,h1,hn,hs=>by
  simp only[roB]at h1;split at h1
  .rename_i cs MP e1 e2;have aQ:r<H.length:=(a0a.1 e1).1;have:=aeD e1 e2 hn (ZG h1 (by rw[a4F,List.drop_set_of_lt aQ];exact hn) hs);intro A m h tf qN a b c;obtain⟨w,h1,ws,m1,c1,c2,c3,c4,c5,c6⟩:=this A m h tf qN a b c;exact⟨w,h1,ws,m1,c1,c2,c3,c4,c5,fun b hb=>by obtain⟨k,⟨⟨k1,k3⟩,k4⟩,k2⟩:=c6 b hb;exact⟨k,⟨k1,by simp[k3,k4]⟩,k2⟩⟩
  .rename_i cs MP e1 e2;have aQ:r<H.length:=(a0a.1 e1).1;have:=a9Y e1 e2 hn (ZG h1 (by rw[a4F,List.drop_set_of_lt aQ];exact hn) hs);intro A m h tf qN a b c;obtain⟨w,h1,ws,m1,c1,c2,c3,c4,c5,c6⟩:=this A m h tf qN a b c;exact⟨w,h1,ws,m1,c1,c2,c3,c4,c5,fun b hb=>by obtain⟨k,⟨⟨k1,k3⟩,k4⟩,k2⟩:=c6 b hb;exact⟨k,⟨k1,by simp[k3,k4]⟩,k2⟩⟩
  cases h1
theorem Xc{α:Type}{rs:List Nat}:∀{ks:List α} {i p:Nat} {k:α},ks[p]? = some k->i+p∉rs->k∈a2Z rs i ks
 | [],_,_,_,h,_=>by simp at h
 |a::ks,i,0,k,h,hn=>by simp only[a2C,a01]at h;subst h;simp only[a2Z];rw[a0q (by simpa using hn)];exact a2M
 |a::ks,i,p+1,k,h,hn=>by
  have:=Xc (ks:=ks) (i:=i+1) (p:=p) (k:=k) (by simpa using h) (by rwa [Nat.add_right_comm,aaz] );simp only[a2Z];split
  .exact this
  exact a3h _ this
theorem Jo(hX:bP X P){call:aY}{ks:List Nat}{H' Hp H H1 Qo:List (PB X.Γ)}{fv fv' v v':PV X.Γ}{xs xs':List (PV X.Γ)}{W:Nat->Prop}(hs:Xb X P call fv xs H v H1 W)
  (jG:ks.Nodup) (hp:Dc H' ks=some Hp) (hH:nU (wS ks) Hp=some H) (hf:fJ (wS ks) fv'=some fv) (hx:fJ.pz (wS ks) xs'=some xs)
  (hv:fJ (bk ks H'.length) v=some v') (hH1:nU (bk ks H'.length) H1=some Qo) (hro:Jf (H1.drop ks.length)=true) :
  ∀(A:Nat->Prop) (m':List MB) (h:List HB) (tf:TV) (qN:List TV),HR X P A m' H' h->VR X P (AA A m') m' h fv' tf->bY X P (AA A m') m' h xs' qN ->
  ∃w h1 ws m1,call tf qN h=some (w,h1,ws)∧HR X P A m1 (putAt ks Qo H'++Qo.drop ks.length) h1∧VR X P (AA A m1) m1 h1 v' w∧Fr m' h m1 h1∧Up m' m1∧∀b∈ws,∃p k,ks[p]? = some k∧W p∧G7 m' k b:=by
 intro A m' h tf qN hr hf' FD;have hpg:=En hp;have hHg:=tJ hH;have hkH:∀{p k:Nat},ks[p]? = some k->k<m'.length:=fun{p k} hk=>by obtain⟨b,q1,_⟩:=hpg.2 hk;rw[hr.len];exact(a0a.1 q1).1
 have hkm:∀k∈ks,k<m'.length:=fun k hk=>by obtain⟨i,hi⟩:=a8Y hk;exact hkH hi
 let m:List MB:=ks.map fun k=>m'.getD k .gone
 have hm:∀{p k:Nat},ks[p]? = some k->m[p]? = m'[k]?:=fun{p k} hk=>by show(ks.map _)[p]? = _;rw[a4y,hk];have:=hkH hk;simp[a4p,this]
 have a6n:m.length=ks.length:=a4A ..;have SA:∀{p:Nat} {mb:MB},m[p]? = some mb->∃k,ks[p]? = some k∧m'[k]? = some mb:=fun{p mb} hpm=>by
  have:p<ks.length:=by rw[<-a6n];exact(a0a.1 hpm).1
  have hk:=a0n this;exact⟨_,hk,by rw[<-hm hk];exact hpm⟩
 have nN:∀b,b∈bC m->b∈bC m':=fun b hb=>by obtain⟨j,mb,q1,q2⟩:=kJ hb;obtain⟨k,_,q3⟩:=SA q1;exact bf q3 q2
 have aeF:∀{i:Nat} {mb:MB} {b:Nat},i∉ks->m'[i]? = some mb->mb.own=some b->b∉bC m:=fun{i mb b} hi h1 h2 hb=>by obtain⟨j,mc,q1,q2⟩:=kJ hb;obtain⟨k,q3,q4⟩:=SA q1;have:=je hr.nodup h1 q4 h2 q2;subst this;exact hi (a4E q3)
 let A2:Nat->Prop:=fun b=>A b∧(b∈bC m'->b∈bC m)
 have hA:∀b,AA A m' b->AA A2 m b:=fun b hb=>⟨⟨hb.1,fun h9=>absurd h9 hb.2⟩,fun h9=>hb.2 (nN b h9)⟩;have hg:∀i j,wS ks i=some j->m[j]? = m'[i]?:=fun i j Ap=>hm (OL Ap);have vC:HR X P A2 m H h:=by
  refine⟨by rw[a6n,hHg.1,hpg.1],fun j b hj=>?_,jH fun i j c q1 q2=>?_,fun b hb=>⟨hr.up b hb,fun h9=>absurd (hr.inb h9) (by omega)⟩,fun b hb=>⟨hr.Di b (nN b hb),fun _=>hb⟩⟩
  .obtain⟨b0,q1,q2⟩:=hHg.2 hj;have sD:j<ks.length:=by rw[<-hpg.1];exact(a0a.1 q1).1
   have hk:=a0n sD;obtain⟨b9,q5,q6⟩:=hpg.2 hk;rw[q1]at q6;cases q6;obtain⟨mb,q3,q4⟩:=hr.at_ _ _ q5;exact⟨mb,by rw[hm hk];exact q3,Em hX hg hA (fun c _ h9 h8=>h9 (nN c h8)) q4 q2⟩
  .obtain⟨ma,a1,a2⟩:=q1;obtain⟨mc,c1,c2⟩:=q2;obtain⟨k,a3,a4⟩:=SA a1;obtain⟨l,c3,c4⟩:=SA c1;have e:=je hr.nodup a4 c4 a2 c2;subst e;exact(List.getElem?_inj (a0a.1 a3).1 jG).1 (by rw[a3,c3])
 obtain⟨w,h1,ws,m1,c1,c2,c3,c4,c5,c6⟩:=hs A2 m h tf qN vC (Ej hg hA hX hf' hf) (zI hX hg hA FD hx);have a6o:ks.length<=m1.length:=by
  rcases abQ ks.length with e|e
  .omega
  .have aQ:ks.length-1<m.length:=(by omega);have:=c5 (ks.length-1) m[ks.length-1] (a0n aQ);rcases this with g|g<;>(have:=(a0a.1 g).1;omega)
 let m1':List MB:=putAt ks m1 m'++m1.drop ks.length
 have hn:m'.length=H'.length:=hr.len;have a9Z:(putAt ks m1 m').length=m'.length:=tK;have a1p:∀{p k:Nat},ks[p]? = some k->m1'[k]? = m1[p]?:=fun{p k} hk=>by show(putAt ks m1 m'++_)[k]? = _;rw[a0p (by rw[a9Z];exact hkH hk),OQ jG hkm a6o hk]
 have ZH:∀{i:Nat},i<m'.length->i∉ks->m1'[i]? = m'[i]?:=fun{i} hi hk=>by show(putAt ks m1 m'++_)[i]? = _;rw[a0p (by rw[a9Z];exact hi),Jl hk]
 have ZI:∀{j:Nat},ks.length<=j->m1'[m'.length+(j-ks.length)]? = m1[j]?:=fun{j} hj=>by show(putAt ks m1 m'++_)[_]? = _;rw[a0G (by rw[a9Z];omega),a9Z,Nat.add_sub_cancel_left,a4w];congr 1;omega
 have hgb:∀j i,bk ks H'.length j=some i->m1'[i]? = m1[j]?:=fun j i Ap=>by
  unfold bk at Ap;split at Ap
  .rename_i k hk;cases Ap;exact a1p hk
  .rename_i hk;cases Ap;rw[<-hn];exact ZI (by rw[List.getElem?_eq_none_iff]at hk;exact hk)
 have vw:∀{i:Nat} {mb:MB},m1'[i]? = some mb->(∃p,ks[p]? = some i∧m1[p]? = some mb)∨(i<m'.length∧i∉ks∧m'[i]? = some mb)∨(∃j,ks.length<=j∧i=m'.length+(j-ks.length)∧m1[j]? = some mb):=fun{i mb} hi=>by
  rcases a4u i m'.length with aQ|ET
  .by_cases hk:i∈ks
   .obtain⟨p,hp⟩:=a8Y hk;exact .inl ⟨p,hp,by rw[<-a1p hp];exact hi⟩
   .exact .inr (.inl ⟨aQ,hk,by rw[<-ZH aQ hk];exact hi⟩)
  .refine .inr (.inr ⟨i-m'.length+ks.length,by omega,by omega,?_⟩);rw[<-ZI (by omega)];rw[<-hi];congr 1;omega
 have zl:∀{b:Nat},b∈bC m1'->b∈bC m1∨∃i mb,i∉ks∧m'[i]? = some mb∧mb.own=some b:=fun{b} hb=>by
  obtain⟨i,mb,q1,q2⟩:=kJ hb;rcases vw q1 with⟨p,_,q3⟩|⟨_,q3,q4⟩|⟨j,_,_,q3⟩
  .exact .inl (bf q3 q2)
  .exact .inr ⟨i,mb,q3,q4,q2⟩
  .exact .inl (bf q3 q2)
 have aa0:∀{i b:Nat} {mb:MB},i∉ks->m'[i]? = some mb->mb.own=some b->b∉bC m1:=fun{i b mb} h1 h2 h3 h4=>by
  rcases c4.new b h4 with g|g
  .exact aeF h1 h2 h3 g
  .exact absurd (hr.inb (bf h2 h3)) (by omega)
 have hA3:∀b,AA A2 m1 b->AA A m1' b:=fun b hb=>⟨hb.1.1,fun h9=>by
  rcases zl h9 with g|⟨i,mb,g1,g2,g3⟩
  .exact hb.2 g
  .exact aeF g1 g2 g3 (hb.1.2 (bf g2 g3))⟩
 have hF:Fr m' h m1' h1:=⟨c4.len,fun b hb hnb=>c4.same b hb fun h9=>hnb (nN b h9),fun b hb=>by
  rcases zl hb with g|⟨i,mb,g1,g2,g3⟩
  .rcases c4.new b g with g|g
   .exact .inl (nN b g)
   .exact .inr g
  .exact .inl (bf g2 g3),c4.grow⟩
 have hU:Up m' m1':=fun i mb hi=>by
  have aQ:=(a0a.1 hi).1;by_cases hk:i∈ks
  .obtain⟨p,hp⟩:=a8Y hk;rw[a1p hp];exact c5 p mb (by rw[hm hp];exact hi)
  .exact .inl (by rw[ZH aQ hk];exact hi)
 have aeG:=tJ hH1;have aiu:m1.length=H1.length:=c2.len;refine⟨w,h1,ws,m1',c1,⟨?_,fun i b hi=>?_,?_,fun b hb=>(c2.up b hb).1,fun b hb=>?_⟩,Ej hgb hA3 hX c3 hv,hF,hU,fun b hb=>?_⟩
 .show(putAt ks m1 m'++_).length=_;rw[a1o,a1o,tK,tK,a3H,a3H,aeG.1,aiu,hn]
 .have aiv:ks.length<=Qo.length:=by rw[aeG.1,<-aiu];exact a6o
  have aop:∀k∈ks,k<H'.length:=fun k hk=>by rw[<-hn];exact hkm k hk
  have back:∀{j:Nat} {b:PB X.Γ},Qo[j]? = some b->∃mb,m1[j]? = some mb∧BR X P (AA A m1') m1' h1 b mb:=fun{j b} hj=>by
   obtain⟨b0,q1,q2⟩:=aeG.2 hj;obtain⟨mb,q3,q4⟩:=c2.at_ j b0 q1;refine⟨mb,q3,Em hX hgb hA3 (fun c e h9 h8=>?_) q4 q2⟩;rcases zl h8 with g|⟨i,MI,g1,g2,g3⟩
   .exact h9 g
   .subst e;rcases a4u j ks.length with hj1|hj1
    .have hk:=a0n hj1;have sD:j<m.length:=by rw[a6n];exact hj1
     have hmj:m[j]? = some (.jy c):=by
      rcases c5 j _ (a0n sD)with e|e<;>rw[q3]at e<;>simp only[a01]at e
      .rw[a0n sD,<-e]
      .cases e
     obtain⟨k,e1,e2⟩:=SA hmj;obtain⟨b9,e3,_⟩:=hpg.2 e1;obtain⟨mb9,e4,e5⟩:=hr.at_ _ _ e3;rw[e2]at e4;cases e4;cases b9<;>first|exact e5.elim|exact e5.1 (bf g2 g3)
    .have e1:(H1.drop ks.length)[j-ks.length]? = some b0:=by rw[a4w,<-q1];congr 1;omega
     have e2:=MS hro e1;cases b0<;>first|exact q4.elim|cases e2
  rcases a4u i H'.length with aQ|ET
  .rw[a0p (by rw[tK];exact aQ)]at hi;by_cases hk:i∈ks
   .obtain⟨p,hpk⟩:=a8Y hk;rw[OQ jG aop aiv hpk]at hi;obtain⟨mb,q1,q2⟩:=back hi;exact⟨mb,by rw[a1p hpk];exact q1,q2⟩
   .rw[Jl hk]at hi;obtain⟨mb,q1,q2⟩:=hr.at_ i b hi;refine⟨mb,by rw[ZH (by rw[hn];exact aQ) hk];exact q1,q2.step hF hU fun c hc=>?_⟩;exact c4.same c (hr.inb (bf q1 hc)) (aeF hk q1 hc)
  .rw[a0G (by rw[tK];exact ET),tK,a4w]at hi;obtain⟨mb,q1,q2⟩:=back hi;refine⟨mb,?_,q2⟩;have:=ZI (j:=ks.length+(i-H'.length)) (by omega);rw[q1]at this;rw[<-this];congr 1;omega
 .refine jH fun i j c q1 q2=>?_;obtain⟨ma,a1,a2⟩:=q1;obtain⟨mc,b1,b2⟩:=q2;rcases vw a1 with⟨p,a3,a4⟩|⟨a3,a4,a5⟩|⟨p,a3,a4,a5⟩<;>rcases vw b1 with⟨q,b3,b4⟩|⟨b3,b4,b5⟩|⟨q,b3,b4,b5⟩
  .have:=je c2.nodup a4 b4 a2 b2;subst this;rw[a3]at b3;cases b3;rfl
  .exact absurd (bf a4 a2) (aa0 b4 b5 b2)
  .have:=je c2.nodup a4 b5 a2 b2;subst this;have:=(a0a.1 a3).1;omega
  .exact absurd (bf b4 b2) (aa0 a4 a5 a2)
  .exact je hr.nodup a5 b5 a2 b2
  .exact absurd (bf b5 b2) (aa0 a4 a5 a2)
  .have:=je c2.nodup a5 b4 a2 b2;subst this;have:=(a0a.1 b3).1;omega
  .exact absurd (bf a5 a2) (aa0 b4 b5 b2)
  .have:=je c2.nodup a5 b5 a2 b2;subst this;omega
 .rcases zl hb with g|⟨i,mb,g1,g2,g3⟩
  .exact(c2.Di b g).1
  .exact hr.Di b (bf g2 g3)
 .obtain⟨j,hw,mb,q1,q2⟩:=c6 b hb;obtain⟨k,q3,q4⟩:=SA q1;exact⟨j,k,q3,hw,mb,q4,q2⟩
end
end Pv
