/- Part 3 of a proof: At the first place the diagram has the cell, and at no place before it; for all diagrams, and a cell of theirs by a number. -/
import Derived.Test.YtmobpoiejckagaaGreatP01
set_option linter.constructorNameAsVariable false
set_option linter.unusedVariables false
set_option linter.unusedSimpArgs false
set_option linter.unusedSectionVars false
noncomputable section
namespace Pv
open Go Tw
section
variable {X:kH} {P:Program} {A:Nat->Prop} {m m':List MB} {h h':List HB} {H H':List (PB X.Γ)}
theorem HR.next(hr:HR X P A m H h)(hF:Fr m h m' h')(hU:Up m m')(hl:m'.length=H'.length)(hn:(bC m').Nodup)
  (JE:∀(i:Nat) b,H'[i]? = some b->(∃mb,H[i]? = some b∧m[i]? = some mb∧m'[i]? = some mb∧∀c,mb.own=some c->h'[c]? = h[c]?)∨∃mb,m'[i]? = some mb∧BR X P (AA A m') m' h' b mb):HR X P A m' H' h':=by
 refine⟨hl,fun i b hb=>?_,hn,fun b hb=>hr.up b (by have:=hF.len;omega),fun b hb=>?_⟩
 .rcases JE i b hb with⟨mb,h1,h2,h3,h4⟩|h1
  .obtain⟨LH,g1,g2⟩:=hr.at_ i b h1;rw[h2]at g1;cases g1;exact⟨mb,h3,g2.step hF hU h4⟩
  .exact h1
 .rcases hF.new b hb with h1|h1
  .exact hr.CP b h1
  .exact hr.up b h1
theorem BR.has{B:Nat->Prop}{b:PB X.Γ}{mb:MB}{c:Nat}(hb:BR X P B m h b mb)(ho:mb.own=some c):c<h.length:=by
 have key:∀{y},h[c]? = some y->c<h.length:=fun e=>(a02.1 e).1;cases b with
 |cells cs=>
  cases mb with
  |fV b=>cases ho;obtain⟨_,h1,_⟩:=hb;exact key h1
  |_=>exact hb.elim
 |aC cs=>
  cases mb with
  |je b=>cases ho
  |_=>exact hb.elim
 |list k ex t l=>
  cases mb with
  |dn x=>
   cases(hb:LR X P B m h k ex t l x)with
   |nil=>cases ho
   |emp=>simp[MB.own]at ho
   |some h1 _ _ h4=>
    simp only[MB.own]at ho;split at ho
    .cases ho
    cases ho;exact key h4
  |_=>exact hb.elim
 |map es=>
  cases mb with
  |fV b=>cases ho;obtain⟨_,h1,_⟩:=hb;exact key h1
  |_=>exact hb.elim
 |mM cs=>
  cases mb with
  |fV b=>cases ho;obtain⟨_,h1,_⟩:=hb;exact key h1
  |_=>exact hb.elim
 |iE es=>
  cases mb with
  |je b=>cases ho
  |_=>exact hb.elim
 |cZ r n seen=>
  cases mb with
  |fV b=>cases ho;obtain⟨_,h1,_⟩:=hb;exact key h1
  |_=>exact hb.elim
 |mark=>
  cases mb with
  |fV b=>cases ho;exact key hb
  |_=>exact hb.elim
 |loop=>
  cases mb with
  |fV b=>cases ho;obtain⟨_,h1,_⟩:=hb;exact key h1
  |_=>exact hb.elim
 |gone=>
  cases mb with
  |gone=>cases ho
  |_=>exact hb.elim
theorem HR.inb(hr:HR X P A m H h){c:Nat}(hc:c∈bC m):c<h.length:=by
 obtain⟨mb,hm,ho⟩:=a5X.1 hc;obtain⟨i,hi⟩:=a8f hm;have:i<H.length:=by rw[<-hr.len];exact(a02.1 hi).1
 obtain⟨LH,h1,h2⟩:=hr.at_ i H[i] (a0b this);rw[hi]at h1;cases h1;exact h2.has ho
theorem iW(a b:List MB):bC (a++b)=bC a++bC b:=List.filterMap_append ..
theorem jY(mb:MB):bC [mb]=mb.own.toList:=by unfold bC;simp[a8F];cases mb.own<;>rfl
theorem wK(ms:List MB):Up m (m++ms):=fun i mb hi=>.inl (by rw[a0c (a02.1 hi).1];exact hi)
theorem HR.push(hr:HR X P A m H h){pb:PB X.Γ}{hb:HB}{mb:MB}(ho:mb.own=some h.length∨mb.own=none)(qE:BR X P (AA A (m++[mb])) (m++[mb]) (h++[hb]) pb mb) :
  HR X P A (m++[mb]) (H++[pb]) (h++[hb])∧Fr m h (m++[mb]) (h++[hb])∧Up m (m++[mb]):=by
 have hF:Fr m h (m++[mb]) (h++[hb]):=by
  refine⟨by simp,fun b hb _=>by rw[a0c hb],fun b hb=>?_,fun b cs hc=>⟨cs,?_,a0V _⟩⟩
  .rw[iW,a2X,jY]at hb;rcases hb with hb|hb
   .exact .inl hb
   .rcases ho with ho|ho<;>rw[ho]at hb<;>simp at hb
    exact .inr (by omega)
  .rw[fM (a0c (gJ hc)),hc]
 refine⟨hr.next hF (wK _) (by simp[hr.len]) ?_ fun i b hi=>?_,hF,wK _⟩
 .rw[iW,jY];refine a8w.2 ⟨hr.nodup,?_,?_⟩
  .cases mb.own<;>simp
  .intro a ha b hb e;subst e;have:=hr.inb ha;rcases ho with ho|ho<;>rw[ho]at hb<;>simp at hb
   omega
 .rcases a3V i H.length with aQ|En
  .left;rw[a0c aQ]at hi;obtain⟨LH,h1,h2⟩:=hr.at_ i b hi;refine⟨LH,hi,h1,by rw[a0c (by rw[hr.len];exact aQ)];exact h1,fun c hc=>?_⟩;rw[a0c (h2.has hc)]
  .right;rw[a19 En]at hi;have:i-H.length=0:=by
    rcases abm (i-H.length)with h|h
    .exact h
    .rw[a3R (by simp;omega)]at hi;cases hi
   rw[this]at hi;simp only[a2C,a01]at hi;subst hi;exact⟨mb,by rw[a19 (by rw[hr.len];exact En),hr.len,this];rfl,qE⟩
theorem HR.abG(hr:HR X P A m H h){pb:PB X.Γ}{mb:MB}(ho:mb.own=none)(qE:BR X P (AA A (m++[mb])) (m++[mb]) h pb mb) :
  HR X P A (m++[mb]) (H++[pb]) h∧Fr m h (m++[mb]) h∧Up m (m++[mb]):=by
 have yN:bC (m++[mb])=bC m:=by rw[iW,jY,ho];simp
 have hF:Fr m h (m++[mb]) h:=⟨a0V _,fun _ _ _=>rfl,fun b hb=>.inl (yN▸hb),fun b cs hc=>⟨cs,hc,a0V _⟩⟩;refine⟨hr.next hF (wK _) (by simp[hr.len]) (by rw[yN];exact hr.nodup) fun i b hi=>?_,hF,wK _⟩;rcases a3V i H.length with aQ|En
 .left;rw[a0c aQ]at hi;obtain⟨LH,h1,h2⟩:=hr.at_ i b hi;exact⟨LH,hi,h1,by rw[a0c (by rw[hr.len];exact aQ)];exact h1,fun c hc=>rfl⟩
 .right;rw[a19 En]at hi;have:i-H.length=0:=by
   rcases abm (i-H.length)with h|h
   .exact h
   .rw[a3R (by simp;omega)]at hi;cases hi
  rw[this]at hi;simp only[a2C,a01]at hi;subst hi;exact⟨mb,by rw[a19 (by rw[hr.len];exact En),hr.len,this];rfl,qE⟩
theorem HR.set(hr:HR X P A m H h){i c:Nat}{mb:MB}{pb:PB X.Γ}{hb:HB}(hi:m[i]? = some mb)(ho:mb.own=some c)(hg:∀cs,aV h c=some cs->∃cs',aV (h.set c hb) c=some cs'∧cs.length<=cs'.length)
  (qE:Fr m h m (h.set c hb)->BR X P (AA A m) m (h.set c hb) pb mb):HR X P A m (H.set i pb) (h.set c hb)∧Fr m h m (h.set c hb):=by
 have hF:Fr m h m (h.set c hb):=by
  refine⟨by simp,fun b hb hn=>?_,fun b hb=>.inl hb,fun b cs hc=>?_⟩
  .rw[a1g];intro e;subst e;exact hn (bg hi ho)
  .by_cases e:c=b
   .subst e;exact hg cs hc
   .exact⟨cs,by rw[fM (a1g e),hc],a0V _⟩
 refine⟨hr.next hF .refl (by simp[hr.len]) hr.nodup fun j b hj=>?_,hF⟩;by_cases e:i=j
 .subst e;rw[a3Y ]at hj;right;have:H[i]?.isSome:=by
   have:i<H.length:=by rw[<-hr.len];exact(a02.1 hi).1
   simp[this]
  obtain⟨y,hy⟩:=a4w.1 this;rw[hy]at hj;cases hj;exact⟨mb,hi,qE hF⟩
 .rw[a1g e]at hj;left;obtain⟨LH,h1,h2⟩:=hr.at_ j b hj;refine⟨LH,hj,h1,h1,fun d hd=>a1g fun e2=>?_⟩;subst e2;exact e (iU hr.nodup hi h1 ho hd)
theorem EF{i:Nat}:∀{m:List MB} {b:Nat},b∈bC (m.set i .gone)->b∈bC m:=by
 intro m b hb;obtain⟨mb,hm,ho⟩:=a5X.1 hb;obtain⟨j,hj⟩:=a8f hm;by_cases e:i=j
 .subst e;rw[a3Y]at hj;cases hx:m[i]? with
  |none=>rw[hx]at hj;cases hj
  |some y=>rw[hx]at hj;cases hj;cases ho
 rw[a1g e]at hj;exact bg hj ho
theorem O7{i:Nat}:∀{m:List MB},(bC m).Nodup->(bC (m.set i .gone)).Nodup:=by
 unfold bC;intro m
 induction m generalizing i with
 |nil=>intro h;simp
 |cons x r ih=>
  intro hn;cases i with
  |zero=>
   simp only[List.set_cons_zero,a8F,MB.own];simp only[a8F]at hn;split at hn
   .exact hn
   exact(a3Z.1 hn).2
  |succ i=>
   simp only[List.set_cons_succ,a8F];simp only[a8F]at hn;split at hn
   .exact ih hn
   refine a3Z.2 ⟨fun hb=>(a3Z.1 hn).1 ?_,ih (a3Z.1 hn).2⟩;exact EF (m:=r) hb
theorem a0N{i:Nat}:Fr m h (m.set i .gone) h:=⟨a0V _,fun _ _ _=>rfl,fun _ hb=>.inl (EF hb),fun _ cs hc=>⟨cs,hc,a0V _⟩⟩
theorem a0O{i:Nat}:Up m (m.set i .gone):=fun j mb hj=>by
 by_cases e:i=j
 .subst e;right;rw[a3Y,hj];rfl
 .left;rw[a1g e];exact hj
theorem HR.gone(hr:HR X P A m H h)(i:Nat):HR X P A (m.set i .gone) (H.set i .gone) h:=by
 refine hr.next a0N a0O (by simp[hr.len]) (O7 hr.nodup) fun j b hj=>?_;by_cases e:i=j
 .subst e;right;rw[a3Y]at hj;cases hx:H[i]? with
  |none=>rw[hx]at hj;cases hj
  |some y=>
   rw[hx]at hj;cases hj;obtain⟨mb,h1,_⟩:=hr.at_ i y hx;exact⟨.gone,by rw[a3Y,h1];rfl,trivial⟩
 rw[a1g e]at hj;left;obtain⟨mb,h1,_⟩:=hr.at_ j b hj;exact⟨mb,hj,h1,by rw[a1g e];exact h1,fun _ _=>rfl⟩
def bT:List Nat->List MB->List MB
 | [],m=>m
 |i::is,m=>bT is (m.set i .gone)
theorem iw:∀(is:List Nat) (m:List MB),Fr m h (bT is m) h∧Up m (bT is m)
 | [],m=>⟨.refl,.refl⟩
 |i::is,m=>⟨a0N.trans (iw is _).1,a0O.trans (iw is _).2⟩
theorem HR.aZ:∀(is:List Nat) {m:List MB} {H:List (PB X.Γ)},HR X P A m H h->HR X P A (bT is m) (aZ is H) h
 | [],_,_,hr=>hr
 |i::is,_,_,hr=>HR.aZ is (hr.gone i)
theorem nG:∀(is:List Nat) (H:List (PB X.Γ)),(Pv.aZ is H).length=H.length
 | [],_=>rfl
 |i::is,H=>by rw[Pv.aZ,nG is];simp[VY]
theorem lW:∀(is:List Nat) (m:List MB),(bT is m).length=m.length
 | [],_=>rfl
 |i::is,m=>by rw[bT,lW is];simp
theorem Gw:∀(is:List Nat) {m:List MB} {i:Nat} {mb:MB},m[i]? = some mb->(bT is m)[i]? = some (if is.contains i then .gone else mb)
 | [],_,_,_,h=>by simpa[bT]using h
 |j::is,m,i,mb,h=>by
  rw[bT];by_cases e:j=i
  .subst e;have:(m.set j .gone)[j]? = some .gone:=by rw[a3Y,h];rfl
   rw[Gw is this];simp
  rw[Gw is (by rw[a1g e];exact h)];have:(i==j)=false:=by simp;omega
  simp only[agK,this,agp]
end
section
variable {X:kH} {P:Program} {A:Nat->Prop} {m m':List MB} {h h':List HB} {H H':List (PB X.Γ)}
theorem bV.nil:bV X P A m h [] []:=⟨rfl,fun i x y hx=>by simp at hx⟩
theorem bV.cons{v:PV X.Γ}{x:TV}{vs:List (PV X.Γ)}{xs:List TV}(h1:VR X P A m h v x)(h2:bV X P A m h vs xs):bV X P A m h (v::vs) (x::xs):=by
 refine⟨by simp[h2.1],fun i a b ha hb=>?_⟩;cases i with
 |zero=>simp only[a2C,a01]at ha hb;subst ha;subst hb;exact h1
 |succ i=>exact h2.2 i a b (by simpa using ha) (by simpa using hb)
theorem bV.inv{v:PV X.Γ}{vs:List (PV X.Γ)}{xs:List TV}(hv:bV X P A m h (v::vs) xs):∃x r,xs=x::r∧VR X P A m h v x∧bV X P A m h vs r:=by
 cases xs with
 |nil=>have:=hv.1;simp at this
 |cons x r=>exact⟨x,r,rfl,hv.2 0 v x rfl rfl,by have:=hv.1;simpa using this,fun i a b ha hb=>hv.2 (i+1) a b (by simpa using ha) (by simpa using hb)⟩
theorem bV.inv0{xs:List TV}(hv:bV X P A m h [] xs):xs=[]:=by have:=hv.1;cases xs<;>simp_all
theorem bV.app{a b:List (PV X.Γ)}{x y:List TV}(h1:bV X P A m h a x)(h2:bV X P A m h b y):bV X P A m h (a++b) (x++y):=by
 refine⟨by simp[h1.1,h2.1],fun i c d hc hd=>?_⟩;rcases a3V i a.length with hl|hl
 .rw[a0c hl]at hc;rw[a0c (by rw[<-h1.1];exact hl)]at hd;exact h1.2 i c d hc hd
 rw[a19 hl]at hc;rw[a19 (by rw[<-h1.1];exact hl),<-h1.1]at hd;exact h2.2 _ c d hc hd
theorem bV.drop{a:List (PV X.Γ)}{x:List TV}(h1:bV X P A m h a x)(n:Nat):bV X P A m h (a.drop n) (x.drop n):=
 ⟨by simp[h1.1],fun i c d hc hd=>h1.2 (n+i) c d (by rw[<-hc,a3X]) (by rw[<-hd,a3X])⟩
theorem bV.take{a:List (PV X.Γ)}{x:List TV}(h1:bV X P A m h a x)(n:Nat):bV X P A m h (a.take n) (x.take n):=by
 refine⟨by simp[h1.1],fun i c d hc hd=>?_⟩;rw[a3W]at hc hd;split at hc
 .rename_i hl;rw[a0i hl]at hd;exact h1.2 i c d hc hd
 cases hc
theorem bV.get{a:List (PV X.Γ)}{x:List TV}(h1:bV X P A m h a x){i:Nat}{c:PV X.Γ}(hc:a[i]? = some c):∃v,x[i]? = some v∧VR X P A m h c v:=by
 have hl:i<x.length:=by rw[<-h1.1];exact(a02.1 hc).1
 exact⟨x[i],a0b hl,h1.2 i c _ hc (a0b hl)⟩
theorem Ri{v:PV X.Γ}{x tv:TV}(hv:VR X P A m h v x)(hp:qP v=some tv):x=tv:=by
 cases hv with
 |gone hi _ _=>cases v<;>simp[bn]at hi<;>simp[qP]at hp
 |_=>first|(simp only[qP,a01]at hp;exact hp)|(simp[qP]at hp;done)
theorem Fj:∀{vs:List (PV X.Γ)} {xs tvs:List TV},bV X P A m h vs xs->iI vs=some tvs->xs=tvs
 | [],xs,tvs,hv,hp=>by simp only[iI,a01]at hp;rw[hv.inv0,hp]
 |v::vs,xs,tvs,hv,hp=>by
  obtain⟨x,r,rfl,h1,h2⟩:=hv.inv;simp only[iI]at hp;split at hp
  .rename_i a b ha hb;cases hp;rw[Ri h1 ha,Fj h2 hb]
  cases hp
theorem jH{v:PV X.Γ}{x tv:TV}(hv:VR X P A m h v x)(hp:pR v=some tv):x=tv:=by
 cases v with
 |agg cs=>
  simp only[pR,a06]at hp;obtain⟨tvs,h1,rfl⟩:=hp;cases hv with
  |agg h2 h3=>rw[Fj ⟨h2,h3⟩ h1]
  |gone hi _ _=>simp[bn]at hi
 |_=>exact Ri hv hp
theorem a0P:∀{vs:List (PV X.Γ)} {xs tvs:List TV},bV X P A m h vs xs->U1 vs=some tvs->xs=tvs
 | [],xs,tvs,hv,hp=>by simp only[U1,a01]at hp;rw[hv.inv0,hp]
 |v::vs,xs,tvs,hv,hp=>by
  obtain⟨x,r,rfl,h1,h2⟩:=hv.inv;simp only[U1]at hp;split at hp
  .rename_i a b ha hb;cases hp;rw[jH h1 ha,a0P h2 hb]
  cases hp
theorem a5x{v:PV X.Γ}{x:TV}(hp:ZY x=some v):VR X P A m h v x:=by
 cases x<;>simp[ZY]at hp<;>subst hp<;>constructor
theorem Ub:∀{xs:List TV} {vs:List (PV X.Γ)},BJ xs=some vs->bV X P A m h vs xs
 | [],vs,hp=>by simp only[BJ,a01]at hp;subst hp;exact .nil
 |x::xs,vs,hp=>by
  simp only[BJ]at hp;split at hp
  .rename_i a b ha hb;cases hp;exact .cons (a5x ha) (Ub hb)
  cases hp
theorem wL{v:PV X.Γ}{x:TV}(hp:Yf x=some v):VR X P A m h v x:=by
 cases x with
 |agg cs=>
  simp only[Yf,a06]at hp;obtain⟨vs,h1,rfl⟩:=hp;have:=Ub (X:=X) (P:=P) (A:=A) (m:=m) (h:=h) h1;exact .agg this.1 this.2
 |_=>exact a5x hp
theorem Rj{v:PV X.Γ}{x:TV}(hp:qP v=some x):VR X P A m h v x:=by
 cases v<;>simp only[qP,a01,reduceCtorEq]at hp<;>subst hp
 .exact .bool _
 .exact .int _ _
 .exact .str _
 exact .nil _
theorem Fq:∀{vs:List (PV X.Γ)} {xs:List TV},iI vs=some xs->bV X P A m h vs xs
 | [],xs,hp=>by simp only[iI,a01]at hp;subst hp;exact .nil
 |v::vs,xs,hp=>by
  simp only[iI]at hp;split at hp
  .rename_i a b ha hb;cases hp;exact .cons (Rj ha) (Fq hb)
  cases hp
theorem nH{v:PV X.Γ}{x:TV}(hp:pR v=some x):VR X P A m h v x:=by
 cases v with
 |agg cs=>
  simp only[pR,a06]at hp;obtain⟨vs,h1,rfl⟩:=hp;have:=Fq (X:=X) (P:=P) (A:=A) (m:=m) (h:=h) h1;exact .agg this.1 this.2
 |_=>exact Rj hp
theorem Gx{v:PV X.Γ}{x:TV}(hv:VR X P A m h v x):VR X P A m h (a0H v) x:=by
 cases v with
 |lit b=>
  cases hv with
  |lit=>exact .bool _
  |gone hi _ _=>simp[bn]at hi
 |_=>exact hv
theorem a5y{v:PV X.Γ}{x:TV}(hv:VR X P A m h v x):iR x=YR v:=by
 cases hv with
 |own _ o=>exact o
 |gone hi _ o=>rw[o];cases v<;>simp[bn]at hi<;>rfl
 |_=>rfl
theorem Gy{v:PV X.Γ}{x:TV}(hv:VR X P A m h v x):bV X P A m h v.cells x.cells:=by
 have hq:=a5y hv;cases v with
 |agg cs=>
  cases hv with
  |agg h1 h2=>exact⟨h1,h2⟩
  |gone hi _ _=>simp[bn]at hi
 |dI cs=>
  have hv':=hv;cases hv with
  |dI h1 h2=>exact .cons hv' .nil
  |gone hi _ _=>simp[bn]at hi
 |_=>
  have:x.cells=[x]:=by
   cases x<;>first|rfl|(simp[iR,YR]at hq;done)
  rw[this];exact .cons hv .nil
theorem DC:∀{vs:List (PV X.Γ)} {xs:List TV},bV X P A m h vs xs->xs.all iR=vs.all YR
 | [],xs,hv=>by rw[hv.inv0];rfl
 |v::vs,xs,hv=>by
  obtain⟨x,r,rfl,h1,h2⟩:=hv.inv;simp only[abx,a5y h1,DC h2]
theorem adV{cs:List (PV X.Γ)}{xs:List TV}(hv:bV X P A m h cs xs){off n:Nat}{r:List (PV X.Γ)}(hs:adO cs off n=some r):∃r',sub xs off n=some r'∧bV X P A m h r r':=by
 unfold adO at hs;split at hs
 .rename_i hl;cases hs;exact⟨_,by unfold sub;rw[a0i (by rw[<-hv.1];exact hl)],(hv.drop off).take n⟩
 cases hs
theorem Gz{cs new:List (PV X.Γ)}{xs ahL:List TV}(hv:bV X P A m h cs xs)(hn:bV X P A m h new ahL){off:Nat}{r:List (PV X.Γ)}(hs:NZ cs off new=some r):∃r',vV xs off ahL=some r'∧bV X P A m h r r':=by
 unfold NZ at hs;split at hs
 .rename_i hl;cases hs;refine⟨_,by unfold vV;rw[a0i (by rw[<-hv.1,<-hn.1];exact hl)],?_⟩;rw[<-hn.1];exact((hv.take off).app hn).app (hv.drop _)
 cases hs
theorem Ag{cs:List (PV X.Γ)}{xs:List TV}(hv:bV X P A m h cs xs){t:TypeId}{off:Nat}{v:PV X.Γ}(hs:Gq P t cs off=some v):∃x,uj P t xs off=some x∧VR X P A m h v x:=by
 unfold Gq at hs;unfold uj;split at hs
 .rename_i n ha hn;simp only[a06]at hs;obtain⟨r,h1,rfl⟩:=hs;obtain⟨r',g1,g2⟩:=adV hv h1;exact⟨.agg r',by simp only[ha,hn,g1,a0U],.agg g2.1 g2.2⟩
 .rename_i n ha hn;split at hs
  .rename_i h1;obtain⟨x,g1,g2⟩:=hv.get hs;exact⟨x,by simp only[ha,hn,h1,a2j,g1],g2⟩
  cases hs
 cases hs
theorem GH{t:TypeId}{z:List (PV X.Γ)}(hz:QZ P t=some z):∃z',Jy P t=some z'∧bV X P A m h z z':=by
 unfold QZ at hz;split at hz
 .rename_i z' h1;exact⟨z',h1,Ub hz⟩
 cases hz
def VPs(X:kH)(P:Program)(A:Nat->Prop)(m:List MB)(h:List HB)(ps:List (Nat×PV X.Γ))(qs:List (Nat×TV)):Prop:=
 ps.length=qs.length∧∀(i:Nat) a b,ps[i]? = some a->qs[i]? = some b->a.1=b.1∧VR X P A m h a.2 b.2
theorem VPs.inv{a:Nat×PV X.Γ}{ps:List (Nat×PV X.Γ)}{qs:List (Nat×TV)}(hv:VPs X P A m h (a::ps) qs):∃x r,qs=(a.1,x)::r∧VR X P A m h a.2 x∧VPs X P A m h ps r:=by
 cases qs with
 |nil=>have:=hv.1;simp at this
 |cons q r=>
  obtain⟨h1,h2⟩:=hv.2 0 a q rfl rfl;refine⟨q.2,r,by rw[h1],h2,by have:=hv.1;simpa using this,fun i x y hx hy=>hv.2 (i+1) x y (by simpa using hx) (by simpa using hy)⟩
theorem LJ{pl:Nat->Option (Nat×Nat)}:∀{ps:List (Nat×PV X.Γ)} {qs:List (Nat×TV)} {cs:List (PV X.Γ)} {xs:List TV},VPs X P A m h ps qs->bV X P A m h cs xs->∀{r:List (PV X.Γ)},O1 pl cs ps=some r->∃r',rY pl xs qs=some r'∧bV X P A m h r r'
 | [],qs,cs,xs,hp,hv,r,hs=>by
  have:qs=[]:=by have:=hp.1;cases qs<;>simp_all
  subst this;simp only[O1,a01]at hs;subst hs;exact⟨xs,rfl,hv⟩
 |(i,v)::ps,qs,cs,xs,hp,hv,r,hs=>by
  obtain⟨x,rest,rfl,h1,h2⟩:=hp.inv;have hc:=Gy h1;simp only[O1]at hs;split at hs
  .rename_i off size Eo;split at hs
   .rename_i uU;split at hs
    .rename_i cs' ho;obtain⟨xs',g1,g2⟩:=Gz hv hc ho;obtain⟨r',g3,g4⟩:=LJ h2 g2 hs;have adz:x.cells.length=size:=by rw[<-hc.1];exact uU
     exact⟨r',by simp only[rY,Eo,adz,a2j,g1,g3],g4⟩
    cases hs
   cases hs
  cases hs
theorem a5z{t:TypeId}{ps:List (Nat×PV X.Γ)}{qs:List (Nat×TV)}(hp:VPs X P A m h ps qs){v:PV X.Γ}(hs:YT P t ps=some v):∃x,MP P t qs=some x∧VR X P A m h v x:=by
 unfold YT at hs;unfold MP;split at hs
 .rename_i z fs hz hu;obtain⟨z',g1,g2⟩:=GH (A:=A) (m:=m) (h:=h) hz;split at hs
  .rename_i ha;simp only[a06]at hs;obtain⟨r,h1,rfl⟩:=hs;obtain⟨r',g3,g4⟩:=LJ hp g2 h1;exact⟨.agg r',by simp only[g1,hu,ha,a2j,g3,a0U],.agg g4.1 g4.2⟩
  cases hs
 .rename_i z n e hz hu;obtain⟨z',g1,g2⟩:=GH (A:=A) (m:=m) (h:=h) hz;split at hs
  .rename_i k hk;simp only[a06]at hs;obtain⟨r,h1,rfl⟩:=hs;obtain⟨r',g3,g4⟩:=LJ hp g2 h1;exact⟨.agg r',by simp only[g1,hu,hk,g3,a0U],.agg g4.1 g4.2⟩
  cases hs
 cases hs
theorem Wi{z:List (PV X.Γ)}{z':List TV}(hz:bV X P A m h z z'):∀n,bV X P A m h (YU z n) (times z' n)
 | 0=>.nil
 |n+1=>hz.app (Wi hz n)
section
variable {env:List (Nat×PE X.Γ)} {env':List (Nat×EV)}
theorem a0Q(he:jM X P A m h env env'){t:Nat}:(EC t env=none∧dM t env'=none)∨∃v x,EC t env=some v∧dM t env'=some x∧Ih X P A m h v x:=by
 induction he with
 |nil=>exact .inl ⟨rfl,rfl⟩
 |cons h1 _ ih=>
  rename_i k v x r r' _;simp only[EC,dM];by_cases e:k=t
  .right;exact⟨v,x,by rw[a0i e],by rw[a0i e],h1⟩
  rw[a0g e,a0g e];exact ih
theorem o9(he:jM X P A m h env env'){t:Nat}{v:PE X.Γ}(hl:EC t env=some v):∃x,dM t env'=some x∧Ih X P A m h v x:=by
 rcases a0Q he (t:=t)with⟨h1,_⟩|⟨w,x,h1,h2,h3⟩
 .rw[hl]at h1;cases h1
 rw[hl]at h1;cases h1;exact⟨x,h2,h3⟩
theorem mV(he:jM X P A m h env env'){o:Operand}{v:PE X.Γ}(hl:Fa env o=some v):∃x,Ib env' o=some x∧Ih X P A m h v x:=by
 cases o with
 |tmp t=>exact o9 he hl
 |const c=>
  simp only[Fa]at hl;split at hl
  .rename_i b hb;cases hl;exact⟨.val (.bool b),by simp only[Ib,hb,a0U],VR.lit b⟩
  .rename_i x _ hx;simp only[a06]at hl;obtain⟨w,h1,rfl⟩:=hl;exact⟨.val x,by simp only[Ib,hx,a0U],wL h1⟩
  cases hl
 |func f=>
  simp only[Fa,a01]at hl;subst hl;exact⟨.val (.fn f [] []),rfl,.fn rfl (by simp) rfl (by simp)⟩
 |global g=>cases hl
theorem fO{v:PV X.Γ}{x:EV}(hp:Ih X P A m h (.val v) x):∃y,x=.val y∧VR X P A m h v y:=by
 cases x with
 |val y=>exact⟨y,rfl,hp⟩
 |_=>exact hp.elim
theorem DF{k o:Nat}{x:EV}(hp:Ih X P A m h (.loc k o) x):x=.loc k o:=by
 cases x with
 |loc k' o'=>obtain⟨rfl,rfl⟩:=hp;rfl
 |_=>exact hp.elim
theorem IL{x:EV}(hp:Ih X P A m h .undef x):x=.undef:=by
 cases x with
 |undef=>rfl
 |_=>exact hp.elim
theorem LK{r j:Nat}{v:PV X.Γ}{x:EV}(hp:Ih X P A m h (.ent r j v) x):∃c y,x=.ent c j y∧VR X P A m h (.map r) (.map c)∧pR v=some y:=by
 cases x with
 |ent c j' y=>obtain⟨h1,rfl,h2⟩:=hp;exact⟨c,y,rfl,h1,h2⟩
 |_=>exact hp.elim
theorem LM{r j:Nat}{x:EV}(hp:Ih X P A m h (.E8 r j) x):∃c,x=.E8 c j∧VR X P A m h (.map r) (.map c):=by
 cases x with
 |E8 c j'=>obtain⟨h1,rfl⟩:=hp;exact⟨c,rfl,h1⟩
 |_=>exact hp.elim
theorem Wj(he:jM X P A m h env env'){o:Operand}{v:PV X.Γ}(hl:a0I env o=some v):∃x,qH env' o=some x∧VR X P A m h v x:=by
 unfold a0I at hl;split at hl
 .rename_i w hw;cases hl;obtain⟨x,h1,h2⟩:=mV he hw;obtain⟨y,rfl,h3⟩:=fO h2;exact⟨y,by simp only[qH,h1],h3⟩
 cases hl
theorem jf(he:jM X P A m h env env'){o:Operand}{v:PV X.Γ}(hl:zN env o=some v):∃x,qH env' o=some x∧VR X P A m h v x:=by
 unfold zN at hl;split at hl
 .rename_i w hw;cases hl;obtain⟨x,h1,h2⟩:=mV he hw;obtain⟨y,rfl,h3⟩:=fO h2;exact⟨y,by simp only[qH,h1],Gx h3⟩
 cases hl
theorem Uc(he:jM X P A m h env env'):∀{os:List Operand} {vs:List (PV X.Γ)},YS env os=some vs->∃xs,Td env' os=some xs∧bV X P A m h vs xs
 | [],vs,hl=>by simp only[YS,a01]at hl;subst hl;exact⟨[],rfl,.nil⟩
 |o::os,vs,hl=>by
  simp only[YS]at hl;split at hl
  .rename_i v ws h1 h2;cases hl;obtain⟨x,g1,g2⟩:=jf he h1;obtain⟨xs,g3,g4⟩:=Uc he h2;exact⟨x::xs,by simp only[Td,g1,g3],.cons g2 g4⟩
  cases hl
theorem Z9(he:jM X P A m h env env'):∀{os:List (Nat×Operand)} {vs:List (Nat×PV X.Γ)},a2w env os=some vs->∃xs,Vj env' os=some xs∧VPs X P A m h vs xs
 | [],vs,hl=>by simp only[a2w,a01]at hl;subst hl;exact⟨[],rfl,rfl,fun i a b ha=>by simp at ha⟩
 |(i,o)::os,vs,hl=>by
  simp only[a2w]at hl;split at hl
  .rename_i v ws h1 h2;cases hl;obtain⟨x,g1,g2⟩:=jf he h1;obtain⟨xs,g3,g4⟩:=Z9 he h2;refine⟨(i,x)::xs,by simp only[Vj,g1,g3],by simp[g4.1],fun j a b ha hb=>?_⟩;cases j with
   |zero=>simp only[a2C,a01]at ha hb;subst ha;subst hb;exact⟨rfl,g2⟩
   |succ j=>exact g4.2 j a b (by simpa using ha) (by simpa using hb)
  cases hl
def OR(X:kH)(P:Program)(A:Nat->Prop)(m:List MB)(h:List HB):Option (PV X.Γ)->Option TV->Prop
 |none,none=>True
 |some v,some x=>VR X P A m h v x
 |_,_=>False
theorem GI(he:jM X P A m h env env'){o:Option Operand}{v:Option (PV X.Γ)}(hl:NY env o=some v):∃x,Vl env' o=some x∧OR X P A m h v x:=by
 cases o with
 |none=>simp only[NY,a01]at hl;subst hl;exact⟨none,rfl,trivial⟩
 |some o=>
  simp only[NY]at hl;split at hl
  .rename_i w hw;cases hl;obtain⟨x,g1,g2⟩:=jf he hw;exact⟨some x,by simp only[Vl,g1],g2⟩
  cases hl
theorem Ud(he:jM X P A m h env env'):∀live,jM X P A m h (iY live env) (pick live env')
 | []=>.nil
 |t::r=>by
  simp only[iY,pick];rcases a0Q he (t:=t)with⟨h1,h2⟩|⟨v,x,h1,h2,h3⟩
  .rw[h1,h2];exact Ud he r
  rw[h1,h2];exact .cons h3 (Ud he r)
theorem a9h(he:jM X P A m h env env'){t:Nat}{b:Bool}(hb:dM t env'=some (.val (.bool b))):jM X P A m h (Pv.BA t b env) env':=by
 induction he with
 |nil=>exact .nil
 |cons h1 h2 ih=>
  rename_i k v x r r';simp only[dM]at hb;simp only[Pv.BA];by_cases e:k=t
  .rw[a0i e]at hb ⊢;cases hb;exact .cons (VR.lit b) h2
  rw[a0g e]at hb ⊢;exact .cons h1 (ih hb)
theorem adW(he:jM X P A m h env env'):U9 X env=BP env':=by
 induction he with
 |nil=>rfl
 |cons h1 _ ih=>
  rename_i k v x r r' _;cases v with
  |val v=>obtain⟨y,rfl,_⟩:=fO h1;simpa[U9,BP]using ih
  |loc a b=>rw[DF h1];simp only[U9,BP,ih]
  |undef=>rw[IL h1];simpa[U9,BP]using ih
  |ent=>obtain⟨_,_,rfl,_⟩:=LK h1;simpa[U9,BP]using ih
  |E8=>obtain⟨_,rfl,_⟩:=LM h1;simpa[U9,BP]using ih
end
end
structure bK(X:kH)(P:Program):Prop where
 dec:∀{t:Nat} {vs:List (PV X.Γ)} {a:X.Γ t},X.dec t vs=some a->∀{A:Nat->Prop} {m:List MB} {h:List HB} {xs:List TV},bV X P A m h vs xs->bV X P A m h (X.enc t a) xs
 jc:∀(t:Nat) (a:X.Γ t),jc.Gt (X.enc t a)=true
section
variable {X:kH} {P:Program} {A B:Nat->Prop} {m m':List MB} {h h':List HB} {H H':List (PB X.Γ)}
theorem VR.mono(hAB:∀b,A b->B b){v:PV X.Γ}{x:TV}(hv:VR X P A m h v x):VR X P B m h v x:=by
 induction hv with
 |bool=>exact .bool _
 |lit=>exact .lit _
 |int=>exact .int _ _
 |str=>exact .str _
 |nil=>exact .nil _
 |ptr e=>exact .ptr e
 |slc e=>exact .slc e
 |own e o=>exact .own e o
 |win e q q' q2=>exact .win e q q' q2
 |Ae e=>exact .Ae e
 |map e=>exact .map e
 |iter e=>exact .iter e
 |fn h1 _ h3 _ i2 i4=>exact .fn h1 i2 h3 i4
 |kF e=>exact .kF e
 |agg h1 _ i2=>exact .agg h1 i2
 |dI h1 _ i2=>exact .dI h1 i2
 |o8=>exact .o8
 |dn a c c2 s z o k f e _ ih=>exact .dn (hAB _ a) c c2 s z o k f e ih
 |el a c l o e q _ ih=>exact .el (hAB _ a) c l o e q ih
 |row e j q=>exact .row e j q
 |gone i e o=>exact .gone i e o
theorem bV.mono(hAB:∀b,A b->B b){v:List (PV X.Γ)}{x:List TV}(hv:bV X P A m h v x):bV X P B m h v x:=⟨hv.1,fun i a b ha hb=>(hv.2 i a b ha hb).mono hAB⟩
theorem eY:∀{vs:List (PV X.Γ)} {i:Nat} {v:PV X.Γ},jc.Gt vs=true->vs[i]? = some v->jc v=true
 | [],_,_,_,h=>by simp at h
 |a::vs,i,v,hc,h=>by
  simp only[jc.Gt,a2a]at hc;cases i with
  |zero=>simp only[a2C,a01]at h;subst h;exact hc.1
  |succ i=>exact eY hc.2 (by simpa using h)
theorem VR.jc(hX:bK X P){v:PV X.Γ}{x:TV}(hv:VR X P A m h v x)(hc:Pv.jc v=true):VR X P A m' h v x:=by
 induction hv with
 |bool=>exact .bool _
 |lit=>exact .lit _
 |int=>exact .int _ _
 |str=>exact .str _
 |nil=>exact .nil _
 |fn h1 _ h3 _ i2 i4=>
  simp only[Pv.jc,a2a]at hc;exact .fn h1 (fun i x y hx hy=>i2 i x y hx hy (eY hc.1 hx)) h3 (fun i x y hx hy=>i4 i x y hx hy (eY hc.2 hx))
 |agg h1 _ i2=>
  simp only[Pv.jc]at hc;exact .agg h1 (fun i x y hx hy=>i2 i x y hx hy (eY hc hx))
 |dI h1 _ i2=>
  simp only[Pv.jc]at hc;exact .dI h1 (fun i x y hx hy=>i2 i x y hx hy (eY hc hx))
 |o8=>exact .o8
 |dn a c c2 s z o k f e _ ih=>exact .dn a c c2 s z o k f e fun j y i d v h1 h2 h3=>ih j y i d v h1 h2 h3 (eY (hX.jc _ _) h2)
 |el a c l o e q _ ih=>exact .el a c l o e q fun i d v h1 h2=>ih i d v h1 h2 (eY (hX.jc _ _) h1)
 |gone i e o=>rename_i v _ _;cases v<;>simp[bn]at i<;>simp[Pv.jc]at hc
 |_=>simp[Pv.jc]at hc
theorem eu.jc(hX:bK X P){t:Nat}{l:List (X.Γ t)}{cs:List TV}{off sz:Nat}(hv:eu X P A m h t l cs off sz):eu X P A m' h t l cs off sz:=
 ⟨hv.1,hv.2.1,fun j a i c v h1 h2 h3=>(hv.2.2 j a i c v h1 h2 h3).jc hX (eY (hX.jc _ _) h2)⟩
theorem eu.mono(hAB:∀b,A b->B b){t:Nat}{l:List (X.Γ t)}{cs:List TV}{off sz:Nat}(hv:eu X P A m h t l cs off sz):eu X P B m h t l cs off sz:=
 ⟨hv.1,hv.2.1,fun j a i c v h1 h2 h3=>(hv.2.2 j a i c v h1 h2 h3).mono hAB⟩
theorem VR.move(hX:bK X P)(hA:∀q cs,A q->aV h q=some cs->B q∧h'[q]? = h[q]?){v:PV X.Γ}{x:TV}(hv:VR X P A m h v x)(hc:Pv.jc v=true):VR X P B m' h' v x:=by
 induction hv with
 |bool=>exact .bool _
 |lit=>exact .lit _
 |int=>exact .int _ _
 |str=>exact .str _
 |nil=>exact .nil _
 |fn h1 _ h3 _ i2 i4=>
  simp only[Pv.jc,a2a]at hc;exact .fn h1 (fun i x y hx hy=>i2 i x y hx hy (eY hc.1 hx)) h3 (fun i x y hx hy=>i4 i x y hx hy (eY hc.2 hx))
 |agg h1 _ i2=>
  simp only[Pv.jc]at hc;exact .agg h1 (fun i x y hx hy=>i2 i x y hx hy (eY hc hx))
 |dI h1 _ i2=>
  simp only[Pv.jc]at hc;exact .dI h1 (fun i x y hx hy=>i2 i x y hx hy (eY hc hx))
 |o8=>exact .o8
 |dn a c c2 s z o k f e _ ih=>obtain⟨a',c'⟩:=hA _ _ a c;exact .dn a' ((fM c').trans c) (fun hl=>(xZ c').trans (c2 hl)) s z o k f e fun j y i d v h1 h2 h3=>ih j y i d v h1 h2 h3 (eY (hX.jc _ _) h2)
 |el a c l o e q _ ih=>obtain⟨a',c'⟩:=hA _ _ a (Af c);exact .el a' ((xZ c').trans c) l o e q fun i d v h1 h2=>ih i d v h1 h2 (eY (hX.jc _ _) h1)
 |gone i e o=>rename_i v _ _;cases v<;>simp[bn]at i<;>simp[Pv.jc]at hc
 |_=>simp[Pv.jc]at hc
theorem eu.move(hX:bK X P)(hA:∀q cs,A q->aV h q=some cs->B q∧h'[q]? = h[q]?){t:Nat}{l:List (X.Γ t)}{cs:List TV}{off sz:Nat}(hv:eu X P A m h t l cs off sz):eu X P B m' h' t l cs off sz:=
 ⟨hv.1,hv.2.1,fun j a i c v h1 h2 h3=>(hv.2.2 j a i c v h1 h2 h3).move hX hA (eY (hX.jc _ _) h2)⟩
def FA(A:Nat->Prop)(m:List MB)(is:List Nat):Nat->Prop:=fun b=>AA A m b∨∃i mb,i∈is∧m[i]? = some mb∧mb.own=some b
theorem FA.mono{is js:List Nat}(hs:∀i,i∈is->i∈js){b:Nat}(hb:FA A m is b):FA A m js b:=by
 rcases hb with h|⟨i,mb,h1,h2,h3⟩
 .exact .inl h
 exact .inr ⟨i,mb,hs i h1,h2,h3⟩
theorem O8:∀(is:List Nat) {m:List MB} {i:Nat} {mb:MB},(bT is m)[i]? = some mb->mb.own≠none->i∉is∧m[i]? = some mb
 | [],_,_,_,h,_=>⟨by simp,h⟩
 |j::is,m,i,mb,h,hn=>by
  obtain⟨h1,h2⟩:=O8 is (m:=m.set j .gone) h hn;by_cases e:j=i
  .subst e;rw[a3Y]at h2;cases hx:m[j]? with
   |none=>rw[hx]at h2;cases h2
   |some y=>rw[hx]at h2;cases h2;exact absurd rfl hn
  rw[a1g e]at h2;exact⟨by simp[h1,Ne.symm e],h2⟩
theorem Ah{is:List Nat}{m:List MB}{b:Nat}(hb:b∈bC (bT is m)):∃i mb,i∉is∧m[i]? = some mb∧mb.own=some b:=by
 obtain⟨mb,hm,ho⟩:=a5X.1 hb;obtain⟨i,hi⟩:=a8f hm;obtain⟨h1,h2⟩:=O8 is hi (by rw[ho];simp);exact⟨i,mb,h1,h2,ho⟩
theorem FA.gone(hr:HR X P A m H h){is:List Nat}{b:Nat}(hb:FA A m is b):AA A (bT is m) b:=by
 rcases hb with hb|⟨i,mb,h1,h2,h3⟩
 .refine⟨hb.1,fun hm=>?_⟩;obtain⟨i,mb,_,h2,h3⟩:=Ah hm;exact hb.2 (bg h2 h3)
 refine⟨hr.CP b (bg h2 h3),fun hm=>?_⟩;obtain⟨j,LH,g1,g2,g3⟩:=Ah hm;have:=iU hr.nodup h2 g2 h3 g3;exact g1 (this▸h1)
theorem Rk(hX:bK X P)(hr:HR X P A m H h){k ex:Bool}{t i:Nat}{l:List (X.Γ t)}{x:TV}(hl:LR X P (AA A m) m h k ex t l x)(hi:m[i]? = some (.dn x)){is:List Nat}(hs:i∈is):VR X P (FA A m is) m' h (.dn t l false) x:=by
 cases hl with
 |nil=>exact .o8
 |emp h0 h1 h2 h3 h4=>exact .dn (.inl h0) h1 (fun e=>absurd rfl e) h3 h4 (by simpa using h2) (a0V _) (by simp) (fun j a hj=>by simp at hj) (fun j a i c v hj=>by simp at hj)
 |some h1 h2 h3 h4 h5 h6 h7 h8 h9=>
  refine .dn (cs:=_) (.inr ⟨i,_,hs,hi,?_⟩) (by unfold aV;rw[h4]) (fun _=>wI h4 (by omega)) h2 h3 (by omega) (a0V _) (by simp) h9.1 ?_
  .simp only[MB.own];rw[a0g (by simpa using h1)]
  intro j a q c v e1 e2 e3;exact((h9.2.2 j a q c v e1 e2 e3).mono fun b hb=>.inl hb).jc hX (eY (hX.jc _ _) e2)
theorem VR.part{F:Nat->Prop}{t:Nat}{l:List (X.Γ t)}{fu:Bool}{b off len cap sz:Nat}{ex:Bool}(hv:VR X P F m h (.dn t l fu) (.slc b off len cap sz ex)){o n cap':Nat}{ex' fu':Bool}(hn:o+n<=len)(hc:n<=cap')(hw:n=0∨o+cap'=cap)(hfu:fu'=true->ex'=true∧cap'=n) :
  VR X P F m h (.dn t ((l.drop o).take n) fu') (.slc b (off+o*sz) n cap' sz ex'):=by
 cases hv with
 |dn a c c2 s z ol k f e r=>
  have hlen:((l.drop o).take n).length=n:=by rw[a3N,a3H];omega
  have:=@VR.dn X P F m h t ((l.drop o).take n) fu' b (off+o*sz) cap' sz ex' _ a c (fun iC=>by
   have h1:n≠0:=fun e=>iC (by subst e;simp);have h2:=hw.resolve_left h1;have h3:off+o*sz+cap'*sz=off+cap*sz:=by rw[<-h2,a2Z];omega
   rw[h3];exact c2 (fun e=>by subst e;simp at hlen;omega)) s z (by
   rw[hlen];have:(o+n)*sz<=l.length*sz:=a3r sz hn;rw[a2Z]at this;omega) (by rw[hlen];exact hc) (by rw[hlen];exact hfu) (fun j y hy=>by
    rw[a3W]at hy;split at hy
    .rw[a3X]at hy;exact e _ _ hy
    .cases hy) (fun j y i d v hy h2 h3=>by
    rw[a3W]at hy;split at hy
    .rw[a3X]at hy;refine r _ _ i d v hy h2 ?_;rw[<-h3];congr 1;rw[a2Z];omega
    .cases hy)
  rwa [hlen]at this
 |gone hi _ _=>simp[bn]at hi
mutual
theorem Ue(hX:bK X P)(hr:HR X P A m H h):∀{v w:PV X.Γ} {x:TV},VR X P (AA A m) m h v x->view H v=some w->∀{is:List Nat},(∀i,i∈kM v->i∈is)->VR X P (FA A m is) m' h w x
 |.own i,w,x,hv,hw,is,hs=>by
  simp only[view]at hw;split at hw
  .rename_i k ex t l hH;cases hw;obtain⟨mb,h1,h2⟩:=hr.at_ i _ hH;cases mb with
   |dn y=>
    cases hv with
    |own e o=>rw[h1]at e;cases e;exact Rk hX hr h2 h1 (hs i (by simp[kM]))
    |gone hi e o=>simp only[bn,a01]at hi;subst hi;rw[h1]at e;cases e
   |_=>exact h2.elim
  cases hw
 |.win i o n,w,x,hv,hw,is,hs=>by
  simp only[view]at hw;split at hw
  .rename_i k ex t l hH;cases hw;obtain⟨mb,h1,h2⟩:=hr.at_ i _ hH;cases mb with
   |dn y=>
    have h2':LR X P (AA A m) m h k ex t l y:=h2;have hfz:VR X P (FA A m is) m' h (.dn t l false) y:=Rk hX hr h2' h1 (hs i (by simp[kM]));cases hv with
    |win e q q' q2=>
     rw[h1]at e;cases e;exact hfz.part q q' q2 (by simp)
    |Ae e=>
     rw[h1]at e;cases e;cases h2' with
     |nil=>simp only[List.drop_nil,List.take_nil];exact .o8
    |gone hi e o=>simp only[bn,a01]at hi;subst hi;rw[h1]at e;cases e
   |_=>exact h2.elim
  cases hw
 |.fn f a c,w,x,hv,hw,is,hs=>by
  simp only[view]at hw;split at hw
  .rename_i a' c' h1 h2;cases hw;cases hv with
   |fn e1 e2 e3 e4=>
    have g1:=l7 hX hr ⟨e1,e2⟩ h1 (is:=is) fun i hi=>hs i (by simp[kM,hi]);have g2:=l7 hX hr ⟨e3,e4⟩ h2 (is:=is) fun i hi=>hs i (by simp[kM,hi]);exact .fn g1.1 g1.2 g2.1 g2.2
   |gone hi _ _=>simp[bn]at hi
  cases hw
 |.agg cs,w,x,hv,hw,is,hs=>by
  simp only[view,a06]at hw;obtain⟨cs',h1,rfl⟩:=hw;cases hv with
  |agg e1 e2=>have g1:=l7 hX hr ⟨e1,e2⟩ h1 (is:=is) fun i hi=>hs i (by simp[kM,hi]);exact .agg g1.1 g1.2
  |gone hi _ _=>simp[bn]at hi
 |.dI cs,w,x,hv,hw,is,hs=>by
  simp only[view,a06]at hw;obtain⟨cs',h1,rfl⟩:=hw;cases hv with
  |dI e1 e2=>have g1:=l7 hX hr ⟨e1,e2⟩ h1 (is:=is) fun i hi=>hs i (by simp[kM,hi]);exact .dI g1.1 g1.2
  |gone hi _ _=>simp[bn]at hi
 |.bool b,w,x,hv,hw,is,hs=>by simp only[view,a01]at hw;subst hw;exact(hv.mono fun b hb=>.inl hb).jc hX rfl
 |.lit b,w,x,hv,hw,is,hs=>by
  simp only[view,a01]at hw;subst hw;cases hv with
  |lit=>exact .bool _
  |gone hi _ _=>simp[bn]at hi
 |.int k n,w,x,hv,hw,is,hs=>by simp only[view,a01]at hw;subst hw;exact(hv.mono fun b hb=>.inl hb).jc hX rfl
 |.str b,w,x,hv,hw,is,hs=>by simp only[view,a01]at hw;subst hw;exact(hv.mono fun b hb=>.inl hb).jc hX rfl
 |.nil b,w,x,hv,hw,is,hs=>by simp only[view,a01]at hw;subst hw;exact(hv.mono fun b hb=>.inl hb).jc hX rfl
 |.dn t l f,w,x,hv,hw,is,hs=>by simp only[view,a01]at hw;subst hw;exact(hv.mono fun b hb=>.inl hb).jc hX rfl
 |.ptr _ _ _,w,x,hv,hw,is,hs=>by simp[view]at hw
 |.slc _ _ _ _ _ _,w,x,hv,hw,is,hs=>by simp[view]at hw
 |.map _,w,x,hv,hw,is,hs=>by simp[view]at hw
 |.kF _,w,x,hv,hw,is,hs=>by simp[view]at hw
 |.el _ _ _,w,x,hv,hw,is,hs=>by simp[view]at hw
 |.row _ _ _,w,x,hv,hw,is,hs=>by simp[view]at hw
theorem l7(hX:bK X P)(hr:HR X P A m H h):∀{vs ws:List (PV X.Γ)} {xs:List TV},bV X P (AA A m) m h vs xs->views H vs=some ws->∀{is:List Nat},(∀i,i∈kM.jX vs->i∈is)->bV X P (FA A m is) m' h ws xs
 | [],ws,xs,hv,hw,is,hs=>by simp only[view.views,a01]at hw;subst hw;rw[hv.inv0];exact .nil
 |v::vs,ws,xs,hv,hw,is,hs=>by
  obtain⟨x,r,rfl,h1,h2⟩:=hv.inv;simp only[view.views]at hw;split at hw
  .rename_i w Tz g1 g2;cases hw;exact .cons (Ue hX hr h1 g1 fun i hi=>hs i (by simp[kM.jX,hi])) (l7 hX hr h2 g2 fun i hi=>hs i (by simp[kM.jX,hi]))
  cases hw
end
end
open Go Tw
section
variable {X:kH} {P:Program} {A B F:Nat->Prop} {m m':List MB} {h h':List HB} {H H':List (PB X.Γ)}
theorem a0R(hX:bK X P)(hr:HR X P A m H h){t:Nat}{cs:List (PV X.Γ)}{xs:List TV}(hv:bV X P (AA A m) m h cs xs){a:X.Γ t}{is:List Nat}(hd:a9b X H t cs=some (a,is)):bV X P (FA A m is) m' h (X.enc t a) xs:=by
 unfold a9b at hd;split at hd
 .rename_i vs h1;split at hd
  .rename_i b h2;simp only[a01,a0j]at hd;obtain⟨rfl,rfl⟩:=hd;exact hX.dec h2 (l7 hX hr hv h1 fun i hi=>hi)
  cases hd
 cases hd
theorem Ai(hX:bK X P)(hr:HR X P A m H h){t sz:Nat}:∀{n:Nat} {cs:List (PV X.Γ)} {xs:List TV},bV X P (AA A m) m h cs xs->∀{l:List (X.Γ t)} {is:List Nat},xU X H t sz n cs=some (l,is)->l.length=n∧eu X P (FA A m is) m' h t l xs 0 sz
 | 0,cs,xs,hv,l,is,hd=>by
  simp only[xU,a01,a0j]at hd;obtain⟨rfl,rfl⟩:=hd;exact⟨rfl,fun j a hj=>by simp at hj,by simp,fun j a i c v hj=>by simp at hj⟩
 |n+1,cs,xs,hv,l,is,hd=>by
  simp only[xU]at hd;split at hd
  rotate_left
  .cases hd
  rename_i uU;split at hd
  rotate_left
  .cases hd
  rename_i a js l' ks h1 h2;simp only[a01,a0j]at hd;obtain⟨rfl,rfl⟩:=hd;have g1:=(a0R (m':=m') hX hr (hv.take sz) h1).mono fun b hb=>FA.mono (js:=js++ks) (fun i hi=>a5d _ hi) hb;obtain⟨e2,g2⟩:=Ai hX hr (hv.drop sz) h2;have g2:=g2.mono fun b hb=>FA.mono (js:=js++ks) (fun i hi=>abu _ hi) hb;have hl:(X.enc t a).length=sz:=by rw[g1.1,a3N,<-hv.1];omega
  refine⟨by simp[e2],fun j b hj=>?_,?_,fun j b i c v hj hi hx=>?_⟩
  .cases j with
   |zero=>simp only[a2C,a01]at hj;subst hj;exact hl
   |succ j=>exact g2.1 j b (by simpa using hj)
  .have:=g2.2.1;rw[a3H]at this;have h3:=hv.1;simp only[a3S,a2Z];omega
  cases j with
  |zero=>
   simp only[a2C,a01]at hj;subst hj;have aQ:i<sz:=by rw[<-hl];exact(a02.1 hi).1
   refine g1.2 i c v hi ?_;rw[a3W,a0i aQ,<-hx];simp
  |succ j=>
   refine g2.2.2 j b i c v (by simpa using hj) hi ?_;rw[a3X,<-hx];congr 1;rw[a2Z];omega
def SlR(X:kH)(P:Program)(F:Nat->Prop)(m:List MB)(h:List HB)(t sz:Nat)(l:List (X.Γ t))(x:TV):Prop:=
 (x=.nil .slc∧l=[])∨∃b off cap ex cs,x=.slc b off l.length cap sz ex∧l.length<=cap∧aV h b=some cs∧(l≠[]->lM h b (off+cap*sz)=some cs)∧eu X P F m h t l cs off sz
theorem a0S{t sz:Nat}{l:List (X.Γ t)}{fu:Bool}{x:TV}(hv:VR X P F m h (.dn t l fu) x)(hz:dB P t=some sz):SlR X P F m h t sz l x:=by
 cases hv with
 |o8=>exact .inl ⟨rfl,rfl⟩
 |dn a c c2 s z o k f e r=>
  rw[hz]at s;cases s;exact .inr ⟨_,_,_,_,_,rfl,k,c,c2,e,o,r⟩
 |gone hi _ _=>simp[bn]at hi
theorem a5A{k ex:Bool}{t sz:Nat}{l:List (X.Γ t)}{x:TV}(hv:LR X P F m h k ex t l x)(hz:dB P t=some sz):SlR X P F m h t sz l x:=by
 cases hv with
 |nil=>exact .inl ⟨rfl,rfl⟩
 |emp h0 h1 h2 h3 h4=>
  rw[hz]at h3;cases h3;exact .inr ⟨_,_,_,_,_,rfl,a0V _,h1,fun e=>absurd rfl e,fun j a hj=>by simp at hj,by simpa using h2,fun j a i c v hj=>by simp at hj⟩
 |some h1 h2 h3 h4 h5 h6 h7 h8 h9=>
  rw[hz]at h2;cases h2;exact .inr ⟨_,_,_,_,_,rfl,a0V _,by unfold aV;rw[h4],fun _=>wI h4 (by omega),h9⟩
theorem eu.part{t sz:Nat}{l:List (X.Γ t)}{cs:List TV}{off o n:Nat}(hv:eu X P F m h t l cs off sz)(hn:o+n<=l.length):eu X P F m h t ((l.drop o).take n) cs (off+o*sz) sz:=by
 have hlen:((l.drop o).take n).length=n:=by rw[a3N,a3H];omega
 refine⟨fun j y hy=>?_,?_,fun j y i c v hy h2 h3=>?_⟩
 .rw[a3W]at hy;split at hy
  .rw[a3X]at hy;exact hv.1 _ _ hy
  cases hy
 .have:=hv.2.1;have h2:(o+n)*sz<=l.length*sz:=a3r sz hn;rw[hlen];rw[a2Z]at h2;omega
 rw[a3W]at hy;split at hy
 .rw[a3X]at hy;refine hv.2.2 _ y i c v hy h2 ?_;rw[<-h3];congr 1;rw[a2Z];omega
 cases hy
theorem eu.take{t sz:Nat}{l:List (X.Γ t)}{cs:List TV}{off:Nat}(hv:eu X P F m h t l cs off sz):eu X P F m h t l ((cs.drop off).take (l.length*sz)) 0 sz:=by
 refine⟨hv.1,?_,fun j a i c v h1 h2 h3=>?_⟩
 .have:=hv.2.1;rw[a3N,a3H];omega
 rw[a3W]at h3;split at h3
 .rw[a3X]at h3;exact hv.2.2 j a i c v h1 h2 (by rw[<-h3];congr 1;omega)
 cases h3
theorem SlR.src{t sz:Nat}{l:List (X.Γ t)}{x:TV}(hv:SlR X P F m h t sz l x):∃new,fD sz h x=some (l.length,new)∧new.length=l.length*sz∧eu X P F m h t l new 0 sz:=by
 rcases hv with⟨rfl,rfl⟩|⟨b,off,cap,ex,cs,rfl,hk,hc,Ie,hw⟩
 .exact⟨[],rfl,by simp,fun j a hj=>by simp at hj,by simp,fun j a i c v hj=>by simp at hj⟩
 refine⟨(cs.drop off).take (l.length*sz),?_,?_,hw.take⟩
 .have:=hw.2.1;simp only[fD,a2j,sub];by_cases h0:l.length=0
  .rw[a0i h0,h0];simp
  rw[a0g h0,Ie (fun e=>h0 (by rw[e];rfl))];simp only;rw[a0i this];rfl
 have:=hw.2.1;rw[a3N,a3H];omega
theorem eu.app{t sz:Nat}{l r:List (X.Γ t)}{a b:List TV}(h1:eu X P F m h t l a 0 sz)(h2:eu X P F m h t r b 0 sz)(ha:a.length=l.length*sz):eu X P F m h t (l++r) (a++b) 0 sz:=by
 refine⟨fun j y hy=>?_,?_,fun j y i c v hy hi hx=>?_⟩
 .rcases a3V j l.length with hl|hl
  .rw[a0c hl]at hy;exact h1.1 j y hy
  rw[a19 hl]at hy;exact h2.1 _ y hy
 .have:=h2.2.1;simp only[a1X,a2Z];omega
 rcases a3V j l.length with hl|hl
 .rw[a0c hl]at hy;have aQ:i<sz:=by rw[<-h1.1 j y hy];exact(a02.1 hi).1
  have:(j+1)*sz<=l.length*sz:=a3r sz hl;rw[a2Z]at this;rw[a0c (by omega)]at hx;exact h1.2.2 j y i c v hy hi hx
 rw[a19 hl]at hy;have:l.length*sz<=j*sz:=a3r sz hl;rw[a19 (by omega)]at hx;refine h2.2.2 _ y i c v hy hi ?_;rw[<-hx];congr 1;rw[ha,Nat.sub_mul];omega
theorem uz{Γ:Nat->Type}{t t':Nat}{l:List (Γ t')}{r:List (Γ t)}(h:Cm t t' l=some r):∃e:t'=t,r=e▸l:=by
 unfold Cm at h;split at h
 .rename_i e;cases h;exact⟨e,rfl⟩
 cases h
theorem Uf(hX:bK X P)(hr:HR X P A m H h){e sz:Nat}{x:PV X.Γ}{tx:TV}(hv:VR X P (AA A m) m h x tx)(hz:dB P e=some sz){rows:List (X.Γ e)}{is:List Nat}(hs:Ac X H e sz x=some (rows,is)) :
  ∃new,fD sz h tx=some (rows.length,new)∧new.length=rows.length*sz∧eu X P (FA A m is) m' h e rows new 0 sz:=by
 have up:∀{l:List (X.Γ e)} {y:TV},SlR X P (AA A m) m h e sz l y->∃new,fD sz h y=some (l.length,new)∧new.length=l.length*sz∧eu X P (FA A m []) m' h e l new 0 sz:=by
  intro l y hy;obtain⟨new,h1,h2,h3⟩:=hy.src;exact⟨new,h1,h2,(h3.mono fun b hb=>.inl hb).jc hX⟩
 cases x with
 |nil k=>
  cases k<;>simp only[Ac]at hs<;>try (cases hs;done)
  simp only[a01,a0j]at hs;obtain⟨rfl,rfl⟩:=hs;cases hv with
  |nil=>exact up (.inl ⟨rfl,rfl⟩)
  |gone hi _ _=>simp[bn]at hi
 |dn t l fu=>
  simp only[Ac,a06,a0j]at hs;obtain⟨r,h1,rfl,rfl⟩:=hs;obtain⟨rfl,rfl⟩:=uz h1;exact up (a0S hv hz)
 |own i=>
  simp only[Ac]at hs;split at hs
  .rename_i k ex t l hH;simp only[a06,a0j]at hs;obtain⟨r,h1,rfl,rfl⟩:=hs;obtain⟨rfl,rfl⟩:=uz h1;obtain⟨mb,g1,g2⟩:=hr.at_ i _ hH;cases mb with
   |dn y=>
    cases hv with
    |own e' o=>rw[g1]at e';cases e';exact up (a5A g2 hz)
    |gone hi e' o=>simp only[bn,a01]at hi;subst hi;rw[g1]at e';cases e'
   |_=>exact g2.elim
  .cases hs
 |win i o n=>
  simp only[Ac]at hs;split at hs
  .rename_i k ex t l hH;simp only[a06,a0j]at hs;obtain⟨r,h1,rfl,rfl⟩:=hs;obtain⟨rfl,rfl⟩:=uz h1;obtain⟨mb,g1,g2⟩:=hr.at_ i _ hH;cases mb with
   |dn y=>
    have hsl:=a5A g2 hz;cases hv with
    |win e' q q' q2=>
     rw[g1]at e';cases e';rcases hsl with⟨h,_⟩|⟨b,off,cap,ex',cs,he,hk,hc,Ie,hw⟩
     .cases h
     .cases he;have hlen:n=((r.drop o).take n).length:=by rw[a3N,a3H];omega
      refine up (.inr ⟨_,_,_,_,cs,congrArg (fun k=>TV.slc _ _ k _ _ _) hlen,hlen▸q',hc,fun iC=>?_,hw.part q⟩);have h1:n≠0:=fun e=>iC (by subst e;simp);have h2:=q2.resolve_left h1;rw[<-Ie (fun e=>iC (by rw[e];simp)),<-h2];congr 1;rw[a2Z];omega
    |Ae e'=>
     rw[g1]at e';cases e';refine up (.inl ⟨rfl,by simp⟩)
    |gone hi e' o=>simp only[bn,a01]at hi;subst hi;rw[g1]at e';cases e'
   |_=>exact g2.elim
  .cases hs
 |slc b off len cap sz' ex=>
  simp only[Ac]at hs;split at hs
  .rename_i cs hH;split at hs
   .rename_i uU;obtain⟨uU,adX⟩:=uU;subst uU;obtain⟨mb,g1,g2⟩:=hr.at_ b _ hH;cases mb with
    |fV c=>
     obtain⟨cs',g3,g4⟩:=g2;cases hv with
     |slc e'=>
      rw[g1]at e';cases e';obtain⟨hl,hw⟩:=Ai (m':=m') hX hr (g4.drop off) hs;subst hl;rw[g4.1]at adX;refine⟨(cs'.drop off).take (rows.length*sz'),?_,by rw[a3N,a3H];omega,by simpa using hw.take⟩;simp only[fD,a2j,wJ g3 (by simp),sub];split
      .rename_i h0;rw[h0,abM,List.take_zero]
      .simp only[adX,a2j,a0U]
     |gone hi e' o=>simp only[bn,a01]at hi;subst hi;rw[g1]at e';cases e'
    |_=>exact g2.elim
   .cases hs
  .cases hs
 |_=>simp[Ac]at hs
end
open Go Tw
def GK(m:List MB)(i b:Nat):Prop:=∃mb,m[i]? = some mb∧mb.own=some b
structure IR(m:List MB)(h:List HB)(p:PI)(t:lK):Prop where
 all:t.all=true->p.i.all=true
 tl:∀k,.l k∈t.ts->.l k∈p.i.ts
 wl:∀k,.l k∈t.ws->.l k∈p.i.ws
 wh:∀b,.h b∈t.ws->(∃i,.h i∈p.i.ws∧GK m i b)∨(p.wall=true∧b∈bC m)
 th:∀b,.h b∈t.ts->((∃i,.h i∈p.i.ts∧GK m i b)∨b∉bC m)∧b<h.length
 hp:p.hp=false->t.all=false∧(∀b,.h b∉t.ts)∧∀b,.h b∉t.ws
theorem IR.none{m:List MB}{h:List HB}{p:PI}:IR m h p bY:=⟨fun h=>(by cases h),fun _ h=>(by cases h),fun _ h=>(by cases h),fun _ h=>(by cases h),fun _ h=>(by cases h),fun _=>⟨rfl,fun _ h=>(by cases h),fun _ h=>(by cases h)⟩⟩
section
variable {X:kH} {P:Program} {A F:Nat->Prop} {m m':List MB} {h h':List HB} {H H':List (PB X.Γ)}
structure uQ(X:kH)(P:Program)(A:Nat->Prop)(m:List MB)(ps:aS X.Γ)(ts:St):Prop where
 heap:HR X P A m ps.heap ts.heap
 llen:ps.loc.length=ts.loc.length
 loc:∀(k:Nat) cs,ps.loc[k]? = some cs->∃cs',ts.loc[k]? = some cs'∧bV X P (AA A m) m ts.heap cs cs'
 env:jM X P (AA A m) m ts.heap ps.env ts.env
theorem uQ.step{ps:aS X.Γ}{ts:St}(hR:uQ X P A m ps ts){H1:List (PB X.Γ)}{h1:List HB}(hr:HR X P A m' H1 h1)(hF:Fr m ts.heap m' h1)(hU:Up m m'):uQ X P A m' { ps with heap:=H1 } { ts with heap:=h1 }:=
 ⟨hr,hR.llen,fun k cs hk=>let ⟨cs',g1,g2⟩:=hR.loc k cs hk;⟨cs',g1,g2.step hF hU⟩,hR.env.step hF hU⟩
def OpR(X:kH)(P:Program)(A:Nat->Prop)(m:List MB)(call:bf)(site:Nat->Bool)(ts:St)(o:Oper)(pe:PE X.Γ)(ps1:aS X.Γ)(pi:PI):Prop:=
 ∃ev iH ti m1,oP P call site ts o=some (ev,iH,ti)∧iH.env=ts.env∧iH.ws=ts.ws∧uQ X P A m1 ps1 iH∧Ih X P (AA A m1) m1 iH.heap pe ev∧Fr m ts.heap m1 iH.heap∧Up m m1∧IR m ts.heap pi ti∧∀b,.h b∈ti.ws->b∈bC m
theorem uD{call:bf}{site:Nat->Bool}{ps:aS X.Γ}{ts:St}{o:Oper}{pe:PE X.Γ}{ev:EV}{pi:PI}(hR:uQ X P A m ps ts)(h:oP P call site ts o=some (ev,ts,bY))(hp:Ih X P (AA A m) m ts.heap pe ev):OpR X P A m call site ts o pe ps pi:=
 ⟨ev,ts,bY,m,h,rfl,rfl,hR,hp,.refl,.refl,.none,fun b hb=>by cases hb⟩
theorem uQ.BA{ps:aS X.Γ}{ts:St}(hR:uQ X P A m ps ts){x:Operand}{b:Bool}(hb:qH ts.env x=some (.bool b)):uQ X P A m (ps.BA x b) ts:=by
 cases x with
 |tmp t=>
  refine⟨hR.heap,hR.llen,hR.loc,a9h hR.env ?_⟩;simp only[qH,Ib]at hb;split at hb
  .rename_i v hv;cases hb;exact hv
  cases hb
 |_=>exact hR
theorem Rl{ps:aS X.Γ}{ts:St}(hR:uQ X P A m ps ts){site:Bool}{cs:List (PV X.Γ)}{cs':List TV}(hc:bV X P (AA A m) m ts.heap cs cs') :
  ∃m1,(qI site ts cs').2.env=ts.env∧(qI site ts cs').2.ws=ts.ws∧uQ X P A m1 (Dz site ps cs).2 (qI site ts cs').2∧Ih X P (AA A m1) m1 (qI site ts cs').2.heap (Dz site ps cs).1 (qI site ts cs').1∧Fr m ts.heap m1 (qI site ts cs').2.heap∧Up m m1:=by
 cases site with
 |true=>
  have hp:=hR.heap.push (pb:=.cells cs) (hb:=.cells .own cs') (mb:=.fV ts.heap.length) (.inl rfl) ?_
  .refine⟨m++[.fV ts.heap.length],rfl,rfl,hR.step hp.1 hp.2.1 hp.2.2,?_,hp.2.1,hp.2.2⟩;show VR X P _ _ _ (.ptr ps.heap.length 0 cs.length) (.ptr ts.heap.length 0 cs'.length);rw[hc.1];exact .ptr (by rw[<-hR.heap.len];simp)
  .refine⟨cs',by simp,hc.step ?_ (wK _)⟩;refine⟨by simp,fun b hb _=>by rw[a0c hb],fun b hb=>?_,fun b cs hc=>⟨cs,by rw[fM (a0c (gJ hc)),hc],a0V _⟩⟩;rw[iW,a2X,jY]at hb;rcases hb with hb|hb
   .exact .inl hb
   .simp[MB.own]at hb;exact .inr (by omega)
 |false=>
  refine⟨m,rfl,rfl,⟨hR.heap,by simp[Dz,qI,hR.llen],fun k ds hk=>?_,hR.env⟩,?_,.refl,.refl⟩
  .simp only[Dz,qI,a2l,a3a]at hk ⊢;rcases a3V k ps.loc.length with hl|hl
   .rw[a0c hl]at hk;obtain⟨ds',g1,g2⟩:=hR.loc k ds hk;exact⟨ds',by rw[a0c (by rw[<-hR.llen];exact hl)];exact g1,g2⟩
   .rw[a19 hl]at hk;have:k-ps.loc.length=0:=by
     rcases abm (k-ps.loc.length)with e|e
     .exact e
     .rw[a3R (by simp;omega)]at hk;cases hk
    rw[this]at hk;simp only[a2C,a01]at hk;subst hk;exact⟨cs',by rw[a19 (by rw[<-hR.llen];exact hl),<-hR.llen,this];rfl,hc⟩
  .exact⟨hR.llen,rfl⟩
theorem iO{i:Nat}{mb:MB}{b:Nat}(h1:m[i]? = some mb)(h2:mb.own=some b):GK m i b:=⟨mb,h1,h2⟩
theorem Za{i b:Nat}(h:GK m i b):b∈bC m:=let ⟨_,h1,h2⟩:=h;bg h1 h2
theorem IR.rdH{i b:Nat}(h0:GK m i b)(hl:b<h.length):IR m h ⟨xg (.h i),false,false,true⟩ (xg (.h b)):=
 ⟨fun h=>(by cases h),fun k hk=>(by simp[xg]at hk),fun k hk=>(by simp[xg]at hk),fun b hb=>(by simp[xg]at hb),fun c hc=>(by simp[xg]at hc;subst hc;exact⟨.inl ⟨i,by simp[xg],h0⟩,hl⟩),fun h=>(by cases h)⟩
theorem IR.wrH{i b:Nat}(h0:GK m i b)(hl:b<h.length):IR m h ⟨oO (.h i),false,false,true⟩ (oO (.h b)):=
 ⟨fun h=>(by cases h),fun k hk=>(by simp[oO]at hk),fun k hk=>(by simp[oO]at hk),fun c hc=>(by simp[oO]at hc;subst hc;exact .inl ⟨i,by simp[oO],h0⟩),fun c hc=>(by simp[oO]at hc;subst hc;exact⟨.inl ⟨i,by simp[oO],h0⟩,hl⟩),fun h=>(by cases h)⟩
theorem IR.loc{k:Nat}:IR m h ⟨xg (.l k),false,false,false⟩ (xg (.l k)):=
 ⟨fun h=>(by cases h),fun j hj=>by simpa[xg]using hj,fun k hk=>(by simp[xg]at hk),fun b hb=>(by simp[xg]at hb),fun c hc=>(by simp[xg]at hc),fun _=>⟨rfl,fun b hb=>(by simp[xg]at hb),fun b hb=>(by simp[xg]at hb)⟩⟩
theorem IR.anl{k:Nat}:IR m h ⟨oO (.l k),false,false,false⟩ (oO (.l k)):=
 ⟨fun h=>(by cases h),fun j hj=>by simpa[oO]using hj,fun j hj=>by simpa[oO]using hj,fun c hc=>(by simp[oO]at hc),fun c hc=>(by simp[oO]at hc),fun _=>⟨rfl,fun b hb=>(by simp[oO]at hb),fun b hb=>(by simp[oO]at hb)⟩⟩
theorem Wn{t:TypeId}{cs:List TV}{o sz off n:Nat}{x:TV}(ho:o+sz<=cs.length)(hp:uj P t ((cs.drop o).take sz) off=some x)(hn:dB P t=some n):uj P t cs (o+off)=some x∧off+n<=sz∧o+off+n<=cs.length:=by
 unfold uj at hp ⊢;split at hp
 .rename_i k ha hk;rw[hn]at hk;cases hk;simp only[a06]at hp;obtain⟨r,h1,rfl⟩:=hp;unfold sub at h1;split at h1
  .rename_i hl;rw[a3N,a3H]at hl;refine⟨?_,by omega,by omega⟩;cases h1;simp only[ha,hn,sub];rw[a0i (by omega)];simp only[a0U,a01,TV.agg.injEq];rw[agG,afF,afz,a7A (by omega)]
  cases h1
 .rename_i k ha hk;rw[hn]at hk;cases hk;split at hp
  .rename_i h1;subst h1;rw[a3W]at hp;split at hp
   .rename_i h2;rw[a3X]at hp;have:=(a02.1 hp).1;refine⟨by simp only[ha,hn,a2j];exact hp,by omega,by omega⟩
   cases hp
  cases hp
 cases hp
theorem Ro{t:TypeId}{cs:List TV}{off:Nat}{x:TV}(hp:uj P t cs off=some x):∃n,dB P t=some n:=by
 unfold uj at hp;split at hp
 .rename_i n _ hn;exact⟨n,hn⟩
 .rename_i n _ hn;exact⟨n,hn⟩
 cases hp
theorem eu.row{t sz:Nat}{l:List (X.Γ t)}{cs:List TV}{off j:Nat}{a:X.Γ t}(hw:eu X P F m h t l cs off sz)(hj:l[j]? = some a):bV X P F m h (X.enc t a) ((cs.drop (off+j*sz)).take sz)∧off+j*sz+sz<=cs.length:=by
 have hlen:=hw.1 j a hj;have aQ:j<l.length:=(a02.1 hj).1;have h2:(j+1)*sz<=l.length*sz:=a3r sz aQ;have h3:=hw.2.1;rw[a2Z]at h2;refine⟨⟨by rw[hlen,a3N,a3H];omega,fun i c v hc hv=>?_⟩,by omega⟩;rw[a3W]at hv;split at hv
 .rw[a3X]at hv;exact hw.2.2 j a i c v hj hc hv
 cases hv
theorem Aj{t:Nat}{l:List (X.Γ t)}{j:Nat}(hj:j<l.length):l[j]? = some (l.getD j (X.d0 t)):=by
 rw[a2I,a0b hj];rfl
theorem G5(hX:bK X P){ps:aS X.Γ}{ts:St}(hR:uQ X P A m ps ts){t:TypeId}{pa:PE X.Γ}{ea:EV}(ha:Ih X P (AA A m) m ts.heap pa ea){v:PV X.Γ}{pi:lK}(hl:Ad X P t ps pa=some (v,pi)) :
  ∃x ti,loadT P t ts ea=some (x,ti)∧VR X P (AA A m) m ts.heap v x∧IR m ts.heap ⟨pi,false,false,!U7 pa⟩ ti∧ti.ws=[]:=by
 cases pa with
 |loc k off=>
  rw[DF ha];simp only[Ad]at hl;split at hl
  .rename_i cs hk;simp only[a06,a0j]at hl;obtain⟨w,h1,rfl,rfl⟩:=hl;obtain⟨cs',g1,g2⟩:=hR.loc k cs hk;obtain⟨x,g3,g4⟩:=Ag g2 h1;exact⟨x,xg (.l k),by simp only[loadT,g1,g3,a0U],g4,.loc,rfl⟩
  .cases hl
 |undef|ent|E8=>simp[Ad]at hl
 |val a=>
  obtain⟨y,rfl,hy⟩:=fO ha;cases a with
  |ptr b off lim=>
   simp only[Ad]at hl;split at hl
   .rename_i cs n hb hn;split at hl
    .rename_i KF;simp only[a06,a0j]at hl;obtain⟨w,h1,rfl,rfl⟩:=hl;obtain⟨mb,g1,g2⟩:=hR.heap.at_ b _ hb;cases mb with
     |fV c=>
      obtain⟨cs',g3,g4⟩:=g2;cases hy with
      |ptr e=>
       rw[g1]at e;cases e;obtain⟨x,g5,g6⟩:=Ag g4 h1;refine⟨x,xg (.h c),?_,g6,.rdH (iO g1 rfl) (a02.1 g3).1,rfl⟩;simp only[loadT,wJ g3 (show BK.own≠.last by simp),hn,KF,a2j,g5,a0U]
      |gone hi e _=>simp only[bn,a01]at hi;subst hi;rw[g1]at e;cases e
     |_=>exact g2.elim
    .cases hl
   .rename_i cs n hb hn;split at hl
    .rename_i KF;simp only[a06,a0j]at hl;obtain⟨w,h1,rfl,rfl⟩:=hl;obtain⟨mb,g1,g2⟩:=hR.heap.at_ b _ hb;cases mb with
     |je c=>
      obtain⟨g0,cs',g3,g4⟩:=g2;cases hy with
      |ptr e=>rw[g1]at e;cases e
      |gone hi e _=>
       simp only[bn,a01]at hi;subst hi;rw[g1]at e;cases e with
       |r _ e=>
        simp only[roV,a01]at e;subst e;obtain⟨x,g5,g6⟩:=Ag g4 h1;refine⟨x,xg (.h c),?_,g6,⟨fun h=>(by cases h),fun k hk=>(by simp[xg]at hk),fun k hk=>(by simp[xg]at hk),fun b hb=>(by simp[xg]at hb),fun d hd=>?_,fun h=>(by cases h)⟩,rfl⟩
        .simp only[loadT,wJ g3 (show BK.own≠.last by simp),hn,KF,a2j,g5,a0U]
        .simp[xg]at hd;subst hd;exact⟨.inr g0,(a02.1 g3).1⟩
     |_=>exact g2.elim
    .cases hl
   .cases hl
  |row b j off=>
   simp only[Ad]at hl;split at hl
   .rename_i k ex e l hb;simp only[a06,a0j]at hl;obtain⟨w,h1,rfl,rfl⟩:=hl;obtain⟨mb,g1,g2⟩:=hR.heap.at_ b _ hb;cases mb with
    |dn z=>
     cases hy with
     |row e' hj hq=>
      rw[g1]at e';cases e';cases(g2:LR X P _ _ _ _ _ _ _ _)with
      |emp=>omega
      |some q1 q2 q3 q4 q5 q6 q7 q8 q9=>
       have yE:=q9.row (Aj hj);obtain⟨x,g5,g6⟩:=Ag yE.1 h1;obtain⟨n,hn⟩:=Ro g5;obtain⟨g7,g8,_⟩:=Wn yE.2 g5 hn;rw[a3O]at g7;refine⟨x,xg (.h _),?_,g6,.rdH (iO g1 (by simp only[MB.own];rw[a0g (by simpa using q1)])) (a02.1 q4).1,rfl⟩;have rQ:=yE.2;simp only[loadT,wI q4 q8.symm,hn];rw[a0i (by omega),g7];rfl
     |gone hi e' _=>simp only[bn,a01]at hi;subst hi;rw[g1]at e';cases e'
    |_=>exact g2.elim
   .cases hl
  |el e a off=>
   simp only[Ad,a06,a0j]at hl;obtain⟨w,h1,rfl,rfl⟩:=hl;cases hy with
   |el q1 q2 q2' q3 q4 q5 q6=>
    rename_i b o sz lim cs;have yE:bV X P (AA A m) m ts.heap (X.enc e a) ((cs.drop o).take sz):=by
     refine⟨by rw[q4,a3N,a3H];omega,fun i c v hc hv=>?_⟩;rw[a3W]at hv;split at hv
     .rw[a3X]at hv;exact q6 i c v hc hv
     .cases hv
    obtain⟨x,g5,g6⟩:=Ag yE h1;obtain⟨n,hn⟩:=Ro g5;obtain⟨g7,g8,_⟩:=Wn q3 g5 hn;refine⟨x,xg (.h b),?_,g6,⟨fun h=>(by cases h),fun k hk=>(by simp[xg]at hk),fun k hk=>(by simp[xg]at hk),fun b hb=>(by simp[xg]at hb),fun c hc=>?_,fun h=>(by cases h)⟩,rfl⟩
    .simp only[loadT,q2,hn];rw[a0i (by omega),g7];rfl
    .simp[xg]at hc;subst hc;exact⟨.inr q1.2,a2B q2⟩
   |gone hi e' _=>simp[bn]at hi
  |_=>simp[Ad]at hl
end
open Go Tw
section
variable {X:kH} {P:Program} {A F:Nat->Prop} {m m':List MB} {h h':List HB} {H H':List (PB X.Γ)}
theorem O9{cs new:List TV}{o sz off:Nat}{r:List TV}(ho:o+sz<=cs.length)(hr:vV ((cs.drop o).take sz) off new=some r):vV cs (o+off) new=some (cs.take o++r++cs.drop (o+sz))∧r.length=sz:=by
 unfold vV at hr ⊢;split at hr
 rotate_left
 .cases hr
 rename_i hl;have qF:=hl;rw[a3N,a3H]at hl;cases hr;refine⟨?_,?_⟩
 .rw[a0i (by omega)];simp only[a01];apply a9n;intro i;simp only[List.getElem?_append,a1X,a3N,a3H,a3W,a3X];rcases a3V i o with h1|h1
  .simp (disch:=omega) only [a7A,a0i]
  rcases a3V i (o+off)with h2|h2
  .rw[a0i (by omega),a0i (by omega),a0i (by omega),a0i (by omega),a0g (by omega),a0i (by omega),a0i (by omega),a0i (by omega),a0i (by omega)];congr 1;omega
  rcases a3V i (o+off+new.length)with h3|h3
  .rw[a0i (by omega),a0g (by omega),a0i (by omega),a0g (by omega),a0i (by omega),a0g (by omega)];congr 1;omega
  rcases a3V i (o+sz)with h4|h4
  .rw[a0g (by omega),a0i (by omega),a0g (by omega),a0g (by omega),a0i (by omega)];congr 1;omega
  rw[a0g (by omega),a0g (by omega)];congr 1;omega
 simp only[a1X,a3N,a3H];omega
theorem eu.set{t sz j:Nat}{l:List (X.Γ t)}{cs r:List TV}{a:X.Γ t}(hw:eu X P F m h t l cs 0 sz)(hr:bV X P F m h (X.enc t a) r)(hl:r.length=sz)(hj:j<l.length) :
  eu X P F m h t (l.set j a) (cs.take (j*sz)++r++cs.drop (j*sz+sz)) 0 sz:=by
 have h2:(j+1)*sz<=l.length*sz:=a3r sz hj;rw[a2Z]at h2;have h3:=hw.2.1;refine⟨fun k y hy=>?_,?_,fun k y i c v hy hi hx=>?_⟩
 .rw[a9j]at hy;split at hy
  .cases hy;rw[hr.1,hl]
  .exact hw.1 k y hy
 .simp only[a1X,a3N,a3H,a4e];omega
 .rw[a9j]at hy;split at hy
  .rename_i e;subst e;cases hy;have aQ:i<sz:=by rw[<-hl,<-hr.1];exact(a02.1 hi).1
   refine hr.2 i c v hi ?_;rw[a0c (by simp only[a1X,a3N];omega),a19 (by rw[a3N];omega),a3N]at hx;rw[<-hx];congr 1;omega
  .rename_i e;have hlen:=hw.1 k y hy;have aQ:i<sz:=by rw[<-hlen];exact(a02.1 hi).1
   have hk:k<l.length:=(a02.1 hy).1;refine hw.2.2 k y i c v hy hi ?_;rw[<-hx];rcases a3V k j with h4|h4
   .have:(k+1)*sz<=j*sz:=a3r sz h4;rw[a2Z]at this;rw[a0c (by simp only[a1X,a3N];omega),a0c (by rw[a3N];omega),a3W,a0i (by omega)]
   .have h5:j+1<=k:=(by omega);have:(j+1)*sz<=k*sz:=a3r sz h5;rw[a2Z]at this;rw[a19 (by simp only[a1X,a3N];omega),a3X];congr 1;simp only[a1X,a3N];omega
theorem JM{b:Nat}{pb:PB X.Γ}:∀{is:List Nat} {H:List (PB X.Γ)},is.contains b=false->aZ is (H.set b pb)=(aZ is H).set b pb
 | [],_,_=>rfl
 |i::is,H,hn=>by
  simp only[agK,a9f,agD,ne_eq]at hn;simp only[aZ,VY];rw[List.set_comm _ _ hn.1,JM hn.2]
theorem yK(hX:bK X P){ps ps1:aS X.Γ}{ts:St}(hR:uQ X P A m ps ts){t:TypeId}{pa:PE X.Γ}{ea:EV}(ha:Ih X P (AA A m) m ts.heap pa ea){v:PV X.Γ}{x:TV}(hv:VR X P (AA A m) m ts.heap v x){pi:lK}(hl:U2 X P t ps pa v=some (ps1,pi)) :
  ∃iH ti m1,storeT P t ts ea x=some (iH,ti)∧iH.env=ts.env∧iH.ws=ts.ws∧uQ X P A m1 ps1 iH∧Fr m ts.heap m1 iH.heap∧Up m m1∧IR m ts.heap ⟨pi,false,false,!U7 pa⟩ ti∧∀b,.h b∈ti.ws->b∈bC m:=by
 have hc:=Gy hv;unfold U2 at hl;split at hl
 .rename_i n hn;split at hl
  .rename_i Ns;have a9i:x.cells.length=n∧x.cells.all iR=true:=⟨by rw[<-hc.1];exact Ns.1,by rw[DC hc];exact Ns.2⟩;cases pa with
   |loc k off=>
    rw[DF ha];simp only at hl;split at hl
    .rename_i cs hk;simp only[a06,a0j]at hl;obtain⟨Rq,h1,rfl,rfl⟩:=hl;obtain⟨cs',g1,g2⟩:=hR.loc k cs hk;obtain⟨IQ,g3,g4⟩:=Gz g2 hc h1;refine⟨{ ts with loc:=ts.loc.set k IQ },oO (.l k),m,?_,rfl,rfl,⟨hR.heap,by simp[hR.llen],fun j ds hj=>?_,hR.env⟩,.refl,.refl,.anl,fun b hb=>by simp[oO]at hb⟩
     .simp only[storeT,hn,a9i,acG,a2j,g1,g3,a0U]
     .by_cases e:k=j
      .subst e;rw[a3Y]at hj;rw[hk]at hj;cases hj;exact⟨IQ,by rw[a3Y,g1];rfl,g4⟩
      .rw[a1g e]at hj;obtain⟨ds',q1,q2⟩:=hR.loc j ds hj;exact⟨ds',by rw[a1g e];exact q1,q2⟩
    .cases hl
   |undef|ent|E8=>simp at hl
   |val a=>
    obtain⟨y,rfl,hy⟩:=fO ha;cases a with
    |ptr b off lim=>
     simp only at hl;split at hl
     .rename_i KF;split at hl
      .rename_i cs hb;simp only[a06,a0j]at hl;obtain⟨Rq,h1,rfl,rfl⟩:=hl;obtain⟨mb,g1,g2⟩:=hR.heap.at_ b _ hb;cases mb with
       |fV c=>
        obtain⟨cs',g3,g4⟩:=g2;cases hy with
        |ptr e=>
         rw[g1]at e;cases e;obtain⟨IQ,g5,g6⟩:=Gz g4 hc h1;have hlen:IQ.length=cs'.length:=by
          unfold vV at g5;split at g5
          .cases g5;simp only[a1X,a3N,a3H];omega
          .cases g5
         have aQ:=(a02.1 g3).1;obtain⟨hr1,hF⟩:=hR.heap.set (pb:=.cells Rq) (hb:=.cells .own IQ) g1 (c:=c) rfl (fun Wp Wq=>⟨IQ,by simp[aV,aQ],by
          simp only[aV,g3,a01]at Wq;subst Wq;omega⟩) fun hF=>⟨IQ,by simp[aQ],g6.step hF .refl⟩
         refine⟨{ ts with heap:=ts.heap.set c (.cells .own IQ) },oO (.h c),m,?_,rfl,rfl,hR.step hr1 hF .refl,hF,.refl,.wrH (iO g1 rfl) aQ,fun b hb=>?_⟩
         .simp only[storeT,hn,a9i,acG,a2j,KF,Wh g3,g5,a0U]
         .simp[oO]at hb;subst hb;exact bg g1 rfl
        |gone hi e _=>simp only[bn,a01]at hi;subst hi;rw[g1]at e;cases e
       |_=>exact g2.elim
      .cases hl
     .cases hl
    |row b j off=>
     simp only at hl;split at hl
     .rename_i k0 ex e l hb;split at hl
      .rename_i Rq h1;split at hl
       .rename_i a is hd;split at hl
        .cases hl
        .rename_i hnb;simp only[a01,a0j]at hl;obtain⟨rfl,rfl⟩:=hl;obtain⟨mb,g1,g2⟩:=hR.heap.at_ b _ hb;cases mb with
         |dn z=>
          cases hy with
          |row e' hj hq=>
           rw[g1]at e';cases e';cases(g2:LR X P _ _ _ _ _ _ _ _)with
           |emp=>omega
           |some q1 q2 q3 q4 q5 q6 q7 q8 q9=>
            rename_i c sz xx kk cs;obtain⟨Bc,xM,hkr,hko⟩:=IK q5;have vI:(MB.dn (TV.slc c 0 l.length l.length sz xx)).own=some c:=by simp only[MB.own];rw[a0g (by simpa using q1)]
            have yE:=q9.row (Aj hj);simp only[a3O]at yE;obtain⟨r,g3,g4⟩:=Gz yE.1 hc h1;obtain⟨g5,g6⟩:=O9 yE.2 g3;have anm:=a0R (m':=bT is m) hX hR.heap g4 hd;have hgo:=hR.heap.aZ is;have Qc:=iw (h:=ts.heap) is m;have ahP:is.contains b=false:=(by simpa using hnb);have hm1:(bT is m)[b]? = some (.dn (.slc c 0 l.length l.length sz xx)):=by rw[Gw is g1,ahP];rfl
            have aQ:=(a02.1 q4).1;have TA:(cs.take (j*sz)++r++cs.drop (j*sz+sz)).length=cs.length:=by
             simp only[a1X,a3N,a3H];omega
            obtain⟨hr1,hF⟩:=hgo.set (pb:=.list k0 ex e (l.set j a)) (hb:=.cells Bc (cs.take (j*sz)++r++cs.drop (j*sz+sz))) hm1 vI (fun Wp Wq=>⟨cs.take (j*sz)++r++cs.drop (j*sz+sz),by simp[aV,aQ],by
             simp only[aV,q4,a01]at Wq;subst Wq;omega⟩) fun hF=>by
              have hw:=(q9.step Qc.1 Qc.2).set (anm.mono fun b hb=>hb.gone hR.heap) g6 hj;have:=LR.some (X:=X) (P:=P) (A:=AA A (bT is m)) (m:=bT is m) (h:=ts.heap.set c (.cells Bc (cs.take (j*sz)++r++cs.drop (j*sz+sz)))) (k:=k0) (ex:=ex) (t:=e) (l:=l.set j a) (b:=c) (sz:=sz) (e:=xx) (kk:=Bc) (cs:=cs.take (j*sz)++r++cs.drop (j*sz+sz))
               (by intro e0;apply q1;have:=congrArg List.length e0;rw[a4e]at this;exact a7o.1 this) q2 q3 (by simp[aQ]) hkr (fun e0=>hko (q6 e0)) q7 (by rw[TA,a4e];exact q8) (hw.step hF .refl)
              rw[a4e]at this;exact this
            rw[<-JM ahP]at hr1;have VL:=Qc.1.trans hF;refine⟨{ ts with heap:=ts.heap.set c (.cells Bc (cs.take (j*sz)++r++cs.drop (j*sz+sz))) },oO (.h c),bT is m,?_,rfl,rfl,hR.step hr1 VL Qc.2,VL,Qc.2,.wrH (iO g1 vI) aQ,fun b hb=>?_⟩
            .have h9:j*sz+off+n<=l.length*sz:=by
              have h8:=yE.2;unfold vV at g3;split at g3
              .rename_i h0;rw[a3N,a3H,a9i.1]at h0;omega
              .cases g3
             simp only[storeT,hn,a9i,acG,a2j,h9,a0M q4 xM q8.symm,g5,a0U]
            .simp[oO]at hb;subst hb;exact bg g1 vI
          |gone hi e' _=>simp only[bn,a01]at hi;subst hi;rw[g1]at e';cases e'
         |_=>exact g2.elim
       .cases hl
      .cases hl
     .cases hl
    |_=>simp at hl
  .cases hl
 .cases hl
end
open Go Tw
section
variable {X:kH} {P:Program} {A F:Nat->Prop} {m m':List MB} {h h':List HB} {H H':List (PB X.Γ)}
theorem nI{v:PV X.Γ}{x:TV}(hv:VR X P A m h v x):Ih X P A m h (.val v) (.val x):=hv
theorem Nj{ps:aS X.Γ}{ts:St}(hR:uQ X P A m ps ts){o:Nat}{pa pb:PE X.Γ}{ea:EV}(ha:Ih X P (AA A m) m ts.heap pa ea)(hl:Gu X ps o pa=some pb):∃eb,PW o ea=some eb∧Ih X P (AA A m) m ts.heap pb eb:=by
 cases pa with
 |loc k off=>
  rw[DF ha];simp only[Gu,a01]at hl;subst hl;exact⟨.loc k (off+o),rfl,rfl,rfl⟩
 |undef|ent|E8=>simp[Gu]at hl
 |val a=>
  obtain⟨y,rfl,hy⟩:=fO ha;cases a with
  |ptr b off lim=>
   simp only[Gu]at hl;split at hl
   .rename_i cs hb;split at hl
    .rename_i hle;cases hl;obtain⟨mb,g1,g2⟩:=hR.heap.at_ b _ hb;cases mb with
     |fV c=>
      cases hy with
      |ptr e=>exact⟨.val (.ptr _ (off+o) lim),by simp only[PW,hle,a2j],VR.ptr e⟩
      |gone hi e q=>simp only[bn,a01]at hi;subst hi;rw[g1]at e;cases e
     |_=>exact g2.elim
    cases hl
   .rename_i cs hb;split at hl
    .rename_i hle;cases hl;obtain⟨mb,g1,g2⟩:=hR.heap.at_ b _ hb;cases mb with
     |je c=>
      cases hy with
      |ptr e=>rw[g1]at e;cases e
      |gone hi e q=>
       simp only[bn,a01]at hi;subst hi;rw[g1]at e;cases e with
       |r _ e=>simp only[roV,a01]at e;subst e;exact⟨.val (.ptr _ (off+o) lim),by simp only[PW,hle,a2j],VR.gone rfl (.ofR g1 rfl) rfl⟩
     |_=>exact g2.elim
    cases hl
   cases hl
  |el t a off=>
   simp only[Gu]at hl;split at hl
   .rename_i hle;cases hl;cases hy with
    |el q1 q2 q2' q3 q4 q5 q6=>
     rename_i b o0 sz lim cs;rw[q4]at hle;refine⟨.val (.ptr b (o0+off+o) lim),by simp only[PW];rw[a0i (by omega)],?_⟩;rw[a9v];exact VR.el q1 q2 q2' q3 q4 hle q6
    |gone hi _ _=>simp[bn]at hi
   cases hl
  |row b j off=>
   simp only[Gu,ahC]at hl;split at hl
   rotate_left
   .cases hl
   rename_i n hn;split at hn
   rotate_left
   .cases hn
   rename_i k ex e l hb;cases hn;split at hl
   .rename_i hle;cases hl;obtain⟨mb,g1,g2⟩:=hR.heap.at_ b _ hb;cases mb with
    |dn z=>
     cases hy with
     |row e' hj hq=>
      rw[g1]at e';cases e';cases(g2:LR X P _ _ _ _ _ _ _ _)with
      |emp=>omega
      |some q1 q2 q3 q4 q5 q6 q7 q8 q9=>
       rw[q9.1 j _ (Aj hj)]at hle;have yE:=(q9.row (Aj hj)).2;refine⟨.val (.ptr _ (j*_+off+o) (l.length*_)),by simp only[PW];rw[a0i (by omega)],?_⟩;rw[a9v];exact VR.row g1 hj hle
     |gone hi e' _=>simp only[bn,a01]at hi;subst hi;rw[g1]at e';cases e'
    |_=>exact g2.elim
   cases hl
  |_=>simp[Gu]at hl
theorem a9k{ps:aS X.Γ}{ts:St}(hR:uQ X P A m ps ts){b:Nat}{k ex:Bool}{e:Nat}{l:List (X.Γ e)}(hb:ps.heap[b]? = some (.list k ex e l)){y:TV}(hy:VR X P (AA A m) m ts.heap (.own b) y)(hl:l≠[]) :
  ∃c sz x,y=.slc c 0 l.length l.length sz x∧m[b]? = some (.dn y)∧dB P e=some sz∧0<sz:=by
 obtain⟨mb,g1,g2⟩:=hR.heap.at_ b _ hb;cases mb with
 |dn z=>
  cases hy with
  |own e' o=>
   rw[g1]at e';cases e';cases(g2:LR X P _ _ _ _ _ _ _ _)with
   |nil=>exact absurd rfl hl
   |emp=>exact absurd rfl hl
   |some q1 q2 q3=>exact⟨_,_,_,rfl,g1,q2,q3⟩
  |gone hi e' _=>simp only[bn,a01]at hi;subst hi;rw[g1]at e';cases e'
 |_=>exact g2.elim
theorem zU{ps:aS X.Γ}{ts:St}(hR:uQ X P A m ps ts){t:TypeId}{px pb:PE X.Γ}{ex:EV}(hx:Ih X P (AA A m) m ts.heap px ex){i:PV X.Γ}{ti:TV}(hi:VR X P (AA A m) m ts.heap i ti){qs:List Prop}(hl:Fe X P t ps px i=some (pb,qs))(hq:∀q∈qs,q) :
  ∃eb,lN P t ex ti=some eb∧Ih X P (AA A m) m ts.heap pb eb:=by
 have TP:∀{k:IntKind} {iv:Int} {n:Nat},gQ iv n->idx n (.int k iv)=some iv.toNat∧iv.toNat<n:=by
  intro k iv n hn;unfold gQ at hn;refine⟨by simp only[idx];rw[a0i hn],by omega⟩
 have hpi:∀{n j:Nat},a2x X n i=some j->idx n ti=some j:=by
  intro n j hj;cases i<;>simp only[a2x]at hj<;>try (cases hj;done)
  cases hi with
  |int=>exact hj
  |gone e _ _=>simp[bn]at e
 unfold Fe at hl;split at hl
 .rename_i e hu;split at hl
  .rename_i n t' l fu k iv hn;split at hl
   .rename_i ht;subst ht;simp only[a01,a0j]at hl;obtain⟨rfl,rfl⟩:=hl;have hr:=TP (k:=k) (hq _ a2T);have:ti=.int k iv:=by
     cases hi with
     |int=>rfl
     |gone e _ _=>simp[bn]at e
    subst this;obtain⟨y,rfl,hy⟩:=fO hx;rcases a0S hy hn with⟨rfl,rfl⟩|⟨b,off,cap,ex',cs,rfl,hk,hc,Ie,hw⟩
    .have:=hr.2;simp at this
    .have yE:=hw.row (Aj hr.2);have hA:AA A m b:=by
      cases hy with
      |dn a=>exact a
      |gone e _ _=>simp[bn]at e
     have Ns:=Ie (by intro e0;rw[e0]at hr;have:=hr.2;simp at this);have hle:off+iv.toNat*n+n<=off+cap*n:=by
      have h1:(iv.toNat+1)*n<=cap*n:=a3r n (by have:=hr.2;omega);rw[a2Z,abl]at h1;omega
     refine⟨.val (.ptr b (off+iv.toNat*n) (off+cap*n)),?_,?_⟩
     .simp only[lN,hu,hn,a2j,hr.1,a0U]
     .have:=VR.el (X:=X) (P:=P) (A:=AA A m) (m:=m) (h:=ts.heap) (t:=t') (a:=l.getD iv.toNat (X.d0 t')) (off:=0) (o:=off+iv.toNat*n) hA Ns hle yE.2 (hw.1 _ _ (Aj hr.2)) (a4t _) (fun i c v h1 h2=>hw.2.2 _ _ i c v (Aj hr.2) h1 h2);exact nI (by simpa using this)
   .cases hl
  .rename_i n b k iv hn;split at hl
   .rename_i w ex' t' l hb;split at hl
    .rename_i ht;subst ht;simp only[a01,a0j]at hl;obtain⟨rfl,rfl⟩:=hl;have hr:=TP (k:=k) (hq _ a2T);have:ti=.int k iv:=by
      cases hi with
      |int=>rfl
      |gone e _ _=>simp[bn]at e
     subst this;obtain⟨y,rfl,hy⟩:=fO hx;obtain⟨c,sz,x',rfl,g1,g2,g3⟩:=a9k hR hb hy (by intro e0;rw[e0]at hr;have:=hr.2;simp at this);rw[hn]at g2;cases g2;refine⟨.val (.ptr c (iv.toNat*n) (l.length*n)),?_,?_⟩
     .simp only[lN,hu,hn,a2j,hr.1,a0U,a3O]
     .have:=VR.row (X:=X) (P:=P) (A:=AA A m) (m:=m) (h:=ts.heap) (off:=0) g1 hr.2 (a4t n);exact nI (by simpa using this)
    .cases hl
   .cases hl
  .rename_i n b o q k iv hn;split at hl
   .rename_i w ex' t' l hb;split at hl
    .rename_i ht;subst ht;simp only[a01,a0j]at hl;obtain⟨rfl,rfl⟩:=hl;have hr:=TP (k:=k) (hq _ a2T);have:ti=.int k iv:=by
      cases hi with
      |int=>rfl
      |gone e _ _=>simp[bn]at e
     subst this;obtain⟨y,rfl,hy⟩:=fO hx;obtain⟨mb,g1,g2⟩:=hR.heap.at_ b _ hb;cases mb with
     |dn z=>
      cases hy with
      |win e' w1 w2 w3=>
       rw[g1]at e';cases e';cases(g2:LR X P _ _ _ _ _ _ _ _)with
       |emp=>have:=hr.2;omega
       |some q1 q2 q3=>
        rw[hn]at q2;cases q2;have hp:=nI (VR.row (X:=X) (P:=P) (A:=AA A m) (m:=m) (h:=ts.heap) (j:=o+iv.toNat) (off:=0) g1 (by have:=hr.2;omega) (a4t n));refine⟨_,?_,hp⟩;have h3:=w3.resolve_left (by have:=hr.2;omega);simp only[lN,hu,hn,a2j,hr.1,a0U,a3O,a2Z,adr,<-h3]
      |Ae e'=>have:=hr.2;omega
      |gone hi e' _=>simp only[bn,a01]at hi;subst hi;rw[g1]at e';cases e'
     |_=>exact g2.elim
    .cases hl
   .cases hl
  .rename_i n b off len cap sz ex' hn;split at hl
   .rename_i cs hb;split at hl
    .rename_i uU;subst uU;simp only[a06,a0j]at hl;obtain⟨j,h1,rfl,rfl⟩:=hl;obtain⟨y,rfl,hy⟩:=fO hx;obtain⟨mb,g1,g2⟩:=hR.heap.at_ b _ hb;cases mb with
     |fV c=>
      cases hy with
      |slc e=>
       have:=hpi h1;rw[g1]at e;cases e;exact⟨.val (.ptr c (off+j*n) (off+cap*n)),by simp only[lN,hu,hn,a2j,this,a0U],VR.ptr g1⟩
      |gone vW e' _=>simp only[bn,a01]at vW;subst vW;rw[g1]at e';cases e'
     |_=>exact g2.elim
    .cases hl
   .cases hl
  .cases hl
 .rename_i len e hu;split at hl
  .rename_i n hn;split at hl
   .rename_i j hj;simp only[a06,a0j]at hl;obtain⟨pa,h1,rfl,rfl⟩:=hl;obtain⟨eb,g1,g2⟩:=Nj hR hx h1;exact⟨eb,by simp only[lN,hu,hn,hpi hj,g1],g2⟩
   .cases hl
  .cases hl
 .cases hl
end
open Go Tw
section
variable {X:kH} {P:Program} {A F:Nat->Prop} {m m':List MB} {h h':List HB} {H H':List (PB X.Γ)}
theorem Yt(hr:HR X P A m H h){at_:Array TypeId}{x:PV X.Γ}{tx:TV}(hx:VR X P (AA A m) m h x tx){v:PV X.Γ}{pi:lK}(hl:adP X P at_ H x=some (v,pi)) :
  ∃w ti,Yh P at_ h tx=some (w,ti)∧VR X P (AA A m) m h v w∧IR m h ⟨pi,false,false,true⟩ ti∧ti.ws=[]:=by
 unfold adP at hl;split at hl
 .rename_i t ht;unfold Yh;simp only[ht];split at hl
  .rename_i s hu;cases hl;cases hx with
   |str=>exact⟨_,_,by first|(simp only[hu];done)|(simp only[hu];rfl),.int _ _,.none,rfl⟩
   |gone hi _ _=>simp[bn]at hi
  .rename_i n e _ hu;cases hl;exact⟨_,_,by first|(simp only[hu];done)|(simp only[hu];rfl),.int _ _,.none,rfl⟩
  .rename_i e b off len cap sz ex hu;split at hl
   .rename_i cs hb;cases hl;obtain⟨mb,g1,g2⟩:=hr.at_ b _ hb;cases mb with
    |fV c=>
     cases hx with
     |slc e'=>exact⟨_,_,by first|(simp only[hu];done)|(simp only[hu];rfl),.int _ _,.none,rfl⟩
     |gone hi e' _=>simp only[bn,a01]at hi;subst hi;rw[g1]at e';cases e'
    |_=>exact g2.elim
   .cases hl
  .rename_i e hu;cases hl;cases hx with
   |nil=>exact⟨_,_,by first|(simp only[hu];done)|(simp only[hu];rfl),.int _ _,.none,rfl⟩
   |gone hi _ _=>simp[bn]at hi
  .rename_i e t' l fu hu;cases hl;cases hx with
   |o8=>exact⟨_,_,by first|(simp only[hu];done)|(simp only[hu];rfl),.int _ _,.none,rfl⟩
   |dn=>exact⟨_,_,by first|(simp only[hu];done)|(simp only[hu];rfl),.int _ _,.none,rfl⟩
   |gone hi _ _=>simp[bn]at hi
  .rename_i e b hu;split at hl
   .rename_i k ex t' l hb;cases hl;obtain⟨mb,g1,g2⟩:=hr.at_ b _ hb;cases mb with
    |dn z=>
     cases hx with
     |own e' _=>
      rw[g1]at e';cases e';cases(g2:LR X P _ _ _ _ _ _ _ _)with
      |nil=>exact⟨_,_,by first|(simp only[hu];done)|(simp only[hu];rfl),.int _ _,.none,rfl⟩
      |emp=>exact⟨_,_,by first|(simp only[hu];done)|(simp only[hu];rfl),.int _ _,.none,rfl⟩
      |some=>exact⟨_,_,by first|(simp only[hu];done)|(simp only[hu];rfl),.int _ _,.none,rfl⟩
     |gone hi e' _=>simp only[bn,a01]at hi;subst hi;rw[g1]at e';cases e'
    |_=>exact g2.elim
   .cases hl
  .rename_i e b o n hu;split at hl
   .rename_i k ex t' l hb;cases hl;obtain⟨mb,g1,g2⟩:=hr.at_ b _ hb;cases mb with
    |dn z=>
     cases hx with
     |win=>exact⟨_,_,by first|(simp only[hu];done)|(simp only[hu];rfl),.int _ _,.none,rfl⟩
     |Ae=>exact⟨_,_,by first|(simp only[hu];done)|(simp only[hu];rfl),.int _ _,.none,rfl⟩
     |gone hi e' _=>simp only[bn,a01]at hi;subst hi;rw[g1]at e';cases e'
    |_=>exact g2.elim
   .cases hl
  .rename_i kt e hu;cases hl;cases hx with
   |nil=>exact⟨_,_,by first|(simp only[hu];done)|(simp only[hu];rfl),.int _ _,.none,rfl⟩
   |gone hi _ _=>simp[bn]at hi
  .rename_i kt e r hu;split at hl
   .rename_i es hb;cases hl;obtain⟨mb,g1,g2⟩:=hr.at_ r _ hb;cases mb with
    |fV c=>
     obtain⟨fU,g3,g4,g5⟩:=g2;cases hx with
     |map e'=>
      rw[g1]at e';cases e';exact⟨_,_,by first|(simp only[hu,g3];done)|(simp only[hu,g3];rfl),by rw[g4];exact .int _ _,.rdH (iO g1 rfl) (a02.1 g3).1,rfl⟩
     |gone hi e' _=>simp only[bn,a01]at hi;subst hi;rw[g1]at e';cases e'
    |_=>exact g2.elim
   .cases hl
  .cases hl
 .cases hl
def a5C:BinOp->Option TV
 |.eql=>some (.bool false)
 |.neq=>some (.bool true)
 |_=>none
theorem Yq{op:BinOp}{t:TypeId}{x y:Operand}{a b:PV X.Γ}{ta tb:TV}(ha:VR X P A m h a ta)(hb:VR X P A m h b tb){v:PV X.Γ}(hl:adQ X P op t x y a b=some v):∃w,sD P op t x y ta tb=some w∧VR X P A m h v w:=by
 unfold adQ at hl;split at hl
 .rename_i u w h1 h2;split at hl
  .rename_i r hr;rw[jH ha h1,jH hb h2];exact⟨r,hr,wL hl⟩
  cases hl
 rename_i hno;split at hl
 rotate_left
 .cases hl
 rename_i hn;have key:∃k,JA P t=some k∧((ta=.nil k∧Jz tb=some k∧tb.yw=none)∨(tb=.nil k∧Jz ta=some k∧ta.yw=none)):=by
  unfold a0J at hn;split at hn
  rotate_left
  .cases hn
  rename_i k hk;refine⟨k,hk,?_⟩;simp only[a8G,a2a,a6v]at hn;have ahQ:∀{z:PV X.Γ} {tz:TV},VR X P A m h z tz->z=.nil k->tz=.nil k:=by
   intro z tz hz e;subst e;cases hz with
   |nil=>rfl
   |gone hi _ _=>simp[bn]at hi
  have abH:∀{z:PV X.Γ} {tz:TV},VR X P A m h z tz->(match z with|.fn _ _ _=>some NK.fn|.el _ _ _=>some NK.ptr|_=>none)=some k->Jz tz=some k∧tz.yw=none:=by
   intro z tz hz e;cases hz with
   |fn=>exact⟨e,rfl⟩
   |el=>exact⟨e,rfl⟩
   |gone hi _ _=>cases z<;>simp[bn]at hi<;>simp at e
   |_=>simp at e
  have ahR:∀{z:PV X.Γ},(match z with|.nil k=>some k|_=>none)=some k->z=.nil k:=by
   intro z e;cases z<;>simp at e
   rw[e]
  rcases hn with⟨h1,h2⟩|⟨h1,h2⟩
  .have:=abH hb h2;exact .inl ⟨ahQ ha (ahR h1),this.1,this.2⟩
  have:=abH ha h1;exact .inr ⟨ahQ hb (ahR h2),this.1,this.2⟩
 obtain⟨k,hk,hc⟩:=key;have adY:sD P op t x y ta tb=a5C op:=by
  rcases hc with⟨rfl,h2,h3⟩|⟨rfl,h2,h3⟩
  .have hnn:BM P t (.nil k) tb=true:=by unfold BM;rw[hk];simp[Yi,h2]
   unfold sD;rw[h3];cases(TV.nil k).yw<;>simp only[hnn,a2j]<;>cases op<;>rfl
  have hnn:BM P t ta (.nil k)=true:=by unfold BM;rw[hk];simp[Yi,h2]
  unfold sD;rw[h3];simp only[hnn,a2j];cases op<;>rfl
 rw[adY];cases op<;>simp only at hl ⊢<;>try (cases hl;done)
 .cases hl;exact⟨_,rfl,.bool _⟩
 cases hl;exact⟨_,rfl,.bool _⟩
theorem Oa{op:BinOp}{t:TypeId}{x y:Operand}{b:PV X.Γ}{ta tb:TV}(hb:VR X P A m h b tb){v:PV X.Γ}{q q':Prop}(hl:LD X P op t b q=some (v,q'))(hq:q')(h2:q->Jz ta=some .slc∧ta.yw=none):∃w,sD P op t x y ta tb=some w∧VR X P A m h v w:=by
 unfold LD at hl;split at hl
 .rename_i hk;have h1:tb=.nil .slc:=by
   cases hb with
   |nil=>rfl
   |gone hi _ _=>simp[bn]at hi
  subst h1;have key:q->sD P op t x y ta (.nil .slc)=a5C op:=fun hq=>by
   obtain⟨h2,h3⟩:=h2 hq;have hnn:BM P t ta (.nil .slc)=true:=by unfold BM;rw[hk];simp[Yi,h2]
   unfold sD;rw[h3];simp only[hnn,a2j];cases op<;>rfl
  split at hl
  .cases hl;rw[key hq];exact⟨_,rfl,.bool _⟩
  .cases hl;rw[key hq];exact⟨_,rfl,.bool _⟩
  cases hl
 cases hl
theorem a2D(hr:HR X P A m H h){op:BinOp}{t:TypeId}{x y:Operand}{a b:PV X.Γ}{ta tb:TV}(ha:VR X P (AA A m) m h a ta)(hb:VR X P (AA A m) m h b tb){v:PV X.Γ}{q:Prop}(hl:U4 X P op t H a b=some (v,q))(hq:q):∃w,sD P op t x y ta tb=some w∧VR X P (AA A m) m h v w:=by
 unfold U4 at hl;split at hl
 .rename_i l fu;refine Oa hb hl hq (fun iC=>?_);cases ha with
  |o8=>exact absurd rfl iC
  |dn=>exact⟨rfl,rfl⟩
  |gone hi _ _=>simp[bn]at hi
 .rename_i i;split at hl
  .rename_i k ex t' l hi;refine Oa hb hl hq (fun iC=>?_);obtain⟨mb,g1,g2⟩:=hr.at_ i _ hi;cases ha with
   |own e o=>
    rw[g1]at e;cases e;cases g2 with
    |nil=>exact absurd rfl iC
    |emp=>exact absurd rfl iC
    |some=>exact⟨rfl,rfl⟩
   |gone hi e _=>simp only[bn,a01]at hi;subst hi;rw[g1]at e;cases e<;>exact g2.elim
  cases hl
 cases hl
theorem iQ{op:UnOp}{a:PV X.Γ}{ta:TV}(ha:VR X P A m h a ta){v:PV X.Γ}(hl:pun X P op a=some v):∃w,unT P op ta=some w∧VR X P A m h v w:=by
 unfold pun at hl;split at hl
 .rename_i u h1;split at hl
  .rename_i r hr;rw[jH ha h1];exact⟨r,hr,wL hl⟩
  cases hl
 cases hl
theorem TD{s d:TypeId}{a:PV X.Γ}{ta:TV}(ha:VR X P A m h a ta){v:PV X.Γ}(hl:a5l X P s d a=some v):∃w,Qo P s d ta=some w∧VR X P A m h v w:=by
 unfold a5l at hl;split at hl
 .rename_i u h1;split at hl
  .rename_i r hr;rw[jH ha h1];exact⟨r,hr,wL hl⟩
  cases hl
 cases hl
theorem yM{mx:Bool}{at_:Array TypeId}{t:TypeId}{az:List (PV X.Γ)}{ts:List TV}(ha:bV X P A m h az ts){v:PV X.Γ}(hl:LG X P mx at_ t az=some v):∃w,Du P mx at_ t ts=some w∧VR X P A m h v w:=by
 unfold LG at hl;split at hl
 .rename_i u h1;split at hl
  .rename_i r hr;rw[a0P ha h1];exact⟨r,hr,wL hl⟩
  cases hl
 cases hl
theorem Nk{t:TypeId}{x:PV X.Γ}{tx:TV}(hx:VR X P A m h x tx){i:Nat}{v:PV X.Γ}(hl:YW X P t x i=some v):∃w,MQ P t tx i=some w∧VR X P A m h v w:=by
 unfold YW at hl;split at hl
 .rename_i fs cs hu;split at hl
  .rename_i f hf;cases hx with
   |agg h1 h2=>
    obtain⟨w,g1,g2⟩:=Ag ⟨h1,h2⟩ hl;exact⟨w,by simp only[MQ,hu,hf,g1],g2⟩
   |gone hi _ _=>simp[bn]at hi
  cases hl
 cases hl
theorem Nl{t:TypeId}{x i:PV X.Γ}{tx ti:TV}(hx:VR X P A m h x tx)(hi:VR X P A m h i ti){v:PV X.Γ}(hl:YX X P t x i=some v):∃w,Ii P t tx ti=some w∧VR X P A m h v w:=by
 unfold YX at hl;split at hl
 .rename_i len e cs hu;split at hl
  .rename_i n j hn hj;have:idx len ti=some j:=by
    cases i<;>simp only[a2x]at hj<;>try (cases hj;done)
    cases hi with
    |int=>exact hj
    |gone e _ _=>simp[bn]at e
   cases hx with
   |agg h1 h2=>
    obtain⟨w,g1,g2⟩:=Ag ⟨h1,h2⟩ hl;exact⟨w,by simp only[Ii,hu,hn,this,g1],g2⟩
   |gone hi _ _=>simp[bn]at hi
  cases hl
 cases hl
end
open Go Tw
section
variable {X:kH} {P:Program} {A F:Nat->Prop} {m m':List MB} {h h':List HB} {H H':List (PB X.Γ)}
theorem GL:∀{is:List Nat} {H:List (PB X.Γ)} {i:Nat} {pb:PB X.Γ},(aZ is H)[i]? = some pb->(i∈is∧pb=.gone)∨(i∉is∧H[i]? = some pb)
 | [],_,_,_,h=>.inr ⟨by simp,h⟩
 |j::is,H,i,pb,h=>by
  rcases GL (is:=is) (H:=VY j H) h with⟨h1,h2⟩|⟨h1,h2⟩
  .exact .inl ⟨a2Y _ h1,h2⟩
  unfold VY at h2;by_cases e:j=i
  .subst e;rw[a3Y]at h2;cases hx:H[j]? with
   |none=>rw[hx]at h2;cases h2
   |some y=>rw[hx]at h2;cases h2;exact .inl ⟨a2T,rfl⟩
  rw[a1g e]at h2;exact .inr ⟨by simp[h1,Ne.symm e],h2⟩
theorem qx(hr:HR X P A m H h)(is:List Nat){k ex x:Bool}{e size:Nat}{rows:List (X.Γ e)}{cs:List TV}(hw:eu X P (FA A m is) (bT is m) h e rows cs 0 size)(hc:cs.length=rows.length*size)(hn:rows≠[])(hz:dB P e=some size)(h0:0<size)(hx:ex=true->x=true) :
  ∃m1,HR X P A m1 (aZ is H++[.list k ex e rows]) (h++[.cells .own cs])∧Fr m h m1 (h++[.cells .own cs])∧Up m m1∧VR X P (AA A m1) m1 (h++[.cells .own cs]) (.own H.length) (.slc h.length 0 rows.length rows.length size x):=by
 have hgo:=hr.aZ is;have Qc:=iw (h:=h) is m;have vI:(MB.dn (.slc h.length 0 rows.length rows.length size x)).own=some h.length:=by simp only[MB.own];rw[a0g (by simpa using hn)]
 have hF:Fr (bT is m) h (bT is m++[.dn (.slc h.length 0 rows.length rows.length size x)]) (h++[.cells .own cs]):=by
  refine⟨by simp,fun b hb _=>by rw[a0c hb],fun b hb=>?_,fun b cs hc=>⟨cs,by rw[fM (a0c (gJ hc)),hc],a0V _⟩⟩;rw[iW,a2X,jY,vI]at hb;rcases hb with hb|hb
  .exact .inl hb
  .simp at hb;exact .inr (by omega)
 obtain⟨h1,h2,h3⟩:=hgo.push (pb:=.list k ex e rows) (hb:=.cells .own cs) (.inl vI)
  (LR.some (kk:=.own) hn hz h0 (by simp) (by simp) (fun _=>rfl) hx hc ((hw.mono fun b hb=>hb.gone hr).step hF (wK _)))
 refine⟨_,h1,Qc.1.trans h2,Qc.2.trans h3,.own ?_ rfl⟩;rw[<-hr.len,<-lW is m];simp
theorem Rt(hr:HR X P A m H h)(is:List Nat){k ex:Bool}{e:Nat}{y:TV}(hy:(MB.dn y).own=none)(ho:iR y=true)(hl:LR X P (AA A (bT is m++[.dn y])) (bT is m++[.dn y]) h k ex e [] y) :
  ∃m1,HR X P A m1 (aZ is H++[.list k ex e []]) h∧Fr m h m1 h∧Up m m1∧VR X P (AA A m1) m1 h (.own H.length) y:=by
 have Qc:=iw (h:=h) is m;obtain⟨h1,h2,h3⟩:=(hr.aZ is).abG (pb:=.list k ex e []) hy hl;refine⟨_,h1,Qc.1.trans h2,Qc.2.trans h3,.own ?_ ho⟩;rw[<-hr.len,<-lW is m];simp
theorem a9l(hr:HR X P A m H h){is:List Nat}{y:TV}(hy:(MB.dn y).own=none){b:Nat}(hb:FA A m is b):AA A (bT is m++[.dn y]) b:=by
 have:=hb.gone hr;refine⟨this.1,fun hm=>this.2 ?_⟩;rw[iW,a2X,jY,hy]at hm;simpa using hm
theorem push_empty(hr:HR X P A m H h)(is:List Nat){k ex:Bool}{e size b off:Nat}{cs:List TV}(hz:dB P e=some size)(h0:0<size)(ha:FA A m is b)(hb:aV h b=some cs)(ho:off<=cs.length) :
  ∃m1,HR X P A m1 (aZ is H++[.list k ex e []]) h∧Fr m h m1 h∧Up m m1∧VR X P (AA A m1) m1 h (.own H.length) (.slc b off 0 0 size true):=
 Rt hr is rfl rfl (LR.emp (a9l hr rfl ha) hb ho hz h0)
theorem Ob(hr:HR X P A m H h)(is:List Nat){k ex:Bool}{e:Nat} :
  ∃m1,HR X P A m1 (aZ is H++[.list k ex e []]) h∧Fr m h m1 h∧Up m m1∧VR X P (AA A m1) m1 h (.own H.length) (.nil .slc):=
 Rt hr is rfl rfl .nil
theorem Oc(hr:HR X P A m H h){b c:Nat}(is:List Nat){mb LH:MB}{pb:PB X.Γ}{h1:List HB}(hb:m[b]? = some mb)(ho:mb.own=some c)(ho':LH.own=some c)(hlen:h1.length=h.length)(hs:∀d,d≠c->h1[d]? = h[d]?)
  (hg:∀cs,aV h c=some cs->∃cs',aV h1 c=some cs'∧cs.length<=cs'.length)
  (qE:Fr m h (bT (b::is) m++[LH]) h1->Up m (bT (b::is) m++[LH])->BR X P (AA A (bT (b::is) m++[LH])) (bT (b::is) m++[LH]) h1 pb LH) :
  ∃m1,m1=bT (b::is) m++[LH]∧HR X P A m1 (aZ (b::is) H++[pb]) h1∧Fr m h m1 h1∧Up m m1∧m1[H.length]? = some LH:=by
 have Qc:=iw (h:=h) (b::is) m;have hgo:=hr.aZ (b::is);have hnc:c∉bC (bT (b::is) m):=fun hm=>by
  obtain⟨j,mbj,g1,g2,g3⟩:=Ah hm;have:=iU hr.nodup hb g2 ho g3;exact g1 (by rw[<-this];exact a2T)
 have yN:∀d,d∈bC (bT (b::is) m++[LH])↔d∈bC (bT (b::is) m)∨d=c:=by
  intro d;rw[iW,a2X,jY,ho'];simp
 have Fv:c∈bC m:=bg hb ho;have hF:Fr m h (bT (b::is) m++[LH]) h1:=by
  refine⟨by omega,fun d hd hn=>hs d fun e=>hn (e▸Fv),fun d hd=>?_,fun d cs hc=>?_⟩
  .rcases(yN d).1 hd with hd|rfl
   .exact Qc.1.new d hd
   .exact .inl Fv
  .by_cases e:d=c
   .subst e;exact hg cs hc
   .exact⟨cs,by rw[fM (hs d e),hc],a0V _⟩
 have hU:Up m (bT (b::is) m++[LH]):=Qc.2.trans (wK _);refine⟨_,rfl,?_,hF,hU,?_⟩
 .refine hr.next hF hU (by simp[lW,nG,hr.len]) ?_ fun i pbi hi=>?_
  .rw[iW,jY,ho'];refine a8w.2 ⟨hgo.nodup,by simp,fun a ha b' xP e=>?_⟩;simp at xP;subst xP;subst e;exact hnc ha
  .rcases a3V i (aZ (b::is) H).length with aQ|En
   .rw[a0c aQ]at hi;have a5D:i<(bT (b::is) m).length:=by rw[hgo.len];exact aQ
    rcases GL hi with⟨e1,rfl⟩|⟨e1,e2⟩
    .obtain⟨mbi,g1,g2⟩:=hgo.at_ i _ hi;cases mbi with
     |gone=>exact .inr ⟨.gone,by rw[a0c a5D];exact g1,trivial⟩
     |_=>exact g2.elim
    .obtain⟨mbi,g1,_⟩:=hr.at_ i _ e2;left;have hm:=Gw (b::is) g1;rw[show(b::is).contains i=false by simpa using e1]at hm;refine⟨mbi,e2,g1,by rw[a0c a5D];simpa using hm,fun d hd=>hs d fun e=>?_⟩;subst e;have:=iU hr.nodup hb g1 ho hd;exact e1 (by rw[<-this];exact a2T)
   .rw[a19 En]at hi;have:i-(aZ (b::is) H).length=0:=by
     rcases abm (i-(aZ (b::is) H).length)with h|h
     .exact h
     .rw[a3R (by simp;omega)]at hi;cases hi
    rw[this]at hi;simp only[a2C,a01]at hi;subst hi;exact .inr ⟨LH,by rw[a19 (by rw[hgo.len];exact En),hgo.len,this];rfl,qE hF hU⟩
 .have:H.length=(bT (b::is) m).length:=by rw[lW,hr.len]
  rw[this];simp
end
open Go Tw
section
variable {X:kH} {P:Program} {A F:Nat->Prop} {m m':List MB} {h h':List HB} {H H':List (PB X.Γ)}
def Ws(X:kH)(P:Program)(A:Nat->Prop)(m:List MB)(ts:St)(r:Option (TV×St×lK))(v:PV X.Γ)(H1:List (PB X.Γ))(pi:PI):Prop:=
 ∃w h1 ti m1,r=some (w,{ ts with heap:=h1 },ti)∧HR X P A m1 H1 h1∧VR X P (AA A m1) m1 h1 v w∧Fr m ts.heap m1 h1∧Up m m1∧IR m ts.heap pi ti∧∀b,.h b∈ti.ws->b∈bC m
theorem nJ{e:TypeId}{n k:Nat}(hb:tY P e n=true)(hk:k<=n):tY P e k=true:=by
 unfold tY at hb ⊢;split at hb
 .rename_i i hi;simp only[a2a,a1E]at hb ⊢;obtain⟨⟨⟨⟨h1,h2⟩,h3⟩,h4⟩,h5⟩:=hb;have:=a3r i.bytes hk;exact⟨⟨⟨⟨by omega,by omega⟩,h3⟩,h4⟩,h5⟩
 cases hb
theorem nK{t e:TypeId}{n:Nat}(hs:jy P t=some (e,n)):dB P e=some n∧0<n:=by
 unfold jy at hs;split at hs
 .split at hs
  .rename_i k hk;split at hs
   .cases hs
   rename_i h0;simp only[a01,a0j]at hs;obtain⟨rfl,rfl⟩:=hs;exact⟨hk,by omega⟩
  cases hs
 cases hs
theorem vJ(hr:HR X P A m H h){e sz:Nat}{x:PV X.Γ}{tx:TV}(hv:VR X P (AA A m) m h x tx)(hz:dB P e=some sz){rows:List (X.Γ e)}{is:List Nat}(hs:Ac X H e sz x=some (rows,is)){b:Nat}(hb:.h b∈dH tx):((∃i,.h i∈CB X x∧GK m i b)∨b∉bC m)∧b<h.length:=by
 have lr:∀{i:Nat} {k ex:Bool} {t:Nat} {l:List (X.Γ t)} {c off len cap s:Nat} {e':Bool},H[i]? = some (.list k ex t l)->m[i]? = some (.dn (.slc c off len cap s e'))->(GK m i c∨c∉bC m)∧c<h.length:=by
  intro i k ex t l c off len cap s e' hH hm;obtain⟨mb,g1,g2⟩:=hr.at_ i _ hH;rw[hm]at g1;cases g1;cases(g2:LR X P _ _ _ _ _ _ _ _)with
  |emp h0 h1=>exact⟨.inr h0.2,gJ h1⟩
  |some q1 q2 q3 q4=>exact⟨.inl (iO hm (by simp only[MB.own];rw[a0g (by simpa using q1)])),(a02.1 q4).1⟩
 cases x with
 |nil k=>
  cases hv with
  |nil=>simp[dH]at hb
  |gone hi _ _=>simp[bn]at hi
 |dn t l fu=>
  cases hv with
  |o8=>simp[dH]at hb
  |dn a ac=>simp[dH]at hb;subst hb;exact⟨.inr a.2,gJ ac⟩
  |gone hi _ _=>simp[bn]at hi
 |own i=>
  simp only[Ac]at hs;split at hs
  .rename_i k ex t l hH;cases hv with
   |own e' o=>
    cases tx<;>simp[dH]at hb
    subst hb;obtain⟨h1,h2⟩:=lr hH e';rcases h1 with h1|h1
    .exact⟨.inl ⟨i,by simp[CB],h1⟩,h2⟩
    exact⟨.inr h1,h2⟩
   |gone hi e' _=>
    simp only[bn,a01]at hi;subst hi;obtain⟨mb,g1,g2⟩:=hr.at_ i _ hH;rw[g1]at e';cases e'<;>exact g2.elim
  cases hs
 |win i o n=>
  simp only[Ac]at hs;split at hs
  .rename_i k ex t l hH;cases hv with
   |win e' q q'=>
    simp[dH]at hb;subst hb;obtain⟨h1,h2⟩:=lr hH e';rcases h1 with h1|h1
    .exact⟨.inl ⟨i,by simp[CB],h1⟩,h2⟩
    exact⟨.inr h1,h2⟩
   |Ae=>simp[dH]at hb
   |gone hi e' _=>
    simp only[bn,a01]at hi;subst hi;obtain⟨mb,g1,g2⟩:=hr.at_ i _ hH;rw[g1]at e';cases e'<;>exact g2.elim
  cases hs
 |slc c off len cap s ex=>
  simp only[Ac]at hs;split at hs
  .rename_i cs hH;cases hv with
   |slc e'=>
    simp[dH]at hb;subst hb;obtain⟨mb,g1,g2⟩:=hr.at_ c _ hH;rw[e']at g1;cases g1;exact⟨.inl ⟨c,by simp[CB],iO e' rfl⟩,g2.has rfl⟩
   |gone hi e' _=>
    simp only[bn,a01]at hi;subst hi;obtain⟨mb,g1,g2⟩:=hr.at_ c _ hH;rw[g1]at e';cases e'<;>exact g2.elim
  cases hs
 |_=>simp[Ac]at hs
theorem IR.reads{p:PI}{ks:List Key}(hp:p.hp=true)(hk:∀b,.h b∈ks->((∃i,.h i∈p.i.ts∧GK m i b)∨b∉bC m)∧b<h.length)(hl:∀k,.l k∉ks):IR m h p (gY ks):=
 ⟨fun h=>(by cases h),fun k h=>absurd h (hl k),fun k h=>(by cases h),fun b h=>(by cases h),hk,fun h=>(by rw[hp]at h;cases h)⟩
theorem og{tx:TV}{k:Nat}:Key.l k∉dH tx:=by cases tx<;>simp[dH]
theorem Ir(hX:bK X P){ps:aS X.Γ}{ts:St}(hR:uQ X P A m ps ts){at_:Array TypeId}{d x:PV X.Γ}{td tx:TV}(hd:VR X P (AA A m) m ts.heap d td)(hx:VR X P (AA A m) m ts.heap x tx){v:PV X.Γ}{H1:List (PB X.Γ)}{pi:lK}{qs:List Prop}
  (hl:U3 X P at_ ps.heap d x=some (v,H1,pi,qs)) (hq:∀q∈qs,q):Ws X P A m ts (jV P at_ ts td tx) v H1 ⟨pi,false,false,true⟩:=by
 have hr:=hR.heap;unfold U3 at hl;split at hl
 .rename_i st xt vO JH;split at hl
  .cases hl
  .rename_i hint;split at hl
   .rename_i e size zM;split at hl
    .rename_i KG;obtain⟨hz,h0⟩:=nK zM;split at hl
     .rename_i rows is hs;obtain⟨new,s1,s2,s3⟩:=Uf (m':=bT is m) hX hr hx hz hs;have hk0:IR m ts.heap ⟨gY (CB X x),false,false,true⟩ (gY (dH tx)):=IR.reads rfl (fun b hb=>vJ hr hx hz hs hb) fun k=>og;have hrn:rows.length=0↔rows=[]:=a7o;split at hl
      .-- nil
       simp only[a01,a0j]at hl;obtain⟨rfl,rfl,rfl,rfl⟩:=hl;have JD:rows.length<=ah:=hq _ a2T;have:td=.nil .slc:=by
        cases hd with
        |nil=>rfl
        |gone hi _ _=>simp[bn]at hi
       subst this;by_cases hn:rows=[]
       .subst hn;obtain⟨m1,g1,g2,g3,g4⟩:=Ob hr is (k:=true) (ex:=false) (e:=e);exact⟨_,ts.heap,_,m1,by unfold jV;simp only[vO,JH,hint,a3a,zM,s1,a4x,a2j,a2l],g1,g4,g2,g3,hk0,fun b hb=>by simp[gY]at hb⟩
       .obtain⟨m1,g1,g2,g3,g4⟩:=qx hr is (k:=true) (ex:=false) (x:=false) s3 s2 hn hz h0 (by simp);refine⟨_,ts.heap++[.cells .own new],_,m1,?_,g1,g4,g2,g3,hk0,fun b hb=>by simp[gY]at hb⟩;unfold jV;simp only[vO,JH,hint,a3a,zM,s1,a2l,hrn,hn,s2,a2j,nJ KG JD]
      .-- an own list
       rename_i b;split at hl
       .rename_i k ex t' l hb;split at hl
        .cases hl
        rename_i hnb;split at hl
        .rename_i l2 Oe;obtain⟨rfl,rfl⟩:=uz Oe;simp only[a01,a0j]at hl;obtain⟨rfl,rfl,rfl,rfl⟩:=hl;have JD:l2.length+rows.length<=ah:=hq _ a2T;obtain⟨mb,g1,g2⟩:=hr.at_ b _ hb;have Vm:∀{c:Nat},GK m b c∨c∉bC m->c<ts.heap.length->IR m ts.heap ⟨⟨false,.h b::CB X x,[.h b]⟩,false,false,true⟩ (gY (.h c::dH tx)):=fun{c} hc aQ=>IR.reads rfl (fun d hd=>by
          rcases a2e.1 hd with e0|e0
          .cases e0;rcases hc with hc|hc
           .exact⟨.inl ⟨b,a2T,hc⟩,aQ⟩
           .exact⟨.inr hc,aQ⟩
          .obtain⟨h0,h9⟩:=vJ hr hx hz hs e0;rcases h0 with⟨i,h1,h2⟩|h1
           .exact⟨.inl ⟨i,a2Y _ h1,h2⟩,h9⟩
           .exact⟨.inr h1,h9⟩) fun j hj=>by
            rcases a2e.1 hj with e0|e0
            .cases e0
            .exact og e0
         have mO:IR m ts.heap ⟨⟨false,.h b::CB X x,[.h b]⟩,false,false,true⟩ (gY (dH tx)):=IR.reads rfl (fun d hd=>by
          obtain⟨h0,h9⟩:=vJ hr hx hz hs hd;rcases h0 with⟨i,h1,h2⟩|h1
          .exact⟨.inl ⟨i,a2Y _ h1,h2⟩,h9⟩
          .exact⟨.inr h1,h9⟩) fun j hj=>og hj
         cases mb with
         |dn z=>
          cases hd with
          |gone hi e' _=>simp only[bn,a01]at hi;subst hi;rw[g1]at e';cases e'
          |own e' o=>
           rw[g1]at e';cases e';have hlr:LR X P (AA A m) m ts.heap k ex t' l2 td:=g2;have TI:eu X P (FA A m (b::is)) (bT (b::is) m) ts.heap t' rows new 0 size:=(s3.mono fun c hc=>FA.mono (fun i hi=>a2Y _ hi) hc).jc hX;cases hlr with
           |nil=>
            simp only[abw];by_cases hn:rows=[]
            .subst hn;obtain⟨m1,f1,f2,f3,f4⟩:=Ob hr (b::is) (k:=k&&ex) (ex:=false) (e:=t');exact⟨_,ts.heap,_,m1,by unfold jV;simp only[vO,JH,hint,a3a,zM,s1,a4x,a2j,a2l],f1,f4,f2,f3,mO,fun c hc=>by simp[gY]at hc⟩
            .obtain⟨m1,f1,f2,f3,f4⟩:=qx hr (b::is) (k:=k&&ex) (ex:=false) (x:=false) TI s2 hn hz h0 (by simp);refine⟨_,ts.heap++[.cells .own new],_,m1,?_,f1,f4,f2,f3,mO,fun c hc=>by simp[gY]at hc⟩;unfold jV;simp only[vO,JH,hint,a3a,zM,s1,a2l,hrn,hn,s2,a2j,nJ KG (show rows.length<=ah by omega)]
           |emp p0 p1 p2 p3 p4=>
            rename_i c off sz cs;rw[hz]at p3;cases p3;simp only[abw];by_cases hn:rows=[]
            .subst hn;obtain⟨m1,f1,f2,f3,f4⟩:=push_empty hr (b::is) (k:=k&&ex) (ex:=false) hz h0 (.inl p0) p1 p2;exact⟨_,ts.heap,_,m1,by unfold jV;simp only[vO,JH,hint,a3a,zM,s1,a4x,a2j,a2l],f1,f4,f2,f3,mO,fun c hc=>by simp[gY]at hc⟩
            .obtain⟨m1,f1,f2,f3,f4⟩:=qx hr (b::is) (k:=k&&ex) (ex:=false) (x:=false) TI s2 hn hz h0 (by simp);refine⟨_,ts.heap++[.cells .own new],_,m1,?_,f1,f4,f2,f3,Vm (c:=c) (.inr p0.2) (gJ p1),fun c hc=>by simp[gY]at hc⟩;have nZ:fD size ts.heap (.slc c off 0 0 size true)=some (0,[]):=(by simp[fD]);unfold jV;simp only[vO,JH,hint,a3a,zM,s1,a2l,hrn,hn,s2,a2j,a3O,Nat.le_zero_eq,nJ KG (show rows.length<=ah by omega),nZ,a0U,abw]
           |some p1 p2 p3 p4 p5 p6 p7 p8 p9=>
            rename_i c sz xx kk cs;rw[hz]at p2;cases p2;have vI:(MB.dn (TV.slc c 0 l2.length l2.length size xx)).own=some c:=by simp only[MB.own];rw[a0g (by simpa using p1)]
            by_cases hn:rows=[]
            .subst hn;simp only[a5J];obtain⟨m1,f0,f1,f2,f3,f4⟩:=Oc (pb:=.list (k&&ex) false t' l2) hr is g1 vI vI rfl (fun _ _=>rfl) (fun cs hc=>⟨cs,hc,a0V _⟩) (fun hF hU=>LR.some p1 hz p3 p4 p5 (fun hk=>p6 (by simp at hk;exact hk.1)) (by simp) p8 (p9.step hF hU));exact⟨_,ts.heap,_,m1,by unfold jV;simp only[vO,JH,hint,a3a,zM,s1,a4x,a2j,a2l],f1,.own f4 rfl,f2,f3,mO,fun c hc=>by simp[gY]at hc⟩
            .have hle:¬l2.length+rows.length<=l2.length:=by
              have:rows.length≠0:=fun e0=>hn (hrn.1 e0);omega
             have iC:l2++rows≠[]:=(by simp[p1]);cases xx with
             |true=>
              have hold:fD size ts.heap (.slc c 0 l2.length l2.length size true)=some (l2.length,cs):=by
               simp only[fD,a2j];rw[a0g (fun e0=>p1 (a7o.1 e0)),wI p4 (by omega)];simp only[sub];rw[a0i (by omega),aaE,a8D (by omega)];rfl
              have hw1:eu X P (FA A m (b::is)) (bT (b::is) m) ts.heap t' l2 cs 0 size:=(p9.mono fun c hc=>.inl hc).jc hX;obtain⟨m1,f1,f2,f3,f4⟩:=qx hr (b::is) (k:=k&&ex) (ex:=false) (x:=false) (hw1.app TI p8) (by rw[a1X,a1X,a2Z,p8,s2]) iC hz h0 (by simp);refine⟨_,ts.heap++[.cells .own (cs++new)],_,m1,?_,f1,f4,f2,f3,Vm (c:=c) (.inl (iO g1 vI)) (a02.1 p4).1,fun c hc=>by simp[gY]at hc⟩;unfold jV;simp only[vO,JH,hint,a3a,zM,s1,a2l,hrn,hn,s2,a2j,hle,nJ KG JD,hold,a0U,a1X]
             |false=>
              have hex:ex=false:=by cases ex with
               |true=>exact absurd (p7 rfl) (by simp)
               |false=>rfl
              subst hex;have aQ:=(a02.1 p4).1;obtain⟨m1,f0,f1,f2,f3,f4⟩:=Oc (pb:=.list (k&&false) false t' (l2++rows)) (h1:=ts.heap.set c (.cells kk.more (cs++new))) (LH:=.dn (.slc c 0 (l2.length+rows.length) (l2.length+rows.length) size false)) hr is g1 vI
               (by simp only[MB.own];rw[a0g (by omega)]) (by simp) (fun d hd=>a1g (Ne.symm hd)) (fun Wp Ie=>⟨cs++new,by simp[aV,aQ],by
                simp only[aV,p4,a01]at Ie;subst Ie;simp⟩) (fun hF hU=>by
                have Qc:=iw (h:=ts.heap) (b::is) m;have Q5:∀q cs',FA A m is q->aV ts.heap q=some cs'->AA A (bT (b::is) m++[.dn (.slc c 0 (l2.length+rows.length) (l2.length+rows.length) size false)]) q∧(ts.heap.set c (.cells kk.more (cs++new)))[q]? = ts.heap[q]?:=fun q cs' hq hc=>by
                 have Ym:q≠c:=fun e0=>by
                  subst e0;rcases hq with hq|⟨i,mb,e1,e2,e3⟩
                  .exact hq.2 (bg g1 vI)
                  .have:=iU hr.nodup g1 e2 vI e3;subst this;exact hnb (by simpa using e1)
                 have hg:=FA.gone hr (FA.mono (js:=b::is) (fun i hi=>a2Y _ hi) hq);refine⟨⟨hg.1,fun hm=>?_⟩,a1g (Ne.symm Ym)⟩;rw[iW,a2X,jY]at hm;rcases hm with hm|hm
                 .exact hg.2 hm
                 .simp only[MB.own]at hm;rw[a0g (by omega)]at hm;simp at hm;exact Ym hm
                have:=LR.some (X:=X) (P:=P) (A:=AA A (bT (b::is) m++[.dn (.slc c 0 (l2.length+rows.length) (l2.length+rows.length) size false)])) (m:=bT (b::is) m++[.dn (.slc c 0 (l2.length+rows.length) (l2.length+rows.length) size false)]) (h:=ts.heap.set c (.cells kk.more (cs++new))) (k:=k&&false) (ex:=false) (t:=t') (l:=l2++rows) (b:=c) (sz:=size) (e:=false) (kk:=kk.more) (cs:=cs++new)
                 iC hz h0 (by simp[aQ]) (by cases kk<;>simp[BK.more]) (by simp) (by simp) (by rw[a1X,a1X,a2Z,p8,s2]) ((p9.step hF hU).app (s3.move hX Q5) p8)
                rw[a1X]at this;exact this)
              refine⟨_,ts.heap.set c (.cells kk.more (cs++new)),⟨false,.h c::dH tx,[.h c]⟩,m1,?_,f1,.own f4 rfl,f2,f3,⟨fun h=>(by cases h),fun j hj=>?_,fun j hj=>(by simp at hj),fun d hd=>?_,fun d hd=>?_,fun h=>(by cases h)⟩,fun d hd=>?_⟩
              .unfold jV;simp only[vO,JH,hint,a3a,zM,s1,a2l,hrn,hn,s2,a2j,hle,nJ KG JD,p4,ne_eq,not_true_eq_false,p5,p8,a7o,p1,or_self]
              .rcases a2e.1 hj with e0|e0
               .cases e0
               .exact absurd e0 og
              .simp at hd;subst hd;exact .inl ⟨b,by simp,iO g1 vI⟩
              .rcases a2e.1 hd with e0|e0
               .cases e0;exact⟨.inl ⟨b,a2T,iO g1 vI⟩,aQ⟩
               .obtain⟨h0,h9⟩:=vJ hr hx hz hs e0;rcases h0 with⟨i,h1,h2⟩|h1
                .exact⟨.inl ⟨i,a2Y _ h1,h2⟩,h9⟩
                .exact⟨.inr h1,h9⟩
              .simp at hd;subst hd;exact bg g1 vI
         |_=>exact g2.elim
        .cases hl
       .cases hl
      .-- a full frozen list
       rename_i t' l;split at hl
       .rename_i l2 Oe;obtain⟨rfl,rfl⟩:=uz Oe;simp only[a01,a0j]at hl;obtain⟨rfl,rfl,rfl,rfl⟩:=hl;have JD:l2.length+rows.length<=ah:=hq _ a2T;have FY:l2=[]∨rows≠[]:=hq _ (a2Y _ a2T);cases hd with
        |gone hi _ _=>simp[bn]at hi
        |o8=>
         simp only[abw];by_cases hn:rows=[]
         .subst hn;obtain⟨m1,f1,f2,f3,f4⟩:=Ob hr is (k:=true) (ex:=false) (e:=t');exact⟨_,ts.heap,_,m1,by unfold jV;simp only[vO,JH,hint,a3a,zM,s1,a4x,a2j,a2l],f1,f4,f2,f3,hk0,fun c hc=>by simp[gY]at hc⟩
         .obtain⟨m1,f1,f2,f3,f4⟩:=qx hr is (k:=true) (ex:=false) (x:=false) s3 s2 hn hz h0 (by simp);refine⟨_,ts.heap++[.cells .own new],_,m1,?_,f1,f4,f2,f3,hk0,fun c hc=>by simp[gY]at hc⟩;unfold jV;simp only[vO,JH,hint,a3a,zM,s1,a2l,hrn,hn,s2,a2j,nJ KG (show rows.length<=ah by omega)]
        |dn p1 p2 p2' p3 p4 p5 p6 p7 p8 p9=>
         rename_i c off cap sz xx cs;rw[hz]at p3;cases p3;obtain⟨rfl,rfl⟩:=p7 rfl;have hk3:IR m ts.heap ⟨gY (CB X x),false,false,true⟩ (gY (.h c::dH tx)):=IR.reads rfl (fun d hd=>by
          rcases a2e.1 hd with e0|e0
          .cases e0;exact⟨.inr p1.2,gJ p2⟩
          .exact vJ hr hx hz hs e0) fun j hj=>by
           rcases a2e.1 hj with e0|e0
           .cases e0
           .exact og e0
         by_cases hn:rows=[]
         .have qF:l2=[]:=by rcases FY with h1|h1;exact h1;exact absurd hn h1
          subst hn;subst qF;obtain⟨m1,f1,f2,f3,f4⟩:=push_empty hr is (k:=true) (ex:=false) hz h0 (.inl p1) p2 (by simpa using p5);exact⟨_,ts.heap,_,m1,by unfold jV;simp only[vO,JH,hint,a3a,zM,s1,a4x,a2j,a2l],f1,f4,f2,f3,hk0,fun c hc=>by simp[gY]at hc⟩
         .have hle:¬l2.length+rows.length<=l2.length:=by
           have:rows.length≠0:=fun e0=>hn (hrn.1 e0);omega
          have hw1:eu X P (FA A m is) (bT is m) ts.heap t' l2 ((cs.drop off).take (l2.length*size)) 0 size:=by
           have hh:eu X P (AA A m) m ts.heap t' l2 cs off size:=⟨p8,p5,p9⟩;exact(hh.take.mono fun c hc=>.inl hc).jc hX
          have hlen:((cs.drop off).take (l2.length*size)).length=l2.length*size:=by rw[a3N,a3H];omega
          obtain⟨m1,f1,f2,f3,f4⟩:=qx hr is (k:=true) (ex:=false) (x:=false) (hw1.app s3 hlen) (by rw[a1X,a1X,a2Z,hlen,s2]) (by simp[hn]) hz h0 (by simp);refine⟨_,ts.heap++[.cells .own ((cs.drop off).take (l2.length*size)++new)],_,m1,?_,f1,f4,f2,f3,hk3,fun c hc=>by simp[gY]at hc⟩;have nZ:fD size ts.heap (.slc c off l2.length l2.length size true)=some (l2.length,(cs.drop off).take (l2.length*size)):=by
           simp only[fD,a2j,sub];by_cases qF:l2.length=0
           .rw[a0i qF,qF,abM,List.take_zero]
           .rw[a0g qF,p2' (fun e0=>qF (by rw[e0];rfl))];simp only;rw[a0i p5];rfl
          unfold jV;simp only[vO,JH,hint,a3a,zM,s1,a2l,hrn,hn,s2,a2j,hle,nJ KG JD,nZ,a0U,a1X]
       .cases hl
      .cases hl
     .cases hl
    .cases hl
   .cases hl
 .cases hl
end
open Go Tw
theorem Wu{α:Type}{l rows:List α}{o k:Nat}(h:o+k<=l.length)(hk:k<=rows.length):(O4 l o k rows).length=l.length:=by
 unfold O4;simp;omega
theorem a2E{α:Type}{l rows:List α}{o:Nat}:O4 l o 0 rows=l:=by unfold O4;simp
section
variable {X:kH} {P:Program} {A F:Nat->Prop} {m m':List MB} {h h':List HB} {H H':List (PB X.Γ)}
theorem eu.put{t sz o k:Nat}{l rows:List (X.Γ t)}{cs new:List TV}(h1:eu X P F m h t l cs 0 sz)(h2:eu X P F m h t rows new 0 sz)(hc:cs.length=l.length*sz)(hn:new.length=rows.length*sz)(ho:o+k<=l.length)(hk:k<=rows.length) :
  eu X P F m h t (O4 l o k rows) (cs.take (o*sz)++new.take (k*sz)++cs.drop (o*sz+k*sz)) 0 sz:=by
 have a1:=(h1.part (o:=0) (n:=o) (by omega)).take;have a2:=(h2.part (o:=0) (n:=k) (by omega)).take;have a3:=(h1.part (o:=o+k) (n:=l.length-(o+k)) (by omega)).take;have l1:((l.drop 0).take o).length=o:=by simp;omega
 have l2:((rows.drop 0).take k).length=k:=by simp;omega
 have l3:((l.drop (o+k)).take (l.length-(o+k))).length=l.length-(o+k):=by simp
 rw[l1]at a1;rw[l2]at a2;rw[l3]at a3;simp only[abM,adr,a3O,aaE]at a1 a2 a3;have m1:o*sz<=cs.length:=by rw[hc];exact a3r _ (by omega)
 have m2:k*sz<=new.length:=by rw[hn];exact a3r _ hk
 have r:=(a1.app a2 (by rw[a3N,a3N];rw[a7A m1,a7A (by omega)])).app a3 (by
  simp only[a1X,a3N];rw[a7A m1,a7A m2,a7A (by omega),a7A hk,a2Z])
 have e1:l.drop (o+k)=(l.drop (o+k)).take (l.length-(o+k)):=by rw[a8D (by simp)]
 have e2:cs.drop (o*sz+k*sz)=(cs.drop ((o+k)*sz)).take ((l.length-(o+k))*sz):=by
  rw[a2Z,a8D];rw[a3H,hc,Nat.sub_mul,a2Z];omega
 unfold O4;rw[e1,e2];exact r
theorem DI(hX:bK X P){ps:aS X.Γ}{ts:St}(hR:uQ X P A m ps ts){at_:Array TypeId}{st e size b o n:Nat}{k0 ex:Bool}{l rows:List (X.Γ e)}{x:PV X.Γ}{td tx:TV}(vO:at_[0]? = some st)(zM:jy P st=some (e,size))(hx:VR X P (AA A m) m ts.heap x tx)
  (hs:Ac X ps.heap e size x=some (rows,[])) (hb:ps.heap[b]? = some (.list k0 ex e l)) {mb:MB} (g1:m[b]? = some mb) (g2:BR X P (AA A m) m ts.heap (.list k0 ex e l) mb)
  (htd:(∃c sz' xx' xx cap,mb=.dn (.slc c 0 l.length l.length sz' xx')∧l≠[]∧td=.slc c (o*sz') n cap sz' xx∧(n=0∨o+cap=l.length))∨(n=0∧(td=.nil .slc∨∃c f cap xx,td=.slc c f 0 cap size xx))) (hon:o+n<=l.length) (Nu:isStr tx=false) :
  Ws X P A m ts (FW P at_ ts td tx) (.int .i64 ((min rows.length n:Nat):Int)) (ps.heap.set b (.list k0 ex e (O4 l o (min rows.length n) rows))) ⟨⟨false,.h b::CB X x,[.h b]⟩,false,false,true⟩:=by
 have hr:=hR.heap;obtain⟨hz,h0⟩:=nK zM;obtain⟨new,s1,s2,s3⟩:=Uf (m':=m) hX hr hx hz hs;have TI:eu X P (AA A m) m ts.heap e rows new 0 size:=s3.mono fun q hq=>by
  rcases hq with hq|⟨i,_,hi,_⟩
  .exact hq
  .simp at hi
 have mO:IR m ts.heap ⟨⟨false,.h b::CB X x,[.h b]⟩,false,false,true⟩ (gY (dH tx)):=IR.reads rfl (fun d hd=>by
  obtain⟨h0,h9⟩:=vJ hr hx hz hs hd;rcases h0 with⟨i,h1,h2⟩|h1
  .exact⟨.inl ⟨i,a2Y _ h1,h2⟩,h9⟩
  .exact⟨.inr h1,h9⟩) fun j hj=>og hj
 have same:ps.heap.set b (.list k0 ex e l)=ps.heap:=by
  apply a9n;intro i;by_cases e:b=i
  .subst e;rw[a1V (a02.1 hb).1,hb]
  .rw[a1g e]
 by_cases hk:min rows.length n=0
 .rw[hk,a2E,same];refine⟨.int .i64 0,ts.heap,gY (dH tx),m,?_,hr,.int _ _,.refl,.refl,mO,fun c hc=>by simp[gY]at hc⟩;unfold FW;simp only[vO,zM,s1,s2,Nu,acG,a2j];rcases htd with⟨c,sz',xx',xx,cap,rfl,iC,rfl,wu⟩|⟨rfl,rfl|⟨c,f,cap,xx,rfl⟩⟩
  .have:sz'=size:=by cases g2 with|some _ q2 _ _ _ _ _ _ _=>rw[hz]at q2;cases q2;rfl|emp=>exact absurd rfl iC
   simp only[this,a2j,hk]
  .rfl
  .simp only[a2j,hk]
 .rcases htd with⟨c,sz',xx',xx,cap,rfl,iC,rfl,wu⟩|⟨rfl,_⟩
  .cases g2 with
   |emp=>exact absurd rfl iC
   |some p1 p2 p3 p4 p5 p6 p7 p8 p9=>
    rename_i kk cs;rw[hz]at p2;cases p2;obtain⟨Bc,xM,adZ,hko⟩:=IK p5;have ahT:o*size+cap*size=cs.length:=by
     have:=wu.resolve_left (by omega);rw[p8,<-this,a2Z]
    have aQ:=(a02.1 p4).1;have vI:(MB.dn (TV.slc c 0 l.length l.length size xx')).own=some c:=by simp only[MB.own];rw[a0g (by simpa using p1)]
    have hkn:o+min rows.length n<=l.length:=(by omega);have hkr:min rows.length n<=rows.length:=Nat.min_le_left _ _;have m1:o*size+min rows.length n*size<=cs.length:=by rw[p8,<-a2Z];exact a3r _ hkn
    have m2:min rows.length n*size<=new.length:=by rw[s2];exact a3r _ hkr
    have m3:min (min rows.length n*size) (rows.length*size)=min rows.length n*size:=a7A (by rw[<-s2];exact m2);have anr:=eu.put p9 TI p8 s2 hkn hkr;have qg:(cs.take (o*size)++new.take (min rows.length n*size)++cs.drop (o*size+min rows.length n*size)).length=cs.length:=by simp;omega
    have hl:=Wu (rows:=rows) hkn hkr;obtain⟨q1,q2⟩:=hr.set (i:=b) (c:=c) (pb:=.list k0 ex e (O4 l o (min rows.length n) rows)) (hb:=.cells Bc (cs.take (o*size)++new.take (min rows.length n*size)++cs.drop (o*size+min rows.length n*size))) g1 vI
     (fun Wp Ie=>⟨_,by simp only[aV];rw[a1V aQ],by
      simp only[aV,p4,a01]at Ie;subst Ie;rw[qg];exact a0V _⟩)
     (fun hF=>by
      have ah2:O4 l o (min rows.length n) rows≠[]:=fun e0=>by rw[e0]at hl;simp at hl;exact p1 (a7o.1 hl.symm)
      have r:=LR.some (k:=k0) (ex:=ex) (e:=xx') ah2 hz p3 (by rw[a1V aQ]) adZ (fun e0=>hko (p6 e0)) p7 (by rw[qg,hl,p8]) (anr.step hF .refl);rw[hl]at r;exact r)
    refine⟨.int .i64 ((min rows.length n:Nat):Int),_,⟨false,.h c::dH tx,[.h c]⟩,m,?_,q1,.int _ _,q2,.refl,?_,fun d hd=>?_⟩
    .unfold FW;simp only[vO,zM,s1,s2,Nu,acG,a2j,hk,a3a,a0M p4 xM ahT,vV,a3N,m3,m1,a0U]
    .refine⟨fun h=>(by cases h),fun k hk=>?_,fun k hk=>(by simp at hk),fun d hd=>?_,fun d hd=>?_,fun h=>(by cases h)⟩
     .rcases a2e.1 hk with e0|e0
      .cases e0
      .exact absurd e0 og
     .simp at hd;subst hd;exact .inl ⟨b,a2T,iO g1 vI⟩
     .rcases a2e.1 hd with e0|e0
      .cases e0;exact⟨.inl ⟨b,a2T,iO g1 vI⟩,aQ⟩
      .obtain⟨h0,h9⟩:=vJ hr hx hz hs e0;rcases h0 with⟨i,h1,h2⟩|h1
       .exact⟨.inl ⟨i,a2Y _ h1,h2⟩,h9⟩
       .exact⟨.inr h1,h9⟩
    .simp at hd;subst hd;exact bg g1 vI
  .simp at hk
theorem a5E(hr:HR X P A m H h){e sz:Nat}{x:PV X.Γ}{tx:TV}(hv:VR X P (AA A m) m h x tx){rows:List (X.Γ e)}{is:List Nat}(hs:Ac X H e sz x=some (rows,is)):isStr tx=false:=by
 cases hv with
 |own e' _=>
  unfold Ac at hs;simp only at hs;split at hs
  .rename_i hb;obtain⟨mb,g1,g2⟩:=hr.at_ _ _ hb;rw[e']at g1;cases g1;cases g2<;>rfl
  cases hs
 |gone hi e' _=>
  cases x<;>simp only[bn,a01]at hi<;>first|cases hi|skip
  all_goals (unfold Ac at hs;simp only at hs)
  all_goals first|(cases hs;done)|skip
  all_goals
   split at hs
   .rename_i hb;obtain⟨mb,g1,g2⟩:=hr.at_ _ _ hb;rw[g1]at e';cases e'<;>exact g2.elim
   .cases hs
 |str=>simp[Ac]at hs
 |_=>rfl
theorem eu.vrs{t sz:Nat}:∀{l:List (X.Γ t)} {cs:List TV},eu X P F m h t l cs 0 sz->cs.length=l.length*sz->bV X P F m h (Ed X t l) cs
 | [],cs,_,hl=>by
  have:cs=[]:=a7o.1 (by simpa using hl);subst this;exact .nil
 |a::r,cs,hw,hl=>by
  have h1:=hw.row (j:=0) (a:=a) rfl;have h2:=(hw.part (o:=1) (n:=r.length) (by simp;omega)).take;have e1:((a::r).drop 1).take r.length=r:=by simp
  rw[e1]at h2;have hl':cs.length=r.length*sz+sz:=by rw[hl,a3S,a2Z,abl]
  have e2:(cs.drop (0+1*sz)).take (r.length*sz)=cs.drop sz:=by
   rw[a3O,abl,a8D];rw[a3H];omega
  rw[e2]at h2;have h3:=eu.vrs h2 (by rw[a3H];omega);have h4:bV X P F m h (X.enc t a) (cs.take sz):=by
   have:=h1.1;simpa using this
  have:=h4.app h3;rw[List.take_append_drop]at this;exact this
theorem TJ(hX:bK X P){ps:aS X.Γ}{ts:St}(hR:uQ X P A m ps ts){at_:Array TypeId}{d x:PV X.Γ}{td tx:TV}(hd:VR X P (AA A m) m ts.heap d td)(hx:VR X P (AA A m) m ts.heap x tx){v:PV X.Γ}{H1:List (PB X.Γ)}{pi:lK}
  (hl:a5k X P at_ ps.heap d x=some (v,H1,pi)):Ws X P A m ts (FW P at_ ts td tx) v H1 ⟨pi,false,false,true⟩:=by
 have hr:=hR.heap;unfold a5k at hl;split at hl
 .rename_i st vO;split at hl
  .rename_i e size zM;obtain⟨hz,h0⟩:=nK zM;split at hl
   .rename_i rows hs;obtain⟨new,s1,s2,s3⟩:=Uf (m':=m) hX hr hx hz hs;have Nu:isStr tx=false:=a5E hr hx hs;split at hl
    .simp only[a01,a0j]at hl;obtain⟨rfl,rfl,rfl⟩:=hl;have:td=.nil .slc:=by
      cases hd with
      |nil=>rfl
      |gone hi _ _=>simp[bn]at hi
     subst this;exact⟨_,ts.heap,_,m,by unfold FW;simp only[vO,zM,s1,s2,Nu,acG,a2j],hr,.int _ _,.refl,.refl,IR.reads rfl (fun b hb=>vJ hr hx hz hs hb) fun k=>og,fun b hb=>by simp[gY]at hb⟩
    .rename_i b;split at hl
     .rename_i k0 ex t' l hb;split at hl
      .rename_i l2 Oe;obtain⟨rfl,rfl⟩:=uz Oe;simp only[a01,a0j]at hl;obtain⟨rfl,rfl,rfl⟩:=hl;obtain⟨mb,g1,g2⟩:=hr.at_ b _ hb;refine DI (o:=0) (n:=l2.length) hX hR vO zM hx hs hb g1 g2 ?_ (by omega) Nu;cases hd with
       |gone hi e' _=>simp only[bn,a01]at hi;subst hi;rw[g1]at e';cases e'<;>exact g2.elim
       |own e' o=>
        rw[g1]at e';cases e';cases g2 with
        |nil=>exact .inr ⟨rfl,.inl rfl⟩
        |emp q1 q2 q3 q4 q5=>rw[hz]at q4;cases q4;exact .inr ⟨rfl,.inr ⟨_,_,_,_,rfl⟩⟩
        |some q1 q2=>rw[hz]at q2;cases q2;exact .inl ⟨_,_,_,_,_,rfl,q1,by rw[abM],.inr (a3O _)⟩
      .cases hl
     .cases hl
    .rename_i b o n;split at hl
     .rename_i k0 ex t' l hb;split at hl
      .rename_i l2 Oe;obtain⟨rfl,rfl⟩:=uz Oe;simp only[a01,a0j]at hl;obtain⟨rfl,rfl,rfl⟩:=hl;obtain⟨mb,g1,g2⟩:=hr.at_ b _ hb;cases hd with
       |gone hi e' _=>simp only[bn,a01]at hi;subst hi;rw[g1]at e';cases e'<;>exact g2.elim
       |win e' o1 o2 o3=>
        rw[g1]at e';cases e';cases g2 with
        |emp q1 q2 q3 q4 q5=>
         rw[hz]at q4;cases q4;have:n=0:=(by omega);subst this;exact DI hX hR vO zM hx hs hb g1 (LR.emp q1 q2 q3 hz q5) (.inr ⟨rfl,.inr ⟨_,_,_,_,rfl⟩⟩) o1 Nu
        |some q1 q2 q3 q4 q5 q6 q7 q8 q9=>exact DI hX hR vO zM hx hs hb g1 (LR.some q1 q2 q3 q4 q5 q6 q7 q8 q9) (.inl ⟨_,_,_,_,_,rfl,q1,by rw[a3O],o3⟩) o1 Nu
       |Ae e'=>
        rw[g1]at e';cases e';exact DI hX hR vO zM hx hs hb g1 g2 (.inr ⟨rfl,.inl rfl⟩) (by omega) Nu
      .cases hl
     .cases hl
    .rename_i b off len cap sz xx;split at hl
     .rename_i cs hb;split at hl
      .rename_i hc;obtain⟨hc1,Ie⟩:=hc;subst hc1;simp only[a06,a0j]at hl;obtain⟨Rq,h1,rfl,rfl,rfl⟩:=hl;obtain⟨mb,g1,g2⟩:=hr.at_ b _ hb;cases mb with
       |fV c=>
        obtain⟨cs',g3,g4⟩:=g2;cases hd with
        |gone hi e _=>simp only[bn,a01]at hi;subst hi;rw[g1]at e;cases e
        |slc e=>
         rw[g1]at e;cases e;have TI:eu X P (AA A m) m ts.heap _ rows new 0 sz:=s3.mono fun q hq=>by
          rcases hq with hq|⟨i,_,hi,_⟩
          .exact hq
          .simp at hi
         have hv:=(TI.vrs s2).take (min rows.length len*sz);obtain⟨IQ,g5,g6⟩:=Gz g4 hv h1;have hlen:IQ.length=cs'.length:=by
          unfold vV at g5;split at g5
          .cases g5;simp only[a1X,a3N,a3H]at *;omega
          .cases g5
         have aQ:=(a02.1 g3).1;obtain⟨hr1,hF⟩:=hr.set (pb:=.cells Rq) (hb:=.cells .own IQ) g1 (c:=c) rfl (fun Wp Wq=>⟨IQ,by simp[aV,aQ],by
          simp only[aV,g3,a01]at Wq;subst Wq;omega⟩) fun hF=>⟨IQ,by simp[aQ],g6.step hF .refl⟩
         refine⟨.int .i64 ((min rows.length len:Nat):Int),_,⟨false,.h c::dH tx,[.h c]⟩,m,?_,hr1,.int _ _,hF,.refl,?_,fun d hd=>?_⟩
         .unfold FW;simp only[vO,zM,s1,s2,Nu,acG,a2j];rw[a0g (by omega),Wh g3,g5];rfl
         .refine⟨fun h=>(by cases h),fun k hk=>?_,fun k hk=>(by simp at hk),fun d hd=>?_,fun d hd=>?_,fun h=>(by cases h)⟩
          .rcases a2e.1 hk with e0|e0
           .cases e0
           .exact absurd e0 og
          .simp at hd;subst hd;exact .inl ⟨b,a2T,iO g1 rfl⟩
          .rcases a2e.1 hd with e0|e0
           .cases e0;exact⟨.inl ⟨b,a2T,iO g1 rfl⟩,aQ⟩
           .obtain⟨h0,h9⟩:=vJ hr hx hz hs e0;rcases h0 with⟨i,h1,h2⟩|h1
            .exact⟨.inl ⟨i,a2Y _ h1,h2⟩,h9⟩
            .exact⟨.inr h1,h9⟩
         .simp at hd;subst hd;exact bg g1 rfl
       |_=>exact g2.elim
      .cases hl
     .cases hl
    .cases hl
   .cases hl
  .cases hl
 .cases hl
end
open Go Tw
section
variable {X:kH} {P:Program} {A F:Nat->Prop} {m m':List MB} {h h':List HB} {H H':List (PB X.Γ)}
theorem VPs.ql{ps:List (Nat×PV X.Γ)}{qs:List (Nat×TV)}(hp:VPs X P A m h ps qs):qs.all (fun p=>p.2.cells.all iR)=ps.all fun p=>p.2.cells.all YR:=by
 induction ps generalizing qs with
 |nil=>
  have:=hp.1;cases qs with
  |nil=>rfl
  |cons=>simp at this
 |cons a ps ih=>
  obtain⟨x,r,rfl,h1,h2⟩:=hp.inv;simp only[abx,DC (Gy h1),ih h2]
theorem Wv{pl:Nat->Option (Nat×Nat)}:∀{qs:List (Nat×TV)} {xs r:List TV},rY pl xs qs=some r->r.length=xs.length
 | [],xs,r,h=>by simp only[rY,a01]at h;rw[h]
 |(i,v)::qs,xs,r,h=>by
  simp only[rY]at h;split at h
  .split at h
   .split at h
    .rename_i cs' ho;rw[Wv h];unfold vV at ho;split at ho
     .cases ho;simp only[a1X,a3N,a3H];omega
     cases ho
    cases h
   cases h
  cases h
theorem nT{z:List TV}:∀n,(times z n).length=n*z.length
 | 0=>by simp[times]
 |n+1=>by simp[times,nT n,a2Z];omega
theorem tZ(hX:bK X P){ps:aS X.Γ}{ts:St}(hR:uQ X P A m ps ts){t:TypeId}{len:Nat}{vs:List (Nat×PV X.Γ)}{xs:List (Nat×TV)}(hv:VPs X P (AA A m) m ts.heap vs xs){v:PV X.Γ}{H1:List (PB X.Γ)}
  {raw:Bool} (hl:xX X P t len ps.heap vs raw=some (v,H1)):Ws X P A m ts ((qp P t len ts xs).map fun(v,s)=>(v,s,bY)) v H1 xC:=by
 have hr:=hR.heap;unfold xX at hl;split at hl
 .rename_i e n zM;obtain⟨hz,h0⟩:=nK zM;split at hl
  .rename_i hc;split at hl
   .rename_i z hzz;obtain⟨z',q1,q2⟩:=GH (A:=AA A m) (m:=m) (h:=ts.heap) hzz;split at hl
    .rename_i Yc;split at hl
     .rename_i cs hf;obtain⟨cs',q3,q4⟩:=LJ hv (Wi q2 len) hf;have hlen:cs'.length=len*n:=(by rw[Wv q3,nT,<-q2.1,Yc]);have hT:∀w h1,(w,h1)=(TV.slc ts.heap.length 0 len len n true,ts.heap++[HB.cells .own cs'])->(qp P t len ts xs).map (fun(v,s)=>(v,s,bY))=some (w,{ ts with heap:=h1 },bY):=by
       intro w h1 e0;cases e0;simp only[qp,zM,hv.ql,hc,acG,a2j,q1,<-q2.1,Yc,q3,a0U]
      split at hl
      .rename_i rows is hd;cases hl;have hd:xU X ps.heap e n len cs=some (rows,is):=by
        split at hd
        .cases hd
        .exact hd
       obtain⟨e1,hw⟩:=Ai (m':=bT is m) hX hr q4 hd;by_cases hn:rows=[]
       .subst hn;have e2:len=0:=(by simpa using e1.symm);subst e2;have QE:cs'=[]:=a7o.1 (by omega);subst QE;have GN:HR X P A (bT is m++[.dn (.slc ts.heap.length 0 0 0 n true)]) (aZ is ps.heap++[.list true true e []]) (ts.heap++[.cells .own []])∧_:=(hr.aZ is).push (pb:=.list true true e []) (hb:=.cells .own []) (mb:=.dn (.slc ts.heap.length 0 0 0 n true)) (.inr rfl)
         (LR.emp (b:=ts.heap.length) (cs:=[]) ⟨hr.up _ (a0V _),fun hm=>by
          rw[iW,a2X,jY]at hm;simp[MB.own]at hm;have:=(hr.aZ is).inb hm;omega⟩ (by simp[aV]) (a0V _) hz h0)
        have Qc:=iw (h:=ts.heap) is m;refine⟨_,_,_,_,hT _ _ rfl,GN.1,.own ?_ rfl,Qc.1.trans GN.2.1,Qc.2.trans GN.2.2,.none,fun b hb=>by cases hb⟩;rw[<-hr.len,<-lW is m];simp
       .have GN:=qx hr is (k:=true) (ex:=true) (x:=true) hw (by rw[hlen,e1]) hn hz h0 (by simp);obtain⟨m1,g1,g2,g3,g4⟩:=GN;refine⟨_,_,_,m1,hT _ _ rfl,g1,?_,g2,g3,.none,fun b hb=>by cases hb⟩;rw[e1]at g4;exact g4
      .cases hl;have hp:=hr.push (pb:=.cells cs) (hb:=.cells .own cs') (mb:=.fV ts.heap.length) (.inl rfl) ⟨cs',by simp,q4.step (by
        refine⟨by simp,fun b hb _=>by rw[a0c hb],fun b hb=>?_,fun b cs hc=>⟨cs,by rw[fM (a0c (gJ hc)),hc],a0V _⟩⟩;rw[iW,a2X,jY]at hb;rcases hb with hb|hb
        .exact .inl hb
        .simp[MB.own]at hb;exact .inr (by omega)) (wK _)⟩
       exact⟨_,_,_,_,hT _ _ rfl,hp.1,.slc (by rw[<-hr.len];simp),hp.2.1,hp.2.2,.none,fun b hb=>by cases hb⟩
     .cases hl
    .cases hl
   .cases hl
  .cases hl
 .cases hl
theorem Og{k:IntKind}{n:Int}{x:TV}(hv:VR X P A m h (.int k n) x):x=.int k n:=by
 cases hv with
 |int=>rfl
 |gone hi _ _=>simp[bn]at hi
theorem Wx{t sz:Nat}{a:X.Γ t}{z:List TV}(ha:bV X P F m h (X.enc t a) z)(hz:z.length=sz):∀n,eu X P F m h t (List.replicate n a) (times z n) 0 sz
 | 0=>⟨fun j a hj=>by simp at hj,by simp,fun j a i c v hj=>by simp at hj⟩
 |n+1=>by
  have h1:eu X P F m h t [a] z 0 sz:=by
   refine⟨fun j b hj=>?_,by simp[hz],fun j b i c v hj hi hx=>?_⟩
   .cases j with
    |zero=>simp only[a2C,a01]at hj;subst hj;rw[ha.1,hz]
    |succ j=>simp at hj
   cases j with
   |zero=>simp only[a2C,a01]at hj;subst hj;exact ha.2 i c v hi (by simpa using hx)
   |succ j=>simp at hj
  have:=h1.app (Wx ha hz n) (by simp[hz]);simpa[adI,times]using this
theorem zW(hX:bK X P){ps:aS X.Γ}{ts:St}(hR:uQ X P A m ps ts){t:TypeId}{l c:PV X.Γ}{tl tc:TV}(hvl:VR X P (AA A m) m ts.heap l tl)(hvc:VR X P (AA A m) m ts.heap c tc){v:PV X.Γ}{H1:List (PB X.Γ)}{qs:List Prop}
  (hl:Fg X P t ps.heap l c=some (v,H1,qs)) (hq:∀q∈qs,q):Ws X P A m ts ((sF P t ts tl tc).map fun(v,s)=>(v,s,bY)) v H1 xC:=by
 have hr:=hR.heap;unfold Fg at hl;split at hl
 .rename_i e n kl li kc ci zM;obtain⟨hz,h0⟩:=nK zM;rw[Og hvl,Og hvc];split at hl
  .rename_i KG;split at hl
   .rename_i z hzz;obtain⟨z',q1,q2⟩:=GH (A:=AA A m) (m:=m) (h:=ts.heap) hzz;split at hl
    .rename_i Yc;split at hl
     .rename_i a ha;cases hl;have e1:li=ci:=hq _ (by simp);have e2:0<=li:=hq _ (by simp);have e3:li<=(ah:Nat):=hq _ (by simp);subst e1;have hm:li.toNat<=ah:=(by omega);have hm2:ah=2^20:=rfl;have hz2:z'.length=n:=by rw[<-q2.1];exact Yc
      have hT:∀w h1,(w,h1)=(TV.slc ts.heap.length 0 li.toNat li.toNat n true,ts.heap++[HB.cells .own (times z' li.toNat)])->(sF P t ts (.int kl li) (.int kc li)).map (fun(v,s)=>(v,s,bY))=some (w,{ ts with heap:=h1 },bY):=by
       intro w h1 e0;cases e0;have hN:∀k,a1R (.int k li)=some li.toNat:=fun k=>by
        have h9:li<=2^40:=by
         have:((2^20:Nat):Int)<=2^40:=(by decide);rw[hm2]at e3;omega
        simp only[a1R];rw[a0i ⟨e2,h9⟩]
       simp only[sF,zM,hN,a0V,true_and,nJ KG hm,a2j,q1,hz2,a0U]
      have yE:=Wx (m:=m) (h:=ts.heap) (F:=AA A m) (hX.dec ha q2) hz2 li.toNat;have hlen:(times z' li.toNat).length=li.toNat*n:=(by rw[nT,hz2]);by_cases hn:li.toNat=0
      .rw[hn]at hT ⊢;simp only[List.replicate_zero];have GN:=hr.push (pb:=.list true true e []) (hb:=.cells .own (times z' 0)) (mb:=.dn (.slc ts.heap.length 0 0 0 n true)) (.inr rfl)
         (LR.emp (b:=ts.heap.length) (cs:=times z' 0) ⟨hr.up _ (a0V _),fun hm=>by
          rw[iW,a2X,jY]at hm;simp[MB.own]at hm;have:=hr.inb hm;omega⟩ (by simp[aV]) (a4t _) hz h0)
       exact⟨_,_,_,_,hT _ _ rfl,GN.1,.own (by rw[<-hr.len];simp) rfl,GN.2.1,GN.2.2,.none,fun b hb=>by cases hb⟩
      .obtain⟨m1,g1,g2,g3,g4⟩:=qx hr [] (k:=true) (ex:=true) (x:=true) (rows:=List.replicate li.toNat a) (yE.mono fun b hb=>.inl hb) (by rw[a8O];exact hlen) (by intro e0;exact hn (by simpa using congrArg List.length e0)) hz h0 (by simp);refine⟨_,_,_,m1,hT _ _ rfl,g1,?_,g2,g3,.none,fun b hb=>by cases hb⟩;rw[a8O]at g4;exact g4
     .cases hl
    .cases hl
   .cases hl
  .cases hl
 .cases hl
end
open Go Tw
section
variable {X:kH} {P:Program} {A F:Nat->Prop} {m m':List MB} {h h':List HB} {H H':List (PB X.Γ)}
theorem Ak{o:Option (PV X.Γ)}{to:Option TV}(ho:OR X P A m h o to){d n:Nat}{a:Int}(he:yY X d o=some a)(h0:0<=a)(h1:a<=n):jk n d to=some a.toNat:=by
 cases o with
 |none=>
  cases to with
  |none=>simp only[yY,a01]at he;subst he;simp[jk]
  |some=>exact ho.elim
 |some v=>
  cases to with
  |none=>exact ho.elim
  |some x=>
   cases v<;>simp only[yY]at he<;>try (cases he;done)
   cases he;rw[Og ho];simp only[jk,qJ];rw[a0i ⟨h0,h1⟩]
theorem Oh{k:IntKind}{n:Int}{to:Option TV}(ho:OR X P A m h (some (.int k n)) to):to=some (.int k n):=by
 cases to with
 |none=>exact ho.elim
 |some x=>rw[Og ho]
theorem qV{to:Option TV}(ho:OR X P A m h none to):to=none:=by
 cases to with
 |none=>rfl
 |some x=>exact ho.elim
theorem LP{v:PV X.Γ}{to:Option TV}(ho:OR X P A m h (some v) to):∃x,to=some x:=by
 cases to with
 |none=>exact ho.elim
 |some x=>exact⟨x,rfl⟩
theorem ae2{t e:TypeId}{b off len cap sz:Nat}{ex:Bool}(hu:P.underlying t=some (.slice e))(hz:dB P e=some sz){lo hi:Option (PV X.Γ)}{Qd Qe:Option TV}(h1:OR X P A m h lo Qd)(h2:OR X P A m h hi Qe){a z:Int}(e1:yY X 0 lo=some a)(e2:yY X len hi=some z)
  (q0:0<=a) (q1:a<=z) (q2:z<=len):qK P t (.slc b off len cap sz ex) Qd Qe none=some (.slc b (off+a.toNat*sz) (z.toNat-a.toNat) (cap-a.toNat) sz ex):=by
 have g1:=Ak h1 e1 (n:=z.toNat) q0 (by omega);have g2:=Ak h2 e2 (n:=len) (by omega) q2;simp only[qK,hu,hz,a2j,g2,g1]
theorem a9m{t e:TypeId}{b off len cap sz:Nat}{ex:Bool}(hu:P.underlying t=some (.slice e))(hz:dB P e=some sz){lo hi:Option (PV X.Γ)}{Qd Qe:Option TV}(h1:OR X P A m h lo Qd)(h2:OR X P A m h hi Qe){a z:Int}(e1:yY X 0 lo=some a)(e2:yY X len hi=some z)(hs:hi.isSome)
  (q0:0<=a) (q1:a<=z) (q2:z<=len) (wu:len<=cap) {k:IntKind}:qK P t (.slc b off len cap sz ex) Qd Qe (some (.int k z))=some (.slc b (off+a.toNat*sz) (z.toNat-a.toNat) (z.toNat-a.toNat) sz true):=by
 have g1:=Ak h1 e1 (n:=z.toNat) q0 (by omega);obtain⟨hv,rfl⟩:=a4w.1 hs;obtain⟨x,rfl⟩:=LP h2;have g3:qJ cap (.int k z)=some z.toNat:=by simp only[qJ];rw[a0i (by omega)]
 have g2:qJ (min z.toNat len) x=some z.toNat:=by
  cases hv<;>simp only[yY]at e2<;>try (cases e2;done)
  cases e2;rw[Og (show VR X P A m h _ x from h2)];simp only[qJ];rw[a0i (by omega)]
 simp only[qK,hu,hz,a2j,g3,g2,g1]
theorem Zb{t e:TypeId}{sz:Nat}(hu:P.underlying t=some (.slice e))(hz:dB P e=some sz){lo hi:Option (PV X.Γ)}{Qd Qe:Option TV}(h1:OR X P A m h lo Qd)(h2:OR X P A m h hi Qe){a z:Int}(e1:yY X 0 lo=some a)(e2:yY X 0 hi=some z)(q0:a=0)(q1:z=0) :
  qK P t (.nil .slc) Qd Qe none=some (.nil .slc)∧∀{k:IntKind},hi.isSome->qK P t (.nil .slc) Qd Qe (some (.int k 0))=some (.nil .slc):=by
 subst q0;subst q1;have g1:=Ak h1 e1 (n:=0) (by omega) (by omega);have g2:=Ak h2 e2 (n:=0) (by omega) (by omega);have g0:jk 0 0 none=some 0:=rfl;refine⟨by simp only[qK,hu,hz,g0,g1,g2];rfl,fun{k} hs=>?_⟩;obtain⟨hv,rfl⟩:=a4w.1 hs;obtain⟨x,rfl⟩:=LP h2;have g3:jk 0 0 (some (.int k 0))=some 0:=rfl;simp only[qK,hu,hz,g1,g2,g3] ;rfl
theorem Nq{ps:aS X.Γ}{ts:St}(hR:uQ X P A m ps ts){t:TypeId}{x:PV X.Γ}{tx:TV}(hx:VR X P (AA A m) m ts.heap x tx){lo hi mx:Option (PV X.Γ)}{Qd Qe tmx:Option TV}(h1:OR X P (AA A m) m ts.heap lo Qd)(h2:OR X P (AA A m) m ts.heap hi Qe)(h3:OR X P (AA A m) m ts.heap mx tmx){v:PV X.Γ}{qs:List Prop}
  (hl:YV X P t ps.heap x lo hi mx=some (v,qs)) (hq:∀q∈qs,q):∃w,qK P t tx Qd Qe tmx=some w∧VR X P (AA A m) m ts.heap v w:=by
 have hr:=hR.heap;unfold YV at hl;split at hl
 .rename_i e t' l fu hu;split at hl
  .rename_i n a z hz e1 e2;split at hl
   .rename_i ht;subst ht;cases hl;have q0:0<=a:=hq _ (by simp);have q1:a<=z:=hq _ (by simp);have q2:z<=(l.length:Nat):=hq _ (by simp);rw[qV h3,agG];cases hx with
    |o8=>
     have ea:a=0:=by simp at q2;omega
     have ez:z=0:=by simp at q2;omega
     exact⟨_,(Zb hu hz h1 h2 e1 e2 ea ez).1,by simp only[List.drop_nil,List.take_nil];exact .o8⟩
    |dn p1 p2 p2' p3 p4 p5 p6 p7 p8 p9=>
     rw[hz]at p3;cases p3;exact⟨_,ae2 hu hz h1 h2 e1 e2 q0 q1 q2,(VR.dn p1 p2 p2' hz p4 p5 p6 p7 p8 p9).part (by omega) (by omega) (.inr (by omega)) (by simp)⟩
    |gone hi _ _=>simp[bn]at hi
   .cases hl
  .rename_i n a z k mv hz e1 e2;split at hl
   .rename_i ht;obtain⟨ht,Bd⟩:=ht;subst ht;split at hl
    .rename_i hfu;subst hfu;cases hl;have q0:a=0:=hq _ (by simp);have q2:z=(l.length:Nat):=hq _ (by simp);have q3:mv=z:=hq _ (by simp);subst q3;subst q0;rw[Oh h3];cases hx with
     |o8=>
      have ez:mv=0:=(by simpa using q2);have:=(Zb hu hz h1 h2 e1 e2 rfl ez).2 (k:=k) Bd;exact⟨_,by rw[<-ez]at this;exact this,.o8⟩
     |dn p1 p2 p2' p3 p4 p5 p6 p7 p8 p9=>
      rw[hz]at p3;cases p3;obtain⟨p7a,p7b⟩:=p7 rfl;subst p7a;subst p7b;refine⟨_,a9m hu hz h1 h2 e1 e2 Bd (a96 0) (by omega) (by omega) p6,?_⟩;subst q2;have:=VR.dn (fu:=true) p1 p2 p2' hz p4 p5 (a0V _) (fun _=>⟨rfl,rfl⟩) p8 p9;simpa using this
     |gone hi _ _=>simp[bn]at hi
    cases hl;have q0:0<=a:=hq _ (by simp);have q1:a<=z:=hq _ (by simp);have q2:z<=(l.length:Nat):=hq _ (by simp);have q3:mv=z:=hq _ (by simp);have q4:a=z:=hq _ (by simp);subst q3;rw[Oh h3,agG];cases hx with
    |o8=>
     have ea:a=0:=by simp at q2;omega
     have ez:mv=0:=by simp at q2;omega
     have:=(Zb hu hz h1 h2 e1 e2 ea ez).2 (k:=k) Bd;rw[<-ez]at this;exact⟨_,this,by simp only[List.drop_nil,List.take_nil];exact .o8⟩
    |dn p1 p2 p2' p3 p4 p5 p6 p7 p8 p9=>
     rw[hz]at p3;cases p3;exact⟨_,a9m hu hz h1 h2 e1 e2 Bd q0 q1 q2 p6,(VR.dn p1 p2 p2' hz p4 p5 p6 p7 p8 p9).part (by omega) (by omega) (.inl (by omega)) (by simp)⟩
    |gone hi _ _=>simp[bn]at hi
   .cases hl
  .cases hl
 .rename_i e i hu;split at hl
  .rename_i kk ex t' l hb;obtain⟨mb,g1,g2⟩:=hr.at_ i _ hb;cases mb with
   |dn y=>
    cases hx with
    |gone hi e' _=>simp only[bn,a01]at hi;subst hi;rw[g1]at e';cases e'
    |own e' o=>
     rw[g1]at e';cases e';have hlr:LR X P (AA A m) m ts.heap kk ex t' l tx:=g2;split at hl
     .rename_i n a z hz e1 e2;split at hl
      .rename_i ht;subst ht;cases hl;have q0:0<=a:=hq _ (by simp);have q1:a<=z:=hq _ (by simp);have q2:z<=(l.length:Nat):=hq _ (by simp);rw[qV h3];cases hlr with
       |nil=>
        have ea:a=0:=by simp at q2;omega
        have ez:z=0:=by simp at q2;omega
        refine⟨_,(Zb hu hz h1 h2 e1 e2 ea ez).1,?_⟩;subst ea;subst ez;exact .Ae g1
       |emp p0 p1 p2 p3 p4=>
        rw[hz]at p3;cases p3;exact⟨_,ae2 (len:=0) hu hz h1 h2 e1 e2 q0 q1 q2,.win g1 (by simp at q2;omega) (by simp at q2;omega) (.inl (by simp at q2;omega))⟩
       |some p1 p2 p3 p4 p5 p6 p7 p8 p9=>
        rw[hz]at p2;cases p2;exact⟨_,ae2 hu hz h1 h2 e1 e2 q0 q1 q2,.win g1 (by omega) (by omega) (.inr (by omega))⟩
      .cases hl
     .rename_i n a z k mv hz e1 e2;split at hl
      .rename_i ht;obtain⟨ht,Bd⟩:=ht;subst ht;cases hl;have q0:0<=a:=hq _ (by simp);have q1:a<=z:=hq _ (by simp);have q2:z<=(l.length:Nat):=hq _ (by simp);have q3:mv=z:=hq _ (by simp);have q4:a=z:=hq _ (by simp);subst q3;rw[Oh h3];cases hlr with
       |nil=>
        have ea:a=0:=by simp at q2;omega
        have ez:mv=0:=by simp at q2;omega
        have:=(Zb hu hz h1 h2 e1 e2 ea ez).2 (k:=k) Bd;rw[<-ez]at this;refine⟨_,this,?_⟩;subst ea;subst ez;exact .Ae g1
       |emp p0 p1 p2 p3 p4=>
        rw[hz]at p3;cases p3;exact⟨_,a9m (len:=0) hu hz h1 h2 e1 e2 Bd q0 q1 q2 (a0V _),.win g1 (by simp at q2;omega) (by omega) (.inl (by omega))⟩
       |some p1 p2 p3 p4 p5 p6 p7 p8 p9=>
        rw[hz]at p2;cases p2;exact⟨_,a9m hu hz h1 h2 e1 e2 Bd q0 q1 q2 (a0V _),.win g1 (by omega) (by omega) (.inl (by omega))⟩
      .cases hl
     .cases hl
   |_=>exact g2.elim
  .cases hl
 .rename_i e hu;have:tx=.nil .slc:=by
   cases hx with
   |nil=>rfl
   |gone hi _ _=>simp[bn]at hi
  subst this;split at hl
  .rename_i n a z hz e1 e2;cases hl;have q0:a=0:=hq _ (by simp);have q1:z=0:=hq _ (by simp);rw[qV h3];exact⟨_,(Zb hu hz h1 h2 e1 e2 q0 q1).1,.nil _⟩
  .rename_i n a z k mv hz e1 e2;split at hl
   .rename_i Bd;cases hl;have q0:a=0:=hq _ (by simp);have q1:z=0:=hq _ (by simp);have q2:mv=0:=hq _ (by simp);subst q2;rw[Oh h3];exact⟨_,(Zb hu hz h1 h2 e1 e2 q0 q1).2 Bd,.nil _⟩
   .cases hl
  .cases hl
 .cases hl
theorem BX(hX:bK X P){ps:aS X.Γ}{ts:St}(hR:uQ X P A m ps ts){t:TypeId}{x:PE X.Γ}{ex:EV}(hx:Ih X P (AA A m) m ts.heap x ex){lo hi mx:Option (PV X.Γ)}{Qd Qe tmx:Option TV}(h1:OR X P (AA A m) m ts.heap lo Qd)(h2:OR X P (AA A m) m ts.heap hi Qe)(h3:OR X P (AA A m) m ts.heap mx tmx){v:PV X.Γ}{H1:List (PB X.Γ)}{qs:List Prop}
  (hl:IE X P t ps.heap x lo hi mx=some (v,H1,qs)) (hq:∀q∈qs,q):Ws X P A m ts ((qo P t ex Qd Qe tmx).map fun v=>(v,ts,bY)) v H1 xC:=by
 have hr:=hR.heap;unfold IE at hl;split at hl
 .rename_i n e b off lim hu;split at hl
  .rename_i size hz;split at hl
   .cases hl
   .rename_i KF;split at hl
    .cases hl
    .rw[qV h3];obtain⟨y,rfl,hy⟩:=fO hx;split at hl
     .split at hl
      .rename_i cs hb;cases hl;rw[qV h1,qV h2];obtain⟨mb,g1,g2⟩:=hr.at_ b _ hb;cases mb with
       |fV c=>
        cases hy with
        |gone hi e' _=>simp only[bn,a01]at hi;subst hi;rw[g1]at e';cases e'
        |ptr e'=>
         rw[g1]at e';cases e';exact⟨.slc c off n n size true,ts.heap,bY,m,by simp[qo,hu,hz,KF,jk],hr,.slc g1,.refl,.refl,.none,fun d hd=>by cases hd⟩
       |_=>exact g2.elim
      .cases hl
     .rename_i Yr vW _;split at hl
      .rename_i cs a z hb e1 e2;split at hl
       .cases hl
       rename_i adX;split at hl
       .rename_i rows is hd;cases hl;have q0:0<=a:=hq _ (by simp);have q1:a<=z:=hq _ (by simp);have q2:z<=(n:Nat):=hq _ (by simp);obtain⟨mb,g1,g2⟩:=hr.at_ b _ hb;cases mb with
        |fV c=>
         obtain⟨cs',g3,g4⟩:=g2;cases hy with
         |gone hi e' _=>simp only[bn,a01]at hi;subst hi;rw[g1]at e';cases e'
         |ptr e'=>
          rw[g1]at e';cases e';have f1:=Ak h1 e1 (n:=z.toNat) q0 (by omega);have f2:=Ak h2 e2 (n:=n) (by omega) q2;obtain⟨w1,w2⟩:=Ai (m':=bT (b::is) m) hX hr (g4.drop off) hd;have w3:=w2.2.1;rw[a3H]at w3;have hgo:=hr.aZ (b::is);have Qc:=iw (h:=ts.heap) (b::is) m;have hnc:AA A (bT (b::is) m) c:=by
           refine FA.gone hr (.inr ⟨b,_,a2T,g1,rfl⟩)
          refine⟨.slc c (off+a.toNat*size) (z.toNat-a.toNat) (n-a.toNat) size true,ts.heap,bY,bT (b::is) m,?_,hgo,?_,Qc.1,Qc.2,.none,fun d hd=>by cases hd⟩
          .have f0:jk n n none=some n:=rfl;simp only[qo,hu,hz,KF,a3a,f0,f2,f1,Option.isSome_none,Bool.false_and,a2l,a0U]
          .rw[agG];have ahU:VR X P (AA A (bT (b::is) m)) (bT (b::is) m) ts.heap (.dn e rows false) (.slc c off rows.length n size true):=by
            refine .dn hnc (by unfold aV;rw[g3]) (fun _=>wJ g3 (by simp)) hz (by omega) ?_ (by omega) (by simp) w2.1 (fun j y i d v hj hi hx=>?_)
            .rw[w1,<-g4.1];omega
            .refine(w2.2.2 j y i d v hj hi ?_).mono fun q hq=>FA.gone hr (FA.mono (fun i hi=>a2Y _ hi) hq);rw[a3X,<-hx];congr 1;omega
           exact ahU.part (by omega) (by omega) (.inr (by omega)) (by simp)
        |_=>exact g2.elim
       .cases hl
      .cases hl
  .cases hl
 .cases hl
theorem Ug{ps:aS X.Γ}{ts:St}(hR:uQ X P A m ps ts){t:TypeId}{x:PE X.Γ}{ex:EV}(hx:Ih X P (AA A m) m ts.heap x ex){lo hi:Option (PV X.Γ)}{Qd Qe tmx:Option TV}(h1:OR X P (AA A m) m ts.heap lo Qd)(h2:OR X P (AA A m) m ts.heap hi Qe)(h3:OR X P (AA A m) m ts.heap none tmx){v:PV X.Γ}
  (hl:Fh X P t ps.heap x lo hi=some v):Ws X P A m ts ((qo P t ex Qd Qe tmx).map fun v=>(v,ts,bY)) v ps.heap xC:=by
 have hr:=hR.heap;unfold Fh at hl;split at hl
 .rename_i n e b off lim hu;split at hl
  .rename_i size cs a z hz hb e1 e2;split at hl
   .cases hl
   .rename_i KF;split at hl
    .rename_i hq;cases hl;rw[qV h3];obtain⟨y,rfl,hy⟩:=fO hx;obtain⟨mb,g1,g2⟩:=hr.at_ b _ hb;cases mb with
     |fV c=>
      cases hy with
      |gone hi e' _=>simp only[bn,a01]at hi;subst hi;rw[g1]at e';cases e'
      |ptr e'=>
       rw[g1]at e';cases e';have f1:=Ak h1 e1 (n:=z.toNat) hq.1 (by omega);have f2:=Ak h2 e2 (n:=n) (by omega) hq.2.2;refine⟨.slc c (off+a.toNat*size) (z.toNat-a.toNat) (n-a.toNat) size true,ts.heap,bY,m,?_,hr,.slc g1,.refl,.refl,.none,fun d hd=>by cases hd⟩;have f0:jk n n none=some n:=rfl;simp only[qo,hu,hz,KF,a3a,f0,f2,f1,Option.isSome_none,Bool.false_and,a2l,a0U]
     |_=>exact g2.elim
    .cases hl
  .cases hl
 .cases hl
end
open Go Tw
section
variable {X:kH} {P:Program} {A B F:Nat->Prop} {m m':List MB} {h h':List HB} {H H':List (PB X.Γ)}
theorem vP:∀{vs:List (PV X.Γ)} {i:Nat} {v:PV X.Γ},xu.Gs vs=false->vs[i]? = some v->xu v=false
 | [],_,_,_,h=>by simp at h
 |a::vs,i,v,hc,h=>by
  simp only[xu.Gs,a9f]at hc;cases i with
  |zero=>simp only[a2C,a01]at h;subst h;exact hc.1
  |succ i=>exact vP hc.2 (by simpa using h)
theorem sQ{k:Nat}:∀{vs:List (PV X.Γ)} {i:Nat} {v:PV X.Γ},(shift.shifts k vs)[i]? = some v->∃u,vs[i]? = some u∧v=shift k u
 | [],_,_,h=>by simp[shift.shifts]at h
 |a::vs,i,v,h=>by
  cases i with
  |zero=>simp only[shift.shifts,a2C,a01]at h;exact⟨a,rfl,h.symm⟩
  |succ i=>obtain⟨u,h1,h2⟩:=sQ (vs:=vs) (i:=i) (by simpa[shift.shifts]using h);exact⟨u,by simpa using h1,h2⟩
theorem sS{k:Nat}:∀{vs:List (PV X.Γ)},(shift.shifts k vs).length=vs.length
 | []=>rfl
 |a::vs=>by simp[shift.shifts,sS (vs:=vs)]
theorem Zc{k i:Nat}{v:PV X.Γ}(h:bn v=some i):bn (shift k v)=some (i+k):=by
 cases v<;>simp[bn]at h<;>subst h<;>rfl
theorem VR.shift(hX:bK X P){m0:List MB}{v:PV X.Γ}{x:TV}(hv:VR X P A m h v x)(hq:(∀b,A b->B b)∨xu v=false):VR X P B (m0++m) h (Pv.shift m0.length v) x:=by
 have at':∀{i:Nat} {mb:MB},m[i]? = some mb->(m0++m)[i+m0.length]? = some mb:=by
  intro i mb hi;rw[a19 (by omega)];simpa using hi
 induction hv with
 |bool=>exact .bool _
 |lit=>exact .lit _
 |int=>exact .int _ _
 |str=>exact .str _
 |nil=>exact .nil _
 |ptr e=>exact .ptr (at' e)
 |slc e=>exact .slc (at' e)
 |own e o=>exact .own (at' e) o
 |win e q q' q2=>exact .win (at' e) q q' q2
 |Ae e=>exact .Ae (at' e)
 |map e=>exact .map (at' e)
 |iter e=>exact .iter (at' e)
 |fn h1 _ h3 _ i2 i4=>
  refine .fn (by rw[sS,h1]) (fun i x y hx hy=>?_) (by rw[sS,h3]) (fun i x y hx hy=>?_)
  .obtain⟨u,g1,rfl⟩:=sQ hx;exact i2 i u y g1 hy (hq.imp_right fun hq=>by simp only[xu,a9f]at hq;exact vP hq.1 g1)
  obtain⟨u,g1,rfl⟩:=sQ hx;exact i4 i u y g1 hy (hq.imp_right fun hq=>by simp only[xu,a9f]at hq;exact vP hq.2 g1)
 |kF e=>exact .kF (at' e)
 |agg h1 _ i2=>
  refine .agg (by rw[sS,h1]) (fun i x y hx hy=>?_);obtain⟨u,g1,rfl⟩:=sQ hx;exact i2 i u y g1 hy (hq.imp_right fun hq=>by simp only[xu]at hq;exact vP hq g1)
 |dI h1 _ i2=>
  refine .dI (by rw[sS,h1]) (fun i x y hx hy=>?_);obtain⟨u,g1,rfl⟩:=sQ hx;exact i2 i u y g1 hy (hq.imp_right fun hq=>by simp only[xu]at hq;exact vP hq g1)
 |o8=>exact .o8
 |dn a c c2 s z o k f e r _=>
  rcases hq with hq|hq
  .exact .dn (hq _ a) c c2 s z o k f e fun j y i d v h1 h2 h3=>((r j y i d v h1 h2 h3).mono hq).jc hX (eY (hX.jc _ _) h2)
  simp[xu]at hq
 |el a c l o e q r _=>
  rcases hq with hq|hq
  .exact .el (hq _ a) c l o e q fun i d v h1 h2=>((r i d v h1 h2).mono hq).jc hX (eY (hX.jc _ _) h1)
  simp[xu]at hq
 |row e j q=>exact .row (at' e) j q
 | @gone v i x hi e o=>
  have e':(m0++m)[i+m0.length]? = m[i]?:=by rw[a19 (by omega)];congr 1;omega
  exact .gone (Zc hi) (by rw[e'];exact e.as fun c=>by cases v<;>rfl) o
theorem bV.shift(hX:bK X P){m0:List MB}{v:List (PV X.Γ)}{x:List TV}(hv:bV X P A m h v x)(hq:(∀b,A b->B b)∨xu.Gs v=false):bV X P B (m0++m) h (Pv.shift.shifts m0.length v) x:=by
 refine⟨by rw[sS,hv.1],fun i a b ha hb=>?_⟩;obtain⟨u,g1,rfl⟩:=sQ ha;exact(hv.2 i u b g1 hb).shift hX (hq.imp_right fun hq=>vP hq g1)
theorem BR.shift(hX:bK X P){m0:List MB}{b b':PB X.Γ}{mb:MB}(hb:BR X P A m h b mb)(hs:Fb X m0.length b=some b')(hq:(∀c,A c->B c)∨hasB X b=false):BR X P B (m0++m) h b' mb:=by
 cases b with
 |cells cs=>
  cases mb with
  |fV c=>
   simp only[Fb,a01]at hs;subst hs;obtain⟨cs',h1,h2⟩:=hb;exact⟨cs',h1,h2.shift hX hq⟩
  |_=>exact hb.elim
 |list k ex t l=>
  cases mb with
  |dn y=>
   simp only[Fb,a01]at hs;subst hs;rcases hq with hq|hq
   .cases(hb:LR X P A m h k ex t l y)with
    |nil=>exact LR.nil
    |emp p0 p1 p2 p3 p4=>exact LR.emp (hq _ p0) p1 p2 p3 p4
    |some p1 p2 p3 p4 p5 p6 p7 p8 p9=>exact LR.some p1 p2 p3 p4 p5 p6 p7 p8 ((p9.mono hq).jc hX)
   simp[hasB]at hq
  |_=>exact hb.elim
 |gone=>
  cases mb with
  |gone=>simp only[Fb,a01]at hs;subst hs;trivial
  |_=>exact hb.elim
 |_=>simp[Fb]at hs
theorem JO{k:Nat}:∀{bs bs':List (PB X.Γ)} {i:Nat} {b':PB X.Γ},qQ X k bs=some bs'->bs'[i]? = some b'->∃b,bs[i]? = some b∧Fb X k b=some b'
 | [],bs',i,b',h,hi=>by simp only[qQ,a01]at h;subst h;simp at hi
 |b::bs,bs',i,b',h,hi=>by
  simp only[qQ]at h;split at h
  .rename_i c cs h1 h2;cases h;cases i with
   |zero=>simp only[a2C,a01]at hi;subst hi;exact⟨b,rfl,h1⟩
   |succ i=>obtain⟨d,g1,g2⟩:=JO h2 (i:=i) (by simpa using hi);exact⟨d,by simpa using g1,g2⟩
  cases h
theorem JQ{k:Nat}:∀{bs bs':List (PB X.Γ)},qQ X k bs=some bs'->bs'.length=bs.length
 | [],bs',h=>by simp only[qQ,a01]at h;subst h;rfl
 |b::bs,bs',h=>by
  simp only[qQ]at h;split at h
  .rename_i c cs h1 h2;cases h;simp[JQ h2]
  cases h
def oh(X:kH)(P:Program)(call:bf)(f:FuncId)(vs:List (PV X.Γ))(v:PV X.Γ)(ext:List (PB X.Γ)):Prop:=
 ∀(A:Nat->Prop) (h:List HB) (first args cap:List TV),(∀b,h.length<=b->A b)->bV X P A [] h vs (first++args++cap) ->
  ∃w h' m',call (.fn f first cap) args h=some (w,h',[])∧HR X P A m' ext h'∧VR X P (AA A m') m' h' v w∧Fr [] h m' h'
theorem GR(hX:bK X P){call:bf}{f:FuncId}{first xs cap vs:List (PV X.Γ)}{v:PV X.Γ}{ext ext':List (PB X.Γ)}(hc:oh X P call f vs v ext)(hr:HR X P A m H h)(hv:views H (first++xs++cap)=some vs)(hs:qQ X H.length ext=some ext')
  {t1 t2 t3:List TV} (h1:bV X P (AA A m) m h first t1) (h2:bV X P (AA A m) m h xs t2) (h3:bV X P (AA A m) m h cap t3) :
  ∃w h' m1,call (.fn f t1 t3) t2 h=some (w,h',[])∧HR X P A m1 ((if xu v||ext.any (hasB X)then aZ (kM.jX (first++xs++cap)) H else H)++ext') h'∧VR X P (AA A m1) m1 h' (shift H.length v) w∧Fr m h m1 h'∧Up m m1:=by
 have hvs:=l7 (m':=[]) hX hr ((h1.app h2).app h3) hv (is:=kM.jX (first++xs++cap)) fun i hi=>hi;generalize kM.jX (first++xs++cap)=is at hvs ⊢;obtain⟨w,h',m',c1,c2,c3,c4⟩:=hc (fun b=>FA A m is b∨h.length<=b) h t1 t2 t3 (fun b hb=>.inr hb) (hvs.mono fun b hb=>.inl hb);have hold:∀b,b<h.length->h'[b]? = h[b]?:=fun b hb=>c4.same b hb (by simp[bC]);have fQ:∀b,b∈bC m'->h.length<=b:=fun b hb=>by
  rcases c4.new b hb with h0|h0
  .simp[bC]at h0
  .exact h0
 have key:∀(m0:List MB) (H0:List (PB X.Γ)),HR X P A m0 H0 h->Fr m h m0 h->Up m m0->m0.length=H.length->((∀b,FA A m is b->AA A m0 b)∨(xu v||ext.any (hasB X))=false) ->
   ∃m1,HR X P A m1 (H0++ext') h'∧VR X P (AA A m1) m1 h' (shift H.length v) w∧Fr m h m1 h'∧Up m m1:=by
  intro m0 H0 Zd hF0 hU0 qF hq;have hF:Fr m0 h (m0++m') h':=by
   refine⟨c4.len,fun b hb _=>hold b hb,fun b hb=>?_,fun b cs hc=>⟨cs,by rw[fM (hold b (gJ hc)),hc],a0V _⟩⟩;rw[iW,a2X]at hb;exact hb.imp_right fun hb=>fQ b hb
  have hA:(∀b,AA (fun b=>FA A m is b∨h.length<=b) m' b->AA A (m0++m') b)∨(xu v||ext.any (hasB X))=false:=by
   refine hq.imp_left fun hq b hb=>?_;refine⟨?_,fun hm=>?_⟩
   .rcases hb.1 with h0|h0
    .exact(hq b h0).1
    .exact hr.up b h0
   .rw[iW,a2X]at hm;rcases hm with hm|hm
    .rcases hb.1 with h0|h0
     .exact(hq b h0).2 hm
     .have:=Zd.inb hm;omega
    .exact hb.2 hm
  refine⟨m0++m',?_,?_,hF0.trans hF,hU0.trans (wK _)⟩
  .refine Zd.next hF (wK _) (by rw[a1X,a1X,Zd.len,JQ hs,c2.len]) ?_ fun i b hi=>?_
   .rw[iW];refine a8w.2 ⟨Zd.nodup,c2.nodup,fun a ha b hb e=>?_⟩;subst e;have:=Zd.inb ha;have:=fQ a hb;omega
   .rcases a3V i H0.length with aQ|En
    .left;rw[a0c aQ]at hi;obtain⟨mb,g1,g2⟩:=Zd.at_ i b hi;exact⟨mb,hi,g1,by rw[a0c (by rw[Zd.len];exact aQ)];exact g1,fun c hc=>hold c (g2.has hc)⟩
    .right;rw[a19 En]at hi;obtain⟨b0,g1,g2⟩:=JO hs hi;obtain⟨mb,g3,g4⟩:=c2.at_ _ _ g1;refine⟨mb,by rw[a19 (by rw[Zd.len];exact En),Zd.len];exact g3,?_⟩;rw[<-qF]at g2;refine g4.shift hX g2 (hA.imp_right fun hq=>?_);simp only[a9f,List.any_eq_false]at hq;simpa using hq.2 b0 (a4f g1)
  .rw[<-qF];exact c3.shift hX (hA.imp_right fun hq=>by simp only[a9f]at hq;exact hq.1)
 refine⟨w,h',?_⟩;by_cases hL:(xu v||ext.any (hasB X))=true
 .rw[a0i hL];obtain⟨m1,e1,e2,e3,e4⟩:=key (bT is m) (aZ is H) (hr.aZ is) (iw (h:=h) is m).1 (iw (h:=h) is m).2 (by rw[lW,hr.len]) (.inl fun b hb=>hb.gone hr);exact⟨m1,c1,e1,e2,e3,e4⟩
 .rw[a0g hL];obtain⟨m1,e1,e2,e3,e4⟩:=key m H hr .refl .refl hr.len (.inr (by simpa using hL));exact⟨m1,c1,e1,e2,e3,e4⟩
end
open Go Tw
section
variable {X:kH} {P:Program} {A B F:Nat->Prop} {m m':List MB} {h h':List HB} {H H':List (PB X.Γ)}
def aX(X:kH)(P:Program)(call:bf):a2A X.Γ:=fun fv xs H v H1=>
 ∀(A:Nat->Prop) (m:List MB) (h:List HB) (tf:TV) (rU:List TV),HR X P A m H h->VR X P (AA A m) m h fv tf->bV X P (AA A m) m h xs rU ->
  ∃w h1 ws m1,call tf rU h=some (w,h1,ws)∧HR X P A m1 H1 h1∧VR X P (AA A m1) m1 h1 v w∧Fr m h m1 h1∧Up m m1∧∀b∈ws,b∈bC m
def jw(X:kH)(P:Program)(call:bf)(fH:eX X.Γ):Prop:=∀f vs v ext ps,fH f vs=some (v,ext,ps)->(∀p∈ps,p)->oh X P call f vs v ext
theorem uF{ρ:Type}{y:ρ}:∀{ps:List Prop} {x:OT ρ},(owe ps x).Ends y->(∀p∈ps,p)∧x.Ends y
 | [],x,h=>⟨by simp,h⟩
 |p::ps,x,h=>by
  have:=uF h.2;exact⟨fun q hq=>by rcases a2e.1 hq with rfl|hq;exact h.1;exact this.1 q hq,this.2⟩
theorem Ze{ρ:Type}{y:ρ}{u:PV X.Γ}{an:PT X.Γ}{k:Bool->PT X.Γ->OT ρ}(hk:(byB X u an k).Ends y){tu:TV}(hu:VR X P A m h u tu):∃t GU,tu=.bool t∧(k t GU).Ends y:=by
 cases u with
 |lit b=>
  have:tu=.bool b:=by
   cases hu with
   |lit=>rfl
   |gone hi _ _=>simp[bn]at hi
  exact⟨b,an,this,hk⟩
 |bool b=>
  have hb:tu=.bool b:=by
   cases hu with
   |bool=>rfl
   |gone hi _ _=>simp[bn]at hi
  subst hb;cases an with
  |s x z=>
   rcases hk with⟨h1,h2⟩|⟨h1,h2⟩
   .subst h1;exact⟨true,x,rfl,h2⟩
   subst h1;exact⟨false,z,rfl,h2⟩
  |a x r=>
   cases x with
   |br t=>obtain⟨h1,h2⟩:=hk;subst h1;exact⟨_,r,rfl,h2⟩
   |_=>exact hk.elim
  |_=>exact hk.elim
 |_=>exact hk.elim
theorem qW:∀{es:List (PV X.Γ×PV X.Γ)} {fU:List (TV×TV)} {ks:List TV},es.length=fU.length->(∀(i:Nat) x y,es[i]? = some x->fU[i]? = some y->VR X P A m h x.1 y.1∧VR X P A m h x.2 y.2)->uY X es=some ks->fU.map (·.1)=ks
 | [],fU,ks,hl,_,hk=>by
  simp only[uY,a01]at hk;subst hk;cases fU with
  |nil=>rfl
  |cons=>simp at hl
 |(k,v)::es,fU,ks,hl,he,hk=>by
  cases fU with
  |nil=>simp at hl
  |cons y fU=>
   simp only[uY]at hk;split at hk
   .rename_i a b h1 h2;cases hk;have:=jH (he 0 _ _ rfl rfl).1 h1;simp only[a3U,this];rw[qW (by simpa using hl) (fun i x z hx hz=>he (i+1) x z (by simpa using hx) (by simpa using hz)) h2]
   cases hk
theorem Wy:∀{ks:List TV} {vs:List Value},Bv ks=some vs->vs.length=ks.length
 | [],vs,h=>by simp only[Bv,a01]at h;subst h;rfl
 |k::ks,vs,h=>by
  simp only[Bv]at h;split at h
  .rename_i v ws _ h2;cases h;simp[Wy h2]
  cases h
theorem pq{kt:TypeId}{k:Value}{fU:List (TV×TV)}:Ei P kt k fU=uZ P kt k (fU.map (·.1)):=by
 unfold Ei uZ;cases hv:Bv (fU.map (·.1))with
 |none=>rfl
 |some vs=>
  have hl:=Wy hv;have:fU.isEmpty=vs.isEmpty:=by
   cases fU<;>cases vs<;>simp at hl<;>rfl
  simp only[this]<;>rfl
def Ru:TV->List Key
 |.map r=>[.h r]
 |_=>[]
def a2F(h:List HB):TV->Option (List (TV×TV))
 |.nil .map=>some []
 |.map r=>match h[r]? with
  |some (.map es)=>some es
  |_=>none
 |_=>none
theorem JR{t:TypeId}{h:List HB}{tm tk:TV}{ok:Bool}{kt e:TypeId}{kv:Value}{es:List (TV×TV)}(hu:P.underlying t=some (.map kt e))(hk:tk.yw=some kv)(he:a2F h tm=some es) :
  gX P t h tm tk ok=match Ei P kt kv es with
   |some (some i)=>match es[i]? with
    |some (_,v)=>some (if ok then .dI [v,.bool true]else v)
    |none=>none
   |some none=>match P.info? e with
    |some i=>match i.zero with
     |some z=>(TV.Vd z).map fun z=>if ok then .dI [z,.bool false]else z
     |none=>none
    |none=>none
   |none=>none:=by
 unfold gX;simp only[hu,hk];cases tm with
 |nil k=>
  cases k<;>simp only[a2F]at he<;>try (cases he;done)
  cases he;rfl
 |map r=>
  simp only[a2F]at he;split at he
  .rename_i es0 hb;cases he;simp only[hb];rfl
  .cases he
 |_=>simp[a2F]at he
theorem CQ{H:List (PB X.Γ)}{h:List HB}(hr:HR X P A m H h){r:Nat}{es:List (PV X.Γ×PV X.Γ)}(he:JL X H r=some es):∃c fU,(m[r]? = some (.fV c)∨(m[r]? = some (.je c)∧c∉bC m))∧h[c]? = some (.map fU)∧es.length=fU.length ∧
  ∀(i:Nat) x y,es[i]? = some x->fU[i]? = some y->pR x.1=some y.1∧pR x.2=some y.2:=by
 unfold JL at he;split at he
 .rename_i es0 hb;cases he;obtain⟨mb,g1,g2⟩:=hr.at_ r _ hb;cases mb with
  |fV c=>obtain⟨fU,g3,g4,g5⟩:=g2;exact⟨c,fU,.inl g1,g3,g4,g5⟩
  |_=>exact g2.elim
 .rename_i es0 hb;cases he;obtain⟨mb,g1,g2⟩:=hr.at_ r _ hb;cases mb with
  |je c=>obtain⟨g0,fU,g3,g4,g5⟩:=g2;exact⟨c,fU,.inr ⟨g1,g0⟩,g3,g4,g5⟩
  |_=>exact g2.elim
 .cases he
theorem a0T{B:Nat->Prop}{h:List HB}{r c:Nat}{tm:TV}(hm:VR X P B m h (.map r) tm)(hc:m[r]? = some (.fV c)∨(m[r]? = some (.je c)∧c∉bC m)):tm=.map c:=by
 cases hm with
 |map e=>
  rcases hc with h|⟨h,_⟩<;>rw[h]at e<;>cases e
  rfl
 |gone hi e _=>
  simp only[bn,a01]at hi;subst hi;rcases hc with h|⟨h,_⟩<;>rw[h]at e
  .cases e
  cases e with
  |r c hv=>simp only[roV,a01]at hv;exact hv.symm
theorem Rx{r c:Nat}{ks:List Key}(hc:m[r]? = some (.fV c)∨(m[r]? = some (.je c)∧c∉bC m)):(∃i,Key.h i∈Key.h r::ks∧GK m i c)∨c∉bC m:=by
 rcases hc with h|⟨_,h⟩
 .exact .inl ⟨r,by simp,iO h rfl⟩
 exact .inr h
theorem ae3{ps:aS X.Γ}{ts:St}(hR:uQ X P A m ps ts){mv:PV X.Γ}{tm:TV}(hm:VR X P (AA A m) m ts.heap mv tm){es:List (PV X.Γ×PV X.Γ)}(he:a5r X ps.heap mv=some es) :
  ∃fU,a2F ts.heap tm=some fU∧es.length=fU.length∧(∀(i:Nat) x y,es[i]? = some x->fU[i]? = some y->VR X P (AA A m) m ts.heap x.1 y.1∧VR X P (AA A m) m ts.heap x.2 y.2) ∧
   IR m ts.heap ⟨gY (Rf X mv),false,false,true⟩ (gY (Ru tm)):=by
 cases mv with
 |nil k=>
  cases hm with
  |nil=>
   cases k<;>simp only[a5r]at he<;>try (cases he;done)
   cases he;exact⟨[],rfl,rfl,fun i x y hx=>by simp at hx,IR.reads rfl (by simp[Ru]) (by simp[Ru])⟩
  |gone hi _ _=>simp[bn]at hi
 |map r=>
  simp only[a5r]at he;obtain⟨c,fU,g0,g3,g4,g5⟩:=CQ hR.heap he;have htm:=a0T hm g0;subst htm;refine⟨fU,by simp only[a2F,g3],g4,fun i x y e1 e2=>⟨nH (g5 i x y e1 e2).1,nH (g5 i x y e1 e2).2⟩,IR.reads rfl (fun b hb=>?_) (by simp[Ru])⟩;simp[Ru]at hb;subst hb;exact⟨Rx g0,(a02.1 g3).1⟩
 |_=>simp[a5r]at he
theorem LQ{a b:PV X.Γ}{x y:TV}(h1:VR X P A m h a x)(h2:VR X P A m h b y):VR X P A m h (.dI [a,b]) (.dI [x,y]):=by
 have:=(bV.nil (X:=X) (P:=P) (A:=A) (m:=m) (h:=h)).cons h2 |>.cons h1
 exact .dI this.1 this.2
theorem WA{e:TypeId}{z:PV X.Γ}(h:O6 X P e=some z):∃i z0 z1,P.info? e=some i∧i.zero=some z0∧TV.Vd z0=some z1∧Yf z1=some z:=by
 unfold O6 at h;split at h
 .rename_i i hi;split at h
  .rename_i z0 hz0;split at h
   .rename_i z1 hz1;exact⟨i,z0,z1,hi,hz0,hz1,h⟩
   cases h
  cases h
 cases h
theorem a9q{ρ:Type}{y:ρ}{ps:aS X.Γ}{ts:St}(hR:uQ X P A m ps ts){t:TypeId}{mv kv:PV X.Γ}{tm tk:TV}(hm:VR X P (AA A m) m ts.heap mv tm)(hk:VR X P (AA A m) m ts.heap kv tk){ok:Bool}{an:PT X.Γ}{c:PE X.Γ->PI->PT X.Γ->OT ρ}
  (hl:(Z4 X P t ps mv kv ok an c).Ends y):∃v pi GU w,gX P t ts.heap tm tk ok=some w∧VR X P (AA A m) m ts.heap v w∧(c (.val v) pi GU).Ends y∧IR m ts.heap pi (gY (Ru tm)):=by
 unfold Z4 at hl;split at hl
 .rename_i kt e tk' es hu htk L9;have:=jH hk htk;subst this;obtain⟨fU,f1,f2,f3,f4⟩:=ae3 hR hm L9;have fnd:∀{xE ks j k0 v},tk.yw=some xE->uY X es=some ks->uZ P kt xE ks=some (some j)->es[j]? = some (k0,v)->∃w,gX P t ts.heap tm tk ok=some w∧VR X P (AA A m) m ts.heap (if ok then .dI [v,.bool true]else v) w:=by
   intro xE ks j k0 v Oi Et Oj hj;have su:=qW f2 f3 Et;have aQ:j<fU.length:=by rw[<-f2];exact(a02.1 hj).1
   have Eb:=a0b aQ;have hv:=(f3 j _ _ hj Eb).2;refine⟨(if ok then .dI [fU[j].2,.bool true]else fU[j].2),?_,?_⟩
   .rw[JR hu Oi f1];simp only[pq,su,Oj,Eb]
   .cases ok with
    |true=>exact LQ hv (.bool _)
    |false=>exact hv
  have non:∀{xE ks z},tk.yw=some xE->uY X es=some ks->uZ P kt xE ks=some none->O6 X P e=some z->∃w,gX P t ts.heap tm tk ok=some w∧VR X P (AA A m) m ts.heap (if ok then .dI [z,.bool false]else z) w:=by
   intro xE ks z Oi Et Oj hz;have su:=qW f2 f3 Et;obtain⟨i,z0,z1,hi,hz0,hz1,hz2⟩:=WA hz;refine⟨(if ok then .dI [z1,.bool false]else z1),?_,?_⟩
   .rw[JR hu Oi f1];simp only[pq,su,Oj,hi,hz0,hz1,a0U]
   .cases ok with
    |true=>exact LQ (wL hz2) (.bool _)
    |false=>exact wL hz2
  split at hl
  .obtain⟨⟨xE,ks,j,k0,g1,g2,g3,g4⟩,hl⟩:=hl;obtain⟨w,w1,w2⟩:=fnd g1 g2 g3 g4;exact⟨_,_,_,w,w1,w2,hl,f4⟩
  .split at hl
   .rename_i z hz;obtain⟨⟨xE,ks,g1,g2,g3⟩,hl⟩:=hl;obtain⟨w,w1,w2⟩:=non g1 g2 g3 hz;exact⟨_,_,_,w,w1,w2,hl,f4⟩
   .exact hl.elim
  .split at hl
   .rename_i z hz;obtain⟨⟨xE,ks,g1,g2,g3⟩,hl⟩:=hl;obtain⟨w,w1,w2⟩:=non g1 g2 g3 hz;exact⟨_,_,_,w,w1,w2,hl,f4⟩
   .exact hl.elim
  .split at hl
   .rename_i xE ks Oi Et;split at hl
    .rename_i j r _ _;split at hl
     .rename_i k0 v hj;obtain⟨Oj,hl⟩:=hl;obtain⟨w,w1,w2⟩:=fnd Oi Et Oj hj;exact⟨_,_,_,w,w1,w2,hl,f4⟩
     .exact hl.elim
    .split at hl
     .rename_i z hz;obtain⟨Oj,hl⟩:=hl;obtain⟨w,w1,w2⟩:=non Oi Et Oj hz;exact⟨_,_,_,w,w1,w2,hl,f4⟩
     .exact hl.elim
    .exact hl.elim
   .exact hl.elim
 .exact hl.elim
theorem a2G{x:TV}{v:PV X.Γ}(h:ZY x=some v):qP v=some x:=by
 cases x<;>simp only[ZY,a01,reduceCtorEq]at h<;>subst h<;>rfl
theorem Ol:∀{x:List TV} {v:List (PV X.Γ)},BJ x=some v->iI v=some x
 | [],v,h=>by cases h;rfl
 |a::l,v,h=>by
  simp only[BJ]at h;split at h
  .rename_i b bs h1 h2;cases h;simp only[iI,a2G h1,Ol h2]
  cases h
theorem a9r{x:TV}{v:PV X.Γ}(h:Yf x=some v):pR v=some x:=by
 cases x
 case agg cs=>
  simp only[Yf,a06]at h;obtain⟨w,h1,rfl⟩:=h;simp only[pR,Ol h1,a0U]
 all_goals
  simp only[Yf,ZY,a01,reduceCtorEq]at h
  try subst h
  try rfl
theorem Zf{ps:aS X.Γ}{ts:St}(hR:uQ X P A m ps ts){r cb:Nat}{es0:List (TV×TV)}(g1:m[r]? = some (.fV cb))(f1:ts.heap[cb]? = some (.map es0))(en:List (PV X.Γ×PV X.Γ))(en':List (TV×TV))(h1:en.length=en'.length)
  (h2:∀(i:Nat) x y,en[i]? = some x->en'[i]? = some y->pR x.1=some y.1∧pR x.2=some y.2) :
  uQ X P A m { ps with heap:=ps.heap.set r (.map en) } { ts with heap:=ts.heap.set cb (.map en') }∧Fr m ts.heap m (ts.heap.set cb (.map en')):=by
 have aQ:=(a02.1 f1).1;obtain⟨q1,q2⟩:=hR.heap.set (pb:=.map en) (hb:=.map en') g1 (c:=cb) rfl (fun cs hc=>by simp[aV,f1]at hc) fun hF=>⟨en',by simp[aQ],h1,h2⟩;exact⟨hR.step q1 q2 .refl,q2⟩
theorem Ry{es:List (PV X.Γ×PV X.Γ)}{fU:List (TV×TV)}(f2:es.length=fU.length)(f3:∀(i:Nat) x y,es[i]? = some x->fU[i]? = some y->pR x.1=some y.1∧pR x.2=some y.2){k v:PV X.Γ}{tk tv:TV}(h1:pR k=some tk)(h2:pR v=some tv) :
  ∀(i:Nat) x y,(es++[(k,v)])[i]? = some x->(fU++[(tk,tv)])[i]? = some y->pR x.1=some y.1∧pR x.2=some y.2:=fun i a b ha qE=>by
 rcases a3V i es.length with aQ|En
 .rw[a0c aQ]at ha;rw[a0c (by rw[<-f2];exact aQ)]at qE;exact f3 i a b ha qE
 .rw[a19 En]at ha;rw[a19 (by rw[<-f2];exact En),<-f2]at qE;cases hx:i-es.length with
  |zero=>
   rw[hx]at ha qE;simp only[a2C,a01]at ha qE;subst ha;subst qE;exact⟨h1,h2⟩
  |succ n=>rw[hx]at ha;simp at ha
theorem a5G{ps:aS X.Γ}{ts:St}(hR:uQ X P A m ps ts){r:Nat}{es:List (PV X.Γ×PV X.Γ)}{tm:TV}(hb:ps.heap[r]? = some (.map es))(hm:VR X P (AA A m) m ts.heap (.map r) tm) :
  ∃cb fU,tm=.map cb∧m[r]? = some (.fV cb)∧ts.heap[cb]? = some (.map fU)∧es.length=fU.length∧∀(i:Nat) x y,es[i]? = some x->fU[i]? = some y->pR x.1=some y.1∧pR x.2=some y.2:=by
 obtain⟨mb,g1,g2⟩:=hR.heap.at_ r _ hb;cases mb with
 |fV cb=>
  obtain⟨fU,f1,f2,f3⟩:=g2;cases hm with
  |gone hi e' _=>simp only[bn,a01]at hi;subst hi;rw[g1]at e';cases e'
  |map e'=>rw[g1]at e';cases e';exact⟨cb,fU,rfl,g1,f1,f2,f3⟩
 |_=>exact g2.elim
theorem a9s{ρ:Type}{y:ρ}{ps:aS X.Γ}{ts:St}(hR:uQ X P A m ps ts){t:TypeId}{mv kv:PV X.Γ}{tm tk:TV}(hm:VR X P (AA A m) m ts.heap mv tm)(hk:VR X P (AA A m) m ts.heap kv tk){an:PT X.Γ}{c:PE X.Γ->aS X.Γ->PI->PT X.Γ->OT ρ}
  (hl:(a5u X P t ps mv kv an c).Ends y):∃e e' ps1 pi GU h1 ti,BN P t ts tm tk=some (e',{ ts with heap:=h1 },ti)∧Ih X P (AA A m) m h1 e e'∧uQ X P A m ps1 { ts with heap:=h1 }∧Fr m ts.heap m h1∧(c e ps1 pi GU).Ends y∧IR m ts.heap pi ti∧∀b,.h b∈ti.ws->b∈bC m:=by
 unfold a5u at hl;split at hl
 .rename_i kt e tk' r hu htk;have:=jH hk htk;subst this;split at hl
  .rename_i es hb;obtain⟨cb,fU,rfl,g1,f1,f2,f3⟩:=a5G hR hb hm;have f3v:∀(i:Nat) x y,es[i]? = some x->fU[i]? = some y->VR X P (AA A m) m ts.heap x.1 y.1∧VR X P (AA A m) m ts.heap x.2 y.2:=fun i x y e1 e2=>⟨nH (f3 i x y e1 e2).1,nH (f3 i x y e1 e2).2⟩;have aQ:=(a02.1 f1).1;split at hl
   .rename_i v _ j rest;split at hl
    case h_2=>exact hl.elim
    rename_i va vx;obtain⟨⟨xE,ks,old,ov,Oi,c1,Et,c2,hj,hold,hov,c3⟩,hl⟩:=hl;have su:=qW f2 f3v Et;have Eb:j<fU.length:=by rw[<-f2];exact(a02.1 hj).1
    have Vf:=a0b Eb;have hy1:(fU[j]).1=old:=by
     have:(fU.map (·.1))[j]? = some (fU[j]).1:=by rw[a4d,Vf];rfl
     rw[su,hold]at this;exact(a8H this).symm
    have htv:=(f3 j _ _ hj Vf).2;obtain⟨w1,w2⟩:=Zf hR g1 f1 es (fU.set j (tk,(fU[j]).2)) (by simp[f2]) fun i a b ha qE=>by
     by_cases e:j=i
     .subst e;rw[a3Y,Vf]at qE;rw[hj]at ha;cases ha;cases qE;exact⟨htk,htv⟩
     .rw[a1g e]at qE;exact f3 i a b ha qE
    have EW:ps.heap.set r (.map es)=ps.heap:=by
     refine a9n fun i=>?_;by_cases e:r=i
     .subst e;rw[a1V (a02.1 hb).1,hb]
     .rw[a1g e]
    rw[EW]at w1;refine⟨.ent r j (.int va vx),.ent cb j (fU[j]).2,_,_,_,_,oO (.h cb),?_,⟨.map g1,rfl,htv⟩,w1,w2,hl,.wrH (iO g1 rfl) aQ,fun b hb=>by simp[oO]at hb;subst hb;exact bg g1 rfl⟩;have Vm:fU[j].1=tk:=by
     have:=(f3 j _ _ hj Vf).1;rw[htk]at this;exact(a8H this).symm
    have hv1:fU[j].2=.int va vx:=by
     have h9:some (TV.int va vx)=some (fU[j]).2:=htv;exact(a8H h9).symm
    have VA:fU.set j (tk,(fU[j]).2)=fU:=by
     rw[show(tk,(fU[j]).2)=fU[j]from acM Vm.symm rfl];exact List.set_getElem_self Eb
    have hl1:gX P t ts.heap (.map cb) tk false=some (.int va vx):=by
     unfold gX;simp only[hu,Oi,f1,pq,su,c2,Vf,hv1,a2l,a3a]
    have hcb:ts.heap.set cb (.map fU)=ts.heap:=by
     refine a9n fun i=>?_;by_cases e:cb=i
     .subst e;rw[a1V aQ,f1]
     .rw[a1g e]
    have h0:zS P t ts (.map cb) tk=some (.ent cb j (fU[j]).2,{ ts with heap:=ts.heap.set cb (.map (fU.set j (tk,(fU[j]).2))) },oO (.h cb)):=by
     unfold zS;simp only[hu,Oi,f1,c1,pq,su,c2,Vf,hy1,hov,c3,a2j]
    unfold BN;rw[h0];simp only[];rw[a0i];unfold a00;rw[VA,hcb,hl1];simp
   .split at hl
    .rename_i va vx hz;obtain⟨⟨xE,q1,c1⟩,⟨abK,ks,q2,Et,c2⟩,⟨arp,ks2,q3,anx,c4⟩,hl⟩:=hl;rw[q1]at q2;cases q2;rw[q1]at q3;cases q3;obtain⟨i,z0,z1,hi,hz0,hz1,hz2⟩:=WA hz;have su:=qW f2 f3v Et;have hzt:=a9r hz2;obtain⟨w1,w2⟩:=Zf hR g1 f1 (es++[(kv,.int va vx)]) (fU++[(tk,z1)]) (by simp[f2]) (Ry f2 f3 htk hzt);refine⟨.ent r es.length (.int va vx),.ent cb fU.length z1,_,_,_,_,oO (.h cb),?_,⟨.map g1,f2,hzt⟩,w1,w2,hl,.wrH (iO g1 rfl) aQ,fun b hb=>by simp[oO]at hb;subst hb;exact bg g1 rfl⟩;have hv1:z1=.int va vx:=by
      have h9:some (TV.int va vx)=some z1:=hzt;exact(a8H h9).symm
     have hl1:gX P t ts.heap (.map cb) tk false=some (.int va vx):=by
      unfold gX;simp only[hu,q1,f1,pq,su,c2,hi,hz0,hz1,hv1,a0U,a2l,a3a]
     have ae4:(fU++[(tk,z1)]).map (·.1)=ks2:=qW (P:=P) (A:=AA A m) (m:=m) (h:=ts.heap) (es:=es++[(kv,.int va vx)]) (by simp[f2]) (fun i x y e1 e2=>let ⟨a1,a2⟩:=Ry f2 f3 htk hzt i x y e1 e2;⟨nH a1,nH a2⟩) anx;have TA:gX P t (ts.heap.set cb (.map (fU++[(tk,z1)]))) (.map cb) tk false=some (.int va vx):=by
      have e9:(fU++[(tk,z1)])[es.length]? = some (tk,z1):=by rw[f2];simp
      unfold gX;simp only[hu,q1,a1V aQ,pq,ae4,c4,e9,a2l,a3a];rw[hv1]
     have h0:zS P t ts (.map cb) tk=some (.ent cb fU.length z1,{ ts with heap:=ts.heap.set cb (.map (fU++[(tk,z1)])) },oO (.h cb)):=by
      unfold zS;simp only[hu,q1,f1,c1,pq,su,c2,hi,hz0,hz1]
     unfold BN;rw[h0];simp only[];rw[a0i];unfold a00;rw[hl1,TA];simp
    .exact hl.elim
   .exact hl.elim
  .exact hl.elim
 .exact hl.elim
theorem a9u{ρ:Type}{y:ρ}{ps:aS X.Γ}{ts:St}(hR:uQ X P A m ps ts){mv v:PV X.Γ}{e:PE X.Γ}{tm tv:TV}{e':EV}(hm:VR X P (AA A m) m ts.heap mv tm)(he:Ih X P (AA A m) m ts.heap e e')(hv:VR X P (AA A m) m ts.heap v tv){c:aS X.Γ->PI->OT ρ}
  (hl:(a5v X ps mv e v c).Ends y):∃ps1 pi h1 ti,FX ts tm e' tv=some ({ ts with heap:=h1 },ti)∧uQ X P A m ps1 { ts with heap:=h1 }∧Fr m ts.heap m h1∧(c ps1 pi).Ends y∧IR m ts.heap pi ti∧∀b,.h b∈ti.ws->b∈bC m:=by
 unfold a5v at hl;split at hl
 .rename_i r r' j tv' htv;have:=jH hv htv;subst this;split at hl
  .rename_i hrr;subst hrr;split at hl
   .rename_i es hb;obtain⟨hj,hl⟩:=hl;obtain⟨cb,fU,rfl,g1,f1,f2,f3⟩:=a5G hR hb hm;obtain⟨c',rfl,hm'⟩:=LM he;have hc:c'=cb:=by
     cases hm' with
     |gone hi e' _=>simp only[bn,a01]at hi;subst hi;rw[g1]at e';cases e'
     |map e'=>rw[g1]at e';cases e';rfl
    subst hc;have aQ:=(a02.1 f1).1;have Eb:j<fU.length:=by rw[<-f2];exact hj
    have Vf:=a0b Eb;obtain⟨w1,w2⟩:=Zf hR g1 f1 (IJ es j v) (fU.set j ((fU[j]).1,tv)) (by unfold IJ;simp[f2]) fun i a b ha qE=>by
     unfold IJ at ha;rw[ady]at ha;by_cases e:j=i
     .subst e;rw[a3Y,Vf]at qE;simp only[a2j,a0b hj,Option.map_eq_map,a0U,a01]at ha;subst ha;cases qE;exact⟨(f3 j _ _ (a0b hj) Vf).1,htv⟩
     .rw[a1g e]at qE;have ha:es[i]? = some a:=(by simpa[e]using ha);exact f3 i a b ha qE
    refine⟨_,_,_,oO (.h c'),?_,w1,w2,hl,.wrH (iO g1 rfl) aQ,fun b hb=>by simp[oO]at hb;subst hb;exact bg g1 rfl⟩;unfold FX;simp only[a2j,f1,Vf]
   .exact hl.elim
  .exact hl.elim
 .exact hl.elim
theorem a5I{ρ:Type}{y:ρ}{ps:aS X.Γ}{ts:St}(hR:uQ X P A m ps ts){t:TypeId}{mv kv v:PV X.Γ}{tm tk tv:TV}(hm:VR X P (AA A m) m ts.heap mv tm)(hk:VR X P (AA A m) m ts.heap kv tk)(hv:VR X P (AA A m) m ts.heap v tv){an:PT X.Γ}{c:aS X.Γ->PI->PT X.Γ->OT ρ}
  (hl:(a5s X P t ps mv kv v an c).Ends y):∃ps1 pi GU h1 ti,xH P t ts tm tk tv=some ({ ts with heap:=h1 },ti)∧uQ X P A m ps1 { ts with heap:=h1 }∧Fr m ts.heap m h1∧(c ps1 pi GU).Ends y∧IR m ts.heap pi ti∧∀b,.h b∈ti.ws->b∈bC m:=by
 unfold a5s at hl;split at hl
 .rename_i kt e tk' r tv' hu htk htv;have:=jH hk htk;subst this;have:=jH hv htv;subst this;split at hl
  .rename_i es hb;obtain⟨mb,g1,g2⟩:=hR.heap.at_ r _ hb;cases mb with
   |fV cb=>
    obtain⟨fU,f1,f2,f3⟩:=g2;have f3v:∀(i:Nat) x y,es[i]? = some x->fU[i]? = some y->VR X P (AA A m) m ts.heap x.1 y.1∧VR X P (AA A m) m ts.heap x.2 y.2:=fun i x y e1 e2=>⟨nH (f3 i x y e1 e2).1,nH (f3 i x y e1 e2).2⟩;cases hm with
    |gone hi e' _=>simp only[bn,a01]at hi;subst hi;rw[g1]at e';cases e'
    |map e'=>
     rw[g1]at e';cases e';have aQ:=(a02.1 f1).1;have wr:∀(en:List (PV X.Γ×PV X.Γ)) (en':List (TV×TV)),en.length=en'.length->(∀(i:Nat) x y,en[i]? = some x->en'[i]? = some y->pR x.1=some y.1∧pR x.2=some y.2) ->
       uQ X P A m { ps with heap:=ps.heap.set r (.map en) } { ts with heap:=ts.heap.set cb (.map en') }∧Fr m ts.heap m (ts.heap.set cb (.map en')):=by
      intro en en' h1 h2;obtain⟨q1,q2⟩:=hR.heap.set (pb:=.map en) (hb:=.map en') g1 (c:=cb) rfl (fun cs hc=>by simp[aV,f1]at hc) fun hF=>⟨en',by simp[aQ],h1,h2⟩;exact⟨hR.step q1 q2 .refl,q2⟩
     have new:∀{xE ks},tk.yw=some xE->uY X es=some ks->aB P (Instr.checkKey false 10000 kt xE)=some ()->uZ P kt xE ks=some none ->
       xH P t ts (.map cb) tk tv=some ({ ts with heap:=ts.heap.set cb (.map (fU++[(tk,tv)])) },oO (.h cb))∧uQ X P A m { ps with heap:=ps.heap.set r (.map (es++[(kv,v)])) } { ts with heap:=ts.heap.set cb (.map (fU++[(tk,tv)])) }∧Fr m ts.heap m (ts.heap.set cb (.map (fU++[(tk,tv)]))):=by
      intro xE ks Oi Et c1 c2;have su:=qW f2 f3v Et;obtain⟨w1,w2⟩:=wr (es++[(kv,v)]) (fU++[(tk,tv)]) (by simp[f2]) fun i a b ha qE=>by
       rcases a3V i es.length with aQ|En
       .rw[a0c aQ]at ha;rw[a0c (by rw[<-f2];exact aQ)]at qE;exact f3 i a b ha qE
       .rw[a19 En]at ha;rw[a19 (by rw[<-f2];exact En),<-f2]at qE;cases hx:i-es.length with
        |zero=>
         rw[hx]at ha qE;simp only[a2C,a01]at ha qE;subst ha;subst qE;exact⟨htk,htv⟩
        |succ n=>rw[hx]at ha;simp at ha
      refine⟨?_,w1,w2⟩;unfold xH;simp only[hu,Oi,f1,c1,pq,su,c2]
     split at hl
     .obtain⟨⟨xE,q1,c1⟩,⟨abK,ks,q2,Et,c2⟩,hl⟩:=hl;rw[q1]at q2;cases q2;obtain⟨u1,u2,u3⟩:=new q1 Et c1 c2;exact⟨_,_,_,_,oO (.h cb),u1,u2,u3,hl,.wrH (iO g1 rfl) aQ,fun b hb=>by simp[oO]at hb;subst hb;exact bg g1 rfl⟩
     .obtain⟨⟨xE,q1,c1⟩,⟨abK,ks,q2,Et,c2⟩,hl⟩:=hl;rw[q1]at q2;cases q2;obtain⟨u1,u2,u3⟩:=new q1 Et c1 c2;exact⟨_,_,_,_,oO (.h cb),u1,u2,u3,hl,.wrH (iO g1 rfl) aQ,fun b hb=>by simp[oO]at hb;subst hb;exact bg g1 rfl⟩
     .obtain⟨⟨xE,ks,j,old,ov,Oi,c1,Et,c2,hj,hold,hov,c3⟩,hl⟩:=hl;have su:=qW f2 f3v Et;have Eb:∃y0,fU[j]? = some y0:=by
       have:j<fU.length:=by rw[<-f2];exact(a02.1 hj).1
       exact⟨_,a0b this⟩
      obtain⟨y0,Vf⟩:=Eb;have hy1:y0.1=old:=by
       have:(fU.map (·.1))[j]? = some y0.1:=by rw[a4d,Vf];rfl
       rw[su,hold]at this;exact(a8H this).symm
      obtain⟨w1,w2⟩:=wr es (fU.set j (tk,tv)) (by simp[f2]) fun i a b ha qE=>by
       by_cases e:j=i
       .subst e;rw[a3Y]at qE;rw[hj]at ha;rw[Vf]at qE;cases ha;cases qE;exact⟨htk,htv⟩
       .rw[a1g e]at qE;exact f3 i a b ha qE
      have EW:ps.heap.set r (.map es)=ps.heap:=by
       refine a9n fun i=>?_;by_cases e:r=i
       .subst e;rw[a1V (a02.1 hb).1,hb]
       .rw[a1g e]
      rw[EW]at w1;refine⟨_,_,_,_,oO (.h cb),?_,w1,w2,hl,.wrH (iO g1 rfl) aQ,fun b hb=>by simp[oO]at hb;subst hb;exact bg g1 rfl⟩;unfold xH;simp only[hu,Oi,f1,c1,pq,su,c2,Vf,hy1,hov,c3,a2j]
     .split at hl
      .rename_i xE ks Oi Et;have su:=qW f2 f3v Et;split at hl
       .rename_i j rest _ _ _;split at hl
        .rename_i x0 old hj hold;split at hl
         .rename_i ov hov;obtain⟨c1,c2,c3,hl⟩:=hl;have Eb:∃y0,fU[j]? = some y0:=by
           have:j<fU.length:=by rw[<-f2];exact(a02.1 hj).1
           exact⟨_,a0b this⟩
          obtain⟨y0,Vf⟩:=Eb;have hy1:y0.1=old:=by
           have:(fU.map (·.1))[j]? = some y0.1:=by rw[a4d,Vf];rfl
           rw[su,hold]at this;exact(a8H this).symm
          obtain⟨w1,w2⟩:=wr (es.set j (kv,v)) (fU.set j (tk,tv)) (by simp[f2]) fun i a b ha qE=>by
           by_cases e:j=i
           .subst e;rw[a3Y]at ha qE;rw[hj]at ha;rw[Vf]at qE;cases ha;cases qE;exact⟨htk,htv⟩
           .rw[a1g e]at ha qE;exact f3 i a b ha qE
          refine⟨_,_,_,_,oO (.h cb),?_,w1,w2,hl,.wrH (iO g1 rfl) aQ,fun b hb=>by simp[oO]at hb;subst hb;exact bg g1 rfl⟩;unfold xH;simp only[hu,Oi,f1,c1,pq,su,c2,Vf,hy1,hov,c3,a2j]
         .exact hl.elim
        .exact hl.elim
       .obtain⟨c1,c2,hl⟩:=hl;obtain⟨u1,u2,u3⟩:=new Oi Et c1 c2;exact⟨_,_,_,_,oO (.h cb),u1,u2,u3,hl,.wrH (iO g1 rfl) aQ,fun b hb=>by simp[oO]at hb;subst hb;exact bg g1 rfl⟩
       .exact hl.elim
      .exact hl.elim
   |_=>exact g2.elim
  .exact hl.elim
 .exact hl.elim
end
open Go Tw
theorem jZ{m:List MB}{b:Nat}(h:b∈bC m):∃i,GK m i b:=by
 obtain⟨mb,h1,h2⟩:=a5X.1 h;obtain⟨i,hi⟩:=a8f h1;exact⟨i,mb,hi,h2⟩
section
variable {X:kH} {P:Program} {A B:Nat->Prop} {m m1:List MB} {h:List HB} {g:Nat->Option Nat}
theorem jo:∀{m:List MB},(∀i j c,GK m i c->GK m j c->i=j)->(bC m).Nodup
 | [],_=>by simp[bC]
 |x::m,hu=>by
  have ih:(bC m).Nodup:=jo fun i j c h1 h2=>by
   have:=hu (i+1) (j+1) c (by obtain⟨mb,a,b⟩:=h1;exact⟨mb,by simpa using a,b⟩) (by obtain⟨mb,a,b⟩:=h2;exact⟨mb,by simpa using a,b⟩);omega
  unfold bC at ih ⊢;rw[a8F];split
  .exact ih
  rename_i b hb;refine a3Z.2 ⟨fun hm=>?_,ih⟩;obtain⟨i,mb,h1,h2⟩:=jZ (m:=m) hm;have:=hu 0 (i+1) b ⟨x,rfl,hb⟩ ⟨mb,by simpa using h1,h2⟩;omega
theorem Om:∀{ks:List Nat} {i p:Nat},wH ks i=some p->ks[p]? = some i
 | [],i,p,h=>by cases h
 |a::ks,i,p,h=>by
  simp only[wH]at h;split at h
  .rename_i e;cases h;simp[e]
  simp only[a06]at h;obtain⟨q,h1,rfl⟩:=h;simpa using Om h1
section
variable {g:Nat->Option Nat} {m1:List MB}
theorem DK(hg:∀i j,g i=some j->m1[j]? = m[i]?){B:Nat->Prop}(hA:∀b,A b->B b)(hX:bK X P){v:PV X.Γ}{x:TV}(hv:VR X P A m h v x):∀{w:PV X.Γ},fJ g v=some w->VR X P B m1 h w x:=by
 have lists:∀{vs:List (PV X.Γ)} {xs:List TV},vs.length=xs.length->(∀(i:Nat) a b,vs[i]? = some a->xs[i]? = some b->∀{w:PV X.Γ},fJ g a=some w->VR X P B m1 h w b)->∀{ws:List (PV X.Γ)},fJ.oN g vs=some ws->ws.length=xs.length∧∀(i:Nat) a b,ws[i]? = some a->xs[i]? = some b->VR X P B m1 h a b:=by
  intro vs
  induction vs with
  |nil=>
   intro xs hl _ ws hw;simp only[fJ.oN,a01]at hw;subst hw;exact⟨hl,fun i a b ha=>by simp at ha⟩
  |cons v vs ih=>
   intro xs hl hh ws hw;cases xs with
   |nil=>simp at hl
   |cons x xs=>
    simp only[fJ.oN]at hw;split at hw
    .rename_i w Tz h1 h2;cases hw;obtain⟨e1,e2⟩:=ih (xs:=xs) (by simpa using hl) (fun i a b ha hb=>hh (i+1) a b (by simpa using ha) (by simpa using hb)) h2;refine⟨by simp[e1],fun i a b ha hb=>?_⟩;cases i with
     |zero=>simp only[a2C,a01]at ha hb;subst ha;subst hb;exact hh 0 v x rfl rfl h1
     |succ i=>exact e2 i a b (by simpa using ha) (by simpa using hb)
    cases hw
 induction hv with
 |bool=>intro w hw;simp only[fJ,a01]at hw;subst hw;exact .bool _
 |lit=>intro w hw;simp only[fJ,a01]at hw;subst hw;exact .lit _
 |int=>intro w hw;simp only[fJ,a01]at hw;subst hw;exact .int _ _
 |str=>intro w hw;simp only[fJ,a01]at hw;subst hw;exact .str _
 |nil=>intro w hw;simp only[fJ,a01]at hw;subst hw;exact .nil _
 |ptr e=>intro w hw;simp only[fJ,a06]at hw;obtain⟨j,h1,rfl⟩:=hw;exact .ptr (by rw[hg _ _ h1];exact e)
 |slc e=>intro w hw;simp only[fJ,a06]at hw;obtain⟨j,h1,rfl⟩:=hw;exact .slc (by rw[hg _ _ h1];exact e)
 |own e o=>intro w hw;simp only[fJ,a06]at hw;obtain⟨j,h1,rfl⟩:=hw;exact .own (by rw[hg _ _ h1];exact e) o
 |win e q q' q2=>intro w hw;simp only[fJ,a06]at hw;obtain⟨j,h1,rfl⟩:=hw;exact .win (by rw[hg _ _ h1];exact e) q q' q2
 |Ae e=>intro w hw;simp only[fJ,a06]at hw;obtain⟨j,h1,rfl⟩:=hw;exact .Ae (by rw[hg _ _ h1];exact e)
 |map e=>intro w hw;simp only[fJ,a06]at hw;obtain⟨j,h1,rfl⟩:=hw;exact .map (by rw[hg _ _ h1];exact e)
 |iter e=>intro w hw;simp only[fJ,a06]at hw;obtain⟨j,h1,rfl⟩:=hw;exact .iter (by rw[hg _ _ h1];exact e)
 |kF e=>intro w hw;simp only[fJ,a06]at hw;obtain⟨j,h1,rfl⟩:=hw;exact .kF (by rw[hg _ _ h1];exact e)
 |row e j q=>intro w hw;simp only[fJ,a06]at hw;obtain⟨j,h1,rfl⟩:=hw;exact .row (by rw[hg _ _ h1];exact e) (by assumption) q
 |fn h1 _ h3 _ i2 i4=>
  intro w hw;simp only[fJ]at hw;split at hw
  .rename_i a c ha hc;cases hw;obtain⟨e1,e2⟩:=lists h1 i2 ha;obtain⟨e3,e4⟩:=lists h3 i4 hc;exact .fn e1 e2 e3 e4
  cases hw
 |agg h1 _ i2=>
  intro w hw;simp only[fJ,a06]at hw;obtain⟨cs,hc,rfl⟩:=hw;obtain⟨e1,e2⟩:=lists h1 i2 hc;exact .agg e1 e2
 |dI h1 _ i2=>
  intro w hw;simp only[fJ,a06]at hw;obtain⟨cs,hc,rfl⟩:=hw;obtain⟨e1,e2⟩:=lists h1 i2 hc;exact .dI e1 e2
 |o8=>intro w hw;simp only[fJ,a01]at hw;subst hw;exact .o8
 |dn a c c2 s z o k f e r _=>intro w hw;simp only[fJ,a01]at hw;subst hw;exact .dn (hA _ a) c c2 s z o k f e fun j y i d v h1 h2 h3=>((r j y i d v h1 h2 h3).mono hA).jc hX (eY (hX.jc _ _) h2)
 |el a c l o e q r _=>intro w hw;simp only[fJ,a01]at hw;subst hw;exact .el (hA _ a) c l o e q fun i d v h1 h2=>((r i d v h1 h2).mono hA).jc hX (eY (hX.jc _ _) h1)
 |gone i e o=>
  intro w hw;rename_i v _ x;have:∃j,bn w=some j∧CO w x m1[j]?:=by
   cases v<;>simp[bn]at i<;>subst i<;>simp only[fJ,a06]at hw<;>obtain⟨j,h1,rfl⟩:=hw<;>exact⟨j,rfl,by rw[hg _ _ h1];exact e.as fun c=>rfl⟩
  obtain⟨j,h1,h2⟩:=this;exact .gone h1 h2 o
variable {B:Nat->Prop}
theorem zi(hX:bK X P)(hg:∀i j,g i=some j->m1[j]? = m[i]?)(hA:∀b,A b->B b):∀{vs:List (PV X.Γ)} {xs:List TV} {ws:List (PV X.Γ)},bV X P A m h vs xs->fJ.oN g vs=some ws->bV X P B m1 h ws xs
 | [],xs,ws,hv,hw=>by simp only[fJ.oN,a01]at hw;subst hw;rw[hv.inv0];exact .nil
 |v::vs,xs,ws,hv,hw=>by
  obtain⟨x,r,rfl,h1,h2⟩:=hv.inv;simp only[fJ.oN]at hw;split at hw
  .rename_i w Tz g1 g2;cases hw;exact .cons (DK hg hA hX h1 g1) (zi hX hg hA h2 g2)
  cases hw
theorem Oo(hX:bK X P)(hg:∀i j,g i=some j->m1[j]? = m[i]?)(hA:∀b,A b->B b){env:List (Nat×PE X.Γ)}{env':List (Nat×EV)}(he:jM X P A m h env env'):∀{r:List (Nat×PE X.Γ)},oM g env=some r->jM X P B m1 h r env':=by
 induction he with
 |nil=>intro r h;simp only[oM,a01]at h;subst h;exact .nil
 |cons h1 h2 ih=>
  rename_i k v x q q';intro r hr;simp only[oM]at hr;split at hr
  rotate_left
  .cases hr
  rename_i w r' e1 e2;cases hr;refine .cons ?_ (ih e2);cases v with
  |val v=>
   obtain⟨y,rfl,h3⟩:=fO h1;simp only[O5,a06]at e1;obtain⟨u,e3,rfl⟩:=e1;exact nI (DK hg hA hX h3 e3)
  |loc a b=>simp only[O5,a01]at e1;subst e1;rw[DF h1];exact⟨rfl,rfl⟩
  |undef=>simp only[O5,a01]at e1;subst e1;rw[IL h1];trivial
  |ent r j v=>
   obtain⟨c,y,rfl,h3,h4⟩:=LK h1;simp only[O5,a06]at e1;obtain⟨u,e3,rfl⟩:=e1;exact⟨DK hg hA hX h3 (w:=.map u) (by simp only[fJ,e3,a0U]),rfl,h4⟩
  |E8 r j=>
   obtain⟨c,rfl,h3⟩:=LM h1;simp only[O5,a06]at e1;obtain⟨u,e3,rfl⟩:=e1;exact⟨DK hg hA hX h3 (w:=.map u) (by simp only[fJ,e3,a0U]),rfl⟩
theorem DL(hX:bK X P)(hg:∀i j,g i=some j->m1[j]? = m[i]?)(hA:∀b,A b->B b){b b':PB X.Γ}{mb:MB}(hn:∀c,mb=.je c->c∉bC m->c∉bC m1)(hb:BR X P A m h b mb)(hr:yZ g b=some b'):BR X P B m1 h b' mb:=by
 cases b with
 |cells cs=>
  cases mb with
  |fV c=>
   simp only[yZ,a06]at hr;obtain⟨cs',h1,rfl⟩:=hr;obtain⟨xs,h2,h3⟩:=hb;exact⟨xs,h2,zi hX hg hA h3 h1⟩
  |_=>exact hb.elim
 |aC cs=>
  cases mb with
  |je c=>
   simp only[yZ,a06]at hr;obtain⟨cs',h1,rfl⟩:=hr;obtain⟨h0,xs,h2,h3⟩:=hb;exact⟨hn c rfl h0,xs,h2,zi hX hg hA h3 h1⟩
  |_=>exact hb.elim
 |list k ex t l=>
  cases mb with
  |dn y=>
   simp only[yZ,a01]at hr;subst hr;cases(hb:LR X P A m h k ex t l y)with
   |nil=>exact LR.nil
   |emp p0 p1 p2 p3 p4=>exact LR.emp (hA _ p0) p1 p2 p3 p4
   |some p1 p2 p3 p4 p5 p6 p7 p8 p9=>exact LR.some p1 p2 p3 p4 p5 p6 p7 p8 ((p9.mono hA).jc hX)
  |_=>exact hb.elim
 |map es=>
  cases mb with
  |fV c=>
   simp only[yZ,a01]at hr;subst hr;exact hb
  |_=>exact hb.elim
 |mM cs=>
  cases mb with
  |fV c=>
   simp only[yZ,a01]at hr;subst hr;exact hb
  |_=>exact hb.elim
 |iE es=>
  cases mb with
  |je c=>
   simp only[yZ,a01]at hr;subst hr;exact⟨hn c rfl hb.1,hb.2⟩
  |_=>exact hb.elim
 |cZ r n seen=>
  cases mb with
  |fV b=>
   simp only[yZ,a06]at hr;obtain⟨j,h1,rfl⟩:=hr;obtain⟨c,h2,h3,h4⟩:=hb;exact⟨c,h2,by rw[hg _ _ h1];exact h3,fun c' hc=>h4 c' (by rw[<-hg _ _ h1];exact hc)⟩
  |_=>exact hb.elim
 |mark=>
  cases mb with
  |fV c=>simp only[yZ,a01]at hr;subst hr;exact hb
  |_=>exact hb.elim
 |loop rd f nt env ps a c jD=>
  cases mb with
  |fV cb=>
   simp only[yZ,a06]at hr;obtain⟨atz,h1,rfl⟩:=hr;obtain⟨xs,h2,h3⟩:=hb;exact⟨xs,h2,Oo hX hg hA h3 h1⟩
  |_=>exact hb.elim
 |gone=>
  cases mb with
  |gone=>simp only[yZ,a01]at hr;subst hr;trivial
  |_=>exact hb.elim
theorem sU:∀{bs r:List (PB X.Γ)},nC g bs=some r->r.length=bs.length∧∀{i:Nat} {b':PB X.Γ},r[i]? = some b'->∃b,bs[i]? = some b∧yZ g b=some b'
 | [],r,h=>by simp only[nC,a01]at h;subst h;exact⟨rfl,fun{i b'} hi=>by simp at hi⟩
 |b::bs,r,h=>by
  simp only[nC]at h;split at h
  .rename_i c cs h1 h2;cases h;obtain⟨e1,e2⟩:=sU h2;refine⟨by simp[e1],fun{i b'} hi=>?_⟩;cases i with
   |zero=>simp only[a2C,a01]at hi;subst hi;exact⟨b,rfl,h1⟩
   |succ i=>obtain⟨d,q1,q2⟩:=e2 (i:=i) (by simpa using hi);exact⟨d,by simpa using q1,q2⟩
  cases h
theorem Oq:∀{bs r:List (List (PV X.Γ))},VZ g bs=some r->r.length=bs.length∧∀{i:Nat} {b':List (PV X.Γ)},r[i]? = some b'->∃b,bs[i]? = some b∧fJ.oN g b=some b'
 | [],r,h=>by simp only[VZ,a01]at h;subst h;exact⟨rfl,fun{i b'} hi=>by simp at hi⟩
 |b::bs,r,h=>by
  simp only[VZ]at h;split at h
  .rename_i c cs h1 h2;cases h;obtain⟨e1,e2⟩:=Oq h2;refine⟨by simp[e1],fun{i b'} hi=>?_⟩;cases i with
   |zero=>simp only[a2C,a01]at hi;subst hi;exact⟨b,rfl,h1⟩
   |succ i=>obtain⟨d,q1,q2⟩:=e2 (i:=i) (by simpa using hi);exact⟨d,by simpa using q1,q2⟩
  cases h
theorem DN:∀{ks:List Nat} {H r:List (PB X.Γ)},CG H ks=some r->r.length=ks.length∧∀{i k:Nat},ks[i]? = some k->∃b,H[k]? = some b∧r[i]? = some b
 | [],H,r,h=>by simp only[CG,a01]at h;subst h;exact⟨rfl,fun{i k} hi=>by simp at hi⟩
 |k::ks,H,r,h=>by
  simp only[CG]at h;split at h
  .rename_i b rs h1 h2;cases h;obtain⟨e1,e2⟩:=DN h2;refine⟨by simp[e1],fun{i j} hi=>?_⟩;cases i with
   |zero=>simp only[a2C,a01]at hi;subst hi;exact⟨b,h1,rfl⟩
   |succ i=>obtain⟨d,q1,q2⟩:=e2 (i:=i) (k:=j) (by simpa using hi);exact⟨d,q1,by simpa using q2⟩
  cases h
end
theorem sV{α:Type}:∀{ks:List Nat} {bs l:List α},(putAt ks bs l).length=l.length
 | [],_,_=>rfl
 |_::_,[],_=>rfl
 |k::ks,b::bs,l=>by simp only[putAt];rw[sV,a4e]
theorem Ot{α:Type}:∀{ks:List Nat} {bs l:List α} {p i:Nat},ks.Nodup->(∀k∈ks,k<l.length)->ks.length<=bs.length->ks[p]? = some i->(putAt ks bs l)[i]? = bs[p]?
 | [],_,_,p,i,_,_,_,h=>by simp at h
 |a::ks,[],_,_,_,_,_,hl,_=>by simp at hl
 |a::ks,b::bs,l,0,i,hn,hk,hl,h=>by
  simp only[a2C,a01]at h;subst h;have hn:=a3Z.1 hn;simp only[putAt];have:∀{ks:List Nat} {bs l:List α} {i:Nat},i∉ks->(putAt ks bs l)[i]? = l[i]?:=by
   intro ks
   induction ks with
   |nil=>intro bs l i _;rfl
   |cons c ks ih=>
    intro bs l i hi;simp only[a2e,ada]at hi;cases bs with
    |nil=>rfl
    |cons b bs=>simp only[putAt];rw[ih hi.2,a1g (fun e=>hi.1 e.symm)]
  rw[this hn.1,a1V (hk a (a2T ..))];rfl
 |a::ks,b::bs,l,p+1,i,hn,hk,hl,h=>by
  simp only[a9g]at h;simp only[putAt];rw[Ot (a3Z.1 hn).2 (fun k nU=>by rw[a4e];exact hk k (a2Y _ nU)) (by simpa using hl) h];rfl
theorem IU{α:Type}:∀{ks:List Nat} {bs l:List α} {i:Nat},i∉ks->(putAt ks bs l)[i]? = l[i]?
 | [],_,_,_,_=>rfl
 |a::ks,[],_,_,_=>rfl
 |a::ks,b::bs,l,i,hi=>by
  simp only[a2e,ada]at hi;simp only[putAt];rw[IU hi.2,a1g (fun e=>hi.1 e.symm)]
def WB(X:kH)(P:Program)(call:bf)(fv:PV X.Γ)(xs:List (PV X.Γ))(H:List (PB X.Γ))(v:PV X.Γ)(H1:List (PB X.Γ))(W:Nat->Prop):Prop:=
 ∀(A:Nat->Prop) (m:List MB) (h:List HB) (tf:TV) (rU:List TV),HR X P A m H h->VR X P (AA A m) m h fv tf->bV X P (AA A m) m h xs rU ->
  ∃w h1 ws m1,call tf rU h=some (w,h1,ws)∧HR X P A m1 H1 h1∧VR X P (AA A m1) m1 h1 v w∧Fr m h m1 h1∧Up m m1∧∀b∈ws,∃k,W k∧GK m k b
theorem aX.w{call:bf}{fv v:PV X.Γ}{xs:List (PV X.Γ)}{H H1:List (PB X.Γ)}(h:aX X P call fv xs H v H1):WB X P call fv xs H v H1 fun _=>True:=fun A m h0 tf rU a b c=>by
 obtain⟨w,h1,ws,m1,c1,c2,c3,c4,c5,c6⟩:=h A m h0 tf rU a b c;exact⟨w,h1,ws,m1,c1,c2,c3,c4,c5,fun b hb=>by obtain⟨i,hi⟩:=jZ (c6 b hb);exact⟨i,trivial,hi⟩⟩
theorem LU:∀{H:List (PB X.Γ)} {i:Nat} {b:PB X.Γ},II H=true->H[i]? = some b->II [b]=true
 | [],_,_,_,h=>by simp at h
 |a::H,0,b,hn,h=>by
  simp only[a2C,a01]at h;subst h;cases a<;>simp_all [II]
 |a::H,i+1,b,hn,h=>by
  have Dv:II H=true:=by cases a<;>simp_all [II]
  exact LU Dv (by simpa using h)
def SwM(m m':List MB):Prop:=∀i:Nat,m'[i]? = m[i]?∨(∃c,m[i]? = some (.fV c)∧m'[i]? = some (.je c))∨∃c,m[i]? = some (.je c)∧m'[i]? = some (.fV c)
section
variable {m':List MB}
theorem VR.sw(hm:SwM m m')(hA:∀b,A b->B b){v:PV X.Γ}{x:TV}(hv:VR X P A m h v x):VR X P B m' h v x:=by
 have hl:∀{i:Nat} {x:TV},m[i]? = some (.dn x)->m'[i]? = some (.dn x):=fun{i x} e=>by
  rcases hm i with g|⟨c,g,_⟩|⟨c,g,_⟩
  .rw[g,e]
  .rw[e]at g;cases g
  rw[e]at g;cases g
 have hb:∀{i c:Nat},m[i]? = some (.fV c)->m'[i]? = some (.fV c)∨m'[i]? = some (.je c):=fun{i c} e=>by
  rcases hm i with g|⟨c',g,g2⟩|⟨c',g,_⟩
  .exact .inl (by rw[g,e])
  .rw[e]at g;cases g;exact .inr g2
  rw[e]at g;cases g
 induction hv with
 |bool=>exact .bool _
 |lit=>exact .lit _
 |int=>exact .int _ _
 |str=>exact .str _
 |nil=>exact .nil _
 |ptr e=>rcases hb e with e|e;exact .ptr e;exact .gone rfl (.ofR e rfl) rfl
 |slc e=>rcases hb e with e|e;exact .slc e;exact .gone rfl (.ofR e rfl) rfl
 |own e o=>exact .own (hl e) o
 |win e q q' q2=>exact .win (hl e) q q' q2
 |Ae e=>exact .Ae (hl e)
 |map e=>rcases hb e with e|e;exact .map e;exact .gone rfl (.ofR e rfl) rfl
 |iter e=>rcases hb e with e|e;exact .iter e;exact .gone rfl (.ofR e rfl) rfl
 |fn h1 _ h3 _ i2 i4=>exact .fn h1 i2 h3 i4
 |kF e=>rcases hb e with e|e;exact .kF e;exact .gone rfl (.ofR e rfl) rfl
 |agg h1 _ i2=>exact .agg h1 i2
 |dI h1 _ i2=>exact .dI h1 i2
 |o8=>exact .o8
 |dn a c c2 s z o k f e _ ih=>exact .dn (hA _ a) c c2 s z o k f e ih
 |el a c l o e q _ ih=>exact .el (hA _ a) c l o e q ih
 |row e j q=>exact .row (hl e) j q
 | @gone v i x hi e o=>
  generalize hq:m[i]? = q at e;cases e with
  |g=>
   rcases hm i with g|⟨c,g,_⟩|⟨c,g,_⟩
   .exact .gone hi (.of (by rw[g,hq])) o
   .rw[hq]at g;cases g
   rw[hq]at g;cases g
  |r c hv=>
   rcases hm i with g|⟨c',g,_⟩|⟨c',g,g2⟩
   .exact .gone hi (.ofR (by rw[g,hq]) hv) o
   .rw[hq]at g;cases g
   rw[hq]at g;cases g;cases v<;>simp only[roV,a01]at hv<;>first|cases hv;done|skip
   all_goals (subst hv;simp only[bn,a01]at hi;subst hi)
   .exact .ptr g2
   .exact .slc g2
   .exact .map g2
   .exact .kF g2
   exact .iter g2
theorem bV.sw(hm:SwM m m')(hA:∀b,A b->B b){v:List (PV X.Γ)}{x:List TV}(hv:bV X P A m h v x):bV X P B m' h v x:=
 ⟨hv.1,fun i a b ha hb=>(hv.2 i a b ha hb).sw hm hA⟩
theorem jM.sw(hm:SwM m m')(hA:∀b,A b->B b){v:List (Nat×PE X.Γ)}{x:List (Nat×EV)}(hv:jM X P A m h v x):jM X P B m' h v x:=by
 induction hv with
 |nil=>exact .nil
 |cons h1 _ ih=>
  refine .cons ?_ ih;rename_i v x _ _ _;cases v<;>cases x<;>first|exact VR.sw hm hA h1|exact h1|exact⟨VR.sw hm hA h1.1,h1.2⟩
theorem BR.sw(hm:SwM m m')(hA:∀b,A b->B b){b:PB X.Γ}{mb:MB}(hn:∀c,mb=.je c->c∉bC m->c∉bC m')(hb:BR X P A m h b mb):BR X P B m' h b mb:=by
 cases b with
 |cells cs=>cases mb with
  |fV b=>obtain⟨cs',h1,h2⟩:=hb;exact⟨cs',h1,h2.sw hm hA⟩
  |_=>exact hb.elim
 |aC cs=>cases mb with
  |je b=>obtain⟨h0,cs',h1,h2⟩:=hb;exact⟨hn b rfl h0,cs',h1,h2.sw hm hA⟩
  |_=>exact hb.elim
 |list k ex t l=>cases mb with
  |dn x=>
   cases(hb:LR X P A m h k ex t l x)with
   |nil=>exact LR.nil
   |emp h0 h1 h2 h3 h4=>exact LR.emp (hA _ h0) h1 h2 h3 h4
   |some h1 h2 h3 h4 h5 h6 h7 h8 h9=>exact LR.some h1 h2 h3 h4 h5 h6 h7 h8 ⟨h9.1,h9.2.1,fun j a i c v a1 a2 a3=>(h9.2.2 j a i c v a1 a2 a3).sw hm hA⟩
  |_=>exact hb.elim
 |map es=>cases mb with
  |fV b=>exact hb
  |_=>exact hb.elim
 |mM cs=>cases mb with
  |fV b=>exact hb
  |_=>exact hb.elim
 |iE es=>cases mb with
  |je b=>exact⟨hn b rfl hb.1,hb.2⟩
  |_=>exact hb.elim
 |cZ r n seen=>cases mb with
  |fV b=>
   obtain⟨c,h1,h2,h3⟩:=hb;refine⟨c,h1,?_,fun c' hc=>?_⟩
   .rcases hm r with g|⟨c',g,g2⟩|⟨c',g,g2⟩
    .rw[g];exact h2
    .rw[g2];rfl
    .rw[g2];rfl
   .rcases hm r with g|⟨c2,g,g2⟩|⟨c2,g,g2⟩
    .exact h3 c' (by rw[<-g];exact hc)
    .rw[g2]at hc;simp at hc;subst hc;exact h3 c2 (.inl g)
    .rw[g2]at hc;simp at hc;subst hc;exact h3 c2 (.inr g)
  |_=>exact hb.elim
 |mark=>cases mb with
  |fV b=>exact hb
  |_=>exact hb.elim
 |loop rd f nt env ps a c jD=>cases mb with
  |fV b=>obtain⟨e',h1,h2⟩:=hb;exact⟨e',h1,h2.sw hm hA⟩
  |_=>exact hb.elim
 |gone=>cases mb with
  |gone=>trivial
  |_=>exact hb.elim
end
theorem ae5{call:bf}{fv v:PV X.Γ}{xs:List (PV X.Γ)}{H H1:List (PB X.Γ)}{W:Nat->Prop}{r:Nat}{cs Rq:List (PV X.Γ)}(h0:H[r]? = some (.cells cs))(h9:H1[r]? = some (.cells Rq))(hro:II (H1.drop H.length)=true)
  (hs:WB X P call fv xs (H.set r (.aC cs)) v (H1.set r (.aC Rq)) W):WB X P call fv xs H v H1 fun k=>W k∧k≠r:=fun A m h tf rU hr hf hx=>by
 obtain⟨mb0,q1,q2⟩:=hr.at_ r _ h0;have hrl:r<H.length:=(a02.1 h0).1;have hrm:r<m.length:=by rw[hr.len];exact hrl
 cases mb0 with
 |fV c=>
  obtain⟨cs',q3,q4⟩:=q2;have Fv:c∈bC m:=bg q1 rfl;have hch:=(a02.1 q3).1;have hm:SwM m (m.set r (.je c)):=fun i=>by
   by_cases e:i=r
   .subst e;exact .inr (.inl ⟨c,q1,by rw[a1V hrm]⟩)
   .exact .inl (by rw[a1g (fun h=>e h.symm)])
  have old:∀{i b:Nat},GK (m.set r (.je c)) i b->i≠r∧GK m i b:=fun{i b} ho=>by
   obtain⟨mb,a1,a2⟩:=ho;by_cases e:i=r
   .subst e;rw[a1V hrm]at a1;cases a1;cases a2
   .rw[a1g (fun h=>e h.symm)]at a1;exact⟨e,mb,a1,a2⟩
  have nZ:∀b,b∈bC (m.set r (.je c))->b∈bC m∧b≠c:=fun b hb=>by
   obtain⟨i,hi⟩:=jZ hb;obtain⟨e,mb,a1,a2⟩:=old hi;refine⟨bg a1 a2,fun e2=>?_⟩;subst e2;exact e (iU hr.nodup a1 q1 a2 rfl)
  have hA:∀b,AA A m b->AA (fun b=>A b∧b≠c) (m.set r (.je c)) b:=fun b hb=>⟨⟨hb.1,fun e=>hb.2 (e▸Fv)⟩,fun h=>hb.2 (nZ b h).1⟩;have wE:HR X P (fun b=>A b∧b≠c) (m.set r (.je c)) (H.set r (.aC cs)) h:=by
   refine⟨by simp[hr.len],fun i b hi=>?_,jo fun i j d a1 a2=>?_,fun b hb=>⟨hr.up b hb,by omega⟩,fun b hb=>⟨hr.CP b (nZ b hb).1,(nZ b hb).2⟩⟩
   .by_cases e:i=r
    .subst e;rw[a1V hrl]at hi;cases hi;exact⟨.je c,by rw[a1V hrm],fun h=>(nZ c h).2 rfl,cs',q3,q4.sw hm hA⟩
    .rw[a1g (fun h=>e h.symm)]at hi;obtain⟨mb,g1,g2⟩:=hr.at_ i b hi;exact⟨mb,by rw[a1g (fun h=>e h.symm)];exact g1,g2.sw hm hA fun d _ hn h=>hn (nZ d h).1⟩
   .obtain⟨_,ma,u1,u2⟩:=old a1;obtain⟨_,mc,v1,v2⟩:=old a2;exact iU hr.nodup u1 v1 u2 v2
  obtain⟨w,h1,ws,m1,c1,c2,c3,c4,c5,c6⟩:=hs (fun b=>A b∧b≠c) (m.set r (.je c)) h tf rU wE (hf.sw hm hA) (hx.sw hm hA)
  .have ae6:r<H1.length:=(a02.1 h9).1;obtain⟨mb1,e1,e2⟩:=c2.at_ r (.aC Rq) (by rw[a1V ae6]);have e3:=c5 r (.je c) (by rw[a1V hrm]);have e4:mb1=.je c:=by
    rcases e3 with e3|e3<;>rw[e1]at e3<;>cases e3
    .rfl
    .exact e2.elim
   subst e4;obtain⟨p0,Wp,p1,p2⟩:=e2;have IV:r<m1.length:=(a02.1 e1).1;have hm1:SwM m1 (m1.set r (.fV c)):=fun i=>by
    by_cases e:i=r
    .subst e;exact .inr (.inr ⟨c,e1,by rw[a1V IV]⟩)
    .exact .inl (by rw[a1g (fun h=>e h.symm)])
   have at1:∀{i:Nat} {mb:MB},i≠r->(m1.set r (.fV c))[i]? = some mb->m1[i]? = some mb:=fun{i mb} e h=>by rw[a1g (fun h=>e h.symm)]at h;exact h
   have BU:∀b,b∈bC (m1.set r (.fV c))->b=c∨b∈bC m1:=fun b hb=>by
    obtain⟨i,mb,a1,a2⟩:=jZ hb;by_cases e:i=r
    .subst e;rw[a1V IV]at a1;cases a1;cases a2;exact .inl rfl
    .exact .inr (bg (at1 e a1) a2)
   have hA1:∀b,AA (fun b=>A b∧b≠c) m1 b->AA A (m1.set r (.fV c)) b:=fun b hb=>⟨hb.1.1,fun h=>by
    rcases BU b h with e|e
    .exact hb.1.2 e
    .exact hb.2 e⟩
   refine⟨w,h1,ws,m1.set r (.fV c),c1,⟨by rw[a4e,c2.len,a4e],fun i b hi=>?_,jo fun i j d a1 a2=>?_,fun b hb=>(c2.up b hb).1,fun b hb=>?_⟩,c3.sw hm1 hA1,⟨c4.len,fun b hb hn=>c4.same b hb fun h=>hn (nZ b h).1,fun b hb=>?_,c4.grow⟩,fun i mb hi=>?_,fun b hb=>?_⟩
   .by_cases e:i=r
    .subst e;rw[h9]at hi;cases hi;exact⟨.fV c,by rw[a1V IV],Wp,p1,p2.sw hm1 hA1⟩
    .obtain⟨mb,g1,g2⟩:=c2.at_ i b (by rw[a1g (fun h=>e h.symm)];exact hi);refine⟨mb,by rw[a1g (fun h=>e h.symm)];exact g1,g2.sw hm1 hA1 fun d hd hn hd2=>?_⟩;subst hd;rcases BU d hd2 with e5|e5
     .subst e5;rcases a3V i m.length with aQ|En
      .have KE:(m.set r (.je d))[i]? = m[i]?:=(by rw[a1g (fun h=>e h.symm)]);have hmi:m[i]? = some (.je d):=by
        rcases c5 i m[i] (by rw[KE];exact a0b aQ)with e6|e6<;>rw[g1]at e6<;>simp only[a01]at e6
        .rw[a0b aQ,<-e6]
        .cases e6
       have hlH:i<H.length:=by rw[<-hr.len];exact aQ
       obtain⟨mb9,e7,e8⟩:=hr.at_ i _ (a0b hlH);rw[hmi]at e7;cases e7;generalize H[i]=b9 at e8;cases b9<;>first|exact e8.elim|exact e8.1 Fv
      .have e6:(H1.drop H.length)[i-H.length]? = some b:=by rw[a3X,<-hi];congr 1;rw[hr.len]at En;omega
       have e7:=LU hro e6;cases b<;>first|exact g2.elim|cases e7
     .exact hn e5
   .obtain⟨ma,u1,u2⟩:=a1;obtain⟨mc,v1,v2⟩:=a2;by_cases e:i=r<;>by_cases e':j=r
    .rw[e,e']
    .subst e;rw[a1V IV]at u1;cases u1;cases u2;exact absurd (bg (at1 e' v1) v2) p0
    .subst e';rw[a1V IV]at v1;cases v1;cases v2;exact absurd (bg (at1 e u1) u2) p0
    .exact iU c2.nodup (at1 e u1) (at1 e' v1) u2 v2
   .rcases BU b hb with e|e
    .subst e;exact hr.CP _ Fv
    .exact(c2.CP b e).1
   .rcases BU b hb with e|e
    .subst e;exact .inl Fv
    .rcases c4.new b e with g|g
     .exact .inl (nZ b g).1
     .exact .inr g
   .by_cases e:i=r
    .subst e;rw[q1]at hi;cases hi;exact .inl (by rw[a1V IV])
    .rw[a1g (fun h=>e h.symm)];exact c5 i mb (by rw[a1g (fun h=>e h.symm)];exact hi)
   .obtain⟨k,k1,k2⟩:=c6 b hb;obtain⟨k3,k4⟩:=old k2;exact⟨k,⟨k1,k3⟩,k4⟩
 |_=>exact q2.elim
theorem a9w{call:bf}{fv v:PV X.Γ}{xs:List (PV X.Γ)}{H H1:List (PB X.Γ)}{W:Nat->Prop}{r:Nat}{es es1:List (PV X.Γ×PV X.Γ)}(h0:H[r]? = some (.map es))(h9:H1[r]? = some (.map es1))(hro:II (H1.drop H.length)=true)
  (hs:WB X P call fv xs (H.set r (.iE es)) v (H1.set r (.iE es1)) W):WB X P call fv xs H v H1 fun k=>W k∧k≠r:=fun A m h tf rU hr hf hx=>by
 obtain⟨mb0,q1,q2⟩:=hr.at_ r _ h0;have hrl:r<H.length:=(a02.1 h0).1;have hrm:r<m.length:=by rw[hr.len];exact hrl
 cases mb0 with
 |fV c=>
  obtain⟨cs',q3,q4⟩:=q2;have Fv:c∈bC m:=bg q1 rfl;have hch:=(a02.1 q3).1;have hm:SwM m (m.set r (.je c)):=fun i=>by
   by_cases e:i=r
   .subst e;exact .inr (.inl ⟨c,q1,by rw[a1V hrm]⟩)
   .exact .inl (by rw[a1g (fun h=>e h.symm)])
  have old:∀{i b:Nat},GK (m.set r (.je c)) i b->i≠r∧GK m i b:=fun{i b} ho=>by
   obtain⟨mb,a1,a2⟩:=ho;by_cases e:i=r
   .subst e;rw[a1V hrm]at a1;cases a1;cases a2
   .rw[a1g (fun h=>e h.symm)]at a1;exact⟨e,mb,a1,a2⟩
  have nZ:∀b,b∈bC (m.set r (.je c))->b∈bC m∧b≠c:=fun b hb=>by
   obtain⟨i,hi⟩:=jZ hb;obtain⟨e,mb,a1,a2⟩:=old hi;refine⟨bg a1 a2,fun e2=>?_⟩;subst e2;exact e (iU hr.nodup a1 q1 a2 rfl)
  have hA:∀b,AA A m b->AA (fun b=>A b∧b≠c) (m.set r (.je c)) b:=fun b hb=>⟨⟨hb.1,fun e=>hb.2 (e▸Fv)⟩,fun h=>hb.2 (nZ b h).1⟩;have wE:HR X P (fun b=>A b∧b≠c) (m.set r (.je c)) (H.set r (.iE es)) h:=by
   refine⟨by simp[hr.len],fun i b hi=>?_,jo fun i j d a1 a2=>?_,fun b hb=>⟨hr.up b hb,by omega⟩,fun b hb=>⟨hr.CP b (nZ b hb).1,(nZ b hb).2⟩⟩
   .by_cases e:i=r
    .subst e;rw[a1V hrl]at hi;cases hi;exact⟨.je c,by rw[a1V hrm],fun h=>(nZ c h).2 rfl,cs',q3,q4⟩
    .rw[a1g (fun h=>e h.symm)]at hi;obtain⟨mb,g1,g2⟩:=hr.at_ i b hi;exact⟨mb,by rw[a1g (fun h=>e h.symm)];exact g1,g2.sw hm hA fun d _ hn h=>hn (nZ d h).1⟩
   .obtain⟨_,ma,u1,u2⟩:=old a1;obtain⟨_,mc,v1,v2⟩:=old a2;exact iU hr.nodup u1 v1 u2 v2
  obtain⟨w,h1,ws,m1,c1,c2,c3,c4,c5,c6⟩:=hs (fun b=>A b∧b≠c) (m.set r (.je c)) h tf rU wE (hf.sw hm hA) (hx.sw hm hA)
  .have ae6:r<H1.length:=(a02.1 h9).1;obtain⟨mb1,e1,e2⟩:=c2.at_ r (.iE es1) (by rw[a1V ae6]);have e3:=c5 r (.je c) (by rw[a1V hrm]);have e4:mb1=.je c:=by
    rcases e3 with e3|e3<;>rw[e1]at e3<;>cases e3
    .rfl
    .exact e2.elim
   subst e4;obtain⟨p0,Wp,p1,p2⟩:=e2;have IV:r<m1.length:=(a02.1 e1).1;have hm1:SwM m1 (m1.set r (.fV c)):=fun i=>by
    by_cases e:i=r
    .subst e;exact .inr (.inr ⟨c,e1,by rw[a1V IV]⟩)
    .exact .inl (by rw[a1g (fun h=>e h.symm)])
   have at1:∀{i:Nat} {mb:MB},i≠r->(m1.set r (.fV c))[i]? = some mb->m1[i]? = some mb:=fun{i mb} e h=>by rw[a1g (fun h=>e h.symm)]at h;exact h
   have BU:∀b,b∈bC (m1.set r (.fV c))->b=c∨b∈bC m1:=fun b hb=>by
    obtain⟨i,mb,a1,a2⟩:=jZ hb;by_cases e:i=r
    .subst e;rw[a1V IV]at a1;cases a1;cases a2;exact .inl rfl
    .exact .inr (bg (at1 e a1) a2)
   have hA1:∀b,AA (fun b=>A b∧b≠c) m1 b->AA A (m1.set r (.fV c)) b:=fun b hb=>⟨hb.1.1,fun h=>by
    rcases BU b h with e|e
    .exact hb.1.2 e
    .exact hb.2 e⟩
   refine⟨w,h1,ws,m1.set r (.fV c),c1,⟨by rw[a4e,c2.len,a4e],fun i b hi=>?_,jo fun i j d a1 a2=>?_,fun b hb=>(c2.up b hb).1,fun b hb=>?_⟩,c3.sw hm1 hA1,⟨c4.len,fun b hb hn=>c4.same b hb fun h=>hn (nZ b h).1,fun b hb=>?_,c4.grow⟩,fun i mb hi=>?_,fun b hb=>?_⟩
   .by_cases e:i=r
    .subst e;rw[h9]at hi;cases hi;exact⟨.fV c,by rw[a1V IV],Wp,p1,p2⟩
    .obtain⟨mb,g1,g2⟩:=c2.at_ i b (by rw[a1g (fun h=>e h.symm)];exact hi);refine⟨mb,by rw[a1g (fun h=>e h.symm)];exact g1,g2.sw hm1 hA1 fun d hd hn hd2=>?_⟩;subst hd;rcases BU d hd2 with e5|e5
     .subst e5;rcases a3V i m.length with aQ|En
      .have KE:(m.set r (.je d))[i]? = m[i]?:=(by rw[a1g (fun h=>e h.symm)]);have hmi:m[i]? = some (.je d):=by
        rcases c5 i m[i] (by rw[KE];exact a0b aQ)with e6|e6<;>rw[g1]at e6<;>simp only[a01]at e6
        .rw[a0b aQ,<-e6]
        .cases e6
       have hlH:i<H.length:=by rw[<-hr.len];exact aQ
       obtain⟨mb9,e7,e8⟩:=hr.at_ i _ (a0b hlH);rw[hmi]at e7;cases e7;generalize H[i]=b9 at e8;cases b9<;>first|exact e8.elim|exact e8.1 Fv
      .have e6:(H1.drop H.length)[i-H.length]? = some b:=by rw[a3X,<-hi];congr 1;rw[hr.len]at En;omega
       have e7:=LU hro e6;cases b<;>first|exact g2.elim|cases e7
     .exact hn e5
   .obtain⟨ma,u1,u2⟩:=a1;obtain⟨mc,v1,v2⟩:=a2;by_cases e:i=r<;>by_cases e':j=r
    .rw[e,e']
    .subst e;rw[a1V IV]at u1;cases u1;cases u2;exact absurd (bg (at1 e' v1) v2) p0
    .subst e';rw[a1V IV]at v1;cases v1;cases v2;exact absurd (bg (at1 e u1) u2) p0
    .exact iU c2.nodup (at1 e u1) (at1 e' v1) u2 v2
   .rcases BU b hb with e|e
    .subst e;exact hr.CP _ Fv
    .exact(c2.CP b e).1
   .rcases BU b hb with e|e
    .subst e;exact .inl Fv
    .rcases c4.new b e with g|g
     .exact .inl (nZ b g).1
     .exact .inr g
   .by_cases e:i=r
    .subst e;rw[q1]at hi;cases hi;exact .inl (by rw[a1V IV])
    .rw[a1g (fun h=>e h.symm)];exact c5 i mb (by rw[a1g (fun h=>e h.symm)];exact hi)
   .obtain⟨k,k1,k2⟩:=c6 b hb;obtain⟨k3,k4⟩:=old k2;exact⟨k,⟨k1,k3⟩,k4⟩
 |_=>exact q2.elim
theorem Zg{call:bf}{fv v:PV X.Γ}{xs:List (PV X.Γ)}{W:Nat->Prop}:∀{rs:List Nat} {H H1 Hr PO:List (PB X.Γ)},roB rs H H1=some (Hr,PO)->II (H1.drop H.length)=true->WB X P call fv xs Hr v PO W->WB X P call fv xs H v H1 fun k=>W k∧k∉rs
 | [],H,H1,Hr,PO,h1,hn,hs=>by
  simp only[roB,a01,a0j]at h1;obtain⟨rfl,rfl⟩:=h1;intro A m h tf rU a b c;obtain⟨w,h1,ws,m1,c1,c2,c3,c4,c5,c6⟩:=hs A m h tf rU a b c;exact⟨w,h1,ws,m1,c1,c2,c3,c4,c5,fun b hb=>by obtain⟨k,k1,k2⟩:=c6 b hb;exact⟨k,⟨k1,by simp⟩,k2⟩⟩
 |r::rs,H,H1,Hr,PO,h1,hn,hs=>by
  simp only[roB]at h1;split at h1
  .rename_i cs Rq e1 e2;have aQ:r<H.length:=(a02.1 e1).1;have:=ae5 e1 e2 hn (Zg h1 (by rw[a4e,List.drop_set_of_lt aQ];exact hn) hs);intro A m h tf rU a b c;obtain⟨w,h1,ws,m1,c1,c2,c3,c4,c5,c6⟩:=this A m h tf rU a b c;exact⟨w,h1,ws,m1,c1,c2,c3,c4,c5,fun b hb=>by obtain⟨k,⟨⟨k1,k3⟩,k4⟩,k2⟩:=c6 b hb;exact⟨k,⟨k1,by simp[k3,k4]⟩,k2⟩⟩
  .rename_i cs Rq e1 e2;have aQ:r<H.length:=(a02.1 e1).1;have:=a9w e1 e2 hn (Zg h1 (by rw[a4e,List.drop_set_of_lt aQ];exact hn) hs);intro A m h tf rU a b c;obtain⟨w,h1,ws,m1,c1,c2,c3,c4,c5,c6⟩:=this A m h tf rU a b c;exact⟨w,h1,ws,m1,c1,c2,c3,c4,c5,fun b hb=>by obtain⟨k,⟨⟨k1,k3⟩,k4⟩,k2⟩:=c6 b hb;exact⟨k,⟨k1,by simp[k3,k4]⟩,k2⟩⟩
  cases h1
theorem WC{α:Type}{rs:List Nat}:∀{ks:List α} {i p:Nat} {k:α},ks[p]? = some k->i+p∉rs->k∈a2z rs i ks
 | [],_,_,_,h,_=>by simp at h
 |a::ks,i,0,k,h,hn=>by
  simp only[a2C,a01]at h;subst h;simp only[a2z];rw[a0g (by simpa using hn)];exact a2T
 |a::ks,i,p+1,k,h,hn=>by
  have:=WC (ks:=ks) (i:=i+1) (p:=p) (k:=k) (by simpa using h) (by rwa [Nat.add_right_comm,a9v] );simp only[a2z];split
  .exact this
  exact a2Y _ this
theorem IW(hX:bK X P){call:bf}{ks:List Nat}{H' Hp H H1 PO:List (PB X.Γ)}{fv fv' v v':PV X.Γ}{xs xs':List (PV X.Γ)}{W:Nat->Prop}(hs:WB X P call fv xs H v H1 W)
  (jm:ks.Nodup) (hp:CG H' ks=some Hp) (hH:nC (wH ks) Hp=some H) (hf:fJ (wH ks) fv'=some fv) (hx:fJ.oN (wH ks) xs'=some xs)
  (hv:fJ (bk ks H'.length) v=some v') (hH1:nC (bk ks H'.length) H1=some PO) (hro:II (H1.drop ks.length)=true) :
  ∀(A:Nat->Prop) (m':List MB) (h:List HB) (tf:TV) (rU:List TV),HR X P A m' H' h->VR X P (AA A m') m' h fv' tf->bV X P (AA A m') m' h xs' rU ->
  ∃w h1 ws m1,call tf rU h=some (w,h1,ws)∧HR X P A m1 (putAt ks PO H'++PO.drop ks.length) h1∧VR X P (AA A m1) m1 h1 v' w∧Fr m' h m1 h1∧Up m' m1∧∀b∈ws,∃p k,ks[p]? = some k∧W p∧GK m' k b:=by
 intro A m' h tf rU hr hf' ET;have hpg:=DN hp;have hHg:=sU hH;have hkH:∀{p k:Nat},ks[p]? = some k->k<m'.length:=fun{p k} hk=>by
  obtain⟨b,q1,_⟩:=hpg.2 hk;rw[hr.len];exact(a02.1 q1).1
 have hkm:∀k∈ks,k<m'.length:=fun k hk=>by
  obtain⟨i,hi⟩:=a8f hk;exact hkH hi
 let m:List MB:=ks.map fun k=>m'.getD k .gone
 have hm:∀{p k:Nat},ks[p]? = some k->m[p]? = m'[k]?:=fun{p k} hk=>by
  show(ks.map _)[p]? = _;rw[a4d,hk];have:=hkH hk;simp[a2I,this]
 have a5K:m.length=ks.length:=a4a ..;have Rz:∀{p:Nat} {mb:MB},m[p]? = some mb->∃k,ks[p]? = some k∧m'[k]? = some mb:=fun{p mb} hpm=>by
  have:p<ks.length:=by rw[<-a5K];exact(a02.1 hpm).1
  have hk:=a0b this;exact⟨_,hk,by rw[<-hm hk];exact hpm⟩
 have nZ:∀b,b∈bC m->b∈bC m':=fun b hb=>by
  obtain⟨j,mb,q1,q2⟩:=jZ hb;obtain⟨k,_,q3⟩:=Rz q1;exact bg q3 q2
 have ae7:∀{i:Nat} {mb:MB} {b:Nat},i∉ks->m'[i]? = some mb->mb.own=some b->b∉bC m:=fun{i mb b} hi h1 h2 hb=>by
  obtain⟨j,mc,q1,q2⟩:=jZ hb;obtain⟨k,q3,q4⟩:=Rz q1;have:=iU hr.nodup h1 q4 h2 q2;subst this;exact hi (a4f q3)
 let A2:Nat->Prop:=fun b=>A b∧(b∈bC m'->b∈bC m)
 have hA:∀b,AA A m' b->AA A2 m b:=fun b hb=>⟨⟨hb.1,fun h9=>absurd h9 hb.2⟩,fun h9=>hb.2 (nZ b h9)⟩;have hg:∀i j,wH ks i=some j->m[j]? = m'[i]?:=fun i j zX=>hm (Om zX);have wE:HR X P A2 m H h:=by
  refine⟨by rw[a5K,hHg.1,hpg.1],fun j b hj=>?_,jo fun i j c q1 q2=>?_,fun b hb=>⟨hr.up b hb,fun h9=>absurd (hr.inb h9) (by omega)⟩,fun b hb=>⟨hr.CP b (nZ b hb),fun _=>hb⟩⟩
  .obtain⟨b0,q1,q2⟩:=hHg.2 hj;have rQ:j<ks.length:=by rw[<-hpg.1];exact(a02.1 q1).1
   have hk:=a0b rQ;obtain⟨b9,q5,q6⟩:=hpg.2 hk;rw[q1]at q6;cases q6;obtain⟨mb,q3,q4⟩:=hr.at_ _ _ q5;exact⟨mb,by rw[hm hk];exact q3,DL hX hg hA (fun c _ h9 h8=>h9 (nZ c h8)) q4 q2⟩
  .obtain⟨ma,a1,a2⟩:=q1;obtain⟨mc,c1,c2⟩:=q2;obtain⟨k,a3,a4⟩:=Rz a1;obtain⟨l,c3,c4⟩:=Rz c1;have e:=iU hr.nodup a4 c4 a2 c2;subst e;exact(List.getElem?_inj (a02.1 a3).1 jm).1 (by rw[a3,c3])
 obtain⟨w,h1,ws,m1,c1,c2,c3,c4,c5,c6⟩:=hs A2 m h tf rU wE (DK hg hA hX hf' hf) (zi hX hg hA ET hx);have a5L:ks.length<=m1.length:=by
  rcases abm ks.length with e|e
  .omega
  .have aQ:ks.length-1<m.length:=(by omega);have:=c5 (ks.length-1) m[ks.length-1] (a0b aQ);rcases this with g|g<;>(have:=(a02.1 g).1;omega)
 let m1':List MB:=putAt ks m1 m'++m1.drop ks.length
 have hn:m'.length=H'.length:=hr.len;have a9x:(putAt ks m1 m').length=m'.length:=sV;have a0W:∀{p k:Nat},ks[p]? = some k->m1'[k]? = m1[p]?:=fun{p k} hk=>by
  show(putAt ks m1 m'++_)[k]? = _;rw[a0c (by rw[a9x];exact hkH hk),Ot jm hkm a5L hk]
 have Zh:∀{i:Nat},i<m'.length->i∉ks->m1'[i]? = m'[i]?:=fun{i} hi hk=>by
  show(putAt ks m1 m'++_)[i]? = _;rw[a0c (by rw[a9x];exact hi),IU hk]
 have Zi:∀{j:Nat},ks.length<=j->m1'[m'.length+(j-ks.length)]? = m1[j]?:=fun{j} hj=>by
  show(putAt ks m1 m'++_)[_]? = _;rw[a19 (by rw[a9x];omega),a9x,Nat.add_sub_cancel_left,a3X];congr 1;omega
 have hgb:∀j i,bk ks H'.length j=some i->m1'[i]? = m1[j]?:=fun j i zX=>by
  unfold bk at zX;split at zX
  .rename_i k hk;cases zX;exact a0W hk
  .rename_i hk;cases zX;rw[<-hn];exact Zi (by rw[List.getElem?_eq_none_iff]at hk;exact hk)
 have uV:∀{i:Nat} {mb:MB},m1'[i]? = some mb->(∃p,ks[p]? = some i∧m1[p]? = some mb)∨(i<m'.length∧i∉ks∧m'[i]? = some mb)∨(∃j,ks.length<=j∧i=m'.length+(j-ks.length)∧m1[j]? = some mb):=fun{i mb} hi=>by
  rcases a3V i m'.length with aQ|En
  .by_cases hk:i∈ks
   .obtain⟨p,hp⟩:=a8f hk;exact .inl ⟨p,hp,by rw[<-a0W hp];exact hi⟩
   .exact .inr (.inl ⟨aQ,hk,by rw[<-Zh aQ hk];exact hi⟩)
  .refine .inr (.inr ⟨i-m'.length+ks.length,by omega,by omega,?_⟩);rw[<-Zi (by omega)];rw[<-hi];congr 1;omega
 have yN:∀{b:Nat},b∈bC m1'->b∈bC m1∨∃i mb,i∉ks∧m'[i]? = some mb∧mb.own=some b:=fun{b} hb=>by
  obtain⟨i,mb,q1,q2⟩:=jZ hb;rcases uV q1 with⟨p,_,q3⟩|⟨_,q3,q4⟩|⟨j,_,_,q3⟩
  .exact .inl (bg q3 q2)
  .exact .inr ⟨i,mb,q3,q4,q2⟩
  .exact .inl (bg q3 q2)
 have a9y:∀{i b:Nat} {mb:MB},i∉ks->m'[i]? = some mb->mb.own=some b->b∉bC m1:=fun{i b mb} h1 h2 h3 h4=>by
  rcases c4.new b h4 with g|g
  .exact ae7 h1 h2 h3 g
  .exact absurd (hr.inb (bg h2 h3)) (by omega)
 have hA3:∀b,AA A2 m1 b->AA A m1' b:=fun b hb=>⟨hb.1.1,fun h9=>by
  rcases yN h9 with g|⟨i,mb,g1,g2,g3⟩
  .exact hb.2 g
  .exact ae7 g1 g2 g3 (hb.1.2 (bg g2 g3))⟩
 have hF:Fr m' h m1' h1:=⟨c4.len,fun b hb hnb=>c4.same b hb fun h9=>hnb (nZ b h9),fun b hb=>by
  rcases yN hb with g|⟨i,mb,g1,g2,g3⟩
  .rcases c4.new b g with g|g
   .exact .inl (nZ b g)
   .exact .inr g
  .exact .inl (bg g2 g3),c4.grow⟩
 have hU:Up m' m1':=fun i mb hi=>by
  have aQ:=(a02.1 hi).1;by_cases hk:i∈ks
  .obtain⟨p,hp⟩:=a8f hk;rw[a0W hp];exact c5 p mb (by rw[hm hp];exact hi)
  .exact .inl (by rw[Zh aQ hk];exact hi)
 have ae8:=sU hH1;have ahW:m1.length=H1.length:=c2.len;refine⟨w,h1,ws,m1',c1,⟨?_,fun i b hi=>?_,?_,fun b hb=>(c2.up b hb).1,fun b hb=>?_⟩,DK hgb hA3 hX c3 hv,hF,hU,fun b hb=>?_⟩
 .show(putAt ks m1 m'++_).length=_;rw[a1X,a1X,sV,sV,a3H,a3H,ae8.1,ahW,hn]
 .have ahX:ks.length<=PO.length:=by rw[ae8.1,<-ahW];exact a5L
  have anI:∀k∈ks,k<H'.length:=fun k hk=>by rw[<-hn];exact hkm k hk
  have back:∀{j:Nat} {b:PB X.Γ},PO[j]? = some b->∃mb,m1[j]? = some mb∧BR X P (AA A m1') m1' h1 b mb:=fun{j b} hj=>by
   obtain⟨b0,q1,q2⟩:=ae8.2 hj;obtain⟨mb,q3,q4⟩:=c2.at_ j b0 q1;refine⟨mb,q3,DL hX hgb hA3 (fun c e h9 h8=>?_) q4 q2⟩;rcases yN h8 with g|⟨i,LH,g1,g2,g3⟩
   .exact h9 g
   .subst e;rcases a3V j ks.length with hj1|hj1
    .have hk:=a0b hj1;have rQ:j<m.length:=by rw[a5K];exact hj1
     have hmj:m[j]? = some (.je c):=by
      rcases c5 j _ (a0b rQ)with e|e<;>rw[q3]at e<;>simp only[a01]at e
      .rw[a0b rQ,<-e]
      .cases e
     obtain⟨k,e1,e2⟩:=Rz hmj;obtain⟨b9,e3,_⟩:=hpg.2 e1;obtain⟨mb9,e4,e5⟩:=hr.at_ _ _ e3;rw[e2]at e4;cases e4;cases b9<;>first|exact e5.elim|exact e5.1 (bg g2 g3)
    .have e1:(H1.drop ks.length)[j-ks.length]? = some b0:=by rw[a3X,<-q1];congr 1;omega
     have e2:=LU hro e1;cases b0<;>first|exact q4.elim|cases e2
  rcases a3V i H'.length with aQ|En
  .rw[a0c (by rw[sV];exact aQ)]at hi;by_cases hk:i∈ks
   .obtain⟨p,hpk⟩:=a8f hk;rw[Ot jm anI ahX hpk]at hi;obtain⟨mb,q1,q2⟩:=back hi;exact⟨mb,by rw[a0W hpk];exact q1,q2⟩
   .rw[IU hk]at hi;obtain⟨mb,q1,q2⟩:=hr.at_ i b hi;refine⟨mb,by rw[Zh (by rw[hn];exact aQ) hk];exact q1,q2.step hF hU fun c hc=>?_⟩;exact c4.same c (hr.inb (bg q1 hc)) (ae7 hk q1 hc)
  .rw[a19 (by rw[sV];exact En),sV,a3X]at hi;obtain⟨mb,q1,q2⟩:=back hi;refine⟨mb,?_,q2⟩;have:=Zi (j:=ks.length+(i-H'.length)) (by omega);rw[q1]at this;rw[<-this];congr 1;omega
 .refine jo fun i j c q1 q2=>?_;obtain⟨ma,a1,a2⟩:=q1;obtain⟨mc,b1,b2⟩:=q2;rcases uV a1 with⟨p,a3,a4⟩|⟨a3,a4,a5⟩|⟨p,a3,a4,a5⟩<;>rcases uV b1 with⟨q,b3,b4⟩|⟨b3,b4,b5⟩|⟨q,b3,b4,b5⟩
  .have:=iU c2.nodup a4 b4 a2 b2;subst this;rw[a3]at b3;cases b3;rfl
  .exact absurd (bg a4 a2) (a9y b4 b5 b2)
  .have:=iU c2.nodup a4 b5 a2 b2;subst this;have:=(a02.1 a3).1;omega
  .exact absurd (bg b4 b2) (a9y a4 a5 a2)
  .exact iU hr.nodup a5 b5 a2 b2
  .exact absurd (bg b5 b2) (a9y a4 a5 a2)
  .have:=iU c2.nodup a5 b4 a2 b2;subst this;have:=(a02.1 b3).1;omega
  .exact absurd (bg a5 a2) (a9y b4 b5 b2)
  .have:=iU c2.nodup a5 b5 a2 b2;subst this;omega
 .rcases yN hb with g|⟨i,mb,g1,g2,g3⟩
  .exact(c2.CP b g).1
  .exact hr.CP b (bg g2 g3)
 .obtain⟨j,hw,mb,q1,q2⟩:=c6 b hb;obtain⟨k,q3,q4⟩:=Rz q1;exact⟨j,k,q3,hw,mb,q4,q2⟩
end
end Pv
