/- Part 3 of a proof: ApplyOps -/
import Derived.Test.YtmobpoiejckagaaGreatP01
set_option linter.constructorNameAsVariable false
set_option linter.unusedVariables false
set_option linter.unusedSimpArgs false
set_option linter.unusedSectionVars false
noncomputable section
namespace Pv
open Go Tw
section
variable {X:lC} {P:LI1} {A:Nat->Prop} {m m':List MB} {h h':List HB} {H H':List (PB X.Γ)}
theorem HR.next(hr:HR X P A m H h)(hF:Fr m h m' h')(hU:Up m m')(hl:m'.length=H'.length)(hn:(bI m').Nodup)
  (KZ:∀(i:Nat) b,H'[i]? = some b->(∃mb,H[i]? = some b∧m[i]? = some mb∧m'[i]? = some mb∧∀c,mb.own=some c->h'[c]? = h[c]?)∨∃mb,m'[i]? = some mb∧BR X P (AA A m') m' h' b mb):HR X P A m' H' h':=by
 refine⟨hl,fun i b hb=>?_,hn,fun b hb=>hr.up b (by have:=hF.len;omega),fun b hb=>?_⟩
 .rcases KZ i b hb with⟨mb,h1,h2,h3,h4⟩|h1
  .obtain⟨Nw,g1,g2⟩:=hr.at_ i b h1;rw[h2]at g1;cases g1;exact⟨mb,h3,g2.step hF hU h4⟩
  .exact h1
 .rcases hF.new b hb with h1|h1
  .exact hr.DU b h1
  .exact hr.up b h1
theorem BR.has{B:Nat->Prop}{b:PB X.Γ}{mb:MB}{c:Nat}(hb:BR X P B m h b mb)(ho:mb.own=some c):c<h.length:=by
 have key:∀{y},h[c]? = some y->c<h.length:=fun e=>(a0n.1 e).1;cases b with
 |cells cs=>
  cases mb with
  |gK b=>cases ho;obtain⟨_,h1,_⟩:=hb;exact key h1
  |_=>exact hb.elim
 |aG cs=>
  cases mb with
  |jF b=>cases ho
  |_=>exact hb.elim
 |list k ex t l=>
  cases mb with
  |dH x=>
   cases(hb:LR X P B m h k ex t l x)with
   |nil=>cases ho
   |emp=>simp[MB.own]at ho
   |some h1 _ _ h4=>
    simp only[MB.own]at ho;split at ho
    .cases ho
    cases ho;exact key h4
  |_=>exact hb.elim
 |map es=>
  cases mb with
  |gK b=>cases ho;obtain⟨_,h1,_⟩:=hb;exact key h1
  |_=>exact hb.elim
 |nX cs=>
  cases mb with
  |gK b=>cases ho;obtain⟨_,h1,_⟩:=hb;exact key h1
  |_=>exact hb.elim
 |iP es=>
  cases mb with
  |jF b=>cases ho
  |_=>exact hb.elim
 |dD r n seen=>
  cases mb with
  |gK b=>cases ho;obtain⟨_,h1,_⟩:=hb;exact key h1
  |_=>exact hb.elim
 |mark=>
  cases mb with
  |gK b=>cases ho;exact key hb
  |_=>exact hb.elim
 |loop=>
  cases mb with
  |gK b=>cases ho;obtain⟨_,h1,_⟩:=hb;exact key h1
  |_=>exact hb.elim
 |gone=>
  cases mb with
  |gone=>cases ho
  |_=>exact hb.elim
theorem HR.inb(hr:HR X P A m H h){c:Nat}(hc:c∈bI m):c<h.length:=by
 obtain⟨mb,hm,ho⟩:=a6v.1 hc;obtain⟨i,hi⟩:=a9B hm;have:i<H.length:=by rw[<-hr.len];exact(a0n.1 hi).1
 obtain⟨Nw,h1,h2⟩:=hr.at_ i H[i] (a0D this);rw[hi]at h1;cases h1;exact h2.has ho
theorem jr(a b:List MB):bI (a++b)=bI a++bI b:=List.filterMap_append ..
theorem kY(mb:MB):bI [mb]=mb.own.toList:=by unfold bI;simp[a9O];cases mb.own<;>rfl
theorem xR(ms:List MB):Up m (m++ms):=fun i mb hi=>.inl (by rw[a0E (a0n.1 hi).1];exact hi)
theorem HR.push(hr:HR X P A m H h){pb:PB X.Γ}{hb:HB}{mb:MB}(ho:mb.own=some h.length∨mb.own=none)(rC:BR X P (AA A (m++[mb])) (m++[mb]) (h++[hb]) pb mb) :
  HR X P A (m++[mb]) (H++[pb]) (h++[hb])∧Fr m h (m++[mb]) (h++[hb])∧Up m (m++[mb]):=by
 have hF:Fr m h (m++[mb]) (h++[hb]):=by
  refine⟨by simp,fun b hb _=>by rw[a0E hb],fun b hb=>?_,fun b cs hc=>⟨cs,?_,a15 _⟩⟩
  .rw[jr,a3v,kY]at hb;rcases hb with hb|hb
   .exact .inl hb
   .rcases ho with ho|ho<;>rw[ho]at hb<;>simp at hb
    exact .inr (by omega)
  .rw[gq (a0E (gZ hc)),hc]
 refine⟨hr.next hF (xR _) (by simp[hr.len]) ?_ fun i b hi=>?_,hF,xR _⟩
 .rw[jr,kY];refine a9G.2 ⟨hr.nodup,?_,?_⟩
  .cases mb.own<;>simp
  .intro a ha b hb e;subst e;have:=hr.inb ha;rcases ho with ho|ho<;>rw[ho]at hb<;>simp at hb
   omega
 .rcases a5h i H.length with aQ|FI
  .left;rw[a0E aQ]at hi;obtain⟨Nw,h1,h2⟩:=hr.at_ i b hi;refine⟨Nw,hi,h1,by rw[a0E (by rw[hr.len];exact aQ)];exact h1,fun c hc=>?_⟩;rw[a0E (h2.has hc)]
  .right;rw[a1a FI]at hi;have:i-H.length=0:=by
    rcases abj (i-H.length)with h|h
    .exact h
    .rw[a4Y (by simp;omega)]at hi;cases hi
   rw[this]at hi;simp only[a3p,a0k]at hi;subst hi;exact⟨mb,by rw[a1a (by rw[hr.len];exact FI),hr.len,this];rfl,rC⟩
theorem HR.acY(hr:HR X P A m H h){pb:PB X.Γ}{mb:MB}(ho:mb.own=none)(rC:BR X P (AA A (m++[mb])) (m++[mb]) h pb mb) :
  HR X P A (m++[mb]) (H++[pb]) h∧Fr m h (m++[mb]) h∧Up m (m++[mb]):=by
 have zK:bI (m++[mb])=bI m:=by rw[jr,kY,ho];simp
 have hF:Fr m h (m++[mb]) h:=⟨a15 _,fun _ _ _=>rfl,fun b hb=>.inl (zK▸hb),fun b cs hc=>⟨cs,hc,a15 _⟩⟩;refine⟨hr.next hF (xR _) (by simp[hr.len]) (by rw[zK];exact hr.nodup) fun i b hi=>?_,hF,xR _⟩;rcases a5h i H.length with aQ|FI
 .left;rw[a0E aQ]at hi;obtain⟨Nw,h1,h2⟩:=hr.at_ i b hi;exact⟨Nw,hi,h1,by rw[a0E (by rw[hr.len];exact aQ)];exact h1,fun c hc=>rfl⟩
 .right;rw[a1a FI]at hi;have:i-H.length=0:=by
   rcases abj (i-H.length)with h|h
   .exact h
   .rw[a4Y (by simp;omega)]at hi;cases hi
  rw[this]at hi;simp only[a3p,a0k]at hi;subst hi;exact⟨mb,by rw[a1a (by rw[hr.len];exact FI),hr.len,this];rfl,rC⟩
theorem HR.set(hr:HR X P A m H h){i c:Nat}{mb:MB}{pb:PB X.Γ}{hb:HB}(hi:m[i]? = some mb)(ho:mb.own=some c)(hg:∀cs,aX h c=some cs->∃cs',aX (h.set c hb) c=some cs'∧cs.length<=cs'.length)
  (rC:Fr m h m (h.set c hb)->BR X P (AA A m) m (h.set c hb) pb mb):HR X P A m (H.set i pb) (h.set c hb)∧Fr m h m (h.set c hb):=by
 have hF:Fr m h m (h.set c hb):=by
  refine⟨by simp,fun b hb hn=>?_,fun b hb=>.inl hb,fun b cs hc=>?_⟩
  .rw[a1j];intro e;subst e;exact hn (bD hi ho)
  .by_cases e:c=b
   .subst e;exact hg cs hc
   .exact⟨cs,by rw[gq (a1j e),hc],a15 _⟩
 refine⟨hr.next hF .refl (by simp[hr.len]) hr.nodup fun j b hj=>?_,hF⟩;by_cases e:i=j
 .subst e;rw[a5k ]at hj;right;have:H[i]?.isSome:=by
   have:i<H.length:=by rw[<-hr.len];exact(a0n.1 hi).1
   simp[this]
  obtain⟨y,hy⟩:=a5N.1 this;rw[hy]at hj;cases hj;exact⟨mb,hi,rC hF⟩
 .rw[a1j e]at hj;left;obtain⟨Nw,h1,h2⟩:=hr.at_ j b hj;refine⟨Nw,hj,h1,h1,fun d hd=>a1j fun e2=>?_⟩;subst e2;exact e (jm hr.nodup hi h1 ho hd)
theorem FW{i:Nat}:∀{m:List MB} {b:Nat},b∈bI (m.set i .gone)->b∈bI m:=by
 intro m b hb;obtain⟨mb,hm,ho⟩:=a6v.1 hb;obtain⟨j,hj⟩:=a9B hm;by_cases e:i=j
 .subst e;rw[a5k]at hj;cases hx:m[i]? with
  |none=>rw[hx]at hj;cases hj
  |some y=>rw[hx]at hj;cases hj;cases ho
 rw[a1j e]at hj;exact bD hj ho
theorem Po{i:Nat}:∀{m:List MB},(bI m).Nodup->(bI (m.set i .gone)).Nodup:=by
 unfold bI;intro m
 induction m generalizing i with
 |nil=>intro h;simp
 |cons x r ih=>
  intro hn;cases i with
  |zero=>
   simp only[List.set_cons_zero,a9O,MB.own];simp only[a9O]at hn;split at hn
   .exact hn
   exact(a5n.1 hn).2
  |succ i=>
   simp only[List.set_cons_succ,a9O];simp only[a9O]at hn;split at hn
   .exact ih hn
   refine a5n.2 ⟨fun hb=>(a5n.1 hn).1 ?_,ih (a5n.1 hn).2⟩;exact FW (m:=r) hb
theorem a1T{i:Nat}:Fr m h (m.set i .gone) h:=⟨a15 _,fun _ _ _=>rfl,fun _ hb=>.inl (FW hb),fun _ cs hc=>⟨cs,hc,a15 _⟩⟩
theorem a1U{i:Nat}:Up m (m.set i .gone):=fun j mb hj=>by
 by_cases e:i=j
 .subst e;right;rw[a5k,hj];rfl
 .left;rw[a1j e];exact hj
theorem HR.gone(hr:HR X P A m H h)(i:Nat):HR X P A (m.set i .gone) (H.set i .gone) h:=by
 refine hr.next a1T a1U (by simp[hr.len]) (Po hr.nodup) fun j b hj=>?_;by_cases e:i=j
 .subst e;right;rw[a5k]at hj;cases hx:H[i]? with
  |none=>rw[hx]at hj;cases hj
  |some y=>
   rw[hx]at hj;cases hj;obtain⟨mb,h1,_⟩:=hr.at_ i y hx;exact⟨.gone,by rw[a5k,h1];rfl,trivial⟩
 rw[a1j e]at hj;left;obtain⟨mb,h1,_⟩:=hr.at_ j b hj;exact⟨mb,hj,h1,by rw[a1j e];exact h1,fun _ _=>rfl⟩
def bW:List Nat->List MB->List MB
 | [],m=>m
 |i::is,m=>bW is (m.set i .gone)
theorem iH:∀(is:List Nat) (m:List MB),Fr m h (bW is m) h∧Up m (bW is m)
 | [],m=>⟨.refl,.refl⟩
 |i::is,m=>⟨a1T.trans (iH is _).1,a1U.trans (iH is _).2⟩
theorem HR.bC:∀(is:List Nat) {m:List MB} {H:List (PB X.Γ)},HR X P A m H h->HR X P A (bW is m) (bC is H) h
 | [],_,_,hr=>hr
 |i::is,_,_,hr=>HR.bC is (hr.gone i)
theorem oK:∀(is:List Nat) (H:List (PB X.Γ)),(Pv.bC is H).length=H.length
 | [],_=>rfl
 |i::is,H=>by rw[Pv.bC,oK is];simp[XC]
theorem nJ:∀(is:List Nat) (m:List MB),(bW is m).length=m.length
 | [],_=>rfl
 |i::is,m=>by rw[bW,nJ is];simp
theorem Ig:∀(is:List Nat) {m:List MB} {i:Nat} {mb:MB},m[i]? = some mb->(bW is m)[i]? = some (if is.contains i then .gone else mb)
 | [],_,_,_,h=>by simpa[bW]using h
 |j::is,m,i,mb,h=>by
  rw[bW];by_cases e:j=i
  .subst e;have:(m.set j .gone)[j]? = some .gone:=by rw[a5k,h];rfl
   rw[Ig is this];simp
  rw[Ig is (by rw[a1j e];exact h)];have:(i==j)=false:=by simp;omega
  simp only[ai7,this,ah4]
end
section
variable {X:lC} {P:LI1} {A:Nat->Prop} {m m':List MB} {h h':List HB} {H H':List (PB X.Γ)}
theorem bZ.nil:bZ X P A m h [] []:=⟨rfl,fun i x y hx=>by simp at hx⟩
theorem bZ.cons{v:PV X.Γ}{x:TV}{vs:List (PV X.Γ)}{xs:List TV}(h1:VR X P A m h v x)(h2:bZ X P A m h vs xs):bZ X P A m h (v::vs) (x::xs):=by
 refine⟨by simp[h2.1],fun i a b ha hb=>?_⟩;cases i with
 |zero=>simp only[a3p,a0k]at ha hb;subst ha;subst hb;exact h1
 |succ i=>exact h2.2 i a b (by simpa using ha) (by simpa using hb)
theorem bZ.inv{v:PV X.Γ}{vs:List (PV X.Γ)}{xs:List TV}(hv:bZ X P A m h (v::vs) xs):∃x r,xs=x::r∧VR X P A m h v x∧bZ X P A m h vs r:=by
 cases xs with
 |nil=>have:=hv.1;simp at this
 |cons x r=>exact⟨x,r,rfl,hv.2 0 v x rfl rfl,by have:=hv.1;simpa using this,fun i a b ha hb=>hv.2 (i+1) a b (by simpa using ha) (by simpa using hb)⟩
theorem bZ.inv0{xs:List TV}(hv:bZ X P A m h [] xs):xs=[]:=by have:=hv.1;cases xs<;>simp_all
theorem bZ.app{a b:List (PV X.Γ)}{x y:List TV}(h1:bZ X P A m h a x)(h2:bZ X P A m h b y):bZ X P A m h (a++b) (x++y):=by
 refine⟨by simp[h1.1,h2.1],fun i c d hc hd=>?_⟩;rcases a5h i a.length with hl|hl
 .rw[a0E hl]at hc;rw[a0E (by rw[<-h1.1];exact hl)]at hd;exact h1.2 i c d hc hd
 rw[a1a hl]at hc;rw[a1a (by rw[<-h1.1];exact hl),<-h1.1]at hd;exact h2.2 _ c d hc hd
theorem bZ.drop{a:List (PV X.Γ)}{x:List TV}(h1:bZ X P A m h a x)(n:Nat):bZ X P A m h (a.drop n) (x.drop n):=
 ⟨by simp[h1.1],fun i c d hc hd=>h1.2 (n+i) c d (by rw[<-hc,a5j]) (by rw[<-hd,a5j])⟩
theorem bZ.take{a:List (PV X.Γ)}{x:List TV}(h1:bZ X P A m h a x)(n:Nat):bZ X P A m h (a.take n) (x.take n):=by
 refine⟨by simp[h1.1],fun i c d hc hd=>?_⟩;rw[a5i]at hc hd;split at hc
 .rename_i hl;rw[a0I hl]at hd;exact h1.2 i c d hc hd
 cases hc
theorem bZ.get{a:List (PV X.Γ)}{x:List TV}(h1:bZ X P A m h a x){i:Nat}{c:PV X.Γ}(hc:a[i]? = some c):∃v,x[i]? = some v∧VR X P A m h c v:=by
 have hl:i<x.length:=by rw[<-h1.1];exact(a0n.1 hc).1
 exact⟨x[i],a0D hl,h1.2 i c _ hc (a0D hl)⟩
theorem TA{v:PV X.Γ}{x tv:TV}(hv:VR X P A m h v x)(hp:rW v=some tv):x=tv:=by
 cases hv with
 |gone hi _ _=>cases v<;>simp[bH]at hi<;>simp[rW]at hp
 |_=>first|(simp only[rW,a0k]at hp;exact hp)|(simp[rW]at hp;done)
theorem Gw:∀{vs:List (PV X.Γ)} {xs tvs:List TV},bZ X P A m h vs xs->iU vs=some tvs->xs=tvs
 | [],xs,tvs,hv,hp=>by simp only[iU,a0k]at hp;rw[hv.inv0,hp]
 |v::vs,xs,tvs,hv,hp=>by
  obtain⟨x,r,rfl,h1,h2⟩:=hv.inv;simp only[iU]at hp;split at hp
  .rename_i a b ha hb;cases hp;rw[TA h1 ha,Gw h2 hb]
  cases hp
theorem kC{v:PV X.Γ}{x tv:TV}(hv:VR X P A m h v x)(hp:qJ v=some tv):x=tv:=by
 cases v with
 |agg cs=>
  simp only[qJ,a0A]at hp;obtain⟨tvs,h1,rfl⟩:=hp;cases hv with
  |agg h2 h3=>rw[Gw ⟨h2,h3⟩ h1]
  |gone hi _ _=>simp[bH]at hi
 |_=>exact TA hv hp
theorem a1V:∀{vs:List (PV X.Γ)} {xs tvs:List TV},bZ X P A m h vs xs->Vh vs=some tvs->xs=tvs
 | [],xs,tvs,hv,hp=>by simp only[Vh,a0k]at hp;rw[hv.inv0,hp]
 |v::vs,xs,tvs,hv,hp=>by
  obtain⟨x,r,rfl,h1,h2⟩:=hv.inv;simp only[Vh]at hp;split at hp
  .rename_i a b ha hb;cases hp;rw[kC h1 ha,a1V h2 hb]
  cases hp
theorem a6P{v:PV X.Γ}{x:TV}(hp:ofC x=some v):VR X P A m h v x:=by cases x<;>simp[ofC]at hp<;>subst hp<;>constructor
theorem Vu:∀{xs:List TV} {vs:List (PV X.Γ)},Di xs=some vs->bZ X P A m h vs xs
 | [],vs,hp=>by simp only[Di,a0k]at hp;subst hp;exact .nil
 |x::xs,vs,hp=>by
  simp only[Di]at hp;split at hp
  .rename_i a b ha hb;cases hp;exact .cons (a6P ha) (Vu hb)
  cases hp
theorem xU{v:PV X.Γ}{x:TV}(hp:Zo x=some v):VR X P A m h v x:=by
 cases x with
 |agg cs=>
  simp only[Zo,a0A]at hp;obtain⟨vs,h1,rfl⟩:=hp;have:=Vu (X:=X) (P:=P) (A:=A) (m:=m) (h:=h) h1;exact .agg this.1 this.2
 |_=>exact a6P hp
theorem TB{v:PV X.Γ}{x:TV}(hp:rW v=some x):VR X P A m h v x:=by
 cases v<;>simp only[rW,a0k,reduceCtorEq]at hp<;>subst hp
 .exact .bool _
 .exact .int _ _
 .exact .str _
 exact .nil _
theorem Gx:∀{vs:List (PV X.Γ)} {xs:List TV},iU vs=some xs->bZ X P A m h vs xs
 | [],xs,hp=>by simp only[iU,a0k]at hp;subst hp;exact .nil
 |v::vs,xs,hp=>by
  simp only[iU]at hp;split at hp
  .rename_i a b ha hb;cases hp;exact .cons (TB ha) (Gx hb)
  cases hp
theorem oL{v:PV X.Γ}{x:TV}(hp:qJ v=some x):VR X P A m h v x:=by
 cases v with
 |agg cs=>
  simp only[qJ,a0A]at hp;obtain⟨vs,h1,rfl⟩:=hp;have:=Gx (X:=X) (P:=P) (A:=A) (m:=m) (h:=h) h1;exact .agg this.1 this.2
 |_=>exact TB hp
theorem Ih{v:PV X.Γ}{x:TV}(hv:VR X P A m h v x):VR X P A m h (a1N v) x:=by
 cases v with
 |lit b=>
  cases hv with
  |lit=>exact .bool _
  |gone hi _ _=>simp[bH]at hi
 |_=>exact hv
theorem a6Q{v:PV X.Γ}{x:TV}(hv:VR X P A m h v x):jk x=a04 v:=by
 cases hv with
 |own _ o=>exact o
 |gone hi _ o=>rw[o];cases v<;>simp[bH]at hi<;>rfl
 |_=>rfl
theorem Ii{v:PV X.Γ}{x:TV}(hv:VR X P A m h v x):bZ X P A m h v.cells x.cells:=by
 have hq:=a6Q hv;cases v with
 |agg cs=>
  cases hv with
  |agg h1 h2=>exact⟨h1,h2⟩
  |gone hi _ _=>simp[bH]at hi
 |dJ cs=>
  have hv':=hv;cases hv with
  |dJ h1 h2=>exact .cons hv' .nil
  |gone hi _ _=>simp[bH]at hi
 |_=>
  have:x.cells=[x]:=by cases x<;>first|rfl|(simp[jk,a04]at hq;done)
  rw[this];exact .cons hv .nil
theorem EI:∀{vs:List (PV X.Γ)} {xs:List TV},bZ X P A m h vs xs->xs.all jk=vs.all a04
 | [],xs,hv=>by rw[hv.inv0];rfl
 |v::vs,xs,hv=>by obtain⟨x,r,rfl,h1,h2⟩:=hv.inv;simp only[acF,a6Q h1,EI h2]
theorem afl{cs:List (PV X.Γ)}{xs:List TV}(hv:bZ X P A m h cs xs){off n:Nat}{r:List (PV X.Γ)}(hs:afe cs off n=some r):∃r',sub xs off n=some r'∧bZ X P A m h r r':=by
 unfold afe at hs;split at hs
 .rename_i hl;cases hs;exact⟨_,by unfold sub;rw[a0I (by rw[<-hv.1];exact hl)],(hv.drop off).take n⟩
 cases hs
theorem Ij{cs new:List (PV X.Γ)}{xs ajn:List TV}(hv:bZ X P A m h cs xs)(hn:bZ X P A m h new ajn){off:Nat}{r:List (PV X.Γ)}(hs:P7 cs off new=some r):∃r',wZ xs off ajn=some r'∧bZ X P A m h r r':=by
 unfold P7 at hs;split at hs
 .rename_i hl;cases hs;refine⟨_,by unfold wZ;rw[a0I (by rw[<-hv.1,<-hn.1];exact hl)],?_⟩;rw[<-hn.1];exact((hv.take off).app hn).app (hv.drop _)
 cases hs
theorem BA{cs:List (PV X.Γ)}{xs:List TV}(hv:bZ X P A m h cs xs){t:LI2}{off:Nat}{v:PV X.Γ}(hs:I9 P t cs off=some v):∃x,uU P t xs off=some x∧VR X P A m h v x:=by
 unfold I9 at hs;unfold uU;split at hs
 .rename_i n ha hn;simp only[a0A]at hs;obtain⟨r,h1,rfl⟩:=hs;obtain⟨r',g1,g2⟩:=afl hv h1;exact⟨.agg r',by simp only[ha,hn,g1,a19],.agg g2.1 g2.2⟩
 .rename_i n ha hn;split at hs
  .rename_i h1;obtain⟨x,g1,g2⟩:=hv.get hs;exact⟨x,by simp only[ha,hn,h1,a2s,g1],g2⟩
  cases hs
 cases hs
theorem Ik{t:LI2}{z:List (PV X.Γ)}(hz:Tt P t=some z):∃z',KR P t=some z'∧bZ X P A m h z z':=by
 unfold Tt at hz;split at hz
 .rename_i z' h1;exact⟨z',h1,Vu hz⟩
 cases hz
def VPs(X:lC)(P:LI1)(A:Nat->Prop)(m:List MB)(h:List HB)(ps:List (Nat×PV X.Γ))(qs:List (Nat×TV)):Prop:=
 ps.length=qs.length∧∀(i:Nat) a b,ps[i]? = some a->qs[i]? = some b->a.1=b.1∧VR X P A m h a.2 b.2
theorem VPs.inv{a:Nat×PV X.Γ}{ps:List (Nat×PV X.Γ)}{qs:List (Nat×TV)}(hv:VPs X P A m h (a::ps) qs):∃x r,qs=(a.1,x)::r∧VR X P A m h a.2 x∧VPs X P A m h ps r:=by
 cases qs with
 |nil=>have:=hv.1;simp at this
 |cons q r=>
  obtain⟨h1,h2⟩:=hv.2 0 a q rfl rfl;refine⟨q.2,r,by rw[h1],h2,by have:=hv.1;simpa using this,fun i x y hx hy=>hv.2 (i+1) x y (by simpa using hx) (by simpa using hy)⟩
theorem Ny{pl:Nat->Option (Nat×Nat)}:∀{ps:List (Nat×PV X.Γ)} {qs:List (Nat×TV)} {cs:List (PV X.Γ)} {xs:List TV},VPs X P A m h ps qs->bZ X P A m h cs xs->∀{r:List (PV X.Γ)},P8 pl cs ps=some r->∃r',tK pl xs qs=some r'∧bZ X P A m h r r'
 | [],qs,cs,xs,hp,hv,r,hs=>by
  have:qs=[]:=by have:=hp.1;cases qs<;>simp_all
  subst this;simp only[P8,a0k]at hs;subst hs;exact⟨xs,rfl,hv⟩
 |(i,v)::ps,qs,cs,xs,hp,hv,r,hs=>by
  obtain⟨x,rest,rfl,h1,h2⟩:=hp.inv;have hc:=Ii h1;simp only[P8]at hs;split at hs
  .rename_i off size ED;split at hs
   .rename_i vW;split at hs
    .rename_i cs' ho;obtain⟨xs',g1,g2⟩:=Ij hv hc ho;obtain⟨r',g3,g4⟩:=Ny h2 g2 hs;have aeW:x.cells.length=size:=by rw[<-hc.1];exact vW
     exact⟨r',by simp only[tK,ED,aeW,a2s,g1,g3],g4⟩
    cases hs
   cases hs
  cases hs
theorem a6R{t:LI2}{ps:List (Nat×PV X.Γ)}{qs:List (Nat×TV)}(hp:VPs X P A m h ps qs){v:PV X.Γ}(hs:a06 P t ps=some v):∃x,O8 P t qs=some x∧VR X P A m h v x:=by
 unfold a06 at hs;unfold O8;split at hs
 .rename_i z fs hz hu;obtain⟨z',g1,g2⟩:=Ik (A:=A) (m:=m) (h:=h) hz;split at hs
  .rename_i ha;simp only[a0A]at hs;obtain⟨r,h1,rfl⟩:=hs;obtain⟨r',g3,g4⟩:=Ny hp g2 h1;exact⟨.agg r',by simp only[g1,hu,ha,a2s,g3,a19],.agg g4.1 g4.2⟩
  cases hs
 .rename_i z n e hz hu;obtain⟨z',g1,g2⟩:=Ik (A:=A) (m:=m) (h:=h) hz;split at hs
  .rename_i k hk;simp only[a0A]at hs;obtain⟨r,h1,rfl⟩:=hs;obtain⟨r',g3,g4⟩:=Ny hp g2 h1;exact⟨.agg r',by simp only[g1,hu,hk,g3,a19],.agg g4.1 g4.2⟩
  cases hs
 cases hs
theorem XG{z:List (PV X.Γ)}{z':List TV}(hz:bZ X P A m h z z'):∀n,bZ X P A m h (a07 z n) (times z' n)
 | 0=>.nil
 |n+1=>hz.app (XG hz n)
section
variable {env:List (Nat×PE X.Γ)} {env':List (Nat×EV)}
theorem a1W(he:kM X P A m h env env'){t:Nat}:(FU t env=none∧dR t env'=none)∨∃v x,FU t env=some v∧dR t env'=some x∧Jo X P A m h v x:=by
 induction he with
 |nil=>exact .inl ⟨rfl,rfl⟩
 |cons h1 _ ih=>
  rename_i k v x r r' _;simp only[FU,dR];by_cases e:k=t
  .right;exact⟨v,x,by rw[a0I e],by rw[a0I e],h1⟩
  rw[a0F e,a0F e];exact ih
theorem pV(he:kM X P A m h env env'){t:Nat}{v:PE X.Γ}(hl:FU t env=some v):∃x,dR t env'=some x∧Jo X P A m h v x:=by
 rcases a1W he (t:=t)with⟨h1,_⟩|⟨w,x,h1,h2,h3⟩
 .rw[hl]at h1;cases h1
 rw[hl]at h1;cases h1;exact⟨x,h2,h3⟩
theorem nZ(he:kM X P A m h env env'){o:Operand}{v:PE X.Γ}(hl:Gp env o=some v):∃x,Jk env' o=some x∧Jo X P A m h v x:=by
 cases o with
 |tmp t=>exact pV he hl
 |const c=>
  simp only[Gp]at hl;split at hl
  .rename_i b hb;cases hl;exact⟨.val (.bool b),by simp only[Jk,hb,a19],VR.lit b⟩
  .rename_i x _ hx;simp only[a0A]at hl;obtain⟨w,h1,rfl⟩:=hl;exact⟨.val x,by simp only[Jk,hx,a19],xU h1⟩
  cases hl
 |func f=>
  simp only[Gp,a0k]at hl;subst hl;exact⟨.val (.fn f [] []),rfl,.fn rfl (by simp) rfl (by simp)⟩
 |global g=>cases hl
theorem gu{v:PV X.Γ}{x:EV}(hp:Jo X P A m h (.val v) x):∃y,x=.val y∧VR X P A m h v y:=by
 cases x with
 |val y=>exact⟨y,rfl,hp⟩
 |_=>exact hp.elim
theorem EJ{k o:Nat}{x:EV}(hp:Jo X P A m h (.loc k o) x):x=.loc k o:=by
 cases x with
 |loc k' o'=>obtain⟨rfl,rfl⟩:=hp;rfl
 |_=>exact hp.elim
theorem JH{x:EV}(hp:Jo X P A m h .undef x):x=.undef:=by
 cases x with
 |undef=>rfl
 |_=>exact hp.elim
theorem Nz{r j:Nat}{v:PV X.Γ}{x:EV}(hp:Jo X P A m h (.ent r j v) x):∃c y,x=.ent c j y∧VR X P A m h (.map r) (.map c)∧qJ v=some y:=by
 cases x with
 |ent c j' y=>obtain⟨h1,rfl,h2⟩:=hp;exact⟨c,y,rfl,h1,h2⟩
 |_=>exact hp.elim
theorem NC{r j:Nat}{x:EV}(hp:Jo X P A m h (.Fa r j) x):∃c,x=.Fa c j∧VR X P A m h (.map r) (.map c):=by
 cases x with
 |Fa c j'=>obtain⟨h1,rfl⟩:=hp;exact⟨c,rfl,h1⟩
 |_=>exact hp.elim
theorem XH(he:kM X P A m h env env'){o:Operand}{v:PV X.Γ}(hl:a1O env o=some v):∃x,rH env' o=some x∧VR X P A m h v x:=by
 unfold a1O at hl;split at hl
 .rename_i w hw;cases hl;obtain⟨x,h1,h2⟩:=nZ he hw;obtain⟨y,rfl,h3⟩:=gu h2;exact⟨y,by simp only[rH,h1],h3⟩
 cases hl
theorem jG(he:kM X P A m h env env'){o:Operand}{v:PV X.Γ}(hl:AQ env o=some v):∃x,rH env' o=some x∧VR X P A m h v x:=by
 unfold AQ at hl;split at hl
 .rename_i w hw;cases hl;obtain⟨x,h1,h2⟩:=nZ he hw;obtain⟨y,rfl,h3⟩:=gu h2;exact⟨y,by simp only[rH,h1],Ih h3⟩
 cases hl
theorem Vw(he:kM X P A m h env env'):∀{os:List Operand} {vs:List (PV X.Γ)},a05 env os=some vs->∃xs,UF env' os=some xs∧bZ X P A m h vs xs
 | [],vs,hl=>by simp only[a05,a0k]at hl;subst hl;exact⟨[],rfl,.nil⟩
 |o::os,vs,hl=>by
  simp only[a05]at hl;split at hl
  .rename_i v ws h1 h2;cases hl;obtain⟨x,g1,g2⟩:=jG he h1;obtain⟨xs,g3,g4⟩:=Vw he h2;exact⟨x::xs,by simp only[UF,g1,g3],.cons g2 g4⟩
  cases hl
theorem a0g(he:kM X P A m h env env'):∀{os:List (Nat×Operand)} {vs:List (Nat×PV X.Γ)},a3P env os=some vs->∃xs,X3 env' os=some xs∧VPs X P A m h vs xs
 | [],vs,hl=>by simp only[a3P,a0k]at hl;subst hl;exact⟨[],rfl,rfl,fun i a b ha=>by simp at ha⟩
 |(i,o)::os,vs,hl=>by
  simp only[a3P]at hl;split at hl
  .rename_i v ws h1 h2;cases hl;obtain⟨x,g1,g2⟩:=jG he h1;obtain⟨xs,g3,g4⟩:=a0g he h2;refine⟨(i,x)::xs,by simp only[X3,g1,g3],by simp[g4.1],fun j a b ha hb=>?_⟩;cases j with
   |zero=>simp only[a3p,a0k]at ha hb;subst ha;subst hb;exact⟨rfl,g2⟩
   |succ j=>exact g4.2 j a b (by simpa using ha) (by simpa using hb)
  cases hl
def OR(X:lC)(P:LI1)(A:Nat->Prop)(m:List MB)(h:List HB):Option (PV X.Γ)->Option TV->Prop
 |none,none=>True
 |some v,some x=>VR X P A m h v x
 |_,_=>False
theorem Il(he:kM X P A m h env env'){o:Option Operand}{v:Option (PV X.Γ)}(hl:P6 env o=some v):∃x,X5 env' o=some x∧OR X P A m h v x:=by
 cases o with
 |none=>simp only[P6,a0k]at hl;subst hl;exact⟨none,rfl,trivial⟩
 |some o=>
  simp only[P6]at hl;split at hl
  .rename_i w hw;cases hl;obtain⟨x,g1,g2⟩:=jG he hw;exact⟨some x,by simp only[X5,g1],g2⟩
  cases hl
theorem Vx(he:kM X P A m h env env'):∀live,kM X P A m h (jy live env) (pick live env')
 | []=>.nil
 |t::r=>by
  simp only[jy,pick];rcases a1W he (t:=t)with⟨h1,h2⟩|⟨v,x,h1,h2,h3⟩
  .rw[h1,h2];exact Vx he r
  rw[h1,h2];exact .cons h3 (Vx he r)
theorem aaq(he:kM X P A m h env env'){t:Nat}{b:Bool}(hb:dR t env'=some (.val (.bool b))):kM X P A m h (Pv.D6 t b env) env':=by
 induction he with
 |nil=>exact .nil
 |cons h1 h2 ih=>
  rename_i k v x r r';simp only[dR]at hb;simp only[Pv.D6];by_cases e:k=t
  .rw[a0I e]at hb ⊢;cases hb;exact .cons (VR.lit b) h2
  rw[a0F e]at hb ⊢;exact .cons h1 (ih hb)
theorem afm(he:kM X P A m h env env'):Vr X env=Dq env':=by
 induction he with
 |nil=>rfl
 |cons h1 _ ih=>
  rename_i k v x r r' _;cases v with
  |val v=>obtain⟨y,rfl,_⟩:=gu h1;simpa[Vr,Dq]using ih
  |loc a b=>rw[EJ h1];simp only[Vr,Dq,ih]
  |undef=>rw[JH h1];simpa[Vr,Dq]using ih
  |ent=>obtain⟨_,_,rfl,_⟩:=Nz h1;simpa[Vr,Dq]using ih
  |Fa=>obtain⟨_,rfl,_⟩:=NC h1;simpa[Vr,Dq]using ih
end
end
structure bT(X:lC)(P:LI1):Prop where
 dec:∀{t:Nat} {vs:List (PV X.Γ)} {a:X.Γ t},X.dec t vs=some a->∀{A:Nat->Prop} {m:List MB} {h:List HB} {xs:List TV},bZ X P A m h vs xs->bZ X P A m h (X.enc t a) xs
 jC:∀(t:Nat) (a:X.Γ t),jC.Ib (X.enc t a)=true
section
variable {X:lC} {P:LI1} {A B:Nat->Prop} {m m':List MB} {h h':List HB} {H H':List (PB X.Γ)}
theorem VR.mono(hAB:∀b,A b->B b){v:PV X.Γ}{x:TV}(hv:VR X P A m h v x):VR X P B m h v x:=by
 induction hv with
 |bool=>exact .bool _
 |lit=>exact .lit _
 |int=>exact .int _ _
 |str=>exact .str _
 |nil=>exact .nil _
 |ptr e=>exact .ptr e
 |aP e=>exact .aP e
 |own e o=>exact .own e o
 |win e q q' q2=>exact .win e q q' q2
 |Bv e=>exact .Bv e
 |map e=>exact .map e
 |iter e=>exact .iter e
 |fn h1 _ h3 _ i2 i4=>exact .fn h1 i2 h3 i4
 |lF e=>exact .lF e
 |agg h1 _ i2=>exact .agg h1 i2
 |dJ h1 _ i2=>exact .dJ h1 i2
 |pU=>exact .pU
 |dH a c c2 s z o k f e _ ih=>exact .dH (hAB _ a) c c2 s z o k f e ih
 |el a c l o e q _ ih=>exact .el (hAB _ a) c l o e q ih
 |row e j q=>exact .row e j q
 |gone i e o=>exact .gone i e o
theorem bZ.mono(hAB:∀b,A b->B b){v:List (PV X.Γ)}{x:List TV}(hv:bZ X P A m h v x):bZ X P B m h v x:=⟨hv.1,fun i a b ha hb=>(hv.2 i a b ha hb).mono hAB⟩
theorem fJ:∀{vs:List (PV X.Γ)} {i:Nat} {v:PV X.Γ},jC.Ib vs=true->vs[i]? = some v->jC v=true
 | [],_,_,_,h=>by simp at h
 |a::vs,i,v,hc,h=>by
  simp only[jC.Ib,a2c]at hc;cases i with
  |zero=>simp only[a3p,a0k]at h;subst h;exact hc.1
  |succ i=>exact fJ hc.2 (by simpa using h)
theorem VR.jC(hX:bT X P){v:PV X.Γ}{x:TV}(hv:VR X P A m h v x)(hc:Pv.jC v=true):VR X P A m' h v x:=by
 induction hv with
 |bool=>exact .bool _
 |lit=>exact .lit _
 |int=>exact .int _ _
 |str=>exact .str _
 |nil=>exact .nil _
 |fn h1 _ h3 _ i2 i4=>
  simp only[Pv.jC,a2c]at hc;exact .fn h1 (fun i x y hx hy=>i2 i x y hx hy (fJ hc.1 hx)) h3 (fun i x y hx hy=>i4 i x y hx hy (fJ hc.2 hx))
 |agg h1 _ i2=>
  simp only[Pv.jC]at hc;exact .agg h1 (fun i x y hx hy=>i2 i x y hx hy (fJ hc hx))
 |dJ h1 _ i2=>
  simp only[Pv.jC]at hc;exact .dJ h1 (fun i x y hx hy=>i2 i x y hx hy (fJ hc hx))
 |pU=>exact .pU
 |dH a c c2 s z o k f e _ ih=>exact .dH a c c2 s z o k f e fun j y i d v h1 h2 h3=>ih j y i d v h1 h2 h3 (fJ (hX.jC _ _) h2)
 |el a c l o e q _ ih=>exact .el a c l o e q fun i d v h1 h2=>ih i d v h1 h2 (fJ (hX.jC _ _) h1)
 |gone i e o=>rename_i v _ _;cases v<;>simp[bH]at i<;>simp[Pv.jC]at hc
 |_=>simp[Pv.jC]at hc
theorem eX.jC(hX:bT X P){t:Nat}{l:List (X.Γ t)}{cs:List TV}{off sz:Nat}(hv:eX X P A m h t l cs off sz):eX X P A m' h t l cs off sz:=
 ⟨hv.1,hv.2.1,fun j a i c v h1 h2 h3=>(hv.2.2 j a i c v h1 h2 h3).jC hX (fJ (hX.jC _ _) h2)⟩
theorem eX.mono(hAB:∀b,A b->B b){t:Nat}{l:List (X.Γ t)}{cs:List TV}{off sz:Nat}(hv:eX X P A m h t l cs off sz):eX X P B m h t l cs off sz:=
 ⟨hv.1,hv.2.1,fun j a i c v h1 h2 h3=>(hv.2.2 j a i c v h1 h2 h3).mono hAB⟩
theorem VR.move(hX:bT X P)(hA:∀q cs,A q->aX h q=some cs->B q∧h'[q]? = h[q]?){v:PV X.Γ}{x:TV}(hv:VR X P A m h v x)(hc:Pv.jC v=true):VR X P B m' h' v x:=by
 induction hv with
 |bool=>exact .bool _
 |lit=>exact .lit _
 |int=>exact .int _ _
 |str=>exact .str _
 |nil=>exact .nil _
 |fn h1 _ h3 _ i2 i4=>
  simp only[Pv.jC,a2c]at hc;exact .fn h1 (fun i x y hx hy=>i2 i x y hx hy (fJ hc.1 hx)) h3 (fun i x y hx hy=>i4 i x y hx hy (fJ hc.2 hx))
 |agg h1 _ i2=>
  simp only[Pv.jC]at hc;exact .agg h1 (fun i x y hx hy=>i2 i x y hx hy (fJ hc hx))
 |dJ h1 _ i2=>
  simp only[Pv.jC]at hc;exact .dJ h1 (fun i x y hx hy=>i2 i x y hx hy (fJ hc hx))
 |pU=>exact .pU
 |dH a c c2 s z o k f e _ ih=>obtain⟨a',c'⟩:=hA _ _ a c;exact .dH a' ((gq c').trans c) (fun hl=>(yU c').trans (c2 hl)) s z o k f e fun j y i d v h1 h2 h3=>ih j y i d v h1 h2 h3 (fJ (hX.jC _ _) h2)
 |el a c l o e q _ ih=>obtain⟨a',c'⟩:=hA _ _ a (Bz c);exact .el a' ((yU c').trans c) l o e q fun i d v h1 h2=>ih i d v h1 h2 (fJ (hX.jC _ _) h1)
 |gone i e o=>rename_i v _ _;cases v<;>simp[bH]at i<;>simp[Pv.jC]at hc
 |_=>simp[Pv.jC]at hc
theorem eX.move(hX:bT X P)(hA:∀q cs,A q->aX h q=some cs->B q∧h'[q]? = h[q]?){t:Nat}{l:List (X.Γ t)}{cs:List TV}{off sz:Nat}(hv:eX X P A m h t l cs off sz):eX X P B m' h' t l cs off sz:=
 ⟨hv.1,hv.2.1,fun j a i c v h1 h2 h3=>(hv.2.2 j a i c v h1 h2 h3).move hX hA (fJ (hX.jC _ _) h2)⟩
def FA(A:Nat->Prop)(m:List MB)(is:List Nat):Nat->Prop:=fun b=>AA A m b∨∃i mb,i∈is∧m[i]? = some mb∧mb.own=some b
theorem FA.mono{is js:List Nat}(hs:∀i,i∈is->i∈js){b:Nat}(hb:FA A m is b):FA A m js b:=by
 rcases hb with h|⟨i,mb,h1,h2,h3⟩
 .exact .inl h
 exact .inr ⟨i,mb,hs i h1,h2,h3⟩
theorem Pq:∀(is:List Nat) {m:List MB} {i:Nat} {mb:MB},(bW is m)[i]? = some mb->mb.own≠none->i∉is∧m[i]? = some mb
 | [],_,_,_,h,_=>⟨by simp,h⟩
 |j::is,m,i,mb,h,hn=>by
  obtain⟨h1,h2⟩:=Pq is (m:=m.set j .gone) h hn;by_cases e:j=i
  .subst e;rw[a5k]at h2;cases hx:m[j]? with
   |none=>rw[hx]at h2;cases h2
   |some y=>rw[hx]at h2;cases h2;exact absurd rfl hn
  rw[a1j e]at h2;exact⟨by simp[h1,Ne.symm e],h2⟩
theorem BD{is:List Nat}{m:List MB}{b:Nat}(hb:b∈bI (bW is m)):∃i mb,i∉is∧m[i]? = some mb∧mb.own=some b:=by obtain⟨mb,hm,ho⟩:=a6v.1 hb;obtain⟨i,hi⟩:=a9B hm;obtain⟨h1,h2⟩:=Pq is hi (by rw[ho];simp);exact⟨i,mb,h1,h2,ho⟩
theorem FA.gone(hr:HR X P A m H h){is:List Nat}{b:Nat}(hb:FA A m is b):AA A (bW is m) b:=by
 rcases hb with hb|⟨i,mb,h1,h2,h3⟩
 .refine⟨hb.1,fun hm=>?_⟩;obtain⟨i,mb,_,h2,h3⟩:=BD hm;exact hb.2 (bD h2 h3)
 refine⟨hr.DU b (bD h2 h3),fun hm=>?_⟩;obtain⟨j,Nw,g1,g2,g3⟩:=BD hm;have:=jm hr.nodup h2 g2 h3 g3;exact g1 (this▸h1)
theorem TD(hX:bT X P)(hr:HR X P A m H h){k ex:Bool}{t i:Nat}{l:List (X.Γ t)}{x:TV}(hl:LR X P (AA A m) m h k ex t l x)(hi:m[i]? = some (.dH x)){is:List Nat}(hs:i∈is):VR X P (FA A m is) m' h (.dH t l false) x:=by
 cases hl with
 |nil=>exact .pU
 |emp h0 h1 h2 h3 h4=>exact .dH (.inl h0) h1 (fun e=>absurd rfl e) h3 h4 (by simpa using h2) (a15 _) (by simp) (fun j a hj=>by simp at hj) (fun j a i c v hj=>by simp at hj)
 |some h1 h2 h3 h4 h5 h6 h7 h8 h9=>
  refine .dH (cs:=_) (.inr ⟨i,_,hs,hi,?_⟩) (by unfold aX;rw[h4]) (fun _=>xP h4 (by omega)) h2 h3 (by omega) (a15 _) (by simp) h9.1 ?_
  .simp only[MB.own];rw[a0F (by simpa using h1)]
  intro j a q c v e1 e2 e3;exact((h9.2.2 j a q c v e1 e2 e3).mono fun b hb=>.inl hb).jC hX (fJ (hX.jC _ _) e2)
theorem VR.part{F:Nat->Prop}{t:Nat}{l:List (X.Γ t)}{fu:Bool}{b off len cap sz:Nat}{ex:Bool}(hv:VR X P F m h (.dH t l fu) (.aP b off len cap sz ex)){o n cap':Nat}{ex' fu':Bool}(hn:o+n<=len)(hc:n<=cap')(hw:n=0∨o+cap'=cap)(hfu:fu'=true->ex'=true∧cap'=n) :
  VR X P F m h (.dH t ((l.drop o).take n) fu') (.aP b (off+o*sz) n cap' sz ex'):=by
 cases hv with
 |dH a c c2 s z ol k f e r=>
  have hlen:((l.drop o).take n).length=n:=by rw[a4x,a4u];omega
  have:=@VR.dH X P F m h t ((l.drop o).take n) fu' b (off+o*sz) cap' sz ex' _ a c (fun iM=>by
   have h1:n≠0:=fun e=>iM (by subst e;simp);have h2:=hw.resolve_left h1;have h3:off+o*sz+cap'*sz=off+cap*sz:=by rw[<-h2,a3C];omega
   rw[h3];exact c2 (fun e=>by subst e;simp at hlen;omega)) s z (by
   rw[hlen];have:(o+n)*sz<=l.length*sz:=a3Z sz hn;rw[a3C]at this;omega) (by rw[hlen];exact hc) (by rw[hlen];exact hfu) (fun j y hy=>by
    rw[a5i]at hy;split at hy
    .rw[a5j]at hy;exact e _ _ hy
    .cases hy) (fun j y i d v hy h2 h3=>by
    rw[a5i]at hy;split at hy
    .rw[a5j]at hy;refine r _ _ i d v hy h2 ?_;rw[<-h3];congr 1;rw[a3C];omega
    .cases hy)
  rwa [hlen]at this
 |gone hi _ _=>simp[bH]at hi
mutual
theorem Vy(hX:bT X P)(hr:HR X P A m H h):∀{v w:PV X.Γ} {x:TV},VR X P (AA A m) m h v x->view H v=some w->∀{is:List Nat},(∀i,i∈kX v->i∈is)->VR X P (FA A m is) m' h w x
 |.own i,w,x,hv,hw,is,hs=>by
  simp only[view]at hw;split at hw
  .rename_i k ex t l hH;cases hw;obtain⟨mb,h1,h2⟩:=hr.at_ i _ hH;cases mb with
   |dH y=>
    cases hv with
    |own e o=>rw[h1]at e;cases e;exact TD hX hr h2 h1 (hs i (by simp[kX]))
    |gone hi e o=>simp only[bH,a0k]at hi;subst hi;rw[h1]at e;cases e
   |_=>exact h2.elim
  cases hw
 |.win i o n,w,x,hv,hw,is,hs=>by
  simp only[view]at hw;split at hw
  .rename_i k ex t l hH;cases hw;obtain⟨mb,h1,h2⟩:=hr.at_ i _ hH;cases mb with
   |dH y=>
    have h2':LR X P (AA A m) m h k ex t l y:=h2;have hfz:VR X P (FA A m is) m' h (.dH t l false) y:=TD hX hr h2' h1 (hs i (by simp[kX]));cases hv with
    |win e q q' q2=>
     rw[h1]at e;cases e;exact hfz.part q q' q2 (by simp)
    |Bv e=>
     rw[h1]at e;cases e;cases h2' with
     |nil=>simp only[List.drop_nil,List.take_nil];exact .pU
    |gone hi e o=>simp only[bH,a0k]at hi;subst hi;rw[h1]at e;cases e
   |_=>exact h2.elim
  cases hw
 |.fn f a c,w,x,hv,hw,is,hs=>by
  simp only[view]at hw;split at hw
  .rename_i a' c' h1 h2;cases hw;cases hv with
   |fn e1 e2 e3 e4=>
    have g1:=lX hX hr ⟨e1,e2⟩ h1 (is:=is) fun i hi=>hs i (by simp[kX,hi]);have g2:=lX hX hr ⟨e3,e4⟩ h2 (is:=is) fun i hi=>hs i (by simp[kX,hi]);exact .fn g1.1 g1.2 g2.1 g2.2
   |gone hi _ _=>simp[bH]at hi
  cases hw
 |.agg cs,w,x,hv,hw,is,hs=>by
  simp only[view,a0A]at hw;obtain⟨cs',h1,rfl⟩:=hw;cases hv with
  |agg e1 e2=>have g1:=lX hX hr ⟨e1,e2⟩ h1 (is:=is) fun i hi=>hs i (by simp[kX,hi]);exact .agg g1.1 g1.2
  |gone hi _ _=>simp[bH]at hi
 |.dJ cs,w,x,hv,hw,is,hs=>by
  simp only[view,a0A]at hw;obtain⟨cs',h1,rfl⟩:=hw;cases hv with
  |dJ e1 e2=>have g1:=lX hX hr ⟨e1,e2⟩ h1 (is:=is) fun i hi=>hs i (by simp[kX,hi]);exact .dJ g1.1 g1.2
  |gone hi _ _=>simp[bH]at hi
 |.bool b,w,x,hv,hw,is,hs=>by simp only[view,a0k]at hw;subst hw;exact(hv.mono fun b hb=>.inl hb).jC hX rfl
 |.lit b,w,x,hv,hw,is,hs=>by
  simp only[view,a0k]at hw;subst hw;cases hv with
  |lit=>exact .bool _
  |gone hi _ _=>simp[bH]at hi
 |.int k n,w,x,hv,hw,is,hs=>by simp only[view,a0k]at hw;subst hw;exact(hv.mono fun b hb=>.inl hb).jC hX rfl
 |.str b,w,x,hv,hw,is,hs=>by simp only[view,a0k]at hw;subst hw;exact(hv.mono fun b hb=>.inl hb).jC hX rfl
 |.nil b,w,x,hv,hw,is,hs=>by simp only[view,a0k]at hw;subst hw;exact(hv.mono fun b hb=>.inl hb).jC hX rfl
 |.dH t l f,w,x,hv,hw,is,hs=>by simp only[view,a0k]at hw;subst hw;exact(hv.mono fun b hb=>.inl hb).jC hX rfl
 |.ptr _ _ _,w,x,hv,hw,is,hs=>by simp[view]at hw
 |.aP _ _ _ _ _ _,w,x,hv,hw,is,hs=>by simp[view]at hw
 |.map _,w,x,hv,hw,is,hs=>by simp[view]at hw
 |.lF _,w,x,hv,hw,is,hs=>by simp[view]at hw
 |.el _ _ _,w,x,hv,hw,is,hs=>by simp[view]at hw
 |.row _ _ _,w,x,hv,hw,is,hs=>by simp[view]at hw
theorem lX(hX:bT X P)(hr:HR X P A m H h):∀{vs ws:List (PV X.Γ)} {xs:List TV},bZ X P (AA A m) m h vs xs->views H vs=some ws->∀{is:List Nat},(∀i,i∈kX.kP vs->i∈is)->bZ X P (FA A m is) m' h ws xs
 | [],ws,xs,hv,hw,is,hs=>by simp only[view.views,a0k]at hw;subst hw;rw[hv.inv0];exact .nil
 |v::vs,ws,xs,hv,hw,is,hs=>by
  obtain⟨x,r,rfl,h1,h2⟩:=hv.inv;simp only[view.views]at hw;split at hw
  .rename_i w UO g1 g2;cases hw;exact .cons (Vy hX hr h1 g1 fun i hi=>hs i (by simp[kX.kP,hi])) (lX hX hr h2 g2 fun i hi=>hs i (by simp[kX.kP,hi]))
  cases hw
end
end
open Go Tw
section
variable {X:lC} {P:LI1} {A B F:Nat->Prop} {m m':List MB} {h h':List HB} {H H':List (PB X.Γ)}
theorem a1X(hX:bT X P)(hr:HR X P A m H h){t:Nat}{cs:List (PV X.Γ)}{xs:List TV}(hv:bZ X P (AA A m) m h cs xs){a:X.Γ t}{is:List Nat}(hd:aak X H t cs=some (a,is)):bZ X P (FA A m is) m' h (X.enc t a) xs:=by
 unfold aak at hd;split at hd
 .rename_i vs h1;split at hd
  .rename_i b h2;simp only[a0k,a0T]at hd;obtain⟨rfl,rfl⟩:=hd;exact hX.dec h2 (lX hX hr hv h1 fun i hi=>hi)
  cases hd
 cases hd
theorem BF(hX:bT X P)(hr:HR X P A m H h){t sz:Nat}:∀{n:Nat} {cs:List (PV X.Γ)} {xs:List TV},bZ X P (AA A m) m h cs xs->∀{l:List (X.Γ t)} {is:List Nat},yQ X H t sz n cs=some (l,is)->l.length=n∧eX X P (FA A m is) m' h t l xs 0 sz
 | 0,cs,xs,hv,l,is,hd=>by simp only[yQ,a0k,a0T]at hd;obtain⟨rfl,rfl⟩:=hd;exact⟨rfl,fun j a hj=>by simp at hj,by simp,fun j a i c v hj=>by simp at hj⟩
 |n+1,cs,xs,hv,l,is,hd=>by
  simp only[yQ]at hd;split at hd
  rotate_left
  .cases hd
  rename_i vW;split at hd
  rotate_left
  .cases hd
  rename_i a js l' ks h1 h2;simp only[a0k,a0T]at hd;obtain⟨rfl,rfl⟩:=hd;have g1:=(a1X (m':=m') hX hr (hv.take sz) h1).mono fun b hb=>FA.mono (js:=js++ks) (fun i hi=>a5O _ hi) hb;obtain⟨e2,g2⟩:=BF hX hr (hv.drop sz) h2;have g2:=g2.mono fun b hb=>FA.mono (js:=js++ks) (fun i hi=>abS _ hi) hb;have hl:(X.enc t a).length=sz:=by rw[g1.1,a4x,<-hv.1];omega
  refine⟨by simp[e2],fun j b hj=>?_,?_,fun j b i c v hj hi hx=>?_⟩
  .cases j with
   |zero=>simp only[a3p,a0k]at hj;subst hj;exact hl
   |succ j=>exact g2.1 j b (by simpa using hj)
  .have:=g2.2.1;rw[a4u]at this;have h3:=hv.1;simp only[a4O,a3C];omega
  cases j with
  |zero=>
   simp only[a3p,a0k]at hj;subst hj;have aQ:i<sz:=by rw[<-hl];exact(a0n.1 hi).1
   refine g1.2 i c v hi ?_;rw[a5i,a0I aQ,<-hx];simp
  |succ j=>
   refine g2.2.2 j b i c v (by simpa using hj) hi ?_;rw[a5j,<-hx];congr 1;rw[a3C];omega
def SlR(X:lC)(P:LI1)(F:Nat->Prop)(m:List MB)(h:List HB)(t sz:Nat)(l:List (X.Γ t))(x:TV):Prop:=
 (x=.nil .aP∧l=[])∨∃b off cap ex cs,x=.aP b off l.length cap sz ex∧l.length<=cap∧aX h b=some cs∧(l≠[]->ny h b (off+cap*sz)=some cs)∧eX X P F m h t l cs off sz
theorem a1Y{t sz:Nat}{l:List (X.Γ t)}{fu:Bool}{x:TV}(hv:VR X P F m h (.dH t l fu) x)(hz:dI P t=some sz):SlR X P F m h t sz l x:=by
 cases hv with
 |pU=>exact .inl ⟨rfl,rfl⟩
 |dH a c c2 s z o k f e r=>
  rw[hz]at s;cases s;exact .inr ⟨_,_,_,_,_,rfl,k,c,c2,e,o,r⟩
 |gone hi _ _=>simp[bH]at hi
theorem a6S{k ex:Bool}{t sz:Nat}{l:List (X.Γ t)}{x:TV}(hv:LR X P F m h k ex t l x)(hz:dI P t=some sz):SlR X P F m h t sz l x:=by
 cases hv with
 |nil=>exact .inl ⟨rfl,rfl⟩
 |emp h0 h1 h2 h3 h4=>
  rw[hz]at h3;cases h3;exact .inr ⟨_,_,_,_,_,rfl,a15 _,h1,fun e=>absurd rfl e,fun j a hj=>by simp at hj,by simpa using h2,fun j a i c v hj=>by simp at hj⟩
 |some h1 h2 h3 h4 h5 h6 h7 h8 h9=>
  rw[hz]at h2;cases h2;exact .inr ⟨_,_,_,_,_,rfl,a15 _,by unfold aX;rw[h4],fun _=>xP h4 (by omega),h9⟩
theorem eX.part{t sz:Nat}{l:List (X.Γ t)}{cs:List TV}{off o n:Nat}(hv:eX X P F m h t l cs off sz)(hn:o+n<=l.length):eX X P F m h t ((l.drop o).take n) cs (off+o*sz) sz:=by
 have hlen:((l.drop o).take n).length=n:=by rw[a4x,a4u];omega
 refine⟨fun j y hy=>?_,?_,fun j y i c v hy h2 h3=>?_⟩
 .rw[a5i]at hy;split at hy
  .rw[a5j]at hy;exact hv.1 _ _ hy
  cases hy
 .have:=hv.2.1;have h2:(o+n)*sz<=l.length*sz:=a3Z sz hn;rw[hlen];rw[a3C]at h2;omega
 rw[a5i]at hy;split at hy
 .rw[a5j]at hy;refine hv.2.2 _ y i c v hy h2 ?_;rw[<-h3];congr 1;rw[a3C];omega
 cases hy
theorem eX.take{t sz:Nat}{l:List (X.Γ t)}{cs:List TV}{off:Nat}(hv:eX X P F m h t l cs off sz):eX X P F m h t l ((cs.drop off).take (l.length*sz)) 0 sz:=by
 refine⟨hv.1,?_,fun j a i c v h1 h2 h3=>?_⟩
 .have:=hv.2.1;rw[a4x,a4u];omega
 rw[a5i]at h3;split at h3
 .rw[a5j]at h3;exact hv.2.2 j a i c v h1 h2 (by rw[<-h3];congr 1;omega)
 cases h3
theorem SlR.src{t sz:Nat}{l:List (X.Γ t)}{x:TV}(hv:SlR X P F m h t sz l x):∃new,fM sz h x=some (l.length,new)∧new.length=l.length*sz∧eX X P F m h t l new 0 sz:=by
 rcases hv with⟨rfl,rfl⟩|⟨b,off,cap,ex,cs,rfl,hk,hc,L8,hw⟩
 .exact⟨[],rfl,by simp,fun j a hj=>by simp at hj,by simp,fun j a i c v hj=>by simp at hj⟩
 refine⟨(cs.drop off).take (l.length*sz),?_,?_,hw.take⟩
 .have:=hw.2.1;simp only[fM,a2s,sub];by_cases h0:l.length=0
  .rw[a0I h0,h0];simp
  rw[a0F h0,L8 (fun e=>h0 (by rw[e];rfl))];simp only;rw[a0I this];rfl
 have:=hw.2.1;rw[a4x,a4u];omega
theorem eX.app{t sz:Nat}{l r:List (X.Γ t)}{a b:List TV}(h1:eX X P F m h t l a 0 sz)(h2:eX X P F m h t r b 0 sz)(ha:a.length=l.length*sz):eX X P F m h t (l++r) (a++b) 0 sz:=by
 refine⟨fun j y hy=>?_,?_,fun j y i c v hy hi hx=>?_⟩
 .rcases a5h j l.length with hl|hl
  .rw[a0E hl]at hy;exact h1.1 j y hy
  rw[a1a hl]at hy;exact h2.1 _ y hy
 .have:=h2.2.1;simp only[a1p,a3C];omega
 rcases a5h j l.length with hl|hl
 .rw[a0E hl]at hy;have aQ:i<sz:=by rw[<-h1.1 j y hy];exact(a0n.1 hi).1
  have:(j+1)*sz<=l.length*sz:=a3Z sz hl;rw[a3C]at this;rw[a0E (by omega)]at hx;exact h1.2.2 j y i c v hy hi hx
 rw[a1a hl]at hy;have:l.length*sz<=j*sz:=a3Z sz hl;rw[a1a (by omega)]at hx;refine h2.2.2 _ y i c v hy hi ?_;rw[<-hx];congr 1;rw[ha,Nat.sub_mul];omega
theorem vk{Γ:Nat->Type}{t t':Nat}{l:List (Γ t')}{r:List (Γ t)}(h:DK t t' l=some r):∃e:t'=t,r=e▸l:=by
 unfold DK at h;split at h
 .rename_i e;cases h;exact⟨e,rfl⟩
 cases h
theorem Vz(hX:bT X P)(hr:HR X P A m H h){e sz:Nat}{x:PV X.Γ}{tx:TV}(hv:VR X P (AA A m) m h x tx)(hz:dI P e=some sz){rows:List (X.Γ e)}{is:List Nat}(hs:Bo X H e sz x=some (rows,is)) :
  ∃new,fM sz h tx=some (rows.length,new)∧new.length=rows.length*sz∧eX X P (FA A m is) m' h e rows new 0 sz:=by
 have up:∀{l:List (X.Γ e)} {y:TV},SlR X P (AA A m) m h e sz l y->∃new,fM sz h y=some (l.length,new)∧new.length=l.length*sz∧eX X P (FA A m []) m' h e l new 0 sz:=by intro l y hy;obtain⟨new,h1,h2,h3⟩:=hy.src;exact⟨new,h1,h2,(h3.mono fun b hb=>.inl hb).jC hX⟩
 cases x with
 |nil k=>
  cases k<;>simp only[Bo]at hs<;>try (cases hs;done)
  simp only[a0k,a0T]at hs;obtain⟨rfl,rfl⟩:=hs;cases hv with
  |nil=>exact up (.inl ⟨rfl,rfl⟩)
  |gone hi _ _=>simp[bH]at hi
 |dH t l fu=>
  simp only[Bo,a0A,a0T]at hs;obtain⟨r,h1,rfl,rfl⟩:=hs;obtain⟨rfl,rfl⟩:=vk h1;exact up (a1Y hv hz)
 |own i=>
  simp only[Bo]at hs;split at hs
  .rename_i k ex t l hH;simp only[a0A,a0T]at hs;obtain⟨r,h1,rfl,rfl⟩:=hs;obtain⟨rfl,rfl⟩:=vk h1;obtain⟨mb,g1,g2⟩:=hr.at_ i _ hH;cases mb with
   |dH y=>
    cases hv with
    |own e' o=>rw[g1]at e';cases e';exact up (a6S g2 hz)
    |gone hi e' o=>simp only[bH,a0k]at hi;subst hi;rw[g1]at e';cases e'
   |_=>exact g2.elim
  .cases hs
 |win i o n=>
  simp only[Bo]at hs;split at hs
  .rename_i k ex t l hH;simp only[a0A,a0T]at hs;obtain⟨r,h1,rfl,rfl⟩:=hs;obtain⟨rfl,rfl⟩:=vk h1;obtain⟨mb,g1,g2⟩:=hr.at_ i _ hH;cases mb with
   |dH y=>
    have hsl:=a6S g2 hz;cases hv with
    |win e' q q' q2=>
     rw[g1]at e';cases e';rcases hsl with⟨h,_⟩|⟨b,off,cap,ex',cs,he,hk,hc,L8,hw⟩
     .cases h
     .cases he;have hlen:n=((r.drop o).take n).length:=by rw[a4x,a4u];omega
      refine up (.inr ⟨_,_,_,_,cs,congrArg (fun k=>TV.aP _ _ k _ _ _) hlen,hlen▸q',hc,fun iM=>?_,hw.part q⟩);have h1:n≠0:=fun e=>iM (by subst e;simp);have h2:=q2.resolve_left h1;rw[<-L8 (fun e=>iM (by rw[e];simp)),<-h2];congr 1;rw[a3C];omega
    |Bv e'=>
     rw[g1]at e';cases e';refine up (.inl ⟨rfl,by simp⟩)
    |gone hi e' o=>simp only[bH,a0k]at hi;subst hi;rw[g1]at e';cases e'
   |_=>exact g2.elim
  .cases hs
 |aP b off len cap sz' ex=>
  simp only[Bo]at hs;split at hs
  .rename_i cs hH;split at hs
   .rename_i vW;obtain⟨vW,afn⟩:=vW;subst vW;obtain⟨mb,g1,g2⟩:=hr.at_ b _ hH;cases mb with
    |gK c=>
     obtain⟨cs',g3,g4⟩:=g2;cases hv with
     |aP e'=>
      rw[g1]at e';cases e';obtain⟨hl,hw⟩:=BF (m':=m') hX hr (g4.drop off) hs;subst hl;rw[g4.1]at afn;refine⟨(cs'.drop off).take (rows.length*sz'),?_,by rw[a4x,a4u];omega,by simpa using hw.take⟩;simp only[fM,a2s,xQ g3 (by simp),sub];split
      .rename_i h0;rw[h0,acQ,List.take_zero]
      .simp only[afn,a2s,a19]
     |gone hi e' o=>simp only[bH,a0k]at hi;subst hi;rw[g1]at e';cases e'
    |_=>exact g2.elim
   .cases hs
  .cases hs
 |_=>simp[Bo]at hs
end
open Go Tw
def Io(m:List MB)(i b:Nat):Prop:=∃mb,m[i]? = some mb∧mb.own=some b
structure IR(m:List MB)(h:List HB)(p:PI)(t:ni):Prop where
 all:t.all=true->p.i.all=true
 tl:∀k,.l k∈t.ts->.l k∈p.i.ts
 wl:∀k,.l k∈t.ws->.l k∈p.i.ws
 wh:∀b,.h b∈t.ws->(∃i,.h i∈p.i.ws∧Io m i b)∨(p.wall=true∧b∈bI m)
 th:∀b,.h b∈t.ts->((∃i,.h i∈p.i.ts∧Io m i b)∨b∉bI m)∧b<h.length
 hp:p.hp=false->t.all=false∧(∀b,.h b∉t.ts)∧∀b,.h b∉t.ws
theorem IR.none{m:List MB}{h:List HB}{p:PI}:IR m h p cZ:=⟨fun h=>(by cases h),fun _ h=>(by cases h),fun _ h=>(by cases h),fun _ h=>(by cases h),fun _ h=>(by cases h),fun _=>⟨rfl,fun _ h=>(by cases h),fun _ h=>(by cases h)⟩⟩
section
variable {X:lC} {P:LI1} {A F:Nat->Prop} {m m':List MB} {h h':List HB} {H H':List (PB X.Γ)}
structure vT(X:lC)(P:LI1)(A:Nat->Prop)(m:List MB)(ps:aT X.Γ)(ts:St):Prop where
 heap:HR X P A m ps.heap ts.heap
 llen:ps.loc.length=ts.loc.length
 loc:∀(k:Nat) cs,ps.loc[k]? = some cs->∃cs',ts.loc[k]? = some cs'∧bZ X P (AA A m) m ts.heap cs cs'
 env:kM X P (AA A m) m ts.heap ps.env ts.env
theorem vT.step{ps:aT X.Γ}{ts:St}(hR:vT X P A m ps ts){H1:List (PB X.Γ)}{h1:List HB}(hr:HR X P A m' H1 h1)(hF:Fr m ts.heap m' h1)(hU:Up m m'):vT X P A m' { ps with heap:=H1 } { ts with heap:=h1 }:=
 ⟨hr,hR.llen,fun k cs hk=>let ⟨cs',g1,g2⟩:=hR.loc k cs hk;⟨cs',g1,g2.step hF hU⟩,hR.env.step hF hU⟩
def OpR(X:lC)(P:LI1)(A:Nat->Prop)(m:List MB)(call:bn)(site:Nat->Bool)(ts:St)(o:Oper)(pe:PE X.Γ)(ps1:aT X.Γ)(pi:PI):Prop:=
 ∃ev iT ti m1,qp P call site ts o=some (ev,iT,ti)∧iT.env=ts.env∧iT.ws=ts.ws∧vT X P A m1 ps1 iT∧Jo X P (AA A m1) m1 iT.heap pe ev∧Fr m ts.heap m1 iT.heap∧Up m m1∧IR m ts.heap pi ti∧∀b,.h b∈ti.ws->b∈bI m
theorem vw{call:bn}{site:Nat->Bool}{ps:aT X.Γ}{ts:St}{o:Oper}{pe:PE X.Γ}{ev:EV}{pi:PI}(hR:vT X P A m ps ts)(h:qp P call site ts o=some (ev,ts,cZ))(hp:Jo X P (AA A m) m ts.heap pe ev):OpR X P A m call site ts o pe ps pi:=
 ⟨ev,ts,cZ,m,h,rfl,rfl,hR,hp,.refl,.refl,.none,fun b hb=>by cases hb⟩
theorem vT.D6{ps:aT X.Γ}{ts:St}(hR:vT X P A m ps ts){x:Operand}{b:Bool}(hb:rH ts.env x=some (.bool b)):vT X P A m (ps.D6 x b) ts:=by
 cases x with
 |tmp t=>
  refine⟨hR.heap,hR.llen,hR.loc,aaq hR.env ?_⟩;simp only[rH,Jk]at hb;split at hb
  .rename_i v hv;cases hb;exact hv
  cases hb
 |_=>exact hR
theorem TF{ps:aT X.Γ}{ts:St}(hR:vT X P A m ps ts){site:Bool}{cs:List (PV X.Γ)}{cs':List TV}(hc:bZ X P (AA A m) m ts.heap cs cs') :
  ∃m1,(rJ site ts cs').2.env=ts.env∧(rJ site ts cs').2.ws=ts.ws∧vT X P A m1 (EH site ps cs).2 (rJ site ts cs').2∧Jo X P (AA A m1) m1 (rJ site ts cs').2.heap (EH site ps cs).1 (rJ site ts cs').1∧Fr m ts.heap m1 (rJ site ts cs').2.heap∧Up m m1:=by
 cases site with
 |true=>
  have hp:=hR.heap.push (pb:=.cells cs) (hb:=.cells .own cs') (mb:=.gK ts.heap.length) (.inl rfl) ?_
  .refine⟨m++[.gK ts.heap.length],rfl,rfl,hR.step hp.1 hp.2.1 hp.2.2,?_,hp.2.1,hp.2.2⟩;show VR X P _ _ _ (.ptr ps.heap.length 0 cs.length) (.ptr ts.heap.length 0 cs'.length);rw[hc.1];exact .ptr (by rw[<-hR.heap.len];simp)
  .refine⟨cs',by simp,hc.step ?_ (xR _)⟩;refine⟨by simp,fun b hb _=>by rw[a0E hb],fun b hb=>?_,fun b cs hc=>⟨cs,by rw[gq (a0E (gZ hc)),hc],a15 _⟩⟩;rw[jr,a3v,kY]at hb;rcases hb with hb|hb
   .exact .inl hb
   .simp[MB.own]at hb;exact .inr (by omega)
 |false=>
  refine⟨m,rfl,rfl,⟨hR.heap,by simp[EH,rJ,hR.llen],fun k ds hk=>?_,hR.env⟩,?_,.refl,.refl⟩
  .simp only[EH,rJ,a3u,a3U]at hk ⊢;rcases a5h k ps.loc.length with hl|hl
   .rw[a0E hl]at hk;obtain⟨ds',g1,g2⟩:=hR.loc k ds hk;exact⟨ds',by rw[a0E (by rw[<-hR.llen];exact hl)];exact g1,g2⟩
   .rw[a1a hl]at hk;have:k-ps.loc.length=0:=by
     rcases abj (k-ps.loc.length)with e|e
     .exact e
     .rw[a4Y (by simp;omega)]at hk;cases hk
    rw[this]at hk;simp only[a3p,a0k]at hk;subst hk;exact⟨cs',by rw[a1a (by rw[<-hR.llen];exact hl),<-hR.llen,this];rfl,hc⟩
  .exact⟨hR.llen,rfl⟩
theorem jf{i:Nat}{mb:MB}{b:Nat}(h1:m[i]? = some mb)(h2:mb.own=some b):Io m i b:=⟨mb,h1,h2⟩
theorem a0h{i b:Nat}(h:Io m i b):b∈bI m:=let ⟨_,h1,h2⟩:=h;bD h1 h2
theorem IR.rdH{i b:Nat}(h0:Io m i b)(hl:b<h.length):IR m h ⟨yA (.h i),false,false,true⟩ (yA (.h b)):=
 ⟨fun h=>(by cases h),fun k hk=>(by simp[yA]at hk),fun k hk=>(by simp[yA]at hk),fun b hb=>(by simp[yA]at hb),fun c hc=>(by simp[yA]at hc;subst hc;exact⟨.inl ⟨i,by simp[yA],h0⟩,hl⟩),fun h=>(by cases h)⟩
theorem IR.wrH{i b:Nat}(h0:Io m i b)(hl:b<h.length):IR m h ⟨qo (.h i),false,false,true⟩ (qo (.h b)):=
 ⟨fun h=>(by cases h),fun k hk=>(by simp[qo]at hk),fun k hk=>(by simp[qo]at hk),fun c hc=>(by simp[qo]at hc;subst hc;exact .inl ⟨i,by simp[qo],h0⟩),fun c hc=>(by simp[qo]at hc;subst hc;exact⟨.inl ⟨i,by simp[qo],h0⟩,hl⟩),fun h=>(by cases h)⟩
theorem IR.loc{k:Nat}:IR m h ⟨yA (.l k),false,false,false⟩ (yA (.l k)):=
 ⟨fun h=>(by cases h),fun j hj=>by simpa[yA]using hj,fun k hk=>(by simp[yA]at hk),fun b hb=>(by simp[yA]at hb),fun c hc=>(by simp[yA]at hc),fun _=>⟨rfl,fun b hb=>(by simp[yA]at hb),fun b hb=>(by simp[yA]at hb)⟩⟩
theorem IR.apx{k:Nat}:IR m h ⟨qo (.l k),false,false,false⟩ (qo (.l k)):=
 ⟨fun h=>(by cases h),fun j hj=>by simpa[qo]using hj,fun j hj=>by simpa[qo]using hj,fun c hc=>(by simp[qo]at hc),fun c hc=>(by simp[qo]at hc),fun _=>⟨rfl,fun b hb=>(by simp[qo]at hb),fun b hb=>(by simp[qo]at hb)⟩⟩
theorem XI{t:LI2}{cs:List TV}{o sz off n:Nat}{x:TV}(ho:o+sz<=cs.length)(hp:uU P t ((cs.drop o).take sz) off=some x)(hn:dI P t=some n):uU P t cs (o+off)=some x∧off+n<=sz∧o+off+n<=cs.length:=by
 unfold uU at hp ⊢;split at hp
 .rename_i k ha hk;rw[hn]at hk;cases hk;simp only[a0A]at hp;obtain⟨r,h1,rfl⟩:=hp;unfold sub at h1;split at h1
  .rename_i hl;rw[a4x,a4u]at hl;refine⟨?_,by omega,by omega⟩;cases h1;simp only[ha,hn,sub];rw[a0I (by omega)];simp only[a19,a0k,TV.agg.injEq];rw[ai3,afL,afr,a8J (by omega)]
  cases h1
 .rename_i k ha hk;rw[hn]at hk;cases hk;split at hp
  .rename_i h1;subst h1;rw[a5i]at hp;split at hp
   .rename_i h2;rw[a5j]at hp;have:=(a0n.1 hp).1;refine⟨by simp only[ha,hn,a2s];exact hp,by omega,by omega⟩
   cases hp
  cases hp
 cases hp
theorem TG{t:LI2}{cs:List TV}{off:Nat}{x:TV}(hp:uU P t cs off=some x):∃n,dI P t=some n:=by
 unfold uU at hp;split at hp
 .rename_i n _ hn;exact⟨n,hn⟩
 .rename_i n _ hn;exact⟨n,hn⟩
 cases hp
theorem eX.row{t sz:Nat}{l:List (X.Γ t)}{cs:List TV}{off j:Nat}{a:X.Γ t}(hw:eX X P F m h t l cs off sz)(hj:l[j]? = some a):bZ X P F m h (X.enc t a) ((cs.drop (off+j*sz)).take sz)∧off+j*sz+sz<=cs.length:=by
 have hlen:=hw.1 j a hj;have aQ:j<l.length:=(a0n.1 hj).1;have h2:(j+1)*sz<=l.length*sz:=a3Z sz aQ;have h3:=hw.2.1;rw[a3C]at h2;refine⟨⟨by rw[hlen,a4x,a4u];omega,fun i c v hc hv=>?_⟩,by omega⟩;rw[a5i]at hv;split at hv
 .rw[a5j]at hv;exact hw.2.2 j a i c v hj hc hv
 cases hv
theorem BG{t:Nat}{l:List (X.Γ t)}{j:Nat}(hj:j<l.length):l[j]? = some (l.getD j (X.d0 t)):=by rw[a3r,a0D hj];rfl
theorem Hg(hX:bT X P){ps:aT X.Γ}{ts:St}(hR:vT X P A m ps ts){t:LI2}{pa:PE X.Γ}{ea:EV}(ha:Jo X P (AA A m) m ts.heap pa ea){v:PV X.Γ}{pi:ni}(hl:Bq X P t ps pa=some (v,pi)) :
  ∃x ti,loadT P t ts ea=some (x,ti)∧VR X P (AA A m) m ts.heap v x∧IR m ts.heap ⟨pi,false,false,!Vp pa⟩ ti∧ti.ws=[]:=by
 cases pa with
 |loc k off=>
  rw[EJ ha];simp only[Bq]at hl;split at hl
  .rename_i cs hk;simp only[a0A,a0T]at hl;obtain⟨w,h1,rfl,rfl⟩:=hl;obtain⟨cs',g1,g2⟩:=hR.loc k cs hk;obtain⟨x,g3,g4⟩:=BA g2 h1;exact⟨x,yA (.l k),by simp only[loadT,g1,g3,a19],g4,.loc,rfl⟩
  .cases hl
 |undef|ent|Fa=>simp[Bq]at hl
 |val a=>
  obtain⟨y,rfl,hy⟩:=gu ha;cases a with
  |ptr b off lim=>
   simp only[Bq]at hl;split at hl
   .rename_i cs n hb hn;split at hl
    .rename_i Me;simp only[a0A,a0T]at hl;obtain⟨w,h1,rfl,rfl⟩:=hl;obtain⟨mb,g1,g2⟩:=hR.heap.at_ b _ hb;cases mb with
     |gK c=>
      obtain⟨cs',g3,g4⟩:=g2;cases hy with
      |ptr e=>
       rw[g1]at e;cases e;obtain⟨x,g5,g6⟩:=BA g4 h1;refine⟨x,yA (.h c),?_,g6,.rdH (jf g1 rfl) (a0n.1 g3).1,rfl⟩;simp only[loadT,xQ g3 (show BK.own≠.last by simp),hn,Me,a2s,g5,a19]
      |gone hi e _=>simp only[bH,a0k]at hi;subst hi;rw[g1]at e;cases e
     |_=>exact g2.elim
    .cases hl
   .rename_i cs n hb hn;split at hl
    .rename_i Me;simp only[a0A,a0T]at hl;obtain⟨w,h1,rfl,rfl⟩:=hl;obtain⟨mb,g1,g2⟩:=hR.heap.at_ b _ hb;cases mb with
     |jF c=>
      obtain⟨g0,cs',g3,g4⟩:=g2;cases hy with
      |ptr e=>rw[g1]at e;cases e
      |gone hi e _=>
       simp only[bH,a0k]at hi;subst hi;rw[g1]at e;cases e with
       |r _ e=>
        simp only[roV,a0k]at e;subst e;obtain⟨x,g5,g6⟩:=BA g4 h1;refine⟨x,yA (.h c),?_,g6,⟨fun h=>(by cases h),fun k hk=>(by simp[yA]at hk),fun k hk=>(by simp[yA]at hk),fun b hb=>(by simp[yA]at hb),fun d hd=>?_,fun h=>(by cases h)⟩,rfl⟩
        .simp only[loadT,xQ g3 (show BK.own≠.last by simp),hn,Me,a2s,g5,a19]
        .simp[yA]at hd;subst hd;exact⟨.inr g0,(a0n.1 g3).1⟩
     |_=>exact g2.elim
    .cases hl
   .cases hl
  |row b j off=>
   simp only[Bq]at hl;split at hl
   .rename_i k ex e l hb;simp only[a0A,a0T]at hl;obtain⟨w,h1,rfl,rfl⟩:=hl;obtain⟨mb,g1,g2⟩:=hR.heap.at_ b _ hb;cases mb with
    |dH z=>
     cases hy with
     |row e' hj hq=>
      rw[g1]at e';cases e';cases(g2:LR X P _ _ _ _ _ _ _ _)with
      |emp=>omega
      |some q1 q2 q3 q4 q5 q6 q7 q8 q9=>
       have zA:=q9.row (BG hj);obtain⟨x,g5,g6⟩:=BA zA.1 h1;obtain⟨n,hn⟩:=TG g5;obtain⟨g7,g8,_⟩:=XI zA.2 g5 hn;rw[a4v]at g7;refine⟨x,yA (.h _),?_,g6,.rdH (jf g1 (by simp only[MB.own];rw[a0F (by simpa using q1)])) (a0n.1 q4).1,rfl⟩;have tH:=zA.2;simp only[loadT,xP q4 q8.symm,hn];rw[a0I (by omega),g7];rfl
     |gone hi e' _=>simp only[bH,a0k]at hi;subst hi;rw[g1]at e';cases e'
    |_=>exact g2.elim
   .cases hl
  |el e a off=>
   simp only[Bq,a0A,a0T]at hl;obtain⟨w,h1,rfl,rfl⟩:=hl;cases hy with
   |el q1 q2 q2' q3 q4 q5 q6=>
    rename_i b o sz lim cs;have zA:bZ X P (AA A m) m ts.heap (X.enc e a) ((cs.drop o).take sz):=by
     refine⟨by rw[q4,a4x,a4u];omega,fun i c v hc hv=>?_⟩;rw[a5i]at hv;split at hv
     .rw[a5j]at hv;exact q6 i c v hc hv
     .cases hv
    obtain⟨x,g5,g6⟩:=BA zA h1;obtain⟨n,hn⟩:=TG g5;obtain⟨g7,g8,_⟩:=XI q3 g5 hn;refine⟨x,yA (.h b),?_,g6,⟨fun h=>(by cases h),fun k hk=>(by simp[yA]at hk),fun k hk=>(by simp[yA]at hk),fun b hb=>(by simp[yA]at hb),fun c hc=>?_,fun h=>(by cases h)⟩,rfl⟩
    .simp only[loadT,q2,hn];rw[a0I (by omega),g7];rfl
    .simp[yA]at hc;subst hc;exact⟨.inr q1.2,a3T q2⟩
   |gone hi e' _=>simp[bH]at hi
  |_=>simp[Bq]at hl
end
open Go Tw
section
variable {X:lC} {P:LI1} {A F:Nat->Prop} {m m':List MB} {h h':List HB} {H H':List (PB X.Γ)}
theorem Px{cs new:List TV}{o sz off:Nat}{r:List TV}(ho:o+sz<=cs.length)(hr:wZ ((cs.drop o).take sz) off new=some r):wZ cs (o+off) new=some (cs.take o++r++cs.drop (o+sz))∧r.length=sz:=by
 unfold wZ at hr ⊢;split at hr
 rotate_left
 .cases hr
 rename_i hl;have rG:=hl;rw[a4x,a4u]at hl;cases hr;refine⟨?_,?_⟩
 .rw[a0I (by omega)];simp only[a0k];apply aao;intro i;simp only[List.getElem?_append,a1p,a4x,a4u,a5i,a5j];rcases a5h i o with h1|h1
  .simp (disch:=omega) only [a8J,a0I]
  rcases a5h i (o+off)with h2|h2
  .rw[a0I (by omega),a0I (by omega),a0I (by omega),a0I (by omega),a0F (by omega),a0I (by omega),a0I (by omega),a0I (by omega),a0I (by omega)];congr 1;omega
  rcases a5h i (o+off+new.length)with h3|h3
  .rw[a0I (by omega),a0F (by omega),a0I (by omega),a0F (by omega),a0I (by omega),a0F (by omega)];congr 1;omega
  rcases a5h i (o+sz)with h4|h4
  .rw[a0F (by omega),a0I (by omega),a0F (by omega),a0F (by omega),a0I (by omega)];congr 1;omega
  rw[a0F (by omega),a0F (by omega)];congr 1;omega
 simp only[a1p,a4x,a4u];omega
theorem eX.set{t sz j:Nat}{l:List (X.Γ t)}{cs r:List TV}{a:X.Γ t}(hw:eX X P F m h t l cs 0 sz)(hr:bZ X P F m h (X.enc t a) r)(hl:r.length=sz)(hj:j<l.length) :
  eX X P F m h t (l.set j a) (cs.take (j*sz)++r++cs.drop (j*sz+sz)) 0 sz:=by
 have h2:(j+1)*sz<=l.length*sz:=a3Z sz hj;rw[a3C]at h2;have h3:=hw.2.1;refine⟨fun k y hy=>?_,?_,fun k y i c v hy hi hx=>?_⟩
 .rw[aan]at hy;split at hy
  .cases hy;rw[hr.1,hl]
  .exact hw.1 k y hy
 .simp only[a1p,a4x,a4u,a5l];omega
 .rw[aan]at hy;split at hy
  .rename_i e;subst e;cases hy;have aQ:i<sz:=by rw[<-hl,<-hr.1];exact(a0n.1 hi).1
   refine hr.2 i c v hi ?_;rw[a0E (by simp only[a1p,a4x];omega),a1a (by rw[a4x];omega),a4x]at hx;rw[<-hx];congr 1;omega
  .rename_i e;have hlen:=hw.1 k y hy;have aQ:i<sz:=by rw[<-hlen];exact(a0n.1 hi).1
   have hk:k<l.length:=(a0n.1 hy).1;refine hw.2.2 k y i c v hy hi ?_;rw[<-hx];rcases a5h k j with h4|h4
   .have:(k+1)*sz<=j*sz:=a3Z sz h4;rw[a3C]at this;rw[a0E (by simp only[a1p,a4x];omega),a0E (by rw[a4x];omega),a5i,a0I (by omega)]
   .have h5:j+1<=k:=(by omega);have:(j+1)*sz<=k*sz:=a3Z sz h5;rw[a3C]at this;rw[a1a (by simp only[a1p,a4x];omega),a5j];congr 1;simp only[a1p,a4x];omega
theorem Lm{b:Nat}{pb:PB X.Γ}:∀{is:List Nat} {H:List (PB X.Γ)},is.contains b=false->bC is (H.set b pb)=(bC is H).set b pb
 | [],_,_=>rfl
 |i::is,H,hn=>by simp only[ai7,aa8,ai2,ne_eq]at hn;simp only[bC,XC];rw[List.set_comm _ _ hn.1,Lm hn.2]
theorem zH(hX:bT X P){ps ps1:aT X.Γ}{ts:St}(hR:vT X P A m ps ts){t:LI2}{pa:PE X.Γ}{ea:EV}(ha:Jo X P (AA A m) m ts.heap pa ea){v:PV X.Γ}{x:TV}(hv:VR X P (AA A m) m ts.heap v x){pi:ni}(hl:Vj X P t ps pa v=some (ps1,pi)) :
  ∃iT ti m1,storeT P t ts ea x=some (iT,ti)∧iT.env=ts.env∧iT.ws=ts.ws∧vT X P A m1 ps1 iT∧Fr m ts.heap m1 iT.heap∧Up m m1∧IR m ts.heap ⟨pi,false,false,!Vp pa⟩ ti∧∀b,.h b∈ti.ws->b∈bI m:=by
 have hc:=Ii hv;unfold Vj at hl;split at hl
 .rename_i n hn;split at hl
  .rename_i OA;have aar:x.cells.length=n∧x.cells.all jk=true:=⟨by rw[<-hc.1];exact OA.1,by rw[EI hc];exact OA.2⟩;cases pa with
   |loc k off=>
    rw[EJ ha];simp only at hl;split at hl
    .rename_i cs hk;simp only[a0A,a0T]at hl;obtain⟨ND,h1,rfl,rfl⟩:=hl;obtain⟨cs',g1,g2⟩:=hR.loc k cs hk;obtain⟨JI,g3,g4⟩:=Ij g2 hc h1;refine⟨{ ts with loc:=ts.loc.set k JI },qo (.l k),m,?_,rfl,rfl,⟨hR.heap,by simp[hR.llen],fun j ds hj=>?_,hR.env⟩,.refl,.refl,.apx,fun b hb=>by simp[qo]at hb⟩
     .simp only[storeT,hn,aar,ad1,a2s,g1,g3,a19]
     .by_cases e:k=j
      .subst e;rw[a5k]at hj;rw[hk]at hj;cases hj;exact⟨JI,by rw[a5k,g1];rfl,g4⟩
      .rw[a1j e]at hj;obtain⟨ds',q1,q2⟩:=hR.loc j ds hj;exact⟨ds',by rw[a1j e];exact q1,q2⟩
    .cases hl
   |undef|ent|Fa=>simp at hl
   |val a=>
    obtain⟨y,rfl,hy⟩:=gu ha;cases a with
    |ptr b off lim=>
     simp only at hl;split at hl
     .rename_i Me;split at hl
      .rename_i cs hb;simp only[a0A,a0T]at hl;obtain⟨ND,h1,rfl,rfl⟩:=hl;obtain⟨mb,g1,g2⟩:=hR.heap.at_ b _ hb;cases mb with
       |gK c=>
        obtain⟨cs',g3,g4⟩:=g2;cases hy with
        |ptr e=>
         rw[g1]at e;cases e;obtain⟨JI,g5,g6⟩:=Ij g4 hc h1;have hlen:JI.length=cs'.length:=by
          unfold wZ at g5;split at g5
          .cases g5;simp only[a1p,a4x,a4u];omega
          .cases g5
         have aQ:=(a0n.1 g3).1;obtain⟨hr1,hF⟩:=hR.heap.set (pb:=.cells ND) (hb:=.cells .own JI) g1 (c:=c) rfl (fun XJ XK=>⟨JI,by simp[aX,aQ],by
          simp only[aX,g3,a0k]at XK;subst XK;omega⟩) fun hF=>⟨JI,by simp[aQ],g6.step hF .refl⟩
         refine⟨{ ts with heap:=ts.heap.set c (.cells .own JI) },qo (.h c),m,?_,rfl,rfl,hR.step hr1 hF .refl,hF,.refl,.wrH (jf g1 rfl) aQ,fun b hb=>?_⟩
         .simp only[storeT,hn,aar,ad1,a2s,Me,XF g3,g5,a19]
         .simp[qo]at hb;subst hb;exact bD g1 rfl
        |gone hi e _=>simp only[bH,a0k]at hi;subst hi;rw[g1]at e;cases e
       |_=>exact g2.elim
      .cases hl
     .cases hl
    |row b j off=>
     simp only at hl;split at hl
     .rename_i k0 ex e l hb;split at hl
      .rename_i ND h1;split at hl
       .rename_i a is hd;split at hl
        .cases hl
        .rename_i hnb;simp only[a0k,a0T]at hl;obtain⟨rfl,rfl⟩:=hl;obtain⟨mb,g1,g2⟩:=hR.heap.at_ b _ hb;cases mb with
         |dH z=>
          cases hy with
          |row e' hj hq=>
           rw[g1]at e';cases e';cases(g2:LR X P _ _ _ _ _ _ _ _)with
           |emp=>omega
           |some q1 q2 q3 q4 q5 q6 q7 q8 q9=>
            rename_i c sz xx kk cs;obtain⟨CP,yL,hkr,hko⟩:=JG q5;have wK:(MB.dH (TV.aP c 0 l.length l.length sz xx)).own=some c:=by simp only[MB.own];rw[a0F (by simpa using q1)]
            have zA:=q9.row (BG hj);simp only[a4v]at zA;obtain⟨r,g3,g4⟩:=Ij zA.1 hc h1;obtain⟨g5,g6⟩:=Px zA.2 g3;have apy:=a1X (m':=bW is m) hX hR.heap g4 hd;have hgo:=hR.heap.bC is;have RF:=iH (h:=ts.heap) is m;have ajr:is.contains b=false:=(by simpa using hnb);have WX:(bW is m)[b]? = some (.dH (.aP c 0 l.length l.length sz xx)):=by rw[Ig is g1,ajr];rfl
            have aQ:=(a0n.1 q4).1;have Sr:(cs.take (j*sz)++r++cs.drop (j*sz+sz)).length=cs.length:=by simp only[a1p,a4x,a4u];omega
            obtain⟨hr1,hF⟩:=hgo.set (pb:=.list k0 ex e (l.set j a)) (hb:=.cells CP (cs.take (j*sz)++r++cs.drop (j*sz+sz))) WX wK (fun XJ XK=>⟨cs.take (j*sz)++r++cs.drop (j*sz+sz),by simp[aX,aQ],by
             simp only[aX,q4,a0k]at XK;subst XK;omega⟩) fun hF=>by
              have hw:=(q9.step RF.1 RF.2).set (apy.mono fun b hb=>hb.gone hR.heap) g6 hj;have:=LR.some (X:=X) (P:=P) (A:=AA A (bW is m)) (m:=bW is m) (h:=ts.heap.set c (.cells CP (cs.take (j*sz)++r++cs.drop (j*sz+sz)))) (k:=k0) (ex:=ex) (t:=e) (l:=l.set j a) (b:=c) (sz:=sz) (e:=xx) (kk:=CP) (cs:=cs.take (j*sz)++r++cs.drop (j*sz+sz))
               (by intro e0;apply q1;have:=congrArg List.length e0;rw[a5l]at this;exact a8r.1 this) q2 q3 (by simp[aQ]) hkr (fun e0=>hko (q6 e0)) q7 (by rw[Sr,a5l];exact q8) (hw.step hF .refl)
              rw[a5l]at this;exact this
            rw[<-Lm ajr]at hr1;have Xt:=RF.1.trans hF;refine⟨{ ts with heap:=ts.heap.set c (.cells CP (cs.take (j*sz)++r++cs.drop (j*sz+sz))) },qo (.h c),bW is m,?_,rfl,rfl,hR.step hr1 Xt RF.2,Xt,RF.2,.wrH (jf g1 wK) aQ,fun b hb=>?_⟩
            .have h9:j*sz+off+n<=l.length*sz:=by
              have h8:=zA.2;unfold wZ at g3;split at g3
              .rename_i h0;rw[a4x,a4u,aar.1]at h0;omega
              .cases g3
             simp only[storeT,hn,aar,ad1,a2s,h9,a1S q4 yL q8.symm,g5,a19]
            .simp[qo]at hb;subst hb;exact bD g1 wK
          |gone hi e' _=>simp only[bH,a0k]at hi;subst hi;rw[g1]at e';cases e'
         |_=>exact g2.elim
       .cases hl
      .cases hl
     .cases hl
    |_=>simp at hl
  .cases hl
 .cases hl
end
open Go Tw
section
variable {X:lC} {P:LI1} {A F:Nat->Prop} {m m':List MB} {h h':List HB} {H H':List (PB X.Γ)}
theorem oM{v:PV X.Γ}{x:TV}(hv:VR X P A m h v x):Jo X P A m h (.val v) (.val x):=hv
theorem Ou{ps:aT X.Γ}{ts:St}(hR:vT X P A m ps ts){o:Nat}{pa pb:PE X.Γ}{ea:EV}(ha:Jo X P (AA A m) m ts.heap pa ea)(hl:Ic X ps o pa=some pb):∃eb,Rk o ea=some eb∧Jo X P (AA A m) m ts.heap pb eb:=by
 cases pa with
 |loc k off=>
  rw[EJ ha];simp only[Ic,a0k]at hl;subst hl;exact⟨.loc k (off+o),rfl,rfl,rfl⟩
 |undef|ent|Fa=>simp[Ic]at hl
 |val a=>
  obtain⟨y,rfl,hy⟩:=gu ha;cases a with
  |ptr b off lim=>
   simp only[Ic]at hl;split at hl
   .rename_i cs hb;split at hl
    .rename_i hle;cases hl;obtain⟨mb,g1,g2⟩:=hR.heap.at_ b _ hb;cases mb with
     |gK c=>
      cases hy with
      |ptr e=>exact⟨.val (.ptr _ (off+o) lim),by simp only[Rk,hle,a2s],VR.ptr e⟩
      |gone hi e q=>simp only[bH,a0k]at hi;subst hi;rw[g1]at e;cases e
     |_=>exact g2.elim
    cases hl
   .rename_i cs hb;split at hl
    .rename_i hle;cases hl;obtain⟨mb,g1,g2⟩:=hR.heap.at_ b _ hb;cases mb with
     |jF c=>
      cases hy with
      |ptr e=>rw[g1]at e;cases e
      |gone hi e q=>
       simp only[bH,a0k]at hi;subst hi;rw[g1]at e;cases e with
       |r _ e=>simp only[roV,a0k]at e;subst e;exact⟨.val (.ptr _ (off+o) lim),by simp only[Rk,hle,a2s],VR.gone rfl (.ofR g1 rfl) rfl⟩
     |_=>exact g2.elim
    cases hl
   cases hl
  |el t a off=>
   simp only[Ic]at hl;split at hl
   .rename_i hle;cases hl;cases hy with
    |el q1 q2 q2' q3 q4 q5 q6=>
     rename_i b o0 sz lim cs;rw[q4]at hle;refine⟨.val (.ptr b (o0+off+o) lim),by simp only[Rk];rw[a0I (by omega)],?_⟩;rw[aay];exact VR.el q1 q2 q2' q3 q4 hle q6
    |gone hi _ _=>simp[bH]at hi
   cases hl
  |row b j off=>
   simp only[Ic,aje]at hl;split at hl
   rotate_left
   .cases hl
   rename_i n hn;split at hn
   rotate_left
   .cases hn
   rename_i k ex e l hb;cases hn;split at hl
   .rename_i hle;cases hl;obtain⟨mb,g1,g2⟩:=hR.heap.at_ b _ hb;cases mb with
    |dH z=>
     cases hy with
     |row e' hj hq=>
      rw[g1]at e';cases e';cases(g2:LR X P _ _ _ _ _ _ _ _)with
      |emp=>omega
      |some q1 q2 q3 q4 q5 q6 q7 q8 q9=>
       rw[q9.1 j _ (BG hj)]at hle;have zA:=(q9.row (BG hj)).2;refine⟨.val (.ptr _ (j*_+off+o) (l.length*_)),by simp only[Rk];rw[a0I (by omega)],?_⟩;rw[aay];exact VR.row g1 hj hle
     |gone hi e' _=>simp only[bH,a0k]at hi;subst hi;rw[g1]at e';cases e'
    |_=>exact g2.elim
   cases hl
  |_=>simp[Ic]at hl
theorem aat{ps:aT X.Γ}{ts:St}(hR:vT X P A m ps ts){b:Nat}{k ex:Bool}{e:Nat}{l:List (X.Γ e)}(hb:ps.heap[b]? = some (.list k ex e l)){y:TV}(hy:VR X P (AA A m) m ts.heap (.own b) y)(hl:l≠[]) :
  ∃c sz x,y=.aP c 0 l.length l.length sz x∧m[b]? = some (.dH y)∧dI P e=some sz∧0<sz:=by
 obtain⟨mb,g1,g2⟩:=hR.heap.at_ b _ hb;cases mb with
 |dH z=>
  cases hy with
  |own e' o=>
   rw[g1]at e';cases e';cases(g2:LR X P _ _ _ _ _ _ _ _)with
   |nil=>exact absurd rfl hl
   |emp=>exact absurd rfl hl
   |some q1 q2 q3=>exact⟨_,_,_,rfl,g1,q2,q3⟩
  |gone hi e' _=>simp only[bH,a0k]at hi;subst hi;rw[g1]at e';cases e'
 |_=>exact g2.elim
theorem AZ{ps:aT X.Γ}{ts:St}(hR:vT X P A m ps ts){t:LI2}{px pb:PE X.Γ}{ex:EV}(hx:Jo X P (AA A m) m ts.heap px ex){i:PV X.Γ}{ti:TV}(hi:VR X P (AA A m) m ts.heap i ti){qs:List Prop}(hl:Gs X P t ps px i=some (pb,qs))(hq:∀q∈qs,q) :
  ∃eb,nC P t ex ti=some eb∧Jo X P (AA A m) m ts.heap pb eb:=by
 have V7:∀{k:IntKind} {iv:Int} {n:Nat},fD iv n->idx n (.int k iv)=some iv.toNat∧iv.toNat<n:=by intro k iv n hn;unfold fD at hn;refine⟨by simp only[idx];rw[a0I hn],by omega⟩
 have hpi:∀{n j:Nat},a3Q X n i=some j->idx n ti=some j:=by
  intro n j hj;cases i<;>simp only[a3Q]at hj<;>try (cases hj;done)
  cases hi with
  |int=>exact hj
  |gone e _ _=>simp[bH]at e
 unfold Gs at hl;split at hl
 .rename_i e hu;split at hl
  .rename_i n t' l fu k iv hn;split at hl
   .rename_i ht;subst ht;simp only[a0k,a0T]at hl;obtain⟨rfl,rfl⟩:=hl;have hr:=V7 (k:=k) (hq _ a3E);have:ti=.int k iv:=by
     cases hi with
     |int=>rfl
     |gone e _ _=>simp[bH]at e
    subst this;obtain⟨y,rfl,hy⟩:=gu hx;rcases a1Y hy hn with⟨rfl,rfl⟩|⟨b,off,cap,ex',cs,rfl,hk,hc,L8,hw⟩
    .have:=hr.2;simp at this
    .have zA:=hw.row (BG hr.2);have hA:AA A m b:=by
      cases hy with
      |dH a=>exact a
      |gone e _ _=>simp[bH]at e
     have OA:=L8 (by intro e0;rw[e0]at hr;have:=hr.2;simp at this);have hle:off+iv.toNat*n+n<=off+cap*n:=by have h1:(iv.toNat+1)*n<=cap*n:=a3Z n (by have:=hr.2;omega);rw[a3C,aav]at h1;omega
     refine⟨.val (.ptr b (off+iv.toNat*n) (off+cap*n)),?_,?_⟩
     .simp only[nC,hu,hn,a2s,hr.1,a19]
     .have:=VR.el (X:=X) (P:=P) (A:=AA A m) (m:=m) (h:=ts.heap) (t:=t') (a:=l.getD iv.toNat (X.d0 t')) (off:=0) (o:=off+iv.toNat*n) hA OA hle zA.2 (hw.1 _ _ (BG hr.2)) (a5u _) (fun i c v h1 h2=>hw.2.2 _ _ i c v (BG hr.2) h1 h2);exact oM (by simpa using this)
   .cases hl
  .rename_i n b k iv hn;split at hl
   .rename_i w ex' t' l hb;split at hl
    .rename_i ht;subst ht;simp only[a0k,a0T]at hl;obtain⟨rfl,rfl⟩:=hl;have hr:=V7 (k:=k) (hq _ a3E);have:ti=.int k iv:=by
      cases hi with
      |int=>rfl
      |gone e _ _=>simp[bH]at e
     subst this;obtain⟨y,rfl,hy⟩:=gu hx;obtain⟨c,sz,x',rfl,g1,g2,g3⟩:=aat hR hb hy (by intro e0;rw[e0]at hr;have:=hr.2;simp at this);rw[hn]at g2;cases g2;refine⟨.val (.ptr c (iv.toNat*n) (l.length*n)),?_,?_⟩
     .simp only[nC,hu,hn,a2s,hr.1,a19,a4v]
     .have:=VR.row (X:=X) (P:=P) (A:=AA A m) (m:=m) (h:=ts.heap) (off:=0) g1 hr.2 (a5u n);exact oM (by simpa using this)
    .cases hl
   .cases hl
  .rename_i n b o q k iv hn;split at hl
   .rename_i w ex' t' l hb;split at hl
    .rename_i ht;subst ht;simp only[a0k,a0T]at hl;obtain⟨rfl,rfl⟩:=hl;have hr:=V7 (k:=k) (hq _ a3E);have:ti=.int k iv:=by
      cases hi with
      |int=>rfl
      |gone e _ _=>simp[bH]at e
     subst this;obtain⟨y,rfl,hy⟩:=gu hx;obtain⟨mb,g1,g2⟩:=hR.heap.at_ b _ hb;cases mb with
     |dH z=>
      cases hy with
      |win e' w1 w2 w3=>
       rw[g1]at e';cases e';cases(g2:LR X P _ _ _ _ _ _ _ _)with
       |emp=>have:=hr.2;omega
       |some q1 q2 q3=>
        rw[hn]at q2;cases q2;have hp:=oM (VR.row (X:=X) (P:=P) (A:=AA A m) (m:=m) (h:=ts.heap) (j:=o+iv.toNat) (off:=0) g1 (by have:=hr.2;omega) (a5u n));refine⟨_,?_,hp⟩;have h3:=w3.resolve_left (by have:=hr.2;omega);simp only[nC,hu,hn,a2s,hr.1,a19,a4v,a3C,aex,<-h3]
      |Bv e'=>have:=hr.2;omega
      |gone hi e' _=>simp only[bH,a0k]at hi;subst hi;rw[g1]at e';cases e'
     |_=>exact g2.elim
    .cases hl
   .cases hl
  .rename_i n b off len cap sz ex' hn;split at hl
   .rename_i cs hb;split at hl
    .rename_i vW;subst vW;simp only[a0A,a0T]at hl;obtain⟨j,h1,rfl,rfl⟩:=hl;obtain⟨y,rfl,hy⟩:=gu hx;obtain⟨mb,g1,g2⟩:=hR.heap.at_ b _ hb;cases mb with
     |gK c=>
      cases hy with
      |aP e=>
       have:=hpi h1;rw[g1]at e;cases e;exact⟨.val (.ptr c (off+j*n) (off+cap*n)),by simp only[nC,hu,hn,a2s,this,a19],VR.ptr g1⟩
      |gone xk e' _=>simp only[bH,a0k]at xk;subst xk;rw[g1]at e';cases e'
     |_=>exact g2.elim
    .cases hl
   .cases hl
  .cases hl
 .rename_i len e hu;split at hl
  .rename_i n hn;split at hl
   .rename_i j hj;simp only[a0A,a0T]at hl;obtain⟨pa,h1,rfl,rfl⟩:=hl;obtain⟨eb,g1,g2⟩:=Ou hR hx h1;exact⟨eb,by simp only[nC,hu,hn,hpi hj,g1],g2⟩
   .cases hl
  .cases hl
 .cases hl
end
open Go Tw
section
variable {X:lC} {P:LI1} {A F:Nat->Prop} {m m':List MB} {h h':List HB} {H H':List (PB X.Γ)}
theorem ZE(hr:HR X P A m H h){at_:Array LI2}{x:PV X.Γ}{tx:TV}(hx:VR X P (AA A m) m h x tx){v:PV X.Γ}{pi:ni}(hl:aff X P at_ H x=some (v,pi)) :
  ∃w ti,Zt P at_ h tx=some (w,ti)∧VR X P (AA A m) m h v w∧IR m h ⟨pi,false,false,true⟩ ti∧ti.ws=[]:=by
 unfold aff at hl;split at hl
 .rename_i t ht;unfold Zt;simp only[ht];split at hl
  .rename_i s hu;cases hl;cases hx with
   |str=>exact⟨_,_,by first|(simp only[hu];done)|(simp only[hu];rfl),.int _ _,.none,rfl⟩
   |gone hi _ _=>simp[bH]at hi
  .rename_i n e _ hu;cases hl;exact⟨_,_,by first|(simp only[hu];done)|(simp only[hu];rfl),.int _ _,.none,rfl⟩
  .rename_i e b off len cap sz ex hu;split at hl
   .rename_i cs hb;cases hl;obtain⟨mb,g1,g2⟩:=hr.at_ b _ hb;cases mb with
    |gK c=>
     cases hx with
     |aP e'=>exact⟨_,_,by first|(simp only[hu];done)|(simp only[hu];rfl),.int _ _,.none,rfl⟩
     |gone hi e' _=>simp only[bH,a0k]at hi;subst hi;rw[g1]at e';cases e'
    |_=>exact g2.elim
   .cases hl
  .rename_i e hu;cases hl;cases hx with
   |nil=>exact⟨_,_,by first|(simp only[hu];done)|(simp only[hu];rfl),.int _ _,.none,rfl⟩
   |gone hi _ _=>simp[bH]at hi
  .rename_i e t' l fu hu;cases hl;cases hx with
   |pU=>exact⟨_,_,by first|(simp only[hu];done)|(simp only[hu];rfl),.int _ _,.none,rfl⟩
   |dH=>exact⟨_,_,by first|(simp only[hu];done)|(simp only[hu];rfl),.int _ _,.none,rfl⟩
   |gone hi _ _=>simp[bH]at hi
  .rename_i e b hu;split at hl
   .rename_i k ex t' l hb;cases hl;obtain⟨mb,g1,g2⟩:=hr.at_ b _ hb;cases mb with
    |dH z=>
     cases hx with
     |own e' _=>
      rw[g1]at e';cases e';cases(g2:LR X P _ _ _ _ _ _ _ _)with
      |nil=>exact⟨_,_,by first|(simp only[hu];done)|(simp only[hu];rfl),.int _ _,.none,rfl⟩
      |emp=>exact⟨_,_,by first|(simp only[hu];done)|(simp only[hu];rfl),.int _ _,.none,rfl⟩
      |some=>exact⟨_,_,by first|(simp only[hu];done)|(simp only[hu];rfl),.int _ _,.none,rfl⟩
     |gone hi e' _=>simp only[bH,a0k]at hi;subst hi;rw[g1]at e';cases e'
    |_=>exact g2.elim
   .cases hl
  .rename_i e b o n hu;split at hl
   .rename_i k ex t' l hb;cases hl;obtain⟨mb,g1,g2⟩:=hr.at_ b _ hb;cases mb with
    |dH z=>
     cases hx with
     |win=>exact⟨_,_,by first|(simp only[hu];done)|(simp only[hu];rfl),.int _ _,.none,rfl⟩
     |Bv=>exact⟨_,_,by first|(simp only[hu];done)|(simp only[hu];rfl),.int _ _,.none,rfl⟩
     |gone hi e' _=>simp only[bH,a0k]at hi;subst hi;rw[g1]at e';cases e'
    |_=>exact g2.elim
   .cases hl
  .rename_i kt e hu;cases hl;cases hx with
   |nil=>exact⟨_,_,by first|(simp only[hu];done)|(simp only[hu];rfl),.int _ _,.none,rfl⟩
   |gone hi _ _=>simp[bH]at hi
  .rename_i kt e r hu;split at hl
   .rename_i es hb;cases hl;obtain⟨mb,g1,g2⟩:=hr.at_ r _ hb;cases mb with
    |gK c=>
     obtain⟨gJ,g3,g4,g5⟩:=g2;cases hx with
     |map e'=>
      rw[g1]at e';cases e';exact⟨_,_,by first|(simp only[hu,g3];done)|(simp only[hu,g3];rfl),by rw[g4];exact .int _ _,.rdH (jf g1 rfl) (a0n.1 g3).1,rfl⟩
     |gone hi e' _=>simp only[bH,a0k]at hi;subst hi;rw[g1]at e';cases e'
    |_=>exact g2.elim
   .cases hl
  .cases hl
 .cases hl
def a6U:BinOp->Option TV
 |.eql=>some (.bool false)
 |.neq=>some (.bool true)
 |_=>none
theorem ZB{op:BinOp}{t:LI2}{x y:Operand}{a b:PV X.Γ}{ta tb:TV}(ha:VR X P A m h a ta)(hb:VR X P A m h b tb){v:PV X.Γ}(hl:afg X P op t x y a b=some v):∃w,tZ P op t x y ta tb=some w∧VR X P A m h v w:=by
 unfold afg at hl;split at hl
 .rename_i u w h1 h2;split at hl
  .rename_i r hr;rw[kC ha h1,kC hb h2];exact⟨r,hr,xU hl⟩
  cases hl
 rename_i Zm;split at hl
 rotate_left
 .cases hl
 rename_i hn;have key:∃k,KU P t=some k∧((ta=.nil k∧KT tb=some k∧tb.zk=none)∨(tb=.nil k∧KT ta=some k∧ta.zk=none)):=by
  unfold a1P at hn;split at hn
  rotate_left
  .cases hn
  rename_i k hk;refine⟨k,hk,?_⟩;simp only[a9P,a2c,a6Z]at hn;have ajs:∀{z:PV X.Γ} {tz:TV},VR X P A m h z tz->z=.nil k->tz=.nil k:=by
   intro z tz hz e;subst e;cases hz with
   |nil=>rfl
   |gone hi _ _=>simp[bH]at hi
  have acZ:∀{z:PV X.Γ} {tz:TV},VR X P A m h z tz->(match z with|.fn _ _ _=>some NK.fn|.el _ _ _=>some NK.ptr|_=>none)=some k->KT tz=some k∧tz.zk=none:=by
   intro z tz hz e;cases hz with
   |fn=>exact⟨e,rfl⟩
   |el=>exact⟨e,rfl⟩
   |gone hi _ _=>cases z<;>simp[bH]at hi<;>simp at e
   |_=>simp at e
  have ajt:∀{z:PV X.Γ},(match z with|.nil k=>some k|_=>none)=some k->z=.nil k:=by
   intro z e;cases z<;>simp at e
   rw[e]
  rcases hn with⟨h1,h2⟩|⟨h1,h2⟩
  .have:=acZ hb h2;exact .inl ⟨ajs ha (ajt h1),this.1,this.2⟩
  have:=acZ ha h1;exact .inr ⟨ajs hb (ajt h2),this.1,this.2⟩
 obtain⟨k,hk,hc⟩:=key;have afo:tZ P op t x y ta tb=a6U op:=by
  rcases hc with⟨rfl,h2,h3⟩|⟨rfl,h2,h3⟩
  .have hnn:Dk P t (.nil k) tb=true:=by unfold Dk;rw[hk];simp[Zu,h2]
   unfold tZ;rw[h3];cases(TV.nil k).zk<;>simp only[hnn,a2s]<;>cases op<;>rfl
  have hnn:Dk P t ta (.nil k)=true:=by unfold Dk;rw[hk];simp[Zu,h2]
  unfold tZ;rw[h3];simp only[hnn,a2s];cases op<;>rfl
 rw[afo];cases op<;>simp only at hl ⊢<;>try (cases hl;done)
 .cases hl;exact⟨_,rfl,.bool _⟩
 cases hl;exact⟨_,rfl,.bool _⟩
theorem Py{op:BinOp}{t:LI2}{x y:Operand}{b:PV X.Γ}{ta tb:TV}(hb:VR X P A m h b tb){v:PV X.Γ}{q q':Prop}(hl:Nu X P op t b q=some (v,q'))(hq:q')(h2:q->KT ta=some .aP∧ta.zk=none):∃w,tZ P op t x y ta tb=some w∧VR X P A m h v w:=by
 unfold Nu at hl;split at hl
 .rename_i hk;have h1:tb=.nil .aP:=by
   cases hb with
   |nil=>rfl
   |gone hi _ _=>simp[bH]at hi
  subst h1;have key:q->tZ P op t x y ta (.nil .aP)=a6U op:=fun hq=>by
   obtain⟨h2,h3⟩:=h2 hq;have hnn:Dk P t ta (.nil .aP)=true:=by unfold Dk;rw[hk];simp[Zu,h2]
   unfold tZ;rw[h3];simp only[hnn,a2s];cases op<;>rfl
  split at hl
  .cases hl;rw[key hq];exact⟨_,rfl,.bool _⟩
  .cases hl;rw[key hq];exact⟨_,rfl,.bool _⟩
  cases hl
 cases hl
theorem a3V(hr:HR X P A m H h){op:BinOp}{t:LI2}{x y:Operand}{a b:PV X.Γ}{ta tb:TV}(ha:VR X P (AA A m) m h a ta)(hb:VR X P (AA A m) m h b tb){v:PV X.Γ}{q:Prop}(hl:Vl X P op t H a b=some (v,q))(hq:q):∃w,tZ P op t x y ta tb=some w∧VR X P (AA A m) m h v w:=by
 unfold Vl at hl;split at hl
 .rename_i l fu;refine Py hb hl hq (fun iM=>?_);cases ha with
  |pU=>exact absurd rfl iM
  |dH=>exact⟨rfl,rfl⟩
  |gone hi _ _=>simp[bH]at hi
 .rename_i i;split at hl
  .rename_i k ex t' l hi;refine Py hb hl hq (fun iM=>?_);obtain⟨mb,g1,g2⟩:=hr.at_ i _ hi;cases ha with
   |own e o=>
    rw[g1]at e;cases e;cases g2 with
    |nil=>exact absurd rfl iM
    |emp=>exact absurd rfl iM
    |some=>exact⟨rfl,rfl⟩
   |gone hi e _=>simp only[bH,a0k]at hi;subst hi;rw[g1]at e;cases e<;>exact g2.elim
  cases hl
 cases hl
theorem ji{op:UnOp}{a:PV X.Γ}{ta:TV}(ha:VR X P A m h a ta){v:PV X.Γ}(hl:pun X P op a=some v):∃w,unT P op ta=some w∧VR X P A m h v w:=by
 unfold pun at hl;split at hl
 .rename_i u h1;split at hl
  .rename_i r hr;rw[kC ha h1];exact⟨r,hr,xU hl⟩
  cases hl
 cases hl
theorem UR{s d:LI2}{a:PV X.Γ}{ta:TV}(ha:VR X P A m h a ta){v:PV X.Γ}(hl:a6D X P s d a=some v):∃w,S9 P s d ta=some w∧VR X P A m h v w:=by
 unfold a6D at hl;split at hl
 .rename_i u h1;split at hl
  .rename_i r hr;rw[kC ha h1];exact⟨r,hr,xU hl⟩
  cases hl
 cases hl
theorem zJ{mx:Bool}{at_:Array LI2}{t:LI2}{az:List (PV X.Γ)}{ts:List TV}(ha:bZ X P A m h az ts){v:PV X.Γ}(hl:Nv X P mx at_ t az=some v):∃w,Ew P mx at_ t ts=some w∧VR X P A m h v w:=by
 unfold Nv at hl;split at hl
 .rename_i u h1;split at hl
  .rename_i r hr;rw[a1V ha h1];exact⟨r,hr,xU hl⟩
  cases hl
 cases hl
theorem Ov{t:LI2}{x:PV X.Γ}{tx:TV}(hx:VR X P A m h x tx){i:Nat}{v:PV X.Γ}(hl:a09 X P t x i=some v):∃w,O9 P t tx i=some w∧VR X P A m h v w:=by
 unfold a09 at hl;split at hl
 .rename_i fs cs hu;split at hl
  .rename_i f hf;cases hx with
   |agg h1 h2=>
    obtain⟨w,g1,g2⟩:=BA ⟨h1,h2⟩ hl;exact⟨w,by simp only[O9,hu,hf,g1],g2⟩
   |gone hi _ _=>simp[bH]at hi
  cases hl
 cases hl
theorem Ox{t:LI2}{x i:PV X.Γ}{tx ti:TV}(hx:VR X P A m h x tx)(hi:VR X P A m h i ti){v:PV X.Γ}(hl:a0a X P t x i=some v):∃w,Jp P t tx ti=some w∧VR X P A m h v w:=by
 unfold a0a at hl;split at hl
 .rename_i len e cs hu;split at hl
  .rename_i n j hn hj;have:idx len ti=some j:=by
    cases i<;>simp only[a3Q]at hj<;>try (cases hj;done)
    cases hi with
    |int=>exact hj
    |gone e _ _=>simp[bH]at e
   cases hx with
   |agg h1 h2=>
    obtain⟨w,g1,g2⟩:=BA ⟨h1,h2⟩ hl;exact⟨w,by simp only[Jp,hu,hn,this,g1],g2⟩
   |gone hi _ _=>simp[bH]at hi
  cases hl
 cases hl
end
open Go Tw
section
variable {X:lC} {P:LI1} {A F:Nat->Prop} {m m':List MB} {h h':List HB} {H H':List (PB X.Γ)}
theorem Ip:∀{is:List Nat} {H:List (PB X.Γ)} {i:Nat} {pb:PB X.Γ},(bC is H)[i]? = some pb->(i∈is∧pb=.gone)∨(i∉is∧H[i]? = some pb)
 | [],_,_,_,h=>.inr ⟨by simp,h⟩
 |j::is,H,i,pb,h=>by
  rcases Ip (is:=is) (H:=XC j H) h with⟨h1,h2⟩|⟨h1,h2⟩
  .exact .inl ⟨a4a _ h1,h2⟩
  unfold XC at h2;by_cases e:j=i
  .subst e;rw[a5k]at h2;cases hx:H[j]? with
   |none=>rw[hx]at h2;cases h2
   |some y=>rw[hx]at h2;cases h2;exact .inl ⟨a3E,rfl⟩
  rw[a1j e]at h2;exact .inr ⟨by simp[h1,Ne.symm e],h2⟩
theorem qX(hr:HR X P A m H h)(is:List Nat){k ex x:Bool}{e size:Nat}{rows:List (X.Γ e)}{cs:List TV}(hw:eX X P (FA A m is) (bW is m) h e rows cs 0 size)(hc:cs.length=rows.length*size)(hn:rows≠[])(hz:dI P e=some size)(h0:0<size)(hx:ex=true->x=true) :
  ∃m1,HR X P A m1 (bC is H++[.list k ex e rows]) (h++[.cells .own cs])∧Fr m h m1 (h++[.cells .own cs])∧Up m m1∧VR X P (AA A m1) m1 (h++[.cells .own cs]) (.own H.length) (.aP h.length 0 rows.length rows.length size x):=by
 have hgo:=hr.bC is;have RF:=iH (h:=h) is m;have wK:(MB.dH (.aP h.length 0 rows.length rows.length size x)).own=some h.length:=by simp only[MB.own];rw[a0F (by simpa using hn)]
 have hF:Fr (bW is m) h (bW is m++[.dH (.aP h.length 0 rows.length rows.length size x)]) (h++[.cells .own cs]):=by
  refine⟨by simp,fun b hb _=>by rw[a0E hb],fun b hb=>?_,fun b cs hc=>⟨cs,by rw[gq (a0E (gZ hc)),hc],a15 _⟩⟩;rw[jr,a3v,kY,wK]at hb;rcases hb with hb|hb
  .exact .inl hb
  .simp at hb;exact .inr (by omega)
 obtain⟨h1,h2,h3⟩:=hgo.push (pb:=.list k ex e rows) (hb:=.cells .own cs) (.inl wK)
  (LR.some (kk:=.own) hn hz h0 (by simp) (by simp) (fun _=>rfl) hx hc ((hw.mono fun b hb=>hb.gone hr).step hF (xR _)))
 refine⟨_,h1,RF.1.trans h2,RF.2.trans h3,.own ?_ rfl⟩;rw[<-hr.len,<-nJ is m];simp
theorem TI(hr:HR X P A m H h)(is:List Nat){k ex:Bool}{e:Nat}{y:TV}(hy:(MB.dH y).own=none)(ho:jk y=true)(hl:LR X P (AA A (bW is m++[.dH y])) (bW is m++[.dH y]) h k ex e [] y) :
  ∃m1,HR X P A m1 (bC is H++[.list k ex e []]) h∧Fr m h m1 h∧Up m m1∧VR X P (AA A m1) m1 h (.own H.length) y:=by
 have RF:=iH (h:=h) is m;obtain⟨h1,h2,h3⟩:=(hr.bC is).acY (pb:=.list k ex e []) hy hl;refine⟨_,h1,RF.1.trans h2,RF.2.trans h3,.own ?_ ho⟩;rw[<-hr.len,<-nJ is m];simp
theorem aau(hr:HR X P A m H h){is:List Nat}{y:TV}(hy:(MB.dH y).own=none){b:Nat}(hb:FA A m is b):AA A (bW is m++[.dH y]) b:=by have:=hb.gone hr;refine⟨this.1,fun hm=>this.2 ?_⟩;rw[jr,a3v,kY,hy]at hm;simpa using hm
theorem push_empty(hr:HR X P A m H h)(is:List Nat){k ex:Bool}{e size b off:Nat}{cs:List TV}(hz:dI P e=some size)(h0:0<size)(ha:FA A m is b)(hb:aX h b=some cs)(ho:off<=cs.length) :
  ∃m1,HR X P A m1 (bC is H++[.list k ex e []]) h∧Fr m h m1 h∧Up m m1∧VR X P (AA A m1) m1 h (.own H.length) (.aP b off 0 0 size true):=
 TI hr is rfl rfl (LR.emp (aau hr rfl ha) hb ho hz h0)
theorem Pz(hr:HR X P A m H h)(is:List Nat){k ex:Bool}{e:Nat} :
  ∃m1,HR X P A m1 (bC is H++[.list k ex e []]) h∧Fr m h m1 h∧Up m m1∧VR X P (AA A m1) m1 h (.own H.length) (.nil .aP):=
 TI hr is rfl rfl .nil
theorem PD(hr:HR X P A m H h){b c:Nat}(is:List Nat){mb Nw:MB}{pb:PB X.Γ}{h1:List HB}(hb:m[b]? = some mb)(ho:mb.own=some c)(ho':Nw.own=some c)(hlen:h1.length=h.length)(hs:∀d,d≠c->h1[d]? = h[d]?)
  (hg:∀cs,aX h c=some cs->∃cs',aX h1 c=some cs'∧cs.length<=cs'.length)
  (rC:Fr m h (bW (b::is) m++[Nw]) h1->Up m (bW (b::is) m++[Nw])->BR X P (AA A (bW (b::is) m++[Nw])) (bW (b::is) m++[Nw]) h1 pb Nw) :
  ∃m1,m1=bW (b::is) m++[Nw]∧HR X P A m1 (bC (b::is) H++[pb]) h1∧Fr m h m1 h1∧Up m m1∧m1[H.length]? = some Nw:=by
 have RF:=iH (h:=h) (b::is) m;have hgo:=hr.bC (b::is);have hnc:c∉bI (bW (b::is) m):=fun hm=>by obtain⟨j,mbj,g1,g2,g3⟩:=BD hm;have:=jm hr.nodup hb g2 ho g3;exact g1 (by rw[<-this];exact a3E)
 have zK:∀d,d∈bI (bW (b::is) m++[Nw])↔d∈bI (bW (b::is) m)∨d=c:=by intro d;rw[jr,a3v,kY,ho'];simp
 have Fq:c∈bI m:=bD hb ho;have hF:Fr m h (bW (b::is) m++[Nw]) h1:=by
  refine⟨by omega,fun d hd hn=>hs d fun e=>hn (e▸Fq),fun d hd=>?_,fun d cs hc=>?_⟩
  .rcases(zK d).1 hd with hd|rfl
   .exact RF.1.new d hd
   .exact .inl Fq
  .by_cases e:d=c
   .subst e;exact hg cs hc
   .exact⟨cs,by rw[gq (hs d e),hc],a15 _⟩
 have hU:Up m (bW (b::is) m++[Nw]):=RF.2.trans (xR _);refine⟨_,rfl,?_,hF,hU,?_⟩
 .refine hr.next hF hU (by simp[nJ,oK,hr.len]) ?_ fun i pbi hi=>?_
  .rw[jr,kY,ho'];refine a9G.2 ⟨hgo.nodup,by simp,fun a ha b' yN e=>?_⟩;simp at yN;subst yN;subst e;exact hnc ha
  .rcases a5h i (bC (b::is) H).length with aQ|FI
   .rw[a0E aQ]at hi;have a6V:i<(bW (b::is) m).length:=by rw[hgo.len];exact aQ
    rcases Ip hi with⟨e1,rfl⟩|⟨e1,e2⟩
    .obtain⟨mbi,g1,g2⟩:=hgo.at_ i _ hi;cases mbi with
     |gone=>exact .inr ⟨.gone,by rw[a0E a6V];exact g1,trivial⟩
     |_=>exact g2.elim
    .obtain⟨mbi,g1,_⟩:=hr.at_ i _ e2;left;have hm:=Ig (b::is) g1;rw[show(b::is).contains i=false by simpa using e1]at hm;refine⟨mbi,e2,g1,by rw[a0E a6V];simpa using hm,fun d hd=>hs d fun e=>?_⟩;subst e;have:=jm hr.nodup hb g1 ho hd;exact e1 (by rw[<-this];exact a3E)
   .rw[a1a FI]at hi;have:i-(bC (b::is) H).length=0:=by
     rcases abj (i-(bC (b::is) H).length)with h|h
     .exact h
     .rw[a4Y (by simp;omega)]at hi;cases hi
    rw[this]at hi;simp only[a3p,a0k]at hi;subst hi;exact .inr ⟨Nw,by rw[a1a (by rw[hgo.len];exact FI),hgo.len,this];rfl,rC hF hU⟩
 .have:H.length=(bW (b::is) m).length:=by rw[nJ,hr.len]
  rw[this];simp
end
open Go Tw
section
variable {X:lC} {P:LI1} {A F:Nat->Prop} {m m':List MB} {h h':List HB} {H H':List (PB X.Γ)}
def XL(X:lC)(P:LI1)(A:Nat->Prop)(m:List MB)(ts:St)(r:Option (TV×St×ni))(v:PV X.Γ)(H1:List (PB X.Γ))(pi:PI):Prop:=
 ∃w h1 ti m1,r=some (w,{ ts with heap:=h1 },ti)∧HR X P A m1 H1 h1∧VR X P (AA A m1) m1 h1 v w∧Fr m ts.heap m1 h1∧Up m m1∧IR m ts.heap pi ti∧∀b,.h b∈ti.ws->b∈bI m
theorem oN{e:LI2}{n k:Nat}(hb:uM P e n=true)(hk:k<=n):uM P e k=true:=by
 unfold uM at hb ⊢;split at hb
 .rename_i i hi;simp only[a2c,a1n]at hb ⊢;obtain⟨⟨⟨⟨h1,h2⟩,h3⟩,h4⟩,h5⟩:=hb;have:=a3Z i.bytes hk;exact⟨⟨⟨⟨by omega,by omega⟩,h3⟩,h4⟩,h5⟩
 cases hb
theorem oO{t e:LI2}{n:Nat}(hs:jU P t=some (e,n)):dI P e=some n∧0<n:=by
 unfold jU at hs;split at hs
 .split at hs
  .rename_i k hk;split at hs
   .cases hs
   rename_i h0;simp only[a0k,a0T]at hs;obtain⟨rfl,rfl⟩:=hs;exact⟨hk,by omega⟩
  cases hs
 cases hs
theorem wL(hr:HR X P A m H h){e sz:Nat}{x:PV X.Γ}{tx:TV}(hv:VR X P (AA A m) m h x tx)(hz:dI P e=some sz){rows:List (X.Γ e)}{is:List Nat}(hs:Bo X H e sz x=some (rows,is)){b:Nat}(hb:.h b∈dN tx):((∃i,.h i∈DL X x∧Io m i b)∨b∉bI m)∧b<h.length:=by
 have lr:∀{i:Nat} {k ex:Bool} {t:Nat} {l:List (X.Γ t)} {c off len cap s:Nat} {e':Bool},H[i]? = some (.list k ex t l)->m[i]? = some (.dH (.aP c off len cap s e'))->(Io m i c∨c∉bI m)∧c<h.length:=by
  intro i k ex t l c off len cap s e' hH hm;obtain⟨mb,g1,g2⟩:=hr.at_ i _ hH;rw[hm]at g1;cases g1;cases(g2:LR X P _ _ _ _ _ _ _ _)with
  |emp h0 h1=>exact⟨.inr h0.2,gZ h1⟩
  |some q1 q2 q3 q4=>exact⟨.inl (jf hm (by simp only[MB.own];rw[a0F (by simpa using q1)])),(a0n.1 q4).1⟩
 cases x with
 |nil k=>
  cases hv with
  |nil=>simp[dN]at hb
  |gone hi _ _=>simp[bH]at hi
 |dH t l fu=>
  cases hv with
  |pU=>simp[dN]at hb
  |dH a ac=>simp[dN]at hb;subst hb;exact⟨.inr a.2,gZ ac⟩
  |gone hi _ _=>simp[bH]at hi
 |own i=>
  simp only[Bo]at hs;split at hs
  .rename_i k ex t l hH;cases hv with
   |own e' o=>
    cases tx<;>simp[dN]at hb
    subst hb;obtain⟨h1,h2⟩:=lr hH e';rcases h1 with h1|h1
    .exact⟨.inl ⟨i,by simp[DL],h1⟩,h2⟩
    exact⟨.inr h1,h2⟩
   |gone hi e' _=>
    simp only[bH,a0k]at hi;subst hi;obtain⟨mb,g1,g2⟩:=hr.at_ i _ hH;rw[g1]at e';cases e'<;>exact g2.elim
  cases hs
 |win i o n=>
  simp only[Bo]at hs;split at hs
  .rename_i k ex t l hH;cases hv with
   |win e' q q'=>
    simp[dN]at hb;subst hb;obtain⟨h1,h2⟩:=lr hH e';rcases h1 with h1|h1
    .exact⟨.inl ⟨i,by simp[DL],h1⟩,h2⟩
    exact⟨.inr h1,h2⟩
   |Bv=>simp[dN]at hb
   |gone hi e' _=>
    simp only[bH,a0k]at hi;subst hi;obtain⟨mb,g1,g2⟩:=hr.at_ i _ hH;rw[g1]at e';cases e'<;>exact g2.elim
  cases hs
 |aP c off len cap s ex=>
  simp only[Bo]at hs;split at hs
  .rename_i cs hH;cases hv with
   |aP e'=>
    simp[dN]at hb;subst hb;obtain⟨mb,g1,g2⟩:=hr.at_ c _ hH;rw[e']at g1;cases g1;exact⟨.inl ⟨c,by simp[DL],jf e' rfl⟩,g2.has rfl⟩
   |gone hi e' _=>
    simp only[bH,a0k]at hi;subst hi;obtain⟨mb,g1,g2⟩:=hr.at_ c _ hH;rw[g1]at e';cases e'<;>exact g2.elim
  cases hs
 |_=>simp[Bo]at hs
theorem IR.reads{p:PI}{ks:List Key}(hp:p.hp=true)(hk:∀b,.h b∈ks->((∃i,.h i∈p.i.ts∧Io m i b)∨b∉bI m)∧b<h.length)(hl:∀k,.l k∉ks):IR m h p (iE ks):=
 ⟨fun h=>(by cases h),fun k h=>absurd h (hl k),fun k h=>(by cases h),fun b h=>(by cases h),hk,fun h=>(by rw[hp]at h;cases h)⟩
theorem pW{tx:TV}{k:Nat}:Key.l k∉dN tx:=by cases tx<;>simp[dN]
theorem Jw(hX:bT X P){ps:aT X.Γ}{ts:St}(hR:vT X P A m ps ts){at_:Array LI2}{d x:PV X.Γ}{td tx:TV}(hd:VR X P (AA A m) m ts.heap d td)(hx:VR X P (AA A m) m ts.heap x tx){v:PV X.Γ}{H1:List (PB X.Γ)}{pi:ni}{qs:List Prop}
  (hl:Vk X P at_ ps.heap d x=some (v,H1,pi,qs)) (hq:∀q∈qs,q):XL X P A m ts (kU P at_ ts td tx) v H1 ⟨pi,false,false,true⟩:=by
 have hr:=hR.heap;unfold Vk at hl;split at hl
 .rename_i st xt wS La;split at hl
  .cases hl
  .rename_i hint;split at hl
   .rename_i e size AP;split at hl
    .rename_i MC;obtain⟨hz,h0⟩:=oO AP;split at hl
     .rename_i rows is hs;obtain⟨new,s1,s2,s3⟩:=Vz (m':=bW is m) hX hr hx hz hs;have hk0:IR m ts.heap ⟨iE (DL X x),false,false,true⟩ (iE (dN tx)):=IR.reads rfl (fun b hb=>wL hr hx hz hs hb) fun k=>pW;have hrn:rows.length=0↔rows=[]:=a8r;split at hl
      .-- nil
       simp only[a0k,a0T]at hl;obtain⟨rfl,rfl,rfl,rfl⟩:=hl;have H9:rows.length<=ah:=hq _ a3E;have:td=.nil .aP:=by
        cases hd with
        |nil=>rfl
        |gone hi _ _=>simp[bH]at hi
       subst this;by_cases hn:rows=[]
       .subst hn;obtain⟨m1,g1,g2,g3,g4⟩:=Pz hr is (k:=true) (ex:=false) (e:=e);exact⟨_,ts.heap,_,m1,by unfold kU;simp only[wS,La,hint,a3U,AP,s1,a5C,a2s,a3u],g1,g4,g2,g3,hk0,fun b hb=>by simp[iE]at hb⟩
       .obtain⟨m1,g1,g2,g3,g4⟩:=qX hr is (k:=true) (ex:=false) (x:=false) s3 s2 hn hz h0 (by simp);refine⟨_,ts.heap++[.cells .own new],_,m1,?_,g1,g4,g2,g3,hk0,fun b hb=>by simp[iE]at hb⟩;unfold kU;simp only[wS,La,hint,a3U,AP,s1,a3u,hrn,hn,s2,a2s,oN MC H9]
      .-- an own list
       rename_i b;split at hl
       .rename_i k ex t' l hb;split at hl
        .cases hl
        rename_i hnb;split at hl
        .rename_i l2 PG;obtain⟨rfl,rfl⟩:=vk PG;simp only[a0k,a0T]at hl;obtain⟨rfl,rfl,rfl,rfl⟩:=hl;have H9:l2.length+rows.length<=ah:=hq _ a3E;obtain⟨mb,g1,g2⟩:=hr.at_ b _ hb;have X6:∀{c:Nat},Io m b c∨c∉bI m->c<ts.heap.length->IR m ts.heap ⟨⟨false,.h b::DL X x,[.h b]⟩,false,false,true⟩ (iE (.h c::dN tx)):=fun{c} hc aQ=>IR.reads rfl (fun d hd=>by
          rcases a2x.1 hd with e0|e0
          .cases e0;rcases hc with hc|hc
           .exact⟨.inl ⟨b,a3E,hc⟩,aQ⟩
           .exact⟨.inr hc,aQ⟩
          .obtain⟨h0,h9⟩:=wL hr hx hz hs e0;rcases h0 with⟨i,h1,h2⟩|h1
           .exact⟨.inl ⟨i,a4a _ h1,h2⟩,h9⟩
           .exact⟨.inr h1,h9⟩) fun j hj=>by
            rcases a2x.1 hj with e0|e0
            .cases e0
            .exact pW e0
         have lG:IR m ts.heap ⟨⟨false,.h b::DL X x,[.h b]⟩,false,false,true⟩ (iE (dN tx)):=IR.reads rfl (fun d hd=>by
          obtain⟨h0,h9⟩:=wL hr hx hz hs hd;rcases h0 with⟨i,h1,h2⟩|h1
          .exact⟨.inl ⟨i,a4a _ h1,h2⟩,h9⟩
          .exact⟨.inr h1,h9⟩) fun j hj=>pW hj
         cases mb with
         |dH z=>
          cases hd with
          |gone hi e' _=>simp only[bH,a0k]at hi;subst hi;rw[g1]at e';cases e'
          |own e' o=>
           rw[g1]at e';cases e';have hlr:LR X P (AA A m) m ts.heap k ex t' l2 td:=g2;have UY:eX X P (FA A m (b::is)) (bW (b::is) m) ts.heap t' rows new 0 size:=(s3.mono fun c hc=>FA.mono (fun i hi=>a4a _ hi) hc).jC hX;cases hlr with
           |nil=>
            simp only[acB];by_cases hn:rows=[]
            .subst hn;obtain⟨m1,f1,f2,f3,f4⟩:=Pz hr (b::is) (k:=k&&ex) (ex:=false) (e:=t');exact⟨_,ts.heap,_,m1,by unfold kU;simp only[wS,La,hint,a3U,AP,s1,a5C,a2s,a3u],f1,f4,f2,f3,lG,fun c hc=>by simp[iE]at hc⟩
            .obtain⟨m1,f1,f2,f3,f4⟩:=qX hr (b::is) (k:=k&&ex) (ex:=false) (x:=false) UY s2 hn hz h0 (by simp);refine⟨_,ts.heap++[.cells .own new],_,m1,?_,f1,f4,f2,f3,lG,fun c hc=>by simp[iE]at hc⟩;unfold kU;simp only[wS,La,hint,a3U,AP,s1,a3u,hrn,hn,s2,a2s,oN MC (show rows.length<=ah by omega)]
           |emp p0 p1 p2 p3 p4=>
            rename_i c off sz cs;rw[hz]at p3;cases p3;simp only[acB];by_cases hn:rows=[]
            .subst hn;obtain⟨m1,f1,f2,f3,f4⟩:=push_empty hr (b::is) (k:=k&&ex) (ex:=false) hz h0 (.inl p0) p1 p2;exact⟨_,ts.heap,_,m1,by unfold kU;simp only[wS,La,hint,a3U,AP,s1,a5C,a2s,a3u],f1,f4,f2,f3,lG,fun c hc=>by simp[iE]at hc⟩
            .obtain⟨m1,f1,f2,f3,f4⟩:=qX hr (b::is) (k:=k&&ex) (ex:=false) (x:=false) UY s2 hn hz h0 (by simp);refine⟨_,ts.heap++[.cells .own new],_,m1,?_,f1,f4,f2,f3,X6 (c:=c) (.inr p0.2) (gZ p1),fun c hc=>by simp[iE]at hc⟩;have pO:fM size ts.heap (.aP c off 0 0 size true)=some (0,[]):=(by simp[fM]);unfold kU;simp only[wS,La,hint,a3U,AP,s1,a3u,hrn,hn,s2,a2s,a4v,Nat.le_zero_eq,oN MC (show rows.length<=ah by omega),pO,a19,acB]
           |some p1 p2 p3 p4 p5 p6 p7 p8 p9=>
            rename_i c sz xx kk cs;rw[hz]at p2;cases p2;have wK:(MB.dH (TV.aP c 0 l2.length l2.length size xx)).own=some c:=by simp only[MB.own];rw[a0F (by simpa using p1)]
            by_cases hn:rows=[]
            .subst hn;simp only[a5Z];obtain⟨m1,f0,f1,f2,f3,f4⟩:=PD (pb:=.list (k&&ex) false t' l2) hr is g1 wK wK rfl (fun _ _=>rfl) (fun cs hc=>⟨cs,hc,a15 _⟩) (fun hF hU=>LR.some p1 hz p3 p4 p5 (fun hk=>p6 (by simp at hk;exact hk.1)) (by simp) p8 (p9.step hF hU));exact⟨_,ts.heap,_,m1,by unfold kU;simp only[wS,La,hint,a3U,AP,s1,a5C,a2s,a3u],f1,.own f4 rfl,f2,f3,lG,fun c hc=>by simp[iE]at hc⟩
            .have hle:¬l2.length+rows.length<=l2.length:=by have:rows.length≠0:=fun e0=>hn (hrn.1 e0);omega
             have iM:l2++rows≠[]:=(by simp[p1]);cases xx with
             |true=>
              have hold:fM size ts.heap (.aP c 0 l2.length l2.length size true)=some (l2.length,cs):=by simp only[fM,a2s];rw[a0F (fun e0=>p1 (a8r.1 e0)),xP p4 (by omega)];simp only[sub];rw[a0I (by omega),aaQ,a9N (by omega)];rfl
              have hw1:eX X P (FA A m (b::is)) (bW (b::is) m) ts.heap t' l2 cs 0 size:=(p9.mono fun c hc=>.inl hc).jC hX;obtain⟨m1,f1,f2,f3,f4⟩:=qX hr (b::is) (k:=k&&ex) (ex:=false) (x:=false) (hw1.app UY p8) (by rw[a1p,a1p,a3C,p8,s2]) iM hz h0 (by simp);refine⟨_,ts.heap++[.cells .own (cs++new)],_,m1,?_,f1,f4,f2,f3,X6 (c:=c) (.inl (jf g1 wK)) (a0n.1 p4).1,fun c hc=>by simp[iE]at hc⟩;unfold kU;simp only[wS,La,hint,a3U,AP,s1,a3u,hrn,hn,s2,a2s,hle,oN MC H9,hold,a19,a1p]
             |false=>
              have hex:ex=false:=by cases ex with
               |true=>exact absurd (p7 rfl) (by simp)
               |false=>rfl
              subst hex;have aQ:=(a0n.1 p4).1;obtain⟨m1,f0,f1,f2,f3,f4⟩:=PD (pb:=.list (k&&false) false t' (l2++rows)) (h1:=ts.heap.set c (.cells kk.more (cs++new))) (Nw:=.dH (.aP c 0 (l2.length+rows.length) (l2.length+rows.length) size false)) hr is g1 wK
               (by simp only[MB.own];rw[a0F (by omega)]) (by simp) (fun d hd=>a1j (Ne.symm hd)) (fun XJ L8=>⟨cs++new,by simp[aX,aQ],by
                simp only[aX,p4,a0k]at L8;subst L8;simp⟩) (fun hF hU=>by
                have RF:=iH (h:=ts.heap) (b::is) m;have Ru:∀q cs',FA A m is q->aX ts.heap q=some cs'->AA A (bW (b::is) m++[.dH (.aP c 0 (l2.length+rows.length) (l2.length+rows.length) size false)]) q∧(ts.heap.set c (.cells kk.more (cs++new)))[q]? = ts.heap[q]?:=fun q cs' hq hc=>by
                 have Zk:q≠c:=fun e0=>by
                  subst e0;rcases hq with hq|⟨i,mb,e1,e2,e3⟩
                  .exact hq.2 (bD g1 wK)
                  .have:=jm hr.nodup g1 e2 wK e3;subst this;exact hnb (by simpa using e1)
                 have hg:=FA.gone hr (FA.mono (js:=b::is) (fun i hi=>a4a _ hi) hq);refine⟨⟨hg.1,fun hm=>?_⟩,a1j (Ne.symm Zk)⟩;rw[jr,a3v,kY]at hm;rcases hm with hm|hm
                 .exact hg.2 hm
                 .simp only[MB.own]at hm;rw[a0F (by omega)]at hm;simp at hm;exact Zk hm
                have:=LR.some (X:=X) (P:=P) (A:=AA A (bW (b::is) m++[.dH (.aP c 0 (l2.length+rows.length) (l2.length+rows.length) size false)])) (m:=bW (b::is) m++[.dH (.aP c 0 (l2.length+rows.length) (l2.length+rows.length) size false)]) (h:=ts.heap.set c (.cells kk.more (cs++new))) (k:=k&&false) (ex:=false) (t:=t') (l:=l2++rows) (b:=c) (sz:=size) (e:=false) (kk:=kk.more) (cs:=cs++new)
                 iM hz h0 (by simp[aQ]) (by cases kk<;>simp[BK.more]) (by simp) (by simp) (by rw[a1p,a1p,a3C,p8,s2]) ((p9.step hF hU).app (s3.move hX Ru) p8)
                rw[a1p]at this;exact this)
              refine⟨_,ts.heap.set c (.cells kk.more (cs++new)),⟨false,.h c::dN tx,[.h c]⟩,m1,?_,f1,.own f4 rfl,f2,f3,⟨fun h=>(by cases h),fun j hj=>?_,fun j hj=>(by simp at hj),fun d hd=>?_,fun d hd=>?_,fun h=>(by cases h)⟩,fun d hd=>?_⟩
              .unfold kU;simp only[wS,La,hint,a3U,AP,s1,a3u,hrn,hn,s2,a2s,hle,oN MC H9,p4,ne_eq,not_true_eq_false,p5,p8,a8r,p1,or_self]
              .rcases a2x.1 hj with e0|e0
               .cases e0
               .exact absurd e0 pW
              .simp at hd;subst hd;exact .inl ⟨b,by simp,jf g1 wK⟩
              .rcases a2x.1 hd with e0|e0
               .cases e0;exact⟨.inl ⟨b,a3E,jf g1 wK⟩,aQ⟩
               .obtain⟨h0,h9⟩:=wL hr hx hz hs e0;rcases h0 with⟨i,h1,h2⟩|h1
                .exact⟨.inl ⟨i,a4a _ h1,h2⟩,h9⟩
                .exact⟨.inr h1,h9⟩
              .simp at hd;subst hd;exact bD g1 wK
         |_=>exact g2.elim
        .cases hl
       .cases hl
      .-- a full frozen list
       rename_i t' l;split at hl
       .rename_i l2 PG;obtain⟨rfl,rfl⟩:=vk PG;simp only[a0k,a0T]at hl;obtain⟨rfl,rfl,rfl,rfl⟩:=hl;have H9:l2.length+rows.length<=ah:=hq _ a3E;have He:l2=[]∨rows≠[]:=hq _ (a4a _ a3E);cases hd with
        |gone hi _ _=>simp[bH]at hi
        |pU=>
         simp only[acB];by_cases hn:rows=[]
         .subst hn;obtain⟨m1,f1,f2,f3,f4⟩:=Pz hr is (k:=true) (ex:=false) (e:=t');exact⟨_,ts.heap,_,m1,by unfold kU;simp only[wS,La,hint,a3U,AP,s1,a5C,a2s,a3u],f1,f4,f2,f3,hk0,fun c hc=>by simp[iE]at hc⟩
         .obtain⟨m1,f1,f2,f3,f4⟩:=qX hr is (k:=true) (ex:=false) (x:=false) s3 s2 hn hz h0 (by simp);refine⟨_,ts.heap++[.cells .own new],_,m1,?_,f1,f4,f2,f3,hk0,fun c hc=>by simp[iE]at hc⟩;unfold kU;simp only[wS,La,hint,a3U,AP,s1,a3u,hrn,hn,s2,a2s,oN MC (show rows.length<=ah by omega)]
        |dH p1 p2 p2' p3 p4 p5 p6 p7 p8 p9=>
         rename_i c off cap sz xx cs;rw[hz]at p3;cases p3;obtain⟨rfl,rfl⟩:=p7 rfl;have hk3:IR m ts.heap ⟨iE (DL X x),false,false,true⟩ (iE (.h c::dN tx)):=IR.reads rfl (fun d hd=>by
          rcases a2x.1 hd with e0|e0
          .cases e0;exact⟨.inr p1.2,gZ p2⟩
          .exact wL hr hx hz hs e0) fun j hj=>by
           rcases a2x.1 hj with e0|e0
           .cases e0
           .exact pW e0
         by_cases hn:rows=[]
         .have rG:l2=[]:=by rcases He with h1|h1;exact h1;exact absurd hn h1
          subst hn;subst rG;obtain⟨m1,f1,f2,f3,f4⟩:=push_empty hr is (k:=true) (ex:=false) hz h0 (.inl p1) p2 (by simpa using p5);exact⟨_,ts.heap,_,m1,by unfold kU;simp only[wS,La,hint,a3U,AP,s1,a5C,a2s,a3u],f1,f4,f2,f3,hk0,fun c hc=>by simp[iE]at hc⟩
         .have hle:¬l2.length+rows.length<=l2.length:=by have:rows.length≠0:=fun e0=>hn (hrn.1 e0);omega
          have hw1:eX X P (FA A m is) (bW is m) ts.heap t' l2 ((cs.drop off).take (l2.length*size)) 0 size:=by have hh:eX X P (AA A m) m ts.heap t' l2 cs off size:=⟨p8,p5,p9⟩;exact(hh.take.mono fun c hc=>.inl hc).jC hX
          have hlen:((cs.drop off).take (l2.length*size)).length=l2.length*size:=by rw[a4x,a4u];omega
          obtain⟨m1,f1,f2,f3,f4⟩:=qX hr is (k:=true) (ex:=false) (x:=false) (hw1.app s3 hlen) (by rw[a1p,a1p,a3C,hlen,s2]) (by simp[hn]) hz h0 (by simp);refine⟨_,ts.heap++[.cells .own ((cs.drop off).take (l2.length*size)++new)],_,m1,?_,f1,f4,f2,f3,hk3,fun c hc=>by simp[iE]at hc⟩;have pO:fM size ts.heap (.aP c off l2.length l2.length size true)=some (l2.length,(cs.drop off).take (l2.length*size)):=by
           simp only[fM,a2s,sub];by_cases rG:l2.length=0
           .rw[a0I rG,rG,acQ,List.take_zero]
           .rw[a0F rG,p2' (fun e0=>rG (by rw[e0];rfl))];simp only;rw[a0I p5];rfl
          unfold kU;simp only[wS,La,hint,a3U,AP,s1,a3u,hrn,hn,s2,a2s,hle,oN MC H9,pO,a19,a1p]
       .cases hl
      .cases hl
     .cases hl
    .cases hl
   .cases hl
 .cases hl
end
open Go Tw
theorem XM{α:Type}{l rows:List α}{o k:Nat}(h:o+k<=l.length)(hk:k<=rows.length):(P9 l o k rows).length=l.length:=by unfold P9;simp;omega
theorem a3W{α:Type}{l rows:List α}{o:Nat}:P9 l o 0 rows=l:=by unfold P9;simp
section
variable {X:lC} {P:LI1} {A F:Nat->Prop} {m m':List MB} {h h':List HB} {H H':List (PB X.Γ)}
theorem eX.put{t sz o k:Nat}{l rows:List (X.Γ t)}{cs new:List TV}(h1:eX X P F m h t l cs 0 sz)(h2:eX X P F m h t rows new 0 sz)(hc:cs.length=l.length*sz)(hn:new.length=rows.length*sz)(ho:o+k<=l.length)(hk:k<=rows.length) :
  eX X P F m h t (P9 l o k rows) (cs.take (o*sz)++new.take (k*sz)++cs.drop (o*sz+k*sz)) 0 sz:=by
 have a1:=(h1.part (o:=0) (n:=o) (by omega)).take;have a2:=(h2.part (o:=0) (n:=k) (by omega)).take;have a3:=(h1.part (o:=o+k) (n:=l.length-(o+k)) (by omega)).take;have l1:((l.drop 0).take o).length=o:=by simp;omega
 have l2:((rows.drop 0).take k).length=k:=by simp;omega
 have l3:((l.drop (o+k)).take (l.length-(o+k))).length=l.length-(o+k):=by simp
 rw[l1]at a1;rw[l2]at a2;rw[l3]at a3;simp only[acQ,aex,a4v,aaQ]at a1 a2 a3;have m1:o*sz<=cs.length:=by rw[hc];exact a3Z _ (by omega)
 have m2:k*sz<=new.length:=by rw[hn];exact a3Z _ hk
 have r:=(a1.app a2 (by rw[a4x,a4x];rw[a8J m1,a8J (by omega)])).app a3 (by simp only[a1p,a4x];rw[a8J m1,a8J m2,a8J (by omega),a8J hk,a3C])
 have e1:l.drop (o+k)=(l.drop (o+k)).take (l.length-(o+k)):=by rw[a9N (by simp)]
 have e2:cs.drop (o*sz+k*sz)=(cs.drop ((o+k)*sz)).take ((l.length-(o+k))*sz):=by rw[a3C,a9N];rw[a4u,hc,Nat.sub_mul,a3C];omega
 unfold P9;rw[e1,e2];exact r
theorem EK(hX:bT X P){ps:aT X.Γ}{ts:St}(hR:vT X P A m ps ts){at_:Array LI2}{st e size b o n:Nat}{k0 ex:Bool}{l rows:List (X.Γ e)}{x:PV X.Γ}{td tx:TV}(wS:at_[0]? = some st)(AP:jU P st=some (e,size))(hx:VR X P (AA A m) m ts.heap x tx)
  (hs:Bo X ps.heap e size x=some (rows,[])) (hb:ps.heap[b]? = some (.list k0 ex e l)) {mb:MB} (g1:m[b]? = some mb) (g2:BR X P (AA A m) m ts.heap (.list k0 ex e l) mb)
  (htd:(∃c sz' xx' xx cap,mb=.dH (.aP c 0 l.length l.length sz' xx')∧l≠[]∧td=.aP c (o*sz') n cap sz' xx∧(n=0∨o+cap=l.length))∨(n=0∧(td=.nil .aP∨∃c f cap xx,td=.aP c f 0 cap size xx))) (hon:o+n<=l.length) (OB:isStr tx=false) :
  XL X P A m ts (H7 P at_ ts td tx) (.int .i64 ((min rows.length n:Nat):Int)) (ps.heap.set b (.list k0 ex e (P9 l o (min rows.length n) rows))) ⟨⟨false,.h b::DL X x,[.h b]⟩,false,false,true⟩:=by
 have hr:=hR.heap;obtain⟨hz,h0⟩:=oO AP;obtain⟨new,s1,s2,s3⟩:=Vz (m':=m) hX hr hx hz hs;have UY:eX X P (AA A m) m ts.heap e rows new 0 size:=s3.mono fun q hq=>by
  rcases hq with hq|⟨i,_,hi,_⟩
  .exact hq
  .simp at hi
 have lG:IR m ts.heap ⟨⟨false,.h b::DL X x,[.h b]⟩,false,false,true⟩ (iE (dN tx)):=IR.reads rfl (fun d hd=>by
  obtain⟨h0,h9⟩:=wL hr hx hz hs hd;rcases h0 with⟨i,h1,h2⟩|h1
  .exact⟨.inl ⟨i,a4a _ h1,h2⟩,h9⟩
  .exact⟨.inr h1,h9⟩) fun j hj=>pW hj
 have same:ps.heap.set b (.list k0 ex e l)=ps.heap:=by
  apply aao;intro i;by_cases e:b=i
  .subst e;rw[a1Z (a0n.1 hb).1,hb]
  .rw[a1j e]
 by_cases hk:min rows.length n=0
 .rw[hk,a3W,same];refine⟨.int .i64 0,ts.heap,iE (dN tx),m,?_,hr,.int _ _,.refl,.refl,lG,fun c hc=>by simp[iE]at hc⟩;unfold H7;simp only[wS,AP,s1,s2,OB,ad1,a2s];rcases htd with⟨c,sz',xx',xx,cap,rfl,iM,rfl,xH⟩|⟨rfl,rfl|⟨c,f,cap,xx,rfl⟩⟩
  .have:sz'=size:=by cases g2 with|some _ q2 _ _ _ _ _ _ _=>rw[hz]at q2;cases q2;rfl|emp=>exact absurd rfl iM
   simp only[this,a2s,hk]
  .rfl
  .simp only[a2s,hk]
 .rcases htd with⟨c,sz',xx',xx,cap,rfl,iM,rfl,xH⟩|⟨rfl,_⟩
  .cases g2 with
   |emp=>exact absurd rfl iM
   |some p1 p2 p3 p4 p5 p6 p7 p8 p9=>
    rename_i kk cs;rw[hz]at p2;cases p2;obtain⟨CP,yL,afp,hko⟩:=JG p5;have ajv:o*size+cap*size=cs.length:=by have:=xH.resolve_left (by omega);rw[p8,<-this,a3C]
    have aQ:=(a0n.1 p4).1;have wK:(MB.dH (TV.aP c 0 l.length l.length size xx')).own=some c:=by simp only[MB.own];rw[a0F (by simpa using p1)]
    have hkn:o+min rows.length n<=l.length:=(by omega);have hkr:min rows.length n<=rows.length:=Nat.min_le_left _ _;have m1:o*size+min rows.length n*size<=cs.length:=by rw[p8,<-a3C];exact a3Z _ hkn
    have m2:min rows.length n*size<=new.length:=by rw[s2];exact a3Z _ hkr
    have m3:min (min rows.length n*size) (rows.length*size)=min rows.length n*size:=a8J (by rw[<-s2];exact m2);have apC:=eX.put p9 UY p8 s2 hkn hkr;have qM:(cs.take (o*size)++new.take (min rows.length n*size)++cs.drop (o*size+min rows.length n*size)).length=cs.length:=by simp;omega
    have hl:=XM (rows:=rows) hkn hkr;obtain⟨q1,q2⟩:=hr.set (i:=b) (c:=c) (pb:=.list k0 ex e (P9 l o (min rows.length n) rows)) (hb:=.cells CP (cs.take (o*size)++new.take (min rows.length n*size)++cs.drop (o*size+min rows.length n*size))) g1 wK
     (fun XJ L8=>⟨_,by simp only[aX];rw[a1Z aQ],by
      simp only[aX,p4,a0k]at L8;subst L8;rw[qM];exact a15 _⟩)
     (fun hF=>by
      have aiD:P9 l o (min rows.length n) rows≠[]:=fun e0=>by rw[e0]at hl;simp at hl;exact p1 (a8r.1 hl.symm)
      have r:=LR.some (k:=k0) (ex:=ex) (e:=xx') aiD hz p3 (by rw[a1Z aQ]) afp (fun e0=>hko (p6 e0)) p7 (by rw[qM,hl,p8]) (apC.step hF .refl);rw[hl]at r;exact r)
    refine⟨.int .i64 ((min rows.length n:Nat):Int),_,⟨false,.h c::dN tx,[.h c]⟩,m,?_,q1,.int _ _,q2,.refl,?_,fun d hd=>?_⟩
    .unfold H7;simp only[wS,AP,s1,s2,OB,ad1,a2s,hk,a3U,a1S p4 yL ajv,wZ,a4x,m3,m1,a19]
    .refine⟨fun h=>(by cases h),fun k hk=>?_,fun k hk=>(by simp at hk),fun d hd=>?_,fun d hd=>?_,fun h=>(by cases h)⟩
     .rcases a2x.1 hk with e0|e0
      .cases e0
      .exact absurd e0 pW
     .simp at hd;subst hd;exact .inl ⟨b,a3E,jf g1 wK⟩
     .rcases a2x.1 hd with e0|e0
      .cases e0;exact⟨.inl ⟨b,a3E,jf g1 wK⟩,aQ⟩
      .obtain⟨h0,h9⟩:=wL hr hx hz hs e0;rcases h0 with⟨i,h1,h2⟩|h1
       .exact⟨.inl ⟨i,a4a _ h1,h2⟩,h9⟩
       .exact⟨.inr h1,h9⟩
    .simp at hd;subst hd;exact bD g1 wK
  .simp at hk
theorem a6W(hr:HR X P A m H h){e sz:Nat}{x:PV X.Γ}{tx:TV}(hv:VR X P (AA A m) m h x tx){rows:List (X.Γ e)}{is:List Nat}(hs:Bo X H e sz x=some (rows,is)):isStr tx=false:=by
 cases hv with
 |own e' _=>
  unfold Bo at hs;simp only at hs;split at hs
  .rename_i hb;obtain⟨mb,g1,g2⟩:=hr.at_ _ _ hb;rw[e']at g1;cases g1;cases g2<;>rfl
  cases hs
 |gone hi e' _=>
  cases x<;>simp only[bH,a0k]at hi<;>first|cases hi|skip
  all_goals (unfold Bo at hs;simp only at hs)
  all_goals first|(cases hs;done)|skip
  all_goals
   split at hs
   .rename_i hb;obtain⟨mb,g1,g2⟩:=hr.at_ _ _ hb;rw[g1]at e';cases e'<;>exact g2.elim
   .cases hs
 |str=>simp[Bo]at hs
 |_=>rfl
theorem eX.vrs{t sz:Nat}:∀{l:List (X.Γ t)} {cs:List TV},eX X P F m h t l cs 0 sz->cs.length=l.length*sz->bZ X P F m h (Fj X t l) cs
 | [],cs,_,hl=>by have:cs=[]:=a8r.1 (by simpa using hl);subst this;exact .nil
 |a::r,cs,hw,hl=>by
  have h1:=hw.row (j:=0) (a:=a) rfl;have h2:=(hw.part (o:=1) (n:=r.length) (by simp;omega)).take;have e1:((a::r).drop 1).take r.length=r:=by simp
  rw[e1]at h2;have hl':cs.length=r.length*sz+sz:=by rw[hl,a4O,a3C,aav]
  have e2:(cs.drop (0+1*sz)).take (r.length*sz)=cs.drop sz:=by rw[a4v,aav,a9N];rw[a4u];omega
  rw[e2]at h2;have h3:=eX.vrs h2 (by rw[a4u];omega);have h4:bZ X P F m h (X.enc t a) (cs.take sz):=by have:=h1.1;simpa using this
  have:=h4.app h3;rw[List.take_append_drop]at this;exact this
theorem UZ(hX:bT X P){ps:aT X.Γ}{ts:St}(hR:vT X P A m ps ts){at_:Array LI2}{d x:PV X.Γ}{td tx:TV}(hd:VR X P (AA A m) m ts.heap d td)(hx:VR X P (AA A m) m ts.heap x tx){v:PV X.Γ}{H1:List (PB X.Γ)}{pi:ni}
  (hl:a6C X P at_ ps.heap d x=some (v,H1,pi)):XL X P A m ts (H7 P at_ ts td tx) v H1 ⟨pi,false,false,true⟩:=by
 have hr:=hR.heap;unfold a6C at hl;split at hl
 .rename_i st wS;split at hl
  .rename_i e size AP;obtain⟨hz,h0⟩:=oO AP;split at hl
   .rename_i rows hs;obtain⟨new,s1,s2,s3⟩:=Vz (m':=m) hX hr hx hz hs;have OB:isStr tx=false:=a6W hr hx hs;split at hl
    .simp only[a0k,a0T]at hl;obtain⟨rfl,rfl,rfl⟩:=hl;have:td=.nil .aP:=by
      cases hd with
      |nil=>rfl
      |gone hi _ _=>simp[bH]at hi
     subst this;exact⟨_,ts.heap,_,m,by unfold H7;simp only[wS,AP,s1,s2,OB,ad1,a2s],hr,.int _ _,.refl,.refl,IR.reads rfl (fun b hb=>wL hr hx hz hs hb) fun k=>pW,fun b hb=>by simp[iE]at hb⟩
    .rename_i b;split at hl
     .rename_i k0 ex t' l hb;split at hl
      .rename_i l2 PG;obtain⟨rfl,rfl⟩:=vk PG;simp only[a0k,a0T]at hl;obtain⟨rfl,rfl,rfl⟩:=hl;obtain⟨mb,g1,g2⟩:=hr.at_ b _ hb;refine EK (o:=0) (n:=l2.length) hX hR wS AP hx hs hb g1 g2 ?_ (by omega) OB;cases hd with
       |gone hi e' _=>simp only[bH,a0k]at hi;subst hi;rw[g1]at e';cases e'<;>exact g2.elim
       |own e' o=>
        rw[g1]at e';cases e';cases g2 with
        |nil=>exact .inr ⟨rfl,.inl rfl⟩
        |emp q1 q2 q3 q4 q5=>rw[hz]at q4;cases q4;exact .inr ⟨rfl,.inr ⟨_,_,_,_,rfl⟩⟩
        |some q1 q2=>rw[hz]at q2;cases q2;exact .inl ⟨_,_,_,_,_,rfl,q1,by rw[acQ],.inr (a4v _)⟩
      .cases hl
     .cases hl
    .rename_i b o n;split at hl
     .rename_i k0 ex t' l hb;split at hl
      .rename_i l2 PG;obtain⟨rfl,rfl⟩:=vk PG;simp only[a0k,a0T]at hl;obtain⟨rfl,rfl,rfl⟩:=hl;obtain⟨mb,g1,g2⟩:=hr.at_ b _ hb;cases hd with
       |gone hi e' _=>simp only[bH,a0k]at hi;subst hi;rw[g1]at e';cases e'<;>exact g2.elim
       |win e' o1 o2 o3=>
        rw[g1]at e';cases e';cases g2 with
        |emp q1 q2 q3 q4 q5=>
         rw[hz]at q4;cases q4;have:n=0:=(by omega);subst this;exact EK hX hR wS AP hx hs hb g1 (LR.emp q1 q2 q3 hz q5) (.inr ⟨rfl,.inr ⟨_,_,_,_,rfl⟩⟩) o1 OB
        |some q1 q2 q3 q4 q5 q6 q7 q8 q9=>exact EK hX hR wS AP hx hs hb g1 (LR.some q1 q2 q3 q4 q5 q6 q7 q8 q9) (.inl ⟨_,_,_,_,_,rfl,q1,by rw[a4v],o3⟩) o1 OB
       |Bv e'=>
        rw[g1]at e';cases e';exact EK hX hR wS AP hx hs hb g1 g2 (.inr ⟨rfl,.inl rfl⟩) (by omega) OB
      .cases hl
     .cases hl
    .rename_i b off len cap sz xx;split at hl
     .rename_i cs hb;split at hl
      .rename_i hc;obtain⟨hc1,L8⟩:=hc;subst hc1;simp only[a0A,a0T]at hl;obtain⟨ND,h1,rfl,rfl,rfl⟩:=hl;obtain⟨mb,g1,g2⟩:=hr.at_ b _ hb;cases mb with
       |gK c=>
        obtain⟨cs',g3,g4⟩:=g2;cases hd with
        |gone hi e _=>simp only[bH,a0k]at hi;subst hi;rw[g1]at e;cases e
        |aP e=>
         rw[g1]at e;cases e;have UY:eX X P (AA A m) m ts.heap _ rows new 0 sz:=s3.mono fun q hq=>by
          rcases hq with hq|⟨i,_,hi,_⟩
          .exact hq
          .simp at hi
         have hv:=(UY.vrs s2).take (min rows.length len*sz);obtain⟨JI,g5,g6⟩:=Ij g4 hv h1;have hlen:JI.length=cs'.length:=by
          unfold wZ at g5;split at g5
          .cases g5;simp only[a1p,a4x,a4u]at *;omega
          .cases g5
         have aQ:=(a0n.1 g3).1;obtain⟨hr1,hF⟩:=hr.set (pb:=.cells ND) (hb:=.cells .own JI) g1 (c:=c) rfl (fun XJ XK=>⟨JI,by simp[aX,aQ],by
          simp only[aX,g3,a0k]at XK;subst XK;omega⟩) fun hF=>⟨JI,by simp[aQ],g6.step hF .refl⟩
         refine⟨.int .i64 ((min rows.length len:Nat):Int),_,⟨false,.h c::dN tx,[.h c]⟩,m,?_,hr1,.int _ _,hF,.refl,?_,fun d hd=>?_⟩
         .unfold H7;simp only[wS,AP,s1,s2,OB,ad1,a2s];rw[a0F (by omega),XF g3,g5];rfl
         .refine⟨fun h=>(by cases h),fun k hk=>?_,fun k hk=>(by simp at hk),fun d hd=>?_,fun d hd=>?_,fun h=>(by cases h)⟩
          .rcases a2x.1 hk with e0|e0
           .cases e0
           .exact absurd e0 pW
          .simp at hd;subst hd;exact .inl ⟨b,a3E,jf g1 rfl⟩
          .rcases a2x.1 hd with e0|e0
           .cases e0;exact⟨.inl ⟨b,a3E,jf g1 rfl⟩,aQ⟩
           .obtain⟨h0,h9⟩:=wL hr hx hz hs e0;rcases h0 with⟨i,h1,h2⟩|h1
            .exact⟨.inl ⟨i,a4a _ h1,h2⟩,h9⟩
            .exact⟨.inr h1,h9⟩
         .simp at hd;subst hd;exact bD g1 rfl
       |_=>exact g2.elim
      .cases hl
     .cases hl
    .cases hl
   .cases hl
  .cases hl
 .cases hl
end
open Go Tw
section
variable {X:lC} {P:LI1} {A F:Nat->Prop} {m m':List MB} {h h':List HB} {H H':List (PB X.Γ)}
theorem VPs.qP{ps:List (Nat×PV X.Γ)}{qs:List (Nat×TV)}(hp:VPs X P A m h ps qs):qs.all (fun p=>p.2.cells.all jk)=ps.all fun p=>p.2.cells.all a04:=by
 induction ps generalizing qs with
 |nil=>
  have:=hp.1;cases qs with
  |nil=>rfl
  |cons=>simp at this
 |cons a ps ih=>
  obtain⟨x,r,rfl,h1,h2⟩:=hp.inv;simp only[acF,EI (Ii h1),ih h2]
theorem XO{pl:Nat->Option (Nat×Nat)}:∀{qs:List (Nat×TV)} {xs r:List TV},tK pl xs qs=some r->r.length=xs.length
 | [],xs,r,h=>by simp only[tK,a0k]at h;rw[h]
 |(i,v)::qs,xs,r,h=>by
  simp only[tK]at h;split at h
  .split at h
   .split at h
    .rename_i cs' ho;rw[XO h];unfold wZ at ho;split at ho
     .cases ho;simp only[a1p,a4x,a4u];omega
     cases ho
    cases h
   cases h
  cases h
theorem pF{z:List TV}:∀n,(times z n).length=n*z.length
 | 0=>by simp[times]
 |n+1=>by simp[times,pF n,a3C];omega
theorem uO(hX:bT X P){ps:aT X.Γ}{ts:St}(hR:vT X P A m ps ts){t:LI2}{len:Nat}{vs:List (Nat×PV X.Γ)}{xs:List (Nat×TV)}(hv:VPs X P (AA A m) m ts.heap vs xs){v:PV X.Γ}{H1:List (PB X.Γ)}
  {raw:Bool} (hl:yR X P t len ps.heap vs raw=some (v,H1)):XL X P A m ts ((qV P t len ts xs).map fun(v,s)=>(v,s,cZ)) v H1 yE:=by
 have hr:=hR.heap;unfold yR at hl;split at hl
 .rename_i e n AP;obtain⟨hz,h0⟩:=oO AP;split at hl
  .rename_i hc;split at hl
   .rename_i z hzz;obtain⟨z',q1,q2⟩:=Ik (A:=AA A m) (m:=m) (h:=ts.heap) hzz;split at hl
    .rename_i Zl;split at hl
     .rename_i cs hf;obtain⟨cs',q3,q4⟩:=Ny hv (XG q2 len) hf;have hlen:cs'.length=len*n:=(by rw[XO q3,pF,<-q2.1,Zl]);have hT:∀w h1,(w,h1)=(TV.aP ts.heap.length 0 len len n true,ts.heap++[HB.cells .own cs'])->(qV P t len ts xs).map (fun(v,s)=>(v,s,cZ))=some (w,{ ts with heap:=h1 },cZ):=by intro w h1 e0;cases e0;simp only[qV,AP,hv.qP,hc,ad1,a2s,q1,<-q2.1,Zl,q3,a19]
      split at hl
      .rename_i rows is hd;cases hl;have hd:yQ X ps.heap e n len cs=some (rows,is):=by
        split at hd
        .cases hd
        .exact hd
       obtain⟨e1,hw⟩:=BF (m':=bW is m) hX hr q4 hd;by_cases hn:rows=[]
       .subst hn;have e2:len=0:=(by simpa using e1.symm);subst e2;have SI:cs'=[]:=a8r.1 (by omega);subst SI;have Iq:HR X P A (bW is m++[.dH (.aP ts.heap.length 0 0 0 n true)]) (bC is ps.heap++[.list true true e []]) (ts.heap++[.cells .own []])∧_:=(hr.bC is).push (pb:=.list true true e []) (hb:=.cells .own []) (mb:=.dH (.aP ts.heap.length 0 0 0 n true)) (.inr rfl)
         (LR.emp (b:=ts.heap.length) (cs:=[]) ⟨hr.up _ (a15 _),fun hm=>by rw[jr,a3v,kY]at hm;simp[MB.own]at hm;have:=(hr.bC is).inb hm;omega⟩ (by simp[aX]) (a15 _) hz h0)
        have RF:=iH (h:=ts.heap) is m;refine⟨_,_,_,_,hT _ _ rfl,Iq.1,.own ?_ rfl,RF.1.trans Iq.2.1,RF.2.trans Iq.2.2,.none,fun b hb=>by cases hb⟩;rw[<-hr.len,<-nJ is m];simp
       .have Iq:=qX hr is (k:=true) (ex:=true) (x:=true) hw (by rw[hlen,e1]) hn hz h0 (by simp);obtain⟨m1,g1,g2,g3,g4⟩:=Iq;refine⟨_,_,_,m1,hT _ _ rfl,g1,?_,g2,g3,.none,fun b hb=>by cases hb⟩;rw[e1]at g4;exact g4
      .cases hl;have hp:=hr.push (pb:=.cells cs) (hb:=.cells .own cs') (mb:=.gK ts.heap.length) (.inl rfl) ⟨cs',by simp,q4.step (by
        refine⟨by simp,fun b hb _=>by rw[a0E hb],fun b hb=>?_,fun b cs hc=>⟨cs,by rw[gq (a0E (gZ hc)),hc],a15 _⟩⟩;rw[jr,a3v,kY]at hb;rcases hb with hb|hb
        .exact .inl hb
        .simp[MB.own]at hb;exact .inr (by omega)) (xR _)⟩
       exact⟨_,_,_,_,hT _ _ rfl,hp.1,.aP (by rw[<-hr.len];simp),hp.2.1,hp.2.2,.none,fun b hb=>by cases hb⟩
     .cases hl
    .cases hl
   .cases hl
  .cases hl
 .cases hl
theorem PK{k:IntKind}{n:Int}{x:TV}(hv:VR X P A m h (.int k n) x):x=.int k n:=by
 cases hv with
 |int=>rfl
 |gone hi _ _=>simp[bH]at hi
theorem XP{t sz:Nat}{a:X.Γ t}{z:List TV}(ha:bZ X P F m h (X.enc t a) z)(hz:z.length=sz):∀n,eX X P F m h t (List.replicate n a) (times z n) 0 sz
 | 0=>⟨fun j a hj=>by simp at hj,by simp,fun j a i c v hj=>by simp at hj⟩
 |n+1=>by
  have h1:eX X P F m h t [a] z 0 sz:=by
   refine⟨fun j b hj=>?_,by simp[hz],fun j b i c v hj hi hx=>?_⟩
   .cases j with
    |zero=>simp only[a3p,a0k]at hj;subst hj;rw[ha.1,hz]
    |succ j=>simp at hj
   cases j with
   |zero=>simp only[a3p,a0k]at hj;subst hj;exact ha.2 i c v hi (by simpa using hx)
   |succ j=>simp at hj
  have:=h1.app (XP ha hz n) (by simp[hz]);simpa[aeQ,times]using this
theorem Bc(hX:bT X P){ps:aT X.Γ}{ts:St}(hR:vT X P A m ps ts){t:LI2}{l c:PV X.Γ}{tl tc:TV}(hvl:VR X P (AA A m) m ts.heap l tl)(hvc:VR X P (AA A m) m ts.heap c tc){v:PV X.Γ}{H1:List (PB X.Γ)}{qs:List Prop}
  (hl:Gt X P t ps.heap l c=some (v,H1,qs)) (hq:∀q∈qs,q):XL X P A m ts ((uf P t ts tl tc).map fun(v,s)=>(v,s,cZ)) v H1 yE:=by
 have hr:=hR.heap;unfold Gt at hl;split at hl
 .rename_i e n kl li kc ci AP;obtain⟨hz,h0⟩:=oO AP;rw[PK hvl,PK hvc];split at hl
  .rename_i MC;split at hl
   .rename_i z hzz;obtain⟨z',q1,q2⟩:=Ik (A:=AA A m) (m:=m) (h:=ts.heap) hzz;split at hl
    .rename_i Zl;split at hl
     .rename_i a ha;cases hl;have e1:li=ci:=hq _ (by simp);have e2:0<=li:=hq _ (by simp);have e3:li<=(ah:Nat):=hq _ (by simp);subst e1;have hm:li.toNat<=ah:=(by omega);have hm2:ah=2^20:=rfl;have hz2:z'.length=n:=by rw[<-q2.1];exact Zl
      have hT:∀w h1,(w,h1)=(TV.aP ts.heap.length 0 li.toNat li.toNat n true,ts.heap++[HB.cells .own (times z' li.toNat)])->(uf P t ts (.int kl li) (.int kc li)).map (fun(v,s)=>(v,s,cZ))=some (w,{ ts with heap:=h1 },cZ):=by
       intro w h1 e0;cases e0;have hN:∀k,a3l (.int k li)=some li.toNat:=fun k=>by
        have h9:li<=2^40:=by have:((2^20:Nat):Int)<=2^40:=(by decide);rw[hm2]at e3;omega
        simp only[a3l];rw[a0I ⟨e2,h9⟩]
       simp only[uf,AP,hN,a15,true_and,oN MC hm,a2s,q1,hz2,a19]
      have zA:=XP (m:=m) (h:=ts.heap) (F:=AA A m) (hX.dec ha q2) hz2 li.toNat;have hlen:(times z' li.toNat).length=li.toNat*n:=(by rw[pF,hz2]);by_cases hn:li.toNat=0
      .rw[hn]at hT ⊢;simp only[List.replicate_zero];have Iq:=hr.push (pb:=.list true true e []) (hb:=.cells .own (times z' 0)) (mb:=.dH (.aP ts.heap.length 0 0 0 n true)) (.inr rfl)
         (LR.emp (b:=ts.heap.length) (cs:=times z' 0) ⟨hr.up _ (a15 _),fun hm=>by rw[jr,a3v,kY]at hm;simp[MB.own]at hm;have:=hr.inb hm;omega⟩ (by simp[aX]) (a5u _) hz h0)
       exact⟨_,_,_,_,hT _ _ rfl,Iq.1,.own (by rw[<-hr.len];simp) rfl,Iq.2.1,Iq.2.2,.none,fun b hb=>by cases hb⟩
      .obtain⟨m1,g1,g2,g3,g4⟩:=qX hr [] (k:=true) (ex:=true) (x:=true) (rows:=List.replicate li.toNat a) (zA.mono fun b hb=>.inl hb) (by rw[a9j];exact hlen) (by intro e0;exact hn (by simpa using congrArg List.length e0)) hz h0 (by simp);refine⟨_,_,_,m1,hT _ _ rfl,g1,?_,g2,g3,.none,fun b hb=>by cases hb⟩;rw[a9j]at g4;exact g4
     .cases hl
    .cases hl
   .cases hl
  .cases hl
 .cases hl
end
open Go Tw
section
variable {X:lC} {P:LI1} {A F:Nat->Prop} {m m':List MB} {h h':List HB} {H H':List (PB X.Γ)}
theorem BH{o:Option (PV X.Γ)}{to:Option TV}(ho:OR X P A m h o to){d n:Nat}{a:Int}(he:zV X d o=some a)(h0:0<=a)(h1:a<=n):jJ n d to=some a.toNat:=by
 cases o with
 |none=>
  cases to with
  |none=>simp only[zV,a0k]at he;subst he;simp[jJ]
  |some=>exact ho.elim
 |some v=>
  cases to with
  |none=>exact ho.elim
  |some x=>
   cases v<;>simp only[zV]at he<;>try (cases he;done)
   cases he;rw[PK ho];simp only[jJ,rM];rw[a0I ⟨h0,h1⟩]
theorem PL{k:IntKind}{n:Int}{to:Option TV}(ho:OR X P A m h (some (.int k n)) to):to=some (.int k n):=by
 cases to with
 |none=>exact ho.elim
 |some x=>rw[PK ho]
theorem su{to:Option TV}(ho:OR X P A m h none to):to=none:=by
 cases to with
 |none=>rfl
 |some x=>exact ho.elim
theorem NG{v:PV X.Γ}{to:Option TV}(ho:OR X P A m h (some v) to):∃x,to=some x:=by
 cases to with
 |none=>exact ho.elim
 |some x=>exact⟨x,rfl⟩
theorem afs{t e:LI2}{b off len cap sz:Nat}{ex:Bool}(hu:P.underlying t=some (.slice e))(hz:dI P e=some sz){lo hi:Option (PV X.Γ)}{RG RH:Option TV}(h1:OR X P A m h lo RG)(h2:OR X P A m h hi RH){a z:Int}(e1:zV X 0 lo=some a)(e2:zV X len hi=some z)
  (q0:0<=a) (q1:a<=z) (q2:z<=len):rO P t (.aP b off len cap sz ex) RG RH none=some (.aP b (off+a.toNat*sz) (z.toNat-a.toNat) (cap-a.toNat) sz ex):=by
 have g1:=BH h1 e1 (n:=z.toNat) q0 (by omega);have g2:=BH h2 e2 (n:=len) (by omega) q2;simp only[rO,hu,hz,a2s,g2,g1]
theorem aaw{t e:LI2}{b off len cap sz:Nat}{ex:Bool}(hu:P.underlying t=some (.slice e))(hz:dI P e=some sz){lo hi:Option (PV X.Γ)}{RG RH:Option TV}(h1:OR X P A m h lo RG)(h2:OR X P A m h hi RH){a z:Int}(e1:zV X 0 lo=some a)(e2:zV X len hi=some z)(hs:hi.isSome)
  (q0:0<=a) (q1:a<=z) (q2:z<=len) (xH:len<=cap) {k:IntKind}:rO P t (.aP b off len cap sz ex) RG RH (some (.int k z))=some (.aP b (off+a.toNat*sz) (z.toNat-a.toNat) (z.toNat-a.toNat) sz true):=by
 have g1:=BH h1 e1 (n:=z.toNat) q0 (by omega);obtain⟨hv,rfl⟩:=a5N.1 hs;obtain⟨x,rfl⟩:=NG h2;have g3:rM cap (.int k z)=some z.toNat:=by simp only[rM];rw[a0I (by omega)]
 have g2:rM (min z.toNat len) x=some z.toNat:=by
  cases hv<;>simp only[zV]at e2<;>try (cases e2;done)
  cases e2;rw[PK (show VR X P A m h _ x from h2)];simp only[rM];rw[a0I (by omega)]
 simp only[rO,hu,hz,a2s,g3,g2,g1]
theorem a0i{t e:LI2}{sz:Nat}(hu:P.underlying t=some (.slice e))(hz:dI P e=some sz){lo hi:Option (PV X.Γ)}{RG RH:Option TV}(h1:OR X P A m h lo RG)(h2:OR X P A m h hi RH){a z:Int}(e1:zV X 0 lo=some a)(e2:zV X 0 hi=some z)(q0:a=0)(q1:z=0) :
  rO P t (.nil .aP) RG RH none=some (.nil .aP)∧∀{k:IntKind},hi.isSome->rO P t (.nil .aP) RG RH (some (.int k 0))=some (.nil .aP):=by
 subst q0;subst q1;have g1:=BH h1 e1 (n:=0) (by omega) (by omega);have g2:=BH h2 e2 (n:=0) (by omega) (by omega);have g0:jJ 0 0 none=some 0:=rfl;refine⟨by simp only[rO,hu,hz,g0,g1,g2];rfl,fun{k} hs=>?_⟩;obtain⟨hv,rfl⟩:=a5N.1 hs;obtain⟨x,rfl⟩:=NG h2;have g3:jJ 0 0 (some (.int k 0))=some 0:=rfl;simp only[rO,hu,hz,g1,g2,g3] ;rfl
theorem Oy{ps:aT X.Γ}{ts:St}(hR:vT X P A m ps ts){t:LI2}{x:PV X.Γ}{tx:TV}(hx:VR X P (AA A m) m ts.heap x tx){lo hi mx:Option (PV X.Γ)}{RG RH tmx:Option TV}(h1:OR X P (AA A m) m ts.heap lo RG)(h2:OR X P (AA A m) m ts.heap hi RH)(h3:OR X P (AA A m) m ts.heap mx tmx){v:PV X.Γ}{qs:List Prop}
  (hl:a08 X P t ps.heap x lo hi mx=some (v,qs)) (hq:∀q∈qs,q):∃w,rO P t tx RG RH tmx=some w∧VR X P (AA A m) m ts.heap v w:=by
 have hr:=hR.heap;unfold a08 at hl;split at hl
 .rename_i e t' l fu hu;split at hl
  .rename_i n a z hz e1 e2;split at hl
   .rename_i ht;subst ht;cases hl;have q0:0<=a:=hq _ (by simp);have q1:a<=z:=hq _ (by simp);have q2:z<=(l.length:Nat):=hq _ (by simp);rw[su h3,ai3];cases hx with
    |pU=>
     have ea:a=0:=by simp at q2;omega
     have ez:z=0:=by simp at q2;omega
     exact⟨_,(a0i hu hz h1 h2 e1 e2 ea ez).1,by simp only[List.drop_nil,List.take_nil];exact .pU⟩
    |dH p1 p2 p2' p3 p4 p5 p6 p7 p8 p9=>
     rw[hz]at p3;cases p3;exact⟨_,afs hu hz h1 h2 e1 e2 q0 q1 q2,(VR.dH p1 p2 p2' hz p4 p5 p6 p7 p8 p9).part (by omega) (by omega) (.inr (by omega)) (by simp)⟩
    |gone hi _ _=>simp[bH]at hi
   .cases hl
  .rename_i n a z k mv hz e1 e2;split at hl
   .rename_i ht;obtain⟨ht,CQ⟩:=ht;subst ht;split at hl
    .rename_i hfu;subst hfu;cases hl;have q0:a=0:=hq _ (by simp);have q2:z=(l.length:Nat):=hq _ (by simp);have q3:mv=z:=hq _ (by simp);subst q3;subst q0;rw[PL h3];cases hx with
     |pU=>
      have ez:mv=0:=(by simpa using q2);have:=(a0i hu hz h1 h2 e1 e2 rfl ez).2 (k:=k) CQ;exact⟨_,by rw[<-ez]at this;exact this,.pU⟩
     |dH p1 p2 p2' p3 p4 p5 p6 p7 p8 p9=>
      rw[hz]at p3;cases p3;obtain⟨p7a,p7b⟩:=p7 rfl;subst p7a;subst p7b;refine⟨_,aaw hu hz h1 h2 e1 e2 CQ (aa0 0) (by omega) (by omega) p6,?_⟩;subst q2;have:=VR.dH (fu:=true) p1 p2 p2' hz p4 p5 (a15 _) (fun _=>⟨rfl,rfl⟩) p8 p9;simpa using this
     |gone hi _ _=>simp[bH]at hi
    cases hl;have q0:0<=a:=hq _ (by simp);have q1:a<=z:=hq _ (by simp);have q2:z<=(l.length:Nat):=hq _ (by simp);have q3:mv=z:=hq _ (by simp);have q4:a=z:=hq _ (by simp);subst q3;rw[PL h3,ai3];cases hx with
    |pU=>
     have ea:a=0:=by simp at q2;omega
     have ez:mv=0:=by simp at q2;omega
     have:=(a0i hu hz h1 h2 e1 e2 ea ez).2 (k:=k) CQ;rw[<-ez]at this;exact⟨_,this,by simp only[List.drop_nil,List.take_nil];exact .pU⟩
    |dH p1 p2 p2' p3 p4 p5 p6 p7 p8 p9=>
     rw[hz]at p3;cases p3;exact⟨_,aaw hu hz h1 h2 e1 e2 CQ q0 q1 q2 p6,(VR.dH p1 p2 p2' hz p4 p5 p6 p7 p8 p9).part (by omega) (by omega) (.inl (by omega)) (by simp)⟩
    |gone hi _ _=>simp[bH]at hi
   .cases hl
  .cases hl
 .rename_i e i hu;split at hl
  .rename_i kk ex t' l hb;obtain⟨mb,g1,g2⟩:=hr.at_ i _ hb;cases mb with
   |dH y=>
    cases hx with
    |gone hi e' _=>simp only[bH,a0k]at hi;subst hi;rw[g1]at e';cases e'
    |own e' o=>
     rw[g1]at e';cases e';have hlr:LR X P (AA A m) m ts.heap kk ex t' l tx:=g2;split at hl
     .rename_i n a z hz e1 e2;split at hl
      .rename_i ht;subst ht;cases hl;have q0:0<=a:=hq _ (by simp);have q1:a<=z:=hq _ (by simp);have q2:z<=(l.length:Nat):=hq _ (by simp);rw[su h3];cases hlr with
       |nil=>
        have ea:a=0:=by simp at q2;omega
        have ez:z=0:=by simp at q2;omega
        refine⟨_,(a0i hu hz h1 h2 e1 e2 ea ez).1,?_⟩;subst ea;subst ez;exact .Bv g1
       |emp p0 p1 p2 p3 p4=>
        rw[hz]at p3;cases p3;exact⟨_,afs (len:=0) hu hz h1 h2 e1 e2 q0 q1 q2,.win g1 (by simp at q2;omega) (by simp at q2;omega) (.inl (by simp at q2;omega))⟩
       |some p1 p2 p3 p4 p5 p6 p7 p8 p9=>
        rw[hz]at p2;cases p2;exact⟨_,afs hu hz h1 h2 e1 e2 q0 q1 q2,.win g1 (by omega) (by omega) (.inr (by omega))⟩
      .cases hl
     .rename_i n a z k mv hz e1 e2;split at hl
      .rename_i ht;obtain⟨ht,CQ⟩:=ht;subst ht;cases hl;have q0:0<=a:=hq _ (by simp);have q1:a<=z:=hq _ (by simp);have q2:z<=(l.length:Nat):=hq _ (by simp);have q3:mv=z:=hq _ (by simp);have q4:a=z:=hq _ (by simp);subst q3;rw[PL h3];cases hlr with
       |nil=>
        have ea:a=0:=by simp at q2;omega
        have ez:mv=0:=by simp at q2;omega
        have:=(a0i hu hz h1 h2 e1 e2 ea ez).2 (k:=k) CQ;rw[<-ez]at this;refine⟨_,this,?_⟩;subst ea;subst ez;exact .Bv g1
       |emp p0 p1 p2 p3 p4=>
        rw[hz]at p3;cases p3;exact⟨_,aaw (len:=0) hu hz h1 h2 e1 e2 CQ q0 q1 q2 (a15 _),.win g1 (by simp at q2;omega) (by omega) (.inl (by omega))⟩
       |some p1 p2 p3 p4 p5 p6 p7 p8 p9=>
        rw[hz]at p2;cases p2;exact⟨_,aaw hu hz h1 h2 e1 e2 CQ q0 q1 q2 (a15 _),.win g1 (by omega) (by omega) (.inl (by omega))⟩
      .cases hl
     .cases hl
   |_=>exact g2.elim
  .cases hl
 .rename_i e hu;have:tx=.nil .aP:=by
   cases hx with
   |nil=>rfl
   |gone hi _ _=>simp[bH]at hi
  subst this;split at hl
  .rename_i n a z hz e1 e2;cases hl;have q0:a=0:=hq _ (by simp);have q1:z=0:=hq _ (by simp);rw[su h3];exact⟨_,(a0i hu hz h1 h2 e1 e2 q0 q1).1,.nil _⟩
  .rename_i n a z k mv hz e1 e2;split at hl
   .rename_i CQ;cases hl;have q0:a=0:=hq _ (by simp);have q1:z=0:=hq _ (by simp);have q2:mv=0:=hq _ (by simp);subst q2;rw[PL h3];exact⟨_,(a0i hu hz h1 h2 e1 e2 q0 q1).2 CQ,.nil _⟩
   .cases hl
  .cases hl
 .cases hl
theorem Dv(hX:bT X P){ps:aT X.Γ}{ts:St}(hR:vT X P A m ps ts){t:LI2}{x:PE X.Γ}{ex:EV}(hx:Jo X P (AA A m) m ts.heap x ex){lo hi mx:Option (PV X.Γ)}{RG RH tmx:Option TV}(h1:OR X P (AA A m) m ts.heap lo RG)(h2:OR X P (AA A m) m ts.heap hi RH)(h3:OR X P (AA A m) m ts.heap mx tmx){v:PV X.Γ}{H1:List (PB X.Γ)}{qs:List Prop}
  (hl:JD X P t ps.heap x lo hi mx=some (v,H1,qs)) (hq:∀q∈qs,q):XL X P A m ts ((qU P t ex RG RH tmx).map fun v=>(v,ts,cZ)) v H1 yE:=by
 have hr:=hR.heap;unfold JD at hl;split at hl
 .rename_i n e b off lim hu;split at hl
  .rename_i size hz;split at hl
   .cases hl
   .rename_i Me;split at hl
    .cases hl
    .rw[su h3];obtain⟨y,rfl,hy⟩:=gu hx;split at hl
     .split at hl
      .rename_i cs hb;cases hl;rw[su h1,su h2];obtain⟨mb,g1,g2⟩:=hr.at_ b _ hb;cases mb with
       |gK c=>
        cases hy with
        |gone hi e' _=>simp only[bH,a0k]at hi;subst hi;rw[g1]at e';cases e'
        |ptr e'=>
         rw[g1]at e';cases e';exact⟨.aP c off n n size true,ts.heap,cZ,m,by simp[qU,hu,hz,Me,jJ],hr,.aP g1,.refl,.refl,.none,fun d hd=>by cases hd⟩
       |_=>exact g2.elim
      .cases hl
     .rename_i ZC xk _;split at hl
      .rename_i cs a z hb e1 e2;split at hl
       .cases hl
       rename_i afn;split at hl
       .rename_i rows is hd;cases hl;have q0:0<=a:=hq _ (by simp);have q1:a<=z:=hq _ (by simp);have q2:z<=(n:Nat):=hq _ (by simp);obtain⟨mb,g1,g2⟩:=hr.at_ b _ hb;cases mb with
        |gK c=>
         obtain⟨cs',g3,g4⟩:=g2;cases hy with
         |gone hi e' _=>simp only[bH,a0k]at hi;subst hi;rw[g1]at e';cases e'
         |ptr e'=>
          rw[g1]at e';cases e';have f1:=BH h1 e1 (n:=z.toNat) q0 (by omega);have f2:=BH h2 e2 (n:=n) (by omega) q2;obtain⟨w1,w2⟩:=BF (m':=bW (b::is) m) hX hr (g4.drop off) hd;have w3:=w2.2.1;rw[a4u]at w3;have hgo:=hr.bC (b::is);have RF:=iH (h:=ts.heap) (b::is) m;have hnc:AA A (bW (b::is) m) c:=by refine FA.gone hr (.inr ⟨b,_,a3E,g1,rfl⟩)
          refine⟨.aP c (off+a.toNat*size) (z.toNat-a.toNat) (n-a.toNat) size true,ts.heap,cZ,bW (b::is) m,?_,hgo,?_,RF.1,RF.2,.none,fun d hd=>by cases hd⟩
          .have f0:jJ n n none=some n:=rfl;simp only[qU,hu,hz,Me,a3U,f0,f2,f1,Option.isSome_none,Bool.false_and,a3u,a19]
          .rw[ai3];have ajw:VR X P (AA A (bW (b::is) m)) (bW (b::is) m) ts.heap (.dH e rows false) (.aP c off rows.length n size true):=by
            refine .dH hnc (by unfold aX;rw[g3]) (fun _=>xQ g3 (by simp)) hz (by omega) ?_ (by omega) (by simp) w2.1 (fun j y i d v hj hi hx=>?_)
            .rw[w1,<-g4.1];omega
            .refine(w2.2.2 j y i d v hj hi ?_).mono fun q hq=>FA.gone hr (FA.mono (fun i hi=>a4a _ hi) hq);rw[a5j,<-hx];congr 1;omega
           exact ajw.part (by omega) (by omega) (.inr (by omega)) (by simp)
        |_=>exact g2.elim
       .cases hl
      .cases hl
  .cases hl
 .cases hl
theorem VA{ps:aT X.Γ}{ts:St}(hR:vT X P A m ps ts){t:LI2}{x:PE X.Γ}{ex:EV}(hx:Jo X P (AA A m) m ts.heap x ex){lo hi:Option (PV X.Γ)}{RG RH tmx:Option TV}(h1:OR X P (AA A m) m ts.heap lo RG)(h2:OR X P (AA A m) m ts.heap hi RH)(h3:OR X P (AA A m) m ts.heap none tmx){v:PV X.Γ}
  (hl:Gu X P t ps.heap x lo hi=some v):XL X P A m ts ((qU P t ex RG RH tmx).map fun v=>(v,ts,cZ)) v ps.heap yE:=by
 have hr:=hR.heap;unfold Gu at hl;split at hl
 .rename_i n e b off lim hu;split at hl
  .rename_i size cs a z hz hb e1 e2;split at hl
   .cases hl
   .rename_i Me;split at hl
    .rename_i hq;cases hl;rw[su h3];obtain⟨y,rfl,hy⟩:=gu hx;obtain⟨mb,g1,g2⟩:=hr.at_ b _ hb;cases mb with
     |gK c=>
      cases hy with
      |gone hi e' _=>simp only[bH,a0k]at hi;subst hi;rw[g1]at e';cases e'
      |ptr e'=>
       rw[g1]at e';cases e';have f1:=BH h1 e1 (n:=z.toNat) hq.1 (by omega);have f2:=BH h2 e2 (n:=n) (by omega) hq.2.2;refine⟨.aP c (off+a.toNat*size) (z.toNat-a.toNat) (n-a.toNat) size true,ts.heap,cZ,m,?_,hr,.aP g1,.refl,.refl,.none,fun d hd=>by cases hd⟩;have f0:jJ n n none=some n:=rfl;simp only[qU,hu,hz,Me,a3U,f0,f2,f1,Option.isSome_none,Bool.false_and,a3u,a19]
     |_=>exact g2.elim
    .cases hl
  .cases hl
 .cases hl
end
open Go Tw
section
variable {X:lC} {P:LI1} {A B F:Nat->Prop} {m m':List MB} {h h':List HB} {H H':List (PB X.Γ)}
theorem wU:∀{vs:List (PV X.Γ)} {i:Nat} {v:PV X.Γ},yD.Ia vs=false->vs[i]? = some v->yD v=false
 | [],_,_,_,h=>by simp at h
 |a::vs,i,v,hc,h=>by
  simp only[yD.Ia,aa8]at hc;cases i with
  |zero=>simp only[a3p,a0k]at h;subst h;exact hc.1
  |succ i=>exact wU hc.2 (by simpa using h)
theorem uo{k:Nat}:∀{vs:List (PV X.Γ)} {i:Nat} {v:PV X.Γ},(shift.shifts k vs)[i]? = some v->∃u,vs[i]? = some u∧v=shift k u
 | [],_,_,h=>by simp[shift.shifts]at h
 |a::vs,i,v,h=>by
  cases i with
  |zero=>simp only[shift.shifts,a3p,a0k]at h;exact⟨a,rfl,h.symm⟩
  |succ i=>obtain⟨u,h1,h2⟩:=uo (vs:=vs) (i:=i) (by simpa[shift.shifts]using h);exact⟨u,by simpa using h1,h2⟩
theorem uq{k:Nat}:∀{vs:List (PV X.Γ)},(shift.shifts k vs).length=vs.length
 | []=>rfl
 |a::vs=>by simp[shift.shifts,uq (vs:=vs)]
theorem a0j{k i:Nat}{v:PV X.Γ}(h:bH v=some i):bH (shift k v)=some (i+k):=by cases v<;>simp[bH]at h<;>subst h<;>rfl
theorem VR.shift(hX:bT X P){m0:List MB}{v:PV X.Γ}{x:TV}(hv:VR X P A m h v x)(hq:(∀b,A b->B b)∨yD v=false):VR X P B (m0++m) h (Pv.shift m0.length v) x:=by
 have at':∀{i:Nat} {mb:MB},m[i]? = some mb->(m0++m)[i+m0.length]? = some mb:=by intro i mb hi;rw[a1a (by omega)];simpa using hi
 induction hv with
 |bool=>exact .bool _
 |lit=>exact .lit _
 |int=>exact .int _ _
 |str=>exact .str _
 |nil=>exact .nil _
 |ptr e=>exact .ptr (at' e)
 |aP e=>exact .aP (at' e)
 |own e o=>exact .own (at' e) o
 |win e q q' q2=>exact .win (at' e) q q' q2
 |Bv e=>exact .Bv (at' e)
 |map e=>exact .map (at' e)
 |iter e=>exact .iter (at' e)
 |fn h1 _ h3 _ i2 i4=>
  refine .fn (by rw[uq,h1]) (fun i x y hx hy=>?_) (by rw[uq,h3]) (fun i x y hx hy=>?_)
  .obtain⟨u,g1,rfl⟩:=uo hx;exact i2 i u y g1 hy (hq.imp_right fun hq=>by simp only[yD,aa8]at hq;exact wU hq.1 g1)
  obtain⟨u,g1,rfl⟩:=uo hx;exact i4 i u y g1 hy (hq.imp_right fun hq=>by simp only[yD,aa8]at hq;exact wU hq.2 g1)
 |lF e=>exact .lF (at' e)
 |agg h1 _ i2=>
  refine .agg (by rw[uq,h1]) (fun i x y hx hy=>?_);obtain⟨u,g1,rfl⟩:=uo hx;exact i2 i u y g1 hy (hq.imp_right fun hq=>by simp only[yD]at hq;exact wU hq g1)
 |dJ h1 _ i2=>
  refine .dJ (by rw[uq,h1]) (fun i x y hx hy=>?_);obtain⟨u,g1,rfl⟩:=uo hx;exact i2 i u y g1 hy (hq.imp_right fun hq=>by simp only[yD]at hq;exact wU hq g1)
 |pU=>exact .pU
 |dH a c c2 s z o k f e r _=>
  rcases hq with hq|hq
  .exact .dH (hq _ a) c c2 s z o k f e fun j y i d v h1 h2 h3=>((r j y i d v h1 h2 h3).mono hq).jC hX (fJ (hX.jC _ _) h2)
  simp[yD]at hq
 |el a c l o e q r _=>
  rcases hq with hq|hq
  .exact .el (hq _ a) c l o e q fun i d v h1 h2=>((r i d v h1 h2).mono hq).jC hX (fJ (hX.jC _ _) h1)
  simp[yD]at hq
 |row e j q=>exact .row (at' e) j q
 | @gone v i x hi e o=>
  have e':(m0++m)[i+m0.length]? = m[i]?:=by rw[a1a (by omega)];congr 1;omega
  exact .gone (a0j hi) (by rw[e'];exact e.as fun c=>by cases v<;>rfl) o
theorem bZ.shift(hX:bT X P){m0:List MB}{v:List (PV X.Γ)}{x:List TV}(hv:bZ X P A m h v x)(hq:(∀b,A b->B b)∨yD.Ia v=false):bZ X P B (m0++m) h (Pv.shift.shifts m0.length v) x:=by refine⟨by rw[uq,hv.1],fun i a b ha hb=>?_⟩;obtain⟨u,g1,rfl⟩:=uo ha;exact(hv.2 i u b g1 hb).shift hX (hq.imp_right fun hq=>wU hq g1)
theorem BR.shift(hX:bT X P){m0:List MB}{b b':PB X.Γ}{mb:MB}(hb:BR X P A m h b mb)(hs:Gq X m0.length b=some b')(hq:(∀c,A c->B c)∨hasB X b=false):BR X P B (m0++m) h b' mb:=by
 cases b with
 |cells cs=>
  cases mb with
  |gK c=>
   simp only[Gq,a0k]at hs;subst hs;obtain⟨cs',h1,h2⟩:=hb;exact⟨cs',h1,h2.shift hX hq⟩
  |_=>exact hb.elim
 |list k ex t l=>
  cases mb with
  |dH y=>
   simp only[Gq,a0k]at hs;subst hs;rcases hq with hq|hq
   .cases(hb:LR X P A m h k ex t l y)with
    |nil=>exact LR.nil
    |emp p0 p1 p2 p3 p4=>exact LR.emp (hq _ p0) p1 p2 p3 p4
    |some p1 p2 p3 p4 p5 p6 p7 p8 p9=>exact LR.some p1 p2 p3 p4 p5 p6 p7 p8 ((p9.mono hq).jC hX)
   simp[hasB]at hq
  |_=>exact hb.elim
 |gone=>
  cases mb with
  |gone=>simp only[Gq,a0k]at hs;subst hs;trivial
  |_=>exact hb.elim
 |_=>simp[Gq]at hs
theorem Lr{k:Nat}:∀{bs bs':List (PB X.Γ)} {i:Nat} {b':PB X.Γ},rX X k bs=some bs'->bs'[i]? = some b'->∃b,bs[i]? = some b∧Gq X k b=some b'
 | [],bs',i,b',h,hi=>by simp only[rX,a0k]at h;subst h;simp at hi
 |b::bs,bs',i,b',h,hi=>by
  simp only[rX]at h;split at h
  .rename_i c cs h1 h2;cases h;cases i with
   |zero=>simp only[a3p,a0k]at hi;subst hi;exact⟨b,rfl,h1⟩
   |succ i=>obtain⟨d,g1,g2⟩:=Lr h2 (i:=i) (by simpa using hi);exact⟨d,by simpa using g1,g2⟩
  cases h
theorem Ls{k:Nat}:∀{bs bs':List (PB X.Γ)},rX X k bs=some bs'->bs'.length=bs.length
 | [],bs',h=>by simp only[rX,a0k]at h;subst h;rfl
 |b::bs,bs',h=>by
  simp only[rX]at h;split at h
  .rename_i c cs h1 h2;cases h;simp[Ls h2]
  cases h
def nR(X:lC)(P:LI1)(call:bn)(f:FuncId)(vs:List (PV X.Γ))(v:PV X.Γ)(ext:List (PB X.Γ)):Prop:=
 ∀(A:Nat->Prop) (h:List HB) (first args cap:List TV),(∀b,h.length<=b->A b)->bZ X P A [] h vs (first++args++cap) ->
  ∃w h' m',call (.fn f first cap) args h=some (w,h',[])∧HR X P A m' ext h'∧VR X P (AA A m') m' h' v w∧Fr [] h m' h'
theorem Ir(hX:bT X P){call:bn}{f:FuncId}{first xs cap vs:List (PV X.Γ)}{v:PV X.Γ}{ext ext':List (PB X.Γ)}(hc:nR X P call f vs v ext)(hr:HR X P A m H h)(hv:views H (first++xs++cap)=some vs)(hs:rX X H.length ext=some ext')
  {t1 t2 t3:List TV} (h1:bZ X P (AA A m) m h first t1) (h2:bZ X P (AA A m) m h xs t2) (h3:bZ X P (AA A m) m h cap t3) :
  ∃w h' m1,call (.fn f t1 t3) t2 h=some (w,h',[])∧HR X P A m1 ((if yD v||ext.any (hasB X)then bC (kX.kP (first++xs++cap)) H else H)++ext') h'∧VR X P (AA A m1) m1 h' (shift H.length v) w∧Fr m h m1 h'∧Up m m1:=by
 have hvs:=lX (m':=[]) hX hr ((h1.app h2).app h3) hv (is:=kX.kP (first++xs++cap)) fun i hi=>hi;generalize kX.kP (first++xs++cap)=is at hvs ⊢;obtain⟨w,h',m',c1,c2,c3,c4⟩:=hc (fun b=>FA A m is b∨h.length<=b) h t1 t2 t3 (fun b hb=>.inr hb) (hvs.mono fun b hb=>.inl hb);have hold:∀b,b<h.length->h'[b]? = h[b]?:=fun b hb=>c4.same b hb (by simp[bI]);have gG:∀b,b∈bI m'->h.length<=b:=fun b hb=>by
  rcases c4.new b hb with h0|h0
  .simp[bI]at h0
  .exact h0
 have key:∀(m0:List MB) (H0:List (PB X.Γ)),HR X P A m0 H0 h->Fr m h m0 h->Up m m0->m0.length=H.length->((∀b,FA A m is b->AA A m0 b)∨(yD v||ext.any (hasB X))=false) ->
   ∃m1,HR X P A m1 (H0++ext') h'∧VR X P (AA A m1) m1 h' (shift H.length v) w∧Fr m h m1 h'∧Up m m1:=by
  intro m0 H0 hr0 hF0 hU0 rG hq;have hF:Fr m0 h (m0++m') h':=by refine⟨c4.len,fun b hb _=>hold b hb,fun b hb=>?_,fun b cs hc=>⟨cs,by rw[gq (hold b (gZ hc)),hc],a15 _⟩⟩;rw[jr,a3v]at hb;exact hb.imp_right fun hb=>gG b hb
  have hA:(∀b,AA (fun b=>FA A m is b∨h.length<=b) m' b->AA A (m0++m') b)∨(yD v||ext.any (hasB X))=false:=by
   refine hq.imp_left fun hq b hb=>?_;refine⟨?_,fun hm=>?_⟩
   .rcases hb.1 with h0|h0
    .exact(hq b h0).1
    .exact hr.up b h0
   .rw[jr,a3v]at hm;rcases hm with hm|hm
    .rcases hb.1 with h0|h0
     .exact(hq b h0).2 hm
     .have:=hr0.inb hm;omega
    .exact hb.2 hm
  refine⟨m0++m',?_,?_,hF0.trans hF,hU0.trans (xR _)⟩
  .refine hr0.next hF (xR _) (by rw[a1p,a1p,hr0.len,Ls hs,c2.len]) ?_ fun i b hi=>?_
   .rw[jr];refine a9G.2 ⟨hr0.nodup,c2.nodup,fun a ha b hb e=>?_⟩;subst e;have:=hr0.inb ha;have:=gG a hb;omega
   .rcases a5h i H0.length with aQ|FI
    .left;rw[a0E aQ]at hi;obtain⟨mb,g1,g2⟩:=hr0.at_ i b hi;exact⟨mb,hi,g1,by rw[a0E (by rw[hr0.len];exact aQ)];exact g1,fun c hc=>hold c (g2.has hc)⟩
    .right;rw[a1a FI]at hi;obtain⟨b0,g1,g2⟩:=Lr hs hi;obtain⟨mb,g3,g4⟩:=c2.at_ _ _ g1;refine⟨mb,by rw[a1a (by rw[hr0.len];exact FI),hr0.len];exact g3,?_⟩;rw[<-rG]at g2;refine g4.shift hX g2 (hA.imp_right fun hq=>?_);simp only[aa8,List.any_eq_false]at hq;simpa using hq.2 b0 (a5q g1)
  .rw[<-rG];exact c3.shift hX (hA.imp_right fun hq=>by simp only[aa8]at hq;exact hq.1)
 refine⟨w,h',?_⟩;by_cases hL:(yD v||ext.any (hasB X))=true
 .rw[a0I hL];obtain⟨m1,e1,e2,e3,e4⟩:=key (bW is m) (bC is H) (hr.bC is) (iH (h:=h) is m).1 (iH (h:=h) is m).2 (by rw[nJ,hr.len]) (.inl fun b hb=>hb.gone hr);exact⟨m1,c1,e1,e2,e3,e4⟩
 .rw[a0F hL];obtain⟨m1,e1,e2,e3,e4⟩:=key m H hr .refl .refl hr.len (.inr (by simpa using hL));exact⟨m1,c1,e1,e2,e3,e4⟩
end
open Go Tw
section
variable {X:lC} {P:LI1} {A B F:Nat->Prop} {m m':List MB} {h h':List HB} {H H':List (PB X.Γ)}
def dF(X:lC)(P:LI1)(call:bn):a3S X.Γ:=fun fv xs H v H1=>
 ∀(A:Nat->Prop) (m:List MB) (h:List HB) (tf:TV) (sD:List TV),HR X P A m H h->VR X P (AA A m) m h fv tf->bZ X P (AA A m) m h xs sD ->
  ∃w h1 ws m1,call tf sD h=some (w,h1,ws)∧HR X P A m1 H1 h1∧VR X P (AA A m1) m1 h1 v w∧Fr m h m1 h1∧Up m m1∧∀b∈ws,b∈bI m
def jS(X:lC)(P:LI1)(call:bn)(fV:dZ X.Γ):Prop:=∀f vs v ext ps,fV f vs=some (v,ext,ps)->(∀p∈ps,p)->nR X P call f vs v ext
theorem vC{ρ:Type}{y:ρ}:∀{ps:List Prop} {x:OT ρ},(owe ps x).Ends y->(∀p∈ps,p)∧x.Ends y
 | [],x,h=>⟨by simp,h⟩
 |p::ps,x,h=>by have:=vC h.2;exact⟨fun q hq=>by rcases a2x.1 hq with rfl|hq;exact h.1;exact this.1 q hq,this.2⟩
theorem a0l{ρ:Type}{y:ρ}{u:PV X.Γ}{an:PT X.Γ}{k:Bool->PT X.Γ->OT ρ}(hk:(byB X u an k).Ends y){tu:TV}(hu:VR X P A m h u tu):∃t Iu,tu=.bool t∧(k t Iu).Ends y:=by
 cases u with
 |lit b=>
  have:tu=.bool b:=by
   cases hu with
   |lit=>rfl
   |gone hi _ _=>simp[bH]at hi
  exact⟨b,an,this,hk⟩
 |bool b=>
  have hb:tu=.bool b:=by
   cases hu with
   |bool=>rfl
   |gone hi _ _=>simp[bH]at hi
  subst hb;cases an with
  |s x z=>
   rcases hk with⟨h1,h2⟩|⟨h1,h2⟩
   .subst h1;exact⟨true,x,rfl,h2⟩
   subst h1;exact⟨false,z,rfl,h2⟩
  |a x r=>
   cases x with
   |br t=>obtain⟨h1,h2⟩:=hk;subst h1;exact⟨_,r,rfl,h2⟩
   |_=>exact hk.elim
  |_=>exact hk.elim
 |_=>exact hk.elim
theorem sF:∀{es:List (PV X.Γ×PV X.Γ)} {gJ:List (TV×TV)} {ks:List TV},es.length=gJ.length->(∀(i:Nat) x y,es[i]? = some x->gJ[i]? = some y->VR X P A m h x.1 y.1∧VR X P A m h x.2 y.2)->wu X es=some ks->gJ.map (·.1)=ks
 | [],gJ,ks,hl,_,hk=>by
  simp only[wu,a0k]at hk;subst hk;cases gJ with
  |nil=>rfl
  |cons=>simp at hl
 |(k,v)::es,gJ,ks,hl,he,hk=>by
  cases gJ with
  |nil=>simp at hl
  |cons y gJ=>
   simp only[wu]at hk;split at hk
   .rename_i a b h1 h2;cases hk;have:=kC (he 0 _ _ rfl rfl).1 h1;simp only[a5g,this];rw[sF (by simpa using hl) (fun i x z hx hz=>he (i+1) x z (by simpa using hx) (by simpa using hz)) h2]
   cases hk
theorem XQ:∀{ks:List TV} {vs:List LI3},CZ ks=some vs->vs.length=ks.length
 | [],vs,h=>by simp only[CZ,a0k]at h;subst h;rfl
 |k::ks,vs,h=>by
  simp only[CZ]at h;split at h
  .rename_i v ws _ h2;cases h;simp[XQ h2]
  cases h
theorem qB{kt:LI2}{k:LI3}{gJ:List (TV×TV)}:FC P kt k gJ=wz P kt k (gJ.map (·.1)):=by
 unfold FC wz;cases hv:CZ (gJ.map (·.1))with
 |none=>rfl
 |some vs=>
  have hl:=XQ hv;have:gJ.isEmpty=vs.isEmpty:=by cases gJ<;>cases vs<;>simp at hl<;>rfl
  simp only[this]<;>rfl
def TJ:TV->List Key
 |.map r=>[.h r]
 |_=>[]
def a3X(h:List HB):TV->Option (List (TV×TV))
 |.nil .map=>some []
 |.map r=>match h[r]? with
  |some (.map es)=>some es
  |_=>none
 |_=>none
theorem Lu{t:LI2}{h:List HB}{tm tk:TV}{ok:Bool}{kt e:LI2}{kv:LI3}{es:List (TV×TV)}(hu:P.underlying t=some (.map kt e))(hk:tk.zk=some kv)(he:a3X h tm=some es) :
  iD P t h tm tk ok=match FC P kt kv es with
   |some (some i)=>match es[i]? with
    |some (_,v)=>some (if ok then .dJ [v,.bool true]else v)
    |none=>none
   |some none=>match P.info? e with
    |some i=>match i.zero with
     |some z=>(TV.WV z).map fun z=>if ok then .dJ [z,.bool false]else z
     |none=>none
    |none=>none
   |none=>none:=by
 unfold iD;simp only[hu,hk];cases tm with
 |nil k=>
  cases k<;>simp only[a3X]at he<;>try (cases he;done)
  cases he;rfl
 |map r=>
  simp only[a3X]at he;split at he
  .rename_i es0 hb;cases he;simp only[hb];rfl
  .cases he
 |_=>simp[a3X]at he
theorem DV{H:List (PB X.Γ)}{h:List HB}(hr:HR X P A m H h){r:Nat}{es:List (PV X.Γ×PV X.Γ)}(he:Ll X H r=some es):∃c gJ,(m[r]? = some (.gK c)∨(m[r]? = some (.jF c)∧c∉bI m))∧h[c]? = some (.map gJ)∧es.length=gJ.length ∧
  ∀(i:Nat) x y,es[i]? = some x->gJ[i]? = some y->qJ x.1=some y.1∧qJ x.2=some y.2:=by
 unfold Ll at he;split at he
 .rename_i es0 hb;cases he;obtain⟨mb,g1,g2⟩:=hr.at_ r _ hb;cases mb with
  |gK c=>obtain⟨gJ,g3,g4,g5⟩:=g2;exact⟨c,gJ,.inl g1,g3,g4,g5⟩
  |_=>exact g2.elim
 .rename_i es0 hb;cases he;obtain⟨mb,g1,g2⟩:=hr.at_ r _ hb;cases mb with
  |jF c=>obtain⟨g0,gJ,g3,g4,g5⟩:=g2;exact⟨c,gJ,.inr ⟨g1,g0⟩,g3,g4,g5⟩
  |_=>exact g2.elim
 .cases he
theorem a2a{B:Nat->Prop}{h:List HB}{r c:Nat}{tm:TV}(hm:VR X P B m h (.map r) tm)(hc:m[r]? = some (.gK c)∨(m[r]? = some (.jF c)∧c∉bI m)):tm=.map c:=by
 cases hm with
 |map e=>
  rcases hc with h|⟨h,_⟩<;>rw[h]at e<;>cases e
  rfl
 |gone hi e _=>
  simp only[bH,a0k]at hi;subst hi;rcases hc with h|⟨h,_⟩<;>rw[h]at e
  .cases e
  cases e with
  |r c hv=>simp only[roV,a0k]at hv;exact hv.symm
theorem TK{r c:Nat}{ks:List Key}(hc:m[r]? = some (.gK c)∨(m[r]? = some (.jF c)∧c∉bI m)):(∃i,Key.h i∈Key.h r::ks∧Io m i c)∨c∉bI m:=by
 rcases hc with h|⟨_,h⟩
 .exact .inl ⟨r,by simp,jf h rfl⟩
 exact .inr h
theorem aft{ps:aT X.Γ}{ts:St}(hR:vT X P A m ps ts){mv:PV X.Γ}{tm:TV}(hm:VR X P (AA A m) m ts.heap mv tm){es:List (PV X.Γ×PV X.Γ)}(he:a6J X ps.heap mv=some es) :
  ∃gJ,a3X ts.heap tm=some gJ∧es.length=gJ.length∧(∀(i:Nat) x y,es[i]? = some x->gJ[i]? = some y->VR X P (AA A m) m ts.heap x.1 y.1∧VR X P (AA A m) m ts.heap x.2 y.2) ∧
   IR m ts.heap ⟨iE (Tv X mv),false,false,true⟩ (iE (TJ tm)):=by
 cases mv with
 |nil k=>
  cases hm with
  |nil=>
   cases k<;>simp only[a6J]at he<;>try (cases he;done)
   cases he;exact⟨[],rfl,rfl,fun i x y hx=>by simp at hx,IR.reads rfl (by simp[TJ]) (by simp[TJ])⟩
  |gone hi _ _=>simp[bH]at hi
 |map r=>
  simp only[a6J]at he;obtain⟨c,gJ,g0,g3,g4,g5⟩:=DV hR.heap he;have htm:=a2a hm g0;subst htm;refine⟨gJ,by simp only[a3X,g3],g4,fun i x y e1 e2=>⟨oL (g5 i x y e1 e2).1,oL (g5 i x y e1 e2).2⟩,IR.reads rfl (fun b hb=>?_) (by simp[TJ])⟩;simp[TJ]at hb;subst hb;exact⟨TK g0,(a0n.1 g3).1⟩
 |_=>simp[a6J]at he
theorem NH{a b:PV X.Γ}{x y:TV}(h1:VR X P A m h a x)(h2:VR X P A m h b y):VR X P A m h (.dJ [a,b]) (.dJ [x,y]):=by
 have:=(bZ.nil (X:=X) (P:=P) (A:=A) (m:=m) (h:=h)).cons h2 |>.cons h1
 exact .dJ this.1 this.2
theorem XR{e:LI2}{z:PV X.Γ}(h:Pn X P e=some z):∃i z0 z1,P.info? e=some i∧i.zero=some z0∧TV.WV z0=some z1∧Zo z1=some z:=by
 unfold Pn at h;split at h
 .rename_i i hi;split at h
  .rename_i z0 hz0;split at h
   .rename_i z1 hz1;exact⟨i,z0,z1,hi,hz0,hz1,h⟩
   cases h
  cases h
 cases h
theorem aaA{ρ:Type}{y:ρ}{ps:aT X.Γ}{ts:St}(hR:vT X P A m ps ts){t:LI2}{mv kv:PV X.Γ}{tm tk:TV}(hm:VR X P (AA A m) m ts.heap mv tm)(hk:VR X P (AA A m) m ts.heap kv tk){ok:Bool}{an:PT X.Γ}{c:PE X.Γ->PI->PT X.Γ->OT ρ}
  (hl:(a0c X P t ps mv kv ok an c).Ends y):∃v pi Iu w,iD P t ts.heap tm tk ok=some w∧VR X P (AA A m) m ts.heap v w∧(c (.val v) pi Iu).Ends y∧IR m ts.heap pi (iE (TJ tm)):=by
 unfold a0c at hl;split at hl
 .rename_i kt e tk' es hu htk N9;have:=kC hk htk;subst this;obtain⟨gJ,f1,f2,f3,f4⟩:=aft hR hm N9;have fnd:∀{yF ks j k0 v},tk.zk=some yF->wu X es=some ks->wz P kt yF ks=some (some j)->es[j]? = some (k0,v)->∃w,iD P t ts.heap tm tk ok=some w∧VR X P (AA A m) m ts.heap (if ok then .dJ [v,.bool true]else v) w:=by
   intro yF ks j k0 v PN FM PO hj;have tX:=sF f2 f3 FM;have aQ:j<gJ.length:=by rw[<-f2];exact(a0n.1 hj).1
   have Ey:=a0D aQ;have hv:=(f3 j _ _ hj Ey).2;refine⟨(if ok then .dJ [gJ[j].2,.bool true]else gJ[j].2),?_,?_⟩
   .rw[Lu hu PN f1];simp only[qB,tX,PO,Ey]
   .cases ok with
    |true=>exact NH hv (.bool _)
    |false=>exact hv
  have non:∀{yF ks z},tk.zk=some yF->wu X es=some ks->wz P kt yF ks=some none->Pn X P e=some z->∃w,iD P t ts.heap tm tk ok=some w∧VR X P (AA A m) m ts.heap (if ok then .dJ [z,.bool false]else z) w:=by
   intro yF ks z PN FM PO hz;have tX:=sF f2 f3 FM;obtain⟨i,z0,z1,hi,hz0,hz1,hz2⟩:=XR hz;refine⟨(if ok then .dJ [z1,.bool false]else z1),?_,?_⟩
   .rw[Lu hu PN f1];simp only[qB,tX,PO,hi,hz0,hz1,a19]
   .cases ok with
    |true=>exact NH (xU hz2) (.bool _)
    |false=>exact xU hz2
  split at hl
  .obtain⟨⟨yF,ks,j,k0,g1,g2,g3,g4⟩,hl⟩:=hl;obtain⟨w,w1,w2⟩:=fnd g1 g2 g3 g4;exact⟨_,_,_,w,w1,w2,hl,f4⟩
  .split at hl
   .rename_i z hz;obtain⟨⟨yF,ks,g1,g2,g3⟩,hl⟩:=hl;obtain⟨w,w1,w2⟩:=non g1 g2 g3 hz;exact⟨_,_,_,w,w1,w2,hl,f4⟩
   .exact hl.elim
  .split at hl
   .rename_i z hz;obtain⟨⟨yF,ks,g1,g2,g3⟩,hl⟩:=hl;obtain⟨w,w1,w2⟩:=non g1 g2 g3 hz;exact⟨_,_,_,w,w1,w2,hl,f4⟩
   .exact hl.elim
  .split at hl
   .rename_i yF ks PN FM;split at hl
    .rename_i j r _ _;split at hl
     .rename_i k0 v hj;obtain⟨PO,hl⟩:=hl;obtain⟨w,w1,w2⟩:=fnd PN FM PO hj;exact⟨_,_,_,w,w1,w2,hl,f4⟩
     .exact hl.elim
    .split at hl
     .rename_i z hz;obtain⟨PO,hl⟩:=hl;obtain⟨w,w1,w2⟩:=non PN FM PO hz;exact⟨_,_,_,w,w1,w2,hl,f4⟩
     .exact hl.elim
    .exact hl.elim
   .exact hl.elim
 .exact hl.elim
theorem a3Y{x:TV}{v:PV X.Γ}(h:ofC x=some v):rW v=some x:=by cases x<;>simp only[ofC,a0k,reduceCtorEq]at h<;>subst h<;>rfl
theorem PS:∀{x:List TV} {v:List (PV X.Γ)},Di x=some v->iU v=some x
 | [],v,h=>by cases h;rfl
 |a::l,v,h=>by
  simp only[Di]at h;split at h
  .rename_i b bs h1 h2;cases h;simp only[iU,a3Y h1,PS h2]
  cases h
theorem aaB{x:TV}{v:PV X.Γ}(h:Zo x=some v):qJ v=some x:=by
 cases x
 case agg cs=>
  simp only[Zo,a0A]at h;obtain⟨w,h1,rfl⟩:=h;simp only[qJ,PS h1,a19]
 all_goals
  simp only[Zo,ofC,a0k,reduceCtorEq]at h
  try subst h
  try rfl
theorem a0m{ps:aT X.Γ}{ts:St}(hR:vT X P A m ps ts){r cb:Nat}{es0:List (TV×TV)}(g1:m[r]? = some (.gK cb))(f1:ts.heap[cb]? = some (.map es0))(en:List (PV X.Γ×PV X.Γ))(en':List (TV×TV))(h1:en.length=en'.length)
  (h2:∀(i:Nat) x y,en[i]? = some x->en'[i]? = some y->qJ x.1=some y.1∧qJ x.2=some y.2) :
  vT X P A m { ps with heap:=ps.heap.set r (.map en) } { ts with heap:=ts.heap.set cb (.map en') }∧Fr m ts.heap m (ts.heap.set cb (.map en')):=by
 have aQ:=(a0n.1 f1).1;obtain⟨q1,q2⟩:=hR.heap.set (pb:=.map en) (hb:=.map en') g1 (c:=cb) rfl (fun cs hc=>by simp[aX,f1]at hc) fun hF=>⟨en',by simp[aQ],h1,h2⟩;exact⟨hR.step q1 q2 .refl,q2⟩
theorem TL{es:List (PV X.Γ×PV X.Γ)}{gJ:List (TV×TV)}(f2:es.length=gJ.length)(f3:∀(i:Nat) x y,es[i]? = some x->gJ[i]? = some y->qJ x.1=some y.1∧qJ x.2=some y.2){k v:PV X.Γ}{tk tv:TV}(h1:qJ k=some tk)(h2:qJ v=some tv) :
  ∀(i:Nat) x y,(es++[(k,v)])[i]? = some x->(gJ++[(tk,tv)])[i]? = some y->qJ x.1=some y.1∧qJ x.2=some y.2:=fun i a b ha rC=>by
 rcases a5h i es.length with aQ|FI
 .rw[a0E aQ]at ha;rw[a0E (by rw[<-f2];exact aQ)]at rC;exact f3 i a b ha rC
 .rw[a1a FI]at ha;rw[a1a (by rw[<-f2];exact FI),<-f2]at rC;cases hx:i-es.length with
  |zero=>
   rw[hx]at ha rC;simp only[a3p,a0k]at ha rC;subst ha;subst rC;exact⟨h1,h2⟩
  |succ n=>rw[hx]at ha;simp at ha
theorem a6Y{ps:aT X.Γ}{ts:St}(hR:vT X P A m ps ts){r:Nat}{es:List (PV X.Γ×PV X.Γ)}{tm:TV}(hb:ps.heap[r]? = some (.map es))(hm:VR X P (AA A m) m ts.heap (.map r) tm) :
  ∃cb gJ,tm=.map cb∧m[r]? = some (.gK cb)∧ts.heap[cb]? = some (.map gJ)∧es.length=gJ.length∧∀(i:Nat) x y,es[i]? = some x->gJ[i]? = some y->qJ x.1=some y.1∧qJ x.2=some y.2:=by
 obtain⟨mb,g1,g2⟩:=hR.heap.at_ r _ hb;cases mb with
 |gK cb=>
  obtain⟨gJ,f1,f2,f3⟩:=g2;cases hm with
  |gone hi e' _=>simp only[bH,a0k]at hi;subst hi;rw[g1]at e';cases e'
  |map e'=>rw[g1]at e';cases e';exact⟨cb,gJ,rfl,g1,f1,f2,f3⟩
 |_=>exact g2.elim
theorem aaC{ρ:Type}{y:ρ}{ps:aT X.Γ}{ts:St}(hR:vT X P A m ps ts){t:LI2}{mv kv:PV X.Γ}{tm tk:TV}(hm:VR X P (AA A m) m ts.heap mv tm)(hk:VR X P (AA A m) m ts.heap kv tk){an:PT X.Γ}{c:PE X.Γ->aT X.Γ->PI->PT X.Γ->OT ρ}
  (hl:(a6M X P t ps mv kv an c).Ends y):∃e e' ps1 pi Iu h1 ti,Dl P t ts tm tk=some (e',{ ts with heap:=h1 },ti)∧Jo X P (AA A m) m h1 e e'∧vT X P A m ps1 { ts with heap:=h1 }∧Fr m ts.heap m h1∧(c e ps1 pi Iu).Ends y∧IR m ts.heap pi ti∧∀b,.h b∈ti.ws->b∈bI m:=by
 unfold a6M at hl;split at hl
 .rename_i kt e tk' r hu htk;have:=kC hk htk;subst this;split at hl
  .rename_i es hb;obtain⟨cb,gJ,rfl,g1,f1,f2,f3⟩:=a6Y hR hb hm;have f3v:∀(i:Nat) x y,es[i]? = some x->gJ[i]? = some y->VR X P (AA A m) m ts.heap x.1 y.1∧VR X P (AA A m) m ts.heap x.2 y.2:=fun i x y e1 e2=>⟨oL (f3 i x y e1 e2).1,oL (f3 i x y e1 e2).2⟩;have aQ:=(a0n.1 f1).1;split at hl
   .rename_i v _ j rest;split at hl
    case h_2=>exact hl.elim
    rename_i va vx;obtain⟨⟨yF,ks,old,ov,PN,c1,FM,c2,hj,hold,hov,c3⟩,hl⟩:=hl;have tX:=sF f2 f3v FM;have Ey:j<gJ.length:=by rw[<-f2];exact(a0n.1 hj).1
    have RI:=a0D Ey;have hy1:(gJ[j]).1=old:=by
     have:(gJ.map (·.1))[j]? = some (gJ[j]).1:=by rw[a5m,RI];rfl
     rw[tX,hold]at this;exact(a9Q this).symm
    have htv:=(f3 j _ _ hj RI).2;obtain⟨w1,w2⟩:=a0m hR g1 f1 es (gJ.set j (tk,(gJ[j]).2)) (by simp[f2]) fun i a b ha rC=>by
     by_cases e:j=i
     .subst e;rw[a5k,RI]at rC;rw[hj]at ha;cases ha;cases rC;exact⟨htk,htv⟩
     .rw[a1j e]at rC;exact f3 i a b ha rC
    have Gh:ps.heap.set r (.map es)=ps.heap:=by
     refine aao fun i=>?_;by_cases e:r=i
     .subst e;rw[a1Z (a0n.1 hb).1,hb]
     .rw[a1j e]
    rw[Gh]at w1;refine⟨.ent r j (.int va vx),.ent cb j (gJ[j]).2,_,_,_,_,qo (.h cb),?_,⟨.map g1,rfl,htv⟩,w1,w2,hl,.wrH (jf g1 rfl) aQ,fun b hb=>by simp[qo]at hb;subst hb;exact bD g1 rfl⟩;have X6:gJ[j].1=tk:=by have:=(f3 j _ _ hj RI).1;rw[htk]at this;exact(a9Q this).symm
    have hv1:gJ[j].2=.int va vx:=by have h9:some (TV.int va vx)=some (gJ[j]).2:=htv;exact(a9Q h9).symm
    have Xh:gJ.set j (tk,(gJ[j]).2)=gJ:=by rw[show(tk,(gJ[j]).2)=gJ[j]from ad3 X6.symm rfl];exact List.set_getElem_self Ey
    have hl1:iD P t ts.heap (.map cb) tk false=some (.int va vx):=by unfold iD;simp only[hu,PN,f1,qB,tX,c2,RI,hv1,a3u,a3U]
    have hcb:ts.heap.set cb (.map gJ)=ts.heap:=by
     refine aao fun i=>?_;by_cases e:cb=i
     .subst e;rw[a1Z aQ,f1]
     .rw[a1j e]
    have h0:AX P t ts (.map cb) tk=some (.ent cb j (gJ[j]).2,{ ts with heap:=ts.heap.set cb (.map (gJ.set j (tk,(gJ[j]).2))) },qo (.h cb)):=by unfold AX;simp only[hu,PN,f1,c1,qB,tX,c2,RI,hy1,hov,c3,a2s]
    unfold Dl;rw[h0];simp only[];rw[a0I];unfold a18;rw[Xh,hcb,hl1];simp
   .split at hl
    .rename_i va vx hz;obtain⟨⟨yF,q1,c1⟩,⟨ad2,ks,q2,FM,c2⟩,⟨au9,ks2,q3,apH,c4⟩,hl⟩:=hl;rw[q1]at q2;cases q2;rw[q1]at q3;cases q3;obtain⟨i,z0,z1,hi,hz0,hz1,hz2⟩:=XR hz;have tX:=sF f2 f3v FM;have hzt:=aaB hz2;obtain⟨w1,w2⟩:=a0m hR g1 f1 (es++[(kv,.int va vx)]) (gJ++[(tk,z1)]) (by simp[f2]) (TL f2 f3 htk hzt);refine⟨.ent r es.length (.int va vx),.ent cb gJ.length z1,_,_,_,_,qo (.h cb),?_,⟨.map g1,f2,hzt⟩,w1,w2,hl,.wrH (jf g1 rfl) aQ,fun b hb=>by simp[qo]at hb;subst hb;exact bD g1 rfl⟩;have hv1:z1=.int va vx:=by have h9:some (TV.int va vx)=some z1:=hzt;exact(a9Q h9).symm
     have hl1:iD P t ts.heap (.map cb) tk false=some (.int va vx):=by unfold iD;simp only[hu,q1,f1,qB,tX,c2,hi,hz0,hz1,hv1,a19,a3u,a3U]
     have afu:(gJ++[(tk,z1)]).map (·.1)=ks2:=sF (P:=P) (A:=AA A m) (m:=m) (h:=ts.heap) (es:=es++[(kv,.int va vx)]) (by simp[f2]) (fun i x y e1 e2=>let ⟨a1,a2⟩:=TL f2 f3 htk hzt i x y e1 e2;⟨oL a1,oL a2⟩) apH;have Sr:iD P t (ts.heap.set cb (.map (gJ++[(tk,z1)]))) (.map cb) tk false=some (.int va vx):=by
      have e9:(gJ++[(tk,z1)])[es.length]? = some (tk,z1):=by rw[f2];simp
      unfold iD;simp only[hu,q1,a1Z aQ,qB,afu,c4,e9,a3u,a3U];rw[hv1]
     have h0:AX P t ts (.map cb) tk=some (.ent cb gJ.length z1,{ ts with heap:=ts.heap.set cb (.map (gJ++[(tk,z1)])) },qo (.h cb)):=by unfold AX;simp only[hu,q1,f1,c1,qB,tX,c2,hi,hz0,hz1]
     unfold Dl;rw[h0];simp only[];rw[a0I];unfold a18;rw[hl1,Sr];simp
    .exact hl.elim
   .exact hl.elim
  .exact hl.elim
 .exact hl.elim
theorem aaE{ρ:Type}{y:ρ}{ps:aT X.Γ}{ts:St}(hR:vT X P A m ps ts){mv v:PV X.Γ}{e:PE X.Γ}{tm tv:TV}{e':EV}(hm:VR X P (AA A m) m ts.heap mv tm)(he:Jo X P (AA A m) m ts.heap e e')(hv:VR X P (AA A m) m ts.heap v tv){c:aT X.Γ->PI->OT ρ}
  (hl:(a6N X ps mv e v c).Ends y):∃ps1 pi h1 ti,H8 ts tm e' tv=some ({ ts with heap:=h1 },ti)∧vT X P A m ps1 { ts with heap:=h1 }∧Fr m ts.heap m h1∧(c ps1 pi).Ends y∧IR m ts.heap pi ti∧∀b,.h b∈ti.ws->b∈bI m:=by
 unfold a6N at hl;split at hl
 .rename_i r r' j tv' htv;have:=kC hv htv;subst this;split at hl
  .rename_i hrr;subst hrr;split at hl
   .rename_i es hb;obtain⟨hj,hl⟩:=hl;obtain⟨cb,gJ,rfl,g1,f1,f2,f3⟩:=a6Y hR hb hm;obtain⟨c',rfl,hm'⟩:=NC he;have hc:c'=cb:=by
     cases hm' with
     |gone hi e' _=>simp only[bH,a0k]at hi;subst hi;rw[g1]at e';cases e'
     |map e'=>rw[g1]at e';cases e';rfl
    subst hc;have aQ:=(a0n.1 f1).1;have Ey:j<gJ.length:=by rw[<-f2];exact hj
    have RI:=a0D Ey;obtain⟨w1,w2⟩:=a0m hR g1 f1 (JF es j v) (gJ.set j ((gJ[j]).1,tv)) (by unfold JF;simp[f2]) fun i a b ha rC=>by
     unfold JF at ha;rw[aeN]at ha;by_cases e:j=i
     .subst e;rw[a5k,RI]at rC;simp only[a2s,a0D hj,Option.map_eq_map,a19,a0k]at ha;subst ha;cases rC;exact⟨(f3 j _ _ (a0D hj) RI).1,htv⟩
     .rw[a1j e]at rC;have ha:es[i]? = some a:=(by simpa[e]using ha);exact f3 i a b ha rC
    refine⟨_,_,_,qo (.h c'),?_,w1,w2,hl,.wrH (jf g1 rfl) aQ,fun b hb=>by simp[qo]at hb;subst hb;exact bD g1 rfl⟩;unfold H8;simp only[a2s,f1,RI]
   .exact hl.elim
  .exact hl.elim
 .exact hl.elim
theorem a7a{ρ:Type}{y:ρ}{ps:aT X.Γ}{ts:St}(hR:vT X P A m ps ts){t:LI2}{mv kv v:PV X.Γ}{tm tk tv:TV}(hm:VR X P (AA A m) m ts.heap mv tm)(hk:VR X P (AA A m) m ts.heap kv tk)(hv:VR X P (AA A m) m ts.heap v tv){an:PT X.Γ}{c:aT X.Γ->PI->PT X.Γ->OT ρ}
  (hl:(a6K X P t ps mv kv v an c).Ends y):∃ps1 pi Iu h1 ti,yH P t ts tm tk tv=some ({ ts with heap:=h1 },ti)∧vT X P A m ps1 { ts with heap:=h1 }∧Fr m ts.heap m h1∧(c ps1 pi Iu).Ends y∧IR m ts.heap pi ti∧∀b,.h b∈ti.ws->b∈bI m:=by
 unfold a6K at hl;split at hl
 .rename_i kt e tk' r tv' hu htk htv;have:=kC hk htk;subst this;have:=kC hv htv;subst this;split at hl
  .rename_i es hb;obtain⟨mb,g1,g2⟩:=hR.heap.at_ r _ hb;cases mb with
   |gK cb=>
    obtain⟨gJ,f1,f2,f3⟩:=g2;have f3v:∀(i:Nat) x y,es[i]? = some x->gJ[i]? = some y->VR X P (AA A m) m ts.heap x.1 y.1∧VR X P (AA A m) m ts.heap x.2 y.2:=fun i x y e1 e2=>⟨oL (f3 i x y e1 e2).1,oL (f3 i x y e1 e2).2⟩;cases hm with
    |gone hi e' _=>simp only[bH,a0k]at hi;subst hi;rw[g1]at e';cases e'
    |map e'=>
     rw[g1]at e';cases e';have aQ:=(a0n.1 f1).1;have wr:∀(en:List (PV X.Γ×PV X.Γ)) (en':List (TV×TV)),en.length=en'.length->(∀(i:Nat) x y,en[i]? = some x->en'[i]? = some y->qJ x.1=some y.1∧qJ x.2=some y.2) ->
       vT X P A m { ps with heap:=ps.heap.set r (.map en) } { ts with heap:=ts.heap.set cb (.map en') }∧Fr m ts.heap m (ts.heap.set cb (.map en')):=by
      intro en en' h1 h2;obtain⟨q1,q2⟩:=hR.heap.set (pb:=.map en) (hb:=.map en') g1 (c:=cb) rfl (fun cs hc=>by simp[aX,f1]at hc) fun hF=>⟨en',by simp[aQ],h1,h2⟩;exact⟨hR.step q1 q2 .refl,q2⟩
     have new:∀{yF ks},tk.zk=some yF->wu X es=some ks->aF P (Instr.checkKey false 10000 kt yF)=some ()->wz P kt yF ks=some none ->
       yH P t ts (.map cb) tk tv=some ({ ts with heap:=ts.heap.set cb (.map (gJ++[(tk,tv)])) },qo (.h cb))∧vT X P A m { ps with heap:=ps.heap.set r (.map (es++[(kv,v)])) } { ts with heap:=ts.heap.set cb (.map (gJ++[(tk,tv)])) }∧Fr m ts.heap m (ts.heap.set cb (.map (gJ++[(tk,tv)]))):=by
      intro yF ks PN FM c1 c2;have tX:=sF f2 f3v FM;obtain⟨w1,w2⟩:=wr (es++[(kv,v)]) (gJ++[(tk,tv)]) (by simp[f2]) fun i a b ha rC=>by
       rcases a5h i es.length with aQ|FI
       .rw[a0E aQ]at ha;rw[a0E (by rw[<-f2];exact aQ)]at rC;exact f3 i a b ha rC
       .rw[a1a FI]at ha;rw[a1a (by rw[<-f2];exact FI),<-f2]at rC;cases hx:i-es.length with
        |zero=>
         rw[hx]at ha rC;simp only[a3p,a0k]at ha rC;subst ha;subst rC;exact⟨htk,htv⟩
        |succ n=>rw[hx]at ha;simp at ha
      refine⟨?_,w1,w2⟩;unfold yH;simp only[hu,PN,f1,c1,qB,tX,c2]
     split at hl
     .obtain⟨⟨yF,q1,c1⟩,⟨ad2,ks,q2,FM,c2⟩,hl⟩:=hl;rw[q1]at q2;cases q2;obtain⟨u1,u2,u3⟩:=new q1 FM c1 c2;exact⟨_,_,_,_,qo (.h cb),u1,u2,u3,hl,.wrH (jf g1 rfl) aQ,fun b hb=>by simp[qo]at hb;subst hb;exact bD g1 rfl⟩
     .obtain⟨⟨yF,q1,c1⟩,⟨ad2,ks,q2,FM,c2⟩,hl⟩:=hl;rw[q1]at q2;cases q2;obtain⟨u1,u2,u3⟩:=new q1 FM c1 c2;exact⟨_,_,_,_,qo (.h cb),u1,u2,u3,hl,.wrH (jf g1 rfl) aQ,fun b hb=>by simp[qo]at hb;subst hb;exact bD g1 rfl⟩
     .obtain⟨⟨yF,ks,j,old,ov,PN,c1,FM,c2,hj,hold,hov,c3⟩,hl⟩:=hl;have tX:=sF f2 f3v FM;have Ey:∃y0,gJ[j]? = some y0:=by
       have:j<gJ.length:=by rw[<-f2];exact(a0n.1 hj).1
       exact⟨_,a0D this⟩
      obtain⟨y0,RI⟩:=Ey;have hy1:y0.1=old:=by
       have:(gJ.map (·.1))[j]? = some y0.1:=by rw[a5m,RI];rfl
       rw[tX,hold]at this;exact(a9Q this).symm
      obtain⟨w1,w2⟩:=wr es (gJ.set j (tk,tv)) (by simp[f2]) fun i a b ha rC=>by
       by_cases e:j=i
       .subst e;rw[a5k]at rC;rw[hj]at ha;rw[RI]at rC;cases ha;cases rC;exact⟨htk,htv⟩
       .rw[a1j e]at rC;exact f3 i a b ha rC
      have Gh:ps.heap.set r (.map es)=ps.heap:=by
       refine aao fun i=>?_;by_cases e:r=i
       .subst e;rw[a1Z (a0n.1 hb).1,hb]
       .rw[a1j e]
      rw[Gh]at w1;refine⟨_,_,_,_,qo (.h cb),?_,w1,w2,hl,.wrH (jf g1 rfl) aQ,fun b hb=>by simp[qo]at hb;subst hb;exact bD g1 rfl⟩;unfold yH;simp only[hu,PN,f1,c1,qB,tX,c2,RI,hy1,hov,c3,a2s]
     .split at hl
      .rename_i yF ks PN FM;have tX:=sF f2 f3v FM;split at hl
       .rename_i j rest _ _ _;split at hl
        .rename_i x0 old hj hold;split at hl
         .rename_i ov hov;obtain⟨c1,c2,c3,hl⟩:=hl;have Ey:∃y0,gJ[j]? = some y0:=by
           have:j<gJ.length:=by rw[<-f2];exact(a0n.1 hj).1
           exact⟨_,a0D this⟩
          obtain⟨y0,RI⟩:=Ey;have hy1:y0.1=old:=by
           have:(gJ.map (·.1))[j]? = some y0.1:=by rw[a5m,RI];rfl
           rw[tX,hold]at this;exact(a9Q this).symm
          obtain⟨w1,w2⟩:=wr (es.set j (kv,v)) (gJ.set j (tk,tv)) (by simp[f2]) fun i a b ha rC=>by
           by_cases e:j=i
           .subst e;rw[a5k]at ha rC;rw[hj]at ha;rw[RI]at rC;cases ha;cases rC;exact⟨htk,htv⟩
           .rw[a1j e]at ha rC;exact f3 i a b ha rC
          refine⟨_,_,_,_,qo (.h cb),?_,w1,w2,hl,.wrH (jf g1 rfl) aQ,fun b hb=>by simp[qo]at hb;subst hb;exact bD g1 rfl⟩;unfold yH;simp only[hu,PN,f1,c1,qB,tX,c2,RI,hy1,hov,c3,a2s]
         .exact hl.elim
        .exact hl.elim
       .obtain⟨c1,c2,hl⟩:=hl;obtain⟨u1,u2,u3⟩:=new PN FM c1 c2;exact⟨_,_,_,_,qo (.h cb),u1,u2,u3,hl,.wrH (jf g1 rfl) aQ,fun b hb=>by simp[qo]at hb;subst hb;exact bD g1 rfl⟩
       .exact hl.elim
      .exact hl.elim
   |_=>exact g2.elim
  .exact hl.elim
 .exact hl.elim
end
open Go Tw
theorem kZ{m:List MB}{b:Nat}(h:b∈bI m):∃i,Io m i b:=by obtain⟨mb,h1,h2⟩:=a6v.1 h;obtain⟨i,hi⟩:=a9B h1;exact⟨i,mb,hi,h2⟩
section
variable {X:lC} {P:LI1} {A B:Nat->Prop} {m m1:List MB} {h:List HB} {g:Nat->Option Nat}
theorem jM:∀{m:List MB},(∀i j c,Io m i c->Io m j c->i=j)->(bI m).Nodup
 | [],_=>by simp[bI]
 |x::m,hu=>by
  have ih:(bI m).Nodup:=jM fun i j c h1 h2=>by have:=hu (i+1) (j+1) c (by obtain⟨mb,a,b⟩:=h1;exact⟨mb,by simpa using a,b⟩) (by obtain⟨mb,a,b⟩:=h2;exact⟨mb,by simpa using a,b⟩);omega
  unfold bI at ih ⊢;rw[a9O];split
  .exact ih
  rename_i b hb;refine a5n.2 ⟨fun hm=>?_,ih⟩;obtain⟨i,mb,h1,h2⟩:=kZ (m:=m) hm;have:=hu 0 (i+1) b ⟨x,rfl,hb⟩ ⟨mb,by simpa using h1,h2⟩;omega
theorem PU:∀{ks:List Nat} {i p:Nat},xO ks i=some p->ks[p]? = some i
 | [],i,p,h=>by cases h
 |a::ks,i,p,h=>by
  simp only[xO]at h;split at h
  .rename_i e;cases h;simp[e]
  simp only[a0A]at h;obtain⟨q,h1,rfl⟩:=h;simpa using PU h1
section
variable {g:Nat->Option Nat} {m1:List MB}
theorem EL(hg:∀i j,g i=some j->m1[j]? = m[i]?){B:Nat->Prop}(hA:∀b,A b->B b)(hX:bT X P){v:PV X.Γ}{x:TV}(hv:VR X P A m h v x):∀{w:PV X.Γ},fZ g v=some w->VR X P B m1 h w x:=by
 have lists:∀{vs:List (PV X.Γ)} {xs:List TV},vs.length=xs.length->(∀(i:Nat) a b,vs[i]? = some a->xs[i]? = some b->∀{w:PV X.Γ},fZ g a=some w->VR X P B m1 h w b)->∀{ws:List (PV X.Γ)},fZ.qm g vs=some ws->ws.length=xs.length∧∀(i:Nat) a b,ws[i]? = some a->xs[i]? = some b->VR X P B m1 h a b:=by
  intro vs
  induction vs with
  |nil=>
   intro xs hl _ ws hw;simp only[fZ.qm,a0k]at hw;subst hw;exact⟨hl,fun i a b ha=>by simp at ha⟩
  |cons v vs ih=>
   intro xs hl hh ws hw;cases xs with
   |nil=>simp at hl
   |cons x xs=>
    simp only[fZ.qm]at hw;split at hw
    .rename_i w UO h1 h2;cases hw;obtain⟨e1,e2⟩:=ih (xs:=xs) (by simpa using hl) (fun i a b ha hb=>hh (i+1) a b (by simpa using ha) (by simpa using hb)) h2;refine⟨by simp[e1],fun i a b ha hb=>?_⟩;cases i with
     |zero=>simp only[a3p,a0k]at ha hb;subst ha;subst hb;exact hh 0 v x rfl rfl h1
     |succ i=>exact e2 i a b (by simpa using ha) (by simpa using hb)
    cases hw
 induction hv with
 |bool=>intro w hw;simp only[fZ,a0k]at hw;subst hw;exact .bool _
 |lit=>intro w hw;simp only[fZ,a0k]at hw;subst hw;exact .lit _
 |int=>intro w hw;simp only[fZ,a0k]at hw;subst hw;exact .int _ _
 |str=>intro w hw;simp only[fZ,a0k]at hw;subst hw;exact .str _
 |nil=>intro w hw;simp only[fZ,a0k]at hw;subst hw;exact .nil _
 |ptr e=>intro w hw;simp only[fZ,a0A]at hw;obtain⟨j,h1,rfl⟩:=hw;exact .ptr (by rw[hg _ _ h1];exact e)
 |aP e=>intro w hw;simp only[fZ,a0A]at hw;obtain⟨j,h1,rfl⟩:=hw;exact .aP (by rw[hg _ _ h1];exact e)
 |own e o=>intro w hw;simp only[fZ,a0A]at hw;obtain⟨j,h1,rfl⟩:=hw;exact .own (by rw[hg _ _ h1];exact e) o
 |win e q q' q2=>intro w hw;simp only[fZ,a0A]at hw;obtain⟨j,h1,rfl⟩:=hw;exact .win (by rw[hg _ _ h1];exact e) q q' q2
 |Bv e=>intro w hw;simp only[fZ,a0A]at hw;obtain⟨j,h1,rfl⟩:=hw;exact .Bv (by rw[hg _ _ h1];exact e)
 |map e=>intro w hw;simp only[fZ,a0A]at hw;obtain⟨j,h1,rfl⟩:=hw;exact .map (by rw[hg _ _ h1];exact e)
 |iter e=>intro w hw;simp only[fZ,a0A]at hw;obtain⟨j,h1,rfl⟩:=hw;exact .iter (by rw[hg _ _ h1];exact e)
 |lF e=>intro w hw;simp only[fZ,a0A]at hw;obtain⟨j,h1,rfl⟩:=hw;exact .lF (by rw[hg _ _ h1];exact e)
 |row e j q=>intro w hw;simp only[fZ,a0A]at hw;obtain⟨j,h1,rfl⟩:=hw;exact .row (by rw[hg _ _ h1];exact e) (by assumption) q
 |fn h1 _ h3 _ i2 i4=>
  intro w hw;simp only[fZ]at hw;split at hw
  .rename_i a c ha hc;cases hw;obtain⟨e1,e2⟩:=lists h1 i2 ha;obtain⟨e3,e4⟩:=lists h3 i4 hc;exact .fn e1 e2 e3 e4
  cases hw
 |agg h1 _ i2=>
  intro w hw;simp only[fZ,a0A]at hw;obtain⟨cs,hc,rfl⟩:=hw;obtain⟨e1,e2⟩:=lists h1 i2 hc;exact .agg e1 e2
 |dJ h1 _ i2=>
  intro w hw;simp only[fZ,a0A]at hw;obtain⟨cs,hc,rfl⟩:=hw;obtain⟨e1,e2⟩:=lists h1 i2 hc;exact .dJ e1 e2
 |pU=>intro w hw;simp only[fZ,a0k]at hw;subst hw;exact .pU
 |dH a c c2 s z o k f e r _=>intro w hw;simp only[fZ,a0k]at hw;subst hw;exact .dH (hA _ a) c c2 s z o k f e fun j y i d v h1 h2 h3=>((r j y i d v h1 h2 h3).mono hA).jC hX (fJ (hX.jC _ _) h2)
 |el a c l o e q r _=>intro w hw;simp only[fZ,a0k]at hw;subst hw;exact .el (hA _ a) c l o e q fun i d v h1 h2=>((r i d v h1 h2).mono hA).jC hX (fJ (hX.jC _ _) h1)
 |gone i e o=>
  intro w hw;rename_i v _ x;have:∃j,bH w=some j∧DT w x m1[j]?:=by cases v<;>simp[bH]at i<;>subst i<;>simp only[fZ,a0A]at hw<;>obtain⟨j,h1,rfl⟩:=hw<;>exact⟨j,rfl,by rw[hg _ _ h1];exact e.as fun c=>rfl⟩
  obtain⟨j,h1,h2⟩:=this;exact .gone h1 h2 o
variable {B:Nat->Prop}
theorem zY(hX:bT X P)(hg:∀i j,g i=some j->m1[j]? = m[i]?)(hA:∀b,A b->B b):∀{vs:List (PV X.Γ)} {xs:List TV} {ws:List (PV X.Γ)},bZ X P A m h vs xs->fZ.qm g vs=some ws->bZ X P B m1 h ws xs
 | [],xs,ws,hv,hw=>by simp only[fZ.qm,a0k]at hw;subst hw;rw[hv.inv0];exact .nil
 |v::vs,xs,ws,hv,hw=>by
  obtain⟨x,r,rfl,h1,h2⟩:=hv.inv;simp only[fZ.qm]at hw;split at hw
  .rename_i w UO g1 g2;cases hw;exact .cons (EL hg hA hX h1 g1) (zY hX hg hA h2 g2)
  cases hw
theorem PW(hX:bT X P)(hg:∀i j,g i=some j->m1[j]? = m[i]?)(hA:∀b,A b->B b){env:List (Nat×PE X.Γ)}{env':List (Nat×EV)}(he:kM X P A m h env env'):∀{r:List (Nat×PE X.Γ)},ql g env=some r->kM X P B m1 h r env':=by
 induction he with
 |nil=>intro r h;simp only[ql,a0k]at h;subst h;exact .nil
 |cons h1 h2 ih=>
  rename_i k v x q q';intro r hr;simp only[ql]at hr;split at hr
  rotate_left
  .cases hr
  rename_i w r' e1 e2;cases hr;refine .cons ?_ (ih e2);cases v with
  |val v=>
   obtain⟨y,rfl,h3⟩:=gu h1;simp only[Pj,a0A]at e1;obtain⟨u,e3,rfl⟩:=e1;exact oM (EL hg hA hX h3 e3)
  |loc a b=>simp only[Pj,a0k]at e1;subst e1;rw[EJ h1];exact⟨rfl,rfl⟩
  |undef=>simp only[Pj,a0k]at e1;subst e1;rw[JH h1];trivial
  |ent r j v=>
   obtain⟨c,y,rfl,h3,h4⟩:=Nz h1;simp only[Pj,a0A]at e1;obtain⟨u,e3,rfl⟩:=e1;exact⟨EL hg hA hX h3 (w:=.map u) (by simp only[fZ,e3,a19]),rfl,h4⟩
  |Fa r j=>
   obtain⟨c,rfl,h3⟩:=NC h1;simp only[Pj,a0A]at e1;obtain⟨u,e3,rfl⟩:=e1;exact⟨EL hg hA hX h3 (w:=.map u) (by simp only[fZ,e3,a19]),rfl⟩
theorem EM(hX:bT X P)(hg:∀i j,g i=some j->m1[j]? = m[i]?)(hA:∀b,A b->B b){b b':PB X.Γ}{mb:MB}(hn:∀c,mb=.jF c->c∉bI m->c∉bI m1)(hb:BR X P A m h b mb)(hr:zW g b=some b'):BR X P B m1 h b' mb:=by
 cases b with
 |cells cs=>
  cases mb with
  |gK c=>
   simp only[zW,a0A]at hr;obtain⟨cs',h1,rfl⟩:=hr;obtain⟨xs,h2,h3⟩:=hb;exact⟨xs,h2,zY hX hg hA h3 h1⟩
  |_=>exact hb.elim
 |aG cs=>
  cases mb with
  |jF c=>
   simp only[zW,a0A]at hr;obtain⟨cs',h1,rfl⟩:=hr;obtain⟨h0,xs,h2,h3⟩:=hb;exact⟨hn c rfl h0,xs,h2,zY hX hg hA h3 h1⟩
  |_=>exact hb.elim
 |list k ex t l=>
  cases mb with
  |dH y=>
   simp only[zW,a0k]at hr;subst hr;cases(hb:LR X P A m h k ex t l y)with
   |nil=>exact LR.nil
   |emp p0 p1 p2 p3 p4=>exact LR.emp (hA _ p0) p1 p2 p3 p4
   |some p1 p2 p3 p4 p5 p6 p7 p8 p9=>exact LR.some p1 p2 p3 p4 p5 p6 p7 p8 ((p9.mono hA).jC hX)
  |_=>exact hb.elim
 |map es=>
  cases mb with
  |gK c=>
   simp only[zW,a0k]at hr;subst hr;exact hb
  |_=>exact hb.elim
 |nX cs=>
  cases mb with
  |gK c=>
   simp only[zW,a0k]at hr;subst hr;exact hb
  |_=>exact hb.elim
 |iP es=>
  cases mb with
  |jF c=>
   simp only[zW,a0k]at hr;subst hr;exact⟨hn c rfl hb.1,hb.2⟩
  |_=>exact hb.elim
 |dD r n seen=>
  cases mb with
  |gK b=>
   simp only[zW,a0A]at hr;obtain⟨j,h1,rfl⟩:=hr;obtain⟨c,h2,h3,h4⟩:=hb;exact⟨c,h2,by rw[hg _ _ h1];exact h3,fun c' hc=>h4 c' (by rw[<-hg _ _ h1];exact hc)⟩
  |_=>exact hb.elim
 |mark=>
  cases mb with
  |gK c=>simp only[zW,a0k]at hr;subst hr;exact hb
  |_=>exact hb.elim
 |loop rd f nt env ps a c jW=>
  cases mb with
  |gK cb=>
   simp only[zW,a0A]at hr;obtain⟨aw5,h1,rfl⟩:=hr;obtain⟨xs,h2,h3⟩:=hb;exact⟨xs,h2,PW hX hg hA h3 h1⟩
  |_=>exact hb.elim
 |gone=>
  cases mb with
  |gone=>simp only[zW,a0k]at hr;subst hr;trivial
  |_=>exact hb.elim
theorem uw:∀{bs r:List (PB X.Γ)},oH g bs=some r->r.length=bs.length∧∀{i:Nat} {b':PB X.Γ},r[i]? = some b'->∃b,bs[i]? = some b∧zW g b=some b'
 | [],r,h=>by simp only[oH,a0k]at h;subst h;exact⟨rfl,fun{i b'} hi=>by simp at hi⟩
 |b::bs,r,h=>by
  simp only[oH]at h;split at h
  .rename_i c cs h1 h2;cases h;obtain⟨e1,e2⟩:=uw h2;refine⟨by simp[e1],fun{i b'} hi=>?_⟩;cases i with
   |zero=>simp only[a3p,a0k]at hi;subst hi;exact⟨b,rfl,h1⟩
   |succ i=>obtain⟨d,q1,q2⟩:=e2 (i:=i) (by simpa using hi);exact⟨d,by simpa using q1,q2⟩
  cases h
theorem PX:∀{bs r:List (List (PV X.Γ))},XD g bs=some r->r.length=bs.length∧∀{i:Nat} {b':List (PV X.Γ)},r[i]? = some b'->∃b,bs[i]? = some b∧fZ.qm g b=some b'
 | [],r,h=>by simp only[XD,a0k]at h;subst h;exact⟨rfl,fun{i b'} hi=>by simp at hi⟩
 |b::bs,r,h=>by
  simp only[XD]at h;split at h
  .rename_i c cs h1 h2;cases h;obtain⟨e1,e2⟩:=PX h2;refine⟨by simp[e1],fun{i b'} hi=>?_⟩;cases i with
   |zero=>simp only[a3p,a0k]at hi;subst hi;exact⟨b,rfl,h1⟩
   |succ i=>obtain⟨d,q1,q2⟩:=e2 (i:=i) (by simpa using hi);exact⟨d,by simpa using q1,q2⟩
  cases h
theorem EO:∀{ks:List Nat} {H r:List (PB X.Γ)},DN H ks=some r->r.length=ks.length∧∀{i k:Nat},ks[i]? = some k->∃b,H[k]? = some b∧r[i]? = some b
 | [],H,r,h=>by simp only[DN,a0k]at h;subst h;exact⟨rfl,fun{i k} hi=>by simp at hi⟩
 |k::ks,H,r,h=>by
  simp only[DN]at h;split at h
  .rename_i b rs h1 h2;cases h;obtain⟨e1,e2⟩:=EO h2;refine⟨by simp[e1],fun{i j} hi=>?_⟩;cases i with
   |zero=>simp only[a3p,a0k]at hi;subst hi;exact⟨b,h1,rfl⟩
   |succ i=>obtain⟨d,q1,q2⟩:=e2 (i:=i) (k:=j) (by simpa using hi);exact⟨d,q1,by simpa using q2⟩
  cases h
end
theorem uy{α:Type}:∀{ks:List Nat} {bs l:List α},(putAt ks bs l).length=l.length
 | [],_,_=>rfl
 |_::_,[],_=>rfl
 |k::ks,b::bs,l=>by simp only[putAt];rw[uy,a5l]
theorem PY{α:Type}:∀{ks:List Nat} {bs l:List α} {p i:Nat},ks.Nodup->(∀k∈ks,k<l.length)->ks.length<=bs.length->ks[p]? = some i->(putAt ks bs l)[i]? = bs[p]?
 | [],_,_,p,i,_,_,_,h=>by simp at h
 |a::ks,[],_,_,_,_,_,hl,_=>by simp at hl
 |a::ks,b::bs,l,0,i,hn,hk,hl,h=>by
  simp only[a3p,a0k]at h;subst h;have hn:=a5n.1 hn;simp only[putAt];have:∀{ks:List Nat} {bs l:List α} {i:Nat},i∉ks->(putAt ks bs l)[i]? = l[i]?:=by
   intro ks
   induction ks with
   |nil=>intro bs l i _;rfl
   |cons c ks ih=>
    intro bs l i hi;simp only[a2x,aeh]at hi;cases bs with
    |nil=>rfl
    |cons b bs=>simp only[putAt];rw[ih hi.2,a1j (fun e=>hi.1 e.symm)]
  rw[this hn.1,a1Z (hk a (a3E ..))];rfl
 |a::ks,b::bs,l,p+1,i,hn,hk,hl,h=>by simp only[aaf]at h;simp only[putAt];rw[PY (a5n.1 hn).2 (fun k pG=>by rw[a5l];exact hk k (a4a _ pG)) (by simpa using hl) h];rfl
theorem JJ{α:Type}:∀{ks:List Nat} {bs l:List α} {i:Nat},i∉ks->(putAt ks bs l)[i]? = l[i]?
 | [],_,_,_,_=>rfl
 |a::ks,[],_,_,_=>rfl
 |a::ks,b::bs,l,i,hi=>by simp only[a2x,aeh]at hi;simp only[putAt];rw[JJ hi.2,a1j (fun e=>hi.1 e.symm)]
def XT(X:lC)(P:LI1)(call:bn)(fv:PV X.Γ)(xs:List (PV X.Γ))(H:List (PB X.Γ))(v:PV X.Γ)(H1:List (PB X.Γ))(W:Nat->Prop):Prop:=
 ∀(A:Nat->Prop) (m:List MB) (h:List HB) (tf:TV) (sD:List TV),HR X P A m H h->VR X P (AA A m) m h fv tf->bZ X P (AA A m) m h xs sD ->
  ∃w h1 ws m1,call tf sD h=some (w,h1,ws)∧HR X P A m1 H1 h1∧VR X P (AA A m1) m1 h1 v w∧Fr m h m1 h1∧Up m m1∧∀b∈ws,∃k,W k∧Io m k b
theorem dF.w{call:bn}{fv v:PV X.Γ}{xs:List (PV X.Γ)}{H H1:List (PB X.Γ)}(h:dF X P call fv xs H v H1):XT X P call fv xs H v H1 fun _=>True:=fun A m h0 tf sD a b c=>by obtain⟨w,h1,ws,m1,c1,c2,c3,c4,c5,c6⟩:=h A m h0 tf sD a b c;exact⟨w,h1,ws,m1,c1,c2,c3,c4,c5,fun b hb=>by obtain⟨i,hi⟩:=kZ (c6 b hb);exact⟨i,trivial,hi⟩⟩
theorem NJ:∀{H:List (PB X.Γ)} {i:Nat} {b:PB X.Γ},JE H=true->H[i]? = some b->JE [b]=true
 | [],_,_,_,h=>by simp at h
 |a::H,0,b,hn,h=>by simp only[a3p,a0k]at h;subst h;cases a<;>simp_all [JE]
 |a::H,i+1,b,hn,h=>by
  have Ez:JE H=true:=by cases a<;>simp_all [JE]
  exact NJ Ez (by simpa using h)
def SwM(m m':List MB):Prop:=∀i:Nat,m'[i]? = m[i]?∨(∃c,m[i]? = some (.gK c)∧m'[i]? = some (.jF c))∨∃c,m[i]? = some (.jF c)∧m'[i]? = some (.gK c)
section
variable {m':List MB}
theorem VR.sw(hm:SwM m m')(hA:∀b,A b->B b){v:PV X.Γ}{x:TV}(hv:VR X P A m h v x):VR X P B m' h v x:=by
 have hl:∀{i:Nat} {x:TV},m[i]? = some (.dH x)->m'[i]? = some (.dH x):=fun{i x} e=>by
  rcases hm i with g|⟨c,g,_⟩|⟨c,g,_⟩
  .rw[g,e]
  .rw[e]at g;cases g
  rw[e]at g;cases g
 have hb:∀{i c:Nat},m[i]? = some (.gK c)->m'[i]? = some (.gK c)∨m'[i]? = some (.jF c):=fun{i c} e=>by
  rcases hm i with g|⟨c',g,g2⟩|⟨c',g,_⟩
  .exact .inl (by rw[g,e])
  .rw[e]at g;cases g;exact .inr g2
  rw[e]at g;cases g
 induction hv with
 |bool=>exact .bool _
 |lit=>exact .lit _
 |int=>exact .int _ _
 |str=>exact .str _
 |nil=>exact .nil _
 |ptr e=>rcases hb e with e|e;exact .ptr e;exact .gone rfl (.ofR e rfl) rfl
 |aP e=>rcases hb e with e|e;exact .aP e;exact .gone rfl (.ofR e rfl) rfl
 |own e o=>exact .own (hl e) o
 |win e q q' q2=>exact .win (hl e) q q' q2
 |Bv e=>exact .Bv (hl e)
 |map e=>rcases hb e with e|e;exact .map e;exact .gone rfl (.ofR e rfl) rfl
 |iter e=>rcases hb e with e|e;exact .iter e;exact .gone rfl (.ofR e rfl) rfl
 |fn h1 _ h3 _ i2 i4=>exact .fn h1 i2 h3 i4
 |lF e=>rcases hb e with e|e;exact .lF e;exact .gone rfl (.ofR e rfl) rfl
 |agg h1 _ i2=>exact .agg h1 i2
 |dJ h1 _ i2=>exact .dJ h1 i2
 |pU=>exact .pU
 |dH a c c2 s z o k f e _ ih=>exact .dH (hA _ a) c c2 s z o k f e ih
 |el a c l o e q _ ih=>exact .el (hA _ a) c l o e q ih
 |row e j q=>exact .row (hl e) j q
 | @gone v i x hi e o=>
  generalize hq:m[i]? = q at e;cases e with
  |g=>
   rcases hm i with g|⟨c,g,_⟩|⟨c,g,_⟩
   .exact .gone hi (.of (by rw[g,hq])) o
   .rw[hq]at g;cases g
   rw[hq]at g;cases g
  |r c hv=>
   rcases hm i with g|⟨c',g,_⟩|⟨c',g,g2⟩
   .exact .gone hi (.ofR (by rw[g,hq]) hv) o
   .rw[hq]at g;cases g
   rw[hq]at g;cases g;cases v<;>simp only[roV,a0k]at hv<;>first|cases hv;done|skip
   all_goals (subst hv;simp only[bH,a0k]at hi;subst hi)
   .exact .ptr g2
   .exact .aP g2
   .exact .map g2
   .exact .lF g2
   exact .iter g2
theorem bZ.sw(hm:SwM m m')(hA:∀b,A b->B b){v:List (PV X.Γ)}{x:List TV}(hv:bZ X P A m h v x):bZ X P B m' h v x:=
 ⟨hv.1,fun i a b ha hb=>(hv.2 i a b ha hb).sw hm hA⟩
theorem kM.sw(hm:SwM m m')(hA:∀b,A b->B b){v:List (Nat×PE X.Γ)}{x:List (Nat×EV)}(hv:kM X P A m h v x):kM X P B m' h v x:=by
 induction hv with
 |nil=>exact .nil
 |cons h1 _ ih=>
  refine .cons ?_ ih;rename_i v x _ _ _;cases v<;>cases x<;>first|exact VR.sw hm hA h1|exact h1|exact⟨VR.sw hm hA h1.1,h1.2⟩
theorem BR.sw(hm:SwM m m')(hA:∀b,A b->B b){b:PB X.Γ}{mb:MB}(hn:∀c,mb=.jF c->c∉bI m->c∉bI m')(hb:BR X P A m h b mb):BR X P B m' h b mb:=by
 cases b with
 |cells cs=>cases mb with
  |gK b=>obtain⟨cs',h1,h2⟩:=hb;exact⟨cs',h1,h2.sw hm hA⟩
  |_=>exact hb.elim
 |aG cs=>cases mb with
  |jF b=>obtain⟨h0,cs',h1,h2⟩:=hb;exact⟨hn b rfl h0,cs',h1,h2.sw hm hA⟩
  |_=>exact hb.elim
 |list k ex t l=>cases mb with
  |dH x=>
   cases(hb:LR X P A m h k ex t l x)with
   |nil=>exact LR.nil
   |emp h0 h1 h2 h3 h4=>exact LR.emp (hA _ h0) h1 h2 h3 h4
   |some h1 h2 h3 h4 h5 h6 h7 h8 h9=>exact LR.some h1 h2 h3 h4 h5 h6 h7 h8 ⟨h9.1,h9.2.1,fun j a i c v a1 a2 a3=>(h9.2.2 j a i c v a1 a2 a3).sw hm hA⟩
  |_=>exact hb.elim
 |map es=>cases mb with
  |gK b=>exact hb
  |_=>exact hb.elim
 |nX cs=>cases mb with
  |gK b=>exact hb
  |_=>exact hb.elim
 |iP es=>cases mb with
  |jF b=>exact⟨hn b rfl hb.1,hb.2⟩
  |_=>exact hb.elim
 |dD r n seen=>cases mb with
  |gK b=>
   obtain⟨c,h1,h2,h3⟩:=hb;refine⟨c,h1,?_,fun c' hc=>?_⟩
   .rcases hm r with g|⟨c',g,g2⟩|⟨c',g,g2⟩
    .rw[g];exact h2
    .rw[g2];rfl
    .rw[g2];rfl
   .rcases hm r with g|⟨c2,g,g2⟩|⟨c2,g,g2⟩
    .exact h3 c' (by rw[<-g];exact hc)
    .rw[g2]at hc;simp at hc;subst hc;exact h3 c2 (.inl g)
    .rw[g2]at hc;simp at hc;subst hc;exact h3 c2 (.inr g)
  |_=>exact hb.elim
 |mark=>cases mb with
  |gK b=>exact hb
  |_=>exact hb.elim
 |loop rd f nt env ps a c jW=>cases mb with
  |gK b=>obtain⟨e',h1,h2⟩:=hb;exact⟨e',h1,h2.sw hm hA⟩
  |_=>exact hb.elim
 |gone=>cases mb with
  |gone=>trivial
  |_=>exact hb.elim
end
theorem afv{call:bn}{fv v:PV X.Γ}{xs:List (PV X.Γ)}{H H1:List (PB X.Γ)}{W:Nat->Prop}{r:Nat}{cs ND:List (PV X.Γ)}(h0:H[r]? = some (.cells cs))(h9:H1[r]? = some (.cells ND))(hro:JE (H1.drop H.length)=true)
  (hs:XT X P call fv xs (H.set r (.aG cs)) v (H1.set r (.aG ND)) W):XT X P call fv xs H v H1 fun k=>W k∧k≠r:=fun A m h tf sD hr hf hx=>by
 obtain⟨mb0,q1,q2⟩:=hr.at_ r _ h0;have hrl:r<H.length:=(a0n.1 h0).1;have hrm:r<m.length:=by rw[hr.len];exact hrl
 cases mb0 with
 |gK c=>
  obtain⟨cs',q3,q4⟩:=q2;have Fq:c∈bI m:=bD q1 rfl;have hch:=(a0n.1 q3).1;have hm:SwM m (m.set r (.jF c)):=fun i=>by
   by_cases e:i=r
   .subst e;exact .inr (.inl ⟨c,q1,by rw[a1Z hrm]⟩)
   .exact .inl (by rw[a1j (fun h=>e h.symm)])
  have old:∀{i b:Nat},Io (m.set r (.jF c)) i b->i≠r∧Io m i b:=fun{i b} ho=>by
   obtain⟨mb,a1,a2⟩:=ho;by_cases e:i=r
   .subst e;rw[a1Z hrm]at a1;cases a1;cases a2
   .rw[a1j (fun h=>e h.symm)]at a1;exact⟨e,mb,a1,a2⟩
  have pO:∀b,b∈bI (m.set r (.jF c))->b∈bI m∧b≠c:=fun b hb=>by obtain⟨i,hi⟩:=kZ hb;obtain⟨e,mb,a1,a2⟩:=old hi;refine⟨bD a1 a2,fun e2=>?_⟩;subst e2;exact e (jm hr.nodup a1 q1 a2 rfl)
  have hA:∀b,AA A m b->AA (fun b=>A b∧b≠c) (m.set r (.jF c)) b:=fun b hb=>⟨⟨hb.1,fun e=>hb.2 (e▸Fq)⟩,fun h=>hb.2 (pO b h).1⟩;have vZ:HR X P (fun b=>A b∧b≠c) (m.set r (.jF c)) (H.set r (.aG cs)) h:=by
   refine⟨by simp[hr.len],fun i b hi=>?_,jM fun i j d a1 a2=>?_,fun b hb=>⟨hr.up b hb,by omega⟩,fun b hb=>⟨hr.DU b (pO b hb).1,(pO b hb).2⟩⟩
   .by_cases e:i=r
    .subst e;rw[a1Z hrl]at hi;cases hi;exact⟨.jF c,by rw[a1Z hrm],fun h=>(pO c h).2 rfl,cs',q3,q4.sw hm hA⟩
    .rw[a1j (fun h=>e h.symm)]at hi;obtain⟨mb,g1,g2⟩:=hr.at_ i b hi;exact⟨mb,by rw[a1j (fun h=>e h.symm)];exact g1,g2.sw hm hA fun d _ hn h=>hn (pO d h).1⟩
   .obtain⟨_,ma,u1,u2⟩:=old a1;obtain⟨_,mc,v1,v2⟩:=old a2;exact jm hr.nodup u1 v1 u2 v2
  obtain⟨w,h1,ws,m1,c1,c2,c3,c4,c5,c6⟩:=hs (fun b=>A b∧b≠c) (m.set r (.jF c)) h tf sD vZ (hf.sw hm hA) (hx.sw hm hA)
  .have afw:r<H1.length:=(a0n.1 h9).1;obtain⟨mb1,e1,e2⟩:=c2.at_ r (.aG ND) (by rw[a1Z afw]);have e3:=c5 r (.jF c) (by rw[a1Z hrm]);have e4:mb1=.jF c:=by
    rcases e3 with e3|e3<;>rw[e1]at e3<;>cases e3
    .rfl
    .exact e2.elim
   subst e4;obtain⟨p0,XJ,p1,p2⟩:=e2;have JK:r<m1.length:=(a0n.1 e1).1;have WX:SwM m1 (m1.set r (.gK c)):=fun i=>by
    by_cases e:i=r
    .subst e;exact .inr (.inr ⟨c,e1,by rw[a1Z JK]⟩)
    .exact .inl (by rw[a1j (fun h=>e h.symm)])
   have at1:∀{i:Nat} {mb:MB},i≠r->(m1.set r (.gK c))[i]? = some mb->m1[i]? = some mb:=fun{i mb} e h=>by rw[a1j (fun h=>e h.symm)]at h;exact h
   have zn:∀b,b∈bI (m1.set r (.gK c))->b=c∨b∈bI m1:=fun b hb=>by
    obtain⟨i,mb,a1,a2⟩:=kZ hb;by_cases e:i=r
    .subst e;rw[a1Z JK]at a1;cases a1;cases a2;exact .inl rfl
    .exact .inr (bD (at1 e a1) a2)
   have hA1:∀b,AA (fun b=>A b∧b≠c) m1 b->AA A (m1.set r (.gK c)) b:=fun b hb=>⟨hb.1.1,fun h=>by
    rcases zn b h with e|e
    .exact hb.1.2 e
    .exact hb.2 e⟩
   refine⟨w,h1,ws,m1.set r (.gK c),c1,⟨by rw[a5l,c2.len,a5l],fun i b hi=>?_,jM fun i j d a1 a2=>?_,fun b hb=>(c2.up b hb).1,fun b hb=>?_⟩,c3.sw WX hA1,⟨c4.len,fun b hb hn=>c4.same b hb fun h=>hn (pO b h).1,fun b hb=>?_,c4.grow⟩,fun i mb hi=>?_,fun b hb=>?_⟩
   .by_cases e:i=r
    .subst e;rw[h9]at hi;cases hi;exact⟨.gK c,by rw[a1Z JK],XJ,p1,p2.sw WX hA1⟩
    .obtain⟨mb,g1,g2⟩:=c2.at_ i b (by rw[a1j (fun h=>e h.symm)];exact hi);refine⟨mb,by rw[a1j (fun h=>e h.symm)];exact g1,g2.sw WX hA1 fun d hd hn hd2=>?_⟩;subst hd;rcases zn d hd2 with e5|e5
     .subst e5;rcases a5h i m.length with aQ|FI
      .have KY:(m.set r (.jF d))[i]? = m[i]?:=(by rw[a1j (fun h=>e h.symm)]);have hmi:m[i]? = some (.jF d):=by
        rcases c5 i m[i] (by rw[KY];exact a0D aQ)with e6|e6<;>rw[g1]at e6<;>simp only[a0k]at e6
        .rw[a0D aQ,<-e6]
        .cases e6
       have hlH:i<H.length:=by rw[<-hr.len];exact aQ
       obtain⟨mb9,e7,e8⟩:=hr.at_ i _ (a0D hlH);rw[hmi]at e7;cases e7;generalize H[i]=b9 at e8;cases b9<;>first|exact e8.elim|exact e8.1 Fq
      .have e6:(H1.drop H.length)[i-H.length]? = some b:=by rw[a5j,<-hi];congr 1;rw[hr.len]at FI;omega
       have e7:=NJ hro e6;cases b<;>first|exact g2.elim|cases e7
     .exact hn e5
   .obtain⟨ma,u1,u2⟩:=a1;obtain⟨mc,v1,v2⟩:=a2;by_cases e:i=r<;>by_cases e':j=r
    .rw[e,e']
    .subst e;rw[a1Z JK]at u1;cases u1;cases u2;exact absurd (bD (at1 e' v1) v2) p0
    .subst e';rw[a1Z JK]at v1;cases v1;cases v2;exact absurd (bD (at1 e u1) u2) p0
    .exact jm c2.nodup (at1 e u1) (at1 e' v1) u2 v2
   .rcases zn b hb with e|e
    .subst e;exact hr.DU _ Fq
    .exact(c2.DU b e).1
   .rcases zn b hb with e|e
    .subst e;exact .inl Fq
    .rcases c4.new b e with g|g
     .exact .inl (pO b g).1
     .exact .inr g
   .by_cases e:i=r
    .subst e;rw[q1]at hi;cases hi;exact .inl (by rw[a1Z JK])
    .rw[a1j (fun h=>e h.symm)];exact c5 i mb (by rw[a1j (fun h=>e h.symm)];exact hi)
   .obtain⟨k,k1,k2⟩:=c6 b hb;obtain⟨k3,k4⟩:=old k2;exact⟨k,⟨k1,k3⟩,k4⟩
 |_=>exact q2.elim
theorem aaG{call:bn}{fv v:PV X.Γ}{xs:List (PV X.Γ)}{H H1:List (PB X.Γ)}{W:Nat->Prop}{r:Nat}{es es1:List (PV X.Γ×PV X.Γ)}(h0:H[r]? = some (.map es))(h9:H1[r]? = some (.map es1))(hro:JE (H1.drop H.length)=true)
  (hs:XT X P call fv xs (H.set r (.iP es)) v (H1.set r (.iP es1)) W):XT X P call fv xs H v H1 fun k=>W k∧k≠r:=fun A m h tf sD hr hf hx=>by
 obtain⟨mb0,q1,q2⟩:=hr.at_ r _ h0;have hrl:r<H.length:=(a0n.1 h0).1;have hrm:r<m.length:=by rw[hr.len];exact hrl
 cases mb0 with
 |gK c=>
  obtain⟨cs',q3,q4⟩:=q2;have Fq:c∈bI m:=bD q1 rfl;have hch:=(a0n.1 q3).1;have hm:SwM m (m.set r (.jF c)):=fun i=>by
   by_cases e:i=r
   .subst e;exact .inr (.inl ⟨c,q1,by rw[a1Z hrm]⟩)
   .exact .inl (by rw[a1j (fun h=>e h.symm)])
  have old:∀{i b:Nat},Io (m.set r (.jF c)) i b->i≠r∧Io m i b:=fun{i b} ho=>by
   obtain⟨mb,a1,a2⟩:=ho;by_cases e:i=r
   .subst e;rw[a1Z hrm]at a1;cases a1;cases a2
   .rw[a1j (fun h=>e h.symm)]at a1;exact⟨e,mb,a1,a2⟩
  have pO:∀b,b∈bI (m.set r (.jF c))->b∈bI m∧b≠c:=fun b hb=>by obtain⟨i,hi⟩:=kZ hb;obtain⟨e,mb,a1,a2⟩:=old hi;refine⟨bD a1 a2,fun e2=>?_⟩;subst e2;exact e (jm hr.nodup a1 q1 a2 rfl)
  have hA:∀b,AA A m b->AA (fun b=>A b∧b≠c) (m.set r (.jF c)) b:=fun b hb=>⟨⟨hb.1,fun e=>hb.2 (e▸Fq)⟩,fun h=>hb.2 (pO b h).1⟩;have vZ:HR X P (fun b=>A b∧b≠c) (m.set r (.jF c)) (H.set r (.iP es)) h:=by
   refine⟨by simp[hr.len],fun i b hi=>?_,jM fun i j d a1 a2=>?_,fun b hb=>⟨hr.up b hb,by omega⟩,fun b hb=>⟨hr.DU b (pO b hb).1,(pO b hb).2⟩⟩
   .by_cases e:i=r
    .subst e;rw[a1Z hrl]at hi;cases hi;exact⟨.jF c,by rw[a1Z hrm],fun h=>(pO c h).2 rfl,cs',q3,q4⟩
    .rw[a1j (fun h=>e h.symm)]at hi;obtain⟨mb,g1,g2⟩:=hr.at_ i b hi;exact⟨mb,by rw[a1j (fun h=>e h.symm)];exact g1,g2.sw hm hA fun d _ hn h=>hn (pO d h).1⟩
   .obtain⟨_,ma,u1,u2⟩:=old a1;obtain⟨_,mc,v1,v2⟩:=old a2;exact jm hr.nodup u1 v1 u2 v2
  obtain⟨w,h1,ws,m1,c1,c2,c3,c4,c5,c6⟩:=hs (fun b=>A b∧b≠c) (m.set r (.jF c)) h tf sD vZ (hf.sw hm hA) (hx.sw hm hA)
  .have afw:r<H1.length:=(a0n.1 h9).1;obtain⟨mb1,e1,e2⟩:=c2.at_ r (.iP es1) (by rw[a1Z afw]);have e3:=c5 r (.jF c) (by rw[a1Z hrm]);have e4:mb1=.jF c:=by
    rcases e3 with e3|e3<;>rw[e1]at e3<;>cases e3
    .rfl
    .exact e2.elim
   subst e4;obtain⟨p0,XJ,p1,p2⟩:=e2;have JK:r<m1.length:=(a0n.1 e1).1;have WX:SwM m1 (m1.set r (.gK c)):=fun i=>by
    by_cases e:i=r
    .subst e;exact .inr (.inr ⟨c,e1,by rw[a1Z JK]⟩)
    .exact .inl (by rw[a1j (fun h=>e h.symm)])
   have at1:∀{i:Nat} {mb:MB},i≠r->(m1.set r (.gK c))[i]? = some mb->m1[i]? = some mb:=fun{i mb} e h=>by rw[a1j (fun h=>e h.symm)]at h;exact h
   have zn:∀b,b∈bI (m1.set r (.gK c))->b=c∨b∈bI m1:=fun b hb=>by
    obtain⟨i,mb,a1,a2⟩:=kZ hb;by_cases e:i=r
    .subst e;rw[a1Z JK]at a1;cases a1;cases a2;exact .inl rfl
    .exact .inr (bD (at1 e a1) a2)
   have hA1:∀b,AA (fun b=>A b∧b≠c) m1 b->AA A (m1.set r (.gK c)) b:=fun b hb=>⟨hb.1.1,fun h=>by
    rcases zn b h with e|e
    .exact hb.1.2 e
    .exact hb.2 e⟩
   refine⟨w,h1,ws,m1.set r (.gK c),c1,⟨by rw[a5l,c2.len,a5l],fun i b hi=>?_,jM fun i j d a1 a2=>?_,fun b hb=>(c2.up b hb).1,fun b hb=>?_⟩,c3.sw WX hA1,⟨c4.len,fun b hb hn=>c4.same b hb fun h=>hn (pO b h).1,fun b hb=>?_,c4.grow⟩,fun i mb hi=>?_,fun b hb=>?_⟩
   .by_cases e:i=r
    .subst e;rw[h9]at hi;cases hi;exact⟨.gK c,by rw[a1Z JK],XJ,p1,p2⟩
    .obtain⟨mb,g1,g2⟩:=c2.at_ i b (by rw[a1j (fun h=>e h.symm)];exact hi);refine⟨mb,by rw[a1j (fun h=>e h.symm)];exact g1,g2.sw WX hA1 fun d hd hn hd2=>?_⟩;subst hd;rcases zn d hd2 with e5|e5
     .subst e5;rcases a5h i m.length with aQ|FI
      .have KY:(m.set r (.jF d))[i]? = m[i]?:=(by rw[a1j (fun h=>e h.symm)]);have hmi:m[i]? = some (.jF d):=by
        rcases c5 i m[i] (by rw[KY];exact a0D aQ)with e6|e6<;>rw[g1]at e6<;>simp only[a0k]at e6
        .rw[a0D aQ,<-e6]
        .cases e6
       have hlH:i<H.length:=by rw[<-hr.len];exact aQ
       obtain⟨mb9,e7,e8⟩:=hr.at_ i _ (a0D hlH);rw[hmi]at e7;cases e7;generalize H[i]=b9 at e8;cases b9<;>first|exact e8.elim|exact e8.1 Fq
      .have e6:(H1.drop H.length)[i-H.length]? = some b:=by rw[a5j,<-hi];congr 1;rw[hr.len]at FI;omega
       have e7:=NJ hro e6;cases b<;>first|exact g2.elim|cases e7
     .exact hn e5
   .obtain⟨ma,u1,u2⟩:=a1;obtain⟨mc,v1,v2⟩:=a2;by_cases e:i=r<;>by_cases e':j=r
    .rw[e,e']
    .subst e;rw[a1Z JK]at u1;cases u1;cases u2;exact absurd (bD (at1 e' v1) v2) p0
    .subst e';rw[a1Z JK]at v1;cases v1;cases v2;exact absurd (bD (at1 e u1) u2) p0
    .exact jm c2.nodup (at1 e u1) (at1 e' v1) u2 v2
   .rcases zn b hb with e|e
    .subst e;exact hr.DU _ Fq
    .exact(c2.DU b e).1
   .rcases zn b hb with e|e
    .subst e;exact .inl Fq
    .rcases c4.new b e with g|g
     .exact .inl (pO b g).1
     .exact .inr g
   .by_cases e:i=r
    .subst e;rw[q1]at hi;cases hi;exact .inl (by rw[a1Z JK])
    .rw[a1j (fun h=>e h.symm)];exact c5 i mb (by rw[a1j (fun h=>e h.symm)];exact hi)
   .obtain⟨k,k1,k2⟩:=c6 b hb;obtain⟨k3,k4⟩:=old k2;exact⟨k,⟨k1,k3⟩,k4⟩
 |_=>exact q2.elim
theorem a0o{call:bn}{fv v:PV X.Γ}{xs:List (PV X.Γ)}{W:Nat->Prop}:∀{rs:List Nat} {H H1 Hr PZ:List (PB X.Γ)},roB rs H H1=some (Hr,PZ)->JE (H1.drop H.length)=true->XT X P call fv xs Hr v PZ W->XT X P call fv xs H v H1 fun k=>W k∧k∉rs
 | [],H,H1,Hr,PZ,h1,hn,hs=>by simp only[roB,a0k,a0T]at h1;obtain⟨rfl,rfl⟩:=h1;intro A m h tf sD a b c;obtain⟨w,h1,ws,m1,c1,c2,c3,c4,c5,c6⟩:=hs A m h tf sD a b c;exact⟨w,h1,ws,m1,c1,c2,c3,c4,c5,fun b hb=>by obtain⟨k,k1,k2⟩:=c6 b hb;exact⟨k,⟨k1,by simp⟩,k2⟩⟩
 |r::rs,H,H1,Hr,PZ,h1,hn,hs=>by
  simp only[roB]at h1;split at h1
  .rename_i cs ND e1 e2;have aQ:r<H.length:=(a0n.1 e1).1;have:=afv e1 e2 hn (a0o h1 (by rw[a5l,List.drop_set_of_lt aQ];exact hn) hs);intro A m h tf sD a b c;obtain⟨w,h1,ws,m1,c1,c2,c3,c4,c5,c6⟩:=this A m h tf sD a b c;exact⟨w,h1,ws,m1,c1,c2,c3,c4,c5,fun b hb=>by obtain⟨k,⟨⟨k1,k3⟩,k4⟩,k2⟩:=c6 b hb;exact⟨k,⟨k1,by simp[k3,k4]⟩,k2⟩⟩
  .rename_i cs ND e1 e2;have aQ:r<H.length:=(a0n.1 e1).1;have:=aaG e1 e2 hn (a0o h1 (by rw[a5l,List.drop_set_of_lt aQ];exact hn) hs);intro A m h tf sD a b c;obtain⟨w,h1,ws,m1,c1,c2,c3,c4,c5,c6⟩:=this A m h tf sD a b c;exact⟨w,h1,ws,m1,c1,c2,c3,c4,c5,fun b hb=>by obtain⟨k,⟨⟨k1,k3⟩,k4⟩,k2⟩:=c6 b hb;exact⟨k,⟨k1,by simp[k3,k4]⟩,k2⟩⟩
  cases h1
theorem XU{α:Type}{rs:List Nat}:∀{ks:List α} {i p:Nat} {k:α},ks[p]? = some k->i+p∉rs->k∈a3R rs i ks
 | [],_,_,_,h,_=>by simp at h
 |a::ks,i,0,k,h,hn=>by simp only[a3p,a0k]at h;subst h;simp only[a3R];rw[a0F (by simpa using hn)];exact a3E
 |a::ks,i,p+1,k,h,hn=>by
  have:=XU (ks:=ks) (i:=i+1) (p:=p) (k:=k) (by simpa using h) (by rwa [Nat.add_right_comm,aay] );simp only[a3R];split
  .exact this
  exact a4a _ this
theorem JL(hX:bT X P){call:bn}{ks:List Nat}{H' Hp H H1 PZ:List (PB X.Γ)}{fv fv' v v':PV X.Γ}{xs xs':List (PV X.Γ)}{W:Nat->Prop}(hs:XT X P call fv xs H v H1 W)
  (jL:ks.Nodup) (hp:DN H' ks=some Hp) (hH:oH (xO ks) Hp=some H) (hf:fZ (xO ks) fv'=some fv) (hx:fZ.qm (xO ks) xs'=some xs)
  (hv:fZ (bk ks H'.length) v=some v') (hH1:oH (bk ks H'.length) H1=some PZ) (hro:JE (H1.drop ks.length)=true) :
  ∀(A:Nat->Prop) (m':List MB) (h:List HB) (tf:TV) (sD:List TV),HR X P A m' H' h->VR X P (AA A m') m' h fv' tf->bZ X P (AA A m') m' h xs' sD ->
  ∃w h1 ws m1,call tf sD h=some (w,h1,ws)∧HR X P A m1 (putAt ks PZ H'++PZ.drop ks.length) h1∧VR X P (AA A m1) m1 h1 v' w∧Fr m' h m1 h1∧Up m' m1∧∀b∈ws,∃p k,ks[p]? = some k∧W p∧Io m' k b:=by
 intro A m' h tf sD hr hf' Gf;have hpg:=EO hp;have hHg:=uw hH;have hkH:∀{p k:Nat},ks[p]? = some k->k<m'.length:=fun{p k} hk=>by obtain⟨b,q1,_⟩:=hpg.2 hk;rw[hr.len];exact(a0n.1 q1).1
 have hkm:∀k∈ks,k<m'.length:=fun k hk=>by obtain⟨i,hi⟩:=a9B hk;exact hkH hi
 let m:List MB:=ks.map fun k=>m'.getD k .gone
 have hm:∀{p k:Nat},ks[p]? = some k->m[p]? = m'[k]?:=fun{p k} hk=>by show(ks.map _)[p]? = _;rw[a5m,hk];have:=hkH hk;simp[a3r,this]
 have a7b:m.length=ks.length:=a5c ..;have TM:∀{p:Nat} {mb:MB},m[p]? = some mb->∃k,ks[p]? = some k∧m'[k]? = some mb:=fun{p mb} hpm=>by
  have:p<ks.length:=by rw[<-a7b];exact(a0n.1 hpm).1
  have hk:=a0D this;exact⟨_,hk,by rw[<-hm hk];exact hpm⟩
 have pO:∀b,b∈bI m->b∈bI m':=fun b hb=>by obtain⟨j,mb,q1,q2⟩:=kZ hb;obtain⟨k,_,q3⟩:=TM q1;exact bD q3 q2
 have afx:∀{i:Nat} {mb:MB} {b:Nat},i∉ks->m'[i]? = some mb->mb.own=some b->b∉bI m:=fun{i mb b} hi h1 h2 hb=>by obtain⟨j,mc,q1,q2⟩:=kZ hb;obtain⟨k,q3,q4⟩:=TM q1;have:=jm hr.nodup h1 q4 h2 q2;subst this;exact hi (a5q q3)
 let A2:Nat->Prop:=fun b=>A b∧(b∈bI m'->b∈bI m)
 have hA:∀b,AA A m' b->AA A2 m b:=fun b hb=>⟨⟨hb.1,fun h9=>absurd h9 hb.2⟩,fun h9=>hb.2 (pO b h9)⟩;have hg:∀i j,xO ks i=some j->m[j]? = m'[i]?:=fun i j Bd=>hm (PU Bd);have vZ:HR X P A2 m H h:=by
  refine⟨by rw[a7b,hHg.1,hpg.1],fun j b hj=>?_,jM fun i j c q1 q2=>?_,fun b hb=>⟨hr.up b hb,fun h9=>absurd (hr.inb h9) (by omega)⟩,fun b hb=>⟨hr.DU b (pO b hb),fun _=>hb⟩⟩
  .obtain⟨b0,q1,q2⟩:=hHg.2 hj;have tH:j<ks.length:=by rw[<-hpg.1];exact(a0n.1 q1).1
   have hk:=a0D tH;obtain⟨b9,q5,q6⟩:=hpg.2 hk;rw[q1]at q6;cases q6;obtain⟨mb,q3,q4⟩:=hr.at_ _ _ q5;exact⟨mb,by rw[hm hk];exact q3,EM hX hg hA (fun c _ h9 h8=>h9 (pO c h8)) q4 q2⟩
  .obtain⟨ma,a1,a2⟩:=q1;obtain⟨mc,c1,c2⟩:=q2;obtain⟨k,a3,a4⟩:=TM a1;obtain⟨l,c3,c4⟩:=TM c1;have e:=jm hr.nodup a4 c4 a2 c2;subst e;exact(List.getElem?_inj (a0n.1 a3).1 jL).1 (by rw[a3,c3])
 obtain⟨w,h1,ws,m1,c1,c2,c3,c4,c5,c6⟩:=hs A2 m h tf sD vZ (EL hg hA hX hf' hf) (zY hX hg hA Gf hx);have a7c:ks.length<=m1.length:=by
  rcases abj ks.length with e|e
  .omega
  .have aQ:ks.length-1<m.length:=(by omega);have:=c5 (ks.length-1) m[ks.length-1] (a0D aQ);rcases this with g|g<;>(have:=(a0n.1 g).1;omega)
 let m1':List MB:=putAt ks m1 m'++m1.drop ks.length
 have hn:m'.length=H'.length:=hr.len;have aaH:(putAt ks m1 m').length=m'.length:=uy;have a2d:∀{p k:Nat},ks[p]? = some k->m1'[k]? = m1[p]?:=fun{p k} hk=>by show(putAt ks m1 m'++_)[k]? = _;rw[a0E (by rw[aaH];exact hkH hk),PY jL hkm a7c hk]
 have a0p:∀{i:Nat},i<m'.length->i∉ks->m1'[i]? = m'[i]?:=fun{i} hi hk=>by show(putAt ks m1 m'++_)[i]? = _;rw[a0E (by rw[aaH];exact hi),JJ hk]
 have a0q:∀{j:Nat},ks.length<=j->m1'[m'.length+(j-ks.length)]? = m1[j]?:=fun{j} hj=>by show(putAt ks m1 m'++_)[_]? = _;rw[a1a (by rw[aaH];omega),aaH,Nat.add_sub_cancel_left,a5j];congr 1;omega
 have hgb:∀j i,bk ks H'.length j=some i->m1'[i]? = m1[j]?:=fun j i Bd=>by
  unfold bk at Bd;split at Bd
  .rename_i k hk;cases Bd;exact a2d hk
  .rename_i hk;cases Bd;rw[<-hn];exact a0q (by rw[List.getElem?_eq_none_iff]at hk;exact hk)
 have vY:∀{i:Nat} {mb:MB},m1'[i]? = some mb->(∃p,ks[p]? = some i∧m1[p]? = some mb)∨(i<m'.length∧i∉ks∧m'[i]? = some mb)∨(∃j,ks.length<=j∧i=m'.length+(j-ks.length)∧m1[j]? = some mb):=fun{i mb} hi=>by
  rcases a5h i m'.length with aQ|FI
  .by_cases hk:i∈ks
   .obtain⟨p,hp⟩:=a9B hk;exact .inl ⟨p,hp,by rw[<-a2d hp];exact hi⟩
   .exact .inr (.inl ⟨aQ,hk,by rw[<-a0p aQ hk];exact hi⟩)
  .refine .inr (.inr ⟨i-m'.length+ks.length,by omega,by omega,?_⟩);rw[<-a0q (by omega)];rw[<-hi];congr 1;omega
 have zK:∀{b:Nat},b∈bI m1'->b∈bI m1∨∃i mb,i∉ks∧m'[i]? = some mb∧mb.own=some b:=fun{b} hb=>by
  obtain⟨i,mb,q1,q2⟩:=kZ hb;rcases vY q1 with⟨p,_,q3⟩|⟨_,q3,q4⟩|⟨j,_,_,q3⟩
  .exact .inl (bD q3 q2)
  .exact .inr ⟨i,mb,q3,q4,q2⟩
  .exact .inl (bD q3 q2)
 have aaI:∀{i b:Nat} {mb:MB},i∉ks->m'[i]? = some mb->mb.own=some b->b∉bI m1:=fun{i b mb} h1 h2 h3 h4=>by
  rcases c4.new b h4 with g|g
  .exact afx h1 h2 h3 g
  .exact absurd (hr.inb (bD h2 h3)) (by omega)
 have hA3:∀b,AA A2 m1 b->AA A m1' b:=fun b hb=>⟨hb.1.1,fun h9=>by
  rcases zK h9 with g|⟨i,mb,g1,g2,g3⟩
  .exact hb.2 g
  .exact afx g1 g2 g3 (hb.1.2 (bD g2 g3))⟩
 have hF:Fr m' h m1' h1:=⟨c4.len,fun b hb hnb=>c4.same b hb fun h9=>hnb (pO b h9),fun b hb=>by
  rcases zK hb with g|⟨i,mb,g1,g2,g3⟩
  .rcases c4.new b g with g|g
   .exact .inl (pO b g)
   .exact .inr g
  .exact .inl (bD g2 g3),c4.grow⟩
 have hU:Up m' m1':=fun i mb hi=>by
  have aQ:=(a0n.1 hi).1;by_cases hk:i∈ks
  .obtain⟨p,hp⟩:=a9B hk;rw[a2d hp];exact c5 p mb (by rw[hm hp];exact hi)
  .exact .inl (by rw[a0p aQ hk];exact hi)
 have afy:=uw hH1;have ajy:m1.length=H1.length:=c2.len;refine⟨w,h1,ws,m1',c1,⟨?_,fun i b hi=>?_,?_,fun b hb=>(c2.up b hb).1,fun b hb=>?_⟩,EL hgb hA3 hX c3 hv,hF,hU,fun b hb=>?_⟩
 .show(putAt ks m1 m'++_).length=_;rw[a1p,a1p,uy,uy,a4u,a4u,afy.1,ajy,hn]
 .have ajz:ks.length<=PZ.length:=by rw[afy.1,<-ajy];exact a7c
  have apR:∀k∈ks,k<H'.length:=fun k hk=>by rw[<-hn];exact hkm k hk
  have back:∀{j:Nat} {b:PB X.Γ},PZ[j]? = some b->∃mb,m1[j]? = some mb∧BR X P (AA A m1') m1' h1 b mb:=fun{j b} hj=>by
   obtain⟨b0,q1,q2⟩:=afy.2 hj;obtain⟨mb,q3,q4⟩:=c2.at_ j b0 q1;refine⟨mb,q3,EM hX hgb hA3 (fun c e h9 h8=>?_) q4 q2⟩;rcases zK h8 with g|⟨i,Nw,g1,g2,g3⟩
   .exact h9 g
   .subst e;rcases a5h j ks.length with hj1|hj1
    .have hk:=a0D hj1;have tH:j<m.length:=by rw[a7b];exact hj1
     have hmj:m[j]? = some (.jF c):=by
      rcases c5 j _ (a0D tH)with e|e<;>rw[q3]at e<;>simp only[a0k]at e
      .rw[a0D tH,<-e]
      .cases e
     obtain⟨k,e1,e2⟩:=TM hmj;obtain⟨b9,e3,_⟩:=hpg.2 e1;obtain⟨mb9,e4,e5⟩:=hr.at_ _ _ e3;rw[e2]at e4;cases e4;cases b9<;>first|exact e5.elim|exact e5.1 (bD g2 g3)
    .have e1:(H1.drop ks.length)[j-ks.length]? = some b0:=by rw[a5j,<-q1];congr 1;omega
     have e2:=NJ hro e1;cases b0<;>first|exact q4.elim|cases e2
  rcases a5h i H'.length with aQ|FI
  .rw[a0E (by rw[uy];exact aQ)]at hi;by_cases hk:i∈ks
   .obtain⟨p,hpk⟩:=a9B hk;rw[PY jL apR ajz hpk]at hi;obtain⟨mb,q1,q2⟩:=back hi;exact⟨mb,by rw[a2d hpk];exact q1,q2⟩
   .rw[JJ hk]at hi;obtain⟨mb,q1,q2⟩:=hr.at_ i b hi;refine⟨mb,by rw[a0p (by rw[hn];exact aQ) hk];exact q1,q2.step hF hU fun c hc=>?_⟩;exact c4.same c (hr.inb (bD q1 hc)) (afx hk q1 hc)
  .rw[a1a (by rw[uy];exact FI),uy,a5j]at hi;obtain⟨mb,q1,q2⟩:=back hi;refine⟨mb,?_,q2⟩;have:=a0q (j:=ks.length+(i-H'.length)) (by omega);rw[q1]at this;rw[<-this];congr 1;omega
 .refine jM fun i j c q1 q2=>?_;obtain⟨ma,a1,a2⟩:=q1;obtain⟨mc,b1,b2⟩:=q2;rcases vY a1 with⟨p,a3,a4⟩|⟨a3,a4,a5⟩|⟨p,a3,a4,a5⟩<;>rcases vY b1 with⟨q,b3,b4⟩|⟨b3,b4,b5⟩|⟨q,b3,b4,b5⟩
  .have:=jm c2.nodup a4 b4 a2 b2;subst this;rw[a3]at b3;cases b3;rfl
  .exact absurd (bD a4 a2) (aaI b4 b5 b2)
  .have:=jm c2.nodup a4 b5 a2 b2;subst this;have:=(a0n.1 a3).1;omega
  .exact absurd (bD b4 b2) (aaI a4 a5 a2)
  .exact jm hr.nodup a5 b5 a2 b2
  .exact absurd (bD b5 b2) (aaI a4 a5 a2)
  .have:=jm c2.nodup a5 b4 a2 b2;subst this;have:=(a0n.1 b3).1;omega
  .exact absurd (bD a5 a2) (aaI b4 b5 b2)
  .have:=jm c2.nodup a5 b5 a2 b2;subst this;omega
 .rcases zK hb with g|⟨i,mb,g1,g2,g3⟩
  .exact(c2.DU b g).1
  .exact hr.DU b (bD g2 g3)
 .obtain⟨j,hw,mb,q1,q2⟩:=c6 b hb;obtain⟨k,q3,q4⟩:=TM q1;exact⟨j,k,q3,hw,mb,q4,q2⟩
end
end Pv
