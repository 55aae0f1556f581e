/- Part 3 of a proof: The answer to any query about any diagram, where any condition is met, is the document's, or the error is; for all queries and diagrams. -/
import Derived.Test.YtmobpoiejckagaaGreatP01
set_option linter.constructorNameAsVariable false
set_option linter.unusedVariables false
set_option linter.unusedSimpArgs false
set_option linter.unusedSectionVars false
noncomputable section
namespace Pv
open Go Tw
section
variable {X:kE} {P:Program} {A:Nat->Prop} {m m':List MB} {h h':List HB} {H H':List (PB X.Γ)}
theorem HR.next(hr:HR X P A m H h)(hF:Fr m h m' h')(hU:Up m m')(hl:m'.length=H'.length)(hn:(bn m').Nodup)
  (JF:∀(i:Nat) b,H'[i]? = some b->(∃mb,H[i]? = some b∧m[i]? = some mb∧m'[i]? = some mb∧∀c,mb.own=some c->h'[c]? = h[c]?)∨∃mb,m'[i]? = some mb∧BR X P (AA A m') m' h' b mb):HR X P A m' H' h':=by
 refine⟨hl,fun i b hb=>?_,hn,fun b hb=>hr.up b (by have:=hF.len;omega),fun b hb=>?_⟩
 .rcases JF i b hb with⟨mb,h1,h2,h3,h4⟩|h1
  .obtain⟨LC,g1,g2⟩:=hr.at_ i b h1;rw[h2]at g1;cases g1;exact⟨mb,h3,g2.step hF hU h4⟩
  .exact h1
 .rcases hF.new b hb with h1|h1
  .exact hr.CP b h1
  .exact hr.up b h1
theorem BR.has{B:Nat->Prop}{b:PB X.Γ}{mb:MB}{c:Nat}(hb:BR X P B m h b mb)(ho:mb.own=some c):c<h.length:=by
 have key:∀{y},h[c]? = some y->c<h.length:=fun e=>(a04.1 e).1;cases b with
 |cells cs=>
  cases mb with
  |fV b=>cases ho;obtain⟨_,h1,_⟩:=hb;exact key h1
  |_=>exact hb.elim
 |aC cs=>
  cases mb with
  |jf b=>cases ho
  |_=>exact hb.elim
 |list k ex t l=>
  cases mb with
  |dw x=>
   cases(hb:LR X P B m h k ex t l x)with
   |nil=>cases ho
   |emp=>simp[MB.own]at ho
   |some h1 _ _ h4=>
    simp only[MB.own]at ho;split at ho
    .cases ho
    cases ho;exact key h4
  |_=>exact hb.elim
 |map es=>
  cases mb with
  |fV b=>cases ho;obtain⟨_,h1,_⟩:=hb;exact key h1
  |_=>exact hb.elim
 |lZ cs=>
  cases mb with
  |fV b=>cases ho;obtain⟨_,h1,_⟩:=hb;exact key h1
  |_=>exact hb.elim
 |iD es=>
  cases mb with
  |jf b=>cases ho
  |_=>exact hb.elim
 |cZ r n seen=>
  cases mb with
  |fV b=>cases ho;obtain⟨_,h1,_⟩:=hb;exact key h1
  |_=>exact hb.elim
 |mark=>
  cases mb with
  |fV b=>cases ho;exact key hb
  |_=>exact hb.elim
 |loop=>
  cases mb with
  |fV b=>cases ho;obtain⟨_,h1,_⟩:=hb;exact key h1
  |_=>exact hb.elim
 |gone=>
  cases mb with
  |gone=>cases ho
  |_=>exact hb.elim
theorem HR.inb(hr:HR X P A m H h){c:Nat}(hc:c∈bn m):c<h.length:=by
 obtain⟨mb,hm,ho⟩:=a7x.1 hc;obtain⟨i,hi⟩:=a8y hm;have:i<H.length:=by rw[<-hr.len];exact(a04.1 hi).1
 obtain⟨LC,h1,h2⟩:=hr.at_ i H[i] (a0a this);rw[hi]at h1;cases h1;exact h2.has ho
theorem iW(a b:List MB):bn (a++b)=bn a++bn b:=List.filterMap_append ..
theorem jT(mb:MB):bn [mb]=mb.own.toList:=by unfold bn;simp[a8L];cases mb.own<;>rfl
theorem wu(ms:List MB):Up m (m++ms):=fun i mb hi=>.inl (by rw[a0e (a04.1 hi).1];exact hi)
theorem HR.push(hr:HR X P A m H h){pb:PB X.Γ}{hb:HB}{mb:MB}(ho:mb.own=some h.length∨mb.own=none)(qw:BR X P (AA A (m++[mb])) (m++[mb]) (h++[hb]) pb mb) :
  HR X P A (m++[mb]) (H++[pb]) (h++[hb])∧Fr m h (m++[mb]) (h++[hb])∧Up m (m++[mb]):=by
 have hF:Fr m h (m++[mb]) (h++[hb]):=by
  refine⟨by simp,fun b hb _=>by rw[a0e hb],fun b hb=>?_,fun b cs hc=>⟨cs,?_,a15 _⟩⟩
  .rw[iW,a3K,jT]at hb;rcases hb with hb|hb
   .exact .inl hb
   .rcases ho with ho|ho<;>rw[ho]at hb<;>simp at hb
    exact .inr (by omega)
  .rw[fM (a0e (gK hc)),hc]
 refine⟨hr.next hF (wu _) (by simp[hr.len]) ?_ fun i b hi=>?_,hF,wu _⟩
 .rw[iW,jT];refine a8B.2 ⟨hr.nodup,?_,?_⟩
  .cases mb.own<;>simp
  .intro a ha b hb e;subst e;have:=hr.inb ha;rcases ho with ho|ho<;>rw[ho]at hb<;>simp at hb
   omega
 .rcases a4a i H.length with aS|Eu
  .left;rw[a0e aS]at hi;obtain⟨LC,h1,h2⟩:=hr.at_ i b hi;refine⟨LC,hi,h1,by rw[a0e (by rw[hr.len];exact aS)];exact h1,fun c hc=>?_⟩;rw[a0e (h2.has hc)]
  .right;rw[a1c Eu]at hi;have:i-H.length=0:=by
    rcases abA (i-H.length)with h|h
    .exact h
    .rw[a3X (by simp;omega)]at hi;cases hi
   rw[this]at hi;simp only[a2J,a00]at hi;subst hi;exact⟨mb,by rw[a1c (by rw[hr.len];exact Eu),hr.len,this];rfl,qw⟩
theorem HR.abC(hr:HR X P A m H h){pb:PB X.Γ}{mb:MB}(ho:mb.own=none)(qw:BR X P (AA A (m++[mb])) (m++[mb]) h pb mb) :
  HR X P A (m++[mb]) (H++[pb]) h∧Fr m h (m++[mb]) h∧Up m (m++[mb]):=by
 have yL:bn (m++[mb])=bn m:=by rw[iW,jT,ho];simp
 have hF:Fr m h (m++[mb]) h:=⟨a15 _,fun _ _ _=>rfl,fun b hb=>.inl (yL▸hb),fun b cs hc=>⟨cs,hc,a15 _⟩⟩;refine⟨hr.next hF (wu _) (by simp[hr.len]) (by rw[yL];exact hr.nodup) fun i b hi=>?_,hF,wu _⟩;rcases a4a i H.length with aS|Eu
 .left;rw[a0e aS]at hi;obtain⟨LC,h1,h2⟩:=hr.at_ i b hi;exact⟨LC,hi,h1,by rw[a0e (by rw[hr.len];exact aS)];exact h1,fun c hc=>rfl⟩
 .right;rw[a1c Eu]at hi;have:i-H.length=0:=by
   rcases abA (i-H.length)with h|h
   .exact h
   .rw[a3X (by simp;omega)]at hi;cases hi
  rw[this]at hi;simp only[a2J,a00]at hi;subst hi;exact⟨mb,by rw[a1c (by rw[hr.len];exact Eu),hr.len,this];rfl,qw⟩
theorem HR.set(hr:HR X P A m H h){i c:Nat}{mb:MB}{pb:PB X.Γ}{hb:HB}(hi:m[i]? = some mb)(ho:mb.own=some c)(hg:∀cs,aV h c=some cs->∃cs',aV (h.set c hb) c=some cs'∧cs.length<=cs'.length)
  (qw:Fr m h m (h.set c hb)->BR X P (AA A m) m (h.set c hb) pb mb):HR X P A m (H.set i pb) (h.set c hb)∧Fr m h m (h.set c hb):=by
 have hF:Fr m h m (h.set c hb):=by
  refine⟨by simp,fun b hb hn=>?_,fun b hb=>.inl hb,fun b cs hc=>?_⟩
  .rw[a1D];intro e;subst e;exact hn (bf hi ho)
  .by_cases e:c=b
   .subst e;exact hg cs hc
   .exact⟨cs,by rw[fM (a1D e),hc],a15 _⟩
 refine⟨hr.next hF .refl (by simp[hr.len]) hr.nodup fun j b hj=>?_,hF⟩;by_cases e:i=j
 .subst e;rw[a4c ]at hj;right;have:H[i]?.isSome:=by
   have:i<H.length:=by rw[<-hr.len];exact(a04.1 hi).1
   simp[this]
  obtain⟨y,hy⟩:=a5j.1 this;rw[hy]at hj;cases hj;exact⟨mb,hi,qw hF⟩
 .rw[a1D e]at hj;left;obtain⟨LC,h1,h2⟩:=hr.at_ j b hj;refine⟨LC,hj,h1,h1,fun d hd=>a1D fun e2=>?_⟩;subst e2;exact e (iT hr.nodup hi h1 ho hd)
theorem EK{i:Nat}:∀{m:List MB} {b:Nat},b∈bn (m.set i .gone)->b∈bn m:=by
 intro m b hb;obtain⟨mb,hm,ho⟩:=a7x.1 hb;obtain⟨j,hj⟩:=a8y hm;by_cases e:i=j
 .subst e;rw[a4c]at hj;cases hx:m[i]? with
  |none=>rw[hx]at hj;cases hj
  |some y=>rw[hx]at hj;cases hj;cases ho
 rw[a1D e]at hj;exact bf hj ho
theorem O1{i:Nat}:∀{m:List MB},(bn m).Nodup->(bn (m.set i .gone)).Nodup:=by
 unfold bn;intro m
 induction m generalizing i with
 |nil=>intro h;simp
 |cons x r ih=>
  intro hn;cases i with
  |zero=>
   simp only[List.set_cons_zero,a8L,MB.own];simp only[a8L]at hn;split at hn
   .exact hn
   exact(a4g.1 hn).2
  |succ i=>
   simp only[List.set_cons_succ,a8L];simp only[a8L]at hn;split at hn
   .exact ih hn
   refine a4g.2 ⟨fun hb=>(a4g.1 hn).1 ?_,ih (a4g.1 hn).2⟩;exact EK (m:=r) hb
theorem a0L{i:Nat}:Fr m h (m.set i .gone) h:=⟨a15 _,fun _ _ _=>rfl,fun _ hb=>.inl (EK hb),fun _ cs hc=>⟨cs,hc,a15 _⟩⟩
theorem a0M{i:Nat}:Up m (m.set i .gone):=fun j mb hj=>by
 by_cases e:i=j
 .subst e;right;rw[a4c,hj];rfl
 .left;rw[a1D e];exact hj
theorem HR.gone(hr:HR X P A m H h)(i:Nat):HR X P A (m.set i .gone) (H.set i .gone) h:=by
 refine hr.next a0L a0M (by simp[hr.len]) (O1 hr.nodup) fun j b hj=>?_;by_cases e:i=j
 .subst e;right;rw[a4c]at hj;cases hx:H[i]? with
  |none=>rw[hx]at hj;cases hj
  |some y=>
   rw[hx]at hj;cases hj;obtain⟨mb,h1,_⟩:=hr.at_ i y hx;exact⟨.gone,by rw[a4c,h1];rfl,trivial⟩
 rw[a1D e]at hj;left;obtain⟨mb,h1,_⟩:=hr.at_ j b hj;exact⟨mb,hj,h1,by rw[a1D e];exact h1,fun _ _=>rfl⟩
def bU:List Nat->List MB->List MB
 | [],m=>m
 |i::is,m=>bU is (m.set i .gone)
theorem iq:∀(is:List Nat) (m:List MB),Fr m h (bU is m) h∧Up m (bU is m)
 | [],m=>⟨.refl,.refl⟩
 |i::is,m=>⟨a0L.trans (iq is _).1,a0M.trans (iq is _).2⟩
theorem HR.aY:∀(is:List Nat) {m:List MB} {H:List (PB X.Γ)},HR X P A m H h->HR X P A (bU is m) (aY is H) h
 | [],_,_,hr=>hr
 |i::is,_,_,hr=>HR.aY is (hr.gone i)
theorem nG:∀(is:List Nat) (H:List (PB X.Γ)),(Pv.aY is H).length=H.length
 | [],_=>rfl
 |i::is,H=>by rw[Pv.aY,nG is];simp[Wu]
theorem lQ:∀(is:List Nat) (m:List MB),(bU is m).length=m.length
 | [],_=>rfl
 |i::is,m=>by rw[bU,lQ is];simp
theorem Gx:∀(is:List Nat) {m:List MB} {i:Nat} {mb:MB},m[i]? = some mb->(bU is m)[i]? = some (if is.contains i then .gone else mb)
 | [],_,_,_,h=>by simpa[bU]using h
 |j::is,m,i,mb,h=>by
  rw[bU];by_cases e:j=i
  .subst e;have:(m.set j .gone)[j]? = some .gone:=by rw[a4c,h];rfl
   rw[Gx is this];simp
  rw[Gx is (by rw[a1D e];exact h)];have:(i==j)=false:=by simp;omega
  simp only[agS,this,aeQ]
end
section
variable {X:kE} {P:Program} {A:Nat->Prop} {m m':List MB} {h h':List HB} {H H':List (PB X.Γ)}
theorem bV.nil:bV X P A m h [] []:=⟨rfl,fun i x y hx=>by simp at hx⟩
theorem bV.cons{v:PV X.Γ}{x:TV}{vs:List (PV X.Γ)}{xs:List TV}(h1:VR X P A m h v x)(h2:bV X P A m h vs xs):bV X P A m h (v::vs) (x::xs):=by
 refine⟨by simp[h2.1],fun i a b ha hb=>?_⟩;cases i with
 |zero=>simp only[a2J,a00]at ha hb;subst ha;subst hb;exact h1
 |succ i=>exact h2.2 i a b (by simpa using ha) (by simpa using hb)
theorem bV.inv{v:PV X.Γ}{vs:List (PV X.Γ)}{xs:List TV}(hv:bV X P A m h (v::vs) xs):∃x r,xs=x::r∧VR X P A m h v x∧bV X P A m h vs r:=by
 cases xs with
 |nil=>have:=hv.1;simp at this
 |cons x r=>exact⟨x,r,rfl,hv.2 0 v x rfl rfl,by have:=hv.1;simpa using this,fun i a b ha hb=>hv.2 (i+1) a b (by simpa using ha) (by simpa using hb)⟩
theorem bV.inv0{xs:List TV}(hv:bV X P A m h [] xs):xs=[]:=by have:=hv.1;cases xs<;>simp_all
theorem bV.app{a b:List (PV X.Γ)}{x y:List TV}(h1:bV X P A m h a x)(h2:bV X P A m h b y):bV X P A m h (a++b) (x++y):=by
 refine⟨by simp[h1.1,h2.1],fun i c d hc hd=>?_⟩;rcases a4a i a.length with hl|hl
 .rw[a0e hl]at hc;rw[a0e (by rw[<-h1.1];exact hl)]at hd;exact h1.2 i c d hc hd
 rw[a1c hl]at hc;rw[a1c (by rw[<-h1.1];exact hl),<-h1.1]at hd;exact h2.2 _ c d hc hd
theorem bV.drop{a:List (PV X.Γ)}{x:List TV}(h1:bV X P A m h a x)(n:Nat):bV X P A m h (a.drop n) (x.drop n):=
 ⟨by simp[h1.1],fun i c d hc hd=>h1.2 (n+i) c d (by rw[<-hc,a4b]) (by rw[<-hd,a4b])⟩
theorem bV.take{a:List (PV X.Γ)}{x:List TV}(h1:bV X P A m h a x)(n:Nat):bV X P A m h (a.take n) (x.take n):=by
 refine⟨by simp[h1.1],fun i c d hc hd=>?_⟩;rw[a4d]at hc hd;split at hc
 .rename_i hl;rw[a0h hl]at hd;exact h1.2 i c d hc hd
 cases hc
theorem bV.get{a:List (PV X.Γ)}{x:List TV}(h1:bV X P A m h a x){i:Nat}{c:PV X.Γ}(hc:a[i]? = some c):∃v,x[i]? = some v∧VR X P A m h c v:=by
 have hl:i<x.length:=by rw[<-h1.1];exact(a04.1 hc).1
 exact⟨x[i],a0a hl,h1.2 i c _ hc (a0a hl)⟩
theorem Rx{v:PV X.Γ}{x tv:TV}(hv:VR X P A m h v x)(hp:qJ v=some tv):x=tv:=by
 cases hv with
 |gone hi _ _=>cases v<;>simp[bg]at hi<;>simp[qJ]at hp
 |_=>first|(simp only[qJ,a00]at hp;exact hp)|(simp[qJ]at hp;done)
theorem FB:∀{vs:List (PV X.Γ)} {xs tvs:List TV},bV X P A m h vs xs->iI vs=some tvs->xs=tvs
 | [],xs,tvs,hv,hp=>by simp only[iI,a00]at hp;rw[hv.inv0,hp]
 |v::vs,xs,tvs,hv,hp=>by
  obtain⟨x,r,rfl,h1,h2⟩:=hv.inv;simp only[iI]at hp;split at hp
  .rename_i a b ha hb;cases hp;rw[Rx h1 ha,FB h2 hb]
  cases hp
theorem jG{v:PV X.Γ}{x tv:TV}(hv:VR X P A m h v x)(hp:pz v=some tv):x=tv:=by
 cases v with
 |agg cs=>
  simp only[pz,a09]at hp;obtain⟨tvs,h1,rfl⟩:=hp;cases hv with
  |agg h2 h3=>rw[FB ⟨h2,h3⟩ h1]
  |gone hi _ _=>simp[bg]at hi
 |_=>exact Rx hv hp
theorem a0N:∀{vs:List (PV X.Γ)} {xs tvs:List TV},bV X P A m h vs xs->Ua vs=some tvs->xs=tvs
 | [],xs,tvs,hv,hp=>by simp only[Ua,a00]at hp;rw[hv.inv0,hp]
 |v::vs,xs,tvs,hv,hp=>by
  obtain⟨x,r,rfl,h1,h2⟩:=hv.inv;simp only[Ua]at hp;split at hp
  .rename_i a b ha hb;cases hp;rw[jG h1 ha,a0N h2 hb]
  cases hp
theorem a5x{v:PV X.Γ}{x:TV}(hp:ZW x=some v):VR X P A m h v x:=by
 cases x<;>simp[ZW]at hp<;>subst hp<;>constructor
theorem Uk:∀{xs:List TV} {vs:List (PV X.Γ)},BJ xs=some vs->bV X P A m h vs xs
 | [],vs,hp=>by simp only[BJ,a00]at hp;subst hp;exact .nil
 |x::xs,vs,hp=>by
  simp only[BJ]at hp;split at hp
  .rename_i a b ha hb;cases hp;exact .cons (a5x ha) (Uk hb)
  cases hp
theorem wz{v:PV X.Γ}{x:TV}(hp:Yj x=some v):VR X P A m h v x:=by
 cases x with
 |agg cs=>
  simp only[Yj,a09]at hp;obtain⟨vs,h1,rfl⟩:=hp;have:=Uk (X:=X) (P:=P) (A:=A) (m:=m) (h:=h) h1;exact .agg this.1 this.2
 |_=>exact a5x hp
theorem Ry{v:PV X.Γ}{x:TV}(hp:qJ v=some x):VR X P A m h v x:=by
 cases v<;>simp only[qJ,a00,reduceCtorEq]at hp<;>subst hp
 .exact .bool _
 .exact .int _ _
 .exact .str _
 exact .nil _
theorem FC:∀{vs:List (PV X.Γ)} {xs:List TV},iI vs=some xs->bV X P A m h vs xs
 | [],xs,hp=>by simp only[iI,a00]at hp;subst hp;exact .nil
 |v::vs,xs,hp=>by
  simp only[iI]at hp;split at hp
  .rename_i a b ha hb;cases hp;exact .cons (Ry ha) (FC hb)
  cases hp
theorem nH{v:PV X.Γ}{x:TV}(hp:pz v=some x):VR X P A m h v x:=by
 cases v with
 |agg cs=>
  simp only[pz,a09]at hp;obtain⟨vs,h1,rfl⟩:=hp;have:=FC (X:=X) (P:=P) (A:=A) (m:=m) (h:=h) h1;exact .agg this.1 this.2
 |_=>exact Ry hp
theorem Gy{v:PV X.Γ}{x:TV}(hv:VR X P A m h v x):VR X P A m h (a0F v) x:=by
 cases v with
 |lit b=>
  cases hv with
  |lit=>exact .bool _
  |gone hi _ _=>simp[bg]at hi
 |_=>exact hv
theorem a5y{v:PV X.Γ}{x:TV}(hv:VR X P A m h v x):iQ x=YV v:=by
 cases hv with
 |own _ o=>exact o
 |gone hi _ o=>rw[o];cases v<;>simp[bg]at hi<;>rfl
 |_=>rfl
theorem Gz{v:PV X.Γ}{x:TV}(hv:VR X P A m h v x):bV X P A m h v.cells x.cells:=by
 have hq:=a5y hv;cases v with
 |agg cs=>
  cases hv with
  |agg h1 h2=>exact⟨h1,h2⟩
  |gone hi _ _=>simp[bg]at hi
 |dG cs=>
  have hv':=hv;cases hv with
  |dG h1 h2=>exact .cons hv' .nil
  |gone hi _ _=>simp[bg]at hi
 |_=>
  have:x.cells=[x]:=by
   cases x<;>first|rfl|(simp[iQ,YV]at hq;done)
  rw[this];exact .cons hv .nil
theorem DN:∀{vs:List (PV X.Γ)} {xs:List TV},bV X P A m h vs xs->xs.all iQ=vs.all YV
 | [],xs,hv=>by rw[hv.inv0];rfl
 |v::vs,xs,hv=>by
  obtain⟨x,r,rfl,h1,h2⟩:=hv.inv;simp only[abJ,a5y h1,DN h2]
theorem adT{cs:List (PV X.Γ)}{xs:List TV}(hv:bV X P A m h cs xs){off n:Nat}{r:List (PV X.Γ)}(hs:adM cs off n=some r):∃r',sub xs off n=some r'∧bV X P A m h r r':=by
 unfold adM at hs;split at hs
 .rename_i hl;cases hs;exact⟨_,by unfold sub;rw[a0h (by rw[<-hv.1];exact hl)],(hv.drop off).take n⟩
 cases hs
theorem GH{cs new:List (PV X.Γ)}{xs ahM:List TV}(hv:bV X P A m h cs xs)(hn:bV X P A m h new ahM){off:Nat}{r:List (PV X.Γ)}(hs:NT cs off new=some r):∃r',vM xs off ahM=some r'∧bV X P A m h r r':=by
 unfold NT at hs;split at hs
 .rename_i hl;cases hs;refine⟨_,by unfold vM;rw[a0h (by rw[<-hv.1,<-hn.1];exact hl)],?_⟩;rw[<-hn.1];exact((hv.take off).app hn).app (hv.drop _)
 cases hs
theorem Ae{cs:List (PV X.Γ)}{xs:List TV}(hv:bV X P A m h cs xs){t:TypeId}{off:Nat}{v:PV X.Γ}(hs:Gs P t cs off=some v):∃x,tX P t xs off=some x∧VR X P A m h v x:=by
 unfold Gs at hs;unfold tX;split at hs
 .rename_i n ha hn;simp only[a09]at hs;obtain⟨r,h1,rfl⟩:=hs;obtain⟨r',g1,g2⟩:=adT hv h1;exact⟨.agg r',by simp only[ha,hn,g1,a0T],.agg g2.1 g2.2⟩
 .rename_i n ha hn;split at hs
  .rename_i h1;obtain⟨x,g1,g2⟩:=hv.get hs;exact⟨x,by simp only[ha,hn,h1,a2d,g1],g2⟩
  cases hs
 cases hs
theorem GI{t:TypeId}{z:List (PV X.Γ)}(hz:Rq P t=some z):∃z',Jy P t=some z'∧bV X P A m h z z':=by
 unfold Rq at hz;split at hz
 .rename_i z' h1;exact⟨z',h1,Uk hz⟩
 cases hz
def VPs(X:kE)(P:Program)(A:Nat->Prop)(m:List MB)(h:List HB)(ps:List (Nat×PV X.Γ))(qs:List (Nat×TV)):Prop:=
 ps.length=qs.length∧∀(i:Nat) a b,ps[i]? = some a->qs[i]? = some b->a.1=b.1∧VR X P A m h a.2 b.2
theorem VPs.inv{a:Nat×PV X.Γ}{ps:List (Nat×PV X.Γ)}{qs:List (Nat×TV)}(hv:VPs X P A m h (a::ps) qs):∃x r,qs=(a.1,x)::r∧VR X P A m h a.2 x∧VPs X P A m h ps r:=by
 cases qs with
 |nil=>have:=hv.1;simp at this
 |cons q r=>
  obtain⟨h1,h2⟩:=hv.2 0 a q rfl rfl;refine⟨q.2,r,by rw[h1],h2,by have:=hv.1;simpa using this,fun i x y hx hy=>hv.2 (i+1) x y (by simpa using hx) (by simpa using hy)⟩
theorem LD{pl:Nat->Option (Nat×Nat)}:∀{ps:List (Nat×PV X.Γ)} {qs:List (Nat×TV)} {cs:List (PV X.Γ)} {xs:List TV},VPs X P A m h ps qs->bV X P A m h cs xs->∀{r:List (PV X.Γ)},NU pl cs ps=some r->∃r',rU pl xs qs=some r'∧bV X P A m h r r'
 | [],qs,cs,xs,hp,hv,r,hs=>by
  have:qs=[]:=by have:=hp.1;cases qs<;>simp_all
  subst this;simp only[NU,a00]at hs;subst hs;exact⟨xs,rfl,hv⟩
 |(i,v)::ps,qs,cs,xs,hp,hv,r,hs=>by
  obtain⟨x,rest,rfl,h1,h2⟩:=hp.inv;have hc:=Gz h1;simp only[NU]at hs;split at hs
  .rename_i off size FT;split at hs
   .rename_i uN;split at hs
    .rename_i cs' ho;obtain⟨xs',g1,g2⟩:=GH hv hc ho;obtain⟨r',g3,g4⟩:=LD h2 g2 hs;have adw:x.cells.length=size:=by rw[<-hc.1];exact uN
     exact⟨r',by simp only[rU,FT,adw,a2d,g1,g3],g4⟩
    cases hs
   cases hs
  cases hs
theorem a5z{t:TypeId}{ps:List (Nat×PV X.Γ)}{qs:List (Nat×TV)}(hp:VPs X P A m h ps qs){v:PV X.Γ}(hs:YX P t ps=some v):∃x,MH P t qs=some x∧VR X P A m h v x:=by
 unfold YX at hs;unfold MH;split at hs
 .rename_i z fs hz hu;obtain⟨z',g1,g2⟩:=GI (A:=A) (m:=m) (h:=h) hz;split at hs
  .rename_i ha;simp only[a09]at hs;obtain⟨r,h1,rfl⟩:=hs;obtain⟨r',g3,g4⟩:=LD hp g2 h1;exact⟨.agg r',by simp only[g1,hu,ha,a2d,g3,a0T],.agg g4.1 g4.2⟩
  cases hs
 .rename_i z n e hz hu;obtain⟨z',g1,g2⟩:=GI (A:=A) (m:=m) (h:=h) hz;split at hs
  .rename_i k hk;simp only[a09]at hs;obtain⟨r,h1,rfl⟩:=hs;obtain⟨r',g3,g4⟩:=LD hp g2 h1;exact⟨.agg r',by simp only[g1,hu,hk,g3,a0T],.agg g4.1 g4.2⟩
  cases hs
 cases hs
theorem WA{z:List (PV X.Γ)}{z':List TV}(hz:bV X P A m h z z'):∀n,bV X P A m h (YZ z n) (times z' n)
 | 0=>.nil
 |n+1=>hz.app (WA hz n)
section
variable {env:List (Nat×PE X.Γ)} {env':List (Nat×EV)}
theorem a0O(he:jJ X P A m h env env'){t:Nat}:(EI t env=none∧dK t env'=none)∨∃v x,EI t env=some v∧dK t env'=some x∧Ig X P A m h v x:=by
 induction he with
 |nil=>exact .inl ⟨rfl,rfl⟩
 |cons h1 _ ih=>
  rename_i k v x r r' _;simp only[EI,dK];by_cases e:k=t
  .right;exact⟨v,x,by rw[a0h e],by rw[a0h e],h1⟩
  rw[a0g e,a0g e];exact ih
theorem o7(he:jJ X P A m h env env'){t:Nat}{v:PE X.Γ}(hl:EI t env=some v):∃x,dK t env'=some x∧Ig X P A m h v x:=by
 rcases a0O he (t:=t)with⟨h1,_⟩|⟨w,x,h1,h2,h3⟩
 .rw[hl]at h1;cases h1
 rw[hl]at h1;cases h1;exact⟨x,h2,h3⟩
theorem mG(he:jJ X P A m h env env'){o:Operand}{v:PE X.Γ}(hl:Fh env o=some v):∃x,Ib env' o=some x∧Ig X P A m h v x:=by
 cases o with
 |tmp t=>exact o7 he hl
 |const c=>
  simp only[Fh]at hl;split at hl
  .rename_i b hb;cases hl;exact⟨.val (.bool b),by simp only[Ib,hb,a0T],VR.lit b⟩
  .rename_i x _ hx;simp only[a09]at hl;obtain⟨w,h1,rfl⟩:=hl;exact⟨.val x,by simp only[Ib,hx,a0T],wz h1⟩
  cases hl
 |func f=>
  simp only[Fh,a00]at hl;subst hl;exact⟨.val (.fn f [] []),rfl,.fn rfl (by simp) rfl (by simp)⟩
 |global g=>cases hl
theorem fO{v:PV X.Γ}{x:EV}(hp:Ig X P A m h (.val v) x):∃y,x=.val y∧VR X P A m h v y:=by
 cases x with
 |val y=>exact⟨y,rfl,hp⟩
 |_=>exact hp.elim
theorem DR{k o:Nat}{x:EV}(hp:Ig X P A m h (.loc k o) x):x=.loc k o:=by
 cases x with
 |loc k' o'=>obtain⟨rfl,rfl⟩:=hp;rfl
 |_=>exact hp.elim
theorem IJ{x:EV}(hp:Ig X P A m h .undef x):x=.undef:=by
 cases x with
 |undef=>rfl
 |_=>exact hp.elim
theorem LG{r j:Nat}{v:PV X.Γ}{x:EV}(hp:Ig X P A m h (.ent r j v) x):∃c y,x=.ent c j y∧VR X P A m h (.map r) (.map c)∧pz v=some y:=by
 cases x with
 |ent c j' y=>obtain⟨h1,rfl,h2⟩:=hp;exact⟨c,y,rfl,h1,h2⟩
 |_=>exact hp.elim
theorem LH{r j:Nat}{x:EV}(hp:Ig X P A m h (.Eh r j) x):∃c,x=.Eh c j∧VR X P A m h (.map r) (.map c):=by
 cases x with
 |Eh c j'=>obtain⟨h1,rfl⟩:=hp;exact⟨c,rfl,h1⟩
 |_=>exact hp.elim
theorem WB(he:jJ X P A m h env env'){o:Operand}{v:PV X.Γ}(hl:a0G env o=some v):∃x,qA env' o=some x∧VR X P A m h v x:=by
 unfold a0G at hl;split at hl
 .rename_i w hw;cases hl;obtain⟨x,h1,h2⟩:=mG he hw;obtain⟨y,rfl,h3⟩:=fO h2;exact⟨y,by simp only[qA,h1],h3⟩
 cases hl
theorem jh(he:jJ X P A m h env env'){o:Operand}{v:PV X.Γ}(hl:zL env o=some v):∃x,qA env' o=some x∧VR X P A m h v x:=by
 unfold zL at hl;split at hl
 .rename_i w hw;cases hl;obtain⟨x,h1,h2⟩:=mG he hw;obtain⟨y,rfl,h3⟩:=fO h2;exact⟨y,by simp only[qA,h1],Gy h3⟩
 cases hl
theorem Ul(he:jJ X P A m h env env'):∀{os:List Operand} {vs:List (PV X.Γ)},YW env os=some vs->∃xs,TA env' os=some xs∧bV X P A m h vs xs
 | [],vs,hl=>by simp only[YW,a00]at hl;subst hl;exact⟨[],rfl,.nil⟩
 |o::os,vs,hl=>by
  simp only[YW]at hl;split at hl
  .rename_i v ws h1 h2;cases hl;obtain⟨x,g1,g2⟩:=jh he h1;obtain⟨xs,g3,g4⟩:=Ul he h2;exact⟨x::xs,by simp only[TA,g1,g3],.cons g2 g4⟩
  cases hl
theorem Zd(he:jJ X P A m h env env'):∀{os:List (Nat×Operand)} {vs:List (Nat×PV X.Γ)},a2x env os=some vs->∃xs,Vx env' os=some xs∧VPs X P A m h vs xs
 | [],vs,hl=>by simp only[a2x,a00]at hl;subst hl;exact⟨[],rfl,rfl,fun i a b ha=>by simp at ha⟩
 |(i,o)::os,vs,hl=>by
  simp only[a2x]at hl;split at hl
  .rename_i v ws h1 h2;cases hl;obtain⟨x,g1,g2⟩:=jh he h1;obtain⟨xs,g3,g4⟩:=Zd he h2;refine⟨(i,x)::xs,by simp only[Vx,g1,g3],by simp[g4.1],fun j a b ha hb=>?_⟩;cases j with
   |zero=>simp only[a2J,a00]at ha hb;subst ha;subst hb;exact⟨rfl,g2⟩
   |succ j=>exact g4.2 j a b (by simpa using ha) (by simpa using hb)
  cases hl
def OR(X:kE)(P:Program)(A:Nat->Prop)(m:List MB)(h:List HB):Option (PV X.Γ)->Option TV->Prop
 |none,none=>True
 |some v,some x=>VR X P A m h v x
 |_,_=>False
theorem GK(he:jJ X P A m h env env'){o:Option Operand}{v:Option (PV X.Γ)}(hl:NS env o=some v):∃x,Vz env' o=some x∧OR X P A m h v x:=by
 cases o with
 |none=>simp only[NS,a00]at hl;subst hl;exact⟨none,rfl,trivial⟩
 |some o=>
  simp only[NS]at hl;split at hl
  .rename_i w hw;cases hl;obtain⟨x,g1,g2⟩:=jh he hw;exact⟨some x,by simp only[Vz,g1],g2⟩
  cases hl
theorem Um(he:jJ X P A m h env env'):∀live,jJ X P A m h (iY live env) (pick live env')
 | []=>.nil
 |t::r=>by
  simp only[iY,pick];rcases a0O he (t:=t)with⟨h1,h2⟩|⟨v,x,h1,h2,h3⟩
  .rw[h1,h2];exact Um he r
  rw[h1,h2];exact .cons h3 (Um he r)
theorem a9h(he:jJ X P A m h env env'){t:Nat}{b:Bool}(hb:dK t env'=some (.val (.bool b))):jJ X P A m h (Pv.Bz t b env) env':=by
 induction he with
 |nil=>exact .nil
 |cons h1 h2 ih=>
  rename_i k v x r r';simp only[dK]at hb;simp only[Pv.Bz];by_cases e:k=t
  .rw[a0h e]at hb ⊢;cases hb;exact .cons (VR.lit b) h2
  rw[a0g e]at hb ⊢;exact .cons h1 (ih hb)
theorem adU(he:jJ X P A m h env env'):Ui X env=BP env':=by
 induction he with
 |nil=>rfl
 |cons h1 _ ih=>
  rename_i k v x r r' _;cases v with
  |val v=>obtain⟨y,rfl,_⟩:=fO h1;simpa[Ui,BP]using ih
  |loc a b=>rw[DR h1];simp only[Ui,BP,ih]
  |undef=>rw[IJ h1];simpa[Ui,BP]using ih
  |ent=>obtain⟨_,_,rfl,_⟩:=LG h1;simpa[Ui,BP]using ih
  |Eh=>obtain⟨_,rfl,_⟩:=LH h1;simpa[Ui,BP]using ih
end
end
structure bM(X:kE)(P:Program):Prop where
 dec:∀{t:Nat} {vs:List (PV X.Γ)} {a:X.Γ t},X.dec t vs=some a->∀{A:Nat->Prop} {m:List MB} {h:List HB} {xs:List TV},bV X P A m h vs xs->bV X P A m h (X.enc t a) xs
 jc:∀(t:Nat) (a:X.Γ t),jc.Gu (X.enc t a)=true
section
variable {X:kE} {P:Program} {A B:Nat->Prop} {m m':List MB} {h h':List HB} {H H':List (PB X.Γ)}
theorem VR.mono(hAB:∀b,A b->B b){v:PV X.Γ}{x:TV}(hv:VR X P A m h v x):VR X P B m h v x:=by
 induction hv with
 |bool=>exact .bool _
 |lit=>exact .lit _
 |int=>exact .int _ _
 |str=>exact .str _
 |nil=>exact .nil _
 |ptr e=>exact .ptr e
 |slc e=>exact .slc e
 |own e o=>exact .own e o
 |win e q q' q2=>exact .win e q q' q2
 |Ac e=>exact .Ac e
 |map e=>exact .map e
 |iter e=>exact .iter e
 |fn h1 _ h3 _ i2 i4=>exact .fn h1 i2 h3 i4
 |kC e=>exact .kC e
 |agg h1 _ i2=>exact .agg h1 i2
 |dG h1 _ i2=>exact .dG h1 i2
 |nZ=>exact .nZ
 |dw a c c2 s z o k f e _ ih=>exact .dw (hAB _ a) c c2 s z o k f e ih
 |el a c l o e q _ ih=>exact .el (hAB _ a) c l o e q ih
 |row e j q=>exact .row e j q
 |gone i e o=>exact .gone i e o
theorem bV.mono(hAB:∀b,A b->B b){v:List (PV X.Γ)}{x:List TV}(hv:bV X P A m h v x):bV X P B m h v x:=⟨hv.1,fun i a b ha hb=>(hv.2 i a b ha hb).mono hAB⟩
theorem fA:∀{vs:List (PV X.Γ)} {i:Nat} {v:PV X.Γ},jc.Gu vs=true->vs[i]? = some v->jc v=true
 | [],_,_,_,h=>by simp at h
 |a::vs,i,v,hc,h=>by
  simp only[jc.Gu,a2m]at hc;cases i with
  |zero=>simp only[a2J,a00]at h;subst h;exact hc.1
  |succ i=>exact fA hc.2 (by simpa using h)
theorem VR.jc(hX:bM X P){v:PV X.Γ}{x:TV}(hv:VR X P A m h v x)(hc:Pv.jc v=true):VR X P A m' h v x:=by
 induction hv with
 |bool=>exact .bool _
 |lit=>exact .lit _
 |int=>exact .int _ _
 |str=>exact .str _
 |nil=>exact .nil _
 |fn h1 _ h3 _ i2 i4=>
  simp only[Pv.jc,a2m]at hc;exact .fn h1 (fun i x y hx hy=>i2 i x y hx hy (fA hc.1 hx)) h3 (fun i x y hx hy=>i4 i x y hx hy (fA hc.2 hx))
 |agg h1 _ i2=>
  simp only[Pv.jc]at hc;exact .agg h1 (fun i x y hx hy=>i2 i x y hx hy (fA hc hx))
 |dG h1 _ i2=>
  simp only[Pv.jc]at hc;exact .dG h1 (fun i x y hx hy=>i2 i x y hx hy (fA hc hx))
 |nZ=>exact .nZ
 |dw a c c2 s z o k f e _ ih=>exact .dw a c c2 s z o k f e fun j y i d v h1 h2 h3=>ih j y i d v h1 h2 h3 (fA (hX.jc _ _) h2)
 |el a c l o e q _ ih=>exact .el a c l o e q fun i d v h1 h2=>ih i d v h1 h2 (fA (hX.jc _ _) h1)
 |gone i e o=>rename_i v _ _;cases v<;>simp[bg]at i<;>simp[Pv.jc]at hc
 |_=>simp[Pv.jc]at hc
theorem dV.jc(hX:bM X P){t:Nat}{l:List (X.Γ t)}{cs:List TV}{off sz:Nat}(hv:dV X P A m h t l cs off sz):dV X P A m' h t l cs off sz:=
 ⟨hv.1,hv.2.1,fun j a i c v h1 h2 h3=>(hv.2.2 j a i c v h1 h2 h3).jc hX (fA (hX.jc _ _) h2)⟩
theorem dV.mono(hAB:∀b,A b->B b){t:Nat}{l:List (X.Γ t)}{cs:List TV}{off sz:Nat}(hv:dV X P A m h t l cs off sz):dV X P B m h t l cs off sz:=
 ⟨hv.1,hv.2.1,fun j a i c v h1 h2 h3=>(hv.2.2 j a i c v h1 h2 h3).mono hAB⟩
theorem VR.move(hX:bM X P)(hA:∀q cs,A q->aV h q=some cs->B q∧h'[q]? = h[q]?){v:PV X.Γ}{x:TV}(hv:VR X P A m h v x)(hc:Pv.jc v=true):VR X P B m' h' v x:=by
 induction hv with
 |bool=>exact .bool _
 |lit=>exact .lit _
 |int=>exact .int _ _
 |str=>exact .str _
 |nil=>exact .nil _
 |fn h1 _ h3 _ i2 i4=>
  simp only[Pv.jc,a2m]at hc;exact .fn h1 (fun i x y hx hy=>i2 i x y hx hy (fA hc.1 hx)) h3 (fun i x y hx hy=>i4 i x y hx hy (fA hc.2 hx))
 |agg h1 _ i2=>
  simp only[Pv.jc]at hc;exact .agg h1 (fun i x y hx hy=>i2 i x y hx hy (fA hc hx))
 |dG h1 _ i2=>
  simp only[Pv.jc]at hc;exact .dG h1 (fun i x y hx hy=>i2 i x y hx hy (fA hc hx))
 |nZ=>exact .nZ
 |dw a c c2 s z o k f e _ ih=>obtain⟨a',c'⟩:=hA _ _ a c;exact .dw a' ((fM c').trans c) (fun hl=>(xR c').trans (c2 hl)) s z o k f e fun j y i d v h1 h2 h3=>ih j y i d v h1 h2 h3 (fA (hX.jc _ _) h2)
 |el a c l o e q _ ih=>obtain⟨a',c'⟩:=hA _ _ a (Ad c);exact .el a' ((xR c').trans c) l o e q fun i d v h1 h2=>ih i d v h1 h2 (fA (hX.jc _ _) h1)
 |gone i e o=>rename_i v _ _;cases v<;>simp[bg]at i<;>simp[Pv.jc]at hc
 |_=>simp[Pv.jc]at hc
theorem dV.move(hX:bM X P)(hA:∀q cs,A q->aV h q=some cs->B q∧h'[q]? = h[q]?){t:Nat}{l:List (X.Γ t)}{cs:List TV}{off sz:Nat}(hv:dV X P A m h t l cs off sz):dV X P B m' h' t l cs off sz:=
 ⟨hv.1,hv.2.1,fun j a i c v h1 h2 h3=>(hv.2.2 j a i c v h1 h2 h3).move hX hA (fA (hX.jc _ _) h2)⟩
def FA(A:Nat->Prop)(m:List MB)(is:List Nat):Nat->Prop:=fun b=>AA A m b∨∃i mb,i∈is∧m[i]? = some mb∧mb.own=some b
theorem FA.mono{is js:List Nat}(hs:∀i,i∈is->i∈js){b:Nat}(hb:FA A m is b):FA A m js b:=by
 rcases hb with h|⟨i,mb,h1,h2,h3⟩
 .exact .inl h
 exact .inr ⟨i,mb,hs i h1,h2,h3⟩
theorem O4:∀(is:List Nat) {m:List MB} {i:Nat} {mb:MB},(bU is m)[i]? = some mb->mb.own≠none->i∉is∧m[i]? = some mb
 | [],_,_,_,h,_=>⟨by simp,h⟩
 |j::is,m,i,mb,h,hn=>by
  obtain⟨h1,h2⟩:=O4 is (m:=m.set j .gone) h hn;by_cases e:j=i
  .subst e;rw[a4c]at h2;cases hx:m[j]? with
   |none=>rw[hx]at h2;cases h2
   |some y=>rw[hx]at h2;cases h2;exact absurd rfl hn
  rw[a1D e]at h2;exact⟨by simp[h1,Ne.symm e],h2⟩
theorem Af{is:List Nat}{m:List MB}{b:Nat}(hb:b∈bn (bU is m)):∃i mb,i∉is∧m[i]? = some mb∧mb.own=some b:=by
 obtain⟨mb,hm,ho⟩:=a7x.1 hb;obtain⟨i,hi⟩:=a8y hm;obtain⟨h1,h2⟩:=O4 is hi (by rw[ho];simp);exact⟨i,mb,h1,h2,ho⟩
theorem FA.gone(hr:HR X P A m H h){is:List Nat}{b:Nat}(hb:FA A m is b):AA A (bU is m) b:=by
 rcases hb with hb|⟨i,mb,h1,h2,h3⟩
 .refine⟨hb.1,fun hm=>?_⟩;obtain⟨i,mb,_,h2,h3⟩:=Af hm;exact hb.2 (bf h2 h3)
 refine⟨hr.CP b (bf h2 h3),fun hm=>?_⟩;obtain⟨j,LC,g1,g2,g3⟩:=Af hm;have:=iT hr.nodup h2 g2 h3 g3;exact g1 (this▸h1)
theorem Rz(hX:bM X P)(hr:HR X P A m H h){k ex:Bool}{t i:Nat}{l:List (X.Γ t)}{x:TV}(hl:LR X P (AA A m) m h k ex t l x)(hi:m[i]? = some (.dw x)){is:List Nat}(hs:i∈is):VR X P (FA A m is) m' h (.dw t l false) x:=by
 cases hl with
 |nil=>exact .nZ
 |emp h0 h1 h2 h3 h4=>exact .dw (.inl h0) h1 (fun e=>absurd rfl e) h3 h4 (by simpa using h2) (a15 _) (by simp) (fun j a hj=>by simp at hj) (fun j a i c v hj=>by simp at hj)
 |some h1 h2 h3 h4 h5 h6 h7 h8 h9=>
  refine .dw (cs:=_) (.inr ⟨i,_,hs,hi,?_⟩) (by unfold aV;rw[h4]) (fun _=>vZ h4 (by omega)) h2 h3 (by omega) (a15 _) (by simp) h9.1 ?_
  .simp only[MB.own];rw[a0g (by simpa using h1)]
  intro j a q c v e1 e2 e3;exact((h9.2.2 j a q c v e1 e2 e3).mono fun b hb=>.inl hb).jc hX (fA (hX.jc _ _) e2)
theorem VR.part{F:Nat->Prop}{t:Nat}{l:List (X.Γ t)}{fu:Bool}{b off len cap sz:Nat}{ex:Bool}(hv:VR X P F m h (.dw t l fu) (.slc b off len cap sz ex)){o n cap':Nat}{ex' fu':Bool}(hn:o+n<=len)(hc:n<=cap')(hw:n=0∨o+cap'=cap)(hfu:fu'=true->ex'=true∧cap'=n) :
  VR X P F m h (.dw t ((l.drop o).take n) fu') (.slc b (off+o*sz) n cap' sz ex'):=by
 cases hv with
 |dw a c c2 s z ol k f e r=>
  have hlen:((l.drop o).take n).length=n:=by rw[a3R,a3S];omega
  have:=@VR.dw X P F m h t ((l.drop o).take n) fu' b (off+o*sz) cap' sz ex' _ a c (fun iy=>by
   have h1:n≠0:=fun e=>iy (by subst e;simp);have h2:=hw.resolve_left h1;have h3:off+o*sz+cap'*sz=off+cap*sz:=by rw[<-h2,a3Q];omega
   rw[h3];exact c2 (fun e=>by subst e;simp at hlen;omega)) s z (by
   rw[hlen];have:(o+n)*sz<=l.length*sz:=a3P sz hn;rw[a3Q]at this;omega) (by rw[hlen];exact hc) (by rw[hlen];exact hfu) (fun j y hy=>by
    rw[a4d]at hy;split at hy
    .rw[a4b]at hy;exact e _ _ hy
    .cases hy) (fun j y i d v hy h2 h3=>by
    rw[a4d]at hy;split at hy
    .rw[a4b]at hy;refine r _ _ i d v hy h2 ?_;rw[<-h3];congr 1;rw[a3Q];omega
    .cases hy)
  rwa [hlen]at this
 |gone hi _ _=>simp[bg]at hi
mutual
theorem Un(hX:bM X P)(hr:HR X P A m H h):∀{v w:PV X.Γ} {x:TV},VR X P (AA A m) m h v x->view H v=some w->∀{is:List Nat},(∀i,i∈kH v->i∈is)->VR X P (FA A m is) m' h w x
 |.own i,w,x,hv,hw,is,hs=>by
  simp only[view]at hw;split at hw
  .rename_i k ex t l hH;cases hw;obtain⟨mb,h1,h2⟩:=hr.at_ i _ hH;cases mb with
   |dw y=>
    cases hv with
    |own e o=>rw[h1]at e;cases e;exact Rz hX hr h2 h1 (hs i (by simp[kH]))
    |gone hi e o=>simp only[bg,a00]at hi;subst hi;rw[h1]at e;cases e
   |_=>exact h2.elim
  cases hw
 |.win i o n,w,x,hv,hw,is,hs=>by
  simp only[view]at hw;split at hw
  .rename_i k ex t l hH;cases hw;obtain⟨mb,h1,h2⟩:=hr.at_ i _ hH;cases mb with
   |dw y=>
    have h2':LR X P (AA A m) m h k ex t l y:=h2;have hfz:VR X P (FA A m is) m' h (.dw t l false) y:=Rz hX hr h2' h1 (hs i (by simp[kH]));cases hv with
    |win e q q' q2=>
     rw[h1]at e;cases e;exact hfz.part q q' q2 (by simp)
    |Ac e=>
     rw[h1]at e;cases e;cases h2' with
     |nil=>simp only[List.drop_nil,List.take_nil];exact .nZ
    |gone hi e o=>simp only[bg,a00]at hi;subst hi;rw[h1]at e;cases e
   |_=>exact h2.elim
  cases hw
 |.fn f a c,w,x,hv,hw,is,hs=>by
  simp only[view]at hw;split at hw
  .rename_i a' c' h1 h2;cases hw;cases hv with
   |fn e1 e2 e3 e4=>
    have g1:=kX hX hr ⟨e1,e2⟩ h1 (is:=is) fun i hi=>hs i (by simp[kH,hi]);have g2:=kX hX hr ⟨e3,e4⟩ h2 (is:=is) fun i hi=>hs i (by simp[kH,hi]);exact .fn g1.1 g1.2 g2.1 g2.2
   |gone hi _ _=>simp[bg]at hi
  cases hw
 |.agg cs,w,x,hv,hw,is,hs=>by
  simp only[view,a09]at hw;obtain⟨cs',h1,rfl⟩:=hw;cases hv with
  |agg e1 e2=>have g1:=kX hX hr ⟨e1,e2⟩ h1 (is:=is) fun i hi=>hs i (by simp[kH,hi]);exact .agg g1.1 g1.2
  |gone hi _ _=>simp[bg]at hi
 |.dG cs,w,x,hv,hw,is,hs=>by
  simp only[view,a09]at hw;obtain⟨cs',h1,rfl⟩:=hw;cases hv with
  |dG e1 e2=>have g1:=kX hX hr ⟨e1,e2⟩ h1 (is:=is) fun i hi=>hs i (by simp[kH,hi]);exact .dG g1.1 g1.2
  |gone hi _ _=>simp[bg]at hi
 |.bool b,w,x,hv,hw,is,hs=>by simp only[view,a00]at hw;subst hw;exact(hv.mono fun b hb=>.inl hb).jc hX rfl
 |.lit b,w,x,hv,hw,is,hs=>by
  simp only[view,a00]at hw;subst hw;cases hv with
  |lit=>exact .bool _
  |gone hi _ _=>simp[bg]at hi
 |.int k n,w,x,hv,hw,is,hs=>by simp only[view,a00]at hw;subst hw;exact(hv.mono fun b hb=>.inl hb).jc hX rfl
 |.str b,w,x,hv,hw,is,hs=>by simp only[view,a00]at hw;subst hw;exact(hv.mono fun b hb=>.inl hb).jc hX rfl
 |.nil b,w,x,hv,hw,is,hs=>by simp only[view,a00]at hw;subst hw;exact(hv.mono fun b hb=>.inl hb).jc hX rfl
 |.dw t l f,w,x,hv,hw,is,hs=>by simp only[view,a00]at hw;subst hw;exact(hv.mono fun b hb=>.inl hb).jc hX rfl
 |.ptr _ _ _,w,x,hv,hw,is,hs=>by simp[view]at hw
 |.slc _ _ _ _ _ _,w,x,hv,hw,is,hs=>by simp[view]at hw
 |.map _,w,x,hv,hw,is,hs=>by simp[view]at hw
 |.kC _,w,x,hv,hw,is,hs=>by simp[view]at hw
 |.el _ _ _,w,x,hv,hw,is,hs=>by simp[view]at hw
 |.row _ _ _,w,x,hv,hw,is,hs=>by simp[view]at hw
theorem kX(hX:bM X P)(hr:HR X P A m H h):∀{vs ws:List (PV X.Γ)} {xs:List TV},bV X P (AA A m) m h vs xs->views H vs=some ws->∀{is:List Nat},(∀i,i∈kH.jS vs->i∈is)->bV X P (FA A m is) m' h ws xs
 | [],ws,xs,hv,hw,is,hs=>by simp only[view.views,a00]at hw;subst hw;rw[hv.inv0];exact .nil
 |v::vs,ws,xs,hv,hw,is,hs=>by
  obtain⟨x,r,rfl,h1,h2⟩:=hv.inv;simp only[view.views]at hw;split at hw
  .rename_i w TL g1 g2;cases hw;exact .cons (Un hX hr h1 g1 fun i hi=>hs i (by simp[kH.jS,hi])) (kX hX hr h2 g2 fun i hi=>hs i (by simp[kH.jS,hi]))
  cases hw
end
end
open Go Tw
section
variable {X:kE} {P:Program} {A B F:Nat->Prop} {m m':List MB} {h h':List HB} {H H':List (PB X.Γ)}
theorem a0P(hX:bM X P)(hr:HR X P A m H h){t:Nat}{cs:List (PV X.Γ)}{xs:List TV}(hv:bV X P (AA A m) m h cs xs){a:X.Γ t}{is:List Nat}(hd:a9b X H t cs=some (a,is)):bV X P (FA A m is) m' h (X.enc t a) xs:=by
 unfold a9b at hd;split at hd
 .rename_i vs h1;split at hd
  .rename_i b h2;simp only[a00,a0S]at hd;obtain⟨rfl,rfl⟩:=hd;exact hX.dec h2 (kX hX hr hv h1 fun i hi=>hi)
  cases hd
 cases hd
theorem Ag(hX:bM X P)(hr:HR X P A m H h){t sz:Nat}:∀{n:Nat} {cs:List (PV X.Γ)} {xs:List TV},bV X P (AA A m) m h cs xs->∀{l:List (X.Γ t)} {is:List Nat},xO X H t sz n cs=some (l,is)->l.length=n∧dV X P (FA A m is) m' h t l xs 0 sz
 | 0,cs,xs,hv,l,is,hd=>by
  simp only[xO,a00,a0S]at hd;obtain⟨rfl,rfl⟩:=hd;exact⟨rfl,fun j a hj=>by simp at hj,by simp,fun j a i c v hj=>by simp at hj⟩
 |n+1,cs,xs,hv,l,is,hd=>by
  simp only[xO]at hd;split at hd
  rotate_left
  .cases hd
  rename_i uN;split at hd
  rotate_left
  .cases hd
  rename_i a js l' ks h1 h2;simp only[a00,a0S]at hd;obtain⟨rfl,rfl⟩:=hd;have g1:=(a0P (m':=m') hX hr (hv.take sz) h1).mono fun b hb=>FA.mono (js:=js++ks) (fun i hi=>a5d _ hi) hb;obtain⟨e2,g2⟩:=Ag hX hr (hv.drop sz) h2;have g2:=g2.mono fun b hb=>FA.mono (js:=js++ks) (fun i hi=>abg _ hi) hb;have hl:(X.enc t a).length=sz:=by rw[g1.1,a3R,<-hv.1];omega
  refine⟨by simp[e2],fun j b hj=>?_,?_,fun j b i c v hj hi hx=>?_⟩
  .cases j with
   |zero=>simp only[a2J,a00]at hj;subst hj;exact hl
   |succ j=>exact g2.1 j b (by simpa using hj)
  .have:=g2.2.1;rw[a3S]at this;have h3:=hv.1;simp only[a3V,a3Q];omega
  cases j with
  |zero=>
   simp only[a2J,a00]at hj;subst hj;have aS:i<sz:=by rw[<-hl];exact(a04.1 hi).1
   refine g1.2 i c v hi ?_;rw[a4d,a0h aS,<-hx];simp
  |succ j=>
   refine g2.2.2 j b i c v (by simpa using hj) hi ?_;rw[a4b,<-hx];congr 1;rw[a3Q];omega
def SlR(X:kE)(P:Program)(F:Nat->Prop)(m:List MB)(h:List HB)(t sz:Nat)(l:List (X.Γ t))(x:TV):Prop:=
 (x=.nil .slc∧l=[])∨∃b off cap ex cs,x=.slc b off l.length cap sz ex∧l.length<=cap∧aV h b=some cs∧(l≠[]->lF h b (off+cap*sz)=some cs)∧dV X P F m h t l cs off sz
theorem a0Q{t sz:Nat}{l:List (X.Γ t)}{fu:Bool}{x:TV}(hv:VR X P F m h (.dw t l fu) x)(hz:dB P t=some sz):SlR X P F m h t sz l x:=by
 cases hv with
 |nZ=>exact .inl ⟨rfl,rfl⟩
 |dw a c c2 s z o k f e r=>
  rw[hz]at s;cases s;exact .inr ⟨_,_,_,_,_,rfl,k,c,c2,e,o,r⟩
 |gone hi _ _=>simp[bg]at hi
theorem a5A{k ex:Bool}{t sz:Nat}{l:List (X.Γ t)}{x:TV}(hv:LR X P F m h k ex t l x)(hz:dB P t=some sz):SlR X P F m h t sz l x:=by
 cases hv with
 |nil=>exact .inl ⟨rfl,rfl⟩
 |emp h0 h1 h2 h3 h4=>
  rw[hz]at h3;cases h3;exact .inr ⟨_,_,_,_,_,rfl,a15 _,h1,fun e=>absurd rfl e,fun j a hj=>by simp at hj,by simpa using h2,fun j a i c v hj=>by simp at hj⟩
 |some h1 h2 h3 h4 h5 h6 h7 h8 h9=>
  rw[hz]at h2;cases h2;exact .inr ⟨_,_,_,_,_,rfl,a15 _,by unfold aV;rw[h4],fun _=>vZ h4 (by omega),h9⟩
theorem dV.part{t sz:Nat}{l:List (X.Γ t)}{cs:List TV}{off o n:Nat}(hv:dV X P F m h t l cs off sz)(hn:o+n<=l.length):dV X P F m h t ((l.drop o).take n) cs (off+o*sz) sz:=by
 have hlen:((l.drop o).take n).length=n:=by rw[a3R,a3S];omega
 refine⟨fun j y hy=>?_,?_,fun j y i c v hy h2 h3=>?_⟩
 .rw[a4d]at hy;split at hy
  .rw[a4b]at hy;exact hv.1 _ _ hy
  cases hy
 .have:=hv.2.1;have h2:(o+n)*sz<=l.length*sz:=a3P sz hn;rw[hlen];rw[a3Q]at h2;omega
 rw[a4d]at hy;split at hy
 .rw[a4b]at hy;refine hv.2.2 _ y i c v hy h2 ?_;rw[<-h3];congr 1;rw[a3Q];omega
 cases hy
theorem dV.take{t sz:Nat}{l:List (X.Γ t)}{cs:List TV}{off:Nat}(hv:dV X P F m h t l cs off sz):dV X P F m h t l ((cs.drop off).take (l.length*sz)) 0 sz:=by
 refine⟨hv.1,?_,fun j a i c v h1 h2 h3=>?_⟩
 .have:=hv.2.1;rw[a3R,a3S];omega
 rw[a4d]at h3;split at h3
 .rw[a4b]at h3;exact hv.2.2 j a i c v h1 h2 (by rw[<-h3];congr 1;omega)
 cases h3
theorem SlR.src{t sz:Nat}{l:List (X.Γ t)}{x:TV}(hv:SlR X P F m h t sz l x):∃new,fE sz h x=some (l.length,new)∧new.length=l.length*sz∧dV X P F m h t l new 0 sz:=by
 rcases hv with⟨rfl,rfl⟩|⟨b,off,cap,ex,cs,rfl,hk,hc,JH,hw⟩
 .exact⟨[],rfl,by simp,fun j a hj=>by simp at hj,by simp,fun j a i c v hj=>by simp at hj⟩
 refine⟨(cs.drop off).take (l.length*sz),?_,?_,hw.take⟩
 .have:=hw.2.1;simp only[fE,a2d,sub];by_cases h0:l.length=0
  .rw[a0h h0,h0];simp
  rw[a0g h0,JH (fun e=>h0 (by rw[e];rfl))];simp only;rw[a0h this];rfl
 have:=hw.2.1;rw[a3R,a3S];omega
theorem dV.app{t sz:Nat}{l r:List (X.Γ t)}{a b:List TV}(h1:dV X P F m h t l a 0 sz)(h2:dV X P F m h t r b 0 sz)(ha:a.length=l.length*sz):dV X P F m h t (l++r) (a++b) 0 sz:=by
 refine⟨fun j y hy=>?_,?_,fun j y i c v hy hi hx=>?_⟩
 .rcases a4a j l.length with hl|hl
  .rw[a0e hl]at hy;exact h1.1 j y hy
  rw[a1c hl]at hy;exact h2.1 _ y hy
 .have:=h2.2.1;simp only[a2a,a3Q];omega
 rcases a4a j l.length with hl|hl
 .rw[a0e hl]at hy;have aS:i<sz:=by rw[<-h1.1 j y hy];exact(a04.1 hi).1
  have:(j+1)*sz<=l.length*sz:=a3P sz hl;rw[a3Q]at this;rw[a0e (by omega)]at hx;exact h1.2.2 j y i c v hy hi hx
 rw[a1c hl]at hy;have:l.length*sz<=j*sz:=a3P sz hl;rw[a1c (by omega)]at hx;refine h2.2.2 _ y i c v hy hi ?_;rw[<-hx];congr 1;rw[ha,Nat.sub_mul];omega
theorem uj{Γ:Nat->Type}{t t':Nat}{l:List (Γ t')}{r:List (Γ t)}(h:Cm t t' l=some r):∃e:t'=t,r=e▸l:=by
 unfold Cm at h;split at h
 .rename_i e;cases h;exact⟨e,rfl⟩
 cases h
theorem Uo(hX:bM X P)(hr:HR X P A m H h){e sz:Nat}{x:PV X.Γ}{tx:TV}(hv:VR X P (AA A m) m h x tx)(hz:dB P e=some sz){rows:List (X.Γ e)}{is:List Nat}(hs:A8 X H e sz x=some (rows,is)) :
  ∃new,fE sz h tx=some (rows.length,new)∧new.length=rows.length*sz∧dV X P (FA A m is) m' h e rows new 0 sz:=by
 have up:∀{l:List (X.Γ e)} {y:TV},SlR X P (AA A m) m h e sz l y->∃new,fE sz h y=some (l.length,new)∧new.length=l.length*sz∧dV X P (FA A m []) m' h e l new 0 sz:=by
  intro l y hy;obtain⟨new,h1,h2,h3⟩:=hy.src;exact⟨new,h1,h2,(h3.mono fun b hb=>.inl hb).jc hX⟩
 cases x with
 |nil k=>
  cases k<;>simp only[A8]at hs<;>try (cases hs;done)
  simp only[a00,a0S]at hs;obtain⟨rfl,rfl⟩:=hs;cases hv with
  |nil=>exact up (.inl ⟨rfl,rfl⟩)
  |gone hi _ _=>simp[bg]at hi
 |dw t l fu=>
  simp only[A8,a09,a0S]at hs;obtain⟨r,h1,rfl,rfl⟩:=hs;obtain⟨rfl,rfl⟩:=uj h1;exact up (a0Q hv hz)
 |own i=>
  simp only[A8]at hs;split at hs
  .rename_i k ex t l hH;simp only[a09,a0S]at hs;obtain⟨r,h1,rfl,rfl⟩:=hs;obtain⟨rfl,rfl⟩:=uj h1;obtain⟨mb,g1,g2⟩:=hr.at_ i _ hH;cases mb with
   |dw y=>
    cases hv with
    |own e' o=>rw[g1]at e';cases e';exact up (a5A g2 hz)
    |gone hi e' o=>simp only[bg,a00]at hi;subst hi;rw[g1]at e';cases e'
   |_=>exact g2.elim
  .cases hs
 |win i o n=>
  simp only[A8]at hs;split at hs
  .rename_i k ex t l hH;simp only[a09,a0S]at hs;obtain⟨r,h1,rfl,rfl⟩:=hs;obtain⟨rfl,rfl⟩:=uj h1;obtain⟨mb,g1,g2⟩:=hr.at_ i _ hH;cases mb with
   |dw y=>
    have hsl:=a5A g2 hz;cases hv with
    |win e' q q' q2=>
     rw[g1]at e';cases e';rcases hsl with⟨h,_⟩|⟨b,off,cap,ex',cs,he,hk,hc,JH,hw⟩
     .cases h
     .cases he;have hlen:n=((r.drop o).take n).length:=by rw[a3R,a3S];omega
      refine up (.inr ⟨_,_,_,_,cs,congrArg (fun k=>TV.slc _ _ k _ _ _) hlen,hlen▸q',hc,fun iy=>?_,hw.part q⟩);have h1:n≠0:=fun e=>iy (by subst e;simp);have h2:=q2.resolve_left h1;rw[<-JH (fun e=>iy (by rw[e];simp)),<-h2];congr 1;rw[a3Q];omega
    |Ac e'=>
     rw[g1]at e';cases e';refine up (.inl ⟨rfl,by simp⟩)
    |gone hi e' o=>simp only[bg,a00]at hi;subst hi;rw[g1]at e';cases e'
   |_=>exact g2.elim
  .cases hs
 |slc b off len cap sz' ex=>
  simp only[A8]at hs;split at hs
  .rename_i cs hH;split at hs
   .rename_i uN;obtain⟨uN,adV⟩:=uN;subst uN;obtain⟨mb,g1,g2⟩:=hr.at_ b _ hH;cases mb with
    |fV c=>
     obtain⟨cs',g3,g4⟩:=g2;cases hv with
     |slc e'=>
      rw[g1]at e';cases e';obtain⟨hl,hw⟩:=Ag (m':=m') hX hr (g4.drop off) hs;subst hl;rw[g4.1]at adV;refine⟨(cs'.drop off).take (rows.length*sz'),?_,by rw[a3R,a3S];omega,by simpa using hw.take⟩;simp only[fE,a2d,wo g3 (by simp),sub];split
      .rename_i h0;rw[h0,ad3,List.take_zero]
      .simp only[adV,a2d,a0T]
     |gone hi e' o=>simp only[bg,a00]at hi;subst hi;rw[g1]at e';cases e'
    |_=>exact g2.elim
   .cases hs
  .cases hs
 |_=>simp[A8]at hs
end
open Go Tw
def GL(m:List MB)(i b:Nat):Prop:=∃mb,m[i]? = some mb∧mb.own=some b
structure IR(m:List MB)(h:List HB)(p:PI)(t:lD):Prop where
 all:t.all=true->p.i.all=true
 tl:∀k,.l k∈t.ts->.l k∈p.i.ts
 wl:∀k,.l k∈t.ws->.l k∈p.i.ws
 wh:∀b,.h b∈t.ws->(∃i,.h i∈p.i.ws∧GL m i b)∨(p.wall=true∧b∈bn m)
 th:∀b,.h b∈t.ts->((∃i,.h i∈p.i.ts∧GL m i b)∨b∉bn m)∧b<h.length
 hp:p.hp=false->t.all=false∧(∀b,.h b∉t.ts)∧∀b,.h b∉t.ws
theorem IR.none{m:List MB}{h:List HB}{p:PI}:IR m h p cu:=⟨fun h=>(by cases h),fun _ h=>(by cases h),fun _ h=>(by cases h),fun _ h=>(by cases h),fun _ h=>(by cases h),fun _=>⟨rfl,fun _ h=>(by cases h),fun _ h=>(by cases h)⟩⟩
section
variable {X:kE} {P:Program} {A F:Nat->Prop} {m m':List MB} {h h':List HB} {H H':List (PB X.Γ)}
structure uK(X:kE)(P:Program)(A:Nat->Prop)(m:List MB)(ps:aQ X.Γ)(ts:St):Prop where
 heap:HR X P A m ps.heap ts.heap
 llen:ps.loc.length=ts.loc.length
 loc:∀(k:Nat) cs,ps.loc[k]? = some cs->∃cs',ts.loc[k]? = some cs'∧bV X P (AA A m) m ts.heap cs cs'
 env:jJ X P (AA A m) m ts.heap ps.env ts.env
theorem uK.step{ps:aQ X.Γ}{ts:St}(hR:uK X P A m ps ts){H1:List (PB X.Γ)}{h1:List HB}(hr:HR X P A m' H1 h1)(hF:Fr m ts.heap m' h1)(hU:Up m m'):uK X P A m' { ps with heap:=H1 } { ts with heap:=h1 }:=
 ⟨hr,hR.llen,fun k cs hk=>let ⟨cs',g1,g2⟩:=hR.loc k cs hk;⟨cs',g1,g2.step hF hU⟩,hR.env.step hF hU⟩
def OpR(X:kE)(P:Program)(A:Nat->Prop)(m:List MB)(call:aZ)(site:Nat->Bool)(ts:St)(o:Oper)(pe:PE X.Γ)(ps1:aQ X.Γ)(pi:PI):Prop:=
 ∃ev iH ti m1,oK P call site ts o=some (ev,iH,ti)∧iH.env=ts.env∧iH.ws=ts.ws∧uK X P A m1 ps1 iH∧Ig X P (AA A m1) m1 iH.heap pe ev∧Fr m ts.heap m1 iH.heap∧Up m m1∧IR m ts.heap pi ti∧∀b,.h b∈ti.ws->b∈bn m
theorem um{call:aZ}{site:Nat->Bool}{ps:aQ X.Γ}{ts:St}{o:Oper}{pe:PE X.Γ}{ev:EV}{pi:PI}(hR:uK X P A m ps ts)(h:oK P call site ts o=some (ev,ts,cu))(hp:Ig X P (AA A m) m ts.heap pe ev):OpR X P A m call site ts o pe ps pi:=
 ⟨ev,ts,cu,m,h,rfl,rfl,hR,hp,.refl,.refl,.none,fun b hb=>by cases hb⟩
theorem uK.Bz{ps:aQ X.Γ}{ts:St}(hR:uK X P A m ps ts){x:Operand}{b:Bool}(hb:qA ts.env x=some (.bool b)):uK X P A m (ps.Bz x b) ts:=by
 cases x with
 |tmp t=>
  refine⟨hR.heap,hR.llen,hR.loc,a9h hR.env ?_⟩;simp only[qA,Ib]at hb;split at hb
  .rename_i v hv;cases hb;exact hv
  cases hb
 |_=>exact hR
theorem RD{ps:aQ X.Γ}{ts:St}(hR:uK X P A m ps ts){site:Bool}{cs:List (PV X.Γ)}{cs':List TV}(hc:bV X P (AA A m) m ts.heap cs cs') :
  ∃m1,(qB site ts cs').2.env=ts.env∧(qB site ts cs').2.ws=ts.ws∧uK X P A m1 (DL site ps cs).2 (qB site ts cs').2∧Ig X P (AA A m1) m1 (qB site ts cs').2.heap (DL site ps cs).1 (qB site ts cs').1∧Fr m ts.heap m1 (qB site ts cs').2.heap∧Up m m1:=by
 cases site with
 |true=>
  have hp:=hR.heap.push (pb:=.cells cs) (hb:=.cells .own cs') (mb:=.fV ts.heap.length) (.inl rfl) ?_
  .refine⟨m++[.fV ts.heap.length],rfl,rfl,hR.step hp.1 hp.2.1 hp.2.2,?_,hp.2.1,hp.2.2⟩;show VR X P _ _ _ (.ptr ps.heap.length 0 cs.length) (.ptr ts.heap.length 0 cs'.length);rw[hc.1];exact .ptr (by rw[<-hR.heap.len];simp)
  .refine⟨cs',by simp,hc.step ?_ (wu _)⟩;refine⟨by simp,fun b hb _=>by rw[a0e hb],fun b hb=>?_,fun b cs hc=>⟨cs,by rw[fM (a0e (gK hc)),hc],a15 _⟩⟩;rw[iW,a3K,jT]at hb;rcases hb with hb|hb
   .exact .inl hb
   .simp[MB.own]at hb;exact .inr (by omega)
 |false=>
  refine⟨m,rfl,rfl,⟨hR.heap,by simp[DL,qB,hR.llen],fun k ds hk=>?_,hR.env⟩,?_,.refl,.refl⟩
  .simp only[DL,qB,a2c,a2Y]at hk ⊢;rcases a4a k ps.loc.length with hl|hl
   .rw[a0e hl]at hk;obtain⟨ds',g1,g2⟩:=hR.loc k ds hk;exact⟨ds',by rw[a0e (by rw[<-hR.llen];exact hl)];exact g1,g2⟩
   .rw[a1c hl]at hk;have:k-ps.loc.length=0:=by
     rcases abA (k-ps.loc.length)with e|e
     .exact e
     .rw[a3X (by simp;omega)]at hk;cases hk
    rw[this]at hk;simp only[a2J,a00]at hk;subst hk;exact⟨cs',by rw[a1c (by rw[<-hR.llen];exact hl),<-hR.llen,this];rfl,hc⟩
  .exact⟨hR.llen,rfl⟩
theorem iO{i:Nat}{mb:MB}{b:Nat}(h1:m[i]? = some mb)(h2:mb.own=some b):GL m i b:=⟨mb,h1,h2⟩
theorem Ze{i b:Nat}(h:GL m i b):b∈bn m:=let ⟨_,h1,h2⟩:=h;bf h1 h2
theorem IR.rdH{i b:Nat}(h0:GL m i b)(hl:b<h.length):IR m h ⟨wS (.h i),false,false,true⟩ (wS (.h b)):=
 ⟨fun h=>(by cases h),fun k hk=>(by simp[wS]at hk),fun k hk=>(by simp[wS]at hk),fun b hb=>(by simp[wS]at hb),fun c hc=>(by simp[wS]at hc;subst hc;exact⟨.inl ⟨i,by simp[wS],h0⟩,hl⟩),fun h=>(by cases h)⟩
theorem IR.wrH{i b:Nat}(h0:GL m i b)(hl:b<h.length):IR m h ⟨oJ (.h i),false,false,true⟩ (oJ (.h b)):=
 ⟨fun h=>(by cases h),fun k hk=>(by simp[oJ]at hk),fun k hk=>(by simp[oJ]at hk),fun c hc=>(by simp[oJ]at hc;subst hc;exact .inl ⟨i,by simp[oJ],h0⟩),fun c hc=>(by simp[oJ]at hc;subst hc;exact⟨.inl ⟨i,by simp[oJ],h0⟩,hl⟩),fun h=>(by cases h)⟩
theorem IR.loc{k:Nat}:IR m h ⟨wS (.l k),false,false,false⟩ (wS (.l k)):=
 ⟨fun h=>(by cases h),fun j hj=>by simpa[wS]using hj,fun k hk=>(by simp[wS]at hk),fun b hb=>(by simp[wS]at hb),fun c hc=>(by simp[wS]at hc),fun _=>⟨rfl,fun b hb=>(by simp[wS]at hb),fun b hb=>(by simp[wS]at hb)⟩⟩
theorem IR.anu{k:Nat}:IR m h ⟨oJ (.l k),false,false,false⟩ (oJ (.l k)):=
 ⟨fun h=>(by cases h),fun j hj=>by simpa[oJ]using hj,fun j hj=>by simpa[oJ]using hj,fun c hc=>(by simp[oJ]at hc),fun c hc=>(by simp[oJ]at hc),fun _=>⟨rfl,fun b hb=>(by simp[oJ]at hb),fun b hb=>(by simp[oJ]at hb)⟩⟩
theorem WC{t:TypeId}{cs:List TV}{o sz off n:Nat}{x:TV}(ho:o+sz<=cs.length)(hp:tX P t ((cs.drop o).take sz) off=some x)(hn:dB P t=some n):tX P t cs (o+off)=some x∧off+n<=sz∧o+off+n<=cs.length:=by
 unfold tX at hp ⊢;split at hp
 .rename_i k ha hk;rw[hn]at hk;cases hk;simp only[a09]at hp;obtain⟨r,h1,rfl⟩:=hp;unfold sub at h1;split at h1
  .rename_i hl;rw[a3R,a3S]at hl;refine⟨?_,by omega,by omega⟩;cases h1;simp only[ha,hn,sub];rw[a0h (by omega)];simp only[a0T,a00,TV.agg.injEq];rw[agO,ags,agr,a8s (by omega)]
  cases h1
 .rename_i k ha hk;rw[hn]at hk;cases hk;split at hp
  .rename_i h1;subst h1;rw[a4d]at hp;split at hp
   .rename_i h2;rw[a4b]at hp;have:=(a04.1 hp).1;refine⟨by simp only[ha,hn,a2d];exact hp,by omega,by omega⟩
   cases hp
  cases hp
 cases hp
theorem RF{t:TypeId}{cs:List TV}{off:Nat}{x:TV}(hp:tX P t cs off=some x):∃n,dB P t=some n:=by
 unfold tX at hp;split at hp
 .rename_i n _ hn;exact⟨n,hn⟩
 .rename_i n _ hn;exact⟨n,hn⟩
 cases hp
theorem dV.row{t sz:Nat}{l:List (X.Γ t)}{cs:List TV}{off j:Nat}{a:X.Γ t}(hw:dV X P F m h t l cs off sz)(hj:l[j]? = some a):bV X P F m h (X.enc t a) ((cs.drop (off+j*sz)).take sz)∧off+j*sz+sz<=cs.length:=by
 have hlen:=hw.1 j a hj;have aS:j<l.length:=(a04.1 hj).1;have h2:(j+1)*sz<=l.length*sz:=a3P sz aS;have h3:=hw.2.1;rw[a3Q]at h2;refine⟨⟨by rw[hlen,a3R,a3S];omega,fun i c v hc hv=>?_⟩,by omega⟩;rw[a4d]at hv;split at hv
 .rw[a4b]at hv;exact hw.2.2 j a i c v hj hc hv
 cases hv
theorem Ah{t:Nat}{l:List (X.Γ t)}{j:Nat}(hj:j<l.length):l[j]? = some (l.getD j (X.d0 t)):=by
 rw[a2X,a0a hj];rfl
theorem G6(hX:bM X P){ps:aQ X.Γ}{ts:St}(hR:uK X P A m ps ts){t:TypeId}{pa:PE X.Γ}{ea:EV}(ha:Ig X P (AA A m) m ts.heap pa ea){v:PV X.Γ}{pi:lD}(hl:Aa X P t ps pa=some (v,pi)) :
  ∃x ti,loadT P t ts ea=some (x,ti)∧VR X P (AA A m) m ts.heap v x∧IR m ts.heap ⟨pi,false,false,!Ug pa⟩ ti∧ti.ws=[]:=by
 cases pa with
 |loc k off=>
  rw[DR ha];simp only[Aa]at hl;split at hl
  .rename_i cs hk;simp only[a09,a0S]at hl;obtain⟨w,h1,rfl,rfl⟩:=hl;obtain⟨cs',g1,g2⟩:=hR.loc k cs hk;obtain⟨x,g3,g4⟩:=Ae g2 h1;exact⟨x,wS (.l k),by simp only[loadT,g1,g3,a0T],g4,.loc,rfl⟩
  .cases hl
 |undef|ent|Eh=>simp[Aa]at hl
 |val a=>
  obtain⟨y,rfl,hy⟩:=fO ha;cases a with
  |ptr b off lim=>
   simp only[Aa]at hl;split at hl
   .rename_i cs n hb hn;split at hl
    .rename_i KD;simp only[a09,a0S]at hl;obtain⟨w,h1,rfl,rfl⟩:=hl;obtain⟨mb,g1,g2⟩:=hR.heap.at_ b _ hb;cases mb with
     |fV c=>
      obtain⟨cs',g3,g4⟩:=g2;cases hy with
      |ptr e=>
       rw[g1]at e;cases e;obtain⟨x,g5,g6⟩:=Ae g4 h1;refine⟨x,wS (.h c),?_,g6,.rdH (iO g1 rfl) (a04.1 g3).1,rfl⟩;simp only[loadT,wo g3 (show BK.own≠.last by simp),hn,KD,a2d,g5,a0T]
      |gone hi e _=>simp only[bg,a00]at hi;subst hi;rw[g1]at e;cases e
     |_=>exact g2.elim
    .cases hl
   .rename_i cs n hb hn;split at hl
    .rename_i KD;simp only[a09,a0S]at hl;obtain⟨w,h1,rfl,rfl⟩:=hl;obtain⟨mb,g1,g2⟩:=hR.heap.at_ b _ hb;cases mb with
     |jf c=>
      obtain⟨g0,cs',g3,g4⟩:=g2;cases hy with
      |ptr e=>rw[g1]at e;cases e
      |gone hi e _=>
       simp only[bg,a00]at hi;subst hi;rw[g1]at e;cases e with
       |r _ e=>
        simp only[roV,a00]at e;subst e;obtain⟨x,g5,g6⟩:=Ae g4 h1;refine⟨x,wS (.h c),?_,g6,⟨fun h=>(by cases h),fun k hk=>(by simp[wS]at hk),fun k hk=>(by simp[wS]at hk),fun b hb=>(by simp[wS]at hb),fun d hd=>?_,fun h=>(by cases h)⟩,rfl⟩
        .simp only[loadT,wo g3 (show BK.own≠.last by simp),hn,KD,a2d,g5,a0T]
        .simp[wS]at hd;subst hd;exact⟨.inr g0,(a04.1 g3).1⟩
     |_=>exact g2.elim
    .cases hl
   .cases hl
  |row b j off=>
   simp only[Aa]at hl;split at hl
   .rename_i k ex e l hb;simp only[a09,a0S]at hl;obtain⟨w,h1,rfl,rfl⟩:=hl;obtain⟨mb,g1,g2⟩:=hR.heap.at_ b _ hb;cases mb with
    |dw z=>
     cases hy with
     |row e' hj hq=>
      rw[g1]at e';cases e';cases(g2:LR X P _ _ _ _ _ _ _ _)with
      |emp=>omega
      |some q1 q2 q3 q4 q5 q6 q7 q8 q9=>
       have yx:=q9.row (Ah hj);obtain⟨x,g5,g6⟩:=Ae yx.1 h1;obtain⟨n,hn⟩:=RF g5;obtain⟨g7,g8,_⟩:=WC yx.2 g5 hn;rw[a3U]at g7;refine⟨x,wS (.h _),?_,g6,.rdH (iO g1 (by simp only[MB.own];rw[a0g (by simpa using q1)])) (a04.1 q4).1,rfl⟩;have rO:=yx.2;simp only[loadT,vZ q4 q8.symm,hn];rw[a0h (by omega),g7];rfl
     |gone hi e' _=>simp only[bg,a00]at hi;subst hi;rw[g1]at e';cases e'
    |_=>exact g2.elim
   .cases hl
  |el e a off=>
   simp only[Aa,a09,a0S]at hl;obtain⟨w,h1,rfl,rfl⟩:=hl;cases hy with
   |el q1 q2 q2' q3 q4 q5 q6=>
    rename_i b o sz lim cs;have yx:bV X P (AA A m) m ts.heap (X.enc e a) ((cs.drop o).take sz):=by
     refine⟨by rw[q4,a3R,a3S];omega,fun i c v hc hv=>?_⟩;rw[a4d]at hv;split at hv
     .rw[a4b]at hv;exact q6 i c v hc hv
     .cases hv
    obtain⟨x,g5,g6⟩:=Ae yx h1;obtain⟨n,hn⟩:=RF g5;obtain⟨g7,g8,_⟩:=WC q3 g5 hn;refine⟨x,wS (.h b),?_,g6,⟨fun h=>(by cases h),fun k hk=>(by simp[wS]at hk),fun k hk=>(by simp[wS]at hk),fun b hb=>(by simp[wS]at hb),fun c hc=>?_,fun h=>(by cases h)⟩,rfl⟩
    .simp only[loadT,q2,hn];rw[a0h (by omega),g7];rfl
    .simp[wS]at hc;subst hc;exact⟨.inr q1.2,a2C q2⟩
   |gone hi e' _=>simp[bg]at hi
  |_=>simp[Aa]at hl
end
open Go Tw
section
variable {X:kE} {P:Program} {A F:Nat->Prop} {m m':List MB} {h h':List HB} {H H':List (PB X.Γ)}
theorem O5{cs new:List TV}{o sz off:Nat}{r:List TV}(ho:o+sz<=cs.length)(hr:vM ((cs.drop o).take sz) off new=some r):vM cs (o+off) new=some (cs.take o++r++cs.drop (o+sz))∧r.length=sz:=by
 unfold vM at hr ⊢;split at hr
 rotate_left
 .cases hr
 rename_i hl;have qy:=hl;rw[a3R,a3S]at hl;cases hr;refine⟨?_,?_⟩
 .rw[a0h (by omega)];simp only[a00];apply a9q;intro i;simp only[List.getElem?_append,a2a,a3R,a3S,a4d,a4b];rcases a4a i o with h1|h1
  .simp (disch:=omega) only [a8s,a0h]
  rcases a4a i (o+off)with h2|h2
  .rw[a0h (by omega),a0h (by omega),a0h (by omega),a0h (by omega),a0g (by omega),a0h (by omega),a0h (by omega),a0h (by omega),a0h (by omega)];congr 1;omega
  rcases a4a i (o+off+new.length)with h3|h3
  .rw[a0h (by omega),a0g (by omega),a0h (by omega),a0g (by omega),a0h (by omega),a0g (by omega)];congr 1;omega
  rcases a4a i (o+sz)with h4|h4
  .rw[a0g (by omega),a0h (by omega),a0g (by omega),a0g (by omega),a0h (by omega)];congr 1;omega
  rw[a0g (by omega),a0g (by omega)];congr 1;omega
 simp only[a2a,a3R,a3S];omega
theorem dV.set{t sz j:Nat}{l:List (X.Γ t)}{cs r:List TV}{a:X.Γ t}(hw:dV X P F m h t l cs 0 sz)(hr:bV X P F m h (X.enc t a) r)(hl:r.length=sz)(hj:j<l.length) :
  dV X P F m h t (l.set j a) (cs.take (j*sz)++r++cs.drop (j*sz+sz)) 0 sz:=by
 have h2:(j+1)*sz<=l.length*sz:=a3P sz hj;rw[a3Q]at h2;have h3:=hw.2.1;refine⟨fun k y hy=>?_,?_,fun k y i c v hy hi hx=>?_⟩
 .rw[a9p]at hy;split at hy
  .cases hy;rw[hr.1,hl]
  .exact hw.1 k y hy
 .simp only[a2a,a3R,a3S,a4q];omega
 .rw[a9p]at hy;split at hy
  .rename_i e;subst e;cases hy;have aS:i<sz:=by rw[<-hl,<-hr.1];exact(a04.1 hi).1
   refine hr.2 i c v hi ?_;rw[a0e (by simp only[a2a,a3R];omega),a1c (by rw[a3R];omega),a3R]at hx;rw[<-hx];congr 1;omega
  .rename_i e;have hlen:=hw.1 k y hy;have aS:i<sz:=by rw[<-hlen];exact(a04.1 hi).1
   have hk:k<l.length:=(a04.1 hy).1;refine hw.2.2 k y i c v hy hi ?_;rw[<-hx];rcases a4a k j with h4|h4
   .have:(k+1)*sz<=j*sz:=a3P sz h4;rw[a3Q]at this;rw[a0e (by simp only[a2a,a3R];omega),a0e (by rw[a3R];omega),a4d,a0h (by omega)]
   .have h5:j+1<=k:=(by omega);have:(j+1)*sz<=k*sz:=a3P sz h5;rw[a3Q]at this;rw[a1c (by simp only[a2a,a3R];omega),a4b];congr 1;simp only[a2a,a3R];omega
theorem JQ{b:Nat}{pb:PB X.Γ}:∀{is:List Nat} {H:List (PB X.Γ)},is.contains b=false->aY is (H.set b pb)=(aY is H).set b pb
 | [],_,_=>rfl
 |i::is,H,hn=>by
  simp only[agS,a9j,agL,ne_eq]at hn;simp only[aY,Wu];rw[List.set_comm _ _ hn.1,JQ hn.2]
theorem yI(hX:bM X P){ps ps1:aQ X.Γ}{ts:St}(hR:uK X P A m ps ts){t:TypeId}{pa:PE X.Γ}{ea:EV}(ha:Ig X P (AA A m) m ts.heap pa ea){v:PV X.Γ}{x:TV}(hv:VR X P (AA A m) m ts.heap v x){pi:lD}(hl:Ub X P t ps pa v=some (ps1,pi)) :
  ∃iH ti m1,storeT P t ts ea x=some (iH,ti)∧iH.env=ts.env∧iH.ws=ts.ws∧uK X P A m1 ps1 iH∧Fr m ts.heap m1 iH.heap∧Up m m1∧IR m ts.heap ⟨pi,false,false,!Ug pa⟩ ti∧∀b,.h b∈ti.ws->b∈bn m:=by
 have hc:=Gz hv;unfold Ub at hl;split at hl
 .rename_i n hn;split at hl
  .rename_i Nj;have a9i:x.cells.length=n∧x.cells.all iQ=true:=⟨by rw[<-hc.1];exact Nj.1,by rw[DN hc];exact Nj.2⟩;cases pa with
   |loc k off=>
    rw[DR ha];simp only at hl;split at hl
    .rename_i cs hk;simp only[a09,a0S]at hl;obtain⟨RG,h1,rfl,rfl⟩:=hl;obtain⟨cs',g1,g2⟩:=hR.loc k cs hk;obtain⟨IK,g3,g4⟩:=GH g2 hc h1;refine⟨{ ts with loc:=ts.loc.set k IK },oJ (.l k),m,?_,rfl,rfl,⟨hR.heap,by simp[hR.llen],fun j ds hj=>?_,hR.env⟩,.refl,.refl,.anu,fun b hb=>by simp[oJ]at hb⟩
     .simp only[storeT,hn,a9i,adf,a2d,g1,g3,a0T]
     .by_cases e:k=j
      .subst e;rw[a4c]at hj;rw[hk]at hj;cases hj;exact⟨IK,by rw[a4c,g1];rfl,g4⟩
      .rw[a1D e]at hj;obtain⟨ds',q1,q2⟩:=hR.loc j ds hj;exact⟨ds',by rw[a1D e];exact q1,q2⟩
    .cases hl
   |undef|ent|Eh=>simp at hl
   |val a=>
    obtain⟨y,rfl,hy⟩:=fO ha;cases a with
    |ptr b off lim=>
     simp only at hl;split at hl
     .rename_i KD;split at hl
      .rename_i cs hb;simp only[a09,a0S]at hl;obtain⟨RG,h1,rfl,rfl⟩:=hl;obtain⟨mb,g1,g2⟩:=hR.heap.at_ b _ hb;cases mb with
       |fV c=>
        obtain⟨cs',g3,g4⟩:=g2;cases hy with
        |ptr e=>
         rw[g1]at e;cases e;obtain⟨IK,g5,g6⟩:=GH g4 hc h1;have hlen:IK.length=cs'.length:=by
          unfold vM at g5;split at g5
          .cases g5;simp only[a2a,a3R,a3S];omega
          .cases g5
         have aS:=(a04.1 g3).1;obtain⟨hr1,hF⟩:=hR.heap.set (pb:=.cells RG) (hb:=.cells .own IK) g1 (c:=c) rfl (fun WE WG=>⟨IK,by simp[aV,aS],by
          simp only[aV,g3,a00]at WG;subst WG;omega⟩) fun hF=>⟨IK,by simp[aS],g6.step hF .refl⟩
         refine⟨{ ts with heap:=ts.heap.set c (.cells .own IK) },oJ (.h c),m,?_,rfl,rfl,hR.step hr1 hF .refl,hF,.refl,.wrH (iO g1 rfl) aS,fun b hb=>?_⟩
         .simp only[storeT,hn,a9i,adf,a2d,KD,Wy g3,g5,a0T]
         .simp[oJ]at hb;subst hb;exact bf g1 rfl
        |gone hi e _=>simp only[bg,a00]at hi;subst hi;rw[g1]at e;cases e
       |_=>exact g2.elim
      .cases hl
     .cases hl
    |row b j off=>
     simp only at hl;split at hl
     .rename_i k0 ex e l hb;split at hl
      .rename_i RG h1;split at hl
       .rename_i a is hd;split at hl
        .cases hl
        .rename_i hnb;simp only[a00,a0S]at hl;obtain⟨rfl,rfl⟩:=hl;obtain⟨mb,g1,g2⟩:=hR.heap.at_ b _ hb;cases mb with
         |dw z=>
          cases hy with
          |row e' hj hq=>
           rw[g1]at e';cases e';cases(g2:LR X P _ _ _ _ _ _ _ _)with
           |emp=>omega
           |some q1 q2 q3 q4 q5 q6 q7 q8 q9=>
            rename_i c sz xx kk cs;obtain⟨Ba,xH,hkr,hko⟩:=II q5;have vg:(MB.dw (TV.slc c 0 l.length l.length sz xx)).own=some c:=by simp only[MB.own];rw[a0g (by simpa using q1)]
            have yx:=q9.row (Ah hj);simp only[a3U]at yx;obtain⟨r,g3,g4⟩:=GH yx.1 hc h1;obtain⟨g5,g6⟩:=O5 yx.2 g3;have anv:=a0P (m':=bU is m) hX hR.heap g4 hd;have hgo:=hR.heap.aY is;have Qi:=iq (h:=ts.heap) is m;have ahQ:is.contains b=false:=(by simpa using hnb);have hm1:(bU is m)[b]? = some (.dw (.slc c 0 l.length l.length sz xx)):=by rw[Gx is g1,ahQ];rfl
            have aS:=(a04.1 q4).1;have TM:(cs.take (j*sz)++r++cs.drop (j*sz+sz)).length=cs.length:=by
             simp only[a2a,a3R,a3S];omega
            obtain⟨hr1,hF⟩:=hgo.set (pb:=.list k0 ex e (l.set j a)) (hb:=.cells Ba (cs.take (j*sz)++r++cs.drop (j*sz+sz))) hm1 vg (fun WE WG=>⟨cs.take (j*sz)++r++cs.drop (j*sz+sz),by simp[aV,aS],by
             simp only[aV,q4,a00]at WG;subst WG;omega⟩) fun hF=>by
              have hw:=(q9.step Qi.1 Qi.2).set (anv.mono fun b hb=>hb.gone hR.heap) g6 hj;have:=LR.some (X:=X) (P:=P) (A:=AA A (bU is m)) (m:=bU is m) (h:=ts.heap.set c (.cells Ba (cs.take (j*sz)++r++cs.drop (j*sz+sz)))) (k:=k0) (ex:=ex) (t:=e) (l:=l.set j a) (b:=c) (sz:=sz) (e:=xx) (kk:=Ba) (cs:=cs.take (j*sz)++r++cs.drop (j*sz+sz))
               (by intro e0;apply q1;have:=congrArg List.length e0;rw[a4q]at this;exact a6Y.1 this) q2 q3 (by simp[aS]) hkr (fun e0=>hko (q6 e0)) q7 (by rw[TM,a4q];exact q8) (hw.step hF .refl)
              rw[a4q]at this;exact this
            rw[<-JQ ahQ]at hr1;have W9:=Qi.1.trans hF;refine⟨{ ts with heap:=ts.heap.set c (.cells Ba (cs.take (j*sz)++r++cs.drop (j*sz+sz))) },oJ (.h c),bU is m,?_,rfl,rfl,hR.step hr1 W9 Qi.2,W9,Qi.2,.wrH (iO g1 vg) aS,fun b hb=>?_⟩
            .have h9:j*sz+off+n<=l.length*sz:=by
              have h8:=yx.2;unfold vM at g3;split at g3
              .rename_i h0;rw[a3R,a3S,a9i.1]at h0;omega
              .cases g3
             simp only[storeT,hn,a9i,adf,a2d,h9,a0K q4 xH q8.symm,g5,a0T]
            .simp[oJ]at hb;subst hb;exact bf g1 vg
          |gone hi e' _=>simp only[bg,a00]at hi;subst hi;rw[g1]at e';cases e'
         |_=>exact g2.elim
       .cases hl
      .cases hl
     .cases hl
    |_=>simp at hl
  .cases hl
 .cases hl
end
open Go Tw
section
variable {X:kE} {P:Program} {A F:Nat->Prop} {m m':List MB} {h h':List HB} {H H':List (PB X.Γ)}
theorem nI{v:PV X.Γ}{x:TV}(hv:VR X P A m h v x):Ig X P A m h (.val v) (.val x):=hv
theorem N9{ps:aQ X.Γ}{ts:St}(hR:uK X P A m ps ts){o:Nat}{pa pb:PE X.Γ}{ea:EV}(ha:Ig X P (AA A m) m ts.heap pa ea)(hl:Gv X ps o pa=some pb):∃eb,Q7 o ea=some eb∧Ig X P (AA A m) m ts.heap pb eb:=by
 cases pa with
 |loc k off=>
  rw[DR ha];simp only[Gv,a00]at hl;subst hl;exact⟨.loc k (off+o),rfl,rfl,rfl⟩
 |undef|ent|Eh=>simp[Gv]at hl
 |val a=>
  obtain⟨y,rfl,hy⟩:=fO ha;cases a with
  |ptr b off lim=>
   simp only[Gv]at hl;split at hl
   .rename_i cs hb;split at hl
    .rename_i hle;cases hl;obtain⟨mb,g1,g2⟩:=hR.heap.at_ b _ hb;cases mb with
     |fV c=>
      cases hy with
      |ptr e=>exact⟨.val (.ptr _ (off+o) lim),by simp only[Q7,hle,a2d],VR.ptr e⟩
      |gone hi e q=>simp only[bg,a00]at hi;subst hi;rw[g1]at e;cases e
     |_=>exact g2.elim
    cases hl
   .rename_i cs hb;split at hl
    .rename_i hle;cases hl;obtain⟨mb,g1,g2⟩:=hR.heap.at_ b _ hb;cases mb with
     |jf c=>
      cases hy with
      |ptr e=>rw[g1]at e;cases e
      |gone hi e q=>
       simp only[bg,a00]at hi;subst hi;rw[g1]at e;cases e with
       |r _ e=>simp only[roV,a00]at e;subst e;exact⟨.val (.ptr _ (off+o) lim),by simp only[Q7,hle,a2d],VR.gone rfl (.ofR g1 rfl) rfl⟩
     |_=>exact g2.elim
    cases hl
   cases hl
  |el t a off=>
   simp only[Gv]at hl;split at hl
   .rename_i hle;cases hl;cases hy with
    |el q1 q2 q2' q3 q4 q5 q6=>
     rename_i b o0 sz lim cs;rw[q4]at hle;refine⟨.val (.ptr b (o0+off+o) lim),by simp only[Q7];rw[a0h (by omega)],?_⟩;rw[aa0];exact VR.el q1 q2 q2' q3 q4 hle q6
    |gone hi _ _=>simp[bg]at hi
   cases hl
  |row b j off=>
   simp only[Gv,ahD]at hl;split at hl
   rotate_left
   .cases hl
   rename_i n hn;split at hn
   rotate_left
   .cases hn
   rename_i k ex e l hb;cases hn;split at hl
   .rename_i hle;cases hl;obtain⟨mb,g1,g2⟩:=hR.heap.at_ b _ hb;cases mb with
    |dw z=>
     cases hy with
     |row e' hj hq=>
      rw[g1]at e';cases e';cases(g2:LR X P _ _ _ _ _ _ _ _)with
      |emp=>omega
      |some q1 q2 q3 q4 q5 q6 q7 q8 q9=>
       rw[q9.1 j _ (Ah hj)]at hle;have yx:=(q9.row (Ah hj)).2;refine⟨.val (.ptr _ (j*_+off+o) (l.length*_)),by simp only[Q7];rw[a0h (by omega)],?_⟩;rw[aa0];exact VR.row g1 hj hle
     |gone hi e' _=>simp only[bg,a00]at hi;subst hi;rw[g1]at e';cases e'
    |_=>exact g2.elim
   cases hl
  |_=>simp[Gv]at hl
theorem a9k{ps:aQ X.Γ}{ts:St}(hR:uK X P A m ps ts){b:Nat}{k ex:Bool}{e:Nat}{l:List (X.Γ e)}(hb:ps.heap[b]? = some (.list k ex e l)){y:TV}(hy:VR X P (AA A m) m ts.heap (.own b) y)(hl:l≠[]) :
  ∃c sz x,y=.slc c 0 l.length l.length sz x∧m[b]? = some (.dw y)∧dB P e=some sz∧0<sz:=by
 obtain⟨mb,g1,g2⟩:=hR.heap.at_ b _ hb;cases mb with
 |dw z=>
  cases hy with
  |own e' o=>
   rw[g1]at e';cases e';cases(g2:LR X P _ _ _ _ _ _ _ _)with
   |nil=>exact absurd rfl hl
   |emp=>exact absurd rfl hl
   |some q1 q2 q3=>exact⟨_,_,_,rfl,g1,q2,q3⟩
  |gone hi e' _=>simp only[bg,a00]at hi;subst hi;rw[g1]at e';cases e'
 |_=>exact g2.elim
theorem zS{ps:aQ X.Γ}{ts:St}(hR:uK X P A m ps ts){t:TypeId}{px pb:PE X.Γ}{ex:EV}(hx:Ig X P (AA A m) m ts.heap px ex){i:PV X.Γ}{ti:TV}(hi:VR X P (AA A m) m ts.heap i ti){qs:List Prop}(hl:Fq X P t ps px i=some (pb,qs))(hq:∀q∈qs,q) :
  ∃eb,lG P t ex ti=some eb∧Ig X P (AA A m) m ts.heap pb eb:=by
 have U2:∀{k:IntKind} {iv:Int} {n:Nat},gQ iv n->idx n (.int k iv)=some iv.toNat∧iv.toNat<n:=by
  intro k iv n hn;unfold gQ at hn;refine⟨by simp only[idx];rw[a0h hn],by omega⟩
 have hpi:∀{n j:Nat},a2y X n i=some j->idx n ti=some j:=by
  intro n j hj;cases i<;>simp only[a2y]at hj<;>try (cases hj;done)
  cases hi with
  |int=>exact hj
  |gone e _ _=>simp[bg]at e
 unfold Fq at hl;split at hl
 .rename_i e hu;split at hl
  .rename_i n t' l fu k iv hn;split at hl
   .rename_i ht;subst ht;simp only[a00,a0S]at hl;obtain⟨rfl,rfl⟩:=hl;have hr:=U2 (k:=k) (hq _ a3N);have:ti=.int k iv:=by
     cases hi with
     |int=>rfl
     |gone e _ _=>simp[bg]at e
    subst this;obtain⟨y,rfl,hy⟩:=fO hx;rcases a0Q hy hn with⟨rfl,rfl⟩|⟨b,off,cap,ex',cs,rfl,hk,hc,JH,hw⟩
    .have:=hr.2;simp at this
    .have yx:=hw.row (Ah hr.2);have hA:AA A m b:=by
      cases hy with
      |dw a=>exact a
      |gone e _ _=>simp[bg]at e
     have Nj:=JH (by intro e0;rw[e0]at hr;have:=hr.2;simp at this);have hle:off+iv.toNat*n+n<=off+cap*n:=by
      have h1:(iv.toNat+1)*n<=cap*n:=a3P n (by have:=hr.2;omega);rw[a3Q,adv]at h1;omega
     refine⟨.val (.ptr b (off+iv.toNat*n) (off+cap*n)),?_,?_⟩
     .simp only[lG,hu,hn,a2d,hr.1,a0T]
     .have:=VR.el (X:=X) (P:=P) (A:=AA A m) (m:=m) (h:=ts.heap) (t:=t') (a:=l.getD iv.toNat (X.d0 t')) (off:=0) (o:=off+iv.toNat*n) hA Nj hle yx.2 (hw.1 _ _ (Ah hr.2)) (a4v _) (fun i c v h1 h2=>hw.2.2 _ _ i c v (Ah hr.2) h1 h2);exact nI (by simpa using this)
   .cases hl
  .rename_i n b k iv hn;split at hl
   .rename_i w ex' t' l hb;split at hl
    .rename_i ht;subst ht;simp only[a00,a0S]at hl;obtain⟨rfl,rfl⟩:=hl;have hr:=U2 (k:=k) (hq _ a3N);have:ti=.int k iv:=by
      cases hi with
      |int=>rfl
      |gone e _ _=>simp[bg]at e
     subst this;obtain⟨y,rfl,hy⟩:=fO hx;obtain⟨c,sz,x',rfl,g1,g2,g3⟩:=a9k hR hb hy (by intro e0;rw[e0]at hr;have:=hr.2;simp at this);rw[hn]at g2;cases g2;refine⟨.val (.ptr c (iv.toNat*n) (l.length*n)),?_,?_⟩
     .simp only[lG,hu,hn,a2d,hr.1,a0T,a3U]
     .have:=VR.row (X:=X) (P:=P) (A:=AA A m) (m:=m) (h:=ts.heap) (off:=0) g1 hr.2 (a4v n);exact nI (by simpa using this)
    .cases hl
   .cases hl
  .rename_i n b o q k iv hn;split at hl
   .rename_i w ex' t' l hb;split at hl
    .rename_i ht;subst ht;simp only[a00,a0S]at hl;obtain⟨rfl,rfl⟩:=hl;have hr:=U2 (k:=k) (hq _ a3N);have:ti=.int k iv:=by
      cases hi with
      |int=>rfl
      |gone e _ _=>simp[bg]at e
     subst this;obtain⟨y,rfl,hy⟩:=fO hx;obtain⟨mb,g1,g2⟩:=hR.heap.at_ b _ hb;cases mb with
     |dw z=>
      cases hy with
      |win e' w1 w2 w3=>
       rw[g1]at e';cases e';cases(g2:LR X P _ _ _ _ _ _ _ _)with
       |emp=>have:=hr.2;omega
       |some q1 q2 q3=>
        rw[hn]at q2;cases q2;have hp:=nI (VR.row (X:=X) (P:=P) (A:=AA A m) (m:=m) (h:=ts.heap) (j:=o+iv.toNat) (off:=0) g1 (by have:=hr.2;omega) (a4v n));refine⟨_,?_,hp⟩;have h3:=w3.resolve_left (by have:=hr.2;omega);simp only[lG,hu,hn,a2d,hr.1,a0T,a3U,a3Q,adz,<-h3]
      |Ac e'=>have:=hr.2;omega
      |gone hi e' _=>simp only[bg,a00]at hi;subst hi;rw[g1]at e';cases e'
     |_=>exact g2.elim
    .cases hl
   .cases hl
  .rename_i n b off len cap sz ex' hn;split at hl
   .rename_i cs hb;split at hl
    .rename_i uN;subst uN;simp only[a09,a0S]at hl;obtain⟨j,h1,rfl,rfl⟩:=hl;obtain⟨y,rfl,hy⟩:=fO hx;obtain⟨mb,g1,g2⟩:=hR.heap.at_ b _ hb;cases mb with
     |fV c=>
      cases hy with
      |slc e=>
       have:=hpi h1;rw[g1]at e;cases e;exact⟨.val (.ptr c (off+j*n) (off+cap*n)),by simp only[lG,hu,hn,a2d,this,a0T],VR.ptr g1⟩
      |gone wV e' _=>simp only[bg,a00]at wV;subst wV;rw[g1]at e';cases e'
     |_=>exact g2.elim
    .cases hl
   .cases hl
  .cases hl
 .rename_i len e hu;split at hl
  .rename_i n hn;split at hl
   .rename_i j hj;simp only[a09,a0S]at hl;obtain⟨pa,h1,rfl,rfl⟩:=hl;obtain⟨eb,g1,g2⟩:=N9 hR hx h1;exact⟨eb,by simp only[lG,hu,hn,hpi hj,g1],g2⟩
   .cases hl
  .cases hl
 .cases hl
end
open Go Tw
section
variable {X:kE} {P:Program} {A F:Nat->Prop} {m m':List MB} {h h':List HB} {H H':List (PB X.Γ)}
theorem Yx(hr:HR X P A m H h){at_:Array TypeId}{x:PV X.Γ}{tx:TV}(hx:VR X P (AA A m) m h x tx){v:PV X.Γ}{pi:lD}(hl:adN X P at_ H x=some (v,pi)) :
  ∃w ti,Yl P at_ h tx=some (w,ti)∧VR X P (AA A m) m h v w∧IR m h ⟨pi,false,false,true⟩ ti∧ti.ws=[]:=by
 unfold adN at hl;split at hl
 .rename_i t ht;unfold Yl;simp only[ht];split at hl
  .rename_i s hu;cases hl;cases hx with
   |str=>exact⟨_,_,by first|(simp only[hu];done)|(simp only[hu];rfl),.int _ _,.none,rfl⟩
   |gone hi _ _=>simp[bg]at hi
  .rename_i n e _ hu;cases hl;exact⟨_,_,by first|(simp only[hu];done)|(simp only[hu];rfl),.int _ _,.none,rfl⟩
  .rename_i e b off len cap sz ex hu;split at hl
   .rename_i cs hb;cases hl;obtain⟨mb,g1,g2⟩:=hr.at_ b _ hb;cases mb with
    |fV c=>
     cases hx with
     |slc e'=>exact⟨_,_,by first|(simp only[hu];done)|(simp only[hu];rfl),.int _ _,.none,rfl⟩
     |gone hi e' _=>simp only[bg,a00]at hi;subst hi;rw[g1]at e';cases e'
    |_=>exact g2.elim
   .cases hl
  .rename_i e hu;cases hl;cases hx with
   |nil=>exact⟨_,_,by first|(simp only[hu];done)|(simp only[hu];rfl),.int _ _,.none,rfl⟩
   |gone hi _ _=>simp[bg]at hi
  .rename_i e t' l fu hu;cases hl;cases hx with
   |nZ=>exact⟨_,_,by first|(simp only[hu];done)|(simp only[hu];rfl),.int _ _,.none,rfl⟩
   |dw=>exact⟨_,_,by first|(simp only[hu];done)|(simp only[hu];rfl),.int _ _,.none,rfl⟩
   |gone hi _ _=>simp[bg]at hi
  .rename_i e b hu;split at hl
   .rename_i k ex t' l hb;cases hl;obtain⟨mb,g1,g2⟩:=hr.at_ b _ hb;cases mb with
    |dw z=>
     cases hx with
     |own e' _=>
      rw[g1]at e';cases e';cases(g2:LR X P _ _ _ _ _ _ _ _)with
      |nil=>exact⟨_,_,by first|(simp only[hu];done)|(simp only[hu];rfl),.int _ _,.none,rfl⟩
      |emp=>exact⟨_,_,by first|(simp only[hu];done)|(simp only[hu];rfl),.int _ _,.none,rfl⟩
      |some=>exact⟨_,_,by first|(simp only[hu];done)|(simp only[hu];rfl),.int _ _,.none,rfl⟩
     |gone hi e' _=>simp only[bg,a00]at hi;subst hi;rw[g1]at e';cases e'
    |_=>exact g2.elim
   .cases hl
  .rename_i e b o n hu;split at hl
   .rename_i k ex t' l hb;cases hl;obtain⟨mb,g1,g2⟩:=hr.at_ b _ hb;cases mb with
    |dw z=>
     cases hx with
     |win=>exact⟨_,_,by first|(simp only[hu];done)|(simp only[hu];rfl),.int _ _,.none,rfl⟩
     |Ac=>exact⟨_,_,by first|(simp only[hu];done)|(simp only[hu];rfl),.int _ _,.none,rfl⟩
     |gone hi e' _=>simp only[bg,a00]at hi;subst hi;rw[g1]at e';cases e'
    |_=>exact g2.elim
   .cases hl
  .rename_i kt e hu;cases hl;cases hx with
   |nil=>exact⟨_,_,by first|(simp only[hu];done)|(simp only[hu];rfl),.int _ _,.none,rfl⟩
   |gone hi _ _=>simp[bg]at hi
  .rename_i kt e r hu;split at hl
   .rename_i es hb;cases hl;obtain⟨mb,g1,g2⟩:=hr.at_ r _ hb;cases mb with
    |fV c=>
     obtain⟨fQ,g3,g4,g5⟩:=g2;cases hx with
     |map e'=>
      rw[g1]at e';cases e';exact⟨_,_,by first|(simp only[hu,g3];done)|(simp only[hu,g3];rfl),by rw[g4];exact .int _ _,.rdH (iO g1 rfl) (a04.1 g3).1,rfl⟩
     |gone hi e' _=>simp only[bg,a00]at hi;subst hi;rw[g1]at e';cases e'
    |_=>exact g2.elim
   .cases hl
  .cases hl
 .cases hl
def a5C:BinOp->Option TV
 |.eql=>some (.bool false)
 |.neq=>some (.bool true)
 |_=>none
theorem Yv{op:BinOp}{t:TypeId}{x y:Operand}{a b:PV X.Γ}{ta tb:TV}(ha:VR X P A m h a ta)(hb:VR X P A m h b tb){v:PV X.Γ}(hl:adO X P op t x y a b=some v):∃w,rY P op t x y ta tb=some w∧VR X P A m h v w:=by
 unfold adO at hl;split at hl
 .rename_i u w h1 h2;split at hl
  .rename_i r hr;rw[jG ha h1,jG hb h2];exact⟨r,hr,wz hl⟩
  cases hl
 rename_i hno;split at hl
 rotate_left
 .cases hl
 rename_i hn;have key:∃k,JA P t=some k∧((ta=.nil k∧Jz tb=some k∧tb.yg=none)∨(tb=.nil k∧Jz ta=some k∧ta.yg=none)):=by
  unfold a0H at hn;split at hn
  rotate_left
  .cases hn
  rename_i k hk;refine⟨k,hk,?_⟩;simp only[a8O,a2m,a88]at hn;have ahR:∀{z:PV X.Γ} {tz:TV},VR X P A m h z tz->z=.nil k->tz=.nil k:=by
   intro z tz hz e;subst e;cases hz with
   |nil=>rfl
   |gone hi _ _=>simp[bg]at hi
  have abD:∀{z:PV X.Γ} {tz:TV},VR X P A m h z tz->(match z with|.fn _ _ _=>some NK.fn|.el _ _ _=>some NK.ptr|_=>none)=some k->Jz tz=some k∧tz.yg=none:=by
   intro z tz hz e;cases hz with
   |fn=>exact⟨e,rfl⟩
   |el=>exact⟨e,rfl⟩
   |gone hi _ _=>cases z<;>simp[bg]at hi<;>simp at e
   |_=>simp at e
  have ahS:∀{z:PV X.Γ},(match z with|.nil k=>some k|_=>none)=some k->z=.nil k:=by
   intro z e;cases z<;>simp at e
   rw[e]
  rcases hn with⟨h1,h2⟩|⟨h1,h2⟩
  .have:=abD hb h2;exact .inl ⟨ahR ha (ahS h1),this.1,this.2⟩
  have:=abD ha h1;exact .inr ⟨ahR hb (ahS h2),this.1,this.2⟩
 obtain⟨k,hk,hc⟩:=key;have adW:rY P op t x y ta tb=a5C op:=by
  rcases hc with⟨rfl,h2,h3⟩|⟨rfl,h2,h3⟩
  .have hnn:BM P t (.nil k) tb=true:=by unfold BM;rw[hk];simp[Ym,h2]
   unfold rY;rw[h3];cases(TV.nil k).yg<;>simp only[hnn,a2d]<;>cases op<;>rfl
  have hnn:BM P t ta (.nil k)=true:=by unfold BM;rw[hk];simp[Ym,h2]
  unfold rY;rw[h3];simp only[hnn,a2d];cases op<;>rfl
 rw[adW];cases op<;>simp only at hl ⊢<;>try (cases hl;done)
 .cases hl;exact⟨_,rfl,.bool _⟩
 cases hl;exact⟨_,rfl,.bool _⟩
theorem O6{op:BinOp}{t:TypeId}{x y:Operand}{b:PV X.Γ}{ta tb:TV}(hb:VR X P A m h b tb){v:PV X.Γ}{q q':Prop}(hl:Ls X P op t b q=some (v,q'))(hq:q')(h2:q->Jz ta=some .slc∧ta.yg=none):∃w,rY P op t x y ta tb=some w∧VR X P A m h v w:=by
 unfold Ls at hl;split at hl
 .rename_i hk;have h1:tb=.nil .slc:=by
   cases hb with
   |nil=>rfl
   |gone hi _ _=>simp[bg]at hi
  subst h1;have key:q->rY P op t x y ta (.nil .slc)=a5C op:=fun hq=>by
   obtain⟨h2,h3⟩:=h2 hq;have hnn:BM P t ta (.nil .slc)=true:=by unfold BM;rw[hk];simp[Ym,h2]
   unfold rY;rw[h3];simp only[hnn,a2d];cases op<;>rfl
  split at hl
  .cases hl;rw[key hq];exact⟨_,rfl,.bool _⟩
  .cases hl;rw[key hq];exact⟨_,rfl,.bool _⟩
  cases hl
 cases hl
theorem a2E(hr:HR X P A m H h){op:BinOp}{t:TypeId}{x y:Operand}{a b:PV X.Γ}{ta tb:TV}(ha:VR X P (AA A m) m h a ta)(hb:VR X P (AA A m) m h b tb){v:PV X.Γ}{q:Prop}(hl:Ud X P op t H a b=some (v,q))(hq:q):∃w,rY P op t x y ta tb=some w∧VR X P (AA A m) m h v w:=by
 unfold Ud at hl;split at hl
 .rename_i l fu;refine O6 hb hl hq (fun iy=>?_);cases ha with
  |nZ=>exact absurd rfl iy
  |dw=>exact⟨rfl,rfl⟩
  |gone hi _ _=>simp[bg]at hi
 .rename_i i;split at hl
  .rename_i k ex t' l hi;refine O6 hb hl hq (fun iy=>?_);obtain⟨mb,g1,g2⟩:=hr.at_ i _ hi;cases ha with
   |own e o=>
    rw[g1]at e;cases e;cases g2 with
    |nil=>exact absurd rfl iy
    |emp=>exact absurd rfl iy
    |some=>exact⟨rfl,rfl⟩
   |gone hi e _=>simp only[bg,a00]at hi;subst hi;rw[g1]at e;cases e<;>exact g2.elim
  cases hl
 cases hl
theorem iP{op:UnOp}{a:PV X.Γ}{ta:TV}(ha:VR X P A m h a ta){v:PV X.Γ}(hl:pun X P op a=some v):∃w,unT P op ta=some w∧VR X P A m h v w:=by
 unfold pun at hl;split at hl
 .rename_i u h1;split at hl
  .rename_i r hr;rw[jG ha h1];exact⟨r,hr,wz hl⟩
  cases hl
 cases hl
theorem TP{s d:TypeId}{a:PV X.Γ}{ta:TV}(ha:VR X P A m h a ta){v:PV X.Γ}(hl:a5l X P s d a=some v):∃w,Qy P s d ta=some w∧VR X P A m h v w:=by
 unfold a5l at hl;split at hl
 .rename_i u h1;split at hl
  .rename_i r hr;rw[jG ha h1];exact⟨r,hr,wz hl⟩
  cases hl
 cases hl
theorem yK{mx:Bool}{at_:Array TypeId}{t:TypeId}{az:List (PV X.Γ)}{ts:List TV}(ha:bV X P A m h az ts){v:PV X.Γ}(hl:Lu X P mx at_ t az=some v):∃w,Dz P mx at_ t ts=some w∧VR X P A m h v w:=by
 unfold Lu at hl;split at hl
 .rename_i u h1;split at hl
  .rename_i r hr;rw[a0N ha h1];exact⟨r,hr,wz hl⟩
  cases hl
 cases hl
theorem Na{t:TypeId}{x:PV X.Γ}{tx:TV}(hx:VR X P A m h x tx){i:Nat}{v:PV X.Γ}(hl:Z5 X P t x i=some v):∃w,MI P t tx i=some w∧VR X P A m h v w:=by
 unfold Z5 at hl;split at hl
 .rename_i fs cs hu;split at hl
  .rename_i f hf;cases hx with
   |agg h1 h2=>
    obtain⟨w,g1,g2⟩:=Ae ⟨h1,h2⟩ hl;exact⟨w,by simp only[MI,hu,hf,g1],g2⟩
   |gone hi _ _=>simp[bg]at hi
  cases hl
 cases hl
theorem Nb{t:TypeId}{x i:PV X.Γ}{tx ti:TV}(hx:VR X P A m h x tx)(hi:VR X P A m h i ti){v:PV X.Γ}(hl:Z7 X P t x i=some v):∃w,Ii P t tx ti=some w∧VR X P A m h v w:=by
 unfold Z7 at hl;split at hl
 .rename_i len e cs hu;split at hl
  .rename_i n j hn hj;have:idx len ti=some j:=by
    cases i<;>simp only[a2y]at hj<;>try (cases hj;done)
    cases hi with
    |int=>exact hj
    |gone e _ _=>simp[bg]at e
   cases hx with
   |agg h1 h2=>
    obtain⟨w,g1,g2⟩:=Ae ⟨h1,h2⟩ hl;exact⟨w,by simp only[Ii,hu,hn,this,g1],g2⟩
   |gone hi _ _=>simp[bg]at hi
  cases hl
 cases hl
end
open Go Tw
section
variable {X:kE} {P:Program} {A F:Nat->Prop} {m m':List MB} {h h':List HB} {H H':List (PB X.Γ)}
theorem GN:∀{is:List Nat} {H:List (PB X.Γ)} {i:Nat} {pb:PB X.Γ},(aY is H)[i]? = some pb->(i∈is∧pb=.gone)∨(i∉is∧H[i]? = some pb)
 | [],_,_,_,h=>.inr ⟨by simp,h⟩
 |j::is,H,i,pb,h=>by
  rcases GN (is:=is) (H:=Wu j H) h with⟨h1,h2⟩|⟨h1,h2⟩
  .exact .inl ⟨a3O _ h1,h2⟩
  unfold Wu at h2;by_cases e:j=i
  .subst e;rw[a4c]at h2;cases hx:H[j]? with
   |none=>rw[hx]at h2;cases h2
   |some y=>rw[hx]at h2;cases h2;exact .inl ⟨a3N,rfl⟩
  rw[a1D e]at h2;exact .inr ⟨by simp[h1,Ne.symm e],h2⟩
theorem qj(hr:HR X P A m H h)(is:List Nat){k ex x:Bool}{e size:Nat}{rows:List (X.Γ e)}{cs:List TV}(hw:dV X P (FA A m is) (bU is m) h e rows cs 0 size)(hc:cs.length=rows.length*size)(hn:rows≠[])(hz:dB P e=some size)(h0:0<size)(hx:ex=true->x=true) :
  ∃m1,HR X P A m1 (aY is H++[.list k ex e rows]) (h++[.cells .own cs])∧Fr m h m1 (h++[.cells .own cs])∧Up m m1∧VR X P (AA A m1) m1 (h++[.cells .own cs]) (.own H.length) (.slc h.length 0 rows.length rows.length size x):=by
 have hgo:=hr.aY is;have Qi:=iq (h:=h) is m;have vg:(MB.dw (.slc h.length 0 rows.length rows.length size x)).own=some h.length:=by simp only[MB.own];rw[a0g (by simpa using hn)]
 have hF:Fr (bU is m) h (bU is m++[.dw (.slc h.length 0 rows.length rows.length size x)]) (h++[.cells .own cs]):=by
  refine⟨by simp,fun b hb _=>by rw[a0e hb],fun b hb=>?_,fun b cs hc=>⟨cs,by rw[fM (a0e (gK hc)),hc],a15 _⟩⟩;rw[iW,a3K,jT,vg]at hb;rcases hb with hb|hb
  .exact .inl hb
  .simp at hb;exact .inr (by omega)
 obtain⟨h1,h2,h3⟩:=hgo.push (pb:=.list k ex e rows) (hb:=.cells .own cs) (.inl vg)
  (LR.some (kk:=.own) hn hz h0 (by simp) (by simp) (fun _=>rfl) hx hc ((hw.mono fun b hb=>hb.gone hr).step hF (wu _)))
 refine⟨_,h1,Qi.1.trans h2,Qi.2.trans h3,.own ?_ rfl⟩;rw[<-hr.len,<-lQ is m];simp
theorem RH(hr:HR X P A m H h)(is:List Nat){k ex:Bool}{e:Nat}{y:TV}(hy:(MB.dw y).own=none)(ho:iQ y=true)(hl:LR X P (AA A (bU is m++[.dw y])) (bU is m++[.dw y]) h k ex e [] y) :
  ∃m1,HR X P A m1 (aY is H++[.list k ex e []]) h∧Fr m h m1 h∧Up m m1∧VR X P (AA A m1) m1 h (.own H.length) y:=by
 have Qi:=iq (h:=h) is m;obtain⟨h1,h2,h3⟩:=(hr.aY is).abC (pb:=.list k ex e []) hy hl;refine⟨_,h1,Qi.1.trans h2,Qi.2.trans h3,.own ?_ ho⟩;rw[<-hr.len,<-lQ is m];simp
theorem a9l(hr:HR X P A m H h){is:List Nat}{y:TV}(hy:(MB.dw y).own=none){b:Nat}(hb:FA A m is b):AA A (bU is m++[.dw y]) b:=by
 have:=hb.gone hr;refine⟨this.1,fun hm=>this.2 ?_⟩;rw[iW,a3K,jT,hy]at hm;simpa using hm
theorem push_empty(hr:HR X P A m H h)(is:List Nat){k ex:Bool}{e size b off:Nat}{cs:List TV}(hz:dB P e=some size)(h0:0<size)(ha:FA A m is b)(hb:aV h b=some cs)(ho:off<=cs.length) :
  ∃m1,HR X P A m1 (aY is H++[.list k ex e []]) h∧Fr m h m1 h∧Up m m1∧VR X P (AA A m1) m1 h (.own H.length) (.slc b off 0 0 size true):=
 RH hr is rfl rfl (LR.emp (a9l hr rfl ha) hb ho hz h0)
theorem O7(hr:HR X P A m H h)(is:List Nat){k ex:Bool}{e:Nat} :
  ∃m1,HR X P A m1 (aY is H++[.list k ex e []]) h∧Fr m h m1 h∧Up m m1∧VR X P (AA A m1) m1 h (.own H.length) (.nil .slc):=
 RH hr is rfl rfl .nil
theorem O8(hr:HR X P A m H h){b c:Nat}(is:List Nat){mb LC:MB}{pb:PB X.Γ}{h1:List HB}(hb:m[b]? = some mb)(ho:mb.own=some c)(ho':LC.own=some c)(hlen:h1.length=h.length)(hs:∀d,d≠c->h1[d]? = h[d]?)
  (hg:∀cs,aV h c=some cs->∃cs',aV h1 c=some cs'∧cs.length<=cs'.length)
  (qw:Fr m h (bU (b::is) m++[LC]) h1->Up m (bU (b::is) m++[LC])->BR X P (AA A (bU (b::is) m++[LC])) (bU (b::is) m++[LC]) h1 pb LC) :
  ∃m1,m1=bU (b::is) m++[LC]∧HR X P A m1 (aY (b::is) H++[pb]) h1∧Fr m h m1 h1∧Up m m1∧m1[H.length]? = some LC:=by
 have Qi:=iq (h:=h) (b::is) m;have hgo:=hr.aY (b::is);have hnc:c∉bn (bU (b::is) m):=fun hm=>by
  obtain⟨j,mbj,g1,g2,g3⟩:=Af hm;have:=iT hr.nodup hb g2 ho g3;exact g1 (by rw[<-this];exact a3N)
 have yL:∀d,d∈bn (bU (b::is) m++[LC])↔d∈bn (bU (b::is) m)∨d=c:=by
  intro d;rw[iW,a3K,jT,ho'];simp
 have GR:c∈bn m:=bf hb ho;have hF:Fr m h (bU (b::is) m++[LC]) h1:=by
  refine⟨by omega,fun d hd hn=>hs d fun e=>hn (e▸GR),fun d hd=>?_,fun d cs hc=>?_⟩
  .rcases(yL d).1 hd with hd|rfl
   .exact Qi.1.new d hd
   .exact .inl GR
  .by_cases e:d=c
   .subst e;exact hg cs hc
   .exact⟨cs,by rw[fM (hs d e),hc],a15 _⟩
 have hU:Up m (bU (b::is) m++[LC]):=Qi.2.trans (wu _);refine⟨_,rfl,?_,hF,hU,?_⟩
 .refine hr.next hF hU (by simp[lQ,nG,hr.len]) ?_ fun i pbi hi=>?_
  .rw[iW,jT,ho'];refine a8B.2 ⟨hgo.nodup,by simp,fun a ha b' xJ e=>?_⟩;simp at xJ;subst xJ;subst e;exact hnc ha
  .rcases a4a i (aY (b::is) H).length with aS|Eu
   .rw[a0e aS]at hi;have a5D:i<(bU (b::is) m).length:=by rw[hgo.len];exact aS
    rcases GN hi with⟨e1,rfl⟩|⟨e1,e2⟩
    .obtain⟨mbi,g1,g2⟩:=hgo.at_ i _ hi;cases mbi with
     |gone=>exact .inr ⟨.gone,by rw[a0e a5D];exact g1,trivial⟩
     |_=>exact g2.elim
    .obtain⟨mbi,g1,_⟩:=hr.at_ i _ e2;left;have hm:=Gx (b::is) g1;rw[show(b::is).contains i=false by simpa using e1]at hm;refine⟨mbi,e2,g1,by rw[a0e a5D];simpa using hm,fun d hd=>hs d fun e=>?_⟩;subst e;have:=iT hr.nodup hb g1 ho hd;exact e1 (by rw[<-this];exact a3N)
   .rw[a1c Eu]at hi;have:i-(aY (b::is) H).length=0:=by
     rcases abA (i-(aY (b::is) H).length)with h|h
     .exact h
     .rw[a3X (by simp;omega)]at hi;cases hi
    rw[this]at hi;simp only[a2J,a00]at hi;subst hi;exact .inr ⟨LC,by rw[a1c (by rw[hgo.len];exact Eu),hgo.len,this];rfl,qw hF hU⟩
 .have:H.length=(bU (b::is) m).length:=by rw[lQ,hr.len]
  rw[this];simp
end
open Go Tw
section
variable {X:kE} {P:Program} {A F:Nat->Prop} {m m':List MB} {h h':List HB} {H H':List (PB X.Γ)}
def WH(X:kE)(P:Program)(A:Nat->Prop)(m:List MB)(ts:St)(r:Option (TV×St×lD))(v:PV X.Γ)(H1:List (PB X.Γ))(pi:PI):Prop:=
 ∃w h1 ti m1,r=some (w,{ ts with heap:=h1 },ti)∧HR X P A m1 H1 h1∧VR X P (AA A m1) m1 h1 v w∧Fr m ts.heap m1 h1∧Up m m1∧IR m ts.heap pi ti∧∀b,.h b∈ti.ws->b∈bn m
theorem nJ{e:TypeId}{n k:Nat}(hb:tH P e n=true)(hk:k<=n):tH P e k=true:=by
 unfold tH at hb ⊢;split at hb
 .rename_i i hi;simp only[a2m,a1X]at hb ⊢;obtain⟨⟨⟨⟨h1,h2⟩,h3⟩,h4⟩,h5⟩:=hb;have:=a3P i.bytes hk;exact⟨⟨⟨⟨by omega,by omega⟩,h3⟩,h4⟩,h5⟩
 cases hb
theorem nK{t e:TypeId}{n:Nat}(hs:jw P t=some (e,n)):dB P e=some n∧0<n:=by
 unfold jw at hs;split at hs
 .split at hs
  .rename_i k hk;split at hs
   .cases hs
   rename_i h0;simp only[a00,a0S]at hs;obtain⟨rfl,rfl⟩:=hs;exact⟨hk,by omega⟩
  cases hs
 cases hs
theorem vk(hr:HR X P A m H h){e sz:Nat}{x:PV X.Γ}{tx:TV}(hv:VR X P (AA A m) m h x tx)(hz:dB P e=some sz){rows:List (X.Γ e)}{is:List Nat}(hs:A8 X H e sz x=some (rows,is)){b:Nat}(hb:.h b∈dF tx):((∃i,.h i∈CB X x∧GL m i b)∨b∉bn m)∧b<h.length:=by
 have lr:∀{i:Nat} {k ex:Bool} {t:Nat} {l:List (X.Γ t)} {c off len cap s:Nat} {e':Bool},H[i]? = some (.list k ex t l)->m[i]? = some (.dw (.slc c off len cap s e'))->(GL m i c∨c∉bn m)∧c<h.length:=by
  intro i k ex t l c off len cap s e' hH hm;obtain⟨mb,g1,g2⟩:=hr.at_ i _ hH;rw[hm]at g1;cases g1;cases(g2:LR X P _ _ _ _ _ _ _ _)with
  |emp h0 h1=>exact⟨.inr h0.2,gK h1⟩
  |some q1 q2 q3 q4=>exact⟨.inl (iO hm (by simp only[MB.own];rw[a0g (by simpa using q1)])),(a04.1 q4).1⟩
 cases x with
 |nil k=>
  cases hv with
  |nil=>simp[dF]at hb
  |gone hi _ _=>simp[bg]at hi
 |dw t l fu=>
  cases hv with
  |nZ=>simp[dF]at hb
  |dw a ac=>simp[dF]at hb;subst hb;exact⟨.inr a.2,gK ac⟩
  |gone hi _ _=>simp[bg]at hi
 |own i=>
  simp only[A8]at hs;split at hs
  .rename_i k ex t l hH;cases hv with
   |own e' o=>
    cases tx<;>simp[dF]at hb
    subst hb;obtain⟨h1,h2⟩:=lr hH e';rcases h1 with h1|h1
    .exact⟨.inl ⟨i,by simp[CB],h1⟩,h2⟩
    exact⟨.inr h1,h2⟩
   |gone hi e' _=>
    simp only[bg,a00]at hi;subst hi;obtain⟨mb,g1,g2⟩:=hr.at_ i _ hH;rw[g1]at e';cases e'<;>exact g2.elim
  cases hs
 |win i o n=>
  simp only[A8]at hs;split at hs
  .rename_i k ex t l hH;cases hv with
   |win e' q q'=>
    simp[dF]at hb;subst hb;obtain⟨h1,h2⟩:=lr hH e';rcases h1 with h1|h1
    .exact⟨.inl ⟨i,by simp[CB],h1⟩,h2⟩
    exact⟨.inr h1,h2⟩
   |Ac=>simp[dF]at hb
   |gone hi e' _=>
    simp only[bg,a00]at hi;subst hi;obtain⟨mb,g1,g2⟩:=hr.at_ i _ hH;rw[g1]at e';cases e'<;>exact g2.elim
  cases hs
 |slc c off len cap s ex=>
  simp only[A8]at hs;split at hs
  .rename_i cs hH;cases hv with
   |slc e'=>
    simp[dF]at hb;subst hb;obtain⟨mb,g1,g2⟩:=hr.at_ c _ hH;rw[e']at g1;cases g1;exact⟨.inl ⟨c,by simp[CB],iO e' rfl⟩,g2.has rfl⟩
   |gone hi e' _=>
    simp only[bg,a00]at hi;subst hi;obtain⟨mb,g1,g2⟩:=hr.at_ c _ hH;rw[g1]at e';cases e'<;>exact g2.elim
  cases hs
 |_=>simp[A8]at hs
theorem IR.reads{p:PI}{ks:List Key}(hp:p.hp=true)(hk:∀b,.h b∈ks->((∃i,.h i∈p.i.ts∧GL m i b)∨b∉bn m)∧b<h.length)(hl:∀k,.l k∉ks):IR m h p (gX ks):=
 ⟨fun h=>(by cases h),fun k h=>absurd h (hl k),fun k h=>(by cases h),fun b h=>(by cases h),hk,fun h=>(by rw[hp]at h;cases h)⟩
theorem o8{tx:TV}{k:Nat}:Key.l k∉dF tx:=by cases tx<;>simp[dF]
theorem Ir(hX:bM X P){ps:aQ X.Γ}{ts:St}(hR:uK X P A m ps ts){at_:Array TypeId}{d x:PV X.Γ}{td tx:TV}(hd:VR X P (AA A m) m ts.heap d td)(hx:VR X P (AA A m) m ts.heap x tx){v:PV X.Γ}{H1:List (PB X.Γ)}{pi:lD}{qs:List Prop}
  (hl:Uc X P at_ ps.heap d x=some (v,H1,pi,qs)) (hq:∀q∈qs,q):WH X P A m ts (jQ P at_ ts td tx) v H1 ⟨pi,false,false,true⟩:=by
 have hr:=hR.heap;unfold Uc at hl;split at hl
 .rename_i st xt vH JJ;split at hl
  .cases hl
  .rename_i hint;split at hl
   .rename_i e size zK;split at hl
    .rename_i KE;obtain⟨hz,h0⟩:=nK zK;split at hl
     .rename_i rows is hs;obtain⟨new,s1,s2,s3⟩:=Uo (m':=bU is m) hX hr hx hz hs;have hk0:IR m ts.heap ⟨gX (CB X x),false,false,true⟩ (gX (dF tx)):=IR.reads rfl (fun b hb=>vk hr hx hz hs hb) fun k=>o8;have hrn:rows.length=0↔rows=[]:=a6Y;split at hl
      .-- nil
       simp only[a00,a0S]at hl;obtain⟨rfl,rfl,rfl,rfl⟩:=hl;have JD:rows.length<=ah:=hq _ a3N;have:td=.nil .slc:=by
        cases hd with
        |nil=>rfl
        |gone hi _ _=>simp[bg]at hi
       subst this;by_cases hn:rows=[]
       .subst hn;obtain⟨m1,g1,g2,g3,g4⟩:=O7 hr is (k:=true) (ex:=false) (e:=e);exact⟨_,ts.heap,_,m1,by unfold jQ;simp only[vH,JJ,hint,a2Y,zK,s1,a5J,a2d,a2c],g1,g4,g2,g3,hk0,fun b hb=>by simp[gX]at hb⟩
       .obtain⟨m1,g1,g2,g3,g4⟩:=qj hr is (k:=true) (ex:=false) (x:=false) s3 s2 hn hz h0 (by simp);refine⟨_,ts.heap++[.cells .own new],_,m1,?_,g1,g4,g2,g3,hk0,fun b hb=>by simp[gX]at hb⟩;unfold jQ;simp only[vH,JJ,hint,a2Y,zK,s1,a2c,hrn,hn,s2,a2d,nJ KE JD]
      .-- an own list
       rename_i b;split at hl
       .rename_i k ex t' l hb;split at hl
        .cases hl
        rename_i hnb;split at hl
        .rename_i l2 O9;obtain⟨rfl,rfl⟩:=uj O9;simp only[a00,a0S]at hl;obtain⟨rfl,rfl,rfl,rfl⟩:=hl;have JD:l2.length+rows.length<=ah:=hq _ a3N;obtain⟨mb,g1,g2⟩:=hr.at_ b _ hb;have VA:∀{c:Nat},GL m b c∨c∉bn m->c<ts.heap.length->IR m ts.heap ⟨⟨false,.h b::CB X x,[.h b]⟩,false,false,true⟩ (gX (.h c::dF tx)):=fun{c} hc aS=>IR.reads rfl (fun d hd=>by
          rcases a1Y.1 hd with e0|e0
          .cases e0;rcases hc with hc|hc
           .exact⟨.inl ⟨b,a3N,hc⟩,aS⟩
           .exact⟨.inr hc,aS⟩
          .obtain⟨h0,h9⟩:=vk hr hx hz hs e0;rcases h0 with⟨i,h1,h2⟩|h1
           .exact⟨.inl ⟨i,a3O _ h1,h2⟩,h9⟩
           .exact⟨.inr h1,h9⟩) fun j hj=>by
            rcases a1Y.1 hj with e0|e0
            .cases e0
            .exact o8 e0
         have lN:IR m ts.heap ⟨⟨false,.h b::CB X x,[.h b]⟩,false,false,true⟩ (gX (dF tx)):=IR.reads rfl (fun d hd=>by
          obtain⟨h0,h9⟩:=vk hr hx hz hs hd;rcases h0 with⟨i,h1,h2⟩|h1
          .exact⟨.inl ⟨i,a3O _ h1,h2⟩,h9⟩
          .exact⟨.inr h1,h9⟩) fun j hj=>o8 hj
         cases mb with
         |dw z=>
          cases hd with
          |gone hi e' _=>simp only[bg,a00]at hi;subst hi;rw[g1]at e';cases e'
          |own e' o=>
           rw[g1]at e';cases e';have hlr:LR X P (AA A m) m ts.heap k ex t' l2 td:=g2;have TT:dV X P (FA A m (b::is)) (bU (b::is) m) ts.heap t' rows new 0 size:=(s3.mono fun c hc=>FA.mono (fun i hi=>a3O _ hi) hc).jc hX;cases hlr with
           |nil=>
            simp only[abn];by_cases hn:rows=[]
            .subst hn;obtain⟨m1,f1,f2,f3,f4⟩:=O7 hr (b::is) (k:=k&&ex) (ex:=false) (e:=t');exact⟨_,ts.heap,_,m1,by unfold jQ;simp only[vH,JJ,hint,a2Y,zK,s1,a5J,a2d,a2c],f1,f4,f2,f3,lN,fun c hc=>by simp[gX]at hc⟩
            .obtain⟨m1,f1,f2,f3,f4⟩:=qj hr (b::is) (k:=k&&ex) (ex:=false) (x:=false) TT s2 hn hz h0 (by simp);refine⟨_,ts.heap++[.cells .own new],_,m1,?_,f1,f4,f2,f3,lN,fun c hc=>by simp[gX]at hc⟩;unfold jQ;simp only[vH,JJ,hint,a2Y,zK,s1,a2c,hrn,hn,s2,a2d,nJ KE (show rows.length<=ah by omega)]
           |emp p0 p1 p2 p3 p4=>
            rename_i c off sz cs;rw[hz]at p3;cases p3;simp only[abn];by_cases hn:rows=[]
            .subst hn;obtain⟨m1,f1,f2,f3,f4⟩:=push_empty hr (b::is) (k:=k&&ex) (ex:=false) hz h0 (.inl p0) p1 p2;exact⟨_,ts.heap,_,m1,by unfold jQ;simp only[vH,JJ,hint,a2Y,zK,s1,a5J,a2d,a2c],f1,f4,f2,f3,lN,fun c hc=>by simp[gX]at hc⟩
            .obtain⟨m1,f1,f2,f3,f4⟩:=qj hr (b::is) (k:=k&&ex) (ex:=false) (x:=false) TT s2 hn hz h0 (by simp);refine⟨_,ts.heap++[.cells .own new],_,m1,?_,f1,f4,f2,f3,VA (c:=c) (.inr p0.2) (gK p1),fun c hc=>by simp[gX]at hc⟩;have pK:fE size ts.heap (.slc c off 0 0 size true)=some (0,[]):=(by simp[fE]);unfold jQ;simp only[vH,JJ,hint,a2Y,zK,s1,a2c,hrn,hn,s2,a2d,a3U,Nat.le_zero_eq,nJ KE (show rows.length<=ah by omega),pK,a0T,abn]
           |some p1 p2 p3 p4 p5 p6 p7 p8 p9=>
            rename_i c sz xx kk cs;rw[hz]at p2;cases p2;have vg:(MB.dw (TV.slc c 0 l2.length l2.length size xx)).own=some c:=by simp only[MB.own];rw[a0g (by simpa using p1)]
            by_cases hn:rows=[]
            .subst hn;simp only[a6S];obtain⟨m1,f0,f1,f2,f3,f4⟩:=O8 (pb:=.list (k&&ex) false t' l2) hr is g1 vg vg rfl (fun _ _=>rfl) (fun cs hc=>⟨cs,hc,a15 _⟩) (fun hF hU=>LR.some p1 hz p3 p4 p5 (fun hk=>p6 (by simp at hk;exact hk.1)) (by simp) p8 (p9.step hF hU));exact⟨_,ts.heap,_,m1,by unfold jQ;simp only[vH,JJ,hint,a2Y,zK,s1,a5J,a2d,a2c],f1,.own f4 rfl,f2,f3,lN,fun c hc=>by simp[gX]at hc⟩
            .have hle:¬l2.length+rows.length<=l2.length:=by
              have:rows.length≠0:=fun e0=>hn (hrn.1 e0);omega
             have iy:l2++rows≠[]:=(by simp[p1]);cases xx with
             |true=>
              have hold:fE size ts.heap (.slc c 0 l2.length l2.length size true)=some (l2.length,cs):=by
               simp only[fE,a2d];rw[a0g (fun e0=>p1 (a6Y.1 e0)),vZ p4 (by omega)];simp only[sub];rw[a0h (by omega),abt,a9H (by omega)];rfl
              have hw1:dV X P (FA A m (b::is)) (bU (b::is) m) ts.heap t' l2 cs 0 size:=(p9.mono fun c hc=>.inl hc).jc hX;obtain⟨m1,f1,f2,f3,f4⟩:=qj hr (b::is) (k:=k&&ex) (ex:=false) (x:=false) (hw1.app TT p8) (by rw[a2a,a2a,a3Q,p8,s2]) iy hz h0 (by simp);refine⟨_,ts.heap++[.cells .own (cs++new)],_,m1,?_,f1,f4,f2,f3,VA (c:=c) (.inl (iO g1 vg)) (a04.1 p4).1,fun c hc=>by simp[gX]at hc⟩;unfold jQ;simp only[vH,JJ,hint,a2Y,zK,s1,a2c,hrn,hn,s2,a2d,hle,nJ KE JD,hold,a0T,a2a]
             |false=>
              have hex:ex=false:=by cases ex with
               |true=>exact absurd (p7 rfl) (by simp)
               |false=>rfl
              subst hex;have aS:=(a04.1 p4).1;obtain⟨m1,f0,f1,f2,f3,f4⟩:=O8 (pb:=.list (k&&false) false t' (l2++rows)) (h1:=ts.heap.set c (.cells kk.more (cs++new))) (LC:=.dw (.slc c 0 (l2.length+rows.length) (l2.length+rows.length) size false)) hr is g1 vg
               (by simp only[MB.own];rw[a0g (by omega)]) (by simp) (fun d hd=>a1D (Ne.symm hd)) (fun WE JH=>⟨cs++new,by simp[aV,aS],by
                simp only[aV,p4,a00]at JH;subst JH;simp⟩) (fun hF hU=>by
                have Qi:=iq (h:=ts.heap) (b::is) m;have Qb:∀q cs',FA A m is q->aV ts.heap q=some cs'->AA A (bU (b::is) m++[.dw (.slc c 0 (l2.length+rows.length) (l2.length+rows.length) size false)]) q∧(ts.heap.set c (.cells kk.more (cs++new)))[q]? = ts.heap[q]?:=fun q cs' hq hc=>by
                 have Yq:q≠c:=fun e0=>by
                  subst e0;rcases hq with hq|⟨i,mb,e1,e2,e3⟩
                  .exact hq.2 (bf g1 vg)
                  .have:=iT hr.nodup g1 e2 vg e3;subst this;exact hnb (by simpa using e1)
                 have hg:=FA.gone hr (FA.mono (js:=b::is) (fun i hi=>a3O _ hi) hq);refine⟨⟨hg.1,fun hm=>?_⟩,a1D (Ne.symm Yq)⟩;rw[iW,a3K,jT]at hm;rcases hm with hm|hm
                 .exact hg.2 hm
                 .simp only[MB.own]at hm;rw[a0g (by omega)]at hm;simp at hm;exact Yq hm
                have:=LR.some (X:=X) (P:=P) (A:=AA A (bU (b::is) m++[.dw (.slc c 0 (l2.length+rows.length) (l2.length+rows.length) size false)])) (m:=bU (b::is) m++[.dw (.slc c 0 (l2.length+rows.length) (l2.length+rows.length) size false)]) (h:=ts.heap.set c (.cells kk.more (cs++new))) (k:=k&&false) (ex:=false) (t:=t') (l:=l2++rows) (b:=c) (sz:=size) (e:=false) (kk:=kk.more) (cs:=cs++new)
                 iy hz h0 (by simp[aS]) (by cases kk<;>simp[BK.more]) (by simp) (by simp) (by rw[a2a,a2a,a3Q,p8,s2]) ((p9.step hF hU).app (s3.move hX Qb) p8)
                rw[a2a]at this;exact this)
              refine⟨_,ts.heap.set c (.cells kk.more (cs++new)),⟨false,.h c::dF tx,[.h c]⟩,m1,?_,f1,.own f4 rfl,f2,f3,⟨fun h=>(by cases h),fun j hj=>?_,fun j hj=>(by simp at hj),fun d hd=>?_,fun d hd=>?_,fun h=>(by cases h)⟩,fun d hd=>?_⟩
              .unfold jQ;simp only[vH,JJ,hint,a2Y,zK,s1,a2c,hrn,hn,s2,a2d,hle,nJ KE JD,p4,ne_eq,not_true_eq_false,p5,p8,a6Y,p1,or_self]
              .rcases a1Y.1 hj with e0|e0
               .cases e0
               .exact absurd e0 o8
              .simp at hd;subst hd;exact .inl ⟨b,by simp,iO g1 vg⟩
              .rcases a1Y.1 hd with e0|e0
               .cases e0;exact⟨.inl ⟨b,a3N,iO g1 vg⟩,aS⟩
               .obtain⟨h0,h9⟩:=vk hr hx hz hs e0;rcases h0 with⟨i,h1,h2⟩|h1
                .exact⟨.inl ⟨i,a3O _ h1,h2⟩,h9⟩
                .exact⟨.inr h1,h9⟩
              .simp at hd;subst hd;exact bf g1 vg
         |_=>exact g2.elim
        .cases hl
       .cases hl
      .-- a full frozen list
       rename_i t' l;split at hl
       .rename_i l2 O9;obtain⟨rfl,rfl⟩:=uj O9;simp only[a00,a0S]at hl;obtain⟨rfl,rfl,rfl,rfl⟩:=hl;have JD:l2.length+rows.length<=ah:=hq _ a3N;have FZ:l2=[]∨rows≠[]:=hq _ (a3O _ a3N);cases hd with
        |gone hi _ _=>simp[bg]at hi
        |nZ=>
         simp only[abn];by_cases hn:rows=[]
         .subst hn;obtain⟨m1,f1,f2,f3,f4⟩:=O7 hr is (k:=true) (ex:=false) (e:=t');exact⟨_,ts.heap,_,m1,by unfold jQ;simp only[vH,JJ,hint,a2Y,zK,s1,a5J,a2d,a2c],f1,f4,f2,f3,hk0,fun c hc=>by simp[gX]at hc⟩
         .obtain⟨m1,f1,f2,f3,f4⟩:=qj hr is (k:=true) (ex:=false) (x:=false) s3 s2 hn hz h0 (by simp);refine⟨_,ts.heap++[.cells .own new],_,m1,?_,f1,f4,f2,f3,hk0,fun c hc=>by simp[gX]at hc⟩;unfold jQ;simp only[vH,JJ,hint,a2Y,zK,s1,a2c,hrn,hn,s2,a2d,nJ KE (show rows.length<=ah by omega)]
        |dw p1 p2 p2' p3 p4 p5 p6 p7 p8 p9=>
         rename_i c off cap sz xx cs;rw[hz]at p3;cases p3;obtain⟨rfl,rfl⟩:=p7 rfl;have hk3:IR m ts.heap ⟨gX (CB X x),false,false,true⟩ (gX (.h c::dF tx)):=IR.reads rfl (fun d hd=>by
          rcases a1Y.1 hd with e0|e0
          .cases e0;exact⟨.inr p1.2,gK p2⟩
          .exact vk hr hx hz hs e0) fun j hj=>by
           rcases a1Y.1 hj with e0|e0
           .cases e0
           .exact o8 e0
         by_cases hn:rows=[]
         .have qy:l2=[]:=by rcases FZ with h1|h1;exact h1;exact absurd hn h1
          subst hn;subst qy;obtain⟨m1,f1,f2,f3,f4⟩:=push_empty hr is (k:=true) (ex:=false) hz h0 (.inl p1) p2 (by simpa using p5);exact⟨_,ts.heap,_,m1,by unfold jQ;simp only[vH,JJ,hint,a2Y,zK,s1,a5J,a2d,a2c],f1,f4,f2,f3,hk0,fun c hc=>by simp[gX]at hc⟩
         .have hle:¬l2.length+rows.length<=l2.length:=by
           have:rows.length≠0:=fun e0=>hn (hrn.1 e0);omega
          have hw1:dV X P (FA A m is) (bU is m) ts.heap t' l2 ((cs.drop off).take (l2.length*size)) 0 size:=by
           have hh:dV X P (AA A m) m ts.heap t' l2 cs off size:=⟨p8,p5,p9⟩;exact(hh.take.mono fun c hc=>.inl hc).jc hX
          have hlen:((cs.drop off).take (l2.length*size)).length=l2.length*size:=by rw[a3R,a3S];omega
          obtain⟨m1,f1,f2,f3,f4⟩:=qj hr is (k:=true) (ex:=false) (x:=false) (hw1.app s3 hlen) (by rw[a2a,a2a,a3Q,hlen,s2]) (by simp[hn]) hz h0 (by simp);refine⟨_,ts.heap++[.cells .own ((cs.drop off).take (l2.length*size)++new)],_,m1,?_,f1,f4,f2,f3,hk3,fun c hc=>by simp[gX]at hc⟩;have pK:fE size ts.heap (.slc c off l2.length l2.length size true)=some (l2.length,(cs.drop off).take (l2.length*size)):=by
           simp only[fE,a2d,sub];by_cases qy:l2.length=0
           .rw[a0h qy,qy,ad3,List.take_zero]
           .rw[a0g qy,p2' (fun e0=>qy (by rw[e0];rfl))];simp only;rw[a0h p5];rfl
          unfold jQ;simp only[vH,JJ,hint,a2Y,zK,s1,a2c,hrn,hn,s2,a2d,hle,nJ KE JD,pK,a0T,a2a]
       .cases hl
      .cases hl
     .cases hl
    .cases hl
   .cases hl
 .cases hl
end
open Go Tw
theorem WI{α:Type}{l rows:List α}{o k:Nat}(h:o+k<=l.length)(hk:k<=rows.length):(NV l o k rows).length=l.length:=by
 unfold NV;simp;omega
theorem a2F{α:Type}{l rows:List α}{o:Nat}:NV l o 0 rows=l:=by unfold NV;simp
section
variable {X:kE} {P:Program} {A F:Nat->Prop} {m m':List MB} {h h':List HB} {H H':List (PB X.Γ)}
theorem dV.put{t sz o k:Nat}{l rows:List (X.Γ t)}{cs new:List TV}(h1:dV X P F m h t l cs 0 sz)(h2:dV X P F m h t rows new 0 sz)(hc:cs.length=l.length*sz)(hn:new.length=rows.length*sz)(ho:o+k<=l.length)(hk:k<=rows.length) :
  dV X P F m h t (NV l o k rows) (cs.take (o*sz)++new.take (k*sz)++cs.drop (o*sz+k*sz)) 0 sz:=by
 have a1:=(h1.part (o:=0) (n:=o) (by omega)).take;have a2:=(h2.part (o:=0) (n:=k) (by omega)).take;have a3:=(h1.part (o:=o+k) (n:=l.length-(o+k)) (by omega)).take;have l1:((l.drop 0).take o).length=o:=by simp;omega
 have l2:((rows.drop 0).take k).length=k:=by simp;omega
 have l3:((l.drop (o+k)).take (l.length-(o+k))).length=l.length-(o+k):=by simp
 rw[l1]at a1;rw[l2]at a2;rw[l3]at a3;simp only[ad3,adz,a3U,abt]at a1 a2 a3;have m1:o*sz<=cs.length:=by rw[hc];exact a3P _ (by omega)
 have m2:k*sz<=new.length:=by rw[hn];exact a3P _ hk
 have r:=(a1.app a2 (by rw[a3R,a3R];rw[a8s m1,a8s (by omega)])).app a3 (by
  simp only[a2a,a3R];rw[a8s m1,a8s m2,a8s (by omega),a8s hk,a3Q])
 have e1:l.drop (o+k)=(l.drop (o+k)).take (l.length-(o+k)):=by rw[a9H (by simp)]
 have e2:cs.drop (o*sz+k*sz)=(cs.drop ((o+k)*sz)).take ((l.length-(o+k))*sz):=by
  rw[a3Q,a9H];rw[a3S,hc,Nat.sub_mul,a3Q];omega
 unfold NV;rw[e1,e2];exact r
theorem DT(hX:bM X P){ps:aQ X.Γ}{ts:St}(hR:uK X P A m ps ts){at_:Array TypeId}{st e size b o n:Nat}{k0 ex:Bool}{l rows:List (X.Γ e)}{x:PV X.Γ}{td tx:TV}(vH:at_[0]? = some st)(zK:jw P st=some (e,size))(hx:VR X P (AA A m) m ts.heap x tx)
  (hs:A8 X ps.heap e size x=some (rows,[])) (hb:ps.heap[b]? = some (.list k0 ex e l)) {mb:MB} (g1:m[b]? = some mb) (g2:BR X P (AA A m) m ts.heap (.list k0 ex e l) mb)
  (htd:(∃c sz' xx' xx cap,mb=.dw (.slc c 0 l.length l.length sz' xx')∧l≠[]∧td=.slc c (o*sz') n cap sz' xx∧(n=0∨o+cap=l.length))∨(n=0∧(td=.nil .slc∨∃c f cap xx,td=.slc c f 0 cap size xx))) (hon:o+n<=l.length) (Nk:isStr tx=false) :
  WH X P A m ts (FX P at_ ts td tx) (.int .i64 ((min rows.length n:Nat):Int)) (ps.heap.set b (.list k0 ex e (NV l o (min rows.length n) rows))) ⟨⟨false,.h b::CB X x,[.h b]⟩,false,false,true⟩:=by
 have hr:=hR.heap;obtain⟨hz,h0⟩:=nK zK;obtain⟨new,s1,s2,s3⟩:=Uo (m':=m) hX hr hx hz hs;have TT:dV X P (AA A m) m ts.heap e rows new 0 size:=s3.mono fun q hq=>by
  rcases hq with hq|⟨i,_,hi,_⟩
  .exact hq
  .simp at hi
 have lN:IR m ts.heap ⟨⟨false,.h b::CB X x,[.h b]⟩,false,false,true⟩ (gX (dF tx)):=IR.reads rfl (fun d hd=>by
  obtain⟨h0,h9⟩:=vk hr hx hz hs hd;rcases h0 with⟨i,h1,h2⟩|h1
  .exact⟨.inl ⟨i,a3O _ h1,h2⟩,h9⟩
  .exact⟨.inr h1,h9⟩) fun j hj=>o8 hj
 have same:ps.heap.set b (.list k0 ex e l)=ps.heap:=by
  apply a9q;intro i;by_cases e:b=i
  .subst e;rw[a2k (a04.1 hb).1,hb]
  .rw[a1D e]
 by_cases hk:min rows.length n=0
 .rw[hk,a2F,same];refine⟨.int .i64 0,ts.heap,gX (dF tx),m,?_,hr,.int _ _,.refl,.refl,lN,fun c hc=>by simp[gX]at hc⟩;unfold FX;simp only[vH,zK,s1,s2,Nk,adf,a2d];rcases htd with⟨c,sz',xx',xx,cap,rfl,iy,rfl,vT⟩|⟨rfl,rfl|⟨c,f,cap,xx,rfl⟩⟩
  .have:sz'=size:=by cases g2 with|some _ q2 _ _ _ _ _ _ _=>rw[hz]at q2;cases q2;rfl|emp=>exact absurd rfl iy
   simp only[this,a2d,hk]
  .rfl
  .simp only[a2d,hk]
 .rcases htd with⟨c,sz',xx',xx,cap,rfl,iy,rfl,vT⟩|⟨rfl,_⟩
  .cases g2 with
   |emp=>exact absurd rfl iy
   |some p1 p2 p3 p4 p5 p6 p7 p8 p9=>
    rename_i kk cs;rw[hz]at p2;cases p2;obtain⟨Ba,xH,adX,hko⟩:=II p5;have ahU:o*size+cap*size=cs.length:=by
     have:=vT.resolve_left (by omega);rw[p8,<-this,a3Q]
    have aS:=(a04.1 p4).1;have vg:(MB.dw (TV.slc c 0 l.length l.length size xx')).own=some c:=by simp only[MB.own];rw[a0g (by simpa using p1)]
    have hkn:o+min rows.length n<=l.length:=(by omega);have hkr:min rows.length n<=rows.length:=Nat.min_le_left _ _;have m1:o*size+min rows.length n*size<=cs.length:=by rw[p8,<-a3Q];exact a3P _ hkn
    have m2:min rows.length n*size<=new.length:=by rw[s2];exact a3P _ hkr
    have m3:min (min rows.length n*size) (rows.length*size)=min rows.length n*size:=a8s (by rw[<-s2];exact m2);have anB:=dV.put p9 TT p8 s2 hkn hkr;have pJ:(cs.take (o*size)++new.take (min rows.length n*size)++cs.drop (o*size+min rows.length n*size)).length=cs.length:=by simp;omega
    have hl:=WI (rows:=rows) hkn hkr;obtain⟨q1,q2⟩:=hr.set (i:=b) (c:=c) (pb:=.list k0 ex e (NV l o (min rows.length n) rows)) (hb:=.cells Ba (cs.take (o*size)++new.take (min rows.length n*size)++cs.drop (o*size+min rows.length n*size))) g1 vg
     (fun WE JH=>⟨_,by simp only[aV];rw[a2k aS],by
      simp only[aV,p4,a00]at JH;subst JH;rw[pJ];exact a15 _⟩)
     (fun hF=>by
      have ah2:NV l o (min rows.length n) rows≠[]:=fun e0=>by rw[e0]at hl;simp at hl;exact p1 (a6Y.1 hl.symm)
      have r:=LR.some (k:=k0) (ex:=ex) (e:=xx') ah2 hz p3 (by rw[a2k aS]) adX (fun e0=>hko (p6 e0)) p7 (by rw[pJ,hl,p8]) (anB.step hF .refl);rw[hl]at r;exact r)
    refine⟨.int .i64 ((min rows.length n:Nat):Int),_,⟨false,.h c::dF tx,[.h c]⟩,m,?_,q1,.int _ _,q2,.refl,?_,fun d hd=>?_⟩
    .unfold FX;simp only[vH,zK,s1,s2,Nk,adf,a2d,hk,a2Y,a0K p4 xH ahU,vM,a3R,m3,m1,a0T]
    .refine⟨fun h=>(by cases h),fun k hk=>?_,fun k hk=>(by simp at hk),fun d hd=>?_,fun d hd=>?_,fun h=>(by cases h)⟩
     .rcases a1Y.1 hk with e0|e0
      .cases e0
      .exact absurd e0 o8
     .simp at hd;subst hd;exact .inl ⟨b,a3N,iO g1 vg⟩
     .rcases a1Y.1 hd with e0|e0
      .cases e0;exact⟨.inl ⟨b,a3N,iO g1 vg⟩,aS⟩
      .obtain⟨h0,h9⟩:=vk hr hx hz hs e0;rcases h0 with⟨i,h1,h2⟩|h1
       .exact⟨.inl ⟨i,a3O _ h1,h2⟩,h9⟩
       .exact⟨.inr h1,h9⟩
    .simp at hd;subst hd;exact bf g1 vg
  .simp at hk
theorem a5E(hr:HR X P A m H h){e sz:Nat}{x:PV X.Γ}{tx:TV}(hv:VR X P (AA A m) m h x tx){rows:List (X.Γ e)}{is:List Nat}(hs:A8 X H e sz x=some (rows,is)):isStr tx=false:=by
 cases hv with
 |own e' _=>
  unfold A8 at hs;simp only at hs;split at hs
  .rename_i hb;obtain⟨mb,g1,g2⟩:=hr.at_ _ _ hb;rw[e']at g1;cases g1;cases g2<;>rfl
  cases hs
 |gone hi e' _=>
  cases x<;>simp only[bg,a00]at hi<;>first|cases hi|skip
  all_goals (unfold A8 at hs;simp only at hs)
  all_goals first|(cases hs;done)|skip
  all_goals
   split at hs
   .rename_i hb;obtain⟨mb,g1,g2⟩:=hr.at_ _ _ hb;rw[g1]at e';cases e'<;>exact g2.elim
   .cases hs
 |str=>simp[A8]at hs
 |_=>rfl
theorem dV.vrs{t sz:Nat}:∀{l:List (X.Γ t)} {cs:List TV},dV X P F m h t l cs 0 sz->cs.length=l.length*sz->bV X P F m h (Em X t l) cs
 | [],cs,_,hl=>by
  have:cs=[]:=a6Y.1 (by simpa using hl);subst this;exact .nil
 |a::r,cs,hw,hl=>by
  have h1:=hw.row (j:=0) (a:=a) rfl;have h2:=(hw.part (o:=1) (n:=r.length) (by simp;omega)).take;have e1:((a::r).drop 1).take r.length=r:=by simp
  rw[e1]at h2;have hl':cs.length=r.length*sz+sz:=by rw[hl,a3V,a3Q,adv]
  have e2:(cs.drop (0+1*sz)).take (r.length*sz)=cs.drop sz:=by
   rw[a3U,adv,a9H];rw[a3S];omega
  rw[e2]at h2;have h3:=dV.vrs h2 (by rw[a3S];omega);have h4:bV X P F m h (X.enc t a) (cs.take sz):=by
   have:=h1.1;simpa using this
  have:=h4.app h3;rw[List.take_append_drop]at this;exact this
theorem TU(hX:bM X P){ps:aQ X.Γ}{ts:St}(hR:uK X P A m ps ts){at_:Array TypeId}{d x:PV X.Γ}{td tx:TV}(hd:VR X P (AA A m) m ts.heap d td)(hx:VR X P (AA A m) m ts.heap x tx){v:PV X.Γ}{H1:List (PB X.Γ)}{pi:lD}
  (hl:a5k X P at_ ps.heap d x=some (v,H1,pi)):WH X P A m ts (FX P at_ ts td tx) v H1 ⟨pi,false,false,true⟩:=by
 have hr:=hR.heap;unfold a5k at hl;split at hl
 .rename_i st vH;split at hl
  .rename_i e size zK;obtain⟨hz,h0⟩:=nK zK;split at hl
   .rename_i rows hs;obtain⟨new,s1,s2,s3⟩:=Uo (m':=m) hX hr hx hz hs;have Nk:isStr tx=false:=a5E hr hx hs;split at hl
    .simp only[a00,a0S]at hl;obtain⟨rfl,rfl,rfl⟩:=hl;have:td=.nil .slc:=by
      cases hd with
      |nil=>rfl
      |gone hi _ _=>simp[bg]at hi
     subst this;exact⟨_,ts.heap,_,m,by unfold FX;simp only[vH,zK,s1,s2,Nk,adf,a2d],hr,.int _ _,.refl,.refl,IR.reads rfl (fun b hb=>vk hr hx hz hs hb) fun k=>o8,fun b hb=>by simp[gX]at hb⟩
    .rename_i b;split at hl
     .rename_i k0 ex t' l hb;split at hl
      .rename_i l2 O9;obtain⟨rfl,rfl⟩:=uj O9;simp only[a00,a0S]at hl;obtain⟨rfl,rfl,rfl⟩:=hl;obtain⟨mb,g1,g2⟩:=hr.at_ b _ hb;refine DT (o:=0) (n:=l2.length) hX hR vH zK hx hs hb g1 g2 ?_ (by omega) Nk;cases hd with
       |gone hi e' _=>simp only[bg,a00]at hi;subst hi;rw[g1]at e';cases e'<;>exact g2.elim
       |own e' o=>
        rw[g1]at e';cases e';cases g2 with
        |nil=>exact .inr ⟨rfl,.inl rfl⟩
        |emp q1 q2 q3 q4 q5=>rw[hz]at q4;cases q4;exact .inr ⟨rfl,.inr ⟨_,_,_,_,rfl⟩⟩
        |some q1 q2=>rw[hz]at q2;cases q2;exact .inl ⟨_,_,_,_,_,rfl,q1,by rw[ad3],.inr (a3U _)⟩
      .cases hl
     .cases hl
    .rename_i b o n;split at hl
     .rename_i k0 ex t' l hb;split at hl
      .rename_i l2 O9;obtain⟨rfl,rfl⟩:=uj O9;simp only[a00,a0S]at hl;obtain⟨rfl,rfl,rfl⟩:=hl;obtain⟨mb,g1,g2⟩:=hr.at_ b _ hb;cases hd with
       |gone hi e' _=>simp only[bg,a00]at hi;subst hi;rw[g1]at e';cases e'<;>exact g2.elim
       |win e' o1 o2 o3=>
        rw[g1]at e';cases e';cases g2 with
        |emp q1 q2 q3 q4 q5=>
         rw[hz]at q4;cases q4;have:n=0:=(by omega);subst this;exact DT hX hR vH zK hx hs hb g1 (LR.emp q1 q2 q3 hz q5) (.inr ⟨rfl,.inr ⟨_,_,_,_,rfl⟩⟩) o1 Nk
        |some q1 q2 q3 q4 q5 q6 q7 q8 q9=>exact DT hX hR vH zK hx hs hb g1 (LR.some q1 q2 q3 q4 q5 q6 q7 q8 q9) (.inl ⟨_,_,_,_,_,rfl,q1,by rw[a3U],o3⟩) o1 Nk
       |Ac e'=>
        rw[g1]at e';cases e';exact DT hX hR vH zK hx hs hb g1 g2 (.inr ⟨rfl,.inl rfl⟩) (by omega) Nk
      .cases hl
     .cases hl
    .rename_i b off len cap sz xx;split at hl
     .rename_i cs hb;split at hl
      .rename_i hc;obtain⟨hc1,JH⟩:=hc;subst hc1;simp only[a09,a0S]at hl;obtain⟨RG,h1,rfl,rfl,rfl⟩:=hl;obtain⟨mb,g1,g2⟩:=hr.at_ b _ hb;cases mb with
       |fV c=>
        obtain⟨cs',g3,g4⟩:=g2;cases hd with
        |gone hi e _=>simp only[bg,a00]at hi;subst hi;rw[g1]at e;cases e
        |slc e=>
         rw[g1]at e;cases e;have TT:dV X P (AA A m) m ts.heap _ rows new 0 sz:=s3.mono fun q hq=>by
          rcases hq with hq|⟨i,_,hi,_⟩
          .exact hq
          .simp at hi
         have hv:=(TT.vrs s2).take (min rows.length len*sz);obtain⟨IK,g5,g6⟩:=GH g4 hv h1;have hlen:IK.length=cs'.length:=by
          unfold vM at g5;split at g5
          .cases g5;simp only[a2a,a3R,a3S]at *;omega
          .cases g5
         have aS:=(a04.1 g3).1;obtain⟨hr1,hF⟩:=hr.set (pb:=.cells RG) (hb:=.cells .own IK) g1 (c:=c) rfl (fun WE WG=>⟨IK,by simp[aV,aS],by
          simp only[aV,g3,a00]at WG;subst WG;omega⟩) fun hF=>⟨IK,by simp[aS],g6.step hF .refl⟩
         refine⟨.int .i64 ((min rows.length len:Nat):Int),_,⟨false,.h c::dF tx,[.h c]⟩,m,?_,hr1,.int _ _,hF,.refl,?_,fun d hd=>?_⟩
         .unfold FX;simp only[vH,zK,s1,s2,Nk,adf,a2d];rw[a0g (by omega),Wy g3,g5];rfl
         .refine⟨fun h=>(by cases h),fun k hk=>?_,fun k hk=>(by simp at hk),fun d hd=>?_,fun d hd=>?_,fun h=>(by cases h)⟩
          .rcases a1Y.1 hk with e0|e0
           .cases e0
           .exact absurd e0 o8
          .simp at hd;subst hd;exact .inl ⟨b,a3N,iO g1 rfl⟩
          .rcases a1Y.1 hd with e0|e0
           .cases e0;exact⟨.inl ⟨b,a3N,iO g1 rfl⟩,aS⟩
           .obtain⟨h0,h9⟩:=vk hr hx hz hs e0;rcases h0 with⟨i,h1,h2⟩|h1
            .exact⟨.inl ⟨i,a3O _ h1,h2⟩,h9⟩
            .exact⟨.inr h1,h9⟩
         .simp at hd;subst hd;exact bf g1 rfl
       |_=>exact g2.elim
      .cases hl
     .cases hl
    .cases hl
   .cases hl
  .cases hl
 .cases hl
end
open Go Tw
section
variable {X:kE} {P:Program} {A F:Nat->Prop} {m m':List MB} {h h':List HB} {H H':List (PB X.Γ)}
theorem VPs.mJ{ps:List (Nat×PV X.Γ)}{qs:List (Nat×TV)}(hp:VPs X P A m h ps qs):qs.all (fun p=>p.2.cells.all iQ)=ps.all fun p=>p.2.cells.all YV:=by
 induction ps generalizing qs with
 |nil=>
  have:=hp.1;cases qs with
  |nil=>rfl
  |cons=>simp at this
 |cons a ps ih=>
  obtain⟨x,r,rfl,h1,h2⟩:=hp.inv;simp only[abJ,DN (Gz h1),ih h2]
theorem WJ{pl:Nat->Option (Nat×Nat)}:∀{qs:List (Nat×TV)} {xs r:List TV},rU pl xs qs=some r->r.length=xs.length
 | [],xs,r,h=>by simp only[rU,a00]at h;rw[h]
 |(i,v)::qs,xs,r,h=>by
  simp only[rU]at h;split at h
  .split at h
   .split at h
    .rename_i cs' ho;rw[WJ h];unfold vM at ho;split at ho
     .cases ho;simp only[a2a,a3R,a3S];omega
     cases ho
    cases h
   cases h
  cases h
theorem nS{z:List TV}:∀n,(times z n).length=n*z.length
 | 0=>by simp[times]
 |n+1=>by simp[times,nS n,a3Q];omega
theorem tJ(hX:bM X P){ps:aQ X.Γ}{ts:St}(hR:uK X P A m ps ts){t:TypeId}{len:Nat}{vs:List (Nat×PV X.Γ)}{xs:List (Nat×TV)}(hv:VPs X P (AA A m) m ts.heap vs xs){v:PV X.Γ}{H1:List (PB X.Γ)}
  {raw:Bool} (hl:xP X P t len ps.heap vs raw=some (v,H1)):WH X P A m ts ((qg P t len ts xs).map fun(v,s)=>(v,s,cu)) v H1 wZ:=by
 have hr:=hR.heap;unfold xP at hl;split at hl
 .rename_i e n zK;obtain⟨hz,h0⟩:=nK zK;split at hl
  .rename_i hc;split at hl
   .rename_i z hzz;obtain⟨z',q1,q2⟩:=GI (A:=AA A m) (m:=m) (h:=ts.heap) hzz;split at hl
    .rename_i Yg;split at hl
     .rename_i cs hf;obtain⟨cs',q3,q4⟩:=LD hv (WA q2 len) hf;have hlen:cs'.length=len*n:=(by rw[WJ q3,nS,<-q2.1,Yg]);have hT:∀w h1,(w,h1)=(TV.slc ts.heap.length 0 len len n true,ts.heap++[HB.cells .own cs'])->(qg P t len ts xs).map (fun(v,s)=>(v,s,cu))=some (w,{ ts with heap:=h1 },cu):=by
       intro w h1 e0;cases e0;simp only[qg,zK,hv.mJ,hc,adf,a2d,q1,<-q2.1,Yg,q3,a0T]
      split at hl
      .rename_i rows is hd;cases hl;have hd:xO X ps.heap e n len cs=some (rows,is):=by
        split at hd
        .cases hd
        .exact hd
       obtain⟨e1,hw⟩:=Ag (m':=bU is m) hX hr q4 hd;by_cases hn:rows=[]
       .subst hn;have e2:len=0:=(by simpa using e1.symm);subst e2;have QM:cs'=[]:=a6Y.1 (by omega);subst QM;have GU:HR X P A (bU is m++[.dw (.slc ts.heap.length 0 0 0 n true)]) (aY is ps.heap++[.list true true e []]) (ts.heap++[.cells .own []])∧_:=(hr.aY is).push (pb:=.list true true e []) (hb:=.cells .own []) (mb:=.dw (.slc ts.heap.length 0 0 0 n true)) (.inr rfl)
         (LR.emp (b:=ts.heap.length) (cs:=[]) ⟨hr.up _ (a15 _),fun hm=>by
          rw[iW,a3K,jT]at hm;simp[MB.own]at hm;have:=(hr.aY is).inb hm;omega⟩ (by simp[aV]) (a15 _) hz h0)
        have Qi:=iq (h:=ts.heap) is m;refine⟨_,_,_,_,hT _ _ rfl,GU.1,.own ?_ rfl,Qi.1.trans GU.2.1,Qi.2.trans GU.2.2,.none,fun b hb=>by cases hb⟩;rw[<-hr.len,<-lQ is m];simp
       .have GU:=qj hr is (k:=true) (ex:=true) (x:=true) hw (by rw[hlen,e1]) hn hz h0 (by simp);obtain⟨m1,g1,g2,g3,g4⟩:=GU;refine⟨_,_,_,m1,hT _ _ rfl,g1,?_,g2,g3,.none,fun b hb=>by cases hb⟩;rw[e1]at g4;exact g4
      .cases hl;have hp:=hr.push (pb:=.cells cs) (hb:=.cells .own cs') (mb:=.fV ts.heap.length) (.inl rfl) ⟨cs',by simp,q4.step (by
        refine⟨by simp,fun b hb _=>by rw[a0e hb],fun b hb=>?_,fun b cs hc=>⟨cs,by rw[fM (a0e (gK hc)),hc],a15 _⟩⟩;rw[iW,a3K,jT]at hb;rcases hb with hb|hb
        .exact .inl hb
        .simp[MB.own]at hb;exact .inr (by omega)) (wu _)⟩
       exact⟨_,_,_,_,hT _ _ rfl,hp.1,.slc (by rw[<-hr.len];simp),hp.2.1,hp.2.2,.none,fun b hb=>by cases hb⟩
     .cases hl
    .cases hl
   .cases hl
  .cases hl
 .cases hl
theorem Oa{k:IntKind}{n:Int}{x:TV}(hv:VR X P A m h (.int k n) x):x=.int k n:=by
 cases hv with
 |int=>rfl
 |gone hi _ _=>simp[bg]at hi
theorem WL{t sz:Nat}{a:X.Γ t}{z:List TV}(ha:bV X P F m h (X.enc t a) z)(hz:z.length=sz):∀n,dV X P F m h t (List.replicate n a) (times z n) 0 sz
 | 0=>⟨fun j a hj=>by simp at hj,by simp,fun j a i c v hj=>by simp at hj⟩
 |n+1=>by
  have h1:dV X P F m h t [a] z 0 sz:=by
   refine⟨fun j b hj=>?_,by simp[hz],fun j b i c v hj hi hx=>?_⟩
   .cases j with
    |zero=>simp only[a2J,a00]at hj;subst hj;rw[ha.1,hz]
    |succ j=>simp at hj
   cases j with
   |zero=>simp only[a2J,a00]at hj;subst hj;exact ha.2 i c v hi (by simpa using hx)
   |succ j=>simp at hj
  have:=h1.app (WL ha hz n) (by simp[hz]);simpa[afl,times]using this
theorem zU(hX:bM X P){ps:aQ X.Γ}{ts:St}(hR:uK X P A m ps ts){t:TypeId}{l c:PV X.Γ}{tl tc:TV}(hvl:VR X P (AA A m) m ts.heap l tl)(hvc:VR X P (AA A m) m ts.heap c tc){v:PV X.Γ}{H1:List (PB X.Γ)}{qs:List Prop}
  (hl:Fv X P t ps.heap l c=some (v,H1,qs)) (hq:∀q∈qs,q):WH X P A m ts ((rZ P t ts tl tc).map fun(v,s)=>(v,s,cu)) v H1 wZ:=by
 have hr:=hR.heap;unfold Fv at hl;split at hl
 .rename_i e n kl li kc ci zK;obtain⟨hz,h0⟩:=nK zK;rw[Oa hvl,Oa hvc];split at hl
  .rename_i KE;split at hl
   .rename_i z hzz;obtain⟨z',q1,q2⟩:=GI (A:=AA A m) (m:=m) (h:=ts.heap) hzz;split at hl
    .rename_i Yg;split at hl
     .rename_i a ha;cases hl;have e1:li=ci:=hq _ (by simp);have e2:0<=li:=hq _ (by simp);have e3:li<=(ah:Nat):=hq _ (by simp);subst e1;have hm:li.toNat<=ah:=(by omega);have hm2:ah=2^20:=rfl;have hz2:z'.length=n:=by rw[<-q2.1];exact Yg
      have hT:∀w h1,(w,h1)=(TV.slc ts.heap.length 0 li.toNat li.toNat n true,ts.heap++[HB.cells .own (times z' li.toNat)])->(rZ P t ts (.int kl li) (.int kc li)).map (fun(v,s)=>(v,s,cu))=some (w,{ ts with heap:=h1 },cu):=by
       intro w h1 e0;cases e0;have hN:∀k,a1T (.int k li)=some li.toNat:=fun k=>by
        have h9:li<=2^40:=by
         have:((2^20:Nat):Int)<=2^40:=(by decide);rw[hm2]at e3;omega
        simp only[a1T];rw[a0h ⟨e2,h9⟩]
       simp only[rZ,zK,hN,a15,true_and,nJ KE hm,a2d,q1,hz2,a0T]
      have yx:=WL (m:=m) (h:=ts.heap) (F:=AA A m) (hX.dec ha q2) hz2 li.toNat;have hlen:(times z' li.toNat).length=li.toNat*n:=(by rw[nS,hz2]);by_cases hn:li.toNat=0
      .rw[hn]at hT ⊢;simp only[List.replicate_zero];have GU:=hr.push (pb:=.list true true e []) (hb:=.cells .own (times z' 0)) (mb:=.dw (.slc ts.heap.length 0 0 0 n true)) (.inr rfl)
         (LR.emp (b:=ts.heap.length) (cs:=times z' 0) ⟨hr.up _ (a15 _),fun hm=>by
          rw[iW,a3K,jT]at hm;simp[MB.own]at hm;have:=hr.inb hm;omega⟩ (by simp[aV]) (a4v _) hz h0)
       exact⟨_,_,_,_,hT _ _ rfl,GU.1,.own (by rw[<-hr.len];simp) rfl,GU.2.1,GU.2.2,.none,fun b hb=>by cases hb⟩
      .obtain⟨m1,g1,g2,g3,g4⟩:=qj hr [] (k:=true) (ex:=true) (x:=true) (rows:=List.replicate li.toNat a) (yx.mono fun b hb=>.inl hb) (by rw[a8v];exact hlen) (by intro e0;exact hn (by simpa using congrArg List.length e0)) hz h0 (by simp);refine⟨_,_,_,m1,hT _ _ rfl,g1,?_,g2,g3,.none,fun b hb=>by cases hb⟩;rw[a8v]at g4;exact g4
     .cases hl
    .cases hl
   .cases hl
  .cases hl
 .cases hl
end
open Go Tw
section
variable {X:kE} {P:Program} {A F:Nat->Prop} {m m':List MB} {h h':List HB} {H H':List (PB X.Γ)}
theorem Ai{o:Option (PV X.Γ)}{to:Option TV}(ho:OR X P A m h o to){d n:Nat}{a:Int}(he:yV X d o=some a)(h0:0<=a)(h1:a<=n):jl n d to=some a.toNat:=by
 cases o with
 |none=>
  cases to with
  |none=>simp only[yV,a00]at he;subst he;simp[jl]
  |some=>exact ho.elim
 |some v=>
  cases to with
  |none=>exact ho.elim
  |some x=>
   cases v<;>simp only[yV]at he<;>try (cases he;done)
   cases he;rw[Oa ho];simp only[jl,qC];rw[a0h ⟨h0,h1⟩]
theorem Ob{k:IntKind}{n:Int}{to:Option TV}(ho:OR X P A m h (some (.int k n)) to):to=some (.int k n):=by
 cases to with
 |none=>exact ho.elim
 |some x=>rw[Oa ho]
theorem qN{to:Option TV}(ho:OR X P A m h none to):to=none:=by
 cases to with
 |none=>rfl
 |some x=>exact ho.elim
theorem LJ{v:PV X.Γ}{to:Option TV}(ho:OR X P A m h (some v) to):∃x,to=some x:=by
 cases to with
 |none=>exact ho.elim
 |some x=>exact⟨x,rfl⟩
theorem ae0{t e:TypeId}{b off len cap sz:Nat}{ex:Bool}(hu:P.underlying t=some (.slice e))(hz:dB P e=some sz){lo hi:Option (PV X.Γ)}{Qj Qk:Option TV}(h1:OR X P A m h lo Qj)(h2:OR X P A m h hi Qk){a z:Int}(e1:yV X 0 lo=some a)(e2:yV X len hi=some z)
  (q0:0<=a) (q1:a<=z) (q2:z<=len):qE P t (.slc b off len cap sz ex) Qj Qk none=some (.slc b (off+a.toNat*sz) (z.toNat-a.toNat) (cap-a.toNat) sz ex):=by
 have g1:=Ai h1 e1 (n:=z.toNat) q0 (by omega);have g2:=Ai h2 e2 (n:=len) (by omega) q2;simp only[qE,hu,hz,a2d,g2,g1]
theorem a9n{t e:TypeId}{b off len cap sz:Nat}{ex:Bool}(hu:P.underlying t=some (.slice e))(hz:dB P e=some sz){lo hi:Option (PV X.Γ)}{Qj Qk:Option TV}(h1:OR X P A m h lo Qj)(h2:OR X P A m h hi Qk){a z:Int}(e1:yV X 0 lo=some a)(e2:yV X len hi=some z)(hs:hi.isSome)
  (q0:0<=a) (q1:a<=z) (q2:z<=len) (vT:len<=cap) {k:IntKind}:qE P t (.slc b off len cap sz ex) Qj Qk (some (.int k z))=some (.slc b (off+a.toNat*sz) (z.toNat-a.toNat) (z.toNat-a.toNat) sz true):=by
 have g1:=Ai h1 e1 (n:=z.toNat) q0 (by omega);obtain⟨hv,rfl⟩:=a5j.1 hs;obtain⟨x,rfl⟩:=LJ h2;have g3:qC cap (.int k z)=some z.toNat:=by simp only[qC];rw[a0h (by omega)]
 have g2:qC (min z.toNat len) x=some z.toNat:=by
  cases hv<;>simp only[yV]at e2<;>try (cases e2;done)
  cases e2;rw[Oa (show VR X P A m h _ x from h2)];simp only[qC];rw[a0h (by omega)]
 simp only[qE,hu,hz,a2d,g3,g2,g1]
theorem Zf{t e:TypeId}{sz:Nat}(hu:P.underlying t=some (.slice e))(hz:dB P e=some sz){lo hi:Option (PV X.Γ)}{Qj Qk:Option TV}(h1:OR X P A m h lo Qj)(h2:OR X P A m h hi Qk){a z:Int}(e1:yV X 0 lo=some a)(e2:yV X 0 hi=some z)(q0:a=0)(q1:z=0) :
  qE P t (.nil .slc) Qj Qk none=some (.nil .slc)∧∀{k:IntKind},hi.isSome->qE P t (.nil .slc) Qj Qk (some (.int k 0))=some (.nil .slc):=by
 subst q0;subst q1;have g1:=Ai h1 e1 (n:=0) (by omega) (by omega);have g2:=Ai h2 e2 (n:=0) (by omega) (by omega);have g0:jl 0 0 none=some 0:=rfl;refine⟨by simp only[qE,hu,hz,g0,g1,g2];rfl,fun{k} hs=>?_⟩;obtain⟨hv,rfl⟩:=a5j.1 hs;obtain⟨x,rfl⟩:=LJ h2;have g3:jl 0 0 (some (.int k 0))=some 0:=rfl;simp only[qE,hu,hz,g1,g2,g3] ;rfl
theorem Nc{ps:aQ X.Γ}{ts:St}(hR:uK X P A m ps ts){t:TypeId}{x:PV X.Γ}{tx:TV}(hx:VR X P (AA A m) m ts.heap x tx){lo hi mx:Option (PV X.Γ)}{Qj Qk tmx:Option TV}(h1:OR X P (AA A m) m ts.heap lo Qj)(h2:OR X P (AA A m) m ts.heap hi Qk)(h3:OR X P (AA A m) m ts.heap mx tmx){v:PV X.Γ}{qs:List Prop}
  (hl:Z4 X P t ps.heap x lo hi mx=some (v,qs)) (hq:∀q∈qs,q):∃w,qE P t tx Qj Qk tmx=some w∧VR X P (AA A m) m ts.heap v w:=by
 have hr:=hR.heap;unfold Z4 at hl;split at hl
 .rename_i e t' l fu hu;split at hl
  .rename_i n a z hz e1 e2;split at hl
   .rename_i ht;subst ht;cases hl;have q0:0<=a:=hq _ (by simp);have q1:a<=z:=hq _ (by simp);have q2:z<=(l.length:Nat):=hq _ (by simp);rw[qN h3,agO];cases hx with
    |nZ=>
     have ea:a=0:=by simp at q2;omega
     have ez:z=0:=by simp at q2;omega
     exact⟨_,(Zf hu hz h1 h2 e1 e2 ea ez).1,by simp only[List.drop_nil,List.take_nil];exact .nZ⟩
    |dw p1 p2 p2' p3 p4 p5 p6 p7 p8 p9=>
     rw[hz]at p3;cases p3;exact⟨_,ae0 hu hz h1 h2 e1 e2 q0 q1 q2,(VR.dw p1 p2 p2' hz p4 p5 p6 p7 p8 p9).part (by omega) (by omega) (.inr (by omega)) (by simp)⟩
    |gone hi _ _=>simp[bg]at hi
   .cases hl
  .rename_i n a z k mv hz e1 e2;split at hl
   .rename_i ht;obtain⟨ht,Bc⟩:=ht;subst ht;split at hl
    .rename_i hfu;subst hfu;cases hl;have q0:a=0:=hq _ (by simp);have q2:z=(l.length:Nat):=hq _ (by simp);have q3:mv=z:=hq _ (by simp);subst q3;subst q0;rw[Ob h3];cases hx with
     |nZ=>
      have ez:mv=0:=(by simpa using q2);have:=(Zf hu hz h1 h2 e1 e2 rfl ez).2 (k:=k) Bc;exact⟨_,by rw[<-ez]at this;exact this,.nZ⟩
     |dw p1 p2 p2' p3 p4 p5 p6 p7 p8 p9=>
      rw[hz]at p3;cases p3;obtain⟨p7a,p7b⟩:=p7 rfl;subst p7a;subst p7b;refine⟨_,a9n hu hz h1 h2 e1 e2 Bc (a9e 0) (by omega) (by omega) p6,?_⟩;subst q2;have:=VR.dw (fu:=true) p1 p2 p2' hz p4 p5 (a15 _) (fun _=>⟨rfl,rfl⟩) p8 p9;simpa using this
     |gone hi _ _=>simp[bg]at hi
    cases hl;have q0:0<=a:=hq _ (by simp);have q1:a<=z:=hq _ (by simp);have q2:z<=(l.length:Nat):=hq _ (by simp);have q3:mv=z:=hq _ (by simp);have q4:a=z:=hq _ (by simp);subst q3;rw[Ob h3,agO];cases hx with
    |nZ=>
     have ea:a=0:=by simp at q2;omega
     have ez:mv=0:=by simp at q2;omega
     have:=(Zf hu hz h1 h2 e1 e2 ea ez).2 (k:=k) Bc;rw[<-ez]at this;exact⟨_,this,by simp only[List.drop_nil,List.take_nil];exact .nZ⟩
    |dw p1 p2 p2' p3 p4 p5 p6 p7 p8 p9=>
     rw[hz]at p3;cases p3;exact⟨_,a9n hu hz h1 h2 e1 e2 Bc q0 q1 q2 p6,(VR.dw p1 p2 p2' hz p4 p5 p6 p7 p8 p9).part (by omega) (by omega) (.inl (by omega)) (by simp)⟩
    |gone hi _ _=>simp[bg]at hi
   .cases hl
  .cases hl
 .rename_i e i hu;split at hl
  .rename_i kk ex t' l hb;obtain⟨mb,g1,g2⟩:=hr.at_ i _ hb;cases mb with
   |dw y=>
    cases hx with
    |gone hi e' _=>simp only[bg,a00]at hi;subst hi;rw[g1]at e';cases e'
    |own e' o=>
     rw[g1]at e';cases e';have hlr:LR X P (AA A m) m ts.heap kk ex t' l tx:=g2;split at hl
     .rename_i n a z hz e1 e2;split at hl
      .rename_i ht;subst ht;cases hl;have q0:0<=a:=hq _ (by simp);have q1:a<=z:=hq _ (by simp);have q2:z<=(l.length:Nat):=hq _ (by simp);rw[qN h3];cases hlr with
       |nil=>
        have ea:a=0:=by simp at q2;omega
        have ez:z=0:=by simp at q2;omega
        refine⟨_,(Zf hu hz h1 h2 e1 e2 ea ez).1,?_⟩;subst ea;subst ez;exact .Ac g1
       |emp p0 p1 p2 p3 p4=>
        rw[hz]at p3;cases p3;exact⟨_,ae0 (len:=0) hu hz h1 h2 e1 e2 q0 q1 q2,.win g1 (by simp at q2;omega) (by simp at q2;omega) (.inl (by simp at q2;omega))⟩
       |some p1 p2 p3 p4 p5 p6 p7 p8 p9=>
        rw[hz]at p2;cases p2;exact⟨_,ae0 hu hz h1 h2 e1 e2 q0 q1 q2,.win g1 (by omega) (by omega) (.inr (by omega))⟩
      .cases hl
     .rename_i n a z k mv hz e1 e2;split at hl
      .rename_i ht;obtain⟨ht,Bc⟩:=ht;subst ht;cases hl;have q0:0<=a:=hq _ (by simp);have q1:a<=z:=hq _ (by simp);have q2:z<=(l.length:Nat):=hq _ (by simp);have q3:mv=z:=hq _ (by simp);have q4:a=z:=hq _ (by simp);subst q3;rw[Ob h3];cases hlr with
       |nil=>
        have ea:a=0:=by simp at q2;omega
        have ez:mv=0:=by simp at q2;omega
        have:=(Zf hu hz h1 h2 e1 e2 ea ez).2 (k:=k) Bc;rw[<-ez]at this;refine⟨_,this,?_⟩;subst ea;subst ez;exact .Ac g1
       |emp p0 p1 p2 p3 p4=>
        rw[hz]at p3;cases p3;exact⟨_,a9n (len:=0) hu hz h1 h2 e1 e2 Bc q0 q1 q2 (a15 _),.win g1 (by simp at q2;omega) (by omega) (.inl (by omega))⟩
       |some p1 p2 p3 p4 p5 p6 p7 p8 p9=>
        rw[hz]at p2;cases p2;exact⟨_,a9n hu hz h1 h2 e1 e2 Bc q0 q1 q2 (a15 _),.win g1 (by omega) (by omega) (.inl (by omega))⟩
      .cases hl
     .cases hl
   |_=>exact g2.elim
  .cases hl
 .rename_i e hu;have:tx=.nil .slc:=by
   cases hx with
   |nil=>rfl
   |gone hi _ _=>simp[bg]at hi
  subst this;split at hl
  .rename_i n a z hz e1 e2;cases hl;have q0:a=0:=hq _ (by simp);have q1:z=0:=hq _ (by simp);rw[qN h3];exact⟨_,(Zf hu hz h1 h2 e1 e2 q0 q1).1,.nil _⟩
  .rename_i n a z k mv hz e1 e2;split at hl
   .rename_i Bc;cases hl;have q0:a=0:=hq _ (by simp);have q1:z=0:=hq _ (by simp);have q2:mv=0:=hq _ (by simp);subst q2;rw[Ob h3];exact⟨_,(Zf hu hz h1 h2 e1 e2 q0 q1).2 Bc,.nil _⟩
   .cases hl
  .cases hl
 .cases hl
theorem BX(hX:bM X P){ps:aQ X.Γ}{ts:St}(hR:uK X P A m ps ts){t:TypeId}{x:PE X.Γ}{ex:EV}(hx:Ig X P (AA A m) m ts.heap x ex){lo hi mx:Option (PV X.Γ)}{Qj Qk tmx:Option TV}(h1:OR X P (AA A m) m ts.heap lo Qj)(h2:OR X P (AA A m) m ts.heap hi Qk)(h3:OR X P (AA A m) m ts.heap mx tmx){v:PV X.Γ}{H1:List (PB X.Γ)}{qs:List Prop}
  (hl:IC X P t ps.heap x lo hi mx=some (v,H1,qs)) (hq:∀q∈qs,q):WH X P A m ts ((qc P t ex Qj Qk tmx).map fun v=>(v,ts,cu)) v H1 wZ:=by
 have hr:=hR.heap;unfold IC at hl;split at hl
 .rename_i n e b off lim hu;split at hl
  .rename_i size hz;split at hl
   .cases hl
   .rename_i KD;split at hl
    .cases hl
    .rw[qN h3];obtain⟨y,rfl,hy⟩:=fO hx;split at hl
     .split at hl
      .rename_i cs hb;cases hl;rw[qN h1,qN h2];obtain⟨mb,g1,g2⟩:=hr.at_ b _ hb;cases mb with
       |fV c=>
        cases hy with
        |gone hi e' _=>simp only[bg,a00]at hi;subst hi;rw[g1]at e';cases e'
        |ptr e'=>
         rw[g1]at e';cases e';exact⟨.slc c off n n size true,ts.heap,cu,m,by simp[qc,hu,hz,KD,jl],hr,.slc g1,.refl,.refl,.none,fun d hd=>by cases hd⟩
       |_=>exact g2.elim
      .cases hl
     .rename_i Yw wV _;split at hl
      .rename_i cs a z hb e1 e2;split at hl
       .cases hl
       rename_i adV;split at hl
       .rename_i rows is hd;cases hl;have q0:0<=a:=hq _ (by simp);have q1:a<=z:=hq _ (by simp);have q2:z<=(n:Nat):=hq _ (by simp);obtain⟨mb,g1,g2⟩:=hr.at_ b _ hb;cases mb with
        |fV c=>
         obtain⟨cs',g3,g4⟩:=g2;cases hy with
         |gone hi e' _=>simp only[bg,a00]at hi;subst hi;rw[g1]at e';cases e'
         |ptr e'=>
          rw[g1]at e';cases e';have f1:=Ai h1 e1 (n:=z.toNat) q0 (by omega);have f2:=Ai h2 e2 (n:=n) (by omega) q2;obtain⟨w1,w2⟩:=Ag (m':=bU (b::is) m) hX hr (g4.drop off) hd;have w3:=w2.2.1;rw[a3S]at w3;have hgo:=hr.aY (b::is);have Qi:=iq (h:=ts.heap) (b::is) m;have hnc:AA A (bU (b::is) m) c:=by
           refine FA.gone hr (.inr ⟨b,_,a3N,g1,rfl⟩)
          refine⟨.slc c (off+a.toNat*size) (z.toNat-a.toNat) (n-a.toNat) size true,ts.heap,cu,bU (b::is) m,?_,hgo,?_,Qi.1,Qi.2,.none,fun d hd=>by cases hd⟩
          .have f0:jl n n none=some n:=rfl;simp only[qc,hu,hz,KD,a2Y,f0,f2,f1,Option.isSome_none,agt,a2c,a0T]
          .rw[agO];have ahV:VR X P (AA A (bU (b::is) m)) (bU (b::is) m) ts.heap (.dw e rows false) (.slc c off rows.length n size true):=by
            refine .dw hnc (by unfold aV;rw[g3]) (fun _=>wo g3 (by simp)) hz (by omega) ?_ (by omega) (by simp) w2.1 (fun j y i d v hj hi hx=>?_)
            .rw[w1,<-g4.1];omega
            .refine(w2.2.2 j y i d v hj hi ?_).mono fun q hq=>FA.gone hr (FA.mono (fun i hi=>a3O _ hi) hq);rw[a4b,<-hx];congr 1;omega
           exact ahV.part (by omega) (by omega) (.inr (by omega)) (by simp)
        |_=>exact g2.elim
       .cases hl
      .cases hl
  .cases hl
 .cases hl
theorem Ur{ps:aQ X.Γ}{ts:St}(hR:uK X P A m ps ts){t:TypeId}{x:PE X.Γ}{ex:EV}(hx:Ig X P (AA A m) m ts.heap x ex){lo hi:Option (PV X.Γ)}{Qj Qk tmx:Option TV}(h1:OR X P (AA A m) m ts.heap lo Qj)(h2:OR X P (AA A m) m ts.heap hi Qk)(h3:OR X P (AA A m) m ts.heap none tmx){v:PV X.Γ}
  (hl:Fz X P t ps.heap x lo hi=some v):WH X P A m ts ((qc P t ex Qj Qk tmx).map fun v=>(v,ts,cu)) v ps.heap wZ:=by
 have hr:=hR.heap;unfold Fz at hl;split at hl
 .rename_i n e b off lim hu;split at hl
  .rename_i size cs a z hz hb e1 e2;split at hl
   .cases hl
   .rename_i KD;split at hl
    .rename_i hq;cases hl;rw[qN h3];obtain⟨y,rfl,hy⟩:=fO hx;obtain⟨mb,g1,g2⟩:=hr.at_ b _ hb;cases mb with
     |fV c=>
      cases hy with
      |gone hi e' _=>simp only[bg,a00]at hi;subst hi;rw[g1]at e';cases e'
      |ptr e'=>
       rw[g1]at e';cases e';have f1:=Ai h1 e1 (n:=z.toNat) hq.1 (by omega);have f2:=Ai h2 e2 (n:=n) (by omega) hq.2.2;refine⟨.slc c (off+a.toNat*size) (z.toNat-a.toNat) (n-a.toNat) size true,ts.heap,cu,m,?_,hr,.slc g1,.refl,.refl,.none,fun d hd=>by cases hd⟩;have f0:jl n n none=some n:=rfl;simp only[qc,hu,hz,KD,a2Y,f0,f2,f1,Option.isSome_none,agt,a2c,a0T]
     |_=>exact g2.elim
    .cases hl
  .cases hl
 .cases hl
end
open Go Tw
section
variable {X:kE} {P:Program} {A B F:Nat->Prop} {m m':List MB} {h h':List HB} {H H':List (PB X.Γ)}
theorem vI:∀{vs:List (PV X.Γ)} {i:Nat} {v:PV X.Γ},wY.Gt vs=false->vs[i]? = some v->wY v=false
 | [],_,_,_,h=>by simp at h
 |a::vs,i,v,hc,h=>by
  simp only[wY.Gt,a9j]at hc;cases i with
  |zero=>simp only[a2J,a00]at h;subst h;exact hc.1
  |succ i=>exact vI hc.2 (by simpa using h)
theorem sJ{k:Nat}:∀{vs:List (PV X.Γ)} {i:Nat} {v:PV X.Γ},(shift.shifts k vs)[i]? = some v->∃u,vs[i]? = some u∧v=shift k u
 | [],_,_,h=>by simp[shift.shifts]at h
 |a::vs,i,v,h=>by
  cases i with
  |zero=>simp only[shift.shifts,a2J,a00]at h;exact⟨a,rfl,h.symm⟩
  |succ i=>obtain⟨u,h1,h2⟩:=sJ (vs:=vs) (i:=i) (by simpa[shift.shifts]using h);exact⟨u,by simpa using h1,h2⟩
theorem sK{k:Nat}:∀{vs:List (PV X.Γ)},(shift.shifts k vs).length=vs.length
 | []=>rfl
 |a::vs=>by simp[shift.shifts,sK (vs:=vs)]
theorem Zg{k i:Nat}{v:PV X.Γ}(h:bg v=some i):bg (shift k v)=some (i+k):=by
 cases v<;>simp[bg]at h<;>subst h<;>rfl
theorem VR.shift(hX:bM X P){m0:List MB}{v:PV X.Γ}{x:TV}(hv:VR X P A m h v x)(hq:(∀b,A b->B b)∨wY v=false):VR X P B (m0++m) h (Pv.shift m0.length v) x:=by
 have at':∀{i:Nat} {mb:MB},m[i]? = some mb->(m0++m)[i+m0.length]? = some mb:=by
  intro i mb hi;rw[a1c (by omega)];simpa using hi
 induction hv with
 |bool=>exact .bool _
 |lit=>exact .lit _
 |int=>exact .int _ _
 |str=>exact .str _
 |nil=>exact .nil _
 |ptr e=>exact .ptr (at' e)
 |slc e=>exact .slc (at' e)
 |own e o=>exact .own (at' e) o
 |win e q q' q2=>exact .win (at' e) q q' q2
 |Ac e=>exact .Ac (at' e)
 |map e=>exact .map (at' e)
 |iter e=>exact .iter (at' e)
 |fn h1 _ h3 _ i2 i4=>
  refine .fn (by rw[sK,h1]) (fun i x y hx hy=>?_) (by rw[sK,h3]) (fun i x y hx hy=>?_)
  .obtain⟨u,g1,rfl⟩:=sJ hx;exact i2 i u y g1 hy (hq.imp_right fun hq=>by simp only[wY,a9j]at hq;exact vI hq.1 g1)
  obtain⟨u,g1,rfl⟩:=sJ hx;exact i4 i u y g1 hy (hq.imp_right fun hq=>by simp only[wY,a9j]at hq;exact vI hq.2 g1)
 |kC e=>exact .kC (at' e)
 |agg h1 _ i2=>
  refine .agg (by rw[sK,h1]) (fun i x y hx hy=>?_);obtain⟨u,g1,rfl⟩:=sJ hx;exact i2 i u y g1 hy (hq.imp_right fun hq=>by simp only[wY]at hq;exact vI hq g1)
 |dG h1 _ i2=>
  refine .dG (by rw[sK,h1]) (fun i x y hx hy=>?_);obtain⟨u,g1,rfl⟩:=sJ hx;exact i2 i u y g1 hy (hq.imp_right fun hq=>by simp only[wY]at hq;exact vI hq g1)
 |nZ=>exact .nZ
 |dw a c c2 s z o k f e r _=>
  rcases hq with hq|hq
  .exact .dw (hq _ a) c c2 s z o k f e fun j y i d v h1 h2 h3=>((r j y i d v h1 h2 h3).mono hq).jc hX (fA (hX.jc _ _) h2)
  simp[wY]at hq
 |el a c l o e q r _=>
  rcases hq with hq|hq
  .exact .el (hq _ a) c l o e q fun i d v h1 h2=>((r i d v h1 h2).mono hq).jc hX (fA (hX.jc _ _) h1)
  simp[wY]at hq
 |row e j q=>exact .row (at' e) j q
 | @gone v i x hi e o=>
  have e':(m0++m)[i+m0.length]? = m[i]?:=by rw[a1c (by omega)];congr 1;omega
  exact .gone (Zg hi) (by rw[e'];exact e.as fun c=>by cases v<;>rfl) o
theorem bV.shift(hX:bM X P){m0:List MB}{v:List (PV X.Γ)}{x:List TV}(hv:bV X P A m h v x)(hq:(∀b,A b->B b)∨wY.Gt v=false):bV X P B (m0++m) h (Pv.shift.shifts m0.length v) x:=by
 refine⟨by rw[sK,hv.1],fun i a b ha hb=>?_⟩;obtain⟨u,g1,rfl⟩:=sJ ha;exact(hv.2 i u b g1 hb).shift hX (hq.imp_right fun hq=>vI hq g1)
theorem BR.shift(hX:bM X P){m0:List MB}{b b':PB X.Γ}{mb:MB}(hb:BR X P A m h b mb)(hs:Fj X m0.length b=some b')(hq:(∀c,A c->B c)∨hasB X b=false):BR X P B (m0++m) h b' mb:=by
 cases b with
 |cells cs=>
  cases mb with
  |fV c=>
   simp only[Fj,a00]at hs;subst hs;obtain⟨cs',h1,h2⟩:=hb;exact⟨cs',h1,h2.shift hX hq⟩
  |_=>exact hb.elim
 |list k ex t l=>
  cases mb with
  |dw y=>
   simp only[Fj,a00]at hs;subst hs;rcases hq with hq|hq
   .cases(hb:LR X P A m h k ex t l y)with
    |nil=>exact LR.nil
    |emp p0 p1 p2 p3 p4=>exact LR.emp (hq _ p0) p1 p2 p3 p4
    |some p1 p2 p3 p4 p5 p6 p7 p8 p9=>exact LR.some p1 p2 p3 p4 p5 p6 p7 p8 ((p9.mono hq).jc hX)
   simp[hasB]at hq
  |_=>exact hb.elim
 |gone=>
  cases mb with
  |gone=>simp only[Fj,a00]at hs;subst hs;trivial
  |_=>exact hb.elim
 |_=>simp[Fj]at hs
theorem JR{k:Nat}:∀{bs bs':List (PB X.Γ)} {i:Nat} {b':PB X.Γ},qK X k bs=some bs'->bs'[i]? = some b'->∃b,bs[i]? = some b∧Fj X k b=some b'
 | [],bs',i,b',h,hi=>by simp only[qK,a00]at h;subst h;simp at hi
 |b::bs,bs',i,b',h,hi=>by
  simp only[qK]at h;split at h
  .rename_i c cs h1 h2;cases h;cases i with
   |zero=>simp only[a2J,a00]at hi;subst hi;exact⟨b,rfl,h1⟩
   |succ i=>obtain⟨d,g1,g2⟩:=JR h2 (i:=i) (by simpa using hi);exact⟨d,by simpa using g1,g2⟩
  cases h
theorem JU{k:Nat}:∀{bs bs':List (PB X.Γ)},qK X k bs=some bs'->bs'.length=bs.length
 | [],bs',h=>by simp only[qK,a00]at h;subst h;rfl
 |b::bs,bs',h=>by
  simp only[qK]at h;split at h
  .rename_i c cs h1 h2;cases h;simp[JU h2]
  cases h
def mY(X:kE)(P:Program)(call:aZ)(f:FuncId)(vs:List (PV X.Γ))(v:PV X.Γ)(ext:List (PB X.Γ)):Prop:=
 ∀(A:Nat->Prop) (h:List HB) (first args cap:List TV),(∀b,h.length<=b->A b)->bV X P A [] h vs (first++args++cap) ->
  ∃w h' m',call (.fn f first cap) args h=some (w,h',[])∧HR X P A m' ext h'∧VR X P (AA A m') m' h' v w∧Fr [] h m' h'
theorem GV(hX:bM X P){call:aZ}{f:FuncId}{first xs cap vs:List (PV X.Γ)}{v:PV X.Γ}{ext ext':List (PB X.Γ)}(hc:mY X P call f vs v ext)(hr:HR X P A m H h)(hv:views H (first++xs++cap)=some vs)(hs:qK X H.length ext=some ext')
  {t1 t2 t3:List TV} (h1:bV X P (AA A m) m h first t1) (h2:bV X P (AA A m) m h xs t2) (h3:bV X P (AA A m) m h cap t3) :
  ∃w h' m1,call (.fn f t1 t3) t2 h=some (w,h',[])∧HR X P A m1 ((if wY v||ext.any (hasB X)then aY (kH.jS (first++xs++cap)) H else H)++ext') h'∧VR X P (AA A m1) m1 h' (shift H.length v) w∧Fr m h m1 h'∧Up m m1:=by
 have hvs:=kX (m':=[]) hX hr ((h1.app h2).app h3) hv (is:=kH.jS (first++xs++cap)) fun i hi=>hi;generalize kH.jS (first++xs++cap)=is at hvs ⊢;obtain⟨w,h',m',c1,c2,c3,c4⟩:=hc (fun b=>FA A m is b∨h.length<=b) h t1 t2 t3 (fun b hb=>.inr hb) (hvs.mono fun b hb=>.inl hb);have hold:∀b,b<h.length->h'[b]? = h[b]?:=fun b hb=>c4.same b hb (by simp[bn]);have gW:∀b,b∈bn m'->h.length<=b:=fun b hb=>by
  rcases c4.new b hb with h0|h0
  .simp[bn]at h0
  .exact h0
 have key:∀(m0:List MB) (H0:List (PB X.Γ)),HR X P A m0 H0 h->Fr m h m0 h->Up m m0->m0.length=H.length->((∀b,FA A m is b->AA A m0 b)∨(wY v||ext.any (hasB X))=false) ->
   ∃m1,HR X P A m1 (H0++ext') h'∧VR X P (AA A m1) m1 h' (shift H.length v) w∧Fr m h m1 h'∧Up m m1:=by
  intro m0 H0 Zh hF0 hU0 qy hq;have hF:Fr m0 h (m0++m') h':=by
   refine⟨c4.len,fun b hb _=>hold b hb,fun b hb=>?_,fun b cs hc=>⟨cs,by rw[fM (hold b (gK hc)),hc],a15 _⟩⟩;rw[iW,a3K]at hb;exact hb.imp_right fun hb=>gW b hb
  have hA:(∀b,AA (fun b=>FA A m is b∨h.length<=b) m' b->AA A (m0++m') b)∨(wY v||ext.any (hasB X))=false:=by
   refine hq.imp_left fun hq b hb=>?_;refine⟨?_,fun hm=>?_⟩
   .rcases hb.1 with h0|h0
    .exact(hq b h0).1
    .exact hr.up b h0
   .rw[iW,a3K]at hm;rcases hm with hm|hm
    .rcases hb.1 with h0|h0
     .exact(hq b h0).2 hm
     .have:=Zh.inb hm;omega
    .exact hb.2 hm
  refine⟨m0++m',?_,?_,hF0.trans hF,hU0.trans (wu _)⟩
  .refine Zh.next hF (wu _) (by rw[a2a,a2a,Zh.len,JU hs,c2.len]) ?_ fun i b hi=>?_
   .rw[iW];refine a8B.2 ⟨Zh.nodup,c2.nodup,fun a ha b hb e=>?_⟩;subst e;have:=Zh.inb ha;have:=gW a hb;omega
   .rcases a4a i H0.length with aS|Eu
    .left;rw[a0e aS]at hi;obtain⟨mb,g1,g2⟩:=Zh.at_ i b hi;exact⟨mb,hi,g1,by rw[a0e (by rw[Zh.len];exact aS)];exact g1,fun c hc=>hold c (g2.has hc)⟩
    .right;rw[a1c Eu]at hi;obtain⟨b0,g1,g2⟩:=JR hs hi;obtain⟨mb,g3,g4⟩:=c2.at_ _ _ g1;refine⟨mb,by rw[a1c (by rw[Zh.len];exact Eu),Zh.len];exact g3,?_⟩;rw[<-qy]at g2;refine g4.shift hX g2 (hA.imp_right fun hq=>?_);simp only[a9j,List.any_eq_false]at hq;simpa using hq.2 b0 (a4l g1)
  .rw[<-qy];exact c3.shift hX (hA.imp_right fun hq=>by simp only[a9j]at hq;exact hq.1)
 refine⟨w,h',?_⟩;by_cases hL:(wY v||ext.any (hasB X))=true
 .rw[a0h hL];obtain⟨m1,e1,e2,e3,e4⟩:=key (bU is m) (aY is H) (hr.aY is) (iq (h:=h) is m).1 (iq (h:=h) is m).2 (by rw[lQ,hr.len]) (.inl fun b hb=>hb.gone hr);exact⟨m1,c1,e1,e2,e3,e4⟩
 .rw[a0g hL];obtain⟨m1,e1,e2,e3,e4⟩:=key m H hr .refl .refl hr.len (.inr (by simpa using hL));exact⟨m1,c1,e1,e2,e3,e4⟩
end
open Go Tw
section
variable {X:kE} {P:Program} {A B F:Nat->Prop} {m m':List MB} {h h':List HB} {H H':List (PB X.Γ)}
def aX(X:kE)(P:Program)(call:aZ):a2B X.Γ:=fun fv xs H v H1=>
 ∀(A:Nat->Prop) (m:List MB) (h:List HB) (tf:TV) (rP:List TV),HR X P A m H h->VR X P (AA A m) m h fv tf->bV X P (AA A m) m h xs rP ->
  ∃w h1 ws m1,call tf rP h=some (w,h1,ws)∧HR X P A m1 H1 h1∧VR X P (AA A m1) m1 h1 v w∧Fr m h m1 h1∧Up m m1∧∀b∈ws,b∈bn m
def jr(X:kE)(P:Program)(call:aZ)(fK:eY X.Γ):Prop:=∀f vs v ext ps,fK f vs=some (v,ext,ps)->(∀p∈ps,p)->mY X P call f vs v ext
theorem uo{ρ:Type}{y:ρ}:∀{ps:List Prop} {x:OT ρ},(owe ps x).Ends y->(∀p∈ps,p)∧x.Ends y
 | [],x,h=>⟨by simp,h⟩
 |p::ps,x,h=>by
  have:=uo h.2;exact⟨fun q hq=>by rcases a1Y.1 hq with rfl|hq;exact h.1;exact this.1 q hq,this.2⟩
theorem Zi{ρ:Type}{y:ρ}{u:PV X.Γ}{an:PT X.Γ}{k:Bool->PT X.Γ->OT ρ}(hk:(byB X u an k).Ends y){tu:TV}(hu:VR X P A m h u tu):∃t GX,tu=.bool t∧(k t GX).Ends y:=by
 cases u with
 |lit b=>
  have:tu=.bool b:=by
   cases hu with
   |lit=>rfl
   |gone hi _ _=>simp[bg]at hi
  exact⟨b,an,this,hk⟩
 |bool b=>
  have hb:tu=.bool b:=by
   cases hu with
   |bool=>rfl
   |gone hi _ _=>simp[bg]at hi
  subst hb;cases an with
  |s x z=>
   rcases hk with⟨h1,h2⟩|⟨h1,h2⟩
   .subst h1;exact⟨true,x,rfl,h2⟩
   subst h1;exact⟨false,z,rfl,h2⟩
  |a x r=>
   cases x with
   |br t=>obtain⟨h1,h2⟩:=hk;subst h1;exact⟨_,r,rfl,h2⟩
   |_=>exact hk.elim
  |_=>exact hk.elim
 |_=>exact hk.elim
theorem qO:∀{es:List (PV X.Γ×PV X.Γ)} {fQ:List (TV×TV)} {ks:List TV},es.length=fQ.length->(∀(i:Nat) x y,es[i]? = some x->fQ[i]? = some y->VR X P A m h x.1 y.1∧VR X P A m h x.2 y.2)->uP X es=some ks->fQ.map (·.1)=ks
 | [],fQ,ks,hl,_,hk=>by
  simp only[uP,a00]at hk;subst hk;cases fQ with
  |nil=>rfl
  |cons=>simp at hl
 |(k,v)::es,fQ,ks,hl,he,hk=>by
  cases fQ with
  |nil=>simp at hl
  |cons y fQ=>
   simp only[uP]at hk;split at hk
   .rename_i a b h1 h2;cases hk;have:=jG (he 0 _ _ rfl rfl).1 h1;simp only[a3Z,this];rw[qO (by simpa using hl) (fun i x z hx hz=>he (i+1) x z (by simpa using hx) (by simpa using hz)) h2]
   cases hk
theorem WM:∀{ks:List TV} {vs:List Value},Bq ks=some vs->vs.length=ks.length
 | [],vs,h=>by simp only[Bq,a00]at h;subst h;rfl
 |k::ks,vs,h=>by
  simp only[Bq]at h;split at h
  .rename_i v ws _ h2;cases h;simp[WM h2]
  cases h
theorem oQ{kt:TypeId}{k:Value}{fQ:List (TV×TV)}:Ep P kt k fQ=uQ P kt k (fQ.map (·.1)):=by
 unfold Ep uQ;cases hv:Bq (fQ.map (·.1))with
 |none=>rfl
 |some vs=>
  have hl:=WM hv;have:fQ.isEmpty=vs.isEmpty:=by
   cases fQ<;>cases vs<;>simp at hl<;>rfl
  simp only[this]<;>rfl
def RI:TV->List Key
 |.map r=>[.h r]
 |_=>[]
def a2G(h:List HB):TV->Option (List (TV×TV))
 |.nil .map=>some []
 |.map r=>match h[r]? with
  |some (.map es)=>some es
  |_=>none
 |_=>none
theorem JV{t:TypeId}{h:List HB}{tm tk:TV}{ok:Bool}{kt e:TypeId}{kv:Value}{es:List (TV×TV)}(hu:P.underlying t=some (.map kt e))(hk:tk.yg=some kv)(he:a2G h tm=some es) :
  gV P t h tm tk ok=match Ep P kt kv es with
   |some (some i)=>match es[i]? with
    |some (_,v)=>some (if ok then .dG [v,.bool true]else v)
    |none=>none
   |some none=>match P.info? e with
    |some i=>match i.zero with
     |some z=>(TV.Vr z).map fun z=>if ok then .dG [z,.bool false]else z
     |none=>none
    |none=>none
   |none=>none:=by
 unfold gV;simp only[hu,hk];cases tm with
 |nil k=>
  cases k<;>simp only[a2G]at he<;>try (cases he;done)
  cases he;rfl
 |map r=>
  simp only[a2G]at he;split at he
  .rename_i es0 hb;cases he;simp only[hb];rfl
  .cases he
 |_=>simp[a2G]at he
theorem CQ{H:List (PB X.Γ)}{h:List HB}(hr:HR X P A m H h){r:Nat}{es:List (PV X.Γ×PV X.Γ)}(he:JO X H r=some es):∃c fQ,(m[r]? = some (.fV c)∨(m[r]? = some (.jf c)∧c∉bn m))∧h[c]? = some (.map fQ)∧es.length=fQ.length ∧
  ∀(i:Nat) x y,es[i]? = some x->fQ[i]? = some y->pz x.1=some y.1∧pz x.2=some y.2:=by
 unfold JO at he;split at he
 .rename_i es0 hb;cases he;obtain⟨mb,g1,g2⟩:=hr.at_ r _ hb;cases mb with
  |fV c=>obtain⟨fQ,g3,g4,g5⟩:=g2;exact⟨c,fQ,.inl g1,g3,g4,g5⟩
  |_=>exact g2.elim
 .rename_i es0 hb;cases he;obtain⟨mb,g1,g2⟩:=hr.at_ r _ hb;cases mb with
  |jf c=>obtain⟨g0,fQ,g3,g4,g5⟩:=g2;exact⟨c,fQ,.inr ⟨g1,g0⟩,g3,g4,g5⟩
  |_=>exact g2.elim
 .cases he
theorem a0R{B:Nat->Prop}{h:List HB}{r c:Nat}{tm:TV}(hm:VR X P B m h (.map r) tm)(hc:m[r]? = some (.fV c)∨(m[r]? = some (.jf c)∧c∉bn m)):tm=.map c:=by
 cases hm with
 |map e=>
  rcases hc with h|⟨h,_⟩<;>rw[h]at e<;>cases e
  rfl
 |gone hi e _=>
  simp only[bg,a00]at hi;subst hi;rcases hc with h|⟨h,_⟩<;>rw[h]at e
  .cases e
  cases e with
  |r c hv=>simp only[roV,a00]at hv;exact hv.symm
theorem RJ{r c:Nat}{ks:List Key}(hc:m[r]? = some (.fV c)∨(m[r]? = some (.jf c)∧c∉bn m)):(∃i,Key.h i∈Key.h r::ks∧GL m i c)∨c∉bn m:=by
 rcases hc with h|⟨_,h⟩
 .exact .inl ⟨r,by simp,iO h rfl⟩
 exact .inr h
theorem ae1{ps:aQ X.Γ}{ts:St}(hR:uK X P A m ps ts){mv:PV X.Γ}{tm:TV}(hm:VR X P (AA A m) m ts.heap mv tm){es:List (PV X.Γ×PV X.Γ)}(he:a5r X ps.heap mv=some es) :
  ∃fQ,a2G ts.heap tm=some fQ∧es.length=fQ.length∧(∀(i:Nat) x y,es[i]? = some x->fQ[i]? = some y->VR X P (AA A m) m ts.heap x.1 y.1∧VR X P (AA A m) m ts.heap x.2 y.2) ∧
   IR m ts.heap ⟨gX (Rt X mv),false,false,true⟩ (gX (RI tm)):=by
 cases mv with
 |nil k=>
  cases hm with
  |nil=>
   cases k<;>simp only[a5r]at he<;>try (cases he;done)
   cases he;exact⟨[],rfl,rfl,fun i x y hx=>by simp at hx,IR.reads rfl (by simp[RI]) (by simp[RI])⟩
  |gone hi _ _=>simp[bg]at hi
 |map r=>
  simp only[a5r]at he;obtain⟨c,fQ,g0,g3,g4,g5⟩:=CQ hR.heap he;have htm:=a0R hm g0;subst htm;refine⟨fQ,by simp only[a2G,g3],g4,fun i x y e1 e2=>⟨nH (g5 i x y e1 e2).1,nH (g5 i x y e1 e2).2⟩,IR.reads rfl (fun b hb=>?_) (by simp[RI])⟩;simp[RI]at hb;subst hb;exact⟨RJ g0,(a04.1 g3).1⟩
 |_=>simp[a5r]at he
theorem LK{a b:PV X.Γ}{x y:TV}(h1:VR X P A m h a x)(h2:VR X P A m h b y):VR X P A m h (.dG [a,b]) (.dG [x,y]):=by
 have:=(bV.nil (X:=X) (P:=P) (A:=A) (m:=m) (h:=h)).cons h2 |>.cons h1
 exact .dG this.1 this.2
theorem WO{e:TypeId}{z:PV X.Γ}(h:NZ X P e=some z):∃i z0 z1,P.info? e=some i∧i.zero=some z0∧TV.Vr z0=some z1∧Yj z1=some z:=by
 unfold NZ at h;split at h
 .rename_i i hi;split at h
  .rename_i z0 hz0;split at h
   .rename_i z1 hz1;exact⟨i,z0,z1,hi,hz0,hz1,h⟩
   cases h
  cases h
 cases h
theorem a9r{ρ:Type}{y:ρ}{ps:aQ X.Γ}{ts:St}(hR:uK X P A m ps ts){t:TypeId}{mv kv:PV X.Γ}{tm tk:TV}(hm:VR X P (AA A m) m ts.heap mv tm)(hk:VR X P (AA A m) m ts.heap kv tk){ok:Bool}{an:PT X.Γ}{c:PE X.Γ->PI->PT X.Γ->OT ρ}
  (hl:(Z9 X P t ps mv kv ok an c).Ends y):∃v pi GX w,gV P t ts.heap tm tk ok=some w∧VR X P (AA A m) m ts.heap v w∧(c (.val v) pi GX).Ends y∧IR m ts.heap pi (gX (RI tm)):=by
 unfold Z9 at hl;split at hl
 .rename_i kt e tk' es hu htk KZ;have:=jG hk htk;subst this;obtain⟨fQ,f1,f2,f3,f4⟩:=ae1 hR hm KZ;have fnd:∀{xg ks j k0 v},tk.yg=some xg->uP X es=some ks->uQ P kt xg ks=some (some j)->es[j]? = some (k0,v)->∃w,gV P t ts.heap tm tk ok=some w∧VR X P (AA A m) m ts.heap (if ok then .dG [v,.bool true]else v) w:=by
   intro xg ks j k0 v Oc EC Oe hj;have rW:=qO f2 f3 EC;have aS:j<fQ.length:=by rw[<-f2];exact(a04.1 hj).1
   have Ew:=a0a aS;have hv:=(f3 j _ _ hj Ew).2;refine⟨(if ok then .dG [fQ[j].2,.bool true]else fQ[j].2),?_,?_⟩
   .rw[JV hu Oc f1];simp only[oQ,rW,Oe,Ew]
   .cases ok with
    |true=>exact LK hv (.bool _)
    |false=>exact hv
  have non:∀{xg ks z},tk.yg=some xg->uP X es=some ks->uQ P kt xg ks=some none->NZ X P e=some z->∃w,gV P t ts.heap tm tk ok=some w∧VR X P (AA A m) m ts.heap (if ok then .dG [z,.bool false]else z) w:=by
   intro xg ks z Oc EC Oe hz;have rW:=qO f2 f3 EC;obtain⟨i,z0,z1,hi,hz0,hz1,hz2⟩:=WO hz;refine⟨(if ok then .dG [z1,.bool false]else z1),?_,?_⟩
   .rw[JV hu Oc f1];simp only[oQ,rW,Oe,hi,hz0,hz1,a0T]
   .cases ok with
    |true=>exact LK (wz hz2) (.bool _)
    |false=>exact wz hz2
  split at hl
  .obtain⟨⟨xg,ks,j,k0,g1,g2,g3,g4⟩,hl⟩:=hl;obtain⟨w,w1,w2⟩:=fnd g1 g2 g3 g4;exact⟨_,_,_,w,w1,w2,hl,f4⟩
  .split at hl
   .rename_i z hz;obtain⟨⟨xg,ks,g1,g2,g3⟩,hl⟩:=hl;obtain⟨w,w1,w2⟩:=non g1 g2 g3 hz;exact⟨_,_,_,w,w1,w2,hl,f4⟩
   .exact hl.elim
  .split at hl
   .rename_i z hz;obtain⟨⟨xg,ks,g1,g2,g3⟩,hl⟩:=hl;obtain⟨w,w1,w2⟩:=non g1 g2 g3 hz;exact⟨_,_,_,w,w1,w2,hl,f4⟩
   .exact hl.elim
  .split at hl
   .rename_i xg ks Oc EC;split at hl
    .rename_i j r _ _;split at hl
     .rename_i k0 v hj;obtain⟨Oe,hl⟩:=hl;obtain⟨w,w1,w2⟩:=fnd Oc EC Oe hj;exact⟨_,_,_,w,w1,w2,hl,f4⟩
     .exact hl.elim
    .split at hl
     .rename_i z hz;obtain⟨Oe,hl⟩:=hl;obtain⟨w,w1,w2⟩:=non Oc EC Oe hz;exact⟨_,_,_,w,w1,w2,hl,f4⟩
     .exact hl.elim
    .exact hl.elim
   .exact hl.elim
 .exact hl.elim
theorem a2H{x:TV}{v:PV X.Γ}(h:ZW x=some v):qJ v=some x:=by
 cases x<;>simp only[ZW,a00,reduceCtorEq]at h<;>subst h<;>rfl
theorem Og:∀{x:List TV} {v:List (PV X.Γ)},BJ x=some v->iI v=some x
 | [],v,h=>by cases h;rfl
 |a::l,v,h=>by
  simp only[BJ]at h;split at h
  .rename_i b bs h1 h2;cases h;simp only[iI,a2H h1,Og h2]
  cases h
theorem a9s{x:TV}{v:PV X.Γ}(h:Yj x=some v):pz v=some x:=by
 cases x
 case agg cs=>
  simp only[Yj,a09]at h;obtain⟨w,h1,rfl⟩:=h;simp only[pz,Og h1,a0T]
 all_goals
  simp only[Yj,ZW,a00,reduceCtorEq]at h
  try subst h
  try rfl
theorem Zj{ps:aQ X.Γ}{ts:St}(hR:uK X P A m ps ts){r cb:Nat}{es0:List (TV×TV)}(g1:m[r]? = some (.fV cb))(f1:ts.heap[cb]? = some (.map es0))(en:List (PV X.Γ×PV X.Γ))(en':List (TV×TV))(h1:en.length=en'.length)
  (h2:∀(i:Nat) x y,en[i]? = some x->en'[i]? = some y->pz x.1=some y.1∧pz x.2=some y.2) :
  uK X P A m { ps with heap:=ps.heap.set r (.map en) } { ts with heap:=ts.heap.set cb (.map en') }∧Fr m ts.heap m (ts.heap.set cb (.map en')):=by
 have aS:=(a04.1 f1).1;obtain⟨q1,q2⟩:=hR.heap.set (pb:=.map en) (hb:=.map en') g1 (c:=cb) rfl (fun cs hc=>by simp[aV,f1]at hc) fun hF=>⟨en',by simp[aS],h1,h2⟩;exact⟨hR.step q1 q2 .refl,q2⟩
theorem RN{es:List (PV X.Γ×PV X.Γ)}{fQ:List (TV×TV)}(f2:es.length=fQ.length)(f3:∀(i:Nat) x y,es[i]? = some x->fQ[i]? = some y->pz x.1=some y.1∧pz x.2=some y.2){k v:PV X.Γ}{tk tv:TV}(h1:pz k=some tk)(h2:pz v=some tv) :
  ∀(i:Nat) x y,(es++[(k,v)])[i]? = some x->(fQ++[(tk,tv)])[i]? = some y->pz x.1=some y.1∧pz x.2=some y.2:=fun i a b ha qw=>by
 rcases a4a i es.length with aS|Eu
 .rw[a0e aS]at ha;rw[a0e (by rw[<-f2];exact aS)]at qw;exact f3 i a b ha qw
 .rw[a1c Eu]at ha;rw[a1c (by rw[<-f2];exact Eu),<-f2]at qw;cases hx:i-es.length with
  |zero=>
   rw[hx]at ha qw;simp only[a2J,a00]at ha qw;subst ha;subst qw;exact⟨h1,h2⟩
  |succ n=>rw[hx]at ha;simp at ha
theorem a5G{ps:aQ X.Γ}{ts:St}(hR:uK X P A m ps ts){r:Nat}{es:List (PV X.Γ×PV X.Γ)}{tm:TV}(hb:ps.heap[r]? = some (.map es))(hm:VR X P (AA A m) m ts.heap (.map r) tm) :
  ∃cb fQ,tm=.map cb∧m[r]? = some (.fV cb)∧ts.heap[cb]? = some (.map fQ)∧es.length=fQ.length∧∀(i:Nat) x y,es[i]? = some x->fQ[i]? = some y->pz x.1=some y.1∧pz x.2=some y.2:=by
 obtain⟨mb,g1,g2⟩:=hR.heap.at_ r _ hb;cases mb with
 |fV cb=>
  obtain⟨fQ,f1,f2,f3⟩:=g2;cases hm with
  |gone hi e' _=>simp only[bg,a00]at hi;subst hi;rw[g1]at e';cases e'
  |map e'=>rw[g1]at e';cases e';exact⟨cb,fQ,rfl,g1,f1,f2,f3⟩
 |_=>exact g2.elim
theorem a9t{ρ:Type}{y:ρ}{ps:aQ X.Γ}{ts:St}(hR:uK X P A m ps ts){t:TypeId}{mv kv:PV X.Γ}{tm tk:TV}(hm:VR X P (AA A m) m ts.heap mv tm)(hk:VR X P (AA A m) m ts.heap kv tk){an:PT X.Γ}{c:PE X.Γ->aQ X.Γ->PI->PT X.Γ->OT ρ}
  (hl:(a5u X P t ps mv kv an c).Ends y):∃e e' ps1 pi GX h1 ti,BN P t ts tm tk=some (e',{ ts with heap:=h1 },ti)∧Ig X P (AA A m) m h1 e e'∧uK X P A m ps1 { ts with heap:=h1 }∧Fr m ts.heap m h1∧(c e ps1 pi GX).Ends y∧IR m ts.heap pi ti∧∀b,.h b∈ti.ws->b∈bn m:=by
 unfold a5u at hl;split at hl
 .rename_i kt e tk' r hu htk;have:=jG hk htk;subst this;split at hl
  .rename_i es hb;obtain⟨cb,fQ,rfl,g1,f1,f2,f3⟩:=a5G hR hb hm;have f3v:∀(i:Nat) x y,es[i]? = some x->fQ[i]? = some y->VR X P (AA A m) m ts.heap x.1 y.1∧VR X P (AA A m) m ts.heap x.2 y.2:=fun i x y e1 e2=>⟨nH (f3 i x y e1 e2).1,nH (f3 i x y e1 e2).2⟩;have aS:=(a04.1 f1).1;split at hl
   .rename_i v _ j rest;split at hl
    case h_2=>exact hl.elim
    rename_i va vx;obtain⟨⟨xg,ks,old,ov,Oc,c1,EC,c2,hj,hold,hov,c3⟩,hl⟩:=hl;have rW:=qO f2 f3v EC;have Ew:j<fQ.length:=by rw[<-f2];exact(a04.1 hj).1
    have Vu:=a0a Ew;have hy1:(fQ[j]).1=old:=by
     have:(fQ.map (·.1))[j]? = some (fQ[j]).1:=by rw[a4h,Vu];rfl
     rw[rW,hold]at this;exact(a8Q this).symm
    have htv:=(f3 j _ _ hj Vu).2;obtain⟨w1,w2⟩:=Zj hR g1 f1 es (fQ.set j (tk,(fQ[j]).2)) (by simp[f2]) fun i a b ha qw=>by
     by_cases e:j=i
     .subst e;rw[a4c,Vu]at qw;rw[hj]at ha;cases ha;cases qw;exact⟨htk,htv⟩
     .rw[a1D e]at qw;exact f3 i a b ha qw
    have F8:ps.heap.set r (.map es)=ps.heap:=by
     refine a9q fun i=>?_;by_cases e:r=i
     .subst e;rw[a2k (a04.1 hb).1,hb]
     .rw[a1D e]
    rw[F8]at w1;refine⟨.ent r j (.int va vx),.ent cb j (fQ[j]).2,_,_,_,_,oJ (.h cb),?_,⟨.map g1,rfl,htv⟩,w1,w2,hl,.wrH (iO g1 rfl) aS,fun b hb=>by simp[oJ]at hb;subst hb;exact bf g1 rfl⟩;have VA:fQ[j].1=tk:=by
     have:=(f3 j _ _ hj Vu).1;rw[htk]at this;exact(a8Q this).symm
    have hv1:fQ[j].2=.int va vx:=by
     have h9:some (TV.int va vx)=some (fQ[j]).2:=htv;exact(a8Q h9).symm
    have VN:fQ.set j (tk,(fQ[j]).2)=fQ:=by
     rw[show(tk,(fQ[j]).2)=fQ[j]from adg VA.symm rfl];exact List.set_getElem_self Ew
    have hl1:gV P t ts.heap (.map cb) tk false=some (.int va vx):=by
     unfold gV;simp only[hu,Oc,f1,oQ,rW,c2,Vu,hv1,a2c,a2Y]
    have hcb:ts.heap.set cb (.map fQ)=ts.heap:=by
     refine a9q fun i=>?_;by_cases e:cb=i
     .subst e;rw[a2k aS,f1]
     .rw[a1D e]
    have h0:zO P t ts (.map cb) tk=some (.ent cb j (fQ[j]).2,{ ts with heap:=ts.heap.set cb (.map (fQ.set j (tk,(fQ[j]).2))) },oJ (.h cb)):=by
     unfold zO;simp only[hu,Oc,f1,c1,oQ,rW,c2,Vu,hy1,hov,c3,a2d]
    unfold BN;rw[h0];simp only[];rw[a0h];unfold ZX;rw[VN,hcb,hl1];simp
   .split at hl
    .rename_i va vx hz;obtain⟨⟨xg,q1,c1⟩,⟨abG,ks,q2,EC,c2⟩,⟨arB,ks2,q3,anG,c4⟩,hl⟩:=hl;rw[q1]at q2;cases q2;rw[q1]at q3;cases q3;obtain⟨i,z0,z1,hi,hz0,hz1,hz2⟩:=WO hz;have rW:=qO f2 f3v EC;have hzt:=a9s hz2;obtain⟨w1,w2⟩:=Zj hR g1 f1 (es++[(kv,.int va vx)]) (fQ++[(tk,z1)]) (by simp[f2]) (RN f2 f3 htk hzt);refine⟨.ent r es.length (.int va vx),.ent cb fQ.length z1,_,_,_,_,oJ (.h cb),?_,⟨.map g1,f2,hzt⟩,w1,w2,hl,.wrH (iO g1 rfl) aS,fun b hb=>by simp[oJ]at hb;subst hb;exact bf g1 rfl⟩;have hv1:z1=.int va vx:=by
      have h9:some (TV.int va vx)=some z1:=hzt;exact(a8Q h9).symm
     have hl1:gV P t ts.heap (.map cb) tk false=some (.int va vx):=by
      unfold gV;simp only[hu,q1,f1,oQ,rW,c2,hi,hz0,hz1,hv1,a0T,a2c,a2Y]
     have ae2:(fQ++[(tk,z1)]).map (·.1)=ks2:=qO (P:=P) (A:=AA A m) (m:=m) (h:=ts.heap) (es:=es++[(kv,.int va vx)]) (by simp[f2]) (fun i x y e1 e2=>let ⟨a1,a2⟩:=RN f2 f3 htk hzt i x y e1 e2;⟨nH a1,nH a2⟩) anG;have TM:gV P t (ts.heap.set cb (.map (fQ++[(tk,z1)]))) (.map cb) tk false=some (.int va vx):=by
      have e9:(fQ++[(tk,z1)])[es.length]? = some (tk,z1):=by rw[f2];simp
      unfold gV;simp only[hu,q1,a2k aS,oQ,ae2,c4,e9,a2c,a2Y];rw[hv1]
     have h0:zO P t ts (.map cb) tk=some (.ent cb fQ.length z1,{ ts with heap:=ts.heap.set cb (.map (fQ++[(tk,z1)])) },oJ (.h cb)):=by
      unfold zO;simp only[hu,q1,f1,c1,oQ,rW,c2,hi,hz0,hz1]
     unfold BN;rw[h0];simp only[];rw[a0h];unfold ZX;rw[hl1,TM];simp
    .exact hl.elim
   .exact hl.elim
  .exact hl.elim
 .exact hl.elim
theorem a9v{ρ:Type}{y:ρ}{ps:aQ X.Γ}{ts:St}(hR:uK X P A m ps ts){mv v:PV X.Γ}{e:PE X.Γ}{tm tv:TV}{e':EV}(hm:VR X P (AA A m) m ts.heap mv tm)(he:Ig X P (AA A m) m ts.heap e e')(hv:VR X P (AA A m) m ts.heap v tv){c:aQ X.Γ->PI->OT ρ}
  (hl:(a5v X ps mv e v c).Ends y):∃ps1 pi h1 ti,FY ts tm e' tv=some ({ ts with heap:=h1 },ti)∧uK X P A m ps1 { ts with heap:=h1 }∧Fr m ts.heap m h1∧(c ps1 pi).Ends y∧IR m ts.heap pi ti∧∀b,.h b∈ti.ws->b∈bn m:=by
 unfold a5v at hl;split at hl
 .rename_i r r' j tv' htv;have:=jG hv htv;subst this;split at hl
  .rename_i hrr;subst hrr;split at hl
   .rename_i es hb;obtain⟨hj,hl⟩:=hl;obtain⟨cb,fQ,rfl,g1,f1,f2,f3⟩:=a5G hR hb hm;obtain⟨c',rfl,hm'⟩:=LH he;have hc:c'=cb:=by
     cases hm' with
     |gone hi e' _=>simp only[bg,a00]at hi;subst hi;rw[g1]at e';cases e'
     |map e'=>rw[g1]at e';cases e';rfl
    subst hc;have aS:=(a04.1 f1).1;have Ew:j<fQ.length:=by rw[<-f2];exact hj
    have Vu:=a0a Ew;obtain⟨w1,w2⟩:=Zj hR g1 f1 (IG es j v) (fQ.set j ((fQ[j]).1,tv)) (by unfold IG;simp[f2]) fun i a b ha qw=>by
     unfold IG at ha;rw[aej]at ha;by_cases e:j=i
     .subst e;rw[a4c,Vu]at qw;simp only[a2d,a0a hj,Option.map_eq_map,a0T,a00]at ha;subst ha;cases qw;exact⟨(f3 j _ _ (a0a hj) Vu).1,htv⟩
     .rw[a1D e]at qw;have ha:es[i]? = some a:=(by simpa[e]using ha);exact f3 i a b ha qw
    refine⟨_,_,_,oJ (.h c'),?_,w1,w2,hl,.wrH (iO g1 rfl) aS,fun b hb=>by simp[oJ]at hb;subst hb;exact bf g1 rfl⟩;unfold FY;simp only[a2d,f1,Vu]
   .exact hl.elim
  .exact hl.elim
 .exact hl.elim
theorem a5I{ρ:Type}{y:ρ}{ps:aQ X.Γ}{ts:St}(hR:uK X P A m ps ts){t:TypeId}{mv kv v:PV X.Γ}{tm tk tv:TV}(hm:VR X P (AA A m) m ts.heap mv tm)(hk:VR X P (AA A m) m ts.heap kv tk)(hv:VR X P (AA A m) m ts.heap v tv){an:PT X.Γ}{c:aQ X.Γ->PI->PT X.Γ->OT ρ}
  (hl:(a5s X P t ps mv kv v an c).Ends y):∃ps1 pi GX h1 ti,xq P t ts tm tk tv=some ({ ts with heap:=h1 },ti)∧uK X P A m ps1 { ts with heap:=h1 }∧Fr m ts.heap m h1∧(c ps1 pi GX).Ends y∧IR m ts.heap pi ti∧∀b,.h b∈ti.ws->b∈bn m:=by
 unfold a5s at hl;split at hl
 .rename_i kt e tk' r tv' hu htk htv;have:=jG hk htk;subst this;have:=jG hv htv;subst this;split at hl
  .rename_i es hb;obtain⟨mb,g1,g2⟩:=hR.heap.at_ r _ hb;cases mb with
   |fV cb=>
    obtain⟨fQ,f1,f2,f3⟩:=g2;have f3v:∀(i:Nat) x y,es[i]? = some x->fQ[i]? = some y->VR X P (AA A m) m ts.heap x.1 y.1∧VR X P (AA A m) m ts.heap x.2 y.2:=fun i x y e1 e2=>⟨nH (f3 i x y e1 e2).1,nH (f3 i x y e1 e2).2⟩;cases hm with
    |gone hi e' _=>simp only[bg,a00]at hi;subst hi;rw[g1]at e';cases e'
    |map e'=>
     rw[g1]at e';cases e';have aS:=(a04.1 f1).1;have wr:∀(en:List (PV X.Γ×PV X.Γ)) (en':List (TV×TV)),en.length=en'.length->(∀(i:Nat) x y,en[i]? = some x->en'[i]? = some y->pz x.1=some y.1∧pz x.2=some y.2) ->
       uK X P A m { ps with heap:=ps.heap.set r (.map en) } { ts with heap:=ts.heap.set cb (.map en') }∧Fr m ts.heap m (ts.heap.set cb (.map en')):=by
      intro en en' h1 h2;obtain⟨q1,q2⟩:=hR.heap.set (pb:=.map en) (hb:=.map en') g1 (c:=cb) rfl (fun cs hc=>by simp[aV,f1]at hc) fun hF=>⟨en',by simp[aS],h1,h2⟩;exact⟨hR.step q1 q2 .refl,q2⟩
     have new:∀{xg ks},tk.yg=some xg->uP X es=some ks->aB P (Instr.checkKey false 10000 kt xg)=some ()->uQ P kt xg ks=some none ->
       xq P t ts (.map cb) tk tv=some ({ ts with heap:=ts.heap.set cb (.map (fQ++[(tk,tv)])) },oJ (.h cb))∧uK X P A m { ps with heap:=ps.heap.set r (.map (es++[(kv,v)])) } { ts with heap:=ts.heap.set cb (.map (fQ++[(tk,tv)])) }∧Fr m ts.heap m (ts.heap.set cb (.map (fQ++[(tk,tv)]))):=by
      intro xg ks Oc EC c1 c2;have rW:=qO f2 f3v EC;obtain⟨w1,w2⟩:=wr (es++[(kv,v)]) (fQ++[(tk,tv)]) (by simp[f2]) fun i a b ha qw=>by
       rcases a4a i es.length with aS|Eu
       .rw[a0e aS]at ha;rw[a0e (by rw[<-f2];exact aS)]at qw;exact f3 i a b ha qw
       .rw[a1c Eu]at ha;rw[a1c (by rw[<-f2];exact Eu),<-f2]at qw;cases hx:i-es.length with
        |zero=>
         rw[hx]at ha qw;simp only[a2J,a00]at ha qw;subst ha;subst qw;exact⟨htk,htv⟩
        |succ n=>rw[hx]at ha;simp at ha
      refine⟨?_,w1,w2⟩;unfold xq;simp only[hu,Oc,f1,c1,oQ,rW,c2]
     split at hl
     .obtain⟨⟨xg,q1,c1⟩,⟨abG,ks,q2,EC,c2⟩,hl⟩:=hl;rw[q1]at q2;cases q2;obtain⟨u1,u2,u3⟩:=new q1 EC c1 c2;exact⟨_,_,_,_,oJ (.h cb),u1,u2,u3,hl,.wrH (iO g1 rfl) aS,fun b hb=>by simp[oJ]at hb;subst hb;exact bf g1 rfl⟩
     .obtain⟨⟨xg,q1,c1⟩,⟨abG,ks,q2,EC,c2⟩,hl⟩:=hl;rw[q1]at q2;cases q2;obtain⟨u1,u2,u3⟩:=new q1 EC c1 c2;exact⟨_,_,_,_,oJ (.h cb),u1,u2,u3,hl,.wrH (iO g1 rfl) aS,fun b hb=>by simp[oJ]at hb;subst hb;exact bf g1 rfl⟩
     .obtain⟨⟨xg,ks,j,old,ov,Oc,c1,EC,c2,hj,hold,hov,c3⟩,hl⟩:=hl;have rW:=qO f2 f3v EC;have Ew:∃y0,fQ[j]? = some y0:=by
       have:j<fQ.length:=by rw[<-f2];exact(a04.1 hj).1
       exact⟨_,a0a this⟩
      obtain⟨y0,Vu⟩:=Ew;have hy1:y0.1=old:=by
       have:(fQ.map (·.1))[j]? = some y0.1:=by rw[a4h,Vu];rfl
       rw[rW,hold]at this;exact(a8Q this).symm
      obtain⟨w1,w2⟩:=wr es (fQ.set j (tk,tv)) (by simp[f2]) fun i a b ha qw=>by
       by_cases e:j=i
       .subst e;rw[a4c]at qw;rw[hj]at ha;rw[Vu]at qw;cases ha;cases qw;exact⟨htk,htv⟩
       .rw[a1D e]at qw;exact f3 i a b ha qw
      have F8:ps.heap.set r (.map es)=ps.heap:=by
       refine a9q fun i=>?_;by_cases e:r=i
       .subst e;rw[a2k (a04.1 hb).1,hb]
       .rw[a1D e]
      rw[F8]at w1;refine⟨_,_,_,_,oJ (.h cb),?_,w1,w2,hl,.wrH (iO g1 rfl) aS,fun b hb=>by simp[oJ]at hb;subst hb;exact bf g1 rfl⟩;unfold xq;simp only[hu,Oc,f1,c1,oQ,rW,c2,Vu,hy1,hov,c3,a2d]
     .split at hl
      .rename_i xg ks Oc EC;have rW:=qO f2 f3v EC;split at hl
       .rename_i j rest _ _ _;split at hl
        .rename_i x0 old hj hold;split at hl
         .rename_i ov hov;obtain⟨c1,c2,c3,hl⟩:=hl;have Ew:∃y0,fQ[j]? = some y0:=by
           have:j<fQ.length:=by rw[<-f2];exact(a04.1 hj).1
           exact⟨_,a0a this⟩
          obtain⟨y0,Vu⟩:=Ew;have hy1:y0.1=old:=by
           have:(fQ.map (·.1))[j]? = some y0.1:=by rw[a4h,Vu];rfl
           rw[rW,hold]at this;exact(a8Q this).symm
          obtain⟨w1,w2⟩:=wr (es.set j (kv,v)) (fQ.set j (tk,tv)) (by simp[f2]) fun i a b ha qw=>by
           by_cases e:j=i
           .subst e;rw[a4c]at ha qw;rw[hj]at ha;rw[Vu]at qw;cases ha;cases qw;exact⟨htk,htv⟩
           .rw[a1D e]at ha qw;exact f3 i a b ha qw
          refine⟨_,_,_,_,oJ (.h cb),?_,w1,w2,hl,.wrH (iO g1 rfl) aS,fun b hb=>by simp[oJ]at hb;subst hb;exact bf g1 rfl⟩;unfold xq;simp only[hu,Oc,f1,c1,oQ,rW,c2,Vu,hy1,hov,c3,a2d]
         .exact hl.elim
        .exact hl.elim
       .obtain⟨c1,c2,hl⟩:=hl;obtain⟨u1,u2,u3⟩:=new Oc EC c1 c2;exact⟨_,_,_,_,oJ (.h cb),u1,u2,u3,hl,.wrH (iO g1 rfl) aS,fun b hb=>by simp[oJ]at hb;subst hb;exact bf g1 rfl⟩
       .exact hl.elim
      .exact hl.elim
   |_=>exact g2.elim
  .exact hl.elim
 .exact hl.elim
end
open Go Tw
theorem jU{m:List MB}{b:Nat}(h:b∈bn m):∃i,GL m i b:=by
 obtain⟨mb,h1,h2⟩:=a7x.1 h;obtain⟨i,hi⟩:=a8y h1;exact⟨i,mb,hi,h2⟩
section
variable {X:kE} {P:Program} {A B:Nat->Prop} {m m1:List MB} {h:List HB} {g:Nat->Option Nat}
theorem jo:∀{m:List MB},(∀i j c,GL m i c->GL m j c->i=j)->(bn m).Nodup
 | [],_=>by simp[bn]
 |x::m,hu=>by
  have ih:(bn m).Nodup:=jo fun i j c h1 h2=>by
   have:=hu (i+1) (j+1) c (by obtain⟨mb,a,b⟩:=h1;exact⟨mb,by simpa using a,b⟩) (by obtain⟨mb,a,b⟩:=h2;exact⟨mb,by simpa using a,b⟩);omega
  unfold bn at ih ⊢;rw[a8L];split
  .exact ih
  rename_i b hb;refine a4g.2 ⟨fun hm=>?_,ih⟩;obtain⟨i,mb,h1,h2⟩:=jU (m:=m) hm;have:=hu 0 (i+1) b ⟨x,rfl,hb⟩ ⟨mb,by simpa using h1,h2⟩;omega
theorem Oh:∀{ks:List Nat} {i p:Nat},vY ks i=some p->ks[p]? = some i
 | [],i,p,h=>by cases h
 |a::ks,i,p,h=>by
  simp only[vY]at h;split at h
  .rename_i e;cases h;simp[e]
  simp only[a09]at h;obtain⟨q,h1,rfl⟩:=h;simpa using Oh h1
section
variable {g:Nat->Option Nat} {m1:List MB}
theorem DU(hg:∀i j,g i=some j->m1[j]? = m[i]?){B:Nat->Prop}(hA:∀b,A b->B b)(hX:bM X P){v:PV X.Γ}{x:TV}(hv:VR X P A m h v x):∀{w:PV X.Γ},fJ g v=some w->VR X P B m1 h w x:=by
 have lists:∀{vs:List (PV X.Γ)} {xs:List TV},vs.length=xs.length->(∀(i:Nat) a b,vs[i]? = some a->xs[i]? = some b->∀{w:PV X.Γ},fJ g a=some w->VR X P B m1 h w b)->∀{ws:List (PV X.Γ)},fJ.oH g vs=some ws->ws.length=xs.length∧∀(i:Nat) a b,ws[i]? = some a->xs[i]? = some b->VR X P B m1 h a b:=by
  intro vs
  induction vs with
  |nil=>
   intro xs hl _ ws hw;simp only[fJ.oH,a00]at hw;subst hw;exact⟨hl,fun i a b ha=>by simp at ha⟩
  |cons v vs ih=>
   intro xs hl hh ws hw;cases xs with
   |nil=>simp at hl
   |cons x xs=>
    simp only[fJ.oH]at hw;split at hw
    .rename_i w TL h1 h2;cases hw;obtain⟨e1,e2⟩:=ih (xs:=xs) (by simpa using hl) (fun i a b ha hb=>hh (i+1) a b (by simpa using ha) (by simpa using hb)) h2;refine⟨by simp[e1],fun i a b ha hb=>?_⟩;cases i with
     |zero=>simp only[a2J,a00]at ha hb;subst ha;subst hb;exact hh 0 v x rfl rfl h1
     |succ i=>exact e2 i a b (by simpa using ha) (by simpa using hb)
    cases hw
 induction hv with
 |bool=>intro w hw;simp only[fJ,a00]at hw;subst hw;exact .bool _
 |lit=>intro w hw;simp only[fJ,a00]at hw;subst hw;exact .lit _
 |int=>intro w hw;simp only[fJ,a00]at hw;subst hw;exact .int _ _
 |str=>intro w hw;simp only[fJ,a00]at hw;subst hw;exact .str _
 |nil=>intro w hw;simp only[fJ,a00]at hw;subst hw;exact .nil _
 |ptr e=>intro w hw;simp only[fJ,a09]at hw;obtain⟨j,h1,rfl⟩:=hw;exact .ptr (by rw[hg _ _ h1];exact e)
 |slc e=>intro w hw;simp only[fJ,a09]at hw;obtain⟨j,h1,rfl⟩:=hw;exact .slc (by rw[hg _ _ h1];exact e)
 |own e o=>intro w hw;simp only[fJ,a09]at hw;obtain⟨j,h1,rfl⟩:=hw;exact .own (by rw[hg _ _ h1];exact e) o
 |win e q q' q2=>intro w hw;simp only[fJ,a09]at hw;obtain⟨j,h1,rfl⟩:=hw;exact .win (by rw[hg _ _ h1];exact e) q q' q2
 |Ac e=>intro w hw;simp only[fJ,a09]at hw;obtain⟨j,h1,rfl⟩:=hw;exact .Ac (by rw[hg _ _ h1];exact e)
 |map e=>intro w hw;simp only[fJ,a09]at hw;obtain⟨j,h1,rfl⟩:=hw;exact .map (by rw[hg _ _ h1];exact e)
 |iter e=>intro w hw;simp only[fJ,a09]at hw;obtain⟨j,h1,rfl⟩:=hw;exact .iter (by rw[hg _ _ h1];exact e)
 |kC e=>intro w hw;simp only[fJ,a09]at hw;obtain⟨j,h1,rfl⟩:=hw;exact .kC (by rw[hg _ _ h1];exact e)
 |row e j q=>intro w hw;simp only[fJ,a09]at hw;obtain⟨j,h1,rfl⟩:=hw;exact .row (by rw[hg _ _ h1];exact e) (by assumption) q
 |fn h1 _ h3 _ i2 i4=>
  intro w hw;simp only[fJ]at hw;split at hw
  .rename_i a c ha hc;cases hw;obtain⟨e1,e2⟩:=lists h1 i2 ha;obtain⟨e3,e4⟩:=lists h3 i4 hc;exact .fn e1 e2 e3 e4
  cases hw
 |agg h1 _ i2=>
  intro w hw;simp only[fJ,a09]at hw;obtain⟨cs,hc,rfl⟩:=hw;obtain⟨e1,e2⟩:=lists h1 i2 hc;exact .agg e1 e2
 |dG h1 _ i2=>
  intro w hw;simp only[fJ,a09]at hw;obtain⟨cs,hc,rfl⟩:=hw;obtain⟨e1,e2⟩:=lists h1 i2 hc;exact .dG e1 e2
 |nZ=>intro w hw;simp only[fJ,a00]at hw;subst hw;exact .nZ
 |dw a c c2 s z o k f e r _=>intro w hw;simp only[fJ,a00]at hw;subst hw;exact .dw (hA _ a) c c2 s z o k f e fun j y i d v h1 h2 h3=>((r j y i d v h1 h2 h3).mono hA).jc hX (fA (hX.jc _ _) h2)
 |el a c l o e q r _=>intro w hw;simp only[fJ,a00]at hw;subst hw;exact .el (hA _ a) c l o e q fun i d v h1 h2=>((r i d v h1 h2).mono hA).jc hX (fA (hX.jc _ _) h1)
 |gone i e o=>
  intro w hw;rename_i v _ x;have:∃j,bg w=some j∧CO w x m1[j]?:=by
   cases v<;>simp[bg]at i<;>subst i<;>simp only[fJ,a09]at hw<;>obtain⟨j,h1,rfl⟩:=hw<;>exact⟨j,rfl,by rw[hg _ _ h1];exact e.as fun c=>rfl⟩
  obtain⟨j,h1,h2⟩:=this;exact .gone h1 h2 o
variable {B:Nat->Prop}
theorem yZ(hX:bM X P)(hg:∀i j,g i=some j->m1[j]? = m[i]?)(hA:∀b,A b->B b):∀{vs:List (PV X.Γ)} {xs:List TV} {ws:List (PV X.Γ)},bV X P A m h vs xs->fJ.oH g vs=some ws->bV X P B m1 h ws xs
 | [],xs,ws,hv,hw=>by simp only[fJ.oH,a00]at hw;subst hw;rw[hv.inv0];exact .nil
 |v::vs,xs,ws,hv,hw=>by
  obtain⟨x,r,rfl,h1,h2⟩:=hv.inv;simp only[fJ.oH]at hw;split at hw
  .rename_i w TL g1 g2;cases hw;exact .cons (DU hg hA hX h1 g1) (yZ hX hg hA h2 g2)
  cases hw
theorem Oi(hX:bM X P)(hg:∀i j,g i=some j->m1[j]? = m[i]?)(hA:∀b,A b->B b){env:List (Nat×PE X.Γ)}{env':List (Nat×EV)}(he:jJ X P A m h env env'):∀{r:List (Nat×PE X.Γ)},oG g env=some r->jJ X P B m1 h r env':=by
 induction he with
 |nil=>intro r h;simp only[oG,a00]at h;subst h;exact .nil
 |cons h1 h2 ih=>
  rename_i k v x q q';intro r hr;simp only[oG]at hr;split at hr
  rotate_left
  .cases hr
  rename_i w r' e1 e2;cases hr;refine .cons ?_ (ih e2);cases v with
  |val v=>
   obtain⟨y,rfl,h3⟩:=fO h1;simp only[NY,a09]at e1;obtain⟨u,e3,rfl⟩:=e1;exact nI (DU hg hA hX h3 e3)
  |loc a b=>simp only[NY,a00]at e1;subst e1;rw[DR h1];exact⟨rfl,rfl⟩
  |undef=>simp only[NY,a00]at e1;subst e1;rw[IJ h1];trivial
  |ent r j v=>
   obtain⟨c,y,rfl,h3,h4⟩:=LG h1;simp only[NY,a09]at e1;obtain⟨u,e3,rfl⟩:=e1;exact⟨DU hg hA hX h3 (w:=.map u) (by simp only[fJ,e3,a0T]),rfl,h4⟩
  |Eh r j=>
   obtain⟨c,rfl,h3⟩:=LH h1;simp only[NY,a09]at e1;obtain⟨u,e3,rfl⟩:=e1;exact⟨DU hg hA hX h3 (w:=.map u) (by simp only[fJ,e3,a0T]),rfl⟩
theorem DV(hX:bM X P)(hg:∀i j,g i=some j->m1[j]? = m[i]?)(hA:∀b,A b->B b){b b':PB X.Γ}{mb:MB}(hn:∀c,mb=.jf c->c∉bn m->c∉bn m1)(hb:BR X P A m h b mb)(hr:yX g b=some b'):BR X P B m1 h b' mb:=by
 cases b with
 |cells cs=>
  cases mb with
  |fV c=>
   simp only[yX,a09]at hr;obtain⟨cs',h1,rfl⟩:=hr;obtain⟨xs,h2,h3⟩:=hb;exact⟨xs,h2,yZ hX hg hA h3 h1⟩
  |_=>exact hb.elim
 |aC cs=>
  cases mb with
  |jf c=>
   simp only[yX,a09]at hr;obtain⟨cs',h1,rfl⟩:=hr;obtain⟨h0,xs,h2,h3⟩:=hb;exact⟨hn c rfl h0,xs,h2,yZ hX hg hA h3 h1⟩
  |_=>exact hb.elim
 |list k ex t l=>
  cases mb with
  |dw y=>
   simp only[yX,a00]at hr;subst hr;cases(hb:LR X P A m h k ex t l y)with
   |nil=>exact LR.nil
   |emp p0 p1 p2 p3 p4=>exact LR.emp (hA _ p0) p1 p2 p3 p4
   |some p1 p2 p3 p4 p5 p6 p7 p8 p9=>exact LR.some p1 p2 p3 p4 p5 p6 p7 p8 ((p9.mono hA).jc hX)
  |_=>exact hb.elim
 |map es=>
  cases mb with
  |fV c=>
   simp only[yX,a00]at hr;subst hr;exact hb
  |_=>exact hb.elim
 |lZ cs=>
  cases mb with
  |fV c=>
   simp only[yX,a00]at hr;subst hr;exact hb
  |_=>exact hb.elim
 |iD es=>
  cases mb with
  |jf c=>
   simp only[yX,a00]at hr;subst hr;exact⟨hn c rfl hb.1,hb.2⟩
  |_=>exact hb.elim
 |cZ r n seen=>
  cases mb with
  |fV b=>
   simp only[yX,a09]at hr;obtain⟨j,h1,rfl⟩:=hr;obtain⟨c,h2,h3,h4⟩:=hb;exact⟨c,h2,by rw[hg _ _ h1];exact h3,fun c' hc=>h4 c' (by rw[<-hg _ _ h1];exact hc)⟩
  |_=>exact hb.elim
 |mark=>
  cases mb with
  |fV c=>simp only[yX,a00]at hr;subst hr;exact hb
  |_=>exact hb.elim
 |loop rd f nt env ps a c jC=>
  cases mb with
  |fV cb=>
   simp only[yX,a09]at hr;obtain⟨atH,h1,rfl⟩:=hr;obtain⟨xs,h2,h3⟩:=hb;exact⟨xs,h2,Oi hX hg hA h3 h1⟩
  |_=>exact hb.elim
 |gone=>
  cases mb with
  |gone=>simp only[yX,a00]at hr;subst hr;trivial
  |_=>exact hb.elim
theorem sN:∀{bs r:List (PB X.Γ)},nC g bs=some r->r.length=bs.length∧∀{i:Nat} {b':PB X.Γ},r[i]? = some b'->∃b,bs[i]? = some b∧yX g b=some b'
 | [],r,h=>by simp only[nC,a00]at h;subst h;exact⟨rfl,fun{i b'} hi=>by simp at hi⟩
 |b::bs,r,h=>by
  simp only[nC]at h;split at h
  .rename_i c cs h1 h2;cases h;obtain⟨e1,e2⟩:=sN h2;refine⟨by simp[e1],fun{i b'} hi=>?_⟩;cases i with
   |zero=>simp only[a2J,a00]at hi;subst hi;exact⟨b,rfl,h1⟩
   |succ i=>obtain⟨d,q1,q2⟩:=e2 (i:=i) (by simpa using hi);exact⟨d,by simpa using q1,q2⟩
  cases h
theorem Oj:∀{bs r:List (List (PV X.Γ))},Wv g bs=some r->r.length=bs.length∧∀{i:Nat} {b':List (PV X.Γ)},r[i]? = some b'->∃b,bs[i]? = some b∧fJ.oH g b=some b'
 | [],r,h=>by simp only[Wv,a00]at h;subst h;exact⟨rfl,fun{i b'} hi=>by simp at hi⟩
 |b::bs,r,h=>by
  simp only[Wv]at h;split at h
  .rename_i c cs h1 h2;cases h;obtain⟨e1,e2⟩:=Oj h2;refine⟨by simp[e1],fun{i b'} hi=>?_⟩;cases i with
   |zero=>simp only[a2J,a00]at hi;subst hi;exact⟨b,rfl,h1⟩
   |succ i=>obtain⟨d,q1,q2⟩:=e2 (i:=i) (by simpa using hi);exact⟨d,by simpa using q1,q2⟩
  cases h
theorem DW:∀{ks:List Nat} {H r:List (PB X.Γ)},CG H ks=some r->r.length=ks.length∧∀{i k:Nat},ks[i]? = some k->∃b,H[k]? = some b∧r[i]? = some b
 | [],H,r,h=>by simp only[CG,a00]at h;subst h;exact⟨rfl,fun{i k} hi=>by simp at hi⟩
 |k::ks,H,r,h=>by
  simp only[CG]at h;split at h
  .rename_i b rs h1 h2;cases h;obtain⟨e1,e2⟩:=DW h2;refine⟨by simp[e1],fun{i j} hi=>?_⟩;cases i with
   |zero=>simp only[a2J,a00]at hi;subst hi;exact⟨b,h1,rfl⟩
   |succ i=>obtain⟨d,q1,q2⟩:=e2 (i:=i) (k:=j) (by simpa using hi);exact⟨d,q1,by simpa using q2⟩
  cases h
end
theorem sO{α:Type}:∀{ks:List Nat} {bs l:List α},(putAt ks bs l).length=l.length
 | [],_,_=>rfl
 |_::_,[],_=>rfl
 |k::ks,b::bs,l=>by simp only[putAt];rw[sO,a4q]
theorem Ol{α:Type}:∀{ks:List Nat} {bs l:List α} {p i:Nat},ks.Nodup->(∀k∈ks,k<l.length)->ks.length<=bs.length->ks[p]? = some i->(putAt ks bs l)[i]? = bs[p]?
 | [],_,_,p,i,_,_,_,h=>by simp at h
 |a::ks,[],_,_,_,_,_,hl,_=>by simp at hl
 |a::ks,b::bs,l,0,i,hn,hk,hl,h=>by
  simp only[a2J,a00]at h;subst h;have hn:=a4g.1 hn;simp only[putAt];have:∀{ks:List Nat} {bs l:List α} {i:Nat},i∉ks->(putAt ks bs l)[i]? = l[i]?:=by
   intro ks
   induction ks with
   |nil=>intro bs l i _;rfl
   |cons c ks ih=>
    intro bs l i hi;simp only[a1Y,adq]at hi;cases bs with
    |nil=>rfl
    |cons b bs=>simp only[putAt];rw[ih hi.2,a1D (fun e=>hi.1 e.symm)]
  rw[this hn.1,a2k (hk a (a3N ..))];rfl
 |a::ks,b::bs,l,p+1,i,hn,hk,hl,h=>by
  simp only[a9o]at h;simp only[putAt];rw[Ol (a4g.1 hn).2 (fun k nT=>by rw[a4q];exact hk k (a3O _ nT)) (by simpa using hl) h];rfl
theorem IL{α:Type}:∀{ks:List Nat} {bs l:List α} {i:Nat},i∉ks->(putAt ks bs l)[i]? = l[i]?
 | [],_,_,_,_=>rfl
 |a::ks,[],_,_,_=>rfl
 |a::ks,b::bs,l,i,hi=>by
  simp only[a1Y,adq]at hi;simp only[putAt];rw[IL hi.2,a1D (fun e=>hi.1 e.symm)]
def WQ(X:kE)(P:Program)(call:aZ)(fv:PV X.Γ)(xs:List (PV X.Γ))(H:List (PB X.Γ))(v:PV X.Γ)(H1:List (PB X.Γ))(W:Nat->Prop):Prop:=
 ∀(A:Nat->Prop) (m:List MB) (h:List HB) (tf:TV) (rP:List TV),HR X P A m H h->VR X P (AA A m) m h fv tf->bV X P (AA A m) m h xs rP ->
  ∃w h1 ws m1,call tf rP h=some (w,h1,ws)∧HR X P A m1 H1 h1∧VR X P (AA A m1) m1 h1 v w∧Fr m h m1 h1∧Up m m1∧∀b∈ws,∃k,W k∧GL m k b
theorem aX.w{call:aZ}{fv v:PV X.Γ}{xs:List (PV X.Γ)}{H H1:List (PB X.Γ)}(h:aX X P call fv xs H v H1):WQ X P call fv xs H v H1 fun _=>True:=fun A m h0 tf rP a b c=>by
 obtain⟨w,h1,ws,m1,c1,c2,c3,c4,c5,c6⟩:=h A m h0 tf rP a b c;exact⟨w,h1,ws,m1,c1,c2,c3,c4,c5,fun b hb=>by obtain⟨i,hi⟩:=jU (c6 b hb);exact⟨i,trivial,hi⟩⟩
theorem LM:∀{H:List (PB X.Γ)} {i:Nat} {b:PB X.Γ},IE H=true->H[i]? = some b->IE [b]=true
 | [],_,_,_,h=>by simp at h
 |a::H,0,b,hn,h=>by
  simp only[a2J,a00]at h;subst h;cases a<;>simp_all [IE]
 |a::H,i+1,b,hn,h=>by
  have DC:IE H=true:=by cases a<;>simp_all [IE]
  exact LM DC (by simpa using h)
def SwM(m m':List MB):Prop:=∀i:Nat,m'[i]? = m[i]?∨(∃c,m[i]? = some (.fV c)∧m'[i]? = some (.jf c))∨∃c,m[i]? = some (.jf c)∧m'[i]? = some (.fV c)
section
variable {m':List MB}
theorem VR.sw(hm:SwM m m')(hA:∀b,A b->B b){v:PV X.Γ}{x:TV}(hv:VR X P A m h v x):VR X P B m' h v x:=by
 have hl:∀{i:Nat} {x:TV},m[i]? = some (.dw x)->m'[i]? = some (.dw x):=fun{i x} e=>by
  rcases hm i with g|⟨c,g,_⟩|⟨c,g,_⟩
  .rw[g,e]
  .rw[e]at g;cases g
  rw[e]at g;cases g
 have hb:∀{i c:Nat},m[i]? = some (.fV c)->m'[i]? = some (.fV c)∨m'[i]? = some (.jf c):=fun{i c} e=>by
  rcases hm i with g|⟨c',g,g2⟩|⟨c',g,_⟩
  .exact .inl (by rw[g,e])
  .rw[e]at g;cases g;exact .inr g2
  rw[e]at g;cases g
 induction hv with
 |bool=>exact .bool _
 |lit=>exact .lit _
 |int=>exact .int _ _
 |str=>exact .str _
 |nil=>exact .nil _
 |ptr e=>rcases hb e with e|e;exact .ptr e;exact .gone rfl (.ofR e rfl) rfl
 |slc e=>rcases hb e with e|e;exact .slc e;exact .gone rfl (.ofR e rfl) rfl
 |own e o=>exact .own (hl e) o
 |win e q q' q2=>exact .win (hl e) q q' q2
 |Ac e=>exact .Ac (hl e)
 |map e=>rcases hb e with e|e;exact .map e;exact .gone rfl (.ofR e rfl) rfl
 |iter e=>rcases hb e with e|e;exact .iter e;exact .gone rfl (.ofR e rfl) rfl
 |fn h1 _ h3 _ i2 i4=>exact .fn h1 i2 h3 i4
 |kC e=>rcases hb e with e|e;exact .kC e;exact .gone rfl (.ofR e rfl) rfl
 |agg h1 _ i2=>exact .agg h1 i2
 |dG h1 _ i2=>exact .dG h1 i2
 |nZ=>exact .nZ
 |dw a c c2 s z o k f e _ ih=>exact .dw (hA _ a) c c2 s z o k f e ih
 |el a c l o e q _ ih=>exact .el (hA _ a) c l o e q ih
 |row e j q=>exact .row (hl e) j q
 | @gone v i x hi e o=>
  generalize hq:m[i]? = q at e;cases e with
  |g=>
   rcases hm i with g|⟨c,g,_⟩|⟨c,g,_⟩
   .exact .gone hi (.of (by rw[g,hq])) o
   .rw[hq]at g;cases g
   rw[hq]at g;cases g
  |r c hv=>
   rcases hm i with g|⟨c',g,_⟩|⟨c',g,g2⟩
   .exact .gone hi (.ofR (by rw[g,hq]) hv) o
   .rw[hq]at g;cases g
   rw[hq]at g;cases g;cases v<;>simp only[roV,a00]at hv<;>first|cases hv;done|skip
   all_goals (subst hv;simp only[bg,a00]at hi;subst hi)
   .exact .ptr g2
   .exact .slc g2
   .exact .map g2
   .exact .kC g2
   exact .iter g2
theorem bV.sw(hm:SwM m m')(hA:∀b,A b->B b){v:List (PV X.Γ)}{x:List TV}(hv:bV X P A m h v x):bV X P B m' h v x:=
 ⟨hv.1,fun i a b ha hb=>(hv.2 i a b ha hb).sw hm hA⟩
theorem jJ.sw(hm:SwM m m')(hA:∀b,A b->B b){v:List (Nat×PE X.Γ)}{x:List (Nat×EV)}(hv:jJ X P A m h v x):jJ X P B m' h v x:=by
 induction hv with
 |nil=>exact .nil
 |cons h1 _ ih=>
  refine .cons ?_ ih;rename_i v x _ _ _;cases v<;>cases x<;>first|exact VR.sw hm hA h1|exact h1|exact⟨VR.sw hm hA h1.1,h1.2⟩
theorem BR.sw(hm:SwM m m')(hA:∀b,A b->B b){b:PB X.Γ}{mb:MB}(hn:∀c,mb=.jf c->c∉bn m->c∉bn m')(hb:BR X P A m h b mb):BR X P B m' h b mb:=by
 cases b with
 |cells cs=>cases mb with
  |fV b=>obtain⟨cs',h1,h2⟩:=hb;exact⟨cs',h1,h2.sw hm hA⟩
  |_=>exact hb.elim
 |aC cs=>cases mb with
  |jf b=>obtain⟨h0,cs',h1,h2⟩:=hb;exact⟨hn b rfl h0,cs',h1,h2.sw hm hA⟩
  |_=>exact hb.elim
 |list k ex t l=>cases mb with
  |dw x=>
   cases(hb:LR X P A m h k ex t l x)with
   |nil=>exact LR.nil
   |emp h0 h1 h2 h3 h4=>exact LR.emp (hA _ h0) h1 h2 h3 h4
   |some h1 h2 h3 h4 h5 h6 h7 h8 h9=>exact LR.some h1 h2 h3 h4 h5 h6 h7 h8 ⟨h9.1,h9.2.1,fun j a i c v a1 a2 a3=>(h9.2.2 j a i c v a1 a2 a3).sw hm hA⟩
  |_=>exact hb.elim
 |map es=>cases mb with
  |fV b=>exact hb
  |_=>exact hb.elim
 |lZ cs=>cases mb with
  |fV b=>exact hb
  |_=>exact hb.elim
 |iD es=>cases mb with
  |jf b=>exact⟨hn b rfl hb.1,hb.2⟩
  |_=>exact hb.elim
 |cZ r n seen=>cases mb with
  |fV b=>
   obtain⟨c,h1,h2,h3⟩:=hb;refine⟨c,h1,?_,fun c' hc=>?_⟩
   .rcases hm r with g|⟨c',g,g2⟩|⟨c',g,g2⟩
    .rw[g];exact h2
    .rw[g2];rfl
    .rw[g2];rfl
   .rcases hm r with g|⟨c2,g,g2⟩|⟨c2,g,g2⟩
    .exact h3 c' (by rw[<-g];exact hc)
    .rw[g2]at hc;simp at hc;subst hc;exact h3 c2 (.inl g)
    .rw[g2]at hc;simp at hc;subst hc;exact h3 c2 (.inr g)
  |_=>exact hb.elim
 |mark=>cases mb with
  |fV b=>exact hb
  |_=>exact hb.elim
 |loop rd f nt env ps a c jC=>cases mb with
  |fV b=>obtain⟨e',h1,h2⟩:=hb;exact⟨e',h1,h2.sw hm hA⟩
  |_=>exact hb.elim
 |gone=>cases mb with
  |gone=>trivial
  |_=>exact hb.elim
end
theorem ae3{call:aZ}{fv v:PV X.Γ}{xs:List (PV X.Γ)}{H H1:List (PB X.Γ)}{W:Nat->Prop}{r:Nat}{cs RG:List (PV X.Γ)}(h0:H[r]? = some (.cells cs))(h9:H1[r]? = some (.cells RG))(hro:IE (H1.drop H.length)=true)
  (hs:WQ X P call fv xs (H.set r (.aC cs)) v (H1.set r (.aC RG)) W):WQ X P call fv xs H v H1 fun k=>W k∧k≠r:=fun A m h tf rP hr hf hx=>by
 obtain⟨mb0,q1,q2⟩:=hr.at_ r _ h0;have hrl:r<H.length:=(a04.1 h0).1;have hrm:r<m.length:=by rw[hr.len];exact hrl
 cases mb0 with
 |fV c=>
  obtain⟨cs',q3,q4⟩:=q2;have GR:c∈bn m:=bf q1 rfl;have hch:=(a04.1 q3).1;have hm:SwM m (m.set r (.jf c)):=fun i=>by
   by_cases e:i=r
   .subst e;exact .inr (.inl ⟨c,q1,by rw[a2k hrm]⟩)
   .exact .inl (by rw[a1D (fun h=>e h.symm)])
  have old:∀{i b:Nat},GL (m.set r (.jf c)) i b->i≠r∧GL m i b:=fun{i b} ho=>by
   obtain⟨mb,a1,a2⟩:=ho;by_cases e:i=r
   .subst e;rw[a2k hrm]at a1;cases a1;cases a2
   .rw[a1D (fun h=>e h.symm)]at a1;exact⟨e,mb,a1,a2⟩
  have pK:∀b,b∈bn (m.set r (.jf c))->b∈bn m∧b≠c:=fun b hb=>by
   obtain⟨i,hi⟩:=jU hb;obtain⟨e,mb,a1,a2⟩:=old hi;refine⟨bf a1 a2,fun e2=>?_⟩;subst e2;exact e (iT hr.nodup a1 q1 a2 rfl)
  have hA:∀b,AA A m b->AA (fun b=>A b∧b≠c) (m.set r (.jf c)) b:=fun b hb=>⟨⟨hb.1,fun e=>hb.2 (e▸GR)⟩,fun h=>hb.2 (pK b h).1⟩;have wX:HR X P (fun b=>A b∧b≠c) (m.set r (.jf c)) (H.set r (.aC cs)) h:=by
   refine⟨by simp[hr.len],fun i b hi=>?_,jo fun i j d a1 a2=>?_,fun b hb=>⟨hr.up b hb,by omega⟩,fun b hb=>⟨hr.CP b (pK b hb).1,(pK b hb).2⟩⟩
   .by_cases e:i=r
    .subst e;rw[a2k hrl]at hi;cases hi;exact⟨.jf c,by rw[a2k hrm],fun h=>(pK c h).2 rfl,cs',q3,q4.sw hm hA⟩
    .rw[a1D (fun h=>e h.symm)]at hi;obtain⟨mb,g1,g2⟩:=hr.at_ i b hi;exact⟨mb,by rw[a1D (fun h=>e h.symm)];exact g1,g2.sw hm hA fun d _ hn h=>hn (pK d h).1⟩
   .obtain⟨_,ma,u1,u2⟩:=old a1;obtain⟨_,mc,v1,v2⟩:=old a2;exact iT hr.nodup u1 v1 u2 v2
  obtain⟨w,h1,ws,m1,c1,c2,c3,c4,c5,c6⟩:=hs (fun b=>A b∧b≠c) (m.set r (.jf c)) h tf rP wX (hf.sw hm hA) (hx.sw hm hA)
  .have ae4:r<H1.length:=(a04.1 h9).1;obtain⟨mb1,e1,e2⟩:=c2.at_ r (.aC RG) (by rw[a2k ae4]);have e3:=c5 r (.jf c) (by rw[a2k hrm]);have e4:mb1=.jf c:=by
    rcases e3 with e3|e3<;>rw[e1]at e3<;>cases e3
    .rfl
    .exact e2.elim
   subst e4;obtain⟨p0,WE,p1,p2⟩:=e2;have IQ:r<m1.length:=(a04.1 e1).1;have hm1:SwM m1 (m1.set r (.fV c)):=fun i=>by
    by_cases e:i=r
    .subst e;exact .inr (.inr ⟨c,e1,by rw[a2k IQ]⟩)
    .exact .inl (by rw[a1D (fun h=>e h.symm)])
   have at1:∀{i:Nat} {mb:MB},i≠r->(m1.set r (.fV c))[i]? = some mb->m1[i]? = some mb:=fun{i mb} e h=>by rw[a1D (fun h=>e h.symm)]at h;exact h
   have BU:∀b,b∈bn (m1.set r (.fV c))->b=c∨b∈bn m1:=fun b hb=>by
    obtain⟨i,mb,a1,a2⟩:=jU hb;by_cases e:i=r
    .subst e;rw[a2k IQ]at a1;cases a1;cases a2;exact .inl rfl
    .exact .inr (bf (at1 e a1) a2)
   have hA1:∀b,AA (fun b=>A b∧b≠c) m1 b->AA A (m1.set r (.fV c)) b:=fun b hb=>⟨hb.1.1,fun h=>by
    rcases BU b h with e|e
    .exact hb.1.2 e
    .exact hb.2 e⟩
   refine⟨w,h1,ws,m1.set r (.fV c),c1,⟨by rw[a4q,c2.len,a4q],fun i b hi=>?_,jo fun i j d a1 a2=>?_,fun b hb=>(c2.up b hb).1,fun b hb=>?_⟩,c3.sw hm1 hA1,⟨c4.len,fun b hb hn=>c4.same b hb fun h=>hn (pK b h).1,fun b hb=>?_,c4.grow⟩,fun i mb hi=>?_,fun b hb=>?_⟩
   .by_cases e:i=r
    .subst e;rw[h9]at hi;cases hi;exact⟨.fV c,by rw[a2k IQ],WE,p1,p2.sw hm1 hA1⟩
    .obtain⟨mb,g1,g2⟩:=c2.at_ i b (by rw[a1D (fun h=>e h.symm)];exact hi);refine⟨mb,by rw[a1D (fun h=>e h.symm)];exact g1,g2.sw hm1 hA1 fun d hd hn Zk=>?_⟩;subst hd;rcases BU d Zk with e5|e5
     .subst e5;rcases a4a i m.length with aS|Eu
      .have JE:(m.set r (.jf d))[i]? = m[i]?:=(by rw[a1D (fun h=>e h.symm)]);have hmi:m[i]? = some (.jf d):=by
        rcases c5 i m[i] (by rw[JE];exact a0a aS)with e6|e6<;>rw[g1]at e6<;>simp only[a00]at e6
        .rw[a0a aS,<-e6]
        .cases e6
       have hlH:i<H.length:=by rw[<-hr.len];exact aS
       obtain⟨mb9,e7,e8⟩:=hr.at_ i _ (a0a hlH);rw[hmi]at e7;cases e7;generalize H[i]=b9 at e8;cases b9<;>first|exact e8.elim|exact e8.1 GR
      .have e6:(H1.drop H.length)[i-H.length]? = some b:=by rw[a4b,<-hi];congr 1;rw[hr.len]at Eu;omega
       have e7:=LM hro e6;cases b<;>first|exact g2.elim|cases e7
     .exact hn e5
   .obtain⟨ma,u1,u2⟩:=a1;obtain⟨mc,v1,v2⟩:=a2;by_cases e:i=r<;>by_cases e':j=r
    .rw[e,e']
    .subst e;rw[a2k IQ]at u1;cases u1;cases u2;exact absurd (bf (at1 e' v1) v2) p0
    .subst e';rw[a2k IQ]at v1;cases v1;cases v2;exact absurd (bf (at1 e u1) u2) p0
    .exact iT c2.nodup (at1 e u1) (at1 e' v1) u2 v2
   .rcases BU b hb with e|e
    .subst e;exact hr.CP _ GR
    .exact(c2.CP b e).1
   .rcases BU b hb with e|e
    .subst e;exact .inl GR
    .rcases c4.new b e with g|g
     .exact .inl (pK b g).1
     .exact .inr g
   .by_cases e:i=r
    .subst e;rw[q1]at hi;cases hi;exact .inl (by rw[a2k IQ])
    .rw[a1D (fun h=>e h.symm)];exact c5 i mb (by rw[a1D (fun h=>e h.symm)];exact hi)
   .obtain⟨k,k1,k2⟩:=c6 b hb;obtain⟨k3,k4⟩:=old k2;exact⟨k,⟨k1,k3⟩,k4⟩
 |_=>exact q2.elim
theorem a9x{call:aZ}{fv v:PV X.Γ}{xs:List (PV X.Γ)}{H H1:List (PB X.Γ)}{W:Nat->Prop}{r:Nat}{es es1:List (PV X.Γ×PV X.Γ)}(h0:H[r]? = some (.map es))(h9:H1[r]? = some (.map es1))(hro:IE (H1.drop H.length)=true)
  (hs:WQ X P call fv xs (H.set r (.iD es)) v (H1.set r (.iD es1)) W):WQ X P call fv xs H v H1 fun k=>W k∧k≠r:=fun A m h tf rP hr hf hx=>by
 obtain⟨mb0,q1,q2⟩:=hr.at_ r _ h0;have hrl:r<H.length:=(a04.1 h0).1;have hrm:r<m.length:=by rw[hr.len];exact hrl
 cases mb0 with
 |fV c=>
  obtain⟨cs',q3,q4⟩:=q2;have GR:c∈bn m:=bf q1 rfl;have hch:=(a04.1 q3).1;have hm:SwM m (m.set r (.jf c)):=fun i=>by
   by_cases e:i=r
   .subst e;exact .inr (.inl ⟨c,q1,by rw[a2k hrm]⟩)
   .exact .inl (by rw[a1D (fun h=>e h.symm)])
  have old:∀{i b:Nat},GL (m.set r (.jf c)) i b->i≠r∧GL m i b:=fun{i b} ho=>by
   obtain⟨mb,a1,a2⟩:=ho;by_cases e:i=r
   .subst e;rw[a2k hrm]at a1;cases a1;cases a2
   .rw[a1D (fun h=>e h.symm)]at a1;exact⟨e,mb,a1,a2⟩
  have pK:∀b,b∈bn (m.set r (.jf c))->b∈bn m∧b≠c:=fun b hb=>by
   obtain⟨i,hi⟩:=jU hb;obtain⟨e,mb,a1,a2⟩:=old hi;refine⟨bf a1 a2,fun e2=>?_⟩;subst e2;exact e (iT hr.nodup a1 q1 a2 rfl)
  have hA:∀b,AA A m b->AA (fun b=>A b∧b≠c) (m.set r (.jf c)) b:=fun b hb=>⟨⟨hb.1,fun e=>hb.2 (e▸GR)⟩,fun h=>hb.2 (pK b h).1⟩;have wX:HR X P (fun b=>A b∧b≠c) (m.set r (.jf c)) (H.set r (.iD es)) h:=by
   refine⟨by simp[hr.len],fun i b hi=>?_,jo fun i j d a1 a2=>?_,fun b hb=>⟨hr.up b hb,by omega⟩,fun b hb=>⟨hr.CP b (pK b hb).1,(pK b hb).2⟩⟩
   .by_cases e:i=r
    .subst e;rw[a2k hrl]at hi;cases hi;exact⟨.jf c,by rw[a2k hrm],fun h=>(pK c h).2 rfl,cs',q3,q4⟩
    .rw[a1D (fun h=>e h.symm)]at hi;obtain⟨mb,g1,g2⟩:=hr.at_ i b hi;exact⟨mb,by rw[a1D (fun h=>e h.symm)];exact g1,g2.sw hm hA fun d _ hn h=>hn (pK d h).1⟩
   .obtain⟨_,ma,u1,u2⟩:=old a1;obtain⟨_,mc,v1,v2⟩:=old a2;exact iT hr.nodup u1 v1 u2 v2
  obtain⟨w,h1,ws,m1,c1,c2,c3,c4,c5,c6⟩:=hs (fun b=>A b∧b≠c) (m.set r (.jf c)) h tf rP wX (hf.sw hm hA) (hx.sw hm hA)
  .have ae4:r<H1.length:=(a04.1 h9).1;obtain⟨mb1,e1,e2⟩:=c2.at_ r (.iD es1) (by rw[a2k ae4]);have e3:=c5 r (.jf c) (by rw[a2k hrm]);have e4:mb1=.jf c:=by
    rcases e3 with e3|e3<;>rw[e1]at e3<;>cases e3
    .rfl
    .exact e2.elim
   subst e4;obtain⟨p0,WE,p1,p2⟩:=e2;have IQ:r<m1.length:=(a04.1 e1).1;have hm1:SwM m1 (m1.set r (.fV c)):=fun i=>by
    by_cases e:i=r
    .subst e;exact .inr (.inr ⟨c,e1,by rw[a2k IQ]⟩)
    .exact .inl (by rw[a1D (fun h=>e h.symm)])
   have at1:∀{i:Nat} {mb:MB},i≠r->(m1.set r (.fV c))[i]? = some mb->m1[i]? = some mb:=fun{i mb} e h=>by rw[a1D (fun h=>e h.symm)]at h;exact h
   have BU:∀b,b∈bn (m1.set r (.fV c))->b=c∨b∈bn m1:=fun b hb=>by
    obtain⟨i,mb,a1,a2⟩:=jU hb;by_cases e:i=r
    .subst e;rw[a2k IQ]at a1;cases a1;cases a2;exact .inl rfl
    .exact .inr (bf (at1 e a1) a2)
   have hA1:∀b,AA (fun b=>A b∧b≠c) m1 b->AA A (m1.set r (.fV c)) b:=fun b hb=>⟨hb.1.1,fun h=>by
    rcases BU b h with e|e
    .exact hb.1.2 e
    .exact hb.2 e⟩
   refine⟨w,h1,ws,m1.set r (.fV c),c1,⟨by rw[a4q,c2.len,a4q],fun i b hi=>?_,jo fun i j d a1 a2=>?_,fun b hb=>(c2.up b hb).1,fun b hb=>?_⟩,c3.sw hm1 hA1,⟨c4.len,fun b hb hn=>c4.same b hb fun h=>hn (pK b h).1,fun b hb=>?_,c4.grow⟩,fun i mb hi=>?_,fun b hb=>?_⟩
   .by_cases e:i=r
    .subst e;rw[h9]at hi;cases hi;exact⟨.fV c,by rw[a2k IQ],WE,p1,p2⟩
    .obtain⟨mb,g1,g2⟩:=c2.at_ i b (by rw[a1D (fun h=>e h.symm)];exact hi);refine⟨mb,by rw[a1D (fun h=>e h.symm)];exact g1,g2.sw hm1 hA1 fun d hd hn Zk=>?_⟩;subst hd;rcases BU d Zk with e5|e5
     .subst e5;rcases a4a i m.length with aS|Eu
      .have JE:(m.set r (.jf d))[i]? = m[i]?:=(by rw[a1D (fun h=>e h.symm)]);have hmi:m[i]? = some (.jf d):=by
        rcases c5 i m[i] (by rw[JE];exact a0a aS)with e6|e6<;>rw[g1]at e6<;>simp only[a00]at e6
        .rw[a0a aS,<-e6]
        .cases e6
       have hlH:i<H.length:=by rw[<-hr.len];exact aS
       obtain⟨mb9,e7,e8⟩:=hr.at_ i _ (a0a hlH);rw[hmi]at e7;cases e7;generalize H[i]=b9 at e8;cases b9<;>first|exact e8.elim|exact e8.1 GR
      .have e6:(H1.drop H.length)[i-H.length]? = some b:=by rw[a4b,<-hi];congr 1;rw[hr.len]at Eu;omega
       have e7:=LM hro e6;cases b<;>first|exact g2.elim|cases e7
     .exact hn e5
   .obtain⟨ma,u1,u2⟩:=a1;obtain⟨mc,v1,v2⟩:=a2;by_cases e:i=r<;>by_cases e':j=r
    .rw[e,e']
    .subst e;rw[a2k IQ]at u1;cases u1;cases u2;exact absurd (bf (at1 e' v1) v2) p0
    .subst e';rw[a2k IQ]at v1;cases v1;cases v2;exact absurd (bf (at1 e u1) u2) p0
    .exact iT c2.nodup (at1 e u1) (at1 e' v1) u2 v2
   .rcases BU b hb with e|e
    .subst e;exact hr.CP _ GR
    .exact(c2.CP b e).1
   .rcases BU b hb with e|e
    .subst e;exact .inl GR
    .rcases c4.new b e with g|g
     .exact .inl (pK b g).1
     .exact .inr g
   .by_cases e:i=r
    .subst e;rw[q1]at hi;cases hi;exact .inl (by rw[a2k IQ])
    .rw[a1D (fun h=>e h.symm)];exact c5 i mb (by rw[a1D (fun h=>e h.symm)];exact hi)
   .obtain⟨k,k1,k2⟩:=c6 b hb;obtain⟨k3,k4⟩:=old k2;exact⟨k,⟨k1,k3⟩,k4⟩
 |_=>exact q2.elim
theorem Zl{call:aZ}{fv v:PV X.Γ}{xs:List (PV X.Γ)}{W:Nat->Prop}:∀{rs:List Nat} {H H1 Hr PW:List (PB X.Γ)},roB rs H H1=some (Hr,PW)->IE (H1.drop H.length)=true->WQ X P call fv xs Hr v PW W->WQ X P call fv xs H v H1 fun k=>W k∧k∉rs
 | [],H,H1,Hr,PW,h1,hn,hs=>by
  simp only[roB,a00,a0S]at h1;obtain⟨rfl,rfl⟩:=h1;intro A m h tf rP a b c;obtain⟨w,h1,ws,m1,c1,c2,c3,c4,c5,c6⟩:=hs A m h tf rP a b c;exact⟨w,h1,ws,m1,c1,c2,c3,c4,c5,fun b hb=>by obtain⟨k,k1,k2⟩:=c6 b hb;exact⟨k,⟨k1,by simp⟩,k2⟩⟩
 |r::rs,H,H1,Hr,PW,h1,hn,hs=>by
  simp only[roB]at h1;split at h1
  .rename_i cs RG e1 e2;have aS:r<H.length:=(a04.1 e1).1;have:=ae3 e1 e2 hn (Zl h1 (by rw[a4q,List.drop_set_of_lt aS];exact hn) hs);intro A m h tf rP a b c;obtain⟨w,h1,ws,m1,c1,c2,c3,c4,c5,c6⟩:=this A m h tf rP a b c;exact⟨w,h1,ws,m1,c1,c2,c3,c4,c5,fun b hb=>by obtain⟨k,⟨⟨k1,k3⟩,k4⟩,k2⟩:=c6 b hb;exact⟨k,⟨k1,by simp[k3,k4]⟩,k2⟩⟩
  .rename_i cs RG e1 e2;have aS:r<H.length:=(a04.1 e1).1;have:=a9x e1 e2 hn (Zl h1 (by rw[a4q,List.drop_set_of_lt aS];exact hn) hs);intro A m h tf rP a b c;obtain⟨w,h1,ws,m1,c1,c2,c3,c4,c5,c6⟩:=this A m h tf rP a b c;exact⟨w,h1,ws,m1,c1,c2,c3,c4,c5,fun b hb=>by obtain⟨k,⟨⟨k1,k3⟩,k4⟩,k2⟩:=c6 b hb;exact⟨k,⟨k1,by simp[k3,k4]⟩,k2⟩⟩
  cases h1
theorem WR{α:Type}{rs:List Nat}:∀{ks:List α} {i p:Nat} {k:α},ks[p]? = some k->i+p∉rs->k∈a2A rs i ks
 | [],_,_,_,h,_=>by simp at h
 |a::ks,i,0,k,h,hn=>by
  simp only[a2J,a00]at h;subst h;simp only[a2A];rw[a0g (by simpa using hn)];exact a3N
 |a::ks,i,p+1,k,h,hn=>by
  have:=WR (ks:=ks) (i:=i+1) (p:=p) (k:=k) (by simpa using h) (by rwa [Nat.add_right_comm,aa0] );simp only[a2A];split
  .exact this
  exact a3O _ this
theorem IU(hX:bM X P){call:aZ}{ks:List Nat}{H' Hp H H1 PW:List (PB X.Γ)}{fv fv' v v':PV X.Γ}{xs xs':List (PV X.Γ)}{W:Nat->Prop}(hs:WQ X P call fv xs H v H1 W)
  (je:ks.Nodup) (hp:CG H' ks=some Hp) (hH:nC (vY ks) Hp=some H) (hf:fJ (vY ks) fv'=some fv) (hx:fJ.oH (vY ks) xs'=some xs)
  (hv:fJ (bk ks H'.length) v=some v') (hH1:nC (bk ks H'.length) H1=some PW) (hro:IE (H1.drop ks.length)=true) :
  ∀(A:Nat->Prop) (m':List MB) (h:List HB) (tf:TV) (rP:List TV),HR X P A m' H' h->VR X P (AA A m') m' h fv' tf->bV X P (AA A m') m' h xs' rP ->
  ∃w h1 ws m1,call tf rP h=some (w,h1,ws)∧HR X P A m1 (putAt ks PW H'++PW.drop ks.length) h1∧VR X P (AA A m1) m1 h1 v' w∧Fr m' h m1 h1∧Up m' m1∧∀b∈ws,∃p k,ks[p]? = some k∧W p∧GL m' k b:=by
 intro A m' h tf rP hr hf' EY;have hpg:=DW hp;have hHg:=sN hH;have hkH:∀{p k:Nat},ks[p]? = some k->k<m'.length:=fun{p k} hk=>by
  obtain⟨b,q1,_⟩:=hpg.2 hk;rw[hr.len];exact(a04.1 q1).1
 have hkm:∀k∈ks,k<m'.length:=fun k hk=>by
  obtain⟨i,hi⟩:=a8y hk;exact hkH hi
 let m:List MB:=ks.map fun k=>m'.getD k .gone
 have hm:∀{p k:Nat},ks[p]? = some k->m[p]? = m'[k]?:=fun{p k} hk=>by
  show(ks.map _)[p]? = _;rw[a4h,hk];have:=hkH hk;simp[a2X,this]
 have a5K:m.length=ks.length:=a4e ..;have RP:∀{p:Nat} {mb:MB},m[p]? = some mb->∃k,ks[p]? = some k∧m'[k]? = some mb:=fun{p mb} hpm=>by
  have:p<ks.length:=by rw[<-a5K];exact(a04.1 hpm).1
  have hk:=a0a this;exact⟨_,hk,by rw[<-hm hk];exact hpm⟩
 have pK:∀b,b∈bn m->b∈bn m':=fun b hb=>by
  obtain⟨j,mb,q1,q2⟩:=jU hb;obtain⟨k,_,q3⟩:=RP q1;exact bf q3 q2
 have ae5:∀{i:Nat} {mb:MB} {b:Nat},i∉ks->m'[i]? = some mb->mb.own=some b->b∉bn m:=fun{i mb b} hi h1 h2 hb=>by
  obtain⟨j,mc,q1,q2⟩:=jU hb;obtain⟨k,q3,q4⟩:=RP q1;have:=iT hr.nodup h1 q4 h2 q2;subst this;exact hi (a4l q3)
 let A2:Nat->Prop:=fun b=>A b∧(b∈bn m'->b∈bn m)
 have hA:∀b,AA A m' b->AA A2 m b:=fun b hb=>⟨⟨hb.1,fun h9=>absurd h9 hb.2⟩,fun h9=>hb.2 (pK b h9)⟩;have hg:∀i j,vY ks i=some j->m[j]? = m'[i]?:=fun i j zV=>hm (Oh zV);have wX:HR X P A2 m H h:=by
  refine⟨by rw[a5K,hHg.1,hpg.1],fun j b hj=>?_,jo fun i j c q1 q2=>?_,fun b hb=>⟨hr.up b hb,fun h9=>absurd (hr.inb h9) (by omega)⟩,fun b hb=>⟨hr.CP b (pK b hb),fun _=>hb⟩⟩
  .obtain⟨b0,q1,q2⟩:=hHg.2 hj;have rO:j<ks.length:=by rw[<-hpg.1];exact(a04.1 q1).1
   have hk:=a0a rO;obtain⟨b9,q5,q6⟩:=hpg.2 hk;rw[q1]at q6;cases q6;obtain⟨mb,q3,q4⟩:=hr.at_ _ _ q5;exact⟨mb,by rw[hm hk];exact q3,DV hX hg hA (fun c _ h9 h8=>h9 (pK c h8)) q4 q2⟩
  .obtain⟨ma,a1,a2⟩:=q1;obtain⟨mc,c1,c2⟩:=q2;obtain⟨k,a3,a4⟩:=RP a1;obtain⟨l,c3,c4⟩:=RP c1;have e:=iT hr.nodup a4 c4 a2 c2;subst e;exact(List.getElem?_inj (a04.1 a3).1 je).1 (by rw[a3,c3])
 obtain⟨w,h1,ws,m1,c1,c2,c3,c4,c5,c6⟩:=hs A2 m h tf rP wX (DU hg hA hX hf' hf) (yZ hX hg hA EY hx);have a5L:ks.length<=m1.length:=by
  rcases abA ks.length with e|e
  .omega
  .have aS:ks.length-1<m.length:=(by omega);have:=c5 (ks.length-1) m[ks.length-1] (a0a aS);rcases this with g|g<;>(have:=(a04.1 g).1;omega)
 let m1':List MB:=putAt ks m1 m'++m1.drop ks.length
 have hn:m'.length=H'.length:=hr.len;have a9y:(putAt ks m1 m').length=m'.length:=sO;have a0U:∀{p k:Nat},ks[p]? = some k->m1'[k]? = m1[p]?:=fun{p k} hk=>by
  show(putAt ks m1 m'++_)[k]? = _;rw[a0e (by rw[a9y];exact hkH hk),Ol je hkm a5L hk]
 have Zm:∀{i:Nat},i<m'.length->i∉ks->m1'[i]? = m'[i]?:=fun{i} hi hk=>by
  show(putAt ks m1 m'++_)[i]? = _;rw[a0e (by rw[a9y];exact hi),IL hk]
 have Zn:∀{j:Nat},ks.length<=j->m1'[m'.length+(j-ks.length)]? = m1[j]?:=fun{j} hj=>by
  show(putAt ks m1 m'++_)[_]? = _;rw[a1c (by rw[a9y];omega),a9y,Nat.add_sub_cancel_left,a4b];congr 1;omega
 have hgb:∀j i,bk ks H'.length j=some i->m1'[i]? = m1[j]?:=fun j i zV=>by
  unfold bk at zV;split at zV
  .rename_i k hk;cases zV;exact a0U hk
  .rename_i hk;cases zV;rw[<-hn];exact Zn (by rw[List.getElem?_eq_none_iff]at hk;exact hk)
 have Bd:∀{i:Nat} {mb:MB},m1'[i]? = some mb->(∃p,ks[p]? = some i∧m1[p]? = some mb)∨(i<m'.length∧i∉ks∧m'[i]? = some mb)∨(∃j,ks.length<=j∧i=m'.length+(j-ks.length)∧m1[j]? = some mb):=fun{i mb} hi=>by
  rcases a4a i m'.length with aS|Eu
  .by_cases hk:i∈ks
   .obtain⟨p,hp⟩:=a8y hk;exact .inl ⟨p,hp,by rw[<-a0U hp];exact hi⟩
   .exact .inr (.inl ⟨aS,hk,by rw[<-Zm aS hk];exact hi⟩)
  .refine .inr (.inr ⟨i-m'.length+ks.length,by omega,by omega,?_⟩);rw[<-Zn (by omega)];rw[<-hi];congr 1;omega
 have yL:∀{b:Nat},b∈bn m1'->b∈bn m1∨∃i mb,i∉ks∧m'[i]? = some mb∧mb.own=some b:=fun{b} hb=>by
  obtain⟨i,mb,q1,q2⟩:=jU hb;rcases Bd q1 with⟨p,_,q3⟩|⟨_,q3,q4⟩|⟨j,_,_,q3⟩
  .exact .inl (bf q3 q2)
  .exact .inr ⟨i,mb,q3,q4,q2⟩
  .exact .inl (bf q3 q2)
 have a9z:∀{i b:Nat} {mb:MB},i∉ks->m'[i]? = some mb->mb.own=some b->b∉bn m1:=fun{i b mb} h1 h2 h3 h4=>by
  rcases c4.new b h4 with g|g
  .exact ae5 h1 h2 h3 g
  .exact absurd (hr.inb (bf h2 h3)) (by omega)
 have hA3:∀b,AA A2 m1 b->AA A m1' b:=fun b hb=>⟨hb.1.1,fun h9=>by
  rcases yL h9 with g|⟨i,mb,g1,g2,g3⟩
  .exact hb.2 g
  .exact ae5 g1 g2 g3 (hb.1.2 (bf g2 g3))⟩
 have hF:Fr m' h m1' h1:=⟨c4.len,fun b hb hnb=>c4.same b hb fun h9=>hnb (pK b h9),fun b hb=>by
  rcases yL hb with g|⟨i,mb,g1,g2,g3⟩
  .rcases c4.new b g with g|g
   .exact .inl (pK b g)
   .exact .inr g
  .exact .inl (bf g2 g3),c4.grow⟩
 have hU:Up m' m1':=fun i mb hi=>by
  have aS:=(a04.1 hi).1;by_cases hk:i∈ks
  .obtain⟨p,hp⟩:=a8y hk;rw[a0U hp];exact c5 p mb (by rw[hm hp];exact hi)
  .exact .inl (by rw[Zm aS hk];exact hi)
 have ae6:=sN hH1;have ahX:m1.length=H1.length:=c2.len;refine⟨w,h1,ws,m1',c1,⟨?_,fun i b hi=>?_,?_,fun b hb=>(c2.up b hb).1,fun b hb=>?_⟩,DU hgb hA3 hX c3 hv,hF,hU,fun b hb=>?_⟩
 .show(putAt ks m1 m'++_).length=_;rw[a2a,a2a,sO,sO,a3S,a3S,ae6.1,ahX,hn]
 .have ahY:ks.length<=PW.length:=by rw[ae6.1,<-ahX];exact a5L
  have anQ:∀k∈ks,k<H'.length:=fun k hk=>by rw[<-hn];exact hkm k hk
  have back:∀{j:Nat} {b:PB X.Γ},PW[j]? = some b->∃mb,m1[j]? = some mb∧BR X P (AA A m1') m1' h1 b mb:=fun{j b} hj=>by
   obtain⟨b0,q1,q2⟩:=ae6.2 hj;obtain⟨mb,q3,q4⟩:=c2.at_ j b0 q1;refine⟨mb,q3,DV hX hgb hA3 (fun c e h9 h8=>?_) q4 q2⟩;rcases yL h8 with g|⟨i,LC,g1,g2,g3⟩
   .exact h9 g
   .subst e;rcases a4a j ks.length with hj1|hj1
    .have hk:=a0a hj1;have rO:j<m.length:=by rw[a5K];exact hj1
     have hmj:m[j]? = some (.jf c):=by
      rcases c5 j _ (a0a rO)with e|e<;>rw[q3]at e<;>simp only[a00]at e
      .rw[a0a rO,<-e]
      .cases e
     obtain⟨k,e1,e2⟩:=RP hmj;obtain⟨b9,e3,_⟩:=hpg.2 e1;obtain⟨mb9,e4,e5⟩:=hr.at_ _ _ e3;rw[e2]at e4;cases e4;cases b9<;>first|exact e5.elim|exact e5.1 (bf g2 g3)
    .have e1:(H1.drop ks.length)[j-ks.length]? = some b0:=by rw[a4b,<-q1];congr 1;omega
     have e2:=LM hro e1;cases b0<;>first|exact q4.elim|cases e2
  rcases a4a i H'.length with aS|Eu
  .rw[a0e (by rw[sO];exact aS)]at hi;by_cases hk:i∈ks
   .obtain⟨p,hpk⟩:=a8y hk;rw[Ol je anQ ahY hpk]at hi;obtain⟨mb,q1,q2⟩:=back hi;exact⟨mb,by rw[a0U hpk];exact q1,q2⟩
   .rw[IL hk]at hi;obtain⟨mb,q1,q2⟩:=hr.at_ i b hi;refine⟨mb,by rw[Zm (by rw[hn];exact aS) hk];exact q1,q2.step hF hU fun c hc=>?_⟩;exact c4.same c (hr.inb (bf q1 hc)) (ae5 hk q1 hc)
  .rw[a1c (by rw[sO];exact Eu),sO,a4b]at hi;obtain⟨mb,q1,q2⟩:=back hi;refine⟨mb,?_,q2⟩;have:=Zn (j:=ks.length+(i-H'.length)) (by omega);rw[q1]at this;rw[<-this];congr 1;omega
 .refine jo fun i j c q1 q2=>?_;obtain⟨ma,a1,a2⟩:=q1;obtain⟨mc,b1,b2⟩:=q2;rcases Bd a1 with⟨p,a3,a4⟩|⟨a3,a4,a5⟩|⟨p,a3,a4,a5⟩<;>rcases Bd b1 with⟨q,b3,b4⟩|⟨b3,b4,b5⟩|⟨q,b3,b4,b5⟩
  .have:=iT c2.nodup a4 b4 a2 b2;subst this;rw[a3]at b3;cases b3;rfl
  .exact absurd (bf a4 a2) (a9z b4 b5 b2)
  .have:=iT c2.nodup a4 b5 a2 b2;subst this;have:=(a04.1 a3).1;omega
  .exact absurd (bf b4 b2) (a9z a4 a5 a2)
  .exact iT hr.nodup a5 b5 a2 b2
  .exact absurd (bf b5 b2) (a9z a4 a5 a2)
  .have:=iT c2.nodup a5 b4 a2 b2;subst this;have:=(a04.1 b3).1;omega
  .exact absurd (bf a5 a2) (a9z b4 b5 b2)
  .have:=iT c2.nodup a5 b5 a2 b2;subst this;omega
 .rcases yL hb with g|⟨i,mb,g1,g2,g3⟩
  .exact(c2.CP b g).1
  .exact hr.CP b (bf g2 g3)
 .obtain⟨j,hw,mb,q1,q2⟩:=c6 b hb;obtain⟨k,q3,q4⟩:=RP q1;exact⟨j,k,q3,hw,mb,q4,q2⟩
end
end Pv
