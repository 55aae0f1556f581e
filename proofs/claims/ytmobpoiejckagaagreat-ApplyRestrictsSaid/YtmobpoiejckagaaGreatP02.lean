/- Part 3 of a proof: Any diagram with any digit for any choice is the document's, or the error is; for all diagrams, choices and digits. -/
import Derived.Test.YtmobpoiejckagaaGreatP01
set_option linter.constructorNameAsVariable false
set_option linter.unusedVariables false
set_option linter.unusedSimpArgs false
set_option linter.unusedSectionVars false
noncomputable section
namespace Pv
open Go Tw
section
variable {X:kR} {P:Program} {A:Nat->Prop} {m m':List MB} {h h':List HB} {H H':List (PB X.Γ)}
theorem HR.next(hr:HR X P A m H h)(hF:Fr m h m' h')(hU:Up m m')(hl:m'.length=H'.length)(hn:(bD m').Nodup)
  (JW:∀(i:Nat) b,H'[i]? = some b->(∃mb,H[i]? = some b∧m[i]? = some mb∧m'[i]? = some mb∧∀c,mb.own=some c->h'[c]? = h[c]?)∨∃mb,m'[i]? = some mb∧BR X P (AA A m') m' h' b mb):HR X P A m' H' h':=by
 refine⟨hl,fun i b hb=>?_,hn,fun b hb=>hr.up b (by have:=hF.len;omega),fun b hb=>?_⟩
 .rcases JW i b hb with⟨mb,h1,h2,h3,h4⟩|h1
  .obtain⟨LZ,g1,g2⟩:=hr.at_ i b h1;rw[h2]at g1;cases g1;exact⟨mb,h3,g2.step hF hU h4⟩
  .exact h1
 .rcases hF.new b hb with h1|h1
  .exact hr.D6 b h1
  .exact hr.up b h1
theorem BR.has{B:Nat->Prop}{b:PB X.Γ}{mb:MB}{c:Nat}(hb:BR X P B m h b mb)(ho:mb.own=some c):c<h.length:=by
 have key:∀{y},h[c]? = some y->c<h.length:=fun e=>(a0d.1 e).1;cases b with
 |cells cs=>
  cases mb with
  |gy b=>cases ho;obtain⟨_,h1,_⟩:=hb;exact key h1
  |_=>exact hb.elim
 |aF cs=>
  cases mb with
  |ji b=>cases ho
  |_=>exact hb.elim
 |list k ex t l=>
  cases mb with
  |dD x=>
   cases(hb:LR X P B m h k ex t l x)with
   |nil=>cases ho
   |emp=>simp[MB.own]at ho
   |some h1 _ _ h4=>
    simp only[MB.own]at ho;split at ho
    .cases ho
    cases ho;exact key h4
  |_=>exact hb.elim
 |map es=>
  cases mb with
  |gy b=>cases ho;obtain⟨_,h1,_⟩:=hb;exact key h1
  |_=>exact hb.elim
 |mZ cs=>
  cases mb with
  |gy b=>cases ho;obtain⟨_,h1,_⟩:=hb;exact key h1
  |_=>exact hb.elim
 |iG es=>
  cases mb with
  |ji b=>cases ho
  |_=>exact hb.elim
 |dn r n seen=>
  cases mb with
  |gy b=>cases ho;obtain⟨_,h1,_⟩:=hb;exact key h1
  |_=>exact hb.elim
 |mark=>
  cases mb with
  |gy b=>cases ho;exact key hb
  |_=>exact hb.elim
 |loop=>
  cases mb with
  |gy b=>cases ho;obtain⟨_,h1,_⟩:=hb;exact key h1
  |_=>exact hb.elim
 |gone=>
  cases mb with
  |gone=>cases ho
  |_=>exact hb.elim
theorem HR.inb(hr:HR X P A m H h){c:Nat}(hc:c∈bD m):c<h.length:=by
 obtain⟨mb,hm,ho⟩:=a7d.1 hc;obtain⟨i,hi⟩:=a8C hm;have:i<H.length:=by rw[<-hr.len];exact(a0d.1 hi).1
 obtain⟨LZ,h1,h2⟩:=hr.at_ i H[i] (a0g this);rw[hi]at h1;cases h1;exact h2.has ho
theorem jc(a b:List MB):bD (a++b)=bD a++bD b:=List.filterMap_append ..
theorem kM(mb:MB):bD [mb]=mb.own.toList:=by unfold bD;simp[a8Q];cases mb.own<;>rfl
theorem wM(ms:List MB):Up m (m++ms):=fun i mb hi=>.inl (by rw[a0k (a0d.1 hi).1];exact hi)
theorem HR.push(hr:HR X P A m H h){pb:PB X.Γ}{hb:HB}{mb:MB}(ho:mb.own=some h.length∨mb.own=none)(qI:BR X P (AA A (m++[mb])) (m++[mb]) (h++[hb]) pb mb) :
  HR X P A (m++[mb]) (H++[pb]) (h++[hb])∧Fr m h (m++[mb]) (h++[hb])∧Up m (m++[mb]):=by
 have hF:Fr m h (m++[mb]) (h++[hb]):=by
  refine⟨by simp,fun b hb _=>by rw[a0k hb],fun b hb=>?_,fun b cs hc=>⟨cs,?_,a0w _⟩⟩
  .rw[jc,a2Y,kM]at hb;rcases hb with hb|hb
   .exact .inl hb
   .rcases ho with ho|ho<;>rw[ho]at hb<;>simp at hb
    exact .inr (by omega)
  .rw[fV (a0k (gV hc)),hc]
 refine⟨hr.next hF (wM _) (by simp[hr.len]) ?_ fun i b hi=>?_,hF,wM _⟩
 .rw[jc,kM];refine a8G.2 ⟨hr.nodup,?_,?_⟩
  .cases mb.own<;>simp
  .intro a ha b hb e;subst e;have:=hr.inb ha;rcases ho with ho|ho<;>rw[ho]at hb<;>simp at hb
   omega
 .rcases a4h i H.length with aQ|EJ
  .left;rw[a0k aQ]at hi;obtain⟨LZ,h1,h2⟩:=hr.at_ i b hi;refine⟨LZ,hi,h1,by rw[a0k (by rw[hr.len];exact aQ)];exact h1,fun c hc=>?_⟩;rw[a0k (h2.has hc)]
  .right;rw[a1d EJ]at hi;have:i-H.length=0:=by
    rcases aby (i-H.length)with h|h
    .exact h
    .rw[a4e (by simp;omega)]at hi;cases hi
   rw[this]at hi;simp only[a2Q,a03]at hi;subst hi;exact⟨mb,by rw[a1d (by rw[hr.len];exact EJ),hr.len,this];rfl,qI⟩
theorem HR.abO(hr:HR X P A m H h){pb:PB X.Γ}{mb:MB}(ho:mb.own=none)(qI:BR X P (AA A (m++[mb])) (m++[mb]) h pb mb) :
  HR X P A (m++[mb]) (H++[pb]) h∧Fr m h (m++[mb]) h∧Up m (m++[mb]):=by
 have yN:bD (m++[mb])=bD m:=by rw[jc,kM,ho];simp
 have hF:Fr m h (m++[mb]) h:=⟨a0w _,fun _ _ _=>rfl,fun b hb=>.inl (yN▸hb),fun b cs hc=>⟨cs,hc,a0w _⟩⟩;refine⟨hr.next hF (wM _) (by simp[hr.len]) (by rw[yN];exact hr.nodup) fun i b hi=>?_,hF,wM _⟩;rcases a4h i H.length with aQ|EJ
 .left;rw[a0k aQ]at hi;obtain⟨LZ,h1,h2⟩:=hr.at_ i b hi;exact⟨LZ,hi,h1,by rw[a0k (by rw[hr.len];exact aQ)];exact h1,fun c hc=>rfl⟩
 .right;rw[a1d EJ]at hi;have:i-H.length=0:=by
   rcases aby (i-H.length)with h|h
   .exact h
   .rw[a4e (by simp;omega)]at hi;cases hi
  rw[this]at hi;simp only[a2Q,a03]at hi;subst hi;exact⟨mb,by rw[a1d (by rw[hr.len];exact EJ),hr.len,this];rfl,qI⟩
theorem HR.set(hr:HR X P A m H h){i c:Nat}{mb:MB}{pb:PB X.Γ}{hb:HB}(hi:m[i]? = some mb)(ho:mb.own=some c)(hg:∀cs,aW h c=some cs->∃cs',aW (h.set c hb) c=some cs'∧cs.length<=cs'.length)
  (qI:Fr m h m (h.set c hb)->BR X P (AA A m) m (h.set c hb) pb mb):HR X P A m (H.set i pb) (h.set c hb)∧Fr m h m (h.set c hb):=by
 have hF:Fr m h m (h.set c hb):=by
  refine⟨by simp,fun b hb hn=>?_,fun b hb=>.inl hb,fun b cs hc=>?_⟩
  .rw[a1n];intro e;subst e;exact hn (bf hi ho)
  .by_cases e:c=b
   .subst e;exact hg cs hc
   .exact⟨cs,by rw[fV (a1n e),hc],a0w _⟩
 refine⟨hr.next hF .refl (by simp[hr.len]) hr.nodup fun j b hj=>?_,hF⟩;by_cases e:i=j
 .subst e;rw[a4k ]at hj;right;have:H[i]?.isSome:=by
   have:i<H.length:=by rw[<-hr.len];exact(a0d.1 hi).1
   simp[this]
  obtain⟨y,hy⟩:=a5v.1 this;rw[hy]at hj;cases hj;exact⟨mb,hi,qI hF⟩
 .rw[a1n e]at hj;left;obtain⟨LZ,h1,h2⟩:=hr.at_ j b hj;refine⟨LZ,hj,h1,h1,fun d hd=>a1n fun e2=>?_⟩;subst e2;exact e (iW hr.nodup hi h1 ho hd)
theorem EW{i:Nat}:∀{m:List MB} {b:Nat},b∈bD (m.set i .gone)->b∈bD m:=by
 intro m b hb;obtain⟨mb,hm,ho⟩:=a7d.1 hb;obtain⟨j,hj⟩:=a8C hm;by_cases e:i=j
 .subst e;rw[a4k]at hj;cases hx:m[i]? with
  |none=>rw[hx]at hj;cases hj
  |some y=>rw[hx]at hj;cases hj;cases ho
 rw[a1n e]at hj;exact bf hj ho
theorem Om{i:Nat}:∀{m:List MB},(bD m).Nodup->(bD (m.set i .gone)).Nodup:=by
 unfold bD;intro m
 induction m generalizing i with
 |nil=>intro h;simp
 |cons x r ih=>
  intro hn;cases i with
  |zero=>
   simp only[List.set_cons_zero,a8Q,MB.own];simp only[a8Q]at hn;split at hn
   .exact hn
   exact(a4m.1 hn).2
  |succ i=>
   simp only[List.set_cons_succ,a8Q];simp only[a8Q]at hn;split at hn
   .exact ih hn
   refine a4m.2 ⟨fun hb=>(a4m.1 hn).1 ?_,ih (a4m.1 hn).2⟩;exact EW (m:=r) hb
theorem a13{i:Nat}:Fr m h (m.set i .gone) h:=⟨a0w _,fun _ _ _=>rfl,fun _ hb=>.inl (EW hb),fun _ cs hc=>⟨cs,hc,a0w _⟩⟩
theorem a14{i:Nat}:Up m (m.set i .gone):=fun j mb hj=>by
 by_cases e:i=j
 .subst e;right;rw[a4k,hj];rfl
 .left;rw[a1n e];exact hj
theorem HR.gone(hr:HR X P A m H h)(i:Nat):HR X P A (m.set i .gone) (H.set i .gone) h:=by
 refine hr.next a13 a14 (by simp[hr.len]) (Om hr.nodup) fun j b hj=>?_;by_cases e:i=j
 .subst e;right;rw[a4k]at hj;cases hx:H[i]? with
  |none=>rw[hx]at hj;cases hj
  |some y=>
   rw[hx]at hj;cases hj;obtain⟨mb,h1,_⟩:=hr.at_ i y hx;exact⟨.gone,by rw[a4k,h1];rfl,trivial⟩
 rw[a1n e]at hj;left;obtain⟨mb,h1,_⟩:=hr.at_ j b hj;exact⟨mb,hj,h1,by rw[a1n e];exact h1,fun _ _=>rfl⟩
def bW:List Nat->List MB->List MB
 | [],m=>m
 |i::is,m=>bW is (m.set i .gone)
theorem iC:∀(is:List Nat) (m:List MB),Fr m h (bW is m) h∧Up m (bW is m)
 | [],m=>⟨.refl,.refl⟩
 |i::is,m=>⟨a13.trans (iC is _).1,a14.trans (iC is _).2⟩
theorem HR.aZ:∀(is:List Nat) {m:List MB} {H:List (PB X.Γ)},HR X P A m H h->HR X P A (bW is m) (aZ is H) h
 | [],_,_,hr=>hr
 |i::is,_,_,hr=>HR.aZ is (hr.gone i)
theorem nO:∀(is:List Nat) (H:List (PB X.Γ)),(Pv.aZ is H).length=H.length
 | [],_=>rfl
 |i::is,H=>by rw[Pv.aZ,nO is];simp[WB]
theorem mO:∀(is:List Nat) (m:List MB),(bW is m).length=m.length
 | [],_=>rfl
 |i::is,m=>by rw[bW,mO is];simp
theorem GV:∀(is:List Nat) {m:List MB} {i:Nat} {mb:MB},m[i]? = some mb->(bW is m)[i]? = some (if is.contains i then .gone else mb)
 | [],_,_,_,h=>by simpa[bW]using h
 |j::is,m,i,mb,h=>by
  rw[bW];by_cases e:j=i
  .subst e;have:(m.set j .gone)[j]? = some .gone:=by rw[a4k,h];rfl
   rw[GV is this];simp
  rw[GV is (by rw[a1n e];exact h)];have:(i==j)=false:=by simp;omega
  simp only[agY,this,afS]
end
section
variable {X:kR} {P:Program} {A:Nat->Prop} {m m':List MB} {h h':List HB} {H H':List (PB X.Γ)}
theorem bZ.nil:bZ X P A m h [] []:=⟨rfl,fun i x y hx=>by simp at hx⟩
theorem bZ.cons{v:PV X.Γ}{x:TV}{vs:List (PV X.Γ)}{xs:List TV}(h1:VR X P A m h v x)(h2:bZ X P A m h vs xs):bZ X P A m h (v::vs) (x::xs):=by
 refine⟨by simp[h2.1],fun i a b ha hb=>?_⟩;cases i with
 |zero=>simp only[a2Q,a03]at ha hb;subst ha;subst hb;exact h1
 |succ i=>exact h2.2 i a b (by simpa using ha) (by simpa using hb)
theorem bZ.inv{v:PV X.Γ}{vs:List (PV X.Γ)}{xs:List TV}(hv:bZ X P A m h (v::vs) xs):∃x r,xs=x::r∧VR X P A m h v x∧bZ X P A m h vs r:=by
 cases xs with
 |nil=>have:=hv.1;simp at this
 |cons x r=>exact⟨x,r,rfl,hv.2 0 v x rfl rfl,by have:=hv.1;simpa using this,fun i a b ha hb=>hv.2 (i+1) a b (by simpa using ha) (by simpa using hb)⟩
theorem bZ.inv0{xs:List TV}(hv:bZ X P A m h [] xs):xs=[]:=by have:=hv.1;cases xs<;>simp_all
theorem bZ.app{a b:List (PV X.Γ)}{x y:List TV}(h1:bZ X P A m h a x)(h2:bZ X P A m h b y):bZ X P A m h (a++b) (x++y):=by
 refine⟨by simp[h1.1,h2.1],fun i c d hc hd=>?_⟩;rcases a4h i a.length with hl|hl
 .rw[a0k hl]at hc;rw[a0k (by rw[<-h1.1];exact hl)]at hd;exact h1.2 i c d hc hd
 rw[a1d hl]at hc;rw[a1d (by rw[<-h1.1];exact hl),<-h1.1]at hd;exact h2.2 _ c d hc hd
theorem bZ.drop{a:List (PV X.Γ)}{x:List TV}(h1:bZ X P A m h a x)(n:Nat):bZ X P A m h (a.drop n) (x.drop n):=
 ⟨by simp[h1.1],fun i c d hc hd=>h1.2 (n+i) c d (by rw[<-hc,a4j]) (by rw[<-hd,a4j])⟩
theorem bZ.take{a:List (PV X.Γ)}{x:List TV}(h1:bZ X P A m h a x)(n:Nat):bZ X P A m h (a.take n) (x.take n):=by
 refine⟨by simp[h1.1],fun i c d hc hd=>?_⟩;rw[a4i]at hc hd;split at hc
 .rename_i hl;rw[a0q hl]at hd;exact h1.2 i c d hc hd
 cases hc
theorem bZ.get{a:List (PV X.Γ)}{x:List TV}(h1:bZ X P A m h a x){i:Nat}{c:PV X.Γ}(hc:a[i]? = some c):∃v,x[i]? = some v∧VR X P A m h c v:=by
 have hl:i<x.length:=by rw[<-h1.1];exact(a0d.1 hc).1
 exact⟨x[i],a0g hl,h1.2 i c _ hc (a0g hl)⟩
theorem RI{v:PV X.Γ}{x tv:TV}(hv:VR X P A m h v x)(hp:qU v=some tv):x=tv:=by
 cases hv with
 |gone hi _ _=>cases v<;>simp[bC]at hi<;>simp[qU]at hp
 |_=>first|(simp only[qU,a03]at hp;exact hp)|(simp[qU]at hp;done)
theorem FP:∀{vs:List (PV X.Γ)} {xs tvs:List TV},bZ X P A m h vs xs->iK vs=some tvs->xs=tvs
 | [],xs,tvs,hv,hp=>by simp only[iK,a03]at hp;rw[hv.inv0,hp]
 |v::vs,xs,tvs,hv,hp=>by
  obtain⟨x,r,rfl,h1,h2⟩:=hv.inv;simp only[iK]at hp;split at hp
  .rename_i a b ha hb;cases hp;rw[RI h1 ha,FP h2 hb]
  cases hp
theorem jO{v:PV X.Γ}{x tv:TV}(hv:VR X P A m h v x)(hp:qg v=some tv):x=tv:=by
 cases v with
 |agg cs=>
  simp only[qg,a0f]at hp;obtain⟨tvs,h1,rfl⟩:=hp;cases hv with
  |agg h2 h3=>rw[FP ⟨h2,h3⟩ h1]
  |gone hi _ _=>simp[bC]at hi
 |_=>exact RI hv hp
theorem a15:∀{vs:List (PV X.Γ)} {xs tvs:List TV},bZ X P A m h vs xs->Ud vs=some tvs->xs=tvs
 | [],xs,tvs,hv,hp=>by simp only[Ud,a03]at hp;rw[hv.inv0,hp]
 |v::vs,xs,tvs,hv,hp=>by
  obtain⟨x,r,rfl,h1,h2⟩:=hv.inv;simp only[Ud]at hp;split at hp
  .rename_i a b ha hb;cases hp;rw[jO h1 ha,a15 h2 hb]
  cases hp
theorem a5J{v:PV X.Γ}{x:TV}(hp:ofC x=some v):VR X P A m h v x:=by
 cases x<;>simp[ofC]at hp<;>subst hp<;>constructor
theorem Un:∀{xs:List TV} {vs:List (PV X.Γ)},BZ xs=some vs->bZ X P A m h vs xs
 | [],vs,hp=>by simp only[BZ,a03]at hp;subst hp;exact .nil
 |x::xs,vs,hp=>by
  simp only[BZ]at hp;split at hp
  .rename_i a b ha hb;cases hp;exact .cons (a5J ha) (Un hb)
  cases hp
theorem wP{v:PV X.Γ}{x:TV}(hp:Yt x=some v):VR X P A m h v x:=by
 cases x with
 |agg cs=>
  simp only[Yt,a0f]at hp;obtain⟨vs,h1,rfl⟩:=hp;have:=Un (X:=X) (P:=P) (A:=A) (m:=m) (h:=h) h1;exact .agg this.1 this.2
 |_=>exact a5J hp
theorem RJ{v:PV X.Γ}{x:TV}(hp:qU v=some x):VR X P A m h v x:=by
 cases v<;>simp only[qU,a03,reduceCtorEq]at hp<;>subst hp
 .exact .bool _
 .exact .int _ _
 .exact .str _
 exact .nil _
theorem FQ:∀{vs:List (PV X.Γ)} {xs:List TV},iK vs=some xs->bZ X P A m h vs xs
 | [],xs,hp=>by simp only[iK,a03]at hp;subst hp;exact .nil
 |v::vs,xs,hp=>by
  simp only[iK]at hp;split at hp
  .rename_i a b ha hb;cases hp;exact .cons (RJ ha) (FQ hb)
  cases hp
theorem nP{v:PV X.Γ}{x:TV}(hp:qg v=some x):VR X P A m h v x:=by
 cases v with
 |agg cs=>
  simp only[qg,a0f]at hp;obtain⟨vs,h1,rfl⟩:=hp;have:=FQ (X:=X) (P:=P) (A:=A) (m:=m) (h:=h) h1;exact .agg this.1 this.2
 |_=>exact RJ hp
theorem GX{v:PV X.Γ}{x:TV}(hv:VR X P A m h v x):VR X P A m h (a0U v) x:=by
 cases v with
 |lit b=>
  cases hv with
  |lit=>exact .bool _
  |gone hi _ _=>simp[bC]at hi
 |_=>exact hv
theorem a5K{v:PV X.Γ}{x:TV}(hv:VR X P A m h v x):iU x=Zb v:=by
 cases hv with
 |own _ o=>exact o
 |gone hi _ o=>rw[o];cases v<;>simp[bC]at hi<;>rfl
 |_=>rfl
theorem GY{v:PV X.Γ}{x:TV}(hv:VR X P A m h v x):bZ X P A m h v.cells x.cells:=by
 have hq:=a5K hv;cases v with
 |agg cs=>
  cases hv with
  |agg h1 h2=>exact⟨h1,h2⟩
  |gone hi _ _=>simp[bC]at hi
 |dF cs=>
  have hv':=hv;cases hv with
  |dF h1 h2=>exact .cons hv' .nil
  |gone hi _ _=>simp[bC]at hi
 |_=>
  have:x.cells=[x]:=by
   cases x<;>first|rfl|(simp[iU,Zb]at hq;done)
  rw[this];exact .cons hv .nil
theorem Ea:∀{vs:List (PV X.Γ)} {xs:List TV},bZ X P A m h vs xs->xs.all iU=vs.all Zb
 | [],xs,hv=>by rw[hv.inv0];rfl
 |v::vs,xs,hv=>by
  obtain⟨x,r,rfl,h1,h2⟩:=hv.inv;simp only[abM,a5K h1,Ea h2]
theorem ae4{cs:List (PV X.Γ)}{xs:List TV}(hv:bZ X P A m h cs xs){off n:Nat}{r:List (PV X.Γ)}(hs:adX cs off n=some r):∃r',sub xs off n=some r'∧bZ X P A m h r r':=by
 unfold adX at hs;split at hs
 .rename_i hl;cases hs;exact⟨_,by unfold sub;rw[a0q (by rw[<-hv.1];exact hl)],(hv.drop off).take n⟩
 cases hs
theorem GZ{cs new:List (PV X.Γ)}{xs ai2:List TV}(hv:bZ X P A m h cs xs)(hn:bZ X P A m h new ai2){off:Nat}{r:List (PV X.Γ)}(hs:Oc cs off new=some r):∃r',vY xs off ai2=some r'∧bZ X P A m h r r':=by
 unfold Oc at hs;split at hs
 .rename_i hl;cases hs;refine⟨_,by unfold vY;rw[a0q (by rw[<-hv.1,<-hn.1];exact hl)],?_⟩;rw[<-hn.1];exact((hv.take off).app hn).app (hv.drop _)
 cases hs
theorem Aj{cs:List (PV X.Γ)}{xs:List TV}(hv:bZ X P A m h cs xs){t:TypeId}{off:Nat}{v:PV X.Γ}(hs:GI P t cs off=some v):∃x,uh P t xs off=some x∧VR X P A m h v x:=by
 unfold GI at hs;unfold uh;split at hs
 .rename_i n ha hn;simp only[a0f]at hs;obtain⟨r,h1,rfl⟩:=hs;obtain⟨r',g1,g2⟩:=ae4 hv h1;exact⟨.agg r',by simp only[ha,hn,g1,a1b],.agg g2.1 g2.2⟩
 .rename_i n ha hn;split at hs
  .rename_i h1;obtain⟨x,g1,g2⟩:=hv.get hs;exact⟨x,by simp only[ha,hn,h1,a2y,g1],g2⟩
  cases hs
 cases hs
theorem H6{t:TypeId}{z:List (PV X.Γ)}(hz:RF P t=some z):∃z',JM P t=some z'∧bZ X P A m h z z':=by
 unfold RF at hz;split at hz
 .rename_i z' h1;exact⟨z',h1,Un hz⟩
 cases hz
def VPs(X:kR)(P:Program)(A:Nat->Prop)(m:List MB)(h:List HB)(ps:List (Nat×PV X.Γ))(qs:List (Nat×TV)):Prop:=
 ps.length=qs.length∧∀(i:Nat) a b,ps[i]? = some a->qs[i]? = some b->a.1=b.1∧VR X P A m h a.2 b.2
theorem VPs.inv{a:Nat×PV X.Γ}{ps:List (Nat×PV X.Γ)}{qs:List (Nat×TV)}(hv:VPs X P A m h (a::ps) qs):∃x r,qs=(a.1,x)::r∧VR X P A m h a.2 x∧VPs X P A m h ps r:=by
 cases qs with
 |nil=>have:=hv.1;simp at this
 |cons q r=>
  obtain⟨h1,h2⟩:=hv.2 0 a q rfl rfl;refine⟨q.2,r,by rw[h1],h2,by have:=hv.1;simpa using this,fun i x y hx hy=>hv.2 (i+1) x y (by simpa using hx) (by simpa using hy)⟩
theorem Mc{pl:Nat->Option (Nat×Nat)}:∀{ps:List (Nat×PV X.Γ)} {qs:List (Nat×TV)} {cs:List (PV X.Γ)} {xs:List TV},VPs X P A m h ps qs->bZ X P A m h cs xs->∀{r:List (PV X.Γ)},Oe pl cs ps=some r->∃r',rZ pl xs qs=some r'∧bZ X P A m h r r'
 | [],qs,cs,xs,hp,hv,r,hs=>by
  have:qs=[]:=by have:=hp.1;cases qs<;>simp_all
  subst this;simp only[Oe,a03]at hs;subst hs;exact⟨xs,rfl,hv⟩
 |(i,v)::ps,qs,cs,xs,hp,hv,r,hs=>by
  obtain⟨x,rest,rfl,h1,h2⟩:=hp.inv;have hc:=GY h1;simp only[Oe]at hs;split at hs
  .rename_i off size DY;split at hs
   .rename_i uT;split at hs
    .rename_i cs' ho;obtain⟨xs',g1,g2⟩:=GZ hv hc ho;obtain⟨r',g3,g4⟩:=Mc h2 g2 hs;have adI:x.cells.length=size:=by rw[<-hc.1];exact uT
     exact⟨r',by simp only[rZ,DY,adI,a2y,g1,g3],g4⟩
    cases hs
   cases hs
  cases hs
theorem a5L{t:TypeId}{ps:List (Nat×PV X.Γ)}{qs:List (Nat×TV)}(hp:VPs X P A m h ps qs){v:PV X.Γ}(hs:Zd P t ps=some v):∃x,N9 P t qs=some x∧VR X P A m h v x:=by
 unfold Zd at hs;unfold N9;split at hs
 .rename_i z fs hz hu;obtain⟨z',g1,g2⟩:=H6 (A:=A) (m:=m) (h:=h) hz;split at hs
  .rename_i ha;simp only[a0f]at hs;obtain⟨r,h1,rfl⟩:=hs;obtain⟨r',g3,g4⟩:=Mc hp g2 h1;exact⟨.agg r',by simp only[g1,hu,ha,a2y,g3,a1b],.agg g4.1 g4.2⟩
  cases hs
 .rename_i z n e hz hu;obtain⟨z',g1,g2⟩:=H6 (A:=A) (m:=m) (h:=h) hz;split at hs
  .rename_i k hk;simp only[a0f]at hs;obtain⟨r,h1,rfl⟩:=hs;obtain⟨r',g3,g4⟩:=Mc hp g2 h1;exact⟨.agg r',by simp only[g1,hu,hk,g3,a1b],.agg g4.1 g4.2⟩
  cases hs
 cases hs
theorem WH{z:List (PV X.Γ)}{z':List TV}(hz:bZ X P A m h z z'):∀n,bZ X P A m h (Ze z n) (times z' n)
 | 0=>.nil
 |n+1=>hz.app (WH hz n)
section
variable {env:List (Nat×PE X.Γ)} {env':List (Nat×EV)}
theorem a18(he:jV X P A m h env env'){t:Nat}:(ET t env=none∧dM t env'=none)∨∃v x,ET t env=some v∧dM t env'=some x∧Iy X P A m h v x:=by
 induction he with
 |nil=>exact .inl ⟨rfl,rfl⟩
 |cons h1 _ ih=>
  rename_i k v x r r' _;simp only[ET,dM];by_cases e:k=t
  .right;exact⟨v,x,by rw[a0q e],by rw[a0q e],h1⟩
  rw[a0p e,a0p e];exact ih
theorem oG(he:jV X P A m h env env'){t:Nat}{v:PE X.Γ}(hl:ET t env=some v):∃x,dM t env'=some x∧Iy X P A m h v x:=by
 rcases a18 he (t:=t)with⟨h1,_⟩|⟨w,x,h1,h2,h3⟩
 .rw[hl]at h1;cases h1
 rw[hl]at h1;cases h1;exact⟨x,h2,h3⟩
theorem ng(he:jV X P A m h env env'){o:Operand}{v:PE X.Γ}(hl:FH env o=some v):∃x,Ir env' o=some x∧Iy X P A m h v x:=by
 cases o with
 |tmp t=>exact oG he hl
 |const c=>
  simp only[FH]at hl;split at hl
  .rename_i b hb;cases hl;exact⟨.val (.bool b),by simp only[Ir,hb,a1b],VR.lit b⟩
  .rename_i x _ hx;simp only[a0f]at hl;obtain⟨w,h1,rfl⟩:=hl;exact⟨.val x,by simp only[Ir,hx,a1b],wP h1⟩
  cases hl
 |func f=>
  simp only[FH,a03]at hl;subst hl;exact⟨.val (.fn f [] []),rfl,.fn rfl (by simp) rfl (by simp)⟩
 |global g=>cases hl
theorem fZ{v:PV X.Γ}{x:EV}(hp:Iy X P A m h (.val v) x):∃y,x=.val y∧VR X P A m h v y:=by
 cases x with
 |val y=>exact⟨y,rfl,hp⟩
 |_=>exact hp.elim
theorem Eb{k o:Nat}{x:EV}(hp:Iy X P A m h (.loc k o) x):x=.loc k o:=by
 cases x with
 |loc k' o'=>obtain⟨rfl,rfl⟩:=hp;rfl
 |_=>exact hp.elim
theorem J6{x:EV}(hp:Iy X P A m h .undef x):x=.undef:=by
 cases x with
 |undef=>rfl
 |_=>exact hp.elim
theorem Md{r j:Nat}{v:PV X.Γ}{x:EV}(hp:Iy X P A m h (.ent r j v) x):∃c y,x=.ent c j y∧VR X P A m h (.map r) (.map c)∧qg v=some y:=by
 cases x with
 |ent c j' y=>obtain⟨h1,rfl,h2⟩:=hp;exact⟨c,y,rfl,h1,h2⟩
 |_=>exact hp.elim
theorem Me{r j:Nat}{x:EV}(hp:Iy X P A m h (.Et r j) x):∃c,x=.Et c j∧VR X P A m h (.map r) (.map c):=by
 cases x with
 |Et c j'=>obtain⟨h1,rfl⟩:=hp;exact⟨c,rfl,h1⟩
 |_=>exact hp.elim
theorem WI(he:jV X P A m h env env'){o:Operand}{v:PV X.Γ}(hl:a0V env o=some v):∃x,qK env' o=some x∧VR X P A m h v x:=by
 unfold a0V at hl;split at hl
 .rename_i w hw;cases hl;obtain⟨x,h1,h2⟩:=ng he hw;obtain⟨y,rfl,h3⟩:=fZ h2;exact⟨y,by simp only[qK,h1],h3⟩
 cases hl
theorem jk(he:jV X P A m h env env'){o:Operand}{v:PV X.Γ}(hl:zS env o=some v):∃x,qK env' o=some x∧VR X P A m h v x:=by
 unfold zS at hl;split at hl
 .rename_i w hw;cases hl;obtain⟨x,h1,h2⟩:=ng he hw;obtain⟨y,rfl,h3⟩:=fZ h2;exact⟨y,by simp only[qK,h1],GX h3⟩
 cases hl
theorem Uo(he:jV X P A m h env env'):∀{os:List Operand} {vs:List (PV X.Γ)},Zc env os=some vs->∃xs,TG env' os=some xs∧bZ X P A m h vs xs
 | [],vs,hl=>by simp only[Zc,a03]at hl;subst hl;exact⟨[],rfl,.nil⟩
 |o::os,vs,hl=>by
  simp only[Zc]at hl;split at hl
  .rename_i v ws h1 h2;cases hl;obtain⟨x,g1,g2⟩:=jk he h1;obtain⟨xs,g3,g4⟩:=Uo he h2;exact⟨x::xs,by simp only[TG,g1,g3],.cons g2 g4⟩
  cases hl
theorem Zn(he:jV X P A m h env env'):∀{os:List (Nat×Operand)} {vs:List (Nat×PV X.Γ)},a2L env os=some vs->∃xs,VA env' os=some xs∧VPs X P A m h vs xs
 | [],vs,hl=>by simp only[a2L,a03]at hl;subst hl;exact⟨[],rfl,rfl,fun i a b ha=>by simp at ha⟩
 |(i,o)::os,vs,hl=>by
  simp only[a2L]at hl;split at hl
  .rename_i v ws h1 h2;cases hl;obtain⟨x,g1,g2⟩:=jk he h1;obtain⟨xs,g3,g4⟩:=Zn he h2;refine⟨(i,x)::xs,by simp only[VA,g1,g3],by simp[g4.1],fun j a b ha hb=>?_⟩;cases j with
   |zero=>simp only[a2Q,a03]at ha hb;subst ha;subst hb;exact⟨rfl,g2⟩
   |succ j=>exact g4.2 j a b (by simpa using ha) (by simpa using hb)
  cases hl
def OR(X:kR)(P:Program)(A:Nat->Prop)(m:List MB)(h:List HB):Option (PV X.Γ)->Option TV->Prop
 |none,none=>True
 |some v,some x=>VR X P A m h v x
 |_,_=>False
theorem H7(he:jV X P A m h env env'){o:Option Operand}{v:Option (PV X.Γ)}(hl:Ob env o=some v):∃x,VD env' o=some x∧OR X P A m h v x:=by
 cases o with
 |none=>simp only[Ob,a03]at hl;subst hl;exact⟨none,rfl,trivial⟩
 |some o=>
  simp only[Ob]at hl;split at hl
  .rename_i w hw;cases hl;obtain⟨x,g1,g2⟩:=jk he hw;exact⟨some x,by simp only[VD,g1],g2⟩
  cases hl
theorem Ur(he:jV X P A m h env env'):∀live,jV X P A m h (jd live env) (pick live env')
 | []=>.nil
 |t::r=>by
  simp only[jd,pick];rcases a18 he (t:=t)with⟨h1,h2⟩|⟨v,x,h1,h2,h3⟩
  .rw[h1,h2];exact Ur he r
  rw[h1,h2];exact .cons h3 (Ur he r)
theorem a9p(he:jV X P A m h env env'){t:Nat}{b:Bool}(hb:dM t env'=some (.val (.bool b))):jV X P A m h (Pv.BL t b env) env':=by
 induction he with
 |nil=>exact .nil
 |cons h1 h2 ih=>
  rename_i k v x r r';simp only[dM]at hb;simp only[Pv.BL];by_cases e:k=t
  .rw[a0q e]at hb ⊢;cases hb;exact .cons (VR.lit b) h2
  rw[a0p e]at hb ⊢;exact .cons h1 (ih hb)
theorem ae5(he:jV X P A m h env env'):Ul X env=Ci env':=by
 induction he with
 |nil=>rfl
 |cons h1 _ ih=>
  rename_i k v x r r' _;cases v with
  |val v=>obtain⟨y,rfl,_⟩:=fZ h1;simpa[Ul,Ci]using ih
  |loc a b=>rw[Eb h1];simp only[Ul,Ci,ih]
  |undef=>rw[J6 h1];simpa[Ul,Ci]using ih
  |ent=>obtain⟨_,_,rfl,_⟩:=Md h1;simpa[Ul,Ci]using ih
  |Et=>obtain⟨_,rfl,_⟩:=Me h1;simpa[Ul,Ci]using ih
end
end
structure bM(X:kR)(P:Program):Prop where
 dec:∀{t:Nat} {vs:List (PV X.Γ)} {a:X.Γ t},X.dec t vs=some a->∀{A:Nat->Prop} {m:List MB} {h:List HB} {xs:List TV},bZ X P A m h vs xs->bZ X P A m h (X.enc t a) xs
 jf:∀(t:Nat) (a:X.Γ t),jf.GL (X.enc t a)=true
section
variable {X:kR} {P:Program} {A B:Nat->Prop} {m m':List MB} {h h':List HB} {H H':List (PB X.Γ)}
theorem VR.mono(hAB:∀b,A b->B b){v:PV X.Γ}{x:TV}(hv:VR X P A m h v x):VR X P B m h v x:=by
 induction hv with
 |bool=>exact .bool _
 |lit=>exact .lit _
 |int=>exact .int _ _
 |str=>exact .str _
 |nil=>exact .nil _
 |ptr e=>exact .ptr e
 |slc e=>exact .slc e
 |own e o=>exact .own e o
 |win e q q' q2=>exact .win e q q' q2
 |Ah e=>exact .Ah e
 |map e=>exact .map e
 |iter e=>exact .iter e
 |fn h1 _ h3 _ i2 i4=>exact .fn h1 i2 h3 i4
 |kW e=>exact .kW e
 |agg h1 _ i2=>exact .agg h1 i2
 |dF h1 _ i2=>exact .dF h1 i2
 |oD=>exact .oD
 |dD a c c2 s z o k f e _ ih=>exact .dD (hAB _ a) c c2 s z o k f e ih
 |el a c l o e q _ ih=>exact .el (hAB _ a) c l o e q ih
 |row e j q=>exact .row e j q
 |gone i e o=>exact .gone i e o
theorem bZ.mono(hAB:∀b,A b->B b){v:List (PV X.Γ)}{x:List TV}(hv:bZ X P A m h v x):bZ X P B m h v x:=⟨hv.1,fun i a b ha hb=>(hv.2 i a b ha hb).mono hAB⟩
theorem fD:∀{vs:List (PV X.Γ)} {i:Nat} {v:PV X.Γ},jf.GL vs=true->vs[i]? = some v->jf v=true
 | [],_,_,_,h=>by simp at h
 |a::vs,i,v,hc,h=>by
  simp only[jf.GL,a2n]at hc;cases i with
  |zero=>simp only[a2Q,a03]at h;subst h;exact hc.1
  |succ i=>exact fD hc.2 (by simpa using h)
theorem VR.jf(hX:bM X P){v:PV X.Γ}{x:TV}(hv:VR X P A m h v x)(hc:Pv.jf v=true):VR X P A m' h v x:=by
 induction hv with
 |bool=>exact .bool _
 |lit=>exact .lit _
 |int=>exact .int _ _
 |str=>exact .str _
 |nil=>exact .nil _
 |fn h1 _ h3 _ i2 i4=>
  simp only[Pv.jf,a2n]at hc;exact .fn h1 (fun i x y hx hy=>i2 i x y hx hy (fD hc.1 hx)) h3 (fun i x y hx hy=>i4 i x y hx hy (fD hc.2 hx))
 |agg h1 _ i2=>
  simp only[Pv.jf]at hc;exact .agg h1 (fun i x y hx hy=>i2 i x y hx hy (fD hc hx))
 |dF h1 _ i2=>
  simp only[Pv.jf]at hc;exact .dF h1 (fun i x y hx hy=>i2 i x y hx hy (fD hc hx))
 |oD=>exact .oD
 |dD a c c2 s z o k f e _ ih=>exact .dD a c c2 s z o k f e fun j y i d v h1 h2 h3=>ih j y i d v h1 h2 h3 (fD (hX.jf _ _) h2)
 |el a c l o e q _ ih=>exact .el a c l o e q fun i d v h1 h2=>ih i d v h1 h2 (fD (hX.jf _ _) h1)
 |gone i e o=>rename_i v _ _;cases v<;>simp[bC]at i<;>simp[Pv.jf]at hc
 |_=>simp[Pv.jf]at hc
theorem eF.jf(hX:bM X P){t:Nat}{l:List (X.Γ t)}{cs:List TV}{off sz:Nat}(hv:eF X P A m h t l cs off sz):eF X P A m' h t l cs off sz:=
 ⟨hv.1,hv.2.1,fun j a i c v h1 h2 h3=>(hv.2.2 j a i c v h1 h2 h3).jf hX (fD (hX.jf _ _) h2)⟩
theorem eF.mono(hAB:∀b,A b->B b){t:Nat}{l:List (X.Γ t)}{cs:List TV}{off sz:Nat}(hv:eF X P A m h t l cs off sz):eF X P B m h t l cs off sz:=
 ⟨hv.1,hv.2.1,fun j a i c v h1 h2 h3=>(hv.2.2 j a i c v h1 h2 h3).mono hAB⟩
theorem VR.move(hX:bM X P)(hA:∀q cs,A q->aW h q=some cs->B q∧h'[q]? = h[q]?){v:PV X.Γ}{x:TV}(hv:VR X P A m h v x)(hc:Pv.jf v=true):VR X P B m' h' v x:=by
 induction hv with
 |bool=>exact .bool _
 |lit=>exact .lit _
 |int=>exact .int _ _
 |str=>exact .str _
 |nil=>exact .nil _
 |fn h1 _ h3 _ i2 i4=>
  simp only[Pv.jf,a2n]at hc;exact .fn h1 (fun i x y hx hy=>i2 i x y hx hy (fD hc.1 hx)) h3 (fun i x y hx hy=>i4 i x y hx hy (fD hc.2 hx))
 |agg h1 _ i2=>
  simp only[Pv.jf]at hc;exact .agg h1 (fun i x y hx hy=>i2 i x y hx hy (fD hc hx))
 |dF h1 _ i2=>
  simp only[Pv.jf]at hc;exact .dF h1 (fun i x y hx hy=>i2 i x y hx hy (fD hc hx))
 |oD=>exact .oD
 |dD a c c2 s z o k f e _ ih=>obtain⟨a',c'⟩:=hA _ _ a c;exact .dD a' ((fV c').trans c) (fun hl=>(yc c').trans (c2 hl)) s z o k f e fun j y i d v h1 h2 h3=>ih j y i d v h1 h2 h3 (fD (hX.jf _ _) h2)
 |el a c l o e q _ ih=>obtain⟨a',c'⟩:=hA _ _ a (Ai c);exact .el a' ((yc c').trans c) l o e q fun i d v h1 h2=>ih i d v h1 h2 (fD (hX.jf _ _) h1)
 |gone i e o=>rename_i v _ _;cases v<;>simp[bC]at i<;>simp[Pv.jf]at hc
 |_=>simp[Pv.jf]at hc
theorem eF.move(hX:bM X P)(hA:∀q cs,A q->aW h q=some cs->B q∧h'[q]? = h[q]?){t:Nat}{l:List (X.Γ t)}{cs:List TV}{off sz:Nat}(hv:eF X P A m h t l cs off sz):eF X P B m' h' t l cs off sz:=
 ⟨hv.1,hv.2.1,fun j a i c v h1 h2 h3=>(hv.2.2 j a i c v h1 h2 h3).move hX hA (fD (hX.jf _ _) h2)⟩
def FA(A:Nat->Prop)(m:List MB)(is:List Nat):Nat->Prop:=fun b=>AA A m b∨∃i mb,i∈is∧m[i]? = some mb∧mb.own=some b
theorem FA.mono{is js:List Nat}(hs:∀i,i∈is->i∈js){b:Nat}(hb:FA A m is b):FA A m js b:=by
 rcases hb with h|⟨i,mb,h1,h2,h3⟩
 .exact .inl h
 exact .inr ⟨i,mb,hs i h1,h2,h3⟩
theorem Oo:∀(is:List Nat) {m:List MB} {i:Nat} {mb:MB},(bW is m)[i]? = some mb->mb.own≠none->i∉is∧m[i]? = some mb
 | [],_,_,_,h,_=>⟨by simp,h⟩
 |j::is,m,i,mb,h,hn=>by
  obtain⟨h1,h2⟩:=Oo is (m:=m.set j .gone) h hn;by_cases e:j=i
  .subst e;rw[a4k]at h2;cases hx:m[j]? with
   |none=>rw[hx]at h2;cases h2
   |some y=>rw[hx]at h2;cases h2;exact absurd rfl hn
  rw[a1n e]at h2;exact⟨by simp[h1,Ne.symm e],h2⟩
theorem Ak{is:List Nat}{m:List MB}{b:Nat}(hb:b∈bD (bW is m)):∃i mb,i∉is∧m[i]? = some mb∧mb.own=some b:=by
 obtain⟨mb,hm,ho⟩:=a7d.1 hb;obtain⟨i,hi⟩:=a8C hm;obtain⟨h1,h2⟩:=Oo is hi (by rw[ho];simp);exact⟨i,mb,h1,h2,ho⟩
theorem FA.gone(hr:HR X P A m H h){is:List Nat}{b:Nat}(hb:FA A m is b):AA A (bW is m) b:=by
 rcases hb with hb|⟨i,mb,h1,h2,h3⟩
 .refine⟨hb.1,fun hm=>?_⟩;obtain⟨i,mb,_,h2,h3⟩:=Ak hm;exact hb.2 (bf h2 h3)
 refine⟨hr.D6 b (bf h2 h3),fun hm=>?_⟩;obtain⟨j,LZ,g1,g2,g3⟩:=Ak hm;have:=iW hr.nodup h2 g2 h3 g3;exact g1 (this▸h1)
theorem RN(hX:bM X P)(hr:HR X P A m H h){k ex:Bool}{t i:Nat}{l:List (X.Γ t)}{x:TV}(hl:LR X P (AA A m) m h k ex t l x)(hi:m[i]? = some (.dD x)){is:List Nat}(hs:i∈is):VR X P (FA A m is) m' h (.dD t l false) x:=by
 cases hl with
 |nil=>exact .oD
 |emp h0 h1 h2 h3 h4=>exact .dD (.inl h0) h1 (fun e=>absurd rfl e) h3 h4 (by simpa using h2) (a0w _) (by simp) (fun j a hj=>by simp at hj) (fun j a i c v hj=>by simp at hj)
 |some h1 h2 h3 h4 h5 h6 h7 h8 h9=>
  refine .dD (cs:=_) (.inr ⟨i,_,hs,hi,?_⟩) (by unfold aW;rw[h4]) (fun _=>wK h4 (by omega)) h2 h3 (by omega) (a0w _) (by simp) h9.1 ?_
  .simp only[MB.own];rw[a0p (by simpa using h1)]
  intro j a q c v e1 e2 e3;exact((h9.2.2 j a q c v e1 e2 e3).mono fun b hb=>.inl hb).jf hX (fD (hX.jf _ _) e2)
theorem VR.part{F:Nat->Prop}{t:Nat}{l:List (X.Γ t)}{fu:Bool}{b off len cap sz:Nat}{ex:Bool}(hv:VR X P F m h (.dD t l fu) (.slc b off len cap sz ex)){o n cap':Nat}{ex' fu':Bool}(hn:o+n<=len)(hc:n<=cap')(hw:n=0∨o+cap'=cap)(hfu:fu'=true->ex'=true∧cap'=n) :
  VR X P F m h (.dD t ((l.drop o).take n) fu') (.slc b (off+o*sz) n cap' sz ex'):=by
 cases hv with
 |dD a c c2 s z ol k f e r=>
  have hlen:((l.drop o).take n).length=n:=by rw[a4b,a3Y];omega
  have:=@VR.dD X P F m h t ((l.drop o).take n) fu' b (off+o*sz) cap' sz ex' _ a c (fun iE=>by
   have h1:n≠0:=fun e=>iE (by subst e;simp);have h2:=hw.resolve_left h1;have h3:off+o*sz+cap'*sz=off+cap*sz:=by rw[<-h2,a3k];omega
   rw[h3];exact c2 (fun e=>by subst e;simp at hlen;omega)) s z (by
   rw[hlen];have:(o+n)*sz<=l.length*sz:=a3m sz hn;rw[a3k]at this;omega) (by rw[hlen];exact hc) (by rw[hlen];exact hfu) (fun j y hy=>by
    rw[a4i]at hy;split at hy
    .rw[a4j]at hy;exact e _ _ hy
    .cases hy) (fun j y i d v hy h2 h3=>by
    rw[a4i]at hy;split at hy
    .rw[a4j]at hy;refine r _ _ i d v hy h2 ?_;rw[<-h3];congr 1;rw[a3k];omega
    .cases hy)
  rwa [hlen]at this
 |gone hi _ _=>simp[bC]at hi
mutual
theorem Us(hX:bM X P)(hr:HR X P A m H h):∀{v w:PV X.Γ} {x:TV},VR X P (AA A m) m h v x->view H v=some w->∀{is:List Nat},(∀i,i∈kL v->i∈is)->VR X P (FA A m is) m' h w x
 |.own i,w,x,hv,hw,is,hs=>by
  simp only[view]at hw;split at hw
  .rename_i k ex t l hH;cases hw;obtain⟨mb,h1,h2⟩:=hr.at_ i _ hH;cases mb with
   |dD y=>
    cases hv with
    |own e o=>rw[h1]at e;cases e;exact RN hX hr h2 h1 (hs i (by simp[kL]))
    |gone hi e o=>simp only[bC,a03]at hi;subst hi;rw[h1]at e;cases e
   |_=>exact h2.elim
  cases hw
 |.win i o n,w,x,hv,hw,is,hs=>by
  simp only[view]at hw;split at hw
  .rename_i k ex t l hH;cases hw;obtain⟨mb,h1,h2⟩:=hr.at_ i _ hH;cases mb with
   |dD y=>
    have h2':LR X P (AA A m) m h k ex t l y:=h2;have hfz:VR X P (FA A m is) m' h (.dD t l false) y:=RN hX hr h2' h1 (hs i (by simp[kL]));cases hv with
    |win e q q' q2=>
     rw[h1]at e;cases e;exact hfz.part q q' q2 (by simp)
    |Ah e=>
     rw[h1]at e;cases e;cases h2' with
     |nil=>simp only[List.drop_nil,List.take_nil];exact .oD
    |gone hi e o=>simp only[bC,a03]at hi;subst hi;rw[h1]at e;cases e
   |_=>exact h2.elim
  cases hw
 |.fn f a c,w,x,hv,hw,is,hs=>by
  simp only[view]at hw;split at hw
  .rename_i a' c' h1 h2;cases hw;cases hv with
   |fn e1 e2 e3 e4=>
    have g1:=lH hX hr ⟨e1,e2⟩ h1 (is:=is) fun i hi=>hs i (by simp[kL,hi]);have g2:=lH hX hr ⟨e3,e4⟩ h2 (is:=is) fun i hi=>hs i (by simp[kL,hi]);exact .fn g1.1 g1.2 g2.1 g2.2
   |gone hi _ _=>simp[bC]at hi
  cases hw
 |.agg cs,w,x,hv,hw,is,hs=>by
  simp only[view,a0f]at hw;obtain⟨cs',h1,rfl⟩:=hw;cases hv with
  |agg e1 e2=>have g1:=lH hX hr ⟨e1,e2⟩ h1 (is:=is) fun i hi=>hs i (by simp[kL,hi]);exact .agg g1.1 g1.2
  |gone hi _ _=>simp[bC]at hi
 |.dF cs,w,x,hv,hw,is,hs=>by
  simp only[view,a0f]at hw;obtain⟨cs',h1,rfl⟩:=hw;cases hv with
  |dF e1 e2=>have g1:=lH hX hr ⟨e1,e2⟩ h1 (is:=is) fun i hi=>hs i (by simp[kL,hi]);exact .dF g1.1 g1.2
  |gone hi _ _=>simp[bC]at hi
 |.bool b,w,x,hv,hw,is,hs=>by simp only[view,a03]at hw;subst hw;exact(hv.mono fun b hb=>.inl hb).jf hX rfl
 |.lit b,w,x,hv,hw,is,hs=>by
  simp only[view,a03]at hw;subst hw;cases hv with
  |lit=>exact .bool _
  |gone hi _ _=>simp[bC]at hi
 |.int k n,w,x,hv,hw,is,hs=>by simp only[view,a03]at hw;subst hw;exact(hv.mono fun b hb=>.inl hb).jf hX rfl
 |.str b,w,x,hv,hw,is,hs=>by simp only[view,a03]at hw;subst hw;exact(hv.mono fun b hb=>.inl hb).jf hX rfl
 |.nil b,w,x,hv,hw,is,hs=>by simp only[view,a03]at hw;subst hw;exact(hv.mono fun b hb=>.inl hb).jf hX rfl
 |.dD t l f,w,x,hv,hw,is,hs=>by simp only[view,a03]at hw;subst hw;exact(hv.mono fun b hb=>.inl hb).jf hX rfl
 |.ptr _ _ _,w,x,hv,hw,is,hs=>by simp[view]at hw
 |.slc _ _ _ _ _ _,w,x,hv,hw,is,hs=>by simp[view]at hw
 |.map _,w,x,hv,hw,is,hs=>by simp[view]at hw
 |.kW _,w,x,hv,hw,is,hs=>by simp[view]at hw
 |.el _ _ _,w,x,hv,hw,is,hs=>by simp[view]at hw
 |.row _ _ _,w,x,hv,hw,is,hs=>by simp[view]at hw
theorem lH(hX:bM X P)(hr:HR X P A m H h):∀{vs ws:List (PV X.Γ)} {xs:List TV},bZ X P (AA A m) m h vs xs->views H vs=some ws->∀{is:List Nat},(∀i,i∈kL.jY vs->i∈is)->bZ X P (FA A m is) m' h ws xs
 | [],ws,xs,hv,hw,is,hs=>by simp only[view.views,a03]at hw;subst hw;rw[hv.inv0];exact .nil
 |v::vs,ws,xs,hv,hw,is,hs=>by
  obtain⟨x,r,rfl,h1,h2⟩:=hv.inv;simp only[view.views]at hw;split at hw
  .rename_i w TQ g1 g2;cases hw;exact .cons (Us hX hr h1 g1 fun i hi=>hs i (by simp[kL.jY,hi])) (lH hX hr h2 g2 fun i hi=>hs i (by simp[kL.jY,hi]))
  cases hw
end
end
open Go Tw
section
variable {X:kR} {P:Program} {A B F:Nat->Prop} {m m':List MB} {h h':List HB} {H H':List (PB X.Γ)}
theorem a19(hX:bM X P)(hr:HR X P A m H h){t:Nat}{cs:List (PV X.Γ)}{xs:List TV}(hv:bZ X P (AA A m) m h cs xs){a:X.Γ t}{is:List Nat}(hd:a9j X H t cs=some (a,is)):bZ X P (FA A m is) m' h (X.enc t a) xs:=by
 unfold a9j at hd;split at hd
 .rename_i vs h1;split at hd
  .rename_i b h2;simp only[a03,a0u]at hd;obtain⟨rfl,rfl⟩:=hd;exact hX.dec h2 (lH hX hr hv h1 fun i hi=>hi)
  cases hd
 cases hd
theorem Am(hX:bM X P)(hr:HR X P A m H h){t sz:Nat}:∀{n:Nat} {cs:List (PV X.Γ)} {xs:List TV},bZ X P (AA A m) m h cs xs->∀{l:List (X.Γ t)} {is:List Nat},xY X H t sz n cs=some (l,is)->l.length=n∧eF X P (FA A m is) m' h t l xs 0 sz
 | 0,cs,xs,hv,l,is,hd=>by
  simp only[xY,a03,a0u]at hd;obtain⟨rfl,rfl⟩:=hd;exact⟨rfl,fun j a hj=>by simp at hj,by simp,fun j a i c v hj=>by simp at hj⟩
 |n+1,cs,xs,hv,l,is,hd=>by
  simp only[xY]at hd;split at hd
  rotate_left
  .cases hd
  rename_i uT;split at hd
  rotate_left
  .cases hd
  rename_i a js l' ks h1 h2;simp only[a03,a0u]at hd;obtain⟨rfl,rfl⟩:=hd;have g1:=(a19 (m':=m') hX hr (hv.take sz) h1).mono fun b hb=>FA.mono (js:=js++ks) (fun i hi=>a5N _ hi) hb;obtain⟨e2,g2⟩:=Am hX hr (hv.drop sz) h2;have g2:=g2.mono fun b hb=>FA.mono (js:=js++ks) (fun i hi=>abE _ hi) hb;have hl:(X.enc t a).length=sz:=by rw[g1.1,a4b,<-hv.1];omega
  refine⟨by simp[e2],fun j b hj=>?_,?_,fun j b i c v hj hi hx=>?_⟩
  .cases j with
   |zero=>simp only[a2Q,a03]at hj;subst hj;exact hl
   |succ j=>exact g2.1 j b (by simpa using hj)
  .have:=g2.2.1;rw[a3Y]at this;have h3:=hv.1;simp only[a4d,a3k];omega
  cases j with
  |zero=>
   simp only[a2Q,a03]at hj;subst hj;have aQ:i<sz:=by rw[<-hl];exact(a0d.1 hi).1
   refine g1.2 i c v hi ?_;rw[a4i,a0q aQ,<-hx];simp
  |succ j=>
   refine g2.2.2 j b i c v (by simpa using hj) hi ?_;rw[a4j,<-hx];congr 1;rw[a3k];omega
def SlR(X:kR)(P:Program)(F:Nat->Prop)(m:List MB)(h:List HB)(t sz:Nat)(l:List (X.Γ t))(x:TV):Prop:=
 (x=.nil .slc∧l=[])∨∃b off cap ex cs,x=.slc b off l.length cap sz ex∧l.length<=cap∧aW h b=some cs∧(l≠[]->mg h b (off+cap*sz)=some cs)∧eF X P F m h t l cs off sz
theorem a1a{t sz:Nat}{l:List (X.Γ t)}{fu:Bool}{x:TV}(hv:VR X P F m h (.dD t l fu) x)(hz:dG P t=some sz):SlR X P F m h t sz l x:=by
 cases hv with
 |oD=>exact .inl ⟨rfl,rfl⟩
 |dD a c c2 s z o k f e r=>
  rw[hz]at s;cases s;exact .inr ⟨_,_,_,_,_,rfl,k,c,c2,e,o,r⟩
 |gone hi _ _=>simp[bC]at hi
theorem a5M{k ex:Bool}{t sz:Nat}{l:List (X.Γ t)}{x:TV}(hv:LR X P F m h k ex t l x)(hz:dG P t=some sz):SlR X P F m h t sz l x:=by
 cases hv with
 |nil=>exact .inl ⟨rfl,rfl⟩
 |emp h0 h1 h2 h3 h4=>
  rw[hz]at h3;cases h3;exact .inr ⟨_,_,_,_,_,rfl,a0w _,h1,fun e=>absurd rfl e,fun j a hj=>by simp at hj,by simpa using h2,fun j a i c v hj=>by simp at hj⟩
 |some h1 h2 h3 h4 h5 h6 h7 h8 h9=>
  rw[hz]at h2;cases h2;exact .inr ⟨_,_,_,_,_,rfl,a0w _,by unfold aW;rw[h4],fun _=>wK h4 (by omega),h9⟩
theorem eF.part{t sz:Nat}{l:List (X.Γ t)}{cs:List TV}{off o n:Nat}(hv:eF X P F m h t l cs off sz)(hn:o+n<=l.length):eF X P F m h t ((l.drop o).take n) cs (off+o*sz) sz:=by
 have hlen:((l.drop o).take n).length=n:=by rw[a4b,a3Y];omega
 refine⟨fun j y hy=>?_,?_,fun j y i c v hy h2 h3=>?_⟩
 .rw[a4i]at hy;split at hy
  .rw[a4j]at hy;exact hv.1 _ _ hy
  cases hy
 .have:=hv.2.1;have h2:(o+n)*sz<=l.length*sz:=a3m sz hn;rw[hlen];rw[a3k]at h2;omega
 rw[a4i]at hy;split at hy
 .rw[a4j]at hy;refine hv.2.2 _ y i c v hy h2 ?_;rw[<-h3];congr 1;rw[a3k];omega
 cases hy
theorem eF.take{t sz:Nat}{l:List (X.Γ t)}{cs:List TV}{off:Nat}(hv:eF X P F m h t l cs off sz):eF X P F m h t l ((cs.drop off).take (l.length*sz)) 0 sz:=by
 refine⟨hv.1,?_,fun j a i c v h1 h2 h3=>?_⟩
 .have:=hv.2.1;rw[a4b,a3Y];omega
 rw[a4i]at h3;split at h3
 .rw[a4j]at h3;exact hv.2.2 j a i c v h1 h2 (by rw[<-h3];congr 1;omega)
 cases h3
theorem SlR.src{t sz:Nat}{l:List (X.Γ t)}{x:TV}(hv:SlR X P F m h t sz l x):∃new,fH sz h x=some (l.length,new)∧new.length=l.length*sz∧eF X P F m h t l new 0 sz:=by
 rcases hv with⟨rfl,rfl⟩|⟨b,off,cap,ex,cs,rfl,hk,hc,JY,hw⟩
 .exact⟨[],rfl,by simp,fun j a hj=>by simp at hj,by simp,fun j a i c v hj=>by simp at hj⟩
 refine⟨(cs.drop off).take (l.length*sz),?_,?_,hw.take⟩
 .have:=hw.2.1;simp only[fH,a2y,sub];by_cases h0:l.length=0
  .rw[a0q h0,h0];simp
  rw[a0p h0,JY (fun e=>h0 (by rw[e];rfl))];simp only;rw[a0q this];rfl
 have:=hw.2.1;rw[a4b,a3Y];omega
theorem eF.app{t sz:Nat}{l r:List (X.Γ t)}{a b:List TV}(h1:eF X P F m h t l a 0 sz)(h2:eF X P F m h t r b 0 sz)(ha:a.length=l.length*sz):eF X P F m h t (l++r) (a++b) 0 sz:=by
 refine⟨fun j y hy=>?_,?_,fun j y i c v hy hi hx=>?_⟩
 .rcases a4h j l.length with hl|hl
  .rw[a0k hl]at hy;exact h1.1 j y hy
  rw[a1d hl]at hy;exact h2.1 _ y hy
 .have:=h2.2.1;simp only[a1s,a3k];omega
 rcases a4h j l.length with hl|hl
 .rw[a0k hl]at hy;have aQ:i<sz:=by rw[<-h1.1 j y hy];exact(a0d.1 hi).1
  have:(j+1)*sz<=l.length*sz:=a3m sz hl;rw[a3k]at this;rw[a0k (by omega)]at hx;exact h1.2.2 j y i c v hy hi hx
 rw[a1d hl]at hy;have:l.length*sz<=j*sz:=a3m sz hl;rw[a1d (by omega)]at hx;refine h2.2.2 _ y i c v hy hi ?_;rw[<-hx];congr 1;rw[ha,Nat.sub_mul];omega
theorem uy{Γ:Nat->Type}{t t':Nat}{l:List (Γ t')}{r:List (Γ t)}(h:CW t t' l=some r):∃e:t'=t,r=e▸l:=by
 unfold CW at h;split at h
 .rename_i e;cases h;exact⟨e,rfl⟩
 cases h
theorem Ut(hX:bM X P)(hr:HR X P A m H h){e sz:Nat}{x:PV X.Γ}{tx:TV}(hv:VR X P (AA A m) m h x tx)(hz:dG P e=some sz){rows:List (X.Γ e)}{is:List Nat}(hs:Af X H e sz x=some (rows,is)) :
  ∃new,fH sz h tx=some (rows.length,new)∧new.length=rows.length*sz∧eF X P (FA A m is) m' h e rows new 0 sz:=by
 have up:∀{l:List (X.Γ e)} {y:TV},SlR X P (AA A m) m h e sz l y->∃new,fH sz h y=some (l.length,new)∧new.length=l.length*sz∧eF X P (FA A m []) m' h e l new 0 sz:=by
  intro l y hy;obtain⟨new,h1,h2,h3⟩:=hy.src;exact⟨new,h1,h2,(h3.mono fun b hb=>.inl hb).jf hX⟩
 cases x with
 |nil k=>
  cases k<;>simp only[Af]at hs<;>try (cases hs;done)
  simp only[a03,a0u]at hs;obtain⟨rfl,rfl⟩:=hs;cases hv with
  |nil=>exact up (.inl ⟨rfl,rfl⟩)
  |gone hi _ _=>simp[bC]at hi
 |dD t l fu=>
  simp only[Af,a0f,a0u]at hs;obtain⟨r,h1,rfl,rfl⟩:=hs;obtain⟨rfl,rfl⟩:=uy h1;exact up (a1a hv hz)
 |own i=>
  simp only[Af]at hs;split at hs
  .rename_i k ex t l hH;simp only[a0f,a0u]at hs;obtain⟨r,h1,rfl,rfl⟩:=hs;obtain⟨rfl,rfl⟩:=uy h1;obtain⟨mb,g1,g2⟩:=hr.at_ i _ hH;cases mb with
   |dD y=>
    cases hv with
    |own e' o=>rw[g1]at e';cases e';exact up (a5M g2 hz)
    |gone hi e' o=>simp only[bC,a03]at hi;subst hi;rw[g1]at e';cases e'
   |_=>exact g2.elim
  .cases hs
 |win i o n=>
  simp only[Af]at hs;split at hs
  .rename_i k ex t l hH;simp only[a0f,a0u]at hs;obtain⟨r,h1,rfl,rfl⟩:=hs;obtain⟨rfl,rfl⟩:=uy h1;obtain⟨mb,g1,g2⟩:=hr.at_ i _ hH;cases mb with
   |dD y=>
    have hsl:=a5M g2 hz;cases hv with
    |win e' q q' q2=>
     rw[g1]at e';cases e';rcases hsl with⟨h,_⟩|⟨b,off,cap,ex',cs,he,hk,hc,JY,hw⟩
     .cases h
     .cases he;have hlen:n=((r.drop o).take n).length:=by rw[a4b,a3Y];omega
      refine up (.inr ⟨_,_,_,_,cs,congrArg (fun k=>TV.slc _ _ k _ _ _) hlen,hlen▸q',hc,fun iE=>?_,hw.part q⟩);have h1:n≠0:=fun e=>iE (by subst e;simp);have h2:=q2.resolve_left h1;rw[<-JY (fun e=>iE (by rw[e];simp)),<-h2];congr 1;rw[a3k];omega
    |Ah e'=>
     rw[g1]at e';cases e';refine up (.inl ⟨rfl,by simp⟩)
    |gone hi e' o=>simp only[bC,a03]at hi;subst hi;rw[g1]at e';cases e'
   |_=>exact g2.elim
  .cases hs
 |slc b off len cap sz' ex=>
  simp only[Af]at hs;split at hs
  .rename_i cs hH;split at hs
   .rename_i uT;obtain⟨uT,ae6⟩:=uT;subst uT;obtain⟨mb,g1,g2⟩:=hr.at_ b _ hH;cases mb with
    |gy c=>
     obtain⟨cs',g3,g4⟩:=g2;cases hv with
     |slc e'=>
      rw[g1]at e';cases e';obtain⟨hl,hw⟩:=Am (m':=m') hX hr (g4.drop off) hs;subst hl;rw[g4.1]at ae6;refine⟨(cs'.drop off).take (rows.length*sz'),?_,by rw[a4b,a3Y];omega,by simpa using hw.take⟩;simp only[fH,a2y,wL g3 (by simp),sub];split
      .rename_i h0;rw[h0,abV,List.take_zero]
      .simp only[ae6,a2y,a1b]
     |gone hi e' o=>simp only[bC,a03]at hi;subst hi;rw[g1]at e';cases e'
    |_=>exact g2.elim
   .cases hs
  .cases hs
 |_=>simp[Af]at hs
end
open Go Tw
def H8(m:List MB)(i b:Nat):Prop:=∃mb,m[i]? = some mb∧mb.own=some b
structure IR(m:List MB)(h:List HB)(p:PI)(t:lZ):Prop where
 all:t.all=true->p.i.all=true
 tl:∀k,.l k∈t.ts->.l k∈p.i.ts
 wl:∀k,.l k∈t.ws->.l k∈p.i.ws
 wh:∀b,.h b∈t.ws->(∃i,.h i∈p.i.ws∧H8 m i b)∨(p.wall=true∧b∈bD m)
 th:∀b,.h b∈t.ts->((∃i,.h i∈p.i.ts∧H8 m i b)∨b∉bD m)∧b<h.length
 hp:p.hp=false->t.all=false∧(∀b,.h b∉t.ts)∧∀b,.h b∉t.ws
theorem IR.none{m:List MB}{h:List HB}{p:PI}:IR m h p cZ:=⟨fun h=>(by cases h),fun _ h=>(by cases h),fun _ h=>(by cases h),fun _ h=>(by cases h),fun _ h=>(by cases h),fun _=>⟨rfl,fun _ h=>(by cases h),fun _ h=>(by cases h)⟩⟩
section
variable {X:kR} {P:Program} {A F:Nat->Prop} {m m':List MB} {h h':List HB} {H H':List (PB X.Γ)}
structure uP(X:kR)(P:Program)(A:Nat->Prop)(m:List MB)(ps:aS X.Γ)(ts:St):Prop where
 heap:HR X P A m ps.heap ts.heap
 llen:ps.loc.length=ts.loc.length
 loc:∀(k:Nat) cs,ps.loc[k]? = some cs->∃cs',ts.loc[k]? = some cs'∧bZ X P (AA A m) m ts.heap cs cs'
 env:jV X P (AA A m) m ts.heap ps.env ts.env
theorem uP.step{ps:aS X.Γ}{ts:St}(hR:uP X P A m ps ts){H1:List (PB X.Γ)}{h1:List HB}(hr:HR X P A m' H1 h1)(hF:Fr m ts.heap m' h1)(hU:Up m m'):uP X P A m' { ps with heap:=H1 } { ts with heap:=h1 }:=
 ⟨hr,hR.llen,fun k cs hk=>let ⟨cs',g1,g2⟩:=hR.loc k cs hk;⟨cs',g1,g2.step hF hU⟩,hR.env.step hF hU⟩
def OpR(X:kR)(P:Program)(A:Nat->Prop)(m:List MB)(call:aY)(site:Nat->Bool)(ts:St)(o:Oper)(pe:PE X.Γ)(ps1:aS X.Γ)(pi:PI):Prop:=
 ∃ev iJ ti m1,pz P call site ts o=some (ev,iJ,ti)∧iJ.env=ts.env∧iJ.ws=ts.ws∧uP X P A m1 ps1 iJ∧Iy X P (AA A m1) m1 iJ.heap pe ev∧Fr m ts.heap m1 iJ.heap∧Up m m1∧IR m ts.heap pi ti∧∀b,.h b∈ti.ws->b∈bD m
theorem uz{call:aY}{site:Nat->Bool}{ps:aS X.Γ}{ts:St}{o:Oper}{pe:PE X.Γ}{ev:EV}{pi:PI}(hR:uP X P A m ps ts)(h:pz P call site ts o=some (ev,ts,cZ))(hp:Iy X P (AA A m) m ts.heap pe ev):OpR X P A m call site ts o pe ps pi:=
 ⟨ev,ts,cZ,m,h,rfl,rfl,hR,hp,.refl,.refl,.none,fun b hb=>by cases hb⟩
theorem uP.BL{ps:aS X.Γ}{ts:St}(hR:uP X P A m ps ts){x:Operand}{b:Bool}(hb:qK ts.env x=some (.bool b)):uP X P A m (ps.BL x b) ts:=by
 cases x with
 |tmp t=>
  refine⟨hR.heap,hR.llen,hR.loc,a9p hR.env ?_⟩;simp only[qK,Ir]at hb;split at hb
  .rename_i v hv;cases hb;exact hv
  cases hb
 |_=>exact hR
theorem RP{ps:aS X.Γ}{ts:St}(hR:uP X P A m ps ts){site:Bool}{cs:List (PV X.Γ)}{cs':List TV}(hc:bZ X P (AA A m) m ts.heap cs cs') :
  ∃m1,(qL site ts cs').2.env=ts.env∧(qL site ts cs').2.ws=ts.ws∧uP X P A m1 (E8 site ps cs).2 (qL site ts cs').2∧Iy X P (AA A m1) m1 (qL site ts cs').2.heap (E8 site ps cs).1 (qL site ts cs').1∧Fr m ts.heap m1 (qL site ts cs').2.heap∧Up m m1:=by
 cases site with
 |true=>
  have hp:=hR.heap.push (pb:=.cells cs) (hb:=.cells .own cs') (mb:=.gy ts.heap.length) (.inl rfl) ?_
  .refine⟨m++[.gy ts.heap.length],rfl,rfl,hR.step hp.1 hp.2.1 hp.2.2,?_,hp.2.1,hp.2.2⟩;show VR X P _ _ _ (.ptr ps.heap.length 0 cs.length) (.ptr ts.heap.length 0 cs'.length);rw[hc.1];exact .ptr (by rw[<-hR.heap.len];simp)
  .refine⟨cs',by simp,hc.step ?_ (wM _)⟩;refine⟨by simp,fun b hb _=>by rw[a0k hb],fun b hb=>?_,fun b cs hc=>⟨cs,by rw[fV (a0k (gV hc)),hc],a0w _⟩⟩;rw[jc,a2Y,kM]at hb;rcases hb with hb|hb
   .exact .inl hb
   .simp[MB.own]at hb;exact .inr (by omega)
 |false=>
  refine⟨m,rfl,rfl,⟨hR.heap,by simp[E8,qL,hR.llen],fun k ds hk=>?_,hR.env⟩,?_,.refl,.refl⟩
  .simp only[E8,qL,a2V,a3U]at hk ⊢;rcases a4h k ps.loc.length with hl|hl
   .rw[a0k hl]at hk;obtain⟨ds',g1,g2⟩:=hR.loc k ds hk;exact⟨ds',by rw[a0k (by rw[<-hR.llen];exact hl)];exact g1,g2⟩
   .rw[a1d hl]at hk;have:k-ps.loc.length=0:=by
     rcases aby (k-ps.loc.length)with e|e
     .exact e
     .rw[a4e (by simp;omega)]at hk;cases hk
    rw[this]at hk;simp only[a2Q,a03]at hk;subst hk;exact⟨cs',by rw[a1d (by rw[<-hR.llen];exact hl),<-hR.llen,this];rfl,hc⟩
  .exact⟨hR.llen,rfl⟩
theorem iR{i:Nat}{mb:MB}{b:Nat}(h1:m[i]? = some mb)(h2:mb.own=some b):H8 m i b:=⟨mb,h1,h2⟩
theorem Zo{i b:Nat}(h:H8 m i b):b∈bD m:=let ⟨_,h1,h2⟩:=h;bf h1 h2
theorem IR.rdH{i b:Nat}(h0:H8 m i b)(hl:b<h.length):IR m h ⟨xq (.h i),false,false,true⟩ (xq (.h b)):=
 ⟨fun h=>(by cases h),fun k hk=>(by simp[xq]at hk),fun k hk=>(by simp[xq]at hk),fun b hb=>(by simp[xq]at hb),fun c hc=>(by simp[xq]at hc;subst hc;exact⟨.inl ⟨i,by simp[xq],h0⟩,hl⟩),fun h=>(by cases h)⟩
theorem IR.wrH{i b:Nat}(h0:H8 m i b)(hl:b<h.length):IR m h ⟨pq (.h i),false,false,true⟩ (pq (.h b)):=
 ⟨fun h=>(by cases h),fun k hk=>(by simp[pq]at hk),fun k hk=>(by simp[pq]at hk),fun c hc=>(by simp[pq]at hc;subst hc;exact .inl ⟨i,by simp[pq],h0⟩),fun c hc=>(by simp[pq]at hc;subst hc;exact⟨.inl ⟨i,by simp[pq],h0⟩,hl⟩),fun h=>(by cases h)⟩
theorem IR.loc{k:Nat}:IR m h ⟨xq (.l k),false,false,false⟩ (xq (.l k)):=
 ⟨fun h=>(by cases h),fun j hj=>by simpa[xq]using hj,fun k hk=>(by simp[xq]at hk),fun b hb=>(by simp[xq]at hb),fun c hc=>(by simp[xq]at hc),fun _=>⟨rfl,fun b hb=>(by simp[xq]at hb),fun b hb=>(by simp[xq]at hb)⟩⟩
theorem IR.anS{k:Nat}:IR m h ⟨pq (.l k),false,false,false⟩ (pq (.l k)):=
 ⟨fun h=>(by cases h),fun j hj=>by simpa[pq]using hj,fun j hj=>by simpa[pq]using hj,fun c hc=>(by simp[pq]at hc),fun c hc=>(by simp[pq]at hc),fun _=>⟨rfl,fun b hb=>(by simp[pq]at hb),fun b hb=>(by simp[pq]at hb)⟩⟩
theorem WJ{t:TypeId}{cs:List TV}{o sz off n:Nat}{x:TV}(ho:o+sz<=cs.length)(hp:uh P t ((cs.drop o).take sz) off=some x)(hn:dG P t=some n):uh P t cs (o+off)=some x∧off+n<=sz∧o+off+n<=cs.length:=by
 unfold uh at hp ⊢;split at hp
 .rename_i k ha hk;rw[hn]at hk;cases hk;simp only[a0f]at hp;obtain⟨r,h1,rfl⟩:=hp;unfold sub at h1;split at h1
  .rename_i hl;rw[a4b,a3Y]at hl;refine⟨?_,by omega,by omega⟩;cases h1;simp only[ha,hn,sub];rw[a0q (by omega)];simp only[a1b,a03,TV.agg.injEq];rw[agU,af5,aew,a8m (by omega)]
  cases h1
 .rename_i k ha hk;rw[hn]at hk;cases hk;split at hp
  .rename_i h1;subst h1;rw[a4i]at hp;split at hp
   .rename_i h2;rw[a4j]at hp;have:=(a0d.1 hp).1;refine⟨by simp only[ha,hn,a2y];exact hp,by omega,by omega⟩
   cases hp
  cases hp
 cases hp
theorem RQ{t:TypeId}{cs:List TV}{off:Nat}{x:TV}(hp:uh P t cs off=some x):∃n,dG P t=some n:=by
 unfold uh at hp;split at hp
 .rename_i n _ hn;exact⟨n,hn⟩
 .rename_i n _ hn;exact⟨n,hn⟩
 cases hp
theorem eF.row{t sz:Nat}{l:List (X.Γ t)}{cs:List TV}{off j:Nat}{a:X.Γ t}(hw:eF X P F m h t l cs off sz)(hj:l[j]? = some a):bZ X P F m h (X.enc t a) ((cs.drop (off+j*sz)).take sz)∧off+j*sz+sz<=cs.length:=by
 have hlen:=hw.1 j a hj;have aQ:j<l.length:=(a0d.1 hj).1;have h2:(j+1)*sz<=l.length*sz:=a3m sz aQ;have h3:=hw.2.1;rw[a3k]at h2;refine⟨⟨by rw[hlen,a4b,a3Y];omega,fun i c v hc hv=>?_⟩,by omega⟩;rw[a4i]at hv;split at hv
 .rw[a4j]at hv;exact hw.2.2 j a i c v hj hc hv
 cases hv
theorem Ap{t:Nat}{l:List (X.Γ t)}{j:Nat}(hj:j<l.length):l[j]? = some (l.getD j (X.d0 t)):=by
 rw[a2X,a0g hj];rfl
theorem Gl(hX:bM X P){ps:aS X.Γ}{ts:St}(hR:uP X P A m ps ts){t:TypeId}{pa:PE X.Γ}{ea:EV}(ha:Iy X P (AA A m) m ts.heap pa ea){v:PV X.Γ}{pi:lZ}(hl:Ag X P t ps pa=some (v,pi)) :
  ∃x ti,loadT P t ts ea=some (x,ti)∧VR X P (AA A m) m ts.heap v x∧IR m ts.heap ⟨pi,false,false,!Uj pa⟩ ti∧ti.ws=[]:=by
 cases pa with
 |loc k off=>
  rw[Eb ha];simp only[Ag]at hl;split at hl
  .rename_i cs hk;simp only[a0f,a0u]at hl;obtain⟨w,h1,rfl,rfl⟩:=hl;obtain⟨cs',g1,g2⟩:=hR.loc k cs hk;obtain⟨x,g3,g4⟩:=Aj g2 h1;exact⟨x,xq (.l k),by simp only[loadT,g1,g3,a1b],g4,.loc,rfl⟩
  .cases hl
 |undef|ent|Et=>simp[Ag]at hl
 |val a=>
  obtain⟨y,rfl,hy⟩:=fZ ha;cases a with
  |ptr b off lim=>
   simp only[Ag]at hl;split at hl
   .rename_i cs n hb hn;split at hl
    .rename_i KX;simp only[a0f,a0u]at hl;obtain⟨w,h1,rfl,rfl⟩:=hl;obtain⟨mb,g1,g2⟩:=hR.heap.at_ b _ hb;cases mb with
     |gy c=>
      obtain⟨cs',g3,g4⟩:=g2;cases hy with
      |ptr e=>
       rw[g1]at e;cases e;obtain⟨x,g5,g6⟩:=Aj g4 h1;refine⟨x,xq (.h c),?_,g6,.rdH (iR g1 rfl) (a0d.1 g3).1,rfl⟩;simp only[loadT,wL g3 (show BK.own≠.last by simp),hn,KX,a2y,g5,a1b]
      |gone hi e _=>simp only[bC,a03]at hi;subst hi;rw[g1]at e;cases e
     |_=>exact g2.elim
    .cases hl
   .rename_i cs n hb hn;split at hl
    .rename_i KX;simp only[a0f,a0u]at hl;obtain⟨w,h1,rfl,rfl⟩:=hl;obtain⟨mb,g1,g2⟩:=hR.heap.at_ b _ hb;cases mb with
     |ji c=>
      obtain⟨g0,cs',g3,g4⟩:=g2;cases hy with
      |ptr e=>rw[g1]at e;cases e
      |gone hi e _=>
       simp only[bC,a03]at hi;subst hi;rw[g1]at e;cases e with
       |r _ e=>
        simp only[roV,a03]at e;subst e;obtain⟨x,g5,g6⟩:=Aj g4 h1;refine⟨x,xq (.h c),?_,g6,⟨fun h=>(by cases h),fun k hk=>(by simp[xq]at hk),fun k hk=>(by simp[xq]at hk),fun b hb=>(by simp[xq]at hb),fun d hd=>?_,fun h=>(by cases h)⟩,rfl⟩
        .simp only[loadT,wL g3 (show BK.own≠.last by simp),hn,KX,a2y,g5,a1b]
        .simp[xq]at hd;subst hd;exact⟨.inr g0,(a0d.1 g3).1⟩
     |_=>exact g2.elim
    .cases hl
   .cases hl
  |row b j off=>
   simp only[Ag]at hl;split at hl
   .rename_i k ex e l hb;simp only[a0f,a0u]at hl;obtain⟨w,h1,rfl,rfl⟩:=hl;obtain⟨mb,g1,g2⟩:=hR.heap.at_ b _ hb;cases mb with
    |dD z=>
     cases hy with
     |row e' hj hq=>
      rw[g1]at e';cases e';cases(g2:LR X P _ _ _ _ _ _ _ _)with
      |emp=>omega
      |some q1 q2 q3 q4 q5 q6 q7 q8 q9=>
       have yF:=q9.row (Ap hj);obtain⟨x,g5,g6⟩:=Aj yF.1 h1;obtain⟨n,hn⟩:=RQ g5;obtain⟨g7,g8,_⟩:=WJ yF.2 g5 hn;rw[a3Z]at g7;refine⟨x,xq (.h _),?_,g6,.rdH (iR g1 (by simp only[MB.own];rw[a0p (by simpa using q1)])) (a0d.1 q4).1,rfl⟩;have rX:=yF.2;simp only[loadT,wK q4 q8.symm,hn];rw[a0q (by omega),g7];rfl
     |gone hi e' _=>simp only[bC,a03]at hi;subst hi;rw[g1]at e';cases e'
    |_=>exact g2.elim
   .cases hl
  |el e a off=>
   simp only[Ag,a0f,a0u]at hl;obtain⟨w,h1,rfl,rfl⟩:=hl;cases hy with
   |el q1 q2 q2' q3 q4 q5 q6=>
    rename_i b o sz lim cs;have yF:bZ X P (AA A m) m ts.heap (X.enc e a) ((cs.drop o).take sz):=by
     refine⟨by rw[q4,a4b,a3Y];omega,fun i c v hc hv=>?_⟩;rw[a4i]at hv;split at hv
     .rw[a4j]at hv;exact q6 i c v hc hv
     .cases hv
    obtain⟨x,g5,g6⟩:=Aj yF h1;obtain⟨n,hn⟩:=RQ g5;obtain⟨g7,g8,_⟩:=WJ q3 g5 hn;refine⟨x,xq (.h b),?_,g6,⟨fun h=>(by cases h),fun k hk=>(by simp[xq]at hk),fun k hk=>(by simp[xq]at hk),fun b hb=>(by simp[xq]at hb),fun c hc=>?_,fun h=>(by cases h)⟩,rfl⟩
    .simp only[loadT,q2,hn];rw[a0q (by omega),g7];rfl
    .simp[xq]at hc;subst hc;exact⟨.inr q1.2,a2P q2⟩
   |gone hi e' _=>simp[bC]at hi
  |_=>simp[Ag]at hl
end
open Go Tw
section
variable {X:kR} {P:Program} {A F:Nat->Prop} {m m':List MB} {h h':List HB} {H H':List (PB X.Γ)}
theorem Oq{cs new:List TV}{o sz off:Nat}{r:List TV}(ho:o+sz<=cs.length)(hr:vY ((cs.drop o).take sz) off new=some r):vY cs (o+off) new=some (cs.take o++r++cs.drop (o+sz))∧r.length=sz:=by
 unfold vY at hr ⊢;split at hr
 rotate_left
 .cases hr
 rename_i hl;have qJ:=hl;rw[a4b,a3Y]at hl;cases hr;refine⟨?_,?_⟩
 .rw[a0q (by omega)];simp only[a03];apply a9w;intro i;simp only[List.getElem?_append,a1s,a4b,a3Y,a4i,a4j];rcases a4h i o with h1|h1
  .simp (disch:=omega) only [a8m,a0q]
  rcases a4h i (o+off)with h2|h2
  .rw[a0q (by omega),a0q (by omega),a0q (by omega),a0q (by omega),a0p (by omega),a0q (by omega),a0q (by omega),a0q (by omega),a0q (by omega)];congr 1;omega
  rcases a4h i (o+off+new.length)with h3|h3
  .rw[a0q (by omega),a0p (by omega),a0q (by omega),a0p (by omega),a0q (by omega),a0p (by omega)];congr 1;omega
  rcases a4h i (o+sz)with h4|h4
  .rw[a0p (by omega),a0q (by omega),a0p (by omega),a0p (by omega),a0q (by omega)];congr 1;omega
  rw[a0p (by omega),a0p (by omega)];congr 1;omega
 simp only[a1s,a4b,a3Y];omega
theorem eF.set{t sz j:Nat}{l:List (X.Γ t)}{cs r:List TV}{a:X.Γ t}(hw:eF X P F m h t l cs 0 sz)(hr:bZ X P F m h (X.enc t a) r)(hl:r.length=sz)(hj:j<l.length) :
  eF X P F m h t (l.set j a) (cs.take (j*sz)++r++cs.drop (j*sz+sz)) 0 sz:=by
 have h2:(j+1)*sz<=l.length*sz:=a3m sz hj;rw[a3k]at h2;have h3:=hw.2.1;refine⟨fun k y hy=>?_,?_,fun k y i c v hy hi hx=>?_⟩
 .rw[a9v]at hy;split at hy
  .cases hy;rw[hr.1,hl]
  .exact hw.1 k y hy
 .simp only[a1s,a4b,a3Y,a4n];omega
 .rw[a9v]at hy;split at hy
  .rename_i e;subst e;cases hy;have aQ:i<sz:=by rw[<-hl,<-hr.1];exact(a0d.1 hi).1
   refine hr.2 i c v hi ?_;rw[a0k (by simp only[a1s,a4b];omega),a1d (by rw[a4b];omega),a4b]at hx;rw[<-hx];congr 1;omega
  .rename_i e;have hlen:=hw.1 k y hy;have aQ:i<sz:=by rw[<-hlen];exact(a0d.1 hi).1
   have hk:k<l.length:=(a0d.1 hy).1;refine hw.2.2 k y i c v hy hi ?_;rw[<-hx];rcases a4h k j with h4|h4
   .have:(k+1)*sz<=j*sz:=a3m sz h4;rw[a3k]at this;rw[a0k (by simp only[a1s,a4b];omega),a0k (by rw[a4b];omega),a4i,a0q (by omega)]
   .have h5:j+1<=k:=(by omega);have:(j+1)*sz<=k*sz:=a3m sz h5;rw[a3k]at this;rw[a1d (by simp only[a1s,a4b];omega),a4j];congr 1;simp only[a1s,a4b];omega
theorem Kv{b:Nat}{pb:PB X.Γ}:∀{is:List Nat} {H:List (PB X.Γ)},is.contains b=false->aZ is (H.set b pb)=(aZ is H).set b pb
 | [],_,_=>rfl
 |i::is,H,hn=>by
  simp only[agY,a9o,agT,ne_eq]at hn;simp only[aZ,WB];rw[List.set_comm _ _ hn.1,Kv hn.2]
theorem yK(hX:bM X P){ps ps1:aS X.Γ}{ts:St}(hR:uP X P A m ps ts){t:TypeId}{pa:PE X.Γ}{ea:EV}(ha:Iy X P (AA A m) m ts.heap pa ea){v:PV X.Γ}{x:TV}(hv:VR X P (AA A m) m ts.heap v x){pi:lZ}(hl:Ue X P t ps pa v=some (ps1,pi)) :
  ∃iJ ti m1,storeT P t ts ea x=some (iJ,ti)∧iJ.env=ts.env∧iJ.ws=ts.ws∧uP X P A m1 ps1 iJ∧Fr m ts.heap m1 iJ.heap∧Up m m1∧IR m ts.heap ⟨pi,false,false,!Uj pa⟩ ti∧∀b,.h b∈ti.ws->b∈bD m:=by
 have hc:=GY hv;unfold Ue at hl;split at hl
 .rename_i n hn;split at hl
  .rename_i NJ;have a9q:x.cells.length=n∧x.cells.all iU=true:=⟨by rw[<-hc.1];exact NJ.1,by rw[Ea hc];exact NJ.2⟩;cases pa with
   |loc k off=>
    rw[Eb ha];simp only at hl;split at hl
    .rename_i cs hk;simp only[a0f,a0u]at hl;obtain⟨MC,h1,rfl,rfl⟩:=hl;obtain⟨cs',g1,g2⟩:=hR.loc k cs hk;obtain⟨J7,g3,g4⟩:=GZ g2 hc h1;refine⟨{ ts with loc:=ts.loc.set k J7 },pq (.l k),m,?_,rfl,rfl,⟨hR.heap,by simp[hR.llen],fun j ds hj=>?_,hR.env⟩,.refl,.refl,.anS,fun b hb=>by simp[pq]at hb⟩
     .simp only[storeT,hn,a9q,acU,a2y,g1,g3,a1b]
     .by_cases e:k=j
      .subst e;rw[a4k]at hj;rw[hk]at hj;cases hj;exact⟨J7,by rw[a4k,g1];rfl,g4⟩
      .rw[a1n e]at hj;obtain⟨ds',q1,q2⟩:=hR.loc j ds hj;exact⟨ds',by rw[a1n e];exact q1,q2⟩
    .cases hl
   |undef|ent|Et=>simp at hl
   |val a=>
    obtain⟨y,rfl,hy⟩:=fZ ha;cases a with
    |ptr b off lim=>
     simp only at hl;split at hl
     .rename_i KX;split at hl
      .rename_i cs hb;simp only[a0f,a0u]at hl;obtain⟨MC,h1,rfl,rfl⟩:=hl;obtain⟨mb,g1,g2⟩:=hR.heap.at_ b _ hb;cases mb with
       |gy c=>
        obtain⟨cs',g3,g4⟩:=g2;cases hy with
        |ptr e=>
         rw[g1]at e;cases e;obtain⟨J7,g5,g6⟩:=GZ g4 hc h1;have hlen:J7.length=cs'.length:=by
          unfold vY at g5;split at g5
          .cases g5;simp only[a1s,a4b,a3Y];omega
          .cases g5
         have aQ:=(a0d.1 g3).1;obtain⟨hr1,hF⟩:=hR.heap.set (pb:=.cells MC) (hb:=.cells .own J7) g1 (c:=c) rfl (fun WL WM=>⟨J7,by simp[aW,aQ],by
          simp only[aW,g3,a03]at WM;subst WM;omega⟩) fun hF=>⟨J7,by simp[aQ],g6.step hF .refl⟩
         refine⟨{ ts with heap:=ts.heap.set c (.cells .own J7) },pq (.h c),m,?_,rfl,rfl,hR.step hr1 hF .refl,hF,.refl,.wrH (iR g1 rfl) aQ,fun b hb=>?_⟩
         .simp only[storeT,hn,a9q,acU,a2y,KX,WG g3,g5,a1b]
         .simp[pq]at hb;subst hb;exact bf g1 rfl
        |gone hi e _=>simp only[bC,a03]at hi;subst hi;rw[g1]at e;cases e
       |_=>exact g2.elim
      .cases hl
     .cases hl
    |row b j off=>
     simp only at hl;split at hl
     .rename_i k0 ex e l hb;split at hl
      .rename_i MC h1;split at hl
       .rename_i a is hd;split at hl
        .cases hl
        .rename_i hnb;simp only[a03,a0u]at hl;obtain⟨rfl,rfl⟩:=hl;obtain⟨mb,g1,g2⟩:=hR.heap.at_ b _ hb;cases mb with
         |dD z=>
          cases hy with
          |row e' hj hq=>
           rw[g1]at e';cases e';cases(g2:LR X P _ _ _ _ _ _ _ _)with
           |emp=>omega
           |some q1 q2 q3 q4 q5 q6 q7 q8 q9=>
            rename_i c sz xx kk cs;obtain⟨Bo,xP,hkr,hko⟩:=J5 q5;have vJ:(MB.dD (TV.slc c 0 l.length l.length sz xx)).own=some c:=by simp only[MB.own];rw[a0p (by simpa using q1)]
            have yF:=q9.row (Ap hj);simp only[a3Z]at yF;obtain⟨r,g3,g4⟩:=GZ yF.1 hc h1;obtain⟨g5,g6⟩:=Oq yF.2 g3;have anT:=a19 (m':=bW is m) hX hR.heap g4 hd;have hgo:=hR.heap.aZ is;have Qr:=iC (h:=ts.heap) is m;have ai6:is.contains b=false:=(by simpa using hnb);have hm1:(bW is m)[b]? = some (.dD (.slc c 0 l.length l.length sz xx)):=by rw[GV is g1,ai6];rfl
            have aQ:=(a0d.1 q4).1;have QK:(cs.take (j*sz)++r++cs.drop (j*sz+sz)).length=cs.length:=by
             simp only[a1s,a4b,a3Y];omega
            obtain⟨hr1,hF⟩:=hgo.set (pb:=.list k0 ex e (l.set j a)) (hb:=.cells Bo (cs.take (j*sz)++r++cs.drop (j*sz+sz))) hm1 vJ (fun WL WM=>⟨cs.take (j*sz)++r++cs.drop (j*sz+sz),by simp[aW,aQ],by
             simp only[aW,q4,a03]at WM;subst WM;omega⟩) fun hF=>by
              have hw:=(q9.step Qr.1 Qr.2).set (anT.mono fun b hb=>hb.gone hR.heap) g6 hj;have:=LR.some (X:=X) (P:=P) (A:=AA A (bW is m)) (m:=bW is m) (h:=ts.heap.set c (.cells Bo (cs.take (j*sz)++r++cs.drop (j*sz+sz)))) (k:=k0) (ex:=ex) (t:=e) (l:=l.set j a) (b:=c) (sz:=sz) (e:=xx) (kk:=Bo) (cs:=cs.take (j*sz)++r++cs.drop (j*sz+sz))
               (by intro e0;apply q1;have:=congrArg List.length e0;rw[a4n]at this;exact a8d.1 this) q2 q3 (by simp[aQ]) hkr (fun e0=>hko (q6 e0)) q7 (by rw[QK,a4n];exact q8) (hw.step hF .refl)
              rw[a4n]at this;exact this
            rw[<-Kv ai6]at hr1;have Wn:=Qr.1.trans hF;refine⟨{ ts with heap:=ts.heap.set c (.cells Bo (cs.take (j*sz)++r++cs.drop (j*sz+sz))) },pq (.h c),bW is m,?_,rfl,rfl,hR.step hr1 Wn Qr.2,Wn,Qr.2,.wrH (iR g1 vJ) aQ,fun b hb=>?_⟩
            .have h9:j*sz+off+n<=l.length*sz:=by
              have h8:=yF.2;unfold vY at g3;split at g3
              .rename_i h0;rw[a4b,a3Y,a9q.1]at h0;omega
              .cases g3
             simp only[storeT,hn,a9q,acU,a2y,h9,a0Z q4 xP q8.symm,g5,a1b]
            .simp[pq]at hb;subst hb;exact bf g1 vJ
          |gone hi e' _=>simp only[bC,a03]at hi;subst hi;rw[g1]at e';cases e'
         |_=>exact g2.elim
       .cases hl
      .cases hl
     .cases hl
    |_=>simp at hl
  .cases hl
 .cases hl
end
open Go Tw
section
variable {X:kR} {P:Program} {A F:Nat->Prop} {m m':List MB} {h h':List HB} {H H':List (PB X.Γ)}
theorem nR{v:PV X.Γ}{x:TV}(hv:VR X P A m h v x):Iy X P A m h (.val v) (.val x):=hv
theorem Nz{ps:aS X.Γ}{ts:St}(hR:uP X P A m ps ts){o:Nat}{pa pb:PE X.Γ}{ea:EV}(ha:Iy X P (AA A m) m ts.heap pa ea)(hl:GN X ps o pa=some pb):∃eb,Qe o ea=some eb∧Iy X P (AA A m) m ts.heap pb eb:=by
 cases pa with
 |loc k off=>
  rw[Eb ha];simp only[GN,a03]at hl;subst hl;exact⟨.loc k (off+o),rfl,rfl,rfl⟩
 |undef|ent|Et=>simp[GN]at hl
 |val a=>
  obtain⟨y,rfl,hy⟩:=fZ ha;cases a with
  |ptr b off lim=>
   simp only[GN]at hl;split at hl
   .rename_i cs hb;split at hl
    .rename_i hle;cases hl;obtain⟨mb,g1,g2⟩:=hR.heap.at_ b _ hb;cases mb with
     |gy c=>
      cases hy with
      |ptr e=>exact⟨.val (.ptr _ (off+o) lim),by simp only[Qe,hle,a2y],VR.ptr e⟩
      |gone hi e q=>simp only[bC,a03]at hi;subst hi;rw[g1]at e;cases e
     |_=>exact g2.elim
    cases hl
   .rename_i cs hb;split at hl
    .rename_i hle;cases hl;obtain⟨mb,g1,g2⟩:=hR.heap.at_ b _ hb;cases mb with
     |ji c=>
      cases hy with
      |ptr e=>rw[g1]at e;cases e
      |gone hi e q=>
       simp only[bC,a03]at hi;subst hi;rw[g1]at e;cases e with
       |r _ e=>simp only[roV,a03]at e;subst e;exact⟨.val (.ptr _ (off+o) lim),by simp only[Qe,hle,a2y],VR.gone rfl (.ofR g1 rfl) rfl⟩
     |_=>exact g2.elim
    cases hl
   cases hl
  |el t a off=>
   simp only[GN]at hl;split at hl
   .rename_i hle;cases hl;cases hy with
    |el q1 q2 q2' q3 q4 q5 q6=>
     rename_i b o0 sz lim cs;rw[q4]at hle;refine⟨.val (.ptr b (o0+off+o) lim),by simp only[Qe];rw[a0q (by omega)],?_⟩;rw[a9M];exact VR.el q1 q2 q2' q3 q4 hle q6
    |gone hi _ _=>simp[bC]at hi
   cases hl
  |row b j off=>
   simp only[GN,ahT]at hl;split at hl
   rotate_left
   .cases hl
   rename_i n hn;split at hn
   rotate_left
   .cases hn
   rename_i k ex e l hb;cases hn;split at hl
   .rename_i hle;cases hl;obtain⟨mb,g1,g2⟩:=hR.heap.at_ b _ hb;cases mb with
    |dD z=>
     cases hy with
     |row e' hj hq=>
      rw[g1]at e';cases e';cases(g2:LR X P _ _ _ _ _ _ _ _)with
      |emp=>omega
      |some q1 q2 q3 q4 q5 q6 q7 q8 q9=>
       rw[q9.1 j _ (Ap hj)]at hle;have yF:=(q9.row (Ap hj)).2;refine⟨.val (.ptr _ (j*_+off+o) (l.length*_)),by simp only[Qe];rw[a0q (by omega)],?_⟩;rw[a9M];exact VR.row g1 hj hle
     |gone hi e' _=>simp only[bC,a03]at hi;subst hi;rw[g1]at e';cases e'
    |_=>exact g2.elim
   cases hl
  |_=>simp[GN]at hl
theorem a9s{ps:aS X.Γ}{ts:St}(hR:uP X P A m ps ts){b:Nat}{k ex:Bool}{e:Nat}{l:List (X.Γ e)}(hb:ps.heap[b]? = some (.list k ex e l)){y:TV}(hy:VR X P (AA A m) m ts.heap (.own b) y)(hl:l≠[]) :
  ∃c sz x,y=.slc c 0 l.length l.length sz x∧m[b]? = some (.dD y)∧dG P e=some sz∧0<sz:=by
 obtain⟨mb,g1,g2⟩:=hR.heap.at_ b _ hb;cases mb with
 |dD z=>
  cases hy with
  |own e' o=>
   rw[g1]at e';cases e';cases(g2:LR X P _ _ _ _ _ _ _ _)with
   |nil=>exact absurd rfl hl
   |emp=>exact absurd rfl hl
   |some q1 q2 q3=>exact⟨_,_,_,rfl,g1,q2,q3⟩
  |gone hi e' _=>simp only[bC,a03]at hi;subst hi;rw[g1]at e';cases e'
 |_=>exact g2.elim
theorem zX{ps:aS X.Γ}{ts:St}(hR:uP X P A m ps ts){t:TypeId}{px pb:PE X.Γ}{ex:EV}(hx:Iy X P (AA A m) m ts.heap px ex){i:PV X.Γ}{ti:TV}(hi:VR X P (AA A m) m ts.heap i ti){qs:List Prop}(hl:FK X P t ps px i=some (pb,qs))(hq:∀q∈qs,q) :
  ∃eb,mD P t ex ti=some eb∧Iy X P (AA A m) m ts.heap pb eb:=by
 have U5:∀{k:IntKind} {iv:Int} {n:Nat},fK iv n->idx n (.int k iv)=some iv.toNat∧iv.toNat<n:=by
  intro k iv n hn;unfold fK at hn;refine⟨by simp only[idx];rw[a0q hn],by omega⟩
 have hpi:∀{n j:Nat},a2M X n i=some j->idx n ti=some j:=by
  intro n j hj;cases i<;>simp only[a2M]at hj<;>try (cases hj;done)
  cases hi with
  |int=>exact hj
  |gone e _ _=>simp[bC]at e
 unfold FK at hl;split at hl
 .rename_i e hu;split at hl
  .rename_i n t' l fu k iv hn;split at hl
   .rename_i ht;subst ht;simp only[a03,a0u]at hl;obtain⟨rfl,rfl⟩:=hl;have hr:=U5 (k:=k) (hq _ a3l);have:ti=.int k iv:=by
     cases hi with
     |int=>rfl
     |gone e _ _=>simp[bC]at e
    subst this;obtain⟨y,rfl,hy⟩:=fZ hx;rcases a1a hy hn with⟨rfl,rfl⟩|⟨b,off,cap,ex',cs,rfl,hk,hc,JY,hw⟩
    .have:=hr.2;simp at this
    .have yF:=hw.row (Ap hr.2);have hA:AA A m b:=by
      cases hy with
      |dD a=>exact a
      |gone e _ _=>simp[bC]at e
     have NJ:=JY (by intro e0;rw[e0]at hr;have:=hr.2;simp at this);have hle:off+iv.toNat*n+n<=off+cap*n:=by
      have h1:(iv.toNat+1)*n<=cap*n:=a3m n (by have:=hr.2;omega);rw[a3k,a9D]at h1;omega
     refine⟨.val (.ptr b (off+iv.toNat*n) (off+cap*n)),?_,?_⟩
     .simp only[mD,hu,hn,a2y,hr.1,a1b]
     .have:=VR.el (X:=X) (P:=P) (A:=AA A m) (m:=m) (h:=ts.heap) (t:=t') (a:=l.getD iv.toNat (X.d0 t')) (off:=0) (o:=off+iv.toNat*n) hA NJ hle yF.2 (hw.1 _ _ (Ap hr.2)) (a4C _) (fun i c v h1 h2=>hw.2.2 _ _ i c v (Ap hr.2) h1 h2);exact nR (by simpa using this)
   .cases hl
  .rename_i n b k iv hn;split at hl
   .rename_i w ex' t' l hb;split at hl
    .rename_i ht;subst ht;simp only[a03,a0u]at hl;obtain⟨rfl,rfl⟩:=hl;have hr:=U5 (k:=k) (hq _ a3l);have:ti=.int k iv:=by
      cases hi with
      |int=>rfl
      |gone e _ _=>simp[bC]at e
     subst this;obtain⟨y,rfl,hy⟩:=fZ hx;obtain⟨c,sz,x',rfl,g1,g2,g3⟩:=a9s hR hb hy (by intro e0;rw[e0]at hr;have:=hr.2;simp at this);rw[hn]at g2;cases g2;refine⟨.val (.ptr c (iv.toNat*n) (l.length*n)),?_,?_⟩
     .simp only[mD,hu,hn,a2y,hr.1,a1b,a3Z]
     .have:=VR.row (X:=X) (P:=P) (A:=AA A m) (m:=m) (h:=ts.heap) (off:=0) g1 hr.2 (a4C n);exact nR (by simpa using this)
    .cases hl
   .cases hl
  .rename_i n b o q k iv hn;split at hl
   .rename_i w ex' t' l hb;split at hl
    .rename_i ht;subst ht;simp only[a03,a0u]at hl;obtain⟨rfl,rfl⟩:=hl;have hr:=U5 (k:=k) (hq _ a3l);have:ti=.int k iv:=by
      cases hi with
      |int=>rfl
      |gone e _ _=>simp[bC]at e
     subst this;obtain⟨y,rfl,hy⟩:=fZ hx;obtain⟨mb,g1,g2⟩:=hR.heap.at_ b _ hb;cases mb with
     |dD z=>
      cases hy with
      |win e' w1 w2 w3=>
       rw[g1]at e';cases e';cases(g2:LR X P _ _ _ _ _ _ _ _)with
       |emp=>have:=hr.2;omega
       |some q1 q2 q3=>
        rw[hn]at q2;cases q2;have hp:=nR (VR.row (X:=X) (P:=P) (A:=AA A m) (m:=m) (h:=ts.heap) (j:=o+iv.toNat) (off:=0) g1 (by have:=hr.2;omega) (a4C n));refine⟨_,?_,hp⟩;have h3:=w3.resolve_left (by have:=hr.2;omega);simp only[mD,hu,hn,a2y,hr.1,a1b,a3Z,a3k,adv,<-h3]
      |Ah e'=>have:=hr.2;omega
      |gone hi e' _=>simp only[bC,a03]at hi;subst hi;rw[g1]at e';cases e'
     |_=>exact g2.elim
    .cases hl
   .cases hl
  .rename_i n b off len cap sz ex' hn;split at hl
   .rename_i cs hb;split at hl
    .rename_i uT;subst uT;simp only[a0f,a0u]at hl;obtain⟨j,h1,rfl,rfl⟩:=hl;obtain⟨y,rfl,hy⟩:=fZ hx;obtain⟨mb,g1,g2⟩:=hR.heap.at_ b _ hb;cases mb with
     |gy c=>
      cases hy with
      |slc e=>
       have:=hpi h1;rw[g1]at e;cases e;exact⟨.val (.ptr c (off+j*n) (off+cap*n)),by simp only[mD,hu,hn,a2y,this,a1b],VR.ptr g1⟩
      |gone vZ e' _=>simp only[bC,a03]at vZ;subst vZ;rw[g1]at e';cases e'
     |_=>exact g2.elim
    .cases hl
   .cases hl
  .cases hl
 .rename_i len e hu;split at hl
  .rename_i n hn;split at hl
   .rename_i j hj;simp only[a0f,a0u]at hl;obtain⟨pa,h1,rfl,rfl⟩:=hl;obtain⟨eb,g1,g2⟩:=Nz hR hx h1;exact⟨eb,by simp only[mD,hu,hn,hpi hj,g1],g2⟩
   .cases hl
  .cases hl
 .cases hl
end
open Go Tw
section
variable {X:kR} {P:Program} {A F:Nat->Prop} {m m':List MB} {h h':List HB} {H H':List (PB X.Γ)}
theorem YH(hr:HR X P A m H h){at_:Array TypeId}{x:PV X.Γ}{tx:TV}(hx:VR X P (AA A m) m h x tx){v:PV X.Γ}{pi:lZ}(hl:adY X P at_ H x=some (v,pi)) :
  ∃w ti,Yw P at_ h tx=some (w,ti)∧VR X P (AA A m) m h v w∧IR m h ⟨pi,false,false,true⟩ ti∧ti.ws=[]:=by
 unfold adY at hl;split at hl
 .rename_i t ht;unfold Yw;simp only[ht];split at hl
  .rename_i s hu;cases hl;cases hx with
   |str=>exact⟨_,_,by first|(simp only[hu];done)|(simp only[hu];rfl),.int _ _,.none,rfl⟩
   |gone hi _ _=>simp[bC]at hi
  .rename_i n e _ hu;cases hl;exact⟨_,_,by first|(simp only[hu];done)|(simp only[hu];rfl),.int _ _,.none,rfl⟩
  .rename_i e b off len cap sz ex hu;split at hl
   .rename_i cs hb;cases hl;obtain⟨mb,g1,g2⟩:=hr.at_ b _ hb;cases mb with
    |gy c=>
     cases hx with
     |slc e'=>exact⟨_,_,by first|(simp only[hu];done)|(simp only[hu];rfl),.int _ _,.none,rfl⟩
     |gone hi e' _=>simp only[bC,a03]at hi;subst hi;rw[g1]at e';cases e'
    |_=>exact g2.elim
   .cases hl
  .rename_i e hu;cases hl;cases hx with
   |nil=>exact⟨_,_,by first|(simp only[hu];done)|(simp only[hu];rfl),.int _ _,.none,rfl⟩
   |gone hi _ _=>simp[bC]at hi
  .rename_i e t' l fu hu;cases hl;cases hx with
   |oD=>exact⟨_,_,by first|(simp only[hu];done)|(simp only[hu];rfl),.int _ _,.none,rfl⟩
   |dD=>exact⟨_,_,by first|(simp only[hu];done)|(simp only[hu];rfl),.int _ _,.none,rfl⟩
   |gone hi _ _=>simp[bC]at hi
  .rename_i e b hu;split at hl
   .rename_i k ex t' l hb;cases hl;obtain⟨mb,g1,g2⟩:=hr.at_ b _ hb;cases mb with
    |dD z=>
     cases hx with
     |own e' _=>
      rw[g1]at e';cases e';cases(g2:LR X P _ _ _ _ _ _ _ _)with
      |nil=>exact⟨_,_,by first|(simp only[hu];done)|(simp only[hu];rfl),.int _ _,.none,rfl⟩
      |emp=>exact⟨_,_,by first|(simp only[hu];done)|(simp only[hu];rfl),.int _ _,.none,rfl⟩
      |some=>exact⟨_,_,by first|(simp only[hu];done)|(simp only[hu];rfl),.int _ _,.none,rfl⟩
     |gone hi e' _=>simp only[bC,a03]at hi;subst hi;rw[g1]at e';cases e'
    |_=>exact g2.elim
   .cases hl
  .rename_i e b o n hu;split at hl
   .rename_i k ex t' l hb;cases hl;obtain⟨mb,g1,g2⟩:=hr.at_ b _ hb;cases mb with
    |dD z=>
     cases hx with
     |win=>exact⟨_,_,by first|(simp only[hu];done)|(simp only[hu];rfl),.int _ _,.none,rfl⟩
     |Ah=>exact⟨_,_,by first|(simp only[hu];done)|(simp only[hu];rfl),.int _ _,.none,rfl⟩
     |gone hi e' _=>simp only[bC,a03]at hi;subst hi;rw[g1]at e';cases e'
    |_=>exact g2.elim
   .cases hl
  .rename_i kt e hu;cases hl;cases hx with
   |nil=>exact⟨_,_,by first|(simp only[hu];done)|(simp only[hu];rfl),.int _ _,.none,rfl⟩
   |gone hi _ _=>simp[bC]at hi
  .rename_i kt e r hu;split at hl
   .rename_i es hb;cases hl;obtain⟨mb,g1,g2⟩:=hr.at_ r _ hb;cases mb with
    |gy c=>
     obtain⟨gu,g3,g4,g5⟩:=g2;cases hx with
     |map e'=>
      rw[g1]at e';cases e';exact⟨_,_,by first|(simp only[hu,g3];done)|(simp only[hu,g3];rfl),by rw[g4];exact .int _ _,.rdH (iR g1 rfl) (a0d.1 g3).1,rfl⟩
     |gone hi e' _=>simp only[bC,a03]at hi;subst hi;rw[g1]at e';cases e'
    |_=>exact g2.elim
   .cases hl
  .cases hl
 .cases hl
def a5O:BinOp->Option TV
 |.eql=>some (.bool false)
 |.neq=>some (.bool true)
 |_=>none
theorem YF{op:BinOp}{t:TypeId}{x y:Operand}{a b:PV X.Γ}{ta tb:TV}(ha:VR X P A m h a ta)(hb:VR X P A m h b tb){v:PV X.Γ}(hl:adZ X P op t x y a b=some v):∃w,sF P op t x y ta tb=some w∧VR X P A m h v w:=by
 unfold adZ at hl;split at hl
 .rename_i u w h1 h2;split at hl
  .rename_i r hr;rw[jO ha h1,jO hb h2];exact⟨r,hr,wP hl⟩
  cases hl
 rename_i Yq;split at hl
 rotate_left
 .cases hl
 rename_i hn;have key:∃k,JQ P t=some k∧((ta=.nil k∧JO tb=some k∧tb.yx=none)∨(tb=.nil k∧JO ta=some k∧ta.yx=none)):=by
  unfold a0W at hn;split at hn
  rotate_left
  .cases hn
  rename_i k hk;refine⟨k,hk,?_⟩;simp only[a8R,a2n,a7H]at hn;have ai7:∀{z:PV X.Γ} {tz:TV},VR X P A m h z tz->z=.nil k->tz=.nil k:=by
   intro z tz hz e;subst e;cases hz with
   |nil=>rfl
   |gone hi _ _=>simp[bC]at hi
  have abP:∀{z:PV X.Γ} {tz:TV},VR X P A m h z tz->(match z with|.fn _ _ _=>some NK.fn|.el _ _ _=>some NK.ptr|_=>none)=some k->JO tz=some k∧tz.yx=none:=by
   intro z tz hz e;cases hz with
   |fn=>exact⟨e,rfl⟩
   |el=>exact⟨e,rfl⟩
   |gone hi _ _=>cases z<;>simp[bC]at hi<;>simp at e
   |_=>simp at e
  have ai8:∀{z:PV X.Γ},(match z with|.nil k=>some k|_=>none)=some k->z=.nil k:=by
   intro z e;cases z<;>simp at e
   rw[e]
  rcases hn with⟨h1,h2⟩|⟨h1,h2⟩
  .have:=abP hb h2;exact .inl ⟨ai7 ha (ai8 h1),this.1,this.2⟩
  have:=abP ha h1;exact .inr ⟨ai7 hb (ai8 h2),this.1,this.2⟩
 obtain⟨k,hk,hc⟩:=key;have ae7:sF P op t x y ta tb=a5O op:=by
  rcases hc with⟨rfl,h2,h3⟩|⟨rfl,h2,h3⟩
  .have hnn:Cb P t (.nil k) tb=true:=by unfold Cb;rw[hk];simp[Yx,h2]
   unfold sF;rw[h3];cases(TV.nil k).yx<;>simp only[hnn,a2y]<;>cases op<;>rfl
  have hnn:Cb P t ta (.nil k)=true:=by unfold Cb;rw[hk];simp[Yx,h2]
  unfold sF;rw[h3];simp only[hnn,a2y];cases op<;>rfl
 rw[ae7];cases op<;>simp only at hl ⊢<;>try (cases hl;done)
 .cases hl;exact⟨_,rfl,.bool _⟩
 cases hl;exact⟨_,rfl,.bool _⟩
theorem Ot{op:BinOp}{t:TypeId}{x y:Operand}{b:PV X.Γ}{ta tb:TV}(hb:VR X P A m h b tb){v:PV X.Γ}{q q':Prop}(hl:LX X P op t b q=some (v,q'))(hq:q')(h2:q->JO ta=some .slc∧ta.yx=none):∃w,sF P op t x y ta tb=some w∧VR X P A m h v w:=by
 unfold LX at hl;split at hl
 .rename_i hk;have h1:tb=.nil .slc:=by
   cases hb with
   |nil=>rfl
   |gone hi _ _=>simp[bC]at hi
  subst h1;have key:q->sF P op t x y ta (.nil .slc)=a5O op:=fun hq=>by
   obtain⟨h2,h3⟩:=h2 hq;have hnn:Cb P t ta (.nil .slc)=true:=by unfold Cb;rw[hk];simp[Yx,h2]
   unfold sF;rw[h3];simp only[hnn,a2y];cases op<;>rfl
  split at hl
  .cases hl;rw[key hq];exact⟨_,rfl,.bool _⟩
  .cases hl;rw[key hq];exact⟨_,rfl,.bool _⟩
  cases hl
 cases hl
theorem a2R(hr:HR X P A m H h){op:BinOp}{t:TypeId}{x y:Operand}{a b:PV X.Γ}{ta tb:TV}(ha:VR X P (AA A m) m h a ta)(hb:VR X P (AA A m) m h b tb){v:PV X.Γ}{q:Prop}(hl:Ug X P op t H a b=some (v,q))(hq:q):∃w,sF P op t x y ta tb=some w∧VR X P (AA A m) m h v w:=by
 unfold Ug at hl;split at hl
 .rename_i l fu;refine Ot hb hl hq (fun iE=>?_);cases ha with
  |oD=>exact absurd rfl iE
  |dD=>exact⟨rfl,rfl⟩
  |gone hi _ _=>simp[bC]at hi
 .rename_i i;split at hl
  .rename_i k ex t' l hi;refine Ot hb hl hq (fun iE=>?_);obtain⟨mb,g1,g2⟩:=hr.at_ i _ hi;cases ha with
   |own e o=>
    rw[g1]at e;cases e;cases g2 with
    |nil=>exact absurd rfl iE
    |emp=>exact absurd rfl iE
    |some=>exact⟨rfl,rfl⟩
   |gone hi e _=>simp only[bC,a03]at hi;subst hi;rw[g1]at e;cases e<;>exact g2.elim
  cases hl
 cases hl
theorem iT{op:UnOp}{a:PV X.Γ}{ta:TV}(ha:VR X P A m h a ta){v:PV X.Γ}(hl:pun X P op a=some v):∃w,unT P op ta=some w∧VR X P A m h v w:=by
 unfold pun at hl;split at hl
 .rename_i u h1;split at hl
  .rename_i r hr;rw[jO ha h1];exact⟨r,hr,wP hl⟩
  cases hl
 cases hl
theorem TT{s d:TypeId}{a:PV X.Γ}{ta:TV}(ha:VR X P A m h a ta){v:PV X.Γ}(hl:a5x X P s d a=some v):∃w,QF P s d ta=some w∧VR X P A m h v w:=by
 unfold a5x at hl;split at hl
 .rename_i u h1;split at hl
  .rename_i r hr;rw[jO ha h1];exact⟨r,hr,wP hl⟩
  cases hl
 cases hl
theorem yM{mx:Bool}{at_:Array TypeId}{t:TypeId}{az:List (PV X.Γ)}{ts:List TV}(ha:bZ X P A m h az ts){v:PV X.Γ}(hl:LY X P mx at_ t az=some v):∃w,DU P mx at_ t ts=some w∧VR X P A m h v w:=by
 unfold LY at hl;split at hl
 .rename_i u h1;split at hl
  .rename_i r hr;rw[a15 ha h1];exact⟨r,hr,wP hl⟩
  cases hl
 cases hl
theorem NC{t:TypeId}{x:PV X.Γ}{tx:TV}(hx:VR X P A m h x tx){i:Nat}{v:PV X.Γ}(hl:Zg X P t x i=some v):∃w,Na P t tx i=some w∧VR X P A m h v w:=by
 unfold Zg at hl;split at hl
 .rename_i fs cs hu;split at hl
  .rename_i f hf;cases hx with
   |agg h1 h2=>
    obtain⟨w,g1,g2⟩:=Aj ⟨h1,h2⟩ hl;exact⟨w,by simp only[Na,hu,hf,g1],g2⟩
   |gone hi _ _=>simp[bC]at hi
  cases hl
 cases hl
theorem ND{t:TypeId}{x i:PV X.Γ}{tx ti:TV}(hx:VR X P A m h x tx)(hi:VR X P A m h i ti){v:PV X.Γ}(hl:Zh X P t x i=some v):∃w,IC P t tx ti=some w∧VR X P A m h v w:=by
 unfold Zh at hl;split at hl
 .rename_i len e cs hu;split at hl
  .rename_i n j hn hj;have:idx len ti=some j:=by
    cases i<;>simp only[a2M]at hj<;>try (cases hj;done)
    cases hi with
    |int=>exact hj
    |gone e _ _=>simp[bC]at e
   cases hx with
   |agg h1 h2=>
    obtain⟨w,g1,g2⟩:=Aj ⟨h1,h2⟩ hl;exact⟨w,by simp only[IC,hu,hn,this,g1],g2⟩
   |gone hi _ _=>simp[bC]at hi
  cases hl
 cases hl
end
open Go Tw
section
variable {X:kR} {P:Program} {A F:Nat->Prop} {m m':List MB} {h h':List HB} {H H':List (PB X.Γ)}
theorem H9:∀{is:List Nat} {H:List (PB X.Γ)} {i:Nat} {pb:PB X.Γ},(aZ is H)[i]? = some pb->(i∈is∧pb=.gone)∨(i∉is∧H[i]? = some pb)
 | [],_,_,_,h=>.inr ⟨by simp,h⟩
 |j::is,H,i,pb,h=>by
  rcases H9 (is:=is) (H:=WB j H) h with⟨h1,h2⟩|⟨h1,h2⟩
  .exact .inl ⟨a3n _ h1,h2⟩
  unfold WB at h2;by_cases e:j=i
  .subst e;rw[a4k]at h2;cases hx:H[j]? with
   |none=>rw[hx]at h2;cases h2
   |some y=>rw[hx]at h2;cases h2;exact .inl ⟨a3l,rfl⟩
  rw[a1n e]at h2;exact .inr ⟨by simp[h1,Ne.symm e],h2⟩
theorem qC(hr:HR X P A m H h)(is:List Nat){k ex x:Bool}{e size:Nat}{rows:List (X.Γ e)}{cs:List TV}(hw:eF X P (FA A m is) (bW is m) h e rows cs 0 size)(hc:cs.length=rows.length*size)(hn:rows≠[])(hz:dG P e=some size)(h0:0<size)(hx:ex=true->x=true) :
  ∃m1,HR X P A m1 (aZ is H++[.list k ex e rows]) (h++[.cells .own cs])∧Fr m h m1 (h++[.cells .own cs])∧Up m m1∧VR X P (AA A m1) m1 (h++[.cells .own cs]) (.own H.length) (.slc h.length 0 rows.length rows.length size x):=by
 have hgo:=hr.aZ is;have Qr:=iC (h:=h) is m;have vJ:(MB.dD (.slc h.length 0 rows.length rows.length size x)).own=some h.length:=by simp only[MB.own];rw[a0p (by simpa using hn)]
 have hF:Fr (bW is m) h (bW is m++[.dD (.slc h.length 0 rows.length rows.length size x)]) (h++[.cells .own cs]):=by
  refine⟨by simp,fun b hb _=>by rw[a0k hb],fun b hb=>?_,fun b cs hc=>⟨cs,by rw[fV (a0k (gV hc)),hc],a0w _⟩⟩;rw[jc,a2Y,kM,vJ]at hb;rcases hb with hb|hb
  .exact .inl hb
  .simp at hb;exact .inr (by omega)
 obtain⟨h1,h2,h3⟩:=hgo.push (pb:=.list k ex e rows) (hb:=.cells .own cs) (.inl vJ)
  (LR.some (kk:=.own) hn hz h0 (by simp) (by simp) (fun _=>rfl) hx hc ((hw.mono fun b hb=>hb.gone hr).step hF (wM _)))
 refine⟨_,h1,Qr.1.trans h2,Qr.2.trans h3,.own ?_ rfl⟩;rw[<-hr.len,<-mO is m];simp
theorem RS(hr:HR X P A m H h)(is:List Nat){k ex:Bool}{e:Nat}{y:TV}(hy:(MB.dD y).own=none)(ho:iU y=true)(hl:LR X P (AA A (bW is m++[.dD y])) (bW is m++[.dD y]) h k ex e [] y) :
  ∃m1,HR X P A m1 (aZ is H++[.list k ex e []]) h∧Fr m h m1 h∧Up m m1∧VR X P (AA A m1) m1 h (.own H.length) y:=by
 have Qr:=iC (h:=h) is m;obtain⟨h1,h2,h3⟩:=(hr.aZ is).abO (pb:=.list k ex e []) hy hl;refine⟨_,h1,Qr.1.trans h2,Qr.2.trans h3,.own ?_ ho⟩;rw[<-hr.len,<-mO is m];simp
theorem a9t(hr:HR X P A m H h){is:List Nat}{y:TV}(hy:(MB.dD y).own=none){b:Nat}(hb:FA A m is b):AA A (bW is m++[.dD y]) b:=by
 have:=hb.gone hr;refine⟨this.1,fun hm=>this.2 ?_⟩;rw[jc,a2Y,kM,hy]at hm;simpa using hm
theorem push_empty(hr:HR X P A m H h)(is:List Nat){k ex:Bool}{e size b off:Nat}{cs:List TV}(hz:dG P e=some size)(h0:0<size)(ha:FA A m is b)(hb:aW h b=some cs)(ho:off<=cs.length) :
  ∃m1,HR X P A m1 (aZ is H++[.list k ex e []]) h∧Fr m h m1 h∧Up m m1∧VR X P (AA A m1) m1 h (.own H.length) (.slc b off 0 0 size true):=
 RS hr is rfl rfl (LR.emp (a9t hr rfl ha) hb ho hz h0)
theorem Ou(hr:HR X P A m H h)(is:List Nat){k ex:Bool}{e:Nat} :
  ∃m1,HR X P A m1 (aZ is H++[.list k ex e []]) h∧Fr m h m1 h∧Up m m1∧VR X P (AA A m1) m1 h (.own H.length) (.nil .slc):=
 RS hr is rfl rfl .nil
theorem Ov(hr:HR X P A m H h){b c:Nat}(is:List Nat){mb LZ:MB}{pb:PB X.Γ}{h1:List HB}(hb:m[b]? = some mb)(ho:mb.own=some c)(ho':LZ.own=some c)(hlen:h1.length=h.length)(hs:∀d,d≠c->h1[d]? = h[d]?)
  (hg:∀cs,aW h c=some cs->∃cs',aW h1 c=some cs'∧cs.length<=cs'.length)
  (qI:Fr m h (bW (b::is) m++[LZ]) h1->Up m (bW (b::is) m++[LZ])->BR X P (AA A (bW (b::is) m++[LZ])) (bW (b::is) m++[LZ]) h1 pb LZ) :
  ∃m1,m1=bW (b::is) m++[LZ]∧HR X P A m1 (aZ (b::is) H++[pb]) h1∧Fr m h m1 h1∧Up m m1∧m1[H.length]? = some LZ:=by
 have Qr:=iC (h:=h) (b::is) m;have hgo:=hr.aZ (b::is);have hnc:c∉bD (bW (b::is) m):=fun hm=>by
  obtain⟨j,mbj,g1,g2,g3⟩:=Ak hm;have:=iW hr.nodup hb g2 ho g3;exact g1 (by rw[<-this];exact a3l)
 have yN:∀d,d∈bD (bW (b::is) m++[LZ])↔d∈bD (bW (b::is) m)∨d=c:=by
  intro d;rw[jc,a2Y,kM,ho'];simp
 have EC:c∈bD m:=bf hb ho;have hF:Fr m h (bW (b::is) m++[LZ]) h1:=by
  refine⟨by omega,fun d hd hn=>hs d fun e=>hn (e▸EC),fun d hd=>?_,fun d cs hc=>?_⟩
  .rcases(yN d).1 hd with hd|rfl
   .exact Qr.1.new d hd
   .exact .inl EC
  .by_cases e:d=c
   .subst e;exact hg cs hc
   .exact⟨cs,by rw[fV (hs d e),hc],a0w _⟩
 have hU:Up m (bW (b::is) m++[LZ]):=Qr.2.trans (wM _);refine⟨_,rfl,?_,hF,hU,?_⟩
 .refine hr.next hF hU (by simp[mO,nO,hr.len]) ?_ fun i pbi hi=>?_
  .rw[jc,kM,ho'];refine a8G.2 ⟨hgo.nodup,by simp,fun a ha b' xR e=>?_⟩;simp at xR;subst xR;subst e;exact hnc ha
  .rcases a4h i (aZ (b::is) H).length with aQ|EJ
   .rw[a0k aQ]at hi;have a5P:i<(bW (b::is) m).length:=by rw[hgo.len];exact aQ
    rcases H9 hi with⟨e1,rfl⟩|⟨e1,e2⟩
    .obtain⟨mbi,g1,g2⟩:=hgo.at_ i _ hi;cases mbi with
     |gone=>exact .inr ⟨.gone,by rw[a0k a5P];exact g1,trivial⟩
     |_=>exact g2.elim
    .obtain⟨mbi,g1,_⟩:=hr.at_ i _ e2;left;have hm:=GV (b::is) g1;rw[show(b::is).contains i=false by simpa using e1]at hm;refine⟨mbi,e2,g1,by rw[a0k a5P];simpa using hm,fun d hd=>hs d fun e=>?_⟩;subst e;have:=iW hr.nodup hb g1 ho hd;exact e1 (by rw[<-this];exact a3l)
   .rw[a1d EJ]at hi;have:i-(aZ (b::is) H).length=0:=by
     rcases aby (i-(aZ (b::is) H).length)with h|h
     .exact h
     .rw[a4e (by simp;omega)]at hi;cases hi
    rw[this]at hi;simp only[a2Q,a03]at hi;subst hi;exact .inr ⟨LZ,by rw[a1d (by rw[hgo.len];exact EJ),hgo.len,this];rfl,qI hF hU⟩
 .have:H.length=(bW (b::is) m).length:=by rw[mO,hr.len]
  rw[this];simp
end
open Go Tw
section
variable {X:kR} {P:Program} {A F:Nat->Prop} {m m':List MB} {h h':List HB} {H H':List (PB X.Γ)}
def WO(X:kR)(P:Program)(A:Nat->Prop)(m:List MB)(ts:St)(r:Option (TV×St×lZ))(v:PV X.Γ)(H1:List (PB X.Γ))(pi:PI):Prop:=
 ∃w h1 ti m1,r=some (w,{ ts with heap:=h1 },ti)∧HR X P A m1 H1 h1∧VR X P (AA A m1) m1 h1 v w∧Fr m ts.heap m1 h1∧Up m m1∧IR m ts.heap pi ti∧∀b,.h b∈ti.ws->b∈bD m
theorem nS{e:TypeId}{n k:Nat}(hb:tY P e n=true)(hk:k<=n):tY P e k=true:=by
 unfold tY at hb ⊢;split at hb
 .rename_i i hi;simp only[a2n,a1o]at hb ⊢;obtain⟨⟨⟨⟨h1,h2⟩,h3⟩,h4⟩,h5⟩:=hb;have:=a3m i.bytes hk;exact⟨⟨⟨⟨by omega,by omega⟩,h3⟩,h4⟩,h5⟩
 cases hb
theorem nT{t e:TypeId}{n:Nat}(hs:jG P t=some (e,n)):dG P e=some n∧0<n:=by
 unfold jG at hs;split at hs
 .split at hs
  .rename_i k hk;split at hs
   .cases hs
   rename_i h0;simp only[a03,a0u]at hs;obtain⟨rfl,rfl⟩:=hs;exact⟨hk,by omega⟩
  cases hs
 cases hs
theorem vK(hr:HR X P A m H h){e sz:Nat}{x:PV X.Γ}{tx:TV}(hv:VR X P (AA A m) m h x tx)(hz:dG P e=some sz){rows:List (X.Γ e)}{is:List Nat}(hs:Af X H e sz x=some (rows,is)){b:Nat}(hb:.h b∈dI tx):((∃i,.h i∈CX X x∧H8 m i b)∨b∉bD m)∧b<h.length:=by
 have lr:∀{i:Nat} {k ex:Bool} {t:Nat} {l:List (X.Γ t)} {c off len cap s:Nat} {e':Bool},H[i]? = some (.list k ex t l)->m[i]? = some (.dD (.slc c off len cap s e'))->(H8 m i c∨c∉bD m)∧c<h.length:=by
  intro i k ex t l c off len cap s e' hH hm;obtain⟨mb,g1,g2⟩:=hr.at_ i _ hH;rw[hm]at g1;cases g1;cases(g2:LR X P _ _ _ _ _ _ _ _)with
  |emp h0 h1=>exact⟨.inr h0.2,gV h1⟩
  |some q1 q2 q3 q4=>exact⟨.inl (iR hm (by simp only[MB.own];rw[a0p (by simpa using q1)])),(a0d.1 q4).1⟩
 cases x with
 |nil k=>
  cases hv with
  |nil=>simp[dI]at hb
  |gone hi _ _=>simp[bC]at hi
 |dD t l fu=>
  cases hv with
  |oD=>simp[dI]at hb
  |dD a ac=>simp[dI]at hb;subst hb;exact⟨.inr a.2,gV ac⟩
  |gone hi _ _=>simp[bC]at hi
 |own i=>
  simp only[Af]at hs;split at hs
  .rename_i k ex t l hH;cases hv with
   |own e' o=>
    cases tx<;>simp[dI]at hb
    subst hb;obtain⟨h1,h2⟩:=lr hH e';rcases h1 with h1|h1
    .exact⟨.inl ⟨i,by simp[CX],h1⟩,h2⟩
    exact⟨.inr h1,h2⟩
   |gone hi e' _=>
    simp only[bC,a03]at hi;subst hi;obtain⟨mb,g1,g2⟩:=hr.at_ i _ hH;rw[g1]at e';cases e'<;>exact g2.elim
  cases hs
 |win i o n=>
  simp only[Af]at hs;split at hs
  .rename_i k ex t l hH;cases hv with
   |win e' q q'=>
    simp[dI]at hb;subst hb;obtain⟨h1,h2⟩:=lr hH e';rcases h1 with h1|h1
    .exact⟨.inl ⟨i,by simp[CX],h1⟩,h2⟩
    exact⟨.inr h1,h2⟩
   |Ah=>simp[dI]at hb
   |gone hi e' _=>
    simp only[bC,a03]at hi;subst hi;obtain⟨mb,g1,g2⟩:=hr.at_ i _ hH;rw[g1]at e';cases e'<;>exact g2.elim
  cases hs
 |slc c off len cap s ex=>
  simp only[Af]at hs;split at hs
  .rename_i cs hH;cases hv with
   |slc e'=>
    simp[dI]at hb;subst hb;obtain⟨mb,g1,g2⟩:=hr.at_ c _ hH;rw[e']at g1;cases g1;exact⟨.inl ⟨c,by simp[CX],iR e' rfl⟩,g2.has rfl⟩
   |gone hi e' _=>
    simp only[bC,a03]at hi;subst hi;obtain⟨mb,g1,g2⟩:=hr.at_ c _ hH;rw[g1]at e';cases e'<;>exact g2.elim
  cases hs
 |_=>simp[Af]at hs
theorem IR.reads{p:PI}{ks:List Key}(hp:p.hp=true)(hk:∀b,.h b∈ks->((∃i,.h i∈p.i.ts∧H8 m i b)∨b∉bD m)∧b<h.length)(hl:∀k,.l k∉ks):IR m h p (iq ks):=
 ⟨fun h=>(by cases h),fun k h=>absurd h (hl k),fun k h=>(by cases h),fun b h=>(by cases h),hk,fun h=>(by rw[hp]at h;cases h)⟩
theorem oH{tx:TV}{k:Nat}:Key.l k∉dI tx:=by cases tx<;>simp[dI]
theorem IQ(hX:bM X P){ps:aS X.Γ}{ts:St}(hR:uP X P A m ps ts){at_:Array TypeId}{d x:PV X.Γ}{td tx:TV}(hd:VR X P (AA A m) m ts.heap d td)(hx:VR X P (AA A m) m ts.heap x tx){v:PV X.Γ}{H1:List (PB X.Γ)}{pi:lZ}{qs:List Prop}
  (hl:Uf X P at_ ps.heap d x=some (v,H1,pi,qs)) (hq:∀q∈qs,q):WO X P A m ts (kH P at_ ts td tx) v H1 ⟨pi,false,false,true⟩:=by
 have hr:=hR.heap;unfold Uf at hl;split at hl
 .rename_i st xt vT Ko;split at hl
  .cases hl
  .rename_i hint;split at hl
   .rename_i e size zQ;split at hl
    .rename_i KY;obtain⟨hz,h0⟩:=nT zQ;split at hl
     .rename_i rows is hs;obtain⟨new,s1,s2,s3⟩:=Ut (m':=bW is m) hX hr hx hz hs;have hk0:IR m ts.heap ⟨iq (CX X x),false,false,true⟩ (iq (dI tx)):=IR.reads rfl (fun b hb=>vK hr hx hz hs hb) fun k=>oH;have hrn:rows.length=0↔rows=[]:=a8d;split at hl
      .-- nil
       simp only[a03,a0u]at hl;obtain⟨rfl,rfl,rfl,rfl⟩:=hl;have JV:rows.length<=ah:=hq _ a3l;have:td=.nil .slc:=by
        cases hd with
        |nil=>rfl
        |gone hi _ _=>simp[bC]at hi
       subst this;by_cases hn:rows=[]
       .subst hn;obtain⟨m1,g1,g2,g3,g4⟩:=Ou hr is (k:=true) (ex:=false) (e:=e);exact⟨_,ts.heap,_,m1,by unfold kH;simp only[vT,Ko,hint,a3U,zQ,s1,a4H,a2y,a2V],g1,g4,g2,g3,hk0,fun b hb=>by simp[iq]at hb⟩
       .obtain⟨m1,g1,g2,g3,g4⟩:=qC hr is (k:=true) (ex:=false) (x:=false) s3 s2 hn hz h0 (by simp);refine⟨_,ts.heap++[.cells .own new],_,m1,?_,g1,g4,g2,g3,hk0,fun b hb=>by simp[iq]at hb⟩;unfold kH;simp only[vT,Ko,hint,a3U,zQ,s1,a2V,hrn,hn,s2,a2y,nS KY JV]
      .-- an own list
       rename_i b;split at hl
       .rename_i k ex t' l hb;split at hl
        .cases hl
        rename_i hnb;split at hl
        .rename_i l2 Ox;obtain⟨rfl,rfl⟩:=uy Ox;simp only[a03,a0u]at hl;obtain⟨rfl,rfl,rfl,rfl⟩:=hl;have JV:l2.length+rows.length<=ah:=hq _ a3l;obtain⟨mb,g1,g2⟩:=hr.at_ b _ hb;have VE:∀{c:Nat},H8 m b c∨c∉bD m->c<ts.heap.length->IR m ts.heap ⟨⟨false,.h b::CX X x,[.h b]⟩,false,false,true⟩ (iq (.h c::dI tx)):=fun{c} hc aQ=>IR.reads rfl (fun d hd=>by
          rcases a2r.1 hd with e0|e0
          .cases e0;rcases hc with hc|hc
           .exact⟨.inl ⟨b,a3l,hc⟩,aQ⟩
           .exact⟨.inr hc,aQ⟩
          .obtain⟨h0,h9⟩:=vK hr hx hz hs e0;rcases h0 with⟨i,h1,h2⟩|h1
           .exact⟨.inl ⟨i,a3n _ h1,h2⟩,h9⟩
           .exact⟨.inr h1,h9⟩) fun j hj=>by
            rcases a2r.1 hj with e0|e0
            .cases e0
            .exact oH e0
         have kQ:IR m ts.heap ⟨⟨false,.h b::CX X x,[.h b]⟩,false,false,true⟩ (iq (dI tx)):=IR.reads rfl (fun d hd=>by
          obtain⟨h0,h9⟩:=vK hr hx hz hs hd;rcases h0 with⟨i,h1,h2⟩|h1
          .exact⟨.inl ⟨i,a3n _ h1,h2⟩,h9⟩
          .exact⟨.inr h1,h9⟩) fun j hj=>oH hj
         cases mb with
         |dD z=>
          cases hd with
          |gone hi e' _=>simp only[bC,a03]at hi;subst hi;rw[g1]at e';cases e'
          |own e' o=>
           rw[g1]at e';cases e';have hlr:LR X P (AA A m) m ts.heap k ex t' l2 td:=g2;have TY:eF X P (FA A m (b::is)) (bW (b::is) m) ts.heap t' rows new 0 size:=(s3.mono fun c hc=>FA.mono (fun i hi=>a3n _ hi) hc).jf hX;cases hlr with
           |nil=>
            simp only[aad];by_cases hn:rows=[]
            .subst hn;obtain⟨m1,f1,f2,f3,f4⟩:=Ou hr (b::is) (k:=k&&ex) (ex:=false) (e:=t');exact⟨_,ts.heap,_,m1,by unfold kH;simp only[vT,Ko,hint,a3U,zQ,s1,a4H,a2y,a2V],f1,f4,f2,f3,kQ,fun c hc=>by simp[iq]at hc⟩
            .obtain⟨m1,f1,f2,f3,f4⟩:=qC hr (b::is) (k:=k&&ex) (ex:=false) (x:=false) TY s2 hn hz h0 (by simp);refine⟨_,ts.heap++[.cells .own new],_,m1,?_,f1,f4,f2,f3,kQ,fun c hc=>by simp[iq]at hc⟩;unfold kH;simp only[vT,Ko,hint,a3U,zQ,s1,a2V,hrn,hn,s2,a2y,nS KY (show rows.length<=ah by omega)]
           |emp p0 p1 p2 p3 p4=>
            rename_i c off sz cs;rw[hz]at p3;cases p3;simp only[aad];by_cases hn:rows=[]
            .subst hn;obtain⟨m1,f1,f2,f3,f4⟩:=push_empty hr (b::is) (k:=k&&ex) (ex:=false) hz h0 (.inl p0) p1 p2;exact⟨_,ts.heap,_,m1,by unfold kH;simp only[vT,Ko,hint,a3U,zQ,s1,a4H,a2y,a2V],f1,f4,f2,f3,kQ,fun c hc=>by simp[iq]at hc⟩
            .obtain⟨m1,f1,f2,f3,f4⟩:=qC hr (b::is) (k:=k&&ex) (ex:=false) (x:=false) TY s2 hn hz h0 (by simp);refine⟨_,ts.heap++[.cells .own new],_,m1,?_,f1,f4,f2,f3,VE (c:=c) (.inr p0.2) (gV p1),fun c hc=>by simp[iq]at hc⟩;have oz:fH size ts.heap (.slc c off 0 0 size true)=some (0,[]):=(by simp[fH]);unfold kH;simp only[vT,Ko,hint,a3U,zQ,s1,a2V,hrn,hn,s2,a2y,a3Z,Nat.le_zero_eq,nS KY (show rows.length<=ah by omega),oz,a1b,aad]
           |some p1 p2 p3 p4 p5 p6 p7 p8 p9=>
            rename_i c sz xx kk cs;rw[hz]at p2;cases p2;have vJ:(MB.dD (TV.slc c 0 l2.length l2.length size xx)).own=some c:=by simp only[MB.own];rw[a0p (by simpa using p1)]
            by_cases hn:rows=[]
            .subst hn;simp only[a5T];obtain⟨m1,f0,f1,f2,f3,f4⟩:=Ov (pb:=.list (k&&ex) false t' l2) hr is g1 vJ vJ rfl (fun _ _=>rfl) (fun cs hc=>⟨cs,hc,a0w _⟩) (fun hF hU=>LR.some p1 hz p3 p4 p5 (fun hk=>p6 (by simp at hk;exact hk.1)) (by simp) p8 (p9.step hF hU));exact⟨_,ts.heap,_,m1,by unfold kH;simp only[vT,Ko,hint,a3U,zQ,s1,a4H,a2y,a2V],f1,.own f4 rfl,f2,f3,kQ,fun c hc=>by simp[iq]at hc⟩
            .have hle:¬l2.length+rows.length<=l2.length:=by
              have:rows.length≠0:=fun e0=>hn (hrn.1 e0);omega
             have iE:l2++rows≠[]:=(by simp[p1]);cases xx with
             |true=>
              have hold:fH size ts.heap (.slc c 0 l2.length l2.length size true)=some (l2.length,cs):=by
               simp only[fH,a2y];rw[a0p (fun e0=>p1 (a8d.1 e0)),wK p4 (by omega)];simp only[sub];rw[a0q (by omega),abu,a8O (by omega)];rfl
              have hw1:eF X P (FA A m (b::is)) (bW (b::is) m) ts.heap t' l2 cs 0 size:=(p9.mono fun c hc=>.inl hc).jf hX;obtain⟨m1,f1,f2,f3,f4⟩:=qC hr (b::is) (k:=k&&ex) (ex:=false) (x:=false) (hw1.app TY p8) (by rw[a1s,a1s,a3k,p8,s2]) iE hz h0 (by simp);refine⟨_,ts.heap++[.cells .own (cs++new)],_,m1,?_,f1,f4,f2,f3,VE (c:=c) (.inl (iR g1 vJ)) (a0d.1 p4).1,fun c hc=>by simp[iq]at hc⟩;unfold kH;simp only[vT,Ko,hint,a3U,zQ,s1,a2V,hrn,hn,s2,a2y,hle,nS KY JV,hold,a1b,a1s]
             |false=>
              have hex:ex=false:=by cases ex with
               |true=>exact absurd (p7 rfl) (by simp)
               |false=>rfl
              subst hex;have aQ:=(a0d.1 p4).1;obtain⟨m1,f0,f1,f2,f3,f4⟩:=Ov (pb:=.list (k&&false) false t' (l2++rows)) (h1:=ts.heap.set c (.cells kk.more (cs++new))) (LZ:=.dD (.slc c 0 (l2.length+rows.length) (l2.length+rows.length) size false)) hr is g1 vJ
               (by simp only[MB.own];rw[a0p (by omega)]) (by simp) (fun d hd=>a1n (Ne.symm hd)) (fun WL JY=>⟨cs++new,by simp[aW,aQ],by
                simp only[aW,p4,a03]at JY;subst JY;simp⟩) (fun hF hU=>by
                have Qr:=iC (h:=ts.heap) (b::is) m;have Qk:∀q cs',FA A m is q->aW ts.heap q=some cs'->AA A (bW (b::is) m++[.dD (.slc c 0 (l2.length+rows.length) (l2.length+rows.length) size false)]) q∧(ts.heap.set c (.cells kk.more (cs++new)))[q]? = ts.heap[q]?:=fun q cs' hq hc=>by
                 have Yo:q≠c:=fun e0=>by
                  subst e0;rcases hq with hq|⟨i,mb,e1,e2,e3⟩
                  .exact hq.2 (bf g1 vJ)
                  .have:=iW hr.nodup g1 e2 vJ e3;subst this;exact hnb (by simpa using e1)
                 have hg:=FA.gone hr (FA.mono (js:=b::is) (fun i hi=>a3n _ hi) hq);refine⟨⟨hg.1,fun hm=>?_⟩,a1n (Ne.symm Yo)⟩;rw[jc,a2Y,kM]at hm;rcases hm with hm|hm
                 .exact hg.2 hm
                 .simp only[MB.own]at hm;rw[a0p (by omega)]at hm;simp at hm;exact Yo hm
                have:=LR.some (X:=X) (P:=P) (A:=AA A (bW (b::is) m++[.dD (.slc c 0 (l2.length+rows.length) (l2.length+rows.length) size false)])) (m:=bW (b::is) m++[.dD (.slc c 0 (l2.length+rows.length) (l2.length+rows.length) size false)]) (h:=ts.heap.set c (.cells kk.more (cs++new))) (k:=k&&false) (ex:=false) (t:=t') (l:=l2++rows) (b:=c) (sz:=size) (e:=false) (kk:=kk.more) (cs:=cs++new)
                 iE hz h0 (by simp[aQ]) (by cases kk<;>simp[BK.more]) (by simp) (by simp) (by rw[a1s,a1s,a3k,p8,s2]) ((p9.step hF hU).app (s3.move hX Qk) p8)
                rw[a1s]at this;exact this)
              refine⟨_,ts.heap.set c (.cells kk.more (cs++new)),⟨false,.h c::dI tx,[.h c]⟩,m1,?_,f1,.own f4 rfl,f2,f3,⟨fun h=>(by cases h),fun j hj=>?_,fun j hj=>(by simp at hj),fun d hd=>?_,fun d hd=>?_,fun h=>(by cases h)⟩,fun d hd=>?_⟩
              .unfold kH;simp only[vT,Ko,hint,a3U,zQ,s1,a2V,hrn,hn,s2,a2y,hle,nS KY JV,p4,ne_eq,not_true_eq_false,p5,p8,a8d,p1,or_self]
              .rcases a2r.1 hj with e0|e0
               .cases e0
               .exact absurd e0 oH
              .simp at hd;subst hd;exact .inl ⟨b,by simp,iR g1 vJ⟩
              .rcases a2r.1 hd with e0|e0
               .cases e0;exact⟨.inl ⟨b,a3l,iR g1 vJ⟩,aQ⟩
               .obtain⟨h0,h9⟩:=vK hr hx hz hs e0;rcases h0 with⟨i,h1,h2⟩|h1
                .exact⟨.inl ⟨i,a3n _ h1,h2⟩,h9⟩
                .exact⟨.inr h1,h9⟩
              .simp at hd;subst hd;exact bf g1 vJ
         |_=>exact g2.elim
        .cases hl
       .cases hl
      .-- a full frozen list
       rename_i t' l;split at hl
       .rename_i l2 Ox;obtain⟨rfl,rfl⟩:=uy Ox;simp only[a03,a0u]at hl;obtain⟨rfl,rfl,rfl,rfl⟩:=hl;have JV:l2.length+rows.length<=ah:=hq _ a3l;have Gi:l2=[]∨rows≠[]:=hq _ (a3n _ a3l);cases hd with
        |gone hi _ _=>simp[bC]at hi
        |oD=>
         simp only[aad];by_cases hn:rows=[]
         .subst hn;obtain⟨m1,f1,f2,f3,f4⟩:=Ou hr is (k:=true) (ex:=false) (e:=t');exact⟨_,ts.heap,_,m1,by unfold kH;simp only[vT,Ko,hint,a3U,zQ,s1,a4H,a2y,a2V],f1,f4,f2,f3,hk0,fun c hc=>by simp[iq]at hc⟩
         .obtain⟨m1,f1,f2,f3,f4⟩:=qC hr is (k:=true) (ex:=false) (x:=false) s3 s2 hn hz h0 (by simp);refine⟨_,ts.heap++[.cells .own new],_,m1,?_,f1,f4,f2,f3,hk0,fun c hc=>by simp[iq]at hc⟩;unfold kH;simp only[vT,Ko,hint,a3U,zQ,s1,a2V,hrn,hn,s2,a2y,nS KY (show rows.length<=ah by omega)]
        |dD p1 p2 p2' p3 p4 p5 p6 p7 p8 p9=>
         rename_i c off cap sz xx cs;rw[hz]at p3;cases p3;obtain⟨rfl,rfl⟩:=p7 rfl;have hk3:IR m ts.heap ⟨iq (CX X x),false,false,true⟩ (iq (.h c::dI tx)):=IR.reads rfl (fun d hd=>by
          rcases a2r.1 hd with e0|e0
          .cases e0;exact⟨.inr p1.2,gV p2⟩
          .exact vK hr hx hz hs e0) fun j hj=>by
           rcases a2r.1 hj with e0|e0
           .cases e0
           .exact oH e0
         by_cases hn:rows=[]
         .have qJ:l2=[]:=by rcases Gi with h1|h1;exact h1;exact absurd hn h1
          subst hn;subst qJ;obtain⟨m1,f1,f2,f3,f4⟩:=push_empty hr is (k:=true) (ex:=false) hz h0 (.inl p1) p2 (by simpa using p5);exact⟨_,ts.heap,_,m1,by unfold kH;simp only[vT,Ko,hint,a3U,zQ,s1,a4H,a2y,a2V],f1,f4,f2,f3,hk0,fun c hc=>by simp[iq]at hc⟩
         .have hle:¬l2.length+rows.length<=l2.length:=by
           have:rows.length≠0:=fun e0=>hn (hrn.1 e0);omega
          have hw1:eF X P (FA A m is) (bW is m) ts.heap t' l2 ((cs.drop off).take (l2.length*size)) 0 size:=by
           have hh:eF X P (AA A m) m ts.heap t' l2 cs off size:=⟨p8,p5,p9⟩;exact(hh.take.mono fun c hc=>.inl hc).jf hX
          have hlen:((cs.drop off).take (l2.length*size)).length=l2.length*size:=by rw[a4b,a3Y];omega
          obtain⟨m1,f1,f2,f3,f4⟩:=qC hr is (k:=true) (ex:=false) (x:=false) (hw1.app s3 hlen) (by rw[a1s,a1s,a3k,hlen,s2]) (by simp[hn]) hz h0 (by simp);refine⟨_,ts.heap++[.cells .own ((cs.drop off).take (l2.length*size)++new)],_,m1,?_,f1,f4,f2,f3,hk3,fun c hc=>by simp[iq]at hc⟩;have oz:fH size ts.heap (.slc c off l2.length l2.length size true)=some (l2.length,(cs.drop off).take (l2.length*size)):=by
           simp only[fH,a2y,sub];by_cases qJ:l2.length=0
           .rw[a0q qJ,qJ,abV,List.take_zero]
           .rw[a0p qJ,p2' (fun e0=>qJ (by rw[e0];rfl))];simp only;rw[a0q p5];rfl
          unfold kH;simp only[vT,Ko,hint,a3U,zQ,s1,a2V,hrn,hn,s2,a2y,hle,nS KY JV,oz,a1b,a1s]
       .cases hl
      .cases hl
     .cases hl
    .cases hl
   .cases hl
 .cases hl
end
open Go Tw
theorem WQ{α:Type}{l rows:List α}{o k:Nat}(h:o+k<=l.length)(hk:k<=rows.length):(Og l o k rows).length=l.length:=by
 unfold Og;simp;omega
theorem a2S{α:Type}{l rows:List α}{o:Nat}:Og l o 0 rows=l:=by unfold Og;simp
section
variable {X:kR} {P:Program} {A F:Nat->Prop} {m m':List MB} {h h':List HB} {H H':List (PB X.Γ)}
theorem eF.put{t sz o k:Nat}{l rows:List (X.Γ t)}{cs new:List TV}(h1:eF X P F m h t l cs 0 sz)(h2:eF X P F m h t rows new 0 sz)(hc:cs.length=l.length*sz)(hn:new.length=rows.length*sz)(ho:o+k<=l.length)(hk:k<=rows.length) :
  eF X P F m h t (Og l o k rows) (cs.take (o*sz)++new.take (k*sz)++cs.drop (o*sz+k*sz)) 0 sz:=by
 have a1:=(h1.part (o:=0) (n:=o) (by omega)).take;have a2:=(h2.part (o:=0) (n:=k) (by omega)).take;have a3:=(h1.part (o:=o+k) (n:=l.length-(o+k)) (by omega)).take;have l1:((l.drop 0).take o).length=o:=by simp;omega
 have l2:((rows.drop 0).take k).length=k:=by simp;omega
 have l3:((l.drop (o+k)).take (l.length-(o+k))).length=l.length-(o+k):=by simp
 rw[l1]at a1;rw[l2]at a2;rw[l3]at a3;simp only[abV,adv,a3Z,abu]at a1 a2 a3;have m1:o*sz<=cs.length:=by rw[hc];exact a3m _ (by omega)
 have m2:k*sz<=new.length:=by rw[hn];exact a3m _ hk
 have r:=(a1.app a2 (by rw[a4b,a4b];rw[a8m m1,a8m (by omega)])).app a3 (by
  simp only[a1s,a4b];rw[a8m m1,a8m m2,a8m (by omega),a8m hk,a3k])
 have e1:l.drop (o+k)=(l.drop (o+k)).take (l.length-(o+k)):=by rw[a8O (by simp)]
 have e2:cs.drop (o*sz+k*sz)=(cs.drop ((o+k)*sz)).take ((l.length-(o+k))*sz):=by
  rw[a3k,a8O];rw[a3Y,hc,Nat.sub_mul,a3k];omega
 unfold Og;rw[e1,e2];exact r
theorem Ec(hX:bM X P){ps:aS X.Γ}{ts:St}(hR:uP X P A m ps ts){at_:Array TypeId}{st e size b o n:Nat}{k0 ex:Bool}{l rows:List (X.Γ e)}{x:PV X.Γ}{td tx:TV}(vT:at_[0]? = some st)(zQ:jG P st=some (e,size))(hx:VR X P (AA A m) m ts.heap x tx)
  (hs:Af X ps.heap e size x=some (rows,[])) (hb:ps.heap[b]? = some (.list k0 ex e l)) {mb:MB} (g1:m[b]? = some mb) (g2:BR X P (AA A m) m ts.heap (.list k0 ex e l) mb)
  (htd:(∃c sz' xx' xx cap,mb=.dD (.slc c 0 l.length l.length sz' xx')∧l≠[]∧td=.slc c (o*sz') n cap sz' xx∧(n=0∨o+cap=l.length))∨(n=0∧(td=.nil .slc∨∃c f cap xx,td=.slc c f 0 cap size xx))) (hon:o+n<=l.length) (NM:isStr tx=false) :
  WO X P A m ts (Gg P at_ ts td tx) (.int .i64 ((min rows.length n:Nat):Int)) (ps.heap.set b (.list k0 ex e (Og l o (min rows.length n) rows))) ⟨⟨false,.h b::CX X x,[.h b]⟩,false,false,true⟩:=by
 have hr:=hR.heap;obtain⟨hz,h0⟩:=nT zQ;obtain⟨new,s1,s2,s3⟩:=Ut (m':=m) hX hr hx hz hs;have TY:eF X P (AA A m) m ts.heap e rows new 0 size:=s3.mono fun q hq=>by
  rcases hq with hq|⟨i,_,hi,_⟩
  .exact hq
  .simp at hi
 have kQ:IR m ts.heap ⟨⟨false,.h b::CX X x,[.h b]⟩,false,false,true⟩ (iq (dI tx)):=IR.reads rfl (fun d hd=>by
  obtain⟨h0,h9⟩:=vK hr hx hz hs hd;rcases h0 with⟨i,h1,h2⟩|h1
  .exact⟨.inl ⟨i,a3n _ h1,h2⟩,h9⟩
  .exact⟨.inr h1,h9⟩) fun j hj=>oH hj
 have same:ps.heap.set b (.list k0 ex e l)=ps.heap:=by
  apply a9w;intro i;by_cases e:b=i
  .subst e;rw[a1T (a0d.1 hb).1,hb]
  .rw[a1n e]
 by_cases hk:min rows.length n=0
 .rw[hk,a2S,same];refine⟨.int .i64 0,ts.heap,iq (dI tx),m,?_,hr,.int _ _,.refl,.refl,kQ,fun c hc=>by simp[iq]at hc⟩;unfold Gg;simp only[vT,zQ,s1,s2,NM,acU,a2y];rcases htd with⟨c,sz',xx',xx,cap,rfl,iE,rfl,wC⟩|⟨rfl,rfl|⟨c,f,cap,xx,rfl⟩⟩
  .have:sz'=size:=by cases g2 with|some _ q2 _ _ _ _ _ _ _=>rw[hz]at q2;cases q2;rfl|emp=>exact absurd rfl iE
   simp only[this,a2y,hk]
  .rfl
  .simp only[a2y,hk]
 .rcases htd with⟨c,sz',xx',xx,cap,rfl,iE,rfl,wC⟩|⟨rfl,_⟩
  .cases g2 with
   |emp=>exact absurd rfl iE
   |some p1 p2 p3 p4 p5 p6 p7 p8 p9=>
    rename_i kk cs;rw[hz]at p2;cases p2;obtain⟨Bo,xP,ae8,hko⟩:=J5 p5;have aia:o*size+cap*size=cs.length:=by
     have:=wC.resolve_left (by omega);rw[p8,<-this,a3k]
    have aQ:=(a0d.1 p4).1;have vJ:(MB.dD (TV.slc c 0 l.length l.length size xx')).own=some c:=by simp only[MB.own];rw[a0p (by simpa using p1)]
    have hkn:o+min rows.length n<=l.length:=(by omega);have hkr:min rows.length n<=rows.length:=Nat.min_le_left _ _;have m1:o*size+min rows.length n*size<=cs.length:=by rw[p8,<-a3k];exact a3m _ hkn
    have m2:min rows.length n*size<=new.length:=by rw[s2];exact a3m _ hkr
    have m3:min (min rows.length n*size) (rows.length*size)=min rows.length n*size:=a8m (by rw[<-s2];exact m2);have anY:=eF.put p9 TY p8 s2 hkn hkr;have qm:(cs.take (o*size)++new.take (min rows.length n*size)++cs.drop (o*size+min rows.length n*size)).length=cs.length:=by simp;omega
    have hl:=WQ (rows:=rows) hkn hkr;obtain⟨q1,q2⟩:=hr.set (i:=b) (c:=c) (pb:=.list k0 ex e (Og l o (min rows.length n) rows)) (hb:=.cells Bo (cs.take (o*size)++new.take (min rows.length n*size)++cs.drop (o*size+min rows.length n*size))) g1 vJ
     (fun WL JY=>⟨_,by simp only[aW];rw[a1T aQ],by
      simp only[aW,p4,a03]at JY;subst JY;rw[qm];exact a0w _⟩)
     (fun hF=>by
      have ahj:Og l o (min rows.length n) rows≠[]:=fun e0=>by rw[e0]at hl;simp at hl;exact p1 (a8d.1 hl.symm)
      have r:=LR.some (k:=k0) (ex:=ex) (e:=xx') ahj hz p3 (by rw[a1T aQ]) ae8 (fun e0=>hko (p6 e0)) p7 (by rw[qm,hl,p8]) (anY.step hF .refl);rw[hl]at r;exact r)
    refine⟨.int .i64 ((min rows.length n:Nat):Int),_,⟨false,.h c::dI tx,[.h c]⟩,m,?_,q1,.int _ _,q2,.refl,?_,fun d hd=>?_⟩
    .unfold Gg;simp only[vT,zQ,s1,s2,NM,acU,a2y,hk,a3U,a0Z p4 xP aia,vY,a4b,m3,m1,a1b]
    .refine⟨fun h=>(by cases h),fun k hk=>?_,fun k hk=>(by simp at hk),fun d hd=>?_,fun d hd=>?_,fun h=>(by cases h)⟩
     .rcases a2r.1 hk with e0|e0
      .cases e0
      .exact absurd e0 oH
     .simp at hd;subst hd;exact .inl ⟨b,a3l,iR g1 vJ⟩
     .rcases a2r.1 hd with e0|e0
      .cases e0;exact⟨.inl ⟨b,a3l,iR g1 vJ⟩,aQ⟩
      .obtain⟨h0,h9⟩:=vK hr hx hz hs e0;rcases h0 with⟨i,h1,h2⟩|h1
       .exact⟨.inl ⟨i,a3n _ h1,h2⟩,h9⟩
       .exact⟨.inr h1,h9⟩
    .simp at hd;subst hd;exact bf g1 vJ
  .simp at hk
theorem a5Q(hr:HR X P A m H h){e sz:Nat}{x:PV X.Γ}{tx:TV}(hv:VR X P (AA A m) m h x tx){rows:List (X.Γ e)}{is:List Nat}(hs:Af X H e sz x=some (rows,is)):isStr tx=false:=by
 cases hv with
 |own e' _=>
  unfold Af at hs;simp only at hs;split at hs
  .rename_i hb;obtain⟨mb,g1,g2⟩:=hr.at_ _ _ hb;rw[e']at g1;cases g1;cases g2<;>rfl
  cases hs
 |gone hi e' _=>
  cases x<;>simp only[bC,a03]at hi<;>first|cases hi|skip
  all_goals (unfold Af at hs;simp only at hs)
  all_goals first|(cases hs;done)|skip
  all_goals
   split at hs
   .rename_i hb;obtain⟨mb,g1,g2⟩:=hr.at_ _ _ hb;rw[g1]at e';cases e'<;>exact g2.elim
   .cases hs
 |str=>simp[Af]at hs
 |_=>rfl
theorem eF.vrs{t sz:Nat}:∀{l:List (X.Γ t)} {cs:List TV},eF X P F m h t l cs 0 sz->cs.length=l.length*sz->bZ X P F m h (Ez X t l) cs
 | [],cs,_,hl=>by
  have:cs=[]:=a8d.1 (by simpa using hl);subst this;exact .nil
 |a::r,cs,hw,hl=>by
  have h1:=hw.row (j:=0) (a:=a) rfl;have h2:=(hw.part (o:=1) (n:=r.length) (by simp;omega)).take;have e1:((a::r).drop 1).take r.length=r:=by simp
  rw[e1]at h2;have hl':cs.length=r.length*sz+sz:=by rw[hl,a4d,a3k,a9D]
  have e2:(cs.drop (0+1*sz)).take (r.length*sz)=cs.drop sz:=by
   rw[a3Z,a9D,a8O];rw[a3Y];omega
  rw[e2]at h2;have h3:=eF.vrs h2 (by rw[a3Y];omega);have h4:bZ X P F m h (X.enc t a) (cs.take sz):=by
   have:=h1.1;simpa using this
  have:=h4.app h3;rw[List.take_append_drop]at this;exact this
theorem U0(hX:bM X P){ps:aS X.Γ}{ts:St}(hR:uP X P A m ps ts){at_:Array TypeId}{d x:PV X.Γ}{td tx:TV}(hd:VR X P (AA A m) m ts.heap d td)(hx:VR X P (AA A m) m ts.heap x tx){v:PV X.Γ}{H1:List (PB X.Γ)}{pi:lZ}
  (hl:a5w X P at_ ps.heap d x=some (v,H1,pi)):WO X P A m ts (Gg P at_ ts td tx) v H1 ⟨pi,false,false,true⟩:=by
 have hr:=hR.heap;unfold a5w at hl;split at hl
 .rename_i st vT;split at hl
  .rename_i e size zQ;obtain⟨hz,h0⟩:=nT zQ;split at hl
   .rename_i rows hs;obtain⟨new,s1,s2,s3⟩:=Ut (m':=m) hX hr hx hz hs;have NM:isStr tx=false:=a5Q hr hx hs;split at hl
    .simp only[a03,a0u]at hl;obtain⟨rfl,rfl,rfl⟩:=hl;have:td=.nil .slc:=by
      cases hd with
      |nil=>rfl
      |gone hi _ _=>simp[bC]at hi
     subst this;exact⟨_,ts.heap,_,m,by unfold Gg;simp only[vT,zQ,s1,s2,NM,acU,a2y],hr,.int _ _,.refl,.refl,IR.reads rfl (fun b hb=>vK hr hx hz hs hb) fun k=>oH,fun b hb=>by simp[iq]at hb⟩
    .rename_i b;split at hl
     .rename_i k0 ex t' l hb;split at hl
      .rename_i l2 Ox;obtain⟨rfl,rfl⟩:=uy Ox;simp only[a03,a0u]at hl;obtain⟨rfl,rfl,rfl⟩:=hl;obtain⟨mb,g1,g2⟩:=hr.at_ b _ hb;refine Ec (o:=0) (n:=l2.length) hX hR vT zQ hx hs hb g1 g2 ?_ (by omega) NM;cases hd with
       |gone hi e' _=>simp only[bC,a03]at hi;subst hi;rw[g1]at e';cases e'<;>exact g2.elim
       |own e' o=>
        rw[g1]at e';cases e';cases g2 with
        |nil=>exact .inr ⟨rfl,.inl rfl⟩
        |emp q1 q2 q3 q4 q5=>rw[hz]at q4;cases q4;exact .inr ⟨rfl,.inr ⟨_,_,_,_,rfl⟩⟩
        |some q1 q2=>rw[hz]at q2;cases q2;exact .inl ⟨_,_,_,_,_,rfl,q1,by rw[abV],.inr (a3Z _)⟩
      .cases hl
     .cases hl
    .rename_i b o n;split at hl
     .rename_i k0 ex t' l hb;split at hl
      .rename_i l2 Ox;obtain⟨rfl,rfl⟩:=uy Ox;simp only[a03,a0u]at hl;obtain⟨rfl,rfl,rfl⟩:=hl;obtain⟨mb,g1,g2⟩:=hr.at_ b _ hb;cases hd with
       |gone hi e' _=>simp only[bC,a03]at hi;subst hi;rw[g1]at e';cases e'<;>exact g2.elim
       |win e' o1 o2 o3=>
        rw[g1]at e';cases e';cases g2 with
        |emp q1 q2 q3 q4 q5=>
         rw[hz]at q4;cases q4;have:n=0:=(by omega);subst this;exact Ec hX hR vT zQ hx hs hb g1 (LR.emp q1 q2 q3 hz q5) (.inr ⟨rfl,.inr ⟨_,_,_,_,rfl⟩⟩) o1 NM
        |some q1 q2 q3 q4 q5 q6 q7 q8 q9=>exact Ec hX hR vT zQ hx hs hb g1 (LR.some q1 q2 q3 q4 q5 q6 q7 q8 q9) (.inl ⟨_,_,_,_,_,rfl,q1,by rw[a3Z],o3⟩) o1 NM
       |Ah e'=>
        rw[g1]at e';cases e';exact Ec hX hR vT zQ hx hs hb g1 g2 (.inr ⟨rfl,.inl rfl⟩) (by omega) NM
      .cases hl
     .cases hl
    .rename_i b off len cap sz xx;split at hl
     .rename_i cs hb;split at hl
      .rename_i hc;obtain⟨hc1,JY⟩:=hc;subst hc1;simp only[a0f,a0u]at hl;obtain⟨MC,h1,rfl,rfl,rfl⟩:=hl;obtain⟨mb,g1,g2⟩:=hr.at_ b _ hb;cases mb with
       |gy c=>
        obtain⟨cs',g3,g4⟩:=g2;cases hd with
        |gone hi e _=>simp only[bC,a03]at hi;subst hi;rw[g1]at e;cases e
        |slc e=>
         rw[g1]at e;cases e;have TY:eF X P (AA A m) m ts.heap _ rows new 0 sz:=s3.mono fun q hq=>by
          rcases hq with hq|⟨i,_,hi,_⟩
          .exact hq
          .simp at hi
         have hv:=(TY.vrs s2).take (min rows.length len*sz);obtain⟨J7,g5,g6⟩:=GZ g4 hv h1;have hlen:J7.length=cs'.length:=by
          unfold vY at g5;split at g5
          .cases g5;simp only[a1s,a4b,a3Y]at *;omega
          .cases g5
         have aQ:=(a0d.1 g3).1;obtain⟨hr1,hF⟩:=hr.set (pb:=.cells MC) (hb:=.cells .own J7) g1 (c:=c) rfl (fun WL WM=>⟨J7,by simp[aW,aQ],by
          simp only[aW,g3,a03]at WM;subst WM;omega⟩) fun hF=>⟨J7,by simp[aQ],g6.step hF .refl⟩
         refine⟨.int .i64 ((min rows.length len:Nat):Int),_,⟨false,.h c::dI tx,[.h c]⟩,m,?_,hr1,.int _ _,hF,.refl,?_,fun d hd=>?_⟩
         .unfold Gg;simp only[vT,zQ,s1,s2,NM,acU,a2y];rw[a0p (by omega),WG g3,g5];rfl
         .refine⟨fun h=>(by cases h),fun k hk=>?_,fun k hk=>(by simp at hk),fun d hd=>?_,fun d hd=>?_,fun h=>(by cases h)⟩
          .rcases a2r.1 hk with e0|e0
           .cases e0
           .exact absurd e0 oH
          .simp at hd;subst hd;exact .inl ⟨b,a3l,iR g1 rfl⟩
          .rcases a2r.1 hd with e0|e0
           .cases e0;exact⟨.inl ⟨b,a3l,iR g1 rfl⟩,aQ⟩
           .obtain⟨h0,h9⟩:=vK hr hx hz hs e0;rcases h0 with⟨i,h1,h2⟩|h1
            .exact⟨.inl ⟨i,a3n _ h1,h2⟩,h9⟩
            .exact⟨.inr h1,h9⟩
         .simp at hd;subst hd;exact bf g1 rfl
       |_=>exact g2.elim
      .cases hl
     .cases hl
    .cases hl
   .cases hl
  .cases hl
 .cases hl
end
open Go Tw
section
variable {X:kR} {P:Program} {A F:Nat->Prop} {m m':List MB} {h h':List HB} {H H':List (PB X.Γ)}
theorem VPs.qw{ps:List (Nat×PV X.Γ)}{qs:List (Nat×TV)}(hp:VPs X P A m h ps qs):qs.all (fun p=>p.2.cells.all iU)=ps.all fun p=>p.2.cells.all Zb:=by
 induction ps generalizing qs with
 |nil=>
  have:=hp.1;cases qs with
  |nil=>rfl
  |cons=>simp at this
 |cons a ps ih=>
  obtain⟨x,r,rfl,h1,h2⟩:=hp.inv;simp only[abM,Ea (GY h1),ih h2]
theorem WR{pl:Nat->Option (Nat×Nat)}:∀{qs:List (Nat×TV)} {xs r:List TV},rZ pl xs qs=some r->r.length=xs.length
 | [],xs,r,h=>by simp only[rZ,a03]at h;rw[h]
 |(i,v)::qs,xs,r,h=>by
  simp only[rZ]at h;split at h
  .split at h
   .split at h
    .rename_i cs' ho;rw[WR h];unfold vY at ho;split at ho
     .cases ho;simp only[a1s,a4b,a3Y];omega
     cases ho
    cases h
   cases h
  cases h
theorem o8{z:List TV}:∀n,(times z n).length=n*z.length
 | 0=>by simp[times]
 |n+1=>by simp[times,o8 n,a3k];omega
theorem tZ(hX:bM X P){ps:aS X.Γ}{ts:St}(hR:uP X P A m ps ts){t:TypeId}{len:Nat}{vs:List (Nat×PV X.Γ)}{xs:List (Nat×TV)}(hv:VPs X P (AA A m) m ts.heap vs xs){v:PV X.Γ}{H1:List (PB X.Γ)}
  {raw:Bool} (hl:xZ X P t len ps.heap vs raw=some (v,H1)):WO X P A m ts ((qA P t len ts xs).map fun(v,s)=>(v,s,cZ)) v H1 xG:=by
 have hr:=hR.heap;unfold xZ at hl;split at hl
 .rename_i e n zQ;obtain⟨hz,h0⟩:=nT zQ;split at hl
  .rename_i hc;split at hl
   .rename_i z hzz;obtain⟨z',q1,q2⟩:=H6 (A:=AA A m) (m:=m) (h:=ts.heap) hzz;split at hl
    .rename_i Yp;split at hl
     .rename_i cs hf;obtain⟨cs',q3,q4⟩:=Mc hv (WH q2 len) hf;have hlen:cs'.length=len*n:=(by rw[WR q3,o8,<-q2.1,Yp]);have hT:∀w h1,(w,h1)=(TV.slc ts.heap.length 0 len len n true,ts.heap++[HB.cells .own cs'])->(qA P t len ts xs).map (fun(v,s)=>(v,s,cZ))=some (w,{ ts with heap:=h1 },cZ):=by
       intro w h1 e0;cases e0;simp only[qA,zQ,hv.qw,hc,acU,a2y,q1,<-q2.1,Yp,q3,a1b]
      split at hl
      .rename_i rows is hd;cases hl;have hd:xY X ps.heap e n len cs=some (rows,is):=by
        split at hd
        .cases hd
        .exact hd
       obtain⟨e1,hw⟩:=Am (m':=bW is m) hX hr q4 hd;by_cases hn:rows=[]
       .subst hn;have e2:len=0:=(by simpa using e1.symm);subst e2;have QY:cs'=[]:=a8d.1 (by omega);subst QY;have He:HR X P A (bW is m++[.dD (.slc ts.heap.length 0 0 0 n true)]) (aZ is ps.heap++[.list true true e []]) (ts.heap++[.cells .own []])∧_:=(hr.aZ is).push (pb:=.list true true e []) (hb:=.cells .own []) (mb:=.dD (.slc ts.heap.length 0 0 0 n true)) (.inr rfl)
         (LR.emp (b:=ts.heap.length) (cs:=[]) ⟨hr.up _ (a0w _),fun hm=>by
          rw[jc,a2Y,kM]at hm;simp[MB.own]at hm;have:=(hr.aZ is).inb hm;omega⟩ (by simp[aW]) (a0w _) hz h0)
        have Qr:=iC (h:=ts.heap) is m;refine⟨_,_,_,_,hT _ _ rfl,He.1,.own ?_ rfl,Qr.1.trans He.2.1,Qr.2.trans He.2.2,.none,fun b hb=>by cases hb⟩;rw[<-hr.len,<-mO is m];simp
       .have He:=qC hr is (k:=true) (ex:=true) (x:=true) hw (by rw[hlen,e1]) hn hz h0 (by simp);obtain⟨m1,g1,g2,g3,g4⟩:=He;refine⟨_,_,_,m1,hT _ _ rfl,g1,?_,g2,g3,.none,fun b hb=>by cases hb⟩;rw[e1]at g4;exact g4
      .cases hl;have hp:=hr.push (pb:=.cells cs) (hb:=.cells .own cs') (mb:=.gy ts.heap.length) (.inl rfl) ⟨cs',by simp,q4.step (by
        refine⟨by simp,fun b hb _=>by rw[a0k hb],fun b hb=>?_,fun b cs hc=>⟨cs,by rw[fV (a0k (gV hc)),hc],a0w _⟩⟩;rw[jc,a2Y,kM]at hb;rcases hb with hb|hb
        .exact .inl hb
        .simp[MB.own]at hb;exact .inr (by omega)) (wM _)⟩
       exact⟨_,_,_,_,hT _ _ rfl,hp.1,.slc (by rw[<-hr.len];simp),hp.2.1,hp.2.2,.none,fun b hb=>by cases hb⟩
     .cases hl
    .cases hl
   .cases hl
  .cases hl
 .cases hl
theorem Oy{k:IntKind}{n:Int}{x:TV}(hv:VR X P A m h (.int k n) x):x=.int k n:=by
 cases hv with
 |int=>rfl
 |gone hi _ _=>simp[bC]at hi
theorem WS{t sz:Nat}{a:X.Γ t}{z:List TV}(ha:bZ X P F m h (X.enc t a) z)(hz:z.length=sz):∀n,eF X P F m h t (List.replicate n a) (times z n) 0 sz
 | 0=>⟨fun j a hj=>by simp at hj,by simp,fun j a i c v hj=>by simp at hj⟩
 |n+1=>by
  have h1:eF X P F m h t [a] z 0 sz:=by
   refine⟨fun j b hj=>?_,by simp[hz],fun j b i c v hj hi hx=>?_⟩
   .cases j with
    |zero=>simp only[a2Q,a03]at hj;subst hj;rw[ha.1,hz]
    |succ j=>simp at hj
   cases j with
   |zero=>simp only[a2Q,a03]at hj;subst hj;exact ha.2 i c v hi (by simpa using hx)
   |succ j=>simp at hj
  have:=h1.app (WS ha hz n) (by simp[hz]);simpa[adG,times]using this
theorem zZ(hX:bM X P){ps:aS X.Γ}{ts:St}(hR:uP X P A m ps ts){t:TypeId}{l c:PV X.Γ}{tl tc:TV}(hvl:VR X P (AA A m) m ts.heap l tl)(hvc:VR X P (AA A m) m ts.heap c tc){v:PV X.Γ}{H1:List (PB X.Γ)}{qs:List Prop}
  (hl:FM X P t ps.heap l c=some (v,H1,qs)) (hq:∀q∈qs,q):WO X P A m ts ((sG P t ts tl tc).map fun(v,s)=>(v,s,cZ)) v H1 xG:=by
 have hr:=hR.heap;unfold FM at hl;split at hl
 .rename_i e n kl li kc ci zQ;obtain⟨hz,h0⟩:=nT zQ;rw[Oy hvl,Oy hvc];split at hl
  .rename_i KY;split at hl
   .rename_i z hzz;obtain⟨z',q1,q2⟩:=H6 (A:=AA A m) (m:=m) (h:=ts.heap) hzz;split at hl
    .rename_i Yp;split at hl
     .rename_i a ha;cases hl;have e1:li=ci:=hq _ (by simp);have e2:0<=li:=hq _ (by simp);have e3:li<=(ah:Nat):=hq _ (by simp);subst e1;have hm:li.toNat<=ah:=(by omega);have hm2:ah=2^20:=rfl;have hz2:z'.length=n:=by rw[<-q2.1];exact Yp
      have hT:∀w h1,(w,h1)=(TV.slc ts.heap.length 0 li.toNat li.toNat n true,ts.heap++[HB.cells .own (times z' li.toNat)])->(sG P t ts (.int kl li) (.int kc li)).map (fun(v,s)=>(v,s,cZ))=some (w,{ ts with heap:=h1 },cZ):=by
       intro w h1 e0;cases e0;have hN:∀k,a2i (.int k li)=some li.toNat:=fun k=>by
        have h9:li<=2^40:=by
         have:((2^20:Nat):Int)<=2^40:=(by decide);rw[hm2]at e3;omega
        simp only[a2i];rw[a0q ⟨e2,h9⟩]
       simp only[sG,zQ,hN,a0w,true_and,nS KY hm,a2y,q1,hz2,a1b]
      have yF:=WS (m:=m) (h:=ts.heap) (F:=AA A m) (hX.dec ha q2) hz2 li.toNat;have hlen:(times z' li.toNat).length=li.toNat*n:=(by rw[o8,hz2]);by_cases hn:li.toNat=0
      .rw[hn]at hT ⊢;simp only[List.replicate_zero];have He:=hr.push (pb:=.list true true e []) (hb:=.cells .own (times z' 0)) (mb:=.dD (.slc ts.heap.length 0 0 0 n true)) (.inr rfl)
         (LR.emp (b:=ts.heap.length) (cs:=times z' 0) ⟨hr.up _ (a0w _),fun hm=>by
          rw[jc,a2Y,kM]at hm;simp[MB.own]at hm;have:=hr.inb hm;omega⟩ (by simp[aW]) (a4C _) hz h0)
       exact⟨_,_,_,_,hT _ _ rfl,He.1,.own (by rw[<-hr.len];simp) rfl,He.2.1,He.2.2,.none,fun b hb=>by cases hb⟩
      .obtain⟨m1,g1,g2,g3,g4⟩:=qC hr [] (k:=true) (ex:=true) (x:=true) (rows:=List.replicate li.toNat a) (yF.mono fun b hb=>.inl hb) (by rw[a7w];exact hlen) (by intro e0;exact hn (by simpa using congrArg List.length e0)) hz h0 (by simp);refine⟨_,_,_,m1,hT _ _ rfl,g1,?_,g2,g3,.none,fun b hb=>by cases hb⟩;rw[a7w]at g4;exact g4
     .cases hl
    .cases hl
   .cases hl
  .cases hl
 .cases hl
end
open Go Tw
section
variable {X:kR} {P:Program} {A F:Nat->Prop} {m m':List MB} {h h':List HB} {H H':List (PB X.Γ)}
theorem Aq{o:Option (PV X.Γ)}{to:Option TV}(ho:OR X P A m h o to){d n:Nat}{a:Int}(he:yY X d o=some a)(h0:0<=a)(h1:a<=n):jw n d to=some a.toNat:=by
 cases o with
 |none=>
  cases to with
  |none=>simp only[yY,a03]at he;subst he;simp[jw]
  |some=>exact ho.elim
 |some v=>
  cases to with
  |none=>exact ho.elim
  |some x=>
   cases v<;>simp only[yY]at he<;>try (cases he;done)
   cases he;rw[Oy ho];simp only[jw,qM];rw[a0q ⟨h0,h1⟩]
theorem Oz{k:IntKind}{n:Int}{to:Option TV}(ho:OR X P A m h (some (.int k n)) to):to=some (.int k n):=by
 cases to with
 |none=>exact ho.elim
 |some x=>rw[Oy ho]
theorem qY{to:Option TV}(ho:OR X P A m h none to):to=none:=by
 cases to with
 |none=>rfl
 |some x=>exact ho.elim
theorem MF{v:PV X.Γ}{to:Option TV}(ho:OR X P A m h (some v) to):∃x,to=some x:=by
 cases to with
 |none=>exact ho.elim
 |some x=>exact⟨x,rfl⟩
theorem aeb{t e:TypeId}{b off len cap sz:Nat}{ex:Bool}(hu:P.underlying t=some (.slice e))(hz:dG P e=some sz){lo hi:Option (PV X.Γ)}{Qs Qu:Option TV}(h1:OR X P A m h lo Qs)(h2:OR X P A m h hi Qu){a z:Int}(e1:yY X 0 lo=some a)(e2:yY X len hi=some z)
  (q0:0<=a) (q1:a<=z) (q2:z<=len):qN P t (.slc b off len cap sz ex) Qs Qu none=some (.slc b (off+a.toNat*sz) (z.toNat-a.toNat) (cap-a.toNat) sz ex):=by
 have g1:=Aq h1 e1 (n:=z.toNat) q0 (by omega);have g2:=Aq h2 e2 (n:=len) (by omega) q2;simp only[qN,hu,hz,a2y,g2,g1]
theorem a9u{t e:TypeId}{b off len cap sz:Nat}{ex:Bool}(hu:P.underlying t=some (.slice e))(hz:dG P e=some sz){lo hi:Option (PV X.Γ)}{Qs Qu:Option TV}(h1:OR X P A m h lo Qs)(h2:OR X P A m h hi Qu){a z:Int}(e1:yY X 0 lo=some a)(e2:yY X len hi=some z)(hs:hi.isSome)
  (q0:0<=a) (q1:a<=z) (q2:z<=len) (wC:len<=cap) {k:IntKind}:qN P t (.slc b off len cap sz ex) Qs Qu (some (.int k z))=some (.slc b (off+a.toNat*sz) (z.toNat-a.toNat) (z.toNat-a.toNat) sz true):=by
 have g1:=Aq h1 e1 (n:=z.toNat) q0 (by omega);obtain⟨hv,rfl⟩:=a5v.1 hs;obtain⟨x,rfl⟩:=MF h2;have g3:qM cap (.int k z)=some z.toNat:=by simp only[qM];rw[a0q (by omega)]
 have g2:qM (min z.toNat len) x=some z.toNat:=by
  cases hv<;>simp only[yY]at e2<;>try (cases e2;done)
  cases e2;rw[Oy (show VR X P A m h _ x from h2)];simp only[qM];rw[a0q (by omega)]
 simp only[qN,hu,hz,a2y,g3,g2,g1]
theorem Zp{t e:TypeId}{sz:Nat}(hu:P.underlying t=some (.slice e))(hz:dG P e=some sz){lo hi:Option (PV X.Γ)}{Qs Qu:Option TV}(h1:OR X P A m h lo Qs)(h2:OR X P A m h hi Qu){a z:Int}(e1:yY X 0 lo=some a)(e2:yY X 0 hi=some z)(q0:a=0)(q1:z=0) :
  qN P t (.nil .slc) Qs Qu none=some (.nil .slc)∧∀{k:IntKind},hi.isSome->qN P t (.nil .slc) Qs Qu (some (.int k 0))=some (.nil .slc):=by
 subst q0;subst q1;have g1:=Aq h1 e1 (n:=0) (by omega) (by omega);have g2:=Aq h2 e2 (n:=0) (by omega) (by omega);have g0:jw 0 0 none=some 0:=rfl;refine⟨by simp only[qN,hu,hz,g0,g1,g2];rfl,fun{k} hs=>?_⟩;obtain⟨hv,rfl⟩:=a5v.1 hs;obtain⟨x,rfl⟩:=MF h2;have g3:jw 0 0 (some (.int k 0))=some 0:=rfl;simp only[qN,hu,hz,g1,g2,g3] ;rfl
theorem NG{ps:aS X.Γ}{ts:St}(hR:uP X P A m ps ts){t:TypeId}{x:PV X.Γ}{tx:TV}(hx:VR X P (AA A m) m ts.heap x tx){lo hi mx:Option (PV X.Γ)}{Qs Qu tmx:Option TV}(h1:OR X P (AA A m) m ts.heap lo Qs)(h2:OR X P (AA A m) m ts.heap hi Qu)(h3:OR X P (AA A m) m ts.heap mx tmx){v:PV X.Γ}{qs:List Prop}
  (hl:Zf X P t ps.heap x lo hi mx=some (v,qs)) (hq:∀q∈qs,q):∃w,qN P t tx Qs Qu tmx=some w∧VR X P (AA A m) m ts.heap v w:=by
 have hr:=hR.heap;unfold Zf at hl;split at hl
 .rename_i e t' l fu hu;split at hl
  .rename_i n a z hz e1 e2;split at hl
   .rename_i ht;subst ht;cases hl;have q0:0<=a:=hq _ (by simp);have q1:a<=z:=hq _ (by simp);have q2:z<=(l.length:Nat):=hq _ (by simp);rw[qY h3,agU];cases hx with
    |oD=>
     have ea:a=0:=by simp at q2;omega
     have ez:z=0:=by simp at q2;omega
     exact⟨_,(Zp hu hz h1 h2 e1 e2 ea ez).1,by simp only[List.drop_nil,List.take_nil];exact .oD⟩
    |dD p1 p2 p2' p3 p4 p5 p6 p7 p8 p9=>
     rw[hz]at p3;cases p3;exact⟨_,aeb hu hz h1 h2 e1 e2 q0 q1 q2,(VR.dD p1 p2 p2' hz p4 p5 p6 p7 p8 p9).part (by omega) (by omega) (.inr (by omega)) (by simp)⟩
    |gone hi _ _=>simp[bC]at hi
   .cases hl
  .rename_i n a z k mv hz e1 e2;split at hl
   .rename_i ht;obtain⟨ht,Bq⟩:=ht;subst ht;split at hl
    .rename_i hfu;subst hfu;cases hl;have q0:a=0:=hq _ (by simp);have q2:z=(l.length:Nat):=hq _ (by simp);have q3:mv=z:=hq _ (by simp);subst q3;subst q0;rw[Oz h3];cases hx with
     |oD=>
      have ez:mv=0:=(by simpa using q2);have:=(Zp hu hz h1 h2 e1 e2 rfl ez).2 (k:=k) Bq;exact⟨_,by rw[<-ez]at this;exact this,.oD⟩
     |dD p1 p2 p2' p3 p4 p5 p6 p7 p8 p9=>
      rw[hz]at p3;cases p3;obtain⟨p7a,p7b⟩:=p7 rfl;subst p7a;subst p7b;refine⟨_,a9u hu hz h1 h2 e1 e2 Bq (a9m 0) (by omega) (by omega) p6,?_⟩;subst q2;have:=VR.dD (fu:=true) p1 p2 p2' hz p4 p5 (a0w _) (fun _=>⟨rfl,rfl⟩) p8 p9;simpa using this
     |gone hi _ _=>simp[bC]at hi
    cases hl;have q0:0<=a:=hq _ (by simp);have q1:a<=z:=hq _ (by simp);have q2:z<=(l.length:Nat):=hq _ (by simp);have q3:mv=z:=hq _ (by simp);have q4:a=z:=hq _ (by simp);subst q3;rw[Oz h3,agU];cases hx with
    |oD=>
     have ea:a=0:=by simp at q2;omega
     have ez:mv=0:=by simp at q2;omega
     have:=(Zp hu hz h1 h2 e1 e2 ea ez).2 (k:=k) Bq;rw[<-ez]at this;exact⟨_,this,by simp only[List.drop_nil,List.take_nil];exact .oD⟩
    |dD p1 p2 p2' p3 p4 p5 p6 p7 p8 p9=>
     rw[hz]at p3;cases p3;exact⟨_,a9u hu hz h1 h2 e1 e2 Bq q0 q1 q2 p6,(VR.dD p1 p2 p2' hz p4 p5 p6 p7 p8 p9).part (by omega) (by omega) (.inl (by omega)) (by simp)⟩
    |gone hi _ _=>simp[bC]at hi
   .cases hl
  .cases hl
 .rename_i e i hu;split at hl
  .rename_i kk ex t' l hb;obtain⟨mb,g1,g2⟩:=hr.at_ i _ hb;cases mb with
   |dD y=>
    cases hx with
    |gone hi e' _=>simp only[bC,a03]at hi;subst hi;rw[g1]at e';cases e'
    |own e' o=>
     rw[g1]at e';cases e';have hlr:LR X P (AA A m) m ts.heap kk ex t' l tx:=g2;split at hl
     .rename_i n a z hz e1 e2;split at hl
      .rename_i ht;subst ht;cases hl;have q0:0<=a:=hq _ (by simp);have q1:a<=z:=hq _ (by simp);have q2:z<=(l.length:Nat):=hq _ (by simp);rw[qY h3];cases hlr with
       |nil=>
        have ea:a=0:=by simp at q2;omega
        have ez:z=0:=by simp at q2;omega
        refine⟨_,(Zp hu hz h1 h2 e1 e2 ea ez).1,?_⟩;subst ea;subst ez;exact .Ah g1
       |emp p0 p1 p2 p3 p4=>
        rw[hz]at p3;cases p3;exact⟨_,aeb (len:=0) hu hz h1 h2 e1 e2 q0 q1 q2,.win g1 (by simp at q2;omega) (by simp at q2;omega) (.inl (by simp at q2;omega))⟩
       |some p1 p2 p3 p4 p5 p6 p7 p8 p9=>
        rw[hz]at p2;cases p2;exact⟨_,aeb hu hz h1 h2 e1 e2 q0 q1 q2,.win g1 (by omega) (by omega) (.inr (by omega))⟩
      .cases hl
     .rename_i n a z k mv hz e1 e2;split at hl
      .rename_i ht;obtain⟨ht,Bq⟩:=ht;subst ht;cases hl;have q0:0<=a:=hq _ (by simp);have q1:a<=z:=hq _ (by simp);have q2:z<=(l.length:Nat):=hq _ (by simp);have q3:mv=z:=hq _ (by simp);have q4:a=z:=hq _ (by simp);subst q3;rw[Oz h3];cases hlr with
       |nil=>
        have ea:a=0:=by simp at q2;omega
        have ez:mv=0:=by simp at q2;omega
        have:=(Zp hu hz h1 h2 e1 e2 ea ez).2 (k:=k) Bq;rw[<-ez]at this;refine⟨_,this,?_⟩;subst ea;subst ez;exact .Ah g1
       |emp p0 p1 p2 p3 p4=>
        rw[hz]at p3;cases p3;exact⟨_,a9u (len:=0) hu hz h1 h2 e1 e2 Bq q0 q1 q2 (a0w _),.win g1 (by simp at q2;omega) (by omega) (.inl (by omega))⟩
       |some p1 p2 p3 p4 p5 p6 p7 p8 p9=>
        rw[hz]at p2;cases p2;exact⟨_,a9u hu hz h1 h2 e1 e2 Bq q0 q1 q2 (a0w _),.win g1 (by omega) (by omega) (.inl (by omega))⟩
      .cases hl
     .cases hl
   |_=>exact g2.elim
  .cases hl
 .rename_i e hu;have:tx=.nil .slc:=by
   cases hx with
   |nil=>rfl
   |gone hi _ _=>simp[bC]at hi
  subst this;split at hl
  .rename_i n a z hz e1 e2;cases hl;have q0:a=0:=hq _ (by simp);have q1:z=0:=hq _ (by simp);rw[qY h3];exact⟨_,(Zp hu hz h1 h2 e1 e2 q0 q1).1,.nil _⟩
  .rename_i n a z k mv hz e1 e2;split at hl
   .rename_i Bq;cases hl;have q0:a=0:=hq _ (by simp);have q1:z=0:=hq _ (by simp);have q2:mv=0:=hq _ (by simp);subst q2;rw[Oz h3];exact⟨_,(Zp hu hz h1 h2 e1 e2 q0 q1).2 Bq,.nil _⟩
   .cases hl
  .cases hl
 .cases hl
theorem CB(hX:bM X P){ps:aS X.Γ}{ts:St}(hR:uP X P A m ps ts){t:TypeId}{x:PE X.Γ}{ex:EV}(hx:Iy X P (AA A m) m ts.heap x ex){lo hi mx:Option (PV X.Γ)}{Qs Qu tmx:Option TV}(h1:OR X P (AA A m) m ts.heap lo Qs)(h2:OR X P (AA A m) m ts.heap hi Qu)(h3:OR X P (AA A m) m ts.heap mx tmx){v:PV X.Γ}{H1:List (PB X.Γ)}{qs:List Prop}
  (hl:IZ X P t ps.heap x lo hi mx=some (v,H1,qs)) (hq:∀q∈qs,q):WO X P A m ts ((qy P t ex Qs Qu tmx).map fun v=>(v,ts,cZ)) v H1 xG:=by
 have hr:=hR.heap;unfold IZ at hl;split at hl
 .rename_i n e b off lim hu;split at hl
  .rename_i size hz;split at hl
   .cases hl
   .rename_i KX;split at hl
    .cases hl
    .rw[qY h3];obtain⟨y,rfl,hy⟩:=fZ hx;split at hl
     .split at hl
      .rename_i cs hb;cases hl;rw[qY h1,qY h2];obtain⟨mb,g1,g2⟩:=hr.at_ b _ hb;cases mb with
       |gy c=>
        cases hy with
        |gone hi e' _=>simp only[bC,a03]at hi;subst hi;rw[g1]at e';cases e'
        |ptr e'=>
         rw[g1]at e';cases e';exact⟨.slc c off n n size true,ts.heap,cZ,m,by simp[qy,hu,hz,KX,jw],hr,.slc g1,.refl,.refl,.none,fun d hd=>by cases hd⟩
       |_=>exact g2.elim
      .cases hl
     .rename_i YG vZ _;split at hl
      .rename_i cs a z hb e1 e2;split at hl
       .cases hl
       rename_i ae6;split at hl
       .rename_i rows is hd;cases hl;have q0:0<=a:=hq _ (by simp);have q1:a<=z:=hq _ (by simp);have q2:z<=(n:Nat):=hq _ (by simp);obtain⟨mb,g1,g2⟩:=hr.at_ b _ hb;cases mb with
        |gy c=>
         obtain⟨cs',g3,g4⟩:=g2;cases hy with
         |gone hi e' _=>simp only[bC,a03]at hi;subst hi;rw[g1]at e';cases e'
         |ptr e'=>
          rw[g1]at e';cases e';have f1:=Aq h1 e1 (n:=z.toNat) q0 (by omega);have f2:=Aq h2 e2 (n:=n) (by omega) q2;obtain⟨w1,w2⟩:=Am (m':=bW (b::is) m) hX hr (g4.drop off) hd;have w3:=w2.2.1;rw[a3Y]at w3;have hgo:=hr.aZ (b::is);have Qr:=iC (h:=ts.heap) (b::is) m;have hnc:AA A (bW (b::is) m) c:=by
           refine FA.gone hr (.inr ⟨b,_,a3l,g1,rfl⟩)
          refine⟨.slc c (off+a.toNat*size) (z.toNat-a.toNat) (n-a.toNat) size true,ts.heap,cZ,bW (b::is) m,?_,hgo,?_,Qr.1,Qr.2,.none,fun d hd=>by cases hd⟩
          .have f0:jw n n none=some n:=rfl;simp only[qy,hu,hz,KX,a3U,f0,f2,f1,Option.isSome_none,Bool.false_and,a2V,a1b]
          .rw[agU];have aib:VR X P (AA A (bW (b::is) m)) (bW (b::is) m) ts.heap (.dD e rows false) (.slc c off rows.length n size true):=by
            refine .dD hnc (by unfold aW;rw[g3]) (fun _=>wL g3 (by simp)) hz (by omega) ?_ (by omega) (by simp) w2.1 (fun j y i d v hj hi hx=>?_)
            .rw[w1,<-g4.1];omega
            .refine(w2.2.2 j y i d v hj hi ?_).mono fun q hq=>FA.gone hr (FA.mono (fun i hi=>a3n _ hi) hq);rw[a4j,<-hx];congr 1;omega
           exact aib.part (by omega) (by omega) (.inr (by omega)) (by simp)
        |_=>exact g2.elim
       .cases hl
      .cases hl
  .cases hl
 .cases hl
theorem Uu{ps:aS X.Γ}{ts:St}(hR:uP X P A m ps ts){t:TypeId}{x:PE X.Γ}{ex:EV}(hx:Iy X P (AA A m) m ts.heap x ex){lo hi:Option (PV X.Γ)}{Qs Qu tmx:Option TV}(h1:OR X P (AA A m) m ts.heap lo Qs)(h2:OR X P (AA A m) m ts.heap hi Qu)(h3:OR X P (AA A m) m ts.heap none tmx){v:PV X.Γ}
  (hl:FN X P t ps.heap x lo hi=some v):WO X P A m ts ((qy P t ex Qs Qu tmx).map fun v=>(v,ts,cZ)) v ps.heap xG:=by
 have hr:=hR.heap;unfold FN at hl;split at hl
 .rename_i n e b off lim hu;split at hl
  .rename_i size cs a z hz hb e1 e2;split at hl
   .cases hl
   .rename_i KX;split at hl
    .rename_i hq;cases hl;rw[qY h3];obtain⟨y,rfl,hy⟩:=fZ hx;obtain⟨mb,g1,g2⟩:=hr.at_ b _ hb;cases mb with
     |gy c=>
      cases hy with
      |gone hi e' _=>simp only[bC,a03]at hi;subst hi;rw[g1]at e';cases e'
      |ptr e'=>
       rw[g1]at e';cases e';have f1:=Aq h1 e1 (n:=z.toNat) hq.1 (by omega);have f2:=Aq h2 e2 (n:=n) (by omega) hq.2.2;refine⟨.slc c (off+a.toNat*size) (z.toNat-a.toNat) (n-a.toNat) size true,ts.heap,cZ,m,?_,hr,.slc g1,.refl,.refl,.none,fun d hd=>by cases hd⟩;have f0:jw n n none=some n:=rfl;simp only[qy,hu,hz,KX,a3U,f0,f2,f1,Option.isSome_none,Bool.false_and,a2V,a1b]
     |_=>exact g2.elim
    .cases hl
  .cases hl
 .cases hl
end
open Go Tw
section
variable {X:kR} {P:Program} {A B F:Nat->Prop} {m m':List MB} {h h':List HB} {H H':List (PB X.Γ)}
theorem vU:∀{vs:List (PV X.Γ)} {i:Nat} {v:PV X.Γ},xE.GK vs=false->vs[i]? = some v->xE v=false
 | [],_,_,_,h=>by simp at h
 |a::vs,i,v,hc,h=>by
  simp only[xE.GK,a9o]at hc;cases i with
  |zero=>simp only[a2Q,a03]at h;subst h;exact hc.1
  |succ i=>exact vU hc.2 (by simpa using h)
theorem sQ{k:Nat}:∀{vs:List (PV X.Γ)} {i:Nat} {v:PV X.Γ},(shift.shifts k vs)[i]? = some v->∃u,vs[i]? = some u∧v=shift k u
 | [],_,_,h=>by simp[shift.shifts]at h
 |a::vs,i,v,h=>by
  cases i with
  |zero=>simp only[shift.shifts,a2Q,a03]at h;exact⟨a,rfl,h.symm⟩
  |succ i=>obtain⟨u,h1,h2⟩:=sQ (vs:=vs) (i:=i) (by simpa[shift.shifts]using h);exact⟨u,by simpa using h1,h2⟩
theorem sS{k:Nat}:∀{vs:List (PV X.Γ)},(shift.shifts k vs).length=vs.length
 | []=>rfl
 |a::vs=>by simp[shift.shifts,sS (vs:=vs)]
theorem Zq{k i:Nat}{v:PV X.Γ}(h:bC v=some i):bC (shift k v)=some (i+k):=by
 cases v<;>simp[bC]at h<;>subst h<;>rfl
theorem VR.shift(hX:bM X P){m0:List MB}{v:PV X.Γ}{x:TV}(hv:VR X P A m h v x)(hq:(∀b,A b->B b)∨xE v=false):VR X P B (m0++m) h (Pv.shift m0.length v) x:=by
 have at':∀{i:Nat} {mb:MB},m[i]? = some mb->(m0++m)[i+m0.length]? = some mb:=by
  intro i mb hi;rw[a1d (by omega)];simpa using hi
 induction hv with
 |bool=>exact .bool _
 |lit=>exact .lit _
 |int=>exact .int _ _
 |str=>exact .str _
 |nil=>exact .nil _
 |ptr e=>exact .ptr (at' e)
 |slc e=>exact .slc (at' e)
 |own e o=>exact .own (at' e) o
 |win e q q' q2=>exact .win (at' e) q q' q2
 |Ah e=>exact .Ah (at' e)
 |map e=>exact .map (at' e)
 |iter e=>exact .iter (at' e)
 |fn h1 _ h3 _ i2 i4=>
  refine .fn (by rw[sS,h1]) (fun i x y hx hy=>?_) (by rw[sS,h3]) (fun i x y hx hy=>?_)
  .obtain⟨u,g1,rfl⟩:=sQ hx;exact i2 i u y g1 hy (hq.imp_right fun hq=>by simp only[xE,a9o]at hq;exact vU hq.1 g1)
  obtain⟨u,g1,rfl⟩:=sQ hx;exact i4 i u y g1 hy (hq.imp_right fun hq=>by simp only[xE,a9o]at hq;exact vU hq.2 g1)
 |kW e=>exact .kW (at' e)
 |agg h1 _ i2=>
  refine .agg (by rw[sS,h1]) (fun i x y hx hy=>?_);obtain⟨u,g1,rfl⟩:=sQ hx;exact i2 i u y g1 hy (hq.imp_right fun hq=>by simp only[xE]at hq;exact vU hq g1)
 |dF h1 _ i2=>
  refine .dF (by rw[sS,h1]) (fun i x y hx hy=>?_);obtain⟨u,g1,rfl⟩:=sQ hx;exact i2 i u y g1 hy (hq.imp_right fun hq=>by simp only[xE]at hq;exact vU hq g1)
 |oD=>exact .oD
 |dD a c c2 s z o k f e r _=>
  rcases hq with hq|hq
  .exact .dD (hq _ a) c c2 s z o k f e fun j y i d v h1 h2 h3=>((r j y i d v h1 h2 h3).mono hq).jf hX (fD (hX.jf _ _) h2)
  simp[xE]at hq
 |el a c l o e q r _=>
  rcases hq with hq|hq
  .exact .el (hq _ a) c l o e q fun i d v h1 h2=>((r i d v h1 h2).mono hq).jf hX (fD (hX.jf _ _) h1)
  simp[xE]at hq
 |row e j q=>exact .row (at' e) j q
 | @gone v i x hi e o=>
  have e':(m0++m)[i+m0.length]? = m[i]?:=by rw[a1d (by omega)];congr 1;omega
  exact .gone (Zq hi) (by rw[e'];exact e.as fun c=>by cases v<;>rfl) o
theorem bZ.shift(hX:bM X P){m0:List MB}{v:List (PV X.Γ)}{x:List TV}(hv:bZ X P A m h v x)(hq:(∀b,A b->B b)∨xE.GK v=false):bZ X P B (m0++m) h (Pv.shift.shifts m0.length v) x:=by
 refine⟨by rw[sS,hv.1],fun i a b ha hb=>?_⟩;obtain⟨u,g1,rfl⟩:=sQ ha;exact(hv.2 i u b g1 hb).shift hX (hq.imp_right fun hq=>vU hq g1)
theorem BR.shift(hX:bM X P){m0:List MB}{b b':PB X.Γ}{mb:MB}(hb:BR X P A m h b mb)(hs:FI X m0.length b=some b')(hq:(∀c,A c->B c)∨hasB X b=false):BR X P B (m0++m) h b' mb:=by
 cases b with
 |cells cs=>
  cases mb with
  |gy c=>
   simp only[FI,a03]at hs;subst hs;obtain⟨cs',h1,h2⟩:=hb;exact⟨cs',h1,h2.shift hX hq⟩
  |_=>exact hb.elim
 |list k ex t l=>
  cases mb with
  |dD y=>
   simp only[FI,a03]at hs;subst hs;rcases hq with hq|hq
   .cases(hb:LR X P A m h k ex t l y)with
    |nil=>exact LR.nil
    |emp p0 p1 p2 p3 p4=>exact LR.emp (hq _ p0) p1 p2 p3 p4
    |some p1 p2 p3 p4 p5 p6 p7 p8 p9=>exact LR.some p1 p2 p3 p4 p5 p6 p7 p8 ((p9.mono hq).jf hX)
   simp[hasB]at hq
  |_=>exact hb.elim
 |gone=>
  cases mb with
  |gone=>simp only[FI,a03]at hs;subst hs;trivial
  |_=>exact hb.elim
 |_=>simp[FI]at hs
theorem Kw{k:Nat}:∀{bs bs':List (PB X.Γ)} {i:Nat} {b':PB X.Γ},qV X k bs=some bs'->bs'[i]? = some b'->∃b,bs[i]? = some b∧FI X k b=some b'
 | [],bs',i,b',h,hi=>by simp only[qV,a03]at h;subst h;simp at hi
 |b::bs,bs',i,b',h,hi=>by
  simp only[qV]at h;split at h
  .rename_i c cs h1 h2;cases h;cases i with
   |zero=>simp only[a2Q,a03]at hi;subst hi;exact⟨b,rfl,h1⟩
   |succ i=>obtain⟨d,g1,g2⟩:=Kw h2 (i:=i) (by simpa using hi);exact⟨d,by simpa using g1,g2⟩
  cases h
theorem Kz{k:Nat}:∀{bs bs':List (PB X.Γ)},qV X k bs=some bs'->bs'.length=bs.length
 | [],bs',h=>by simp only[qV,a03]at h;subst h;rfl
 |b::bs,bs',h=>by
  simp only[qV]at h;split at h
  .rename_i c cs h1 h2;cases h;simp[Kz h2]
  cases h
def nZ(X:kR)(P:Program)(call:aY)(f:FuncId)(vs:List (PV X.Γ))(v:PV X.Γ)(ext:List (PB X.Γ)):Prop:=
 ∀(A:Nat->Prop) (h:List HB) (first args cap:List TV),(∀b,h.length<=b->A b)->bZ X P A [] h vs (first++args++cap) ->
  ∃w h' m',call (.fn f first cap) args h=some (w,h',[])∧HR X P A m' ext h'∧VR X P (AA A m') m' h' v w∧Fr [] h m' h'
theorem Hf(hX:bM X P){call:aY}{f:FuncId}{first xs cap vs:List (PV X.Γ)}{v:PV X.Γ}{ext ext':List (PB X.Γ)}(hc:nZ X P call f vs v ext)(hr:HR X P A m H h)(hv:views H (first++xs++cap)=some vs)(hs:qV X H.length ext=some ext')
  {t1 t2 t3:List TV} (h1:bZ X P (AA A m) m h first t1) (h2:bZ X P (AA A m) m h xs t2) (h3:bZ X P (AA A m) m h cap t3) :
  ∃w h' m1,call (.fn f t1 t3) t2 h=some (w,h',[])∧HR X P A m1 ((if xE v||ext.any (hasB X)then aZ (kL.jY (first++xs++cap)) H else H)++ext') h'∧VR X P (AA A m1) m1 h' (shift H.length v) w∧Fr m h m1 h'∧Up m m1:=by
 have hvs:=lH (m':=[]) hX hr ((h1.app h2).app h3) hv (is:=kL.jY (first++xs++cap)) fun i hi=>hi;generalize kL.jY (first++xs++cap)=is at hvs ⊢;obtain⟨w,h',m',c1,c2,c3,c4⟩:=hc (fun b=>FA A m is b∨h.length<=b) h t1 t2 t3 (fun b hb=>.inr hb) (hvs.mono fun b hb=>.inl hb);have hold:∀b,b<h.length->h'[b]? = h[b]?:=fun b hb=>c4.same b hb (by simp[bD]);have gq:∀b,b∈bD m'->h.length<=b:=fun b hb=>by
  rcases c4.new b hb with h0|h0
  .simp[bD]at h0
  .exact h0
 have key:∀(m0:List MB) (H0:List (PB X.Γ)),HR X P A m0 H0 h->Fr m h m0 h->Up m m0->m0.length=H.length->((∀b,FA A m is b->AA A m0 b)∨(xE v||ext.any (hasB X))=false) ->
   ∃m1,HR X P A m1 (H0++ext') h'∧VR X P (AA A m1) m1 h' (shift H.length v) w∧Fr m h m1 h'∧Up m m1:=by
  intro m0 H0 Zr hF0 hU0 qJ hq;have hF:Fr m0 h (m0++m') h':=by
   refine⟨c4.len,fun b hb _=>hold b hb,fun b hb=>?_,fun b cs hc=>⟨cs,by rw[fV (hold b (gV hc)),hc],a0w _⟩⟩;rw[jc,a2Y]at hb;exact hb.imp_right fun hb=>gq b hb
  have hA:(∀b,AA (fun b=>FA A m is b∨h.length<=b) m' b->AA A (m0++m') b)∨(xE v||ext.any (hasB X))=false:=by
   refine hq.imp_left fun hq b hb=>?_;refine⟨?_,fun hm=>?_⟩
   .rcases hb.1 with h0|h0
    .exact(hq b h0).1
    .exact hr.up b h0
   .rw[jc,a2Y]at hm;rcases hm with hm|hm
    .rcases hb.1 with h0|h0
     .exact(hq b h0).2 hm
     .have:=Zr.inb hm;omega
    .exact hb.2 hm
  refine⟨m0++m',?_,?_,hF0.trans hF,hU0.trans (wM _)⟩
  .refine Zr.next hF (wM _) (by rw[a1s,a1s,Zr.len,Kz hs,c2.len]) ?_ fun i b hi=>?_
   .rw[jc];refine a8G.2 ⟨Zr.nodup,c2.nodup,fun a ha b hb e=>?_⟩;subst e;have:=Zr.inb ha;have:=gq a hb;omega
   .rcases a4h i H0.length with aQ|EJ
    .left;rw[a0k aQ]at hi;obtain⟨mb,g1,g2⟩:=Zr.at_ i b hi;exact⟨mb,hi,g1,by rw[a0k (by rw[Zr.len];exact aQ)];exact g1,fun c hc=>hold c (g2.has hc)⟩
    .right;rw[a1d EJ]at hi;obtain⟨b0,g1,g2⟩:=Kw hs hi;obtain⟨mb,g3,g4⟩:=c2.at_ _ _ g1;refine⟨mb,by rw[a1d (by rw[Zr.len];exact EJ),Zr.len];exact g3,?_⟩;rw[<-qJ]at g2;refine g4.shift hX g2 (hA.imp_right fun hq=>?_);simp only[a9o,List.any_eq_false]at hq;simpa using hq.2 b0 (a4s g1)
  .rw[<-qJ];exact c3.shift hX (hA.imp_right fun hq=>by simp only[a9o]at hq;exact hq.1)
 refine⟨w,h',?_⟩;by_cases hL:(xE v||ext.any (hasB X))=true
 .rw[a0q hL];obtain⟨m1,e1,e2,e3,e4⟩:=key (bW is m) (aZ is H) (hr.aZ is) (iC (h:=h) is m).1 (iC (h:=h) is m).2 (by rw[mO,hr.len]) (.inl fun b hb=>hb.gone hr);exact⟨m1,c1,e1,e2,e3,e4⟩
 .rw[a0p hL];obtain⟨m1,e1,e2,e3,e4⟩:=key m H hr .refl .refl hr.len (.inr (by simpa using hL));exact⟨m1,c1,e1,e2,e3,e4⟩
end
open Go Tw
section
variable {X:kR} {P:Program} {A B F:Nat->Prop} {m m':List MB} {h h':List HB} {H H':List (PB X.Γ)}
def aU(X:kR)(P:Program)(call:aY):a2O X.Γ:=fun fv xs H v H1=>
 ∀(A:Nat->Prop) (m:List MB) (h:List HB) (tf:TV) (qZ:List TV),HR X P A m H h->VR X P (AA A m) m h fv tf->bZ X P (AA A m) m h xs qZ ->
  ∃w h1 ws m1,call tf qZ h=some (w,h1,ws)∧HR X P A m1 H1 h1∧VR X P (AA A m1) m1 h1 v w∧Fr m h m1 h1∧Up m m1∧∀b∈ws,b∈bD m
def jF(X:kR)(P:Program)(call:aY)(fP:fA X.Γ):Prop:=∀f vs v ext ps,fP f vs=some (v,ext,ps)->(∀p∈ps,p)->nZ X P call f vs v ext
theorem uD{ρ:Type}{y:ρ}:∀{ps:List Prop} {x:OT ρ},(owe ps x).Ends y->(∀p∈ps,p)∧x.Ends y
 | [],x,h=>⟨by simp,h⟩
 |p::ps,x,h=>by
  have:=uD h.2;exact⟨fun q hq=>by rcases a2r.1 hq with rfl|hq;exact h.1;exact this.1 q hq,this.2⟩
theorem Zt{ρ:Type}{y:ρ}{u:PV X.Γ}{an:PT X.Γ}{k:Bool->PT X.Γ->OT ρ}(hk:(byB X u an k).Ends y){tu:TV}(hu:VR X P A m h u tu):∃t Hg,tu=.bool t∧(k t Hg).Ends y:=by
 cases u with
 |lit b=>
  have:tu=.bool b:=by
   cases hu with
   |lit=>rfl
   |gone hi _ _=>simp[bC]at hi
  exact⟨b,an,this,hk⟩
 |bool b=>
  have hb:tu=.bool b:=by
   cases hu with
   |bool=>rfl
   |gone hi _ _=>simp[bC]at hi
  subst hb;cases an with
  |s x z=>
   rcases hk with⟨h1,h2⟩|⟨h1,h2⟩
   .subst h1;exact⟨true,x,rfl,h2⟩
   subst h1;exact⟨false,z,rfl,h2⟩
  |a x r=>
   cases x with
   |br t=>obtain⟨h1,h2⟩:=hk;subst h1;exact⟨_,r,rfl,h2⟩
   |_=>exact hk.elim
  |_=>exact hk.elim
 |_=>exact hk.elim
theorem ru:∀{es:List (PV X.Γ×PV X.Γ)} {gu:List (TV×TV)} {ks:List TV},es.length=gu.length->(∀(i:Nat) x y,es[i]? = some x->gu[i]? = some y->VR X P A m h x.1 y.1∧VR X P A m h x.2 y.2)->uY X es=some ks->gu.map (·.1)=ks
 | [],gu,ks,hl,_,hk=>by
  simp only[uY,a03]at hk;subst hk;cases gu with
  |nil=>rfl
  |cons=>simp at hl
 |(k,v)::es,gu,ks,hl,he,hk=>by
  cases gu with
  |nil=>simp at hl
  |cons y gu=>
   simp only[uY]at hk;split at hk
   .rename_i a b h1 h2;cases hk;have:=jO (he 0 _ _ rfl rfl).1 h1;simp only[a4g,this];rw[ru (by simpa using hl) (fun i x z hx hz=>he (i+1) x z (by simpa using hx) (by simpa using hz)) h2]
   cases hk
theorem WT:∀{ks:List TV} {vs:List Value},BI ks=some vs->vs.length=ks.length
 | [],vs,h=>by simp only[BI,a03]at h;subst h;rfl
 |k::ks,vs,h=>by
  simp only[BI]at h;split at h
  .rename_i v ws _ h2;cases h;simp[WT h2]
  cases h
theorem pR{kt:TypeId}{k:Value}{gu:List (TV×TV)}:EG P kt k gu=uZ P kt k (gu.map (·.1)):=by
 unfold EG uZ;cases hv:BI (gu.map (·.1))with
 |none=>rfl
 |some vs=>
  have hl:=WT hv;have:gu.isEmpty=vs.isEmpty:=by
   cases gu<;>cases vs<;>simp at hl<;>rfl
  simp only[this]<;>rfl
def RU:TV->List Key
 |.map r=>[.h r]
 |_=>[]
def a2T(h:List HB):TV->Option (List (TV×TV))
 |.nil .map=>some []
 |.map r=>match h[r]? with
  |some (.map es)=>some es
  |_=>none
 |_=>none
theorem KA{t:TypeId}{h:List HB}{tm tk:TV}{ok:Bool}{kt e:TypeId}{kv:Value}{es:List (TV×TV)}(hu:P.underlying t=some (.map kt e))(hk:tk.yx=some kv)(he:a2T h tm=some es) :
  gZ P t h tm tk ok=match EG P kt kv es with
   |some (some i)=>match es[i]? with
    |some (_,v)=>some (if ok then .dF [v,.bool true]else v)
    |none=>none
   |some none=>match P.info? e with
    |some i=>match i.zero with
     |some z=>(TV.Vw z).map fun z=>if ok then .dF [z,.bool false]else z
     |none=>none
    |none=>none
   |none=>none:=by
 unfold gZ;simp only[hu,hk];cases tm with
 |nil k=>
  cases k<;>simp only[a2T]at he<;>try (cases he;done)
  cases he;rfl
 |map r=>
  simp only[a2T]at he;split at he
  .rename_i es0 hb;cases he;simp only[hb];rfl
  .cases he
 |_=>simp[a2T]at he
theorem D7{H:List (PB X.Γ)}{h:List HB}(hr:HR X P A m H h){r:Nat}{es:List (PV X.Γ×PV X.Γ)}(he:Ku X H r=some es):∃c gu,(m[r]? = some (.gy c)∨(m[r]? = some (.ji c)∧c∉bD m))∧h[c]? = some (.map gu)∧es.length=gu.length ∧
  ∀(i:Nat) x y,es[i]? = some x->gu[i]? = some y->qg x.1=some y.1∧qg x.2=some y.2:=by
 unfold Ku at he;split at he
 .rename_i es0 hb;cases he;obtain⟨mb,g1,g2⟩:=hr.at_ r _ hb;cases mb with
  |gy c=>obtain⟨gu,g3,g4,g5⟩:=g2;exact⟨c,gu,.inl g1,g3,g4,g5⟩
  |_=>exact g2.elim
 .rename_i es0 hb;cases he;obtain⟨mb,g1,g2⟩:=hr.at_ r _ hb;cases mb with
  |ji c=>obtain⟨g0,gu,g3,g4,g5⟩:=g2;exact⟨c,gu,.inr ⟨g1,g0⟩,g3,g4,g5⟩
  |_=>exact g2.elim
 .cases he
theorem a1c{B:Nat->Prop}{h:List HB}{r c:Nat}{tm:TV}(hm:VR X P B m h (.map r) tm)(hc:m[r]? = some (.gy c)∨(m[r]? = some (.ji c)∧c∉bD m)):tm=.map c:=by
 cases hm with
 |map e=>
  rcases hc with h|⟨h,_⟩<;>rw[h]at e<;>cases e
  rfl
 |gone hi e _=>
  simp only[bC,a03]at hi;subst hi;rcases hc with h|⟨h,_⟩<;>rw[h]at e
  .cases e
  cases e with
  |r c hv=>simp only[roV,a03]at hv;exact hv.symm
theorem RV{r c:Nat}{ks:List Key}(hc:m[r]? = some (.gy c)∨(m[r]? = some (.ji c)∧c∉bD m)):(∃i,Key.h i∈Key.h r::ks∧H8 m i c)∨c∉bD m:=by
 rcases hc with h|⟨_,h⟩
 .exact .inl ⟨r,by simp,iR h rfl⟩
 exact .inr h
theorem aec{ps:aS X.Γ}{ts:St}(hR:uP X P A m ps ts){mv:PV X.Γ}{tm:TV}(hm:VR X P (AA A m) m ts.heap mv tm){es:List (PV X.Γ×PV X.Γ)}(he:a5D X ps.heap mv=some es) :
  ∃gu,a2T ts.heap tm=some gu∧es.length=gu.length∧(∀(i:Nat) x y,es[i]? = some x->gu[i]? = some y->VR X P (AA A m) m ts.heap x.1 y.1∧VR X P (AA A m) m ts.heap x.2 y.2) ∧
   IR m ts.heap ⟨iq (RG X mv),false,false,true⟩ (iq (RU tm)):=by
 cases mv with
 |nil k=>
  cases hm with
  |nil=>
   cases k<;>simp only[a5D]at he<;>try (cases he;done)
   cases he;exact⟨[],rfl,rfl,fun i x y hx=>by simp at hx,IR.reads rfl (by simp[RU]) (by simp[RU])⟩
  |gone hi _ _=>simp[bC]at hi
 |map r=>
  simp only[a5D]at he;obtain⟨c,gu,g0,g3,g4,g5⟩:=D7 hR.heap he;have htm:=a1c hm g0;subst htm;refine⟨gu,by simp only[a2T,g3],g4,fun i x y e1 e2=>⟨nP (g5 i x y e1 e2).1,nP (g5 i x y e1 e2).2⟩,IR.reads rfl (fun b hb=>?_) (by simp[RU])⟩;simp[RU]at hb;subst hb;exact⟨RV g0,(a0d.1 g3).1⟩
 |_=>simp[a5D]at he
theorem MG{a b:PV X.Γ}{x y:TV}(h1:VR X P A m h a x)(h2:VR X P A m h b y):VR X P A m h (.dF [a,b]) (.dF [x,y]):=by
 have:=(bZ.nil (X:=X) (P:=P) (A:=A) (m:=m) (h:=h)).cons h2 |>.cons h1
 exact .dF this.1 this.2
theorem WU{e:TypeId}{z:PV X.Γ}(h:Ol X P e=some z):∃i z0 z1,P.info? e=some i∧i.zero=some z0∧TV.Vw z0=some z1∧Yt z1=some z:=by
 unfold Ol at h;split at h
 .rename_i i hi;split at h
  .rename_i z0 hz0;split at h
   .rename_i z1 hz1;exact⟨i,z0,z1,hi,hz0,hz1,h⟩
   cases h
  cases h
 cases h
theorem a9y{ρ:Type}{y:ρ}{ps:aS X.Γ}{ts:St}(hR:uP X P A m ps ts){t:TypeId}{mv kv:PV X.Γ}{tm tk:TV}(hm:VR X P (AA A m) m ts.heap mv tm)(hk:VR X P (AA A m) m ts.heap kv tk){ok:Bool}{an:PT X.Γ}{c:PE X.Γ->PI->PT X.Γ->OT ρ}
  (hl:(Zj X P t ps mv kv ok an c).Ends y):∃v pi Hg w,gZ P t ts.heap tm tk ok=some w∧VR X P (AA A m) m ts.heap v w∧(c (.val v) pi Hg).Ends y∧IR m ts.heap pi (iq (RU tm)):=by
 unfold Zj at hl;split at hl
 .rename_i kt e tk' es hu htk LD;have:=jO hk htk;subst this;obtain⟨gu,f1,f2,f3,f4⟩:=aec hR hm LD;have fnd:∀{xH ks j k0 v},tk.yx=some xH->uY X es=some ks->uZ P kt xH ks=some (some j)->es[j]? = some (k0,v)->∃w,gZ P t ts.heap tm tk ok=some w∧VR X P (AA A m) m ts.heap (if ok then .dF [v,.bool true]else v) w:=by
   intro xH ks j k0 v OA EL OB hj;have sD:=ru f2 f3 EL;have aQ:j<gu.length:=by rw[<-f2];exact(a0d.1 hj).1
   have DV:=a0g aQ;have hv:=(f3 j _ _ hj DV).2;refine⟨(if ok then .dF [gu[j].2,.bool true]else gu[j].2),?_,?_⟩
   .rw[KA hu OA f1];simp only[pR,sD,OB,DV]
   .cases ok with
    |true=>exact MG hv (.bool _)
    |false=>exact hv
  have non:∀{xH ks z},tk.yx=some xH->uY X es=some ks->uZ P kt xH ks=some none->Ol X P e=some z->∃w,gZ P t ts.heap tm tk ok=some w∧VR X P (AA A m) m ts.heap (if ok then .dF [z,.bool false]else z) w:=by
   intro xH ks z OA EL OB hz;have sD:=ru f2 f3 EL;obtain⟨i,z0,z1,hi,hz0,hz1,hz2⟩:=WU hz;refine⟨(if ok then .dF [z1,.bool false]else z1),?_,?_⟩
   .rw[KA hu OA f1];simp only[pR,sD,OB,hi,hz0,hz1,a1b]
   .cases ok with
    |true=>exact MG (wP hz2) (.bool _)
    |false=>exact wP hz2
  split at hl
  .obtain⟨⟨xH,ks,j,k0,g1,g2,g3,g4⟩,hl⟩:=hl;obtain⟨w,w1,w2⟩:=fnd g1 g2 g3 g4;exact⟨_,_,_,w,w1,w2,hl,f4⟩
  .split at hl
   .rename_i z hz;obtain⟨⟨xH,ks,g1,g2,g3⟩,hl⟩:=hl;obtain⟨w,w1,w2⟩:=non g1 g2 g3 hz;exact⟨_,_,_,w,w1,w2,hl,f4⟩
   .exact hl.elim
  .split at hl
   .rename_i z hz;obtain⟨⟨xH,ks,g1,g2,g3⟩,hl⟩:=hl;obtain⟨w,w1,w2⟩:=non g1 g2 g3 hz;exact⟨_,_,_,w,w1,w2,hl,f4⟩
   .exact hl.elim
  .split at hl
   .rename_i xH ks OA EL;split at hl
    .rename_i j r _ _;split at hl
     .rename_i k0 v hj;obtain⟨OB,hl⟩:=hl;obtain⟨w,w1,w2⟩:=fnd OA EL OB hj;exact⟨_,_,_,w,w1,w2,hl,f4⟩
     .exact hl.elim
    .split at hl
     .rename_i z hz;obtain⟨OB,hl⟩:=hl;obtain⟨w,w1,w2⟩:=non OA EL OB hz;exact⟨_,_,_,w,w1,w2,hl,f4⟩
     .exact hl.elim
    .exact hl.elim
   .exact hl.elim
 .exact hl.elim
theorem a2U{x:TV}{v:PV X.Γ}(h:ofC x=some v):qU v=some x:=by
 cases x<;>simp only[ofC,a03,reduceCtorEq]at h<;>subst h<;>rfl
theorem OC:∀{x:List TV} {v:List (PV X.Γ)},BZ x=some v->iK v=some x
 | [],v,h=>by cases h;rfl
 |a::l,v,h=>by
  simp only[BZ]at h;split at h
  .rename_i b bs h1 h2;cases h;simp only[iK,a2U h1,OC h2]
  cases h
theorem a9z{x:TV}{v:PV X.Γ}(h:Yt x=some v):qg v=some x:=by
 cases x
 case agg cs=>
  simp only[Yt,a0f]at h;obtain⟨w,h1,rfl⟩:=h;simp only[qg,OC h1,a1b]
 all_goals
  simp only[Yt,ofC,a03,reduceCtorEq]at h
  try subst h
  try rfl
theorem Zu{ps:aS X.Γ}{ts:St}(hR:uP X P A m ps ts){r cb:Nat}{es0:List (TV×TV)}(g1:m[r]? = some (.gy cb))(f1:ts.heap[cb]? = some (.map es0))(en:List (PV X.Γ×PV X.Γ))(en':List (TV×TV))(h1:en.length=en'.length)
  (h2:∀(i:Nat) x y,en[i]? = some x->en'[i]? = some y->qg x.1=some y.1∧qg x.2=some y.2) :
  uP X P A m { ps with heap:=ps.heap.set r (.map en) } { ts with heap:=ts.heap.set cb (.map en') }∧Fr m ts.heap m (ts.heap.set cb (.map en')):=by
 have aQ:=(a0d.1 f1).1;obtain⟨q1,q2⟩:=hR.heap.set (pb:=.map en) (hb:=.map en') g1 (c:=cb) rfl (fun cs hc=>by simp[aW,f1]at hc) fun hF=>⟨en',by simp[aQ],h1,h2⟩;exact⟨hR.step q1 q2 .refl,q2⟩
theorem RX{es:List (PV X.Γ×PV X.Γ)}{gu:List (TV×TV)}(f2:es.length=gu.length)(f3:∀(i:Nat) x y,es[i]? = some x->gu[i]? = some y->qg x.1=some y.1∧qg x.2=some y.2){k v:PV X.Γ}{tk tv:TV}(h1:qg k=some tk)(h2:qg v=some tv) :
  ∀(i:Nat) x y,(es++[(k,v)])[i]? = some x->(gu++[(tk,tv)])[i]? = some y->qg x.1=some y.1∧qg x.2=some y.2:=fun i a b ha qI=>by
 rcases a4h i es.length with aQ|EJ
 .rw[a0k aQ]at ha;rw[a0k (by rw[<-f2];exact aQ)]at qI;exact f3 i a b ha qI
 .rw[a1d EJ]at ha;rw[a1d (by rw[<-f2];exact EJ),<-f2]at qI;cases hx:i-es.length with
  |zero=>
   rw[hx]at ha qI;simp only[a2Q,a03]at ha qI;subst ha;subst qI;exact⟨h1,h2⟩
  |succ n=>rw[hx]at ha;simp at ha
theorem a5S{ps:aS X.Γ}{ts:St}(hR:uP X P A m ps ts){r:Nat}{es:List (PV X.Γ×PV X.Γ)}{tm:TV}(hb:ps.heap[r]? = some (.map es))(hm:VR X P (AA A m) m ts.heap (.map r) tm) :
  ∃cb gu,tm=.map cb∧m[r]? = some (.gy cb)∧ts.heap[cb]? = some (.map gu)∧es.length=gu.length∧∀(i:Nat) x y,es[i]? = some x->gu[i]? = some y->qg x.1=some y.1∧qg x.2=some y.2:=by
 obtain⟨mb,g1,g2⟩:=hR.heap.at_ r _ hb;cases mb with
 |gy cb=>
  obtain⟨gu,f1,f2,f3⟩:=g2;cases hm with
  |gone hi e' _=>simp only[bC,a03]at hi;subst hi;rw[g1]at e';cases e'
  |map e'=>rw[g1]at e';cases e';exact⟨cb,gu,rfl,g1,f1,f2,f3⟩
 |_=>exact g2.elim
theorem a9A{ρ:Type}{y:ρ}{ps:aS X.Γ}{ts:St}(hR:uP X P A m ps ts){t:TypeId}{mv kv:PV X.Γ}{tm tk:TV}(hm:VR X P (AA A m) m ts.heap mv tm)(hk:VR X P (AA A m) m ts.heap kv tk){an:PT X.Γ}{c:PE X.Γ->aS X.Γ->PI->PT X.Γ->OT ρ}
  (hl:(a5G X P t ps mv kv an c).Ends y):∃e e' ps1 pi Hg h1 ti,Cc P t ts tm tk=some (e',{ ts with heap:=h1 },ti)∧Iy X P (AA A m) m h1 e e'∧uP X P A m ps1 { ts with heap:=h1 }∧Fr m ts.heap m h1∧(c e ps1 pi Hg).Ends y∧IR m ts.heap pi ti∧∀b,.h b∈ti.ws->b∈bD m:=by
 unfold a5G at hl;split at hl
 .rename_i kt e tk' r hu htk;have:=jO hk htk;subst this;split at hl
  .rename_i es hb;obtain⟨cb,gu,rfl,g1,f1,f2,f3⟩:=a5S hR hb hm;have f3v:∀(i:Nat) x y,es[i]? = some x->gu[i]? = some y->VR X P (AA A m) m ts.heap x.1 y.1∧VR X P (AA A m) m ts.heap x.2 y.2:=fun i x y e1 e2=>⟨nP (f3 i x y e1 e2).1,nP (f3 i x y e1 e2).2⟩;have aQ:=(a0d.1 f1).1;split at hl
   .rename_i v _ j rest;split at hl
    case h_2=>exact hl.elim
    rename_i va vx;obtain⟨⟨xH,ks,old,ov,OA,c1,EL,c2,hj,hold,hov,c3⟩,hl⟩:=hl;have sD:=ru f2 f3v EL;have DV:j<gu.length:=by rw[<-f2];exact(a0d.1 hj).1
    have Vx:=a0g DV;have hy1:(gu[j]).1=old:=by
     have:(gu.map (·.1))[j]? = some (gu[j]).1:=by rw[a4q,Vx];rfl
     rw[sD,hold]at this;exact(a8V this).symm
    have htv:=(f3 j _ _ hj Vx).2;obtain⟨w1,w2⟩:=Zu hR g1 f1 es (gu.set j (tk,(gu[j]).2)) (by simp[f2]) fun i a b ha qI=>by
     by_cases e:j=i
     .subst e;rw[a4k,Vx]at qI;rw[hj]at ha;cases ha;cases qI;exact⟨htk,htv⟩
     .rw[a1n e]at qI;exact f3 i a b ha qI
    have Fq:ps.heap.set r (.map es)=ps.heap:=by
     refine a9w fun i=>?_;by_cases e:r=i
     .subst e;rw[a1T (a0d.1 hb).1,hb]
     .rw[a1n e]
    rw[Fq]at w1;refine⟨.ent r j (.int va vx),.ent cb j (gu[j]).2,_,_,_,_,pq (.h cb),?_,⟨.map g1,rfl,htv⟩,w1,w2,hl,.wrH (iR g1 rfl) aQ,fun b hb=>by simp[pq]at hb;subst hb;exact bf g1 rfl⟩;have VE:gu[j].1=tk:=by
     have:=(f3 j _ _ hj Vx).1;rw[htk]at this;exact(a8V this).symm
    have hv1:gu[j].2=.int va vx:=by
     have h9:some (TV.int va vx)=some (gu[j]).2:=htv;exact(a8V h9).symm
    have VQ:gu.set j (tk,(gu[j]).2)=gu:=by
     rw[show(tk,(gu[j]).2)=gu[j]from ad1 VE.symm rfl];exact List.set_getElem_self DV
    have hl1:gZ P t ts.heap (.map cb) tk false=some (.int va vx):=by
     unfold gZ;simp only[hu,OA,f1,pR,sD,c2,Vx,hv1,a2V,a3U]
    have hcb:ts.heap.set cb (.map gu)=ts.heap:=by
     refine a9w fun i=>?_;by_cases e:cb=i
     .subst e;rw[a1T aQ,f1]
     .rw[a1n e]
    have h0:zV P t ts (.map cb) tk=some (.ent cb j (gu[j]).2,{ ts with heap:=ts.heap.set cb (.map (gu.set j (tk,(gu[j]).2))) },pq (.h cb)):=by
     unfold zV;simp only[hu,OA,f1,c1,pR,sD,c2,Vx,hy1,hov,c3,a2y]
    unfold Cc;rw[h0];simp only[];rw[a0q];unfold a0e;rw[VQ,hcb,hl1];simp
   .split at hl
    .rename_i va vx hz;obtain⟨⟨xH,q1,c1⟩,⟨abS,ks,q2,EL,c2⟩,⟨arZ,ks2,q3,ao3,c4⟩,hl⟩:=hl;rw[q1]at q2;cases q2;rw[q1]at q3;cases q3;obtain⟨i,z0,z1,hi,hz0,hz1,hz2⟩:=WU hz;have sD:=ru f2 f3v EL;have hzt:=a9z hz2;obtain⟨w1,w2⟩:=Zu hR g1 f1 (es++[(kv,.int va vx)]) (gu++[(tk,z1)]) (by simp[f2]) (RX f2 f3 htk hzt);refine⟨.ent r es.length (.int va vx),.ent cb gu.length z1,_,_,_,_,pq (.h cb),?_,⟨.map g1,f2,hzt⟩,w1,w2,hl,.wrH (iR g1 rfl) aQ,fun b hb=>by simp[pq]at hb;subst hb;exact bf g1 rfl⟩;have hv1:z1=.int va vx:=by
      have h9:some (TV.int va vx)=some z1:=hzt;exact(a8V h9).symm
     have hl1:gZ P t ts.heap (.map cb) tk false=some (.int va vx):=by
      unfold gZ;simp only[hu,q1,f1,pR,sD,c2,hi,hz0,hz1,hv1,a1b,a2V,a3U]
     have aed:(gu++[(tk,z1)]).map (·.1)=ks2:=ru (P:=P) (A:=AA A m) (m:=m) (h:=ts.heap) (es:=es++[(kv,.int va vx)]) (by simp[f2]) (fun i x y e1 e2=>let ⟨a1,a2⟩:=RX f2 f3 htk hzt i x y e1 e2;⟨nP a1,nP a2⟩) ao3;have QK:gZ P t (ts.heap.set cb (.map (gu++[(tk,z1)]))) (.map cb) tk false=some (.int va vx):=by
      have e9:(gu++[(tk,z1)])[es.length]? = some (tk,z1):=by rw[f2];simp
      unfold gZ;simp only[hu,q1,a1T aQ,pR,aed,c4,e9,a2V,a3U];rw[hv1]
     have h0:zV P t ts (.map cb) tk=some (.ent cb gu.length z1,{ ts with heap:=ts.heap.set cb (.map (gu++[(tk,z1)])) },pq (.h cb)):=by
      unfold zV;simp only[hu,q1,f1,c1,pR,sD,c2,hi,hz0,hz1]
     unfold Cc;rw[h0];simp only[];rw[a0q];unfold a0e;rw[hl1,QK];simp
    .exact hl.elim
   .exact hl.elim
  .exact hl.elim
 .exact hl.elim
theorem a9C{ρ:Type}{y:ρ}{ps:aS X.Γ}{ts:St}(hR:uP X P A m ps ts){mv v:PV X.Γ}{e:PE X.Γ}{tm tv:TV}{e':EV}(hm:VR X P (AA A m) m ts.heap mv tm)(he:Iy X P (AA A m) m ts.heap e e')(hv:VR X P (AA A m) m ts.heap v tv){c:aS X.Γ->PI->OT ρ}
  (hl:(a5H X ps mv e v c).Ends y):∃ps1 pi h1 ti,Gh ts tm e' tv=some ({ ts with heap:=h1 },ti)∧uP X P A m ps1 { ts with heap:=h1 }∧Fr m ts.heap m h1∧(c ps1 pi).Ends y∧IR m ts.heap pi ti∧∀b,.h b∈ti.ws->b∈bD m:=by
 unfold a5H at hl;split at hl
 .rename_i r r' j tv' htv;have:=jO hv htv;subst this;split at hl
  .rename_i hrr;subst hrr;split at hl
   .rename_i es hb;obtain⟨hj,hl⟩:=hl;obtain⟨cb,gu,rfl,g1,f1,f2,f3⟩:=a5S hR hb hm;obtain⟨c',rfl,hm'⟩:=Me he;have hc:c'=cb:=by
     cases hm' with
     |gone hi e' _=>simp only[bC,a03]at hi;subst hi;rw[g1]at e';cases e'
     |map e'=>rw[g1]at e';cases e';rfl
    subst hc;have aQ:=(a0d.1 f1).1;have DV:j<gu.length:=by rw[<-f2];exact hj
    have Vx:=a0g DV;obtain⟨w1,w2⟩:=Zu hR g1 f1 (J4 es j v) (gu.set j ((gu[j]).1,tv)) (by unfold J4;simp[f2]) fun i a b ha qI=>by
     unfold J4 at ha;rw[adD]at ha;by_cases e:j=i
     .subst e;rw[a4k,Vx]at qI;simp only[a2y,a0g hj,Option.map_eq_map,a1b,a03]at ha;subst ha;cases qI;exact⟨(f3 j _ _ (a0g hj) Vx).1,htv⟩
     .rw[a1n e]at qI;have ha:es[i]? = some a:=(by simpa[e]using ha);exact f3 i a b ha qI
    refine⟨_,_,_,pq (.h c'),?_,w1,w2,hl,.wrH (iR g1 rfl) aQ,fun b hb=>by simp[pq]at hb;subst hb;exact bf g1 rfl⟩;unfold Gh;simp only[a2y,f1,Vx]
   .exact hl.elim
  .exact hl.elim
 .exact hl.elim
theorem a5U{ρ:Type}{y:ρ}{ps:aS X.Γ}{ts:St}(hR:uP X P A m ps ts){t:TypeId}{mv kv v:PV X.Γ}{tm tk tv:TV}(hm:VR X P (AA A m) m ts.heap mv tm)(hk:VR X P (AA A m) m ts.heap kv tk)(hv:VR X P (AA A m) m ts.heap v tv){an:PT X.Γ}{c:aS X.Γ->PI->PT X.Γ->OT ρ}
  (hl:(a5E X P t ps mv kv v an c).Ends y):∃ps1 pi Hg h1 ti,xJ P t ts tm tk tv=some ({ ts with heap:=h1 },ti)∧uP X P A m ps1 { ts with heap:=h1 }∧Fr m ts.heap m h1∧(c ps1 pi Hg).Ends y∧IR m ts.heap pi ti∧∀b,.h b∈ti.ws->b∈bD m:=by
 unfold a5E at hl;split at hl
 .rename_i kt e tk' r tv' hu htk htv;have:=jO hk htk;subst this;have:=jO hv htv;subst this;split at hl
  .rename_i es hb;obtain⟨mb,g1,g2⟩:=hR.heap.at_ r _ hb;cases mb with
   |gy cb=>
    obtain⟨gu,f1,f2,f3⟩:=g2;have f3v:∀(i:Nat) x y,es[i]? = some x->gu[i]? = some y->VR X P (AA A m) m ts.heap x.1 y.1∧VR X P (AA A m) m ts.heap x.2 y.2:=fun i x y e1 e2=>⟨nP (f3 i x y e1 e2).1,nP (f3 i x y e1 e2).2⟩;cases hm with
    |gone hi e' _=>simp only[bC,a03]at hi;subst hi;rw[g1]at e';cases e'
    |map e'=>
     rw[g1]at e';cases e';have aQ:=(a0d.1 f1).1;have wr:∀(en:List (PV X.Γ×PV X.Γ)) (en':List (TV×TV)),en.length=en'.length->(∀(i:Nat) x y,en[i]? = some x->en'[i]? = some y->qg x.1=some y.1∧qg x.2=some y.2) ->
       uP X P A m { ps with heap:=ps.heap.set r (.map en) } { ts with heap:=ts.heap.set cb (.map en') }∧Fr m ts.heap m (ts.heap.set cb (.map en')):=by
      intro en en' h1 h2;obtain⟨q1,q2⟩:=hR.heap.set (pb:=.map en) (hb:=.map en') g1 (c:=cb) rfl (fun cs hc=>by simp[aW,f1]at hc) fun hF=>⟨en',by simp[aQ],h1,h2⟩;exact⟨hR.step q1 q2 .refl,q2⟩
     have new:∀{xH ks},tk.yx=some xH->uY X es=some ks->aB P (Instr.checkKey false 10000 kt xH)=some ()->uZ P kt xH ks=some none ->
       xJ P t ts (.map cb) tk tv=some ({ ts with heap:=ts.heap.set cb (.map (gu++[(tk,tv)])) },pq (.h cb))∧uP X P A m { ps with heap:=ps.heap.set r (.map (es++[(kv,v)])) } { ts with heap:=ts.heap.set cb (.map (gu++[(tk,tv)])) }∧Fr m ts.heap m (ts.heap.set cb (.map (gu++[(tk,tv)]))):=by
      intro xH ks OA EL c1 c2;have sD:=ru f2 f3v EL;obtain⟨w1,w2⟩:=wr (es++[(kv,v)]) (gu++[(tk,tv)]) (by simp[f2]) fun i a b ha qI=>by
       rcases a4h i es.length with aQ|EJ
       .rw[a0k aQ]at ha;rw[a0k (by rw[<-f2];exact aQ)]at qI;exact f3 i a b ha qI
       .rw[a1d EJ]at ha;rw[a1d (by rw[<-f2];exact EJ),<-f2]at qI;cases hx:i-es.length with
        |zero=>
         rw[hx]at ha qI;simp only[a2Q,a03]at ha qI;subst ha;subst qI;exact⟨htk,htv⟩
        |succ n=>rw[hx]at ha;simp at ha
      refine⟨?_,w1,w2⟩;unfold xJ;simp only[hu,OA,f1,c1,pR,sD,c2]
     split at hl
     .obtain⟨⟨xH,q1,c1⟩,⟨abS,ks,q2,EL,c2⟩,hl⟩:=hl;rw[q1]at q2;cases q2;obtain⟨u1,u2,u3⟩:=new q1 EL c1 c2;exact⟨_,_,_,_,pq (.h cb),u1,u2,u3,hl,.wrH (iR g1 rfl) aQ,fun b hb=>by simp[pq]at hb;subst hb;exact bf g1 rfl⟩
     .obtain⟨⟨xH,q1,c1⟩,⟨abS,ks,q2,EL,c2⟩,hl⟩:=hl;rw[q1]at q2;cases q2;obtain⟨u1,u2,u3⟩:=new q1 EL c1 c2;exact⟨_,_,_,_,pq (.h cb),u1,u2,u3,hl,.wrH (iR g1 rfl) aQ,fun b hb=>by simp[pq]at hb;subst hb;exact bf g1 rfl⟩
     .obtain⟨⟨xH,ks,j,old,ov,OA,c1,EL,c2,hj,hold,hov,c3⟩,hl⟩:=hl;have sD:=ru f2 f3v EL;have DV:∃y0,gu[j]? = some y0:=by
       have:j<gu.length:=by rw[<-f2];exact(a0d.1 hj).1
       exact⟨_,a0g this⟩
      obtain⟨y0,Vx⟩:=DV;have hy1:y0.1=old:=by
       have:(gu.map (·.1))[j]? = some y0.1:=by rw[a4q,Vx];rfl
       rw[sD,hold]at this;exact(a8V this).symm
      obtain⟨w1,w2⟩:=wr es (gu.set j (tk,tv)) (by simp[f2]) fun i a b ha qI=>by
       by_cases e:j=i
       .subst e;rw[a4k]at qI;rw[hj]at ha;rw[Vx]at qI;cases ha;cases qI;exact⟨htk,htv⟩
       .rw[a1n e]at qI;exact f3 i a b ha qI
      have Fq:ps.heap.set r (.map es)=ps.heap:=by
       refine a9w fun i=>?_;by_cases e:r=i
       .subst e;rw[a1T (a0d.1 hb).1,hb]
       .rw[a1n e]
      rw[Fq]at w1;refine⟨_,_,_,_,pq (.h cb),?_,w1,w2,hl,.wrH (iR g1 rfl) aQ,fun b hb=>by simp[pq]at hb;subst hb;exact bf g1 rfl⟩;unfold xJ;simp only[hu,OA,f1,c1,pR,sD,c2,Vx,hy1,hov,c3,a2y]
     .split at hl
      .rename_i xH ks OA EL;have sD:=ru f2 f3v EL;split at hl
       .rename_i j rest _ _ _;split at hl
        .rename_i x0 old hj hold;split at hl
         .rename_i ov hov;obtain⟨c1,c2,c3,hl⟩:=hl;have DV:∃y0,gu[j]? = some y0:=by
           have:j<gu.length:=by rw[<-f2];exact(a0d.1 hj).1
           exact⟨_,a0g this⟩
          obtain⟨y0,Vx⟩:=DV;have hy1:y0.1=old:=by
           have:(gu.map (·.1))[j]? = some y0.1:=by rw[a4q,Vx];rfl
           rw[sD,hold]at this;exact(a8V this).symm
          obtain⟨w1,w2⟩:=wr (es.set j (kv,v)) (gu.set j (tk,tv)) (by simp[f2]) fun i a b ha qI=>by
           by_cases e:j=i
           .subst e;rw[a4k]at ha qI;rw[hj]at ha;rw[Vx]at qI;cases ha;cases qI;exact⟨htk,htv⟩
           .rw[a1n e]at ha qI;exact f3 i a b ha qI
          refine⟨_,_,_,_,pq (.h cb),?_,w1,w2,hl,.wrH (iR g1 rfl) aQ,fun b hb=>by simp[pq]at hb;subst hb;exact bf g1 rfl⟩;unfold xJ;simp only[hu,OA,f1,c1,pR,sD,c2,Vx,hy1,hov,c3,a2y]
         .exact hl.elim
        .exact hl.elim
       .obtain⟨c1,c2,hl⟩:=hl;obtain⟨u1,u2,u3⟩:=new OA EL c1 c2;exact⟨_,_,_,_,pq (.h cb),u1,u2,u3,hl,.wrH (iR g1 rfl) aQ,fun b hb=>by simp[pq]at hb;subst hb;exact bf g1 rfl⟩
       .exact hl.elim
      .exact hl.elim
   |_=>exact g2.elim
  .exact hl.elim
 .exact hl.elim
end
open Go Tw
theorem kN{m:List MB}{b:Nat}(h:b∈bD m):∃i,H8 m i b:=by
 obtain⟨mb,h1,h2⟩:=a7d.1 h;obtain⟨i,hi⟩:=a8C h1;exact⟨i,mb,hi,h2⟩
section
variable {X:kR} {P:Program} {A B:Nat->Prop} {m m1:List MB} {h:List HB} {g:Nat->Option Nat}
theorem jB:∀{m:List MB},(∀i j c,H8 m i c->H8 m j c->i=j)->(bD m).Nodup
 | [],_=>by simp[bD]
 |x::m,hu=>by
  have ih:(bD m).Nodup:=jB fun i j c h1 h2=>by
   have:=hu (i+1) (j+1) c (by obtain⟨mb,a,b⟩:=h1;exact⟨mb,by simpa using a,b⟩) (by obtain⟨mb,a,b⟩:=h2;exact⟨mb,by simpa using a,b⟩);omega
  unfold bD at ih ⊢;rw[a8Q];split
  .exact ih
  rename_i b hb;refine a4m.2 ⟨fun hm=>?_,ih⟩;obtain⟨i,mb,h1,h2⟩:=kN (m:=m) hm;have:=hu 0 (i+1) b ⟨x,rfl,hb⟩ ⟨mb,by simpa using h1,h2⟩;omega
theorem OD:∀{ks:List Nat} {i p:Nat},wJ ks i=some p->ks[p]? = some i
 | [],i,p,h=>by cases h
 |a::ks,i,p,h=>by
  simp only[wJ]at h;split at h
  .rename_i e;cases h;simp[e]
  simp only[a0f]at h;obtain⟨q,h1,rfl⟩:=h;simpa using OD h1
section
variable {g:Nat->Option Nat} {m1:List MB}
theorem Ed(hg:∀i j,g i=some j->m1[j]? = m[i]?){B:Nat->Prop}(hA:∀b,A b->B b)(hX:bM X P){v:PV X.Γ}{x:TV}(hv:VR X P A m h v x):∀{w:PV X.Γ},fQ g v=some w->VR X P B m1 h w x:=by
 have lists:∀{vs:List (PV X.Γ)} {xs:List TV},vs.length=xs.length->(∀(i:Nat) a b,vs[i]? = some a->xs[i]? = some b->∀{w:PV X.Γ},fQ g a=some w->VR X P B m1 h w b)->∀{ws:List (PV X.Γ)},fQ.oZ g vs=some ws->ws.length=xs.length∧∀(i:Nat) a b,ws[i]? = some a->xs[i]? = some b->VR X P B m1 h a b:=by
  intro vs
  induction vs with
  |nil=>
   intro xs hl _ ws hw;simp only[fQ.oZ,a03]at hw;subst hw;exact⟨hl,fun i a b ha=>by simp at ha⟩
  |cons v vs ih=>
   intro xs hl hh ws hw;cases xs with
   |nil=>simp at hl
   |cons x xs=>
    simp only[fQ.oZ]at hw;split at hw
    .rename_i w TQ h1 h2;cases hw;obtain⟨e1,e2⟩:=ih (xs:=xs) (by simpa using hl) (fun i a b ha hb=>hh (i+1) a b (by simpa using ha) (by simpa using hb)) h2;refine⟨by simp[e1],fun i a b ha hb=>?_⟩;cases i with
     |zero=>simp only[a2Q,a03]at ha hb;subst ha;subst hb;exact hh 0 v x rfl rfl h1
     |succ i=>exact e2 i a b (by simpa using ha) (by simpa using hb)
    cases hw
 induction hv with
 |bool=>intro w hw;simp only[fQ,a03]at hw;subst hw;exact .bool _
 |lit=>intro w hw;simp only[fQ,a03]at hw;subst hw;exact .lit _
 |int=>intro w hw;simp only[fQ,a03]at hw;subst hw;exact .int _ _
 |str=>intro w hw;simp only[fQ,a03]at hw;subst hw;exact .str _
 |nil=>intro w hw;simp only[fQ,a03]at hw;subst hw;exact .nil _
 |ptr e=>intro w hw;simp only[fQ,a0f]at hw;obtain⟨j,h1,rfl⟩:=hw;exact .ptr (by rw[hg _ _ h1];exact e)
 |slc e=>intro w hw;simp only[fQ,a0f]at hw;obtain⟨j,h1,rfl⟩:=hw;exact .slc (by rw[hg _ _ h1];exact e)
 |own e o=>intro w hw;simp only[fQ,a0f]at hw;obtain⟨j,h1,rfl⟩:=hw;exact .own (by rw[hg _ _ h1];exact e) o
 |win e q q' q2=>intro w hw;simp only[fQ,a0f]at hw;obtain⟨j,h1,rfl⟩:=hw;exact .win (by rw[hg _ _ h1];exact e) q q' q2
 |Ah e=>intro w hw;simp only[fQ,a0f]at hw;obtain⟨j,h1,rfl⟩:=hw;exact .Ah (by rw[hg _ _ h1];exact e)
 |map e=>intro w hw;simp only[fQ,a0f]at hw;obtain⟨j,h1,rfl⟩:=hw;exact .map (by rw[hg _ _ h1];exact e)
 |iter e=>intro w hw;simp only[fQ,a0f]at hw;obtain⟨j,h1,rfl⟩:=hw;exact .iter (by rw[hg _ _ h1];exact e)
 |kW e=>intro w hw;simp only[fQ,a0f]at hw;obtain⟨j,h1,rfl⟩:=hw;exact .kW (by rw[hg _ _ h1];exact e)
 |row e j q=>intro w hw;simp only[fQ,a0f]at hw;obtain⟨j,h1,rfl⟩:=hw;exact .row (by rw[hg _ _ h1];exact e) (by assumption) q
 |fn h1 _ h3 _ i2 i4=>
  intro w hw;simp only[fQ]at hw;split at hw
  .rename_i a c ha hc;cases hw;obtain⟨e1,e2⟩:=lists h1 i2 ha;obtain⟨e3,e4⟩:=lists h3 i4 hc;exact .fn e1 e2 e3 e4
  cases hw
 |agg h1 _ i2=>
  intro w hw;simp only[fQ,a0f]at hw;obtain⟨cs,hc,rfl⟩:=hw;obtain⟨e1,e2⟩:=lists h1 i2 hc;exact .agg e1 e2
 |dF h1 _ i2=>
  intro w hw;simp only[fQ,a0f]at hw;obtain⟨cs,hc,rfl⟩:=hw;obtain⟨e1,e2⟩:=lists h1 i2 hc;exact .dF e1 e2
 |oD=>intro w hw;simp only[fQ,a03]at hw;subst hw;exact .oD
 |dD a c c2 s z o k f e r _=>intro w hw;simp only[fQ,a03]at hw;subst hw;exact .dD (hA _ a) c c2 s z o k f e fun j y i d v h1 h2 h3=>((r j y i d v h1 h2 h3).mono hA).jf hX (fD (hX.jf _ _) h2)
 |el a c l o e q r _=>intro w hw;simp only[fQ,a03]at hw;subst hw;exact .el (hA _ a) c l o e q fun i d v h1 h2=>((r i d v h1 h2).mono hA).jf hX (fD (hX.jf _ _) h1)
 |gone i e o=>
  intro w hw;rename_i v _ x;have:∃j,bC w=some j∧D5 w x m1[j]?:=by
   cases v<;>simp[bC]at i<;>subst i<;>simp only[fQ,a0f]at hw<;>obtain⟨j,h1,rfl⟩:=hw<;>exact⟨j,rfl,by rw[hg _ _ h1];exact e.as fun c=>rfl⟩
  obtain⟨j,h1,h2⟩:=this;exact .gone h1 h2 o
variable {B:Nat->Prop}
theorem zi(hX:bM X P)(hg:∀i j,g i=some j->m1[j]? = m[i]?)(hA:∀b,A b->B b):∀{vs:List (PV X.Γ)} {xs:List TV} {ws:List (PV X.Γ)},bZ X P A m h vs xs->fQ.oZ g vs=some ws->bZ X P B m1 h ws xs
 | [],xs,ws,hv,hw=>by simp only[fQ.oZ,a03]at hw;subst hw;rw[hv.inv0];exact .nil
 |v::vs,xs,ws,hv,hw=>by
  obtain⟨x,r,rfl,h1,h2⟩:=hv.inv;simp only[fQ.oZ]at hw;split at hw
  .rename_i w TQ g1 g2;cases hw;exact .cons (Ed hg hA hX h1 g1) (zi hX hg hA h2 g2)
  cases hw
theorem OE(hX:bM X P)(hg:∀i j,g i=some j->m1[j]? = m[i]?)(hA:∀b,A b->B b){env:List (Nat×PE X.Γ)}{env':List (Nat×EV)}(he:jV X P A m h env env'):∀{r:List (Nat×PE X.Γ)},oW g env=some r->jV X P B m1 h r env':=by
 induction he with
 |nil=>intro r h;simp only[oW,a03]at h;subst h;exact .nil
 |cons h1 h2 ih=>
  rename_i k v x q q';intro r hr;simp only[oW]at hr;split at hr
  rotate_left
  .cases hr
  rename_i w r' e1 e2;cases hr;refine .cons ?_ (ih e2);cases v with
  |val v=>
   obtain⟨y,rfl,h3⟩:=fZ h1;simp only[Oj,a0f]at e1;obtain⟨u,e3,rfl⟩:=e1;exact nR (Ed hg hA hX h3 e3)
  |loc a b=>simp only[Oj,a03]at e1;subst e1;rw[Eb h1];exact⟨rfl,rfl⟩
  |undef=>simp only[Oj,a03]at e1;subst e1;rw[J6 h1];trivial
  |ent r j v=>
   obtain⟨c,y,rfl,h3,h4⟩:=Md h1;simp only[Oj,a0f]at e1;obtain⟨u,e3,rfl⟩:=e1;exact⟨Ed hg hA hX h3 (w:=.map u) (by simp only[fQ,e3,a1b]),rfl,h4⟩
  |Et r j=>
   obtain⟨c,rfl,h3⟩:=Me h1;simp only[Oj,a0f]at e1;obtain⟨u,e3,rfl⟩:=e1;exact⟨Ed hg hA hX h3 (w:=.map u) (by simp only[fQ,e3,a1b]),rfl⟩
theorem Ee(hX:bM X P)(hg:∀i j,g i=some j->m1[j]? = m[i]?)(hA:∀b,A b->B b){b b':PB X.Γ}{mb:MB}(hn:∀c,mb=.ji c->c∉bD m->c∉bD m1)(hb:BR X P A m h b mb)(hr:yZ g b=some b'):BR X P B m1 h b' mb:=by
 cases b with
 |cells cs=>
  cases mb with
  |gy c=>
   simp only[yZ,a0f]at hr;obtain⟨cs',h1,rfl⟩:=hr;obtain⟨xs,h2,h3⟩:=hb;exact⟨xs,h2,zi hX hg hA h3 h1⟩
  |_=>exact hb.elim
 |aF cs=>
  cases mb with
  |ji c=>
   simp only[yZ,a0f]at hr;obtain⟨cs',h1,rfl⟩:=hr;obtain⟨h0,xs,h2,h3⟩:=hb;exact⟨hn c rfl h0,xs,h2,zi hX hg hA h3 h1⟩
  |_=>exact hb.elim
 |list k ex t l=>
  cases mb with
  |dD y=>
   simp only[yZ,a03]at hr;subst hr;cases(hb:LR X P A m h k ex t l y)with
   |nil=>exact LR.nil
   |emp p0 p1 p2 p3 p4=>exact LR.emp (hA _ p0) p1 p2 p3 p4
   |some p1 p2 p3 p4 p5 p6 p7 p8 p9=>exact LR.some p1 p2 p3 p4 p5 p6 p7 p8 ((p9.mono hA).jf hX)
  |_=>exact hb.elim
 |map es=>
  cases mb with
  |gy c=>
   simp only[yZ,a03]at hr;subst hr;exact hb
  |_=>exact hb.elim
 |mZ cs=>
  cases mb with
  |gy c=>
   simp only[yZ,a03]at hr;subst hr;exact hb
  |_=>exact hb.elim
 |iG es=>
  cases mb with
  |ji c=>
   simp only[yZ,a03]at hr;subst hr;exact⟨hn c rfl hb.1,hb.2⟩
  |_=>exact hb.elim
 |dn r n seen=>
  cases mb with
  |gy b=>
   simp only[yZ,a0f]at hr;obtain⟨j,h1,rfl⟩:=hr;obtain⟨c,h2,h3,h4⟩:=hb;exact⟨c,h2,by rw[hg _ _ h1];exact h3,fun c' hc=>h4 c' (by rw[<-hg _ _ h1];exact hc)⟩
  |_=>exact hb.elim
 |mark=>
  cases mb with
  |gy c=>simp only[yZ,a03]at hr;subst hr;exact hb
  |_=>exact hb.elim
 |loop rd f nt env ps a c jI=>
  cases mb with
  |gy cb=>
   simp only[yZ,a0f]at hr;obtain⟨aub,h1,rfl⟩:=hr;obtain⟨xs,h2,h3⟩:=hb;exact⟨xs,h2,OE hX hg hA h3 h1⟩
  |_=>exact hb.elim
 |gone=>
  cases mb with
  |gone=>simp only[yZ,a03]at hr;subst hr;trivial
  |_=>exact hb.elim
theorem sU:∀{bs r:List (PB X.Γ)},nM g bs=some r->r.length=bs.length∧∀{i:Nat} {b':PB X.Γ},r[i]? = some b'->∃b,bs[i]? = some b∧yZ g b=some b'
 | [],r,h=>by simp only[nM,a03]at h;subst h;exact⟨rfl,fun{i b'} hi=>by simp at hi⟩
 |b::bs,r,h=>by
  simp only[nM]at h;split at h
  .rename_i c cs h1 h2;cases h;obtain⟨e1,e2⟩:=sU h2;refine⟨by simp[e1],fun{i b'} hi=>?_⟩;cases i with
   |zero=>simp only[a2Q,a03]at hi;subst hi;exact⟨b,rfl,h1⟩
   |succ i=>obtain⟨d,q1,q2⟩:=e2 (i:=i) (by simpa using hi);exact⟨d,by simpa using q1,q2⟩
  cases h
theorem OG:∀{bs r:List (List (PV X.Γ))},WC g bs=some r->r.length=bs.length∧∀{i:Nat} {b':List (PV X.Γ)},r[i]? = some b'->∃b,bs[i]? = some b∧fQ.oZ g b=some b'
 | [],r,h=>by simp only[WC,a03]at h;subst h;exact⟨rfl,fun{i b'} hi=>by simp at hi⟩
 |b::bs,r,h=>by
  simp only[WC]at h;split at h
  .rename_i c cs h1 h2;cases h;obtain⟨e1,e2⟩:=OG h2;refine⟨by simp[e1],fun{i b'} hi=>?_⟩;cases i with
   |zero=>simp only[a2Q,a03]at hi;subst hi;exact⟨b,rfl,h1⟩
   |succ i=>obtain⟨d,q1,q2⟩:=e2 (i:=i) (by simpa using hi);exact⟨d,by simpa using q1,q2⟩
  cases h
theorem Ef:∀{ks:List Nat} {H r:List (PB X.Γ)},CY H ks=some r->r.length=ks.length∧∀{i k:Nat},ks[i]? = some k->∃b,H[k]? = some b∧r[i]? = some b
 | [],H,r,h=>by simp only[CY,a03]at h;subst h;exact⟨rfl,fun{i k} hi=>by simp at hi⟩
 |k::ks,H,r,h=>by
  simp only[CY]at h;split at h
  .rename_i b rs h1 h2;cases h;obtain⟨e1,e2⟩:=Ef h2;refine⟨by simp[e1],fun{i j} hi=>?_⟩;cases i with
   |zero=>simp only[a2Q,a03]at hi;subst hi;exact⟨b,h1,rfl⟩
   |succ i=>obtain⟨d,q1,q2⟩:=e2 (i:=i) (k:=j) (by simpa using hi);exact⟨d,q1,by simpa using q2⟩
  cases h
end
theorem sV{α:Type}:∀{ks:List Nat} {bs l:List α},(putAt ks bs l).length=l.length
 | [],_,_=>rfl
 |_::_,[],_=>rfl
 |k::ks,b::bs,l=>by simp only[putAt];rw[sV,a4n]
theorem OH{α:Type}:∀{ks:List Nat} {bs l:List α} {p i:Nat},ks.Nodup->(∀k∈ks,k<l.length)->ks.length<=bs.length->ks[p]? = some i->(putAt ks bs l)[i]? = bs[p]?
 | [],_,_,p,i,_,_,_,h=>by simp at h
 |a::ks,[],_,_,_,_,_,hl,_=>by simp at hl
 |a::ks,b::bs,l,0,i,hn,hk,hl,h=>by
  simp only[a2Q,a03]at h;subst h;have hn:=a4m.1 hn;simp only[putAt];have:∀{ks:List Nat} {bs l:List α} {i:Nat},i∉ks->(putAt ks bs l)[i]? = l[i]?:=by
   intro ks
   induction ks with
   |nil=>intro bs l i _;rfl
   |cons c ks ih=>
    intro bs l i hi;simp only[a2r,adn]at hi;cases bs with
    |nil=>rfl
    |cons b bs=>simp only[putAt];rw[ih hi.2,a1n (fun e=>hi.1 e.symm)]
  rw[this hn.1,a1T (hk a (a3l ..))];rfl
 |a::ks,b::bs,l,p+1,i,hn,hk,hl,h=>by
  simp only[a9r]at h;simp only[putAt];rw[OH (a4m.1 hn).2 (fun k o9=>by rw[a4n];exact hk k (a3n _ o9)) (by simpa using hl) h];rfl
theorem J8{α:Type}:∀{ks:List Nat} {bs l:List α} {i:Nat},i∉ks->(putAt ks bs l)[i]? = l[i]?
 | [],_,_,_,_=>rfl
 |a::ks,[],_,_,_=>rfl
 |a::ks,b::bs,l,i,hi=>by
  simp only[a2r,adn]at hi;simp only[putAt];rw[J8 hi.2,a1n (fun e=>hi.1 e.symm)]
def WV(X:kR)(P:Program)(call:aY)(fv:PV X.Γ)(xs:List (PV X.Γ))(H:List (PB X.Γ))(v:PV X.Γ)(H1:List (PB X.Γ))(W:Nat->Prop):Prop:=
 ∀(A:Nat->Prop) (m:List MB) (h:List HB) (tf:TV) (qZ:List TV),HR X P A m H h->VR X P (AA A m) m h fv tf->bZ X P (AA A m) m h xs qZ ->
  ∃w h1 ws m1,call tf qZ h=some (w,h1,ws)∧HR X P A m1 H1 h1∧VR X P (AA A m1) m1 h1 v w∧Fr m h m1 h1∧Up m m1∧∀b∈ws,∃k,W k∧H8 m k b
theorem aU.w{call:aY}{fv v:PV X.Γ}{xs:List (PV X.Γ)}{H H1:List (PB X.Γ)}(h:aU X P call fv xs H v H1):WV X P call fv xs H v H1 fun _=>True:=fun A m h0 tf qZ a b c=>by
 obtain⟨w,h1,ws,m1,c1,c2,c3,c4,c5,c6⟩:=h A m h0 tf qZ a b c;exact⟨w,h1,ws,m1,c1,c2,c3,c4,c5,fun b hb=>by obtain⟨i,hi⟩:=kN (c6 b hb);exact⟨i,trivial,hi⟩⟩
theorem MH:∀{H:List (PB X.Γ)} {i:Nat} {b:PB X.Γ},J3 H=true->H[i]? = some b->J3 [b]=true
 | [],_,_,_,h=>by simp at h
 |a::H,0,b,hn,h=>by
  simp only[a2Q,a03]at h;subst h;cases a<;>simp_all [J3]
 |a::H,i+1,b,hn,h=>by
  have DW:J3 H=true:=by cases a<;>simp_all [J3]
  exact MH DW (by simpa using h)
def SwM(m m':List MB):Prop:=∀i:Nat,m'[i]? = m[i]?∨(∃c,m[i]? = some (.gy c)∧m'[i]? = some (.ji c))∨∃c,m[i]? = some (.ji c)∧m'[i]? = some (.gy c)
section
variable {m':List MB}
theorem VR.sw(hm:SwM m m')(hA:∀b,A b->B b){v:PV X.Γ}{x:TV}(hv:VR X P A m h v x):VR X P B m' h v x:=by
 have hl:∀{i:Nat} {x:TV},m[i]? = some (.dD x)->m'[i]? = some (.dD x):=fun{i x} e=>by
  rcases hm i with g|⟨c,g,_⟩|⟨c,g,_⟩
  .rw[g,e]
  .rw[e]at g;cases g
  rw[e]at g;cases g
 have hb:∀{i c:Nat},m[i]? = some (.gy c)->m'[i]? = some (.gy c)∨m'[i]? = some (.ji c):=fun{i c} e=>by
  rcases hm i with g|⟨c',g,g2⟩|⟨c',g,_⟩
  .exact .inl (by rw[g,e])
  .rw[e]at g;cases g;exact .inr g2
  rw[e]at g;cases g
 induction hv with
 |bool=>exact .bool _
 |lit=>exact .lit _
 |int=>exact .int _ _
 |str=>exact .str _
 |nil=>exact .nil _
 |ptr e=>rcases hb e with e|e;exact .ptr e;exact .gone rfl (.ofR e rfl) rfl
 |slc e=>rcases hb e with e|e;exact .slc e;exact .gone rfl (.ofR e rfl) rfl
 |own e o=>exact .own (hl e) o
 |win e q q' q2=>exact .win (hl e) q q' q2
 |Ah e=>exact .Ah (hl e)
 |map e=>rcases hb e with e|e;exact .map e;exact .gone rfl (.ofR e rfl) rfl
 |iter e=>rcases hb e with e|e;exact .iter e;exact .gone rfl (.ofR e rfl) rfl
 |fn h1 _ h3 _ i2 i4=>exact .fn h1 i2 h3 i4
 |kW e=>rcases hb e with e|e;exact .kW e;exact .gone rfl (.ofR e rfl) rfl
 |agg h1 _ i2=>exact .agg h1 i2
 |dF h1 _ i2=>exact .dF h1 i2
 |oD=>exact .oD
 |dD a c c2 s z o k f e _ ih=>exact .dD (hA _ a) c c2 s z o k f e ih
 |el a c l o e q _ ih=>exact .el (hA _ a) c l o e q ih
 |row e j q=>exact .row (hl e) j q
 | @gone v i x hi e o=>
  generalize hq:m[i]? = q at e;cases e with
  |g=>
   rcases hm i with g|⟨c,g,_⟩|⟨c,g,_⟩
   .exact .gone hi (.of (by rw[g,hq])) o
   .rw[hq]at g;cases g
   rw[hq]at g;cases g
  |r c hv=>
   rcases hm i with g|⟨c',g,_⟩|⟨c',g,g2⟩
   .exact .gone hi (.ofR (by rw[g,hq]) hv) o
   .rw[hq]at g;cases g
   rw[hq]at g;cases g;cases v<;>simp only[roV,a03]at hv<;>first|cases hv;done|skip
   all_goals (subst hv;simp only[bC,a03]at hi;subst hi)
   .exact .ptr g2
   .exact .slc g2
   .exact .map g2
   .exact .kW g2
   exact .iter g2
theorem bZ.sw(hm:SwM m m')(hA:∀b,A b->B b){v:List (PV X.Γ)}{x:List TV}(hv:bZ X P A m h v x):bZ X P B m' h v x:=
 ⟨hv.1,fun i a b ha hb=>(hv.2 i a b ha hb).sw hm hA⟩
theorem jV.sw(hm:SwM m m')(hA:∀b,A b->B b){v:List (Nat×PE X.Γ)}{x:List (Nat×EV)}(hv:jV X P A m h v x):jV X P B m' h v x:=by
 induction hv with
 |nil=>exact .nil
 |cons h1 _ ih=>
  refine .cons ?_ ih;rename_i v x _ _ _;cases v<;>cases x<;>first|exact VR.sw hm hA h1|exact h1|exact⟨VR.sw hm hA h1.1,h1.2⟩
theorem BR.sw(hm:SwM m m')(hA:∀b,A b->B b){b:PB X.Γ}{mb:MB}(hn:∀c,mb=.ji c->c∉bD m->c∉bD m')(hb:BR X P A m h b mb):BR X P B m' h b mb:=by
 cases b with
 |cells cs=>cases mb with
  |gy b=>obtain⟨cs',h1,h2⟩:=hb;exact⟨cs',h1,h2.sw hm hA⟩
  |_=>exact hb.elim
 |aF cs=>cases mb with
  |ji b=>obtain⟨h0,cs',h1,h2⟩:=hb;exact⟨hn b rfl h0,cs',h1,h2.sw hm hA⟩
  |_=>exact hb.elim
 |list k ex t l=>cases mb with
  |dD x=>
   cases(hb:LR X P A m h k ex t l x)with
   |nil=>exact LR.nil
   |emp h0 h1 h2 h3 h4=>exact LR.emp (hA _ h0) h1 h2 h3 h4
   |some h1 h2 h3 h4 h5 h6 h7 h8 h9=>exact LR.some h1 h2 h3 h4 h5 h6 h7 h8 ⟨h9.1,h9.2.1,fun j a i c v a1 a2 a3=>(h9.2.2 j a i c v a1 a2 a3).sw hm hA⟩
  |_=>exact hb.elim
 |map es=>cases mb with
  |gy b=>exact hb
  |_=>exact hb.elim
 |mZ cs=>cases mb with
  |gy b=>exact hb
  |_=>exact hb.elim
 |iG es=>cases mb with
  |ji b=>exact⟨hn b rfl hb.1,hb.2⟩
  |_=>exact hb.elim
 |dn r n seen=>cases mb with
  |gy b=>
   obtain⟨c,h1,h2,h3⟩:=hb;refine⟨c,h1,?_,fun c' hc=>?_⟩
   .rcases hm r with g|⟨c',g,g2⟩|⟨c',g,g2⟩
    .rw[g];exact h2
    .rw[g2];rfl
    .rw[g2];rfl
   .rcases hm r with g|⟨c2,g,g2⟩|⟨c2,g,g2⟩
    .exact h3 c' (by rw[<-g];exact hc)
    .rw[g2]at hc;simp at hc;subst hc;exact h3 c2 (.inl g)
    .rw[g2]at hc;simp at hc;subst hc;exact h3 c2 (.inr g)
  |_=>exact hb.elim
 |mark=>cases mb with
  |gy b=>exact hb
  |_=>exact hb.elim
 |loop rd f nt env ps a c jI=>cases mb with
  |gy b=>obtain⟨e',h1,h2⟩:=hb;exact⟨e',h1,h2.sw hm hA⟩
  |_=>exact hb.elim
 |gone=>cases mb with
  |gone=>trivial
  |_=>exact hb.elim
end
theorem aee{call:aY}{fv v:PV X.Γ}{xs:List (PV X.Γ)}{H H1:List (PB X.Γ)}{W:Nat->Prop}{r:Nat}{cs MC:List (PV X.Γ)}(h0:H[r]? = some (.cells cs))(h9:H1[r]? = some (.cells MC))(hro:J3 (H1.drop H.length)=true)
  (hs:WV X P call fv xs (H.set r (.aF cs)) v (H1.set r (.aF MC)) W):WV X P call fv xs H v H1 fun k=>W k∧k≠r:=fun A m h tf qZ hr hf hx=>by
 obtain⟨mb0,q1,q2⟩:=hr.at_ r _ h0;have hrl:r<H.length:=(a0d.1 h0).1;have hrm:r<m.length:=by rw[hr.len];exact hrl
 cases mb0 with
 |gy c=>
  obtain⟨cs',q3,q4⟩:=q2;have EC:c∈bD m:=bf q1 rfl;have hch:=(a0d.1 q3).1;have hm:SwM m (m.set r (.ji c)):=fun i=>by
   by_cases e:i=r
   .subst e;exact .inr (.inl ⟨c,q1,by rw[a1T hrm]⟩)
   .exact .inl (by rw[a1n (fun h=>e h.symm)])
  have old:∀{i b:Nat},H8 (m.set r (.ji c)) i b->i≠r∧H8 m i b:=fun{i b} ho=>by
   obtain⟨mb,a1,a2⟩:=ho;by_cases e:i=r
   .subst e;rw[a1T hrm]at a1;cases a1;cases a2
   .rw[a1n (fun h=>e h.symm)]at a1;exact⟨e,mb,a1,a2⟩
  have oz:∀b,b∈bD (m.set r (.ji c))->b∈bD m∧b≠c:=fun b hb=>by
   obtain⟨i,hi⟩:=kN hb;obtain⟨e,mb,a1,a2⟩:=old hi;refine⟨bf a1 a2,fun e2=>?_⟩;subst e2;exact e (iW hr.nodup a1 q1 a2 rfl)
  have hA:∀b,AA A m b->AA (fun b=>A b∧b≠c) (m.set r (.ji c)) b:=fun b hb=>⟨⟨hb.1,fun e=>hb.2 (e▸EC)⟩,fun h=>hb.2 (oz b h).1⟩;have uV:HR X P (fun b=>A b∧b≠c) (m.set r (.ji c)) (H.set r (.aF cs)) h:=by
   refine⟨by simp[hr.len],fun i b hi=>?_,jB fun i j d a1 a2=>?_,fun b hb=>⟨hr.up b hb,by omega⟩,fun b hb=>⟨hr.D6 b (oz b hb).1,(oz b hb).2⟩⟩
   .by_cases e:i=r
    .subst e;rw[a1T hrl]at hi;cases hi;exact⟨.ji c,by rw[a1T hrm],fun h=>(oz c h).2 rfl,cs',q3,q4.sw hm hA⟩
    .rw[a1n (fun h=>e h.symm)]at hi;obtain⟨mb,g1,g2⟩:=hr.at_ i b hi;exact⟨mb,by rw[a1n (fun h=>e h.symm)];exact g1,g2.sw hm hA fun d _ hn h=>hn (oz d h).1⟩
   .obtain⟨_,ma,u1,u2⟩:=old a1;obtain⟨_,mc,v1,v2⟩:=old a2;exact iW hr.nodup u1 v1 u2 v2
  obtain⟨w,h1,ws,m1,c1,c2,c3,c4,c5,c6⟩:=hs (fun b=>A b∧b≠c) (m.set r (.ji c)) h tf qZ uV (hf.sw hm hA) (hx.sw hm hA)
  .have aef:r<H1.length:=(a0d.1 h9).1;obtain⟨mb1,e1,e2⟩:=c2.at_ r (.aF MC) (by rw[a1T aef]);have e3:=c5 r (.ji c) (by rw[a1T hrm]);have e4:mb1=.ji c:=by
    rcases e3 with e3|e3<;>rw[e1]at e3<;>cases e3
    .rfl
    .exact e2.elim
   subst e4;obtain⟨p0,WL,p1,p2⟩:=e2;have J9:r<m1.length:=(a0d.1 e1).1;have hm1:SwM m1 (m1.set r (.gy c)):=fun i=>by
    by_cases e:i=r
    .subst e;exact .inr (.inr ⟨c,e1,by rw[a1T J9]⟩)
    .exact .inl (by rw[a1n (fun h=>e h.symm)])
   have at1:∀{i:Nat} {mb:MB},i≠r->(m1.set r (.gy c))[i]? = some mb->m1[i]? = some mb:=fun{i mb} e h=>by rw[a1n (fun h=>e h.symm)]at h;exact h
   have Cm:∀b,b∈bD (m1.set r (.gy c))->b=c∨b∈bD m1:=fun b hb=>by
    obtain⟨i,mb,a1,a2⟩:=kN hb;by_cases e:i=r
    .subst e;rw[a1T J9]at a1;cases a1;cases a2;exact .inl rfl
    .exact .inr (bf (at1 e a1) a2)
   have hA1:∀b,AA (fun b=>A b∧b≠c) m1 b->AA A (m1.set r (.gy c)) b:=fun b hb=>⟨hb.1.1,fun h=>by
    rcases Cm b h with e|e
    .exact hb.1.2 e
    .exact hb.2 e⟩
   refine⟨w,h1,ws,m1.set r (.gy c),c1,⟨by rw[a4n,c2.len,a4n],fun i b hi=>?_,jB fun i j d a1 a2=>?_,fun b hb=>(c2.up b hb).1,fun b hb=>?_⟩,c3.sw hm1 hA1,⟨c4.len,fun b hb hn=>c4.same b hb fun h=>hn (oz b h).1,fun b hb=>?_,c4.grow⟩,fun i mb hi=>?_,fun b hb=>?_⟩
   .by_cases e:i=r
    .subst e;rw[h9]at hi;cases hi;exact⟨.gy c,by rw[a1T J9],WL,p1,p2.sw hm1 hA1⟩
    .obtain⟨mb,g1,g2⟩:=c2.at_ i b (by rw[a1n (fun h=>e h.symm)];exact hi);refine⟨mb,by rw[a1n (fun h=>e h.symm)];exact g1,g2.sw hm1 hA1 fun d hd hn hd2=>?_⟩;subst hd;rcases Cm d hd2 with e5|e5
     .subst e5;rcases a4h i m.length with aQ|EJ
      .have KW:(m.set r (.ji d))[i]? = m[i]?:=(by rw[a1n (fun h=>e h.symm)]);have hmi:m[i]? = some (.ji d):=by
        rcases c5 i m[i] (by rw[KW];exact a0g aQ)with e6|e6<;>rw[g1]at e6<;>simp only[a03]at e6
        .rw[a0g aQ,<-e6]
        .cases e6
       have hlH:i<H.length:=by rw[<-hr.len];exact aQ
       obtain⟨mb9,e7,e8⟩:=hr.at_ i _ (a0g hlH);rw[hmi]at e7;cases e7;generalize H[i]=b9 at e8;cases b9<;>first|exact e8.elim|exact e8.1 EC
      .have e6:(H1.drop H.length)[i-H.length]? = some b:=by rw[a4j,<-hi];congr 1;rw[hr.len]at EJ;omega
       have e7:=MH hro e6;cases b<;>first|exact g2.elim|cases e7
     .exact hn e5
   .obtain⟨ma,u1,u2⟩:=a1;obtain⟨mc,v1,v2⟩:=a2;by_cases e:i=r<;>by_cases e':j=r
    .rw[e,e']
    .subst e;rw[a1T J9]at u1;cases u1;cases u2;exact absurd (bf (at1 e' v1) v2) p0
    .subst e';rw[a1T J9]at v1;cases v1;cases v2;exact absurd (bf (at1 e u1) u2) p0
    .exact iW c2.nodup (at1 e u1) (at1 e' v1) u2 v2
   .rcases Cm b hb with e|e
    .subst e;exact hr.D6 _ EC
    .exact(c2.D6 b e).1
   .rcases Cm b hb with e|e
    .subst e;exact .inl EC
    .rcases c4.new b e with g|g
     .exact .inl (oz b g).1
     .exact .inr g
   .by_cases e:i=r
    .subst e;rw[q1]at hi;cases hi;exact .inl (by rw[a1T J9])
    .rw[a1n (fun h=>e h.symm)];exact c5 i mb (by rw[a1n (fun h=>e h.symm)];exact hi)
   .obtain⟨k,k1,k2⟩:=c6 b hb;obtain⟨k3,k4⟩:=old k2;exact⟨k,⟨k1,k3⟩,k4⟩
 |_=>exact q2.elim
theorem a9E{call:aY}{fv v:PV X.Γ}{xs:List (PV X.Γ)}{H H1:List (PB X.Γ)}{W:Nat->Prop}{r:Nat}{es es1:List (PV X.Γ×PV X.Γ)}(h0:H[r]? = some (.map es))(h9:H1[r]? = some (.map es1))(hro:J3 (H1.drop H.length)=true)
  (hs:WV X P call fv xs (H.set r (.iG es)) v (H1.set r (.iG es1)) W):WV X P call fv xs H v H1 fun k=>W k∧k≠r:=fun A m h tf qZ hr hf hx=>by
 obtain⟨mb0,q1,q2⟩:=hr.at_ r _ h0;have hrl:r<H.length:=(a0d.1 h0).1;have hrm:r<m.length:=by rw[hr.len];exact hrl
 cases mb0 with
 |gy c=>
  obtain⟨cs',q3,q4⟩:=q2;have EC:c∈bD m:=bf q1 rfl;have hch:=(a0d.1 q3).1;have hm:SwM m (m.set r (.ji c)):=fun i=>by
   by_cases e:i=r
   .subst e;exact .inr (.inl ⟨c,q1,by rw[a1T hrm]⟩)
   .exact .inl (by rw[a1n (fun h=>e h.symm)])
  have old:∀{i b:Nat},H8 (m.set r (.ji c)) i b->i≠r∧H8 m i b:=fun{i b} ho=>by
   obtain⟨mb,a1,a2⟩:=ho;by_cases e:i=r
   .subst e;rw[a1T hrm]at a1;cases a1;cases a2
   .rw[a1n (fun h=>e h.symm)]at a1;exact⟨e,mb,a1,a2⟩
  have oz:∀b,b∈bD (m.set r (.ji c))->b∈bD m∧b≠c:=fun b hb=>by
   obtain⟨i,hi⟩:=kN hb;obtain⟨e,mb,a1,a2⟩:=old hi;refine⟨bf a1 a2,fun e2=>?_⟩;subst e2;exact e (iW hr.nodup a1 q1 a2 rfl)
  have hA:∀b,AA A m b->AA (fun b=>A b∧b≠c) (m.set r (.ji c)) b:=fun b hb=>⟨⟨hb.1,fun e=>hb.2 (e▸EC)⟩,fun h=>hb.2 (oz b h).1⟩;have uV:HR X P (fun b=>A b∧b≠c) (m.set r (.ji c)) (H.set r (.iG es)) h:=by
   refine⟨by simp[hr.len],fun i b hi=>?_,jB fun i j d a1 a2=>?_,fun b hb=>⟨hr.up b hb,by omega⟩,fun b hb=>⟨hr.D6 b (oz b hb).1,(oz b hb).2⟩⟩
   .by_cases e:i=r
    .subst e;rw[a1T hrl]at hi;cases hi;exact⟨.ji c,by rw[a1T hrm],fun h=>(oz c h).2 rfl,cs',q3,q4⟩
    .rw[a1n (fun h=>e h.symm)]at hi;obtain⟨mb,g1,g2⟩:=hr.at_ i b hi;exact⟨mb,by rw[a1n (fun h=>e h.symm)];exact g1,g2.sw hm hA fun d _ hn h=>hn (oz d h).1⟩
   .obtain⟨_,ma,u1,u2⟩:=old a1;obtain⟨_,mc,v1,v2⟩:=old a2;exact iW hr.nodup u1 v1 u2 v2
  obtain⟨w,h1,ws,m1,c1,c2,c3,c4,c5,c6⟩:=hs (fun b=>A b∧b≠c) (m.set r (.ji c)) h tf qZ uV (hf.sw hm hA) (hx.sw hm hA)
  .have aef:r<H1.length:=(a0d.1 h9).1;obtain⟨mb1,e1,e2⟩:=c2.at_ r (.iG es1) (by rw[a1T aef]);have e3:=c5 r (.ji c) (by rw[a1T hrm]);have e4:mb1=.ji c:=by
    rcases e3 with e3|e3<;>rw[e1]at e3<;>cases e3
    .rfl
    .exact e2.elim
   subst e4;obtain⟨p0,WL,p1,p2⟩:=e2;have J9:r<m1.length:=(a0d.1 e1).1;have hm1:SwM m1 (m1.set r (.gy c)):=fun i=>by
    by_cases e:i=r
    .subst e;exact .inr (.inr ⟨c,e1,by rw[a1T J9]⟩)
    .exact .inl (by rw[a1n (fun h=>e h.symm)])
   have at1:∀{i:Nat} {mb:MB},i≠r->(m1.set r (.gy c))[i]? = some mb->m1[i]? = some mb:=fun{i mb} e h=>by rw[a1n (fun h=>e h.symm)]at h;exact h
   have Cm:∀b,b∈bD (m1.set r (.gy c))->b=c∨b∈bD m1:=fun b hb=>by
    obtain⟨i,mb,a1,a2⟩:=kN hb;by_cases e:i=r
    .subst e;rw[a1T J9]at a1;cases a1;cases a2;exact .inl rfl
    .exact .inr (bf (at1 e a1) a2)
   have hA1:∀b,AA (fun b=>A b∧b≠c) m1 b->AA A (m1.set r (.gy c)) b:=fun b hb=>⟨hb.1.1,fun h=>by
    rcases Cm b h with e|e
    .exact hb.1.2 e
    .exact hb.2 e⟩
   refine⟨w,h1,ws,m1.set r (.gy c),c1,⟨by rw[a4n,c2.len,a4n],fun i b hi=>?_,jB fun i j d a1 a2=>?_,fun b hb=>(c2.up b hb).1,fun b hb=>?_⟩,c3.sw hm1 hA1,⟨c4.len,fun b hb hn=>c4.same b hb fun h=>hn (oz b h).1,fun b hb=>?_,c4.grow⟩,fun i mb hi=>?_,fun b hb=>?_⟩
   .by_cases e:i=r
    .subst e;rw[h9]at hi;cases hi;exact⟨.gy c,by rw[a1T J9],WL,p1,p2⟩
    .obtain⟨mb,g1,g2⟩:=c2.at_ i b (by rw[a1n (fun h=>e h.symm)];exact hi);refine⟨mb,by rw[a1n (fun h=>e h.symm)];exact g1,g2.sw hm1 hA1 fun d hd hn hd2=>?_⟩;subst hd;rcases Cm d hd2 with e5|e5
     .subst e5;rcases a4h i m.length with aQ|EJ
      .have KW:(m.set r (.ji d))[i]? = m[i]?:=(by rw[a1n (fun h=>e h.symm)]);have hmi:m[i]? = some (.ji d):=by
        rcases c5 i m[i] (by rw[KW];exact a0g aQ)with e6|e6<;>rw[g1]at e6<;>simp only[a03]at e6
        .rw[a0g aQ,<-e6]
        .cases e6
       have hlH:i<H.length:=by rw[<-hr.len];exact aQ
       obtain⟨mb9,e7,e8⟩:=hr.at_ i _ (a0g hlH);rw[hmi]at e7;cases e7;generalize H[i]=b9 at e8;cases b9<;>first|exact e8.elim|exact e8.1 EC
      .have e6:(H1.drop H.length)[i-H.length]? = some b:=by rw[a4j,<-hi];congr 1;rw[hr.len]at EJ;omega
       have e7:=MH hro e6;cases b<;>first|exact g2.elim|cases e7
     .exact hn e5
   .obtain⟨ma,u1,u2⟩:=a1;obtain⟨mc,v1,v2⟩:=a2;by_cases e:i=r<;>by_cases e':j=r
    .rw[e,e']
    .subst e;rw[a1T J9]at u1;cases u1;cases u2;exact absurd (bf (at1 e' v1) v2) p0
    .subst e';rw[a1T J9]at v1;cases v1;cases v2;exact absurd (bf (at1 e u1) u2) p0
    .exact iW c2.nodup (at1 e u1) (at1 e' v1) u2 v2
   .rcases Cm b hb with e|e
    .subst e;exact hr.D6 _ EC
    .exact(c2.D6 b e).1
   .rcases Cm b hb with e|e
    .subst e;exact .inl EC
    .rcases c4.new b e with g|g
     .exact .inl (oz b g).1
     .exact .inr g
   .by_cases e:i=r
    .subst e;rw[q1]at hi;cases hi;exact .inl (by rw[a1T J9])
    .rw[a1n (fun h=>e h.symm)];exact c5 i mb (by rw[a1n (fun h=>e h.symm)];exact hi)
   .obtain⟨k,k1,k2⟩:=c6 b hb;obtain⟨k3,k4⟩:=old k2;exact⟨k,⟨k1,k3⟩,k4⟩
 |_=>exact q2.elim
theorem Zv{call:aY}{fv v:PV X.Γ}{xs:List (PV X.Γ)}{W:Nat->Prop}:∀{rs:List Nat} {H H1 Hr OI:List (PB X.Γ)},roB rs H H1=some (Hr,OI)->J3 (H1.drop H.length)=true->WV X P call fv xs Hr v OI W->WV X P call fv xs H v H1 fun k=>W k∧k∉rs
 | [],H,H1,Hr,OI,h1,hn,hs=>by
  simp only[roB,a03,a0u]at h1;obtain⟨rfl,rfl⟩:=h1;intro A m h tf qZ a b c;obtain⟨w,h1,ws,m1,c1,c2,c3,c4,c5,c6⟩:=hs A m h tf qZ a b c;exact⟨w,h1,ws,m1,c1,c2,c3,c4,c5,fun b hb=>by obtain⟨k,k1,k2⟩:=c6 b hb;exact⟨k,⟨k1,by simp⟩,k2⟩⟩
 |r::rs,H,H1,Hr,OI,h1,hn,hs=>by
  simp only[roB]at h1;split at h1
  .rename_i cs MC e1 e2;have aQ:r<H.length:=(a0d.1 e1).1;have:=aee e1 e2 hn (Zv h1 (by rw[a4n,List.drop_set_of_lt aQ];exact hn) hs);intro A m h tf qZ a b c;obtain⟨w,h1,ws,m1,c1,c2,c3,c4,c5,c6⟩:=this A m h tf qZ a b c;exact⟨w,h1,ws,m1,c1,c2,c3,c4,c5,fun b hb=>by obtain⟨k,⟨⟨k1,k3⟩,k4⟩,k2⟩:=c6 b hb;exact⟨k,⟨k1,by simp[k3,k4]⟩,k2⟩⟩
  .rename_i cs MC e1 e2;have aQ:r<H.length:=(a0d.1 e1).1;have:=a9E e1 e2 hn (Zv h1 (by rw[a4n,List.drop_set_of_lt aQ];exact hn) hs);intro A m h tf qZ a b c;obtain⟨w,h1,ws,m1,c1,c2,c3,c4,c5,c6⟩:=this A m h tf qZ a b c;exact⟨w,h1,ws,m1,c1,c2,c3,c4,c5,fun b hb=>by obtain⟨k,⟨⟨k1,k3⟩,k4⟩,k2⟩:=c6 b hb;exact⟨k,⟨k1,by simp[k3,k4]⟩,k2⟩⟩
  cases h1
theorem WW{α:Type}{rs:List Nat}:∀{ks:List α} {i p:Nat} {k:α},ks[p]? = some k->i+p∉rs->k∈a2N rs i ks
 | [],_,_,_,h,_=>by simp at h
 |a::ks,i,0,k,h,hn=>by
  simp only[a2Q,a03]at h;subst h;simp only[a2N];rw[a0p (by simpa using hn)];exact a3l
 |a::ks,i,p+1,k,h,hn=>by
  have:=WW (ks:=ks) (i:=i+1) (p:=p) (k:=k) (by simpa using h) (by rwa [Nat.add_right_comm,a9M] );simp only[a2N];split
  .exact this
  exact a3n _ this
theorem Ja(hX:bM X P){call:aY}{ks:List Nat}{H' Hp H H1 OI:List (PB X.Γ)}{fv fv' v v':PV X.Γ}{xs xs':List (PV X.Γ)}{W:Nat->Prop}(hs:WV X P call fv xs H v H1 W)
  (jA:ks.Nodup) (hp:CY H' ks=some Hp) (hH:nM (wJ ks) Hp=some H) (hf:fQ (wJ ks) fv'=some fv) (hx:fQ.oZ (wJ ks) xs'=some xs)
  (hv:fQ (bk ks H'.length) v=some v') (hH1:nM (bk ks H'.length) H1=some OI) (hro:J3 (H1.drop ks.length)=true) :
  ∀(A:Nat->Prop) (m':List MB) (h:List HB) (tf:TV) (qZ:List TV),HR X P A m' H' h->VR X P (AA A m') m' h fv' tf->bZ X P (AA A m') m' h xs' qZ ->
  ∃w h1 ws m1,call tf qZ h=some (w,h1,ws)∧HR X P A m1 (putAt ks OI H'++OI.drop ks.length) h1∧VR X P (AA A m1) m1 h1 v' w∧Fr m' h m1 h1∧Up m' m1∧∀b∈ws,∃p k,ks[p]? = some k∧W p∧H8 m' k b:=by
 intro A m' h tf qZ hr hf' Fh;have hpg:=Ef hp;have hHg:=sU hH;have hkH:∀{p k:Nat},ks[p]? = some k->k<m'.length:=fun{p k} hk=>by
  obtain⟨b,q1,_⟩:=hpg.2 hk;rw[hr.len];exact(a0d.1 q1).1
 have hkm:∀k∈ks,k<m'.length:=fun k hk=>by
  obtain⟨i,hi⟩:=a8C hk;exact hkH hi
 let m:List MB:=ks.map fun k=>m'.getD k .gone
 have hm:∀{p k:Nat},ks[p]? = some k->m[p]? = m'[k]?:=fun{p k} hk=>by
  show(ks.map _)[p]? = _;rw[a4q,hk];have:=hkH hk;simp[a2X,this]
 have a5V:m.length=ks.length:=a4l ..;have RY:∀{p:Nat} {mb:MB},m[p]? = some mb->∃k,ks[p]? = some k∧m'[k]? = some mb:=fun{p mb} hpm=>by
  have:p<ks.length:=by rw[<-a5V];exact(a0d.1 hpm).1
  have hk:=a0g this;exact⟨_,hk,by rw[<-hm hk];exact hpm⟩
 have oz:∀b,b∈bD m->b∈bD m':=fun b hb=>by
  obtain⟨j,mb,q1,q2⟩:=kN hb;obtain⟨k,_,q3⟩:=RY q1;exact bf q3 q2
 have aeg:∀{i:Nat} {mb:MB} {b:Nat},i∉ks->m'[i]? = some mb->mb.own=some b->b∉bD m:=fun{i mb b} hi h1 h2 hb=>by
  obtain⟨j,mc,q1,q2⟩:=kN hb;obtain⟨k,q3,q4⟩:=RY q1;have:=iW hr.nodup h1 q4 h2 q2;subst this;exact hi (a4s q3)
 let A2:Nat->Prop:=fun b=>A b∧(b∈bD m'->b∈bD m)
 have hA:∀b,AA A m' b->AA A2 m b:=fun b hb=>⟨⟨hb.1,fun h9=>absurd h9 hb.2⟩,fun h9=>hb.2 (oz b h9)⟩;have hg:∀i j,wJ ks i=some j->m[j]? = m'[i]?:=fun i j A8=>hm (OD A8);have uV:HR X P A2 m H h:=by
  refine⟨by rw[a5V,hHg.1,hpg.1],fun j b hj=>?_,jB fun i j c q1 q2=>?_,fun b hb=>⟨hr.up b hb,fun h9=>absurd (hr.inb h9) (by omega)⟩,fun b hb=>⟨hr.D6 b (oz b hb),fun _=>hb⟩⟩
  .obtain⟨b0,q1,q2⟩:=hHg.2 hj;have rX:j<ks.length:=by rw[<-hpg.1];exact(a0d.1 q1).1
   have hk:=a0g rX;obtain⟨b9,q5,q6⟩:=hpg.2 hk;rw[q1]at q6;cases q6;obtain⟨mb,q3,q4⟩:=hr.at_ _ _ q5;exact⟨mb,by rw[hm hk];exact q3,Ee hX hg hA (fun c _ h9 h8=>h9 (oz c h8)) q4 q2⟩
  .obtain⟨ma,a1,a2⟩:=q1;obtain⟨mc,c1,c2⟩:=q2;obtain⟨k,a3,a4⟩:=RY a1;obtain⟨l,c3,c4⟩:=RY c1;have e:=iW hr.nodup a4 c4 a2 c2;subst e;exact(List.getElem?_inj (a0d.1 a3).1 jA).1 (by rw[a3,c3])
 obtain⟨w,h1,ws,m1,c1,c2,c3,c4,c5,c6⟩:=hs A2 m h tf qZ uV (Ed hg hA hX hf' hf) (zi hX hg hA Fh hx);have a5W:ks.length<=m1.length:=by
  rcases aby ks.length with e|e
  .omega
  .have aQ:ks.length-1<m.length:=(by omega);have:=c5 (ks.length-1) m[ks.length-1] (a0g aQ);rcases this with g|g<;>(have:=(a0d.1 g).1;omega)
 let m1':List MB:=putAt ks m1 m'++m1.drop ks.length
 have hn:m'.length=H'.length:=hr.len;have a9F:(putAt ks m1 m').length=m'.length:=sV;have a1f:∀{p k:Nat},ks[p]? = some k->m1'[k]? = m1[p]?:=fun{p k} hk=>by
  show(putAt ks m1 m'++_)[k]? = _;rw[a0k (by rw[a9F];exact hkH hk),OH jA hkm a5W hk]
 have Zw:∀{i:Nat},i<m'.length->i∉ks->m1'[i]? = m'[i]?:=fun{i} hi hk=>by
  show(putAt ks m1 m'++_)[i]? = _;rw[a0k (by rw[a9F];exact hi),J8 hk]
 have Zx:∀{j:Nat},ks.length<=j->m1'[m'.length+(j-ks.length)]? = m1[j]?:=fun{j} hj=>by
  show(putAt ks m1 m'++_)[_]? = _;rw[a1d (by rw[a9F];omega),a9F,Nat.add_sub_cancel_left,a4j];congr 1;omega
 have hgb:∀j i,bk ks H'.length j=some i->m1'[i]? = m1[j]?:=fun j i A8=>by
  unfold bk at A8;split at A8
  .rename_i k hk;cases A8;exact a1f hk
  .rename_i hk;cases A8;rw[<-hn];exact Zx (by rw[List.getElem?_eq_none_iff]at hk;exact hk)
 have uU:∀{i:Nat} {mb:MB},m1'[i]? = some mb->(∃p,ks[p]? = some i∧m1[p]? = some mb)∨(i<m'.length∧i∉ks∧m'[i]? = some mb)∨(∃j,ks.length<=j∧i=m'.length+(j-ks.length)∧m1[j]? = some mb):=fun{i mb} hi=>by
  rcases a4h i m'.length with aQ|EJ
  .by_cases hk:i∈ks
   .obtain⟨p,hp⟩:=a8C hk;exact .inl ⟨p,hp,by rw[<-a1f hp];exact hi⟩
   .exact .inr (.inl ⟨aQ,hk,by rw[<-Zw aQ hk];exact hi⟩)
  .refine .inr (.inr ⟨i-m'.length+ks.length,by omega,by omega,?_⟩);rw[<-Zx (by omega)];rw[<-hi];congr 1;omega
 have yN:∀{b:Nat},b∈bD m1'->b∈bD m1∨∃i mb,i∉ks∧m'[i]? = some mb∧mb.own=some b:=fun{b} hb=>by
  obtain⟨i,mb,q1,q2⟩:=kN hb;rcases uU q1 with⟨p,_,q3⟩|⟨_,q3,q4⟩|⟨j,_,_,q3⟩
  .exact .inl (bf q3 q2)
  .exact .inr ⟨i,mb,q3,q4,q2⟩
  .exact .inl (bf q3 q2)
 have a9G:∀{i b:Nat} {mb:MB},i∉ks->m'[i]? = some mb->mb.own=some b->b∉bD m1:=fun{i b mb} h1 h2 h3 h4=>by
  rcases c4.new b h4 with g|g
  .exact aeg h1 h2 h3 g
  .exact absurd (hr.inb (bf h2 h3)) (by omega)
 have hA3:∀b,AA A2 m1 b->AA A m1' b:=fun b hb=>⟨hb.1.1,fun h9=>by
  rcases yN h9 with g|⟨i,mb,g1,g2,g3⟩
  .exact hb.2 g
  .exact aeg g1 g2 g3 (hb.1.2 (bf g2 g3))⟩
 have hF:Fr m' h m1' h1:=⟨c4.len,fun b hb hnb=>c4.same b hb fun h9=>hnb (oz b h9),fun b hb=>by
  rcases yN hb with g|⟨i,mb,g1,g2,g3⟩
  .rcases c4.new b g with g|g
   .exact .inl (oz b g)
   .exact .inr g
  .exact .inl (bf g2 g3),c4.grow⟩
 have hU:Up m' m1':=fun i mb hi=>by
  have aQ:=(a0d.1 hi).1;by_cases hk:i∈ks
  .obtain⟨p,hp⟩:=a8C hk;rw[a1f hp];exact c5 p mb (by rw[hm hp];exact hi)
  .exact .inl (by rw[Zw aQ hk];exact hi)
 have aeh:=sU hH1;have aie:m1.length=H1.length:=c2.len;refine⟨w,h1,ws,m1',c1,⟨?_,fun i b hi=>?_,?_,fun b hb=>(c2.up b hb).1,fun b hb=>?_⟩,Ed hgb hA3 hX c3 hv,hF,hU,fun b hb=>?_⟩
 .show(putAt ks m1 m'++_).length=_;rw[a1s,a1s,sV,sV,a3Y,a3Y,aeh.1,aie,hn]
 .have aif:ks.length<=OI.length:=by rw[aeh.1,<-aie];exact a5W
  have aoc:∀k∈ks,k<H'.length:=fun k hk=>by rw[<-hn];exact hkm k hk
  have back:∀{j:Nat} {b:PB X.Γ},OI[j]? = some b->∃mb,m1[j]? = some mb∧BR X P (AA A m1') m1' h1 b mb:=fun{j b} hj=>by
   obtain⟨b0,q1,q2⟩:=aeh.2 hj;obtain⟨mb,q3,q4⟩:=c2.at_ j b0 q1;refine⟨mb,q3,Ee hX hgb hA3 (fun c e h9 h8=>?_) q4 q2⟩;rcases yN h8 with g|⟨i,LZ,g1,g2,g3⟩
   .exact h9 g
   .subst e;rcases a4h j ks.length with hj1|hj1
    .have hk:=a0g hj1;have rX:j<m.length:=by rw[a5V];exact hj1
     have hmj:m[j]? = some (.ji c):=by
      rcases c5 j _ (a0g rX)with e|e<;>rw[q3]at e<;>simp only[a03]at e
      .rw[a0g rX,<-e]
      .cases e
     obtain⟨k,e1,e2⟩:=RY hmj;obtain⟨b9,e3,_⟩:=hpg.2 e1;obtain⟨mb9,e4,e5⟩:=hr.at_ _ _ e3;rw[e2]at e4;cases e4;cases b9<;>first|exact e5.elim|exact e5.1 (bf g2 g3)
    .have e1:(H1.drop ks.length)[j-ks.length]? = some b0:=by rw[a4j,<-q1];congr 1;omega
     have e2:=MH hro e1;cases b0<;>first|exact q4.elim|cases e2
  rcases a4h i H'.length with aQ|EJ
  .rw[a0k (by rw[sV];exact aQ)]at hi;by_cases hk:i∈ks
   .obtain⟨p,hpk⟩:=a8C hk;rw[OH jA aoc aif hpk]at hi;obtain⟨mb,q1,q2⟩:=back hi;exact⟨mb,by rw[a1f hpk];exact q1,q2⟩
   .rw[J8 hk]at hi;obtain⟨mb,q1,q2⟩:=hr.at_ i b hi;refine⟨mb,by rw[Zw (by rw[hn];exact aQ) hk];exact q1,q2.step hF hU fun c hc=>?_⟩;exact c4.same c (hr.inb (bf q1 hc)) (aeg hk q1 hc)
  .rw[a1d (by rw[sV];exact EJ),sV,a4j]at hi;obtain⟨mb,q1,q2⟩:=back hi;refine⟨mb,?_,q2⟩;have:=Zx (j:=ks.length+(i-H'.length)) (by omega);rw[q1]at this;rw[<-this];congr 1;omega
 .refine jB fun i j c q1 q2=>?_;obtain⟨ma,a1,a2⟩:=q1;obtain⟨mc,b1,b2⟩:=q2;rcases uU a1 with⟨p,a3,a4⟩|⟨a3,a4,a5⟩|⟨p,a3,a4,a5⟩<;>rcases uU b1 with⟨q,b3,b4⟩|⟨b3,b4,b5⟩|⟨q,b3,b4,b5⟩
  .have:=iW c2.nodup a4 b4 a2 b2;subst this;rw[a3]at b3;cases b3;rfl
  .exact absurd (bf a4 a2) (a9G b4 b5 b2)
  .have:=iW c2.nodup a4 b5 a2 b2;subst this;have:=(a0d.1 a3).1;omega
  .exact absurd (bf b4 b2) (a9G a4 a5 a2)
  .exact iW hr.nodup a5 b5 a2 b2
  .exact absurd (bf b5 b2) (a9G a4 a5 a2)
  .have:=iW c2.nodup a5 b4 a2 b2;subst this;have:=(a0d.1 b3).1;omega
  .exact absurd (bf a5 a2) (a9G b4 b5 b2)
  .have:=iW c2.nodup a5 b5 a2 b2;subst this;omega
 .rcases yN hb with g|⟨i,mb,g1,g2,g3⟩
  .exact(c2.D6 b g).1
  .exact hr.D6 b (bf g2 g3)
 .obtain⟨j,hw,mb,q1,q2⟩:=c6 b hb;obtain⟨k,q3,q4⟩:=RY q1;exact⟨j,k,q3,hw,mb,q4,q2⟩
end
end Pv
