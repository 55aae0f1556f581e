/- Part 3 of a proof: Many of all cells of a diagram together is the number of places; the answer to AskCount is Many of 1 of OpAnd of the condition's Where and the diagram's Where; for two diagrams that fit. -/
import Derived.Test.YtmobpoiejckagaaGreatP01
set_option linter.constructorNameAsVariable false
set_option linter.unusedVariables false
set_option linter.unusedSimpArgs false
set_option linter.unusedSectionVars false
noncomputable section
namespace Pv
open Go Tw
section
variable {X:l7} {P:Program} {A:Nat->Prop} {m m':List MB} {h h':List HB} {H H':List (PB X.Γ)}
theorem HR.next(hr:HR X P A m H h)(hF:Fr m h m' h')(hU:Up m m')(hl:m'.length=H'.length)(hn:(bD m').Nodup)
  (Kz:∀(i:Nat) b,H'[i]? = some b->(∃mb,H[i]? = some b∧m[i]? = some mb∧m'[i]? = some mb∧∀c,mb.own=some c->h'[c]? = h[c]?)∨∃mb,m'[i]? = some mb∧BR X P (AA A m') m' h' b mb):HR X P A m' H' h':=by
 refine⟨hl,fun i b hb=>?_,hn,fun b hb=>hr.up b (by have:=hF.len;omega),fun b hb=>?_⟩
 .rcases Kz i b hb with⟨mb,h1,h2,h3,h4⟩|h1
  .obtain⟨MP,g1,g2⟩:=hr.at_ i b h1;rw[h2]at g1;cases g1;exact⟨mb,h3,g2.step hF hU h4⟩
  .exact h1
 .rcases hF.new b hb with h1|h1
  .exact hr.Di b h1
  .exact hr.up b h1
theorem BR.has{B:Nat->Prop}{b:PB X.Γ}{mb:MB}{c:Nat}(hb:BR X P B m h b mb)(ho:mb.own=some c):c<h.length:=by
 have key:∀{y},h[c]? = some y->c<h.length:=fun e=>(a05.1 e).1;cases b with
 |cells cs=>
  cases mb with
  |gu b=>cases ho;obtain⟨_,h1,_⟩:=hb;exact key h1
  |_=>exact hb.elim
 |aF cs=>
  cases mb with
  |jA b=>cases ho
  |_=>exact hb.elim
 |list k ex t l=>
  cases mb with
  |dF x=>
   cases(hb:LR X P B m h k ex t l x)with
   |nil=>cases ho
   |emp=>simp[MB.own]at ho
   |some h1 _ _ h4=>
    simp only[MB.own]at ho;split at ho
    .cases ho
    cases ho;exact key h4
  |_=>exact hb.elim
 |map es=>
  cases mb with
  |gu b=>cases ho;obtain⟨_,h1,_⟩:=hb;exact key h1
  |_=>exact hb.elim
 |nK cs=>
  cases mb with
  |gu b=>cases ho;obtain⟨_,h1,_⟩:=hb;exact key h1
  |_=>exact hb.elim
 |iL es=>
  cases mb with
  |jA b=>cases ho
  |_=>exact hb.elim
 |dn r n seen=>
  cases mb with
  |gu b=>cases ho;obtain⟨_,h1,_⟩:=hb;exact key h1
  |_=>exact hb.elim
 |mark=>
  cases mb with
  |gu b=>cases ho;exact key hb
  |_=>exact hb.elim
 |loop=>
  cases mb with
  |gu b=>cases ho;obtain⟨_,h1,_⟩:=hb;exact key h1
  |_=>exact hb.elim
 |gone=>
  cases mb with
  |gone=>cases ho
  |_=>exact hb.elim
theorem HR.inb(hr:HR X P A m H h){c:Nat}(hc:c∈bD m):c<h.length:=by
 obtain⟨mb,hm,ho⟩:=a5X.1 hc;obtain⟨i,hi⟩:=a8K hm;have:i<H.length:=by rw[<-hr.len];exact(a05.1 hi).1
 obtain⟨MP,h1,h2⟩:=hr.at_ i H[i] (a0b this);rw[hi]at h1;cases h1;exact h2.has ho
theorem jk(a b:List MB):bD (a++b)=bD a++bD b:=List.filterMap_append ..
theorem kJ(mb:MB):bD [mb]=mb.own.toList:=by unfold bD;simp[a9g];cases mb.own<;>rfl
theorem wZ(ms:List MB):Up m (m++ms):=fun i mb hi=>.inl (by rw[a0g (a05.1 hi).1];exact hi)
theorem HR.push(hr:HR X P A m H h){pb:PB X.Γ}{hb:HB}{mb:MB}(ho:mb.own=some h.length∨mb.own=none)(qR:BR X P (AA A (m++[mb])) (m++[mb]) (h++[hb]) pb mb) :
  HR X P A (m++[mb]) (H++[pb]) (h++[hb])∧Fr m h (m++[mb]) (h++[hb])∧Up m (m++[mb]):=by
 have hF:Fr m h (m++[mb]) (h++[hb]):=by
  refine⟨by simp,fun b hb _=>by rw[a0g hb],fun b hb=>?_,fun b cs hc=>⟨cs,?_,a0x _⟩⟩
  .rw[jk,a2L,kJ]at hb;rcases hb with hb|hb
   .exact .inl hb
   .rcases ho with ho|ho<;>rw[ho]at hb<;>simp at hb
    exact .inr (by omega)
  .rw[fO (a0g (gX hc)),hc]
 refine⟨hr.next hF (wZ _) (by simp[hr.len]) ?_ fun i b hi=>?_,hF,wZ _⟩
 .rw[jk,kJ];refine a99.2 ⟨hr.nodup,?_,?_⟩
  .cases mb.own<;>simp
  .intro a ha b hb e;subst e;have:=hr.inb ha;rcases ho with ho|ho<;>rw[ho]at hb<;>simp at hb
   omega
 .rcases a4E i H.length with aQ|EX
  .left;rw[a0g aQ]at hi;obtain⟨MP,h1,h2⟩:=hr.at_ i b hi;refine⟨MP,hi,h1,by rw[a0g (by rw[hr.len];exact aQ)];exact h1,fun c hc=>?_⟩;rw[a0g (h2.has hc)]
  .right;rw[a0G EX]at hi;have:i-H.length=0:=by
    rcases abg (i-H.length)with h|h
    .exact h
    .rw[a4B (by simp;omega)]at hi;cases hi
   rw[this]at hi;simp only[a2F,a04]at hi;subst hi;exact⟨mb,by rw[a0G (by rw[hr.len];exact EX),hr.len,this];rfl,qR⟩
theorem HR.ach(hr:HR X P A m H h){pb:PB X.Γ}{mb:MB}(ho:mb.own=none)(qR:BR X P (AA A (m++[mb])) (m++[mb]) h pb mb) :
  HR X P A (m++[mb]) (H++[pb]) h∧Fr m h (m++[mb]) h∧Up m (m++[mb]):=by
 have zl:bD (m++[mb])=bD m:=by rw[jk,kJ,ho];simp
 have hF:Fr m h (m++[mb]) h:=⟨a0x _,fun _ _ _=>rfl,fun b hb=>.inl (zl▸hb),fun b cs hc=>⟨cs,hc,a0x _⟩⟩;refine⟨hr.next hF (wZ _) (by simp[hr.len]) (by rw[zl];exact hr.nodup) fun i b hi=>?_,hF,wZ _⟩;rcases a4E i H.length with aQ|EX
 .left;rw[a0g aQ]at hi;obtain⟨MP,h1,h2⟩:=hr.at_ i b hi;exact⟨MP,hi,h1,by rw[a0g (by rw[hr.len];exact aQ)];exact h1,fun c hc=>rfl⟩
 .right;rw[a0G EX]at hi;have:i-H.length=0:=by
   rcases abg (i-H.length)with h|h
   .exact h
   .rw[a4B (by simp;omega)]at hi;cases hi
  rw[this]at hi;simp only[a2F,a04]at hi;subst hi;exact⟨mb,by rw[a0G (by rw[hr.len];exact EX),hr.len,this];rfl,qR⟩
theorem HR.set(hr:HR X P A m H h){i c:Nat}{mb:MB}{pb:PB X.Γ}{hb:HB}(hi:m[i]? = some mb)(ho:mb.own=some c)(hg:∀cs,aV h c=some cs->∃cs',aV (h.set c hb) c=some cs'∧cs.length<=cs'.length)
  (qR:Fr m h m (h.set c hb)->BR X P (AA A m) m (h.set c hb) pb mb):HR X P A m (H.set i pb) (h.set c hb)∧Fr m h m (h.set c hb):=by
 have hF:Fr m h m (h.set c hb):=by
  refine⟨by simp,fun b hb hn=>?_,fun b hb=>.inl hb,fun b cs hc=>?_⟩
  .rw[a0L];intro e;subst e;exact hn (bg hi ho)
  .by_cases e:c=b
   .subst e;exact hg cs hc
   .exact⟨cs,by rw[fO (a0L e),hc],a0x _⟩
 refine⟨hr.next hF .refl (by simp[hr.len]) hr.nodup fun j b hj=>?_,hF⟩;by_cases e:i=j
 .subst e;rw[a4G ]at hj;right;have:H[i]?.isSome:=by
   have:i<H.length:=by rw[<-hr.len];exact(a05.1 hi).1
   simp[this]
  obtain⟨y,hy⟩:=a5g.1 this;rw[hy]at hj;cases hj;exact⟨mb,hi,qR hF⟩
 .rw[a0L e]at hj;left;obtain⟨MP,h1,h2⟩:=hr.at_ j b hj;refine⟨MP,hj,h1,h1,fun d hd=>a0L fun e2=>?_⟩;subst e2;exact e (jf hr.nodup hi h1 ho hd)
theorem Fj{i:Nat}:∀{m:List MB} {b:Nat},b∈bD (m.set i .gone)->b∈bD m:=by
 intro m b hb;obtain⟨mb,hm,ho⟩:=a5X.1 hb;obtain⟨j,hj⟩:=a8K hm;by_cases e:i=j
 .subst e;rw[a4G]at hj;cases hx:m[i]? with
  |none=>rw[hx]at hj;cases hj
  |some y=>rw[hx]at hj;cases hj;cases ho
 rw[a0L e]at hj;exact bg hj ho
theorem OG{i:Nat}:∀{m:List MB},(bD m).Nodup->(bD (m.set i .gone)).Nodup:=by
 unfold bD;intro m
 induction m generalizing i with
 |nil=>intro h;simp
 |cons x r ih=>
  intro hn;cases i with
  |zero=>
   simp only[List.set_cons_zero,a9g,MB.own];simp only[a9g]at hn;split at hn
   .exact hn
   exact(a4J.1 hn).2
  |succ i=>
   simp only[List.set_cons_succ,a9g];simp only[a9g]at hn;split at hn
   .exact ih hn
   refine a4J.2 ⟨fun hb=>(a4J.1 hn).1 ?_,ih (a4J.1 hn).2⟩;exact Fj (m:=r) hb
theorem a1m{i:Nat}:Fr m h (m.set i .gone) h:=⟨a0x _,fun _ _ _=>rfl,fun _ hb=>.inl (Fj hb),fun _ cs hc=>⟨cs,hc,a0x _⟩⟩
theorem a1n{i:Nat}:Up m (m.set i .gone):=fun j mb hj=>by
 by_cases e:i=j
 .subst e;right;rw[a4G,hj];rfl
 .left;rw[a0L e];exact hj
theorem HR.gone(hr:HR X P A m H h)(i:Nat):HR X P A (m.set i .gone) (H.set i .gone) h:=by
 refine hr.next a1m a1n (by simp[hr.len]) (OG hr.nodup) fun j b hj=>?_;by_cases e:i=j
 .subst e;right;rw[a4G]at hj;cases hx:H[i]? with
  |none=>rw[hx]at hj;cases hj
  |some y=>
   rw[hx]at hj;cases hj;obtain⟨mb,h1,_⟩:=hr.at_ i y hx;exact⟨.gone,by rw[a4G,h1];rfl,trivial⟩
 rw[a0L e]at hj;left;obtain⟨mb,h1,_⟩:=hr.at_ j b hj;exact⟨mb,hj,h1,by rw[a0L e];exact h1,fun _ _=>rfl⟩
def bW:List Nat->List MB->List MB
 | [],m=>m
 |i::is,m=>bW is (m.set i .gone)
theorem iE:∀(is:List Nat) (m:List MB),Fr m h (bW is m) h∧Up m (bW is m)
 | [],m=>⟨.refl,.refl⟩
 |i::is,m=>⟨a1m.trans (iE is _).1,a1n.trans (iE is _).2⟩
theorem HR.aZ:∀(is:List Nat) {m:List MB} {H:List (PB X.Γ)},HR X P A m H h->HR X P A (bW is m) (aZ is H) h
 | [],_,_,hr=>hr
 |i::is,_,_,hr=>HR.aZ is (hr.gone i)
theorem og:∀(is:List Nat) (H:List (PB X.Γ)),(Pv.aZ is H).length=H.length
 | [],_=>rfl
 |i::is,H=>by rw[Pv.aZ,og is];simp[X5]
theorem ng:∀(is:List Nat) (m:List MB),(bW is m).length=m.length
 | [],_=>rfl
 |i::is,m=>by rw[bW,ng is];simp
theorem Hg:∀(is:List Nat) {m:List MB} {i:Nat} {mb:MB},m[i]? = some mb->(bW is m)[i]? = some (if is.contains i then .gone else mb)
 | [],_,_,_,h=>by simpa[bW]using h
 |j::is,m,i,mb,h=>by
  rw[bW];by_cases e:j=i
  .subst e;have:(m.set j .gone)[j]? = some .gone:=by rw[a4G,h];rfl
   rw[Hg is this];simp
  rw[Hg is (by rw[a0L e];exact h)];have:(i==j)=false:=by simp;omega
  simp only[ahd,this,agC]
end
section
variable {X:l7} {P:Program} {A:Nat->Prop} {m m':List MB} {h h':List HB} {H H':List (PB X.Γ)}
theorem bY.nil:bY X P A m h [] []:=⟨rfl,fun i x y hx=>by simp at hx⟩
theorem bY.cons{v:PV X.Γ}{x:TV}{vs:List (PV X.Γ)}{xs:List TV}(h1:VR X P A m h v x)(h2:bY X P A m h vs xs):bY X P A m h (v::vs) (x::xs):=by
 refine⟨by simp[h2.1],fun i a b ha hb=>?_⟩;cases i with
 |zero=>simp only[a2F,a04]at ha hb;subst ha;subst hb;exact h1
 |succ i=>exact h2.2 i a b (by simpa using ha) (by simpa using hb)
theorem bY.inv{v:PV X.Γ}{vs:List (PV X.Γ)}{xs:List TV}(hv:bY X P A m h (v::vs) xs):∃x r,xs=x::r∧VR X P A m h v x∧bY X P A m h vs r:=by
 cases xs with
 |nil=>have:=hv.1;simp at this
 |cons x r=>exact⟨x,r,rfl,hv.2 0 v x rfl rfl,by have:=hv.1;simpa using this,fun i a b ha hb=>hv.2 (i+1) a b (by simpa using ha) (by simpa using hb)⟩
theorem bY.inv0{xs:List TV}(hv:bY X P A m h [] xs):xs=[]:=by have:=hv.1;cases xs<;>simp_all
theorem bY.app{a b:List (PV X.Γ)}{x y:List TV}(h1:bY X P A m h a x)(h2:bY X P A m h b y):bY X P A m h (a++b) (x++y):=by
 refine⟨by simp[h1.1,h2.1],fun i c d hc hd=>?_⟩;rcases a4E i a.length with hl|hl
 .rw[a0g hl]at hc;rw[a0g (by rw[<-h1.1];exact hl)]at hd;exact h1.2 i c d hc hd
 rw[a0G hl]at hc;rw[a0G (by rw[<-h1.1];exact hl),<-h1.1]at hd;exact h2.2 _ c d hc hd
theorem bY.drop{a:List (PV X.Γ)}{x:List TV}(h1:bY X P A m h a x)(n:Nat):bY X P A m h (a.drop n) (x.drop n):=
 ⟨by simp[h1.1],fun i c d hc hd=>h1.2 (n+i) c d (by rw[<-hc,a4F]) (by rw[<-hd,a4F])⟩
theorem bY.take{a:List (PV X.Γ)}{x:List TV}(h1:bY X P A m h a x)(n:Nat):bY X P A m h (a.take n) (x.take n):=by
 refine⟨by simp[h1.1],fun i c d hc hd=>?_⟩;rw[a4I]at hc hd;split at hc
 .rename_i hl;rw[a0u hl]at hd;exact h1.2 i c d hc hd
 cases hc
theorem bY.get{a:List (PV X.Γ)}{x:List TV}(h1:bY X P A m h a x){i:Nat}{c:PV X.Γ}(hc:a[i]? = some c):∃v,x[i]? = some v∧VR X P A m h c v:=by
 have hl:i<x.length:=by rw[<-h1.1];exact(a05.1 hc).1
 exact⟨x[i],a0b hl,h1.2 i c _ hc (a0b hl)⟩
theorem SB{v:PV X.Γ}{x tv:TV}(hv:VR X P A m h v x)(hp:rH v=some tv):x=tv:=by
 cases hv with
 |gone hi _ _=>cases v<;>simp[bn]at hi<;>simp[rH]at hp
 |_=>first|(simp only[rH,a04]at hp;exact hp)|(simp[rH]at hp;done)
theorem FZ:∀{vs:List (PV X.Γ)} {xs tvs:List TV},bY X P A m h vs xs->iQ vs=some tvs->xs=tvs
 | [],xs,tvs,hv,hp=>by simp only[iQ,a04]at hp;rw[hv.inv0,hp]
 |v::vs,xs,tvs,hv,hp=>by
  obtain⟨x,r,rfl,h1,h2⟩:=hv.inv;simp only[iQ]at hp;split at hp
  .rename_i a b ha hb;cases hp;rw[SB h1 ha,FZ h2 hb]
  cases hp
theorem jT{v:PV X.Γ}{x tv:TV}(hv:VR X P A m h v x)(hp:qy v=some tv):x=tv:=by
 cases v with
 |agg cs=>
  simp only[qy,a07]at hp;obtain⟨tvs,h1,rfl⟩:=hp;cases hv with
  |agg h2 h3=>rw[FZ ⟨h2,h3⟩ h1]
  |gone hi _ _=>simp[bn]at hi
 |_=>exact SB hv hp
theorem a1o:∀{vs:List (PV X.Γ)} {xs tvs:List TV},bY X P A m h vs xs->UF vs=some tvs->xs=tvs
 | [],xs,tvs,hv,hp=>by simp only[UF,a04]at hp;rw[hv.inv0,hp]
 |v::vs,xs,tvs,hv,hp=>by
  obtain⟨x,r,rfl,h1,h2⟩:=hv.inv;simp only[UF]at hp;split at hp
  .rename_i a b ha hb;cases hp;rw[jT h1 ha,a1o h2 hb]
  cases hp
theorem a6l{v:PV X.Γ}{x:TV}(hp:ofC x=some v):VR X P A m h v x:=by
 cases x<;>simp[ofC]at hp<;>subst hp<;>constructor
theorem UR:∀{xs:List TV} {vs:List (PV X.Γ)},CG xs=some vs->bY X P A m h vs xs
 | [],vs,hp=>by simp only[CG,a04]at hp;subst hp;exact .nil
 |x::xs,vs,hp=>by
  simp only[CG]at hp;split at hp
  .rename_i a b ha hb;cases hp;exact .cons (a6l ha) (UR hb)
  cases hp
theorem xg{v:PV X.Γ}{x:TV}(hp:YM x=some v):VR X P A m h v x:=by
 cases x with
 |agg cs=>
  simp only[YM,a07]at hp;obtain⟨vs,h1,rfl⟩:=hp;have:=UR (X:=X) (P:=P) (A:=A) (m:=m) (h:=h) h1;exact .agg this.1 this.2
 |_=>exact a6l hp
theorem SC{v:PV X.Γ}{x:TV}(hp:rH v=some x):VR X P A m h v x:=by
 cases v<;>simp only[rH,a04,reduceCtorEq]at hp<;>subst hp
 .exact .bool _
 .exact .int _ _
 .exact .str _
 exact .nil _
theorem G5:∀{vs:List (PV X.Γ)} {xs:List TV},iQ vs=some xs->bY X P A m h vs xs
 | [],xs,hp=>by simp only[iQ,a04]at hp;subst hp;exact .nil
 |v::vs,xs,hp=>by
  simp only[iQ]at hp;split at hp
  .rename_i a b ha hb;cases hp;exact .cons (SC ha) (G5 hb)
  cases hp
theorem oh{v:PV X.Γ}{x:TV}(hp:qy v=some x):VR X P A m h v x:=by
 cases v with
 |agg cs=>
  simp only[qy,a07]at hp;obtain⟨vs,h1,rfl⟩:=hp;have:=G5 (X:=X) (P:=P) (A:=A) (m:=m) (h:=h) h1;exact .agg this.1 this.2
 |_=>exact SC hp
theorem Hl{v:PV X.Γ}{x:TV}(hv:VR X P A m h v x):VR X P A m h (a1g v) x:=by
 cases v with
 |lit b=>
  cases hv with
  |lit=>exact .bool _
  |gone hi _ _=>simp[bn]at hi
 |_=>exact hv
theorem a6m{v:PV X.Γ}{x:TV}(hv:VR X P A m h v x):jd x=Zv v:=by
 cases hv with
 |own _ o=>exact o
 |gone hi _ o=>rw[o];cases v<;>simp[bn]at hi<;>rfl
 |_=>rfl
theorem Ho{v:PV X.Γ}{x:TV}(hv:VR X P A m h v x):bY X P A m h v.cells x.cells:=by
 have hq:=a6m hv;cases v with
 |agg cs=>
  cases hv with
  |agg h1 h2=>exact⟨h1,h2⟩
  |gone hi _ _=>simp[bn]at hi
 |dM cs=>
  have hv':=hv;cases hv with
  |dM h1 h2=>exact .cons hv' .nil
  |gone hi _ _=>simp[bn]at hi
 |_=>
  have:x.cells=[x]:=by
   cases x<;>first|rfl|(simp[jd,Zv]at hq;done)
  rw[this];exact .cons hv .nil
theorem Eh:∀{vs:List (PV X.Γ)} {xs:List TV},bY X P A m h vs xs->xs.all jd=vs.all Zv
 | [],xs,hv=>by rw[hv.inv0];rfl
 |v::vs,xs,hv=>by
  obtain⟨x,r,rfl,h1,h2⟩:=hv.inv;simp only[ac1,a6m h1,Eh h2]
theorem aeu{cs:List (PV X.Γ)}{xs:List TV}(hv:bY X P A m h cs xs){off n:Nat}{r:List (PV X.Γ)}(hs:ael cs off n=some r):∃r',sub xs off n=some r'∧bY X P A m h r r':=by
 unfold ael at hs;split at hs
 .rename_i hl;cases hs;exact⟨_,by unfold sub;rw[a0u (by rw[<-hv.1];exact hl)],(hv.drop off).take n⟩
 cases hs
theorem Hq{cs new:List (PV X.Γ)}{xs ail:List TV}(hv:bY X P A m h cs xs)(hn:bY X P A m h new ail){off:Nat}{r:List (PV X.Γ)}(hs:Oz cs off new=some r):∃r',wH xs off ail=some r'∧bY X P A m h r r':=by
 unfold Oz at hs;split at hs
 .rename_i hl;cases hs;refine⟨_,by unfold wH;rw[a0u (by rw[<-hv.1,<-hn.1];exact hl)],?_⟩;rw[<-hn.1];exact((hv.take off).app hn).app (hv.drop _)
 cases hs
theorem AP{cs:List (PV X.Γ)}{xs:List TV}(hv:bY X P A m h cs xs){t:TypeId}{off:Nat}{v:PV X.Γ}(hs:H7 P t cs off=some v):∃x,uH P t xs off=some x∧VR X P A m h v x:=by
 unfold H7 at hs;unfold uH;split at hs
 .rename_i n ha hn;simp only[a07]at hs;obtain⟨r,h1,rfl⟩:=hs;obtain⟨r',g1,g2⟩:=aeu hv h1;exact⟨.agg r',by simp only[ha,hn,g1,a0B],.agg g2.1 g2.2⟩
 .rename_i n ha hn;split at hs
  .rename_i h1;obtain⟨x,g1,g2⟩:=hv.get hs;exact⟨x,by simp only[ha,hn,h1,a2k,g1],g2⟩
  cases hs
 cases hs
theorem Ht{t:TypeId}{z:List (PV X.Γ)}(hz:Sv P t=some z):∃z',Ko P t=some z'∧bY X P A m h z z':=by
 unfold Sv at hz;split at hz
 .rename_i z' h1;exact⟨z',h1,UR hz⟩
 cases hz
def VPs(X:l7)(P:Program)(A:Nat->Prop)(m:List MB)(h:List HB)(ps:List (Nat×PV X.Γ))(qs:List (Nat×TV)):Prop:=
 ps.length=qs.length∧∀(i:Nat) a b,ps[i]? = some a->qs[i]? = some b->a.1=b.1∧VR X P A m h a.2 b.2
theorem VPs.inv{a:Nat×PV X.Γ}{ps:List (Nat×PV X.Γ)}{qs:List (Nat×TV)}(hv:VPs X P A m h (a::ps) qs):∃x r,qs=(a.1,x)::r∧VR X P A m h a.2 x∧VPs X P A m h ps r:=by
 cases qs with
 |nil=>have:=hv.1;simp at this
 |cons q r=>
  obtain⟨h1,h2⟩:=hv.2 0 a q rfl rfl;refine⟨q.2,r,by rw[h1],h2,by have:=hv.1;simpa using this,fun i x y hx hy=>hv.2 (i+1) x y (by simpa using hx) (by simpa using hy)⟩
theorem MQ{pl:Nat->Option (Nat×Nat)}:∀{ps:List (Nat×PV X.Γ)} {qs:List (Nat×TV)} {cs:List (PV X.Γ)} {xs:List TV},VPs X P A m h ps qs->bY X P A m h cs xs->∀{r:List (PV X.Γ)},OA pl cs ps=some r->∃r',sN pl xs qs=some r'∧bY X P A m h r r'
 | [],qs,cs,xs,hp,hv,r,hs=>by
  have:qs=[]:=by have:=hp.1;cases qs<;>simp_all
  subst this;simp only[OA,a04]at hs;subst hs;exact⟨xs,rfl,hv⟩
 |(i,v)::ps,qs,cs,xs,hp,hv,r,hs=>by
  obtain⟨x,rest,rfl,h1,h2⟩:=hp.inv;have hc:=Ho h1;simp only[OA]at hs;split at hs
  .rename_i off size Gp;split at hs
   .rename_i vH;split at hs
    .rename_i cs' ho;obtain⟨xs',g1,g2⟩:=Hq hv hc ho;obtain⟨r',g3,g4⟩:=MQ h2 g2 hs;have ae7:x.cells.length=size:=by rw[<-hc.1];exact vH
     exact⟨r',by simp only[sN,Gp,ae7,a2k,g1,g3],g4⟩
    cases hs
   cases hs
  cases hs
theorem a6n{t:TypeId}{ps:List (Nat×PV X.Γ)}{qs:List (Nat×TV)}(hp:VPs X P A m h ps qs){v:PV X.Γ}(hs:Zx P t ps=some v):∃x,Nz P t qs=some x∧VR X P A m h v x:=by
 unfold Zx at hs;unfold Nz;split at hs
 .rename_i z fs hz hu;obtain⟨z',g1,g2⟩:=Ht (A:=A) (m:=m) (h:=h) hz;split at hs
  .rename_i ha;simp only[a07]at hs;obtain⟨r,h1,rfl⟩:=hs;obtain⟨r',g3,g4⟩:=MQ hp g2 h1;exact⟨.agg r',by simp only[g1,hu,ha,a2k,g3,a0B],.agg g4.1 g4.2⟩
  cases hs
 .rename_i z n e hz hu;obtain⟨z',g1,g2⟩:=Ht (A:=A) (m:=m) (h:=h) hz;split at hs
  .rename_i k hk;simp only[a07]at hs;obtain⟨r,h1,rfl⟩:=hs;obtain⟨r',g3,g4⟩:=MQ hp g2 h1;exact⟨.agg r',by simp only[g1,hu,hk,g3,a0B],.agg g4.1 g4.2⟩
  cases hs
 cases hs
theorem X9{z:List (PV X.Γ)}{z':List TV}(hz:bY X P A m h z z'):∀n,bY X P A m h (Zy z n) (times z' n)
 | 0=>.nil
 |n+1=>hz.app (X9 hz n)
section
variable {env:List (Nat×PE X.Γ)} {env':List (Nat×EV)}
theorem a1p(he:ku X P A m h env env'){t:Nat}:(Fg t env=none∧dR t env'=none)∨∃v x,Fg t env=some v∧dR t env'=some x∧IQ X P A m h v x:=by
 induction he with
 |nil=>exact .inl ⟨rfl,rfl⟩
 |cons h1 _ ih=>
  rename_i k v x r r' _;simp only[Fg,dR];by_cases e:k=t
  .right;exact⟨v,x,by rw[a0u e],by rw[a0u e],h1⟩
  rw[a0o e,a0o e];exact ih
theorem pF(he:ku X P A m h env env'){t:Nat}{v:PE X.Γ}(hl:Fg t env=some v):∃x,dR t env'=some x∧IQ X P A m h v x:=by
 rcases a1p he (t:=t)with⟨h1,_⟩|⟨w,x,h1,h2,h3⟩
 .rw[hl]at h1;cases h1
 rw[hl]at h1;cases h1;exact⟨x,h2,h3⟩
theorem nN(he:ku X P A m h env env'){o:Operand}{v:PE X.Γ}(hl:FU env o=some v):∃x,IJ env' o=some x∧IQ X P A m h v x:=by
 cases o with
 |tmp t=>exact pF he hl
 |const c=>
  simp only[FU]at hl;split at hl
  .rename_i b hb;cases hl;exact⟨.val (.bool b),by simp only[IJ,hb,a0B],VR.lit b⟩
  .rename_i x _ hx;simp only[a07]at hl;obtain⟨w,h1,rfl⟩:=hl;exact⟨.val x,by simp only[IJ,hx,a0B],xg h1⟩
  cases hl
 |func f=>
  simp only[FU,a04]at hl;subst hl;exact⟨.val (.fn f [] []),rfl,.fn rfl (by simp) rfl (by simp)⟩
 |global g=>cases hl
theorem fU{v:PV X.Γ}{x:EV}(hp:IQ X P A m h (.val v) x):∃y,x=.val y∧VR X P A m h v y:=by
 cases x with
 |val y=>exact⟨y,rfl,hp⟩
 |_=>exact hp.elim
theorem Ei{k o:Nat}{x:EV}(hp:IQ X P A m h (.loc k o) x):x=.loc k o:=by
 cases x with
 |loc k' o'=>obtain⟨rfl,rfl⟩:=hp;rfl
 |_=>exact hp.elim
theorem Jg{x:EV}(hp:IQ X P A m h .undef x):x=.undef:=by
 cases x with
 |undef=>rfl
 |_=>exact hp.elim
theorem MR{r j:Nat}{v:PV X.Γ}{x:EV}(hp:IQ X P A m h (.ent r j v) x):∃c y,x=.ent c j y∧VR X P A m h (.map r) (.map c)∧qy v=some y:=by
 cases x with
 |ent c j' y=>obtain⟨h1,rfl,h2⟩:=hp;exact⟨c,y,rfl,h1,h2⟩
 |_=>exact hp.elim
theorem MS{r j:Nat}{x:EV}(hp:IQ X P A m h (.EI r j) x):∃c,x=.EI c j∧VR X P A m h (.map r) (.map c):=by
 cases x with
 |EI c j'=>obtain⟨h1,rfl⟩:=hp;exact⟨c,rfl,h1⟩
 |_=>exact hp.elim
theorem Xa(he:ku X P A m h env env'){o:Operand}{v:PV X.Γ}(hl:a1h env o=some v):∃x,qV env' o=some x∧VR X P A m h v x:=by
 unfold a1h at hl;split at hl
 .rename_i w hw;cases hl;obtain⟨x,h1,h2⟩:=nN he hw;obtain⟨y,rfl,h3⟩:=fU h2;exact⟨y,by simp only[qV,h1],h3⟩
 cases hl
theorem jB(he:ku X P A m h env env'){o:Operand}{v:PV X.Γ}(hl:Ad env o=some v):∃x,qV env' o=some x∧VR X P A m h v x:=by
 unfold Ad at hl;split at hl
 .rename_i w hw;cases hl;obtain⟨x,h1,h2⟩:=nN he hw;obtain⟨y,rfl,h3⟩:=fU h2;exact⟨y,by simp only[qV,h1],Hl h3⟩
 cases hl
theorem UU(he:ku X P A m h env env'):∀{os:List Operand} {vs:List (PV X.Γ)},Zw env os=some vs->∃xs,U9 env' os=some xs∧bY X P A m h vs xs
 | [],vs,hl=>by simp only[Zw,a04]at hl;subst hl;exact⟨[],rfl,.nil⟩
 |o::os,vs,hl=>by
  simp only[Zw]at hl;split at hl
  .rename_i v ws h1 h2;cases hl;obtain⟨x,g1,g2⟩:=jB he h1;obtain⟨xs,g3,g4⟩:=UU he h2;exact⟨x::xs,by simp only[U9,g1,g3],.cons g2 g4⟩
  cases hl
theorem ZI(he:ku X P A m h env env'):∀{os:List (Nat×Operand)} {vs:List (Nat×PV X.Γ)},a3f env os=some vs->∃xs,Wi env' os=some xs∧VPs X P A m h vs xs
 | [],vs,hl=>by simp only[a3f,a04]at hl;subst hl;exact⟨[],rfl,rfl,fun i a b ha=>by simp at ha⟩
 |(i,o)::os,vs,hl=>by
  simp only[a3f]at hl;split at hl
  .rename_i v ws h1 h2;cases hl;obtain⟨x,g1,g2⟩:=jB he h1;obtain⟨xs,g3,g4⟩:=ZI he h2;refine⟨(i,x)::xs,by simp only[Wi,g1,g3],by simp[g4.1],fun j a b ha hb=>?_⟩;cases j with
   |zero=>simp only[a2F,a04]at ha hb;subst ha;subst hb;exact⟨rfl,g2⟩
   |succ j=>exact g4.2 j a b (by simpa using ha) (by simpa using hb)
  cases hl
def OR(X:l7)(P:Program)(A:Nat->Prop)(m:List MB)(h:List HB):Option (PV X.Γ)->Option TV->Prop
 |none,none=>True
 |some v,some x=>VR X P A m h v x
 |_,_=>False
theorem Hu(he:ku X P A m h env env'){o:Option Operand}{v:Option (PV X.Γ)}(hl:Oy env o=some v):∃x,Wn env' o=some x∧OR X P A m h v x:=by
 cases o with
 |none=>simp only[Oy,a04]at hl;subst hl;exact⟨none,rfl,trivial⟩
 |some o=>
  simp only[Oy]at hl;split at hl
  .rename_i w hw;cases hl;obtain⟨x,g1,g2⟩:=jB he hw;exact⟨some x,by simp only[Wn,g1],g2⟩
  cases hl
theorem UW(he:ku X P A m h env env'):∀live,ku X P A m h (jm live env) (pick live env')
 | []=>.nil
 |t::r=>by
  simp only[jm,pick];rcases a1p he (t:=t)with⟨h1,h2⟩|⟨v,x,h1,h2,h3⟩
  .rw[h1,h2];exact UW he r
  rw[h1,h2];exact .cons h3 (UW he r)
theorem a9T(he:ku X P A m h env env'){t:Nat}{b:Bool}(hb:dR t env'=some (.val (.bool b))):ku X P A m h (Pv.BZ t b env) env':=by
 induction he with
 |nil=>exact .nil
 |cons h1 h2 ih=>
  rename_i k v x r r';simp only[dR]at hb;simp only[Pv.BZ];by_cases e:k=t
  .rw[a0u e]at hb ⊢;cases hb;exact .cons (VR.lit b) h2
  rw[a0o e]at hb ⊢;exact .cons h1 (ih hb)
theorem aev(he:ku X P A m h env env'):UO X env=CS env':=by
 induction he with
 |nil=>rfl
 |cons h1 _ ih=>
  rename_i k v x r r' _;cases v with
  |val v=>obtain⟨y,rfl,_⟩:=fU h1;simpa[UO,CS]using ih
  |loc a b=>rw[Ei h1];simp only[UO,CS,ih]
  |undef=>rw[Jg h1];simpa[UO,CS]using ih
  |ent=>obtain⟨_,_,rfl,_⟩:=MR h1;simpa[UO,CS]using ih
  |EI=>obtain⟨_,rfl,_⟩:=MS h1;simpa[UO,CS]using ih
end
end
structure bP(X:l7)(P:Program):Prop where
 dec:∀{t:Nat} {vs:List (PV X.Γ)} {a:X.Γ t},X.dec t vs=some a->∀{A:Nat->Prop} {m:List MB} {h:List HB} {xs:List TV},bY X P A m h vs xs->bY X P A m h (X.enc t a) xs
 jw:∀(t:Nat) (a:X.Γ t),jw.H9 (X.enc t a)=true
section
variable {X:l7} {P:Program} {A B:Nat->Prop} {m m':List MB} {h h':List HB} {H H':List (PB X.Γ)}
theorem VR.mono(hAB:∀b,A b->B b){v:PV X.Γ}{x:TV}(hv:VR X P A m h v x):VR X P B m h v x:=by
 induction hv with
 |bool=>exact .bool _
 |lit=>exact .lit _
 |int=>exact .int _ _
 |str=>exact .str _
 |nil=>exact .nil _
 |ptr e=>exact .ptr e
 |slc e=>exact .slc e
 |own e o=>exact .own e o
 |win e q q' q2=>exact .win e q q' q2
 |AL e=>exact .AL e
 |map e=>exact .map e
 |iter e=>exact .iter e
 |fn h1 _ h3 _ i2 i4=>exact .fn h1 i2 h3 i4
 |kZ e=>exact .kZ e
 |agg h1 _ i2=>exact .agg h1 i2
 |dM h1 _ i2=>exact .dM h1 i2
 |pz=>exact .pz
 |dF a c c2 s z o k f e _ ih=>exact .dF (hAB _ a) c c2 s z o k f e ih
 |el a c l o e q _ ih=>exact .el (hAB _ a) c l o e q ih
 |row e j q=>exact .row e j q
 |gone i e o=>exact .gone i e o
theorem bY.mono(hAB:∀b,A b->B b){v:List (PV X.Γ)}{x:List TV}(hv:bY X P A m h v x):bY X P B m h v x:=⟨hv.1,fun i a b ha hb=>(hv.2 i a b ha hb).mono hAB⟩
theorem fD:∀{vs:List (PV X.Γ)} {i:Nat} {v:PV X.Γ},jw.H9 vs=true->vs[i]? = some v->jw v=true
 | [],_,_,_,h=>by simp at h
 |a::vs,i,v,hc,h=>by
  simp only[jw.H9,a1D]at hc;cases i with
  |zero=>simp only[a2F,a04]at h;subst h;exact hc.1
  |succ i=>exact fD hc.2 (by simpa using h)
theorem VR.jw(hX:bP X P){v:PV X.Γ}{x:TV}(hv:VR X P A m h v x)(hc:Pv.jw v=true):VR X P A m' h v x:=by
 induction hv with
 |bool=>exact .bool _
 |lit=>exact .lit _
 |int=>exact .int _ _
 |str=>exact .str _
 |nil=>exact .nil _
 |fn h1 _ h3 _ i2 i4=>
  simp only[Pv.jw,a1D]at hc;exact .fn h1 (fun i x y hx hy=>i2 i x y hx hy (fD hc.1 hx)) h3 (fun i x y hx hy=>i4 i x y hx hy (fD hc.2 hx))
 |agg h1 _ i2=>
  simp only[Pv.jw]at hc;exact .agg h1 (fun i x y hx hy=>i2 i x y hx hy (fD hc hx))
 |dM h1 _ i2=>
  simp only[Pv.jw]at hc;exact .dM h1 (fun i x y hx hy=>i2 i x y hx hy (fD hc hx))
 |pz=>exact .pz
 |dF a c c2 s z o k f e _ ih=>exact .dF a c c2 s z o k f e fun j y i d v h1 h2 h3=>ih j y i d v h1 h2 h3 (fD (hX.jw _ _) h2)
 |el a c l o e q _ ih=>exact .el a c l o e q fun i d v h1 h2=>ih i d v h1 h2 (fD (hX.jw _ _) h1)
 |gone i e o=>rename_i v _ _;cases v<;>simp[bn]at i<;>simp[Pv.jw]at hc
 |_=>simp[Pv.jw]at hc
theorem eG.jw(hX:bP X P){t:Nat}{l:List (X.Γ t)}{cs:List TV}{off sz:Nat}(hv:eG X P A m h t l cs off sz):eG X P A m' h t l cs off sz:=
 ⟨hv.1,hv.2.1,fun j a i c v h1 h2 h3=>(hv.2.2 j a i c v h1 h2 h3).jw hX (fD (hX.jw _ _) h2)⟩
theorem eG.mono(hAB:∀b,A b->B b){t:Nat}{l:List (X.Γ t)}{cs:List TV}{off sz:Nat}(hv:eG X P A m h t l cs off sz):eG X P B m h t l cs off sz:=
 ⟨hv.1,hv.2.1,fun j a i c v h1 h2 h3=>(hv.2.2 j a i c v h1 h2 h3).mono hAB⟩
theorem VR.move(hX:bP X P)(hA:∀q cs,A q->aV h q=some cs->B q∧h'[q]? = h[q]?){v:PV X.Γ}{x:TV}(hv:VR X P A m h v x)(hc:Pv.jw v=true):VR X P B m' h' v x:=by
 induction hv with
 |bool=>exact .bool _
 |lit=>exact .lit _
 |int=>exact .int _ _
 |str=>exact .str _
 |nil=>exact .nil _
 |fn h1 _ h3 _ i2 i4=>
  simp only[Pv.jw,a1D]at hc;exact .fn h1 (fun i x y hx hy=>i2 i x y hx hy (fD hc.1 hx)) h3 (fun i x y hx hy=>i4 i x y hx hy (fD hc.2 hx))
 |agg h1 _ i2=>
  simp only[Pv.jw]at hc;exact .agg h1 (fun i x y hx hy=>i2 i x y hx hy (fD hc hx))
 |dM h1 _ i2=>
  simp only[Pv.jw]at hc;exact .dM h1 (fun i x y hx hy=>i2 i x y hx hy (fD hc hx))
 |pz=>exact .pz
 |dF a c c2 s z o k f e _ ih=>obtain⟨a',c'⟩:=hA _ _ a c;exact .dF a' ((fO c').trans c) (fun hl=>(yE c').trans (c2 hl)) s z o k f e fun j y i d v h1 h2 h3=>ih j y i d v h1 h2 h3 (fD (hX.jw _ _) h2)
 |el a c l o e q _ ih=>obtain⟨a',c'⟩:=hA _ _ a (AO c);exact .el a' ((yE c').trans c) l o e q fun i d v h1 h2=>ih i d v h1 h2 (fD (hX.jw _ _) h1)
 |gone i e o=>rename_i v _ _;cases v<;>simp[bn]at i<;>simp[Pv.jw]at hc
 |_=>simp[Pv.jw]at hc
theorem eG.move(hX:bP X P)(hA:∀q cs,A q->aV h q=some cs->B q∧h'[q]? = h[q]?){t:Nat}{l:List (X.Γ t)}{cs:List TV}{off sz:Nat}(hv:eG X P A m h t l cs off sz):eG X P B m' h' t l cs off sz:=
 ⟨hv.1,hv.2.1,fun j a i c v h1 h2 h3=>(hv.2.2 j a i c v h1 h2 h3).move hX hA (fD (hX.jw _ _) h2)⟩
def FA(A:Nat->Prop)(m:List MB)(is:List Nat):Nat->Prop:=fun b=>AA A m b∨∃i mb,i∈is∧m[i]? = some mb∧mb.own=some b
theorem FA.mono{is js:List Nat}(hs:∀i,i∈is->i∈js){b:Nat}(hb:FA A m is b):FA A m js b:=by
 rcases hb with h|⟨i,mb,h1,h2,h3⟩
 .exact .inl h
 exact .inr ⟨i,mb,hs i h1,h2,h3⟩
theorem OH:∀(is:List Nat) {m:List MB} {i:Nat} {mb:MB},(bW is m)[i]? = some mb->mb.own≠none->i∉is∧m[i]? = some mb
 | [],_,_,_,h,_=>⟨by simp,h⟩
 |j::is,m,i,mb,h,hn=>by
  obtain⟨h1,h2⟩:=OH is (m:=m.set j .gone) h hn;by_cases e:j=i
  .subst e;rw[a4G]at h2;cases hx:m[j]? with
   |none=>rw[hx]at h2;cases h2
   |some y=>rw[hx]at h2;cases h2;exact absurd rfl hn
  rw[a0L e]at h2;exact⟨by simp[h1,Ne.symm e],h2⟩
theorem AQ{is:List Nat}{m:List MB}{b:Nat}(hb:b∈bD (bW is m)):∃i mb,i∉is∧m[i]? = some mb∧mb.own=some b:=by
 obtain⟨mb,hm,ho⟩:=a5X.1 hb;obtain⟨i,hi⟩:=a8K hm;obtain⟨h1,h2⟩:=OH is hi (by rw[ho];simp);exact⟨i,mb,h1,h2,ho⟩
theorem FA.gone(hr:HR X P A m H h){is:List Nat}{b:Nat}(hb:FA A m is b):AA A (bW is m) b:=by
 rcases hb with hb|⟨i,mb,h1,h2,h3⟩
 .refine⟨hb.1,fun hm=>?_⟩;obtain⟨i,mb,_,h2,h3⟩:=AQ hm;exact hb.2 (bg h2 h3)
 refine⟨hr.Di b (bg h2 h3),fun hm=>?_⟩;obtain⟨j,MP,g1,g2,g3⟩:=AQ hm;have:=jf hr.nodup h2 g2 h3 g3;exact g1 (this▸h1)
theorem SE(hX:bP X P)(hr:HR X P A m H h){k ex:Bool}{t i:Nat}{l:List (X.Γ t)}{x:TV}(hl:LR X P (AA A m) m h k ex t l x)(hi:m[i]? = some (.dF x)){is:List Nat}(hs:i∈is):VR X P (FA A m is) m' h (.dF t l false) x:=by
 cases hl with
 |nil=>exact .pz
 |emp h0 h1 h2 h3 h4=>exact .dF (.inl h0) h1 (fun e=>absurd rfl e) h3 h4 (by simpa using h2) (a0x _) (by simp) (fun j a hj=>by simp at hj) (fun j a i c v hj=>by simp at hj)
 |some h1 h2 h3 h4 h5 h6 h7 h8 h9=>
  refine .dF (cs:=_) (.inr ⟨i,_,hs,hi,?_⟩) (by unfold aV;rw[h4]) (fun _=>wX h4 (by omega)) h2 h3 (by omega) (a0x _) (by simp) h9.1 ?_
  .simp only[MB.own];rw[a0o (by simpa using h1)]
  intro j a q c v e1 e2 e3;exact((h9.2.2 j a q c v e1 e2 e3).mono fun b hb=>.inl hb).jw hX (fD (hX.jw _ _) e2)
theorem VR.part{F:Nat->Prop}{t:Nat}{l:List (X.Γ t)}{fu:Bool}{b off len cap sz:Nat}{ex:Bool}(hv:VR X P F m h (.dF t l fu) (.slc b off len cap sz ex)){o n cap':Nat}{ex' fu':Bool}(hn:o+n<=len)(hc:n<=cap')(hw:n=0∨o+cap'=cap)(hfu:fu'=true->ex'=true∧cap'=n) :
  VR X P F m h (.dF t ((l.drop o).take n) fu') (.slc b (off+o*sz) n cap' sz ex'):=by
 cases hv with
 |dF a c c2 s z ol k f e r=>
  have hlen:((l.drop o).take n).length=n:=by rw[a3I,a3C];omega
  have:=@VR.dF X P F m h t ((l.drop o).take n) fu' b (off+o*sz) cap' sz ex' _ a c (fun iI=>by
   have h1:n≠0:=fun e=>iI (by subst e;simp);have h2:=hw.resolve_left h1;have h3:off+o*sz+cap'*sz=off+cap*sz:=by rw[<-h2,a3l];omega
   rw[h3];exact c2 (fun e=>by subst e;simp at hlen;omega)) s z (by
   rw[hlen];have:(o+n)*sz<=l.length*sz:=a3r sz hn;rw[a3l]at this;omega) (by rw[hlen];exact hc) (by rw[hlen];exact hfu) (fun j y hy=>by
    rw[a4I]at hy;split at hy
    .rw[a4F]at hy;exact e _ _ hy
    .cases hy) (fun j y i d v hy h2 h3=>by
    rw[a4I]at hy;split at hy
    .rw[a4F]at hy;refine r _ _ i d v hy h2 ?_;rw[<-h3];congr 1;rw[a3l];omega
    .cases hy)
  rwa [hlen]at this
 |gone hi _ _=>simp[bn]at hi
mutual
theorem UY(hX:bP X P)(hr:HR X P A m H h):∀{v w:PV X.Γ} {x:TV},VR X P (AA A m) m h v x->view H v=some w->∀{is:List Nat},(∀i,i∈lu v->i∈is)->VR X P (FA A m is) m' h w x
 |.own i,w,x,hv,hw,is,hs=>by
  simp only[view]at hw;split at hw
  .rename_i k ex t l hH;cases hw;obtain⟨mb,h1,h2⟩:=hr.at_ i _ hH;cases mb with
   |dF y=>
    cases hv with
    |own e o=>rw[h1]at e;cases e;exact SE hX hr h2 h1 (hs i (by simp[lu]))
    |gone hi e o=>simp only[bn,a04]at hi;subst hi;rw[h1]at e;cases e
   |_=>exact h2.elim
  cases hw
 |.win i o n,w,x,hv,hw,is,hs=>by
  simp only[view]at hw;split at hw
  .rename_i k ex t l hH;cases hw;obtain⟨mb,h1,h2⟩:=hr.at_ i _ hH;cases mb with
   |dF y=>
    have h2':LR X P (AA A m) m h k ex t l y:=h2;have hfz:VR X P (FA A m is) m' h (.dF t l false) y:=SE hX hr h2' h1 (hs i (by simp[lu]));cases hv with
    |win e q q' q2=>
     rw[h1]at e;cases e;exact hfz.part q q' q2 (by simp)
    |AL e=>
     rw[h1]at e;cases e;cases h2' with
     |nil=>simp only[List.drop_nil,List.take_nil];exact .pz
    |gone hi e o=>simp only[bn,a04]at hi;subst hi;rw[h1]at e;cases e
   |_=>exact h2.elim
  cases hw
 |.fn f a c,w,x,hv,hw,is,hs=>by
  simp only[view]at hw;split at hw
  .rename_i a' c' h1 h2;cases hw;cases hv with
   |fn e1 e2 e3 e4=>
    have g1:=lQ hX hr ⟨e1,e2⟩ h1 (is:=is) fun i hi=>hs i (by simp[lu,hi]);have g2:=lQ hX hr ⟨e3,e4⟩ h2 (is:=is) fun i hi=>hs i (by simp[lu,hi]);exact .fn g1.1 g1.2 g2.1 g2.2
   |gone hi _ _=>simp[bn]at hi
  cases hw
 |.agg cs,w,x,hv,hw,is,hs=>by
  simp only[view,a07]at hw;obtain⟨cs',h1,rfl⟩:=hw;cases hv with
  |agg e1 e2=>have g1:=lQ hX hr ⟨e1,e2⟩ h1 (is:=is) fun i hi=>hs i (by simp[lu,hi]);exact .agg g1.1 g1.2
  |gone hi _ _=>simp[bn]at hi
 |.dM cs,w,x,hv,hw,is,hs=>by
  simp only[view,a07]at hw;obtain⟨cs',h1,rfl⟩:=hw;cases hv with
  |dM e1 e2=>have g1:=lQ hX hr ⟨e1,e2⟩ h1 (is:=is) fun i hi=>hs i (by simp[lu,hi]);exact .dM g1.1 g1.2
  |gone hi _ _=>simp[bn]at hi
 |.bool b,w,x,hv,hw,is,hs=>by simp only[view,a04]at hw;subst hw;exact(hv.mono fun b hb=>.inl hb).jw hX rfl
 |.lit b,w,x,hv,hw,is,hs=>by
  simp only[view,a04]at hw;subst hw;cases hv with
  |lit=>exact .bool _
  |gone hi _ _=>simp[bn]at hi
 |.int k n,w,x,hv,hw,is,hs=>by simp only[view,a04]at hw;subst hw;exact(hv.mono fun b hb=>.inl hb).jw hX rfl
 |.str b,w,x,hv,hw,is,hs=>by simp only[view,a04]at hw;subst hw;exact(hv.mono fun b hb=>.inl hb).jw hX rfl
 |.nil b,w,x,hv,hw,is,hs=>by simp only[view,a04]at hw;subst hw;exact(hv.mono fun b hb=>.inl hb).jw hX rfl
 |.dF t l f,w,x,hv,hw,is,hs=>by simp only[view,a04]at hw;subst hw;exact(hv.mono fun b hb=>.inl hb).jw hX rfl
 |.ptr _ _ _,w,x,hv,hw,is,hs=>by simp[view]at hw
 |.slc _ _ _ _ _ _,w,x,hv,hw,is,hs=>by simp[view]at hw
 |.map _,w,x,hv,hw,is,hs=>by simp[view]at hw
 |.kZ _,w,x,hv,hw,is,hs=>by simp[view]at hw
 |.el _ _ _,w,x,hv,hw,is,hs=>by simp[view]at hw
 |.row _ _ _,w,x,hv,hw,is,hs=>by simp[view]at hw
theorem lQ(hX:bP X P)(hr:HR X P A m H h):∀{vs ws:List (PV X.Γ)} {xs:List TV},bY X P (AA A m) m h vs xs->views H vs=some ws->∀{is:List Nat},(∀i,i∈lu.kH vs->i∈is)->bY X P (FA A m is) m' h ws xs
 | [],ws,xs,hv,hw,is,hs=>by simp only[view.views,a04]at hw;subst hw;rw[hv.inv0];exact .nil
 |v::vs,ws,xs,hv,hw,is,hs=>by
  obtain⟨x,r,rfl,h1,h2⟩:=hv.inv;simp only[view.views]at hw;split at hw
  .rename_i w Uh g1 g2;cases hw;exact .cons (UY hX hr h1 g1 fun i hi=>hs i (by simp[lu.kH,hi])) (lQ hX hr h2 g2 fun i hi=>hs i (by simp[lu.kH,hi]))
  cases hw
end
end
open Go Tw
section
variable {X:l7} {P:Program} {A B F:Nat->Prop} {m m':List MB} {h h':List HB} {H H':List (PB X.Γ)}
theorem a1q(hX:bP X P)(hr:HR X P A m H h){t:Nat}{cs:List (PV X.Γ)}{xs:List TV}(hv:bY X P (AA A m) m h cs xs){a:X.Γ t}{is:List Nat}(hd:a9N X H t cs=some (a,is)):bY X P (FA A m is) m' h (X.enc t a) xs:=by
 unfold a9N at hd;split at hd
 .rename_i vs h1;split at hd
  .rename_i b h2;simp only[a04,a0w]at hd;obtain⟨rfl,rfl⟩:=hd;exact hX.dec h2 (lQ hX hr hv h1 fun i hi=>hi)
  cases hd
 cases hd
theorem AU(hX:bP X P)(hr:HR X P A m H h){t sz:Nat}:∀{n:Nat} {cs:List (PV X.Γ)} {xs:List TV},bY X P (AA A m) m h cs xs->∀{l:List (X.Γ t)} {is:List Nat},yB X H t sz n cs=some (l,is)->l.length=n∧eG X P (FA A m is) m' h t l xs 0 sz
 | 0,cs,xs,hv,l,is,hd=>by
  simp only[yB,a04,a0w]at hd;obtain⟨rfl,rfl⟩:=hd;exact⟨rfl,fun j a hj=>by simp at hj,by simp,fun j a i c v hj=>by simp at hj⟩
 |n+1,cs,xs,hv,l,is,hd=>by
  simp only[yB]at hd;split at hd
  rotate_left
  .cases hd
  rename_i vH;split at hd
  rotate_left
  .cases hd
  rename_i a js l' ks h1 h2;simp only[a04,a0w]at hd;obtain⟨rfl,rfl⟩:=hd;have g1:=(a1q (m':=m') hX hr (hv.take sz) h1).mono fun b hb=>FA.mono (js:=js++ks) (fun i hi=>a5s _ hi) hb;obtain⟨e2,g2⟩:=AU hX hr (hv.drop sz) h2;have g2:=g2.mono fun b hb=>FA.mono (js:=js++ks) (fun i hi=>abZ _ hi) hb;have hl:(X.enc t a).length=sz:=by rw[g1.1,a3I,<-hv.1];omega
  refine⟨by simp[e2],fun j b hj=>?_,?_,fun j b i c v hj hi hx=>?_⟩
  .cases j with
   |zero=>simp only[a2F,a04]at hj;subst hj;exact hl
   |succ j=>exact g2.1 j b (by simpa using hj)
  .have:=g2.2.1;rw[a3C]at this;have h3:=hv.1;simp only[a4v,a3l];omega
  cases j with
  |zero=>
   simp only[a2F,a04]at hj;subst hj;have aQ:i<sz:=by rw[<-hl];exact(a05.1 hi).1
   refine g1.2 i c v hi ?_;rw[a4I,a0u aQ,<-hx];simp
  |succ j=>
   refine g2.2.2 j b i c v (by simpa using hj) hi ?_;rw[a4F,<-hx];congr 1;rw[a3l];omega
def SlR(X:l7)(P:Program)(F:Nat->Prop)(m:List MB)(h:List HB)(t sz:Nat)(l:List (X.Γ t))(x:TV):Prop:=
 (x=.nil .slc∧l=[])∨∃b off cap ex cs,x=.slc b off l.length cap sz ex∧l.length<=cap∧aV h b=some cs∧(l≠[]->mQ h b (off+cap*sz)=some cs)∧eG X P F m h t l cs off sz
theorem a1r{t sz:Nat}{l:List (X.Γ t)}{fu:Bool}{x:TV}(hv:VR X P F m h (.dF t l fu) x)(hz:dG P t=some sz):SlR X P F m h t sz l x:=by
 cases hv with
 |pz=>exact .inl ⟨rfl,rfl⟩
 |dF a c c2 s z o k f e r=>
  rw[hz]at s;cases s;exact .inr ⟨_,_,_,_,_,rfl,k,c,c2,e,o,r⟩
 |gone hi _ _=>simp[bn]at hi
theorem a6o{k ex:Bool}{t sz:Nat}{l:List (X.Γ t)}{x:TV}(hv:LR X P F m h k ex t l x)(hz:dG P t=some sz):SlR X P F m h t sz l x:=by
 cases hv with
 |nil=>exact .inl ⟨rfl,rfl⟩
 |emp h0 h1 h2 h3 h4=>
  rw[hz]at h3;cases h3;exact .inr ⟨_,_,_,_,_,rfl,a0x _,h1,fun e=>absurd rfl e,fun j a hj=>by simp at hj,by simpa using h2,fun j a i c v hj=>by simp at hj⟩
 |some h1 h2 h3 h4 h5 h6 h7 h8 h9=>
  rw[hz]at h2;cases h2;exact .inr ⟨_,_,_,_,_,rfl,a0x _,by unfold aV;rw[h4],fun _=>wX h4 (by omega),h9⟩
theorem eG.part{t sz:Nat}{l:List (X.Γ t)}{cs:List TV}{off o n:Nat}(hv:eG X P F m h t l cs off sz)(hn:o+n<=l.length):eG X P F m h t ((l.drop o).take n) cs (off+o*sz) sz:=by
 have hlen:((l.drop o).take n).length=n:=by rw[a3I,a3C];omega
 refine⟨fun j y hy=>?_,?_,fun j y i c v hy h2 h3=>?_⟩
 .rw[a4I]at hy;split at hy
  .rw[a4F]at hy;exact hv.1 _ _ hy
  cases hy
 .have:=hv.2.1;have h2:(o+n)*sz<=l.length*sz:=a3r sz hn;rw[hlen];rw[a3l]at h2;omega
 rw[a4I]at hy;split at hy
 .rw[a4F]at hy;refine hv.2.2 _ y i c v hy h2 ?_;rw[<-h3];congr 1;rw[a3l];omega
 cases hy
theorem eG.take{t sz:Nat}{l:List (X.Γ t)}{cs:List TV}{off:Nat}(hv:eG X P F m h t l cs off sz):eG X P F m h t l ((cs.drop off).take (l.length*sz)) 0 sz:=by
 refine⟨hv.1,?_,fun j a i c v h1 h2 h3=>?_⟩
 .have:=hv.2.1;rw[a3I,a3C];omega
 rw[a4I]at h3;split at h3
 .rw[a4F]at h3;exact hv.2.2 j a i c v h1 h2 (by rw[<-h3];congr 1;omega)
 cases h3
theorem SlR.src{t sz:Nat}{l:List (X.Γ t)}{x:TV}(hv:SlR X P F m h t sz l x):∃new,fG sz h x=some (l.length,new)∧new.length=l.length*sz∧eG X P F m h t l new 0 sz:=by
 rcases hv with⟨rfl,rfl⟩|⟨b,off,cap,ex,cs,rfl,hk,hc,KC,hw⟩
 .exact⟨[],rfl,by simp,fun j a hj=>by simp at hj,by simp,fun j a i c v hj=>by simp at hj⟩
 refine⟨(cs.drop off).take (l.length*sz),?_,?_,hw.take⟩
 .have:=hw.2.1;simp only[fG,a2k,sub];by_cases h0:l.length=0
  .rw[a0u h0,h0];simp
  rw[a0o h0,KC (fun e=>h0 (by rw[e];rfl))];simp only;rw[a0u this];rfl
 have:=hw.2.1;rw[a3I,a3C];omega
theorem eG.app{t sz:Nat}{l r:List (X.Γ t)}{a b:List TV}(h1:eG X P F m h t l a 0 sz)(h2:eG X P F m h t r b 0 sz)(ha:a.length=l.length*sz):eG X P F m h t (l++r) (a++b) 0 sz:=by
 refine⟨fun j y hy=>?_,?_,fun j y i c v hy hi hx=>?_⟩
 .rcases a4E j l.length with hl|hl
  .rw[a0g hl]at hy;exact h1.1 j y hy
  rw[a0G hl]at hy;exact h2.1 _ y hy
 .have:=h2.2.1;simp only[a1t,a3l];omega
 rcases a4E j l.length with hl|hl
 .rw[a0g hl]at hy;have aQ:i<sz:=by rw[<-h1.1 j y hy];exact(a05.1 hi).1
  have:(j+1)*sz<=l.length*sz:=a3r sz hl;rw[a3l]at this;rw[a0g (by omega)]at hx;exact h1.2.2 j y i c v hy hi hx
 rw[a0G hl]at hy;have:l.length*sz<=j*sz:=a3r sz hl;rw[a0G (by omega)]at hx;refine h2.2.2 _ y i c v hy hi ?_;rw[<-hx];congr 1;rw[ha,Nat.sub_mul];omega
theorem uO{Γ:Nat->Type}{t t':Nat}{l:List (Γ t')}{r:List (Γ t)}(h:D8 t t' l=some r):∃e:t'=t,r=e▸l:=by
 unfold D8 at h;split at h
 .rename_i e;cases h;exact⟨e,rfl⟩
 cases h
theorem UZ(hX:bP X P)(hr:HR X P A m H h){e sz:Nat}{x:PV X.Γ}{tx:TV}(hv:VR X P (AA A m) m h x tx)(hz:dG P e=some sz){rows:List (X.Γ e)}{is:List Nat}(hs:Az X H e sz x=some (rows,is)) :
  ∃new,fG sz h tx=some (rows.length,new)∧new.length=rows.length*sz∧eG X P (FA A m is) m' h e rows new 0 sz:=by
 have up:∀{l:List (X.Γ e)} {y:TV},SlR X P (AA A m) m h e sz l y->∃new,fG sz h y=some (l.length,new)∧new.length=l.length*sz∧eG X P (FA A m []) m' h e l new 0 sz:=by
  intro l y hy;obtain⟨new,h1,h2,h3⟩:=hy.src;exact⟨new,h1,h2,(h3.mono fun b hb=>.inl hb).jw hX⟩
 cases x with
 |nil k=>
  cases k<;>simp only[Az]at hs<;>try (cases hs;done)
  simp only[a04,a0w]at hs;obtain⟨rfl,rfl⟩:=hs;cases hv with
  |nil=>exact up (.inl ⟨rfl,rfl⟩)
  |gone hi _ _=>simp[bn]at hi
 |dF t l fu=>
  simp only[Az,a07,a0w]at hs;obtain⟨r,h1,rfl,rfl⟩:=hs;obtain⟨rfl,rfl⟩:=uO h1;exact up (a1r hv hz)
 |own i=>
  simp only[Az]at hs;split at hs
  .rename_i k ex t l hH;simp only[a07,a0w]at hs;obtain⟨r,h1,rfl,rfl⟩:=hs;obtain⟨rfl,rfl⟩:=uO h1;obtain⟨mb,g1,g2⟩:=hr.at_ i _ hH;cases mb with
   |dF y=>
    cases hv with
    |own e' o=>rw[g1]at e';cases e';exact up (a6o g2 hz)
    |gone hi e' o=>simp only[bn,a04]at hi;subst hi;rw[g1]at e';cases e'
   |_=>exact g2.elim
  .cases hs
 |win i o n=>
  simp only[Az]at hs;split at hs
  .rename_i k ex t l hH;simp only[a07,a0w]at hs;obtain⟨r,h1,rfl,rfl⟩:=hs;obtain⟨rfl,rfl⟩:=uO h1;obtain⟨mb,g1,g2⟩:=hr.at_ i _ hH;cases mb with
   |dF y=>
    have hsl:=a6o g2 hz;cases hv with
    |win e' q q' q2=>
     rw[g1]at e';cases e';rcases hsl with⟨h,_⟩|⟨b,off,cap,ex',cs,he,hk,hc,KC,hw⟩
     .cases h
     .cases he;have hlen:n=((r.drop o).take n).length:=by rw[a3I,a3C];omega
      refine up (.inr ⟨_,_,_,_,cs,congrArg (fun k=>TV.slc _ _ k _ _ _) hlen,hlen▸q',hc,fun iI=>?_,hw.part q⟩);have h1:n≠0:=fun e=>iI (by subst e;simp);have h2:=q2.resolve_left h1;rw[<-KC (fun e=>iI (by rw[e];simp)),<-h2];congr 1;rw[a3l];omega
    |AL e'=>
     rw[g1]at e';cases e';refine up (.inl ⟨rfl,by simp⟩)
    |gone hi e' o=>simp only[bn,a04]at hi;subst hi;rw[g1]at e';cases e'
   |_=>exact g2.elim
  .cases hs
 |slc b off len cap sz' ex=>
  simp only[Az]at hs;split at hs
  .rename_i cs hH;split at hs
   .rename_i vH;obtain⟨vH,aew⟩:=vH;subst vH;obtain⟨mb,g1,g2⟩:=hr.at_ b _ hH;cases mb with
    |gu c=>
     obtain⟨cs',g3,g4⟩:=g2;cases hv with
     |slc e'=>
      rw[g1]at e';cases e';obtain⟨hl,hw⟩:=AU (m':=m') hX hr (g4.drop off) hs;subst hl;rw[g4.1]at aew;refine⟨(cs'.drop off).take (rows.length*sz'),?_,by rw[a3I,a3C];omega,by simpa using hw.take⟩;simp only[fG,a2k,wY g3 (by simp),sub];split
      .rename_i h0;rw[h0,aco,List.take_zero]
      .simp only[aew,a2k,a0B]
     |gone hi e' o=>simp only[bn,a04]at hi;subst hi;rw[g1]at e';cases e'
    |_=>exact g2.elim
   .cases hs
  .cases hs
 |_=>simp[Az]at hs
end
open Go Tw
def Hw(m:List MB)(i b:Nat):Prop:=∃mb,m[i]? = some mb∧mb.own=some b
structure IR(m:List MB)(h:List HB)(p:PI)(t:mP):Prop where
 all:t.all=true->p.i.all=true
 tl:∀k,.l k∈t.ts->.l k∈p.i.ts
 wl:∀k,.l k∈t.ws->.l k∈p.i.ws
 wh:∀b,.h b∈t.ws->(∃i,.h i∈p.i.ws∧Hw m i b)∨(p.wall=true∧b∈bD m)
 th:∀b,.h b∈t.ts->((∃i,.h i∈p.i.ts∧Hw m i b)∨b∉bD m)∧b<h.length
 hp:p.hp=false->t.all=false∧(∀b,.h b∉t.ts)∧∀b,.h b∉t.ws
theorem IR.none{m:List MB}{h:List HB}{p:PI}:IR m h p cZ:=⟨fun h=>(by cases h),fun _ h=>(by cases h),fun _ h=>(by cases h),fun _ h=>(by cases h),fun _ h=>(by cases h),fun _=>⟨rfl,fun _ h=>(by cases h),fun _ h=>(by cases h)⟩⟩
section
variable {X:l7} {P:Program} {A F:Nat->Prop} {m m':List MB} {h h':List HB} {H H':List (PB X.Γ)}
structure vw(X:l7)(P:Program)(A:Nat->Prop)(m:List MB)(ps:aS X.Γ)(ts:St):Prop where
 heap:HR X P A m ps.heap ts.heap
 llen:ps.loc.length=ts.loc.length
 loc:∀(k:Nat) cs,ps.loc[k]? = some cs->∃cs',ts.loc[k]? = some cs'∧bY X P (AA A m) m ts.heap cs cs'
 env:ku X P (AA A m) m ts.heap ps.env ts.env
theorem vw.step{ps:aS X.Γ}{ts:St}(hR:vw X P A m ps ts){H1:List (PB X.Γ)}{h1:List HB}(hr:HR X P A m' H1 h1)(hF:Fr m ts.heap m' h1)(hU:Up m m'):vw X P A m' { ps with heap:=H1 } { ts with heap:=h1 }:=
 ⟨hr,hR.llen,fun k cs hk=>let ⟨cs',g1,g2⟩:=hR.loc k cs hk;⟨cs',g1,g2.step hF hU⟩,hR.env.step hF hU⟩
def OpR(X:l7)(P:Program)(A:Nat->Prop)(m:List MB)(call:bf)(site:Nat->Bool)(ts:St)(o:Oper)(pe:PE X.Γ)(ps1:aS X.Γ)(pi:PI):Prop:=
 ∃ev iP ti m1,pV P call site ts o=some (ev,iP,ti)∧iP.env=ts.env∧iP.ws=ts.ws∧vw X P A m1 ps1 iP∧IQ X P (AA A m1) m1 iP.heap pe ev∧Fr m ts.heap m1 iP.heap∧Up m m1∧IR m ts.heap pi ti∧∀b,.h b∈ti.ws->b∈bD m
theorem uP{call:bf}{site:Nat->Bool}{ps:aS X.Γ}{ts:St}{o:Oper}{pe:PE X.Γ}{ev:EV}{pi:PI}(hR:vw X P A m ps ts)(h:pV P call site ts o=some (ev,ts,cZ))(hp:IQ X P (AA A m) m ts.heap pe ev):OpR X P A m call site ts o pe ps pi:=
 ⟨ev,ts,cZ,m,h,rfl,rfl,hR,hp,.refl,.refl,.none,fun b hb=>by cases hb⟩
theorem vw.BZ{ps:aS X.Γ}{ts:St}(hR:vw X P A m ps ts){x:Operand}{b:Bool}(hb:qV ts.env x=some (.bool b)):vw X P A m (ps.BZ x b) ts:=by
 cases x with
 |tmp t=>
  refine⟨hR.heap,hR.llen,hR.loc,a9T hR.env ?_⟩;simp only[qV,IJ]at hb;split at hb
  .rename_i v hv;cases hb;exact hv
  cases hb
 |_=>exact hR
theorem SG{ps:aS X.Γ}{ts:St}(hR:vw X P A m ps ts){site:Bool}{cs:List (PV X.Γ)}{cs':List TV}(hc:bY X P (AA A m) m ts.heap cs cs') :
  ∃m1,(qW site ts cs').2.env=ts.env∧(qW site ts cs').2.ws=ts.ws∧vw X P A m1 (Ef site ps cs).2 (qW site ts cs').2∧IQ X P (AA A m1) m1 (qW site ts cs').2.heap (Ef site ps cs).1 (qW site ts cs').1∧Fr m ts.heap m1 (qW site ts cs').2.heap∧Up m m1:=by
 cases site with
 |true=>
  have hp:=hR.heap.push (pb:=.cells cs) (hb:=.cells .own cs') (mb:=.gu ts.heap.length) (.inl rfl) ?_
  .refine⟨m++[.gu ts.heap.length],rfl,rfl,hR.step hp.1 hp.2.1 hp.2.2,?_,hp.2.1,hp.2.2⟩;show VR X P _ _ _ (.ptr ps.heap.length 0 cs.length) (.ptr ts.heap.length 0 cs'.length);rw[hc.1];exact .ptr (by rw[<-hR.heap.len];simp)
  .refine⟨cs',by simp,hc.step ?_ (wZ _)⟩;refine⟨by simp,fun b hb _=>by rw[a0g hb],fun b hb=>?_,fun b cs hc=>⟨cs,by rw[fO (a0g (gX hc)),hc],a0x _⟩⟩;rw[jk,a2L,kJ]at hb;rcases hb with hb|hb
   .exact .inl hb
   .simp[MB.own]at hb;exact .inr (by omega)
 |false=>
  refine⟨m,rfl,rfl,⟨hR.heap,by simp[Ef,qW,hR.llen],fun k ds hk=>?_,hR.env⟩,?_,.refl,.refl⟩
  .simp only[Ef,qW,a2u,a3q]at hk ⊢;rcases a4E k ps.loc.length with hl|hl
   .rw[a0g hl]at hk;obtain⟨ds',g1,g2⟩:=hR.loc k ds hk;exact⟨ds',by rw[a0g (by rw[<-hR.llen];exact hl)];exact g1,g2⟩
   .rw[a0G hl]at hk;have:k-ps.loc.length=0:=by
     rcases abg (k-ps.loc.length)with e|e
     .exact e
     .rw[a4B (by simp;omega)]at hk;cases hk
    rw[this]at hk;simp only[a2F,a04]at hk;subst hk;exact⟨cs',by rw[a0G (by rw[<-hR.llen];exact hl),<-hR.llen,this];rfl,hc⟩
  .exact⟨hR.llen,rfl⟩
theorem iY{i:Nat}{mb:MB}{b:Nat}(h1:m[i]? = some mb)(h2:mb.own=some b):Hw m i b:=⟨mb,h1,h2⟩
theorem ZJ{i b:Nat}(h:Hw m i b):b∈bD m:=let ⟨_,h1,h2⟩:=h;bg h1 h2
theorem IR.rdH{i b:Nat}(h0:Hw m i b)(hl:b<h.length):IR m h ⟨xO (.h i),false,false,true⟩ (xO (.h b)):=
 ⟨fun h=>(by cases h),fun k hk=>(by simp[xO]at hk),fun k hk=>(by simp[xO]at hk),fun b hb=>(by simp[xO]at hb),fun c hc=>(by simp[xO]at hc;subst hc;exact⟨.inl ⟨i,by simp[xO],h0⟩,hl⟩),fun h=>(by cases h)⟩
theorem IR.wrH{i b:Nat}(h0:Hw m i b)(hl:b<h.length):IR m h ⟨pU (.h i),false,false,true⟩ (pU (.h b)):=
 ⟨fun h=>(by cases h),fun k hk=>(by simp[pU]at hk),fun k hk=>(by simp[pU]at hk),fun c hc=>(by simp[pU]at hc;subst hc;exact .inl ⟨i,by simp[pU],h0⟩),fun c hc=>(by simp[pU]at hc;subst hc;exact⟨.inl ⟨i,by simp[pU],h0⟩,hl⟩),fun h=>(by cases h)⟩
theorem IR.loc{k:Nat}:IR m h ⟨xO (.l k),false,false,false⟩ (xO (.l k)):=
 ⟨fun h=>(by cases h),fun j hj=>by simpa[xO]using hj,fun k hk=>(by simp[xO]at hk),fun b hb=>(by simp[xO]at hb),fun c hc=>(by simp[xO]at hc),fun _=>⟨rfl,fun b hb=>(by simp[xO]at hb),fun b hb=>(by simp[xO]at hb)⟩⟩
theorem IR.ao4{k:Nat}:IR m h ⟨pU (.l k),false,false,false⟩ (pU (.l k)):=
 ⟨fun h=>(by cases h),fun j hj=>by simpa[pU]using hj,fun j hj=>by simpa[pU]using hj,fun c hc=>(by simp[pU]at hc),fun c hc=>(by simp[pU]at hc),fun _=>⟨rfl,fun b hb=>(by simp[pU]at hb),fun b hb=>(by simp[pU]at hb)⟩⟩
theorem Xb{t:TypeId}{cs:List TV}{o sz off n:Nat}{x:TV}(ho:o+sz<=cs.length)(hp:uH P t ((cs.drop o).take sz) off=some x)(hn:dG P t=some n):uH P t cs (o+off)=some x∧off+n<=sz∧o+off+n<=cs.length:=by
 unfold uH at hp ⊢;split at hp
 .rename_i k ha hk;rw[hn]at hk;cases hk;simp only[a07]at hp;obtain⟨r,h1,rfl⟩:=hp;unfold sub at h1;split at h1
  .rename_i hl;rw[a3I,a3C]at hl;refine⟨?_,by omega,by omega⟩;cases h1;simp only[ha,hn,sub];rw[a0u (by omega)];simp only[a0B,a04,TV.agg.injEq];rw[ah9,afJ,afr,a7E (by omega)]
  cases h1
 .rename_i k ha hk;rw[hn]at hk;cases hk;split at hp
  .rename_i h1;subst h1;rw[a4I]at hp;split at hp
   .rename_i h2;rw[a4F]at hp;have:=(a05.1 hp).1;refine⟨by simp only[ha,hn,a2k];exact hp,by omega,by omega⟩
   cases hp
  cases hp
 cases hp
theorem SH{t:TypeId}{cs:List TV}{off:Nat}{x:TV}(hp:uH P t cs off=some x):∃n,dG P t=some n:=by
 unfold uH at hp;split at hp
 .rename_i n _ hn;exact⟨n,hn⟩
 .rename_i n _ hn;exact⟨n,hn⟩
 cases hp
theorem eG.row{t sz:Nat}{l:List (X.Γ t)}{cs:List TV}{off j:Nat}{a:X.Γ t}(hw:eG X P F m h t l cs off sz)(hj:l[j]? = some a):bY X P F m h (X.enc t a) ((cs.drop (off+j*sz)).take sz)∧off+j*sz+sz<=cs.length:=by
 have hlen:=hw.1 j a hj;have aQ:j<l.length:=(a05.1 hj).1;have h2:(j+1)*sz<=l.length*sz:=a3r sz aQ;have h3:=hw.2.1;rw[a3l]at h2;refine⟨⟨by rw[hlen,a3I,a3C];omega,fun i c v hc hv=>?_⟩,by omega⟩;rw[a4I]at hv;split at hv
 .rw[a4F]at hv;exact hw.2.2 j a i c v hj hc hv
 cases hv
theorem AV{t:Nat}{l:List (X.Γ t)}{j:Nat}(hj:j<l.length):l[j]? = some (l.getD j (X.d0 t)):=by
 rw[a2K,a0b hj];rfl
theorem Gy(hX:bP X P){ps:aS X.Γ}{ts:St}(hR:vw X P A m ps ts){t:TypeId}{pa:PE X.Γ}{ea:EV}(ha:IQ X P (AA A m) m ts.heap pa ea){v:PV X.Γ}{pi:mP}(hl:AB X P t ps pa=some (v,pi)) :
  ∃x ti,loadT P t ts ea=some (x,ti)∧VR X P (AA A m) m ts.heap v x∧IR m ts.heap ⟨pi,false,false,!UM pa⟩ ti∧ti.ws=[]:=by
 cases pa with
 |loc k off=>
  rw[Ei ha];simp only[AB]at hl;split at hl
  .rename_i cs hk;simp only[a07,a0w]at hl;obtain⟨w,h1,rfl,rfl⟩:=hl;obtain⟨cs',g1,g2⟩:=hR.loc k cs hk;obtain⟨x,g3,g4⟩:=AP g2 h1;exact⟨x,xO (.l k),by simp only[loadT,g1,g3,a0B],g4,.loc,rfl⟩
  .cases hl
 |undef|ent|EI=>simp[AB]at hl
 |val a=>
  obtain⟨y,rfl,hy⟩:=fU ha;cases a with
  |ptr b off lim=>
   simp only[AB]at hl;split at hl
   .rename_i cs n hb hn;split at hl
    .rename_i Ls;simp only[a07,a0w]at hl;obtain⟨w,h1,rfl,rfl⟩:=hl;obtain⟨mb,g1,g2⟩:=hR.heap.at_ b _ hb;cases mb with
     |gu c=>
      obtain⟨cs',g3,g4⟩:=g2;cases hy with
      |ptr e=>
       rw[g1]at e;cases e;obtain⟨x,g5,g6⟩:=AP g4 h1;refine⟨x,xO (.h c),?_,g6,.rdH (iY g1 rfl) (a05.1 g3).1,rfl⟩;simp only[loadT,wY g3 (show BK.own≠.last by simp),hn,Ls,a2k,g5,a0B]
      |gone hi e _=>simp only[bn,a04]at hi;subst hi;rw[g1]at e;cases e
     |_=>exact g2.elim
    .cases hl
   .rename_i cs n hb hn;split at hl
    .rename_i Ls;simp only[a07,a0w]at hl;obtain⟨w,h1,rfl,rfl⟩:=hl;obtain⟨mb,g1,g2⟩:=hR.heap.at_ b _ hb;cases mb with
     |jA c=>
      obtain⟨g0,cs',g3,g4⟩:=g2;cases hy with
      |ptr e=>rw[g1]at e;cases e
      |gone hi e _=>
       simp only[bn,a04]at hi;subst hi;rw[g1]at e;cases e with
       |r _ e=>
        simp only[roV,a04]at e;subst e;obtain⟨x,g5,g6⟩:=AP g4 h1;refine⟨x,xO (.h c),?_,g6,⟨fun h=>(by cases h),fun k hk=>(by simp[xO]at hk),fun k hk=>(by simp[xO]at hk),fun b hb=>(by simp[xO]at hb),fun d hd=>?_,fun h=>(by cases h)⟩,rfl⟩
        .simp only[loadT,wY g3 (show BK.own≠.last by simp),hn,Ls,a2k,g5,a0B]
        .simp[xO]at hd;subst hd;exact⟨.inr g0,(a05.1 g3).1⟩
     |_=>exact g2.elim
    .cases hl
   .cases hl
  |row b j off=>
   simp only[AB]at hl;split at hl
   .rename_i k ex e l hb;simp only[a07,a0w]at hl;obtain⟨w,h1,rfl,rfl⟩:=hl;obtain⟨mb,g1,g2⟩:=hR.heap.at_ b _ hb;cases mb with
    |dF z=>
     cases hy with
     |row e' hj hq=>
      rw[g1]at e';cases e';cases(g2:LR X P _ _ _ _ _ _ _ _)with
      |emp=>omega
      |some q1 q2 q3 q4 q5 q6 q7 q8 q9=>
       have yS:=q9.row (AV hj);obtain⟨x,g5,g6⟩:=AP yS.1 h1;obtain⟨n,hn⟩:=SH g5;obtain⟨g7,g8,_⟩:=Xb yS.2 g5 hn;rw[a3H]at g7;refine⟨x,xO (.h _),?_,g6,.rdH (iY g1 (by simp only[MB.own];rw[a0o (by simpa using q1)])) (a05.1 q4).1,rfl⟩;have sG:=yS.2;simp only[loadT,wX q4 q8.symm,hn];rw[a0u (by omega),g7];rfl
     |gone hi e' _=>simp only[bn,a04]at hi;subst hi;rw[g1]at e';cases e'
    |_=>exact g2.elim
   .cases hl
  |el e a off=>
   simp only[AB,a07,a0w]at hl;obtain⟨w,h1,rfl,rfl⟩:=hl;cases hy with
   |el q1 q2 q2' q3 q4 q5 q6=>
    rename_i b o sz lim cs;have yS:bY X P (AA A m) m ts.heap (X.enc e a) ((cs.drop o).take sz):=by
     refine⟨by rw[q4,a3I,a3C];omega,fun i c v hc hv=>?_⟩;rw[a4I]at hv;split at hv
     .rw[a4F]at hv;exact q6 i c v hc hv
     .cases hv
    obtain⟨x,g5,g6⟩:=AP yS h1;obtain⟨n,hn⟩:=SH g5;obtain⟨g7,g8,_⟩:=Xb q3 g5 hn;refine⟨x,xO (.h b),?_,g6,⟨fun h=>(by cases h),fun k hk=>(by simp[xO]at hk),fun k hk=>(by simp[xO]at hk),fun b hb=>(by simp[xO]at hb),fun c hc=>?_,fun h=>(by cases h)⟩,rfl⟩
    .simp only[loadT,q2,hn];rw[a0u (by omega),g7];rfl
    .simp[xO]at hc;subst hc;exact⟨.inr q1.2,a3k q2⟩
   |gone hi e' _=>simp[bn]at hi
  |_=>simp[AB]at hl
end
open Go Tw
section
variable {X:l7} {P:Program} {A F:Nat->Prop} {m m':List MB} {h h':List HB} {H H':List (PB X.Γ)}
theorem OI{cs new:List TV}{o sz off:Nat}{r:List TV}(ho:o+sz<=cs.length)(hr:wH ((cs.drop o).take sz) off new=some r):wH cs (o+off) new=some (cs.take o++r++cs.drop (o+sz))∧r.length=sz:=by
 unfold wH at hr ⊢;split at hr
 rotate_left
 .cases hr
 rename_i hl;have qU:=hl;rw[a3I,a3C]at hl;cases hr;refine⟨?_,?_⟩
 .rw[a0u (by omega)];simp only[a04];apply a9Q;intro i;simp only[List.getElem?_append,a1t,a3I,a3C,a4I,a4F];rcases a4E i o with h1|h1
  .simp (disch:=omega) only [a7E,a0u]
  rcases a4E i (o+off)with h2|h2
  .rw[a0u (by omega),a0u (by omega),a0u (by omega),a0u (by omega),a0o (by omega),a0u (by omega),a0u (by omega),a0u (by omega),a0u (by omega)];congr 1;omega
  rcases a4E i (o+off+new.length)with h3|h3
  .rw[a0u (by omega),a0o (by omega),a0u (by omega),a0o (by omega),a0u (by omega),a0o (by omega)];congr 1;omega
  rcases a4E i (o+sz)with h4|h4
  .rw[a0o (by omega),a0u (by omega),a0o (by omega),a0o (by omega),a0u (by omega)];congr 1;omega
  rw[a0o (by omega),a0o (by omega)];congr 1;omega
 simp only[a1t,a3I,a3C];omega
theorem eG.set{t sz j:Nat}{l:List (X.Γ t)}{cs r:List TV}{a:X.Γ t}(hw:eG X P F m h t l cs 0 sz)(hr:bY X P F m h (X.enc t a) r)(hl:r.length=sz)(hj:j<l.length) :
  eG X P F m h t (l.set j a) (cs.take (j*sz)++r++cs.drop (j*sz+sz)) 0 sz:=by
 have h2:(j+1)*sz<=l.length*sz:=a3r sz hj;rw[a3l]at h2;have h3:=hw.2.1;refine⟨fun k y hy=>?_,?_,fun k y i c v hy hi hx=>?_⟩
 .rw[a9I]at hy;split at hy
  .cases hy;rw[hr.1,hl]
  .exact hw.1 k y hy
 .simp only[a1t,a3I,a3C,a4O];omega
 .rw[a9I]at hy;split at hy
  .rename_i e;subst e;cases hy;have aQ:i<sz:=by rw[<-hl,<-hr.1];exact(a05.1 hi).1
   refine hr.2 i c v hi ?_;rw[a0g (by simp only[a1t,a3I];omega),a0G (by rw[a3I];omega),a3I]at hx;rw[<-hx];congr 1;omega
  .rename_i e;have hlen:=hw.1 k y hy;have aQ:i<sz:=by rw[<-hlen];exact(a05.1 hi).1
   have hk:k<l.length:=(a05.1 hy).1;refine hw.2.2 k y i c v hy hi ?_;rw[<-hx];rcases a4E k j with h4|h4
   .have:(k+1)*sz<=j*sz:=a3r sz h4;rw[a3l]at this;rw[a0g (by simp only[a1t,a3I];omega),a0g (by rw[a3I];omega),a4I,a0u (by omega)]
   .have h5:j+1<=k:=(by omega);have:(j+1)*sz<=k*sz:=a3r sz h5;rw[a3l]at this;rw[a0G (by simp only[a1t,a3I];omega),a4F];congr 1;simp only[a1t,a3I];omega
theorem KJ{b:Nat}{pb:PB X.Γ}:∀{is:List Nat} {H:List (PB X.Γ)},is.contains b=false->aZ is (H.set b pb)=(aZ is H).set b pb
 | [],_,_=>rfl
 |i::is,H,hn=>by
  simp only[ahd,a9x,ah8,ne_eq]at hn;simp only[aZ,X5];rw[List.set_comm _ _ hn.1,KJ hn.2]
theorem zf(hX:bP X P){ps ps1:aS X.Γ}{ts:St}(hR:vw X P A m ps ts){t:TypeId}{pa:PE X.Γ}{ea:EV}(ha:IQ X P (AA A m) m ts.heap pa ea){v:PV X.Γ}{x:TV}(hv:VR X P (AA A m) m ts.heap v x){pi:mP}(hl:UG X P t ps pa v=some (ps1,pi)) :
  ∃iP ti m1,storeT P t ts ea x=some (iP,ti)∧iP.env=ts.env∧iP.ws=ts.ws∧vw X P A m1 ps1 iP∧Fr m ts.heap m1 iP.heap∧Up m m1∧IR m ts.heap ⟨pi,false,false,!UM pa⟩ ti∧∀b,.h b∈ti.ws->b∈bD m:=by
 have hc:=Ho hv;unfold UG at hl;split at hl
 .rename_i n hn;split at hl
  .rename_i O6;have a9U:x.cells.length=n∧x.cells.all jd=true:=⟨by rw[<-hc.1];exact O6.1,by rw[Eh hc];exact O6.2⟩;cases pa with
   |loc k off=>
    rw[Ei ha];simp only at hl;split at hl
    .rename_i cs hk;simp only[a07,a0w]at hl;obtain⟨SI,h1,rfl,rfl⟩:=hl;obtain⟨cs',g1,g2⟩:=hR.loc k cs hk;obtain⟨Jh,g3,g4⟩:=Hq g2 hc h1;refine⟨{ ts with loc:=ts.loc.set k Jh },pU (.l k),m,?_,rfl,rfl,⟨hR.heap,by simp[hR.llen],fun j ds hj=>?_,hR.env⟩,.refl,.refl,.ao4,fun b hb=>by simp[pU]at hb⟩
     .simp only[storeT,hn,a9U,ad7,a2k,g1,g3,a0B]
     .by_cases e:k=j
      .subst e;rw[a4G]at hj;rw[hk]at hj;cases hj;exact⟨Jh,by rw[a4G,g1];rfl,g4⟩
      .rw[a0L e]at hj;obtain⟨ds',q1,q2⟩:=hR.loc j ds hj;exact⟨ds',by rw[a0L e];exact q1,q2⟩
    .cases hl
   |undef|ent|EI=>simp at hl
   |val a=>
    obtain⟨y,rfl,hy⟩:=fU ha;cases a with
    |ptr b off lim=>
     simp only at hl;split at hl
     .rename_i Ls;split at hl
      .rename_i cs hb;simp only[a07,a0w]at hl;obtain⟨SI,h1,rfl,rfl⟩:=hl;obtain⟨mb,g1,g2⟩:=hR.heap.at_ b _ hb;cases mb with
       |gu c=>
        obtain⟨cs',g3,g4⟩:=g2;cases hy with
        |ptr e=>
         rw[g1]at e;cases e;obtain⟨Jh,g5,g6⟩:=Hq g4 hc h1;have hlen:Jh.length=cs'.length:=by
          unfold wH at g5;split at g5
          .cases g5;simp only[a1t,a3I,a3C];omega
          .cases g5
         have aQ:=(a05.1 g3).1;obtain⟨hr1,hF⟩:=hR.heap.set (pb:=.cells SI) (hb:=.cells .own Jh) g1 (c:=c) rfl (fun Xc Xd=>⟨Jh,by simp[aV,aQ],by
          simp only[aV,g3,a04]at Xd;subst Xd;omega⟩) fun hF=>⟨Jh,by simp[aQ],g6.step hF .refl⟩
         refine⟨{ ts with heap:=ts.heap.set c (.cells .own Jh) },pU (.h c),m,?_,rfl,rfl,hR.step hr1 hF .refl,hF,.refl,.wrH (iY g1 rfl) aQ,fun b hb=>?_⟩
         .simp only[storeT,hn,a9U,ad7,a2k,Ls,X8 g3,g5,a0B]
         .simp[pU]at hb;subst hb;exact bg g1 rfl
        |gone hi e _=>simp only[bn,a04]at hi;subst hi;rw[g1]at e;cases e
       |_=>exact g2.elim
      .cases hl
     .cases hl
    |row b j off=>
     simp only at hl;split at hl
     .rename_i k0 ex e l hb;split at hl
      .rename_i SI h1;split at hl
       .rename_i a is hd;split at hl
        .cases hl
        .rename_i hnb;simp only[a04,a0w]at hl;obtain⟨rfl,rfl⟩:=hl;obtain⟨mb,g1,g2⟩:=hR.heap.at_ b _ hb;cases mb with
         |dF z=>
          cases hy with
          |row e' hj hq=>
           rw[g1]at e';cases e';cases(g2:LR X P _ _ _ _ _ _ _ _)with
           |emp=>omega
           |some q1 q2 q3 q4 q5 q6 q7 q8 q9=>
            rename_i c sz xx kk cs;obtain⟨BJ,yt,hkr,hko⟩:=Jf q5;have vV:(MB.dF (TV.slc c 0 l.length l.length sz xx)).own=some c:=by simp only[MB.own];rw[a0o (by simpa using q1)]
            have yS:=q9.row (AV hj);simp only[a3H]at yS;obtain⟨r,g3,g4⟩:=Hq yS.1 hc h1;obtain⟨g5,g6⟩:=OI yS.2 g3;have ao5:=a1q (m':=bW is m) hX hR.heap g4 hd;have hgo:=hR.heap.aZ is;have QL:=iE (h:=ts.heap) is m;have aiq:is.contains b=false:=(by simpa using hnb);have hm1:(bW is m)[b]? = some (.dF (.slc c 0 l.length l.length sz xx)):=by rw[Hg is g1,aiq];rfl
            have aQ:=(a05.1 q4).1;have Rq:(cs.take (j*sz)++r++cs.drop (j*sz+sz)).length=cs.length:=by
             simp only[a1t,a3I,a3C];omega
            obtain⟨hr1,hF⟩:=hgo.set (pb:=.list k0 ex e (l.set j a)) (hb:=.cells BJ (cs.take (j*sz)++r++cs.drop (j*sz+sz))) hm1 vV (fun Xc Xd=>⟨cs.take (j*sz)++r++cs.drop (j*sz+sz),by simp[aV,aQ],by
             simp only[aV,q4,a04]at Xd;subst Xd;omega⟩) fun hF=>by
              have hw:=(q9.step QL.1 QL.2).set (ao5.mono fun b hb=>hb.gone hR.heap) g6 hj;have:=LR.some (X:=X) (P:=P) (A:=AA A (bW is m)) (m:=bW is m) (h:=ts.heap.set c (.cells BJ (cs.take (j*sz)++r++cs.drop (j*sz+sz)))) (k:=k0) (ex:=ex) (t:=e) (l:=l.set j a) (b:=c) (sz:=sz) (e:=xx) (kk:=BJ) (cs:=cs.take (j*sz)++r++cs.drop (j*sz+sz))
               (by intro e0;apply q1;have:=congrArg List.length e0;rw[a4O]at this;exact a7a.1 this) q2 q3 (by simp[aQ]) hkr (fun e0=>hko (q6 e0)) q7 (by rw[Rq,a4O];exact q8) (hw.step hF .refl)
              rw[a4O]at this;exact this
            rw[<-KJ aiq]at hr1;have WT:=QL.1.trans hF;refine⟨{ ts with heap:=ts.heap.set c (.cells BJ (cs.take (j*sz)++r++cs.drop (j*sz+sz))) },pU (.h c),bW is m,?_,rfl,rfl,hR.step hr1 WT QL.2,WT,QL.2,.wrH (iY g1 vV) aQ,fun b hb=>?_⟩
            .have h9:j*sz+off+n<=l.length*sz:=by
              have h8:=yS.2;unfold wH at g3;split at g3
              .rename_i h0;rw[a3I,a3C,a9U.1]at h0;omega
              .cases g3
             simp only[storeT,hn,a9U,ad7,a2k,h9,a1l q4 yt q8.symm,g5,a0B]
            .simp[pU]at hb;subst hb;exact bg g1 vV
          |gone hi e' _=>simp only[bn,a04]at hi;subst hi;rw[g1]at e';cases e'
         |_=>exact g2.elim
       .cases hl
      .cases hl
     .cases hl
    |_=>simp at hl
  .cases hl
 .cases hl
end
open Go Tw
section
variable {X:l7} {P:Program} {A F:Nat->Prop} {m m':List MB} {h h':List HB} {H H':List (PB X.Γ)}
theorem oq{v:PV X.Γ}{x:TV}(hv:VR X P A m h v x):IQ X P A m h (.val v) (.val x):=hv
theorem NY{ps:aS X.Γ}{ts:St}(hR:vw X P A m ps ts){o:Nat}{pa pb:PE X.Γ}{ea:EV}(ha:IQ X P (AA A m) m ts.heap pa ea)(hl:He X ps o pa=some pb):∃eb,QB o ea=some eb∧IQ X P (AA A m) m ts.heap pb eb:=by
 cases pa with
 |loc k off=>
  rw[Ei ha];simp only[He,a04]at hl;subst hl;exact⟨.loc k (off+o),rfl,rfl,rfl⟩
 |undef|ent|EI=>simp[He]at hl
 |val a=>
  obtain⟨y,rfl,hy⟩:=fU ha;cases a with
  |ptr b off lim=>
   simp only[He]at hl;split at hl
   .rename_i cs hb;split at hl
    .rename_i hle;cases hl;obtain⟨mb,g1,g2⟩:=hR.heap.at_ b _ hb;cases mb with
     |gu c=>
      cases hy with
      |ptr e=>exact⟨.val (.ptr _ (off+o) lim),by simp only[QB,hle,a2k],VR.ptr e⟩
      |gone hi e q=>simp only[bn,a04]at hi;subst hi;rw[g1]at e;cases e
     |_=>exact g2.elim
    cases hl
   .rename_i cs hb;split at hl
    .rename_i hle;cases hl;obtain⟨mb,g1,g2⟩:=hR.heap.at_ b _ hb;cases mb with
     |jA c=>
      cases hy with
      |ptr e=>rw[g1]at e;cases e
      |gone hi e q=>
       simp only[bn,a04]at hi;subst hi;rw[g1]at e;cases e with
       |r _ e=>simp only[roV,a04]at e;subst e;exact⟨.val (.ptr _ (off+o) lim),by simp only[QB,hle,a2k],VR.gone rfl (.ofR g1 rfl) rfl⟩
     |_=>exact g2.elim
    cases hl
   cases hl
  |el t a off=>
   simp only[He]at hl;split at hl
   .rename_i hle;cases hl;cases hy with
    |el q1 q2 q2' q3 q4 q5 q6=>
     rename_i b o0 sz lim cs;rw[q4]at hle;refine⟨.val (.ptr b (o0+off+o) lim),by simp only[QB];rw[a0u (by omega)],?_⟩;rw[aa0];exact VR.el q1 q2 q2' q3 q4 hle q6
    |gone hi _ _=>simp[bn]at hi
   cases hl
  |row b j off=>
   simp only[He,ai9]at hl;split at hl
   rotate_left
   .cases hl
   rename_i n hn;split at hn
   rotate_left
   .cases hn
   rename_i k ex e l hb;cases hn;split at hl
   .rename_i hle;cases hl;obtain⟨mb,g1,g2⟩:=hR.heap.at_ b _ hb;cases mb with
    |dF z=>
     cases hy with
     |row e' hj hq=>
      rw[g1]at e';cases e';cases(g2:LR X P _ _ _ _ _ _ _ _)with
      |emp=>omega
      |some q1 q2 q3 q4 q5 q6 q7 q8 q9=>
       rw[q9.1 j _ (AV hj)]at hle;have yS:=(q9.row (AV hj)).2;refine⟨.val (.ptr _ (j*_+off+o) (l.length*_)),by simp only[QB];rw[a0u (by omega)],?_⟩;rw[aa0];exact VR.row g1 hj hle
     |gone hi e' _=>simp only[bn,a04]at hi;subst hi;rw[g1]at e';cases e'
    |_=>exact g2.elim
   cases hl
  |_=>simp[He]at hl
theorem a9W{ps:aS X.Γ}{ts:St}(hR:vw X P A m ps ts){b:Nat}{k ex:Bool}{e:Nat}{l:List (X.Γ e)}(hb:ps.heap[b]? = some (.list k ex e l)){y:TV}(hy:VR X P (AA A m) m ts.heap (.own b) y)(hl:l≠[]) :
  ∃c sz x,y=.slc c 0 l.length l.length sz x∧m[b]? = some (.dF y)∧dG P e=some sz∧0<sz:=by
 obtain⟨mb,g1,g2⟩:=hR.heap.at_ b _ hb;cases mb with
 |dF z=>
  cases hy with
  |own e' o=>
   rw[g1]at e';cases e';cases(g2:LR X P _ _ _ _ _ _ _ _)with
   |nil=>exact absurd rfl hl
   |emp=>exact absurd rfl hl
   |some q1 q2 q3=>exact⟨_,_,_,rfl,g1,q2,q3⟩
  |gone hi e' _=>simp only[bn,a04]at hi;subst hi;rw[g1]at e';cases e'
 |_=>exact g2.elim
theorem Ai{ps:aS X.Γ}{ts:St}(hR:vw X P A m ps ts){t:TypeId}{px pb:PE X.Γ}{ex:EV}(hx:IQ X P (AA A m) m ts.heap px ex){i:PV X.Γ}{ti:TV}(hi:VR X P (AA A m) m ts.heap i ti){qs:List Prop}(hl:FW X P t ps px i=some (pb,qs))(hq:∀q∈qs,q) :
  ∃eb,mV P t ex ti=some eb∧IQ X P (AA A m) m ts.heap pb eb:=by
 have Uu:∀{k:IntKind} {iv:Int} {n:Nat},gJ iv n->idx n (.int k iv)=some iv.toNat∧iv.toNat<n:=by
  intro k iv n hn;unfold gJ at hn;refine⟨by simp only[idx];rw[a0u hn],by omega⟩
 have hpi:∀{n j:Nat},a3g X n i=some j->idx n ti=some j:=by
  intro n j hj;cases i<;>simp only[a3g]at hj<;>try (cases hj;done)
  cases hi with
  |int=>exact hj
  |gone e _ _=>simp[bn]at e
 unfold FW at hl;split at hl
 .rename_i e hu;split at hl
  .rename_i n t' l fu k iv hn;split at hl
   .rename_i ht;subst ht;simp only[a04,a0w]at hl;obtain⟨rfl,rfl⟩:=hl;have hr:=Uu (k:=k) (hq _ a2S);have:ti=.int k iv:=by
     cases hi with
     |int=>rfl
     |gone e _ _=>simp[bn]at e
    subst this;obtain⟨y,rfl,hy⟩:=fU hx;rcases a1r hy hn with⟨rfl,rfl⟩|⟨b,off,cap,ex',cs,rfl,hk,hc,KC,hw⟩
    .have:=hr.2;simp at this
    .have yS:=hw.row (AV hr.2);have hA:AA A m b:=by
      cases hy with
      |dF a=>exact a
      |gone e _ _=>simp[bn]at e
     have O6:=KC (by intro e0;rw[e0]at hr;have:=hr.2;simp at this);have hle:off+iv.toNat*n+n<=off+cap*n:=by
      have h1:(iv.toNat+1)*n<=cap*n:=a3r n (by have:=hr.2;omega);rw[a3l,ab6]at h1;omega
     refine⟨.val (.ptr b (off+iv.toNat*n) (off+cap*n)),?_,?_⟩
     .simp only[mV,hu,hn,a2k,hr.1,a0B]
     .have:=VR.el (X:=X) (P:=P) (A:=AA A m) (m:=m) (h:=ts.heap) (t:=t') (a:=l.getD iv.toNat (X.d0 t')) (off:=0) (o:=off+iv.toNat*n) hA O6 hle yS.2 (hw.1 _ _ (AV hr.2)) (a4Y _) (fun i c v h1 h2=>hw.2.2 _ _ i c v (AV hr.2) h1 h2);exact oq (by simpa using this)
   .cases hl
  .rename_i n b k iv hn;split at hl
   .rename_i w ex' t' l hb;split at hl
    .rename_i ht;subst ht;simp only[a04,a0w]at hl;obtain⟨rfl,rfl⟩:=hl;have hr:=Uu (k:=k) (hq _ a2S);have:ti=.int k iv:=by
      cases hi with
      |int=>rfl
      |gone e _ _=>simp[bn]at e
     subst this;obtain⟨y,rfl,hy⟩:=fU hx;obtain⟨c,sz,x',rfl,g1,g2,g3⟩:=a9W hR hb hy (by intro e0;rw[e0]at hr;have:=hr.2;simp at this);rw[hn]at g2;cases g2;refine⟨.val (.ptr c (iv.toNat*n) (l.length*n)),?_,?_⟩
     .simp only[mV,hu,hn,a2k,hr.1,a0B,a3H]
     .have:=VR.row (X:=X) (P:=P) (A:=AA A m) (m:=m) (h:=ts.heap) (off:=0) g1 hr.2 (a4Y n);exact oq (by simpa using this)
    .cases hl
   .cases hl
  .rename_i n b o q k iv hn;split at hl
   .rename_i w ex' t' l hb;split at hl
    .rename_i ht;subst ht;simp only[a04,a0w]at hl;obtain⟨rfl,rfl⟩:=hl;have hr:=Uu (k:=k) (hq _ a2S);have:ti=.int k iv:=by
      cases hi with
      |int=>rfl
      |gone e _ _=>simp[bn]at e
     subst this;obtain⟨y,rfl,hy⟩:=fU hx;obtain⟨mb,g1,g2⟩:=hR.heap.at_ b _ hb;cases mb with
     |dF z=>
      cases hy with
      |win e' w1 w2 w3=>
       rw[g1]at e';cases e';cases(g2:LR X P _ _ _ _ _ _ _ _)with
       |emp=>have:=hr.2;omega
       |some q1 q2 q3=>
        rw[hn]at q2;cases q2;have hp:=oq (VR.row (X:=X) (P:=P) (A:=AA A m) (m:=m) (h:=ts.heap) (j:=o+iv.toNat) (off:=0) g1 (by have:=hr.2;omega) (a4Y n));refine⟨_,?_,hp⟩;have h3:=w3.resolve_left (by have:=hr.2;omega);simp only[mV,hu,hn,a2k,hr.1,a0B,a3H,a3l,adV,<-h3]
      |AL e'=>have:=hr.2;omega
      |gone hi e' _=>simp only[bn,a04]at hi;subst hi;rw[g1]at e';cases e'
     |_=>exact g2.elim
    .cases hl
   .cases hl
  .rename_i n b off len cap sz ex' hn;split at hl
   .rename_i cs hb;split at hl
    .rename_i vH;subst vH;simp only[a07,a0w]at hl;obtain⟨j,h1,rfl,rfl⟩:=hl;obtain⟨y,rfl,hy⟩:=fU hx;obtain⟨mb,g1,g2⟩:=hR.heap.at_ b _ hb;cases mb with
     |gu c=>
      cases hy with
      |slc e=>
       have:=hpi h1;rw[g1]at e;cases e;exact⟨.val (.ptr c (off+j*n) (off+cap*n)),by simp only[mV,hu,hn,a2k,this,a0B],VR.ptr g1⟩
      |gone xQ e' _=>simp only[bn,a04]at xQ;subst xQ;rw[g1]at e';cases e'
     |_=>exact g2.elim
    .cases hl
   .cases hl
  .cases hl
 .rename_i len e hu;split at hl
  .rename_i n hn;split at hl
   .rename_i j hj;simp only[a07,a0w]at hl;obtain⟨pa,h1,rfl,rfl⟩:=hl;obtain⟨eb,g1,g2⟩:=NY hR hx h1;exact⟨eb,by simp only[mV,hu,hn,hpi hj,g1],g2⟩
   .cases hl
  .cases hl
 .cases hl
end
open Go Tw
section
variable {X:l7} {P:Program} {A F:Nat->Prop} {m m':List MB} {h h':List HB} {H H':List (PB X.Γ)}
theorem Z4(hr:HR X P A m H h){at_:Array TypeId}{x:PV X.Γ}{tx:TV}(hx:VR X P (AA A m) m h x tx){v:PV X.Γ}{pi:mP}(hl:aem X P at_ H x=some (v,pi)) :
  ∃w ti,YO P at_ h tx=some (w,ti)∧VR X P (AA A m) m h v w∧IR m h ⟨pi,false,false,true⟩ ti∧ti.ws=[]:=by
 unfold aem at hl;split at hl
 .rename_i t ht;unfold YO;simp only[ht];split at hl
  .rename_i s hu;cases hl;cases hx with
   |str=>exact⟨_,_,by first|(simp only[hu];done)|(simp only[hu];rfl),.int _ _,.none,rfl⟩
   |gone hi _ _=>simp[bn]at hi
  .rename_i n e _ hu;cases hl;exact⟨_,_,by first|(simp only[hu];done)|(simp only[hu];rfl),.int _ _,.none,rfl⟩
  .rename_i e b off len cap sz ex hu;split at hl
   .rename_i cs hb;cases hl;obtain⟨mb,g1,g2⟩:=hr.at_ b _ hb;cases mb with
    |gu c=>
     cases hx with
     |slc e'=>exact⟨_,_,by first|(simp only[hu];done)|(simp only[hu];rfl),.int _ _,.none,rfl⟩
     |gone hi e' _=>simp only[bn,a04]at hi;subst hi;rw[g1]at e';cases e'
    |_=>exact g2.elim
   .cases hl
  .rename_i e hu;cases hl;cases hx with
   |nil=>exact⟨_,_,by first|(simp only[hu];done)|(simp only[hu];rfl),.int _ _,.none,rfl⟩
   |gone hi _ _=>simp[bn]at hi
  .rename_i e t' l fu hu;cases hl;cases hx with
   |pz=>exact⟨_,_,by first|(simp only[hu];done)|(simp only[hu];rfl),.int _ _,.none,rfl⟩
   |dF=>exact⟨_,_,by first|(simp only[hu];done)|(simp only[hu];rfl),.int _ _,.none,rfl⟩
   |gone hi _ _=>simp[bn]at hi
  .rename_i e b hu;split at hl
   .rename_i k ex t' l hb;cases hl;obtain⟨mb,g1,g2⟩:=hr.at_ b _ hb;cases mb with
    |dF z=>
     cases hx with
     |own e' _=>
      rw[g1]at e';cases e';cases(g2:LR X P _ _ _ _ _ _ _ _)with
      |nil=>exact⟨_,_,by first|(simp only[hu];done)|(simp only[hu];rfl),.int _ _,.none,rfl⟩
      |emp=>exact⟨_,_,by first|(simp only[hu];done)|(simp only[hu];rfl),.int _ _,.none,rfl⟩
      |some=>exact⟨_,_,by first|(simp only[hu];done)|(simp only[hu];rfl),.int _ _,.none,rfl⟩
     |gone hi e' _=>simp only[bn,a04]at hi;subst hi;rw[g1]at e';cases e'
    |_=>exact g2.elim
   .cases hl
  .rename_i e b o n hu;split at hl
   .rename_i k ex t' l hb;cases hl;obtain⟨mb,g1,g2⟩:=hr.at_ b _ hb;cases mb with
    |dF z=>
     cases hx with
     |win=>exact⟨_,_,by first|(simp only[hu];done)|(simp only[hu];rfl),.int _ _,.none,rfl⟩
     |AL=>exact⟨_,_,by first|(simp only[hu];done)|(simp only[hu];rfl),.int _ _,.none,rfl⟩
     |gone hi e' _=>simp only[bn,a04]at hi;subst hi;rw[g1]at e';cases e'
    |_=>exact g2.elim
   .cases hl
  .rename_i kt e hu;cases hl;cases hx with
   |nil=>exact⟨_,_,by first|(simp only[hu];done)|(simp only[hu];rfl),.int _ _,.none,rfl⟩
   |gone hi _ _=>simp[bn]at hi
  .rename_i kt e r hu;split at hl
   .rename_i es hb;cases hl;obtain⟨mb,g1,g2⟩:=hr.at_ r _ hb;cases mb with
    |gu c=>
     obtain⟨gq,g3,g4,g5⟩:=g2;cases hx with
     |map e'=>
      rw[g1]at e';cases e';exact⟨_,_,by first|(simp only[hu,g3];done)|(simp only[hu,g3];rfl),by rw[g4];exact .int _ _,.rdH (iY g1 rfl) (a05.1 g3).1,rfl⟩
     |gone hi e' _=>simp only[bn,a04]at hi;subst hi;rw[g1]at e';cases e'
    |_=>exact g2.elim
   .cases hl
  .cases hl
 .cases hl
def a6q:BinOp->Option TV
 |.eql=>some (.bool false)
 |.neq=>some (.bool true)
 |_=>none
theorem YX{op:BinOp}{t:TypeId}{x y:Operand}{a b:PV X.Γ}{ta tb:TV}(ha:VR X P A m h a ta)(hb:VR X P A m h b tb){v:PV X.Γ}(hl:aen X P op t x y a b=some v):∃w,sS P op t x y ta tb=some w∧VR X P A m h v w:=by
 unfold aen at hl;split at hl
 .rename_i u w h1 h2;split at hl
  .rename_i r hr;rw[jT ha h1,jT hb h2];exact⟨r,hr,xg hl⟩
  cases hl
 rename_i YJ;split at hl
 rotate_left
 .cases hl
 rename_i hn;have key:∃k,Kr P t=some k∧((ta=.nil k∧Kq tb=some k∧tb.yM=none)∨(tb=.nil k∧Kq ta=some k∧ta.yM=none)):=by
  unfold a1i at hn;split at hn
  rotate_left
  .cases hn
  rename_i k hk;refine⟨k,hk,?_⟩;simp only[a9i,a1D,a6v]at hn;have air:∀{z:PV X.Γ} {tz:TV},VR X P A m h z tz->z=.nil k->tz=.nil k:=by
   intro z tz hz e;subst e;cases hz with
   |nil=>rfl
   |gone hi _ _=>simp[bn]at hi
  have aci:∀{z:PV X.Γ} {tz:TV},VR X P A m h z tz->(match z with|.fn _ _ _=>some NK.fn|.el _ _ _=>some NK.ptr|_=>none)=some k->Kq tz=some k∧tz.yM=none:=by
   intro z tz hz e;cases hz with
   |fn=>exact⟨e,rfl⟩
   |el=>exact⟨e,rfl⟩
   |gone hi _ _=>cases z<;>simp[bn]at hi<;>simp at e
   |_=>simp at e
  have ais:∀{z:PV X.Γ},(match z with|.nil k=>some k|_=>none)=some k->z=.nil k:=by
   intro z e;cases z<;>simp at e
   rw[e]
  rcases hn with⟨h1,h2⟩|⟨h1,h2⟩
  .have:=aci hb h2;exact .inl ⟨air ha (ais h1),this.1,this.2⟩
  have:=aci ha h1;exact .inr ⟨air hb (ais h2),this.1,this.2⟩
 obtain⟨k,hk,hc⟩:=key;have aex:sS P op t x y ta tb=a6q op:=by
  rcases hc with⟨rfl,h2,h3⟩|⟨rfl,h2,h3⟩
  .have hnn:CO P t (.nil k) tb=true:=by unfold CO;rw[hk];simp[YP,h2]
   unfold sS;rw[h3];cases(TV.nil k).yM<;>simp only[hnn,a2k]<;>cases op<;>rfl
  have hnn:CO P t ta (.nil k)=true:=by unfold CO;rw[hk];simp[YP,h2]
  unfold sS;rw[h3];simp only[hnn,a2k];cases op<;>rfl
 rw[aex];cases op<;>simp only at hl ⊢<;>try (cases hl;done)
 .cases hl;exact⟨_,rfl,.bool _⟩
 cases hl;exact⟨_,rfl,.bool _⟩
theorem OJ{op:BinOp}{t:TypeId}{x y:Operand}{b:PV X.Γ}{ta tb:TV}(hb:VR X P A m h b tb){v:PV X.Γ}{q q':Prop}(hl:ML X P op t b q=some (v,q'))(hq:q')(h2:q->Kq ta=some .slc∧ta.yM=none):∃w,sS P op t x y ta tb=some w∧VR X P A m h v w:=by
 unfold ML at hl;split at hl
 .rename_i hk;have h1:tb=.nil .slc:=by
   cases hb with
   |nil=>rfl
   |gone hi _ _=>simp[bn]at hi
  subst h1;have key:q->sS P op t x y ta (.nil .slc)=a6q op:=fun hq=>by
   obtain⟨h2,h3⟩:=h2 hq;have hnn:CO P t ta (.nil .slc)=true:=by unfold CO;rw[hk];simp[YP,h2]
   unfold sS;rw[h3];simp only[hnn,a2k];cases op<;>rfl
  split at hl
  .cases hl;rw[key hq];exact⟨_,rfl,.bool _⟩
  .cases hl;rw[key hq];exact⟨_,rfl,.bool _⟩
  cases hl
 cases hl
theorem a3m(hr:HR X P A m H h){op:BinOp}{t:TypeId}{x y:Operand}{a b:PV X.Γ}{ta tb:TV}(ha:VR X P (AA A m) m h a ta)(hb:VR X P (AA A m) m h b tb){v:PV X.Γ}{q:Prop}(hl:UJ X P op t H a b=some (v,q))(hq:q):∃w,sS P op t x y ta tb=some w∧VR X P (AA A m) m h v w:=by
 unfold UJ at hl;split at hl
 .rename_i l fu;refine OJ hb hl hq (fun iI=>?_);cases ha with
  |pz=>exact absurd rfl iI
  |dF=>exact⟨rfl,rfl⟩
  |gone hi _ _=>simp[bn]at hi
 .rename_i i;split at hl
  .rename_i k ex t' l hi;refine OJ hb hl hq (fun iI=>?_);obtain⟨mb,g1,g2⟩:=hr.at_ i _ hi;cases ha with
   |own e o=>
    rw[g1]at e;cases e;cases g2 with
    |nil=>exact absurd rfl iI
    |emp=>exact absurd rfl iI
    |some=>exact⟨rfl,rfl⟩
   |gone hi e _=>simp only[bn,a04]at hi;subst hi;rw[g1]at e;cases e<;>exact g2.elim
  cases hl
 cases hl
theorem iZ{op:UnOp}{a:PV X.Γ}{ta:TV}(ha:VR X P A m h a ta){v:PV X.Γ}(hl:pun X P op a=some v):∃w,unT P op ta=some w∧VR X P A m h v w:=by
 unfold pun at hl;split at hl
 .rename_i u h1;split at hl
  .rename_i r hr;rw[jT ha h1];exact⟨r,hr,xg hl⟩
  cases hl
 cases hl
theorem Uj{s d:TypeId}{a:PV X.Γ}{ta:TV}(ha:VR X P A m h a ta){v:PV X.Γ}(hl:a5Z X P s d a=some v):∃w,Ri P s d ta=some w∧VR X P A m h v w:=by
 unfold a5Z at hl;split at hl
 .rename_i u h1;split at hl
  .rename_i r hr;rw[jT ha h1];exact⟨r,hr,xg hl⟩
  cases hl
 cases hl
theorem zk{mx:Bool}{at_:Array TypeId}{t:TypeId}{az:List (PV X.Γ)}{ts:List TV}(ha:bY X P A m h az ts){v:PV X.Γ}(hl:MO X P mx at_ t az=some v):∃w,E8 P mx at_ t ts=some w∧VR X P A m h v w:=by
 unfold MO at hl;split at hl
 .rename_i u h1;split at hl
  .rename_i r hr;rw[a1o ha h1];exact⟨r,hr,xg hl⟩
  cases hl
 cases hl
theorem NZ{t:TypeId}{x:PV X.Γ}{tx:TV}(hx:VR X P A m h x tx){i:Nat}{v:PV X.Γ}(hl:ZA X P t x i=some v):∃w,NC P t tx i=some w∧VR X P A m h v w:=by
 unfold ZA at hl;split at hl
 .rename_i fs cs hu;split at hl
  .rename_i f hf;cases hx with
   |agg h1 h2=>
    obtain⟨w,g1,g2⟩:=AP ⟨h1,h2⟩ hl;exact⟨w,by simp only[NC,hu,hf,g1],g2⟩
   |gone hi _ _=>simp[bn]at hi
  cases hl
 cases hl
theorem O1{t:TypeId}{x i:PV X.Γ}{tx ti:TV}(hx:VR X P A m h x tx)(hi:VR X P A m h i ti){v:PV X.Γ}(hl:ZB X P t x i=some v):∃w,IU P t tx ti=some w∧VR X P A m h v w:=by
 unfold ZB at hl;split at hl
 .rename_i len e cs hu;split at hl
  .rename_i n j hn hj;have:idx len ti=some j:=by
    cases i<;>simp only[a3g]at hj<;>try (cases hj;done)
    cases hi with
    |int=>exact hj
    |gone e _ _=>simp[bn]at e
   cases hx with
   |agg h1 h2=>
    obtain⟨w,g1,g2⟩:=AP ⟨h1,h2⟩ hl;exact⟨w,by simp only[IU,hu,hn,this,g1],g2⟩
   |gone hi _ _=>simp[bn]at hi
  cases hl
 cases hl
end
open Go Tw
section
variable {X:l7} {P:Program} {A F:Nat->Prop} {m m':List MB} {h h':List HB} {H H':List (PB X.Γ)}
theorem Hy:∀{is:List Nat} {H:List (PB X.Γ)} {i:Nat} {pb:PB X.Γ},(aZ is H)[i]? = some pb->(i∈is∧pb=.gone)∨(i∉is∧H[i]? = some pb)
 | [],_,_,_,h=>.inr ⟨by simp,h⟩
 |j::is,H,i,pb,h=>by
  rcases Hy (is:=is) (H:=X5 j H) h with⟨h1,h2⟩|⟨h1,h2⟩
  .exact .inl ⟨a2U _ h1,h2⟩
  unfold X5 at h2;by_cases e:j=i
  .subst e;rw[a4G]at h2;cases hx:H[j]? with
   |none=>rw[hx]at h2;cases h2
   |some y=>rw[hx]at h2;cases h2;exact .inl ⟨a2S,rfl⟩
  rw[a0L e]at h2;exact .inr ⟨by simp[h1,Ne.symm e],h2⟩
theorem qN(hr:HR X P A m H h)(is:List Nat){k ex x:Bool}{e size:Nat}{rows:List (X.Γ e)}{cs:List TV}(hw:eG X P (FA A m is) (bW is m) h e rows cs 0 size)(hc:cs.length=rows.length*size)(hn:rows≠[])(hz:dG P e=some size)(h0:0<size)(hx:ex=true->x=true) :
  ∃m1,HR X P A m1 (aZ is H++[.list k ex e rows]) (h++[.cells .own cs])∧Fr m h m1 (h++[.cells .own cs])∧Up m m1∧VR X P (AA A m1) m1 (h++[.cells .own cs]) (.own H.length) (.slc h.length 0 rows.length rows.length size x):=by
 have hgo:=hr.aZ is;have QL:=iE (h:=h) is m;have vV:(MB.dF (.slc h.length 0 rows.length rows.length size x)).own=some h.length:=by simp only[MB.own];rw[a0o (by simpa using hn)]
 have hF:Fr (bW is m) h (bW is m++[.dF (.slc h.length 0 rows.length rows.length size x)]) (h++[.cells .own cs]):=by
  refine⟨by simp,fun b hb _=>by rw[a0g hb],fun b hb=>?_,fun b cs hc=>⟨cs,by rw[fO (a0g (gX hc)),hc],a0x _⟩⟩;rw[jk,a2L,kJ,vV]at hb;rcases hb with hb|hb
  .exact .inl hb
  .simp at hb;exact .inr (by omega)
 obtain⟨h1,h2,h3⟩:=hgo.push (pb:=.list k ex e rows) (hb:=.cells .own cs) (.inl vV)
  (LR.some (kk:=.own) hn hz h0 (by simp) (by simp) (fun _=>rfl) hx hc ((hw.mono fun b hb=>hb.gone hr).step hF (wZ _)))
 refine⟨_,h1,QL.1.trans h2,QL.2.trans h3,.own ?_ rfl⟩;rw[<-hr.len,<-ng is m];simp
theorem SK(hr:HR X P A m H h)(is:List Nat){k ex:Bool}{e:Nat}{y:TV}(hy:(MB.dF y).own=none)(ho:jd y=true)(hl:LR X P (AA A (bW is m++[.dF y])) (bW is m++[.dF y]) h k ex e [] y) :
  ∃m1,HR X P A m1 (aZ is H++[.list k ex e []]) h∧Fr m h m1 h∧Up m m1∧VR X P (AA A m1) m1 h (.own H.length) y:=by
 have QL:=iE (h:=h) is m;obtain⟨h1,h2,h3⟩:=(hr.aZ is).ach (pb:=.list k ex e []) hy hl;refine⟨_,h1,QL.1.trans h2,QL.2.trans h3,.own ?_ ho⟩;rw[<-hr.len,<-ng is m];simp
theorem a9X(hr:HR X P A m H h){is:List Nat}{y:TV}(hy:(MB.dF y).own=none){b:Nat}(hb:FA A m is b):AA A (bW is m++[.dF y]) b:=by
 have:=hb.gone hr;refine⟨this.1,fun hm=>this.2 ?_⟩;rw[jk,a2L,kJ,hy]at hm;simpa using hm
theorem push_empty(hr:HR X P A m H h)(is:List Nat){k ex:Bool}{e size b off:Nat}{cs:List TV}(hz:dG P e=some size)(h0:0<size)(ha:FA A m is b)(hb:aV h b=some cs)(ho:off<=cs.length) :
  ∃m1,HR X P A m1 (aZ is H++[.list k ex e []]) h∧Fr m h m1 h∧Up m m1∧VR X P (AA A m1) m1 h (.own H.length) (.slc b off 0 0 size true):=
 SK hr is rfl rfl (LR.emp (a9X hr rfl ha) hb ho hz h0)
theorem OL(hr:HR X P A m H h)(is:List Nat){k ex:Bool}{e:Nat} :
  ∃m1,HR X P A m1 (aZ is H++[.list k ex e []]) h∧Fr m h m1 h∧Up m m1∧VR X P (AA A m1) m1 h (.own H.length) (.nil .slc):=
 SK hr is rfl rfl .nil
theorem OM(hr:HR X P A m H h){b c:Nat}(is:List Nat){mb MP:MB}{pb:PB X.Γ}{h1:List HB}(hb:m[b]? = some mb)(ho:mb.own=some c)(ho':MP.own=some c)(hlen:h1.length=h.length)(hs:∀d,d≠c->h1[d]? = h[d]?)
  (hg:∀cs,aV h c=some cs->∃cs',aV h1 c=some cs'∧cs.length<=cs'.length)
  (qR:Fr m h (bW (b::is) m++[MP]) h1->Up m (bW (b::is) m++[MP])->BR X P (AA A (bW (b::is) m++[MP])) (bW (b::is) m++[MP]) h1 pb MP) :
  ∃m1,m1=bW (b::is) m++[MP]∧HR X P A m1 (aZ (b::is) H++[pb]) h1∧Fr m h m1 h1∧Up m m1∧m1[H.length]? = some MP:=by
 have QL:=iE (h:=h) (b::is) m;have hgo:=hr.aZ (b::is);have hnc:c∉bD (bW (b::is) m):=fun hm=>by
  obtain⟨j,mbj,g1,g2,g3⟩:=AQ hm;have:=jf hr.nodup hb g2 ho g3;exact g1 (by rw[<-this];exact a2S)
 have zl:∀d,d∈bD (bW (b::is) m++[MP])↔d∈bD (bW (b::is) m)∨d=c:=by
  intro d;rw[jk,a2L,kJ,ho'];simp
 have G6:c∈bD m:=bg hb ho;have hF:Fr m h (bW (b::is) m++[MP]) h1:=by
  refine⟨by omega,fun d hd hn=>hs d fun e=>hn (e▸G6),fun d hd=>?_,fun d cs hc=>?_⟩
  .rcases(zl d).1 hd with hd|rfl
   .exact QL.1.new d hd
   .exact .inl G6
  .by_cases e:d=c
   .subst e;exact hg cs hc
   .exact⟨cs,by rw[fO (hs d e),hc],a0x _⟩
 have hU:Up m (bW (b::is) m++[MP]):=QL.2.trans (wZ _);refine⟨_,rfl,?_,hF,hU,?_⟩
 .refine hr.next hF hU (by simp[ng,og,hr.len]) ?_ fun i pbi hi=>?_
  .rw[jk,kJ,ho'];refine a99.2 ⟨hgo.nodup,by simp,fun a ha b' yw e=>?_⟩;simp at yw;subst yw;subst e;exact hnc ha
  .rcases a4E i (aZ (b::is) H).length with aQ|EX
   .rw[a0g aQ]at hi;have a6r:i<(bW (b::is) m).length:=by rw[hgo.len];exact aQ
    rcases Hy hi with⟨e1,rfl⟩|⟨e1,e2⟩
    .obtain⟨mbi,g1,g2⟩:=hgo.at_ i _ hi;cases mbi with
     |gone=>exact .inr ⟨.gone,by rw[a0g a6r];exact g1,trivial⟩
     |_=>exact g2.elim
    .obtain⟨mbi,g1,_⟩:=hr.at_ i _ e2;left;have hm:=Hg (b::is) g1;rw[show(b::is).contains i=false by simpa using e1]at hm;refine⟨mbi,e2,g1,by rw[a0g a6r];simpa using hm,fun d hd=>hs d fun e=>?_⟩;subst e;have:=jf hr.nodup hb g1 ho hd;exact e1 (by rw[<-this];exact a2S)
   .rw[a0G EX]at hi;have:i-(aZ (b::is) H).length=0:=by
     rcases abg (i-(aZ (b::is) H).length)with h|h
     .exact h
     .rw[a4B (by simp;omega)]at hi;cases hi
    rw[this]at hi;simp only[a2F,a04]at hi;subst hi;exact .inr ⟨MP,by rw[a0G (by rw[hgo.len];exact EX),hgo.len,this];rfl,qR hF hU⟩
 .have:H.length=(bW (b::is) m).length:=by rw[ng,hr.len]
  rw[this];simp
end
open Go Tw
section
variable {X:l7} {P:Program} {A F:Nat->Prop} {m m':List MB} {h h':List HB} {H H':List (PB X.Γ)}
def Xe(X:l7)(P:Program)(A:Nat->Prop)(m:List MB)(ts:St)(r:Option (TV×St×mP))(v:PV X.Γ)(H1:List (PB X.Γ))(pi:PI):Prop:=
 ∃w h1 ti m1,r=some (w,{ ts with heap:=h1 },ti)∧HR X P A m1 H1 h1∧VR X P (AA A m1) m1 h1 v w∧Fr m ts.heap m1 h1∧Up m m1∧IR m ts.heap pi ti∧∀b,.h b∈ti.ws->b∈bD m
theorem oz{e:TypeId}{n k:Nat}(hb:uy P e n=true)(hk:k<=n):uy P e k=true:=by
 unfold uy at hb ⊢;split at hb
 .rename_i i hi;simp only[a1D,a0N]at hb ⊢;obtain⟨⟨⟨⟨h1,h2⟩,h3⟩,h4⟩,h5⟩:=hb;have:=a3r i.bytes hk;exact⟨⟨⟨⟨by omega,by omega⟩,h3⟩,h4⟩,h5⟩
 cases hb
theorem oC{t e:TypeId}{n:Nat}(hs:jO P t=some (e,n)):dG P e=some n∧0<n:=by
 unfold jO at hs;split at hs
 .split at hs
  .rename_i k hk;split at hs
   .cases hs
   rename_i h0;simp only[a04,a0w]at hs;obtain⟨rfl,rfl⟩:=hs;exact⟨hk,by omega⟩
  cases hs
 cases hs
theorem vW(hr:HR X P A m H h){e sz:Nat}{x:PV X.Γ}{tx:TV}(hv:VR X P (AA A m) m h x tx)(hz:dG P e=some sz){rows:List (X.Γ e)}{is:List Nat}(hs:Az X H e sz x=some (rows,is)){b:Nat}(hb:.h b∈dL tx):((∃i,.h i∈D9 X x∧Hw m i b)∨b∉bD m)∧b<h.length:=by
 have lr:∀{i:Nat} {k ex:Bool} {t:Nat} {l:List (X.Γ t)} {c off len cap s:Nat} {e':Bool},H[i]? = some (.list k ex t l)->m[i]? = some (.dF (.slc c off len cap s e'))->(Hw m i c∨c∉bD m)∧c<h.length:=by
  intro i k ex t l c off len cap s e' hH hm;obtain⟨mb,g1,g2⟩:=hr.at_ i _ hH;rw[hm]at g1;cases g1;cases(g2:LR X P _ _ _ _ _ _ _ _)with
  |emp h0 h1=>exact⟨.inr h0.2,gX h1⟩
  |some q1 q2 q3 q4=>exact⟨.inl (iY hm (by simp only[MB.own];rw[a0o (by simpa using q1)])),(a05.1 q4).1⟩
 cases x with
 |nil k=>
  cases hv with
  |nil=>simp[dL]at hb
  |gone hi _ _=>simp[bn]at hi
 |dF t l fu=>
  cases hv with
  |pz=>simp[dL]at hb
  |dF a ac=>simp[dL]at hb;subst hb;exact⟨.inr a.2,gX ac⟩
  |gone hi _ _=>simp[bn]at hi
 |own i=>
  simp only[Az]at hs;split at hs
  .rename_i k ex t l hH;cases hv with
   |own e' o=>
    cases tx<;>simp[dL]at hb
    subst hb;obtain⟨h1,h2⟩:=lr hH e';rcases h1 with h1|h1
    .exact⟨.inl ⟨i,by simp[D9],h1⟩,h2⟩
    exact⟨.inr h1,h2⟩
   |gone hi e' _=>
    simp only[bn,a04]at hi;subst hi;obtain⟨mb,g1,g2⟩:=hr.at_ i _ hH;rw[g1]at e';cases e'<;>exact g2.elim
  cases hs
 |win i o n=>
  simp only[Az]at hs;split at hs
  .rename_i k ex t l hH;cases hv with
   |win e' q q'=>
    simp[dL]at hb;subst hb;obtain⟨h1,h2⟩:=lr hH e';rcases h1 with h1|h1
    .exact⟨.inl ⟨i,by simp[D9],h1⟩,h2⟩
    exact⟨.inr h1,h2⟩
   |AL=>simp[dL]at hb
   |gone hi e' _=>
    simp only[bn,a04]at hi;subst hi;obtain⟨mb,g1,g2⟩:=hr.at_ i _ hH;rw[g1]at e';cases e'<;>exact g2.elim
  cases hs
 |slc c off len cap s ex=>
  simp only[Az]at hs;split at hs
  .rename_i cs hH;cases hv with
   |slc e'=>
    simp[dL]at hb;subst hb;obtain⟨mb,g1,g2⟩:=hr.at_ c _ hH;rw[e']at g1;cases g1;exact⟨.inl ⟨c,by simp[D9],iY e' rfl⟩,g2.has rfl⟩
   |gone hi e' _=>
    simp only[bn,a04]at hi;subst hi;obtain⟨mb,g1,g2⟩:=hr.at_ c _ hH;rw[g1]at e';cases e'<;>exact g2.elim
  cases hs
 |_=>simp[Az]at hs
theorem IR.reads{p:PI}{ks:List Key}(hp:p.hp=true)(hk:∀b,.h b∈ks->((∃i,.h i∈p.i.ts∧Hw m i b)∨b∉bD m)∧b<h.length)(hl:∀k,.l k∉ks):IR m h p (iy ks):=
 ⟨fun h=>(by cases h),fun k h=>absurd h (hl k),fun k h=>(by cases h),fun b h=>(by cases h),hk,fun h=>(by rw[hp]at h;cases h)⟩
theorem pG{tx:TV}{k:Nat}:Key.l k∉dL tx:=by cases tx<;>simp[dL]
theorem J4(hX:bP X P){ps:aS X.Γ}{ts:St}(hR:vw X P A m ps ts){at_:Array TypeId}{d x:PV X.Γ}{td tx:TV}(hd:VR X P (AA A m) m ts.heap d td)(hx:VR X P (AA A m) m ts.heap x tx){v:PV X.Γ}{H1:List (PB X.Γ)}{pi:mP}{qs:List Prop}
  (hl:UH X P at_ ps.heap d x=some (v,H1,pi,qs)) (hq:∀q∈qs,q):Xe X P A m ts (kF P at_ ts td tx) v H1 ⟨pi,false,false,true⟩:=by
 have hr:=hR.heap;unfold UH at hl;split at hl
 .rename_i st xt wo KE;split at hl
  .cases hl
  .rename_i hint;split at hl
   .rename_i e size Ac;split at hl
    .rename_i Lu;obtain⟨hz,h0⟩:=oC Ac;split at hl
     .rename_i rows is hs;obtain⟨new,s1,s2,s3⟩:=UZ (m':=bW is m) hX hr hx hz hs;have hk0:IR m ts.heap ⟨iy (D9 X x),false,false,true⟩ (iy (dL tx)):=IR.reads rfl (fun b hb=>vW hr hx hz hs hb) fun k=>pG;have hrn:rows.length=0↔rows=[]:=a7a;split at hl
      .-- nil
       simp only[a04,a0w]at hl;obtain⟨rfl,rfl,rfl,rfl⟩:=hl;have Kv:rows.length<=ah:=hq _ a2S;have:td=.nil .slc:=by
        cases hd with
        |nil=>rfl
        |gone hi _ _=>simp[bn]at hi
       subst this;by_cases hn:rows=[]
       .subst hn;obtain⟨m1,g1,g2,g3,g4⟩:=OL hr is (k:=true) (ex:=false) (e:=e);exact⟨_,ts.heap,_,m1,by unfold kF;simp only[wo,KE,hint,a3q,Ac,s1,a5j,a2k,a2u],g1,g4,g2,g3,hk0,fun b hb=>by simp[iy]at hb⟩
       .obtain⟨m1,g1,g2,g3,g4⟩:=qN hr is (k:=true) (ex:=false) (x:=false) s3 s2 hn hz h0 (by simp);refine⟨_,ts.heap++[.cells .own new],_,m1,?_,g1,g4,g2,g3,hk0,fun b hb=>by simp[iy]at hb⟩;unfold kF;simp only[wo,KE,hint,a3q,Ac,s1,a2u,hrn,hn,s2,a2k,oz Lu Kv]
      .-- an own list
       rename_i b;split at hl
       .rename_i k ex t' l hb;split at hl
        .cases hl
        rename_i hnb;split at hl
        .rename_i l2 OO;obtain⟨rfl,rfl⟩:=uO OO;simp only[a04,a0w]at hl;obtain⟨rfl,rfl,rfl,rfl⟩:=hl;have Kv:l2.length+rows.length<=ah:=hq _ a2S;obtain⟨mb,g1,g2⟩:=hr.at_ b _ hb;have Wp:∀{c:Nat},Hw m b c∨c∉bD m->c<ts.heap.length->IR m ts.heap ⟨⟨false,.h b::D9 X x,[.h b]⟩,false,false,true⟩ (iy (.h c::dL tx)):=fun{c} hc aQ=>IR.reads rfl (fun d hd=>by
          rcases a1J.1 hd with e0|e0
          .cases e0;rcases hc with hc|hc
           .exact⟨.inl ⟨b,a2S,hc⟩,aQ⟩
           .exact⟨.inr hc,aQ⟩
          .obtain⟨h0,h9⟩:=vW hr hx hz hs e0;rcases h0 with⟨i,h1,h2⟩|h1
           .exact⟨.inl ⟨i,a2U _ h1,h2⟩,h9⟩
           .exact⟨.inr h1,h9⟩) fun j hj=>by
            rcases a1J.1 hj with e0|e0
            .cases e0
            .exact pG e0
         have kT:IR m ts.heap ⟨⟨false,.h b::D9 X x,[.h b]⟩,false,false,true⟩ (iy (dL tx)):=IR.reads rfl (fun d hd=>by
          obtain⟨h0,h9⟩:=vW hr hx hz hs hd;rcases h0 with⟨i,h1,h2⟩|h1
          .exact⟨.inl ⟨i,a2U _ h1,h2⟩,h9⟩
          .exact⟨.inr h1,h9⟩) fun j hj=>pG hj
         cases mb with
         |dF z=>
          cases hd with
          |gone hi e' _=>simp only[bn,a04]at hi;subst hi;rw[g1]at e';cases e'
          |own e' o=>
           rw[g1]at e';cases e';have hlr:LR X P (AA A m) m ts.heap k ex t' l2 td:=g2;have Um:eG X P (FA A m (b::is)) (bW (b::is) m) ts.heap t' rows new 0 size:=(s3.mono fun c hc=>FA.mono (fun i hi=>a2U _ hi) hc).jw hX;cases hlr with
           |nil=>
            simp only[ac0];by_cases hn:rows=[]
            .subst hn;obtain⟨m1,f1,f2,f3,f4⟩:=OL hr (b::is) (k:=k&&ex) (ex:=false) (e:=t');exact⟨_,ts.heap,_,m1,by unfold kF;simp only[wo,KE,hint,a3q,Ac,s1,a5j,a2k,a2u],f1,f4,f2,f3,kT,fun c hc=>by simp[iy]at hc⟩
            .obtain⟨m1,f1,f2,f3,f4⟩:=qN hr (b::is) (k:=k&&ex) (ex:=false) (x:=false) Um s2 hn hz h0 (by simp);refine⟨_,ts.heap++[.cells .own new],_,m1,?_,f1,f4,f2,f3,kT,fun c hc=>by simp[iy]at hc⟩;unfold kF;simp only[wo,KE,hint,a3q,Ac,s1,a2u,hrn,hn,s2,a2k,oz Lu (show rows.length<=ah by omega)]
           |emp p0 p1 p2 p3 p4=>
            rename_i c off sz cs;rw[hz]at p3;cases p3;simp only[ac0];by_cases hn:rows=[]
            .subst hn;obtain⟨m1,f1,f2,f3,f4⟩:=push_empty hr (b::is) (k:=k&&ex) (ex:=false) hz h0 (.inl p0) p1 p2;exact⟨_,ts.heap,_,m1,by unfold kF;simp only[wo,KE,hint,a3q,Ac,s1,a5j,a2k,a2u],f1,f4,f2,f3,kT,fun c hc=>by simp[iy]at hc⟩
            .obtain⟨m1,f1,f2,f3,f4⟩:=qN hr (b::is) (k:=k&&ex) (ex:=false) (x:=false) Um s2 hn hz h0 (by simp);refine⟨_,ts.heap++[.cells .own new],_,m1,?_,f1,f4,f2,f3,Wp (c:=c) (.inr p0.2) (gX p1),fun c hc=>by simp[iy]at hc⟩;have oZ:fG size ts.heap (.slc c off 0 0 size true)=some (0,[]):=(by simp[fG]);unfold kF;simp only[wo,KE,hint,a3q,Ac,s1,a2u,hrn,hn,s2,a2k,a3H,Nat.le_zero_eq,oz Lu (show rows.length<=ah by omega),oZ,a0B,ac0]
           |some p1 p2 p3 p4 p5 p6 p7 p8 p9=>
            rename_i c sz xx kk cs;rw[hz]at p2;cases p2;have vV:(MB.dF (TV.slc c 0 l2.length l2.length size xx)).own=some c:=by simp only[MB.own];rw[a0o (by simpa using p1)]
            by_cases hn:rows=[]
            .subst hn;simp only[a5R];obtain⟨m1,f0,f1,f2,f3,f4⟩:=OM (pb:=.list (k&&ex) false t' l2) hr is g1 vV vV rfl (fun _ _=>rfl) (fun cs hc=>⟨cs,hc,a0x _⟩) (fun hF hU=>LR.some p1 hz p3 p4 p5 (fun hk=>p6 (by simp at hk;exact hk.1)) (by simp) p8 (p9.step hF hU));exact⟨_,ts.heap,_,m1,by unfold kF;simp only[wo,KE,hint,a3q,Ac,s1,a5j,a2k,a2u],f1,.own f4 rfl,f2,f3,kT,fun c hc=>by simp[iy]at hc⟩
            .have hle:¬l2.length+rows.length<=l2.length:=by
              have:rows.length≠0:=fun e0=>hn (hrn.1 e0);omega
             have iI:l2++rows≠[]:=(by simp[p1]);cases xx with
             |true=>
              have hold:fG size ts.heap (.slc c 0 l2.length l2.length size true)=some (l2.length,cs):=by
               simp only[fG,a2k];rw[a0o (fun e0=>p1 (a7a.1 e0)),wX p4 (by omega)];simp only[sub];rw[a0u (by omega),aaC,a9V (by omega)];rfl
              have hw1:eG X P (FA A m (b::is)) (bW (b::is) m) ts.heap t' l2 cs 0 size:=(p9.mono fun c hc=>.inl hc).jw hX;obtain⟨m1,f1,f2,f3,f4⟩:=qN hr (b::is) (k:=k&&ex) (ex:=false) (x:=false) (hw1.app Um p8) (by rw[a1t,a1t,a3l,p8,s2]) iI hz h0 (by simp);refine⟨_,ts.heap++[.cells .own (cs++new)],_,m1,?_,f1,f4,f2,f3,Wp (c:=c) (.inl (iY g1 vV)) (a05.1 p4).1,fun c hc=>by simp[iy]at hc⟩;unfold kF;simp only[wo,KE,hint,a3q,Ac,s1,a2u,hrn,hn,s2,a2k,hle,oz Lu Kv,hold,a0B,a1t]
             |false=>
              have hex:ex=false:=by cases ex with
               |true=>exact absurd (p7 rfl) (by simp)
               |false=>rfl
              subst hex;have aQ:=(a05.1 p4).1;obtain⟨m1,f0,f1,f2,f3,f4⟩:=OM (pb:=.list (k&&false) false t' (l2++rows)) (h1:=ts.heap.set c (.cells kk.more (cs++new))) (MP:=.dF (.slc c 0 (l2.length+rows.length) (l2.length+rows.length) size false)) hr is g1 vV
               (by simp only[MB.own];rw[a0o (by omega)]) (by simp) (fun d hd=>a0L (Ne.symm hd)) (fun Xc KC=>⟨cs++new,by simp[aV,aQ],by
                simp only[aV,p4,a04]at KC;subst KC;simp⟩) (fun hF hU=>by
                have QL:=iE (h:=ts.heap) (b::is) m;have QF:∀q cs',FA A m is q->aV ts.heap q=some cs'->AA A (bW (b::is) m++[.dF (.slc c 0 (l2.length+rows.length) (l2.length+rows.length) size false)]) q∧(ts.heap.set c (.cells kk.more (cs++new)))[q]? = ts.heap[q]?:=fun q cs' hq hc=>by
                 have YH:q≠c:=fun e0=>by
                  subst e0;rcases hq with hq|⟨i,mb,e1,e2,e3⟩
                  .exact hq.2 (bg g1 vV)
                  .have:=jf hr.nodup g1 e2 vV e3;subst this;exact hnb (by simpa using e1)
                 have hg:=FA.gone hr (FA.mono (js:=b::is) (fun i hi=>a2U _ hi) hq);refine⟨⟨hg.1,fun hm=>?_⟩,a0L (Ne.symm YH)⟩;rw[jk,a2L,kJ]at hm;rcases hm with hm|hm
                 .exact hg.2 hm
                 .simp only[MB.own]at hm;rw[a0o (by omega)]at hm;simp at hm;exact YH hm
                have:=LR.some (X:=X) (P:=P) (A:=AA A (bW (b::is) m++[.dF (.slc c 0 (l2.length+rows.length) (l2.length+rows.length) size false)])) (m:=bW (b::is) m++[.dF (.slc c 0 (l2.length+rows.length) (l2.length+rows.length) size false)]) (h:=ts.heap.set c (.cells kk.more (cs++new))) (k:=k&&false) (ex:=false) (t:=t') (l:=l2++rows) (b:=c) (sz:=size) (e:=false) (kk:=kk.more) (cs:=cs++new)
                 iI hz h0 (by simp[aQ]) (by cases kk<;>simp[BK.more]) (by simp) (by simp) (by rw[a1t,a1t,a3l,p8,s2]) ((p9.step hF hU).app (s3.move hX QF) p8)
                rw[a1t]at this;exact this)
              refine⟨_,ts.heap.set c (.cells kk.more (cs++new)),⟨false,.h c::dL tx,[.h c]⟩,m1,?_,f1,.own f4 rfl,f2,f3,⟨fun h=>(by cases h),fun j hj=>?_,fun j hj=>(by simp at hj),fun d hd=>?_,fun d hd=>?_,fun h=>(by cases h)⟩,fun d hd=>?_⟩
              .unfold kF;simp only[wo,KE,hint,a3q,Ac,s1,a2u,hrn,hn,s2,a2k,hle,oz Lu Kv,p4,ne_eq,not_true_eq_false,p5,p8,a7a,p1,or_self]
              .rcases a1J.1 hj with e0|e0
               .cases e0
               .exact absurd e0 pG
              .simp at hd;subst hd;exact .inl ⟨b,by simp,iY g1 vV⟩
              .rcases a1J.1 hd with e0|e0
               .cases e0;exact⟨.inl ⟨b,a2S,iY g1 vV⟩,aQ⟩
               .obtain⟨h0,h9⟩:=vW hr hx hz hs e0;rcases h0 with⟨i,h1,h2⟩|h1
                .exact⟨.inl ⟨i,a2U _ h1,h2⟩,h9⟩
                .exact⟨.inr h1,h9⟩
              .simp at hd;subst hd;exact bg g1 vV
         |_=>exact g2.elim
        .cases hl
       .cases hl
      .-- a full frozen list
       rename_i t' l;split at hl
       .rename_i l2 OO;obtain⟨rfl,rfl⟩:=uO OO;simp only[a04,a0w]at hl;obtain⟨rfl,rfl,rfl,rfl⟩:=hl;have Kv:l2.length+rows.length<=ah:=hq _ a2S;have Gw:l2=[]∨rows≠[]:=hq _ (a2U _ a2S);cases hd with
        |gone hi _ _=>simp[bn]at hi
        |pz=>
         simp only[ac0];by_cases hn:rows=[]
         .subst hn;obtain⟨m1,f1,f2,f3,f4⟩:=OL hr is (k:=true) (ex:=false) (e:=t');exact⟨_,ts.heap,_,m1,by unfold kF;simp only[wo,KE,hint,a3q,Ac,s1,a5j,a2k,a2u],f1,f4,f2,f3,hk0,fun c hc=>by simp[iy]at hc⟩
         .obtain⟨m1,f1,f2,f3,f4⟩:=qN hr is (k:=true) (ex:=false) (x:=false) s3 s2 hn hz h0 (by simp);refine⟨_,ts.heap++[.cells .own new],_,m1,?_,f1,f4,f2,f3,hk0,fun c hc=>by simp[iy]at hc⟩;unfold kF;simp only[wo,KE,hint,a3q,Ac,s1,a2u,hrn,hn,s2,a2k,oz Lu (show rows.length<=ah by omega)]
        |dF p1 p2 p2' p3 p4 p5 p6 p7 p8 p9=>
         rename_i c off cap sz xx cs;rw[hz]at p3;cases p3;obtain⟨rfl,rfl⟩:=p7 rfl;have hk3:IR m ts.heap ⟨iy (D9 X x),false,false,true⟩ (iy (.h c::dL tx)):=IR.reads rfl (fun d hd=>by
          rcases a1J.1 hd with e0|e0
          .cases e0;exact⟨.inr p1.2,gX p2⟩
          .exact vW hr hx hz hs e0) fun j hj=>by
           rcases a1J.1 hj with e0|e0
           .cases e0
           .exact pG e0
         by_cases hn:rows=[]
         .have qU:l2=[]:=by rcases Gw with h1|h1;exact h1;exact absurd hn h1
          subst hn;subst qU;obtain⟨m1,f1,f2,f3,f4⟩:=push_empty hr is (k:=true) (ex:=false) hz h0 (.inl p1) p2 (by simpa using p5);exact⟨_,ts.heap,_,m1,by unfold kF;simp only[wo,KE,hint,a3q,Ac,s1,a5j,a2k,a2u],f1,f4,f2,f3,hk0,fun c hc=>by simp[iy]at hc⟩
         .have hle:¬l2.length+rows.length<=l2.length:=by
           have:rows.length≠0:=fun e0=>hn (hrn.1 e0);omega
          have hw1:eG X P (FA A m is) (bW is m) ts.heap t' l2 ((cs.drop off).take (l2.length*size)) 0 size:=by
           have hh:eG X P (AA A m) m ts.heap t' l2 cs off size:=⟨p8,p5,p9⟩;exact(hh.take.mono fun c hc=>.inl hc).jw hX
          have hlen:((cs.drop off).take (l2.length*size)).length=l2.length*size:=by rw[a3I,a3C];omega
          obtain⟨m1,f1,f2,f3,f4⟩:=qN hr is (k:=true) (ex:=false) (x:=false) (hw1.app s3 hlen) (by rw[a1t,a1t,a3l,hlen,s2]) (by simp[hn]) hz h0 (by simp);refine⟨_,ts.heap++[.cells .own ((cs.drop off).take (l2.length*size)++new)],_,m1,?_,f1,f4,f2,f3,hk3,fun c hc=>by simp[iy]at hc⟩;have oZ:fG size ts.heap (.slc c off l2.length l2.length size true)=some (l2.length,(cs.drop off).take (l2.length*size)):=by
           simp only[fG,a2k,sub];by_cases qU:l2.length=0
           .rw[a0u qU,qU,aco,List.take_zero]
           .rw[a0o qU,p2' (fun e0=>qU (by rw[e0];rfl))];simp only;rw[a0u p5];rfl
          unfold kF;simp only[wo,KE,hint,a3q,Ac,s1,a2u,hrn,hn,s2,a2k,hle,oz Lu Kv,oZ,a0B,a1t]
       .cases hl
      .cases hl
     .cases hl
    .cases hl
   .cases hl
 .cases hl
end
open Go Tw
theorem Xf{α:Type}{l rows:List α}{o k:Nat}(h:o+k<=l.length)(hk:k<=rows.length):(OB l o k rows).length=l.length:=by
 unfold OB;simp;omega
theorem a3n{α:Type}{l rows:List α}{o:Nat}:OB l o 0 rows=l:=by unfold OB;simp
section
variable {X:l7} {P:Program} {A F:Nat->Prop} {m m':List MB} {h h':List HB} {H H':List (PB X.Γ)}
theorem eG.put{t sz o k:Nat}{l rows:List (X.Γ t)}{cs new:List TV}(h1:eG X P F m h t l cs 0 sz)(h2:eG X P F m h t rows new 0 sz)(hc:cs.length=l.length*sz)(hn:new.length=rows.length*sz)(ho:o+k<=l.length)(hk:k<=rows.length) :
  eG X P F m h t (OB l o k rows) (cs.take (o*sz)++new.take (k*sz)++cs.drop (o*sz+k*sz)) 0 sz:=by
 have a1:=(h1.part (o:=0) (n:=o) (by omega)).take;have a2:=(h2.part (o:=0) (n:=k) (by omega)).take;have a3:=(h1.part (o:=o+k) (n:=l.length-(o+k)) (by omega)).take;have l1:((l.drop 0).take o).length=o:=by simp;omega
 have l2:((rows.drop 0).take k).length=k:=by simp;omega
 have l3:((l.drop (o+k)).take (l.length-(o+k))).length=l.length-(o+k):=by simp
 rw[l1]at a1;rw[l2]at a2;rw[l3]at a3;simp only[aco,adV,a3H,aaC]at a1 a2 a3;have m1:o*sz<=cs.length:=by rw[hc];exact a3r _ (by omega)
 have m2:k*sz<=new.length:=by rw[hn];exact a3r _ hk
 have r:=(a1.app a2 (by rw[a3I,a3I];rw[a7E m1,a7E (by omega)])).app a3 (by
  simp only[a1t,a3I];rw[a7E m1,a7E m2,a7E (by omega),a7E hk,a3l])
 have e1:l.drop (o+k)=(l.drop (o+k)).take (l.length-(o+k)):=by rw[a9V (by simp)]
 have e2:cs.drop (o*sz+k*sz)=(cs.drop ((o+k)*sz)).take ((l.length-(o+k))*sz):=by
  rw[a3l,a9V];rw[a3C,hc,Nat.sub_mul,a3l];omega
 unfold OB;rw[e1,e2];exact r
theorem Ej(hX:bP X P){ps:aS X.Γ}{ts:St}(hR:vw X P A m ps ts){at_:Array TypeId}{st e size b o n:Nat}{k0 ex:Bool}{l rows:List (X.Γ e)}{x:PV X.Γ}{td tx:TV}(wo:at_[0]? = some st)(Ac:jO P st=some (e,size))(hx:VR X P (AA A m) m ts.heap x tx)
  (hs:Az X ps.heap e size x=some (rows,[])) (hb:ps.heap[b]? = some (.list k0 ex e l)) {mb:MB} (g1:m[b]? = some mb) (g2:BR X P (AA A m) m ts.heap (.list k0 ex e l) mb)
  (htd:(∃c sz' xx' xx cap,mb=.dF (.slc c 0 l.length l.length sz' xx')∧l≠[]∧td=.slc c (o*sz') n cap sz' xx∧(n=0∨o+cap=l.length))∨(n=0∧(td=.nil .slc∨∃c f cap xx,td=.slc c f 0 cap size xx))) (hon:o+n<=l.length) (O7:isStr tx=false) :
  Xe X P A m ts (Gu P at_ ts td tx) (.int .i64 ((min rows.length n:Nat):Int)) (ps.heap.set b (.list k0 ex e (OB l o (min rows.length n) rows))) ⟨⟨false,.h b::D9 X x,[.h b]⟩,false,false,true⟩:=by
 have hr:=hR.heap;obtain⟨hz,h0⟩:=oC Ac;obtain⟨new,s1,s2,s3⟩:=UZ (m':=m) hX hr hx hz hs;have Um:eG X P (AA A m) m ts.heap e rows new 0 size:=s3.mono fun q hq=>by
  rcases hq with hq|⟨i,_,hi,_⟩
  .exact hq
  .simp at hi
 have kT:IR m ts.heap ⟨⟨false,.h b::D9 X x,[.h b]⟩,false,false,true⟩ (iy (dL tx)):=IR.reads rfl (fun d hd=>by
  obtain⟨h0,h9⟩:=vW hr hx hz hs hd;rcases h0 with⟨i,h1,h2⟩|h1
  .exact⟨.inl ⟨i,a2U _ h1,h2⟩,h9⟩
  .exact⟨.inr h1,h9⟩) fun j hj=>pG hj
 have same:ps.heap.set b (.list k0 ex e l)=ps.heap:=by
  apply a9Q;intro i;by_cases e:b=i
  .subst e;rw[a1u (a05.1 hb).1,hb]
  .rw[a0L e]
 by_cases hk:min rows.length n=0
 .rw[hk,a3n,same];refine⟨.int .i64 0,ts.heap,iy (dL tx),m,?_,hr,.int _ _,.refl,.refl,kT,fun c hc=>by simp[iy]at hc⟩;unfold Gu;simp only[wo,Ac,s1,s2,O7,ad7,a2k];rcases htd with⟨c,sz',xx',xx,cap,rfl,iI,rfl,wP⟩|⟨rfl,rfl|⟨c,f,cap,xx,rfl⟩⟩
  .have:sz'=size:=by cases g2 with|some _ q2 _ _ _ _ _ _ _=>rw[hz]at q2;cases q2;rfl|emp=>exact absurd rfl iI
   simp only[this,a2k,hk]
  .rfl
  .simp only[a2k,hk]
 .rcases htd with⟨c,sz',xx',xx,cap,rfl,iI,rfl,wP⟩|⟨rfl,_⟩
  .cases g2 with
   |emp=>exact absurd rfl iI
   |some p1 p2 p3 p4 p5 p6 p7 p8 p9=>
    rename_i kk cs;rw[hz]at p2;cases p2;obtain⟨BJ,yt,aey,hko⟩:=Jf p5;have aiu:o*size+cap*size=cs.length:=by
     have:=wP.resolve_left (by omega);rw[p8,<-this,a3l]
    have aQ:=(a05.1 p4).1;have vV:(MB.dF (TV.slc c 0 l.length l.length size xx')).own=some c:=by simp only[MB.own];rw[a0o (by simpa using p1)]
    have hkn:o+min rows.length n<=l.length:=(by omega);have hkr:min rows.length n<=rows.length:=Nat.min_le_left _ _;have m1:o*size+min rows.length n*size<=cs.length:=by rw[p8,<-a3l];exact a3r _ hkn
    have m2:min rows.length n*size<=new.length:=by rw[s2];exact a3r _ hkr
    have m3:min (min rows.length n*size) (rows.length*size)=min rows.length n*size:=a7E (by rw[<-s2];exact m2);have ao9:=eG.put p9 Um p8 s2 hkn hkr;have qE:(cs.take (o*size)++new.take (min rows.length n*size)++cs.drop (o*size+min rows.length n*size)).length=cs.length:=by simp;omega
    have hl:=Xf (rows:=rows) hkn hkr;obtain⟨q1,q2⟩:=hr.set (i:=b) (c:=c) (pb:=.list k0 ex e (OB l o (min rows.length n) rows)) (hb:=.cells BJ (cs.take (o*size)++new.take (min rows.length n*size)++cs.drop (o*size+min rows.length n*size))) g1 vV
     (fun Xc KC=>⟨_,by simp only[aV];rw[a1u aQ],by
      simp only[aV,p4,a04]at KC;subst KC;rw[qE];exact a0x _⟩)
     (fun hF=>by
      have ahz:OB l o (min rows.length n) rows≠[]:=fun e0=>by rw[e0]at hl;simp at hl;exact p1 (a7a.1 hl.symm)
      have r:=LR.some (k:=k0) (ex:=ex) (e:=xx') ahz hz p3 (by rw[a1u aQ]) aey (fun e0=>hko (p6 e0)) p7 (by rw[qE,hl,p8]) (ao9.step hF .refl);rw[hl]at r;exact r)
    refine⟨.int .i64 ((min rows.length n:Nat):Int),_,⟨false,.h c::dL tx,[.h c]⟩,m,?_,q1,.int _ _,q2,.refl,?_,fun d hd=>?_⟩
    .unfold Gu;simp only[wo,Ac,s1,s2,O7,ad7,a2k,hk,a3q,a1l p4 yt aiu,wH,a3I,m3,m1,a0B]
    .refine⟨fun h=>(by cases h),fun k hk=>?_,fun k hk=>(by simp at hk),fun d hd=>?_,fun d hd=>?_,fun h=>(by cases h)⟩
     .rcases a1J.1 hk with e0|e0
      .cases e0
      .exact absurd e0 pG
     .simp at hd;subst hd;exact .inl ⟨b,a2S,iY g1 vV⟩
     .rcases a1J.1 hd with e0|e0
      .cases e0;exact⟨.inl ⟨b,a2S,iY g1 vV⟩,aQ⟩
      .obtain⟨h0,h9⟩:=vW hr hx hz hs e0;rcases h0 with⟨i,h1,h2⟩|h1
       .exact⟨.inl ⟨i,a2U _ h1,h2⟩,h9⟩
       .exact⟨.inr h1,h9⟩
    .simp at hd;subst hd;exact bg g1 vV
  .simp at hk
theorem a6s(hr:HR X P A m H h){e sz:Nat}{x:PV X.Γ}{tx:TV}(hv:VR X P (AA A m) m h x tx){rows:List (X.Γ e)}{is:List Nat}(hs:Az X H e sz x=some (rows,is)):isStr tx=false:=by
 cases hv with
 |own e' _=>
  unfold Az at hs;simp only at hs;split at hs
  .rename_i hb;obtain⟨mb,g1,g2⟩:=hr.at_ _ _ hb;rw[e']at g1;cases g1;cases g2<;>rfl
  cases hs
 |gone hi e' _=>
  cases x<;>simp only[bn,a04]at hi<;>first|cases hi|skip
  all_goals (unfold Az at hs;simp only at hs)
  all_goals first|(cases hs;done)|skip
  all_goals
   split at hs
   .rename_i hb;obtain⟨mb,g1,g2⟩:=hr.at_ _ _ hb;rw[g1]at e';cases e'<;>exact g2.elim
   .cases hs
 |str=>simp[Az]at hs
 |_=>rfl
theorem eG.vrs{t sz:Nat}:∀{l:List (X.Γ t)} {cs:List TV},eG X P F m h t l cs 0 sz->cs.length=l.length*sz->bY X P F m h (EO X t l) cs
 | [],cs,_,hl=>by
  have:cs=[]:=a7a.1 (by simpa using hl);subst this;exact .nil
 |a::r,cs,hw,hl=>by
  have h1:=hw.row (j:=0) (a:=a) rfl;have h2:=(hw.part (o:=1) (n:=r.length) (by simp;omega)).take;have e1:((a::r).drop 1).take r.length=r:=by simp
  rw[e1]at h2;have hl':cs.length=r.length*sz+sz:=by rw[hl,a4v,a3l,ab6]
  have e2:(cs.drop (0+1*sz)).take (r.length*sz)=cs.drop sz:=by
   rw[a3H,ab6,a9V];rw[a3C];omega
  rw[e2]at h2;have h3:=eG.vrs h2 (by rw[a3C];omega);have h4:bY X P F m h (X.enc t a) (cs.take sz):=by
   have:=h1.1;simpa using this
  have:=h4.app h3;rw[List.take_append_drop]at this;exact this
theorem Un(hX:bP X P){ps:aS X.Γ}{ts:St}(hR:vw X P A m ps ts){at_:Array TypeId}{d x:PV X.Γ}{td tx:TV}(hd:VR X P (AA A m) m ts.heap d td)(hx:VR X P (AA A m) m ts.heap x tx){v:PV X.Γ}{H1:List (PB X.Γ)}{pi:mP}
  (hl:a5Y X P at_ ps.heap d x=some (v,H1,pi)):Xe X P A m ts (Gu P at_ ts td tx) v H1 ⟨pi,false,false,true⟩:=by
 have hr:=hR.heap;unfold a5Y at hl;split at hl
 .rename_i st wo;split at hl
  .rename_i e size Ac;obtain⟨hz,h0⟩:=oC Ac;split at hl
   .rename_i rows hs;obtain⟨new,s1,s2,s3⟩:=UZ (m':=m) hX hr hx hz hs;have O7:isStr tx=false:=a6s hr hx hs;split at hl
    .simp only[a04,a0w]at hl;obtain⟨rfl,rfl,rfl⟩:=hl;have:td=.nil .slc:=by
      cases hd with
      |nil=>rfl
      |gone hi _ _=>simp[bn]at hi
     subst this;exact⟨_,ts.heap,_,m,by unfold Gu;simp only[wo,Ac,s1,s2,O7,ad7,a2k],hr,.int _ _,.refl,.refl,IR.reads rfl (fun b hb=>vW hr hx hz hs hb) fun k=>pG,fun b hb=>by simp[iy]at hb⟩
    .rename_i b;split at hl
     .rename_i k0 ex t' l hb;split at hl
      .rename_i l2 OO;obtain⟨rfl,rfl⟩:=uO OO;simp only[a04,a0w]at hl;obtain⟨rfl,rfl,rfl⟩:=hl;obtain⟨mb,g1,g2⟩:=hr.at_ b _ hb;refine Ej (o:=0) (n:=l2.length) hX hR wo Ac hx hs hb g1 g2 ?_ (by omega) O7;cases hd with
       |gone hi e' _=>simp only[bn,a04]at hi;subst hi;rw[g1]at e';cases e'<;>exact g2.elim
       |own e' o=>
        rw[g1]at e';cases e';cases g2 with
        |nil=>exact .inr ⟨rfl,.inl rfl⟩
        |emp q1 q2 q3 q4 q5=>rw[hz]at q4;cases q4;exact .inr ⟨rfl,.inr ⟨_,_,_,_,rfl⟩⟩
        |some q1 q2=>rw[hz]at q2;cases q2;exact .inl ⟨_,_,_,_,_,rfl,q1,by rw[aco],.inr (a3H _)⟩
      .cases hl
     .cases hl
    .rename_i b o n;split at hl
     .rename_i k0 ex t' l hb;split at hl
      .rename_i l2 OO;obtain⟨rfl,rfl⟩:=uO OO;simp only[a04,a0w]at hl;obtain⟨rfl,rfl,rfl⟩:=hl;obtain⟨mb,g1,g2⟩:=hr.at_ b _ hb;cases hd with
       |gone hi e' _=>simp only[bn,a04]at hi;subst hi;rw[g1]at e';cases e'<;>exact g2.elim
       |win e' o1 o2 o3=>
        rw[g1]at e';cases e';cases g2 with
        |emp q1 q2 q3 q4 q5=>
         rw[hz]at q4;cases q4;have:n=0:=(by omega);subst this;exact Ej hX hR wo Ac hx hs hb g1 (LR.emp q1 q2 q3 hz q5) (.inr ⟨rfl,.inr ⟨_,_,_,_,rfl⟩⟩) o1 O7
        |some q1 q2 q3 q4 q5 q6 q7 q8 q9=>exact Ej hX hR wo Ac hx hs hb g1 (LR.some q1 q2 q3 q4 q5 q6 q7 q8 q9) (.inl ⟨_,_,_,_,_,rfl,q1,by rw[a3H],o3⟩) o1 O7
       |AL e'=>
        rw[g1]at e';cases e';exact Ej hX hR wo Ac hx hs hb g1 g2 (.inr ⟨rfl,.inl rfl⟩) (by omega) O7
      .cases hl
     .cases hl
    .rename_i b off len cap sz xx;split at hl
     .rename_i cs hb;split at hl
      .rename_i hc;obtain⟨hc1,KC⟩:=hc;subst hc1;simp only[a07,a0w]at hl;obtain⟨SI,h1,rfl,rfl,rfl⟩:=hl;obtain⟨mb,g1,g2⟩:=hr.at_ b _ hb;cases mb with
       |gu c=>
        obtain⟨cs',g3,g4⟩:=g2;cases hd with
        |gone hi e _=>simp only[bn,a04]at hi;subst hi;rw[g1]at e;cases e
        |slc e=>
         rw[g1]at e;cases e;have Um:eG X P (AA A m) m ts.heap _ rows new 0 sz:=s3.mono fun q hq=>by
          rcases hq with hq|⟨i,_,hi,_⟩
          .exact hq
          .simp at hi
         have hv:=(Um.vrs s2).take (min rows.length len*sz);obtain⟨Jh,g5,g6⟩:=Hq g4 hv h1;have hlen:Jh.length=cs'.length:=by
          unfold wH at g5;split at g5
          .cases g5;simp only[a1t,a3I,a3C]at *;omega
          .cases g5
         have aQ:=(a05.1 g3).1;obtain⟨hr1,hF⟩:=hr.set (pb:=.cells SI) (hb:=.cells .own Jh) g1 (c:=c) rfl (fun Xc Xd=>⟨Jh,by simp[aV,aQ],by
          simp only[aV,g3,a04]at Xd;subst Xd;omega⟩) fun hF=>⟨Jh,by simp[aQ],g6.step hF .refl⟩
         refine⟨.int .i64 ((min rows.length len:Nat):Int),_,⟨false,.h c::dL tx,[.h c]⟩,m,?_,hr1,.int _ _,hF,.refl,?_,fun d hd=>?_⟩
         .unfold Gu;simp only[wo,Ac,s1,s2,O7,ad7,a2k];rw[a0o (by omega),X8 g3,g5];rfl
         .refine⟨fun h=>(by cases h),fun k hk=>?_,fun k hk=>(by simp at hk),fun d hd=>?_,fun d hd=>?_,fun h=>(by cases h)⟩
          .rcases a1J.1 hk with e0|e0
           .cases e0
           .exact absurd e0 pG
          .simp at hd;subst hd;exact .inl ⟨b,a2S,iY g1 rfl⟩
          .rcases a1J.1 hd with e0|e0
           .cases e0;exact⟨.inl ⟨b,a2S,iY g1 rfl⟩,aQ⟩
           .obtain⟨h0,h9⟩:=vW hr hx hz hs e0;rcases h0 with⟨i,h1,h2⟩|h1
            .exact⟨.inl ⟨i,a2U _ h1,h2⟩,h9⟩
            .exact⟨.inr h1,h9⟩
         .simp at hd;subst hd;exact bg g1 rfl
       |_=>exact g2.elim
      .cases hl
     .cases hl
    .cases hl
   .cases hl
  .cases hl
 .cases hl
end
open Go Tw
section
variable {X:l7} {P:Program} {A F:Nat->Prop} {m m':List MB} {h h':List HB} {H H':List (PB X.Γ)}
theorem VPs.nO{ps:List (Nat×PV X.Γ)}{qs:List (Nat×TV)}(hp:VPs X P A m h ps qs):qs.all (fun p=>p.2.cells.all jd)=ps.all fun p=>p.2.cells.all Zv:=by
 induction ps generalizing qs with
 |nil=>
  have:=hp.1;cases qs with
  |nil=>rfl
  |cons=>simp at this
 |cons a ps ih=>
  obtain⟨x,r,rfl,h1,h2⟩:=hp.inv;simp only[ac1,Eh (Ho h1),ih h2]
theorem Xg{pl:Nat->Option (Nat×Nat)}:∀{qs:List (Nat×TV)} {xs r:List TV},sN pl xs qs=some r->r.length=xs.length
 | [],xs,r,h=>by simp only[sN,a04]at h;rw[h]
 |(i,v)::qs,xs,r,h=>by
  simp only[sN]at h;split at h
  .split at h
   .split at h
    .rename_i cs' ho;rw[Xg h];unfold wH at ho;split at ho
     .cases ho;simp only[a1t,a3I,a3C];omega
     cases ho
    cases h
   cases h
  cases h
theorem oP{z:List TV}:∀n,(times z n).length=n*z.length
 | 0=>by simp[times]
 |n+1=>by simp[times,oP n,a3l];omega
theorem uz(hX:bP X P){ps:aS X.Γ}{ts:St}(hR:vw X P A m ps ts){t:TypeId}{len:Nat}{vs:List (Nat×PV X.Γ)}{xs:List (Nat×TV)}(hv:VPs X P (AA A m) m ts.heap vs xs){v:PV X.Γ}{H1:List (PB X.Γ)}
  {raw:Bool} (hl:yC X P t len ps.heap vs raw=some (v,H1)):Xe X P A m ts ((qL P t len ts xs).map fun(v,s)=>(v,s,cZ)) v H1 xX:=by
 have hr:=hR.heap;unfold yC at hl;split at hl
 .rename_i e n Ac;obtain⟨hz,h0⟩:=oC Ac;split at hl
  .rename_i hc;split at hl
   .rename_i z hzz;obtain⟨z',q1,q2⟩:=Ht (A:=AA A m) (m:=m) (h:=ts.heap) hzz;split at hl
    .rename_i YI;split at hl
     .rename_i cs hf;obtain⟨cs',q3,q4⟩:=MQ hv (X9 q2 len) hf;have hlen:cs'.length=len*n:=(by rw[Xg q3,oP,<-q2.1,YI]);have hT:∀w h1,(w,h1)=(TV.slc ts.heap.length 0 len len n true,ts.heap++[HB.cells .own cs'])->(qL P t len ts xs).map (fun(v,s)=>(v,s,cZ))=some (w,{ ts with heap:=h1 },cZ):=by
       intro w h1 e0;cases e0;simp only[qL,Ac,hv.nO,hc,ad7,a2k,q1,<-q2.1,YI,q3,a0B]
      split at hl
      .rename_i rows is hd;cases hl;have hd:yB X ps.heap e n len cs=some (rows,is):=by
        split at hd
        .cases hd
        .exact hd
       obtain⟨e1,hw⟩:=AU (m':=bW is m) hX hr q4 hd;by_cases hn:rows=[]
       .subst hn;have e2:len=0:=(by simpa using e1.symm);subst e2;have RI:cs'=[]:=a7a.1 (by omega);subst RI;have Hz:HR X P A (bW is m++[.dF (.slc ts.heap.length 0 0 0 n true)]) (aZ is ps.heap++[.list true true e []]) (ts.heap++[.cells .own []])∧_:=(hr.aZ is).push (pb:=.list true true e []) (hb:=.cells .own []) (mb:=.dF (.slc ts.heap.length 0 0 0 n true)) (.inr rfl)
         (LR.emp (b:=ts.heap.length) (cs:=[]) ⟨hr.up _ (a0x _),fun hm=>by
          rw[jk,a2L,kJ]at hm;simp[MB.own]at hm;have:=(hr.aZ is).inb hm;omega⟩ (by simp[aV]) (a0x _) hz h0)
        have QL:=iE (h:=ts.heap) is m;refine⟨_,_,_,_,hT _ _ rfl,Hz.1,.own ?_ rfl,QL.1.trans Hz.2.1,QL.2.trans Hz.2.2,.none,fun b hb=>by cases hb⟩;rw[<-hr.len,<-ng is m];simp
       .have Hz:=qN hr is (k:=true) (ex:=true) (x:=true) hw (by rw[hlen,e1]) hn hz h0 (by simp);obtain⟨m1,g1,g2,g3,g4⟩:=Hz;refine⟨_,_,_,m1,hT _ _ rfl,g1,?_,g2,g3,.none,fun b hb=>by cases hb⟩;rw[e1]at g4;exact g4
      .cases hl;have hp:=hr.push (pb:=.cells cs) (hb:=.cells .own cs') (mb:=.gu ts.heap.length) (.inl rfl) ⟨cs',by simp,q4.step (by
        refine⟨by simp,fun b hb _=>by rw[a0g hb],fun b hb=>?_,fun b cs hc=>⟨cs,by rw[fO (a0g (gX hc)),hc],a0x _⟩⟩;rw[jk,a2L,kJ]at hb;rcases hb with hb|hb
        .exact .inl hb
        .simp[MB.own]at hb;exact .inr (by omega)) (wZ _)⟩
       exact⟨_,_,_,_,hT _ _ rfl,hp.1,.slc (by rw[<-hr.len];simp),hp.2.1,hp.2.2,.none,fun b hb=>by cases hb⟩
     .cases hl
    .cases hl
   .cases hl
  .cases hl
 .cases hl
theorem OQ{k:IntKind}{n:Int}{x:TV}(hv:VR X P A m h (.int k n) x):x=.int k n:=by
 cases hv with
 |int=>rfl
 |gone hi _ _=>simp[bn]at hi
theorem Xh{t sz:Nat}{a:X.Γ t}{z:List TV}(ha:bY X P F m h (X.enc t a) z)(hz:z.length=sz):∀n,eG X P F m h t (List.replicate n a) (times z n) 0 sz
 | 0=>⟨fun j a hj=>by simp at hj,by simp,fun j a i c v hj=>by simp at hj⟩
 |n+1=>by
  have h1:eG X P F m h t [a] z 0 sz:=by
   refine⟨fun j b hj=>?_,by simp[hz],fun j b i c v hj hi hx=>?_⟩
   .cases j with
    |zero=>simp only[a2F,a04]at hj;subst hj;rw[ha.1,hz]
    |succ j=>simp at hj
   cases j with
   |zero=>simp only[a2F,a04]at hj;subst hj;exact ha.2 i c v hi (by simpa using hx)
   |succ j=>simp at hj
  have:=h1.app (Xh ha hz n) (by simp[hz]);simpa[ae6,times]using this
theorem Ak(hX:bP X P){ps:aS X.Γ}{ts:St}(hR:vw X P A m ps ts){t:TypeId}{l c:PV X.Γ}{tl tc:TV}(hvl:VR X P (AA A m) m ts.heap l tl)(hvc:VR X P (AA A m) m ts.heap c tc){v:PV X.Γ}{H1:List (PB X.Γ)}{qs:List Prop}
  (hl:FX X P t ps.heap l c=some (v,H1,qs)) (hq:∀q∈qs,q):Xe X P A m ts ((sU P t ts tl tc).map fun(v,s)=>(v,s,cZ)) v H1 xX:=by
 have hr:=hR.heap;unfold FX at hl;split at hl
 .rename_i e n kl li kc ci Ac;obtain⟨hz,h0⟩:=oC Ac;rw[OQ hvl,OQ hvc];split at hl
  .rename_i Lu;split at hl
   .rename_i z hzz;obtain⟨z',q1,q2⟩:=Ht (A:=AA A m) (m:=m) (h:=ts.heap) hzz;split at hl
    .rename_i YI;split at hl
     .rename_i a ha;cases hl;have e1:li=ci:=hq _ (by simp);have e2:0<=li:=hq _ (by simp);have e3:li<=(ah:Nat):=hq _ (by simp);subst e1;have hm:li.toNat<=ah:=(by omega);have hm2:ah=2^20:=rfl;have hz2:z'.length=n:=by rw[<-q2.1];exact YI
      have hT:∀w h1,(w,h1)=(TV.slc ts.heap.length 0 li.toNat li.toNat n true,ts.heap++[HB.cells .own (times z' li.toNat)])->(sU P t ts (.int kl li) (.int kc li)).map (fun(v,s)=>(v,s,cZ))=some (w,{ ts with heap:=h1 },cZ):=by
       intro w h1 e0;cases e0;have hN:∀k,a2A (.int k li)=some li.toNat:=fun k=>by
        have h9:li<=2^40:=by
         have:((2^20:Nat):Int)<=2^40:=(by decide);rw[hm2]at e3;omega
        simp only[a2A];rw[a0u ⟨e2,h9⟩]
       simp only[sU,Ac,hN,a0x,true_and,oz Lu hm,a2k,q1,hz2,a0B]
      have yS:=Xh (m:=m) (h:=ts.heap) (F:=AA A m) (hX.dec ha q2) hz2 li.toNat;have hlen:(times z' li.toNat).length=li.toNat*n:=(by rw[oP,hz2]);by_cases hn:li.toNat=0
      .rw[hn]at hT ⊢;simp only[List.replicate_zero];have Hz:=hr.push (pb:=.list true true e []) (hb:=.cells .own (times z' 0)) (mb:=.dF (.slc ts.heap.length 0 0 0 n true)) (.inr rfl)
         (LR.emp (b:=ts.heap.length) (cs:=times z' 0) ⟨hr.up _ (a0x _),fun hm=>by
          rw[jk,a2L,kJ]at hm;simp[MB.own]at hm;have:=hr.inb hm;omega⟩ (by simp[aV]) (a4Y _) hz h0)
       exact⟨_,_,_,_,hT _ _ rfl,Hz.1,.own (by rw[<-hr.len];simp) rfl,Hz.2.1,Hz.2.2,.none,fun b hb=>by cases hb⟩
      .obtain⟨m1,g1,g2,g3,g4⟩:=qN hr [] (k:=true) (ex:=true) (x:=true) (rows:=List.replicate li.toNat a) (yS.mono fun b hb=>.inl hb) (by rw[a7Y];exact hlen) (by intro e0;exact hn (by simpa using congrArg List.length e0)) hz h0 (by simp);refine⟨_,_,_,m1,hT _ _ rfl,g1,?_,g2,g3,.none,fun b hb=>by cases hb⟩;rw[a7Y]at g4;exact g4
     .cases hl
    .cases hl
   .cases hl
  .cases hl
 .cases hl
end
open Go Tw
section
variable {X:l7} {P:Program} {A F:Nat->Prop} {m m':List MB} {h h':List HB} {H H':List (PB X.Γ)}
theorem AX{o:Option (PV X.Γ)}{to:Option TV}(ho:OR X P A m h o to){d n:Nat}{a:Int}(he:zD X d o=some a)(h0:0<=a)(h1:a<=n):jF n d to=some a.toNat:=by
 cases o with
 |none=>
  cases to with
  |none=>simp only[zD,a04]at he;subst he;simp[jF]
  |some=>exact ho.elim
 |some v=>
  cases to with
  |none=>exact ho.elim
  |some x=>
   cases v<;>simp only[zD]at he<;>try (cases he;done)
   cases he;rw[OQ ho];simp only[jF,qX];rw[a0u ⟨h0,h1⟩]
theorem OU{k:IntKind}{n:Int}{to:Option TV}(ho:OR X P A m h (some (.int k n)) to):to=some (.int k n):=by
 cases to with
 |none=>exact ho.elim
 |some x=>rw[OQ ho]
theorem rP{to:Option TV}(ho:OR X P A m h none to):to=none:=by
 cases to with
 |none=>rfl
 |some x=>exact ho.elim
theorem MV{v:PV X.Γ}{to:Option TV}(ho:OR X P A m h (some v) to):∃x,to=some x:=by
 cases to with
 |none=>exact ho.elim
 |some x=>exact⟨x,rfl⟩
theorem aeB{t e:TypeId}{b off len cap sz:Nat}{ex:Bool}(hu:P.underlying t=some (.slice e))(hz:dG P e=some sz){lo hi:Option (PV X.Γ)}{QM QN:Option TV}(h1:OR X P A m h lo QM)(h2:OR X P A m h hi QN){a z:Int}(e1:zD X 0 lo=some a)(e2:zD X len hi=some z)
  (q0:0<=a) (q1:a<=z) (q2:z<=len):qY P t (.slc b off len cap sz ex) QM QN none=some (.slc b (off+a.toNat*sz) (z.toNat-a.toNat) (cap-a.toNat) sz ex):=by
 have g1:=AX h1 e1 (n:=z.toNat) q0 (by omega);have g2:=AX h2 e2 (n:=len) (by omega) q2;simp only[qY,hu,hz,a2k,g2,g1]
theorem a9Z{t e:TypeId}{b off len cap sz:Nat}{ex:Bool}(hu:P.underlying t=some (.slice e))(hz:dG P e=some sz){lo hi:Option (PV X.Γ)}{QM QN:Option TV}(h1:OR X P A m h lo QM)(h2:OR X P A m h hi QN){a z:Int}(e1:zD X 0 lo=some a)(e2:zD X len hi=some z)(hs:hi.isSome)
  (q0:0<=a) (q1:a<=z) (q2:z<=len) (wP:len<=cap) {k:IntKind}:qY P t (.slc b off len cap sz ex) QM QN (some (.int k z))=some (.slc b (off+a.toNat*sz) (z.toNat-a.toNat) (z.toNat-a.toNat) sz true):=by
 have g1:=AX h1 e1 (n:=z.toNat) q0 (by omega);obtain⟨hv,rfl⟩:=a5g.1 hs;obtain⟨x,rfl⟩:=MV h2;have g3:qX cap (.int k z)=some z.toNat:=by simp only[qX];rw[a0u (by omega)]
 have g2:qX (min z.toNat len) x=some z.toNat:=by
  cases hv<;>simp only[zD]at e2<;>try (cases e2;done)
  cases e2;rw[OQ (show VR X P A m h _ x from h2)];simp only[qX];rw[a0u (by omega)]
 simp only[qY,hu,hz,a2k,g3,g2,g1]
theorem ZK{t e:TypeId}{sz:Nat}(hu:P.underlying t=some (.slice e))(hz:dG P e=some sz){lo hi:Option (PV X.Γ)}{QM QN:Option TV}(h1:OR X P A m h lo QM)(h2:OR X P A m h hi QN){a z:Int}(e1:zD X 0 lo=some a)(e2:zD X 0 hi=some z)(q0:a=0)(q1:z=0) :
  qY P t (.nil .slc) QM QN none=some (.nil .slc)∧∀{k:IntKind},hi.isSome->qY P t (.nil .slc) QM QN (some (.int k 0))=some (.nil .slc):=by
 subst q0;subst q1;have g1:=AX h1 e1 (n:=0) (by omega) (by omega);have g2:=AX h2 e2 (n:=0) (by omega) (by omega);have g0:jF 0 0 none=some 0:=rfl;refine⟨by simp only[qY,hu,hz,g0,g1,g2];rfl,fun{k} hs=>?_⟩;obtain⟨hv,rfl⟩:=a5g.1 hs;obtain⟨x,rfl⟩:=MV h2;have g3:jF 0 0 (some (.int k 0))=some 0:=rfl;simp only[qY,hu,hz,g1,g2,g3] ;rfl
theorem O4{ps:aS X.Γ}{ts:St}(hR:vw X P A m ps ts){t:TypeId}{x:PV X.Γ}{tx:TV}(hx:VR X P (AA A m) m ts.heap x tx){lo hi mx:Option (PV X.Γ)}{QM QN tmx:Option TV}(h1:OR X P (AA A m) m ts.heap lo QM)(h2:OR X P (AA A m) m ts.heap hi QN)(h3:OR X P (AA A m) m ts.heap mx tmx){v:PV X.Γ}{qs:List Prop}
  (hl:Zz X P t ps.heap x lo hi mx=some (v,qs)) (hq:∀q∈qs,q):∃w,qY P t tx QM QN tmx=some w∧VR X P (AA A m) m ts.heap v w:=by
 have hr:=hR.heap;unfold Zz at hl;split at hl
 .rename_i e t' l fu hu;split at hl
  .rename_i n a z hz e1 e2;split at hl
   .rename_i ht;subst ht;cases hl;have q0:0<=a:=hq _ (by simp);have q1:a<=z:=hq _ (by simp);have q2:z<=(l.length:Nat):=hq _ (by simp);rw[rP h3,ah9];cases hx with
    |pz=>
     have ea:a=0:=by simp at q2;omega
     have ez:z=0:=by simp at q2;omega
     exact⟨_,(ZK hu hz h1 h2 e1 e2 ea ez).1,by simp only[List.drop_nil,List.take_nil];exact .pz⟩
    |dF p1 p2 p2' p3 p4 p5 p6 p7 p8 p9=>
     rw[hz]at p3;cases p3;exact⟨_,aeB hu hz h1 h2 e1 e2 q0 q1 q2,(VR.dF p1 p2 p2' hz p4 p5 p6 p7 p8 p9).part (by omega) (by omega) (.inr (by omega)) (by simp)⟩
    |gone hi _ _=>simp[bn]at hi
   .cases hl
  .rename_i n a z k mv hz e1 e2;split at hl
   .rename_i ht;obtain⟨ht,BL⟩:=ht;subst ht;split at hl
    .rename_i hfu;subst hfu;cases hl;have q0:a=0:=hq _ (by simp);have q2:z=(l.length:Nat):=hq _ (by simp);have q3:mv=z:=hq _ (by simp);subst q3;subst q0;rw[OU h3];cases hx with
     |pz=>
      have ez:mv=0:=(by simpa using q2);have:=(ZK hu hz h1 h2 e1 e2 rfl ez).2 (k:=k) BL;exact⟨_,by rw[<-ez]at this;exact this,.pz⟩
     |dF p1 p2 p2' p3 p4 p5 p6 p7 p8 p9=>
      rw[hz]at p3;cases p3;obtain⟨p7a,p7b⟩:=p7 rfl;subst p7a;subst p7b;refine⟨_,a9Z hu hz h1 h2 e1 e2 BL (a9s 0) (by omega) (by omega) p6,?_⟩;subst q2;have:=VR.dF (fu:=true) p1 p2 p2' hz p4 p5 (a0x _) (fun _=>⟨rfl,rfl⟩) p8 p9;simpa using this
     |gone hi _ _=>simp[bn]at hi
    cases hl;have q0:0<=a:=hq _ (by simp);have q1:a<=z:=hq _ (by simp);have q2:z<=(l.length:Nat):=hq _ (by simp);have q3:mv=z:=hq _ (by simp);have q4:a=z:=hq _ (by simp);subst q3;rw[OU h3,ah9];cases hx with
    |pz=>
     have ea:a=0:=by simp at q2;omega
     have ez:mv=0:=by simp at q2;omega
     have:=(ZK hu hz h1 h2 e1 e2 ea ez).2 (k:=k) BL;rw[<-ez]at this;exact⟨_,this,by simp only[List.drop_nil,List.take_nil];exact .pz⟩
    |dF p1 p2 p2' p3 p4 p5 p6 p7 p8 p9=>
     rw[hz]at p3;cases p3;exact⟨_,a9Z hu hz h1 h2 e1 e2 BL q0 q1 q2 p6,(VR.dF p1 p2 p2' hz p4 p5 p6 p7 p8 p9).part (by omega) (by omega) (.inl (by omega)) (by simp)⟩
    |gone hi _ _=>simp[bn]at hi
   .cases hl
  .cases hl
 .rename_i e i hu;split at hl
  .rename_i kk ex t' l hb;obtain⟨mb,g1,g2⟩:=hr.at_ i _ hb;cases mb with
   |dF y=>
    cases hx with
    |gone hi e' _=>simp only[bn,a04]at hi;subst hi;rw[g1]at e';cases e'
    |own e' o=>
     rw[g1]at e';cases e';have hlr:LR X P (AA A m) m ts.heap kk ex t' l tx:=g2;split at hl
     .rename_i n a z hz e1 e2;split at hl
      .rename_i ht;subst ht;cases hl;have q0:0<=a:=hq _ (by simp);have q1:a<=z:=hq _ (by simp);have q2:z<=(l.length:Nat):=hq _ (by simp);rw[rP h3];cases hlr with
       |nil=>
        have ea:a=0:=by simp at q2;omega
        have ez:z=0:=by simp at q2;omega
        refine⟨_,(ZK hu hz h1 h2 e1 e2 ea ez).1,?_⟩;subst ea;subst ez;exact .AL g1
       |emp p0 p1 p2 p3 p4=>
        rw[hz]at p3;cases p3;exact⟨_,aeB (len:=0) hu hz h1 h2 e1 e2 q0 q1 q2,.win g1 (by simp at q2;omega) (by simp at q2;omega) (.inl (by simp at q2;omega))⟩
       |some p1 p2 p3 p4 p5 p6 p7 p8 p9=>
        rw[hz]at p2;cases p2;exact⟨_,aeB hu hz h1 h2 e1 e2 q0 q1 q2,.win g1 (by omega) (by omega) (.inr (by omega))⟩
      .cases hl
     .rename_i n a z k mv hz e1 e2;split at hl
      .rename_i ht;obtain⟨ht,BL⟩:=ht;subst ht;cases hl;have q0:0<=a:=hq _ (by simp);have q1:a<=z:=hq _ (by simp);have q2:z<=(l.length:Nat):=hq _ (by simp);have q3:mv=z:=hq _ (by simp);have q4:a=z:=hq _ (by simp);subst q3;rw[OU h3];cases hlr with
       |nil=>
        have ea:a=0:=by simp at q2;omega
        have ez:mv=0:=by simp at q2;omega
        have:=(ZK hu hz h1 h2 e1 e2 ea ez).2 (k:=k) BL;rw[<-ez]at this;refine⟨_,this,?_⟩;subst ea;subst ez;exact .AL g1
       |emp p0 p1 p2 p3 p4=>
        rw[hz]at p3;cases p3;exact⟨_,a9Z (len:=0) hu hz h1 h2 e1 e2 BL q0 q1 q2 (a0x _),.win g1 (by simp at q2;omega) (by omega) (.inl (by omega))⟩
       |some p1 p2 p3 p4 p5 p6 p7 p8 p9=>
        rw[hz]at p2;cases p2;exact⟨_,a9Z hu hz h1 h2 e1 e2 BL q0 q1 q2 (a0x _),.win g1 (by omega) (by omega) (.inl (by omega))⟩
      .cases hl
     .cases hl
   |_=>exact g2.elim
  .cases hl
 .rename_i e hu;have:tx=.nil .slc:=by
   cases hx with
   |nil=>rfl
   |gone hi _ _=>simp[bn]at hi
  subst this;split at hl
  .rename_i n a z hz e1 e2;cases hl;have q0:a=0:=hq _ (by simp);have q1:z=0:=hq _ (by simp);rw[rP h3];exact⟨_,(ZK hu hz h1 h2 e1 e2 q0 q1).1,.nil _⟩
  .rename_i n a z k mv hz e1 e2;split at hl
   .rename_i BL;cases hl;have q0:a=0:=hq _ (by simp);have q1:z=0:=hq _ (by simp);have q2:mv=0:=hq _ (by simp);subst q2;rw[OU h3];exact⟨_,(ZK hu hz h1 h2 e1 e2 q0 q1).2 BL,.nil _⟩
   .cases hl
  .cases hl
 .cases hl
theorem CW(hX:bP X P){ps:aS X.Γ}{ts:St}(hR:vw X P A m ps ts){t:TypeId}{x:PE X.Γ}{ex:EV}(hx:IQ X P (AA A m) m ts.heap x ex){lo hi mx:Option (PV X.Γ)}{QM QN tmx:Option TV}(h1:OR X P (AA A m) m ts.heap lo QM)(h2:OR X P (AA A m) m ts.heap hi QN)(h3:OR X P (AA A m) m ts.heap mx tmx){v:PV X.Γ}{H1:List (PB X.Γ)}{qs:List Prop}
  (hl:Ja X P t ps.heap x lo hi mx=some (v,H1,qs)) (hq:∀q∈qs,q):Xe X P A m ts ((qK P t ex QM QN tmx).map fun v=>(v,ts,cZ)) v H1 xX:=by
 have hr:=hR.heap;unfold Ja at hl;split at hl
 .rename_i n e b off lim hu;split at hl
  .rename_i size hz;split at hl
   .cases hl
   .rename_i Ls;split at hl
    .cases hl
    .rw[rP h3];obtain⟨y,rfl,hy⟩:=fU hx;split at hl
     .split at hl
      .rename_i cs hb;cases hl;rw[rP h1,rP h2];obtain⟨mb,g1,g2⟩:=hr.at_ b _ hb;cases mb with
       |gu c=>
        cases hy with
        |gone hi e' _=>simp only[bn,a04]at hi;subst hi;rw[g1]at e';cases e'
        |ptr e'=>
         rw[g1]at e';cases e';exact⟨.slc c off n n size true,ts.heap,cZ,m,by simp[qK,hu,hz,Ls,jF],hr,.slc g1,.refl,.refl,.none,fun d hd=>by cases hd⟩
       |_=>exact g2.elim
      .cases hl
     .rename_i YZ xQ _;split at hl
      .rename_i cs a z hb e1 e2;split at hl
       .cases hl
       rename_i aew;split at hl
       .rename_i rows is hd;cases hl;have q0:0<=a:=hq _ (by simp);have q1:a<=z:=hq _ (by simp);have q2:z<=(n:Nat):=hq _ (by simp);obtain⟨mb,g1,g2⟩:=hr.at_ b _ hb;cases mb with
        |gu c=>
         obtain⟨cs',g3,g4⟩:=g2;cases hy with
         |gone hi e' _=>simp only[bn,a04]at hi;subst hi;rw[g1]at e';cases e'
         |ptr e'=>
          rw[g1]at e';cases e';have f1:=AX h1 e1 (n:=z.toNat) q0 (by omega);have f2:=AX h2 e2 (n:=n) (by omega) q2;obtain⟨w1,w2⟩:=AU (m':=bW (b::is) m) hX hr (g4.drop off) hd;have w3:=w2.2.1;rw[a3C]at w3;have hgo:=hr.aZ (b::is);have QL:=iE (h:=ts.heap) (b::is) m;have hnc:AA A (bW (b::is) m) c:=by
           refine FA.gone hr (.inr ⟨b,_,a2S,g1,rfl⟩)
          refine⟨.slc c (off+a.toNat*size) (z.toNat-a.toNat) (n-a.toNat) size true,ts.heap,cZ,bW (b::is) m,?_,hgo,?_,QL.1,QL.2,.none,fun d hd=>by cases hd⟩
          .have f0:jF n n none=some n:=rfl;simp only[qK,hu,hz,Ls,a3q,f0,f2,f1,Option.isSome_none,Bool.false_and,a2u,a0B]
          .rw[ah9];have aiv:VR X P (AA A (bW (b::is) m)) (bW (b::is) m) ts.heap (.dF e rows false) (.slc c off rows.length n size true):=by
            refine .dF hnc (by unfold aV;rw[g3]) (fun _=>wY g3 (by simp)) hz (by omega) ?_ (by omega) (by simp) w2.1 (fun j y i d v hj hi hx=>?_)
            .rw[w1,<-g4.1];omega
            .refine(w2.2.2 j y i d v hj hi ?_).mono fun q hq=>FA.gone hr (FA.mono (fun i hi=>a2U _ hi) hq);rw[a4F,<-hx];congr 1;omega
           exact aiv.part (by omega) (by omega) (.inr (by omega)) (by simp)
        |_=>exact g2.elim
       .cases hl
      .cases hl
  .cases hl
 .cases hl
theorem V3{ps:aS X.Γ}{ts:St}(hR:vw X P A m ps ts){t:TypeId}{x:PE X.Γ}{ex:EV}(hx:IQ X P (AA A m) m ts.heap x ex){lo hi:Option (PV X.Γ)}{QM QN tmx:Option TV}(h1:OR X P (AA A m) m ts.heap lo QM)(h2:OR X P (AA A m) m ts.heap hi QN)(h3:OR X P (AA A m) m ts.heap none tmx){v:PV X.Γ}
  (hl:FY X P t ps.heap x lo hi=some v):Xe X P A m ts ((qK P t ex QM QN tmx).map fun v=>(v,ts,cZ)) v ps.heap xX:=by
 have hr:=hR.heap;unfold FY at hl;split at hl
 .rename_i n e b off lim hu;split at hl
  .rename_i size cs a z hz hb e1 e2;split at hl
   .cases hl
   .rename_i Ls;split at hl
    .rename_i hq;cases hl;rw[rP h3];obtain⟨y,rfl,hy⟩:=fU hx;obtain⟨mb,g1,g2⟩:=hr.at_ b _ hb;cases mb with
     |gu c=>
      cases hy with
      |gone hi e' _=>simp only[bn,a04]at hi;subst hi;rw[g1]at e';cases e'
      |ptr e'=>
       rw[g1]at e';cases e';have f1:=AX h1 e1 (n:=z.toNat) hq.1 (by omega);have f2:=AX h2 e2 (n:=n) (by omega) hq.2.2;refine⟨.slc c (off+a.toNat*size) (z.toNat-a.toNat) (n-a.toNat) size true,ts.heap,cZ,m,?_,hr,.slc g1,.refl,.refl,.none,fun d hd=>by cases hd⟩;have f0:jF n n none=some n:=rfl;simp only[qK,hu,hz,Ls,a3q,f0,f2,f1,Option.isSome_none,Bool.false_and,a2u,a0B]
     |_=>exact g2.elim
    .cases hl
  .cases hl
 .cases hl
end
open Go Tw
section
variable {X:l7} {P:Program} {A B F:Nat->Prop} {m m':List MB} {h h':List HB} {H H':List (PB X.Γ)}
theorem wu:∀{vs:List (PV X.Γ)} {i:Nat} {v:PV X.Γ},xU.H8 vs=false->vs[i]? = some v->xU v=false
 | [],_,_,_,h=>by simp at h
 |a::vs,i,v,hc,h=>by
  simp only[xU.H8,a9x]at hc;cases i with
  |zero=>simp only[a2F,a04]at h;subst h;exact hc.1
  |succ i=>exact wu hc.2 (by simpa using h)
theorem tJ{k:Nat}:∀{vs:List (PV X.Γ)} {i:Nat} {v:PV X.Γ},(shift.shifts k vs)[i]? = some v->∃u,vs[i]? = some u∧v=shift k u
 | [],_,_,h=>by simp[shift.shifts]at h
 |a::vs,i,v,h=>by
  cases i with
  |zero=>simp only[shift.shifts,a2F,a04]at h;exact⟨a,rfl,h.symm⟩
  |succ i=>obtain⟨u,h1,h2⟩:=tJ (vs:=vs) (i:=i) (by simpa[shift.shifts]using h);exact⟨u,by simpa using h1,h2⟩
theorem tK{k:Nat}:∀{vs:List (PV X.Γ)},(shift.shifts k vs).length=vs.length
 | []=>rfl
 |a::vs=>by simp[shift.shifts,tK (vs:=vs)]
theorem ZL{k i:Nat}{v:PV X.Γ}(h:bn v=some i):bn (shift k v)=some (i+k):=by
 cases v<;>simp[bn]at h<;>subst h<;>rfl
theorem VR.shift(hX:bP X P){m0:List MB}{v:PV X.Γ}{x:TV}(hv:VR X P A m h v x)(hq:(∀b,A b->B b)∨xU v=false):VR X P B (m0++m) h (Pv.shift m0.length v) x:=by
 have at':∀{i:Nat} {mb:MB},m[i]? = some mb->(m0++m)[i+m0.length]? = some mb:=by
  intro i mb hi;rw[a0G (by omega)];simpa using hi
 induction hv with
 |bool=>exact .bool _
 |lit=>exact .lit _
 |int=>exact .int _ _
 |str=>exact .str _
 |nil=>exact .nil _
 |ptr e=>exact .ptr (at' e)
 |slc e=>exact .slc (at' e)
 |own e o=>exact .own (at' e) o
 |win e q q' q2=>exact .win (at' e) q q' q2
 |AL e=>exact .AL (at' e)
 |map e=>exact .map (at' e)
 |iter e=>exact .iter (at' e)
 |fn h1 _ h3 _ i2 i4=>
  refine .fn (by rw[tK,h1]) (fun i x y hx hy=>?_) (by rw[tK,h3]) (fun i x y hx hy=>?_)
  .obtain⟨u,g1,rfl⟩:=tJ hx;exact i2 i u y g1 hy (hq.imp_right fun hq=>by simp only[xU,a9x]at hq;exact wu hq.1 g1)
  obtain⟨u,g1,rfl⟩:=tJ hx;exact i4 i u y g1 hy (hq.imp_right fun hq=>by simp only[xU,a9x]at hq;exact wu hq.2 g1)
 |kZ e=>exact .kZ (at' e)
 |agg h1 _ i2=>
  refine .agg (by rw[tK,h1]) (fun i x y hx hy=>?_);obtain⟨u,g1,rfl⟩:=tJ hx;exact i2 i u y g1 hy (hq.imp_right fun hq=>by simp only[xU]at hq;exact wu hq g1)
 |dM h1 _ i2=>
  refine .dM (by rw[tK,h1]) (fun i x y hx hy=>?_);obtain⟨u,g1,rfl⟩:=tJ hx;exact i2 i u y g1 hy (hq.imp_right fun hq=>by simp only[xU]at hq;exact wu hq g1)
 |pz=>exact .pz
 |dF a c c2 s z o k f e r _=>
  rcases hq with hq|hq
  .exact .dF (hq _ a) c c2 s z o k f e fun j y i d v h1 h2 h3=>((r j y i d v h1 h2 h3).mono hq).jw hX (fD (hX.jw _ _) h2)
  simp[xU]at hq
 |el a c l o e q r _=>
  rcases hq with hq|hq
  .exact .el (hq _ a) c l o e q fun i d v h1 h2=>((r i d v h1 h2).mono hq).jw hX (fD (hX.jw _ _) h1)
  simp[xU]at hq
 |row e j q=>exact .row (at' e) j q
 | @gone v i x hi e o=>
  have e':(m0++m)[i+m0.length]? = m[i]?:=by rw[a0G (by omega)];congr 1;omega
  exact .gone (ZL hi) (by rw[e'];exact e.as fun c=>by cases v<;>rfl) o
theorem bY.shift(hX:bP X P){m0:List MB}{v:List (PV X.Γ)}{x:List TV}(hv:bY X P A m h v x)(hq:(∀b,A b->B b)∨xU.H8 v=false):bY X P B (m0++m) h (Pv.shift.shifts m0.length v) x:=by
 refine⟨by rw[tK,hv.1],fun i a b ha hb=>?_⟩;obtain⟨u,g1,rfl⟩:=tJ ha;exact(hv.2 i u b g1 hb).shift hX (hq.imp_right fun hq=>wu hq g1)
theorem BR.shift(hX:bP X P){m0:List MB}{b b':PB X.Γ}{mb:MB}(hb:BR X P A m h b mb)(hs:FV X m0.length b=some b')(hq:(∀c,A c->B c)∨hasB X b=false):BR X P B (m0++m) h b' mb:=by
 cases b with
 |cells cs=>
  cases mb with
  |gu c=>
   simp only[FV,a04]at hs;subst hs;obtain⟨cs',h1,h2⟩:=hb;exact⟨cs',h1,h2.shift hX hq⟩
  |_=>exact hb.elim
 |list k ex t l=>
  cases mb with
  |dF y=>
   simp only[FV,a04]at hs;subst hs;rcases hq with hq|hq
   .cases(hb:LR X P A m h k ex t l y)with
    |nil=>exact LR.nil
    |emp p0 p1 p2 p3 p4=>exact LR.emp (hq _ p0) p1 p2 p3 p4
    |some p1 p2 p3 p4 p5 p6 p7 p8 p9=>exact LR.some p1 p2 p3 p4 p5 p6 p7 p8 ((p9.mono hq).jw hX)
   simp[hasB]at hq
  |_=>exact hb.elim
 |gone=>
  cases mb with
  |gone=>simp only[FV,a04]at hs;subst hs;trivial
  |_=>exact hb.elim
 |_=>simp[FV]at hs
theorem KL{k:Nat}:∀{bs bs':List (PB X.Γ)} {i:Nat} {b':PB X.Γ},rJ X k bs=some bs'->bs'[i]? = some b'->∃b,bs[i]? = some b∧FV X k b=some b'
 | [],bs',i,b',h,hi=>by simp only[rJ,a04]at h;subst h;simp at hi
 |b::bs,bs',i,b',h,hi=>by
  simp only[rJ]at h;split at h
  .rename_i c cs h1 h2;cases h;cases i with
   |zero=>simp only[a2F,a04]at hi;subst hi;exact⟨b,rfl,h1⟩
   |succ i=>obtain⟨d,g1,g2⟩:=KL h2 (i:=i) (by simpa using hi);exact⟨d,by simpa using g1,g2⟩
  cases h
theorem KN{k:Nat}:∀{bs bs':List (PB X.Γ)},rJ X k bs=some bs'->bs'.length=bs.length
 | [],bs',h=>by simp only[rJ,a04]at h;subst h;rfl
 |b::bs,bs',h=>by
  simp only[rJ]at h;split at h
  .rename_i c cs h1 h2;cases h;simp[KN h2]
  cases h
def oN(X:l7)(P:Program)(call:bf)(f:FuncId)(vs:List (PV X.Γ))(v:PV X.Γ)(ext:List (PB X.Γ)):Prop:=
 ∀(A:Nat->Prop) (h:List HB) (first args cap:List TV),(∀b,h.length<=b->A b)->bY X P A [] h vs (first++args++cap) ->
  ∃w h' m',call (.fn f first cap) args h=some (w,h',[])∧HR X P A m' ext h'∧VR X P (AA A m') m' h' v w∧Fr [] h m' h'
theorem HY(hX:bP X P){call:bf}{f:FuncId}{first xs cap vs:List (PV X.Γ)}{v:PV X.Γ}{ext ext':List (PB X.Γ)}(hc:oN X P call f vs v ext)(hr:HR X P A m H h)(hv:views H (first++xs++cap)=some vs)(hs:rJ X H.length ext=some ext')
  {t1 t2 t3:List TV} (h1:bY X P (AA A m) m h first t1) (h2:bY X P (AA A m) m h xs t2) (h3:bY X P (AA A m) m h cap t3) :
  ∃w h' m1,call (.fn f t1 t3) t2 h=some (w,h',[])∧HR X P A m1 ((if xU v||ext.any (hasB X)then aZ (lu.kH (first++xs++cap)) H else H)++ext') h'∧VR X P (AA A m1) m1 h' (shift H.length v) w∧Fr m h m1 h'∧Up m m1:=by
 have hvs:=lQ (m':=[]) hX hr ((h1.app h2).app h3) hv (is:=lu.kH (first++xs++cap)) fun i hi=>hi;generalize lu.kH (first++xs++cap)=is at hvs ⊢;obtain⟨w,h',m',c1,c2,c3,c4⟩:=hc (fun b=>FA A m is b∨h.length<=b) h t1 t2 t3 (fun b hb=>.inr hb) (hvs.mono fun b hb=>.inl hb);have hold:∀b,b<h.length->h'[b]? = h[b]?:=fun b hb=>c4.same b hb (by simp[bD]);have fZ:∀b,b∈bD m'->h.length<=b:=fun b hb=>by
  rcases c4.new b hb with h0|h0
  .simp[bD]at h0
  .exact h0
 have key:∀(m0:List MB) (H0:List (PB X.Γ)),HR X P A m0 H0 h->Fr m h m0 h->Up m m0->m0.length=H.length->((∀b,FA A m is b->AA A m0 b)∨(xU v||ext.any (hasB X))=false) ->
   ∃m1,HR X P A m1 (H0++ext') h'∧VR X P (AA A m1) m1 h' (shift H.length v) w∧Fr m h m1 h'∧Up m m1:=by
  intro m0 H0 ZM hF0 hU0 qU hq;have hF:Fr m0 h (m0++m') h':=by
   refine⟨c4.len,fun b hb _=>hold b hb,fun b hb=>?_,fun b cs hc=>⟨cs,by rw[fO (hold b (gX hc)),hc],a0x _⟩⟩;rw[jk,a2L]at hb;exact hb.imp_right fun hb=>fZ b hb
  have hA:(∀b,AA (fun b=>FA A m is b∨h.length<=b) m' b->AA A (m0++m') b)∨(xU v||ext.any (hasB X))=false:=by
   refine hq.imp_left fun hq b hb=>?_;refine⟨?_,fun hm=>?_⟩
   .rcases hb.1 with h0|h0
    .exact(hq b h0).1
    .exact hr.up b h0
   .rw[jk,a2L]at hm;rcases hm with hm|hm
    .rcases hb.1 with h0|h0
     .exact(hq b h0).2 hm
     .have:=ZM.inb hm;omega
    .exact hb.2 hm
  refine⟨m0++m',?_,?_,hF0.trans hF,hU0.trans (wZ _)⟩
  .refine ZM.next hF (wZ _) (by rw[a1t,a1t,ZM.len,KN hs,c2.len]) ?_ fun i b hi=>?_
   .rw[jk];refine a99.2 ⟨ZM.nodup,c2.nodup,fun a ha b hb e=>?_⟩;subst e;have:=ZM.inb ha;have:=fZ a hb;omega
   .rcases a4E i H0.length with aQ|EX
    .left;rw[a0g aQ]at hi;obtain⟨mb,g1,g2⟩:=ZM.at_ i b hi;exact⟨mb,hi,g1,by rw[a0g (by rw[ZM.len];exact aQ)];exact g1,fun c hc=>hold c (g2.has hc)⟩
    .right;rw[a0G EX]at hi;obtain⟨b0,g1,g2⟩:=KL hs hi;obtain⟨mb,g3,g4⟩:=c2.at_ _ _ g1;refine⟨mb,by rw[a0G (by rw[ZM.len];exact EX),ZM.len];exact g3,?_⟩;rw[<-qU]at g2;refine g4.shift hX g2 (hA.imp_right fun hq=>?_);simp only[a9x,List.any_eq_false]at hq;simpa using hq.2 b0 (a4N g1)
  .rw[<-qU];exact c3.shift hX (hA.imp_right fun hq=>by simp only[a9x]at hq;exact hq.1)
 refine⟨w,h',?_⟩;by_cases hL:(xU v||ext.any (hasB X))=true
 .rw[a0u hL];obtain⟨m1,e1,e2,e3,e4⟩:=key (bW is m) (aZ is H) (hr.aZ is) (iE (h:=h) is m).1 (iE (h:=h) is m).2 (by rw[ng,hr.len]) (.inl fun b hb=>hb.gone hr);exact⟨m1,c1,e1,e2,e3,e4⟩
 .rw[a0o hL];obtain⟨m1,e1,e2,e3,e4⟩:=key m H hr .refl .refl hr.len (.inr (by simpa using hL));exact⟨m1,c1,e1,e2,e3,e4⟩
end
open Go Tw
section
variable {X:l7} {P:Program} {A B F:Nat->Prop} {m m':List MB} {h h':List HB} {H H':List (PB X.Γ)}
def aW(X:l7)(P:Program)(call:bf):a3j X.Γ:=fun fv xs H v H1=>
 ∀(A:Nat->Prop) (m:List MB) (h:List HB) (tf:TV) (sJ:List TV),HR X P A m H h->VR X P (AA A m) m h fv tf->bY X P (AA A m) m h xs sJ ->
  ∃w h1 ws m1,call tf sJ h=some (w,h1,ws)∧HR X P A m1 H1 h1∧VR X P (AA A m1) m1 h1 v w∧Fr m h m1 h1∧Up m m1∧∀b∈ws,b∈bD m
def jM(X:l7)(P:Program)(call:bf)(fM:fA X.Γ):Prop:=∀f vs v ext ps,fM f vs=some (v,ext,ps)->(∀p∈ps,p)->oN X P call f vs v ext
theorem uQ{ρ:Type}{y:ρ}:∀{ps:List Prop} {x:OT ρ},(owe ps x).Ends y->(∀p∈ps,p)∧x.Ends y
 | [],x,h=>⟨by simp,h⟩
 |p::ps,x,h=>by
  have:=uQ h.2;exact⟨fun q hq=>by rcases a1J.1 hq with rfl|hq;exact h.1;exact this.1 q hq,this.2⟩
theorem ZN{ρ:Type}{y:ρ}{u:PV X.Γ}{an:PT X.Γ}{k:Bool->PT X.Γ->OT ρ}(hk:(byB X u an k).Ends y){tu:TV}(hu:VR X P A m h u tu):∃t I4,tu=.bool t∧(k t I4).Ends y:=by
 cases u with
 |lit b=>
  have:tu=.bool b:=by
   cases hu with
   |lit=>rfl
   |gone hi _ _=>simp[bn]at hi
  exact⟨b,an,this,hk⟩
 |bool b=>
  have hb:tu=.bool b:=by
   cases hu with
   |bool=>rfl
   |gone hi _ _=>simp[bn]at hi
  subst hb;cases an with
  |s x z=>
   rcases hk with⟨h1,h2⟩|⟨h1,h2⟩
   .subst h1;exact⟨true,x,rfl,h2⟩
   subst h1;exact⟨false,z,rfl,h2⟩
  |a x r=>
   cases x with
   |br t=>obtain⟨h1,h2⟩:=hk;subst h1;exact⟨_,r,rfl,h2⟩
   |_=>exact hk.elim
  |_=>exact hk.elim
 |_=>exact hk.elim
theorem rQ:∀{es:List (PV X.Γ×PV X.Γ)} {gq:List (TV×TV)} {ks:List TV},es.length=gq.length->(∀(i:Nat) x y,es[i]? = some x->gq[i]? = some y->VR X P A m h x.1 y.1∧VR X P A m h x.2 y.2)->vK X es=some ks->gq.map (·.1)=ks
 | [],gq,ks,hl,_,hk=>by
  simp only[vK,a04]at hk;subst hk;cases gq with
  |nil=>rfl
  |cons=>simp at hl
 |(k,v)::es,gq,ks,hl,he,hk=>by
  cases gq with
  |nil=>simp at hl
  |cons y gq=>
   simp only[vK]at hk;split at hk
   .rename_i a b h1 h2;cases hk;have:=jT (he 0 _ _ rfl rfl).1 h1;simp only[a4D,this];rw[rQ (by simpa using hl) (fun i x z hx hz=>he (i+1) x z (by simpa using hx) (by simpa using hz)) h2]
   cases hk
theorem Xi:∀{ks:List TV} {vs:List Value},BU ks=some vs->vs.length=ks.length
 | [],vs,h=>by simp only[BU,a04]at h;subst h;rfl
 |k::ks,vs,h=>by
  simp only[BU]at h;split at h
  .rename_i v ws _ h2;cases h;simp[Xi h2]
  cases h
theorem qj{kt:TypeId}{k:Value}{gq:List (TV×TV)}:ET P kt k gq=vM P kt k (gq.map (·.1)):=by
 unfold ET vM;cases hv:BU (gq.map (·.1))with
 |none=>rfl
 |some vs=>
  have hl:=Xi hv;have:gq.isEmpty=vs.isEmpty:=by
   cases gq<;>cases vs<;>simp at hl<;>rfl
  simp only[this]<;>rfl
def SL:TV->List Key
 |.map r=>[.h r]
 |_=>[]
def a3o(h:List HB):TV->Option (List (TV×TV))
 |.nil .map=>some []
 |.map r=>match h[r]? with
  |some (.map es)=>some es
  |_=>none
 |_=>none
theorem KO{t:TypeId}{h:List HB}{tm tk:TV}{ok:Bool}{kt e:TypeId}{kv:Value}{es:List (TV×TV)}(hu:P.underlying t=some (.map kt e))(hk:tk.yM=some kv)(he:a3o h tm=some es) :
  iq P t h tm tk ok=match ET P kt kv es with
   |some (some i)=>match es[i]? with
    |some (_,v)=>some (if ok then .dM [v,.bool true]else v)
    |none=>none
   |some none=>match P.info? e with
    |some i=>match i.zero with
     |some z=>(TV.VX z).map fun z=>if ok then .dM [z,.bool false]else z
     |none=>none
    |none=>none
   |none=>none:=by
 unfold iq;simp only[hu,hk];cases tm with
 |nil k=>
  cases k<;>simp only[a3o]at he<;>try (cases he;done)
  cases he;rfl
 |map r=>
  simp only[a3o]at he;split at he
  .rename_i es0 hb;cases he;simp only[hb];rfl
  .cases he
 |_=>simp[a3o]at he
theorem Dj{H:List (PB X.Γ)}{h:List HB}(hr:HR X P A m H h){r:Nat}{es:List (PV X.Γ×PV X.Γ)}(he:KI X H r=some es):∃c gq,(m[r]? = some (.gu c)∨(m[r]? = some (.jA c)∧c∉bD m))∧h[c]? = some (.map gq)∧es.length=gq.length ∧
  ∀(i:Nat) x y,es[i]? = some x->gq[i]? = some y->qy x.1=some y.1∧qy x.2=some y.2:=by
 unfold KI at he;split at he
 .rename_i es0 hb;cases he;obtain⟨mb,g1,g2⟩:=hr.at_ r _ hb;cases mb with
  |gu c=>obtain⟨gq,g3,g4,g5⟩:=g2;exact⟨c,gq,.inl g1,g3,g4,g5⟩
  |_=>exact g2.elim
 .rename_i es0 hb;cases he;obtain⟨mb,g1,g2⟩:=hr.at_ r _ hb;cases mb with
  |jA c=>obtain⟨g0,gq,g3,g4,g5⟩:=g2;exact⟨c,gq,.inr ⟨g1,g0⟩,g3,g4,g5⟩
  |_=>exact g2.elim
 .cases he
theorem a1s{B:Nat->Prop}{h:List HB}{r c:Nat}{tm:TV}(hm:VR X P B m h (.map r) tm)(hc:m[r]? = some (.gu c)∨(m[r]? = some (.jA c)∧c∉bD m)):tm=.map c:=by
 cases hm with
 |map e=>
  rcases hc with h|⟨h,_⟩<;>rw[h]at e<;>cases e
  rfl
 |gone hi e _=>
  simp only[bn,a04]at hi;subst hi;rcases hc with h|⟨h,_⟩<;>rw[h]at e
  .cases e
  cases e with
  |r c hv=>simp only[roV,a04]at hv;exact hv.symm
theorem SN{r c:Nat}{ks:List Key}(hc:m[r]? = some (.gu c)∨(m[r]? = some (.jA c)∧c∉bD m)):(∃i,Key.h i∈Key.h r::ks∧Hw m i c)∨c∉bD m:=by
 rcases hc with h|⟨_,h⟩
 .exact .inl ⟨r,by simp,iY h rfl⟩
 exact .inr h
theorem aeC{ps:aS X.Γ}{ts:St}(hR:vw X P A m ps ts){mv:PV X.Γ}{tm:TV}(hm:VR X P (AA A m) m ts.heap mv tm){es:List (PV X.Γ×PV X.Γ)}(he:a6f X ps.heap mv=some es) :
  ∃gq,a3o ts.heap tm=some gq∧es.length=gq.length∧(∀(i:Nat) x y,es[i]? = some x->gq[i]? = some y->VR X P (AA A m) m ts.heap x.1 y.1∧VR X P (AA A m) m ts.heap x.2 y.2) ∧
   IR m ts.heap ⟨iy (Sz X mv),false,false,true⟩ (iy (SL tm)):=by
 cases mv with
 |nil k=>
  cases hm with
  |nil=>
   cases k<;>simp only[a6f]at he<;>try (cases he;done)
   cases he;exact⟨[],rfl,rfl,fun i x y hx=>by simp at hx,IR.reads rfl (by simp[SL]) (by simp[SL])⟩
  |gone hi _ _=>simp[bn]at hi
 |map r=>
  simp only[a6f]at he;obtain⟨c,gq,g0,g3,g4,g5⟩:=Dj hR.heap he;have htm:=a1s hm g0;subst htm;refine⟨gq,by simp only[a3o,g3],g4,fun i x y e1 e2=>⟨oh (g5 i x y e1 e2).1,oh (g5 i x y e1 e2).2⟩,IR.reads rfl (fun b hb=>?_) (by simp[SL])⟩;simp[SL]at hb;subst hb;exact⟨SN g0,(a05.1 g3).1⟩
 |_=>simp[a6f]at he
theorem MW{a b:PV X.Γ}{x y:TV}(h1:VR X P A m h a x)(h2:VR X P A m h b y):VR X P A m h (.dM [a,b]) (.dM [x,y]):=by
 have:=(bY.nil (X:=X) (P:=P) (A:=A) (m:=m) (h:=h)).cons h2 |>.cons h1
 exact .dM this.1 this.2
theorem Xj{e:TypeId}{z:PV X.Γ}(h:OE X P e=some z):∃i z0 z1,P.info? e=some i∧i.zero=some z0∧TV.VX z0=some z1∧YM z1=some z:=by
 unfold OE at h;split at h
 .rename_i i hi;split at h
  .rename_i z0 hz0;split at h
   .rename_i z1 hz1;exact⟨i,z0,z1,hi,hz0,hz1,h⟩
   cases h
  cases h
 cases h
theorem aa3{ρ:Type}{y:ρ}{ps:aS X.Γ}{ts:St}(hR:vw X P A m ps ts){t:TypeId}{mv kv:PV X.Γ}{tm tk:TV}(hm:VR X P (AA A m) m ts.heap mv tm)(hk:VR X P (AA A m) m ts.heap kv tk){ok:Bool}{an:PT X.Γ}{c:PE X.Γ->PI->PT X.Γ->OT ρ}
  (hl:(ZE X P t ps mv kv ok an c).Ends y):∃v pi I4 w,iq P t ts.heap tm tk ok=some w∧VR X P (AA A m) m ts.heap v w∧(c (.val v) pi I4).Ends y∧IR m ts.heap pi (iy (SL tm)):=by
 unfold ZE at hl;split at hl
 .rename_i kt e tk' es hu htk LY;have:=jT hk htk;subst this;obtain⟨gq,f1,f2,f3,f4⟩:=aeC hR hm LY;have fnd:∀{xY ks j k0 v},tk.yM=some xY->vK X es=some ks->vM P kt xY ks=some (some j)->es[j]? = some (k0,v)->∃w,iq P t ts.heap tm tk ok=some w∧VR X P (AA A m) m ts.heap (if ok then .dM [v,.bool true]else v) w:=by
   intro xY ks j k0 v OV F8 OW hj;have sQ:=rQ f2 f3 F8;have aQ:j<gq.length:=by rw[<-f2];exact(a05.1 hj).1
   have Ea:=a0b aQ;have hv:=(f3 j _ _ hj Ea).2;refine⟨(if ok then .dM [gq[j].2,.bool true]else gq[j].2),?_,?_⟩
   .rw[KO hu OV f1];simp only[qj,sQ,OW,Ea]
   .cases ok with
    |true=>exact MW hv (.bool _)
    |false=>exact hv
  have non:∀{xY ks z},tk.yM=some xY->vK X es=some ks->vM P kt xY ks=some none->OE X P e=some z->∃w,iq P t ts.heap tm tk ok=some w∧VR X P (AA A m) m ts.heap (if ok then .dM [z,.bool false]else z) w:=by
   intro xY ks z OV F8 OW hz;have sQ:=rQ f2 f3 F8;obtain⟨i,z0,z1,hi,hz0,hz1,hz2⟩:=Xj hz;refine⟨(if ok then .dM [z1,.bool false]else z1),?_,?_⟩
   .rw[KO hu OV f1];simp only[qj,sQ,OW,hi,hz0,hz1,a0B]
   .cases ok with
    |true=>exact MW (xg hz2) (.bool _)
    |false=>exact xg hz2
  split at hl
  .obtain⟨⟨xY,ks,j,k0,g1,g2,g3,g4⟩,hl⟩:=hl;obtain⟨w,w1,w2⟩:=fnd g1 g2 g3 g4;exact⟨_,_,_,w,w1,w2,hl,f4⟩
  .split at hl
   .rename_i z hz;obtain⟨⟨xY,ks,g1,g2,g3⟩,hl⟩:=hl;obtain⟨w,w1,w2⟩:=non g1 g2 g3 hz;exact⟨_,_,_,w,w1,w2,hl,f4⟩
   .exact hl.elim
  .split at hl
   .rename_i z hz;obtain⟨⟨xY,ks,g1,g2,g3⟩,hl⟩:=hl;obtain⟨w,w1,w2⟩:=non g1 g2 g3 hz;exact⟨_,_,_,w,w1,w2,hl,f4⟩
   .exact hl.elim
  .split at hl
   .rename_i xY ks OV F8;split at hl
    .rename_i j r _ _;split at hl
     .rename_i k0 v hj;obtain⟨OW,hl⟩:=hl;obtain⟨w,w1,w2⟩:=fnd OV F8 OW hj;exact⟨_,_,_,w,w1,w2,hl,f4⟩
     .exact hl.elim
    .split at hl
     .rename_i z hz;obtain⟨OW,hl⟩:=hl;obtain⟨w,w1,w2⟩:=non OV F8 OW hz;exact⟨_,_,_,w,w1,w2,hl,f4⟩
     .exact hl.elim
    .exact hl.elim
   .exact hl.elim
 .exact hl.elim
theorem a3p{x:TV}{v:PV X.Γ}(h:ofC x=some v):rH v=some x:=by
 cases x<;>simp only[ofC,a04,reduceCtorEq]at h<;>subst h<;>rfl
theorem OX:∀{x:List TV} {v:List (PV X.Γ)},CG x=some v->iQ v=some x
 | [],v,h=>by cases h;rfl
 |a::l,v,h=>by
  simp only[CG]at h;split at h
  .rename_i b bs h1 h2;cases h;simp only[iQ,a3p h1,OX h2]
  cases h
theorem aa4{x:TV}{v:PV X.Γ}(h:YM x=some v):qy v=some x:=by
 cases x
 case agg cs=>
  simp only[YM,a07]at h;obtain⟨w,h1,rfl⟩:=h;simp only[qy,OX h1,a0B]
 all_goals
  simp only[YM,ofC,a04,reduceCtorEq]at h
  try subst h
  try rfl
theorem ZO{ps:aS X.Γ}{ts:St}(hR:vw X P A m ps ts){r cb:Nat}{es0:List (TV×TV)}(g1:m[r]? = some (.gu cb))(f1:ts.heap[cb]? = some (.map es0))(en:List (PV X.Γ×PV X.Γ))(en':List (TV×TV))(h1:en.length=en'.length)
  (h2:∀(i:Nat) x y,en[i]? = some x->en'[i]? = some y->qy x.1=some y.1∧qy x.2=some y.2) :
  vw X P A m { ps with heap:=ps.heap.set r (.map en) } { ts with heap:=ts.heap.set cb (.map en') }∧Fr m ts.heap m (ts.heap.set cb (.map en')):=by
 have aQ:=(a05.1 f1).1;obtain⟨q1,q2⟩:=hR.heap.set (pb:=.map en) (hb:=.map en') g1 (c:=cb) rfl (fun cs hc=>by simp[aV,f1]at hc) fun hF=>⟨en',by simp[aQ],h1,h2⟩;exact⟨hR.step q1 q2 .refl,q2⟩
theorem SQ{es:List (PV X.Γ×PV X.Γ)}{gq:List (TV×TV)}(f2:es.length=gq.length)(f3:∀(i:Nat) x y,es[i]? = some x->gq[i]? = some y->qy x.1=some y.1∧qy x.2=some y.2){k v:PV X.Γ}{tk tv:TV}(h1:qy k=some tk)(h2:qy v=some tv) :
  ∀(i:Nat) x y,(es++[(k,v)])[i]? = some x->(gq++[(tk,tv)])[i]? = some y->qy x.1=some y.1∧qy x.2=some y.2:=fun i a b ha qR=>by
 rcases a4E i es.length with aQ|EX
 .rw[a0g aQ]at ha;rw[a0g (by rw[<-f2];exact aQ)]at qR;exact f3 i a b ha qR
 .rw[a0G EX]at ha;rw[a0G (by rw[<-f2];exact EX),<-f2]at qR;cases hx:i-es.length with
  |zero=>
   rw[hx]at ha qR;simp only[a2F,a04]at ha qR;subst ha;subst qR;exact⟨h1,h2⟩
  |succ n=>rw[hx]at ha;simp at ha
theorem a6u{ps:aS X.Γ}{ts:St}(hR:vw X P A m ps ts){r:Nat}{es:List (PV X.Γ×PV X.Γ)}{tm:TV}(hb:ps.heap[r]? = some (.map es))(hm:VR X P (AA A m) m ts.heap (.map r) tm) :
  ∃cb gq,tm=.map cb∧m[r]? = some (.gu cb)∧ts.heap[cb]? = some (.map gq)∧es.length=gq.length∧∀(i:Nat) x y,es[i]? = some x->gq[i]? = some y->qy x.1=some y.1∧qy x.2=some y.2:=by
 obtain⟨mb,g1,g2⟩:=hR.heap.at_ r _ hb;cases mb with
 |gu cb=>
  obtain⟨gq,f1,f2,f3⟩:=g2;cases hm with
  |gone hi e' _=>simp only[bn,a04]at hi;subst hi;rw[g1]at e';cases e'
  |map e'=>rw[g1]at e';cases e';exact⟨cb,gq,rfl,g1,f1,f2,f3⟩
 |_=>exact g2.elim
theorem aa5{ρ:Type}{y:ρ}{ps:aS X.Γ}{ts:St}(hR:vw X P A m ps ts){t:TypeId}{mv kv:PV X.Γ}{tm tk:TV}(hm:VR X P (AA A m) m ts.heap mv tm)(hk:VR X P (AA A m) m ts.heap kv tk){an:PT X.Γ}{c:PE X.Γ->aS X.Γ->PI->PT X.Γ->OT ρ}
  (hl:(a6i X P t ps mv kv an c).Ends y):∃e e' ps1 pi I4 h1 ti,CP P t ts tm tk=some (e',{ ts with heap:=h1 },ti)∧IQ X P (AA A m) m h1 e e'∧vw X P A m ps1 { ts with heap:=h1 }∧Fr m ts.heap m h1∧(c e ps1 pi I4).Ends y∧IR m ts.heap pi ti∧∀b,.h b∈ti.ws->b∈bD m:=by
 unfold a6i at hl;split at hl
 .rename_i kt e tk' r hu htk;have:=jT hk htk;subst this;split at hl
  .rename_i es hb;obtain⟨cb,gq,rfl,g1,f1,f2,f3⟩:=a6u hR hb hm;have f3v:∀(i:Nat) x y,es[i]? = some x->gq[i]? = some y->VR X P (AA A m) m ts.heap x.1 y.1∧VR X P (AA A m) m ts.heap x.2 y.2:=fun i x y e1 e2=>⟨oh (f3 i x y e1 e2).1,oh (f3 i x y e1 e2).2⟩;have aQ:=(a05.1 f1).1;split at hl
   .rename_i v _ j rest;split at hl
    case h_2=>exact hl.elim
    rename_i va vx;obtain⟨⟨xY,ks,old,ov,OV,c1,F8,c2,hj,hold,hov,c3⟩,hl⟩:=hl;have sQ:=rQ f2 f3v F8;have Ea:j<gq.length:=by rw[<-f2];exact(a05.1 hj).1
    have VZ:=a0b Ea;have hy1:(gq[j]).1=old:=by
     have:(gq.map (·.1))[j]? = some (gq[j]).1:=by rw[a4H,VZ];rfl
     rw[sQ,hold]at this;exact(a9j this).symm
    have htv:=(f3 j _ _ hj VZ).2;obtain⟨w1,w2⟩:=ZO hR g1 f1 es (gq.set j (tk,(gq[j]).2)) (by simp[f2]) fun i a b ha qR=>by
     by_cases e:j=i
     .subst e;rw[a4G,VZ]at qR;rw[hj]at ha;cases ha;cases qR;exact⟨htk,htv⟩
     .rw[a0L e]at qR;exact f3 i a b ha qR
    have FK:ps.heap.set r (.map es)=ps.heap:=by
     refine a9Q fun i=>?_;by_cases e:r=i
     .subst e;rw[a1u (a05.1 hb).1,hb]
     .rw[a0L e]
    rw[FK]at w1;refine⟨.ent r j (.int va vx),.ent cb j (gq[j]).2,_,_,_,_,pU (.h cb),?_,⟨.map g1,rfl,htv⟩,w1,w2,hl,.wrH (iY g1 rfl) aQ,fun b hb=>by simp[pU]at hb;subst hb;exact bg g1 rfl⟩;have Wp:gq[j].1=tk:=by
     have:=(f3 j _ _ hj VZ).1;rw[htk]at this;exact(a9j this).symm
    have hv1:gq[j].2=.int va vx:=by
     have h9:some (TV.int va vx)=some (gq[j]).2:=htv;exact(a9j h9).symm
    have WG:gq.set j (tk,(gq[j]).2)=gq:=by
     rw[show(tk,(gq[j]).2)=gq[j]from aaD Wp.symm rfl];exact List.set_getElem_self Ea
    have hl1:iq P t ts.heap (.map cb) tk false=some (.int va vx):=by
     unfold iq;simp only[hu,OV,f1,qj,sQ,c2,VZ,hv1,a2u,a3q]
    have hcb:ts.heap.set cb (.map gq)=ts.heap:=by
     refine a9Q fun i=>?_;by_cases e:cb=i
     .subst e;rw[a1u aQ,f1]
     .rw[a0L e]
    have h0:Ag P t ts (.map cb) tk=some (.ent cb j (gq[j]).2,{ ts with heap:=ts.heap.set cb (.map (gq.set j (tk,(gq[j]).2))) },pU (.h cb)):=by
     unfold Ag;simp only[hu,OV,f1,c1,qj,sQ,c2,VZ,hy1,hov,c3,a2k]
    unfold CP;rw[h0];simp only[];rw[a0u];unfold a0v;rw[WG,hcb,hl1];simp
   .split at hl
    .rename_i va vx hz;obtain⟨⟨xY,q1,c1⟩,⟨acn,ks,q2,F8,c2⟩,⟨asb,ks2,q3,aoe,c4⟩,hl⟩:=hl;rw[q1]at q2;cases q2;rw[q1]at q3;cases q3;obtain⟨i,z0,z1,hi,hz0,hz1,hz2⟩:=Xj hz;have sQ:=rQ f2 f3v F8;have hzt:=aa4 hz2;obtain⟨w1,w2⟩:=ZO hR g1 f1 (es++[(kv,.int va vx)]) (gq++[(tk,z1)]) (by simp[f2]) (SQ f2 f3 htk hzt);refine⟨.ent r es.length (.int va vx),.ent cb gq.length z1,_,_,_,_,pU (.h cb),?_,⟨.map g1,f2,hzt⟩,w1,w2,hl,.wrH (iY g1 rfl) aQ,fun b hb=>by simp[pU]at hb;subst hb;exact bg g1 rfl⟩;have hv1:z1=.int va vx:=by
      have h9:some (TV.int va vx)=some z1:=hzt;exact(a9j h9).symm
     have hl1:iq P t ts.heap (.map cb) tk false=some (.int va vx):=by
      unfold iq;simp only[hu,q1,f1,qj,sQ,c2,hi,hz0,hz1,hv1,a0B,a2u,a3q]
     have aeD:(gq++[(tk,z1)]).map (·.1)=ks2:=rQ (P:=P) (A:=AA A m) (m:=m) (h:=ts.heap) (es:=es++[(kv,.int va vx)]) (by simp[f2]) (fun i x y e1 e2=>let ⟨a1,a2⟩:=SQ f2 f3 htk hzt i x y e1 e2;⟨oh a1,oh a2⟩) aoe;have Rq:iq P t (ts.heap.set cb (.map (gq++[(tk,z1)]))) (.map cb) tk false=some (.int va vx):=by
      have e9:(gq++[(tk,z1)])[es.length]? = some (tk,z1):=by rw[f2];simp
      unfold iq;simp only[hu,q1,a1u aQ,qj,aeD,c4,e9,a2u,a3q];rw[hv1]
     have h0:Ag P t ts (.map cb) tk=some (.ent cb gq.length z1,{ ts with heap:=ts.heap.set cb (.map (gq++[(tk,z1)])) },pU (.h cb)):=by
      unfold Ag;simp only[hu,q1,f1,c1,qj,sQ,c2,hi,hz0,hz1]
     unfold CP;rw[h0];simp only[];rw[a0u];unfold a0v;rw[hl1,Rq];simp
    .exact hl.elim
   .exact hl.elim
  .exact hl.elim
 .exact hl.elim
theorem aa7{ρ:Type}{y:ρ}{ps:aS X.Γ}{ts:St}(hR:vw X P A m ps ts){mv v:PV X.Γ}{e:PE X.Γ}{tm tv:TV}{e':EV}(hm:VR X P (AA A m) m ts.heap mv tm)(he:IQ X P (AA A m) m ts.heap e e')(hv:VR X P (AA A m) m ts.heap v tv){c:aS X.Γ->PI->OT ρ}
  (hl:(a6j X ps mv e v c).Ends y):∃ps1 pi h1 ti,Gv ts tm e' tv=some ({ ts with heap:=h1 },ti)∧vw X P A m ps1 { ts with heap:=h1 }∧Fr m ts.heap m h1∧(c ps1 pi).Ends y∧IR m ts.heap pi ti∧∀b,.h b∈ti.ws->b∈bD m:=by
 unfold a6j at hl;split at hl
 .rename_i r r' j tv' htv;have:=jT hv htv;subst this;split at hl
  .rename_i hrr;subst hrr;split at hl
   .rename_i es hb;obtain⟨hj,hl⟩:=hl;obtain⟨cb,gq,rfl,g1,f1,f2,f3⟩:=a6u hR hb hm;obtain⟨c',rfl,hm'⟩:=MS he;have hc:c'=cb:=by
     cases hm' with
     |gone hi e' _=>simp only[bn,a04]at hi;subst hi;rw[g1]at e';cases e'
     |map e'=>rw[g1]at e';cases e';rfl
    subst hc;have aQ:=(a05.1 f1).1;have Ea:j<gq.length:=by rw[<-f2];exact hj
    have VZ:=a0b Ea;obtain⟨w1,w2⟩:=ZO hR g1 f1 (Je es j v) (gq.set j ((gq[j]).1,tv)) (by unfold Je;simp[f2]) fun i a b ha qR=>by
     unfold Je at ha;rw[ae3]at ha;by_cases e:j=i
     .subst e;rw[a4G,VZ]at qR;simp only[a2k,a0b hj,Option.map_eq_map,a0B,a04]at ha;subst ha;cases qR;exact⟨(f3 j _ _ (a0b hj) VZ).1,htv⟩
     .rw[a0L e]at qR;have ha:es[i]? = some a:=(by simpa[e]using ha);exact f3 i a b ha qR
    refine⟨_,_,_,pU (.h c'),?_,w1,w2,hl,.wrH (iY g1 rfl) aQ,fun b hb=>by simp[pU]at hb;subst hb;exact bg g1 rfl⟩;unfold Gv;simp only[a2k,f1,VZ]
   .exact hl.elim
  .exact hl.elim
 .exact hl.elim
theorem a6w{ρ:Type}{y:ρ}{ps:aS X.Γ}{ts:St}(hR:vw X P A m ps ts){t:TypeId}{mv kv v:PV X.Γ}{tm tk tv:TV}(hm:VR X P (AA A m) m ts.heap mv tm)(hk:VR X P (AA A m) m ts.heap kv tk)(hv:VR X P (AA A m) m ts.heap v tv){an:PT X.Γ}{c:aS X.Γ->PI->PT X.Γ->OT ρ}
  (hl:(a6g X P t ps mv kv v an c).Ends y):∃ps1 pi I4 h1 ti,yc P t ts tm tk tv=some ({ ts with heap:=h1 },ti)∧vw X P A m ps1 { ts with heap:=h1 }∧Fr m ts.heap m h1∧(c ps1 pi I4).Ends y∧IR m ts.heap pi ti∧∀b,.h b∈ti.ws->b∈bD m:=by
 unfold a6g at hl;split at hl
 .rename_i kt e tk' r tv' hu htk htv;have:=jT hk htk;subst this;have:=jT hv htv;subst this;split at hl
  .rename_i es hb;obtain⟨mb,g1,g2⟩:=hR.heap.at_ r _ hb;cases mb with
   |gu cb=>
    obtain⟨gq,f1,f2,f3⟩:=g2;have f3v:∀(i:Nat) x y,es[i]? = some x->gq[i]? = some y->VR X P (AA A m) m ts.heap x.1 y.1∧VR X P (AA A m) m ts.heap x.2 y.2:=fun i x y e1 e2=>⟨oh (f3 i x y e1 e2).1,oh (f3 i x y e1 e2).2⟩;cases hm with
    |gone hi e' _=>simp only[bn,a04]at hi;subst hi;rw[g1]at e';cases e'
    |map e'=>
     rw[g1]at e';cases e';have aQ:=(a05.1 f1).1;have wr:∀(en:List (PV X.Γ×PV X.Γ)) (en':List (TV×TV)),en.length=en'.length->(∀(i:Nat) x y,en[i]? = some x->en'[i]? = some y->qy x.1=some y.1∧qy x.2=some y.2) ->
       vw X P A m { ps with heap:=ps.heap.set r (.map en) } { ts with heap:=ts.heap.set cb (.map en') }∧Fr m ts.heap m (ts.heap.set cb (.map en')):=by
      intro en en' h1 h2;obtain⟨q1,q2⟩:=hR.heap.set (pb:=.map en) (hb:=.map en') g1 (c:=cb) rfl (fun cs hc=>by simp[aV,f1]at hc) fun hF=>⟨en',by simp[aQ],h1,h2⟩;exact⟨hR.step q1 q2 .refl,q2⟩
     have new:∀{xY ks},tk.yM=some xY->vK X es=some ks->aC P (Instr.checkKey false 10000 kt xY)=some ()->vM P kt xY ks=some none ->
       yc P t ts (.map cb) tk tv=some ({ ts with heap:=ts.heap.set cb (.map (gq++[(tk,tv)])) },pU (.h cb))∧vw X P A m { ps with heap:=ps.heap.set r (.map (es++[(kv,v)])) } { ts with heap:=ts.heap.set cb (.map (gq++[(tk,tv)])) }∧Fr m ts.heap m (ts.heap.set cb (.map (gq++[(tk,tv)]))):=by
      intro xY ks OV F8 c1 c2;have sQ:=rQ f2 f3v F8;obtain⟨w1,w2⟩:=wr (es++[(kv,v)]) (gq++[(tk,tv)]) (by simp[f2]) fun i a b ha qR=>by
       rcases a4E i es.length with aQ|EX
       .rw[a0g aQ]at ha;rw[a0g (by rw[<-f2];exact aQ)]at qR;exact f3 i a b ha qR
       .rw[a0G EX]at ha;rw[a0G (by rw[<-f2];exact EX),<-f2]at qR;cases hx:i-es.length with
        |zero=>
         rw[hx]at ha qR;simp only[a2F,a04]at ha qR;subst ha;subst qR;exact⟨htk,htv⟩
        |succ n=>rw[hx]at ha;simp at ha
      refine⟨?_,w1,w2⟩;unfold yc;simp only[hu,OV,f1,c1,qj,sQ,c2]
     split at hl
     .obtain⟨⟨xY,q1,c1⟩,⟨acn,ks,q2,F8,c2⟩,hl⟩:=hl;rw[q1]at q2;cases q2;obtain⟨u1,u2,u3⟩:=new q1 F8 c1 c2;exact⟨_,_,_,_,pU (.h cb),u1,u2,u3,hl,.wrH (iY g1 rfl) aQ,fun b hb=>by simp[pU]at hb;subst hb;exact bg g1 rfl⟩
     .obtain⟨⟨xY,q1,c1⟩,⟨acn,ks,q2,F8,c2⟩,hl⟩:=hl;rw[q1]at q2;cases q2;obtain⟨u1,u2,u3⟩:=new q1 F8 c1 c2;exact⟨_,_,_,_,pU (.h cb),u1,u2,u3,hl,.wrH (iY g1 rfl) aQ,fun b hb=>by simp[pU]at hb;subst hb;exact bg g1 rfl⟩
     .obtain⟨⟨xY,ks,j,old,ov,OV,c1,F8,c2,hj,hold,hov,c3⟩,hl⟩:=hl;have sQ:=rQ f2 f3v F8;have Ea:∃y0,gq[j]? = some y0:=by
       have:j<gq.length:=by rw[<-f2];exact(a05.1 hj).1
       exact⟨_,a0b this⟩
      obtain⟨y0,VZ⟩:=Ea;have hy1:y0.1=old:=by
       have:(gq.map (·.1))[j]? = some y0.1:=by rw[a4H,VZ];rfl
       rw[sQ,hold]at this;exact(a9j this).symm
      obtain⟨w1,w2⟩:=wr es (gq.set j (tk,tv)) (by simp[f2]) fun i a b ha qR=>by
       by_cases e:j=i
       .subst e;rw[a4G]at qR;rw[hj]at ha;rw[VZ]at qR;cases ha;cases qR;exact⟨htk,htv⟩
       .rw[a0L e]at qR;exact f3 i a b ha qR
      have FK:ps.heap.set r (.map es)=ps.heap:=by
       refine a9Q fun i=>?_;by_cases e:r=i
       .subst e;rw[a1u (a05.1 hb).1,hb]
       .rw[a0L e]
      rw[FK]at w1;refine⟨_,_,_,_,pU (.h cb),?_,w1,w2,hl,.wrH (iY g1 rfl) aQ,fun b hb=>by simp[pU]at hb;subst hb;exact bg g1 rfl⟩;unfold yc;simp only[hu,OV,f1,c1,qj,sQ,c2,VZ,hy1,hov,c3,a2k]
     .split at hl
      .rename_i xY ks OV F8;have sQ:=rQ f2 f3v F8;split at hl
       .rename_i j rest _ _ _;split at hl
        .rename_i x0 old hj hold;split at hl
         .rename_i ov hov;obtain⟨c1,c2,c3,hl⟩:=hl;have Ea:∃y0,gq[j]? = some y0:=by
           have:j<gq.length:=by rw[<-f2];exact(a05.1 hj).1
           exact⟨_,a0b this⟩
          obtain⟨y0,VZ⟩:=Ea;have hy1:y0.1=old:=by
           have:(gq.map (·.1))[j]? = some y0.1:=by rw[a4H,VZ];rfl
           rw[sQ,hold]at this;exact(a9j this).symm
          obtain⟨w1,w2⟩:=wr (es.set j (kv,v)) (gq.set j (tk,tv)) (by simp[f2]) fun i a b ha qR=>by
           by_cases e:j=i
           .subst e;rw[a4G]at ha qR;rw[hj]at ha;rw[VZ]at qR;cases ha;cases qR;exact⟨htk,htv⟩
           .rw[a0L e]at ha qR;exact f3 i a b ha qR
          refine⟨_,_,_,_,pU (.h cb),?_,w1,w2,hl,.wrH (iY g1 rfl) aQ,fun b hb=>by simp[pU]at hb;subst hb;exact bg g1 rfl⟩;unfold yc;simp only[hu,OV,f1,c1,qj,sQ,c2,VZ,hy1,hov,c3,a2k]
         .exact hl.elim
        .exact hl.elim
       .obtain⟨c1,c2,hl⟩:=hl;obtain⟨u1,u2,u3⟩:=new OV F8 c1 c2;exact⟨_,_,_,_,pU (.h cb),u1,u2,u3,hl,.wrH (iY g1 rfl) aQ,fun b hb=>by simp[pU]at hb;subst hb;exact bg g1 rfl⟩
       .exact hl.elim
      .exact hl.elim
   |_=>exact g2.elim
  .exact hl.elim
 .exact hl.elim
end
open Go Tw
theorem kL{m:List MB}{b:Nat}(h:b∈bD m):∃i,Hw m i b:=by
 obtain⟨mb,h1,h2⟩:=a5X.1 h;obtain⟨i,hi⟩:=a8K h1;exact⟨i,mb,hi,h2⟩
section
variable {X:l7} {P:Program} {A B:Nat->Prop} {m m1:List MB} {h:List HB} {g:Nat->Option Nat}
theorem jI:∀{m:List MB},(∀i j c,Hw m i c->Hw m j c->i=j)->(bD m).Nodup
 | [],_=>by simp[bD]
 |x::m,hu=>by
  have ih:(bD m).Nodup:=jI fun i j c h1 h2=>by
   have:=hu (i+1) (j+1) c (by obtain⟨mb,a,b⟩:=h1;exact⟨mb,by simpa using a,b⟩) (by obtain⟨mb,a,b⟩:=h2;exact⟨mb,by simpa using a,b⟩);omega
  unfold bD at ih ⊢;rw[a9g];split
  .exact ih
  rename_i b hb;refine a4J.2 ⟨fun hm=>?_,ih⟩;obtain⟨i,mb,h1,h2⟩:=kL (m:=m) hm;have:=hu 0 (i+1) b ⟨x,rfl,hb⟩ ⟨mb,by simpa using h1,h2⟩;omega
theorem OY:∀{ks:List Nat} {i p:Nat},wW ks i=some p->ks[p]? = some i
 | [],i,p,h=>by cases h
 |a::ks,i,p,h=>by
  simp only[wW]at h;split at h
  .rename_i e;cases h;simp[e]
  simp only[a07]at h;obtain⟨q,h1,rfl⟩:=h;simpa using OY h1
section
variable {g:Nat->Option Nat} {m1:List MB}
theorem Em(hg:∀i j,g i=some j->m1[j]? = m[i]?){B:Nat->Prop}(hA:∀b,A b->B b)(hX:bP X P){v:PV X.Γ}{x:TV}(hv:VR X P A m h v x):∀{w:PV X.Γ},fK g v=some w->VR X P B m1 h w x:=by
 have lists:∀{vs:List (PV X.Γ)} {xs:List TV},vs.length=xs.length->(∀(i:Nat) a b,vs[i]? = some a->xs[i]? = some b->∀{w:PV X.Γ},fK g a=some w->VR X P B m1 h w b)->∀{ws:List (PV X.Γ)},fK.pR g vs=some ws->ws.length=xs.length∧∀(i:Nat) a b,ws[i]? = some a->xs[i]? = some b->VR X P B m1 h a b:=by
  intro vs
  induction vs with
  |nil=>
   intro xs hl _ ws hw;simp only[fK.pR,a04]at hw;subst hw;exact⟨hl,fun i a b ha=>by simp at ha⟩
  |cons v vs ih=>
   intro xs hl hh ws hw;cases xs with
   |nil=>simp at hl
   |cons x xs=>
    simp only[fK.pR]at hw;split at hw
    .rename_i w Uh h1 h2;cases hw;obtain⟨e1,e2⟩:=ih (xs:=xs) (by simpa using hl) (fun i a b ha hb=>hh (i+1) a b (by simpa using ha) (by simpa using hb)) h2;refine⟨by simp[e1],fun i a b ha hb=>?_⟩;cases i with
     |zero=>simp only[a2F,a04]at ha hb;subst ha;subst hb;exact hh 0 v x rfl rfl h1
     |succ i=>exact e2 i a b (by simpa using ha) (by simpa using hb)
    cases hw
 induction hv with
 |bool=>intro w hw;simp only[fK,a04]at hw;subst hw;exact .bool _
 |lit=>intro w hw;simp only[fK,a04]at hw;subst hw;exact .lit _
 |int=>intro w hw;simp only[fK,a04]at hw;subst hw;exact .int _ _
 |str=>intro w hw;simp only[fK,a04]at hw;subst hw;exact .str _
 |nil=>intro w hw;simp only[fK,a04]at hw;subst hw;exact .nil _
 |ptr e=>intro w hw;simp only[fK,a07]at hw;obtain⟨j,h1,rfl⟩:=hw;exact .ptr (by rw[hg _ _ h1];exact e)
 |slc e=>intro w hw;simp only[fK,a07]at hw;obtain⟨j,h1,rfl⟩:=hw;exact .slc (by rw[hg _ _ h1];exact e)
 |own e o=>intro w hw;simp only[fK,a07]at hw;obtain⟨j,h1,rfl⟩:=hw;exact .own (by rw[hg _ _ h1];exact e) o
 |win e q q' q2=>intro w hw;simp only[fK,a07]at hw;obtain⟨j,h1,rfl⟩:=hw;exact .win (by rw[hg _ _ h1];exact e) q q' q2
 |AL e=>intro w hw;simp only[fK,a07]at hw;obtain⟨j,h1,rfl⟩:=hw;exact .AL (by rw[hg _ _ h1];exact e)
 |map e=>intro w hw;simp only[fK,a07]at hw;obtain⟨j,h1,rfl⟩:=hw;exact .map (by rw[hg _ _ h1];exact e)
 |iter e=>intro w hw;simp only[fK,a07]at hw;obtain⟨j,h1,rfl⟩:=hw;exact .iter (by rw[hg _ _ h1];exact e)
 |kZ e=>intro w hw;simp only[fK,a07]at hw;obtain⟨j,h1,rfl⟩:=hw;exact .kZ (by rw[hg _ _ h1];exact e)
 |row e j q=>intro w hw;simp only[fK,a07]at hw;obtain⟨j,h1,rfl⟩:=hw;exact .row (by rw[hg _ _ h1];exact e) (by assumption) q
 |fn h1 _ h3 _ i2 i4=>
  intro w hw;simp only[fK]at hw;split at hw
  .rename_i a c ha hc;cases hw;obtain⟨e1,e2⟩:=lists h1 i2 ha;obtain⟨e3,e4⟩:=lists h3 i4 hc;exact .fn e1 e2 e3 e4
  cases hw
 |agg h1 _ i2=>
  intro w hw;simp only[fK,a07]at hw;obtain⟨cs,hc,rfl⟩:=hw;obtain⟨e1,e2⟩:=lists h1 i2 hc;exact .agg e1 e2
 |dM h1 _ i2=>
  intro w hw;simp only[fK,a07]at hw;obtain⟨cs,hc,rfl⟩:=hw;obtain⟨e1,e2⟩:=lists h1 i2 hc;exact .dM e1 e2
 |pz=>intro w hw;simp only[fK,a04]at hw;subst hw;exact .pz
 |dF a c c2 s z o k f e r _=>intro w hw;simp only[fK,a04]at hw;subst hw;exact .dF (hA _ a) c c2 s z o k f e fun j y i d v h1 h2 h3=>((r j y i d v h1 h2 h3).mono hA).jw hX (fD (hX.jw _ _) h2)
 |el a c l o e q r _=>intro w hw;simp only[fK,a04]at hw;subst hw;exact .el (hA _ a) c l o e q fun i d v h1 h2=>((r i d v h1 h2).mono hA).jw hX (fD (hX.jw _ _) h1)
 |gone i e o=>
  intro w hw;rename_i v _ x;have:∃j,bn w=some j∧Dh w x m1[j]?:=by
   cases v<;>simp[bn]at i<;>subst i<;>simp only[fK,a07]at hw<;>obtain⟨j,h1,rfl⟩:=hw<;>exact⟨j,rfl,by rw[hg _ _ h1];exact e.as fun c=>rfl⟩
  obtain⟨j,h1,h2⟩:=this;exact .gone h1 h2 o
variable {B:Nat->Prop}
theorem zH(hX:bP X P)(hg:∀i j,g i=some j->m1[j]? = m[i]?)(hA:∀b,A b->B b):∀{vs:List (PV X.Γ)} {xs:List TV} {ws:List (PV X.Γ)},bY X P A m h vs xs->fK.pR g vs=some ws->bY X P B m1 h ws xs
 | [],xs,ws,hv,hw=>by simp only[fK.pR,a04]at hw;subst hw;rw[hv.inv0];exact .nil
 |v::vs,xs,ws,hv,hw=>by
  obtain⟨x,r,rfl,h1,h2⟩:=hv.inv;simp only[fK.pR]at hw;split at hw
  .rename_i w Uh g1 g2;cases hw;exact .cons (Em hg hA hX h1 g1) (zH hX hg hA h2 g2)
  cases hw
theorem OZ(hX:bP X P)(hg:∀i j,g i=some j->m1[j]? = m[i]?)(hA:∀b,A b->B b){env:List (Nat×PE X.Γ)}{env':List (Nat×EV)}(he:ku X P A m h env env'):∀{r:List (Nat×PE X.Γ)},pO g env=some r->ku X P B m1 h r env':=by
 induction he with
 |nil=>intro r h;simp only[pO,a04]at h;subst h;exact .nil
 |cons h1 h2 ih=>
  rename_i k v x q q';intro r hr;simp only[pO]at hr;split at hr
  rotate_left
  .cases hr
  rename_i w r' e1 e2;cases hr;refine .cons ?_ (ih e2);cases v with
  |val v=>
   obtain⟨y,rfl,h3⟩:=fU h1;simp only[OD,a07]at e1;obtain⟨u,e3,rfl⟩:=e1;exact oq (Em hg hA hX h3 e3)
  |loc a b=>simp only[OD,a04]at e1;subst e1;rw[Ei h1];exact⟨rfl,rfl⟩
  |undef=>simp only[OD,a04]at e1;subst e1;rw[Jg h1];trivial
  |ent r j v=>
   obtain⟨c,y,rfl,h3,h4⟩:=MR h1;simp only[OD,a07]at e1;obtain⟨u,e3,rfl⟩:=e1;exact⟨Em hg hA hX h3 (w:=.map u) (by simp only[fK,e3,a0B]),rfl,h4⟩
  |EI r j=>
   obtain⟨c,rfl,h3⟩:=MS h1;simp only[OD,a07]at e1;obtain⟨u,e3,rfl⟩:=e1;exact⟨Em hg hA hX h3 (w:=.map u) (by simp only[fK,e3,a0B]),rfl⟩
theorem En(hX:bP X P)(hg:∀i j,g i=some j->m1[j]? = m[i]?)(hA:∀b,A b->B b){b b':PB X.Γ}{mb:MB}(hn:∀c,mb=.jA c->c∉bD m->c∉bD m1)(hb:BR X P A m h b mb)(hr:zF g b=some b'):BR X P B m1 h b' mb:=by
 cases b with
 |cells cs=>
  cases mb with
  |gu c=>
   simp only[zF,a07]at hr;obtain⟨cs',h1,rfl⟩:=hr;obtain⟨xs,h2,h3⟩:=hb;exact⟨xs,h2,zH hX hg hA h3 h1⟩
  |_=>exact hb.elim
 |aF cs=>
  cases mb with
  |jA c=>
   simp only[zF,a07]at hr;obtain⟨cs',h1,rfl⟩:=hr;obtain⟨h0,xs,h2,h3⟩:=hb;exact⟨hn c rfl h0,xs,h2,zH hX hg hA h3 h1⟩
  |_=>exact hb.elim
 |list k ex t l=>
  cases mb with
  |dF y=>
   simp only[zF,a04]at hr;subst hr;cases(hb:LR X P A m h k ex t l y)with
   |nil=>exact LR.nil
   |emp p0 p1 p2 p3 p4=>exact LR.emp (hA _ p0) p1 p2 p3 p4
   |some p1 p2 p3 p4 p5 p6 p7 p8 p9=>exact LR.some p1 p2 p3 p4 p5 p6 p7 p8 ((p9.mono hA).jw hX)
  |_=>exact hb.elim
 |map es=>
  cases mb with
  |gu c=>
   simp only[zF,a04]at hr;subst hr;exact hb
  |_=>exact hb.elim
 |nK cs=>
  cases mb with
  |gu c=>
   simp only[zF,a04]at hr;subst hr;exact hb
  |_=>exact hb.elim
 |iL es=>
  cases mb with
  |jA c=>
   simp only[zF,a04]at hr;subst hr;exact⟨hn c rfl hb.1,hb.2⟩
  |_=>exact hb.elim
 |dn r n seen=>
  cases mb with
  |gu b=>
   simp only[zF,a07]at hr;obtain⟨j,h1,rfl⟩:=hr;obtain⟨c,h2,h3,h4⟩:=hb;exact⟨c,h2,by rw[hg _ _ h1];exact h3,fun c' hc=>h4 c' (by rw[<-hg _ _ h1];exact hc)⟩
  |_=>exact hb.elim
 |mark=>
  cases mb with
  |gu c=>simp only[zF,a04]at hr;subst hr;exact hb
  |_=>exact hb.elim
 |loop rd f nt env ps a c jP=>
  cases mb with
  |gu cb=>
   simp only[zF,a07]at hr;obtain⟨aug,h1,rfl⟩:=hr;obtain⟨xs,h2,h3⟩:=hb;exact⟨xs,h2,OZ hX hg hA h3 h1⟩
  |_=>exact hb.elim
 |gone=>
  cases mb with
  |gone=>simp only[zF,a04]at hr;subst hr;trivial
  |_=>exact hb.elim
theorem tV:∀{bs r:List (PB X.Γ)},o8 g bs=some r->r.length=bs.length∧∀{i:Nat} {b':PB X.Γ},r[i]? = some b'->∃b,bs[i]? = some b∧zF g b=some b'
 | [],r,h=>by simp only[o8,a04]at h;subst h;exact⟨rfl,fun{i b'} hi=>by simp at hi⟩
 |b::bs,r,h=>by
  simp only[o8]at h;split at h
  .rename_i c cs h1 h2;cases h;obtain⟨e1,e2⟩:=tV h2;refine⟨by simp[e1],fun{i b'} hi=>?_⟩;cases i with
   |zero=>simp only[a2F,a04]at hi;subst hi;exact⟨b,rfl,h1⟩
   |succ i=>obtain⟨d,q1,q2⟩:=e2 (i:=i) (by simpa using hi);exact⟨d,by simpa using q1,q2⟩
  cases h
theorem P5:∀{bs r:List (List (PV X.Γ))},X6 g bs=some r->r.length=bs.length∧∀{i:Nat} {b':List (PV X.Γ)},r[i]? = some b'->∃b,bs[i]? = some b∧fK.pR g b=some b'
 | [],r,h=>by simp only[X6,a04]at h;subst h;exact⟨rfl,fun{i b'} hi=>by simp at hi⟩
 |b::bs,r,h=>by
  simp only[X6]at h;split at h
  .rename_i c cs h1 h2;cases h;obtain⟨e1,e2⟩:=P5 h2;refine⟨by simp[e1],fun{i b'} hi=>?_⟩;cases i with
   |zero=>simp only[a2F,a04]at hi;subst hi;exact⟨b,rfl,h1⟩
   |succ i=>obtain⟨d,q1,q2⟩:=e2 (i:=i) (by simpa using hi);exact⟨d,by simpa using q1,q2⟩
  cases h
theorem Eo:∀{ks:List Nat} {H r:List (PB X.Γ)},Dc H ks=some r->r.length=ks.length∧∀{i k:Nat},ks[i]? = some k->∃b,H[k]? = some b∧r[i]? = some b
 | [],H,r,h=>by simp only[Dc,a04]at h;subst h;exact⟨rfl,fun{i k} hi=>by simp at hi⟩
 |k::ks,H,r,h=>by
  simp only[Dc]at h;split at h
  .rename_i b rs h1 h2;cases h;obtain⟨e1,e2⟩:=Eo h2;refine⟨by simp[e1],fun{i j} hi=>?_⟩;cases i with
   |zero=>simp only[a2F,a04]at hi;subst hi;exact⟨b,h1,rfl⟩
   |succ i=>obtain⟨d,q1,q2⟩:=e2 (i:=i) (k:=j) (by simpa using hi);exact⟨d,q1,by simpa using q2⟩
  cases h
end
theorem tX{α:Type}:∀{ks:List Nat} {bs l:List α},(putAt ks bs l).length=l.length
 | [],_,_=>rfl
 |_::_,[],_=>rfl
 |k::ks,b::bs,l=>by simp only[putAt];rw[tX,a4O]
theorem P6{α:Type}:∀{ks:List Nat} {bs l:List α} {p i:Nat},ks.Nodup->(∀k∈ks,k<l.length)->ks.length<=bs.length->ks[p]? = some i->(putAt ks bs l)[i]? = bs[p]?
 | [],_,_,p,i,_,_,_,h=>by simp at h
 |a::ks,[],_,_,_,_,_,hl,_=>by simp at hl
 |a::ks,b::bs,l,0,i,hn,hk,hl,h=>by
  simp only[a2F,a04]at h;subst h;have hn:=a4J.1 hn;simp only[putAt];have:∀{ks:List Nat} {bs l:List α} {i:Nat},i∉ks->(putAt ks bs l)[i]? = l[i]?:=by
   intro ks
   induction ks with
   |nil=>intro bs l i _;rfl
   |cons c ks ih=>
    intro bs l i hi;simp only[a1J,adJ]at hi;cases bs with
    |nil=>rfl
    |cons b bs=>simp only[putAt];rw[ih hi.2,a0L (fun e=>hi.1 e.symm)]
  rw[this hn.1,a1u (hk a (a2S ..))];rfl
 |a::ks,b::bs,l,p+1,i,hn,hk,hl,h=>by
  simp only[a9D]at h;simp only[putAt];rw[P6 (a4J.1 hn).2 (fun k oQ=>by rw[a4O];exact hk k (a2U _ oQ)) (by simpa using hl) h];rfl
theorem Ji{α:Type}:∀{ks:List Nat} {bs l:List α} {i:Nat},i∉ks->(putAt ks bs l)[i]? = l[i]?
 | [],_,_,_,_=>rfl
 |a::ks,[],_,_,_=>rfl
 |a::ks,b::bs,l,i,hi=>by
  simp only[a1J,adJ]at hi;simp only[putAt];rw[Ji hi.2,a0L (fun e=>hi.1 e.symm)]
def Xk(X:l7)(P:Program)(call:bf)(fv:PV X.Γ)(xs:List (PV X.Γ))(H:List (PB X.Γ))(v:PV X.Γ)(H1:List (PB X.Γ))(W:Nat->Prop):Prop:=
 ∀(A:Nat->Prop) (m:List MB) (h:List HB) (tf:TV) (sJ:List TV),HR X P A m H h->VR X P (AA A m) m h fv tf->bY X P (AA A m) m h xs sJ ->
  ∃w h1 ws m1,call tf sJ h=some (w,h1,ws)∧HR X P A m1 H1 h1∧VR X P (AA A m1) m1 h1 v w∧Fr m h m1 h1∧Up m m1∧∀b∈ws,∃k,W k∧Hw m k b
theorem aW.w{call:bf}{fv v:PV X.Γ}{xs:List (PV X.Γ)}{H H1:List (PB X.Γ)}(h:aW X P call fv xs H v H1):Xk X P call fv xs H v H1 fun _=>True:=fun A m h0 tf sJ a b c=>by
 obtain⟨w,h1,ws,m1,c1,c2,c3,c4,c5,c6⟩:=h A m h0 tf sJ a b c;exact⟨w,h1,ws,m1,c1,c2,c3,c4,c5,fun b hb=>by obtain⟨i,hi⟩:=kL (c6 b hb);exact⟨i,trivial,hi⟩⟩
theorem MX:∀{H:List (PB X.Γ)} {i:Nat} {b:PB X.Γ},Jd H=true->H[i]? = some b->Jd [b]=true
 | [],_,_,_,h=>by simp at h
 |a::H,0,b,hn,h=>by
  simp only[a2F,a04]at h;subst h;cases a<;>simp_all [Jd]
 |a::H,i+1,b,hn,h=>by
  have Eb:Jd H=true:=by cases a<;>simp_all [Jd]
  exact MX Eb (by simpa using h)
def SwM(m m':List MB):Prop:=∀i:Nat,m'[i]? = m[i]?∨(∃c,m[i]? = some (.gu c)∧m'[i]? = some (.jA c))∨∃c,m[i]? = some (.jA c)∧m'[i]? = some (.gu c)
section
variable {m':List MB}
theorem VR.sw(hm:SwM m m')(hA:∀b,A b->B b){v:PV X.Γ}{x:TV}(hv:VR X P A m h v x):VR X P B m' h v x:=by
 have hl:∀{i:Nat} {x:TV},m[i]? = some (.dF x)->m'[i]? = some (.dF x):=fun{i x} e=>by
  rcases hm i with g|⟨c,g,_⟩|⟨c,g,_⟩
  .rw[g,e]
  .rw[e]at g;cases g
  rw[e]at g;cases g
 have hb:∀{i c:Nat},m[i]? = some (.gu c)->m'[i]? = some (.gu c)∨m'[i]? = some (.jA c):=fun{i c} e=>by
  rcases hm i with g|⟨c',g,g2⟩|⟨c',g,_⟩
  .exact .inl (by rw[g,e])
  .rw[e]at g;cases g;exact .inr g2
  rw[e]at g;cases g
 induction hv with
 |bool=>exact .bool _
 |lit=>exact .lit _
 |int=>exact .int _ _
 |str=>exact .str _
 |nil=>exact .nil _
 |ptr e=>rcases hb e with e|e;exact .ptr e;exact .gone rfl (.ofR e rfl) rfl
 |slc e=>rcases hb e with e|e;exact .slc e;exact .gone rfl (.ofR e rfl) rfl
 |own e o=>exact .own (hl e) o
 |win e q q' q2=>exact .win (hl e) q q' q2
 |AL e=>exact .AL (hl e)
 |map e=>rcases hb e with e|e;exact .map e;exact .gone rfl (.ofR e rfl) rfl
 |iter e=>rcases hb e with e|e;exact .iter e;exact .gone rfl (.ofR e rfl) rfl
 |fn h1 _ h3 _ i2 i4=>exact .fn h1 i2 h3 i4
 |kZ e=>rcases hb e with e|e;exact .kZ e;exact .gone rfl (.ofR e rfl) rfl
 |agg h1 _ i2=>exact .agg h1 i2
 |dM h1 _ i2=>exact .dM h1 i2
 |pz=>exact .pz
 |dF a c c2 s z o k f e _ ih=>exact .dF (hA _ a) c c2 s z o k f e ih
 |el a c l o e q _ ih=>exact .el (hA _ a) c l o e q ih
 |row e j q=>exact .row (hl e) j q
 | @gone v i x hi e o=>
  generalize hq:m[i]? = q at e;cases e with
  |g=>
   rcases hm i with g|⟨c,g,_⟩|⟨c,g,_⟩
   .exact .gone hi (.of (by rw[g,hq])) o
   .rw[hq]at g;cases g
   rw[hq]at g;cases g
  |r c hv=>
   rcases hm i with g|⟨c',g,_⟩|⟨c',g,g2⟩
   .exact .gone hi (.ofR (by rw[g,hq]) hv) o
   .rw[hq]at g;cases g
   rw[hq]at g;cases g;cases v<;>simp only[roV,a04]at hv<;>first|cases hv;done|skip
   all_goals (subst hv;simp only[bn,a04]at hi;subst hi)
   .exact .ptr g2
   .exact .slc g2
   .exact .map g2
   .exact .kZ g2
   exact .iter g2
theorem bY.sw(hm:SwM m m')(hA:∀b,A b->B b){v:List (PV X.Γ)}{x:List TV}(hv:bY X P A m h v x):bY X P B m' h v x:=
 ⟨hv.1,fun i a b ha hb=>(hv.2 i a b ha hb).sw hm hA⟩
theorem ku.sw(hm:SwM m m')(hA:∀b,A b->B b){v:List (Nat×PE X.Γ)}{x:List (Nat×EV)}(hv:ku X P A m h v x):ku X P B m' h v x:=by
 induction hv with
 |nil=>exact .nil
 |cons h1 _ ih=>
  refine .cons ?_ ih;rename_i v x _ _ _;cases v<;>cases x<;>first|exact VR.sw hm hA h1|exact h1|exact⟨VR.sw hm hA h1.1,h1.2⟩
theorem BR.sw(hm:SwM m m')(hA:∀b,A b->B b){b:PB X.Γ}{mb:MB}(hn:∀c,mb=.jA c->c∉bD m->c∉bD m')(hb:BR X P A m h b mb):BR X P B m' h b mb:=by
 cases b with
 |cells cs=>cases mb with
  |gu b=>obtain⟨cs',h1,h2⟩:=hb;exact⟨cs',h1,h2.sw hm hA⟩
  |_=>exact hb.elim
 |aF cs=>cases mb with
  |jA b=>obtain⟨h0,cs',h1,h2⟩:=hb;exact⟨hn b rfl h0,cs',h1,h2.sw hm hA⟩
  |_=>exact hb.elim
 |list k ex t l=>cases mb with
  |dF x=>
   cases(hb:LR X P A m h k ex t l x)with
   |nil=>exact LR.nil
   |emp h0 h1 h2 h3 h4=>exact LR.emp (hA _ h0) h1 h2 h3 h4
   |some h1 h2 h3 h4 h5 h6 h7 h8 h9=>exact LR.some h1 h2 h3 h4 h5 h6 h7 h8 ⟨h9.1,h9.2.1,fun j a i c v a1 a2 a3=>(h9.2.2 j a i c v a1 a2 a3).sw hm hA⟩
  |_=>exact hb.elim
 |map es=>cases mb with
  |gu b=>exact hb
  |_=>exact hb.elim
 |nK cs=>cases mb with
  |gu b=>exact hb
  |_=>exact hb.elim
 |iL es=>cases mb with
  |jA b=>exact⟨hn b rfl hb.1,hb.2⟩
  |_=>exact hb.elim
 |dn r n seen=>cases mb with
  |gu b=>
   obtain⟨c,h1,h2,h3⟩:=hb;refine⟨c,h1,?_,fun c' hc=>?_⟩
   .rcases hm r with g|⟨c',g,g2⟩|⟨c',g,g2⟩
    .rw[g];exact h2
    .rw[g2];rfl
    .rw[g2];rfl
   .rcases hm r with g|⟨c2,g,g2⟩|⟨c2,g,g2⟩
    .exact h3 c' (by rw[<-g];exact hc)
    .rw[g2]at hc;simp at hc;subst hc;exact h3 c2 (.inl g)
    .rw[g2]at hc;simp at hc;subst hc;exact h3 c2 (.inr g)
  |_=>exact hb.elim
 |mark=>cases mb with
  |gu b=>exact hb
  |_=>exact hb.elim
 |loop rd f nt env ps a c jP=>cases mb with
  |gu b=>obtain⟨e',h1,h2⟩:=hb;exact⟨e',h1,h2.sw hm hA⟩
  |_=>exact hb.elim
 |gone=>cases mb with
  |gone=>trivial
  |_=>exact hb.elim
end
theorem aeE{call:bf}{fv v:PV X.Γ}{xs:List (PV X.Γ)}{H H1:List (PB X.Γ)}{W:Nat->Prop}{r:Nat}{cs SI:List (PV X.Γ)}(h0:H[r]? = some (.cells cs))(h9:H1[r]? = some (.cells SI))(hro:Jd (H1.drop H.length)=true)
  (hs:Xk X P call fv xs (H.set r (.aF cs)) v (H1.set r (.aF SI)) W):Xk X P call fv xs H v H1 fun k=>W k∧k≠r:=fun A m h tf sJ hr hf hx=>by
 obtain⟨mb0,q1,q2⟩:=hr.at_ r _ h0;have hrl:r<H.length:=(a05.1 h0).1;have hrm:r<m.length:=by rw[hr.len];exact hrl
 cases mb0 with
 |gu c=>
  obtain⟨cs',q3,q4⟩:=q2;have G6:c∈bD m:=bg q1 rfl;have hch:=(a05.1 q3).1;have hm:SwM m (m.set r (.jA c)):=fun i=>by
   by_cases e:i=r
   .subst e;exact .inr (.inl ⟨c,q1,by rw[a1u hrm]⟩)
   .exact .inl (by rw[a0L (fun h=>e h.symm)])
  have old:∀{i b:Nat},Hw (m.set r (.jA c)) i b->i≠r∧Hw m i b:=fun{i b} ho=>by
   obtain⟨mb,a1,a2⟩:=ho;by_cases e:i=r
   .subst e;rw[a1u hrm]at a1;cases a1;cases a2
   .rw[a0L (fun h=>e h.symm)]at a1;exact⟨e,mb,a1,a2⟩
  have oZ:∀b,b∈bD (m.set r (.jA c))->b∈bD m∧b≠c:=fun b hb=>by
   obtain⟨i,hi⟩:=kL hb;obtain⟨e,mb,a1,a2⟩:=old hi;refine⟨bg a1 a2,fun e2=>?_⟩;subst e2;exact e (jf hr.nodup a1 q1 a2 rfl)
  have hA:∀b,AA A m b->AA (fun b=>A b∧b≠c) (m.set r (.jA c)) b:=fun b hb=>⟨⟨hb.1,fun e=>hb.2 (e▸G6)⟩,fun h=>hb.2 (oZ b h).1⟩;have wU:HR X P (fun b=>A b∧b≠c) (m.set r (.jA c)) (H.set r (.aF cs)) h:=by
   refine⟨by simp[hr.len],fun i b hi=>?_,jI fun i j d a1 a2=>?_,fun b hb=>⟨hr.up b hb,by omega⟩,fun b hb=>⟨hr.Di b (oZ b hb).1,(oZ b hb).2⟩⟩
   .by_cases e:i=r
    .subst e;rw[a1u hrl]at hi;cases hi;exact⟨.jA c,by rw[a1u hrm],fun h=>(oZ c h).2 rfl,cs',q3,q4.sw hm hA⟩
    .rw[a0L (fun h=>e h.symm)]at hi;obtain⟨mb,g1,g2⟩:=hr.at_ i b hi;exact⟨mb,by rw[a0L (fun h=>e h.symm)];exact g1,g2.sw hm hA fun d _ hn h=>hn (oZ d h).1⟩
   .obtain⟨_,ma,u1,u2⟩:=old a1;obtain⟨_,mc,v1,v2⟩:=old a2;exact jf hr.nodup u1 v1 u2 v2
  obtain⟨w,h1,ws,m1,c1,c2,c3,c4,c5,c6⟩:=hs (fun b=>A b∧b≠c) (m.set r (.jA c)) h tf sJ wU (hf.sw hm hA) (hx.sw hm hA)
  .have aeF:r<H1.length:=(a05.1 h9).1;obtain⟨mb1,e1,e2⟩:=c2.at_ r (.aF SI) (by rw[a1u aeF]);have e3:=c5 r (.jA c) (by rw[a1u hrm]);have e4:mb1=.jA c:=by
    rcases e3 with e3|e3<;>rw[e1]at e3<;>cases e3
    .rfl
    .exact e2.elim
   subst e4;obtain⟨p0,Xc,p1,p2⟩:=e2;have Jj:r<m1.length:=(a05.1 e1).1;have hm1:SwM m1 (m1.set r (.gu c)):=fun i=>by
    by_cases e:i=r
    .subst e;exact .inr (.inr ⟨c,e1,by rw[a1u Jj]⟩)
    .exact .inl (by rw[a0L (fun h=>e h.symm)])
   have at1:∀{i:Nat} {mb:MB},i≠r->(m1.set r (.gu c))[i]? = some mb->m1[i]? = some mb:=fun{i mb} e h=>by rw[a0L (fun h=>e h.symm)]at h;exact h
   have CV:∀b,b∈bD (m1.set r (.gu c))->b=c∨b∈bD m1:=fun b hb=>by
    obtain⟨i,mb,a1,a2⟩:=kL hb;by_cases e:i=r
    .subst e;rw[a1u Jj]at a1;cases a1;cases a2;exact .inl rfl
    .exact .inr (bg (at1 e a1) a2)
   have hA1:∀b,AA (fun b=>A b∧b≠c) m1 b->AA A (m1.set r (.gu c)) b:=fun b hb=>⟨hb.1.1,fun h=>by
    rcases CV b h with e|e
    .exact hb.1.2 e
    .exact hb.2 e⟩
   refine⟨w,h1,ws,m1.set r (.gu c),c1,⟨by rw[a4O,c2.len,a4O],fun i b hi=>?_,jI fun i j d a1 a2=>?_,fun b hb=>(c2.up b hb).1,fun b hb=>?_⟩,c3.sw hm1 hA1,⟨c4.len,fun b hb hn=>c4.same b hb fun h=>hn (oZ b h).1,fun b hb=>?_,c4.grow⟩,fun i mb hi=>?_,fun b hb=>?_⟩
   .by_cases e:i=r
    .subst e;rw[h9]at hi;cases hi;exact⟨.gu c,by rw[a1u Jj],Xc,p1,p2.sw hm1 hA1⟩
    .obtain⟨mb,g1,g2⟩:=c2.at_ i b (by rw[a0L (fun h=>e h.symm)];exact hi);refine⟨mb,by rw[a0L (fun h=>e h.symm)];exact g1,g2.sw hm1 hA1 fun d hd hn ZP=>?_⟩;subst hd;rcases CV d ZP with e5|e5
     .subst e5;rcases a4E i m.length with aQ|EX
      .have Kw:(m.set r (.jA d))[i]? = m[i]?:=(by rw[a0L (fun h=>e h.symm)]);have hmi:m[i]? = some (.jA d):=by
        rcases c5 i m[i] (by rw[Kw];exact a0b aQ)with e6|e6<;>rw[g1]at e6<;>simp only[a04]at e6
        .rw[a0b aQ,<-e6]
        .cases e6
       have hlH:i<H.length:=by rw[<-hr.len];exact aQ
       obtain⟨mb9,e7,e8⟩:=hr.at_ i _ (a0b hlH);rw[hmi]at e7;cases e7;generalize H[i]=b9 at e8;cases b9<;>first|exact e8.elim|exact e8.1 G6
      .have e6:(H1.drop H.length)[i-H.length]? = some b:=by rw[a4F,<-hi];congr 1;rw[hr.len]at EX;omega
       have e7:=MX hro e6;cases b<;>first|exact g2.elim|cases e7
     .exact hn e5
   .obtain⟨ma,u1,u2⟩:=a1;obtain⟨mc,v1,v2⟩:=a2;by_cases e:i=r<;>by_cases e':j=r
    .rw[e,e']
    .subst e;rw[a1u Jj]at u1;cases u1;cases u2;exact absurd (bg (at1 e' v1) v2) p0
    .subst e';rw[a1u Jj]at v1;cases v1;cases v2;exact absurd (bg (at1 e u1) u2) p0
    .exact jf c2.nodup (at1 e u1) (at1 e' v1) u2 v2
   .rcases CV b hb with e|e
    .subst e;exact hr.Di _ G6
    .exact(c2.Di b e).1
   .rcases CV b hb with e|e
    .subst e;exact .inl G6
    .rcases c4.new b e with g|g
     .exact .inl (oZ b g).1
     .exact .inr g
   .by_cases e:i=r
    .subst e;rw[q1]at hi;cases hi;exact .inl (by rw[a1u Jj])
    .rw[a0L (fun h=>e h.symm)];exact c5 i mb (by rw[a0L (fun h=>e h.symm)];exact hi)
   .obtain⟨k,k1,k2⟩:=c6 b hb;obtain⟨k3,k4⟩:=old k2;exact⟨k,⟨k1,k3⟩,k4⟩
 |_=>exact q2.elim
theorem aa9{call:bf}{fv v:PV X.Γ}{xs:List (PV X.Γ)}{H H1:List (PB X.Γ)}{W:Nat->Prop}{r:Nat}{es es1:List (PV X.Γ×PV X.Γ)}(h0:H[r]? = some (.map es))(h9:H1[r]? = some (.map es1))(hro:Jd (H1.drop H.length)=true)
  (hs:Xk X P call fv xs (H.set r (.iL es)) v (H1.set r (.iL es1)) W):Xk X P call fv xs H v H1 fun k=>W k∧k≠r:=fun A m h tf sJ hr hf hx=>by
 obtain⟨mb0,q1,q2⟩:=hr.at_ r _ h0;have hrl:r<H.length:=(a05.1 h0).1;have hrm:r<m.length:=by rw[hr.len];exact hrl
 cases mb0 with
 |gu c=>
  obtain⟨cs',q3,q4⟩:=q2;have G6:c∈bD m:=bg q1 rfl;have hch:=(a05.1 q3).1;have hm:SwM m (m.set r (.jA c)):=fun i=>by
   by_cases e:i=r
   .subst e;exact .inr (.inl ⟨c,q1,by rw[a1u hrm]⟩)
   .exact .inl (by rw[a0L (fun h=>e h.symm)])
  have old:∀{i b:Nat},Hw (m.set r (.jA c)) i b->i≠r∧Hw m i b:=fun{i b} ho=>by
   obtain⟨mb,a1,a2⟩:=ho;by_cases e:i=r
   .subst e;rw[a1u hrm]at a1;cases a1;cases a2
   .rw[a0L (fun h=>e h.symm)]at a1;exact⟨e,mb,a1,a2⟩
  have oZ:∀b,b∈bD (m.set r (.jA c))->b∈bD m∧b≠c:=fun b hb=>by
   obtain⟨i,hi⟩:=kL hb;obtain⟨e,mb,a1,a2⟩:=old hi;refine⟨bg a1 a2,fun e2=>?_⟩;subst e2;exact e (jf hr.nodup a1 q1 a2 rfl)
  have hA:∀b,AA A m b->AA (fun b=>A b∧b≠c) (m.set r (.jA c)) b:=fun b hb=>⟨⟨hb.1,fun e=>hb.2 (e▸G6)⟩,fun h=>hb.2 (oZ b h).1⟩;have wU:HR X P (fun b=>A b∧b≠c) (m.set r (.jA c)) (H.set r (.iL es)) h:=by
   refine⟨by simp[hr.len],fun i b hi=>?_,jI fun i j d a1 a2=>?_,fun b hb=>⟨hr.up b hb,by omega⟩,fun b hb=>⟨hr.Di b (oZ b hb).1,(oZ b hb).2⟩⟩
   .by_cases e:i=r
    .subst e;rw[a1u hrl]at hi;cases hi;exact⟨.jA c,by rw[a1u hrm],fun h=>(oZ c h).2 rfl,cs',q3,q4⟩
    .rw[a0L (fun h=>e h.symm)]at hi;obtain⟨mb,g1,g2⟩:=hr.at_ i b hi;exact⟨mb,by rw[a0L (fun h=>e h.symm)];exact g1,g2.sw hm hA fun d _ hn h=>hn (oZ d h).1⟩
   .obtain⟨_,ma,u1,u2⟩:=old a1;obtain⟨_,mc,v1,v2⟩:=old a2;exact jf hr.nodup u1 v1 u2 v2
  obtain⟨w,h1,ws,m1,c1,c2,c3,c4,c5,c6⟩:=hs (fun b=>A b∧b≠c) (m.set r (.jA c)) h tf sJ wU (hf.sw hm hA) (hx.sw hm hA)
  .have aeF:r<H1.length:=(a05.1 h9).1;obtain⟨mb1,e1,e2⟩:=c2.at_ r (.iL es1) (by rw[a1u aeF]);have e3:=c5 r (.jA c) (by rw[a1u hrm]);have e4:mb1=.jA c:=by
    rcases e3 with e3|e3<;>rw[e1]at e3<;>cases e3
    .rfl
    .exact e2.elim
   subst e4;obtain⟨p0,Xc,p1,p2⟩:=e2;have Jj:r<m1.length:=(a05.1 e1).1;have hm1:SwM m1 (m1.set r (.gu c)):=fun i=>by
    by_cases e:i=r
    .subst e;exact .inr (.inr ⟨c,e1,by rw[a1u Jj]⟩)
    .exact .inl (by rw[a0L (fun h=>e h.symm)])
   have at1:∀{i:Nat} {mb:MB},i≠r->(m1.set r (.gu c))[i]? = some mb->m1[i]? = some mb:=fun{i mb} e h=>by rw[a0L (fun h=>e h.symm)]at h;exact h
   have CV:∀b,b∈bD (m1.set r (.gu c))->b=c∨b∈bD m1:=fun b hb=>by
    obtain⟨i,mb,a1,a2⟩:=kL hb;by_cases e:i=r
    .subst e;rw[a1u Jj]at a1;cases a1;cases a2;exact .inl rfl
    .exact .inr (bg (at1 e a1) a2)
   have hA1:∀b,AA (fun b=>A b∧b≠c) m1 b->AA A (m1.set r (.gu c)) b:=fun b hb=>⟨hb.1.1,fun h=>by
    rcases CV b h with e|e
    .exact hb.1.2 e
    .exact hb.2 e⟩
   refine⟨w,h1,ws,m1.set r (.gu c),c1,⟨by rw[a4O,c2.len,a4O],fun i b hi=>?_,jI fun i j d a1 a2=>?_,fun b hb=>(c2.up b hb).1,fun b hb=>?_⟩,c3.sw hm1 hA1,⟨c4.len,fun b hb hn=>c4.same b hb fun h=>hn (oZ b h).1,fun b hb=>?_,c4.grow⟩,fun i mb hi=>?_,fun b hb=>?_⟩
   .by_cases e:i=r
    .subst e;rw[h9]at hi;cases hi;exact⟨.gu c,by rw[a1u Jj],Xc,p1,p2⟩
    .obtain⟨mb,g1,g2⟩:=c2.at_ i b (by rw[a0L (fun h=>e h.symm)];exact hi);refine⟨mb,by rw[a0L (fun h=>e h.symm)];exact g1,g2.sw hm1 hA1 fun d hd hn ZP=>?_⟩;subst hd;rcases CV d ZP with e5|e5
     .subst e5;rcases a4E i m.length with aQ|EX
      .have Kw:(m.set r (.jA d))[i]? = m[i]?:=(by rw[a0L (fun h=>e h.symm)]);have hmi:m[i]? = some (.jA d):=by
        rcases c5 i m[i] (by rw[Kw];exact a0b aQ)with e6|e6<;>rw[g1]at e6<;>simp only[a04]at e6
        .rw[a0b aQ,<-e6]
        .cases e6
       have hlH:i<H.length:=by rw[<-hr.len];exact aQ
       obtain⟨mb9,e7,e8⟩:=hr.at_ i _ (a0b hlH);rw[hmi]at e7;cases e7;generalize H[i]=b9 at e8;cases b9<;>first|exact e8.elim|exact e8.1 G6
      .have e6:(H1.drop H.length)[i-H.length]? = some b:=by rw[a4F,<-hi];congr 1;rw[hr.len]at EX;omega
       have e7:=MX hro e6;cases b<;>first|exact g2.elim|cases e7
     .exact hn e5
   .obtain⟨ma,u1,u2⟩:=a1;obtain⟨mc,v1,v2⟩:=a2;by_cases e:i=r<;>by_cases e':j=r
    .rw[e,e']
    .subst e;rw[a1u Jj]at u1;cases u1;cases u2;exact absurd (bg (at1 e' v1) v2) p0
    .subst e';rw[a1u Jj]at v1;cases v1;cases v2;exact absurd (bg (at1 e u1) u2) p0
    .exact jf c2.nodup (at1 e u1) (at1 e' v1) u2 v2
   .rcases CV b hb with e|e
    .subst e;exact hr.Di _ G6
    .exact(c2.Di b e).1
   .rcases CV b hb with e|e
    .subst e;exact .inl G6
    .rcases c4.new b e with g|g
     .exact .inl (oZ b g).1
     .exact .inr g
   .by_cases e:i=r
    .subst e;rw[q1]at hi;cases hi;exact .inl (by rw[a1u Jj])
    .rw[a0L (fun h=>e h.symm)];exact c5 i mb (by rw[a0L (fun h=>e h.symm)];exact hi)
   .obtain⟨k,k1,k2⟩:=c6 b hb;obtain⟨k3,k4⟩:=old k2;exact⟨k,⟨k1,k3⟩,k4⟩
 |_=>exact q2.elim
theorem ZQ{call:bf}{fv v:PV X.Γ}{xs:List (PV X.Γ)}{W:Nat->Prop}:∀{rs:List Nat} {H H1 Hr Qy:List (PB X.Γ)},roB rs H H1=some (Hr,Qy)->Jd (H1.drop H.length)=true->Xk X P call fv xs Hr v Qy W->Xk X P call fv xs H v H1 fun k=>W k∧k∉rs
 | [],H,H1,Hr,Qy,h1,hn,hs=>by
  simp only[roB,a04,a0w]at h1;obtain⟨rfl,rfl⟩:=h1;intro A m h tf sJ a b c;obtain⟨w,h1,ws,m1,c1,c2,c3,c4,c5,c6⟩:=hs A m h tf sJ a b c;exact⟨w,h1,ws,m1,c1,c2,c3,c4,c5,fun b hb=>by obtain⟨k,k1,k2⟩:=c6 b hb;exact⟨k,⟨k1,by simp⟩,k2⟩⟩
 |r::rs,H,H1,Hr,Qy,h1,hn,hs=>by
  simp only[roB]at h1;split at h1
  .rename_i cs SI e1 e2;have aQ:r<H.length:=(a05.1 e1).1;have:=aeE e1 e2 hn (ZQ h1 (by rw[a4O,List.drop_set_of_lt aQ];exact hn) hs);intro A m h tf sJ a b c;obtain⟨w,h1,ws,m1,c1,c2,c3,c4,c5,c6⟩:=this A m h tf sJ a b c;exact⟨w,h1,ws,m1,c1,c2,c3,c4,c5,fun b hb=>by obtain⟨k,⟨⟨k1,k3⟩,k4⟩,k2⟩:=c6 b hb;exact⟨k,⟨k1,by simp[k3,k4]⟩,k2⟩⟩
  .rename_i cs SI e1 e2;have aQ:r<H.length:=(a05.1 e1).1;have:=aa9 e1 e2 hn (ZQ h1 (by rw[a4O,List.drop_set_of_lt aQ];exact hn) hs);intro A m h tf sJ a b c;obtain⟨w,h1,ws,m1,c1,c2,c3,c4,c5,c6⟩:=this A m h tf sJ a b c;exact⟨w,h1,ws,m1,c1,c2,c3,c4,c5,fun b hb=>by obtain⟨k,⟨⟨k1,k3⟩,k4⟩,k2⟩:=c6 b hb;exact⟨k,⟨k1,by simp[k3,k4]⟩,k2⟩⟩
  cases h1
theorem Xl{α:Type}{rs:List Nat}:∀{ks:List α} {i p:Nat} {k:α},ks[p]? = some k->i+p∉rs->k∈a3i rs i ks
 | [],_,_,_,h,_=>by simp at h
 |a::ks,i,0,k,h,hn=>by
  simp only[a2F,a04]at h;subst h;simp only[a3i];rw[a0o (by simpa using hn)];exact a2S
 |a::ks,i,p+1,k,h,hn=>by
  have:=Xl (ks:=ks) (i:=i+1) (p:=p) (k:=k) (by simpa using h) (by rwa [Nat.add_right_comm,aa0] );simp only[a3i];split
  .exact this
  exact a2U _ this
theorem Jk(hX:bP X P){call:bf}{ks:List Nat}{H' Hp H H1 Qy:List (PB X.Γ)}{fv fv' v v':PV X.Γ}{xs xs':List (PV X.Γ)}{W:Nat->Prop}(hs:Xk X P call fv xs H v H1 W)
  (jH:ks.Nodup) (hp:Dc H' ks=some Hp) (hH:o8 (wW ks) Hp=some H) (hf:fK (wW ks) fv'=some fv) (hx:fK.pR (wW ks) xs'=some xs)
  (hv:fK (bk ks H'.length) v=some v') (hH1:o8 (bk ks H'.length) H1=some Qy) (hro:Jd (H1.drop ks.length)=true) :
  ∀(A:Nat->Prop) (m':List MB) (h:List HB) (tf:TV) (sJ:List TV),HR X P A m' H' h->VR X P (AA A m') m' h fv' tf->bY X P (AA A m') m' h xs' sJ ->
  ∃w h1 ws m1,call tf sJ h=some (w,h1,ws)∧HR X P A m1 (putAt ks Qy H'++Qy.drop ks.length) h1∧VR X P (AA A m1) m1 h1 v' w∧Fr m' h m1 h1∧Up m' m1∧∀b∈ws,∃p k,ks[p]? = some k∧W p∧Hw m' k b:=by
 intro A m' h tf sJ hr hf' FH;have hpg:=Eo hp;have hHg:=tV hH;have hkH:∀{p k:Nat},ks[p]? = some k->k<m'.length:=fun{p k} hk=>by
  obtain⟨b,q1,_⟩:=hpg.2 hk;rw[hr.len];exact(a05.1 q1).1
 have hkm:∀k∈ks,k<m'.length:=fun k hk=>by
  obtain⟨i,hi⟩:=a8K hk;exact hkH hi
 let m:List MB:=ks.map fun k=>m'.getD k .gone
 have hm:∀{p k:Nat},ks[p]? = some k->m[p]? = m'[k]?:=fun{p k} hk=>by
  show(ks.map _)[p]? = _;rw[a4H,hk];have:=hkH hk;simp[a2K,this]
 have a6y:m.length=ks.length:=a4K ..;have SS:∀{p:Nat} {mb:MB},m[p]? = some mb->∃k,ks[p]? = some k∧m'[k]? = some mb:=fun{p mb} hpm=>by
  have:p<ks.length:=by rw[<-a6y];exact(a05.1 hpm).1
  have hk:=a0b this;exact⟨_,hk,by rw[<-hm hk];exact hpm⟩
 have oZ:∀b,b∈bD m->b∈bD m':=fun b hb=>by
  obtain⟨j,mb,q1,q2⟩:=kL hb;obtain⟨k,_,q3⟩:=SS q1;exact bg q3 q2
 have aeG:∀{i:Nat} {mb:MB} {b:Nat},i∉ks->m'[i]? = some mb->mb.own=some b->b∉bD m:=fun{i mb b} hi h1 h2 hb=>by
  obtain⟨j,mc,q1,q2⟩:=kL hb;obtain⟨k,q3,q4⟩:=SS q1;have:=jf hr.nodup h1 q4 h2 q2;subst this;exact hi (a4N q3)
 let A2:Nat->Prop:=fun b=>A b∧(b∈bD m'->b∈bD m)
 have hA:∀b,AA A m' b->AA A2 m b:=fun b hb=>⟨⟨hb.1,fun h9=>absurd h9 hb.2⟩,fun h9=>hb.2 (oZ b h9)⟩;have hg:∀i j,wW ks i=some j->m[j]? = m'[i]?:=fun i j Am=>hm (OY Am);have wU:HR X P A2 m H h:=by
  refine⟨by rw[a6y,hHg.1,hpg.1],fun j b hj=>?_,jI fun i j c q1 q2=>?_,fun b hb=>⟨hr.up b hb,fun h9=>absurd (hr.inb h9) (by omega)⟩,fun b hb=>⟨hr.Di b (oZ b hb),fun _=>hb⟩⟩
  .obtain⟨b0,q1,q2⟩:=hHg.2 hj;have sG:j<ks.length:=by rw[<-hpg.1];exact(a05.1 q1).1
   have hk:=a0b sG;obtain⟨b9,q5,q6⟩:=hpg.2 hk;rw[q1]at q6;cases q6;obtain⟨mb,q3,q4⟩:=hr.at_ _ _ q5;exact⟨mb,by rw[hm hk];exact q3,En hX hg hA (fun c _ h9 h8=>h9 (oZ c h8)) q4 q2⟩
  .obtain⟨ma,a1,a2⟩:=q1;obtain⟨mc,c1,c2⟩:=q2;obtain⟨k,a3,a4⟩:=SS a1;obtain⟨l,c3,c4⟩:=SS c1;have e:=jf hr.nodup a4 c4 a2 c2;subst e;exact(List.getElem?_inj (a05.1 a3).1 jH).1 (by rw[a3,c3])
 obtain⟨w,h1,ws,m1,c1,c2,c3,c4,c5,c6⟩:=hs A2 m h tf sJ wU (Em hg hA hX hf' hf) (zH hX hg hA FH hx);have a6z:ks.length<=m1.length:=by
  rcases abg ks.length with e|e
  .omega
  .have aQ:ks.length-1<m.length:=(by omega);have:=c5 (ks.length-1) m[ks.length-1] (a0b aQ);rcases this with g|g<;>(have:=(a05.1 g).1;omega)
 let m1':List MB:=putAt ks m1 m'++m1.drop ks.length
 have hn:m'.length=H'.length:=hr.len;have aac:(putAt ks m1 m').length=m'.length:=tX;have a1v:∀{p k:Nat},ks[p]? = some k->m1'[k]? = m1[p]?:=fun{p k} hk=>by
  show(putAt ks m1 m'++_)[k]? = _;rw[a0g (by rw[aac];exact hkH hk),P6 jH hkm a6z hk]
 have ZR:∀{i:Nat},i<m'.length->i∉ks->m1'[i]? = m'[i]?:=fun{i} hi hk=>by
  show(putAt ks m1 m'++_)[i]? = _;rw[a0g (by rw[aac];exact hi),Ji hk]
 have ZT:∀{j:Nat},ks.length<=j->m1'[m'.length+(j-ks.length)]? = m1[j]?:=fun{j} hj=>by
  show(putAt ks m1 m'++_)[_]? = _;rw[a0G (by rw[aac];omega),aac,Nat.add_sub_cancel_left,a4F];congr 1;omega
 have hgb:∀j i,bk ks H'.length j=some i->m1'[i]? = m1[j]?:=fun j i Am=>by
  unfold bk at Am;split at Am
  .rename_i k hk;cases Am;exact a1v hk
  .rename_i hk;cases Am;rw[<-hn];exact ZT (by rw[List.getElem?_eq_none_iff]at hk;exact hk)
 have vI:∀{i:Nat} {mb:MB},m1'[i]? = some mb->(∃p,ks[p]? = some i∧m1[p]? = some mb)∨(i<m'.length∧i∉ks∧m'[i]? = some mb)∨(∃j,ks.length<=j∧i=m'.length+(j-ks.length)∧m1[j]? = some mb):=fun{i mb} hi=>by
  rcases a4E i m'.length with aQ|EX
  .by_cases hk:i∈ks
   .obtain⟨p,hp⟩:=a8K hk;exact .inl ⟨p,hp,by rw[<-a1v hp];exact hi⟩
   .exact .inr (.inl ⟨aQ,hk,by rw[<-ZR aQ hk];exact hi⟩)
  .refine .inr (.inr ⟨i-m'.length+ks.length,by omega,by omega,?_⟩);rw[<-ZT (by omega)];rw[<-hi];congr 1;omega
 have zl:∀{b:Nat},b∈bD m1'->b∈bD m1∨∃i mb,i∉ks∧m'[i]? = some mb∧mb.own=some b:=fun{b} hb=>by
  obtain⟨i,mb,q1,q2⟩:=kL hb;rcases vI q1 with⟨p,_,q3⟩|⟨_,q3,q4⟩|⟨j,_,_,q3⟩
  .exact .inl (bg q3 q2)
  .exact .inr ⟨i,mb,q3,q4,q2⟩
  .exact .inl (bg q3 q2)
 have aad:∀{i b:Nat} {mb:MB},i∉ks->m'[i]? = some mb->mb.own=some b->b∉bD m1:=fun{i b mb} h1 h2 h3 h4=>by
  rcases c4.new b h4 with g|g
  .exact aeG h1 h2 h3 g
  .exact absurd (hr.inb (bg h2 h3)) (by omega)
 have hA3:∀b,AA A2 m1 b->AA A m1' b:=fun b hb=>⟨hb.1.1,fun h9=>by
  rcases zl h9 with g|⟨i,mb,g1,g2,g3⟩
  .exact hb.2 g
  .exact aeG g1 g2 g3 (hb.1.2 (bg g2 g3))⟩
 have hF:Fr m' h m1' h1:=⟨c4.len,fun b hb hnb=>c4.same b hb fun h9=>hnb (oZ b h9),fun b hb=>by
  rcases zl hb with g|⟨i,mb,g1,g2,g3⟩
  .rcases c4.new b g with g|g
   .exact .inl (oZ b g)
   .exact .inr g
  .exact .inl (bg g2 g3),c4.grow⟩
 have hU:Up m' m1':=fun i mb hi=>by
  have aQ:=(a05.1 hi).1;by_cases hk:i∈ks
  .obtain⟨p,hp⟩:=a8K hk;rw[a1v hp];exact c5 p mb (by rw[hm hp];exact hi)
  .exact .inl (by rw[ZR aQ hk];exact hi)
 have aeH:=tV hH1;have aix:m1.length=H1.length:=c2.len;refine⟨w,h1,ws,m1',c1,⟨?_,fun i b hi=>?_,?_,fun b hb=>(c2.up b hb).1,fun b hb=>?_⟩,Em hgb hA3 hX c3 hv,hF,hU,fun b hb=>?_⟩
 .show(putAt ks m1 m'++_).length=_;rw[a1t,a1t,tX,tX,a3C,a3C,aeH.1,aix,hn]
 .have aiy:ks.length<=Qy.length:=by rw[aeH.1,<-aix];exact a6z
  have aon:∀k∈ks,k<H'.length:=fun k hk=>by rw[<-hn];exact hkm k hk
  have back:∀{j:Nat} {b:PB X.Γ},Qy[j]? = some b->∃mb,m1[j]? = some mb∧BR X P (AA A m1') m1' h1 b mb:=fun{j b} hj=>by
   obtain⟨b0,q1,q2⟩:=aeH.2 hj;obtain⟨mb,q3,q4⟩:=c2.at_ j b0 q1;refine⟨mb,q3,En hX hgb hA3 (fun c e h9 h8=>?_) q4 q2⟩;rcases zl h8 with g|⟨i,MP,g1,g2,g3⟩
   .exact h9 g
   .subst e;rcases a4E j ks.length with hj1|hj1
    .have hk:=a0b hj1;have sG:j<m.length:=by rw[a6y];exact hj1
     have hmj:m[j]? = some (.jA c):=by
      rcases c5 j _ (a0b sG)with e|e<;>rw[q3]at e<;>simp only[a04]at e
      .rw[a0b sG,<-e]
      .cases e
     obtain⟨k,e1,e2⟩:=SS hmj;obtain⟨b9,e3,_⟩:=hpg.2 e1;obtain⟨mb9,e4,e5⟩:=hr.at_ _ _ e3;rw[e2]at e4;cases e4;cases b9<;>first|exact e5.elim|exact e5.1 (bg g2 g3)
    .have e1:(H1.drop ks.length)[j-ks.length]? = some b0:=by rw[a4F,<-q1];congr 1;omega
     have e2:=MX hro e1;cases b0<;>first|exact q4.elim|cases e2
  rcases a4E i H'.length with aQ|EX
  .rw[a0g (by rw[tX];exact aQ)]at hi;by_cases hk:i∈ks
   .obtain⟨p,hpk⟩:=a8K hk;rw[P6 jH aon aiy hpk]at hi;obtain⟨mb,q1,q2⟩:=back hi;exact⟨mb,by rw[a1v hpk];exact q1,q2⟩
   .rw[Ji hk]at hi;obtain⟨mb,q1,q2⟩:=hr.at_ i b hi;refine⟨mb,by rw[ZR (by rw[hn];exact aQ) hk];exact q1,q2.step hF hU fun c hc=>?_⟩;exact c4.same c (hr.inb (bg q1 hc)) (aeG hk q1 hc)
  .rw[a0G (by rw[tX];exact EX),tX,a4F]at hi;obtain⟨mb,q1,q2⟩:=back hi;refine⟨mb,?_,q2⟩;have:=ZT (j:=ks.length+(i-H'.length)) (by omega);rw[q1]at this;rw[<-this];congr 1;omega
 .refine jI fun i j c q1 q2=>?_;obtain⟨ma,a1,a2⟩:=q1;obtain⟨mc,b1,b2⟩:=q2;rcases vI a1 with⟨p,a3,a4⟩|⟨a3,a4,a5⟩|⟨p,a3,a4,a5⟩<;>rcases vI b1 with⟨q,b3,b4⟩|⟨b3,b4,b5⟩|⟨q,b3,b4,b5⟩
  .have:=jf c2.nodup a4 b4 a2 b2;subst this;rw[a3]at b3;cases b3;rfl
  .exact absurd (bg a4 a2) (aad b4 b5 b2)
  .have:=jf c2.nodup a4 b5 a2 b2;subst this;have:=(a05.1 a3).1;omega
  .exact absurd (bg b4 b2) (aad a4 a5 a2)
  .exact jf hr.nodup a5 b5 a2 b2
  .exact absurd (bg b5 b2) (aad a4 a5 a2)
  .have:=jf c2.nodup a5 b4 a2 b2;subst this;have:=(a05.1 b3).1;omega
  .exact absurd (bg a5 a2) (aad b4 b5 b2)
  .have:=jf c2.nodup a5 b5 a2 b2;subst this;omega
 .rcases zl hb with g|⟨i,mb,g1,g2,g3⟩
  .exact(c2.Di b g).1
  .exact hr.Di b (bg g2 g3)
 .obtain⟨j,hw,mb,q1,q2⟩:=c6 b hb;obtain⟨k,q3,q4⟩:=SS q1;exact⟨j,k,q3,hw,mb,q4,q2⟩
end
end Pv
