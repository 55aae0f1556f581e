/- Part 3 of a proof: ApplyLeft -/
import Derived.Test.YtmobpoiejckagaaGreatP01
set_option linter.constructorNameAsVariable false
set_option linter.unusedVariables false
set_option linter.unusedSimpArgs false
set_option linter.unusedSectionVars false
noncomputable section
namespace Pv
open Go Tw
section
variable {X:kX} {P:LI1} {A:Nat->Prop} {m m':List MB} {h h':List HB} {H H':List (PB X.Γ)}
theorem HR.next(hr:HR X P A m H h)(hF:Fr m h m' h')(hU:Up m m')(hl:m'.length=H'.length)(hn:(bg m').Nodup)
  (IY:∀(i:Nat) b,H'[i]? = some b->(∃mb,H[i]? = some b∧m[i]? = some mb∧m'[i]? = some mb∧∀c,mb.own=some c->h'[c]? = h[c]?)∨∃mb,m'[i]? = some mb∧BR X P (AA A m') m' h' b mb):HR X P A m' H' h':=by
 refine⟨hl,fun i b hb=>?_,hn,fun b hb=>hr.up b (by have:=hF.len;omega),fun b hb=>?_⟩
 .rcases IY i b hb with⟨mb,h1,h2,h3,h4⟩|h1
  .obtain⟨MS,g1,g2⟩:=hr.at_ i b h1;rw[h2]at g1;cases g1;exact⟨mb,h3,g2.step hF hU h4⟩
  .exact h1
 .rcases hF.new b hb with h1|h1
  .exact hr.Df b h1
  .exact hr.up b h1
theorem BR.has{B:Nat->Prop}{b:PB X.Γ}{mb:MB}{c:Nat}(hb:BR X P B m h b mb)(ho:mb.own=some c):c<h.length:=by
 have key:∀{y},h[c]? = some y->c<h.length:=fun e=>(a0h.1 e).1;cases b with
 |cells cs=>
  cases mb with
  |gq b=>cases ho;obtain⟨_,h1,_⟩:=hb;exact key h1
  |_=>exact hb.elim
 |aF cs=>
  cases mb with
  |jA b=>cases ho
  |_=>exact hb.elim
 |list k ex t l=>
  cases mb with
  |dF x=>
   cases(hb:LR X P B m h k ex t l x)with
   |nil=>cases ho
   |emp=>simp[MB.own]at ho
   |some h1 _ _ h4=>
    simp only[MB.own]at ho;split at ho
    .cases ho
    cases ho;exact key h4
  |_=>exact hb.elim
 |map es=>
  cases mb with
  |gq b=>cases ho;obtain⟨_,h1,_⟩:=hb;exact key h1
  |_=>exact hb.elim
 |ny cs=>
  cases mb with
  |gq b=>cases ho;obtain⟨_,h1,_⟩:=hb;exact key h1
  |_=>exact hb.elim
 |iG es=>
  cases mb with
  |jA b=>cases ho
  |_=>exact hb.elim
 |dn r n seen=>
  cases mb with
  |gq b=>cases ho;obtain⟨_,h1,_⟩:=hb;exact key h1
  |_=>exact hb.elim
 |mark=>
  cases mb with
  |gq b=>cases ho;exact key hb
  |_=>exact hb.elim
 |loop=>
  cases mb with
  |gq b=>cases ho;obtain⟨_,h1,_⟩:=hb;exact key h1
  |_=>exact hb.elim
 |gone=>
  cases mb with
  |gone=>cases ho
  |_=>exact hb.elim
theorem HR.inb(hr:HR X P A m H h){c:Nat}(hc:c∈bg m):c<h.length:=by
 obtain⟨mb,hm,ho⟩:=a6C.1 hc;obtain⟨i,hi⟩:=a8X hm;have:i<H.length:=by rw[<-hr.len];exact(a0h.1 hi).1
 obtain⟨MS,h1,h2⟩:=hr.at_ i H[i] (a0q this);rw[hi]at h1;cases h1;exact h2.has ho
theorem jh(a b:List MB):bg (a++b)=bg a++bg b:=List.filterMap_append ..
theorem kJ(mb:MB):bg [mb]=mb.own.toList:=by unfold bg;simp[a9v];cases mb.own<;>rfl
theorem wR(ms:List MB):Up m (m++ms):=fun i mb hi=>.inl (by rw[a0C (a0h.1 hi).1];exact hi)
theorem HR.push(hr:HR X P A m H h){pb:PB X.Γ}{hb:HB}{mb:MB}(ho:mb.own=some h.length∨mb.own=none)(qN:BR X P (AA A (m++[mb])) (m++[mb]) (h++[hb]) pb mb) :
  HR X P A (m++[mb]) (H++[pb]) (h++[hb])∧Fr m h (m++[mb]) (h++[hb])∧Up m (m++[mb]):=by
 have hF:Fr m h (m++[mb]) (h++[hb]):=by
  refine⟨by simp,fun b hb _=>by rw[a0C hb],fun b hb=>?_,fun b cs hc=>⟨cs,?_,a0P _⟩⟩
  .rw[jh,a3P,kJ]at hb;rcases hb with hb|hb
   .exact .inl hb
   .rcases ho with ho|ho<;>rw[ho]at hb<;>simp at hb
    exact .inr (by omega)
  .rw[fP (a0C (fM hc)),hc]
 refine⟨hr.next hF (wR _) (by simp[hr.len]) ?_ fun i b hi=>?_,hF,wR _⟩
 .rw[jh,kJ];refine a9l.2 ⟨hr.nodup,?_,?_⟩
  .cases mb.own<;>simp
  .intro a ha b hb e;subst e;have:=hr.inb ha;rcases ho with ho|ho<;>rw[ho]at hb<;>simp at hb
   omega
 .rcases a4N i H.length with aT|EW
  .left;rw[a0C aT]at hi;obtain⟨MS,h1,h2⟩:=hr.at_ i b hi;refine⟨MS,hi,h1,by rw[a0C (by rw[hr.len];exact aT)];exact h1,fun c hc=>?_⟩;rw[a0C (h2.has hc)]
  .right;rw[a0T EW]at hi;have:i-H.length=0:=by
    rcases abu (i-H.length)with h|h
    .exact h
    .rw[a4L (by simp;omega)]at hi;cases hi
   rw[this]at hi;simp only[a2Z,a0d]at hi;subst hi;exact⟨mb,by rw[a0T (by rw[hr.len];exact EW),hr.len,this];rfl,qN⟩
theorem HR.acG(hr:HR X P A m H h){pb:PB X.Γ}{mb:MB}(ho:mb.own=none)(qN:BR X P (AA A (m++[mb])) (m++[mb]) h pb mb) :
  HR X P A (m++[mb]) (H++[pb]) h∧Fr m h (m++[mb]) h∧Up m (m++[mb]):=by
 have zk:bg (m++[mb])=bg m:=by rw[jh,kJ,ho];simp
 have hF:Fr m h (m++[mb]) h:=⟨a0P _,fun _ _ _=>rfl,fun b hb=>.inl (zk▸hb),fun b cs hc=>⟨cs,hc,a0P _⟩⟩;refine⟨hr.next hF (wR _) (by simp[hr.len]) (by rw[zk];exact hr.nodup) fun i b hi=>?_,hF,wR _⟩;rcases a4N i H.length with aT|EW
 .left;rw[a0C aT]at hi;obtain⟨MS,h1,h2⟩:=hr.at_ i b hi;exact⟨MS,hi,h1,by rw[a0C (by rw[hr.len];exact aT)];exact h1,fun c hc=>rfl⟩
 .right;rw[a0T EW]at hi;have:i-H.length=0:=by
   rcases abu (i-H.length)with h|h
   .exact h
   .rw[a4L (by simp;omega)]at hi;cases hi
  rw[this]at hi;simp only[a2Z,a0d]at hi;subst hi;exact⟨mb,by rw[a0T (by rw[hr.len];exact EW),hr.len,this];rfl,qN⟩
theorem HR.set(hr:HR X P A m H h){i c:Nat}{mb:MB}{pb:PB X.Γ}{hb:HB}(hi:m[i]? = some mb)(ho:mb.own=some c)(hg:∀cs,aW h c=some cs->∃cs',aW (h.set c hb) c=some cs'∧cs.length<=cs'.length)
  (qN:Fr m h m (h.set c hb)->BR X P (AA A m) m (h.set c hb) pb mb):HR X P A m (H.set i pb) (h.set c hb)∧Fr m h m (h.set c hb):=by
 have hF:Fr m h m (h.set c hb):=by
  refine⟨by simp,fun b hb hn=>?_,fun b hb=>.inl hb,fun b cs hc=>?_⟩
  .rw[a1B];intro e;subst e;exact hn (bf hi ho)
  .by_cases e:c=b
   .subst e;exact hg cs hc
   .exact⟨cs,by rw[fP (a1B e),hc],a0P _⟩
 refine⟨hr.next hF .refl (by simp[hr.len]) hr.nodup fun j b hj=>?_,hF⟩;by_cases e:i=j
 .subst e;rw[a4Q ]at hj;right;have:H[i]?.isSome:=by
   have:i<H.length:=by rw[<-hr.len];exact(a0h.1 hi).1
   simp[this]
  obtain⟨y,hy⟩:=a5r.1 this;rw[hy]at hj;cases hj;exact⟨mb,hi,qN hF⟩
 .rw[a1B e]at hj;left;obtain⟨MS,h1,h2⟩:=hr.at_ j b hj;refine⟨MS,hj,h1,h1,fun d hd=>a1B fun e2=>?_⟩;subst e2;exact e (jc hr.nodup hi h1 ho hd)
theorem Fh{i:Nat}:∀{m:List MB} {b:Nat},b∈bg (m.set i .gone)->b∈bg m:=by
 intro m b hb;obtain⟨mb,hm,ho⟩:=a6C.1 hb;obtain⟨j,hj⟩:=a8X hm;by_cases e:i=j
 .subst e;rw[a4Q]at hj;cases hx:m[i]? with
  |none=>rw[hx]at hj;cases hj
  |some y=>rw[hx]at hj;cases hj;cases ho
 rw[a1B e]at hj;exact bf hj ho
theorem OG{i:Nat}:∀{m:List MB},(bg m).Nodup->(bg (m.set i .gone)).Nodup:=by
 unfold bg;intro m
 induction m generalizing i with
 |nil=>intro h;simp
 |cons x r ih=>
  intro hn;cases i with
  |zero=>
   simp only[List.set_cons_zero,a9v,MB.own];simp only[a9v]at hn;split at hn
   .exact hn
   exact(a4U.1 hn).2
  |succ i=>
   simp only[List.set_cons_succ,a9v];simp only[a9v]at hn;split at hn
   .exact ih hn
   refine a4U.2 ⟨fun hb=>(a4U.1 hn).1 ?_,ih (a4U.1 hn).2⟩;exact Fh (m:=r) hb
theorem a1t{i:Nat}:Fr m h (m.set i .gone) h:=⟨a0P _,fun _ _ _=>rfl,fun _ hb=>.inl (Fh hb),fun _ cs hc=>⟨cs,hc,a0P _⟩⟩
theorem a1u{i:Nat}:Up m (m.set i .gone):=fun j mb hj=>by
 by_cases e:i=j
 .subst e;right;rw[a4Q,hj];rfl
 .left;rw[a1B e];exact hj
theorem HR.gone(hr:HR X P A m H h)(i:Nat):HR X P A (m.set i .gone) (H.set i .gone) h:=by
 refine hr.next a1t a1u (by simp[hr.len]) (OG hr.nodup) fun j b hj=>?_;by_cases e:i=j
 .subst e;right;rw[a4Q]at hj;cases hx:H[i]? with
  |none=>rw[hx]at hj;cases hj
  |some y=>
   rw[hx]at hj;cases hj;obtain⟨mb,h1,_⟩:=hr.at_ i y hx;exact⟨.gone,by rw[a4Q,h1];rfl,trivial⟩
 rw[a1B e]at hj;left;obtain⟨mb,h1,_⟩:=hr.at_ j b hj;exact⟨mb,hj,h1,by rw[a1B e];exact h1,fun _ _=>rfl⟩
def bV:List Nat->List MB->List MB
 | [],m=>m
 |i::is,m=>bV is (m.set i .gone)
theorem iw:∀(is:List Nat) (m:List MB),Fr m h (bV is m) h∧Up m (bV is m)
 | [],m=>⟨.refl,.refl⟩
 |i::is,m=>⟨a1t.trans (iw is _).1,a1u.trans (iw is _).2⟩
theorem HR.aY:∀(is:List Nat) {m:List MB} {H:List (PB X.Γ)},HR X P A m H h->HR X P A (bV is m) (aY is H) h
 | [],_,_,hr=>hr
 |i::is,_,_,hr=>HR.aY is (hr.gone i)
theorem nZ:∀(is:List Nat) (H:List (PB X.Γ)),(Pv.aY is H).length=H.length
 | [],_=>rfl
 |i::is,H=>by rw[Pv.aY,nZ is];simp[X9]
theorem mW:∀(is:List Nat) (m:List MB),(bV is m).length=m.length
 | [],_=>rfl
 |i::is,m=>by rw[bV,mW is];simp
theorem Hu:∀(is:List Nat) {m:List MB} {i:Nat} {mb:MB},m[i]? = some mb->(bV is m)[i]? = some (if is.contains i then .gone else mb)
 | [],_,_,_,h=>by simpa[bV]using h
 |j::is,m,i,mb,h=>by
  rw[bV];by_cases e:j=i
  .subst e;have:(m.set j .gone)[j]? = some .gone:=by rw[a4Q,h];rfl
   rw[Hu is this];simp
  rw[Hu is (by rw[a1B e];exact h)];have:(i==j)=false:=by simp;omega
  simp only[ahJ,this,ah7]
end
section
variable {X:kX} {P:LI1} {A:Nat->Prop} {m m':List MB} {h h':List HB} {H H':List (PB X.Γ)}
theorem bY.nil:bY X P A m h [] []:=⟨rfl,fun i x y hx=>by simp at hx⟩
theorem bY.cons{v:PV X.Γ}{x:TV}{vs:List (PV X.Γ)}{xs:List TV}(h1:VR X P A m h v x)(h2:bY X P A m h vs xs):bY X P A m h (v::vs) (x::xs):=by
 refine⟨by simp[h2.1],fun i a b ha hb=>?_⟩;cases i with
 |zero=>simp only[a2Z,a0d]at ha hb;subst ha;subst hb;exact h1
 |succ i=>exact h2.2 i a b (by simpa using ha) (by simpa using hb)
theorem bY.inv{v:PV X.Γ}{vs:List (PV X.Γ)}{xs:List TV}(hv:bY X P A m h (v::vs) xs):∃x r,xs=x::r∧VR X P A m h v x∧bY X P A m h vs r:=by
 cases xs with
 |nil=>have:=hv.1;simp at this
 |cons x r=>exact⟨x,r,rfl,hv.2 0 v x rfl rfl,by have:=hv.1;simpa using this,fun i a b ha hb=>hv.2 (i+1) a b (by simpa using ha) (by simpa using hb)⟩
theorem bY.inv0{xs:List TV}(hv:bY X P A m h [] xs):xs=[]:=by have:=hv.1;cases xs<;>simp_all
theorem bY.app{a b:List (PV X.Γ)}{x y:List TV}(h1:bY X P A m h a x)(h2:bY X P A m h b y):bY X P A m h (a++b) (x++y):=by
 refine⟨by simp[h1.1,h2.1],fun i c d hc hd=>?_⟩;rcases a4N i a.length with hl|hl
 .rw[a0C hl]at hc;rw[a0C (by rw[<-h1.1];exact hl)]at hd;exact h1.2 i c d hc hd
 rw[a0T hl]at hc;rw[a0T (by rw[<-h1.1];exact hl),<-h1.1]at hd;exact h2.2 _ c d hc hd
theorem bY.drop{a:List (PV X.Γ)}{x:List TV}(h1:bY X P A m h a x)(n:Nat):bY X P A m h (a.drop n) (x.drop n):=
 ⟨by simp[h1.1],fun i c d hc hd=>h1.2 (n+i) c d (by rw[<-hc,a4O]) (by rw[<-hd,a4O])⟩
theorem bY.take{a:List (PV X.Γ)}{x:List TV}(h1:bY X P A m h a x)(n:Nat):bY X P A m h (a.take n) (x.take n):=by
 refine⟨by simp[h1.1],fun i c d hc hd=>?_⟩;rw[a4R]at hc hd;split at hc
 .rename_i hl;rw[a0F hl]at hd;exact h1.2 i c d hc hd
 cases hc
theorem bY.get{a:List (PV X.Γ)}{x:List TV}(h1:bY X P A m h a x){i:Nat}{c:PV X.Γ}(hc:a[i]? = some c):∃v,x[i]? = some v∧VR X P A m h c v:=by
 have hl:i<x.length:=by rw[<-h1.1];exact(a0h.1 hc).1
 exact⟨x[i],a0q hl,h1.2 i c _ hc (a0q hl)⟩
theorem SI{v:PV X.Γ}{x tv:TV}(hv:VR X P A m h v x)(hp:ru v=some tv):x=tv:=by
 cases hv with
 |gone hi _ _=>cases v<;>simp[bn]at hi<;>simp[ru]at hp
 |_=>first|(simp only[ru,a0d]at hp;exact hp)|(simp[ru]at hp;done)
theorem G7:∀{vs:List (PV X.Γ)} {xs tvs:List TV},bY X P A m h vs xs->iO vs=some tvs->xs=tvs
 | [],xs,tvs,hv,hp=>by simp only[iO,a0d]at hp;rw[hv.inv0,hp]
 |v::vs,xs,tvs,hv,hp=>by
  obtain⟨x,r,rfl,h1,h2⟩:=hv.inv;simp only[iO]at hp;split at hp
  .rename_i a b ha hb;cases hp;rw[SI h1 ha,G7 h2 hb]
  cases hp
theorem jU{v:PV X.Γ}{x tv:TV}(hv:VR X P A m h v x)(hp:qw v=some tv):x=tv:=by
 cases v with
 |agg cs=>
  simp only[qw,a0l]at hp;obtain⟨tvs,h1,rfl⟩:=hp;cases hv with
  |agg h2 h3=>rw[G7 ⟨h2,h3⟩ h1]
  |gone hi _ _=>simp[bn]at hi
 |_=>exact SI hv hp
theorem a1v:∀{vs:List (PV X.Γ)} {xs tvs:List TV},bY X P A m h vs xs->UK vs=some tvs->xs=tvs
 | [],xs,tvs,hv,hp=>by simp only[UK,a0d]at hp;rw[hv.inv0,hp]
 |v::vs,xs,tvs,hv,hp=>by
  obtain⟨x,r,rfl,h1,h2⟩:=hv.inv;simp only[UK]at hp;split at hp
  .rename_i a b ha hb;cases hp;rw[jU h1 ha,a1v h2 hb]
  cases hp
theorem a6t{v:PV X.Γ}{x:TV}(hp:ofC x=some v):VR X P A m h v x:=by cases x<;>simp[ofC]at hp<;>subst hp<;>constructor
theorem UZ:∀{xs:List TV} {vs:List (PV X.Γ)},CB xs=some vs->bY X P A m h vs xs
 | [],vs,hp=>by simp only[CB,a0d]at hp;subst hp;exact .nil
 |x::xs,vs,hp=>by
  simp only[CB]at hp;split at hp
  .rename_i a b ha hb;cases hp;exact .cons (a6t ha) (UZ hb)
  cases hp
theorem wS{v:PV X.Γ}{x:TV}(hp:YQ x=some v):VR X P A m h v x:=by
 cases x with
 |agg cs=>
  simp only[YQ,a0l]at hp;obtain⟨vs,h1,rfl⟩:=hp;have:=UZ (X:=X) (P:=P) (A:=A) (m:=m) (h:=h) h1;exact .agg this.1 this.2
 |_=>exact a6t hp
theorem SK{v:PV X.Γ}{x:TV}(hp:ru v=some x):VR X P A m h v x:=by
 cases v<;>simp only[ru,a0d,reduceCtorEq]at hp<;>subst hp
 .exact .bool _
 .exact .int _ _
 .exact .str _
 exact .nil _
theorem G8:∀{vs:List (PV X.Γ)} {xs:List TV},iO vs=some xs->bY X P A m h vs xs
 | [],xs,hp=>by simp only[iO,a0d]at hp;subst hp;exact .nil
 |v::vs,xs,hp=>by
  simp only[iO]at hp;split at hp
  .rename_i a b ha hb;cases hp;exact .cons (SK ha) (G8 hb)
  cases hp
theorem o7{v:PV X.Γ}{x:TV}(hp:qw v=some x):VR X P A m h v x:=by
 cases v with
 |agg cs=>
  simp only[qw,a0l]at hp;obtain⟨vs,h1,rfl⟩:=hp;have:=G8 (X:=X) (P:=P) (A:=A) (m:=m) (h:=h) h1;exact .agg this.1 this.2
 |_=>exact SK hp
theorem Hw{v:PV X.Γ}{x:TV}(hv:VR X P A m h v x):VR X P A m h (a1n v) x:=by
 cases v with
 |lit b=>
  cases hv with
  |lit=>exact .bool _
  |gone hi _ _=>simp[bn]at hi
 |_=>exact hv
theorem a6u{v:PV X.Γ}{x:TV}(hv:VR X P A m h v x):iY x=ZB v:=by
 cases hv with
 |own _ o=>exact o
 |gone hi _ o=>rw[o];cases v<;>simp[bn]at hi<;>rfl
 |_=>rfl
theorem Hy{v:PV X.Γ}{x:TV}(hv:VR X P A m h v x):bY X P A m h v.cells x.cells:=by
 have hq:=a6u hv;cases v with
 |agg cs=>
  cases hv with
  |agg h1 h2=>exact⟨h1,h2⟩
  |gone hi _ _=>simp[bn]at hi
 |dJ cs=>
  have hv':=hv;cases hv with
  |dJ h1 h2=>exact .cons hv' .nil
  |gone hi _ _=>simp[bn]at hi
 |_=>
  have:x.cells=[x]:=by cases x<;>first|rfl|(simp[iY,ZB]at hq;done)
  rw[this];exact .cons hv .nil
theorem Eh:∀{vs:List (PV X.Γ)} {xs:List TV},bY X P A m h vs xs->xs.all iY=vs.all ZB
 | [],xs,hv=>by rw[hv.inv0];rfl
 |v::vs,xs,hv=>by obtain⟨x,r,rfl,h1,h2⟩:=hv.inv;simp only[aco,a6u h1,Eh h2]
theorem aeR{cs:List (PV X.Γ)}{xs:List TV}(hv:bY X P A m h cs xs){off n:Nat}{r:List (PV X.Γ)}(hs:aeK cs off n=some r):∃r',sub xs off n=some r'∧bY X P A m h r r':=by
 unfold aeK at hs;split at hs
 .rename_i hl;cases hs;exact⟨_,by unfold sub;rw[a0F (by rw[<-hv.1];exact hl)],(hv.drop off).take n⟩
 cases hs
theorem Hz{cs new:List (PV X.Γ)}{xs aiN:List TV}(hv:bY X P A m h cs xs)(hn:bY X P A m h new aiN){off:Nat}{r:List (PV X.Γ)}(hs:Oz cs off new=some r):∃r',wo xs off aiN=some r'∧bY X P A m h r r':=by
 unfold Oz at hs;split at hs
 .rename_i hl;cases hs;refine⟨_,by unfold wo;rw[a0F (by rw[<-hv.1,<-hn.1];exact hl)],?_⟩;rw[<-hn.1];exact((hv.take off).app hn).app (hv.drop _)
 cases hs
theorem Az{cs:List (PV X.Γ)}{xs:List TV}(hv:bY X P A m h cs xs){t:LI2}{off:Nat}{v:PV X.Γ}(hs:Hg P t cs off=some v):∃x,uz P t xs off=some x∧VR X P A m h v x:=by
 unfold Hg at hs;unfold uz;split at hs
 .rename_i n ha hn;simp only[a0l]at hs;obtain⟨r,h1,rfl⟩:=hs;obtain⟨r',g1,g2⟩:=aeR hv h1;exact⟨.agg r',by simp only[ha,hn,g1,a0O],.agg g2.1 g2.2⟩
 .rename_i n ha hn;split at hs
  .rename_i h1;obtain⟨x,g1,g2⟩:=hv.get hs;exact⟨x,by simp only[ha,hn,h1,a2u,g1],g2⟩
  cases hs
 cases hs
theorem HY{t:LI2}{z:List (PV X.Γ)}(hz:SE P t=some z):∃z',KD P t=some z'∧bY X P A m h z z':=by
 unfold SE at hz;split at hz
 .rename_i z' h1;exact⟨z',h1,UZ hz⟩
 cases hz
def VPs(X:kX)(P:LI1)(A:Nat->Prop)(m:List MB)(h:List HB)(ps:List (Nat×PV X.Γ))(qs:List (Nat×TV)):Prop:=
 ps.length=qs.length∧∀(i:Nat) a b,ps[i]? = some a->qs[i]? = some b->a.1=b.1∧VR X P A m h a.2 b.2
theorem VPs.inv{a:Nat×PV X.Γ}{ps:List (Nat×PV X.Γ)}{qs:List (Nat×TV)}(hv:VPs X P A m h (a::ps) qs):∃x r,qs=(a.1,x)::r∧VR X P A m h a.2 x∧VPs X P A m h ps r:=by
 cases qs with
 |nil=>have:=hv.1;simp at this
 |cons q r=>
  obtain⟨h1,h2⟩:=hv.2 0 a q rfl rfl;refine⟨q.2,r,by rw[h1],h2,by have:=hv.1;simpa using this,fun i x y hx hy=>hv.2 (i+1) x y (by simpa using hx) (by simpa using hy)⟩
theorem MV{pl:Nat->Option (Nat×Nat)}:∀{ps:List (Nat×PV X.Γ)} {qs:List (Nat×TV)} {cs:List (PV X.Γ)} {xs:List TV},VPs X P A m h ps qs->bY X P A m h cs xs->∀{r:List (PV X.Γ)},OA pl cs ps=some r->∃r',sJ pl xs qs=some r'∧bY X P A m h r r'
 | [],qs,cs,xs,hp,hv,r,hs=>by
  have:qs=[]:=by have:=hp.1;cases qs<;>simp_all
  subst this;simp only[OA,a0d]at hs;subst hs;exact⟨xs,rfl,hv⟩
 |(i,v)::ps,qs,cs,xs,hp,hv,r,hs=>by
  obtain⟨x,rest,rfl,h1,h2⟩:=hp.inv;have hc:=Hy h1;simp only[OA]at hs;split at hs
  .rename_i off size Gt;split at hs
   .rename_i vC;split at hs
    .rename_i cs' ho;obtain⟨xs',g1,g2⟩:=Hz hv hc ho;obtain⟨r',g3,g4⟩:=MV h2 g2 hs;have aev:x.cells.length=size:=by rw[<-hc.1];exact vC
     exact⟨r',by simp only[sJ,Gt,aev,a2u,g1,g3],g4⟩
    cases hs
   cases hs
  cases hs
theorem a6v{t:LI2}{ps:List (Nat×PV X.Γ)}{qs:List (Nat×TV)}(hp:VPs X P A m h ps qs){v:PV X.Γ}(hs:ZE P t ps=some v):∃x,NC P t qs=some x∧VR X P A m h v x:=by
 unfold ZE at hs;unfold NC;split at hs
 .rename_i z fs hz hu;obtain⟨z',g1,g2⟩:=HY (A:=A) (m:=m) (h:=h) hz;split at hs
  .rename_i ha;simp only[a0l]at hs;obtain⟨r,h1,rfl⟩:=hs;obtain⟨r',g3,g4⟩:=MV hp g2 h1;exact⟨.agg r',by simp only[g1,hu,ha,a2u,g3,a0O],.agg g4.1 g4.2⟩
  cases hs
 .rename_i z n e hz hu;obtain⟨z',g1,g2⟩:=HY (A:=A) (m:=m) (h:=h) hz;split at hs
  .rename_i k hk;simp only[a0l]at hs;obtain⟨r,h1,rfl⟩:=hs;obtain⟨r',g3,g4⟩:=MV hp g2 h1;exact⟨.agg r',by simp only[g1,hu,hk,g3,a0O],.agg g4.1 g4.2⟩
  cases hs
 cases hs
theorem Xd{z:List (PV X.Γ)}{z':List TV}(hz:bY X P A m h z z'):∀n,bY X P A m h (ZF z n) (times z' n)
 | 0=>.nil
 |n+1=>hz.app (Xd hz n)
section
variable {env:List (Nat×PE X.Γ)} {env':List (Nat×EV)}
theorem a1w(he:ku X P A m h env env'){t:Nat}:(Fe t env=none∧dQ t env'=none)∨∃v x,Fe t env=some v∧dQ t env'=some x∧J3 X P A m h v x:=by
 induction he with
 |nil=>exact .inl ⟨rfl,rfl⟩
 |cons h1 _ ih=>
  rename_i k v x r r' _;simp only[Fe,dQ];by_cases e:k=t
  .right;exact⟨v,x,by rw[a0F e],by rw[a0F e],h1⟩
  rw[a0E e,a0E e];exact ih
theorem oN(he:ku X P A m h env env'){t:Nat}{v:PE X.Γ}(hl:Fe t env=some v):∃x,dQ t env'=some x∧J3 X P A m h v x:=by
 rcases a1w he (t:=t)with⟨h1,_⟩|⟨w,x,h1,h2,h3⟩
 .rw[hl]at h1;cases h1
 rw[hl]at h1;cases h1;exact⟨x,h2,h3⟩
theorem nD(he:ku X P A m h env env'){o:Operand}{v:PE X.Γ}(hl:FW env o=some v):∃x,IV env' o=some x∧J3 X P A m h v x:=by
 cases o with
 |tmp t=>exact oN he hl
 |const c=>
  simp only[FW]at hl;split at hl
  .rename_i b hb;cases hl;exact⟨.val (.bool b),by simp only[IV,hb,a0O],VR.lit b⟩
  .rename_i x _ hx;simp only[a0l]at hl;obtain⟨w,h1,rfl⟩:=hl;exact⟨.val x,by simp only[IV,hx,a0O],wS h1⟩
  cases hl
 |func f=>
  simp only[FW,a0d]at hl;subst hl;exact⟨.val (.fn f [] []),rfl,.fn rfl (by simp) rfl (by simp)⟩
 |global g=>cases hl
theorem fQ{v:PV X.Γ}{x:EV}(hp:J3 X P A m h (.val v) x):∃y,x=.val y∧VR X P A m h v y:=by
 cases x with
 |val y=>exact⟨y,rfl,hp⟩
 |_=>exact hp.elim
theorem Ei{k o:Nat}{x:EV}(hp:J3 X P A m h (.loc k o) x):x=.loc k o:=by
 cases x with
 |loc k' o'=>obtain⟨rfl,rfl⟩:=hp;rfl
 |_=>exact hp.elim
theorem Jp{x:EV}(hp:J3 X P A m h .undef x):x=.undef:=by
 cases x with
 |undef=>rfl
 |_=>exact hp.elim
theorem MW{r j:Nat}{v:PV X.Γ}{x:EV}(hp:J3 X P A m h (.ent r j v) x):∃c y,x=.ent c j y∧VR X P A m h (.map r) (.map c)∧qw v=some y:=by
 cases x with
 |ent c j' y=>obtain⟨h1,rfl,h2⟩:=hp;exact⟨c,y,rfl,h1,h2⟩
 |_=>exact hp.elim
theorem MX{r j:Nat}{x:EV}(hp:J3 X P A m h (.EI r j) x):∃c,x=.EI c j∧VR X P A m h (.map r) (.map c):=by
 cases x with
 |EI c j'=>obtain⟨h1,rfl⟩:=hp;exact⟨c,rfl,h1⟩
 |_=>exact hp.elim
theorem Xe(he:ku X P A m h env env'){o:Operand}{v:PV X.Γ}(hl:a1o env o=some v):∃x,qQ env' o=some x∧VR X P A m h v x:=by
 unfold a1o at hl;split at hl
 .rename_i w hw;cases hl;obtain⟨x,h1,h2⟩:=nD he hw;obtain⟨y,rfl,h3⟩:=fQ h2;exact⟨y,by simp only[qQ,h1],h3⟩
 cases hl
theorem jB(he:ku X P A m h env env'){o:Operand}{v:PV X.Γ}(hl:A8 env o=some v):∃x,qQ env' o=some x∧VR X P A m h v x:=by
 unfold A8 at hl;split at hl
 .rename_i w hw;cases hl;obtain⟨x,h1,h2⟩:=nD he hw;obtain⟨y,rfl,h3⟩:=fQ h2;exact⟨y,by simp only[qQ,h1],Hw h3⟩
 cases hl
theorem V3(he:ku X P A m h env env'):∀{os:List Operand} {vs:List (PV X.Γ)},ZC env os=some vs->∃xs,Ub env' os=some xs∧bY X P A m h vs xs
 | [],vs,hl=>by simp only[ZC,a0d]at hl;subst hl;exact⟨[],rfl,.nil⟩
 |o::os,vs,hl=>by
  simp only[ZC]at hl;split at hl
  .rename_i v ws h1 h2;cases hl;obtain⟨x,g1,g2⟩:=jB he h1;obtain⟨xs,g3,g4⟩:=V3 he h2;exact⟨x::xs,by simp only[Ub,g1,g3],.cons g2 g4⟩
  cases hl
theorem ZO(he:ku X P A m h env env'):∀{os:List (Nat×Operand)} {vs:List (Nat×PV X.Γ)},a3m env os=some vs->∃xs,Wq env' os=some xs∧VPs X P A m h vs xs
 | [],vs,hl=>by simp only[a3m,a0d]at hl;subst hl;exact⟨[],rfl,rfl,fun i a b ha=>by simp at ha⟩
 |(i,o)::os,vs,hl=>by
  simp only[a3m]at hl;split at hl
  .rename_i v ws h1 h2;cases hl;obtain⟨x,g1,g2⟩:=jB he h1;obtain⟨xs,g3,g4⟩:=ZO he h2;refine⟨(i,x)::xs,by simp only[Wq,g1,g3],by simp[g4.1],fun j a b ha hb=>?_⟩;cases j with
   |zero=>simp only[a2Z,a0d]at ha hb;subst ha;subst hb;exact⟨rfl,g2⟩
   |succ j=>exact g4.2 j a b (by simpa using ha) (by simpa using hb)
  cases hl
def OR(X:kX)(P:LI1)(A:Nat->Prop)(m:List MB)(h:List HB):Option (PV X.Γ)->Option TV->Prop
 |none,none=>True
 |some v,some x=>VR X P A m h v x
 |_,_=>False
theorem I4(he:ku X P A m h env env'){o:Option Operand}{v:Option (PV X.Γ)}(hl:Oy env o=some v):∃x,Wu env' o=some x∧OR X P A m h v x:=by
 cases o with
 |none=>simp only[Oy,a0d]at hl;subst hl;exact⟨none,rfl,trivial⟩
 |some o=>
  simp only[Oy]at hl;split at hl
  .rename_i w hw;cases hl;obtain⟨x,g1,g2⟩:=jB he hw;exact⟨some x,by simp only[Wu,g1],g2⟩
  cases hl
theorem V4(he:ku X P A m h env env'):∀live,ku X P A m h (jm live env) (pick live env')
 | []=>.nil
 |t::r=>by
  simp only[jm,pick];rcases a1w he (t:=t)with⟨h1,h2⟩|⟨v,x,h1,h2,h3⟩
  .rw[h1,h2];exact V4 he r
  rw[h1,h2];exact .cons h3 (V4 he r)
theorem aa4(he:ku X P A m h env env'){t:Nat}{b:Bool}(hb:dQ t env'=some (.val (.bool b))):ku X P A m h (Pv.BP t b env) env':=by
 induction he with
 |nil=>exact .nil
 |cons h1 h2 ih=>
  rename_i k v x r r';simp only[dQ]at hb;simp only[Pv.BP];by_cases e:k=t
  .rw[a0F e]at hb ⊢;cases hb;exact .cons (VR.lit b) h2
  rw[a0E e]at hb ⊢;exact .cons h1 (ih hb)
theorem aeS(he:ku X P A m h env env'):UW X env=CQ env':=by
 induction he with
 |nil=>rfl
 |cons h1 _ ih=>
  rename_i k v x r r' _;cases v with
  |val v=>obtain⟨y,rfl,_⟩:=fQ h1;simpa[UW,CQ]using ih
  |loc a b=>rw[Ei h1];simp only[UW,CQ,ih]
  |undef=>rw[Jp h1];simpa[UW,CQ]using ih
  |ent=>obtain⟨_,_,rfl,_⟩:=MW h1;simpa[UW,CQ]using ih
  |EI=>obtain⟨_,rfl,_⟩:=MX h1;simpa[UW,CQ]using ih
end
end
structure bT(X:kX)(P:LI1):Prop where
 dec:∀{t:Nat} {vs:List (PV X.Γ)} {a:X.Γ t},X.dec t vs=some a->∀{A:Nat->Prop} {m:List MB} {h:List HB} {xs:List TV},bY X P A m h vs xs->bY X P A m h (X.enc t a) xs
 jy:∀(t:Nat) (a:X.Γ t),jy.Ho (X.enc t a)=true
section
variable {X:kX} {P:LI1} {A B:Nat->Prop} {m m':List MB} {h h':List HB} {H H':List (PB X.Γ)}
theorem VR.mono(hAB:∀b,A b->B b){v:PV X.Γ}{x:TV}(hv:VR X P A m h v x):VR X P B m h v x:=by
 induction hv with
 |bool=>exact .bool _
 |lit=>exact .lit _
 |int=>exact .int _ _
 |str=>exact .str _
 |nil=>exact .nil _
 |ptr e=>exact .ptr e
 |aP e=>exact .aP e
 |own e o=>exact .own e o
 |win e q q' q2=>exact .win e q q' q2
 |BQ e=>exact .BQ e
 |Gv e=>exact .Gv e
 |Jm e=>exact .Jm e
 |map e=>exact .map e
 |iter e=>exact .iter e
 |fn h1 _ h3 _ i2 i4=>exact .fn h1 i2 h3 i4
 |kU e=>exact .kU e
 |agg h1 _ i2=>exact .agg h1 i2
 |dJ h1 _ i2=>exact .dJ h1 i2
 |pK=>exact .pK
 |dF a c c2 s z o k f e _ ih=>exact .dF (hAB _ a) c c2 s z o k f e ih
 |el a c l o e q _ ih=>exact .el (hAB _ a) c l o e q ih
 |row e j q=>exact .row e j q
 |gone i e o=>exact .gone i e o
theorem bY.mono(hAB:∀b,A b->B b){v:List (PV X.Γ)}{x:List TV}(hv:bY X P A m h v x):bY X P B m h v x:=⟨hv.1,fun i a b ha hb=>(hv.2 i a b ha hb).mono hAB⟩
theorem fH:∀{vs:List (PV X.Γ)} {i:Nat} {v:PV X.Γ},jy.Ho vs=true->vs[i]? = some v->jy v=true
 | [],_,_,_,h=>by simp at h
 |a::vs,i,v,hc,h=>by
  simp only[jy.Ho,a2O]at hc;cases i with
  |zero=>simp only[a2Z,a0d]at h;subst h;exact hc.1
  |succ i=>exact fH hc.2 (by simpa using h)
theorem VR.jy(hX:bT X P){v:PV X.Γ}{x:TV}(hv:VR X P A m h v x)(hc:Pv.jy v=true):VR X P A m' h v x:=by
 induction hv with
 |bool=>exact .bool _
 |lit=>exact .lit _
 |int=>exact .int _ _
 |str=>exact .str _
 |nil=>exact .nil _
 |fn h1 _ h3 _ i2 i4=>
  simp only[Pv.jy,a2O]at hc;exact .fn h1 (fun i x y hx hy=>i2 i x y hx hy (fH hc.1 hx)) h3 (fun i x y hx hy=>i4 i x y hx hy (fH hc.2 hx))
 |agg h1 _ i2=>
  simp only[Pv.jy]at hc;exact .agg h1 (fun i x y hx hy=>i2 i x y hx hy (fH hc hx))
 |dJ h1 _ i2=>
  simp only[Pv.jy]at hc;exact .dJ h1 (fun i x y hx hy=>i2 i x y hx hy (fH hc hx))
 |pK=>exact .pK
 |dF a c c2 s z o k f e _ ih=>exact .dF a c c2 s z o k f e fun j y i d v h1 h2 h3=>ih j y i d v h1 h2 h3 (fH (hX.jy _ _) h2)
 |el a c l o e q _ ih=>exact .el a c l o e q fun i d v h1 h2=>ih i d v h1 h2 (fH (hX.jy _ _) h1)
 |gone i e o=>rename_i v _ _;cases v<;>simp[bn]at i<;>simp[Pv.jy]at hc
 |_=>simp[Pv.jy]at hc
theorem eF.jy(hX:bT X P){t:Nat}{l:List (X.Γ t)}{cs:List TV}{off sz:Nat}(hv:eF X P A m h t l cs off sz):eF X P A m' h t l cs off sz:=
 ⟨hv.1,hv.2.1,fun j a i c v h1 h2 h3=>(hv.2.2 j a i c v h1 h2 h3).jy hX (fH (hX.jy _ _) h2)⟩
theorem eF.mono(hAB:∀b,A b->B b){t:Nat}{l:List (X.Γ t)}{cs:List TV}{off sz:Nat}(hv:eF X P A m h t l cs off sz):eF X P B m h t l cs off sz:=
 ⟨hv.1,hv.2.1,fun j a i c v h1 h2 h3=>(hv.2.2 j a i c v h1 h2 h3).mono hAB⟩
theorem VR.move(hX:bT X P)(hA:∀q cs,A q->aW h q=some cs->B q∧h'[q]? = h[q]?){v:PV X.Γ}{x:TV}(hv:VR X P A m h v x)(hc:Pv.jy v=true):VR X P B m' h' v x:=by
 induction hv with
 |bool=>exact .bool _
 |lit=>exact .lit _
 |int=>exact .int _ _
 |str=>exact .str _
 |nil=>exact .nil _
 |fn h1 _ h3 _ i2 i4=>
  simp only[Pv.jy,a2O]at hc;exact .fn h1 (fun i x y hx hy=>i2 i x y hx hy (fH hc.1 hx)) h3 (fun i x y hx hy=>i4 i x y hx hy (fH hc.2 hx))
 |agg h1 _ i2=>
  simp only[Pv.jy]at hc;exact .agg h1 (fun i x y hx hy=>i2 i x y hx hy (fH hc hx))
 |dJ h1 _ i2=>
  simp only[Pv.jy]at hc;exact .dJ h1 (fun i x y hx hy=>i2 i x y hx hy (fH hc hx))
 |pK=>exact .pK
 |dF a c c2 s z o k f e _ ih=>obtain⟨a',c'⟩:=hA _ _ a c;exact .dF a' ((fP c').trans c) (fun hl=>(yx c').trans (c2 hl)) s z o k f e fun j y i d v h1 h2 h3=>ih j y i d v h1 h2 h3 (fH (hX.jy _ _) h2)
 |el a c l o e q _ ih=>obtain⟨a',c'⟩:=hA _ _ a (Aw c);exact .el a' ((yx c').trans c) l o e q fun i d v h1 h2=>ih i d v h1 h2 (fH (hX.jy _ _) h1)
 |gone i e o=>rename_i v _ _;cases v<;>simp[bn]at i<;>simp[Pv.jy]at hc
 |_=>simp[Pv.jy]at hc
theorem eF.move(hX:bT X P)(hA:∀q cs,A q->aW h q=some cs->B q∧h'[q]? = h[q]?){t:Nat}{l:List (X.Γ t)}{cs:List TV}{off sz:Nat}(hv:eF X P A m h t l cs off sz):eF X P B m' h' t l cs off sz:=
 ⟨hv.1,hv.2.1,fun j a i c v h1 h2 h3=>(hv.2.2 j a i c v h1 h2 h3).move hX hA (fH (hX.jy _ _) h2)⟩
def FA(A:Nat->Prop)(m:List MB)(is:List Nat):Nat->Prop:=fun b=>AA A m b∨∃i mb,i∈is∧m[i]? = some mb∧mb.own=some b
theorem FA.mono{is js:List Nat}(hs:∀i,i∈is->i∈js){b:Nat}(hb:FA A m is b):FA A m js b:=by
 rcases hb with h|⟨i,mb,h1,h2,h3⟩
 .exact .inl h
 exact .inr ⟨i,mb,hs i h1,h2,h3⟩
theorem OH:∀(is:List Nat) {m:List MB} {i:Nat} {mb:MB},(bV is m)[i]? = some mb->mb.own≠none->i∉is∧m[i]? = some mb
 | [],_,_,_,h,_=>⟨by simp,h⟩
 |j::is,m,i,mb,h,hn=>by
  obtain⟨h1,h2⟩:=OH is (m:=m.set j .gone) h hn;by_cases e:j=i
  .subst e;rw[a4Q]at h2;cases hx:m[j]? with
   |none=>rw[hx]at h2;cases h2
   |some y=>rw[hx]at h2;cases h2;exact absurd rfl hn
  rw[a1B e]at h2;exact⟨by simp[h1,Ne.symm e],h2⟩
theorem AB{is:List Nat}{m:List MB}{b:Nat}(hb:b∈bg (bV is m)):∃i mb,i∉is∧m[i]? = some mb∧mb.own=some b:=by obtain⟨mb,hm,ho⟩:=a6C.1 hb;obtain⟨i,hi⟩:=a8X hm;obtain⟨h1,h2⟩:=OH is hi (by rw[ho];simp);exact⟨i,mb,h1,h2,ho⟩
theorem FA.gone(hr:HR X P A m H h){is:List Nat}{b:Nat}(hb:FA A m is b):AA A (bV is m) b:=by
 rcases hb with hb|⟨i,mb,h1,h2,h3⟩
 .refine⟨hb.1,fun hm=>?_⟩;obtain⟨i,mb,_,h2,h3⟩:=AB hm;exact hb.2 (bf h2 h3)
 refine⟨hr.Df b (bf h2 h3),fun hm=>?_⟩;obtain⟨j,MS,g1,g2,g3⟩:=AB hm;have:=jc hr.nodup h2 g2 h3 g3;exact g1 (this▸h1)
theorem Jq(hX:bT X P)(hr:HR X P A m H h){k ex:Bool}{t i:Nat}{l:List (X.Γ t)}{x:TV}(hl:LR X P (AA A m) m h k ex t l x)(hi:m[i]? = some (.dF x)){is:List Nat}(hs:i∈is):VR X P (FA A m is) m' h (.dF t l false) x:=by
 cases hl with
 |nil=>exact .pK
 |emp h0 h1 h2 h3 h4=>exact .dF (.inl h0) h1 (fun e=>absurd rfl e) h3 h4 (by simpa using h2) (a0P _) (by simp) (fun j a hj=>by simp at hj) (fun j a i c v hj=>by simp at hj)
 |some h1 h2 h3 h4 h5 h6 h7 h8 h9=>
  refine .dF (cs:=_) (.inr ⟨i,_,hs,hi,?_⟩) (by unfold aW;rw[h4]) (fun _=>wP h4 (by omega)) h2 h3 (by omega) (a0P _) (by simp) h9.1 ?_
  .simp only[MB.own];rw[a0E (by simpa using h1)]
  intro j a q c v e1 e2 e3;exact((h9.2.2 j a q c v e1 e2 e3).mono fun b hb=>.inl hb).jy hX (fH (hX.jy _ _) e2)
theorem VR.part{F:Nat->Prop}{t:Nat}{l:List (X.Γ t)}{fu:Bool}{b off len cap sz:Nat}{ex:Bool}(hv:VR X P F m h (.dF t l fu) (.aP b off len cap sz ex)){o n cap':Nat}{ex' fu':Bool}(hn:o+n<=len)(hc:n<=cap')(hw:n=0∨o+cap'=cap)(hfu:fu'=true->ex'=true∧cap'=n) :
  VR X P F m h (.dF t ((l.drop o).take n) fu') (.aP b (off+o*sz) n cap' sz ex'):=by
 cases hv with
 |dF a c c2 s z ol k f e r=>
  have hlen:((l.drop o).take n).length=n:=by rw[a4C,a4l];omega
  have:=@VR.dF X P F m h t ((l.drop o).take n) fu' b (off+o*sz) cap' sz ex' _ a c (fun iD=>by
   have h1:n≠0:=fun e=>iD (by subst e;simp);have h2:=hw.resolve_left h1;have h3:off+o*sz+cap'*sz=off+cap*sz:=by rw[<-h2,a3U];omega
   rw[h3];exact c2 (fun e=>by subst e;simp at hlen;omega)) s z (by
   rw[hlen];have:(o+n)*sz<=l.length*sz:=a3V sz hn;rw[a3U]at this;omega) (by rw[hlen];exact hc) (by rw[hlen];exact hfu) (fun j y hy=>by
    rw[a4R]at hy;split at hy
    .rw[a4O]at hy;exact e _ _ hy
    .cases hy) (fun j y i d v hy h2 h3=>by
    rw[a4R]at hy;split at hy
    .rw[a4O]at hy;refine r _ _ i d v hy h2 ?_;rw[<-h3];congr 1;rw[a3U];omega
    .cases hy)
  rwa [hlen]at this
 |gone hi _ _=>simp[bn]at hi
mutual
theorem V5(hX:bT X P)(hr:HR X P A m H h):∀{v w:PV X.Γ} {x:TV},VR X P (AA A m) m h v x->view H v=some w->∀{is:List Nat},(∀i,i∈l7 v->i∈is)->VR X P (FA A m is) m' h w x
 |.own i,w,x,hv,hw,is,hs=>by
  simp only[view]at hw;split at hw
  .rename_i k ex t l hH;cases hw;obtain⟨mb,h1,h2⟩:=hr.at_ i _ hH;cases mb with
   |dF y=>
    cases hv with
    |own e o=>rw[h1]at e;cases e;exact Jq hX hr h2 h1 (hs i (by simp[l7]))
    |gone hi e o=>simp only[bn,a0d]at hi;subst hi;rw[h1]at e;cases e
   |_=>exact h2.elim
  cases hw
 |.win i o n,w,x,hv,hw,is,hs=>by
  simp only[view]at hw;split at hw
  .rename_i k ex t l hH;cases hw;obtain⟨mb,h1,h2⟩:=hr.at_ i _ hH;cases mb with
   |dF y=>
    have h2':LR X P (AA A m) m h k ex t l y:=h2;have hfz:VR X P (FA A m is) m' h (.dF t l false) y:=Jq hX hr h2' h1 (hs i (by simp[l7]));cases hv with
    |win e q q' q2=>
     rw[h1]at e;cases e;exact hfz.part q q' q2 (by simp)
    |BQ e=>
     rw[h1]at e;cases e;cases h2' with
     |nil=>simp only[List.drop_nil,List.take_nil];exact .pK
    |gone hi e o=>simp only[bn,a0d]at hi;subst hi;rw[h1]at e;cases e
   |_=>exact h2.elim
  cases hw
 |.fn f a c,w,x,hv,hw,is,hs=>by
  simp only[view]at hw;split at hw
  .rename_i a' c' h1 h2;cases hw;cases hv with
   |fn e1 e2 e3 e4=>
    have g1:=lK hX hr ⟨e1,e2⟩ h1 (is:=is) fun i hi=>hs i (by simp[l7,hi]);have g2:=lK hX hr ⟨e3,e4⟩ h2 (is:=is) fun i hi=>hs i (by simp[l7,hi]);exact .fn g1.1 g1.2 g2.1 g2.2
   |gone hi _ _=>simp[bn]at hi
  cases hw
 |.agg cs,w,x,hv,hw,is,hs=>by
  simp only[view,a0l]at hw;obtain⟨cs',h1,rfl⟩:=hw;cases hv with
  |agg e1 e2=>have g1:=lK hX hr ⟨e1,e2⟩ h1 (is:=is) fun i hi=>hs i (by simp[l7,hi]);exact .agg g1.1 g1.2
  |gone hi _ _=>simp[bn]at hi
 |.dJ cs,w,x,hv,hw,is,hs=>by
  simp only[view,a0l]at hw;obtain⟨cs',h1,rfl⟩:=hw;cases hv with
  |dJ e1 e2=>have g1:=lK hX hr ⟨e1,e2⟩ h1 (is:=is) fun i hi=>hs i (by simp[l7,hi]);exact .dJ g1.1 g1.2
  |gone hi _ _=>simp[bn]at hi
 |.bool b,w,x,hv,hw,is,hs=>by simp only[view,a0d]at hw;subst hw;exact(hv.mono fun b hb=>.inl hb).jy hX rfl
 |.lit b,w,x,hv,hw,is,hs=>by
  simp only[view,a0d]at hw;subst hw;cases hv with
  |lit=>exact .bool _
  |gone hi _ _=>simp[bn]at hi
 |.int k n,w,x,hv,hw,is,hs=>by simp only[view,a0d]at hw;subst hw;exact(hv.mono fun b hb=>.inl hb).jy hX rfl
 |.str b,w,x,hv,hw,is,hs=>by simp only[view,a0d]at hw;subst hw;exact(hv.mono fun b hb=>.inl hb).jy hX rfl
 |.nil b,w,x,hv,hw,is,hs=>by simp only[view,a0d]at hw;subst hw;exact(hv.mono fun b hb=>.inl hb).jy hX rfl
 |.dF t l f,w,x,hv,hw,is,hs=>by simp only[view,a0d]at hw;subst hw;exact(hv.mono fun b hb=>.inl hb).jy hX rfl
 |.ptr _ _ _,w,x,hv,hw,is,hs=>by simp[view]at hw
 |.aP _ _ _ _ _ _,w,x,hv,hw,is,hs=>by simp[view]at hw
 |.map _,w,x,hv,hw,is,hs=>by simp[view]at hw
 |.kU _,w,x,hv,hw,is,hs=>by simp[view]at hw
 |.el _ _ _,w,x,hv,hw,is,hs=>by simp[view]at hw
 |.row _ _ _,w,x,hv,hw,is,hs=>by simp[view]at hw
 |.Gv _,w,x,hv,hw,is,hs=>by simp[view]at hw
theorem lK(hX:bT X P)(hr:HR X P A m H h):∀{vs ws:List (PV X.Γ)} {xs:List TV},bY X P (AA A m) m h vs xs->views H vs=some ws->∀{is:List Nat},(∀i,i∈l7.kH vs->i∈is)->bY X P (FA A m is) m' h ws xs
 | [],ws,xs,hv,hw,is,hs=>by simp only[view.views,a0d]at hw;subst hw;rw[hv.inv0];exact .nil
 |v::vs,ws,xs,hv,hw,is,hs=>by
  obtain⟨x,r,rfl,h1,h2⟩:=hv.inv;simp only[view.views]at hw;split at hw
  .rename_i w Uj g1 g2;cases hw;exact .cons (V5 hX hr h1 g1 fun i hi=>hs i (by simp[l7.kH,hi])) (lK hX hr h2 g2 fun i hi=>hs i (by simp[l7.kH,hi]))
  cases hw
end
end
open Go Tw
section
variable {X:kX} {P:LI1} {A B F:Nat->Prop} {m m':List MB} {h h':List HB} {H H':List (PB X.Γ)}
theorem a1x(hX:bT X P)(hr:HR X P A m H h){t:Nat}{cs:List (PV X.Γ)}{xs:List TV}(hv:bY X P (AA A m) m h cs xs){a:X.Γ t}{is:List Nat}(hd:a9Y X H t cs=some (a,is)):bY X P (FA A m is) m' h (X.enc t a) xs:=by
 unfold a9Y at hd;split at hd
 .rename_i vs h1;split at hd
  .rename_i b h2;simp only[a0d,a0J]at hd;obtain⟨rfl,rfl⟩:=hd;exact hX.dec h2 (lK hX hr hv h1 fun i hi=>hi)
  cases hd
 cases hd
theorem AL(hX:bT X P)(hr:HR X P A m H h){t sz:Nat}:∀{n:Nat} {cs:List (PV X.Γ)} {xs:List TV},bY X P (AA A m) m h cs xs->∀{l:List (X.Γ t)} {is:List Nat},yt X H t sz n cs=some (l,is)->l.length=n∧eF X P (FA A m is) m' h t l xs 0 sz
 | 0,cs,xs,hv,l,is,hd=>by simp only[yt,a0d,a0J]at hd;obtain⟨rfl,rfl⟩:=hd;exact⟨rfl,fun j a hj=>by simp at hj,by simp,fun j a i c v hj=>by simp at hj⟩
 |n+1,cs,xs,hv,l,is,hd=>by
  simp only[yt]at hd;split at hd
  rotate_left
  .cases hd
  rename_i vC;split at hd
  rotate_left
  .cases hd
  rename_i a js l' ks h1 h2;simp only[a0d,a0J]at hd;obtain⟨rfl,rfl⟩:=hd;have g1:=(a1x (m':=m') hX hr (hv.take sz) h1).mono fun b hb=>FA.mono (js:=js++ks) (fun i hi=>a5h _ hi) hb;obtain⟨e2,g2⟩:=AL hX hr (hv.drop sz) h2;have g2:=g2.mono fun b hb=>FA.mono (js:=js++ks) (fun i hi=>aat _ hi) hb;have hl:(X.enc t a).length=sz:=by rw[g1.1,a4C,<-hv.1];omega
  refine⟨by simp[e2],fun j b hj=>?_,?_,fun j b i c v hj hi hx=>?_⟩
  .cases j with
   |zero=>simp only[a2Z,a0d]at hj;subst hj;exact hl
   |succ j=>exact g2.1 j b (by simpa using hj)
  .have:=g2.2.1;rw[a4l]at this;have h3:=hv.1;simp only[a4K,a3U];omega
  cases j with
  |zero=>
   simp only[a2Z,a0d]at hj;subst hj;have aT:i<sz:=by rw[<-hl];exact(a0h.1 hi).1
   refine g1.2 i c v hi ?_;rw[a4R,a0F aT,<-hx];simp
  |succ j=>
   refine g2.2.2 j b i c v (by simpa using hj) hi ?_;rw[a4O,<-hx];congr 1;rw[a3U];omega
def SlR(X:kX)(P:LI1)(F:Nat->Prop)(m:List MB)(h:List HB)(t sz:Nat)(l:List (X.Γ t))(x:TV):Prop:=
 (x=.nil .aP∧l=[])∨∃b off cap ex cs,x=.aP b off l.length cap sz ex∧l.length<=cap∧aW h b=some cs∧(l≠[]->mG h b (off+cap*sz)=some cs)∧eF X P F m h t l cs off sz
theorem a1y{t sz:Nat}{l:List (X.Γ t)}{fu:Bool}{x:TV}(hv:VR X P F m h (.dF t l fu) x)(hz:dH P t=some sz):SlR X P F m h t sz l x:=by
 cases hv with
 |pK=>exact .inl ⟨rfl,rfl⟩
 |dF a c c2 s z o k f e r=>
  rw[hz]at s;cases s;exact .inr ⟨_,_,_,_,_,rfl,k,c,c2,e,o,r⟩
 |gone hi _ _=>simp[bn]at hi
theorem a6w{k ex:Bool}{t sz:Nat}{l:List (X.Γ t)}{x:TV}(hv:LR X P F m h k ex t l x)(hz:dH P t=some sz):SlR X P F m h t sz l x:=by
 cases hv with
 |nil=>exact .inl ⟨rfl,rfl⟩
 |emp h0 h1 h2 h3 h4=>
  rw[hz]at h3;cases h3;exact .inr ⟨_,_,_,_,_,rfl,a0P _,h1,fun e=>absurd rfl e,fun j a hj=>by simp at hj,by simpa using h2,fun j a i c v hj=>by simp at hj⟩
 |some h1 h2 h3 h4 h5 h6 h7 h8 h9=>
  rw[hz]at h2;cases h2;exact .inr ⟨_,_,_,_,_,rfl,a0P _,by unfold aW;rw[h4],fun _=>wP h4 (by omega),h9⟩
theorem eF.part{t sz:Nat}{l:List (X.Γ t)}{cs:List TV}{off o n:Nat}(hv:eF X P F m h t l cs off sz)(hn:o+n<=l.length):eF X P F m h t ((l.drop o).take n) cs (off+o*sz) sz:=by
 have hlen:((l.drop o).take n).length=n:=by rw[a4C,a4l];omega
 refine⟨fun j y hy=>?_,?_,fun j y i c v hy h2 h3=>?_⟩
 .rw[a4R]at hy;split at hy
  .rw[a4O]at hy;exact hv.1 _ _ hy
  cases hy
 .have:=hv.2.1;have h2:(o+n)*sz<=l.length*sz:=a3V sz hn;rw[hlen];rw[a3U]at h2;omega
 rw[a4R]at hy;split at hy
 .rw[a4O]at hy;refine hv.2.2 _ y i c v hy h2 ?_;rw[<-h3];congr 1;rw[a3U];omega
 cases hy
theorem eF.take{t sz:Nat}{l:List (X.Γ t)}{cs:List TV}{off:Nat}(hv:eF X P F m h t l cs off sz):eF X P F m h t l ((cs.drop off).take (l.length*sz)) 0 sz:=by
 refine⟨hv.1,?_,fun j a i c v h1 h2 h3=>?_⟩
 .have:=hv.2.1;rw[a4C,a4l];omega
 rw[a4R]at h3;split at h3
 .rw[a4O]at h3;exact hv.2.2 j a i c v h1 h2 (by rw[<-h3];congr 1;omega)
 cases h3
theorem SlR.src{t sz:Nat}{l:List (X.Γ t)}{x:TV}(hv:SlR X P F m h t sz l x):∃new,eu sz h x=some (l.length,new)∧new.length=l.length*sz∧eF X P F m h t l new 0 sz:=by
 rcases hv with⟨rfl,rfl⟩|⟨b,off,cap,ex,cs,rfl,hk,hc,Gu,hw⟩
 .exact⟨[],rfl,by simp,fun j a hj=>by simp at hj,by simp,fun j a i c v hj=>by simp at hj⟩
 refine⟨(cs.drop off).take (l.length*sz),?_,?_,hw.take⟩
 .have:=hw.2.1;simp only[eu,a2u,sub];by_cases h0:l.length=0
  .rw[a0F h0,h0];simp
  rw[a0E h0,Gu (fun e=>h0 (by rw[e];rfl))];simp only;rw[a0F this];rfl
 have:=hw.2.1;rw[a4C,a4l];omega
theorem eF.app{t sz:Nat}{l r:List (X.Γ t)}{a b:List TV}(h1:eF X P F m h t l a 0 sz)(h2:eF X P F m h t r b 0 sz)(ha:a.length=l.length*sz):eF X P F m h t (l++r) (a++b) 0 sz:=by
 refine⟨fun j y hy=>?_,?_,fun j y i c v hy hi hx=>?_⟩
 .rcases a4N j l.length with hl|hl
  .rw[a0C hl]at hy;exact h1.1 j y hy
  rw[a0T hl]at hy;exact h2.1 _ y hy
 .have:=h2.2.1;simp only[a1U,a3U];omega
 rcases a4N j l.length with hl|hl
 .rw[a0C hl]at hy;have aT:i<sz:=by rw[<-h1.1 j y hy];exact(a0h.1 hi).1
  have:(j+1)*sz<=l.length*sz:=a3V sz hl;rw[a3U]at this;rw[a0C (by omega)]at hx;exact h1.2.2 j y i c v hy hi hx
 rw[a0T hl]at hy;have:l.length*sz<=j*sz:=a3V sz hl;rw[a0T (by omega)]at hx;refine h2.2.2 _ y i c v hy hi ?_;rw[<-hx];congr 1;rw[ha,Nat.sub_mul];omega
theorem rJ{Γ:Nat->Type}{t t':Nat}{l:List (Γ t')}{r:List (Γ t)}(h:BG t t' l=some r):∃e:t'=t,r=e▸l:=by
 unfold BG at h;split at h
 .rename_i e;cases h;exact⟨e,rfl⟩
 cases h
theorem V6(hX:bT X P)(hr:HR X P A m H h){e sz:Nat}{x:PV X.Γ}{tx:TV}(hv:VR X P (AA A m) m h x tx)(hz:dH P e=some sz){rows:List (X.Γ e)}{is:List Nat}(hs:Aq X H e sz x=some (rows,is)) :
  ∃new,eu sz h tx=some (rows.length,new)∧new.length=rows.length*sz∧eF X P (FA A m is) m' h e rows new 0 sz:=by
 have up:∀{l:List (X.Γ e)} {y:TV},SlR X P (AA A m) m h e sz l y->∃new,eu sz h y=some (l.length,new)∧new.length=l.length*sz∧eF X P (FA A m []) m' h e l new 0 sz:=by intro l y hy;obtain⟨new,h1,h2,h3⟩:=hy.src;exact⟨new,h1,h2,(h3.mono fun b hb=>.inl hb).jy hX⟩
 cases x with
 |nil k=>
  cases k<;>simp only[Aq]at hs<;>try (cases hs;done)
  simp only[a0d,a0J]at hs;obtain⟨rfl,rfl⟩:=hs;cases hv with
  |nil=>exact up (.inl ⟨rfl,rfl⟩)
  |gone hi _ _=>simp[bn]at hi
 |dF t l fu=>
  simp only[Aq,a0l,a0J]at hs;obtain⟨r,h1,rfl,rfl⟩:=hs;obtain⟨rfl,rfl⟩:=rJ h1;exact up (a1y hv hz)
 |own i=>
  simp only[Aq]at hs;split at hs
  .rename_i k ex t l hH;simp only[a0l,a0J]at hs;obtain⟨r,h1,rfl,rfl⟩:=hs;obtain⟨rfl,rfl⟩:=rJ h1;obtain⟨mb,g1,g2⟩:=hr.at_ i _ hH;cases mb with
   |dF y=>
    cases hv with
    |own e' o=>rw[g1]at e';cases e';exact up (a6w g2 hz)
    |gone hi e' o=>simp only[bn,a0d]at hi;subst hi;rw[g1]at e';cases e'
   |_=>exact g2.elim
  .cases hs
 |win i o n=>
  simp only[Aq]at hs;split at hs
  .rename_i k ex t l hH;simp only[a0l,a0J]at hs;obtain⟨r,h1,rfl,rfl⟩:=hs;obtain⟨rfl,rfl⟩:=rJ h1;obtain⟨mb,g1,g2⟩:=hr.at_ i _ hH;cases mb with
   |dF y=>
    have hsl:=a6w g2 hz;cases hv with
    |win e' q q' q2=>
     rw[g1]at e';cases e';rcases hsl with⟨h,_⟩|⟨b,off,cap,ex',cs,he,hk,hc,Gu,hw⟩
     .cases h
     .cases he;have hlen:n=((r.drop o).take n).length:=by rw[a4C,a4l];omega
      refine up (.inr ⟨_,_,_,_,cs,congrArg (fun k=>TV.aP _ _ k _ _ _) hlen,hlen▸q',hc,fun iD=>?_,hw.part q⟩);have h1:n≠0:=fun e=>iD (by subst e;simp);have h2:=q2.resolve_left h1;rw[<-Gu (fun e=>iD (by rw[e];simp)),<-h2];congr 1;rw[a3U];omega
    |BQ e'=>
     rw[g1]at e';cases e';refine up (.inl ⟨rfl,by simp⟩)
    |gone hi e' o=>simp only[bn,a0d]at hi;subst hi;rw[g1]at e';cases e'
   |_=>exact g2.elim
  .cases hs
 |aP b off len cap sz' ex=>
  simp only[Aq]at hs;split at hs
  .rename_i cs hH;split at hs
   .rename_i vC;obtain⟨vC,aeT⟩:=vC;subst vC;obtain⟨mb,g1,g2⟩:=hr.at_ b _ hH;cases mb with
    |gq c=>
     obtain⟨cs',g3,g4⟩:=g2;cases hv with
     |aP e'=>
      rw[g1]at e';cases e';obtain⟨hl,hw⟩:=AL (m':=m') hX hr (g4.drop off) hs;subst hl;rw[g4.1]at aeT;refine⟨(cs'.drop off).take (rows.length*sz'),?_,by rw[a4C,a4l];omega,by simpa using hw.take⟩;simp only[eu,a2u,wQ g3 (by simp),sub];split
      .rename_i h0;rw[h0,acF,List.take_zero]
      .simp only[aeT,a2u,a0O]
     |gone hi e' o=>simp only[bn,a0d]at hi;subst hi;rw[g1]at e';cases e'
    |_=>exact g2.elim
   .cases hs
  .cases hs
 |_=>simp[Aq]at hs
end
open Go Tw
def G9(m:List MB)(i b:Nat):Prop:=∃mb,m[i]? = some mb∧mb.own=some b
structure IR(m:List MB)(h:List HB)(p:PI)(t:mF):Prop where
 all:t.all=true->p.i.all=true
 tl:∀k,.l k∈t.ts->.l k∈p.i.ts
 wl:∀k,.l k∈t.ws->.l k∈p.i.ws
 wh:∀b,.h b∈t.ws->(∃i,.h i∈p.i.ws∧G9 m i b)∨(p.wall=true∧b∈bg m)
 th:∀b,.h b∈t.ts->((∃i,.h i∈p.i.ts∧G9 m i b)∨b∉bg m)∧b<h.length
 hp:p.hp=false->t.all=false∧(∀b,.h b∉t.ts)∧∀b,.h b∉t.ws
theorem IR.none{m:List MB}{h:List HB}{p:PI}:IR m h p cZ:=⟨fun h=>(by cases h),fun _ h=>(by cases h),fun _ h=>(by cases h),fun _ h=>(by cases h),fun _ h=>(by cases h),fun _=>⟨rfl,fun _ h=>(by cases h),fun _ h=>(by cases h)⟩⟩
section
variable {X:kX} {P:LI1} {A F:Nat->Prop} {m m':List MB} {h h':List HB} {H H':List (PB X.Γ)}
structure vg(X:kX)(P:LI1)(A:Nat->Prop)(m:List MB)(ps:aU X.Γ)(ts:St):Prop where
 heap:HR X P A m ps.heap ts.heap
 llen:ps.loc.length=ts.loc.length
 loc:∀(k:Nat) cs,ps.loc[k]? = some cs->∃cs',ts.loc[k]? = some cs'∧bY X P (AA A m) m ts.heap cs cs'
 env:ku X P (AA A m) m ts.heap ps.env ts.env
theorem vg.step{ps:aU X.Γ}{ts:St}(hR:vg X P A m ps ts){H1:List (PB X.Γ)}{h1:List HB}(hr:HR X P A m' H1 h1)(hF:Fr m ts.heap m' h1)(hU:Up m m'):vg X P A m' { ps with heap:=H1 } { ts with heap:=h1 }:=
 ⟨hr,hR.llen,fun k cs hk=>let ⟨cs',g1,g2⟩:=hR.loc k cs hk;⟨cs',g1,g2.step hF hU⟩,hR.env.step hF hU⟩
def OpR(X:kX)(P:LI1)(A:Nat->Prop)(m:List MB)(call:aZ)(site:Nat->Bool)(ts:St)(o:Oper)(pe:PE X.Γ)(ps1:aU X.Γ)(pi:PI):Prop:=
 ∃ev iK ti m1,pG P call site ts o=some (ev,iK,ti)∧iK.env=ts.env∧iK.ws=ts.ws∧vg X P A m1 ps1 iK∧J3 X P (AA A m1) m1 iK.heap pe ev∧Fr m ts.heap m1 iK.heap∧Up m m1∧IR m ts.heap pi ti∧∀b,.h b∈ti.ws->b∈bg m
theorem uJ{call:aZ}{site:Nat->Bool}{ps:aU X.Γ}{ts:St}{o:Oper}{pe:PE X.Γ}{ev:EV}{pi:PI}(hR:vg X P A m ps ts)(h:pG P call site ts o=some (ev,ts,cZ))(hp:J3 X P (AA A m) m ts.heap pe ev):OpR X P A m call site ts o pe ps pi:=
 ⟨ev,ts,cZ,m,h,rfl,rfl,hR,hp,.refl,.refl,.none,fun b hb=>by cases hb⟩
theorem vg.BP{ps:aU X.Γ}{ts:St}(hR:vg X P A m ps ts){x:Operand}{b:Bool}(hb:qQ ts.env x=some (.bool b)):vg X P A m (ps.BP x b) ts:=by
 cases x with
 |tmp t=>
  refine⟨hR.heap,hR.llen,hR.loc,aa4 hR.env ?_⟩;simp only[qQ,IV]at hb;split at hb
  .rename_i v hv;cases hb;exact hv
  cases hb
 |_=>exact hR
theorem SL{ps:aU X.Γ}{ts:St}(hR:vg X P A m ps ts){site:Bool}{cs:List (PV X.Γ)}{cs':List TV}(hc:bY X P (AA A m) m ts.heap cs cs') :
  ∃m1,(qR site ts cs').2.env=ts.env∧(qR site ts cs').2.ws=ts.ws∧vg X P A m1 (Ef site ps cs).2 (qR site ts cs').2∧J3 X P (AA A m1) m1 (qR site ts cs').2.heap (Ef site ps cs).1 (qR site ts cs').1∧Fr m ts.heap m1 (qR site ts cs').2.heap∧Up m m1:=by
 cases site with
 |true=>
  have hp:=hR.heap.push (pb:=.cells cs) (hb:=.cells .own cs') (mb:=.gq ts.heap.length) (.inl rfl) ?_
  .refine⟨m++[.gq ts.heap.length],rfl,rfl,hR.step hp.1 hp.2.1 hp.2.2,?_,hp.2.1,hp.2.2⟩;show VR X P _ _ _ (.ptr ps.heap.length 0 cs.length) (.ptr ts.heap.length 0 cs'.length);rw[hc.1];exact .ptr (by rw[<-hR.heap.len];simp)
  .refine⟨cs',by simp,hc.step ?_ (wR _)⟩;refine⟨by simp,fun b hb _=>by rw[a0C hb],fun b hb=>?_,fun b cs hc=>⟨cs,by rw[fP (a0C (fM hc)),hc],a0P _⟩⟩;rw[jh,a3P,kJ]at hb;rcases hb with hb|hb
   .exact .inl hb
   .simp[MB.own]at hb;exact .inr (by omega)
 |false=>
  refine⟨m,rfl,rfl,⟨hR.heap,by simp[Ef,qR,hR.llen],fun k ds hk=>?_,hR.env⟩,?_,.refl,.refl⟩
  .simp only[Ef,qR,a2S,a3T]at hk ⊢;rcases a4N k ps.loc.length with hl|hl
   .rw[a0C hl]at hk;obtain⟨ds',g1,g2⟩:=hR.loc k ds hk;exact⟨ds',by rw[a0C (by rw[<-hR.llen];exact hl)];exact g1,g2⟩
   .rw[a0T hl]at hk;have:k-ps.loc.length=0:=by
     rcases abu (k-ps.loc.length)with e|e
     .exact e
     .rw[a4L (by simp;omega)]at hk;cases hk
    rw[this]at hk;simp only[a2Z,a0d]at hk;subst hk;exact⟨cs',by rw[a0T (by rw[<-hR.llen];exact hl),<-hR.llen,this];rfl,hc⟩
  .exact⟨hR.llen,rfl⟩
theorem iL{i:Nat}{mb:MB}{b:Nat}(h1:m[i]? = some mb)(h2:mb.own=some b):G9 m i b:=⟨mb,h1,h2⟩
theorem ZP{i b:Nat}(h:G9 m i b):b∈bg m:=let ⟨_,h1,h2⟩:=h;bf h1 h2
theorem IR.rdH{i b:Nat}(h0:G9 m i b)(hl:b<h.length):IR m h ⟨xG (.h i),false,false,true⟩ (xG (.h b)):=
 ⟨fun h=>(by cases h),fun k hk=>(by simp[xG]at hk),fun k hk=>(by simp[xG]at hk),fun b hb=>(by simp[xG]at hb),fun c hc=>(by simp[xG]at hc;subst hc;exact⟨.inl ⟨i,by simp[xG],h0⟩,hl⟩),fun h=>(by cases h)⟩
theorem IR.wrH{i b:Nat}(h0:G9 m i b)(hl:b<h.length):IR m h ⟨pF (.h i),false,false,true⟩ (pF (.h b)):=
 ⟨fun h=>(by cases h),fun k hk=>(by simp[pF]at hk),fun k hk=>(by simp[pF]at hk),fun c hc=>(by simp[pF]at hc;subst hc;exact .inl ⟨i,by simp[pF],h0⟩),fun c hc=>(by simp[pF]at hc;subst hc;exact⟨.inl ⟨i,by simp[pF],h0⟩,hl⟩),fun h=>(by cases h)⟩
theorem IR.loc{k:Nat}:IR m h ⟨xG (.l k),false,false,false⟩ (xG (.l k)):=
 ⟨fun h=>(by cases h),fun j hj=>by simpa[xG]using hj,fun k hk=>(by simp[xG]at hk),fun b hb=>(by simp[xG]at hb),fun c hc=>(by simp[xG]at hc),fun _=>⟨rfl,fun b hb=>(by simp[xG]at hb),fun b hb=>(by simp[xG]at hb)⟩⟩
theorem IR.aou{k:Nat}:IR m h ⟨pF (.l k),false,false,false⟩ (pF (.l k)):=
 ⟨fun h=>(by cases h),fun j hj=>by simpa[pF]using hj,fun j hj=>by simpa[pF]using hj,fun c hc=>(by simp[pF]at hc),fun c hc=>(by simp[pF]at hc),fun _=>⟨rfl,fun b hb=>(by simp[pF]at hb),fun b hb=>(by simp[pF]at hb)⟩⟩
theorem Xf{t:LI2}{cs:List TV}{o sz off n:Nat}{x:TV}(ho:o+sz<=cs.length)(hp:uz P t ((cs.drop o).take sz) off=some x)(hn:dH P t=some n):uz P t cs (o+off)=some x∧off+n<=sz∧o+off+n<=cs.length:=by
 unfold uz at hp ⊢;split at hp
 .rename_i k ha hk;rw[hn]at hk;cases hk;simp only[a0l]at hp;obtain⟨r,h1,rfl⟩:=hp;unfold sub at h1;split at h1
  .rename_i hl;rw[a4C,a4l]at hl;refine⟨?_,by omega,by omega⟩;cases h1;simp only[ha,hn,sub];rw[a0F (by omega)];simp only[a0O,a0d,TV.agg.injEq];rw[ahF,agp,aga,a8a (by omega)]
  cases h1
 .rename_i k ha hk;rw[hn]at hk;cases hk;split at hp
  .rename_i h1;subst h1;rw[a4R]at hp;split at hp
   .rename_i h2;rw[a4O]at hp;have:=(a0h.1 hp).1;refine⟨by simp only[ha,hn,a2u];exact hp,by omega,by omega⟩
   cases hp
  cases hp
 cases hp
theorem SN{t:LI2}{cs:List TV}{off:Nat}{x:TV}(hp:uz P t cs off=some x):∃n,dH P t=some n:=by
 unfold uz at hp;split at hp
 .rename_i n _ hn;exact⟨n,hn⟩
 .rename_i n _ hn;exact⟨n,hn⟩
 cases hp
theorem eF.row{t sz:Nat}{l:List (X.Γ t)}{cs:List TV}{off j:Nat}{a:X.Γ t}(hw:eF X P F m h t l cs off sz)(hj:l[j]? = some a):bY X P F m h (X.enc t a) ((cs.drop (off+j*sz)).take sz)∧off+j*sz+sz<=cs.length:=by
 have hlen:=hw.1 j a hj;have aT:j<l.length:=(a0h.1 hj).1;have h2:(j+1)*sz<=l.length*sz:=a3V sz aT;have h3:=hw.2.1;rw[a3U]at h2;refine⟨⟨by rw[hlen,a4C,a4l];omega,fun i c v hc hv=>?_⟩,by omega⟩;rw[a4R]at hv;split at hv
 .rw[a4O]at hv;exact hw.2.2 j a i c v hj hc hv
 cases hv
theorem AO{t:Nat}{l:List (X.Γ t)}{j:Nat}(hj:j<l.length):l[j]? = some (l.getD j (X.d0 t)):=by rw[a3s,a0q hj];rfl
theorem GK(hX:bT X P){ps:aU X.Γ}{ts:St}(hR:vg X P A m ps ts){t:LI2}{pa:PE X.Γ}{ea:EV}(ha:J3 X P (AA A m) m ts.heap pa ea){v:PV X.Γ}{pi:mF}(hl:Au X P t ps pa=some (v,pi)) :
  ∃x ti,loadT P t ts ea=some (x,ti)∧VR X P (AA A m) m ts.heap v x∧IR m ts.heap ⟨pi,false,false,!UR pa⟩ ti∧ti.ws=[]:=by
 cases pa with
 |loc k off=>
  rw[Ei ha];simp only[Au]at hl;split at hl
  .rename_i cs hk;simp only[a0l,a0J]at hl;obtain⟨w,h1,rfl,rfl⟩:=hl;obtain⟨cs',g1,g2⟩:=hR.loc k cs hk;obtain⟨x,g3,g4⟩:=Az g2 h1;exact⟨x,xG (.l k),by simp only[loadT,g1,g3,a0O],g4,.loc,rfl⟩
  .cases hl
 |undef|ent|EI=>simp[Au]at hl
 |val a=>
  obtain⟨y,rfl,hy⟩:=fQ ha;cases a with
  |ptr b off lim=>
   simp only[Au]at hl;split at hl
   .rename_i cs n hb hn;split at hl
    .rename_i Lu;simp only[a0l,a0J]at hl;obtain⟨w,h1,rfl,rfl⟩:=hl;obtain⟨mb,g1,g2⟩:=hR.heap.at_ b _ hb;cases mb with
     |gq c=>
      obtain⟨cs',g3,g4⟩:=g2;cases hy with
      |ptr e=>
       rw[g1]at e;cases e;obtain⟨x,g5,g6⟩:=Az g4 h1;refine⟨x,xG (.h c),?_,g6,.rdH (iL g1 rfl) (a0h.1 g3).1,rfl⟩;simp only[loadT,wQ g3 (show BK.own≠.last by simp),hn,Lu,a2u,g5,a0O]
      |gone hi e _=>simp only[bn,a0d]at hi;subst hi;rw[g1]at e;cases e
     |_=>exact g2.elim
    .cases hl
   .rename_i cs n hb hn;split at hl
    .rename_i Lu;simp only[a0l,a0J]at hl;obtain⟨w,h1,rfl,rfl⟩:=hl;obtain⟨mb,g1,g2⟩:=hR.heap.at_ b _ hb;cases mb with
     |jA c=>
      obtain⟨g0,cs',g3,g4⟩:=g2;cases hy with
      |ptr e=>rw[g1]at e;cases e
      |gone hi e _=>
       simp only[bn,a0d]at hi;subst hi;rw[g1]at e;cases e with
       |r _ e=>
        simp only[roV,a0d]at e;subst e;obtain⟨x,g5,g6⟩:=Az g4 h1;refine⟨x,xG (.h c),?_,g6,⟨fun h=>(by cases h),fun k hk=>(by simp[xG]at hk),fun k hk=>(by simp[xG]at hk),fun b hb=>(by simp[xG]at hb),fun d hd=>?_,fun h=>(by cases h)⟩,rfl⟩
        .simp only[loadT,wQ g3 (show BK.own≠.last by simp),hn,Lu,a2u,g5,a0O]
        .simp[xG]at hd;subst hd;exact⟨.inr g0,(a0h.1 g3).1⟩
     |_=>exact g2.elim
    .cases hl
   .cases hl
  |row b j off=>
   simp only[Au]at hl;split at hl
   .rename_i k ex e l hb;simp only[a0l,a0J]at hl;obtain⟨w,h1,rfl,rfl⟩:=hl;obtain⟨mb,g1,g2⟩:=hR.heap.at_ b _ hb;cases mb with
    |dF z=>
     cases hy with
     |row e' hj hq=>
      rw[g1]at e';cases e';cases(g2:LR X P _ _ _ _ _ _ _ _)with
      |emp=>omega
      |some q1 q2 q3 q4 q5 q6 q7 q8 q9=>
       have yP:=q9.row (AO hj);obtain⟨x,g5,g6⟩:=Az yP.1 h1;obtain⟨n,hn⟩:=SN g5;obtain⟨g7,g8,_⟩:=Xf yP.2 g5 hn;rw[a3W]at g7;refine⟨x,xG (.h _),?_,g6,.rdH (iL g1 (by simp only[MB.own];rw[a0E (by simpa using q1)])) (a0h.1 q4).1,rfl⟩;have sF:=yP.2;simp only[loadT,wP q4 q8.symm,hn];rw[a0F (by omega),g7];rfl
     |gone hi e' _=>simp only[bn,a0d]at hi;subst hi;rw[g1]at e';cases e'
    |_=>exact g2.elim
   .cases hl
  |el e a off=>
   simp only[Au,a0l,a0J]at hl;obtain⟨w,h1,rfl,rfl⟩:=hl;cases hy with
   |el q1 q2 q2' q3 q4 q5 q6=>
    rename_i b o sz lim cs;have yP:bY X P (AA A m) m ts.heap (X.enc e a) ((cs.drop o).take sz):=by
     refine⟨by rw[q4,a4C,a4l];omega,fun i c v hc hv=>?_⟩;rw[a4R]at hv;split at hv
     .rw[a4O]at hv;exact q6 i c v hc hv
     .cases hv
    obtain⟨x,g5,g6⟩:=Az yP h1;obtain⟨n,hn⟩:=SN g5;obtain⟨g7,g8,_⟩:=Xf q3 g5 hn;refine⟨x,xG (.h b),?_,g6,⟨fun h=>(by cases h),fun k hk=>(by simp[xG]at hk),fun k hk=>(by simp[xG]at hk),fun b hb=>(by simp[xG]at hb),fun c hc=>?_,fun h=>(by cases h)⟩,rfl⟩
    .simp only[loadT,q2,hn];rw[a0F (by omega),g7];rfl
    .simp[xG]at hc;subst hc;exact⟨.inr q1.2,a3r q2⟩
   |gone hi e' _=>simp[bn]at hi
  |_=>simp[Au]at hl
end
open Go Tw
section
variable {X:kX} {P:LI1} {A F:Nat->Prop} {m m':List MB} {h h':List HB} {H H':List (PB X.Γ)}
theorem OI{cs new:List TV}{o sz off:Nat}{r:List TV}(ho:o+sz<=cs.length)(hr:wo ((cs.drop o).take sz) off new=some r):wo cs (o+off) new=some (cs.take o++r++cs.drop (o+sz))∧r.length=sz:=by
 unfold wo at hr ⊢;split at hr
 rotate_left
 .cases hr
 rename_i hl;have qO:=hl;rw[a4C,a4l]at hl;cases hr;refine⟨?_,?_⟩
 .rw[a0F (by omega)];simp only[a0d];apply aa3;intro i;simp only[List.getElem?_append,a1U,a4C,a4l,a4R,a4O];rcases a4N i o with h1|h1
  .simp (disch:=omega) only [a8a,a0F]
  rcases a4N i (o+off)with h2|h2
  .rw[a0F (by omega),a0F (by omega),a0F (by omega),a0F (by omega),a0E (by omega),a0F (by omega),a0F (by omega),a0F (by omega),a0F (by omega)];congr 1;omega
  rcases a4N i (o+off+new.length)with h3|h3
  .rw[a0F (by omega),a0E (by omega),a0F (by omega),a0E (by omega),a0F (by omega),a0E (by omega)];congr 1;omega
  rcases a4N i (o+sz)with h4|h4
  .rw[a0E (by omega),a0F (by omega),a0E (by omega),a0E (by omega),a0F (by omega)];congr 1;omega
  rw[a0E (by omega),a0E (by omega)];congr 1;omega
 simp only[a1U,a4C,a4l];omega
theorem eF.set{t sz j:Nat}{l:List (X.Γ t)}{cs r:List TV}{a:X.Γ t}(hw:eF X P F m h t l cs 0 sz)(hr:bY X P F m h (X.enc t a) r)(hl:r.length=sz)(hj:j<l.length) :
  eF X P F m h t (l.set j a) (cs.take (j*sz)++r++cs.drop (j*sz+sz)) 0 sz:=by
 have h2:(j+1)*sz<=l.length*sz:=a3V sz hj;rw[a3U]at h2;have h3:=hw.2.1;refine⟨fun k y hy=>?_,?_,fun k y i c v hy hi hx=>?_⟩
 .rw[aa2]at hy;split at hy
  .cases hy;rw[hr.1,hl]
  .exact hw.1 k y hy
 .simp only[a1U,a4C,a4l,a4Y];omega
 .rw[aa2]at hy;split at hy
  .rename_i e;subst e;cases hy;have aT:i<sz:=by rw[<-hl,<-hr.1];exact(a0h.1 hi).1
   refine hr.2 i c v hi ?_;rw[a0C (by simp only[a1U,a4C];omega),a0T (by rw[a4C];omega),a4C]at hx;rw[<-hx];congr 1;omega
  .rename_i e;have hlen:=hw.1 k y hy;have aT:i<sz:=by rw[<-hlen];exact(a0h.1 hi).1
   have hk:k<l.length:=(a0h.1 hy).1;refine hw.2.2 k y i c v hy hi ?_;rw[<-hx];rcases a4N k j with h4|h4
   .have:(k+1)*sz<=j*sz:=a3V sz h4;rw[a3U]at this;rw[a0C (by simp only[a1U,a4C];omega),a0C (by rw[a4C];omega),a4R,a0F (by omega)]
   .have h5:j+1<=k:=(by omega);have:(j+1)*sz<=k*sz:=a3V sz h5;rw[a3U]at this;rw[a0T (by simp only[a1U,a4C];omega),a4O];congr 1;simp only[a1U,a4C];omega
theorem KR{b:Nat}{pb:PB X.Γ}:∀{is:List Nat} {H:List (PB X.Γ)},is.contains b=false->aY is (H.set b pb)=(aY is H).set b pb
 | [],_,_=>rfl
 |i::is,H,hn=>by simp only[ahJ,a9T,ahD,ne_eq]at hn;simp only[aY,X9];rw[List.set_comm _ _ hn.1,KR hn.2]
theorem yZ(hX:bT X P){ps ps1:aU X.Γ}{ts:St}(hR:vg X P A m ps ts){t:LI2}{pa:PE X.Γ}{ea:EV}(ha:J3 X P (AA A m) m ts.heap pa ea){v:PV X.Γ}{x:TV}(hv:VR X P (AA A m) m ts.heap v x){pi:mF}(hl:UL X P t ps pa v=some (ps1,pi)) :
  ∃iK ti m1,storeT P t ts ea x=some (iK,ti)∧iK.env=ts.env∧iK.ws=ts.ws∧vg X P A m1 ps1 iK∧Fr m ts.heap m1 iK.heap∧Up m m1∧IR m ts.heap ⟨pi,false,false,!UR pa⟩ ti∧∀b,.h b∈ti.ws->b∈bg m:=by
 have hc:=Hy hv;unfold UL at hl;split at hl
 .rename_i n hn;split at hl
  .rename_i O7;have aa5:x.cells.length=n∧x.cells.all iY=true:=⟨by rw[<-hc.1];exact O7.1,by rw[Eh hc];exact O7.2⟩;cases pa with
   |loc k off=>
    rw[Ei ha];simp only at hl;split at hl
    .rename_i cs hk;simp only[a0l,a0J]at hl;obtain⟨SQ,h1,rfl,rfl⟩:=hl;obtain⟨cs',g1,g2⟩:=hR.loc k cs hk;obtain⟨Jr,g3,g4⟩:=Hz g2 hc h1;refine⟨{ ts with loc:=ts.loc.set k Jr },pF (.l k),m,?_,rfl,rfl,⟨hR.heap,by simp[hR.llen],fun j ds hj=>?_,hR.env⟩,.refl,.refl,.aou,fun b hb=>by simp[pF]at hb⟩
     .simp only[storeT,hn,aa5,acL,a2u,g1,g3,a0O]
     .by_cases e:k=j
      .subst e;rw[a4Q]at hj;rw[hk]at hj;cases hj;exact⟨Jr,by rw[a4Q,g1];rfl,g4⟩
      .rw[a1B e]at hj;obtain⟨ds',q1,q2⟩:=hR.loc j ds hj;exact⟨ds',by rw[a1B e];exact q1,q2⟩
    .cases hl
   |undef|ent|EI=>simp at hl
   |val a=>
    obtain⟨y,rfl,hy⟩:=fQ ha;cases a with
    |ptr b off lim=>
     simp only at hl;split at hl
     .rename_i Lu;split at hl
      .rename_i cs hb;simp only[a0l,a0J]at hl;obtain⟨SQ,h1,rfl,rfl⟩:=hl;obtain⟨mb,g1,g2⟩:=hR.heap.at_ b _ hb;cases mb with
       |gq c=>
        obtain⟨cs',g3,g4⟩:=g2;cases hy with
        |ptr e=>
         rw[g1]at e;cases e;obtain⟨Jr,g5,g6⟩:=Hz g4 hc h1;have hlen:Jr.length=cs'.length:=by
          unfold wo at g5;split at g5
          .cases g5;simp only[a1U,a4C,a4l];omega
          .cases g5
         have aT:=(a0h.1 g3).1;obtain⟨hr1,hF⟩:=hR.heap.set (pb:=.cells SQ) (hb:=.cells .own Jr) g1 (c:=c) rfl (fun Xg Xh=>⟨Jr,by simp[aW,aT],by
          simp only[aW,g3,a0d]at Xh;subst Xh;omega⟩) fun hF=>⟨Jr,by simp[aT],g6.step hF .refl⟩
         refine⟨{ ts with heap:=ts.heap.set c (.cells .own Jr) },pF (.h c),m,?_,rfl,rfl,hR.step hr1 hF .refl,hF,.refl,.wrH (iL g1 rfl) aT,fun b hb=>?_⟩
         .simp only[storeT,hn,aa5,acL,a2u,Lu,Xc g3,g5,a0O]
         .simp[pF]at hb;subst hb;exact bf g1 rfl
        |gone hi e _=>simp only[bn,a0d]at hi;subst hi;rw[g1]at e;cases e
       |_=>exact g2.elim
      .cases hl
     .cases hl
    |row b j off=>
     simp only at hl;split at hl
     .rename_i k0 ex e l hb;split at hl
      .rename_i SQ h1;split at hl
       .rename_i a is hd;split at hl
        .cases hl
        .rename_i hnb;simp only[a0d,a0J]at hl;obtain⟨rfl,rfl⟩:=hl;obtain⟨mb,g1,g2⟩:=hR.heap.at_ b _ hb;cases mb with
         |dF z=>
          cases hy with
          |row e' hj hq=>
           rw[g1]at e';cases e';cases(g2:LR X P _ _ _ _ _ _ _ _)with
           |emp=>omega
           |some q1 q2 q3 q4 q5 q6 q7 q8 q9=>
            rename_i c sz xx kk cs;obtain⟨BD,xZ,hkr,hko⟩:=Jo q5;have uK:(MB.dF (TV.aP c 0 l.length l.length sz xx)).own=some c:=by simp only[MB.own];rw[a0E (by simpa using q1)]
            have yP:=q9.row (AO hj);simp only[a3W]at yP;obtain⟨r,g3,g4⟩:=Hz yP.1 hc h1;obtain⟨g5,g6⟩:=OI yP.2 g3;have aov:=a1x (m':=bV is m) hX hR.heap g4 hd;have hgo:=hR.heap.aY is;have QV:=iw (h:=ts.heap) is m;have aiR:is.contains b=false:=(by simpa using hnb);have hm1:(bV is m)[b]? = some (.dF (.aP c 0 l.length l.length sz xx)):=by rw[Hu is g1,aiR];rfl
            have aT:=(a0h.1 q4).1;have RF:(cs.take (j*sz)++r++cs.drop (j*sz+sz)).length=cs.length:=by simp only[a1U,a4C,a4l];omega
            obtain⟨hr1,hF⟩:=hgo.set (pb:=.list k0 ex e (l.set j a)) (hb:=.cells BD (cs.take (j*sz)++r++cs.drop (j*sz+sz))) hm1 uK (fun Xg Xh=>⟨cs.take (j*sz)++r++cs.drop (j*sz+sz),by simp[aW,aT],by
             simp only[aW,q4,a0d]at Xh;subst Xh;omega⟩) fun hF=>by
              have hw:=(q9.step QV.1 QV.2).set (aov.mono fun b hb=>hb.gone hR.heap) g6 hj;have:=LR.some (X:=X) (P:=P) (A:=AA A (bV is m)) (m:=bV is m) (h:=ts.heap.set c (.cells BD (cs.take (j*sz)++r++cs.drop (j*sz+sz)))) (k:=k0) (ex:=ex) (t:=e) (l:=l.set j a) (b:=c) (sz:=sz) (e:=xx) (kk:=BD) (cs:=cs.take (j*sz)++r++cs.drop (j*sz+sz))
               (by intro e0;apply q1;have:=congrArg List.length e0;rw[a4Y]at this;exact a5n.1 this) q2 q3 (by simp[aT]) hkr (fun e0=>hko (q6 e0)) q7 (by rw[RF,a4Y];exact q8) (hw.step hF .refl)
              rw[a4Y]at this;exact this
            rw[<-KR aiR]at hr1;have WX:=QV.1.trans hF;refine⟨{ ts with heap:=ts.heap.set c (.cells BD (cs.take (j*sz)++r++cs.drop (j*sz+sz))) },pF (.h c),bV is m,?_,rfl,rfl,hR.step hr1 WX QV.2,WX,QV.2,.wrH (iL g1 uK) aT,fun b hb=>?_⟩
            .have h9:j*sz+off+n<=l.length*sz:=by
              have h8:=yP.2;unfold wo at g3;split at g3
              .rename_i h0;rw[a4C,a4l,aa5.1]at h0;omega
              .cases g3
             simp only[storeT,hn,aa5,acL,a2u,h9,a1s q4 xZ q8.symm,g5,a0O]
            .simp[pF]at hb;subst hb;exact bf g1 uK
          |gone hi e' _=>simp only[bn,a0d]at hi;subst hi;rw[g1]at e';cases e'
         |_=>exact g2.elim
       .cases hl
      .cases hl
     .cases hl
    |_=>simp at hl
  .cases hl
 .cases hl
end
open Go Tw
section
variable {X:kX} {P:LI1} {A F:Nat->Prop} {m m':List MB} {h h':List HB} {H H':List (PB X.Γ)}
theorem o8{v:PV X.Γ}{x:TV}(hv:VR X P A m h v x):J3 X P A m h (.val v) (.val x):=hv
theorem NZ{ps:aU X.Γ}{ts:St}(hR:vg X P A m ps ts){o:Nat}{pa pb:PE X.Γ}{ea:EV}(ha:J3 X P (AA A m) m ts.heap pa ea)(hl:Hq X ps o pa=some pb):∃eb,QG o ea=some eb∧J3 X P (AA A m) m ts.heap pb eb:=by
 cases pa with
 |loc k off=>
  rw[Ei ha];simp only[Hq,a0d]at hl;subst hl;exact⟨.loc k (off+o),rfl,rfl,rfl⟩
 |undef|ent|EI=>simp[Hq]at hl
 |val a=>
  obtain⟨y,rfl,hy⟩:=fQ ha;cases a with
  |ptr b off lim=>
   simp only[Hq]at hl;split at hl
   .rename_i cs hb;split at hl
    .rename_i hle;cases hl;obtain⟨mb,g1,g2⟩:=hR.heap.at_ b _ hb;cases mb with
     |gq c=>
      cases hy with
      |ptr e=>exact⟨.val (.ptr _ (off+o) lim),by simp only[QG,hle,a2u],VR.ptr e⟩
      |gone hi e q=>simp only[bn,a0d]at hi;subst hi;rw[g1]at e;cases e
     |_=>exact g2.elim
    cases hl
   .rename_i cs hb;split at hl
    .rename_i hle;cases hl;obtain⟨mb,g1,g2⟩:=hR.heap.at_ b _ hb;cases mb with
     |jA c=>
      cases hy with
      |ptr e=>rw[g1]at e;cases e
      |gone hi e q=>
       simp only[bn,a0d]at hi;subst hi;rw[g1]at e;cases e with
       |r _ e=>simp only[roV,a0d]at e;subst e;exact⟨.val (.ptr _ (off+o) lim),by simp only[QG,hle,a2u],VR.gone rfl (.ofR g1 rfl) rfl⟩
     |_=>exact g2.elim
    cases hl
   cases hl
  |el t a off=>
   simp only[Hq]at hl;split at hl
   .rename_i hle;cases hl;cases hy with
    |el q1 q2 q2' q3 q4 q5 q6=>
     rename_i b o0 sz lim cs;rw[q4]at hle;refine⟨.val (.ptr b (o0+off+o) lim),by simp only[QG];rw[a0F (by omega)],?_⟩;rw[aai];exact VR.el q1 q2 q2' q3 q4 hle q6
    |gone hi _ _=>simp[bn]at hi
   cases hl
  |row b j off=>
   simp only[Hq,aiE]at hl;split at hl
   rotate_left
   .cases hl
   rename_i n hn;split at hn
   rotate_left
   .cases hn
   rename_i k ex e l hb;cases hn;split at hl
   .rename_i hle;cases hl;obtain⟨mb,g1,g2⟩:=hR.heap.at_ b _ hb;cases mb with
    |dF z=>
     cases hy with
     |row e' hj hq=>
      rw[g1]at e';cases e';cases(g2:LR X P _ _ _ _ _ _ _ _)with
      |emp=>omega
      |some q1 q2 q3 q4 q5 q6 q7 q8 q9=>
       rw[q9.1 j _ (AO hj)]at hle;have yP:=(q9.row (AO hj)).2;refine⟨.val (.ptr _ (j*_+off+o) (l.length*_)),by simp only[QG];rw[a0F (by omega)],?_⟩;rw[aai];exact VR.row g1 hj hle
     |gone hi e' _=>simp only[bn,a0d]at hi;subst hi;rw[g1]at e';cases e'
    |_=>exact g2.elim
   cases hl
  |_=>simp[Hq]at hl
theorem aa7{ps:aU X.Γ}{ts:St}(hR:vg X P A m ps ts){b:Nat}{k ex:Bool}{e:Nat}{l:List (X.Γ e)}(hb:ps.heap[b]? = some (.list k ex e l)){y:TV}(hy:VR X P (AA A m) m ts.heap (.own b) y)(hl:l≠[]) :
  ∃c sz x,y=.aP c 0 l.length l.length sz x∧m[b]? = some (.dF y)∧dH P e=some sz∧0<sz:=by
 obtain⟨mb,g1,g2⟩:=hR.heap.at_ b _ hb;cases mb with
 |dF z=>
  cases hy with
  |own e' o=>
   rw[g1]at e';cases e';cases(g2:LR X P _ _ _ _ _ _ _ _)with
   |nil=>exact absurd rfl hl
   |emp=>exact absurd rfl hl
   |some q1 q2 q3=>exact⟨_,_,_,rfl,g1,q2,q3⟩
  |gone hi e' _=>simp only[bn,a0d]at hi;subst hi;rw[g1]at e';cases e'
 |_=>exact g2.elim
theorem Af{ps:aU X.Γ}{ts:St}(hR:vg X P A m ps ts){t:LI2}{px pb:PE X.Γ}{ex:EV}(hx:J3 X P (AA A m) m ts.heap px ex){i:PV X.Γ}{ti:TV}(hi:VR X P (AA A m) m ts.heap i ti){qs:List Prop}(hl:FY X P t ps px i=some (pb,qs))(hq:∀q∈qs,q) :
  ∃eb,mJ P t ex ti=some eb∧J3 X P (AA A m) m ts.heap pb eb:=by
 have Ux:∀{k:IntKind} {iv:Int} {n:Nat},gu iv n->idx n (.int k iv)=some iv.toNat∧iv.toNat<n:=by intro k iv n hn;unfold gu at hn;refine⟨by simp only[idx];rw[a0F hn],by omega⟩
 have hpi:∀{n j:Nat},a3n X n i=some j->idx n ti=some j:=by
  intro n j hj;cases i<;>simp only[a3n]at hj<;>try (cases hj;done)
  cases hi with
  |int=>exact hj
  |gone e _ _=>simp[bn]at e
 unfold FY at hl;split at hl
 .rename_i e hu;split at hl
  .rename_i n t' l fu k iv hn;split at hl
   .rename_i ht;subst ht;simp only[a0d,a0J]at hl;obtain⟨rfl,rfl⟩:=hl;have hr:=Ux (k:=k) (hq _ a3x);have:ti=.int k iv:=by
     cases hi with
     |int=>rfl
     |gone e _ _=>simp[bn]at e
    subst this;obtain⟨y,rfl,hy⟩:=fQ hx;rcases a1y hy hn with⟨rfl,rfl⟩|⟨b,off,cap,ex',cs,rfl,hk,hc,Gu,hw⟩
    .have:=hr.2;simp at this
    .have yP:=hw.row (AO hr.2);have hA:AA A m b:=by
      cases hy with
      |dF a=>exact a
      |gone e _ _=>simp[bn]at e
     have O7:=Gu (by intro e0;rw[e0]at hr;have:=hr.2;simp at this);have hle:off+iv.toNat*n+n<=off+cap*n:=by have h1:(iv.toNat+1)*n<=cap*n:=a3V n (by have:=hr.2;omega);rw[a3U,abp]at h1;omega
     refine⟨.val (.ptr b (off+iv.toNat*n) (off+cap*n)),?_,?_⟩
     .simp only[mJ,hu,hn,a2u,hr.1,a0O]
     .have:=VR.el (X:=X) (P:=P) (A:=AA A m) (m:=m) (h:=ts.heap) (t:=t') (a:=l.getD iv.toNat (X.d0 t')) (off:=0) (o:=off+iv.toNat*n) hA O7 hle yP.2 (hw.1 _ _ (AO hr.2)) (a5i _) (fun i c v h1 h2=>hw.2.2 _ _ i c v (AO hr.2) h1 h2);exact o8 (by simpa using this)
   .cases hl
  .rename_i n b k iv hn;split at hl
   .rename_i w ex' t' l hb;split at hl
    .rename_i ht;subst ht;simp only[a0d,a0J]at hl;obtain⟨rfl,rfl⟩:=hl;have hr:=Ux (k:=k) (hq _ a3x);have:ti=.int k iv:=by
      cases hi with
      |int=>rfl
      |gone e _ _=>simp[bn]at e
     subst this;obtain⟨y,rfl,hy⟩:=fQ hx;obtain⟨c,sz,x',rfl,g1,g2,g3⟩:=aa7 hR hb hy (by intro e0;rw[e0]at hr;have:=hr.2;simp at this);rw[hn]at g2;cases g2;refine⟨.val (.ptr c (iv.toNat*n) (l.length*n)),?_,?_⟩
     .simp only[mJ,hu,hn,a2u,hr.1,a0O,a3W]
     .have:=VR.row (X:=X) (P:=P) (A:=AA A m) (m:=m) (h:=ts.heap) (off:=0) g1 hr.2 (a5i n);exact o8 (by simpa using this)
    .cases hl
   .cases hl
  .rename_i n b o q k iv hn;split at hl
   .rename_i w ex' t' l hb;split at hl
    .rename_i ht;subst ht;simp only[a0d,a0J]at hl;obtain⟨rfl,rfl⟩:=hl;have hr:=Ux (k:=k) (hq _ a3x);have:ti=.int k iv:=by
      cases hi with
      |int=>rfl
      |gone e _ _=>simp[bn]at e
     subst this;obtain⟨y,rfl,hy⟩:=fQ hx;obtain⟨mb,g1,g2⟩:=hR.heap.at_ b _ hb;cases mb with
     |dF z=>
      cases hy with
      |win e' w1 w2 w3=>
       rw[g1]at e';cases e';cases(g2:LR X P _ _ _ _ _ _ _ _)with
       |emp=>have:=hr.2;omega
       |some q1 q2 q3=>
        rw[hn]at q2;cases q2;have hp:=o8 (VR.row (X:=X) (P:=P) (A:=AA A m) (m:=m) (h:=ts.heap) (j:=o+iv.toNat) (off:=0) g1 (by have:=hr.2;omega) (a5i n));refine⟨_,?_,hp⟩;have h3:=w3.resolve_left (by have:=hr.2;omega);simp only[mJ,hu,hn,a2u,hr.1,a0O,a3W,a3U,aek,<-h3]
      |BQ e'=>have:=hr.2;omega
      |gone hi e' _=>simp only[bn,a0d]at hi;subst hi;rw[g1]at e';cases e'
     |_=>exact g2.elim
    .cases hl
   .cases hl
  .rename_i n b off len cap sz ex' hn;split at hl
   .rename_i cs hb;split at hl
    .rename_i vC;subst vC;simp only[a0l,a0J]at hl;obtain⟨j,h1,rfl,rfl⟩:=hl;obtain⟨y,rfl,hy⟩:=fQ hx;obtain⟨mb,g1,g2⟩:=hR.heap.at_ b _ hb;cases mb with
     |gq c=>
      cases hy with
      |aP e=>
       have:=hpi h1;rw[g1]at e;cases e;exact⟨.val (.ptr c (off+j*n) (off+cap*n)),by simp only[mJ,hu,hn,a2u,this,a0O],VR.ptr g1⟩
      |gone xI e' _=>simp only[bn,a0d]at xI;subst xI;rw[g1]at e';cases e'
     |_=>exact g2.elim
    .cases hl
   .cases hl
  .cases hl
 .rename_i len e hu;split at hl
  .rename_i n hn;split at hl
   .rename_i j hj;simp only[a0l,a0J]at hl;obtain⟨pa,h1,rfl,rfl⟩:=hl;obtain⟨eb,g1,g2⟩:=NZ hR hx h1;exact⟨eb,by simp only[mJ,hu,hn,hpi hj,g1],g2⟩
   .cases hl
  .cases hl
 .cases hl
end
open Go Tw
section
variable {X:kX} {P:LI1} {A F:Nat->Prop} {m m':List MB} {h h':List HB} {H H':List (PB X.Γ)}
theorem Zc(hr:HR X P A m H h){at_:Array LI2}{x:PV X.Γ}{tx:TV}(hx:VR X P (AA A m) m h x tx){v:PV X.Γ}{pi:mF}(hl:aeL X P at_ H x=some (v,pi)) :
  ∃w ti,YV P at_ h tx=some (w,ti)∧VR X P (AA A m) m h v w∧IR m h ⟨pi,false,false,true⟩ ti∧ti.ws=[]:=by
 unfold aeL at hl;split at hl
 .rename_i t ht;unfold YV;simp only[ht];split at hl
  .rename_i s hu;cases hl;cases hx with
   |str=>exact⟨_,_,by first|(simp only[hu];done)|(simp only[hu];rfl),.int _ _,.none,rfl⟩
   |gone hi _ _=>simp[bn]at hi
  .rename_i n e _ hu;cases hl;exact⟨_,_,by first|(simp only[hu];done)|(simp only[hu];rfl),.int _ _,.none,rfl⟩
  .rename_i e b off len cap sz ex hu;split at hl
   .rename_i cs hb;cases hl;obtain⟨mb,g1,g2⟩:=hr.at_ b _ hb;cases mb with
    |gq c=>
     cases hx with
     |aP e'=>exact⟨_,_,by first|(simp only[hu];done)|(simp only[hu];rfl),.int _ _,.none,rfl⟩
     |gone hi e' _=>simp only[bn,a0d]at hi;subst hi;rw[g1]at e';cases e'
    |_=>exact g2.elim
   .cases hl
  .rename_i e hu;cases hl;cases hx with
   |nil=>exact⟨_,_,by first|(simp only[hu];done)|(simp only[hu];rfl),.int _ _,.none,rfl⟩
   |gone hi _ _=>simp[bn]at hi
  .rename_i e t' l fu hu;cases hl;cases hx with
   |pK=>exact⟨_,_,by first|(simp only[hu];done)|(simp only[hu];rfl),.int _ _,.none,rfl⟩
   |dF=>exact⟨_,_,by first|(simp only[hu];done)|(simp only[hu];rfl),.int _ _,.none,rfl⟩
   |gone hi _ _=>simp[bn]at hi
  .rename_i e b hu;split at hl
   .rename_i k ex t' l hb;cases hl;obtain⟨mb,g1,g2⟩:=hr.at_ b _ hb;cases mb with
    |dF z=>
     cases hx with
     |own e' _=>
      rw[g1]at e';cases e';cases(g2:LR X P _ _ _ _ _ _ _ _)with
      |nil=>exact⟨_,_,by first|(simp only[hu];done)|(simp only[hu];rfl),.int _ _,.none,rfl⟩
      |emp=>exact⟨_,_,by first|(simp only[hu];done)|(simp only[hu];rfl),.int _ _,.none,rfl⟩
      |some=>exact⟨_,_,by first|(simp only[hu];done)|(simp only[hu];rfl),.int _ _,.none,rfl⟩
     |gone hi e' _=>simp only[bn,a0d]at hi;subst hi;rw[g1]at e';cases e'
    |_=>exact g2.elim
   .cases hl
  .rename_i e b o n hu;split at hl
   .rename_i k ex t' l hb;cases hl;obtain⟨mb,g1,g2⟩:=hr.at_ b _ hb;cases mb with
    |dF z=>
     cases hx with
     |win=>exact⟨_,_,by first|(simp only[hu];done)|(simp only[hu];rfl),.int _ _,.none,rfl⟩
     |BQ=>exact⟨_,_,by first|(simp only[hu];done)|(simp only[hu];rfl),.int _ _,.none,rfl⟩
     |gone hi e' _=>simp only[bn,a0d]at hi;subst hi;rw[g1]at e';cases e'
    |_=>exact g2.elim
   .cases hl
  .rename_i kt e hu;cases hl;cases hx with
   |nil=>exact⟨_,_,by first|(simp only[hu];done)|(simp only[hu];rfl),.int _ _,.none,rfl⟩
   |gone hi _ _=>simp[bn]at hi
  .rename_i kt e r hu;split at hl
   .rename_i es hb;cases hl;obtain⟨mb,g1,g2⟩:=hr.at_ r _ hb;cases mb with
    |gq c=>
     obtain⟨fZ,g3,g4,g5⟩:=g2;cases hx with
     |map e'=>
      rw[g1]at e';cases e';exact⟨_,_,by first|(simp only[hu,g3];done)|(simp only[hu,g3];rfl),by rw[g4];exact .int _ _,.rdH (iL g1 rfl) (a0h.1 g3).1,rfl⟩
     |gone hi e' _=>simp only[bn,a0d]at hi;subst hi;rw[g1]at e';cases e'
    |_=>exact g2.elim
   .cases hl
  .cases hl
 .cases hl
def a6y:BinOp->Option TV
 |.eql=>some (.bool false)
 |.neq=>some (.bool true)
 |_=>none
theorem Za{op:BinOp}{t:LI2}{x y:Operand}{a b:PV X.Γ}{ta tb:TV}(ha:VR X P A m h a ta)(hb:VR X P A m h b tb){v:PV X.Γ}(hl:aeM X P op t x y a b=some v):∃w,sO P op t x y ta tb=some w∧VR X P A m h v w:=by
 unfold aeM at hl;split at hl
 .rename_i u w h1 h2;split at hl
  .rename_i r hr;rw[jU ha h1,jU hb h2];exact⟨r,hr,wS hl⟩
  cases hl
 rename_i YN;split at hl
 rotate_left
 .cases hl
 rename_i hn;have key:∃k,KF P t=some k∧((ta=.nil k∧KE tb=some k∧tb.yI=none)∨(tb=.nil k∧KE ta=some k∧ta.yI=none)):=by
  unfold a1p at hn;split at hn
  rotate_left
  .cases hn
  rename_i k hk;refine⟨k,hk,?_⟩;simp only[a9w,a2O,a7g]at hn;have aiS:∀{z:PV X.Γ} {tz:TV},VR X P A m h z tz->z=.nil k->tz=.nil k:=by
   intro z tz hz e;subst e;cases hz with
   |nil=>rfl
   |gone hi _ _=>simp[bn]at hi
  have acH:∀{z:PV X.Γ} {tz:TV},VR X P A m h z tz->(match z with|.fn _ _ _=>some NK.fn|.el _ _ _=>some NK.ptr|_=>none)=some k->KE tz=some k∧tz.yI=none:=by
   intro z tz hz e;cases hz with
   |fn=>exact⟨e,rfl⟩
   |el=>exact⟨e,rfl⟩
   |gone hi _ _=>cases z<;>simp[bn]at hi<;>simp at e
   |_=>simp at e
  have aiT:∀{z:PV X.Γ},(match z with|.nil k=>some k|_=>none)=some k->z=.nil k:=by
   intro z e;cases z<;>simp at e
   rw[e]
  rcases hn with⟨h1,h2⟩|⟨h1,h2⟩
  .have:=acH hb h2;exact .inl ⟨aiS ha (aiT h1),this.1,this.2⟩
  have:=acH ha h1;exact .inr ⟨aiS hb (aiT h2),this.1,this.2⟩
 obtain⟨k,hk,hc⟩:=key;have aeU:sO P op t x y ta tb=a6y op:=by
  rcases hc with⟨rfl,h2,h3⟩|⟨rfl,h2,h3⟩
  .have hnn:CJ P t (.nil k) tb=true:=by unfold CJ;rw[hk];simp[YW,h2]
   unfold sO;rw[h3];cases(TV.nil k).yI<;>simp only[hnn,a2u]<;>cases op<;>rfl
  have hnn:CJ P t ta (.nil k)=true:=by unfold CJ;rw[hk];simp[YW,h2]
  unfold sO;rw[h3];simp only[hnn,a2u];cases op<;>rfl
 rw[aeU];cases op<;>simp only at hl ⊢<;>try (cases hl;done)
 .cases hl;exact⟨_,rfl,.bool _⟩
 cases hl;exact⟨_,rfl,.bool _⟩
theorem OJ{op:BinOp}{t:LI2}{x y:Operand}{b:PV X.Γ}{ta tb:TV}(hb:VR X P A m h b tb){v:PV X.Γ}{q q':Prop}(hl:MQ X P op t b q=some (v,q'))(hq:q')(h2:q->KE ta=some .aP∧ta.yI=none):∃w,sO P op t x y ta tb=some w∧VR X P A m h v w:=by
 unfold MQ at hl;split at hl
 .rename_i hk;have h1:tb=.nil .aP:=by
   cases hb with
   |nil=>rfl
   |gone hi _ _=>simp[bn]at hi
  subst h1;have key:q->sO P op t x y ta (.nil .aP)=a6y op:=fun hq=>by
   obtain⟨h2,h3⟩:=h2 hq;have hnn:CJ P t ta (.nil .aP)=true:=by unfold CJ;rw[hk];simp[YW,h2]
   unfold sO;rw[h3];simp only[hnn,a2u];cases op<;>rfl
  split at hl
  .cases hl;rw[key hq];exact⟨_,rfl,.bool _⟩
  .cases hl;rw[key hq];exact⟨_,rfl,.bool _⟩
  cases hl
 cases hl
theorem a3t(hr:HR X P A m H h){op:BinOp}{t:LI2}{x y:Operand}{a b:PV X.Γ}{ta tb:TV}(ha:VR X P (AA A m) m h a ta)(hb:VR X P (AA A m) m h b tb){v:PV X.Γ}{q:Prop}(hl:UN X P op t H a b=some (v,q))(hq:q):∃w,sO P op t x y ta tb=some w∧VR X P (AA A m) m h v w:=by
 unfold UN at hl;split at hl
 .rename_i l fu;refine OJ hb hl hq (fun iD=>?_);cases ha with
  |pK=>exact absurd rfl iD
  |dF=>exact⟨rfl,rfl⟩
  |gone hi _ _=>simp[bn]at hi
 .rename_i i;split at hl
  .rename_i k ex t' l hi;refine OJ hb hl hq (fun iD=>?_);obtain⟨mb,g1,g2⟩:=hr.at_ i _ hi;cases ha with
   |own e o=>
    rw[g1]at e;cases e;cases g2 with
    |nil=>exact absurd rfl iD
    |emp=>exact absurd rfl iD
    |some=>exact⟨rfl,rfl⟩
   |gone hi e _=>simp only[bn,a0d]at hi;subst hi;rw[g1]at e;cases e<;>exact g2.elim
  cases hl
 cases hl
theorem iV{op:UnOp}{a:PV X.Γ}{ta:TV}(ha:VR X P A m h a ta){v:PV X.Γ}(hl:pun X P op a=some v):∃w,unT P op ta=some w∧VR X P A m h v w:=by
 unfold pun at hl;split at hl
 .rename_i u h1;split at hl
  .rename_i r hr;rw[jU ha h1];exact⟨r,hr,wS hl⟩
  cases hl
 cases hl
theorem Ul{s d:LI2}{a:PV X.Γ}{ta:TV}(ha:VR X P A m h a ta){v:PV X.Γ}(hl:a6h X P s d a=some v):∃w,Rt P s d ta=some w∧VR X P A m h v w:=by
 unfold a6h at hl;split at hl
 .rename_i u h1;split at hl
  .rename_i r hr;rw[jU ha h1];exact⟨r,hr,wS hl⟩
  cases hl
 cases hl
theorem zi{mx:Bool}{at_:Array LI2}{t:LI2}{az:List (PV X.Γ)}{ts:List TV}(ha:bY X P A m h az ts){v:PV X.Γ}(hl:MR X P mx at_ t az=some v):∃w,E8 P mx at_ t ts=some w∧VR X P A m h v w:=by
 unfold MR at hl;split at hl
 .rename_i u h1;split at hl
  .rename_i r hr;rw[a1v ha h1];exact⟨r,hr,wS hl⟩
  cases hl
 cases hl
theorem O1{t:LI2}{x:PV X.Γ}{tx:TV}(hx:VR X P A m h x tx){i:Nat}{v:PV X.Γ}(hl:ZH X P t x i=some v):∃w,ND P t tx i=some w∧VR X P A m h v w:=by
 unfold ZH at hl;split at hl
 .rename_i fs cs hu;split at hl
  .rename_i f hf;cases hx with
   |agg h1 h2=>
    obtain⟨w,g1,g2⟩:=Az ⟨h1,h2⟩ hl;exact⟨w,by simp only[ND,hu,hf,g1],g2⟩
   |gone hi _ _=>simp[bn]at hi
  cases hl
 cases hl
theorem O4{t:LI2}{x i:PV X.Γ}{tx ti:TV}(hx:VR X P A m h x tx)(hi:VR X P A m h i ti){v:PV X.Γ}(hl:ZI X P t x i=some v):∃w,J5 P t tx ti=some w∧VR X P A m h v w:=by
 unfold ZI at hl;split at hl
 .rename_i len e cs hu;split at hl
  .rename_i n j hn hj;have:idx len ti=some j:=by
    cases i<;>simp only[a3n]at hj<;>try (cases hj;done)
    cases hi with
    |int=>exact hj
    |gone e _ _=>simp[bn]at e
   cases hx with
   |agg h1 h2=>
    obtain⟨w,g1,g2⟩:=Az ⟨h1,h2⟩ hl;exact⟨w,by simp only[J5,hu,hn,this,g1],g2⟩
   |gone hi _ _=>simp[bn]at hi
  cases hl
 cases hl
end
open Go Tw
section
variable {X:kX} {P:LI1} {A F:Nat->Prop} {m m':List MB} {h h':List HB} {H H':List (PB X.Γ)}
theorem I5:∀{is:List Nat} {H:List (PB X.Γ)} {i:Nat} {pb:PB X.Γ},(aY is H)[i]? = some pb->(i∈is∧pb=.gone)∨(i∉is∧H[i]? = some pb)
 | [],_,_,_,h=>.inr ⟨by simp,h⟩
 |j::is,H,i,pb,h=>by
  rcases I5 (is:=is) (H:=X9 j H) h with⟨h1,h2⟩|⟨h1,h2⟩
  .exact .inl ⟨a3y _ h1,h2⟩
  unfold X9 at h2;by_cases e:j=i
  .subst e;rw[a4Q]at h2;cases hx:H[j]? with
   |none=>rw[hx]at h2;cases h2
   |some y=>rw[hx]at h2;cases h2;exact .inl ⟨a3x,rfl⟩
  rw[a1B e]at h2;exact .inr ⟨by simp[h1,Ne.symm e],h2⟩
theorem lM(hr:HR X P A m H h)(is:List Nat){k ex x:Bool}{e size:Nat}{rows:List (X.Γ e)}{cs:List TV}(hw:eF X P (FA A m is) (bV is m) h e rows cs 0 size)(hc:cs.length=rows.length*size)(hn:rows≠[])(hz:dH P e=some size)(h0:0<size)(hx:ex=true->x=true) :
  ∃m1,HR X P A m1 (aY is H++[.list k ex e rows]) (h++[.cells .own cs])∧Fr m h m1 (h++[.cells .own cs])∧Up m m1∧VR X P (AA A m1) m1 (h++[.cells .own cs]) (.own H.length) (.aP h.length 0 rows.length rows.length size x):=by
 have hgo:=hr.aY is;have QV:=iw (h:=h) is m;have uK:(MB.dF (.aP h.length 0 rows.length rows.length size x)).own=some h.length:=by simp only[MB.own];rw[a0E (by simpa using hn)]
 have hF:Fr (bV is m) h (bV is m++[.dF (.aP h.length 0 rows.length rows.length size x)]) (h++[.cells .own cs]):=by
  refine⟨by simp,fun b hb _=>by rw[a0C hb],fun b hb=>?_,fun b cs hc=>⟨cs,by rw[fP (a0C (fM hc)),hc],a0P _⟩⟩;rw[jh,a3P,kJ,uK]at hb;rcases hb with hb|hb
  .exact .inl hb
  .simp at hb;exact .inr (by omega)
 obtain⟨h1,h2,h3⟩:=hgo.push (pb:=.list k ex e rows) (hb:=.cells .own cs) (.inl uK)
  (LR.some (kk:=.own) hn hz h0 (by simp) (by simp) (fun _=>rfl) hx hc ((hw.mono fun b hb=>hb.gone hr).step hF (wR _)))
 refine⟨_,h1,QV.1.trans h2,QV.2.trans h3,.own ?_ rfl⟩;rw[<-hr.len,<-mW is m];simp
theorem SS(hr:HR X P A m H h)(is:List Nat){k ex:Bool}{e:Nat}{y:TV}(hy:(MB.dF y).own=none)(ho:iY y=true)(hl:LR X P (AA A (bV is m++[.dF y])) (bV is m++[.dF y]) h k ex e [] y) :
  ∃m1,HR X P A m1 (aY is H++[.list k ex e []]) h∧Fr m h m1 h∧Up m m1∧VR X P (AA A m1) m1 h (.own H.length) y:=by
 have QV:=iw (h:=h) is m;obtain⟨h1,h2,h3⟩:=(hr.aY is).acG (pb:=.list k ex e []) hy hl;refine⟨_,h1,QV.1.trans h2,QV.2.trans h3,.own ?_ ho⟩;rw[<-hr.len,<-mW is m];simp
theorem aa8(hr:HR X P A m H h){is:List Nat}{y:TV}(hy:(MB.dF y).own=none){b:Nat}(hb:FA A m is b):AA A (bV is m++[.dF y]) b:=by have:=hb.gone hr;refine⟨this.1,fun hm=>this.2 ?_⟩;rw[jh,a3P,kJ,hy]at hm;simpa using hm
theorem push_empty(hr:HR X P A m H h)(is:List Nat){k ex:Bool}{e size b off:Nat}{cs:List TV}(hz:dH P e=some size)(h0:0<size)(ha:FA A m is b)(hb:aW h b=some cs)(ho:off<=cs.length) :
  ∃m1,HR X P A m1 (aY is H++[.list k ex e []]) h∧Fr m h m1 h∧Up m m1∧VR X P (AA A m1) m1 h (.own H.length) (.aP b off 0 0 size true):=
 SS hr is rfl rfl (LR.emp (aa8 hr rfl ha) hb ho hz h0)
theorem OL(hr:HR X P A m H h)(is:List Nat){k ex:Bool}{e:Nat} :
  ∃m1,HR X P A m1 (aY is H++[.list k ex e []]) h∧Fr m h m1 h∧Up m m1∧VR X P (AA A m1) m1 h (.own H.length) (.nil .aP):=
 SS hr is rfl rfl .nil
theorem OM(hr:HR X P A m H h){b c:Nat}(is:List Nat){mb MS:MB}{pb:PB X.Γ}{h1:List HB}(hb:m[b]? = some mb)(ho:mb.own=some c)(ho':MS.own=some c)(hlen:h1.length=h.length)(hs:∀d,d≠c->h1[d]? = h[d]?)
  (hg:∀cs,aW h c=some cs->∃cs',aW h1 c=some cs'∧cs.length<=cs'.length)
  (qN:Fr m h (bV (b::is) m++[MS]) h1->Up m (bV (b::is) m++[MS])->BR X P (AA A (bV (b::is) m++[MS])) (bV (b::is) m++[MS]) h1 pb MS) :
  ∃m1,m1=bV (b::is) m++[MS]∧HR X P A m1 (aY (b::is) H++[pb]) h1∧Fr m h m1 h1∧Up m m1∧m1[H.length]? = some MS:=by
 have QV:=iw (h:=h) (b::is) m;have hgo:=hr.aY (b::is);have hnc:c∉bg (bV (b::is) m):=fun hm=>by obtain⟨j,mbj,g1,g2,g3⟩:=AB hm;have:=jc hr.nodup hb g2 ho g3;exact g1 (by rw[<-this];exact a3x)
 have zk:∀d,d∈bg (bV (b::is) m++[MS])↔d∈bg (bV (b::is) m)∨d=c:=by intro d;rw[jh,a3P,kJ,ho'];simp
 have Gf:c∈bg m:=bf hb ho;have hF:Fr m h (bV (b::is) m++[MS]) h1:=by
  refine⟨by omega,fun d hd hn=>hs d fun e=>hn (e▸Gf),fun d hd=>?_,fun d cs hc=>?_⟩
  .rcases(zk d).1 hd with hd|rfl
   .exact QV.1.new d hd
   .exact .inl Gf
  .by_cases e:d=c
   .subst e;exact hg cs hc
   .exact⟨cs,by rw[fP (hs d e),hc],a0P _⟩
 have hU:Up m (bV (b::is) m++[MS]):=QV.2.trans (wR _);refine⟨_,rfl,?_,hF,hU,?_⟩
 .refine hr.next hF hU (by simp[mW,nZ,hr.len]) ?_ fun i pbi hi=>?_
  .rw[jh,kJ,ho'];refine a9l.2 ⟨hgo.nodup,by simp,fun a ha b' yg e=>?_⟩;simp at yg;subst yg;subst e;exact hnc ha
  .rcases a4N i (aY (b::is) H).length with aT|EW
   .rw[a0C aT]at hi;have a6z:i<(bV (b::is) m).length:=by rw[hgo.len];exact aT
    rcases I5 hi with⟨e1,rfl⟩|⟨e1,e2⟩
    .obtain⟨mbi,g1,g2⟩:=hgo.at_ i _ hi;cases mbi with
     |gone=>exact .inr ⟨.gone,by rw[a0C a6z];exact g1,trivial⟩
     |_=>exact g2.elim
    .obtain⟨mbi,g1,_⟩:=hr.at_ i _ e2;left;have hm:=Hu (b::is) g1;rw[show(b::is).contains i=false by simpa using e1]at hm;refine⟨mbi,e2,g1,by rw[a0C a6z];simpa using hm,fun d hd=>hs d fun e=>?_⟩;subst e;have:=jc hr.nodup hb g1 ho hd;exact e1 (by rw[<-this];exact a3x)
   .rw[a0T EW]at hi;have:i-(aY (b::is) H).length=0:=by
     rcases abu (i-(aY (b::is) H).length)with h|h
     .exact h
     .rw[a4L (by simp;omega)]at hi;cases hi
    rw[this]at hi;simp only[a2Z,a0d]at hi;subst hi;exact .inr ⟨MS,by rw[a0T (by rw[hgo.len];exact EW),hgo.len,this];rfl,qN hF hU⟩
 .have:H.length=(bV (b::is) m).length:=by rw[mW,hr.len]
  rw[this];simp
end
open Go Tw
section
variable {X:kX} {P:LI1} {A F:Nat->Prop} {m m':List MB} {h h':List HB} {H H':List (PB X.Γ)}
def Xi(X:kX)(P:LI1)(A:Nat->Prop)(m:List MB)(ts:St)(r:Option (TV×St×mF))(v:PV X.Γ)(H1:List (PB X.Γ))(pi:PI):Prop:=
 ∃w h1 ti m1,r=some (w,{ ts with heap:=h1 },ti)∧HR X P A m1 H1 h1∧VR X P (AA A m1) m1 h1 v w∧Fr m ts.heap m1 h1∧Up m m1∧IR m ts.heap pi ti∧∀b,.h b∈ti.ws->b∈bg m
theorem jV{e:LI2}{n k:Nat}(hb:uj P e n=true)(hk:k<=n):uj P e k=true:=by
 unfold uj at hb ⊢;split at hb
 .rename_i i hi;simp only[a2O,a1z]at hb ⊢;obtain⟨⟨⟨⟨h1,h2⟩,h3⟩,h4⟩,h5⟩:=hb;have:=a3V i.bytes hk;exact⟨⟨⟨⟨by omega,by omega⟩,h3⟩,h4⟩,h5⟩
 cases hb
theorem o9{t e:LI2}{n:Nat}(hs:jM P t=some (e,n)):dH P e=some n∧0<n:=by
 unfold jM at hs;split at hs
 .split at hs
  .rename_i k hk;split at hs
   .cases hs
   rename_i h0;simp only[a0d,a0J]at hs;obtain⟨rfl,rfl⟩:=hs;exact⟨hk,by omega⟩
  cases hs
 cases hs
theorem uo(hr:HR X P A m H h){e sz:Nat}{x:PV X.Γ}{tx:TV}(hv:VR X P (AA A m) m h x tx)(hz:dH P e=some sz){rows:List (X.Γ e)}{is:List Nat}(hs:Aq X H e sz x=some (rows,is)){b:Nat}(hb:.h b∈dw tx):((∃i,.h i∈yQ X x∧G9 m i b)∨b∉bg m)∧b<h.length:=by
 have lr:∀{i:Nat} {k ex:Bool} {t:Nat} {l:List (X.Γ t)} {c off len cap s:Nat} {e':Bool},H[i]? = some (.list k ex t l)->m[i]? = some (.dF (.aP c off len cap s e'))->(G9 m i c∨c∉bg m)∧c<h.length:=by
  intro i k ex t l c off len cap s e' hH hm;obtain⟨mb,g1,g2⟩:=hr.at_ i _ hH;rw[hm]at g1;cases g1;cases(g2:LR X P _ _ _ _ _ _ _ _)with
  |emp h0 h1=>exact⟨.inr h0.2,fM h1⟩
  |some q1 q2 q3 q4=>exact⟨.inl (iL hm (by simp only[MB.own];rw[a0E (by simpa using q1)])),(a0h.1 q4).1⟩
 cases x with
 |nil k=>
  cases hv with
  |nil=>simp[dw]at hb
  |gone hi _ _=>simp[bn]at hi
 |dF t l fu=>
  cases hv with
  |pK=>simp[dw]at hb
  |dF a ac=>simp[dw]at hb;subst hb;exact⟨.inr a.2,fM ac⟩
  |gone hi _ _=>simp[bn]at hi
 |own i=>
  simp only[Aq]at hs;split at hs
  .rename_i k ex t l hH;cases hv with
   |own e' o=>
    cases tx<;>simp[dw]at hb
    subst hb;obtain⟨h1,h2⟩:=lr hH e';rcases h1 with h1|h1
    .exact⟨.inl ⟨i,by simp[yQ],h1⟩,h2⟩
    exact⟨.inr h1,h2⟩
   |gone hi e' _=>
    simp only[bn,a0d]at hi;subst hi;obtain⟨mb,g1,g2⟩:=hr.at_ i _ hH;rw[g1]at e';cases e'<;>exact g2.elim
  cases hs
 |win i o n=>
  simp only[Aq]at hs;split at hs
  .rename_i k ex t l hH;cases hv with
   |win e' q q'=>
    simp[dw]at hb;subst hb;obtain⟨h1,h2⟩:=lr hH e';rcases h1 with h1|h1
    .exact⟨.inl ⟨i,by simp[yQ],h1⟩,h2⟩
    exact⟨.inr h1,h2⟩
   |BQ=>simp[dw]at hb
   |gone hi e' _=>
    simp only[bn,a0d]at hi;subst hi;obtain⟨mb,g1,g2⟩:=hr.at_ i _ hH;rw[g1]at e';cases e'<;>exact g2.elim
  cases hs
 |aP c off len cap s ex=>
  simp only[Aq]at hs;split at hs
  .rename_i cs hH;cases hv with
   |aP e'=>
    simp[dw]at hb;subst hb;obtain⟨mb,g1,g2⟩:=hr.at_ c _ hH;rw[e']at g1;cases g1;exact⟨.inl ⟨c,by simp[yQ],iL e' rfl⟩,g2.has rfl⟩
   |gone hi e' _=>
    simp only[bn,a0d]at hi;subst hi;obtain⟨mb,g1,g2⟩:=hr.at_ c _ hH;rw[g1]at e';cases e'<;>exact g2.elim
  cases hs
 |_=>simp[Aq]at hs
theorem IR.reads{p:PI}{ks:List Key}(hp:p.hp=true)(hk:∀b,.h b∈ks->((∃i,.h i∈p.i.ts∧G9 m i b)∨b∉bg m)∧b<h.length)(hl:∀k,.l k∉ks):IR m h p (fJ ks):=
 ⟨fun h=>(by cases h),fun k h=>absurd h (hl k),fun k h=>(by cases h),fun b h=>(by cases h),hk,fun h=>(by rw[hp]at h;cases h)⟩
theorem lN{tx:TV}{k:Nat}:Key.l k∉dw tx:=by cases tx<;>simp[dw]
theorem Jd(hX:bT X P){ps:aU X.Γ}{ts:St}(hR:vg X P A m ps ts){at_:Array LI2}{d x:PV X.Γ}{td tx:TV}(hd:VR X P (AA A m) m ts.heap d td)(hx:VR X P (AA A m) m ts.heap x tx){v:PV X.Γ}{H1:List (PB X.Γ)}{pi:mF}{qs:List Prop}
  (hl:UM X P at_ ps.heap d x=some (v,H1,pi,qs)) (hq:∀q∈qs,q):Xi X P A m ts (jl P at_ ts td tx) v H1 ⟨pi,false,false,true⟩:=by
 have hr:=hR.heap;unfold UM at hl;split at hl
 .rename_i st xt uX GR;split at hl
  .cases hl
  .rename_i hint;split at hl
   .rename_i e size yM;split at hl
    .rename_i FK;obtain⟨hz,h0⟩:=o9 yM;split at hl
     .rename_i rows is hs;obtain⟨new,s1,s2,s3⟩:=V6 (m':=bV is m) hX hr hx hz hs;have hk0:IR m ts.heap ⟨fJ (yQ X x),false,false,true⟩ (fJ (dw tx)):=IR.reads rfl (fun b hb=>uo hr hx hz hs hb) fun k=>lN;have hrn:rows.length=0↔rows=[]:=a5n;split at hl
      .-- nil
       simp only[a0d,a0J]at hl;obtain⟨rfl,rfl,rfl,rfl⟩:=hl;have IX:rows.length<=ah:=hq _ a3x;have:td=.nil .aP:=by
        cases hd with
        |nil=>rfl
        |gone hi _ _=>simp[bn]at hi
       subst this;by_cases hn:rows=[]
       .subst hn;obtain⟨m1,g1,g2,g3,g4⟩:=OL hr is (k:=true) (ex:=false) (e:=e);exact⟨_,ts.heap,_,m1,by unfold jl;simp only[uX,GR,hint,a3T,yM,s1,a5s,a2u,a2S],g1,g4,g2,g3,hk0,fun b hb=>by simp[fJ]at hb⟩
       .obtain⟨m1,g1,g2,g3,g4⟩:=lM hr is (k:=true) (ex:=false) (x:=false) s3 s2 hn hz h0 (by simp);refine⟨_,ts.heap++[.cells .own new],_,m1,?_,g1,g4,g2,g3,hk0,fun b hb=>by simp[fJ]at hb⟩;unfold jl;simp only[uX,GR,hint,a3T,yM,s1,a2S,hrn,hn,s2,a2u,jV FK IX]
      .-- an own list
       rename_i b;split at hl
       .rename_i k ex t' l hb;split at hl
        .cases hl
        rename_i hnb;split at hl
        .rename_i l2 I7;obtain⟨rfl,rfl⟩:=rJ I7;simp only[a0d,a0J]at hl;obtain⟨rfl,rfl,rfl,rfl⟩:=hl;have IX:l2.length+rows.length<=ah:=hq _ a3x;obtain⟨mb,g1,g2⟩:=hr.at_ b _ hb;have Rz:∀{c:Nat},G9 m b c∨c∉bg m->c<ts.heap.length->IR m ts.heap ⟨⟨false,.h b::yQ X x,[.h b]⟩,false,false,true⟩ (fJ (.h c::dw tx)):=fun{c} hc aT=>IR.reads rfl (fun d hd=>by
          rcases a1Y.1 hd with e0|e0
          .cases e0;rcases hc with hc|hc
           .exact⟨.inl ⟨b,a3x,hc⟩,aT⟩
           .exact⟨.inr hc,aT⟩
          .obtain⟨h0,h9⟩:=uo hr hx hz hs e0;rcases h0 with⟨i,h1,h2⟩|h1
           .exact⟨.inl ⟨i,a3y _ h1,h2⟩,h9⟩
           .exact⟨.inr h1,h9⟩) fun j hj=>by
            rcases a1Y.1 hj with e0|e0
            .cases e0
            .exact lN e0
         have kQ:IR m ts.heap ⟨⟨false,.h b::yQ X x,[.h b]⟩,false,false,true⟩ (fJ (dw tx)):=IR.reads rfl (fun d hd=>by
          obtain⟨h0,h9⟩:=uo hr hx hz hs hd;rcases h0 with⟨i,h1,h2⟩|h1
          .exact⟨.inl ⟨i,a3y _ h1,h2⟩,h9⟩
          .exact⟨.inr h1,h9⟩) fun j hj=>lN hj
         cases mb with
         |dF z=>
          cases hd with
          |gone hi e' _=>simp only[bn,a0d]at hi;subst hi;rw[g1]at e';cases e'
          |own e' o=>
           rw[g1]at e';cases e';have hlr:LR X P (AA A m) m ts.heap k ex t' l2 td:=g2;have Uo:eF X P (FA A m (b::is)) (bV (b::is) m) ts.heap t' rows new 0 size:=(s3.mono fun c hc=>FA.mono (fun i hi=>a3y _ hi) hc).jy hX;cases hlr with
           |nil=>
            simp only[a9q];by_cases hn:rows=[]
            .subst hn;obtain⟨m1,f1,f2,f3,f4⟩:=OL hr (b::is) (k:=k&&ex) (ex:=false) (e:=t');exact⟨_,ts.heap,_,m1,by unfold jl;simp only[uX,GR,hint,a3T,yM,s1,a5s,a2u,a2S],f1,f4,f2,f3,kQ,fun c hc=>by simp[fJ]at hc⟩
            .obtain⟨m1,f1,f2,f3,f4⟩:=lM hr (b::is) (k:=k&&ex) (ex:=false) (x:=false) Uo s2 hn hz h0 (by simp);refine⟨_,ts.heap++[.cells .own new],_,m1,?_,f1,f4,f2,f3,kQ,fun c hc=>by simp[fJ]at hc⟩;unfold jl;simp only[uX,GR,hint,a3T,yM,s1,a2S,hrn,hn,s2,a2u,jV FK (show rows.length<=ah by omega)]
           |emp p0 p1 p2 p3 p4=>
            rename_i c off sz cs;rw[hz]at p3;cases p3;simp only[a9q];by_cases hn:rows=[]
            .subst hn;obtain⟨m1,f1,f2,f3,f4⟩:=push_empty hr (b::is) (k:=k&&ex) (ex:=false) hz h0 (.inl p0) p1 p2;exact⟨_,ts.heap,_,m1,by unfold jl;simp only[uX,GR,hint,a3T,yM,s1,a5s,a2u,a2S],f1,f4,f2,f3,kQ,fun c hc=>by simp[fJ]at hc⟩
            .obtain⟨m1,f1,f2,f3,f4⟩:=lM hr (b::is) (k:=k&&ex) (ex:=false) (x:=false) Uo s2 hn hz h0 (by simp);refine⟨_,ts.heap++[.cells .own new],_,m1,?_,f1,f4,f2,f3,Rz (c:=c) (.inr p0.2) (fM p1),fun c hc=>by simp[fJ]at hc⟩;have nO:eu size ts.heap (.aP c off 0 0 size true)=some (0,[]):=(by simp[eu]);unfold jl;simp only[uX,GR,hint,a3T,yM,s1,a2S,hrn,hn,s2,a2u,a3W,Nat.le_zero_eq,jV FK (show rows.length<=ah by omega),nO,a0O,a9q]
           |some p1 p2 p3 p4 p5 p6 p7 p8 p9=>
            rename_i c sz xx kk cs;rw[hz]at p2;cases p2;have uK:(MB.dF (TV.aP c 0 l2.length l2.length size xx)).own=some c:=by simp only[MB.own];rw[a0E (by simpa using p1)]
            by_cases hn:rows=[]
            .subst hn;simp only[a6f];obtain⟨m1,f0,f1,f2,f3,f4⟩:=OM (pb:=.list (k&&ex) false t' l2) hr is g1 uK uK rfl (fun _ _=>rfl) (fun cs hc=>⟨cs,hc,a0P _⟩) (fun hF hU=>LR.some p1 hz p3 p4 p5 (fun hk=>p6 (by simp at hk;exact hk.1)) (by simp) p8 (p9.step hF hU));exact⟨_,ts.heap,_,m1,by unfold jl;simp only[uX,GR,hint,a3T,yM,s1,a5s,a2u,a2S],f1,.own f4 rfl,f2,f3,kQ,fun c hc=>by simp[fJ]at hc⟩
            .have hle:¬l2.length+rows.length<=l2.length:=by have:rows.length≠0:=fun e0=>hn (hrn.1 e0);omega
             have iD:l2++rows≠[]:=(by simp[p1]);cases xx with
             |true=>
              have hold:eu size ts.heap (.aP c 0 l2.length l2.length size true)=some (l2.length,cs):=by simp only[eu,a2u];rw[a0E (fun e0=>p1 (a5n.1 e0)),wP p4 (by omega)];simp only[sub];rw[a0F (by omega),aav,a9u (by omega)];rfl
              have hw1:eF X P (FA A m (b::is)) (bV (b::is) m) ts.heap t' l2 cs 0 size:=(p9.mono fun c hc=>.inl hc).jy hX;obtain⟨m1,f1,f2,f3,f4⟩:=lM hr (b::is) (k:=k&&ex) (ex:=false) (x:=false) (hw1.app Uo p8) (by rw[a1U,a1U,a3U,p8,s2]) iD hz h0 (by simp);refine⟨_,ts.heap++[.cells .own (cs++new)],_,m1,?_,f1,f4,f2,f3,Rz (c:=c) (.inl (iL g1 uK)) (a0h.1 p4).1,fun c hc=>by simp[fJ]at hc⟩;unfold jl;simp only[uX,GR,hint,a3T,yM,s1,a2S,hrn,hn,s2,a2u,hle,jV FK IX,hold,a0O,a1U]
             |false=>
              have hex:ex=false:=by cases ex with
               |true=>exact absurd (p7 rfl) (by simp)
               |false=>rfl
              subst hex;have aT:=(a0h.1 p4).1;obtain⟨m1,f0,f1,f2,f3,f4⟩:=OM (pb:=.list (k&&false) false t' (l2++rows)) (h1:=ts.heap.set c (.cells kk.more (cs++new))) (MS:=.dF (.aP c 0 (l2.length+rows.length) (l2.length+rows.length) size false)) hr is g1 uK
               (by simp only[MB.own];rw[a0E (by omega)]) (by simp) (fun d hd=>a1B (Ne.symm hd)) (fun Xg Gu=>⟨cs++new,by simp[aW,aT],by
                simp only[aW,p4,a0d]at Gu;subst Gu;simp⟩) (fun hF hU=>by
                have QV:=iw (h:=ts.heap) (b::is) m;have QK:∀q cs',FA A m is q->aW ts.heap q=some cs'->AA A (bV (b::is) m++[.dF (.aP c 0 (l2.length+rows.length) (l2.length+rows.length) size false)]) q∧(ts.heap.set c (.cells kk.more (cs++new)))[q]? = ts.heap[q]?:=fun q cs' hq hc=>by
                 have YM:q≠c:=fun e0=>by
                  subst e0;rcases hq with hq|⟨i,mb,e1,e2,e3⟩
                  .exact hq.2 (bf g1 uK)
                  .have:=jc hr.nodup g1 e2 uK e3;subst this;exact hnb (by simpa using e1)
                 have hg:=FA.gone hr (FA.mono (js:=b::is) (fun i hi=>a3y _ hi) hq);refine⟨⟨hg.1,fun hm=>?_⟩,a1B (Ne.symm YM)⟩;rw[jh,a3P,kJ]at hm;rcases hm with hm|hm
                 .exact hg.2 hm
                 .simp only[MB.own]at hm;rw[a0E (by omega)]at hm;simp at hm;exact YM hm
                have:=LR.some (X:=X) (P:=P) (A:=AA A (bV (b::is) m++[.dF (.aP c 0 (l2.length+rows.length) (l2.length+rows.length) size false)])) (m:=bV (b::is) m++[.dF (.aP c 0 (l2.length+rows.length) (l2.length+rows.length) size false)]) (h:=ts.heap.set c (.cells kk.more (cs++new))) (k:=k&&false) (ex:=false) (t:=t') (l:=l2++rows) (b:=c) (sz:=size) (e:=false) (kk:=kk.more) (cs:=cs++new)
                 iD hz h0 (by simp[aT]) (by cases kk<;>simp[BK.more]) (by simp) (by simp) (by rw[a1U,a1U,a3U,p8,s2]) ((p9.step hF hU).app (s3.move hX QK) p8)
                rw[a1U]at this;exact this)
              refine⟨_,ts.heap.set c (.cells kk.more (cs++new)),⟨false,.h c::dw tx,[.h c]⟩,m1,?_,f1,.own f4 rfl,f2,f3,⟨fun h=>(by cases h),fun j hj=>?_,fun j hj=>(by simp at hj),fun d hd=>?_,fun d hd=>?_,fun h=>(by cases h)⟩,fun d hd=>?_⟩
              .unfold jl;simp only[uX,GR,hint,a3T,yM,s1,a2S,hrn,hn,s2,a2u,hle,jV FK IX,p4,ne_eq,not_true_eq_false,p5,p8,a5n,p1,or_self]
              .rcases a1Y.1 hj with e0|e0
               .cases e0
               .exact absurd e0 lN
              .simp at hd;subst hd;exact .inl ⟨b,by simp,iL g1 uK⟩
              .rcases a1Y.1 hd with e0|e0
               .cases e0;exact⟨.inl ⟨b,a3x,iL g1 uK⟩,aT⟩
               .obtain⟨h0,h9⟩:=uo hr hx hz hs e0;rcases h0 with⟨i,h1,h2⟩|h1
                .exact⟨.inl ⟨i,a3y _ h1,h2⟩,h9⟩
                .exact⟨.inr h1,h9⟩
              .simp at hd;subst hd;exact bf g1 uK
         |_=>exact g2.elim
        .cases hl
       .cases hl
      .-- a full frozen list
       rename_i t' l;split at hl
       .rename_i l2 I7;obtain⟨rfl,rfl⟩:=rJ I7;simp only[a0d,a0J]at hl;obtain⟨rfl,rfl,rfl,rfl⟩:=hl;have IX:l2.length+rows.length<=ah:=hq _ a3x;have GH:l2=[]∨rows≠[]:=hq _ (a3y _ a3x);cases hd with
        |gone hi _ _=>simp[bn]at hi
        |pK=>
         simp only[a9q];by_cases hn:rows=[]
         .subst hn;obtain⟨m1,f1,f2,f3,f4⟩:=OL hr is (k:=true) (ex:=false) (e:=t');exact⟨_,ts.heap,_,m1,by unfold jl;simp only[uX,GR,hint,a3T,yM,s1,a5s,a2u,a2S],f1,f4,f2,f3,hk0,fun c hc=>by simp[fJ]at hc⟩
         .obtain⟨m1,f1,f2,f3,f4⟩:=lM hr is (k:=true) (ex:=false) (x:=false) s3 s2 hn hz h0 (by simp);refine⟨_,ts.heap++[.cells .own new],_,m1,?_,f1,f4,f2,f3,hk0,fun c hc=>by simp[fJ]at hc⟩;unfold jl;simp only[uX,GR,hint,a3T,yM,s1,a2S,hrn,hn,s2,a2u,jV FK (show rows.length<=ah by omega)]
        |dF p1 p2 p2' p3 p4 p5 p6 p7 p8 p9=>
         rename_i c off cap sz xx cs;rw[hz]at p3;cases p3;obtain⟨rfl,rfl⟩:=p7 rfl;have hk3:IR m ts.heap ⟨fJ (yQ X x),false,false,true⟩ (fJ (.h c::dw tx)):=IR.reads rfl (fun d hd=>by
          rcases a1Y.1 hd with e0|e0
          .cases e0;exact⟨.inr p1.2,fM p2⟩
          .exact uo hr hx hz hs e0) fun j hj=>by
           rcases a1Y.1 hj with e0|e0
           .cases e0
           .exact lN e0
         by_cases hn:rows=[]
         .have qO:l2=[]:=by rcases GH with h1|h1;exact h1;exact absurd hn h1
          subst hn;subst qO;obtain⟨m1,f1,f2,f3,f4⟩:=push_empty hr is (k:=true) (ex:=false) hz h0 (.inl p1) p2 (by simpa using p5);exact⟨_,ts.heap,_,m1,by unfold jl;simp only[uX,GR,hint,a3T,yM,s1,a5s,a2u,a2S],f1,f4,f2,f3,hk0,fun c hc=>by simp[fJ]at hc⟩
         .have hle:¬l2.length+rows.length<=l2.length:=by have:rows.length≠0:=fun e0=>hn (hrn.1 e0);omega
          have hw1:eF X P (FA A m is) (bV is m) ts.heap t' l2 ((cs.drop off).take (l2.length*size)) 0 size:=by have hh:eF X P (AA A m) m ts.heap t' l2 cs off size:=⟨p8,p5,p9⟩;exact(hh.take.mono fun c hc=>.inl hc).jy hX
          have hlen:((cs.drop off).take (l2.length*size)).length=l2.length*size:=by rw[a4C,a4l];omega
          obtain⟨m1,f1,f2,f3,f4⟩:=lM hr is (k:=true) (ex:=false) (x:=false) (hw1.app s3 hlen) (by rw[a1U,a1U,a3U,hlen,s2]) (by simp[hn]) hz h0 (by simp);refine⟨_,ts.heap++[.cells .own ((cs.drop off).take (l2.length*size)++new)],_,m1,?_,f1,f4,f2,f3,hk3,fun c hc=>by simp[fJ]at hc⟩;have nO:eu size ts.heap (.aP c off l2.length l2.length size true)=some (l2.length,(cs.drop off).take (l2.length*size)):=by
           simp only[eu,a2u,sub];by_cases qO:l2.length=0
           .rw[a0F qO,qO,acF,List.take_zero]
           .rw[a0E qO,p2' (fun e0=>qO (by rw[e0];rfl))];simp only;rw[a0F p5];rfl
          unfold jl;simp only[uX,GR,hint,a3T,yM,s1,a2S,hrn,hn,s2,a2u,hle,jV FK IX,nO,a0O,a1U]
       .cases hl
      .-- a clipped own list
       rename_i b;split at hl
       .rename_i k ex t' l hb;split at hl
        .rename_i l2 I7;obtain⟨rfl,rfl⟩:=rJ I7;simp only[a0d,a0J]at hl;obtain⟨rfl,rfl,rfl,rfl⟩:=hl;have IX:l2.length+rows.length<=ah:=hq _ a3x;have hn:rows≠[]:=hq _ (a3y _ a3x);obtain⟨mb,g1,g2⟩:=hr.at_ b _ hb;have kQ:∀d,.h d∈dw tx->((∃i,.h i∈(⟨fJ (.h b::yQ X x),false,false,true⟩:PI).i.ts∧G9 m i d)∨d∉bg m)∧d<ts.heap.length:=fun d hd=>by
          obtain⟨h0,h9⟩:=uo hr hx hz hs hd;rcases h0 with⟨i,h1,h2⟩|h1
          .exact⟨.inl ⟨i,a3y _ h1,h2⟩,h9⟩
          .exact⟨.inr h1,h9⟩
         have hk3:IR m ts.heap ⟨fJ (.h b::yQ X x),false,false,true⟩ (fJ (dw tx)):=IR.reads rfl kQ fun j hj=>lN hj;have Rz:∀{c:Nat},G9 m b c∨c∉bg m->c<ts.heap.length->IR m ts.heap ⟨fJ (.h b::yQ X x),false,false,true⟩ (fJ (.h c::dw tx)):=fun{c} hc aT=>IR.reads rfl (fun d hd=>by
          rcases a1Y.1 hd with e0|e0
          .cases e0;rcases hc with hc|hc
           .exact⟨.inl ⟨b,a3x,hc⟩,aT⟩
           .exact⟨.inr hc,aT⟩
          .exact kQ d e0) fun j hj=>by
           rcases a1Y.1 hj with e0|e0
           .cases e0
           .exact lN e0
         cases mb with
         |dF z=>
          have hlr:LR X P (AA A m) m ts.heap k ex t' l2 z:=g2;cases hd with
          |gone hi e' _=>simp only[bn,a0d]at hi;subst hi;rw[g1]at e';cases e'
          |Jm e'=>
           rw[g1]at e';cases e';cases hlr with
           |nil=>
            simp only[a9q];obtain⟨m1,f1,f2,f3,f4⟩:=lM hr is (k:=true) (ex:=false) (x:=false) s3 s2 hn hz h0 (by simp);refine⟨_,ts.heap++[.cells .own new],_,m1,?_,f1,f4,f2,f3,hk3,fun c hc=>by simp[fJ]at hc⟩;unfold jl;simp only[uX,GR,hint,a3T,yM,s1,a2S,hrn,hn,s2,a2u,jV FK (show rows.length<=ah by omega)]
          |Gv e'=>
           rw[g1]at e';cases e';cases hlr with
           |emp p0 p1 p2 p3 p4=>
            rename_i c off sz cs;rw[hz]at p3;cases p3;simp only[a9q];obtain⟨m1,f1,f2,f3,f4⟩:=lM hr is (k:=true) (ex:=false) (x:=false) s3 s2 hn hz h0 (by simp);refine⟨_,ts.heap++[.cells .own new],_,m1,?_,f1,f4,f2,f3,Rz (c:=c) (.inr p0.2) (fM p1),fun c hc=>by simp[fJ]at hc⟩;have nO:eu size ts.heap (.aP c off 0 0 size true)=some (0,[]):=(by simp[eu]);unfold jl;simp only[uX,GR,hint,a3T,yM,s1,a2S,hrn,hn,s2,a2u,a3W,Nat.le_zero_eq,jV FK (show rows.length<=ah by omega),nO,a0O,a9q]
           |some p1 p2 p3 p4 p5 p6 p7 p8 p9=>
            rename_i c sz xx kk cs;rw[hz]at p2;cases p2;have uK:(MB.dF (TV.aP c 0 l2.length l2.length size xx)).own=some c:=by simp only[MB.own];rw[a0E (by simpa using p1)]
            have hle:¬l2.length+rows.length<=l2.length:=by have:rows.length≠0:=fun e0=>hn (hrn.1 e0);omega
            have iD:l2++rows≠[]:=(by simp[p1]);have hold:eu size ts.heap (.aP c 0 l2.length l2.length size true)=some (l2.length,cs):=by simp only[eu,a2u];rw[a0E (fun e0=>p1 (a5n.1 e0)),wP p4 (by omega)];simp only[sub];rw[a0F (by omega),aav,a9u (by omega)];rfl
            have hw1:eF X P (FA A m is) (bV is m) ts.heap t' l2 cs 0 size:=(p9.mono fun c hc=>.inl hc).jy hX;obtain⟨m1,f1,f2,f3,f4⟩:=lM hr is (k:=true) (ex:=false) (x:=false) (hw1.app s3 p8) (by rw[a1U,a1U,a3U,p8,s2]) iD hz h0 (by simp);refine⟨_,ts.heap++[.cells .own (cs++new)],_,m1,?_,f1,f4,f2,f3,Rz (c:=c) (.inl (iL g1 uK)) (a0h.1 p4).1,fun c hc=>by simp[fJ]at hc⟩;unfold jl;simp only[uX,GR,hint,a3T,yM,s1,a2S,hrn,hn,s2,a2u,hle,jV FK IX,hold,a0O,a1U]
         |_=>exact g2.elim
        .cases hl
       .cases hl
      .cases hl
     .cases hl
    .cases hl
   .cases hl
 .cases hl
end
open Go Tw
theorem Xj{α:Type}{l rows:List α}{o k:Nat}(h:o+k<=l.length)(hk:k<=rows.length):(OB l o k rows).length=l.length:=by unfold OB;simp;omega
theorem a3u{α:Type}{l rows:List α}{o:Nat}:OB l o 0 rows=l:=by unfold OB;simp
section
variable {X:kX} {P:LI1} {A F:Nat->Prop} {m m':List MB} {h h':List HB} {H H':List (PB X.Γ)}
theorem eF.put{t sz o k:Nat}{l rows:List (X.Γ t)}{cs new:List TV}(h1:eF X P F m h t l cs 0 sz)(h2:eF X P F m h t rows new 0 sz)(hc:cs.length=l.length*sz)(hn:new.length=rows.length*sz)(ho:o+k<=l.length)(hk:k<=rows.length) :
  eF X P F m h t (OB l o k rows) (cs.take (o*sz)++new.take (k*sz)++cs.drop (o*sz+k*sz)) 0 sz:=by
 have a1:=(h1.part (o:=0) (n:=o) (by omega)).take;have a2:=(h2.part (o:=0) (n:=k) (by omega)).take;have a3:=(h1.part (o:=o+k) (n:=l.length-(o+k)) (by omega)).take;have l1:((l.drop 0).take o).length=o:=by simp;omega
 have l2:((rows.drop 0).take k).length=k:=by simp;omega
 have l3:((l.drop (o+k)).take (l.length-(o+k))).length=l.length-(o+k):=by simp
 rw[l1]at a1;rw[l2]at a2;rw[l3]at a3;simp only[acF,aek,a3W,aav]at a1 a2 a3;have m1:o*sz<=cs.length:=by rw[hc];exact a3V _ (by omega)
 have m2:k*sz<=new.length:=by rw[hn];exact a3V _ hk
 have r:=(a1.app a2 (by rw[a4C,a4C];rw[a8a m1,a8a (by omega)])).app a3 (by simp only[a1U,a4C];rw[a8a m1,a8a m2,a8a (by omega),a8a hk,a3U])
 have e1:l.drop (o+k)=(l.drop (o+k)).take (l.length-(o+k)):=by rw[a9u (by simp)]
 have e2:cs.drop (o*sz+k*sz)=(cs.drop ((o+k)*sz)).take ((l.length-(o+k))*sz):=by rw[a3U,a9u];rw[a4l,hc,Nat.sub_mul,a3U];omega
 unfold OB;rw[e1,e2];exact r
theorem Ej(hX:bT X P){ps:aU X.Γ}{ts:St}(hR:vg X P A m ps ts){at_:Array LI2}{st e size b o n:Nat}{k0 ex:Bool}{l rows:List (X.Γ e)}{x:PV X.Γ}{td tx:TV}(uX:at_[0]? = some st)(yM:jM P st=some (e,size))(hx:VR X P (AA A m) m ts.heap x tx)
  (hs:Aq X ps.heap e size x=some (rows,[])) (hb:ps.heap[b]? = some (.list k0 ex e l)) {mb:MB} (g1:m[b]? = some mb) (g2:BR X P (AA A m) m ts.heap (.list k0 ex e l) mb)
  (htd:(∃c sz' xx' xx cap,mb=.dF (.aP c 0 l.length l.length sz' xx')∧l≠[]∧td=.aP c (o*sz') n cap sz' xx∧(n=0∨o+cap=l.length))∨(n=0∧(td=.nil .aP∨∃c f cap xx,td=.aP c f 0 cap size xx))) (hon:o+n<=l.length) (O8:isStr tx=false) :
  Xi X P A m ts (Gy P at_ ts td tx) (.int .i64 ((min rows.length n:Nat):Int)) (ps.heap.set b (.list k0 ex e (OB l o (min rows.length n) rows))) ⟨⟨false,.h b::yQ X x,[.h b]⟩,false,false,true⟩:=by
 have hr:=hR.heap;obtain⟨hz,h0⟩:=o9 yM;obtain⟨new,s1,s2,s3⟩:=V6 (m':=m) hX hr hx hz hs;have Uo:eF X P (AA A m) m ts.heap e rows new 0 size:=s3.mono fun q hq=>by
  rcases hq with hq|⟨i,_,hi,_⟩
  .exact hq
  .simp at hi
 have kQ:IR m ts.heap ⟨⟨false,.h b::yQ X x,[.h b]⟩,false,false,true⟩ (fJ (dw tx)):=IR.reads rfl (fun d hd=>by
  obtain⟨h0,h9⟩:=uo hr hx hz hs hd;rcases h0 with⟨i,h1,h2⟩|h1
  .exact⟨.inl ⟨i,a3y _ h1,h2⟩,h9⟩
  .exact⟨.inr h1,h9⟩) fun j hj=>lN hj
 have same:ps.heap.set b (.list k0 ex e l)=ps.heap:=by
  apply aa3;intro i;by_cases e:b=i
  .subst e;rw[a2M (a0h.1 hb).1,hb]
  .rw[a1B e]
 by_cases hk:min rows.length n=0
 .rw[hk,a3u,same];refine⟨.int .i64 0,ts.heap,fJ (dw tx),m,?_,hr,.int _ _,.refl,.refl,kQ,fun c hc=>by simp[fJ]at hc⟩;unfold Gy;simp only[uX,yM,s1,s2,O8,acL,a2u];rcases htd with⟨c,sz',xx',xx,cap,rfl,iD,rfl,wF⟩|⟨rfl,rfl|⟨c,f,cap,xx,rfl⟩⟩
  .have:sz'=size:=by cases g2 with|some _ q2 _ _ _ _ _ _ _=>rw[hz]at q2;cases q2;rfl|emp=>exact absurd rfl iD
   simp only[this,a2u,hk]
  .rfl
  .simp only[a2u,hk]
 .rcases htd with⟨c,sz',xx',xx,cap,rfl,iD,rfl,wF⟩|⟨rfl,_⟩
  .cases g2 with
   |emp=>exact absurd rfl iD
   |some p1 p2 p3 p4 p5 p6 p7 p8 p9=>
    rename_i kk cs;rw[hz]at p2;cases p2;obtain⟨BD,xZ,aeW,hko⟩:=Jo p5;have aiW:o*size+cap*size=cs.length:=by have:=wF.resolve_left (by omega);rw[p8,<-this,a3U]
    have aT:=(a0h.1 p4).1;have uK:(MB.dF (TV.aP c 0 l.length l.length size xx')).own=some c:=by simp only[MB.own];rw[a0E (by simpa using p1)]
    have hkn:o+min rows.length n<=l.length:=(by omega);have hkr:min rows.length n<=rows.length:=Nat.min_le_left _ _;have m1:o*size+min rows.length n*size<=cs.length:=by rw[p8,<-a3U];exact a3V _ hkn
    have m2:min rows.length n*size<=new.length:=by rw[s2];exact a3V _ hkr
    have m3:min (min rows.length n*size) (rows.length*size)=min rows.length n*size:=a8a (by rw[<-s2];exact m2);have aoy:=eF.put p9 Uo p8 s2 hkn hkr;have pV:(cs.take (o*size)++new.take (min rows.length n*size)++cs.drop (o*size+min rows.length n*size)).length=cs.length:=by simp;omega
    have hl:=Xj (rows:=rows) hkn hkr;obtain⟨q1,q2⟩:=hr.set (i:=b) (c:=c) (pb:=.list k0 ex e (OB l o (min rows.length n) rows)) (hb:=.cells BD (cs.take (o*size)++new.take (min rows.length n*size)++cs.drop (o*size+min rows.length n*size))) g1 uK
     (fun Xg Gu=>⟨_,by simp only[aW];rw[a2M aT],by
      simp only[aW,p4,a0d]at Gu;subst Gu;rw[pV];exact a0P _⟩)
     (fun hF=>by
      have ai0:OB l o (min rows.length n) rows≠[]:=fun e0=>by rw[e0]at hl;simp at hl;exact p1 (a5n.1 hl.symm)
      have r:=LR.some (k:=k0) (ex:=ex) (e:=xx') ai0 hz p3 (by rw[a2M aT]) aeW (fun e0=>hko (p6 e0)) p7 (by rw[pV,hl,p8]) (aoy.step hF .refl);rw[hl]at r;exact r)
    refine⟨.int .i64 ((min rows.length n:Nat):Int),_,⟨false,.h c::dw tx,[.h c]⟩,m,?_,q1,.int _ _,q2,.refl,?_,fun d hd=>?_⟩
    .unfold Gy;simp only[uX,yM,s1,s2,O8,acL,a2u,hk,a3T,a1s p4 xZ aiW,wo,a4C,m3,m1,a0O]
    .refine⟨fun h=>(by cases h),fun k hk=>?_,fun k hk=>(by simp at hk),fun d hd=>?_,fun d hd=>?_,fun h=>(by cases h)⟩
     .rcases a1Y.1 hk with e0|e0
      .cases e0
      .exact absurd e0 lN
     .simp at hd;subst hd;exact .inl ⟨b,a3x,iL g1 uK⟩
     .rcases a1Y.1 hd with e0|e0
      .cases e0;exact⟨.inl ⟨b,a3x,iL g1 uK⟩,aT⟩
      .obtain⟨h0,h9⟩:=uo hr hx hz hs e0;rcases h0 with⟨i,h1,h2⟩|h1
       .exact⟨.inl ⟨i,a3y _ h1,h2⟩,h9⟩
       .exact⟨.inr h1,h9⟩
    .simp at hd;subst hd;exact bf g1 uK
  .simp at hk
theorem a6A(hr:HR X P A m H h){e sz:Nat}{x:PV X.Γ}{tx:TV}(hv:VR X P (AA A m) m h x tx){rows:List (X.Γ e)}{is:List Nat}(hs:Aq X H e sz x=some (rows,is)):isStr tx=false:=by
 cases hv with
 |own e' _=>
  unfold Aq at hs;simp only at hs;split at hs
  .rename_i hb;obtain⟨mb,g1,g2⟩:=hr.at_ _ _ hb;rw[e']at g1;cases g1;cases g2<;>rfl
  cases hs
 |gone hi e' _=>
  cases x<;>simp only[bn,a0d]at hi<;>first|cases hi|skip
  all_goals (unfold Aq at hs;simp only at hs)
  all_goals first|(cases hs;done)|skip
  all_goals
   split at hs
   .rename_i hb;obtain⟨mb,g1,g2⟩:=hr.at_ _ _ hb;rw[g1]at e';cases e'<;>exact g2.elim
   .cases hs
 |str=>simp[Aq]at hs
 |_=>rfl
theorem eF.vrs{t sz:Nat}:∀{l:List (X.Γ t)} {cs:List TV},eF X P F m h t l cs 0 sz->cs.length=l.length*sz->bY X P F m h (EM X t l) cs
 | [],cs,_,hl=>by have:cs=[]:=a5n.1 (by simpa using hl);subst this;exact .nil
 |a::r,cs,hw,hl=>by
  have h1:=hw.row (j:=0) (a:=a) rfl;have h2:=(hw.part (o:=1) (n:=r.length) (by simp;omega)).take;have e1:((a::r).drop 1).take r.length=r:=by simp
  rw[e1]at h2;have hl':cs.length=r.length*sz+sz:=by rw[hl,a4K,a3U,abp]
  have e2:(cs.drop (0+1*sz)).take (r.length*sz)=cs.drop sz:=by rw[a3W,abp,a9u];rw[a4l];omega
  rw[e2]at h2;have h3:=eF.vrs h2 (by rw[a4l];omega);have h4:bY X P F m h (X.enc t a) (cs.take sz):=by have:=h1.1;simpa using this
  have:=h4.app h3;rw[List.take_append_drop]at this;exact this
theorem Ur(hX:bT X P){ps:aU X.Γ}{ts:St}(hR:vg X P A m ps ts){at_:Array LI2}{d x:PV X.Γ}{td tx:TV}(hd:VR X P (AA A m) m ts.heap d td)(hx:VR X P (AA A m) m ts.heap x tx){v:PV X.Γ}{H1:List (PB X.Γ)}{pi:mF}
  (hl:a6g X P at_ ps.heap d x=some (v,H1,pi)):Xi X P A m ts (Gy P at_ ts td tx) v H1 ⟨pi,false,false,true⟩:=by
 have hr:=hR.heap;unfold a6g at hl;split at hl
 .rename_i st uX;split at hl
  .rename_i e size yM;obtain⟨hz,h0⟩:=o9 yM;split at hl
   .rename_i rows hs;obtain⟨new,s1,s2,s3⟩:=V6 (m':=m) hX hr hx hz hs;have O8:isStr tx=false:=a6A hr hx hs;split at hl
    .simp only[a0d,a0J]at hl;obtain⟨rfl,rfl,rfl⟩:=hl;have:td=.nil .aP:=by
      cases hd with
      |nil=>rfl
      |gone hi _ _=>simp[bn]at hi
     subst this;exact⟨_,ts.heap,_,m,by unfold Gy;simp only[uX,yM,s1,s2,O8,acL,a2u],hr,.int _ _,.refl,.refl,IR.reads rfl (fun b hb=>uo hr hx hz hs hb) fun k=>lN,fun b hb=>by simp[fJ]at hb⟩
    .rename_i b;split at hl
     .rename_i k0 ex t' l hb;split at hl
      .rename_i l2 I7;obtain⟨rfl,rfl⟩:=rJ I7;simp only[a0d,a0J]at hl;obtain⟨rfl,rfl,rfl⟩:=hl;obtain⟨mb,g1,g2⟩:=hr.at_ b _ hb;refine Ej (o:=0) (n:=l2.length) hX hR uX yM hx hs hb g1 g2 ?_ (by omega) O8;cases hd with
       |gone hi e' _=>simp only[bn,a0d]at hi;subst hi;rw[g1]at e';cases e'<;>exact g2.elim
       |own e' o=>
        rw[g1]at e';cases e';cases g2 with
        |nil=>exact .inr ⟨rfl,.inl rfl⟩
        |emp q1 q2 q3 q4 q5=>rw[hz]at q4;cases q4;exact .inr ⟨rfl,.inr ⟨_,_,_,_,rfl⟩⟩
        |some q1 q2=>rw[hz]at q2;cases q2;exact .inl ⟨_,_,_,_,_,rfl,q1,by rw[acF],.inr (a3W _)⟩
      .cases hl
     .cases hl
    .rename_i b o n;split at hl
     .rename_i k0 ex t' l hb;split at hl
      .rename_i l2 I7;obtain⟨rfl,rfl⟩:=rJ I7;simp only[a0d,a0J]at hl;obtain⟨rfl,rfl,rfl⟩:=hl;obtain⟨mb,g1,g2⟩:=hr.at_ b _ hb;cases hd with
       |gone hi e' _=>simp only[bn,a0d]at hi;subst hi;rw[g1]at e';cases e'<;>exact g2.elim
       |win e' o1 o2 o3=>
        rw[g1]at e';cases e';cases g2 with
        |emp q1 q2 q3 q4 q5=>
         rw[hz]at q4;cases q4;have:n=0:=(by omega);subst this;exact Ej hX hR uX yM hx hs hb g1 (LR.emp q1 q2 q3 hz q5) (.inr ⟨rfl,.inr ⟨_,_,_,_,rfl⟩⟩) o1 O8
        |some q1 q2 q3 q4 q5 q6 q7 q8 q9=>exact Ej hX hR uX yM hx hs hb g1 (LR.some q1 q2 q3 q4 q5 q6 q7 q8 q9) (.inl ⟨_,_,_,_,_,rfl,q1,by rw[a3W],o3⟩) o1 O8
       |BQ e'=>
        rw[g1]at e';cases e';exact Ej hX hR uX yM hx hs hb g1 g2 (.inr ⟨rfl,.inl rfl⟩) (by omega) O8
      .cases hl
     .cases hl
    .rename_i b off len cap sz xx;split at hl
     .rename_i cs hb;split at hl
      .rename_i hc;obtain⟨hc1,Gu⟩:=hc;subst hc1;simp only[a0l,a0J]at hl;obtain⟨SQ,h1,rfl,rfl,rfl⟩:=hl;obtain⟨mb,g1,g2⟩:=hr.at_ b _ hb;cases mb with
       |gq c=>
        obtain⟨cs',g3,g4⟩:=g2;cases hd with
        |gone hi e _=>simp only[bn,a0d]at hi;subst hi;rw[g1]at e;cases e
        |aP e=>
         rw[g1]at e;cases e;have Uo:eF X P (AA A m) m ts.heap _ rows new 0 sz:=s3.mono fun q hq=>by
          rcases hq with hq|⟨i,_,hi,_⟩
          .exact hq
          .simp at hi
         have hv:=(Uo.vrs s2).take (min rows.length len*sz);obtain⟨Jr,g5,g6⟩:=Hz g4 hv h1;have hlen:Jr.length=cs'.length:=by
          unfold wo at g5;split at g5
          .cases g5;simp only[a1U,a4C,a4l]at *;omega
          .cases g5
         have aT:=(a0h.1 g3).1;obtain⟨hr1,hF⟩:=hr.set (pb:=.cells SQ) (hb:=.cells .own Jr) g1 (c:=c) rfl (fun Xg Xh=>⟨Jr,by simp[aW,aT],by
          simp only[aW,g3,a0d]at Xh;subst Xh;omega⟩) fun hF=>⟨Jr,by simp[aT],g6.step hF .refl⟩
         refine⟨.int .i64 ((min rows.length len:Nat):Int),_,⟨false,.h c::dw tx,[.h c]⟩,m,?_,hr1,.int _ _,hF,.refl,?_,fun d hd=>?_⟩
         .unfold Gy;simp only[uX,yM,s1,s2,O8,acL,a2u];rw[a0E (by omega),Xc g3,g5];rfl
         .refine⟨fun h=>(by cases h),fun k hk=>?_,fun k hk=>(by simp at hk),fun d hd=>?_,fun d hd=>?_,fun h=>(by cases h)⟩
          .rcases a1Y.1 hk with e0|e0
           .cases e0
           .exact absurd e0 lN
          .simp at hd;subst hd;exact .inl ⟨b,a3x,iL g1 rfl⟩
          .rcases a1Y.1 hd with e0|e0
           .cases e0;exact⟨.inl ⟨b,a3x,iL g1 rfl⟩,aT⟩
           .obtain⟨h0,h9⟩:=uo hr hx hz hs e0;rcases h0 with⟨i,h1,h2⟩|h1
            .exact⟨.inl ⟨i,a3y _ h1,h2⟩,h9⟩
            .exact⟨.inr h1,h9⟩
         .simp at hd;subst hd;exact bf g1 rfl
       |_=>exact g2.elim
      .cases hl
     .cases hl
    .cases hl
   .cases hl
  .cases hl
 .cases hl
end
open Go Tw
section
variable {X:kX} {P:LI1} {A F:Nat->Prop} {m m':List MB} {h h':List HB} {H H':List (PB X.Γ)}
theorem VPs.nG{ps:List (Nat×PV X.Γ)}{qs:List (Nat×TV)}(hp:VPs X P A m h ps qs):qs.all (fun p=>p.2.cells.all iY)=ps.all fun p=>p.2.cells.all ZB:=by
 induction ps generalizing qs with
 |nil=>
  have:=hp.1;cases qs with
  |nil=>rfl
  |cons=>simp at this
 |cons a ps ih=>
  obtain⟨x,r,rfl,h1,h2⟩:=hp.inv;simp only[aco,Eh (Hy h1),ih h2]
theorem Xk{pl:Nat->Option (Nat×Nat)}:∀{qs:List (Nat×TV)} {xs r:List TV},sJ pl xs qs=some r->r.length=xs.length
 | [],xs,r,h=>by simp only[sJ,a0d]at h;rw[h]
 |(i,v)::qs,xs,r,h=>by
  simp only[sJ]at h;split at h
  .split at h
   .split at h
    .rename_i cs' ho;rw[Xk h];unfold wo at ho;split at ho
     .cases ho;simp only[a1U,a4C,a4l];omega
     cases ho
    cases h
   cases h
  cases h
theorem oG{z:List TV}:∀n,(times z n).length=n*z.length
 | 0=>by simp[times]
 |n+1=>by simp[times,oG n,a3U];omega
theorem um(hX:bT X P){ps:aU X.Γ}{ts:St}(hR:vg X P A m ps ts){t:LI2}{len:Nat}{vs:List (Nat×PV X.Γ)}{xs:List (Nat×TV)}(hv:VPs X P (AA A m) m ts.heap vs xs){v:PV X.Γ}{H1:List (PB X.Γ)}
  {raw:Bool} (hl:yu X P t len ps.heap vs raw=some (v,H1)):Xi X P A m ts ((qJ P t len ts xs).map fun(v,s)=>(v,s,cZ)) v H1 xM:=by
 have hr:=hR.heap;unfold yu at hl;split at hl
 .rename_i e n yM;obtain⟨hz,h0⟩:=o9 yM;split at hl
  .rename_i hc;split at hl
   .rename_i z hzz;obtain⟨z',q1,q2⟩:=HY (A:=AA A m) (m:=m) (h:=ts.heap) hzz;split at hl
    .rename_i WG;split at hl
     .rename_i cs hf;obtain⟨cs',q3,q4⟩:=MV hv (Xd q2 len) hf;have hlen:cs'.length=len*n:=(by rw[Xk q3,oG,<-q2.1,WG]);have hT:∀w h1,(w,h1)=(TV.aP ts.heap.length 0 len len n true,ts.heap++[HB.cells .own cs'])->(qJ P t len ts xs).map (fun(v,s)=>(v,s,cZ))=some (w,{ ts with heap:=h1 },cZ):=by intro w h1 e0;cases e0;simp only[qJ,yM,hv.nG,hc,acL,a2u,q1,<-q2.1,WG,q3,a0O]
      split at hl
      .rename_i rows is hd;cases hl;have hd:yt X ps.heap e n len cs=some (rows,is):=by
        split at hd
        .cases hd
        .exact hd
       obtain⟨e1,hw⟩:=AL (m':=bV is m) hX hr q4 hd;by_cases hn:rows=[]
       .subst hn;have e2:len=0:=(by simpa using e1.symm);subst e2;have RU:cs'=[]:=a5n.1 (by omega);subst RU;have I8:HR X P A (bV is m++[.dF (.aP ts.heap.length 0 0 0 n true)]) (aY is ps.heap++[.list true true e []]) (ts.heap++[.cells .own []])∧_:=(hr.aY is).push (pb:=.list true true e []) (hb:=.cells .own []) (mb:=.dF (.aP ts.heap.length 0 0 0 n true)) (.inr rfl)
         (LR.emp (b:=ts.heap.length) (cs:=[]) ⟨hr.up _ (a0P _),fun hm=>by rw[jh,a3P,kJ]at hm;simp[MB.own]at hm;have:=(hr.aY is).inb hm;omega⟩ (by simp[aW]) (a0P _) hz h0)
        have QV:=iw (h:=ts.heap) is m;refine⟨_,_,_,_,hT _ _ rfl,I8.1,.own ?_ rfl,QV.1.trans I8.2.1,QV.2.trans I8.2.2,.none,fun b hb=>by cases hb⟩;rw[<-hr.len,<-mW is m];simp
       .have I8:=lM hr is (k:=true) (ex:=true) (x:=true) hw (by rw[hlen,e1]) hn hz h0 (by simp);obtain⟨m1,g1,g2,g3,g4⟩:=I8;refine⟨_,_,_,m1,hT _ _ rfl,g1,?_,g2,g3,.none,fun b hb=>by cases hb⟩;rw[e1]at g4;exact g4
      .cases hl;have hp:=hr.push (pb:=.cells cs) (hb:=.cells .own cs') (mb:=.gq ts.heap.length) (.inl rfl) ⟨cs',by simp,q4.step (by
        refine⟨by simp,fun b hb _=>by rw[a0C hb],fun b hb=>?_,fun b cs hc=>⟨cs,by rw[fP (a0C (fM hc)),hc],a0P _⟩⟩;rw[jh,a3P,kJ]at hb;rcases hb with hb|hb
        .exact .inl hb
        .simp[MB.own]at hb;exact .inr (by omega)) (wR _)⟩
       exact⟨_,_,_,_,hT _ _ rfl,hp.1,.aP (by rw[<-hr.len];simp),hp.2.1,hp.2.2,.none,fun b hb=>by cases hb⟩
     .cases hl
    .cases hl
   .cases hl
  .cases hl
 .cases hl
theorem OO{k:IntKind}{n:Int}{x:TV}(hv:VR X P A m h (.int k n) x):x=.int k n:=by
 cases hv with
 |int=>rfl
 |gone hi _ _=>simp[bn]at hi
theorem Xl{t sz:Nat}{a:X.Γ t}{z:List TV}(ha:bY X P F m h (X.enc t a) z)(hz:z.length=sz):∀n,eF X P F m h t (List.replicate n a) (times z n) 0 sz
 | 0=>⟨fun j a hj=>by simp at hj,by simp,fun j a i c v hj=>by simp at hj⟩
 |n+1=>by
  have h1:eF X P F m h t [a] z 0 sz:=by
   refine⟨fun j b hj=>?_,by simp[hz],fun j b i c v hj hi hx=>?_⟩
   .cases j with
    |zero=>simp only[a2Z,a0d]at hj;subst hj;rw[ha.1,hz]
    |succ j=>simp at hj
   cases j with
   |zero=>simp only[a2Z,a0d]at hj;subst hj;exact ha.2 i c v hi (by simpa using hx)
   |succ j=>simp at hj
  have:=h1.app (Xl ha hz n) (by simp[hz]);simpa[aew,times]using this
theorem Ah(hX:bT X P){ps:aU X.Γ}{ts:St}(hR:vg X P A m ps ts){t:LI2}{l c:PV X.Γ}{tl tc:TV}(hvl:VR X P (AA A m) m ts.heap l tl)(hvc:VR X P (AA A m) m ts.heap c tc){v:PV X.Γ}{H1:List (PB X.Γ)}{qs:List Prop}
  (hl:FZ X P t ps.heap l c=some (v,H1,qs)) (hq:∀q∈qs,q):Xi X P A m ts ((sQ P t ts tl tc).map fun(v,s)=>(v,s,cZ)) v H1 xM:=by
 have hr:=hR.heap;unfold FZ at hl;split at hl
 .rename_i e n kl li kc ci yM;obtain⟨hz,h0⟩:=o9 yM;rw[OO hvl,OO hvc];split at hl
  .rename_i FK;split at hl
   .rename_i z hzz;obtain⟨z',q1,q2⟩:=HY (A:=AA A m) (m:=m) (h:=ts.heap) hzz;split at hl
    .rename_i WG;split at hl
     .rename_i a ha;cases hl;have e1:li=ci:=hq _ (by simp);have e2:0<=li:=hq _ (by simp);have e3:li<=(ah:Nat):=hq _ (by simp);subst e1;have hm:li.toNat<=ah:=(by omega);have hm2:ah=2^20:=rfl;have hz2:z'.length=n:=by rw[<-q2.1];exact WG
      have hT:∀w h1,(w,h1)=(TV.aP ts.heap.length 0 li.toNat li.toNat n true,ts.heap++[HB.cells .own (times z' li.toNat)])->(sQ P t ts (.int kl li) (.int kc li)).map (fun(v,s)=>(v,s,cZ))=some (w,{ ts with heap:=h1 },cZ):=by
       intro w h1 e0;cases e0;have hN:∀k,a2I (.int k li)=some li.toNat:=fun k=>by
        have h9:li<=2^40:=by have:((2^20:Nat):Int)<=2^40:=(by decide);rw[hm2]at e3;omega
        simp only[a2I];rw[a0F ⟨e2,h9⟩]
       simp only[sQ,yM,hN,a0P,true_and,jV FK hm,a2u,q1,hz2,a0O]
      have yP:=Xl (m:=m) (h:=ts.heap) (F:=AA A m) (hX.dec ha q2) hz2 li.toNat;have hlen:(times z' li.toNat).length=li.toNat*n:=(by rw[oG,hz2]);by_cases hn:li.toNat=0
      .rw[hn]at hT ⊢;simp only[List.replicate_zero];have I8:=hr.push (pb:=.list true true e []) (hb:=.cells .own (times z' 0)) (mb:=.dF (.aP ts.heap.length 0 0 0 n true)) (.inr rfl)
         (LR.emp (b:=ts.heap.length) (cs:=times z' 0) ⟨hr.up _ (a0P _),fun hm=>by rw[jh,a3P,kJ]at hm;simp[MB.own]at hm;have:=hr.inb hm;omega⟩ (by simp[aW]) (a5i _) hz h0)
       exact⟨_,_,_,_,hT _ _ rfl,I8.1,.own (by rw[<-hr.len];simp) rfl,I8.2.1,I8.2.2,.none,fun b hb=>by cases hb⟩
      .obtain⟨m1,g1,g2,g3,g4⟩:=lM hr [] (k:=true) (ex:=true) (x:=true) (rows:=List.replicate li.toNat a) (yP.mono fun b hb=>.inl hb) (by rw[a6E];exact hlen) (by intro e0;exact hn (by simpa using congrArg List.length e0)) hz h0 (by simp);refine⟨_,_,_,m1,hT _ _ rfl,g1,?_,g2,g3,.none,fun b hb=>by cases hb⟩;rw[a6E]at g4;exact g4
     .cases hl
    .cases hl
   .cases hl
  .cases hl
 .cases hl
end
open Go Tw
section
variable {X:kX} {P:LI1} {A F:Nat->Prop} {m m':List MB} {h h':List HB} {H H':List (PB X.Γ)}
theorem AP{o:Option (PV X.Γ)}{to:Option TV}(ho:OR X P A m h o to){d n:Nat}{a:Int}(he:zC X d o=some a)(h0:0<=a)(h1:a<=n):jF n d to=some a.toNat:=by
 cases o with
 |none=>
  cases to with
  |none=>simp only[zC,a0d]at he;subst he;simp[jF]
  |some=>exact ho.elim
 |some v=>
  cases to with
  |none=>exact ho.elim
  |some x=>
   cases v<;>simp only[zC]at he<;>try (cases he;done)
   cases he;rw[OO ho];simp only[jF,qU];rw[a0F ⟨h0,h1⟩]
theorem OQ{k:IntKind}{n:Int}{to:Option TV}(ho:OR X P A m h (some (.int k n)) to):to=some (.int k n):=by
 cases to with
 |none=>exact ho.elim
 |some x=>rw[OO ho]
theorem rM{to:Option TV}(ho:OR X P A m h none to):to=none:=by
 cases to with
 |none=>rfl
 |some x=>exact ho.elim
theorem MZ{v:PV X.Γ}{to:Option TV}(ho:OR X P A m h (some v) to):∃x,to=some x:=by
 cases to with
 |none=>exact ho.elim
 |some x=>exact⟨x,rfl⟩
theorem aeZ{t e:LI2}{b off len cap sz:Nat}{ex:Bool}(hu:P.underlying t=some (.slice e))(hz:dH P e=some sz){lo hi:Option (PV X.Γ)}{QW QX:Option TV}(h1:OR X P A m h lo QW)(h2:OR X P A m h hi QX){a z:Int}(e1:zC X 0 lo=some a)(e2:zC X len hi=some z)
  (q0:0<=a) (q1:a<=z) (q2:z<=len):qV P t (.aP b off len cap sz ex) QW QX none=some (.aP b (off+a.toNat*sz) (z.toNat-a.toNat) (cap-a.toNat) sz ex):=by
 have g1:=AP h1 e1 (n:=z.toNat) q0 (by omega);have g2:=AP h2 e2 (n:=len) (by omega) q2;simp only[qV,hu,hz,a2u,g2,g1]
theorem aac{t e:LI2}{b off len cap sz:Nat}{ex:Bool}(hu:P.underlying t=some (.slice e))(hz:dH P e=some sz){lo hi:Option (PV X.Γ)}{QW QX:Option TV}(h1:OR X P A m h lo QW)(h2:OR X P A m h hi QX){a z:Int}(e1:zC X 0 lo=some a)(e2:zC X len hi=some z)(hs:hi.isSome)
  (q0:0<=a) (q1:a<=z) (q2:z<=len) (wF:len<=cap) {k:IntKind}:qV P t (.aP b off len cap sz ex) QW QX (some (.int k z))=some (.aP b (off+a.toNat*sz) (z.toNat-a.toNat) (z.toNat-a.toNat) sz true):=by
 have g1:=AP h1 e1 (n:=z.toNat) q0 (by omega);obtain⟨hv,rfl⟩:=a5r.1 hs;obtain⟨x,rfl⟩:=MZ h2;have g3:qU cap (.int k z)=some z.toNat:=by simp only[qU];rw[a0F (by omega)]
 have g2:qU (min z.toNat len) x=some z.toNat:=by
  cases hv<;>simp only[zC]at e2<;>try (cases e2;done)
  cases e2;rw[OO (show VR X P A m h _ x from h2)];simp only[qU];rw[a0F (by omega)]
 simp only[qV,hu,hz,a2u,g3,g2,g1]
theorem ZQ{t e:LI2}{sz:Nat}(hu:P.underlying t=some (.slice e))(hz:dH P e=some sz){lo hi:Option (PV X.Γ)}{QW QX:Option TV}(h1:OR X P A m h lo QW)(h2:OR X P A m h hi QX){a z:Int}(e1:zC X 0 lo=some a)(e2:zC X 0 hi=some z)(q0:a=0)(q1:z=0) :
  qV P t (.nil .aP) QW QX none=some (.nil .aP)∧∀{k:IntKind},hi.isSome->qV P t (.nil .aP) QW QX (some (.int k 0))=some (.nil .aP):=by
 subst q0;subst q1;have g1:=AP h1 e1 (n:=0) (by omega) (by omega);have g2:=AP h2 e2 (n:=0) (by omega) (by omega);have g0:jF 0 0 none=some 0:=rfl;refine⟨by simp only[qV,hu,hz,g0,g1,g2];rfl,fun{k} hs=>?_⟩;obtain⟨hv,rfl⟩:=a5r.1 hs;obtain⟨x,rfl⟩:=MZ h2;have g3:jF 0 0 (some (.int k 0))=some 0:=rfl;simp only[qV,hu,hz,g1,g2,g3] ;rfl
theorem O5{ps:aU X.Γ}{ts:St}(hR:vg X P A m ps ts){t:LI2}{x:PV X.Γ}{tx:TV}(hx:VR X P (AA A m) m ts.heap x tx){lo hi mx:Option (PV X.Γ)}{QW QX tmx:Option TV}(h1:OR X P (AA A m) m ts.heap lo QW)(h2:OR X P (AA A m) m ts.heap hi QX)(h3:OR X P (AA A m) m ts.heap mx tmx){v:PV X.Γ}{qs:List Prop}
  (hl:ZG X P t ps.heap x lo hi mx=some (v,qs)) (hq:∀q∈qs,q):∃w,qV P t tx QW QX tmx=some w∧VR X P (AA A m) m ts.heap v w:=by
 have hr:=hR.heap;unfold ZG at hl;split at hl
 .rename_i e t' l fu hu;split at hl
  .rename_i n a z hz e1 e2;split at hl
   .rename_i ht;subst ht;cases hl;have q0:0<=a:=hq _ (by simp);have q1:a<=z:=hq _ (by simp);have q2:z<=(l.length:Nat):=hq _ (by simp);rw[rM h3,ahF];cases hx with
    |pK=>
     have ea:a=0:=by simp at q2;omega
     have ez:z=0:=by simp at q2;omega
     exact⟨_,(ZQ hu hz h1 h2 e1 e2 ea ez).1,by simp only[List.drop_nil,List.take_nil];exact .pK⟩
    |dF p1 p2 p2' p3 p4 p5 p6 p7 p8 p9=>
     rw[hz]at p3;cases p3;exact⟨_,aeZ hu hz h1 h2 e1 e2 q0 q1 q2,(VR.dF p1 p2 p2' hz p4 p5 p6 p7 p8 p9).part (by omega) (by omega) (.inr (by omega)) (by simp)⟩
    |gone hi _ _=>simp[bn]at hi
   .cases hl
  .rename_i n a z k mv hz e1 e2;split at hl
   .rename_i ht;obtain⟨ht,BF⟩:=ht;subst ht;split at hl
    .rename_i hfu;subst hfu;cases hl;have q0:a=0:=hq _ (by simp);have q2:z=(l.length:Nat):=hq _ (by simp);have q3:mv=z:=hq _ (by simp);subst q3;subst q0;rw[OQ h3];cases hx with
     |pK=>
      have ez:mv=0:=(by simpa using q2);have:=(ZQ hu hz h1 h2 e1 e2 rfl ez).2 (k:=k) BF;exact⟨_,by rw[<-ez]at this;exact this,.pK⟩
     |dF p1 p2 p2' p3 p4 p5 p6 p7 p8 p9=>
      rw[hz]at p3;cases p3;obtain⟨p7a,p7b⟩:=p7 rfl;subst p7a;subst p7b;refine⟨_,aac hu hz h1 h2 e1 e2 BF (a9r 0) (by omega) (by omega) p6,?_⟩;subst q2;have:=VR.dF (fu:=true) p1 p2 p2' hz p4 p5 (a0P _) (fun _=>⟨rfl,rfl⟩) p8 p9;simpa using this
     |gone hi _ _=>simp[bn]at hi
    cases hl;have q0:0<=a:=hq _ (by simp);have q1:a<=z:=hq _ (by simp);have q2:z<=(l.length:Nat):=hq _ (by simp);have q3:mv=z:=hq _ (by simp);have q4:a=z:=hq _ (by simp);subst q3;rw[OQ h3,ahF];cases hx with
    |pK=>
     have ea:a=0:=by simp at q2;omega
     have ez:mv=0:=by simp at q2;omega
     have:=(ZQ hu hz h1 h2 e1 e2 ea ez).2 (k:=k) BF;rw[<-ez]at this;exact⟨_,this,by simp only[List.drop_nil,List.take_nil];exact .pK⟩
    |dF p1 p2 p2' p3 p4 p5 p6 p7 p8 p9=>
     rw[hz]at p3;cases p3;exact⟨_,aac hu hz h1 h2 e1 e2 BF q0 q1 q2 p6,(VR.dF p1 p2 p2' hz p4 p5 p6 p7 p8 p9).part (by omega) (by omega) (.inl (by omega)) (by simp)⟩
    |gone hi _ _=>simp[bn]at hi
   .cases hl
  .cases hl
 .rename_i e i hu;split at hl
  .rename_i kk ex t' l hb;obtain⟨mb,g1,g2⟩:=hr.at_ i _ hb;cases mb with
   |dF y=>
    cases hx with
    |gone hi e' _=>simp only[bn,a0d]at hi;subst hi;rw[g1]at e';cases e'
    |own e' o=>
     rw[g1]at e';cases e';have hlr:LR X P (AA A m) m ts.heap kk ex t' l tx:=g2;split at hl
     .rename_i n a z hz e1 e2;split at hl
      .rename_i ht;subst ht;cases hl;have q0:0<=a:=hq _ (by simp);have q1:a<=z:=hq _ (by simp);have q2:z<=(l.length:Nat):=hq _ (by simp);rw[rM h3];cases hlr with
       |nil=>
        have ea:a=0:=by simp at q2;omega
        have ez:z=0:=by simp at q2;omega
        refine⟨_,(ZQ hu hz h1 h2 e1 e2 ea ez).1,?_⟩;subst ea;subst ez;exact .BQ g1
       |emp p0 p1 p2 p3 p4=>
        rw[hz]at p3;cases p3;exact⟨_,aeZ (len:=0) hu hz h1 h2 e1 e2 q0 q1 q2,.win g1 (by simp at q2;omega) (by simp at q2;omega) (.inl (by simp at q2;omega))⟩
       |some p1 p2 p3 p4 p5 p6 p7 p8 p9=>
        rw[hz]at p2;cases p2;exact⟨_,aeZ hu hz h1 h2 e1 e2 q0 q1 q2,.win g1 (by omega) (by omega) (.inr (by omega))⟩
      .cases hl
     .rename_i n a z k mv hz e1 e2;split at hl
      .rename_i ht;obtain⟨ht,BF⟩:=ht;subst ht;cases hl;have q0:a=0:=hq _ (by simp);have q2:z=(l.length:Nat):=hq _ (by simp);have q3:mv=z:=hq _ (by simp);subst q3;subst q0;rw[OQ h3];cases hlr with
       |nil=>
        have ez:mv=0:=(by simpa using q2);have:=(ZQ hu hz h1 h2 e1 e2 rfl ez).2 (k:=k) BF;exact⟨_,by rw[<-ez]at this;exact this,.Jm g1⟩
       |emp p0 p1 p2 p3 p4=>
        rw[hz]at p3;cases p3;have ez:mv=0:=(by simpa using q2);subst ez;refine⟨_,aac (len:=0) hu hz h1 h2 e1 e2 BF (a9r 0) (by omega) (by omega) (a0P _),?_⟩;simpa using VR.Gv (X:=X) (P:=P) (A:=AA A m) (h:=ts.heap) g1
       |some p1 p2 p3 p4 p5 p6 p7 p8 p9=>
        rw[hz]at p2;cases p2;refine⟨_,aac hu hz h1 h2 e1 e2 BF (a9r 0) (by omega) (by omega) (a0P _),?_⟩;subst q2;have:=VR.Gv (X:=X) (P:=P) (A:=AA A m) (h:=ts.heap) g1;simpa using this
      .cases hl
     .cases hl
   |_=>exact g2.elim
  .cases hl
 .rename_i e hu;have:tx=.nil .aP:=by
   cases hx with
   |nil=>rfl
   |gone hi _ _=>simp[bn]at hi
  subst this;split at hl
  .rename_i n a z hz e1 e2;cases hl;have q0:a=0:=hq _ (by simp);have q1:z=0:=hq _ (by simp);rw[rM h3];exact⟨_,(ZQ hu hz h1 h2 e1 e2 q0 q1).1,.nil _⟩
  .rename_i n a z k mv hz e1 e2;split at hl
   .rename_i BF;cases hl;have q0:a=0:=hq _ (by simp);have q1:z=0:=hq _ (by simp);have q2:mv=0:=hq _ (by simp);subst q2;rw[OQ h3];exact⟨_,(ZQ hu hz h1 h2 e1 e2 q0 q1).2 BF,.nil _⟩
   .cases hl
  .cases hl
 .cases hl
theorem CV(hX:bT X P){ps:aU X.Γ}{ts:St}(hR:vg X P A m ps ts){t:LI2}{x:PE X.Γ}{ex:EV}(hx:J3 X P (AA A m) m ts.heap x ex){lo hi mx:Option (PV X.Γ)}{QW QX tmx:Option TV}(h1:OR X P (AA A m) m ts.heap lo QW)(h2:OR X P (AA A m) m ts.heap hi QX)(h3:OR X P (AA A m) m ts.heap mx tmx){v:PV X.Γ}{H1:List (PB X.Γ)}{qs:List Prop}
  (hl:Jj X P t ps.heap x lo hi mx=some (v,H1,qs)) (hq:∀q∈qs,q):Xi X P A m ts ((qI P t ex QW QX tmx).map fun v=>(v,ts,cZ)) v H1 xM:=by
 have hr:=hR.heap;unfold Jj at hl;split at hl
 .rename_i n e b off lim hu;split at hl
  .rename_i size hz;split at hl
   .cases hl
   .rename_i Lu;split at hl
    .cases hl
    .rw[rM h3];obtain⟨y,rfl,hy⟩:=fQ hx;split at hl
     .split at hl
      .rename_i cs hb;cases hl;rw[rM h1,rM h2];obtain⟨mb,g1,g2⟩:=hr.at_ b _ hb;cases mb with
       |gq c=>
        cases hy with
        |gone hi e' _=>simp only[bn,a0d]at hi;subst hi;rw[g1]at e';cases e'
        |ptr e'=>
         rw[g1]at e';cases e';exact⟨.aP c off n n size true,ts.heap,cZ,m,by simp[qI,hu,hz,Lu,jF],hr,.aP g1,.refl,.refl,.none,fun d hd=>by cases hd⟩
       |_=>exact g2.elim
      .cases hl
     .rename_i Zb xI _;split at hl
      .rename_i cs a z hb e1 e2;split at hl
       .cases hl
       rename_i aeT;split at hl
       .rename_i rows is hd;cases hl;have q0:0<=a:=hq _ (by simp);have q1:a<=z:=hq _ (by simp);have q2:z<=(n:Nat):=hq _ (by simp);obtain⟨mb,g1,g2⟩:=hr.at_ b _ hb;cases mb with
        |gq c=>
         obtain⟨cs',g3,g4⟩:=g2;cases hy with
         |gone hi e' _=>simp only[bn,a0d]at hi;subst hi;rw[g1]at e';cases e'
         |ptr e'=>
          rw[g1]at e';cases e';have f1:=AP h1 e1 (n:=z.toNat) q0 (by omega);have f2:=AP h2 e2 (n:=n) (by omega) q2;obtain⟨w1,w2⟩:=AL (m':=bV (b::is) m) hX hr (g4.drop off) hd;have w3:=w2.2.1;rw[a4l]at w3;have hgo:=hr.aY (b::is);have QV:=iw (h:=ts.heap) (b::is) m;have hnc:AA A (bV (b::is) m) c:=by refine FA.gone hr (.inr ⟨b,_,a3x,g1,rfl⟩)
          refine⟨.aP c (off+a.toNat*size) (z.toNat-a.toNat) (n-a.toNat) size true,ts.heap,cZ,bV (b::is) m,?_,hgo,?_,QV.1,QV.2,.none,fun d hd=>by cases hd⟩
          .have f0:jF n n none=some n:=rfl;simp only[qI,hu,hz,Lu,a3T,f0,f2,f1,Option.isSome_none,Bool.false_and,a2S,a0O]
          .rw[ahF];have aiX:VR X P (AA A (bV (b::is) m)) (bV (b::is) m) ts.heap (.dF e rows false) (.aP c off rows.length n size true):=by
            refine .dF hnc (by unfold aW;rw[g3]) (fun _=>wQ g3 (by simp)) hz (by omega) ?_ (by omega) (by simp) w2.1 (fun j y i d v hj hi hx=>?_)
            .rw[w1,<-g4.1];omega
            .refine(w2.2.2 j y i d v hj hi ?_).mono fun q hq=>FA.gone hr (FA.mono (fun i hi=>a3y _ hi) hq);rw[a4O,<-hx];congr 1;omega
           exact aiX.part (by omega) (by omega) (.inr (by omega)) (by simp)
        |_=>exact g2.elim
       .cases hl
      .cases hl
  .cases hl
 .cases hl
theorem V7{ps:aU X.Γ}{ts:St}(hR:vg X P A m ps ts){t:LI2}{x:PE X.Γ}{ex:EV}(hx:J3 X P (AA A m) m ts.heap x ex){lo hi:Option (PV X.Γ)}{QW QX tmx:Option TV}(h1:OR X P (AA A m) m ts.heap lo QW)(h2:OR X P (AA A m) m ts.heap hi QX)(h3:OR X P (AA A m) m ts.heap none tmx){v:PV X.Γ}
  (hl:G5 X P t ps.heap x lo hi=some v):Xi X P A m ts ((qI P t ex QW QX tmx).map fun v=>(v,ts,cZ)) v ps.heap xM:=by
 have hr:=hR.heap;unfold G5 at hl;split at hl
 .rename_i n e b off lim hu;split at hl
  .rename_i size cs a z hz hb e1 e2;split at hl
   .cases hl
   .rename_i Lu;split at hl
    .rename_i hq;cases hl;rw[rM h3];obtain⟨y,rfl,hy⟩:=fQ hx;obtain⟨mb,g1,g2⟩:=hr.at_ b _ hb;cases mb with
     |gq c=>
      cases hy with
      |gone hi e' _=>simp only[bn,a0d]at hi;subst hi;rw[g1]at e';cases e'
      |ptr e'=>
       rw[g1]at e';cases e';have f1:=AP h1 e1 (n:=z.toNat) hq.1 (by omega);have f2:=AP h2 e2 (n:=n) (by omega) hq.2.2;refine⟨.aP c (off+a.toNat*size) (z.toNat-a.toNat) (n-a.toNat) size true,ts.heap,cZ,m,?_,hr,.aP g1,.refl,.refl,.none,fun d hd=>by cases hd⟩;have f0:jF n n none=some n:=rfl;simp only[qI,hu,hz,Lu,a3T,f0,f2,f1,Option.isSome_none,Bool.false_and,a2S,a0O]
     |_=>exact g2.elim
    .cases hl
  .cases hl
 .cases hl
end
open Go Tw
section
variable {X:kX} {P:LI1} {A B F:Nat->Prop} {m m':List MB} {h h':List HB} {H H':List (PB X.Γ)}
theorem vW:∀{vs:List (PV X.Γ)} {i:Nat} {v:PV X.Γ},xK.Hl vs=false->vs[i]? = some v->xK v=false
 | [],_,_,_,h=>by simp at h
 |a::vs,i,v,hc,h=>by
  simp only[xK.Hl,a9T]at hc;cases i with
  |zero=>simp only[a2Z,a0d]at h;subst h;exact hc.1
  |succ i=>exact vW hc.2 (by simpa using h)
theorem tC{k:Nat}:∀{vs:List (PV X.Γ)} {i:Nat} {v:PV X.Γ},(shift.shifts k vs)[i]? = some v->∃u,vs[i]? = some u∧v=shift k u
 | [],_,_,h=>by simp[shift.shifts]at h
 |a::vs,i,v,h=>by
  cases i with
  |zero=>simp only[shift.shifts,a2Z,a0d]at h;exact⟨a,rfl,h.symm⟩
  |succ i=>obtain⟨u,h1,h2⟩:=tC (vs:=vs) (i:=i) (by simpa[shift.shifts]using h);exact⟨u,by simpa using h1,h2⟩
theorem tH{k:Nat}:∀{vs:List (PV X.Γ)},(shift.shifts k vs).length=vs.length
 | []=>rfl
 |a::vs=>by simp[shift.shifts,tH (vs:=vs)]
theorem ZR{k i:Nat}{v:PV X.Γ}(h:bn v=some i):bn (shift k v)=some (i+k):=by cases v<;>simp[bn]at h<;>subst h<;>rfl
theorem VR.shift(hX:bT X P){m0:List MB}{v:PV X.Γ}{x:TV}(hv:VR X P A m h v x)(hq:(∀b,A b->B b)∨xK v=false):VR X P B (m0++m) h (Pv.shift m0.length v) x:=by
 have at':∀{i:Nat} {mb:MB},m[i]? = some mb->(m0++m)[i+m0.length]? = some mb:=by intro i mb hi;rw[a0T (by omega)];simpa using hi
 induction hv with
 |bool=>exact .bool _
 |lit=>exact .lit _
 |int=>exact .int _ _
 |str=>exact .str _
 |nil=>exact .nil _
 |ptr e=>exact .ptr (at' e)
 |aP e=>exact .aP (at' e)
 |own e o=>exact .own (at' e) o
 |win e q q' q2=>exact .win (at' e) q q' q2
 |BQ e=>exact .BQ (at' e)
 |Gv e=>exact .Gv (at' e)
 |Jm e=>exact .Jm (at' e)
 |map e=>exact .map (at' e)
 |iter e=>exact .iter (at' e)
 |fn h1 _ h3 _ i2 i4=>
  refine .fn (by rw[tH,h1]) (fun i x y hx hy=>?_) (by rw[tH,h3]) (fun i x y hx hy=>?_)
  .obtain⟨u,g1,rfl⟩:=tC hx;exact i2 i u y g1 hy (hq.imp_right fun hq=>by simp only[xK,a9T]at hq;exact vW hq.1 g1)
  obtain⟨u,g1,rfl⟩:=tC hx;exact i4 i u y g1 hy (hq.imp_right fun hq=>by simp only[xK,a9T]at hq;exact vW hq.2 g1)
 |kU e=>exact .kU (at' e)
 |agg h1 _ i2=>
  refine .agg (by rw[tH,h1]) (fun i x y hx hy=>?_);obtain⟨u,g1,rfl⟩:=tC hx;exact i2 i u y g1 hy (hq.imp_right fun hq=>by simp only[xK]at hq;exact vW hq g1)
 |dJ h1 _ i2=>
  refine .dJ (by rw[tH,h1]) (fun i x y hx hy=>?_);obtain⟨u,g1,rfl⟩:=tC hx;exact i2 i u y g1 hy (hq.imp_right fun hq=>by simp only[xK]at hq;exact vW hq g1)
 |pK=>exact .pK
 |dF a c c2 s z o k f e r _=>
  rcases hq with hq|hq
  .exact .dF (hq _ a) c c2 s z o k f e fun j y i d v h1 h2 h3=>((r j y i d v h1 h2 h3).mono hq).jy hX (fH (hX.jy _ _) h2)
  simp[xK]at hq
 |el a c l o e q r _=>
  rcases hq with hq|hq
  .exact .el (hq _ a) c l o e q fun i d v h1 h2=>((r i d v h1 h2).mono hq).jy hX (fH (hX.jy _ _) h1)
  simp[xK]at hq
 |row e j q=>exact .row (at' e) j q
 | @gone v i x hi e o=>
  have e':(m0++m)[i+m0.length]? = m[i]?:=by rw[a0T (by omega)];congr 1;omega
  exact .gone (ZR hi) (by rw[e'];exact e.as fun c=>by cases v<;>rfl) o
theorem bY.shift(hX:bT X P){m0:List MB}{v:List (PV X.Γ)}{x:List TV}(hv:bY X P A m h v x)(hq:(∀b,A b->B b)∨xK.Hl v=false):bY X P B (m0++m) h (Pv.shift.shifts m0.length v) x:=by refine⟨by rw[tH,hv.1],fun i a b ha hb=>?_⟩;obtain⟨u,g1,rfl⟩:=tC ha;exact(hv.2 i u b g1 hb).shift hX (hq.imp_right fun hq=>vW hq g1)
theorem BR.shift(hX:bT X P){m0:List MB}{b b':PB X.Γ}{mb:MB}(hb:BR X P A m h b mb)(hs:FX X m0.length b=some b')(hq:(∀c,A c->B c)∨hasB X b=false):BR X P B (m0++m) h b' mb:=by
 cases b with
 |cells cs=>
  cases mb with
  |gq c=>
   simp only[FX,a0d]at hs;subst hs;obtain⟨cs',h1,h2⟩:=hb;exact⟨cs',h1,h2.shift hX hq⟩
  |_=>exact hb.elim
 |list k ex t l=>
  cases mb with
  |dF y=>
   simp only[FX,a0d]at hs;subst hs;rcases hq with hq|hq
   .cases(hb:LR X P A m h k ex t l y)with
    |nil=>exact LR.nil
    |emp p0 p1 p2 p3 p4=>exact LR.emp (hq _ p0) p1 p2 p3 p4
    |some p1 p2 p3 p4 p5 p6 p7 p8 p9=>exact LR.some p1 p2 p3 p4 p5 p6 p7 p8 ((p9.mono hq).jy hX)
   simp[hasB]at hq
  |_=>exact hb.elim
 |gone=>
  cases mb with
  |gone=>simp only[FX,a0d]at hs;subst hs;trivial
  |_=>exact hb.elim
 |_=>simp[FX]at hs
theorem KT{k:Nat}:∀{bs bs':List (PB X.Γ)} {i:Nat} {b':PB X.Γ},rC X k bs=some bs'->bs'[i]? = some b'->∃b,bs[i]? = some b∧FX X k b=some b'
 | [],bs',i,b',h,hi=>by simp only[rC,a0d]at h;subst h;simp at hi
 |b::bs,bs',i,b',h,hi=>by
  simp only[rC]at h;split at h
  .rename_i c cs h1 h2;cases h;cases i with
   |zero=>simp only[a2Z,a0d]at hi;subst hi;exact⟨b,rfl,h1⟩
   |succ i=>obtain⟨d,g1,g2⟩:=KT h2 (i:=i) (by simpa using hi);exact⟨d,by simpa using g1,g2⟩
  cases h
theorem KU{k:Nat}:∀{bs bs':List (PB X.Γ)},rC X k bs=some bs'->bs'.length=bs.length
 | [],bs',h=>by simp only[rC,a0d]at h;subst h;rfl
 |b::bs,bs',h=>by
  simp only[rC]at h;split at h
  .rename_i c cs h1 h2;cases h;simp[KU h2]
  cases h
def nS(X:kX)(P:LI1)(call:aZ)(f:FuncId)(vs:List (PV X.Γ))(v:PV X.Γ)(ext:List (PB X.Γ)):Prop:=
 ∀(A:Nat->Prop) (h:List HB) (first args cap:List TV),(∀b,h.length<=b->A b)->bY X P A [] h vs (first++args++cap) ->
  ∃w h' m',call (.fn f first cap) args h=some (w,h',[])∧HR X P A m' ext h'∧VR X P (AA A m') m' h' v w∧Fr [] h m' h'
theorem I9(hX:bT X P){call:aZ}{f:FuncId}{first xs cap vs:List (PV X.Γ)}{v:PV X.Γ}{ext ext':List (PB X.Γ)}(hc:nS X P call f vs v ext)(hr:HR X P A m H h)(hv:views H (first++xs++cap)=some vs)(hs:rC X H.length ext=some ext')
  {t1 t2 t3:List TV} (h1:bY X P (AA A m) m h first t1) (h2:bY X P (AA A m) m h xs t2) (h3:bY X P (AA A m) m h cap t3) :
  ∃w h' m1,call (.fn f t1 t3) t2 h=some (w,h',[])∧HR X P A m1 ((if xK v||ext.any (hasB X)then aY (l7.kH (first++xs++cap)) H else H)++ext') h'∧VR X P (AA A m1) m1 h' (shift H.length v) w∧Fr m h m1 h'∧Up m m1:=by
 have hvs:=lK (m':=[]) hX hr ((h1.app h2).app h3) hv (is:=l7.kH (first++xs++cap)) fun i hi=>hi;generalize l7.kH (first++xs++cap)=is at hvs ⊢;obtain⟨w,h',m',c1,c2,c3,c4⟩:=hc (fun b=>FA A m is b∨h.length<=b) h t1 t2 t3 (fun b hb=>.inr hb) (hvs.mono fun b hb=>.inl hb);have hold:∀b,b<h.length->h'[b]? = h[b]?:=fun b hb=>c4.same b hb (by simp[bg]);have fV:∀b,b∈bg m'->h.length<=b:=fun b hb=>by
  rcases c4.new b hb with h0|h0
  .simp[bg]at h0
  .exact h0
 have key:∀(m0:List MB) (H0:List (PB X.Γ)),HR X P A m0 H0 h->Fr m h m0 h->Up m m0->m0.length=H.length->((∀b,FA A m is b->AA A m0 b)∨(xK v||ext.any (hasB X))=false) ->
   ∃m1,HR X P A m1 (H0++ext') h'∧VR X P (AA A m1) m1 h' (shift H.length v) w∧Fr m h m1 h'∧Up m m1:=by
  intro m0 H0 ZT hF0 hU0 qO hq;have hF:Fr m0 h (m0++m') h':=by refine⟨c4.len,fun b hb _=>hold b hb,fun b hb=>?_,fun b cs hc=>⟨cs,by rw[fP (hold b (fM hc)),hc],a0P _⟩⟩;rw[jh,a3P]at hb;exact hb.imp_right fun hb=>fV b hb
  have hA:(∀b,AA (fun b=>FA A m is b∨h.length<=b) m' b->AA A (m0++m') b)∨(xK v||ext.any (hasB X))=false:=by
   refine hq.imp_left fun hq b hb=>?_;refine⟨?_,fun hm=>?_⟩
   .rcases hb.1 with h0|h0
    .exact(hq b h0).1
    .exact hr.up b h0
   .rw[jh,a3P]at hm;rcases hm with hm|hm
    .rcases hb.1 with h0|h0
     .exact(hq b h0).2 hm
     .have:=ZT.inb hm;omega
    .exact hb.2 hm
  refine⟨m0++m',?_,?_,hF0.trans hF,hU0.trans (wR _)⟩
  .refine ZT.next hF (wR _) (by rw[a1U,a1U,ZT.len,KU hs,c2.len]) ?_ fun i b hi=>?_
   .rw[jh];refine a9l.2 ⟨ZT.nodup,c2.nodup,fun a ha b hb e=>?_⟩;subst e;have:=ZT.inb ha;have:=fV a hb;omega
   .rcases a4N i H0.length with aT|EW
    .left;rw[a0C aT]at hi;obtain⟨mb,g1,g2⟩:=ZT.at_ i b hi;exact⟨mb,hi,g1,by rw[a0C (by rw[ZT.len];exact aT)];exact g1,fun c hc=>hold c (g2.has hc)⟩
    .right;rw[a0T EW]at hi;obtain⟨b0,g1,g2⟩:=KT hs hi;obtain⟨mb,g3,g4⟩:=c2.at_ _ _ g1;refine⟨mb,by rw[a0T (by rw[ZT.len];exact EW),ZT.len];exact g3,?_⟩;rw[<-qO]at g2;refine g4.shift hX g2 (hA.imp_right fun hq=>?_);simp only[a9T,List.any_eq_false]at hq;simpa using hq.2 b0 (a4X g1)
  .rw[<-qO];exact c3.shift hX (hA.imp_right fun hq=>by simp only[a9T]at hq;exact hq.1)
 refine⟨w,h',?_⟩;by_cases hL:(xK v||ext.any (hasB X))=true
 .rw[a0F hL];obtain⟨m1,e1,e2,e3,e4⟩:=key (bV is m) (aY is H) (hr.aY is) (iw (h:=h) is m).1 (iw (h:=h) is m).2 (by rw[mW,hr.len]) (.inl fun b hb=>hb.gone hr);exact⟨m1,c1,e1,e2,e3,e4⟩
 .rw[a0E hL];obtain⟨m1,e1,e2,e3,e4⟩:=key m H hr .refl .refl hr.len (.inr (by simpa using hL));exact⟨m1,c1,e1,e2,e3,e4⟩
end
open Go Tw
section
variable {X:kX} {P:LI1} {A B F:Nat->Prop} {m m':List MB} {h h':List HB} {H H':List (PB X.Γ)}
def dG(X:kX)(P:LI1)(call:aZ):a3q X.Γ:=fun fv xs H v H1=>
 ∀(A:Nat->Prop) (m:List MB) (h:List HB) (tf:TV) (qP:List TV),HR X P A m H h->VR X P (AA A m) m h fv tf->bY X P (AA A m) m h xs qP ->
  ∃w h1 ws m1,call tf qP h=some (w,h1,ws)∧HR X P A m1 H1 h1∧VR X P (AA A m1) m1 h1 v w∧Fr m h m1 h1∧Up m m1∧∀b∈ws,b∈bg m
def jK(X:kX)(P:LI1)(call:aZ)(fO:eY X.Γ):Prop:=∀f vs v ext ps,fO f vs=some (v,ext,ps)->(∀p∈ps,p)->nS X P call f vs v ext
theorem uM{ρ:Type}{y:ρ}:∀{ps:List Prop} {x:OT ρ},(owe ps x).Ends y->(∀p∈ps,p)∧x.Ends y
 | [],x,h=>⟨by simp,h⟩
 |p::ps,x,h=>by have:=uM h.2;exact⟨fun q hq=>by rcases a1Y.1 hq with rfl|hq;exact h.1;exact this.1 q hq,this.2⟩
theorem ZU{ρ:Type}{y:ρ}{u:PV X.Γ}{an:PT X.Γ}{k:Bool->PT X.Γ->OT ρ}(hk:(byB X u an k).Ends y){tu:TV}(hu:VR X P A m h u tu):∃t Ia,tu=.bool t∧(k t Ia).Ends y:=by
 cases u with
 |lit b=>
  have:tu=.bool b:=by
   cases hu with
   |lit=>rfl
   |gone hi _ _=>simp[bn]at hi
  exact⟨b,an,this,hk⟩
 |bool b=>
  have hb:tu=.bool b:=by
   cases hu with
   |bool=>rfl
   |gone hi _ _=>simp[bn]at hi
  subst hb;cases an with
  |s x z=>
   rcases hk with⟨h1,h2⟩|⟨h1,h2⟩
   .subst h1;exact⟨true,x,rfl,h2⟩
   subst h1;exact⟨false,z,rfl,h2⟩
  |a x r=>
   cases x with
   |br t=>obtain⟨h1,h2⟩:=hk;subst h1;exact⟨_,r,rfl,h2⟩
   |_=>exact hk.elim
  |_=>exact hk.elim
 |_=>exact hk.elim
theorem rO:∀{es:List (PV X.Γ×PV X.Γ)} {fZ:List (TV×TV)} {ks:List TV},es.length=fZ.length->(∀(i:Nat) x y,es[i]? = some x->fZ[i]? = some y->VR X P A m h x.1 y.1∧VR X P A m h x.2 y.2)->vI X es=some ks->fZ.map (·.1)=ks
 | [],fZ,ks,hl,_,hk=>by
  simp only[vI,a0d]at hk;subst hk;cases fZ with
  |nil=>rfl
  |cons=>simp at hl
 |(k,v)::es,fZ,ks,hl,he,hk=>by
  cases fZ with
  |nil=>simp at hl
  |cons y fZ=>
   simp only[vI]at hk;split at hk
   .rename_i a b h1 h2;cases hk;have:=jU (he 0 _ _ rfl rfl).1 h1;simp only[a4M,this];rw[rO (by simpa using hl) (fun i x z hx hz=>he (i+1) x z (by simpa using hx) (by simpa using hz)) h2]
   cases hk
theorem Xm:∀{ks:List TV} {vs:List LI3},BN ks=some vs->vs.length=ks.length
 | [],vs,h=>by simp only[BN,a0d]at h;subst h;rfl
 |k::ks,vs,h=>by
  simp only[BN]at h;split at h
  .rename_i v ws _ h2;cases h;simp[Xm h2]
  cases h
theorem pW{kt:LI2}{k:LI3}{fZ:List (TV×TV)}:ES P kt k fZ=vJ P kt k (fZ.map (·.1)):=by
 unfold ES vJ;cases hv:BN (fZ.map (·.1))with
 |none=>rfl
 |some vs=>
  have hl:=Xm hv;have:fZ.isEmpty=vs.isEmpty:=by cases fZ<;>cases vs<;>simp at hl<;>rfl
  simp only[this]<;>rfl
def SV:TV->List Key
 |.map r=>[.h r]
 |_=>[]
def a3v(h:List HB):TV->Option (List (TV×TV))
 |.nil .map=>some []
 |.map r=>match h[r]? with
  |some (.map es)=>some es
  |_=>none
 |_=>none
theorem KW{t:LI2}{h:List HB}{tm tk:TV}{ok:Bool}{kt e:LI2}{kv:LI3}{es:List (TV×TV)}(hu:P.underlying t=some (.map kt e))(hk:tk.yI=some kv)(he:a3v h tm=some es) :
  gX P t h tm tk ok=match ES P kt kv es with
   |some (some i)=>match es[i]? with
    |some (_,v)=>some (if ok then .dJ [v,.bool true]else v)
    |none=>none
   |some none=>match P.info? e with
    |some i=>match i.zero with
     |some z=>(TV.Wh z).map fun z=>if ok then .dJ [z,.bool false]else z
     |none=>none
    |none=>none
   |none=>none:=by
 unfold gX;simp only[hu,hk];cases tm with
 |nil k=>
  cases k<;>simp only[a3v]at he<;>try (cases he;done)
  cases he;rfl
 |map r=>
  simp only[a3v]at he;split at he
  .rename_i es0 hb;cases he;simp only[hb];rfl
  .cases he
 |_=>simp[a3v]at he
theorem Dh{H:List (PB X.Γ)}{h:List HB}(hr:HR X P A m H h){r:Nat}{es:List (PV X.Γ×PV X.Γ)}(he:KQ X H r=some es):∃c fZ,(m[r]? = some (.gq c)∨(m[r]? = some (.jA c)∧c∉bg m))∧h[c]? = some (.map fZ)∧es.length=fZ.length ∧
  ∀(i:Nat) x y,es[i]? = some x->fZ[i]? = some y->qw x.1=some y.1∧qw x.2=some y.2:=by
 unfold KQ at he;split at he
 .rename_i es0 hb;cases he;obtain⟨mb,g1,g2⟩:=hr.at_ r _ hb;cases mb with
  |gq c=>obtain⟨fZ,g3,g4,g5⟩:=g2;exact⟨c,fZ,.inl g1,g3,g4,g5⟩
  |_=>exact g2.elim
 .rename_i es0 hb;cases he;obtain⟨mb,g1,g2⟩:=hr.at_ r _ hb;cases mb with
  |jA c=>obtain⟨g0,fZ,g3,g4,g5⟩:=g2;exact⟨c,fZ,.inr ⟨g1,g0⟩,g3,g4,g5⟩
  |_=>exact g2.elim
 .cases he
theorem a1A{B:Nat->Prop}{h:List HB}{r c:Nat}{tm:TV}(hm:VR X P B m h (.map r) tm)(hc:m[r]? = some (.gq c)∨(m[r]? = some (.jA c)∧c∉bg m)):tm=.map c:=by
 cases hm with
 |map e=>
  rcases hc with h|⟨h,_⟩<;>rw[h]at e<;>cases e
  rfl
 |gone hi e _=>
  simp only[bn,a0d]at hi;subst hi;rcases hc with h|⟨h,_⟩<;>rw[h]at e
  .cases e
  cases e with
  |r c hv=>simp only[roV,a0d]at hv;exact hv.symm
theorem SX{r c:Nat}{ks:List Key}(hc:m[r]? = some (.gq c)∨(m[r]? = some (.jA c)∧c∉bg m)):(∃i,Key.h i∈Key.h r::ks∧G9 m i c)∨c∉bg m:=by
 rcases hc with h|⟨_,h⟩
 .exact .inl ⟨r,by simp,iL h rfl⟩
 exact .inr h
theorem af0{ps:aU X.Γ}{ts:St}(hR:vg X P A m ps ts){mv:PV X.Γ}{tm:TV}(hm:VR X P (AA A m) m ts.heap mv tm){es:List (PV X.Γ×PV X.Γ)}(he:a6n X ps.heap mv=some es) :
  ∃fZ,a3v ts.heap tm=some fZ∧es.length=fZ.length∧(∀(i:Nat) x y,es[i]? = some x->fZ[i]? = some y->VR X P (AA A m) m ts.heap x.1 y.1∧VR X P (AA A m) m ts.heap x.2 y.2) ∧
   IR m ts.heap ⟨fJ (SG X mv),false,false,true⟩ (fJ (SV tm)):=by
 cases mv with
 |nil k=>
  cases hm with
  |nil=>
   cases k<;>simp only[a6n]at he<;>try (cases he;done)
   cases he;exact⟨[],rfl,rfl,fun i x y hx=>by simp at hx,IR.reads rfl (by simp[SV]) (by simp[SV])⟩
  |gone hi _ _=>simp[bn]at hi
 |map r=>
  simp only[a6n]at he;obtain⟨c,fZ,g0,g3,g4,g5⟩:=Dh hR.heap he;have htm:=a1A hm g0;subst htm;refine⟨fZ,by simp only[a3v,g3],g4,fun i x y e1 e2=>⟨o7 (g5 i x y e1 e2).1,o7 (g5 i x y e1 e2).2⟩,IR.reads rfl (fun b hb=>?_) (by simp[SV])⟩;simp[SV]at hb;subst hb;exact⟨SX g0,(a0h.1 g3).1⟩
 |_=>simp[a6n]at he
theorem N7{a b:PV X.Γ}{x y:TV}(h1:VR X P A m h a x)(h2:VR X P A m h b y):VR X P A m h (.dJ [a,b]) (.dJ [x,y]):=by
 have:=(bY.nil (X:=X) (P:=P) (A:=A) (m:=m) (h:=h)).cons h2 |>.cons h1
 exact .dJ this.1 this.2
theorem Xn{e:LI2}{z:PV X.Γ}(h:OE X P e=some z):∃i z0 z1,P.info? e=some i∧i.zero=some z0∧TV.Wh z0=some z1∧YQ z1=some z:=by
 unfold OE at h;split at h
 .rename_i i hi;split at h
  .rename_i z0 hz0;split at h
   .rename_i z1 hz1;exact⟨i,z0,z1,hi,hz0,hz1,h⟩
   cases h
  cases h
 cases h
theorem aaf{ρ:Type}{y:ρ}{ps:aU X.Γ}{ts:St}(hR:vg X P A m ps ts){t:LI2}{mv kv:PV X.Γ}{tm tk:TV}(hm:VR X P (AA A m) m ts.heap mv tm)(hk:VR X P (AA A m) m ts.heap kv tk){ok:Bool}{an:PT X.Γ}{c:PE X.Γ->PI->PT X.Γ->OT ρ}
  (hl:(ZK X P t ps mv kv ok an c).Ends y):∃v pi Ia w,gX P t ts.heap tm tk ok=some w∧VR X P (AA A m) m ts.heap v w∧(c (.val v) pi Ia).Ends y∧IR m ts.heap pi (fJ (SV tm)):=by
 unfold ZK at hl;split at hl
 .rename_i kt e tk' es hu htk Md;have:=jU hk htk;subst this;obtain⟨fZ,f1,f2,f3,f4⟩:=af0 hR hm Md;have fnd:∀{xO ks j k0 v},tk.yI=some xO->vI X es=some ks->vJ P kt xO ks=some (some j)->es[j]? = some (k0,v)->∃w,gX P t ts.heap tm tk ok=some w∧VR X P (AA A m) m ts.heap (if ok then .dJ [v,.bool true]else v) w:=by
   intro xO ks j k0 v OU EZ OV hj;have sN:=rO f2 f3 EZ;have aT:j<fZ.length:=by rw[<-f2];exact(a0h.1 hj).1
   have Ea:=a0q aT;have hv:=(f3 j _ _ hj Ea).2;refine⟨(if ok then .dJ [fZ[j].2,.bool true]else fZ[j].2),?_,?_⟩
   .rw[KW hu OU f1];simp only[pW,sN,OV,Ea]
   .cases ok with
    |true=>exact N7 hv (.bool _)
    |false=>exact hv
  have non:∀{xO ks z},tk.yI=some xO->vI X es=some ks->vJ P kt xO ks=some none->OE X P e=some z->∃w,gX P t ts.heap tm tk ok=some w∧VR X P (AA A m) m ts.heap (if ok then .dJ [z,.bool false]else z) w:=by
   intro xO ks z OU EZ OV hz;have sN:=rO f2 f3 EZ;obtain⟨i,z0,z1,hi,hz0,hz1,hz2⟩:=Xn hz;refine⟨(if ok then .dJ [z1,.bool false]else z1),?_,?_⟩
   .rw[KW hu OU f1];simp only[pW,sN,OV,hi,hz0,hz1,a0O]
   .cases ok with
    |true=>exact N7 (wS hz2) (.bool _)
    |false=>exact wS hz2
  split at hl
  .obtain⟨⟨xO,ks,j,k0,g1,g2,g3,g4⟩,hl⟩:=hl;obtain⟨w,w1,w2⟩:=fnd g1 g2 g3 g4;exact⟨_,_,_,w,w1,w2,hl,f4⟩
  .split at hl
   .rename_i z hz;obtain⟨⟨xO,ks,g1,g2,g3⟩,hl⟩:=hl;obtain⟨w,w1,w2⟩:=non g1 g2 g3 hz;exact⟨_,_,_,w,w1,w2,hl,f4⟩
   .exact hl.elim
  .split at hl
   .rename_i z hz;obtain⟨⟨xO,ks,g1,g2,g3⟩,hl⟩:=hl;obtain⟨w,w1,w2⟩:=non g1 g2 g3 hz;exact⟨_,_,_,w,w1,w2,hl,f4⟩
   .exact hl.elim
  .split at hl
   .rename_i xO ks OU EZ;split at hl
    .rename_i j r _ _;split at hl
     .rename_i k0 v hj;obtain⟨OV,hl⟩:=hl;obtain⟨w,w1,w2⟩:=fnd OU EZ OV hj;exact⟨_,_,_,w,w1,w2,hl,f4⟩
     .exact hl.elim
    .split at hl
     .rename_i z hz;obtain⟨OV,hl⟩:=hl;obtain⟨w,w1,w2⟩:=non OU EZ OV hz;exact⟨_,_,_,w,w1,w2,hl,f4⟩
     .exact hl.elim
    .exact hl.elim
   .exact hl.elim
 .exact hl.elim
theorem a3w{x:TV}{v:PV X.Γ}(h:ofC x=some v):ru v=some x:=by cases x<;>simp only[ofC,a0d,reduceCtorEq]at h<;>subst h<;>rfl
theorem OW:∀{x:List TV} {v:List (PV X.Γ)},CB x=some v->iO v=some x
 | [],v,h=>by cases h;rfl
 |a::l,v,h=>by
  simp only[CB]at h;split at h
  .rename_i b bs h1 h2;cases h;simp only[iO,a3w h1,OW h2]
  cases h
theorem aag{x:TV}{v:PV X.Γ}(h:YQ x=some v):qw v=some x:=by
 cases x
 case agg cs=>
  simp only[YQ,a0l]at h;obtain⟨w,h1,rfl⟩:=h;simp only[qw,OW h1,a0O]
 all_goals
  simp only[YQ,ofC,a0d,reduceCtorEq]at h
  try subst h
  try rfl
theorem ZV{ps:aU X.Γ}{ts:St}(hR:vg X P A m ps ts){r cb:Nat}{es0:List (TV×TV)}(g1:m[r]? = some (.gq cb))(f1:ts.heap[cb]? = some (.map es0))(en:List (PV X.Γ×PV X.Γ))(en':List (TV×TV))(h1:en.length=en'.length)
  (h2:∀(i:Nat) x y,en[i]? = some x->en'[i]? = some y->qw x.1=some y.1∧qw x.2=some y.2) :
  vg X P A m { ps with heap:=ps.heap.set r (.map en) } { ts with heap:=ts.heap.set cb (.map en') }∧Fr m ts.heap m (ts.heap.set cb (.map en')):=by
 have aT:=(a0h.1 f1).1;obtain⟨q1,q2⟩:=hR.heap.set (pb:=.map en) (hb:=.map en') g1 (c:=cb) rfl (fun cs hc=>by simp[aW,f1]at hc) fun hF=>⟨en',by simp[aT],h1,h2⟩;exact⟨hR.step q1 q2 .refl,q2⟩
theorem SY{es:List (PV X.Γ×PV X.Γ)}{fZ:List (TV×TV)}(f2:es.length=fZ.length)(f3:∀(i:Nat) x y,es[i]? = some x->fZ[i]? = some y->qw x.1=some y.1∧qw x.2=some y.2){k v:PV X.Γ}{tk tv:TV}(h1:qw k=some tk)(h2:qw v=some tv) :
  ∀(i:Nat) x y,(es++[(k,v)])[i]? = some x->(fZ++[(tk,tv)])[i]? = some y->qw x.1=some y.1∧qw x.2=some y.2:=fun i a b ha qN=>by
 rcases a4N i es.length with aT|EW
 .rw[a0C aT]at ha;rw[a0C (by rw[<-f2];exact aT)]at qN;exact f3 i a b ha qN
 .rw[a0T EW]at ha;rw[a0T (by rw[<-f2];exact EW),<-f2]at qN;cases hx:i-es.length with
  |zero=>
   rw[hx]at ha qN;simp only[a2Z,a0d]at ha qN;subst ha;subst qN;exact⟨h1,h2⟩
  |succ n=>rw[hx]at ha;simp at ha
theorem a6D{ps:aU X.Γ}{ts:St}(hR:vg X P A m ps ts){r:Nat}{es:List (PV X.Γ×PV X.Γ)}{tm:TV}(hb:ps.heap[r]? = some (.map es))(hm:VR X P (AA A m) m ts.heap (.map r) tm) :
  ∃cb fZ,tm=.map cb∧m[r]? = some (.gq cb)∧ts.heap[cb]? = some (.map fZ)∧es.length=fZ.length∧∀(i:Nat) x y,es[i]? = some x->fZ[i]? = some y->qw x.1=some y.1∧qw x.2=some y.2:=by
 obtain⟨mb,g1,g2⟩:=hR.heap.at_ r _ hb;cases mb with
 |gq cb=>
  obtain⟨fZ,f1,f2,f3⟩:=g2;cases hm with
  |gone hi e' _=>simp only[bn,a0d]at hi;subst hi;rw[g1]at e';cases e'
  |map e'=>rw[g1]at e';cases e';exact⟨cb,fZ,rfl,g1,f1,f2,f3⟩
 |_=>exact g2.elim
theorem aah{ρ:Type}{y:ρ}{ps:aU X.Γ}{ts:St}(hR:vg X P A m ps ts){t:LI2}{mv kv:PV X.Γ}{tm tk:TV}(hm:VR X P (AA A m) m ts.heap mv tm)(hk:VR X P (AA A m) m ts.heap kv tk){an:PT X.Γ}{c:PE X.Γ->aU X.Γ->PI->PT X.Γ->OT ρ}
  (hl:(a6q X P t ps mv kv an c).Ends y):∃e e' ps1 pi Ia h1 ti,CO P t ts tm tk=some (e',{ ts with heap:=h1 },ti)∧J3 X P (AA A m) m h1 e e'∧vg X P A m ps1 { ts with heap:=h1 }∧Fr m ts.heap m h1∧(c e ps1 pi Ia).Ends y∧IR m ts.heap pi ti∧∀b,.h b∈ti.ws->b∈bg m:=by
 unfold a6q at hl;split at hl
 .rename_i kt e tk' r hu htk;have:=jU hk htk;subst this;split at hl
  .rename_i es hb;obtain⟨cb,fZ,rfl,g1,f1,f2,f3⟩:=a6D hR hb hm;have f3v:∀(i:Nat) x y,es[i]? = some x->fZ[i]? = some y->VR X P (AA A m) m ts.heap x.1 y.1∧VR X P (AA A m) m ts.heap x.2 y.2:=fun i x y e1 e2=>⟨o7 (f3 i x y e1 e2).1,o7 (f3 i x y e1 e2).2⟩;have aT:=(a0h.1 f1).1;split at hl
   .rename_i v _ j rest;split at hl
    case h_2=>exact hl.elim
    rename_i va vx;obtain⟨⟨xO,ks,old,ov,OU,c1,EZ,c2,hj,hold,hov,c3⟩,hl⟩:=hl;have sN:=rO f2 f3v EZ;have Ea:j<fZ.length:=by rw[<-f2];exact(a0h.1 hj).1
    have Wj:=a0q Ea;have hy1:(fZ[j]).1=old:=by
     have:(fZ.map (·.1))[j]? = some (fZ[j]).1:=by rw[a4T,Wj];rfl
     rw[sN,hold]at this;exact(a9x this).symm
    have htv:=(f3 j _ _ hj Wj).2;obtain⟨w1,w2⟩:=ZV hR g1 f1 es (fZ.set j (tk,(fZ[j]).2)) (by simp[f2]) fun i a b ha qN=>by
     by_cases e:j=i
     .subst e;rw[a4Q,Wj]at qN;rw[hj]at ha;cases ha;cases qN;exact⟨htk,htv⟩
     .rw[a1B e]at qN;exact f3 i a b ha qN
    have FN:ps.heap.set r (.map es)=ps.heap:=by
     refine aa3 fun i=>?_;by_cases e:r=i
     .subst e;rw[a2M (a0h.1 hb).1,hb]
     .rw[a1B e]
    rw[FN]at w1;refine⟨.ent r j (.int va vx),.ent cb j (fZ[j]).2,_,_,_,_,pF (.h cb),?_,⟨.map g1,rfl,htv⟩,w1,w2,hl,.wrH (iL g1 rfl) aT,fun b hb=>by simp[pF]at hb;subst hb;exact bf g1 rfl⟩;have Rz:fZ[j].1=tk:=by have:=(f3 j _ _ hj Wj).1;rw[htk]at this;exact(a9x this).symm
    have YR:fZ[j].2=.int va vx:=by have h9:some (TV.int va vx)=some (fZ[j]).2:=htv;exact(a9x h9).symm
    have WL:fZ.set j (tk,(fZ[j]).2)=fZ:=by rw[show(tk,(fZ[j]).2)=fZ[j]from adu Rz.symm rfl];exact List.set_getElem_self Ea
    have hl1:gX P t ts.heap (.map cb) tk false=some (.int va vx):=by unfold gX;simp only[hu,OU,f1,pW,sN,c2,Wj,YR,a2S,a3T]
    have hcb:ts.heap.set cb (.map fZ)=ts.heap:=by
     refine aa3 fun i=>?_;by_cases e:cb=i
     .subst e;rw[a2M aT,f1]
     .rw[a1B e]
    have h0:Ad P t ts (.map cb) tk=some (.ent cb j (fZ[j]).2,{ ts with heap:=ts.heap.set cb (.map (fZ.set j (tk,(fZ[j]).2))) },pF (.h cb)):=by unfold Ad;simp only[hu,OU,f1,c1,pW,sN,c2,Wj,hy1,hov,c3,a2u]
    unfold CO;rw[h0];simp only[];rw[a0F];unfold a0D;rw[WL,hcb,hl1];simp
   .split at hl
    .rename_i va vx hz;obtain⟨⟨xO,q1,c1⟩,⟨acI,ks,q2,EZ,c2⟩,⟨asL,ks2,q3,aoD,c4⟩,hl⟩:=hl;rw[q1]at q2;cases q2;rw[q1]at q3;cases q3;obtain⟨i,z0,z1,hi,hz0,hz1,hz2⟩:=Xn hz;have sN:=rO f2 f3v EZ;have hzt:=aag hz2;obtain⟨w1,w2⟩:=ZV hR g1 f1 (es++[(kv,.int va vx)]) (fZ++[(tk,z1)]) (by simp[f2]) (SY f2 f3 htk hzt);refine⟨.ent r es.length (.int va vx),.ent cb fZ.length z1,_,_,_,_,pF (.h cb),?_,⟨.map g1,f2,hzt⟩,w1,w2,hl,.wrH (iL g1 rfl) aT,fun b hb=>by simp[pF]at hb;subst hb;exact bf g1 rfl⟩;have YR:z1=.int va vx:=by have h9:some (TV.int va vx)=some z1:=hzt;exact(a9x h9).symm
     have hl1:gX P t ts.heap (.map cb) tk false=some (.int va vx):=by unfold gX;simp only[hu,q1,f1,pW,sN,c2,hi,hz0,hz1,YR,a0O,a2S,a3T]
     have af2:(fZ++[(tk,z1)]).map (·.1)=ks2:=rO (P:=P) (A:=AA A m) (m:=m) (h:=ts.heap) (es:=es++[(kv,.int va vx)]) (by simp[f2]) (fun i x y e1 e2=>let ⟨a1,a2⟩:=SY f2 f3 htk hzt i x y e1 e2;⟨o7 a1,o7 a2⟩) aoD;have RF:gX P t (ts.heap.set cb (.map (fZ++[(tk,z1)]))) (.map cb) tk false=some (.int va vx):=by
      have e9:(fZ++[(tk,z1)])[es.length]? = some (tk,z1):=by rw[f2];simp
      unfold gX;simp only[hu,q1,a2M aT,pW,af2,c4,e9,a2S,a3T];rw[YR]
     have h0:Ad P t ts (.map cb) tk=some (.ent cb fZ.length z1,{ ts with heap:=ts.heap.set cb (.map (fZ++[(tk,z1)])) },pF (.h cb)):=by unfold Ad;simp only[hu,q1,f1,c1,pW,sN,c2,hi,hz0,hz1]
     unfold CO;rw[h0];simp only[];rw[a0F];unfold a0D;rw[hl1,RF];simp
    .exact hl.elim
   .exact hl.elim
  .exact hl.elim
 .exact hl.elim
theorem aaj{ρ:Type}{y:ρ}{ps:aU X.Γ}{ts:St}(hR:vg X P A m ps ts){mv v:PV X.Γ}{e:PE X.Γ}{tm tv:TV}{e':EV}(hm:VR X P (AA A m) m ts.heap mv tm)(he:J3 X P (AA A m) m ts.heap e e')(hv:VR X P (AA A m) m ts.heap v tv){c:aU X.Γ->PI->OT ρ}
  (hl:(a6r X ps mv e v c).Ends y):∃ps1 pi h1 ti,Gz ts tm e' tv=some ({ ts with heap:=h1 },ti)∧vg X P A m ps1 { ts with heap:=h1 }∧Fr m ts.heap m h1∧(c ps1 pi).Ends y∧IR m ts.heap pi ti∧∀b,.h b∈ti.ws->b∈bg m:=by
 unfold a6r at hl;split at hl
 .rename_i r r' j tv' htv;have:=jU hv htv;subst this;split at hl
  .rename_i hrr;subst hrr;split at hl
   .rename_i es hb;obtain⟨hj,hl⟩:=hl;obtain⟨cb,fZ,rfl,g1,f1,f2,f3⟩:=a6D hR hb hm;obtain⟨c',rfl,hm'⟩:=MX he;have hc:c'=cb:=by
     cases hm' with
     |gone hi e' _=>simp only[bn,a0d]at hi;subst hi;rw[g1]at e';cases e'
     |map e'=>rw[g1]at e';cases e';rfl
    subst hc;have aT:=(a0h.1 f1).1;have Ea:j<fZ.length:=by rw[<-f2];exact hj
    have Wj:=a0q Ea;obtain⟨w1,w2⟩:=ZV hR g1 f1 (Jl es j v) (fZ.set j ((fZ[j]).1,tv)) (by unfold Jl;simp[f2]) fun i a b ha qN=>by
     unfold Jl at ha;rw[aes]at ha;by_cases e:j=i
     .subst e;rw[a4Q,Wj]at qN;simp only[a2u,a0q hj,Option.map_eq_map,a0O,a0d]at ha;subst ha;cases qN;exact⟨(f3 j _ _ (a0q hj) Wj).1,htv⟩
     .rw[a1B e]at qN;have ha:es[i]? = some a:=(by simpa[e]using ha);exact f3 i a b ha qN
    refine⟨_,_,_,pF (.h c'),?_,w1,w2,hl,.wrH (iL g1 rfl) aT,fun b hb=>by simp[pF]at hb;subst hb;exact bf g1 rfl⟩;unfold Gz;simp only[a2u,f1,Wj]
   .exact hl.elim
  .exact hl.elim
 .exact hl.elim
theorem a6F{ρ:Type}{y:ρ}{ps:aU X.Γ}{ts:St}(hR:vg X P A m ps ts){t:LI2}{mv kv v:PV X.Γ}{tm tk tv:TV}(hm:VR X P (AA A m) m ts.heap mv tm)(hk:VR X P (AA A m) m ts.heap kv tk)(hv:VR X P (AA A m) m ts.heap v tv){an:PT X.Γ}{c:aU X.Γ->PI->PT X.Γ->OT ρ}
  (hl:(a6o X P t ps mv kv v an c).Ends y):∃ps1 pi Ia h1 ti,xR P t ts tm tk tv=some ({ ts with heap:=h1 },ti)∧vg X P A m ps1 { ts with heap:=h1 }∧Fr m ts.heap m h1∧(c ps1 pi Ia).Ends y∧IR m ts.heap pi ti∧∀b,.h b∈ti.ws->b∈bg m:=by
 unfold a6o at hl;split at hl
 .rename_i kt e tk' r tv' hu htk htv;have:=jU hk htk;subst this;have:=jU hv htv;subst this;split at hl
  .rename_i es hb;obtain⟨mb,g1,g2⟩:=hR.heap.at_ r _ hb;cases mb with
   |gq cb=>
    obtain⟨fZ,f1,f2,f3⟩:=g2;have f3v:∀(i:Nat) x y,es[i]? = some x->fZ[i]? = some y->VR X P (AA A m) m ts.heap x.1 y.1∧VR X P (AA A m) m ts.heap x.2 y.2:=fun i x y e1 e2=>⟨o7 (f3 i x y e1 e2).1,o7 (f3 i x y e1 e2).2⟩;cases hm with
    |gone hi e' _=>simp only[bn,a0d]at hi;subst hi;rw[g1]at e';cases e'
    |map e'=>
     rw[g1]at e';cases e';have aT:=(a0h.1 f1).1;have wr:∀(en:List (PV X.Γ×PV X.Γ)) (en':List (TV×TV)),en.length=en'.length->(∀(i:Nat) x y,en[i]? = some x->en'[i]? = some y->qw x.1=some y.1∧qw x.2=some y.2) ->
       vg X P A m { ps with heap:=ps.heap.set r (.map en) } { ts with heap:=ts.heap.set cb (.map en') }∧Fr m ts.heap m (ts.heap.set cb (.map en')):=by
      intro en en' h1 h2;obtain⟨q1,q2⟩:=hR.heap.set (pb:=.map en) (hb:=.map en') g1 (c:=cb) rfl (fun cs hc=>by simp[aW,f1]at hc) fun hF=>⟨en',by simp[aT],h1,h2⟩;exact⟨hR.step q1 q2 .refl,q2⟩
     have new:∀{xO ks},tk.yI=some xO->vI X es=some ks->aC P (Instr.checkKey false 10000 kt xO)=some ()->vJ P kt xO ks=some none ->
       xR P t ts (.map cb) tk tv=some ({ ts with heap:=ts.heap.set cb (.map (fZ++[(tk,tv)])) },pF (.h cb))∧vg X P A m { ps with heap:=ps.heap.set r (.map (es++[(kv,v)])) } { ts with heap:=ts.heap.set cb (.map (fZ++[(tk,tv)])) }∧Fr m ts.heap m (ts.heap.set cb (.map (fZ++[(tk,tv)]))):=by
      intro xO ks OU EZ c1 c2;have sN:=rO f2 f3v EZ;obtain⟨w1,w2⟩:=wr (es++[(kv,v)]) (fZ++[(tk,tv)]) (by simp[f2]) fun i a b ha qN=>by
       rcases a4N i es.length with aT|EW
       .rw[a0C aT]at ha;rw[a0C (by rw[<-f2];exact aT)]at qN;exact f3 i a b ha qN
       .rw[a0T EW]at ha;rw[a0T (by rw[<-f2];exact EW),<-f2]at qN;cases hx:i-es.length with
        |zero=>
         rw[hx]at ha qN;simp only[a2Z,a0d]at ha qN;subst ha;subst qN;exact⟨htk,htv⟩
        |succ n=>rw[hx]at ha;simp at ha
      refine⟨?_,w1,w2⟩;unfold xR;simp only[hu,OU,f1,c1,pW,sN,c2]
     split at hl
     .obtain⟨⟨xO,q1,c1⟩,⟨acI,ks,q2,EZ,c2⟩,hl⟩:=hl;rw[q1]at q2;cases q2;obtain⟨u1,u2,u3⟩:=new q1 EZ c1 c2;exact⟨_,_,_,_,pF (.h cb),u1,u2,u3,hl,.wrH (iL g1 rfl) aT,fun b hb=>by simp[pF]at hb;subst hb;exact bf g1 rfl⟩
     .obtain⟨⟨xO,q1,c1⟩,⟨acI,ks,q2,EZ,c2⟩,hl⟩:=hl;rw[q1]at q2;cases q2;obtain⟨u1,u2,u3⟩:=new q1 EZ c1 c2;exact⟨_,_,_,_,pF (.h cb),u1,u2,u3,hl,.wrH (iL g1 rfl) aT,fun b hb=>by simp[pF]at hb;subst hb;exact bf g1 rfl⟩
     .obtain⟨⟨xO,ks,j,old,ov,OU,c1,EZ,c2,hj,hold,hov,c3⟩,hl⟩:=hl;have sN:=rO f2 f3v EZ;have Ea:∃y0,fZ[j]? = some y0:=by
       have:j<fZ.length:=by rw[<-f2];exact(a0h.1 hj).1
       exact⟨_,a0q this⟩
      obtain⟨y0,Wj⟩:=Ea;have hy1:y0.1=old:=by
       have:(fZ.map (·.1))[j]? = some y0.1:=by rw[a4T,Wj];rfl
       rw[sN,hold]at this;exact(a9x this).symm
      obtain⟨w1,w2⟩:=wr es (fZ.set j (tk,tv)) (by simp[f2]) fun i a b ha qN=>by
       by_cases e:j=i
       .subst e;rw[a4Q]at qN;rw[hj]at ha;rw[Wj]at qN;cases ha;cases qN;exact⟨htk,htv⟩
       .rw[a1B e]at qN;exact f3 i a b ha qN
      have FN:ps.heap.set r (.map es)=ps.heap:=by
       refine aa3 fun i=>?_;by_cases e:r=i
       .subst e;rw[a2M (a0h.1 hb).1,hb]
       .rw[a1B e]
      rw[FN]at w1;refine⟨_,_,_,_,pF (.h cb),?_,w1,w2,hl,.wrH (iL g1 rfl) aT,fun b hb=>by simp[pF]at hb;subst hb;exact bf g1 rfl⟩;unfold xR;simp only[hu,OU,f1,c1,pW,sN,c2,Wj,hy1,hov,c3,a2u]
     .split at hl
      .rename_i xO ks OU EZ;have sN:=rO f2 f3v EZ;split at hl
       .rename_i j rest _ _ _;split at hl
        .rename_i x0 old hj hold;split at hl
         .rename_i ov hov;obtain⟨c1,c2,c3,hl⟩:=hl;have Ea:∃y0,fZ[j]? = some y0:=by
           have:j<fZ.length:=by rw[<-f2];exact(a0h.1 hj).1
           exact⟨_,a0q this⟩
          obtain⟨y0,Wj⟩:=Ea;have hy1:y0.1=old:=by
           have:(fZ.map (·.1))[j]? = some y0.1:=by rw[a4T,Wj];rfl
           rw[sN,hold]at this;exact(a9x this).symm
          obtain⟨w1,w2⟩:=wr (es.set j (kv,v)) (fZ.set j (tk,tv)) (by simp[f2]) fun i a b ha qN=>by
           by_cases e:j=i
           .subst e;rw[a4Q]at ha qN;rw[hj]at ha;rw[Wj]at qN;cases ha;cases qN;exact⟨htk,htv⟩
           .rw[a1B e]at ha qN;exact f3 i a b ha qN
          refine⟨_,_,_,_,pF (.h cb),?_,w1,w2,hl,.wrH (iL g1 rfl) aT,fun b hb=>by simp[pF]at hb;subst hb;exact bf g1 rfl⟩;unfold xR;simp only[hu,OU,f1,c1,pW,sN,c2,Wj,hy1,hov,c3,a2u]
         .exact hl.elim
        .exact hl.elim
       .obtain⟨c1,c2,hl⟩:=hl;obtain⟨u1,u2,u3⟩:=new OU EZ c1 c2;exact⟨_,_,_,_,pF (.h cb),u1,u2,u3,hl,.wrH (iL g1 rfl) aT,fun b hb=>by simp[pF]at hb;subst hb;exact bf g1 rfl⟩
       .exact hl.elim
      .exact hl.elim
   |_=>exact g2.elim
  .exact hl.elim
 .exact hl.elim
end
open Go Tw
theorem kL{m:List MB}{b:Nat}(h:b∈bg m):∃i,G9 m i b:=by obtain⟨mb,h1,h2⟩:=a6C.1 h;obtain⟨i,hi⟩:=a8X h1;exact⟨i,mb,hi,h2⟩
section
variable {X:kX} {P:LI1} {A B:Nat->Prop} {m m1:List MB} {h:List HB} {g:Nat->Option Nat}
theorem jI:∀{m:List MB},(∀i j c,G9 m i c->G9 m j c->i=j)->(bg m).Nodup
 | [],_=>by simp[bg]
 |x::m,hu=>by
  have ih:(bg m).Nodup:=jI fun i j c h1 h2=>by have:=hu (i+1) (j+1) c (by obtain⟨mb,a,b⟩:=h1;exact⟨mb,by simpa using a,b⟩) (by obtain⟨mb,a,b⟩:=h2;exact⟨mb,by simpa using a,b⟩);omega
  unfold bg at ih ⊢;rw[a9v];split
  .exact ih
  rename_i b hb;refine a4U.2 ⟨fun hm=>?_,ih⟩;obtain⟨i,mb,h1,h2⟩:=kL (m:=m) hm;have:=hu 0 (i+1) b ⟨x,rfl,hb⟩ ⟨mb,by simpa using h1,h2⟩;omega
theorem OX:∀{ks:List Nat} {i p:Nat},wM ks i=some p->ks[p]? = some i
 | [],i,p,h=>by cases h
 |a::ks,i,p,h=>by
  simp only[wM]at h;split at h
  .rename_i e;cases h;simp[e]
  simp only[a0l]at h;obtain⟨q,h1,rfl⟩:=h;simpa using OX h1
section
variable {g:Nat->Option Nat} {m1:List MB}
theorem Em(hg:∀i j,g i=some j->m1[j]? = m[i]?){B:Nat->Prop}(hA:∀b,A b->B b)(hX:bT X P){v:PV X.Γ}{x:TV}(hv:VR X P A m h v x):∀{w:PV X.Γ},fE g v=some w->VR X P B m1 h w x:=by
 have lists:∀{vs:List (PV X.Γ)} {xs:List TV},vs.length=xs.length->(∀(i:Nat) a b,vs[i]? = some a->xs[i]? = some b->∀{w:PV X.Γ},fE g a=some w->VR X P B m1 h w b)->∀{ws:List (PV X.Γ)},fE.pz g vs=some ws->ws.length=xs.length∧∀(i:Nat) a b,ws[i]? = some a->xs[i]? = some b->VR X P B m1 h a b:=by
  intro vs
  induction vs with
  |nil=>
   intro xs hl _ ws hw;simp only[fE.pz,a0d]at hw;subst hw;exact⟨hl,fun i a b ha=>by simp at ha⟩
  |cons v vs ih=>
   intro xs hl hh ws hw;cases xs with
   |nil=>simp at hl
   |cons x xs=>
    simp only[fE.pz]at hw;split at hw
    .rename_i w Uj h1 h2;cases hw;obtain⟨e1,e2⟩:=ih (xs:=xs) (by simpa using hl) (fun i a b ha hb=>hh (i+1) a b (by simpa using ha) (by simpa using hb)) h2;refine⟨by simp[e1],fun i a b ha hb=>?_⟩;cases i with
     |zero=>simp only[a2Z,a0d]at ha hb;subst ha;subst hb;exact hh 0 v x rfl rfl h1
     |succ i=>exact e2 i a b (by simpa using ha) (by simpa using hb)
    cases hw
 induction hv with
 |bool=>intro w hw;simp only[fE,a0d]at hw;subst hw;exact .bool _
 |lit=>intro w hw;simp only[fE,a0d]at hw;subst hw;exact .lit _
 |int=>intro w hw;simp only[fE,a0d]at hw;subst hw;exact .int _ _
 |str=>intro w hw;simp only[fE,a0d]at hw;subst hw;exact .str _
 |nil=>intro w hw;simp only[fE,a0d]at hw;subst hw;exact .nil _
 |ptr e=>intro w hw;simp only[fE,a0l]at hw;obtain⟨j,h1,rfl⟩:=hw;exact .ptr (by rw[hg _ _ h1];exact e)
 |aP e=>intro w hw;simp only[fE,a0l]at hw;obtain⟨j,h1,rfl⟩:=hw;exact .aP (by rw[hg _ _ h1];exact e)
 |own e o=>intro w hw;simp only[fE,a0l]at hw;obtain⟨j,h1,rfl⟩:=hw;exact .own (by rw[hg _ _ h1];exact e) o
 |win e q q' q2=>intro w hw;simp only[fE,a0l]at hw;obtain⟨j,h1,rfl⟩:=hw;exact .win (by rw[hg _ _ h1];exact e) q q' q2
 |BQ e=>intro w hw;simp only[fE,a0l]at hw;obtain⟨j,h1,rfl⟩:=hw;exact .BQ (by rw[hg _ _ h1];exact e)
 |Gv e=>intro w hw;simp only[fE,a0l]at hw;obtain⟨j,h1,rfl⟩:=hw;exact .Gv (by rw[hg _ _ h1];exact e)
 |Jm e=>intro w hw;simp only[fE,a0l]at hw;obtain⟨j,h1,rfl⟩:=hw;exact .Jm (by rw[hg _ _ h1];exact e)
 |map e=>intro w hw;simp only[fE,a0l]at hw;obtain⟨j,h1,rfl⟩:=hw;exact .map (by rw[hg _ _ h1];exact e)
 |iter e=>intro w hw;simp only[fE,a0l]at hw;obtain⟨j,h1,rfl⟩:=hw;exact .iter (by rw[hg _ _ h1];exact e)
 |kU e=>intro w hw;simp only[fE,a0l]at hw;obtain⟨j,h1,rfl⟩:=hw;exact .kU (by rw[hg _ _ h1];exact e)
 |row e j q=>intro w hw;simp only[fE,a0l]at hw;obtain⟨j,h1,rfl⟩:=hw;exact .row (by rw[hg _ _ h1];exact e) (by assumption) q
 |fn h1 _ h3 _ i2 i4=>
  intro w hw;simp only[fE]at hw;split at hw
  .rename_i a c ha hc;cases hw;obtain⟨e1,e2⟩:=lists h1 i2 ha;obtain⟨e3,e4⟩:=lists h3 i4 hc;exact .fn e1 e2 e3 e4
  cases hw
 |agg h1 _ i2=>
  intro w hw;simp only[fE,a0l]at hw;obtain⟨cs,hc,rfl⟩:=hw;obtain⟨e1,e2⟩:=lists h1 i2 hc;exact .agg e1 e2
 |dJ h1 _ i2=>
  intro w hw;simp only[fE,a0l]at hw;obtain⟨cs,hc,rfl⟩:=hw;obtain⟨e1,e2⟩:=lists h1 i2 hc;exact .dJ e1 e2
 |pK=>intro w hw;simp only[fE,a0d]at hw;subst hw;exact .pK
 |dF a c c2 s z o k f e r _=>intro w hw;simp only[fE,a0d]at hw;subst hw;exact .dF (hA _ a) c c2 s z o k f e fun j y i d v h1 h2 h3=>((r j y i d v h1 h2 h3).mono hA).jy hX (fH (hX.jy _ _) h2)
 |el a c l o e q r _=>intro w hw;simp only[fE,a0d]at hw;subst hw;exact .el (hA _ a) c l o e q fun i d v h1 h2=>((r i d v h1 h2).mono hA).jy hX (fH (hX.jy _ _) h1)
 |gone i e o=>
  intro w hw;rename_i v _ x;have:∃j,bn w=some j∧Dc w x m1[j]?:=by cases v<;>simp[bn]at i<;>subst i<;>simp only[fE,a0l]at hw<;>obtain⟨j,h1,rfl⟩:=hw<;>exact⟨j,rfl,by rw[hg _ _ h1];exact e.as fun c=>rfl⟩
  obtain⟨j,h1,h2⟩:=this;exact .gone h1 h2 o
variable {B:Nat->Prop}
theorem zG(hX:bT X P)(hg:∀i j,g i=some j->m1[j]? = m[i]?)(hA:∀b,A b->B b):∀{vs:List (PV X.Γ)} {xs:List TV} {ws:List (PV X.Γ)},bY X P A m h vs xs->fE.pz g vs=some ws->bY X P B m1 h ws xs
 | [],xs,ws,hv,hw=>by simp only[fE.pz,a0d]at hw;subst hw;rw[hv.inv0];exact .nil
 |v::vs,xs,ws,hv,hw=>by
  obtain⟨x,r,rfl,h1,h2⟩:=hv.inv;simp only[fE.pz]at hw;split at hw
  .rename_i w Uj g1 g2;cases hw;exact .cons (Em hg hA hX h1 g1) (zG hX hg hA h2 g2)
  cases hw
theorem OY(hX:bT X P)(hg:∀i j,g i=some j->m1[j]? = m[i]?)(hA:∀b,A b->B b){env:List (Nat×PE X.Γ)}{env':List (Nat×EV)}(he:ku X P A m h env env'):∀{r:List (Nat×PE X.Γ)},pq g env=some r->ku X P B m1 h r env':=by
 induction he with
 |nil=>intro r h;simp only[pq,a0d]at h;subst h;exact .nil
 |cons h1 h2 ih=>
  rename_i k v x q q';intro r hr;simp only[pq]at hr;split at hr
  rotate_left
  .cases hr
  rename_i w r' e1 e2;cases hr;refine .cons ?_ (ih e2);cases v with
  |val v=>
   obtain⟨y,rfl,h3⟩:=fQ h1;simp only[OD,a0l]at e1;obtain⟨u,e3,rfl⟩:=e1;exact o8 (Em hg hA hX h3 e3)
  |loc a b=>simp only[OD,a0d]at e1;subst e1;rw[Ei h1];exact⟨rfl,rfl⟩
  |undef=>simp only[OD,a0d]at e1;subst e1;rw[Jp h1];trivial
  |ent r j v=>
   obtain⟨c,y,rfl,h3,h4⟩:=MW h1;simp only[OD,a0l]at e1;obtain⟨u,e3,rfl⟩:=e1;exact⟨Em hg hA hX h3 (w:=.map u) (by simp only[fE,e3,a0O]),rfl,h4⟩
  |EI r j=>
   obtain⟨c,rfl,h3⟩:=MX h1;simp only[OD,a0l]at e1;obtain⟨u,e3,rfl⟩:=e1;exact⟨Em hg hA hX h3 (w:=.map u) (by simp only[fE,e3,a0O]),rfl⟩
theorem En(hX:bT X P)(hg:∀i j,g i=some j->m1[j]? = m[i]?)(hA:∀b,A b->B b){b b':PB X.Γ}{mb:MB}(hn:∀c,mb=.jA c->c∉bg m->c∉bg m1)(hb:BR X P A m h b mb)(hr:zD g b=some b'):BR X P B m1 h b' mb:=by
 cases b with
 |cells cs=>
  cases mb with
  |gq c=>
   simp only[zD,a0l]at hr;obtain⟨cs',h1,rfl⟩:=hr;obtain⟨xs,h2,h3⟩:=hb;exact⟨xs,h2,zG hX hg hA h3 h1⟩
  |_=>exact hb.elim
 |aF cs=>
  cases mb with
  |jA c=>
   simp only[zD,a0l]at hr;obtain⟨cs',h1,rfl⟩:=hr;obtain⟨h0,xs,h2,h3⟩:=hb;exact⟨hn c rfl h0,xs,h2,zG hX hg hA h3 h1⟩
  |_=>exact hb.elim
 |list k ex t l=>
  cases mb with
  |dF y=>
   simp only[zD,a0d]at hr;subst hr;cases(hb:LR X P A m h k ex t l y)with
   |nil=>exact LR.nil
   |emp p0 p1 p2 p3 p4=>exact LR.emp (hA _ p0) p1 p2 p3 p4
   |some p1 p2 p3 p4 p5 p6 p7 p8 p9=>exact LR.some p1 p2 p3 p4 p5 p6 p7 p8 ((p9.mono hA).jy hX)
  |_=>exact hb.elim
 |map es=>
  cases mb with
  |gq c=>
   simp only[zD,a0d]at hr;subst hr;exact hb
  |_=>exact hb.elim
 |ny cs=>
  cases mb with
  |gq c=>
   simp only[zD,a0d]at hr;subst hr;exact hb
  |_=>exact hb.elim
 |iG es=>
  cases mb with
  |jA c=>
   simp only[zD,a0d]at hr;subst hr;exact⟨hn c rfl hb.1,hb.2⟩
  |_=>exact hb.elim
 |dn r n seen=>
  cases mb with
  |gq b=>
   simp only[zD,a0l]at hr;obtain⟨j,h1,rfl⟩:=hr;obtain⟨c,h2,h3,h4⟩:=hb;exact⟨c,h2,by rw[hg _ _ h1];exact h3,fun c' hc=>h4 c' (by rw[<-hg _ _ h1];exact hc)⟩
  |_=>exact hb.elim
 |mark=>
  cases mb with
  |gq c=>simp only[zD,a0d]at hr;subst hr;exact hb
  |_=>exact hb.elim
 |loop rd f nt env ps a c jQ=>
  cases mb with
  |gq cb=>
   simp only[zD,a0l]at hr;obtain⟨auK,h1,rfl⟩:=hr;obtain⟨xs,h2,h3⟩:=hb;exact⟨xs,h2,OY hX hg hA h3 h1⟩
  |_=>exact hb.elim
 |gone=>
  cases mb with
  |gone=>simp only[zD,a0d]at hr;subst hr;trivial
  |_=>exact hb.elim
theorem tJ:∀{bs r:List (PB X.Γ)},nX g bs=some r->r.length=bs.length∧∀{i:Nat} {b':PB X.Γ},r[i]? = some b'->∃b,bs[i]? = some b∧zD g b=some b'
 | [],r,h=>by simp only[nX,a0d]at h;subst h;exact⟨rfl,fun{i b'} hi=>by simp at hi⟩
 |b::bs,r,h=>by
  simp only[nX]at h;split at h
  .rename_i c cs h1 h2;cases h;obtain⟨e1,e2⟩:=tJ h2;refine⟨by simp[e1],fun{i b'} hi=>?_⟩;cases i with
   |zero=>simp only[a2Z,a0d]at hi;subst hi;exact⟨b,rfl,h1⟩
   |succ i=>obtain⟨d,q1,q2⟩:=e2 (i:=i) (by simpa using hi);exact⟨d,by simpa using q1,q2⟩
  cases h
theorem OZ:∀{bs r:List (List (PV X.Γ))},Xa g bs=some r->r.length=bs.length∧∀{i:Nat} {b':List (PV X.Γ)},r[i]? = some b'->∃b,bs[i]? = some b∧fE.pz g b=some b'
 | [],r,h=>by simp only[Xa,a0d]at h;subst h;exact⟨rfl,fun{i b'} hi=>by simp at hi⟩
 |b::bs,r,h=>by
  simp only[Xa]at h;split at h
  .rename_i c cs h1 h2;cases h;obtain⟨e1,e2⟩:=OZ h2;refine⟨by simp[e1],fun{i b'} hi=>?_⟩;cases i with
   |zero=>simp only[a2Z,a0d]at hi;subst hi;exact⟨b,rfl,h1⟩
   |succ i=>obtain⟨d,q1,q2⟩:=e2 (i:=i) (by simpa using hi);exact⟨d,by simpa using q1,q2⟩
  cases h
theorem Eo:∀{ks:List Nat} {H r:List (PB X.Γ)},D8 H ks=some r->r.length=ks.length∧∀{i k:Nat},ks[i]? = some k->∃b,H[k]? = some b∧r[i]? = some b
 | [],H,r,h=>by simp only[D8,a0d]at h;subst h;exact⟨rfl,fun{i k} hi=>by simp at hi⟩
 |k::ks,H,r,h=>by
  simp only[D8]at h;split at h
  .rename_i b rs h1 h2;cases h;obtain⟨e1,e2⟩:=Eo h2;refine⟨by simp[e1],fun{i j} hi=>?_⟩;cases i with
   |zero=>simp only[a2Z,a0d]at hi;subst hi;exact⟨b,h1,rfl⟩
   |succ i=>obtain⟨d,q1,q2⟩:=e2 (i:=i) (k:=j) (by simpa using hi);exact⟨d,q1,by simpa using q2⟩
  cases h
end
theorem tK{α:Type}:∀{ks:List Nat} {bs l:List α},(putAt ks bs l).length=l.length
 | [],_,_=>rfl
 |_::_,[],_=>rfl
 |k::ks,b::bs,l=>by simp only[putAt];rw[tK,a4Y]
theorem P5{α:Type}:∀{ks:List Nat} {bs l:List α} {p i:Nat},ks.Nodup->(∀k∈ks,k<l.length)->ks.length<=bs.length->ks[p]? = some i->(putAt ks bs l)[i]? = bs[p]?
 | [],_,_,p,i,_,_,_,h=>by simp at h
 |a::ks,[],_,_,_,_,_,hl,_=>by simp at hl
 |a::ks,b::bs,l,0,i,hn,hk,hl,h=>by
  simp only[a2Z,a0d]at h;subst h;have hn:=a4U.1 hn;simp only[putAt];have:∀{ks:List Nat} {bs l:List α} {i:Nat},i∉ks->(putAt ks bs l)[i]? = l[i]?:=by
   intro ks
   induction ks with
   |nil=>intro bs l i _;rfl
   |cons c ks ih=>
    intro bs l i hi;simp only[a1Y,ae6]at hi;cases bs with
    |nil=>rfl
    |cons b bs=>simp only[putAt];rw[ih hi.2,a1B (fun e=>hi.1 e.symm)]
  rw[this hn.1,a2M (hk a (a3x ..))];rfl
 |a::ks,b::bs,l,p+1,i,hn,hk,hl,h=>by simp only[aa1]at h;simp only[putAt];rw[P5 (a4U.1 hn).2 (fun k oH=>by rw[a4Y];exact hk k (a3y _ oH)) (by simpa using hl) h];rfl
theorem Js{α:Type}:∀{ks:List Nat} {bs l:List α} {i:Nat},i∉ks->(putAt ks bs l)[i]? = l[i]?
 | [],_,_,_,_=>rfl
 |a::ks,[],_,_,_=>rfl
 |a::ks,b::bs,l,i,hi=>by simp only[a1Y,ae6]at hi;simp only[putAt];rw[Js hi.2,a1B (fun e=>hi.1 e.symm)]
def Xo(X:kX)(P:LI1)(call:aZ)(fv:PV X.Γ)(xs:List (PV X.Γ))(H:List (PB X.Γ))(v:PV X.Γ)(H1:List (PB X.Γ))(W:Nat->Prop):Prop:=
 ∀(A:Nat->Prop) (m:List MB) (h:List HB) (tf:TV) (qP:List TV),HR X P A m H h->VR X P (AA A m) m h fv tf->bY X P (AA A m) m h xs qP ->
  ∃w h1 ws m1,call tf qP h=some (w,h1,ws)∧HR X P A m1 H1 h1∧VR X P (AA A m1) m1 h1 v w∧Fr m h m1 h1∧Up m m1∧∀b∈ws,∃k,W k∧G9 m k b
theorem dG.w{call:aZ}{fv v:PV X.Γ}{xs:List (PV X.Γ)}{H H1:List (PB X.Γ)}(h:dG X P call fv xs H v H1):Xo X P call fv xs H v H1 fun _=>True:=fun A m h0 tf qP a b c=>by obtain⟨w,h1,ws,m1,c1,c2,c3,c4,c5,c6⟩:=h A m h0 tf qP a b c;exact⟨w,h1,ws,m1,c1,c2,c3,c4,c5,fun b hb=>by obtain⟨i,hi⟩:=kL (c6 b hb);exact⟨i,trivial,hi⟩⟩
theorem N8:∀{H:List (PB X.Γ)} {i:Nat} {b:PB X.Γ},Jk H=true->H[i]? = some b->Jk [b]=true
 | [],_,_,_,h=>by simp at h
 |a::H,0,b,hn,h=>by simp only[a2Z,a0d]at h;subst h;cases a<;>simp_all [Jk]
 |a::H,i+1,b,hn,h=>by
  have Eb:Jk H=true:=by cases a<;>simp_all [Jk]
  exact N8 Eb (by simpa using h)
def SwM(m m':List MB):Prop:=∀i:Nat,m'[i]? = m[i]?∨(∃c,m[i]? = some (.gq c)∧m'[i]? = some (.jA c))∨∃c,m[i]? = some (.jA c)∧m'[i]? = some (.gq c)
section
variable {m':List MB}
theorem VR.sw(hm:SwM m m')(hA:∀b,A b->B b){v:PV X.Γ}{x:TV}(hv:VR X P A m h v x):VR X P B m' h v x:=by
 have hl:∀{i:Nat} {x:TV},m[i]? = some (.dF x)->m'[i]? = some (.dF x):=fun{i x} e=>by
  rcases hm i with g|⟨c,g,_⟩|⟨c,g,_⟩
  .rw[g,e]
  .rw[e]at g;cases g
  rw[e]at g;cases g
 have hb:∀{i c:Nat},m[i]? = some (.gq c)->m'[i]? = some (.gq c)∨m'[i]? = some (.jA c):=fun{i c} e=>by
  rcases hm i with g|⟨c',g,g2⟩|⟨c',g,_⟩
  .exact .inl (by rw[g,e])
  .rw[e]at g;cases g;exact .inr g2
  rw[e]at g;cases g
 induction hv with
 |bool=>exact .bool _
 |lit=>exact .lit _
 |int=>exact .int _ _
 |str=>exact .str _
 |nil=>exact .nil _
 |ptr e=>rcases hb e with e|e;exact .ptr e;exact .gone rfl (.ofR e rfl) rfl
 |aP e=>rcases hb e with e|e;exact .aP e;exact .gone rfl (.ofR e rfl) rfl
 |own e o=>exact .own (hl e) o
 |win e q q' q2=>exact .win (hl e) q q' q2
 |BQ e=>exact .BQ (hl e)
 |Gv e=>exact .Gv (hl e)
 |Jm e=>exact .Jm (hl e)
 |map e=>rcases hb e with e|e;exact .map e;exact .gone rfl (.ofR e rfl) rfl
 |iter e=>rcases hb e with e|e;exact .iter e;exact .gone rfl (.ofR e rfl) rfl
 |fn h1 _ h3 _ i2 i4=>exact .fn h1 i2 h3 i4
 |kU e=>rcases hb e with e|e;exact .kU e;exact .gone rfl (.ofR e rfl) rfl
 |agg h1 _ i2=>exact .agg h1 i2
 |dJ h1 _ i2=>exact .dJ h1 i2
 |pK=>exact .pK
 |dF a c c2 s z o k f e _ ih=>exact .dF (hA _ a) c c2 s z o k f e ih
 |el a c l o e q _ ih=>exact .el (hA _ a) c l o e q ih
 |row e j q=>exact .row (hl e) j q
 | @gone v i x hi e o=>
  generalize hq:m[i]? = q at e;cases e with
  |g=>
   rcases hm i with g|⟨c,g,_⟩|⟨c,g,_⟩
   .exact .gone hi (.of (by rw[g,hq])) o
   .rw[hq]at g;cases g
   rw[hq]at g;cases g
  |r c hv=>
   rcases hm i with g|⟨c',g,_⟩|⟨c',g,g2⟩
   .exact .gone hi (.ofR (by rw[g,hq]) hv) o
   .rw[hq]at g;cases g
   rw[hq]at g;cases g;cases v<;>simp only[roV,a0d]at hv<;>first|cases hv;done|skip
   all_goals (subst hv;simp only[bn,a0d]at hi;subst hi)
   .exact .ptr g2
   .exact .aP g2
   .exact .map g2
   .exact .kU g2
   exact .iter g2
theorem bY.sw(hm:SwM m m')(hA:∀b,A b->B b){v:List (PV X.Γ)}{x:List TV}(hv:bY X P A m h v x):bY X P B m' h v x:=
 ⟨hv.1,fun i a b ha hb=>(hv.2 i a b ha hb).sw hm hA⟩
theorem ku.sw(hm:SwM m m')(hA:∀b,A b->B b){v:List (Nat×PE X.Γ)}{x:List (Nat×EV)}(hv:ku X P A m h v x):ku X P B m' h v x:=by
 induction hv with
 |nil=>exact .nil
 |cons h1 _ ih=>
  refine .cons ?_ ih;rename_i v x _ _ _;cases v<;>cases x<;>first|exact VR.sw hm hA h1|exact h1|exact⟨VR.sw hm hA h1.1,h1.2⟩
theorem BR.sw(hm:SwM m m')(hA:∀b,A b->B b){b:PB X.Γ}{mb:MB}(hn:∀c,mb=.jA c->c∉bg m->c∉bg m')(hb:BR X P A m h b mb):BR X P B m' h b mb:=by
 cases b with
 |cells cs=>cases mb with
  |gq b=>obtain⟨cs',h1,h2⟩:=hb;exact⟨cs',h1,h2.sw hm hA⟩
  |_=>exact hb.elim
 |aF cs=>cases mb with
  |jA b=>obtain⟨h0,cs',h1,h2⟩:=hb;exact⟨hn b rfl h0,cs',h1,h2.sw hm hA⟩
  |_=>exact hb.elim
 |list k ex t l=>cases mb with
  |dF x=>
   cases(hb:LR X P A m h k ex t l x)with
   |nil=>exact LR.nil
   |emp h0 h1 h2 h3 h4=>exact LR.emp (hA _ h0) h1 h2 h3 h4
   |some h1 h2 h3 h4 h5 h6 h7 h8 h9=>exact LR.some h1 h2 h3 h4 h5 h6 h7 h8 ⟨h9.1,h9.2.1,fun j a i c v a1 a2 a3=>(h9.2.2 j a i c v a1 a2 a3).sw hm hA⟩
  |_=>exact hb.elim
 |map es=>cases mb with
  |gq b=>exact hb
  |_=>exact hb.elim
 |ny cs=>cases mb with
  |gq b=>exact hb
  |_=>exact hb.elim
 |iG es=>cases mb with
  |jA b=>exact⟨hn b rfl hb.1,hb.2⟩
  |_=>exact hb.elim
 |dn r n seen=>cases mb with
  |gq b=>
   obtain⟨c,h1,h2,h3⟩:=hb;refine⟨c,h1,?_,fun c' hc=>?_⟩
   .rcases hm r with g|⟨c',g,g2⟩|⟨c',g,g2⟩
    .rw[g];exact h2
    .rw[g2];rfl
    .rw[g2];rfl
   .rcases hm r with g|⟨c2,g,g2⟩|⟨c2,g,g2⟩
    .exact h3 c' (by rw[<-g];exact hc)
    .rw[g2]at hc;simp at hc;subst hc;exact h3 c2 (.inl g)
    .rw[g2]at hc;simp at hc;subst hc;exact h3 c2 (.inr g)
  |_=>exact hb.elim
 |mark=>cases mb with
  |gq b=>exact hb
  |_=>exact hb.elim
 |loop rd f nt env ps a c jQ=>cases mb with
  |gq b=>obtain⟨e',h1,h2⟩:=hb;exact⟨e',h1,h2.sw hm hA⟩
  |_=>exact hb.elim
 |gone=>cases mb with
  |gone=>trivial
  |_=>exact hb.elim
end
theorem af4{call:aZ}{fv v:PV X.Γ}{xs:List (PV X.Γ)}{H H1:List (PB X.Γ)}{W:Nat->Prop}{r:Nat}{cs SQ:List (PV X.Γ)}(h0:H[r]? = some (.cells cs))(h9:H1[r]? = some (.cells SQ))(hro:Jk (H1.drop H.length)=true)
  (hs:Xo X P call fv xs (H.set r (.aF cs)) v (H1.set r (.aF SQ)) W):Xo X P call fv xs H v H1 fun k=>W k∧k≠r:=fun A m h tf qP hr hf hx=>by
 obtain⟨mb0,q1,q2⟩:=hr.at_ r _ h0;have hrl:r<H.length:=(a0h.1 h0).1;have hrm:r<m.length:=by rw[hr.len];exact hrl
 cases mb0 with
 |gq c=>
  obtain⟨cs',q3,q4⟩:=q2;have Gf:c∈bg m:=bf q1 rfl;have hch:=(a0h.1 q3).1;have hm:SwM m (m.set r (.jA c)):=fun i=>by
   by_cases e:i=r
   .subst e;exact .inr (.inl ⟨c,q1,by rw[a2M hrm]⟩)
   .exact .inl (by rw[a1B (fun h=>e h.symm)])
  have old:∀{i b:Nat},G9 (m.set r (.jA c)) i b->i≠r∧G9 m i b:=fun{i b} ho=>by
   obtain⟨mb,a1,a2⟩:=ho;by_cases e:i=r
   .subst e;rw[a2M hrm]at a1;cases a1;cases a2
   .rw[a1B (fun h=>e h.symm)]at a1;exact⟨e,mb,a1,a2⟩
  have nO:∀b,b∈bg (m.set r (.jA c))->b∈bg m∧b≠c:=fun b hb=>by obtain⟨i,hi⟩:=kL hb;obtain⟨e,mb,a1,a2⟩:=old hi;refine⟨bf a1 a2,fun e2=>?_⟩;subst e2;exact e (jc hr.nodup a1 q1 a2 rfl)
  have hA:∀b,AA A m b->AA (fun b=>A b∧b≠c) (m.set r (.jA c)) b:=fun b hb=>⟨⟨hb.1,fun e=>hb.2 (e▸Gf)⟩,fun h=>hb.2 (nO b h).1⟩;have wK:HR X P (fun b=>A b∧b≠c) (m.set r (.jA c)) (H.set r (.aF cs)) h:=by
   refine⟨by simp[hr.len],fun i b hi=>?_,jI fun i j d a1 a2=>?_,fun b hb=>⟨hr.up b hb,by omega⟩,fun b hb=>⟨hr.Df b (nO b hb).1,(nO b hb).2⟩⟩
   .by_cases e:i=r
    .subst e;rw[a2M hrl]at hi;cases hi;exact⟨.jA c,by rw[a2M hrm],fun h=>(nO c h).2 rfl,cs',q3,q4.sw hm hA⟩
    .rw[a1B (fun h=>e h.symm)]at hi;obtain⟨mb,g1,g2⟩:=hr.at_ i b hi;exact⟨mb,by rw[a1B (fun h=>e h.symm)];exact g1,g2.sw hm hA fun d _ hn h=>hn (nO d h).1⟩
   .obtain⟨_,ma,u1,u2⟩:=old a1;obtain⟨_,mc,v1,v2⟩:=old a2;exact jc hr.nodup u1 v1 u2 v2
  obtain⟨w,h1,ws,m1,c1,c2,c3,c4,c5,c6⟩:=hs (fun b=>A b∧b≠c) (m.set r (.jA c)) h tf qP wK (hf.sw hm hA) (hx.sw hm hA)
  .have af5:r<H1.length:=(a0h.1 h9).1;obtain⟨mb1,e1,e2⟩:=c2.at_ r (.aF SQ) (by rw[a2M af5]);have e3:=c5 r (.jA c) (by rw[a2M hrm]);have e4:mb1=.jA c:=by
    rcases e3 with e3|e3<;>rw[e1]at e3<;>cases e3
    .rfl
    .exact e2.elim
   subst e4;obtain⟨p0,Xg,p1,p2⟩:=e2;have Jt:r<m1.length:=(a0h.1 e1).1;have hm1:SwM m1 (m1.set r (.gq c)):=fun i=>by
    by_cases e:i=r
    .subst e;exact .inr (.inr ⟨c,e1,by rw[a2M Jt]⟩)
    .exact .inl (by rw[a1B (fun h=>e h.symm)])
   have at1:∀{i:Nat} {mb:MB},i≠r->(m1.set r (.gq c))[i]? = some mb->m1[i]? = some mb:=fun{i mb} e h=>by rw[a1B (fun h=>e h.symm)]at h;exact h
   have CU:∀b,b∈bg (m1.set r (.gq c))->b=c∨b∈bg m1:=fun b hb=>by
    obtain⟨i,mb,a1,a2⟩:=kL hb;by_cases e:i=r
    .subst e;rw[a2M Jt]at a1;cases a1;cases a2;exact .inl rfl
    .exact .inr (bf (at1 e a1) a2)
   have hA1:∀b,AA (fun b=>A b∧b≠c) m1 b->AA A (m1.set r (.gq c)) b:=fun b hb=>⟨hb.1.1,fun h=>by
    rcases CU b h with e|e
    .exact hb.1.2 e
    .exact hb.2 e⟩
   refine⟨w,h1,ws,m1.set r (.gq c),c1,⟨by rw[a4Y,c2.len,a4Y],fun i b hi=>?_,jI fun i j d a1 a2=>?_,fun b hb=>(c2.up b hb).1,fun b hb=>?_⟩,c3.sw hm1 hA1,⟨c4.len,fun b hb hn=>c4.same b hb fun h=>hn (nO b h).1,fun b hb=>?_,c4.grow⟩,fun i mb hi=>?_,fun b hb=>?_⟩
   .by_cases e:i=r
    .subst e;rw[h9]at hi;cases hi;exact⟨.gq c,by rw[a2M Jt],Xg,p1,p2.sw hm1 hA1⟩
    .obtain⟨mb,g1,g2⟩:=c2.at_ i b (by rw[a1B (fun h=>e h.symm)];exact hi);refine⟨mb,by rw[a1B (fun h=>e h.symm)];exact g1,g2.sw hm1 hA1 fun d hd hn ZW=>?_⟩;subst hd;rcases CU d ZW with e5|e5
     .subst e5;rcases a4N i m.length with aT|EW
      .have KI:(m.set r (.jA d))[i]? = m[i]?:=(by rw[a1B (fun h=>e h.symm)]);have hmi:m[i]? = some (.jA d):=by
        rcases c5 i m[i] (by rw[KI];exact a0q aT)with e6|e6<;>rw[g1]at e6<;>simp only[a0d]at e6
        .rw[a0q aT,<-e6]
        .cases e6
       have hlH:i<H.length:=by rw[<-hr.len];exact aT
       obtain⟨mb9,e7,e8⟩:=hr.at_ i _ (a0q hlH);rw[hmi]at e7;cases e7;generalize H[i]=b9 at e8;cases b9<;>first|exact e8.elim|exact e8.1 Gf
      .have e6:(H1.drop H.length)[i-H.length]? = some b:=by rw[a4O,<-hi];congr 1;rw[hr.len]at EW;omega
       have e7:=N8 hro e6;cases b<;>first|exact g2.elim|cases e7
     .exact hn e5
   .obtain⟨ma,u1,u2⟩:=a1;obtain⟨mc,v1,v2⟩:=a2;by_cases e:i=r<;>by_cases e':j=r
    .rw[e,e']
    .subst e;rw[a2M Jt]at u1;cases u1;cases u2;exact absurd (bf (at1 e' v1) v2) p0
    .subst e';rw[a2M Jt]at v1;cases v1;cases v2;exact absurd (bf (at1 e u1) u2) p0
    .exact jc c2.nodup (at1 e u1) (at1 e' v1) u2 v2
   .rcases CU b hb with e|e
    .subst e;exact hr.Df _ Gf
    .exact(c2.Df b e).1
   .rcases CU b hb with e|e
    .subst e;exact .inl Gf
    .rcases c4.new b e with g|g
     .exact .inl (nO b g).1
     .exact .inr g
   .by_cases e:i=r
    .subst e;rw[q1]at hi;cases hi;exact .inl (by rw[a2M Jt])
    .rw[a1B (fun h=>e h.symm)];exact c5 i mb (by rw[a1B (fun h=>e h.symm)];exact hi)
   .obtain⟨k,k1,k2⟩:=c6 b hb;obtain⟨k3,k4⟩:=old k2;exact⟨k,⟨k1,k3⟩,k4⟩
 |_=>exact q2.elim
theorem aal{call:aZ}{fv v:PV X.Γ}{xs:List (PV X.Γ)}{H H1:List (PB X.Γ)}{W:Nat->Prop}{r:Nat}{es es1:List (PV X.Γ×PV X.Γ)}(h0:H[r]? = some (.map es))(h9:H1[r]? = some (.map es1))(hro:Jk (H1.drop H.length)=true)
  (hs:Xo X P call fv xs (H.set r (.iG es)) v (H1.set r (.iG es1)) W):Xo X P call fv xs H v H1 fun k=>W k∧k≠r:=fun A m h tf qP hr hf hx=>by
 obtain⟨mb0,q1,q2⟩:=hr.at_ r _ h0;have hrl:r<H.length:=(a0h.1 h0).1;have hrm:r<m.length:=by rw[hr.len];exact hrl
 cases mb0 with
 |gq c=>
  obtain⟨cs',q3,q4⟩:=q2;have Gf:c∈bg m:=bf q1 rfl;have hch:=(a0h.1 q3).1;have hm:SwM m (m.set r (.jA c)):=fun i=>by
   by_cases e:i=r
   .subst e;exact .inr (.inl ⟨c,q1,by rw[a2M hrm]⟩)
   .exact .inl (by rw[a1B (fun h=>e h.symm)])
  have old:∀{i b:Nat},G9 (m.set r (.jA c)) i b->i≠r∧G9 m i b:=fun{i b} ho=>by
   obtain⟨mb,a1,a2⟩:=ho;by_cases e:i=r
   .subst e;rw[a2M hrm]at a1;cases a1;cases a2
   .rw[a1B (fun h=>e h.symm)]at a1;exact⟨e,mb,a1,a2⟩
  have nO:∀b,b∈bg (m.set r (.jA c))->b∈bg m∧b≠c:=fun b hb=>by obtain⟨i,hi⟩:=kL hb;obtain⟨e,mb,a1,a2⟩:=old hi;refine⟨bf a1 a2,fun e2=>?_⟩;subst e2;exact e (jc hr.nodup a1 q1 a2 rfl)
  have hA:∀b,AA A m b->AA (fun b=>A b∧b≠c) (m.set r (.jA c)) b:=fun b hb=>⟨⟨hb.1,fun e=>hb.2 (e▸Gf)⟩,fun h=>hb.2 (nO b h).1⟩;have wK:HR X P (fun b=>A b∧b≠c) (m.set r (.jA c)) (H.set r (.iG es)) h:=by
   refine⟨by simp[hr.len],fun i b hi=>?_,jI fun i j d a1 a2=>?_,fun b hb=>⟨hr.up b hb,by omega⟩,fun b hb=>⟨hr.Df b (nO b hb).1,(nO b hb).2⟩⟩
   .by_cases e:i=r
    .subst e;rw[a2M hrl]at hi;cases hi;exact⟨.jA c,by rw[a2M hrm],fun h=>(nO c h).2 rfl,cs',q3,q4⟩
    .rw[a1B (fun h=>e h.symm)]at hi;obtain⟨mb,g1,g2⟩:=hr.at_ i b hi;exact⟨mb,by rw[a1B (fun h=>e h.symm)];exact g1,g2.sw hm hA fun d _ hn h=>hn (nO d h).1⟩
   .obtain⟨_,ma,u1,u2⟩:=old a1;obtain⟨_,mc,v1,v2⟩:=old a2;exact jc hr.nodup u1 v1 u2 v2
  obtain⟨w,h1,ws,m1,c1,c2,c3,c4,c5,c6⟩:=hs (fun b=>A b∧b≠c) (m.set r (.jA c)) h tf qP wK (hf.sw hm hA) (hx.sw hm hA)
  .have af5:r<H1.length:=(a0h.1 h9).1;obtain⟨mb1,e1,e2⟩:=c2.at_ r (.iG es1) (by rw[a2M af5]);have e3:=c5 r (.jA c) (by rw[a2M hrm]);have e4:mb1=.jA c:=by
    rcases e3 with e3|e3<;>rw[e1]at e3<;>cases e3
    .rfl
    .exact e2.elim
   subst e4;obtain⟨p0,Xg,p1,p2⟩:=e2;have Jt:r<m1.length:=(a0h.1 e1).1;have hm1:SwM m1 (m1.set r (.gq c)):=fun i=>by
    by_cases e:i=r
    .subst e;exact .inr (.inr ⟨c,e1,by rw[a2M Jt]⟩)
    .exact .inl (by rw[a1B (fun h=>e h.symm)])
   have at1:∀{i:Nat} {mb:MB},i≠r->(m1.set r (.gq c))[i]? = some mb->m1[i]? = some mb:=fun{i mb} e h=>by rw[a1B (fun h=>e h.symm)]at h;exact h
   have CU:∀b,b∈bg (m1.set r (.gq c))->b=c∨b∈bg m1:=fun b hb=>by
    obtain⟨i,mb,a1,a2⟩:=kL hb;by_cases e:i=r
    .subst e;rw[a2M Jt]at a1;cases a1;cases a2;exact .inl rfl
    .exact .inr (bf (at1 e a1) a2)
   have hA1:∀b,AA (fun b=>A b∧b≠c) m1 b->AA A (m1.set r (.gq c)) b:=fun b hb=>⟨hb.1.1,fun h=>by
    rcases CU b h with e|e
    .exact hb.1.2 e
    .exact hb.2 e⟩
   refine⟨w,h1,ws,m1.set r (.gq c),c1,⟨by rw[a4Y,c2.len,a4Y],fun i b hi=>?_,jI fun i j d a1 a2=>?_,fun b hb=>(c2.up b hb).1,fun b hb=>?_⟩,c3.sw hm1 hA1,⟨c4.len,fun b hb hn=>c4.same b hb fun h=>hn (nO b h).1,fun b hb=>?_,c4.grow⟩,fun i mb hi=>?_,fun b hb=>?_⟩
   .by_cases e:i=r
    .subst e;rw[h9]at hi;cases hi;exact⟨.gq c,by rw[a2M Jt],Xg,p1,p2⟩
    .obtain⟨mb,g1,g2⟩:=c2.at_ i b (by rw[a1B (fun h=>e h.symm)];exact hi);refine⟨mb,by rw[a1B (fun h=>e h.symm)];exact g1,g2.sw hm1 hA1 fun d hd hn ZW=>?_⟩;subst hd;rcases CU d ZW with e5|e5
     .subst e5;rcases a4N i m.length with aT|EW
      .have KI:(m.set r (.jA d))[i]? = m[i]?:=(by rw[a1B (fun h=>e h.symm)]);have hmi:m[i]? = some (.jA d):=by
        rcases c5 i m[i] (by rw[KI];exact a0q aT)with e6|e6<;>rw[g1]at e6<;>simp only[a0d]at e6
        .rw[a0q aT,<-e6]
        .cases e6
       have hlH:i<H.length:=by rw[<-hr.len];exact aT
       obtain⟨mb9,e7,e8⟩:=hr.at_ i _ (a0q hlH);rw[hmi]at e7;cases e7;generalize H[i]=b9 at e8;cases b9<;>first|exact e8.elim|exact e8.1 Gf
      .have e6:(H1.drop H.length)[i-H.length]? = some b:=by rw[a4O,<-hi];congr 1;rw[hr.len]at EW;omega
       have e7:=N8 hro e6;cases b<;>first|exact g2.elim|cases e7
     .exact hn e5
   .obtain⟨ma,u1,u2⟩:=a1;obtain⟨mc,v1,v2⟩:=a2;by_cases e:i=r<;>by_cases e':j=r
    .rw[e,e']
    .subst e;rw[a2M Jt]at u1;cases u1;cases u2;exact absurd (bf (at1 e' v1) v2) p0
    .subst e';rw[a2M Jt]at v1;cases v1;cases v2;exact absurd (bf (at1 e u1) u2) p0
    .exact jc c2.nodup (at1 e u1) (at1 e' v1) u2 v2
   .rcases CU b hb with e|e
    .subst e;exact hr.Df _ Gf
    .exact(c2.Df b e).1
   .rcases CU b hb with e|e
    .subst e;exact .inl Gf
    .rcases c4.new b e with g|g
     .exact .inl (nO b g).1
     .exact .inr g
   .by_cases e:i=r
    .subst e;rw[q1]at hi;cases hi;exact .inl (by rw[a2M Jt])
    .rw[a1B (fun h=>e h.symm)];exact c5 i mb (by rw[a1B (fun h=>e h.symm)];exact hi)
   .obtain⟨k,k1,k2⟩:=c6 b hb;obtain⟨k3,k4⟩:=old k2;exact⟨k,⟨k1,k3⟩,k4⟩
 |_=>exact q2.elim
theorem ZX{call:aZ}{fv v:PV X.Γ}{xs:List (PV X.Γ)}{W:Nat->Prop}:∀{rs:List Nat} {H H1 Hr QD:List (PB X.Γ)},roB rs H H1=some (Hr,QD)->Jk (H1.drop H.length)=true->Xo X P call fv xs Hr v QD W->Xo X P call fv xs H v H1 fun k=>W k∧k∉rs
 | [],H,H1,Hr,QD,h1,hn,hs=>by simp only[roB,a0d,a0J]at h1;obtain⟨rfl,rfl⟩:=h1;intro A m h tf qP a b c;obtain⟨w,h1,ws,m1,c1,c2,c3,c4,c5,c6⟩:=hs A m h tf qP a b c;exact⟨w,h1,ws,m1,c1,c2,c3,c4,c5,fun b hb=>by obtain⟨k,k1,k2⟩:=c6 b hb;exact⟨k,⟨k1,by simp⟩,k2⟩⟩
 |r::rs,H,H1,Hr,QD,h1,hn,hs=>by
  simp only[roB]at h1;split at h1
  .rename_i cs SQ e1 e2;have aT:r<H.length:=(a0h.1 e1).1;have:=af4 e1 e2 hn (ZX h1 (by rw[a4Y,List.drop_set_of_lt aT];exact hn) hs);intro A m h tf qP a b c;obtain⟨w,h1,ws,m1,c1,c2,c3,c4,c5,c6⟩:=this A m h tf qP a b c;exact⟨w,h1,ws,m1,c1,c2,c3,c4,c5,fun b hb=>by obtain⟨k,⟨⟨k1,k3⟩,k4⟩,k2⟩:=c6 b hb;exact⟨k,⟨k1,by simp[k3,k4]⟩,k2⟩⟩
  .rename_i cs SQ e1 e2;have aT:r<H.length:=(a0h.1 e1).1;have:=aal e1 e2 hn (ZX h1 (by rw[a4Y,List.drop_set_of_lt aT];exact hn) hs);intro A m h tf qP a b c;obtain⟨w,h1,ws,m1,c1,c2,c3,c4,c5,c6⟩:=this A m h tf qP a b c;exact⟨w,h1,ws,m1,c1,c2,c3,c4,c5,fun b hb=>by obtain⟨k,⟨⟨k1,k3⟩,k4⟩,k2⟩:=c6 b hb;exact⟨k,⟨k1,by simp[k3,k4]⟩,k2⟩⟩
  cases h1
theorem Xp{α:Type}{rs:List Nat}:∀{ks:List α} {i p:Nat} {k:α},ks[p]? = some k->i+p∉rs->k∈a3p rs i ks
 | [],_,_,_,h,_=>by simp at h
 |a::ks,i,0,k,h,hn=>by simp only[a2Z,a0d]at h;subst h;simp only[a3p];rw[a0E (by simpa using hn)];exact a3x
 |a::ks,i,p+1,k,h,hn=>by
  have:=Xp (ks:=ks) (i:=i+1) (p:=p) (k:=k) (by simpa using h) (by rwa [Nat.add_right_comm,aai] );simp only[a3p];split
  .exact this
  exact a3y _ this
theorem Ju(hX:bT X P){call:aZ}{ks:List Nat}{H' Hp H H1 QD:List (PB X.Γ)}{fv fv' v v':PV X.Γ}{xs xs':List (PV X.Γ)}{W:Nat->Prop}(hs:Xo X P call fv xs H v H1 W)
  (jH:ks.Nodup) (hp:D8 H' ks=some Hp) (hH:nX (wM ks) Hp=some H) (hf:fE (wM ks) fv'=some fv) (hx:fE.pz (wM ks) xs'=some xs)
  (hv:fE (bk ks H'.length) v=some v') (hH1:nX (bk ks H'.length) H1=some QD) (hro:Jk (H1.drop ks.length)=true) :
  ∀(A:Nat->Prop) (m':List MB) (h:List HB) (tf:TV) (qP:List TV),HR X P A m' H' h->VR X P (AA A m') m' h fv' tf->bY X P (AA A m') m' h xs' qP ->
  ∃w h1 ws m1,call tf qP h=some (w,h1,ws)∧HR X P A m1 (putAt ks QD H'++QD.drop ks.length) h1∧VR X P (AA A m1) m1 h1 v' w∧Fr m' h m1 h1∧Up m' m1∧∀b∈ws,∃p k,ks[p]? = some k∧W p∧G9 m' k b:=by
 intro A m' h tf qP hr hf' FI;have hpg:=Eo hp;have hHg:=tJ hH;have hkH:∀{p k:Nat},ks[p]? = some k->k<m'.length:=fun{p k} hk=>by obtain⟨b,q1,_⟩:=hpg.2 hk;rw[hr.len];exact(a0h.1 q1).1
 have hkm:∀k∈ks,k<m'.length:=fun k hk=>by obtain⟨i,hi⟩:=a8X hk;exact hkH hi
 let m:List MB:=ks.map fun k=>m'.getD k .gone
 have hm:∀{p k:Nat},ks[p]? = some k->m[p]? = m'[k]?:=fun{p k} hk=>by show(ks.map _)[p]? = _;rw[a4T,hk];have:=hkH hk;simp[a3s,this]
 have a6H:m.length=ks.length:=a4S ..;have Tc:∀{p:Nat} {mb:MB},m[p]? = some mb->∃k,ks[p]? = some k∧m'[k]? = some mb:=fun{p mb} hpm=>by
  have:p<ks.length:=by rw[<-a6H];exact(a0h.1 hpm).1
  have hk:=a0q this;exact⟨_,hk,by rw[<-hm hk];exact hpm⟩
 have nO:∀b,b∈bg m->b∈bg m':=fun b hb=>by obtain⟨j,mb,q1,q2⟩:=kL hb;obtain⟨k,_,q3⟩:=Tc q1;exact bf q3 q2
 have af6:∀{i:Nat} {mb:MB} {b:Nat},i∉ks->m'[i]? = some mb->mb.own=some b->b∉bg m:=fun{i mb b} hi h1 h2 hb=>by obtain⟨j,mc,q1,q2⟩:=kL hb;obtain⟨k,q3,q4⟩:=Tc q1;have:=jc hr.nodup h1 q4 h2 q2;subst this;exact hi (a4X q3)
 let A2:Nat->Prop:=fun b=>A b∧(b∈bg m'->b∈bg m)
 have hA:∀b,AA A m' b->AA A2 m b:=fun b hb=>⟨⟨hb.1,fun h9=>absurd h9 hb.2⟩,fun h9=>hb.2 (nO b h9)⟩;have hg:∀i j,wM ks i=some j->m[j]? = m'[i]?:=fun i j Ai=>hm (OX Ai);have wK:HR X P A2 m H h:=by
  refine⟨by rw[a6H,hHg.1,hpg.1],fun j b hj=>?_,jI fun i j c q1 q2=>?_,fun b hb=>⟨hr.up b hb,fun h9=>absurd (hr.inb h9) (by omega)⟩,fun b hb=>⟨hr.Df b (nO b hb),fun _=>hb⟩⟩
  .obtain⟨b0,q1,q2⟩:=hHg.2 hj;have sF:j<ks.length:=by rw[<-hpg.1];exact(a0h.1 q1).1
   have hk:=a0q sF;obtain⟨b9,q5,q6⟩:=hpg.2 hk;rw[q1]at q6;cases q6;obtain⟨mb,q3,q4⟩:=hr.at_ _ _ q5;exact⟨mb,by rw[hm hk];exact q3,En hX hg hA (fun c _ h9 h8=>h9 (nO c h8)) q4 q2⟩
  .obtain⟨ma,a1,a2⟩:=q1;obtain⟨mc,c1,c2⟩:=q2;obtain⟨k,a3,a4⟩:=Tc a1;obtain⟨l,c3,c4⟩:=Tc c1;have e:=jc hr.nodup a4 c4 a2 c2;subst e;exact(List.getElem?_inj (a0h.1 a3).1 jH).1 (by rw[a3,c3])
 obtain⟨w,h1,ws,m1,c1,c2,c3,c4,c5,c6⟩:=hs A2 m h tf qP wK (Em hg hA hX hf' hf) (zG hX hg hA FI hx);have a6I:ks.length<=m1.length:=by
  rcases abu ks.length with e|e
  .omega
  .have aT:ks.length-1<m.length:=(by omega);have:=c5 (ks.length-1) m[ks.length-1] (a0q aT);rcases this with g|g<;>(have:=(a0h.1 g).1;omega)
 let m1':List MB:=putAt ks m1 m'++m1.drop ks.length
 have hn:m'.length=H'.length:=hr.len;have aam:(putAt ks m1 m').length=m'.length:=tK;have a1C:∀{p k:Nat},ks[p]? = some k->m1'[k]? = m1[p]?:=fun{p k} hk=>by show(putAt ks m1 m'++_)[k]? = _;rw[a0C (by rw[aam];exact hkH hk),P5 jH hkm a6I hk]
 have ZY:∀{i:Nat},i<m'.length->i∉ks->m1'[i]? = m'[i]?:=fun{i} hi hk=>by show(putAt ks m1 m'++_)[i]? = _;rw[a0C (by rw[aam];exact hi),Js hk]
 have a00:∀{j:Nat},ks.length<=j->m1'[m'.length+(j-ks.length)]? = m1[j]?:=fun{j} hj=>by show(putAt ks m1 m'++_)[_]? = _;rw[a0T (by rw[aam];omega),aam,Nat.add_sub_cancel_left,a4O];congr 1;omega
 have hgb:∀j i,bk ks H'.length j=some i->m1'[i]? = m1[j]?:=fun j i Ai=>by
  unfold bk at Ai;split at Ai
  .rename_i k hk;cases Ai;exact a1C hk
  .rename_i hk;cases Ai;rw[<-hn];exact a00 (by rw[List.getElem?_eq_none_iff]at hk;exact hk)
 have vG:∀{i:Nat} {mb:MB},m1'[i]? = some mb->(∃p,ks[p]? = some i∧m1[p]? = some mb)∨(i<m'.length∧i∉ks∧m'[i]? = some mb)∨(∃j,ks.length<=j∧i=m'.length+(j-ks.length)∧m1[j]? = some mb):=fun{i mb} hi=>by
  rcases a4N i m'.length with aT|EW
  .by_cases hk:i∈ks
   .obtain⟨p,hp⟩:=a8X hk;exact .inl ⟨p,hp,by rw[<-a1C hp];exact hi⟩
   .exact .inr (.inl ⟨aT,hk,by rw[<-ZY aT hk];exact hi⟩)
  .refine .inr (.inr ⟨i-m'.length+ks.length,by omega,by omega,?_⟩);rw[<-a00 (by omega)];rw[<-hi];congr 1;omega
 have zk:∀{b:Nat},b∈bg m1'->b∈bg m1∨∃i mb,i∉ks∧m'[i]? = some mb∧mb.own=some b:=fun{b} hb=>by
  obtain⟨i,mb,q1,q2⟩:=kL hb;rcases vG q1 with⟨p,_,q3⟩|⟨_,q3,q4⟩|⟨j,_,_,q3⟩
  .exact .inl (bf q3 q2)
  .exact .inr ⟨i,mb,q3,q4,q2⟩
  .exact .inl (bf q3 q2)
 have aan:∀{i b:Nat} {mb:MB},i∉ks->m'[i]? = some mb->mb.own=some b->b∉bg m1:=fun{i b mb} h1 h2 h3 h4=>by
  rcases c4.new b h4 with g|g
  .exact af6 h1 h2 h3 g
  .exact absurd (hr.inb (bf h2 h3)) (by omega)
 have hA3:∀b,AA A2 m1 b->AA A m1' b:=fun b hb=>⟨hb.1.1,fun h9=>by
  rcases zk h9 with g|⟨i,mb,g1,g2,g3⟩
  .exact hb.2 g
  .exact af6 g1 g2 g3 (hb.1.2 (bf g2 g3))⟩
 have hF:Fr m' h m1' h1:=⟨c4.len,fun b hb hnb=>c4.same b hb fun h9=>hnb (nO b h9),fun b hb=>by
  rcases zk hb with g|⟨i,mb,g1,g2,g3⟩
  .rcases c4.new b g with g|g
   .exact .inl (nO b g)
   .exact .inr g
  .exact .inl (bf g2 g3),c4.grow⟩
 have hU:Up m' m1':=fun i mb hi=>by
  have aT:=(a0h.1 hi).1;by_cases hk:i∈ks
  .obtain⟨p,hp⟩:=a8X hk;rw[a1C hp];exact c5 p mb (by rw[hm hp];exact hi)
  .exact .inl (by rw[ZY aT hk];exact hi)
 have af7:=tJ hH1;have aiZ:m1.length=H1.length:=c2.len;refine⟨w,h1,ws,m1',c1,⟨?_,fun i b hi=>?_,?_,fun b hb=>(c2.up b hb).1,fun b hb=>?_⟩,Em hgb hA3 hX c3 hv,hF,hU,fun b hb=>?_⟩
 .show(putAt ks m1 m'++_).length=_;rw[a1U,a1U,tK,tK,a4l,a4l,af7.1,aiZ,hn]
 .have aj0:ks.length<=QD.length:=by rw[af7.1,<-aiZ];exact a6I
  have aoM:∀k∈ks,k<H'.length:=fun k hk=>by rw[<-hn];exact hkm k hk
  have back:∀{j:Nat} {b:PB X.Γ},QD[j]? = some b->∃mb,m1[j]? = some mb∧BR X P (AA A m1') m1' h1 b mb:=fun{j b} hj=>by
   obtain⟨b0,q1,q2⟩:=af7.2 hj;obtain⟨mb,q3,q4⟩:=c2.at_ j b0 q1;refine⟨mb,q3,En hX hgb hA3 (fun c e h9 h8=>?_) q4 q2⟩;rcases zk h8 with g|⟨i,MS,g1,g2,g3⟩
   .exact h9 g
   .subst e;rcases a4N j ks.length with hj1|hj1
    .have hk:=a0q hj1;have sF:j<m.length:=by rw[a6H];exact hj1
     have hmj:m[j]? = some (.jA c):=by
      rcases c5 j _ (a0q sF)with e|e<;>rw[q3]at e<;>simp only[a0d]at e
      .rw[a0q sF,<-e]
      .cases e
     obtain⟨k,e1,e2⟩:=Tc hmj;obtain⟨b9,e3,_⟩:=hpg.2 e1;obtain⟨mb9,e4,e5⟩:=hr.at_ _ _ e3;rw[e2]at e4;cases e4;cases b9<;>first|exact e5.elim|exact e5.1 (bf g2 g3)
    .have e1:(H1.drop ks.length)[j-ks.length]? = some b0:=by rw[a4O,<-q1];congr 1;omega
     have e2:=N8 hro e1;cases b0<;>first|exact q4.elim|cases e2
  rcases a4N i H'.length with aT|EW
  .rw[a0C (by rw[tK];exact aT)]at hi;by_cases hk:i∈ks
   .obtain⟨p,hpk⟩:=a8X hk;rw[P5 jH aoM aj0 hpk]at hi;obtain⟨mb,q1,q2⟩:=back hi;exact⟨mb,by rw[a1C hpk];exact q1,q2⟩
   .rw[Js hk]at hi;obtain⟨mb,q1,q2⟩:=hr.at_ i b hi;refine⟨mb,by rw[ZY (by rw[hn];exact aT) hk];exact q1,q2.step hF hU fun c hc=>?_⟩;exact c4.same c (hr.inb (bf q1 hc)) (af6 hk q1 hc)
  .rw[a0T (by rw[tK];exact EW),tK,a4O]at hi;obtain⟨mb,q1,q2⟩:=back hi;refine⟨mb,?_,q2⟩;have:=a00 (j:=ks.length+(i-H'.length)) (by omega);rw[q1]at this;rw[<-this];congr 1;omega
 .refine jI fun i j c q1 q2=>?_;obtain⟨ma,a1,a2⟩:=q1;obtain⟨mc,b1,b2⟩:=q2;rcases vG a1 with⟨p,a3,a4⟩|⟨a3,a4,a5⟩|⟨p,a3,a4,a5⟩<;>rcases vG b1 with⟨q,b3,b4⟩|⟨b3,b4,b5⟩|⟨q,b3,b4,b5⟩
  .have:=jc c2.nodup a4 b4 a2 b2;subst this;rw[a3]at b3;cases b3;rfl
  .exact absurd (bf a4 a2) (aan b4 b5 b2)
  .have:=jc c2.nodup a4 b5 a2 b2;subst this;have:=(a0h.1 a3).1;omega
  .exact absurd (bf b4 b2) (aan a4 a5 a2)
  .exact jc hr.nodup a5 b5 a2 b2
  .exact absurd (bf b5 b2) (aan a4 a5 a2)
  .have:=jc c2.nodup a5 b4 a2 b2;subst this;have:=(a0h.1 b3).1;omega
  .exact absurd (bf a5 a2) (aan b4 b5 b2)
  .have:=jc c2.nodup a5 b5 a2 b2;subst this;omega
 .rcases zk hb with g|⟨i,mb,g1,g2,g3⟩
  .exact(c2.Df b g).1
  .exact hr.Df b (bf g2 g3)
 .obtain⟨j,hw,mb,q1,q2⟩:=c6 b hb;obtain⟨k,q3,q4⟩:=Tc q1;exact⟨j,k,q3,hw,mb,q4,q2⟩
end
end Pv
