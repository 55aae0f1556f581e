/- Part 3 of a proof: ApplyParts -/
import Derived.Test.YtmobpoiejckagaaGreatP01
set_option linter.constructorNameAsVariable false
set_option linter.unusedVariables false
set_option linter.unusedSimpArgs false
set_option linter.unusedSectionVars false
noncomputable section
namespace Pv
open Go Tw
section
variable {X:kX} {P:LI1} {A:Nat->Prop} {m m':List MB} {h h':List HB} {H H':List (PB X.Γ)}
theorem HR.next(hr:HR X P A m H h)(hF:Fr m h m' h')(hU:Up m m')(hl:m'.length=H'.length)(hn:(bn m').Nodup)
  (IU:∀(i:Nat) b,H'[i]? = some b->(∃mb,H[i]? = some b∧m[i]? = some mb∧m'[i]? = some mb∧∀c,mb.own=some c->h'[c]? = h[c]?)∨∃mb,m'[i]? = some mb∧BR X P (AA A m') m' h' b mb):HR X P A m' H' h':=by
 refine⟨hl,fun i b hb=>?_,hn,fun b hb=>hr.up b (by have:=hF.len;omega),fun b hb=>?_⟩
 .rcases IU i b hb with⟨mb,h1,h2,h3,h4⟩|h1
  .obtain⟨MS,g1,g2⟩:=hr.at_ i b h1;rw[h2]at g1;cases g1;exact⟨mb,h3,g2.step hF hU h4⟩
  .exact h1
 .rcases hF.new b hb with h1|h1
  .exact hr.Dc b h1
  .exact hr.up b h1
theorem BR.has{B:Nat->Prop}{b:PB X.Γ}{mb:MB}{c:Nat}(hb:BR X P B m h b mb)(ho:mb.own=some c):c<h.length:=by
 have key:∀{y},h[c]? = some y->c<h.length:=fun e=>(a08.1 e).1;cases b with
 |cells cs=>
  cases mb with
  |gG b=>cases ho;obtain⟨_,h1,_⟩:=hb;exact key h1
  |_=>exact hb.elim
 |aF cs=>
  cases mb with
  |jw b=>cases ho
  |_=>exact hb.elim
 |list k ex t l=>
  cases mb with
  |dJ x=>
   cases(hb:LR X P B m h k ex t l x)with
   |nil=>cases ho
   |emp=>simp[MB.own]at ho
   |some h1 _ _ h4=>
    simp only[MB.own]at ho;split at ho
    .cases ho
    cases ho;exact key h4
  |_=>exact hb.elim
 |map es=>
  cases mb with
  |gG b=>cases ho;obtain⟨_,h1,_⟩:=hb;exact key h1
  |_=>exact hb.elim
 |ni cs=>
  cases mb with
  |gG b=>cases ho;obtain⟨_,h1,_⟩:=hb;exact key h1
  |_=>exact hb.elim
 |iH es=>
  cases mb with
  |jw b=>cases ho
  |_=>exact hb.elim
 |dn r n seen=>
  cases mb with
  |gG b=>cases ho;obtain⟨_,h1,_⟩:=hb;exact key h1
  |_=>exact hb.elim
 |mark=>
  cases mb with
  |gG b=>cases ho;exact key hb
  |_=>exact hb.elim
 |loop=>
  cases mb with
  |gG b=>cases ho;obtain⟨_,h1,_⟩:=hb;exact key h1
  |_=>exact hb.elim
 |gone=>
  cases mb with
  |gone=>cases ho
  |_=>exact hb.elim
theorem HR.inb(hr:HR X P A m H h){c:Nat}(hc:c∈bn m):c<h.length:=by
 obtain⟨mb,hm,ho⟩:=a6x.1 hc;obtain⟨i,hi⟩:=a8X hm;have:i<H.length:=by rw[<-hr.len];exact(a08.1 hi).1
 obtain⟨MS,h1,h2⟩:=hr.at_ i H[i] (a0d this);rw[hi]at h1;cases h1;exact h2.has ho
theorem jh(a b:List MB):bn (a++b)=bn a++bn b:=List.filterMap_append ..
theorem kJ(mb:MB):bn [mb]=mb.own.toList:=by unfold bn;simp[a9y];cases mb.own<;>rfl
theorem wZ(ms:List MB):Up m (m++ms):=fun i mb hi=>.inl (by rw[a0m (a08.1 hi).1];exact hi)
theorem HR.push(hr:HR X P A m H h){pb:PB X.Γ}{hb:HB}{mb:MB}(ho:mb.own=some h.length∨mb.own=none)(qM:BR X P (AA A (m++[mb])) (m++[mb]) (h++[hb]) pb mb) :
  HR X P A (m++[mb]) (H++[pb]) (h++[hb])∧Fr m h (m++[mb]) (h++[hb])∧Up m (m++[mb]):=by
 have hF:Fr m h (m++[mb]) (h++[hb]):=by
  refine⟨by simp,fun b hb _=>by rw[a0m hb],fun b hb=>?_,fun b cs hc=>⟨cs,?_,a0K _⟩⟩
  .rw[jh,a3s,kJ]at hb;rcases hb with hb|hb
   .exact .inl hb
   .rcases ho with ho|ho<;>rw[ho]at hb<;>simp at hb
    exact .inr (by omega)
  .rw[fZ (a0m (fU hc)),hc]
 refine⟨hr.next hF (wZ _) (by simp[hr.len]) ?_ fun i b hi=>?_,hF,wZ _⟩
 .rw[jh,kJ];refine a9n.2 ⟨hr.nodup,?_,?_⟩
  .cases mb.own<;>simp
  .intro a ha b hb e;subst e;have:=hr.inb ha;rcases ho with ho|ho<;>rw[ho]at hb<;>simp at hb
   omega
 .rcases a4N i H.length with aT|EW
  .left;rw[a0m aT]at hi;obtain⟨MS,h1,h2⟩:=hr.at_ i b hi;refine⟨MS,hi,h1,by rw[a0m (by rw[hr.len];exact aT)];exact h1,fun c hc=>?_⟩;rw[a0m (h2.has hc)]
  .right;rw[a0L EW]at hi;have:i-H.length=0:=by
    rcases abw (i-H.length)with h|h
    .exact h
    .rw[a4J (by simp;omega)]at hi;cases hi
   rw[this]at hi;simp only[a2S,a07]at hi;subst hi;exact⟨mb,by rw[a0L (by rw[hr.len];exact EW),hr.len,this];rfl,qM⟩
theorem HR.acA(hr:HR X P A m H h){pb:PB X.Γ}{mb:MB}(ho:mb.own=none)(qM:BR X P (AA A (m++[mb])) (m++[mb]) h pb mb) :
  HR X P A (m++[mb]) (H++[pb]) h∧Fr m h (m++[mb]) h∧Up m (m++[mb]):=by
 have zn:bn (m++[mb])=bn m:=by rw[jh,kJ,ho];simp
 have hF:Fr m h (m++[mb]) h:=⟨a0K _,fun _ _ _=>rfl,fun b hb=>.inl (zn▸hb),fun b cs hc=>⟨cs,hc,a0K _⟩⟩;refine⟨hr.next hF (wZ _) (by simp[hr.len]) (by rw[zn];exact hr.nodup) fun i b hi=>?_,hF,wZ _⟩;rcases a4N i H.length with aT|EW
 .left;rw[a0m aT]at hi;obtain⟨MS,h1,h2⟩:=hr.at_ i b hi;exact⟨MS,hi,h1,by rw[a0m (by rw[hr.len];exact aT)];exact h1,fun c hc=>rfl⟩
 .right;rw[a0L EW]at hi;have:i-H.length=0:=by
   rcases abw (i-H.length)with h|h
   .exact h
   .rw[a4J (by simp;omega)]at hi;cases hi
  rw[this]at hi;simp only[a2S,a07]at hi;subst hi;exact⟨mb,by rw[a0L (by rw[hr.len];exact EW),hr.len,this];rfl,qM⟩
theorem HR.set(hr:HR X P A m H h){i c:Nat}{mb:MB}{pb:PB X.Γ}{hb:HB}(hi:m[i]? = some mb)(ho:mb.own=some c)(hg:∀cs,aW h c=some cs->∃cs',aW (h.set c hb) c=some cs'∧cs.length<=cs'.length)
  (qM:Fr m h m (h.set c hb)->BR X P (AA A m) m (h.set c hb) pb mb):HR X P A m (H.set i pb) (h.set c hb)∧Fr m h m (h.set c hb):=by
 have hF:Fr m h m (h.set c hb):=by
  refine⟨by simp,fun b hb hn=>?_,fun b hb=>.inl hb,fun b cs hc=>?_⟩
  .rw[a0R];intro e;subst e;exact hn (bf hi ho)
  .by_cases e:c=b
   .subst e;exact hg cs hc
   .exact⟨cs,by rw[fZ (a0R e),hc],a0K _⟩
 refine⟨hr.next hF .refl (by simp[hr.len]) hr.nodup fun j b hj=>?_,hF⟩;by_cases e:i=j
 .subst e;rw[a4P ]at hj;right;have:H[i]?.isSome:=by
   have:i<H.length:=by rw[<-hr.len];exact(a08.1 hi).1
   simp[this]
  obtain⟨y,hy⟩:=a5o.1 this;rw[hy]at hj;cases hj;exact⟨mb,hi,qM hF⟩
 .rw[a0R e]at hj;left;obtain⟨MS,h1,h2⟩:=hr.at_ j b hj;refine⟨MS,hj,h1,h1,fun d hd=>a0R fun e2=>?_⟩;subst e2;exact e (je hr.nodup hi h1 ho hd)
theorem Fh{i:Nat}:∀{m:List MB} {b:Nat},b∈bn (m.set i .gone)->b∈bn m:=by
 intro m b hb;obtain⟨mb,hm,ho⟩:=a6x.1 hb;obtain⟨j,hj⟩:=a8X hm;by_cases e:i=j
 .subst e;rw[a4P]at hj;cases hx:m[i]? with
  |none=>rw[hx]at hj;cases hj
  |some y=>rw[hx]at hj;cases hj;cases ho
 rw[a0R e]at hj;exact bf hj ho
theorem OE{i:Nat}:∀{m:List MB},(bn m).Nodup->(bn (m.set i .gone)).Nodup:=by
 unfold bn;intro m
 induction m generalizing i with
 |nil=>intro h;simp
 |cons x r ih=>
  intro hn;cases i with
  |zero=>
   simp only[ahF,a9y,MB.own];simp only[a9y]at hn;split at hn
   .exact hn
   exact(a4U.1 hn).2
  |succ i=>
   simp only[List.set_cons_succ,a9y];simp only[a9y]at hn;split at hn
   .exact ih hn
   refine a4U.2 ⟨fun hb=>(a4U.1 hn).1 ?_,ih (a4U.1 hn).2⟩;exact Fh (m:=r) hb
theorem a1q{i:Nat}:Fr m h (m.set i .gone) h:=⟨a0K _,fun _ _ _=>rfl,fun _ hb=>.inl (Fh hb),fun _ cs hc=>⟨cs,hc,a0K _⟩⟩
theorem a1r{i:Nat}:Up m (m.set i .gone):=fun j mb hj=>by
 by_cases e:i=j
 .subst e;right;rw[a4P,hj];rfl
 .left;rw[a0R e];exact hj
theorem HR.gone(hr:HR X P A m H h)(i:Nat):HR X P A (m.set i .gone) (H.set i .gone) h:=by
 refine hr.next a1q a1r (by simp[hr.len]) (OE hr.nodup) fun j b hj=>?_;by_cases e:i=j
 .subst e;right;rw[a4P]at hj;cases hx:H[i]? with
  |none=>rw[hx]at hj;cases hj
  |some y=>
   rw[hx]at hj;cases hj;obtain⟨mb,h1,_⟩:=hr.at_ i y hx;exact⟨.gone,by rw[a4P,h1];rfl,trivial⟩
 rw[a0R e]at hj;left;obtain⟨mb,h1,_⟩:=hr.at_ j b hj;exact⟨mb,hj,h1,by rw[a0R e];exact h1,fun _ _=>rfl⟩
def dh:List Nat->List MB->List MB
 | [],m=>m
 |i::is,m=>dh is (m.set i .gone)
theorem iI:∀(is:List Nat) (m:List MB),Fr m h (dh is m) h∧Up m (dh is m)
 | [],m=>⟨.refl,.refl⟩
 |i::is,m=>⟨a1q.trans (iI is _).1,a1r.trans (iI is _).2⟩
theorem HR.bg:∀(is:List Nat) {m:List MB} {H:List (PB X.Γ)},HR X P A m H h->HR X P A (dh is m) (bg is H) h
 | [],_,_,hr=>hr
 |i::is,_,_,hr=>HR.bg is (hr.gone i)
theorem nV:∀(is:List Nat) (H:List (PB X.Γ)),(Pv.bg is H).length=H.length
 | [],_=>rfl
 |i::is,H=>by rw[Pv.bg,nV is];simp[WX]
theorem mV:∀(is:List Nat) (m:List MB),(dh is m).length=m.length
 | [],_=>rfl
 |i::is,m=>by rw[dh,mV is];simp
theorem Hu:∀(is:List Nat) {m:List MB} {i:Nat} {mb:MB},m[i]? = some mb->(dh is m)[i]? = some (if is.contains i then .gone else mb)
 | [],_,_,_,h=>by simpa[dh]using h
 |j::is,m,i,mb,h=>by
  rw[dh];by_cases e:j=i
  .subst e;have:(m.set j .gone)[j]? = some .gone:=by rw[a4P,h];rfl
   rw[Hu is this];simp
  rw[Hu is (by rw[a0R e];exact h)];have:(i==j)=false:=by simp;omega
  simp only[ahG,this,ahm]
end
section
variable {X:kX} {P:LI1} {A:Nat->Prop} {m m':List MB} {h h':List HB} {H H':List (PB X.Γ)}
theorem bW.nil:bW X P A m h [] []:=⟨rfl,fun i x y hx=>by simp at hx⟩
theorem bW.cons{v:PV X.Γ}{x:TV}{vs:List (PV X.Γ)}{xs:List TV}(h1:VR X P A m h v x)(h2:bW X P A m h vs xs):bW X P A m h (v::vs) (x::xs):=by
 refine⟨by simp[h2.1],fun i a b ha hb=>?_⟩;cases i with
 |zero=>simp only[a2S,a07]at ha hb;subst ha;subst hb;exact h1
 |succ i=>exact h2.2 i a b (by simpa using ha) (by simpa using hb)
theorem bW.inv{v:PV X.Γ}{vs:List (PV X.Γ)}{xs:List TV}(hv:bW X P A m h (v::vs) xs):∃x r,xs=x::r∧VR X P A m h v x∧bW X P A m h vs r:=by
 cases xs with
 |nil=>have:=hv.1;simp at this
 |cons x r=>exact⟨x,r,rfl,hv.2 0 v x rfl rfl,by have:=hv.1;simpa using this,fun i a b ha hb=>hv.2 (i+1) a b (by simpa using ha) (by simpa using hb)⟩
theorem bW.inv0{xs:List TV}(hv:bW X P A m h [] xs):xs=[]:=by have:=hv.1;cases xs<;>simp_all
theorem bW.app{a b:List (PV X.Γ)}{x y:List TV}(h1:bW X P A m h a x)(h2:bW X P A m h b y):bW X P A m h (a++b) (x++y):=by
 refine⟨by simp[h1.1,h2.1],fun i c d hc hd=>?_⟩;rcases a4N i a.length with hl|hl
 .rw[a0m hl]at hc;rw[a0m (by rw[<-h1.1];exact hl)]at hd;exact h1.2 i c d hc hd
 rw[a0L hl]at hc;rw[a0L (by rw[<-h1.1];exact hl),<-h1.1]at hd;exact h2.2 _ c d hc hd
theorem bW.drop{a:List (PV X.Γ)}{x:List TV}(h1:bW X P A m h a x)(n:Nat):bW X P A m h (a.drop n) (x.drop n):=
 ⟨by simp[h1.1],fun i c d hc hd=>h1.2 (n+i) c d (by rw[<-hc,a4O]) (by rw[<-hd,a4O])⟩
theorem bW.take{a:List (PV X.Γ)}{x:List TV}(h1:bW X P A m h a x)(n:Nat):bW X P A m h (a.take n) (x.take n):=by
 refine⟨by simp[h1.1],fun i c d hc hd=>?_⟩;rw[a4Q]at hc hd;split at hc
 .rename_i hl;rw[a0A hl]at hd;exact h1.2 i c d hc hd
 cases hc
theorem bW.get{a:List (PV X.Γ)}{x:List TV}(h1:bW X P A m h a x){i:Nat}{c:PV X.Γ}(hc:a[i]? = some c):∃v,x[i]? = some v∧VR X P A m h c v:=by
 have hl:i<x.length:=by rw[<-h1.1];exact(a08.1 hc).1
 exact⟨x[i],a0d hl,h1.2 i c _ hc (a0d hl)⟩
theorem Sj{v:PV X.Γ}{x tv:TV}(hv:VR X P A m h v x)(hp:qZ v=some tv):x=tv:=by
 cases hv with
 |gone hi _ _=>cases v<;>simp[bC]at hi<;>simp[qZ]at hp
 |_=>first|(simp only[qZ,a07]at hp;exact hp)|(simp[qZ]at hp;done)
theorem G6:∀{vs:List (PV X.Γ)} {xs tvs:List TV},bW X P A m h vs xs->iO vs=some tvs->xs=tvs
 | [],xs,tvs,hv,hp=>by simp only[iO,a07]at hp;rw[hv.inv0,hp]
 |v::vs,xs,tvs,hv,hp=>by
  obtain⟨x,r,rfl,h1,h2⟩:=hv.inv;simp only[iO]at hp;split at hp
  .rename_i a b ha hb;cases hp;rw[Sj h1 ha,G6 h2 hb]
  cases hp
theorem jR{v:PV X.Γ}{x tv:TV}(hv:VR X P A m h v x)(hp:qo v=some tv):x=tv:=by
 cases v with
 |agg cs=>
  simp only[qo,a09]at hp;obtain⟨tvs,h1,rfl⟩:=hp;cases hv with
  |agg h2 h3=>rw[G6 ⟨h2,h3⟩ h1]
  |gone hi _ _=>simp[bC]at hi
 |_=>exact Sj hv hp
theorem a1s:∀{vs:List (PV X.Γ)} {xs tvs:List TV},bW X P A m h vs xs->Uy vs=some tvs->xs=tvs
 | [],xs,tvs,hv,hp=>by simp only[Uy,a07]at hp;rw[hv.inv0,hp]
 |v::vs,xs,tvs,hv,hp=>by
  obtain⟨x,r,rfl,h1,h2⟩:=hv.inv;simp only[Uy]at hp;split at hp
  .rename_i a b ha hb;cases hp;rw[jR h1 ha,a1s h2 hb]
  cases hp
theorem a6t{v:PV X.Γ}{x:TV}(hp:ofC x=some v):VR X P A m h v x:=by cases x<;>simp[ofC]at hp<;>subst hp<;>constructor
theorem UK:∀{xs:List TV} {vs:List (PV X.Γ)},Cm xs=some vs->bW X P A m h vs xs
 | [],vs,hp=>by simp only[Cm,a07]at hp;subst hp;exact .nil
 |x::xs,vs,hp=>by
  simp only[Cm]at hp;split at hp
  .rename_i a b ha hb;cases hp;exact .cons (a6t ha) (UK hb)
  cases hp
theorem xg{v:PV X.Γ}{x:TV}(hp:YL x=some v):VR X P A m h v x:=by
 cases x with
 |agg cs=>
  simp only[YL,a09]at hp;obtain⟨vs,h1,rfl⟩:=hp;have:=UK (X:=X) (P:=P) (A:=A) (m:=m) (h:=h) h1;exact .agg this.1 this.2
 |_=>exact a6t hp
theorem Sl{v:PV X.Γ}{x:TV}(hp:qZ v=some x):VR X P A m h v x:=by
 cases v<;>simp only[qZ,a07,reduceCtorEq]at hp<;>subst hp
 .exact .bool _
 .exact .int _ _
 .exact .str _
 exact .nil _
theorem G7:∀{vs:List (PV X.Γ)} {xs:List TV},iO vs=some xs->bW X P A m h vs xs
 | [],xs,hp=>by simp only[iO,a07]at hp;subst hp;exact .nil
 |v::vs,xs,hp=>by
  simp only[iO]at hp;split at hp
  .rename_i a b ha hb;cases hp;exact .cons (Sl ha) (G7 hb)
  cases hp
theorem nX{v:PV X.Γ}{x:TV}(hp:qo v=some x):VR X P A m h v x:=by
 cases v with
 |agg cs=>
  simp only[qo,a09]at hp;obtain⟨vs,h1,rfl⟩:=hp;have:=G7 (X:=X) (P:=P) (A:=A) (m:=m) (h:=h) h1;exact .agg this.1 this.2
 |_=>exact Sl hp
theorem Hw{v:PV X.Γ}{x:TV}(hv:VR X P A m h v x):VR X P A m h (a1k v) x:=by
 cases v with
 |lit b=>
  cases hv with
  |lit=>exact .bool _
  |gone hi _ _=>simp[bC]at hi
 |_=>exact hv
theorem a6u{v:PV X.Γ}{x:TV}(hv:VR X P A m h v x):jc x=Zv v:=by
 cases hv with
 |own _ o=>exact o
 |gone hi _ o=>rw[o];cases v<;>simp[bC]at hi<;>rfl
 |_=>rfl
theorem Hy{v:PV X.Γ}{x:TV}(hv:VR X P A m h v x):bW X P A m h v.cells x.cells:=by
 have hq:=a6u hv;cases v with
 |agg cs=>
  cases hv with
  |agg h1 h2=>exact⟨h1,h2⟩
  |gone hi _ _=>simp[bC]at hi
 |dI cs=>
  have hv':=hv;cases hv with
  |dI h1 h2=>exact .cons hv' .nil
  |gone hi _ _=>simp[bC]at hi
 |_=>
  have:x.cells=[x]:=by cases x<;>first|rfl|(simp[jc,Zv]at hq;done)
  rw[this];exact .cons hv .nil
theorem Ed:∀{vs:List (PV X.Γ)} {xs:List TV},bW X P A m h vs xs->xs.all jc=vs.all Zv
 | [],xs,hv=>by rw[hv.inv0];rfl
 |v::vs,xs,hv=>by obtain⟨x,r,rfl,h1,h2⟩:=hv.inv;simp only[acf,a6u h1,Ed h2]
theorem aeN{cs:List (PV X.Γ)}{xs:List TV}(hv:bW X P A m h cs xs){off n:Nat}{r:List (PV X.Γ)}(hs:aeG cs off n=some r):∃r',sub xs off n=some r'∧bW X P A m h r r':=by
 unfold aeG at hs;split at hs
 .rename_i hl;cases hs;exact⟨_,by unfold sub;rw[a0A (by rw[<-hv.1];exact hl)],(hv.drop off).take n⟩
 cases hs
theorem Hz{cs new:List (PV X.Γ)}{xs aiH:List TV}(hv:bW X P A m h cs xs)(hn:bW X P A m h new aiH){off:Nat}{r:List (PV X.Γ)}(hs:Oz cs off new=some r):∃r',wF xs off aiH=some r'∧bW X P A m h r r':=by
 unfold Oz at hs;split at hs
 .rename_i hl;cases hs;refine⟨_,by unfold wF;rw[a0A (by rw[<-hv.1,<-hn.1];exact hl)],?_⟩;rw[<-hn.1];exact((hv.take off).app hn).app (hv.drop _)
 cases hs
theorem AL{cs:List (PV X.Γ)}{xs:List TV}(hv:bW X P A m h cs xs){t:LI2}{off:Nat}{v:PV X.Γ}(hs:Hg P t cs off=some v):∃x,uD P t xs off=some x∧VR X P A m h v x:=by
 unfold Hg at hs;unfold uD;split at hs
 .rename_i n ha hn;simp only[a09]at hs;obtain⟨r,h1,rfl⟩:=hs;obtain⟨r',g1,g2⟩:=aeN hv h1;exact⟨.agg r',by simp only[ha,hn,g1,a0F],.agg g2.1 g2.2⟩
 .rename_i n ha hn;split at hs
  .rename_i h1;obtain⟨x,g1,g2⟩:=hv.get hs;exact⟨x,by simp only[ha,hn,h1,a1P,g1],g2⟩
  cases hs
 cases hs
theorem HY{t:LI2}{z:List (PV X.Γ)}(hz:RZ P t=some z):∃z',Kz P t=some z'∧bW X P A m h z z':=by
 unfold RZ at hz;split at hz
 .rename_i z' h1;exact⟨z',h1,UK hz⟩
 cases hz
def VPs(X:kX)(P:LI1)(A:Nat->Prop)(m:List MB)(h:List HB)(ps:List (Nat×PV X.Γ))(qs:List (Nat×TV)):Prop:=
 ps.length=qs.length∧∀(i:Nat) a b,ps[i]? = some a->qs[i]? = some b->a.1=b.1∧VR X P A m h a.2 b.2
theorem VPs.inv{a:Nat×PV X.Γ}{ps:List (Nat×PV X.Γ)}{qs:List (Nat×TV)}(hv:VPs X P A m h (a::ps) qs):∃x r,qs=(a.1,x)::r∧VR X P A m h a.2 x∧VPs X P A m h ps r:=by
 cases qs with
 |nil=>have:=hv.1;simp at this
 |cons q r=>
  obtain⟨h1,h2⟩:=hv.2 0 a q rfl rfl;refine⟨q.2,r,by rw[h1],h2,by have:=hv.1;simpa using this,fun i x y hx hy=>hv.2 (i+1) x y (by simpa using hx) (by simpa using hy)⟩
theorem MV{pl:Nat->Option (Nat×Nat)}:∀{ps:List (Nat×PV X.Γ)} {qs:List (Nat×TV)} {cs:List (PV X.Γ)} {xs:List TV},VPs X P A m h ps qs->bW X P A m h cs xs->∀{r:List (PV X.Γ)},OA pl cs ps=some r->∃r',sJ pl xs qs=some r'∧bW X P A m h r r'
 | [],qs,cs,xs,hp,hv,r,hs=>by
  have:qs=[]:=by have:=hp.1;cases qs<;>simp_all
  subst this;simp only[OA,a07]at hs;subst hs;exact⟨xs,rfl,hv⟩
 |(i,v)::ps,qs,cs,xs,hp,hv,r,hs=>by
  obtain⟨x,rest,rfl,h1,h2⟩:=hp.inv;have hc:=Hy h1;simp only[OA]at hs;split at hs
  .rename_i off size Gu;split at hs
   .rename_i vI;split at hs
    .rename_i cs' ho;obtain⟨xs',g1,g2⟩:=Hz hv hc ho;obtain⟨r',g3,g4⟩:=MV h2 g2 hs;have aeo:x.cells.length=size:=by rw[<-hc.1];exact vI
     exact⟨r',by simp only[sJ,Gu,aeo,a1P,g1,g3],g4⟩
    cases hs
   cases hs
  cases hs
theorem a6v{t:LI2}{ps:List (Nat×PV X.Γ)}{qs:List (Nat×TV)}(hp:VPs X P A m h ps qs){v:PV X.Γ}(hs:Zx P t ps=some v):∃x,NC P t qs=some x∧VR X P A m h v x:=by
 unfold Zx at hs;unfold NC;split at hs
 .rename_i z fs hz hu;obtain⟨z',g1,g2⟩:=HY (A:=A) (m:=m) (h:=h) hz;split at hs
  .rename_i ha;simp only[a09]at hs;obtain⟨r,h1,rfl⟩:=hs;obtain⟨r',g3,g4⟩:=MV hp g2 h1;exact⟨.agg r',by simp only[g1,hu,ha,a1P,g3,a0F],.agg g4.1 g4.2⟩
  cases hs
 .rename_i z n e hz hu;obtain⟨z',g1,g2⟩:=HY (A:=A) (m:=m) (h:=h) hz;split at hs
  .rename_i k hk;simp only[a09]at hs;obtain⟨r,h1,rfl⟩:=hs;obtain⟨r',g3,g4⟩:=MV hp g2 h1;exact⟨.agg r',by simp only[g1,hu,hk,g3,a0F],.agg g4.1 g4.2⟩
  cases hs
 cases hs
theorem X4{z:List (PV X.Γ)}{z':List TV}(hz:bW X P A m h z z'):∀n,bW X P A m h (Zy z n) (times z' n)
 | 0=>.nil
 |n+1=>hz.app (X4 hz n)
section
variable {env:List (Nat×PE X.Γ)} {env':List (Nat×EV)}
theorem a1t(he:ku X P A m h env env'){t:Nat}:(Fe t env=none∧dM t env'=none)∨∃v x,Fe t env=some v∧dM t env'=some x∧IW X P A m h v x:=by
 induction he with
 |nil=>exact .inl ⟨rfl,rfl⟩
 |cons h1 _ ih=>
  rename_i k v x r r' _;simp only[Fe,dM];by_cases e:k=t
  .right;exact⟨v,x,by rw[a0A e],by rw[a0A e],h1⟩
  rw[a0y e,a0y e];exact ih
theorem oL(he:ku X P A m h env env'){t:Nat}{v:PE X.Γ}(hl:Fe t env=some v):∃x,dM t env'=some x∧IW X P A m h v x:=by
 rcases a1t he (t:=t)with⟨h1,_⟩|⟨w,x,h1,h2,h3⟩
 .rw[hl]at h1;cases h1
 rw[hl]at h1;cases h1;exact⟨x,h2,h3⟩
theorem nC(he:ku X P A m h env env'){o:Operand}{v:PE X.Γ}(hl:FW env o=some v):∃x,IK env' o=some x∧IW X P A m h v x:=by
 cases o with
 |tmp t=>exact oL he hl
 |const c=>
  simp only[FW]at hl;split at hl
  .rename_i b hb;cases hl;exact⟨.val (.bool b),by simp only[IK,hb,a0F],VR.lit b⟩
  .rename_i x _ hx;simp only[a09]at hl;obtain⟨w,h1,rfl⟩:=hl;exact⟨.val x,by simp only[IK,hx,a0F],xg h1⟩
  cases hl
 |func f=>
  simp only[FW,a07]at hl;subst hl;exact⟨.val (.fn f [] []),rfl,.fn rfl (by simp) rfl (by simp)⟩
 |global g=>cases hl
theorem gq{v:PV X.Γ}{x:EV}(hp:IW X P A m h (.val v) x):∃y,x=.val y∧VR X P A m h v y:=by
 cases x with
 |val y=>exact⟨y,rfl,hp⟩
 |_=>exact hp.elim
theorem Ee{k o:Nat}{x:EV}(hp:IW X P A m h (.loc k o) x):x=.loc k o:=by
 cases x with
 |loc k' o'=>obtain⟨rfl,rfl⟩:=hp;rfl
 |_=>exact hp.elim
theorem Jl{x:EV}(hp:IW X P A m h .undef x):x=.undef:=by
 cases x with
 |undef=>rfl
 |_=>exact hp.elim
theorem MW{r j:Nat}{v:PV X.Γ}{x:EV}(hp:IW X P A m h (.ent r j v) x):∃c y,x=.ent c j y∧VR X P A m h (.map r) (.map c)∧qo v=some y:=by
 cases x with
 |ent c j' y=>obtain⟨h1,rfl,h2⟩:=hp;exact⟨c,y,rfl,h1,h2⟩
 |_=>exact hp.elim
theorem MX{r j:Nat}{x:EV}(hp:IW X P A m h (.EG r j) x):∃c,x=.EG c j∧VR X P A m h (.map r) (.map c):=by
 cases x with
 |EG c j'=>obtain⟨h1,rfl⟩:=hp;exact⟨c,rfl,h1⟩
 |_=>exact hp.elim
theorem X5(he:ku X P A m h env env'){o:Operand}{v:PV X.Γ}(hl:a1l env o=some v):∃x,qP env' o=some x∧VR X P A m h v x:=by
 unfold a1l at hl;split at hl
 .rename_i w hw;cases hl;obtain⟨x,h1,h2⟩:=nC he hw;obtain⟨y,rfl,h3⟩:=gq h2;exact⟨y,by simp only[qP,h1],h3⟩
 cases hl
theorem jy(he:ku X P A m h env env'){o:Operand}{v:PV X.Γ}(hl:Aa env o=some v):∃x,qP env' o=some x∧VR X P A m h v x:=by
 unfold Aa at hl;split at hl
 .rename_i w hw;cases hl;obtain⟨x,h1,h2⟩:=nC he hw;obtain⟨y,rfl,h3⟩:=gq h2;exact⟨y,by simp only[qP,h1],Hw h3⟩
 cases hl
theorem UL(he:ku X P A m h env env'):∀{os:List Operand} {vs:List (PV X.Γ)},Zw env os=some vs->∃xs,U4 env' os=some xs∧bW X P A m h vs xs
 | [],vs,hl=>by simp only[Zw,a07]at hl;subst hl;exact⟨[],rfl,.nil⟩
 |o::os,vs,hl=>by
  simp only[Zw]at hl;split at hl
  .rename_i v ws h1 h2;cases hl;obtain⟨x,g1,g2⟩:=jy he h1;obtain⟨xs,g3,g4⟩:=UL he h2;exact⟨x::xs,by simp only[U4,g1,g3],.cons g2 g4⟩
  cases hl
theorem ZI(he:ku X P A m h env env'):∀{os:List (Nat×Operand)} {vs:List (Nat×PV X.Γ)},a3m env os=some vs->∃xs,VW env' os=some xs∧VPs X P A m h vs xs
 | [],vs,hl=>by simp only[a3m,a07]at hl;subst hl;exact⟨[],rfl,rfl,fun i a b ha=>by simp at ha⟩
 |(i,o)::os,vs,hl=>by
  simp only[a3m]at hl;split at hl
  .rename_i v ws h1 h2;cases hl;obtain⟨x,g1,g2⟩:=jy he h1;obtain⟨xs,g3,g4⟩:=ZI he h2;refine⟨(i,x)::xs,by simp only[VW,g1,g3],by simp[g4.1],fun j a b ha hb=>?_⟩;cases j with
   |zero=>simp only[a2S,a07]at ha hb;subst ha;subst hb;exact⟨rfl,g2⟩
   |succ j=>exact g4.2 j a b (by simpa using ha) (by simpa using hb)
  cases hl
def OR(X:kX)(P:LI1)(A:Nat->Prop)(m:List MB)(h:List HB):Option (PV X.Γ)->Option TV->Prop
 |none,none=>True
 |some v,some x=>VR X P A m h v x
 |_,_=>False
theorem I4(he:ku X P A m h env env'){o:Option Operand}{v:Option (PV X.Γ)}(hl:Oy env o=some v):∃x,VY env' o=some x∧OR X P A m h v x:=by
 cases o with
 |none=>simp only[Oy,a07]at hl;subst hl;exact⟨none,rfl,trivial⟩
 |some o=>
  simp only[Oy]at hl;split at hl
  .rename_i w hw;cases hl;obtain⟨x,g1,g2⟩:=jy he hw;exact⟨some x,by simp only[VY,g1],g2⟩
  cases hl
theorem UM(he:ku X P A m h env env'):∀live,ku X P A m h (jl live env) (pick live env')
 | []=>.nil
 |t::r=>by
  simp only[jl,pick];rcases a1t he (t:=t)with⟨h1,h2⟩|⟨v,x,h1,h2,h3⟩
  .rw[h1,h2];exact UM he r
  rw[h1,h2];exact .cons h3 (UM he r)
theorem aa8(he:ku X P A m h env env'){t:Nat}{b:Bool}(hb:dM t env'=some (.val (.bool b))):ku X P A m h (Pv.BU t b env) env':=by
 induction he with
 |nil=>exact .nil
 |cons h1 h2 ih=>
  rename_i k v x r r';simp only[dM]at hb;simp only[Pv.BU];by_cases e:k=t
  .rw[a0A e]at hb ⊢;cases hb;exact .cons (VR.lit b) h2
  rw[a0y e]at hb ⊢;exact .cons h1 (ih hb)
theorem aeO(he:ku X P A m h env env'):UH X env=CP env':=by
 induction he with
 |nil=>rfl
 |cons h1 _ ih=>
  rename_i k v x r r' _;cases v with
  |val v=>obtain⟨y,rfl,_⟩:=gq h1;simpa[UH,CP]using ih
  |loc a b=>rw[Ee h1];simp only[UH,CP,ih]
  |undef=>rw[Jl h1];simpa[UH,CP]using ih
  |ent=>obtain⟨_,_,rfl,_⟩:=MW h1;simpa[UH,CP]using ih
  |EG=>obtain⟨_,rfl,_⟩:=MX h1;simpa[UH,CP]using ih
end
end
structure bT(X:kX)(P:LI1):Prop where
 dec:∀{t:Nat} {vs:List (PV X.Γ)} {a:X.Γ t},X.dec t vs=some a->∀{A:Nat->Prop} {m:List MB} {h:List HB} {xs:List TV},bW X P A m h vs xs->bW X P A m h (X.enc t a) xs
 jr:∀(t:Nat) (a:X.Γ t),jr.Ho (X.enc t a)=true
section
variable {X:kX} {P:LI1} {A B:Nat->Prop} {m m':List MB} {h h':List HB} {H H':List (PB X.Γ)}
theorem VR.mono(hAB:∀b,A b->B b){v:PV X.Γ}{x:TV}(hv:VR X P A m h v x):VR X P B m h v x:=by
 induction hv with
 |bool=>exact .bool _
 |lit=>exact .lit _
 |int=>exact .int _ _
 |str=>exact .str _
 |nil=>exact .nil _
 |ptr e=>exact .ptr e
 |aQ e=>exact .aQ e
 |own e o=>exact .own e o
 |win e q q' q2=>exact .win e q q' q2
 |BX e=>exact .BX e
 |Gv e=>exact .Gv e
 |Jj e=>exact .Jj e
 |map e=>exact .map e
 |iter e=>exact .iter e
 |fn h1 _ h3 _ i2 i4=>exact .fn h1 i2 h3 i4
 |kW e=>exact .kW e
 |agg h1 _ i2=>exact .agg h1 i2
 |dI h1 _ i2=>exact .dI h1 i2
 |pJ=>exact .pJ
 |dJ a c c2 s z o k f e _ ih=>exact .dJ (hAB _ a) c c2 s z o k f e ih
 |el a c l o e q _ ih=>exact .el (hAB _ a) c l o e q ih
 |row e j q=>exact .row e j q
 |gone i e o=>exact .gone i e o
theorem bW.mono(hAB:∀b,A b->B b){v:List (PV X.Γ)}{x:List TV}(hv:bW X P A m h v x):bW X P B m h v x:=⟨hv.1,fun i a b ha hb=>(hv.2 i a b ha hb).mono hAB⟩
theorem fM:∀{vs:List (PV X.Γ)} {i:Nat} {v:PV X.Γ},jr.Ho vs=true->vs[i]? = some v->jr v=true
 | [],_,_,_,h=>by simp at h
 |a::vs,i,v,hc,h=>by
  simp only[jr.Ho,a1R]at hc;cases i with
  |zero=>simp only[a2S,a07]at h;subst h;exact hc.1
  |succ i=>exact fM hc.2 (by simpa using h)
theorem VR.jr(hX:bT X P){v:PV X.Γ}{x:TV}(hv:VR X P A m h v x)(hc:Pv.jr v=true):VR X P A m' h v x:=by
 induction hv with
 |bool=>exact .bool _
 |lit=>exact .lit _
 |int=>exact .int _ _
 |str=>exact .str _
 |nil=>exact .nil _
 |fn h1 _ h3 _ i2 i4=>
  simp only[Pv.jr,a1R]at hc;exact .fn h1 (fun i x y hx hy=>i2 i x y hx hy (fM hc.1 hx)) h3 (fun i x y hx hy=>i4 i x y hx hy (fM hc.2 hx))
 |agg h1 _ i2=>
  simp only[Pv.jr]at hc;exact .agg h1 (fun i x y hx hy=>i2 i x y hx hy (fM hc hx))
 |dI h1 _ i2=>
  simp only[Pv.jr]at hc;exact .dI h1 (fun i x y hx hy=>i2 i x y hx hy (fM hc hx))
 |pJ=>exact .pJ
 |dJ a c c2 s z o k f e _ ih=>exact .dJ a c c2 s z o k f e fun j y i d v h1 h2 h3=>ih j y i d v h1 h2 h3 (fM (hX.jr _ _) h2)
 |el a c l o e q _ ih=>exact .el a c l o e q fun i d v h1 h2=>ih i d v h1 h2 (fM (hX.jr _ _) h1)
 |gone i e o=>rename_i v _ _;cases v<;>simp[bC]at i<;>simp[Pv.jr]at hc
 |_=>simp[Pv.jr]at hc
theorem dZ.jr(hX:bT X P){t:Nat}{l:List (X.Γ t)}{cs:List TV}{off sz:Nat}(hv:dZ X P A m h t l cs off sz):dZ X P A m' h t l cs off sz:=
 ⟨hv.1,hv.2.1,fun j a i c v h1 h2 h3=>(hv.2.2 j a i c v h1 h2 h3).jr hX (fM (hX.jr _ _) h2)⟩
theorem dZ.mono(hAB:∀b,A b->B b){t:Nat}{l:List (X.Γ t)}{cs:List TV}{off sz:Nat}(hv:dZ X P A m h t l cs off sz):dZ X P B m h t l cs off sz:=
 ⟨hv.1,hv.2.1,fun j a i c v h1 h2 h3=>(hv.2.2 j a i c v h1 h2 h3).mono hAB⟩
theorem VR.move(hX:bT X P)(hA:∀q cs,A q->aW h q=some cs->B q∧h'[q]? = h[q]?){v:PV X.Γ}{x:TV}(hv:VR X P A m h v x)(hc:Pv.jr v=true):VR X P B m' h' v x:=by
 induction hv with
 |bool=>exact .bool _
 |lit=>exact .lit _
 |int=>exact .int _ _
 |str=>exact .str _
 |nil=>exact .nil _
 |fn h1 _ h3 _ i2 i4=>
  simp only[Pv.jr,a1R]at hc;exact .fn h1 (fun i x y hx hy=>i2 i x y hx hy (fM hc.1 hx)) h3 (fun i x y hx hy=>i4 i x y hx hy (fM hc.2 hx))
 |agg h1 _ i2=>
  simp only[Pv.jr]at hc;exact .agg h1 (fun i x y hx hy=>i2 i x y hx hy (fM hc hx))
 |dI h1 _ i2=>
  simp only[Pv.jr]at hc;exact .dI h1 (fun i x y hx hy=>i2 i x y hx hy (fM hc hx))
 |pJ=>exact .pJ
 |dJ a c c2 s z o k f e _ ih=>obtain⟨a',c'⟩:=hA _ _ a c;exact .dJ a' ((fZ c').trans c) (fun hl=>(yE c').trans (c2 hl)) s z o k f e fun j y i d v h1 h2 h3=>ih j y i d v h1 h2 h3 (fM (hX.jr _ _) h2)
 |el a c l o e q _ ih=>obtain⟨a',c'⟩:=hA _ _ a (AB c);exact .el a' ((yE c').trans c) l o e q fun i d v h1 h2=>ih i d v h1 h2 (fM (hX.jr _ _) h1)
 |gone i e o=>rename_i v _ _;cases v<;>simp[bC]at i<;>simp[Pv.jr]at hc
 |_=>simp[Pv.jr]at hc
theorem dZ.move(hX:bT X P)(hA:∀q cs,A q->aW h q=some cs->B q∧h'[q]? = h[q]?){t:Nat}{l:List (X.Γ t)}{cs:List TV}{off sz:Nat}(hv:dZ X P A m h t l cs off sz):dZ X P B m' h' t l cs off sz:=
 ⟨hv.1,hv.2.1,fun j a i c v h1 h2 h3=>(hv.2.2 j a i c v h1 h2 h3).move hX hA (fM (hX.jr _ _) h2)⟩
def FA(A:Nat->Prop)(m:List MB)(is:List Nat):Nat->Prop:=fun b=>AA A m b∨∃i mb,i∈is∧m[i]? = some mb∧mb.own=some b
theorem FA.mono{is js:List Nat}(hs:∀i,i∈is->i∈js){b:Nat}(hb:FA A m is b):FA A m js b:=by
 rcases hb with h|⟨i,mb,h1,h2,h3⟩
 .exact .inl h
 exact .inr ⟨i,mb,hs i h1,h2,h3⟩
theorem OG:∀(is:List Nat) {m:List MB} {i:Nat} {mb:MB},(dh is m)[i]? = some mb->mb.own≠none->i∉is∧m[i]? = some mb
 | [],_,_,_,h,_=>⟨by simp,h⟩
 |j::is,m,i,mb,h,hn=>by
  obtain⟨h1,h2⟩:=OG is (m:=m.set j .gone) h hn;by_cases e:j=i
  .subst e;rw[a4P]at h2;cases hx:m[j]? with
   |none=>rw[hx]at h2;cases h2
   |some y=>rw[hx]at h2;cases h2;exact absurd rfl hn
  rw[a0R e]at h2;exact⟨by simp[h1,ahr e],h2⟩
theorem AO{is:List Nat}{m:List MB}{b:Nat}(hb:b∈bn (dh is m)):∃i mb,i∉is∧m[i]? = some mb∧mb.own=some b:=by obtain⟨mb,hm,ho⟩:=a6x.1 hb;obtain⟨i,hi⟩:=a8X hm;obtain⟨h1,h2⟩:=OG is hi (by rw[ho];simp);exact⟨i,mb,h1,h2,ho⟩
theorem FA.gone(hr:HR X P A m H h){is:List Nat}{b:Nat}(hb:FA A m is b):AA A (dh is m) b:=by
 rcases hb with hb|⟨i,mb,h1,h2,h3⟩
 .refine⟨hb.1,fun hm=>?_⟩;obtain⟨i,mb,_,h2,h3⟩:=AO hm;exact hb.2 (bf h2 h3)
 refine⟨hr.Dc b (bf h2 h3),fun hm=>?_⟩;obtain⟨j,MS,g1,g2,g3⟩:=AO hm;have:=je hr.nodup h2 g2 h3 g3;exact g1 (this▸h1)
theorem Sm(hX:bT X P)(hr:HR X P A m H h){k ex:Bool}{t i:Nat}{l:List (X.Γ t)}{x:TV}(hl:LR X P (AA A m) m h k ex t l x)(hi:m[i]? = some (.dJ x)){is:List Nat}(hs:i∈is):VR X P (FA A m is) m' h (.dJ t l false) x:=by
 cases hl with
 |nil=>exact .pJ
 |emp h0 h1 h2 h3 h4=>exact .dJ (.inl h0) h1 (fun e=>absurd rfl e) h3 h4 (by simpa using h2) (a0K _) (by simp) (fun j a hj=>by simp at hj) (fun j a i c v hj=>by simp at hj)
 |some h1 h2 h3 h4 h5 h6 h7 h8 h9=>
  refine .dJ (cs:=_) (.inr ⟨i,_,hs,hi,?_⟩) (by unfold aW;rw[h4]) (fun _=>wX h4 (by omega)) h2 h3 (by omega) (a0K _) (by simp) h9.1 ?_
  .simp only[MB.own];rw[a0y (by simpa using h1)]
  intro j a q c v e1 e2 e3;exact((h9.2.2 j a q c v e1 e2 e3).mono fun b hb=>.inl hb).jr hX (fM (hX.jr _ _) e2)
theorem VR.part{F:Nat->Prop}{t:Nat}{l:List (X.Γ t)}{fu:Bool}{b off len cap sz:Nat}{ex:Bool}(hv:VR X P F m h (.dJ t l fu) (.aQ b off len cap sz ex)){o n cap':Nat}{ex' fu':Bool}(hn:o+n<=len)(hc:n<=cap')(hw:n=0∨o+cap'=cap)(hfu:fu'=true->ex'=true∧cap'=n) :
  VR X P F m h (.dJ t ((l.drop o).take n) fu') (.aQ b (off+o*sz) n cap' sz ex'):=by
 cases hv with
 |dJ a c c2 s z ol k f e r=>
  have hlen:((l.drop o).take n).length=n:=by rw[a3W,a3U];omega
  have:=@VR.dJ X P F m h t ((l.drop o).take n) fu' b (off+o*sz) cap' sz ex' _ a c (fun iy=>by
   have h1:n≠0:=fun e=>iy (by subst e;simp);have h2:=hw.resolve_left h1;have h3:off+o*sz+cap'*sz=off+cap*sz:=by rw[<-h2,a3z];omega
   rw[h3];exact c2 (fun e=>by subst e;simp at hlen;omega)) s z (by
   rw[hlen];have:(o+n)*sz<=l.length*sz:=a3P sz hn;rw[a3z]at this;omega) (by rw[hlen];exact hc) (by rw[hlen];exact hfu) (fun j y hy=>by
    rw[a4Q]at hy;split at hy
    .rw[a4O]at hy;exact e _ _ hy
    .cases hy) (fun j y i d v hy h2 h3=>by
    rw[a4Q]at hy;split at hy
    .rw[a4O]at hy;refine r _ _ i d v hy h2 ?_;rw[<-h3];congr 1;rw[a3z];omega
    .cases hy)
  rwa [hlen]at this
 |gone hi _ _=>simp[bC]at hi
mutual
theorem UN(hX:bT X P)(hr:HR X P A m H h):∀{v w:PV X.Γ} {x:TV},VR X P (AA A m) m h v x->view H v=some w->∀{is:List Nat},(∀i,i∈l7 v->i∈is)->VR X P (FA A m is) m' h w x
 |.own i,w,x,hv,hw,is,hs=>by
  simp only[view]at hw;split at hw
  .rename_i k ex t l hH;cases hw;obtain⟨mb,h1,h2⟩:=hr.at_ i _ hH;cases mb with
   |dJ y=>
    cases hv with
    |own e o=>rw[h1]at e;cases e;exact Sm hX hr h2 h1 (hs i (by simp[l7]))
    |gone hi e o=>simp only[bC,a07]at hi;subst hi;rw[h1]at e;cases e
   |_=>exact h2.elim
  cases hw
 |.win i o n,w,x,hv,hw,is,hs=>by
  simp only[view]at hw;split at hw
  .rename_i k ex t l hH;cases hw;obtain⟨mb,h1,h2⟩:=hr.at_ i _ hH;cases mb with
   |dJ y=>
    have h2':LR X P (AA A m) m h k ex t l y:=h2;have hfz:VR X P (FA A m is) m' h (.dJ t l false) y:=Sm hX hr h2' h1 (hs i (by simp[l7]));cases hv with
    |win e q q' q2=>
     rw[h1]at e;cases e;exact hfz.part q q' q2 (by simp)
    |BX e=>
     rw[h1]at e;cases e;cases h2' with
     |nil=>simp only[List.drop_nil,List.take_nil];exact .pJ
    |gone hi e o=>simp only[bC,a07]at hi;subst hi;rw[h1]at e;cases e
   |_=>exact h2.elim
  cases hw
 |.fn f a c,w,x,hv,hw,is,hs=>by
  simp only[view]at hw;split at hw
  .rename_i a' c' h1 h2;cases hw;cases hv with
   |fn e1 e2 e3 e4=>
    have g1:=lM hX hr ⟨e1,e2⟩ h1 (is:=is) fun i hi=>hs i (by simp[l7,hi]);have g2:=lM hX hr ⟨e3,e4⟩ h2 (is:=is) fun i hi=>hs i (by simp[l7,hi]);exact .fn g1.1 g1.2 g2.1 g2.2
   |gone hi _ _=>simp[bC]at hi
  cases hw
 |.agg cs,w,x,hv,hw,is,hs=>by
  simp only[view,a09]at hw;obtain⟨cs',h1,rfl⟩:=hw;cases hv with
  |agg e1 e2=>have g1:=lM hX hr ⟨e1,e2⟩ h1 (is:=is) fun i hi=>hs i (by simp[l7,hi]);exact .agg g1.1 g1.2
  |gone hi _ _=>simp[bC]at hi
 |.dI cs,w,x,hv,hw,is,hs=>by
  simp only[view,a09]at hw;obtain⟨cs',h1,rfl⟩:=hw;cases hv with
  |dI e1 e2=>have g1:=lM hX hr ⟨e1,e2⟩ h1 (is:=is) fun i hi=>hs i (by simp[l7,hi]);exact .dI g1.1 g1.2
  |gone hi _ _=>simp[bC]at hi
 |.bool b,w,x,hv,hw,is,hs=>by simp only[view,a07]at hw;subst hw;exact(hv.mono fun b hb=>.inl hb).jr hX rfl
 |.lit b,w,x,hv,hw,is,hs=>by
  simp only[view,a07]at hw;subst hw;cases hv with
  |lit=>exact .bool _
  |gone hi _ _=>simp[bC]at hi
 |.int k n,w,x,hv,hw,is,hs=>by simp only[view,a07]at hw;subst hw;exact(hv.mono fun b hb=>.inl hb).jr hX rfl
 |.str b,w,x,hv,hw,is,hs=>by simp only[view,a07]at hw;subst hw;exact(hv.mono fun b hb=>.inl hb).jr hX rfl
 |.nil b,w,x,hv,hw,is,hs=>by simp only[view,a07]at hw;subst hw;exact(hv.mono fun b hb=>.inl hb).jr hX rfl
 |.dJ t l f,w,x,hv,hw,is,hs=>by simp only[view,a07]at hw;subst hw;exact(hv.mono fun b hb=>.inl hb).jr hX rfl
 |.ptr _ _ _,w,x,hv,hw,is,hs=>by simp[view]at hw
 |.aQ _ _ _ _ _ _,w,x,hv,hw,is,hs=>by simp[view]at hw
 |.map _,w,x,hv,hw,is,hs=>by simp[view]at hw
 |.kW _,w,x,hv,hw,is,hs=>by simp[view]at hw
 |.el _ _ _,w,x,hv,hw,is,hs=>by simp[view]at hw
 |.row _ _ _,w,x,hv,hw,is,hs=>by simp[view]at hw
 |.Gv _,w,x,hv,hw,is,hs=>by simp[view]at hw
theorem lM(hX:bT X P)(hr:HR X P A m H h):∀{vs ws:List (PV X.Γ)} {xs:List TV},bW X P (AA A m) m h vs xs->views H vs=some ws->∀{is:List Nat},(∀i,i∈l7.kH vs->i∈is)->bW X P (FA A m is) m' h ws xs
 | [],ws,xs,hv,hw,is,hs=>by simp only[view.views,a07]at hw;subst hw;rw[hv.inv0];exact .nil
 |v::vs,ws,xs,hv,hw,is,hs=>by
  obtain⟨x,r,rfl,h1,h2⟩:=hv.inv;simp only[view.views]at hw;split at hw
  .rename_i w VZ g1 g2;cases hw;exact .cons (UN hX hr h1 g1 fun i hi=>hs i (by simp[l7.kH,hi])) (lM hX hr h2 g2 fun i hi=>hs i (by simp[l7.kH,hi]))
  cases hw
end
end
open Go Tw
section
variable {X:kX} {P:LI1} {A B F:Nat->Prop} {m m':List MB} {h h':List HB} {H H':List (PB X.Γ)}
theorem a1u(hX:bT X P)(hr:HR X P A m H h){t:Nat}{cs:List (PV X.Γ)}{xs:List TV}(hv:bW X P (AA A m) m h cs xs){a:X.Γ t}{is:List Nat}(hd:aa2 X H t cs=some (a,is)):bW X P (FA A m is) m' h (X.enc t a) xs:=by
 unfold aa2 at hd;split at hd
 .rename_i vs h1;split at hd
  .rename_i b h2;simp only[a07,a0B]at hd;obtain⟨rfl,rfl⟩:=hd;exact hX.dec h2 (lM hX hr hv h1 fun i hi=>hi)
  cases hd
 cases hd
theorem AP(hX:bT X P)(hr:HR X P A m H h){t sz:Nat}:∀{n:Nat} {cs:List (PV X.Γ)} {xs:List TV},bW X P (AA A m) m h cs xs->∀{l:List (X.Γ t)} {is:List Nat},yB X H t sz n cs=some (l,is)->l.length=n∧dZ X P (FA A m is) m' h t l xs 0 sz
 | 0,cs,xs,hv,l,is,hd=>by simp only[yB,a07,a0B]at hd;obtain⟨rfl,rfl⟩:=hd;exact⟨rfl,fun j a hj=>by simp at hj,by simp,fun j a i c v hj=>by simp at hj⟩
 |n+1,cs,xs,hv,l,is,hd=>by
  simp only[yB]at hd;split at hd
  rotate_left
  .cases hd
  rename_i vI;split at hd
  rotate_left
  .cases hd
  rename_i a js l' ks h1 h2;simp only[a07,a0B]at hd;obtain⟨rfl,rfl⟩:=hd;have g1:=(a1u (m':=m') hX hr (hv.take sz) h1).mono fun b hb=>FA.mono (js:=js++ks) (fun i hi=>a5Z _ hi) hb;obtain⟨e2,g2⟩:=AP hX hr (hv.drop sz) h2;have g2:=g2.mono fun b hb=>FA.mono (js:=js++ks) (fun i hi=>ac8 _ hi) hb;have hl:(X.enc t a).length=sz:=by rw[g1.1,a3W,<-hv.1];omega
  refine⟨by simp[e2],fun j b hj=>?_,?_,fun j b i c v hj hi hx=>?_⟩
  .cases j with
   |zero=>simp only[a2S,a07]at hj;subst hj;exact hl
   |succ j=>exact g2.1 j b (by simpa using hj)
  .have:=g2.2.1;rw[a3U]at this;have h3:=hv.1;simp only[a4M,a3z];omega
  cases j with
  |zero=>
   simp only[a2S,a07]at hj;subst hj;have aT:i<sz:=by rw[<-hl];exact(a08.1 hi).1
   refine g1.2 i c v hi ?_;rw[a4Q,a0A aT,<-hx];simp
  |succ j=>
   refine g2.2.2 j b i c v (by simpa using hj) hi ?_;rw[a4O,<-hx];congr 1;rw[a3z];omega
def SlR(X:kX)(P:LI1)(F:Nat->Prop)(m:List MB)(h:List HB)(t sz:Nat)(l:List (X.Γ t))(x:TV):Prop:=
 (x=.nil .aQ∧l=[])∨∃b off cap ex cs,x=.aQ b off l.length cap sz ex∧l.length<=cap∧aW h b=some cs∧(l≠[]->mG h b (off+cap*sz)=some cs)∧dZ X P F m h t l cs off sz
theorem a1v{t sz:Nat}{l:List (X.Γ t)}{fu:Bool}{x:TV}(hv:VR X P F m h (.dJ t l fu) x)(hz:dF P t=some sz):SlR X P F m h t sz l x:=by
 cases hv with
 |pJ=>exact .inl ⟨rfl,rfl⟩
 |dJ a c c2 s z o k f e r=>
  rw[hz]at s;cases s;exact .inr ⟨_,_,_,_,_,rfl,k,c,c2,e,o,r⟩
 |gone hi _ _=>simp[bC]at hi
theorem a6w{k ex:Bool}{t sz:Nat}{l:List (X.Γ t)}{x:TV}(hv:LR X P F m h k ex t l x)(hz:dF P t=some sz):SlR X P F m h t sz l x:=by
 cases hv with
 |nil=>exact .inl ⟨rfl,rfl⟩
 |emp h0 h1 h2 h3 h4=>
  rw[hz]at h3;cases h3;exact .inr ⟨_,_,_,_,_,rfl,a0K _,h1,fun e=>absurd rfl e,fun j a hj=>by simp at hj,by simpa using h2,fun j a i c v hj=>by simp at hj⟩
 |some h1 h2 h3 h4 h5 h6 h7 h8 h9=>
  rw[hz]at h2;cases h2;exact .inr ⟨_,_,_,_,_,rfl,a0K _,by unfold aW;rw[h4],fun _=>wX h4 (by omega),h9⟩
theorem dZ.part{t sz:Nat}{l:List (X.Γ t)}{cs:List TV}{off o n:Nat}(hv:dZ X P F m h t l cs off sz)(hn:o+n<=l.length):dZ X P F m h t ((l.drop o).take n) cs (off+o*sz) sz:=by
 have hlen:((l.drop o).take n).length=n:=by rw[a3W,a3U];omega
 refine⟨fun j y hy=>?_,?_,fun j y i c v hy h2 h3=>?_⟩
 .rw[a4Q]at hy;split at hy
  .rw[a4O]at hy;exact hv.1 _ _ hy
  cases hy
 .have:=hv.2.1;have h2:(o+n)*sz<=l.length*sz:=a3P sz hn;rw[hlen];rw[a3z]at h2;omega
 rw[a4Q]at hy;split at hy
 .rw[a4O]at hy;refine hv.2.2 _ y i c v hy h2 ?_;rw[<-h3];congr 1;rw[a3z];omega
 cases hy
theorem dZ.take{t sz:Nat}{l:List (X.Γ t)}{cs:List TV}{off:Nat}(hv:dZ X P F m h t l cs off sz):dZ X P F m h t l ((cs.drop off).take (l.length*sz)) 0 sz:=by
 refine⟨hv.1,?_,fun j a i c v h1 h2 h3=>?_⟩
 .have:=hv.2.1;rw[a3W,a3U];omega
 rw[a4Q]at h3;split at h3
 .rw[a4O]at h3;exact hv.2.2 j a i c v h1 h2 (by rw[<-h3];congr 1;omega)
 cases h3
theorem SlR.src{t sz:Nat}{l:List (X.Γ t)}{x:TV}(hv:SlR X P F m h t sz l x):∃new,dV sz h x=some (l.length,new)∧new.length=l.length*sz∧dZ X P F m h t l new 0 sz:=by
 rcases hv with⟨rfl,rfl⟩|⟨b,off,cap,ex,cs,rfl,hk,hc,KG,hw⟩
 .exact⟨[],rfl,by simp,fun j a hj=>by simp at hj,by simp,fun j a i c v hj=>by simp at hj⟩
 refine⟨(cs.drop off).take (l.length*sz),?_,?_,hw.take⟩
 .have:=hw.2.1;simp only[dV,a1P,sub];by_cases h0:l.length=0
  .rw[a0A h0,h0];simp
  rw[a0y h0,KG (fun e=>h0 (by rw[e];rfl))];simp only;rw[a0A this];rfl
 have:=hw.2.1;rw[a3W,a3U];omega
theorem dZ.app{t sz:Nat}{l r:List (X.Γ t)}{a b:List TV}(h1:dZ X P F m h t l a 0 sz)(h2:dZ X P F m h t r b 0 sz)(ha:a.length=l.length*sz):dZ X P F m h t (l++r) (a++b) 0 sz:=by
 refine⟨fun j y hy=>?_,?_,fun j y i c v hy hi hx=>?_⟩
 .rcases a4N j l.length with hl|hl
  .rw[a0m hl]at hy;exact h1.1 j y hy
  rw[a0L hl]at hy;exact h2.1 _ y hy
 .have:=h2.2.1;simp only[a1w,a3z];omega
 rcases a4N j l.length with hl|hl
 .rw[a0m hl]at hy;have aT:i<sz:=by rw[<-h1.1 j y hy];exact(a08.1 hi).1
  have:(j+1)*sz<=l.length*sz:=a3P sz hl;rw[a3z]at this;rw[a0m (by omega)]at hx;exact h1.2.2 j y i c v hy hi hx
 rw[a0L hl]at hy;have:l.length*sz<=j*sz:=a3P sz hl;rw[a0L (by omega)]at hx;refine h2.2.2 _ y i c v hy hi ?_;rw[<-hx];congr 1;rw[ha,Nat.sub_mul];omega
theorem rH{Γ:Nat->Type}{t t':Nat}{l:List (Γ t')}{r:List (Γ t)}(h:BG t t' l=some r):∃e:t'=t,r=e▸l:=by
 unfold BG at h;split at h
 .rename_i e;cases h;exact⟨e,rfl⟩
 cases h
theorem UO(hX:bT X P)(hr:HR X P A m H h){e sz:Nat}{x:PV X.Γ}{tx:TV}(hv:VR X P (AA A m) m h x tx)(hz:dF P e=some sz){rows:List (X.Γ e)}{is:List Nat}(hs:Aw X H e sz x=some (rows,is)) :
  ∃new,dV sz h tx=some (rows.length,new)∧new.length=rows.length*sz∧dZ X P (FA A m is) m' h e rows new 0 sz:=by
 have up:∀{l:List (X.Γ e)} {y:TV},SlR X P (AA A m) m h e sz l y->∃new,dV sz h y=some (l.length,new)∧new.length=l.length*sz∧dZ X P (FA A m []) m' h e l new 0 sz:=by intro l y hy;obtain⟨new,h1,h2,h3⟩:=hy.src;exact⟨new,h1,h2,(h3.mono fun b hb=>.inl hb).jr hX⟩
 cases x with
 |nil k=>
  cases k<;>simp only[Aw]at hs<;>try (cases hs;done)
  simp only[a07,a0B]at hs;obtain⟨rfl,rfl⟩:=hs;cases hv with
  |nil=>exact up (.inl ⟨rfl,rfl⟩)
  |gone hi _ _=>simp[bC]at hi
 |dJ t l fu=>
  simp only[Aw,a09,a0B]at hs;obtain⟨r,h1,rfl,rfl⟩:=hs;obtain⟨rfl,rfl⟩:=rH h1;exact up (a1v hv hz)
 |own i=>
  simp only[Aw]at hs;split at hs
  .rename_i k ex t l hH;simp only[a09,a0B]at hs;obtain⟨r,h1,rfl,rfl⟩:=hs;obtain⟨rfl,rfl⟩:=rH h1;obtain⟨mb,g1,g2⟩:=hr.at_ i _ hH;cases mb with
   |dJ y=>
    cases hv with
    |own e' o=>rw[g1]at e';cases e';exact up (a6w g2 hz)
    |gone hi e' o=>simp only[bC,a07]at hi;subst hi;rw[g1]at e';cases e'
   |_=>exact g2.elim
  .cases hs
 |win i o n=>
  simp only[Aw]at hs;split at hs
  .rename_i k ex t l hH;simp only[a09,a0B]at hs;obtain⟨r,h1,rfl,rfl⟩:=hs;obtain⟨rfl,rfl⟩:=rH h1;obtain⟨mb,g1,g2⟩:=hr.at_ i _ hH;cases mb with
   |dJ y=>
    have hsl:=a6w g2 hz;cases hv with
    |win e' q q' q2=>
     rw[g1]at e';cases e';rcases hsl with⟨h,_⟩|⟨b,off,cap,ex',cs,he,hk,hc,KG,hw⟩
     .cases h
     .cases he;have hlen:n=((r.drop o).take n).length:=by rw[a3W,a3U];omega
      refine up (.inr ⟨_,_,_,_,cs,congrArg (fun k=>TV.aQ _ _ k _ _ _) hlen,hlen▸q',hc,fun iy=>?_,hw.part q⟩);have h1:n≠0:=fun e=>iy (by subst e;simp);have h2:=q2.resolve_left h1;rw[<-KG (fun e=>iy (by rw[e];simp)),<-h2];congr 1;rw[a3z];omega
    |BX e'=>
     rw[g1]at e';cases e';refine up (.inl ⟨rfl,by simp⟩)
    |gone hi e' o=>simp only[bC,a07]at hi;subst hi;rw[g1]at e';cases e'
   |_=>exact g2.elim
  .cases hs
 |aQ b off len cap sz' ex=>
  simp only[Aw]at hs;split at hs
  .rename_i cs hH;split at hs
   .rename_i vI;obtain⟨vI,aeP⟩:=vI;subst vI;obtain⟨mb,g1,g2⟩:=hr.at_ b _ hH;cases mb with
    |gG c=>
     obtain⟨cs',g3,g4⟩:=g2;cases hv with
     |aQ e'=>
      rw[g1]at e';cases e';obtain⟨hl,hw⟩:=AP (m':=m') hX hr (g4.drop off) hs;subst hl;rw[g4.1]at aeP;refine⟨(cs'.drop off).take (rows.length*sz'),?_,by rw[a3W,a3U];omega,by simpa using hw.take⟩;simp only[dV,a1P,wY g3 (by simp),sub];split
      .rename_i h0;rw[h0,acz,List.take_zero]
      .simp only[aeP,a1P,a0F]
     |gone hi e' o=>simp only[bC,a07]at hi;subst hi;rw[g1]at e';cases e'
    |_=>exact g2.elim
   .cases hs
  .cases hs
 |_=>simp[Aw]at hs
end
open Go Tw
def G8(m:List MB)(i b:Nat):Prop:=∃mb,m[i]? = some mb∧mb.own=some b
structure IR(m:List MB)(h:List HB)(p:PI)(t:mF):Prop where
 all:t.all=true->p.i.all=true
 tl:∀k,.l k∈t.ts->.l k∈p.i.ts
 wl:∀k,.l k∈t.ws->.l k∈p.i.ws
 wh:∀b,.h b∈t.ws->(∃i,.h i∈p.i.ws∧G8 m i b)∨(p.wall=true∧b∈bn m)
 th:∀b,.h b∈t.ts->((∃i,.h i∈p.i.ts∧G8 m i b)∨b∉bn m)∧b<h.length
 hp:p.hp=false->t.all=false∧(∀b,.h b∉t.ts)∧∀b,.h b∉t.ws
theorem IR.none{m:List MB}{h:List HB}{p:PI}:IR m h p cO:=⟨fun h=>(by cases h),fun _ h=>(by cases h),fun _ h=>(by cases h),fun _ h=>(by cases h),fun _ h=>(by cases h),fun _=>⟨rfl,fun _ h=>(by cases h),fun _ h=>(by cases h)⟩⟩
section
variable {X:kX} {P:LI1} {A F:Nat->Prop} {m m':List MB} {h h':List HB} {H H':List (PB X.Γ)}
structure vw(X:kX)(P:LI1)(A:Nat->Prop)(m:List MB)(ps:aU X.Γ)(ts:St):Prop where
 heap:HR X P A m ps.heap ts.heap
 llen:ps.loc.length=ts.loc.length
 loc:∀(k:Nat) cs,ps.loc[k]? = some cs->∃cs',ts.loc[k]? = some cs'∧bW X P (AA A m) m ts.heap cs cs'
 env:ku X P (AA A m) m ts.heap ps.env ts.env
theorem vw.step{ps:aU X.Γ}{ts:St}(hR:vw X P A m ps ts){H1:List (PB X.Γ)}{h1:List HB}(hr:HR X P A m' H1 h1)(hF:Fr m ts.heap m' h1)(hU:Up m m'):vw X P A m' { ps with heap:=H1 } { ts with heap:=h1 }:=
 ⟨hr,hR.llen,fun k cs hk=>let ⟨cs',g1,g2⟩:=hR.loc k cs hk;⟨cs',g1,g2.step hF hU⟩,hR.env.step hF hU⟩
def OpR(X:kX)(P:LI1)(A:Nat->Prop)(m:List MB)(call:aZ)(site:Nat->Bool)(ts:St)(o:Oper)(pe:PE X.Γ)(ps1:aU X.Γ)(pi:PI):Prop:=
 ∃ev iL ti m1,pF P call site ts o=some (ev,iL,ti)∧iL.env=ts.env∧iL.ws=ts.ws∧vw X P A m1 ps1 iL∧IW X P (AA A m1) m1 iL.heap pe ev∧Fr m ts.heap m1 iL.heap∧Up m m1∧IR m ts.heap pi ti∧∀b,.h b∈ti.ws->b∈bn m
theorem uK{call:aZ}{site:Nat->Bool}{ps:aU X.Γ}{ts:St}{o:Oper}{pe:PE X.Γ}{ev:EV}{pi:PI}(hR:vw X P A m ps ts)(h:pF P call site ts o=some (ev,ts,cO))(hp:IW X P (AA A m) m ts.heap pe ev):OpR X P A m call site ts o pe ps pi:=
 ⟨ev,ts,cO,m,h,rfl,rfl,hR,hp,.refl,.refl,.none,fun b hb=>by cases hb⟩
theorem vw.BU{ps:aU X.Γ}{ts:St}(hR:vw X P A m ps ts){x:Operand}{b:Bool}(hb:qP ts.env x=some (.bool b)):vw X P A m (ps.BU x b) ts:=by
 cases x with
 |tmp t=>
  refine⟨hR.heap,hR.llen,hR.loc,aa8 hR.env ?_⟩;simp only[qP,IK]at hb;split at hb
  .rename_i v hv;cases hb;exact hv
  cases hb
 |_=>exact hR
theorem Sr{ps:aU X.Γ}{ts:St}(hR:vw X P A m ps ts){site:Bool}{cs:List (PV X.Γ)}{cs':List TV}(hc:bW X P (AA A m) m ts.heap cs cs') :
  ∃m1,(qQ site ts cs').2.env=ts.env∧(qQ site ts cs').2.ws=ts.ws∧vw X P A m1 (Ec site ps cs).2 (qQ site ts cs').2∧IW X P (AA A m1) m1 (qQ site ts cs').2.heap (Ec site ps cs).1 (qQ site ts cs').1∧Fr m ts.heap m1 (qQ site ts cs').2.heap∧Up m m1:=by
 cases site with
 |true=>
  have hp:=hR.heap.push (pb:=.cells cs) (hb:=.cells .own cs') (mb:=.gG ts.heap.length) (.inl rfl) ?_
  .refine⟨m++[.gG ts.heap.length],rfl,rfl,hR.step hp.1 hp.2.1 hp.2.2,?_,hp.2.1,hp.2.2⟩;show VR X P _ _ _ (.ptr ps.heap.length 0 cs.length) (.ptr ts.heap.length 0 cs'.length);rw[hc.1];exact .ptr (by rw[<-hR.heap.len];simp)
  .refine⟨cs',by simp,hc.step ?_ (wZ _)⟩;refine⟨by simp,fun b hb _=>by rw[a0m hb],fun b hb=>?_,fun b cs hc=>⟨cs,by rw[fZ (a0m (fU hc)),hc],a0K _⟩⟩;rw[jh,a3s,kJ]at hb;rcases hb with hb|hb
   .exact .inl hb
   .simp[MB.own]at hb;exact .inr (by omega)
 |false=>
  refine⟨m,rfl,rfl,⟨hR.heap,by simp[Ec,qQ,hR.llen],fun k ds hk=>?_,hR.env⟩,?_,.refl,.refl⟩
  .simp only[Ec,qQ,a2r,a3y]at hk ⊢;rcases a4N k ps.loc.length with hl|hl
   .rw[a0m hl]at hk;obtain⟨ds',g1,g2⟩:=hR.loc k ds hk;exact⟨ds',by rw[a0m (by rw[<-hR.llen];exact hl)];exact g1,g2⟩
   .rw[a0L hl]at hk;have:k-ps.loc.length=0:=by
     rcases abw (k-ps.loc.length)with e|e
     .exact e
     .rw[a4J (by simp;omega)]at hk;cases hk
    rw[this]at hk;simp only[a2S,a07]at hk;subst hk;exact⟨cs',by rw[a0L (by rw[<-hR.llen];exact hl),<-hR.llen,this];rfl,hc⟩
  .exact⟨hR.llen,rfl⟩
theorem iM{i:Nat}{mb:MB}{b:Nat}(h1:m[i]? = some mb)(h2:mb.own=some b):G8 m i b:=⟨mb,h1,h2⟩
theorem ZJ{i b:Nat}(h:G8 m i b):b∈bn m:=let ⟨_,h1,h2⟩:=h;bf h1 h2
theorem IR.rdH{i b:Nat}(h0:G8 m i b)(hl:b<h.length):IR m h ⟨xP (.h i),false,false,true⟩ (xP (.h b)):=
 ⟨fun h=>(by cases h),fun k hk=>(by simp[xP]at hk),fun k hk=>(by simp[xP]at hk),fun b hb=>(by simp[xP]at hb),fun c hc=>(by simp[xP]at hc;subst hc;exact⟨.inl ⟨i,by simp[xP],h0⟩,hl⟩),fun h=>(by cases h)⟩
theorem IR.wrH{i b:Nat}(h0:G8 m i b)(hl:b<h.length):IR m h ⟨pz (.h i),false,false,true⟩ (pz (.h b)):=
 ⟨fun h=>(by cases h),fun k hk=>(by simp[pz]at hk),fun k hk=>(by simp[pz]at hk),fun c hc=>(by simp[pz]at hc;subst hc;exact .inl ⟨i,by simp[pz],h0⟩),fun c hc=>(by simp[pz]at hc;subst hc;exact⟨.inl ⟨i,by simp[pz],h0⟩,hl⟩),fun h=>(by cases h)⟩
theorem IR.loc{k:Nat}:IR m h ⟨xP (.l k),false,false,false⟩ (xP (.l k)):=
 ⟨fun h=>(by cases h),fun j hj=>by simpa[xP]using hj,fun k hk=>(by simp[xP]at hk),fun b hb=>(by simp[xP]at hb),fun c hc=>(by simp[xP]at hc),fun _=>⟨rfl,fun b hb=>(by simp[xP]at hb),fun b hb=>(by simp[xP]at hb)⟩⟩
theorem IR.aok{k:Nat}:IR m h ⟨pz (.l k),false,false,false⟩ (pz (.l k)):=
 ⟨fun h=>(by cases h),fun j hj=>by simpa[pz]using hj,fun j hj=>by simpa[pz]using hj,fun c hc=>(by simp[pz]at hc),fun c hc=>(by simp[pz]at hc),fun _=>⟨rfl,fun b hb=>(by simp[pz]at hb),fun b hb=>(by simp[pz]at hb)⟩⟩
theorem X6{t:LI2}{cs:List TV}{o sz off n:Nat}{x:TV}(ho:o+sz<=cs.length)(hp:uD P t ((cs.drop o).take sz) off=some x)(hn:dF P t=some n):uD P t cs (o+off)=some x∧off+n<=sz∧o+off+n<=cs.length:=by
 unfold uD at hp ⊢;split at hp
 .rename_i k ha hk;rw[hn]at hk;cases hk;simp only[a09]at hp;obtain⟨r,h1,rfl⟩:=hp;unfold sub at h1;split at h1
  .rename_i hl;rw[a3W,a3U]at hl;refine⟨?_,by omega,by omega⟩;cases h1;simp only[ha,hn,sub];rw[a0A (by omega)];simp only[a0F,a07,TV.agg.injEq];rw[ahC,afR,afQ,a8g (by omega)]
  cases h1
 .rename_i k ha hk;rw[hn]at hk;cases hk;split at hp
  .rename_i h1;subst h1;rw[a4Q]at hp;split at hp
   .rename_i h2;rw[a4O]at hp;have:=(a08.1 hp).1;refine⟨by simp only[ha,hn,a1P];exact hp,by omega,by omega⟩
   cases hp
  cases hp
 cases hp
theorem Sv{t:LI2}{cs:List TV}{off:Nat}{x:TV}(hp:uD P t cs off=some x):∃n,dF P t=some n:=by
 unfold uD at hp;split at hp
 .rename_i n _ hn;exact⟨n,hn⟩
 .rename_i n _ hn;exact⟨n,hn⟩
 cases hp
theorem dZ.row{t sz:Nat}{l:List (X.Γ t)}{cs:List TV}{off j:Nat}{a:X.Γ t}(hw:dZ X P F m h t l cs off sz)(hj:l[j]? = some a):bW X P F m h (X.enc t a) ((cs.drop (off+j*sz)).take sz)∧off+j*sz+sz<=cs.length:=by
 have hlen:=hw.1 j a hj;have aT:j<l.length:=(a08.1 hj).1;have h2:(j+1)*sz<=l.length*sz:=a3P sz aT;have h3:=hw.2.1;rw[a3z]at h2;refine⟨⟨by rw[hlen,a3W,a3U];omega,fun i c v hc hv=>?_⟩,by omega⟩;rw[a4Q]at hv;split at hv
 .rw[a4O]at hv;exact hw.2.2 j a i c v hj hc hv
 cases hv
theorem AQ{t:Nat}{l:List (X.Γ t)}{j:Nat}(hj:j<l.length):l[j]? = some (l.getD j (X.d0 t)):=by rw[a2R,a0d hj];rfl
theorem GK(hX:bT X P){ps:aU X.Γ}{ts:St}(hR:vw X P A m ps ts){t:LI2}{pa:PE X.Γ}{ea:EV}(ha:IW X P (AA A m) m ts.heap pa ea){v:PV X.Γ}{pi:mF}(hl:Az X P t ps pa=some (v,pi)) :
  ∃x ti,loadT P t ts ea=some (x,ti)∧VR X P (AA A m) m ts.heap v x∧IR m ts.heap ⟨pi,false,false,!UF pa⟩ ti∧ti.ws=[]:=by
 cases pa with
 |loc k off=>
  rw[Ee ha];simp only[Az]at hl;split at hl
  .rename_i cs hk;simp only[a09,a0B]at hl;obtain⟨w,h1,rfl,rfl⟩:=hl;obtain⟨cs',g1,g2⟩:=hR.loc k cs hk;obtain⟨x,g3,g4⟩:=AL g2 h1;exact⟨x,xP (.l k),by simp only[loadT,g1,g3,a0F],g4,.loc,rfl⟩
  .cases hl
 |undef|ent|EG=>simp[Az]at hl
 |val a=>
  obtain⟨y,rfl,hy⟩:=gq ha;cases a with
  |ptr b off lim=>
   simp only[Az]at hl;split at hl
   .rename_i cs n hb hn;split at hl
    .rename_i Ls;simp only[a09,a0B]at hl;obtain⟨w,h1,rfl,rfl⟩:=hl;obtain⟨mb,g1,g2⟩:=hR.heap.at_ b _ hb;cases mb with
     |gG c=>
      obtain⟨cs',g3,g4⟩:=g2;cases hy with
      |ptr e=>
       rw[g1]at e;cases e;obtain⟨x,g5,g6⟩:=AL g4 h1;refine⟨x,xP (.h c),?_,g6,.rdH (iM g1 rfl) (a08.1 g3).1,rfl⟩;simp only[loadT,wY g3 (show BK.own≠.last by simp),hn,Ls,a1P,g5,a0F]
      |gone hi e _=>simp only[bC,a07]at hi;subst hi;rw[g1]at e;cases e
     |_=>exact g2.elim
    .cases hl
   .rename_i cs n hb hn;split at hl
    .rename_i Ls;simp only[a09,a0B]at hl;obtain⟨w,h1,rfl,rfl⟩:=hl;obtain⟨mb,g1,g2⟩:=hR.heap.at_ b _ hb;cases mb with
     |jw c=>
      obtain⟨g0,cs',g3,g4⟩:=g2;cases hy with
      |ptr e=>rw[g1]at e;cases e
      |gone hi e _=>
       simp only[bC,a07]at hi;subst hi;rw[g1]at e;cases e with
       |r _ e=>
        simp only[roV,a07]at e;subst e;obtain⟨x,g5,g6⟩:=AL g4 h1;refine⟨x,xP (.h c),?_,g6,⟨fun h=>(by cases h),fun k hk=>(by simp[xP]at hk),fun k hk=>(by simp[xP]at hk),fun b hb=>(by simp[xP]at hb),fun d hd=>?_,fun h=>(by cases h)⟩,rfl⟩
        .simp only[loadT,wY g3 (show BK.own≠.last by simp),hn,Ls,a1P,g5,a0F]
        .simp[xP]at hd;subst hd;exact⟨.inr g0,(a08.1 g3).1⟩
     |_=>exact g2.elim
    .cases hl
   .cases hl
  |row b j off=>
   simp only[Az]at hl;split at hl
   .rename_i k ex e l hb;simp only[a09,a0B]at hl;obtain⟨w,h1,rfl,rfl⟩:=hl;obtain⟨mb,g1,g2⟩:=hR.heap.at_ b _ hb;cases mb with
    |dJ z=>
     cases hy with
     |row e' hj hq=>
      rw[g1]at e';cases e';cases(g2:LR X P _ _ _ _ _ _ _ _)with
      |emp=>omega
      |some q1 q2 q3 q4 q5 q6 q7 q8 q9=>
       have wU:=q9.row (AQ hj);obtain⟨x,g5,g6⟩:=AL wU.1 h1;obtain⟨n,hn⟩:=Sv g5;obtain⟨g7,g8,_⟩:=X6 wU.2 g5 hn;rw[a3T]at g7;refine⟨x,xP (.h _),?_,g6,.rdH (iM g1 (by simp only[MB.own];rw[a0y (by simpa using q1)])) (a08.1 q4).1,rfl⟩;have sF:=wU.2;simp only[loadT,wX q4 q8.symm,hn];rw[a0A (by omega),g7];rfl
     |gone hi e' _=>simp only[bC,a07]at hi;subst hi;rw[g1]at e';cases e'
    |_=>exact g2.elim
   .cases hl
  |el e a off=>
   simp only[Az,a09,a0B]at hl;obtain⟨w,h1,rfl,rfl⟩:=hl;cases hy with
   |el q1 q2 q2' q3 q4 q5 q6=>
    rename_i b o sz lim cs;have wU:bW X P (AA A m) m ts.heap (X.enc e a) ((cs.drop o).take sz):=by
     refine⟨by rw[q4,a3W,a3U];omega,fun i c v hc hv=>?_⟩;rw[a4Q]at hv;split at hv
     .rw[a4O]at hv;exact q6 i c v hc hv
     .cases hv
    obtain⟨x,g5,g6⟩:=AL wU h1;obtain⟨n,hn⟩:=Sv g5;obtain⟨g7,g8,_⟩:=X6 q3 g5 hn;refine⟨x,xP (.h b),?_,g6,⟨fun h=>(by cases h),fun k hk=>(by simp[xP]at hk),fun k hk=>(by simp[xP]at hk),fun b hb=>(by simp[xP]at hb),fun c hc=>?_,fun h=>(by cases h)⟩,rfl⟩
    .simp only[loadT,q2,hn];rw[a0A (by omega),g7];rfl
    .simp[xP]at hc;subst hc;exact⟨.inr q1.2,a3r q2⟩
   |gone hi e' _=>simp[bC]at hi
  |_=>simp[Az]at hl
end
open Go Tw
section
variable {X:kX} {P:LI1} {A F:Nat->Prop} {m m':List MB} {h h':List HB} {H H':List (PB X.Γ)}
theorem OH{cs new:List TV}{o sz off:Nat}{r:List TV}(ho:o+sz<=cs.length)(hr:wF ((cs.drop o).take sz) off new=some r):wF cs (o+off) new=some (cs.take o++r++cs.drop (o+sz))∧r.length=sz:=by
 unfold wF at hr ⊢;split at hr
 rotate_left
 .cases hr
 rename_i hl;have qN:=hl;rw[a3W,a3U]at hl;cases hr;refine⟨?_,?_⟩
 .rw[a0A (by omega)];simp only[a07];apply aa6;intro i;simp only[List.getElem?_append,a1w,a3W,a3U,a4Q,a4O];rcases a4N i o with h1|h1
  .simp (disch:=omega) only [a8g,a0A]
  rcases a4N i (o+off)with h2|h2
  .rw[a0A (by omega),a0A (by omega),a0A (by omega),a0A (by omega),a0y (by omega),a0A (by omega),a0A (by omega),a0A (by omega),a0A (by omega)];congr 1;omega
  rcases a4N i (o+off+new.length)with h3|h3
  .rw[a0A (by omega),a0y (by omega),a0A (by omega),a0y (by omega),a0A (by omega),a0y (by omega)];congr 1;omega
  rcases a4N i (o+sz)with h4|h4
  .rw[a0y (by omega),a0A (by omega),a0y (by omega),a0y (by omega),a0A (by omega)];congr 1;omega
  rw[a0y (by omega),a0y (by omega)];congr 1;omega
 simp only[a1w,a3W,a3U];omega
theorem dZ.set{t sz j:Nat}{l:List (X.Γ t)}{cs r:List TV}{a:X.Γ t}(hw:dZ X P F m h t l cs 0 sz)(hr:bW X P F m h (X.enc t a) r)(hl:r.length=sz)(hj:j<l.length) :
  dZ X P F m h t (l.set j a) (cs.take (j*sz)++r++cs.drop (j*sz+sz)) 0 sz:=by
 have h2:(j+1)*sz<=l.length*sz:=a3P sz hj;rw[a3z]at h2;have h3:=hw.2.1;refine⟨fun k y hy=>?_,?_,fun k y i c v hy hi hx=>?_⟩
 .rw[aa5]at hy;split at hy
  .cases hy;rw[hr.1,hl]
  .exact hw.1 k y hy
 .simp only[a1w,a3W,a3U,a4S];omega
 .rw[aa5]at hy;split at hy
  .rename_i e;subst e;cases hy;have aT:i<sz:=by rw[<-hl,<-hr.1];exact(a08.1 hi).1
   refine hr.2 i c v hi ?_;rw[a0m (by simp only[a1w,a3W];omega),a0L (by rw[a3W];omega),a3W]at hx;rw[<-hx];congr 1;omega
  .rename_i e;have hlen:=hw.1 k y hy;have aT:i<sz:=by rw[<-hlen];exact(a08.1 hi).1
   have hk:k<l.length:=(a08.1 hy).1;refine hw.2.2 k y i c v hy hi ?_;rw[<-hx];rcases a4N k j with h4|h4
   .have:(k+1)*sz<=j*sz:=a3P sz h4;rw[a3z]at this;rw[a0m (by simp only[a1w,a3W];omega),a0m (by rw[a3W];omega),a4Q,a0A (by omega)]
   .have h5:j+1<=k:=(by omega);have:(j+1)*sz<=k*sz:=a3P sz h5;rw[a3z]at this;rw[a0L (by simp only[a1w,a3W];omega),a4O];congr 1;simp only[a1w,a3W];omega
theorem KO{b:Nat}{pb:PB X.Γ}:∀{is:List Nat} {H:List (PB X.Γ)},is.contains b=false->bg is (H.set b pb)=(bg is H).set b pb
 | [],_,_=>rfl
 |i::is,H,hn=>by simp only[ahG,a9S,ahA,ne_eq]at hn;simp only[bg,WX];rw[List.set_comm _ _ hn.1,KO hn.2]
theorem zf(hX:bT X P){ps ps1:aU X.Γ}{ts:St}(hR:vw X P A m ps ts){t:LI2}{pa:PE X.Γ}{ea:EV}(ha:IW X P (AA A m) m ts.heap pa ea){v:PV X.Γ}{x:TV}(hv:VR X P (AA A m) m ts.heap v x){pi:mF}(hl:Uz X P t ps pa v=some (ps1,pi)) :
  ∃iL ti m1,storeT P t ts ea x=some (iL,ti)∧iL.env=ts.env∧iL.ws=ts.ws∧vw X P A m1 ps1 iL∧Fr m ts.heap m1 iL.heap∧Up m m1∧IR m ts.heap ⟨pi,false,false,!UF pa⟩ ti∧∀b,.h b∈ti.ws->b∈bn m:=by
 have hc:=Hy hv;unfold Uz at hl;split at hl
 .rename_i n hn;split at hl
  .rename_i O7;have aa9:x.cells.length=n∧x.cells.all jc=true:=⟨by rw[<-hc.1];exact O7.1,by rw[Ed hc];exact O7.2⟩;cases pa with
   |loc k off=>
    rw[Ee ha];simp only at hl;split at hl
    .rename_i cs hk;simp only[a09,a0B]at hl;obtain⟨Sz,h1,rfl,rfl⟩:=hl;obtain⟨cs',g1,g2⟩:=hR.loc k cs hk;obtain⟨Jm,g3,g4⟩:=Hz g2 hc h1;refine⟨{ ts with loc:=ts.loc.set k Jm },pz (.l k),m,?_,rfl,rfl,⟨hR.heap,by simp[hR.llen],fun j ds hj=>?_,hR.env⟩,.refl,.refl,.aok,fun b hb=>by simp[pz]at hb⟩
     .simp only[storeT,hn,aa9,acF,a1P,g1,g3,a0F]
     .by_cases e:k=j
      .subst e;rw[a4P]at hj;rw[hk]at hj;cases hj;exact⟨Jm,by rw[a4P,g1];rfl,g4⟩
      .rw[a0R e]at hj;obtain⟨ds',q1,q2⟩:=hR.loc j ds hj;exact⟨ds',by rw[a0R e];exact q1,q2⟩
    .cases hl
   |undef|ent|EG=>simp at hl
   |val a=>
    obtain⟨y,rfl,hy⟩:=gq ha;cases a with
    |ptr b off lim=>
     simp only at hl;split at hl
     .rename_i Ls;split at hl
      .rename_i cs hb;simp only[a09,a0B]at hl;obtain⟨Sz,h1,rfl,rfl⟩:=hl;obtain⟨mb,g1,g2⟩:=hR.heap.at_ b _ hb;cases mb with
       |gG c=>
        obtain⟨cs',g3,g4⟩:=g2;cases hy with
        |ptr e=>
         rw[g1]at e;cases e;obtain⟨Jm,g5,g6⟩:=Hz g4 hc h1;have hlen:Jm.length=cs'.length:=by
          unfold wF at g5;split at g5
          .cases g5;simp only[a1w,a3W,a3U];omega
          .cases g5
         have aT:=(a08.1 g3).1;obtain⟨hr1,hF⟩:=hR.heap.set (pb:=.cells Sz) (hb:=.cells .own Jm) g1 (c:=c) rfl (fun X7 X8=>⟨Jm,by simp[aW,aT],by
          simp only[aW,g3,a07]at X8;subst X8;omega⟩) fun hF=>⟨Jm,by simp[aT],g6.step hF .refl⟩
         refine⟨{ ts with heap:=ts.heap.set c (.cells .own Jm) },pz (.h c),m,?_,rfl,rfl,hR.step hr1 hF .refl,hF,.refl,.wrH (iM g1 rfl) aT,fun b hb=>?_⟩
         .simp only[storeT,hn,aa9,acF,a1P,Ls,X3 g3,g5,a0F]
         .simp[pz]at hb;subst hb;exact bf g1 rfl
        |gone hi e _=>simp only[bC,a07]at hi;subst hi;rw[g1]at e;cases e
       |_=>exact g2.elim
      .cases hl
     .cases hl
    |row b j off=>
     simp only at hl;split at hl
     .rename_i k0 ex e l hb;split at hl
      .rename_i Sz h1;split at hl
       .rename_i a is hd;split at hl
        .cases hl
        .rename_i hnb;simp only[a07,a0B]at hl;obtain⟨rfl,rfl⟩:=hl;obtain⟨mb,g1,g2⟩:=hR.heap.at_ b _ hb;cases mb with
         |dJ z=>
          cases hy with
          |row e' hj hq=>
           rw[g1]at e';cases e';cases(g2:LR X P _ _ _ _ _ _ _ _)with
           |emp=>omega
           |some q1 q2 q3 q4 q5 q6 q7 q8 q9=>
            rename_i c sz xx kk cs;obtain⟨BD,yt,hkr,hko⟩:=Jk q5;have uM:(MB.dJ (TV.aQ c 0 l.length l.length sz xx)).own=some c:=by simp only[MB.own];rw[a0y (by simpa using q1)]
            have wU:=q9.row (AQ hj);simp only[a3T]at wU;obtain⟨r,g3,g4⟩:=Hz wU.1 hc h1;obtain⟨g5,g6⟩:=OH wU.2 g3;have aol:=a1u (m':=dh is m) hX hR.heap g4 hd;have hgo:=hR.heap.bg is;have QE:=iI (h:=ts.heap) is m;have aiL:is.contains b=false:=(by simpa using hnb);have hm1:(dh is m)[b]? = some (.dJ (.aQ c 0 l.length l.length sz xx)):=by rw[Hu is g1,aiL];rfl
            have aT:=(a08.1 q4).1;have Rh:(cs.take (j*sz)++r++cs.drop (j*sz+sz)).length=cs.length:=by simp only[a1w,a3W,a3U];omega
            obtain⟨hr1,hF⟩:=hgo.set (pb:=.list k0 ex e (l.set j a)) (hb:=.cells BD (cs.take (j*sz)++r++cs.drop (j*sz+sz))) hm1 uM (fun X7 X8=>⟨cs.take (j*sz)++r++cs.drop (j*sz+sz),by simp[aW,aT],by
             simp only[aW,q4,a07]at X8;subst X8;omega⟩) fun hF=>by
              have hw:=(q9.step QE.1 QE.2).set (aol.mono fun b hb=>hb.gone hR.heap) g6 hj;have:=LR.some (X:=X) (P:=P) (A:=AA A (dh is m)) (m:=dh is m) (h:=ts.heap.set c (.cells BD (cs.take (j*sz)++r++cs.drop (j*sz+sz)))) (k:=k0) (ex:=ex) (t:=e) (l:=l.set j a) (b:=c) (sz:=sz) (e:=xx) (kk:=BD) (cs:=cs.take (j*sz)++r++cs.drop (j*sz+sz))
               (by intro e0;apply q1;have:=congrArg List.length e0;rw[a4S]at this;exact a6C.1 this) q2 q3 (by simp[aT]) hkr (fun e0=>hko (q6 e0)) q7 (by rw[Rh,a4S];exact q8) (hw.step hF .refl)
              rw[a4S]at this;exact this
            rw[<-KO aiL]at hr1;have WM:=QE.1.trans hF;refine⟨{ ts with heap:=ts.heap.set c (.cells BD (cs.take (j*sz)++r++cs.drop (j*sz+sz))) },pz (.h c),dh is m,?_,rfl,rfl,hR.step hr1 WM QE.2,WM,QE.2,.wrH (iM g1 uM) aT,fun b hb=>?_⟩
            .have h9:j*sz+off+n<=l.length*sz:=by
              have h8:=wU.2;unfold wF at g3;split at g3
              .rename_i h0;rw[a3W,a3U,aa9.1]at h0;omega
              .cases g3
             simp only[storeT,hn,aa9,acF,a1P,h9,a1p q4 yt q8.symm,g5,a0F]
            .simp[pz]at hb;subst hb;exact bf g1 uM
          |gone hi e' _=>simp only[bC,a07]at hi;subst hi;rw[g1]at e';cases e'
         |_=>exact g2.elim
       .cases hl
      .cases hl
     .cases hl
    |_=>simp at hl
  .cases hl
 .cases hl
end
open Go Tw
section
variable {X:kX} {P:LI1} {A F:Nat->Prop} {m m':List MB} {h h':List HB} {H H':List (PB X.Γ)}
theorem nY{v:PV X.Γ}{x:TV}(hv:VR X P A m h v x):IW X P A m h (.val v) (.val x):=hv
theorem NZ{ps:aU X.Γ}{ts:St}(hR:vw X P A m ps ts){o:Nat}{pa pb:PE X.Γ}{ea:EV}(ha:IW X P (AA A m) m ts.heap pa ea)(hl:Hq X ps o pa=some pb):∃eb,Qu o ea=some eb∧IW X P (AA A m) m ts.heap pb eb:=by
 cases pa with
 |loc k off=>
  rw[Ee ha];simp only[Hq,a07]at hl;subst hl;exact⟨.loc k (off+o),rfl,rfl,rfl⟩
 |undef|ent|EG=>simp[Hq]at hl
 |val a=>
  obtain⟨y,rfl,hy⟩:=gq ha;cases a with
  |ptr b off lim=>
   simp only[Hq]at hl;split at hl
   .rename_i cs hb;split at hl
    .rename_i hle;cases hl;obtain⟨mb,g1,g2⟩:=hR.heap.at_ b _ hb;cases mb with
     |gG c=>
      cases hy with
      |ptr e=>exact⟨.val (.ptr _ (off+o) lim),by simp only[Qu,hle,a1P],VR.ptr e⟩
      |gone hi e q=>simp only[bC,a07]at hi;subst hi;rw[g1]at e;cases e
     |_=>exact g2.elim
    cases hl
   .rename_i cs hb;split at hl
    .rename_i hle;cases hl;obtain⟨mb,g1,g2⟩:=hR.heap.at_ b _ hb;cases mb with
     |jw c=>
      cases hy with
      |ptr e=>rw[g1]at e;cases e
      |gone hi e q=>
       simp only[bC,a07]at hi;subst hi;rw[g1]at e;cases e with
       |r _ e=>simp only[roV,a07]at e;subst e;exact⟨.val (.ptr _ (off+o) lim),by simp only[Qu,hle,a1P],VR.gone rfl (.ofR g1 rfl) rfl⟩
     |_=>exact g2.elim
    cases hl
   cases hl
  |el t a off=>
   simp only[Hq]at hl;split at hl
   .rename_i hle;cases hl;cases hy with
    |el q1 q2 q2' q3 q4 q5 q6=>
     rename_i b o0 sz lim cs;rw[q4]at hle;refine⟨.val (.ptr b (o0+off+o) lim),by simp only[Qu];rw[a0A (by omega)],?_⟩;rw[aag];exact VR.el q1 q2 q2' q3 q4 hle q6
    |gone hi _ _=>simp[bC]at hi
   cases hl
  |row b j off=>
   simp only[Hq,aiy]at hl;split at hl
   rotate_left
   .cases hl
   rename_i n hn;split at hn
   rotate_left
   .cases hn
   rename_i k ex e l hb;cases hn;split at hl
   .rename_i hle;cases hl;obtain⟨mb,g1,g2⟩:=hR.heap.at_ b _ hb;cases mb with
    |dJ z=>
     cases hy with
     |row e' hj hq=>
      rw[g1]at e';cases e';cases(g2:LR X P _ _ _ _ _ _ _ _)with
      |emp=>omega
      |some q1 q2 q3 q4 q5 q6 q7 q8 q9=>
       rw[q9.1 j _ (AQ hj)]at hle;have wU:=(q9.row (AQ hj)).2;refine⟨.val (.ptr _ (j*_+off+o) (l.length*_)),by simp only[Qu];rw[a0A (by omega)],?_⟩;rw[aag];exact VR.row g1 hj hle
     |gone hi e' _=>simp only[bC,a07]at hi;subst hi;rw[g1]at e';cases e'
    |_=>exact g2.elim
   cases hl
  |_=>simp[Hq]at hl
theorem aad{ps:aU X.Γ}{ts:St}(hR:vw X P A m ps ts){b:Nat}{k ex:Bool}{e:Nat}{l:List (X.Γ e)}(hb:ps.heap[b]? = some (.list k ex e l)){y:TV}(hy:VR X P (AA A m) m ts.heap (.own b) y)(hl:l≠[]) :
  ∃c sz x,y=.aQ c 0 l.length l.length sz x∧m[b]? = some (.dJ y)∧dF P e=some sz∧0<sz:=by
 obtain⟨mb,g1,g2⟩:=hR.heap.at_ b _ hb;cases mb with
 |dJ z=>
  cases hy with
  |own e' o=>
   rw[g1]at e';cases e';cases(g2:LR X P _ _ _ _ _ _ _ _)with
   |nil=>exact absurd rfl hl
   |emp=>exact absurd rfl hl
   |some q1 q2 q3=>exact⟨_,_,_,rfl,g1,q2,q3⟩
  |gone hi e' _=>simp only[bC,a07]at hi;subst hi;rw[g1]at e';cases e'
 |_=>exact g2.elim
theorem Ag{ps:aU X.Γ}{ts:St}(hR:vw X P A m ps ts){t:LI2}{px pb:PE X.Γ}{ex:EV}(hx:IW X P (AA A m) m ts.heap px ex){i:PV X.Γ}{ti:TV}(hi:VR X P (AA A m) m ts.heap i ti){qs:List Prop}(hl:FY X P t ps px i=some (pb,qs))(hq:∀q∈qs,q) :
  ∃eb,mJ P t ex ti=some eb∧IW X P (AA A m) m ts.heap pb eb:=by
 have Um:∀{k:IntKind} {iv:Int} {n:Nat},fK iv n->idx n (.int k iv)=some iv.toNat∧iv.toNat<n:=by intro k iv n hn;unfold fK at hn;refine⟨by simp only[idx];rw[a0A hn],by omega⟩
 have hpi:∀{n j:Nat},a3n X n i=some j->idx n ti=some j:=by
  intro n j hj;cases i<;>simp only[a3n]at hj<;>try (cases hj;done)
  cases hi with
  |int=>exact hj
  |gone e _ _=>simp[bC]at e
 unfold FY at hl;split at hl
 .rename_i e hu;split at hl
  .rename_i n t' l fu k iv hn;split at hl
   .rename_i ht;subst ht;simp only[a07,a0B]at hl;obtain⟨rfl,rfl⟩:=hl;have hr:=Um (k:=k) (hq _ a2Z);have:ti=.int k iv:=by
     cases hi with
     |int=>rfl
     |gone e _ _=>simp[bC]at e
    subst this;obtain⟨y,rfl,hy⟩:=gq hx;rcases a1v hy hn with⟨rfl,rfl⟩|⟨b,off,cap,ex',cs,rfl,hk,hc,KG,hw⟩
    .have:=hr.2;simp at this
    .have wU:=hw.row (AQ hr.2);have hA:AA A m b:=by
      cases hy with
      |dJ a=>exact a
      |gone e _ _=>simp[bC]at e
     have O7:=KG (by intro e0;rw[e0]at hr;have:=hr.2;simp at this);have hle:off+iv.toNat*n+n<=off+cap*n:=by have h1:(iv.toNat+1)*n<=cap*n:=a3P n (by have:=hr.2;omega);rw[a3z,abr]at h1;omega
     refine⟨.val (.ptr b (off+iv.toNat*n) (off+cap*n)),?_,?_⟩
     .simp only[mJ,hu,hn,a1P,hr.1,a0F]
     .have:=VR.el (X:=X) (P:=P) (A:=AA A m) (m:=m) (h:=ts.heap) (t:=t') (a:=l.getD iv.toNat (X.d0 t')) (off:=0) (o:=off+iv.toNat*n) hA O7 hle wU.2 (hw.1 _ _ (AQ hr.2)) (a5m _) (fun i c v h1 h2=>hw.2.2 _ _ i c v (AQ hr.2) h1 h2);exact nY (by simpa using this)
   .cases hl
  .rename_i n b k iv hn;split at hl
   .rename_i w ex' t' l hb;split at hl
    .rename_i ht;subst ht;simp only[a07,a0B]at hl;obtain⟨rfl,rfl⟩:=hl;have hr:=Um (k:=k) (hq _ a2Z);have:ti=.int k iv:=by
      cases hi with
      |int=>rfl
      |gone e _ _=>simp[bC]at e
     subst this;obtain⟨y,rfl,hy⟩:=gq hx;obtain⟨c,sz,x',rfl,g1,g2,g3⟩:=aad hR hb hy (by intro e0;rw[e0]at hr;have:=hr.2;simp at this);rw[hn]at g2;cases g2;refine⟨.val (.ptr c (iv.toNat*n) (l.length*n)),?_,?_⟩
     .simp only[mJ,hu,hn,a1P,hr.1,a0F,a3T]
     .have:=VR.row (X:=X) (P:=P) (A:=AA A m) (m:=m) (h:=ts.heap) (off:=0) g1 hr.2 (a5m n);exact nY (by simpa using this)
    .cases hl
   .cases hl
  .rename_i n b o q k iv hn;split at hl
   .rename_i w ex' t' l hb;split at hl
    .rename_i ht;subst ht;simp only[a07,a0B]at hl;obtain⟨rfl,rfl⟩:=hl;have hr:=Um (k:=k) (hq _ a2Z);have:ti=.int k iv:=by
      cases hi with
      |int=>rfl
      |gone e _ _=>simp[bC]at e
     subst this;obtain⟨y,rfl,hy⟩:=gq hx;obtain⟨mb,g1,g2⟩:=hR.heap.at_ b _ hb;cases mb with
     |dJ z=>
      cases hy with
      |win e' w1 w2 w3=>
       rw[g1]at e';cases e';cases(g2:LR X P _ _ _ _ _ _ _ _)with
       |emp=>have:=hr.2;omega
       |some q1 q2 q3=>
        rw[hn]at q2;cases q2;have hp:=nY (VR.row (X:=X) (P:=P) (A:=AA A m) (m:=m) (h:=ts.heap) (j:=o+iv.toNat) (off:=0) g1 (by have:=hr.2;omega) (a5m n));refine⟨_,?_,hp⟩;have h3:=w3.resolve_left (by have:=hr.2;omega);simp only[mJ,hu,hn,a1P,hr.1,a0F,a3T,a3z,ae8,<-h3]
      |BX e'=>have:=hr.2;omega
      |gone hi e' _=>simp only[bC,a07]at hi;subst hi;rw[g1]at e';cases e'
     |_=>exact g2.elim
    .cases hl
   .cases hl
  .rename_i n b off len cap sz ex' hn;split at hl
   .rename_i cs hb;split at hl
    .rename_i vI;subst vI;simp only[a09,a0B]at hl;obtain⟨j,h1,rfl,rfl⟩:=hl;obtain⟨y,rfl,hy⟩:=gq hx;obtain⟨mb,g1,g2⟩:=hR.heap.at_ b _ hb;cases mb with
     |gG c=>
      cases hy with
      |aQ e=>
       have:=hpi h1;rw[g1]at e;cases e;exact⟨.val (.ptr c (off+j*n) (off+cap*n)),by simp only[mJ,hu,hn,a1P,this,a0F],VR.ptr g1⟩
      |gone xR e' _=>simp only[bC,a07]at xR;subst xR;rw[g1]at e';cases e'
     |_=>exact g2.elim
    .cases hl
   .cases hl
  .cases hl
 .rename_i len e hu;split at hl
  .rename_i n hn;split at hl
   .rename_i j hj;simp only[a09,a0B]at hl;obtain⟨pa,h1,rfl,rfl⟩:=hl;obtain⟨eb,g1,g2⟩:=NZ hR hx h1;exact⟨eb,by simp only[mJ,hu,hn,hpi hj,g1],g2⟩
   .cases hl
  .cases hl
 .cases hl
end
open Go Tw
section
variable {X:kX} {P:LI1} {A F:Nat->Prop} {m m':List MB} {h h':List HB} {H H':List (PB X.Γ)}
theorem Z5(hr:HR X P A m H h){at_:Array LI2}{x:PV X.Γ}{tx:TV}(hx:VR X P (AA A m) m h x tx){v:PV X.Γ}{pi:mF}(hl:aeH X P at_ H x=some (v,pi)) :
  ∃w ti,YO P at_ h tx=some (w,ti)∧VR X P (AA A m) m h v w∧IR m h ⟨pi,false,false,true⟩ ti∧ti.ws=[]:=by
 unfold aeH at hl;split at hl
 .rename_i t ht;unfold YO;simp only[ht];split at hl
  .rename_i s hu;cases hl;cases hx with
   |str=>exact⟨_,_,by first|(simp only[hu];done)|(simp only[hu];rfl),.int _ _,.none,rfl⟩
   |gone hi _ _=>simp[bC]at hi
  .rename_i n e _ hu;cases hl;exact⟨_,_,by first|(simp only[hu];done)|(simp only[hu];rfl),.int _ _,.none,rfl⟩
  .rename_i e b off len cap sz ex hu;split at hl
   .rename_i cs hb;cases hl;obtain⟨mb,g1,g2⟩:=hr.at_ b _ hb;cases mb with
    |gG c=>
     cases hx with
     |aQ e'=>exact⟨_,_,by first|(simp only[hu];done)|(simp only[hu];rfl),.int _ _,.none,rfl⟩
     |gone hi e' _=>simp only[bC,a07]at hi;subst hi;rw[g1]at e';cases e'
    |_=>exact g2.elim
   .cases hl
  .rename_i e hu;cases hl;cases hx with
   |nil=>exact⟨_,_,by first|(simp only[hu];done)|(simp only[hu];rfl),.int _ _,.none,rfl⟩
   |gone hi _ _=>simp[bC]at hi
  .rename_i e t' l fu hu;cases hl;cases hx with
   |pJ=>exact⟨_,_,by first|(simp only[hu];done)|(simp only[hu];rfl),.int _ _,.none,rfl⟩
   |dJ=>exact⟨_,_,by first|(simp only[hu];done)|(simp only[hu];rfl),.int _ _,.none,rfl⟩
   |gone hi _ _=>simp[bC]at hi
  .rename_i e b hu;split at hl
   .rename_i k ex t' l hb;cases hl;obtain⟨mb,g1,g2⟩:=hr.at_ b _ hb;cases mb with
    |dJ z=>
     cases hx with
     |own e' _=>
      rw[g1]at e';cases e';cases(g2:LR X P _ _ _ _ _ _ _ _)with
      |nil=>exact⟨_,_,by first|(simp only[hu];done)|(simp only[hu];rfl),.int _ _,.none,rfl⟩
      |emp=>exact⟨_,_,by first|(simp only[hu];done)|(simp only[hu];rfl),.int _ _,.none,rfl⟩
      |some=>exact⟨_,_,by first|(simp only[hu];done)|(simp only[hu];rfl),.int _ _,.none,rfl⟩
     |gone hi e' _=>simp only[bC,a07]at hi;subst hi;rw[g1]at e';cases e'
    |_=>exact g2.elim
   .cases hl
  .rename_i e b o n hu;split at hl
   .rename_i k ex t' l hb;cases hl;obtain⟨mb,g1,g2⟩:=hr.at_ b _ hb;cases mb with
    |dJ z=>
     cases hx with
     |win=>exact⟨_,_,by first|(simp only[hu];done)|(simp only[hu];rfl),.int _ _,.none,rfl⟩
     |BX=>exact⟨_,_,by first|(simp only[hu];done)|(simp only[hu];rfl),.int _ _,.none,rfl⟩
     |gone hi e' _=>simp only[bC,a07]at hi;subst hi;rw[g1]at e';cases e'
    |_=>exact g2.elim
   .cases hl
  .rename_i kt e hu;cases hl;cases hx with
   |nil=>exact⟨_,_,by first|(simp only[hu];done)|(simp only[hu];rfl),.int _ _,.none,rfl⟩
   |gone hi _ _=>simp[bC]at hi
  .rename_i kt e r hu;split at hl
   .rename_i es hb;cases hl;obtain⟨mb,g1,g2⟩:=hr.at_ r _ hb;cases mb with
    |gG c=>
     obtain⟨gy,g3,g4,g5⟩:=g2;cases hx with
     |map e'=>
      rw[g1]at e';cases e';exact⟨_,_,by first|(simp only[hu,g3];done)|(simp only[hu,g3];rfl),by rw[g4];exact .int _ _,.rdH (iM g1 rfl) (a08.1 g3).1,rfl⟩
     |gone hi e' _=>simp only[bC,a07]at hi;subst hi;rw[g1]at e';cases e'
    |_=>exact g2.elim
   .cases hl
  .cases hl
 .cases hl
def a6y:BinOp->Option TV
 |.eql=>some (.bool false)
 |.neq=>some (.bool true)
 |_=>none
theorem YZ{op:BinOp}{t:LI2}{x y:Operand}{a b:PV X.Γ}{ta tb:TV}(ha:VR X P A m h a ta)(hb:VR X P A m h b tb){v:PV X.Γ}(hl:aeI X P op t x y a b=some v):∃w,sQ P op t x y ta tb=some w∧VR X P A m h v w:=by
 unfold aeI at hl;split at hl
 .rename_i u w h1 h2;split at hl
  .rename_i r hr;rw[jR ha h1,jR hb h2];exact⟨r,hr,xg hl⟩
  cases hl
 rename_i YI;split at hl
 rotate_left
 .cases hl
 rename_i hn;have key:∃k,KC P t=some k∧((ta=.nil k∧KA tb=some k∧tb.yL=none)∨(tb=.nil k∧KA ta=some k∧ta.yL=none)):=by
  unfold a1m at hn;split at hn
  rotate_left
  .cases hn
  rename_i k hk;refine⟨k,hk,?_⟩;simp only[a9z,a1R,a7h]at hn;have aiM:∀{z:PV X.Γ} {tz:TV},VR X P A m h z tz->z=.nil k->tz=.nil k:=by
   intro z tz hz e;subst e;cases hz with
   |nil=>rfl
   |gone hi _ _=>simp[bC]at hi
  have acB:∀{z:PV X.Γ} {tz:TV},VR X P A m h z tz->(match z with|.fn _ _ _=>some NK.fn|.el _ _ _=>some NK.ptr|_=>none)=some k->KA tz=some k∧tz.yL=none:=by
   intro z tz hz e;cases hz with
   |fn=>exact⟨e,rfl⟩
   |el=>exact⟨e,rfl⟩
   |gone hi _ _=>cases z<;>simp[bC]at hi<;>simp at e
   |_=>simp at e
  have aiN:∀{z:PV X.Γ},(match z with|.nil k=>some k|_=>none)=some k->z=.nil k:=by
   intro z e;cases z<;>simp at e
   rw[e]
  rcases hn with⟨h1,h2⟩|⟨h1,h2⟩
  .have:=acB hb h2;exact .inl ⟨aiM ha (aiN h1),this.1,this.2⟩
  have:=acB ha h1;exact .inr ⟨aiM hb (aiN h2),this.1,this.2⟩
 obtain⟨k,hk,hc⟩:=key;have aeQ:sQ P op t x y ta tb=a6y op:=by
  rcases hc with⟨rfl,h2,h3⟩|⟨rfl,h2,h3⟩
  .have hnn:CG P t (.nil k) tb=true:=by unfold CG;rw[hk];simp[YP,h2]
   unfold sQ;rw[h3];cases(TV.nil k).yL<;>simp only[hnn,a1P]<;>cases op<;>rfl
  have hnn:CG P t ta (.nil k)=true:=by unfold CG;rw[hk];simp[YP,h2]
  unfold sQ;rw[h3];simp only[hnn,a1P];cases op<;>rfl
 rw[aeQ];cases op<;>simp only at hl ⊢<;>try (cases hl;done)
 .cases hl;exact⟨_,rfl,.bool _⟩
 cases hl;exact⟨_,rfl,.bool _⟩
theorem OI{op:BinOp}{t:LI2}{x y:Operand}{b:PV X.Γ}{ta tb:TV}(hb:VR X P A m h b tb){v:PV X.Γ}{q q':Prop}(hl:MQ X P op t b q=some (v,q'))(hq:q')(h2:q->KA ta=some .aQ∧ta.yL=none):∃w,sQ P op t x y ta tb=some w∧VR X P A m h v w:=by
 unfold MQ at hl;split at hl
 .rename_i hk;have h1:tb=.nil .aQ:=by
   cases hb with
   |nil=>rfl
   |gone hi _ _=>simp[bC]at hi
  subst h1;have key:q->sQ P op t x y ta (.nil .aQ)=a6y op:=fun hq=>by
   obtain⟨h2,h3⟩:=h2 hq;have hnn:CG P t ta (.nil .aQ)=true:=by unfold CG;rw[hk];simp[YP,h2]
   unfold sQ;rw[h3];simp only[hnn,a1P];cases op<;>rfl
  split at hl
  .cases hl;rw[key hq];exact⟨_,rfl,.bool _⟩
  .cases hl;rw[key hq];exact⟨_,rfl,.bool _⟩
  cases hl
 cases hl
theorem a3t(hr:HR X P A m H h){op:BinOp}{t:LI2}{x y:Operand}{a b:PV X.Γ}{ta tb:TV}(ha:VR X P (AA A m) m h a ta)(hb:VR X P (AA A m) m h b tb){v:PV X.Γ}{q:Prop}(hl:UC X P op t H a b=some (v,q))(hq:q):∃w,sQ P op t x y ta tb=some w∧VR X P (AA A m) m h v w:=by
 unfold UC at hl;split at hl
 .rename_i l fu;refine OI hb hl hq (fun iy=>?_);cases ha with
  |pJ=>exact absurd rfl iy
  |dJ=>exact⟨rfl,rfl⟩
  |gone hi _ _=>simp[bC]at hi
 .rename_i i;split at hl
  .rename_i k ex t' l hi;refine OI hb hl hq (fun iy=>?_);obtain⟨mb,g1,g2⟩:=hr.at_ i _ hi;cases ha with
   |own e o=>
    rw[g1]at e;cases e;cases g2 with
    |nil=>exact absurd rfl iy
    |emp=>exact absurd rfl iy
    |some=>exact⟨rfl,rfl⟩
   |gone hi e _=>simp only[bC,a07]at hi;subst hi;rw[g1]at e;cases e<;>exact g2.elim
  cases hl
 cases hl
theorem iY{op:UnOp}{a:PV X.Γ}{ta:TV}(ha:VR X P A m h a ta){v:PV X.Γ}(hl:pun X P op a=some v):∃w,unT P op ta=some w∧VR X P A m h v w:=by
 unfold pun at hl;split at hl
 .rename_i u h1;split at hl
  .rename_i r hr;rw[jR ha h1];exact⟨r,hr,xg hl⟩
  cases hl
 cases hl
theorem Ud{s d:LI2}{a:PV X.Γ}{ta:TV}(ha:VR X P A m h a ta){v:PV X.Γ}(hl:a6h X P s d a=some v):∃w,QV P s d ta=some w∧VR X P A m h v w:=by
 unfold a6h at hl;split at hl
 .rename_i u h1;split at hl
  .rename_i r hr;rw[jR ha h1];exact⟨r,hr,xg hl⟩
  cases hl
 cases hl
theorem zl{mx:Bool}{at_:Array LI2}{t:LI2}{az:List (PV X.Γ)}{ts:List TV}(ha:bW X P A m h az ts){v:PV X.Γ}(hl:MR X P mx at_ t az=some v):∃w,DY P mx at_ t ts=some w∧VR X P A m h v w:=by
 unfold MR at hl;split at hl
 .rename_i u h1;split at hl
  .rename_i r hr;rw[a1s ha h1];exact⟨r,hr,xg hl⟩
  cases hl
 cases hl
theorem O1{t:LI2}{x:PV X.Γ}{tx:TV}(hx:VR X P A m h x tx){i:Nat}{v:PV X.Γ}(hl:ZA X P t x i=some v):∃w,ND P t tx i=some w∧VR X P A m h v w:=by
 unfold ZA at hl;split at hl
 .rename_i fs cs hu;split at hl
  .rename_i f hf;cases hx with
   |agg h1 h2=>
    obtain⟨w,g1,g2⟩:=AL ⟨h1,h2⟩ hl;exact⟨w,by simp only[ND,hu,hf,g1],g2⟩
   |gone hi _ _=>simp[bC]at hi
  cases hl
 cases hl
theorem O4{t:LI2}{x i:PV X.Γ}{tx ti:TV}(hx:VR X P A m h x tx)(hi:VR X P A m h i ti){v:PV X.Γ}(hl:ZB X P t x i=some v):∃w,IY P t tx ti=some w∧VR X P A m h v w:=by
 unfold ZB at hl;split at hl
 .rename_i len e cs hu;split at hl
  .rename_i n j hn hj;have:idx len ti=some j:=by
    cases i<;>simp only[a3n]at hj<;>try (cases hj;done)
    cases hi with
    |int=>exact hj
    |gone e _ _=>simp[bC]at e
   cases hx with
   |agg h1 h2=>
    obtain⟨w,g1,g2⟩:=AL ⟨h1,h2⟩ hl;exact⟨w,by simp only[IY,hu,hn,this,g1],g2⟩
   |gone hi _ _=>simp[bC]at hi
  cases hl
 cases hl
end
open Go Tw
section
variable {X:kX} {P:LI1} {A F:Nat->Prop} {m m':List MB} {h h':List HB} {H H':List (PB X.Γ)}
theorem I5:∀{is:List Nat} {H:List (PB X.Γ)} {i:Nat} {pb:PB X.Γ},(bg is H)[i]? = some pb->(i∈is∧pb=.gone)∨(i∉is∧H[i]? = some pb)
 | [],_,_,_,h=>.inr ⟨by simp,h⟩
 |j::is,H,i,pb,h=>by
  rcases I5 (is:=is) (H:=WX j H) h with⟨h1,h2⟩|⟨h1,h2⟩
  .exact .inl ⟨a3x _ h1,h2⟩
  unfold WX at h2;by_cases e:j=i
  .subst e;rw[a4P]at h2;cases hx:H[j]? with
   |none=>rw[hx]at h2;cases h2
   |some y=>rw[hx]at h2;cases h2;exact .inl ⟨a2Z,rfl⟩
  rw[a0R e]at h2;exact .inr ⟨by simp[h1,ahr e],h2⟩
theorem lN(hr:HR X P A m H h)(is:List Nat){k ex x:Bool}{e size:Nat}{rows:List (X.Γ e)}{cs:List TV}(hw:dZ X P (FA A m is) (dh is m) h e rows cs 0 size)(hc:cs.length=rows.length*size)(hn:rows≠[])(hz:dF P e=some size)(h0:0<size)(hx:ex=true->x=true) :
  ∃m1,HR X P A m1 (bg is H++[.list k ex e rows]) (h++[.cells .own cs])∧Fr m h m1 (h++[.cells .own cs])∧Up m m1∧VR X P (AA A m1) m1 (h++[.cells .own cs]) (.own H.length) (.aQ h.length 0 rows.length rows.length size x):=by
 have hgo:=hr.bg is;have QE:=iI (h:=h) is m;have uM:(MB.dJ (.aQ h.length 0 rows.length rows.length size x)).own=some h.length:=by simp only[MB.own];rw[a0y (by simpa using hn)]
 have hF:Fr (dh is m) h (dh is m++[.dJ (.aQ h.length 0 rows.length rows.length size x)]) (h++[.cells .own cs]):=by
  refine⟨by simp,fun b hb _=>by rw[a0m hb],fun b hb=>?_,fun b cs hc=>⟨cs,by rw[fZ (a0m (fU hc)),hc],a0K _⟩⟩;rw[jh,a3s,kJ,uM]at hb;rcases hb with hb|hb
  .exact .inl hb
  .simp at hb;exact .inr (by omega)
 obtain⟨h1,h2,h3⟩:=hgo.push (pb:=.list k ex e rows) (hb:=.cells .own cs) (.inl uM)
  (LR.some (kk:=.own) hn hz h0 (by simp) (by simp) (fun _=>rfl) hx hc ((hw.mono fun b hb=>hb.gone hr).step hF (wZ _)))
 refine⟨_,h1,QE.1.trans h2,QE.2.trans h3,.own ?_ rfl⟩;rw[<-hr.len,<-mV is m];simp
theorem SA(hr:HR X P A m H h)(is:List Nat){k ex:Bool}{e:Nat}{y:TV}(hy:(MB.dJ y).own=none)(ho:jc y=true)(hl:LR X P (AA A (dh is m++[.dJ y])) (dh is m++[.dJ y]) h k ex e [] y) :
  ∃m1,HR X P A m1 (bg is H++[.list k ex e []]) h∧Fr m h m1 h∧Up m m1∧VR X P (AA A m1) m1 h (.own H.length) y:=by
 have QE:=iI (h:=h) is m;obtain⟨h1,h2,h3⟩:=(hr.bg is).acA (pb:=.list k ex e []) hy hl;refine⟨_,h1,QE.1.trans h2,QE.2.trans h3,.own ?_ ho⟩;rw[<-hr.len,<-mV is m];simp
theorem aae(hr:HR X P A m H h){is:List Nat}{y:TV}(hy:(MB.dJ y).own=none){b:Nat}(hb:FA A m is b):AA A (dh is m++[.dJ y]) b:=by have:=hb.gone hr;refine⟨this.1,fun hm=>this.2 ?_⟩;rw[jh,a3s,kJ,hy]at hm;simpa using hm
theorem push_empty(hr:HR X P A m H h)(is:List Nat){k ex:Bool}{e size b off:Nat}{cs:List TV}(hz:dF P e=some size)(h0:0<size)(ha:FA A m is b)(hb:aW h b=some cs)(ho:off<=cs.length) :
  ∃m1,HR X P A m1 (bg is H++[.list k ex e []]) h∧Fr m h m1 h∧Up m m1∧VR X P (AA A m1) m1 h (.own H.length) (.aQ b off 0 0 size true):=
 SA hr is rfl rfl (LR.emp (aae hr rfl ha) hb ho hz h0)
theorem OJ(hr:HR X P A m H h)(is:List Nat){k ex:Bool}{e:Nat} :
  ∃m1,HR X P A m1 (bg is H++[.list k ex e []]) h∧Fr m h m1 h∧Up m m1∧VR X P (AA A m1) m1 h (.own H.length) (.nil .aQ):=
 SA hr is rfl rfl .nil
theorem OL(hr:HR X P A m H h){b c:Nat}(is:List Nat){mb MS:MB}{pb:PB X.Γ}{h1:List HB}(hb:m[b]? = some mb)(ho:mb.own=some c)(ho':MS.own=some c)(hlen:h1.length=h.length)(hs:∀d,d≠c->h1[d]? = h[d]?)
  (hg:∀cs,aW h c=some cs->∃cs',aW h1 c=some cs'∧cs.length<=cs'.length)
  (qM:Fr m h (dh (b::is) m++[MS]) h1->Up m (dh (b::is) m++[MS])->BR X P (AA A (dh (b::is) m++[MS])) (dh (b::is) m++[MS]) h1 pb MS) :
  ∃m1,m1=dh (b::is) m++[MS]∧HR X P A m1 (bg (b::is) H++[pb]) h1∧Fr m h m1 h1∧Up m m1∧m1[H.length]? = some MS:=by
 have QE:=iI (h:=h) (b::is) m;have hgo:=hr.bg (b::is);have hnc:c∉bn (dh (b::is) m):=fun hm=>by obtain⟨j,mbj,g1,g2,g3⟩:=AO hm;have:=je hr.nodup hb g2 ho g3;exact g1 (by rw[<-this];exact a2Z)
 have zn:∀d,d∈bn (dh (b::is) m++[MS])↔d∈bn (dh (b::is) m)∨d=c:=by intro d;rw[jh,a3s,kJ,ho'];simp
 have G9:c∈bn m:=bf hb ho;have hF:Fr m h (dh (b::is) m++[MS]) h1:=by
  refine⟨by omega,fun d hd hn=>hs d fun e=>hn (e▸G9),fun d hd=>?_,fun d cs hc=>?_⟩
  .rcases(zn d).1 hd with hd|rfl
   .exact QE.1.new d hd
   .exact .inl G9
  .by_cases e:d=c
   .subst e;exact hg cs hc
   .exact⟨cs,by rw[fZ (hs d e),hc],a0K _⟩
 have hU:Up m (dh (b::is) m++[MS]):=QE.2.trans (wZ _);refine⟨_,rfl,?_,hF,hU,?_⟩
 .refine hr.next hF hU (by simp[mV,nV,hr.len]) ?_ fun i pbi hi=>?_
  .rw[jh,kJ,ho'];refine a9n.2 ⟨hgo.nodup,by simp,fun a ha b' yw e=>?_⟩;simp at yw;subst yw;subst e;exact hnc ha
  .rcases a4N i (bg (b::is) H).length with aT|EW
   .rw[a0m aT]at hi;have a6z:i<(dh (b::is) m).length:=by rw[hgo.len];exact aT
    rcases I5 hi with⟨e1,rfl⟩|⟨e1,e2⟩
    .obtain⟨mbi,g1,g2⟩:=hgo.at_ i _ hi;cases mbi with
     |gone=>exact .inr ⟨.gone,by rw[a0m a6z];exact g1,trivial⟩
     |_=>exact g2.elim
    .obtain⟨mbi,g1,_⟩:=hr.at_ i _ e2;left;have hm:=Hu (b::is) g1;rw[show(b::is).contains i=false by simpa using e1]at hm;refine⟨mbi,e2,g1,by rw[a0m a6z];simpa using hm,fun d hd=>hs d fun e=>?_⟩;subst e;have:=je hr.nodup hb g1 ho hd;exact e1 (by rw[<-this];exact a2Z)
   .rw[a0L EW]at hi;have:i-(bg (b::is) H).length=0:=by
     rcases abw (i-(bg (b::is) H).length)with h|h
     .exact h
     .rw[a4J (by simp;omega)]at hi;cases hi
    rw[this]at hi;simp only[a2S,a07]at hi;subst hi;exact .inr ⟨MS,by rw[a0L (by rw[hgo.len];exact EW),hgo.len,this];rfl,qM hF hU⟩
 .have:H.length=(dh (b::is) m).length:=by rw[mV,hr.len]
  rw[this];simp
end
open Go Tw
section
variable {X:kX} {P:LI1} {A F:Nat->Prop} {m m':List MB} {h h':List HB} {H H':List (PB X.Γ)}
def X9(X:kX)(P:LI1)(A:Nat->Prop)(m:List MB)(ts:St)(r:Option (TV×St×mF))(v:PV X.Γ)(H1:List (PB X.Γ))(pi:PI):Prop:=
 ∃w h1 ti m1,r=some (w,{ ts with heap:=h1 },ti)∧HR X P A m1 H1 h1∧VR X P (AA A m1) m1 h1 v w∧Fr m ts.heap m1 h1∧Up m m1∧IR m ts.heap pi ti∧∀b,.h b∈ti.ws->b∈bn m
theorem jS{e:LI2}{n k:Nat}(hb:uo P e n=true)(hk:k<=n):uo P e k=true:=by
 unfold uo at hb ⊢;split at hb
 .rename_i i hi;simp only[a1R,a0S]at hb ⊢;obtain⟨⟨⟨⟨h1,h2⟩,h3⟩,h4⟩,h5⟩:=hb;have:=a3P i.bytes hk;exact⟨⟨⟨⟨by omega,by omega⟩,h3⟩,h4⟩,h5⟩
 cases hb
theorem nZ{t e:LI2}{n:Nat}(hs:jK P t=some (e,n)):dF P e=some n∧0<n:=by
 unfold jK at hs;split at hs
 .split at hs
  .rename_i k hk;split at hs
   .cases hs
   rename_i h0;simp only[a07,a0B]at hs;obtain⟨rfl,rfl⟩:=hs;exact⟨hk,by omega⟩
  cases hs
 cases hs
theorem uw(hr:HR X P A m H h){e sz:Nat}{x:PV X.Γ}{tx:TV}(hv:VR X P (AA A m) m h x tx)(hz:dF P e=some sz){rows:List (X.Γ e)}{is:List Nat}(hs:Aw X H e sz x=some (rows,is)){b:Nat}(hb:.h b∈dB tx):((∃i,.h i∈yS X x∧G8 m i b)∨b∉bn m)∧b<h.length:=by
 have lr:∀{i:Nat} {k ex:Bool} {t:Nat} {l:List (X.Γ t)} {c off len cap s:Nat} {e':Bool},H[i]? = some (.list k ex t l)->m[i]? = some (.dJ (.aQ c off len cap s e'))->(G8 m i c∨c∉bn m)∧c<h.length:=by
  intro i k ex t l c off len cap s e' hH hm;obtain⟨mb,g1,g2⟩:=hr.at_ i _ hH;rw[hm]at g1;cases g1;cases(g2:LR X P _ _ _ _ _ _ _ _)with
  |emp h0 h1=>exact⟨.inr h0.2,fU h1⟩
  |some q1 q2 q3 q4=>exact⟨.inl (iM hm (by simp only[MB.own];rw[a0y (by simpa using q1)])),(a08.1 q4).1⟩
 cases x with
 |nil k=>
  cases hv with
  |nil=>simp[dB]at hb
  |gone hi _ _=>simp[bC]at hi
 |dJ t l fu=>
  cases hv with
  |pJ=>simp[dB]at hb
  |dJ a ac=>simp[dB]at hb;subst hb;exact⟨.inr a.2,fU ac⟩
  |gone hi _ _=>simp[bC]at hi
 |own i=>
  simp only[Aw]at hs;split at hs
  .rename_i k ex t l hH;cases hv with
   |own e' o=>
    cases tx<;>simp[dB]at hb
    subst hb;obtain⟨h1,h2⟩:=lr hH e';rcases h1 with h1|h1
    .exact⟨.inl ⟨i,by simp[yS],h1⟩,h2⟩
    exact⟨.inr h1,h2⟩
   |gone hi e' _=>
    simp only[bC,a07]at hi;subst hi;obtain⟨mb,g1,g2⟩:=hr.at_ i _ hH;rw[g1]at e';cases e'<;>exact g2.elim
  cases hs
 |win i o n=>
  simp only[Aw]at hs;split at hs
  .rename_i k ex t l hH;cases hv with
   |win e' q q'=>
    simp[dB]at hb;subst hb;obtain⟨h1,h2⟩:=lr hH e';rcases h1 with h1|h1
    .exact⟨.inl ⟨i,by simp[yS],h1⟩,h2⟩
    exact⟨.inr h1,h2⟩
   |BX=>simp[dB]at hb
   |gone hi e' _=>
    simp only[bC,a07]at hi;subst hi;obtain⟨mb,g1,g2⟩:=hr.at_ i _ hH;rw[g1]at e';cases e'<;>exact g2.elim
  cases hs
 |aQ c off len cap s ex=>
  simp only[Aw]at hs;split at hs
  .rename_i cs hH;cases hv with
   |aQ e'=>
    simp[dB]at hb;subst hb;obtain⟨mb,g1,g2⟩:=hr.at_ c _ hH;rw[e']at g1;cases g1;exact⟨.inl ⟨c,by simp[yS],iM e' rfl⟩,g2.has rfl⟩
   |gone hi e' _=>
    simp only[bC,a07]at hi;subst hi;obtain⟨mb,g1,g2⟩:=hr.at_ c _ hH;rw[g1]at e';cases e'<;>exact g2.elim
  cases hs
 |_=>simp[Aw]at hs
theorem IR.reads{p:PI}{ks:List Key}(hp:p.hp=true)(hk:∀b,.h b∈ks->((∃i,.h i∈p.i.ts∧G8 m i b)∨b∉bn m)∧b<h.length)(hl:∀k,.l k∉ks):IR m h p (fP ks):=
 ⟨fun h=>(by cases h),fun k h=>absurd h (hl k),fun k h=>(by cases h),fun b h=>(by cases h),hk,fun h=>(by rw[hp]at h;cases h)⟩
theorem lQ{tx:TV}{k:Nat}:Key.l k∉dB tx:=by cases tx<;>simp[dB]
theorem J8(hX:bT X P){ps:aU X.Γ}{ts:St}(hR:vw X P A m ps ts){at_:Array LI2}{d x:PV X.Γ}{td tx:TV}(hd:VR X P (AA A m) m ts.heap d td)(hx:VR X P (AA A m) m ts.heap x tx){v:PV X.Γ}{H1:List (PB X.Γ)}{pi:mF}{qs:List Prop}
  (hl:UA X P at_ ps.heap d x=some (v,H1,pi,qs)) (hq:∀q∈qs,q):X9 X P A m ts (jk P at_ ts td tx) v H1 ⟨pi,false,false,true⟩:=by
 have hr:=hR.heap;unfold UA at hl;split at hl
 .rename_i st xt uZ GR;split at hl
  .cases hl
  .rename_i hint;split at hl
   .rename_i e size yP;split at hl
    .rename_i FM;obtain⟨hz,h0⟩:=nZ yP;split at hl
     .rename_i rows is hs;obtain⟨new,s1,s2,s3⟩:=UO (m':=dh is m) hX hr hx hz hs;have hk0:IR m ts.heap ⟨fP (yS X x),false,false,true⟩ (fP (dB tx)):=IR.reads rfl (fun b hb=>uw hr hx hz hs hb) fun k=>lQ;have hrn:rows.length=0↔rows=[]:=a6C;split at hl
      .-- nil
       simp only[a07,a0B]at hl;obtain⟨rfl,rfl,rfl,rfl⟩:=hl;have IQ:rows.length<=au:=hq _ a2Z;have:td=.nil .aQ:=by
        cases hd with
        |nil=>rfl
        |gone hi _ _=>simp[bC]at hi
       subst this;by_cases hn:rows=[]
       .subst hn;obtain⟨m1,g1,g2,g3,g4⟩:=OJ hr is (k:=true) (ex:=false) (e:=e);exact⟨_,ts.heap,_,m1,by unfold jk;simp only[uZ,GR,hint,a3y,yP,s1,a5r,a1P,a2r],g1,g4,g2,g3,hk0,fun b hb=>by simp[fP]at hb⟩
       .obtain⟨m1,g1,g2,g3,g4⟩:=lN hr is (k:=true) (ex:=false) (x:=false) s3 s2 hn hz h0 (by simp);refine⟨_,ts.heap++[.cells .own new],_,m1,?_,g1,g4,g2,g3,hk0,fun b hb=>by simp[fP]at hb⟩;unfold jk;simp only[uZ,GR,hint,a3y,yP,s1,a2r,hrn,hn,s2,a1P,jS FM IQ]
      .-- an own list
       rename_i b;split at hl
       .rename_i k ex t' l hb;split at hl
        .cases hl
        rename_i hnb;split at hl
        .rename_i l2 I7;obtain⟨rfl,rfl⟩:=rH I7;simp only[a07,a0B]at hl;obtain⟨rfl,rfl,rfl,rfl⟩:=hl;have IQ:l2.length+rows.length<=au:=hq _ a2Z;obtain⟨mb,g1,g2⟩:=hr.at_ b _ hb;have QZ:∀{c:Nat},G8 m b c∨c∉bn m->c<ts.heap.length->IR m ts.heap ⟨⟨false,.h b::yS X x,[.h b]⟩,false,false,true⟩ (fP (.h c::dB tx)):=fun{c} hc aT=>IR.reads rfl (fun d hd=>by
          rcases a1z.1 hd with e0|e0
          .cases e0;rcases hc with hc|hc
           .exact⟨.inl ⟨b,a2Z,hc⟩,aT⟩
           .exact⟨.inr hc,aT⟩
          .obtain⟨h0,h9⟩:=uw hr hx hz hs e0;rcases h0 with⟨i,h1,h2⟩|h1
           .exact⟨.inl ⟨i,a3x _ h1,h2⟩,h9⟩
           .exact⟨.inr h1,h9⟩) fun j hj=>by
            rcases a1z.1 hj with e0|e0
            .cases e0
            .exact lQ e0
         have lH:IR m ts.heap ⟨⟨false,.h b::yS X x,[.h b]⟩,false,false,true⟩ (fP (dB tx)):=IR.reads rfl (fun d hd=>by
          obtain⟨h0,h9⟩:=uw hr hx hz hs hd;rcases h0 with⟨i,h1,h2⟩|h1
          .exact⟨.inl ⟨i,a3x _ h1,h2⟩,h9⟩
          .exact⟨.inr h1,h9⟩) fun j hj=>lQ hj
         cases mb with
         |dJ z=>
          cases hd with
          |gone hi e' _=>simp only[bC,a07]at hi;subst hi;rw[g1]at e';cases e'
          |own e' o=>
           rw[g1]at e';cases e';have hlr:LR X P (AA A m) m ts.heap k ex t' l2 td:=g2;have Ug:dZ X P (FA A m (b::is)) (dh (b::is) m) ts.heap t' rows new 0 size:=(s3.mono fun c hc=>FA.mono (fun i hi=>a3x _ hi) hc).jr hX;cases hlr with
           |nil=>
            simp only[a9t];by_cases hn:rows=[]
            .subst hn;obtain⟨m1,f1,f2,f3,f4⟩:=OJ hr (b::is) (k:=k&&ex) (ex:=false) (e:=t');exact⟨_,ts.heap,_,m1,by unfold jk;simp only[uZ,GR,hint,a3y,yP,s1,a5r,a1P,a2r],f1,f4,f2,f3,lH,fun c hc=>by simp[fP]at hc⟩
            .obtain⟨m1,f1,f2,f3,f4⟩:=lN hr (b::is) (k:=k&&ex) (ex:=false) (x:=false) Ug s2 hn hz h0 (by simp);refine⟨_,ts.heap++[.cells .own new],_,m1,?_,f1,f4,f2,f3,lH,fun c hc=>by simp[fP]at hc⟩;unfold jk;simp only[uZ,GR,hint,a3y,yP,s1,a2r,hrn,hn,s2,a1P,jS FM (show rows.length<=au by omega)]
           |emp p0 p1 p2 p3 p4=>
            rename_i c off sz cs;rw[hz]at p3;cases p3;simp only[a9t];by_cases hn:rows=[]
            .subst hn;obtain⟨m1,f1,f2,f3,f4⟩:=push_empty hr (b::is) (k:=k&&ex) (ex:=false) hz h0 (.inl p0) p1 p2;exact⟨_,ts.heap,_,m1,by unfold jk;simp only[uZ,GR,hint,a3y,yP,s1,a5r,a1P,a2r],f1,f4,f2,f3,lH,fun c hc=>by simp[fP]at hc⟩
            .obtain⟨m1,f1,f2,f3,f4⟩:=lN hr (b::is) (k:=k&&ex) (ex:=false) (x:=false) Ug s2 hn hz h0 (by simp);refine⟨_,ts.heap++[.cells .own new],_,m1,?_,f1,f4,f2,f3,QZ (c:=c) (.inr p0.2) (fU p1),fun c hc=>by simp[fP]at hc⟩;have nM:dV size ts.heap (.aQ c off 0 0 size true)=some (0,[]):=(by simp[dV]);unfold jk;simp only[uZ,GR,hint,a3y,yP,s1,a2r,hrn,hn,s2,a1P,a3T,Nat.le_zero_eq,jS FM (show rows.length<=au by omega),nM,a0F,a9t]
           |some p1 p2 p3 p4 p5 p6 p7 p8 p9=>
            rename_i c sz xx kk cs;rw[hz]at p2;cases p2;have uM:(MB.dJ (TV.aQ c 0 l2.length l2.length size xx)).own=some c:=by simp only[MB.own];rw[a0y (by simpa using p1)]
            by_cases hn:rows=[]
            .subst hn;simp only[a5B];obtain⟨m1,f0,f1,f2,f3,f4⟩:=OL (pb:=.list (k&&ex) false t' l2) hr is g1 uM uM rfl (fun _ _=>rfl) (fun cs hc=>⟨cs,hc,a0K _⟩) (fun hF hU=>LR.some p1 hz p3 p4 p5 (fun hk=>p6 (by simp at hk;exact hk.1)) (by simp) p8 (p9.step hF hU));exact⟨_,ts.heap,_,m1,by unfold jk;simp only[uZ,GR,hint,a3y,yP,s1,a5r,a1P,a2r],f1,.own f4 rfl,f2,f3,lH,fun c hc=>by simp[fP]at hc⟩
            .have hle:¬l2.length+rows.length<=l2.length:=by have:rows.length≠0:=fun e0=>hn (hrn.1 e0);omega
             have iy:l2++rows≠[]:=(by simp[p1]);cases xx with
             |true=>
              have hold:dV size ts.heap (.aQ c 0 l2.length l2.length size true)=some (l2.length,cs):=by simp only[dV,a1P];rw[a0y (fun e0=>p1 (a6C.1 e0)),wX p4 (by omega)];simp only[sub];rw[a0A (by omega),aan,a9x (by omega)];rfl
              have hw1:dZ X P (FA A m (b::is)) (dh (b::is) m) ts.heap t' l2 cs 0 size:=(p9.mono fun c hc=>.inl hc).jr hX;obtain⟨m1,f1,f2,f3,f4⟩:=lN hr (b::is) (k:=k&&ex) (ex:=false) (x:=false) (hw1.app Ug p8) (by rw[a1w,a1w,a3z,p8,s2]) iy hz h0 (by simp);refine⟨_,ts.heap++[.cells .own (cs++new)],_,m1,?_,f1,f4,f2,f3,QZ (c:=c) (.inl (iM g1 uM)) (a08.1 p4).1,fun c hc=>by simp[fP]at hc⟩;unfold jk;simp only[uZ,GR,hint,a3y,yP,s1,a2r,hrn,hn,s2,a1P,hle,jS FM IQ,hold,a0F,a1w]
             |false=>
              have hex:ex=false:=by cases ex with
               |true=>exact absurd (p7 rfl) (by simp)
               |false=>rfl
              subst hex;have aT:=(a08.1 p4).1;obtain⟨m1,f0,f1,f2,f3,f4⟩:=OL (pb:=.list (k&&false) false t' (l2++rows)) (h1:=ts.heap.set c (.cells kk.more (cs++new))) (MS:=.dJ (.aQ c 0 (l2.length+rows.length) (l2.length+rows.length) size false)) hr is g1 uM
               (by simp only[MB.own];rw[a0y (by omega)]) (by simp) (fun d hd=>a0R (ahr hd)) (fun X7 KG=>⟨cs++new,by simp[aW,aT],by
                simp only[aW,p4,a07]at KG;subst KG;simp⟩) (fun hF hU=>by
                have QE:=iI (h:=ts.heap) (b::is) m;have Qy:∀q cs',FA A m is q->aW ts.heap q=some cs'->AA A (dh (b::is) m++[.dJ (.aQ c 0 (l2.length+rows.length) (l2.length+rows.length) size false)]) q∧(ts.heap.set c (.cells kk.more (cs++new)))[q]? = ts.heap[q]?:=fun q cs' hq hc=>by
                 have YH:q≠c:=fun e0=>by
                  subst e0;rcases hq with hq|⟨i,mb,e1,e2,e3⟩
                  .exact hq.2 (bf g1 uM)
                  .have:=je hr.nodup g1 e2 uM e3;subst this;exact hnb (by simpa using e1)
                 have hg:=FA.gone hr (FA.mono (js:=b::is) (fun i hi=>a3x _ hi) hq);refine⟨⟨hg.1,fun hm=>?_⟩,a0R (ahr YH)⟩;rw[jh,a3s,kJ]at hm;rcases hm with hm|hm
                 .exact hg.2 hm
                 .simp only[MB.own]at hm;rw[a0y (by omega)]at hm;simp at hm;exact YH hm
                have:=LR.some (X:=X) (P:=P) (A:=AA A (dh (b::is) m++[.dJ (.aQ c 0 (l2.length+rows.length) (l2.length+rows.length) size false)])) (m:=dh (b::is) m++[.dJ (.aQ c 0 (l2.length+rows.length) (l2.length+rows.length) size false)]) (h:=ts.heap.set c (.cells kk.more (cs++new))) (k:=k&&false) (ex:=false) (t:=t') (l:=l2++rows) (b:=c) (sz:=size) (e:=false) (kk:=kk.more) (cs:=cs++new)
                 iy hz h0 (by simp[aT]) (by cases kk<;>simp[BK.more]) (by simp) (by simp) (by rw[a1w,a1w,a3z,p8,s2]) ((p9.step hF hU).app (s3.move hX Qy) p8)
                rw[a1w]at this;exact this)
              refine⟨_,ts.heap.set c (.cells kk.more (cs++new)),⟨false,.h c::dB tx,[.h c]⟩,m1,?_,f1,.own f4 rfl,f2,f3,⟨fun h=>(by cases h),fun j hj=>?_,fun j hj=>(by simp at hj),fun d hd=>?_,fun d hd=>?_,fun h=>(by cases h)⟩,fun d hd=>?_⟩
              .unfold jk;simp only[uZ,GR,hint,a3y,yP,s1,a2r,hrn,hn,s2,a1P,hle,jS FM IQ,p4,ne_eq,not_true_eq_false,p5,p8,a6C,p1,or_self]
              .rcases a1z.1 hj with e0|e0
               .cases e0
               .exact absurd e0 lQ
              .simp at hd;subst hd;exact .inl ⟨b,by simp,iM g1 uM⟩
              .rcases a1z.1 hd with e0|e0
               .cases e0;exact⟨.inl ⟨b,a2Z,iM g1 uM⟩,aT⟩
               .obtain⟨h0,h9⟩:=uw hr hx hz hs e0;rcases h0 with⟨i,h1,h2⟩|h1
                .exact⟨.inl ⟨i,a3x _ h1,h2⟩,h9⟩
                .exact⟨.inr h1,h9⟩
              .simp at hd;subst hd;exact bf g1 uM
         |_=>exact g2.elim
        .cases hl
       .cases hl
      .-- a full frozen list
       rename_i t' l;split at hl
       .rename_i l2 I7;obtain⟨rfl,rfl⟩:=rH I7;simp only[a07,a0B]at hl;obtain⟨rfl,rfl,rfl,rfl⟩:=hl;have IQ:l2.length+rows.length<=au:=hq _ a2Z;have GH:l2=[]∨rows≠[]:=hq _ (a3x _ a2Z);cases hd with
        |gone hi _ _=>simp[bC]at hi
        |pJ=>
         simp only[a9t];by_cases hn:rows=[]
         .subst hn;obtain⟨m1,f1,f2,f3,f4⟩:=OJ hr is (k:=true) (ex:=false) (e:=t');exact⟨_,ts.heap,_,m1,by unfold jk;simp only[uZ,GR,hint,a3y,yP,s1,a5r,a1P,a2r],f1,f4,f2,f3,hk0,fun c hc=>by simp[fP]at hc⟩
         .obtain⟨m1,f1,f2,f3,f4⟩:=lN hr is (k:=true) (ex:=false) (x:=false) s3 s2 hn hz h0 (by simp);refine⟨_,ts.heap++[.cells .own new],_,m1,?_,f1,f4,f2,f3,hk0,fun c hc=>by simp[fP]at hc⟩;unfold jk;simp only[uZ,GR,hint,a3y,yP,s1,a2r,hrn,hn,s2,a1P,jS FM (show rows.length<=au by omega)]
        |dJ p1 p2 p2' p3 p4 p5 p6 p7 p8 p9=>
         rename_i c off cap sz xx cs;rw[hz]at p3;cases p3;obtain⟨rfl,rfl⟩:=p7 rfl;have hk3:IR m ts.heap ⟨fP (yS X x),false,false,true⟩ (fP (.h c::dB tx)):=IR.reads rfl (fun d hd=>by
          rcases a1z.1 hd with e0|e0
          .cases e0;exact⟨.inr p1.2,fU p2⟩
          .exact uw hr hx hz hs e0) fun j hj=>by
           rcases a1z.1 hj with e0|e0
           .cases e0
           .exact lQ e0
         by_cases hn:rows=[]
         .have qN:l2=[]:=by rcases GH with h1|h1;exact h1;exact absurd hn h1
          subst hn;subst qN;obtain⟨m1,f1,f2,f3,f4⟩:=push_empty hr is (k:=true) (ex:=false) hz h0 (.inl p1) p2 (by simpa using p5);exact⟨_,ts.heap,_,m1,by unfold jk;simp only[uZ,GR,hint,a3y,yP,s1,a5r,a1P,a2r],f1,f4,f2,f3,hk0,fun c hc=>by simp[fP]at hc⟩
         .have hle:¬l2.length+rows.length<=l2.length:=by have:rows.length≠0:=fun e0=>hn (hrn.1 e0);omega
          have hw1:dZ X P (FA A m is) (dh is m) ts.heap t' l2 ((cs.drop off).take (l2.length*size)) 0 size:=by have hh:dZ X P (AA A m) m ts.heap t' l2 cs off size:=⟨p8,p5,p9⟩;exact(hh.take.mono fun c hc=>.inl hc).jr hX
          have hlen:((cs.drop off).take (l2.length*size)).length=l2.length*size:=by rw[a3W,a3U];omega
          obtain⟨m1,f1,f2,f3,f4⟩:=lN hr is (k:=true) (ex:=false) (x:=false) (hw1.app s3 hlen) (by rw[a1w,a1w,a3z,hlen,s2]) (by simp[hn]) hz h0 (by simp);refine⟨_,ts.heap++[.cells .own ((cs.drop off).take (l2.length*size)++new)],_,m1,?_,f1,f4,f2,f3,hk3,fun c hc=>by simp[fP]at hc⟩;have nM:dV size ts.heap (.aQ c off l2.length l2.length size true)=some (l2.length,(cs.drop off).take (l2.length*size)):=by
           simp only[dV,a1P,sub];by_cases qN:l2.length=0
           .rw[a0A qN,qN,acz,List.take_zero]
           .rw[a0y qN,p2' (fun e0=>qN (by rw[e0];rfl))];simp only;rw[a0A p5];rfl
          unfold jk;simp only[uZ,GR,hint,a3y,yP,s1,a2r,hrn,hn,s2,a1P,hle,jS FM IQ,nM,a0F,a1w]
       .cases hl
      .-- a clipped own list
       rename_i b;split at hl
       .rename_i k ex t' l hb;split at hl
        .rename_i l2 I7;obtain⟨rfl,rfl⟩:=rH I7;simp only[a07,a0B]at hl;obtain⟨rfl,rfl,rfl,rfl⟩:=hl;have IQ:l2.length+rows.length<=au:=hq _ a2Z;have hn:rows≠[]:=hq _ (a3x _ a2Z);obtain⟨mb,g1,g2⟩:=hr.at_ b _ hb;have lH:∀d,.h d∈dB tx->((∃i,.h i∈(⟨fP (.h b::yS X x),false,false,true⟩:PI).i.ts∧G8 m i d)∨d∉bn m)∧d<ts.heap.length:=fun d hd=>by
          obtain⟨h0,h9⟩:=uw hr hx hz hs hd;rcases h0 with⟨i,h1,h2⟩|h1
          .exact⟨.inl ⟨i,a3x _ h1,h2⟩,h9⟩
          .exact⟨.inr h1,h9⟩
         have hk3:IR m ts.heap ⟨fP (.h b::yS X x),false,false,true⟩ (fP (dB tx)):=IR.reads rfl lH fun j hj=>lQ hj;have QZ:∀{c:Nat},G8 m b c∨c∉bn m->c<ts.heap.length->IR m ts.heap ⟨fP (.h b::yS X x),false,false,true⟩ (fP (.h c::dB tx)):=fun{c} hc aT=>IR.reads rfl (fun d hd=>by
          rcases a1z.1 hd with e0|e0
          .cases e0;rcases hc with hc|hc
           .exact⟨.inl ⟨b,a2Z,hc⟩,aT⟩
           .exact⟨.inr hc,aT⟩
          .exact lH d e0) fun j hj=>by
           rcases a1z.1 hj with e0|e0
           .cases e0
           .exact lQ e0
         cases mb with
         |dJ z=>
          have hlr:LR X P (AA A m) m ts.heap k ex t' l2 z:=g2;cases hd with
          |gone hi e' _=>simp only[bC,a07]at hi;subst hi;rw[g1]at e';cases e'
          |Jj e'=>
           rw[g1]at e';cases e';cases hlr with
           |nil=>
            simp only[a9t];obtain⟨m1,f1,f2,f3,f4⟩:=lN hr is (k:=true) (ex:=false) (x:=false) s3 s2 hn hz h0 (by simp);refine⟨_,ts.heap++[.cells .own new],_,m1,?_,f1,f4,f2,f3,hk3,fun c hc=>by simp[fP]at hc⟩;unfold jk;simp only[uZ,GR,hint,a3y,yP,s1,a2r,hrn,hn,s2,a1P,jS FM (show rows.length<=au by omega)]
          |Gv e'=>
           rw[g1]at e';cases e';cases hlr with
           |emp p0 p1 p2 p3 p4=>
            rename_i c off sz cs;rw[hz]at p3;cases p3;simp only[a9t];obtain⟨m1,f1,f2,f3,f4⟩:=lN hr is (k:=true) (ex:=false) (x:=false) s3 s2 hn hz h0 (by simp);refine⟨_,ts.heap++[.cells .own new],_,m1,?_,f1,f4,f2,f3,QZ (c:=c) (.inr p0.2) (fU p1),fun c hc=>by simp[fP]at hc⟩;have nM:dV size ts.heap (.aQ c off 0 0 size true)=some (0,[]):=(by simp[dV]);unfold jk;simp only[uZ,GR,hint,a3y,yP,s1,a2r,hrn,hn,s2,a1P,a3T,Nat.le_zero_eq,jS FM (show rows.length<=au by omega),nM,a0F,a9t]
           |some p1 p2 p3 p4 p5 p6 p7 p8 p9=>
            rename_i c sz xx kk cs;rw[hz]at p2;cases p2;have uM:(MB.dJ (TV.aQ c 0 l2.length l2.length size xx)).own=some c:=by simp only[MB.own];rw[a0y (by simpa using p1)]
            have hle:¬l2.length+rows.length<=l2.length:=by have:rows.length≠0:=fun e0=>hn (hrn.1 e0);omega
            have iy:l2++rows≠[]:=(by simp[p1]);have hold:dV size ts.heap (.aQ c 0 l2.length l2.length size true)=some (l2.length,cs):=by simp only[dV,a1P];rw[a0y (fun e0=>p1 (a6C.1 e0)),wX p4 (by omega)];simp only[sub];rw[a0A (by omega),aan,a9x (by omega)];rfl
            have hw1:dZ X P (FA A m is) (dh is m) ts.heap t' l2 cs 0 size:=(p9.mono fun c hc=>.inl hc).jr hX;obtain⟨m1,f1,f2,f3,f4⟩:=lN hr is (k:=true) (ex:=false) (x:=false) (hw1.app s3 p8) (by rw[a1w,a1w,a3z,p8,s2]) iy hz h0 (by simp);refine⟨_,ts.heap++[.cells .own (cs++new)],_,m1,?_,f1,f4,f2,f3,QZ (c:=c) (.inl (iM g1 uM)) (a08.1 p4).1,fun c hc=>by simp[fP]at hc⟩;unfold jk;simp only[uZ,GR,hint,a3y,yP,s1,a2r,hrn,hn,s2,a1P,hle,jS FM IQ,hold,a0F,a1w]
         |_=>exact g2.elim
        .cases hl
       .cases hl
      .cases hl
     .cases hl
    .cases hl
   .cases hl
 .cases hl
end
open Go Tw
theorem Xa{α:Type}{l rows:List α}{o k:Nat}(h:o+k<=l.length)(hk:k<=rows.length):(OB l o k rows).length=l.length:=by unfold OB;simp;omega
theorem a3u{α:Type}{l rows:List α}{o:Nat}:OB l o 0 rows=l:=by unfold OB;simp
section
variable {X:kX} {P:LI1} {A F:Nat->Prop} {m m':List MB} {h h':List HB} {H H':List (PB X.Γ)}
theorem dZ.put{t sz o k:Nat}{l rows:List (X.Γ t)}{cs new:List TV}(h1:dZ X P F m h t l cs 0 sz)(h2:dZ X P F m h t rows new 0 sz)(hc:cs.length=l.length*sz)(hn:new.length=rows.length*sz)(ho:o+k<=l.length)(hk:k<=rows.length) :
  dZ X P F m h t (OB l o k rows) (cs.take (o*sz)++new.take (k*sz)++cs.drop (o*sz+k*sz)) 0 sz:=by
 have a1:=(h1.part (o:=0) (n:=o) (by omega)).take;have a2:=(h2.part (o:=0) (n:=k) (by omega)).take;have a3:=(h1.part (o:=o+k) (n:=l.length-(o+k)) (by omega)).take;have l1:((l.drop 0).take o).length=o:=by simp;omega
 have l2:((rows.drop 0).take k).length=k:=by simp;omega
 have l3:((l.drop (o+k)).take (l.length-(o+k))).length=l.length-(o+k):=by simp
 rw[l1]at a1;rw[l2]at a2;rw[l3]at a3;simp only[acz,ae8,a3T,aan]at a1 a2 a3;have m1:o*sz<=cs.length:=by rw[hc];exact a3P _ (by omega)
 have m2:k*sz<=new.length:=by rw[hn];exact a3P _ hk
 have r:=(a1.app a2 (by rw[a3W,a3W];rw[a8g m1,a8g (by omega)])).app a3 (by simp only[a1w,a3W];rw[a8g m1,a8g m2,a8g (by omega),a8g hk,a3z])
 have e1:l.drop (o+k)=(l.drop (o+k)).take (l.length-(o+k)):=by rw[a9x (by simp)]
 have e2:cs.drop (o*sz+k*sz)=(cs.drop ((o+k)*sz)).take ((l.length-(o+k))*sz):=by rw[a3z,a9x];rw[a3U,hc,Nat.sub_mul,a3z];omega
 unfold OB;rw[e1,e2];exact r
theorem Ef(hX:bT X P){ps:aU X.Γ}{ts:St}(hR:vw X P A m ps ts){at_:Array LI2}{st e size b o n:Nat}{k0 ex:Bool}{l rows:List (X.Γ e)}{x:PV X.Γ}{td tx:TV}(uZ:at_[0]? = some st)(yP:jK P st=some (e,size))(hx:VR X P (AA A m) m ts.heap x tx)
  (hs:Aw X ps.heap e size x=some (rows,[])) (hb:ps.heap[b]? = some (.list k0 ex e l)) {mb:MB} (g1:m[b]? = some mb) (g2:BR X P (AA A m) m ts.heap (.list k0 ex e l) mb)
  (htd:(∃c sz' xx' xx cap,mb=.dJ (.aQ c 0 l.length l.length sz' xx')∧l≠[]∧td=.aQ c (o*sz') n cap sz' xx∧(n=0∨o+cap=l.length))∨(n=0∧(td=.nil .aQ∨∃c f cap xx,td=.aQ c f 0 cap size xx))) (hon:o+n<=l.length) (O8:isStr tx=false) :
  X9 X P A m ts (Gy P at_ ts td tx) (.int .i64 ((min rows.length n:Nat):Int)) (ps.heap.set b (.list k0 ex e (OB l o (min rows.length n) rows))) ⟨⟨false,.h b::yS X x,[.h b]⟩,false,false,true⟩:=by
 have hr:=hR.heap;obtain⟨hz,h0⟩:=nZ yP;obtain⟨new,s1,s2,s3⟩:=UO (m':=m) hX hr hx hz hs;have Ug:dZ X P (AA A m) m ts.heap e rows new 0 size:=s3.mono fun q hq=>by
  rcases hq with hq|⟨i,_,hi,_⟩
  .exact hq
  .simp at hi
 have lH:IR m ts.heap ⟨⟨false,.h b::yS X x,[.h b]⟩,false,false,true⟩ (fP (dB tx)):=IR.reads rfl (fun d hd=>by
  obtain⟨h0,h9⟩:=uw hr hx hz hs hd;rcases h0 with⟨i,h1,h2⟩|h1
  .exact⟨.inl ⟨i,a3x _ h1,h2⟩,h9⟩
  .exact⟨.inr h1,h9⟩) fun j hj=>lQ hj
 have same:ps.heap.set b (.list k0 ex e l)=ps.heap:=by
  apply aa6;intro i;by_cases e:b=i
  .subst e;rw[a1y (a08.1 hb).1,hb]
  .rw[a0R e]
 by_cases hk:min rows.length n=0
 .rw[hk,a3u,same];refine⟨.int .i64 0,ts.heap,fP (dB tx),m,?_,hr,.int _ _,.refl,.refl,lH,fun c hc=>by simp[fP]at hc⟩;unfold Gy;simp only[uZ,yP,s1,s2,O8,acF,a1P];rcases htd with⟨c,sz',xx',xx,cap,rfl,iy,rfl,wL⟩|⟨rfl,rfl|⟨c,f,cap,xx,rfl⟩⟩
  .have:sz'=size:=by cases g2 with|some _ q2 _ _ _ _ _ _ _=>rw[hz]at q2;cases q2;rfl|emp=>exact absurd rfl iy
   simp only[this,a1P,hk]
  .rfl
  .simp only[a1P,hk]
 .rcases htd with⟨c,sz',xx',xx,cap,rfl,iy,rfl,wL⟩|⟨rfl,_⟩
  .cases g2 with
   |emp=>exact absurd rfl iy
   |some p1 p2 p3 p4 p5 p6 p7 p8 p9=>
    rename_i kk cs;rw[hz]at p2;cases p2;obtain⟨BD,yt,aeS,hko⟩:=Jk p5;have aiQ:o*size+cap*size=cs.length:=by have:=wL.resolve_left (by omega);rw[p8,<-this,a3z]
    have aT:=(a08.1 p4).1;have uM:(MB.dJ (TV.aQ c 0 l.length l.length size xx')).own=some c:=by simp only[MB.own];rw[a0y (by simpa using p1)]
    have hkn:o+min rows.length n<=l.length:=(by omega);have hkr:min rows.length n<=rows.length:=Nat.min_le_left _ _;have m1:o*size+min rows.length n*size<=cs.length:=by rw[p8,<-a3z];exact a3P _ hkn
    have m2:min rows.length n*size<=new.length:=by rw[s2];exact a3P _ hkr
    have m3:min (min rows.length n*size) (rows.length*size)=min rows.length n*size:=a8g (by rw[<-s2];exact m2);have aoo:=dZ.put p9 Ug p8 s2 hkn hkr;have pV:(cs.take (o*size)++new.take (min rows.length n*size)++cs.drop (o*size+min rows.length n*size)).length=cs.length:=by simp;omega
    have hl:=Xa (rows:=rows) hkn hkr;obtain⟨q1,q2⟩:=hr.set (i:=b) (c:=c) (pb:=.list k0 ex e (OB l o (min rows.length n) rows)) (hb:=.cells BD (cs.take (o*size)++new.take (min rows.length n*size)++cs.drop (o*size+min rows.length n*size))) g1 uM
     (fun X7 KG=>⟨_,by simp only[aW];rw[a1y aT],by
      simp only[aW,p4,a07]at KG;subst KG;rw[pV];exact a0K _⟩)
     (fun hF=>by
      have ahV:OB l o (min rows.length n) rows≠[]:=fun e0=>by rw[e0]at hl;simp at hl;exact p1 (a6C.1 hl.symm)
      have r:=LR.some (k:=k0) (ex:=ex) (e:=xx') ahV hz p3 (by rw[a1y aT]) aeS (fun e0=>hko (p6 e0)) p7 (by rw[pV,hl,p8]) (aoo.step hF .refl);rw[hl]at r;exact r)
    refine⟨.int .i64 ((min rows.length n:Nat):Int),_,⟨false,.h c::dB tx,[.h c]⟩,m,?_,q1,.int _ _,q2,.refl,?_,fun d hd=>?_⟩
    .unfold Gy;simp only[uZ,yP,s1,s2,O8,acF,a1P,hk,a3y,a1p p4 yt aiQ,wF,a3W,m3,m1,a0F]
    .refine⟨fun h=>(by cases h),fun k hk=>?_,fun k hk=>(by simp at hk),fun d hd=>?_,fun d hd=>?_,fun h=>(by cases h)⟩
     .rcases a1z.1 hk with e0|e0
      .cases e0
      .exact absurd e0 lQ
     .simp at hd;subst hd;exact .inl ⟨b,a2Z,iM g1 uM⟩
     .rcases a1z.1 hd with e0|e0
      .cases e0;exact⟨.inl ⟨b,a2Z,iM g1 uM⟩,aT⟩
      .obtain⟨h0,h9⟩:=uw hr hx hz hs e0;rcases h0 with⟨i,h1,h2⟩|h1
       .exact⟨.inl ⟨i,a3x _ h1,h2⟩,h9⟩
       .exact⟨.inr h1,h9⟩
    .simp at hd;subst hd;exact bf g1 uM
  .simp at hk
theorem a6A(hr:HR X P A m H h){e sz:Nat}{x:PV X.Γ}{tx:TV}(hv:VR X P (AA A m) m h x tx){rows:List (X.Γ e)}{is:List Nat}(hs:Aw X H e sz x=some (rows,is)):isStr tx=false:=by
 cases hv with
 |own e' _=>
  unfold Aw at hs;simp only at hs;split at hs
  .rename_i hb;obtain⟨mb,g1,g2⟩:=hr.at_ _ _ hb;rw[e']at g1;cases g1;cases g2<;>rfl
  cases hs
 |gone hi e' _=>
  cases x<;>simp only[bC,a07]at hi<;>first|cases hi|skip
  all_goals (unfold Aw at hs;simp only at hs)
  all_goals first|(cases hs;done)|skip
  all_goals
   split at hs
   .rename_i hb;obtain⟨mb,g1,g2⟩:=hr.at_ _ _ hb;rw[g1]at e';cases e'<;>exact g2.elim
   .cases hs
 |str=>simp[Aw]at hs
 |_=>rfl
theorem dZ.vrs{t sz:Nat}:∀{l:List (X.Γ t)} {cs:List TV},dZ X P F m h t l cs 0 sz->cs.length=l.length*sz->bW X P F m h (EK X t l) cs
 | [],cs,_,hl=>by have:cs=[]:=a6C.1 (by simpa using hl);subst this;exact .nil
 |a::r,cs,hw,hl=>by
  have h1:=hw.row (j:=0) (a:=a) rfl;have h2:=(hw.part (o:=1) (n:=r.length) (by simp;omega)).take;have e1:((a::r).drop 1).take r.length=r:=by simp
  rw[e1]at h2;have hl':cs.length=r.length*sz+sz:=by rw[hl,a4M,a3z,abr]
  have e2:(cs.drop (0+1*sz)).take (r.length*sz)=cs.drop sz:=by rw[a3T,abr,a9x];rw[a3U];omega
  rw[e2]at h2;have h3:=dZ.vrs h2 (by rw[a3U];omega);have h4:bW X P F m h (X.enc t a) (cs.take sz):=by have:=h1.1;simpa using this
  have:=h4.app h3;rw[List.take_append_drop]at this;exact this
theorem Uh(hX:bT X P){ps:aU X.Γ}{ts:St}(hR:vw X P A m ps ts){at_:Array LI2}{d x:PV X.Γ}{td tx:TV}(hd:VR X P (AA A m) m ts.heap d td)(hx:VR X P (AA A m) m ts.heap x tx){v:PV X.Γ}{H1:List (PB X.Γ)}{pi:mF}
  (hl:a6g X P at_ ps.heap d x=some (v,H1,pi)):X9 X P A m ts (Gy P at_ ts td tx) v H1 ⟨pi,false,false,true⟩:=by
 have hr:=hR.heap;unfold a6g at hl;split at hl
 .rename_i st uZ;split at hl
  .rename_i e size yP;obtain⟨hz,h0⟩:=nZ yP;split at hl
   .rename_i rows hs;obtain⟨new,s1,s2,s3⟩:=UO (m':=m) hX hr hx hz hs;have O8:isStr tx=false:=a6A hr hx hs;split at hl
    .simp only[a07,a0B]at hl;obtain⟨rfl,rfl,rfl⟩:=hl;have:td=.nil .aQ:=by
      cases hd with
      |nil=>rfl
      |gone hi _ _=>simp[bC]at hi
     subst this;exact⟨_,ts.heap,_,m,by unfold Gy;simp only[uZ,yP,s1,s2,O8,acF,a1P],hr,.int _ _,.refl,.refl,IR.reads rfl (fun b hb=>uw hr hx hz hs hb) fun k=>lQ,fun b hb=>by simp[fP]at hb⟩
    .rename_i b;split at hl
     .rename_i k0 ex t' l hb;split at hl
      .rename_i l2 I7;obtain⟨rfl,rfl⟩:=rH I7;simp only[a07,a0B]at hl;obtain⟨rfl,rfl,rfl⟩:=hl;obtain⟨mb,g1,g2⟩:=hr.at_ b _ hb;refine Ef (o:=0) (n:=l2.length) hX hR uZ yP hx hs hb g1 g2 ?_ (by omega) O8;cases hd with
       |gone hi e' _=>simp only[bC,a07]at hi;subst hi;rw[g1]at e';cases e'<;>exact g2.elim
       |own e' o=>
        rw[g1]at e';cases e';cases g2 with
        |nil=>exact .inr ⟨rfl,.inl rfl⟩
        |emp q1 q2 q3 q4 q5=>rw[hz]at q4;cases q4;exact .inr ⟨rfl,.inr ⟨_,_,_,_,rfl⟩⟩
        |some q1 q2=>rw[hz]at q2;cases q2;exact .inl ⟨_,_,_,_,_,rfl,q1,by rw[acz],.inr (a3T _)⟩
      .cases hl
     .cases hl
    .rename_i b o n;split at hl
     .rename_i k0 ex t' l hb;split at hl
      .rename_i l2 I7;obtain⟨rfl,rfl⟩:=rH I7;simp only[a07,a0B]at hl;obtain⟨rfl,rfl,rfl⟩:=hl;obtain⟨mb,g1,g2⟩:=hr.at_ b _ hb;cases hd with
       |gone hi e' _=>simp only[bC,a07]at hi;subst hi;rw[g1]at e';cases e'<;>exact g2.elim
       |win e' o1 o2 o3=>
        rw[g1]at e';cases e';cases g2 with
        |emp q1 q2 q3 q4 q5=>
         rw[hz]at q4;cases q4;have:n=0:=(by omega);subst this;exact Ef hX hR uZ yP hx hs hb g1 (LR.emp q1 q2 q3 hz q5) (.inr ⟨rfl,.inr ⟨_,_,_,_,rfl⟩⟩) o1 O8
        |some q1 q2 q3 q4 q5 q6 q7 q8 q9=>exact Ef hX hR uZ yP hx hs hb g1 (LR.some q1 q2 q3 q4 q5 q6 q7 q8 q9) (.inl ⟨_,_,_,_,_,rfl,q1,by rw[a3T],o3⟩) o1 O8
       |BX e'=>
        rw[g1]at e';cases e';exact Ef hX hR uZ yP hx hs hb g1 g2 (.inr ⟨rfl,.inl rfl⟩) (by omega) O8
      .cases hl
     .cases hl
    .rename_i b off len cap sz xx;split at hl
     .rename_i cs hb;split at hl
      .rename_i hc;obtain⟨hc1,KG⟩:=hc;subst hc1;simp only[a09,a0B]at hl;obtain⟨Sz,h1,rfl,rfl,rfl⟩:=hl;obtain⟨mb,g1,g2⟩:=hr.at_ b _ hb;cases mb with
       |gG c=>
        obtain⟨cs',g3,g4⟩:=g2;cases hd with
        |gone hi e _=>simp only[bC,a07]at hi;subst hi;rw[g1]at e;cases e
        |aQ e=>
         rw[g1]at e;cases e;have Ug:dZ X P (AA A m) m ts.heap _ rows new 0 sz:=s3.mono fun q hq=>by
          rcases hq with hq|⟨i,_,hi,_⟩
          .exact hq
          .simp at hi
         have hv:=(Ug.vrs s2).take (min rows.length len*sz);obtain⟨Jm,g5,g6⟩:=Hz g4 hv h1;have hlen:Jm.length=cs'.length:=by
          unfold wF at g5;split at g5
          .cases g5;simp only[a1w,a3W,a3U]at *;omega
          .cases g5
         have aT:=(a08.1 g3).1;obtain⟨hr1,hF⟩:=hr.set (pb:=.cells Sz) (hb:=.cells .own Jm) g1 (c:=c) rfl (fun X7 X8=>⟨Jm,by simp[aW,aT],by
          simp only[aW,g3,a07]at X8;subst X8;omega⟩) fun hF=>⟨Jm,by simp[aT],g6.step hF .refl⟩
         refine⟨.int .i64 ((min rows.length len:Nat):Int),_,⟨false,.h c::dB tx,[.h c]⟩,m,?_,hr1,.int _ _,hF,.refl,?_,fun d hd=>?_⟩
         .unfold Gy;simp only[uZ,yP,s1,s2,O8,acF,a1P];rw[a0y (by omega),X3 g3,g5];rfl
         .refine⟨fun h=>(by cases h),fun k hk=>?_,fun k hk=>(by simp at hk),fun d hd=>?_,fun d hd=>?_,fun h=>(by cases h)⟩
          .rcases a1z.1 hk with e0|e0
           .cases e0
           .exact absurd e0 lQ
          .simp at hd;subst hd;exact .inl ⟨b,a2Z,iM g1 rfl⟩
          .rcases a1z.1 hd with e0|e0
           .cases e0;exact⟨.inl ⟨b,a2Z,iM g1 rfl⟩,aT⟩
           .obtain⟨h0,h9⟩:=uw hr hx hz hs e0;rcases h0 with⟨i,h1,h2⟩|h1
            .exact⟨.inl ⟨i,a3x _ h1,h2⟩,h9⟩
            .exact⟨.inr h1,h9⟩
         .simp at hd;subst hd;exact bf g1 rfl
       |_=>exact g2.elim
      .cases hl
     .cases hl
    .cases hl
   .cases hl
  .cases hl
 .cases hl
end
open Go Tw
section
variable {X:kX} {P:LI1} {A F:Nat->Prop} {m m':List MB} {h h':List HB} {H H':List (PB X.Γ)}
theorem VPs.qC{ps:List (Nat×PV X.Γ)}{qs:List (Nat×TV)}(hp:VPs X P A m h ps qs):qs.all (fun p=>p.2.cells.all jc)=ps.all fun p=>p.2.cells.all Zv:=by
 induction ps generalizing qs with
 |nil=>
  have:=hp.1;cases qs with
  |nil=>rfl
  |cons=>simp at this
 |cons a ps ih=>
  obtain⟨x,r,rfl,h1,h2⟩:=hp.inv;simp only[acf,Ed (Hy h1),ih h2]
theorem Xb{pl:Nat->Option (Nat×Nat)}:∀{qs:List (Nat×TV)} {xs r:List TV},sJ pl xs qs=some r->r.length=xs.length
 | [],xs,r,h=>by simp only[sJ,a07]at h;rw[h]
 |(i,v)::qs,xs,r,h=>by
  simp only[sJ]at h;split at h
  .split at h
   .split at h
    .rename_i cs' ho;rw[Xb h];unfold wF at ho;split at ho
     .cases ho;simp only[a1w,a3W,a3U];omega
     cases ho
    cases h
   cases h
  cases h
theorem oC{z:List TV}:∀n,(times z n).length=n*z.length
 | 0=>by simp[times]
 |n+1=>by simp[times,oC n,a3z];omega
theorem uq(hX:bT X P){ps:aU X.Γ}{ts:St}(hR:vw X P A m ps ts){t:LI2}{len:Nat}{vs:List (Nat×PV X.Γ)}{xs:List (Nat×TV)}(hv:VPs X P (AA A m) m ts.heap vs xs){v:PV X.Γ}{H1:List (PB X.Γ)}
  {raw:Bool} (hl:yC X P t len ps.heap vs raw=some (v,H1)):X9 X P A m ts ((qI P t len ts xs).map fun(v,s)=>(v,s,cO)) v H1 xY:=by
 have hr:=hR.heap;unfold yC at hl;split at hl
 .rename_i e n yP;obtain⟨hz,h0⟩:=nZ yP;split at hl
  .rename_i hc;split at hl
   .rename_i z hzz;obtain⟨z',q1,q2⟩:=HY (A:=AA A m) (m:=m) (h:=ts.heap) hzz;split at hl
    .rename_i Ws;split at hl
     .rename_i cs hf;obtain⟨cs',q3,q4⟩:=MV hv (X4 q2 len) hf;have hlen:cs'.length=len*n:=(by rw[Xb q3,oC,<-q2.1,Ws]);have hT:∀w h1,(w,h1)=(TV.aQ ts.heap.length 0 len len n true,ts.heap++[HB.cells .own cs'])->(qI P t len ts xs).map (fun(v,s)=>(v,s,cO))=some (w,{ ts with heap:=h1 },cO):=by intro w h1 e0;cases e0;simp only[qI,yP,hv.qC,hc,acF,a1P,q1,<-q2.1,Ws,q3,a0F]
      split at hl
      .rename_i rows is hd;cases hl;have hd:yB X ps.heap e n len cs=some (rows,is):=by
        split at hd
        .cases hd
        .exact hd
       obtain⟨e1,hw⟩:=AP (m':=dh is m) hX hr q4 hd;by_cases hn:rows=[]
       .subst hn;have e2:len=0:=(by simpa using e1.symm);subst e2;have Rx:cs'=[]:=a6C.1 (by omega);subst Rx;have I8:HR X P A (dh is m++[.dJ (.aQ ts.heap.length 0 0 0 n true)]) (bg is ps.heap++[.list true true e []]) (ts.heap++[.cells .own []])∧_:=(hr.bg is).push (pb:=.list true true e []) (hb:=.cells .own []) (mb:=.dJ (.aQ ts.heap.length 0 0 0 n true)) (.inr rfl)
         (LR.emp (b:=ts.heap.length) (cs:=[]) ⟨hr.up _ (a0K _),fun hm=>by rw[jh,a3s,kJ]at hm;simp[MB.own]at hm;have:=(hr.bg is).inb hm;omega⟩ (by simp[aW]) (a0K _) hz h0)
        have QE:=iI (h:=ts.heap) is m;refine⟨_,_,_,_,hT _ _ rfl,I8.1,.own ?_ rfl,QE.1.trans I8.2.1,QE.2.trans I8.2.2,.none,fun b hb=>by cases hb⟩;rw[<-hr.len,<-mV is m];simp
       .have I8:=lN hr is (k:=true) (ex:=true) (x:=true) hw (by rw[hlen,e1]) hn hz h0 (by simp);obtain⟨m1,g1,g2,g3,g4⟩:=I8;refine⟨_,_,_,m1,hT _ _ rfl,g1,?_,g2,g3,.none,fun b hb=>by cases hb⟩;rw[e1]at g4;exact g4
      .cases hl;have hp:=hr.push (pb:=.cells cs) (hb:=.cells .own cs') (mb:=.gG ts.heap.length) (.inl rfl) ⟨cs',by simp,q4.step (by
        refine⟨by simp,fun b hb _=>by rw[a0m hb],fun b hb=>?_,fun b cs hc=>⟨cs,by rw[fZ (a0m (fU hc)),hc],a0K _⟩⟩;rw[jh,a3s,kJ]at hb;rcases hb with hb|hb
        .exact .inl hb
        .simp[MB.own]at hb;exact .inr (by omega)) (wZ _)⟩
       exact⟨_,_,_,_,hT _ _ rfl,hp.1,.aQ (by rw[<-hr.len];simp),hp.2.1,hp.2.2,.none,fun b hb=>by cases hb⟩
     .cases hl
    .cases hl
   .cases hl
  .cases hl
 .cases hl
theorem OM{k:IntKind}{n:Int}{x:TV}(hv:VR X P A m h (.int k n) x):x=.int k n:=by
 cases hv with
 |int=>rfl
 |gone hi _ _=>simp[bC]at hi
theorem Xc{t sz:Nat}{a:X.Γ t}{z:List TV}(ha:bW X P F m h (X.enc t a) z)(hz:z.length=sz):∀n,dZ X P F m h t (List.replicate n a) (times z n) 0 sz
 | 0=>⟨fun j a hj=>by simp at hj,by simp,fun j a i c v hj=>by simp at hj⟩
 |n+1=>by
  have h1:dZ X P F m h t [a] z 0 sz:=by
   refine⟨fun j b hj=>?_,by simp[hz],fun j b i c v hj hi hx=>?_⟩
   .cases j with
    |zero=>simp only[a2S,a07]at hj;subst hj;rw[ha.1,hz]
    |succ j=>simp at hj
   cases j with
   |zero=>simp only[a2S,a07]at hj;subst hj;exact ha.2 i c v hi (by simpa using hx)
   |succ j=>simp at hj
  have:=h1.app (Xc ha hz n) (by simp[hz]);simpa[aen,times]using this
theorem Aj(hX:bT X P){ps:aU X.Γ}{ts:St}(hR:vw X P A m ps ts){t:LI2}{l c:PV X.Γ}{tl tc:TV}(hvl:VR X P (AA A m) m ts.heap l tl)(hvc:VR X P (AA A m) m ts.heap c tc){v:PV X.Γ}{H1:List (PB X.Γ)}{qs:List Prop}
  (hl:FZ X P t ps.heap l c=some (v,H1,qs)) (hq:∀q∈qs,q):X9 X P A m ts ((sS P t ts tl tc).map fun(v,s)=>(v,s,cO)) v H1 xY:=by
 have hr:=hR.heap;unfold FZ at hl;split at hl
 .rename_i e n kl li kc ci yP;obtain⟨hz,h0⟩:=nZ yP;rw[OM hvl,OM hvc];split at hl
  .rename_i FM;split at hl
   .rename_i z hzz;obtain⟨z',q1,q2⟩:=HY (A:=AA A m) (m:=m) (h:=ts.heap) hzz;split at hl
    .rename_i Ws;split at hl
     .rename_i a ha;cases hl;have e1:li=ci:=hq _ (by simp);have e2:0<=li:=hq _ (by simp);have e3:li<=(au:Nat):=hq _ (by simp);subst e1;have hm:li.toNat<=au:=(by omega);have hm2:au=2^20:=rfl;have hz2:z'.length=n:=by rw[<-q2.1];exact Ws
      have hT:∀w h1,(w,h1)=(TV.aQ ts.heap.length 0 li.toNat li.toNat n true,ts.heap++[HB.cells .own (times z' li.toNat)])->(sS P t ts (.int kl li) (.int kc li)).map (fun(v,s)=>(v,s,cO))=some (w,{ ts with heap:=h1 },cO):=by
       intro w h1 e0;cases e0;have hN:∀k,a2J (.int k li)=some li.toNat:=fun k=>by
        have h9:li<=2^40:=by have:((2^20:Nat):Int)<=2^40:=(by decide);rw[hm2]at e3;omega
        simp only[a2J];rw[a0A ⟨e2,h9⟩]
       simp only[sS,yP,hN,a0K,true_and,jS FM hm,a1P,q1,hz2,a0F]
      have wU:=Xc (m:=m) (h:=ts.heap) (F:=AA A m) (hX.dec ha q2) hz2 li.toNat;have hlen:(times z' li.toNat).length=li.toNat*n:=(by rw[oC,hz2]);by_cases hn:li.toNat=0
      .rw[hn]at hT ⊢;simp only[List.replicate_zero];have I8:=hr.push (pb:=.list true true e []) (hb:=.cells .own (times z' 0)) (mb:=.dJ (.aQ ts.heap.length 0 0 0 n true)) (.inr rfl)
         (LR.emp (b:=ts.heap.length) (cs:=times z' 0) ⟨hr.up _ (a0K _),fun hm=>by rw[jh,a3s,kJ]at hm;simp[MB.own]at hm;have:=hr.inb hm;omega⟩ (by simp[aW]) (a5m _) hz h0)
       exact⟨_,_,_,_,hT _ _ rfl,I8.1,.own (by rw[<-hr.len];simp) rfl,I8.2.1,I8.2.2,.none,fun b hb=>by cases hb⟩
      .obtain⟨m1,g1,g2,g3,g4⟩:=lN hr [] (k:=true) (ex:=true) (x:=true) (rows:=List.replicate li.toNat a) (wU.mono fun b hb=>.inl hb) (by rw[a6B];exact hlen) (by intro e0;exact hn (by simpa using congrArg List.length e0)) hz h0 (by simp);refine⟨_,_,_,m1,hT _ _ rfl,g1,?_,g2,g3,.none,fun b hb=>by cases hb⟩;rw[a6B]at g4;exact g4
     .cases hl
    .cases hl
   .cases hl
  .cases hl
 .cases hl
end
open Go Tw
section
variable {X:kX} {P:LI1} {A F:Nat->Prop} {m m':List MB} {h h':List HB} {H H':List (PB X.Γ)}
theorem AU{o:Option (PV X.Γ)}{to:Option TV}(ho:OR X P A m h o to){d n:Nat}{a:Int}(he:zF X d o=some a)(h0:0<=a)(h1:a<=n):jD n d to=some a.toNat:=by
 cases o with
 |none=>
  cases to with
  |none=>simp only[zF,a07]at he;subst he;simp[jD]
  |some=>exact ho.elim
 |some v=>
  cases to with
  |none=>exact ho.elim
  |some x=>
   cases v<;>simp only[zF]at he<;>try (cases he;done)
   cases he;rw[OM ho];simp only[jD,qR];rw[a0A ⟨h0,h1⟩]
theorem OO{k:IntKind}{n:Int}{to:Option TV}(ho:OR X P A m h (some (.int k n)) to):to=some (.int k n):=by
 cases to with
 |none=>exact ho.elim
 |some x=>rw[OM ho]
theorem rJ{to:Option TV}(ho:OR X P A m h none to):to=none:=by
 cases to with
 |none=>rfl
 |some x=>exact ho.elim
theorem MZ{v:PV X.Γ}{to:Option TV}(ho:OR X P A m h (some v) to):∃x,to=some x:=by
 cases to with
 |none=>exact ho.elim
 |some x=>exact⟨x,rfl⟩
theorem aeV{t e:LI2}{b off len cap sz:Nat}{ex:Bool}(hu:P.underlying t=some (.slice e))(hz:dF P e=some sz){lo hi:Option (PV X.Γ)}{QF QG:Option TV}(h1:OR X P A m h lo QF)(h2:OR X P A m h hi QG){a z:Int}(e1:zF X 0 lo=some a)(e2:zF X len hi=some z)
  (q0:0<=a) (q1:a<=z) (q2:z<=len):qU P t (.aQ b off len cap sz ex) QF QG none=some (.aQ b (off+a.toNat*sz) (z.toNat-a.toNat) (cap-a.toNat) sz ex):=by
 have g1:=AU h1 e1 (n:=z.toNat) q0 (by omega);have g2:=AU h2 e2 (n:=len) (by omega) q2;simp only[qU,hu,hz,a1P,g2,g1]
theorem aaf{t e:LI2}{b off len cap sz:Nat}{ex:Bool}(hu:P.underlying t=some (.slice e))(hz:dF P e=some sz){lo hi:Option (PV X.Γ)}{QF QG:Option TV}(h1:OR X P A m h lo QF)(h2:OR X P A m h hi QG){a z:Int}(e1:zF X 0 lo=some a)(e2:zF X len hi=some z)(hs:hi.isSome)
  (q0:0<=a) (q1:a<=z) (q2:z<=len) (wL:len<=cap) {k:IntKind}:qU P t (.aQ b off len cap sz ex) QF QG (some (.int k z))=some (.aQ b (off+a.toNat*sz) (z.toNat-a.toNat) (z.toNat-a.toNat) sz true):=by
 have g1:=AU h1 e1 (n:=z.toNat) q0 (by omega);obtain⟨hv,rfl⟩:=a5o.1 hs;obtain⟨x,rfl⟩:=MZ h2;have g3:qR cap (.int k z)=some z.toNat:=by simp only[qR];rw[a0A (by omega)]
 have g2:qR (min z.toNat len) x=some z.toNat:=by
  cases hv<;>simp only[zF]at e2<;>try (cases e2;done)
  cases e2;rw[OM (show VR X P A m h _ x from h2)];simp only[qR];rw[a0A (by omega)]
 simp only[qU,hu,hz,a1P,g3,g2,g1]
theorem ZK{t e:LI2}{sz:Nat}(hu:P.underlying t=some (.slice e))(hz:dF P e=some sz){lo hi:Option (PV X.Γ)}{QF QG:Option TV}(h1:OR X P A m h lo QF)(h2:OR X P A m h hi QG){a z:Int}(e1:zF X 0 lo=some a)(e2:zF X 0 hi=some z)(q0:a=0)(q1:z=0) :
  qU P t (.nil .aQ) QF QG none=some (.nil .aQ)∧∀{k:IntKind},hi.isSome->qU P t (.nil .aQ) QF QG (some (.int k 0))=some (.nil .aQ):=by
 subst q0;subst q1;have g1:=AU h1 e1 (n:=0) (by omega) (by omega);have g2:=AU h2 e2 (n:=0) (by omega) (by omega);have g0:jD 0 0 none=some 0:=rfl;refine⟨by simp only[qU,hu,hz,g0,g1,g2];rfl,fun{k} hs=>?_⟩;obtain⟨hv,rfl⟩:=a5o.1 hs;obtain⟨x,rfl⟩:=MZ h2;have g3:jD 0 0 (some (.int k 0))=some 0:=rfl;simp only[qU,hu,hz,g1,g2,g3] ;rfl
theorem O5{ps:aU X.Γ}{ts:St}(hR:vw X P A m ps ts){t:LI2}{x:PV X.Γ}{tx:TV}(hx:VR X P (AA A m) m ts.heap x tx){lo hi mx:Option (PV X.Γ)}{QF QG tmx:Option TV}(h1:OR X P (AA A m) m ts.heap lo QF)(h2:OR X P (AA A m) m ts.heap hi QG)(h3:OR X P (AA A m) m ts.heap mx tmx){v:PV X.Γ}{qs:List Prop}
  (hl:Zz X P t ps.heap x lo hi mx=some (v,qs)) (hq:∀q∈qs,q):∃w,qU P t tx QF QG tmx=some w∧VR X P (AA A m) m ts.heap v w:=by
 have hr:=hR.heap;unfold Zz at hl;split at hl
 .rename_i e t' l fu hu;split at hl
  .rename_i n a z hz e1 e2;split at hl
   .rename_i ht;subst ht;cases hl;have q0:0<=a:=hq _ (by simp);have q1:a<=z:=hq _ (by simp);have q2:z<=(l.length:Nat):=hq _ (by simp);rw[rJ h3,ahC];cases hx with
    |pJ=>
     have ea:a=0:=by simp at q2;omega
     have ez:z=0:=by simp at q2;omega
     exact⟨_,(ZK hu hz h1 h2 e1 e2 ea ez).1,by simp only[List.drop_nil,List.take_nil];exact .pJ⟩
    |dJ p1 p2 p2' p3 p4 p5 p6 p7 p8 p9=>
     rw[hz]at p3;cases p3;exact⟨_,aeV hu hz h1 h2 e1 e2 q0 q1 q2,(VR.dJ p1 p2 p2' hz p4 p5 p6 p7 p8 p9).part (by omega) (by omega) (.inr (by omega)) (by simp)⟩
    |gone hi _ _=>simp[bC]at hi
   .cases hl
  .rename_i n a z k mv hz e1 e2;split at hl
   .rename_i ht;obtain⟨ht,BF⟩:=ht;subst ht;split at hl
    .rename_i hfu;subst hfu;cases hl;have q0:a=0:=hq _ (by simp);have q2:z=(l.length:Nat):=hq _ (by simp);have q3:mv=z:=hq _ (by simp);subst q3;subst q0;rw[OO h3];cases hx with
     |pJ=>
      have ez:mv=0:=(by simpa using q2);have:=(ZK hu hz h1 h2 e1 e2 rfl ez).2 (k:=k) BF;exact⟨_,by rw[<-ez]at this;exact this,.pJ⟩
     |dJ p1 p2 p2' p3 p4 p5 p6 p7 p8 p9=>
      rw[hz]at p3;cases p3;obtain⟨p7a,p7b⟩:=p7 rfl;subst p7a;subst p7b;refine⟨_,aaf hu hz h1 h2 e1 e2 BF (a9u 0) (by omega) (by omega) p6,?_⟩;subst q2;have:=VR.dJ (fu:=true) p1 p2 p2' hz p4 p5 (a0K _) (fun _=>⟨rfl,rfl⟩) p8 p9;simpa using this
     |gone hi _ _=>simp[bC]at hi
    cases hl;have q0:0<=a:=hq _ (by simp);have q1:a<=z:=hq _ (by simp);have q2:z<=(l.length:Nat):=hq _ (by simp);have q3:mv=z:=hq _ (by simp);have q4:a=z:=hq _ (by simp);subst q3;rw[OO h3,ahC];cases hx with
    |pJ=>
     have ea:a=0:=by simp at q2;omega
     have ez:mv=0:=by simp at q2;omega
     have:=(ZK hu hz h1 h2 e1 e2 ea ez).2 (k:=k) BF;rw[<-ez]at this;exact⟨_,this,by simp only[List.drop_nil,List.take_nil];exact .pJ⟩
    |dJ p1 p2 p2' p3 p4 p5 p6 p7 p8 p9=>
     rw[hz]at p3;cases p3;exact⟨_,aaf hu hz h1 h2 e1 e2 BF q0 q1 q2 p6,(VR.dJ p1 p2 p2' hz p4 p5 p6 p7 p8 p9).part (by omega) (by omega) (.inl (by omega)) (by simp)⟩
    |gone hi _ _=>simp[bC]at hi
   .cases hl
  .cases hl
 .rename_i e i hu;split at hl
  .rename_i kk ex t' l hb;obtain⟨mb,g1,g2⟩:=hr.at_ i _ hb;cases mb with
   |dJ y=>
    cases hx with
    |gone hi e' _=>simp only[bC,a07]at hi;subst hi;rw[g1]at e';cases e'
    |own e' o=>
     rw[g1]at e';cases e';have hlr:LR X P (AA A m) m ts.heap kk ex t' l tx:=g2;split at hl
     .rename_i n a z hz e1 e2;split at hl
      .rename_i ht;subst ht;cases hl;have q0:0<=a:=hq _ (by simp);have q1:a<=z:=hq _ (by simp);have q2:z<=(l.length:Nat):=hq _ (by simp);rw[rJ h3];cases hlr with
       |nil=>
        have ea:a=0:=by simp at q2;omega
        have ez:z=0:=by simp at q2;omega
        refine⟨_,(ZK hu hz h1 h2 e1 e2 ea ez).1,?_⟩;subst ea;subst ez;exact .BX g1
       |emp p0 p1 p2 p3 p4=>
        rw[hz]at p3;cases p3;exact⟨_,aeV (len:=0) hu hz h1 h2 e1 e2 q0 q1 q2,.win g1 (by simp at q2;omega) (by simp at q2;omega) (.inl (by simp at q2;omega))⟩
       |some p1 p2 p3 p4 p5 p6 p7 p8 p9=>
        rw[hz]at p2;cases p2;exact⟨_,aeV hu hz h1 h2 e1 e2 q0 q1 q2,.win g1 (by omega) (by omega) (.inr (by omega))⟩
      .cases hl
     .rename_i n a z k mv hz e1 e2;split at hl
      .rename_i ht;obtain⟨ht,BF⟩:=ht;subst ht;cases hl;have q0:a=0:=hq _ (by simp);have q2:z=(l.length:Nat):=hq _ (by simp);have q3:mv=z:=hq _ (by simp);subst q3;subst q0;rw[OO h3];cases hlr with
       |nil=>
        have ez:mv=0:=(by simpa using q2);have:=(ZK hu hz h1 h2 e1 e2 rfl ez).2 (k:=k) BF;exact⟨_,by rw[<-ez]at this;exact this,.Jj g1⟩
       |emp p0 p1 p2 p3 p4=>
        rw[hz]at p3;cases p3;have ez:mv=0:=(by simpa using q2);subst ez;refine⟨_,aaf (len:=0) hu hz h1 h2 e1 e2 BF (a9u 0) (by omega) (by omega) (a0K _),?_⟩;simpa using VR.Gv (X:=X) (P:=P) (A:=AA A m) (h:=ts.heap) g1
       |some p1 p2 p3 p4 p5 p6 p7 p8 p9=>
        rw[hz]at p2;cases p2;refine⟨_,aaf hu hz h1 h2 e1 e2 BF (a9u 0) (by omega) (by omega) (a0K _),?_⟩;subst q2;have:=VR.Gv (X:=X) (P:=P) (A:=AA A m) (h:=ts.heap) g1;simpa using this
      .cases hl
     .cases hl
   |_=>exact g2.elim
  .cases hl
 .rename_i e hu;have:tx=.nil .aQ:=by
   cases hx with
   |nil=>rfl
   |gone hi _ _=>simp[bC]at hi
  subst this;split at hl
  .rename_i n a z hz e1 e2;cases hl;have q0:a=0:=hq _ (by simp);have q1:z=0:=hq _ (by simp);rw[rJ h3];exact⟨_,(ZK hu hz h1 h2 e1 e2 q0 q1).1,.nil _⟩
  .rename_i n a z k mv hz e1 e2;split at hl
   .rename_i BF;cases hl;have q0:a=0:=hq _ (by simp);have q1:z=0:=hq _ (by simp);have q2:mv=0:=hq _ (by simp);subst q2;rw[OO h3];exact⟨_,(ZK hu hz h1 h2 e1 e2 q0 q1).2 BF,.nil _⟩
   .cases hl
  .cases hl
 .cases hl
theorem CU(hX:bT X P){ps:aU X.Γ}{ts:St}(hR:vw X P A m ps ts){t:LI2}{x:PE X.Γ}{ex:EV}(hx:IW X P (AA A m) m ts.heap x ex){lo hi mx:Option (PV X.Γ)}{QF QG tmx:Option TV}(h1:OR X P (AA A m) m ts.heap lo QF)(h2:OR X P (AA A m) m ts.heap hi QG)(h3:OR X P (AA A m) m ts.heap mx tmx){v:PV X.Γ}{H1:List (PB X.Γ)}{qs:List Prop}
  (hl:Jf X P t ps.heap x lo hi mx=some (v,H1,qs)) (hq:∀q∈qs,q):X9 X P A m ts ((qH P t ex QF QG tmx).map fun v=>(v,ts,cO)) v H1 xY:=by
 have hr:=hR.heap;unfold Jf at hl;split at hl
 .rename_i n e b off lim hu;split at hl
  .rename_i size hz;split at hl
   .cases hl
   .rename_i Ls;split at hl
    .cases hl
    .rw[rJ h3];obtain⟨y,rfl,hy⟩:=gq hx;split at hl
     .split at hl
      .rename_i cs hb;cases hl;rw[rJ h1,rJ h2];obtain⟨mb,g1,g2⟩:=hr.at_ b _ hb;cases mb with
       |gG c=>
        cases hy with
        |gone hi e' _=>simp only[bC,a07]at hi;subst hi;rw[g1]at e';cases e'
        |ptr e'=>
         rw[g1]at e';cases e';exact⟨.aQ c off n n size true,ts.heap,cO,m,by simp[qH,hu,hz,Ls,jD],hr,.aQ g1,.refl,.refl,.none,fun d hd=>by cases hd⟩
       |_=>exact g2.elim
      .cases hl
     .rename_i Z4 xR _;split at hl
      .rename_i cs a z hb e1 e2;split at hl
       .cases hl
       rename_i aeP;split at hl
       .rename_i rows is hd;cases hl;have q0:0<=a:=hq _ (by simp);have q1:a<=z:=hq _ (by simp);have q2:z<=(n:Nat):=hq _ (by simp);obtain⟨mb,g1,g2⟩:=hr.at_ b _ hb;cases mb with
        |gG c=>
         obtain⟨cs',g3,g4⟩:=g2;cases hy with
         |gone hi e' _=>simp only[bC,a07]at hi;subst hi;rw[g1]at e';cases e'
         |ptr e'=>
          rw[g1]at e';cases e';have f1:=AU h1 e1 (n:=z.toNat) q0 (by omega);have f2:=AU h2 e2 (n:=n) (by omega) q2;obtain⟨w1,w2⟩:=AP (m':=dh (b::is) m) hX hr (g4.drop off) hd;have w3:=w2.2.1;rw[a3U]at w3;have hgo:=hr.bg (b::is);have QE:=iI (h:=ts.heap) (b::is) m;have hnc:AA A (dh (b::is) m) c:=by refine FA.gone hr (.inr ⟨b,_,a2Z,g1,rfl⟩)
          refine⟨.aQ c (off+a.toNat*size) (z.toNat-a.toNat) (n-a.toNat) size true,ts.heap,cO,dh (b::is) m,?_,hgo,?_,QE.1,QE.2,.none,fun d hd=>by cases hd⟩
          .have f0:jD n n none=some n:=rfl;simp only[qH,hu,hz,Ls,a3y,f0,f2,f1,Option.isSome_none,Bool.false_and,a2r,a0F]
          .rw[ahC];have aiR:VR X P (AA A (dh (b::is) m)) (dh (b::is) m) ts.heap (.dJ e rows false) (.aQ c off rows.length n size true):=by
            refine .dJ hnc (by unfold aW;rw[g3]) (fun _=>wY g3 (by simp)) hz (by omega) ?_ (by omega) (by simp) w2.1 (fun j y i d v hj hi hx=>?_)
            .rw[w1,<-g4.1];omega
            .refine(w2.2.2 j y i d v hj hi ?_).mono fun q hq=>FA.gone hr (FA.mono (fun i hi=>a3x _ hi) hq);rw[a4O,<-hx];congr 1;omega
           exact aiR.part (by omega) (by omega) (.inr (by omega)) (by simp)
        |_=>exact g2.elim
       .cases hl
      .cases hl
  .cases hl
 .cases hl
theorem UQ{ps:aU X.Γ}{ts:St}(hR:vw X P A m ps ts){t:LI2}{x:PE X.Γ}{ex:EV}(hx:IW X P (AA A m) m ts.heap x ex){lo hi:Option (PV X.Γ)}{QF QG tmx:Option TV}(h1:OR X P (AA A m) m ts.heap lo QF)(h2:OR X P (AA A m) m ts.heap hi QG)(h3:OR X P (AA A m) m ts.heap none tmx){v:PV X.Γ}
  (hl:G5 X P t ps.heap x lo hi=some v):X9 X P A m ts ((qH P t ex QF QG tmx).map fun v=>(v,ts,cO)) v ps.heap xY:=by
 have hr:=hR.heap;unfold G5 at hl;split at hl
 .rename_i n e b off lim hu;split at hl
  .rename_i size cs a z hz hb e1 e2;split at hl
   .cases hl
   .rename_i Ls;split at hl
    .rename_i hq;cases hl;rw[rJ h3];obtain⟨y,rfl,hy⟩:=gq hx;obtain⟨mb,g1,g2⟩:=hr.at_ b _ hb;cases mb with
     |gG c=>
      cases hy with
      |gone hi e' _=>simp only[bC,a07]at hi;subst hi;rw[g1]at e';cases e'
      |ptr e'=>
       rw[g1]at e';cases e';have f1:=AU h1 e1 (n:=z.toNat) hq.1 (by omega);have f2:=AU h2 e2 (n:=n) (by omega) hq.2.2;refine⟨.aQ c (off+a.toNat*size) (z.toNat-a.toNat) (n-a.toNat) size true,ts.heap,cO,m,?_,hr,.aQ g1,.refl,.refl,.none,fun d hd=>by cases hd⟩;have f0:jD n n none=some n:=rfl;simp only[qH,hu,hz,Ls,a3y,f0,f2,f1,Option.isSome_none,Bool.false_and,a2r,a0F]
     |_=>exact g2.elim
    .cases hl
  .cases hl
 .cases hl
end
open Go Tw
section
variable {X:kX} {P:LI1} {A B F:Nat->Prop} {m m':List MB} {h h':List HB} {H H':List (PB X.Γ)}
theorem wu:∀{vs:List (PV X.Γ)} {i:Nat} {v:PV X.Γ},xX.Hl vs=false->vs[i]? = some v->xX v=false
 | [],_,_,_,h=>by simp at h
 |a::vs,i,v,hc,h=>by
  simp only[xX.Hl,a9S]at hc;cases i with
  |zero=>simp only[a2S,a07]at h;subst h;exact hc.1
  |succ i=>exact wu hc.2 (by simpa using h)
theorem tH{k:Nat}:∀{vs:List (PV X.Γ)} {i:Nat} {v:PV X.Γ},(shift.shifts k vs)[i]? = some v->∃u,vs[i]? = some u∧v=shift k u
 | [],_,_,h=>by simp[shift.shifts]at h
 |a::vs,i,v,h=>by
  cases i with
  |zero=>simp only[shift.shifts,a2S,a07]at h;exact⟨a,rfl,h.symm⟩
  |succ i=>obtain⟨u,h1,h2⟩:=tH (vs:=vs) (i:=i) (by simpa[shift.shifts]using h);exact⟨u,by simpa using h1,h2⟩
theorem tJ{k:Nat}:∀{vs:List (PV X.Γ)},(shift.shifts k vs).length=vs.length
 | []=>rfl
 |a::vs=>by simp[shift.shifts,tJ (vs:=vs)]
theorem ZL{k i:Nat}{v:PV X.Γ}(h:bC v=some i):bC (shift k v)=some (i+k):=by cases v<;>simp[bC]at h<;>subst h<;>rfl
theorem VR.shift(hX:bT X P){m0:List MB}{v:PV X.Γ}{x:TV}(hv:VR X P A m h v x)(hq:(∀b,A b->B b)∨xX v=false):VR X P B (m0++m) h (Pv.shift m0.length v) x:=by
 have at':∀{i:Nat} {mb:MB},m[i]? = some mb->(m0++m)[i+m0.length]? = some mb:=by intro i mb hi;rw[a0L (by omega)];simpa using hi
 induction hv with
 |bool=>exact .bool _
 |lit=>exact .lit _
 |int=>exact .int _ _
 |str=>exact .str _
 |nil=>exact .nil _
 |ptr e=>exact .ptr (at' e)
 |aQ e=>exact .aQ (at' e)
 |own e o=>exact .own (at' e) o
 |win e q q' q2=>exact .win (at' e) q q' q2
 |BX e=>exact .BX (at' e)
 |Gv e=>exact .Gv (at' e)
 |Jj e=>exact .Jj (at' e)
 |map e=>exact .map (at' e)
 |iter e=>exact .iter (at' e)
 |fn h1 _ h3 _ i2 i4=>
  refine .fn (by rw[tJ,h1]) (fun i x y hx hy=>?_) (by rw[tJ,h3]) (fun i x y hx hy=>?_)
  .obtain⟨u,g1,rfl⟩:=tH hx;exact i2 i u y g1 hy (hq.imp_right fun hq=>by simp only[xX,a9S]at hq;exact wu hq.1 g1)
  obtain⟨u,g1,rfl⟩:=tH hx;exact i4 i u y g1 hy (hq.imp_right fun hq=>by simp only[xX,a9S]at hq;exact wu hq.2 g1)
 |kW e=>exact .kW (at' e)
 |agg h1 _ i2=>
  refine .agg (by rw[tJ,h1]) (fun i x y hx hy=>?_);obtain⟨u,g1,rfl⟩:=tH hx;exact i2 i u y g1 hy (hq.imp_right fun hq=>by simp only[xX]at hq;exact wu hq g1)
 |dI h1 _ i2=>
  refine .dI (by rw[tJ,h1]) (fun i x y hx hy=>?_);obtain⟨u,g1,rfl⟩:=tH hx;exact i2 i u y g1 hy (hq.imp_right fun hq=>by simp only[xX]at hq;exact wu hq g1)
 |pJ=>exact .pJ
 |dJ a c c2 s z o k f e r _=>
  rcases hq with hq|hq
  .exact .dJ (hq _ a) c c2 s z o k f e fun j y i d v h1 h2 h3=>((r j y i d v h1 h2 h3).mono hq).jr hX (fM (hX.jr _ _) h2)
  simp[xX]at hq
 |el a c l o e q r _=>
  rcases hq with hq|hq
  .exact .el (hq _ a) c l o e q fun i d v h1 h2=>((r i d v h1 h2).mono hq).jr hX (fM (hX.jr _ _) h1)
  simp[xX]at hq
 |row e j q=>exact .row (at' e) j q
 | @gone v i x hi e o=>
  have e':(m0++m)[i+m0.length]? = m[i]?:=by rw[a0L (by omega)];congr 1;omega
  exact .gone (ZL hi) (by rw[e'];exact e.as fun c=>by cases v<;>rfl) o
theorem bW.shift(hX:bT X P){m0:List MB}{v:List (PV X.Γ)}{x:List TV}(hv:bW X P A m h v x)(hq:(∀b,A b->B b)∨xX.Hl v=false):bW X P B (m0++m) h (Pv.shift.shifts m0.length v) x:=by refine⟨by rw[tJ,hv.1],fun i a b ha hb=>?_⟩;obtain⟨u,g1,rfl⟩:=tH ha;exact(hv.2 i u b g1 hb).shift hX (hq.imp_right fun hq=>wu hq g1)
theorem BR.shift(hX:bT X P){m0:List MB}{b b':PB X.Γ}{mb:MB}(hb:BR X P A m h b mb)(hs:FX X m0.length b=some b')(hq:(∀c,A c->B c)∨hasB X b=false):BR X P B (m0++m) h b' mb:=by
 cases b with
 |cells cs=>
  cases mb with
  |gG c=>
   simp only[FX,a07]at hs;subst hs;obtain⟨cs',h1,h2⟩:=hb;exact⟨cs',h1,h2.shift hX hq⟩
  |_=>exact hb.elim
 |list k ex t l=>
  cases mb with
  |dJ y=>
   simp only[FX,a07]at hs;subst hs;rcases hq with hq|hq
   .cases(hb:LR X P A m h k ex t l y)with
    |nil=>exact LR.nil
    |emp p0 p1 p2 p3 p4=>exact LR.emp (hq _ p0) p1 p2 p3 p4
    |some p1 p2 p3 p4 p5 p6 p7 p8 p9=>exact LR.some p1 p2 p3 p4 p5 p6 p7 p8 ((p9.mono hq).jr hX)
   simp[hasB]at hq
  |_=>exact hb.elim
 |gone=>
  cases mb with
  |gone=>simp only[FX,a07]at hs;subst hs;trivial
  |_=>exact hb.elim
 |_=>simp[FX]at hs
theorem KP{k:Nat}:∀{bs bs':List (PB X.Γ)} {i:Nat} {b':PB X.Γ},ru X k bs=some bs'->bs'[i]? = some b'->∃b,bs[i]? = some b∧FX X k b=some b'
 | [],bs',i,b',h,hi=>by simp only[ru,a07]at h;subst h;simp at hi
 |b::bs,bs',i,b',h,hi=>by
  simp only[ru]at h;split at h
  .rename_i c cs h1 h2;cases h;cases i with
   |zero=>simp only[a2S,a07]at hi;subst hi;exact⟨b,rfl,h1⟩
   |succ i=>obtain⟨d,g1,g2⟩:=KP h2 (i:=i) (by simpa using hi);exact⟨d,by simpa using g1,g2⟩
  cases h
theorem KQ{k:Nat}:∀{bs bs':List (PB X.Γ)},ru X k bs=some bs'->bs'.length=bs.length
 | [],bs',h=>by simp only[ru,a07]at h;subst h;rfl
 |b::bs,bs',h=>by
  simp only[ru]at h;split at h
  .rename_i c cs h1 h2;cases h;simp[KQ h2]
  cases h
def pR(X:kX)(P:LI1)(call:aZ)(f:FuncId)(vs:List (PV X.Γ))(v:PV X.Γ)(ext:List (PB X.Γ)):Prop:=
 ∀(A:Nat->Prop) (h:List HB) (first args cap:List TV),(∀b,h.length<=b->A b)->bW X P A [] h vs (first++args++cap) ->
  ∃w h' m',call (.fn f first cap) args h=some (w,h',[])∧HR X P A m' ext h'∧VR X P (AA A m') m' h' v w∧Fr [] h m' h'
theorem I9(hX:bT X P){call:aZ}{f:FuncId}{first xs cap vs:List (PV X.Γ)}{v:PV X.Γ}{ext ext':List (PB X.Γ)}(hc:pR X P call f vs v ext)(hr:HR X P A m H h)(hv:views H (first++xs++cap)=some vs)(hs:ru X H.length ext=some ext')
  {t1 t2 t3:List TV} (h1:bW X P (AA A m) m h first t1) (h2:bW X P (AA A m) m h xs t2) (h3:bW X P (AA A m) m h cap t3) :
  ∃w h' m1,call (.fn f t1 t3) t2 h=some (w,h',[])∧HR X P A m1 ((if xX v||ext.any (hasB X)then bg (l7.kH (first++xs++cap)) H else H)++ext') h'∧VR X P (AA A m1) m1 h' (shift H.length v) w∧Fr m h m1 h'∧Up m m1:=by
 have hvs:=lM (m':=[]) hX hr ((h1.app h2).app h3) hv (is:=l7.kH (first++xs++cap)) fun i hi=>hi;generalize l7.kH (first++xs++cap)=is at hvs ⊢;obtain⟨w,h',m',c1,c2,c3,c4⟩:=hc (fun b=>FA A m is b∨h.length<=b) h t1 t2 t3 (fun b hb=>.inr hb) (hvs.mono fun b hb=>.inl hb);have hold:∀b,b<h.length->h'[b]? = h[b]?:=fun b hb=>c4.same b hb (by simp[bn]);have gu:∀b,b∈bn m'->h.length<=b:=fun b hb=>by
  rcases c4.new b hb with h0|h0
  .simp[bn]at h0
  .exact h0
 have key:∀(m0:List MB) (H0:List (PB X.Γ)),HR X P A m0 H0 h->Fr m h m0 h->Up m m0->m0.length=H.length->((∀b,FA A m is b->AA A m0 b)∨(xX v||ext.any (hasB X))=false) ->
   ∃m1,HR X P A m1 (H0++ext') h'∧VR X P (AA A m1) m1 h' (shift H.length v) w∧Fr m h m1 h'∧Up m m1:=by
  intro m0 H0 ZM hF0 hU0 qN hq;have hF:Fr m0 h (m0++m') h':=by refine⟨c4.len,fun b hb _=>hold b hb,fun b hb=>?_,fun b cs hc=>⟨cs,by rw[fZ (hold b (fU hc)),hc],a0K _⟩⟩;rw[jh,a3s]at hb;exact hb.imp_right fun hb=>gu b hb
  have hA:(∀b,AA (fun b=>FA A m is b∨h.length<=b) m' b->AA A (m0++m') b)∨(xX v||ext.any (hasB X))=false:=by
   refine hq.imp_left fun hq b hb=>?_;refine⟨?_,fun hm=>?_⟩
   .rcases hb.1 with h0|h0
    .exact(hq b h0).1
    .exact hr.up b h0
   .rw[jh,a3s]at hm;rcases hm with hm|hm
    .rcases hb.1 with h0|h0
     .exact(hq b h0).2 hm
     .have:=ZM.inb hm;omega
    .exact hb.2 hm
  refine⟨m0++m',?_,?_,hF0.trans hF,hU0.trans (wZ _)⟩
  .refine ZM.next hF (wZ _) (by rw[a1w,a1w,ZM.len,KQ hs,c2.len]) ?_ fun i b hi=>?_
   .rw[jh];refine a9n.2 ⟨ZM.nodup,c2.nodup,fun a ha b hb e=>?_⟩;subst e;have:=ZM.inb ha;have:=gu a hb;omega
   .rcases a4N i H0.length with aT|EW
    .left;rw[a0m aT]at hi;obtain⟨mb,g1,g2⟩:=ZM.at_ i b hi;exact⟨mb,hi,g1,by rw[a0m (by rw[ZM.len];exact aT)];exact g1,fun c hc=>hold c (g2.has hc)⟩
    .right;rw[a0L EW]at hi;obtain⟨b0,g1,g2⟩:=KP hs hi;obtain⟨mb,g3,g4⟩:=c2.at_ _ _ g1;refine⟨mb,by rw[a0L (by rw[ZM.len];exact EW),ZM.len];exact g3,?_⟩;rw[<-qN]at g2;refine g4.shift hX g2 (hA.imp_right fun hq=>?_);simp only[a9S,List.any_eq_false]at hq;simpa using hq.2 b0 (a4Y g1)
  .rw[<-qN];exact c3.shift hX (hA.imp_right fun hq=>by simp only[a9S]at hq;exact hq.1)
 refine⟨w,h',?_⟩;by_cases hL:(xX v||ext.any (hasB X))=true
 .rw[a0A hL];obtain⟨m1,e1,e2,e3,e4⟩:=key (dh is m) (bg is H) (hr.bg is) (iI (h:=h) is m).1 (iI (h:=h) is m).2 (by rw[mV,hr.len]) (.inl fun b hb=>hb.gone hr);exact⟨m1,c1,e1,e2,e3,e4⟩
 .rw[a0y hL];obtain⟨m1,e1,e2,e3,e4⟩:=key m H hr .refl .refl hr.len (.inr (by simpa using hL));exact⟨m1,c1,e1,e2,e3,e4⟩
end
open Go Tw
section
variable {X:kX} {P:LI1} {A B F:Nat->Prop} {m m':List MB} {h h':List HB} {H H':List (PB X.Γ)}
def dG(X:kX)(P:LI1)(call:aZ):a3q X.Γ:=fun fv xs H v H1=>
 ∀(A:Nat->Prop) (m:List MB) (h:List HB) (tf:TV) (rM:List TV),HR X P A m H h->VR X P (AA A m) m h fv tf->bW X P (AA A m) m h xs rM ->
  ∃w h1 ws m1,call tf rM h=some (w,h1,ws)∧HR X P A m1 H1 h1∧VR X P (AA A m1) m1 h1 v w∧Fr m h m1 h1∧Up m m1∧∀b∈ws,b∈bn m
def jJ(X:kX)(P:LI1)(call:aZ)(fV:fF X.Γ):Prop:=∀f vs v ext ps,fV f vs=some (v,ext,ps)->(∀p∈ps,p)->pR X P call f vs v ext
theorem uN{ρ:Type}{y:ρ}:∀{ps:List Prop} {x:OT ρ},(owe ps x).Ends y->(∀p∈ps,p)∧x.Ends y
 | [],x,h=>⟨by simp,h⟩
 |p::ps,x,h=>by have:=uN h.2;exact⟨fun q hq=>by rcases a1z.1 hq with rfl|hq;exact h.1;exact this.1 q hq,this.2⟩
theorem ZN{ρ:Type}{y:ρ}{u:PV X.Γ}{an:PT X.Γ}{k:Bool->PT X.Γ->OT ρ}(hk:(byB X u an k).Ends y){tu:TV}(hu:VR X P A m h u tu):∃t Ia,tu=.bool t∧(k t Ia).Ends y:=by
 cases u with
 |lit b=>
  have:tu=.bool b:=by
   cases hu with
   |lit=>rfl
   |gone hi _ _=>simp[bC]at hi
  exact⟨b,an,this,hk⟩
 |bool b=>
  have hb:tu=.bool b:=by
   cases hu with
   |bool=>rfl
   |gone hi _ _=>simp[bC]at hi
  subst hb;cases an with
  |s x z=>
   rcases hk with⟨h1,h2⟩|⟨h1,h2⟩
   .subst h1;exact⟨true,x,rfl,h2⟩
   subst h1;exact⟨false,z,rfl,h2⟩
  |a x r=>
   cases x with
   |br t=>obtain⟨h1,h2⟩:=hk;subst h1;exact⟨_,r,rfl,h2⟩
   |_=>exact hk.elim
  |_=>exact hk.elim
 |_=>exact hk.elim
theorem rO:∀{es:List (PV X.Γ×PV X.Γ)} {gy:List (TV×TV)} {ks:List TV},es.length=gy.length->(∀(i:Nat) x y,es[i]? = some x->gy[i]? = some y->VR X P A m h x.1 y.1∧VR X P A m h x.2 y.2)->vM X es=some ks->gy.map (·.1)=ks
 | [],gy,ks,hl,_,hk=>by
  simp only[vM,a07]at hk;subst hk;cases gy with
  |nil=>rfl
  |cons=>simp at hl
 |(k,v)::es,gy,ks,hl,he,hk=>by
  cases gy with
  |nil=>simp at hl
  |cons y gy=>
   simp only[vM]at hk;split at hk
   .rename_i a b h1 h2;cases hk;have:=jR (he 0 _ _ rfl rfl).1 h1;simp only[a4L,this];rw[rO (by simpa using hl) (fun i x z hx hz=>he (i+1) x z (by simpa using hx) (by simpa using hz)) h2]
   cases hk
theorem Xd:∀{ks:List TV} {vs:List LI3},BO ks=some vs->vs.length=ks.length
 | [],vs,h=>by simp only[BO,a07]at h;subst h;rfl
 |k::ks,vs,h=>by
  simp only[BO]at h;split at h
  .rename_i v ws _ h2;cases h;simp[Xd h2]
  cases h
theorem pW{kt:LI2}{k:LI3}{gy:List (TV×TV)}:ES P kt k gy=vN P kt k (gy.map (·.1)):=by
 unfold ES vN;cases hv:BO (gy.map (·.1))with
 |none=>rfl
 |some vs=>
  have hl:=Xd hv;have:gy.isEmpty=vs.isEmpty:=by cases gy<;>cases vs<;>simp at hl<;>rfl
  simp only[this]<;>rfl
def SB:TV->List Key
 |.map r=>[.h r]
 |_=>[]
def a3v(h:List HB):TV->Option (List (TV×TV))
 |.nil .map=>some []
 |.map r=>match h[r]? with
  |some (.map es)=>some es
  |_=>none
 |_=>none
theorem KR{t:LI2}{h:List HB}{tm tk:TV}{ok:Bool}{kt e:LI2}{kv:LI3}{es:List (TV×TV)}(hu:P.underlying t=some (.map kt e))(hk:tk.yL=some kv)(he:a3v h tm=some es) :
  gZ P t h tm tk ok=match ES P kt kv es with
   |some (some i)=>match es[i]? with
    |some (_,v)=>some (if ok then .dI [v,.bool true]else v)
    |none=>none
   |some none=>match P.info? e with
    |some i=>match i.zero with
     |some z=>(TV.VO z).map fun z=>if ok then .dI [z,.bool false]else z
     |none=>none
    |none=>none
   |none=>none:=by
 unfold gZ;simp only[hu,hk];cases tm with
 |nil k=>
  cases k<;>simp only[a3v]at he<;>try (cases he;done)
  cases he;rfl
 |map r=>
  simp only[a3v]at he;split at he
  .rename_i es0 hb;cases he;simp only[hb];rfl
  .cases he
 |_=>simp[a3v]at he
theorem Df{H:List (PB X.Γ)}{h:List HB}(hr:HR X P A m H h){r:Nat}{es:List (PV X.Γ×PV X.Γ)}(he:KN X H r=some es):∃c gy,(m[r]? = some (.gG c)∨(m[r]? = some (.jw c)∧c∉bn m))∧h[c]? = some (.map gy)∧es.length=gy.length ∧
  ∀(i:Nat) x y,es[i]? = some x->gy[i]? = some y->qo x.1=some y.1∧qo x.2=some y.2:=by
 unfold KN at he;split at he
 .rename_i es0 hb;cases he;obtain⟨mb,g1,g2⟩:=hr.at_ r _ hb;cases mb with
  |gG c=>obtain⟨gy,g3,g4,g5⟩:=g2;exact⟨c,gy,.inl g1,g3,g4,g5⟩
  |_=>exact g2.elim
 .rename_i es0 hb;cases he;obtain⟨mb,g1,g2⟩:=hr.at_ r _ hb;cases mb with
  |jw c=>obtain⟨g0,gy,g3,g4,g5⟩:=g2;exact⟨c,gy,.inr ⟨g1,g0⟩,g3,g4,g5⟩
  |_=>exact g2.elim
 .cases he
theorem a1x{B:Nat->Prop}{h:List HB}{r c:Nat}{tm:TV}(hm:VR X P B m h (.map r) tm)(hc:m[r]? = some (.gG c)∨(m[r]? = some (.jw c)∧c∉bn m)):tm=.map c:=by
 cases hm with
 |map e=>
  rcases hc with h|⟨h,_⟩<;>rw[h]at e<;>cases e
  rfl
 |gone hi e _=>
  simp only[bC,a07]at hi;subst hi;rcases hc with h|⟨h,_⟩<;>rw[h]at e
  .cases e
  cases e with
  |r c hv=>simp only[roV,a07]at hv;exact hv.symm
theorem SC{r c:Nat}{ks:List Key}(hc:m[r]? = some (.gG c)∨(m[r]? = some (.jw c)∧c∉bn m)):(∃i,Key.h i∈Key.h r::ks∧G8 m i c)∨c∉bn m:=by
 rcases hc with h|⟨_,h⟩
 .exact .inl ⟨r,by simp,iM h rfl⟩
 exact .inr h
theorem aeW{ps:aU X.Γ}{ts:St}(hR:vw X P A m ps ts){mv:PV X.Γ}{tm:TV}(hm:VR X P (AA A m) m ts.heap mv tm){es:List (PV X.Γ×PV X.Γ)}(he:a6n X ps.heap mv=some es) :
  ∃gy,a3v ts.heap tm=some gy∧es.length=gy.length∧(∀(i:Nat) x y,es[i]? = some x->gy[i]? = some y->VR X P (AA A m) m ts.heap x.1 y.1∧VR X P (AA A m) m ts.heap x.2 y.2) ∧
   IR m ts.heap ⟨fP (S9 X mv),false,false,true⟩ (fP (SB tm)):=by
 cases mv with
 |nil k=>
  cases hm with
  |nil=>
   cases k<;>simp only[a6n]at he<;>try (cases he;done)
   cases he;exact⟨[],rfl,rfl,fun i x y hx=>by simp at hx,IR.reads rfl (by simp[SB]) (by simp[SB])⟩
  |gone hi _ _=>simp[bC]at hi
 |map r=>
  simp only[a6n]at he;obtain⟨c,gy,g0,g3,g4,g5⟩:=Df hR.heap he;have htm:=a1x hm g0;subst htm;refine⟨gy,by simp only[a3v,g3],g4,fun i x y e1 e2=>⟨nX (g5 i x y e1 e2).1,nX (g5 i x y e1 e2).2⟩,IR.reads rfl (fun b hb=>?_) (by simp[SB])⟩;simp[SB]at hb;subst hb;exact⟨SC g0,(a08.1 g3).1⟩
 |_=>simp[a6n]at he
theorem N7{a b:PV X.Γ}{x y:TV}(h1:VR X P A m h a x)(h2:VR X P A m h b y):VR X P A m h (.dI [a,b]) (.dI [x,y]):=by
 have:=(bW.nil (X:=X) (P:=P) (A:=A) (m:=m) (h:=h)).cons h2 |>.cons h1
 exact .dI this.1 this.2
theorem Xe{e:LI2}{z:PV X.Γ}(h:OD X P e=some z):∃i z0 z1,P.info? e=some i∧i.zero=some z0∧TV.VO z0=some z1∧YL z1=some z:=by
 unfold OD at h;split at h
 .rename_i i hi;split at h
  .rename_i z0 hz0;split at h
   .rename_i z1 hz1;exact⟨i,z0,z1,hi,hz0,hz1,h⟩
   cases h
  cases h
 cases h
theorem aai{ρ:Type}{y:ρ}{ps:aU X.Γ}{ts:St}(hR:vw X P A m ps ts){t:LI2}{mv kv:PV X.Γ}{tm tk:TV}(hm:VR X P (AA A m) m ts.heap mv tm)(hk:VR X P (AA A m) m ts.heap kv tk){ok:Bool}{an:PT X.Γ}{c:PE X.Γ->PI->PT X.Γ->OT ρ}
  (hl:(ZE X P t ps mv kv ok an c).Ends y):∃v pi Ia w,gZ P t ts.heap tm tk ok=some w∧VR X P (AA A m) m ts.heap v w∧(c (.val v) pi Ia).Ends y∧IR m ts.heap pi (fP (SB tm)):=by
 unfold ZE at hl;split at hl
 .rename_i kt e tk' es hu htk Md;have:=jR hk htk;subst this;obtain⟨gy,f1,f2,f3,f4⟩:=aeW hR hm Md;have fnd:∀{xZ ks j k0 v},tk.yL=some xZ->vM X es=some ks->vN P kt xZ ks=some (some j)->es[j]? = some (k0,v)->∃w,gZ P t ts.heap tm tk ok=some w∧VR X P (AA A m) m ts.heap (if ok then .dI [v,.bool true]else v) w:=by
   intro xZ ks j k0 v OQ EZ OU hj;have sN:=rO f2 f3 EZ;have aT:j<gy.length:=by rw[<-f2];exact(a08.1 hj).1
   have DZ:=a0d aT;have hv:=(f3 j _ _ hj DZ).2;refine⟨(if ok then .dI [gy[j].2,.bool true]else gy[j].2),?_,?_⟩
   .rw[KR hu OQ f1];simp only[pW,sN,OU,DZ]
   .cases ok with
    |true=>exact N7 hv (.bool _)
    |false=>exact hv
  have non:∀{xZ ks z},tk.yL=some xZ->vM X es=some ks->vN P kt xZ ks=some none->OD X P e=some z->∃w,gZ P t ts.heap tm tk ok=some w∧VR X P (AA A m) m ts.heap (if ok then .dI [z,.bool false]else z) w:=by
   intro xZ ks z OQ EZ OU hz;have sN:=rO f2 f3 EZ;obtain⟨i,z0,z1,hi,hz0,hz1,hz2⟩:=Xe hz;refine⟨(if ok then .dI [z1,.bool false]else z1),?_,?_⟩
   .rw[KR hu OQ f1];simp only[pW,sN,OU,hi,hz0,hz1,a0F]
   .cases ok with
    |true=>exact N7 (xg hz2) (.bool _)
    |false=>exact xg hz2
  split at hl
  .obtain⟨⟨xZ,ks,j,k0,g1,g2,g3,g4⟩,hl⟩:=hl;obtain⟨w,w1,w2⟩:=fnd g1 g2 g3 g4;exact⟨_,_,_,w,w1,w2,hl,f4⟩
  .split at hl
   .rename_i z hz;obtain⟨⟨xZ,ks,g1,g2,g3⟩,hl⟩:=hl;obtain⟨w,w1,w2⟩:=non g1 g2 g3 hz;exact⟨_,_,_,w,w1,w2,hl,f4⟩
   .exact hl.elim
  .split at hl
   .rename_i z hz;obtain⟨⟨xZ,ks,g1,g2,g3⟩,hl⟩:=hl;obtain⟨w,w1,w2⟩:=non g1 g2 g3 hz;exact⟨_,_,_,w,w1,w2,hl,f4⟩
   .exact hl.elim
  .split at hl
   .rename_i xZ ks OQ EZ;split at hl
    .rename_i j r _ _;split at hl
     .rename_i k0 v hj;obtain⟨OU,hl⟩:=hl;obtain⟨w,w1,w2⟩:=fnd OQ EZ OU hj;exact⟨_,_,_,w,w1,w2,hl,f4⟩
     .exact hl.elim
    .split at hl
     .rename_i z hz;obtain⟨OU,hl⟩:=hl;obtain⟨w,w1,w2⟩:=non OQ EZ OU hz;exact⟨_,_,_,w,w1,w2,hl,f4⟩
     .exact hl.elim
    .exact hl.elim
   .exact hl.elim
 .exact hl.elim
theorem a3w{x:TV}{v:PV X.Γ}(h:ofC x=some v):qZ v=some x:=by cases x<;>simp only[ofC,a07,reduceCtorEq]at h<;>subst h<;>rfl
theorem OV:∀{x:List TV} {v:List (PV X.Γ)},Cm x=some v->iO v=some x
 | [],v,h=>by cases h;rfl
 |a::l,v,h=>by
  simp only[Cm]at h;split at h
  .rename_i b bs h1 h2;cases h;simp only[iO,a3w h1,OV h2]
  cases h
theorem aaj{x:TV}{v:PV X.Γ}(h:YL x=some v):qo v=some x:=by
 cases x
 case agg cs=>
  simp only[YL,a09]at h;obtain⟨w,h1,rfl⟩:=h;simp only[qo,OV h1,a0F]
 all_goals
  simp only[YL,ofC,a07,reduceCtorEq]at h
  try subst h
  try rfl
theorem ZO{ps:aU X.Γ}{ts:St}(hR:vw X P A m ps ts){r cb:Nat}{es0:List (TV×TV)}(g1:m[r]? = some (.gG cb))(f1:ts.heap[cb]? = some (.map es0))(en:List (PV X.Γ×PV X.Γ))(en':List (TV×TV))(h1:en.length=en'.length)
  (h2:∀(i:Nat) x y,en[i]? = some x->en'[i]? = some y->qo x.1=some y.1∧qo x.2=some y.2) :
  vw X P A m { ps with heap:=ps.heap.set r (.map en) } { ts with heap:=ts.heap.set cb (.map en') }∧Fr m ts.heap m (ts.heap.set cb (.map en')):=by
 have aT:=(a08.1 f1).1;obtain⟨q1,q2⟩:=hR.heap.set (pb:=.map en) (hb:=.map en') g1 (c:=cb) rfl (fun cs hc=>by simp[aW,f1]at hc) fun hF=>⟨en',by simp[aT],h1,h2⟩;exact⟨hR.step q1 q2 .refl,q2⟩
theorem SE{es:List (PV X.Γ×PV X.Γ)}{gy:List (TV×TV)}(f2:es.length=gy.length)(f3:∀(i:Nat) x y,es[i]? = some x->gy[i]? = some y->qo x.1=some y.1∧qo x.2=some y.2){k v:PV X.Γ}{tk tv:TV}(h1:qo k=some tk)(h2:qo v=some tv) :
  ∀(i:Nat) x y,(es++[(k,v)])[i]? = some x->(gy++[(tk,tv)])[i]? = some y->qo x.1=some y.1∧qo x.2=some y.2:=fun i a b ha qM=>by
 rcases a4N i es.length with aT|EW
 .rw[a0m aT]at ha;rw[a0m (by rw[<-f2];exact aT)]at qM;exact f3 i a b ha qM
 .rw[a0L EW]at ha;rw[a0L (by rw[<-f2];exact EW),<-f2]at qM;cases hx:i-es.length with
  |zero=>
   rw[hx]at ha qM;simp only[a2S,a07]at ha qM;subst ha;subst qM;exact⟨h1,h2⟩
  |succ n=>rw[hx]at ha;simp at ha
theorem a6D{ps:aU X.Γ}{ts:St}(hR:vw X P A m ps ts){r:Nat}{es:List (PV X.Γ×PV X.Γ)}{tm:TV}(hb:ps.heap[r]? = some (.map es))(hm:VR X P (AA A m) m ts.heap (.map r) tm) :
  ∃cb gy,tm=.map cb∧m[r]? = some (.gG cb)∧ts.heap[cb]? = some (.map gy)∧es.length=gy.length∧∀(i:Nat) x y,es[i]? = some x->gy[i]? = some y->qo x.1=some y.1∧qo x.2=some y.2:=by
 obtain⟨mb,g1,g2⟩:=hR.heap.at_ r _ hb;cases mb with
 |gG cb=>
  obtain⟨gy,f1,f2,f3⟩:=g2;cases hm with
  |gone hi e' _=>simp only[bC,a07]at hi;subst hi;rw[g1]at e';cases e'
  |map e'=>rw[g1]at e';cases e';exact⟨cb,gy,rfl,g1,f1,f2,f3⟩
 |_=>exact g2.elim
theorem aak{ρ:Type}{y:ρ}{ps:aU X.Γ}{ts:St}(hR:vw X P A m ps ts){t:LI2}{mv kv:PV X.Γ}{tm tk:TV}(hm:VR X P (AA A m) m ts.heap mv tm)(hk:VR X P (AA A m) m ts.heap kv tk){an:PT X.Γ}{c:PE X.Γ->aU X.Γ->PI->PT X.Γ->OT ρ}
  (hl:(a6q X P t ps mv kv an c).Ends y):∃e e' ps1 pi Ia h1 ti,CJ P t ts tm tk=some (e',{ ts with heap:=h1 },ti)∧IW X P (AA A m) m h1 e e'∧vw X P A m ps1 { ts with heap:=h1 }∧Fr m ts.heap m h1∧(c e ps1 pi Ia).Ends y∧IR m ts.heap pi ti∧∀b,.h b∈ti.ws->b∈bn m:=by
 unfold a6q at hl;split at hl
 .rename_i kt e tk' r hu htk;have:=jR hk htk;subst this;split at hl
  .rename_i es hb;obtain⟨cb,gy,rfl,g1,f1,f2,f3⟩:=a6D hR hb hm;have f3v:∀(i:Nat) x y,es[i]? = some x->gy[i]? = some y->VR X P (AA A m) m ts.heap x.1 y.1∧VR X P (AA A m) m ts.heap x.2 y.2:=fun i x y e1 e2=>⟨nX (f3 i x y e1 e2).1,nX (f3 i x y e1 e2).2⟩;have aT:=(a08.1 f1).1;split at hl
   .rename_i v _ j rest;split at hl
    case h_2=>exact hl.elim
    rename_i va vx;obtain⟨⟨xZ,ks,old,ov,OQ,c1,EZ,c2,hj,hold,hov,c3⟩,hl⟩:=hl;have sN:=rO f2 f3v EZ;have DZ:j<gy.length:=by rw[<-f2];exact(a08.1 hj).1
    have VQ:=a0d DZ;have hy1:(gy[j]).1=old:=by
     have:(gy.map (·.1))[j]? = some (gy[j]).1:=by rw[a4T,VQ];rfl
     rw[sN,hold]at this;exact(a9A this).symm
    have htv:=(f3 j _ _ hj VQ).2;obtain⟨w1,w2⟩:=ZO hR g1 f1 es (gy.set j (tk,(gy[j]).2)) (by simp[f2]) fun i a b ha qM=>by
     by_cases e:j=i
     .subst e;rw[a4P,VQ]at qM;rw[hj]at ha;cases ha;cases qM;exact⟨htk,htv⟩
     .rw[a0R e]at qM;exact f3 i a b ha qM
    have FP:ps.heap.set r (.map es)=ps.heap:=by
     refine aa6 fun i=>?_;by_cases e:r=i
     .subst e;rw[a1y (a08.1 hb).1,hb]
     .rw[a0R e]
    rw[FP]at w1;refine⟨.ent r j (.int va vx),.ent cb j (gy[j]).2,_,_,_,_,pz (.h cb),?_,⟨.map g1,rfl,htv⟩,w1,w2,hl,.wrH (iM g1 rfl) aT,fun b hb=>by simp[pz]at hb;subst hb;exact bf g1 rfl⟩;have QZ:gy[j].1=tk:=by have:=(f3 j _ _ hj VQ).1;rw[htk]at this;exact(a9A this).symm
    have hv1:gy[j].2=.int va vx:=by have h9:some (TV.int va vx)=some (gy[j]).2:=htv;exact(a9A h9).symm
    have Wy:gy.set j (tk,(gy[j]).2)=gy:=by rw[show(tk,(gy[j]).2)=gy[j]from ado QZ.symm rfl];exact List.set_getElem_self DZ
    have hl1:gZ P t ts.heap (.map cb) tk false=some (.int va vx):=by unfold gZ;simp only[hu,OQ,f1,pW,sN,c2,VQ,hv1,a2r,a3y]
    have hcb:ts.heap.set cb (.map gy)=ts.heap:=by
     refine aa6 fun i=>?_;by_cases e:cb=i
     .subst e;rw[a1y aT,f1]
     .rw[a0R e]
    have h0:Ae P t ts (.map cb) tk=some (.ent cb j (gy[j]).2,{ ts with heap:=ts.heap.set cb (.map (gy.set j (tk,(gy[j]).2))) },pz (.h cb)):=by unfold Ae;simp only[hu,OQ,f1,c1,pW,sN,c2,VQ,hy1,hov,c3,a1P]
    unfold CJ;rw[h0];simp only[];rw[a0A];unfold a0z;rw[Wy,hcb,hl1];simp
   .split at hl
    .rename_i va vx hz;obtain⟨⟨xZ,q1,c1⟩,⟨acC,ks,q2,EZ,c2⟩,⟨asq,ks2,q3,aot,c4⟩,hl⟩:=hl;rw[q1]at q2;cases q2;rw[q1]at q3;cases q3;obtain⟨i,z0,z1,hi,hz0,hz1,hz2⟩:=Xe hz;have sN:=rO f2 f3v EZ;have hzt:=aaj hz2;obtain⟨w1,w2⟩:=ZO hR g1 f1 (es++[(kv,.int va vx)]) (gy++[(tk,z1)]) (by simp[f2]) (SE f2 f3 htk hzt);refine⟨.ent r es.length (.int va vx),.ent cb gy.length z1,_,_,_,_,pz (.h cb),?_,⟨.map g1,f2,hzt⟩,w1,w2,hl,.wrH (iM g1 rfl) aT,fun b hb=>by simp[pz]at hb;subst hb;exact bf g1 rfl⟩;have hv1:z1=.int va vx:=by have h9:some (TV.int va vx)=some z1:=hzt;exact(a9A h9).symm
     have hl1:gZ P t ts.heap (.map cb) tk false=some (.int va vx):=by unfold gZ;simp only[hu,q1,f1,pW,sN,c2,hi,hz0,hz1,hv1,a0F,a2r,a3y]
     have aeX:(gy++[(tk,z1)]).map (·.1)=ks2:=rO (P:=P) (A:=AA A m) (m:=m) (h:=ts.heap) (es:=es++[(kv,.int va vx)]) (by simp[f2]) (fun i x y e1 e2=>let ⟨a1,a2⟩:=SE f2 f3 htk hzt i x y e1 e2;⟨nX a1,nX a2⟩) aot;have Rh:gZ P t (ts.heap.set cb (.map (gy++[(tk,z1)]))) (.map cb) tk false=some (.int va vx):=by
      have e9:(gy++[(tk,z1)])[es.length]? = some (tk,z1):=by rw[f2];simp
      unfold gZ;simp only[hu,q1,a1y aT,pW,aeX,c4,e9,a2r,a3y];rw[hv1]
     have h0:Ae P t ts (.map cb) tk=some (.ent cb gy.length z1,{ ts with heap:=ts.heap.set cb (.map (gy++[(tk,z1)])) },pz (.h cb)):=by unfold Ae;simp only[hu,q1,f1,c1,pW,sN,c2,hi,hz0,hz1]
     unfold CJ;rw[h0];simp only[];rw[a0A];unfold a0z;rw[hl1,Rh];simp
    .exact hl.elim
   .exact hl.elim
  .exact hl.elim
 .exact hl.elim
theorem aam{ρ:Type}{y:ρ}{ps:aU X.Γ}{ts:St}(hR:vw X P A m ps ts){mv v:PV X.Γ}{e:PE X.Γ}{tm tv:TV}{e':EV}(hm:VR X P (AA A m) m ts.heap mv tm)(he:IW X P (AA A m) m ts.heap e e')(hv:VR X P (AA A m) m ts.heap v tv){c:aU X.Γ->PI->OT ρ}
  (hl:(a6r X ps mv e v c).Ends y):∃ps1 pi h1 ti,Gz ts tm e' tv=some ({ ts with heap:=h1 },ti)∧vw X P A m ps1 { ts with heap:=h1 }∧Fr m ts.heap m h1∧(c ps1 pi).Ends y∧IR m ts.heap pi ti∧∀b,.h b∈ti.ws->b∈bn m:=by
 unfold a6r at hl;split at hl
 .rename_i r r' j tv' htv;have:=jR hv htv;subst this;split at hl
  .rename_i hrr;subst hrr;split at hl
   .rename_i es hb;obtain⟨hj,hl⟩:=hl;obtain⟨cb,gy,rfl,g1,f1,f2,f3⟩:=a6D hR hb hm;obtain⟨c',rfl,hm'⟩:=MX he;have hc:c'=cb:=by
     cases hm' with
     |gone hi e' _=>simp only[bC,a07]at hi;subst hi;rw[g1]at e';cases e'
     |map e'=>rw[g1]at e';cases e';rfl
    subst hc;have aT:=(a08.1 f1).1;have DZ:j<gy.length:=by rw[<-f2];exact hj
    have VQ:=a0d DZ;obtain⟨w1,w2⟩:=ZO hR g1 f1 (Ji es j v) (gy.set j ((gy[j]).1,tv)) (by unfold Ji;simp[f2]) fun i a b ha qM=>by
     unfold Ji at ha;rw[aei]at ha;by_cases e:j=i
     .subst e;rw[a4P,VQ]at qM;simp only[a1P,a0d hj,Option.map_eq_map,a0F,a07]at ha;subst ha;cases qM;exact⟨(f3 j _ _ (a0d hj) VQ).1,htv⟩
     .rw[a0R e]at qM;have ha:es[i]? = some a:=(by simpa[e]using ha);exact f3 i a b ha qM
    refine⟨_,_,_,pz (.h c'),?_,w1,w2,hl,.wrH (iM g1 rfl) aT,fun b hb=>by simp[pz]at hb;subst hb;exact bf g1 rfl⟩;unfold Gz;simp only[a1P,f1,VQ]
   .exact hl.elim
  .exact hl.elim
 .exact hl.elim
theorem a6F{ρ:Type}{y:ρ}{ps:aU X.Γ}{ts:St}(hR:vw X P A m ps ts){t:LI2}{mv kv v:PV X.Γ}{tm tk tv:TV}(hm:VR X P (AA A m) m ts.heap mv tm)(hk:VR X P (AA A m) m ts.heap kv tk)(hv:VR X P (AA A m) m ts.heap v tv){an:PT X.Γ}{c:aU X.Γ->PI->PT X.Γ->OT ρ}
  (hl:(a6o X P t ps mv kv v an c).Ends y):∃ps1 pi Ia h1 ti,yc P t ts tm tk tv=some ({ ts with heap:=h1 },ti)∧vw X P A m ps1 { ts with heap:=h1 }∧Fr m ts.heap m h1∧(c ps1 pi Ia).Ends y∧IR m ts.heap pi ti∧∀b,.h b∈ti.ws->b∈bn m:=by
 unfold a6o at hl;split at hl
 .rename_i kt e tk' r tv' hu htk htv;have:=jR hk htk;subst this;have:=jR hv htv;subst this;split at hl
  .rename_i es hb;obtain⟨mb,g1,g2⟩:=hR.heap.at_ r _ hb;cases mb with
   |gG cb=>
    obtain⟨gy,f1,f2,f3⟩:=g2;have f3v:∀(i:Nat) x y,es[i]? = some x->gy[i]? = some y->VR X P (AA A m) m ts.heap x.1 y.1∧VR X P (AA A m) m ts.heap x.2 y.2:=fun i x y e1 e2=>⟨nX (f3 i x y e1 e2).1,nX (f3 i x y e1 e2).2⟩;cases hm with
    |gone hi e' _=>simp only[bC,a07]at hi;subst hi;rw[g1]at e';cases e'
    |map e'=>
     rw[g1]at e';cases e';have aT:=(a08.1 f1).1;have wr:∀(en:List (PV X.Γ×PV X.Γ)) (en':List (TV×TV)),en.length=en'.length->(∀(i:Nat) x y,en[i]? = some x->en'[i]? = some y->qo x.1=some y.1∧qo x.2=some y.2) ->
       vw X P A m { ps with heap:=ps.heap.set r (.map en) } { ts with heap:=ts.heap.set cb (.map en') }∧Fr m ts.heap m (ts.heap.set cb (.map en')):=by
      intro en en' h1 h2;obtain⟨q1,q2⟩:=hR.heap.set (pb:=.map en) (hb:=.map en') g1 (c:=cb) rfl (fun cs hc=>by simp[aW,f1]at hc) fun hF=>⟨en',by simp[aT],h1,h2⟩;exact⟨hR.step q1 q2 .refl,q2⟩
     have new:∀{xZ ks},tk.yL=some xZ->vM X es=some ks->aC P (Instr.checkKey false 10000 kt xZ)=some ()->vN P kt xZ ks=some none ->
       yc P t ts (.map cb) tk tv=some ({ ts with heap:=ts.heap.set cb (.map (gy++[(tk,tv)])) },pz (.h cb))∧vw X P A m { ps with heap:=ps.heap.set r (.map (es++[(kv,v)])) } { ts with heap:=ts.heap.set cb (.map (gy++[(tk,tv)])) }∧Fr m ts.heap m (ts.heap.set cb (.map (gy++[(tk,tv)]))):=by
      intro xZ ks OQ EZ c1 c2;have sN:=rO f2 f3v EZ;obtain⟨w1,w2⟩:=wr (es++[(kv,v)]) (gy++[(tk,tv)]) (by simp[f2]) fun i a b ha qM=>by
       rcases a4N i es.length with aT|EW
       .rw[a0m aT]at ha;rw[a0m (by rw[<-f2];exact aT)]at qM;exact f3 i a b ha qM
       .rw[a0L EW]at ha;rw[a0L (by rw[<-f2];exact EW),<-f2]at qM;cases hx:i-es.length with
        |zero=>
         rw[hx]at ha qM;simp only[a2S,a07]at ha qM;subst ha;subst qM;exact⟨htk,htv⟩
        |succ n=>rw[hx]at ha;simp at ha
      refine⟨?_,w1,w2⟩;unfold yc;simp only[hu,OQ,f1,c1,pW,sN,c2]
     split at hl
     .obtain⟨⟨xZ,q1,c1⟩,⟨acC,ks,q2,EZ,c2⟩,hl⟩:=hl;rw[q1]at q2;cases q2;obtain⟨u1,u2,u3⟩:=new q1 EZ c1 c2;exact⟨_,_,_,_,pz (.h cb),u1,u2,u3,hl,.wrH (iM g1 rfl) aT,fun b hb=>by simp[pz]at hb;subst hb;exact bf g1 rfl⟩
     .obtain⟨⟨xZ,q1,c1⟩,⟨acC,ks,q2,EZ,c2⟩,hl⟩:=hl;rw[q1]at q2;cases q2;obtain⟨u1,u2,u3⟩:=new q1 EZ c1 c2;exact⟨_,_,_,_,pz (.h cb),u1,u2,u3,hl,.wrH (iM g1 rfl) aT,fun b hb=>by simp[pz]at hb;subst hb;exact bf g1 rfl⟩
     .obtain⟨⟨xZ,ks,j,old,ov,OQ,c1,EZ,c2,hj,hold,hov,c3⟩,hl⟩:=hl;have sN:=rO f2 f3v EZ;have DZ:∃y0,gy[j]? = some y0:=by
       have:j<gy.length:=by rw[<-f2];exact(a08.1 hj).1
       exact⟨_,a0d this⟩
      obtain⟨y0,VQ⟩:=DZ;have hy1:y0.1=old:=by
       have:(gy.map (·.1))[j]? = some y0.1:=by rw[a4T,VQ];rfl
       rw[sN,hold]at this;exact(a9A this).symm
      obtain⟨w1,w2⟩:=wr es (gy.set j (tk,tv)) (by simp[f2]) fun i a b ha qM=>by
       by_cases e:j=i
       .subst e;rw[a4P]at qM;rw[hj]at ha;rw[VQ]at qM;cases ha;cases qM;exact⟨htk,htv⟩
       .rw[a0R e]at qM;exact f3 i a b ha qM
      have FP:ps.heap.set r (.map es)=ps.heap:=by
       refine aa6 fun i=>?_;by_cases e:r=i
       .subst e;rw[a1y (a08.1 hb).1,hb]
       .rw[a0R e]
      rw[FP]at w1;refine⟨_,_,_,_,pz (.h cb),?_,w1,w2,hl,.wrH (iM g1 rfl) aT,fun b hb=>by simp[pz]at hb;subst hb;exact bf g1 rfl⟩;unfold yc;simp only[hu,OQ,f1,c1,pW,sN,c2,VQ,hy1,hov,c3,a1P]
     .split at hl
      .rename_i xZ ks OQ EZ;have sN:=rO f2 f3v EZ;split at hl
       .rename_i j rest _ _ _;split at hl
        .rename_i x0 old hj hold;split at hl
         .rename_i ov hov;obtain⟨c1,c2,c3,hl⟩:=hl;have DZ:∃y0,gy[j]? = some y0:=by
           have:j<gy.length:=by rw[<-f2];exact(a08.1 hj).1
           exact⟨_,a0d this⟩
          obtain⟨y0,VQ⟩:=DZ;have hy1:y0.1=old:=by
           have:(gy.map (·.1))[j]? = some y0.1:=by rw[a4T,VQ];rfl
           rw[sN,hold]at this;exact(a9A this).symm
          obtain⟨w1,w2⟩:=wr (es.set j (kv,v)) (gy.set j (tk,tv)) (by simp[f2]) fun i a b ha qM=>by
           by_cases e:j=i
           .subst e;rw[a4P]at ha qM;rw[hj]at ha;rw[VQ]at qM;cases ha;cases qM;exact⟨htk,htv⟩
           .rw[a0R e]at ha qM;exact f3 i a b ha qM
          refine⟨_,_,_,_,pz (.h cb),?_,w1,w2,hl,.wrH (iM g1 rfl) aT,fun b hb=>by simp[pz]at hb;subst hb;exact bf g1 rfl⟩;unfold yc;simp only[hu,OQ,f1,c1,pW,sN,c2,VQ,hy1,hov,c3,a1P]
         .exact hl.elim
        .exact hl.elim
       .obtain⟨c1,c2,hl⟩:=hl;obtain⟨u1,u2,u3⟩:=new OQ EZ c1 c2;exact⟨_,_,_,_,pz (.h cb),u1,u2,u3,hl,.wrH (iM g1 rfl) aT,fun b hb=>by simp[pz]at hb;subst hb;exact bf g1 rfl⟩
       .exact hl.elim
      .exact hl.elim
   |_=>exact g2.elim
  .exact hl.elim
 .exact hl.elim
end
open Go Tw
theorem kL{m:List MB}{b:Nat}(h:b∈bn m):∃i,G8 m i b:=by obtain⟨mb,h1,h2⟩:=a6x.1 h;obtain⟨i,hi⟩:=a8X h1;exact⟨i,mb,hi,h2⟩
section
variable {X:kX} {P:LI1} {A B:Nat->Prop} {m m1:List MB} {h:List HB} {g:Nat->Option Nat}
theorem jG:∀{m:List MB},(∀i j c,G8 m i c->G8 m j c->i=j)->(bn m).Nodup
 | [],_=>by simp[bn]
 |x::m,hu=>by
  have ih:(bn m).Nodup:=jG fun i j c h1 h2=>by have:=hu (i+1) (j+1) c (by obtain⟨mb,a,b⟩:=h1;exact⟨mb,by simpa using a,b⟩) (by obtain⟨mb,a,b⟩:=h2;exact⟨mb,by simpa using a,b⟩);omega
  unfold bn at ih ⊢;rw[a9y];split
  .exact ih
  rename_i b hb;refine a4U.2 ⟨fun hm=>?_,ih⟩;obtain⟨i,mb,h1,h2⟩:=kL (m:=m) hm;have:=hu 0 (i+1) b ⟨x,rfl,hb⟩ ⟨mb,by simpa using h1,h2⟩;omega
theorem OW:∀{ks:List Nat} {i p:Nat},wW ks i=some p->ks[p]? = some i
 | [],i,p,h=>by cases h
 |a::ks,i,p,h=>by
  simp only[wW]at h;split at h
  .rename_i e;cases h;simp[e]
  simp only[a09]at h;obtain⟨q,h1,rfl⟩:=h;simpa using OW h1
section
variable {g:Nat->Option Nat} {m1:List MB}
theorem Eh(hg:∀i j,g i=some j->m1[j]? = m[i]?){B:Nat->Prop}(hA:∀b,A b->B b)(hX:bT X P){v:PV X.Γ}{x:TV}(hv:VR X P A m h v x):∀{w:PV X.Γ},fG g v=some w->VR X P B m1 h w x:=by
 have lists:∀{vs:List (PV X.Γ)} {xs:List TV},vs.length=xs.length->(∀(i:Nat) a b,vs[i]? = some a->xs[i]? = some b->∀{w:PV X.Γ},fG g a=some w->VR X P B m1 h w b)->∀{ws:List (PV X.Γ)},fG.pq g vs=some ws->ws.length=xs.length∧∀(i:Nat) a b,ws[i]? = some a->xs[i]? = some b->VR X P B m1 h a b:=by
  intro vs
  induction vs with
  |nil=>
   intro xs hl _ ws hw;simp only[fG.pq,a07]at hw;subst hw;exact⟨hl,fun i a b ha=>by simp at ha⟩
  |cons v vs ih=>
   intro xs hl hh ws hw;cases xs with
   |nil=>simp at hl
   |cons x xs=>
    simp only[fG.pq]at hw;split at hw
    .rename_i w VZ h1 h2;cases hw;obtain⟨e1,e2⟩:=ih (xs:=xs) (by simpa using hl) (fun i a b ha hb=>hh (i+1) a b (by simpa using ha) (by simpa using hb)) h2;refine⟨by simp[e1],fun i a b ha hb=>?_⟩;cases i with
     |zero=>simp only[a2S,a07]at ha hb;subst ha;subst hb;exact hh 0 v x rfl rfl h1
     |succ i=>exact e2 i a b (by simpa using ha) (by simpa using hb)
    cases hw
 induction hv with
 |bool=>intro w hw;simp only[fG,a07]at hw;subst hw;exact .bool _
 |lit=>intro w hw;simp only[fG,a07]at hw;subst hw;exact .lit _
 |int=>intro w hw;simp only[fG,a07]at hw;subst hw;exact .int _ _
 |str=>intro w hw;simp only[fG,a07]at hw;subst hw;exact .str _
 |nil=>intro w hw;simp only[fG,a07]at hw;subst hw;exact .nil _
 |ptr e=>intro w hw;simp only[fG,a09]at hw;obtain⟨j,h1,rfl⟩:=hw;exact .ptr (by rw[hg _ _ h1];exact e)
 |aQ e=>intro w hw;simp only[fG,a09]at hw;obtain⟨j,h1,rfl⟩:=hw;exact .aQ (by rw[hg _ _ h1];exact e)
 |own e o=>intro w hw;simp only[fG,a09]at hw;obtain⟨j,h1,rfl⟩:=hw;exact .own (by rw[hg _ _ h1];exact e) o
 |win e q q' q2=>intro w hw;simp only[fG,a09]at hw;obtain⟨j,h1,rfl⟩:=hw;exact .win (by rw[hg _ _ h1];exact e) q q' q2
 |BX e=>intro w hw;simp only[fG,a09]at hw;obtain⟨j,h1,rfl⟩:=hw;exact .BX (by rw[hg _ _ h1];exact e)
 |Gv e=>intro w hw;simp only[fG,a09]at hw;obtain⟨j,h1,rfl⟩:=hw;exact .Gv (by rw[hg _ _ h1];exact e)
 |Jj e=>intro w hw;simp only[fG,a09]at hw;obtain⟨j,h1,rfl⟩:=hw;exact .Jj (by rw[hg _ _ h1];exact e)
 |map e=>intro w hw;simp only[fG,a09]at hw;obtain⟨j,h1,rfl⟩:=hw;exact .map (by rw[hg _ _ h1];exact e)
 |iter e=>intro w hw;simp only[fG,a09]at hw;obtain⟨j,h1,rfl⟩:=hw;exact .iter (by rw[hg _ _ h1];exact e)
 |kW e=>intro w hw;simp only[fG,a09]at hw;obtain⟨j,h1,rfl⟩:=hw;exact .kW (by rw[hg _ _ h1];exact e)
 |row e j q=>intro w hw;simp only[fG,a09]at hw;obtain⟨j,h1,rfl⟩:=hw;exact .row (by rw[hg _ _ h1];exact e) (by assumption) q
 |fn h1 _ h3 _ i2 i4=>
  intro w hw;simp only[fG]at hw;split at hw
  .rename_i a c ha hc;cases hw;obtain⟨e1,e2⟩:=lists h1 i2 ha;obtain⟨e3,e4⟩:=lists h3 i4 hc;exact .fn e1 e2 e3 e4
  cases hw
 |agg h1 _ i2=>
  intro w hw;simp only[fG,a09]at hw;obtain⟨cs,hc,rfl⟩:=hw;obtain⟨e1,e2⟩:=lists h1 i2 hc;exact .agg e1 e2
 |dI h1 _ i2=>
  intro w hw;simp only[fG,a09]at hw;obtain⟨cs,hc,rfl⟩:=hw;obtain⟨e1,e2⟩:=lists h1 i2 hc;exact .dI e1 e2
 |pJ=>intro w hw;simp only[fG,a07]at hw;subst hw;exact .pJ
 |dJ a c c2 s z o k f e r _=>intro w hw;simp only[fG,a07]at hw;subst hw;exact .dJ (hA _ a) c c2 s z o k f e fun j y i d v h1 h2 h3=>((r j y i d v h1 h2 h3).mono hA).jr hX (fM (hX.jr _ _) h2)
 |el a c l o e q r _=>intro w hw;simp only[fG,a07]at hw;subst hw;exact .el (hA _ a) c l o e q fun i d v h1 h2=>((r i d v h1 h2).mono hA).jr hX (fM (hX.jr _ _) h1)
 |gone i e o=>
  intro w hw;rename_i v _ x;have:∃j,bC w=some j∧D9 w x m1[j]?:=by cases v<;>simp[bC]at i<;>subst i<;>simp only[fG,a09]at hw<;>obtain⟨j,h1,rfl⟩:=hw<;>exact⟨j,rfl,by rw[hg _ _ h1];exact e.as fun c=>rfl⟩
  obtain⟨j,h1,h2⟩:=this;exact .gone h1 h2 o
variable {B:Nat->Prop}
theorem zI(hX:bT X P)(hg:∀i j,g i=some j->m1[j]? = m[i]?)(hA:∀b,A b->B b):∀{vs:List (PV X.Γ)} {xs:List TV} {ws:List (PV X.Γ)},bW X P A m h vs xs->fG.pq g vs=some ws->bW X P B m1 h ws xs
 | [],xs,ws,hv,hw=>by simp only[fG.pq,a07]at hw;subst hw;rw[hv.inv0];exact .nil
 |v::vs,xs,ws,hv,hw=>by
  obtain⟨x,r,rfl,h1,h2⟩:=hv.inv;simp only[fG.pq]at hw;split at hw
  .rename_i w VZ g1 g2;cases hw;exact .cons (Eh hg hA hX h1 g1) (zI hX hg hA h2 g2)
  cases hw
theorem OX(hX:bT X P)(hg:∀i j,g i=some j->m1[j]? = m[i]?)(hA:∀b,A b->B b){env:List (Nat×PE X.Γ)}{env':List (Nat×EV)}(he:ku X P A m h env env'):∀{r:List (Nat×PE X.Γ)},oZ g env=some r->ku X P B m1 h r env':=by
 induction he with
 |nil=>intro r h;simp only[oZ,a07]at h;subst h;exact .nil
 |cons h1 h2 ih=>
  rename_i k v x q q';intro r hr;simp only[oZ]at hr;split at hr
  rotate_left
  .cases hr
  rename_i w r' e1 e2;cases hr;refine .cons ?_ (ih e2);cases v with
  |val v=>
   obtain⟨y,rfl,h3⟩:=gq h1;simp only[OC,a09]at e1;obtain⟨u,e3,rfl⟩:=e1;exact nY (Eh hg hA hX h3 e3)
  |loc a b=>simp only[OC,a07]at e1;subst e1;rw[Ee h1];exact⟨rfl,rfl⟩
  |undef=>simp only[OC,a07]at e1;subst e1;rw[Jl h1];trivial
  |ent r j v=>
   obtain⟨c,y,rfl,h3,h4⟩:=MW h1;simp only[OC,a09]at e1;obtain⟨u,e3,rfl⟩:=e1;exact⟨Eh hg hA hX h3 (w:=.map u) (by simp only[fG,e3,a0F]),rfl,h4⟩
  |EG r j=>
   obtain⟨c,rfl,h3⟩:=MX h1;simp only[OC,a09]at e1;obtain⟨u,e3,rfl⟩:=e1;exact⟨Eh hg hA hX h3 (w:=.map u) (by simp only[fG,e3,a0F]),rfl⟩
theorem Ei(hX:bT X P)(hg:∀i j,g i=some j->m1[j]? = m[i]?)(hA:∀b,A b->B b){b b':PB X.Γ}{mb:MB}(hn:∀c,mb=.jw c->c∉bn m->c∉bn m1)(hb:BR X P A m h b mb)(hr:zG g b=some b'):BR X P B m1 h b' mb:=by
 cases b with
 |cells cs=>
  cases mb with
  |gG c=>
   simp only[zG,a09]at hr;obtain⟨cs',h1,rfl⟩:=hr;obtain⟨xs,h2,h3⟩:=hb;exact⟨xs,h2,zI hX hg hA h3 h1⟩
  |_=>exact hb.elim
 |aF cs=>
  cases mb with
  |jw c=>
   simp only[zG,a09]at hr;obtain⟨cs',h1,rfl⟩:=hr;obtain⟨h0,xs,h2,h3⟩:=hb;exact⟨hn c rfl h0,xs,h2,zI hX hg hA h3 h1⟩
  |_=>exact hb.elim
 |list k ex t l=>
  cases mb with
  |dJ y=>
   simp only[zG,a07]at hr;subst hr;cases(hb:LR X P A m h k ex t l y)with
   |nil=>exact LR.nil
   |emp p0 p1 p2 p3 p4=>exact LR.emp (hA _ p0) p1 p2 p3 p4
   |some p1 p2 p3 p4 p5 p6 p7 p8 p9=>exact LR.some p1 p2 p3 p4 p5 p6 p7 p8 ((p9.mono hA).jr hX)
  |_=>exact hb.elim
 |map es=>
  cases mb with
  |gG c=>
   simp only[zG,a07]at hr;subst hr;exact hb
  |_=>exact hb.elim
 |ni cs=>
  cases mb with
  |gG c=>
   simp only[zG,a07]at hr;subst hr;exact hb
  |_=>exact hb.elim
 |iH es=>
  cases mb with
  |jw c=>
   simp only[zG,a07]at hr;subst hr;exact⟨hn c rfl hb.1,hb.2⟩
  |_=>exact hb.elim
 |dn r n seen=>
  cases mb with
  |gG b=>
   simp only[zG,a09]at hr;obtain⟨j,h1,rfl⟩:=hr;obtain⟨c,h2,h3,h4⟩:=hb;exact⟨c,h2,by rw[hg _ _ h1];exact h3,fun c' hc=>h4 c' (by rw[<-hg _ _ h1];exact hc)⟩
  |_=>exact hb.elim
 |mark=>
  cases mb with
  |gG c=>simp only[zG,a07]at hr;subst hr;exact hb
  |_=>exact hb.elim
 |loop rd f nt env ps a c jM=>
  cases mb with
  |gG cb=>
   simp only[zG,a09]at hr;obtain⟨aum,h1,rfl⟩:=hr;obtain⟨xs,h2,h3⟩:=hb;exact⟨xs,h2,OX hX hg hA h3 h1⟩
  |_=>exact hb.elim
 |gone=>
  cases mb with
  |gone=>simp only[zG,a07]at hr;subst hr;trivial
  |_=>exact hb.elim
theorem tK:∀{bs r:List (PB X.Γ)},nT g bs=some r->r.length=bs.length∧∀{i:Nat} {b':PB X.Γ},r[i]? = some b'->∃b,bs[i]? = some b∧zG g b=some b'
 | [],r,h=>by simp only[nT,a07]at h;subst h;exact⟨rfl,fun{i b'} hi=>by simp at hi⟩
 |b::bs,r,h=>by
  simp only[nT]at h;split at h
  .rename_i c cs h1 h2;cases h;obtain⟨e1,e2⟩:=tK h2;refine⟨by simp[e1],fun{i b'} hi=>?_⟩;cases i with
   |zero=>simp only[a2S,a07]at hi;subst hi;exact⟨b,rfl,h1⟩
   |succ i=>obtain⟨d,q1,q2⟩:=e2 (i:=i) (by simpa using hi);exact⟨d,by simpa using q1,q2⟩
  cases h
theorem OY:∀{bs r:List (List (PV X.Γ))},WY g bs=some r->r.length=bs.length∧∀{i:Nat} {b':List (PV X.Γ)},r[i]? = some b'->∃b,bs[i]? = some b∧fG.pq g b=some b'
 | [],r,h=>by simp only[WY,a07]at h;subst h;exact⟨rfl,fun{i b'} hi=>by simp at hi⟩
 |b::bs,r,h=>by
  simp only[WY]at h;split at h
  .rename_i c cs h1 h2;cases h;obtain⟨e1,e2⟩:=OY h2;refine⟨by simp[e1],fun{i b'} hi=>?_⟩;cases i with
   |zero=>simp only[a2S,a07]at hi;subst hi;exact⟨b,rfl,h1⟩
   |succ i=>obtain⟨d,q1,q2⟩:=e2 (i:=i) (by simpa using hi);exact⟨d,by simpa using q1,q2⟩
  cases h
theorem Ej:∀{ks:List Nat} {H r:List (PB X.Γ)},D7 H ks=some r->r.length=ks.length∧∀{i k:Nat},ks[i]? = some k->∃b,H[k]? = some b∧r[i]? = some b
 | [],H,r,h=>by simp only[D7,a07]at h;subst h;exact⟨rfl,fun{i k} hi=>by simp at hi⟩
 |k::ks,H,r,h=>by
  simp only[D7]at h;split at h
  .rename_i b rs h1 h2;cases h;obtain⟨e1,e2⟩:=Ej h2;refine⟨by simp[e1],fun{i j} hi=>?_⟩;cases i with
   |zero=>simp only[a2S,a07]at hi;subst hi;exact⟨b,h1,rfl⟩
   |succ i=>obtain⟨d,q1,q2⟩:=e2 (i:=i) (k:=j) (by simpa using hi);exact⟨d,q1,by simpa using q2⟩
  cases h
end
theorem tV{α:Type}:∀{ks:List Nat} {bs l:List α},(putAt ks bs l).length=l.length
 | [],_,_=>rfl
 |_::_,[],_=>rfl
 |k::ks,b::bs,l=>by simp only[putAt];rw[tV,a4S]
theorem OZ{α:Type}:∀{ks:List Nat} {bs l:List α} {p i:Nat},ks.Nodup->(∀k∈ks,k<l.length)->ks.length<=bs.length->ks[p]? = some i->(putAt ks bs l)[i]? = bs[p]?
 | [],_,_,p,i,_,_,_,h=>by simp at h
 |a::ks,[],_,_,_,_,_,hl,_=>by simp at hl
 |a::ks,b::bs,l,0,i,hn,hk,hl,h=>by
  simp only[a2S,a07]at h;subst h;have hn:=a4U.1 hn;simp only[putAt];have:∀{ks:List Nat} {bs l:List α} {i:Nat},i∉ks->(putAt ks bs l)[i]? = l[i]?:=by
   intro ks
   induction ks with
   |nil=>intro bs l i _;rfl
   |cons c ks ih=>
    intro bs l i hi;simp only[a1z,adV]at hi;cases bs with
    |nil=>rfl
    |cons b bs=>simp only[putAt];rw[ih hi.2,a0R (fun e=>hi.1 e.symm)]
  rw[this hn.1,a1y (hk a (a2Z ..))];rfl
 |a::ks,b::bs,l,p+1,i,hn,hk,hl,h=>by simp only[a9X]at h;simp only[putAt];rw[OZ (a4U.1 hn).2 (fun k oD=>by rw[a4S];exact hk k (a3x _ oD)) (by simpa using hl) h];rfl
theorem Jo{α:Type}:∀{ks:List Nat} {bs l:List α} {i:Nat},i∉ks->(putAt ks bs l)[i]? = l[i]?
 | [],_,_,_,_=>rfl
 |a::ks,[],_,_,_=>rfl
 |a::ks,b::bs,l,i,hi=>by simp only[a1z,adV]at hi;simp only[putAt];rw[Jo hi.2,a0R (fun e=>hi.1 e.symm)]
def Xf(X:kX)(P:LI1)(call:aZ)(fv:PV X.Γ)(xs:List (PV X.Γ))(H:List (PB X.Γ))(v:PV X.Γ)(H1:List (PB X.Γ))(W:Nat->Prop):Prop:=
 ∀(A:Nat->Prop) (m:List MB) (h:List HB) (tf:TV) (rM:List TV),HR X P A m H h->VR X P (AA A m) m h fv tf->bW X P (AA A m) m h xs rM ->
  ∃w h1 ws m1,call tf rM h=some (w,h1,ws)∧HR X P A m1 H1 h1∧VR X P (AA A m1) m1 h1 v w∧Fr m h m1 h1∧Up m m1∧∀b∈ws,∃k,W k∧G8 m k b
theorem dG.w{call:aZ}{fv v:PV X.Γ}{xs:List (PV X.Γ)}{H H1:List (PB X.Γ)}(h:dG X P call fv xs H v H1):Xf X P call fv xs H v H1 fun _=>True:=fun A m h0 tf rM a b c=>by obtain⟨w,h1,ws,m1,c1,c2,c3,c4,c5,c6⟩:=h A m h0 tf rM a b c;exact⟨w,h1,ws,m1,c1,c2,c3,c4,c5,fun b hb=>by obtain⟨i,hi⟩:=kL (c6 b hb);exact⟨i,trivial,hi⟩⟩
theorem N8:∀{H:List (PB X.Γ)} {i:Nat} {b:PB X.Γ},Jh H=true->H[i]? = some b->Jh [b]=true
 | [],_,_,_,h=>by simp at h
 |a::H,0,b,hn,h=>by simp only[a2S,a07]at h;subst h;cases a<;>simp_all [Jh]
 |a::H,i+1,b,hn,h=>by
  have E5:Jh H=true:=by cases a<;>simp_all [Jh]
  exact N8 E5 (by simpa using h)
def SwM(m m':List MB):Prop:=∀i:Nat,m'[i]? = m[i]?∨(∃c,m[i]? = some (.gG c)∧m'[i]? = some (.jw c))∨∃c,m[i]? = some (.jw c)∧m'[i]? = some (.gG c)
section
variable {m':List MB}
theorem VR.sw(hm:SwM m m')(hA:∀b,A b->B b){v:PV X.Γ}{x:TV}(hv:VR X P A m h v x):VR X P B m' h v x:=by
 have hl:∀{i:Nat} {x:TV},m[i]? = some (.dJ x)->m'[i]? = some (.dJ x):=fun{i x} e=>by
  rcases hm i with g|⟨c,g,_⟩|⟨c,g,_⟩
  .rw[g,e]
  .rw[e]at g;cases g
  rw[e]at g;cases g
 have hb:∀{i c:Nat},m[i]? = some (.gG c)->m'[i]? = some (.gG c)∨m'[i]? = some (.jw c):=fun{i c} e=>by
  rcases hm i with g|⟨c',g,g2⟩|⟨c',g,_⟩
  .exact .inl (by rw[g,e])
  .rw[e]at g;cases g;exact .inr g2
  rw[e]at g;cases g
 induction hv with
 |bool=>exact .bool _
 |lit=>exact .lit _
 |int=>exact .int _ _
 |str=>exact .str _
 |nil=>exact .nil _
 |ptr e=>rcases hb e with e|e;exact .ptr e;exact .gone rfl (.ofR e rfl) rfl
 |aQ e=>rcases hb e with e|e;exact .aQ e;exact .gone rfl (.ofR e rfl) rfl
 |own e o=>exact .own (hl e) o
 |win e q q' q2=>exact .win (hl e) q q' q2
 |BX e=>exact .BX (hl e)
 |Gv e=>exact .Gv (hl e)
 |Jj e=>exact .Jj (hl e)
 |map e=>rcases hb e with e|e;exact .map e;exact .gone rfl (.ofR e rfl) rfl
 |iter e=>rcases hb e with e|e;exact .iter e;exact .gone rfl (.ofR e rfl) rfl
 |fn h1 _ h3 _ i2 i4=>exact .fn h1 i2 h3 i4
 |kW e=>rcases hb e with e|e;exact .kW e;exact .gone rfl (.ofR e rfl) rfl
 |agg h1 _ i2=>exact .agg h1 i2
 |dI h1 _ i2=>exact .dI h1 i2
 |pJ=>exact .pJ
 |dJ a c c2 s z o k f e _ ih=>exact .dJ (hA _ a) c c2 s z o k f e ih
 |el a c l o e q _ ih=>exact .el (hA _ a) c l o e q ih
 |row e j q=>exact .row (hl e) j q
 | @gone v i x hi e o=>
  generalize hq:m[i]? = q at e;cases e with
  |g=>
   rcases hm i with g|⟨c,g,_⟩|⟨c,g,_⟩
   .exact .gone hi (.of (by rw[g,hq])) o
   .rw[hq]at g;cases g
   rw[hq]at g;cases g
  |r c hv=>
   rcases hm i with g|⟨c',g,_⟩|⟨c',g,g2⟩
   .exact .gone hi (.ofR (by rw[g,hq]) hv) o
   .rw[hq]at g;cases g
   rw[hq]at g;cases g;cases v<;>simp only[roV,a07]at hv<;>first|cases hv;done|skip
   all_goals (subst hv;simp only[bC,a07]at hi;subst hi)
   .exact .ptr g2
   .exact .aQ g2
   .exact .map g2
   .exact .kW g2
   exact .iter g2
theorem bW.sw(hm:SwM m m')(hA:∀b,A b->B b){v:List (PV X.Γ)}{x:List TV}(hv:bW X P A m h v x):bW X P B m' h v x:=
 ⟨hv.1,fun i a b ha hb=>(hv.2 i a b ha hb).sw hm hA⟩
theorem ku.sw(hm:SwM m m')(hA:∀b,A b->B b){v:List (Nat×PE X.Γ)}{x:List (Nat×EV)}(hv:ku X P A m h v x):ku X P B m' h v x:=by
 induction hv with
 |nil=>exact .nil
 |cons h1 _ ih=>
  refine .cons ?_ ih;rename_i v x _ _ _;cases v<;>cases x<;>first|exact VR.sw hm hA h1|exact h1|exact⟨VR.sw hm hA h1.1,h1.2⟩
theorem BR.sw(hm:SwM m m')(hA:∀b,A b->B b){b:PB X.Γ}{mb:MB}(hn:∀c,mb=.jw c->c∉bn m->c∉bn m')(hb:BR X P A m h b mb):BR X P B m' h b mb:=by
 cases b with
 |cells cs=>cases mb with
  |gG b=>obtain⟨cs',h1,h2⟩:=hb;exact⟨cs',h1,h2.sw hm hA⟩
  |_=>exact hb.elim
 |aF cs=>cases mb with
  |jw b=>obtain⟨h0,cs',h1,h2⟩:=hb;exact⟨hn b rfl h0,cs',h1,h2.sw hm hA⟩
  |_=>exact hb.elim
 |list k ex t l=>cases mb with
  |dJ x=>
   cases(hb:LR X P A m h k ex t l x)with
   |nil=>exact LR.nil
   |emp h0 h1 h2 h3 h4=>exact LR.emp (hA _ h0) h1 h2 h3 h4
   |some h1 h2 h3 h4 h5 h6 h7 h8 h9=>exact LR.some h1 h2 h3 h4 h5 h6 h7 h8 ⟨h9.1,h9.2.1,fun j a i c v a1 a2 a3=>(h9.2.2 j a i c v a1 a2 a3).sw hm hA⟩
  |_=>exact hb.elim
 |map es=>cases mb with
  |gG b=>exact hb
  |_=>exact hb.elim
 |ni cs=>cases mb with
  |gG b=>exact hb
  |_=>exact hb.elim
 |iH es=>cases mb with
  |jw b=>exact⟨hn b rfl hb.1,hb.2⟩
  |_=>exact hb.elim
 |dn r n seen=>cases mb with
  |gG b=>
   obtain⟨c,h1,h2,h3⟩:=hb;refine⟨c,h1,?_,fun c' hc=>?_⟩
   .rcases hm r with g|⟨c',g,g2⟩|⟨c',g,g2⟩
    .rw[g];exact h2
    .rw[g2];rfl
    .rw[g2];rfl
   .rcases hm r with g|⟨c2,g,g2⟩|⟨c2,g,g2⟩
    .exact h3 c' (by rw[<-g];exact hc)
    .rw[g2]at hc;simp at hc;subst hc;exact h3 c2 (.inl g)
    .rw[g2]at hc;simp at hc;subst hc;exact h3 c2 (.inr g)
  |_=>exact hb.elim
 |mark=>cases mb with
  |gG b=>exact hb
  |_=>exact hb.elim
 |loop rd f nt env ps a c jM=>cases mb with
  |gG b=>obtain⟨e',h1,h2⟩:=hb;exact⟨e',h1,h2.sw hm hA⟩
  |_=>exact hb.elim
 |gone=>cases mb with
  |gone=>trivial
  |_=>exact hb.elim
end
theorem aeY{call:aZ}{fv v:PV X.Γ}{xs:List (PV X.Γ)}{H H1:List (PB X.Γ)}{W:Nat->Prop}{r:Nat}{cs Sz:List (PV X.Γ)}(h0:H[r]? = some (.cells cs))(h9:H1[r]? = some (.cells Sz))(hro:Jh (H1.drop H.length)=true)
  (hs:Xf X P call fv xs (H.set r (.aF cs)) v (H1.set r (.aF Sz)) W):Xf X P call fv xs H v H1 fun k=>W k∧k≠r:=fun A m h tf rM hr hf hx=>by
 obtain⟨mb0,q1,q2⟩:=hr.at_ r _ h0;have hrl:r<H.length:=(a08.1 h0).1;have hrm:r<m.length:=by rw[hr.len];exact hrl
 cases mb0 with
 |gG c=>
  obtain⟨cs',q3,q4⟩:=q2;have G9:c∈bn m:=bf q1 rfl;have hch:=(a08.1 q3).1;have hm:SwM m (m.set r (.jw c)):=fun i=>by
   by_cases e:i=r
   .subst e;exact .inr (.inl ⟨c,q1,by rw[a1y hrm]⟩)
   .exact .inl (by rw[a0R (fun h=>e h.symm)])
  have old:∀{i b:Nat},G8 (m.set r (.jw c)) i b->i≠r∧G8 m i b:=fun{i b} ho=>by
   obtain⟨mb,a1,a2⟩:=ho;by_cases e:i=r
   .subst e;rw[a1y hrm]at a1;cases a1;cases a2
   .rw[a0R (fun h=>e h.symm)]at a1;exact⟨e,mb,a1,a2⟩
  have nM:∀b,b∈bn (m.set r (.jw c))->b∈bn m∧b≠c:=fun b hb=>by obtain⟨i,hi⟩:=kL hb;obtain⟨e,mb,a1,a2⟩:=old hi;refine⟨bf a1 a2,fun e2=>?_⟩;subst e2;exact e (je hr.nodup a1 q1 a2 rfl)
  have hA:∀b,AA A m b->AA (fun b=>A b∧b≠c) (m.set r (.jw c)) b:=fun b hb=>⟨⟨hb.1,fun e=>hb.2 (e▸G9)⟩,fun h=>hb.2 (nM b h).1⟩;have wR:HR X P (fun b=>A b∧b≠c) (m.set r (.jw c)) (H.set r (.aF cs)) h:=by
   refine⟨by simp[hr.len],fun i b hi=>?_,jG fun i j d a1 a2=>?_,fun b hb=>⟨hr.up b hb,by omega⟩,fun b hb=>⟨hr.Dc b (nM b hb).1,(nM b hb).2⟩⟩
   .by_cases e:i=r
    .subst e;rw[a1y hrl]at hi;cases hi;exact⟨.jw c,by rw[a1y hrm],fun h=>(nM c h).2 rfl,cs',q3,q4.sw hm hA⟩
    .rw[a0R (fun h=>e h.symm)]at hi;obtain⟨mb,g1,g2⟩:=hr.at_ i b hi;exact⟨mb,by rw[a0R (fun h=>e h.symm)];exact g1,g2.sw hm hA fun d _ hn h=>hn (nM d h).1⟩
   .obtain⟨_,ma,u1,u2⟩:=old a1;obtain⟨_,mc,v1,v2⟩:=old a2;exact je hr.nodup u1 v1 u2 v2
  obtain⟨w,h1,ws,m1,c1,c2,c3,c4,c5,c6⟩:=hs (fun b=>A b∧b≠c) (m.set r (.jw c)) h tf rM wR (hf.sw hm hA) (hx.sw hm hA)
  .have aeZ:r<H1.length:=(a08.1 h9).1;obtain⟨mb1,e1,e2⟩:=c2.at_ r (.aF Sz) (by rw[a1y aeZ]);have e3:=c5 r (.jw c) (by rw[a1y hrm]);have e4:mb1=.jw c:=by
    rcases e3 with e3|e3<;>rw[e1]at e3<;>cases e3
    .rfl
    .exact e2.elim
   subst e4;obtain⟨p0,X7,p1,p2⟩:=e2;have Jp:r<m1.length:=(a08.1 e1).1;have hm1:SwM m1 (m1.set r (.gG c)):=fun i=>by
    by_cases e:i=r
    .subst e;exact .inr (.inr ⟨c,e1,by rw[a1y Jp]⟩)
    .exact .inl (by rw[a0R (fun h=>e h.symm)])
   have at1:∀{i:Nat} {mb:MB},i≠r->(m1.set r (.gG c))[i]? = some mb->m1[i]? = some mb:=fun{i mb} e h=>by rw[a0R (fun h=>e h.symm)]at h;exact h
   have CS:∀b,b∈bn (m1.set r (.gG c))->b=c∨b∈bn m1:=fun b hb=>by
    obtain⟨i,mb,a1,a2⟩:=kL hb;by_cases e:i=r
    .subst e;rw[a1y Jp]at a1;cases a1;cases a2;exact .inl rfl
    .exact .inr (bf (at1 e a1) a2)
   have hA1:∀b,AA (fun b=>A b∧b≠c) m1 b->AA A (m1.set r (.gG c)) b:=fun b hb=>⟨hb.1.1,fun h=>by
    rcases CS b h with e|e
    .exact hb.1.2 e
    .exact hb.2 e⟩
   refine⟨w,h1,ws,m1.set r (.gG c),c1,⟨by rw[a4S,c2.len,a4S],fun i b hi=>?_,jG fun i j d a1 a2=>?_,fun b hb=>(c2.up b hb).1,fun b hb=>?_⟩,c3.sw hm1 hA1,⟨c4.len,fun b hb hn=>c4.same b hb fun h=>hn (nM b h).1,fun b hb=>?_,c4.grow⟩,fun i mb hi=>?_,fun b hb=>?_⟩
   .by_cases e:i=r
    .subst e;rw[h9]at hi;cases hi;exact⟨.gG c,by rw[a1y Jp],X7,p1,p2.sw hm1 hA1⟩
    .obtain⟨mb,g1,g2⟩:=c2.at_ i b (by rw[a0R (fun h=>e h.symm)];exact hi);refine⟨mb,by rw[a0R (fun h=>e h.symm)];exact g1,g2.sw hm1 hA1 fun d hd hn hd2=>?_⟩;subst hd;rcases CS d hd2 with e5|e5
     .subst e5;rcases a4N i m.length with aT|EW
      .have Lr:(m.set r (.jw d))[i]? = m[i]?:=(by rw[a0R (fun h=>e h.symm)]);have hmi:m[i]? = some (.jw d):=by
        rcases c5 i m[i] (by rw[Lr];exact a0d aT)with e6|e6<;>rw[g1]at e6<;>simp only[a07]at e6
        .rw[a0d aT,<-e6]
        .cases e6
       have hlH:i<H.length:=by rw[<-hr.len];exact aT
       obtain⟨mb9,e7,e8⟩:=hr.at_ i _ (a0d hlH);rw[hmi]at e7;cases e7;generalize H[i]=b9 at e8;cases b9<;>first|exact e8.elim|exact e8.1 G9
      .have e6:(H1.drop H.length)[i-H.length]? = some b:=by rw[a4O,<-hi];congr 1;rw[hr.len]at EW;omega
       have e7:=N8 hro e6;cases b<;>first|exact g2.elim|cases e7
     .exact hn e5
   .obtain⟨ma,u1,u2⟩:=a1;obtain⟨mc,v1,v2⟩:=a2;by_cases e:i=r<;>by_cases e':j=r
    .rw[e,e']
    .subst e;rw[a1y Jp]at u1;cases u1;cases u2;exact absurd (bf (at1 e' v1) v2) p0
    .subst e';rw[a1y Jp]at v1;cases v1;cases v2;exact absurd (bf (at1 e u1) u2) p0
    .exact je c2.nodup (at1 e u1) (at1 e' v1) u2 v2
   .rcases CS b hb with e|e
    .subst e;exact hr.Dc _ G9
    .exact(c2.Dc b e).1
   .rcases CS b hb with e|e
    .subst e;exact .inl G9
    .rcases c4.new b e with g|g
     .exact .inl (nM b g).1
     .exact .inr g
   .by_cases e:i=r
    .subst e;rw[q1]at hi;cases hi;exact .inl (by rw[a1y Jp])
    .rw[a0R (fun h=>e h.symm)];exact c5 i mb (by rw[a0R (fun h=>e h.symm)];exact hi)
   .obtain⟨k,k1,k2⟩:=c6 b hb;obtain⟨k3,k4⟩:=old k2;exact⟨k,⟨k1,k3⟩,k4⟩
 |_=>exact q2.elim
theorem aao{call:aZ}{fv v:PV X.Γ}{xs:List (PV X.Γ)}{H H1:List (PB X.Γ)}{W:Nat->Prop}{r:Nat}{es es1:List (PV X.Γ×PV X.Γ)}(h0:H[r]? = some (.map es))(h9:H1[r]? = some (.map es1))(hro:Jh (H1.drop H.length)=true)
  (hs:Xf X P call fv xs (H.set r (.iH es)) v (H1.set r (.iH es1)) W):Xf X P call fv xs H v H1 fun k=>W k∧k≠r:=fun A m h tf rM hr hf hx=>by
 obtain⟨mb0,q1,q2⟩:=hr.at_ r _ h0;have hrl:r<H.length:=(a08.1 h0).1;have hrm:r<m.length:=by rw[hr.len];exact hrl
 cases mb0 with
 |gG c=>
  obtain⟨cs',q3,q4⟩:=q2;have G9:c∈bn m:=bf q1 rfl;have hch:=(a08.1 q3).1;have hm:SwM m (m.set r (.jw c)):=fun i=>by
   by_cases e:i=r
   .subst e;exact .inr (.inl ⟨c,q1,by rw[a1y hrm]⟩)
   .exact .inl (by rw[a0R (fun h=>e h.symm)])
  have old:∀{i b:Nat},G8 (m.set r (.jw c)) i b->i≠r∧G8 m i b:=fun{i b} ho=>by
   obtain⟨mb,a1,a2⟩:=ho;by_cases e:i=r
   .subst e;rw[a1y hrm]at a1;cases a1;cases a2
   .rw[a0R (fun h=>e h.symm)]at a1;exact⟨e,mb,a1,a2⟩
  have nM:∀b,b∈bn (m.set r (.jw c))->b∈bn m∧b≠c:=fun b hb=>by obtain⟨i,hi⟩:=kL hb;obtain⟨e,mb,a1,a2⟩:=old hi;refine⟨bf a1 a2,fun e2=>?_⟩;subst e2;exact e (je hr.nodup a1 q1 a2 rfl)
  have hA:∀b,AA A m b->AA (fun b=>A b∧b≠c) (m.set r (.jw c)) b:=fun b hb=>⟨⟨hb.1,fun e=>hb.2 (e▸G9)⟩,fun h=>hb.2 (nM b h).1⟩;have wR:HR X P (fun b=>A b∧b≠c) (m.set r (.jw c)) (H.set r (.iH es)) h:=by
   refine⟨by simp[hr.len],fun i b hi=>?_,jG fun i j d a1 a2=>?_,fun b hb=>⟨hr.up b hb,by omega⟩,fun b hb=>⟨hr.Dc b (nM b hb).1,(nM b hb).2⟩⟩
   .by_cases e:i=r
    .subst e;rw[a1y hrl]at hi;cases hi;exact⟨.jw c,by rw[a1y hrm],fun h=>(nM c h).2 rfl,cs',q3,q4⟩
    .rw[a0R (fun h=>e h.symm)]at hi;obtain⟨mb,g1,g2⟩:=hr.at_ i b hi;exact⟨mb,by rw[a0R (fun h=>e h.symm)];exact g1,g2.sw hm hA fun d _ hn h=>hn (nM d h).1⟩
   .obtain⟨_,ma,u1,u2⟩:=old a1;obtain⟨_,mc,v1,v2⟩:=old a2;exact je hr.nodup u1 v1 u2 v2
  obtain⟨w,h1,ws,m1,c1,c2,c3,c4,c5,c6⟩:=hs (fun b=>A b∧b≠c) (m.set r (.jw c)) h tf rM wR (hf.sw hm hA) (hx.sw hm hA)
  .have aeZ:r<H1.length:=(a08.1 h9).1;obtain⟨mb1,e1,e2⟩:=c2.at_ r (.iH es1) (by rw[a1y aeZ]);have e3:=c5 r (.jw c) (by rw[a1y hrm]);have e4:mb1=.jw c:=by
    rcases e3 with e3|e3<;>rw[e1]at e3<;>cases e3
    .rfl
    .exact e2.elim
   subst e4;obtain⟨p0,X7,p1,p2⟩:=e2;have Jp:r<m1.length:=(a08.1 e1).1;have hm1:SwM m1 (m1.set r (.gG c)):=fun i=>by
    by_cases e:i=r
    .subst e;exact .inr (.inr ⟨c,e1,by rw[a1y Jp]⟩)
    .exact .inl (by rw[a0R (fun h=>e h.symm)])
   have at1:∀{i:Nat} {mb:MB},i≠r->(m1.set r (.gG c))[i]? = some mb->m1[i]? = some mb:=fun{i mb} e h=>by rw[a0R (fun h=>e h.symm)]at h;exact h
   have CS:∀b,b∈bn (m1.set r (.gG c))->b=c∨b∈bn m1:=fun b hb=>by
    obtain⟨i,mb,a1,a2⟩:=kL hb;by_cases e:i=r
    .subst e;rw[a1y Jp]at a1;cases a1;cases a2;exact .inl rfl
    .exact .inr (bf (at1 e a1) a2)
   have hA1:∀b,AA (fun b=>A b∧b≠c) m1 b->AA A (m1.set r (.gG c)) b:=fun b hb=>⟨hb.1.1,fun h=>by
    rcases CS b h with e|e
    .exact hb.1.2 e
    .exact hb.2 e⟩
   refine⟨w,h1,ws,m1.set r (.gG c),c1,⟨by rw[a4S,c2.len,a4S],fun i b hi=>?_,jG fun i j d a1 a2=>?_,fun b hb=>(c2.up b hb).1,fun b hb=>?_⟩,c3.sw hm1 hA1,⟨c4.len,fun b hb hn=>c4.same b hb fun h=>hn (nM b h).1,fun b hb=>?_,c4.grow⟩,fun i mb hi=>?_,fun b hb=>?_⟩
   .by_cases e:i=r
    .subst e;rw[h9]at hi;cases hi;exact⟨.gG c,by rw[a1y Jp],X7,p1,p2⟩
    .obtain⟨mb,g1,g2⟩:=c2.at_ i b (by rw[a0R (fun h=>e h.symm)];exact hi);refine⟨mb,by rw[a0R (fun h=>e h.symm)];exact g1,g2.sw hm1 hA1 fun d hd hn hd2=>?_⟩;subst hd;rcases CS d hd2 with e5|e5
     .subst e5;rcases a4N i m.length with aT|EW
      .have Lr:(m.set r (.jw d))[i]? = m[i]?:=(by rw[a0R (fun h=>e h.symm)]);have hmi:m[i]? = some (.jw d):=by
        rcases c5 i m[i] (by rw[Lr];exact a0d aT)with e6|e6<;>rw[g1]at e6<;>simp only[a07]at e6
        .rw[a0d aT,<-e6]
        .cases e6
       have hlH:i<H.length:=by rw[<-hr.len];exact aT
       obtain⟨mb9,e7,e8⟩:=hr.at_ i _ (a0d hlH);rw[hmi]at e7;cases e7;generalize H[i]=b9 at e8;cases b9<;>first|exact e8.elim|exact e8.1 G9
      .have e6:(H1.drop H.length)[i-H.length]? = some b:=by rw[a4O,<-hi];congr 1;rw[hr.len]at EW;omega
       have e7:=N8 hro e6;cases b<;>first|exact g2.elim|cases e7
     .exact hn e5
   .obtain⟨ma,u1,u2⟩:=a1;obtain⟨mc,v1,v2⟩:=a2;by_cases e:i=r<;>by_cases e':j=r
    .rw[e,e']
    .subst e;rw[a1y Jp]at u1;cases u1;cases u2;exact absurd (bf (at1 e' v1) v2) p0
    .subst e';rw[a1y Jp]at v1;cases v1;cases v2;exact absurd (bf (at1 e u1) u2) p0
    .exact je c2.nodup (at1 e u1) (at1 e' v1) u2 v2
   .rcases CS b hb with e|e
    .subst e;exact hr.Dc _ G9
    .exact(c2.Dc b e).1
   .rcases CS b hb with e|e
    .subst e;exact .inl G9
    .rcases c4.new b e with g|g
     .exact .inl (nM b g).1
     .exact .inr g
   .by_cases e:i=r
    .subst e;rw[q1]at hi;cases hi;exact .inl (by rw[a1y Jp])
    .rw[a0R (fun h=>e h.symm)];exact c5 i mb (by rw[a0R (fun h=>e h.symm)];exact hi)
   .obtain⟨k,k1,k2⟩:=c6 b hb;obtain⟨k3,k4⟩:=old k2;exact⟨k,⟨k1,k3⟩,k4⟩
 |_=>exact q2.elim
theorem ZP{call:aZ}{fv v:PV X.Γ}{xs:List (PV X.Γ)}{W:Nat->Prop}:∀{rs:List Nat} {H H1 Hr QH:List (PB X.Γ)},roB rs H H1=some (Hr,QH)->Jh (H1.drop H.length)=true->Xf X P call fv xs Hr v QH W->Xf X P call fv xs H v H1 fun k=>W k∧k∉rs
 | [],H,H1,Hr,QH,h1,hn,hs=>by simp only[roB,a07,a0B]at h1;obtain⟨rfl,rfl⟩:=h1;intro A m h tf rM a b c;obtain⟨w,h1,ws,m1,c1,c2,c3,c4,c5,c6⟩:=hs A m h tf rM a b c;exact⟨w,h1,ws,m1,c1,c2,c3,c4,c5,fun b hb=>by obtain⟨k,k1,k2⟩:=c6 b hb;exact⟨k,⟨k1,by simp⟩,k2⟩⟩
 |r::rs,H,H1,Hr,QH,h1,hn,hs=>by
  simp only[roB]at h1;split at h1
  .rename_i cs Sz e1 e2;have aT:r<H.length:=(a08.1 e1).1;have:=aeY e1 e2 hn (ZP h1 (by rw[a4S,List.drop_set_of_lt aT];exact hn) hs);intro A m h tf rM a b c;obtain⟨w,h1,ws,m1,c1,c2,c3,c4,c5,c6⟩:=this A m h tf rM a b c;exact⟨w,h1,ws,m1,c1,c2,c3,c4,c5,fun b hb=>by obtain⟨k,⟨⟨k1,k3⟩,k4⟩,k2⟩:=c6 b hb;exact⟨k,⟨k1,by simp[k3,k4]⟩,k2⟩⟩
  .rename_i cs Sz e1 e2;have aT:r<H.length:=(a08.1 e1).1;have:=aao e1 e2 hn (ZP h1 (by rw[a4S,List.drop_set_of_lt aT];exact hn) hs);intro A m h tf rM a b c;obtain⟨w,h1,ws,m1,c1,c2,c3,c4,c5,c6⟩:=this A m h tf rM a b c;exact⟨w,h1,ws,m1,c1,c2,c3,c4,c5,fun b hb=>by obtain⟨k,⟨⟨k1,k3⟩,k4⟩,k2⟩:=c6 b hb;exact⟨k,⟨k1,by simp[k3,k4]⟩,k2⟩⟩
  cases h1
theorem Xg{α:Type}{rs:List Nat}:∀{ks:List α} {i p:Nat} {k:α},ks[p]? = some k->i+p∉rs->k∈a3p rs i ks
 | [],_,_,_,h,_=>by simp at h
 |a::ks,i,0,k,h,hn=>by simp only[a2S,a07]at h;subst h;simp only[a3p];rw[a0y (by simpa using hn)];exact a2Z
 |a::ks,i,p+1,k,h,hn=>by
  have:=Xg (ks:=ks) (i:=i+1) (p:=p) (k:=k) (by simpa using h) (by rwa [Nat.add_right_comm,aag] );simp only[a3p];split
  .exact this
  exact a3x _ this
theorem Jq(hX:bT X P){call:aZ}{ks:List Nat}{H' Hp H H1 QH:List (PB X.Γ)}{fv fv' v v':PV X.Γ}{xs xs':List (PV X.Γ)}{W:Nat->Prop}(hs:Xf X P call fv xs H v H1 W)
  (jF:ks.Nodup) (hp:D7 H' ks=some Hp) (hH:nT (wW ks) Hp=some H) (hf:fG (wW ks) fv'=some fv) (hx:fG.pq (wW ks) xs'=some xs)
  (hv:fG (bk ks H'.length) v=some v') (hH1:nT (bk ks H'.length) H1=some QH) (hro:Jh (H1.drop ks.length)=true) :
  ∀(A:Nat->Prop) (m':List MB) (h:List HB) (tf:TV) (rM:List TV),HR X P A m' H' h->VR X P (AA A m') m' h fv' tf->bW X P (AA A m') m' h xs' rM ->
  ∃w h1 ws m1,call tf rM h=some (w,h1,ws)∧HR X P A m1 (putAt ks QH H'++QH.drop ks.length) h1∧VR X P (AA A m1) m1 h1 v' w∧Fr m' h m1 h1∧Up m' m1∧∀b∈ws,∃p k,ks[p]? = some k∧W p∧G8 m' k b:=by
 intro A m' h tf rM hr hf' FK;have hpg:=Ej hp;have hHg:=tK hH;have hkH:∀{p k:Nat},ks[p]? = some k->k<m'.length:=fun{p k} hk=>by obtain⟨b,q1,_⟩:=hpg.2 hk;rw[hr.len];exact(a08.1 q1).1
 have hkm:∀k∈ks,k<m'.length:=fun k hk=>by obtain⟨i,hi⟩:=a8X hk;exact hkH hi
 let m:List MB:=ks.map fun k=>m'.getD k .gone
 have hm:∀{p k:Nat},ks[p]? = some k->m[p]? = m'[k]?:=fun{p k} hk=>by show(ks.map _)[p]? = _;rw[a4T,hk];have:=hkH hk;simp[a2R,this]
 have a6G:m.length=ks.length:=a4R ..;have SG:∀{p:Nat} {mb:MB},m[p]? = some mb->∃k,ks[p]? = some k∧m'[k]? = some mb:=fun{p mb} hpm=>by
  have:p<ks.length:=by rw[<-a6G];exact(a08.1 hpm).1
  have hk:=a0d this;exact⟨_,hk,by rw[<-hm hk];exact hpm⟩
 have nM:∀b,b∈bn m->b∈bn m':=fun b hb=>by obtain⟨j,mb,q1,q2⟩:=kL hb;obtain⟨k,_,q3⟩:=SG q1;exact bf q3 q2
 have af0:∀{i:Nat} {mb:MB} {b:Nat},i∉ks->m'[i]? = some mb->mb.own=some b->b∉bn m:=fun{i mb b} hi h1 h2 hb=>by obtain⟨j,mc,q1,q2⟩:=kL hb;obtain⟨k,q3,q4⟩:=SG q1;have:=je hr.nodup h1 q4 h2 q2;subst this;exact hi (a4Y q3)
 let A2:Nat->Prop:=fun b=>A b∧(b∈bn m'->b∈bn m)
 have hA:∀b,AA A m' b->AA A2 m b:=fun b hb=>⟨⟨hb.1,fun h9=>absurd h9 hb.2⟩,fun h9=>hb.2 (nM b h9)⟩;have hg:∀i j,wW ks i=some j->m[j]? = m'[i]?:=fun i j Ak=>hm (OW Ak);have wR:HR X P A2 m H h:=by
  refine⟨by rw[a6G,hHg.1,hpg.1],fun j b hj=>?_,jG fun i j c q1 q2=>?_,fun b hb=>⟨hr.up b hb,fun h9=>absurd (hr.inb h9) (by omega)⟩,fun b hb=>⟨hr.Dc b (nM b hb),fun _=>hb⟩⟩
  .obtain⟨b0,q1,q2⟩:=hHg.2 hj;have sF:j<ks.length:=by rw[<-hpg.1];exact(a08.1 q1).1
   have hk:=a0d sF;obtain⟨b9,q5,q6⟩:=hpg.2 hk;rw[q1]at q6;cases q6;obtain⟨mb,q3,q4⟩:=hr.at_ _ _ q5;exact⟨mb,by rw[hm hk];exact q3,Ei hX hg hA (fun c _ h9 h8=>h9 (nM c h8)) q4 q2⟩
  .obtain⟨ma,a1,a2⟩:=q1;obtain⟨mc,c1,c2⟩:=q2;obtain⟨k,a3,a4⟩:=SG a1;obtain⟨l,c3,c4⟩:=SG c1;have e:=je hr.nodup a4 c4 a2 c2;subst e;exact(List.getElem?_inj (a08.1 a3).1 jF).1 (by rw[a3,c3])
 obtain⟨w,h1,ws,m1,c1,c2,c3,c4,c5,c6⟩:=hs A2 m h tf rM wR (Eh hg hA hX hf' hf) (zI hX hg hA FK hx);have a6H:ks.length<=m1.length:=by
  rcases abw ks.length with e|e
  .omega
  .have aT:ks.length-1<m.length:=(by omega);have:=c5 (ks.length-1) m[ks.length-1] (a0d aT);rcases this with g|g<;>(have:=(a08.1 g).1;omega)
 let m1':List MB:=putAt ks m1 m'++m1.drop ks.length
 have hn:m'.length=H'.length:=hr.len;have aap:(putAt ks m1 m').length=m'.length:=tV;have a1A:∀{p k:Nat},ks[p]? = some k->m1'[k]? = m1[p]?:=fun{p k} hk=>by show(putAt ks m1 m'++_)[k]? = _;rw[a0m (by rw[aap];exact hkH hk),OZ jF hkm a6H hk]
 have ZQ:∀{i:Nat},i<m'.length->i∉ks->m1'[i]? = m'[i]?:=fun{i} hi hk=>by show(putAt ks m1 m'++_)[i]? = _;rw[a0m (by rw[aap];exact hi),Jo hk]
 have ZR:∀{j:Nat},ks.length<=j->m1'[m'.length+(j-ks.length)]? = m1[j]?:=fun{j} hj=>by show(putAt ks m1 m'++_)[_]? = _;rw[a0L (by rw[aap];omega),aap,Nat.add_sub_cancel_left,a4O];congr 1;omega
 have hgb:∀j i,bk ks H'.length j=some i->m1'[i]? = m1[j]?:=fun j i Ak=>by
  unfold bk at Ak;split at Ak
  .rename_i k hk;cases Ak;exact a1A hk
  .rename_i hk;cases Ak;rw[<-hn];exact ZR (by rw[List.getElem?_eq_none_iff]at hk;exact hk)
 have vJ:∀{i:Nat} {mb:MB},m1'[i]? = some mb->(∃p,ks[p]? = some i∧m1[p]? = some mb)∨(i<m'.length∧i∉ks∧m'[i]? = some mb)∨(∃j,ks.length<=j∧i=m'.length+(j-ks.length)∧m1[j]? = some mb):=fun{i mb} hi=>by
  rcases a4N i m'.length with aT|EW
  .by_cases hk:i∈ks
   .obtain⟨p,hp⟩:=a8X hk;exact .inl ⟨p,hp,by rw[<-a1A hp];exact hi⟩
   .exact .inr (.inl ⟨aT,hk,by rw[<-ZQ aT hk];exact hi⟩)
  .refine .inr (.inr ⟨i-m'.length+ks.length,by omega,by omega,?_⟩);rw[<-ZR (by omega)];rw[<-hi];congr 1;omega
 have zn:∀{b:Nat},b∈bn m1'->b∈bn m1∨∃i mb,i∉ks∧m'[i]? = some mb∧mb.own=some b:=fun{b} hb=>by
  obtain⟨i,mb,q1,q2⟩:=kL hb;rcases vJ q1 with⟨p,_,q3⟩|⟨_,q3,q4⟩|⟨j,_,_,q3⟩
  .exact .inl (bf q3 q2)
  .exact .inr ⟨i,mb,q3,q4,q2⟩
  .exact .inl (bf q3 q2)
 have aaq:∀{i b:Nat} {mb:MB},i∉ks->m'[i]? = some mb->mb.own=some b->b∉bn m1:=fun{i b mb} h1 h2 h3 h4=>by
  rcases c4.new b h4 with g|g
  .exact af0 h1 h2 h3 g
  .exact absurd (hr.inb (bf h2 h3)) (by omega)
 have hA3:∀b,AA A2 m1 b->AA A m1' b:=fun b hb=>⟨hb.1.1,fun h9=>by
  rcases zn h9 with g|⟨i,mb,g1,g2,g3⟩
  .exact hb.2 g
  .exact af0 g1 g2 g3 (hb.1.2 (bf g2 g3))⟩
 have hF:Fr m' h m1' h1:=⟨c4.len,fun b hb hnb=>c4.same b hb fun h9=>hnb (nM b h9),fun b hb=>by
  rcases zn hb with g|⟨i,mb,g1,g2,g3⟩
  .rcases c4.new b g with g|g
   .exact .inl (nM b g)
   .exact .inr g
  .exact .inl (bf g2 g3),c4.grow⟩
 have hU:Up m' m1':=fun i mb hi=>by
  have aT:=(a08.1 hi).1;by_cases hk:i∈ks
  .obtain⟨p,hp⟩:=a8X hk;rw[a1A hp];exact c5 p mb (by rw[hm hp];exact hi)
  .exact .inl (by rw[ZQ aT hk];exact hi)
 have af2:=tK hH1;have aiT:m1.length=H1.length:=c2.len;refine⟨w,h1,ws,m1',c1,⟨?_,fun i b hi=>?_,?_,fun b hb=>(c2.up b hb).1,fun b hb=>?_⟩,Eh hgb hA3 hX c3 hv,hF,hU,fun b hb=>?_⟩
 .show(putAt ks m1 m'++_).length=_;rw[a1w,a1w,tV,tV,a3U,a3U,af2.1,aiT,hn]
 .have aiU:ks.length<=QH.length:=by rw[af2.1,<-aiT];exact a6H
  have aoC:∀k∈ks,k<H'.length:=fun k hk=>by rw[<-hn];exact hkm k hk
  have back:∀{j:Nat} {b:PB X.Γ},QH[j]? = some b->∃mb,m1[j]? = some mb∧BR X P (AA A m1') m1' h1 b mb:=fun{j b} hj=>by
   obtain⟨b0,q1,q2⟩:=af2.2 hj;obtain⟨mb,q3,q4⟩:=c2.at_ j b0 q1;refine⟨mb,q3,Ei hX hgb hA3 (fun c e h9 h8=>?_) q4 q2⟩;rcases zn h8 with g|⟨i,MS,g1,g2,g3⟩
   .exact h9 g
   .subst e;rcases a4N j ks.length with hj1|hj1
    .have hk:=a0d hj1;have sF:j<m.length:=by rw[a6G];exact hj1
     have hmj:m[j]? = some (.jw c):=by
      rcases c5 j _ (a0d sF)with e|e<;>rw[q3]at e<;>simp only[a07]at e
      .rw[a0d sF,<-e]
      .cases e
     obtain⟨k,e1,e2⟩:=SG hmj;obtain⟨b9,e3,_⟩:=hpg.2 e1;obtain⟨mb9,e4,e5⟩:=hr.at_ _ _ e3;rw[e2]at e4;cases e4;cases b9<;>first|exact e5.elim|exact e5.1 (bf g2 g3)
    .have e1:(H1.drop ks.length)[j-ks.length]? = some b0:=by rw[a4O,<-q1];congr 1;omega
     have e2:=N8 hro e1;cases b0<;>first|exact q4.elim|cases e2
  rcases a4N i H'.length with aT|EW
  .rw[a0m (by rw[tV];exact aT)]at hi;by_cases hk:i∈ks
   .obtain⟨p,hpk⟩:=a8X hk;rw[OZ jF aoC aiU hpk]at hi;obtain⟨mb,q1,q2⟩:=back hi;exact⟨mb,by rw[a1A hpk];exact q1,q2⟩
   .rw[Jo hk]at hi;obtain⟨mb,q1,q2⟩:=hr.at_ i b hi;refine⟨mb,by rw[ZQ (by rw[hn];exact aT) hk];exact q1,q2.step hF hU fun c hc=>?_⟩;exact c4.same c (hr.inb (bf q1 hc)) (af0 hk q1 hc)
  .rw[a0L (by rw[tV];exact EW),tV,a4O]at hi;obtain⟨mb,q1,q2⟩:=back hi;refine⟨mb,?_,q2⟩;have:=ZR (j:=ks.length+(i-H'.length)) (by omega);rw[q1]at this;rw[<-this];congr 1;omega
 .refine jG fun i j c q1 q2=>?_;obtain⟨ma,a1,a2⟩:=q1;obtain⟨mc,b1,b2⟩:=q2;rcases vJ a1 with⟨p,a3,a4⟩|⟨a3,a4,a5⟩|⟨p,a3,a4,a5⟩<;>rcases vJ b1 with⟨q,b3,b4⟩|⟨b3,b4,b5⟩|⟨q,b3,b4,b5⟩
  .have:=je c2.nodup a4 b4 a2 b2;subst this;rw[a3]at b3;cases b3;rfl
  .exact absurd (bf a4 a2) (aaq b4 b5 b2)
  .have:=je c2.nodup a4 b5 a2 b2;subst this;have:=(a08.1 a3).1;omega
  .exact absurd (bf b4 b2) (aaq a4 a5 a2)
  .exact je hr.nodup a5 b5 a2 b2
  .exact absurd (bf b5 b2) (aaq a4 a5 a2)
  .have:=je c2.nodup a5 b4 a2 b2;subst this;have:=(a08.1 b3).1;omega
  .exact absurd (bf a5 a2) (aaq b4 b5 b2)
  .have:=je c2.nodup a5 b5 a2 b2;subst this;omega
 .rcases zn hb with g|⟨i,mb,g1,g2,g3⟩
  .exact(c2.Dc b g).1
  .exact hr.Dc b (bf g2 g3)
 .obtain⟨j,hw,mb,q1,q2⟩:=c6 b hb;obtain⟨k,q3,q4⟩:=SG q1;exact⟨j,k,q3,hw,mb,q4,q2⟩
end
end Pv
