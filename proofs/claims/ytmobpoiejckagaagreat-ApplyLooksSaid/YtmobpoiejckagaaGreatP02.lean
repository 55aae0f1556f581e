/- Part 3 of a proof: ApplyLooks -/
import Derived.Test.YtmobpoiejckagaaGreatP01
set_option linter.constructorNameAsVariable false
set_option linter.unusedVariables false
set_option linter.unusedSimpArgs false
set_option linter.unusedSectionVars false
noncomputable section
namespace Pv
open Go Tw
section
variable {X:kJ} {P:LI1} {A:Nat->Prop} {m m':List MB} {h h':List HB} {H H':List (PB X.Γ)}
theorem HR.next(hr:HR X P A m H h)(hF:Fr m h m' h')(hU:Up m m')(hl:m'.length=H'.length)(hn:(bg m').Nodup)
  (Iq:∀(i:Nat) b,H'[i]? = some b->(∃mb,H[i]? = some b∧m[i]? = some mb∧m'[i]? = some mb∧∀c,mb.own=some c->h'[c]? = h[c]?)∨∃mb,m'[i]? = some mb∧BR X P (AA A m') m' h' b mb):HR X P A m' H' h':=by
 refine⟨hl,fun i b hb=>?_,hn,fun b hb=>hr.up b (by have:=hF.len;omega),fun b hb=>?_⟩
 .rcases Iq i b hb with⟨mb,h1,h2,h3,h4⟩|h1
  .obtain⟨LM,g1,g2⟩:=hr.at_ i b h1;rw[h2]at g1;cases g1;exact⟨mb,h3,g2.step hF hU h4⟩
  .exact h1
 .rcases hF.new b hb with h1|h1
  .exact hr.CQ b h1
  .exact hr.up b h1
theorem BR.has{B:Nat->Prop}{b:PB X.Γ}{mb:MB}{c:Nat}(hb:BR X P B m h b mb)(ho:mb.own=some c):c<h.length:=by
 have key:∀{y},h[c]? = some y->c<h.length:=fun e=>(a01.1 e).1;cases b with
 |cells cs=>
  cases mb with
  |fV b=>cases ho;obtain⟨_,h1,_⟩:=hb;exact key h1
  |_=>exact hb.elim
 |aF cs=>
  cases mb with
  |jl b=>cases ho
  |_=>exact hb.elim
 |list k ex t l=>
  cases mb with
  |dB x=>
   cases(hb:LR X P B m h k ex t l x)with
   |nil=>cases ho
   |emp=>simp[MB.own]at ho
   |some h1 _ _ h4=>
    simp only[MB.own]at ho;split at ho
    .cases ho
    cases ho;exact key h4
  |_=>exact hb.elim
 |map es=>
  cases mb with
  |fV b=>cases ho;obtain⟨_,h1,_⟩:=hb;exact key h1
  |_=>exact hb.elim
 |mP cs=>
  cases mb with
  |fV b=>cases ho;obtain⟨_,h1,_⟩:=hb;exact key h1
  |_=>exact hb.elim
 |iD es=>
  cases mb with
  |jl b=>cases ho
  |_=>exact hb.elim
 |cO r n seen=>
  cases mb with
  |fV b=>cases ho;obtain⟨_,h1,_⟩:=hb;exact key h1
  |_=>exact hb.elim
 |mark=>
  cases mb with
  |fV b=>cases ho;exact key hb
  |_=>exact hb.elim
 |loop=>
  cases mb with
  |fV b=>cases ho;obtain⟨_,h1,_⟩:=hb;exact key h1
  |_=>exact hb.elim
 |gone=>
  cases mb with
  |gone=>cases ho
  |_=>exact hb.elim
theorem HR.inb(hr:HR X P A m H h){c:Nat}(hc:c∈bg m):c<h.length:=by
 obtain⟨mb,hm,ho⟩:=a6G.1 hc;obtain⟨i,hi⟩:=a8E hm;have:i<H.length:=by rw[<-hr.len];exact(a01.1 hi).1
 obtain⟨LM,h1,h2⟩:=hr.at_ i H[i] (a0a this);rw[hi]at h1;cases h1;exact h2.has ho
theorem iY(a b:List MB):bg (a++b)=bg a++bg b:=List.filterMap_append ..
theorem jY(mb:MB):bg [mb]=mb.own.toList:=by unfold bg;simp[a8P];cases mb.own<;>rfl
theorem wC(ms:List MB):Up m (m++ms):=fun i mb hi=>.inl (by rw[a0b (a01.1 hi).1];exact hi)
theorem HR.push(hr:HR X P A m H h){pb:PB X.Γ}{hb:HB}{mb:MB}(ho:mb.own=some h.length∨mb.own=none)(qy:BR X P (AA A (m++[mb])) (m++[mb]) (h++[hb]) pb mb) :
  HR X P A (m++[mb]) (H++[pb]) (h++[hb])∧Fr m h (m++[mb]) (h++[hb])∧Up m (m++[mb]):=by
 have hF:Fr m h (m++[mb]) (h++[hb]):=by
  refine⟨by simp,fun b hb _=>by rw[a0b hb],fun b hb=>?_,fun b cs hc=>⟨cs,?_,a0U _⟩⟩
  .rw[iY,a3k,jY]at hb;rcases hb with hb|hb
   .exact .inl hb
   .rcases ho with ho|ho<;>rw[ho]at hb<;>simp at hb
    exact .inr (by omega)
  .rw[fP (a0b (fM hc)),hc]
 refine⟨hr.next hF (wC _) (by simp[hr.len]) ?_ fun i b hi=>?_,hF,wC _⟩
 .rw[iY,jY];refine a8H.2 ⟨hr.nodup,?_,?_⟩
  .cases mb.own<;>simp
  .intro a ha b hb e;subst e;have:=hr.inb ha;rcases ho with ho|ho<;>rw[ho]at hb<;>simp at hb
   omega
 .rcases a4d i H.length with aT|Et
  .left;rw[a0b aT]at hi;obtain⟨LM,h1,h2⟩:=hr.at_ i b hi;refine⟨LM,hi,h1,by rw[a0b (by rw[hr.len];exact aT)];exact h1,fun c hc=>?_⟩;rw[a0b (h2.has hc)]
  .right;rw[a0S Et]at hi;have:i-H.length=0:=by
    rcases abu (i-H.length)with h|h
    .exact h
    .rw[a4a (by simp;omega)]at hi;cases hi
   rw[this]at hi;simp only[a2r,a00]at hi;subst hi;exact⟨mb,by rw[a0S (by rw[hr.len];exact Et),hr.len,this];rfl,qy⟩
theorem HR.abO(hr:HR X P A m H h){pb:PB X.Γ}{mb:MB}(ho:mb.own=none)(qy:BR X P (AA A (m++[mb])) (m++[mb]) h pb mb) :
  HR X P A (m++[mb]) (H++[pb]) h∧Fr m h (m++[mb]) h∧Up m (m++[mb]):=by
 have yO:bg (m++[mb])=bg m:=by rw[iY,jY,ho];simp
 have hF:Fr m h (m++[mb]) h:=⟨a0U _,fun _ _ _=>rfl,fun b hb=>.inl (yO▸hb),fun b cs hc=>⟨cs,hc,a0U _⟩⟩;refine⟨hr.next hF (wC _) (by simp[hr.len]) (by rw[yO];exact hr.nodup) fun i b hi=>?_,hF,wC _⟩;rcases a4d i H.length with aT|Et
 .left;rw[a0b aT]at hi;obtain⟨LM,h1,h2⟩:=hr.at_ i b hi;exact⟨LM,hi,h1,by rw[a0b (by rw[hr.len];exact aT)];exact h1,fun c hc=>rfl⟩
 .right;rw[a0S Et]at hi;have:i-H.length=0:=by
   rcases abu (i-H.length)with h|h
   .exact h
   .rw[a4a (by simp;omega)]at hi;cases hi
  rw[this]at hi;simp only[a2r,a00]at hi;subst hi;exact⟨mb,by rw[a0S (by rw[hr.len];exact Et),hr.len,this];rfl,qy⟩
theorem HR.set(hr:HR X P A m H h){i c:Nat}{mb:MB}{pb:PB X.Γ}{hb:HB}(hi:m[i]? = some mb)(ho:mb.own=some c)(hg:∀cs,aX h c=some cs->∃cs',aX (h.set c hb) c=some cs'∧cs.length<=cs'.length)
  (qy:Fr m h m (h.set c hb)->BR X P (AA A m) m (h.set c hb) pb mb):HR X P A m (H.set i pb) (h.set c hb)∧Fr m h m (h.set c hb):=by
 have hF:Fr m h m (h.set c hb):=by
  refine⟨by simp,fun b hb hn=>?_,fun b hb=>.inl hb,fun b cs hc=>?_⟩
  .rw[a1l];intro e;subst e;exact hn (aZ hi ho)
  .by_cases e:c=b
   .subst e;exact hg cs hc
   .exact⟨cs,by rw[fP (a1l e),hc],a0U _⟩
 refine⟨hr.next hF .refl (by simp[hr.len]) hr.nodup fun j b hj=>?_,hF⟩;by_cases e:i=j
 .subst e;rw[a4f ]at hj;right;have:H[i]?.isSome:=by
   have:i<H.length:=by rw[<-hr.len];exact(a01.1 hi).1
   simp[this]
  obtain⟨y,hy⟩:=a4J.1 this;rw[hy]at hj;cases hj;exact⟨mb,hi,qy hF⟩
 .rw[a1l e]at hj;left;obtain⟨LM,h1,h2⟩:=hr.at_ j b hj;refine⟨LM,hj,h1,h1,fun d hd=>a1l fun e2=>?_⟩;subst e2;exact e (iV hr.nodup hi h1 ho hd)
theorem EJ{i:Nat}:∀{m:List MB} {b:Nat},b∈bg (m.set i .gone)->b∈bg m:=by
 intro m b hb;obtain⟨mb,hm,ho⟩:=a6G.1 hb;obtain⟨j,hj⟩:=a8E hm;by_cases e:i=j
 .subst e;rw[a4f]at hj;cases hx:m[i]? with
  |none=>rw[hx]at hj;cases hj
  |some y=>rw[hx]at hj;cases hj;cases ho
 rw[a1l e]at hj;exact aZ hj ho
theorem O9{i:Nat}:∀{m:List MB},(bg m).Nodup->(bg (m.set i .gone)).Nodup:=by
 unfold bg;intro m
 induction m generalizing i with
 |nil=>intro h;simp
 |cons x r ih=>
  intro hn;cases i with
  |zero=>
   simp only[List.set_cons_zero,a8P,MB.own];simp only[a8P]at hn;split at hn
   .exact hn
   exact(a4k.1 hn).2
  |succ i=>
   simp only[List.set_cons_succ,a8P];simp only[a8P]at hn;split at hn
   .exact ih hn
   refine a4k.2 ⟨fun hb=>(a4k.1 hn).1 ?_,ih (a4k.1 hn).2⟩;exact EJ (m:=r) hb
theorem a0M{i:Nat}:Fr m h (m.set i .gone) h:=⟨a0U _,fun _ _ _=>rfl,fun _ hb=>.inl (EJ hb),fun _ cs hc=>⟨cs,hc,a0U _⟩⟩
theorem a0N{i:Nat}:Up m (m.set i .gone):=fun j mb hj=>by
 by_cases e:i=j
 .subst e;right;rw[a4f,hj];rfl
 .left;rw[a1l e];exact hj
theorem HR.gone(hr:HR X P A m H h)(i:Nat):HR X P A (m.set i .gone) (H.set i .gone) h:=by
 refine hr.next a0M a0N (by simp[hr.len]) (O9 hr.nodup) fun j b hj=>?_;by_cases e:i=j
 .subst e;right;rw[a4f]at hj;cases hx:H[i]? with
  |none=>rw[hx]at hj;cases hj
  |some y=>
   rw[hx]at hj;cases hj;obtain⟨mb,h1,_⟩:=hr.at_ i y hx;exact⟨.gone,by rw[a4f,h1];rfl,trivial⟩
 rw[a1l e]at hj;left;obtain⟨mb,h1,_⟩:=hr.at_ j b hj;exact⟨mb,hj,h1,by rw[a1l e];exact h1,fun _ _=>rfl⟩
def cu:List Nat->List MB->List MB
 | [],m=>m
 |i::is,m=>cu is (m.set i .gone)
theorem iE:∀(is:List Nat) (m:List MB),Fr m h (cu is m) h∧Up m (cu is m)
 | [],m=>⟨.refl,.refl⟩
 |i::is,m=>⟨a0M.trans (iE is _).1,a0N.trans (iE is _).2⟩
theorem HR.bf:∀(is:List Nat) {m:List MB} {H:List (PB X.Γ)},HR X P A m H h->HR X P A (cu is m) (bf is H) h
 | [],_,_,hr=>hr
 |i::is,_,_,hr=>HR.bf is (hr.gone i)
theorem nN:∀(is:List Nat) (H:List (PB X.Γ)),(Pv.bf is H).length=H.length
 | [],_=>rfl
 |i::is,H=>by rw[Pv.bf,nN is];simp[Ws]
theorem lZ:∀(is:List Nat) (m:List MB),(cu is m).length=m.length
 | [],_=>rfl
 |i::is,m=>by rw[cu,lZ is];simp
theorem Gz:∀(is:List Nat) {m:List MB} {i:Nat} {mb:MB},m[i]? = some mb->(cu is m)[i]? = some (if is.contains i then .gone else mb)
 | [],_,_,_,h=>by simpa[cu]using h
 |j::is,m,i,mb,h=>by
  rw[cu];by_cases e:j=i
  .subst e;have:(m.set j .gone)[j]? = some .gone:=by rw[a4f,h];rfl
   rw[Gz is this];simp
  rw[Gz is (by rw[a1l e];exact h)];have:(i==j)=false:=by simp;omega
  simp only[agY,this,ag6]
end
section
variable {X:kJ} {P:LI1} {A:Nat->Prop} {m m':List MB} {h h':List HB} {H H':List (PB X.Γ)}
theorem bU.nil:bU X P A m h [] []:=⟨rfl,fun i x y hx=>by simp at hx⟩
theorem bU.cons{v:PV X.Γ}{x:TV}{vs:List (PV X.Γ)}{xs:List TV}(h1:VR X P A m h v x)(h2:bU X P A m h vs xs):bU X P A m h (v::vs) (x::xs):=by
 refine⟨by simp[h2.1],fun i a b ha hb=>?_⟩;cases i with
 |zero=>simp only[a2r,a00]at ha hb;subst ha;subst hb;exact h1
 |succ i=>exact h2.2 i a b (by simpa using ha) (by simpa using hb)
theorem bU.inv{v:PV X.Γ}{vs:List (PV X.Γ)}{xs:List TV}(hv:bU X P A m h (v::vs) xs):∃x r,xs=x::r∧VR X P A m h v x∧bU X P A m h vs r:=by
 cases xs with
 |nil=>have:=hv.1;simp at this
 |cons x r=>exact⟨x,r,rfl,hv.2 0 v x rfl rfl,by have:=hv.1;simpa using this,fun i a b ha hb=>hv.2 (i+1) a b (by simpa using ha) (by simpa using hb)⟩
theorem bU.inv0{xs:List TV}(hv:bU X P A m h [] xs):xs=[]:=by have:=hv.1;cases xs<;>simp_all
theorem bU.app{a b:List (PV X.Γ)}{x y:List TV}(h1:bU X P A m h a x)(h2:bU X P A m h b y):bU X P A m h (a++b) (x++y):=by
 refine⟨by simp[h1.1,h2.1],fun i c d hc hd=>?_⟩;rcases a4d i a.length with hl|hl
 .rw[a0b hl]at hc;rw[a0b (by rw[<-h1.1];exact hl)]at hd;exact h1.2 i c d hc hd
 rw[a0S hl]at hc;rw[a0S (by rw[<-h1.1];exact hl),<-h1.1]at hd;exact h2.2 _ c d hc hd
theorem bU.drop{a:List (PV X.Γ)}{x:List TV}(h1:bU X P A m h a x)(n:Nat):bU X P A m h (a.drop n) (x.drop n):=
 ⟨by simp[h1.1],fun i c d hc hd=>h1.2 (n+i) c d (by rw[<-hc,a4e]) (by rw[<-hd,a4e])⟩
theorem bU.take{a:List (PV X.Γ)}{x:List TV}(h1:bU X P A m h a x)(n:Nat):bU X P A m h (a.take n) (x.take n):=by
 refine⟨by simp[h1.1],fun i c d hc hd=>?_⟩;rw[a4g]at hc hd;split at hc
 .rename_i hl;rw[a0g hl]at hd;exact h1.2 i c d hc hd
 cases hc
theorem bU.get{a:List (PV X.Γ)}{x:List TV}(h1:bU X P A m h a x){i:Nat}{c:PV X.Γ}(hc:a[i]? = some c):∃v,x[i]? = some v∧VR X P A m h c v:=by
 have hl:i<x.length:=by rw[<-h1.1];exact(a01.1 hc).1
 exact⟨x[i],a0a hl,h1.2 i c _ hc (a0a hl)⟩
theorem Rx{v:PV X.Γ}{x tv:TV}(hv:VR X P A m h v x)(hp:qM v=some tv):x=tv:=by
 cases hv with
 |gone hi _ _=>cases v<;>simp[bn]at hi<;>simp[qM]at hp
 |_=>first|(simp only[qM,a00]at hp;exact hp)|(simp[qM]at hp;done)
theorem Fz:∀{vs:List (PV X.Γ)} {xs tvs:List TV},bU X P A m h vs xs->iJ vs=some tvs->xs=tvs
 | [],xs,tvs,hv,hp=>by simp only[iJ,a00]at hp;rw[hv.inv0,hp]
 |v::vs,xs,tvs,hv,hp=>by
  obtain⟨x,r,rfl,h1,h2⟩:=hv.inv;simp only[iJ]at hp;split at hp
  .rename_i a b ha hb;cases hp;rw[Rx h1 ha,Fz h2 hb]
  cases hp
theorem jM{v:PV X.Γ}{x tv:TV}(hv:VR X P A m h v x)(hp:pU v=some tv):x=tv:=by
 cases v with
 |agg cs=>
  simp only[pU,a05]at hp;obtain⟨tvs,h1,rfl⟩:=hp;cases hv with
  |agg h2 h3=>rw[Fz ⟨h2,h3⟩ h1]
  |gone hi _ _=>simp[bn]at hi
 |_=>exact Rx hv hp
theorem a0O:∀{vs:List (PV X.Γ)} {xs tvs:List TV},bU X P A m h vs xs->U7 vs=some tvs->xs=tvs
 | [],xs,tvs,hv,hp=>by simp only[U7,a00]at hp;rw[hv.inv0,hp]
 |v::vs,xs,tvs,hv,hp=>by
  obtain⟨x,r,rfl,h1,h2⟩:=hv.inv;simp only[U7]at hp;split at hp
  .rename_i a b ha hb;cases hp;rw[jM h1 ha,a0O h2 hb]
  cases hp
theorem a5G{v:PV X.Γ}{x:TV}(hp:ZX x=some v):VR X P A m h v x:=by cases x<;>simp[ZX]at hp<;>subst hp<;>constructor
theorem Uh:∀{xs:List TV} {vs:List (PV X.Γ)},BN xs=some vs->bU X P A m h vs xs
 | [],vs,hp=>by simp only[BN,a00]at hp;subst hp;exact .nil
 |x::xs,vs,hp=>by
  simp only[BN]at hp;split at hp
  .rename_i a b ha hb;cases hp;exact .cons (a5G ha) (Uh hb)
  cases hp
theorem wE{v:PV X.Γ}{x:TV}(hp:Yh x=some v):VR X P A m h v x:=by
 cases x with
 |agg cs=>
  simp only[Yh,a05]at hp;obtain⟨vs,h1,rfl⟩:=hp;have:=Uh (X:=X) (P:=P) (A:=A) (m:=m) (h:=h) h1;exact .agg this.1 this.2
 |_=>exact a5G hp
theorem Ry{v:PV X.Γ}{x:TV}(hp:qM v=some x):VR X P A m h v x:=by
 cases v<;>simp only[qM,a00,reduceCtorEq]at hp<;>subst hp
 .exact .bool _
 .exact .int _ _
 .exact .str _
 exact .nil _
theorem FB:∀{vs:List (PV X.Γ)} {xs:List TV},iJ vs=some xs->bU X P A m h vs xs
 | [],xs,hp=>by simp only[iJ,a00]at hp;subst hp;exact .nil
 |v::vs,xs,hp=>by
  simp only[iJ]at hp;split at hp
  .rename_i a b ha hb;cases hp;exact .cons (Ry ha) (FB hb)
  cases hp
theorem nO{v:PV X.Γ}{x:TV}(hp:pU v=some x):VR X P A m h v x:=by
 cases v with
 |agg cs=>
  simp only[pU,a05]at hp;obtain⟨vs,h1,rfl⟩:=hp;have:=FB (X:=X) (P:=P) (A:=A) (m:=m) (h:=h) h1;exact .agg this.1 this.2
 |_=>exact Ry hp
theorem GH{v:PV X.Γ}{x:TV}(hv:VR X P A m h v x):VR X P A m h (a0G v) x:=by
 cases v with
 |lit b=>
  cases hv with
  |lit=>exact .bool _
  |gone hi _ _=>simp[bn]at hi
 |_=>exact hv
theorem a5H{v:PV X.Γ}{x:TV}(hv:VR X P A m h v x):iT x=YU v:=by
 cases hv with
 |own _ o=>exact o
 |gone hi _ o=>rw[o];cases v<;>simp[bn]at hi<;>rfl
 |_=>rfl
theorem GI{v:PV X.Γ}{x:TV}(hv:VR X P A m h v x):bU X P A m h v.cells x.cells:=by
 have hq:=a5H hv;cases v with
 |agg cs=>
  cases hv with
  |agg h1 h2=>exact⟨h1,h2⟩
  |gone hi _ _=>simp[bn]at hi
 |dG cs=>
  have hv':=hv;cases hv with
  |dG h1 h2=>exact .cons hv' .nil
  |gone hi _ _=>simp[bn]at hi
 |_=>
  have:x.cells=[x]:=by cases x<;>first|rfl|(simp[iT,YU]at hq;done)
  rw[this];exact .cons hv .nil
theorem DL:∀{vs:List (PV X.Γ)} {xs:List TV},bU X P A m h vs xs->xs.all iT=vs.all YU
 | [],xs,hv=>by rw[hv.inv0];rfl
 |v::vs,xs,hv=>by obtain⟨x,r,rfl,h1,h2⟩:=hv.inv;simp only[abC,a5H h1,DL h2]
theorem ae5{cs:List (PV X.Γ)}{xs:List TV}(hv:bU X P A m h cs xs){off n:Nat}{r:List (PV X.Γ)}(hs:adY cs off n=some r):∃r',sub xs off n=some r'∧bU X P A m h r r':=by
 unfold adY at hs;split at hs
 .rename_i hl;cases hs;exact⟨_,by unfold sub;rw[a0g (by rw[<-hv.1];exact hl)],(hv.drop off).take n⟩
 cases hs
theorem GK{cs new:List (PV X.Γ)}{xs ai2:List TV}(hv:bU X P A m h cs xs)(hn:bU X P A m h new ai2){off:Nat}{r:List (PV X.Γ)}(hs:O1 cs off new=some r):∃r',vO xs off ai2=some r'∧bU X P A m h r r':=by
 unfold O1 at hs;split at hs
 .rename_i hl;cases hs;refine⟨_,by unfold vO;rw[a0g (by rw[<-hv.1,<-hn.1];exact hl)],?_⟩;rw[<-hn.1];exact((hv.take off).app hn).app (hv.drop _)
 cases hs
theorem Ae{cs:List (PV X.Γ)}{xs:List TV}(hv:bU X P A m h cs xs){t:LI2}{off:Nat}{v:PV X.Γ}(hs:Gu P t cs off=some v):∃x,ug P t xs off=some x∧VR X P A m h v x:=by
 unfold Gu at hs;unfold ug;split at hs
 .rename_i n ha hn;simp only[a05]at hs;obtain⟨r,h1,rfl⟩:=hs;obtain⟨r',g1,g2⟩:=ae5 hv h1;exact⟨.agg r',by simp only[ha,hn,g1,a0j],.agg g2.1 g2.2⟩
 .rename_i n ha hn;split at hs
  .rename_i h1;obtain⟨x,g1,g2⟩:=hv.get hs;exact⟨x,by simp only[ha,hn,h1,a1U,g1],g2⟩
  cases hs
 cases hs
theorem GL{t:LI2}{z:List (PV X.Γ)}(hz:Rq P t=some z):∃z',JI P t=some z'∧bU X P A m h z z':=by
 unfold Rq at hz;split at hz
 .rename_i z' h1;exact⟨z',h1,Uh hz⟩
 cases hz
def VPs(X:kJ)(P:LI1)(A:Nat->Prop)(m:List MB)(h:List HB)(ps:List (Nat×PV X.Γ))(qs:List (Nat×TV)):Prop:=
 ps.length=qs.length∧∀(i:Nat) a b,ps[i]? = some a->qs[i]? = some b->a.1=b.1∧VR X P A m h a.2 b.2
theorem VPs.inv{a:Nat×PV X.Γ}{ps:List (Nat×PV X.Γ)}{qs:List (Nat×TV)}(hv:VPs X P A m h (a::ps) qs):∃x r,qs=(a.1,x)::r∧VR X P A m h a.2 x∧VPs X P A m h ps r:=by
 cases qs with
 |nil=>have:=hv.1;simp at this
 |cons q r=>
  obtain⟨h1,h2⟩:=hv.2 0 a q rfl rfl;refine⟨q.2,r,by rw[h1],h2,by have:=hv.1;simpa using this,fun i x y hx hy=>hv.2 (i+1) x y (by simpa using hx) (by simpa using hy)⟩
theorem LP{pl:Nat->Option (Nat×Nat)}:∀{ps:List (Nat×PV X.Γ)} {qs:List (Nat×TV)} {cs:List (PV X.Γ)} {xs:List TV},VPs X P A m h ps qs->bU X P A m h cs xs->∀{r:List (PV X.Γ)},O4 pl cs ps=some r->∃r',rW pl xs qs=some r'∧bU X P A m h r r'
 | [],qs,cs,xs,hp,hv,r,hs=>by
  have:qs=[]:=by have:=hp.1;cases qs<;>simp_all
  subst this;simp only[O4,a00]at hs;subst hs;exact⟨xs,rfl,hv⟩
 |(i,v)::ps,qs,cs,xs,hp,hv,r,hs=>by
  obtain⟨x,rest,rfl,h1,h2⟩:=hp.inv;have hc:=GI h1;simp only[O4]at hs;split at hs
  .rename_i off size FT;split at hs
   .rename_i uT;split at hs
    .rename_i cs' ho;obtain⟨xs',g1,g2⟩:=GK hv hc ho;obtain⟨r',g3,g4⟩:=LP h2 g2 hs;have adG:x.cells.length=size:=by rw[<-hc.1];exact uT
     exact⟨r',by simp only[rW,FT,adG,a1U,g1,g3],g4⟩
    cases hs
   cases hs
  cases hs
theorem a5I{t:LI2}{ps:List (Nat×PV X.Γ)}{qs:List (Nat×TV)}(hp:VPs X P A m h ps qs){v:PV X.Γ}(hs:YW P t ps=some v):∃x,MR P t qs=some x∧VR X P A m h v x:=by
 unfold YW at hs;unfold MR;split at hs
 .rename_i z fs hz hu;obtain⟨z',g1,g2⟩:=GL (A:=A) (m:=m) (h:=h) hz;split at hs
  .rename_i ha;simp only[a05]at hs;obtain⟨r,h1,rfl⟩:=hs;obtain⟨r',g3,g4⟩:=LP hp g2 h1;exact⟨.agg r',by simp only[g1,hu,ha,a1U,g3,a0j],.agg g4.1 g4.2⟩
  cases hs
 .rename_i z n e hz hu;obtain⟨z',g1,g2⟩:=GL (A:=A) (m:=m) (h:=h) hz;split at hs
  .rename_i k hk;simp only[a05]at hs;obtain⟨r,h1,rfl⟩:=hs;obtain⟨r',g3,g4⟩:=LP hp g2 h1;exact⟨.agg r',by simp only[g1,hu,hk,g3,a0j],.agg g4.1 g4.2⟩
  cases hs
 cases hs
theorem Wy{z:List (PV X.Γ)}{z':List TV}(hz:bU X P A m h z z'):∀n,bU X P A m h (YX z n) (times z' n)
 | 0=>.nil
 |n+1=>hz.app (Wy hz n)
section
variable {env:List (Nat×PE X.Γ)} {env':List (Nat×EV)}
theorem a0P(he:jS X P A m h env env'){t:Nat}:(EH t env=none∧dL t env'=none)∨∃v x,EH t env=some v∧dL t env'=some x∧Iu X P A m h v x:=by
 induction he with
 |nil=>exact .inl ⟨rfl,rfl⟩
 |cons h1 _ ih=>
  rename_i k v x r r' _;simp only[EH,dL];by_cases e:k=t
  .right;exact⟨v,x,by rw[a0g e],by rw[a0g e],h1⟩
  rw[a0c e,a0c e];exact ih
theorem oz(he:jS X P A m h env env'){t:Nat}{v:PE X.Γ}(hl:EH t env=some v):∃x,dL t env'=some x∧Iu X P A m h v x:=by
 rcases a0P he (t:=t)with⟨h1,_⟩|⟨w,x,h1,h2,h3⟩
 .rw[hl]at h1;cases h1
 rw[hl]at h1;cases h1;exact⟨x,h2,h3⟩
theorem mX(he:jS X P A m h env env'){o:Operand}{v:PE X.Γ}(hl:Fg env o=some v):∃x,Il env' o=some x∧Iu X P A m h v x:=by
 cases o with
 |tmp t=>exact oz he hl
 |const c=>
  simp only[Fg]at hl;split at hl
  .rename_i b hb;cases hl;exact⟨.val (.bool b),by simp only[Il,hb,a0j],VR.lit b⟩
  .rename_i x _ hx;simp only[a05]at hl;obtain⟨w,h1,rfl⟩:=hl;exact⟨.val x,by simp only[Il,hx,a0j],wE h1⟩
  cases hl
 |func f=>
  simp only[Fg,a00]at hl;subst hl;exact⟨.val (.fn f [] []),rfl,.fn rfl (by simp) rfl (by simp)⟩
 |global g=>cases hl
theorem fQ{v:PV X.Γ}{x:EV}(hp:Iu X P A m h (.val v) x):∃y,x=.val y∧VR X P A m h v y:=by
 cases x with
 |val y=>exact⟨y,rfl,hp⟩
 |_=>exact hp.elim
theorem DN{k o:Nat}{x:EV}(hp:Iu X P A m h (.loc k o) x):x=.loc k o:=by
 cases x with
 |loc k' o'=>obtain⟨rfl,rfl⟩:=hp;rfl
 |_=>exact hp.elim
theorem J3{x:EV}(hp:Iu X P A m h .undef x):x=.undef:=by
 cases x with
 |undef=>rfl
 |_=>exact hp.elim
theorem LQ{r j:Nat}{v:PV X.Γ}{x:EV}(hp:Iu X P A m h (.ent r j v) x):∃c y,x=.ent c j y∧VR X P A m h (.map r) (.map c)∧pU v=some y:=by
 cases x with
 |ent c j' y=>obtain⟨h1,rfl,h2⟩:=hp;exact⟨c,y,rfl,h1,h2⟩
 |_=>exact hp.elim
theorem LU{r j:Nat}{x:EV}(hp:Iu X P A m h (.Ee r j) x):∃c,x=.Ee c j∧VR X P A m h (.map r) (.map c):=by
 cases x with
 |Ee c j'=>obtain⟨h1,rfl⟩:=hp;exact⟨c,rfl,h1⟩
 |_=>exact hp.elim
theorem WA(he:jS X P A m h env env'){o:Operand}{v:PV X.Γ}(hl:a0H env o=some v):∃x,qE env' o=some x∧VR X P A m h v x:=by
 unfold a0H at hl;split at hl
 .rename_i w hw;cases hl;obtain⟨x,h1,h2⟩:=mX he hw;obtain⟨y,rfl,h3⟩:=fQ h2;exact⟨y,by simp only[qE,h1],h3⟩
 cases hl
theorem jm(he:jS X P A m h env env'){o:Operand}{v:PV X.Γ}(hl:zM env o=some v):∃x,qE env' o=some x∧VR X P A m h v x:=by
 unfold zM at hl;split at hl
 .rename_i w hw;cases hl;obtain⟨x,h1,h2⟩:=mX he hw;obtain⟨y,rfl,h3⟩:=fQ h2;exact⟨y,by simp only[qE,h1],GH h3⟩
 cases hl
theorem Ui(he:jS X P A m h env env'):∀{os:List Operand} {vs:List (PV X.Γ)},YV env os=some vs->∃xs,Tq env' os=some xs∧bU X P A m h vs xs
 | [],vs,hl=>by simp only[YV,a00]at hl;subst hl;exact⟨[],rfl,.nil⟩
 |o::os,vs,hl=>by
  simp only[YV]at hl;split at hl
  .rename_i v ws h1 h2;cases hl;obtain⟨x,g1,g2⟩:=jm he h1;obtain⟨xs,g3,g4⟩:=Ui he h2;exact⟨x::xs,by simp only[Tq,g1,g3],.cons g2 g4⟩
  cases hl
theorem Zc(he:jS X P A m h env env'):∀{os:List (Nat×Operand)} {vs:List (Nat×PV X.Γ)},a2C env os=some vs->∃xs,Vu env' os=some xs∧VPs X P A m h vs xs
 | [],vs,hl=>by simp only[a2C,a00]at hl;subst hl;exact⟨[],rfl,rfl,fun i a b ha=>by simp at ha⟩
 |(i,o)::os,vs,hl=>by
  simp only[a2C]at hl;split at hl
  .rename_i v ws h1 h2;cases hl;obtain⟨x,g1,g2⟩:=jm he h1;obtain⟨xs,g3,g4⟩:=Zc he h2;refine⟨(i,x)::xs,by simp only[Vu,g1,g3],by simp[g4.1],fun j a b ha hb=>?_⟩;cases j with
   |zero=>simp only[a2r,a00]at ha hb;subst ha;subst hb;exact⟨rfl,g2⟩
   |succ j=>exact g4.2 j a b (by simpa using ha) (by simpa using hb)
  cases hl
def OR(X:kJ)(P:LI1)(A:Nat->Prop)(m:List MB)(h:List HB):Option (PV X.Γ)->Option TV->Prop
 |none,none=>True
 |some v,some x=>VR X P A m h v x
 |_,_=>False
theorem GN(he:jS X P A m h env env'){o:Option Operand}{v:Option (PV X.Γ)}(hl:NZ env o=some v):∃x,Vx env' o=some x∧OR X P A m h v x:=by
 cases o with
 |none=>simp only[NZ,a00]at hl;subst hl;exact⟨none,rfl,trivial⟩
 |some o=>
  simp only[NZ]at hl;split at hl
  .rename_i w hw;cases hl;obtain⟨x,g1,g2⟩:=jm he hw;exact⟨some x,by simp only[Vx,g1],g2⟩
  cases hl
theorem Uj(he:jS X P A m h env env'):∀live,jS X P A m h (jd live env) (pick live env')
 | []=>.nil
 |t::r=>by
  simp only[jd,pick];rcases a0P he (t:=t)with⟨h1,h2⟩|⟨v,x,h1,h2,h3⟩
  .rw[h1,h2];exact Uj he r
  rw[h1,h2];exact .cons h3 (Uj he r)
theorem a9s(he:jS X P A m h env env'){t:Nat}{b:Bool}(hb:dL t env'=some (.val (.bool b))):jS X P A m h (Pv.BD t b env) env':=by
 induction he with
 |nil=>exact .nil
 |cons h1 h2 ih=>
  rename_i k v x r r';simp only[dL]at hb;simp only[Pv.BD];by_cases e:k=t
  .rw[a0g e]at hb ⊢;cases hb;exact .cons (VR.lit b) h2
  rw[a0c e]at hb ⊢;exact .cons h1 (ih hb)
theorem ae6(he:jS X P A m h env env'):Uf X env=BX env':=by
 induction he with
 |nil=>rfl
 |cons h1 _ ih=>
  rename_i k v x r r' _;cases v with
  |val v=>obtain⟨y,rfl,_⟩:=fQ h1;simpa[Uf,BX]using ih
  |loc a b=>rw[DN h1];simp only[Uf,BX,ih]
  |undef=>rw[J3 h1];simpa[Uf,BX]using ih
  |ent=>obtain⟨_,_,rfl,_⟩:=LQ h1;simpa[Uf,BX]using ih
  |Ee=>obtain⟨_,rfl,_⟩:=LU h1;simpa[Uf,BX]using ih
end
end
structure bP(X:kJ)(P:LI1):Prop where
 dec:∀{t:Nat} {vs:List (PV X.Γ)} {a:X.Γ t},X.dec t vs=some a->∀{A:Nat->Prop} {m:List MB} {h:List HB} {xs:List TV},bU X P A m h vs xs->bU X P A m h (X.enc t a) xs
 jk:∀(t:Nat) (a:X.Γ t),jk.Gw (X.enc t a)=true
section
variable {X:kJ} {P:LI1} {A B:Nat->Prop} {m m':List MB} {h h':List HB} {H H':List (PB X.Γ)}
theorem VR.mono(hAB:∀b,A b->B b){v:PV X.Γ}{x:TV}(hv:VR X P A m h v x):VR X P B m h v x:=by
 induction hv with
 |bool=>exact .bool _
 |lit=>exact .lit _
 |int=>exact .int _ _
 |str=>exact .str _
 |nil=>exact .nil _
 |ptr e=>exact .ptr e
 |aP e=>exact .aP e
 |own e o=>exact .own e o
 |win e q q' q2=>exact .win e q q' q2
 |BF e=>exact .BF e
 |FU e=>exact .FU e
 |IY e=>exact .IY e
 |map e=>exact .map e
 |iter e=>exact .iter e
 |fn h1 _ h3 _ i2 i4=>exact .fn h1 i2 h3 i4
 |kG e=>exact .kG e
 |agg h1 _ i2=>exact .agg h1 i2
 |dG h1 _ i2=>exact .dG h1 i2
 |oW=>exact .oW
 |dB a c c2 s z o k f e _ ih=>exact .dB (hAB _ a) c c2 s z o k f e ih
 |el a c l o e q _ ih=>exact .el (hAB _ a) c l o e q ih
 |row e j q=>exact .row e j q
 |gone i e o=>exact .gone i e o
theorem bU.mono(hAB:∀b,A b->B b){v:List (PV X.Γ)}{x:List TV}(hv:bU X P A m h v x):bU X P B m h v x:=⟨hv.1,fun i a b ha hb=>(hv.2 i a b ha hb).mono hAB⟩
theorem fH:∀{vs:List (PV X.Γ)} {i:Nat} {v:PV X.Γ},jk.Gw vs=true->vs[i]? = some v->jk v=true
 | [],_,_,_,h=>by simp at h
 |a::vs,i,v,hc,h=>by
  simp only[jk.Gw,a2f]at hc;cases i with
  |zero=>simp only[a2r,a00]at h;subst h;exact hc.1
  |succ i=>exact fH hc.2 (by simpa using h)
theorem VR.jk(hX:bP X P){v:PV X.Γ}{x:TV}(hv:VR X P A m h v x)(hc:Pv.jk v=true):VR X P A m' h v x:=by
 induction hv with
 |bool=>exact .bool _
 |lit=>exact .lit _
 |int=>exact .int _ _
 |str=>exact .str _
 |nil=>exact .nil _
 |fn h1 _ h3 _ i2 i4=>
  simp only[Pv.jk,a2f]at hc;exact .fn h1 (fun i x y hx hy=>i2 i x y hx hy (fH hc.1 hx)) h3 (fun i x y hx hy=>i4 i x y hx hy (fH hc.2 hx))
 |agg h1 _ i2=>
  simp only[Pv.jk]at hc;exact .agg h1 (fun i x y hx hy=>i2 i x y hx hy (fH hc hx))
 |dG h1 _ i2=>
  simp only[Pv.jk]at hc;exact .dG h1 (fun i x y hx hy=>i2 i x y hx hy (fH hc hx))
 |oW=>exact .oW
 |dB a c c2 s z o k f e _ ih=>exact .dB a c c2 s z o k f e fun j y i d v h1 h2 h3=>ih j y i d v h1 h2 h3 (fH (hX.jk _ _) h2)
 |el a c l o e q _ ih=>exact .el a c l o e q fun i d v h1 h2=>ih i d v h1 h2 (fH (hX.jk _ _) h1)
 |gone i e o=>rename_i v _ _;cases v<;>simp[bn]at i<;>simp[Pv.jk]at hc
 |_=>simp[Pv.jk]at hc
theorem dW.jk(hX:bP X P){t:Nat}{l:List (X.Γ t)}{cs:List TV}{off sz:Nat}(hv:dW X P A m h t l cs off sz):dW X P A m' h t l cs off sz:=
 ⟨hv.1,hv.2.1,fun j a i c v h1 h2 h3=>(hv.2.2 j a i c v h1 h2 h3).jk hX (fH (hX.jk _ _) h2)⟩
theorem dW.mono(hAB:∀b,A b->B b){t:Nat}{l:List (X.Γ t)}{cs:List TV}{off sz:Nat}(hv:dW X P A m h t l cs off sz):dW X P B m h t l cs off sz:=
 ⟨hv.1,hv.2.1,fun j a i c v h1 h2 h3=>(hv.2.2 j a i c v h1 h2 h3).mono hAB⟩
theorem VR.move(hX:bP X P)(hA:∀q cs,A q->aX h q=some cs->B q∧h'[q]? = h[q]?){v:PV X.Γ}{x:TV}(hv:VR X P A m h v x)(hc:Pv.jk v=true):VR X P B m' h' v x:=by
 induction hv with
 |bool=>exact .bool _
 |lit=>exact .lit _
 |int=>exact .int _ _
 |str=>exact .str _
 |nil=>exact .nil _
 |fn h1 _ h3 _ i2 i4=>
  simp only[Pv.jk,a2f]at hc;exact .fn h1 (fun i x y hx hy=>i2 i x y hx hy (fH hc.1 hx)) h3 (fun i x y hx hy=>i4 i x y hx hy (fH hc.2 hx))
 |agg h1 _ i2=>
  simp only[Pv.jk]at hc;exact .agg h1 (fun i x y hx hy=>i2 i x y hx hy (fH hc hx))
 |dG h1 _ i2=>
  simp only[Pv.jk]at hc;exact .dG h1 (fun i x y hx hy=>i2 i x y hx hy (fH hc hx))
 |oW=>exact .oW
 |dB a c c2 s z o k f e _ ih=>obtain⟨a',c'⟩:=hA _ _ a c;exact .dB a' ((fP c').trans c) (fun hl=>(xX c').trans (c2 hl)) s z o k f e fun j y i d v h1 h2 h3=>ih j y i d v h1 h2 h3 (fH (hX.jk _ _) h2)
 |el a c l o e q _ ih=>obtain⟨a',c'⟩:=hA _ _ a (Ad c);exact .el a' ((xX c').trans c) l o e q fun i d v h1 h2=>ih i d v h1 h2 (fH (hX.jk _ _) h1)
 |gone i e o=>rename_i v _ _;cases v<;>simp[bn]at i<;>simp[Pv.jk]at hc
 |_=>simp[Pv.jk]at hc
theorem dW.move(hX:bP X P)(hA:∀q cs,A q->aX h q=some cs->B q∧h'[q]? = h[q]?){t:Nat}{l:List (X.Γ t)}{cs:List TV}{off sz:Nat}(hv:dW X P A m h t l cs off sz):dW X P B m' h' t l cs off sz:=
 ⟨hv.1,hv.2.1,fun j a i c v h1 h2 h3=>(hv.2.2 j a i c v h1 h2 h3).move hX hA (fH (hX.jk _ _) h2)⟩
def FA(A:Nat->Prop)(m:List MB)(is:List Nat):Nat->Prop:=fun b=>AA A m b∨∃i mb,i∈is∧m[i]? = some mb∧mb.own=some b
theorem FA.mono{is js:List Nat}(hs:∀i,i∈is->i∈js){b:Nat}(hb:FA A m is b):FA A m js b:=by
 rcases hb with h|⟨i,mb,h1,h2,h3⟩
 .exact .inl h
 exact .inr ⟨i,mb,hs i h1,h2,h3⟩
theorem Oa:∀(is:List Nat) {m:List MB} {i:Nat} {mb:MB},(cu is m)[i]? = some mb->mb.own≠none->i∉is∧m[i]? = some mb
 | [],_,_,_,h,_=>⟨by simp,h⟩
 |j::is,m,i,mb,h,hn=>by
  obtain⟨h1,h2⟩:=Oa is (m:=m.set j .gone) h hn;by_cases e:j=i
  .subst e;rw[a4f]at h2;cases hx:m[j]? with
   |none=>rw[hx]at h2;cases h2
   |some y=>rw[hx]at h2;cases h2;exact absurd rfl hn
  rw[a1l e]at h2;exact⟨by simp[h1,Ne.symm e],h2⟩
theorem Af{is:List Nat}{m:List MB}{b:Nat}(hb:b∈bg (cu is m)):∃i mb,i∉is∧m[i]? = some mb∧mb.own=some b:=by obtain⟨mb,hm,ho⟩:=a6G.1 hb;obtain⟨i,hi⟩:=a8E hm;obtain⟨h1,h2⟩:=Oa is hi (by rw[ho];simp);exact⟨i,mb,h1,h2,ho⟩
theorem FA.gone(hr:HR X P A m H h){is:List Nat}{b:Nat}(hb:FA A m is b):AA A (cu is m) b:=by
 rcases hb with hb|⟨i,mb,h1,h2,h3⟩
 .refine⟨hb.1,fun hm=>?_⟩;obtain⟨i,mb,_,h2,h3⟩:=Af hm;exact hb.2 (aZ h2 h3)
 refine⟨hr.CQ b (aZ h2 h3),fun hm=>?_⟩;obtain⟨j,LM,g1,g2,g3⟩:=Af hm;have:=iV hr.nodup h2 g2 h3 g3;exact g1 (this▸h1)
theorem Rz(hX:bP X P)(hr:HR X P A m H h){k ex:Bool}{t i:Nat}{l:List (X.Γ t)}{x:TV}(hl:LR X P (AA A m) m h k ex t l x)(hi:m[i]? = some (.dB x)){is:List Nat}(hs:i∈is):VR X P (FA A m is) m' h (.dB t l false) x:=by
 cases hl with
 |nil=>exact .oW
 |emp h0 h1 h2 h3 h4=>exact .dB (.inl h0) h1 (fun e=>absurd rfl e) h3 h4 (by simpa using h2) (a0U _) (by simp) (fun j a hj=>by simp at hj) (fun j a i c v hj=>by simp at hj)
 |some h1 h2 h3 h4 h5 h6 h7 h8 h9=>
  refine .dB (cs:=_) (.inr ⟨i,_,hs,hi,?_⟩) (by unfold aX;rw[h4]) (fun _=>wz h4 (by omega)) h2 h3 (by omega) (a0U _) (by simp) h9.1 ?_
  .simp only[MB.own];rw[a0c (by simpa using h1)]
  intro j a q c v e1 e2 e3;exact((h9.2.2 j a q c v e1 e2 e3).mono fun b hb=>.inl hb).jk hX (fH (hX.jk _ _) e2)
theorem VR.part{F:Nat->Prop}{t:Nat}{l:List (X.Γ t)}{fu:Bool}{b off len cap sz:Nat}{ex:Bool}(hv:VR X P F m h (.dB t l fu) (.aP b off len cap sz ex)){o n cap':Nat}{ex' fu':Bool}(hn:o+n<=len)(hc:n<=cap')(hw:n=0∨o+cap'=cap)(hfu:fu'=true->ex'=true∧cap'=n) :
  VR X P F m h (.dB t ((l.drop o).take n) fu') (.aP b (off+o*sz) n cap' sz ex'):=by
 cases hv with
 |dB a c c2 s z ol k f e r=>
  have hlen:((l.drop o).take n).length=n:=by rw[a3E,a3X];omega
  have:=@VR.dB X P F m h t ((l.drop o).take n) fu' b (off+o*sz) cap' sz ex' _ a c (fun iq=>by
   have h1:n≠0:=fun e=>iq (by subst e;simp);have h2:=hw.resolve_left h1;have h3:off+o*sz+cap'*sz=off+cap*sz:=by rw[<-h2,a3m];omega
   rw[h3];exact c2 (fun e=>by subst e;simp at hlen;omega)) s z (by
   rw[hlen];have:(o+n)*sz<=l.length*sz:=a3l sz hn;rw[a3m]at this;omega) (by rw[hlen];exact hc) (by rw[hlen];exact hfu) (fun j y hy=>by
    rw[a4g]at hy;split at hy
    .rw[a4e]at hy;exact e _ _ hy
    .cases hy) (fun j y i d v hy h2 h3=>by
    rw[a4g]at hy;split at hy
    .rw[a4e]at hy;refine r _ _ i d v hy h2 ?_;rw[<-h3];congr 1;rw[a3m];omega
    .cases hy)
  rwa [hlen]at this
 |gone hi _ _=>simp[bn]at hi
mutual
theorem Uk(hX:bP X P)(hr:HR X P A m H h):∀{v w:PV X.Γ} {x:TV},VR X P (AA A m) m h v x->view H v=some w->∀{is:List Nat},(∀i,i∈kP v->i∈is)->VR X P (FA A m is) m' h w x
 |.own i,w,x,hv,hw,is,hs=>by
  simp only[view]at hw;split at hw
  .rename_i k ex t l hH;cases hw;obtain⟨mb,h1,h2⟩:=hr.at_ i _ hH;cases mb with
   |dB y=>
    cases hv with
    |own e o=>rw[h1]at e;cases e;exact Rz hX hr h2 h1 (hs i (by simp[kP]))
    |gone hi e o=>simp only[bn,a00]at hi;subst hi;rw[h1]at e;cases e
   |_=>exact h2.elim
  cases hw
 |.win i o n,w,x,hv,hw,is,hs=>by
  simp only[view]at hw;split at hw
  .rename_i k ex t l hH;cases hw;obtain⟨mb,h1,h2⟩:=hr.at_ i _ hH;cases mb with
   |dB y=>
    have h2':LR X P (AA A m) m h k ex t l y:=h2;have hfz:VR X P (FA A m is) m' h (.dB t l false) y:=Rz hX hr h2' h1 (hs i (by simp[kP]));cases hv with
    |win e q q' q2=>
     rw[h1]at e;cases e;exact hfz.part q q' q2 (by simp)
    |BF e=>
     rw[h1]at e;cases e;cases h2' with
     |nil=>simp only[List.drop_nil,List.take_nil];exact .oW
    |gone hi e o=>simp only[bn,a00]at hi;subst hi;rw[h1]at e;cases e
   |_=>exact h2.elim
  cases hw
 |.fn f a c,w,x,hv,hw,is,hs=>by
  simp only[view]at hw;split at hw
  .rename_i a' c' h1 h2;cases hw;cases hv with
   |fn e1 e2 e3 e4=>
    have g1:=l9 hX hr ⟨e1,e2⟩ h1 (is:=is) fun i hi=>hs i (by simp[kP,hi]);have g2:=l9 hX hr ⟨e3,e4⟩ h2 (is:=is) fun i hi=>hs i (by simp[kP,hi]);exact .fn g1.1 g1.2 g2.1 g2.2
   |gone hi _ _=>simp[bn]at hi
  cases hw
 |.agg cs,w,x,hv,hw,is,hs=>by
  simp only[view,a05]at hw;obtain⟨cs',h1,rfl⟩:=hw;cases hv with
  |agg e1 e2=>have g1:=l9 hX hr ⟨e1,e2⟩ h1 (is:=is) fun i hi=>hs i (by simp[kP,hi]);exact .agg g1.1 g1.2
  |gone hi _ _=>simp[bn]at hi
 |.dG cs,w,x,hv,hw,is,hs=>by
  simp only[view,a05]at hw;obtain⟨cs',h1,rfl⟩:=hw;cases hv with
  |dG e1 e2=>have g1:=l9 hX hr ⟨e1,e2⟩ h1 (is:=is) fun i hi=>hs i (by simp[kP,hi]);exact .dG g1.1 g1.2
  |gone hi _ _=>simp[bn]at hi
 |.bool b,w,x,hv,hw,is,hs=>by simp only[view,a00]at hw;subst hw;exact(hv.mono fun b hb=>.inl hb).jk hX rfl
 |.lit b,w,x,hv,hw,is,hs=>by
  simp only[view,a00]at hw;subst hw;cases hv with
  |lit=>exact .bool _
  |gone hi _ _=>simp[bn]at hi
 |.int k n,w,x,hv,hw,is,hs=>by simp only[view,a00]at hw;subst hw;exact(hv.mono fun b hb=>.inl hb).jk hX rfl
 |.str b,w,x,hv,hw,is,hs=>by simp only[view,a00]at hw;subst hw;exact(hv.mono fun b hb=>.inl hb).jk hX rfl
 |.nil b,w,x,hv,hw,is,hs=>by simp only[view,a00]at hw;subst hw;exact(hv.mono fun b hb=>.inl hb).jk hX rfl
 |.dB t l f,w,x,hv,hw,is,hs=>by simp only[view,a00]at hw;subst hw;exact(hv.mono fun b hb=>.inl hb).jk hX rfl
 |.ptr _ _ _,w,x,hv,hw,is,hs=>by simp[view]at hw
 |.aP _ _ _ _ _ _,w,x,hv,hw,is,hs=>by simp[view]at hw
 |.map _,w,x,hv,hw,is,hs=>by simp[view]at hw
 |.kG _,w,x,hv,hw,is,hs=>by simp[view]at hw
 |.el _ _ _,w,x,hv,hw,is,hs=>by simp[view]at hw
 |.row _ _ _,w,x,hv,hw,is,hs=>by simp[view]at hw
 |.FU _,w,x,hv,hw,is,hs=>by simp[view]at hw
theorem l9(hX:bP X P)(hr:HR X P A m H h):∀{vs ws:List (PV X.Γ)} {xs:List TV},bU X P (AA A m) m h vs xs->views H vs=some ws->∀{is:List Nat},(∀i,i∈kP.jX vs->i∈is)->bU X P (FA A m is) m' h ws xs
 | [],ws,xs,hv,hw,is,hs=>by simp only[view.views,a00]at hw;subst hw;rw[hv.inv0];exact .nil
 |v::vs,ws,xs,hv,hw,is,hs=>by
  obtain⟨x,r,rfl,h1,h2⟩:=hv.inv;simp only[view.views]at hw;split at hw
  .rename_i w Vy g1 g2;cases hw;exact .cons (Uk hX hr h1 g1 fun i hi=>hs i (by simp[kP.jX,hi])) (l9 hX hr h2 g2 fun i hi=>hs i (by simp[kP.jX,hi]))
  cases hw
end
end
open Go Tw
section
variable {X:kJ} {P:LI1} {A B F:Nat->Prop} {m m':List MB} {h h':List HB} {H H':List (PB X.Γ)}
theorem a0Q(hX:bP X P)(hr:HR X P A m H h){t:Nat}{cs:List (PV X.Γ)}{xs:List TV}(hv:bU X P (AA A m) m h cs xs){a:X.Γ t}{is:List Nat}(hd:a9m X H t cs=some (a,is)):bU X P (FA A m is) m' h (X.enc t a) xs:=by
 unfold a9m at hd;split at hd
 .rename_i vs h1;split at hd
  .rename_i b h2;simp only[a00,a0i]at hd;obtain⟨rfl,rfl⟩:=hd;exact hX.dec h2 (l9 hX hr hv h1 fun i hi=>hi)
  cases hd
 cases hd
theorem Ag(hX:bP X P)(hr:HR X P A m H h){t sz:Nat}:∀{n:Nat} {cs:List (PV X.Γ)} {xs:List TV},bU X P (AA A m) m h cs xs->∀{l:List (X.Γ t)} {is:List Nat},xQ X H t sz n cs=some (l,is)->l.length=n∧dW X P (FA A m is) m' h t l xs 0 sz
 | 0,cs,xs,hv,l,is,hd=>by simp only[xQ,a00,a0i]at hd;obtain⟨rfl,rfl⟩:=hd;exact⟨rfl,fun j a hj=>by simp at hj,by simp,fun j a i c v hj=>by simp at hj⟩
 |n+1,cs,xs,hv,l,is,hd=>by
  simp only[xQ]at hd;split at hd
  rotate_left
  .cases hd
  rename_i uT;split at hd
  rotate_left
  .cases hd
  rename_i a js l' ks h1 h2;simp only[a00,a0i]at hd;obtain⟨rfl,rfl⟩:=hd;have g1:=(a0Q (m':=m') hX hr (hv.take sz) h1).mono fun b hb=>FA.mono (js:=js++ks) (fun i hi=>a4p _ hi) hb;obtain⟨e2,g2⟩:=Ag hX hr (hv.drop sz) h2;have g2:=g2.mono fun b hb=>FA.mono (js:=js++ks) (fun i hi=>aaf _ hi) hb;have hl:(X.enc t a).length=sz:=by rw[g1.1,a3E,<-hv.1];omega
  refine⟨by simp[e2],fun j b hj=>?_,?_,fun j b i c v hj hi hx=>?_⟩
  .cases j with
   |zero=>simp only[a2r,a00]at hj;subst hj;exact hl
   |succ j=>exact g2.1 j b (by simpa using hj)
  .have:=g2.2.1;rw[a3X]at this;have h3:=hv.1;simp only[a4b,a3m];omega
  cases j with
  |zero=>
   simp only[a2r,a00]at hj;subst hj;have aT:i<sz:=by rw[<-hl];exact(a01.1 hi).1
   refine g1.2 i c v hi ?_;rw[a4g,a0g aT,<-hx];simp
  |succ j=>
   refine g2.2.2 j b i c v (by simpa using hj) hi ?_;rw[a4e,<-hx];congr 1;rw[a3m];omega
def SlR(X:kJ)(P:LI1)(F:Nat->Prop)(m:List MB)(h:List HB)(t sz:Nat)(l:List (X.Γ t))(x:TV):Prop:=
 (x=.nil .aP∧l=[])∨∃b off cap ex cs,x=.aP b off l.length cap sz ex∧l.length<=cap∧aX h b=some cs∧(l≠[]->lQ h b (off+cap*sz)=some cs)∧dW X P F m h t l cs off sz
theorem a0R{t sz:Nat}{l:List (X.Γ t)}{fu:Bool}{x:TV}(hv:VR X P F m h (.dB t l fu) x)(hz:dw P t=some sz):SlR X P F m h t sz l x:=by
 cases hv with
 |oW=>exact .inl ⟨rfl,rfl⟩
 |dB a c c2 s z o k f e r=>
  rw[hz]at s;cases s;exact .inr ⟨_,_,_,_,_,rfl,k,c,c2,e,o,r⟩
 |gone hi _ _=>simp[bn]at hi
theorem a5J{k ex:Bool}{t sz:Nat}{l:List (X.Γ t)}{x:TV}(hv:LR X P F m h k ex t l x)(hz:dw P t=some sz):SlR X P F m h t sz l x:=by
 cases hv with
 |nil=>exact .inl ⟨rfl,rfl⟩
 |emp h0 h1 h2 h3 h4=>
  rw[hz]at h3;cases h3;exact .inr ⟨_,_,_,_,_,rfl,a0U _,h1,fun e=>absurd rfl e,fun j a hj=>by simp at hj,by simpa using h2,fun j a i c v hj=>by simp at hj⟩
 |some h1 h2 h3 h4 h5 h6 h7 h8 h9=>
  rw[hz]at h2;cases h2;exact .inr ⟨_,_,_,_,_,rfl,a0U _,by unfold aX;rw[h4],fun _=>wz h4 (by omega),h9⟩
theorem dW.part{t sz:Nat}{l:List (X.Γ t)}{cs:List TV}{off o n:Nat}(hv:dW X P F m h t l cs off sz)(hn:o+n<=l.length):dW X P F m h t ((l.drop o).take n) cs (off+o*sz) sz:=by
 have hlen:((l.drop o).take n).length=n:=by rw[a3E,a3X];omega
 refine⟨fun j y hy=>?_,?_,fun j y i c v hy h2 h3=>?_⟩
 .rw[a4g]at hy;split at hy
  .rw[a4e]at hy;exact hv.1 _ _ hy
  cases hy
 .have:=hv.2.1;have h2:(o+n)*sz<=l.length*sz:=a3l sz hn;rw[hlen];rw[a3m]at h2;omega
 rw[a4g]at hy;split at hy
 .rw[a4e]at hy;refine hv.2.2 _ y i c v hy h2 ?_;rw[<-h3];congr 1;rw[a3m];omega
 cases hy
theorem dW.take{t sz:Nat}{l:List (X.Γ t)}{cs:List TV}{off:Nat}(hv:dW X P F m h t l cs off sz):dW X P F m h t l ((cs.drop off).take (l.length*sz)) 0 sz:=by
 refine⟨hv.1,?_,fun j a i c v h1 h2 h3=>?_⟩
 .have:=hv.2.1;rw[a3E,a3X];omega
 rw[a4g]at h3;split at h3
 .rw[a4e]at h3;exact hv.2.2 j a i c v h1 h2 (by rw[<-h3];congr 1;omega)
 cases h3
theorem SlR.src{t sz:Nat}{l:List (X.Γ t)}{x:TV}(hv:SlR X P F m h t sz l x):∃new,dV sz h x=some (l.length,new)∧new.length=l.length*sz∧dW X P F m h t l new 0 sz:=by
 rcases hv with⟨rfl,rfl⟩|⟨b,off,cap,ex,cs,rfl,hk,hc,JR,hw⟩
 .exact⟨[],rfl,by simp,fun j a hj=>by simp at hj,by simp,fun j a i c v hj=>by simp at hj⟩
 refine⟨(cs.drop off).take (l.length*sz),?_,?_,hw.take⟩
 .have:=hw.2.1;simp only[dV,a1U,sub];by_cases h0:l.length=0
  .rw[a0g h0,h0];simp
  rw[a0c h0,JR (fun e=>h0 (by rw[e];rfl))];simp only;rw[a0g this];rfl
 have:=hw.2.1;rw[a3E,a3X];omega
theorem dW.app{t sz:Nat}{l r:List (X.Γ t)}{a b:List TV}(h1:dW X P F m h t l a 0 sz)(h2:dW X P F m h t r b 0 sz)(ha:a.length=l.length*sz):dW X P F m h t (l++r) (a++b) 0 sz:=by
 refine⟨fun j y hy=>?_,?_,fun j y i c v hy hi hx=>?_⟩
 .rcases a4d j l.length with hl|hl
  .rw[a0b hl]at hy;exact h1.1 j y hy
  rw[a0S hl]at hy;exact h2.1 _ y hy
 .have:=h2.2.1;simp only[a1I,a3m];omega
 rcases a4d j l.length with hl|hl
 .rw[a0b hl]at hy;have aT:i<sz:=by rw[<-h1.1 j y hy];exact(a01.1 hi).1
  have:(j+1)*sz<=l.length*sz:=a3l sz hl;rw[a3m]at this;rw[a0b (by omega)]at hx;exact h1.2.2 j y i c v hy hi hx
 rw[a0S hl]at hy;have:l.length*sz<=j*sz:=a3l sz hl;rw[a0S (by omega)]at hx;refine h2.2.2 _ y i c v hy hi ?_;rw[<-hx];congr 1;rw[ha,Nat.sub_mul];omega
theorem qQ{Γ:Nat->Type}{t t':Nat}{l:List (Γ t')}{r:List (Γ t)}(h:Bg t t' l=some r):∃e:t'=t,r=e▸l:=by
 unfold Bg at h;split at h
 .rename_i e;cases h;exact⟨e,rfl⟩
 cases h
theorem Ul(hX:bP X P)(hr:HR X P A m H h){e sz:Nat}{x:PV X.Γ}{tx:TV}(hv:VR X P (AA A m) m h x tx)(hz:dw P e=some sz){rows:List (X.Γ e)}{is:List Nat}(hs:Aa X H e sz x=some (rows,is)) :
  ∃new,dV sz h tx=some (rows.length,new)∧new.length=rows.length*sz∧dW X P (FA A m is) m' h e rows new 0 sz:=by
 have up:∀{l:List (X.Γ e)} {y:TV},SlR X P (AA A m) m h e sz l y->∃new,dV sz h y=some (l.length,new)∧new.length=l.length*sz∧dW X P (FA A m []) m' h e l new 0 sz:=by intro l y hy;obtain⟨new,h1,h2,h3⟩:=hy.src;exact⟨new,h1,h2,(h3.mono fun b hb=>.inl hb).jk hX⟩
 cases x with
 |nil k=>
  cases k<;>simp only[Aa]at hs<;>try (cases hs;done)
  simp only[a00,a0i]at hs;obtain⟨rfl,rfl⟩:=hs;cases hv with
  |nil=>exact up (.inl ⟨rfl,rfl⟩)
  |gone hi _ _=>simp[bn]at hi
 |dB t l fu=>
  simp only[Aa,a05,a0i]at hs;obtain⟨r,h1,rfl,rfl⟩:=hs;obtain⟨rfl,rfl⟩:=qQ h1;exact up (a0R hv hz)
 |own i=>
  simp only[Aa]at hs;split at hs
  .rename_i k ex t l hH;simp only[a05,a0i]at hs;obtain⟨r,h1,rfl,rfl⟩:=hs;obtain⟨rfl,rfl⟩:=qQ h1;obtain⟨mb,g1,g2⟩:=hr.at_ i _ hH;cases mb with
   |dB y=>
    cases hv with
    |own e' o=>rw[g1]at e';cases e';exact up (a5J g2 hz)
    |gone hi e' o=>simp only[bn,a00]at hi;subst hi;rw[g1]at e';cases e'
   |_=>exact g2.elim
  .cases hs
 |win i o n=>
  simp only[Aa]at hs;split at hs
  .rename_i k ex t l hH;simp only[a05,a0i]at hs;obtain⟨r,h1,rfl,rfl⟩:=hs;obtain⟨rfl,rfl⟩:=qQ h1;obtain⟨mb,g1,g2⟩:=hr.at_ i _ hH;cases mb with
   |dB y=>
    have hsl:=a5J g2 hz;cases hv with
    |win e' q q' q2=>
     rw[g1]at e';cases e';rcases hsl with⟨h,_⟩|⟨b,off,cap,ex',cs,he,hk,hc,JR,hw⟩
     .cases h
     .cases he;have hlen:n=((r.drop o).take n).length:=by rw[a3E,a3X];omega
      refine up (.inr ⟨_,_,_,_,cs,congrArg (fun k=>TV.aP _ _ k _ _ _) hlen,hlen▸q',hc,fun iq=>?_,hw.part q⟩);have h1:n≠0:=fun e=>iq (by subst e;simp);have h2:=q2.resolve_left h1;rw[<-JR (fun e=>iq (by rw[e];simp)),<-h2];congr 1;rw[a3m];omega
    |BF e'=>
     rw[g1]at e';cases e';refine up (.inl ⟨rfl,by simp⟩)
    |gone hi e' o=>simp only[bn,a00]at hi;subst hi;rw[g1]at e';cases e'
   |_=>exact g2.elim
  .cases hs
 |aP b off len cap sz' ex=>
  simp only[Aa]at hs;split at hs
  .rename_i cs hH;split at hs
   .rename_i uT;obtain⟨uT,ae7⟩:=uT;subst uT;obtain⟨mb,g1,g2⟩:=hr.at_ b _ hH;cases mb with
    |fV c=>
     obtain⟨cs',g3,g4⟩:=g2;cases hv with
     |aP e'=>
      rw[g1]at e';cases e';obtain⟨hl,hw⟩:=Ag (m':=m') hX hr (g4.drop off) hs;subst hl;rw[g4.1]at ae7;refine⟨(cs'.drop off).take (rows.length*sz'),?_,by rw[a3E,a3X];omega,by simpa using hw.take⟩;simp only[dV,a1U,wB g3 (by simp),sub];split
      .rename_i h0;rw[h0,abT,List.take_zero]
      .simp only[ae7,a1U,a0j]
     |gone hi e' o=>simp only[bn,a00]at hi;subst hi;rw[g1]at e';cases e'
    |_=>exact g2.elim
   .cases hs
  .cases hs
 |_=>simp[Aa]at hs
end
open Go Tw
def FC(m:List MB)(i b:Nat):Prop:=∃mb,m[i]? = some mb∧mb.own=some b
structure IR(m:List MB)(h:List HB)(p:PI)(t:lN):Prop where
 all:t.all=true->p.i.all=true
 tl:∀k,.l k∈t.ts->.l k∈p.i.ts
 wl:∀k,.l k∈t.ws->.l k∈p.i.ws
 wh:∀b,.h b∈t.ws->(∃i,.h i∈p.i.ws∧FC m i b)∨(p.wall=true∧b∈bg m)
 th:∀b,.h b∈t.ts->((∃i,.h i∈p.i.ts∧FC m i b)∨b∉bg m)∧b<h.length
 hp:p.hp=false->t.all=false∧(∀b,.h b∉t.ts)∧∀b,.h b∉t.ws
theorem IR.none{m:List MB}{h:List HB}{p:PI}:IR m h p bY:=⟨fun h=>(by cases h),fun _ h=>(by cases h),fun _ h=>(by cases h),fun _ h=>(by cases h),fun _ h=>(by cases h),fun _=>⟨rfl,fun _ h=>(by cases h),fun _ h=>(by cases h)⟩⟩
section
variable {X:kJ} {P:LI1} {A F:Nat->Prop} {m m':List MB} {h h':List HB} {H H':List (PB X.Γ)}
structure uQ(X:kJ)(P:LI1)(A:Nat->Prop)(m:List MB)(ps:aS X.Γ)(ts:St):Prop where
 heap:HR X P A m ps.heap ts.heap
 llen:ps.loc.length=ts.loc.length
 loc:∀(k:Nat) cs,ps.loc[k]? = some cs->∃cs',ts.loc[k]? = some cs'∧bU X P (AA A m) m ts.heap cs cs'
 env:jS X P (AA A m) m ts.heap ps.env ts.env
theorem uQ.step{ps:aS X.Γ}{ts:St}(hR:uQ X P A m ps ts){H1:List (PB X.Γ)}{h1:List HB}(hr:HR X P A m' H1 h1)(hF:Fr m ts.heap m' h1)(hU:Up m m'):uQ X P A m' { ps with heap:=H1 } { ts with heap:=h1 }:=
 ⟨hr,hR.llen,fun k cs hk=>let ⟨cs',g1,g2⟩:=hR.loc k cs hk;⟨cs',g1,g2.step hF hU⟩,hR.env.step hF hU⟩
def OpR(X:kJ)(P:LI1)(A:Nat->Prop)(m:List MB)(call:aY)(site:Nat->Bool)(ts:St)(o:Oper)(pe:PE X.Γ)(ps1:aS X.Γ)(pi:PI):Prop:=
 ∃ev iH ti m1,oP P call site ts o=some (ev,iH,ti)∧iH.env=ts.env∧iH.ws=ts.ws∧uQ X P A m1 ps1 iH∧Iu X P (AA A m1) m1 iH.heap pe ev∧Fr m ts.heap m1 iH.heap∧Up m m1∧IR m ts.heap pi ti∧∀b,.h b∈ti.ws->b∈bg m
theorem uw{call:aY}{site:Nat->Bool}{ps:aS X.Γ}{ts:St}{o:Oper}{pe:PE X.Γ}{ev:EV}{pi:PI}(hR:uQ X P A m ps ts)(h:oP P call site ts o=some (ev,ts,bY))(hp:Iu X P (AA A m) m ts.heap pe ev):OpR X P A m call site ts o pe ps pi:=
 ⟨ev,ts,bY,m,h,rfl,rfl,hR,hp,.refl,.refl,.none,fun b hb=>by cases hb⟩
theorem uQ.BD{ps:aS X.Γ}{ts:St}(hR:uQ X P A m ps ts){x:Operand}{b:Bool}(hb:qE ts.env x=some (.bool b)):uQ X P A m (ps.BD x b) ts:=by
 cases x with
 |tmp t=>
  refine⟨hR.heap,hR.llen,hR.loc,a9s hR.env ?_⟩;simp only[qE,Il]at hb;split at hb
  .rename_i v hv;cases hb;exact hv
  cases hb
 |_=>exact hR
theorem RD{ps:aS X.Γ}{ts:St}(hR:uQ X P A m ps ts){site:Bool}{cs:List (PV X.Γ)}{cs':List TV}(hc:bU X P (AA A m) m ts.heap cs cs') :
  ∃m1,(qF site ts cs').2.env=ts.env∧(qF site ts cs').2.ws=ts.ws∧uQ X P A m1 (DK site ps cs).2 (qF site ts cs').2∧Iu X P (AA A m1) m1 (qF site ts cs').2.heap (DK site ps cs).1 (qF site ts cs').1∧Fr m ts.heap m1 (qF site ts cs').2.heap∧Up m m1:=by
 cases site with
 |true=>
  have hp:=hR.heap.push (pb:=.cells cs) (hb:=.cells .own cs') (mb:=.fV ts.heap.length) (.inl rfl) ?_
  .refine⟨m++[.fV ts.heap.length],rfl,rfl,hR.step hp.1 hp.2.1 hp.2.2,?_,hp.2.1,hp.2.2⟩;show VR X P _ _ _ (.ptr ps.heap.length 0 cs.length) (.ptr ts.heap.length 0 cs'.length);rw[hc.1];exact .ptr (by rw[<-hR.heap.len];simp)
  .refine⟨cs',by simp,hc.step ?_ (wC _)⟩;refine⟨by simp,fun b hb _=>by rw[a0b hb],fun b hb=>?_,fun b cs hc=>⟨cs,by rw[fP (a0b (fM hc)),hc],a0U _⟩⟩;rw[iY,a3k,jY]at hb;rcases hb with hb|hb
   .exact .inl hb
   .simp[MB.own]at hb;exact .inr (by omega)
 |false=>
  refine⟨m,rfl,rfl,⟨hR.heap,by simp[DK,qF,hR.llen],fun k ds hk=>?_,hR.env⟩,?_,.refl,.refl⟩
  .simp only[DK,qF,a2i,a3g]at hk ⊢;rcases a4d k ps.loc.length with hl|hl
   .rw[a0b hl]at hk;obtain⟨ds',g1,g2⟩:=hR.loc k ds hk;exact⟨ds',by rw[a0b (by rw[<-hR.llen];exact hl)];exact g1,g2⟩
   .rw[a0S hl]at hk;have:k-ps.loc.length=0:=by
     rcases abu (k-ps.loc.length)with e|e
     .exact e
     .rw[a4a (by simp;omega)]at hk;cases hk
    rw[this]at hk;simp only[a2r,a00]at hk;subst hk;exact⟨cs',by rw[a0S (by rw[<-hR.llen];exact hl),<-hR.llen,this];rfl,hc⟩
  .exact⟨hR.llen,rfl⟩
theorem iI{i:Nat}{mb:MB}{b:Nat}(h1:m[i]? = some mb)(h2:mb.own=some b):FC m i b:=⟨mb,h1,h2⟩
theorem Zd{i b:Nat}(h:FC m i b):b∈bg m:=let ⟨_,h1,h2⟩:=h;aZ h1 h2
theorem IR.rdH{i b:Nat}(h0:FC m i b)(hl:b<h.length):IR m h ⟨wW (.h i),false,false,true⟩ (wW (.h b)):=
 ⟨fun h=>(by cases h),fun k hk=>(by simp[wW]at hk),fun k hk=>(by simp[wW]at hk),fun b hb=>(by simp[wW]at hb),fun c hc=>(by simp[wW]at hc;subst hc;exact⟨.inl ⟨i,by simp[wW],h0⟩,hl⟩),fun h=>(by cases h)⟩
theorem IR.wrH{i b:Nat}(h0:FC m i b)(hl:b<h.length):IR m h ⟨oO (.h i),false,false,true⟩ (oO (.h b)):=
 ⟨fun h=>(by cases h),fun k hk=>(by simp[oO]at hk),fun k hk=>(by simp[oO]at hk),fun c hc=>(by simp[oO]at hc;subst hc;exact .inl ⟨i,by simp[oO],h0⟩),fun c hc=>(by simp[oO]at hc;subst hc;exact⟨.inl ⟨i,by simp[oO],h0⟩,hl⟩),fun h=>(by cases h)⟩
theorem IR.loc{k:Nat}:IR m h ⟨wW (.l k),false,false,false⟩ (wW (.l k)):=
 ⟨fun h=>(by cases h),fun j hj=>by simpa[wW]using hj,fun k hk=>(by simp[wW]at hk),fun b hb=>(by simp[wW]at hb),fun c hc=>(by simp[wW]at hc),fun _=>⟨rfl,fun b hb=>(by simp[wW]at hb),fun b hb=>(by simp[wW]at hb)⟩⟩
theorem IR.anH{k:Nat}:IR m h ⟨oO (.l k),false,false,false⟩ (oO (.l k)):=
 ⟨fun h=>(by cases h),fun j hj=>by simpa[oO]using hj,fun j hj=>by simpa[oO]using hj,fun c hc=>(by simp[oO]at hc),fun c hc=>(by simp[oO]at hc),fun _=>⟨rfl,fun b hb=>(by simp[oO]at hb),fun b hb=>(by simp[oO]at hb)⟩⟩
theorem WB{t:LI2}{cs:List TV}{o sz off n:Nat}{x:TV}(ho:o+sz<=cs.length)(hp:ug P t ((cs.drop o).take sz) off=some x)(hn:dw P t=some n):ug P t cs (o+off)=some x∧off+n<=sz∧o+off+n<=cs.length:=by
 unfold ug at hp ⊢;split at hp
 .rename_i k ha hk;rw[hn]at hk;cases hk;simp only[a05]at hp;obtain⟨r,h1,rfl⟩:=hp;unfold sub at h1;split at h1
  .rename_i hl;rw[a3E,a3X]at hl;refine⟨?_,by omega,by omega⟩;cases h1;simp only[ha,hn,sub];rw[a0g (by omega)];simp only[a0j,a00,TV.agg.injEq];rw[agT,afc,afb,a7F (by omega)]
  cases h1
 .rename_i k ha hk;rw[hn]at hk;cases hk;split at hp
  .rename_i h1;subst h1;rw[a4g]at hp;split at hp
   .rename_i h2;rw[a4e]at hp;have:=(a01.1 hp).1;refine⟨by simp only[ha,hn,a1U];exact hp,by omega,by omega⟩
   cases hp
  cases hp
 cases hp
theorem RF{t:LI2}{cs:List TV}{off:Nat}{x:TV}(hp:ug P t cs off=some x):∃n,dw P t=some n:=by
 unfold ug at hp;split at hp
 .rename_i n _ hn;exact⟨n,hn⟩
 .rename_i n _ hn;exact⟨n,hn⟩
 cases hp
theorem dW.row{t sz:Nat}{l:List (X.Γ t)}{cs:List TV}{off j:Nat}{a:X.Γ t}(hw:dW X P F m h t l cs off sz)(hj:l[j]? = some a):bU X P F m h (X.enc t a) ((cs.drop (off+j*sz)).take sz)∧off+j*sz+sz<=cs.length:=by
 have hlen:=hw.1 j a hj;have aT:j<l.length:=(a01.1 hj).1;have h2:(j+1)*sz<=l.length*sz:=a3l sz aT;have h3:=hw.2.1;rw[a3m]at h2;refine⟨⟨by rw[hlen,a3E,a3X];omega,fun i c v hc hv=>?_⟩,by omega⟩;rw[a4g]at hv;split at hv
 .rw[a4e]at hv;exact hw.2.2 j a i c v hj hc hv
 cases hv
theorem Ah{t:Nat}{l:List (X.Γ t)}{j:Nat}(hj:j<l.length):l[j]? = some (l.getD j (X.d0 t)):=by rw[a2N,a0a hj];rfl
theorem G7(hX:bP X P){ps:aS X.Γ}{ts:St}(hR:uQ X P A m ps ts){t:LI2}{pa:PE X.Γ}{ea:EV}(ha:Iu X P (AA A m) m ts.heap pa ea){v:PV X.Γ}{pi:lN}(hl:Ac X P t ps pa=some (v,pi)) :
  ∃x ti,loadT P t ts ea=some (x,ti)∧VR X P (AA A m) m ts.heap v x∧IR m ts.heap ⟨pi,false,false,!Ud pa⟩ ti∧ti.ws=[]:=by
 cases pa with
 |loc k off=>
  rw[DN ha];simp only[Ac]at hl;split at hl
  .rename_i cs hk;simp only[a05,a0i]at hl;obtain⟨w,h1,rfl,rfl⟩:=hl;obtain⟨cs',g1,g2⟩:=hR.loc k cs hk;obtain⟨x,g3,g4⟩:=Ae g2 h1;exact⟨x,wW (.l k),by simp only[loadT,g1,g3,a0j],g4,.loc,rfl⟩
  .cases hl
 |undef|ent|Ee=>simp[Ac]at hl
 |val a=>
  obtain⟨y,rfl,hy⟩:=fQ ha;cases a with
  |ptr b off lim=>
   simp only[Ac]at hl;split at hl
   .rename_i cs n hb hn;split at hl
    .rename_i KL;simp only[a05,a0i]at hl;obtain⟨w,h1,rfl,rfl⟩:=hl;obtain⟨mb,g1,g2⟩:=hR.heap.at_ b _ hb;cases mb with
     |fV c=>
      obtain⟨cs',g3,g4⟩:=g2;cases hy with
      |ptr e=>
       rw[g1]at e;cases e;obtain⟨x,g5,g6⟩:=Ae g4 h1;refine⟨x,wW (.h c),?_,g6,.rdH (iI g1 rfl) (a01.1 g3).1,rfl⟩;simp only[loadT,wB g3 (show BK.own≠.last by simp),hn,KL,a1U,g5,a0j]
      |gone hi e _=>simp only[bn,a00]at hi;subst hi;rw[g1]at e;cases e
     |_=>exact g2.elim
    .cases hl
   .rename_i cs n hb hn;split at hl
    .rename_i KL;simp only[a05,a0i]at hl;obtain⟨w,h1,rfl,rfl⟩:=hl;obtain⟨mb,g1,g2⟩:=hR.heap.at_ b _ hb;cases mb with
     |jl c=>
      obtain⟨g0,cs',g3,g4⟩:=g2;cases hy with
      |ptr e=>rw[g1]at e;cases e
      |gone hi e _=>
       simp only[bn,a00]at hi;subst hi;rw[g1]at e;cases e with
       |r _ e=>
        simp only[roV,a00]at e;subst e;obtain⟨x,g5,g6⟩:=Ae g4 h1;refine⟨x,wW (.h c),?_,g6,⟨fun h=>(by cases h),fun k hk=>(by simp[wW]at hk),fun k hk=>(by simp[wW]at hk),fun b hb=>(by simp[wW]at hb),fun d hd=>?_,fun h=>(by cases h)⟩,rfl⟩
        .simp only[loadT,wB g3 (show BK.own≠.last by simp),hn,KL,a1U,g5,a0j]
        .simp[wW]at hd;subst hd;exact⟨.inr g0,(a01.1 g3).1⟩
     |_=>exact g2.elim
    .cases hl
   .cases hl
  |row b j off=>
   simp only[Ac]at hl;split at hl
   .rename_i k ex e l hb;simp only[a05,a0i]at hl;obtain⟨w,h1,rfl,rfl⟩:=hl;obtain⟨mb,g1,g2⟩:=hR.heap.at_ b _ hb;cases mb with
    |dB z=>
     cases hy with
     |row e' hj hq=>
      rw[g1]at e';cases e';cases(g2:LR X P _ _ _ _ _ _ _ _)with
      |emp=>omega
      |some q1 q2 q3 q4 q5 q6 q7 q8 q9=>
       have yD:=q9.row (Ah hj);obtain⟨x,g5,g6⟩:=Ae yD.1 h1;obtain⟨n,hn⟩:=RF g5;obtain⟨g7,g8,_⟩:=WB yD.2 g5 hn;rw[a3T]at g7;refine⟨x,wW (.h _),?_,g6,.rdH (iI g1 (by simp only[MB.own];rw[a0c (by simpa using q1)])) (a01.1 q4).1,rfl⟩;have rU:=yD.2;simp only[loadT,wz q4 q8.symm,hn];rw[a0g (by omega),g7];rfl
     |gone hi e' _=>simp only[bn,a00]at hi;subst hi;rw[g1]at e';cases e'
    |_=>exact g2.elim
   .cases hl
  |el e a off=>
   simp only[Ac,a05,a0i]at hl;obtain⟨w,h1,rfl,rfl⟩:=hl;cases hy with
   |el q1 q2 q2' q3 q4 q5 q6=>
    rename_i b o sz lim cs;have yD:bU X P (AA A m) m ts.heap (X.enc e a) ((cs.drop o).take sz):=by
     refine⟨by rw[q4,a3E,a3X];omega,fun i c v hc hv=>?_⟩;rw[a4g]at hv;split at hv
     .rw[a4e]at hv;exact q6 i c v hc hv
     .cases hv
    obtain⟨x,g5,g6⟩:=Ae yD h1;obtain⟨n,hn⟩:=RF g5;obtain⟨g7,g8,_⟩:=WB q3 g5 hn;refine⟨x,wW (.h b),?_,g6,⟨fun h=>(by cases h),fun k hk=>(by simp[wW]at hk),fun k hk=>(by simp[wW]at hk),fun b hb=>(by simp[wW]at hb),fun c hc=>?_,fun h=>(by cases h)⟩,rfl⟩
    .simp only[loadT,q2,hn];rw[a0g (by omega),g7];rfl
    .simp[wW]at hc;subst hc;exact⟨.inr q1.2,a2H q2⟩
   |gone hi e' _=>simp[bn]at hi
  |_=>simp[Ac]at hl
end
open Go Tw
section
variable {X:kJ} {P:LI1} {A F:Nat->Prop} {m m':List MB} {h h':List HB} {H H':List (PB X.Γ)}
theorem Ob{cs new:List TV}{o sz off:Nat}{r:List TV}(ho:o+sz<=cs.length)(hr:vO ((cs.drop o).take sz) off new=some r):vO cs (o+off) new=some (cs.take o++r++cs.drop (o+sz))∧r.length=sz:=by
 unfold vO at hr ⊢;split at hr
 rotate_left
 .cases hr
 rename_i hl;have qB:=hl;rw[a3E,a3X]at hl;cases hr;refine⟨?_,?_⟩
 .rw[a0g (by omega)];simp only[a00];apply a9r;intro i;simp only[List.getElem?_append,a1I,a3E,a3X,a4g,a4e];rcases a4d i o with h1|h1
  .simp (disch:=omega) only [a7F,a0g]
  rcases a4d i (o+off)with h2|h2
  .rw[a0g (by omega),a0g (by omega),a0g (by omega),a0g (by omega),a0c (by omega),a0g (by omega),a0g (by omega),a0g (by omega),a0g (by omega)];congr 1;omega
  rcases a4d i (o+off+new.length)with h3|h3
  .rw[a0g (by omega),a0c (by omega),a0g (by omega),a0c (by omega),a0g (by omega),a0c (by omega)];congr 1;omega
  rcases a4d i (o+sz)with h4|h4
  .rw[a0c (by omega),a0g (by omega),a0c (by omega),a0c (by omega),a0g (by omega)];congr 1;omega
  rw[a0c (by omega),a0c (by omega)];congr 1;omega
 simp only[a1I,a3E,a3X];omega
theorem dW.set{t sz j:Nat}{l:List (X.Γ t)}{cs r:List TV}{a:X.Γ t}(hw:dW X P F m h t l cs 0 sz)(hr:bU X P F m h (X.enc t a) r)(hl:r.length=sz)(hj:j<l.length) :
  dW X P F m h t (l.set j a) (cs.take (j*sz)++r++cs.drop (j*sz+sz)) 0 sz:=by
 have h2:(j+1)*sz<=l.length*sz:=a3l sz hj;rw[a3m]at h2;have h3:=hw.2.1;refine⟨fun k y hy=>?_,?_,fun k y i c v hy hi hx=>?_⟩
 .rw[a9q]at hy;split at hy
  .cases hy;rw[hr.1,hl]
  .exact hw.1 k y hy
 .simp only[a1I,a3E,a3X,a4n];omega
 .rw[a9q]at hy;split at hy
  .rename_i e;subst e;cases hy;have aT:i<sz:=by rw[<-hl,<-hr.1];exact(a01.1 hi).1
   refine hr.2 i c v hi ?_;rw[a0b (by simp only[a1I,a3E];omega),a0S (by rw[a3E];omega),a3E]at hx;rw[<-hx];congr 1;omega
  .rename_i e;have hlen:=hw.1 k y hy;have aT:i<sz:=by rw[<-hlen];exact(a01.1 hi).1
   have hk:k<l.length:=(a01.1 hy).1;refine hw.2.2 k y i c v hy hi ?_;rw[<-hx];rcases a4d k j with h4|h4
   .have:(k+1)*sz<=j*sz:=a3l sz h4;rw[a3m]at this;rw[a0b (by simp only[a1I,a3E];omega),a0b (by rw[a3E];omega),a4g,a0g (by omega)]
   .have h5:j+1<=k:=(by omega);have:(j+1)*sz<=k*sz:=a3l sz h5;rw[a3m]at this;rw[a0S (by simp only[a1I,a3E];omega),a4e];congr 1;simp only[a1I,a3E];omega
theorem JZ{b:Nat}{pb:PB X.Γ}:∀{is:List Nat} {H:List (PB X.Γ)},is.contains b=false->bf is (H.set b pb)=(bf is H).set b pb
 | [],_,_=>rfl
 |i::is,H,hn=>by simp only[agY,a9c,agQ,ne_eq]at hn;simp only[bf,Ws];rw[List.set_comm _ _ hn.1,JZ hn.2]
theorem yL(hX:bP X P){ps ps1:aS X.Γ}{ts:St}(hR:uQ X P A m ps ts){t:LI2}{pa:PE X.Γ}{ea:EV}(ha:Iu X P (AA A m) m ts.heap pa ea){v:PV X.Γ}{x:TV}(hv:VR X P (AA A m) m ts.heap v x){pi:lN}(hl:U8 X P t ps pa v=some (ps1,pi)) :
  ∃iH ti m1,storeT P t ts ea x=some (iH,ti)∧iH.env=ts.env∧iH.ws=ts.ws∧uQ X P A m1 ps1 iH∧Fr m ts.heap m1 iH.heap∧Up m m1∧IR m ts.heap ⟨pi,false,false,!Ud pa⟩ ti∧∀b,.h b∈ti.ws->b∈bg m:=by
 have hc:=GI hv;unfold U8 at hl;split at hl
 .rename_i n hn;split at hl
  .rename_i Nv;have a9t:x.cells.length=n∧x.cells.all iT=true:=⟨by rw[<-hc.1];exact Nv.1,by rw[DL hc];exact Nv.2⟩;cases pa with
   |loc k off=>
    rw[DN ha];simp only at hl;split at hl
    .rename_i cs hk;simp only[a05,a0i]at hl;obtain⟨RG,h1,rfl,rfl⟩:=hl;obtain⟨cs',g1,g2⟩:=hR.loc k cs hk;obtain⟨J4,g3,g4⟩:=GK g2 hc h1;refine⟨{ ts with loc:=ts.loc.set k J4 },oO (.l k),m,?_,rfl,rfl,⟨hR.heap,by simp[hR.llen],fun j ds hj=>?_,hR.env⟩,.refl,.refl,.anH,fun b hb=>by simp[oO]at hb⟩
     .simp only[storeT,hn,a9t,acP,a1U,g1,g3,a0j]
     .by_cases e:k=j
      .subst e;rw[a4f]at hj;rw[hk]at hj;cases hj;exact⟨J4,by rw[a4f,g1];rfl,g4⟩
      .rw[a1l e]at hj;obtain⟨ds',q1,q2⟩:=hR.loc j ds hj;exact⟨ds',by rw[a1l e];exact q1,q2⟩
    .cases hl
   |undef|ent|Ee=>simp at hl
   |val a=>
    obtain⟨y,rfl,hy⟩:=fQ ha;cases a with
    |ptr b off lim=>
     simp only at hl;split at hl
     .rename_i KL;split at hl
      .rename_i cs hb;simp only[a05,a0i]at hl;obtain⟨RG,h1,rfl,rfl⟩:=hl;obtain⟨mb,g1,g2⟩:=hR.heap.at_ b _ hb;cases mb with
       |fV c=>
        obtain⟨cs',g3,g4⟩:=g2;cases hy with
        |ptr e=>
         rw[g1]at e;cases e;obtain⟨J4,g5,g6⟩:=GK g4 hc h1;have hlen:J4.length=cs'.length:=by
          unfold vO at g5;split at g5
          .cases g5;simp only[a1I,a3E,a3X];omega
          .cases g5
         have aT:=(a01.1 g3).1;obtain⟨hr1,hF⟩:=hR.heap.set (pb:=.cells RG) (hb:=.cells .own J4) g1 (c:=c) rfl (fun WC WE=>⟨J4,by simp[aX,aT],by
          simp only[aX,g3,a00]at WE;subst WE;omega⟩) fun hF=>⟨J4,by simp[aT],g6.step hF .refl⟩
         refine⟨{ ts with heap:=ts.heap.set c (.cells .own J4) },oO (.h c),m,?_,rfl,rfl,hR.step hr1 hF .refl,hF,.refl,.wrH (iI g1 rfl) aT,fun b hb=>?_⟩
         .simp only[storeT,hn,a9t,acP,a1U,KL,Wx g3,g5,a0j]
         .simp[oO]at hb;subst hb;exact aZ g1 rfl
        |gone hi e _=>simp only[bn,a00]at hi;subst hi;rw[g1]at e;cases e
       |_=>exact g2.elim
      .cases hl
     .cases hl
    |row b j off=>
     simp only at hl;split at hl
     .rename_i k0 ex e l hb;split at hl
      .rename_i RG h1;split at hl
       .rename_i a is hd;split at hl
        .cases hl
        .rename_i hnb;simp only[a00,a0i]at hl;obtain⟨rfl,rfl⟩:=hl;obtain⟨mb,g1,g2⟩:=hR.heap.at_ b _ hb;cases mb with
         |dB z=>
          cases hy with
          |row e' hj hq=>
           rw[g1]at e';cases e';cases(g2:LR X P _ _ _ _ _ _ _ _)with
           |emp=>omega
           |some q1 q2 q3 q4 q5 q6 q7 q8 q9=>
            rename_i c sz xx kk cs;obtain⟨Bc,xJ,hkr,hko⟩:=IZ q5;have uy:(MB.dB (TV.aP c 0 l.length l.length sz xx)).own=some c:=by simp only[MB.own];rw[a0c (by simpa using q1)]
            have yD:=q9.row (Ah hj);simp only[a3T]at yD;obtain⟨r,g3,g4⟩:=GK yD.1 hc h1;obtain⟨g5,g6⟩:=Ob yD.2 g3;have anI:=a0Q (m':=cu is m) hX hR.heap g4 hd;have hgo:=hR.heap.bf is;have Qg:=iE (h:=ts.heap) is m;have ai6:is.contains b=false:=(by simpa using hnb);have hm1:(cu is m)[b]? = some (.dB (.aP c 0 l.length l.length sz xx)):=by rw[Gz is g1,ai6];rfl
            have aT:=(a01.1 q4).1;have TG:(cs.take (j*sz)++r++cs.drop (j*sz+sz)).length=cs.length:=by simp only[a1I,a3E,a3X];omega
            obtain⟨hr1,hF⟩:=hgo.set (pb:=.list k0 ex e (l.set j a)) (hb:=.cells Bc (cs.take (j*sz)++r++cs.drop (j*sz+sz))) hm1 uy (fun WC WE=>⟨cs.take (j*sz)++r++cs.drop (j*sz+sz),by simp[aX,aT],by
             simp only[aX,q4,a00]at WE;subst WE;omega⟩) fun hF=>by
              have hw:=(q9.step Qg.1 Qg.2).set (anI.mono fun b hb=>hb.gone hR.heap) g6 hj;have:=LR.some (X:=X) (P:=P) (A:=AA A (cu is m)) (m:=cu is m) (h:=ts.heap.set c (.cells Bc (cs.take (j*sz)++r++cs.drop (j*sz+sz)))) (k:=k0) (ex:=ex) (t:=e) (l:=l.set j a) (b:=c) (sz:=sz) (e:=xx) (kk:=Bc) (cs:=cs.take (j*sz)++r++cs.drop (j*sz+sz))
               (by intro e0;apply q1;have:=congrArg List.length e0;rw[a4n]at this;exact a4F.1 this) q2 q3 (by simp[aT]) hkr (fun e0=>hko (q6 e0)) q7 (by rw[TG,a4n];exact q8) (hw.step hF .refl)
              rw[a4n]at this;exact this
            rw[<-JZ ai6]at hr1;have VZ:=Qg.1.trans hF;refine⟨{ ts with heap:=ts.heap.set c (.cells Bc (cs.take (j*sz)++r++cs.drop (j*sz+sz))) },oO (.h c),cu is m,?_,rfl,rfl,hR.step hr1 VZ Qg.2,VZ,Qg.2,.wrH (iI g1 uy) aT,fun b hb=>?_⟩
            .have h9:j*sz+off+n<=l.length*sz:=by
              have h8:=yD.2;unfold vO at g3;split at g3
              .rename_i h0;rw[a3E,a3X,a9t.1]at h0;omega
              .cases g3
             simp only[storeT,hn,a9t,acP,a1U,h9,a0L q4 xJ q8.symm,g5,a0j]
            .simp[oO]at hb;subst hb;exact aZ g1 uy
          |gone hi e' _=>simp only[bn,a00]at hi;subst hi;rw[g1]at e';cases e'
         |_=>exact g2.elim
       .cases hl
      .cases hl
     .cases hl
    |_=>simp at hl
  .cases hl
 .cases hl
end
open Go Tw
section
variable {X:kJ} {P:LI1} {A F:Nat->Prop} {m m':List MB} {h h':List HB} {H H':List (PB X.Γ)}
theorem nP{v:PV X.Γ}{x:TV}(hv:VR X P A m h v x):Iu X P A m h (.val v) (.val x):=hv
theorem Nl{ps:aS X.Γ}{ts:St}(hR:uQ X P A m ps ts){o:Nat}{pa pb:PE X.Γ}{ea:EV}(ha:Iu X P (AA A m) m ts.heap pa ea)(hl:Gx X ps o pa=some pb):∃eb,PZ o ea=some eb∧Iu X P (AA A m) m ts.heap pb eb:=by
 cases pa with
 |loc k off=>
  rw[DN ha];simp only[Gx,a00]at hl;subst hl;exact⟨.loc k (off+o),rfl,rfl,rfl⟩
 |undef|ent|Ee=>simp[Gx]at hl
 |val a=>
  obtain⟨y,rfl,hy⟩:=fQ ha;cases a with
  |ptr b off lim=>
   simp only[Gx]at hl;split at hl
   .rename_i cs hb;split at hl
    .rename_i hle;cases hl;obtain⟨mb,g1,g2⟩:=hR.heap.at_ b _ hb;cases mb with
     |fV c=>
      cases hy with
      |ptr e=>exact⟨.val (.ptr _ (off+o) lim),by simp only[PZ,hle,a1U],VR.ptr e⟩
      |gone hi e q=>simp only[bn,a00]at hi;subst hi;rw[g1]at e;cases e
     |_=>exact g2.elim
    cases hl
   .rename_i cs hb;split at hl
    .rename_i hle;cases hl;obtain⟨mb,g1,g2⟩:=hR.heap.at_ b _ hb;cases mb with
     |jl c=>
      cases hy with
      |ptr e=>rw[g1]at e;cases e
      |gone hi e q=>
       simp only[bn,a00]at hi;subst hi;rw[g1]at e;cases e with
       |r _ e=>simp only[roV,a00]at e;subst e;exact⟨.val (.ptr _ (off+o) lim),by simp only[PZ,hle,a1U],VR.gone rfl (.ofR g1 rfl) rfl⟩
     |_=>exact g2.elim
    cases hl
   cases hl
  |el t a off=>
   simp only[Gx]at hl;split at hl
   .rename_i hle;cases hl;cases hy with
    |el q1 q2 q2' q3 q4 q5 q6=>
     rename_i b o0 sz lim cs;rw[q4]at hle;refine⟨.val (.ptr b (o0+off+o) lim),by simp only[PZ];rw[a0g (by omega)],?_⟩;rw[a9G];exact VR.el q1 q2 q2' q3 q4 hle q6
    |gone hi _ _=>simp[bn]at hi
   cases hl
  |row b j off=>
   simp only[Gx,ahT]at hl;split at hl
   rotate_left
   .cases hl
   rename_i n hn;split at hn
   rotate_left
   .cases hn
   rename_i k ex e l hb;cases hn;split at hl
   .rename_i hle;cases hl;obtain⟨mb,g1,g2⟩:=hR.heap.at_ b _ hb;cases mb with
    |dB z=>
     cases hy with
     |row e' hj hq=>
      rw[g1]at e';cases e';cases(g2:LR X P _ _ _ _ _ _ _ _)with
      |emp=>omega
      |some q1 q2 q3 q4 q5 q6 q7 q8 q9=>
       rw[q9.1 j _ (Ah hj)]at hle;have yD:=(q9.row (Ah hj)).2;refine⟨.val (.ptr _ (j*_+off+o) (l.length*_)),by simp only[PZ];rw[a0g (by omega)],?_⟩;rw[a9G];exact VR.row g1 hj hle
     |gone hi e' _=>simp only[bn,a00]at hi;subst hi;rw[g1]at e';cases e'
    |_=>exact g2.elim
   cases hl
  |_=>simp[Gx]at hl
theorem a9v{ps:aS X.Γ}{ts:St}(hR:uQ X P A m ps ts){b:Nat}{k ex:Bool}{e:Nat}{l:List (X.Γ e)}(hb:ps.heap[b]? = some (.list k ex e l)){y:TV}(hy:VR X P (AA A m) m ts.heap (.own b) y)(hl:l≠[]) :
  ∃c sz x,y=.aP c 0 l.length l.length sz x∧m[b]? = some (.dB y)∧dw P e=some sz∧0<sz:=by
 obtain⟨mb,g1,g2⟩:=hR.heap.at_ b _ hb;cases mb with
 |dB z=>
  cases hy with
  |own e' o=>
   rw[g1]at e';cases e';cases(g2:LR X P _ _ _ _ _ _ _ _)with
   |nil=>exact absurd rfl hl
   |emp=>exact absurd rfl hl
   |some q1 q2 q3=>exact⟨_,_,_,rfl,g1,q2,q3⟩
  |gone hi e' _=>simp only[bn,a00]at hi;subst hi;rw[g1]at e';cases e'
 |_=>exact g2.elim
theorem zT{ps:aS X.Γ}{ts:St}(hR:uQ X P A m ps ts){t:LI2}{px pb:PE X.Γ}{ex:EV}(hx:Iu X P (AA A m) m ts.heap px ex){i:PV X.Γ}{ti:TV}(hi:VR X P (AA A m) m ts.heap i ti){qs:List Prop}(hl:Fj X P t ps px i=some (pb,qs))(hq:∀q∈qs,q) :
  ∃eb,lS P t ex ti=some eb∧Iu X P (AA A m) m ts.heap pb eb:=by
 have TU:∀{k:IntKind} {iv:Int} {n:Nat},gW iv n->idx n (.int k iv)=some iv.toNat∧iv.toNat<n:=by intro k iv n hn;unfold gW at hn;refine⟨by simp only[idx];rw[a0g hn],by omega⟩
 have hpi:∀{n j:Nat},a2D X n i=some j->idx n ti=some j:=by
  intro n j hj;cases i<;>simp only[a2D]at hj<;>try (cases hj;done)
  cases hi with
  |int=>exact hj
  |gone e _ _=>simp[bn]at e
 unfold Fj at hl;split at hl
 .rename_i e hu;split at hl
  .rename_i n t' l fu k iv hn;split at hl
   .rename_i ht;subst ht;simp only[a00,a0i]at hl;obtain⟨rfl,rfl⟩:=hl;have hr:=TU (k:=k) (hq _ a2O);have:ti=.int k iv:=by
     cases hi with
     |int=>rfl
     |gone e _ _=>simp[bn]at e
    subst this;obtain⟨y,rfl,hy⟩:=fQ hx;rcases a0R hy hn with⟨rfl,rfl⟩|⟨b,off,cap,ex',cs,rfl,hk,hc,JR,hw⟩
    .have:=hr.2;simp at this
    .have yD:=hw.row (Ah hr.2);have hA:AA A m b:=by
      cases hy with
      |dB a=>exact a
      |gone e _ _=>simp[bn]at e
     have Nv:=JR (by intro e0;rw[e0]at hr;have:=hr.2;simp at this);have hle:off+iv.toNat*n+n<=off+cap*n:=by have h1:(iv.toNat+1)*n<=cap*n:=a3l n (by have:=hr.2;omega);rw[a3m,adw]at h1;omega
     refine⟨.val (.ptr b (off+iv.toNat*n) (off+cap*n)),?_,?_⟩
     .simp only[lS,hu,hn,a1U,hr.1,a0j]
     .have:=VR.el (X:=X) (P:=P) (A:=AA A m) (m:=m) (h:=ts.heap) (t:=t') (a:=l.getD iv.toNat (X.d0 t')) (off:=0) (o:=off+iv.toNat*n) hA Nv hle yD.2 (hw.1 _ _ (Ah hr.2)) (a4E _) (fun i c v h1 h2=>hw.2.2 _ _ i c v (Ah hr.2) h1 h2);exact nP (by simpa using this)
   .cases hl
  .rename_i n b k iv hn;split at hl
   .rename_i w ex' t' l hb;split at hl
    .rename_i ht;subst ht;simp only[a00,a0i]at hl;obtain⟨rfl,rfl⟩:=hl;have hr:=TU (k:=k) (hq _ a2O);have:ti=.int k iv:=by
      cases hi with
      |int=>rfl
      |gone e _ _=>simp[bn]at e
     subst this;obtain⟨y,rfl,hy⟩:=fQ hx;obtain⟨c,sz,x',rfl,g1,g2,g3⟩:=a9v hR hb hy (by intro e0;rw[e0]at hr;have:=hr.2;simp at this);rw[hn]at g2;cases g2;refine⟨.val (.ptr c (iv.toNat*n) (l.length*n)),?_,?_⟩
     .simp only[lS,hu,hn,a1U,hr.1,a0j,a3T]
     .have:=VR.row (X:=X) (P:=P) (A:=AA A m) (m:=m) (h:=ts.heap) (off:=0) g1 hr.2 (a4E n);exact nP (by simpa using this)
    .cases hl
   .cases hl
  .rename_i n b o q k iv hn;split at hl
   .rename_i w ex' t' l hb;split at hl
    .rename_i ht;subst ht;simp only[a00,a0i]at hl;obtain⟨rfl,rfl⟩:=hl;have hr:=TU (k:=k) (hq _ a2O);have:ti=.int k iv:=by
      cases hi with
      |int=>rfl
      |gone e _ _=>simp[bn]at e
     subst this;obtain⟨y,rfl,hy⟩:=fQ hx;obtain⟨mb,g1,g2⟩:=hR.heap.at_ b _ hb;cases mb with
     |dB z=>
      cases hy with
      |win e' w1 w2 w3=>
       rw[g1]at e';cases e';cases(g2:LR X P _ _ _ _ _ _ _ _)with
       |emp=>have:=hr.2;omega
       |some q1 q2 q3=>
        rw[hn]at q2;cases q2;have hp:=nP (VR.row (X:=X) (P:=P) (A:=AA A m) (m:=m) (h:=ts.heap) (j:=o+iv.toNat) (off:=0) g1 (by have:=hr.2;omega) (a4E n));refine⟨_,?_,hp⟩;have h3:=w3.resolve_left (by have:=hr.2;omega);simp only[lS,hu,hn,a1U,hr.1,a0j,a3T,a3m,adz,<-h3]
      |BF e'=>have:=hr.2;omega
      |gone hi e' _=>simp only[bn,a00]at hi;subst hi;rw[g1]at e';cases e'
     |_=>exact g2.elim
    .cases hl
   .cases hl
  .rename_i n b off len cap sz ex' hn;split at hl
   .rename_i cs hb;split at hl
    .rename_i uT;subst uT;simp only[a05,a0i]at hl;obtain⟨j,h1,rfl,rfl⟩:=hl;obtain⟨y,rfl,hy⟩:=fQ hx;obtain⟨mb,g1,g2⟩:=hR.heap.at_ b _ hb;cases mb with
     |fV c=>
      cases hy with
      |aP e=>
       have:=hpi h1;rw[g1]at e;cases e;exact⟨.val (.ptr c (off+j*n) (off+cap*n)),by simp only[lS,hu,hn,a1U,this,a0j],VR.ptr g1⟩
      |gone wY e' _=>simp only[bn,a00]at wY;subst wY;rw[g1]at e';cases e'
     |_=>exact g2.elim
    .cases hl
   .cases hl
  .cases hl
 .rename_i len e hu;split at hl
  .rename_i n hn;split at hl
   .rename_i j hj;simp only[a05,a0i]at hl;obtain⟨pa,h1,rfl,rfl⟩:=hl;obtain⟨eb,g1,g2⟩:=Nl hR hx h1;exact⟨eb,by simp only[lS,hu,hn,hpi hj,g1],g2⟩
   .cases hl
  .cases hl
 .cases hl
end
open Go Tw
section
variable {X:kJ} {P:LI1} {A F:Nat->Prop} {m m':List MB} {h h':List HB} {H H':List (PB X.Γ)}
theorem Yw(hr:HR X P A m H h){at_:Array LI2}{x:PV X.Γ}{tx:TV}(hx:VR X P (AA A m) m h x tx){v:PV X.Γ}{pi:lN}(hl:adZ X P at_ H x=some (v,pi)) :
  ∃w ti,Yk P at_ h tx=some (w,ti)∧VR X P (AA A m) m h v w∧IR m h ⟨pi,false,false,true⟩ ti∧ti.ws=[]:=by
 unfold adZ at hl;split at hl
 .rename_i t ht;unfold Yk;simp only[ht];split at hl
  .rename_i s hu;cases hl;cases hx with
   |str=>exact⟨_,_,by first|(simp only[hu];done)|(simp only[hu];rfl),.int _ _,.none,rfl⟩
   |gone hi _ _=>simp[bn]at hi
  .rename_i n e _ hu;cases hl;exact⟨_,_,by first|(simp only[hu];done)|(simp only[hu];rfl),.int _ _,.none,rfl⟩
  .rename_i e b off len cap sz ex hu;split at hl
   .rename_i cs hb;cases hl;obtain⟨mb,g1,g2⟩:=hr.at_ b _ hb;cases mb with
    |fV c=>
     cases hx with
     |aP e'=>exact⟨_,_,by first|(simp only[hu];done)|(simp only[hu];rfl),.int _ _,.none,rfl⟩
     |gone hi e' _=>simp only[bn,a00]at hi;subst hi;rw[g1]at e';cases e'
    |_=>exact g2.elim
   .cases hl
  .rename_i e hu;cases hl;cases hx with
   |nil=>exact⟨_,_,by first|(simp only[hu];done)|(simp only[hu];rfl),.int _ _,.none,rfl⟩
   |gone hi _ _=>simp[bn]at hi
  .rename_i e t' l fu hu;cases hl;cases hx with
   |oW=>exact⟨_,_,by first|(simp only[hu];done)|(simp only[hu];rfl),.int _ _,.none,rfl⟩
   |dB=>exact⟨_,_,by first|(simp only[hu];done)|(simp only[hu];rfl),.int _ _,.none,rfl⟩
   |gone hi _ _=>simp[bn]at hi
  .rename_i e b hu;split at hl
   .rename_i k ex t' l hb;cases hl;obtain⟨mb,g1,g2⟩:=hr.at_ b _ hb;cases mb with
    |dB z=>
     cases hx with
     |own e' _=>
      rw[g1]at e';cases e';cases(g2:LR X P _ _ _ _ _ _ _ _)with
      |nil=>exact⟨_,_,by first|(simp only[hu];done)|(simp only[hu];rfl),.int _ _,.none,rfl⟩
      |emp=>exact⟨_,_,by first|(simp only[hu];done)|(simp only[hu];rfl),.int _ _,.none,rfl⟩
      |some=>exact⟨_,_,by first|(simp only[hu];done)|(simp only[hu];rfl),.int _ _,.none,rfl⟩
     |gone hi e' _=>simp only[bn,a00]at hi;subst hi;rw[g1]at e';cases e'
    |_=>exact g2.elim
   .cases hl
  .rename_i e b o n hu;split at hl
   .rename_i k ex t' l hb;cases hl;obtain⟨mb,g1,g2⟩:=hr.at_ b _ hb;cases mb with
    |dB z=>
     cases hx with
     |win=>exact⟨_,_,by first|(simp only[hu];done)|(simp only[hu];rfl),.int _ _,.none,rfl⟩
     |BF=>exact⟨_,_,by first|(simp only[hu];done)|(simp only[hu];rfl),.int _ _,.none,rfl⟩
     |gone hi e' _=>simp only[bn,a00]at hi;subst hi;rw[g1]at e';cases e'
    |_=>exact g2.elim
   .cases hl
  .rename_i kt e hu;cases hl;cases hx with
   |nil=>exact⟨_,_,by first|(simp only[hu];done)|(simp only[hu];rfl),.int _ _,.none,rfl⟩
   |gone hi _ _=>simp[bn]at hi
  .rename_i kt e r hu;split at hl
   .rename_i es hb;cases hl;obtain⟨mb,g1,g2⟩:=hr.at_ r _ hb;cases mb with
    |fV c=>
     obtain⟨fU,g3,g4,g5⟩:=g2;cases hx with
     |map e'=>
      rw[g1]at e';cases e';exact⟨_,_,by first|(simp only[hu,g3];done)|(simp only[hu,g3];rfl),by rw[g4];exact .int _ _,.rdH (iI g1 rfl) (a01.1 g3).1,rfl⟩
     |gone hi e' _=>simp only[bn,a00]at hi;subst hi;rw[g1]at e';cases e'
    |_=>exact g2.elim
   .cases hl
  .cases hl
 .cases hl
def a5L:BinOp->Option TV
 |.eql=>some (.bool false)
 |.neq=>some (.bool true)
 |_=>none
theorem Yu{op:BinOp}{t:LI2}{x y:Operand}{a b:PV X.Γ}{ta tb:TV}(ha:VR X P A m h a ta)(hb:VR X P A m h b tb){v:PV X.Γ}(hl:ae0 X P op t x y a b=some v):∃w,su P op t x y ta tb=some w∧VR X P A m h v w:=by
 unfold ae0 at hl;split at hl
 .rename_i u w h1 h2;split at hl
  .rename_i r hr;rw[jM ha h1,jM hb h2];exact⟨r,hr,wE hl⟩
  cases hl
 rename_i hno;split at hl
 rotate_left
 .cases hl
 rename_i hn;have key:∃k,JK P t=some k∧((ta=.nil k∧JJ tb=some k∧tb.yt=none)∨(tb=.nil k∧JJ ta=some k∧ta.yt=none)):=by
  unfold a0I at hn;split at hn
  rotate_left
  .cases hn
  rename_i k hk;refine⟨k,hk,?_⟩;simp only[a8Q,a2f,a7r]at hn;have ai7:∀{z:PV X.Γ} {tz:TV},VR X P A m h z tz->z=.nil k->tz=.nil k:=by
   intro z tz hz e;subst e;cases hz with
   |nil=>rfl
   |gone hi _ _=>simp[bn]at hi
  have abP:∀{z:PV X.Γ} {tz:TV},VR X P A m h z tz->(match z with|.fn _ _ _=>some NK.fn|.el _ _ _=>some NK.ptr|_=>none)=some k->JJ tz=some k∧tz.yt=none:=by
   intro z tz hz e;cases hz with
   |fn=>exact⟨e,rfl⟩
   |el=>exact⟨e,rfl⟩
   |gone hi _ _=>cases z<;>simp[bn]at hi<;>simp at e
   |_=>simp at e
  have ai8:∀{z:PV X.Γ},(match z with|.nil k=>some k|_=>none)=some k->z=.nil k:=by
   intro z e;cases z<;>simp at e
   rw[e]
  rcases hn with⟨h1,h2⟩|⟨h1,h2⟩
  .have:=abP hb h2;exact .inl ⟨ai7 ha (ai8 h1),this.1,this.2⟩
  have:=abP ha h1;exact .inr ⟨ai7 hb (ai8 h2),this.1,this.2⟩
 obtain⟨k,hk,hc⟩:=key;have ae8:su P op t x y ta tb=a5L op:=by
  rcases hc with⟨rfl,h2,h3⟩|⟨rfl,h2,h3⟩
  .have hnn:BP P t (.nil k) tb=true:=by unfold BP;rw[hk];simp[Yl,h2]
   unfold su;rw[h3];cases(TV.nil k).yt<;>simp only[hnn,a1U]<;>cases op<;>rfl
  have hnn:BP P t ta (.nil k)=true:=by unfold BP;rw[hk];simp[Yl,h2]
  unfold su;rw[h3];simp only[hnn,a1U];cases op<;>rfl
 rw[ae8];cases op<;>simp only at hl ⊢<;>try (cases hl;done)
 .cases hl;exact⟨_,rfl,.bool _⟩
 cases hl;exact⟨_,rfl,.bool _⟩
theorem Oc{op:BinOp}{t:LI2}{x y:Operand}{b:PV X.Γ}{ta tb:TV}(hb:VR X P A m h b tb){v:PV X.Γ}{q q':Prop}(hl:LJ X P op t b q=some (v,q'))(hq:q')(h2:q->JJ ta=some .aP∧ta.yt=none):∃w,su P op t x y ta tb=some w∧VR X P A m h v w:=by
 unfold LJ at hl;split at hl
 .rename_i hk;have h1:tb=.nil .aP:=by
   cases hb with
   |nil=>rfl
   |gone hi _ _=>simp[bn]at hi
  subst h1;have key:q->su P op t x y ta (.nil .aP)=a5L op:=fun hq=>by
   obtain⟨h2,h3⟩:=h2 hq;have hnn:BP P t ta (.nil .aP)=true:=by unfold BP;rw[hk];simp[Yl,h2]
   unfold su;rw[h3];simp only[hnn,a1U];cases op<;>rfl
  split at hl
  .cases hl;rw[key hq];exact⟨_,rfl,.bool _⟩
  .cases hl;rw[key hq];exact⟨_,rfl,.bool _⟩
  cases hl
 cases hl
theorem a2J(hr:HR X P A m H h){op:BinOp}{t:LI2}{x y:Operand}{a b:PV X.Γ}{ta tb:TV}(ha:VR X P (AA A m) m h a ta)(hb:VR X P (AA A m) m h b tb){v:PV X.Γ}{q:Prop}(hl:Ua X P op t H a b=some (v,q))(hq:q):∃w,su P op t x y ta tb=some w∧VR X P (AA A m) m h v w:=by
 unfold Ua at hl;split at hl
 .rename_i l fu;refine Oc hb hl hq (fun iq=>?_);cases ha with
  |oW=>exact absurd rfl iq
  |dB=>exact⟨rfl,rfl⟩
  |gone hi _ _=>simp[bn]at hi
 .rename_i i;split at hl
  .rename_i k ex t' l hi;refine Oc hb hl hq (fun iq=>?_);obtain⟨mb,g1,g2⟩:=hr.at_ i _ hi;cases ha with
   |own e o=>
    rw[g1]at e;cases e;cases g2 with
    |nil=>exact absurd rfl iq
    |emp=>exact absurd rfl iq
    |some=>exact⟨rfl,rfl⟩
   |gone hi e _=>simp only[bn,a00]at hi;subst hi;rw[g1]at e;cases e<;>exact g2.elim
  cases hl
 cases hl
theorem iR{op:UnOp}{a:PV X.Γ}{ta:TV}(ha:VR X P A m h a ta){v:PV X.Γ}(hl:pun X P op a=some v):∃w,unT P op ta=some w∧VR X P A m h v w:=by
 unfold pun at hl;split at hl
 .rename_i u h1;split at hl
  .rename_i r hr;rw[jM ha h1];exact⟨r,hr,wE hl⟩
  cases hl
 cases hl
theorem TJ{s d:LI2}{a:PV X.Γ}{ta:TV}(ha:VR X P A m h a ta){v:PV X.Γ}(hl:a5u X P s d a=some v):∃w,Qy P s d ta=some w∧VR X P A m h v w:=by
 unfold a5u at hl;split at hl
 .rename_i u h1;split at hl
  .rename_i r hr;rw[jM ha h1];exact⟨r,hr,wE hl⟩
  cases hl
 cases hl
theorem yN{mx:Bool}{at_:Array LI2}{t:LI2}{az:List (PV X.Γ)}{ts:List TV}(ha:bU X P A m h az ts){v:PV X.Γ}(hl:LK X P mx at_ t az=some v):∃w,Dy P mx at_ t ts=some w∧VR X P A m h v w:=by
 unfold LK at hl;split at hl
 .rename_i u h1;split at hl
  .rename_i r hr;rw[a0O ha h1];exact⟨r,hr,wE hl⟩
  cases hl
 cases hl
theorem Nq{t:LI2}{x:PV X.Γ}{tx:TV}(hx:VR X P A m h x tx){i:Nat}{v:PV X.Γ}(hl:Z4 X P t x i=some v):∃w,MS P t tx i=some w∧VR X P A m h v w:=by
 unfold Z4 at hl;split at hl
 .rename_i fs cs hu;split at hl
  .rename_i f hf;cases hx with
   |agg h1 h2=>
    obtain⟨w,g1,g2⟩:=Ae ⟨h1,h2⟩ hl;exact⟨w,by simp only[MS,hu,hf,g1],g2⟩
   |gone hi _ _=>simp[bn]at hi
  cases hl
 cases hl
theorem Nr{t:LI2}{x i:PV X.Γ}{tx ti:TV}(hx:VR X P A m h x tx)(hi:VR X P A m h i ti){v:PV X.Γ}(hl:Z5 X P t x i=some v):∃w,Iw P t tx ti=some w∧VR X P A m h v w:=by
 unfold Z5 at hl;split at hl
 .rename_i len e cs hu;split at hl
  .rename_i n j hn hj;have:idx len ti=some j:=by
    cases i<;>simp only[a2D]at hj<;>try (cases hj;done)
    cases hi with
    |int=>exact hj
    |gone e _ _=>simp[bn]at e
   cases hx with
   |agg h1 h2=>
    obtain⟨w,g1,g2⟩:=Ae ⟨h1,h2⟩ hl;exact⟨w,by simp only[Iw,hu,hn,this,g1],g2⟩
   |gone hi _ _=>simp[bn]at hi
  cases hl
 cases hl
end
open Go Tw
section
variable {X:kJ} {P:LI1} {A F:Nat->Prop} {m m':List MB} {h h':List HB} {H H':List (PB X.Γ)}
theorem GR:∀{is:List Nat} {H:List (PB X.Γ)} {i:Nat} {pb:PB X.Γ},(bf is H)[i]? = some pb->(i∈is∧pb=.gone)∨(i∉is∧H[i]? = some pb)
 | [],_,_,_,h=>.inr ⟨by simp,h⟩
 |j::is,H,i,pb,h=>by
  rcases GR (is:=is) (H:=Ws j H) h with⟨h1,h2⟩|⟨h1,h2⟩
  .exact .inl ⟨a2P _ h1,h2⟩
  unfold Ws at h2;by_cases e:j=i
  .subst e;rw[a4f]at h2;cases hx:H[j]? with
   |none=>rw[hx]at h2;cases h2
   |some y=>rw[hx]at h2;cases h2;exact .inl ⟨a2O,rfl⟩
  rw[a1l e]at h2;exact .inr ⟨by simp[h1,Ne.symm e],h2⟩
theorem lq(hr:HR X P A m H h)(is:List Nat){k ex x:Bool}{e size:Nat}{rows:List (X.Γ e)}{cs:List TV}(hw:dW X P (FA A m is) (cu is m) h e rows cs 0 size)(hc:cs.length=rows.length*size)(hn:rows≠[])(hz:dw P e=some size)(h0:0<size)(hx:ex=true->x=true) :
  ∃m1,HR X P A m1 (bf is H++[.list k ex e rows]) (h++[.cells .own cs])∧Fr m h m1 (h++[.cells .own cs])∧Up m m1∧VR X P (AA A m1) m1 (h++[.cells .own cs]) (.own H.length) (.aP h.length 0 rows.length rows.length size x):=by
 have hgo:=hr.bf is;have Qg:=iE (h:=h) is m;have uy:(MB.dB (.aP h.length 0 rows.length rows.length size x)).own=some h.length:=by simp only[MB.own];rw[a0c (by simpa using hn)]
 have hF:Fr (cu is m) h (cu is m++[.dB (.aP h.length 0 rows.length rows.length size x)]) (h++[.cells .own cs]):=by
  refine⟨by simp,fun b hb _=>by rw[a0b hb],fun b hb=>?_,fun b cs hc=>⟨cs,by rw[fP (a0b (fM hc)),hc],a0U _⟩⟩;rw[iY,a3k,jY,uy]at hb;rcases hb with hb|hb
  .exact .inl hb
  .simp at hb;exact .inr (by omega)
 obtain⟨h1,h2,h3⟩:=hgo.push (pb:=.list k ex e rows) (hb:=.cells .own cs) (.inl uy)
  (LR.some (kk:=.own) hn hz h0 (by simp) (by simp) (fun _=>rfl) hx hc ((hw.mono fun b hb=>hb.gone hr).step hF (wC _)))
 refine⟨_,h1,Qg.1.trans h2,Qg.2.trans h3,.own ?_ rfl⟩;rw[<-hr.len,<-lZ is m];simp
theorem RH(hr:HR X P A m H h)(is:List Nat){k ex:Bool}{e:Nat}{y:TV}(hy:(MB.dB y).own=none)(ho:iT y=true)(hl:LR X P (AA A (cu is m++[.dB y])) (cu is m++[.dB y]) h k ex e [] y) :
  ∃m1,HR X P A m1 (bf is H++[.list k ex e []]) h∧Fr m h m1 h∧Up m m1∧VR X P (AA A m1) m1 h (.own H.length) y:=by
 have Qg:=iE (h:=h) is m;obtain⟨h1,h2,h3⟩:=(hr.bf is).abO (pb:=.list k ex e []) hy hl;refine⟨_,h1,Qg.1.trans h2,Qg.2.trans h3,.own ?_ ho⟩;rw[<-hr.len,<-lZ is m];simp
theorem a9w(hr:HR X P A m H h){is:List Nat}{y:TV}(hy:(MB.dB y).own=none){b:Nat}(hb:FA A m is b):AA A (cu is m++[.dB y]) b:=by have:=hb.gone hr;refine⟨this.1,fun hm=>this.2 ?_⟩;rw[iY,a3k,jY,hy]at hm;simpa using hm
theorem push_empty(hr:HR X P A m H h)(is:List Nat){k ex:Bool}{e size b off:Nat}{cs:List TV}(hz:dw P e=some size)(h0:0<size)(ha:FA A m is b)(hb:aX h b=some cs)(ho:off<=cs.length) :
  ∃m1,HR X P A m1 (bf is H++[.list k ex e []]) h∧Fr m h m1 h∧Up m m1∧VR X P (AA A m1) m1 h (.own H.length) (.aP b off 0 0 size true):=
 RH hr is rfl rfl (LR.emp (a9w hr rfl ha) hb ho hz h0)
theorem Oe(hr:HR X P A m H h)(is:List Nat){k ex:Bool}{e:Nat} :
  ∃m1,HR X P A m1 (bf is H++[.list k ex e []]) h∧Fr m h m1 h∧Up m m1∧VR X P (AA A m1) m1 h (.own H.length) (.nil .aP):=
 RH hr is rfl rfl .nil
theorem Og(hr:HR X P A m H h){b c:Nat}(is:List Nat){mb LM:MB}{pb:PB X.Γ}{h1:List HB}(hb:m[b]? = some mb)(ho:mb.own=some c)(ho':LM.own=some c)(hlen:h1.length=h.length)(hs:∀d,d≠c->h1[d]? = h[d]?)
  (hg:∀cs,aX h c=some cs->∃cs',aX h1 c=some cs'∧cs.length<=cs'.length)
  (qy:Fr m h (cu (b::is) m++[LM]) h1->Up m (cu (b::is) m++[LM])->BR X P (AA A (cu (b::is) m++[LM])) (cu (b::is) m++[LM]) h1 pb LM) :
  ∃m1,m1=cu (b::is) m++[LM]∧HR X P A m1 (bf (b::is) H++[pb]) h1∧Fr m h m1 h1∧Up m m1∧m1[H.length]? = some LM:=by
 have Qg:=iE (h:=h) (b::is) m;have hgo:=hr.bf (b::is);have hnc:c∉bg (cu (b::is) m):=fun hm=>by obtain⟨j,mbj,g1,g2,g3⟩:=Af hm;have:=iV hr.nodup hb g2 ho g3;exact g1 (by rw[<-this];exact a2O)
 have yO:∀d,d∈bg (cu (b::is) m++[LM])↔d∈bg (cu (b::is) m)∨d=c:=by intro d;rw[iY,a3k,jY,ho'];simp
 have GU:c∈bg m:=aZ hb ho;have hF:Fr m h (cu (b::is) m++[LM]) h1:=by
  refine⟨by omega,fun d hd hn=>hs d fun e=>hn (e▸GU),fun d hd=>?_,fun d cs hc=>?_⟩
  .rcases(yO d).1 hd with hd|rfl
   .exact Qg.1.new d hd
   .exact .inl GU
  .by_cases e:d=c
   .subst e;exact hg cs hc
   .exact⟨cs,by rw[fP (hs d e),hc],a0U _⟩
 have hU:Up m (cu (b::is) m++[LM]):=Qg.2.trans (wC _);refine⟨_,rfl,?_,hF,hU,?_⟩
 .refine hr.next hF hU (by simp[lZ,nN,hr.len]) ?_ fun i pbi hi=>?_
  .rw[iY,jY,ho'];refine a8H.2 ⟨hgo.nodup,by simp,fun a ha b' xM e=>?_⟩;simp at xM;subst xM;subst e;exact hnc ha
  .rcases a4d i (bf (b::is) H).length with aT|Et
   .rw[a0b aT]at hi;have a5M:i<(cu (b::is) m).length:=by rw[hgo.len];exact aT
    rcases GR hi with⟨e1,rfl⟩|⟨e1,e2⟩
    .obtain⟨mbi,g1,g2⟩:=hgo.at_ i _ hi;cases mbi with
     |gone=>exact .inr ⟨.gone,by rw[a0b a5M];exact g1,trivial⟩
     |_=>exact g2.elim
    .obtain⟨mbi,g1,_⟩:=hr.at_ i _ e2;left;have hm:=Gz (b::is) g1;rw[show(b::is).contains i=false by simpa using e1]at hm;refine⟨mbi,e2,g1,by rw[a0b a5M];simpa using hm,fun d hd=>hs d fun e=>?_⟩;subst e;have:=iV hr.nodup hb g1 ho hd;exact e1 (by rw[<-this];exact a2O)
   .rw[a0S Et]at hi;have:i-(bf (b::is) H).length=0:=by
     rcases abu (i-(bf (b::is) H).length)with h|h
     .exact h
     .rw[a4a (by simp;omega)]at hi;cases hi
    rw[this]at hi;simp only[a2r,a00]at hi;subst hi;exact .inr ⟨LM,by rw[a0S (by rw[hgo.len];exact Et),hgo.len,this];rfl,qy hF hU⟩
 .have:H.length=(cu (b::is) m).length:=by rw[lZ,hr.len]
  rw[this];simp
end
open Go Tw
section
variable {X:kJ} {P:LI1} {A F:Nat->Prop} {m m':List MB} {h h':List HB} {H H':List (PB X.Γ)}
def WG(X:kJ)(P:LI1)(A:Nat->Prop)(m:List MB)(ts:St)(r:Option (TV×St×lN))(v:PV X.Γ)(H1:List (PB X.Γ))(pi:PI):Prop:=
 ∃w h1 ti m1,r=some (w,{ ts with heap:=h1 },ti)∧HR X P A m1 H1 h1∧VR X P (AA A m1) m1 h1 v w∧Fr m ts.heap m1 h1∧Up m m1∧IR m ts.heap pi ti∧∀b,.h b∈ti.ws->b∈bg m
theorem jO{e:LI2}{n k:Nat}(hb:tV P e n=true)(hk:k<=n):tV P e k=true:=by
 unfold tV at hb ⊢;split at hb
 .rename_i i hi;simp only[a2f,a1o]at hb ⊢;obtain⟨⟨⟨⟨h1,h2⟩,h3⟩,h4⟩,h5⟩:=hb;have:=a3l i.bytes hk;exact⟨⟨⟨⟨by omega,by omega⟩,h3⟩,h4⟩,h5⟩
 cases hb
theorem nR{t e:LI2}{n:Nat}(hs:jE P t=some (e,n)):dw P e=some n∧0<n:=by
 unfold jE at hs;split at hs
 .split at hs
  .rename_i k hk;split at hs
   .cases hs
   rename_i h0;simp only[a00,a0i]at hs;obtain⟨rfl,rfl⟩:=hs;exact⟨hk,by omega⟩
  cases hs
 cases hs
theorem tY(hr:HR X P A m H h){e sz:Nat}{x:PV X.Γ}{tx:TV}(hv:VR X P (AA A m) m h x tx)(hz:dw P e=some sz){rows:List (X.Γ e)}{is:List Nat}(hs:Aa X H e sz x=some (rows,is)){b:Nat}(hb:.h b∈cZ tx):((∃i,.h i∈yE X x∧FC m i b)∨b∉bg m)∧b<h.length:=by
 have lr:∀{i:Nat} {k ex:Bool} {t:Nat} {l:List (X.Γ t)} {c off len cap s:Nat} {e':Bool},H[i]? = some (.list k ex t l)->m[i]? = some (.dB (.aP c off len cap s e'))->(FC m i c∨c∉bg m)∧c<h.length:=by
  intro i k ex t l c off len cap s e' hH hm;obtain⟨mb,g1,g2⟩:=hr.at_ i _ hH;rw[hm]at g1;cases g1;cases(g2:LR X P _ _ _ _ _ _ _ _)with
  |emp h0 h1=>exact⟨.inr h0.2,fM h1⟩
  |some q1 q2 q3 q4=>exact⟨.inl (iI hm (by simp only[MB.own];rw[a0c (by simpa using q1)])),(a01.1 q4).1⟩
 cases x with
 |nil k=>
  cases hv with
  |nil=>simp[cZ]at hb
  |gone hi _ _=>simp[bn]at hi
 |dB t l fu=>
  cases hv with
  |oW=>simp[cZ]at hb
  |dB a ac=>simp[cZ]at hb;subst hb;exact⟨.inr a.2,fM ac⟩
  |gone hi _ _=>simp[bn]at hi
 |own i=>
  simp only[Aa]at hs;split at hs
  .rename_i k ex t l hH;cases hv with
   |own e' o=>
    cases tx<;>simp[cZ]at hb
    subst hb;obtain⟨h1,h2⟩:=lr hH e';rcases h1 with h1|h1
    .exact⟨.inl ⟨i,by simp[yE],h1⟩,h2⟩
    exact⟨.inr h1,h2⟩
   |gone hi e' _=>
    simp only[bn,a00]at hi;subst hi;obtain⟨mb,g1,g2⟩:=hr.at_ i _ hH;rw[g1]at e';cases e'<;>exact g2.elim
  cases hs
 |win i o n=>
  simp only[Aa]at hs;split at hs
  .rename_i k ex t l hH;cases hv with
   |win e' q q'=>
    simp[cZ]at hb;subst hb;obtain⟨h1,h2⟩:=lr hH e';rcases h1 with h1|h1
    .exact⟨.inl ⟨i,by simp[yE],h1⟩,h2⟩
    exact⟨.inr h1,h2⟩
   |BF=>simp[cZ]at hb
   |gone hi e' _=>
    simp only[bn,a00]at hi;subst hi;obtain⟨mb,g1,g2⟩:=hr.at_ i _ hH;rw[g1]at e';cases e'<;>exact g2.elim
  cases hs
 |aP c off len cap s ex=>
  simp only[Aa]at hs;split at hs
  .rename_i cs hH;cases hv with
   |aP e'=>
    simp[cZ]at hb;subst hb;obtain⟨mb,g1,g2⟩:=hr.at_ c _ hH;rw[e']at g1;cases g1;exact⟨.inl ⟨c,by simp[yE],iI e' rfl⟩,g2.has rfl⟩
   |gone hi e' _=>
    simp only[bn,a00]at hi;subst hi;obtain⟨mb,g1,g2⟩:=hr.at_ c _ hH;rw[g1]at e';cases e'<;>exact g2.elim
  cases hs
 |_=>simp[Aa]at hs
theorem IR.reads{p:PI}{ks:List Key}(hp:p.hp=true)(hk:∀b,.h b∈ks->((∃i,.h i∈p.i.ts∧FC m i b)∨b∉bg m)∧b<h.length)(hl:∀k,.l k∉ks):IR m h p (fJ ks):=
 ⟨fun h=>(by cases h),fun k h=>absurd h (hl k),fun k h=>(by cases h),fun b h=>(by cases h),hk,fun h=>(by rw[hp]at h;cases h)⟩
theorem lu{tx:TV}{k:Nat}:Key.l k∉cZ tx:=by cases tx<;>simp[cZ]
theorem II(hX:bP X P){ps:aS X.Γ}{ts:St}(hR:uQ X P A m ps ts){at_:Array LI2}{d x:PV X.Γ}{td tx:TV}(hd:VR X P (AA A m) m ts.heap d td)(hx:VR X P (AA A m) m ts.heap x tx){v:PV X.Γ}{H1:List (PB X.Γ)}{pi:lN}{qs:List Prop}
  (hl:U9 X P at_ ps.heap d x=some (v,H1,pi,qs)) (hq:∀q∈qs,q):WG X P A m ts (jc P at_ ts td tx) v H1 ⟨pi,false,false,true⟩:=by
 have hr:=hR.heap;unfold U9 at hl;split at hl
 .rename_i st xt uN Gf;split at hl
  .cases hl
  .rename_i hint;split at hl
   .rename_i e size yA;split at hl
    .rename_i EX;obtain⟨hz,h0⟩:=nR yA;split at hl
     .rename_i rows is hs;obtain⟨new,s1,s2,s3⟩:=Ul (m':=cu is m) hX hr hx hz hs;have hk0:IR m ts.heap ⟨fJ (yE X x),false,false,true⟩ (fJ (cZ tx)):=IR.reads rfl (fun b hb=>tY hr hx hz hs hb) fun k=>lu;have hrn:rows.length=0↔rows=[]:=a4F;split at hl
      .-- nil
       simp only[a00,a0i]at hl;obtain⟨rfl,rfl,rfl,rfl⟩:=hl;have Ip:rows.length<=ah:=hq _ a2O;have:td=.nil .aP:=by
        cases hd with
        |nil=>rfl
        |gone hi _ _=>simp[bn]at hi
       subst this;by_cases hn:rows=[]
       .subst hn;obtain⟨m1,g1,g2,g3,g4⟩:=Oe hr is (k:=true) (ex:=false) (e:=e);exact⟨_,ts.heap,_,m1,by unfold jc;simp only[uN,Gf,hint,a3g,yA,s1,a4Q,a1U,a2i],g1,g4,g2,g3,hk0,fun b hb=>by simp[fJ]at hb⟩
       .obtain⟨m1,g1,g2,g3,g4⟩:=lq hr is (k:=true) (ex:=false) (x:=false) s3 s2 hn hz h0 (by simp);refine⟨_,ts.heap++[.cells .own new],_,m1,?_,g1,g4,g2,g3,hk0,fun b hb=>by simp[fJ]at hb⟩;unfold jc;simp only[uN,Gf,hint,a3g,yA,s1,a2i,hrn,hn,s2,a1U,jO EX Ip]
      .-- an own list
       rename_i b;split at hl
       .rename_i k ex t' l hb;split at hl
        .cases hl
        rename_i hnb;split at hl
        .rename_i l2 GV;obtain⟨rfl,rfl⟩:=qQ GV;simp only[a00,a0i]at hl;obtain⟨rfl,rfl,rfl,rfl⟩:=hl;have Ip:l2.length+rows.length<=ah:=hq _ a2O;obtain⟨mb,g1,g2⟩:=hr.at_ b _ hb;have QC:∀{c:Nat},FC m b c∨c∉bg m->c<ts.heap.length->IR m ts.heap ⟨⟨false,.h b::yE X x,[.h b]⟩,false,false,true⟩ (fJ (.h c::cZ tx)):=fun{c} hc aT=>IR.reads rfl (fun d hd=>by
          rcases a2d.1 hd with e0|e0
          .cases e0;rcases hc with hc|hc
           .exact⟨.inl ⟨b,a2O,hc⟩,aT⟩
           .exact⟨.inr hc,aT⟩
          .obtain⟨h0,h9⟩:=tY hr hx hz hs e0;rcases h0 with⟨i,h1,h2⟩|h1
           .exact⟨.inl ⟨i,a2P _ h1,h2⟩,h9⟩
           .exact⟨.inr h1,h9⟩) fun j hj=>by
            rcases a2d.1 hj with e0|e0
            .cases e0
            .exact lu e0
         have kN:IR m ts.heap ⟨⟨false,.h b::yE X x,[.h b]⟩,false,false,true⟩ (fJ (cZ tx)):=IR.reads rfl (fun d hd=>by
          obtain⟨h0,h9⟩:=tY hr hx hz hs hd;rcases h0 with⟨i,h1,h2⟩|h1
          .exact⟨.inl ⟨i,a2P _ h1,h2⟩,h9⟩
          .exact⟨.inr h1,h9⟩) fun j hj=>lu hj
         cases mb with
         |dB z=>
          cases hd with
          |gone hi e' _=>simp only[bn,a00]at hi;subst hi;rw[g1]at e';cases e'
          |own e' o=>
           rw[g1]at e';cases e';have hlr:LR X P (AA A m) m ts.heap k ex t' l2 td:=g2;have TM:dW X P (FA A m (b::is)) (cu (b::is) m) ts.heap t' rows new 0 size:=(s3.mono fun c hc=>FA.mono (fun i hi=>a2P _ hi) hc).jk hX;cases hlr with
           |nil=>
            simp only[a9x];by_cases hn:rows=[]
            .subst hn;obtain⟨m1,f1,f2,f3,f4⟩:=Oe hr (b::is) (k:=k&&ex) (ex:=false) (e:=t');exact⟨_,ts.heap,_,m1,by unfold jc;simp only[uN,Gf,hint,a3g,yA,s1,a4Q,a1U,a2i],f1,f4,f2,f3,kN,fun c hc=>by simp[fJ]at hc⟩
            .obtain⟨m1,f1,f2,f3,f4⟩:=lq hr (b::is) (k:=k&&ex) (ex:=false) (x:=false) TM s2 hn hz h0 (by simp);refine⟨_,ts.heap++[.cells .own new],_,m1,?_,f1,f4,f2,f3,kN,fun c hc=>by simp[fJ]at hc⟩;unfold jc;simp only[uN,Gf,hint,a3g,yA,s1,a2i,hrn,hn,s2,a1U,jO EX (show rows.length<=ah by omega)]
           |emp p0 p1 p2 p3 p4=>
            rename_i c off sz cs;rw[hz]at p3;cases p3;simp only[a9x];by_cases hn:rows=[]
            .subst hn;obtain⟨m1,f1,f2,f3,f4⟩:=push_empty hr (b::is) (k:=k&&ex) (ex:=false) hz h0 (.inl p0) p1 p2;exact⟨_,ts.heap,_,m1,by unfold jc;simp only[uN,Gf,hint,a3g,yA,s1,a4Q,a1U,a2i],f1,f4,f2,f3,kN,fun c hc=>by simp[fJ]at hc⟩
            .obtain⟨m1,f1,f2,f3,f4⟩:=lq hr (b::is) (k:=k&&ex) (ex:=false) (x:=false) TM s2 hn hz h0 (by simp);refine⟨_,ts.heap++[.cells .own new],_,m1,?_,f1,f4,f2,f3,QC (c:=c) (.inr p0.2) (fM p1),fun c hc=>by simp[fJ]at hc⟩;have oV:dV size ts.heap (.aP c off 0 0 size true)=some (0,[]):=(by simp[dV]);unfold jc;simp only[uN,Gf,hint,a3g,yA,s1,a2i,hrn,hn,s2,a1U,a3T,Nat.le_zero_eq,jO EX (show rows.length<=ah by omega),oV,a0j,a9x]
           |some p1 p2 p3 p4 p5 p6 p7 p8 p9=>
            rename_i c sz xx kk cs;rw[hz]at p2;cases p2;have uy:(MB.dB (TV.aP c 0 l2.length l2.length size xx)).own=some c:=by simp only[MB.own];rw[a0c (by simpa using p1)]
            by_cases hn:rows=[]
            .subst hn;simp only[a6L];obtain⟨m1,f0,f1,f2,f3,f4⟩:=Og (pb:=.list (k&&ex) false t' l2) hr is g1 uy uy rfl (fun _ _=>rfl) (fun cs hc=>⟨cs,hc,a0U _⟩) (fun hF hU=>LR.some p1 hz p3 p4 p5 (fun hk=>p6 (by simp at hk;exact hk.1)) (by simp) p8 (p9.step hF hU));exact⟨_,ts.heap,_,m1,by unfold jc;simp only[uN,Gf,hint,a3g,yA,s1,a4Q,a1U,a2i],f1,.own f4 rfl,f2,f3,kN,fun c hc=>by simp[fJ]at hc⟩
            .have hle:¬l2.length+rows.length<=l2.length:=by have:rows.length≠0:=fun e0=>hn (hrn.1 e0);omega
             have iq:l2++rows≠[]:=(by simp[p1]);cases xx with
             |true=>
              have hold:dV size ts.heap (.aP c 0 l2.length l2.length size true)=some (l2.length,cs):=by simp only[dV,a1U];rw[a0c (fun e0=>p1 (a4F.1 e0)),wz p4 (by omega)];simp only[sub];rw[a0g (by omega),aag,a8O (by omega)];rfl
              have hw1:dW X P (FA A m (b::is)) (cu (b::is) m) ts.heap t' l2 cs 0 size:=(p9.mono fun c hc=>.inl hc).jk hX;obtain⟨m1,f1,f2,f3,f4⟩:=lq hr (b::is) (k:=k&&ex) (ex:=false) (x:=false) (hw1.app TM p8) (by rw[a1I,a1I,a3m,p8,s2]) iq hz h0 (by simp);refine⟨_,ts.heap++[.cells .own (cs++new)],_,m1,?_,f1,f4,f2,f3,QC (c:=c) (.inl (iI g1 uy)) (a01.1 p4).1,fun c hc=>by simp[fJ]at hc⟩;unfold jc;simp only[uN,Gf,hint,a3g,yA,s1,a2i,hrn,hn,s2,a1U,hle,jO EX Ip,hold,a0j,a1I]
             |false=>
              have hex:ex=false:=by cases ex with
               |true=>exact absurd (p7 rfl) (by simp)
               |false=>rfl
              subst hex;have aT:=(a01.1 p4).1;obtain⟨m1,f0,f1,f2,f3,f4⟩:=Og (pb:=.list (k&&false) false t' (l2++rows)) (h1:=ts.heap.set c (.cells kk.more (cs++new))) (LM:=.dB (.aP c 0 (l2.length+rows.length) (l2.length+rows.length) size false)) hr is g1 uy
               (by simp only[MB.own];rw[a0c (by omega)]) (by simp) (fun d hd=>a1l (Ne.symm hd)) (fun WC JR=>⟨cs++new,by simp[aX,aT],by
                simp only[aX,p4,a00]at JR;subst JR;simp⟩) (fun hF hU=>by
                have Qg:=iE (h:=ts.heap) (b::is) m;have Q9:∀q cs',FA A m is q->aX ts.heap q=some cs'->AA A (cu (b::is) m++[.dB (.aP c 0 (l2.length+rows.length) (l2.length+rows.length) size false)]) q∧(ts.heap.set c (.cells kk.more (cs++new)))[q]? = ts.heap[q]?:=fun q cs' hq hc=>by
                 have Yp:q≠c:=fun e0=>by
                  subst e0;rcases hq with hq|⟨i,mb,e1,e2,e3⟩
                  .exact hq.2 (aZ g1 uy)
                  .have:=iV hr.nodup g1 e2 uy e3;subst this;exact hnb (by simpa using e1)
                 have hg:=FA.gone hr (FA.mono (js:=b::is) (fun i hi=>a2P _ hi) hq);refine⟨⟨hg.1,fun hm=>?_⟩,a1l (Ne.symm Yp)⟩;rw[iY,a3k,jY]at hm;rcases hm with hm|hm
                 .exact hg.2 hm
                 .simp only[MB.own]at hm;rw[a0c (by omega)]at hm;simp at hm;exact Yp hm
                have:=LR.some (X:=X) (P:=P) (A:=AA A (cu (b::is) m++[.dB (.aP c 0 (l2.length+rows.length) (l2.length+rows.length) size false)])) (m:=cu (b::is) m++[.dB (.aP c 0 (l2.length+rows.length) (l2.length+rows.length) size false)]) (h:=ts.heap.set c (.cells kk.more (cs++new))) (k:=k&&false) (ex:=false) (t:=t') (l:=l2++rows) (b:=c) (sz:=size) (e:=false) (kk:=kk.more) (cs:=cs++new)
                 iq hz h0 (by simp[aT]) (by cases kk<;>simp[BK.more]) (by simp) (by simp) (by rw[a1I,a1I,a3m,p8,s2]) ((p9.step hF hU).app (s3.move hX Q9) p8)
                rw[a1I]at this;exact this)
              refine⟨_,ts.heap.set c (.cells kk.more (cs++new)),⟨false,.h c::cZ tx,[.h c]⟩,m1,?_,f1,.own f4 rfl,f2,f3,⟨fun h=>(by cases h),fun j hj=>?_,fun j hj=>(by simp at hj),fun d hd=>?_,fun d hd=>?_,fun h=>(by cases h)⟩,fun d hd=>?_⟩
              .unfold jc;simp only[uN,Gf,hint,a3g,yA,s1,a2i,hrn,hn,s2,a1U,hle,jO EX Ip,p4,ne_eq,not_true_eq_false,p5,p8,a4F,p1,or_self]
              .rcases a2d.1 hj with e0|e0
               .cases e0
               .exact absurd e0 lu
              .simp at hd;subst hd;exact .inl ⟨b,by simp,iI g1 uy⟩
              .rcases a2d.1 hd with e0|e0
               .cases e0;exact⟨.inl ⟨b,a2O,iI g1 uy⟩,aT⟩
               .obtain⟨h0,h9⟩:=tY hr hx hz hs e0;rcases h0 with⟨i,h1,h2⟩|h1
                .exact⟨.inl ⟨i,a2P _ h1,h2⟩,h9⟩
                .exact⟨.inr h1,h9⟩
              .simp at hd;subst hd;exact aZ g1 uy
         |_=>exact g2.elim
        .cases hl
       .cases hl
      .-- a full frozen list
       rename_i t' l;split at hl
       .rename_i l2 GV;obtain⟨rfl,rfl⟩:=qQ GV;simp only[a00,a0i]at hl;obtain⟨rfl,rfl,rfl,rfl⟩:=hl;have Ip:l2.length+rows.length<=ah:=hq _ a2O;have G5:l2=[]∨rows≠[]:=hq _ (a2P _ a2O);cases hd with
        |gone hi _ _=>simp[bn]at hi
        |oW=>
         simp only[a9x];by_cases hn:rows=[]
         .subst hn;obtain⟨m1,f1,f2,f3,f4⟩:=Oe hr is (k:=true) (ex:=false) (e:=t');exact⟨_,ts.heap,_,m1,by unfold jc;simp only[uN,Gf,hint,a3g,yA,s1,a4Q,a1U,a2i],f1,f4,f2,f3,hk0,fun c hc=>by simp[fJ]at hc⟩
         .obtain⟨m1,f1,f2,f3,f4⟩:=lq hr is (k:=true) (ex:=false) (x:=false) s3 s2 hn hz h0 (by simp);refine⟨_,ts.heap++[.cells .own new],_,m1,?_,f1,f4,f2,f3,hk0,fun c hc=>by simp[fJ]at hc⟩;unfold jc;simp only[uN,Gf,hint,a3g,yA,s1,a2i,hrn,hn,s2,a1U,jO EX (show rows.length<=ah by omega)]
        |dB p1 p2 p2' p3 p4 p5 p6 p7 p8 p9=>
         rename_i c off cap sz xx cs;rw[hz]at p3;cases p3;obtain⟨rfl,rfl⟩:=p7 rfl;have hk3:IR m ts.heap ⟨fJ (yE X x),false,false,true⟩ (fJ (.h c::cZ tx)):=IR.reads rfl (fun d hd=>by
          rcases a2d.1 hd with e0|e0
          .cases e0;exact⟨.inr p1.2,fM p2⟩
          .exact tY hr hx hz hs e0) fun j hj=>by
           rcases a2d.1 hj with e0|e0
           .cases e0
           .exact lu e0
         by_cases hn:rows=[]
         .have qB:l2=[]:=by rcases G5 with h1|h1;exact h1;exact absurd hn h1
          subst hn;subst qB;obtain⟨m1,f1,f2,f3,f4⟩:=push_empty hr is (k:=true) (ex:=false) hz h0 (.inl p1) p2 (by simpa using p5);exact⟨_,ts.heap,_,m1,by unfold jc;simp only[uN,Gf,hint,a3g,yA,s1,a4Q,a1U,a2i],f1,f4,f2,f3,hk0,fun c hc=>by simp[fJ]at hc⟩
         .have hle:¬l2.length+rows.length<=l2.length:=by have:rows.length≠0:=fun e0=>hn (hrn.1 e0);omega
          have hw1:dW X P (FA A m is) (cu is m) ts.heap t' l2 ((cs.drop off).take (l2.length*size)) 0 size:=by have hh:dW X P (AA A m) m ts.heap t' l2 cs off size:=⟨p8,p5,p9⟩;exact(hh.take.mono fun c hc=>.inl hc).jk hX
          have hlen:((cs.drop off).take (l2.length*size)).length=l2.length*size:=by rw[a3E,a3X];omega
          obtain⟨m1,f1,f2,f3,f4⟩:=lq hr is (k:=true) (ex:=false) (x:=false) (hw1.app s3 hlen) (by rw[a1I,a1I,a3m,hlen,s2]) (by simp[hn]) hz h0 (by simp);refine⟨_,ts.heap++[.cells .own ((cs.drop off).take (l2.length*size)++new)],_,m1,?_,f1,f4,f2,f3,hk3,fun c hc=>by simp[fJ]at hc⟩;have oV:dV size ts.heap (.aP c off l2.length l2.length size true)=some (l2.length,(cs.drop off).take (l2.length*size)):=by
           simp only[dV,a1U,sub];by_cases qB:l2.length=0
           .rw[a0g qB,qB,abT,List.take_zero]
           .rw[a0c qB,p2' (fun e0=>qB (by rw[e0];rfl))];simp only;rw[a0g p5];rfl
          unfold jc;simp only[uN,Gf,hint,a3g,yA,s1,a2i,hrn,hn,s2,a1U,hle,jO EX Ip,oV,a0j,a1I]
       .cases hl
      .-- a clipped own list
       rename_i b;split at hl
       .rename_i k ex t' l hb;split at hl
        .rename_i l2 GV;obtain⟨rfl,rfl⟩:=qQ GV;simp only[a00,a0i]at hl;obtain⟨rfl,rfl,rfl,rfl⟩:=hl;have Ip:l2.length+rows.length<=ah:=hq _ a2O;have hn:rows≠[]:=hq _ (a2P _ a2O);obtain⟨mb,g1,g2⟩:=hr.at_ b _ hb;have kN:∀d,.h d∈cZ tx->((∃i,.h i∈(⟨fJ (.h b::yE X x),false,false,true⟩:PI).i.ts∧FC m i d)∨d∉bg m)∧d<ts.heap.length:=fun d hd=>by
          obtain⟨h0,h9⟩:=tY hr hx hz hs hd;rcases h0 with⟨i,h1,h2⟩|h1
          .exact⟨.inl ⟨i,a2P _ h1,h2⟩,h9⟩
          .exact⟨.inr h1,h9⟩
         have hk3:IR m ts.heap ⟨fJ (.h b::yE X x),false,false,true⟩ (fJ (cZ tx)):=IR.reads rfl kN fun j hj=>lu hj;have QC:∀{c:Nat},FC m b c∨c∉bg m->c<ts.heap.length->IR m ts.heap ⟨fJ (.h b::yE X x),false,false,true⟩ (fJ (.h c::cZ tx)):=fun{c} hc aT=>IR.reads rfl (fun d hd=>by
          rcases a2d.1 hd with e0|e0
          .cases e0;rcases hc with hc|hc
           .exact⟨.inl ⟨b,a2O,hc⟩,aT⟩
           .exact⟨.inr hc,aT⟩
          .exact kN d e0) fun j hj=>by
           rcases a2d.1 hj with e0|e0
           .cases e0
           .exact lu e0
         cases mb with
         |dB z=>
          have hlr:LR X P (AA A m) m ts.heap k ex t' l2 z:=g2;cases hd with
          |gone hi e' _=>simp only[bn,a00]at hi;subst hi;rw[g1]at e';cases e'
          |IY e'=>
           rw[g1]at e';cases e';cases hlr with
           |nil=>
            simp only[a9x];obtain⟨m1,f1,f2,f3,f4⟩:=lq hr is (k:=true) (ex:=false) (x:=false) s3 s2 hn hz h0 (by simp);refine⟨_,ts.heap++[.cells .own new],_,m1,?_,f1,f4,f2,f3,hk3,fun c hc=>by simp[fJ]at hc⟩;unfold jc;simp only[uN,Gf,hint,a3g,yA,s1,a2i,hrn,hn,s2,a1U,jO EX (show rows.length<=ah by omega)]
          |FU e'=>
           rw[g1]at e';cases e';cases hlr with
           |emp p0 p1 p2 p3 p4=>
            rename_i c off sz cs;rw[hz]at p3;cases p3;simp only[a9x];obtain⟨m1,f1,f2,f3,f4⟩:=lq hr is (k:=true) (ex:=false) (x:=false) s3 s2 hn hz h0 (by simp);refine⟨_,ts.heap++[.cells .own new],_,m1,?_,f1,f4,f2,f3,QC (c:=c) (.inr p0.2) (fM p1),fun c hc=>by simp[fJ]at hc⟩;have oV:dV size ts.heap (.aP c off 0 0 size true)=some (0,[]):=(by simp[dV]);unfold jc;simp only[uN,Gf,hint,a3g,yA,s1,a2i,hrn,hn,s2,a1U,a3T,Nat.le_zero_eq,jO EX (show rows.length<=ah by omega),oV,a0j,a9x]
           |some p1 p2 p3 p4 p5 p6 p7 p8 p9=>
            rename_i c sz xx kk cs;rw[hz]at p2;cases p2;have uy:(MB.dB (TV.aP c 0 l2.length l2.length size xx)).own=some c:=by simp only[MB.own];rw[a0c (by simpa using p1)]
            have hle:¬l2.length+rows.length<=l2.length:=by have:rows.length≠0:=fun e0=>hn (hrn.1 e0);omega
            have iq:l2++rows≠[]:=(by simp[p1]);have hold:dV size ts.heap (.aP c 0 l2.length l2.length size true)=some (l2.length,cs):=by simp only[dV,a1U];rw[a0c (fun e0=>p1 (a4F.1 e0)),wz p4 (by omega)];simp only[sub];rw[a0g (by omega),aag,a8O (by omega)];rfl
            have hw1:dW X P (FA A m is) (cu is m) ts.heap t' l2 cs 0 size:=(p9.mono fun c hc=>.inl hc).jk hX;obtain⟨m1,f1,f2,f3,f4⟩:=lq hr is (k:=true) (ex:=false) (x:=false) (hw1.app s3 p8) (by rw[a1I,a1I,a3m,p8,s2]) iq hz h0 (by simp);refine⟨_,ts.heap++[.cells .own (cs++new)],_,m1,?_,f1,f4,f2,f3,QC (c:=c) (.inl (iI g1 uy)) (a01.1 p4).1,fun c hc=>by simp[fJ]at hc⟩;unfold jc;simp only[uN,Gf,hint,a3g,yA,s1,a2i,hrn,hn,s2,a1U,hle,jO EX Ip,hold,a0j,a1I]
         |_=>exact g2.elim
        .cases hl
       .cases hl
      .cases hl
     .cases hl
    .cases hl
   .cases hl
 .cases hl
end
open Go Tw
theorem WH{α:Type}{l rows:List α}{o k:Nat}(h:o+k<=l.length)(hk:k<=rows.length):(O5 l o k rows).length=l.length:=by unfold O5;simp;omega
theorem a2K{α:Type}{l rows:List α}{o:Nat}:O5 l o 0 rows=l:=by unfold O5;simp
section
variable {X:kJ} {P:LI1} {A F:Nat->Prop} {m m':List MB} {h h':List HB} {H H':List (PB X.Γ)}
theorem dW.put{t sz o k:Nat}{l rows:List (X.Γ t)}{cs new:List TV}(h1:dW X P F m h t l cs 0 sz)(h2:dW X P F m h t rows new 0 sz)(hc:cs.length=l.length*sz)(hn:new.length=rows.length*sz)(ho:o+k<=l.length)(hk:k<=rows.length) :
  dW X P F m h t (O5 l o k rows) (cs.take (o*sz)++new.take (k*sz)++cs.drop (o*sz+k*sz)) 0 sz:=by
 have a1:=(h1.part (o:=0) (n:=o) (by omega)).take;have a2:=(h2.part (o:=0) (n:=k) (by omega)).take;have a3:=(h1.part (o:=o+k) (n:=l.length-(o+k)) (by omega)).take;have l1:((l.drop 0).take o).length=o:=by simp;omega
 have l2:((rows.drop 0).take k).length=k:=by simp;omega
 have l3:((l.drop (o+k)).take (l.length-(o+k))).length=l.length-(o+k):=by simp
 rw[l1]at a1;rw[l2]at a2;rw[l3]at a3;simp only[abT,adz,a3T,aag]at a1 a2 a3;have m1:o*sz<=cs.length:=by rw[hc];exact a3l _ (by omega)
 have m2:k*sz<=new.length:=by rw[hn];exact a3l _ hk
 have r:=(a1.app a2 (by rw[a3E,a3E];rw[a7F m1,a7F (by omega)])).app a3 (by simp only[a1I,a3E];rw[a7F m1,a7F m2,a7F (by omega),a7F hk,a3m])
 have e1:l.drop (o+k)=(l.drop (o+k)).take (l.length-(o+k)):=by rw[a8O (by simp)]
 have e2:cs.drop (o*sz+k*sz)=(cs.drop ((o+k)*sz)).take ((l.length-(o+k))*sz):=by rw[a3m,a8O];rw[a3X,hc,Nat.sub_mul,a3m];omega
 unfold O5;rw[e1,e2];exact r
theorem DR(hX:bP X P){ps:aS X.Γ}{ts:St}(hR:uQ X P A m ps ts){at_:Array LI2}{st e size b o n:Nat}{k0 ex:Bool}{l rows:List (X.Γ e)}{x:PV X.Γ}{td tx:TV}(uN:at_[0]? = some st)(yA:jE P st=some (e,size))(hx:VR X P (AA A m) m ts.heap x tx)
  (hs:Aa X ps.heap e size x=some (rows,[])) (hb:ps.heap[b]? = some (.list k0 ex e l)) {mb:MB} (g1:m[b]? = some mb) (g2:BR X P (AA A m) m ts.heap (.list k0 ex e l) mb)
  (htd:(∃c sz' xx' xx cap,mb=.dB (.aP c 0 l.length l.length sz' xx')∧l≠[]∧td=.aP c (o*sz') n cap sz' xx∧(n=0∨o+cap=l.length))∨(n=0∧(td=.nil .aP∨∃c f cap xx,td=.aP c f 0 cap size xx))) (hon:o+n<=l.length) (Nw:isStr tx=false) :
  WG X P A m ts (FY P at_ ts td tx) (.int .i64 ((min rows.length n:Nat):Int)) (ps.heap.set b (.list k0 ex e (O5 l o (min rows.length n) rows))) ⟨⟨false,.h b::yE X x,[.h b]⟩,false,false,true⟩:=by
 have hr:=hR.heap;obtain⟨hz,h0⟩:=nR yA;obtain⟨new,s1,s2,s3⟩:=Ul (m':=m) hX hr hx hz hs;have TM:dW X P (AA A m) m ts.heap e rows new 0 size:=s3.mono fun q hq=>by
  rcases hq with hq|⟨i,_,hi,_⟩
  .exact hq
  .simp at hi
 have kN:IR m ts.heap ⟨⟨false,.h b::yE X x,[.h b]⟩,false,false,true⟩ (fJ (cZ tx)):=IR.reads rfl (fun d hd=>by
  obtain⟨h0,h9⟩:=tY hr hx hz hs hd;rcases h0 with⟨i,h1,h2⟩|h1
  .exact⟨.inl ⟨i,a2P _ h1,h2⟩,h9⟩
  .exact⟨.inr h1,h9⟩) fun j hj=>lu hj
 have same:ps.heap.set b (.list k0 ex e l)=ps.heap:=by
  apply a9r;intro i;by_cases e:b=i
  .subst e;rw[a2c (a01.1 hb).1,hb]
  .rw[a1l e]
 by_cases hk:min rows.length n=0
 .rw[hk,a2K,same];refine⟨.int .i64 0,ts.heap,fJ (cZ tx),m,?_,hr,.int _ _,.refl,.refl,kN,fun c hc=>by simp[fJ]at hc⟩;unfold FY;simp only[uN,yA,s1,s2,Nw,acP,a1U];rcases htd with⟨c,sz',xx',xx,cap,rfl,iq,rfl,vW⟩|⟨rfl,rfl|⟨c,f,cap,xx,rfl⟩⟩
  .have:sz'=size:=by cases g2 with|some _ q2 _ _ _ _ _ _ _=>rw[hz]at q2;cases q2;rfl|emp=>exact absurd rfl iq
   simp only[this,a1U,hk]
  .rfl
  .simp only[a1U,hk]
 .rcases htd with⟨c,sz',xx',xx,cap,rfl,iq,rfl,vW⟩|⟨rfl,_⟩
  .cases g2 with
   |emp=>exact absurd rfl iq
   |some p1 p2 p3 p4 p5 p6 p7 p8 p9=>
    rename_i kk cs;rw[hz]at p2;cases p2;obtain⟨Bc,xJ,aea,hko⟩:=IZ p5;have aib:o*size+cap*size=cs.length:=by have:=vW.resolve_left (by omega);rw[p8,<-this,a3m]
    have aT:=(a01.1 p4).1;have uy:(MB.dB (TV.aP c 0 l.length l.length size xx')).own=some c:=by simp only[MB.own];rw[a0c (by simpa using p1)]
    have hkn:o+min rows.length n<=l.length:=(by omega);have hkr:min rows.length n<=rows.length:=Nat.min_le_left _ _;have m1:o*size+min rows.length n*size<=cs.length:=by rw[p8,<-a3m];exact a3l _ hkn
    have m2:min rows.length n*size<=new.length:=by rw[s2];exact a3l _ hkr
    have m3:min (min rows.length n*size) (rows.length*size)=min rows.length n*size:=a7F (by rw[<-s2];exact m2);have anL:=dW.put p9 TM p8 s2 hkn hkr;have pF:(cs.take (o*size)++new.take (min rows.length n*size)++cs.drop (o*size+min rows.length n*size)).length=cs.length:=by simp;omega
    have hl:=WH (rows:=rows) hkn hkr;obtain⟨q1,q2⟩:=hr.set (i:=b) (c:=c) (pb:=.list k0 ex e (O5 l o (min rows.length n) rows)) (hb:=.cells Bc (cs.take (o*size)++new.take (min rows.length n*size)++cs.drop (o*size+min rows.length n*size))) g1 uy
     (fun WC JR=>⟨_,by simp only[aX];rw[a2c aT],by
      simp only[aX,p4,a00]at JR;subst JR;rw[pF];exact a0U _⟩)
     (fun hF=>by
      have ahj:O5 l o (min rows.length n) rows≠[]:=fun e0=>by rw[e0]at hl;simp at hl;exact p1 (a4F.1 hl.symm)
      have r:=LR.some (k:=k0) (ex:=ex) (e:=xx') ahj hz p3 (by rw[a2c aT]) aea (fun e0=>hko (p6 e0)) p7 (by rw[pF,hl,p8]) (anL.step hF .refl);rw[hl]at r;exact r)
    refine⟨.int .i64 ((min rows.length n:Nat):Int),_,⟨false,.h c::cZ tx,[.h c]⟩,m,?_,q1,.int _ _,q2,.refl,?_,fun d hd=>?_⟩
    .unfold FY;simp only[uN,yA,s1,s2,Nw,acP,a1U,hk,a3g,a0L p4 xJ aib,vO,a3E,m3,m1,a0j]
    .refine⟨fun h=>(by cases h),fun k hk=>?_,fun k hk=>(by simp at hk),fun d hd=>?_,fun d hd=>?_,fun h=>(by cases h)⟩
     .rcases a2d.1 hk with e0|e0
      .cases e0
      .exact absurd e0 lu
     .simp at hd;subst hd;exact .inl ⟨b,a2O,iI g1 uy⟩
     .rcases a2d.1 hd with e0|e0
      .cases e0;exact⟨.inl ⟨b,a2O,iI g1 uy⟩,aT⟩
      .obtain⟨h0,h9⟩:=tY hr hx hz hs e0;rcases h0 with⟨i,h1,h2⟩|h1
       .exact⟨.inl ⟨i,a2P _ h1,h2⟩,h9⟩
       .exact⟨.inr h1,h9⟩
    .simp at hd;subst hd;exact aZ g1 uy
  .simp at hk
theorem a5N(hr:HR X P A m H h){e sz:Nat}{x:PV X.Γ}{tx:TV}(hv:VR X P (AA A m) m h x tx){rows:List (X.Γ e)}{is:List Nat}(hs:Aa X H e sz x=some (rows,is)):isStr tx=false:=by
 cases hv with
 |own e' _=>
  unfold Aa at hs;simp only at hs;split at hs
  .rename_i hb;obtain⟨mb,g1,g2⟩:=hr.at_ _ _ hb;rw[e']at g1;cases g1;cases g2<;>rfl
  cases hs
 |gone hi e' _=>
  cases x<;>simp only[bn,a00]at hi<;>first|cases hi|skip
  all_goals (unfold Aa at hs;simp only at hs)
  all_goals first|(cases hs;done)|skip
  all_goals
   split at hs
   .rename_i hb;obtain⟨mb,g1,g2⟩:=hr.at_ _ _ hb;rw[g1]at e';cases e'<;>exact g2.elim
   .cases hs
 |str=>simp[Aa]at hs
 |_=>rfl
theorem dW.vrs{t sz:Nat}:∀{l:List (X.Γ t)} {cs:List TV},dW X P F m h t l cs 0 sz->cs.length=l.length*sz->bU X P F m h (Ei X t l) cs
 | [],cs,_,hl=>by have:cs=[]:=a4F.1 (by simpa using hl);subst this;exact .nil
 |a::r,cs,hw,hl=>by
  have h1:=hw.row (j:=0) (a:=a) rfl;have h2:=(hw.part (o:=1) (n:=r.length) (by simp;omega)).take;have e1:((a::r).drop 1).take r.length=r:=by simp
  rw[e1]at h2;have hl':cs.length=r.length*sz+sz:=by rw[hl,a4b,a3m,adw]
  have e2:(cs.drop (0+1*sz)).take (r.length*sz)=cs.drop sz:=by rw[a3T,adw,a8O];rw[a3X];omega
  rw[e2]at h2;have h3:=dW.vrs h2 (by rw[a3X];omega);have h4:bU X P F m h (X.enc t a) (cs.take sz):=by have:=h1.1;simpa using this
  have:=h4.app h3;rw[List.take_append_drop]at this;exact this
theorem TN(hX:bP X P){ps:aS X.Γ}{ts:St}(hR:uQ X P A m ps ts){at_:Array LI2}{d x:PV X.Γ}{td tx:TV}(hd:VR X P (AA A m) m ts.heap d td)(hx:VR X P (AA A m) m ts.heap x tx){v:PV X.Γ}{H1:List (PB X.Γ)}{pi:lN}
  (hl:a5t X P at_ ps.heap d x=some (v,H1,pi)):WG X P A m ts (FY P at_ ts td tx) v H1 ⟨pi,false,false,true⟩:=by
 have hr:=hR.heap;unfold a5t at hl;split at hl
 .rename_i st uN;split at hl
  .rename_i e size yA;obtain⟨hz,h0⟩:=nR yA;split at hl
   .rename_i rows hs;obtain⟨new,s1,s2,s3⟩:=Ul (m':=m) hX hr hx hz hs;have Nw:isStr tx=false:=a5N hr hx hs;split at hl
    .simp only[a00,a0i]at hl;obtain⟨rfl,rfl,rfl⟩:=hl;have:td=.nil .aP:=by
      cases hd with
      |nil=>rfl
      |gone hi _ _=>simp[bn]at hi
     subst this;exact⟨_,ts.heap,_,m,by unfold FY;simp only[uN,yA,s1,s2,Nw,acP,a1U],hr,.int _ _,.refl,.refl,IR.reads rfl (fun b hb=>tY hr hx hz hs hb) fun k=>lu,fun b hb=>by simp[fJ]at hb⟩
    .rename_i b;split at hl
     .rename_i k0 ex t' l hb;split at hl
      .rename_i l2 GV;obtain⟨rfl,rfl⟩:=qQ GV;simp only[a00,a0i]at hl;obtain⟨rfl,rfl,rfl⟩:=hl;obtain⟨mb,g1,g2⟩:=hr.at_ b _ hb;refine DR (o:=0) (n:=l2.length) hX hR uN yA hx hs hb g1 g2 ?_ (by omega) Nw;cases hd with
       |gone hi e' _=>simp only[bn,a00]at hi;subst hi;rw[g1]at e';cases e'<;>exact g2.elim
       |own e' o=>
        rw[g1]at e';cases e';cases g2 with
        |nil=>exact .inr ⟨rfl,.inl rfl⟩
        |emp q1 q2 q3 q4 q5=>rw[hz]at q4;cases q4;exact .inr ⟨rfl,.inr ⟨_,_,_,_,rfl⟩⟩
        |some q1 q2=>rw[hz]at q2;cases q2;exact .inl ⟨_,_,_,_,_,rfl,q1,by rw[abT],.inr (a3T _)⟩
      .cases hl
     .cases hl
    .rename_i b o n;split at hl
     .rename_i k0 ex t' l hb;split at hl
      .rename_i l2 GV;obtain⟨rfl,rfl⟩:=qQ GV;simp only[a00,a0i]at hl;obtain⟨rfl,rfl,rfl⟩:=hl;obtain⟨mb,g1,g2⟩:=hr.at_ b _ hb;cases hd with
       |gone hi e' _=>simp only[bn,a00]at hi;subst hi;rw[g1]at e';cases e'<;>exact g2.elim
       |win e' o1 o2 o3=>
        rw[g1]at e';cases e';cases g2 with
        |emp q1 q2 q3 q4 q5=>
         rw[hz]at q4;cases q4;have:n=0:=(by omega);subst this;exact DR hX hR uN yA hx hs hb g1 (LR.emp q1 q2 q3 hz q5) (.inr ⟨rfl,.inr ⟨_,_,_,_,rfl⟩⟩) o1 Nw
        |some q1 q2 q3 q4 q5 q6 q7 q8 q9=>exact DR hX hR uN yA hx hs hb g1 (LR.some q1 q2 q3 q4 q5 q6 q7 q8 q9) (.inl ⟨_,_,_,_,_,rfl,q1,by rw[a3T],o3⟩) o1 Nw
       |BF e'=>
        rw[g1]at e';cases e';exact DR hX hR uN yA hx hs hb g1 g2 (.inr ⟨rfl,.inl rfl⟩) (by omega) Nw
      .cases hl
     .cases hl
    .rename_i b off len cap sz xx;split at hl
     .rename_i cs hb;split at hl
      .rename_i hc;obtain⟨hc1,JR⟩:=hc;subst hc1;simp only[a05,a0i]at hl;obtain⟨RG,h1,rfl,rfl,rfl⟩:=hl;obtain⟨mb,g1,g2⟩:=hr.at_ b _ hb;cases mb with
       |fV c=>
        obtain⟨cs',g3,g4⟩:=g2;cases hd with
        |gone hi e _=>simp only[bn,a00]at hi;subst hi;rw[g1]at e;cases e
        |aP e=>
         rw[g1]at e;cases e;have TM:dW X P (AA A m) m ts.heap _ rows new 0 sz:=s3.mono fun q hq=>by
          rcases hq with hq|⟨i,_,hi,_⟩
          .exact hq
          .simp at hi
         have hv:=(TM.vrs s2).take (min rows.length len*sz);obtain⟨J4,g5,g6⟩:=GK g4 hv h1;have hlen:J4.length=cs'.length:=by
          unfold vO at g5;split at g5
          .cases g5;simp only[a1I,a3E,a3X]at *;omega
          .cases g5
         have aT:=(a01.1 g3).1;obtain⟨hr1,hF⟩:=hr.set (pb:=.cells RG) (hb:=.cells .own J4) g1 (c:=c) rfl (fun WC WE=>⟨J4,by simp[aX,aT],by
          simp only[aX,g3,a00]at WE;subst WE;omega⟩) fun hF=>⟨J4,by simp[aT],g6.step hF .refl⟩
         refine⟨.int .i64 ((min rows.length len:Nat):Int),_,⟨false,.h c::cZ tx,[.h c]⟩,m,?_,hr1,.int _ _,hF,.refl,?_,fun d hd=>?_⟩
         .unfold FY;simp only[uN,yA,s1,s2,Nw,acP,a1U];rw[a0c (by omega),Wx g3,g5];rfl
         .refine⟨fun h=>(by cases h),fun k hk=>?_,fun k hk=>(by simp at hk),fun d hd=>?_,fun d hd=>?_,fun h=>(by cases h)⟩
          .rcases a2d.1 hk with e0|e0
           .cases e0
           .exact absurd e0 lu
          .simp at hd;subst hd;exact .inl ⟨b,a2O,iI g1 rfl⟩
          .rcases a2d.1 hd with e0|e0
           .cases e0;exact⟨.inl ⟨b,a2O,iI g1 rfl⟩,aT⟩
           .obtain⟨h0,h9⟩:=tY hr hx hz hs e0;rcases h0 with⟨i,h1,h2⟩|h1
            .exact⟨.inl ⟨i,a2P _ h1,h2⟩,h9⟩
            .exact⟨.inr h1,h9⟩
         .simp at hd;subst hd;exact aZ g1 rfl
       |_=>exact g2.elim
      .cases hl
     .cases hl
    .cases hl
   .cases hl
  .cases hl
 .cases hl
end
open Go Tw
section
variable {X:kJ} {P:LI1} {A F:Nat->Prop} {m m':List MB} {h h':List HB} {H H':List (PB X.Γ)}
theorem VPs.mY{ps:List (Nat×PV X.Γ)}{qs:List (Nat×TV)}(hp:VPs X P A m h ps qs):qs.all (fun p=>p.2.cells.all iT)=ps.all fun p=>p.2.cells.all YU:=by
 induction ps generalizing qs with
 |nil=>
  have:=hp.1;cases qs with
  |nil=>rfl
  |cons=>simp at this
 |cons a ps ih=>
  obtain⟨x,r,rfl,h1,h2⟩:=hp.inv;simp only[abC,DL (GI h1),ih h2]
theorem WI{pl:Nat->Option (Nat×Nat)}:∀{qs:List (Nat×TV)} {xs r:List TV},rW pl xs qs=some r->r.length=xs.length
 | [],xs,r,h=>by simp only[rW,a00]at h;rw[h]
 |(i,v)::qs,xs,r,h=>by
  simp only[rW]at h;split at h
  .split at h
   .split at h
    .rename_i cs' ho;rw[WI h];unfold vO at ho;split at ho
     .cases ho;simp only[a1I,a3E,a3X];omega
     cases ho
    cases h
   cases h
  cases h
theorem o7{z:List TV}:∀n,(times z n).length=n*z.length
 | 0=>by simp[times]
 |n+1=>by simp[times,o7 n,a3m];omega
theorem tX(hX:bP X P){ps:aS X.Γ}{ts:St}(hR:uQ X P A m ps ts){t:LI2}{len:Nat}{vs:List (Nat×PV X.Γ)}{xs:List (Nat×TV)}(hv:VPs X P (AA A m) m ts.heap vs xs){v:PV X.Γ}{H1:List (PB X.Γ)}
  {raw:Bool} (hl:xR X P t len ps.heap vs raw=some (v,H1)):WG X P A m ts ((qo P t len ts xs).map fun(v,s)=>(v,s,bY)) v H1 xq:=by
 have hr:=hR.heap;unfold xR at hl;split at hl
 .rename_i e n yA;obtain⟨hz,h0⟩:=nR yA;split at hl
  .rename_i hc;split at hl
   .rename_i z hzz;obtain⟨z',q1,q2⟩:=GL (A:=AA A m) (m:=m) (h:=ts.heap) hzz;split at hl
    .rename_i VH;split at hl
     .rename_i cs hf;obtain⟨cs',q3,q4⟩:=LP hv (Wy q2 len) hf;have hlen:cs'.length=len*n:=(by rw[WI q3,o7,<-q2.1,VH]);have hT:∀w h1,(w,h1)=(TV.aP ts.heap.length 0 len len n true,ts.heap++[HB.cells .own cs'])->(qo P t len ts xs).map (fun(v,s)=>(v,s,bY))=some (w,{ ts with heap:=h1 },bY):=by intro w h1 e0;cases e0;simp only[qo,yA,hv.mY,hc,acP,a1U,q1,<-q2.1,VH,q3,a0j]
      split at hl
      .rename_i rows is hd;cases hl;have hd:xQ X ps.heap e n len cs=some (rows,is):=by
        split at hd
        .cases hd
        .exact hd
       obtain⟨e1,hw⟩:=Ag (m':=cu is m) hX hr q4 hd;by_cases hn:rows=[]
       .subst hn;have e2:len=0:=(by simpa using e1.symm);subst e2;have QM:cs'=[]:=a4F.1 (by omega);subst QM;have GX:HR X P A (cu is m++[.dB (.aP ts.heap.length 0 0 0 n true)]) (bf is ps.heap++[.list true true e []]) (ts.heap++[.cells .own []])∧_:=(hr.bf is).push (pb:=.list true true e []) (hb:=.cells .own []) (mb:=.dB (.aP ts.heap.length 0 0 0 n true)) (.inr rfl)
         (LR.emp (b:=ts.heap.length) (cs:=[]) ⟨hr.up _ (a0U _),fun hm=>by rw[iY,a3k,jY]at hm;simp[MB.own]at hm;have:=(hr.bf is).inb hm;omega⟩ (by simp[aX]) (a0U _) hz h0)
        have Qg:=iE (h:=ts.heap) is m;refine⟨_,_,_,_,hT _ _ rfl,GX.1,.own ?_ rfl,Qg.1.trans GX.2.1,Qg.2.trans GX.2.2,.none,fun b hb=>by cases hb⟩;rw[<-hr.len,<-lZ is m];simp
       .have GX:=lq hr is (k:=true) (ex:=true) (x:=true) hw (by rw[hlen,e1]) hn hz h0 (by simp);obtain⟨m1,g1,g2,g3,g4⟩:=GX;refine⟨_,_,_,m1,hT _ _ rfl,g1,?_,g2,g3,.none,fun b hb=>by cases hb⟩;rw[e1]at g4;exact g4
      .cases hl;have hp:=hr.push (pb:=.cells cs) (hb:=.cells .own cs') (mb:=.fV ts.heap.length) (.inl rfl) ⟨cs',by simp,q4.step (by
        refine⟨by simp,fun b hb _=>by rw[a0b hb],fun b hb=>?_,fun b cs hc=>⟨cs,by rw[fP (a0b (fM hc)),hc],a0U _⟩⟩;rw[iY,a3k,jY]at hb;rcases hb with hb|hb
        .exact .inl hb
        .simp[MB.own]at hb;exact .inr (by omega)) (wC _)⟩
       exact⟨_,_,_,_,hT _ _ rfl,hp.1,.aP (by rw[<-hr.len];simp),hp.2.1,hp.2.2,.none,fun b hb=>by cases hb⟩
     .cases hl
    .cases hl
   .cases hl
  .cases hl
 .cases hl
theorem Oh{k:IntKind}{n:Int}{x:TV}(hv:VR X P A m h (.int k n) x):x=.int k n:=by
 cases hv with
 |int=>rfl
 |gone hi _ _=>simp[bn]at hi
theorem WJ{t sz:Nat}{a:X.Γ t}{z:List TV}(ha:bU X P F m h (X.enc t a) z)(hz:z.length=sz):∀n,dW X P F m h t (List.replicate n a) (times z n) 0 sz
 | 0=>⟨fun j a hj=>by simp at hj,by simp,fun j a i c v hj=>by simp at hj⟩
 |n+1=>by
  have h1:dW X P F m h t [a] z 0 sz:=by
   refine⟨fun j b hj=>?_,by simp[hz],fun j b i c v hj hi hx=>?_⟩
   .cases j with
    |zero=>simp only[a2r,a00]at hj;subst hj;rw[ha.1,hz]
    |succ j=>simp at hj
   cases j with
   |zero=>simp only[a2r,a00]at hj;subst hj;exact ha.2 i c v hi (by simpa using hx)
   |succ j=>simp at hj
  have:=h1.app (WJ ha hz n) (by simp[hz]);simpa[adK,times]using this
theorem zV(hX:bP X P){ps:aS X.Γ}{ts:St}(hR:uQ X P A m ps ts){t:LI2}{l c:PV X.Γ}{tl tc:TV}(hvl:VR X P (AA A m) m ts.heap l tl)(hvc:VR X P (AA A m) m ts.heap c tc){v:PV X.Γ}{H1:List (PB X.Γ)}{qs:List Prop}
  (hl:Fq X P t ps.heap l c=some (v,H1,qs)) (hq:∀q∈qs,q):WG X P A m ts ((sD P t ts tl tc).map fun(v,s)=>(v,s,bY)) v H1 xq:=by
 have hr:=hR.heap;unfold Fq at hl;split at hl
 .rename_i e n kl li kc ci yA;obtain⟨hz,h0⟩:=nR yA;rw[Oh hvl,Oh hvc];split at hl
  .rename_i EX;split at hl
   .rename_i z hzz;obtain⟨z',q1,q2⟩:=GL (A:=AA A m) (m:=m) (h:=ts.heap) hzz;split at hl
    .rename_i VH;split at hl
     .rename_i a ha;cases hl;have e1:li=ci:=hq _ (by simp);have e2:0<=li:=hq _ (by simp);have e3:li<=(ah:Nat):=hq _ (by simp);subst e1;have hm:li.toNat<=ah:=(by omega);have hm2:ah=2^20:=rfl;have hz2:z'.length=n:=by rw[<-q2.1];exact VH
      have hT:∀w h1,(w,h1)=(TV.aP ts.heap.length 0 li.toNat li.toNat n true,ts.heap++[HB.cells .own (times z' li.toNat)])->(sD P t ts (.int kl li) (.int kc li)).map (fun(v,s)=>(v,s,bY))=some (w,{ ts with heap:=h1 },bY):=by
       intro w h1 e0;cases e0;have hN:∀k,a1Y (.int k li)=some li.toNat:=fun k=>by
        have h9:li<=2^40:=by have:((2^20:Nat):Int)<=2^40:=(by decide);rw[hm2]at e3;omega
        simp only[a1Y];rw[a0g ⟨e2,h9⟩]
       simp only[sD,yA,hN,a0U,true_and,jO EX hm,a1U,q1,hz2,a0j]
      have yD:=WJ (m:=m) (h:=ts.heap) (F:=AA A m) (hX.dec ha q2) hz2 li.toNat;have hlen:(times z' li.toNat).length=li.toNat*n:=(by rw[o7,hz2]);by_cases hn:li.toNat=0
      .rw[hn]at hT ⊢;simp only[List.replicate_zero];have GX:=hr.push (pb:=.list true true e []) (hb:=.cells .own (times z' 0)) (mb:=.dB (.aP ts.heap.length 0 0 0 n true)) (.inr rfl)
         (LR.emp (b:=ts.heap.length) (cs:=times z' 0) ⟨hr.up _ (a0U _),fun hm=>by rw[iY,a3k,jY]at hm;simp[MB.own]at hm;have:=hr.inb hm;omega⟩ (by simp[aX]) (a4E _) hz h0)
       exact⟨_,_,_,_,hT _ _ rfl,GX.1,.own (by rw[<-hr.len];simp) rfl,GX.2.1,GX.2.2,.none,fun b hb=>by cases hb⟩
      .obtain⟨m1,g1,g2,g3,g4⟩:=lq hr [] (k:=true) (ex:=true) (x:=true) (rows:=List.replicate li.toNat a) (yD.mono fun b hb=>.inl hb) (by rw[a8A];exact hlen) (by intro e0;exact hn (by simpa using congrArg List.length e0)) hz h0 (by simp);refine⟨_,_,_,m1,hT _ _ rfl,g1,?_,g2,g3,.none,fun b hb=>by cases hb⟩;rw[a8A]at g4;exact g4
     .cases hl
    .cases hl
   .cases hl
  .cases hl
 .cases hl
end
open Go Tw
section
variable {X:kJ} {P:LI1} {A F:Nat->Prop} {m m':List MB} {h h':List HB} {H H':List (PB X.Γ)}
theorem Ai{o:Option (PV X.Γ)}{to:Option TV}(ho:OR X P A m h o to){d n:Nat}{a:Int}(he:yZ X d o=some a)(h0:0<=a)(h1:a<=n):jr n d to=some a.toNat:=by
 cases o with
 |none=>
  cases to with
  |none=>simp only[yZ,a00]at he;subst he;simp[jr]
  |some=>exact ho.elim
 |some v=>
  cases to with
  |none=>exact ho.elim
  |some x=>
   cases v<;>simp only[yZ]at he<;>try (cases he;done)
   cases he;rw[Oh ho];simp only[jr,qG];rw[a0g ⟨h0,h1⟩]
theorem Oi{k:IntKind}{n:Int}{to:Option TV}(ho:OR X P A m h (some (.int k n)) to):to=some (.int k n):=by
 cases to with
 |none=>exact ho.elim
 |some x=>rw[Oh ho]
theorem qR{to:Option TV}(ho:OR X P A m h none to):to=none:=by
 cases to with
 |none=>rfl
 |some x=>exact ho.elim
theorem LV{v:PV X.Γ}{to:Option TV}(ho:OR X P A m h (some v) to):∃x,to=some x:=by
 cases to with
 |none=>exact ho.elim
 |some x=>exact⟨x,rfl⟩
theorem aed{t e:LI2}{b off len cap sz:Nat}{ex:Bool}(hu:P.underlying t=some (.slice e))(hz:dw P e=some sz){lo hi:Option (PV X.Γ)}{Qh Qi:Option TV}(h1:OR X P A m h lo Qh)(h2:OR X P A m h hi Qi){a z:Int}(e1:yZ X 0 lo=some a)(e2:yZ X len hi=some z)
  (q0:0<=a) (q1:a<=z) (q2:z<=len):qH P t (.aP b off len cap sz ex) Qh Qi none=some (.aP b (off+a.toNat*sz) (z.toNat-a.toNat) (cap-a.toNat) sz ex):=by
 have g1:=Ai h1 e1 (n:=z.toNat) q0 (by omega);have g2:=Ai h2 e2 (n:=len) (by omega) q2;simp only[qH,hu,hz,a1U,g2,g1]
theorem a9y{t e:LI2}{b off len cap sz:Nat}{ex:Bool}(hu:P.underlying t=some (.slice e))(hz:dw P e=some sz){lo hi:Option (PV X.Γ)}{Qh Qi:Option TV}(h1:OR X P A m h lo Qh)(h2:OR X P A m h hi Qi){a z:Int}(e1:yZ X 0 lo=some a)(e2:yZ X len hi=some z)(hs:hi.isSome)
  (q0:0<=a) (q1:a<=z) (q2:z<=len) (vW:len<=cap) {k:IntKind}:qH P t (.aP b off len cap sz ex) Qh Qi (some (.int k z))=some (.aP b (off+a.toNat*sz) (z.toNat-a.toNat) (z.toNat-a.toNat) sz true):=by
 have g1:=Ai h1 e1 (n:=z.toNat) q0 (by omega);obtain⟨hv,rfl⟩:=a4J.1 hs;obtain⟨x,rfl⟩:=LV h2;have g3:qG cap (.int k z)=some z.toNat:=by simp only[qG];rw[a0g (by omega)]
 have g2:qG (min z.toNat len) x=some z.toNat:=by
  cases hv<;>simp only[yZ]at e2<;>try (cases e2;done)
  cases e2;rw[Oh (show VR X P A m h _ x from h2)];simp only[qG];rw[a0g (by omega)]
 simp only[qH,hu,hz,a1U,g3,g2,g1]
theorem Ze{t e:LI2}{sz:Nat}(hu:P.underlying t=some (.slice e))(hz:dw P e=some sz){lo hi:Option (PV X.Γ)}{Qh Qi:Option TV}(h1:OR X P A m h lo Qh)(h2:OR X P A m h hi Qi){a z:Int}(e1:yZ X 0 lo=some a)(e2:yZ X 0 hi=some z)(q0:a=0)(q1:z=0) :
  qH P t (.nil .aP) Qh Qi none=some (.nil .aP)∧∀{k:IntKind},hi.isSome->qH P t (.nil .aP) Qh Qi (some (.int k 0))=some (.nil .aP):=by
 subst q0;subst q1;have g1:=Ai h1 e1 (n:=0) (by omega) (by omega);have g2:=Ai h2 e2 (n:=0) (by omega) (by omega);have g0:jr 0 0 none=some 0:=rfl;refine⟨by simp only[qH,hu,hz,g0,g1,g2];rfl,fun{k} hs=>?_⟩;obtain⟨hv,rfl⟩:=a4J.1 hs;obtain⟨x,rfl⟩:=LV h2;have g3:jr 0 0 (some (.int k 0))=some 0:=rfl;simp only[qH,hu,hz,g1,g2,g3] ;rfl
theorem Ns{ps:aS X.Γ}{ts:St}(hR:uQ X P A m ps ts){t:LI2}{x:PV X.Γ}{tx:TV}(hx:VR X P (AA A m) m ts.heap x tx){lo hi mx:Option (PV X.Γ)}{Qh Qi tmx:Option TV}(h1:OR X P (AA A m) m ts.heap lo Qh)(h2:OR X P (AA A m) m ts.heap hi Qi)(h3:OR X P (AA A m) m ts.heap mx tmx){v:PV X.Γ}{qs:List Prop}
  (hl:YZ X P t ps.heap x lo hi mx=some (v,qs)) (hq:∀q∈qs,q):∃w,qH P t tx Qh Qi tmx=some w∧VR X P (AA A m) m ts.heap v w:=by
 have hr:=hR.heap;unfold YZ at hl;split at hl
 .rename_i e t' l fu hu;split at hl
  .rename_i n a z hz e1 e2;split at hl
   .rename_i ht;subst ht;cases hl;have q0:0<=a:=hq _ (by simp);have q1:a<=z:=hq _ (by simp);have q2:z<=(l.length:Nat):=hq _ (by simp);rw[qR h3,agT];cases hx with
    |oW=>
     have ea:a=0:=by simp at q2;omega
     have ez:z=0:=by simp at q2;omega
     exact⟨_,(Ze hu hz h1 h2 e1 e2 ea ez).1,by simp only[List.drop_nil,List.take_nil];exact .oW⟩
    |dB p1 p2 p2' p3 p4 p5 p6 p7 p8 p9=>
     rw[hz]at p3;cases p3;exact⟨_,aed hu hz h1 h2 e1 e2 q0 q1 q2,(VR.dB p1 p2 p2' hz p4 p5 p6 p7 p8 p9).part (by omega) (by omega) (.inr (by omega)) (by simp)⟩
    |gone hi _ _=>simp[bn]at hi
   .cases hl
  .rename_i n a z k mv hz e1 e2;split at hl
   .rename_i ht;obtain⟨ht,Bd⟩:=ht;subst ht;split at hl
    .rename_i hfu;subst hfu;cases hl;have q0:a=0:=hq _ (by simp);have q2:z=(l.length:Nat):=hq _ (by simp);have q3:mv=z:=hq _ (by simp);subst q3;subst q0;rw[Oi h3];cases hx with
     |oW=>
      have ez:mv=0:=(by simpa using q2);have:=(Ze hu hz h1 h2 e1 e2 rfl ez).2 (k:=k) Bd;exact⟨_,by rw[<-ez]at this;exact this,.oW⟩
     |dB p1 p2 p2' p3 p4 p5 p6 p7 p8 p9=>
      rw[hz]at p3;cases p3;obtain⟨p7a,p7b⟩:=p7 rfl;subst p7a;subst p7b;refine⟨_,a9y hu hz h1 h2 e1 e2 Bd (a8M 0) (by omega) (by omega) p6,?_⟩;subst q2;have:=VR.dB (fu:=true) p1 p2 p2' hz p4 p5 (a0U _) (fun _=>⟨rfl,rfl⟩) p8 p9;simpa using this
     |gone hi _ _=>simp[bn]at hi
    cases hl;have q0:0<=a:=hq _ (by simp);have q1:a<=z:=hq _ (by simp);have q2:z<=(l.length:Nat):=hq _ (by simp);have q3:mv=z:=hq _ (by simp);have q4:a=z:=hq _ (by simp);subst q3;rw[Oi h3,agT];cases hx with
    |oW=>
     have ea:a=0:=by simp at q2;omega
     have ez:mv=0:=by simp at q2;omega
     have:=(Ze hu hz h1 h2 e1 e2 ea ez).2 (k:=k) Bd;rw[<-ez]at this;exact⟨_,this,by simp only[List.drop_nil,List.take_nil];exact .oW⟩
    |dB p1 p2 p2' p3 p4 p5 p6 p7 p8 p9=>
     rw[hz]at p3;cases p3;exact⟨_,a9y hu hz h1 h2 e1 e2 Bd q0 q1 q2 p6,(VR.dB p1 p2 p2' hz p4 p5 p6 p7 p8 p9).part (by omega) (by omega) (.inl (by omega)) (by simp)⟩
    |gone hi _ _=>simp[bn]at hi
   .cases hl
  .cases hl
 .rename_i e i hu;split at hl
  .rename_i kk ex t' l hb;obtain⟨mb,g1,g2⟩:=hr.at_ i _ hb;cases mb with
   |dB y=>
    cases hx with
    |gone hi e' _=>simp only[bn,a00]at hi;subst hi;rw[g1]at e';cases e'
    |own e' o=>
     rw[g1]at e';cases e';have hlr:LR X P (AA A m) m ts.heap kk ex t' l tx:=g2;split at hl
     .rename_i n a z hz e1 e2;split at hl
      .rename_i ht;subst ht;cases hl;have q0:0<=a:=hq _ (by simp);have q1:a<=z:=hq _ (by simp);have q2:z<=(l.length:Nat):=hq _ (by simp);rw[qR h3];cases hlr with
       |nil=>
        have ea:a=0:=by simp at q2;omega
        have ez:z=0:=by simp at q2;omega
        refine⟨_,(Ze hu hz h1 h2 e1 e2 ea ez).1,?_⟩;subst ea;subst ez;exact .BF g1
       |emp p0 p1 p2 p3 p4=>
        rw[hz]at p3;cases p3;exact⟨_,aed (len:=0) hu hz h1 h2 e1 e2 q0 q1 q2,.win g1 (by simp at q2;omega) (by simp at q2;omega) (.inl (by simp at q2;omega))⟩
       |some p1 p2 p3 p4 p5 p6 p7 p8 p9=>
        rw[hz]at p2;cases p2;exact⟨_,aed hu hz h1 h2 e1 e2 q0 q1 q2,.win g1 (by omega) (by omega) (.inr (by omega))⟩
      .cases hl
     .rename_i n a z k mv hz e1 e2;split at hl
      .rename_i ht;obtain⟨ht,Bd⟩:=ht;subst ht;cases hl;have q0:a=0:=hq _ (by simp);have q2:z=(l.length:Nat):=hq _ (by simp);have q3:mv=z:=hq _ (by simp);subst q3;subst q0;rw[Oi h3];cases hlr with
       |nil=>
        have ez:mv=0:=(by simpa using q2);have:=(Ze hu hz h1 h2 e1 e2 rfl ez).2 (k:=k) Bd;exact⟨_,by rw[<-ez]at this;exact this,.IY g1⟩
       |emp p0 p1 p2 p3 p4=>
        rw[hz]at p3;cases p3;have ez:mv=0:=(by simpa using q2);subst ez;refine⟨_,a9y (len:=0) hu hz h1 h2 e1 e2 Bd (a8M 0) (by omega) (by omega) (a0U _),?_⟩;simpa using VR.FU (X:=X) (P:=P) (A:=AA A m) (h:=ts.heap) g1
       |some p1 p2 p3 p4 p5 p6 p7 p8 p9=>
        rw[hz]at p2;cases p2;refine⟨_,a9y hu hz h1 h2 e1 e2 Bd (a8M 0) (by omega) (by omega) (a0U _),?_⟩;subst q2;have:=VR.FU (X:=X) (P:=P) (A:=AA A m) (h:=ts.heap) g1;simpa using this
      .cases hl
     .cases hl
   |_=>exact g2.elim
  .cases hl
 .rename_i e hu;have:tx=.nil .aP:=by
   cases hx with
   |nil=>rfl
   |gone hi _ _=>simp[bn]at hi
  subst this;split at hl
  .rename_i n a z hz e1 e2;cases hl;have q0:a=0:=hq _ (by simp);have q1:z=0:=hq _ (by simp);rw[qR h3];exact⟨_,(Ze hu hz h1 h2 e1 e2 q0 q1).1,.nil _⟩
  .rename_i n a z k mv hz e1 e2;split at hl
   .rename_i Bd;cases hl;have q0:a=0:=hq _ (by simp);have q1:z=0:=hq _ (by simp);have q2:mv=0:=hq _ (by simp);subst q2;rw[Oi h3];exact⟨_,(Ze hu hz h1 h2 e1 e2 q0 q1).2 Bd,.nil _⟩
   .cases hl
  .cases hl
 .cases hl
theorem Cb(hX:bP X P){ps:aS X.Γ}{ts:St}(hR:uQ X P A m ps ts){t:LI2}{x:PE X.Γ}{ex:EV}(hx:Iu X P (AA A m) m ts.heap x ex){lo hi mx:Option (PV X.Γ)}{Qh Qi tmx:Option TV}(h1:OR X P (AA A m) m ts.heap lo Qh)(h2:OR X P (AA A m) m ts.heap hi Qi)(h3:OR X P (AA A m) m ts.heap mx tmx){v:PV X.Γ}{H1:List (PB X.Γ)}{qs:List Prop}
  (hl:IV X P t ps.heap x lo hi mx=some (v,H1,qs)) (hq:∀q∈qs,q):WG X P A m ts ((qm P t ex Qh Qi tmx).map fun v=>(v,ts,bY)) v H1 xq:=by
 have hr:=hR.heap;unfold IV at hl;split at hl
 .rename_i n e b off lim hu;split at hl
  .rename_i size hz;split at hl
   .cases hl
   .rename_i KL;split at hl
    .cases hl
    .rw[qR h3];obtain⟨y,rfl,hy⟩:=fQ hx;split at hl
     .split at hl
      .rename_i cs hb;cases hl;rw[qR h1,qR h2];obtain⟨mb,g1,g2⟩:=hr.at_ b _ hb;cases mb with
       |fV c=>
        cases hy with
        |gone hi e' _=>simp only[bn,a00]at hi;subst hi;rw[g1]at e';cases e'
        |ptr e'=>
         rw[g1]at e';cases e';exact⟨.aP c off n n size true,ts.heap,bY,m,by simp[qm,hu,hz,KL,jr],hr,.aP g1,.refl,.refl,.none,fun d hd=>by cases hd⟩
       |_=>exact g2.elim
      .cases hl
     .rename_i Yv wY _;split at hl
      .rename_i cs a z hb e1 e2;split at hl
       .cases hl
       rename_i ae7;split at hl
       .rename_i rows is hd;cases hl;have q0:0<=a:=hq _ (by simp);have q1:a<=z:=hq _ (by simp);have q2:z<=(n:Nat):=hq _ (by simp);obtain⟨mb,g1,g2⟩:=hr.at_ b _ hb;cases mb with
        |fV c=>
         obtain⟨cs',g3,g4⟩:=g2;cases hy with
         |gone hi e' _=>simp only[bn,a00]at hi;subst hi;rw[g1]at e';cases e'
         |ptr e'=>
          rw[g1]at e';cases e';have f1:=Ai h1 e1 (n:=z.toNat) q0 (by omega);have f2:=Ai h2 e2 (n:=n) (by omega) q2;obtain⟨w1,w2⟩:=Ag (m':=cu (b::is) m) hX hr (g4.drop off) hd;have w3:=w2.2.1;rw[a3X]at w3;have hgo:=hr.bf (b::is);have Qg:=iE (h:=ts.heap) (b::is) m;have hnc:AA A (cu (b::is) m) c:=by refine FA.gone hr (.inr ⟨b,_,a2O,g1,rfl⟩)
          refine⟨.aP c (off+a.toNat*size) (z.toNat-a.toNat) (n-a.toNat) size true,ts.heap,bY,cu (b::is) m,?_,hgo,?_,Qg.1,Qg.2,.none,fun d hd=>by cases hd⟩
          .have f0:jr n n none=some n:=rfl;simp only[qm,hu,hz,KL,a3g,f0,f2,f1,Option.isSome_none,Bool.false_and,a2i,a0j]
          .rw[agT];have aic:VR X P (AA A (cu (b::is) m)) (cu (b::is) m) ts.heap (.dB e rows false) (.aP c off rows.length n size true):=by
            refine .dB hnc (by unfold aX;rw[g3]) (fun _=>wB g3 (by simp)) hz (by omega) ?_ (by omega) (by simp) w2.1 (fun j y i d v hj hi hx=>?_)
            .rw[w1,<-g4.1];omega
            .refine(w2.2.2 j y i d v hj hi ?_).mono fun q hq=>FA.gone hr (FA.mono (fun i hi=>a2P _ hi) hq);rw[a4e,<-hx];congr 1;omega
           exact aic.part (by omega) (by omega) (.inr (by omega)) (by simp)
        |_=>exact g2.elim
       .cases hl
      .cases hl
  .cases hl
 .cases hl
theorem Um{ps:aS X.Γ}{ts:St}(hR:uQ X P A m ps ts){t:LI2}{x:PE X.Γ}{ex:EV}(hx:Iu X P (AA A m) m ts.heap x ex){lo hi:Option (PV X.Γ)}{Qh Qi tmx:Option TV}(h1:OR X P (AA A m) m ts.heap lo Qh)(h2:OR X P (AA A m) m ts.heap hi Qi)(h3:OR X P (AA A m) m ts.heap none tmx){v:PV X.Γ}
  (hl:Fv X P t ps.heap x lo hi=some v):WG X P A m ts ((qm P t ex Qh Qi tmx).map fun v=>(v,ts,bY)) v ps.heap xq:=by
 have hr:=hR.heap;unfold Fv at hl;split at hl
 .rename_i n e b off lim hu;split at hl
  .rename_i size cs a z hz hb e1 e2;split at hl
   .cases hl
   .rename_i KL;split at hl
    .rename_i hq;cases hl;rw[qR h3];obtain⟨y,rfl,hy⟩:=fQ hx;obtain⟨mb,g1,g2⟩:=hr.at_ b _ hb;cases mb with
     |fV c=>
      cases hy with
      |gone hi e' _=>simp only[bn,a00]at hi;subst hi;rw[g1]at e';cases e'
      |ptr e'=>
       rw[g1]at e';cases e';have f1:=Ai h1 e1 (n:=z.toNat) hq.1 (by omega);have f2:=Ai h2 e2 (n:=n) (by omega) hq.2.2;refine⟨.aP c (off+a.toNat*size) (z.toNat-a.toNat) (n-a.toNat) size true,ts.heap,bY,m,?_,hr,.aP g1,.refl,.refl,.none,fun d hd=>by cases hd⟩;have f0:jr n n none=some n:=rfl;simp only[qm,hu,hz,KL,a3g,f0,f2,f1,Option.isSome_none,Bool.false_and,a2i,a0j]
     |_=>exact g2.elim
    .cases hl
  .cases hl
 .cases hl
end
open Go Tw
section
variable {X:kJ} {P:LI1} {A B F:Nat->Prop} {m m':List MB} {h h':List HB} {H H':List (PB X.Γ)}
theorem vK:∀{vs:List (PV X.Γ)} {i:Nat} {v:PV X.Γ},xk.Gv vs=false->vs[i]? = some v->xk v=false
 | [],_,_,_,h=>by simp at h
 |a::vs,i,v,hc,h=>by
  simp only[xk.Gv,a9c]at hc;cases i with
  |zero=>simp only[a2r,a00]at h;subst h;exact hc.1
  |succ i=>exact vK hc.2 (by simpa using h)
theorem sN{k:Nat}:∀{vs:List (PV X.Γ)} {i:Nat} {v:PV X.Γ},(shift.shifts k vs)[i]? = some v->∃u,vs[i]? = some u∧v=shift k u
 | [],_,_,h=>by simp[shift.shifts]at h
 |a::vs,i,v,h=>by
  cases i with
  |zero=>simp only[shift.shifts,a2r,a00]at h;exact⟨a,rfl,h.symm⟩
  |succ i=>obtain⟨u,h1,h2⟩:=sN (vs:=vs) (i:=i) (by simpa[shift.shifts]using h);exact⟨u,by simpa using h1,h2⟩
theorem sO{k:Nat}:∀{vs:List (PV X.Γ)},(shift.shifts k vs).length=vs.length
 | []=>rfl
 |a::vs=>by simp[shift.shifts,sO (vs:=vs)]
theorem Zf{k i:Nat}{v:PV X.Γ}(h:bn v=some i):bn (shift k v)=some (i+k):=by cases v<;>simp[bn]at h<;>subst h<;>rfl
theorem VR.shift(hX:bP X P){m0:List MB}{v:PV X.Γ}{x:TV}(hv:VR X P A m h v x)(hq:(∀b,A b->B b)∨xk v=false):VR X P B (m0++m) h (Pv.shift m0.length v) x:=by
 have at':∀{i:Nat} {mb:MB},m[i]? = some mb->(m0++m)[i+m0.length]? = some mb:=by intro i mb hi;rw[a0S (by omega)];simpa using hi
 induction hv with
 |bool=>exact .bool _
 |lit=>exact .lit _
 |int=>exact .int _ _
 |str=>exact .str _
 |nil=>exact .nil _
 |ptr e=>exact .ptr (at' e)
 |aP e=>exact .aP (at' e)
 |own e o=>exact .own (at' e) o
 |win e q q' q2=>exact .win (at' e) q q' q2
 |BF e=>exact .BF (at' e)
 |FU e=>exact .FU (at' e)
 |IY e=>exact .IY (at' e)
 |map e=>exact .map (at' e)
 |iter e=>exact .iter (at' e)
 |fn h1 _ h3 _ i2 i4=>
  refine .fn (by rw[sO,h1]) (fun i x y hx hy=>?_) (by rw[sO,h3]) (fun i x y hx hy=>?_)
  .obtain⟨u,g1,rfl⟩:=sN hx;exact i2 i u y g1 hy (hq.imp_right fun hq=>by simp only[xk,a9c]at hq;exact vK hq.1 g1)
  obtain⟨u,g1,rfl⟩:=sN hx;exact i4 i u y g1 hy (hq.imp_right fun hq=>by simp only[xk,a9c]at hq;exact vK hq.2 g1)
 |kG e=>exact .kG (at' e)
 |agg h1 _ i2=>
  refine .agg (by rw[sO,h1]) (fun i x y hx hy=>?_);obtain⟨u,g1,rfl⟩:=sN hx;exact i2 i u y g1 hy (hq.imp_right fun hq=>by simp only[xk]at hq;exact vK hq g1)
 |dG h1 _ i2=>
  refine .dG (by rw[sO,h1]) (fun i x y hx hy=>?_);obtain⟨u,g1,rfl⟩:=sN hx;exact i2 i u y g1 hy (hq.imp_right fun hq=>by simp only[xk]at hq;exact vK hq g1)
 |oW=>exact .oW
 |dB a c c2 s z o k f e r _=>
  rcases hq with hq|hq
  .exact .dB (hq _ a) c c2 s z o k f e fun j y i d v h1 h2 h3=>((r j y i d v h1 h2 h3).mono hq).jk hX (fH (hX.jk _ _) h2)
  simp[xk]at hq
 |el a c l o e q r _=>
  rcases hq with hq|hq
  .exact .el (hq _ a) c l o e q fun i d v h1 h2=>((r i d v h1 h2).mono hq).jk hX (fH (hX.jk _ _) h1)
  simp[xk]at hq
 |row e j q=>exact .row (at' e) j q
 | @gone v i x hi e o=>
  have e':(m0++m)[i+m0.length]? = m[i]?:=by rw[a0S (by omega)];congr 1;omega
  exact .gone (Zf hi) (by rw[e'];exact e.as fun c=>by cases v<;>rfl) o
theorem bU.shift(hX:bP X P){m0:List MB}{v:List (PV X.Γ)}{x:List TV}(hv:bU X P A m h v x)(hq:(∀b,A b->B b)∨xk.Gv v=false):bU X P B (m0++m) h (Pv.shift.shifts m0.length v) x:=by refine⟨by rw[sO,hv.1],fun i a b ha hb=>?_⟩;obtain⟨u,g1,rfl⟩:=sN ha;exact(hv.2 i u b g1 hb).shift hX (hq.imp_right fun hq=>vK hq g1)
theorem BR.shift(hX:bP X P){m0:List MB}{b b':PB X.Γ}{mb:MB}(hb:BR X P A m h b mb)(hs:Fh X m0.length b=some b')(hq:(∀c,A c->B c)∨hasB X b=false):BR X P B (m0++m) h b' mb:=by
 cases b with
 |cells cs=>
  cases mb with
  |fV c=>
   simp only[Fh,a00]at hs;subst hs;obtain⟨cs',h1,h2⟩:=hb;exact⟨cs',h1,h2.shift hX hq⟩
  |_=>exact hb.elim
 |list k ex t l=>
  cases mb with
  |dB y=>
   simp only[Fh,a00]at hs;subst hs;rcases hq with hq|hq
   .cases(hb:LR X P A m h k ex t l y)with
    |nil=>exact LR.nil
    |emp p0 p1 p2 p3 p4=>exact LR.emp (hq _ p0) p1 p2 p3 p4
    |some p1 p2 p3 p4 p5 p6 p7 p8 p9=>exact LR.some p1 p2 p3 p4 p5 p6 p7 p8 ((p9.mono hq).jk hX)
   simp[hasB]at hq
  |_=>exact hb.elim
 |gone=>
  cases mb with
  |gone=>simp only[Fh,a00]at hs;subst hs;trivial
  |_=>exact hb.elim
 |_=>simp[Fh]at hs
theorem Ko{k:Nat}:∀{bs bs':List (PB X.Γ)} {i:Nat} {b':PB X.Γ},qN X k bs=some bs'->bs'[i]? = some b'->∃b,bs[i]? = some b∧Fh X k b=some b'
 | [],bs',i,b',h,hi=>by simp only[qN,a00]at h;subst h;simp at hi
 |b::bs,bs',i,b',h,hi=>by
  simp only[qN]at h;split at h
  .rename_i c cs h1 h2;cases h;cases i with
   |zero=>simp only[a2r,a00]at hi;subst hi;exact⟨b,rfl,h1⟩
   |succ i=>obtain⟨d,g1,g2⟩:=Ko h2 (i:=i) (by simpa using hi);exact⟨d,by simpa using g1,g2⟩
  cases h
theorem Kq{k:Nat}:∀{bs bs':List (PB X.Γ)},qN X k bs=some bs'->bs'.length=bs.length
 | [],bs',h=>by simp only[qN,a00]at h;subst h;rfl
 |b::bs,bs',h=>by
  simp only[qN]at h;split at h
  .rename_i c cs h1 h2;cases h;simp[Kq h2]
  cases h
def nY(X:kJ)(P:LI1)(call:aY)(f:FuncId)(vs:List (PV X.Γ))(v:PV X.Γ)(ext:List (PB X.Γ)):Prop:=
 ∀(A:Nat->Prop) (h:List HB) (first args cap:List TV),(∀b,h.length<=b->A b)->bU X P A [] h vs (first++args++cap) ->
  ∃w h' m',call (.fn f first cap) args h=some (w,h',[])∧HR X P A m' ext h'∧VR X P (AA A m') m' h' v w∧Fr [] h m' h'
theorem GY(hX:bP X P){call:aY}{f:FuncId}{first xs cap vs:List (PV X.Γ)}{v:PV X.Γ}{ext ext':List (PB X.Γ)}(hc:nY X P call f vs v ext)(hr:HR X P A m H h)(hv:views H (first++xs++cap)=some vs)(hs:qN X H.length ext=some ext')
  {t1 t2 t3:List TV} (h1:bU X P (AA A m) m h first t1) (h2:bU X P (AA A m) m h xs t2) (h3:bU X P (AA A m) m h cap t3) :
  ∃w h' m1,call (.fn f t1 t3) t2 h=some (w,h',[])∧HR X P A m1 ((if xk v||ext.any (hasB X)then bf (kP.jX (first++xs++cap)) H else H)++ext') h'∧VR X P (AA A m1) m1 h' (shift H.length v) w∧Fr m h m1 h'∧Up m m1:=by
 have hvs:=l9 (m':=[]) hX hr ((h1.app h2).app h3) hv (is:=kP.jX (first++xs++cap)) fun i hi=>hi;generalize kP.jX (first++xs++cap)=is at hvs ⊢;obtain⟨w,h',m',c1,c2,c3,c4⟩:=hc (fun b=>FA A m is b∨h.length<=b) h t1 t2 t3 (fun b hb=>.inr hb) (hvs.mono fun b hb=>.inl hb);have hold:∀b,b<h.length->h'[b]? = h[b]?:=fun b hb=>c4.same b hb (by simp[bg]);have gV:∀b,b∈bg m'->h.length<=b:=fun b hb=>by
  rcases c4.new b hb with h0|h0
  .simp[bg]at h0
  .exact h0
 have key:∀(m0:List MB) (H0:List (PB X.Γ)),HR X P A m0 H0 h->Fr m h m0 h->Up m m0->m0.length=H.length->((∀b,FA A m is b->AA A m0 b)∨(xk v||ext.any (hasB X))=false) ->
   ∃m1,HR X P A m1 (H0++ext') h'∧VR X P (AA A m1) m1 h' (shift H.length v) w∧Fr m h m1 h'∧Up m m1:=by
  intro m0 H0 Zg hF0 hU0 qB hq;have hF:Fr m0 h (m0++m') h':=by refine⟨c4.len,fun b hb _=>hold b hb,fun b hb=>?_,fun b cs hc=>⟨cs,by rw[fP (hold b (fM hc)),hc],a0U _⟩⟩;rw[iY,a3k]at hb;exact hb.imp_right fun hb=>gV b hb
  have hA:(∀b,AA (fun b=>FA A m is b∨h.length<=b) m' b->AA A (m0++m') b)∨(xk v||ext.any (hasB X))=false:=by
   refine hq.imp_left fun hq b hb=>?_;refine⟨?_,fun hm=>?_⟩
   .rcases hb.1 with h0|h0
    .exact(hq b h0).1
    .exact hr.up b h0
   .rw[iY,a3k]at hm;rcases hm with hm|hm
    .rcases hb.1 with h0|h0
     .exact(hq b h0).2 hm
     .have:=Zg.inb hm;omega
    .exact hb.2 hm
  refine⟨m0++m',?_,?_,hF0.trans hF,hU0.trans (wC _)⟩
  .refine Zg.next hF (wC _) (by rw[a1I,a1I,Zg.len,Kq hs,c2.len]) ?_ fun i b hi=>?_
   .rw[iY];refine a8H.2 ⟨Zg.nodup,c2.nodup,fun a ha b hb e=>?_⟩;subst e;have:=Zg.inb ha;have:=gV a hb;omega
   .rcases a4d i H0.length with aT|Et
    .left;rw[a0b aT]at hi;obtain⟨mb,g1,g2⟩:=Zg.at_ i b hi;exact⟨mb,hi,g1,by rw[a0b (by rw[Zg.len];exact aT)];exact g1,fun c hc=>hold c (g2.has hc)⟩
    .right;rw[a0S Et]at hi;obtain⟨b0,g1,g2⟩:=Ko hs hi;obtain⟨mb,g3,g4⟩:=c2.at_ _ _ g1;refine⟨mb,by rw[a0S (by rw[Zg.len];exact Et),Zg.len];exact g3,?_⟩;rw[<-qB]at g2;refine g4.shift hX g2 (hA.imp_right fun hq=>?_);simp only[a9c,List.any_eq_false]at hq;simpa using hq.2 b0 (a4m g1)
  .rw[<-qB];exact c3.shift hX (hA.imp_right fun hq=>by simp only[a9c]at hq;exact hq.1)
 refine⟨w,h',?_⟩;by_cases hL:(xk v||ext.any (hasB X))=true
 .rw[a0g hL];obtain⟨m1,e1,e2,e3,e4⟩:=key (cu is m) (bf is H) (hr.bf is) (iE (h:=h) is m).1 (iE (h:=h) is m).2 (by rw[lZ,hr.len]) (.inl fun b hb=>hb.gone hr);exact⟨m1,c1,e1,e2,e3,e4⟩
 .rw[a0c hL];obtain⟨m1,e1,e2,e3,e4⟩:=key m H hr .refl .refl hr.len (.inr (by simpa using hL));exact⟨m1,c1,e1,e2,e3,e4⟩
end
open Go Tw
section
variable {X:kJ} {P:LI1} {A B F:Nat->Prop} {m m':List MB} {h h':List HB} {H H':List (PB X.Γ)}
def dD(X:kJ)(P:LI1)(call:aY):a2G X.Γ:=fun fv xs H v H1=>
 ∀(A:Nat->Prop) (m:List MB) (h:List HB) (tf:TV) (qU:List TV),HR X P A m H h->VR X P (AA A m) m h fv tf->bU X P (AA A m) m h xs qU ->
  ∃w h1 ws m1,call tf qU h=some (w,h1,ws)∧HR X P A m1 H1 h1∧VR X P (AA A m1) m1 h1 v w∧Fr m h m1 h1∧Up m m1∧∀b∈ws,b∈bg m
def jD(X:kJ)(P:LI1)(call:aY)(fO:eY X.Γ):Prop:=∀f vs v ext ps,fO f vs=some (v,ext,ps)->(∀p∈ps,p)->nY X P call f vs v ext
theorem uz{ρ:Type}{y:ρ}:∀{ps:List Prop} {x:OT ρ},(owe ps x).Ends y->(∀p∈ps,p)∧x.Ends y
 | [],x,h=>⟨by simp,h⟩
 |p::ps,x,h=>by have:=uz h.2;exact⟨fun q hq=>by rcases a2d.1 hq with rfl|hq;exact h.1;exact this.1 q hq,this.2⟩
theorem Zh{ρ:Type}{y:ρ}{u:PV X.Γ}{an:PT X.Γ}{k:Bool->PT X.Γ->OT ρ}(hk:(byB X u an k).Ends y){tu:TV}(hu:VR X P A m h u tu):∃t GZ,tu=.bool t∧(k t GZ).Ends y:=by
 cases u with
 |lit b=>
  have:tu=.bool b:=by
   cases hu with
   |lit=>rfl
   |gone hi _ _=>simp[bn]at hi
  exact⟨b,an,this,hk⟩
 |bool b=>
  have hb:tu=.bool b:=by
   cases hu with
   |bool=>rfl
   |gone hi _ _=>simp[bn]at hi
  subst hb;cases an with
  |s x z=>
   rcases hk with⟨h1,h2⟩|⟨h1,h2⟩
   .subst h1;exact⟨true,x,rfl,h2⟩
   subst h1;exact⟨false,z,rfl,h2⟩
  |a x r=>
   cases x with
   |br t=>obtain⟨h1,h2⟩:=hk;subst h1;exact⟨_,r,rfl,h2⟩
   |_=>exact hk.elim
  |_=>exact hk.elim
 |_=>exact hk.elim
theorem qV:∀{es:List (PV X.Γ×PV X.Γ)} {fU:List (TV×TV)} {ks:List TV},es.length=fU.length->(∀(i:Nat) x y,es[i]? = some x->fU[i]? = some y->VR X P A m h x.1 y.1∧VR X P A m h x.2 y.2)->uV X es=some ks->fU.map (·.1)=ks
 | [],fU,ks,hl,_,hk=>by
  simp only[uV,a00]at hk;subst hk;cases fU with
  |nil=>rfl
  |cons=>simp at hl
 |(k,v)::es,fU,ks,hl,he,hk=>by
  cases fU with
  |nil=>simp at hl
  |cons y fU=>
   simp only[uV]at hk;split at hk
   .rename_i a b h1 h2;cases hk;have:=jM (he 0 _ _ rfl rfl).1 h1;simp only[a4c,this];rw[qV (by simpa using hl) (fun i x z hx hz=>he (i+1) x z (by simpa using hx) (by simpa using hz)) h2]
   cases hk
theorem WL:∀{ks:List TV} {vs:List LI3},Bz ks=some vs->vs.length=ks.length
 | [],vs,h=>by simp only[Bz,a00]at h;subst h;rfl
 |k::ks,vs,h=>by
  simp only[Bz]at h;split at h
  .rename_i v ws _ h2;cases h;simp[WL h2]
  cases h
theorem pG{kt:LI2}{k:LI3}{fU:List (TV×TV)}:Eo P kt k fU=uX P kt k (fU.map (·.1)):=by
 unfold Eo uX;cases hv:Bz (fU.map (·.1))with
 |none=>rfl
 |some vs=>
  have hl:=WL hv;have:fU.isEmpty=vs.isEmpty:=by cases fU<;>cases vs<;>simp at hl<;>rfl
  simp only[this]<;>rfl
def RI:TV->List Key
 |.map r=>[.h r]
 |_=>[]
def a2L(h:List HB):TV->Option (List (TV×TV))
 |.nil .map=>some []
 |.map r=>match h[r]? with
  |some (.map es)=>some es
  |_=>none
 |_=>none
theorem Kr{t:LI2}{h:List HB}{tm tk:TV}{ok:Bool}{kt e:LI2}{kv:LI3}{es:List (TV×TV)}(hu:P.underlying t=some (.map kt e))(hk:tk.yt=some kv)(he:a2L h tm=some es) :
  gU P t h tm tk ok=match Eo P kt kv es with
   |some (some i)=>match es[i]? with
    |some (_,v)=>some (if ok then .dG [v,.bool true]else v)
    |none=>none
   |some none=>match P.info? e with
    |some i=>match i.zero with
     |some z=>(TV.Vo z).map fun z=>if ok then .dG [z,.bool false]else z
     |none=>none
    |none=>none
   |none=>none:=by
 unfold gU;simp only[hu,hk];cases tm with
 |nil k=>
  cases k<;>simp only[a2L]at he<;>try (cases he;done)
  cases he;rfl
 |map r=>
  simp only[a2L]at he;split at he
  .rename_i es0 hb;cases he;simp only[hb];rfl
  .cases he
 |_=>simp[a2L]at he
theorem CS{H:List (PB X.Γ)}{h:List HB}(hr:HR X P A m H h){r:Nat}{es:List (PV X.Γ×PV X.Γ)}(he:JY X H r=some es):∃c fU,(m[r]? = some (.fV c)∨(m[r]? = some (.jl c)∧c∉bg m))∧h[c]? = some (.map fU)∧es.length=fU.length ∧
  ∀(i:Nat) x y,es[i]? = some x->fU[i]? = some y->pU x.1=some y.1∧pU x.2=some y.2:=by
 unfold JY at he;split at he
 .rename_i es0 hb;cases he;obtain⟨mb,g1,g2⟩:=hr.at_ r _ hb;cases mb with
  |fV c=>obtain⟨fU,g3,g4,g5⟩:=g2;exact⟨c,fU,.inl g1,g3,g4,g5⟩
  |_=>exact g2.elim
 .rename_i es0 hb;cases he;obtain⟨mb,g1,g2⟩:=hr.at_ r _ hb;cases mb with
  |jl c=>obtain⟨g0,fU,g3,g4,g5⟩:=g2;exact⟨c,fU,.inr ⟨g1,g0⟩,g3,g4,g5⟩
  |_=>exact g2.elim
 .cases he
theorem a0T{B:Nat->Prop}{h:List HB}{r c:Nat}{tm:TV}(hm:VR X P B m h (.map r) tm)(hc:m[r]? = some (.fV c)∨(m[r]? = some (.jl c)∧c∉bg m)):tm=.map c:=by
 cases hm with
 |map e=>
  rcases hc with h|⟨h,_⟩<;>rw[h]at e<;>cases e
  rfl
 |gone hi e _=>
  simp only[bn,a00]at hi;subst hi;rcases hc with h|⟨h,_⟩<;>rw[h]at e
  .cases e
  cases e with
  |r c hv=>simp only[roV,a00]at hv;exact hv.symm
theorem RJ{r c:Nat}{ks:List Key}(hc:m[r]? = some (.fV c)∨(m[r]? = some (.jl c)∧c∉bg m)):(∃i,Key.h i∈Key.h r::ks∧FC m i c)∨c∉bg m:=by
 rcases hc with h|⟨_,h⟩
 .exact .inl ⟨r,by simp,iI h rfl⟩
 exact .inr h
theorem aee{ps:aS X.Γ}{ts:St}(hR:uQ X P A m ps ts){mv:PV X.Γ}{tm:TV}(hm:VR X P (AA A m) m ts.heap mv tm){es:List (PV X.Γ×PV X.Γ)}(he:a5A X ps.heap mv=some es) :
  ∃fU,a2L ts.heap tm=some fU∧es.length=fU.length∧(∀(i:Nat) x y,es[i]? = some x->fU[i]? = some y->VR X P (AA A m) m ts.heap x.1 y.1∧VR X P (AA A m) m ts.heap x.2 y.2) ∧
   IR m ts.heap ⟨fJ (Rt X mv),false,false,true⟩ (fJ (RI tm)):=by
 cases mv with
 |nil k=>
  cases hm with
  |nil=>
   cases k<;>simp only[a5A]at he<;>try (cases he;done)
   cases he;exact⟨[],rfl,rfl,fun i x y hx=>by simp at hx,IR.reads rfl (by simp[RI]) (by simp[RI])⟩
  |gone hi _ _=>simp[bn]at hi
 |map r=>
  simp only[a5A]at he;obtain⟨c,fU,g0,g3,g4,g5⟩:=CS hR.heap he;have htm:=a0T hm g0;subst htm;refine⟨fU,by simp only[a2L,g3],g4,fun i x y e1 e2=>⟨nO (g5 i x y e1 e2).1,nO (g5 i x y e1 e2).2⟩,IR.reads rfl (fun b hb=>?_) (by simp[RI])⟩;simp[RI]at hb;subst hb;exact⟨RJ g0,(a01.1 g3).1⟩
 |_=>simp[a5A]at he
theorem LW{a b:PV X.Γ}{x y:TV}(h1:VR X P A m h a x)(h2:VR X P A m h b y):VR X P A m h (.dG [a,b]) (.dG [x,y]):=by
 have:=(bU.nil (X:=X) (P:=P) (A:=A) (m:=m) (h:=h)).cons h2 |>.cons h1
 exact .dG this.1 this.2
theorem WM{e:LI2}{z:PV X.Γ}(h:O8 X P e=some z):∃i z0 z1,P.info? e=some i∧i.zero=some z0∧TV.Vo z0=some z1∧Yh z1=some z:=by
 unfold O8 at h;split at h
 .rename_i i hi;split at h
  .rename_i z0 hz0;split at h
   .rename_i z1 hz1;exact⟨i,z0,z1,hi,hz0,hz1,h⟩
   cases h
  cases h
 cases h
theorem a9B{ρ:Type}{y:ρ}{ps:aS X.Γ}{ts:St}(hR:uQ X P A m ps ts){t:LI2}{mv kv:PV X.Γ}{tm tk:TV}(hm:VR X P (AA A m) m ts.heap mv tm)(hk:VR X P (AA A m) m ts.heap kv tk){ok:Bool}{an:PT X.Γ}{c:PE X.Γ->PI->PT X.Γ->OT ρ}
  (hl:(Z8 X P t ps mv kv ok an c).Ends y):∃v pi GZ w,gU P t ts.heap tm tk ok=some w∧VR X P (AA A m) m ts.heap v w∧(c (.val v) pi GZ).Ends y∧IR m ts.heap pi (fJ (RI tm)):=by
 unfold Z8 at hl;split at hl
 .rename_i kt e tk' es hu htk Lh;have:=jM hk htk;subst this;obtain⟨fU,f1,f2,f3,f4⟩:=aee hR hm Lh;have fnd:∀{xu ks j k0 v},tk.yt=some xu->uV X es=some ks->uX P kt xu ks=some (some j)->es[j]? = some (k0,v)->∃w,gU P t ts.heap tm tk ok=some w∧VR X P (AA A m) m ts.heap (if ok then .dG [v,.bool true]else v) w:=by
   intro xu ks j k0 v Oj Ez Ol hj;have rY:=qV f2 f3 Ez;have aT:j<fU.length:=by rw[<-f2];exact(a01.1 hj).1
   have Eu:=a0a aT;have hv:=(f3 j _ _ hj Eu).2;refine⟨(if ok then .dG [fU[j].2,.bool true]else fU[j].2),?_,?_⟩
   .rw[Kr hu Oj f1];simp only[pG,rY,Ol,Eu]
   .cases ok with
    |true=>exact LW hv (.bool _)
    |false=>exact hv
  have non:∀{xu ks z},tk.yt=some xu->uV X es=some ks->uX P kt xu ks=some none->O8 X P e=some z->∃w,gU P t ts.heap tm tk ok=some w∧VR X P (AA A m) m ts.heap (if ok then .dG [z,.bool false]else z) w:=by
   intro xu ks z Oj Ez Ol hz;have rY:=qV f2 f3 Ez;obtain⟨i,z0,z1,hi,hz0,hz1,hz2⟩:=WM hz;refine⟨(if ok then .dG [z1,.bool false]else z1),?_,?_⟩
   .rw[Kr hu Oj f1];simp only[pG,rY,Ol,hi,hz0,hz1,a0j]
   .cases ok with
    |true=>exact LW (wE hz2) (.bool _)
    |false=>exact wE hz2
  split at hl
  .obtain⟨⟨xu,ks,j,k0,g1,g2,g3,g4⟩,hl⟩:=hl;obtain⟨w,w1,w2⟩:=fnd g1 g2 g3 g4;exact⟨_,_,_,w,w1,w2,hl,f4⟩
  .split at hl
   .rename_i z hz;obtain⟨⟨xu,ks,g1,g2,g3⟩,hl⟩:=hl;obtain⟨w,w1,w2⟩:=non g1 g2 g3 hz;exact⟨_,_,_,w,w1,w2,hl,f4⟩
   .exact hl.elim
  .split at hl
   .rename_i z hz;obtain⟨⟨xu,ks,g1,g2,g3⟩,hl⟩:=hl;obtain⟨w,w1,w2⟩:=non g1 g2 g3 hz;exact⟨_,_,_,w,w1,w2,hl,f4⟩
   .exact hl.elim
  .split at hl
   .rename_i xu ks Oj Ez;split at hl
    .rename_i j r _ _;split at hl
     .rename_i k0 v hj;obtain⟨Ol,hl⟩:=hl;obtain⟨w,w1,w2⟩:=fnd Oj Ez Ol hj;exact⟨_,_,_,w,w1,w2,hl,f4⟩
     .exact hl.elim
    .split at hl
     .rename_i z hz;obtain⟨Ol,hl⟩:=hl;obtain⟨w,w1,w2⟩:=non Oj Ez Ol hz;exact⟨_,_,_,w,w1,w2,hl,f4⟩
     .exact hl.elim
    .exact hl.elim
   .exact hl.elim
 .exact hl.elim
theorem a2M{x:TV}{v:PV X.Γ}(h:ZX x=some v):qM v=some x:=by cases x<;>simp only[ZX,a00,reduceCtorEq]at h<;>subst h<;>rfl
theorem Om:∀{x:List TV} {v:List (PV X.Γ)},BN x=some v->iJ v=some x
 | [],v,h=>by cases h;rfl
 |a::l,v,h=>by
  simp only[BN]at h;split at h
  .rename_i b bs h1 h2;cases h;simp only[iJ,a2M h1,Om h2]
  cases h
theorem a9C{x:TV}{v:PV X.Γ}(h:Yh x=some v):pU v=some x:=by
 cases x
 case agg cs=>
  simp only[Yh,a05]at h;obtain⟨w,h1,rfl⟩:=h;simp only[pU,Om h1,a0j]
 all_goals
  simp only[Yh,ZX,a00,reduceCtorEq]at h
  try subst h
  try rfl
theorem Zi{ps:aS X.Γ}{ts:St}(hR:uQ X P A m ps ts){r cb:Nat}{es0:List (TV×TV)}(g1:m[r]? = some (.fV cb))(f1:ts.heap[cb]? = some (.map es0))(en:List (PV X.Γ×PV X.Γ))(en':List (TV×TV))(h1:en.length=en'.length)
  (h2:∀(i:Nat) x y,en[i]? = some x->en'[i]? = some y->pU x.1=some y.1∧pU x.2=some y.2) :
  uQ X P A m { ps with heap:=ps.heap.set r (.map en) } { ts with heap:=ts.heap.set cb (.map en') }∧Fr m ts.heap m (ts.heap.set cb (.map en')):=by
 have aT:=(a01.1 f1).1;obtain⟨q1,q2⟩:=hR.heap.set (pb:=.map en) (hb:=.map en') g1 (c:=cb) rfl (fun cs hc=>by simp[aX,f1]at hc) fun hF=>⟨en',by simp[aT],h1,h2⟩;exact⟨hR.step q1 q2 .refl,q2⟩
theorem RN{es:List (PV X.Γ×PV X.Γ)}{fU:List (TV×TV)}(f2:es.length=fU.length)(f3:∀(i:Nat) x y,es[i]? = some x->fU[i]? = some y->pU x.1=some y.1∧pU x.2=some y.2){k v:PV X.Γ}{tk tv:TV}(h1:pU k=some tk)(h2:pU v=some tv) :
  ∀(i:Nat) x y,(es++[(k,v)])[i]? = some x->(fU++[(tk,tv)])[i]? = some y->pU x.1=some y.1∧pU x.2=some y.2:=fun i a b ha qy=>by
 rcases a4d i es.length with aT|Et
 .rw[a0b aT]at ha;rw[a0b (by rw[<-f2];exact aT)]at qy;exact f3 i a b ha qy
 .rw[a0S Et]at ha;rw[a0S (by rw[<-f2];exact Et),<-f2]at qy;cases hx:i-es.length with
  |zero=>
   rw[hx]at ha qy;simp only[a2r,a00]at ha qy;subst ha;subst qy;exact⟨h1,h2⟩
  |succ n=>rw[hx]at ha;simp at ha
theorem a5Q{ps:aS X.Γ}{ts:St}(hR:uQ X P A m ps ts){r:Nat}{es:List (PV X.Γ×PV X.Γ)}{tm:TV}(hb:ps.heap[r]? = some (.map es))(hm:VR X P (AA A m) m ts.heap (.map r) tm) :
  ∃cb fU,tm=.map cb∧m[r]? = some (.fV cb)∧ts.heap[cb]? = some (.map fU)∧es.length=fU.length∧∀(i:Nat) x y,es[i]? = some x->fU[i]? = some y->pU x.1=some y.1∧pU x.2=some y.2:=by
 obtain⟨mb,g1,g2⟩:=hR.heap.at_ r _ hb;cases mb with
 |fV cb=>
  obtain⟨fU,f1,f2,f3⟩:=g2;cases hm with
  |gone hi e' _=>simp only[bn,a00]at hi;subst hi;rw[g1]at e';cases e'
  |map e'=>rw[g1]at e';cases e';exact⟨cb,fU,rfl,g1,f1,f2,f3⟩
 |_=>exact g2.elim
theorem a9D{ρ:Type}{y:ρ}{ps:aS X.Γ}{ts:St}(hR:uQ X P A m ps ts){t:LI2}{mv kv:PV X.Γ}{tm tk:TV}(hm:VR X P (AA A m) m ts.heap mv tm)(hk:VR X P (AA A m) m ts.heap kv tk){an:PT X.Γ}{c:PE X.Γ->aS X.Γ->PI->PT X.Γ->OT ρ}
  (hl:(a5D X P t ps mv kv an c).Ends y):∃e e' ps1 pi GZ h1 ti,BQ P t ts tm tk=some (e',{ ts with heap:=h1 },ti)∧Iu X P (AA A m) m h1 e e'∧uQ X P A m ps1 { ts with heap:=h1 }∧Fr m ts.heap m h1∧(c e ps1 pi GZ).Ends y∧IR m ts.heap pi ti∧∀b,.h b∈ti.ws->b∈bg m:=by
 unfold a5D at hl;split at hl
 .rename_i kt e tk' r hu htk;have:=jM hk htk;subst this;split at hl
  .rename_i es hb;obtain⟨cb,fU,rfl,g1,f1,f2,f3⟩:=a5Q hR hb hm;have f3v:∀(i:Nat) x y,es[i]? = some x->fU[i]? = some y->VR X P (AA A m) m ts.heap x.1 y.1∧VR X P (AA A m) m ts.heap x.2 y.2:=fun i x y e1 e2=>⟨nO (f3 i x y e1 e2).1,nO (f3 i x y e1 e2).2⟩;have aT:=(a01.1 f1).1;split at hl
   .rename_i v _ j rest;split at hl
    case h_2=>exact hl.elim
    rename_i va vx;obtain⟨⟨xu,ks,old,ov,Oj,c1,Ez,c2,hj,hold,hov,c3⟩,hl⟩:=hl;have rY:=qV f2 f3v Ez;have Eu:j<fU.length:=by rw[<-f2];exact(a01.1 hj).1
    have Vq:=a0a Eu;have hy1:(fU[j]).1=old:=by
     have:(fU.map (·.1))[j]? = some (fU[j]).1:=by rw[a4j,Vq];rfl
     rw[rY,hold]at this;exact(a8R this).symm
    have htv:=(f3 j _ _ hj Vq).2;obtain⟨w1,w2⟩:=Zi hR g1 f1 es (fU.set j (tk,(fU[j]).2)) (by simp[f2]) fun i a b ha qy=>by
     by_cases e:j=i
     .subst e;rw[a4f,Vq]at qy;rw[hj]at ha;cases ha;cases qy;exact⟨htk,htv⟩
     .rw[a1l e]at qy;exact f3 i a b ha qy
    have EZ:ps.heap.set r (.map es)=ps.heap:=by
     refine a9r fun i=>?_;by_cases e:r=i
     .subst e;rw[a2c (a01.1 hb).1,hb]
     .rw[a1l e]
    rw[EZ]at w1;refine⟨.ent r j (.int va vx),.ent cb j (fU[j]).2,_,_,_,_,oO (.h cb),?_,⟨.map g1,rfl,htv⟩,w1,w2,hl,.wrH (iI g1 rfl) aT,fun b hb=>by simp[oO]at hb;subst hb;exact aZ g1 rfl⟩;have QC:fU[j].1=tk:=by have:=(f3 j _ _ hj Vq).1;rw[htk]at this;exact(a8R this).symm
    have Yi:fU[j].2=.int va vx:=by have h9:some (TV.int va vx)=some (fU[j]).2:=htv;exact(a8R h9).symm
    have VL:fU.set j (tk,(fU[j]).2)=fU:=by rw[show(tk,(fU[j]).2)=fU[j]from acV QC.symm rfl];exact List.set_getElem_self Eu
    have hl1:gU P t ts.heap (.map cb) tk false=some (.int va vx):=by unfold gU;simp only[hu,Oj,f1,pG,rY,c2,Vq,Yi,a2i,a3g]
    have hcb:ts.heap.set cb (.map fU)=ts.heap:=by
     refine a9r fun i=>?_;by_cases e:cb=i
     .subst e;rw[a2c aT,f1]
     .rw[a1l e]
    have h0:zQ P t ts (.map cb) tk=some (.ent cb j (fU[j]).2,{ ts with heap:=ts.heap.set cb (.map (fU.set j (tk,(fU[j]).2))) },oO (.h cb)):=by unfold zQ;simp only[hu,Oj,f1,c1,pG,rY,c2,Vq,hy1,hov,c3,a1U]
    unfold BQ;rw[h0];simp only[];rw[a0g];unfold ZY;rw[VL,hcb,hl1];simp
   .split at hl
    .rename_i va vx hz;obtain⟨⟨xu,q1,c1⟩,⟨abQ,ks,q2,Ez,c2⟩,⟨arS,ks2,q3,anR,c4⟩,hl⟩:=hl;rw[q1]at q2;cases q2;rw[q1]at q3;cases q3;obtain⟨i,z0,z1,hi,hz0,hz1,hz2⟩:=WM hz;have rY:=qV f2 f3v Ez;have hzt:=a9C hz2;obtain⟨w1,w2⟩:=Zi hR g1 f1 (es++[(kv,.int va vx)]) (fU++[(tk,z1)]) (by simp[f2]) (RN f2 f3 htk hzt);refine⟨.ent r es.length (.int va vx),.ent cb fU.length z1,_,_,_,_,oO (.h cb),?_,⟨.map g1,f2,hzt⟩,w1,w2,hl,.wrH (iI g1 rfl) aT,fun b hb=>by simp[oO]at hb;subst hb;exact aZ g1 rfl⟩;have Yi:z1=.int va vx:=by have h9:some (TV.int va vx)=some z1:=hzt;exact(a8R h9).symm
     have hl1:gU P t ts.heap (.map cb) tk false=some (.int va vx):=by unfold gU;simp only[hu,q1,f1,pG,rY,c2,hi,hz0,hz1,Yi,a0j,a2i,a3g]
     have aef:(fU++[(tk,z1)]).map (·.1)=ks2:=qV (P:=P) (A:=AA A m) (m:=m) (h:=ts.heap) (es:=es++[(kv,.int va vx)]) (by simp[f2]) (fun i x y e1 e2=>let ⟨a1,a2⟩:=RN f2 f3 htk hzt i x y e1 e2;⟨nO a1,nO a2⟩) anR;have TG:gU P t (ts.heap.set cb (.map (fU++[(tk,z1)]))) (.map cb) tk false=some (.int va vx):=by
      have e9:(fU++[(tk,z1)])[es.length]? = some (tk,z1):=by rw[f2];simp
      unfold gU;simp only[hu,q1,a2c aT,pG,aef,c4,e9,a2i,a3g];rw[Yi]
     have h0:zQ P t ts (.map cb) tk=some (.ent cb fU.length z1,{ ts with heap:=ts.heap.set cb (.map (fU++[(tk,z1)])) },oO (.h cb)):=by unfold zQ;simp only[hu,q1,f1,c1,pG,rY,c2,hi,hz0,hz1]
     unfold BQ;rw[h0];simp only[];rw[a0g];unfold ZY;rw[hl1,TG];simp
    .exact hl.elim
   .exact hl.elim
  .exact hl.elim
 .exact hl.elim
theorem a9F{ρ:Type}{y:ρ}{ps:aS X.Γ}{ts:St}(hR:uQ X P A m ps ts){mv v:PV X.Γ}{e:PE X.Γ}{tm tv:TV}{e':EV}(hm:VR X P (AA A m) m ts.heap mv tm)(he:Iu X P (AA A m) m ts.heap e e')(hv:VR X P (AA A m) m ts.heap v tv){c:aS X.Γ->PI->OT ρ}
  (hl:(a5E X ps mv e v c).Ends y):∃ps1 pi h1 ti,FZ ts tm e' tv=some ({ ts with heap:=h1 },ti)∧uQ X P A m ps1 { ts with heap:=h1 }∧Fr m ts.heap m h1∧(c ps1 pi).Ends y∧IR m ts.heap pi ti∧∀b,.h b∈ti.ws->b∈bg m:=by
 unfold a5E at hl;split at hl
 .rename_i r r' j tv' htv;have:=jM hv htv;subst this;split at hl
  .rename_i hrr;subst hrr;split at hl
   .rename_i es hb;obtain⟨hj,hl⟩:=hl;obtain⟨cb,fU,rfl,g1,f1,f2,f3⟩:=a5Q hR hb hm;obtain⟨c',rfl,hm'⟩:=LU he;have hc:c'=cb:=by
     cases hm' with
     |gone hi e' _=>simp only[bn,a00]at hi;subst hi;rw[g1]at e';cases e'
     |map e'=>rw[g1]at e';cases e';rfl
    subst hc;have aT:=(a01.1 f1).1;have Eu:j<fU.length:=by rw[<-f2];exact hj
    have Vq:=a0a Eu;obtain⟨w1,w2⟩:=Zi hR g1 f1 (IX es j v) (fU.set j ((fU[j]).1,tv)) (by unfold IX;simp[f2]) fun i a b ha qy=>by
     unfold IX at ha;rw[adH]at ha;by_cases e:j=i
     .subst e;rw[a4f,Vq]at qy;simp only[a1U,a0a hj,Option.map_eq_map,a0j,a00]at ha;subst ha;cases qy;exact⟨(f3 j _ _ (a0a hj) Vq).1,htv⟩
     .rw[a1l e]at qy;have ha:es[i]? = some a:=(by simpa[e]using ha);exact f3 i a b ha qy
    refine⟨_,_,_,oO (.h c'),?_,w1,w2,hl,.wrH (iI g1 rfl) aT,fun b hb=>by simp[oO]at hb;subst hb;exact aZ g1 rfl⟩;unfold FZ;simp only[a1U,f1,Vq]
   .exact hl.elim
  .exact hl.elim
 .exact hl.elim
theorem a5S{ρ:Type}{y:ρ}{ps:aS X.Γ}{ts:St}(hR:uQ X P A m ps ts){t:LI2}{mv kv v:PV X.Γ}{tm tk tv:TV}(hm:VR X P (AA A m) m ts.heap mv tm)(hk:VR X P (AA A m) m ts.heap kv tk)(hv:VR X P (AA A m) m ts.heap v tv){an:PT X.Γ}{c:aS X.Γ->PI->PT X.Γ->OT ρ}
  (hl:(a5B X P t ps mv kv v an c).Ends y):∃ps1 pi GZ h1 ti,xE P t ts tm tk tv=some ({ ts with heap:=h1 },ti)∧uQ X P A m ps1 { ts with heap:=h1 }∧Fr m ts.heap m h1∧(c ps1 pi GZ).Ends y∧IR m ts.heap pi ti∧∀b,.h b∈ti.ws->b∈bg m:=by
 unfold a5B at hl;split at hl
 .rename_i kt e tk' r tv' hu htk htv;have:=jM hk htk;subst this;have:=jM hv htv;subst this;split at hl
  .rename_i es hb;obtain⟨mb,g1,g2⟩:=hR.heap.at_ r _ hb;cases mb with
   |fV cb=>
    obtain⟨fU,f1,f2,f3⟩:=g2;have f3v:∀(i:Nat) x y,es[i]? = some x->fU[i]? = some y->VR X P (AA A m) m ts.heap x.1 y.1∧VR X P (AA A m) m ts.heap x.2 y.2:=fun i x y e1 e2=>⟨nO (f3 i x y e1 e2).1,nO (f3 i x y e1 e2).2⟩;cases hm with
    |gone hi e' _=>simp only[bn,a00]at hi;subst hi;rw[g1]at e';cases e'
    |map e'=>
     rw[g1]at e';cases e';have aT:=(a01.1 f1).1;have wr:∀(en:List (PV X.Γ×PV X.Γ)) (en':List (TV×TV)),en.length=en'.length->(∀(i:Nat) x y,en[i]? = some x->en'[i]? = some y->pU x.1=some y.1∧pU x.2=some y.2) ->
       uQ X P A m { ps with heap:=ps.heap.set r (.map en) } { ts with heap:=ts.heap.set cb (.map en') }∧Fr m ts.heap m (ts.heap.set cb (.map en')):=by
      intro en en' h1 h2;obtain⟨q1,q2⟩:=hR.heap.set (pb:=.map en) (hb:=.map en') g1 (c:=cb) rfl (fun cs hc=>by simp[aX,f1]at hc) fun hF=>⟨en',by simp[aT],h1,h2⟩;exact⟨hR.step q1 q2 .refl,q2⟩
     have new:∀{xu ks},tk.yt=some xu->uV X es=some ks->aB P (Instr.checkKey false 10000 kt xu)=some ()->uX P kt xu ks=some none ->
       xE P t ts (.map cb) tk tv=some ({ ts with heap:=ts.heap.set cb (.map (fU++[(tk,tv)])) },oO (.h cb))∧uQ X P A m { ps with heap:=ps.heap.set r (.map (es++[(kv,v)])) } { ts with heap:=ts.heap.set cb (.map (fU++[(tk,tv)])) }∧Fr m ts.heap m (ts.heap.set cb (.map (fU++[(tk,tv)]))):=by
      intro xu ks Oj Ez c1 c2;have rY:=qV f2 f3v Ez;obtain⟨w1,w2⟩:=wr (es++[(kv,v)]) (fU++[(tk,tv)]) (by simp[f2]) fun i a b ha qy=>by
       rcases a4d i es.length with aT|Et
       .rw[a0b aT]at ha;rw[a0b (by rw[<-f2];exact aT)]at qy;exact f3 i a b ha qy
       .rw[a0S Et]at ha;rw[a0S (by rw[<-f2];exact Et),<-f2]at qy;cases hx:i-es.length with
        |zero=>
         rw[hx]at ha qy;simp only[a2r,a00]at ha qy;subst ha;subst qy;exact⟨htk,htv⟩
        |succ n=>rw[hx]at ha;simp at ha
      refine⟨?_,w1,w2⟩;unfold xE;simp only[hu,Oj,f1,c1,pG,rY,c2]
     split at hl
     .obtain⟨⟨xu,q1,c1⟩,⟨abQ,ks,q2,Ez,c2⟩,hl⟩:=hl;rw[q1]at q2;cases q2;obtain⟨u1,u2,u3⟩:=new q1 Ez c1 c2;exact⟨_,_,_,_,oO (.h cb),u1,u2,u3,hl,.wrH (iI g1 rfl) aT,fun b hb=>by simp[oO]at hb;subst hb;exact aZ g1 rfl⟩
     .obtain⟨⟨xu,q1,c1⟩,⟨abQ,ks,q2,Ez,c2⟩,hl⟩:=hl;rw[q1]at q2;cases q2;obtain⟨u1,u2,u3⟩:=new q1 Ez c1 c2;exact⟨_,_,_,_,oO (.h cb),u1,u2,u3,hl,.wrH (iI g1 rfl) aT,fun b hb=>by simp[oO]at hb;subst hb;exact aZ g1 rfl⟩
     .obtain⟨⟨xu,ks,j,old,ov,Oj,c1,Ez,c2,hj,hold,hov,c3⟩,hl⟩:=hl;have rY:=qV f2 f3v Ez;have Eu:∃y0,fU[j]? = some y0:=by
       have:j<fU.length:=by rw[<-f2];exact(a01.1 hj).1
       exact⟨_,a0a this⟩
      obtain⟨y0,Vq⟩:=Eu;have hy1:y0.1=old:=by
       have:(fU.map (·.1))[j]? = some y0.1:=by rw[a4j,Vq];rfl
       rw[rY,hold]at this;exact(a8R this).symm
      obtain⟨w1,w2⟩:=wr es (fU.set j (tk,tv)) (by simp[f2]) fun i a b ha qy=>by
       by_cases e:j=i
       .subst e;rw[a4f]at qy;rw[hj]at ha;rw[Vq]at qy;cases ha;cases qy;exact⟨htk,htv⟩
       .rw[a1l e]at qy;exact f3 i a b ha qy
      have EZ:ps.heap.set r (.map es)=ps.heap:=by
       refine a9r fun i=>?_;by_cases e:r=i
       .subst e;rw[a2c (a01.1 hb).1,hb]
       .rw[a1l e]
      rw[EZ]at w1;refine⟨_,_,_,_,oO (.h cb),?_,w1,w2,hl,.wrH (iI g1 rfl) aT,fun b hb=>by simp[oO]at hb;subst hb;exact aZ g1 rfl⟩;unfold xE;simp only[hu,Oj,f1,c1,pG,rY,c2,Vq,hy1,hov,c3,a1U]
     .split at hl
      .rename_i xu ks Oj Ez;have rY:=qV f2 f3v Ez;split at hl
       .rename_i j rest _ _ _;split at hl
        .rename_i x0 old hj hold;split at hl
         .rename_i ov hov;obtain⟨c1,c2,c3,hl⟩:=hl;have Eu:∃y0,fU[j]? = some y0:=by
           have:j<fU.length:=by rw[<-f2];exact(a01.1 hj).1
           exact⟨_,a0a this⟩
          obtain⟨y0,Vq⟩:=Eu;have hy1:y0.1=old:=by
           have:(fU.map (·.1))[j]? = some y0.1:=by rw[a4j,Vq];rfl
           rw[rY,hold]at this;exact(a8R this).symm
          obtain⟨w1,w2⟩:=wr (es.set j (kv,v)) (fU.set j (tk,tv)) (by simp[f2]) fun i a b ha qy=>by
           by_cases e:j=i
           .subst e;rw[a4f]at ha qy;rw[hj]at ha;rw[Vq]at qy;cases ha;cases qy;exact⟨htk,htv⟩
           .rw[a1l e]at ha qy;exact f3 i a b ha qy
          refine⟨_,_,_,_,oO (.h cb),?_,w1,w2,hl,.wrH (iI g1 rfl) aT,fun b hb=>by simp[oO]at hb;subst hb;exact aZ g1 rfl⟩;unfold xE;simp only[hu,Oj,f1,c1,pG,rY,c2,Vq,hy1,hov,c3,a1U]
         .exact hl.elim
        .exact hl.elim
       .obtain⟨c1,c2,hl⟩:=hl;obtain⟨u1,u2,u3⟩:=new Oj Ez c1 c2;exact⟨_,_,_,_,oO (.h cb),u1,u2,u3,hl,.wrH (iI g1 rfl) aT,fun b hb=>by simp[oO]at hb;subst hb;exact aZ g1 rfl⟩
       .exact hl.elim
      .exact hl.elim
   |_=>exact g2.elim
  .exact hl.elim
 .exact hl.elim
end
open Go Tw
theorem jZ{m:List MB}{b:Nat}(h:b∈bg m):∃i,FC m i b:=by obtain⟨mb,h1,h2⟩:=a6G.1 h;obtain⟨i,hi⟩:=a8E h1;exact⟨i,mb,hi,h2⟩
section
variable {X:kJ} {P:LI1} {A B:Nat->Prop} {m m1:List MB} {h:List HB} {g:Nat->Option Nat}
theorem jA:∀{m:List MB},(∀i j c,FC m i c->FC m j c->i=j)->(bg m).Nodup
 | [],_=>by simp[bg]
 |x::m,hu=>by
  have ih:(bg m).Nodup:=jA fun i j c h1 h2=>by have:=hu (i+1) (j+1) c (by obtain⟨mb,a,b⟩:=h1;exact⟨mb,by simpa using a,b⟩) (by obtain⟨mb,a,b⟩:=h2;exact⟨mb,by simpa using a,b⟩);omega
  unfold bg at ih ⊢;rw[a8P];split
  .exact ih
  rename_i b hb;refine a4k.2 ⟨fun hm=>?_,ih⟩;obtain⟨i,mb,h1,h2⟩:=jZ (m:=m) hm;have:=hu 0 (i+1) b ⟨x,rfl,hb⟩ ⟨mb,by simpa using h1,h2⟩;omega
theorem Oo:∀{ks:List Nat} {i p:Nat},wu ks i=some p->ks[p]? = some i
 | [],i,p,h=>by cases h
 |a::ks,i,p,h=>by
  simp only[wu]at h;split at h
  .rename_i e;cases h;simp[e]
  simp only[a05]at h;obtain⟨q,h1,rfl⟩:=h;simpa using Oo h1
section
variable {g:Nat->Option Nat} {m1:List MB}
theorem DT(hg:∀i j,g i=some j->m1[j]? = m[i]?){B:Nat->Prop}(hA:∀b,A b->B b)(hX:bP X P){v:PV X.Γ}{x:TV}(hv:VR X P A m h v x):∀{w:PV X.Γ},fE g v=some w->VR X P B m1 h w x:=by
 have lists:∀{vs:List (PV X.Γ)} {xs:List TV},vs.length=xs.length->(∀(i:Nat) a b,vs[i]? = some a->xs[i]? = some b->∀{w:PV X.Γ},fE g a=some w->VR X P B m1 h w b)->∀{ws:List (PV X.Γ)},fE.oN g vs=some ws->ws.length=xs.length∧∀(i:Nat) a b,ws[i]? = some a->xs[i]? = some b->VR X P B m1 h a b:=by
  intro vs
  induction vs with
  |nil=>
   intro xs hl _ ws hw;simp only[fE.oN,a00]at hw;subst hw;exact⟨hl,fun i a b ha=>by simp at ha⟩
  |cons v vs ih=>
   intro xs hl hh ws hw;cases xs with
   |nil=>simp at hl
   |cons x xs=>
    simp only[fE.oN]at hw;split at hw
    .rename_i w Vy h1 h2;cases hw;obtain⟨e1,e2⟩:=ih (xs:=xs) (by simpa using hl) (fun i a b ha hb=>hh (i+1) a b (by simpa using ha) (by simpa using hb)) h2;refine⟨by simp[e1],fun i a b ha hb=>?_⟩;cases i with
     |zero=>simp only[a2r,a00]at ha hb;subst ha;subst hb;exact hh 0 v x rfl rfl h1
     |succ i=>exact e2 i a b (by simpa using ha) (by simpa using hb)
    cases hw
 induction hv with
 |bool=>intro w hw;simp only[fE,a00]at hw;subst hw;exact .bool _
 |lit=>intro w hw;simp only[fE,a00]at hw;subst hw;exact .lit _
 |int=>intro w hw;simp only[fE,a00]at hw;subst hw;exact .int _ _
 |str=>intro w hw;simp only[fE,a00]at hw;subst hw;exact .str _
 |nil=>intro w hw;simp only[fE,a00]at hw;subst hw;exact .nil _
 |ptr e=>intro w hw;simp only[fE,a05]at hw;obtain⟨j,h1,rfl⟩:=hw;exact .ptr (by rw[hg _ _ h1];exact e)
 |aP e=>intro w hw;simp only[fE,a05]at hw;obtain⟨j,h1,rfl⟩:=hw;exact .aP (by rw[hg _ _ h1];exact e)
 |own e o=>intro w hw;simp only[fE,a05]at hw;obtain⟨j,h1,rfl⟩:=hw;exact .own (by rw[hg _ _ h1];exact e) o
 |win e q q' q2=>intro w hw;simp only[fE,a05]at hw;obtain⟨j,h1,rfl⟩:=hw;exact .win (by rw[hg _ _ h1];exact e) q q' q2
 |BF e=>intro w hw;simp only[fE,a05]at hw;obtain⟨j,h1,rfl⟩:=hw;exact .BF (by rw[hg _ _ h1];exact e)
 |FU e=>intro w hw;simp only[fE,a05]at hw;obtain⟨j,h1,rfl⟩:=hw;exact .FU (by rw[hg _ _ h1];exact e)
 |IY e=>intro w hw;simp only[fE,a05]at hw;obtain⟨j,h1,rfl⟩:=hw;exact .IY (by rw[hg _ _ h1];exact e)
 |map e=>intro w hw;simp only[fE,a05]at hw;obtain⟨j,h1,rfl⟩:=hw;exact .map (by rw[hg _ _ h1];exact e)
 |iter e=>intro w hw;simp only[fE,a05]at hw;obtain⟨j,h1,rfl⟩:=hw;exact .iter (by rw[hg _ _ h1];exact e)
 |kG e=>intro w hw;simp only[fE,a05]at hw;obtain⟨j,h1,rfl⟩:=hw;exact .kG (by rw[hg _ _ h1];exact e)
 |row e j q=>intro w hw;simp only[fE,a05]at hw;obtain⟨j,h1,rfl⟩:=hw;exact .row (by rw[hg _ _ h1];exact e) (by assumption) q
 |fn h1 _ h3 _ i2 i4=>
  intro w hw;simp only[fE]at hw;split at hw
  .rename_i a c ha hc;cases hw;obtain⟨e1,e2⟩:=lists h1 i2 ha;obtain⟨e3,e4⟩:=lists h3 i4 hc;exact .fn e1 e2 e3 e4
  cases hw
 |agg h1 _ i2=>
  intro w hw;simp only[fE,a05]at hw;obtain⟨cs,hc,rfl⟩:=hw;obtain⟨e1,e2⟩:=lists h1 i2 hc;exact .agg e1 e2
 |dG h1 _ i2=>
  intro w hw;simp only[fE,a05]at hw;obtain⟨cs,hc,rfl⟩:=hw;obtain⟨e1,e2⟩:=lists h1 i2 hc;exact .dG e1 e2
 |oW=>intro w hw;simp only[fE,a00]at hw;subst hw;exact .oW
 |dB a c c2 s z o k f e r _=>intro w hw;simp only[fE,a00]at hw;subst hw;exact .dB (hA _ a) c c2 s z o k f e fun j y i d v h1 h2 h3=>((r j y i d v h1 h2 h3).mono hA).jk hX (fH (hX.jk _ _) h2)
 |el a c l o e q r _=>intro w hw;simp only[fE,a00]at hw;subst hw;exact .el (hA _ a) c l o e q fun i d v h1 h2=>((r i d v h1 h2).mono hA).jk hX (fH (hX.jk _ _) h1)
 |gone i e o=>
  intro w hw;rename_i v _ x;have:∃j,bn w=some j∧CP w x m1[j]?:=by cases v<;>simp[bn]at i<;>subst i<;>simp only[fE,a05]at hw<;>obtain⟨j,h1,rfl⟩:=hw<;>exact⟨j,rfl,by rw[hg _ _ h1];exact e.as fun c=>rfl⟩
  obtain⟨j,h1,h2⟩:=this;exact .gone h1 h2 o
variable {B:Nat->Prop}
theorem zk(hX:bP X P)(hg:∀i j,g i=some j->m1[j]? = m[i]?)(hA:∀b,A b->B b):∀{vs:List (PV X.Γ)} {xs:List TV} {ws:List (PV X.Γ)},bU X P A m h vs xs->fE.oN g vs=some ws->bU X P B m1 h ws xs
 | [],xs,ws,hv,hw=>by simp only[fE.oN,a00]at hw;subst hw;rw[hv.inv0];exact .nil
 |v::vs,xs,ws,hv,hw=>by
  obtain⟨x,r,rfl,h1,h2⟩:=hv.inv;simp only[fE.oN]at hw;split at hw
  .rename_i w Vy g1 g2;cases hw;exact .cons (DT hg hA hX h1 g1) (zk hX hg hA h2 g2)
  cases hw
theorem Oq(hX:bP X P)(hg:∀i j,g i=some j->m1[j]? = m[i]?)(hA:∀b,A b->B b){env:List (Nat×PE X.Γ)}{env':List (Nat×EV)}(he:jS X P A m h env env'):∀{r:List (Nat×PE X.Γ)},oM g env=some r->jS X P B m1 h r env':=by
 induction he with
 |nil=>intro r h;simp only[oM,a00]at h;subst h;exact .nil
 |cons h1 h2 ih=>
  rename_i k v x q q';intro r hr;simp only[oM]at hr;split at hr
  rotate_left
  .cases hr
  rename_i w r' e1 e2;cases hr;refine .cons ?_ (ih e2);cases v with
  |val v=>
   obtain⟨y,rfl,h3⟩:=fQ h1;simp only[O7,a05]at e1;obtain⟨u,e3,rfl⟩:=e1;exact nP (DT hg hA hX h3 e3)
  |loc a b=>simp only[O7,a00]at e1;subst e1;rw[DN h1];exact⟨rfl,rfl⟩
  |undef=>simp only[O7,a00]at e1;subst e1;rw[J3 h1];trivial
  |ent r j v=>
   obtain⟨c,y,rfl,h3,h4⟩:=LQ h1;simp only[O7,a05]at e1;obtain⟨u,e3,rfl⟩:=e1;exact⟨DT hg hA hX h3 (w:=.map u) (by simp only[fE,e3,a0j]),rfl,h4⟩
  |Ee r j=>
   obtain⟨c,rfl,h3⟩:=LU h1;simp only[O7,a05]at e1;obtain⟨u,e3,rfl⟩:=e1;exact⟨DT hg hA hX h3 (w:=.map u) (by simp only[fE,e3,a0j]),rfl⟩
theorem DU(hX:bP X P)(hg:∀i j,g i=some j->m1[j]? = m[i]?)(hA:∀b,A b->B b){b b':PB X.Γ}{mb:MB}(hn:∀c,mb=.jl c->c∉bg m->c∉bg m1)(hb:BR X P A m h b mb)(hr:zf g b=some b'):BR X P B m1 h b' mb:=by
 cases b with
 |cells cs=>
  cases mb with
  |fV c=>
   simp only[zf,a05]at hr;obtain⟨cs',h1,rfl⟩:=hr;obtain⟨xs,h2,h3⟩:=hb;exact⟨xs,h2,zk hX hg hA h3 h1⟩
  |_=>exact hb.elim
 |aF cs=>
  cases mb with
  |jl c=>
   simp only[zf,a05]at hr;obtain⟨cs',h1,rfl⟩:=hr;obtain⟨h0,xs,h2,h3⟩:=hb;exact⟨hn c rfl h0,xs,h2,zk hX hg hA h3 h1⟩
  |_=>exact hb.elim
 |list k ex t l=>
  cases mb with
  |dB y=>
   simp only[zf,a00]at hr;subst hr;cases(hb:LR X P A m h k ex t l y)with
   |nil=>exact LR.nil
   |emp p0 p1 p2 p3 p4=>exact LR.emp (hA _ p0) p1 p2 p3 p4
   |some p1 p2 p3 p4 p5 p6 p7 p8 p9=>exact LR.some p1 p2 p3 p4 p5 p6 p7 p8 ((p9.mono hA).jk hX)
  |_=>exact hb.elim
 |map es=>
  cases mb with
  |fV c=>
   simp only[zf,a00]at hr;subst hr;exact hb
  |_=>exact hb.elim
 |mP cs=>
  cases mb with
  |fV c=>
   simp only[zf,a00]at hr;subst hr;exact hb
  |_=>exact hb.elim
 |iD es=>
  cases mb with
  |jl c=>
   simp only[zf,a00]at hr;subst hr;exact⟨hn c rfl hb.1,hb.2⟩
  |_=>exact hb.elim
 |cO r n seen=>
  cases mb with
  |fV b=>
   simp only[zf,a05]at hr;obtain⟨j,h1,rfl⟩:=hr;obtain⟨c,h2,h3,h4⟩:=hb;exact⟨c,h2,by rw[hg _ _ h1];exact h3,fun c' hc=>h4 c' (by rw[<-hg _ _ h1];exact hc)⟩
  |_=>exact hb.elim
 |mark=>
  cases mb with
  |fV c=>simp only[zf,a00]at hr;subst hr;exact hb
  |_=>exact hb.elim
 |loop rd f nt env ps a c jI=>
  cases mb with
  |fV cb=>
   simp only[zf,a05]at hr;obtain⟨atX,h1,rfl⟩:=hr;obtain⟨xs,h2,h3⟩:=hb;exact⟨xs,h2,Oq hX hg hA h3 h1⟩
  |_=>exact hb.elim
 |gone=>
  cases mb with
  |gone=>simp only[zf,a00]at hr;subst hr;trivial
  |_=>exact hb.elim
theorem sQ:∀{bs r:List (PB X.Γ)},nK g bs=some r->r.length=bs.length∧∀{i:Nat} {b':PB X.Γ},r[i]? = some b'->∃b,bs[i]? = some b∧zf g b=some b'
 | [],r,h=>by simp only[nK,a00]at h;subst h;exact⟨rfl,fun{i b'} hi=>by simp at hi⟩
 |b::bs,r,h=>by
  simp only[nK]at h;split at h
  .rename_i c cs h1 h2;cases h;obtain⟨e1,e2⟩:=sQ h2;refine⟨by simp[e1],fun{i b'} hi=>?_⟩;cases i with
   |zero=>simp only[a2r,a00]at hi;subst hi;exact⟨b,rfl,h1⟩
   |succ i=>obtain⟨d,q1,q2⟩:=e2 (i:=i) (by simpa using hi);exact⟨d,by simpa using q1,q2⟩
  cases h
theorem Ot:∀{bs r:List (List (PV X.Γ))},Wu g bs=some r->r.length=bs.length∧∀{i:Nat} {b':List (PV X.Γ)},r[i]? = some b'->∃b,bs[i]? = some b∧fE.oN g b=some b'
 | [],r,h=>by simp only[Wu,a00]at h;subst h;exact⟨rfl,fun{i b'} hi=>by simp at hi⟩
 |b::bs,r,h=>by
  simp only[Wu]at h;split at h
  .rename_i c cs h1 h2;cases h;obtain⟨e1,e2⟩:=Ot h2;refine⟨by simp[e1],fun{i b'} hi=>?_⟩;cases i with
   |zero=>simp only[a2r,a00]at hi;subst hi;exact⟨b,rfl,h1⟩
   |succ i=>obtain⟨d,q1,q2⟩:=e2 (i:=i) (by simpa using hi);exact⟨d,by simpa using q1,q2⟩
  cases h
theorem DV:∀{ks:List Nat} {H r:List (PB X.Γ)},CJ H ks=some r->r.length=ks.length∧∀{i k:Nat},ks[i]? = some k->∃b,H[k]? = some b∧r[i]? = some b
 | [],H,r,h=>by simp only[CJ,a00]at h;subst h;exact⟨rfl,fun{i k} hi=>by simp at hi⟩
 |k::ks,H,r,h=>by
  simp only[CJ]at h;split at h
  .rename_i b rs h1 h2;cases h;obtain⟨e1,e2⟩:=DV h2;refine⟨by simp[e1],fun{i j} hi=>?_⟩;cases i with
   |zero=>simp only[a2r,a00]at hi;subst hi;exact⟨b,h1,rfl⟩
   |succ i=>obtain⟨d,q1,q2⟩:=e2 (i:=i) (k:=j) (by simpa using hi);exact⟨d,q1,by simpa using q2⟩
  cases h
end
theorem sS{α:Type}:∀{ks:List Nat} {bs l:List α},(putAt ks bs l).length=l.length
 | [],_,_=>rfl
 |_::_,[],_=>rfl
 |k::ks,b::bs,l=>by simp only[putAt];rw[sS,a4n]
theorem Ou{α:Type}:∀{ks:List Nat} {bs l:List α} {p i:Nat},ks.Nodup->(∀k∈ks,k<l.length)->ks.length<=bs.length->ks[p]? = some i->(putAt ks bs l)[i]? = bs[p]?
 | [],_,_,p,i,_,_,_,h=>by simp at h
 |a::ks,[],_,_,_,_,_,hl,_=>by simp at hl
 |a::ks,b::bs,l,0,i,hn,hk,hl,h=>by
  simp only[a2r,a00]at h;subst h;have hn:=a4k.1 hn;simp only[putAt];have:∀{ks:List Nat} {bs l:List α} {i:Nat},i∉ks->(putAt ks bs l)[i]? = l[i]?:=by
   intro ks
   induction ks with
   |nil=>intro bs l i _;rfl
   |cons c ks ih=>
    intro bs l i hi;simp only[a2d,adl]at hi;cases bs with
    |nil=>rfl
    |cons b bs=>simp only[putAt];rw[ih hi.2,a1l (fun e=>hi.1 e.symm)]
  rw[this hn.1,a2c (hk a (a2O ..))];rfl
 |a::ks,b::bs,l,p+1,i,hn,hk,hl,h=>by simp only[a9p]at h;simp only[putAt];rw[Ou (a4k.1 hn).2 (fun k o8=>by rw[a4n];exact hk k (a2P _ o8)) (by simpa using hl) h];rfl
theorem J5{α:Type}:∀{ks:List Nat} {bs l:List α} {i:Nat},i∉ks->(putAt ks bs l)[i]? = l[i]?
 | [],_,_,_,_=>rfl
 |a::ks,[],_,_,_=>rfl
 |a::ks,b::bs,l,i,hi=>by simp only[a2d,adl]at hi;simp only[putAt];rw[J5 hi.2,a1l (fun e=>hi.1 e.symm)]
def WO(X:kJ)(P:LI1)(call:aY)(fv:PV X.Γ)(xs:List (PV X.Γ))(H:List (PB X.Γ))(v:PV X.Γ)(H1:List (PB X.Γ))(W:Nat->Prop):Prop:=
 ∀(A:Nat->Prop) (m:List MB) (h:List HB) (tf:TV) (qU:List TV),HR X P A m H h->VR X P (AA A m) m h fv tf->bU X P (AA A m) m h xs qU ->
  ∃w h1 ws m1,call tf qU h=some (w,h1,ws)∧HR X P A m1 H1 h1∧VR X P (AA A m1) m1 h1 v w∧Fr m h m1 h1∧Up m m1∧∀b∈ws,∃k,W k∧FC m k b
theorem dD.w{call:aY}{fv v:PV X.Γ}{xs:List (PV X.Γ)}{H H1:List (PB X.Γ)}(h:dD X P call fv xs H v H1):WO X P call fv xs H v H1 fun _=>True:=fun A m h0 tf qU a b c=>by obtain⟨w,h1,ws,m1,c1,c2,c3,c4,c5,c6⟩:=h A m h0 tf qU a b c;exact⟨w,h1,ws,m1,c1,c2,c3,c4,c5,fun b hb=>by obtain⟨i,hi⟩:=jZ (c6 b hb);exact⟨i,trivial,hi⟩⟩
theorem LX:∀{H:List (PB X.Γ)} {i:Nat} {b:PB X.Γ},IW H=true->H[i]? = some b->IW [b]=true
 | [],_,_,_,h=>by simp at h
 |a::H,0,b,hn,h=>by simp only[a2r,a00]at h;subst h;cases a<;>simp_all [IW]
 |a::H,i+1,b,hn,h=>by
  have Dz:IW H=true:=by cases a<;>simp_all [IW]
  exact LX Dz (by simpa using h)
def SwM(m m':List MB):Prop:=∀i:Nat,m'[i]? = m[i]?∨(∃c,m[i]? = some (.fV c)∧m'[i]? = some (.jl c))∨∃c,m[i]? = some (.jl c)∧m'[i]? = some (.fV c)
section
variable {m':List MB}
theorem VR.sw(hm:SwM m m')(hA:∀b,A b->B b){v:PV X.Γ}{x:TV}(hv:VR X P A m h v x):VR X P B m' h v x:=by
 have hl:∀{i:Nat} {x:TV},m[i]? = some (.dB x)->m'[i]? = some (.dB x):=fun{i x} e=>by
  rcases hm i with g|⟨c,g,_⟩|⟨c,g,_⟩
  .rw[g,e]
  .rw[e]at g;cases g
  rw[e]at g;cases g
 have hb:∀{i c:Nat},m[i]? = some (.fV c)->m'[i]? = some (.fV c)∨m'[i]? = some (.jl c):=fun{i c} e=>by
  rcases hm i with g|⟨c',g,g2⟩|⟨c',g,_⟩
  .exact .inl (by rw[g,e])
  .rw[e]at g;cases g;exact .inr g2
  rw[e]at g;cases g
 induction hv with
 |bool=>exact .bool _
 |lit=>exact .lit _
 |int=>exact .int _ _
 |str=>exact .str _
 |nil=>exact .nil _
 |ptr e=>rcases hb e with e|e;exact .ptr e;exact .gone rfl (.ofR e rfl) rfl
 |aP e=>rcases hb e with e|e;exact .aP e;exact .gone rfl (.ofR e rfl) rfl
 |own e o=>exact .own (hl e) o
 |win e q q' q2=>exact .win (hl e) q q' q2
 |BF e=>exact .BF (hl e)
 |FU e=>exact .FU (hl e)
 |IY e=>exact .IY (hl e)
 |map e=>rcases hb e with e|e;exact .map e;exact .gone rfl (.ofR e rfl) rfl
 |iter e=>rcases hb e with e|e;exact .iter e;exact .gone rfl (.ofR e rfl) rfl
 |fn h1 _ h3 _ i2 i4=>exact .fn h1 i2 h3 i4
 |kG e=>rcases hb e with e|e;exact .kG e;exact .gone rfl (.ofR e rfl) rfl
 |agg h1 _ i2=>exact .agg h1 i2
 |dG h1 _ i2=>exact .dG h1 i2
 |oW=>exact .oW
 |dB a c c2 s z o k f e _ ih=>exact .dB (hA _ a) c c2 s z o k f e ih
 |el a c l o e q _ ih=>exact .el (hA _ a) c l o e q ih
 |row e j q=>exact .row (hl e) j q
 | @gone v i x hi e o=>
  generalize hq:m[i]? = q at e;cases e with
  |g=>
   rcases hm i with g|⟨c,g,_⟩|⟨c,g,_⟩
   .exact .gone hi (.of (by rw[g,hq])) o
   .rw[hq]at g;cases g
   rw[hq]at g;cases g
  |r c hv=>
   rcases hm i with g|⟨c',g,_⟩|⟨c',g,g2⟩
   .exact .gone hi (.ofR (by rw[g,hq]) hv) o
   .rw[hq]at g;cases g
   rw[hq]at g;cases g;cases v<;>simp only[roV,a00]at hv<;>first|cases hv;done|skip
   all_goals (subst hv;simp only[bn,a00]at hi;subst hi)
   .exact .ptr g2
   .exact .aP g2
   .exact .map g2
   .exact .kG g2
   exact .iter g2
theorem bU.sw(hm:SwM m m')(hA:∀b,A b->B b){v:List (PV X.Γ)}{x:List TV}(hv:bU X P A m h v x):bU X P B m' h v x:=
 ⟨hv.1,fun i a b ha hb=>(hv.2 i a b ha hb).sw hm hA⟩
theorem jS.sw(hm:SwM m m')(hA:∀b,A b->B b){v:List (Nat×PE X.Γ)}{x:List (Nat×EV)}(hv:jS X P A m h v x):jS X P B m' h v x:=by
 induction hv with
 |nil=>exact .nil
 |cons h1 _ ih=>
  refine .cons ?_ ih;rename_i v x _ _ _;cases v<;>cases x<;>first|exact VR.sw hm hA h1|exact h1|exact⟨VR.sw hm hA h1.1,h1.2⟩
theorem BR.sw(hm:SwM m m')(hA:∀b,A b->B b){b:PB X.Γ}{mb:MB}(hn:∀c,mb=.jl c->c∉bg m->c∉bg m')(hb:BR X P A m h b mb):BR X P B m' h b mb:=by
 cases b with
 |cells cs=>cases mb with
  |fV b=>obtain⟨cs',h1,h2⟩:=hb;exact⟨cs',h1,h2.sw hm hA⟩
  |_=>exact hb.elim
 |aF cs=>cases mb with
  |jl b=>obtain⟨h0,cs',h1,h2⟩:=hb;exact⟨hn b rfl h0,cs',h1,h2.sw hm hA⟩
  |_=>exact hb.elim
 |list k ex t l=>cases mb with
  |dB x=>
   cases(hb:LR X P A m h k ex t l x)with
   |nil=>exact LR.nil
   |emp h0 h1 h2 h3 h4=>exact LR.emp (hA _ h0) h1 h2 h3 h4
   |some h1 h2 h3 h4 h5 h6 h7 h8 h9=>exact LR.some h1 h2 h3 h4 h5 h6 h7 h8 ⟨h9.1,h9.2.1,fun j a i c v a1 a2 a3=>(h9.2.2 j a i c v a1 a2 a3).sw hm hA⟩
  |_=>exact hb.elim
 |map es=>cases mb with
  |fV b=>exact hb
  |_=>exact hb.elim
 |mP cs=>cases mb with
  |fV b=>exact hb
  |_=>exact hb.elim
 |iD es=>cases mb with
  |jl b=>exact⟨hn b rfl hb.1,hb.2⟩
  |_=>exact hb.elim
 |cO r n seen=>cases mb with
  |fV b=>
   obtain⟨c,h1,h2,h3⟩:=hb;refine⟨c,h1,?_,fun c' hc=>?_⟩
   .rcases hm r with g|⟨c',g,g2⟩|⟨c',g,g2⟩
    .rw[g];exact h2
    .rw[g2];rfl
    .rw[g2];rfl
   .rcases hm r with g|⟨c2,g,g2⟩|⟨c2,g,g2⟩
    .exact h3 c' (by rw[<-g];exact hc)
    .rw[g2]at hc;simp at hc;subst hc;exact h3 c2 (.inl g)
    .rw[g2]at hc;simp at hc;subst hc;exact h3 c2 (.inr g)
  |_=>exact hb.elim
 |mark=>cases mb with
  |fV b=>exact hb
  |_=>exact hb.elim
 |loop rd f nt env ps a c jI=>cases mb with
  |fV b=>obtain⟨e',h1,h2⟩:=hb;exact⟨e',h1,h2.sw hm hA⟩
  |_=>exact hb.elim
 |gone=>cases mb with
  |gone=>trivial
  |_=>exact hb.elim
end
theorem aeg{call:aY}{fv v:PV X.Γ}{xs:List (PV X.Γ)}{H H1:List (PB X.Γ)}{W:Nat->Prop}{r:Nat}{cs RG:List (PV X.Γ)}(h0:H[r]? = some (.cells cs))(h9:H1[r]? = some (.cells RG))(hro:IW (H1.drop H.length)=true)
  (hs:WO X P call fv xs (H.set r (.aF cs)) v (H1.set r (.aF RG)) W):WO X P call fv xs H v H1 fun k=>W k∧k≠r:=fun A m h tf qU hr hf hx=>by
 obtain⟨mb0,q1,q2⟩:=hr.at_ r _ h0;have hrl:r<H.length:=(a01.1 h0).1;have hrm:r<m.length:=by rw[hr.len];exact hrl
 cases mb0 with
 |fV c=>
  obtain⟨cs',q3,q4⟩:=q2;have GU:c∈bg m:=aZ q1 rfl;have hch:=(a01.1 q3).1;have hm:SwM m (m.set r (.jl c)):=fun i=>by
   by_cases e:i=r
   .subst e;exact .inr (.inl ⟨c,q1,by rw[a2c hrm]⟩)
   .exact .inl (by rw[a1l (fun h=>e h.symm)])
  have old:∀{i b:Nat},FC (m.set r (.jl c)) i b->i≠r∧FC m i b:=fun{i b} ho=>by
   obtain⟨mb,a1,a2⟩:=ho;by_cases e:i=r
   .subst e;rw[a2c hrm]at a1;cases a1;cases a2
   .rw[a1l (fun h=>e h.symm)]at a1;exact⟨e,mb,a1,a2⟩
  have oV:∀b,b∈bg (m.set r (.jl c))->b∈bg m∧b≠c:=fun b hb=>by obtain⟨i,hi⟩:=jZ hb;obtain⟨e,mb,a1,a2⟩:=old hi;refine⟨aZ a1 a2,fun e2=>?_⟩;subst e2;exact e (iV hr.nodup a1 q1 a2 rfl)
  have hA:∀b,AA A m b->AA (fun b=>A b∧b≠c) (m.set r (.jl c)) b:=fun b hb=>⟨⟨hb.1,fun e=>hb.2 (e▸GU)⟩,fun h=>hb.2 (oV b h).1⟩;have xg:HR X P (fun b=>A b∧b≠c) (m.set r (.jl c)) (H.set r (.aF cs)) h:=by
   refine⟨by simp[hr.len],fun i b hi=>?_,jA fun i j d a1 a2=>?_,fun b hb=>⟨hr.up b hb,by omega⟩,fun b hb=>⟨hr.CQ b (oV b hb).1,(oV b hb).2⟩⟩
   .by_cases e:i=r
    .subst e;rw[a2c hrl]at hi;cases hi;exact⟨.jl c,by rw[a2c hrm],fun h=>(oV c h).2 rfl,cs',q3,q4.sw hm hA⟩
    .rw[a1l (fun h=>e h.symm)]at hi;obtain⟨mb,g1,g2⟩:=hr.at_ i b hi;exact⟨mb,by rw[a1l (fun h=>e h.symm)];exact g1,g2.sw hm hA fun d _ hn h=>hn (oV d h).1⟩
   .obtain⟨_,ma,u1,u2⟩:=old a1;obtain⟨_,mc,v1,v2⟩:=old a2;exact iV hr.nodup u1 v1 u2 v2
  obtain⟨w,h1,ws,m1,c1,c2,c3,c4,c5,c6⟩:=hs (fun b=>A b∧b≠c) (m.set r (.jl c)) h tf qU xg (hf.sw hm hA) (hx.sw hm hA)
  .have aeh:r<H1.length:=(a01.1 h9).1;obtain⟨mb1,e1,e2⟩:=c2.at_ r (.aF RG) (by rw[a2c aeh]);have e3:=c5 r (.jl c) (by rw[a2c hrm]);have e4:mb1=.jl c:=by
    rcases e3 with e3|e3<;>rw[e1]at e3<;>cases e3
    .rfl
    .exact e2.elim
   subst e4;obtain⟨p0,WC,p1,p2⟩:=e2;have J6:r<m1.length:=(a01.1 e1).1;have hm1:SwM m1 (m1.set r (.fV c)):=fun i=>by
    by_cases e:i=r
    .subst e;exact .inr (.inr ⟨c,e1,by rw[a2c J6]⟩)
    .exact .inl (by rw[a1l (fun h=>e h.symm)])
   have at1:∀{i:Nat} {mb:MB},i≠r->(m1.set r (.fV c))[i]? = some mb->m1[i]? = some mb:=fun{i mb} e h=>by rw[a1l (fun h=>e h.symm)]at h;exact h
   have C9:∀b,b∈bg (m1.set r (.fV c))->b=c∨b∈bg m1:=fun b hb=>by
    obtain⟨i,mb,a1,a2⟩:=jZ hb;by_cases e:i=r
    .subst e;rw[a2c J6]at a1;cases a1;cases a2;exact .inl rfl
    .exact .inr (aZ (at1 e a1) a2)
   have hA1:∀b,AA (fun b=>A b∧b≠c) m1 b->AA A (m1.set r (.fV c)) b:=fun b hb=>⟨hb.1.1,fun h=>by
    rcases C9 b h with e|e
    .exact hb.1.2 e
    .exact hb.2 e⟩
   refine⟨w,h1,ws,m1.set r (.fV c),c1,⟨by rw[a4n,c2.len,a4n],fun i b hi=>?_,jA fun i j d a1 a2=>?_,fun b hb=>(c2.up b hb).1,fun b hb=>?_⟩,c3.sw hm1 hA1,⟨c4.len,fun b hb hn=>c4.same b hb fun h=>hn (oV b h).1,fun b hb=>?_,c4.grow⟩,fun i mb hi=>?_,fun b hb=>?_⟩
   .by_cases e:i=r
    .subst e;rw[h9]at hi;cases hi;exact⟨.fV c,by rw[a2c J6],WC,p1,p2.sw hm1 hA1⟩
    .obtain⟨mb,g1,g2⟩:=c2.at_ i b (by rw[a1l (fun h=>e h.symm)];exact hi);refine⟨mb,by rw[a1l (fun h=>e h.symm)];exact g1,g2.sw hm1 hA1 fun d hd hn Zj=>?_⟩;subst hd;rcases C9 d Zj with e5|e5
     .subst e5;rcases a4d i m.length with aT|Et
      .have JO:(m.set r (.jl d))[i]? = m[i]?:=(by rw[a1l (fun h=>e h.symm)]);have hmi:m[i]? = some (.jl d):=by
        rcases c5 i m[i] (by rw[JO];exact a0a aT)with e6|e6<;>rw[g1]at e6<;>simp only[a00]at e6
        .rw[a0a aT,<-e6]
        .cases e6
       have hlH:i<H.length:=by rw[<-hr.len];exact aT
       obtain⟨mb9,e7,e8⟩:=hr.at_ i _ (a0a hlH);rw[hmi]at e7;cases e7;generalize H[i]=b9 at e8;cases b9<;>first|exact e8.elim|exact e8.1 GU
      .have e6:(H1.drop H.length)[i-H.length]? = some b:=by rw[a4e,<-hi];congr 1;rw[hr.len]at Et;omega
       have e7:=LX hro e6;cases b<;>first|exact g2.elim|cases e7
     .exact hn e5
   .obtain⟨ma,u1,u2⟩:=a1;obtain⟨mc,v1,v2⟩:=a2;by_cases e:i=r<;>by_cases e':j=r
    .rw[e,e']
    .subst e;rw[a2c J6]at u1;cases u1;cases u2;exact absurd (aZ (at1 e' v1) v2) p0
    .subst e';rw[a2c J6]at v1;cases v1;cases v2;exact absurd (aZ (at1 e u1) u2) p0
    .exact iV c2.nodup (at1 e u1) (at1 e' v1) u2 v2
   .rcases C9 b hb with e|e
    .subst e;exact hr.CQ _ GU
    .exact(c2.CQ b e).1
   .rcases C9 b hb with e|e
    .subst e;exact .inl GU
    .rcases c4.new b e with g|g
     .exact .inl (oV b g).1
     .exact .inr g
   .by_cases e:i=r
    .subst e;rw[q1]at hi;cases hi;exact .inl (by rw[a2c J6])
    .rw[a1l (fun h=>e h.symm)];exact c5 i mb (by rw[a1l (fun h=>e h.symm)];exact hi)
   .obtain⟨k,k1,k2⟩:=c6 b hb;obtain⟨k3,k4⟩:=old k2;exact⟨k,⟨k1,k3⟩,k4⟩
 |_=>exact q2.elim
theorem a9H{call:aY}{fv v:PV X.Γ}{xs:List (PV X.Γ)}{H H1:List (PB X.Γ)}{W:Nat->Prop}{r:Nat}{es es1:List (PV X.Γ×PV X.Γ)}(h0:H[r]? = some (.map es))(h9:H1[r]? = some (.map es1))(hro:IW (H1.drop H.length)=true)
  (hs:WO X P call fv xs (H.set r (.iD es)) v (H1.set r (.iD es1)) W):WO X P call fv xs H v H1 fun k=>W k∧k≠r:=fun A m h tf qU hr hf hx=>by
 obtain⟨mb0,q1,q2⟩:=hr.at_ r _ h0;have hrl:r<H.length:=(a01.1 h0).1;have hrm:r<m.length:=by rw[hr.len];exact hrl
 cases mb0 with
 |fV c=>
  obtain⟨cs',q3,q4⟩:=q2;have GU:c∈bg m:=aZ q1 rfl;have hch:=(a01.1 q3).1;have hm:SwM m (m.set r (.jl c)):=fun i=>by
   by_cases e:i=r
   .subst e;exact .inr (.inl ⟨c,q1,by rw[a2c hrm]⟩)
   .exact .inl (by rw[a1l (fun h=>e h.symm)])
  have old:∀{i b:Nat},FC (m.set r (.jl c)) i b->i≠r∧FC m i b:=fun{i b} ho=>by
   obtain⟨mb,a1,a2⟩:=ho;by_cases e:i=r
   .subst e;rw[a2c hrm]at a1;cases a1;cases a2
   .rw[a1l (fun h=>e h.symm)]at a1;exact⟨e,mb,a1,a2⟩
  have oV:∀b,b∈bg (m.set r (.jl c))->b∈bg m∧b≠c:=fun b hb=>by obtain⟨i,hi⟩:=jZ hb;obtain⟨e,mb,a1,a2⟩:=old hi;refine⟨aZ a1 a2,fun e2=>?_⟩;subst e2;exact e (iV hr.nodup a1 q1 a2 rfl)
  have hA:∀b,AA A m b->AA (fun b=>A b∧b≠c) (m.set r (.jl c)) b:=fun b hb=>⟨⟨hb.1,fun e=>hb.2 (e▸GU)⟩,fun h=>hb.2 (oV b h).1⟩;have xg:HR X P (fun b=>A b∧b≠c) (m.set r (.jl c)) (H.set r (.iD es)) h:=by
   refine⟨by simp[hr.len],fun i b hi=>?_,jA fun i j d a1 a2=>?_,fun b hb=>⟨hr.up b hb,by omega⟩,fun b hb=>⟨hr.CQ b (oV b hb).1,(oV b hb).2⟩⟩
   .by_cases e:i=r
    .subst e;rw[a2c hrl]at hi;cases hi;exact⟨.jl c,by rw[a2c hrm],fun h=>(oV c h).2 rfl,cs',q3,q4⟩
    .rw[a1l (fun h=>e h.symm)]at hi;obtain⟨mb,g1,g2⟩:=hr.at_ i b hi;exact⟨mb,by rw[a1l (fun h=>e h.symm)];exact g1,g2.sw hm hA fun d _ hn h=>hn (oV d h).1⟩
   .obtain⟨_,ma,u1,u2⟩:=old a1;obtain⟨_,mc,v1,v2⟩:=old a2;exact iV hr.nodup u1 v1 u2 v2
  obtain⟨w,h1,ws,m1,c1,c2,c3,c4,c5,c6⟩:=hs (fun b=>A b∧b≠c) (m.set r (.jl c)) h tf qU xg (hf.sw hm hA) (hx.sw hm hA)
  .have aeh:r<H1.length:=(a01.1 h9).1;obtain⟨mb1,e1,e2⟩:=c2.at_ r (.iD es1) (by rw[a2c aeh]);have e3:=c5 r (.jl c) (by rw[a2c hrm]);have e4:mb1=.jl c:=by
    rcases e3 with e3|e3<;>rw[e1]at e3<;>cases e3
    .rfl
    .exact e2.elim
   subst e4;obtain⟨p0,WC,p1,p2⟩:=e2;have J6:r<m1.length:=(a01.1 e1).1;have hm1:SwM m1 (m1.set r (.fV c)):=fun i=>by
    by_cases e:i=r
    .subst e;exact .inr (.inr ⟨c,e1,by rw[a2c J6]⟩)
    .exact .inl (by rw[a1l (fun h=>e h.symm)])
   have at1:∀{i:Nat} {mb:MB},i≠r->(m1.set r (.fV c))[i]? = some mb->m1[i]? = some mb:=fun{i mb} e h=>by rw[a1l (fun h=>e h.symm)]at h;exact h
   have C9:∀b,b∈bg (m1.set r (.fV c))->b=c∨b∈bg m1:=fun b hb=>by
    obtain⟨i,mb,a1,a2⟩:=jZ hb;by_cases e:i=r
    .subst e;rw[a2c J6]at a1;cases a1;cases a2;exact .inl rfl
    .exact .inr (aZ (at1 e a1) a2)
   have hA1:∀b,AA (fun b=>A b∧b≠c) m1 b->AA A (m1.set r (.fV c)) b:=fun b hb=>⟨hb.1.1,fun h=>by
    rcases C9 b h with e|e
    .exact hb.1.2 e
    .exact hb.2 e⟩
   refine⟨w,h1,ws,m1.set r (.fV c),c1,⟨by rw[a4n,c2.len,a4n],fun i b hi=>?_,jA fun i j d a1 a2=>?_,fun b hb=>(c2.up b hb).1,fun b hb=>?_⟩,c3.sw hm1 hA1,⟨c4.len,fun b hb hn=>c4.same b hb fun h=>hn (oV b h).1,fun b hb=>?_,c4.grow⟩,fun i mb hi=>?_,fun b hb=>?_⟩
   .by_cases e:i=r
    .subst e;rw[h9]at hi;cases hi;exact⟨.fV c,by rw[a2c J6],WC,p1,p2⟩
    .obtain⟨mb,g1,g2⟩:=c2.at_ i b (by rw[a1l (fun h=>e h.symm)];exact hi);refine⟨mb,by rw[a1l (fun h=>e h.symm)];exact g1,g2.sw hm1 hA1 fun d hd hn Zj=>?_⟩;subst hd;rcases C9 d Zj with e5|e5
     .subst e5;rcases a4d i m.length with aT|Et
      .have JO:(m.set r (.jl d))[i]? = m[i]?:=(by rw[a1l (fun h=>e h.symm)]);have hmi:m[i]? = some (.jl d):=by
        rcases c5 i m[i] (by rw[JO];exact a0a aT)with e6|e6<;>rw[g1]at e6<;>simp only[a00]at e6
        .rw[a0a aT,<-e6]
        .cases e6
       have hlH:i<H.length:=by rw[<-hr.len];exact aT
       obtain⟨mb9,e7,e8⟩:=hr.at_ i _ (a0a hlH);rw[hmi]at e7;cases e7;generalize H[i]=b9 at e8;cases b9<;>first|exact e8.elim|exact e8.1 GU
      .have e6:(H1.drop H.length)[i-H.length]? = some b:=by rw[a4e,<-hi];congr 1;rw[hr.len]at Et;omega
       have e7:=LX hro e6;cases b<;>first|exact g2.elim|cases e7
     .exact hn e5
   .obtain⟨ma,u1,u2⟩:=a1;obtain⟨mc,v1,v2⟩:=a2;by_cases e:i=r<;>by_cases e':j=r
    .rw[e,e']
    .subst e;rw[a2c J6]at u1;cases u1;cases u2;exact absurd (aZ (at1 e' v1) v2) p0
    .subst e';rw[a2c J6]at v1;cases v1;cases v2;exact absurd (aZ (at1 e u1) u2) p0
    .exact iV c2.nodup (at1 e u1) (at1 e' v1) u2 v2
   .rcases C9 b hb with e|e
    .subst e;exact hr.CQ _ GU
    .exact(c2.CQ b e).1
   .rcases C9 b hb with e|e
    .subst e;exact .inl GU
    .rcases c4.new b e with g|g
     .exact .inl (oV b g).1
     .exact .inr g
   .by_cases e:i=r
    .subst e;rw[q1]at hi;cases hi;exact .inl (by rw[a2c J6])
    .rw[a1l (fun h=>e h.symm)];exact c5 i mb (by rw[a1l (fun h=>e h.symm)];exact hi)
   .obtain⟨k,k1,k2⟩:=c6 b hb;obtain⟨k3,k4⟩:=old k2;exact⟨k,⟨k1,k3⟩,k4⟩
 |_=>exact q2.elim
theorem Zk{call:aY}{fv v:PV X.Γ}{xs:List (PV X.Γ)}{W:Nat->Prop}:∀{rs:List Nat} {H H1 Hr Qj:List (PB X.Γ)},roB rs H H1=some (Hr,Qj)->IW (H1.drop H.length)=true->WO X P call fv xs Hr v Qj W->WO X P call fv xs H v H1 fun k=>W k∧k∉rs
 | [],H,H1,Hr,Qj,h1,hn,hs=>by simp only[roB,a00,a0i]at h1;obtain⟨rfl,rfl⟩:=h1;intro A m h tf qU a b c;obtain⟨w,h1,ws,m1,c1,c2,c3,c4,c5,c6⟩:=hs A m h tf qU a b c;exact⟨w,h1,ws,m1,c1,c2,c3,c4,c5,fun b hb=>by obtain⟨k,k1,k2⟩:=c6 b hb;exact⟨k,⟨k1,by simp⟩,k2⟩⟩
 |r::rs,H,H1,Hr,Qj,h1,hn,hs=>by
  simp only[roB]at h1;split at h1
  .rename_i cs RG e1 e2;have aT:r<H.length:=(a01.1 e1).1;have:=aeg e1 e2 hn (Zk h1 (by rw[a4n,List.drop_set_of_lt aT];exact hn) hs);intro A m h tf qU a b c;obtain⟨w,h1,ws,m1,c1,c2,c3,c4,c5,c6⟩:=this A m h tf qU a b c;exact⟨w,h1,ws,m1,c1,c2,c3,c4,c5,fun b hb=>by obtain⟨k,⟨⟨k1,k3⟩,k4⟩,k2⟩:=c6 b hb;exact⟨k,⟨k1,by simp[k3,k4]⟩,k2⟩⟩
  .rename_i cs RG e1 e2;have aT:r<H.length:=(a01.1 e1).1;have:=a9H e1 e2 hn (Zk h1 (by rw[a4n,List.drop_set_of_lt aT];exact hn) hs);intro A m h tf qU a b c;obtain⟨w,h1,ws,m1,c1,c2,c3,c4,c5,c6⟩:=this A m h tf qU a b c;exact⟨w,h1,ws,m1,c1,c2,c3,c4,c5,fun b hb=>by obtain⟨k,⟨⟨k1,k3⟩,k4⟩,k2⟩:=c6 b hb;exact⟨k,⟨k1,by simp[k3,k4]⟩,k2⟩⟩
  cases h1
theorem WQ{α:Type}{rs:List Nat}:∀{ks:List α} {i p:Nat} {k:α},ks[p]? = some k->i+p∉rs->k∈a2F rs i ks
 | [],_,_,_,h,_=>by simp at h
 |a::ks,i,0,k,h,hn=>by simp only[a2r,a00]at h;subst h;simp only[a2F];rw[a0c (by simpa using hn)];exact a2O
 |a::ks,i,p+1,k,h,hn=>by
  have:=WQ (ks:=ks) (i:=i+1) (p:=p) (k:=k) (by simpa using h) (by rwa [Nat.add_right_comm,a9G] );simp only[a2F];split
  .exact this
  exact a2P _ this
theorem J7(hX:bP X P){call:aY}{ks:List Nat}{H' Hp H H1 Qj:List (PB X.Γ)}{fv fv' v v':PV X.Γ}{xs xs':List (PV X.Γ)}{W:Nat->Prop}(hs:WO X P call fv xs H v H1 W)
  (jy:ks.Nodup) (hp:CJ H' ks=some Hp) (hH:nK (wu ks) Hp=some H) (hf:fE (wu ks) fv'=some fv) (hx:fE.oN (wu ks) xs'=some xs)
  (hv:fE (bk ks H'.length) v=some v') (hH1:nK (bk ks H'.length) H1=some Qj) (hro:IW (H1.drop ks.length)=true) :
  ∀(A:Nat->Prop) (m':List MB) (h:List HB) (tf:TV) (qU:List TV),HR X P A m' H' h->VR X P (AA A m') m' h fv' tf->bU X P (AA A m') m' h xs' qU ->
  ∃w h1 ws m1,call tf qU h=some (w,h1,ws)∧HR X P A m1 (putAt ks Qj H'++Qj.drop ks.length) h1∧VR X P (AA A m1) m1 h1 v' w∧Fr m' h m1 h1∧Up m' m1∧∀b∈ws,∃p k,ks[p]? = some k∧W p∧FC m' k b:=by
 intro A m' h tf qU hr hf' EW;have hpg:=DV hp;have hHg:=sQ hH;have hkH:∀{p k:Nat},ks[p]? = some k->k<m'.length:=fun{p k} hk=>by obtain⟨b,q1,_⟩:=hpg.2 hk;rw[hr.len];exact(a01.1 q1).1
 have hkm:∀k∈ks,k<m'.length:=fun k hk=>by obtain⟨i,hi⟩:=a8E hk;exact hkH hi
 let m:List MB:=ks.map fun k=>m'.getD k .gone
 have hm:∀{p k:Nat},ks[p]? = some k->m[p]? = m'[k]?:=fun{p k} hk=>by show(ks.map _)[p]? = _;rw[a4j,hk];have:=hkH hk;simp[a2N,this]
 have a5T:m.length=ks.length:=a4h ..;have RP:∀{p:Nat} {mb:MB},m[p]? = some mb->∃k,ks[p]? = some k∧m'[k]? = some mb:=fun{p mb} hpm=>by
  have:p<ks.length:=by rw[<-a5T];exact(a01.1 hpm).1
  have hk:=a0a this;exact⟨_,hk,by rw[<-hm hk];exact hpm⟩
 have oV:∀b,b∈bg m->b∈bg m':=fun b hb=>by obtain⟨j,mb,q1,q2⟩:=jZ hb;obtain⟨k,_,q3⟩:=RP q1;exact aZ q3 q2
 have aei:∀{i:Nat} {mb:MB} {b:Nat},i∉ks->m'[i]? = some mb->mb.own=some b->b∉bg m:=fun{i mb b} hi h1 h2 hb=>by obtain⟨j,mc,q1,q2⟩:=jZ hb;obtain⟨k,q3,q4⟩:=RP q1;have:=iV hr.nodup h1 q4 h2 q2;subst this;exact hi (a4m q3)
 let A2:Nat->Prop:=fun b=>A b∧(b∈bg m'->b∈bg m)
 have hA:∀b,AA A m' b->AA A2 m b:=fun b hb=>⟨⟨hb.1,fun h9=>absurd h9 hb.2⟩,fun h9=>hb.2 (oV b h9)⟩;have hg:∀i j,wu ks i=some j->m[j]? = m'[i]?:=fun i j zW=>hm (Oo zW);have xg:HR X P A2 m H h:=by
  refine⟨by rw[a5T,hHg.1,hpg.1],fun j b hj=>?_,jA fun i j c q1 q2=>?_,fun b hb=>⟨hr.up b hb,fun h9=>absurd (hr.inb h9) (by omega)⟩,fun b hb=>⟨hr.CQ b (oV b hb),fun _=>hb⟩⟩
  .obtain⟨b0,q1,q2⟩:=hHg.2 hj;have rU:j<ks.length:=by rw[<-hpg.1];exact(a01.1 q1).1
   have hk:=a0a rU;obtain⟨b9,q5,q6⟩:=hpg.2 hk;rw[q1]at q6;cases q6;obtain⟨mb,q3,q4⟩:=hr.at_ _ _ q5;exact⟨mb,by rw[hm hk];exact q3,DU hX hg hA (fun c _ h9 h8=>h9 (oV c h8)) q4 q2⟩
  .obtain⟨ma,a1,a2⟩:=q1;obtain⟨mc,c1,c2⟩:=q2;obtain⟨k,a3,a4⟩:=RP a1;obtain⟨l,c3,c4⟩:=RP c1;have e:=iV hr.nodup a4 c4 a2 c2;subst e;exact(List.getElem?_inj (a01.1 a3).1 jy).1 (by rw[a3,c3])
 obtain⟨w,h1,ws,m1,c1,c2,c3,c4,c5,c6⟩:=hs A2 m h tf qU xg (DT hg hA hX hf' hf) (zk hX hg hA EW hx);have a5U:ks.length<=m1.length:=by
  rcases abu ks.length with e|e
  .omega
  .have aT:ks.length-1<m.length:=(by omega);have:=c5 (ks.length-1) m[ks.length-1] (a0a aT);rcases this with g|g<;>(have:=(a01.1 g).1;omega)
 let m1':List MB:=putAt ks m1 m'++m1.drop ks.length
 have hn:m'.length=H'.length:=hr.len;have a9I:(putAt ks m1 m').length=m'.length:=sS;have a0V:∀{p k:Nat},ks[p]? = some k->m1'[k]? = m1[p]?:=fun{p k} hk=>by show(putAt ks m1 m'++_)[k]? = _;rw[a0b (by rw[a9I];exact hkH hk),Ou jy hkm a5U hk]
 have Zl:∀{i:Nat},i<m'.length->i∉ks->m1'[i]? = m'[i]?:=fun{i} hi hk=>by show(putAt ks m1 m'++_)[i]? = _;rw[a0b (by rw[a9I];exact hi),J5 hk]
 have Zm:∀{j:Nat},ks.length<=j->m1'[m'.length+(j-ks.length)]? = m1[j]?:=fun{j} hj=>by show(putAt ks m1 m'++_)[_]? = _;rw[a0S (by rw[a9I];omega),a9I,Nat.add_sub_cancel_left,a4e];congr 1;omega
 have hgb:∀j i,bk ks H'.length j=some i->m1'[i]? = m1[j]?:=fun j i zW=>by
  unfold bk at zW;split at zW
  .rename_i k hk;cases zW;exact a0V hk
  .rename_i hk;cases zW;rw[<-hn];exact Zm (by rw[List.getElem?_eq_none_iff]at hk;exact hk)
 have Bf:∀{i:Nat} {mb:MB},m1'[i]? = some mb->(∃p,ks[p]? = some i∧m1[p]? = some mb)∨(i<m'.length∧i∉ks∧m'[i]? = some mb)∨(∃j,ks.length<=j∧i=m'.length+(j-ks.length)∧m1[j]? = some mb):=fun{i mb} hi=>by
  rcases a4d i m'.length with aT|Et
  .by_cases hk:i∈ks
   .obtain⟨p,hp⟩:=a8E hk;exact .inl ⟨p,hp,by rw[<-a0V hp];exact hi⟩
   .exact .inr (.inl ⟨aT,hk,by rw[<-Zl aT hk];exact hi⟩)
  .refine .inr (.inr ⟨i-m'.length+ks.length,by omega,by omega,?_⟩);rw[<-Zm (by omega)];rw[<-hi];congr 1;omega
 have yO:∀{b:Nat},b∈bg m1'->b∈bg m1∨∃i mb,i∉ks∧m'[i]? = some mb∧mb.own=some b:=fun{b} hb=>by
  obtain⟨i,mb,q1,q2⟩:=jZ hb;rcases Bf q1 with⟨p,_,q3⟩|⟨_,q3,q4⟩|⟨j,_,_,q3⟩
  .exact .inl (aZ q3 q2)
  .exact .inr ⟨i,mb,q3,q4,q2⟩
  .exact .inl (aZ q3 q2)
 have a9J:∀{i b:Nat} {mb:MB},i∉ks->m'[i]? = some mb->mb.own=some b->b∉bg m1:=fun{i b mb} h1 h2 h3 h4=>by
  rcases c4.new b h4 with g|g
  .exact aei h1 h2 h3 g
  .exact absurd (hr.inb (aZ h2 h3)) (by omega)
 have hA3:∀b,AA A2 m1 b->AA A m1' b:=fun b hb=>⟨hb.1.1,fun h9=>by
  rcases yO h9 with g|⟨i,mb,g1,g2,g3⟩
  .exact hb.2 g
  .exact aei g1 g2 g3 (hb.1.2 (aZ g2 g3))⟩
 have hF:Fr m' h m1' h1:=⟨c4.len,fun b hb hnb=>c4.same b hb fun h9=>hnb (oV b h9),fun b hb=>by
  rcases yO hb with g|⟨i,mb,g1,g2,g3⟩
  .rcases c4.new b g with g|g
   .exact .inl (oV b g)
   .exact .inr g
  .exact .inl (aZ g2 g3),c4.grow⟩
 have hU:Up m' m1':=fun i mb hi=>by
  have aT:=(a01.1 hi).1;by_cases hk:i∈ks
  .obtain⟨p,hp⟩:=a8E hk;rw[a0V hp];exact c5 p mb (by rw[hm hp];exact hi)
  .exact .inl (by rw[Zl aT hk];exact hi)
 have aej:=sQ hH1;have aif:m1.length=H1.length:=c2.len;refine⟨w,h1,ws,m1',c1,⟨?_,fun i b hi=>?_,?_,fun b hb=>(c2.up b hb).1,fun b hb=>?_⟩,DT hgb hA3 hX c3 hv,hF,hU,fun b hb=>?_⟩
 .show(putAt ks m1 m'++_).length=_;rw[a1I,a1I,sS,sS,a3X,a3X,aej.1,aif,hn]
 .have aii:ks.length<=Qj.length:=by rw[aej.1,<-aif];exact a5U
  have ao1:∀k∈ks,k<H'.length:=fun k hk=>by rw[<-hn];exact hkm k hk
  have back:∀{j:Nat} {b:PB X.Γ},Qj[j]? = some b->∃mb,m1[j]? = some mb∧BR X P (AA A m1') m1' h1 b mb:=fun{j b} hj=>by
   obtain⟨b0,q1,q2⟩:=aej.2 hj;obtain⟨mb,q3,q4⟩:=c2.at_ j b0 q1;refine⟨mb,q3,DU hX hgb hA3 (fun c e h9 h8=>?_) q4 q2⟩;rcases yO h8 with g|⟨i,LM,g1,g2,g3⟩
   .exact h9 g
   .subst e;rcases a4d j ks.length with hj1|hj1
    .have hk:=a0a hj1;have rU:j<m.length:=by rw[a5T];exact hj1
     have hmj:m[j]? = some (.jl c):=by
      rcases c5 j _ (a0a rU)with e|e<;>rw[q3]at e<;>simp only[a00]at e
      .rw[a0a rU,<-e]
      .cases e
     obtain⟨k,e1,e2⟩:=RP hmj;obtain⟨b9,e3,_⟩:=hpg.2 e1;obtain⟨mb9,e4,e5⟩:=hr.at_ _ _ e3;rw[e2]at e4;cases e4;cases b9<;>first|exact e5.elim|exact e5.1 (aZ g2 g3)
    .have e1:(H1.drop ks.length)[j-ks.length]? = some b0:=by rw[a4e,<-q1];congr 1;omega
     have e2:=LX hro e1;cases b0<;>first|exact q4.elim|cases e2
  rcases a4d i H'.length with aT|Et
  .rw[a0b (by rw[sS];exact aT)]at hi;by_cases hk:i∈ks
   .obtain⟨p,hpk⟩:=a8E hk;rw[Ou jy ao1 aii hpk]at hi;obtain⟨mb,q1,q2⟩:=back hi;exact⟨mb,by rw[a0V hpk];exact q1,q2⟩
   .rw[J5 hk]at hi;obtain⟨mb,q1,q2⟩:=hr.at_ i b hi;refine⟨mb,by rw[Zl (by rw[hn];exact aT) hk];exact q1,q2.step hF hU fun c hc=>?_⟩;exact c4.same c (hr.inb (aZ q1 hc)) (aei hk q1 hc)
  .rw[a0S (by rw[sS];exact Et),sS,a4e]at hi;obtain⟨mb,q1,q2⟩:=back hi;refine⟨mb,?_,q2⟩;have:=Zm (j:=ks.length+(i-H'.length)) (by omega);rw[q1]at this;rw[<-this];congr 1;omega
 .refine jA fun i j c q1 q2=>?_;obtain⟨ma,a1,a2⟩:=q1;obtain⟨mc,b1,b2⟩:=q2;rcases Bf a1 with⟨p,a3,a4⟩|⟨a3,a4,a5⟩|⟨p,a3,a4,a5⟩<;>rcases Bf b1 with⟨q,b3,b4⟩|⟨b3,b4,b5⟩|⟨q,b3,b4,b5⟩
  .have:=iV c2.nodup a4 b4 a2 b2;subst this;rw[a3]at b3;cases b3;rfl
  .exact absurd (aZ a4 a2) (a9J b4 b5 b2)
  .have:=iV c2.nodup a4 b5 a2 b2;subst this;have:=(a01.1 a3).1;omega
  .exact absurd (aZ b4 b2) (a9J a4 a5 a2)
  .exact iV hr.nodup a5 b5 a2 b2
  .exact absurd (aZ b5 b2) (a9J a4 a5 a2)
  .have:=iV c2.nodup a5 b4 a2 b2;subst this;have:=(a01.1 b3).1;omega
  .exact absurd (aZ a5 a2) (a9J b4 b5 b2)
  .have:=iV c2.nodup a5 b5 a2 b2;subst this;omega
 .rcases yO hb with g|⟨i,mb,g1,g2,g3⟩
  .exact(c2.CQ b g).1
  .exact hr.CQ b (aZ g2 g3)
 .obtain⟨j,hw,mb,q1,q2⟩:=c6 b hb;obtain⟨k,q3,q4⟩:=RP q1;exact⟨j,k,q3,hw,mb,q4,q2⟩
end
end Pv
