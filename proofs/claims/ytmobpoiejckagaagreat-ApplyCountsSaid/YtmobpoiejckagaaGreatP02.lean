/- Part 3 of a proof: At how many places a diagram has a cell, and the first one, are the document's, or the errors are; for all diagrams and cells. -/
import Derived.Test.YtmobpoiejckagaaGreatP01
set_option linter.constructorNameAsVariable false
set_option linter.unusedVariables false
set_option linter.unusedSimpArgs false
set_option linter.unusedSectionVars false
noncomputable section
namespace Pv
open Go Tw
section
variable {X:kC} {P:Program} {A:Nat->Prop} {m m':List MB} {h h':List HB} {H H':List (PB X.Γ)}
theorem HR.next(hr:HR X P A m H h)(hF:Fr m h m' h')(hU:Up m m')(hl:m'.length=H'.length)(hn:(bn m').Nodup)
  (Jv:∀(i:Nat) b,H'[i]? = some b->(∃mb,H[i]? = some b∧m[i]? = some mb∧m'[i]? = some mb∧∀c,mb.own=some c->h'[c]? = h[c]?)∨∃mb,m'[i]? = some mb∧BR X P (AA A m') m' h' b mb):HR X P A m' H' h':=by
 refine⟨hl,fun i b hb=>?_,hn,fun b hb=>hr.up b (by have:=hF.len;omega),fun b hb=>?_⟩
 .rcases Jv i b hb with⟨mb,h1,h2,h3,h4⟩|h1
  .obtain⟨Le,g1,g2⟩:=hr.at_ i b h1;rw[h2]at g1;cases g1;exact⟨mb,h3,g2.step hF hU h4⟩
  .exact h1
 .rcases hF.new b hb with h1|h1
  .exact hr.Cm b h1
  .exact hr.up b h1
theorem BR.has{B:Nat->Prop}{b:PB X.Γ}{mb:MB}{c:Nat}(hb:BR X P B m h b mb)(ho:mb.own=some c):c<h.length:=by
 have key:∀{y},h[c]? = some y->c<h.length:=fun e=>(a02.1 e).1;cases b with
 |cells cs=>
  cases mb with
  |fP b=>cases ho;obtain⟨_,h1,_⟩:=hb;exact key h1
  |_=>exact hb.elim
 |aC cs=>
  cases mb with
  |jc b=>cases ho
  |_=>exact hb.elim
 |list k ex t l=>
  cases mb with
  |dn x=>
   cases(hb:LR X P B m h k ex t l x)with
   |nil=>cases ho
   |emp=>simp[MB.own]at ho
   |some h1 _ _ h4=>
    simp only[MB.own]at ho;split at ho
    .cases ho
    cases ho;exact key h4
  |_=>exact hb.elim
 |map es=>
  cases mb with
  |fP b=>cases ho;obtain⟨_,h1,_⟩:=hb;exact key h1
  |_=>exact hb.elim
 |mg cs=>
  cases mb with
  |fP b=>cases ho;obtain⟨_,h1,_⟩:=hb;exact key h1
  |_=>exact hb.elim
 |iy es=>
  cases mb with
  |jc b=>cases ho
  |_=>exact hb.elim
 |cu r n seen=>
  cases mb with
  |fP b=>cases ho;obtain⟨_,h1,_⟩:=hb;exact key h1
  |_=>exact hb.elim
 |mark=>
  cases mb with
  |fP b=>cases ho;exact key hb
  |_=>exact hb.elim
 |loop=>
  cases mb with
  |fP b=>cases ho;obtain⟨_,h1,_⟩:=hb;exact key h1
  |_=>exact hb.elim
 |gone=>
  cases mb with
  |gone=>cases ho
  |_=>exact hb.elim
theorem HR.inb(hr:HR X P A m H h){c:Nat}(hc:c∈bn m):c<h.length:=by
 obtain⟨mb,hm,ho⟩:=a6M.1 hc;obtain⟨i,hi⟩:=a8i hm;have:i<H.length:=by rw[<-hr.len];exact(a02.1 hi).1
 obtain⟨Le,h1,h2⟩:=hr.at_ i H[i] (a0E this);rw[hi]at h1;cases h1;exact h2.has ho
theorem iU(a b:List MB):bn (a++b)=bn a++bn b:=List.filterMap_append ..
theorem jS(mb:MB):bn [mb]=mb.own.toList:=by unfold bn;simp[a8s];cases mb.own<;>rfl
theorem wB(ms:List MB):Up m (m++ms):=fun i mb hi=>.inl (by rw[a0N (a02.1 hi).1];exact hi)
theorem HR.push(hr:HR X P A m H h){pb:PB X.Γ}{hb:HB}{mb:MB}(ho:mb.own=some h.length∨mb.own=none)(qA:BR X P (AA A (m++[mb])) (m++[mb]) (h++[hb]) pb mb) :
  HR X P A (m++[mb]) (H++[pb]) (h++[hb])∧Fr m h (m++[mb]) (h++[hb])∧Up m (m++[mb]):=by
 have hF:Fr m h (m++[mb]) (h++[hb]):=by
  refine⟨by simp,fun b hb _=>by rw[a0N hb],fun b hb=>?_,fun b cs hc=>⟨cs,?_,a1J _⟩⟩
  .rw[iU,a3y,jS]at hb;rcases hb with hb|hb
   .exact .inl hb
   .rcases ho with ho|ho<;>rw[ho]at hb<;>simp at hb
    exact .inr (by omega)
  .rw[fJ (a0N (gu hc)),hc]
 refine⟨hr.next hF (wB _) (by simp[hr.len]) ?_ fun i b hi=>?_,hF,wB _⟩
 .rw[iU,jS];refine a8l.2 ⟨hr.nodup,?_,?_⟩
  .cases mb.own<;>simp
  .intro a ha b hb e;subst e;have:=hr.inb ha;rcases ho with ho|ho<;>rw[ho]at hb<;>simp at hb
   omega
 .rcases a3L i H.length with aQ|Eh
  .left;rw[a0N aQ]at hi;obtain⟨Le,h1,h2⟩:=hr.at_ i b hi;refine⟨Le,hi,h1,by rw[a0N (by rw[hr.len];exact aQ)];exact h1,fun c hc=>?_⟩;rw[a0N (h2.has hc)]
  .right;rw[a1H Eh]at hi;have:i-H.length=0:=by
    rcases ab7 (i-H.length)with h|h
    .exact h
    .rw[a3I (by simp;omega)]at hi;cases hi
   rw[this]at hi;simp only[a2I,a01]at hi;subst hi;exact⟨mb,by rw[a1H (by rw[hr.len];exact Eh),hr.len,this];rfl,qA⟩
theorem HR.abl(hr:HR X P A m H h){pb:PB X.Γ}{mb:MB}(ho:mb.own=none)(qA:BR X P (AA A (m++[mb])) (m++[mb]) h pb mb) :
  HR X P A (m++[mb]) (H++[pb]) h∧Fr m h (m++[mb]) h∧Up m (m++[mb]):=by
 have yL:bn (m++[mb])=bn m:=by rw[iU,jS,ho];simp
 have hF:Fr m h (m++[mb]) h:=⟨a1J _,fun _ _ _=>rfl,fun b hb=>.inl (yL▸hb),fun b cs hc=>⟨cs,hc,a1J _⟩⟩;refine⟨hr.next hF (wB _) (by simp[hr.len]) (by rw[yL];exact hr.nodup) fun i b hi=>?_,hF,wB _⟩;rcases a3L i H.length with aQ|Eh
 .left;rw[a0N aQ]at hi;obtain⟨Le,h1,h2⟩:=hr.at_ i b hi;exact⟨Le,hi,h1,by rw[a0N (by rw[hr.len];exact aQ)];exact h1,fun c hc=>rfl⟩
 .right;rw[a1H Eh]at hi;have:i-H.length=0:=by
   rcases ab7 (i-H.length)with h|h
   .exact h
   .rw[a3I (by simp;omega)]at hi;cases hi
  rw[this]at hi;simp only[a2I,a01]at hi;subst hi;exact⟨mb,by rw[a1H (by rw[hr.len];exact Eh),hr.len,this];rfl,qA⟩
theorem HR.set(hr:HR X P A m H h){i c:Nat}{mb:MB}{pb:PB X.Γ}{hb:HB}(hi:m[i]? = some mb)(ho:mb.own=some c)(hg:∀cs,aU h c=some cs->∃cs',aU (h.set c hb) c=some cs'∧cs.length<=cs'.length)
  (qA:Fr m h m (h.set c hb)->BR X P (AA A m) m (h.set c hb) pb mb):HR X P A m (H.set i pb) (h.set c hb)∧Fr m h m (h.set c hb):=by
 have hF:Fr m h m (h.set c hb):=by
  refine⟨by simp,fun b hb hn=>?_,fun b hb=>.inl hb,fun b cs hc=>?_⟩
  .rw[a1M];intro e;subst e;exact hn (aZ hi ho)
  .by_cases e:c=b
   .subst e;exact hg cs hc
   .exact⟨cs,by rw[fJ (a1M e),hc],a1J _⟩
 refine⟨hr.next hF .refl (by simp[hr.len]) hr.nodup fun j b hj=>?_,hF⟩;by_cases e:i=j
 .subst e;rw[a3N ]at hj;right;have:H[i]?.isSome:=by
   have:i<H.length:=by rw[<-hr.len];exact(a02.1 hi).1
   simp[this]
  obtain⟨y,hy⟩:=a4q.1 this;rw[hy]at hj;cases hj;exact⟨mb,hi,qA hF⟩
 .rw[a1M e]at hj;left;obtain⟨Le,h1,h2⟩:=hr.at_ j b hj;refine⟨Le,hj,h1,h1,fun d hd=>a1M fun e2=>?_⟩;subst e2;exact e (iQ hr.nodup hi h1 ho hd)
theorem Ey{i:Nat}:∀{m:List MB} {b:Nat},b∈bn (m.set i .gone)->b∈bn m:=by
 intro m b hb;obtain⟨mb,hm,ho⟩:=a6M.1 hb;obtain⟨j,hj⟩:=a8i hm;by_cases e:i=j
 .subst e;rw[a3N]at hj;cases hx:m[i]? with
  |none=>rw[hx]at hj;cases hj
  |some y=>rw[hx]at hj;cases hj;cases ho
 rw[a1M e]at hj;exact aZ hj ho
theorem NU{i:Nat}:∀{m:List MB},(bn m).Nodup->(bn (m.set i .gone)).Nodup:=by
 unfold bn;intro m
 induction m generalizing i with
 |nil=>intro h;simp
 |cons x r ih=>
  intro hn;cases i with
  |zero=>
   simp only[List.set_cons_zero,a8s,MB.own];simp only[a8s]at hn;split at hn
   .exact hn
   exact(a3P.1 hn).2
  |succ i=>
   simp only[List.set_cons_succ,a8s];simp only[a8s]at hn;split at hn
   .exact ih hn
   refine a3P.2 ⟨fun hb=>(a3P.1 hn).1 ?_,ih (a3P.1 hn).2⟩;exact Ey (m:=r) hb
theorem a0w{i:Nat}:Fr m h (m.set i .gone) h:=⟨a1J _,fun _ _ _=>rfl,fun _ hb=>.inl (Ey hb),fun _ cs hc=>⟨cs,hc,a1J _⟩⟩
theorem a0x{i:Nat}:Up m (m.set i .gone):=fun j mb hj=>by
 by_cases e:i=j
 .subst e;right;rw[a3N,hj];rfl
 .left;rw[a1M e];exact hj
theorem HR.gone(hr:HR X P A m H h)(i:Nat):HR X P A (m.set i .gone) (H.set i .gone) h:=by
 refine hr.next a0w a0x (by simp[hr.len]) (NU hr.nodup) fun j b hj=>?_;by_cases e:i=j
 .subst e;right;rw[a3N]at hj;cases hx:H[i]? with
  |none=>rw[hx]at hj;cases hj
  |some y=>
   rw[hx]at hj;cases hj;obtain⟨mb,h1,_⟩:=hr.at_ i y hx;exact⟨.gone,by rw[a3N,h1];rfl,trivial⟩
 rw[a1M e]at hj;left;obtain⟨mb,h1,_⟩:=hr.at_ j b hj;exact⟨mb,hj,h1,by rw[a1M e];exact h1,fun _ _=>rfl⟩
def bQ:List Nat->List MB->List MB
 | [],m=>m
 |i::is,m=>bQ is (m.set i .gone)
theorem gY:∀(is:List Nat) (m:List MB),Fr m h (bQ is m) h∧Up m (bQ is m)
 | [],m=>⟨.refl,.refl⟩
 |i::is,m=>⟨a0w.trans (gY is _).1,a0x.trans (gY is _).2⟩
theorem HR.aX:∀(is:List Nat) {m:List MB} {H:List (PB X.Γ)},HR X P A m H h->HR X P A (bQ is m) (aX is H) h
 | [],_,_,hr=>hr
 |i::is,_,_,hr=>HR.aX is (hr.gone i)
theorem nC:∀(is:List Nat) (H:List (PB X.Γ)),(Pv.aX is H).length=H.length
 | [],_=>rfl
 |i::is,H=>by rw[Pv.aX,nC is];simp[VN]
theorem lS:∀(is:List Nat) (m:List MB),(bQ is m).length=m.length
 | [],_=>rfl
 |i::is,m=>by rw[bQ,lS is];simp
theorem Gq:∀(is:List Nat) {m:List MB} {i:Nat} {mb:MB},m[i]? = some mb->(bQ is m)[i]? = some (if is.contains i then .gone else mb)
 | [],_,_,_,h=>by simpa[bQ]using h
 |j::is,m,i,mb,h=>by
  rw[bQ];by_cases e:j=i
  .subst e;have:(m.set j .gone)[j]? = some .gone:=by rw[a3N,h];rfl
   rw[Gq is this];simp
  rw[Gq is (by rw[a1M e];exact h)];have:(i==j)=false:=by simp;omega
  simp only[agw,this,ag8]
end
section
variable {X:kC} {P:Program} {A:Nat->Prop} {m m':List MB} {h h':List HB} {H H':List (PB X.Γ)}
theorem bU.nil:bU X P A m h [] []:=⟨rfl,fun i x y hx=>by simp at hx⟩
theorem bU.cons{v:PV X.Γ}{x:TV}{vs:List (PV X.Γ)}{xs:List TV}(h1:VR X P A m h v x)(h2:bU X P A m h vs xs):bU X P A m h (v::vs) (x::xs):=by
 refine⟨by simp[h2.1],fun i a b ha hb=>?_⟩;cases i with
 |zero=>simp only[a2I,a01]at ha hb;subst ha;subst hb;exact h1
 |succ i=>exact h2.2 i a b (by simpa using ha) (by simpa using hb)
theorem bU.inv{v:PV X.Γ}{vs:List (PV X.Γ)}{xs:List TV}(hv:bU X P A m h (v::vs) xs):∃x r,xs=x::r∧VR X P A m h v x∧bU X P A m h vs r:=by
 cases xs with
 |nil=>have:=hv.1;simp at this
 |cons x r=>exact⟨x,r,rfl,hv.2 0 v x rfl rfl,by have:=hv.1;simpa using this,fun i a b ha hb=>hv.2 (i+1) a b (by simpa using ha) (by simpa using hb)⟩
theorem bU.inv0{xs:List TV}(hv:bU X P A m h [] xs):xs=[]:=by have:=hv.1;cases xs<;>simp_all
theorem bU.app{a b:List (PV X.Γ)}{x y:List TV}(h1:bU X P A m h a x)(h2:bU X P A m h b y):bU X P A m h (a++b) (x++y):=by
 refine⟨by simp[h1.1,h2.1],fun i c d hc hd=>?_⟩;rcases a3L i a.length with hl|hl
 .rw[a0N hl]at hc;rw[a0N (by rw[<-h1.1];exact hl)]at hd;exact h1.2 i c d hc hd
 rw[a1H hl]at hc;rw[a1H (by rw[<-h1.1];exact hl),<-h1.1]at hd;exact h2.2 _ c d hc hd
theorem bU.drop{a:List (PV X.Γ)}{x:List TV}(h1:bU X P A m h a x)(n:Nat):bU X P A m h (a.drop n) (x.drop n):=
 ⟨by simp[h1.1],fun i c d hc hd=>h1.2 (n+i) c d (by rw[<-hc,a3M]) (by rw[<-hd,a3M])⟩
theorem bU.take{a:List (PV X.Γ)}{x:List TV}(h1:bU X P A m h a x)(n:Nat):bU X P A m h (a.take n) (x.take n):=by
 refine⟨by simp[h1.1],fun i c d hc hd=>?_⟩;rw[a3O]at hc hd;split at hc
 .rename_i hl;rw[a0V hl]at hd;exact h1.2 i c d hc hd
 cases hc
theorem bU.get{a:List (PV X.Γ)}{x:List TV}(h1:bU X P A m h a x){i:Nat}{c:PV X.Γ}(hc:a[i]? = some c):∃v,x[i]? = some v∧VR X P A m h c v:=by
 have hl:i<x.length:=by rw[<-h1.1];exact(a02.1 hc).1
 exact⟨x[i],a0E hl,h1.2 i c _ hc (a0E hl)⟩
theorem QZ{v:PV X.Γ}{x tv:TV}(hv:VR X P A m h v x)(hp:qM v=some tv):x=tv:=by
 cases hv with
 |gone hi _ _=>cases v<;>simp[bg]at hi<;>simp[qM]at hp
 |_=>first|(simp only[qM,a01]at hp;exact hp)|(simp[qM]at hp;done)
theorem F9:∀{vs:List (PV X.Γ)} {xs tvs:List TV},bU X P A m h vs xs->iF vs=some tvs->xs=tvs
 | [],xs,tvs,hv,hp=>by simp only[iF,a01]at hp;rw[hv.inv0,hp]
 |v::vs,xs,tvs,hv,hp=>by
  obtain⟨x,r,rfl,h1,h2⟩:=hv.inv;simp only[iF]at hp;split at hp
  .rename_i a b ha hb;cases hp;rw[QZ h1 ha,F9 h2 hb]
  cases hp
theorem jE{v:PV X.Γ}{x tv:TV}(hv:VR X P A m h v x)(hp:pJ v=some tv):x=tv:=by
 cases v with
 |agg cs=>
  simp only[pJ,a0D]at hp;obtain⟨tvs,h1,rfl⟩:=hp;cases hv with
  |agg h2 h3=>rw[F9 ⟨h2,h3⟩ h1]
  |gone hi _ _=>simp[bg]at hi
 |_=>exact QZ hv hp
theorem a0y:∀{vs:List (PV X.Γ)} {xs tvs:List TV},bU X P A m h vs xs->TU vs=some tvs->xs=tvs
 | [],xs,tvs,hv,hp=>by simp only[TU,a01]at hp;rw[hv.inv0,hp]
 |v::vs,xs,tvs,hv,hp=>by
  obtain⟨x,r,rfl,h1,h2⟩:=hv.inv;simp only[TU]at hp;split at hp
  .rename_i a b ha hb;cases hp;rw[jE h1 ha,a0y h2 hb]
  cases hp
theorem a5i{v:PV X.Γ}{x:TV}(hp:ZG x=some v):VR X P A m h v x:=by
 cases x<;>simp[ZG]at hp<;>subst hp<;>constructor
theorem U7:∀{xs:List TV} {vs:List (PV X.Γ)},BF xs=some vs->bU X P A m h vs xs
 | [],vs,hp=>by simp only[BF,a01]at hp;subst hp;exact .nil
 |x::xs,vs,hp=>by
  simp only[BF]at hp;split at hp
  .rename_i a b ha hb;cases hp;exact .cons (a5i ha) (U7 hb)
  cases hp
theorem wC{v:PV X.Γ}{x:TV}(hp:Y0 x=some v):VR X P A m h v x:=by
 cases x with
 |agg cs=>
  simp only[Y0,a0D]at hp;obtain⟨vs,h1,rfl⟩:=hp;have:=U7 (X:=X) (P:=P) (A:=A) (m:=m) (h:=h) h1;exact .agg this.1 this.2
 |_=>exact a5i hp
theorem Rf{v:PV X.Γ}{x:TV}(hp:qM v=some x):VR X P A m h v x:=by
 cases v<;>simp only[qM,a01,reduceCtorEq]at hp<;>subst hp
 .exact .bool _
 .exact .int _ _
 .exact .str _
 exact .nil _
theorem Fa:∀{vs:List (PV X.Γ)} {xs:List TV},iF vs=some xs->bU X P A m h vs xs
 | [],xs,hp=>by simp only[iF,a01]at hp;subst hp;exact .nil
 |v::vs,xs,hp=>by
  simp only[iF]at hp;split at hp
  .rename_i a b ha hb;cases hp;exact .cons (Rf ha) (Fa hb)
  cases hp
theorem nD{v:PV X.Γ}{x:TV}(hp:pJ v=some x):VR X P A m h v x:=by
 cases v with
 |agg cs=>
  simp only[pJ,a0D]at hp;obtain⟨vs,h1,rfl⟩:=hp;have:=Fa (X:=X) (P:=P) (A:=A) (m:=m) (h:=h) h1;exact .agg this.1 this.2
 |_=>exact Rf hp
theorem Gs{v:PV X.Γ}{x:TV}(hv:VR X P A m h v x):VR X P A m h (a0q v) x:=by
 cases v with
 |lit b=>
  cases hv with
  |lit=>exact .bool _
  |gone hi _ _=>simp[bg]at hi
 |_=>exact hv
theorem a5j{v:PV X.Γ}{x:TV}(hv:VR X P A m h v x):iO x=YC v:=by
 cases hv with
 |own _ o=>exact o
 |gone hi _ o=>rw[o];cases v<;>simp[bg]at hi<;>rfl
 |_=>rfl
theorem Gt{v:PV X.Γ}{x:TV}(hv:VR X P A m h v x):bU X P A m h v.cells x.cells:=by
 have hq:=a5j hv;cases v with
 |agg cs=>
  cases hv with
  |agg h1 h2=>exact⟨h1,h2⟩
  |gone hi _ _=>simp[bg]at hi
 |dG cs=>
  have hv':=hv;cases hv with
  |dG h1 h2=>exact .cons hv' .nil
  |gone hi _ _=>simp[bg]at hi
 |_=>
  have:x.cells=[x]:=by
   cases x<;>first|rfl|(simp[iO,YC]at hq;done)
  rw[this];exact .cons hv .nil
theorem Dv:∀{vs:List (PV X.Γ)} {xs:List TV},bU X P A m h vs xs->xs.all iO=vs.all YC
 | [],xs,hv=>by rw[hv.inv0];rfl
 |v::vs,xs,hv=>by
  obtain⟨x,r,rfl,h1,h2⟩:=hv.inv;simp only[abn,a5j h1,Dv h2]
theorem adC{cs:List (PV X.Γ)}{xs:List TV}(hv:bU X P A m h cs xs){off n:Nat}{r:List (PV X.Γ)}(hs:adv cs off n=some r):∃r',sub xs off n=some r'∧bU X P A m h r r':=by
 unfold adv at hs;split at hs
 .rename_i hl;cases hs;exact⟨_,by unfold sub;rw[a0V (by rw[<-hv.1];exact hl)],(hv.drop off).take n⟩
 cases hs
theorem Gu{cs new:List (PV X.Γ)}{xs ahs:List TV}(hv:bU X P A m h cs xs)(hn:bU X P A m h new ahs){off:Nat}{r:List (PV X.Γ)}(hs:NM cs off new=some r):∃r',vN xs off ahs=some r'∧bU X P A m h r r':=by
 unfold NM at hs;split at hs
 .rename_i hl;cases hs;refine⟨_,by unfold vN;rw[a0V (by rw[<-hv.1,<-hn.1];exact hl)],?_⟩;rw[<-hn.1];exact((hv.take off).app hn).app (hv.drop _)
 cases hs
theorem Aa{cs:List (PV X.Γ)}{xs:List TV}(hv:bU X P A m h cs xs){t:TypeId}{off:Nat}{v:PV X.Γ}(hs:Gj P t cs off=some v):∃x,tY P t xs off=some x∧VR X P A m h v x:=by
 unfold Gj at hs;unfold tY;split at hs
 .rename_i n ha hn;simp only[a0D]at hs;obtain⟨r,h1,rfl⟩:=hs;obtain⟨r',g1,g2⟩:=adC hv h1;exact⟨.agg r',by simp only[ha,hn,g1,a1z],.agg g2.1 g2.2⟩
 .rename_i n ha hn;split at hs
  .rename_i h1;obtain⟨x,g1,g2⟩:=hv.get hs;exact⟨x,by simp only[ha,hn,h1,a2D,g1],g2⟩
  cases hs
 cases hs
theorem Gv{t:TypeId}{z:List (PV X.Γ)}(hz:QW P t=some z):∃z',Jp P t=some z'∧bU X P A m h z z':=by
 unfold QW at hz;split at hz
 .rename_i z' h1;exact⟨z',h1,U7 hz⟩
 cases hz
def VPs(X:kC)(P:Program)(A:Nat->Prop)(m:List MB)(h:List HB)(ps:List (Nat×PV X.Γ))(qs:List (Nat×TV)):Prop:=
 ps.length=qs.length∧∀(i:Nat) a b,ps[i]? = some a->qs[i]? = some b->a.1=b.1∧VR X P A m h a.2 b.2
theorem VPs.inv{a:Nat×PV X.Γ}{ps:List (Nat×PV X.Γ)}{qs:List (Nat×TV)}(hv:VPs X P A m h (a::ps) qs):∃x r,qs=(a.1,x)::r∧VR X P A m h a.2 x∧VPs X P A m h ps r:=by
 cases qs with
 |nil=>have:=hv.1;simp at this
 |cons q r=>
  obtain⟨h1,h2⟩:=hv.2 0 a q rfl rfl;refine⟨q.2,r,by rw[h1],h2,by have:=hv.1;simpa using this,fun i x y hx hy=>hv.2 (i+1) x y (by simpa using hx) (by simpa using hy)⟩
theorem Lh{pl:Nat->Option (Nat×Nat)}:∀{ps:List (Nat×PV X.Γ)} {qs:List (Nat×TV)} {cs:List (PV X.Γ)} {xs:List TV},VPs X P A m h ps qs->bU X P A m h cs xs->∀{r:List (PV X.Γ)},NP pl cs ps=some r->∃r',rU pl xs qs=some r'∧bU X P A m h r r'
 | [],qs,cs,xs,hp,hv,r,hs=>by
  have:qs=[]:=by have:=hp.1;cases qs<;>simp_all
  subst this;simp only[NP,a01]at hs;subst hs;exact⟨xs,rfl,hv⟩
 |(i,v)::ps,qs,cs,xs,hp,hv,r,hs=>by
  obtain⟨x,rest,rfl,h1,h2⟩:=hp.inv;have hc:=Gt h1;simp only[NP]at hs;split at hs
  .rename_i off size FI;split at hs
   .rename_i uN;split at hs
    .rename_i cs' ho;obtain⟨xs',g1,g2⟩:=Gu hv hc ho;obtain⟨r',g3,g4⟩:=Lh h2 g2 hs;have adb:x.cells.length=size:=by rw[<-hc.1];exact uN
     exact⟨r',by simp only[rU,FI,adb,a2D,g1,g3],g4⟩
    cases hs
   cases hs
  cases hs
theorem a5k{t:TypeId}{ps:List (Nat×PV X.Γ)}{qs:List (Nat×TV)}(hp:VPs X P A m h ps qs){v:PV X.Γ}(hs:YE P t ps=some v):∃x,Md P t qs=some x∧VR X P A m h v x:=by
 unfold YE at hs;unfold Md;split at hs
 .rename_i z fs hz hu;obtain⟨z',g1,g2⟩:=Gv (A:=A) (m:=m) (h:=h) hz;split at hs
  .rename_i ha;simp only[a0D]at hs;obtain⟨r,h1,rfl⟩:=hs;obtain⟨r',g3,g4⟩:=Lh hp g2 h1;exact⟨.agg r',by simp only[g1,hu,ha,a2D,g3,a1z],.agg g4.1 g4.2⟩
  cases hs
 .rename_i z n e hz hu;obtain⟨z',g1,g2⟩:=Gv (A:=A) (m:=m) (h:=h) hz;split at hs
  .rename_i k hk;simp only[a0D]at hs;obtain⟨r,h1,rfl⟩:=hs;obtain⟨r',g3,g4⟩:=Lh hp g2 h1;exact⟨.agg r',by simp only[g1,hu,hk,g3,a1z],.agg g4.1 g4.2⟩
  cases hs
 cases hs
theorem VT{z:List (PV X.Γ)}{z':List TV}(hz:bU X P A m h z z'):∀n,bU X P A m h (YF z n) (times z' n)
 | 0=>.nil
 |n+1=>hz.app (VT hz n)
section
variable {env:List (Nat×PE X.Γ)} {env':List (Nat×EV)}
theorem a0z(he:jJ X P A m h env env'){t:Nat}:(Eu t env=none∧dL t env'=none)∨∃v x,Eu t env=some v∧dL t env'=some x∧I7 X P A m h v x:=by
 induction he with
 |nil=>exact .inl ⟨rfl,rfl⟩
 |cons h1 _ ih=>
  rename_i k v x r r' _;simp only[Eu,dL];by_cases e:k=t
  .right;exact⟨v,x,by rw[a0V e],by rw[a0V e],h1⟩
  rw[a0S e,a0S e];exact ih
theorem o8(he:jJ X P A m h env env'){t:Nat}{v:PE X.Γ}(hl:Eu t env=some v):∃x,dL t env'=some x∧I7 X P A m h v x:=by
 rcases a0z he (t:=t)with⟨h1,_⟩|⟨w,x,h1,h2,h3⟩
 .rw[hl]at h1;cases h1
 rw[hl]at h1;cases h1;exact⟨x,h2,h3⟩
theorem mM(he:jJ X P A m h env env'){o:Operand}{v:PE X.Γ}(hl:EW env o=some v):∃x,Hz env' o=some x∧I7 X P A m h v x:=by
 cases o with
 |tmp t=>exact o8 he hl
 |const c=>
  simp only[EW]at hl;split at hl
  .rename_i b hb;cases hl;exact⟨.val (.bool b),by simp only[Hz,hb,a1z],VR.lit b⟩
  .rename_i x _ hx;simp only[a0D]at hl;obtain⟨w,h1,rfl⟩:=hl;exact⟨.val x,by simp only[Hz,hx,a1z],wC h1⟩
  cases hl
 |func f=>
  simp only[EW,a01]at hl;subst hl;exact⟨.val (.fn f [] []),rfl,.fn rfl (by simp) rfl (by simp)⟩
 |global g=>cases hl
theorem fK{v:PV X.Γ}{x:EV}(hp:I7 X P A m h (.val v) x):∃y,x=.val y∧VR X P A m h v y:=by
 cases x with
 |val y=>exact⟨y,rfl,hp⟩
 |_=>exact hp.elim
theorem Dw{k o:Nat}{x:EV}(hp:I7 X P A m h (.loc k o) x):x=.loc k o:=by
 cases x with
 |loc k' o'=>obtain⟨rfl,rfl⟩:=hp;rfl
 |_=>exact hp.elim
theorem Iy{x:EV}(hp:I7 X P A m h .undef x):x=.undef:=by
 cases x with
 |undef=>rfl
 |_=>exact hp.elim
theorem Lj{r j:Nat}{v:PV X.Γ}{x:EV}(hp:I7 X P A m h (.ent r j v) x):∃c y,x=.ent c j y∧VR X P A m h (.map r) (.map c)∧pJ v=some y:=by
 cases x with
 |ent c j' y=>obtain⟨h1,rfl,h2⟩:=hp;exact⟨c,y,rfl,h1,h2⟩
 |_=>exact hp.elim
theorem Ll{r j:Nat}{x:EV}(hp:I7 X P A m h (.DY r j) x):∃c,x=.DY c j∧VR X P A m h (.map r) (.map c):=by
 cases x with
 |DY c j'=>obtain⟨h1,rfl⟩:=hp;exact⟨c,rfl,h1⟩
 |_=>exact hp.elim
theorem VU(he:jJ X P A m h env env'){o:Operand}{v:PV X.Γ}(hl:a0r env o=some v):∃x,qE env' o=some x∧VR X P A m h v x:=by
 unfold a0r at hl;split at hl
 .rename_i w hw;cases hl;obtain⟨x,h1,h2⟩:=mM he hw;obtain⟨y,rfl,h3⟩:=fK h2;exact⟨y,by simp only[qE,h1],h3⟩
 cases hl
theorem jd(he:jJ X P A m h env env'){o:Operand}{v:PV X.Γ}(hl:zI env o=some v):∃x,qE env' o=some x∧VR X P A m h v x:=by
 unfold zI at hl;split at hl
 .rename_i w hw;cases hl;obtain⟨x,h1,h2⟩:=mM he hw;obtain⟨y,rfl,h3⟩:=fK h2;exact⟨y,by simp only[qE,h1],Gs h3⟩
 cases hl
theorem U8(he:jJ X P A m h env env'):∀{os:List Operand} {vs:List (PV X.Γ)},YD env os=some vs->∃xs,SS env' os=some xs∧bU X P A m h vs xs
 | [],vs,hl=>by simp only[YD,a01]at hl;subst hl;exact⟨[],rfl,.nil⟩
 |o::os,vs,hl=>by
  simp only[YD]at hl;split at hl
  .rename_i v ws h1 h2;cases hl;obtain⟨x,g1,g2⟩:=jd he h1;obtain⟨xs,g3,g4⟩:=U8 he h2;exact⟨x::xs,by simp only[SS,g1,g3],.cons g2 g4⟩
  cases hl
theorem YO(he:jJ X P A m h env env'):∀{os:List (Nat×Operand)} {vs:List (Nat×PV X.Γ)},a2g env os=some vs->∃xs,Va env' os=some xs∧VPs X P A m h vs xs
 | [],vs,hl=>by simp only[a2g,a01]at hl;subst hl;exact⟨[],rfl,rfl,fun i a b ha=>by simp at ha⟩
 |(i,o)::os,vs,hl=>by
  simp only[a2g]at hl;split at hl
  .rename_i v ws h1 h2;cases hl;obtain⟨x,g1,g2⟩:=jd he h1;obtain⟨xs,g3,g4⟩:=YO he h2;refine⟨(i,x)::xs,by simp only[Va,g1,g3],by simp[g4.1],fun j a b ha hb=>?_⟩;cases j with
   |zero=>simp only[a2I,a01]at ha hb;subst ha;subst hb;exact⟨rfl,g2⟩
   |succ j=>exact g4.2 j a b (by simpa using ha) (by simpa using hb)
  cases hl
def OR(X:kC)(P:Program)(A:Nat->Prop)(m:List MB)(h:List HB):Option (PV X.Γ)->Option TV->Prop
 |none,none=>True
 |some v,some x=>VR X P A m h v x
 |_,_=>False
theorem Gw(he:jJ X P A m h env env'){o:Option Operand}{v:Option (PV X.Γ)}(hl:NJ env o=some v):∃x,Vd env' o=some x∧OR X P A m h v x:=by
 cases o with
 |none=>simp only[NJ,a01]at hl;subst hl;exact⟨none,rfl,trivial⟩
 |some o=>
  simp only[NJ]at hl;split at hl
  .rename_i w hw;cases hl;obtain⟨x,g1,g2⟩:=jd he hw;exact⟨some x,by simp only[Vd,g1],g2⟩
  cases hl
theorem U9(he:jJ X P A m h env env'):∀live,jJ X P A m h (iW live env) (pick live env')
 | []=>.nil
 |t::r=>by
  simp only[iW,pick];rcases a0z he (t:=t)with⟨h1,h2⟩|⟨v,x,h1,h2,h3⟩
  .rw[h1,h2];exact U9 he r
  rw[h1,h2];exact .cons h3 (U9 he r)
theorem a90(he:jJ X P A m h env env'){t:Nat}{b:Bool}(hb:dL t env'=some (.val (.bool b))):jJ X P A m h (Pv.Bo t b env) env':=by
 induction he with
 |nil=>exact .nil
 |cons h1 h2 ih=>
  rename_i k v x r r';simp only[dL]at hb;simp only[Pv.Bo];by_cases e:k=t
  .rw[a0V e]at hb ⊢;cases hb;exact .cons (VR.lit b) h2
  rw[a0S e]at hb ⊢;exact .cons h1 (ih hb)
theorem adD(he:jJ X P A m h env env'):U5 X env=BL env':=by
 induction he with
 |nil=>rfl
 |cons h1 _ ih=>
  rename_i k v x r r' _;cases v with
  |val v=>obtain⟨y,rfl,_⟩:=fK h1;simpa[U5,BL]using ih
  |loc a b=>rw[Dw h1];simp only[U5,BL,ih]
  |undef=>rw[Iy h1];simpa[U5,BL]using ih
  |ent=>obtain⟨_,_,rfl,_⟩:=Lj h1;simpa[U5,BL]using ih
  |DY=>obtain⟨_,rfl,_⟩:=Ll h1;simpa[U5,BL]using ih
end
end
structure bK(X:kC)(P:Program):Prop where
 dec:∀{t:Nat} {vs:List (PV X.Γ)} {a:X.Γ t},X.dec t vs=some a->∀{A:Nat->Prop} {m:List MB} {h:List HB} {xs:List TV},bU X P A m h vs xs->bU X P A m h (X.enc t a) xs
 iY:∀(t:Nat) (a:X.Γ t),iY.Gm (X.enc t a)=true
section
variable {X:kC} {P:Program} {A B:Nat->Prop} {m m':List MB} {h h':List HB} {H H':List (PB X.Γ)}
theorem VR.mono(hAB:∀b,A b->B b){v:PV X.Γ}{x:TV}(hv:VR X P A m h v x):VR X P B m h v x:=by
 induction hv with
 |bool=>exact .bool _
 |lit=>exact .lit _
 |int=>exact .int _ _
 |str=>exact .str _
 |nil=>exact .nil _
 |ptr e=>exact .ptr e
 |slc e=>exact .slc e
 |own e o=>exact .own e o
 |win e q q' q2=>exact .win e q q' q2
 |zZ e=>exact .zZ e
 |map e=>exact .map e
 |iter e=>exact .iter e
 |fn h1 _ h3 _ i2 i4=>exact .fn h1 i2 h3 i4
 |jZ e=>exact .jZ e
 |agg h1 _ i2=>exact .agg h1 i2
 |dG h1 _ i2=>exact .dG h1 i2
 |o7=>exact .o7
 |dn a c c2 s z o k f e _ ih=>exact .dn (hAB _ a) c c2 s z o k f e ih
 |el a c l o e q _ ih=>exact .el (hAB _ a) c l o e q ih
 |row e j q=>exact .row e j q
 |gone i e o=>exact .gone i e o
theorem bU.mono(hAB:∀b,A b->B b){v:List (PV X.Γ)}{x:List TV}(hv:bU X P A m h v x):bU X P B m h v x:=⟨hv.1,fun i a b ha hb=>(hv.2 i a b ha hb).mono hAB⟩
theorem eX:∀{vs:List (PV X.Γ)} {i:Nat} {v:PV X.Γ},iY.Gm vs=true->vs[i]? = some v->iY v=true
 | [],_,_,_,h=>by simp at h
 |a::vs,i,v,hc,h=>by
  simp only[iY.Gm,a2r]at hc;cases i with
  |zero=>simp only[a2I,a01]at h;subst h;exact hc.1
  |succ i=>exact eX hc.2 (by simpa using h)
theorem VR.iY(hX:bK X P){v:PV X.Γ}{x:TV}(hv:VR X P A m h v x)(hc:Pv.iY v=true):VR X P A m' h v x:=by
 induction hv with
 |bool=>exact .bool _
 |lit=>exact .lit _
 |int=>exact .int _ _
 |str=>exact .str _
 |nil=>exact .nil _
 |fn h1 _ h3 _ i2 i4=>
  simp only[Pv.iY,a2r]at hc;exact .fn h1 (fun i x y hx hy=>i2 i x y hx hy (eX hc.1 hx)) h3 (fun i x y hx hy=>i4 i x y hx hy (eX hc.2 hx))
 |agg h1 _ i2=>
  simp only[Pv.iY]at hc;exact .agg h1 (fun i x y hx hy=>i2 i x y hx hy (eX hc hx))
 |dG h1 _ i2=>
  simp only[Pv.iY]at hc;exact .dG h1 (fun i x y hx hy=>i2 i x y hx hy (eX hc hx))
 |o7=>exact .o7
 |dn a c c2 s z o k f e _ ih=>exact .dn a c c2 s z o k f e fun j y i d v h1 h2 h3=>ih j y i d v h1 h2 h3 (eX (hX.iY _ _) h2)
 |el a c l o e q _ ih=>exact .el a c l o e q fun i d v h1 h2=>ih i d v h1 h2 (eX (hX.iY _ _) h1)
 |gone i e o=>rename_i v _ _;cases v<;>simp[bg]at i<;>simp[Pv.iY]at hc
 |_=>simp[Pv.iY]at hc
theorem dV.iY(hX:bK X P){t:Nat}{l:List (X.Γ t)}{cs:List TV}{off sz:Nat}(hv:dV X P A m h t l cs off sz):dV X P A m' h t l cs off sz:=
 ⟨hv.1,hv.2.1,fun j a i c v h1 h2 h3=>(hv.2.2 j a i c v h1 h2 h3).iY hX (eX (hX.iY _ _) h2)⟩
theorem dV.mono(hAB:∀b,A b->B b){t:Nat}{l:List (X.Γ t)}{cs:List TV}{off sz:Nat}(hv:dV X P A m h t l cs off sz):dV X P B m h t l cs off sz:=
 ⟨hv.1,hv.2.1,fun j a i c v h1 h2 h3=>(hv.2.2 j a i c v h1 h2 h3).mono hAB⟩
theorem VR.move(hX:bK X P)(hA:∀q cs,A q->aU h q=some cs->B q∧h'[q]? = h[q]?){v:PV X.Γ}{x:TV}(hv:VR X P A m h v x)(hc:Pv.iY v=true):VR X P B m' h' v x:=by
 induction hv with
 |bool=>exact .bool _
 |lit=>exact .lit _
 |int=>exact .int _ _
 |str=>exact .str _
 |nil=>exact .nil _
 |fn h1 _ h3 _ i2 i4=>
  simp only[Pv.iY,a2r]at hc;exact .fn h1 (fun i x y hx hy=>i2 i x y hx hy (eX hc.1 hx)) h3 (fun i x y hx hy=>i4 i x y hx hy (eX hc.2 hx))
 |agg h1 _ i2=>
  simp only[Pv.iY]at hc;exact .agg h1 (fun i x y hx hy=>i2 i x y hx hy (eX hc hx))
 |dG h1 _ i2=>
  simp only[Pv.iY]at hc;exact .dG h1 (fun i x y hx hy=>i2 i x y hx hy (eX hc hx))
 |o7=>exact .o7
 |dn a c c2 s z o k f e _ ih=>obtain⟨a',c'⟩:=hA _ _ a c;exact .dn a' ((fJ c').trans c) (fun hl=>(xX c').trans (c2 hl)) s z o k f e fun j y i d v h1 h2 h3=>ih j y i d v h1 h2 h3 (eX (hX.iY _ _) h2)
 |el a c l o e q _ ih=>obtain⟨a',c'⟩:=hA _ _ a (A8 c);exact .el a' ((xX c').trans c) l o e q fun i d v h1 h2=>ih i d v h1 h2 (eX (hX.iY _ _) h1)
 |gone i e o=>rename_i v _ _;cases v<;>simp[bg]at i<;>simp[Pv.iY]at hc
 |_=>simp[Pv.iY]at hc
theorem dV.move(hX:bK X P)(hA:∀q cs,A q->aU h q=some cs->B q∧h'[q]? = h[q]?){t:Nat}{l:List (X.Γ t)}{cs:List TV}{off sz:Nat}(hv:dV X P A m h t l cs off sz):dV X P B m' h' t l cs off sz:=
 ⟨hv.1,hv.2.1,fun j a i c v h1 h2 h3=>(hv.2.2 j a i c v h1 h2 h3).move hX hA (eX (hX.iY _ _) h2)⟩
def FA(A:Nat->Prop)(m:List MB)(is:List Nat):Nat->Prop:=fun b=>AA A m b∨∃i mb,i∈is∧m[i]? = some mb∧mb.own=some b
theorem FA.mono{is js:List Nat}(hs:∀i,i∈is->i∈js){b:Nat}(hb:FA A m is b):FA A m js b:=by
 rcases hb with h|⟨i,mb,h1,h2,h3⟩
 .exact .inl h
 exact .inr ⟨i,mb,hs i h1,h2,h3⟩
theorem NV:∀(is:List Nat) {m:List MB} {i:Nat} {mb:MB},(bQ is m)[i]? = some mb->mb.own≠none->i∉is∧m[i]? = some mb
 | [],_,_,_,h,_=>⟨by simp,h⟩
 |j::is,m,i,mb,h,hn=>by
  obtain⟨h1,h2⟩:=NV is (m:=m.set j .gone) h hn;by_cases e:j=i
  .subst e;rw[a3N]at h2;cases hx:m[j]? with
   |none=>rw[hx]at h2;cases h2
   |some y=>rw[hx]at h2;cases h2;exact absurd rfl hn
  rw[a1M e]at h2;exact⟨by simp[h1,Ne.symm e],h2⟩
theorem Ac{is:List Nat}{m:List MB}{b:Nat}(hb:b∈bn (bQ is m)):∃i mb,i∉is∧m[i]? = some mb∧mb.own=some b:=by
 obtain⟨mb,hm,ho⟩:=a6M.1 hb;obtain⟨i,hi⟩:=a8i hm;obtain⟨h1,h2⟩:=NV is hi (by rw[ho];simp);exact⟨i,mb,h1,h2,ho⟩
theorem FA.gone(hr:HR X P A m H h){is:List Nat}{b:Nat}(hb:FA A m is b):AA A (bQ is m) b:=by
 rcases hb with hb|⟨i,mb,h1,h2,h3⟩
 .refine⟨hb.1,fun hm=>?_⟩;obtain⟨i,mb,_,h2,h3⟩:=Ac hm;exact hb.2 (aZ h2 h3)
 refine⟨hr.Cm b (aZ h2 h3),fun hm=>?_⟩;obtain⟨j,Le,g1,g2,g3⟩:=Ac hm;have:=iQ hr.nodup h2 g2 h3 g3;exact g1 (this▸h1)
theorem Rh(hX:bK X P)(hr:HR X P A m H h){k ex:Bool}{t i:Nat}{l:List (X.Γ t)}{x:TV}(hl:LR X P (AA A m) m h k ex t l x)(hi:m[i]? = some (.dn x)){is:List Nat}(hs:i∈is):VR X P (FA A m is) m' h (.dn t l false) x:=by
 cases hl with
 |nil=>exact .o7
 |emp h0 h1 h2 h3 h4=>exact .dn (.inl h0) h1 (fun e=>absurd rfl e) h3 h4 (by simpa using h2) (a1J _) (by simp) (fun j a hj=>by simp at hj) (fun j a i c v hj=>by simp at hj)
 |some h1 h2 h3 h4 h5 h6 h7 h8 h9=>
  refine .dn (cs:=_) (.inr ⟨i,_,hs,hi,?_⟩) (by unfold aU;rw[h4]) (fun _=>wu h4 (by omega)) h2 h3 (by omega) (a1J _) (by simp) h9.1 ?_
  .simp only[MB.own];rw[a0S (by simpa using h1)]
  intro j a q c v e1 e2 e3;exact((h9.2.2 j a q c v e1 e2 e3).mono fun b hb=>.inl hb).iY hX (eX (hX.iY _ _) e2)
theorem VR.part{F:Nat->Prop}{t:Nat}{l:List (X.Γ t)}{fu:Bool}{b off len cap sz:Nat}{ex:Bool}(hv:VR X P F m h (.dn t l fu) (.slc b off len cap sz ex)){o n cap':Nat}{ZT fu':Bool}(hn:o+n<=len)(hc:n<=cap')(hw:n=0∨o+cap'=cap)(hfu:fu'=true->ZT=true∧cap'=n) :
  VR X P F m h (.dn t ((l.drop o).take n) fu') (.slc b (off+o*sz) n cap' sz ZT):=by
 cases hv with
 |dn a c c2 s z ol k f e r=>
  have hlen:((l.drop o).take n).length=n:=by rw[a3B,a3D];omega
  have:=@VR.dn X P F m h t ((l.drop o).take n) fu' b (off+o*sz) cap' sz ZT _ a c (fun iq=>by
   have h1:n≠0:=fun e=>iq (by subst e;simp);have h2:=hw.resolve_left h1;have h3:off+o*sz+cap'*sz=off+cap*sz:=by rw[<-h2,a3A];omega
   rw[h3];exact c2 (fun e=>by subst e;simp at hlen;omega)) s z (by
   rw[hlen];have:(o+n)*sz<=l.length*sz:=a3z sz hn;rw[a3A]at this;omega) (by rw[hlen];exact hc) (by rw[hlen];exact hfu) (fun j y hy=>by
    rw[a3O]at hy;split at hy
    .rw[a3M]at hy;exact e _ _ hy
    .cases hy) (fun j y i d v hy h2 h3=>by
    rw[a3O]at hy;split at hy
    .rw[a3M]at hy;refine r _ _ i d v hy h2 ?_;rw[<-h3];congr 1;rw[a3A];omega
    .cases hy)
  rwa [hlen]at this
 |gone hi _ _=>simp[bg]at hi
mutual
theorem Ua(hX:bK X P)(hr:HR X P A m H h):∀{v w:PV X.Γ} {x:TV},VR X P (AA A m) m h v x->view H v=some w->∀{is:List Nat},(∀i,i∈kF v->i∈is)->VR X P (FA A m is) m' h w x
 |.own i,w,x,hv,hw,is,hs=>by
  simp only[view]at hw;split at hw
  .rename_i k ex t l hH;cases hw;obtain⟨mb,h1,h2⟩:=hr.at_ i _ hH;cases mb with
   |dn y=>
    cases hv with
    |own e o=>rw[h1]at e;cases e;exact Rh hX hr h2 h1 (hs i (by simp[kF]))
    |gone hi e o=>simp only[bg,a01]at hi;subst hi;rw[h1]at e;cases e
   |_=>exact h2.elim
  cases hw
 |.win i o n,w,x,hv,hw,is,hs=>by
  simp only[view]at hw;split at hw
  .rename_i k ex t l hH;cases hw;obtain⟨mb,h1,h2⟩:=hr.at_ i _ hH;cases mb with
   |dn y=>
    have h2':LR X P (AA A m) m h k ex t l y:=h2;have hfz:VR X P (FA A m is) m' h (.dn t l false) y:=Rh hX hr h2' h1 (hs i (by simp[kF]));cases hv with
    |win e q q' q2=>
     rw[h1]at e;cases e;exact hfz.part q q' q2 (by simp)
    |zZ e=>
     rw[h1]at e;cases e;cases h2' with
     |nil=>simp only[List.drop_nil,List.take_nil];exact .o7
    |gone hi e o=>simp only[bg,a01]at hi;subst hi;rw[h1]at e;cases e
   |_=>exact h2.elim
  cases hw
 |.fn f a c,w,x,hv,hw,is,hs=>by
  simp only[view]at hw;split at hw
  .rename_i a' c' h1 h2;cases hw;cases hv with
   |fn e1 e2 e3 e4=>
    have g1:=kU hX hr ⟨e1,e2⟩ h1 (is:=is) fun i hi=>hs i (by simp[kF,hi]);have g2:=kU hX hr ⟨e3,e4⟩ h2 (is:=is) fun i hi=>hs i (by simp[kF,hi]);exact .fn g1.1 g1.2 g2.1 g2.2
   |gone hi _ _=>simp[bg]at hi
  cases hw
 |.agg cs,w,x,hv,hw,is,hs=>by
  simp only[view,a0D]at hw;obtain⟨cs',h1,rfl⟩:=hw;cases hv with
  |agg e1 e2=>have g1:=kU hX hr ⟨e1,e2⟩ h1 (is:=is) fun i hi=>hs i (by simp[kF,hi]);exact .agg g1.1 g1.2
  |gone hi _ _=>simp[bg]at hi
 |.dG cs,w,x,hv,hw,is,hs=>by
  simp only[view,a0D]at hw;obtain⟨cs',h1,rfl⟩:=hw;cases hv with
  |dG e1 e2=>have g1:=kU hX hr ⟨e1,e2⟩ h1 (is:=is) fun i hi=>hs i (by simp[kF,hi]);exact .dG g1.1 g1.2
  |gone hi _ _=>simp[bg]at hi
 |.bool b,w,x,hv,hw,is,hs=>by simp only[view,a01]at hw;subst hw;exact(hv.mono fun b hb=>.inl hb).iY hX rfl
 |.lit b,w,x,hv,hw,is,hs=>by
  simp only[view,a01]at hw;subst hw;cases hv with
  |lit=>exact .bool _
  |gone hi _ _=>simp[bg]at hi
 |.int k n,w,x,hv,hw,is,hs=>by simp only[view,a01]at hw;subst hw;exact(hv.mono fun b hb=>.inl hb).iY hX rfl
 |.str b,w,x,hv,hw,is,hs=>by simp only[view,a01]at hw;subst hw;exact(hv.mono fun b hb=>.inl hb).iY hX rfl
 |.nil b,w,x,hv,hw,is,hs=>by simp only[view,a01]at hw;subst hw;exact(hv.mono fun b hb=>.inl hb).iY hX rfl
 |.dn t l f,w,x,hv,hw,is,hs=>by simp only[view,a01]at hw;subst hw;exact(hv.mono fun b hb=>.inl hb).iY hX rfl
 |.ptr _ _ _,w,x,hv,hw,is,hs=>by simp[view]at hw
 |.slc _ _ _ _ _ _,w,x,hv,hw,is,hs=>by simp[view]at hw
 |.map _,w,x,hv,hw,is,hs=>by simp[view]at hw
 |.jZ _,w,x,hv,hw,is,hs=>by simp[view]at hw
 |.el _ _ _,w,x,hv,hw,is,hs=>by simp[view]at hw
 |.row _ _ _,w,x,hv,hw,is,hs=>by simp[view]at hw
theorem kU(hX:bK X P)(hr:HR X P A m H h):∀{vs ws:List (PV X.Γ)} {xs:List TV},bU X P (AA A m) m h vs xs->views H vs=some ws->∀{is:List Nat},(∀i,i∈kF.jR vs->i∈is)->bU X P (FA A m is) m' h ws xs
 | [],ws,xs,hv,hw,is,hs=>by simp only[view.views,a01]at hw;subst hw;rw[hv.inv0];exact .nil
 |v::vs,ws,xs,hv,hw,is,hs=>by
  obtain⟨x,r,rfl,h1,h2⟩:=hv.inv;simp only[view.views]at hw;split at hw
  .rename_i w Tj g1 g2;cases hw;exact .cons (Ua hX hr h1 g1 fun i hi=>hs i (by simp[kF.jR,hi])) (kU hX hr h2 g2 fun i hi=>hs i (by simp[kF.jR,hi]))
  cases hw
end
end
open Go Tw
section
variable {X:kC} {P:Program} {A B F:Nat->Prop} {m m':List MB} {h h':List HB} {H H':List (PB X.Γ)}
theorem a0A(hX:bK X P)(hr:HR X P A m H h){t:Nat}{cs:List (PV X.Γ)}{xs:List TV}(hv:bU X P (AA A m) m h cs xs){a:X.Γ t}{is:List Nat}(hd:a8U X H t cs=some (a,is)):bU X P (FA A m is) m' h (X.enc t a) xs:=by
 unfold a8U at hd;split at hd
 .rename_i vs h1;split at hd
  .rename_i b h2;simp only[a01,a1o]at hd;obtain⟨rfl,rfl⟩:=hd;exact hX.dec h2 (kU hX hr hv h1 fun i hi=>hi)
  cases hd
 cases hd
theorem Ad(hX:bK X P)(hr:HR X P A m H h){t sz:Nat}:∀{n:Nat} {cs:List (PV X.Γ)} {xs:List TV},bU X P (AA A m) m h cs xs->∀{l:List (X.Γ t)} {is:List Nat},xQ X H t sz n cs=some (l,is)->l.length=n∧dV X P (FA A m is) m' h t l xs 0 sz
 | 0,cs,xs,hv,l,is,hd=>by
  simp only[xQ,a01,a1o]at hd;obtain⟨rfl,rfl⟩:=hd;exact⟨rfl,fun j a hj=>by simp at hj,by simp,fun j a i c v hj=>by simp at hj⟩
 |n+1,cs,xs,hv,l,is,hd=>by
  simp only[xQ]at hd;split at hd
  rotate_left
  .cases hd
  rename_i uN;split at hd
  rotate_left
  .cases hd
  rename_i a js l' ks h1 h2;simp only[a01,a1o]at hd;obtain⟨rfl,rfl⟩:=hd;have g1:=(a0A (m':=m') hX hr (hv.take sz) h1).mono fun b hb=>FA.mono (js:=js++ks) (fun i hi=>a5u _ hi) hb;obtain⟨e2,g2⟩:=Ad hX hr (hv.drop sz) h2;have g2:=g2.mono fun b hb=>FA.mono (js:=js++ks) (fun i hi=>abj _ hi) hb;have hl:(X.enc t a).length=sz:=by rw[g1.1,a3B,<-hv.1];omega
  refine⟨by simp[e2],fun j b hj=>?_,?_,fun j b i c v hj hi hx=>?_⟩
  .cases j with
   |zero=>simp only[a2I,a01]at hj;subst hj;exact hl
   |succ j=>exact g2.1 j b (by simpa using hj)
  .have:=g2.2.1;rw[a3D]at this;have h3:=hv.1;simp only[a3J,a3A];omega
  cases j with
  |zero=>
   simp only[a2I,a01]at hj;subst hj;have aQ:i<sz:=by rw[<-hl];exact(a02.1 hi).1
   refine g1.2 i c v hi ?_;rw[a3O,a0V aQ,<-hx];simp
  |succ j=>
   refine g2.2.2 j b i c v (by simpa using hj) hi ?_;rw[a3M,<-hx];congr 1;rw[a3A];omega
def SlR(X:kC)(P:Program)(F:Nat->Prop)(m:List MB)(h:List HB)(t sz:Nat)(l:List (X.Γ t))(x:TV):Prop:=
 (x=.nil .slc∧l=[])∨∃b off cap ex cs,x=.slc b off l.length cap sz ex∧l.length<=cap∧aU h b=some cs∧(l≠[]->lH h b (off+cap*sz)=some cs)∧dV X P F m h t l cs off sz
theorem a0B{t sz:Nat}{l:List (X.Γ t)}{fu:Bool}{x:TV}(hv:VR X P F m h (.dn t l fu) x)(hz:dw P t=some sz):SlR X P F m h t sz l x:=by
 cases hv with
 |o7=>exact .inl ⟨rfl,rfl⟩
 |dn a c c2 s z o k f e r=>
  rw[hz]at s;cases s;exact .inr ⟨_,_,_,_,_,rfl,k,c,c2,e,o,r⟩
 |gone hi _ _=>simp[bg]at hi
theorem a5l{k ex:Bool}{t sz:Nat}{l:List (X.Γ t)}{x:TV}(hv:LR X P F m h k ex t l x)(hz:dw P t=some sz):SlR X P F m h t sz l x:=by
 cases hv with
 |nil=>exact .inl ⟨rfl,rfl⟩
 |emp h0 h1 h2 h3 h4=>
  rw[hz]at h3;cases h3;exact .inr ⟨_,_,_,_,_,rfl,a1J _,h1,fun e=>absurd rfl e,fun j a hj=>by simp at hj,by simpa using h2,fun j a i c v hj=>by simp at hj⟩
 |some h1 h2 h3 h4 h5 h6 h7 h8 h9=>
  rw[hz]at h2;cases h2;exact .inr ⟨_,_,_,_,_,rfl,a1J _,by unfold aU;rw[h4],fun _=>wu h4 (by omega),h9⟩
theorem dV.part{t sz:Nat}{l:List (X.Γ t)}{cs:List TV}{off o n:Nat}(hv:dV X P F m h t l cs off sz)(hn:o+n<=l.length):dV X P F m h t ((l.drop o).take n) cs (off+o*sz) sz:=by
 have hlen:((l.drop o).take n).length=n:=by rw[a3B,a3D];omega
 refine⟨fun j y hy=>?_,?_,fun j y i c v hy h2 h3=>?_⟩
 .rw[a3O]at hy;split at hy
  .rw[a3M]at hy;exact hv.1 _ _ hy
  cases hy
 .have:=hv.2.1;have h2:(o+n)*sz<=l.length*sz:=a3z sz hn;rw[hlen];rw[a3A]at h2;omega
 rw[a3O]at hy;split at hy
 .rw[a3M]at hy;refine hv.2.2 _ y i c v hy h2 ?_;rw[<-h3];congr 1;rw[a3A];omega
 cases hy
theorem dV.take{t sz:Nat}{l:List (X.Γ t)}{cs:List TV}{off:Nat}(hv:dV X P F m h t l cs off sz):dV X P F m h t l ((cs.drop off).take (l.length*sz)) 0 sz:=by
 refine⟨hv.1,?_,fun j a i c v h1 h2 h3=>?_⟩
 .have:=hv.2.1;rw[a3B,a3D];omega
 rw[a3O]at h3;split at h3
 .rw[a3M]at h3;exact hv.2.2 j a i c v h1 h2 (by rw[<-h3];congr 1;omega)
 cases h3
theorem SlR.src{t sz:Nat}{l:List (X.Γ t)}{x:TV}(hv:SlR X P F m h t sz l x):∃new,fB sz h x=some (l.length,new)∧new.length=l.length*sz∧dV X P F m h t l new 0 sz:=by
 rcases hv with⟨rfl,rfl⟩|⟨b,off,cap,ex,cs,rfl,hk,hc,I4,hw⟩
 .exact⟨[],rfl,by simp,fun j a hj=>by simp at hj,by simp,fun j a i c v hj=>by simp at hj⟩
 refine⟨(cs.drop off).take (l.length*sz),?_,?_,hw.take⟩
 .have:=hw.2.1;simp only[fB,a2D,sub];by_cases h0:l.length=0
  .rw[a0V h0,h0];simp
  rw[a0S h0,I4 (fun e=>h0 (by rw[e];rfl))];simp only;rw[a0V this];rfl
 have:=hw.2.1;rw[a3B,a3D];omega
theorem dV.app{t sz:Nat}{l r:List (X.Γ t)}{a b:List TV}(h1:dV X P F m h t l a 0 sz)(h2:dV X P F m h t r b 0 sz)(ha:a.length=l.length*sz):dV X P F m h t (l++r) (a++b) 0 sz:=by
 refine⟨fun j y hy=>?_,?_,fun j y i c v hy hi hx=>?_⟩
 .rcases a3L j l.length with hl|hl
  .rw[a0N hl]at hy;exact h1.1 j y hy
  rw[a1H hl]at hy;exact h2.1 _ y hy
 .have:=h2.2.1;simp only[a2m,a3A];omega
 rcases a3L j l.length with hl|hl
 .rw[a0N hl]at hy;have aQ:i<sz:=by rw[<-h1.1 j y hy];exact(a02.1 hi).1
  have:(j+1)*sz<=l.length*sz:=a3z sz hl;rw[a3A]at this;rw[a0N (by omega)]at hx;exact h1.2.2 j y i c v hy hi hx
 rw[a1H hl]at hy;have:l.length*sz<=j*sz:=a3z sz hl;rw[a1H (by omega)]at hx;refine h2.2.2 _ y i c v hy hi ?_;rw[<-hx];congr 1;rw[ha,Nat.sub_mul];omega
theorem um{Γ:Nat->Type}{t t':Nat}{l:List (Γ t')}{r:List (Γ t)}(h:Cb t t' l=some r):∃e:t'=t,r=e▸l:=by
 unfold Cb at h;split at h
 .rename_i e;cases h;exact⟨e,rfl⟩
 cases h
theorem Ub(hX:bK X P)(hr:HR X P A m H h){e sz:Nat}{x:PV X.Γ}{tx:TV}(hv:VR X P (AA A m) m h x tx)(hz:dw P e=some sz){rows:List (X.Γ e)}{is:List Nat}(hs:zX X H e sz x=some (rows,is)) :
  ∃new,fB sz h tx=some (rows.length,new)∧new.length=rows.length*sz∧dV X P (FA A m is) m' h e rows new 0 sz:=by
 have up:∀{l:List (X.Γ e)} {y:TV},SlR X P (AA A m) m h e sz l y->∃new,fB sz h y=some (l.length,new)∧new.length=l.length*sz∧dV X P (FA A m []) m' h e l new 0 sz:=by
  intro l y hy;obtain⟨new,h1,h2,h3⟩:=hy.src;exact⟨new,h1,h2,(h3.mono fun b hb=>.inl hb).iY hX⟩
 cases x with
 |nil k=>
  cases k<;>simp only[zX]at hs<;>try (cases hs;done)
  simp only[a01,a1o]at hs;obtain⟨rfl,rfl⟩:=hs;cases hv with
  |nil=>exact up (.inl ⟨rfl,rfl⟩)
  |gone hi _ _=>simp[bg]at hi
 |dn t l fu=>
  simp only[zX,a0D,a1o]at hs;obtain⟨r,h1,rfl,rfl⟩:=hs;obtain⟨rfl,rfl⟩:=um h1;exact up (a0B hv hz)
 |own i=>
  simp only[zX]at hs;split at hs
  .rename_i k ex t l hH;simp only[a0D,a1o]at hs;obtain⟨r,h1,rfl,rfl⟩:=hs;obtain⟨rfl,rfl⟩:=um h1;obtain⟨mb,g1,g2⟩:=hr.at_ i _ hH;cases mb with
   |dn y=>
    cases hv with
    |own e' o=>rw[g1]at e';cases e';exact up (a5l g2 hz)
    |gone hi e' o=>simp only[bg,a01]at hi;subst hi;rw[g1]at e';cases e'
   |_=>exact g2.elim
  .cases hs
 |win i o n=>
  simp only[zX]at hs;split at hs
  .rename_i k ex t l hH;simp only[a0D,a1o]at hs;obtain⟨r,h1,rfl,rfl⟩:=hs;obtain⟨rfl,rfl⟩:=um h1;obtain⟨mb,g1,g2⟩:=hr.at_ i _ hH;cases mb with
   |dn y=>
    have hsl:=a5l g2 hz;cases hv with
    |win e' q q' q2=>
     rw[g1]at e';cases e';rcases hsl with⟨h,_⟩|⟨b,off,cap,ZT,cs,he,hk,hc,I4,hw⟩
     .cases h
     .cases he;have hlen:n=((r.drop o).take n).length:=by rw[a3B,a3D];omega
      refine up (.inr ⟨_,_,_,_,cs,congrArg (fun k=>TV.slc _ _ k _ _ _) hlen,hlen▸q',hc,fun iq=>?_,hw.part q⟩);have h1:n≠0:=fun e=>iq (by subst e;simp);have h2:=q2.resolve_left h1;rw[<-I4 (fun e=>iq (by rw[e];simp)),<-h2];congr 1;rw[a3A];omega
    |zZ e'=>
     rw[g1]at e';cases e';refine up (.inl ⟨rfl,by simp⟩)
    |gone hi e' o=>simp only[bg,a01]at hi;subst hi;rw[g1]at e';cases e'
   |_=>exact g2.elim
  .cases hs
 |slc b off len cap sz' ex=>
  simp only[zX]at hs;split at hs
  .rename_i cs hH;split at hs
   .rename_i uN;obtain⟨uN,adE⟩:=uN;subst uN;obtain⟨mb,g1,g2⟩:=hr.at_ b _ hH;cases mb with
    |fP c=>
     obtain⟨cs',g3,g4⟩:=g2;cases hv with
     |slc e'=>
      rw[g1]at e';cases e';obtain⟨hl,hw⟩:=Ad (m':=m') hX hr (g4.drop off) hs;subst hl;rw[g4.1]at adE;refine⟨(cs'.drop off).take (rows.length*sz'),?_,by rw[a3B,a3D];omega,by simpa using hw.take⟩;simp only[fB,a2D,wz g3 (by simp),sub];split
      .rename_i h0;rw[h0,acr,List.take_zero]
      .simp only[adE,a2D,a1z]
     |gone hi e' o=>simp only[bg,a01]at hi;subst hi;rw[g1]at e';cases e'
    |_=>exact g2.elim
   .cases hs
  .cases hs
 |_=>simp[zX]at hs
end
open Go Tw
def Gx(m:List MB)(i b:Nat):Prop:=∃mb,m[i]? = some mb∧mb.own=some b
structure IR(m:List MB)(h:List HB)(p:PI)(t:lG):Prop where
 all:t.all=true->p.i.all=true
 tl:∀k,.l k∈t.ts->.l k∈p.i.ts
 wl:∀k,.l k∈t.ws->.l k∈p.i.ws
 wh:∀b,.h b∈t.ws->(∃i,.h i∈p.i.ws∧Gx m i b)∨(p.wall=true∧b∈bn m)
 th:∀b,.h b∈t.ts->((∃i,.h i∈p.i.ts∧Gx m i b)∨b∉bn m)∧b<h.length
 hp:p.hp=false->t.all=false∧(∀b,.h b∉t.ts)∧∀b,.h b∉t.ws
theorem IR.none{m:List MB}{h:List HB}{p:PI}:IR m h p bW:=⟨fun h=>(by cases h),fun _ h=>(by cases h),fun _ h=>(by cases h),fun _ h=>(by cases h),fun _ h=>(by cases h),fun _=>⟨rfl,fun _ h=>(by cases h),fun _ h=>(by cases h)⟩⟩
section
variable {X:kC} {P:Program} {A F:Nat->Prop} {m m':List MB} {h h':List HB} {H H':List (PB X.Γ)}
structure uJ(X:kC)(P:Program)(A:Nat->Prop)(m:List MB)(ps:aS X.Γ)(ts:St):Prop where
 heap:HR X P A m ps.heap ts.heap
 llen:ps.loc.length=ts.loc.length
 loc:∀(k:Nat) cs,ps.loc[k]? = some cs->∃cs',ts.loc[k]? = some cs'∧bU X P (AA A m) m ts.heap cs cs'
 env:jJ X P (AA A m) m ts.heap ps.env ts.env
theorem uJ.step{ps:aS X.Γ}{ts:St}(hR:uJ X P A m ps ts){H1:List (PB X.Γ)}{h1:List HB}(hr:HR X P A m' H1 h1)(hF:Fr m ts.heap m' h1)(hU:Up m m'):uJ X P A m' { ps with heap:=H1 } { ts with heap:=h1 }:=
 ⟨hr,hR.llen,fun k cs hk=>let ⟨cs',g1,g2⟩:=hR.loc k cs hk;⟨cs',g1,g2.step hF hU⟩,hR.env.step hF hU⟩
def OpR(X:kC)(P:Program)(A:Nat->Prop)(m:List MB)(call:aY)(site:Nat->Bool)(ts:St)(o:Oper)(pe:PE X.Γ)(ps1:aS X.Γ)(pi:PI):Prop:=
 ∃ev iE ti m1,oN P call site ts o=some (ev,iE,ti)∧iE.env=ts.env∧iE.ws=ts.ws∧uJ X P A m1 ps1 iE∧I7 X P (AA A m1) m1 iE.heap pe ev∧Fr m ts.heap m1 iE.heap∧Up m m1∧IR m ts.heap pi ti∧∀b,.h b∈ti.ws->b∈bn m
theorem uo{call:aY}{site:Nat->Bool}{ps:aS X.Γ}{ts:St}{o:Oper}{pe:PE X.Γ}{ev:EV}{pi:PI}(hR:uJ X P A m ps ts)(h:oN P call site ts o=some (ev,ts,bW))(hp:I7 X P (AA A m) m ts.heap pe ev):OpR X P A m call site ts o pe ps pi:=
 ⟨ev,ts,bW,m,h,rfl,rfl,hR,hp,.refl,.refl,.none,fun b hb=>by cases hb⟩
theorem uJ.Bo{ps:aS X.Γ}{ts:St}(hR:uJ X P A m ps ts){x:Operand}{b:Bool}(hb:qE ts.env x=some (.bool b)):uJ X P A m (ps.Bo x b) ts:=by
 cases x with
 |tmp t=>
  refine⟨hR.heap,hR.llen,hR.loc,a90 hR.env ?_⟩;simp only[qE,Hz]at hb;split at hb
  .rename_i v hv;cases hb;exact hv
  cases hb
 |_=>exact hR
theorem Ri{ps:aS X.Γ}{ts:St}(hR:uJ X P A m ps ts){site:Bool}{cs:List (PV X.Γ)}{cs':List TV}(hc:bU X P (AA A m) m ts.heap cs cs') :
  ∃m1,(qF site ts cs').2.env=ts.env∧(qF site ts cs').2.ws=ts.ws∧uJ X P A m1 (Du site ps cs).2 (qF site ts cs').2∧I7 X P (AA A m1) m1 (qF site ts cs').2.heap (Du site ps cs).1 (qF site ts cs').1∧Fr m ts.heap m1 (qF site ts cs').2.heap∧Up m m1:=by
 cases site with
 |true=>
  have hp:=hR.heap.push (pb:=.cells cs) (hb:=.cells .own cs') (mb:=.fP ts.heap.length) (.inl rfl) ?_
  .refine⟨m++[.fP ts.heap.length],rfl,rfl,hR.step hp.1 hp.2.1 hp.2.2,?_,hp.2.1,hp.2.2⟩;show VR X P _ _ _ (.ptr ps.heap.length 0 cs.length) (.ptr ts.heap.length 0 cs'.length);rw[hc.1];exact .ptr (by rw[<-hR.heap.len];simp)
  .refine⟨cs',by simp,hc.step ?_ (wB _)⟩;refine⟨by simp,fun b hb _=>by rw[a0N hb],fun b hb=>?_,fun b cs hc=>⟨cs,by rw[fJ (a0N (gu hc)),hc],a1J _⟩⟩;rw[iU,a3y,jS]at hb;rcases hb with hb|hb
   .exact .inl hb
   .simp[MB.own]at hb;exact .inr (by omega)
 |false=>
  refine⟨m,rfl,rfl,⟨hR.heap,by simp[Du,qF,hR.llen],fun k ds hk=>?_,hR.env⟩,?_,.refl,.refl⟩
  .simp only[Du,qF,a2H,a3x]at hk ⊢;rcases a3L k ps.loc.length with hl|hl
   .rw[a0N hl]at hk;obtain⟨ds',g1,g2⟩:=hR.loc k ds hk;exact⟨ds',by rw[a0N (by rw[<-hR.llen];exact hl)];exact g1,g2⟩
   .rw[a1H hl]at hk;have:k-ps.loc.length=0:=by
     rcases ab7 (k-ps.loc.length)with e|e
     .exact e
     .rw[a3I (by simp;omega)]at hk;cases hk
    rw[this]at hk;simp only[a2I,a01]at hk;subst hk;exact⟨cs',by rw[a1H (by rw[<-hR.llen];exact hl),<-hR.llen,this];rfl,hc⟩
  .exact⟨hR.llen,rfl⟩
theorem iK{i:Nat}{mb:MB}{b:Nat}(h1:m[i]? = some mb)(h2:mb.own=some b):Gx m i b:=⟨mb,h1,h2⟩
theorem YP{i b:Nat}(h:Gx m i b):b∈bn m:=let ⟨_,h1,h2⟩:=h;aZ h1 h2
theorem IR.rdH{i b:Nat}(h0:Gx m i b)(hl:b<h.length):IR m h ⟨wW (.h i),false,false,true⟩ (wW (.h b)):=
 ⟨fun h=>(by cases h),fun k hk=>(by simp[wW]at hk),fun k hk=>(by simp[wW]at hk),fun b hb=>(by simp[wW]at hb),fun c hc=>(by simp[wW]at hc;subst hc;exact⟨.inl ⟨i,by simp[wW],h0⟩,hl⟩),fun h=>(by cases h)⟩
theorem IR.wrH{i b:Nat}(h0:Gx m i b)(hl:b<h.length):IR m h ⟨oM (.h i),false,false,true⟩ (oM (.h b)):=
 ⟨fun h=>(by cases h),fun k hk=>(by simp[oM]at hk),fun k hk=>(by simp[oM]at hk),fun c hc=>(by simp[oM]at hc;subst hc;exact .inl ⟨i,by simp[oM],h0⟩),fun c hc=>(by simp[oM]at hc;subst hc;exact⟨.inl ⟨i,by simp[oM],h0⟩,hl⟩),fun h=>(by cases h)⟩
theorem IR.loc{k:Nat}:IR m h ⟨wW (.l k),false,false,false⟩ (wW (.l k)):=
 ⟨fun h=>(by cases h),fun j hj=>by simpa[wW]using hj,fun k hk=>(by simp[wW]at hk),fun b hb=>(by simp[wW]at hb),fun c hc=>(by simp[wW]at hc),fun _=>⟨rfl,fun b hb=>(by simp[wW]at hb),fun b hb=>(by simp[wW]at hb)⟩⟩
theorem IR.amV{k:Nat}:IR m h ⟨oM (.l k),false,false,false⟩ (oM (.l k)):=
 ⟨fun h=>(by cases h),fun j hj=>by simpa[oM]using hj,fun j hj=>by simpa[oM]using hj,fun c hc=>(by simp[oM]at hc),fun c hc=>(by simp[oM]at hc),fun _=>⟨rfl,fun b hb=>(by simp[oM]at hb),fun b hb=>(by simp[oM]at hb)⟩⟩
theorem VW{t:TypeId}{cs:List TV}{o sz off n:Nat}{x:TV}(ho:o+sz<=cs.length)(hp:tY P t ((cs.drop o).take sz) off=some x)(hn:dw P t=some n):tY P t cs (o+off)=some x∧off+n<=sz∧o+off+n<=cs.length:=by
 unfold tY at hp ⊢;split at hp
 .rename_i k ha hk;rw[hn]at hk;cases hk;simp only[a0D]at hp;obtain⟨r,h1,rfl⟩:=hp;unfold sub at h1;split at h1
  .rename_i hl;rw[a3B,a3D]at hl;refine⟨?_,by omega,by omega⟩;cases h1;simp only[ha,hn,sub];rw[a0V (by omega)];simp only[a1z,a01,TV.agg.injEq];rw[agt,afM,afJ,a8d (by omega)]
  cases h1
 .rename_i k ha hk;rw[hn]at hk;cases hk;split at hp
  .rename_i h1;subst h1;rw[a3O]at hp;split at hp
   .rename_i h2;rw[a3M]at hp;have:=(a02.1 hp).1;refine⟨by simp only[ha,hn,a2D];exact hp,by omega,by omega⟩
   cases hp
  cases hp
 cases hp
theorem Rj{t:TypeId}{cs:List TV}{off:Nat}{x:TV}(hp:tY P t cs off=some x):∃n,dw P t=some n:=by
 unfold tY at hp;split at hp
 .rename_i n _ hn;exact⟨n,hn⟩
 .rename_i n _ hn;exact⟨n,hn⟩
 cases hp
theorem dV.row{t sz:Nat}{l:List (X.Γ t)}{cs:List TV}{off j:Nat}{a:X.Γ t}(hw:dV X P F m h t l cs off sz)(hj:l[j]? = some a):bU X P F m h (X.enc t a) ((cs.drop (off+j*sz)).take sz)∧off+j*sz+sz<=cs.length:=by
 have hlen:=hw.1 j a hj;have aQ:j<l.length:=(a02.1 hj).1;have h2:(j+1)*sz<=l.length*sz:=a3z sz aQ;have h3:=hw.2.1;rw[a3A]at h2;refine⟨⟨by rw[hlen,a3B,a3D];omega,fun i c v hc hv=>?_⟩,by omega⟩;rw[a3O]at hv;split at hv
 .rw[a3M]at hv;exact hw.2.2 j a i c v hj hc hv
 cases hv
theorem Ae{t:Nat}{l:List (X.Γ t)}{j:Nat}(hj:j<l.length):l[j]? = some (l.getD j (X.d0 t)):=by
 rw[a3d,a0E hj];rfl
theorem FV(hX:bK X P){ps:aS X.Γ}{ts:St}(hR:uJ X P A m ps ts){t:TypeId}{pa:PE X.Γ}{ea:EV}(ha:I7 X P (AA A m) m ts.heap pa ea){v:PV X.Γ}{pi:lG}(hl:zY X P t ps pa=some (v,pi)) :
  ∃x ti,loadT P t ts ea=some (x,ti)∧VR X P (AA A m) m ts.heap v x∧IR m ts.heap ⟨pi,false,false,!U3 pa⟩ ti∧ti.ws=[]:=by
 cases pa with
 |loc k off=>
  rw[Dw ha];simp only[zY]at hl;split at hl
  .rename_i cs hk;simp only[a0D,a1o]at hl;obtain⟨w,h1,rfl,rfl⟩:=hl;obtain⟨cs',g1,g2⟩:=hR.loc k cs hk;obtain⟨x,g3,g4⟩:=Aa g2 h1;exact⟨x,wW (.l k),by simp only[loadT,g1,g3,a1z],g4,.loc,rfl⟩
  .cases hl
 |undef|ent|DY=>simp[zY]at hl
 |val a=>
  obtain⟨y,rfl,hy⟩:=fK ha;cases a with
  |ptr b off lim=>
   simp only[zY]at hl;split at hl
   .rename_i cs n hb hn;split at hl
    .rename_i Kr;simp only[a0D,a1o]at hl;obtain⟨w,h1,rfl,rfl⟩:=hl;obtain⟨mb,g1,g2⟩:=hR.heap.at_ b _ hb;cases mb with
     |fP c=>
      obtain⟨cs',g3,g4⟩:=g2;cases hy with
      |ptr e=>
       rw[g1]at e;cases e;obtain⟨x,g5,g6⟩:=Aa g4 h1;refine⟨x,wW (.h c),?_,g6,.rdH (iK g1 rfl) (a02.1 g3).1,rfl⟩;simp only[loadT,wz g3 (show BK.own≠.last by simp),hn,Kr,a2D,g5,a1z]
      |gone hi e _=>simp only[bg,a01]at hi;subst hi;rw[g1]at e;cases e
     |_=>exact g2.elim
    .cases hl
   .rename_i cs n hb hn;split at hl
    .rename_i Kr;simp only[a0D,a1o]at hl;obtain⟨w,h1,rfl,rfl⟩:=hl;obtain⟨mb,g1,g2⟩:=hR.heap.at_ b _ hb;cases mb with
     |jc c=>
      obtain⟨g0,cs',g3,g4⟩:=g2;cases hy with
      |ptr e=>rw[g1]at e;cases e
      |gone hi e _=>
       simp only[bg,a01]at hi;subst hi;rw[g1]at e;cases e with
       |r _ e=>
        simp only[roV,a01]at e;subst e;obtain⟨x,g5,g6⟩:=Aa g4 h1;refine⟨x,wW (.h c),?_,g6,⟨fun h=>(by cases h),fun k hk=>(by simp[wW]at hk),fun k hk=>(by simp[wW]at hk),fun b hb=>(by simp[wW]at hb),fun d hd=>?_,fun h=>(by cases h)⟩,rfl⟩
        .simp only[loadT,wz g3 (show BK.own≠.last by simp),hn,Kr,a2D,g5,a1z]
        .simp[wW]at hd;subst hd;exact⟨.inr g0,(a02.1 g3).1⟩
     |_=>exact g2.elim
    .cases hl
   .cases hl
  |row b j off=>
   simp only[zY]at hl;split at hl
   .rename_i k ex e l hb;simp only[a0D,a1o]at hl;obtain⟨w,h1,rfl,rfl⟩:=hl;obtain⟨mb,g1,g2⟩:=hR.heap.at_ b _ hb;cases mb with
    |dn z=>
     cases hy with
     |row e' hj hq=>
      rw[g1]at e';cases e';cases(g2:LR X P _ _ _ _ _ _ _ _)with
      |emp=>omega
      |some q1 q2 q3 q4 q5 q6 q7 q8 q9=>
       have yC:=q9.row (Ae hj);obtain⟨x,g5,g6⟩:=Aa yC.1 h1;obtain⟨n,hn⟩:=Rj g5;obtain⟨g7,g8,_⟩:=VW yC.2 g5 hn;rw[a3E]at g7;refine⟨x,wW (.h _),?_,g6,.rdH (iK g1 (by simp only[MB.own];rw[a0S (by simpa using q1)])) (a02.1 q4).1,rfl⟩;have rM:=yC.2;simp only[loadT,wu q4 q8.symm,hn];rw[a0V (by omega),g7];rfl
     |gone hi e' _=>simp only[bg,a01]at hi;subst hi;rw[g1]at e';cases e'
    |_=>exact g2.elim
   .cases hl
  |el e a off=>
   simp only[zY,a0D,a1o]at hl;obtain⟨w,h1,rfl,rfl⟩:=hl;cases hy with
   |el q1 q2 q2' q3 q4 q5 q6=>
    rename_i b o sz lim cs;have yC:bU X P (AA A m) m ts.heap (X.enc e a) ((cs.drop o).take sz):=by
     refine⟨by rw[q4,a3B,a3D];omega,fun i c v hc hv=>?_⟩;rw[a3O]at hv;split at hv
     .rw[a3M]at hv;exact q6 i c v hc hv
     .cases hv
    obtain⟨x,g5,g6⟩:=Aa yC h1;obtain⟨n,hn⟩:=Rj g5;obtain⟨g7,g8,_⟩:=VW q3 g5 hn;refine⟨x,wW (.h b),?_,g6,⟨fun h=>(by cases h),fun k hk=>(by simp[wW]at hk),fun k hk=>(by simp[wW]at hk),fun b hb=>(by simp[wW]at hb),fun c hc=>?_,fun h=>(by cases h)⟩,rfl⟩
    .simp only[loadT,q2,hn];rw[a0V (by omega),g7];rfl
    .simp[wW]at hc;subst hc;exact⟨.inr q1.2,a2l q2⟩
   |gone hi e' _=>simp[bg]at hi
  |_=>simp[zY]at hl
end
open Go Tw
section
variable {X:kC} {P:Program} {A F:Nat->Prop} {m m':List MB} {h h':List HB} {H H':List (PB X.Γ)}
theorem NW{cs new:List TV}{o sz off:Nat}{r:List TV}(ho:o+sz<=cs.length)(hr:vN ((cs.drop o).take sz) off new=some r):vN cs (o+off) new=some (cs.take o++r++cs.drop (o+sz))∧r.length=sz:=by
 unfold vN at hr ⊢;split at hr
 rotate_left
 .cases hr
 rename_i hl;have qC:=hl;rw[a3B,a3D]at hl;cases hr;refine⟨?_,?_⟩
 .rw[a0V (by omega)];simp only[a01];apply a9h;intro i;simp only[List.getElem?_append,a2m,a3B,a3D,a3O,a3M];rcases a3L i o with h1|h1
  .simp (disch:=omega) only [a8d,a0V]
  rcases a3L i (o+off)with h2|h2
  .rw[a0V (by omega),a0V (by omega),a0V (by omega),a0V (by omega),a0S (by omega),a0V (by omega),a0V (by omega),a0V (by omega),a0V (by omega)];congr 1;omega
  rcases a3L i (o+off+new.length)with h3|h3
  .rw[a0V (by omega),a0S (by omega),a0V (by omega),a0S (by omega),a0V (by omega),a0S (by omega)];congr 1;omega
  rcases a3L i (o+sz)with h4|h4
  .rw[a0S (by omega),a0V (by omega),a0S (by omega),a0S (by omega),a0V (by omega)];congr 1;omega
  rw[a0S (by omega),a0S (by omega)];congr 1;omega
 simp only[a2m,a3B,a3D];omega
theorem dV.set{t sz j:Nat}{l:List (X.Γ t)}{cs r:List TV}{a:X.Γ t}(hw:dV X P F m h t l cs 0 sz)(hr:bU X P F m h (X.enc t a) r)(hl:r.length=sz)(hj:j<l.length) :
  dV X P F m h t (l.set j a) (cs.take (j*sz)++r++cs.drop (j*sz+sz)) 0 sz:=by
 have h2:(j+1)*sz<=l.length*sz:=a3z sz hj;rw[a3A]at h2;have h3:=hw.2.1;refine⟨fun k y hy=>?_,?_,fun k y i c v hy hi hx=>?_⟩
 .rw[a9f]at hy;split at hy
  .cases hy;rw[hr.1,hl]
  .exact hw.1 k y hy
 .simp only[a2m,a3B,a3D,a3W];omega
 .rw[a9f]at hy;split at hy
  .rename_i e;subst e;cases hy;have aQ:i<sz:=by rw[<-hl,<-hr.1];exact(a02.1 hi).1
   refine hr.2 i c v hi ?_;rw[a0N (by simp only[a2m,a3B];omega),a1H (by rw[a3B];omega),a3B]at hx;rw[<-hx];congr 1;omega
  .rename_i e;have hlen:=hw.1 k y hy;have aQ:i<sz:=by rw[<-hlen];exact(a02.1 hi).1
   have hk:k<l.length:=(a02.1 hy).1;refine hw.2.2 k y i c v hy hi ?_;rw[<-hx];rcases a3L k j with h4|h4
   .have:(k+1)*sz<=j*sz:=a3z sz h4;rw[a3A]at this;rw[a0N (by simp only[a2m,a3B];omega),a0N (by rw[a3B];omega),a3O,a0V (by omega)]
   .have h5:j+1<=k:=(by omega);have:(j+1)*sz<=k*sz:=a3z sz h5;rw[a3A]at this;rw[a1H (by simp only[a2m,a3B];omega),a3M];congr 1;simp only[a2m,a3B];omega
theorem JE{b:Nat}{pb:PB X.Γ}:∀{is:List Nat} {H:List (PB X.Γ)},is.contains b=false->aX is (H.set b pb)=(aX is H).set b pb
 | [],_,_=>rfl
 |i::is,H,hn=>by
  simp only[agw,a99,agq,ne_eq]at hn;simp only[aX,VN];rw[List.set_comm _ _ hn.1,JE hn.2]
theorem yI(hX:bK X P){ps ps1:aS X.Γ}{ts:St}(hR:uJ X P A m ps ts){t:TypeId}{pa:PE X.Γ}{ea:EV}(ha:I7 X P (AA A m) m ts.heap pa ea){v:PV X.Γ}{x:TV}(hv:VR X P (AA A m) m ts.heap v x){pi:lG}(hl:TW X P t ps pa v=some (ps1,pi)) :
  ∃iE ti m1,storeT P t ts ea x=some (iE,ti)∧iE.env=ts.env∧iE.ws=ts.ws∧uJ X P A m1 ps1 iE∧Fr m ts.heap m1 iE.heap∧Up m m1∧IR m ts.heap ⟨pi,false,false,!U3 pa⟩ ti∧∀b,.h b∈ti.ws->b∈bn m:=by
 have hc:=Gt hv;unfold TW at hl;split at hl
 .rename_i n hn;split at hl
  .rename_i N9;have a94:x.cells.length=n∧x.cells.all iO=true:=⟨by rw[<-hc.1];exact N9.1,by rw[Dv hc];exact N9.2⟩;cases pa with
   |loc k off=>
    rw[Dw ha];simp only at hl;split at hl
    .rename_i cs hk;simp only[a0D,a1o]at hl;obtain⟨Rk,h1,rfl,rfl⟩:=hl;obtain⟨cs',g1,g2⟩:=hR.loc k cs hk;obtain⟨Iz,g3,g4⟩:=Gu g2 hc h1;refine⟨{ ts with loc:=ts.loc.set k Iz },oM (.l k),m,?_,rfl,rfl,⟨hR.heap,by simp[hR.llen],fun j ds hj=>?_,hR.env⟩,.refl,.refl,.amV,fun b hb=>by simp[oM]at hb⟩
     .simp only[storeT,hn,a94,acG,a2D,g1,g3,a1z]
     .by_cases e:k=j
      .subst e;rw[a3N]at hj;rw[hk]at hj;cases hj;exact⟨Iz,by rw[a3N,g1];rfl,g4⟩
      .rw[a1M e]at hj;obtain⟨ds',q1,q2⟩:=hR.loc j ds hj;exact⟨ds',by rw[a1M e];exact q1,q2⟩
    .cases hl
   |undef|ent|DY=>simp at hl
   |val a=>
    obtain⟨y,rfl,hy⟩:=fK ha;cases a with
    |ptr b off lim=>
     simp only at hl;split at hl
     .rename_i Kr;split at hl
      .rename_i cs hb;simp only[a0D,a1o]at hl;obtain⟨Rk,h1,rfl,rfl⟩:=hl;obtain⟨mb,g1,g2⟩:=hR.heap.at_ b _ hb;cases mb with
       |fP c=>
        obtain⟨cs',g3,g4⟩:=g2;cases hy with
        |ptr e=>
         rw[g1]at e;cases e;obtain⟨Iz,g5,g6⟩:=Gu g4 hc h1;have hlen:Iz.length=cs'.length:=by
          unfold vN at g5;split at g5
          .cases g5;simp only[a2m,a3B,a3D];omega
          .cases g5
         have aQ:=(a02.1 g3).1;obtain⟨hr1,hF⟩:=hR.heap.set (pb:=.cells Rk) (hb:=.cells .own Iz) g1 (c:=c) rfl (fun VX VY=>⟨Iz,by simp[aU,aQ],by
          simp only[aU,g3,a01]at VY;subst VY;omega⟩) fun hF=>⟨Iz,by simp[aQ],g6.step hF .refl⟩
         refine⟨{ ts with heap:=ts.heap.set c (.cells .own Iz) },oM (.h c),m,?_,rfl,rfl,hR.step hr1 hF .refl,hF,.refl,.wrH (iK g1 rfl) aQ,fun b hb=>?_⟩
         .simp only[storeT,hn,a94,acG,a2D,Kr,VQ g3,g5,a1z]
         .simp[oM]at hb;subst hb;exact aZ g1 rfl
        |gone hi e _=>simp only[bg,a01]at hi;subst hi;rw[g1]at e;cases e
       |_=>exact g2.elim
      .cases hl
     .cases hl
    |row b j off=>
     simp only at hl;split at hl
     .rename_i k0 ex e l hb;split at hl
      .rename_i Rk h1;split at hl
       .rename_i a is hd;split at hl
        .cases hl
        .rename_i hnb;simp only[a01,a1o]at hl;obtain⟨rfl,rfl⟩:=hl;obtain⟨mb,g1,g2⟩:=hR.heap.at_ b _ hb;cases mb with
         |dn z=>
          cases hy with
          |row e' hj hq=>
           rw[g1]at e';cases e';cases(g2:LR X P _ _ _ _ _ _ _ _)with
           |emp=>omega
           |some q1 q2 q3 q4 q5 q6 q7 q8 q9=>
            rename_i c sz xx kk cs;obtain⟨AX,xJ,hkr,hko⟩:=Iw q5;have uZ:(MB.dn (TV.slc c 0 l.length l.length sz xx)).own=some c:=by simp only[MB.own];rw[a0S (by simpa using q1)]
            have yC:=q9.row (Ae hj);simp only[a3E]at yC;obtain⟨r,g3,g4⟩:=Gu yC.1 hc h1;obtain⟨g5,g6⟩:=NW yC.2 g3;have amW:=a0A (m':=bQ is m) hX hR.heap g4 hd;have hgo:=hR.heap.aX is;have Q5:=gY (h:=ts.heap) is m;have ahw:is.contains b=false:=(by simpa using hnb);have ZU:(bQ is m)[b]? = some (.dn (.slc c 0 l.length l.length sz xx)):=by rw[Gq is g1,ahw];rfl
            have aQ:=(a02.1 q4).1;have Tn:(cs.take (j*sz)++r++cs.drop (j*sz+sz)).length=cs.length:=by
             simp only[a2m,a3B,a3D];omega
            obtain⟨hr1,hF⟩:=hgo.set (pb:=.list k0 ex e (l.set j a)) (hb:=.cells AX (cs.take (j*sz)++r++cs.drop (j*sz+sz))) ZU uZ (fun VX VY=>⟨cs.take (j*sz)++r++cs.drop (j*sz+sz),by simp[aU,aQ],by
             simp only[aU,q4,a01]at VY;subst VY;omega⟩) fun hF=>by
              have hw:=(q9.step Q5.1 Q5.2).set (amW.mono fun b hb=>hb.gone hR.heap) g6 hj;have:=LR.some (X:=X) (P:=P) (A:=AA A (bQ is m)) (m:=bQ is m) (h:=ts.heap.set c (.cells AX (cs.take (j*sz)++r++cs.drop (j*sz+sz)))) (k:=k0) (ex:=ex) (t:=e) (l:=l.set j a) (b:=c) (sz:=sz) (e:=xx) (kk:=AX) (cs:=cs.take (j*sz)++r++cs.drop (j*sz+sz))
               (by intro e0;apply q1;have:=congrArg List.length e0;rw[a3W]at this;exact a7O.1 this) q2 q3 (by simp[aQ]) hkr (fun e0=>hko (q6 e0)) q7 (by rw[Tn,a3W];exact q8) (hw.step hF .refl)
              rw[a3W]at this;exact this
            rw[<-JE ahw]at hr1;have VE:=Q5.1.trans hF;refine⟨{ ts with heap:=ts.heap.set c (.cells AX (cs.take (j*sz)++r++cs.drop (j*sz+sz))) },oM (.h c),bQ is m,?_,rfl,rfl,hR.step hr1 VE Q5.2,VE,Q5.2,.wrH (iK g1 uZ) aQ,fun b hb=>?_⟩
            .have h9:j*sz+off+n<=l.length*sz:=by
              have h8:=yC.2;unfold vN at g3;split at g3
              .rename_i h0;rw[a3B,a3D,a94.1]at h0;omega
              .cases g3
             simp only[storeT,hn,a94,acG,a2D,h9,a0v q4 xJ q8.symm,g5,a1z]
            .simp[oM]at hb;subst hb;exact aZ g1 uZ
          |gone hi e' _=>simp only[bg,a01]at hi;subst hi;rw[g1]at e';cases e'
         |_=>exact g2.elim
       .cases hl
      .cases hl
     .cases hl
    |_=>simp at hl
  .cases hl
 .cases hl
end
open Go Tw
section
variable {X:kC} {P:Program} {A F:Nat->Prop} {m m':List MB} {h h':List HB} {H H':List (PB X.Γ)}
theorem nG{v:PV X.Γ}{x:TV}(hv:VR X P A m h v x):I7 X P A m h (.val v) (.val x):=hv
theorem MW{ps:aS X.Γ}{ts:St}(hR:uJ X P A m ps ts){o:Nat}{pa pb:PE X.Γ}{ea:EV}(ha:I7 X P (AA A m) m ts.heap pa ea)(hl:Gn X ps o pa=some pb):∃eb,PK o ea=some eb∧I7 X P (AA A m) m ts.heap pb eb:=by
 cases pa with
 |loc k off=>
  rw[Dw ha];simp only[Gn,a01]at hl;subst hl;exact⟨.loc k (off+o),rfl,rfl,rfl⟩
 |undef|ent|DY=>simp[Gn]at hl
 |val a=>
  obtain⟨y,rfl,hy⟩:=fK ha;cases a with
  |ptr b off lim=>
   simp only[Gn]at hl;split at hl
   .rename_i cs hb;split at hl
    .rename_i hle;cases hl;obtain⟨mb,g1,g2⟩:=hR.heap.at_ b _ hb;cases mb with
     |fP c=>
      cases hy with
      |ptr e=>exact⟨.val (.ptr _ (off+o) lim),by simp only[PK,hle,a2D],VR.ptr e⟩
      |gone hi e q=>simp only[bg,a01]at hi;subst hi;rw[g1]at e;cases e
     |_=>exact g2.elim
    cases hl
   .rename_i cs hb;split at hl
    .rename_i hle;cases hl;obtain⟨mb,g1,g2⟩:=hR.heap.at_ b _ hb;cases mb with
     |jc c=>
      cases hy with
      |ptr e=>rw[g1]at e;cases e
      |gone hi e q=>
       simp only[bg,a01]at hi;subst hi;rw[g1]at e;cases e with
       |r _ e=>simp only[roV,a01]at e;subst e;exact⟨.val (.ptr _ (off+o) lim),by simp only[PK,hle,a2D],VR.gone rfl (.ofR g1 rfl) rfl⟩
     |_=>exact g2.elim
    cases hl
   cases hl
  |el t a off=>
   simp only[Gn]at hl;split at hl
   .rename_i hle;cases hl;cases hy with
    |el q1 q2 q2' q3 q4 q5 q6=>
     rename_i b o0 sz lim cs;rw[q4]at hle;refine⟨.val (.ptr b (o0+off+o) lim),by simp only[PK];rw[a0V (by omega)],?_⟩;rw[a9L];exact VR.el q1 q2 q2' q3 q4 hle q6
    |gone hi _ _=>simp[bg]at hi
   cases hl
  |row b j off=>
   simp only[Gn,ahj]at hl;split at hl
   rotate_left
   .cases hl
   rename_i n hn;split at hn
   rotate_left
   .cases hn
   rename_i k ex e l hb;cases hn;split at hl
   .rename_i hle;cases hl;obtain⟨mb,g1,g2⟩:=hR.heap.at_ b _ hb;cases mb with
    |dn z=>
     cases hy with
     |row e' hj hq=>
      rw[g1]at e';cases e';cases(g2:LR X P _ _ _ _ _ _ _ _)with
      |emp=>omega
      |some q1 q2 q3 q4 q5 q6 q7 q8 q9=>
       rw[q9.1 j _ (Ae hj)]at hle;have yC:=(q9.row (Ae hj)).2;refine⟨.val (.ptr _ (j*_+off+o) (l.length*_)),by simp only[PK];rw[a0V (by omega)],?_⟩;rw[a9L];exact VR.row g1 hj hle
     |gone hi e' _=>simp only[bg,a01]at hi;subst hi;rw[g1]at e';cases e'
    |_=>exact g2.elim
   cases hl
  |_=>simp[Gn]at hl
theorem a96{ps:aS X.Γ}{ts:St}(hR:uJ X P A m ps ts){b:Nat}{k ex:Bool}{e:Nat}{l:List (X.Γ e)}(hb:ps.heap[b]? = some (.list k ex e l)){y:TV}(hy:VR X P (AA A m) m ts.heap (.own b) y)(hl:l≠[]) :
  ∃c sz x,y=.slc c 0 l.length l.length sz x∧m[b]? = some (.dn y)∧dw P e=some sz∧0<sz:=by
 obtain⟨mb,g1,g2⟩:=hR.heap.at_ b _ hb;cases mb with
 |dn z=>
  cases hy with
  |own e' o=>
   rw[g1]at e';cases e';cases(g2:LR X P _ _ _ _ _ _ _ _)with
   |nil=>exact absurd rfl hl
   |emp=>exact absurd rfl hl
   |some q1 q2 q3=>exact⟨_,_,_,rfl,g1,q2,q3⟩
  |gone hi e' _=>simp only[bg,a01]at hi;subst hi;rw[g1]at e';cases e'
 |_=>exact g2.elim
theorem zN{ps:aS X.Γ}{ts:St}(hR:uJ X P A m ps ts){t:TypeId}{px pb:PE X.Γ}{ex:EV}(hx:I7 X P (AA A m) m ts.heap px ex){i:PV X.Γ}{ti:TV}(hi:VR X P (AA A m) m ts.heap i ti){qs:List Prop}(hl:EY X P t ps px i=some (pb,qs))(hq:∀q∈qs,q) :
  ∃eb,lJ P t ex ti=some eb∧I7 X P (AA A m) m ts.heap pb eb:=by
 have TJ:∀{k:IntKind} {iv:Int} {n:Nat},gW iv n->idx n (.int k iv)=some iv.toNat∧iv.toNat<n:=by
  intro k iv n hn;unfold gW at hn;refine⟨by simp only[idx];rw[a0V hn],by omega⟩
 have hpi:∀{n j:Nat},a2h X n i=some j->idx n ti=some j:=by
  intro n j hj;cases i<;>simp only[a2h]at hj<;>try (cases hj;done)
  cases hi with
  |int=>exact hj
  |gone e _ _=>simp[bg]at e
 unfold EY at hl;split at hl
 .rename_i e hu;split at hl
  .rename_i n t' l fu k iv hn;split at hl
   .rename_i ht;subst ht;simp only[a01,a1o]at hl;obtain⟨rfl,rfl⟩:=hl;have hr:=TJ (k:=k) (hq _ a3u);have:ti=.int k iv:=by
     cases hi with
     |int=>rfl
     |gone e _ _=>simp[bg]at e
    subst this;obtain⟨y,rfl,hy⟩:=fK hx;rcases a0B hy hn with⟨rfl,rfl⟩|⟨b,off,cap,ZT,cs,rfl,hk,hc,I4,hw⟩
    .have:=hr.2;simp at this
    .have yC:=hw.row (Ae hr.2);have hA:AA A m b:=by
      cases hy with
      |dn a=>exact a
      |gone e _ _=>simp[bg]at e
     have N9:=I4 (by intro e0;rw[e0]at hr;have:=hr.2;simp at this);have hle:off+iv.toNat*n+n<=off+cap*n:=by
      have h1:(iv.toNat+1)*n<=cap*n:=a3z n (by have:=hr.2;omega);rw[a3A,ad9]at h1;omega
     refine⟨.val (.ptr b (off+iv.toNat*n) (off+cap*n)),?_,?_⟩
     .simp only[lJ,hu,hn,a2D,hr.1,a1z]
     .have:=VR.el (X:=X) (P:=P) (A:=AA A m) (m:=m) (h:=ts.heap) (t:=t') (a:=l.getD iv.toNat (X.d0 t')) (off:=0) (o:=off+iv.toNat*n) hA N9 hle yC.2 (hw.1 _ _ (Ae hr.2)) (a4A _) (fun i c v h1 h2=>hw.2.2 _ _ i c v (Ae hr.2) h1 h2);exact nG (by simpa using this)
   .cases hl
  .rename_i n b k iv hn;split at hl
   .rename_i w ZT t' l hb;split at hl
    .rename_i ht;subst ht;simp only[a01,a1o]at hl;obtain⟨rfl,rfl⟩:=hl;have hr:=TJ (k:=k) (hq _ a3u);have:ti=.int k iv:=by
      cases hi with
      |int=>rfl
      |gone e _ _=>simp[bg]at e
     subst this;obtain⟨y,rfl,hy⟩:=fK hx;obtain⟨c,sz,x',rfl,g1,g2,g3⟩:=a96 hR hb hy (by intro e0;rw[e0]at hr;have:=hr.2;simp at this);rw[hn]at g2;cases g2;refine⟨.val (.ptr c (iv.toNat*n) (l.length*n)),?_,?_⟩
     .simp only[lJ,hu,hn,a2D,hr.1,a1z,a3E]
     .have:=VR.row (X:=X) (P:=P) (A:=AA A m) (m:=m) (h:=ts.heap) (off:=0) g1 hr.2 (a4A n);exact nG (by simpa using this)
    .cases hl
   .cases hl
  .rename_i n b o q k iv hn;split at hl
   .rename_i w ZT t' l hb;split at hl
    .rename_i ht;subst ht;simp only[a01,a1o]at hl;obtain⟨rfl,rfl⟩:=hl;have hr:=TJ (k:=k) (hq _ a3u);have:ti=.int k iv:=by
      cases hi with
      |int=>rfl
      |gone e _ _=>simp[bg]at e
     subst this;obtain⟨y,rfl,hy⟩:=fK hx;obtain⟨mb,g1,g2⟩:=hR.heap.at_ b _ hb;cases mb with
     |dn z=>
      cases hy with
      |win e' w1 w2 w3=>
       rw[g1]at e';cases e';cases(g2:LR X P _ _ _ _ _ _ _ _)with
       |emp=>have:=hr.2;omega
       |some q1 q2 q3=>
        rw[hn]at q2;cases q2;have hp:=nG (VR.row (X:=X) (P:=P) (A:=AA A m) (m:=m) (h:=ts.heap) (j:=o+iv.toNat) (off:=0) g1 (by have:=hr.2;omega) (a4A n));refine⟨_,?_,hp⟩;have h3:=w3.resolve_left (by have:=hr.2;omega);simp only[lJ,hu,hn,a2D,hr.1,a1z,a3E,a3A,ade,<-h3]
      |zZ e'=>have:=hr.2;omega
      |gone hi e' _=>simp only[bg,a01]at hi;subst hi;rw[g1]at e';cases e'
     |_=>exact g2.elim
    .cases hl
   .cases hl
  .rename_i n b off len cap sz ZT hn;split at hl
   .rename_i cs hb;split at hl
    .rename_i uN;subst uN;simp only[a0D,a1o]at hl;obtain⟨j,h1,rfl,rfl⟩:=hl;obtain⟨y,rfl,hy⟩:=fK hx;obtain⟨mb,g1,g2⟩:=hR.heap.at_ b _ hb;cases mb with
     |fP c=>
      cases hy with
      |slc e=>
       have:=hpi h1;rw[g1]at e;cases e;exact⟨.val (.ptr c (off+j*n) (off+cap*n)),by simp only[lJ,hu,hn,a2D,this,a1z],VR.ptr g1⟩
      |gone wY e' _=>simp only[bg,a01]at wY;subst wY;rw[g1]at e';cases e'
     |_=>exact g2.elim
    .cases hl
   .cases hl
  .cases hl
 .rename_i len e hu;split at hl
  .rename_i n hn;split at hl
   .rename_i j hj;simp only[a0D,a1o]at hl;obtain⟨pa,h1,rfl,rfl⟩:=hl;obtain⟨eb,g1,g2⟩:=MW hR hx h1;exact⟨eb,by simp only[lJ,hu,hn,hpi hj,g1],g2⟩
   .cases hl
  .cases hl
 .cases hl
end
open Go Tw
section
variable {X:kC} {P:Program} {A F:Nat->Prop} {m m':List MB} {h h':List HB} {H H':List (PB X.Γ)}
theorem Yd(hr:HR X P A m H h){at_:Array TypeId}{x:PV X.Γ}{tx:TV}(hx:VR X P (AA A m) m h x tx){v:PV X.Γ}{pi:lG}(hl:adw X P at_ H x=some (v,pi)) :
  ∃w ti,Y2 P at_ h tx=some (w,ti)∧VR X P (AA A m) m h v w∧IR m h ⟨pi,false,false,true⟩ ti∧ti.ws=[]:=by
 unfold adw at hl;split at hl
 .rename_i t ht;unfold Y2;simp only[ht];split at hl
  .rename_i s hu;cases hl;cases hx with
   |str=>exact⟨_,_,by first|(simp only[hu];done)|(simp only[hu];rfl),.int _ _,.none,rfl⟩
   |gone hi _ _=>simp[bg]at hi
  .rename_i n e _ hu;cases hl;exact⟨_,_,by first|(simp only[hu];done)|(simp only[hu];rfl),.int _ _,.none,rfl⟩
  .rename_i e b off len cap sz ex hu;split at hl
   .rename_i cs hb;cases hl;obtain⟨mb,g1,g2⟩:=hr.at_ b _ hb;cases mb with
    |fP c=>
     cases hx with
     |slc e'=>exact⟨_,_,by first|(simp only[hu];done)|(simp only[hu];rfl),.int _ _,.none,rfl⟩
     |gone hi e' _=>simp only[bg,a01]at hi;subst hi;rw[g1]at e';cases e'
    |_=>exact g2.elim
   .cases hl
  .rename_i e hu;cases hl;cases hx with
   |nil=>exact⟨_,_,by first|(simp only[hu];done)|(simp only[hu];rfl),.int _ _,.none,rfl⟩
   |gone hi _ _=>simp[bg]at hi
  .rename_i e t' l fu hu;cases hl;cases hx with
   |o7=>exact⟨_,_,by first|(simp only[hu];done)|(simp only[hu];rfl),.int _ _,.none,rfl⟩
   |dn=>exact⟨_,_,by first|(simp only[hu];done)|(simp only[hu];rfl),.int _ _,.none,rfl⟩
   |gone hi _ _=>simp[bg]at hi
  .rename_i e b hu;split at hl
   .rename_i k ex t' l hb;cases hl;obtain⟨mb,g1,g2⟩:=hr.at_ b _ hb;cases mb with
    |dn z=>
     cases hx with
     |own e' _=>
      rw[g1]at e';cases e';cases(g2:LR X P _ _ _ _ _ _ _ _)with
      |nil=>exact⟨_,_,by first|(simp only[hu];done)|(simp only[hu];rfl),.int _ _,.none,rfl⟩
      |emp=>exact⟨_,_,by first|(simp only[hu];done)|(simp only[hu];rfl),.int _ _,.none,rfl⟩
      |some=>exact⟨_,_,by first|(simp only[hu];done)|(simp only[hu];rfl),.int _ _,.none,rfl⟩
     |gone hi e' _=>simp only[bg,a01]at hi;subst hi;rw[g1]at e';cases e'
    |_=>exact g2.elim
   .cases hl
  .rename_i e b o n hu;split at hl
   .rename_i k ex t' l hb;cases hl;obtain⟨mb,g1,g2⟩:=hr.at_ b _ hb;cases mb with
    |dn z=>
     cases hx with
     |win=>exact⟨_,_,by first|(simp only[hu];done)|(simp only[hu];rfl),.int _ _,.none,rfl⟩
     |zZ=>exact⟨_,_,by first|(simp only[hu];done)|(simp only[hu];rfl),.int _ _,.none,rfl⟩
     |gone hi e' _=>simp only[bg,a01]at hi;subst hi;rw[g1]at e';cases e'
    |_=>exact g2.elim
   .cases hl
  .rename_i kt e hu;cases hl;cases hx with
   |nil=>exact⟨_,_,by first|(simp only[hu];done)|(simp only[hu];rfl),.int _ _,.none,rfl⟩
   |gone hi _ _=>simp[bg]at hi
  .rename_i kt e r hu;split at hl
   .rename_i es hb;cases hl;obtain⟨mb,g1,g2⟩:=hr.at_ r _ hb;cases mb with
    |fP c=>
     obtain⟨fO,g3,g4,g5⟩:=g2;cases hx with
     |map e'=>
      rw[g1]at e';cases e';exact⟨_,_,by first|(simp only[hu,g3];done)|(simp only[hu,g3];rfl),by rw[g4];exact .int _ _,.rdH (iK g1 rfl) (a02.1 g3).1,rfl⟩
     |gone hi e' _=>simp only[bg,a01]at hi;subst hi;rw[g1]at e';cases e'
    |_=>exact g2.elim
   .cases hl
  .cases hl
 .cases hl
def a5n:BinOp->Option TV
 |.eql=>some (.bool false)
 |.neq=>some (.bool true)
 |_=>none
theorem Yb{op:BinOp}{t:TypeId}{x y:Operand}{a b:PV X.Γ}{ta tb:TV}(ha:VR X P A m h a ta)(hb:VR X P A m h b tb){v:PV X.Γ}(hl:adx X P op t x y a b=some v):∃w,rY P op t x y ta tb=some w∧VR X P A m h v w:=by
 unfold adx at hl;split at hl
 .rename_i u w h1 h2;split at hl
  .rename_i r hr;rw[jE ha h1,jE hb h2];exact⟨r,hr,wC hl⟩
  cases hl
 rename_i hno;split at hl
 rotate_left
 .cases hl
 rename_i hn;have key:∃k,Jr P t=some k∧((ta=.nil k∧Jq tb=some k∧tb.yt=none)∨(tb=.nil k∧Jq ta=some k∧ta.yt=none)):=by
  unfold a0s at hn;split at hn
  rotate_left
  .cases hn
  rename_i k hk;refine⟨k,hk,?_⟩;simp only[a8t,a2r,a7k]at hn;have ahx:∀{z:PV X.Γ} {tz:TV},VR X P A m h z tz->z=.nil k->tz=.nil k:=by
   intro z tz hz e;subst e;cases hz with
   |nil=>rfl
   |gone hi _ _=>simp[bg]at hi
  have abm:∀{z:PV X.Γ} {tz:TV},VR X P A m h z tz->(match z with|.fn _ _ _=>some NK.fn|.el _ _ _=>some NK.ptr|_=>none)=some k->Jq tz=some k∧tz.yt=none:=by
   intro z tz hz e;cases hz with
   |fn=>exact⟨e,rfl⟩
   |el=>exact⟨e,rfl⟩
   |gone hi _ _=>cases z<;>simp[bg]at hi<;>simp at e
   |_=>simp at e
  have ahy:∀{z:PV X.Γ},(match z with|.nil k=>some k|_=>none)=some k->z=.nil k:=by
   intro z e;cases z<;>simp at e
   rw[e]
  rcases hn with⟨h1,h2⟩|⟨h1,h2⟩
  .have:=abm hb h2;exact .inl ⟨ahx ha (ahy h1),this.1,this.2⟩
  have:=abm ha h1;exact .inr ⟨ahx hb (ahy h2),this.1,this.2⟩
 obtain⟨k,hk,hc⟩:=key;have adF:rY P op t x y ta tb=a5n op:=by
  rcases hc with⟨rfl,h2,h3⟩|⟨rfl,h2,h3⟩
  .have hnn:BH P t (.nil k) tb=true:=by unfold BH;rw[hk];simp[Y3,h2]
   unfold rY;rw[h3];cases(TV.nil k).yt<;>simp only[hnn,a2D]<;>cases op<;>rfl
  have hnn:BH P t ta (.nil k)=true:=by unfold BH;rw[hk];simp[Y3,h2]
  unfold rY;rw[h3];simp only[hnn,a2D];cases op<;>rfl
 rw[adF];cases op<;>simp only at hl ⊢<;>try (cases hl;done)
 .cases hl;exact⟨_,rfl,.bool _⟩
 cases hl;exact⟨_,rfl,.bool _⟩
theorem NY{op:BinOp}{t:TypeId}{x y:Operand}{b:PV X.Γ}{ta tb:TV}(hb:VR X P A m h b tb){v:PV X.Γ}{q q':Prop}(hl:L9 X P op t b q=some (v,q'))(hq:q')(h2:q->Jq ta=some .slc∧ta.yt=none):∃w,rY P op t x y ta tb=some w∧VR X P A m h v w:=by
 unfold L9 at hl;split at hl
 .rename_i hk;have h1:tb=.nil .slc:=by
   cases hb with
   |nil=>rfl
   |gone hi _ _=>simp[bg]at hi
  subst h1;have key:q->rY P op t x y ta (.nil .slc)=a5n op:=fun hq=>by
   obtain⟨h2,h3⟩:=h2 hq;have hnn:BH P t ta (.nil .slc)=true:=by unfold BH;rw[hk];simp[Y3,h2]
   unfold rY;rw[h3];simp only[hnn,a2D];cases op<;>rfl
  split at hl
  .cases hl;rw[key hq];exact⟨_,rfl,.bool _⟩
  .cases hl;rw[key hq];exact⟨_,rfl,.bool _⟩
  cases hl
 cases hl
theorem a2n(hr:HR X P A m H h){op:BinOp}{t:TypeId}{x y:Operand}{a b:PV X.Γ}{ta tb:TV}(ha:VR X P (AA A m) m h a ta)(hb:VR X P (AA A m) m h b tb){v:PV X.Γ}{q:Prop}(hl:U0 X P op t H a b=some (v,q))(hq:q):∃w,rY P op t x y ta tb=some w∧VR X P (AA A m) m h v w:=by
 unfold U0 at hl;split at hl
 .rename_i l fu;refine NY hb hl hq (fun iq=>?_);cases ha with
  |o7=>exact absurd rfl iq
  |dn=>exact⟨rfl,rfl⟩
  |gone hi _ _=>simp[bg]at hi
 .rename_i i;split at hl
  .rename_i k ex t' l hi;refine NY hb hl hq (fun iq=>?_);obtain⟨mb,g1,g2⟩:=hr.at_ i _ hi;cases ha with
   |own e o=>
    rw[g1]at e;cases e;cases g2 with
    |nil=>exact absurd rfl iq
    |emp=>exact absurd rfl iq
    |some=>exact⟨rfl,rfl⟩
   |gone hi e _=>simp only[bg,a01]at hi;subst hi;rw[g1]at e;cases e<;>exact g2.elim
  cases hl
 cases hl
theorem iM{op:UnOp}{a:PV X.Γ}{ta:TV}(ha:VR X P A m h a ta){v:PV X.Γ}(hl:pun X P op a=some v):∃w,unT P op ta=some w∧VR X P A m h v w:=by
 unfold pun at hl;split at hl
 .rename_i u h1;split at hl
  .rename_i r hr;rw[jE ha h1];exact⟨r,hr,wC hl⟩
  cases hl
 cases hl
theorem Tt{s d:TypeId}{a:PV X.Γ}{ta:TV}(ha:VR X P A m h a ta){v:PV X.Γ}(hl:a4W X P s d a=some v):∃w,Ql P s d ta=some w∧VR X P A m h v w:=by
 unfold a4W at hl;split at hl
 .rename_i u h1;split at hl
  .rename_i r hr;rw[jE ha h1];exact⟨r,hr,wC hl⟩
  cases hl
 cases hl
theorem yK{mx:Bool}{at_:Array TypeId}{t:TypeId}{az:List (PV X.Γ)}{ts:List TV}(ha:bU X P A m h az ts){v:PV X.Γ}(hl:La X P mx at_ t az=some v):∃w,Dj P mx at_ t ts=some w∧VR X P A m h v w:=by
 unfold La at hl;split at hl
 .rename_i u h1;split at hl
  .rename_i r hr;rw[a0y ha h1];exact⟨r,hr,wC hl⟩
  cases hl
 cases hl
theorem MX{t:TypeId}{x:PV X.Γ}{tx:TV}(hx:VR X P A m h x tx){i:Nat}{v:PV X.Γ}(hl:YH X P t x i=some v):∃w,Me P t tx i=some w∧VR X P A m h v w:=by
 unfold YH at hl;split at hl
 .rename_i fs cs hu;split at hl
  .rename_i f hf;cases hx with
   |agg h1 h2=>
    obtain⟨w,g1,g2⟩:=Aa ⟨h1,h2⟩ hl;exact⟨w,by simp only[Me,hu,hf,g1],g2⟩
   |gone hi _ _=>simp[bg]at hi
  cases hl
 cases hl
theorem MZ{t:TypeId}{x i:PV X.Γ}{tx ti:TV}(hx:VR X P A m h x tx)(hi:VR X P A m h i ti){v:PV X.Γ}(hl:YI X P t x i=some v):∃w,I8 P t tx ti=some w∧VR X P A m h v w:=by
 unfold YI at hl;split at hl
 .rename_i len e cs hu;split at hl
  .rename_i n j hn hj;have:idx len ti=some j:=by
    cases i<;>simp only[a2h]at hj<;>try (cases hj;done)
    cases hi with
    |int=>exact hj
    |gone e _ _=>simp[bg]at e
   cases hx with
   |agg h1 h2=>
    obtain⟨w,g1,g2⟩:=Aa ⟨h1,h2⟩ hl;exact⟨w,by simp only[I8,hu,hn,this,g1],g2⟩
   |gone hi _ _=>simp[bg]at hi
  cases hl
 cases hl
end
open Go Tw
section
variable {X:kC} {P:Program} {A F:Nat->Prop} {m m':List MB} {h h':List HB} {H H':List (PB X.Γ)}
theorem Gy:∀{is:List Nat} {H:List (PB X.Γ)} {i:Nat} {pb:PB X.Γ},(aX is H)[i]? = some pb->(i∈is∧pb=.gone)∨(i∉is∧H[i]? = some pb)
 | [],_,_,_,h=>.inr ⟨by simp,h⟩
 |j::is,H,i,pb,h=>by
  rcases Gy (is:=is) (H:=VN j H) h with⟨h1,h2⟩|⟨h1,h2⟩
  .exact .inl ⟨a3w _ h1,h2⟩
  unfold VN at h2;by_cases e:j=i
  .subst e;rw[a3N]at h2;cases hx:H[j]? with
   |none=>rw[hx]at h2;cases h2
   |some y=>rw[hx]at h2;cases h2;exact .inl ⟨a3u,rfl⟩
  rw[a1M e]at h2;exact .inr ⟨by simp[h1,Ne.symm e],h2⟩
theorem qp(hr:HR X P A m H h)(is:List Nat){k ex x:Bool}{e size:Nat}{rows:List (X.Γ e)}{cs:List TV}(hw:dV X P (FA A m is) (bQ is m) h e rows cs 0 size)(hc:cs.length=rows.length*size)(hn:rows≠[])(hz:dw P e=some size)(h0:0<size)(hx:ex=true->x=true) :
  ∃m1,HR X P A m1 (aX is H++[.list k ex e rows]) (h++[.cells .own cs])∧Fr m h m1 (h++[.cells .own cs])∧Up m m1∧VR X P (AA A m1) m1 (h++[.cells .own cs]) (.own H.length) (.slc h.length 0 rows.length rows.length size x):=by
 have hgo:=hr.aX is;have Q5:=gY (h:=h) is m;have uZ:(MB.dn (.slc h.length 0 rows.length rows.length size x)).own=some h.length:=by simp only[MB.own];rw[a0S (by simpa using hn)]
 have hF:Fr (bQ is m) h (bQ is m++[.dn (.slc h.length 0 rows.length rows.length size x)]) (h++[.cells .own cs]):=by
  refine⟨by simp,fun b hb _=>by rw[a0N hb],fun b hb=>?_,fun b cs hc=>⟨cs,by rw[fJ (a0N (gu hc)),hc],a1J _⟩⟩;rw[iU,a3y,jS,uZ]at hb;rcases hb with hb|hb
  .exact .inl hb
  .simp at hb;exact .inr (by omega)
 obtain⟨h1,h2,h3⟩:=hgo.push (pb:=.list k ex e rows) (hb:=.cells .own cs) (.inl uZ)
  (LR.some (kk:=.own) hn hz h0 (by simp) (by simp) (fun _=>rfl) hx hc ((hw.mono fun b hb=>hb.gone hr).step hF (wB _)))
 refine⟨_,h1,Q5.1.trans h2,Q5.2.trans h3,.own ?_ rfl⟩;rw[<-hr.len,<-lS is m];simp
theorem Rl(hr:HR X P A m H h)(is:List Nat){k ex:Bool}{e:Nat}{y:TV}(hy:(MB.dn y).own=none)(ho:iO y=true)(hl:LR X P (AA A (bQ is m++[.dn y])) (bQ is m++[.dn y]) h k ex e [] y) :
  ∃m1,HR X P A m1 (aX is H++[.list k ex e []]) h∧Fr m h m1 h∧Up m m1∧VR X P (AA A m1) m1 h (.own H.length) y:=by
 have Q5:=gY (h:=h) is m;obtain⟨h1,h2,h3⟩:=(hr.aX is).abl (pb:=.list k ex e []) hy hl;refine⟨_,h1,Q5.1.trans h2,Q5.2.trans h3,.own ?_ ho⟩;rw[<-hr.len,<-lS is m];simp
theorem a97(hr:HR X P A m H h){is:List Nat}{y:TV}(hy:(MB.dn y).own=none){b:Nat}(hb:FA A m is b):AA A (bQ is m++[.dn y]) b:=by
 have:=hb.gone hr;refine⟨this.1,fun hm=>this.2 ?_⟩;rw[iU,a3y,jS,hy]at hm;simpa using hm
theorem push_empty(hr:HR X P A m H h)(is:List Nat){k ex:Bool}{e size b off:Nat}{cs:List TV}(hz:dw P e=some size)(h0:0<size)(ha:FA A m is b)(hb:aU h b=some cs)(ho:off<=cs.length) :
  ∃m1,HR X P A m1 (aX is H++[.list k ex e []]) h∧Fr m h m1 h∧Up m m1∧VR X P (AA A m1) m1 h (.own H.length) (.slc b off 0 0 size true):=
 Rl hr is rfl rfl (LR.emp (a97 hr rfl ha) hb ho hz h0)
theorem NZ(hr:HR X P A m H h)(is:List Nat){k ex:Bool}{e:Nat} :
  ∃m1,HR X P A m1 (aX is H++[.list k ex e []]) h∧Fr m h m1 h∧Up m m1∧VR X P (AA A m1) m1 h (.own H.length) (.nil .slc):=
 Rl hr is rfl rfl .nil
theorem O1(hr:HR X P A m H h){b c:Nat}(is:List Nat){mb Le:MB}{pb:PB X.Γ}{h1:List HB}(hb:m[b]? = some mb)(ho:mb.own=some c)(ho':Le.own=some c)(hlen:h1.length=h.length)(hs:∀d,d≠c->h1[d]? = h[d]?)
  (hg:∀cs,aU h c=some cs->∃cs',aU h1 c=some cs'∧cs.length<=cs'.length)
  (qA:Fr m h (bQ (b::is) m++[Le]) h1->Up m (bQ (b::is) m++[Le])->BR X P (AA A (bQ (b::is) m++[Le])) (bQ (b::is) m++[Le]) h1 pb Le) :
  ∃m1,m1=bQ (b::is) m++[Le]∧HR X P A m1 (aX (b::is) H++[pb]) h1∧Fr m h m1 h1∧Up m m1∧m1[H.length]? = some Le:=by
 have Q5:=gY (h:=h) (b::is) m;have hgo:=hr.aX (b::is);have hnc:c∉bn (bQ (b::is) m):=fun hm=>by
  obtain⟨j,mbj,g1,g2,g3⟩:=Ac hm;have:=iQ hr.nodup hb g2 ho g3;exact g1 (by rw[<-this];exact a3u)
 have yL:∀d,d∈bn (bQ (b::is) m++[Le])↔d∈bn (bQ (b::is) m)∨d=c:=by
  intro d;rw[iU,a3y,jS,ho'];simp
 have Gz:c∈bn m:=aZ hb ho;have hF:Fr m h (bQ (b::is) m++[Le]) h1:=by
  refine⟨by omega,fun d hd hn=>hs d fun e=>hn (e▸Gz),fun d hd=>?_,fun d cs hc=>?_⟩
  .rcases(yL d).1 hd with hd|rfl
   .exact Q5.1.new d hd
   .exact .inl Gz
  .by_cases e:d=c
   .subst e;exact hg cs hc
   .exact⟨cs,by rw[fJ (hs d e),hc],a1J _⟩
 have hU:Up m (bQ (b::is) m++[Le]):=Q5.2.trans (wB _);refine⟨_,rfl,?_,hF,hU,?_⟩
 .refine hr.next hF hU (by simp[lS,nC,hr.len]) ?_ fun i pbi hi=>?_
  .rw[iU,jS,ho'];refine a8l.2 ⟨hgo.nodup,by simp,fun a ha b' xM e=>?_⟩;simp at xM;subst xM;subst e;exact hnc ha
  .rcases a3L i (aX (b::is) H).length with aQ|Eh
   .rw[a0N aQ]at hi;have a5o:i<(bQ (b::is) m).length:=by rw[hgo.len];exact aQ
    rcases Gy hi with⟨e1,rfl⟩|⟨e1,e2⟩
    .obtain⟨mbi,g1,g2⟩:=hgo.at_ i _ hi;cases mbi with
     |gone=>exact .inr ⟨.gone,by rw[a0N a5o];exact g1,trivial⟩
     |_=>exact g2.elim
    .obtain⟨mbi,g1,_⟩:=hr.at_ i _ e2;left;have hm:=Gq (b::is) g1;rw[show(b::is).contains i=false by simpa using e1]at hm;refine⟨mbi,e2,g1,by rw[a0N a5o];simpa using hm,fun d hd=>hs d fun e=>?_⟩;subst e;have:=iQ hr.nodup hb g1 ho hd;exact e1 (by rw[<-this];exact a3u)
   .rw[a1H Eh]at hi;have:i-(aX (b::is) H).length=0:=by
     rcases ab7 (i-(aX (b::is) H).length)with h|h
     .exact h
     .rw[a3I (by simp;omega)]at hi;cases hi
    rw[this]at hi;simp only[a2I,a01]at hi;subst hi;exact .inr ⟨Le,by rw[a1H (by rw[hgo.len];exact Eh),hgo.len,this];rfl,qA hF hU⟩
 .have:H.length=(bQ (b::is) m).length:=by rw[lS,hr.len]
  rw[this];simp
end
open Go Tw
section
variable {X:kC} {P:Program} {A F:Nat->Prop} {m m':List MB} {h h':List HB} {H H':List (PB X.Γ)}
def VZ(X:kC)(P:Program)(A:Nat->Prop)(m:List MB)(ts:St)(r:Option (TV×St×lG))(v:PV X.Γ)(H1:List (PB X.Γ))(pi:PI):Prop:=
 ∃w h1 ti m1,r=some (w,{ ts with heap:=h1 },ti)∧HR X P A m1 H1 h1∧VR X P (AA A m1) m1 h1 v w∧Fr m ts.heap m1 h1∧Up m m1∧IR m ts.heap pi ti∧∀b,.h b∈ti.ws->b∈bn m
theorem nH{e:TypeId}{n k:Nat}(hb:tJ P e n=true)(hk:k<=n):tJ P e k=true:=by
 unfold tJ at hb ⊢;split at hb
 .rename_i i hi;simp only[a2r,a1T]at hb ⊢;obtain⟨⟨⟨⟨h1,h2⟩,h3⟩,h4⟩,h5⟩:=hb;have:=a3z i.bytes hk;exact⟨⟨⟨⟨by omega,by omega⟩,h3⟩,h4⟩,h5⟩
 cases hb
theorem nI{t e:TypeId}{n:Nat}(hs:jq P t=some (e,n)):dw P e=some n∧0<n:=by
 unfold jq at hs;split at hs
 .split at hs
  .rename_i k hk;split at hs
   .cases hs
   rename_i h0;simp only[a01,a1o]at hs;obtain⟨rfl,rfl⟩:=hs;exact⟨hk,by omega⟩
  cases hs
 cases hs
theorem vg(hr:HR X P A m H h){e sz:Nat}{x:PV X.Γ}{tx:TV}(hv:VR X P (AA A m) m h x tx)(hz:dw P e=some sz){rows:List (X.Γ e)}{is:List Nat}(hs:zX X H e sz x=some (rows,is)){b:Nat}(hb:.h b∈dD tx):((∃i,.h i∈Cc X x∧Gx m i b)∨b∉bn m)∧b<h.length:=by
 have lr:∀{i:Nat} {k ex:Bool} {t:Nat} {l:List (X.Γ t)} {c off len cap s:Nat} {e':Bool},H[i]? = some (.list k ex t l)->m[i]? = some (.dn (.slc c off len cap s e'))->(Gx m i c∨c∉bn m)∧c<h.length:=by
  intro i k ex t l c off len cap s e' hH hm;obtain⟨mb,g1,g2⟩:=hr.at_ i _ hH;rw[hm]at g1;cases g1;cases(g2:LR X P _ _ _ _ _ _ _ _)with
  |emp h0 h1=>exact⟨.inr h0.2,gu h1⟩
  |some q1 q2 q3 q4=>exact⟨.inl (iK hm (by simp only[MB.own];rw[a0S (by simpa using q1)])),(a02.1 q4).1⟩
 cases x with
 |nil k=>
  cases hv with
  |nil=>simp[dD]at hb
  |gone hi _ _=>simp[bg]at hi
 |dn t l fu=>
  cases hv with
  |o7=>simp[dD]at hb
  |dn a ac=>simp[dD]at hb;subst hb;exact⟨.inr a.2,gu ac⟩
  |gone hi _ _=>simp[bg]at hi
 |own i=>
  simp only[zX]at hs;split at hs
  .rename_i k ex t l hH;cases hv with
   |own e' o=>
    cases tx<;>simp[dD]at hb
    subst hb;obtain⟨h1,h2⟩:=lr hH e';rcases h1 with h1|h1
    .exact⟨.inl ⟨i,by simp[Cc],h1⟩,h2⟩
    exact⟨.inr h1,h2⟩
   |gone hi e' _=>
    simp only[bg,a01]at hi;subst hi;obtain⟨mb,g1,g2⟩:=hr.at_ i _ hH;rw[g1]at e';cases e'<;>exact g2.elim
  cases hs
 |win i o n=>
  simp only[zX]at hs;split at hs
  .rename_i k ex t l hH;cases hv with
   |win e' q q'=>
    simp[dD]at hb;subst hb;obtain⟨h1,h2⟩:=lr hH e';rcases h1 with h1|h1
    .exact⟨.inl ⟨i,by simp[Cc],h1⟩,h2⟩
    exact⟨.inr h1,h2⟩
   |zZ=>simp[dD]at hb
   |gone hi e' _=>
    simp only[bg,a01]at hi;subst hi;obtain⟨mb,g1,g2⟩:=hr.at_ i _ hH;rw[g1]at e';cases e'<;>exact g2.elim
  cases hs
 |slc c off len cap s ex=>
  simp only[zX]at hs;split at hs
  .rename_i cs hH;cases hv with
   |slc e'=>
    simp[dD]at hb;subst hb;obtain⟨mb,g1,g2⟩:=hr.at_ c _ hH;rw[e']at g1;cases g1;exact⟨.inl ⟨c,by simp[Cc],iK e' rfl⟩,g2.has rfl⟩
   |gone hi e' _=>
    simp only[bg,a01]at hi;subst hi;obtain⟨mb,g1,g2⟩:=hr.at_ c _ hH;rw[g1]at e';cases e'<;>exact g2.elim
  cases hs
 |_=>simp[zX]at hs
theorem IR.reads{p:PI}{ks:List Key}(hp:p.hp=true)(hk:∀b,.h b∈ks->((∃i,.h i∈p.i.ts∧Gx m i b)∨b∉bn m)∧b<h.length)(hl:∀k,.l k∉ks):IR m h p (gU ks):=
 ⟨fun h=>(by cases h),fun k h=>absurd h (hl k),fun k h=>(by cases h),fun b h=>(by cases h),hk,fun h=>(by rw[hp]at h;cases h)⟩
theorem o9{tx:TV}{k:Nat}:Key.l k∉dD tx:=by cases tx<;>simp[dD]
theorem Ih(hX:bK X P){ps:aS X.Γ}{ts:St}(hR:uJ X P A m ps ts){at_:Array TypeId}{d x:PV X.Γ}{td tx:TV}(hd:VR X P (AA A m) m ts.heap d td)(hx:VR X P (AA A m) m ts.heap x tx){v:PV X.Γ}{H1:List (PB X.Γ)}{pi:lG}{qs:List Prop}
  (hl:TY X P at_ ps.heap d x=some (v,H1,pi,qs)) (hq:∀q∈qs,q):VZ X P A m ts (jP P at_ ts td tx) v H1 ⟨pi,false,false,true⟩:=by
 have hr:=hR.heap;unfold TY at hl;split at hl
 .rename_i st xt vH Jz;split at hl
  .cases hl
  .rename_i hint;split at hl
   .rename_i e size zH;split at hl
    .rename_i Kt;obtain⟨hz,h0⟩:=nI zH;split at hl
     .rename_i rows is hs;obtain⟨new,s1,s2,s3⟩:=Ub (m':=bQ is m) hX hr hx hz hs;have hk0:IR m ts.heap ⟨gU (Cc X x),false,false,true⟩ (gU (dD tx)):=IR.reads rfl (fun b hb=>vg hr hx hz hs hb) fun k=>o9;have hrn:rows.length=0↔rows=[]:=a7O;split at hl
      .-- nil
       simp only[a01,a1o]at hl;obtain⟨rfl,rfl,rfl,rfl⟩:=hl;have Ju:rows.length<=ah:=hq _ a3u;have:td=.nil .slc:=by
        cases hd with
        |nil=>rfl
        |gone hi _ _=>simp[bg]at hi
       subst this;by_cases hn:rows=[]
       .subst hn;obtain⟨m1,g1,g2,g3,g4⟩:=NZ hr is (k:=true) (ex:=false) (e:=e);exact⟨_,ts.heap,_,m1,by unfold jP;simp only[vH,Jz,hint,a3x,zH,s1,a5q,a2D,a2H],g1,g4,g2,g3,hk0,fun b hb=>by simp[gU]at hb⟩
       .obtain⟨m1,g1,g2,g3,g4⟩:=qp hr is (k:=true) (ex:=false) (x:=false) s3 s2 hn hz h0 (by simp);refine⟨_,ts.heap++[.cells .own new],_,m1,?_,g1,g4,g2,g3,hk0,fun b hb=>by simp[gU]at hb⟩;unfold jP;simp only[vH,Jz,hint,a3x,zH,s1,a2H,hrn,hn,s2,a2D,nH Kt Ju]
      .-- an own list
       rename_i b;split at hl
       .rename_i k ex t' l hb;split at hl
        .cases hl
        rename_i hnb;split at hl
        .rename_i l2 O4;obtain⟨rfl,rfl⟩:=um O4;simp only[a01,a1o]at hl;obtain⟨rfl,rfl,rfl,rfl⟩:=hl;have Ju:l2.length+rows.length<=ah:=hq _ a3u;obtain⟨mb,g1,g2⟩:=hr.at_ b _ hb;have Ve:∀{c:Nat},Gx m b c∨c∉bn m->c<ts.heap.length->IR m ts.heap ⟨⟨false,.h b::Cc X x,[.h b]⟩,false,false,true⟩ (gU (.h c::dD tx)):=fun{c} hc aQ=>IR.reads rfl (fun d hd=>by
          rcases a2t.1 hd with e0|e0
          .cases e0;rcases hc with hc|hc
           .exact⟨.inl ⟨b,a3u,hc⟩,aQ⟩
           .exact⟨.inr hc,aQ⟩
          .obtain⟨h0,h9⟩:=vg hr hx hz hs e0;rcases h0 with⟨i,h1,h2⟩|h1
           .exact⟨.inl ⟨i,a3w _ h1,h2⟩,h9⟩
           .exact⟨.inr h1,h9⟩) fun j hj=>by
            rcases a2t.1 hj with e0|e0
            .cases e0
            .exact o9 e0
         have mD:IR m ts.heap ⟨⟨false,.h b::Cc X x,[.h b]⟩,false,false,true⟩ (gU (dD tx)):=IR.reads rfl (fun d hd=>by
          obtain⟨h0,h9⟩:=vg hr hx hz hs hd;rcases h0 with⟨i,h1,h2⟩|h1
          .exact⟨.inl ⟨i,a3w _ h1,h2⟩,h9⟩
          .exact⟨.inr h1,h9⟩) fun j hj=>o9 hj
         cases mb with
         |dn z=>
          cases hd with
          |gone hi e' _=>simp only[bg,a01]at hi;subst hi;rw[g1]at e';cases e'
          |own e' o=>
           rw[g1]at e';cases e';have hlr:LR X P (AA A m) m ts.heap k ex t' l2 td:=g2;have TA:dV X P (FA A m (b::is)) (bQ (b::is) m) ts.heap t' rows new 0 size:=(s3.mono fun c hc=>FA.mono (fun i hi=>a3w _ hi) hc).iY hX;cases hlr with
           |nil=>
            simp only[abk];by_cases hn:rows=[]
            .subst hn;obtain⟨m1,f1,f2,f3,f4⟩:=NZ hr (b::is) (k:=k&&ex) (ex:=false) (e:=t');exact⟨_,ts.heap,_,m1,by unfold jP;simp only[vH,Jz,hint,a3x,zH,s1,a5q,a2D,a2H],f1,f4,f2,f3,mD,fun c hc=>by simp[gU]at hc⟩
            .obtain⟨m1,f1,f2,f3,f4⟩:=qp hr (b::is) (k:=k&&ex) (ex:=false) (x:=false) TA s2 hn hz h0 (by simp);refine⟨_,ts.heap++[.cells .own new],_,m1,?_,f1,f4,f2,f3,mD,fun c hc=>by simp[gU]at hc⟩;unfold jP;simp only[vH,Jz,hint,a3x,zH,s1,a2H,hrn,hn,s2,a2D,nH Kt (show rows.length<=ah by omega)]
           |emp p0 p1 p2 p3 p4=>
            rename_i c off sz cs;rw[hz]at p3;cases p3;simp only[abk];by_cases hn:rows=[]
            .subst hn;obtain⟨m1,f1,f2,f3,f4⟩:=push_empty hr (b::is) (k:=k&&ex) (ex:=false) hz h0 (.inl p0) p1 p2;exact⟨_,ts.heap,_,m1,by unfold jP;simp only[vH,Jz,hint,a3x,zH,s1,a5q,a2D,a2H],f1,f4,f2,f3,mD,fun c hc=>by simp[gU]at hc⟩
            .obtain⟨m1,f1,f2,f3,f4⟩:=qp hr (b::is) (k:=k&&ex) (ex:=false) (x:=false) TA s2 hn hz h0 (by simp);refine⟨_,ts.heap++[.cells .own new],_,m1,?_,f1,f4,f2,f3,Ve (c:=c) (.inr p0.2) (gu p1),fun c hc=>by simp[gU]at hc⟩;have pV:fB size ts.heap (.slc c off 0 0 size true)=some (0,[]):=(by simp[fB]);unfold jP;simp only[vH,Jz,hint,a3x,zH,s1,a2H,hrn,hn,s2,a2D,a3E,Nat.le_zero_eq,nH Kt (show rows.length<=ah by omega),pV,a1z,abk]
           |some p1 p2 p3 p4 p5 p6 p7 p8 p9=>
            rename_i c sz xx kk cs;rw[hz]at p2;cases p2;have uZ:(MB.dn (TV.slc c 0 l2.length l2.length size xx)).own=some c:=by simp only[MB.own];rw[a0S (by simpa using p1)]
            by_cases hn:rows=[]
            .subst hn;simp only[a6h];obtain⟨m1,f0,f1,f2,f3,f4⟩:=O1 (pb:=.list (k&&ex) false t' l2) hr is g1 uZ uZ rfl (fun _ _=>rfl) (fun cs hc=>⟨cs,hc,a1J _⟩) (fun hF hU=>LR.some p1 hz p3 p4 p5 (fun hk=>p6 (by simp at hk;exact hk.1)) (by simp) p8 (p9.step hF hU));exact⟨_,ts.heap,_,m1,by unfold jP;simp only[vH,Jz,hint,a3x,zH,s1,a5q,a2D,a2H],f1,.own f4 rfl,f2,f3,mD,fun c hc=>by simp[gU]at hc⟩
            .have hle:¬l2.length+rows.length<=l2.length:=by
              have:rows.length≠0:=fun e0=>hn (hrn.1 e0);omega
             have iq:l2++rows≠[]:=(by simp[p1]);cases xx with
             |true=>
              have hold:fB size ts.heap (.slc c 0 l2.length l2.length size true)=some (l2.length,cs):=by
               simp only[fB,a2D];rw[a0S (fun e0=>p1 (a7O.1 e0)),wu p4 (by omega)];simp only[sub];rw[a0V (by omega),ab4,a9s (by omega)];rfl
              have hw1:dV X P (FA A m (b::is)) (bQ (b::is) m) ts.heap t' l2 cs 0 size:=(p9.mono fun c hc=>.inl hc).iY hX;obtain⟨m1,f1,f2,f3,f4⟩:=qp hr (b::is) (k:=k&&ex) (ex:=false) (x:=false) (hw1.app TA p8) (by rw[a2m,a2m,a3A,p8,s2]) iq hz h0 (by simp);refine⟨_,ts.heap++[.cells .own (cs++new)],_,m1,?_,f1,f4,f2,f3,Ve (c:=c) (.inl (iK g1 uZ)) (a02.1 p4).1,fun c hc=>by simp[gU]at hc⟩;unfold jP;simp only[vH,Jz,hint,a3x,zH,s1,a2H,hrn,hn,s2,a2D,hle,nH Kt Ju,hold,a1z,a2m]
             |false=>
              have hex:ex=false:=by cases ex with
               |true=>exact absurd (p7 rfl) (by simp)
               |false=>rfl
              subst hex;have aQ:=(a02.1 p4).1;obtain⟨m1,f0,f1,f2,f3,f4⟩:=O1 (pb:=.list (k&&false) false t' (l2++rows)) (h1:=ts.heap.set c (.cells kk.more (cs++new))) (Le:=.dn (.slc c 0 (l2.length+rows.length) (l2.length+rows.length) size false)) hr is g1 uZ
               (by simp only[MB.own];rw[a0S (by omega)]) (by simp) (fun d hd=>a1M (Ne.symm hd)) (fun VX I4=>⟨cs++new,by simp[aU,aQ],by
                simp only[aU,p4,a01]at I4;subst I4;simp⟩) (fun hF hU=>by
                have Q5:=gY (h:=ts.heap) (b::is) m;have PS:∀q cs',FA A m is q->aU ts.heap q=some cs'->AA A (bQ (b::is) m++[.dn (.slc c 0 (l2.length+rows.length) (l2.length+rows.length) size false)]) q∧(ts.heap.set c (.cells kk.more (cs++new)))[q]? = ts.heap[q]?:=fun q cs' hq hc=>by
                 have Y7:q≠c:=fun e0=>by
                  subst e0;rcases hq with hq|⟨i,mb,e1,e2,e3⟩
                  .exact hq.2 (aZ g1 uZ)
                  .have:=iQ hr.nodup g1 e2 uZ e3;subst this;exact hnb (by simpa using e1)
                 have hg:=FA.gone hr (FA.mono (js:=b::is) (fun i hi=>a3w _ hi) hq);refine⟨⟨hg.1,fun hm=>?_⟩,a1M (Ne.symm Y7)⟩;rw[iU,a3y,jS]at hm;rcases hm with hm|hm
                 .exact hg.2 hm
                 .simp only[MB.own]at hm;rw[a0S (by omega)]at hm;simp at hm;exact Y7 hm
                have:=LR.some (X:=X) (P:=P) (A:=AA A (bQ (b::is) m++[.dn (.slc c 0 (l2.length+rows.length) (l2.length+rows.length) size false)])) (m:=bQ (b::is) m++[.dn (.slc c 0 (l2.length+rows.length) (l2.length+rows.length) size false)]) (h:=ts.heap.set c (.cells kk.more (cs++new))) (k:=k&&false) (ex:=false) (t:=t') (l:=l2++rows) (b:=c) (sz:=size) (e:=false) (kk:=kk.more) (cs:=cs++new)
                 iq hz h0 (by simp[aQ]) (by cases kk<;>simp[BK.more]) (by simp) (by simp) (by rw[a2m,a2m,a3A,p8,s2]) ((p9.step hF hU).app (s3.move hX PS) p8)
                rw[a2m]at this;exact this)
              refine⟨_,ts.heap.set c (.cells kk.more (cs++new)),⟨false,.h c::dD tx,[.h c]⟩,m1,?_,f1,.own f4 rfl,f2,f3,⟨fun h=>(by cases h),fun j hj=>?_,fun j hj=>(by simp at hj),fun d hd=>?_,fun d hd=>?_,fun h=>(by cases h)⟩,fun d hd=>?_⟩
              .unfold jP;simp only[vH,Jz,hint,a3x,zH,s1,a2H,hrn,hn,s2,a2D,hle,nH Kt Ju,p4,ne_eq,not_true_eq_false,p5,p8,a7O,p1,or_self]
              .rcases a2t.1 hj with e0|e0
               .cases e0
               .exact absurd e0 o9
              .simp at hd;subst hd;exact .inl ⟨b,by simp,iK g1 uZ⟩
              .rcases a2t.1 hd with e0|e0
               .cases e0;exact⟨.inl ⟨b,a3u,iK g1 uZ⟩,aQ⟩
               .obtain⟨h0,h9⟩:=vg hr hx hz hs e0;rcases h0 with⟨i,h1,h2⟩|h1
                .exact⟨.inl ⟨i,a3w _ h1,h2⟩,h9⟩
                .exact⟨.inr h1,h9⟩
              .simp at hd;subst hd;exact aZ g1 uZ
         |_=>exact g2.elim
        .cases hl
       .cases hl
      .-- a full frozen list
       rename_i t' l;split at hl
       .rename_i l2 O4;obtain⟨rfl,rfl⟩:=um O4;simp only[a01,a1o]at hl;obtain⟨rfl,rfl,rfl,rfl⟩:=hl;have Ju:l2.length+rows.length<=ah:=hq _ a3u;have FT:l2=[]∨rows≠[]:=hq _ (a3w _ a3u);cases hd with
        |gone hi _ _=>simp[bg]at hi
        |o7=>
         simp only[abk];by_cases hn:rows=[]
         .subst hn;obtain⟨m1,f1,f2,f3,f4⟩:=NZ hr is (k:=true) (ex:=false) (e:=t');exact⟨_,ts.heap,_,m1,by unfold jP;simp only[vH,Jz,hint,a3x,zH,s1,a5q,a2D,a2H],f1,f4,f2,f3,hk0,fun c hc=>by simp[gU]at hc⟩
         .obtain⟨m1,f1,f2,f3,f4⟩:=qp hr is (k:=true) (ex:=false) (x:=false) s3 s2 hn hz h0 (by simp);refine⟨_,ts.heap++[.cells .own new],_,m1,?_,f1,f4,f2,f3,hk0,fun c hc=>by simp[gU]at hc⟩;unfold jP;simp only[vH,Jz,hint,a3x,zH,s1,a2H,hrn,hn,s2,a2D,nH Kt (show rows.length<=ah by omega)]
        |dn p1 p2 p2' p3 p4 p5 p6 p7 p8 p9=>
         rename_i c off cap sz xx cs;rw[hz]at p3;cases p3;obtain⟨rfl,rfl⟩:=p7 rfl;have hk3:IR m ts.heap ⟨gU (Cc X x),false,false,true⟩ (gU (.h c::dD tx)):=IR.reads rfl (fun d hd=>by
          rcases a2t.1 hd with e0|e0
          .cases e0;exact⟨.inr p1.2,gu p2⟩
          .exact vg hr hx hz hs e0) fun j hj=>by
           rcases a2t.1 hj with e0|e0
           .cases e0
           .exact o9 e0
         by_cases hn:rows=[]
         .have qC:l2=[]:=by rcases FT with h1|h1;exact h1;exact absurd hn h1
          subst hn;subst qC;obtain⟨m1,f1,f2,f3,f4⟩:=push_empty hr is (k:=true) (ex:=false) hz h0 (.inl p1) p2 (by simpa using p5);exact⟨_,ts.heap,_,m1,by unfold jP;simp only[vH,Jz,hint,a3x,zH,s1,a5q,a2D,a2H],f1,f4,f2,f3,hk0,fun c hc=>by simp[gU]at hc⟩
         .have hle:¬l2.length+rows.length<=l2.length:=by
           have:rows.length≠0:=fun e0=>hn (hrn.1 e0);omega
          have hw1:dV X P (FA A m is) (bQ is m) ts.heap t' l2 ((cs.drop off).take (l2.length*size)) 0 size:=by
           have hh:dV X P (AA A m) m ts.heap t' l2 cs off size:=⟨p8,p5,p9⟩;exact(hh.take.mono fun c hc=>.inl hc).iY hX
          have hlen:((cs.drop off).take (l2.length*size)).length=l2.length*size:=by rw[a3B,a3D];omega
          obtain⟨m1,f1,f2,f3,f4⟩:=qp hr is (k:=true) (ex:=false) (x:=false) (hw1.app s3 hlen) (by rw[a2m,a2m,a3A,hlen,s2]) (by simp[hn]) hz h0 (by simp);refine⟨_,ts.heap++[.cells .own ((cs.drop off).take (l2.length*size)++new)],_,m1,?_,f1,f4,f2,f3,hk3,fun c hc=>by simp[gU]at hc⟩;have pV:fB size ts.heap (.slc c off l2.length l2.length size true)=some (l2.length,(cs.drop off).take (l2.length*size)):=by
           simp only[fB,a2D,sub];by_cases qC:l2.length=0
           .rw[a0V qC,qC,acr,List.take_zero]
           .rw[a0S qC,p2' (fun e0=>qC (by rw[e0];rfl))];simp only;rw[a0V p5];rfl
          unfold jP;simp only[vH,Jz,hint,a3x,zH,s1,a2H,hrn,hn,s2,a2D,hle,nH Kt Ju,pV,a1z,a2m]
       .cases hl
      .cases hl
     .cases hl
    .cases hl
   .cases hl
 .cases hl
end
open Go Tw
theorem W9{α:Type}{l rows:List α}{o k:Nat}(h:o+k<=l.length)(hk:k<=rows.length):(NQ l o k rows).length=l.length:=by
 unfold NQ;simp;omega
theorem a2o{α:Type}{l rows:List α}{o:Nat}:NQ l o 0 rows=l:=by unfold NQ;simp
section
variable {X:kC} {P:Program} {A F:Nat->Prop} {m m':List MB} {h h':List HB} {H H':List (PB X.Γ)}
theorem dV.put{t sz o k:Nat}{l rows:List (X.Γ t)}{cs new:List TV}(h1:dV X P F m h t l cs 0 sz)(h2:dV X P F m h t rows new 0 sz)(hc:cs.length=l.length*sz)(hn:new.length=rows.length*sz)(ho:o+k<=l.length)(hk:k<=rows.length) :
  dV X P F m h t (NQ l o k rows) (cs.take (o*sz)++new.take (k*sz)++cs.drop (o*sz+k*sz)) 0 sz:=by
 have a1:=(h1.part (o:=0) (n:=o) (by omega)).take;have a2:=(h2.part (o:=0) (n:=k) (by omega)).take;have a3:=(h1.part (o:=o+k) (n:=l.length-(o+k)) (by omega)).take;have l1:((l.drop 0).take o).length=o:=by simp;omega
 have l2:((rows.drop 0).take k).length=k:=by simp;omega
 have l3:((l.drop (o+k)).take (l.length-(o+k))).length=l.length-(o+k):=by simp
 rw[l1]at a1;rw[l2]at a2;rw[l3]at a3;simp only[acr,ade,a3E,ab4]at a1 a2 a3;have m1:o*sz<=cs.length:=by rw[hc];exact a3z _ (by omega)
 have m2:k*sz<=new.length:=by rw[hn];exact a3z _ hk
 have r:=(a1.app a2 (by rw[a3B,a3B];rw[a8d m1,a8d (by omega)])).app a3 (by
  simp only[a2m,a3B];rw[a8d m1,a8d m2,a8d (by omega),a8d hk,a3A])
 have e1:l.drop (o+k)=(l.drop (o+k)).take (l.length-(o+k)):=by rw[a9s (by simp)]
 have e2:cs.drop (o*sz+k*sz)=(cs.drop ((o+k)*sz)).take ((l.length-(o+k))*sz):=by
  rw[a3A,a9s];rw[a3D,hc,Nat.sub_mul,a3A];omega
 unfold NQ;rw[e1,e2];exact r
theorem Dx(hX:bK X P){ps:aS X.Γ}{ts:St}(hR:uJ X P A m ps ts){at_:Array TypeId}{st e size b o n:Nat}{k0 ex:Bool}{l rows:List (X.Γ e)}{x:PV X.Γ}{td tx:TV}(vH:at_[0]? = some st)(zH:jq P st=some (e,size))(hx:VR X P (AA A m) m ts.heap x tx)
  (hs:zX X ps.heap e size x=some (rows,[])) (hb:ps.heap[b]? = some (.list k0 ex e l)) {mb:MB} (g1:m[b]? = some mb) (g2:BR X P (AA A m) m ts.heap (.list k0 ex e l) mb)
  (htd:(∃c sz' xx' xx cap,mb=.dn (.slc c 0 l.length l.length sz' xx')∧l≠[]∧td=.slc c (o*sz') n cap sz' xx∧(n=0∨o+cap=l.length))∨(n=0∧(td=.nil .slc∨∃c f cap xx,td=.slc c f 0 cap size xx))) (hon:o+n<=l.length) (Na:isStr tx=false) :
  VZ X P A m ts (FP P at_ ts td tx) (.int .i64 ((min rows.length n:Nat):Int)) (ps.heap.set b (.list k0 ex e (NQ l o (min rows.length n) rows))) ⟨⟨false,.h b::Cc X x,[.h b]⟩,false,false,true⟩:=by
 have hr:=hR.heap;obtain⟨hz,h0⟩:=nI zH;obtain⟨new,s1,s2,s3⟩:=Ub (m':=m) hX hr hx hz hs;have TA:dV X P (AA A m) m ts.heap e rows new 0 size:=s3.mono fun q hq=>by
  rcases hq with hq|⟨i,_,hi,_⟩
  .exact hq
  .simp at hi
 have mD:IR m ts.heap ⟨⟨false,.h b::Cc X x,[.h b]⟩,false,false,true⟩ (gU (dD tx)):=IR.reads rfl (fun d hd=>by
  obtain⟨h0,h9⟩:=vg hr hx hz hs hd;rcases h0 with⟨i,h1,h2⟩|h1
  .exact⟨.inl ⟨i,a3w _ h1,h2⟩,h9⟩
  .exact⟨.inr h1,h9⟩) fun j hj=>o9 hj
 have same:ps.heap.set b (.list k0 ex e l)=ps.heap:=by
  apply a9h;intro i;by_cases e:b=i
  .subst e;rw[a1V (a02.1 hb).1,hb]
  .rw[a1M e]
 by_cases hk:min rows.length n=0
 .rw[hk,a2o,same];refine⟨.int .i64 0,ts.heap,gU (dD tx),m,?_,hr,.int _ _,.refl,.refl,mD,fun c hc=>by simp[gU]at hc⟩;unfold FP;simp only[vH,zH,s1,s2,Na,acG,a2D];rcases htd with⟨c,sz',xx',xx,cap,rfl,iq,rfl,vV⟩|⟨rfl,rfl|⟨c,f,cap,xx,rfl⟩⟩
  .have:sz'=size:=by cases g2 with|some _ q2 _ _ _ _ _ _ _=>rw[hz]at q2;cases q2;rfl|emp=>exact absurd rfl iq
   simp only[this,a2D,hk]
  .rfl
  .simp only[a2D,hk]
 .rcases htd with⟨c,sz',xx',xx,cap,rfl,iq,rfl,vV⟩|⟨rfl,_⟩
  .cases g2 with
   |emp=>exact absurd rfl iq
   |some p1 p2 p3 p4 p5 p6 p7 p8 p9=>
    rename_i kk cs;rw[hz]at p2;cases p2;obtain⟨AX,xJ,adG,hko⟩:=Iw p5;have ahA:o*size+cap*size=cs.length:=by
     have:=vV.resolve_left (by omega);rw[p8,<-this,a3A]
    have aQ:=(a02.1 p4).1;have uZ:(MB.dn (TV.slc c 0 l.length l.length size xx')).own=some c:=by simp only[MB.own];rw[a0S (by simpa using p1)]
    have hkn:o+min rows.length n<=l.length:=(by omega);have hkr:min rows.length n<=rows.length:=Nat.min_le_left _ _;have m1:o*size+min rows.length n*size<=cs.length:=by rw[p8,<-a3A];exact a3z _ hkn
    have m2:min rows.length n*size<=new.length:=by rw[s2];exact a3z _ hkr
    have m3:min (min rows.length n*size) (rows.length*size)=min rows.length n*size:=a8d (by rw[<-s2];exact m2);have an0:=dV.put p9 TA p8 s2 hkn hkr;have pU:(cs.take (o*size)++new.take (min rows.length n*size)++cs.drop (o*size+min rows.length n*size)).length=cs.length:=by simp;omega
    have hl:=W9 (rows:=rows) hkn hkr;obtain⟨q1,q2⟩:=hr.set (i:=b) (c:=c) (pb:=.list k0 ex e (NQ l o (min rows.length n) rows)) (hb:=.cells AX (cs.take (o*size)++new.take (min rows.length n*size)++cs.drop (o*size+min rows.length n*size))) g1 uZ
     (fun VX I4=>⟨_,by simp only[aU];rw[a1V aQ],by
      simp only[aU,p4,a01]at I4;subst I4;rw[pU];exact a1J _⟩)
     (fun hF=>by
      have agI:NQ l o (min rows.length n) rows≠[]:=fun e0=>by rw[e0]at hl;simp at hl;exact p1 (a7O.1 hl.symm)
      have r:=LR.some (k:=k0) (ex:=ex) (e:=xx') agI hz p3 (by rw[a1V aQ]) adG (fun e0=>hko (p6 e0)) p7 (by rw[pU,hl,p8]) (an0.step hF .refl);rw[hl]at r;exact r)
    refine⟨.int .i64 ((min rows.length n:Nat):Int),_,⟨false,.h c::dD tx,[.h c]⟩,m,?_,q1,.int _ _,q2,.refl,?_,fun d hd=>?_⟩
    .unfold FP;simp only[vH,zH,s1,s2,Na,acG,a2D,hk,a3x,a0v p4 xJ ahA,vN,a3B,m3,m1,a1z]
    .refine⟨fun h=>(by cases h),fun k hk=>?_,fun k hk=>(by simp at hk),fun d hd=>?_,fun d hd=>?_,fun h=>(by cases h)⟩
     .rcases a2t.1 hk with e0|e0
      .cases e0
      .exact absurd e0 o9
     .simp at hd;subst hd;exact .inl ⟨b,a3u,iK g1 uZ⟩
     .rcases a2t.1 hd with e0|e0
      .cases e0;exact⟨.inl ⟨b,a3u,iK g1 uZ⟩,aQ⟩
      .obtain⟨h0,h9⟩:=vg hr hx hz hs e0;rcases h0 with⟨i,h1,h2⟩|h1
       .exact⟨.inl ⟨i,a3w _ h1,h2⟩,h9⟩
       .exact⟨.inr h1,h9⟩
    .simp at hd;subst hd;exact aZ g1 uZ
  .simp at hk
theorem a5p(hr:HR X P A m H h){e sz:Nat}{x:PV X.Γ}{tx:TV}(hv:VR X P (AA A m) m h x tx){rows:List (X.Γ e)}{is:List Nat}(hs:zX X H e sz x=some (rows,is)):isStr tx=false:=by
 cases hv with
 |own e' _=>
  unfold zX at hs;simp only at hs;split at hs
  .rename_i hb;obtain⟨mb,g1,g2⟩:=hr.at_ _ _ hb;rw[e']at g1;cases g1;cases g2<;>rfl
  cases hs
 |gone hi e' _=>
  cases x<;>simp only[bg,a01]at hi<;>first|cases hi|skip
  all_goals (unfold zX at hs;simp only at hs)
  all_goals first|(cases hs;done)|skip
  all_goals
   split at hs
   .rename_i hb;obtain⟨mb,g1,g2⟩:=hr.at_ _ _ hb;rw[g1]at e';cases e'<;>exact g2.elim
   .cases hs
 |str=>simp[zX]at hs
 |_=>rfl
theorem dV.vrs{t sz:Nat}:∀{l:List (X.Γ t)} {cs:List TV},dV X P F m h t l cs 0 sz->cs.length=l.length*sz->bU X P F m h (Ea X t l) cs
 | [],cs,_,hl=>by
  have:cs=[]:=a7O.1 (by simpa using hl);subst this;exact .nil
 |a::r,cs,hw,hl=>by
  have h1:=hw.row (j:=0) (a:=a) rfl;have h2:=(hw.part (o:=1) (n:=r.length) (by simp;omega)).take;have e1:((a::r).drop 1).take r.length=r:=by simp
  rw[e1]at h2;have hl':cs.length=r.length*sz+sz:=by rw[hl,a3J,a3A,ad9]
  have e2:(cs.drop (0+1*sz)).take (r.length*sz)=cs.drop sz:=by
   rw[a3E,ad9,a9s];rw[a3D];omega
  rw[e2]at h2;have h3:=dV.vrs h2 (by rw[a3D];omega);have h4:bU X P F m h (X.enc t a) (cs.take sz):=by
   have:=h1.1;simpa using this
  have:=h4.app h3;rw[List.take_append_drop]at this;exact this
theorem TB(hX:bK X P){ps:aS X.Γ}{ts:St}(hR:uJ X P A m ps ts){at_:Array TypeId}{d x:PV X.Γ}{td tx:TV}(hd:VR X P (AA A m) m ts.heap d td)(hx:VR X P (AA A m) m ts.heap x tx){v:PV X.Γ}{H1:List (PB X.Γ)}{pi:lG}
  (hl:a4V X P at_ ps.heap d x=some (v,H1,pi)):VZ X P A m ts (FP P at_ ts td tx) v H1 ⟨pi,false,false,true⟩:=by
 have hr:=hR.heap;unfold a4V at hl;split at hl
 .rename_i st vH;split at hl
  .rename_i e size zH;obtain⟨hz,h0⟩:=nI zH;split at hl
   .rename_i rows hs;obtain⟨new,s1,s2,s3⟩:=Ub (m':=m) hX hr hx hz hs;have Na:isStr tx=false:=a5p hr hx hs;split at hl
    .simp only[a01,a1o]at hl;obtain⟨rfl,rfl,rfl⟩:=hl;have:td=.nil .slc:=by
      cases hd with
      |nil=>rfl
      |gone hi _ _=>simp[bg]at hi
     subst this;exact⟨_,ts.heap,_,m,by unfold FP;simp only[vH,zH,s1,s2,Na,acG,a2D],hr,.int _ _,.refl,.refl,IR.reads rfl (fun b hb=>vg hr hx hz hs hb) fun k=>o9,fun b hb=>by simp[gU]at hb⟩
    .rename_i b;split at hl
     .rename_i k0 ex t' l hb;split at hl
      .rename_i l2 O4;obtain⟨rfl,rfl⟩:=um O4;simp only[a01,a1o]at hl;obtain⟨rfl,rfl,rfl⟩:=hl;obtain⟨mb,g1,g2⟩:=hr.at_ b _ hb;refine Dx (o:=0) (n:=l2.length) hX hR vH zH hx hs hb g1 g2 ?_ (by omega) Na;cases hd with
       |gone hi e' _=>simp only[bg,a01]at hi;subst hi;rw[g1]at e';cases e'<;>exact g2.elim
       |own e' o=>
        rw[g1]at e';cases e';cases g2 with
        |nil=>exact .inr ⟨rfl,.inl rfl⟩
        |emp q1 q2 q3 q4 q5=>rw[hz]at q4;cases q4;exact .inr ⟨rfl,.inr ⟨_,_,_,_,rfl⟩⟩
        |some q1 q2=>rw[hz]at q2;cases q2;exact .inl ⟨_,_,_,_,_,rfl,q1,by rw[acr],.inr (a3E _)⟩
      .cases hl
     .cases hl
    .rename_i b o n;split at hl
     .rename_i k0 ex t' l hb;split at hl
      .rename_i l2 O4;obtain⟨rfl,rfl⟩:=um O4;simp only[a01,a1o]at hl;obtain⟨rfl,rfl,rfl⟩:=hl;obtain⟨mb,g1,g2⟩:=hr.at_ b _ hb;cases hd with
       |gone hi e' _=>simp only[bg,a01]at hi;subst hi;rw[g1]at e';cases e'<;>exact g2.elim
       |win e' o1 o2 o3=>
        rw[g1]at e';cases e';cases g2 with
        |emp q1 q2 q3 q4 q5=>
         rw[hz]at q4;cases q4;have:n=0:=(by omega);subst this;exact Dx hX hR vH zH hx hs hb g1 (LR.emp q1 q2 q3 hz q5) (.inr ⟨rfl,.inr ⟨_,_,_,_,rfl⟩⟩) o1 Na
        |some q1 q2 q3 q4 q5 q6 q7 q8 q9=>exact Dx hX hR vH zH hx hs hb g1 (LR.some q1 q2 q3 q4 q5 q6 q7 q8 q9) (.inl ⟨_,_,_,_,_,rfl,q1,by rw[a3E],o3⟩) o1 Na
       |zZ e'=>
        rw[g1]at e';cases e';exact Dx hX hR vH zH hx hs hb g1 g2 (.inr ⟨rfl,.inl rfl⟩) (by omega) Na
      .cases hl
     .cases hl
    .rename_i b off len cap sz xx;split at hl
     .rename_i cs hb;split at hl
      .rename_i hc;obtain⟨hc1,I4⟩:=hc;subst hc1;simp only[a0D,a1o]at hl;obtain⟨Rk,h1,rfl,rfl,rfl⟩:=hl;obtain⟨mb,g1,g2⟩:=hr.at_ b _ hb;cases mb with
       |fP c=>
        obtain⟨cs',g3,g4⟩:=g2;cases hd with
        |gone hi e _=>simp only[bg,a01]at hi;subst hi;rw[g1]at e;cases e
        |slc e=>
         rw[g1]at e;cases e;have TA:dV X P (AA A m) m ts.heap _ rows new 0 sz:=s3.mono fun q hq=>by
          rcases hq with hq|⟨i,_,hi,_⟩
          .exact hq
          .simp at hi
         have hv:=(TA.vrs s2).take (min rows.length len*sz);obtain⟨Iz,g5,g6⟩:=Gu g4 hv h1;have hlen:Iz.length=cs'.length:=by
          unfold vN at g5;split at g5
          .cases g5;simp only[a2m,a3B,a3D]at *;omega
          .cases g5
         have aQ:=(a02.1 g3).1;obtain⟨hr1,hF⟩:=hr.set (pb:=.cells Rk) (hb:=.cells .own Iz) g1 (c:=c) rfl (fun VX VY=>⟨Iz,by simp[aU,aQ],by
          simp only[aU,g3,a01]at VY;subst VY;omega⟩) fun hF=>⟨Iz,by simp[aQ],g6.step hF .refl⟩
         refine⟨.int .i64 ((min rows.length len:Nat):Int),_,⟨false,.h c::dD tx,[.h c]⟩,m,?_,hr1,.int _ _,hF,.refl,?_,fun d hd=>?_⟩
         .unfold FP;simp only[vH,zH,s1,s2,Na,acG,a2D];rw[a0S (by omega),VQ g3,g5];rfl
         .refine⟨fun h=>(by cases h),fun k hk=>?_,fun k hk=>(by simp at hk),fun d hd=>?_,fun d hd=>?_,fun h=>(by cases h)⟩
          .rcases a2t.1 hk with e0|e0
           .cases e0
           .exact absurd e0 o9
          .simp at hd;subst hd;exact .inl ⟨b,a3u,iK g1 rfl⟩
          .rcases a2t.1 hd with e0|e0
           .cases e0;exact⟨.inl ⟨b,a3u,iK g1 rfl⟩,aQ⟩
           .obtain⟨h0,h9⟩:=vg hr hx hz hs e0;rcases h0 with⟨i,h1,h2⟩|h1
            .exact⟨.inl ⟨i,a3w _ h1,h2⟩,h9⟩
            .exact⟨.inr h1,h9⟩
         .simp at hd;subst hd;exact aZ g1 rfl
       |_=>exact g2.elim
      .cases hl
     .cases hl
    .cases hl
   .cases hl
  .cases hl
 .cases hl
end
open Go Tw
section
variable {X:kC} {P:Program} {A F:Nat->Prop} {m m':List MB} {h h':List HB} {H H':List (PB X.Γ)}
theorem VPs.qg{ps:List (Nat×PV X.Γ)}{qs:List (Nat×TV)}(hp:VPs X P A m h ps qs):qs.all (fun p=>p.2.cells.all iO)=ps.all fun p=>p.2.cells.all YC:=by
 induction ps generalizing qs with
 |nil=>
  have:=hp.1;cases qs with
  |nil=>rfl
  |cons=>simp at this
 |cons a ps ih=>
  obtain⟨x,r,rfl,h1,h2⟩:=hp.inv;simp only[abn,Dv (Gt h1),ih h2]
theorem Wh{pl:Nat->Option (Nat×Nat)}:∀{qs:List (Nat×TV)} {xs r:List TV},rU pl xs qs=some r->r.length=xs.length
 | [],xs,r,h=>by simp only[rU,a01]at h;rw[h]
 |(i,v)::qs,xs,r,h=>by
  simp only[rU]at h;split at h
  .split at h
   .split at h
    .rename_i cs' ho;rw[Wh h];unfold vN at ho;split at ho
     .cases ho;simp only[a2m,a3B,a3D];omega
     cases ho
    cases h
   cases h
  cases h
theorem nT{z:List TV}:∀n,(times z n).length=n*z.length
 | 0=>by simp[times]
 |n+1=>by simp[times,nT n,a3A];omega
theorem tK(hX:bK X P){ps:aS X.Γ}{ts:St}(hR:uJ X P A m ps ts){t:TypeId}{len:Nat}{vs:List (Nat×PV X.Γ)}{xs:List (Nat×TV)}(hv:VPs X P (AA A m) m ts.heap vs xs){v:PV X.Γ}{H1:List (PB X.Γ)}
  {raw:Bool} (hl:xR X P t len ps.heap vs raw=some (v,H1)):VZ X P A m ts ((ql P t len ts xs).map fun(v,s)=>(v,s,bW)) v H1 xq:=by
 have hr:=hR.heap;unfold xR at hl;split at hl
 .rename_i e n zH;obtain⟨hz,h0⟩:=nI zH;split at hl
  .rename_i hc;split at hl
   .rename_i z hzz;obtain⟨z',q1,q2⟩:=Gv (A:=AA A m) (m:=m) (h:=ts.heap) hzz;split at hl
    .rename_i XW;split at hl
     .rename_i cs hf;obtain⟨cs',q3,q4⟩:=Lh hv (VT q2 len) hf;have hlen:cs'.length=len*n:=(by rw[Wh q3,nT,<-q2.1,XW]);have hT:∀w h1,(w,h1)=(TV.slc ts.heap.length 0 len len n true,ts.heap++[HB.cells .own cs'])->(ql P t len ts xs).map (fun(v,s)=>(v,s,bW))=some (w,{ ts with heap:=h1 },bW):=by
       intro w h1 e0;cases e0;simp only[ql,zH,hv.qg,hc,acG,a2D,q1,<-q2.1,XW,q3,a1z]
      split at hl
      .rename_i rows is hd;cases hl;have hd:xQ X ps.heap e n len cs=some (rows,is):=by
        split at hd
        .cases hd
        .exact hd
       obtain⟨e1,hw⟩:=Ad (m':=bQ is m) hX hr q4 hd;by_cases hn:rows=[]
       .subst hn;have e2:len=0:=(by simpa using e1.symm);subst e2;have QB:cs'=[]:=a7O.1 (by omega);subst QB;have GH:HR X P A (bQ is m++[.dn (.slc ts.heap.length 0 0 0 n true)]) (aX is ps.heap++[.list true true e []]) (ts.heap++[.cells .own []])∧_:=(hr.aX is).push (pb:=.list true true e []) (hb:=.cells .own []) (mb:=.dn (.slc ts.heap.length 0 0 0 n true)) (.inr rfl)
         (LR.emp (b:=ts.heap.length) (cs:=[]) ⟨hr.up _ (a1J _),fun hm=>by
          rw[iU,a3y,jS]at hm;simp[MB.own]at hm;have:=(hr.aX is).inb hm;omega⟩ (by simp[aU]) (a1J _) hz h0)
        have Q5:=gY (h:=ts.heap) is m;refine⟨_,_,_,_,hT _ _ rfl,GH.1,.own ?_ rfl,Q5.1.trans GH.2.1,Q5.2.trans GH.2.2,.none,fun b hb=>by cases hb⟩;rw[<-hr.len,<-lS is m];simp
       .have GH:=qp hr is (k:=true) (ex:=true) (x:=true) hw (by rw[hlen,e1]) hn hz h0 (by simp);obtain⟨m1,g1,g2,g3,g4⟩:=GH;refine⟨_,_,_,m1,hT _ _ rfl,g1,?_,g2,g3,.none,fun b hb=>by cases hb⟩;rw[e1]at g4;exact g4
      .cases hl;have hp:=hr.push (pb:=.cells cs) (hb:=.cells .own cs') (mb:=.fP ts.heap.length) (.inl rfl) ⟨cs',by simp,q4.step (by
        refine⟨by simp,fun b hb _=>by rw[a0N hb],fun b hb=>?_,fun b cs hc=>⟨cs,by rw[fJ (a0N (gu hc)),hc],a1J _⟩⟩;rw[iU,a3y,jS]at hb;rcases hb with hb|hb
        .exact .inl hb
        .simp[MB.own]at hb;exact .inr (by omega)) (wB _)⟩
       exact⟨_,_,_,_,hT _ _ rfl,hp.1,.slc (by rw[<-hr.len];simp),hp.2.1,hp.2.2,.none,fun b hb=>by cases hb⟩
     .cases hl
    .cases hl
   .cases hl
  .cases hl
 .cases hl
theorem O5{k:IntKind}{n:Int}{x:TV}(hv:VR X P A m h (.int k n) x):x=.int k n:=by
 cases hv with
 |int=>rfl
 |gone hi _ _=>simp[bg]at hi
theorem Wi{t sz:Nat}{a:X.Γ t}{z:List TV}(ha:bU X P F m h (X.enc t a) z)(hz:z.length=sz):∀n,dV X P F m h t (List.replicate n a) (times z n) 0 sz
 | 0=>⟨fun j a hj=>by simp at hj,by simp,fun j a i c v hj=>by simp at hj⟩
 |n+1=>by
  have h1:dV X P F m h t [a] z 0 sz:=by
   refine⟨fun j b hj=>?_,by simp[hz],fun j b i c v hj hi hx=>?_⟩
   .cases j with
    |zero=>simp only[a2I,a01]at hj;subst hj;rw[ha.1,hz]
    |succ j=>simp at hj
   cases j with
   |zero=>simp only[a2I,a01]at hj;subst hj;exact ha.2 i c v hi (by simpa using hx)
   |succ j=>simp at hj
  have:=h1.app (Wi ha hz n) (by simp[hz]);simpa[ae2,times]using this
theorem zQ(hX:bK X P){ps:aS X.Γ}{ts:St}(hR:uJ X P A m ps ts){t:TypeId}{l c:PV X.Γ}{tl tc:TV}(hvl:VR X P (AA A m) m ts.heap l tl)(hvc:VR X P (AA A m) m ts.heap c tc){v:PV X.Γ}{H1:List (PB X.Γ)}{qs:List Prop}
  (hl:EZ X P t ps.heap l c=some (v,H1,qs)) (hq:∀q∈qs,q):VZ X P A m ts ((rZ P t ts tl tc).map fun(v,s)=>(v,s,bW)) v H1 xq:=by
 have hr:=hR.heap;unfold EZ at hl;split at hl
 .rename_i e n kl li kc ci zH;obtain⟨hz,h0⟩:=nI zH;rw[O5 hvl,O5 hvc];split at hl
  .rename_i Kt;split at hl
   .rename_i z hzz;obtain⟨z',q1,q2⟩:=Gv (A:=AA A m) (m:=m) (h:=ts.heap) hzz;split at hl
    .rename_i XW;split at hl
     .rename_i a ha;cases hl;have e1:li=ci:=hq _ (by simp);have e2:0<=li:=hq _ (by simp);have e3:li<=(ah:Nat):=hq _ (by simp);subst e1;have hm:li.toNat<=ah:=(by omega);have hm2:ah=2^20:=rfl;have hz2:z'.length=n:=by rw[<-q2.1];exact XW
      have hT:∀w h1,(w,h1)=(TV.slc ts.heap.length 0 li.toNat li.toNat n true,ts.heap++[HB.cells .own (times z' li.toNat)])->(rZ P t ts (.int kl li) (.int kc li)).map (fun(v,s)=>(v,s,bW))=some (w,{ ts with heap:=h1 },bW):=by
       intro w h1 e0;cases e0;have hN:∀k,a1D (.int k li)=some li.toNat:=fun k=>by
        have h9:li<=2^40:=by
         have:((2^20:Nat):Int)<=2^40:=(by decide);rw[hm2]at e3;omega
        simp only[a1D];rw[a0V ⟨e2,h9⟩]
       simp only[rZ,zH,hN,a1J,true_and,nH Kt hm,a2D,q1,hz2,a1z]
      have yC:=Wi (m:=m) (h:=ts.heap) (F:=AA A m) (hX.dec ha q2) hz2 li.toNat;have hlen:(times z' li.toNat).length=li.toNat*n:=(by rw[nT,hz2]);by_cases hn:li.toNat=0
      .rw[hn]at hT ⊢;simp only[List.replicate_zero];have GH:=hr.push (pb:=.list true true e []) (hb:=.cells .own (times z' 0)) (mb:=.dn (.slc ts.heap.length 0 0 0 n true)) (.inr rfl)
         (LR.emp (b:=ts.heap.length) (cs:=times z' 0) ⟨hr.up _ (a1J _),fun hm=>by
          rw[iU,a3y,jS]at hm;simp[MB.own]at hm;have:=hr.inb hm;omega⟩ (by simp[aU]) (a4A _) hz h0)
       exact⟨_,_,_,_,hT _ _ rfl,GH.1,.own (by rw[<-hr.len];simp) rfl,GH.2.1,GH.2.2,.none,fun b hb=>by cases hb⟩
      .obtain⟨m1,g1,g2,g3,g4⟩:=qp hr [] (k:=true) (ex:=true) (x:=true) (rows:=List.replicate li.toNat a) (yC.mono fun b hb=>.inl hb) (by rw[a8D];exact hlen) (by intro e0;exact hn (by simpa using congrArg List.length e0)) hz h0 (by simp);refine⟨_,_,_,m1,hT _ _ rfl,g1,?_,g2,g3,.none,fun b hb=>by cases hb⟩;rw[a8D]at g4;exact g4
     .cases hl
    .cases hl
   .cases hl
  .cases hl
 .cases hl
end
open Go Tw
section
variable {X:kC} {P:Program} {A F:Nat->Prop} {m m':List MB} {h h':List HB} {H H':List (PB X.Γ)}
theorem Af{o:Option (PV X.Γ)}{to:Option TV}(ho:OR X P A m h o to){d n:Nat}{a:Int}(he:yV X d o=some a)(h0:0<=a)(h1:a<=n):jh n d to=some a.toNat:=by
 cases o with
 |none=>
  cases to with
  |none=>simp only[yV,a01]at he;subst he;simp[jh]
  |some=>exact ho.elim
 |some v=>
  cases to with
  |none=>exact ho.elim
  |some x=>
   cases v<;>simp only[yV]at he<;>try (cases he;done)
   cases he;rw[O5 ho];simp only[jh,qG];rw[a0V ⟨h0,h1⟩]
theorem O6{k:IntKind}{n:Int}{to:Option TV}(ho:OR X P A m h (some (.int k n)) to):to=some (.int k n):=by
 cases to with
 |none=>exact ho.elim
 |some x=>rw[O5 ho]
theorem qQ{to:Option TV}(ho:OR X P A m h none to):to=none:=by
 cases to with
 |none=>rfl
 |some x=>exact ho.elim
theorem Lm{v:PV X.Γ}{to:Option TV}(ho:OR X P A m h (some v) to):∃x,to=some x:=by
 cases to with
 |none=>exact ho.elim
 |some x=>exact⟨x,rfl⟩
theorem adJ{t e:TypeId}{b off len cap sz:Nat}{ex:Bool}(hu:P.underlying t=some (.slice e))(hz:dw P e=some sz){lo hi:Option (PV X.Γ)}{Q7 Q8:Option TV}(h1:OR X P A m h lo Q7)(h2:OR X P A m h hi Q8){a z:Int}(e1:yV X 0 lo=some a)(e2:yV X len hi=some z)
  (q0:0<=a) (q1:a<=z) (q2:z<=len):qH P t (.slc b off len cap sz ex) Q7 Q8 none=some (.slc b (off+a.toNat*sz) (z.toNat-a.toNat) (cap-a.toNat) sz ex):=by
 have g1:=Af h1 e1 (n:=z.toNat) q0 (by omega);have g2:=Af h2 e2 (n:=len) (by omega) q2;simp only[qH,hu,hz,a2D,g2,g1]
theorem a98{t e:TypeId}{b off len cap sz:Nat}{ex:Bool}(hu:P.underlying t=some (.slice e))(hz:dw P e=some sz){lo hi:Option (PV X.Γ)}{Q7 Q8:Option TV}(h1:OR X P A m h lo Q7)(h2:OR X P A m h hi Q8){a z:Int}(e1:yV X 0 lo=some a)(e2:yV X len hi=some z)(hs:hi.isSome)
  (q0:0<=a) (q1:a<=z) (q2:z<=len) (vV:len<=cap) {k:IntKind}:qH P t (.slc b off len cap sz ex) Q7 Q8 (some (.int k z))=some (.slc b (off+a.toNat*sz) (z.toNat-a.toNat) (z.toNat-a.toNat) sz true):=by
 have g1:=Af h1 e1 (n:=z.toNat) q0 (by omega);obtain⟨hv,rfl⟩:=a4q.1 hs;obtain⟨x,rfl⟩:=Lm h2;have g3:qG cap (.int k z)=some z.toNat:=by simp only[qG];rw[a0V (by omega)]
 have g2:qG (min z.toNat len) x=some z.toNat:=by
  cases hv<;>simp only[yV]at e2<;>try (cases e2;done)
  cases e2;rw[O5 (show VR X P A m h _ x from h2)];simp only[qG];rw[a0V (by omega)]
 simp only[qH,hu,hz,a2D,g3,g2,g1]
theorem YQ{t e:TypeId}{sz:Nat}(hu:P.underlying t=some (.slice e))(hz:dw P e=some sz){lo hi:Option (PV X.Γ)}{Q7 Q8:Option TV}(h1:OR X P A m h lo Q7)(h2:OR X P A m h hi Q8){a z:Int}(e1:yV X 0 lo=some a)(e2:yV X 0 hi=some z)(q0:a=0)(q1:z=0) :
  qH P t (.nil .slc) Q7 Q8 none=some (.nil .slc)∧∀{k:IntKind},hi.isSome->qH P t (.nil .slc) Q7 Q8 (some (.int k 0))=some (.nil .slc):=by
 subst q0;subst q1;have g1:=Af h1 e1 (n:=0) (by omega) (by omega);have g2:=Af h2 e2 (n:=0) (by omega) (by omega);have g0:jh 0 0 none=some 0:=rfl;refine⟨by simp only[qH,hu,hz,g0,g1,g2];rfl,fun{k} hs=>?_⟩;obtain⟨hv,rfl⟩:=a4q.1 hs;obtain⟨x,rfl⟩:=Lm h2;have g3:jh 0 0 (some (.int k 0))=some 0:=rfl;simp only[qH,hu,hz,g1,g2,g3] ;rfl
theorem N7{ps:aS X.Γ}{ts:St}(hR:uJ X P A m ps ts){t:TypeId}{x:PV X.Γ}{tx:TV}(hx:VR X P (AA A m) m ts.heap x tx){lo hi mx:Option (PV X.Γ)}{Q7 Q8 tmx:Option TV}(h1:OR X P (AA A m) m ts.heap lo Q7)(h2:OR X P (AA A m) m ts.heap hi Q8)(h3:OR X P (AA A m) m ts.heap mx tmx){v:PV X.Γ}{qs:List Prop}
  (hl:YG X P t ps.heap x lo hi mx=some (v,qs)) (hq:∀q∈qs,q):∃w,qH P t tx Q7 Q8 tmx=some w∧VR X P (AA A m) m ts.heap v w:=by
 have hr:=hR.heap;unfold YG at hl;split at hl
 .rename_i e t' l fu hu;split at hl
  .rename_i n a z hz e1 e2;split at hl
   .rename_i ht;subst ht;cases hl;have q0:0<=a:=hq _ (by simp);have q1:a<=z:=hq _ (by simp);have q2:z<=(l.length:Nat):=hq _ (by simp);rw[qQ h3,agt];cases hx with
    |o7=>
     have ea:a=0:=by simp at q2;omega
     have ez:z=0:=by simp at q2;omega
     exact⟨_,(YQ hu hz h1 h2 e1 e2 ea ez).1,by simp only[List.drop_nil,List.take_nil];exact .o7⟩
    |dn p1 p2 p2' p3 p4 p5 p6 p7 p8 p9=>
     rw[hz]at p3;cases p3;exact⟨_,adJ hu hz h1 h2 e1 e2 q0 q1 q2,(VR.dn p1 p2 p2' hz p4 p5 p6 p7 p8 p9).part (by omega) (by omega) (.inr (by omega)) (by simp)⟩
    |gone hi _ _=>simp[bg]at hi
   .cases hl
  .rename_i n a z k mv hz e1 e2;split at hl
   .rename_i ht;obtain⟨ht,AY⟩:=ht;subst ht;split at hl
    .rename_i hfu;subst hfu;cases hl;have q0:a=0:=hq _ (by simp);have q2:z=(l.length:Nat):=hq _ (by simp);have q3:mv=z:=hq _ (by simp);subst q3;subst q0;rw[O6 h3];cases hx with
     |o7=>
      have ez:mv=0:=(by simpa using q2);have:=(YQ hu hz h1 h2 e1 e2 rfl ez).2 (k:=k) AY;exact⟨_,by rw[<-ez]at this;exact this,.o7⟩
     |dn p1 p2 p2' p3 p4 p5 p6 p7 p8 p9=>
      rw[hz]at p3;cases p3;obtain⟨p7a,p7b⟩:=p7 rfl;subst p7a;subst p7b;refine⟨_,a98 hu hz h1 h2 e1 e2 AY (a8Y 0) (by omega) (by omega) p6,?_⟩;subst q2;have:=VR.dn (fu:=true) p1 p2 p2' hz p4 p5 (a1J _) (fun _=>⟨rfl,rfl⟩) p8 p9;simpa using this
     |gone hi _ _=>simp[bg]at hi
    cases hl;have q0:0<=a:=hq _ (by simp);have q1:a<=z:=hq _ (by simp);have q2:z<=(l.length:Nat):=hq _ (by simp);have q3:mv=z:=hq _ (by simp);have q4:a=z:=hq _ (by simp);subst q3;rw[O6 h3,agt];cases hx with
    |o7=>
     have ea:a=0:=by simp at q2;omega
     have ez:mv=0:=by simp at q2;omega
     have:=(YQ hu hz h1 h2 e1 e2 ea ez).2 (k:=k) AY;rw[<-ez]at this;exact⟨_,this,by simp only[List.drop_nil,List.take_nil];exact .o7⟩
    |dn p1 p2 p2' p3 p4 p5 p6 p7 p8 p9=>
     rw[hz]at p3;cases p3;exact⟨_,a98 hu hz h1 h2 e1 e2 AY q0 q1 q2 p6,(VR.dn p1 p2 p2' hz p4 p5 p6 p7 p8 p9).part (by omega) (by omega) (.inl (by omega)) (by simp)⟩
    |gone hi _ _=>simp[bg]at hi
   .cases hl
  .cases hl
 .rename_i e i hu;split at hl
  .rename_i kk ex t' l hb;obtain⟨mb,g1,g2⟩:=hr.at_ i _ hb;cases mb with
   |dn y=>
    cases hx with
    |gone hi e' _=>simp only[bg,a01]at hi;subst hi;rw[g1]at e';cases e'
    |own e' o=>
     rw[g1]at e';cases e';have hlr:LR X P (AA A m) m ts.heap kk ex t' l tx:=g2;split at hl
     .rename_i n a z hz e1 e2;split at hl
      .rename_i ht;subst ht;cases hl;have q0:0<=a:=hq _ (by simp);have q1:a<=z:=hq _ (by simp);have q2:z<=(l.length:Nat):=hq _ (by simp);rw[qQ h3];cases hlr with
       |nil=>
        have ea:a=0:=by simp at q2;omega
        have ez:z=0:=by simp at q2;omega
        refine⟨_,(YQ hu hz h1 h2 e1 e2 ea ez).1,?_⟩;subst ea;subst ez;exact .zZ g1
       |emp p0 p1 p2 p3 p4=>
        rw[hz]at p3;cases p3;exact⟨_,adJ (len:=0) hu hz h1 h2 e1 e2 q0 q1 q2,.win g1 (by simp at q2;omega) (by simp at q2;omega) (.inl (by simp at q2;omega))⟩
       |some p1 p2 p3 p4 p5 p6 p7 p8 p9=>
        rw[hz]at p2;cases p2;exact⟨_,adJ hu hz h1 h2 e1 e2 q0 q1 q2,.win g1 (by omega) (by omega) (.inr (by omega))⟩
      .cases hl
     .rename_i n a z k mv hz e1 e2;split at hl
      .rename_i ht;obtain⟨ht,AY⟩:=ht;subst ht;cases hl;have q0:0<=a:=hq _ (by simp);have q1:a<=z:=hq _ (by simp);have q2:z<=(l.length:Nat):=hq _ (by simp);have q3:mv=z:=hq _ (by simp);have q4:a=z:=hq _ (by simp);subst q3;rw[O6 h3];cases hlr with
       |nil=>
        have ea:a=0:=by simp at q2;omega
        have ez:mv=0:=by simp at q2;omega
        have:=(YQ hu hz h1 h2 e1 e2 ea ez).2 (k:=k) AY;rw[<-ez]at this;refine⟨_,this,?_⟩;subst ea;subst ez;exact .zZ g1
       |emp p0 p1 p2 p3 p4=>
        rw[hz]at p3;cases p3;exact⟨_,a98 (len:=0) hu hz h1 h2 e1 e2 AY q0 q1 q2 (a1J _),.win g1 (by simp at q2;omega) (by omega) (.inl (by omega))⟩
       |some p1 p2 p3 p4 p5 p6 p7 p8 p9=>
        rw[hz]at p2;cases p2;exact⟨_,a98 hu hz h1 h2 e1 e2 AY q0 q1 q2 (a1J _),.win g1 (by omega) (by omega) (.inl (by omega))⟩
      .cases hl
     .cases hl
   |_=>exact g2.elim
  .cases hl
 .rename_i e hu;have:tx=.nil .slc:=by
   cases hx with
   |nil=>rfl
   |gone hi _ _=>simp[bg]at hi
  subst this;split at hl
  .rename_i n a z hz e1 e2;cases hl;have q0:a=0:=hq _ (by simp);have q1:z=0:=hq _ (by simp);rw[qQ h3];exact⟨_,(YQ hu hz h1 h2 e1 e2 q0 q1).1,.nil _⟩
  .rename_i n a z k mv hz e1 e2;split at hl
   .rename_i AY;cases hl;have q0:a=0:=hq _ (by simp);have q1:z=0:=hq _ (by simp);have q2:mv=0:=hq _ (by simp);subst q2;rw[O6 h3];exact⟨_,(YQ hu hz h1 h2 e1 e2 q0 q1).2 AY,.nil _⟩
   .cases hl
  .cases hl
 .cases hl
theorem BO(hX:bK X P){ps:aS X.Γ}{ts:St}(hR:uJ X P A m ps ts){t:TypeId}{x:PE X.Γ}{ex:EV}(hx:I7 X P (AA A m) m ts.heap x ex){lo hi mx:Option (PV X.Γ)}{Q7 Q8 tmx:Option TV}(h1:OR X P (AA A m) m ts.heap lo Q7)(h2:OR X P (AA A m) m ts.heap hi Q8)(h3:OR X P (AA A m) m ts.heap mx tmx){v:PV X.Γ}{H1:List (PB X.Γ)}{qs:List Prop}
  (hl:Ip X P t ps.heap x lo hi mx=some (v,H1,qs)) (hq:∀q∈qs,q):VZ X P A m ts ((qj P t ex Q7 Q8 tmx).map fun v=>(v,ts,bW)) v H1 xq:=by
 have hr:=hR.heap;unfold Ip at hl;split at hl
 .rename_i n e b off lim hu;split at hl
  .rename_i size hz;split at hl
   .cases hl
   .rename_i Kr;split at hl
    .cases hl
    .rw[qQ h3];obtain⟨y,rfl,hy⟩:=fK hx;split at hl
     .split at hl
      .rename_i cs hb;cases hl;rw[qQ h1,qQ h2];obtain⟨mb,g1,g2⟩:=hr.at_ b _ hb;cases mb with
       |fP c=>
        cases hy with
        |gone hi e' _=>simp only[bg,a01]at hi;subst hi;rw[g1]at e';cases e'
        |ptr e'=>
         rw[g1]at e';cases e';exact⟨.slc c off n n size true,ts.heap,bW,m,by simp[qj,hu,hz,Kr,jh],hr,.slc g1,.refl,.refl,.none,fun d hd=>by cases hd⟩
       |_=>exact g2.elim
      .cases hl
     .rename_i Yc wY _;split at hl
      .rename_i cs a z hb e1 e2;split at hl
       .cases hl
       rename_i adE;split at hl
       .rename_i rows is hd;cases hl;have q0:0<=a:=hq _ (by simp);have q1:a<=z:=hq _ (by simp);have q2:z<=(n:Nat):=hq _ (by simp);obtain⟨mb,g1,g2⟩:=hr.at_ b _ hb;cases mb with
        |fP c=>
         obtain⟨cs',g3,g4⟩:=g2;cases hy with
         |gone hi e' _=>simp only[bg,a01]at hi;subst hi;rw[g1]at e';cases e'
         |ptr e'=>
          rw[g1]at e';cases e';have f1:=Af h1 e1 (n:=z.toNat) q0 (by omega);have f2:=Af h2 e2 (n:=n) (by omega) q2;obtain⟨w1,w2⟩:=Ad (m':=bQ (b::is) m) hX hr (g4.drop off) hd;have w3:=w2.2.1;rw[a3D]at w3;have hgo:=hr.aX (b::is);have Q5:=gY (h:=ts.heap) (b::is) m;have hnc:AA A (bQ (b::is) m) c:=by
           refine FA.gone hr (.inr ⟨b,_,a3u,g1,rfl⟩)
          refine⟨.slc c (off+a.toNat*size) (z.toNat-a.toNat) (n-a.toNat) size true,ts.heap,bW,bQ (b::is) m,?_,hgo,?_,Q5.1,Q5.2,.none,fun d hd=>by cases hd⟩
          .have f0:jh n n none=some n:=rfl;simp only[qj,hu,hz,Kr,a3x,f0,f2,f1,Option.isSome_none,Bool.false_and,a2H,a1z]
          .rw[agt];have ahB:VR X P (AA A (bQ (b::is) m)) (bQ (b::is) m) ts.heap (.dn e rows false) (.slc c off rows.length n size true):=by
            refine .dn hnc (by unfold aU;rw[g3]) (fun _=>wz g3 (by simp)) hz (by omega) ?_ (by omega) (by simp) w2.1 (fun j y i d v hj hi hx=>?_)
            .rw[w1,<-g4.1];omega
            .refine(w2.2.2 j y i d v hj hi ?_).mono fun q hq=>FA.gone hr (FA.mono (fun i hi=>a3w _ hi) hq);rw[a3M,<-hx];congr 1;omega
           exact ahB.part (by omega) (by omega) (.inr (by omega)) (by simp)
        |_=>exact g2.elim
       .cases hl
      .cases hl
  .cases hl
 .cases hl
theorem Uc{ps:aS X.Γ}{ts:St}(hR:uJ X P A m ps ts){t:TypeId}{x:PE X.Γ}{ex:EV}(hx:I7 X P (AA A m) m ts.heap x ex){lo hi:Option (PV X.Γ)}{Q7 Q8 tmx:Option TV}(h1:OR X P (AA A m) m ts.heap lo Q7)(h2:OR X P (AA A m) m ts.heap hi Q8)(h3:OR X P (AA A m) m ts.heap none tmx){v:PV X.Γ}
  (hl:F8 X P t ps.heap x lo hi=some v):VZ X P A m ts ((qj P t ex Q7 Q8 tmx).map fun v=>(v,ts,bW)) v ps.heap xq:=by
 have hr:=hR.heap;unfold F8 at hl;split at hl
 .rename_i n e b off lim hu;split at hl
  .rename_i size cs a z hz hb e1 e2;split at hl
   .cases hl
   .rename_i Kr;split at hl
    .rename_i hq;cases hl;rw[qQ h3];obtain⟨y,rfl,hy⟩:=fK hx;obtain⟨mb,g1,g2⟩:=hr.at_ b _ hb;cases mb with
     |fP c=>
      cases hy with
      |gone hi e' _=>simp only[bg,a01]at hi;subst hi;rw[g1]at e';cases e'
      |ptr e'=>
       rw[g1]at e';cases e';have f1:=Af h1 e1 (n:=z.toNat) hq.1 (by omega);have f2:=Af h2 e2 (n:=n) (by omega) hq.2.2;refine⟨.slc c (off+a.toNat*size) (z.toNat-a.toNat) (n-a.toNat) size true,ts.heap,bW,m,?_,hr,.slc g1,.refl,.refl,.none,fun d hd=>by cases hd⟩;have f0:jh n n none=some n:=rfl;simp only[qj,hu,hz,Kr,a3x,f0,f2,f1,Option.isSome_none,Bool.false_and,a2H,a1z]
     |_=>exact g2.elim
    .cases hl
  .cases hl
 .cases hl
end
open Go Tw
section
variable {X:kC} {P:Program} {A B F:Nat->Prop} {m m':List MB} {h h':List HB} {H H':List (PB X.Γ)}
theorem vI:∀{vs:List (PV X.Γ)} {i:Nat} {v:PV X.Γ},xk.Gl vs=false->vs[i]? = some v->xk v=false
 | [],_,_,_,h=>by simp at h
 |a::vs,i,v,hc,h=>by
  simp only[xk.Gl,a99]at hc;cases i with
  |zero=>simp only[a2I,a01]at h;subst h;exact hc.1
  |succ i=>exact vI hc.2 (by simpa using h)
theorem sJ{k:Nat}:∀{vs:List (PV X.Γ)} {i:Nat} {v:PV X.Γ},(shift.shifts k vs)[i]? = some v->∃u,vs[i]? = some u∧v=shift k u
 | [],_,_,h=>by simp[shift.shifts]at h
 |a::vs,i,v,h=>by
  cases i with
  |zero=>simp only[shift.shifts,a2I,a01]at h;exact⟨a,rfl,h.symm⟩
  |succ i=>obtain⟨u,h1,h2⟩:=sJ (vs:=vs) (i:=i) (by simpa[shift.shifts]using h);exact⟨u,by simpa using h1,h2⟩
theorem sK{k:Nat}:∀{vs:List (PV X.Γ)},(shift.shifts k vs).length=vs.length
 | []=>rfl
 |a::vs=>by simp[shift.shifts,sK (vs:=vs)]
theorem YR{k i:Nat}{v:PV X.Γ}(h:bg v=some i):bg (shift k v)=some (i+k):=by
 cases v<;>simp[bg]at h<;>subst h<;>rfl
theorem VR.shift(hX:bK X P){m0:List MB}{v:PV X.Γ}{x:TV}(hv:VR X P A m h v x)(hq:(∀b,A b->B b)∨xk v=false):VR X P B (m0++m) h (Pv.shift m0.length v) x:=by
 have at':∀{i:Nat} {mb:MB},m[i]? = some mb->(m0++m)[i+m0.length]? = some mb:=by
  intro i mb hi;rw[a1H (by omega)];simpa using hi
 induction hv with
 |bool=>exact .bool _
 |lit=>exact .lit _
 |int=>exact .int _ _
 |str=>exact .str _
 |nil=>exact .nil _
 |ptr e=>exact .ptr (at' e)
 |slc e=>exact .slc (at' e)
 |own e o=>exact .own (at' e) o
 |win e q q' q2=>exact .win (at' e) q q' q2
 |zZ e=>exact .zZ (at' e)
 |map e=>exact .map (at' e)
 |iter e=>exact .iter (at' e)
 |fn h1 _ h3 _ i2 i4=>
  refine .fn (by rw[sK,h1]) (fun i x y hx hy=>?_) (by rw[sK,h3]) (fun i x y hx hy=>?_)
  .obtain⟨u,g1,rfl⟩:=sJ hx;exact i2 i u y g1 hy (hq.imp_right fun hq=>by simp only[xk,a99]at hq;exact vI hq.1 g1)
  obtain⟨u,g1,rfl⟩:=sJ hx;exact i4 i u y g1 hy (hq.imp_right fun hq=>by simp only[xk,a99]at hq;exact vI hq.2 g1)
 |jZ e=>exact .jZ (at' e)
 |agg h1 _ i2=>
  refine .agg (by rw[sK,h1]) (fun i x y hx hy=>?_);obtain⟨u,g1,rfl⟩:=sJ hx;exact i2 i u y g1 hy (hq.imp_right fun hq=>by simp only[xk]at hq;exact vI hq g1)
 |dG h1 _ i2=>
  refine .dG (by rw[sK,h1]) (fun i x y hx hy=>?_);obtain⟨u,g1,rfl⟩:=sJ hx;exact i2 i u y g1 hy (hq.imp_right fun hq=>by simp only[xk]at hq;exact vI hq g1)
 |o7=>exact .o7
 |dn a c c2 s z o k f e r _=>
  rcases hq with hq|hq
  .exact .dn (hq _ a) c c2 s z o k f e fun j y i d v h1 h2 h3=>((r j y i d v h1 h2 h3).mono hq).iY hX (eX (hX.iY _ _) h2)
  simp[xk]at hq
 |el a c l o e q r _=>
  rcases hq with hq|hq
  .exact .el (hq _ a) c l o e q fun i d v h1 h2=>((r i d v h1 h2).mono hq).iY hX (eX (hX.iY _ _) h1)
  simp[xk]at hq
 |row e j q=>exact .row (at' e) j q
 | @gone v i x hi e o=>
  have e':(m0++m)[i+m0.length]? = m[i]?:=by rw[a1H (by omega)];congr 1;omega
  exact .gone (YR hi) (by rw[e'];exact e.as fun c=>by cases v<;>rfl) o
theorem bU.shift(hX:bK X P){m0:List MB}{v:List (PV X.Γ)}{x:List TV}(hv:bU X P A m h v x)(hq:(∀b,A b->B b)∨xk.Gl v=false):bU X P B (m0++m) h (Pv.shift.shifts m0.length v) x:=by
 refine⟨by rw[sK,hv.1],fun i a b ha hb=>?_⟩;obtain⟨u,g1,rfl⟩:=sJ ha;exact(hv.2 i u b g1 hb).shift hX (hq.imp_right fun hq=>vI hq g1)
theorem BR.shift(hX:bK X P){m0:List MB}{b b':PB X.Γ}{mb:MB}(hb:BR X P A m h b mb)(hs:EX X m0.length b=some b')(hq:(∀c,A c->B c)∨hasB X b=false):BR X P B (m0++m) h b' mb:=by
 cases b with
 |cells cs=>
  cases mb with
  |fP c=>
   simp only[EX,a01]at hs;subst hs;obtain⟨cs',h1,h2⟩:=hb;exact⟨cs',h1,h2.shift hX hq⟩
  |_=>exact hb.elim
 |list k ex t l=>
  cases mb with
  |dn y=>
   simp only[EX,a01]at hs;subst hs;rcases hq with hq|hq
   .cases(hb:LR X P A m h k ex t l y)with
    |nil=>exact LR.nil
    |emp p0 p1 p2 p3 p4=>exact LR.emp (hq _ p0) p1 p2 p3 p4
    |some p1 p2 p3 p4 p5 p6 p7 p8 p9=>exact LR.some p1 p2 p3 p4 p5 p6 p7 p8 ((p9.mono hq).iY hX)
   simp[hasB]at hq
  |_=>exact hb.elim
 |gone=>
  cases mb with
  |gone=>simp only[EX,a01]at hs;subst hs;trivial
  |_=>exact hb.elim
 |_=>simp[EX]at hs
theorem JF{k:Nat}:∀{bs bs':List (PB X.Γ)} {i:Nat} {b':PB X.Γ},qN X k bs=some bs'->bs'[i]? = some b'->∃b,bs[i]? = some b∧EX X k b=some b'
 | [],bs',i,b',h,hi=>by simp only[qN,a01]at h;subst h;simp at hi
 |b::bs,bs',i,b',h,hi=>by
  simp only[qN]at h;split at h
  .rename_i c cs h1 h2;cases h;cases i with
   |zero=>simp only[a2I,a01]at hi;subst hi;exact⟨b,rfl,h1⟩
   |succ i=>obtain⟨d,g1,g2⟩:=JF h2 (i:=i) (by simpa using hi);exact⟨d,by simpa using g1,g2⟩
  cases h
theorem JG{k:Nat}:∀{bs bs':List (PB X.Γ)},qN X k bs=some bs'->bs'.length=bs.length
 | [],bs',h=>by simp only[qN,a01]at h;subst h;rfl
 |b::bs,bs',h=>by
  simp only[qN]at h;split at h
  .rename_i c cs h1 h2;cases h;simp[JG h2]
  cases h
def nR(X:kC)(P:Program)(call:aY)(f:FuncId)(vs:List (PV X.Γ))(v:PV X.Γ)(ext:List (PB X.Γ)):Prop:=
 ∀(A:Nat->Prop) (h:List HB) (first args cap:List TV),(∀b,h.length<=b->A b)->bU X P A [] h vs (first++args++cap) ->
  ∃w h' m',call (.fn f first cap) args h=some (w,h',[])∧HR X P A m' ext h'∧VR X P (AA A m') m' h' v w∧Fr [] h m' h'
theorem GI(hX:bK X P){call:aY}{f:FuncId}{first xs cap vs:List (PV X.Γ)}{v:PV X.Γ}{ext ext':List (PB X.Γ)}(hc:nR X P call f vs v ext)(hr:HR X P A m H h)(hv:views H (first++xs++cap)=some vs)(hs:qN X H.length ext=some ext')
  {t1 t2 t3:List TV} (h1:bU X P (AA A m) m h first t1) (h2:bU X P (AA A m) m h xs t2) (h3:bU X P (AA A m) m h cap t3) :
  ∃w h' m1,call (.fn f t1 t3) t2 h=some (w,h',[])∧HR X P A m1 ((if xk v||ext.any (hasB X)then aX (kF.jR (first++xs++cap)) H else H)++ext') h'∧VR X P (AA A m1) m1 h' (shift H.length v) w∧Fr m h m1 h'∧Up m m1:=by
 have ZJ:=kU (m':=[]) hX hr ((h1.app h2).app h3) hv (is:=kF.jR (first++xs++cap)) fun i hi=>hi;generalize kF.jR (first++xs++cap)=is at ZJ ⊢;obtain⟨w,h',m',c1,c2,c3,c4⟩:=hc (fun b=>FA A m is b∨h.length<=b) h t1 t2 t3 (fun b hb=>.inr hb) (ZJ.mono fun b hb=>.inl hb);have hold:∀b,b<h.length->h'[b]? = h[b]?:=fun b hb=>c4.same b hb (by simp[bn]);have gQ:∀b,b∈bn m'->h.length<=b:=fun b hb=>by
  rcases c4.new b hb with h0|h0
  .simp[bn]at h0
  .exact h0
 have key:∀(m0:List MB) (H0:List (PB X.Γ)),HR X P A m0 H0 h->Fr m h m0 h->Up m m0->m0.length=H.length->((∀b,FA A m is b->AA A m0 b)∨(xk v||ext.any (hasB X))=false) ->
   ∃m1,HR X P A m1 (H0++ext') h'∧VR X P (AA A m1) m1 h' (shift H.length v) w∧Fr m h m1 h'∧Up m m1:=by
  intro m0 H0 YS hF0 hU0 qC hq;have hF:Fr m0 h (m0++m') h':=by
   refine⟨c4.len,fun b hb _=>hold b hb,fun b hb=>?_,fun b cs hc=>⟨cs,by rw[fJ (hold b (gu hc)),hc],a1J _⟩⟩;rw[iU,a3y]at hb;exact hb.imp_right fun hb=>gQ b hb
  have hA:(∀b,AA (fun b=>FA A m is b∨h.length<=b) m' b->AA A (m0++m') b)∨(xk v||ext.any (hasB X))=false:=by
   refine hq.imp_left fun hq b hb=>?_;refine⟨?_,fun hm=>?_⟩
   .rcases hb.1 with h0|h0
    .exact(hq b h0).1
    .exact hr.up b h0
   .rw[iU,a3y]at hm;rcases hm with hm|hm
    .rcases hb.1 with h0|h0
     .exact(hq b h0).2 hm
     .have:=YS.inb hm;omega
    .exact hb.2 hm
  refine⟨m0++m',?_,?_,hF0.trans hF,hU0.trans (wB _)⟩
  .refine YS.next hF (wB _) (by rw[a2m,a2m,YS.len,JG hs,c2.len]) ?_ fun i b hi=>?_
   .rw[iU];refine a8l.2 ⟨YS.nodup,c2.nodup,fun a ha b hb e=>?_⟩;subst e;have:=YS.inb ha;have:=gQ a hb;omega
   .rcases a3L i H0.length with aQ|Eh
    .left;rw[a0N aQ]at hi;obtain⟨mb,g1,g2⟩:=YS.at_ i b hi;exact⟨mb,hi,g1,by rw[a0N (by rw[YS.len];exact aQ)];exact g1,fun c hc=>hold c (g2.has hc)⟩
    .right;rw[a1H Eh]at hi;obtain⟨b0,g1,g2⟩:=JF hs hi;obtain⟨mb,g3,g4⟩:=c2.at_ _ _ g1;refine⟨mb,by rw[a1H (by rw[YS.len];exact Eh),YS.len];exact g3,?_⟩;rw[<-qC]at g2;refine g4.shift hX g2 (hA.imp_right fun hq=>?_);simp only[a99,List.any_eq_false]at hq;simpa using hq.2 b0 (a4b g1)
  .rw[<-qC];exact c3.shift hX (hA.imp_right fun hq=>by simp only[a99]at hq;exact hq.1)
 refine⟨w,h',?_⟩;by_cases hL:(xk v||ext.any (hasB X))=true
 .rw[a0V hL];obtain⟨m1,e1,e2,e3,e4⟩:=key (bQ is m) (aX is H) (hr.aX is) (gY (h:=h) is m).1 (gY (h:=h) is m).2 (by rw[lS,hr.len]) (.inl fun b hb=>hb.gone hr);exact⟨m1,c1,e1,e2,e3,e4⟩
 .rw[a0S hL];obtain⟨m1,e1,e2,e3,e4⟩:=key m H hr .refl .refl hr.len (.inr (by simpa using hL));exact⟨m1,c1,e1,e2,e3,e4⟩
end
open Go Tw
section
variable {X:kC} {P:Program} {A B F:Nat->Prop} {m m':List MB} {h h':List HB} {H H':List (PB X.Γ)}
def aV(X:kC)(P:Program)(call:aY):a2k X.Γ:=fun fv xs H v H1=>
 ∀(A:Nat->Prop) (m:List MB) (h:List HB) (tf:TV) (rO:List TV),HR X P A m H h->VR X P (AA A m) m h fv tf->bU X P (AA A m) m h xs rO ->
  ∃w h1 ws m1,call tf rO h=some (w,h1,ws)∧HR X P A m1 H1 h1∧VR X P (AA A m1) m1 h1 v w∧Fr m h m1 h1∧Up m m1∧∀b∈ws,b∈bn m
def jo(X:kC)(P:Program)(call:aY)(fH:eU X.Γ):Prop:=∀f vs v ext ps,fH f vs=some (v,ext,ps)->(∀p∈ps,p)->nR X P call f vs v ext
theorem uq{ρ:Type}{y:ρ}:∀{ps:List Prop} {x:OT ρ},(owe ps x).Ends y->(∀p∈ps,p)∧x.Ends y
 | [],x,h=>⟨by simp,h⟩
 |p::ps,x,h=>by
  have:=uq h.2;exact⟨fun q hq=>by rcases a2t.1 hq with rfl|hq;exact h.1;exact this.1 q hq,this.2⟩
theorem YT{ρ:Type}{y:ρ}{u:PV X.Γ}{an:PT X.Γ}{k:Bool->PT X.Γ->OT ρ}(hk:(byB X u an k).Ends y){tu:TV}(hu:VR X P A m h u tu):∃t GK,tu=.bool t∧(k t GK).Ends y:=by
 cases u with
 |lit b=>
  have:tu=.bool b:=by
   cases hu with
   |lit=>rfl
   |gone hi _ _=>simp[bg]at hi
  exact⟨b,an,this,hk⟩
 |bool b=>
  have hb:tu=.bool b:=by
   cases hu with
   |bool=>rfl
   |gone hi _ _=>simp[bg]at hi
  subst hb;cases an with
  |s x z=>
   rcases hk with⟨h1,h2⟩|⟨h1,h2⟩
   .subst h1;exact⟨true,x,rfl,h2⟩
   subst h1;exact⟨false,z,rfl,h2⟩
  |a x r=>
   cases x with
   |br t=>obtain⟨h1,h2⟩:=hk;subst h1;exact⟨_,r,rfl,h2⟩
   |_=>exact hk.elim
  |_=>exact hk.elim
 |_=>exact hk.elim
theorem qR:∀{es:List (PV X.Γ×PV X.Γ)} {fO:List (TV×TV)} {ks:List TV},es.length=fO.length->(∀(i:Nat) x y,es[i]? = some x->fO[i]? = some y->VR X P A m h x.1 y.1∧VR X P A m h x.2 y.2)->uP X es=some ks->fO.map (·.1)=ks
 | [],fO,ks,hl,_,hk=>by
  simp only[uP,a01]at hk;subst hk;cases fO with
  |nil=>rfl
  |cons=>simp at hl
 |(k,v)::es,fO,ks,hl,he,hk=>by
  cases fO with
  |nil=>simp at hl
  |cons y fO=>
   simp only[uP]at hk;split at hk
   .rename_i a b h1 h2;cases hk;have:=jE (he 0 _ _ rfl rfl).1 h1;simp only[a3K,this];rw[qR (by simpa using hl) (fun i x z hx hz=>he (i+1) x z (by simpa using hx) (by simpa using hz)) h2]
   cases hk
theorem Wj:∀{ks:List TV} {vs:List Value},Bh ks=some vs->vs.length=ks.length
 | [],vs,h=>by simp only[Bh,a01]at h;subst h;rfl
 |k::ks,vs,h=>by
  simp only[Bh]at h;split at h
  .rename_i v ws _ h2;cases h;simp[Wj h2]
  cases h
theorem oW{kt:TypeId}{k:Value}{fO:List (TV×TV)}:Ed P kt k fO=uQ P kt k (fO.map (·.1)):=by
 unfold Ed uQ;cases hv:Bh (fO.map (·.1))with
 |none=>rfl
 |some vs=>
  have hl:=Wj hv;have:fO.isEmpty=vs.isEmpty:=by
   cases fO<;>cases vs<;>simp at hl<;>rfl
  simp only[this]<;>rfl
def Ro:TV->List Key
 |.map r=>[.h r]
 |_=>[]
def a2p(h:List HB):TV->Option (List (TV×TV))
 |.nil .map=>some []
 |.map r=>match h[r]? with
  |some (.map es)=>some es
  |_=>none
 |_=>none
theorem JH{t:TypeId}{h:List HB}{tm tk:TV}{ok:Bool}{kt e:TypeId}{kv:Value}{es:List (TV×TV)}(hu:P.underlying t=some (.map kt e))(hk:tk.yt=some kv)(he:a2p h tm=some es) :
  gK P t h tm tk ok=match Ed P kt kv es with
   |some (some i)=>match es[i]? with
    |some (_,v)=>some (if ok then .dG [v,.bool true]else v)
    |none=>none
   |some none=>match P.info? e with
    |some i=>match i.zero with
     |some z=>(TV.V5 z).map fun z=>if ok then .dG [z,.bool false]else z
     |none=>none
    |none=>none
   |none=>none:=by
 unfold gK;simp only[hu,hk];cases tm with
 |nil k=>
  cases k<;>simp only[a2p]at he<;>try (cases he;done)
  cases he;rfl
 |map r=>
  simp only[a2p]at he;split at he
  .rename_i es0 hb;cases he;simp only[hb];rfl
  .cases he
 |_=>simp[a2p]at he
theorem CB{H:List (PB X.Γ)}{h:List HB}(hr:HR X P A m H h){r:Nat}{es:List (PV X.Γ×PV X.Γ)}(he:JD X H r=some es):∃c fO,(m[r]? = some (.fP c)∨(m[r]? = some (.jc c)∧c∉bn m))∧h[c]? = some (.map fO)∧es.length=fO.length ∧
  ∀(i:Nat) x y,es[i]? = some x->fO[i]? = some y->pJ x.1=some y.1∧pJ x.2=some y.2:=by
 unfold JD at he;split at he
 .rename_i es0 hb;cases he;obtain⟨mb,g1,g2⟩:=hr.at_ r _ hb;cases mb with
  |fP c=>obtain⟨fO,g3,g4,g5⟩:=g2;exact⟨c,fO,.inl g1,g3,g4,g5⟩
  |_=>exact g2.elim
 .rename_i es0 hb;cases he;obtain⟨mb,g1,g2⟩:=hr.at_ r _ hb;cases mb with
  |jc c=>obtain⟨g0,fO,g3,g4,g5⟩:=g2;exact⟨c,fO,.inr ⟨g1,g0⟩,g3,g4,g5⟩
  |_=>exact g2.elim
 .cases he
theorem a0C{B:Nat->Prop}{h:List HB}{r c:Nat}{tm:TV}(hm:VR X P B m h (.map r) tm)(hc:m[r]? = some (.fP c)∨(m[r]? = some (.jc c)∧c∉bn m)):tm=.map c:=by
 cases hm with
 |map e=>
  rcases hc with h|⟨h,_⟩<;>rw[h]at e<;>cases e
  rfl
 |gone hi e _=>
  simp only[bg,a01]at hi;subst hi;rcases hc with h|⟨h,_⟩<;>rw[h]at e
  .cases e
  cases e with
  |r c hv=>simp only[roV,a01]at hv;exact hv.symm
theorem Rq{r c:Nat}{ks:List Key}(hc:m[r]? = some (.fP c)∨(m[r]? = some (.jc c)∧c∉bn m)):(∃i,Key.h i∈Key.h r::ks∧Gx m i c)∨c∉bn m:=by
 rcases hc with h|⟨_,h⟩
 .exact .inl ⟨r,by simp,iK h rfl⟩
 exact .inr h
theorem adK{ps:aS X.Γ}{ts:St}(hR:uJ X P A m ps ts){mv:PV X.Γ}{tm:TV}(hm:VR X P (AA A m) m ts.heap mv tm){es:List (PV X.Γ×PV X.Γ)}(he:a5c X ps.heap mv=some es) :
  ∃fO,a2p ts.heap tm=some fO∧es.length=fO.length∧(∀(i:Nat) x y,es[i]? = some x->fO[i]? = some y->VR X P (AA A m) m ts.heap x.1 y.1∧VR X P (AA A m) m ts.heap x.2 y.2) ∧
   IR m ts.heap ⟨gU (QX X mv),false,false,true⟩ (gU (Ro tm)):=by
 cases mv with
 |nil k=>
  cases hm with
  |nil=>
   cases k<;>simp only[a5c]at he<;>try (cases he;done)
   cases he;exact⟨[],rfl,rfl,fun i x y hx=>by simp at hx,IR.reads rfl (by simp[Ro]) (by simp[Ro])⟩
  |gone hi _ _=>simp[bg]at hi
 |map r=>
  simp only[a5c]at he;obtain⟨c,fO,g0,g3,g4,g5⟩:=CB hR.heap he;have htm:=a0C hm g0;subst htm;refine⟨fO,by simp only[a2p,g3],g4,fun i x y e1 e2=>⟨nD (g5 i x y e1 e2).1,nD (g5 i x y e1 e2).2⟩,IR.reads rfl (fun b hb=>?_) (by simp[Ro])⟩;simp[Ro]at hb;subst hb;exact⟨Rq g0,(a02.1 g3).1⟩
 |_=>simp[a5c]at he
theorem Lr{a b:PV X.Γ}{x y:TV}(h1:VR X P A m h a x)(h2:VR X P A m h b y):VR X P A m h (.dG [a,b]) (.dG [x,y]):=by
 have:=(bU.nil (X:=X) (P:=P) (A:=A) (m:=m) (h:=h)).cons h2 |>.cons h1
 exact .dG this.1 this.2
theorem Wn{e:TypeId}{z:PV X.Γ}(h:NT X P e=some z):∃i z0 z1,P.info? e=some i∧i.zero=some z0∧TV.V5 z0=some z1∧Y0 z1=some z:=by
 unfold NT at h;split at h
 .rename_i i hi;split at h
  .rename_i z0 hz0;split at h
   .rename_i z1 hz1;exact⟨i,z0,z1,hi,hz0,hz1,h⟩
   cases h
  cases h
 cases h
theorem a9c{ρ:Type}{y:ρ}{ps:aS X.Γ}{ts:St}(hR:uJ X P A m ps ts){t:TypeId}{mv kv:PV X.Γ}{tm tk:TV}(hm:VR X P (AA A m) m ts.heap mv tm)(hk:VR X P (AA A m) m ts.heap kv tk){ok:Bool}{an:PT X.Γ}{c:PE X.Γ->PI->PT X.Γ->OT ρ}
  (hl:(YK X P t ps mv kv ok an c).Ends y):∃v pi GK w,gK P t ts.heap tm tk ok=some w∧VR X P (AA A m) m ts.heap v w∧(c (.val v) pi GK).Ends y∧IR m ts.heap pi (gU (Ro tm)):=by
 unfold YK at hl;split at hl
 .rename_i kt e tk' es hu htk KP;have:=jE hk htk;subst this;obtain⟨fO,f1,f2,f3,f4⟩:=adK hR hm KP;have fnd:∀{xu ks j k0 v},tk.yt=some xu->uP X es=some ks->uQ P kt xu ks=some (some j)->es[j]? = some (k0,v)->∃w,gK P t ts.heap tm tk ok=some w∧VR X P (AA A m) m ts.heap (if ok then .dG [v,.bool true]else v) w:=by
   intro xu ks j k0 v O7 En O8 hj;have rW:=qR f2 f3 En;have aQ:j<fO.length:=by rw[<-f2];exact(a02.1 hj).1
   have Ei:=a0E aQ;have hv:=(f3 j _ _ hj Ei).2;refine⟨(if ok then .dG [fO[j].2,.bool true]else fO[j].2),?_,?_⟩
   .rw[JH hu O7 f1];simp only[oW,rW,O8,Ei]
   .cases ok with
    |true=>exact Lr hv (.bool _)
    |false=>exact hv
  have non:∀{xu ks z},tk.yt=some xu->uP X es=some ks->uQ P kt xu ks=some none->NT X P e=some z->∃w,gK P t ts.heap tm tk ok=some w∧VR X P (AA A m) m ts.heap (if ok then .dG [z,.bool false]else z) w:=by
   intro xu ks z O7 En O8 hz;have rW:=qR f2 f3 En;obtain⟨i,z0,z1,hi,hz0,hz1,hz2⟩:=Wn hz;refine⟨(if ok then .dG [z1,.bool false]else z1),?_,?_⟩
   .rw[JH hu O7 f1];simp only[oW,rW,O8,hi,hz0,hz1,a1z]
   .cases ok with
    |true=>exact Lr (wC hz2) (.bool _)
    |false=>exact wC hz2
  split at hl
  .obtain⟨⟨xu,ks,j,k0,g1,g2,g3,g4⟩,hl⟩:=hl;obtain⟨w,w1,w2⟩:=fnd g1 g2 g3 g4;exact⟨_,_,_,w,w1,w2,hl,f4⟩
  .split at hl
   .rename_i z hz;obtain⟨⟨xu,ks,g1,g2,g3⟩,hl⟩:=hl;obtain⟨w,w1,w2⟩:=non g1 g2 g3 hz;exact⟨_,_,_,w,w1,w2,hl,f4⟩
   .exact hl.elim
  .split at hl
   .rename_i z hz;obtain⟨⟨xu,ks,g1,g2,g3⟩,hl⟩:=hl;obtain⟨w,w1,w2⟩:=non g1 g2 g3 hz;exact⟨_,_,_,w,w1,w2,hl,f4⟩
   .exact hl.elim
  .split at hl
   .rename_i xu ks O7 En;split at hl
    .rename_i j r _ _;split at hl
     .rename_i k0 v hj;obtain⟨O8,hl⟩:=hl;obtain⟨w,w1,w2⟩:=fnd O7 En O8 hj;exact⟨_,_,_,w,w1,w2,hl,f4⟩
     .exact hl.elim
    .split at hl
     .rename_i z hz;obtain⟨O8,hl⟩:=hl;obtain⟨w,w1,w2⟩:=non O7 En O8 hz;exact⟨_,_,_,w,w1,w2,hl,f4⟩
     .exact hl.elim
    .exact hl.elim
   .exact hl.elim
 .exact hl.elim
theorem a2q{x:TV}{v:PV X.Γ}(h:ZG x=some v):qM v=some x:=by
 cases x<;>simp only[ZG,a01,reduceCtorEq]at h<;>subst h<;>rfl
theorem O9:∀{x:List TV} {v:List (PV X.Γ)},BF x=some v->iF v=some x
 | [],v,h=>by cases h;rfl
 |a::l,v,h=>by
  simp only[BF]at h;split at h
  .rename_i b bs h1 h2;cases h;simp only[iF,a2q h1,O9 h2]
  cases h
theorem a9d{x:TV}{v:PV X.Γ}(h:Y0 x=some v):pJ v=some x:=by
 cases x
 case agg cs=>
  simp only[Y0,a0D]at h;obtain⟨w,h1,rfl⟩:=h;simp only[pJ,O9 h1,a1z]
 all_goals
  simp only[Y0,ZG,a01,reduceCtorEq]at h
  try subst h
  try rfl
theorem YU{ps:aS X.Γ}{ts:St}(hR:uJ X P A m ps ts){r cb:Nat}{es0:List (TV×TV)}(g1:m[r]? = some (.fP cb))(f1:ts.heap[cb]? = some (.map es0))(en:List (PV X.Γ×PV X.Γ))(en':List (TV×TV))(h1:en.length=en'.length)
  (h2:∀(i:Nat) x y,en[i]? = some x->en'[i]? = some y->pJ x.1=some y.1∧pJ x.2=some y.2) :
  uJ X P A m { ps with heap:=ps.heap.set r (.map en) } { ts with heap:=ts.heap.set cb (.map en') }∧Fr m ts.heap m (ts.heap.set cb (.map en')):=by
 have aQ:=(a02.1 f1).1;obtain⟨q1,q2⟩:=hR.heap.set (pb:=.map en) (hb:=.map en') g1 (c:=cb) rfl (fun cs hc=>by simp[aU,f1]at hc) fun hF=>⟨en',by simp[aQ],h1,h2⟩;exact⟨hR.step q1 q2 .refl,q2⟩
theorem Rt{es:List (PV X.Γ×PV X.Γ)}{fO:List (TV×TV)}(f2:es.length=fO.length)(f3:∀(i:Nat) x y,es[i]? = some x->fO[i]? = some y->pJ x.1=some y.1∧pJ x.2=some y.2){k v:PV X.Γ}{tk tv:TV}(h1:pJ k=some tk)(h2:pJ v=some tv) :
  ∀(i:Nat) x y,(es++[(k,v)])[i]? = some x->(fO++[(tk,tv)])[i]? = some y->pJ x.1=some y.1∧pJ x.2=some y.2:=fun i a b ha qA=>by
 rcases a3L i es.length with aQ|Eh
 .rw[a0N aQ]at ha;rw[a0N (by rw[<-f2];exact aQ)]at qA;exact f3 i a b ha qA
 .rw[a1H Eh]at ha;rw[a1H (by rw[<-f2];exact Eh),<-f2]at qA;cases hx:i-es.length with
  |zero=>
   rw[hx]at ha qA;simp only[a2I,a01]at ha qA;subst ha;subst qA;exact⟨h1,h2⟩
  |succ n=>rw[hx]at ha;simp at ha
theorem a5r{ps:aS X.Γ}{ts:St}(hR:uJ X P A m ps ts){r:Nat}{es:List (PV X.Γ×PV X.Γ)}{tm:TV}(hb:ps.heap[r]? = some (.map es))(hm:VR X P (AA A m) m ts.heap (.map r) tm) :
  ∃cb fO,tm=.map cb∧m[r]? = some (.fP cb)∧ts.heap[cb]? = some (.map fO)∧es.length=fO.length∧∀(i:Nat) x y,es[i]? = some x->fO[i]? = some y->pJ x.1=some y.1∧pJ x.2=some y.2:=by
 obtain⟨mb,g1,g2⟩:=hR.heap.at_ r _ hb;cases mb with
 |fP cb=>
  obtain⟨fO,f1,f2,f3⟩:=g2;cases hm with
  |gone hi e' _=>simp only[bg,a01]at hi;subst hi;rw[g1]at e';cases e'
  |map e'=>rw[g1]at e';cases e';exact⟨cb,fO,rfl,g1,f1,f2,f3⟩
 |_=>exact g2.elim
theorem a9e{ρ:Type}{y:ρ}{ps:aS X.Γ}{ts:St}(hR:uJ X P A m ps ts){t:TypeId}{mv kv:PV X.Γ}{tm tk:TV}(hm:VR X P (AA A m) m ts.heap mv tm)(hk:VR X P (AA A m) m ts.heap kv tk){an:PT X.Γ}{c:PE X.Γ->aS X.Γ->PI->PT X.Γ->OT ρ}
  (hl:(a5f X P t ps mv kv an c).Ends y):∃e e' ps1 pi GK h1 ti,BI P t ts tm tk=some (e',{ ts with heap:=h1 },ti)∧I7 X P (AA A m) m h1 e e'∧uJ X P A m ps1 { ts with heap:=h1 }∧Fr m ts.heap m h1∧(c e ps1 pi GK).Ends y∧IR m ts.heap pi ti∧∀b,.h b∈ti.ws->b∈bn m:=by
 unfold a5f at hl;split at hl
 .rename_i kt e tk' r hu htk;have:=jE hk htk;subst this;split at hl
  .rename_i es hb;obtain⟨cb,fO,rfl,g1,f1,f2,f3⟩:=a5r hR hb hm;have f3v:∀(i:Nat) x y,es[i]? = some x->fO[i]? = some y->VR X P (AA A m) m ts.heap x.1 y.1∧VR X P (AA A m) m ts.heap x.2 y.2:=fun i x y e1 e2=>⟨nD (f3 i x y e1 e2).1,nD (f3 i x y e1 e2).2⟩;have aQ:=(a02.1 f1).1;split at hl
   .rename_i v _ j rest;split at hl
    case h_2=>exact hl.elim
    rename_i va vx;obtain⟨⟨xu,ks,old,ov,O7,c1,En,c2,hj,hold,hov,c3⟩,hl⟩:=hl;have rW:=qR f2 f3v En;have Ei:j<fO.length:=by rw[<-f2];exact(a02.1 hj).1
    have V7:=a0E Ei;have hy1:(fO[j]).1=old:=by
     have:(fO.map (·.1))[j]? = some (fO[j]).1:=by rw[a3V,V7];rfl
     rw[rW,hold]at this;exact(a8x this).symm
    have htv:=(f3 j _ _ hj V7).2;obtain⟨w1,w2⟩:=YU hR g1 f1 es (fO.set j (tk,(fO[j]).2)) (by simp[f2]) fun i a b ha qA=>by
     by_cases e:j=i
     .subst e;rw[a3N,V7]at qA;rw[hj]at ha;cases ha;cases qA;exact⟨htk,htv⟩
     .rw[a1M e]at qA;exact f3 i a b ha qA
    have EM:ps.heap.set r (.map es)=ps.heap:=by
     refine a9h fun i=>?_;by_cases e:r=i
     .subst e;rw[a1V (a02.1 hb).1,hb]
     .rw[a1M e]
    rw[EM]at w1;refine⟨.ent r j (.int va vx),.ent cb j (fO[j]).2,_,_,_,_,oM (.h cb),?_,⟨.map g1,rfl,htv⟩,w1,w2,hl,.wrH (iK g1 rfl) aQ,fun b hb=>by simp[oM]at hb;subst hb;exact aZ g1 rfl⟩;have Ve:fO[j].1=tk:=by
     have:=(f3 j _ _ hj V7).1;rw[htk]at this;exact(a8x this).symm
    have hv1:fO[j].2=.int va vx:=by
     have h9:some (TV.int va vx)=some (fO[j]).2:=htv;exact(a8x h9).symm
    have Vr:fO.set j (tk,(fO[j]).2)=fO:=by
     rw[show(tk,(fO[j]).2)=fO[j]from acL Ve.symm rfl];exact List.set_getElem_self Ei
    have hl1:gK P t ts.heap (.map cb) tk false=some (.int va vx):=by
     unfold gK;simp only[hu,O7,f1,oW,rW,c2,V7,hv1,a2H,a3x]
    have hcb:ts.heap.set cb (.map fO)=ts.heap:=by
     refine a9h fun i=>?_;by_cases e:cb=i
     .subst e;rw[a1V aQ,f1]
     .rw[a1M e]
    have h0:zL P t ts (.map cb) tk=some (.ent cb j (fO[j]).2,{ ts with heap:=ts.heap.set cb (.map (fO.set j (tk,(fO[j]).2))) },oM (.h cb)):=by
     unfold zL;simp only[hu,O7,f1,c1,oW,rW,c2,V7,hy1,hov,c3,a2D]
    unfold BI;rw[h0];simp only[];rw[a0V];unfold ZH;rw[Vr,hcb,hl1];simp
   .split at hl
    .rename_i va vx hz;obtain⟨⟨xu,q1,c1⟩,⟨abp,ks,q2,En,c2⟩,⟨aqT,ks2,q3,an8,c4⟩,hl⟩:=hl;rw[q1]at q2;cases q2;rw[q1]at q3;cases q3;obtain⟨i,z0,z1,hi,hz0,hz1,hz2⟩:=Wn hz;have rW:=qR f2 f3v En;have hzt:=a9d hz2;obtain⟨w1,w2⟩:=YU hR g1 f1 (es++[(kv,.int va vx)]) (fO++[(tk,z1)]) (by simp[f2]) (Rt f2 f3 htk hzt);refine⟨.ent r es.length (.int va vx),.ent cb fO.length z1,_,_,_,_,oM (.h cb),?_,⟨.map g1,f2,hzt⟩,w1,w2,hl,.wrH (iK g1 rfl) aQ,fun b hb=>by simp[oM]at hb;subst hb;exact aZ g1 rfl⟩;have hv1:z1=.int va vx:=by
      have h9:some (TV.int va vx)=some z1:=hzt;exact(a8x h9).symm
     have hl1:gK P t ts.heap (.map cb) tk false=some (.int va vx):=by
      unfold gK;simp only[hu,q1,f1,oW,rW,c2,hi,hz0,hz1,hv1,a1z,a2H,a3x]
     have adL:(fO++[(tk,z1)]).map (·.1)=ks2:=qR (P:=P) (A:=AA A m) (m:=m) (h:=ts.heap) (es:=es++[(kv,.int va vx)]) (by simp[f2]) (fun i x y e1 e2=>let ⟨a1,a2⟩:=Rt f2 f3 htk hzt i x y e1 e2;⟨nD a1,nD a2⟩) an8;have Tn:gK P t (ts.heap.set cb (.map (fO++[(tk,z1)]))) (.map cb) tk false=some (.int va vx):=by
      have e9:(fO++[(tk,z1)])[es.length]? = some (tk,z1):=by rw[f2];simp
      unfold gK;simp only[hu,q1,a1V aQ,oW,adL,c4,e9,a2H,a3x];rw[hv1]
     have h0:zL P t ts (.map cb) tk=some (.ent cb fO.length z1,{ ts with heap:=ts.heap.set cb (.map (fO++[(tk,z1)])) },oM (.h cb)):=by
      unfold zL;simp only[hu,q1,f1,c1,oW,rW,c2,hi,hz0,hz1]
     unfold BI;rw[h0];simp only[];rw[a0V];unfold ZH;rw[hl1,Tn];simp
    .exact hl.elim
   .exact hl.elim
  .exact hl.elim
 .exact hl.elim
theorem a9g{ρ:Type}{y:ρ}{ps:aS X.Γ}{ts:St}(hR:uJ X P A m ps ts){mv v:PV X.Γ}{e:PE X.Γ}{tm tv:TV}{e':EV}(hm:VR X P (AA A m) m ts.heap mv tm)(he:I7 X P (AA A m) m ts.heap e e')(hv:VR X P (AA A m) m ts.heap v tv){c:aS X.Γ->PI->OT ρ}
  (hl:(a5g X ps mv e v c).Ends y):∃ps1 pi h1 ti,FQ ts tm e' tv=some ({ ts with heap:=h1 },ti)∧uJ X P A m ps1 { ts with heap:=h1 }∧Fr m ts.heap m h1∧(c ps1 pi).Ends y∧IR m ts.heap pi ti∧∀b,.h b∈ti.ws->b∈bn m:=by
 unfold a5g at hl;split at hl
 .rename_i r r' j tv' htv;have:=jE hv htv;subst this;split at hl
  .rename_i hrr;subst hrr;split at hl
   .rename_i es hb;obtain⟨hj,hl⟩:=hl;obtain⟨cb,fO,rfl,g1,f1,f2,f3⟩:=a5r hR hb hm;obtain⟨c',rfl,hm'⟩:=Ll he;have hc:c'=cb:=by
     cases hm' with
     |gone hi e' _=>simp only[bg,a01]at hi;subst hi;rw[g1]at e';cases e'
     |map e'=>rw[g1]at e';cases e';rfl
    subst hc;have aQ:=(a02.1 f1).1;have Ei:j<fO.length:=by rw[<-f2];exact hj
    have V7:=a0E Ei;obtain⟨w1,w2⟩:=YU hR g1 f1 (Iu es j v) (fO.set j ((fO[j]).1,tv)) (by unfold Iu;simp[f2]) fun i a b ha qA=>by
     unfold Iu at ha;rw[adH]at ha;by_cases e:j=i
     .subst e;rw[a3N,V7]at qA;simp only[a2D,a0E hj,Option.map_eq_map,a1z,a01]at ha;subst ha;cases qA;exact⟨(f3 j _ _ (a0E hj) V7).1,htv⟩
     .rw[a1M e]at qA;have ha:es[i]? = some a:=(by simpa[e]using ha);exact f3 i a b ha qA
    refine⟨_,_,_,oM (.h c'),?_,w1,w2,hl,.wrH (iK g1 rfl) aQ,fun b hb=>by simp[oM]at hb;subst hb;exact aZ g1 rfl⟩;unfold FQ;simp only[a2D,f1,V7]
   .exact hl.elim
  .exact hl.elim
 .exact hl.elim
theorem a5t{ρ:Type}{y:ρ}{ps:aS X.Γ}{ts:St}(hR:uJ X P A m ps ts){t:TypeId}{mv kv v:PV X.Γ}{tm tk tv:TV}(hm:VR X P (AA A m) m ts.heap mv tm)(hk:VR X P (AA A m) m ts.heap kv tk)(hv:VR X P (AA A m) m ts.heap v tv){an:PT X.Γ}{c:aS X.Γ->PI->PT X.Γ->OT ρ}
  (hl:(a5d X P t ps mv kv v an c).Ends y):∃ps1 pi GK h1 ti,xE P t ts tm tk tv=some ({ ts with heap:=h1 },ti)∧uJ X P A m ps1 { ts with heap:=h1 }∧Fr m ts.heap m h1∧(c ps1 pi GK).Ends y∧IR m ts.heap pi ti∧∀b,.h b∈ti.ws->b∈bn m:=by
 unfold a5d at hl;split at hl
 .rename_i kt e tk' r tv' hu htk htv;have:=jE hk htk;subst this;have:=jE hv htv;subst this;split at hl
  .rename_i es hb;obtain⟨mb,g1,g2⟩:=hR.heap.at_ r _ hb;cases mb with
   |fP cb=>
    obtain⟨fO,f1,f2,f3⟩:=g2;have f3v:∀(i:Nat) x y,es[i]? = some x->fO[i]? = some y->VR X P (AA A m) m ts.heap x.1 y.1∧VR X P (AA A m) m ts.heap x.2 y.2:=fun i x y e1 e2=>⟨nD (f3 i x y e1 e2).1,nD (f3 i x y e1 e2).2⟩;cases hm with
    |gone hi e' _=>simp only[bg,a01]at hi;subst hi;rw[g1]at e';cases e'
    |map e'=>
     rw[g1]at e';cases e';have aQ:=(a02.1 f1).1;have wr:∀(en:List (PV X.Γ×PV X.Γ)) (en':List (TV×TV)),en.length=en'.length->(∀(i:Nat) x y,en[i]? = some x->en'[i]? = some y->pJ x.1=some y.1∧pJ x.2=some y.2) ->
       uJ X P A m { ps with heap:=ps.heap.set r (.map en) } { ts with heap:=ts.heap.set cb (.map en') }∧Fr m ts.heap m (ts.heap.set cb (.map en')):=by
      intro en en' h1 h2;obtain⟨q1,q2⟩:=hR.heap.set (pb:=.map en) (hb:=.map en') g1 (c:=cb) rfl (fun cs hc=>by simp[aU,f1]at hc) fun hF=>⟨en',by simp[aQ],h1,h2⟩;exact⟨hR.step q1 q2 .refl,q2⟩
     have new:∀{xu ks},tk.yt=some xu->uP X es=some ks->aB P (Instr.checkKey false 10000 kt xu)=some ()->uQ P kt xu ks=some none ->
       xE P t ts (.map cb) tk tv=some ({ ts with heap:=ts.heap.set cb (.map (fO++[(tk,tv)])) },oM (.h cb))∧uJ X P A m { ps with heap:=ps.heap.set r (.map (es++[(kv,v)])) } { ts with heap:=ts.heap.set cb (.map (fO++[(tk,tv)])) }∧Fr m ts.heap m (ts.heap.set cb (.map (fO++[(tk,tv)]))):=by
      intro xu ks O7 En c1 c2;have rW:=qR f2 f3v En;obtain⟨w1,w2⟩:=wr (es++[(kv,v)]) (fO++[(tk,tv)]) (by simp[f2]) fun i a b ha qA=>by
       rcases a3L i es.length with aQ|Eh
       .rw[a0N aQ]at ha;rw[a0N (by rw[<-f2];exact aQ)]at qA;exact f3 i a b ha qA
       .rw[a1H Eh]at ha;rw[a1H (by rw[<-f2];exact Eh),<-f2]at qA;cases hx:i-es.length with
        |zero=>
         rw[hx]at ha qA;simp only[a2I,a01]at ha qA;subst ha;subst qA;exact⟨htk,htv⟩
        |succ n=>rw[hx]at ha;simp at ha
      refine⟨?_,w1,w2⟩;unfold xE;simp only[hu,O7,f1,c1,oW,rW,c2]
     split at hl
     .obtain⟨⟨xu,q1,c1⟩,⟨abp,ks,q2,En,c2⟩,hl⟩:=hl;rw[q1]at q2;cases q2;obtain⟨u1,u2,u3⟩:=new q1 En c1 c2;exact⟨_,_,_,_,oM (.h cb),u1,u2,u3,hl,.wrH (iK g1 rfl) aQ,fun b hb=>by simp[oM]at hb;subst hb;exact aZ g1 rfl⟩
     .obtain⟨⟨xu,q1,c1⟩,⟨abp,ks,q2,En,c2⟩,hl⟩:=hl;rw[q1]at q2;cases q2;obtain⟨u1,u2,u3⟩:=new q1 En c1 c2;exact⟨_,_,_,_,oM (.h cb),u1,u2,u3,hl,.wrH (iK g1 rfl) aQ,fun b hb=>by simp[oM]at hb;subst hb;exact aZ g1 rfl⟩
     .obtain⟨⟨xu,ks,j,old,ov,O7,c1,En,c2,hj,hold,hov,c3⟩,hl⟩:=hl;have rW:=qR f2 f3v En;have Ei:∃y0,fO[j]? = some y0:=by
       have:j<fO.length:=by rw[<-f2];exact(a02.1 hj).1
       exact⟨_,a0E this⟩
      obtain⟨y0,V7⟩:=Ei;have hy1:y0.1=old:=by
       have:(fO.map (·.1))[j]? = some y0.1:=by rw[a3V,V7];rfl
       rw[rW,hold]at this;exact(a8x this).symm
      obtain⟨w1,w2⟩:=wr es (fO.set j (tk,tv)) (by simp[f2]) fun i a b ha qA=>by
       by_cases e:j=i
       .subst e;rw[a3N]at qA;rw[hj]at ha;rw[V7]at qA;cases ha;cases qA;exact⟨htk,htv⟩
       .rw[a1M e]at qA;exact f3 i a b ha qA
      have EM:ps.heap.set r (.map es)=ps.heap:=by
       refine a9h fun i=>?_;by_cases e:r=i
       .subst e;rw[a1V (a02.1 hb).1,hb]
       .rw[a1M e]
      rw[EM]at w1;refine⟨_,_,_,_,oM (.h cb),?_,w1,w2,hl,.wrH (iK g1 rfl) aQ,fun b hb=>by simp[oM]at hb;subst hb;exact aZ g1 rfl⟩;unfold xE;simp only[hu,O7,f1,c1,oW,rW,c2,V7,hy1,hov,c3,a2D]
     .split at hl
      .rename_i xu ks O7 En;have rW:=qR f2 f3v En;split at hl
       .rename_i j rest _ _ _;split at hl
        .rename_i x0 old hj hold;split at hl
         .rename_i ov hov;obtain⟨c1,c2,c3,hl⟩:=hl;have Ei:∃y0,fO[j]? = some y0:=by
           have:j<fO.length:=by rw[<-f2];exact(a02.1 hj).1
           exact⟨_,a0E this⟩
          obtain⟨y0,V7⟩:=Ei;have hy1:y0.1=old:=by
           have:(fO.map (·.1))[j]? = some y0.1:=by rw[a3V,V7];rfl
           rw[rW,hold]at this;exact(a8x this).symm
          obtain⟨w1,w2⟩:=wr (es.set j (kv,v)) (fO.set j (tk,tv)) (by simp[f2]) fun i a b ha qA=>by
           by_cases e:j=i
           .subst e;rw[a3N]at ha qA;rw[hj]at ha;rw[V7]at qA;cases ha;cases qA;exact⟨htk,htv⟩
           .rw[a1M e]at ha qA;exact f3 i a b ha qA
          refine⟨_,_,_,_,oM (.h cb),?_,w1,w2,hl,.wrH (iK g1 rfl) aQ,fun b hb=>by simp[oM]at hb;subst hb;exact aZ g1 rfl⟩;unfold xE;simp only[hu,O7,f1,c1,oW,rW,c2,V7,hy1,hov,c3,a2D]
         .exact hl.elim
        .exact hl.elim
       .obtain⟨c1,c2,hl⟩:=hl;obtain⟨u1,u2,u3⟩:=new O7 En c1 c2;exact⟨_,_,_,_,oM (.h cb),u1,u2,u3,hl,.wrH (iK g1 rfl) aQ,fun b hb=>by simp[oM]at hb;subst hb;exact aZ g1 rfl⟩
       .exact hl.elim
      .exact hl.elim
   |_=>exact g2.elim
  .exact hl.elim
 .exact hl.elim
end
open Go Tw
theorem jT{m:List MB}{b:Nat}(h:b∈bn m):∃i,Gx m i b:=by
 obtain⟨mb,h1,h2⟩:=a6M.1 h;obtain⟨i,hi⟩:=a8i h1;exact⟨i,mb,hi,h2⟩
section
variable {X:kC} {P:Program} {A B:Nat->Prop} {m m1:List MB} {h:List HB} {g:Nat->Option Nat}
theorem jl:∀{m:List MB},(∀i j c,Gx m i c->Gx m j c->i=j)->(bn m).Nodup
 | [],_=>by simp[bn]
 |x::m,hu=>by
  have ih:(bn m).Nodup:=jl fun i j c h1 h2=>by
   have:=hu (i+1) (j+1) c (by obtain⟨mb,a,b⟩:=h1;exact⟨mb,by simpa using a,b⟩) (by obtain⟨mb,a,b⟩:=h2;exact⟨mb,by simpa using a,b⟩);omega
  unfold bn at ih ⊢;rw[a8s];split
  .exact ih
  rename_i b hb;refine a3P.2 ⟨fun hm=>?_,ih⟩;obtain⟨i,mb,h1,h2⟩:=jT (m:=m) hm;have:=hu 0 (i+1) b ⟨x,rfl,hb⟩ ⟨mb,by simpa using h1,h2⟩;omega
theorem Oa:∀{ks:List Nat} {i p:Nat},wo ks i=some p->ks[p]? = some i
 | [],i,p,h=>by cases h
 |a::ks,i,p,h=>by
  simp only[wo]at h;split at h
  .rename_i e;cases h;simp[e]
  simp only[a0D]at h;obtain⟨q,h1,rfl⟩:=h;simpa using Oa h1
section
variable {g:Nat->Option Nat} {m1:List MB}
theorem Dy(hg:∀i j,g i=some j->m1[j]? = m[i]?){B:Nat->Prop}(hA:∀b,A b->B b)(hX:bK X P){v:PV X.Γ}{x:TV}(hv:VR X P A m h v x):∀{w:PV X.Γ},fG g v=some w->VR X P B m1 h w x:=by
 have lists:∀{vs:List (PV X.Γ)} {xs:List TV},vs.length=xs.length->(∀(i:Nat) a b,vs[i]? = some a->xs[i]? = some b->∀{w:PV X.Γ},fG g a=some w->VR X P B m1 h w b)->∀{ws:List (PV X.Γ)},fG.oL g vs=some ws->ws.length=xs.length∧∀(i:Nat) a b,ws[i]? = some a->xs[i]? = some b->VR X P B m1 h a b:=by
  intro vs
  induction vs with
  |nil=>
   intro xs hl _ ws hw;simp only[fG.oL,a01]at hw;subst hw;exact⟨hl,fun i a b ha=>by simp at ha⟩
  |cons v vs ih=>
   intro xs hl hh ws hw;cases xs with
   |nil=>simp at hl
   |cons x xs=>
    simp only[fG.oL]at hw;split at hw
    .rename_i w Tj h1 h2;cases hw;obtain⟨e1,e2⟩:=ih (xs:=xs) (by simpa using hl) (fun i a b ha hb=>hh (i+1) a b (by simpa using ha) (by simpa using hb)) h2;refine⟨by simp[e1],fun i a b ha hb=>?_⟩;cases i with
     |zero=>simp only[a2I,a01]at ha hb;subst ha;subst hb;exact hh 0 v x rfl rfl h1
     |succ i=>exact e2 i a b (by simpa using ha) (by simpa using hb)
    cases hw
 induction hv with
 |bool=>intro w hw;simp only[fG,a01]at hw;subst hw;exact .bool _
 |lit=>intro w hw;simp only[fG,a01]at hw;subst hw;exact .lit _
 |int=>intro w hw;simp only[fG,a01]at hw;subst hw;exact .int _ _
 |str=>intro w hw;simp only[fG,a01]at hw;subst hw;exact .str _
 |nil=>intro w hw;simp only[fG,a01]at hw;subst hw;exact .nil _
 |ptr e=>intro w hw;simp only[fG,a0D]at hw;obtain⟨j,h1,rfl⟩:=hw;exact .ptr (by rw[hg _ _ h1];exact e)
 |slc e=>intro w hw;simp only[fG,a0D]at hw;obtain⟨j,h1,rfl⟩:=hw;exact .slc (by rw[hg _ _ h1];exact e)
 |own e o=>intro w hw;simp only[fG,a0D]at hw;obtain⟨j,h1,rfl⟩:=hw;exact .own (by rw[hg _ _ h1];exact e) o
 |win e q q' q2=>intro w hw;simp only[fG,a0D]at hw;obtain⟨j,h1,rfl⟩:=hw;exact .win (by rw[hg _ _ h1];exact e) q q' q2
 |zZ e=>intro w hw;simp only[fG,a0D]at hw;obtain⟨j,h1,rfl⟩:=hw;exact .zZ (by rw[hg _ _ h1];exact e)
 |map e=>intro w hw;simp only[fG,a0D]at hw;obtain⟨j,h1,rfl⟩:=hw;exact .map (by rw[hg _ _ h1];exact e)
 |iter e=>intro w hw;simp only[fG,a0D]at hw;obtain⟨j,h1,rfl⟩:=hw;exact .iter (by rw[hg _ _ h1];exact e)
 |jZ e=>intro w hw;simp only[fG,a0D]at hw;obtain⟨j,h1,rfl⟩:=hw;exact .jZ (by rw[hg _ _ h1];exact e)
 |row e j q=>intro w hw;simp only[fG,a0D]at hw;obtain⟨j,h1,rfl⟩:=hw;exact .row (by rw[hg _ _ h1];exact e) (by assumption) q
 |fn h1 _ h3 _ i2 i4=>
  intro w hw;simp only[fG]at hw;split at hw
  .rename_i a c ha hc;cases hw;obtain⟨e1,e2⟩:=lists h1 i2 ha;obtain⟨e3,e4⟩:=lists h3 i4 hc;exact .fn e1 e2 e3 e4
  cases hw
 |agg h1 _ i2=>
  intro w hw;simp only[fG,a0D]at hw;obtain⟨cs,hc,rfl⟩:=hw;obtain⟨e1,e2⟩:=lists h1 i2 hc;exact .agg e1 e2
 |dG h1 _ i2=>
  intro w hw;simp only[fG,a0D]at hw;obtain⟨cs,hc,rfl⟩:=hw;obtain⟨e1,e2⟩:=lists h1 i2 hc;exact .dG e1 e2
 |o7=>intro w hw;simp only[fG,a01]at hw;subst hw;exact .o7
 |dn a c c2 s z o k f e r _=>intro w hw;simp only[fG,a01]at hw;subst hw;exact .dn (hA _ a) c c2 s z o k f e fun j y i d v h1 h2 h3=>((r j y i d v h1 h2 h3).mono hA).iY hX (eX (hX.iY _ _) h2)
 |el a c l o e q r _=>intro w hw;simp only[fG,a01]at hw;subst hw;exact .el (hA _ a) c l o e q fun i d v h1 h2=>((r i d v h1 h2).mono hA).iY hX (eX (hX.iY _ _) h1)
 |gone i e o=>
  intro w hw;rename_i v _ x;have:∃j,bg w=some j∧Cj w x m1[j]?:=by
   cases v<;>simp[bg]at i<;>subst i<;>simp only[fG,a0D]at hw<;>obtain⟨j,h1,rfl⟩:=hw<;>exact⟨j,rfl,by rw[hg _ _ h1];exact e.as fun c=>rfl⟩
  obtain⟨j,h1,h2⟩:=this;exact .gone h1 h2 o
variable {B:Nat->Prop}
theorem yZ(hX:bK X P)(hg:∀i j,g i=some j->m1[j]? = m[i]?)(hA:∀b,A b->B b):∀{vs:List (PV X.Γ)} {xs:List TV} {ws:List (PV X.Γ)},bU X P A m h vs xs->fG.oL g vs=some ws->bU X P B m1 h ws xs
 | [],xs,ws,hv,hw=>by simp only[fG.oL,a01]at hw;subst hw;rw[hv.inv0];exact .nil
 |v::vs,xs,ws,hv,hw=>by
  obtain⟨x,r,rfl,h1,h2⟩:=hv.inv;simp only[fG.oL]at hw;split at hw
  .rename_i w Tj g1 g2;cases hw;exact .cons (Dy hg hA hX h1 g1) (yZ hX hg hA h2 g2)
  cases hw
theorem Ob(hX:bK X P)(hg:∀i j,g i=some j->m1[j]? = m[i]?)(hA:∀b,A b->B b){env:List (Nat×PE X.Γ)}{env':List (Nat×EV)}(he:jJ X P A m h env env'):∀{r:List (Nat×PE X.Γ)},oK g env=some r->jJ X P B m1 h r env':=by
 induction he with
 |nil=>intro r h;simp only[oK,a01]at h;subst h;exact .nil
 |cons h1 h2 ih=>
  rename_i k v x q q';intro r hr;simp only[oK]at hr;split at hr
  rotate_left
  .cases hr
  rename_i w r' e1 e2;cases hr;refine .cons ?_ (ih e2);cases v with
  |val v=>
   obtain⟨y,rfl,h3⟩:=fK h1;simp only[NS,a0D]at e1;obtain⟨u,e3,rfl⟩:=e1;exact nG (Dy hg hA hX h3 e3)
  |loc a b=>simp only[NS,a01]at e1;subst e1;rw[Dw h1];exact⟨rfl,rfl⟩
  |undef=>simp only[NS,a01]at e1;subst e1;rw[Iy h1];trivial
  |ent r j v=>
   obtain⟨c,y,rfl,h3,h4⟩:=Lj h1;simp only[NS,a0D]at e1;obtain⟨u,e3,rfl⟩:=e1;exact⟨Dy hg hA hX h3 (w:=.map u) (by simp only[fG,e3,a1z]),rfl,h4⟩
  |DY r j=>
   obtain⟨c,rfl,h3⟩:=Ll h1;simp only[NS,a0D]at e1;obtain⟨u,e3,rfl⟩:=e1;exact⟨Dy hg hA hX h3 (w:=.map u) (by simp only[fG,e3,a1z]),rfl⟩
theorem Dz(hX:bK X P)(hg:∀i j,g i=some j->m1[j]? = m[i]?)(hA:∀b,A b->B b){b b':PB X.Γ}{mb:MB}(hn:∀c,mb=.jc c->c∉bn m->c∉bn m1)(hb:BR X P A m h b mb)(hr:yX g b=some b'):BR X P B m1 h b' mb:=by
 cases b with
 |cells cs=>
  cases mb with
  |fP c=>
   simp only[yX,a0D]at hr;obtain⟨cs',h1,rfl⟩:=hr;obtain⟨xs,h2,h3⟩:=hb;exact⟨xs,h2,yZ hX hg hA h3 h1⟩
  |_=>exact hb.elim
 |aC cs=>
  cases mb with
  |jc c=>
   simp only[yX,a0D]at hr;obtain⟨cs',h1,rfl⟩:=hr;obtain⟨h0,xs,h2,h3⟩:=hb;exact⟨hn c rfl h0,xs,h2,yZ hX hg hA h3 h1⟩
  |_=>exact hb.elim
 |list k ex t l=>
  cases mb with
  |dn y=>
   simp only[yX,a01]at hr;subst hr;cases(hb:LR X P A m h k ex t l y)with
   |nil=>exact LR.nil
   |emp p0 p1 p2 p3 p4=>exact LR.emp (hA _ p0) p1 p2 p3 p4
   |some p1 p2 p3 p4 p5 p6 p7 p8 p9=>exact LR.some p1 p2 p3 p4 p5 p6 p7 p8 ((p9.mono hA).iY hX)
  |_=>exact hb.elim
 |map es=>
  cases mb with
  |fP c=>
   simp only[yX,a01]at hr;subst hr;exact hb
  |_=>exact hb.elim
 |mg cs=>
  cases mb with
  |fP c=>
   simp only[yX,a01]at hr;subst hr;exact hb
  |_=>exact hb.elim
 |iy es=>
  cases mb with
  |jc c=>
   simp only[yX,a01]at hr;subst hr;exact⟨hn c rfl hb.1,hb.2⟩
  |_=>exact hb.elim
 |cu r n seen=>
  cases mb with
  |fP b=>
   simp only[yX,a0D]at hr;obtain⟨j,h1,rfl⟩:=hr;obtain⟨c,h2,h3,h4⟩:=hb;exact⟨c,h2,by rw[hg _ _ h1];exact h3,fun c' hc=>h4 c' (by rw[<-hg _ _ h1];exact hc)⟩
  |_=>exact hb.elim
 |mark=>
  cases mb with
  |fP c=>simp only[yX,a01]at hr;subst hr;exact hb
  |_=>exact hb.elim
 |loop rd f nt env ps a c jA=>
  cases mb with
  |fP cb=>
   simp only[yX,a0D]at hr;obtain⟨asU,h1,rfl⟩:=hr;obtain⟨xs,h2,h3⟩:=hb;exact⟨xs,h2,Ob hX hg hA h3 h1⟩
  |_=>exact hb.elim
 |gone=>
  cases mb with
  |gone=>simp only[yX,a01]at hr;subst hr;trivial
  |_=>exact hb.elim
theorem sN:∀{bs r:List (PB X.Γ)},ni g bs=some r->r.length=bs.length∧∀{i:Nat} {b':PB X.Γ},r[i]? = some b'->∃b,bs[i]? = some b∧yX g b=some b'
 | [],r,h=>by simp only[ni,a01]at h;subst h;exact⟨rfl,fun{i b'} hi=>by simp at hi⟩
 |b::bs,r,h=>by
  simp only[ni]at h;split at h
  .rename_i c cs h1 h2;cases h;obtain⟨e1,e2⟩:=sN h2;refine⟨by simp[e1],fun{i b'} hi=>?_⟩;cases i with
   |zero=>simp only[a2I,a01]at hi;subst hi;exact⟨b,rfl,h1⟩
   |succ i=>obtain⟨d,q1,q2⟩:=e2 (i:=i) (by simpa using hi);exact⟨d,by simpa using q1,q2⟩
  cases h
theorem Oc:∀{bs r:List (List (PV X.Γ))},VO g bs=some r->r.length=bs.length∧∀{i:Nat} {b':List (PV X.Γ)},r[i]? = some b'->∃b,bs[i]? = some b∧fG.oL g b=some b'
 | [],r,h=>by simp only[VO,a01]at h;subst h;exact⟨rfl,fun{i b'} hi=>by simp at hi⟩
 |b::bs,r,h=>by
  simp only[VO]at h;split at h
  .rename_i c cs h1 h2;cases h;obtain⟨e1,e2⟩:=Oc h2;refine⟨by simp[e1],fun{i b'} hi=>?_⟩;cases i with
   |zero=>simp only[a2I,a01]at hi;subst hi;exact⟨b,rfl,h1⟩
   |succ i=>obtain⟨d,q1,q2⟩:=e2 (i:=i) (by simpa using hi);exact⟨d,by simpa using q1,q2⟩
  cases h
theorem DC:∀{ks:List Nat} {H r:List (PB X.Γ)},Ce H ks=some r->r.length=ks.length∧∀{i k:Nat},ks[i]? = some k->∃b,H[k]? = some b∧r[i]? = some b
 | [],H,r,h=>by simp only[Ce,a01]at h;subst h;exact⟨rfl,fun{i k} hi=>by simp at hi⟩
 |k::ks,H,r,h=>by
  simp only[Ce]at h;split at h
  .rename_i b rs h1 h2;cases h;obtain⟨e1,e2⟩:=DC h2;refine⟨by simp[e1],fun{i j} hi=>?_⟩;cases i with
   |zero=>simp only[a2I,a01]at hi;subst hi;exact⟨b,h1,rfl⟩
   |succ i=>obtain⟨d,q1,q2⟩:=e2 (i:=i) (k:=j) (by simpa using hi);exact⟨d,q1,by simpa using q2⟩
  cases h
end
theorem sO{α:Type}:∀{ks:List Nat} {bs l:List α},(putAt ks bs l).length=l.length
 | [],_,_=>rfl
 |_::_,[],_=>rfl
 |k::ks,b::bs,l=>by simp only[putAt];rw[sO,a3W]
theorem Oe{α:Type}:∀{ks:List Nat} {bs l:List α} {p i:Nat},ks.Nodup->(∀k∈ks,k<l.length)->ks.length<=bs.length->ks[p]? = some i->(putAt ks bs l)[i]? = bs[p]?
 | [],_,_,p,i,_,_,_,h=>by simp at h
 |a::ks,[],_,_,_,_,_,hl,_=>by simp at hl
 |a::ks,b::bs,l,0,i,hn,hk,hl,h=>by
  simp only[a2I,a01]at h;subst h;have hn:=a3P.1 hn;simp only[putAt];have:∀{ks:List Nat} {bs l:List α} {i:Nat},i∉ks->(putAt ks bs l)[i]? = l[i]?:=by
   intro ks
   induction ks with
   |nil=>intro bs l i _;rfl
   |cons c ks ih=>
    intro bs l i hi;simp only[a2t,ad1]at hi;cases bs with
    |nil=>rfl
    |cons b bs=>simp only[putAt];rw[ih hi.2,a1M (fun e=>hi.1 e.symm)]
  rw[this hn.1,a1V (hk a (a3u ..))];rfl
 |a::ks,b::bs,l,p+1,i,hn,hk,hl,h=>by
  simp only[a9b]at h;simp only[putAt];rw[Oe (a3P.1 hn).2 (fun k nU=>by rw[a3W];exact hk k (a3w _ nU)) (by simpa using hl) h];rfl
theorem IB{α:Type}:∀{ks:List Nat} {bs l:List α} {i:Nat},i∉ks->(putAt ks bs l)[i]? = l[i]?
 | [],_,_,_,_=>rfl
 |a::ks,[],_,_,_=>rfl
 |a::ks,b::bs,l,i,hi=>by
  simp only[a2t,ad1]at hi;simp only[putAt];rw[IB hi.2,a1M (fun e=>hi.1 e.symm)]
def Wp(X:kC)(P:Program)(call:aY)(fv:PV X.Γ)(xs:List (PV X.Γ))(H:List (PB X.Γ))(v:PV X.Γ)(H1:List (PB X.Γ))(W:Nat->Prop):Prop:=
 ∀(A:Nat->Prop) (m:List MB) (h:List HB) (tf:TV) (rO:List TV),HR X P A m H h->VR X P (AA A m) m h fv tf->bU X P (AA A m) m h xs rO ->
  ∃w h1 ws m1,call tf rO h=some (w,h1,ws)∧HR X P A m1 H1 h1∧VR X P (AA A m1) m1 h1 v w∧Fr m h m1 h1∧Up m m1∧∀b∈ws,∃k,W k∧Gx m k b
theorem aV.w{call:aY}{fv v:PV X.Γ}{xs:List (PV X.Γ)}{H H1:List (PB X.Γ)}(h:aV X P call fv xs H v H1):Wp X P call fv xs H v H1 fun _=>True:=fun A m h0 tf rO a b c=>by
 obtain⟨w,h1,ws,m1,c1,c2,c3,c4,c5,c6⟩:=h A m h0 tf rO a b c;exact⟨w,h1,ws,m1,c1,c2,c3,c4,c5,fun b hb=>by obtain⟨i,hi⟩:=jT (c6 b hb);exact⟨i,trivial,hi⟩⟩
theorem Ls:∀{H:List (PB X.Γ)} {i:Nat} {b:PB X.Γ},Ir H=true->H[i]? = some b->Ir [b]=true
 | [],_,_,_,h=>by simp at h
 |a::H,0,b,hn,h=>by
  simp only[a2I,a01]at h;subst h;cases a<;>simp_all [Ir]
 |a::H,i+1,b,hn,h=>by
  have Dk:Ir H=true:=by cases a<;>simp_all [Ir]
  exact Ls Dk (by simpa using h)
def SwM(m m':List MB):Prop:=∀i:Nat,m'[i]? = m[i]?∨(∃c,m[i]? = some (.fP c)∧m'[i]? = some (.jc c))∨∃c,m[i]? = some (.jc c)∧m'[i]? = some (.fP c)
section
variable {m':List MB}
theorem VR.sw(hm:SwM m m')(hA:∀b,A b->B b){v:PV X.Γ}{x:TV}(hv:VR X P A m h v x):VR X P B m' h v x:=by
 have hl:∀{i:Nat} {x:TV},m[i]? = some (.dn x)->m'[i]? = some (.dn x):=fun{i x} e=>by
  rcases hm i with g|⟨c,g,_⟩|⟨c,g,_⟩
  .rw[g,e]
  .rw[e]at g;cases g
  rw[e]at g;cases g
 have hb:∀{i c:Nat},m[i]? = some (.fP c)->m'[i]? = some (.fP c)∨m'[i]? = some (.jc c):=fun{i c} e=>by
  rcases hm i with g|⟨c',g,g2⟩|⟨c',g,_⟩
  .exact .inl (by rw[g,e])
  .rw[e]at g;cases g;exact .inr g2
  rw[e]at g;cases g
 induction hv with
 |bool=>exact .bool _
 |lit=>exact .lit _
 |int=>exact .int _ _
 |str=>exact .str _
 |nil=>exact .nil _
 |ptr e=>rcases hb e with e|e;exact .ptr e;exact .gone rfl (.ofR e rfl) rfl
 |slc e=>rcases hb e with e|e;exact .slc e;exact .gone rfl (.ofR e rfl) rfl
 |own e o=>exact .own (hl e) o
 |win e q q' q2=>exact .win (hl e) q q' q2
 |zZ e=>exact .zZ (hl e)
 |map e=>rcases hb e with e|e;exact .map e;exact .gone rfl (.ofR e rfl) rfl
 |iter e=>rcases hb e with e|e;exact .iter e;exact .gone rfl (.ofR e rfl) rfl
 |fn h1 _ h3 _ i2 i4=>exact .fn h1 i2 h3 i4
 |jZ e=>rcases hb e with e|e;exact .jZ e;exact .gone rfl (.ofR e rfl) rfl
 |agg h1 _ i2=>exact .agg h1 i2
 |dG h1 _ i2=>exact .dG h1 i2
 |o7=>exact .o7
 |dn a c c2 s z o k f e _ ih=>exact .dn (hA _ a) c c2 s z o k f e ih
 |el a c l o e q _ ih=>exact .el (hA _ a) c l o e q ih
 |row e j q=>exact .row (hl e) j q
 | @gone v i x hi e o=>
  generalize hq:m[i]? = q at e;cases e with
  |g=>
   rcases hm i with g|⟨c,g,_⟩|⟨c,g,_⟩
   .exact .gone hi (.of (by rw[g,hq])) o
   .rw[hq]at g;cases g
   rw[hq]at g;cases g
  |r c hv=>
   rcases hm i with g|⟨c',g,_⟩|⟨c',g,g2⟩
   .exact .gone hi (.ofR (by rw[g,hq]) hv) o
   .rw[hq]at g;cases g
   rw[hq]at g;cases g;cases v<;>simp only[roV,a01]at hv<;>first|cases hv;done|skip
   all_goals (subst hv;simp only[bg,a01]at hi;subst hi)
   .exact .ptr g2
   .exact .slc g2
   .exact .map g2
   .exact .jZ g2
   exact .iter g2
theorem bU.sw(hm:SwM m m')(hA:∀b,A b->B b){v:List (PV X.Γ)}{x:List TV}(hv:bU X P A m h v x):bU X P B m' h v x:=
 ⟨hv.1,fun i a b ha hb=>(hv.2 i a b ha hb).sw hm hA⟩
theorem jJ.sw(hm:SwM m m')(hA:∀b,A b->B b){v:List (Nat×PE X.Γ)}{x:List (Nat×EV)}(hv:jJ X P A m h v x):jJ X P B m' h v x:=by
 induction hv with
 |nil=>exact .nil
 |cons h1 _ ih=>
  refine .cons ?_ ih;rename_i v x _ _ _;cases v<;>cases x<;>first|exact VR.sw hm hA h1|exact h1|exact⟨VR.sw hm hA h1.1,h1.2⟩
theorem BR.sw(hm:SwM m m')(hA:∀b,A b->B b){b:PB X.Γ}{mb:MB}(hn:∀c,mb=.jc c->c∉bn m->c∉bn m')(hb:BR X P A m h b mb):BR X P B m' h b mb:=by
 cases b with
 |cells cs=>cases mb with
  |fP b=>obtain⟨cs',h1,h2⟩:=hb;exact⟨cs',h1,h2.sw hm hA⟩
  |_=>exact hb.elim
 |aC cs=>cases mb with
  |jc b=>obtain⟨h0,cs',h1,h2⟩:=hb;exact⟨hn b rfl h0,cs',h1,h2.sw hm hA⟩
  |_=>exact hb.elim
 |list k ex t l=>cases mb with
  |dn x=>
   cases(hb:LR X P A m h k ex t l x)with
   |nil=>exact LR.nil
   |emp h0 h1 h2 h3 h4=>exact LR.emp (hA _ h0) h1 h2 h3 h4
   |some h1 h2 h3 h4 h5 h6 h7 h8 h9=>exact LR.some h1 h2 h3 h4 h5 h6 h7 h8 ⟨h9.1,h9.2.1,fun j a i c v a1 a2 a3=>(h9.2.2 j a i c v a1 a2 a3).sw hm hA⟩
  |_=>exact hb.elim
 |map es=>cases mb with
  |fP b=>exact hb
  |_=>exact hb.elim
 |mg cs=>cases mb with
  |fP b=>exact hb
  |_=>exact hb.elim
 |iy es=>cases mb with
  |jc b=>exact⟨hn b rfl hb.1,hb.2⟩
  |_=>exact hb.elim
 |cu r n seen=>cases mb with
  |fP b=>
   obtain⟨c,h1,h2,h3⟩:=hb;refine⟨c,h1,?_,fun c' hc=>?_⟩
   .rcases hm r with g|⟨c',g,g2⟩|⟨c',g,g2⟩
    .rw[g];exact h2
    .rw[g2];rfl
    .rw[g2];rfl
   .rcases hm r with g|⟨c2,g,g2⟩|⟨c2,g,g2⟩
    .exact h3 c' (by rw[<-g];exact hc)
    .rw[g2]at hc;simp at hc;subst hc;exact h3 c2 (.inl g)
    .rw[g2]at hc;simp at hc;subst hc;exact h3 c2 (.inr g)
  |_=>exact hb.elim
 |mark=>cases mb with
  |fP b=>exact hb
  |_=>exact hb.elim
 |loop rd f nt env ps a c jA=>cases mb with
  |fP b=>obtain⟨e',h1,h2⟩:=hb;exact⟨e',h1,h2.sw hm hA⟩
  |_=>exact hb.elim
 |gone=>cases mb with
  |gone=>trivial
  |_=>exact hb.elim
end
theorem adM{call:aY}{fv v:PV X.Γ}{xs:List (PV X.Γ)}{H H1:List (PB X.Γ)}{W:Nat->Prop}{r:Nat}{cs Rk:List (PV X.Γ)}(h0:H[r]? = some (.cells cs))(h9:H1[r]? = some (.cells Rk))(hro:Ir (H1.drop H.length)=true)
  (hs:Wp X P call fv xs (H.set r (.aC cs)) v (H1.set r (.aC Rk)) W):Wp X P call fv xs H v H1 fun k=>W k∧k≠r:=fun A m h tf rO hr hf hx=>by
 obtain⟨mb0,q1,q2⟩:=hr.at_ r _ h0;have hrl:r<H.length:=(a02.1 h0).1;have hrm:r<m.length:=by rw[hr.len];exact hrl
 cases mb0 with
 |fP c=>
  obtain⟨cs',q3,q4⟩:=q2;have Gz:c∈bn m:=aZ q1 rfl;have hch:=(a02.1 q3).1;have hm:SwM m (m.set r (.jc c)):=fun i=>by
   by_cases e:i=r
   .subst e;exact .inr (.inl ⟨c,q1,by rw[a1V hrm]⟩)
   .exact .inl (by rw[a1M (fun h=>e h.symm)])
  have old:∀{i b:Nat},Gx (m.set r (.jc c)) i b->i≠r∧Gx m i b:=fun{i b} ho=>by
   obtain⟨mb,a1,a2⟩:=ho;by_cases e:i=r
   .subst e;rw[a1V hrm]at a1;cases a1;cases a2
   .rw[a1M (fun h=>e h.symm)]at a1;exact⟨e,mb,a1,a2⟩
  have pV:∀b,b∈bn (m.set r (.jc c))->b∈bn m∧b≠c:=fun b hb=>by
   obtain⟨i,hi⟩:=jT hb;obtain⟨e,mb,a1,a2⟩:=old hi;refine⟨aZ a1 a2,fun e2=>?_⟩;subst e2;exact e (iQ hr.nodup a1 q1 a2 rfl)
  have hA:∀b,AA A m b->AA (fun b=>A b∧b≠c) (m.set r (.jc c)) b:=fun b hb=>⟨⟨hb.1,fun e=>hb.2 (e▸Gz)⟩,fun h=>hb.2 (pV b h).1⟩;have xg:HR X P (fun b=>A b∧b≠c) (m.set r (.jc c)) (H.set r (.aC cs)) h:=by
   refine⟨by simp[hr.len],fun i b hi=>?_,jl fun i j d a1 a2=>?_,fun b hb=>⟨hr.up b hb,by omega⟩,fun b hb=>⟨hr.Cm b (pV b hb).1,(pV b hb).2⟩⟩
   .by_cases e:i=r
    .subst e;rw[a1V hrl]at hi;cases hi;exact⟨.jc c,by rw[a1V hrm],fun h=>(pV c h).2 rfl,cs',q3,q4.sw hm hA⟩
    .rw[a1M (fun h=>e h.symm)]at hi;obtain⟨mb,g1,g2⟩:=hr.at_ i b hi;exact⟨mb,by rw[a1M (fun h=>e h.symm)];exact g1,g2.sw hm hA fun d _ hn h=>hn (pV d h).1⟩
   .obtain⟨_,ma,u1,u2⟩:=old a1;obtain⟨_,mc,v1,v2⟩:=old a2;exact iQ hr.nodup u1 v1 u2 v2
  obtain⟨w,h1,ws,m1,c1,c2,c3,c4,c5,c6⟩:=hs (fun b=>A b∧b≠c) (m.set r (.jc c)) h tf rO xg (hf.sw hm hA) (hx.sw hm hA)
  .have adN:r<H1.length:=(a02.1 h9).1;obtain⟨mb1,e1,e2⟩:=c2.at_ r (.aC Rk) (by rw[a1V adN]);have e3:=c5 r (.jc c) (by rw[a1V hrm]);have e4:mb1=.jc c:=by
    rcases e3 with e3|e3<;>rw[e1]at e3<;>cases e3
    .rfl
    .exact e2.elim
   subst e4;obtain⟨p0,VX,p1,p2⟩:=e2;have IC:r<m1.length:=(a02.1 e1).1;have ZU:SwM m1 (m1.set r (.fP c)):=fun i=>by
    by_cases e:i=r
    .subst e;exact .inr (.inr ⟨c,e1,by rw[a1V IC]⟩)
    .exact .inl (by rw[a1M (fun h=>e h.symm)])
   have at1:∀{i:Nat} {mb:MB},i≠r->(m1.set r (.fP c))[i]? = some mb->m1[i]? = some mb:=fun{i mb} e h=>by rw[a1M (fun h=>e h.symm)]at h;exact h
   have BN:∀b,b∈bn (m1.set r (.fP c))->b=c∨b∈bn m1:=fun b hb=>by
    obtain⟨i,mb,a1,a2⟩:=jT hb;by_cases e:i=r
    .subst e;rw[a1V IC]at a1;cases a1;cases a2;exact .inl rfl
    .exact .inr (aZ (at1 e a1) a2)
   have hA1:∀b,AA (fun b=>A b∧b≠c) m1 b->AA A (m1.set r (.fP c)) b:=fun b hb=>⟨hb.1.1,fun h=>by
    rcases BN b h with e|e
    .exact hb.1.2 e
    .exact hb.2 e⟩
   refine⟨w,h1,ws,m1.set r (.fP c),c1,⟨by rw[a3W,c2.len,a3W],fun i b hi=>?_,jl fun i j d a1 a2=>?_,fun b hb=>(c2.up b hb).1,fun b hb=>?_⟩,c3.sw ZU hA1,⟨c4.len,fun b hb hn=>c4.same b hb fun h=>hn (pV b h).1,fun b hb=>?_,c4.grow⟩,fun i mb hi=>?_,fun b hb=>?_⟩
   .by_cases e:i=r
    .subst e;rw[h9]at hi;cases hi;exact⟨.fP c,by rw[a1V IC],VX,p1,p2.sw ZU hA1⟩
    .obtain⟨mb,g1,g2⟩:=c2.at_ i b (by rw[a1M (fun h=>e h.symm)];exact hi);refine⟨mb,by rw[a1M (fun h=>e h.symm)];exact g1,g2.sw ZU hA1 fun d hd hn hd2=>?_⟩;subst hd;rcases BN d hd2 with e5|e5
     .subst e5;rcases a3L i m.length with aQ|Eh
      .have Kq:(m.set r (.jc d))[i]? = m[i]?:=(by rw[a1M (fun h=>e h.symm)]);have hmi:m[i]? = some (.jc d):=by
        rcases c5 i m[i] (by rw[Kq];exact a0E aQ)with e6|e6<;>rw[g1]at e6<;>simp only[a01]at e6
        .rw[a0E aQ,<-e6]
        .cases e6
       have hlH:i<H.length:=by rw[<-hr.len];exact aQ
       obtain⟨mb9,e7,e8⟩:=hr.at_ i _ (a0E hlH);rw[hmi]at e7;cases e7;generalize H[i]=b9 at e8;cases b9<;>first|exact e8.elim|exact e8.1 Gz
      .have e6:(H1.drop H.length)[i-H.length]? = some b:=by rw[a3M,<-hi];congr 1;rw[hr.len]at Eh;omega
       have e7:=Ls hro e6;cases b<;>first|exact g2.elim|cases e7
     .exact hn e5
   .obtain⟨ma,u1,u2⟩:=a1;obtain⟨mc,v1,v2⟩:=a2;by_cases e:i=r<;>by_cases e':j=r
    .rw[e,e']
    .subst e;rw[a1V IC]at u1;cases u1;cases u2;exact absurd (aZ (at1 e' v1) v2) p0
    .subst e';rw[a1V IC]at v1;cases v1;cases v2;exact absurd (aZ (at1 e u1) u2) p0
    .exact iQ c2.nodup (at1 e u1) (at1 e' v1) u2 v2
   .rcases BN b hb with e|e
    .subst e;exact hr.Cm _ Gz
    .exact(c2.Cm b e).1
   .rcases BN b hb with e|e
    .subst e;exact .inl Gz
    .rcases c4.new b e with g|g
     .exact .inl (pV b g).1
     .exact .inr g
   .by_cases e:i=r
    .subst e;rw[q1]at hi;cases hi;exact .inl (by rw[a1V IC])
    .rw[a1M (fun h=>e h.symm)];exact c5 i mb (by rw[a1M (fun h=>e h.symm)];exact hi)
   .obtain⟨k,k1,k2⟩:=c6 b hb;obtain⟨k3,k4⟩:=old k2;exact⟨k,⟨k1,k3⟩,k4⟩
 |_=>exact q2.elim
theorem a9i{call:aY}{fv v:PV X.Γ}{xs:List (PV X.Γ)}{H H1:List (PB X.Γ)}{W:Nat->Prop}{r:Nat}{es es1:List (PV X.Γ×PV X.Γ)}(h0:H[r]? = some (.map es))(h9:H1[r]? = some (.map es1))(hro:Ir (H1.drop H.length)=true)
  (hs:Wp X P call fv xs (H.set r (.iy es)) v (H1.set r (.iy es1)) W):Wp X P call fv xs H v H1 fun k=>W k∧k≠r:=fun A m h tf rO hr hf hx=>by
 obtain⟨mb0,q1,q2⟩:=hr.at_ r _ h0;have hrl:r<H.length:=(a02.1 h0).1;have hrm:r<m.length:=by rw[hr.len];exact hrl
 cases mb0 with
 |fP c=>
  obtain⟨cs',q3,q4⟩:=q2;have Gz:c∈bn m:=aZ q1 rfl;have hch:=(a02.1 q3).1;have hm:SwM m (m.set r (.jc c)):=fun i=>by
   by_cases e:i=r
   .subst e;exact .inr (.inl ⟨c,q1,by rw[a1V hrm]⟩)
   .exact .inl (by rw[a1M (fun h=>e h.symm)])
  have old:∀{i b:Nat},Gx (m.set r (.jc c)) i b->i≠r∧Gx m i b:=fun{i b} ho=>by
   obtain⟨mb,a1,a2⟩:=ho;by_cases e:i=r
   .subst e;rw[a1V hrm]at a1;cases a1;cases a2
   .rw[a1M (fun h=>e h.symm)]at a1;exact⟨e,mb,a1,a2⟩
  have pV:∀b,b∈bn (m.set r (.jc c))->b∈bn m∧b≠c:=fun b hb=>by
   obtain⟨i,hi⟩:=jT hb;obtain⟨e,mb,a1,a2⟩:=old hi;refine⟨aZ a1 a2,fun e2=>?_⟩;subst e2;exact e (iQ hr.nodup a1 q1 a2 rfl)
  have hA:∀b,AA A m b->AA (fun b=>A b∧b≠c) (m.set r (.jc c)) b:=fun b hb=>⟨⟨hb.1,fun e=>hb.2 (e▸Gz)⟩,fun h=>hb.2 (pV b h).1⟩;have xg:HR X P (fun b=>A b∧b≠c) (m.set r (.jc c)) (H.set r (.iy es)) h:=by
   refine⟨by simp[hr.len],fun i b hi=>?_,jl fun i j d a1 a2=>?_,fun b hb=>⟨hr.up b hb,by omega⟩,fun b hb=>⟨hr.Cm b (pV b hb).1,(pV b hb).2⟩⟩
   .by_cases e:i=r
    .subst e;rw[a1V hrl]at hi;cases hi;exact⟨.jc c,by rw[a1V hrm],fun h=>(pV c h).2 rfl,cs',q3,q4⟩
    .rw[a1M (fun h=>e h.symm)]at hi;obtain⟨mb,g1,g2⟩:=hr.at_ i b hi;exact⟨mb,by rw[a1M (fun h=>e h.symm)];exact g1,g2.sw hm hA fun d _ hn h=>hn (pV d h).1⟩
   .obtain⟨_,ma,u1,u2⟩:=old a1;obtain⟨_,mc,v1,v2⟩:=old a2;exact iQ hr.nodup u1 v1 u2 v2
  obtain⟨w,h1,ws,m1,c1,c2,c3,c4,c5,c6⟩:=hs (fun b=>A b∧b≠c) (m.set r (.jc c)) h tf rO xg (hf.sw hm hA) (hx.sw hm hA)
  .have adN:r<H1.length:=(a02.1 h9).1;obtain⟨mb1,e1,e2⟩:=c2.at_ r (.iy es1) (by rw[a1V adN]);have e3:=c5 r (.jc c) (by rw[a1V hrm]);have e4:mb1=.jc c:=by
    rcases e3 with e3|e3<;>rw[e1]at e3<;>cases e3
    .rfl
    .exact e2.elim
   subst e4;obtain⟨p0,VX,p1,p2⟩:=e2;have IC:r<m1.length:=(a02.1 e1).1;have ZU:SwM m1 (m1.set r (.fP c)):=fun i=>by
    by_cases e:i=r
    .subst e;exact .inr (.inr ⟨c,e1,by rw[a1V IC]⟩)
    .exact .inl (by rw[a1M (fun h=>e h.symm)])
   have at1:∀{i:Nat} {mb:MB},i≠r->(m1.set r (.fP c))[i]? = some mb->m1[i]? = some mb:=fun{i mb} e h=>by rw[a1M (fun h=>e h.symm)]at h;exact h
   have BN:∀b,b∈bn (m1.set r (.fP c))->b=c∨b∈bn m1:=fun b hb=>by
    obtain⟨i,mb,a1,a2⟩:=jT hb;by_cases e:i=r
    .subst e;rw[a1V IC]at a1;cases a1;cases a2;exact .inl rfl
    .exact .inr (aZ (at1 e a1) a2)
   have hA1:∀b,AA (fun b=>A b∧b≠c) m1 b->AA A (m1.set r (.fP c)) b:=fun b hb=>⟨hb.1.1,fun h=>by
    rcases BN b h with e|e
    .exact hb.1.2 e
    .exact hb.2 e⟩
   refine⟨w,h1,ws,m1.set r (.fP c),c1,⟨by rw[a3W,c2.len,a3W],fun i b hi=>?_,jl fun i j d a1 a2=>?_,fun b hb=>(c2.up b hb).1,fun b hb=>?_⟩,c3.sw ZU hA1,⟨c4.len,fun b hb hn=>c4.same b hb fun h=>hn (pV b h).1,fun b hb=>?_,c4.grow⟩,fun i mb hi=>?_,fun b hb=>?_⟩
   .by_cases e:i=r
    .subst e;rw[h9]at hi;cases hi;exact⟨.fP c,by rw[a1V IC],VX,p1,p2⟩
    .obtain⟨mb,g1,g2⟩:=c2.at_ i b (by rw[a1M (fun h=>e h.symm)];exact hi);refine⟨mb,by rw[a1M (fun h=>e h.symm)];exact g1,g2.sw ZU hA1 fun d hd hn hd2=>?_⟩;subst hd;rcases BN d hd2 with e5|e5
     .subst e5;rcases a3L i m.length with aQ|Eh
      .have Kq:(m.set r (.jc d))[i]? = m[i]?:=(by rw[a1M (fun h=>e h.symm)]);have hmi:m[i]? = some (.jc d):=by
        rcases c5 i m[i] (by rw[Kq];exact a0E aQ)with e6|e6<;>rw[g1]at e6<;>simp only[a01]at e6
        .rw[a0E aQ,<-e6]
        .cases e6
       have hlH:i<H.length:=by rw[<-hr.len];exact aQ
       obtain⟨mb9,e7,e8⟩:=hr.at_ i _ (a0E hlH);rw[hmi]at e7;cases e7;generalize H[i]=b9 at e8;cases b9<;>first|exact e8.elim|exact e8.1 Gz
      .have e6:(H1.drop H.length)[i-H.length]? = some b:=by rw[a3M,<-hi];congr 1;rw[hr.len]at Eh;omega
       have e7:=Ls hro e6;cases b<;>first|exact g2.elim|cases e7
     .exact hn e5
   .obtain⟨ma,u1,u2⟩:=a1;obtain⟨mc,v1,v2⟩:=a2;by_cases e:i=r<;>by_cases e':j=r
    .rw[e,e']
    .subst e;rw[a1V IC]at u1;cases u1;cases u2;exact absurd (aZ (at1 e' v1) v2) p0
    .subst e';rw[a1V IC]at v1;cases v1;cases v2;exact absurd (aZ (at1 e u1) u2) p0
    .exact iQ c2.nodup (at1 e u1) (at1 e' v1) u2 v2
   .rcases BN b hb with e|e
    .subst e;exact hr.Cm _ Gz
    .exact(c2.Cm b e).1
   .rcases BN b hb with e|e
    .subst e;exact .inl Gz
    .rcases c4.new b e with g|g
     .exact .inl (pV b g).1
     .exact .inr g
   .by_cases e:i=r
    .subst e;rw[q1]at hi;cases hi;exact .inl (by rw[a1V IC])
    .rw[a1M (fun h=>e h.symm)];exact c5 i mb (by rw[a1M (fun h=>e h.symm)];exact hi)
   .obtain⟨k,k1,k2⟩:=c6 b hb;obtain⟨k3,k4⟩:=old k2;exact⟨k,⟨k1,k3⟩,k4⟩
 |_=>exact q2.elim
theorem YV{call:aY}{fv v:PV X.Γ}{xs:List (PV X.Γ)}{W:Nat->Prop}:∀{rs:List Nat} {H H1 Hr Py:List (PB X.Γ)},roB rs H H1=some (Hr,Py)->Ir (H1.drop H.length)=true->Wp X P call fv xs Hr v Py W->Wp X P call fv xs H v H1 fun k=>W k∧k∉rs
 | [],H,H1,Hr,Py,h1,hn,hs=>by
  simp only[roB,a01,a1o]at h1;obtain⟨rfl,rfl⟩:=h1;intro A m h tf rO a b c;obtain⟨w,h1,ws,m1,c1,c2,c3,c4,c5,c6⟩:=hs A m h tf rO a b c;exact⟨w,h1,ws,m1,c1,c2,c3,c4,c5,fun b hb=>by obtain⟨k,k1,k2⟩:=c6 b hb;exact⟨k,⟨k1,by simp⟩,k2⟩⟩
 |r::rs,H,H1,Hr,Py,h1,hn,hs=>by
  simp only[roB]at h1;split at h1
  .rename_i cs Rk e1 e2;have aQ:r<H.length:=(a02.1 e1).1;have:=adM e1 e2 hn (YV h1 (by rw[a3W,List.drop_set_of_lt aQ];exact hn) hs);intro A m h tf rO a b c;obtain⟨w,h1,ws,m1,c1,c2,c3,c4,c5,c6⟩:=this A m h tf rO a b c;exact⟨w,h1,ws,m1,c1,c2,c3,c4,c5,fun b hb=>by obtain⟨k,⟨⟨k1,k3⟩,k4⟩,k2⟩:=c6 b hb;exact⟨k,⟨k1,by simp[k3,k4]⟩,k2⟩⟩
  .rename_i cs Rk e1 e2;have aQ:r<H.length:=(a02.1 e1).1;have:=a9i e1 e2 hn (YV h1 (by rw[a3W,List.drop_set_of_lt aQ];exact hn) hs);intro A m h tf rO a b c;obtain⟨w,h1,ws,m1,c1,c2,c3,c4,c5,c6⟩:=this A m h tf rO a b c;exact⟨w,h1,ws,m1,c1,c2,c3,c4,c5,fun b hb=>by obtain⟨k,⟨⟨k1,k3⟩,k4⟩,k2⟩:=c6 b hb;exact⟨k,⟨k1,by simp[k3,k4]⟩,k2⟩⟩
  cases h1
theorem Wq{α:Type}{rs:List Nat}:∀{ks:List α} {i p:Nat} {k:α},ks[p]? = some k->i+p∉rs->k∈a2j rs i ks
 | [],_,_,_,h,_=>by simp at h
 |a::ks,i,0,k,h,hn=>by
  simp only[a2I,a01]at h;subst h;simp only[a2j];rw[a0S (by simpa using hn)];exact a3u
 |a::ks,i,p+1,k,h,hn=>by
  have:=Wq (ks:=ks) (i:=i+1) (p:=p) (k:=k) (by simpa using h) (by rwa [Nat.add_right_comm,a9L] );simp only[a2j];split
  .exact this
  exact a3w _ this
theorem IE(hX:bK X P){call:aY}{ks:List Nat}{H' Hp H H1 Py:List (PB X.Γ)}{fv fv' v v':PV X.Γ}{xs xs':List (PV X.Γ)}{W:Nat->Prop}(hs:Wp X P call fv xs H v H1 W)
  (jk:ks.Nodup) (hp:Ce H' ks=some Hp) (hH:ni (wo ks) Hp=some H) (hf:fG (wo ks) fv'=some fv) (hx:fG.oL (wo ks) xs'=some xs)
  (hv:fG (bk ks H'.length) v=some v') (hH1:ni (bk ks H'.length) H1=some Py) (hro:Ir (H1.drop ks.length)=true) :
  ∀(A:Nat->Prop) (m':List MB) (h:List HB) (tf:TV) (rO:List TV),HR X P A m' H' h->VR X P (AA A m') m' h fv' tf->bU X P (AA A m') m' h xs' rO ->
  ∃w h1 ws m1,call tf rO h=some (w,h1,ws)∧HR X P A m1 (putAt ks Py H'++Py.drop ks.length) h1∧VR X P (AA A m1) m1 h1 v' w∧Fr m' h m1 h1∧Up m' m1∧∀b∈ws,∃p k,ks[p]? = some k∧W p∧Gx m' k b:=by
 intro A m' h tf rO hr hf' EK;have hpg:=DC hp;have hHg:=sN hH;have hkH:∀{p k:Nat},ks[p]? = some k->k<m'.length:=fun{p k} hk=>by
  obtain⟨b,q1,_⟩:=hpg.2 hk;rw[hr.len];exact(a02.1 q1).1
 have hkm:∀k∈ks,k<m'.length:=fun k hk=>by
  obtain⟨i,hi⟩:=a8i hk;exact hkH hi
 let m:List MB:=ks.map fun k=>m'.getD k .gone
 have hm:∀{p k:Nat},ks[p]? = some k->m[p]? = m'[k]?:=fun{p k} hk=>by
  show(ks.map _)[p]? = _;rw[a3V,hk];have:=hkH hk;simp[a3d,this]
 have a5v:m.length=ks.length:=a3Q ..;have Ru:∀{p:Nat} {mb:MB},m[p]? = some mb->∃k,ks[p]? = some k∧m'[k]? = some mb:=fun{p mb} hpm=>by
  have:p<ks.length:=by rw[<-a5v];exact(a02.1 hpm).1
  have hk:=a0E this;exact⟨_,hk,by rw[<-hm hk];exact hpm⟩
 have pV:∀b,b∈bn m->b∈bn m':=fun b hb=>by
  obtain⟨j,mb,q1,q2⟩:=jT hb;obtain⟨k,_,q3⟩:=Ru q1;exact aZ q3 q2
 have adO:∀{i:Nat} {mb:MB} {b:Nat},i∉ks->m'[i]? = some mb->mb.own=some b->b∉bn m:=fun{i mb b} hi h1 h2 hb=>by
  obtain⟨j,mc,q1,q2⟩:=jT hb;obtain⟨k,q3,q4⟩:=Ru q1;have:=iQ hr.nodup h1 q4 h2 q2;subst this;exact hi (a4b q3)
 let A2:Nat->Prop:=fun b=>A b∧(b∈bn m'->b∈bn m)
 have hA:∀b,AA A m' b->AA A2 m b:=fun b hb=>⟨⟨hb.1,fun h9=>absurd h9 hb.2⟩,fun h9=>hb.2 (pV b h9)⟩;have hg:∀i j,wo ks i=some j->m[j]? = m'[i]?:=fun i j zS=>hm (Oa zS);have xg:HR X P A2 m H h:=by
  refine⟨by rw[a5v,hHg.1,hpg.1],fun j b hj=>?_,jl fun i j c q1 q2=>?_,fun b hb=>⟨hr.up b hb,fun h9=>absurd (hr.inb h9) (by omega)⟩,fun b hb=>⟨hr.Cm b (pV b hb),fun _=>hb⟩⟩
  .obtain⟨b0,q1,q2⟩:=hHg.2 hj;have rM:j<ks.length:=by rw[<-hpg.1];exact(a02.1 q1).1
   have hk:=a0E rM;obtain⟨b9,q5,q6⟩:=hpg.2 hk;rw[q1]at q6;cases q6;obtain⟨mb,q3,q4⟩:=hr.at_ _ _ q5;exact⟨mb,by rw[hm hk];exact q3,Dz hX hg hA (fun c _ h9 h8=>h9 (pV c h8)) q4 q2⟩
  .obtain⟨ma,a1,a2⟩:=q1;obtain⟨mc,c1,c2⟩:=q2;obtain⟨k,a3,a4⟩:=Ru a1;obtain⟨l,c3,c4⟩:=Ru c1;have e:=iQ hr.nodup a4 c4 a2 c2;subst e;exact(List.getElem?_inj (a02.1 a3).1 jk).1 (by rw[a3,c3])
 obtain⟨w,h1,ws,m1,c1,c2,c3,c4,c5,c6⟩:=hs A2 m h tf rO xg (Dy hg hA hX hf' hf) (yZ hX hg hA EK hx);have a5w:ks.length<=m1.length:=by
  rcases ab7 ks.length with e|e
  .omega
  .have aQ:ks.length-1<m.length:=(by omega);have:=c5 (ks.length-1) m[ks.length-1] (a0E aQ);rcases this with g|g<;>(have:=(a02.1 g).1;omega)
 let m1':List MB:=putAt ks m1 m'++m1.drop ks.length
 have hn:m'.length=H'.length:=hr.len;have a9j:(putAt ks m1 m').length=m'.length:=sO;have a0F:∀{p k:Nat},ks[p]? = some k->m1'[k]? = m1[p]?:=fun{p k} hk=>by
  show(putAt ks m1 m'++_)[k]? = _;rw[a0N (by rw[a9j];exact hkH hk),Oe jk hkm a5w hk]
 have YW:∀{i:Nat},i<m'.length->i∉ks->m1'[i]? = m'[i]?:=fun{i} hi hk=>by
  show(putAt ks m1 m'++_)[i]? = _;rw[a0N (by rw[a9j];exact hi),IB hk]
 have YX:∀{j:Nat},ks.length<=j->m1'[m'.length+(j-ks.length)]? = m1[j]?:=fun{j} hj=>by
  show(putAt ks m1 m'++_)[_]? = _;rw[a1H (by rw[a9j];omega),a9j,Nat.add_sub_cancel_left,a3M];congr 1;omega
 have hgb:∀j i,bk ks H'.length j=some i->m1'[i]? = m1[j]?:=fun j i zS=>by
  unfold bk at zS;split at zS
  .rename_i k hk;cases zS;exact a0F hk
  .rename_i hk;cases zS;rw[<-hn];exact YX (by rw[List.getElem?_eq_none_iff]at hk;exact hk)
 have AZ:∀{i:Nat} {mb:MB},m1'[i]? = some mb->(∃p,ks[p]? = some i∧m1[p]? = some mb)∨(i<m'.length∧i∉ks∧m'[i]? = some mb)∨(∃j,ks.length<=j∧i=m'.length+(j-ks.length)∧m1[j]? = some mb):=fun{i mb} hi=>by
  rcases a3L i m'.length with aQ|Eh
  .by_cases hk:i∈ks
   .obtain⟨p,hp⟩:=a8i hk;exact .inl ⟨p,hp,by rw[<-a0F hp];exact hi⟩
   .exact .inr (.inl ⟨aQ,hk,by rw[<-YW aQ hk];exact hi⟩)
  .refine .inr (.inr ⟨i-m'.length+ks.length,by omega,by omega,?_⟩);rw[<-YX (by omega)];rw[<-hi];congr 1;omega
 have yL:∀{b:Nat},b∈bn m1'->b∈bn m1∨∃i mb,i∉ks∧m'[i]? = some mb∧mb.own=some b:=fun{b} hb=>by
  obtain⟨i,mb,q1,q2⟩:=jT hb;rcases AZ q1 with⟨p,_,q3⟩|⟨_,q3,q4⟩|⟨j,_,_,q3⟩
  .exact .inl (aZ q3 q2)
  .exact .inr ⟨i,mb,q3,q4,q2⟩
  .exact .inl (aZ q3 q2)
 have a9k:∀{i b:Nat} {mb:MB},i∉ks->m'[i]? = some mb->mb.own=some b->b∉bn m1:=fun{i b mb} h1 h2 h3 h4=>by
  rcases c4.new b h4 with g|g
  .exact adO h1 h2 h3 g
  .exact absurd (hr.inb (aZ h2 h3)) (by omega)
 have hA3:∀b,AA A2 m1 b->AA A m1' b:=fun b hb=>⟨hb.1.1,fun h9=>by
  rcases yL h9 with g|⟨i,mb,g1,g2,g3⟩
  .exact hb.2 g
  .exact adO g1 g2 g3 (hb.1.2 (aZ g2 g3))⟩
 have hF:Fr m' h m1' h1:=⟨c4.len,fun b hb hnb=>c4.same b hb fun h9=>hnb (pV b h9),fun b hb=>by
  rcases yL hb with g|⟨i,mb,g1,g2,g3⟩
  .rcases c4.new b g with g|g
   .exact .inl (pV b g)
   .exact .inr g
  .exact .inl (aZ g2 g3),c4.grow⟩
 have hU:Up m' m1':=fun i mb hi=>by
  have aQ:=(a02.1 hi).1;by_cases hk:i∈ks
  .obtain⟨p,hp⟩:=a8i hk;rw[a0F hp];exact c5 p mb (by rw[hm hp];exact hi)
  .exact .inl (by rw[YW aQ hk];exact hi)
 have adP:=sN hH1;have ahD:m1.length=H1.length:=c2.len;refine⟨w,h1,ws,m1',c1,⟨?_,fun i b hi=>?_,?_,fun b hb=>(c2.up b hb).1,fun b hb=>?_⟩,Dy hgb hA3 hX c3 hv,hF,hU,fun b hb=>?_⟩
 .show(putAt ks m1 m'++_).length=_;rw[a2m,a2m,sO,sO,a3D,a3D,adP.1,ahD,hn]
 .have ahE:ks.length<=Py.length:=by rw[adP.1,<-ahD];exact a5w
  have ani:∀k∈ks,k<H'.length:=fun k hk=>by rw[<-hn];exact hkm k hk
  have back:∀{j:Nat} {b:PB X.Γ},Py[j]? = some b->∃mb,m1[j]? = some mb∧BR X P (AA A m1') m1' h1 b mb:=fun{j b} hj=>by
   obtain⟨b0,q1,q2⟩:=adP.2 hj;obtain⟨mb,q3,q4⟩:=c2.at_ j b0 q1;refine⟨mb,q3,Dz hX hgb hA3 (fun c e h9 h8=>?_) q4 q2⟩;rcases yL h8 with g|⟨i,Le,g1,g2,g3⟩
   .exact h9 g
   .subst e;rcases a3L j ks.length with hj1|hj1
    .have hk:=a0E hj1;have rM:j<m.length:=by rw[a5v];exact hj1
     have hmj:m[j]? = some (.jc c):=by
      rcases c5 j _ (a0E rM)with e|e<;>rw[q3]at e<;>simp only[a01]at e
      .rw[a0E rM,<-e]
      .cases e
     obtain⟨k,e1,e2⟩:=Ru hmj;obtain⟨b9,e3,_⟩:=hpg.2 e1;obtain⟨mb9,e4,e5⟩:=hr.at_ _ _ e3;rw[e2]at e4;cases e4;cases b9<;>first|exact e5.elim|exact e5.1 (aZ g2 g3)
    .have e1:(H1.drop ks.length)[j-ks.length]? = some b0:=by rw[a3M,<-q1];congr 1;omega
     have e2:=Ls hro e1;cases b0<;>first|exact q4.elim|cases e2
  rcases a3L i H'.length with aQ|Eh
  .rw[a0N (by rw[sO];exact aQ)]at hi;by_cases hk:i∈ks
   .obtain⟨p,hpk⟩:=a8i hk;rw[Oe jk ani ahE hpk]at hi;obtain⟨mb,q1,q2⟩:=back hi;exact⟨mb,by rw[a0F hpk];exact q1,q2⟩
   .rw[IB hk]at hi;obtain⟨mb,q1,q2⟩:=hr.at_ i b hi;refine⟨mb,by rw[YW (by rw[hn];exact aQ) hk];exact q1,q2.step hF hU fun c hc=>?_⟩;exact c4.same c (hr.inb (aZ q1 hc)) (adO hk q1 hc)
  .rw[a1H (by rw[sO];exact Eh),sO,a3M]at hi;obtain⟨mb,q1,q2⟩:=back hi;refine⟨mb,?_,q2⟩;have:=YX (j:=ks.length+(i-H'.length)) (by omega);rw[q1]at this;rw[<-this];congr 1;omega
 .refine jl fun i j c q1 q2=>?_;obtain⟨ma,a1,a2⟩:=q1;obtain⟨mc,b1,b2⟩:=q2;rcases AZ a1 with⟨p,a3,a4⟩|⟨a3,a4,a5⟩|⟨p,a3,a4,a5⟩<;>rcases AZ b1 with⟨q,b3,b4⟩|⟨b3,b4,b5⟩|⟨q,b3,b4,b5⟩
  .have:=iQ c2.nodup a4 b4 a2 b2;subst this;rw[a3]at b3;cases b3;rfl
  .exact absurd (aZ a4 a2) (a9k b4 b5 b2)
  .have:=iQ c2.nodup a4 b5 a2 b2;subst this;have:=(a02.1 a3).1;omega
  .exact absurd (aZ b4 b2) (a9k a4 a5 a2)
  .exact iQ hr.nodup a5 b5 a2 b2
  .exact absurd (aZ b5 b2) (a9k a4 a5 a2)
  .have:=iQ c2.nodup a5 b4 a2 b2;subst this;have:=(a02.1 b3).1;omega
  .exact absurd (aZ a5 a2) (a9k b4 b5 b2)
  .have:=iQ c2.nodup a5 b5 a2 b2;subst this;omega
 .rcases yL hb with g|⟨i,mb,g1,g2,g3⟩
  .exact(c2.Cm b g).1
  .exact hr.Cm b (aZ g2 g3)
 .obtain⟨j,hw,mb,q1,q2⟩:=c6 b hb;obtain⟨k,q3,q4⟩:=Ru q1;exact⟨j,k,q3,hw,mb,q4,q2⟩
end
end Pv
