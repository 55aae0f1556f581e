/- Part 3 of a proof: ApplyMeets -/
import Derived.Test.YtmobpoiejckagaaGreatP01
set_option linter.constructorNameAsVariable false
set_option linter.unusedVariables false
set_option linter.unusedSimpArgs false
set_option linter.unusedSectionVars false
noncomputable section
namespace Pv
open Go Tw
section
variable{X:mX}{P:LI1}{A:Nat->Prop}{m m':List MB}{h h':List HB}{H H':List (PB X.Γ)}
theorem bZ.nil:bZ X P A m h [] []:=⟨rfl,fun i x y hx=>by simp at hx⟩
theorem bZ.cons{v x vs xs}(h1:VR X P A m h v x)(h2:bZ X P A m h vs xs):bZ X P A m h (v::vs) (x::xs):=by
 refine⟨by simp[h2.1],fun i a b ha hb=>?_⟩;cases i with
 |zero=>simp only[a2I,a08]at ha hb;subst ha;subst hb;exact h1
 |succ i=>exact h2.2 i a b (by simpa using ha) (by simpa using hb)
theorem bZ.inv{v vs xs}(hv:bZ X P A m h (v::vs) xs):∃x r,xs=x::r/\VR X P A m h v x/\bZ X P A m h vs r:=by
 cases xs with
 |nil=>have:=hv.1;simp at this
 |cons x r=>exact⟨x,r,rfl,hv.2 0 v x rfl rfl,by have:=hv.1;simpa using this,fun i a b ha hb=>hv.2 (i+1) a b (by simpa using ha) (by simpa using hb)⟩
theorem bZ.inv0{xs}(hv:bZ X P A m h [] xs):xs=[]:=by have:=hv.1;cases xs<;>simp_all
theorem bZ.app{a b x y}(h1:bZ X P A m h a x)(h2:bZ X P A m h b y):bZ X P A m h (a++b) (x++y):=by
 refine⟨by simp[h1.1,h2.1],fun i c d hc hd=>?_⟩;rcases a4O i a.length with hl|hl
 .rw[a0P hl]at hc;rw[a0P (by rw[<-h1.1];exact hl)]at hd;exact h1.2 i c d hc hd
 rw[a1p hl]at hc;rw[a1p (by rw[<-h1.1];exact hl),<-h1.1]at hd;exact h2.2 _ c d hc hd
theorem bZ.drop{a x}(h1:bZ X P A m h a x)(n):bZ X P A m h (a.drop n) (x.drop n):=
 ⟨by simp[h1.1],fun i c d hc hd=>h1.2 (n+i) c d (by rw[<-hc,a5u]) (by rw[<-hd,a5u])⟩
theorem bZ.take{a x}(h1:bZ X P A m h a x)(n):bZ X P A m h (a.take n) (x.take n):=by
 refine⟨by simp[h1.1],fun i c d hc hd=>?_⟩;rw[a5f]at hc hd;split at hc
 .rename_i hl;rw[a15 hl]at hd;exact h1.2 i c d hc hd
 cases hc
theorem bZ.get{a x}(h1:bZ X P A m h a x){i:Nat}{c}(hc:a[i]? = some c):∃v,x[i]? = some v/\VR X P A m h c v:=by
 have hl:i<x.length:=by rw[<-h1.1];exact(a0u.1 hc).1
 exact⟨x[i],a0A hl,h1.2 i c _ hc (a0A hl)⟩
theorem TK{v x tv}(hv:VR X P A m h v x)(hp:su v=some tv):x=tv:=by
 cases hv with
 |gone hi _ _=>cases v<;>simp[bF]at hi<;>simp[su]at hp
 |_=>first|(simp only[su,a08]at hp;exact hp)|(simp[su]at hp;done)
theorem GY:∀{vs} {xs tvs:List TV},bZ X P A m h vs xs->jf vs=some tvs->xs=tvs
 | [],xs,tvs,hv,hp=>by simp only[jf,a08]at hp;rw[hv.inv0,hp]
 |v::vs,xs,tvs,hv,hp=>by
  obtain⟨x,r,rfl,h1,h2⟩:=hv.inv;simp only[jf]at hp;split at hp
  .rename_i a b ha hb;cases hp;rw[TK h1 ha,GY h2 hb]
  cases hp
theorem kF{v x tv}(hv:VR X P A m h v x)(hp:qH v=some tv):x=tv:=by
 cases v with
 |agg cs=>
  simp only[qH,a0x]at hp;obtain⟨tvs,h1,rfl⟩:=hp;cases hv with
  |agg h2 h3=>rw[GY ⟨h2,h3⟩ h1]
  |gone hi _ _=>simp[bF]at hi
 |_=>exact TK hv hp
theorem a2h:∀{vs} {xs tvs:List TV},bZ X P A m h vs xs->Vl vs=some tvs->xs=tvs
 | [],xs,tvs,hv,hp=>by simp only[Vl,a08]at hp;rw[hv.inv0,hp]
 |v::vs,xs,tvs,hv,hp=>by
  obtain⟨x,r,rfl,h1,h2⟩:=hv.inv;simp only[Vl]at hp;split at hp
  .rename_i a b ha hb;cases hp;rw[kF h1 ha,a2h h2 hb]
  cases hp
theorem a7b{v x}(hp:ofC x=some v):VR X P A m h v x:=by cases x<;>simp[ofC]at hp<;>subst hp<;>constructor
theorem Vy:∀{xs} {vs},Dl xs=some vs->bZ X P A m h vs xs
 | [],vs,hp=>by simp only[Dl,a08]at hp;subst hp;exact .nil
 |x::xs,vs,hp=>by
  simp only[Dl]at hp;split at hp
  .rename_i a b ha hb;cases hp;exact .cons (a7b ha) (Vy hb)
  cases hp
theorem xP{v x}(hp:Zw x=some v):VR X P A m h v x:=by
 cases x with
 |agg cs=>
  simp only[Zw,a0x]at hp;obtain⟨vs,h1,rfl⟩:=hp;have:=Vy (X:=X) (P:=P) (A:=A) (m:=m) (h:=h) h1;exact .agg this.1 this.2
 |_=>exact a7b hp
theorem TL{v x}(hp:su v=some x):VR X P A m h v x:=by
 cases v<;>simp only[su,a08,reduceCtorEq]at hp<;>subst hp
 .exact .bool _
 .exact .int _ _
 .exact .str _
 exact .nil _
theorem GZ:∀{vs} {xs:List TV},jf vs=some xs->bZ X P A m h vs xs
 | [],xs,hp=>by simp only[jf,a08]at hp;subst hp;exact .nil
 |v::vs,xs,hp=>by
  simp only[jf]at hp;split at hp
  .rename_i a b ha hb;cases hp;exact .cons (TL ha) (GZ hb)
  cases hp
theorem oJ{v x}(hp:qH v=some x):VR X P A m h v x:=by
 cases v with
 |agg cs=>
  simp only[qH,a0x]at hp;obtain⟨vs,h1,rfl⟩:=hp;have:=GZ (X:=X) (P:=P) (A:=A) (m:=m) (h:=h) h1;exact .agg this.1 this.2
 |_=>exact TL hp
theorem II{v x}(hv:VR X P A m h v x):VR X P A m h (a1Z v) x:=by
 cases v with
 |lit b=>
  cases hv with
  |lit=>exact .bool _
  |gone hi _ _=>simp[bF]at hi
 |_=>exact hv
theorem a7c{v x}(hv:VR X P A m h v x):iR x=a0g v:=by
 cases hv with
 |own _ o=>exact o
 |gone hi _ o=>rw[o];cases v<;>simp[bF]at hi<;>rfl
 |_=>rfl
theorem IJ{v x}(hv:VR X P A m h v x):bZ X P A m h v.cells x.cells:=by
 have hq:=a7c hv;cases v with
 |agg cs=>
  cases hv with
  |agg h1 h2=>exact⟨h1,h2⟩
  |gone hi _ _=>simp[bF]at hi
 |dB cs=>
  have hv':=hv;cases hv with
  |dB h1 h2=>exact .cons hv' .nil
  |gone hi _ _=>simp[bF]at hi
 |_=>
  have:x.cells=[x]:=by cases x<;>first|rfl|(simp[iR,a0g]at hq;done)
  rw[this];exact .cons hv .nil
theorem EP:∀{vs} {xs:List TV},bZ X P A m h vs xs->xs.all iR=vs.all a0g
 | [],xs,hv=>by rw[hv.inv0];rfl
 |v::vs,xs,hv=>by obtain⟨x,r,rfl,h1,h2⟩:=hv.inv;simp only[ac9,a7c h1,EP h2]
theorem afJ{cs xs}(hv:bZ X P A m h cs xs){off n r}(hs:afC cs off n=some r):∃r',sub xs off n=some r'/\bZ X P A m h r r':=by
 unfold afC at hs;split at hs
 .rename_i hl;cases hs;exact⟨_,by unfold sub;rw[a15 (by rw[<-hv.1];exact hl)],(hv.drop off).take n⟩
 cases hs
theorem IK{cs new xs ajX}(hv:bZ X P A m h cs xs)(hn:bZ X P A m h new ajX){off r}(hs:Pq cs off new=some r):∃r',wY xs off ajX=some r'/\bZ X P A m h r r':=by
 unfold Pq at hs;split at hs
 .rename_i hl;cases hs;refine⟨_,by unfold wY;rw[a15 (by rw[<-hv.1,<-hn.1];exact hl)],?_⟩;rw[<-hn.1];exact((hv.take off).app hn).app (hv.drop _)
 cases hs
theorem BD{cs xs}(hv:bZ X P A m h cs xs){t off v}(hs:Iy P t cs off=some v):∃x,vk P t xs off=some x/\VR X P A m h v x:=by
 unfold Iy at hs;unfold vk;split at hs
 .rename_i n ha hn;simp only[a0x]at hs;obtain⟨r,h1,rfl⟩:=hs;obtain⟨r',g1,g2⟩:=afJ hv h1;exact⟨.agg r',by simp only[ha,hn,g1,a1l],.agg g2.1 g2.2⟩
 .rename_i n ha hn;split at hs
  .rename_i h1;obtain⟨x,g1,g2⟩:=hv.get hs;exact⟨x,by simp only[ha,hn,h1,a2l,g1],g2⟩
  cases hs
 cases hs
theorem IL{t z}(hz:TG P t=some z):∃z',LJ P t=some z'/\bZ X P A m h z z':=by
 unfold TG at hz;split at hz
 .rename_i z' h1;exact⟨z',h1,Vy hz⟩
 cases hz
def VPs(X:mX)(P:LI1)(A:Nat->Prop)(m:List MB)(h:List HB)(ps:List (Nat×PV X.Γ))(qs:List (Nat×TV)):Prop:=
 ps.length=qs.length/\∀(i:Nat) a b,ps[i]? = some a->qs[i]? = some b->a.1=b.1/\VR X P A m h a.2 b.2
theorem VPs.inv{a ps qs}(hv:VPs X P A m h (a::ps) qs):∃x r,qs=(a.1,x)::r/\VR X P A m h a.2 x/\VPs X P A m h ps r:=by
 cases qs with
 |nil=>have:=hv.1;simp at this
 |cons q r=>
  obtain⟨h1,h2⟩:=hv.2 0 a q rfl rfl;refine⟨q.2,r,by rw[h1],h2,by have:=hv.1;simpa using this,fun i x y hx hy=>hv.2 (i+1) x y (by simpa using hx) (by simpa using hy)⟩
theorem NU{pl}:∀{ps} {qs:List (Nat×TV)} {cs:List (PV X.Γ)} {xs:List TV},VPs X P A m h ps qs->bZ X P A m h cs xs->∀{r},Px pl cs ps=some r->∃r',ug pl xs qs=some r'/\bZ X P A m h r r'
 | [],qs,cs,xs,hp,hv,r,hs=>by
  have:qs=[]:=by have:=hp.1;cases qs<;>simp_all
  subst this;simp only[Px,a08]at hs;subst hs;exact⟨xs,rfl,hv⟩
 |(i,v)::ps,qs,cs,xs,hp,hv,r,hs=>by
  obtain⟨x,rest,rfl,h1,h2⟩:=hp.inv;have hc:=IJ h1;simp only[Px]at hs;split at hs
  .rename_i off size zq;split at hs
   .rename_i qV;split at hs
    .rename_i cs' ho;obtain⟨xs',g1,g2⟩:=IK hv hc ho;obtain⟨r',g3,g4⟩:=NU h2 g2 hs;have afl:x.cells.length=size:=by rw[<-hc.1];exact qV
     exact⟨r',by simp only[ug,zq,afl,a2l,g1,g3],g4⟩
    cases hs
   cases hs
  cases hs
theorem a7d{t ps qs}(hp:VPs X P A m h ps qs){v}(hs:a0i P t ps=some v):∃x,Om P t qs=some x/\VR X P A m h v x:=by
 unfold a0i at hs;unfold Om;split at hs
 .rename_i z fs hz hu;obtain⟨z',g1,g2⟩:=IL (A:=A) (m:=m) (h:=h) hz;split at hs
  .rename_i ha;simp only[a0x]at hs;obtain⟨r,h1,rfl⟩:=hs;obtain⟨r',g3,g4⟩:=NU hp g2 h1;exact⟨.agg r',by simp only[g1,hu,ha,a2l,g3,a1l],.agg g4.1 g4.2⟩
  cases hs
 .rename_i z n e hz hu;obtain⟨z',g1,g2⟩:=IL (A:=A) (m:=m) (h:=h) hz;split at hs
  .rename_i k hk;simp only[a0x]at hs;obtain⟨r,h1,rfl⟩:=hs;obtain⟨r',g3,g4⟩:=NU hp g2 h1;exact⟨.agg r',by simp only[g1,hu,hk,g3,a1l],.agg g4.1 g4.2⟩
  cases hs
 cases hs
theorem XM{z z'}(hz:bZ X P A m h z z'):∀n,bZ X P A m h (a0j z n) (times z' n)
 | 0=>.nil
 |n+1=>hz.app (XM hz n)
section
variable{env:List (Nat×PE X.Γ)}{env':List (Nat×EV)}
theorem a2i(he:kR X P A m h env env'){t}:(Gf t env=none/\dO t env'=none)\/∃v x,Gf t env=some v/\dO t env'=some x/\JG X P A m h v x:=by
 induction he with
 |nil=>exact .inl ⟨rfl,rfl⟩
 |cons h1 _ ih=>
  rename_i k v x r r' _;simp only[Gf,dO];by_cases e:k=t
  .right;exact⟨v,x,by rw[a15 e],by rw[a15 e],h1⟩
  rw[a0S e,a0S e];exact ih
theorem pJ(he:kR X P A m h env env'){t v}(hl:Gf t env=some v):∃x,dO t env'=some x/\JG X P A m h v x:=by
 rcases a2i he (t:=t)with⟨h1,_⟩|⟨w,x,h1,h2,h3⟩
 .rw[hl]at h1;cases h1
 rw[hl]at h1;cases h1;exact⟨x,h2,h3⟩
theorem nS(he:kR X P A m h env env'){o v}(hl:GN env o=some v):∃x,JD env' o=some x/\JG X P A m h v x:=by
 cases o with
 |tmp t=>exact pJ he hl
 |const c=>
  simp only[GN]at hl;split at hl
  .rename_i b hb;cases hl;exact⟨.val (.bool b),by simp only[JD,hb,a1l],VR.lit b⟩
  .rename_i x _ hx;simp only[a0x]at hl;obtain⟨w,h1,rfl⟩:=hl;exact⟨.val x,by simp only[JD,hx,a1l],xP h1⟩
  cases hl
 |func f=>
  simp only[GN,a08]at hl;subst hl;exact⟨.val (.fn f [] []),rfl,.fn rfl (by simp) rfl (by simp)⟩
 |global g=>cases hl
theorem gV{v x}(hp:JG X P A m h (.val v) x):∃y,x=.val y/\VR X P A m h v y:=by
 cases x with
 |val y=>exact⟨y,rfl,hp⟩
 |_=>exact hp.elim
theorem ES{k o x}(hp:JG X P A m h (.loc k o) x):x=.loc k o:=by
 cases x with
 |loc k' o'=>obtain⟨rfl,rfl⟩:=hp;rfl
 |_=>exact hp.elim
theorem Kz{x}(hp:JG X P A m h .undef x):x=.undef:=by
 cases x with
 |undef=>rfl
 |_=>exact hp.elim
theorem NV{r j v x}(hp:JG X P A m h (.ent r j v) x):∃c y,x=.ent c j y/\VR X P A m h (.map r) (.map c)/\qH v=some y:=by
 cases x with
 |ent c j' y=>obtain⟨h1,rfl,h2⟩:=hp;exact⟨c,y,rfl,h1,h2⟩
 |_=>exact hp.elim
theorem NW{r j x}(hp:JG X P A m h (.Fz r j) x):∃c,x=.Fz c j/\VR X P A m h (.map r) (.map c):=by
 cases x with
 |Fz c j'=>obtain⟨h1,rfl⟩:=hp;exact⟨c,rfl,h1⟩
 |_=>exact hp.elim
theorem XO(he:kR X P A m h env env'){o v}(hl:a2a env o=some v):∃x,rO env' o=some x/\VR X P A m h v x:=by
 unfold a2a at hl;split at hl
 .rename_i w hw;cases hl;obtain⟨x,h1,h2⟩:=nS he hw;obtain⟨y,rfl,h3⟩:=gV h2;exact⟨y,by simp only[rO,h1],h3⟩
 cases hl
theorem jM(he:kR X P A m h env env'){o v}(hl:AV env o=some v):∃x,rO env' o=some x/\VR X P A m h v x:=by
 unfold AV at hl;split at hl
 .rename_i w hw;cases hl;obtain⟨x,h1,h2⟩:=nS he hw;obtain⟨y,rfl,h3⟩:=gV h2;exact⟨y,by simp only[rO,h1],II h3⟩
 cases hl
theorem Vz(he:kR X P A m h env env'):∀{os} {vs},a0h env os=some vs->∃xs,UK env' os=some xs/\bZ X P A m h vs xs
 | [],vs,hl=>by simp only[a0h,a08]at hl;subst hl;exact⟨[],rfl,.nil⟩
 |o::os,vs,hl=>by
  simp only[a0h]at hl;split at hl
  .rename_i v ws h1 h2;cases hl;obtain⟨x,g1,g2⟩:=jM he h1;obtain⟨xs,g3,g4⟩:=Vz he h2;exact⟨x::xs,by simp only[UK,g1,g3],.cons g2 g4⟩
  cases hl
theorem a0s(he:kR X P A m h env env'):∀{os} {vs:List (Nat×PV X.Γ)},a4e env os=some vs->∃xs,Xa env' os=some xs/\VPs X P A m h vs xs
 | [],vs,hl=>by simp only[a4e,a08]at hl;subst hl;exact⟨[],rfl,rfl,fun i a b ha=>by simp at ha⟩
 |(i,o)::os,vs,hl=>by
  simp only[a4e]at hl;split at hl
  .rename_i v ws h1 h2;cases hl;obtain⟨x,g1,g2⟩:=jM he h1;obtain⟨xs,g3,g4⟩:=a0s he h2;refine⟨(i,x)::xs,by simp only[Xa,g1,g3],by simp[g4.1],fun j a b ha hb=>?_⟩;cases j with
   |zero=>simp only[a2I,a08]at ha hb;subst ha;subst hb;exact⟨rfl,g2⟩
   |succ j=>exact g4.2 j a b (by simpa using ha) (by simpa using hb)
  cases hl
def OR(X:mX)(P:LI1)(A:Nat->Prop)(m:List MB)(h:List HB):Option (PV X.Γ)->Option TV->Prop
 |none,none=>True
 |some v,some x=>VR X P A m h v x
 |_,_=>False
theorem IQ(he:kR X P A m h env env'){o v}(hl:Po env o=some v):∃x,Xc env' o=some x/\OR X P A m h v x:=by
 cases o with
 |none=>simp only[Po,a08]at hl;subst hl;exact⟨none,rfl,trivial⟩
 |some o=>
  simp only[Po]at hl;split at hl
  .rename_i w hw;cases hl;obtain⟨x,g1,g2⟩:=jM he hw;exact⟨some x,by simp only[Xc,g1],g2⟩
  cases hl
theorem VA(he:kR X P A m h env env'):∀live,kR X P A m h (jG live env) (pick live env')
 | []=>.nil
 |t::r=>by
  simp only[jG,pick];rcases a2i he (t:=t)with⟨h1,h2⟩|⟨v,x,h1,h2,h3⟩
  .rw[h1,h2];exact VA he r
  rw[h1,h2];exact .cons h3 (VA he r)
theorem aaM(he:kR X P A m h env env'){t b}(hb:dO t env'=some (.val (.bool b))):kR X P A m h (Pv.D6 t b env) env':=by
 induction he with
 |nil=>exact .nil
 |cons h1 h2 ih=>
  rename_i k v x r r';simp only[dO]at hb;simp only[Pv.D6];by_cases e:k=t
  .rw[a15 e]at hb ⊢;cases hb;exact .cons (VR.lit b) h2
  rw[a0S e]at hb ⊢;exact .cons h1 (ih hb)
theorem afK(he:kR X P A m h env env'):Vw X env=Dw env':=by
 induction he with
 |nil=>rfl
 |cons h1 _ ih=>
  rename_i k v x r r' _;cases v with
  |val v=>obtain⟨y,rfl,_⟩:=gV h1;simpa[Vw,Dw]using ih
  |loc a b=>rw[ES h1];simp only[Vw,Dw,ih]
  |undef=>rw[Kz h1];simpa[Vw,Dw]using ih
  |ent=>obtain⟨_,_,rfl,_⟩:=NV h1;simpa[Vw,Dw]using ih
  |Fz=>obtain⟨_,rfl,_⟩:=NW h1;simpa[Vw,Dw]using ih
end
end
structure bT(X:mX)(P:LI1):Prop where
 dec:∀{t:Nat} {vs:List (PV X.Γ)} {a:X.Γ t},X.dec t vs=some a->∀{A:Nat->Prop} {m:List MB} {h:List HB} {xs:List TV},bZ X P A m h vs xs->bZ X P A m h (X.enc t a) xs
 jH:∀(t:Nat) (a:X.Γ t),jH.IB (X.enc t a)=true
section
variable{X:mX}{P:LI1}{A B:Nat->Prop}{m m':List MB}{h h':List HB}{H H':List (PB X.Γ)}
theorem VR.mono(hAB:∀b,A b->B b){v x}(hv:VR X P A m h v x):VR X P B m h v x:=by
 induction hv with
 |bool=>exact .bool _
 |lit=>exact .lit _
 |int=>exact .int _ _
 |str=>exact .str _
 |nil=>exact .nil _
 |ptr e=>exact .ptr e
 |aP e=>exact .aP e
 |own e o=>exact .own e o
 |win e q q' q2=>exact .win e q q' q2
 |D7 e=>exact .D7 e
 |Hz e=>exact .Hz e
 |Kv e=>exact .Kv e
 |map e=>exact .map e
 |iter e=>exact .iter e
 |fn h1 _ h3 _ i2 i4=>exact .fn h1 i2 h3 i4
 |lJ e=>exact .lJ e
 |agg h1 _ i2=>exact .agg h1 i2
 |dB h1 _ i2=>exact .dB h1 i2
 |qx=>exact .qx
 |dF a c c2 s z o k f e _ ih=>exact .dF (hAB _ a) c c2 s z o k f e ih
 |el a c l o e q _ ih=>exact .el (hAB _ a) c l o e q ih
 |row e j q=>exact .row e j q
 |gone i e o=>exact .gone i e o
theorem bZ.mono(hAB:∀b,A b->B b){v x}(hv:bZ X P A m h v x):bZ X P B m h v x:=⟨hv.1,fun i a b ha hb=>(hv.2 i a b ha hb).mono hAB⟩
theorem gq:∀{vs} {i:Nat} {v:PV X.Γ},jH.IB vs=true->vs[i]? = some v->jH v=true
 | [],_,_,_,h=>by simp at h
 |a::vs,i,v,hc,h=>by
  simp only[jH.IB,a2o]at hc;cases i with
  |zero=>simp only[a2I,a08]at h;subst h;exact hc.1
  |succ i=>exact gq hc.2 (by simpa using h)
theorem VR.jH(hX:bT X P){v x}(hv:VR X P A m h v x)(hc:Pv.jH v=true):VR X P A m' h v x:=by
 induction hv with
 |bool=>exact .bool _
 |lit=>exact .lit _
 |int=>exact .int _ _
 |str=>exact .str _
 |nil=>exact .nil _
 |fn h1 _ h3 _ i2 i4=>
  simp only[Pv.jH,a2o]at hc;exact .fn h1 (fun i x y hx hy=>i2 i x y hx hy (gq hc.1 hx)) h3 (fun i x y hx hy=>i4 i x y hx hy (gq hc.2 hx))
 |agg h1 _ i2=>
  simp only[Pv.jH]at hc;exact .agg h1 (fun i x y hx hy=>i2 i x y hx hy (gq hc hx))
 |dB h1 _ i2=>
  simp only[Pv.jH]at hc;exact .dB h1 (fun i x y hx hy=>i2 i x y hx hy (gq hc hx))
 |qx=>exact .qx
 |dF a c c2 s z o k f e _ ih=>exact .dF a c c2 s z o k f e fun j y i d v h1 h2 h3=>ih j y i d v h1 h2 h3 (gq (hX.jH _ _) h2)
 |el a c l o e q _ ih=>exact .el a c l o e q fun i d v h1 h2=>ih i d v h1 h2 (gq (hX.jH _ _) h1)
 |gone i e o=>rename_i v _ _;cases v<;>simp[bF]at i<;>simp[Pv.jH]at hc
 |_=>simp[Pv.jH]at hc
theorem eG.jH(hX:bT X P){t l cs off sz}(hv:eG X P A m h t l cs off sz):eG X P A m' h t l cs off sz:=
 ⟨hv.1,hv.2.1,fun j a i c v h1 h2 h3=>(hv.2.2 j a i c v h1 h2 h3).jH hX (gq (hX.jH _ _) h2)⟩
theorem eG.mono(hAB:∀b,A b->B b){t l cs off sz}(hv:eG X P A m h t l cs off sz):eG X P B m h t l cs off sz:=
 ⟨hv.1,hv.2.1,fun j a i c v h1 h2 h3=>(hv.2.2 j a i c v h1 h2 h3).mono hAB⟩
theorem VR.move(hX:bT X P)(hA:∀q cs,A q->aU h q=some cs->B q/\h'[q]? = h[q]?){v x}(hv:VR X P A m h v x)(hc:Pv.jH v=true):VR X P B m' h' v x:=by
 induction hv with
 |bool=>exact .bool _
 |lit=>exact .lit _
 |int=>exact .int _ _
 |str=>exact .str _
 |nil=>exact .nil _
 |fn h1 _ h3 _ i2 i4=>
  simp only[Pv.jH,a2o]at hc;exact .fn h1 (fun i x y hx hy=>i2 i x y hx hy (gq hc.1 hx)) h3 (fun i x y hx hy=>i4 i x y hx hy (gq hc.2 hx))
 |agg h1 _ i2=>
  simp only[Pv.jH]at hc;exact .agg h1 (fun i x y hx hy=>i2 i x y hx hy (gq hc hx))
 |dB h1 _ i2=>
  simp only[Pv.jH]at hc;exact .dB h1 (fun i x y hx hy=>i2 i x y hx hy (gq hc hx))
 |qx=>exact .qx
 |dF a c c2 s z o k f e _ ih=>obtain⟨a',c'⟩:=hA _ _ a c;exact .dF a' ((fM c').trans c) (fun hl=>(yU c').trans (c2 hl)) s z o k f e fun j y i d v h1 h2 h3=>ih j y i d v h1 h2 h3 (gq (hX.jH _ _) h2)
 |el a c l o e q _ ih=>obtain⟨a',c'⟩:=hA _ _ a (BA c);exact .el a' ((yU c').trans c) l o e q fun i d v h1 h2=>ih i d v h1 h2 (gq (hX.jH _ _) h1)
 |gone i e o=>rename_i v _ _;cases v<;>simp[bF]at i<;>simp[Pv.jH]at hc
 |_=>simp[Pv.jH]at hc
theorem eG.move(hX:bT X P)(hA:∀q cs,A q->aU h q=some cs->B q/\h'[q]? = h[q]?){t l cs off sz}(hv:eG X P A m h t l cs off sz):eG X P B m' h' t l cs off sz:=
 ⟨hv.1,hv.2.1,fun j a i c v h1 h2 h3=>(hv.2.2 j a i c v h1 h2 h3).move hX hA (gq (hX.jH _ _) h2)⟩
def FA(A:Nat->Prop)(m:List MB)(is:List Nat):Nat->Prop:=fun b=>AA A m b\/∃i mb,i∈is/\m[i]? = some mb/\mb.own=some b
theorem FA.mono{is js}(hs:∀i,i∈is->i∈js){b}(hb:FA A m is b):FA A m js b:=by
 rcases hb with h|⟨i,mb,h1,h2,h3⟩
 .exact .inl h
 exact .inr ⟨i,mb,hs i h1,h2,h3⟩
theorem PN:∀(is) {m} {i} {mb},(cu is m)[i]? = some mb->mb.own≠none->i∉is/\m[i]? = some mb
 | [],_,_,_,h,_=>⟨by simp,h⟩
 |j::is,m,i,mb,h,hn=>by
  obtain⟨h1,h2⟩:=PN is (m:=m.set j .gone) h hn;by_cases e:j=i
  .subst e;rw[a5v]at h2;cases hx:m[j]? with
   |none=>rw[hx]at h2;cases h2
   |some y=>rw[hx]at h2;cases h2;exact absurd rfl hn
  rw[a1w e]at h2;exact⟨by simp[h1,afp e],h2⟩
theorem BF{is m b}(hb:b∈bn (cu is m)):∃i mb,i∉is/\m[i]? = some mb/\mb.own=some b:=by obtain⟨mb,hm,ho⟩:=a6I.1 hb;obtain⟨i,hi⟩:=a9z hm;obtain⟨h1,h2⟩:=PN is hi (by rw[ho];simp);exact⟨i,mb,h1,h2,ho⟩
theorem FA.gone(hr:HR X P A m H h){is b}(hb:FA A m is b):AA A (cu is m) b:=by
 rcases hb with hb|⟨i,mb,h1,h2,h3⟩
 .refine⟨hb.1,fun hm=>?_⟩;obtain⟨i,mb,_,h2,h3⟩:=BF hm;exact hb.2 (bg h2 h3)
 refine⟨hr.DX b (bg h2 h3),fun hm=>?_⟩;obtain⟨j,Nh,g1,g2,g3⟩:=BF hm;have:=jh hr.nodup h2 g2 h3 g3;exact g1 (this▸h1)
theorem TM(hX:bT X P)(hr:HR X P A m H h){k ex t i l x}(hl:LR X P (AA A m) m h k ex t l x)(hi:m[i]? = some (.dF x)){is}(hs:i∈is):VR X P (FA A m is) m' h (.dF t l false) x:=by
 cases hl with
 |nil=>exact .qx
 |emp h0 h1 h2 h3 h4=>exact .dF (.inl h0) h1 (fun e=>absurd rfl e) h3 h4 (by simpa using h2) (a1j _) (by simp) (fun j a hj=>by simp at hj) (fun j a i c v hj=>by simp at hj)
 |some h1 h2 h3 h4 h5 h6 h7 h8 h9=>
  refine .dF (cs:=_) (.inr ⟨i,_,hs,hi,?_⟩) (by unfold aU;rw[h4]) (fun _=>xK h4 (by omega)) h2 h3 (by omega) (a1j _) (by simp) h9.1 ?_
  .simp only[MB.own];rw[a0S (by simpa using h1)]
  intro j a q c v e1 e2 e3;exact((h9.2.2 j a q c v e1 e2 e3).mono fun b hb=>.inl hb).jH hX (gq (hX.jH _ _) e2)
theorem VR.part{F t l fu b off len cap sz ex}(hv:VR X P F m h (.dF t l fu) (.aP b off len cap sz ex)){o n cap' ex' fu'}(hn:o+n<=len)(hc:n<=cap')(hw:n=0\/o+cap'=cap)(hfu:fu'=true->ex'=true/\cap'=n) :VR X P F m h (.dF t ((l.drop o).take n) fu') (.aP b (off+o*sz) n cap' sz ex'):=by
 cases hv with
 |dF a c c2 s z ol k f e r=>
  have hlen:((l.drop o).take n).length=n:=by rw[a4c,a3Q];omega
  have:=@VR.dF X P F m h t ((l.drop o).take n) fu' b (off+o*sz) cap' sz ex' _ a c (fun iO=>by
   have h1:n≠0:=fun e=>iO (by subst e;simp);have h2:=hw.resolve_left h1;have h3:off+o*sz+cap'*sz=off+cap*sz:=by rw[<-h2,a3H];omega
   rw[h3];exact c2 (fun e=>by subst e;simp at hlen;omega)) s z (by
   rw[hlen];have:(o+n)*sz<=l.length*sz:=a3I sz hn;rw[a3H]at this;omega) (by rw[hlen];exact hc) (by rw[hlen];exact hfu) (fun j y hy=>by
    rw[a5f]at hy;split at hy
    .rw[a5u]at hy;exact e _ _ hy
    .cases hy) (fun j y i d v hy h2 h3=>by
    rw[a5f]at hy;split at hy
    .rw[a5u]at hy;refine r _ _ i d v hy h2 ?_;rw[<-h3];congr 1;rw[a3H];omega
    .cases hy)
  rwa [hlen]at this
 |gone hi _ _=>simp[bF]at hi
mutual
theorem VB(hX:bT X P)(hr:HR X P A m H h):∀{v w:PV X.Γ} {x:TV},VR X P (AA A m) m h v x->view H v=some w->∀{is:List Nat},(∀i,i∈lC v->i∈is)->VR X P (FA A m is) m' h w x
 |.own i,w,x,hv,hw,is,hs=>by
  simp only[view]at hw;split at hw
  .rename_i k ex t l hH;cases hw;obtain⟨mb,h1,h2⟩:=hr.at_ i _ hH;cases mb with
   |dF y=>
    cases hv with
    |own e o=>rw[h1]at e;cases e;exact TM hX hr h2 h1 (hs i (by simp[lC]))
    |gone hi e o=>simp only[bF,a08]at hi;subst hi;rw[h1]at e;cases e
   |_=>exact h2.elim
  cases hw
 |.win i o n,w,x,hv,hw,is,hs=>by
  simp only[view]at hw;split at hw
  .rename_i k ex t l hH;cases hw;obtain⟨mb,h1,h2⟩:=hr.at_ i _ hH;cases mb with
   |dF y=>
    have h2':LR X P (AA A m) m h k ex t l y:=h2;have hfz:VR X P (FA A m is) m' h (.dF t l false) y:=TM hX hr h2' h1 (hs i (by simp[lC]));cases hv with
    |win e q q' q2=>
     rw[h1]at e;cases e;exact hfz.part q q' q2 (by simp)
    |D7 e=>
     rw[h1]at e;cases e;cases h2' with
     |nil=>simp only[List.drop_nil,List.take_nil];exact .qx
    |gone hi e o=>simp only[bF,a08]at hi;subst hi;rw[h1]at e;cases e
   |_=>exact h2.elim
  cases hw
 |.fn f a c,w,x,hv,hw,is,hs=>by
  simp only[view]at hw;split at hw
  .rename_i a' c' h1 h2;cases hw;cases hv with
   |fn e1 e2 e3 e4=>
    have g1:=mG hX hr ⟨e1,e2⟩ h1 (is:=is) fun i hi=>hs i (by simp[lC,hi]);have g2:=mG hX hr ⟨e3,e4⟩ h2 (is:=is) fun i hi=>hs i (by simp[lC,hi]);exact .fn g1.1 g1.2 g2.1 g2.2
   |gone hi _ _=>simp[bF]at hi
  cases hw
 |.agg cs,w,x,hv,hw,is,hs=>by
  simp only[view,a0x]at hw;obtain⟨cs',h1,rfl⟩:=hw;cases hv with
  |agg e1 e2=>have g1:=mG hX hr ⟨e1,e2⟩ h1 (is:=is) fun i hi=>hs i (by simp[lC,hi]);exact .agg g1.1 g1.2
  |gone hi _ _=>simp[bF]at hi
 |.dB cs,w,x,hv,hw,is,hs=>by
  simp only[view,a0x]at hw;obtain⟨cs',h1,rfl⟩:=hw;cases hv with
  |dB e1 e2=>have g1:=mG hX hr ⟨e1,e2⟩ h1 (is:=is) fun i hi=>hs i (by simp[lC,hi]);exact .dB g1.1 g1.2
  |gone hi _ _=>simp[bF]at hi
 |.bool b,w,x,hv,hw,is,hs=>by simp only[view,a08]at hw;subst hw;exact(hv.mono fun b hb=>.inl hb).jH hX rfl
 |.lit b,w,x,hv,hw,is,hs=>by
  simp only[view,a08]at hw;subst hw;cases hv with
  |lit=>exact .bool _
  |gone hi _ _=>simp[bF]at hi
 |.int k n,w,x,hv,hw,is,hs=>by simp only[view,a08]at hw;subst hw;exact(hv.mono fun b hb=>.inl hb).jH hX rfl
 |.str b,w,x,hv,hw,is,hs=>by simp only[view,a08]at hw;subst hw;exact(hv.mono fun b hb=>.inl hb).jH hX rfl
 |.nil b,w,x,hv,hw,is,hs=>by simp only[view,a08]at hw;subst hw;exact(hv.mono fun b hb=>.inl hb).jH hX rfl
 |.dF t l f,w,x,hv,hw,is,hs=>by simp only[view,a08]at hw;subst hw;exact(hv.mono fun b hb=>.inl hb).jH hX rfl
 |.ptr _ _ _,w,x,hv,hw,is,hs=>by simp[view]at hw
 |.aP _ _ _ _ _ _,w,x,hv,hw,is,hs=>by simp[view]at hw
 |.map _,w,x,hv,hw,is,hs=>by simp[view]at hw
 |.lJ _,w,x,hv,hw,is,hs=>by simp[view]at hw
 |.el _ _ _,w,x,hv,hw,is,hs=>by simp[view]at hw
 |.row _ _ _,w,x,hv,hw,is,hs=>by simp[view]at hw
 |.Hz _,w,x,hv,hw,is,hs=>by simp[view]at hw
theorem mG(hX:bT X P)(hr:HR X P A m H h):∀{vs ws:List (PV X.Γ)} {xs:List TV},bZ X P (AA A m) m h vs xs->views H vs=some ws->∀{is:List Nat},(∀i,i∈lC.kU vs->i∈is)->bZ X P (FA A m is) m' h ws xs
 | [],ws,xs,hv,hw,is,hs=>by simp only[view.views,a08]at hw;subst hw;rw[hv.inv0];exact .nil
 |v::vs,ws,xs,hv,hw,is,hs=>by
  obtain⟨x,r,rfl,h1,h2⟩:=hv.inv;simp only[view.views]at hw;split at hw
  .rename_i w Xd g1 g2;cases hw;exact .cons (VB hX hr h1 g1 fun i hi=>hs i (by simp[lC.kU,hi])) (mG hX hr h2 g2 fun i hi=>hs i (by simp[lC.kU,hi]))
  cases hw
end
end
open Go Tw
section
variable{X:mX}{P:LI1}{A B F:Nat->Prop}{m m':List MB}{h h':List HB}{H H':List (PB X.Γ)}
theorem a2j(hX:bT X P)(hr:HR X P A m H h){t cs xs}(hv:bZ X P (AA A m) m h cs xs){a is}(hd:aaG X H t cs=some (a,is)):bZ X P (FA A m is) m' h (X.enc t a) xs:=by
 unfold aaG at hd;split at hd
 .rename_i vs h1;split at hd
  .rename_i b h2;simp only[a08,a1d]at hd;obtain⟨rfl,rfl⟩:=hd;exact hX.dec h2 (mG hX hr hv h1 fun i hi=>hi)
  cases hd
 cases hd
theorem BG(hX:bT X P)(hr:HR X P A m H h){t sz}:∀{n} {cs} {xs:List TV},bZ X P (AA A m) m h cs xs->∀{l} {is:List Nat},yQ X H t sz n cs=some (l,is)->l.length=n/\eG X P (FA A m is) m' h t l xs 0 sz
 | 0,cs,xs,hv,l,is,hd=>by simp only[yQ,a08,a1d]at hd;obtain⟨rfl,rfl⟩:=hd;exact⟨rfl,fun j a hj=>by simp at hj,by simp,fun j a i c v hj=>by simp at hj⟩
 |n+1,cs,xs,hv,l,is,hd=>by
  simp only[yQ]at hd;split at hd
  rotate_left
  .cases hd
  rename_i qV;split at hd
  rotate_left
  .cases hd
  rename_i a js l' ks h1 h2;simp only[a08,a1d]at hd;obtain⟨rfl,rfl⟩:=hd;have g1:=(a2j (m':=m') hX hr (hv.take sz) h1).mono fun b hb=>FA.mono (js:=js++ks) (fun i hi=>a5Z _ hi) hb;obtain⟨e2,g2⟩:=BG hX hr (hv.drop sz) h2;have g2:=g2.mono fun b hb=>FA.mono (js:=js++ks) (fun i hi=>abW _ hi) hb;have hl:(X.enc t a).length=sz:=by rw[g1.1,a4c,<-hv.1];omega
  refine⟨by simp[e2],fun j b hj=>?_,?_,fun j b i c v hj hi hx=>?_⟩
  .cases j with
   |zero=>simp only[a2I,a08]at hj;subst hj;exact hl
   |succ j=>exact g2.1 j b (by simpa using hj)
  .have:=g2.2.1;rw[a3Q]at this;have h3:=hv.1;simp only[a4p,a3H];omega
  cases j with
  |zero=>
   simp only[a2I,a08]at hj;subst hj;have aS:i<sz:=by rw[<-hl];exact(a0u.1 hi).1
   refine g1.2 i c v hi ?_;rw[a5f,a15 aS,<-hx];simp
  |succ j=>
   refine g2.2.2 j b i c v (by simpa using hj) hi ?_;rw[a5u,<-hx];congr 1;rw[a3H];omega
def SlR(X:mX)(P:LI1)(F:Nat->Prop)(m:List MB)(h:List HB)(t sz:Nat)(l:List (X.Γ t))(x:TV):Prop:=
 (x=.nil .aP/\l=[])\/∃b off cap ex cs,x=.aP b off l.length cap sz ex/\l.length<=cap/\aU h b=some cs/\(l≠[]->ni h b (off+cap*sz)=some cs)/\eG X P F m h t l cs off sz
theorem a2k{t sz l fu x}(hv:VR X P F m h (.dF t l fu) x)(hz:dG P t=some sz):SlR X P F m h t sz l x:=by
 cases hv with
 |qx=>exact .inl ⟨rfl,rfl⟩
 |dF a c c2 s z o k f e r=>
  rw[hz]at s;cases s;exact .inr ⟨_,_,_,_,_,rfl,k,c,c2,e,o,r⟩
 |gone hi _ _=>simp[bF]at hi
theorem a7e{k ex t sz l x}(hv:LR X P F m h k ex t l x)(hz:dG P t=some sz):SlR X P F m h t sz l x:=by
 cases hv with
 |nil=>exact .inl ⟨rfl,rfl⟩
 |emp h0 h1 h2 h3 h4=>
  rw[hz]at h3;cases h3;exact .inr ⟨_,_,_,_,_,rfl,a1j _,h1,fun e=>absurd rfl e,fun j a hj=>by simp at hj,by simpa using h2,fun j a i c v hj=>by simp at hj⟩
 |some h1 h2 h3 h4 h5 h6 h7 h8 h9=>
  rw[hz]at h2;cases h2;exact .inr ⟨_,_,_,_,_,rfl,a1j _,by unfold aU;rw[h4],fun _=>xK h4 (by omega),h9⟩
theorem eG.part{t sz l cs off o n}(hv:eG X P F m h t l cs off sz)(hn:o+n<=l.length):eG X P F m h t ((l.drop o).take n) cs (off+o*sz) sz:=by
 have hlen:((l.drop o).take n).length=n:=by rw[a4c,a3Q];omega
 refine⟨fun j y hy=>?_,?_,fun j y i c v hy h2 h3=>?_⟩
 .rw[a5f]at hy;split at hy
  .rw[a5u]at hy;exact hv.1 _ _ hy
  cases hy
 .have:=hv.2.1;have h2:(o+n)*sz<=l.length*sz:=a3I sz hn;rw[hlen];rw[a3H]at h2;omega
 rw[a5f]at hy;split at hy
 .rw[a5u]at hy;refine hv.2.2 _ y i c v hy h2 ?_;rw[<-h3];congr 1;rw[a3H];omega
 cases hy
theorem eG.take{t sz l cs off}(hv:eG X P F m h t l cs off sz):eG X P F m h t l ((cs.drop off).take (l.length*sz)) 0 sz:=by
 refine⟨hv.1,?_,fun j a i c v h1 h2 h3=>?_⟩
 .have:=hv.2.1;rw[a4c,a3Q];omega
 rw[a5f]at h3;split at h3
 .rw[a5u]at h3;exact hv.2.2 j a i c v h1 h2 (by rw[<-h3];congr 1;omega)
 cases h3
theorem SlR.src{t sz l x}(hv:SlR X P F m h t sz l x):∃new,eF sz h x=some (l.length,new)/\new.length=l.length*sz/\eG X P F m h t l new 0 sz:=by
 rcases hv with⟨rfl,rfl⟩|⟨b,off,cap,ex,cs,rfl,hk,hc,LW,hw⟩
 .exact⟨[],rfl,by simp,fun j a hj=>by simp at hj,by simp,fun j a i c v hj=>by simp at hj⟩
 refine⟨(cs.drop off).take (l.length*sz),?_,?_,hw.take⟩
 .have:=hw.2.1;simp only[eF,a2l,sub];by_cases h0:l.length=0
  .rw[a15 h0,h0];simp
  rw[a0S h0,LW (fun e=>h0 (by rw[e];rfl))];simp only;rw[a15 this];rfl
 have:=hw.2.1;rw[a4c,a3Q];omega
theorem eG.app{t sz l r a b}(h1:eG X P F m h t l a 0 sz)(h2:eG X P F m h t r b 0 sz)(ha:a.length=l.length*sz):eG X P F m h t (l++r) (a++b) 0 sz:=by
 refine⟨fun j y hy=>?_,?_,fun j y i c v hy hi hx=>?_⟩
 .rcases a4O j l.length with hl|hl
  .rw[a0P hl]at hy;exact h1.1 j y hy
  rw[a1p hl]at hy;exact h2.1 _ y hy
 .have:=h2.2.1;simp only[a1v,a3H];omega
 rcases a4O j l.length with hl|hl
 .rw[a0P hl]at hy;have aS:i<sz:=by rw[<-h1.1 j y hy];exact(a0u.1 hi).1
  have:(j+1)*sz<=l.length*sz:=a3I sz hl;rw[a3H]at this;rw[a0P (by omega)]at hx;exact h1.2.2 j y i c v hy hi hx
 rw[a1p hl]at hy;have:l.length*sz<=j*sz:=a3I sz hl;rw[a1p (by omega)]at hx;refine h2.2.2 _ y i c v hy hi ?_;rw[<-hx];congr 1;rw[ha,Nat.sub_mul];omega
theorem sJ{Γ:Nat->Type}{t t'}{l:List (Γ t')}{r}(h:CO t t' l=some r):∃e:t'=t,r=e▸l:=by
 unfold CO at h;split at h
 .rename_i e;cases h;exact⟨e,rfl⟩
 cases h
theorem VD(hX:bT X P)(hr:HR X P A m H h){e sz:Nat}{x tx}(hv:VR X P (AA A m) m h x tx)(hz:dG P e=some sz){rows is}(hs:Bv X H e sz x=some (rows,is)) :∃new,eF sz h tx=some (rows.length,new)/\new.length=rows.length*sz/\eG X P (FA A m is) m' h e rows new 0 sz:=by
 have up:∀{l:List (X.Γ e)} {y:TV},SlR X P (AA A m) m h e sz l y->∃new,eF sz h y=some (l.length,new)/\new.length=l.length*sz/\eG X P (FA A m []) m' h e l new 0 sz:=by intro l y hy;obtain⟨new,h1,h2,h3⟩:=hy.src;exact⟨new,h1,h2,(h3.mono fun b hb=>.inl hb).jH hX⟩
 cases x with
 |nil k=>
  cases k<;>simp only[Bv]at hs<;>try (cases hs;done)
  simp only[a08,a1d]at hs;obtain⟨rfl,rfl⟩:=hs;cases hv with
  |nil=>exact up (.inl ⟨rfl,rfl⟩)
  |gone hi _ _=>simp[bF]at hi
 |dF t l fu=>
  simp only[Bv,a0x,a1d]at hs;obtain⟨r,h1,rfl,rfl⟩:=hs;obtain⟨rfl,rfl⟩:=sJ h1;exact up (a2k hv hz)
 |own i=>
  simp only[Bv]at hs;split at hs
  .rename_i k ex t l hH;simp only[a0x,a1d]at hs;obtain⟨r,h1,rfl,rfl⟩:=hs;obtain⟨rfl,rfl⟩:=sJ h1;obtain⟨mb,g1,g2⟩:=hr.at_ i _ hH;cases mb with
   |dF y=>
    cases hv with
    |own e' o=>rw[g1]at e';cases e';exact up (a7e g2 hz)
    |gone hi e' o=>simp only[bF,a08]at hi;subst hi;rw[g1]at e';cases e'
   |_=>exact g2.elim
  .cases hs
 |win i o n=>
  simp only[Bv]at hs;split at hs
  .rename_i k ex t l hH;simp only[a0x,a1d]at hs;obtain⟨r,h1,rfl,rfl⟩:=hs;obtain⟨rfl,rfl⟩:=sJ h1;obtain⟨mb,g1,g2⟩:=hr.at_ i _ hH;cases mb with
   |dF y=>
    have hsl:=a7e g2 hz;cases hv with
    |win e' q q' q2=>
     rw[g1]at e';cases e';rcases hsl with⟨h,_⟩|⟨b,off,cap,ex',cs,he,hk,hc,LW,hw⟩
     .cases h
     .cases he;have hlen:n=((r.drop o).take n).length:=by rw[a4c,a3Q];omega
      refine up (.inr ⟨_,_,_,_,cs,congrArg (fun k=>TV.aP _ _ k _ _ _) hlen,hlen▸q',hc,fun iO=>?_,hw.part q⟩);have h1:n≠0:=fun e=>iO (by subst e;simp);have h2:=q2.resolve_left h1;rw[<-LW (fun e=>iO (by rw[e];simp)),<-h2];congr 1;rw[a3H];omega
    |D7 e'=>
     rw[g1]at e';cases e';refine up (.inl ⟨rfl,by simp⟩)
    |gone hi e' o=>simp only[bF,a08]at hi;subst hi;rw[g1]at e';cases e'
   |_=>exact g2.elim
  .cases hs
 |aP b off len cap sz' ex=>
  simp only[Bv]at hs;split at hs
  .rename_i cs hH;split at hs
   .rename_i qV;obtain⟨qV,afL⟩:=qV;subst qV;obtain⟨mb,g1,g2⟩:=hr.at_ b _ hH;cases mb with
    |gW c=>
     obtain⟨cs',g3,g4⟩:=g2;cases hv with
     |aP e'=>
      rw[g1]at e';cases e';obtain⟨hl,hw⟩:=BG (m':=m') hX hr (g4.drop off) hs;subst hl;rw[g4.1]at afL;refine⟨(cs'.drop off).take (rows.length*sz'),?_,by rw[a4c,a3Q];omega,by simpa using hw.take⟩;simp only[eF,a2l,xM g3 (by simp),sub];split
      .rename_i h0;rw[h0,adg,List.take_zero]
      .simp only[afL,a2l,a1l]
     |gone hi e' o=>simp only[bF,a08]at hi;subst hi;rw[g1]at e';cases e'
    |_=>exact g2.elim
   .cases hs
  .cases hs
 |_=>simp[Bv]at hs
end
open Go Tw
def H6(m:List MB)(i b:Nat):Prop:=∃mb,m[i]? = some mb/\mb.own=some b
structure IR(m:List MB)(h:List HB)(p:PI)(t:zl):Prop where
 all:t.all=true->p.i.all=true
 tl:∀k,.l k∈t.ts->.l k∈p.i.ts
 wl:∀k,.l k∈t.ws->.l k∈p.i.ws
 wh:∀b,.h b∈t.ws->(∃i,.h i∈p.i.ws/\H6 m i b)\/(p.wall=true/\b∈bn m)
 th:∀b,.h b∈t.ts->((∃i,.h i∈p.i.ts/\H6 m i b)\/b∉bn m)/\b<h.length
 hp:p.hp=false->t.all=false/\(∀b,.h b∉t.ts)/\∀b,.h b∉t.ws
theorem IR.none{m h p}:IR m h p dh:=⟨fun h=>(by cases h),fun _ h=>(by cases h),fun _ h=>(by cases h),fun _ h=>(by cases h),fun _ h=>(by cases h),fun _=>⟨rfl,fun _ h=>(by cases h),fun _ h=>(by cases h)⟩⟩
section
variable{X:mX}{P:LI1}{A F:Nat->Prop}{m m':List MB}{h h':List HB}{H H':List (PB X.Γ)}
structure wu(X:mX)(P:LI1)(A:Nat->Prop)(m:List MB)(ps:bJ X.Γ)(ts:St):Prop where
 heap:HR X P A m ps.heap ts.heap
 llen:ps.loc.length=ts.loc.length
 loc:∀(k:Nat) cs,ps.loc[k]? = some cs->∃cs',ts.loc[k]? = some cs'/\bZ X P (AA A m) m ts.heap cs cs'
 env:kR X P (AA A m) m ts.heap ps.env ts.env
theorem wu.step{ps ts}(hR:wu X P A m ps ts){H1 h1}(hr:HR X P A m' H1 h1)(hF:Fr m ts.heap m' h1)(hU:Up m m'):wu X P A m' { ps with heap:=H1 } { ts with heap:=h1 }:=
 ⟨hr,hR.llen,fun k cs hk=>let ⟨cs',g1,g2⟩:=hR.loc k cs hk;⟨cs',g1,g2.step hF hU⟩,hR.env.step hF hU⟩
def OpR(X:mX)(P:LI1)(A:Nat->Prop)(m:List MB)(call:dM)(site:Nat->Bool)(ts:St)(o:Oper)(pe:PE X.Γ)(ps1:bJ X.Γ)(pi:PI):Prop:=
 ∃ev iZ ti m1,qo P call site ts o=some (ev,iZ,ti)/\iZ.env=ts.env/\iZ.ws=ts.ws/\wu X P A m1 ps1 iZ/\JG X P (AA A m1) m1 iZ.heap pe ev/\Fr m ts.heap m1 iZ.heap/\Up m m1/\IR m ts.heap pi ti/\∀b,.h b∈ti.ws->b∈bn m
theorem vN{call site ps ts o pe ev pi}(hR:wu X P A m ps ts)(h:qo P call site ts o=some (ev,ts,dh))(hp:JG X P (AA A m) m ts.heap pe ev):OpR X P A m call site ts o pe ps pi:=
 ⟨ev,ts,dh,m,h,rfl,rfl,hR,hp,.refl,.refl,.none,fun b hb=>by cases hb⟩
theorem wu.D6{ps ts}(hR:wu X P A m ps ts){x b}(hb:rO ts.env x=some (.bool b)):wu X P A m (ps.D6 x b) ts:=by
 cases x with
 |tmp t=>
  refine⟨hR.heap,hR.llen,hR.loc,aaM hR.env ?_⟩;simp only[rO,JD]at hb;split at hb
  .rename_i v hv;cases hb;exact hv
  cases hb
 |_=>exact hR
theorem TN{ps ts}(hR:wu X P A m ps ts){site cs cs'}(hc:bZ X P (AA A m) m ts.heap cs cs') :∃m1,(rP site ts cs').2.env=ts.env/\(rP site ts cs').2.ws=ts.ws/\wu X P A m1 (EO site ps cs).2 (rP site ts cs').2/\JG X P (AA A m1) m1 (rP site ts cs').2.heap (EO site ps cs).1 (rP site ts cs').1/\Fr m ts.heap m1 (rP site ts cs').2.heap/\Up m m1:=by
 cases site with
 |true=>
  have hp:=hR.heap.push (pb:=.cells cs) (hb:=.cells .own cs') (mb:=.gW ts.heap.length) (.inl rfl) ?_
  .refine⟨m++[.gW ts.heap.length],rfl,rfl,hR.step hp.1 hp.2.1 hp.2.2,?_,hp.2.1,hp.2.2⟩;show VR X P _ _ _ (.ptr ps.heap.length 0 cs.length) (.ptr ts.heap.length 0 cs'.length);rw[hc.1];exact .ptr (by rw[<-hR.heap.len];simp)
  .refine⟨cs',by simp,hc.step ?_ (xO _)⟩;refine⟨by simp,fun b hb _=>by rw[a0P hb],fun b hb=>?_,fun b cs hc=>⟨cs,by rw[fM (a0P (fP hc)),hc],a1j _⟩⟩;rw[jB,a3E,lD]at hb;rcases hb with hb|hb
   .exact .inl hb
   .simp[MB.own]at hb;exact .inr (by omega)
 |false=>
  refine⟨m,rfl,rfl,⟨hR.heap,by simp[EO,rP,hR.llen],fun k ds hk=>?_,hR.env⟩,?_,.refl,.refl⟩
  .simp only[EO,rP,a2H,a3S]at hk ⊢;rcases a4O k ps.loc.length with hl|hl
   .rw[a0P hl]at hk;obtain⟨ds',g1,g2⟩:=hR.loc k ds hk;exact⟨ds',by rw[a0P (by rw[<-hR.llen];exact hl)];exact g1,g2⟩
   .rw[a1p hl]at hk;have:k-ps.loc.length=0:=by
     rcases abG (k-ps.loc.length)with e|e
     .exact e
     .rw[a4w (by simp;omega)]at hk;cases hk
    rw[this]at hk;simp only[a2I,a08]at hk;subst hk;exact⟨cs',by rw[a1p (by rw[<-hR.llen];exact hl),<-hR.llen,this];rfl,hc⟩
  .exact⟨hR.llen,rfl⟩
theorem jc{i mb b}(h1:m[i]? = some mb)(h2:mb.own=some b):H6 m i b:=⟨mb,h1,h2⟩
theorem a0t{i b}(h:H6 m i b):b∈bn m:=let ⟨_,h1,h2⟩:=h;bg h1 h2
theorem IR.rdH{i b}(h0:H6 m i b)(hl:b<h.length):IR m h ⟨yx (.h i),false,false,true⟩ (yx (.h b)):=
 ⟨fun h=>(by cases h),fun k hk=>(by simp[yx]at hk),fun k hk=>(by simp[yx]at hk),fun b hb=>(by simp[yx]at hb),fun c hc=>(by simp[yx]at hc;subst hc;exact⟨.inl ⟨i,by simp[yx],h0⟩,hl⟩),fun h=>(by cases h)⟩
theorem IR.wrH{i b}(h0:H6 m i b)(hl:b<h.length):IR m h ⟨qm (.h i),false,false,true⟩ (qm (.h b)):=
 ⟨fun h=>(by cases h),fun k hk=>(by simp[qm]at hk),fun k hk=>(by simp[qm]at hk),fun c hc=>(by simp[qm]at hc;subst hc;exact .inl ⟨i,by simp[qm],h0⟩),fun c hc=>(by simp[qm]at hc;subst hc;exact⟨.inl ⟨i,by simp[qm],h0⟩,hl⟩),fun h=>(by cases h)⟩
theorem IR.loc{k}:IR m h ⟨yx (.l k),false,false,false⟩ (yx (.l k)):=
 ⟨fun h=>(by cases h),fun j hj=>by simpa[yx]using hj,fun k hk=>(by simp[yx]at hk),fun b hb=>(by simp[yx]at hb),fun c hc=>(by simp[yx]at hc),fun _=>⟨rfl,fun b hb=>(by simp[yx]at hb),fun b hb=>(by simp[yx]at hb)⟩⟩
theorem IR.aqg{k}:IR m h ⟨qm (.l k),false,false,false⟩ (qm (.l k)):=
 ⟨fun h=>(by cases h),fun j hj=>by simpa[qm]using hj,fun j hj=>by simpa[qm]using hj,fun c hc=>(by simp[qm]at hc),fun c hc=>(by simp[qm]at hc),fun _=>⟨rfl,fun b hb=>(by simp[qm]at hb),fun b hb=>(by simp[qm]at hb)⟩⟩
theorem XP{t cs o sz off n x}(ho:o+sz<=cs.length)(hp:vk P t ((cs.drop o).take sz) off=some x)(hn:dG P t=some n):vk P t cs (o+off)=some x/\off+n<=sz/\o+off+n<=cs.length:=by
 unfold vk at hp ⊢;split at hp
 .rename_i k ha hk;rw[hn]at hk;cases hk;simp only[a0x]at hp;obtain⟨r,h1,rfl⟩:=hp;unfold sub at h1;split at h1
  .rename_i hl;rw[a4c,a3Q]at hl;refine⟨?_,by omega,by omega⟩;cases h1;simp only[ha,hn,sub];rw[a15 (by omega)];simp only[a1l,a08,TV.agg.injEq];rw[aiu,afn,afk,a8b (by omega)]
  cases h1
 .rename_i k ha hk;rw[hn]at hk;cases hk;split at hp
  .rename_i h1;subst h1;rw[a5f]at hp;split at hp
   .rename_i h2;rw[a5u]at hp;have:=(a0u.1 hp).1;refine⟨by simp only[ha,hn,a2l];exact hp,by omega,by omega⟩
   cases hp
  cases hp
 cases hp
theorem TP{t cs off x}(hp:vk P t cs off=some x):∃n,dG P t=some n:=by
 unfold vk at hp;split at hp
 .rename_i n _ hn;exact⟨n,hn⟩
 .rename_i n _ hn;exact⟨n,hn⟩
 cases hp
theorem eG.row{t sz l cs off j a}(hw:eG X P F m h t l cs off sz)(hj:l[j]? = some a):bZ X P F m h (X.enc t a) ((cs.drop (off+j*sz)).take sz)/\off+j*sz+sz<=cs.length:=by
 have hlen:=hw.1 j a hj;have aS:j<l.length:=(a0u.1 hj).1;have h2:(j+1)*sz<=l.length*sz:=a3I sz aS;have h3:=hw.2.1;rw[a3H]at h2;refine⟨⟨by rw[hlen,a4c,a3Q];omega,fun i c v hc hv=>?_⟩,by omega⟩;rw[a5f]at hv;split at hv
 .rw[a5u]at hv;exact hw.2.2 j a i c v hj hc hv
 cases hv
theorem BH{t}{l:List (X.Γ t)}{j}(hj:j<l.length):l[j]? = some (l.getD j (X.d0 t)):=by rw[a2J,a0A hj];rfl
theorem Ia(hX:bT X P){ps ts}(hR:wu X P A m ps ts){t pa ea}(ha:JG X P (AA A m) m ts.heap pa ea){v pi}(hl:Bz X P t ps pa=some (v,pi)) :∃x ti,loadT P t ts ea=some (x,ti)/\VR X P (AA A m) m ts.heap v x/\IR m ts.heap ⟨pi,false,false,!Vt pa⟩ ti/\ti.ws=[]:=by
 cases pa with
 |loc k off=>
  rw[ES ha];simp only[Bz]at hl;split at hl
  .rename_i cs hk;simp only[a0x,a1d]at hl;obtain⟨w,h1,rfl,rfl⟩:=hl;obtain⟨cs',g1,g2⟩:=hR.loc k cs hk;obtain⟨x,g3,g4⟩:=BD g2 h1;exact⟨x,yx (.l k),by simp only[loadT,g1,g3,a1l],g4,.loc,rfl⟩
  .cases hl
 |undef|ent|Fz=>simp[Bz]at hl
 |val a=>
  obtain⟨y,rfl,hy⟩:=gV ha;cases a with
  |ptr b off lim=>
   simp only[Bz]at hl;split at hl
   .rename_i cs n hb hn;split at hl
    .rename_i N9;simp only[a0x,a1d]at hl;obtain⟨w,h1,rfl,rfl⟩:=hl;obtain⟨mb,g1,g2⟩:=hR.heap.at_ b _ hb;cases mb with
     |gW c=>
      obtain⟨cs',g3,g4⟩:=g2;cases hy with
      |ptr e=>
       rw[g1]at e;cases e;obtain⟨x,g5,g6⟩:=BD g4 h1;refine⟨x,yx (.h c),?_,g6,.rdH (jc g1 rfl) (a0u.1 g3).1,rfl⟩;simp only[loadT,xM g3 (show BK.own≠.last by simp),hn,N9,a2l,g5,a1l]
      |gone hi e _=>simp only[bF,a08]at hi;subst hi;rw[g1]at e;cases e
     |_=>exact g2.elim
    .cases hl
   .rename_i cs n hb hn;split at hl
    .rename_i N9;simp only[a0x,a1d]at hl;obtain⟨w,h1,rfl,rfl⟩:=hl;obtain⟨mb,g1,g2⟩:=hR.heap.at_ b _ hb;cases mb with
     |jL c=>
      obtain⟨g0,cs',g3,g4⟩:=g2;cases hy with
      |ptr e=>rw[g1]at e;cases e
      |gone hi e _=>
       simp only[bF,a08]at hi;subst hi;rw[g1]at e;cases e with
       |r _ e=>
        simp only[roV,a08]at e;subst e;obtain⟨x,g5,g6⟩:=BD g4 h1;refine⟨x,yx (.h c),?_,g6,⟨fun h=>(by cases h),fun k hk=>(by simp[yx]at hk),fun k hk=>(by simp[yx]at hk),fun b hb=>(by simp[yx]at hb),fun d hd=>?_,fun h=>(by cases h)⟩,rfl⟩
        .simp only[loadT,xM g3 (show BK.own≠.last by simp),hn,N9,a2l,g5,a1l]
        .simp[yx]at hd;subst hd;exact⟨.inr g0,(a0u.1 g3).1⟩
     |_=>exact g2.elim
    .cases hl
   .cases hl
  |row b j off=>
   simp only[Bz]at hl;split at hl
   .rename_i k ex e l hb;simp only[a0x,a1d]at hl;obtain⟨w,h1,rfl,rfl⟩:=hl;obtain⟨mb,g1,g2⟩:=hR.heap.at_ b _ hb;cases mb with
    |dF z=>
     cases hy with
     |row e' hj hq=>
      rw[g1]at e';cases e';cases(g2:LR X P _ _ _ _ _ _ _ _)with
      |emp=>omega
      |some q1 q2 q3 q4 q5 q6 q7 q8 q9=>
       have wo:=q9.row (BH hj);obtain⟨x,g5,g6⟩:=BD wo.1 h1;obtain⟨n,hn⟩:=TP g5;obtain⟨g7,g8,_⟩:=XP wo.2 g5 hn;rw[a3C]at g7;refine⟨x,yx (.h _),?_,g6,.rdH (jc g1 (by simp only[MB.own];rw[a0S (by simpa using q1)])) (a0u.1 q4).1,rfl⟩;have tX:=wo.2;simp only[loadT,xK q4 q8.symm,hn];rw[a15 (by omega),g7];rfl
     |gone hi e' _=>simp only[bF,a08]at hi;subst hi;rw[g1]at e';cases e'
    |_=>exact g2.elim
   .cases hl
  |el e a off=>
   simp only[Bz,a0x,a1d]at hl;obtain⟨w,h1,rfl,rfl⟩:=hl;cases hy with
   |el q1 q2 q2' q3 q4 q5 q6=>
    rename_i b o sz lim cs;have wo:bZ X P (AA A m) m ts.heap (X.enc e a) ((cs.drop o).take sz):=by
     refine⟨by rw[q4,a4c,a3Q];omega,fun i c v hc hv=>?_⟩;rw[a5f]at hv;split at hv
     .rw[a5u]at hv;exact q6 i c v hc hv
     .cases hv
    obtain⟨x,g5,g6⟩:=BD wo h1;obtain⟨n,hn⟩:=TP g5;obtain⟨g7,g8,_⟩:=XP q3 g5 hn;refine⟨x,yx (.h b),?_,g6,⟨fun h=>(by cases h),fun k hk=>(by simp[yx]at hk),fun k hk=>(by simp[yx]at hk),fun b hb=>(by simp[yx]at hb),fun c hc=>?_,fun h=>(by cases h)⟩,rfl⟩
    .simp only[loadT,q2,hn];rw[a15 (by omega),g7];rfl
    .simp[yx]at hc;subst hc;exact⟨.inr q1.2,a4i q2⟩
   |gone hi e' _=>simp[bF]at hi
  |_=>simp[Bz]at hl
end
open Go Tw
section
variable{X:mX}{P:LI1}{A F:Nat->Prop}{m m':List MB}{h h':List HB}{H H':List (PB X.Γ)}
theorem PO{cs new o sz off r}(ho:o+sz<=cs.length)(hr:wY ((cs.drop o).take sz) off new=some r):wY cs (o+off) new=some (cs.take o++r++cs.drop (o+sz))/\r.length=sz:=by
 unfold wY at hr ⊢;split at hr
 rotate_left
 .cases hr
 rename_i hl;have qW:=hl;rw[a4c,a3Q]at hl;cases hr;refine⟨?_,?_⟩
 .rw[a15 (by omega)];simp only[a08];apply aao;intro i;simp only[List.getElem?_append,a1v,a4c,a3Q,a5f,a5u];rcases a4O i o with h1|h1
  .simp (disch:=omega) only [a8b,a15]
  rcases a4O i (o+off)with h2|h2
  .rw[a15 (by omega),a15 (by omega),a15 (by omega),a15 (by omega),a0S (by omega),a15 (by omega),a15 (by omega),a15 (by omega),a15 (by omega)];congr 1;omega
  rcases a4O i (o+off+new.length)with h3|h3
  .rw[a15 (by omega),a0S (by omega),a15 (by omega),a0S (by omega),a15 (by omega),a0S (by omega)];congr 1;omega
  rcases a4O i (o+sz)with h4|h4
  .rw[a0S (by omega),a15 (by omega),a0S (by omega),a0S (by omega),a15 (by omega)];congr 1;omega
  rw[a0S (by omega),a0S (by omega)];congr 1;omega
 simp only[a1v,a4c,a3Q];omega
theorem eG.set{t sz j l cs r a}(hw:eG X P F m h t l cs 0 sz)(hr:bZ X P F m h (X.enc t a) r)(hl:r.length=sz)(hj:j<l.length) :eG X P F m h t (l.set j a) (cs.take (j*sz)++r++cs.drop (j*sz+sz)) 0 sz:=by
 have h2:(j+1)*sz<=l.length*sz:=a3I sz hj;rw[a3H]at h2;have h3:=hw.2.1;refine⟨fun k y hy=>?_,?_,fun k y i c v hy hi hx=>?_⟩
 .rw[aan]at hy;split at hy
  .cases hy;rw[hr.1,hl]
  .exact hw.1 k y hy
 .simp only[a1v,a4c,a3Q,a5A];omega
 .rw[aan]at hy;split at hy
  .rename_i e;subst e;cases hy;have aS:i<sz:=by rw[<-hl,<-hr.1];exact(a0u.1 hi).1
   refine hr.2 i c v hi ?_;rw[a0P (by simp only[a1v,a4c];omega),a1p (by rw[a4c];omega),a4c]at hx;rw[<-hx];congr 1;omega
  .rename_i e;have hlen:=hw.1 k y hy;have aS:i<sz:=by rw[<-hlen];exact(a0u.1 hi).1
   have hk:k<l.length:=(a0u.1 hy).1;refine hw.2.2 k y i c v hy hi ?_;rw[<-hx];rcases a4O k j with h4|h4
   .have:(k+1)*sz<=j*sz:=a3I sz h4;rw[a3H]at this;rw[a0P (by simp only[a1v,a4c];omega),a0P (by rw[a4c];omega),a5f,a15 (by omega)]
   .have h5:j+1<=k:=(by omega);have:(j+1)*sz<=k*sz:=a3I sz h5;rw[a3H]at this;rw[a1p (by simp only[a1v,a4c];omega),a5u];congr 1;simp only[a1v,a4c];omega
theorem Md{b}{pb:PB X.Γ}:∀{is} {H},is.contains b=false->bD is (H.set b pb)=(bD is H).set b pb
 | [],_,_=>rfl
 |i::is,H,hn=>by simp only[aiy,aai,ait,ne_eq]at hn;simp only[bD,XI];rw[List.set_comm _ _ hn.1,Md hn.2]
theorem zJ(hX:bT X P){ps ps1 ts}(hR:wu X P A m ps ts){t pa ea}(ha:JG X P (AA A m) m ts.heap pa ea){v x}(hv:VR X P (AA A m) m ts.heap v x){pi}(hl:Vm X P t ps pa v=some (ps1,pi)) :∃iZ ti m1,storeT P t ts ea x=some (iZ,ti)/\iZ.env=ts.env/\iZ.ws=ts.ws/\wu X P A m1 ps1 iZ/\Fr m ts.heap m1 iZ.heap/\Up m m1/\IR m ts.heap ⟨pi,false,false,!Vt pa⟩ ti/\∀b,.h b∈ti.ws->b∈bn m:=by
 have hc:=IJ hv;unfold Vm at hl;split at hl
 .rename_i n hn;split at hl
  .rename_i OO;have aaN:x.cells.length=n/\x.cells.all iR=true:=⟨by rw[<-hc.1];exact OO.1,by rw[EP hc];exact OO.2⟩;cases pa with
   |loc k off=>
    rw[ES ha];simp only at hl;split at hl
    .rename_i cs hk;simp only[a0x,a1d]at hl;obtain⟨NY,h1,rfl,rfl⟩:=hl;obtain⟨cs',g1,g2⟩:=hR.loc k cs hk;obtain⟨KA,g3,g4⟩:=IK g2 hc h1;refine⟨{ ts with loc:=ts.loc.set k KA },qm (.l k),m,?_,rfl,rfl,⟨hR.heap,by simp[hR.llen],fun j ds hj=>?_,hR.env⟩,.refl,.refl,.aqg,fun b hb=>by simp[qm]at hb⟩
     .simp only[storeT,hn,aaN,adr,a2l,g1,g3,a1l]
     .by_cases e:k=j
      .subst e;rw[a5v]at hj;rw[hk]at hj;cases hj;exact⟨KA,by rw[a5v,g1];rfl,g4⟩
      .rw[a1w e]at hj;obtain⟨ds',q1,q2⟩:=hR.loc j ds hj;exact⟨ds',by rw[a1w e];exact q1,q2⟩
    .cases hl
   |undef|ent|Fz=>simp at hl
   |val a=>
    obtain⟨y,rfl,hy⟩:=gV ha;cases a with
    |ptr b off lim=>
     simp only at hl;split at hl
     .rename_i N9;split at hl
      .rename_i cs hb;simp only[a0x,a1d]at hl;obtain⟨NY,h1,rfl,rfl⟩:=hl;obtain⟨mb,g1,g2⟩:=hR.heap.at_ b _ hb;cases mb with
       |gW c=>
        obtain⟨cs',g3,g4⟩:=g2;cases hy with
        |ptr e=>
         rw[g1]at e;cases e;obtain⟨KA,g5,g6⟩:=IK g4 hc h1;have hlen:KA.length=cs'.length:=by
          unfold wY at g5;split at g5
          .cases g5;simp only[a1v,a4c,a3Q];omega
          .cases g5
         have aS:=(a0u.1 g3).1;obtain⟨hr1,hF⟩:=hR.heap.set (pb:=.cells NY) (hb:=.cells .own KA) g1 (c:=c) rfl (fun ET XQ=>⟨KA,by simp[aU,aS],by
          simp only[aU,g3,a08]at XQ;subst XQ;omega⟩) fun hF=>⟨KA,by simp[aS],g6.step hF .refl⟩
         refine⟨{ ts with heap:=ts.heap.set c (.cells .own KA) },qm (.h c),m,?_,rfl,rfl,hR.step hr1 hF .refl,hF,.refl,.wrH (jc g1 rfl) aS,fun b hb=>?_⟩
         .simp only[storeT,hn,aaN,adr,a2l,N9,XL g3,g5,a1l]
         .simp[qm]at hb;subst hb;exact bg g1 rfl
        |gone hi e _=>simp only[bF,a08]at hi;subst hi;rw[g1]at e;cases e
       |_=>exact g2.elim
      .cases hl
     .cases hl
    |row b j off=>
     simp only at hl;split at hl
     .rename_i k0 ex e l hb;split at hl
      .rename_i NY h1;split at hl
       .rename_i a is hd;split at hl
        .cases hl
        .rename_i hnb;simp only[a08,a1d]at hl;obtain⟨rfl,rfl⟩:=hl;obtain⟨mb,g1,g2⟩:=hR.heap.at_ b _ hb;cases mb with
         |dF z=>
          cases hy with
          |row e' hj hq=>
           rw[g1]at e';cases e';cases(g2:LR X P _ _ _ _ _ _ _ _)with
           |emp=>omega
           |some q1 q2 q3 q4 q5 q6 q7 q8 q9=>
            rename_i c sz xx kk cs;obtain⟨CG,yK,hkr,hko⟩:=Kw q5;have rH:(MB.dF (TV.aP c 0 l.length l.length sz xx)).own=some c:=by simp only[MB.own];rw[a0S (by simpa using q1)]
            have wo:=q9.row (BH hj);simp only[a3C]at wo;obtain⟨r,g3,g4⟩:=IK wo.1 hc h1;obtain⟨g5,g6⟩:=PO wo.2 g3;have aqh:=a2j (m':=cu is m) hX hR.heap g4 hd;have hgo:=hR.heap.bD is;have RV:=iU (h:=ts.heap) is m;have ak1:is.contains b=false:=(by simpa using hnb);have hm1:(cu is m)[b]? = some (.dF (.aP c 0 l.length l.length sz xx)):=by rw[IG is g1,ak1];rfl
            have aS:=(a0u.1 q4).1;have SI:(cs.take (j*sz)++r++cs.drop (j*sz+sz)).length=cs.length:=by simp only[a1v,a4c,a3Q];omega
            obtain⟨hr1,hF⟩:=hgo.set (pb:=.list k0 ex e (l.set j a)) (hb:=.cells CG (cs.take (j*sz)++r++cs.drop (j*sz+sz))) hm1 rH (fun ET XQ=>⟨cs.take (j*sz)++r++cs.drop (j*sz+sz),by simp[aU,aS],by
             simp only[aU,q4,a08]at XQ;subst XQ;omega⟩) fun hF=>by
              have hw:=(q9.step RV.1 RV.2).set (aqh.mono fun b hb=>hb.gone hR.heap) g6 hj;have:=LR.some (X:=X) (P:=P) (A:=AA A (cu is m)) (m:=cu is m) (h:=ts.heap.set c (.cells CG (cs.take (j*sz)++r++cs.drop (j*sz+sz)))) (k:=k0) (ex:=ex) (t:=e) (l:=l.set j a) (b:=c) (sz:=sz) (e:=xx) (kk:=CG) (cs:=cs.take (j*sz)++r++cs.drop (j*sz+sz))
               (by intro e0;apply q1;have:=congrArg List.length e0;rw[a5A]at this;exact a7f.1 this) q2 q3 (by simp[aS]) hkr (fun e0=>hko (q6 e0)) q7 (by rw[SI,a5A];exact q8) (hw.step hF .refl)
              rw[a5A]at this;exact this
            rw[<-Md ak1]at hr1;have Rq:=RV.1.trans hF;refine⟨{ ts with heap:=ts.heap.set c (.cells CG (cs.take (j*sz)++r++cs.drop (j*sz+sz))) },qm (.h c),cu is m,?_,rfl,rfl,hR.step hr1 Rq RV.2,Rq,RV.2,.wrH (jc g1 rH) aS,fun b hb=>?_⟩
            .have h9:j*sz+off+n<=l.length*sz:=by
              have h8:=wo.2;unfold wY at g3;split at g3
              .rename_i h0;rw[a4c,a3Q,aaN.1]at h0;omega
              .cases g3
             simp only[storeT,hn,aaN,adr,a2l,h9,a2e q4 yK q8.symm,g5,a1l]
            .simp[qm]at hb;subst hb;exact bg g1 rH
          |gone hi e' _=>simp only[bF,a08]at hi;subst hi;rw[g1]at e';cases e'
         |_=>exact g2.elim
       .cases hl
      .cases hl
     .cases hl
    |_=>simp at hl
  .cases hl
 .cases hl
end
open Go Tw
section
variable{X:mX}{P:LI1}{A F:Nat->Prop}{m m':List MB}{h h':List HB}{H H':List (PB X.Γ)}
theorem oK{v x}(hv:VR X P A m h v x):JG X P A m h (.val v) (.val x):=hv
theorem OD{ps ts}(hR:wu X P A m ps ts){o pa pb ea}(ha:JG X P (AA A m) m ts.heap pa ea)(hl:IC X ps o pa=some pb):∃eb,Ry o ea=some eb/\JG X P (AA A m) m ts.heap pb eb:=by
 cases pa with
 |loc k off=>
  rw[ES ha];simp only[IC,a08]at hl;subst hl;exact⟨.loc k (off+o),rfl,rfl,rfl⟩
 |undef|ent|Fz=>simp[IC]at hl
 |val a=>
  obtain⟨y,rfl,hy⟩:=gV ha;cases a with
  |ptr b off lim=>
   simp only[IC]at hl;split at hl
   .rename_i cs hb;split at hl
    .rename_i hle;cases hl;obtain⟨mb,g1,g2⟩:=hR.heap.at_ b _ hb;cases mb with
     |gW c=>
      cases hy with
      |ptr e=>exact⟨.val (.ptr _ (off+o) lim),by simp only[Ry,hle,a2l],VR.ptr e⟩
      |gone hi e q=>simp only[bF,a08]at hi;subst hi;rw[g1]at e;cases e
     |_=>exact g2.elim
    cases hl
   .rename_i cs hb;split at hl
    .rename_i hle;cases hl;obtain⟨mb,g1,g2⟩:=hR.heap.at_ b _ hb;cases mb with
     |jL c=>
      cases hy with
      |ptr e=>rw[g1]at e;cases e
      |gone hi e q=>
       simp only[bF,a08]at hi;subst hi;rw[g1]at e;cases e with
       |r _ e=>simp only[roV,a08]at e;subst e;exact⟨.val (.ptr _ (off+o) lim),by simp only[Ry,hle,a2l],VR.gone rfl (.ofR g1 rfl) rfl⟩
     |_=>exact g2.elim
    cases hl
   cases hl
  |el t a off=>
   simp only[IC]at hl;split at hl
   .rename_i hle;cases hl;cases hy with
    |el q1 q2 q2' q3 q4 q5 q6=>
     rename_i b o0 sz lim cs;rw[q4]at hle;refine⟨.val (.ptr b (o0+off+o) lim),by simp only[Ry];rw[a15 (by omega)],?_⟩;rw[aad];exact VR.el q1 q2 q2' q3 q4 hle q6
    |gone hi _ _=>simp[bF]at hi
   cases hl
  |row b j off=>
   simp only[IC,ajP]at hl;split at hl
   rotate_left
   .cases hl
   rename_i n hn;split at hn
   rotate_left
   .cases hn
   rename_i k ex e l hb;cases hn;split at hl
   .rename_i hle;cases hl;obtain⟨mb,g1,g2⟩:=hR.heap.at_ b _ hb;cases mb with
    |dF z=>
     cases hy with
     |row e' hj hq=>
      rw[g1]at e';cases e';cases(g2:LR X P _ _ _ _ _ _ _ _)with
      |emp=>omega
      |some q1 q2 q3 q4 q5 q6 q7 q8 q9=>
       rw[q9.1 j _ (BH hj)]at hle;have wo:=(q9.row (BH hj)).2;refine⟨.val (.ptr _ (j*_+off+o) (l.length*_)),by simp only[Ry];rw[a15 (by omega)],?_⟩;rw[aad];exact VR.row g1 hj hle
     |gone hi e' _=>simp only[bF,a08]at hi;subst hi;rw[g1]at e';cases e'
    |_=>exact g2.elim
   cases hl
  |_=>simp[IC]at hl
theorem aaP{ps ts}(hR:wu X P A m ps ts){b:Nat}{k ex e l}(hb:ps.heap[b]? = some (.list k ex e l)){y}(hy:VR X P (AA A m) m ts.heap (.own b) y)(hl:l≠[]) :∃c sz x,y=.aP c 0 l.length l.length sz x/\m[b]? = some (.dF y)/\dG P e=some sz/\0<sz:=by
 obtain⟨mb,g1,g2⟩:=hR.heap.at_ b _ hb;cases mb with
 |dF z=>
  cases hy with
  |own e' o=>
   rw[g1]at e';cases e';cases(g2:LR X P _ _ _ _ _ _ _ _)with
   |nil=>exact absurd rfl hl
   |emp=>exact absurd rfl hl
   |some q1 q2 q3=>exact⟨_,_,_,rfl,g1,q2,q3⟩
  |gone hi e' _=>simp only[bF,a08]at hi;subst hi;rw[g1]at e';cases e'
 |_=>exact g2.elim
theorem Bc{ps ts}(hR:wu X P A m ps ts){t px pb ex}(hx:JG X P (AA A m) m ts.heap px ex){i ti}(hi:VR X P (AA A m) m ts.heap i ti){qs}(hl:GU X P t ps px i=some (pb,qs))(hq:∀q∈qs,q) :∃eb,ny P t ex ti=some eb/\JG X P (AA A m) m ts.heap pb eb:=by
 have Va:∀{k:IntKind} {iv:Int} {n:Nat},fZ iv n->idx n (.int k iv)=some iv.toNat/\iv.toNat<n:=by intro k iv n hn;unfold fZ at hn;refine⟨by simp only[idx];rw[a15 hn],by omega⟩
 have hpi:∀{n j:Nat},a4f X n i=some j->idx n ti=some j:=by
  intro n j hj;cases i<;>simp only[a4f]at hj<;>try (cases hj;done)
  cases hi with
  |int=>exact hj
  |gone e _ _=>simp[bF]at e
 unfold GU at hl;split at hl
 .rename_i e hu;split at hl
  .rename_i n t' l fu k iv hn;split at hl
   .rename_i ht;subst ht;simp only[a08,a1d]at hl;obtain⟨rfl,rfl⟩:=hl;have hr:=Va (k:=k) (hq _ a3G);have:ti=.int k iv:=by
     cases hi with
     |int=>rfl
     |gone e _ _=>simp[bF]at e
    subst this;obtain⟨y,rfl,hy⟩:=gV hx;rcases a2k hy hn with⟨rfl,rfl⟩|⟨b,off,cap,ex',cs,rfl,hk,hc,LW,hw⟩
    .have:=hr.2;simp at this
    .have wo:=hw.row (BH hr.2);have hA:AA A m b:=by
      cases hy with
      |dF a=>exact a
      |gone e _ _=>simp[bF]at e
     have OO:=LW (by intro e0;rw[e0]at hr;have:=hr.2;simp at this);have hle:off+iv.toNat*n+n<=off+cap*n:=by have h1:(iv.toNat+1)*n<=cap*n:=a3I n (by have:=hr.2;omega);rw[a3H,aaw]at h1;omega
     refine⟨.val (.ptr b (off+iv.toNat*n) (off+cap*n)),?_,?_⟩
     .simp only[ny,hu,hn,a2l,hr.1,a1l]
     .have:=VR.el (X:=X) (P:=P) (A:=AA A m) (m:=m) (h:=ts.heap) (t:=t') (a:=l.getD iv.toNat (X.d0 t')) (off:=0) (o:=off+iv.toNat*n) hA OO hle wo.2 (hw.1 _ _ (BH hr.2)) (a5D _) (fun i c v h1 h2=>hw.2.2 _ _ i c v (BH hr.2) h1 h2);exact oK (by simpa using this)
   .cases hl
  .rename_i n b k iv hn;split at hl
   .rename_i w ex' t' l hb;split at hl
    .rename_i ht;subst ht;simp only[a08,a1d]at hl;obtain⟨rfl,rfl⟩:=hl;have hr:=Va (k:=k) (hq _ a3G);have:ti=.int k iv:=by
      cases hi with
      |int=>rfl
      |gone e _ _=>simp[bF]at e
     subst this;obtain⟨y,rfl,hy⟩:=gV hx;obtain⟨c,sz,x',rfl,g1,g2,g3⟩:=aaP hR hb hy (by intro e0;rw[e0]at hr;have:=hr.2;simp at this);rw[hn]at g2;cases g2;refine⟨.val (.ptr c (iv.toNat*n) (l.length*n)),?_,?_⟩
     .simp only[ny,hu,hn,a2l,hr.1,a1l,a3C]
     .have:=VR.row (X:=X) (P:=P) (A:=AA A m) (m:=m) (h:=ts.heap) (off:=0) g1 hr.2 (a5D n);exact oK (by simpa using this)
    .cases hl
   .cases hl
  .rename_i n b o q k iv hn;split at hl
   .rename_i w ex' t' l hb;split at hl
    .rename_i ht;subst ht;simp only[a08,a1d]at hl;obtain⟨rfl,rfl⟩:=hl;have hr:=Va (k:=k) (hq _ a3G);have:ti=.int k iv:=by
      cases hi with
      |int=>rfl
      |gone e _ _=>simp[bF]at e
     subst this;obtain⟨y,rfl,hy⟩:=gV hx;obtain⟨mb,g1,g2⟩:=hR.heap.at_ b _ hb;cases mb with
     |dF z=>
      cases hy with
      |win e' w1 w2 w3=>
       rw[g1]at e';cases e';cases(g2:LR X P _ _ _ _ _ _ _ _)with
       |emp=>have:=hr.2;omega
       |some q1 q2 q3=>
        rw[hn]at q2;cases q2;have hp:=oK (VR.row (X:=X) (P:=P) (A:=AA A m) (m:=m) (h:=ts.heap) (j:=o+iv.toNat) (off:=0) g1 (by have:=hr.2;omega) (a5D n));refine⟨_,?_,hp⟩;have h3:=w3.resolve_left (by have:=hr.2;omega);simp only[ny,hu,hn,a2l,hr.1,a1l,a3C,a3H,adb,<-h3]
      |D7 e'=>have:=hr.2;omega
      |gone hi e' _=>simp only[bF,a08]at hi;subst hi;rw[g1]at e';cases e'
     |_=>exact g2.elim
    .cases hl
   .cases hl
  .rename_i n b off len cap sz ex' hn;split at hl
   .rename_i cs hb;split at hl
    .rename_i qV;subst qV;simp only[a0x,a1d]at hl;obtain⟨j,h1,rfl,rfl⟩:=hl;obtain⟨y,rfl,hy⟩:=gV hx;obtain⟨mb,g1,g2⟩:=hR.heap.at_ b _ hb;cases mb with
     |gW c=>
      cases hy with
      |aP e=>
       have:=hpi h1;rw[g1]at e;cases e;exact⟨.val (.ptr c (off+j*n) (off+cap*n)),by simp only[ny,hu,hn,a2l,this,a1l],VR.ptr g1⟩
      |gone wC e' _=>simp only[bF,a08]at wC;subst wC;rw[g1]at e';cases e'
     |_=>exact g2.elim
    .cases hl
   .cases hl
  .cases hl
 .rename_i len e hu;split at hl
  .rename_i n hn;split at hl
   .rename_i j hj;simp only[a0x,a1d]at hl;obtain⟨pa,h1,rfl,rfl⟩:=hl;obtain⟨eb,g1,g2⟩:=OD hR hx h1;exact⟨eb,by simp only[ny,hu,hn,hpi hj,g1],g2⟩
   .cases hl
  .cases hl
 .cases hl
end
open Go Tw
section
variable{X:mX}{P:LI1}{A F:Nat->Prop}{m m':List MB}{h h':List HB}{H H':List (PB X.Γ)}
theorem ZQ(hr:HR X P A m H h){at_ x tx}(hx:VR X P (AA A m) m h x tx){v pi}(hl:afD X P at_ H x=some (v,pi)) :∃w ti,ZE P at_ h tx=some (w,ti)/\VR X P (AA A m) m h v w/\IR m h ⟨pi,false,false,true⟩ ti/\ti.ws=[]:=by
 unfold afD at hl;split at hl
 .rename_i t ht;unfold ZE;simp only[ht];split at hl
  .rename_i s hu;cases hl;cases hx with
   |str=>exact⟨_,_,by first|(simp only[hu];done)|(simp only[hu];rfl),.int _ _,.none,rfl⟩
   |gone hi _ _=>simp[bF]at hi
  .rename_i n e _ hu;cases hl;exact⟨_,_,by first|(simp only[hu];done)|(simp only[hu];rfl),.int _ _,.none,rfl⟩
  .rename_i e b off len cap sz ex hu;split at hl
   .rename_i cs hb;cases hl;obtain⟨mb,g1,g2⟩:=hr.at_ b _ hb;cases mb with
    |gW c=>
     cases hx with
     |aP e'=>exact⟨_,_,by first|(simp only[hu];done)|(simp only[hu];rfl),.int _ _,.none,rfl⟩
     |gone hi e' _=>simp only[bF,a08]at hi;subst hi;rw[g1]at e';cases e'
    |_=>exact g2.elim
   .cases hl
  .rename_i e hu;cases hl;cases hx with
   |nil=>exact⟨_,_,by first|(simp only[hu];done)|(simp only[hu];rfl),.int _ _,.none,rfl⟩
   |gone hi _ _=>simp[bF]at hi
  .rename_i e t' l fu hu;cases hl;cases hx with
   |qx=>exact⟨_,_,by first|(simp only[hu];done)|(simp only[hu];rfl),.int _ _,.none,rfl⟩
   |dF=>exact⟨_,_,by first|(simp only[hu];done)|(simp only[hu];rfl),.int _ _,.none,rfl⟩
   |gone hi _ _=>simp[bF]at hi
  .rename_i e b hu;split at hl
   .rename_i k ex t' l hb;cases hl;obtain⟨mb,g1,g2⟩:=hr.at_ b _ hb;cases mb with
    |dF z=>
     cases hx with
     |own e' _=>
      rw[g1]at e';cases e';cases(g2:LR X P _ _ _ _ _ _ _ _)with
      |nil=>exact⟨_,_,by first|(simp only[hu];done)|(simp only[hu];rfl),.int _ _,.none,rfl⟩
      |emp=>exact⟨_,_,by first|(simp only[hu];done)|(simp only[hu];rfl),.int _ _,.none,rfl⟩
      |some=>exact⟨_,_,by first|(simp only[hu];done)|(simp only[hu];rfl),.int _ _,.none,rfl⟩
     |gone hi e' _=>simp only[bF,a08]at hi;subst hi;rw[g1]at e';cases e'
    |_=>exact g2.elim
   .cases hl
  .rename_i e b o n hu;split at hl
   .rename_i k ex t' l hb;cases hl;obtain⟨mb,g1,g2⟩:=hr.at_ b _ hb;cases mb with
    |dF z=>
     cases hx with
     |win=>exact⟨_,_,by first|(simp only[hu];done)|(simp only[hu];rfl),.int _ _,.none,rfl⟩
     |D7=>exact⟨_,_,by first|(simp only[hu];done)|(simp only[hu];rfl),.int _ _,.none,rfl⟩
     |gone hi e' _=>simp only[bF,a08]at hi;subst hi;rw[g1]at e';cases e'
    |_=>exact g2.elim
   .cases hl
  .rename_i kt e hu;cases hl;cases hx with
   |nil=>exact⟨_,_,by first|(simp only[hu];done)|(simp only[hu];rfl),.int _ _,.none,rfl⟩
   |gone hi _ _=>simp[bF]at hi
  .rename_i kt e r hu;split at hl
   .rename_i es hb;cases hl;obtain⟨mb,g1,g2⟩:=hr.at_ r _ hb;cases mb with
    |gW c=>
     obtain⟨gY,g3,g4,g5⟩:=g2;cases hx with
     |map e'=>
      rw[g1]at e';cases e';exact⟨_,_,by first|(simp only[hu,g3];done)|(simp only[hu,g3];rfl),by rw[g4];exact .int _ _,.rdH (jc g1 rfl) (a0u.1 g3).1,rfl⟩
     |gone hi e' _=>simp only[bF,a08]at hi;subst hi;rw[g1]at e';cases e'
    |_=>exact g2.elim
   .cases hl
  .cases hl
 .cases hl
def a7g:BinOp->Option TV
 |.eql=>some (.bool false)
 |.neq=>some (.bool true)
 |_=>none
theorem ZN{op t x y a b ta tb}(ha:VR X P A m h a ta)(hb:VR X P A m h b tb){v}(hl:afE X P op t x y a b=some v):∃w,uj P op t x y ta tb=some w/\VR X P A m h v w:=by
 unfold afE at hl;split at hl
 .rename_i u w h1 h2;split at hl
  .rename_i r hr;rw[kF ha h1,kF hb h2];exact⟨r,hr,xP hl⟩
  cases hl
 rename_i Zu;split at hl
 rotate_left
 .cases hl
 rename_i hn;have key:∃k,LM P t=some k/\((ta=.nil k/\LK tb=some k/\tb.zk=none)\/(tb=.nil k/\LK ta=some k/\ta.zk=none)):=by
  unfold a2b at hn;split at hn
  rotate_left
  .cases hn
  rename_i k hk;refine⟨k,hk,?_⟩;simp only[aa4,a2o,a7l]at hn;have ak2:∀{z:PV X.Γ} {tz:TV},VR X P A m h z tz->z=.nil k->tz=.nil k:=by
   intro z tz hz e;subst e;cases hz with
   |nil=>rfl
   |gone hi _ _=>simp[bF]at hi
  have adu:∀{z:PV X.Γ} {tz:TV},VR X P A m h z tz->(match z with|.fn _ _ _=>some NK.fn|.el _ _ _=>some NK.ptr|_=>none)=some k->LK tz=some k/\tz.zk=none:=by
   intro z tz hz e;cases hz with
   |fn=>exact⟨e,rfl⟩
   |el=>exact⟨e,rfl⟩
   |gone hi _ _=>cases z<;>simp[bF]at hi<;>simp at e
   |_=>simp at e
  have ak3:∀{z:PV X.Γ},(match z with|.nil k=>some k|_=>none)=some k->z=.nil k:=by
   intro z e;cases z<;>simp at e
   rw[e]
  rcases hn with⟨h1,h2⟩|⟨h1,h2⟩
  .have:=adu hb h2;exact .inl ⟨ak2 ha (ak3 h1),this.1,this.2⟩
  have:=adu ha h1;exact .inr ⟨ak2 hb (ak3 h2),this.1,this.2⟩
 obtain⟨k,hk,hc⟩:=key;have afM:uj P op t x y ta tb=a7g op:=by
  rcases hc with⟨rfl,h2,h3⟩|⟨rfl,h2,h3⟩
  .have hnn:Dq P t (.nil k) tb=true:=by unfold Dq;rw[hk];simp[ZF,h2]
   unfold uj;rw[h3];cases(TV.nil k).zk<;>simp only[hnn,a2l]<;>cases op<;>rfl
  have hnn:Dq P t ta (.nil k)=true:=by unfold Dq;rw[hk];simp[ZF,h2]
  unfold uj;rw[h3];simp only[hnn,a2l];cases op<;>rfl
 rw[afM];cases op<;>simp only at hl ⊢<;>try (cases hl;done)
 .cases hl;exact⟨_,rfl,.bool _⟩
 cases hl;exact⟨_,rfl,.bool _⟩
theorem PS{op t x y b ta tb}(hb:VR X P A m h b tb){v q q'}(hl:NS X P op t b q=some (v,q'))(hq:q')(h2:q->LK ta=some .aP/\ta.zk=none):∃w,uj P op t x y ta tb=some w/\VR X P A m h v w:=by
 unfold NS at hl;split at hl
 .rename_i hk;have h1:tb=.nil .aP:=by
   cases hb with
   |nil=>rfl
   |gone hi _ _=>simp[bF]at hi
  subst h1;have key:q->uj P op t x y ta (.nil .aP)=a7g op:=fun hq=>by
   obtain⟨h2,h3⟩:=h2 hq;have hnn:Dq P t ta (.nil .aP)=true:=by unfold Dq;rw[hk];simp[ZF,h2]
   unfold uj;rw[h3];simp only[hnn,a2l];cases op<;>rfl
  split at hl
  .cases hl;rw[key hq];exact⟨_,rfl,.bool _⟩
  .cases hl;rw[key hq];exact⟨_,rfl,.bool _⟩
  cases hl
 cases hl
theorem a4k(hr:HR X P A m H h){op t x y a b ta tb}(ha:VR X P (AA A m) m h a ta)(hb:VR X P (AA A m) m h b tb){v q}(hl:Vp X P op t H a b=some (v,q))(hq:q):∃w,uj P op t x y ta tb=some w/\VR X P (AA A m) m h v w:=by
 unfold Vp at hl;split at hl
 .rename_i l fu;refine PS hb hl hq (fun iO=>?_);cases ha with
  |qx=>exact absurd rfl iO
  |dF=>exact⟨rfl,rfl⟩
  |gone hi _ _=>simp[bF]at hi
 .rename_i i;split at hl
  .rename_i k ex t' l hi;refine PS hb hl hq (fun iO=>?_);obtain⟨mb,g1,g2⟩:=hr.at_ i _ hi;cases ha with
   |own e o=>
    rw[g1]at e;cases e;cases g2 with
    |nil=>exact absurd rfl iO
    |emp=>exact absurd rfl iO
    |some=>exact⟨rfl,rfl⟩
   |gone hi e _=>simp only[bF,a08]at hi;subst hi;rw[g1]at e;cases e<;>exact g2.elim
  cases hl
 cases hl
theorem jq{op a ta}(ha:VR X P A m h a ta){v}(hl:pun X P op a=some v):∃w,unT P op ta=some w/\VR X P A m h v w:=by
 unfold pun at hl;split at hl
 .rename_i u h1;split at hl
  .rename_i r hr;rw[kF ha h1];exact⟨r,hr,xP hl⟩
  cases hl
 cases hl
theorem UZ{s d a ta}(ha:VR X P A m h a ta){v}(hl:a6P X P s d a=some v):∃w,SB P s d ta=some w/\VR X P A m h v w:=by
 unfold a6P at hl;split at hl
 .rename_i u h1;split at hl
  .rename_i r hr;rw[kF ha h1];exact⟨r,hr,xP hl⟩
  cases hl
 cases hl
theorem zL{mx at_ t az ts}(ha:bZ X P A m h az ts){v}(hl:NT X P mx at_ t az=some v):∃w,EF P mx at_ t ts=some w/\VR X P A m h v w:=by
 unfold NT at hl;split at hl
 .rename_i u h1;split at hl
  .rename_i r hr;rw[a2h ha h1];exact⟨r,hr,xP hl⟩
  cases hl
 cases hl
theorem OE{t x tx}(hx:VR X P A m h x tx){i v}(hl:a0l X P t x i=some v):∃w,Oo P t tx i=some w/\VR X P A m h v w:=by
 unfold a0l at hl;split at hl
 .rename_i fs cs hu;split at hl
  .rename_i f hf;cases hx with
   |agg h1 h2=>
    obtain⟨w,g1,g2⟩:=BD ⟨h1,h2⟩ hl;exact⟨w,by simp only[Oo,hu,hf,g1],g2⟩
   |gone hi _ _=>simp[bF]at hi
  cases hl
 cases hl
theorem OG{t x i tx ti}(hx:VR X P A m h x tx)(hi:VR X P A m h i ti){v}(hl:a0m X P t x i=some v):∃w,JI P t tx ti=some w/\VR X P A m h v w:=by
 unfold a0m at hl;split at hl
 .rename_i len e cs hu;split at hl
  .rename_i n j hn hj;have:idx len ti=some j:=by
    cases i<;>simp only[a4f]at hj<;>try (cases hj;done)
    cases hi with
    |int=>exact hj
    |gone e _ _=>simp[bF]at e
   cases hx with
   |agg h1 h2=>
    obtain⟨w,g1,g2⟩:=BD ⟨h1,h2⟩ hl;exact⟨w,by simp only[JI,hu,hn,this,g1],g2⟩
   |gone hi _ _=>simp[bF]at hi
  cases hl
 cases hl
end
open Go Tw
section
variable{X:mX}{P:LI1}{A F:Nat->Prop}{m m':List MB}{h h':List HB}{H H':List (PB X.Γ)}
theorem IU:∀{is} {H} {i:Nat} {pb:PB X.Γ},(bD is H)[i]? = some pb->(i∈is/\pb=.gone)\/(i∉is/\H[i]? = some pb)
 | [],_,_,_,h=>.inr ⟨by simp,h⟩
 |j::is,H,i,pb,h=>by
  rcases IU (is:=is) (H:=XI j H) h with⟨h1,h2⟩|⟨h1,h2⟩
  .exact .inl ⟨a3A _ h1,h2⟩
  unfold XI at h2;by_cases e:j=i
  .subst e;rw[a5v]at h2;cases hx:H[j]? with
   |none=>rw[hx]at h2;cases h2
   |some y=>rw[hx]at h2;cases h2;exact .inl ⟨a3G,rfl⟩
  rw[a1w e]at h2;exact .inr ⟨by simp[h1,afp e],h2⟩
theorem kZ(hr:HR X P A m H h)(is){k ex x e size rows cs}(hw:eG X P (FA A m is) (cu is m) h e rows cs 0 size)(hc:cs.length=rows.length*size)(hn:rows≠[])(hz:dG P e=some size)(h0:0<size)(hx:ex=true->x=true) :∃m1,HR X P A m1 (bD is H++[.list k ex e rows]) (h++[.cells .own cs])/\Fr m h m1 (h++[.cells .own cs])/\Up m m1/\VR X P (AA A m1) m1 (h++[.cells .own cs]) (.own H.length) (.aP h.length 0 rows.length rows.length size x):=by
 have hgo:=hr.bD is;have RV:=iU (h:=h) is m;have rH:(MB.dF (.aP h.length 0 rows.length rows.length size x)).own=some h.length:=by simp only[MB.own];rw[a0S (by simpa using hn)]
 have hF:Fr (cu is m) h (cu is m++[.dF (.aP h.length 0 rows.length rows.length size x)]) (h++[.cells .own cs]):=by
  refine⟨by simp,fun b hb _=>by rw[a0P hb],fun b hb=>?_,fun b cs hc=>⟨cs,by rw[fM (a0P (fP hc)),hc],a1j _⟩⟩;rw[jB,a3E,lD,rH]at hb;rcases hb with hb|hb
  .exact .inl hb
  .simp at hb;exact .inr (by omega)
 obtain⟨h1,h2,h3⟩:=hgo.push (pb:=.list k ex e rows) (hb:=.cells .own cs) (.inl rH)
  (LR.some (kk:=.own) hn hz h0 (by simp) (by simp) (fun _=>rfl) hx hc ((hw.mono fun b hb=>hb.gone hr).step hF (xO _)))
 refine⟨_,h1,RV.1.trans h2,RV.2.trans h3,.own ?_ rfl⟩;rw[<-hr.len,<-nH is m];simp
theorem TQ(hr:HR X P A m H h)(is){k ex e y}(hy:(MB.dF y).own=none)(ho:iR y=true)(hl:LR X P (AA A (cu is m++[.dF y])) (cu is m++[.dF y]) h k ex e [] y) :∃m1,HR X P A m1 (bD is H++[.list k ex e []]) h/\Fr m h m1 h/\Up m m1/\VR X P (AA A m1) m1 h (.own H.length) y:=by
 have RV:=iU (h:=h) is m;obtain⟨h1,h2,h3⟩:=(hr.bD is).adt (pb:=.list k ex e []) hy hl;refine⟨_,h1,RV.1.trans h2,RV.2.trans h3,.own ?_ ho⟩;rw[<-hr.len,<-nH is m];simp
theorem aaQ(hr:HR X P A m H h){is y}(hy:(MB.dF y).own=none){b}(hb:FA A m is b):AA A (cu is m++[.dF y]) b:=by have:=hb.gone hr;refine⟨this.1,fun hm=>this.2 ?_⟩;rw[jB,a3E,lD,hy]at hm;simpa using hm
theorem push_empty(hr:HR X P A m H h)(is){k ex}{e size b off:Nat}{cs}(hz:dG P e=some size)(h0:0<size)(ha:FA A m is b)(hb:aU h b=some cs)(ho:off<=cs.length) :∃m1,HR X P A m1 (bD is H++[.list k ex e []]) h/\Fr m h m1 h/\Up m m1/\VR X P (AA A m1) m1 h (.own H.length) (.aP b off 0 0 size true):=
 TQ hr is rfl rfl (LR.emp (aaQ hr rfl ha) hb ho hz h0)
theorem PU(hr:HR X P A m H h)(is){k ex e} :∃m1,HR X P A m1 (bD is H++[.list k ex e []]) h/\Fr m h m1 h/\Up m m1/\VR X P (AA A m1) m1 h (.own H.length) (.nil .aP):=
 TQ hr is rfl rfl .nil
theorem H7(hr:HR X P A m H h){b c}(is){mb Nh pb h1}(hb:m[b]? = some mb)(ho:mb.own=some c)(ho':Nh.own=some c)(hlen:h1.length=h.length)(hs:∀d,d≠c->h1[d]? = h[d]?)(hg:∀cs,aU h c=some cs->∃cs',aU h1 c=some cs'/\cs.length<=cs'.length)(rG:Fr m h (cu (b::is) m++[Nh]) h1->Up m (cu (b::is) m++[Nh])->BR X P (AA A (cu (b::is) m++[Nh])) (cu (b::is) m++[Nh]) h1 pb Nh) :∃m1,m1=cu (b::is) m++[Nh]/\HR X P A m1 (bD (b::is) H++[pb]) h1/\Fr m h m1 h1/\Up m m1/\m1[H.length]? = some Nh:=by
 have RV:=iU (h:=h) (b::is) m;have hgo:=hr.bD (b::is);have hnc:c∉bn (cu (b::is) m):=fun hm=>by obtain⟨j,mbj,g1,g2,g3⟩:=BF hm;have:=jh hr.nodup hb g2 ho g3;exact g1 (by rw[<-this];exact a3G)
 have yN:∀d,d∈bn (cu (b::is) m++[Nh])↔d∈bn (cu (b::is) m)\/d=c:=by intro d;rw[jB,a3E,lD,ho'];simp
 have DY:c∈bn m:=bg hb ho;have hF:Fr m h (cu (b::is) m++[Nh]) h1:=by
  refine⟨by omega,fun d hd hn=>hs d fun e=>hn (e▸DY),fun d hd=>?_,fun d cs hc=>?_⟩
  .rcases(yN d).1 hd with hd|rfl
   .exact RV.1.new d hd
   .exact .inl DY
  .by_cases e:d=c
   .subst e;exact hg cs hc
   .exact⟨cs,by rw[fM (hs d e),hc],a1j _⟩
 have hU:Up m (cu (b::is) m++[Nh]):=RV.2.trans (xO _);refine⟨_,rfl,?_,hF,hU,?_⟩
 .refine hr.next hF hU (by simp[nH,oH,hr.len]) ?_ fun i pbi hi=>?_
  .rw[jB,lD,ho'];refine a9S.2 ⟨hgo.nodup,by simp,fun a ha b' yM e=>?_⟩;simp at yM;subst yM;subst e;exact hnc ha
  .rcases a4O i (bD (b::is) H).length with aS|CY
   .rw[a0P aS]at hi;have a7h:i<(cu (b::is) m).length:=by rw[hgo.len];exact aS
    rcases IU hi with⟨e1,rfl⟩|⟨e1,e2⟩
    .obtain⟨mbi,g1,g2⟩:=hgo.at_ i _ hi;cases mbi with
     |gone=>exact .inr ⟨.gone,by rw[a0P a7h];exact g1,trivial⟩
     |_=>exact g2.elim
    .obtain⟨mbi,g1,_⟩:=hr.at_ i _ e2;left;have hm:=IG (b::is) g1;rw[show(b::is).contains i=false by simpa using e1]at hm;refine⟨mbi,e2,g1,by rw[a0P a7h];simpa using hm,fun d hd=>hs d fun e=>?_⟩;subst e;have:=jh hr.nodup hb g1 ho hd;exact e1 (by rw[<-this];exact a3G)
   .rw[a1p CY]at hi;have:i-(bD (b::is) H).length=0:=by
     rcases abG (i-(bD (b::is) H).length)with h|h
     .exact h
     .rw[a4w (by simp;omega)]at hi;cases hi
    rw[this]at hi;simp only[a2I,a08]at hi;subst hi;exact .inr ⟨Nh,by rw[a1p (by rw[hgo.len];exact CY),hgo.len,this];rfl,rG hF hU⟩
 .have:H.length=(cu (b::is) m).length:=by rw[nH,hr.len]
  rw[this];simp
end
open Go Tw
section
variable{X:mX}{P:LI1}{A F:Nat->Prop}{m m':List MB}{h h':List HB}{H H':List (PB X.Γ)}
def XR(X:mX)(P:LI1)(A:Nat->Prop)(m:List MB)(ts:St)(r:Option (TV×St×zl))(v:PV X.Γ)(H1:List (PB X.Γ))(pi:PI):Prop:=
 ∃w h1 ti m1,r=some (w,{ ts with heap:=h1 },ti)/\HR X P A m1 H1 h1/\VR X P (AA A m1) m1 h1 v w/\Fr m ts.heap m1 h1/\Up m m1/\IR m ts.heap pi ti/\∀b,.h b∈ti.ws->b∈bn m
theorem kG{e n k}(hb:uT P e n=true)(hk:k<=n):uT P e k=true:=by
 unfold uT at hb ⊢;split at hb
 .rename_i i hi;simp only[a2o,a1z]at hb ⊢;obtain⟨⟨⟨⟨h1,h2⟩,h3⟩,h4⟩,h5⟩:=hb;have:=a3I i.bytes hk;exact⟨⟨⟨⟨by omega,by omega⟩,h3⟩,h4⟩,h5⟩
 cases hb
theorem oL{t e n}(hs:jY P t=some (e,n)):dG P e=some n/\0<n:=by
 unfold jY at hs;split at hs
 .split at hs
  .rename_i k hk;split at hs
   .cases hs
   rename_i h0;simp only[a08,a1d]at hs;obtain⟨rfl,rfl⟩:=hs;exact⟨hk,by omega⟩
  cases hs
 cases hs
theorem uX(hr:HR X P A m H h){e sz:Nat}{x tx}(hv:VR X P (AA A m) m h x tx)(hz:dG P e=some sz){rows is}(hs:Bv X H e sz x=some (rows,is)){b}(hb:.h b∈dH tx):((∃i,.h i∈zC X x/\H6 m i b)\/b∉bn m)/\b<h.length:=by
 have lr:∀{i:Nat} {k ex:Bool} {t:Nat} {l:List (X.Γ t)} {c off len cap s:Nat} {e':Bool},H[i]? = some (.list k ex t l)->m[i]? = some (.dF (.aP c off len cap s e'))->(H6 m i c\/c∉bn m)/\c<h.length:=by
  intro i k ex t l c off len cap s e' hH hm;obtain⟨mb,g1,g2⟩:=hr.at_ i _ hH;rw[hm]at g1;cases g1;cases(g2:LR X P _ _ _ _ _ _ _ _)with
  |emp h0 h1=>exact⟨.inr h0.2,fP h1⟩
  |some q1 q2 q3 q4=>exact⟨.inl (jc hm (by simp only[MB.own];rw[a0S (by simpa using q1)])),(a0u.1 q4).1⟩
 cases x with
 |nil k=>
  cases hv with
  |nil=>simp[dH]at hb
  |gone hi _ _=>simp[bF]at hi
 |dF t l fu=>
  cases hv with
  |qx=>simp[dH]at hb
  |dF a ac=>simp[dH]at hb;subst hb;exact⟨.inr a.2,fP ac⟩
  |gone hi _ _=>simp[bF]at hi
 |own i=>
  simp only[Bv]at hs;split at hs
  .rename_i k ex t l hH;cases hv with
   |own e' o=>
    cases tx<;>simp[dH]at hb
    subst hb;obtain⟨h1,h2⟩:=lr hH e';rcases h1 with h1|h1
    .exact⟨.inl ⟨i,by simp[zC],h1⟩,h2⟩
    exact⟨.inr h1,h2⟩
   |gone hi e' _=>
    simp only[bF,a08]at hi;subst hi;obtain⟨mb,g1,g2⟩:=hr.at_ i _ hH;rw[g1]at e';cases e'<;>exact g2.elim
  cases hs
 |win i o n=>
  simp only[Bv]at hs;split at hs
  .rename_i k ex t l hH;cases hv with
   |win e' q q'=>
    simp[dH]at hb;subst hb;obtain⟨h1,h2⟩:=lr hH e';rcases h1 with h1|h1
    .exact⟨.inl ⟨i,by simp[zC],h1⟩,h2⟩
    exact⟨.inr h1,h2⟩
   |D7=>simp[dH]at hb
   |gone hi e' _=>
    simp only[bF,a08]at hi;subst hi;obtain⟨mb,g1,g2⟩:=hr.at_ i _ hH;rw[g1]at e';cases e'<;>exact g2.elim
  cases hs
 |aP c off len cap s ex=>
  simp only[Bv]at hs;split at hs
  .rename_i cs hH;cases hv with
   |aP e'=>
    simp[dH]at hb;subst hb;obtain⟨mb,g1,g2⟩:=hr.at_ c _ hH;rw[e']at g1;cases g1;exact⟨.inl ⟨c,by simp[zC],jc e' rfl⟩,g2.has rfl⟩
   |gone hi e' _=>
    simp only[bF,a08]at hi;subst hi;obtain⟨mb,g1,g2⟩:=hr.at_ c _ hH;rw[g1]at e';cases e'<;>exact g2.elim
  cases hs
 |_=>simp[Bv]at hs
theorem IR.reads{p ks}(hp:p.hp=true)(hk:∀b,.h b∈ks->((∃i,.h i∈p.i.ts/\H6 m i b)\/b∉bn m)/\b<h.length)(hl:∀k,.l k∉ks):IR m h p (gu ks):=
 ⟨fun h=>(by cases h),fun k h=>absurd h (hl k),fun k h=>(by cases h),fun b h=>(by cases h),hk,fun h=>(by rw[hp]at h;cases h)⟩
theorem mJ{tx k}:Key.l k∉dH tx:=by cases tx<;>simp[dH]
theorem JV(hX:bT X P){ps ts}(hR:wu X P A m ps ts){at_ d x td tx}(hd:VR X P (AA A m) m ts.heap d td)(hx:VR X P (AA A m) m ts.heap x tx){v H1 pi qs}(hl:Vo X P at_ ps.heap d x=some (v,H1,pi,qs)) (hq:∀q∈qs,q):XR X P A m ts (jE P at_ ts td tx) v H1 ⟨pi,false,false,true⟩:=by
 have hr:=hR.heap;unfold Vo at hl;split at hl
 .rename_i st xt vH Ie;split at hl
  .cases hl
  .rename_i hint;split at hl
   .rename_i e size zy;split at hl
    .rename_i FD;obtain⟨hz,h0⟩:=oL zy;split at hl
     .rename_i rows is hs;obtain⟨new,s1,s2,s3⟩:=VD (m':=cu is m) hX hr hx hz hs;have hk0:IR m ts.heap ⟨gu (zC X x),false,false,true⟩ (gu (dH tx)):=IR.reads rfl (fun b hb=>uX hr hx hz hs hb) fun k=>mJ;have hrn:rows.length=0↔rows=[]:=a7f;split at hl
      .
       simp only[a08,a1d]at hl;obtain⟨rfl,rfl,rfl,rfl⟩:=hl;have Dy:rows.length<=ah:=hq _ a3G;have:td=.nil .aP:=by
        cases hd with
        |nil=>rfl
        |gone hi _ _=>simp[bF]at hi
       subst this;by_cases hn:rows=[]
       .subst hn;obtain⟨m1,g1,g2,g3,g4⟩:=PU hr is (k:=true) (ex:=false) (e:=e);exact⟨_,ts.heap,_,m1,by unfold jE;simp only[vH,Ie,hint,a3S,zy,s1,a5L,a2l,a2H],g1,g4,g2,g3,hk0,fun b hb=>by simp[gu]at hb⟩
       .obtain⟨m1,g1,g2,g3,g4⟩:=kZ hr is (k:=true) (ex:=false) (x:=false) s3 s2 hn hz h0 (by simp);refine⟨_,ts.heap++[.cells .own new],_,m1,?_,g1,g4,g2,g3,hk0,fun b hb=>by simp[gu]at hb⟩;unfold jE;simp only[vH,Ie,hint,a3S,zy,s1,a2H,hrn,hn,s2,a2l,kG FD Dy]
      .
       rename_i b;split at hl
       .rename_i k ex t' l hb;split at hl
        .cases hl
        rename_i hnb;split at hl
        .rename_i l2 IV;obtain⟨rfl,rfl⟩:=sJ IV;simp only[a08,a1d]at hl;obtain⟨rfl,rfl,rfl,rfl⟩:=hl;have Dy:l2.length+rows.length<=ah:=hq _ a3G;obtain⟨mb,g1,g2⟩:=hr.at_ b _ hb;have SG:∀{c:Nat},H6 m b c\/c∉bn m->c<ts.heap.length->IR m ts.heap ⟨⟨false,.h b::zC X x,[.h b]⟩,false,false,true⟩ (gu (.h c::dH tx)):=fun{c} hc aS=>IR.reads rfl (fun d hd=>by
          rcases a1B.1 hd with e0|e0
          .cases e0;rcases hc with hc|hc
           .exact⟨.inl ⟨b,a3G,hc⟩,aS⟩
           .exact⟨.inr hc,aS⟩
          .obtain⟨h0,h9⟩:=uX hr hx hz hs e0;rcases h0 with⟨i,h1,h2⟩|h1
           .exact⟨.inl ⟨i,a3A _ h1,h2⟩,h9⟩
           .exact⟨.inr h1,h9⟩) fun j hj=>by
            rcases a1B.1 hj with e0|e0
            .cases e0
            .exact mJ e0
         have kN:IR m ts.heap ⟨⟨false,.h b::zC X x,[.h b]⟩,false,false,true⟩ (gu (dH tx)):=IR.reads rfl (fun d hd=>by
          obtain⟨h0,h9⟩:=uX hr hx hz hs hd;rcases h0 with⟨i,h1,h2⟩|h1
          .exact⟨.inl ⟨i,a3A _ h1,h2⟩,h9⟩
          .exact⟨.inr h1,h9⟩) fun j hj=>mJ hj
         cases mb with
         |dF z=>
          cases hd with
          |gone hi e' _=>simp only[bF,a08]at hi;subst hi;rw[g1]at e';cases e'
          |own e' o=>
           rw[g1]at e';cases e';have hlr:LR X P (AA A m) m ts.heap k ex t' l2 td:=g2;have V5:eG X P (FA A m (b::is)) (cu (b::is) m) ts.heap t' rows new 0 size:=(s3.mono fun c hc=>FA.mono (fun i hi=>a3A _ hi) hc).jH hX;cases hlr with
           |nil=>
            simp only[aar];by_cases hn:rows=[]
            .subst hn;obtain⟨m1,f1,f2,f3,f4⟩:=PU hr (b::is) (k:=k&&ex) (ex:=false) (e:=t');exact⟨_,ts.heap,_,m1,by unfold jE;simp only[vH,Ie,hint,a3S,zy,s1,a5L,a2l,a2H],f1,f4,f2,f3,kN,fun c hc=>by simp[gu]at hc⟩
            .obtain⟨m1,f1,f2,f3,f4⟩:=kZ hr (b::is) (k:=k&&ex) (ex:=false) (x:=false) V5 s2 hn hz h0 (by simp);refine⟨_,ts.heap++[.cells .own new],_,m1,?_,f1,f4,f2,f3,kN,fun c hc=>by simp[gu]at hc⟩;unfold jE;simp only[vH,Ie,hint,a3S,zy,s1,a2H,hrn,hn,s2,a2l,kG FD (show rows.length<=ah by omega)]
           |emp p0 p1 p2 p3 p4=>
            rename_i c off sz cs;rw[hz]at p3;cases p3;simp only[aar];by_cases hn:rows=[]
            .subst hn;obtain⟨m1,f1,f2,f3,f4⟩:=push_empty hr (b::is) (k:=k&&ex) (ex:=false) hz h0 (.inl p0) p1 p2;exact⟨_,ts.heap,_,m1,by unfold jE;simp only[vH,Ie,hint,a3S,zy,s1,a5L,a2l,a2H],f1,f4,f2,f3,kN,fun c hc=>by simp[gu]at hc⟩
            .obtain⟨m1,f1,f2,f3,f4⟩:=kZ hr (b::is) (k:=k&&ex) (ex:=false) (x:=false) V5 s2 hn hz h0 (by simp);refine⟨_,ts.heap++[.cells .own new],_,m1,?_,f1,f4,f2,f3,SG (c:=c) (.inr p0.2) (fP p1),fun c hc=>by simp[gu]at hc⟩;have mg:eF size ts.heap (.aP c off 0 0 size true)=some (0,[]):=(by simp[eF]);unfold jE;simp only[vH,Ie,hint,a3S,zy,s1,a2H,hrn,hn,s2,a2l,a3C,Nat.le_zero_eq,kG FD (show rows.length<=ah by omega),mg,a1l,aar]
           |some p1 p2 p3 p4 p5 p6 p7 p8 p9=>
            rename_i c sz xx kk cs;rw[hz]at p2;cases p2;have rH:(MB.dF (TV.aP c 0 l2.length l2.length size xx)).own=some c:=by simp only[MB.own];rw[a0S (by simpa using p1)]
            by_cases hn:rows=[]
            .subst hn;simp only[a6k];obtain⟨m1,f0,f1,f2,f3,f4⟩:=H7 (pb:=.list (k&&ex) false t' l2) hr is g1 rH rH rfl (fun _ _=>rfl) (fun cs hc=>⟨cs,hc,a1j _⟩) (fun hF hU=>LR.some p1 hz p3 p4 p5 (fun hk=>p6 (by simp at hk;exact hk.1)) (by simp) p8 (p9.step hF hU));exact⟨_,ts.heap,_,m1,by unfold jE;simp only[vH,Ie,hint,a3S,zy,s1,a5L,a2l,a2H],f1,.own f4 rfl,f2,f3,kN,fun c hc=>by simp[gu]at hc⟩
            .have hle:¬l2.length+rows.length<=l2.length:=by have:rows.length≠0:=fun e0=>hn (hrn.1 e0);omega
             have iO:l2++rows≠[]:=(by simp[p1]);cases xx with
             |true=>
              have hold:eF size ts.heap (.aP c 0 l2.length l2.length size true)=some (l2.length,cs):=by simp only[eF,a2l];rw[a0S (fun e0=>p1 (a7f.1 e0)),xK p4 (by omega)];simp only[sub];rw[a15 (by omega),aaO,a9L (by omega)];rfl
              have hw1:eG X P (FA A m (b::is)) (cu (b::is) m) ts.heap t' l2 cs 0 size:=(p9.mono fun c hc=>.inl hc).jH hX;obtain⟨m1,f1,f2,f3,f4⟩:=kZ hr (b::is) (k:=k&&ex) (ex:=false) (x:=false) (hw1.app V5 p8) (by rw[a1v,a1v,a3H,p8,s2]) iO hz h0 (by simp);refine⟨_,ts.heap++[.cells .own (cs++new)],_,m1,?_,f1,f4,f2,f3,SG (c:=c) (.inl (jc g1 rH)) (a0u.1 p4).1,fun c hc=>by simp[gu]at hc⟩;unfold jE;simp only[vH,Ie,hint,a3S,zy,s1,a2H,hrn,hn,s2,a2l,hle,kG FD Dy,hold,a1l,a1v]
             |false=>
              have hex:ex=false:=by cases ex with
               |true=>exact absurd (p7 rfl) (by simp)
               |false=>rfl
              subst hex;have aS:=(a0u.1 p4).1;obtain⟨m1,f0,f1,f2,f3,f4⟩:=H7 (pb:=.list (k&&false) false t' (l2++rows)) (h1:=ts.heap.set c (.cells kk.more (cs++new))) (Nh:=.dF (.aP c 0 (l2.length+rows.length) (l2.length+rows.length) size false)) hr is g1 rH
               (by simp only[MB.own];rw[a0S (by omega)]) (by simp) (fun d hd=>a1w (afp hd)) (fun ET LW=>⟨cs++new,by simp[aU,aS],by
                simp only[aU,p4,a08]at LW;subst LW;simp⟩) (fun hF hU=>by
                have RV:=iU (h:=ts.heap) (b::is) m;have RI:∀q cs',FA A m is q->aU ts.heap q=some cs'->AA A (cu (b::is) m++[.dF (.aP c 0 (l2.length+rows.length) (l2.length+rows.length) size false)]) q/\(ts.heap.set c (.cells kk.more (cs++new)))[q]? = ts.heap[q]?:=fun q cs' hq hc=>by
                 have Zt:q≠c:=fun e0=>by
                  subst e0;rcases hq with hq|⟨i,mb,e1,e2,e3⟩
                  .exact hq.2 (bg g1 rH)
                  .have:=jh hr.nodup g1 e2 rH e3;subst this;exact hnb (by simpa using e1)
                 have hg:=FA.gone hr (FA.mono (js:=b::is) (fun i hi=>a3A _ hi) hq);refine⟨⟨hg.1,fun hm=>?_⟩,a1w (afp Zt)⟩;rw[jB,a3E,lD]at hm;rcases hm with hm|hm
                 .exact hg.2 hm
                 .simp only[MB.own]at hm;rw[a0S (by omega)]at hm;simp at hm;exact Zt hm
                have:=LR.some (X:=X) (P:=P) (A:=AA A (cu (b::is) m++[.dF (.aP c 0 (l2.length+rows.length) (l2.length+rows.length) size false)])) (m:=cu (b::is) m++[.dF (.aP c 0 (l2.length+rows.length) (l2.length+rows.length) size false)]) (h:=ts.heap.set c (.cells kk.more (cs++new))) (k:=k&&false) (ex:=false) (t:=t') (l:=l2++rows) (b:=c) (sz:=size) (e:=false) (kk:=kk.more) (cs:=cs++new)
                 iO hz h0 (by simp[aS]) (by cases kk<;>simp[BK.more]) (by simp) (by simp) (by rw[a1v,a1v,a3H,p8,s2]) ((p9.step hF hU).app (s3.move hX RI) p8)
                rw[a1v]at this;exact this)
              refine⟨_,ts.heap.set c (.cells kk.more (cs++new)),⟨false,.h c::dH tx,[.h c]⟩,m1,?_,f1,.own f4 rfl,f2,f3,⟨fun h=>(by cases h),fun j hj=>?_,fun j hj=>(by simp at hj),fun d hd=>?_,fun d hd=>?_,fun h=>(by cases h)⟩,fun d hd=>?_⟩
              .unfold jE;simp only[vH,Ie,hint,a3S,zy,s1,a2H,hrn,hn,s2,a2l,hle,kG FD Dy,p4,ne_eq,not_true_eq_false,p5,p8,a7f,p1,or_self]
              .rcases a1B.1 hj with e0|e0
               .cases e0
               .exact absurd e0 mJ
              .simp at hd;subst hd;exact .inl ⟨b,by simp,jc g1 rH⟩
              .rcases a1B.1 hd with e0|e0
               .cases e0;exact⟨.inl ⟨b,a3G,jc g1 rH⟩,aS⟩
               .obtain⟨h0,h9⟩:=uX hr hx hz hs e0;rcases h0 with⟨i,h1,h2⟩|h1
                .exact⟨.inl ⟨i,a3A _ h1,h2⟩,h9⟩
                .exact⟨.inr h1,h9⟩
              .simp at hd;subst hd;exact bg g1 rH
         |_=>exact g2.elim
        .cases hl
       .cases hl
      .
       rename_i t' l;split at hl
       .rename_i l2 IV;obtain⟨rfl,rfl⟩:=sJ IV;simp only[a08,a1d]at hl;obtain⟨rfl,rfl,rfl,rfl⟩:=hl;have Dy:l2.length+rows.length<=ah:=hq _ a3G;have Gt:l2=[]\/rows≠[]:=hq _ (a3A _ a3G);cases hd with
        |gone hi _ _=>simp[bF]at hi
        |qx=>
         simp only[aar];by_cases hn:rows=[]
         .subst hn;obtain⟨m1,f1,f2,f3,f4⟩:=PU hr is (k:=true) (ex:=false) (e:=t');exact⟨_,ts.heap,_,m1,by unfold jE;simp only[vH,Ie,hint,a3S,zy,s1,a5L,a2l,a2H],f1,f4,f2,f3,hk0,fun c hc=>by simp[gu]at hc⟩
         .obtain⟨m1,f1,f2,f3,f4⟩:=kZ hr is (k:=true) (ex:=false) (x:=false) s3 s2 hn hz h0 (by simp);refine⟨_,ts.heap++[.cells .own new],_,m1,?_,f1,f4,f2,f3,hk0,fun c hc=>by simp[gu]at hc⟩;unfold jE;simp only[vH,Ie,hint,a3S,zy,s1,a2H,hrn,hn,s2,a2l,kG FD (show rows.length<=ah by omega)]
        |dF p1 p2 p2' p3 p4 p5 p6 p7 p8 p9=>
         rename_i c off cap sz xx cs;rw[hz]at p3;cases p3;obtain⟨rfl,rfl⟩:=p7 rfl;have hk3:IR m ts.heap ⟨gu (zC X x),false,false,true⟩ (gu (.h c::dH tx)):=IR.reads rfl (fun d hd=>by
          rcases a1B.1 hd with e0|e0
          .cases e0;exact⟨.inr p1.2,fP p2⟩
          .exact uX hr hx hz hs e0) fun j hj=>by
           rcases a1B.1 hj with e0|e0
           .cases e0
           .exact mJ e0
         by_cases hn:rows=[]
         .have qW:l2=[]:=by rcases Gt with h1|h1;exact h1;exact absurd hn h1
          subst hn;subst qW;obtain⟨m1,f1,f2,f3,f4⟩:=push_empty hr is (k:=true) (ex:=false) hz h0 (.inl p1) p2 (by simpa using p5);exact⟨_,ts.heap,_,m1,by unfold jE;simp only[vH,Ie,hint,a3S,zy,s1,a5L,a2l,a2H],f1,f4,f2,f3,hk0,fun c hc=>by simp[gu]at hc⟩
         .have hle:¬l2.length+rows.length<=l2.length:=by have:rows.length≠0:=fun e0=>hn (hrn.1 e0);omega
          have hw1:eG X P (FA A m is) (cu is m) ts.heap t' l2 ((cs.drop off).take (l2.length*size)) 0 size:=by have hh:eG X P (AA A m) m ts.heap t' l2 cs off size:=⟨p8,p5,p9⟩;exact(hh.take.mono fun c hc=>.inl hc).jH hX
          have hlen:((cs.drop off).take (l2.length*size)).length=l2.length*size:=by rw[a4c,a3Q];omega
          obtain⟨m1,f1,f2,f3,f4⟩:=kZ hr is (k:=true) (ex:=false) (x:=false) (hw1.app s3 hlen) (by rw[a1v,a1v,a3H,hlen,s2]) (by simp[hn]) hz h0 (by simp);refine⟨_,ts.heap++[.cells .own ((cs.drop off).take (l2.length*size)++new)],_,m1,?_,f1,f4,f2,f3,hk3,fun c hc=>by simp[gu]at hc⟩;have mg:eF size ts.heap (.aP c off l2.length l2.length size true)=some (l2.length,(cs.drop off).take (l2.length*size)):=by
           simp only[eF,a2l,sub];by_cases qW:l2.length=0
           .rw[a15 qW,qW,adg,List.take_zero]
           .rw[a0S qW,p2' (fun e0=>qW (by rw[e0];rfl))];simp only;rw[a15 p5];rfl
          unfold jE;simp only[vH,Ie,hint,a3S,zy,s1,a2H,hrn,hn,s2,a2l,hle,kG FD Dy,mg,a1l,a1v]
       .cases hl
      .
       rename_i b;split at hl
       .rename_i k ex t' l hb;split at hl
        .rename_i l2 IV;obtain⟨rfl,rfl⟩:=sJ IV;simp only[a08,a1d]at hl;obtain⟨rfl,rfl,rfl,rfl⟩:=hl;have Dy:l2.length+rows.length<=ah:=hq _ a3G;have hn:rows≠[]:=hq _ (a3A _ a3G);obtain⟨mb,g1,g2⟩:=hr.at_ b _ hb;have kN:∀d,.h d∈dH tx->((∃i,.h i∈(⟨gu (.h b::zC X x),false,false,true⟩:PI).i.ts/\H6 m i d)\/d∉bn m)/\d<ts.heap.length:=fun d hd=>by
          obtain⟨h0,h9⟩:=uX hr hx hz hs hd;rcases h0 with⟨i,h1,h2⟩|h1
          .exact⟨.inl ⟨i,a3A _ h1,h2⟩,h9⟩
          .exact⟨.inr h1,h9⟩
         have hk3:IR m ts.heap ⟨gu (.h b::zC X x),false,false,true⟩ (gu (dH tx)):=IR.reads rfl kN fun j hj=>mJ hj;have SG:∀{c:Nat},H6 m b c\/c∉bn m->c<ts.heap.length->IR m ts.heap ⟨gu (.h b::zC X x),false,false,true⟩ (gu (.h c::dH tx)):=fun{c} hc aS=>IR.reads rfl (fun d hd=>by
          rcases a1B.1 hd with e0|e0
          .cases e0;rcases hc with hc|hc
           .exact⟨.inl ⟨b,a3G,hc⟩,aS⟩
           .exact⟨.inr hc,aS⟩
          .exact kN d e0) fun j hj=>by
           rcases a1B.1 hj with e0|e0
           .cases e0
           .exact mJ e0
         cases mb with
         |dF z=>
          have hlr:LR X P (AA A m) m ts.heap k ex t' l2 z:=g2;cases hd with
          |gone hi e' _=>simp only[bF,a08]at hi;subst hi;rw[g1]at e';cases e'
          |Kv e'=>
           rw[g1]at e';cases e';cases hlr with
           |nil=>
            simp only[aar];obtain⟨m1,f1,f2,f3,f4⟩:=kZ hr is (k:=true) (ex:=false) (x:=false) s3 s2 hn hz h0 (by simp);refine⟨_,ts.heap++[.cells .own new],_,m1,?_,f1,f4,f2,f3,hk3,fun c hc=>by simp[gu]at hc⟩;unfold jE;simp only[vH,Ie,hint,a3S,zy,s1,a2H,hrn,hn,s2,a2l,kG FD (show rows.length<=ah by omega)]
          |Hz e'=>
           rw[g1]at e';cases e';cases hlr with
           |emp p0 p1 p2 p3 p4=>
            rename_i c off sz cs;rw[hz]at p3;cases p3;simp only[aar];obtain⟨m1,f1,f2,f3,f4⟩:=kZ hr is (k:=true) (ex:=false) (x:=false) s3 s2 hn hz h0 (by simp);refine⟨_,ts.heap++[.cells .own new],_,m1,?_,f1,f4,f2,f3,SG (c:=c) (.inr p0.2) (fP p1),fun c hc=>by simp[gu]at hc⟩;have mg:eF size ts.heap (.aP c off 0 0 size true)=some (0,[]):=(by simp[eF]);unfold jE;simp only[vH,Ie,hint,a3S,zy,s1,a2H,hrn,hn,s2,a2l,a3C,Nat.le_zero_eq,kG FD (show rows.length<=ah by omega),mg,a1l,aar]
           |some p1 p2 p3 p4 p5 p6 p7 p8 p9=>
            rename_i c sz xx kk cs;rw[hz]at p2;cases p2;have rH:(MB.dF (TV.aP c 0 l2.length l2.length size xx)).own=some c:=by simp only[MB.own];rw[a0S (by simpa using p1)]
            have hle:¬l2.length+rows.length<=l2.length:=by have:rows.length≠0:=fun e0=>hn (hrn.1 e0);omega
            have iO:l2++rows≠[]:=(by simp[p1]);have hold:eF size ts.heap (.aP c 0 l2.length l2.length size true)=some (l2.length,cs):=by simp only[eF,a2l];rw[a0S (fun e0=>p1 (a7f.1 e0)),xK p4 (by omega)];simp only[sub];rw[a15 (by omega),aaO,a9L (by omega)];rfl
            have hw1:eG X P (FA A m is) (cu is m) ts.heap t' l2 cs 0 size:=(p9.mono fun c hc=>.inl hc).jH hX;obtain⟨m1,f1,f2,f3,f4⟩:=kZ hr is (k:=true) (ex:=false) (x:=false) (hw1.app s3 p8) (by rw[a1v,a1v,a3H,p8,s2]) iO hz h0 (by simp);refine⟨_,ts.heap++[.cells .own (cs++new)],_,m1,?_,f1,f4,f2,f3,SG (c:=c) (.inl (jc g1 rH)) (a0u.1 p4).1,fun c hc=>by simp[gu]at hc⟩;unfold jE;simp only[vH,Ie,hint,a3S,zy,s1,a2H,hrn,hn,s2,a2l,hle,kG FD Dy,hold,a1l,a1v]
         |_=>exact g2.elim
        .cases hl
       .cases hl
      .cases hl
     .cases hl
    .cases hl
   .cases hl
 .cases hl
end
open Go Tw
theorem XT{α}{l rows:List α}{o k}(h:o+k<=l.length)(hk:k<=rows.length):(Py l o k rows).length=l.length:=by unfold Py;simp;omega
theorem a4l{α}{l rows:List α}{o}:Py l o 0 rows=l:=by unfold Py;simp
section
variable{X:mX}{P:LI1}{A F:Nat->Prop}{m m':List MB}{h h':List HB}{H H':List (PB X.Γ)}
theorem eG.put{t sz o k l rows cs new}(h1:eG X P F m h t l cs 0 sz)(h2:eG X P F m h t rows new 0 sz)(hc:cs.length=l.length*sz)(hn:new.length=rows.length*sz)(ho:o+k<=l.length)(hk:k<=rows.length) :eG X P F m h t (Py l o k rows) (cs.take (o*sz)++new.take (k*sz)++cs.drop (o*sz+k*sz)) 0 sz:=by
 have a1:=(h1.part (o:=0) (n:=o) (by omega)).take;have a2:=(h2.part (o:=0) (n:=k) (by omega)).take;have a3:=(h1.part (o:=o+k) (n:=l.length-(o+k)) (by omega)).take;have l1:((l.drop 0).take o).length=o:=by simp;omega
 have l2:((rows.drop 0).take k).length=k:=by simp;omega
 have l3:((l.drop (o+k)).take (l.length-(o+k))).length=l.length-(o+k):=by simp
 rw[l1]at a1;rw[l2]at a2;rw[l3]at a3;simp only[adg,adb,a3C,aaO]at a1 a2 a3;have m1:o*sz<=cs.length:=by rw[hc];exact a3I _ (by omega)
 have m2:k*sz<=new.length:=by rw[hn];exact a3I _ hk
 have r:=(a1.app a2 (by rw[a4c,a4c];rw[a8b m1,a8b (by omega)])).app a3 (by simp only[a1v,a4c];rw[a8b m1,a8b m2,a8b (by omega),a8b hk,a3H])
 have e1:l.drop (o+k)=(l.drop (o+k)).take (l.length-(o+k)):=by rw[a9L (by simp)]
 have e2:cs.drop (o*sz+k*sz)=(cs.drop ((o+k)*sz)).take ((l.length-(o+k))*sz):=by rw[a3H,a9L];rw[a3Q,hc,Nat.sub_mul,a3H];omega
 unfold Py;rw[e1,e2];exact r
theorem EU(hX:bT X P){ps ts}(hR:wu X P A m ps ts){at_}{st e size b o n:Nat}{k0 ex l rows x td tx}(vH:at_[0]? = some st)(zy:jY P st=some (e,size))(hx:VR X P (AA A m) m ts.heap x tx)(hs:Bv X ps.heap e size x=some (rows,[])) (hb:ps.heap[b]? = some (.list k0 ex e l)) {mb} (g1:m[b]? = some mb) (g2:BR X P (AA A m) m ts.heap (.list k0 ex e l) mb)(htd:(∃c sz' xx' xx cap,mb=.dF (.aP c 0 l.length l.length sz' xx')/\l≠[]/\td=.aP c (o*sz') n cap sz' xx/\(n=0\/o+cap=l.length))\/(n=0/\(td=.nil .aP\/∃c f cap xx,td=.aP c f 0 cap size xx))) (hon:o+n<=l.length) (OQ:isStr tx=false) :XR X P A m ts (I5 P at_ ts td tx) (.int .i64 ((min rows.length n:Nat):Int)) (ps.heap.set b (.list k0 ex e (Py l o (min rows.length n) rows))) ⟨⟨false,.h b::zC X x,[.h b]⟩,false,false,true⟩:=by
 have hr:=hR.heap;obtain⟨hz,h0⟩:=oL zy;obtain⟨new,s1,s2,s3⟩:=VD (m':=m) hX hr hx hz hs;have V5:eG X P (AA A m) m ts.heap e rows new 0 size:=s3.mono fun q hq=>by
  rcases hq with hq|⟨i,_,hi,_⟩
  .exact hq
  .simp at hi
 have kN:IR m ts.heap ⟨⟨false,.h b::zC X x,[.h b]⟩,false,false,true⟩ (gu (dH tx)):=IR.reads rfl (fun d hd=>by
  obtain⟨h0,h9⟩:=uX hr hx hz hs hd;rcases h0 with⟨i,h1,h2⟩|h1
  .exact⟨.inl ⟨i,a3A _ h1,h2⟩,h9⟩
  .exact⟨.inr h1,h9⟩) fun j hj=>mJ hj
 have same:ps.heap.set b (.list k0 ex e l)=ps.heap:=by
  apply aao;intro i;by_cases e:b=i
  .subst e;rw[a1C (a0u.1 hb).1,hb]
  .rw[a1w e]
 by_cases hk:min rows.length n=0
 .rw[hk,a4l,same];refine⟨.int .i64 0,ts.heap,gu (dH tx),m,?_,hr,.int _ _,.refl,.refl,kN,fun c hc=>by simp[gu]at hc⟩;unfold I5;simp only[vH,zy,s1,s2,OQ,adr,a2l];rcases htd with⟨c,sz',xx',xx,cap,rfl,iO,rfl,tZ⟩|⟨rfl,rfl|⟨c,f,cap,xx,rfl⟩⟩
  .have:sz'=size:=by cases g2 with|some _ q2 _ _ _ _ _ _ _=>rw[hz]at q2;cases q2;rfl|emp=>exact absurd rfl iO
   simp only[this,a2l,hk]
  .rfl
  .simp only[a2l,hk]
 .rcases htd with⟨c,sz',xx',xx,cap,rfl,iO,rfl,tZ⟩|⟨rfl,_⟩
  .cases g2 with
   |emp=>exact absurd rfl iO
   |some p1 p2 p3 p4 p5 p6 p7 p8 p9=>
    rename_i kk cs;rw[hz]at p2;cases p2;obtain⟨CG,yK,afO,hko⟩:=Kw p5;have ak6:o*size+cap*size=cs.length:=by have:=tZ.resolve_left (by omega);rw[p8,<-this,a3H]
    have aS:=(a0u.1 p4).1;have rH:(MB.dF (TV.aP c 0 l.length l.length size xx')).own=some c:=by simp only[MB.own];rw[a0S (by simpa using p1)]
    have hkn:o+min rows.length n<=l.length:=(by omega);have hkr:min rows.length n<=rows.length:=Nat.min_le_left _ _;have m1:o*size+min rows.length n*size<=cs.length:=by rw[p8,<-a3H];exact a3I _ hkn
    have m2:min rows.length n*size<=new.length:=by rw[s2];exact a3I _ hkr
    have m3:min (min rows.length n*size) (rows.length*size)=min rows.length n*size:=a8b (by rw[<-s2];exact m2);have aqj:=eG.put p9 V5 p8 s2 hkn hkr;have nR:(cs.take (o*size)++new.take (min rows.length n*size)++cs.drop (o*size+min rows.length n*size)).length=cs.length:=by simp;omega
    have hl:=XT (rows:=rows) hkn hkr;obtain⟨q1,q2⟩:=hr.set (i:=b) (c:=c) (pb:=.list k0 ex e (Py l o (min rows.length n) rows)) (hb:=.cells CG (cs.take (o*size)++new.take (min rows.length n*size)++cs.drop (o*size+min rows.length n*size))) g1 rH
     (fun ET LW=>⟨_,by simp only[aU];rw[a1C aS],by
      simp only[aU,p4,a08]at LW;subst LW;rw[nR];exact a1j _⟩)
     (fun hF=>by
      have aji:Py l o (min rows.length n) rows≠[]:=fun e0=>by rw[e0]at hl;simp at hl;exact p1 (a7f.1 hl.symm)
      have r:=LR.some (k:=k0) (ex:=ex) (e:=xx') aji hz p3 (by rw[a1C aS]) afO (fun e0=>hko (p6 e0)) p7 (by rw[nR,hl,p8]) (aqj.step hF .refl);rw[hl]at r;exact r)
    refine⟨.int .i64 ((min rows.length n:Nat):Int),_,⟨false,.h c::dH tx,[.h c]⟩,m,?_,q1,.int _ _,q2,.refl,?_,fun d hd=>?_⟩
    .unfold I5;simp only[vH,zy,s1,s2,OQ,adr,a2l,hk,a3S,a2e p4 yK ak6,wY,a4c,m3,m1,a1l]
    .refine⟨fun h=>(by cases h),fun k hk=>?_,fun k hk=>(by simp at hk),fun d hd=>?_,fun d hd=>?_,fun h=>(by cases h)⟩
     .rcases a1B.1 hk with e0|e0
      .cases e0
      .exact absurd e0 mJ
     .simp at hd;subst hd;exact .inl ⟨b,a3G,jc g1 rH⟩
     .rcases a1B.1 hd with e0|e0
      .cases e0;exact⟨.inl ⟨b,a3G,jc g1 rH⟩,aS⟩
      .obtain⟨h0,h9⟩:=uX hr hx hz hs e0;rcases h0 with⟨i,h1,h2⟩|h1
       .exact⟨.inl ⟨i,a3A _ h1,h2⟩,h9⟩
       .exact⟨.inr h1,h9⟩
    .simp at hd;subst hd;exact bg g1 rH
  .simp at hk
theorem a7i(hr:HR X P A m H h){e sz x tx}(hv:VR X P (AA A m) m h x tx){rows is}(hs:Bv X H e sz x=some (rows,is)):isStr tx=false:=by
 cases hv with
 |own e' _=>
  unfold Bv at hs;simp only at hs;split at hs
  .rename_i hb;obtain⟨mb,g1,g2⟩:=hr.at_ _ _ hb;rw[e']at g1;cases g1;cases g2<;>rfl
  cases hs
 |gone hi e' _=>
  cases x<;>simp only[bF,a08]at hi<;>first|cases hi|skip
  all_goals (unfold Bv at hs;simp only at hs)
  all_goals first|(cases hs;done)|skip
  all_goals
   split at hs
   .rename_i hb;obtain⟨mb,g1,g2⟩:=hr.at_ _ _ hb;rw[g1]at e';cases e'<;>exact g2.elim
   .cases hs
 |str=>simp[Bv]at hs
 |_=>rfl
theorem eG.vrs{t sz}:∀{l} {cs:List TV},eG X P F m h t l cs 0 sz->cs.length=l.length*sz->bZ X P F m h (FK X t l) cs
 | [],cs,_,hl=>by have:cs=[]:=a7f.1 (by simpa using hl);subst this;exact .nil
 |a::r,cs,hw,hl=>by
  have h1:=hw.row (j:=0) (a:=a) rfl;have h2:=(hw.part (o:=1) (n:=r.length) (by simp;omega)).take;have e1:((a::r).drop 1).take r.length=r:=by simp
  rw[e1]at h2;have hl':cs.length=r.length*sz+sz:=by rw[hl,a4p,a3H,aaw]
  have e2:(cs.drop (0+1*sz)).take (r.length*sz)=cs.drop sz:=by rw[a3C,aaw,a9L];rw[a3Q];omega
  rw[e2]at h2;have h3:=eG.vrs h2 (by rw[a3Q];omega);have h4:bZ X P F m h (X.enc t a) (cs.take sz):=by have:=h1.1;simpa using this
  have:=h4.app h3;rw[agX]at this;exact this
theorem V6(hX:bT X P){ps ts}(hR:wu X P A m ps ts){at_ d x td tx}(hd:VR X P (AA A m) m ts.heap d td)(hx:VR X P (AA A m) m ts.heap x tx){v H1 pi}(hl:a6O X P at_ ps.heap d x=some (v,H1,pi)):XR X P A m ts (I5 P at_ ts td tx) v H1 ⟨pi,false,false,true⟩:=by
 have hr:=hR.heap;unfold a6O at hl;split at hl
 .rename_i st vH;split at hl
  .rename_i e size zy;obtain⟨hz,h0⟩:=oL zy;split at hl
   .rename_i rows hs;obtain⟨new,s1,s2,s3⟩:=VD (m':=m) hX hr hx hz hs;have OQ:isStr tx=false:=a7i hr hx hs;split at hl
    .simp only[a08,a1d]at hl;obtain⟨rfl,rfl,rfl⟩:=hl;have:td=.nil .aP:=by
      cases hd with
      |nil=>rfl
      |gone hi _ _=>simp[bF]at hi
     subst this;exact⟨_,ts.heap,_,m,by unfold I5;simp only[vH,zy,s1,s2,OQ,adr,a2l],hr,.int _ _,.refl,.refl,IR.reads rfl (fun b hb=>uX hr hx hz hs hb) fun k=>mJ,fun b hb=>by simp[gu]at hb⟩
    .rename_i b;split at hl
     .rename_i k0 ex t' l hb;split at hl
      .rename_i l2 IV;obtain⟨rfl,rfl⟩:=sJ IV;simp only[a08,a1d]at hl;obtain⟨rfl,rfl,rfl⟩:=hl;obtain⟨mb,g1,g2⟩:=hr.at_ b _ hb;refine EU (o:=0) (n:=l2.length) hX hR vH zy hx hs hb g1 g2 ?_ (by omega) OQ;cases hd with
       |gone hi e' _=>simp only[bF,a08]at hi;subst hi;rw[g1]at e';cases e'<;>exact g2.elim
       |own e' o=>
        rw[g1]at e';cases e';cases g2 with
        |nil=>exact .inr ⟨rfl,.inl rfl⟩
        |emp q1 q2 q3 q4 q5=>rw[hz]at q4;cases q4;exact .inr ⟨rfl,.inr ⟨_,_,_,_,rfl⟩⟩
        |some q1 q2=>rw[hz]at q2;cases q2;exact .inl ⟨_,_,_,_,_,rfl,q1,by rw[adg],.inr (a3C _)⟩
      .cases hl
     .cases hl
    .rename_i b o n;split at hl
     .rename_i k0 ex t' l hb;split at hl
      .rename_i l2 IV;obtain⟨rfl,rfl⟩:=sJ IV;simp only[a08,a1d]at hl;obtain⟨rfl,rfl,rfl⟩:=hl;obtain⟨mb,g1,g2⟩:=hr.at_ b _ hb;cases hd with
       |gone hi e' _=>simp only[bF,a08]at hi;subst hi;rw[g1]at e';cases e'<;>exact g2.elim
       |win e' o1 o2 o3=>
        rw[g1]at e';cases e';cases g2 with
        |emp q1 q2 q3 q4 q5=>
         rw[hz]at q4;cases q4;have:n=0:=(by omega);subst this;exact EU hX hR vH zy hx hs hb g1 (LR.emp q1 q2 q3 hz q5) (.inr ⟨rfl,.inr ⟨_,_,_,_,rfl⟩⟩) o1 OQ
        |some q1 q2 q3 q4 q5 q6 q7 q8 q9=>exact EU hX hR vH zy hx hs hb g1 (LR.some q1 q2 q3 q4 q5 q6 q7 q8 q9) (.inl ⟨_,_,_,_,_,rfl,q1,by rw[a3C],o3⟩) o1 OQ
       |D7 e'=>
        rw[g1]at e';cases e';exact EU hX hR vH zy hx hs hb g1 g2 (.inr ⟨rfl,.inl rfl⟩) (by omega) OQ
      .cases hl
     .cases hl
    .rename_i b off len cap sz xx;split at hl
     .rename_i cs hb;split at hl
      .rename_i hc;obtain⟨hc1,LW⟩:=hc;subst hc1;simp only[a0x,a1d]at hl;obtain⟨NY,h1,rfl,rfl,rfl⟩:=hl;obtain⟨mb,g1,g2⟩:=hr.at_ b _ hb;cases mb with
       |gW c=>
        obtain⟨cs',g3,g4⟩:=g2;cases hd with
        |gone hi e _=>simp only[bF,a08]at hi;subst hi;rw[g1]at e;cases e
        |aP e=>
         rw[g1]at e;cases e;have V5:eG X P (AA A m) m ts.heap _ rows new 0 sz:=s3.mono fun q hq=>by
          rcases hq with hq|⟨i,_,hi,_⟩
          .exact hq
          .simp at hi
         have hv:=(V5.vrs s2).take (min rows.length len*sz);obtain⟨KA,g5,g6⟩:=IK g4 hv h1;have hlen:KA.length=cs'.length:=by
          unfold wY at g5;split at g5
          .cases g5;simp only[a1v,a4c,a3Q]at *;omega
          .cases g5
         have aS:=(a0u.1 g3).1;obtain⟨hr1,hF⟩:=hr.set (pb:=.cells NY) (hb:=.cells .own KA) g1 (c:=c) rfl (fun ET XQ=>⟨KA,by simp[aU,aS],by
          simp only[aU,g3,a08]at XQ;subst XQ;omega⟩) fun hF=>⟨KA,by simp[aS],g6.step hF .refl⟩
         refine⟨.int .i64 ((min rows.length len:Nat):Int),_,⟨false,.h c::dH tx,[.h c]⟩,m,?_,hr1,.int _ _,hF,.refl,?_,fun d hd=>?_⟩
         .unfold I5;simp only[vH,zy,s1,s2,OQ,adr,a2l];rw[a0S (by omega),XL g3,g5];rfl
         .refine⟨fun h=>(by cases h),fun k hk=>?_,fun k hk=>(by simp at hk),fun d hd=>?_,fun d hd=>?_,fun h=>(by cases h)⟩
          .rcases a1B.1 hk with e0|e0
           .cases e0
           .exact absurd e0 mJ
          .simp at hd;subst hd;exact .inl ⟨b,a3G,jc g1 rfl⟩
          .rcases a1B.1 hd with e0|e0
           .cases e0;exact⟨.inl ⟨b,a3G,jc g1 rfl⟩,aS⟩
           .obtain⟨h0,h9⟩:=uX hr hx hz hs e0;rcases h0 with⟨i,h1,h2⟩|h1
            .exact⟨.inl ⟨i,a3A _ h1,h2⟩,h9⟩
            .exact⟨.inr h1,h9⟩
         .simp at hd;subst hd;exact bg g1 rfl
       |_=>exact g2.elim
      .cases hl
     .cases hl
    .cases hl
   .cases hl
  .cases hl
 .cases hl
end
open Go Tw
section
variable{X:mX}{P:LI1}{A F:Nat->Prop}{m m':List MB}{h h':List HB}{H H':List (PB X.Γ)}
theorem VPs.oM{ps qs}(hp:VPs X P A m h ps qs):qs.all (fun p=>p.2.cells.all iR)=ps.all fun p=>p.2.cells.all a0g:=by
 induction ps generalizing qs with
 |nil=>
  have:=hp.1;cases qs with
  |nil=>rfl
  |cons=>simp at this
 |cons a ps ih=>
  obtain⟨x,r,rfl,h1,h2⟩:=hp.inv;simp only[ac9,EP (IJ h1),ih h2]
theorem XU{pl}:∀{qs} {xs r:List TV},ug pl xs qs=some r->r.length=xs.length
 | [],xs,r,h=>by simp only[ug,a08]at h;rw[h]
 |(i,v)::qs,xs,r,h=>by
  simp only[ug]at h;split at h
  .split at h
   .split at h
    .rename_i cs' ho;rw[XU h];unfold wY at ho;split at ho
     .cases ho;simp only[a1v,a4c,a3Q];omega
     cases ho
    cases h
   cases h
  cases h
theorem oW{z}:∀n,(times z n).length=n*z.length
 | 0=>by simp[times]
 |n+1=>by simp[times,oW n,a3H];omega
theorem uV(hX:bT X P){ps:bJ X.Γ}{ts:St}(hR:wu X P A m ps ts){t:LI2}{len:Nat}{vs:List (Nat×PV X.Γ)}{xs:List (Nat×TV)}(hv:VPs X P (AA A m) m ts.heap vs xs){v:PV X.Γ}{H1:List (PB X.Γ)}{raw:Bool} (hl:yR X P t len ps.heap vs raw=some (v,H1)):XR X P A m ts ((qR P t len ts xs).map fun(v,s)=>(v,s,dh)) v H1 yE:=by
 have hr:=hR.heap;unfold yR at hl;split at hl
 .rename_i e n zy;obtain⟨hz,h0⟩:=oL zy;split at hl
  .rename_i hc;split at hl
   .rename_i z hzz;obtain⟨z',q1,q2⟩:=IL (A:=AA A m) (m:=m) (h:=ts.heap) hzz;split at hl
    .rename_i Xl;split at hl
     .rename_i cs hf;obtain⟨cs',q3,q4⟩:=NU hv (XM q2 len) hf;have hlen:cs'.length=len*n:=(by rw[XU q3,oW,<-q2.1,Xl]);have hT:∀w h1,(w,h1)=(TV.aP ts.heap.length 0 len len n true,ts.heap++[HB.cells .own cs'])->(qR P t len ts xs).map (fun(v,s)=>(v,s,dh))=some (w,{ ts with heap:=h1 },dh):=by intro w h1 e0;cases e0;simp only[qR,zy,hv.oM,hc,adr,a2l,q1,<-q2.1,Xl,q3,a1l]
      split at hl
      .rename_i rows is hd;cases hl;have hd:yQ X ps.heap e n len cs=some (rows,is):=by
        split at hd
        .cases hd
        .exact hd
       obtain⟨e1,hw⟩:=BG (m':=cu is m) hX hr q4 hd;by_cases hn:rows=[]
       .subst hn;have e2:len=0:=(by simpa using e1.symm);subst e2;have JR:cs'=[]:=a7f.1 (by omega);subst JR;have IW:HR X P A (cu is m++[.dF (.aP ts.heap.length 0 0 0 n true)]) (bD is ps.heap++[.list true true e []]) (ts.heap++[.cells .own []])/\_:=(hr.bD is).push (pb:=.list true true e []) (hb:=.cells .own []) (mb:=.dF (.aP ts.heap.length 0 0 0 n true)) (.inr rfl)
         (LR.emp (b:=ts.heap.length) (cs:=[]) ⟨hr.up _ (a1j _),fun hm=>by rw[jB,a3E,lD]at hm;simp[MB.own]at hm;have:=(hr.bD is).inb hm;omega⟩ (by simp[aU]) (a1j _) hz h0)
        have RV:=iU (h:=ts.heap) is m;refine⟨_,_,_,_,hT _ _ rfl,IW.1,.own ?_ rfl,RV.1.trans IW.2.1,RV.2.trans IW.2.2,.none,fun b hb=>by cases hb⟩;rw[<-hr.len,<-nH is m];simp
       .have IW:=kZ hr is (k:=true) (ex:=true) (x:=true) hw (by rw[hlen,e1]) hn hz h0 (by simp);obtain⟨m1,g1,g2,g3,g4⟩:=IW;refine⟨_,_,_,m1,hT _ _ rfl,g1,?_,g2,g3,.none,fun b hb=>by cases hb⟩;rw[e1]at g4;exact g4
      .cases hl;have hp:=hr.push (pb:=.cells cs) (hb:=.cells .own cs') (mb:=.gW ts.heap.length) (.inl rfl) ⟨cs',by simp,q4.step (by
        refine⟨by simp,fun b hb _=>by rw[a0P hb],fun b hb=>?_,fun b cs hc=>⟨cs,by rw[fM (a0P (fP hc)),hc],a1j _⟩⟩;rw[jB,a3E,lD]at hb;rcases hb with hb|hb
        .exact .inl hb
        .simp[MB.own]at hb;exact .inr (by omega)) (xO _)⟩
       exact⟨_,_,_,_,hT _ _ rfl,hp.1,.aP (by rw[<-hr.len];simp),hp.2.1,hp.2.2,.none,fun b hb=>by cases hb⟩
     .cases hl
    .cases hl
   .cases hl
  .cases hl
 .cases hl
theorem KC{k n x}(hv:VR X P A m h (.int k n) x):x=.int k n:=by
 cases hv with
 |int=>rfl
 |gone hi _ _=>simp[bF]at hi
theorem XV{t sz a z}(ha:bZ X P F m h (X.enc t a) z)(hz:z.length=sz):∀n,eG X P F m h t (List.replicate n a) (times z n) 0 sz
 | 0=>⟨fun j a hj=>by simp at hj,by simp,fun j a i c v hj=>by simp at hj⟩
 |n+1=>by
  have h1:eG X P F m h t [a] z 0 sz:=by
   refine⟨fun j b hj=>?_,by simp[hz],fun j b i c v hj hi hx=>?_⟩
   .cases j with
    |zero=>simp only[a2I,a08]at hj;subst hj;rw[ha.1,hz]
    |succ j=>simp at hj
   cases j with
   |zero=>simp only[a2I,a08]at hj;subst hj;exact ha.2 i c v hi (by simpa using hx)
   |succ j=>simp at hj
  have:=h1.app (XV ha hz n) (by simp[hz]);simpa[af2,times]using this
theorem Bf(hX:bT X P){ps:bJ X.Γ}{ts:St}(hR:wu X P A m ps ts){t:LI2}{l c:PV X.Γ}{tl tc:TV}(hvl:VR X P (AA A m) m ts.heap l tl)(hvc:VR X P (AA A m) m ts.heap c tc){v:PV X.Γ}{H1:List (PB X.Γ)}{qs:List Prop}(hl:GV X P t ps.heap l c=some (v,H1,qs)) (hq:∀q∈qs,q):XR X P A m ts ((um P t ts tl tc).map fun(v,s)=>(v,s,dh)) v H1 yE:=by
 have hr:=hR.heap;unfold GV at hl;split at hl
 .rename_i e n kl li kc ci zy;obtain⟨hz,h0⟩:=oL zy;rw[KC hvl,KC hvc];split at hl
  .rename_i FD;split at hl
   .rename_i z hzz;obtain⟨z',q1,q2⟩:=IL (A:=AA A m) (m:=m) (h:=ts.heap) hzz;split at hl
    .rename_i Xl;split at hl
     .rename_i a ha;cases hl;have e1:li=ci:=hq _ (by simp);have e2:0<=li:=hq _ (by simp);have e3:li<=(ah:Nat):=hq _ (by simp);subst e1;have hm:li.toNat<=ah:=(by omega);have hm2:ah=2^20:=rfl;have hz2:z'.length=n:=by rw[<-q2.1];exact Xl
      have hT:∀w h1,(w,h1)=(TV.aP ts.heap.length 0 li.toNat li.toNat n true,ts.heap++[HB.cells .own (times z' li.toNat)])->(um P t ts (.int kl li) (.int kc li)).map (fun(v,s)=>(v,s,dh))=some (w,{ ts with heap:=h1 },dh):=by
       intro w h1 e0;cases e0;have hN:∀k,a3x (.int k li)=some li.toNat:=fun k=>by
        have h9:li<=2^40:=by have:((2^20:Nat):Int)<=2^40:=(by decide);rw[hm2]at e3;omega
        simp only[a3x];rw[a15 ⟨e2,h9⟩]
       simp only[um,zy,hN,a1j,true_and,kG FD hm,a2l,q1,hz2,a1l]
      have wo:=XV (m:=m) (h:=ts.heap) (F:=AA A m) (hX.dec ha q2) hz2 li.toNat;have hlen:(times z' li.toNat).length=li.toNat*n:=(by rw[oW,hz2]);by_cases hn:li.toNat=0
      .rw[hn]at hT ⊢;simp only[List.replicate_zero];have IW:=hr.push (pb:=.list true true e []) (hb:=.cells .own (times z' 0)) (mb:=.dF (.aP ts.heap.length 0 0 0 n true)) (.inr rfl)
         (LR.emp (b:=ts.heap.length) (cs:=times z' 0) ⟨hr.up _ (a1j _),fun hm=>by rw[jB,a3E,lD]at hm;simp[MB.own]at hm;have:=hr.inb hm;omega⟩ (by simp[aU]) (a5D _) hz h0)
       exact⟨_,_,_,_,hT _ _ rfl,IW.1,.own (by rw[<-hr.len];simp) rfl,IW.2.1,IW.2.2,.none,fun b hb=>by cases hb⟩
      .obtain⟨m1,g1,g2,g3,g4⟩:=kZ hr [] (k:=true) (ex:=true) (x:=true) (rows:=List.replicate li.toNat a) (wo.mono fun b hb=>.inl hb) (by rw[a6c];exact hlen) (by intro e0;exact hn (by simpa using congrArg List.length e0)) hz h0 (by simp);refine⟨_,_,_,m1,hT _ _ rfl,g1,?_,g2,g3,.none,fun b hb=>by cases hb⟩;rw[a6c]at g4;exact g4
     .cases hl
    .cases hl
   .cases hl
  .cases hl
 .cases hl
end
open Go Tw
section
variable{X:mX}{P:LI1}{A F:Nat->Prop}{m m':List MB}{h h':List HB}{H H':List (PB X.Γ)}
theorem BI{o to}(ho:OR X P A m h o to){d n:Nat}{a}(he:zV X d o=some a)(h0:0<=a)(h1:a<=n):jS n d to=some a.toNat:=by
 cases o with
 |none=>
  cases to with
  |none=>simp only[zV,a08]at he;subst he;simp[jS]
  |some=>exact ho.elim
 |some v=>
  cases to with
  |none=>exact ho.elim
  |some x=>
   cases v<;>simp only[zV]at he<;>try (cases he;done)
   cases he;rw[KC ho];simp only[jS,rQ];rw[a15 ⟨h0,h1⟩]
theorem PW{k n to}(ho:OR X P A m h (some (.int k n)) to):to=some (.int k n):=by
 cases to with
 |none=>exact ho.elim
 |some x=>rw[KC ho]
theorem sK{to}(ho:OR X P A m h none to):to=none:=by
 cases to with
 |none=>rfl
 |some x=>exact ho.elim
theorem NZ{v to}(ho:OR X P A m h (some v) to):∃x,to=some x:=by
 cases to with
 |none=>exact ho.elim
 |some x=>exact⟨x,rfl⟩
theorem afR{t e b off len cap sz ex}(hu:P.underlying t=some (.slice e))(hz:dG P e=some sz){lo hi RX RY}(h1:OR X P A m h lo RX)(h2:OR X P A m h hi RY){a z}(e1:zV X 0 lo=some a)(e2:zV X len hi=some z)(q0:0<=a) (q1:a<=z) (q2:z<=len):rU P t (.aP b off len cap sz ex) RX RY none=some (.aP b (off+a.toNat*sz) (z.toNat-a.toNat) (cap-a.toNat) sz ex):=by
 have g1:=BI h1 e1 (n:=z.toNat) q0 (by omega);have g2:=BI h2 e2 (n:=len) (by omega) q2;simp only[rU,hu,hz,a2l,g2,g1]
theorem aaR{t e b off len cap sz ex}(hu:P.underlying t=some (.slice e))(hz:dG P e=some sz){lo hi RX RY}(h1:OR X P A m h lo RX)(h2:OR X P A m h hi RY){a z}(e1:zV X 0 lo=some a)(e2:zV X len hi=some z)(hs:hi.isSome)(q0:0<=a) (q1:a<=z) (q2:z<=len) (tZ:len<=cap) {k}:rU P t (.aP b off len cap sz ex) RX RY (some (.int k z))=some (.aP b (off+a.toNat*sz) (z.toNat-a.toNat) (z.toNat-a.toNat) sz true):=by
 have g1:=BI h1 e1 (n:=z.toNat) q0 (by omega);obtain⟨hv,rfl⟩:=a5X.1 hs;obtain⟨x,rfl⟩:=NZ h2;have g3:rQ cap (.int k z)=some z.toNat:=by simp only[rQ];rw[a15 (by omega)]
 have g2:rQ (min z.toNat len) x=some z.toNat:=by
  cases hv<;>simp only[zV]at e2<;>try (cases e2;done)
  cases e2;rw[KC (show VR X P A m h _ x from h2)];simp only[rQ];rw[a15 (by omega)]
 simp only[rU,hu,hz,a2l,g3,g2,g1]
theorem a0v{t e sz}(hu:P.underlying t=some (.slice e))(hz:dG P e=some sz){lo hi RX RY}(h1:OR X P A m h lo RX)(h2:OR X P A m h hi RY){a z}(e1:zV X 0 lo=some a)(e2:zV X 0 hi=some z)(q0:a=0)(q1:z=0) :rU P t (.nil .aP) RX RY none=some (.nil .aP)/\∀{k},hi.isSome->rU P t (.nil .aP) RX RY (some (.int k 0))=some (.nil .aP):=by
 subst q0;subst q1;have g1:=BI h1 e1 (n:=0) (by omega) (by omega);have g2:=BI h2 e2 (n:=0) (by omega) (by omega);have g0:jS 0 0 none=some 0:=rfl;refine⟨by simp only[rU,hu,hz,g0,g1,g2];rfl,fun{k} hs=>?_⟩;obtain⟨hv,rfl⟩:=a5X.1 hs;obtain⟨x,rfl⟩:=NZ h2;have g3:jS 0 0 (some (.int k 0))=some 0:=rfl;simp only[rU,hu,hz,g1,g2,g3] ;rfl
theorem OH{ps ts}(hR:wu X P A m ps ts){t x tx}(hx:VR X P (AA A m) m ts.heap x tx){lo hi mx RX RY tmx}(h1:OR X P (AA A m) m ts.heap lo RX)(h2:OR X P (AA A m) m ts.heap hi RY)(h3:OR X P (AA A m) m ts.heap mx tmx){v qs}(hl:a0k X P t ps.heap x lo hi mx=some (v,qs)) (hq:∀q∈qs,q):∃w,rU P t tx RX RY tmx=some w/\VR X P (AA A m) m ts.heap v w:=by
 have hr:=hR.heap;unfold a0k at hl;split at hl
 .rename_i e t' l fu hu;split at hl
  .rename_i n a z hz e1 e2;split at hl
   .rename_i ht;subst ht;cases hl;have q0:0<=a:=hq _ (by simp);have q1:a<=z:=hq _ (by simp);have q2:z<=(l.length:Nat):=hq _ (by simp);rw[sK h3,aiu];cases hx with
    |qx=>
     have ea:a=0:=by simp at q2;omega
     have ez:z=0:=by simp at q2;omega
     exact⟨_,(a0v hu hz h1 h2 e1 e2 ea ez).1,by simp only[List.drop_nil,List.take_nil];exact .qx⟩
    |dF p1 p2 p2' p3 p4 p5 p6 p7 p8 p9=>
     rw[hz]at p3;cases p3;exact⟨_,afR hu hz h1 h2 e1 e2 q0 q1 q2,(VR.dF p1 p2 p2' hz p4 p5 p6 p7 p8 p9).part (by omega) (by omega) (.inr (by omega)) (by simp)⟩
    |gone hi _ _=>simp[bF]at hi
   .cases hl
  .rename_i n a z k mv hz e1 e2;split at hl
   .rename_i ht;obtain⟨ht,CJ⟩:=ht;subst ht;split at hl
    .rename_i hfu;subst hfu;cases hl;have q0:a=0:=hq _ (by simp);have q2:z=(l.length:Nat):=hq _ (by simp);have q3:mv=z:=hq _ (by simp);subst q3;subst q0;rw[PW h3];cases hx with
     |qx=>
      have ez:mv=0:=(by simpa using q2);have:=(a0v hu hz h1 h2 e1 e2 rfl ez).2 (k:=k) CJ;exact⟨_,by rw[<-ez]at this;exact this,.qx⟩
     |dF p1 p2 p2' p3 p4 p5 p6 p7 p8 p9=>
      rw[hz]at p3;cases p3;obtain⟨p7a,p7b⟩:=p7 rfl;subst p7a;subst p7b;refine⟨_,aaR hu hz h1 h2 e1 e2 CJ (aa0 0) (by omega) (by omega) p6,?_⟩;subst q2;have:=VR.dF (fu:=true) p1 p2 p2' hz p4 p5 (a1j _) (fun _=>⟨rfl,rfl⟩) p8 p9;simpa using this
     |gone hi _ _=>simp[bF]at hi
    cases hl;have q0:0<=a:=hq _ (by simp);have q1:a<=z:=hq _ (by simp);have q2:z<=(l.length:Nat):=hq _ (by simp);have q3:mv=z:=hq _ (by simp);have q4:a=z:=hq _ (by simp);subst q3;rw[PW h3,aiu];cases hx with
    |qx=>
     have ea:a=0:=by simp at q2;omega
     have ez:mv=0:=by simp at q2;omega
     have:=(a0v hu hz h1 h2 e1 e2 ea ez).2 (k:=k) CJ;rw[<-ez]at this;exact⟨_,this,by simp only[List.drop_nil,List.take_nil];exact .qx⟩
    |dF p1 p2 p2' p3 p4 p5 p6 p7 p8 p9=>
     rw[hz]at p3;cases p3;exact⟨_,aaR hu hz h1 h2 e1 e2 CJ q0 q1 q2 p6,(VR.dF p1 p2 p2' hz p4 p5 p6 p7 p8 p9).part (by omega) (by omega) (.inl (by omega)) (by simp)⟩
    |gone hi _ _=>simp[bF]at hi
   .cases hl
  .cases hl
 .rename_i e i hu;split at hl
  .rename_i kk ex t' l hb;obtain⟨mb,g1,g2⟩:=hr.at_ i _ hb;cases mb with
   |dF y=>
    cases hx with
    |gone hi e' _=>simp only[bF,a08]at hi;subst hi;rw[g1]at e';cases e'
    |own e' o=>
     rw[g1]at e';cases e';have hlr:LR X P (AA A m) m ts.heap kk ex t' l tx:=g2;split at hl
     .rename_i n a z hz e1 e2;split at hl
      .rename_i ht;subst ht;cases hl;have q0:0<=a:=hq _ (by simp);have q1:a<=z:=hq _ (by simp);have q2:z<=(l.length:Nat):=hq _ (by simp);rw[sK h3];cases hlr with
       |nil=>
        have ea:a=0:=by simp at q2;omega
        have ez:z=0:=by simp at q2;omega
        refine⟨_,(a0v hu hz h1 h2 e1 e2 ea ez).1,?_⟩;subst ea;subst ez;exact .D7 g1
       |emp p0 p1 p2 p3 p4=>
        rw[hz]at p3;cases p3;exact⟨_,afR (len:=0) hu hz h1 h2 e1 e2 q0 q1 q2,.win g1 (by simp at q2;omega) (by simp at q2;omega) (.inl (by simp at q2;omega))⟩
       |some p1 p2 p3 p4 p5 p6 p7 p8 p9=>
        rw[hz]at p2;cases p2;exact⟨_,afR hu hz h1 h2 e1 e2 q0 q1 q2,.win g1 (by omega) (by omega) (.inr (by omega))⟩
      .cases hl
     .rename_i n a z k mv hz e1 e2;split at hl
      .rename_i ht;obtain⟨ht,CJ⟩:=ht;subst ht;cases hl;have q0:a=0:=hq _ (by simp);have q2:z=(l.length:Nat):=hq _ (by simp);have q3:mv=z:=hq _ (by simp);subst q3;subst q0;rw[PW h3];cases hlr with
       |nil=>
        have ez:mv=0:=(by simpa using q2);have:=(a0v hu hz h1 h2 e1 e2 rfl ez).2 (k:=k) CJ;exact⟨_,by rw[<-ez]at this;exact this,.Kv g1⟩
       |emp p0 p1 p2 p3 p4=>
        rw[hz]at p3;cases p3;have ez:mv=0:=(by simpa using q2);subst ez;refine⟨_,aaR (len:=0) hu hz h1 h2 e1 e2 CJ (aa0 0) (by omega) (by omega) (a1j _),?_⟩;simpa using VR.Hz (X:=X) (P:=P) (A:=AA A m) (h:=ts.heap) g1
       |some p1 p2 p3 p4 p5 p6 p7 p8 p9=>
        rw[hz]at p2;cases p2;refine⟨_,aaR hu hz h1 h2 e1 e2 CJ (aa0 0) (by omega) (by omega) (a1j _),?_⟩;subst q2;have:=VR.Hz (X:=X) (P:=P) (A:=AA A m) (h:=ts.heap) g1;simpa using this
      .cases hl
     .cases hl
   |_=>exact g2.elim
  .cases hl
 .rename_i e hu;have:tx=.nil .aP:=by
   cases hx with
   |nil=>rfl
   |gone hi _ _=>simp[bF]at hi
  subst this;split at hl
  .rename_i n a z hz e1 e2;cases hl;have q0:a=0:=hq _ (by simp);have q1:z=0:=hq _ (by simp);rw[sK h3];exact⟨_,(a0v hu hz h1 h2 e1 e2 q0 q1).1,.nil _⟩
  .rename_i n a z k mv hz e1 e2;split at hl
   .rename_i CJ;cases hl;have q0:a=0:=hq _ (by simp);have q1:z=0:=hq _ (by simp);have q2:mv=0:=hq _ (by simp);subst q2;rw[PW h3];exact⟨_,(a0v hu hz h1 h2 e1 e2 q0 q1).2 CJ,.nil _⟩
   .cases hl
  .cases hl
 .cases hl
theorem Dz(hX:bT X P){ps ts}(hR:wu X P A m ps ts){t x ex}(hx:JG X P (AA A m) m ts.heap x ex){lo hi mx RX RY tmx}(h1:OR X P (AA A m) m ts.heap lo RX)(h2:OR X P (AA A m) m ts.heap hi RY)(h3:OR X P (AA A m) m ts.heap mx tmx){v H1 qs}(hl:Kr X P t ps.heap x lo hi mx=some (v,H1,qs)) (hq:∀q∈qs,q):XR X P A m ts ((qQ P t ex RX RY tmx).map fun v=>(v,ts,dh)) v H1 yE:=by
 have hr:=hR.heap;unfold Kr at hl;split at hl
 .rename_i n e b off lim hu;split at hl
  .rename_i size hz;split at hl
   .cases hl
   .rename_i N9;split at hl
    .cases hl
    .rw[sK h3];obtain⟨y,rfl,hy⟩:=gV hx;split at hl
     .split at hl
      .rename_i cs hb;cases hl;rw[sK h1,sK h2];obtain⟨mb,g1,g2⟩:=hr.at_ b _ hb;cases mb with
       |gW c=>
        cases hy with
        |gone hi e' _=>simp only[bF,a08]at hi;subst hi;rw[g1]at e';cases e'
        |ptr e'=>
         rw[g1]at e';cases e';exact⟨.aP c off n n size true,ts.heap,dh,m,by simp[qQ,hu,hz,N9,jS],hr,.aP g1,.refl,.refl,.none,fun d hd=>by cases hd⟩
       |_=>exact g2.elim
      .cases hl
     .rename_i ZO wC _;split at hl
      .rename_i cs a z hb e1 e2;split at hl
       .cases hl
       rename_i afL;split at hl
       .rename_i rows is hd;cases hl;have q0:0<=a:=hq _ (by simp);have q1:a<=z:=hq _ (by simp);have q2:z<=(n:Nat):=hq _ (by simp);obtain⟨mb,g1,g2⟩:=hr.at_ b _ hb;cases mb with
        |gW c=>
         obtain⟨cs',g3,g4⟩:=g2;cases hy with
         |gone hi e' _=>simp only[bF,a08]at hi;subst hi;rw[g1]at e';cases e'
         |ptr e'=>
          rw[g1]at e';cases e';have f1:=BI h1 e1 (n:=z.toNat) q0 (by omega);have f2:=BI h2 e2 (n:=n) (by omega) q2;obtain⟨w1,w2⟩:=BG (m':=cu (b::is) m) hX hr (g4.drop off) hd;have w3:=w2.2.1;rw[a3Q]at w3;have hgo:=hr.bD (b::is);have RV:=iU (h:=ts.heap) (b::is) m;have hnc:AA A (cu (b::is) m) c:=by refine FA.gone hr (.inr ⟨b,_,a3G,g1,rfl⟩)
          refine⟨.aP c (off+a.toNat*size) (z.toNat-a.toNat) (n-a.toNat) size true,ts.heap,dh,cu (b::is) m,?_,hgo,?_,RV.1,RV.2,.none,fun d hd=>by cases hd⟩
          .have f0:jS n n none=some n:=rfl;simp only[qQ,hu,hz,N9,a3S,f0,f2,f1,Option.isSome_none,Bool.false_and,a2H,a1l]
          .rw[aiu];have ak7:VR X P (AA A (cu (b::is) m)) (cu (b::is) m) ts.heap (.dF e rows false) (.aP c off rows.length n size true):=by
            refine .dF hnc (by unfold aU;rw[g3]) (fun _=>xM g3 (by simp)) hz (by omega) ?_ (by omega) (by simp) w2.1 (fun j y i d v hj hi hx=>?_)
            .rw[w1,<-g4.1];omega
            .refine(w2.2.2 j y i d v hj hi ?_).mono fun q hq=>FA.gone hr (FA.mono (fun i hi=>a3A _ hi) hq);rw[a5u,<-hx];congr 1;omega
           exact ak7.part (by omega) (by omega) (.inr (by omega)) (by simp)
        |_=>exact g2.elim
       .cases hl
      .cases hl
  .cases hl
 .cases hl
theorem VE{ps ts}(hR:wu X P A m ps ts){t x ex}(hx:JG X P (AA A m) m ts.heap x ex){lo hi RX RY tmx}(h1:OR X P (AA A m) m ts.heap lo RX)(h2:OR X P (AA A m) m ts.heap hi RY)(h3:OR X P (AA A m) m ts.heap none tmx){v}(hl:GX X P t ps.heap x lo hi=some v):XR X P A m ts ((qQ P t ex RX RY tmx).map fun v=>(v,ts,dh)) v ps.heap yE:=by
 have hr:=hR.heap;unfold GX at hl;split at hl
 .rename_i n e b off lim hu;split at hl
  .rename_i size cs a z hz hb e1 e2;split at hl
   .cases hl
   .rename_i N9;split at hl
    .rename_i hq;cases hl;rw[sK h3];obtain⟨y,rfl,hy⟩:=gV hx;obtain⟨mb,g1,g2⟩:=hr.at_ b _ hb;cases mb with
     |gW c=>
      cases hy with
      |gone hi e' _=>simp only[bF,a08]at hi;subst hi;rw[g1]at e';cases e'
      |ptr e'=>
       rw[g1]at e';cases e';have f1:=BI h1 e1 (n:=z.toNat) hq.1 (by omega);have f2:=BI h2 e2 (n:=n) (by omega) hq.2.2;refine⟨.aP c (off+a.toNat*size) (z.toNat-a.toNat) (n-a.toNat) size true,ts.heap,dh,m,?_,hr,.aP g1,.refl,.refl,.none,fun d hd=>by cases hd⟩;have f0:jS n n none=some n:=rfl;simp only[qQ,hu,hz,N9,a3S,f0,f2,f1,Option.isSome_none,Bool.false_and,a2H,a1l]
     |_=>exact g2.elim
    .cases hl
  .cases hl
 .cases hl
end
open Go Tw
section
variable{X:mX}{P:LI1}{A B F:Nat->Prop}{m m':List MB}{h h':List HB}{H H':List (PB X.Γ)}
theorem wU:∀{vs} {i:Nat} {v:PV X.Γ},yD.Iz vs=false->vs[i]? = some v->yD v=false
 | [],_,_,_,h=>by simp at h
 |a::vs,i,v,hc,h=>by
  simp only[yD.Iz,aai]at hc;cases i with
  |zero=>simp only[a2I,a08]at h;subst h;exact hc.1
  |succ i=>exact wU hc.2 (by simpa using h)
theorem uG{k}:∀{vs} {i:Nat} {v:PV X.Γ},(shift.shifts k vs)[i]? = some v->∃u,vs[i]? = some u/\v=shift k u
 | [],_,_,h=>by simp[shift.shifts]at h
 |a::vs,i,v,h=>by
  cases i with
  |zero=>simp only[shift.shifts,a2I,a08]at h;exact⟨a,rfl,h.symm⟩
  |succ i=>obtain⟨u,h1,h2⟩:=uG (vs:=vs) (i:=i) (by simpa[shift.shifts]using h);exact⟨u,by simpa using h1,h2⟩
theorem uH{k}:∀{vs:List (PV X.Γ)},(shift.shifts k vs).length=vs.length
 | []=>rfl
 |a::vs=>by simp[shift.shifts,uH (vs:=vs)]
theorem a0w{k i}{v:PV X.Γ}(h:bF v=some i):bF (shift k v)=some (i+k):=by cases v<;>simp[bF]at h<;>subst h<;>rfl
theorem VR.shift(hX:bT X P){m0 v x}(hv:VR X P A m h v x)(hq:(∀b,A b->B b)\/yD v=false):VR X P B (m0++m) h (Pv.shift m0.length v) x:=by
 have at':∀{i:Nat} {mb:MB},m[i]? = some mb->(m0++m)[i+m0.length]? = some mb:=by intro i mb hi;rw[a1p (by omega)];simpa using hi
 induction hv with
 |bool=>exact .bool _
 |lit=>exact .lit _
 |int=>exact .int _ _
 |str=>exact .str _
 |nil=>exact .nil _
 |ptr e=>exact .ptr (at' e)
 |aP e=>exact .aP (at' e)
 |own e o=>exact .own (at' e) o
 |win e q q' q2=>exact .win (at' e) q q' q2
 |D7 e=>exact .D7 (at' e)
 |Hz e=>exact .Hz (at' e)
 |Kv e=>exact .Kv (at' e)
 |map e=>exact .map (at' e)
 |iter e=>exact .iter (at' e)
 |fn h1 _ h3 _ i2 i4=>
  refine .fn (by rw[uH,h1]) (fun i x y hx hy=>?_) (by rw[uH,h3]) (fun i x y hx hy=>?_)
  .obtain⟨u,g1,rfl⟩:=uG hx;exact i2 i u y g1 hy (hq.imp_right fun hq=>by simp only[yD,aai]at hq;exact wU hq.1 g1)
  obtain⟨u,g1,rfl⟩:=uG hx;exact i4 i u y g1 hy (hq.imp_right fun hq=>by simp only[yD,aai]at hq;exact wU hq.2 g1)
 |lJ e=>exact .lJ (at' e)
 |agg h1 _ i2=>
  refine .agg (by rw[uH,h1]) (fun i x y hx hy=>?_);obtain⟨u,g1,rfl⟩:=uG hx;exact i2 i u y g1 hy (hq.imp_right fun hq=>by simp only[yD]at hq;exact wU hq g1)
 |dB h1 _ i2=>
  refine .dB (by rw[uH,h1]) (fun i x y hx hy=>?_);obtain⟨u,g1,rfl⟩:=uG hx;exact i2 i u y g1 hy (hq.imp_right fun hq=>by simp only[yD]at hq;exact wU hq g1)
 |qx=>exact .qx
 |dF a c c2 s z o k f e r _=>
  rcases hq with hq|hq
  .exact .dF (hq _ a) c c2 s z o k f e fun j y i d v h1 h2 h3=>((r j y i d v h1 h2 h3).mono hq).jH hX (gq (hX.jH _ _) h2)
  simp[yD]at hq
 |el a c l o e q r _=>
  rcases hq with hq|hq
  .exact .el (hq _ a) c l o e q fun i d v h1 h2=>((r i d v h1 h2).mono hq).jH hX (gq (hX.jH _ _) h1)
  simp[yD]at hq
 |row e j q=>exact .row (at' e) j q
 | @gone v i x hi e o=>
  have e':(m0++m)[i+m0.length]? = m[i]?:=by rw[a1p (by omega)];congr 1;omega
  exact .gone (a0w hi) (by rw[e'];exact e.as fun c=>by cases v<;>rfl) o
theorem bZ.shift(hX:bT X P){m0 v x}(hv:bZ X P A m h v x)(hq:(∀b,A b->B b)\/yD.Iz v=false):bZ X P B (m0++m) h (Pv.shift.shifts m0.length v) x:=by refine⟨by rw[uH,hv.1],fun i a b ha hb=>?_⟩;obtain⟨u,g1,rfl⟩:=uG ha;exact(hv.2 i u b g1 hb).shift hX (hq.imp_right fun hq=>wU hq g1)
theorem BR.shift(hX:bT X P){m0 b b' mb}(hb:BR X P A m h b mb)(hs:GR X m0.length b=some b')(hq:(∀c,A c->B c)\/hasB X b=false):BR X P B (m0++m) h b' mb:=by
 cases b with
 |cells cs=>
  cases mb with
  |gW c=>
   simp only[GR,a08]at hs;subst hs;obtain⟨cs',h1,h2⟩:=hb;exact⟨cs',h1,h2.shift hX hq⟩
  |_=>exact hb.elim
 |list k ex t l=>
  cases mb with
  |dF y=>
   simp only[GR,a08]at hs;subst hs;rcases hq with hq|hq
   .cases(hb:LR X P A m h k ex t l y)with
    |nil=>exact LR.nil
    |emp p0 p1 p2 p3 p4=>exact LR.emp (hq _ p0) p1 p2 p3 p4
    |some p1 p2 p3 p4 p5 p6 p7 p8 p9=>exact LR.some p1 p2 p3 p4 p5 p6 p7 p8 ((p9.mono hq).jH hX)
   simp[hasB]at hq
  |_=>exact hb.elim
 |gone=>
  cases mb with
  |gone=>simp only[GR,a08]at hs;subst hs;trivial
  |_=>exact hb.elim
 |_=>simp[GR]at hs
theorem Me{k}:∀{bs bs'} {i:Nat} {b':PB X.Γ},sD X k bs=some bs'->bs'[i]? = some b'->∃b,bs[i]? = some b/\GR X k b=some b'
 | [],bs',i,b',h,hi=>by simp only[sD,a08]at h;subst h;simp at hi
 |b::bs,bs',i,b',h,hi=>by
  simp only[sD]at h;split at h
  .rename_i c cs h1 h2;cases h;cases i with
   |zero=>simp only[a2I,a08]at hi;subst hi;exact⟨b,rfl,h1⟩
   |succ i=>obtain⟨d,g1,g2⟩:=Me h2 (i:=i) (by simpa using hi);exact⟨d,by simpa using g1,g2⟩
  cases h
theorem MC{k}:∀{bs bs'},sD X k bs=some bs'->bs'.length=bs.length
 | [],bs',h=>by simp only[sD,a08]at h;subst h;rfl
 |b::bs,bs',h=>by
  simp only[sD]at h;split at h
  .rename_i c cs h1 h2;cases h;simp[MC h2]
  cases h
def nU(X:mX)(P:LI1)(call:dM)(f:FuncId)(vs:List (PV X.Γ))(v:PV X.Γ)(ext:List (PB X.Γ)):Prop:=
 ∀(A:Nat->Prop) (h:List HB) (first args cap:List TV),(∀b,h.length<=b->A b)->bZ X P A [] h vs (first++args++cap) ->
  ∃w h' m',call (.fn f first cap) args h=some (w,h',[])/\HR X P A m' ext h'/\VR X P (AA A m') m' h' v w/\Fr [] h m' h'
theorem IX(hX:bT X P){call f first xs cap vs v ext ext'}(hc:nU X P call f vs v ext)(hr:HR X P A m H h)(hv:views H (first++xs++cap)=some vs)(hs:sD X H.length ext=some ext'){t1 t2 t3} (h1:bZ X P (AA A m) m h first t1) (h2:bZ X P (AA A m) m h xs t2) (h3:bZ X P (AA A m) m h cap t3) :∃w h' m1,call (.fn f t1 t3) t2 h=some (w,h',[])/\HR X P A m1 ((if yD v||ext.any (hasB X)then bD (lC.kU (first++xs++cap)) H else H)++ext') h'/\VR X P (AA A m1) m1 h' (shift H.length v) w/\Fr m h m1 h'/\Up m m1:=by
 have RF:=mG (m':=[]) hX hr ((h1.app h2).app h3) hv (is:=lC.kU (first++xs++cap)) fun i hi=>hi;generalize lC.kU (first++xs++cap)=is at RF ⊢;obtain⟨w,h',m',c1,c2,c3,c4⟩:=hc (fun b=>FA A m is b\/h.length<=b) h t1 t2 t3 (fun b hb=>.inr hb) (RF.mono fun b hb=>.inl hb);have hold:∀b,b<h.length->h'[b]? = h[b]?:=fun b hb=>c4.same b hb (by simp[bn]);have gJ:∀b,b∈bn m'->h.length<=b:=fun b hb=>by
  rcases c4.new b hb with h0|h0
  .simp[bn]at h0
  .exact h0
 have key:∀(m0:List MB) (H0:List (PB X.Γ)),HR X P A m0 H0 h->Fr m h m0 h->Up m m0->m0.length=H.length->((∀b,FA A m is b->AA A m0 b)\/(yD v||ext.any (hasB X))=false) ->
   ∃m1,HR X P A m1 (H0++ext') h'/\VR X P (AA A m1) m1 h' (shift H.length v) w/\Fr m h m1 h'/\Up m m1:=by
  intro m0 H0 hr0 hF0 hU0 qW hq;have hF:Fr m0 h (m0++m') h':=by refine⟨c4.len,fun b hb _=>hold b hb,fun b hb=>?_,fun b cs hc=>⟨cs,by rw[fM (hold b (fP hc)),hc],a1j _⟩⟩;rw[jB,a3E]at hb;exact hb.imp_right fun hb=>gJ b hb
  have hA:(∀b,AA (fun b=>FA A m is b\/h.length<=b) m' b->AA A (m0++m') b)\/(yD v||ext.any (hasB X))=false:=by
   refine hq.imp_left fun hq b hb=>?_;refine⟨?_,fun hm=>?_⟩
   .rcases hb.1 with h0|h0
    .exact(hq b h0).1
    .exact hr.up b h0
   .rw[jB,a3E]at hm;rcases hm with hm|hm
    .rcases hb.1 with h0|h0
     .exact(hq b h0).2 hm
     .have:=hr0.inb hm;omega
    .exact hb.2 hm
  refine⟨m0++m',?_,?_,hF0.trans hF,hU0.trans (xO _)⟩
  .refine hr0.next hF (xO _) (by rw[a1v,a1v,hr0.len,MC hs,c2.len]) ?_ fun i b hi=>?_
   .rw[jB];refine a9S.2 ⟨hr0.nodup,c2.nodup,fun a ha b hb e=>?_⟩;subst e;have:=hr0.inb ha;have:=gJ a hb;omega
   .rcases a4O i H0.length with aS|CY
    .left;rw[a0P aS]at hi;obtain⟨mb,g1,g2⟩:=hr0.at_ i b hi;exact⟨mb,hi,g1,by rw[a0P (by rw[hr0.len];exact aS)];exact g1,fun c hc=>hold c (g2.has hc)⟩
    .right;rw[a1p CY]at hi;obtain⟨b0,g1,g2⟩:=Me hs hi;obtain⟨mb,g3,g4⟩:=c2.at_ _ _ g1;refine⟨mb,by rw[a1p (by rw[hr0.len];exact CY),hr0.len];exact g3,?_⟩;rw[<-qW]at g2;refine g4.shift hX g2 (hA.imp_right fun hq=>?_);simp only[aai,List.any_eq_false]at hq;simpa using hq.2 b0 (a5E g1)
  .rw[<-qW];exact c3.shift hX (hA.imp_right fun hq=>by simp only[aai]at hq;exact hq.1)
 refine⟨w,h',?_⟩;by_cases hL:(yD v||ext.any (hasB X))=true
 .rw[a15 hL];obtain⟨m1,e1,e2,e3,e4⟩:=key (cu is m) (bD is H) (hr.bD is) (iU (h:=h) is m).1 (iU (h:=h) is m).2 (by rw[nH,hr.len]) (.inl fun b hb=>hb.gone hr);exact⟨m1,c1,e1,e2,e3,e4⟩
 .rw[a0S hL];obtain⟨m1,e1,e2,e3,e4⟩:=key m H hr .refl .refl hr.len (.inr (by simpa using hL));exact⟨m1,c1,e1,e2,e3,e4⟩
end
open Go Tw
section
variable{X:mX}{P:LI1}{A B F:Nat->Prop}{m m':List MB}{h h':List HB}{H H':List (PB X.Γ)}
def cZ(X:mX)(P:LI1)(call:dM):a4h X.Γ:=fun fv xs H v H1=>
 ∀(A:Nat->Prop) (m:List MB) (h:List HB) (tf:TV) (rJ:List TV),HR X P A m H h->VR X P (AA A m) m h fv tf->bZ X P (AA A m) m h xs rJ ->
  ∃w h1 ws m1,call tf rJ h=some (w,h1,ws)/\HR X P A m1 H1 h1/\VR X P (AA A m1) m1 h1 v w/\Fr m h m1 h1/\Up m m1/\∀b∈ws,b∈bn m
def jX(X:mX)(P:LI1)(call:dM)(gG:gU X.Γ):Prop:=∀f vs v ext ps,gG f vs=some (v,ext,ps)->(∀p∈ps,p)->nU X P call f vs v ext
theorem vO{ρ}{y:ρ}:∀{ps} {x},(owe ps x).Ends y->(∀p∈ps,p)/\x.Ends y
 | [],x,h=>⟨by simp,h⟩
 |p::ps,x,h=>by have:=vO h.2;exact⟨fun q hq=>by rcases a1B.1 hq with rfl|hq;exact h.1;exact this.1 q hq,this.2⟩
theorem a0y{ρ}{y:ρ}{u an k}(hk:(byB X u an k).Ends y){tu}(hu:VR X P A m h u tu):∃t IY,tu=.bool t/\(k t IY).Ends y:=by
 cases u with
 |lit b=>
  have:tu=.bool b:=by
   cases hu with
   |lit=>rfl
   |gone hi _ _=>simp[bF]at hi
  exact⟨b,an,this,hk⟩
 |bool b=>
  have hb:tu=.bool b:=by
   cases hu with
   |bool=>rfl
   |gone hi _ _=>simp[bF]at hi
  subst hb;cases an with
  |s x z=>
   rcases hk with⟨h1,h2⟩|⟨h1,h2⟩
   .subst h1;exact⟨true,x,rfl,h2⟩
   subst h1;exact⟨false,z,rfl,h2⟩
  |a x r=>
   cases x with
   |br t=>obtain⟨h1,h2⟩:=hk;subst h1;exact⟨_,r,rfl,h2⟩
   |_=>exact hk.elim
  |_=>exact hk.elim
 |_=>exact hk.elim
theorem sN:∀{es} {gY:List (TV×TV)} {ks:List TV},es.length=gY.length->(∀(i:Nat) x y,es[i]? = some x->gY[i]? = some y->VR X P A m h x.1 y.1/\VR X P A m h x.2 y.2)->wH X es=some ks->gY.map (·.1)=ks
 | [],gY,ks,hl,_,hk=>by
  simp only[wH,a08]at hk;subst hk;cases gY with
  |nil=>rfl
  |cons=>simp at hl
 |(k,v)::es,gY,ks,hl,he,hk=>by
  cases gY with
  |nil=>simp at hl
  |cons y gY=>
   simp only[wH]at hk;split at hk
   .rename_i a b h1 h2;cases hk;have:=kF (he 0 _ _ rfl rfl).1 h1;simp only[a4N,this];rw[sN (by simpa using hl) (fun i x z hx hz=>he (i+1) x z (by simpa using hx) (by simpa using hz)) h2]
   cases hk
theorem XW:∀{ks} {vs},CX ks=some vs->vs.length=ks.length
 | [],vs,h=>by simp only[CX,a08]at h;subst h;rfl
 |k::ks,vs,h=>by
  simp only[CX]at h;split at h
  .rename_i v ws _ h2;cases h;simp[XW h2]
  cases h
theorem qE{kt k gY}:FU P kt k gY=wI P kt k (gY.map (·.1)):=by
 unfold FU wI;cases hv:CX (gY.map (·.1))with
 |none=>rfl
 |some vs=>
  have hl:=XW hv;have:gY.isEmpty=vs.isEmpty:=by cases gY<;>cases vs<;>simp at hl<;>rfl
  simp only[this]<;>rfl
def TR:TV->List Key
 |.map r=>[.h r]
 |_=>[]
def a4m(h:List HB):TV->Option (List (TV×TV))
 |.nil .map=>some []
 |.map r=>match h[r]? with
  |some (.map es)=>some es
  |_=>none
 |_=>none
theorem MF{t:LI2}{h:List HB}{tm tk:TV}{ok:Bool}{kt e:LI2}{kv:LI3}{es:List (TV×TV)}(hu:P.underlying t=some (.map kt e))(hk:tk.zk=some kv)(he:a4m h tm=some es) :
  iH P t h tm tk ok=match FU P kt kv es with
   |some (some i)=>match es[i]? with
    |some (_,v)=>some (if ok then .dB [v,.bool true]else v)
    |none=>none
   |some none=>match P.info? e with
    |some i=>match i.zero with
     |some z=>(TV.X4 z).map fun z=>if ok then .dB [z,.bool false]else z
     |none=>none
    |none=>none
   |none=>none:=by
 unfold iH;simp only[hu,hk];cases tm with
 |nil k=>
  cases k<;>simp only[a4m]at he<;>try (cases he;done)
  cases he;rfl
 |map r=>
  simp only[a4m]at he;split at he
  .rename_i es0 hb;cases he;simp only[hb];rfl
  .cases he
 |_=>simp[a4m]at he
theorem DZ{H h}(hr:HR X P A m H h){r es}(he:Mc X H r=some es):∃c gY,(m[r]? = some (.gW c)\/(m[r]? = some (.jL c)/\c∉bn m))/\h[c]? = some (.map gY)/\es.length=gY.length /\∀(i:Nat) x y,es[i]? = some x->gY[i]? = some y->qH x.1=some y.1/\qH x.2=some y.2:=by
 unfold Mc at he;split at he
 .rename_i es0 hb;cases he;obtain⟨mb,g1,g2⟩:=hr.at_ r _ hb;cases mb with
  |gW c=>obtain⟨gY,g3,g4,g5⟩:=g2;exact⟨c,gY,.inl g1,g3,g4,g5⟩
  |_=>exact g2.elim
 .rename_i es0 hb;cases he;obtain⟨mb,g1,g2⟩:=hr.at_ r _ hb;cases mb with
  |jL c=>obtain⟨g0,gY,g3,g4,g5⟩:=g2;exact⟨c,gY,.inr ⟨g1,g0⟩,g3,g4,g5⟩
  |_=>exact g2.elim
 .cases he
theorem a2n{B h r c tm}(hm:VR X P B m h (.map r) tm)(hc:m[r]? = some (.gW c)\/(m[r]? = some (.jL c)/\c∉bn m)):tm=.map c:=by
 cases hm with
 |map e=>
  rcases hc with h|⟨h,_⟩<;>rw[h]at e<;>cases e
  rfl
 |gone hi e _=>
  simp only[bF,a08]at hi;subst hi;rcases hc with h|⟨h,_⟩<;>rw[h]at e
  .cases e
  cases e with
  |r c hv=>simp only[roV,a08]at hv;exact hv.symm
theorem TT{r c ks}(hc:m[r]? = some (.gW c)\/(m[r]? = some (.jL c)/\c∉bn m)):(∃i,Key.h i∈Key.h r::ks/\H6 m i c)\/c∉bn m:=by
 rcases hc with h|⟨_,h⟩
 .exact .inl ⟨r,by simp,jc h rfl⟩
 exact .inr h
theorem afS{ps ts}(hR:wu X P A m ps ts){mv tm}(hm:VR X P (AA A m) m ts.heap mv tm){es}(he:a6V X ps.heap mv=some es) :∃gY,a4m ts.heap tm=some gY/\es.length=gY.length/\(∀(i:Nat) x y,es[i]? = some x->gY[i]? = some y->VR X P (AA A m) m ts.heap x.1 y.1/\VR X P (AA A m) m ts.heap x.2 y.2) /\IR m ts.heap ⟨gu (TI X mv),false,false,true⟩ (gu (TR tm)):=by
 cases mv with
 |nil k=>
  cases hm with
  |nil=>
   cases k<;>simp only[a6V]at he<;>try (cases he;done)
   cases he;exact⟨[],rfl,rfl,fun i x y hx=>by simp at hx,IR.reads rfl (by simp[TR]) (by simp[TR])⟩
  |gone hi _ _=>simp[bF]at hi
 |map r=>
  simp only[a6V]at he;obtain⟨c,gY,g0,g3,g4,g5⟩:=DZ hR.heap he;have htm:=a2n hm g0;subst htm;refine⟨gY,by simp only[a4m,g3],g4,fun i x y e1 e2=>⟨oJ (g5 i x y e1 e2).1,oJ (g5 i x y e1 e2).2⟩,IR.reads rfl (fun b hb=>?_) (by simp[TR])⟩;simp[TR]at hb;subst hb;exact⟨TT g0,(a0u.1 g3).1⟩
 |_=>simp[a6V]at he
theorem O1{a b x y}(h1:VR X P A m h a x)(h2:VR X P A m h b y):VR X P A m h (.dB [a,b]) (.dB [x,y]):=by
 have:=(bZ.nil (X:=X) (P:=P) (A:=A) (m:=m) (h:=h)).cons h2 |>.cons h1
 exact .dB this.1 this.2
theorem XY{e z}(h:PK X P e=some z):∃i z0 z1,P.info? e=some i/\i.zero=some z0/\TV.X4 z0=some z1/\Zw z1=some z:=by
 unfold PK at h;split at h
 .rename_i i hi;split at h
  .rename_i z0 hz0;split at h
   .rename_i z1 hz1;exact⟨i,z0,z1,hi,hz0,hz1,h⟩
   cases h
  cases h
 cases h
theorem aaT{ρ}{y:ρ}{ps ts}(hR:wu X P A m ps ts){t mv kv tm tk}(hm:VR X P (AA A m) m ts.heap mv tm)(hk:VR X P (AA A m) m ts.heap kv tk){ok an c}(hl:(a0o X P t ps mv kv ok an c).Ends y):∃v pi IY w,iH P t ts.heap tm tk ok=some w/\VR X P (AA A m) m ts.heap v w/\(c (.val v) pi IY).Ends y/\IR m ts.heap pi (gu (TR tm)):=by
 unfold a0o at hl;split at hl
 .rename_i kt e tk' es hu htk Nz;have:=kF hk htk;subst this;obtain⟨gY,f1,f2,f3,f4⟩:=afS hR hm Nz;have fnd:∀{yF ks j k0 v},tk.zk=some yF->wH X es=some ks->wI P kt yF ks=some (some j)->es[j]? = some (k0,v)->∃w,iH P t ts.heap tm tk ok=some w/\VR X P (AA A m) m ts.heap (if ok then .dB [v,.bool true]else v) w:=by
   intro yF ks j k0 v D8 FZ PX hj;have uh:=sN f2 f3 FZ;have aS:j<gY.length:=by rw[<-f2];exact(a0u.1 hj).1
   have EG:=a0A aS;have hv:=(f3 j _ _ hj EG).2;refine⟨(if ok then .dB [gY[j].2,.bool true]else gY[j].2),?_,?_⟩
   .rw[MF hu D8 f1];simp only[qE,uh,PX,EG]
   .cases ok with
    |true=>exact O1 hv (.bool _)
    |false=>exact hv
  have non:∀{yF ks z},tk.zk=some yF->wH X es=some ks->wI P kt yF ks=some none->PK X P e=some z->∃w,iH P t ts.heap tm tk ok=some w/\VR X P (AA A m) m ts.heap (if ok then .dB [z,.bool false]else z) w:=by
   intro yF ks z D8 FZ PX hz;have uh:=sN f2 f3 FZ;obtain⟨i,z0,z1,hi,hz0,hz1,hz2⟩:=XY hz;refine⟨(if ok then .dB [z1,.bool false]else z1),?_,?_⟩
   .rw[MF hu D8 f1];simp only[qE,uh,PX,hi,hz0,hz1,a1l]
   .cases ok with
    |true=>exact O1 (xP hz2) (.bool _)
    |false=>exact xP hz2
  split at hl
  .obtain⟨⟨yF,ks,j,k0,g1,g2,g3,g4⟩,hl⟩:=hl;obtain⟨w,w1,w2⟩:=fnd g1 g2 g3 g4;exact⟨_,_,_,w,w1,w2,hl,f4⟩
  .split at hl
   .rename_i z hz;obtain⟨⟨yF,ks,g1,g2,g3⟩,hl⟩:=hl;obtain⟨w,w1,w2⟩:=non g1 g2 g3 hz;exact⟨_,_,_,w,w1,w2,hl,f4⟩
   .exact hl.elim
  .split at hl
   .rename_i z hz;obtain⟨⟨yF,ks,g1,g2,g3⟩,hl⟩:=hl;obtain⟨w,w1,w2⟩:=non g1 g2 g3 hz;exact⟨_,_,_,w,w1,w2,hl,f4⟩
   .exact hl.elim
  .split at hl
   .rename_i yF ks D8 FZ;split at hl
    .rename_i j r _ _;split at hl
     .rename_i k0 v hj;obtain⟨PX,hl⟩:=hl;obtain⟨w,w1,w2⟩:=fnd D8 FZ PX hj;exact⟨_,_,_,w,w1,w2,hl,f4⟩
     .exact hl.elim
    .split at hl
     .rename_i z hz;obtain⟨PX,hl⟩:=hl;obtain⟨w,w1,w2⟩:=non D8 FZ PX hz;exact⟨_,_,_,w,w1,w2,hl,f4⟩
     .exact hl.elim
    .exact hl.elim
   .exact hl.elim
 .exact hl.elim
theorem a4n{x}{v:PV X.Γ}(h:ofC x=some v):su v=some x:=by cases x<;>simp only[ofC,a08,reduceCtorEq]at h<;>subst h<;>rfl
theorem PY:∀{x} {v:List (PV X.Γ)},Dl x=some v->jf v=some x
 | [],v,h=>by cases h;rfl
 |a::l,v,h=>by
  simp only[Dl]at h;split at h
  .rename_i b bs h1 h2;cases h;simp only[jf,a4n h1,PY h2]
  cases h
theorem aaU{x}{v:PV X.Γ}(h:Zw x=some v):qH v=some x:=by
 cases x
 case agg cs=>
  simp only[Zw,a0x]at h;obtain⟨w,h1,rfl⟩:=h;simp only[qH,PY h1,a1l]
 all_goals
  simp only[Zw,ofC,a08,reduceCtorEq]at h
  try subst h
  try rfl
theorem a0z{ps ts}(hR:wu X P A m ps ts){r cb es0}(g1:m[r]? = some (.gW cb))(f1:ts.heap[cb]? = some (.map es0))(en en')(h1:en.length=en'.length)(h2:∀(i:Nat) x y,en[i]? = some x->en'[i]? = some y->qH x.1=some y.1/\qH x.2=some y.2) :wu X P A m { ps with heap:=ps.heap.set r (.map en) } { ts with heap:=ts.heap.set cb (.map en') }/\Fr m ts.heap m (ts.heap.set cb (.map en')):=by
 have aS:=(a0u.1 f1).1;obtain⟨q1,q2⟩:=hR.heap.set (pb:=.map en) (hb:=.map en') g1 (c:=cb) rfl (fun cs hc=>by simp[aU,f1]at hc) fun hF=>⟨en',by simp[aS],h1,h2⟩;exact⟨hR.step q1 q2 .refl,q2⟩
theorem TU{es:List (PV X.Γ×PV X.Γ)}{gY}(f2:es.length=gY.length)(f3:∀(i:Nat) x y,es[i]? = some x->gY[i]? = some y->qH x.1=some y.1/\qH x.2=some y.2){k v tk tv}(h1:qH k=some tk)(h2:qH v=some tv) :∀(i:Nat) x y,(es++[(k,v)])[i]? = some x->(gY++[(tk,tv)])[i]? = some y->qH x.1=some y.1/\qH x.2=some y.2:=fun i a b ha rG=>by
 rcases a4O i es.length with aS|CY
 .rw[a0P aS]at ha;rw[a0P (by rw[<-f2];exact aS)]at rG;exact f3 i a b ha rG
 .rw[a1p CY]at ha;rw[a1p (by rw[<-f2];exact CY),<-f2]at rG;cases hx:i-es.length with
  |zero=>
   rw[hx]at ha rG;simp only[a2I,a08]at ha rG;subst ha;subst rG;exact⟨h1,h2⟩
  |succ n=>rw[hx]at ha;simp at ha
theorem a7m{ps ts}(hR:wu X P A m ps ts){r es tm}(hb:ps.heap[r]? = some (.map es))(hm:VR X P (AA A m) m ts.heap (.map r) tm) :∃cb gY,tm=.map cb/\m[r]? = some (.gW cb)/\ts.heap[cb]? = some (.map gY)/\es.length=gY.length/\∀(i:Nat) x y,es[i]? = some x->gY[i]? = some y->qH x.1=some y.1/\qH x.2=some y.2:=by
 obtain⟨mb,g1,g2⟩:=hR.heap.at_ r _ hb;cases mb with
 |gW cb=>
  obtain⟨gY,f1,f2,f3⟩:=g2;cases hm with
  |gone hi e' _=>simp only[bF,a08]at hi;subst hi;rw[g1]at e';cases e'
  |map e'=>rw[g1]at e';cases e';exact⟨cb,gY,rfl,g1,f1,f2,f3⟩
 |_=>exact g2.elim
theorem aaV{ρ}{y:ρ}{ps ts}(hR:wu X P A m ps ts){t mv kv tm tk}(hm:VR X P (AA A m) m ts.heap mv tm)(hk:VR X P (AA A m) m ts.heap kv tk){an c}(hl:(a6Y X P t ps mv kv an c).Ends y):∃e e' ps1 pi IY h1 ti,Du P t ts tm tk=some (e',{ ts with heap:=h1 },ti)/\JG X P (AA A m) m h1 e e'/\wu X P A m ps1 { ts with heap:=h1 }/\Fr m ts.heap m h1/\(c e ps1 pi IY).Ends y/\IR m ts.heap pi ti/\∀b,.h b∈ti.ws->b∈bn m:=by
 unfold a6Y at hl;split at hl
 .rename_i kt e tk' r hu htk;have:=kF hk htk;subst this;split at hl
  .rename_i es hb;obtain⟨cb,gY,rfl,g1,f1,f2,f3⟩:=a7m hR hb hm;have f3v:∀(i:Nat) x y,es[i]? = some x->gY[i]? = some y->VR X P (AA A m) m ts.heap x.1 y.1/\VR X P (AA A m) m ts.heap x.2 y.2:=fun i x y e1 e2=>⟨oJ (f3 i x y e1 e2).1,oJ (f3 i x y e1 e2).2⟩;have aS:=(a0u.1 f1).1;split at hl
   .rename_i v _ j rest;split at hl
    case h_2=>exact hl.elim
    rename_i va vx;obtain⟨⟨yF,ks,old,ov,D8,c1,FZ,c2,hj,hold,hov,c3⟩,hl⟩:=hl;have uh:=sN f2 f3v FZ;have EG:j<gY.length:=by rw[<-f2];exact(a0u.1 hj).1
    have X5:=a0A EG;have hy1:(gY[j]).1=old:=by
     have:(gY.map (·.1))[j]? = some (gY[j]).1:=by rw[a5w,X5];rfl
     rw[uh,hold]at this;exact(aa5 this).symm
    have htv:=(f3 j _ _ hj X5).2;obtain⟨w1,w2⟩:=a0z hR g1 f1 es (gY.set j (tk,(gY[j]).2)) (by simp[f2]) fun i a b ha rG=>by
     by_cases e:j=i
     .subst e;rw[a5v,X5]at rG;rw[hj]at ha;cases ha;cases rG;exact⟨htk,htv⟩
     .rw[a1w e]at rG;exact f3 i a b ha rG
    have Gx:ps.heap.set r (.map es)=ps.heap:=by
     refine aao fun i=>?_;by_cases e:r=i
     .subst e;rw[a1C (a0u.1 hb).1,hb]
     .rw[a1w e]
    rw[Gx]at w1;refine⟨.ent r j (.int va vx),.ent cb j (gY[j]).2,_,_,_,_,qm (.h cb),?_,⟨.map g1,rfl,htv⟩,w1,w2,hl,.wrH (jc g1 rfl) aS,fun b hb=>by simp[qm]at hb;subst hb;exact bg g1 rfl⟩;have SG:gY[j].1=tk:=by have:=(f3 j _ _ hj X5).1;rw[htk]at this;exact(aa5 this).symm
    have X6:gY[j].2=.int va vx:=by have h9:some (TV.int va vx)=some (gY[j]).2:=htv;exact(aa5 h9).symm
    have Xo:gY.set j (tk,(gY[j]).2)=gY:=by rw[show(tk,(gY[j]).2)=gY[j]from ads SG.symm rfl];exact List.set_getElem_self EG
    have hl1:iH P t ts.heap (.map cb) tk false=some (.int va vx):=by unfold iH;simp only[hu,D8,f1,qE,uh,c2,X5,X6,a2H,a3S]
    have hcb:ts.heap.set cb (.map gY)=ts.heap:=by
     refine aao fun i=>?_;by_cases e:cb=i
     .subst e;rw[a1C aS,f1]
     .rw[a1w e]
    have h0:AZ P t ts (.map cb) tk=some (.ent cb j (gY[j]).2,{ ts with heap:=ts.heap.set cb (.map (gY.set j (tk,(gY[j]).2))) },qm (.h cb)):=by unfold AZ;simp only[hu,D8,f1,c1,qE,uh,c2,X5,hy1,hov,c3,a2l]
    unfold Du;rw[h0];simp only[];rw[a15];unfold a1k;rw[Xo,hcb,hl1];simp
   .split at hl
    .rename_i va vx hz;obtain⟨⟨yF,q1,c1⟩,⟨adw,ks,q2,FZ,c2⟩,⟨auN,ks2,q3,aqo,c4⟩,hl⟩:=hl;rw[q1]at q2;cases q2;rw[q1]at q3;cases q3;obtain⟨i,z0,z1,hi,hz0,hz1,hz2⟩:=XY hz;have uh:=sN f2 f3v FZ;have hzt:=aaU hz2;obtain⟨w1,w2⟩:=a0z hR g1 f1 (es++[(kv,.int va vx)]) (gY++[(tk,z1)]) (by simp[f2]) (TU f2 f3 htk hzt);refine⟨.ent r es.length (.int va vx),.ent cb gY.length z1,_,_,_,_,qm (.h cb),?_,⟨.map g1,f2,hzt⟩,w1,w2,hl,.wrH (jc g1 rfl) aS,fun b hb=>by simp[qm]at hb;subst hb;exact bg g1 rfl⟩;have X6:z1=.int va vx:=by have h9:some (TV.int va vx)=some z1:=hzt;exact(aa5 h9).symm
     have hl1:iH P t ts.heap (.map cb) tk false=some (.int va vx):=by unfold iH;simp only[hu,q1,f1,qE,uh,c2,hi,hz0,hz1,X6,a1l,a2H,a3S]
     have afT:(gY++[(tk,z1)]).map (·.1)=ks2:=sN (P:=P) (A:=AA A m) (m:=m) (h:=ts.heap) (es:=es++[(kv,.int va vx)]) (by simp[f2]) (fun i x y e1 e2=>let ⟨a1,a2⟩:=TU f2 f3 htk hzt i x y e1 e2;⟨oJ a1,oJ a2⟩) aqo;have SI:iH P t (ts.heap.set cb (.map (gY++[(tk,z1)]))) (.map cb) tk false=some (.int va vx):=by
      have e9:(gY++[(tk,z1)])[es.length]? = some (tk,z1):=by rw[f2];simp
      unfold iH;simp only[hu,q1,a1C aS,qE,afT,c4,e9,a2H,a3S];rw[X6]
     have h0:AZ P t ts (.map cb) tk=some (.ent cb gY.length z1,{ ts with heap:=ts.heap.set cb (.map (gY++[(tk,z1)])) },qm (.h cb)):=by unfold AZ;simp only[hu,q1,f1,c1,qE,uh,c2,hi,hz0,hz1]
     unfold Du;rw[h0];simp only[];rw[a15];unfold a1k;rw[hl1,SI];simp
    .exact hl.elim
   .exact hl.elim
  .exact hl.elim
 .exact hl.elim
theorem aaW{ρ}{y:ρ}{ps ts}(hR:wu X P A m ps ts){mv v e tm tv e'}(hm:VR X P (AA A m) m ts.heap mv tm)(he:JG X P (AA A m) m ts.heap e e')(hv:VR X P (AA A m) m ts.heap v tv){c}(hl:(a6Z X ps mv e v c).Ends y):∃ps1 pi h1 ti,I7 ts tm e' tv=some ({ ts with heap:=h1 },ti)/\wu X P A m ps1 { ts with heap:=h1 }/\Fr m ts.heap m h1/\(c ps1 pi).Ends y/\IR m ts.heap pi ti/\∀b,.h b∈ti.ws->b∈bn m:=by
 unfold a6Z at hl;split at hl
 .rename_i r r' j tv' htv;have:=kF hv htv;subst this;split at hl
  .rename_i hrr;subst hrr;split at hl
   .rename_i es hb;obtain⟨hj,hl⟩:=hl;obtain⟨cb,gY,rfl,g1,f1,f2,f3⟩:=a7m hR hb hm;obtain⟨c',rfl,hm'⟩:=NW he;have hc:c'=cb:=by
     cases hm' with
     |gone hi e' _=>simp only[bF,a08]at hi;subst hi;rw[g1]at e';cases e'
     |map e'=>rw[g1]at e';cases e';rfl
    subst hc;have aS:=(a0u.1 f1).1;have EG:j<gY.length:=by rw[<-f2];exact hj
    have X5:=a0A EG;obtain⟨w1,w2⟩:=a0z hR g1 f1 (Ku es j v) (gY.set j ((gY[j]).1,tv)) (by unfold Ku;simp[f2]) fun i a b ha rG=>by
     unfold Ku at ha;rw[aeT]at ha;by_cases e:j=i
     .subst e;rw[a5v,X5]at rG;simp only[a2l,a0A hj,Option.map_eq_map,a1l,a08]at ha;subst ha;cases rG;exact⟨(f3 j _ _ (a0A hj) X5).1,htv⟩
     .rw[a1w e]at rG;have ha:es[i]? = some a:=(by simpa[e]using ha);exact f3 i a b ha rG
    refine⟨_,_,_,qm (.h c'),?_,w1,w2,hl,.wrH (jc g1 rfl) aS,fun b hb=>by simp[qm]at hb;subst hb;exact bg g1 rfl⟩;unfold I7;simp only[a2l,f1,X5]
   .exact hl.elim
  .exact hl.elim
 .exact hl.elim
theorem a7p{ρ}{y:ρ}{ps ts}(hR:wu X P A m ps ts){t mv kv v tm tk tv}(hm:VR X P (AA A m) m ts.heap mv tm)(hk:VR X P (AA A m) m ts.heap kv tk)(hv:VR X P (AA A m) m ts.heap v tv){an c}(hl:(a6W X P t ps mv kv v an c).Ends y):∃ps1 pi IY h1 ti,yH P t ts tm tk tv=some ({ ts with heap:=h1 },ti)/\wu X P A m ps1 { ts with heap:=h1 }/\Fr m ts.heap m h1/\(c ps1 pi IY).Ends y/\IR m ts.heap pi ti/\∀b,.h b∈ti.ws->b∈bn m:=by
 unfold a6W at hl;split at hl
 .rename_i kt e tk' r tv' hu htk htv;have:=kF hk htk;subst this;have:=kF hv htv;subst this;split at hl
  .rename_i es hb;obtain⟨mb,g1,g2⟩:=hR.heap.at_ r _ hb;cases mb with
   |gW cb=>
    obtain⟨gY,f1,f2,f3⟩:=g2;have f3v:∀(i:Nat) x y,es[i]? = some x->gY[i]? = some y->VR X P (AA A m) m ts.heap x.1 y.1/\VR X P (AA A m) m ts.heap x.2 y.2:=fun i x y e1 e2=>⟨oJ (f3 i x y e1 e2).1,oJ (f3 i x y e1 e2).2⟩;cases hm with
    |gone hi e' _=>simp only[bF,a08]at hi;subst hi;rw[g1]at e';cases e'
    |map e'=>
     rw[g1]at e';cases e';have aS:=(a0u.1 f1).1;have wr:∀(en:List (PV X.Γ×PV X.Γ)) (en':List (TV×TV)),en.length=en'.length->(∀(i:Nat) x y,en[i]? = some x->en'[i]? = some y->qH x.1=some y.1/\qH x.2=some y.2) ->
       wu X P A m { ps with heap:=ps.heap.set r (.map en) } { ts with heap:=ts.heap.set cb (.map en') }/\Fr m ts.heap m (ts.heap.set cb (.map en')):=by
      intro en en' h1 h2;obtain⟨q1,q2⟩:=hR.heap.set (pb:=.map en) (hb:=.map en') g1 (c:=cb) rfl (fun cs hc=>by simp[aU,f1]at hc) fun hF=>⟨en',by simp[aS],h1,h2⟩;exact⟨hR.step q1 q2 .refl,q2⟩
     have new:∀{yF ks},tk.zk=some yF->wH X es=some ks->aC P (Instr.checkKey false 10000 kt yF)=some ()->wI P kt yF ks=some none ->
       yH P t ts (.map cb) tk tv=some ({ ts with heap:=ts.heap.set cb (.map (gY++[(tk,tv)])) },qm (.h cb))/\wu X P A m { ps with heap:=ps.heap.set r (.map (es++[(kv,v)])) } { ts with heap:=ts.heap.set cb (.map (gY++[(tk,tv)])) }/\Fr m ts.heap m (ts.heap.set cb (.map (gY++[(tk,tv)]))):=by
      intro yF ks D8 FZ c1 c2;have uh:=sN f2 f3v FZ;obtain⟨w1,w2⟩:=wr (es++[(kv,v)]) (gY++[(tk,tv)]) (by simp[f2]) fun i a b ha rG=>by
       rcases a4O i es.length with aS|CY
       .rw[a0P aS]at ha;rw[a0P (by rw[<-f2];exact aS)]at rG;exact f3 i a b ha rG
       .rw[a1p CY]at ha;rw[a1p (by rw[<-f2];exact CY),<-f2]at rG;cases hx:i-es.length with
        |zero=>
         rw[hx]at ha rG;simp only[a2I,a08]at ha rG;subst ha;subst rG;exact⟨htk,htv⟩
        |succ n=>rw[hx]at ha;simp at ha
      refine⟨?_,w1,w2⟩;unfold yH;simp only[hu,D8,f1,c1,qE,uh,c2]
     split at hl
     .obtain⟨⟨yF,q1,c1⟩,⟨adw,ks,q2,FZ,c2⟩,hl⟩:=hl;rw[q1]at q2;cases q2;obtain⟨u1,u2,u3⟩:=new q1 FZ c1 c2;exact⟨_,_,_,_,qm (.h cb),u1,u2,u3,hl,.wrH (jc g1 rfl) aS,fun b hb=>by simp[qm]at hb;subst hb;exact bg g1 rfl⟩
     .obtain⟨⟨yF,q1,c1⟩,⟨adw,ks,q2,FZ,c2⟩,hl⟩:=hl;rw[q1]at q2;cases q2;obtain⟨u1,u2,u3⟩:=new q1 FZ c1 c2;exact⟨_,_,_,_,qm (.h cb),u1,u2,u3,hl,.wrH (jc g1 rfl) aS,fun b hb=>by simp[qm]at hb;subst hb;exact bg g1 rfl⟩
     .obtain⟨⟨yF,ks,j,old,ov,D8,c1,FZ,c2,hj,hold,hov,c3⟩,hl⟩:=hl;have uh:=sN f2 f3v FZ;have EG:∃y0,gY[j]? = some y0:=by
       have:j<gY.length:=by rw[<-f2];exact(a0u.1 hj).1
       exact⟨_,a0A this⟩
      obtain⟨y0,X5⟩:=EG;have hy1:y0.1=old:=by
       have:(gY.map (·.1))[j]? = some y0.1:=by rw[a5w,X5];rfl
       rw[uh,hold]at this;exact(aa5 this).symm
      obtain⟨w1,w2⟩:=wr es (gY.set j (tk,tv)) (by simp[f2]) fun i a b ha rG=>by
       by_cases e:j=i
       .subst e;rw[a5v]at rG;rw[hj]at ha;rw[X5]at rG;cases ha;cases rG;exact⟨htk,htv⟩
       .rw[a1w e]at rG;exact f3 i a b ha rG
      have Gx:ps.heap.set r (.map es)=ps.heap:=by
       refine aao fun i=>?_;by_cases e:r=i
       .subst e;rw[a1C (a0u.1 hb).1,hb]
       .rw[a1w e]
      rw[Gx]at w1;refine⟨_,_,_,_,qm (.h cb),?_,w1,w2,hl,.wrH (jc g1 rfl) aS,fun b hb=>by simp[qm]at hb;subst hb;exact bg g1 rfl⟩;unfold yH;simp only[hu,D8,f1,c1,qE,uh,c2,X5,hy1,hov,c3,a2l]
     .split at hl
      .rename_i yF ks D8 FZ;have uh:=sN f2 f3v FZ;split at hl
       .rename_i j rest _ _ _;split at hl
        .rename_i x0 old hj hold;split at hl
         .rename_i ov hov;obtain⟨c1,c2,c3,hl⟩:=hl;have EG:∃y0,gY[j]? = some y0:=by
           have:j<gY.length:=by rw[<-f2];exact(a0u.1 hj).1
           exact⟨_,a0A this⟩
          obtain⟨y0,X5⟩:=EG;have hy1:y0.1=old:=by
           have:(gY.map (·.1))[j]? = some y0.1:=by rw[a5w,X5];rfl
           rw[uh,hold]at this;exact(aa5 this).symm
          obtain⟨w1,w2⟩:=wr (es.set j (kv,v)) (gY.set j (tk,tv)) (by simp[f2]) fun i a b ha rG=>by
           by_cases e:j=i
           .subst e;rw[a5v]at ha rG;rw[hj]at ha;rw[X5]at rG;cases ha;cases rG;exact⟨htk,htv⟩
           .rw[a1w e]at ha rG;exact f3 i a b ha rG
          refine⟨_,_,_,_,qm (.h cb),?_,w1,w2,hl,.wrH (jc g1 rfl) aS,fun b hb=>by simp[qm]at hb;subst hb;exact bg g1 rfl⟩;unfold yH;simp only[hu,D8,f1,c1,qE,uh,c2,X5,hy1,hov,c3,a2l]
         .exact hl.elim
        .exact hl.elim
       .obtain⟨c1,c2,hl⟩:=hl;obtain⟨u1,u2,u3⟩:=new D8 FZ c1 c2;exact⟨_,_,_,_,qm (.h cb),u1,u2,u3,hl,.wrH (jc g1 rfl) aS,fun b hb=>by simp[qm]at hb;subst hb;exact bg g1 rfl⟩
       .exact hl.elim
      .exact hl.elim
   |_=>exact g2.elim
  .exact hl.elim
 .exact hl.elim
end
open Go Tw
theorem lF{m b}(h:b∈bn m):∃i,H6 m i b:=by obtain⟨mb,h1,h2⟩:=a6I.1 h;obtain⟨i,hi⟩:=a9z h1;exact⟨i,mb,hi,h2⟩
section
variable{X:mX}{P:LI1}{A B:Nat->Prop}{m m1:List MB}{h:List HB}{g:Nat->Option Nat}
theorem jT:∀{m},(∀i j c,H6 m i c->H6 m j c->i=j)->(bn m).Nodup
 | [],_=>by simp[bn]
 |x::m,hu=>by
  have ih:(bn m).Nodup:=jT fun i j c h1 h2=>by have:=hu (i+1) (j+1) c (by obtain⟨mb,a,b⟩:=h1;exact⟨mb,by simpa using a,b⟩) (by obtain⟨mb,a,b⟩:=h2;exact⟨mb,by simpa using a,b⟩);omega
  unfold bn at ih ⊢;rw[aa3];split
  .exact ih
  rename_i b hb;refine a5x.2 ⟨fun hm=>?_,ih⟩;obtain⟨i,mb,h1,h2⟩:=lF (m:=m) hm;have:=hu 0 (i+1) b ⟨x,rfl,hb⟩ ⟨mb,by simpa using h1,h2⟩;omega
theorem PZ:∀{ks} {i p},xJ ks i=some p->ks[p]? = some i
 | [],i,p,h=>by cases h
 |a::ks,i,p,h=>by
  simp only[xJ]at h;split at h
  .rename_i e;cases h;simp[e]
  simp only[a0x]at h;obtain⟨q,h1,rfl⟩:=h;simpa using PZ h1
section
variable{g:Nat->Option Nat}{m1:List MB}
theorem EW(hg:∀i j,g i=some j->m1[j]? = m[i]?){B}(hA:∀b,A b->B b)(hX:bT X P){v x}(hv:VR X P A m h v x):∀{w},fQ g v=some w->VR X P B m1 h w x:=by
 have lists:∀{vs:List (PV X.Γ)} {xs:List TV},vs.length=xs.length->(∀(i:Nat) a b,vs[i]? = some a->xs[i]? = some b->∀{w:PV X.Γ},fQ g a=some w->VR X P B m1 h w b)->∀{ws:List (PV X.Γ)},fQ.ql g vs=some ws->ws.length=xs.length/\∀(i:Nat) a b,ws[i]? = some a->xs[i]? = some b->VR X P B m1 h a b:=by
  intro vs
  induction vs with
  |nil=>
   intro xs hl _ ws hw;simp only[fQ.ql,a08]at hw;subst hw;exact⟨hl,fun i a b ha=>by simp at ha⟩
  |cons v vs ih=>
   intro xs hl hh ws hw;cases xs with
   |nil=>simp at hl
   |cons x xs=>
    simp only[fQ.ql]at hw;split at hw
    .rename_i w Xd h1 h2;cases hw;obtain⟨e1,e2⟩:=ih (xs:=xs) (by simpa using hl) (fun i a b ha hb=>hh (i+1) a b (by simpa using ha) (by simpa using hb)) h2;refine⟨by simp[e1],fun i a b ha hb=>?_⟩;cases i with
     |zero=>simp only[a2I,a08]at ha hb;subst ha;subst hb;exact hh 0 v x rfl rfl h1
     |succ i=>exact e2 i a b (by simpa using ha) (by simpa using hb)
    cases hw
 induction hv with
 |bool=>intro w hw;simp only[fQ,a08]at hw;subst hw;exact .bool _
 |lit=>intro w hw;simp only[fQ,a08]at hw;subst hw;exact .lit _
 |int=>intro w hw;simp only[fQ,a08]at hw;subst hw;exact .int _ _
 |str=>intro w hw;simp only[fQ,a08]at hw;subst hw;exact .str _
 |nil=>intro w hw;simp only[fQ,a08]at hw;subst hw;exact .nil _
 |ptr e=>intro w hw;simp only[fQ,a0x]at hw;obtain⟨j,h1,rfl⟩:=hw;exact .ptr (by rw[hg _ _ h1];exact e)
 |aP e=>intro w hw;simp only[fQ,a0x]at hw;obtain⟨j,h1,rfl⟩:=hw;exact .aP (by rw[hg _ _ h1];exact e)
 |own e o=>intro w hw;simp only[fQ,a0x]at hw;obtain⟨j,h1,rfl⟩:=hw;exact .own (by rw[hg _ _ h1];exact e) o
 |win e q q' q2=>intro w hw;simp only[fQ,a0x]at hw;obtain⟨j,h1,rfl⟩:=hw;exact .win (by rw[hg _ _ h1];exact e) q q' q2
 |D7 e=>intro w hw;simp only[fQ,a0x]at hw;obtain⟨j,h1,rfl⟩:=hw;exact .D7 (by rw[hg _ _ h1];exact e)
 |Hz e=>intro w hw;simp only[fQ,a0x]at hw;obtain⟨j,h1,rfl⟩:=hw;exact .Hz (by rw[hg _ _ h1];exact e)
 |Kv e=>intro w hw;simp only[fQ,a0x]at hw;obtain⟨j,h1,rfl⟩:=hw;exact .Kv (by rw[hg _ _ h1];exact e)
 |map e=>intro w hw;simp only[fQ,a0x]at hw;obtain⟨j,h1,rfl⟩:=hw;exact .map (by rw[hg _ _ h1];exact e)
 |iter e=>intro w hw;simp only[fQ,a0x]at hw;obtain⟨j,h1,rfl⟩:=hw;exact .iter (by rw[hg _ _ h1];exact e)
 |lJ e=>intro w hw;simp only[fQ,a0x]at hw;obtain⟨j,h1,rfl⟩:=hw;exact .lJ (by rw[hg _ _ h1];exact e)
 |row e j q=>intro w hw;simp only[fQ,a0x]at hw;obtain⟨j,h1,rfl⟩:=hw;exact .row (by rw[hg _ _ h1];exact e) (by assumption) q
 |fn h1 _ h3 _ i2 i4=>
  intro w hw;simp only[fQ]at hw;split at hw
  .rename_i a c ha hc;cases hw;obtain⟨e1,e2⟩:=lists h1 i2 ha;obtain⟨e3,e4⟩:=lists h3 i4 hc;exact .fn e1 e2 e3 e4
  cases hw
 |agg h1 _ i2=>
  intro w hw;simp only[fQ,a0x]at hw;obtain⟨cs,hc,rfl⟩:=hw;obtain⟨e1,e2⟩:=lists h1 i2 hc;exact .agg e1 e2
 |dB h1 _ i2=>
  intro w hw;simp only[fQ,a0x]at hw;obtain⟨cs,hc,rfl⟩:=hw;obtain⟨e1,e2⟩:=lists h1 i2 hc;exact .dB e1 e2
 |qx=>intro w hw;simp only[fQ,a08]at hw;subst hw;exact .qx
 |dF a c c2 s z o k f e r _=>intro w hw;simp only[fQ,a08]at hw;subst hw;exact .dF (hA _ a) c c2 s z o k f e fun j y i d v h1 h2 h3=>((r j y i d v h1 h2 h3).mono hA).jH hX (gq (hX.jH _ _) h2)
 |el a c l o e q r _=>intro w hw;simp only[fQ,a08]at hw;subst hw;exact .el (hA _ a) c l o e q fun i d v h1 h2=>((r i d v h1 h2).mono hA).jH hX (gq (hX.jH _ _) h1)
 |gone i e o=>
  intro w hw;rename_i v _ x;have:∃j,bF w=some j/\DW w x m1[j]?:=by cases v<;>simp[bF]at i<;>subst i<;>simp only[fQ,a0x]at hw<;>obtain⟨j,h1,rfl⟩:=hw<;>exact⟨j,rfl,by rw[hg _ _ h1];exact e.as fun c=>rfl⟩
  obtain⟨j,h1,h2⟩:=this;exact .gone h1 h2 o
variable{B:Nat->Prop}
theorem zY(hX:bT X P)(hg:∀i j,g i=some j->m1[j]? = m[i]?)(hA:∀b,A b->B b):∀{vs} {xs:List TV} {ws:List (PV X.Γ)},bZ X P A m h vs xs->fQ.ql g vs=some ws->bZ X P B m1 h ws xs
 | [],xs,ws,hv,hw=>by simp only[fQ.ql,a08]at hw;subst hw;rw[hv.inv0];exact .nil
 |v::vs,xs,ws,hv,hw=>by
  obtain⟨x,r,rfl,h1,h2⟩:=hv.inv;simp only[fQ.ql]at hw;split at hw
  .rename_i w Xd g1 g2;cases hw;exact .cons (EW hg hA hX h1 g1) (zY hX hg hA h2 g2)
  cases hw
theorem Q5(hX:bT X P)(hg:∀i j,g i=some j->m1[j]? = m[i]?)(hA:∀b,A b->B b){env env'}(he:kR X P A m h env env'):∀{r},qj g env=some r->kR X P B m1 h r env':=by
 induction he with
 |nil=>intro r h;simp only[qj,a08]at h;subst h;exact .nil
 |cons h1 h2 ih=>
  rename_i k v x q q';intro r hr;simp only[qj]at hr;split at hr
  rotate_left
  .cases hr
  rename_i w r' e1 e2;cases hr;refine .cons ?_ (ih e2);cases v with
  |val v=>
   obtain⟨y,rfl,h3⟩:=gV h1;simp only[PG,a0x]at e1;obtain⟨u,e3,rfl⟩:=e1;exact oK (EW hg hA hX h3 e3)
  |loc a b=>simp only[PG,a08]at e1;subst e1;rw[ES h1];exact⟨rfl,rfl⟩
  |undef=>simp only[PG,a08]at e1;subst e1;rw[Kz h1];trivial
  |ent r j v=>
   obtain⟨c,y,rfl,h3,h4⟩:=NV h1;simp only[PG,a0x]at e1;obtain⟨u,e3,rfl⟩:=e1;exact⟨EW hg hA hX h3 (w:=.map u) (by simp only[fQ,e3,a1l]),rfl,h4⟩
  |Fz r j=>
   obtain⟨c,rfl,h3⟩:=NW h1;simp only[PG,a0x]at e1;obtain⟨u,e3,rfl⟩:=e1;exact⟨EW hg hA hX h3 (w:=.map u) (by simp only[fQ,e3,a1l]),rfl⟩
theorem EX(hX:bT X P)(hg:∀i j,g i=some j->m1[j]? = m[i]?)(hA:∀b,A b->B b){b b' mb}(hn:∀c,mb=.jL c->c∉bn m->c∉bn m1)(hb:BR X P A m h b mb)(hr:zW g b=some b'):BR X P B m1 h b' mb:=by
 cases b with
 |cells cs=>
  cases mb with
  |gW c=>
   simp only[zW,a0x]at hr;obtain⟨cs',h1,rfl⟩:=hr;obtain⟨xs,h2,h3⟩:=hb;exact⟨xs,h2,zY hX hg hA h3 h1⟩
  |_=>exact hb.elim
 |aG cs=>
  cases mb with
  |jL c=>
   simp only[zW,a0x]at hr;obtain⟨cs',h1,rfl⟩:=hr;obtain⟨h0,xs,h2,h3⟩:=hb;exact⟨hn c rfl h0,xs,h2,zY hX hg hA h3 h1⟩
  |_=>exact hb.elim
 |list k ex t l=>
  cases mb with
  |dF y=>
   simp only[zW,a08]at hr;subst hr;cases(hb:LR X P A m h k ex t l y)with
   |nil=>exact LR.nil
   |emp p0 p1 p2 p3 p4=>exact LR.emp (hA _ p0) p1 p2 p3 p4
   |some p1 p2 p3 p4 p5 p6 p7 p8 p9=>exact LR.some p1 p2 p3 p4 p5 p6 p7 p8 ((p9.mono hA).jH hX)
  |_=>exact hb.elim
 |map es=>
  cases mb with
  |gW c=>
   simp only[zW,a08]at hr;subst hr;exact hb
  |_=>exact hb.elim
 |nP cs=>
  cases mb with
  |gW c=>
   simp only[zW,a08]at hr;subst hr;exact hb
  |_=>exact hb.elim
 |iT es=>
  cases mb with
  |jL c=>
   simp only[zW,a08]at hr;subst hr;exact⟨hn c rfl hb.1,hb.2⟩
  |_=>exact hb.elim
 |dD r n seen=>
  cases mb with
  |gW b=>
   simp only[zW,a0x]at hr;obtain⟨j,h1,rfl⟩:=hr;obtain⟨c,h2,h3,h4⟩:=hb;exact⟨c,h2,by rw[hg _ _ h1];exact h3,fun c' hc=>h4 c' (by rw[<-hg _ _ h1];exact hc)⟩
  |_=>exact hb.elim
 |mark=>
  cases mb with
  |gW c=>simp only[zW,a08]at hr;subst hr;exact hb
  |_=>exact hb.elim
 |loop rd f nt env ps a c kC=>
  cases mb with
  |gW cb=>
   simp only[zW,a0x]at hr;obtain⟨awz,h1,rfl⟩:=hr;obtain⟨xs,h2,h3⟩:=hb;exact⟨xs,h2,Q5 hX hg hA h3 h1⟩
  |_=>exact hb.elim
 |gone=>
  cases mb with
  |gone=>simp only[zW,a08]at hr;subst hr;trivial
  |_=>exact hb.elim
theorem uI:∀{bs r:List (PB X.Γ)},oD g bs=some r->r.length=bs.length/\∀{i:Nat} {b'},r[i]? = some b'->∃b,bs[i]? = some b/\zW g b=some b'
 | [],r,h=>by simp only[oD,a08]at h;subst h;exact⟨rfl,fun{i b'} hi=>by simp at hi⟩
 |b::bs,r,h=>by
  simp only[oD]at h;split at h
  .rename_i c cs h1 h2;cases h;obtain⟨e1,e2⟩:=uI h2;refine⟨by simp[e1],fun{i b'} hi=>?_⟩;cases i with
   |zero=>simp only[a2I,a08]at hi;subst hi;exact⟨b,rfl,h1⟩
   |succ i=>obtain⟨d,q1,q2⟩:=e2 (i:=i) (by simpa using hi);exact⟨d,by simpa using q1,q2⟩
  cases h
theorem Q7:∀{bs r:List (List (PV X.Γ))},XJ g bs=some r->r.length=bs.length/\∀{i:Nat} {b'},r[i]? = some b'->∃b,bs[i]? = some b/\fQ.ql g b=some b'
 | [],r,h=>by simp only[XJ,a08]at h;subst h;exact⟨rfl,fun{i b'} hi=>by simp at hi⟩
 |b::bs,r,h=>by
  simp only[XJ]at h;split at h
  .rename_i c cs h1 h2;cases h;obtain⟨e1,e2⟩:=Q7 h2;refine⟨by simp[e1],fun{i b'} hi=>?_⟩;cases i with
   |zero=>simp only[a2I,a08]at hi;subst hi;exact⟨b,rfl,h1⟩
   |succ i=>obtain⟨d,q1,q2⟩:=e2 (i:=i) (by simpa using hi);exact⟨d,by simpa using q1,q2⟩
  cases h
theorem EY:∀{ks} {H r:List (PB X.Γ)},DU H ks=some r->r.length=ks.length/\∀{i k:Nat},ks[i]? = some k->∃b,H[k]? = some b/\r[i]? = some b
 | [],H,r,h=>by simp only[DU,a08]at h;subst h;exact⟨rfl,fun{i k} hi=>by simp at hi⟩
 |k::ks,H,r,h=>by
  simp only[DU]at h;split at h
  .rename_i b rs h1 h2;cases h;obtain⟨e1,e2⟩:=EY h2;refine⟨by simp[e1],fun{i j} hi=>?_⟩;cases i with
   |zero=>simp only[a2I,a08]at hi;subst hi;exact⟨b,h1,rfl⟩
   |succ i=>obtain⟨d,q1,q2⟩:=e2 (i:=i) (k:=j) (by simpa using hi);exact⟨d,q1,by simpa using q2⟩
  cases h
end
theorem uJ{α}:∀{ks} {bs l:List α},(putAt ks bs l).length=l.length
 | [],_,_=>rfl
 |_::_,[],_=>rfl
 |k::ks,b::bs,l=>by simp only[putAt];rw[uJ,a5A]
theorem Q8{α}:∀{ks} {bs l:List α} {p i:Nat},ks.Nodup->(∀k∈ks,k<l.length)->ks.length<=bs.length->ks[p]? = some i->(putAt ks bs l)[i]? = bs[p]?
 | [],_,_,p,i,_,_,_,h=>by simp at h
 |a::ks,[],_,_,_,_,_,hl,_=>by simp at hl
 |a::ks,b::bs,l,0,i,hn,hk,hl,h=>by
  simp only[a2I,a08]at h;subst h;have hn:=a5x.1 hn;simp only[putAt];have:∀{ks:List Nat} {bs l:List α} {i:Nat},i∉ks->(putAt ks bs l)[i]? = l[i]?:=by
   intro ks
   induction ks with
   |nil=>intro bs l i _;rfl
   |cons c ks ih=>
    intro bs l i hi;simp only[a1B,ade]at hi;cases bs with
    |nil=>rfl
    |cons b bs=>simp only[putAt];rw[ih hi.2,a1w (fun e=>hi.1 e.symm)]
  rw[this hn.1,a1C (hk a (a3G ..))];rfl
 |a::ks,b::bs,l,p+1,i,hn,hk,hl,h=>by simp only[aal]at h;simp only[putAt];rw[Q8 (a5x.1 hn).2 (fun k oZ=>by rw[a5A];exact hk k (a3A _ oZ)) (by simpa using hl) h];rfl
theorem KD{α}:∀{ks} {bs l:List α} {i},i∉ks->(putAt ks bs l)[i]? = l[i]?
 | [],_,_,_,_=>rfl
 |a::ks,[],_,_,_=>rfl
 |a::ks,b::bs,l,i,hi=>by simp only[a1B,ade]at hi;simp only[putAt];rw[KD hi.2,a1w (fun e=>hi.1 e.symm)]
def XZ(X:mX)(P:LI1)(call:dM)(fv:PV X.Γ)(xs:List (PV X.Γ))(H:List (PB X.Γ))(v:PV X.Γ)(H1:List (PB X.Γ))(W:Nat->Prop):Prop:=
 ∀(A:Nat->Prop) (m:List MB) (h:List HB) (tf:TV) (rJ:List TV),HR X P A m H h->VR X P (AA A m) m h fv tf->bZ X P (AA A m) m h xs rJ ->
  ∃w h1 ws m1,call tf rJ h=some (w,h1,ws)/\HR X P A m1 H1 h1/\VR X P (AA A m1) m1 h1 v w/\Fr m h m1 h1/\Up m m1/\∀b∈ws,∃k,W k/\H6 m k b
theorem cZ.w{call fv v xs H H1}(h:cZ X P call fv xs H v H1):XZ X P call fv xs H v H1 fun _=>True:=fun A m h0 tf rJ a b c=>by obtain⟨w,h1,ws,m1,c1,c2,c3,c4,c5,c6⟩:=h A m h0 tf rJ a b c;exact⟨w,h1,ws,m1,c1,c2,c3,c4,c5,fun b hb=>by obtain⟨i,hi⟩:=lF (c6 b hb);exact⟨i,trivial,hi⟩⟩
theorem O4:∀{H} {i:Nat} {b:PB X.Γ},Kt H=true->H[i]? = some b->Kt [b]=true
 | [],_,_,_,h=>by simp at h
 |a::H,0,b,hn,h=>by simp only[a2I,a08]at h;subst h;cases a<;>simp_all [Kt]
 |a::H,i+1,b,hn,h=>by
  have EH:Kt H=true:=by cases a<;>simp_all [Kt]
  exact O4 EH (by simpa using h)
def SwM(m m':List MB):Prop:=∀i:Nat,m'[i]? = m[i]?\/(∃c,m[i]? = some (.gW c)/\m'[i]? = some (.jL c))\/∃c,m[i]? = some (.jL c)/\m'[i]? = some (.gW c)
section
variable{m':List MB}
theorem VR.sw(hm:SwM m m')(hA:∀b,A b->B b){v x}(hv:VR X P A m h v x):VR X P B m' h v x:=by
 have hl:∀{i:Nat} {x:TV},m[i]? = some (.dF x)->m'[i]? = some (.dF x):=fun{i x} e=>by
  rcases hm i with g|⟨c,g,_⟩|⟨c,g,_⟩
  .rw[g,e]
  .rw[e]at g;cases g
  rw[e]at g;cases g
 have hb:∀{i c:Nat},m[i]? = some (.gW c)->m'[i]? = some (.gW c)\/m'[i]? = some (.jL c):=fun{i c} e=>by
  rcases hm i with g|⟨c',g,g2⟩|⟨c',g,_⟩
  .exact .inl (by rw[g,e])
  .rw[e]at g;cases g;exact .inr g2
  rw[e]at g;cases g
 induction hv with
 |bool=>exact .bool _
 |lit=>exact .lit _
 |int=>exact .int _ _
 |str=>exact .str _
 |nil=>exact .nil _
 |ptr e=>rcases hb e with e|e;exact .ptr e;exact .gone rfl (.ofR e rfl) rfl
 |aP e=>rcases hb e with e|e;exact .aP e;exact .gone rfl (.ofR e rfl) rfl
 |own e o=>exact .own (hl e) o
 |win e q q' q2=>exact .win (hl e) q q' q2
 |D7 e=>exact .D7 (hl e)
 |Hz e=>exact .Hz (hl e)
 |Kv e=>exact .Kv (hl e)
 |map e=>rcases hb e with e|e;exact .map e;exact .gone rfl (.ofR e rfl) rfl
 |iter e=>rcases hb e with e|e;exact .iter e;exact .gone rfl (.ofR e rfl) rfl
 |fn h1 _ h3 _ i2 i4=>exact .fn h1 i2 h3 i4
 |lJ e=>rcases hb e with e|e;exact .lJ e;exact .gone rfl (.ofR e rfl) rfl
 |agg h1 _ i2=>exact .agg h1 i2
 |dB h1 _ i2=>exact .dB h1 i2
 |qx=>exact .qx
 |dF a c c2 s z o k f e _ ih=>exact .dF (hA _ a) c c2 s z o k f e ih
 |el a c l o e q _ ih=>exact .el (hA _ a) c l o e q ih
 |row e j q=>exact .row (hl e) j q
 | @gone v i x hi e o=>
  generalize hq:m[i]? = q at e;cases e with
  |g=>
   rcases hm i with g|⟨c,g,_⟩|⟨c,g,_⟩
   .exact .gone hi (.of (by rw[g,hq])) o
   .rw[hq]at g;cases g
   rw[hq]at g;cases g
  |r c hv=>
   rcases hm i with g|⟨c',g,_⟩|⟨c',g,g2⟩
   .exact .gone hi (.ofR (by rw[g,hq]) hv) o
   .rw[hq]at g;cases g
   rw[hq]at g;cases g;cases v<;>simp only[roV,a08]at hv<;>first|cases hv;done|skip
   all_goals (subst hv;simp only[bF,a08]at hi;subst hi)
   .exact .ptr g2
   .exact .aP g2
   .exact .map g2
   .exact .lJ g2
   exact .iter g2
theorem bZ.sw(hm:SwM m m')(hA:∀b,A b->B b){v x}(hv:bZ X P A m h v x):bZ X P B m' h v x:=
 ⟨hv.1,fun i a b ha hb=>(hv.2 i a b ha hb).sw hm hA⟩
theorem kR.sw(hm:SwM m m')(hA:∀b,A b->B b){v x}(hv:kR X P A m h v x):kR X P B m' h v x:=by
 induction hv with
 |nil=>exact .nil
 |cons h1 _ ih=>
  refine .cons ?_ ih;rename_i v x _ _ _;cases v<;>cases x<;>first|exact VR.sw hm hA h1|exact h1|exact⟨VR.sw hm hA h1.1,h1.2⟩
theorem BR.sw(hm:SwM m m')(hA:∀b,A b->B b){b mb}(hn:∀c,mb=.jL c->c∉bn m->c∉bn m')(hb:BR X P A m h b mb):BR X P B m' h b mb:=by
 cases b with
 |cells cs=>cases mb with
  |gW b=>obtain⟨cs',h1,h2⟩:=hb;exact⟨cs',h1,h2.sw hm hA⟩
  |_=>exact hb.elim
 |aG cs=>cases mb with
  |jL b=>obtain⟨h0,cs',h1,h2⟩:=hb;exact⟨hn b rfl h0,cs',h1,h2.sw hm hA⟩
  |_=>exact hb.elim
 |list k ex t l=>cases mb with
  |dF x=>
   cases(hb:LR X P A m h k ex t l x)with
   |nil=>exact LR.nil
   |emp h0 h1 h2 h3 h4=>exact LR.emp (hA _ h0) h1 h2 h3 h4
   |some h1 h2 h3 h4 h5 h6 h7 h8 h9=>exact LR.some h1 h2 h3 h4 h5 h6 h7 h8 ⟨h9.1,h9.2.1,fun j a i c v a1 a2 a3=>(h9.2.2 j a i c v a1 a2 a3).sw hm hA⟩
  |_=>exact hb.elim
 |map es=>cases mb with
  |gW b=>exact hb
  |_=>exact hb.elim
 |nP cs=>cases mb with
  |gW b=>exact hb
  |_=>exact hb.elim
 |iT es=>cases mb with
  |jL b=>exact⟨hn b rfl hb.1,hb.2⟩
  |_=>exact hb.elim
 |dD r n seen=>cases mb with
  |gW b=>
   obtain⟨c,h1,h2,h3⟩:=hb;refine⟨c,h1,?_,fun c' hc=>?_⟩
   .rcases hm r with g|⟨c',g,g2⟩|⟨c',g,g2⟩
    .rw[g];exact h2
    .rw[g2];rfl
    .rw[g2];rfl
   .rcases hm r with g|⟨c2,g,g2⟩|⟨c2,g,g2⟩
    .exact h3 c' (by rw[<-g];exact hc)
    .rw[g2]at hc;simp at hc;subst hc;exact h3 c2 (.inl g)
    .rw[g2]at hc;simp at hc;subst hc;exact h3 c2 (.inr g)
  |_=>exact hb.elim
 |mark=>cases mb with
  |gW b=>exact hb
  |_=>exact hb.elim
 |loop rd f nt env ps a c kC=>cases mb with
  |gW b=>obtain⟨e',h1,h2⟩:=hb;exact⟨e',h1,h2.sw hm hA⟩
  |_=>exact hb.elim
 |gone=>cases mb with
  |gone=>trivial
  |_=>exact hb.elim
end
theorem afU{call fv v xs H H1 W r cs NY}(h0:H[r]? = some (.cells cs))(h9:H1[r]? = some (.cells NY))(hro:Kt (H1.drop H.length)=true)(hs:XZ X P call fv xs (H.set r (.aG cs)) v (H1.set r (.aG NY)) W):XZ X P call fv xs H v H1 fun k=>W k/\k≠r:=fun A m h tf rJ hr hf hx=>by
 obtain⟨mb0,q1,q2⟩:=hr.at_ r _ h0;have hrl:r<H.length:=(a0u.1 h0).1;have hrm:r<m.length:=by rw[hr.len];exact hrl
 cases mb0 with
 |gW c=>
  obtain⟨cs',q3,q4⟩:=q2;have DY:c∈bn m:=bg q1 rfl;have hch:=(a0u.1 q3).1;have hm:SwM m (m.set r (.jL c)):=fun i=>by
   by_cases e:i=r
   .subst e;exact .inr (.inl ⟨c,q1,by rw[a1C hrm]⟩)
   .exact .inl (by rw[a1w (fun h=>e h.symm)])
  have old:∀{i b:Nat},H6 (m.set r (.jL c)) i b->i≠r/\H6 m i b:=fun{i b} ho=>by
   obtain⟨mb,a1,a2⟩:=ho;by_cases e:i=r
   .subst e;rw[a1C hrm]at a1;cases a1;cases a2
   .rw[a1w (fun h=>e h.symm)]at a1;exact⟨e,mb,a1,a2⟩
  have mg:∀b,b∈bn (m.set r (.jL c))->b∈bn m/\b≠c:=fun b hb=>by obtain⟨i,hi⟩:=lF hb;obtain⟨e,mb,a1,a2⟩:=old hi;refine⟨bg a1 a2,fun e2=>?_⟩;subst e2;exact e (jh hr.nodup a1 q1 a2 rfl)
  have hA:∀b,AA A m b->AA (fun b=>A b/\b≠c) (m.set r (.jL c)) b:=fun b hb=>⟨⟨hb.1,fun e=>hb.2 (e▸DY)⟩,fun h=>hb.2 (mg b h).1⟩;have wF:HR X P (fun b=>A b/\b≠c) (m.set r (.jL c)) (H.set r (.aG cs)) h:=by
   refine⟨by simp[hr.len],fun i b hi=>?_,jT fun i j d a1 a2=>?_,fun b hb=>⟨hr.up b hb,by omega⟩,fun b hb=>⟨hr.DX b (mg b hb).1,(mg b hb).2⟩⟩
   .by_cases e:i=r
    .subst e;rw[a1C hrl]at hi;cases hi;exact⟨.jL c,by rw[a1C hrm],fun h=>(mg c h).2 rfl,cs',q3,q4.sw hm hA⟩
    .rw[a1w (fun h=>e h.symm)]at hi;obtain⟨mb,g1,g2⟩:=hr.at_ i b hi;exact⟨mb,by rw[a1w (fun h=>e h.symm)];exact g1,g2.sw hm hA fun d _ hn h=>hn (mg d h).1⟩
   .obtain⟨_,ma,u1,u2⟩:=old a1;obtain⟨_,mc,v1,v2⟩:=old a2;exact jh hr.nodup u1 v1 u2 v2
  obtain⟨w,h1,ws,m1,c1,c2,c3,c4,c5,c6⟩:=hs (fun b=>A b/\b≠c) (m.set r (.jL c)) h tf rJ wF (hf.sw hm hA) (hx.sw hm hA)
  .have afV:r<H1.length:=(a0u.1 h9).1;obtain⟨mb1,e1,e2⟩:=c2.at_ r (.aG NY) (by rw[a1C afV]);have e3:=c5 r (.jL c) (by rw[a1C hrm]);have e4:mb1=.jL c:=by
    rcases e3 with e3|e3<;>rw[e1]at e3<;>cases e3
    .rfl
    .exact e2.elim
   subst e4;obtain⟨p0,ET,p1,p2⟩:=e2;have KE:r<m1.length:=(a0u.1 e1).1;have hm1:SwM m1 (m1.set r (.gW c)):=fun i=>by
    by_cases e:i=r
    .subst e;exact .inr (.inr ⟨c,e1,by rw[a1C KE]⟩)
    .exact .inl (by rw[a1w (fun h=>e h.symm)])
   have at1:∀{i:Nat} {mb:MB},i≠r->(m1.set r (.gW c))[i]? = some mb->m1[i]? = some mb:=fun{i mb} e h=>by rw[a1w (fun h=>e h.symm)]at h;exact h
   have CZ:∀b,b∈bn (m1.set r (.gW c))->b=c\/b∈bn m1:=fun b hb=>by
    obtain⟨i,mb,a1,a2⟩:=lF hb;by_cases e:i=r
    .subst e;rw[a1C KE]at a1;cases a1;cases a2;exact .inl rfl
    .exact .inr (bg (at1 e a1) a2)
   have hA1:∀b,AA (fun b=>A b/\b≠c) m1 b->AA A (m1.set r (.gW c)) b:=fun b hb=>⟨hb.1.1,fun h=>by
    rcases CZ b h with e|e
    .exact hb.1.2 e
    .exact hb.2 e⟩
   refine⟨w,h1,ws,m1.set r (.gW c),c1,⟨by rw[a5A,c2.len,a5A],fun i b hi=>?_,jT fun i j d a1 a2=>?_,fun b hb=>(c2.up b hb).1,fun b hb=>?_⟩,c3.sw hm1 hA1,⟨c4.len,fun b hb hn=>c4.same b hb fun h=>hn (mg b h).1,fun b hb=>?_,c4.grow⟩,fun i mb hi=>?_,fun b hb=>?_⟩
   .by_cases e:i=r
    .subst e;rw[h9]at hi;cases hi;exact⟨.gW c,by rw[a1C KE],ET,p1,p2.sw hm1 hA1⟩
    .obtain⟨mb,g1,g2⟩:=c2.at_ i b (by rw[a1w (fun h=>e h.symm)];exact hi);refine⟨mb,by rw[a1w (fun h=>e h.symm)];exact g1,g2.sw hm1 hA1 fun d hd hn hd2=>?_⟩;subst hd;rcases CZ d hd2 with e5|e5
     .subst e5;rcases a4O i m.length with aS|CY
      .have LU:(m.set r (.jL d))[i]? = m[i]?:=(by rw[a1w (fun h=>e h.symm)]);have hmi:m[i]? = some (.jL d):=by
        rcases c5 i m[i] (by rw[LU];exact a0A aS)with e6|e6<;>rw[g1]at e6<;>simp only[a08]at e6
        .rw[a0A aS,<-e6]
        .cases e6
       have hlH:i<H.length:=by rw[<-hr.len];exact aS
       obtain⟨mb9,e7,e8⟩:=hr.at_ i _ (a0A hlH);rw[hmi]at e7;cases e7;generalize H[i]=b9 at e8;cases b9<;>first|exact e8.elim|exact e8.1 DY
      .have e6:(H1.drop H.length)[i-H.length]? = some b:=by rw[a5u,<-hi];congr 1;rw[hr.len]at CY;omega
       have e7:=O4 hro e6;cases b<;>first|exact g2.elim|cases e7
     .exact hn e5
   .obtain⟨ma,u1,u2⟩:=a1;obtain⟨mc,v1,v2⟩:=a2;by_cases e:i=r<;>by_cases e':j=r
    .rw[e,e']
    .subst e;rw[a1C KE]at u1;cases u1;cases u2;exact absurd (bg (at1 e' v1) v2) p0
    .subst e';rw[a1C KE]at v1;cases v1;cases v2;exact absurd (bg (at1 e u1) u2) p0
    .exact jh c2.nodup (at1 e u1) (at1 e' v1) u2 v2
   .rcases CZ b hb with e|e
    .subst e;exact hr.DX _ DY
    .exact(c2.DX b e).1
   .rcases CZ b hb with e|e
    .subst e;exact .inl DY
    .rcases c4.new b e with g|g
     .exact .inl (mg b g).1
     .exact .inr g
   .by_cases e:i=r
    .subst e;rw[q1]at hi;cases hi;exact .inl (by rw[a1C KE])
    .rw[a1w (fun h=>e h.symm)];exact c5 i mb (by rw[a1w (fun h=>e h.symm)];exact hi)
   .obtain⟨k,k1,k2⟩:=c6 b hb;obtain⟨k3,k4⟩:=old k2;exact⟨k,⟨k1,k3⟩,k4⟩
 |_=>exact q2.elim
theorem aaY{call fv v xs H H1 W r es es1}(h0:H[r]? = some (.map es))(h9:H1[r]? = some (.map es1))(hro:Kt (H1.drop H.length)=true)(hs:XZ X P call fv xs (H.set r (.iT es)) v (H1.set r (.iT es1)) W):XZ X P call fv xs H v H1 fun k=>W k/\k≠r:=fun A m h tf rJ hr hf hx=>by
 obtain⟨mb0,q1,q2⟩:=hr.at_ r _ h0;have hrl:r<H.length:=(a0u.1 h0).1;have hrm:r<m.length:=by rw[hr.len];exact hrl
 cases mb0 with
 |gW c=>
  obtain⟨cs',q3,q4⟩:=q2;have DY:c∈bn m:=bg q1 rfl;have hch:=(a0u.1 q3).1;have hm:SwM m (m.set r (.jL c)):=fun i=>by
   by_cases e:i=r
   .subst e;exact .inr (.inl ⟨c,q1,by rw[a1C hrm]⟩)
   .exact .inl (by rw[a1w (fun h=>e h.symm)])
  have old:∀{i b:Nat},H6 (m.set r (.jL c)) i b->i≠r/\H6 m i b:=fun{i b} ho=>by
   obtain⟨mb,a1,a2⟩:=ho;by_cases e:i=r
   .subst e;rw[a1C hrm]at a1;cases a1;cases a2
   .rw[a1w (fun h=>e h.symm)]at a1;exact⟨e,mb,a1,a2⟩
  have mg:∀b,b∈bn (m.set r (.jL c))->b∈bn m/\b≠c:=fun b hb=>by obtain⟨i,hi⟩:=lF hb;obtain⟨e,mb,a1,a2⟩:=old hi;refine⟨bg a1 a2,fun e2=>?_⟩;subst e2;exact e (jh hr.nodup a1 q1 a2 rfl)
  have hA:∀b,AA A m b->AA (fun b=>A b/\b≠c) (m.set r (.jL c)) b:=fun b hb=>⟨⟨hb.1,fun e=>hb.2 (e▸DY)⟩,fun h=>hb.2 (mg b h).1⟩;have wF:HR X P (fun b=>A b/\b≠c) (m.set r (.jL c)) (H.set r (.iT es)) h:=by
   refine⟨by simp[hr.len],fun i b hi=>?_,jT fun i j d a1 a2=>?_,fun b hb=>⟨hr.up b hb,by omega⟩,fun b hb=>⟨hr.DX b (mg b hb).1,(mg b hb).2⟩⟩
   .by_cases e:i=r
    .subst e;rw[a1C hrl]at hi;cases hi;exact⟨.jL c,by rw[a1C hrm],fun h=>(mg c h).2 rfl,cs',q3,q4⟩
    .rw[a1w (fun h=>e h.symm)]at hi;obtain⟨mb,g1,g2⟩:=hr.at_ i b hi;exact⟨mb,by rw[a1w (fun h=>e h.symm)];exact g1,g2.sw hm hA fun d _ hn h=>hn (mg d h).1⟩
   .obtain⟨_,ma,u1,u2⟩:=old a1;obtain⟨_,mc,v1,v2⟩:=old a2;exact jh hr.nodup u1 v1 u2 v2
  obtain⟨w,h1,ws,m1,c1,c2,c3,c4,c5,c6⟩:=hs (fun b=>A b/\b≠c) (m.set r (.jL c)) h tf rJ wF (hf.sw hm hA) (hx.sw hm hA)
  .have afV:r<H1.length:=(a0u.1 h9).1;obtain⟨mb1,e1,e2⟩:=c2.at_ r (.iT es1) (by rw[a1C afV]);have e3:=c5 r (.jL c) (by rw[a1C hrm]);have e4:mb1=.jL c:=by
    rcases e3 with e3|e3<;>rw[e1]at e3<;>cases e3
    .rfl
    .exact e2.elim
   subst e4;obtain⟨p0,ET,p1,p2⟩:=e2;have KE:r<m1.length:=(a0u.1 e1).1;have hm1:SwM m1 (m1.set r (.gW c)):=fun i=>by
    by_cases e:i=r
    .subst e;exact .inr (.inr ⟨c,e1,by rw[a1C KE]⟩)
    .exact .inl (by rw[a1w (fun h=>e h.symm)])
   have at1:∀{i:Nat} {mb:MB},i≠r->(m1.set r (.gW c))[i]? = some mb->m1[i]? = some mb:=fun{i mb} e h=>by rw[a1w (fun h=>e h.symm)]at h;exact h
   have CZ:∀b,b∈bn (m1.set r (.gW c))->b=c\/b∈bn m1:=fun b hb=>by
    obtain⟨i,mb,a1,a2⟩:=lF hb;by_cases e:i=r
    .subst e;rw[a1C KE]at a1;cases a1;cases a2;exact .inl rfl
    .exact .inr (bg (at1 e a1) a2)
   have hA1:∀b,AA (fun b=>A b/\b≠c) m1 b->AA A (m1.set r (.gW c)) b:=fun b hb=>⟨hb.1.1,fun h=>by
    rcases CZ b h with e|e
    .exact hb.1.2 e
    .exact hb.2 e⟩
   refine⟨w,h1,ws,m1.set r (.gW c),c1,⟨by rw[a5A,c2.len,a5A],fun i b hi=>?_,jT fun i j d a1 a2=>?_,fun b hb=>(c2.up b hb).1,fun b hb=>?_⟩,c3.sw hm1 hA1,⟨c4.len,fun b hb hn=>c4.same b hb fun h=>hn (mg b h).1,fun b hb=>?_,c4.grow⟩,fun i mb hi=>?_,fun b hb=>?_⟩
   .by_cases e:i=r
    .subst e;rw[h9]at hi;cases hi;exact⟨.gW c,by rw[a1C KE],ET,p1,p2⟩
    .obtain⟨mb,g1,g2⟩:=c2.at_ i b (by rw[a1w (fun h=>e h.symm)];exact hi);refine⟨mb,by rw[a1w (fun h=>e h.symm)];exact g1,g2.sw hm1 hA1 fun d hd hn hd2=>?_⟩;subst hd;rcases CZ d hd2 with e5|e5
     .subst e5;rcases a4O i m.length with aS|CY
      .have LU:(m.set r (.jL d))[i]? = m[i]?:=(by rw[a1w (fun h=>e h.symm)]);have hmi:m[i]? = some (.jL d):=by
        rcases c5 i m[i] (by rw[LU];exact a0A aS)with e6|e6<;>rw[g1]at e6<;>simp only[a08]at e6
        .rw[a0A aS,<-e6]
        .cases e6
       have hlH:i<H.length:=by rw[<-hr.len];exact aS
       obtain⟨mb9,e7,e8⟩:=hr.at_ i _ (a0A hlH);rw[hmi]at e7;cases e7;generalize H[i]=b9 at e8;cases b9<;>first|exact e8.elim|exact e8.1 DY
      .have e6:(H1.drop H.length)[i-H.length]? = some b:=by rw[a5u,<-hi];congr 1;rw[hr.len]at CY;omega
       have e7:=O4 hro e6;cases b<;>first|exact g2.elim|cases e7
     .exact hn e5
   .obtain⟨ma,u1,u2⟩:=a1;obtain⟨mc,v1,v2⟩:=a2;by_cases e:i=r<;>by_cases e':j=r
    .rw[e,e']
    .subst e;rw[a1C KE]at u1;cases u1;cases u2;exact absurd (bg (at1 e' v1) v2) p0
    .subst e';rw[a1C KE]at v1;cases v1;cases v2;exact absurd (bg (at1 e u1) u2) p0
    .exact jh c2.nodup (at1 e u1) (at1 e' v1) u2 v2
   .rcases CZ b hb with e|e
    .subst e;exact hr.DX _ DY
    .exact(c2.DX b e).1
   .rcases CZ b hb with e|e
    .subst e;exact .inl DY
    .rcases c4.new b e with g|g
     .exact .inl (mg b g).1
     .exact .inr g
   .by_cases e:i=r
    .subst e;rw[q1]at hi;cases hi;exact .inl (by rw[a1C KE])
    .rw[a1w (fun h=>e h.symm)];exact c5 i mb (by rw[a1w (fun h=>e h.symm)];exact hi)
   .obtain⟨k,k1,k2⟩:=c6 b hb;obtain⟨k3,k4⟩:=old k2;exact⟨k,⟨k1,k3⟩,k4⟩
 |_=>exact q2.elim
theorem a0B{call fv v xs W}:∀{rs} {H H1 Hr Rt},roB rs H H1=some (Hr,Rt)->Kt (H1.drop H.length)=true->XZ X P call fv xs Hr v Rt W->XZ X P call fv xs H v H1 fun k=>W k/\k∉rs
 | [],H,H1,Hr,Rt,h1,hn,hs=>by simp only[roB,a08,a1d]at h1;obtain⟨rfl,rfl⟩:=h1;intro A m h tf rJ a b c;obtain⟨w,h1,ws,m1,c1,c2,c3,c4,c5,c6⟩:=hs A m h tf rJ a b c;exact⟨w,h1,ws,m1,c1,c2,c3,c4,c5,fun b hb=>by obtain⟨k,k1,k2⟩:=c6 b hb;exact⟨k,⟨k1,by simp⟩,k2⟩⟩
 |r::rs,H,H1,Hr,Rt,h1,hn,hs=>by
  simp only[roB]at h1;split at h1
  .rename_i cs NY e1 e2;have aS:r<H.length:=(a0u.1 e1).1;have:=afU e1 e2 hn (a0B h1 (by rw[a5A,List.drop_set_of_lt aS];exact hn) hs);intro A m h tf rJ a b c;obtain⟨w,h1,ws,m1,c1,c2,c3,c4,c5,c6⟩:=this A m h tf rJ a b c;exact⟨w,h1,ws,m1,c1,c2,c3,c4,c5,fun b hb=>by obtain⟨k,⟨⟨k1,k3⟩,k4⟩,k2⟩:=c6 b hb;exact⟨k,⟨k1,by simp[k3,k4]⟩,k2⟩⟩
  .rename_i cs NY e1 e2;have aS:r<H.length:=(a0u.1 e1).1;have:=aaY e1 e2 hn (a0B h1 (by rw[a5A,List.drop_set_of_lt aS];exact hn) hs);intro A m h tf rJ a b c;obtain⟨w,h1,ws,m1,c1,c2,c3,c4,c5,c6⟩:=this A m h tf rJ a b c;exact⟨w,h1,ws,m1,c1,c2,c3,c4,c5,fun b hb=>by obtain⟨k,⟨⟨k1,k3⟩,k4⟩,k2⟩:=c6 b hb;exact⟨k,⟨k1,by simp[k3,k4]⟩,k2⟩⟩
  cases h1
theorem Y0{α rs}:∀{ks:List α} {i p} {k},ks[p]? = some k->i+p∉rs->k∈a4g rs i ks
 | [],_,_,_,h,_=>by simp at h
 |a::ks,i,0,k,h,hn=>by simp only[a2I,a08]at h;subst h;simp only[a4g];rw[a0S (by simpa using hn)];exact a3G
 |a::ks,i,p+1,k,h,hn=>by
  have:=Y0 (ks:=ks) (i:=i+1) (p:=p) (k:=k) (by simpa using h) (by rwa [Nat.add_right_comm,aad] );simp only[a4g];split
  .exact this
  exact a3A _ this
theorem KF(hX:bT X P){call ks H' Hp H H1 Rt fv fv' v v' xs xs' W}(hs:XZ X P call fv xs H v H1 W)(jJ:ks.Nodup) (hp:DU H' ks=some Hp) (hH:oD (xJ ks) Hp=some H) (hf:fQ (xJ ks) fv'=some fv) (hx:fQ.ql (xJ ks) xs'=some xs)(hv:fQ (bk ks H'.length) v=some v') (hH1:oD (bk ks H'.length) H1=some Rt) (hro:Kt (H1.drop ks.length)=true) :∀(A) (m') (h) (tf) (rJ),HR X P A m' H' h->VR X P (AA A m') m' h fv' tf->bZ X P (AA A m') m' h xs' rJ ->∃w h1 ws m1,call tf rJ h=some (w,h1,ws)/\HR X P A m1 (putAt ks Rt H'++Rt.drop ks.length) h1/\VR X P (AA A m1) m1 h1 v' w/\Fr m' h m1 h1/\Up m' m1/\∀b∈ws,∃p k,ks[p]? = some k/\W p/\H6 m' k b:=by
 intro A m' h tf rJ hr hf' Gv;have hpg:=EY hp;have hHg:=uI hH;have hkH:∀{p k:Nat},ks[p]? = some k->k<m'.length:=fun{p k} hk=>by obtain⟨b,q1,_⟩:=hpg.2 hk;rw[hr.len];exact(a0u.1 q1).1
 have hkm:∀k∈ks,k<m'.length:=fun k hk=>by obtain⟨i,hi⟩:=a9z hk;exact hkH hi
 let m:List MB:=ks.map fun k=>m'.getD k .gone
 have hm:∀{p k:Nat},ks[p]? = some k->m[p]? = m'[k]?:=fun{p k} hk=>by show(ks.map _)[p]? = _;rw[a5w,hk];have:=hkH hk;simp[a2J,this]
 have a7r:m.length=ks.length:=a4P ..;have TW:∀{p:Nat} {mb:MB},m[p]? = some mb->∃k,ks[p]? = some k/\m'[k]? = some mb:=fun{p mb} hpm=>by
  have:p<ks.length:=by rw[<-a7r];exact(a0u.1 hpm).1
  have hk:=a0A this;exact⟨_,hk,by rw[<-hm hk];exact hpm⟩
 have mg:∀b,b∈bn m->b∈bn m':=fun b hb=>by obtain⟨j,mb,q1,q2⟩:=lF hb;obtain⟨k,_,q3⟩:=TW q1;exact bg q3 q2
 have afW:∀{i:Nat} {mb:MB} {b:Nat},i∉ks->m'[i]? = some mb->mb.own=some b->b∉bn m:=fun{i mb b} hi h1 h2 hb=>by obtain⟨j,mc,q1,q2⟩:=lF hb;obtain⟨k,q3,q4⟩:=TW q1;have:=jh hr.nodup h1 q4 h2 q2;subst this;exact hi (a5E q3)
 let A2:Nat->Prop:=fun b=>A b/\(b∈bn m'->b∈bn m)
 have hA:∀b,AA A m' b->AA A2 m b:=fun b hb=>⟨⟨hb.1,fun h9=>absurd h9 hb.2⟩,fun h9=>hb.2 (mg b h9)⟩;have hg:∀i j,xJ ks i=some j->m[j]? = m'[i]?:=fun i j Bg=>hm (PZ Bg);have wF:HR X P A2 m H h:=by
  refine⟨by rw[a7r,hHg.1,hpg.1],fun j b hj=>?_,jT fun i j c q1 q2=>?_,fun b hb=>⟨hr.up b hb,fun h9=>absurd (hr.inb h9) (by omega)⟩,fun b hb=>⟨hr.DX b (mg b hb),fun _=>hb⟩⟩
  .obtain⟨b0,q1,q2⟩:=hHg.2 hj;have tX:j<ks.length:=by rw[<-hpg.1];exact(a0u.1 q1).1
   have hk:=a0A tX;obtain⟨b9,q5,q6⟩:=hpg.2 hk;rw[q1]at q6;cases q6;obtain⟨mb,q3,q4⟩:=hr.at_ _ _ q5;exact⟨mb,by rw[hm hk];exact q3,EX hX hg hA (fun c _ h9 h8=>h9 (mg c h8)) q4 q2⟩
  .obtain⟨ma,a1,a2⟩:=q1;obtain⟨mc,c1,c2⟩:=q2;obtain⟨k,a3,a4⟩:=TW a1;obtain⟨l,c3,c4⟩:=TW c1;have e:=jh hr.nodup a4 c4 a2 c2;subst e;exact(List.getElem?_inj (a0u.1 a3).1 jJ).1 (by rw[a3,c3])
 obtain⟨w,h1,ws,m1,c1,c2,c3,c4,c5,c6⟩:=hs A2 m h tf rJ wF (EW hg hA hX hf' hf) (zY hX hg hA Gv hx);have a7s:ks.length<=m1.length:=by
  rcases abG ks.length with e|e
  .omega
  .have aS:ks.length-1<m.length:=(by omega);have:=c5 (ks.length-1) m[ks.length-1] (a0A aS);rcases this with g|g<;>(have:=(a0u.1 g).1;omega)
 let m1':List MB:=putAt ks m1 m'++m1.drop ks.length
 have hn:m'.length=H'.length:=hr.len;have aaZ:(putAt ks m1 m').length=m'.length:=uJ;have a2p:∀{p k:Nat},ks[p]? = some k->m1'[k]? = m1[p]?:=fun{p k} hk=>by show(putAt ks m1 m'++_)[k]? = _;rw[a0P (by rw[aaZ];exact hkH hk),Q8 jJ hkm a7s hk]
 have a0C:∀{i:Nat},i<m'.length->i∉ks->m1'[i]? = m'[i]?:=fun{i} hi hk=>by show(putAt ks m1 m'++_)[i]? = _;rw[a0P (by rw[aaZ];exact hi),KD hk]
 have a0D:∀{j:Nat},ks.length<=j->m1'[m'.length+(j-ks.length)]? = m1[j]?:=fun{j} hj=>by show(putAt ks m1 m'++_)[_]? = _;rw[a1p (by rw[aaZ];omega),aaZ,Nat.add_sub_cancel_left,a5u];congr 1;omega
 have hgb:∀j i,bk ks H'.length j=some i->m1'[i]? = m1[j]?:=fun j i Bg=>by
  unfold bk at Bg;split at Bg
  .rename_i k hk;cases Bg;exact a2p hk
  .rename_i hk;cases Bg;rw[<-hn];exact a0D (by rw[List.getElem?_eq_none_iff]at hk;exact hk)
 have wE:∀{i:Nat} {mb:MB},m1'[i]? = some mb->(∃p,ks[p]? = some i/\m1[p]? = some mb)\/(i<m'.length/\i∉ks/\m'[i]? = some mb)\/(∃j,ks.length<=j/\i=m'.length+(j-ks.length)/\m1[j]? = some mb):=fun{i mb} hi=>by
  rcases a4O i m'.length with aS|CY
  .by_cases hk:i∈ks
   .obtain⟨p,hp⟩:=a9z hk;exact .inl ⟨p,hp,by rw[<-a2p hp];exact hi⟩
   .exact .inr (.inl ⟨aS,hk,by rw[<-a0C aS hk];exact hi⟩)
  .refine .inr (.inr ⟨i-m'.length+ks.length,by omega,by omega,?_⟩);rw[<-a0D (by omega)];rw[<-hi];congr 1;omega
 have yN:∀{b:Nat},b∈bn m1'->b∈bn m1\/∃i mb,i∉ks/\m'[i]? = some mb/\mb.own=some b:=fun{b} hb=>by
  obtain⟨i,mb,q1,q2⟩:=lF hb;rcases wE q1 with⟨p,_,q3⟩|⟨_,q3,q4⟩|⟨j,_,_,q3⟩
  .exact .inl (bg q3 q2)
  .exact .inr ⟨i,mb,q3,q4,q2⟩
  .exact .inl (bg q3 q2)
 have ab1:∀{i b:Nat} {mb:MB},i∉ks->m'[i]? = some mb->mb.own=some b->b∉bn m1:=fun{i b mb} h1 h2 h3 h4=>by
  rcases c4.new b h4 with g|g
  .exact afW h1 h2 h3 g
  .exact absurd (hr.inb (bg h2 h3)) (by omega)
 have hA3:∀b,AA A2 m1 b->AA A m1' b:=fun b hb=>⟨hb.1.1,fun h9=>by
  rcases yN h9 with g|⟨i,mb,g1,g2,g3⟩
  .exact hb.2 g
  .exact afW g1 g2 g3 (hb.1.2 (bg g2 g3))⟩
 have hF:Fr m' h m1' h1:=⟨c4.len,fun b hb hnb=>c4.same b hb fun h9=>hnb (mg b h9),fun b hb=>by
  rcases yN hb with g|⟨i,mb,g1,g2,g3⟩
  .rcases c4.new b g with g|g
   .exact .inl (mg b g)
   .exact .inr g
  .exact .inl (bg g2 g3),c4.grow⟩
 have hU:Up m' m1':=fun i mb hi=>by
  have aS:=(a0u.1 hi).1;by_cases hk:i∈ks
  .obtain⟨p,hp⟩:=a9z hk;rw[a2p hp];exact c5 p mb (by rw[hm hp];exact hi)
  .exact .inl (by rw[a0C aS hk];exact hi)
 have afX:=uI hH1;have akc:m1.length=H1.length:=c2.len;refine⟨w,h1,ws,m1',c1,⟨?_,fun i b hi=>?_,?_,fun b hb=>(c2.up b hb).1,fun b hb=>?_⟩,EW hgb hA3 hX c3 hv,hF,hU,fun b hb=>?_⟩
 .show(putAt ks m1 m'++_).length=_;rw[a1v,a1v,uJ,uJ,a3Q,a3Q,afX.1,akc,hn]
 .have akd:ks.length<=Rt.length:=by rw[afX.1,<-akc];exact a7s
  have aqv:∀k∈ks,k<H'.length:=fun k hk=>by rw[<-hn];exact hkm k hk
  have back:∀{j:Nat} {b:PB X.Γ},Rt[j]? = some b->∃mb,m1[j]? = some mb/\BR X P (AA A m1') m1' h1 b mb:=fun{j b} hj=>by
   obtain⟨b0,q1,q2⟩:=afX.2 hj;obtain⟨mb,q3,q4⟩:=c2.at_ j b0 q1;refine⟨mb,q3,EX hX hgb hA3 (fun c e h9 h8=>?_) q4 q2⟩;rcases yN h8 with g|⟨i,Nh,g1,g2,g3⟩
   .exact h9 g
   .subst e;rcases a4O j ks.length with hj1|hj1
    .have hk:=a0A hj1;have tX:j<m.length:=by rw[a7r];exact hj1
     have hmj:m[j]? = some (.jL c):=by
      rcases c5 j _ (a0A tX)with e|e<;>rw[q3]at e<;>simp only[a08]at e
      .rw[a0A tX,<-e]
      .cases e
     obtain⟨k,e1,e2⟩:=TW hmj;obtain⟨b9,e3,_⟩:=hpg.2 e1;obtain⟨mb9,e4,e5⟩:=hr.at_ _ _ e3;rw[e2]at e4;cases e4;cases b9<;>first|exact e5.elim|exact e5.1 (bg g2 g3)
    .have e1:(H1.drop ks.length)[j-ks.length]? = some b0:=by rw[a5u,<-q1];congr 1;omega
     have e2:=O4 hro e1;cases b0<;>first|exact q4.elim|cases e2
  rcases a4O i H'.length with aS|CY
  .rw[a0P (by rw[uJ];exact aS)]at hi;by_cases hk:i∈ks
   .obtain⟨p,hpk⟩:=a9z hk;rw[Q8 jJ aqv akd hpk]at hi;obtain⟨mb,q1,q2⟩:=back hi;exact⟨mb,by rw[a2p hpk];exact q1,q2⟩
   .rw[KD hk]at hi;obtain⟨mb,q1,q2⟩:=hr.at_ i b hi;refine⟨mb,by rw[a0C (by rw[hn];exact aS) hk];exact q1,q2.step hF hU fun c hc=>?_⟩;exact c4.same c (hr.inb (bg q1 hc)) (afW hk q1 hc)
  .rw[a1p (by rw[uJ];exact CY),uJ,a5u]at hi;obtain⟨mb,q1,q2⟩:=back hi;refine⟨mb,?_,q2⟩;have:=a0D (j:=ks.length+(i-H'.length)) (by omega);rw[q1]at this;rw[<-this];congr 1;omega
 .refine jT fun i j c q1 q2=>?_;obtain⟨ma,a1,a2⟩:=q1;obtain⟨mc,b1,b2⟩:=q2;rcases wE a1 with⟨p,a3,a4⟩|⟨a3,a4,a5⟩|⟨p,a3,a4,a5⟩<;>rcases wE b1 with⟨q,b3,b4⟩|⟨b3,b4,b5⟩|⟨q,b3,b4,b5⟩
  .have:=jh c2.nodup a4 b4 a2 b2;subst this;rw[a3]at b3;cases b3;rfl
  .exact absurd (bg a4 a2) (ab1 b4 b5 b2)
  .have:=jh c2.nodup a4 b5 a2 b2;subst this;have:=(a0u.1 a3).1;omega
  .exact absurd (bg b4 b2) (ab1 a4 a5 a2)
  .exact jh hr.nodup a5 b5 a2 b2
  .exact absurd (bg b5 b2) (ab1 a4 a5 a2)
  .have:=jh c2.nodup a5 b4 a2 b2;subst this;have:=(a0u.1 b3).1;omega
  .exact absurd (bg a5 a2) (ab1 b4 b5 b2)
  .have:=jh c2.nodup a5 b5 a2 b2;subst this;omega
 .rcases yN hb with g|⟨i,mb,g1,g2,g3⟩
  .exact(c2.DX b g).1
  .exact hr.DX b (bg g2 g3)
 .obtain⟨j,hw,mb,q1,q2⟩:=c6 b hb;obtain⟨k,q3,q4⟩:=TW q1;exact⟨j,k,q3,hw,mb,q4,q2⟩
end
open Go Tw
section
variable{X:mX}{P:LI1}{A B F:Nat->Prop}{m m':List MB}{h h':List HB}{H H':List (PB X.Γ)}
variable{call:dM}{gG:gU X.Γ}{site:Nat->Bool}{ρ:Type}{y:ρ}
def a7t(X:mX)(P:LI1)(A:Nat->Prop)(m:List MB)(call:dM)(site:Nat->Bool)(ts:St)(o:Oper)(k:PE X.Γ->bJ X.Γ->PI->PT X.Γ->OT ρ)(y:ρ):Prop:=
 ∃pe ps1 pi IY,OpR X P A m call site ts o pe ps1 pi/\(k pe ps1 pi IY).Ends y
theorem xQ{ps:bJ X.Γ}{ts:St}(hR:wu X P A m ps ts){o:Oper}{k:PE X.Γ->bJ X.Γ->PI->PT X.Γ->OT ρ}{r:Option (TV×St×zl)}{v:PV X.Γ}{H1:List (PB X.Γ)}{pi:PI}{an:PT X.Γ}(hm:XR X P A m ts r v H1 pi)(ho:qo P call site ts o=r.map fun(v,s,i)=>(.val v,s,i)) (hk:(k (.val v) { ps with heap:=H1 } pi an).Ends y):a7t X P A m call site ts o k y:=by
 obtain⟨w,h1,ti,m1,rfl,e1,e2,e3,e4,e5,e6⟩:=hm;exact⟨.val v,_,_,_,⟨.val w,_,ti,m1,ho,rfl,rfl,hR.step e1 e3 e4,e2,e3,e4,e5,e6⟩,hk⟩
theorem jl{ps ts}(hR:wu X P A m ps ts){o k v w pi an}(hv:VR X P (AA A m) m ts.heap v w)(ho:qo P call site ts o=some (.val w,ts,dh))(hk:(k (.val v) ps pi an).Ends y):a7t X P A m call site ts o k y:=
 ⟨.val v,_,_,_,vN hR ho (oK hv),hk⟩
theorem afY{op a b v ta tb ps t x z}(ha:VR X P A m h a ta)(hb:VR X P A m h b tb)(hd:afF op a b=some (v,ps))(hp:∀p∈ps,p) :∃w,uj P op t x z ta tb=some w/\VR X P A m h v w:=by
 unfold afF at hd;split at hd
 .cases ha with
  |gone hi _ _=>simp[bF]at hi
  |int=>
   cases hb with
   |gone hi _ _=>simp[bF]at hi
   |int=>
    split at hd
    .split at hd
     .rename_i e;subst e;cases hd;exact⟨_,a6S (hp _ (.head _)),.int _ _⟩
     .cases hd
    .split at hd
     .rename_i e;subst e;cases hd;exact⟨_,a6T (hp _ (.head _)),.int _ _⟩
     .cases hd
    .cases hd;exact⟨_,a6Q (hp _ (.head _)),.int _ _⟩
    .cases hd;exact⟨_,a6R (hp _ (.head _)),.int _ _⟩
    .cases hd
 .cases hd
theorem afZ(hX:bT X P)(hO:jX X P call gG){ps ts}(hR:wu X P A m ps ts){o an k}(hk:(afI X P gG (cZ X P call) site ps o an k).Ends y):a7t X P A m call site ts o k y:=by
 have hE:=hR.env;unfold afI at hk;split at hk
 .
  rename_i x ho;split at hk
  .rename_i v hv;obtain⟨e,h1,h2⟩:=nS hE hv;exact⟨_,_,_,_,vN hR (by simp only[qo,ho,h1,a1l]) h2,hk⟩
  exact hk.elim
 .rename_i x ho;split at hk
  .rename_i v hv;obtain⟨e,h1,h2⟩:=nS hE hv;exact⟨_,_,_,_,vN hR (by simp only[qo,ho,h1,a1l]) h2,hk⟩
  exact hk.elim
 .
  rename_i c a b ho;split at hk
  .rename_i u hu;obtain⟨tu,h1,h2⟩:=XO hE hu;obtain⟨t,IY,rfl,hk⟩:=a0y hk h2;split at hk
   .rename_i v hv;obtain⟨e,g1,g2⟩:=nS hE hv;exact⟨_,_,_,_,vN (hR.D6 h1) (by simp only[qo,ho,h1,g1,a1l]) g2,hk⟩
   exact hk.elim
  exact hk.elim
 .
  rename_i e ho;split at hk
  .rename_i z hz;obtain⟨z',g1,g2⟩:=IL (A:=AA A m) (m:=m) (h:=ts.heap) hz;obtain⟨m1,e1,e2,e3,e4,e5,e6⟩:=TN hR (site:=site (o.dst.getD 0)) g2;exact⟨_,_,_,_,⟨_,_,dh,m1,by simp only[qo,ho,g1,a1l],e1,e2,e3,e4,e5,e6,.none,fun b hb=>by cases hb⟩,hk⟩
  exact hk.elim
 .
  rename_i t x ho;split at hk
  .rename_i v hv;obtain⟨w,g1,g2⟩:=jM hE hv;split at hk
   .rename_i vW;have hc:=IJ g2;obtain⟨m1,e1,e2,e3,e4,e5,e6⟩:=TN hR (site:=site (o.dst.getD 0)) hc;exact⟨_,_,_,_,⟨_,_,dh,m1,by simp only[qo,ho,g1,EP hc,vW,a2l],e1,e2,e3,e4,e5,e6,.none,fun b hb=>by cases hb⟩,hk⟩
   exact hk.elim
  exact hk.elim
 .
  rename_i t qs ho;split at hk
  .rename_i vs RF;obtain⟨ws,g1,g2⟩:=a0s hE RF;split at hk
   .rename_i v hv;obtain⟨w,g3,g4⟩:=a7d g2 hv;exact jl hR g4 (by simp only[qo,ho,g1,g3,a1l]) hk
   exact hk.elim
  exact hk.elim
 .
  rename_i t len qs ho;split at hk
  .rename_i vs RF;obtain⟨ws,g1,g2⟩:=a0s hE RF;split at hk
   .split at hk
    .rename_i v H1 hv;refine xQ hR (uV hX hR g2 hv) ?_ hk;simp only[qo,ho,g1,afv];rfl
    exact hk.elim
   split at hk
   .rename_i v H1 hv;refine xQ hR (uV hX hR g2 hv) ?_ hk;simp only[qo,ho,g1,afv];rfl
   exact hk.elim
  exact hk.elim
 .
  rename_i t a ho;split at hk
  .rename_i pa ha;obtain⟨ea,g1,g2⟩:=nS hE ha;split at hk
   .rename_i v i hv;obtain⟨w,ti,g3,g4,g5,g6⟩:=Ia hX hR g2 hv;exact⟨.val v,_,_,_,⟨.val w,ts,ti,m,by simp only[qo,ho,g1,g3,a1l],rfl,rfl,hR,g4,.refl,.refl,g5,fun b hb=>by rw[g6]at hb;cases hb⟩,hk⟩
   exact hk.elim
  exact hk.elim
 .
  rename_i t a x ho;split at hk
  .rename_i pa v ha hv;obtain⟨ea,g1,g2⟩:=nS hE ha;obtain⟨w,g3,g4⟩:=jM hE hv;split at hk
   .rename_i s i hs;obtain⟨iZ,ti,m1,e1,e2,e3,e4,e5,e6,e7,e8⟩:=zJ hX hR g2 g4 hs;exact⟨.undef,_,_,_,⟨.undef,iZ,ti,m1,by simp only[qo,ho,g1,g3,e1,a1l],e2,e3,e4,trivial,e5,e6,e7,e8⟩,hk⟩
   exact hk.elim
  exact hk.elim
 .
  rename_i x ho;have go:∀{pe:PE X.Γ} {ev:EV},JD ts.env x=some ev->JG X P (AA A m) m ts.heap pe ev->(match ev with|.loc _ _=>True|.val (.ptr _ _ _)=>True|.val (.fn _ _ _)=>True|_=>False)->(k pe ps yE an).Ends y->a7t X P A m call site ts o k y:=by
   intro pe ev h1 h2 h3 h4;refine⟨_,_,_,_,vN hR ?_ h2,h4⟩;cases ev with
   |loc a b=>simp only[qo,ho,h1]
   |val v=>cases v<;>simp at h3<;>simp only[qo,ho,h1]
   |undef|ent|Fz=>simp at h3
  split at hk
  .rename_i a b ha;obtain⟨ea,g1,g2⟩:=nS hE ha;have:=ES g2;subst this;exact go g1 g2 trivial hk
  .rename_i a b c ha;obtain⟨ea,g1,g2⟩:=nS hE ha;obtain⟨w,rfl,g3⟩:=gV g2;split at hk
   .rename_i cs hb;obtain⟨mb,f1,f2⟩:=hR.heap.at_ a _ hb;cases mb with
    |gW cb=>
     cases g3 with
     |ptr e=>exact go g1 g2 trivial hk
     |gone hi e _=>simp only[bF,a08]at hi;subst hi;rw[f1]at e;cases e
    |_=>exact f2.elim
   .rename_i cs hb;obtain⟨mb,f1,f2⟩:=hR.heap.at_ a _ hb;cases mb with
    |jL cb=>
     cases g3 with
     |ptr e=>rw[f1]at e;cases e
     |gone hi e _=>
      simp only[bF,a08]at hi;subst hi;rw[f1]at e;cases e with
      |r _ e=>simp only[roV,a08]at e;subst e;exact go g1 g2 trivial hk
    |_=>exact f2.elim
   exact hk.elim
  .rename_i a b c ha;obtain⟨ea,g1,g2⟩:=nS hE ha;obtain⟨w,rfl,g3⟩:=gV g2;split at hk
   .rename_i q1 q2 q3 q4 hb;obtain⟨mb,f1,f2⟩:=hR.heap.at_ a _ hb;cases mb with
    |dF cb=>
     cases g3 with
     |row e=>exact go g1 g2 trivial hk
     |gone hi e _=>simp only[bF,a08]at hi;subst hi;rw[f1]at e;cases e
    |_=>exact f2.elim
   exact hk.elim
  .rename_i a b c ha;obtain⟨ea,g1,g2⟩:=nS hE ha;obtain⟨w,rfl,g3⟩:=gV g2;cases g3 with
   |el=>exact go g1 g2 trivial hk
   |gone hi _ _=>simp[bF]at hi
  .rename_i a b c ha;obtain⟨ea,g1,g2⟩:=nS hE ha;obtain⟨w,rfl,g3⟩:=gV g2;cases g3 with
   |fn=>exact go g1 g2 trivial hk
   |gone hi _ _=>simp[bF]at hi
  exact hk.elim
 .
  rename_i op t x z w0 ho;split at hk
  rotate_left
  .exact hk.elim
  rename_i a b ha hb;obtain⟨ta,g1,g2⟩:=jM hE ha;obtain⟨tb,g3,g4⟩:=jM hE hb;split at hk
  .split at hk
   .rename_i v ps hd;obtain⟨hp,hk⟩:=vO hk;obtain⟨w,e1,e2⟩:=afY (P:=P) (t:=t) (x:=x) (z:=z) g2 g4 hd hp;exact jl hR e2 (by simp only[qo,ho,g1,g3,e1,a1l]) hk
   exact hk.elim
  split at hk
  .rename_i v q hv;obtain⟨w,e1,e2⟩:=a4k (x:=x) (y:=z) hR.heap g2 g4 hv hk.1;exact jl hR e2 (by simp only[qo,ho,g1,g3,e1,a1l]) hk.2
  split at hk
  .split at hk
   .rename_i w r;split at hk
    .rename_i v ua ub e1 e2 e3;obtain⟨RH,hk⟩:=hk;rw[<-kF g2 e2,<-kF g4 e3]at RH;exact jl hR (xP e1) (by simp only[qo,ho,g1,g3,RH,a1l]) hk
    exact hk.elim
   exact hk.elim
  split at hk
  .rename_i v hv;obtain⟨w,e1,e2⟩:=ZN g2 g4 hv;exact jl hR e2 (by simp only[qo,ho,g1,g3,e1,a1l]) hk
  exact hk.elim
 .
  rename_i op t x ho;split at hk
  .rename_i a ha;obtain⟨ta,g1,g2⟩:=jM hE ha;split at hk
   .rename_i v hv;obtain⟨w,e1,e2⟩:=jq g2 hv;exact jl hR e2 (by simp only[qo,ho,g1,e1,a1l]) hk
   exact hk.elim
  exact hk.elim
 .
  rename_i s d x ho;split at hk
  .rename_i a ha;obtain⟨ta,g1,g2⟩:=jM hE ha;split at hk
   .split at hk
    .rename_i w r;split at hk
     .rename_i v ua e1 e2;obtain⟨RH,hk⟩:=hk;rw[<-kF g2 e2]at RH;exact jl hR (xP e1) (by simp only[qo,ho,g1,RH,a1l]) hk
     exact hk.elim
    exact hk.elim
   split at hk
   .rename_i v hv;obtain⟨w,e1,e2⟩:=UZ g2 hv;exact jl hR e2 (by simp only[qo,ho,g1,e1,a1l]) hk
   exact hk.elim
  exact hk.elim
 .
  rename_i f first cap ho
  split at hk
  .rename_i a b ha hb;obtain⟨ta,g1,g2⟩:=Vz hE ha;obtain⟨tb,g3,g4⟩:=Vz hE hb;exact jl hR (.fn g2.1 g2.2 g4.1 g4.2) (by simp only[qo,ho,g1,g3]) hk
  exact hk.elim
 .
  rename_i t r ho;have hp:=hR.heap.push (pb:=.map []) (hb:=.map []) (mb:=.gW ts.heap.length) (.inl rfl) ⟨[],by simp,rfl,fun i a b ha=>by simp at ha⟩;have go:qo P call site ts o=some (.val (.map ts.heap.length),{ ts with heap:=ts.heap++[.map []] },dh)->∀{an:PT X.Γ},(k (.val (.map ps.heap.length)) { ps with heap:=ps.heap++[.map []] } yE an).Ends y->a7t X P A m call site ts o k y:=fun h1 an h2=>
   ⟨.val (.map ps.heap.length),_,_,_,⟨_,_,dh,_,h1,rfl,rfl,hR.step hp.1 hp.2.1 hp.2.2,oK (.map (by rw[<-hR.heap.len];simp)),hp.2.1,hp.2.2,.none,fun b hb=>by cases hb⟩,h2⟩
  split at hk
  .rename_i h1;obtain⟨w,g1,g2⟩:=IQ hE h1;have:=sK g2;subst this;exact go (by simp only[qo,ho,g1]) hk
  .rename_i k0 n0 kt vt h1 hu;obtain⟨w,g1,g2⟩:=IQ hE h1;have:=PW g2;subst this;exact go (by simp only[qo,ho,g1,hu]) hk
  exact hk.elim
 .
  rename_i t l c ho;split at hk
  .rename_i vl vc hl hc;obtain⟨tl,g1,g2⟩:=jM hE hl;obtain⟨tc,g3,g4⟩:=jM hE hc;split at hk
   .rename_i v H1 qs hv;obtain⟨hq,hk⟩:=vO hk;refine xQ hR (Bf hX hR g2 g4 hv hq) ?_ hk;simp only[qo,ho,g1,g3,afv];rfl
   exact hk.elim
  exact hk.elim
 .
  rename_i t x lo hi mx ho;split at hk
  rotate_left
  .exact hk.elim
  rename_i px plo yw pmx hx Il hhi hmx;obtain⟨ex,g1,g2⟩:=nS hE hx;obtain⟨RX,g3,g4⟩:=IQ hE Il;obtain⟨RY,g5,g6⟩:=IQ hE hhi;obtain⟨tmx,g7,g8⟩:=IQ hE hmx;split at hk
  .rename_i n e hu;split at hk
   .split at hk
    .rename_i v hv;refine xQ (H1:=ps.heap) hR (VE hR g2 g4 g6 g8 hv) ?_ hk;simp only[qo,ho,g1,g3,g5,g7,hu,afv];rfl
    exact hk.elim
   split at hk
   .rename_i v H1 qs hv;obtain⟨hq,hk⟩:=vO hk;refine xQ hR (Dz hX hR g2 g4 g6 g8 hv hq) ?_ hk;simp only[qo,ho,g1,g3,g5,g7,hu,afv];rfl
   exact hk.elim
  rename_i ag0;have jK:∀{w:TV},ex=.val w->qo P call site ts o=(rU P t w RX RY tmx).map fun v=>(.val v,ts,dh):=by intro w e;subst e;simp only[qo,ho,g1,g3,g5,g7]
  split at hk
  .rename_i b;obtain⟨w,rfl,g9⟩:=gV g2;have:w=.str b:=by
    cases g9 with
    |str=>rfl
    |gone hi _ _=>simp[bF]at hi
   subst this;split at hk
   rotate_left
   .exact hk.elim
   rename_i w r;split at hk
   rotate_left
   .exact hk.elim
   rename_i v tl th e1 e2 e3;split at hk
   rotate_left
   .exact hk.elim
   rename_i ake;obtain⟨hs,hk⟩:=hk;have h7:tmx=none:=by
    cases pmx with
    |none=>exact sK g8
    |some _=>simp at ake
   have h5:RX=tl:=by
    cases plo with
    |none=>simp at e2;rw[sK g4,e2]
    |some q=>
     obtain⟨tq,rfl⟩:=NZ g4;simp only[a0x]at e2;obtain⟨q1,q2,rfl⟩:=e2;rw[kF (show VR X P (AA A m) m ts.heap q tq from g4) q2]
   have h6:RY=th:=by
    cases yw with
    |none=>simp at e3;rw[sK g6,e3]
    |some q=>
     obtain⟨tq,rfl⟩:=NZ g6;simp only[a0x]at e3;obtain⟨q1,q2,rfl⟩:=e3;rw[kF (show VR X P (AA A m) m ts.heap q tq from g6) q2]
   subst h5;subst h6;subst h7;exact jl hR (xP e1) (by rw[jK rfl,hs];rfl) hk
  .rename_i px' hns;obtain⟨w,rfl,g9⟩:=gV g2;split at hk
   .rename_i v qs hv;obtain⟨hq,hk⟩:=vO hk;obtain⟨w',e1,e2⟩:=OH hR g9 g4 g6 g8 hv hq;exact jl hR e2 (by rw[jK rfl,e1];rfl) hk
   exact hk.elim
  exact hk.elim
 .
  rename_i t x f ho;split at hk
  .rename_i pa n ha hn;obtain⟨ea,g1,g2⟩:=nS hE ha;split at hk
   .rename_i v hv;obtain⟨eb,g3,g4⟩:=OD hR g2 hv;exact⟨_,_,_,_,vN hR (by simp only[qo,ho,g1,hn,g3,a1l]) g4,hk⟩
   exact hk.elim
  exact hk.elim
 .
  rename_i t x f ho;split at hk
  .rename_i a ha;obtain⟨ta,g1,g2⟩:=jM hE ha;split at hk
   .rename_i v hv;obtain⟨w,e1,e2⟩:=OE g2 hv;exact jl hR e2 (by simp only[qo,ho,g1,e1,a1l]) hk
   exact hk.elim
  exact hk.elim
 .
  rename_i t x i ho;split at hk
  .rename_i pa vi ha hi;obtain⟨ea,g1,g2⟩:=nS hE ha;obtain⟨ti,g3,g4⟩:=jM hE hi;split at hk
   .rename_i v qs hv;obtain⟨hq,hk⟩:=vO hk;obtain⟨eb,g5,g6⟩:=Bc hR g2 g4 hv hq;exact⟨_,_,_,_,vN hR (by simp only[qo,ho,g1,g3,g5,a1l]) g6,hk⟩
   exact hk.elim
  exact hk.elim
 .
  rename_i t x i ho;split at hk
  .rename_i a vi ha hi;obtain⟨ta,g1,g2⟩:=jM hE ha;obtain⟨ti,g3,g4⟩:=jM hE hi;split at hk
   .split at hk
    .rename_i w r;split at hk
     .rename_i v ua ui e1 e2 e3;obtain⟨RH,hk⟩:=hk;rw[<-kF g2 e2,<-kF g4 e3]at RH;exact jl hR (xP e1) (by simp only[qo,ho,g1,g3,RH,a1l]) hk
     exact hk.elim
    exact hk.elim
   split at hk
   .rename_i v hv;obtain⟨w,e1,e2⟩:=OG g2 g4 hv;exact jl hR e2 (by simp only[qo,ho,g1,g3,e1,a1l]) hk
   exact hk.elim
  exact hk.elim
 .
  rename_i t mm i ok ho;split at hk
  .rename_i vm vi hm hi;obtain⟨tm,g1,g2⟩:=jM hE hm;obtain⟨ti,g3,g4⟩:=jM hE hi;obtain⟨v,pi,IY,w,e1,e2,e3,e4⟩:=aaT hR g2 g4 hk;refine⟨.val v,_,_,_,⟨.val w,ts,_,m,?_,rfl,rfl,hR,e2,.refl,.refl,e4,fun b hb=>by cases hb⟩,e3⟩;simp only[qo,ho,g1,g3,e1,a1l];cases tm<;>rfl
  exact hk.elim
 .
  rename_i t mm i x ho;split at hk
  .rename_i vm vi vx hm hi hx;obtain⟨tm,g1,g2⟩:=jM hE hm;obtain⟨ti,g3,g4⟩:=jM hE hi;obtain⟨tx,g5,g6⟩:=jM hE hx;obtain⟨ps1,pi,IY,h1,a0E,e1,e2,e3,e4,e5,e6⟩:=a7p hR g2 g4 g6 hk;exact⟨.undef,_,_,_,⟨.undef,{ ts with heap:=h1 },a0E,m,by simp only[qo,ho,g1,g3,g5,e1,a1l],rfl,rfl,e2,trivial,e3,.refl,e5,e6⟩,e4⟩
  exact hk.elim
 .
  rename_i t mm i x ho;split at hk
  .rename_i vm vi vx hm hi hx;obtain⟨tm,g1,g2⟩:=jM hE hm;obtain⟨ti,g3,g4⟩:=jM hE hi;obtain⟨tx,g5,g6⟩:=jM hE hx;obtain⟨ps1,pi,IY,h1,a0E,e1,e2,e3,e4,e5,e6⟩:=a7p hR g2 g4 g6 hk;exact⟨.undef,_,_,_,⟨.undef,{ ts with heap:=h1 },a0E,m,by simp only[qo,ho,g1,g3,g5,e1,a1l],rfl,rfl,e2,trivial,e3,.refl,e5,e6⟩,e4⟩
  exact hk.elim
 .
  rename_i t mm i ho;split at hk
  .rename_i vm vi hm hi;obtain⟨tm,g1,g2⟩:=jM hE hm;obtain⟨ti,g3,g4⟩:=jM hE hi;obtain⟨e,e',ps1,pi,IY,h1,a0E,e1,e0,e2,e3,e4,e5,e6⟩:=aaV hR g2 g4 hk;exact⟨e,_,_,_,⟨e',{ ts with heap:=h1 },a0E,m,by simp only[qo,ho,g1,g3,e1],rfl,rfl,e2,e0,e3,.refl,e5,e6⟩,e4⟩
  exact hk.elim
 .
  rename_i t mm i x ho;split at hk
  .rename_i vm vi vx hm hi hx;obtain⟨tm,g1,g2⟩:=jM hE hm;obtain⟨ti,g3,g4⟩:=nS hE hi;obtain⟨tx,g5,g6⟩:=jM hE hx;obtain⟨ps1,pi,h1,a0E,e1,e2,e3,e4,e5,e6⟩:=aaW hR g2 g4 g6 hk;exact⟨.undef,_,_,_,⟨.undef,{ ts with heap:=h1 },a0E,m,by simp only[qo,ho,g1,g3,g5,e1,a1l],rfl,rfl,e2,trivial,e3,.refl,e5,e6⟩,e4⟩
  exact hk.elim
 .
  rename_i t i ho;split at hk
  .rename_i vs hv;obtain⟨w,g1,g2⟩:=nS hE hv;obtain⟨w,rfl,g2⟩:=gV g2;split at hk
   .rename_i v hvi;cases g2 with
    |dB h1 h2=>
     obtain⟨x,e1,e2⟩:=bZ.get ⟨h1,h2⟩ hvi;exact jl hR e2 (by simp only[qo,ho,g1,zH,e1,a1l]) hk
    |gone hi _ _=>simp[bF]at hi
   exact hk.elim
  .rename_i r j v hv;obtain⟨w,g1,g2⟩:=nS hE hv;obtain⟨c,y0,rfl,q1,q2⟩:=NV g2;split at hk
   .exact jl hR (oJ q2) (by simp only[qo,ho,g1,zH,a1l]) hk
   .exact⟨_,_,_,_,vN hR (pe:=.Fz r j) (ev:=.Fz c j) (by simp only[qo,ho,g1,zH,a1l]) ⟨q1,rfl⟩,hk⟩
   exact hk.elim
  exact hk.elim
 .
  rename_i c ho;split at hk
  rotate_left
  .exact hk.elim
  rename_i az has;obtain⟨tas,g1,g2⟩:=Vz hE has;have yO:∀{b:Builtin},c.callee=.builtin b->∀{r:Option (TV×St×zl)},rV P b c.argTypes o.type ts tas=r->qo P call site ts o=r.map fun(v,s,i)=>(.val v,s,i):=by intro b hb r hr;simp only[qo,ho,Oq,hb,g1,hr]
  split at hk
  .rename_i hb;split at hk
   .rename_i x;obtain⟨tx,r,rfl,q1,q2⟩:=g2.inv;have:=q2.inv0;subst this;split at hk
    .rename_i v i hv;obtain⟨w,ti,e1,e2,e3,e4⟩:=ZQ hR.heap q1 hv;exact⟨.val v,_,_,_,⟨.val w,ts,ti,m,by rw[yO hb (r:=some (w,ts,ti)) (by simp only[rV,e1,a1l])];rfl,rfl,rfl,hR,oK e2,.refl,.refl,e3,fun b hb=>by rw[e4]at hb;cases hb⟩,hk⟩
    exact hk.elim
   exact hk.elim
  .rename_i hb;split at hk
   .rename_i d x;obtain⟨td,r,rfl,q1,q2⟩:=g2.inv;obtain⟨tx,r,rfl,q3,q4⟩:=q2.inv;have:=q4.inv0;subst this;split at hk
    .rename_i v H1 i qs hv;obtain⟨hq,hk⟩:=vO hk;exact xQ hR (JV hX hR q1 q3 hv hq) (yO hb rfl) hk
    exact hk.elim
   exact hk.elim
  .rename_i hb;split at hk
   .rename_i d x;obtain⟨td,r,rfl,q1,q2⟩:=g2.inv;obtain⟨tx,r,rfl,q3,q4⟩:=q2.inv;have:=q4.inv0;subst this;split at hk
    .rename_i v H1 i hv;exact xQ hR (V6 hX hR q1 q3 hv) (yO hb rfl) hk
    exact hk.elim
   exact hk.elim
  .rename_i hb;split at hk
   .rename_i v hv;obtain⟨w,e1,e2⟩:=zL g2 hv;refine jl hR e2 ?_ hk;rw[yO hb (r:=some (w,ts,dh)) (by simp only[rV,e1,a1l])];rfl
   exact hk.elim
  .rename_i hb;split at hk
   .rename_i v hv;obtain⟨w,e1,e2⟩:=zL g2 hv;refine jl hR e2 ?_ hk;rw[yO hb (r:=some (w,ts,dh)) (by simp only[rV,e1,a1l])];rfl
   exact hk.elim
  .rename_i f hb;split at hk
   rotate_left
   .exact hk.elim
   rename_i fv hfv;obtain⟨tf,f1,f2⟩:=jM hE hfv;have jK:∀{w:TV} {h1:List HB} {ws:List Nat},call tf tas ts.heap=some (w,h1,ws)->qo P call site ts o=some (.val w,{ ts with heap:=h1 },⟨true,[],ws.map .h⟩):=by intro w h1 ws hc;simp only[qo,ho,Oq,hb,g1,f1,hc]
   unfold a7a at hk;split at hk
   .rename_i v H1 r;obtain⟨hs,hk⟩:=hk;obtain⟨w,h1,ws,m1,c1,c2,c3,c4,c5,c6⟩:=hs A m ts.heap tf tas hR.heap f2 g2;refine⟨.val v,_,_,_,⟨.val w,_,_,m1,jK c1,rfl,rfl,hR.step c2 c4 c5,oK c3,c4,c5,⟨fun _=>rfl,fun k hk=>(by cases hk),fun k hk=>?_,fun b hb=>?_,fun b hb=>(by cases hb),fun h=>(by cases h)⟩,fun b hb=>?_⟩,hk⟩
    .simp at hk
    .simp at hb;exact .inr ⟨rfl,c6 b hb⟩
    simp at hb;exact c6 b hb
   .split at hk
    .rename_i Hp jJ hp;split at hk
     .rename_i Hs fv1 xs1 hHs ag2 ag3;split at hk
      .rename_i v1 Rt X6 ag4;obtain⟨hs,hk⟩:=hk;simp only[a2o,a1z]at jJ;obtain⟨w,h1,ws,m1,c1,c2,c3,c4,c5,c6⟩:=KF hX hs.w jJ.1 hp hHs ag2 ag3 X6 ag4 jJ.2 A m ts.heap tf tas hR.heap f2 g2;refine⟨.val v1,_,_,_,⟨.val w,_,_,m1,jK c1,rfl,rfl,hR.step c2 c4 c5,oK c3,c4,c5,⟨fun _=>rfl,fun k hk=>(by cases hk),fun k hk=>?_,fun b hb=>?_,fun b hb=>(by cases hb),fun h=>(by cases h)⟩,fun b hb=>?_⟩,hk⟩
       .simp at hk
       .simp at hb;obtain⟨_,k,h8,_,h9⟩:=c6 b hb;exact .inl ⟨k,a1u.2 ⟨k,a5E h8,rfl⟩,h9⟩
       simp at hb;obtain⟨_,k,_,_,mb,h8,h9⟩:=c6 b hb;exact bg h8 h9
      exact hk.elim
     exact hk.elim
    exact hk.elim
   .split at hk
    .rename_i Hp jJ hp;split at hk
     .rename_i Hs fv1 xs1 hHs ag2 ag3;split at hk
      .rename_i v1 Rt Hs2 H2 X6 ag4 aqw;obtain⟨hs,hk⟩:=hk;simp only[a2o,a1z]at jJ;have hsl:Hs.length=_:=(uI hHs).1.trans (EY hp).1;obtain⟨w,h1,ws,m1,c1,c2,c3,c4,c5,c6⟩:=KF hX (a0B aqw (by rw[hsl];exact jJ.2) hs.w) jJ.1 hp hHs ag2 ag3 X6 ag4 jJ.2 A m ts.heap tf tas hR.heap f2 g2;refine⟨.val v1,_,_,_,⟨.val w,_,_,m1,jK c1,rfl,rfl,hR.step c2 c4 c5,oK c3,c4,c5,⟨fun _=>rfl,fun k hk=>(by cases hk),fun k hk=>?_,fun b hb=>?_,fun b hb=>(by cases hb),fun h=>(by cases h)⟩,fun b hb=>?_⟩,hk⟩
       .simp at hk
       .simp at hb;obtain⟨p,k,h8,h7,h9⟩:=c6 b hb;exact .inl ⟨k,a1u.2 ⟨k,Y0 h8 (by simpa using h7.2),rfl⟩,h9⟩
       simp at hb;obtain⟨_,k,_,_,mb,h8,h9⟩:=c6 b hb;exact bg h8 h9
      exact hk.elim
     exact hk.elim
    exact hk.elim
   split at hk
   .rename_i g first cap _
    cases f2 with
    |gone hi _ _=>simp[bF]at hi
    |fn p1 p2 p3 p4=>
     split at hk
     .rename_i vs RF;split at hk
      .rename_i v ext qs aqx;split at hk
       .rename_i ext' yB;obtain⟨hq,hk⟩:=vO hk;obtain⟨w,h1,m1,c1,c2,c3,c4,c5⟩:=IX hX (hO _ _ _ _ _ aqx hq) hR.heap RF yB ⟨p1,p2⟩ g2 ⟨p3,p4⟩;refine⟨.val (shift ps.heap.length v),_,_,_,⟨.val w,_,_,m1,jK c1,rfl,rfl,hR.step c2 c4 c5,oK c3,c4,c5,⟨fun _=>rfl,fun k hk=>(by cases hk),fun k hk=>(by simp at hk),fun b hb=>(by simp at hb),fun b hb=>(by cases hb),fun h=>(by cases h)⟩,fun b hb=>(by simp at hb)⟩,hk⟩
       exact hk.elim
      exact hk.elim
     exact hk.elim
   exact hk.elim
  exact hk.elim
 .
  rename_i t x ho;split at hk
  .rename_i r kt et hx hu;obtain⟨tx,g1,g2⟩:=jM hE hx;split at hk
   .rename_i es Nz;obtain⟨c,gY,q0,q3,q4,q5⟩:=DZ hR.heap Nz;have htm:=a2n g2 q0;subst htm;have aS:r<m.length:=by rcases q0 with q1|⟨q1,_⟩<;>exact(a0u.1 q1).1
    have hp:=hR.heap.push (pb:=.dD r es.length []) (hb:=.dD c es.length []) (mb:=.gW ts.heap.length) (.inl rfl) ⟨c,by simp,by rw[a0P aS];rcases q0 with q1|⟨q1,_⟩<;>rw[q1]<;>rfl,fun c' hc=>by rw[a0P aS]at hc;rcases q0 with q1|⟨q1,_⟩<;>rw[q1]at hc<;>simp at hc<;>exact hc.symm⟩
    have go:qo P call site ts o=some (.val (.iter ts.heap.length),{ ts with heap:=ts.heap++[.dD c es.length []] },yx (.h c)):=by simp only[qo,ho,g1,hu,q3,q4]
    exact⟨.val (.iter ps.heap.length),_,_,_,⟨_,_,yx (.h c),_,go,rfl,rfl,hR.step hp.1 hp.2.1 hp.2.2,oK (.iter (by rw[<-hR.heap.len];simp)),hp.2.1,hp.2.2,IR.reads rfl (fun b hb=>by simp[yx]at hb;subst hb;exact⟨TT q0,(a0u.1 q3).1⟩) (by simp[yx]),fun b hb=>by simp[yx]at hb⟩,hk⟩
   exact hk.elim
  exact hk.elim
 .
  rename_i x ho;split at hk
  rotate_left
  .exact hk.elim
  rename_i b hx;obtain⟨tx,g1,g2⟩:=jM hE hx;split at hk
  rotate_left
  .exact hk.elim
  rename_i r n i seen hb;split at hk
  rotate_left
  .exact hk.elim
  rename_i es Nz;split at hk
  .rename_i kk vv _ rest;obtain⟨⟨hn,he⟩,hk⟩:=hk;obtain⟨e,rfl,rfl⟩:∃e:PV X.Γ×PV X.Γ,e.1=kk/\e.2=vv:=⟨(kk,vv),rfl,rfl⟩;have he:es[i]? = some e:=he;obtain⟨mb,q1,q2⟩:=hR.heap.at_ b _ hb;cases mb with
   |gW cb=>
    obtain⟨c,q3,_,q5⟩:=q2;obtain⟨c',gY,z1,z3,z4,z5⟩:=DZ hR.heap Nz;have:=q5 c' (by rcases z1 with z1|⟨z1,_⟩;exact .inl z1;exact .inr z1);subst this;cases g2 with
    |gone hi e _=>simp only[bF,a08]at hi;subst hi;rw[q1]at e;cases e
    |iter e1=>
     rw[q1]at e1;cases e1;have hl:i<gY.length:=by rw[<-z4];exact(a0u.1 he).1
     have he':=a0A hl;have hv:=z5 i _ _ he he';refine⟨.val (.dB [e.1,e.2]),_,_,_,⟨.val (.dB [gY[i].1,gY[i].2]),ts,gu [.h cb,.h c'],m,?_,rfl,rfl,hR,oK (O1 (oJ hv.1) (oJ hv.2)),.refl,.refl,IR.reads rfl (fun b2 yM=>?_) (by simp[gu]),fun b hb=>by simp[gu]at hb⟩,hk⟩
     .simp only[qo,ho,g1,q3,z3];rw[a15 (by rw[<-z4];exact hn),he'];rfl
     simp[gu]at yM;rcases yM with rfl|rfl
     .exact⟨.inl ⟨b,by simp[gu],jc q1 rfl⟩,(a0u.1 q3).1⟩
     refine⟨?_,(a0u.1 z3).1⟩;rcases z1 with z1|⟨_,z1⟩
     .exact .inl ⟨r,by simp[gu],jc z1 rfl⟩
     exact .inr z1
   |_=>exact q2.elim
  split at hk
  case isFalse=>exact hk.elim
  rename_i hn;split at hk
  case h_2=>exact hk.elim
  rename_i e he;obtain⟨mb,q1,q2⟩:=hR.heap.at_ b _ hb;cases mb with
  |gW cb=>
   obtain⟨c,q3,_,q5⟩:=q2;obtain⟨c',gY,z1,z3,z4,z5⟩:=DZ hR.heap Nz;have:=q5 c' (by rcases z1 with z1|⟨z1,_⟩;exact .inl z1;exact .inr z1);subst this;cases g2 with
   |gone hi e _=>simp only[bF,a08]at hi;subst hi;rw[q1]at e;cases e
   |iter e1=>
    rw[q1]at e1;cases e1;have hl:i<gY.length:=by rw[<-z4];exact(a0u.1 he).1
    have he':=a0A hl;have hv:=z5 i _ _ he he';refine⟨.val (.dB [e.1,e.2]),_,_,_,⟨.val (.dB [gY[i].1,gY[i].2]),ts,gu [.h cb,.h c'],m,?_,rfl,rfl,hR,oK (O1 (oJ hv.1) (oJ hv.2)),.refl,.refl,IR.reads rfl (fun b2 yM=>?_) (by simp[gu]),fun b hb=>by simp[gu]at hb⟩,hk⟩
    .simp only[qo,ho,g1,q3,z3];rw[a15 (by rw[<-z4];exact hn),he'];rfl
    simp[gu]at yM;rcases yM with rfl|rfl
    .exact⟨.inl ⟨b,by simp[gu],jc q1 rfl⟩,(a0u.1 q3).1⟩
    refine⟨?_,(a0u.1 z3).1⟩;rcases z1 with z1|⟨_,z1⟩
    .exact .inl ⟨r,by simp[gu],jc z1 rfl⟩
    exact .inr z1
  |_=>exact q2.elim
 exact hk.elim
end
end Pv
