/- Part 3 of a proof: ApplyLaws -/
import Derived.Test.YtmobpoiejckagaaGreatP01
set_option linter.constructorNameAsVariable false
set_option linter.unusedVariables false
set_option linter.unusedSimpArgs false
set_option linter.unusedSectionVars false
noncomputable section
namespace Pv
open Go Tw
section
variable{X:ny}{P:LI1}{A:Nat->Prop}{m m':List MB}{h h':List HB}{H H':List (PB X.Γ)}
theorem bZ.nil:bZ X P A m h [] []:=⟨rfl,fun i x y hx=>by simp at hx⟩
theorem bZ.cons{v x vs xs}(h1:VR X P A m h v x)(h2:bZ X P A m h vs xs):bZ X P A m h (v::vs) (x::xs):=by
 refine⟨by simp[h2.1],fun i a b ha hb=>?_⟩;cases i with
 |zero=>simp only[a3H,a08]at ha hb;subst ha;subst hb;exact h1
 |succ i=>exact h2.2 i a b (by simpa using ha) (by simpa using hb)
theorem bZ.inv{v vs xs}(hv:bZ X P A m h (v::vs) xs):∃x r,xs=x::r/\VR X P A m h v x/\bZ X P A m h vs r:=by
 cases xs with
 |nil=>have:=hv.1;simp at this
 |cons x r=>exact⟨x,r,rfl,hv.2 0 v x rfl rfl,by have:=hv.1;simpa using this,fun i a b ha hb=>hv.2 (i+1) a b (by simpa using ha) (by simpa using hb)⟩
theorem bZ.inv0{xs}(hv:bZ X P A m h [] xs):xs=[]:=by have:=hv.1;cases xs<;>simp_all
theorem bZ.app{a b x y}(h1:bZ X P A m h a x)(h2:bZ X P A m h b y):bZ X P A m h (a++b) (x++y):=by
 refine⟨by simp[h1.1,h2.1],fun i c d hc hd=>?_⟩;rcases a5l i a.length with hl|hl
 .rw[a0Q hl]at hc;rw[a0Q (by rw[<-h1.1];exact hl)]at hd;exact h1.2 i c d hc hd
 rw[a1y hl]at hc;rw[a1y (by rw[<-h1.1];exact hl),<-h1.1]at hd;exact h2.2 _ c d hc hd
theorem bZ.drop{a x}(h1:bZ X P A m h a x)(n):bZ X P A m h (a.drop n) (x.drop n):=
 ⟨by simp[h1.1],fun i c d hc hd=>h1.2 (n+i) c d (by rw[<-hc,a5z]) (by rw[<-hd,a5z])⟩
theorem bZ.take{a x}(h1:bZ X P A m h a x)(n):bZ X P A m h (a.take n) (x.take n):=by
 refine⟨by simp[h1.1],fun i c d hc hd=>?_⟩;rw[a5G]at hc hd;split at hc
 .rename_i hl;rw[a18 hl]at hd;exact h1.2 i c d hc hd
 cases hc
theorem bZ.get{a x}(h1:bZ X P A m h a x){i:Nat}{c}(hc:a[i]? = some c):∃v,x[i]? = some v/\VR X P A m h c v:=by
 have hl:i<x.length:=by rw[<-h1.1];exact(a0w.1 hc).1
 exact⟨x[i],a0N hl,h1.2 i c _ hc (a0N hl)⟩
theorem TM{v x tv}(hv:VR X P A m h v x)(hp:rZ v=some tv):x=tv:=by
 cases hv with
 |gone hi _ _=>cases v<;>simp[bC]at hi<;>simp[rZ]at hp
 |_=>first|(simp only[rZ,a08]at hp;exact hp)|(simp[rZ]at hp;done)
theorem GX:∀{vs} {xs tvs:List TV},bZ X P A m h vs xs->iV vs=some tvs->xs=tvs
 | [],xs,tvs,hv,hp=>by simp only[iV,a08]at hp;rw[hv.inv0,hp]
 |v::vs,xs,tvs,hv,hp=>by
  obtain⟨x,r,rfl,h1,h2⟩:=hv.inv;simp only[iV]at hp;split at hp
  .rename_i a b ha hb;cases hp;rw[TM h1 ha,GX h2 hb]
  cases hp
theorem jX{v x tv}(hv:VR X P A m h v x)(hp:qG v=some tv):x=tv:=by
 cases v with
 |agg cs=>
  simp only[qG,a0z]at hp;obtain⟨tvs,h1,rfl⟩:=hp;cases hv with
  |agg h2 h3=>rw[GX ⟨h2,h3⟩ h1]
  |gone hi _ _=>simp[bC]at hi
 |_=>exact TM hv hp
theorem a2l:∀{vs} {xs tvs:List TV},bZ X P A m h vs xs->Vo vs=some tvs->xs=tvs
 | [],xs,tvs,hv,hp=>by simp only[Vo,a08]at hp;rw[hv.inv0,hp]
 |v::vs,xs,tvs,hv,hp=>by
  obtain⟨x,r,rfl,h1,h2⟩:=hv.inv;simp only[Vo]at hp;split at hp
  .rename_i a b ha hb;cases hp;rw[jX h1 ha,a2l h2 hb]
  cases hp
theorem a7l{v x}(hp:ofC x=some v):VR X P A m h v x:=by cases x<;>simp[ofC]at hp<;>subst hp<;>constructor
theorem VA:∀{xs} {vs},Dh xs=some vs->bZ X P A m h vs xs
 | [],vs,hp=>by simp only[Dh,a08]at hp;subst hp;exact .nil
 |x::xs,vs,hp=>by
  simp only[Dh]at hp;split at hp
  .rename_i a b ha hb;cases hp;exact .cons (a7l ha) (VA hb)
  cases hp
theorem xR{v x}(hp:Zx x=some v):VR X P A m h v x:=by
 cases x with
 |agg cs=>
  simp only[Zx,a0z]at hp;obtain⟨vs,h1,rfl⟩:=hp;have:=VA (X:=X) (P:=P) (A:=A) (m:=m) (h:=h) h1;exact .agg this.1 this.2
 |_=>exact a7l hp
theorem TN{v x}(hp:rZ v=some x):VR X P A m h v x:=by
 cases v<;>simp only[rZ,a08,reduceCtorEq]at hp<;>subst hp
 .exact .bool _
 .exact .int _ _
 .exact .str _
 exact .nil _
theorem GY:∀{vs} {xs:List TV},iV vs=some xs->bZ X P A m h vs xs
 | [],xs,hp=>by simp only[iV,a08]at hp;subst hp;exact .nil
 |v::vs,xs,hp=>by
  simp only[iV]at hp;split at hp
  .rename_i a b ha hb;cases hp;exact .cons (TN ha) (GY hb)
  cases hp
theorem oK{v x}(hp:qG v=some x):VR X P A m h v x:=by
 cases v with
 |agg cs=>
  simp only[qG,a0z]at hp;obtain⟨vs,h1,rfl⟩:=hp;have:=GY (X:=X) (P:=P) (A:=A) (m:=m) (h:=h) h1;exact .agg this.1 this.2
 |_=>exact TN hp
theorem II{v x}(hv:VR X P A m h v x):VR X P A m h (a2d v) x:=by
 cases v with
 |lit b=>
  cases hv with
  |lit=>exact .bool _
  |gone hi _ _=>simp[bC]at hi
 |_=>exact hv
theorem a7m{v x}(hv:VR X P A m h v x):iM x=a0g v:=by
 cases hv with
 |own _ o=>exact o
 |gone hi _ o=>rw[o];cases v<;>simp[bC]at hi<;>rfl
 |_=>rfl
theorem IJ{v x}(hv:VR X P A m h v x):bZ X P A m h v.cells x.cells:=by
 have hq:=a7m hv;cases v with
 |agg cs=>
  cases hv with
  |agg h1 h2=>exact⟨h1,h2⟩
  |gone hi _ _=>simp[bC]at hi
 |dK cs=>
  have hv':=hv;cases hv with
  |dK h1 h2=>exact .cons hv' .nil
  |gone hi _ _=>simp[bC]at hi
 |_=>
  have:x.cells=[x]:=by cases x<;>first|rfl|(simp[iM,a0g]at hq;done)
  rw[this];exact .cons hv .nil
theorem EL:∀{vs} {xs:List TV},bZ X P A m h vs xs->xs.all iM=vs.all a0g
 | [],xs,hv=>by rw[hv.inv0];rfl
 |v::vs,xs,hv=>by obtain⟨x,r,rfl,h1,h2⟩:=hv.inv;simp only[aco,a7m h1,EL h2]
theorem afN{cs xs}(hv:bZ X P A m h cs xs){off n r}(hs:afG cs off n=some r):∃r',sub xs off n=some r'/\bZ X P A m h r r':=by
 unfold afG at hs;split at hs
 .rename_i hl;cases hs;exact⟨_,by unfold sub;rw[a18 (by rw[<-hv.1];exact hl)],(hv.drop off).take n⟩
 cases hs
theorem IK{cs new xs ajP}(hv:bZ X P A m h cs xs)(hn:bZ X P A m h new ajP){off r}(hs:Py cs off new=some r):∃r',wZ xs off ajP=some r'/\bZ X P A m h r r':=by
 unfold Py at hs;split at hs
 .rename_i hl;cases hs;refine⟨_,by unfold wZ;rw[a18 (by rw[<-hv.1,<-hn.1];exact hl)],?_⟩;rw[<-hn.1];exact((hv.take off).app hn).app (hv.drop _)
 cases hs
theorem Bj{cs xs}(hv:bZ X P A m h cs xs){t off v}(hs:Iw P t cs off=some v):∃x,vk P t xs off=some x/\VR X P A m h v x:=by
 unfold Iw at hs;unfold vk;split at hs
 .rename_i n ha hn;simp only[a0z]at hs;obtain⟨r,h1,rfl⟩:=hs;obtain⟨r',g1,g2⟩:=afN hv h1;exact⟨.agg r',by simp only[ha,hn,g1,a1t],.agg g2.1 g2.2⟩
 .rename_i n ha hn;split at hs
  .rename_i h1;obtain⟨x,g1,g2⟩:=hv.get hs;exact⟨x,by simp only[ha,hn,h1,a2r,g1],g2⟩
  cases hs
 cases hs
theorem IL{t z}(hz:TJ P t=some z):∃z',LM P t=some z'/\bZ X P A m h z z':=by
 unfold TJ at hz;split at hz
 .rename_i z' h1;exact⟨z',h1,VA hz⟩
 cases hz
def VPs(X:ny)(P:LI1)(A:Nat->Prop)(m:List MB)(h:List HB)(ps:List (Nat×PV X.Γ))(qs:List (Nat×TV)):Prop:=
 ps.length=qs.length/\∀(i:Nat) a b,ps[i]? = some a->qs[i]? = some b->a.1=b.1/\VR X P A m h a.2 b.2
theorem VPs.inv{a ps qs}(hv:VPs X P A m h (a::ps) qs):∃x r,qs=(a.1,x)::r/\VR X P A m h a.2 x/\VPs X P A m h ps r:=by
 cases qs with
 |nil=>have:=hv.1;simp at this
 |cons q r=>
  obtain⟨h1,h2⟩:=hv.2 0 a q rfl rfl;refine⟨q.2,r,by rw[h1],h2,by have:=hv.1;simpa using this,fun i x y hx hy=>hv.2 (i+1) x y (by simpa using hx) (by simpa using hy)⟩
theorem NW{pl}:∀{ps} {qs:List (Nat×TV)} {cs:List (PV X.Γ)} {xs:List TV},VPs X P A m h ps qs->bZ X P A m h cs xs->∀{r},Pz pl cs ps=some r->∃r',ug pl xs qs=some r'/\bZ X P A m h r r'
 | [],qs,cs,xs,hp,hv,r,hs=>by
  have:qs=[]:=by have:=hp.1;cases qs<;>simp_all
  subst this;simp only[Pz,a08]at hs;subst hs;exact⟨xs,rfl,hv⟩
 |(i,v)::ps,qs,cs,xs,hp,hv,r,hs=>by
  obtain⟨x,rest,rfl,h1,h2⟩:=hp.inv;have hc:=IJ h1;simp only[Pz]at hs;split at hs
  .rename_i off size AQ;split at hs
   .rename_i qX;split at hs
    .rename_i cs' ho;obtain⟨xs',g1,g2⟩:=IK hv hc ho;obtain⟨r',g3,g4⟩:=NW h2 g2 hs;have afq:x.cells.length=size:=by rw[<-hc.1];exact qX
     exact⟨r',by simp only[ug,AQ,afq,a2r,g1,g3],g4⟩
    cases hs
   cases hs
  cases hs
theorem a7n{t ps qs}(hp:VPs X P A m h ps qs){v}(hs:a0i P t ps=some v):∃x,Ot P t qs=some x/\VR X P A m h v x:=by
 unfold a0i at hs;unfold Ot;split at hs
 .rename_i z fs hz hu;obtain⟨z',g1,g2⟩:=IL (A:=A) (m:=m) (h:=h) hz;split at hs
  .rename_i ha;simp only[a0z]at hs;obtain⟨r,h1,rfl⟩:=hs;obtain⟨r',g3,g4⟩:=NW hp g2 h1;exact⟨.agg r',by simp only[g1,hu,ha,a2r,g3,a1t],.agg g4.1 g4.2⟩
  cases hs
 .rename_i z n e hz hu;obtain⟨z',g1,g2⟩:=IL (A:=A) (m:=m) (h:=h) hz;split at hs
  .rename_i k hk;simp only[a0z]at hs;obtain⟨r,h1,rfl⟩:=hs;obtain⟨r',g3,g4⟩:=NW hp g2 h1;exact⟨.agg r',by simp only[g1,hu,hk,g3,a1t],.agg g4.1 g4.2⟩
  cases hs
 cases hs
theorem XM{z z'}(hz:bZ X P A m h z z'):∀n,bZ X P A m h (a0j z n) (times z' n)
 | 0=>.nil
 |n+1=>hz.app (XM hz n)
section
variable{env:List (Nat×PE X.Γ)}{env':List (Nat×EV)}
theorem a2m(he:kG X P A m h env env'){t}:(Gf t env=none/\dQ t env'=none)\/∃v x,Gf t env=some v/\dQ t env'=some x/\JG X P A m h v x:=by
 induction he with
 |nil=>exact .inl ⟨rfl,rfl⟩
 |cons h1 _ ih=>
  rename_i k v x r r' _;simp only[Gf,dQ];by_cases e:k=t
  .right;exact⟨v,x,by rw[a18 e],by rw[a18 e],h1⟩
  rw[a0U e,a0U e];exact ih
theorem pV(he:kG X P A m h env env'){t v}(hl:Gf t env=some v):∃x,dQ t env'=some x/\JG X P A m h v x:=by
 rcases a2m he (t:=t)with⟨h1,_⟩|⟨w,x,h1,h2,h3⟩
 .rw[hl]at h1;cases h1
 rw[hl]at h1;cases h1;exact⟨x,h2,h3⟩
theorem nX(he:kG X P A m h env env'){o v}(hl:GL env o=some v):∃x,JD env' o=some x/\JG X P A m h v x:=by
 cases o with
 |tmp t=>exact pV he hl
 |const c=>
  simp only[GL]at hl;split at hl
  .rename_i b hb;cases hl;exact⟨.val (.bool b),by simp only[JD,hb,a1t],VR.lit b⟩
  .rename_i x _ hx;simp only[a0z]at hl;obtain⟨w,h1,rfl⟩:=hl;exact⟨.val x,by simp only[JD,hx,a1t],xR h1⟩
  cases hl
 |func f=>
  simp only[GL,a08]at hl;subst hl;exact⟨.val (.fn f [] []),rfl,.fn rfl (by simp) rfl (by simp)⟩
 |global g=>cases hl
theorem fZ{v x}(hp:JG X P A m h (.val v) x):∃y,x=.val y/\VR X P A m h v y:=by
 cases x with
 |val y=>exact⟨y,rfl,hp⟩
 |_=>exact hp.elim
theorem EM{k o x}(hp:JG X P A m h (.loc k o) x):x=.loc k o:=by
 cases x with
 |loc k' o'=>obtain⟨rfl,rfl⟩:=hp;rfl
 |_=>exact hp.elim
theorem Kw{x}(hp:JG X P A m h .undef x):x=.undef:=by
 cases x with
 |undef=>rfl
 |_=>exact hp.elim
theorem NY{r j v x}(hp:JG X P A m h (.ent r j v) x):∃c y,x=.ent c j y/\VR X P A m h (.map r) (.map c)/\qG v=some y:=by
 cases x with
 |ent c j' y=>obtain⟨h1,rfl,h2⟩:=hp;exact⟨c,y,rfl,h1,h2⟩
 |_=>exact hp.elim
theorem NZ{r j x}(hp:JG X P A m h (.Fj r j) x):∃c,x=.Fj c j/\VR X P A m h (.map r) (.map c):=by
 cases x with
 |Fj c j'=>obtain⟨h1,rfl⟩:=hp;exact⟨c,rfl,h1⟩
 |_=>exact hp.elim
theorem XO(he:kG X P A m h env env'){o v}(hl:a2e env o=some v):∃x,rM env' o=some x/\VR X P A m h v x:=by
 unfold a2e at hl;split at hl
 .rename_i w hw;cases hl;obtain⟨x,h1,h2⟩:=nX he hw;obtain⟨y,rfl,h3⟩:=fZ h2;exact⟨y,by simp only[rM,h1],h3⟩
 cases hl
theorem jJ(he:kG X P A m h env env'){o v}(hl:Az env o=some v):∃x,rM env' o=some x/\VR X P A m h v x:=by
 unfold Az at hl;split at hl
 .rename_i w hw;cases hl;obtain⟨x,h1,h2⟩:=nX he hw;obtain⟨y,rfl,h3⟩:=fZ h2;exact⟨y,by simp only[rM,h1],II h3⟩
 cases hl
theorem VB(he:kG X P A m h env env'):∀{os} {vs},a0h env os=some vs->∃xs,UM env' os=some xs/\bZ X P A m h vs xs
 | [],vs,hl=>by simp only[a0h,a08]at hl;subst hl;exact⟨[],rfl,.nil⟩
 |o::os,vs,hl=>by
  simp only[a0h]at hl;split at hl
  .rename_i v ws h1 h2;cases hl;obtain⟨x,g1,g2⟩:=jJ he h1;obtain⟨xs,g3,g4⟩:=VB he h2;exact⟨x::xs,by simp only[UM,g1,g3],.cons g2 g4⟩
  cases hl
theorem a0s(he:kG X P A m h env env'):∀{os} {vs:List (Nat×PV X.Γ)},a4j env os=some vs->∃xs,Xb env' os=some xs/\VPs X P A m h vs xs
 | [],vs,hl=>by simp only[a4j,a08]at hl;subst hl;exact⟨[],rfl,rfl,fun i a b ha=>by simp at ha⟩
 |(i,o)::os,vs,hl=>by
  simp only[a4j]at hl;split at hl
  .rename_i v ws h1 h2;cases hl;obtain⟨x,g1,g2⟩:=jJ he h1;obtain⟨xs,g3,g4⟩:=a0s he h2;refine⟨(i,x)::xs,by simp only[Xb,g1,g3],by simp[g4.1],fun j a b ha hb=>?_⟩;cases j with
   |zero=>simp only[a3H,a08]at ha hb;subst ha;subst hb;exact⟨rfl,g2⟩
   |succ j=>exact g4.2 j a b (by simpa using ha) (by simpa using hb)
  cases hl
def OR(X:ny)(P:LI1)(A:Nat->Prop)(m:List MB)(h:List HB):Option (PV X.Γ)->Option TV->Prop
 |none,none=>True
 |some v,some x=>VR X P A m h v x
 |_,_=>False
theorem IQ(he:kG X P A m h env env'){o v}(hl:Px env o=some v):∃x,Xd env' o=some x/\OR X P A m h v x:=by
 cases o with
 |none=>simp only[Px,a08]at hl;subst hl;exact⟨none,rfl,trivial⟩
 |some o=>
  simp only[Px]at hl;split at hl
  .rename_i w hw;cases hl;obtain⟨x,g1,g2⟩:=jJ he hw;exact⟨some x,by simp only[Xd,g1],g2⟩
  cases hl
theorem VD(he:kG X P A m h env env'):∀live,kG X P A m h (jB live env) (pick live env')
 | []=>.nil
 |t::r=>by
  simp only[jB,pick];rcases a2m he (t:=t)with⟨h1,h2⟩|⟨v,x,h1,h2,h3⟩
  .rw[h1,h2];exact VD he r
  rw[h1,h2];exact .cons h3 (VD he r)
theorem aaV(he:kG X P A m h env env'){t b}(hb:dQ t env'=some (.val (.bool b))):kG X P A m h (Pv.CW t b env) env':=by
 induction he with
 |nil=>exact .nil
 |cons h1 h2 ih=>
  rename_i k v x r r';simp only[dQ]at hb;simp only[Pv.CW];by_cases e:k=t
  .rw[a18 e]at hb ⊢;cases hb;exact .cons (VR.lit b) h2
  rw[a0U e]at hb ⊢;exact .cons h1 (ih hb)
theorem afO(he:kG X P A m h env env'):Vy X env=Dn env':=by
 induction he with
 |nil=>rfl
 |cons h1 _ ih=>
  rename_i k v x r r' _;cases v with
  |val v=>obtain⟨y,rfl,_⟩:=fZ h1;simpa[Vy,Dn]using ih
  |loc a b=>rw[EM h1];simp only[Vy,Dn,ih]
  |undef=>rw[Kw h1];simpa[Vy,Dn]using ih
  |ent=>obtain⟨_,_,rfl,_⟩:=NY h1;simpa[Vy,Dn]using ih
  |Fj=>obtain⟨_,rfl,_⟩:=NZ h1;simpa[Vy,Dn]using ih
end
end
structure bW(X:ny)(P:LI1):Prop where
 dec:∀{t:Nat} {vs:List (PV X.Γ)} {a:X.Γ t},X.dec t vs=some a->∀{A:Nat->Prop} {m:List MB} {h:List HB} {xs:List TV},bZ X P A m h vs xs->bZ X P A m h (X.enc t a) xs
 jD:∀(t:Nat) (a:X.Γ t),jD.Iz (X.enc t a)=true
section
variable{X:ny}{P:LI1}{A B:Nat->Prop}{m m':List MB}{h h':List HB}{H H':List (PB X.Γ)}
theorem VR.mono(hAB:∀b,A b->B b){v x}(hv:VR X P A m h v x):VR X P B m h v x:=by
 induction hv with
 |bool=>exact .bool _
 |lit=>exact .lit _
 |int=>exact .int _ _
 |str=>exact .str _
 |nil=>exact .nil _
 |ptr e=>exact .ptr e
 |aO e=>exact .aO e
 |own e o=>exact .own e o
 |win e q q' q2=>exact .win e q q' q2
 |CX e=>exact .CX e
 |Hz e=>exact .Hz e
 |Ku e=>exact .Ku e
 |map e=>exact .map e
 |iter e=>exact .iter e
 |fn h1 _ h3 _ i2 i4=>exact .fn h1 i2 h3 i4
 |l9 e=>exact .l9 e
 |agg h1 _ i2=>exact .agg h1 i2
 |dK h1 _ i2=>exact .dK h1 i2
 |qx=>exact .qx
 |dw a c c2 s z o k f e _ ih=>exact .dw (hAB _ a) c c2 s z o k f e ih
 |el a c l o e q _ ih=>exact .el (hAB _ a) c l o e q ih
 |row e j q=>exact .row e j q
 |gone i e o=>exact .gone i e o
theorem bZ.mono(hAB:∀b,A b->B b){v x}(hv:bZ X P A m h v x):bZ X P B m h v x:=⟨hv.1,fun i a b ha hb=>(hv.2 i a b ha hb).mono hAB⟩
theorem fM:∀{vs} {i:Nat} {v:PV X.Γ},jD.Iz vs=true->vs[i]? = some v->jD v=true
 | [],_,_,_,h=>by simp at h
 |a::vs,i,v,hc,h=>by
  simp only[jD.Iz,a2K]at hc;cases i with
  |zero=>simp only[a3H,a08]at h;subst h;exact hc.1
  |succ i=>exact fM hc.2 (by simpa using h)
theorem VR.jD(hX:bW X P){v x}(hv:VR X P A m h v x)(hc:Pv.jD v=true):VR X P A m' h v x:=by
 induction hv with
 |bool=>exact .bool _
 |lit=>exact .lit _
 |int=>exact .int _ _
 |str=>exact .str _
 |nil=>exact .nil _
 |fn h1 _ h3 _ i2 i4=>
  simp only[Pv.jD,a2K]at hc;exact .fn h1 (fun i x y hx hy=>i2 i x y hx hy (fM hc.1 hx)) h3 (fun i x y hx hy=>i4 i x y hx hy (fM hc.2 hx))
 |agg h1 _ i2=>
  simp only[Pv.jD]at hc;exact .agg h1 (fun i x y hx hy=>i2 i x y hx hy (fM hc hx))
 |dK h1 _ i2=>
  simp only[Pv.jD]at hc;exact .dK h1 (fun i x y hx hy=>i2 i x y hx hy (fM hc hx))
 |qx=>exact .qx
 |dw a c c2 s z o k f e _ ih=>exact .dw a c c2 s z o k f e fun j y i d v h1 h2 h3=>ih j y i d v h1 h2 h3 (fM (hX.jD _ _) h2)
 |el a c l o e q _ ih=>exact .el a c l o e q fun i d v h1 h2=>ih i d v h1 h2 (fM (hX.jD _ _) h1)
 |gone i e o=>rename_i v _ _;cases v<;>simp[bC]at i<;>simp[Pv.jD]at hc
 |_=>simp[Pv.jD]at hc
theorem eu.jD(hX:bW X P){t l cs off sz}(hv:eu X P A m h t l cs off sz):eu X P A m' h t l cs off sz:=
 ⟨hv.1,hv.2.1,fun j a i c v h1 h2 h3=>(hv.2.2 j a i c v h1 h2 h3).jD hX (fM (hX.jD _ _) h2)⟩
theorem eu.mono(hAB:∀b,A b->B b){t l cs off sz}(hv:eu X P A m h t l cs off sz):eu X P B m h t l cs off sz:=
 ⟨hv.1,hv.2.1,fun j a i c v h1 h2 h3=>(hv.2.2 j a i c v h1 h2 h3).mono hAB⟩
theorem VR.move(hX:bW X P)(hA:∀q cs,A q->aV h q=some cs->B q/\h'[q]? = h[q]?){v x}(hv:VR X P A m h v x)(hc:Pv.jD v=true):VR X P B m' h' v x:=by
 induction hv with
 |bool=>exact .bool _
 |lit=>exact .lit _
 |int=>exact .int _ _
 |str=>exact .str _
 |nil=>exact .nil _
 |fn h1 _ h3 _ i2 i4=>
  simp only[Pv.jD,a2K]at hc;exact .fn h1 (fun i x y hx hy=>i2 i x y hx hy (fM hc.1 hx)) h3 (fun i x y hx hy=>i4 i x y hx hy (fM hc.2 hx))
 |agg h1 _ i2=>
  simp only[Pv.jD]at hc;exact .agg h1 (fun i x y hx hy=>i2 i x y hx hy (fM hc hx))
 |dK h1 _ i2=>
  simp only[Pv.jD]at hc;exact .dK h1 (fun i x y hx hy=>i2 i x y hx hy (fM hc hx))
 |qx=>exact .qx
 |dw a c c2 s z o k f e _ ih=>obtain⟨a',c'⟩:=hA _ _ a c;exact .dw a' ((fF c').trans c) (fun hl=>(yV c').trans (c2 hl)) s z o k f e fun j y i d v h1 h2 h3=>ih j y i d v h1 h2 h3 (fM (hX.jD _ _) h2)
 |el a c l o e q _ ih=>obtain⟨a',c'⟩:=hA _ _ a (Bh c);exact .el a' ((yV c').trans c) l o e q fun i d v h1 h2=>ih i d v h1 h2 (fM (hX.jD _ _) h1)
 |gone i e o=>rename_i v _ _;cases v<;>simp[bC]at i<;>simp[Pv.jD]at hc
 |_=>simp[Pv.jD]at hc
theorem eu.move(hX:bW X P)(hA:∀q cs,A q->aV h q=some cs->B q/\h'[q]? = h[q]?){t l cs off sz}(hv:eu X P A m h t l cs off sz):eu X P B m' h' t l cs off sz:=
 ⟨hv.1,hv.2.1,fun j a i c v h1 h2 h3=>(hv.2.2 j a i c v h1 h2 h3).move hX hA (fM (hX.jD _ _) h2)⟩
def FA(A:Nat->Prop)(m:List MB)(is:List Nat):Nat->Prop:=fun b=>AA A m b\/∃i mb,i∈is/\m[i]? = some mb/\mb.own=some b
theorem FA.mono{is js}(hs:∀i,i∈is->i∈js){b}(hb:FA A m is b):FA A m js b:=by
 rcases hb with h|⟨i,mb,h1,h2,h3⟩
 .exact .inl h
 exact .inr ⟨i,mb,hs i h1,h2,h3⟩
theorem PS:∀(is) {m} {i} {mb},(cu is m)[i]? = some mb->mb.own≠none->i∉is/\m[i]? = some mb
 | [],_,_,_,h,_=>⟨by simp,h⟩
 |j::is,m,i,mb,h,hn=>by
  obtain⟨h1,h2⟩:=PS is (m:=m.set j .gone) h hn;by_cases e:j=i
  .subst e;rw[a5E]at h2;cases hx:m[j]? with
   |none=>rw[hx]at h2;cases h2
   |some y=>rw[hx]at h2;cases h2;exact absurd rfl hn
  rw[a1A e]at h2;exact⟨by simp[h1,afR e],h2⟩
theorem Bo{is m b}(hb:b∈aZ (cu is m)):∃i mb,i∉is/\m[i]? = some mb/\mb.own=some b:=by obtain⟨mb,hm,ho⟩:=a6q.1 hb;obtain⟨i,hi⟩:=a9o hm;obtain⟨h1,h2⟩:=PS is hi (by rw[ho];simp);exact⟨i,mb,h1,h2,ho⟩
theorem FA.gone(hr:HR X P A m H h){is b}(hb:FA A m is b):AA A (cu is m) b:=by
 rcases hb with hb|⟨i,mb,h1,h2,h3⟩
 .refine⟨hb.1,fun hm=>?_⟩;obtain⟨i,mb,_,h2,h3⟩:=Bo hm;exact hb.2 (aY h2 h3)
 refine⟨hr.DR b (aY h2 h3),fun hm=>?_⟩;obtain⟨j,Nk,g1,g2,g3⟩:=Bo hm;have:=iW hr.nodup h2 g2 h3 g3;exact g1 (this▸h1)
theorem TP(hX:bW X P)(hr:HR X P A m H h){k ex t i l x}(hl:LR X P (AA A m) m h k ex t l x)(hi:m[i]? = some (.dw x)){is}(hs:i∈is):VR X P (FA A m is) m' h (.dw t l false) x:=by
 cases hl with
 |nil=>exact .qx
 |emp h0 h1 h2 h3 h4=>exact .dw (.inl h0) h1 (fun e=>absurd rfl e) h3 h4 (by simpa using h2) (a1p _) (by simp) (fun j a hj=>by simp at hj) (fun j a i c v hj=>by simp at hj)
 |some h1 h2 h3 h4 h5 h6 h7 h8 h9=>
  refine .dw (cs:=_) (.inr ⟨i,_,hs,hi,?_⟩) (by unfold aV;rw[h4]) (fun _=>xO h4 (by omega)) h2 h3 (by omega) (a1p _) (by simp) h9.1 ?_
  .simp only[MB.own];rw[a0U (by simpa using h1)]
  intro j a q c v e1 e2 e3;exact((h9.2.2 j a q c v e1 e2 e3).mono fun b hb=>.inl hb).jD hX (fM (hX.jD _ _) e2)
theorem VR.part{F t l fu b off len cap sz ex}(hv:VR X P F m h (.dw t l fu) (.aO b off len cap sz ex)){o n cap' ex' fu'}(hn:o+n<=len)(hc:n<=cap')(hw:n=0\/o+cap'=cap)(hfu:fu'=true->ex'=true/\cap'=n) :VR X P F m h (.dw t ((l.drop o).take n) fu') (.aO b (off+o*sz) n cap' sz ex'):=by
 cases hv with
 |dw a c c2 s z ol k f e r=>
  have hlen:((l.drop o).take n).length=n:=by rw[a4w,a4u];omega
  have:=@VR.dw X P F m h t ((l.drop o).take n) fu' b (off+o*sz) cap' sz ex' _ a c (fun iI=>by
   have h1:n≠0:=fun e=>iI (by subst e;simp);have h2:=hw.resolve_left h1;have h3:off+o*sz+cap'*sz=off+cap*sz:=by rw[<-h2,a4p];omega
   rw[h3];exact c2 (fun e=>by subst e;simp at hlen;omega)) s z (by
   rw[hlen];have:(o+n)*sz<=l.length*sz:=a3X sz hn;rw[a4p]at this;omega) (by rw[hlen];exact hc) (by rw[hlen];exact hfu) (fun j y hy=>by
    rw[a5G]at hy;split at hy
    .rw[a5z]at hy;exact e _ _ hy
    .cases hy) (fun j y i d v hy h2 h3=>by
    rw[a5G]at hy;split at hy
    .rw[a5z]at hy;refine r _ _ i d v hy h2 ?_;rw[<-h3];congr 1;rw[a4p];omega
    .cases hy)
  rwa [hlen]at this
 |gone hi _ _=>simp[bC]at hi
mutual
theorem VE(hX:bW X P)(hr:HR X P A m H h):∀{v w:PV X.Γ} {x:TV},VR X P (AA A m) m h v x->view H v=some w->∀{is:List Nat},(∀i,i∈lG v->i∈is)->VR X P (FA A m is) m' h w x
 |.own i,w,x,hv,hw,is,hs=>by
  simp only[view]at hw;split at hw
  .rename_i k ex t l hH;cases hw;obtain⟨mb,h1,h2⟩:=hr.at_ i _ hH;cases mb with
   |dw y=>
    cases hv with
    |own e o=>rw[h1]at e;cases e;exact TP hX hr h2 h1 (hs i (by simp[lG]))
    |gone hi e o=>simp only[bC,a08]at hi;subst hi;rw[h1]at e;cases e
   |_=>exact h2.elim
  cases hw
 |.win i o n,w,x,hv,hw,is,hs=>by
  simp only[view]at hw;split at hw
  .rename_i k ex t l hH;cases hw;obtain⟨mb,h1,h2⟩:=hr.at_ i _ hH;cases mb with
   |dw y=>
    have h2':LR X P (AA A m) m h k ex t l y:=h2;have hfz:VR X P (FA A m is) m' h (.dw t l false) y:=TP hX hr h2' h1 (hs i (by simp[lG]));cases hv with
    |win e q q' q2=>
     rw[h1]at e;cases e;exact hfz.part q q' q2 (by simp)
    |CX e=>
     rw[h1]at e;cases e;cases h2' with
     |nil=>simp only[List.drop_nil,List.take_nil];exact .qx
    |gone hi e o=>simp only[bC,a08]at hi;subst hi;rw[h1]at e;cases e
   |_=>exact h2.elim
  cases hw
 |.fn f a c,w,x,hv,hw,is,hs=>by
  simp only[view]at hw;split at hw
  .rename_i a' c' h1 h2;cases hw;cases hv with
   |fn e1 e2 e3 e4=>
    have g1:=lX hX hr ⟨e1,e2⟩ h1 (is:=is) fun i hi=>hs i (by simp[lG,hi]);have g2:=lX hX hr ⟨e3,e4⟩ h2 (is:=is) fun i hi=>hs i (by simp[lG,hi]);exact .fn g1.1 g1.2 g2.1 g2.2
   |gone hi _ _=>simp[bC]at hi
  cases hw
 |.agg cs,w,x,hv,hw,is,hs=>by
  simp only[view,a0z]at hw;obtain⟨cs',h1,rfl⟩:=hw;cases hv with
  |agg e1 e2=>have g1:=lX hX hr ⟨e1,e2⟩ h1 (is:=is) fun i hi=>hs i (by simp[lG,hi]);exact .agg g1.1 g1.2
  |gone hi _ _=>simp[bC]at hi
 |.dK cs,w,x,hv,hw,is,hs=>by
  simp only[view,a0z]at hw;obtain⟨cs',h1,rfl⟩:=hw;cases hv with
  |dK e1 e2=>have g1:=lX hX hr ⟨e1,e2⟩ h1 (is:=is) fun i hi=>hs i (by simp[lG,hi]);exact .dK g1.1 g1.2
  |gone hi _ _=>simp[bC]at hi
 |.bool b,w,x,hv,hw,is,hs=>by simp only[view,a08]at hw;subst hw;exact(hv.mono fun b hb=>.inl hb).jD hX rfl
 |.lit b,w,x,hv,hw,is,hs=>by
  simp only[view,a08]at hw;subst hw;cases hv with
  |lit=>exact .bool _
  |gone hi _ _=>simp[bC]at hi
 |.int k n,w,x,hv,hw,is,hs=>by simp only[view,a08]at hw;subst hw;exact(hv.mono fun b hb=>.inl hb).jD hX rfl
 |.str b,w,x,hv,hw,is,hs=>by simp only[view,a08]at hw;subst hw;exact(hv.mono fun b hb=>.inl hb).jD hX rfl
 |.nil b,w,x,hv,hw,is,hs=>by simp only[view,a08]at hw;subst hw;exact(hv.mono fun b hb=>.inl hb).jD hX rfl
 |.dw t l f,w,x,hv,hw,is,hs=>by simp only[view,a08]at hw;subst hw;exact(hv.mono fun b hb=>.inl hb).jD hX rfl
 |.ptr _ _ _,w,x,hv,hw,is,hs=>by simp[view]at hw
 |.aO _ _ _ _ _ _,w,x,hv,hw,is,hs=>by simp[view]at hw
 |.map _,w,x,hv,hw,is,hs=>by simp[view]at hw
 |.l9 _,w,x,hv,hw,is,hs=>by simp[view]at hw
 |.el _ _ _,w,x,hv,hw,is,hs=>by simp[view]at hw
 |.row _ _ _,w,x,hv,hw,is,hs=>by simp[view]at hw
 |.Hz _,w,x,hv,hw,is,hs=>by simp[view]at hw
theorem lX(hX:bW X P)(hr:HR X P A m H h):∀{vs ws:List (PV X.Γ)} {xs:List TV},bZ X P (AA A m) m h vs xs->views H vs=some ws->∀{is:List Nat},(∀i,i∈lG.kT vs->i∈is)->bZ X P (FA A m is) m' h ws xs
 | [],ws,xs,hv,hw,is,hs=>by simp only[view.views,a08]at hw;subst hw;rw[hv.inv0];exact .nil
 |v::vs,ws,xs,hv,hw,is,hs=>by
  obtain⟨x,r,rfl,h1,h2⟩:=hv.inv;simp only[view.views]at hw;split at hw
  .rename_i w Xe g1 g2;cases hw;exact .cons (VE hX hr h1 g1 fun i hi=>hs i (by simp[lG.kT,hi])) (lX hX hr h2 g2 fun i hi=>hs i (by simp[lG.kT,hi]))
  cases hw
end
end
open Go Tw
section
variable{X:ny}{P:LI1}{A B F:Nat->Prop}{m m':List MB}{h h':List HB}{H H':List (PB X.Γ)}
theorem a2n(hX:bW X P)(hr:HR X P A m H h){t cs xs}(hv:bZ X P (AA A m) m h cs xs){a is}(hd:aaP X H t cs=some (a,is)):bZ X P (FA A m is) m' h (X.enc t a) xs:=by
 unfold aaP at hd;split at hd
 .rename_i vs h1;split at hd
  .rename_i b h2;simp only[a08,a1n]at hd;obtain⟨rfl,rfl⟩:=hd;exact hX.dec h2 (lX hX hr hv h1 fun i hi=>hi)
  cases hd
 cases hd
theorem Bq(hX:bW X P)(hr:HR X P A m H h){t sz}:∀{n} {cs} {xs:List TV},bZ X P (AA A m) m h cs xs->∀{l} {is:List Nat},yR X H t sz n cs=some (l,is)->l.length=n/\eu X P (FA A m is) m' h t l xs 0 sz
 | 0,cs,xs,hv,l,is,hd=>by simp only[yR,a08,a1n]at hd;obtain⟨rfl,rfl⟩:=hd;exact⟨rfl,fun j a hj=>by simp at hj,by simp,fun j a i c v hj=>by simp at hj⟩
 |n+1,cs,xs,hv,l,is,hd=>by
  simp only[yR]at hd;split at hd
  rotate_left
  .cases hd
  rename_i qX;split at hd
  rotate_left
  .cases hd
  rename_i a js l' ks h1 h2;simp only[a08,a1n]at hd;obtain⟨rfl,rfl⟩:=hd;have g1:=(a2n (m':=m') hX hr (hv.take sz) h1).mono fun b hb=>FA.mono (js:=js++ks) (fun i hi=>a6h _ hi) hb;obtain⟨e2,g2⟩:=Bq hX hr (hv.drop sz) h2;have g2:=g2.mono fun b hb=>FA.mono (js:=js++ks) (fun i hi=>ach _ hi) hb;have hl:(X.enc t a).length=sz:=by rw[g1.1,a4w,<-hv.1];omega
  refine⟨by simp[e2],fun j b hj=>?_,?_,fun j b i c v hj hi hx=>?_⟩
  .cases j with
   |zero=>simp only[a3H,a08]at hj;subst hj;exact hl
   |succ j=>exact g2.1 j b (by simpa using hj)
  .have:=g2.2.1;rw[a4u]at this;have h3:=hv.1;simp only[a4T,a4p];omega
  cases j with
  |zero=>
   simp only[a3H,a08]at hj;subst hj;have aQ:i<sz:=by rw[<-hl];exact(a0w.1 hi).1
   refine g1.2 i c v hi ?_;rw[a5G,a18 aQ,<-hx];simp
  |succ j=>
   refine g2.2.2 j b i c v (by simpa using hj) hi ?_;rw[a5z,<-hx];congr 1;rw[a4p];omega
def SlR(X:ny)(P:LI1)(F:Nat->Prop)(m:List MB)(h:List HB)(t sz:Nat)(l:List (X.Γ t))(x:TV):Prop:=
 (x=.nil .aO/\l=[])\/∃b off cap ex cs,x=.aO b off l.length cap sz ex/\l.length<=cap/\aV h b=some cs/\(l≠[]->nG h b (off+cap*sz)=some cs)/\eu X P F m h t l cs off sz
theorem a2o{t sz l fu x}(hv:VR X P F m h (.dw t l fu) x)(hz:dH P t=some sz):SlR X P F m h t sz l x:=by
 cases hv with
 |qx=>exact .inl ⟨rfl,rfl⟩
 |dw a c c2 s z o k f e r=>
  rw[hz]at s;cases s;exact .inr ⟨_,_,_,_,_,rfl,k,c,c2,e,o,r⟩
 |gone hi _ _=>simp[bC]at hi
theorem a7o{k ex t sz l x}(hv:LR X P F m h k ex t l x)(hz:dH P t=some sz):SlR X P F m h t sz l x:=by
 cases hv with
 |nil=>exact .inl ⟨rfl,rfl⟩
 |emp h0 h1 h2 h3 h4=>
  rw[hz]at h3;cases h3;exact .inr ⟨_,_,_,_,_,rfl,a1p _,h1,fun e=>absurd rfl e,fun j a hj=>by simp at hj,by simpa using h2,fun j a i c v hj=>by simp at hj⟩
 |some h1 h2 h3 h4 h5 h6 h7 h8 h9=>
  rw[hz]at h2;cases h2;exact .inr ⟨_,_,_,_,_,rfl,a1p _,by unfold aV;rw[h4],fun _=>xO h4 (by omega),h9⟩
theorem eu.part{t sz l cs off o n}(hv:eu X P F m h t l cs off sz)(hn:o+n<=l.length):eu X P F m h t ((l.drop o).take n) cs (off+o*sz) sz:=by
 have hlen:((l.drop o).take n).length=n:=by rw[a4w,a4u];omega
 refine⟨fun j y hy=>?_,?_,fun j y i c v hy h2 h3=>?_⟩
 .rw[a5G]at hy;split at hy
  .rw[a5z]at hy;exact hv.1 _ _ hy
  cases hy
 .have:=hv.2.1;have h2:(o+n)*sz<=l.length*sz:=a3X sz hn;rw[hlen];rw[a4p]at h2;omega
 rw[a5G]at hy;split at hy
 .rw[a5z]at hy;refine hv.2.2 _ y i c v hy h2 ?_;rw[<-h3];congr 1;rw[a4p];omega
 cases hy
theorem eu.take{t sz l cs off}(hv:eu X P F m h t l cs off sz):eu X P F m h t l ((cs.drop off).take (l.length*sz)) 0 sz:=by
 refine⟨hv.1,?_,fun j a i c v h1 h2 h3=>?_⟩
 .have:=hv.2.1;rw[a4w,a4u];omega
 rw[a5G]at h3;split at h3
 .rw[a5z]at h3;exact hv.2.2 j a i c v h1 h2 (by rw[<-h3];congr 1;omega)
 cases h3
theorem SlR.src{t sz l x}(hv:SlR X P F m h t sz l x):∃new,dZ sz h x=some (l.length,new)/\new.length=l.length*sz/\eu X P F m h t l new 0 sz:=by
 rcases hv with⟨rfl,rfl⟩|⟨b,off,cap,ex,cs,rfl,hk,hc,LY,hw⟩
 .exact⟨[],rfl,by simp,fun j a hj=>by simp at hj,by simp,fun j a i c v hj=>by simp at hj⟩
 refine⟨(cs.drop off).take (l.length*sz),?_,?_,hw.take⟩
 .have:=hw.2.1;simp only[dZ,a2r,sub];by_cases h0:l.length=0
  .rw[a18 h0,h0];simp
  rw[a0U h0,LY (fun e=>h0 (by rw[e];rfl))];simp only;rw[a18 this];rfl
 have:=hw.2.1;rw[a4w,a4u];omega
theorem eu.app{t sz l r a b}(h1:eu X P F m h t l a 0 sz)(h2:eu X P F m h t r b 0 sz)(ha:a.length=l.length*sz):eu X P F m h t (l++r) (a++b) 0 sz:=by
 refine⟨fun j y hy=>?_,?_,fun j y i c v hy hi hx=>?_⟩
 .rcases a5l j l.length with hl|hl
  .rw[a0Q hl]at hy;exact h1.1 j y hy
  rw[a1y hl]at hy;exact h2.1 _ y hy
 .have:=h2.2.1;simp only[a1D,a4p];omega
 rcases a5l j l.length with hl|hl
 .rw[a0Q hl]at hy;have aQ:i<sz:=by rw[<-h1.1 j y hy];exact(a0w.1 hi).1
  have:(j+1)*sz<=l.length*sz:=a3X sz hl;rw[a4p]at this;rw[a0Q (by omega)]at hx;exact h1.2.2 j y i c v hy hi hx
 rw[a1y hl]at hy;have:l.length*sz<=j*sz:=a3X sz hl;rw[a1y (by omega)]at hx;refine h2.2.2 _ y i c v hy hi ?_;rw[<-hx];congr 1;rw[ha,Nat.sub_mul];omega
theorem sG{Γ:Nat->Type}{t t'}{l:List (Γ t')}{r}(h:Cj t t' l=some r):∃e:t'=t,r=e▸l:=by
 unfold Cj at h;split at h
 .rename_i e;cases h;exact⟨e,rfl⟩
 cases h
theorem VF(hX:bW X P)(hr:HR X P A m H h){e sz:Nat}{x tx}(hv:VR X P (AA A m) m h x tx)(hz:dH P e=some sz){rows is}(hs:Bf X H e sz x=some (rows,is)) :∃new,dZ sz h tx=some (rows.length,new)/\new.length=rows.length*sz/\eu X P (FA A m is) m' h e rows new 0 sz:=by
 have up:∀{l:List (X.Γ e)} {y:TV},SlR X P (AA A m) m h e sz l y->∃new,dZ sz h y=some (l.length,new)/\new.length=l.length*sz/\eu X P (FA A m []) m' h e l new 0 sz:=by intro l y hy;obtain⟨new,h1,h2,h3⟩:=hy.src;exact⟨new,h1,h2,(h3.mono fun b hb=>.inl hb).jD hX⟩
 cases x with
 |nil k=>
  cases k<;>simp only[Bf]at hs<;>try (cases hs;done)
  simp only[a08,a1n]at hs;obtain⟨rfl,rfl⟩:=hs;cases hv with
  |nil=>exact up (.inl ⟨rfl,rfl⟩)
  |gone hi _ _=>simp[bC]at hi
 |dw t l fu=>
  simp only[Bf,a0z,a1n]at hs;obtain⟨r,h1,rfl,rfl⟩:=hs;obtain⟨rfl,rfl⟩:=sG h1;exact up (a2o hv hz)
 |own i=>
  simp only[Bf]at hs;split at hs
  .rename_i k ex t l hH;simp only[a0z,a1n]at hs;obtain⟨r,h1,rfl,rfl⟩:=hs;obtain⟨rfl,rfl⟩:=sG h1;obtain⟨mb,g1,g2⟩:=hr.at_ i _ hH;cases mb with
   |dw y=>
    cases hv with
    |own e' o=>rw[g1]at e';cases e';exact up (a7o g2 hz)
    |gone hi e' o=>simp only[bC,a08]at hi;subst hi;rw[g1]at e';cases e'
   |_=>exact g2.elim
  .cases hs
 |win i o n=>
  simp only[Bf]at hs;split at hs
  .rename_i k ex t l hH;simp only[a0z,a1n]at hs;obtain⟨r,h1,rfl,rfl⟩:=hs;obtain⟨rfl,rfl⟩:=sG h1;obtain⟨mb,g1,g2⟩:=hr.at_ i _ hH;cases mb with
   |dw y=>
    have hsl:=a7o g2 hz;cases hv with
    |win e' q q' q2=>
     rw[g1]at e';cases e';rcases hsl with⟨h,_⟩|⟨b,off,cap,ex',cs,he,hk,hc,LY,hw⟩
     .cases h
     .cases he;have hlen:n=((r.drop o).take n).length:=by rw[a4w,a4u];omega
      refine up (.inr ⟨_,_,_,_,cs,congrArg (fun k=>TV.aO _ _ k _ _ _) hlen,hlen▸q',hc,fun iI=>?_,hw.part q⟩);have h1:n≠0:=fun e=>iI (by subst e;simp);have h2:=q2.resolve_left h1;rw[<-LY (fun e=>iI (by rw[e];simp)),<-h2];congr 1;rw[a4p];omega
    |CX e'=>
     rw[g1]at e';cases e';refine up (.inl ⟨rfl,by simp⟩)
    |gone hi e' o=>simp only[bC,a08]at hi;subst hi;rw[g1]at e';cases e'
   |_=>exact g2.elim
  .cases hs
 |aO b off len cap sz' ex=>
  simp only[Bf]at hs;split at hs
  .rename_i cs hH;split at hs
   .rename_i qX;obtain⟨qX,afP⟩:=qX;subst qX;obtain⟨mb,g1,g2⟩:=hr.at_ b _ hH;cases mb with
    |gJ c=>
     obtain⟨cs',g3,g4⟩:=g2;cases hv with
     |aO e'=>
      rw[g1]at e';cases e';obtain⟨hl,hw⟩:=Bq (m':=m') hX hr (g4.drop off) hs;subst hl;rw[g4.1]at afP;refine⟨(cs'.drop off).take (rows.length*sz'),?_,by rw[a4w,a4u];omega,by simpa using hw.take⟩;simp only[dZ,a2r,xP g3 (by simp),sub];split
      .rename_i h0;rw[h0,adl,List.take_zero]
      .simp only[afP,a2r,a1t]
     |gone hi e' o=>simp only[bC,a08]at hi;subst hi;rw[g1]at e';cases e'
    |_=>exact g2.elim
   .cases hs
  .cases hs
 |_=>simp[Bf]at hs
end
open Go Tw
def GZ(m:List MB)(i b:Nat):Prop:=∃mb,m[i]? = some mb/\mb.own=some b
structure IR(m:List MB)(h:List HB)(p:PI)(t:zl):Prop where
 all:t.all=true->p.i.all=true
 tl:∀k,.l k∈t.ts->.l k∈p.i.ts
 wl:∀k,.l k∈t.ws->.l k∈p.i.ws
 wh:∀b,.h b∈t.ws->(∃i,.h i∈p.i.ws/\GZ m i b)\/(p.wall=true/\b∈aZ m)
 th:∀b,.h b∈t.ts->((∃i,.h i∈p.i.ts/\GZ m i b)\/b∉aZ m)/\b<h.length
 hp:p.hp=false->t.all=false/\(∀b,.h b∉t.ts)/\∀b,.h b∉t.ws
theorem IR.none{m h p}:IR m h p cO:=⟨fun h=>(by cases h),fun _ h=>(by cases h),fun _ h=>(by cases h),fun _ h=>(by cases h),fun _ h=>(by cases h),fun _=>⟨rfl,fun _ h=>(by cases h),fun _ h=>(by cases h)⟩⟩
section
variable{X:ny}{P:LI1}{A F:Nat->Prop}{m m':List MB}{h h':List HB}{H H':List (PB X.Γ)}
structure vZ(X:ny)(P:LI1)(A:Nat->Prop)(m:List MB)(ps:bT X.Γ)(ts:St):Prop where
 heap:HR X P A m ps.heap ts.heap
 llen:ps.loc.length=ts.loc.length
 loc:∀(k:Nat) cs,ps.loc[k]? = some cs->∃cs',ts.loc[k]? = some cs'/\bZ X P (AA A m) m ts.heap cs cs'
 env:kG X P (AA A m) m ts.heap ps.env ts.env
theorem vZ.step{ps ts}(hR:vZ X P A m ps ts){H1 h1}(hr:HR X P A m' H1 h1)(hF:Fr m ts.heap m' h1)(hU:Up m m'):vZ X P A m' { ps with heap:=H1 } { ts with heap:=h1 }:=
 ⟨hr,hR.llen,fun k cs hk=>let ⟨cs',g1,g2⟩:=hR.loc k cs hk;⟨cs',g1,g2.step hF hU⟩,hR.env.step hF hU⟩
def OpR(X:ny)(P:LI1)(A:Nat->Prop)(m:List MB)(call:dN)(site:Nat->Bool)(ts:St)(o:Oper)(pe:PE X.Γ)(ps1:bT X.Γ)(pi:PI):Prop:=
 ∃ev iT ti m1,qo P call site ts o=some (ev,iT,ti)/\iT.env=ts.env/\iT.ws=ts.ws/\vZ X P A m1 ps1 iT/\JG X P (AA A m1) m1 iT.heap pe ev/\Fr m ts.heap m1 iT.heap/\Up m m1/\IR m ts.heap pi ti/\∀b,.h b∈ti.ws->b∈aZ m
theorem vN{call site ps ts o pe ev pi}(hR:vZ X P A m ps ts)(h:qo P call site ts o=some (ev,ts,cO))(hp:JG X P (AA A m) m ts.heap pe ev):OpR X P A m call site ts o pe ps pi:=
 ⟨ev,ts,cO,m,h,rfl,rfl,hR,hp,.refl,.refl,.none,fun b hb=>by cases hb⟩
theorem vZ.CW{ps ts}(hR:vZ X P A m ps ts){x b}(hb:rM ts.env x=some (.bool b)):vZ X P A m (ps.CW x b) ts:=by
 cases x with
 |tmp t=>
  refine⟨hR.heap,hR.llen,hR.loc,aaV hR.env ?_⟩;simp only[rM,JD]at hb;split at hb
  .rename_i v hv;cases hb;exact hv
  cases hb
 |_=>exact hR
theorem TQ{ps ts}(hR:vZ X P A m ps ts){site cs cs'}(hc:bZ X P (AA A m) m ts.heap cs cs') :∃m1,(rO site ts cs').2.env=ts.env/\(rO site ts cs').2.ws=ts.ws/\vZ X P A m1 (EK site ps cs).2 (rO site ts cs').2/\JG X P (AA A m1) m1 (rO site ts cs').2.heap (EK site ps cs).1 (rO site ts cs').1/\Fr m ts.heap m1 (rO site ts cs').2.heap/\Up m m1:=by
 cases site with
 |true=>
  have hp:=hR.heap.push (pb:=.cells cs) (hb:=.cells .own cs') (mb:=.gJ ts.heap.length) (.inl rfl) ?_
  .refine⟨m++[.gJ ts.heap.length],rfl,rfl,hR.step hp.1 hp.2.1 hp.2.2,?_,hp.2.1,hp.2.2⟩;show VR X P _ _ _ (.ptr ps.heap.length 0 cs.length) (.ptr ts.heap.length 0 cs'.length);rw[hc.1];exact .ptr (by rw[<-hR.heap.len];simp)
  .refine⟨cs',by simp,hc.step ?_ (xQ _)⟩;refine⟨by simp,fun b hb _=>by rw[a0Q hb],fun b hb=>?_,fun b cs hc=>⟨cs,by rw[fF (a0Q (fG hc)),hc],a1p _⟩⟩;rw[jw,a3N,kU]at hb;rcases hb with hb|hb
   .exact .inl hb
   .simp[MB.own]at hb;exact .inr (by omega)
 |false=>
  refine⟨m,rfl,rfl,⟨hR.heap,by simp[EK,rO,hR.llen],fun k ds hk=>?_,hR.env⟩,?_,.refl,.refl⟩
  .simp only[EK,rO,a3F,a3V]at hk ⊢;rcases a5l k ps.loc.length with hl|hl
   .rw[a0Q hl]at hk;obtain⟨ds',g1,g2⟩:=hR.loc k ds hk;exact⟨ds',by rw[a0Q (by rw[<-hR.llen];exact hl)];exact g1,g2⟩
   .rw[a1y hl]at hk;have:k-ps.loc.length=0:=by
     rcases abL (k-ps.loc.length)with e|e
     .exact e
     .rw[a4U (by simp;omega)]at hk;cases hk
    rw[this]at hk;simp only[a3H,a08]at hk;subst hk;exact⟨cs',by rw[a1y (by rw[<-hR.llen];exact hl),<-hR.llen,this];rfl,hc⟩
  .exact⟨hR.llen,rfl⟩
theorem iU{i mb b}(h1:m[i]? = some mb)(h2:mb.own=some b):GZ m i b:=⟨mb,h1,h2⟩
theorem a0t{i b}(h:GZ m i b):b∈aZ m:=let ⟨_,h1,h2⟩:=h;aY h1 h2
theorem IR.rdH{i b}(h0:GZ m i b)(hl:b<h.length):IR m h ⟨yx (.h i),false,false,true⟩ (yx (.h b)):=
 ⟨fun h=>(by cases h),fun k hk=>(by simp[yx]at hk),fun k hk=>(by simp[yx]at hk),fun b hb=>(by simp[yx]at hb),fun c hc=>(by simp[yx]at hc;subst hc;exact⟨.inl ⟨i,by simp[yx],h0⟩,hl⟩),fun h=>(by cases h)⟩
theorem IR.wrH{i b}(h0:GZ m i b)(hl:b<h.length):IR m h ⟨qm (.h i),false,false,true⟩ (qm (.h b)):=
 ⟨fun h=>(by cases h),fun k hk=>(by simp[qm]at hk),fun k hk=>(by simp[qm]at hk),fun c hc=>(by simp[qm]at hc;subst hc;exact .inl ⟨i,by simp[qm],h0⟩),fun c hc=>(by simp[qm]at hc;subst hc;exact⟨.inl ⟨i,by simp[qm],h0⟩,hl⟩),fun h=>(by cases h)⟩
theorem IR.loc{k}:IR m h ⟨yx (.l k),false,false,false⟩ (yx (.l k)):=
 ⟨fun h=>(by cases h),fun j hj=>by simpa[yx]using hj,fun k hk=>(by simp[yx]at hk),fun b hb=>(by simp[yx]at hb),fun c hc=>(by simp[yx]at hc),fun _=>⟨rfl,fun b hb=>(by simp[yx]at hb),fun b hb=>(by simp[yx]at hb)⟩⟩
theorem IR.apZ{k}:IR m h ⟨qm (.l k),false,false,false⟩ (qm (.l k)):=
 ⟨fun h=>(by cases h),fun j hj=>by simpa[qm]using hj,fun j hj=>by simpa[qm]using hj,fun c hc=>(by simp[qm]at hc),fun c hc=>(by simp[qm]at hc),fun _=>⟨rfl,fun b hb=>(by simp[qm]at hb),fun b hb=>(by simp[qm]at hb)⟩⟩
theorem XP{t cs o sz off n x}(ho:o+sz<=cs.length)(hp:vk P t ((cs.drop o).take sz) off=some x)(hn:dH P t=some n):vk P t cs (o+off)=some x/\off+n<=sz/\o+off+n<=cs.length:=by
 unfold vk at hp ⊢;split at hp
 .rename_i k ha hk;rw[hn]at hk;cases hk;simp only[a0z]at hp;obtain⟨r,h1,rfl⟩:=hp;unfold sub at h1;split at h1
  .rename_i hl;rw[a4w,a4u]at hl;refine⟨?_,by omega,by omega⟩;cases h1;simp only[ha,hn,sub];rw[a18 (by omega)];simp only[a1t,a08,TV.agg.injEq];rw[aiw,afF,afC,a7x (by omega)]
  cases h1
 .rename_i k ha hk;rw[hn]at hk;cases hk;split at hp
  .rename_i h1;subst h1;rw[a5G]at hp;split at hp
   .rename_i h2;rw[a5z]at hp;have:=(a0w.1 hp).1;refine⟨by simp only[ha,hn,a2r];exact hp,by omega,by omega⟩
   cases hp
  cases hp
 cases hp
theorem TR{t cs off x}(hp:vk P t cs off=some x):∃n,dH P t=some n:=by
 unfold vk at hp;split at hp
 .rename_i n _ hn;exact⟨n,hn⟩
 .rename_i n _ hn;exact⟨n,hn⟩
 cases hp
theorem eu.row{t sz l cs off j a}(hw:eu X P F m h t l cs off sz)(hj:l[j]? = some a):bZ X P F m h (X.enc t a) ((cs.drop (off+j*sz)).take sz)/\off+j*sz+sz<=cs.length:=by
 have hlen:=hw.1 j a hj;have aQ:j<l.length:=(a0w.1 hj).1;have h2:(j+1)*sz<=l.length*sz:=a3X sz aQ;have h3:=hw.2.1;rw[a4p]at h2;refine⟨⟨by rw[hlen,a4w,a4u];omega,fun i c v hc hv=>?_⟩,by omega⟩;rw[a5G]at hv;split at hv
 .rw[a5z]at hv;exact hw.2.2 j a i c v hj hc hv
 cases hv
theorem Bv{t}{l:List (X.Γ t)}{j}(hj:j<l.length):l[j]? = some (l.getD j (X.d0 t)):=by rw[a4h,a0N hj];rfl
theorem I9(hX:bW X P){ps ts}(hR:vZ X P A m ps ts){t pa ea}(ha:JG X P (AA A m) m ts.heap pa ea){v pi}(hl:Bg X P t ps pa=some (v,pi)) :∃x ti,loadT P t ts ea=some (x,ti)/\VR X P (AA A m) m ts.heap v x/\IR m ts.heap ⟨pi,false,false,!Vw pa⟩ ti/\ti.ws=[]:=by
 cases pa with
 |loc k off=>
  rw[EM ha];simp only[Bg]at hl;split at hl
  .rename_i cs hk;simp only[a0z,a1n]at hl;obtain⟨w,h1,rfl,rfl⟩:=hl;obtain⟨cs',g1,g2⟩:=hR.loc k cs hk;obtain⟨x,g3,g4⟩:=Bj g2 h1;exact⟨x,yx (.l k),by simp only[loadT,g1,g3,a1t],g4,.loc,rfl⟩
  .cases hl
 |undef|ent|Fj=>simp[Bg]at hl
 |val a=>
  obtain⟨y,rfl,hy⟩:=fZ ha;cases a with
  |ptr b off lim=>
   simp only[Bg]at hl;split at hl
   .rename_i cs n hb hn;split at hl
    .rename_i Nb;simp only[a0z,a1n]at hl;obtain⟨w,h1,rfl,rfl⟩:=hl;obtain⟨mb,g1,g2⟩:=hR.heap.at_ b _ hb;cases mb with
     |gJ c=>
      obtain⟨cs',g3,g4⟩:=g2;cases hy with
      |ptr e=>
       rw[g1]at e;cases e;obtain⟨x,g5,g6⟩:=Bj g4 h1;refine⟨x,yx (.h c),?_,g6,.rdH (iU g1 rfl) (a0w.1 g3).1,rfl⟩;simp only[loadT,xP g3 (show BK.own≠.last by simp),hn,Nb,a2r,g5,a1t]
      |gone hi e _=>simp only[bC,a08]at hi;subst hi;rw[g1]at e;cases e
     |_=>exact g2.elim
    .cases hl
   .rename_i cs n hb hn;split at hl
    .rename_i Nb;simp only[a0z,a1n]at hl;obtain⟨w,h1,rfl,rfl⟩:=hl;obtain⟨mb,g1,g2⟩:=hR.heap.at_ b _ hb;cases mb with
     |jI c=>
      obtain⟨g0,cs',g3,g4⟩:=g2;cases hy with
      |ptr e=>rw[g1]at e;cases e
      |gone hi e _=>
       simp only[bC,a08]at hi;subst hi;rw[g1]at e;cases e with
       |r _ e=>
        simp only[roV,a08]at e;subst e;obtain⟨x,g5,g6⟩:=Bj g4 h1;refine⟨x,yx (.h c),?_,g6,⟨fun h=>(by cases h),fun k hk=>(by simp[yx]at hk),fun k hk=>(by simp[yx]at hk),fun b hb=>(by simp[yx]at hb),fun d hd=>?_,fun h=>(by cases h)⟩,rfl⟩
        .simp only[loadT,xP g3 (show BK.own≠.last by simp),hn,Nb,a2r,g5,a1t]
        .simp[yx]at hd;subst hd;exact⟨.inr g0,(a0w.1 g3).1⟩
     |_=>exact g2.elim
    .cases hl
   .cases hl
  |row b j off=>
   simp only[Bg]at hl;split at hl
   .rename_i k ex e l hb;simp only[a0z,a1n]at hl;obtain⟨w,h1,rfl,rfl⟩:=hl;obtain⟨mb,g1,g2⟩:=hR.heap.at_ b _ hb;cases mb with
    |dw z=>
     cases hy with
     |row e' hj hq=>
      rw[g1]at e';cases e';cases(g2:LR X P _ _ _ _ _ _ _ _)with
      |emp=>omega
      |some q1 q2 q3 q4 q5 q6 q7 q8 q9=>
       have vY:=q9.row (Bv hj);obtain⟨x,g5,g6⟩:=Bj vY.1 h1;obtain⟨n,hn⟩:=TR g5;obtain⟨g7,g8,_⟩:=XP vY.2 g5 hn;rw[a3O]at g7;refine⟨x,yx (.h _),?_,g6,.rdH (iU g1 (by simp only[MB.own];rw[a0U (by simpa using q1)])) (a0w.1 q4).1,rfl⟩;have tX:=vY.2;simp only[loadT,xO q4 q8.symm,hn];rw[a18 (by omega),g7];rfl
     |gone hi e' _=>simp only[bC,a08]at hi;subst hi;rw[g1]at e';cases e'
    |_=>exact g2.elim
   .cases hl
  |el e a off=>
   simp only[Bg,a0z,a1n]at hl;obtain⟨w,h1,rfl,rfl⟩:=hl;cases hy with
   |el q1 q2 q2' q3 q4 q5 q6=>
    rename_i b o sz lim cs;have vY:bZ X P (AA A m) m ts.heap (X.enc e a) ((cs.drop o).take sz):=by
     refine⟨by rw[q4,a4w,a4u];omega,fun i c v hc hv=>?_⟩;rw[a5G]at hv;split at hv
     .rw[a5z]at hv;exact q6 i c v hc hv
     .cases hv
    obtain⟨x,g5,g6⟩:=Bj vY h1;obtain⟨n,hn⟩:=TR g5;obtain⟨g7,g8,_⟩:=XP q3 g5 hn;refine⟨x,yx (.h b),?_,g6,⟨fun h=>(by cases h),fun k hk=>(by simp[yx]at hk),fun k hk=>(by simp[yx]at hk),fun b hb=>(by simp[yx]at hb),fun c hc=>?_,fun h=>(by cases h)⟩,rfl⟩
    .simp only[loadT,q2,hn];rw[a18 (by omega),g7];rfl
    .simp[yx]at hc;subst hc;exact⟨.inr q1.2,a4o q2⟩
   |gone hi e' _=>simp[bC]at hi
  |_=>simp[Bg]at hl
end
open Go Tw
section
variable{X:ny}{P:LI1}{A F:Nat->Prop}{m m':List MB}{h h':List HB}{H H':List (PB X.Γ)}
theorem PU{cs new o sz off r}(ho:o+sz<=cs.length)(hr:wZ ((cs.drop o).take sz) off new=some r):wZ cs (o+off) new=some (cs.take o++r++cs.drop (o+sz))/\r.length=sz:=by
 unfold wZ at hr ⊢;split at hr
 rotate_left
 .cases hr
 rename_i hl;have qY:=hl;rw[a4w,a4u]at hl;cases hr;refine⟨?_,?_⟩
 .rw[a18 (by omega)];simp only[a08];apply aaA;intro i;simp only[List.getElem?_append,a1D,a4w,a4u,a5G,a5z];rcases a5l i o with h1|h1
  .simp (disch:=omega) only [a7x,a18]
  rcases a5l i (o+off)with h2|h2
  .rw[a18 (by omega),a18 (by omega),a18 (by omega),a18 (by omega),a0U (by omega),a18 (by omega),a18 (by omega),a18 (by omega),a18 (by omega)];congr 1;omega
  rcases a5l i (o+off+new.length)with h3|h3
  .rw[a18 (by omega),a0U (by omega),a18 (by omega),a0U (by omega),a18 (by omega),a0U (by omega)];congr 1;omega
  rcases a5l i (o+sz)with h4|h4
  .rw[a0U (by omega),a18 (by omega),a0U (by omega),a0U (by omega),a18 (by omega)];congr 1;omega
  rw[a0U (by omega),a0U (by omega)];congr 1;omega
 simp only[a1D,a4w,a4u];omega
theorem eu.set{t sz j l cs r a}(hw:eu X P F m h t l cs 0 sz)(hr:bZ X P F m h (X.enc t a) r)(hl:r.length=sz)(hj:j<l.length) :eu X P F m h t (l.set j a) (cs.take (j*sz)++r++cs.drop (j*sz+sz)) 0 sz:=by
 have h2:(j+1)*sz<=l.length*sz:=a3X sz hj;rw[a4p]at h2;have h3:=hw.2.1;refine⟨fun k y hy=>?_,?_,fun k y i c v hy hi hx=>?_⟩
 .rw[aay]at hy;split at hy
  .cases hy;rw[hr.1,hl]
  .exact hw.1 k y hy
 .simp only[a1D,a4w,a4u,a5N];omega
 .rw[aay]at hy;split at hy
  .rename_i e;subst e;cases hy;have aQ:i<sz:=by rw[<-hl,<-hr.1];exact(a0w.1 hi).1
   refine hr.2 i c v hi ?_;rw[a0Q (by simp only[a1D,a4w];omega),a1y (by rw[a4w];omega),a4w]at hx;rw[<-hx];congr 1;omega
  .rename_i e;have hlen:=hw.1 k y hy;have aQ:i<sz:=by rw[<-hlen];exact(a0w.1 hi).1
   have hk:k<l.length:=(a0w.1 hy).1;refine hw.2.2 k y i c v hy hi ?_;rw[<-hx];rcases a5l k j with h4|h4
   .have:(k+1)*sz<=j*sz:=a3X sz h4;rw[a4p]at this;rw[a0Q (by simp only[a1D,a4w];omega),a0Q (by rw[a4w];omega),a5G,a18 (by omega)]
   .have h5:j+1<=k:=(by omega);have:(j+1)*sz<=k*sz:=a3X sz h5;rw[a4p]at this;rw[a1y (by simp only[a1D,a4w];omega),a5z];congr 1;simp only[a1D,a4w];omega
theorem MC{b}{pb:PB X.Γ}:∀{is} {H},is.contains b=false->bf is (H.set b pb)=(bf is H).set b pb
 | [],_,_=>rfl
 |i::is,H,hn=>by simp only[aiA,aaw,aiv,ne_eq]at hn;simp only[bf,XI];rw[List.set_comm _ _ hn.1,MC hn.2]
theorem zK(hX:bW X P){ps ps1 ts}(hR:vZ X P A m ps ts){t pa ea}(ha:JG X P (AA A m) m ts.heap pa ea){v x}(hv:VR X P (AA A m) m ts.heap v x){pi}(hl:Vp X P t ps pa v=some (ps1,pi)) :∃iT ti m1,storeT P t ts ea x=some (iT,ti)/\iT.env=ts.env/\iT.ws=ts.ws/\vZ X P A m1 ps1 iT/\Fr m ts.heap m1 iT.heap/\Up m m1/\IR m ts.heap ⟨pi,false,false,!Vw pa⟩ ti/\∀b,.h b∈ti.ws->b∈aZ m:=by
 have hc:=IJ hv;unfold Vp at hl;split at hl
 .rename_i n hn;split at hl
  .rename_i OU;have aaW:x.cells.length=n/\x.cells.all iM=true:=⟨by rw[<-hc.1];exact OU.1,by rw[EL hc];exact OU.2⟩;cases pa with
   |loc k off=>
    rw[EM ha];simp only at hl;split at hl
    .rename_i cs hk;simp only[a0z,a1n]at hl;obtain⟨TT,h1,rfl,rfl⟩:=hl;obtain⟨cs',g1,g2⟩:=hR.loc k cs hk;obtain⟨Kz,g3,g4⟩:=IK g2 hc h1;refine⟨{ ts with loc:=ts.loc.set k Kz },qm (.l k),m,?_,rfl,rfl,⟨hR.heap,by simp[hR.llen],fun j ds hj=>?_,hR.env⟩,.refl,.refl,.apZ,fun b hb=>by simp[qm]at hb⟩
     .simp only[storeT,hn,aaW,adx,a2r,g1,g3,a1t]
     .by_cases e:k=j
      .subst e;rw[a5E]at hj;rw[hk]at hj;cases hj;exact⟨Kz,by rw[a5E,g1];rfl,g4⟩
      .rw[a1A e]at hj;obtain⟨ds',q1,q2⟩:=hR.loc j ds hj;exact⟨ds',by rw[a1A e];exact q1,q2⟩
    .cases hl
   |undef|ent|Fj=>simp at hl
   |val a=>
    obtain⟨y,rfl,hy⟩:=fZ ha;cases a with
    |ptr b off lim=>
     simp only at hl;split at hl
     .rename_i Nb;split at hl
      .rename_i cs hb;simp only[a0z,a1n]at hl;obtain⟨TT,h1,rfl,rfl⟩:=hl;obtain⟨mb,g1,g2⟩:=hR.heap.at_ b _ hb;cases mb with
       |gJ c=>
        obtain⟨cs',g3,g4⟩:=g2;cases hy with
        |ptr e=>
         rw[g1]at e;cases e;obtain⟨Kz,g5,g6⟩:=IK g4 hc h1;have hlen:Kz.length=cs'.length:=by
          unfold wZ at g5;split at g5
          .cases g5;simp only[a1D,a4w,a4u];omega
          .cases g5
         have aQ:=(a0w.1 g3).1;obtain⟨hr1,hF⟩:=hR.heap.set (pb:=.cells TT) (hb:=.cells .own Kz) g1 (c:=c) rfl (fun EO XQ=>⟨Kz,by simp[aV,aQ],by
          simp only[aV,g3,a08]at XQ;subst XQ;omega⟩) fun hF=>⟨Kz,by simp[aQ],g6.step hF .refl⟩
         refine⟨{ ts with heap:=ts.heap.set c (.cells .own Kz) },qm (.h c),m,?_,rfl,rfl,hR.step hr1 hF .refl,hF,.refl,.wrH (iU g1 rfl) aQ,fun b hb=>?_⟩
         .simp only[storeT,hn,aaW,adx,a2r,Nb,XL g3,g5,a1t]
         .simp[qm]at hb;subst hb;exact aY g1 rfl
        |gone hi e _=>simp only[bC,a08]at hi;subst hi;rw[g1]at e;cases e
       |_=>exact g2.elim
      .cases hl
     .cases hl
    |row b j off=>
     simp only at hl;split at hl
     .rename_i k0 ex e l hb;split at hl
      .rename_i TT h1;split at hl
       .rename_i a is hd;split at hl
        .cases hl
        .rename_i hnb;simp only[a08,a1n]at hl;obtain⟨rfl,rfl⟩:=hl;obtain⟨mb,g1,g2⟩:=hR.heap.at_ b _ hb;cases mb with
         |dw z=>
          cases hy with
          |row e' hj hq=>
           rw[g1]at e';cases e';cases(g2:LR X P _ _ _ _ _ _ _ _)with
           |emp=>omega
           |some q1 q2 q3 q4 q5 q6 q7 q8 q9=>
            rename_i c sz xx kk cs;obtain⟨Ce,yL,hkr,hko⟩:=Kv q5;have rG:(MB.dw (TV.aO c 0 l.length l.length sz xx)).own=some c:=by simp only[MB.own];rw[a0U (by simpa using q1)]
            have vY:=q9.row (Bv hj);simp only[a3O]at vY;obtain⟨r,g3,g4⟩:=IK vY.1 hc h1;obtain⟨g5,g6⟩:=PU vY.2 g3;have aq0:=a2n (m':=cu is m) hX hR.heap g4 hd;have hgo:=hR.heap.bf is;have RX:=iP (h:=ts.heap) is m;have ajT:is.contains b=false:=(by simpa using hnb);have hm1:(cu is m)[b]? = some (.dw (.aO c 0 l.length l.length sz xx)):=by rw[IG is g1,ajT];rfl
            have aQ:=(a0w.1 q4).1;have SL:(cs.take (j*sz)++r++cs.drop (j*sz+sz)).length=cs.length:=by simp only[a1D,a4w,a4u];omega
            obtain⟨hr1,hF⟩:=hgo.set (pb:=.list k0 ex e (l.set j a)) (hb:=.cells Ce (cs.take (j*sz)++r++cs.drop (j*sz+sz))) hm1 rG (fun EO XQ=>⟨cs.take (j*sz)++r++cs.drop (j*sz+sz),by simp[aV,aQ],by
             simp only[aV,q4,a08]at XQ;subst XQ;omega⟩) fun hF=>by
              have hw:=(q9.step RX.1 RX.2).set (aq0.mono fun b hb=>hb.gone hR.heap) g6 hj;have:=LR.some (X:=X) (P:=P) (A:=AA A (cu is m)) (m:=cu is m) (h:=ts.heap.set c (.cells Ce (cs.take (j*sz)++r++cs.drop (j*sz+sz)))) (k:=k0) (ex:=ex) (t:=e) (l:=l.set j a) (b:=c) (sz:=sz) (e:=xx) (kk:=Ce) (cs:=cs.take (j*sz)++r++cs.drop (j*sz+sz))
               (by intro e0;apply q1;have:=congrArg List.length e0;rw[a5N]at this;exact a6t.1 this) q2 q3 (by simp[aQ]) hkr (fun e0=>hko (q6 e0)) q7 (by rw[SL,a5N];exact q8) (hw.step hF .refl)
              rw[a5N]at this;exact this
            rw[<-MC ajT]at hr1;have Rx:=RX.1.trans hF;refine⟨{ ts with heap:=ts.heap.set c (.cells Ce (cs.take (j*sz)++r++cs.drop (j*sz+sz))) },qm (.h c),cu is m,?_,rfl,rfl,hR.step hr1 Rx RX.2,Rx,RX.2,.wrH (iU g1 rG) aQ,fun b hb=>?_⟩
            .have h9:j*sz+off+n<=l.length*sz:=by
              have h8:=vY.2;unfold wZ at g3;split at g3
              .rename_i h0;rw[a4w,a4u,aaW.1]at h0;omega
              .cases g3
             simp only[storeT,hn,aaW,adx,a2r,h9,a2i q4 yL q8.symm,g5,a1t]
            .simp[qm]at hb;subst hb;exact aY g1 rG
          |gone hi e' _=>simp only[bC,a08]at hi;subst hi;rw[g1]at e';cases e'
         |_=>exact g2.elim
       .cases hl
      .cases hl
     .cases hl
    |_=>simp at hl
  .cases hl
 .cases hl
end
open Go Tw
section
variable{X:ny}{P:LI1}{A F:Nat->Prop}{m m':List MB}{h h':List HB}{H H':List (PB X.Γ)}
theorem oL{v x}(hv:VR X P A m h v x):JG X P A m h (.val v) (.val x):=hv
theorem OH{ps ts}(hR:vZ X P A m ps ts){o pa pb ea}(ha:JG X P (AA A m) m ts.heap pa ea)(hl:IB X ps o pa=some pb):∃eb,RD o ea=some eb/\JG X P (AA A m) m ts.heap pb eb:=by
 cases pa with
 |loc k off=>
  rw[EM ha];simp only[IB,a08]at hl;subst hl;exact⟨.loc k (off+o),rfl,rfl,rfl⟩
 |undef|ent|Fj=>simp[IB]at hl
 |val a=>
  obtain⟨y,rfl,hy⟩:=fZ ha;cases a with
  |ptr b off lim=>
   simp only[IB]at hl;split at hl
   .rename_i cs hb;split at hl
    .rename_i hle;cases hl;obtain⟨mb,g1,g2⟩:=hR.heap.at_ b _ hb;cases mb with
     |gJ c=>
      cases hy with
      |ptr e=>exact⟨.val (.ptr _ (off+o) lim),by simp only[RD,hle,a2r],VR.ptr e⟩
      |gone hi e q=>simp only[bC,a08]at hi;subst hi;rw[g1]at e;cases e
     |_=>exact g2.elim
    cases hl
   .rename_i cs hb;split at hl
    .rename_i hle;cases hl;obtain⟨mb,g1,g2⟩:=hR.heap.at_ b _ hb;cases mb with
     |jI c=>
      cases hy with
      |ptr e=>rw[g1]at e;cases e
      |gone hi e q=>
       simp only[bC,a08]at hi;subst hi;rw[g1]at e;cases e with
       |r _ e=>simp only[roV,a08]at e;subst e;exact⟨.val (.ptr _ (off+o) lim),by simp only[RD,hle,a2r],VR.gone rfl (.ofR g1 rfl) rfl⟩
     |_=>exact g2.elim
    cases hl
   cases hl
  |el t a off=>
   simp only[IB]at hl;split at hl
   .rename_i hle;cases hl;cases hy with
    |el q1 q2 q2' q3 q4 q5 q6=>
     rename_i b o0 sz lim cs;rw[q4]at hle;refine⟨.val (.ptr b (o0+off+o) lim),by simp only[RD];rw[a18 (by omega)],?_⟩;rw[aar];exact VR.el q1 q2 q2' q3 q4 hle q6
    |gone hi _ _=>simp[bC]at hi
   cases hl
  |row b j off=>
   simp only[IB,ajH]at hl;split at hl
   rotate_left
   .cases hl
   rename_i n hn;split at hn
   rotate_left
   .cases hn
   rename_i k ex e l hb;cases hn;split at hl
   .rename_i hle;cases hl;obtain⟨mb,g1,g2⟩:=hR.heap.at_ b _ hb;cases mb with
    |dw z=>
     cases hy with
     |row e' hj hq=>
      rw[g1]at e';cases e';cases(g2:LR X P _ _ _ _ _ _ _ _)with
      |emp=>omega
      |some q1 q2 q3 q4 q5 q6 q7 q8 q9=>
       rw[q9.1 j _ (Bv hj)]at hle;have vY:=(q9.row (Bv hj)).2;refine⟨.val (.ptr _ (j*_+off+o) (l.length*_)),by simp only[RD];rw[a18 (by omega)],?_⟩;rw[aar];exact VR.row g1 hj hle
     |gone hi e' _=>simp only[bC,a08]at hi;subst hi;rw[g1]at e';cases e'
    |_=>exact g2.elim
   cases hl
  |_=>simp[IB]at hl
theorem aaY{ps ts}(hR:vZ X P A m ps ts){b:Nat}{k ex e l}(hb:ps.heap[b]? = some (.list k ex e l)){y}(hy:VR X P (AA A m) m ts.heap (.own b) y)(hl:l≠[]) :∃c sz x,y=.aO c 0 l.length l.length sz x/\m[b]? = some (.dw y)/\dH P e=some sz/\0<sz:=by
 obtain⟨mb,g1,g2⟩:=hR.heap.at_ b _ hb;cases mb with
 |dw z=>
  cases hy with
  |own e' o=>
   rw[g1]at e';cases e';cases(g2:LR X P _ _ _ _ _ _ _ _)with
   |nil=>exact absurd rfl hl
   |emp=>exact absurd rfl hl
   |some q1 q2 q3=>exact⟨_,_,_,rfl,g1,q2,q3⟩
  |gone hi e' _=>simp only[bC,a08]at hi;subst hi;rw[g1]at e';cases e'
 |_=>exact g2.elim
theorem AU{ps ts}(hR:vZ X P A m ps ts){t px pb ex}(hx:JG X P (AA A m) m ts.heap px ex){i ti}(hi:VR X P (AA A m) m ts.heap i ti){qs}(hl:GR X P t ps px i=some (pb,qs))(hq:∀q∈qs,q) :∃eb,nH P t ex ti=some eb/\JG X P (AA A m) m ts.heap pb eb:=by
 have Vd:∀{k:IntKind} {iv:Int} {n:Nat},gV iv n->idx n (.int k iv)=some iv.toNat/\iv.toNat<n:=by intro k iv n hn;unfold gV at hn;refine⟨by simp only[idx];rw[a18 hn],by omega⟩
 have hpi:∀{n j:Nat},a4k X n i=some j->idx n ti=some j:=by
  intro n j hj;cases i<;>simp only[a4k]at hj<;>try (cases hj;done)
  cases hi with
  |int=>exact hj
  |gone e _ _=>simp[bC]at e
 unfold GR at hl;split at hl
 .rename_i e hu;split at hl
  .rename_i n t' l fu k iv hn;split at hl
   .rename_i ht;subst ht;simp only[a08,a1n]at hl;obtain⟨rfl,rfl⟩:=hl;have hr:=Vd (k:=k) (hq _ a3M);have:ti=.int k iv:=by
     cases hi with
     |int=>rfl
     |gone e _ _=>simp[bC]at e
    subst this;obtain⟨y,rfl,hy⟩:=fZ hx;rcases a2o hy hn with⟨rfl,rfl⟩|⟨b,off,cap,ex',cs,rfl,hk,hc,LY,hw⟩
    .have:=hr.2;simp at this
    .have vY:=hw.row (Bv hr.2);have hA:AA A m b:=by
      cases hy with
      |dw a=>exact a
      |gone e _ _=>simp[bC]at e
     have OU:=LY (by intro e0;rw[e0]at hr;have:=hr.2;simp at this);have hle:off+iv.toNat*n+n<=off+cap*n:=by have h1:(iv.toNat+1)*n<=cap*n:=a3X n (by have:=hr.2;omega);rw[a4p,abm]at h1;omega
     refine⟨.val (.ptr b (off+iv.toNat*n) (off+cap*n)),?_,?_⟩
     .simp only[nH,hu,hn,a2r,hr.1,a1t]
     .have:=VR.el (X:=X) (P:=P) (A:=AA A m) (m:=m) (h:=ts.heap) (t:=t') (a:=l.getD iv.toNat (X.d0 t')) (off:=0) (o:=off+iv.toNat*n) hA OU hle vY.2 (hw.1 _ _ (Bv hr.2)) (a5S _) (fun i c v h1 h2=>hw.2.2 _ _ i c v (Bv hr.2) h1 h2);exact oL (by simpa using this)
   .cases hl
  .rename_i n b k iv hn;split at hl
   .rename_i w ex' t' l hb;split at hl
    .rename_i ht;subst ht;simp only[a08,a1n]at hl;obtain⟨rfl,rfl⟩:=hl;have hr:=Vd (k:=k) (hq _ a3M);have:ti=.int k iv:=by
      cases hi with
      |int=>rfl
      |gone e _ _=>simp[bC]at e
     subst this;obtain⟨y,rfl,hy⟩:=fZ hx;obtain⟨c,sz,x',rfl,g1,g2,g3⟩:=aaY hR hb hy (by intro e0;rw[e0]at hr;have:=hr.2;simp at this);rw[hn]at g2;cases g2;refine⟨.val (.ptr c (iv.toNat*n) (l.length*n)),?_,?_⟩
     .simp only[nH,hu,hn,a2r,hr.1,a1t,a3O]
     .have:=VR.row (X:=X) (P:=P) (A:=AA A m) (m:=m) (h:=ts.heap) (off:=0) g1 hr.2 (a5S n);exact oL (by simpa using this)
    .cases hl
   .cases hl
  .rename_i n b o q k iv hn;split at hl
   .rename_i w ex' t' l hb;split at hl
    .rename_i ht;subst ht;simp only[a08,a1n]at hl;obtain⟨rfl,rfl⟩:=hl;have hr:=Vd (k:=k) (hq _ a3M);have:ti=.int k iv:=by
      cases hi with
      |int=>rfl
      |gone e _ _=>simp[bC]at e
     subst this;obtain⟨y,rfl,hy⟩:=fZ hx;obtain⟨mb,g1,g2⟩:=hR.heap.at_ b _ hb;cases mb with
     |dw z=>
      cases hy with
      |win e' w1 w2 w3=>
       rw[g1]at e';cases e';cases(g2:LR X P _ _ _ _ _ _ _ _)with
       |emp=>have:=hr.2;omega
       |some q1 q2 q3=>
        rw[hn]at q2;cases q2;have hp:=oL (VR.row (X:=X) (P:=P) (A:=AA A m) (m:=m) (h:=ts.heap) (j:=o+iv.toNat) (off:=0) g1 (by have:=hr.2;omega) (a5S n));refine⟨_,?_,hp⟩;have h3:=w3.resolve_left (by have:=hr.2;omega);simp only[nH,hu,hn,a2r,hr.1,a1t,a3O,a4p,adh,<-h3]
      |CX e'=>have:=hr.2;omega
      |gone hi e' _=>simp only[bC,a08]at hi;subst hi;rw[g1]at e';cases e'
     |_=>exact g2.elim
    .cases hl
   .cases hl
  .rename_i n b off len cap sz ex' hn;split at hl
   .rename_i cs hb;split at hl
    .rename_i qX;subst qX;simp only[a0z,a1n]at hl;obtain⟨j,h1,rfl,rfl⟩:=hl;obtain⟨y,rfl,hy⟩:=fZ hx;obtain⟨mb,g1,g2⟩:=hR.heap.at_ b _ hb;cases mb with
     |gJ c=>
      cases hy with
      |aO e=>
       have:=hpi h1;rw[g1]at e;cases e;exact⟨.val (.ptr c (off+j*n) (off+cap*n)),by simp only[nH,hu,hn,a2r,this,a1t],VR.ptr g1⟩
      |gone wR e' _=>simp only[bC,a08]at wR;subst wR;rw[g1]at e';cases e'
     |_=>exact g2.elim
    .cases hl
   .cases hl
  .cases hl
 .rename_i len e hu;split at hl
  .rename_i n hn;split at hl
   .rename_i j hj;simp only[a0z,a1n]at hl;obtain⟨pa,h1,rfl,rfl⟩:=hl;obtain⟨eb,g1,g2⟩:=OH hR hx h1;exact⟨eb,by simp only[nH,hu,hn,hpi hj,g1],g2⟩
   .cases hl
  .cases hl
 .cases hl
end
open Go Tw
section
variable{X:ny}{P:LI1}{A F:Nat->Prop}{m m':List MB}{h h':List HB}{H H':List (PB X.Γ)}
theorem ZP(hr:HR X P A m H h){at_ x tx}(hx:VR X P (AA A m) m h x tx){v pi}(hl:afH X P at_ H x=some (v,pi)) :∃w ti,ZC P at_ h tx=some (w,ti)/\VR X P (AA A m) m h v w/\IR m h ⟨pi,false,false,true⟩ ti/\ti.ws=[]:=by
 unfold afH at hl;split at hl
 .rename_i t ht;unfold ZC;simp only[ht];split at hl
  .rename_i s hu;cases hl;cases hx with
   |str=>exact⟨_,_,by first|(simp only[hu];done)|(simp only[hu];rfl),.int _ _,.none,rfl⟩
   |gone hi _ _=>simp[bC]at hi
  .rename_i n e _ hu;cases hl;exact⟨_,_,by first|(simp only[hu];done)|(simp only[hu];rfl),.int _ _,.none,rfl⟩
  .rename_i e b off len cap sz ex hu;split at hl
   .rename_i cs hb;cases hl;obtain⟨mb,g1,g2⟩:=hr.at_ b _ hb;cases mb with
    |gJ c=>
     cases hx with
     |aO e'=>exact⟨_,_,by first|(simp only[hu];done)|(simp only[hu];rfl),.int _ _,.none,rfl⟩
     |gone hi e' _=>simp only[bC,a08]at hi;subst hi;rw[g1]at e';cases e'
    |_=>exact g2.elim
   .cases hl
  .rename_i e hu;cases hl;cases hx with
   |nil=>exact⟨_,_,by first|(simp only[hu];done)|(simp only[hu];rfl),.int _ _,.none,rfl⟩
   |gone hi _ _=>simp[bC]at hi
  .rename_i e t' l fu hu;cases hl;cases hx with
   |qx=>exact⟨_,_,by first|(simp only[hu];done)|(simp only[hu];rfl),.int _ _,.none,rfl⟩
   |dw=>exact⟨_,_,by first|(simp only[hu];done)|(simp only[hu];rfl),.int _ _,.none,rfl⟩
   |gone hi _ _=>simp[bC]at hi
  .rename_i e b hu;split at hl
   .rename_i k ex t' l hb;cases hl;obtain⟨mb,g1,g2⟩:=hr.at_ b _ hb;cases mb with
    |dw z=>
     cases hx with
     |own e' _=>
      rw[g1]at e';cases e';cases(g2:LR X P _ _ _ _ _ _ _ _)with
      |nil=>exact⟨_,_,by first|(simp only[hu];done)|(simp only[hu];rfl),.int _ _,.none,rfl⟩
      |emp=>exact⟨_,_,by first|(simp only[hu];done)|(simp only[hu];rfl),.int _ _,.none,rfl⟩
      |some=>exact⟨_,_,by first|(simp only[hu];done)|(simp only[hu];rfl),.int _ _,.none,rfl⟩
     |gone hi e' _=>simp only[bC,a08]at hi;subst hi;rw[g1]at e';cases e'
    |_=>exact g2.elim
   .cases hl
  .rename_i e b o n hu;split at hl
   .rename_i k ex t' l hb;cases hl;obtain⟨mb,g1,g2⟩:=hr.at_ b _ hb;cases mb with
    |dw z=>
     cases hx with
     |win=>exact⟨_,_,by first|(simp only[hu];done)|(simp only[hu];rfl),.int _ _,.none,rfl⟩
     |CX=>exact⟨_,_,by first|(simp only[hu];done)|(simp only[hu];rfl),.int _ _,.none,rfl⟩
     |gone hi e' _=>simp only[bC,a08]at hi;subst hi;rw[g1]at e';cases e'
    |_=>exact g2.elim
   .cases hl
  .rename_i kt e hu;cases hl;cases hx with
   |nil=>exact⟨_,_,by first|(simp only[hu];done)|(simp only[hu];rfl),.int _ _,.none,rfl⟩
   |gone hi _ _=>simp[bC]at hi
  .rename_i kt e r hu;split at hl
   .rename_i es hb;cases hl;obtain⟨mb,g1,g2⟩:=hr.at_ r _ hb;cases mb with
    |gJ c=>
     obtain⟨gQ,g3,g4,g5⟩:=g2;cases hx with
     |map e'=>
      rw[g1]at e';cases e';exact⟨_,_,by first|(simp only[hu,g3];done)|(simp only[hu,g3];rfl),by rw[g4];exact .int _ _,.rdH (iU g1 rfl) (a0w.1 g3).1,rfl⟩
     |gone hi e' _=>simp only[bC,a08]at hi;subst hi;rw[g1]at e';cases e'
    |_=>exact g2.elim
   .cases hl
  .cases hl
 .cases hl
def a7q:BinOp->Option TV
 |.eql=>some (.bool false)
 |.neq=>some (.bool true)
 |_=>none
theorem ZM{op t x y a b ta tb}(ha:VR X P A m h a ta)(hb:VR X P A m h b tb){v}(hl:afI X P op t x y a b=some v):∃w,uj P op t x y ta tb=some w/\VR X P A m h v w:=by
 unfold afI at hl;split at hl
 .rename_i u w h1 h2;split at hl
  .rename_i r hr;rw[jX ha h1,jX hb h2];exact⟨r,hr,xR hl⟩
  cases hl
 rename_i Zu;split at hl
 rotate_left
 .cases hl
 rename_i hn;have key:∃k,LQ P t=some k/\((ta=.nil k/\LP tb=some k/\tb.zk=none)\/(tb=.nil k/\LP ta=some k/\ta.zk=none)):=by
  unfold a2f at hn;split at hn
  rotate_left
  .cases hn
  rename_i k hk;refine⟨k,hk,?_⟩;simp only[aag,a2K,a6E]at hn;have ajU:∀{z:PV X.Γ} {tz:TV},VR X P A m h z tz->z=.nil k->tz=.nil k:=by
   intro z tz hz e;subst e;cases hz with
   |nil=>rfl
   |gone hi _ _=>simp[bC]at hi
  have adv:∀{z:PV X.Γ} {tz:TV},VR X P A m h z tz->(match z with|.fn _ _ _=>some NK.fn|.el _ _ _=>some NK.ptr|_=>none)=some k->LP tz=some k/\tz.zk=none:=by
   intro z tz hz e;cases hz with
   |fn=>exact⟨e,rfl⟩
   |el=>exact⟨e,rfl⟩
   |gone hi _ _=>cases z<;>simp[bC]at hi<;>simp at e
   |_=>simp at e
  have ajV:∀{z:PV X.Γ},(match z with|.nil k=>some k|_=>none)=some k->z=.nil k:=by
   intro z e;cases z<;>simp at e
   rw[e]
  rcases hn with⟨h1,h2⟩|⟨h1,h2⟩
  .have:=adv hb h2;exact .inl ⟨ajU ha (ajV h1),this.1,this.2⟩
  have:=adv ha h1;exact .inr ⟨ajU hb (ajV h2),this.1,this.2⟩
 obtain⟨k,hk,hc⟩:=key;have afQ:uj P op t x y ta tb=a7q op:=by
  rcases hc with⟨rfl,h2,h3⟩|⟨rfl,h2,h3⟩
  .have hnn:Dj P t (.nil k) tb=true:=by unfold Dj;rw[hk];simp[ZE,h2]
   unfold uj;rw[h3];cases(TV.nil k).zk<;>simp only[hnn,a2r]<;>cases op<;>rfl
  have hnn:Dj P t ta (.nil k)=true:=by unfold Dj;rw[hk];simp[ZE,h2]
  unfold uj;rw[h3];simp only[hnn,a2r];cases op<;>rfl
 rw[afQ];cases op<;>simp only at hl ⊢<;>try (cases hl;done)
 .cases hl;exact⟨_,rfl,.bool _⟩
 cases hl;exact⟨_,rfl,.bool _⟩
theorem PW{op t x y b ta tb}(hb:VR X P A m h b tb){v q q'}(hl:NU X P op t b q=some (v,q'))(hq:q')(h2:q->LP ta=some .aO/\ta.zk=none):∃w,uj P op t x y ta tb=some w/\VR X P A m h v w:=by
 unfold NU at hl;split at hl
 .rename_i hk;have h1:tb=.nil .aO:=by
   cases hb with
   |nil=>rfl
   |gone hi _ _=>simp[bC]at hi
  subst h1;have key:q->uj P op t x y ta (.nil .aO)=a7q op:=fun hq=>by
   obtain⟨h2,h3⟩:=h2 hq;have hnn:Dj P t ta (.nil .aO)=true:=by unfold Dj;rw[hk];simp[ZE,h2]
   unfold uj;rw[h3];simp only[hnn,a2r];cases op<;>rfl
  split at hl
  .cases hl;rw[key hq];exact⟨_,rfl,.bool _⟩
  .cases hl;rw[key hq];exact⟨_,rfl,.bool _⟩
  cases hl
 cases hl
theorem a4q(hr:HR X P A m H h){op t x y a b ta tb}(ha:VR X P (AA A m) m h a ta)(hb:VR X P (AA A m) m h b tb){v q}(hl:Vr X P op t H a b=some (v,q))(hq:q):∃w,uj P op t x y ta tb=some w/\VR X P (AA A m) m h v w:=by
 unfold Vr at hl;split at hl
 .rename_i l fu;refine PW hb hl hq (fun iI=>?_);cases ha with
  |qx=>exact absurd rfl iI
  |dw=>exact⟨rfl,rfl⟩
  |gone hi _ _=>simp[bC]at hi
 .rename_i i;split at hl
  .rename_i k ex t' l hi;refine PW hb hl hq (fun iI=>?_);obtain⟨mb,g1,g2⟩:=hr.at_ i _ hi;cases ha with
   |own e o=>
    rw[g1]at e;cases e;cases g2 with
    |nil=>exact absurd rfl iI
    |emp=>exact absurd rfl iI
    |some=>exact⟨rfl,rfl⟩
   |gone hi e _=>simp only[bC,a08]at hi;subst hi;rw[g1]at e;cases e<;>exact g2.elim
  cases hl
 cases hl
theorem ji{op a ta}(ha:VR X P A m h a ta){v}(hl:pun X P op a=some v):∃w,unT P op ta=some w/\VR X P A m h v w:=by
 unfold pun at hl;split at hl
 .rename_i u h1;split at hl
  .rename_i r hr;rw[jX ha h1];exact⟨r,hr,xR hl⟩
  cases hl
 cases hl
theorem V4{s d a ta}(ha:VR X P A m h a ta){v}(hl:a6Z X P s d a=some v):∃w,SE P s d ta=some w/\VR X P A m h v w:=by
 unfold a6Z at hl;split at hl
 .rename_i u h1;split at hl
  .rename_i r hr;rw[jX ha h1];exact⟨r,hr,xR hl⟩
  cases hl
 cases hl
theorem zM{mx at_ t az ts}(ha:bZ X P A m h az ts){v}(hl:NV X P mx at_ t az=some v):∃w,Ez P mx at_ t ts=some w/\VR X P A m h v w:=by
 unfold NV at hl;split at hl
 .rename_i u h1;split at hl
  .rename_i r hr;rw[a2l ha h1];exact⟨r,hr,xR hl⟩
  cases hl
 cases hl
theorem OI{t x tx}(hx:VR X P A m h x tx){i v}(hl:a0l X P t x i=some v):∃w,Ou P t tx i=some w/\VR X P A m h v w:=by
 unfold a0l at hl;split at hl
 .rename_i fs cs hu;split at hl
  .rename_i f hf;cases hx with
   |agg h1 h2=>
    obtain⟨w,g1,g2⟩:=Bj ⟨h1,h2⟩ hl;exact⟨w,by simp only[Ou,hu,hf,g1],g2⟩
   |gone hi _ _=>simp[bC]at hi
  cases hl
 cases hl
theorem OJ{t x i tx ti}(hx:VR X P A m h x tx)(hi:VR X P A m h i ti){v}(hl:a0m X P t x i=some v):∃w,JH P t tx ti=some w/\VR X P A m h v w:=by
 unfold a0m at hl;split at hl
 .rename_i len e cs hu;split at hl
  .rename_i n j hn hj;have:idx len ti=some j:=by
    cases i<;>simp only[a4k]at hj<;>try (cases hj;done)
    cases hi with
    |int=>exact hj
    |gone e _ _=>simp[bC]at e
   cases hx with
   |agg h1 h2=>
    obtain⟨w,g1,g2⟩:=Bj ⟨h1,h2⟩ hl;exact⟨w,by simp only[JH,hu,hn,this,g1],g2⟩
   |gone hi _ _=>simp[bC]at hi
  cases hl
 cases hl
end
open Go Tw
section
variable{X:ny}{P:LI1}{A F:Nat->Prop}{m m':List MB}{h h':List HB}{H H':List (PB X.Γ)}
theorem IU:∀{is} {H} {i:Nat} {pb:PB X.Γ},(bf is H)[i]? = some pb->(i∈is/\pb=.gone)\/(i∉is/\H[i]? = some pb)
 | [],_,_,_,h=>.inr ⟨by simp,h⟩
 |j::is,H,i,pb,h=>by
  rcases IU (is:=is) (H:=XI j H) h with⟨h1,h2⟩|⟨h1,h2⟩
  .exact .inl ⟨a3J _ h1,h2⟩
  unfold XI at h2;by_cases e:j=i
  .subst e;rw[a5E]at h2;cases hx:H[j]? with
   |none=>rw[hx]at h2;cases h2
   |some y=>rw[hx]at h2;cases h2;exact .inl ⟨a3M,rfl⟩
  rw[a1A e]at h2;exact .inr ⟨by simp[h1,afR e],h2⟩
theorem kN(hr:HR X P A m H h)(is){k ex x e size rows cs}(hw:eu X P (FA A m is) (cu is m) h e rows cs 0 size)(hc:cs.length=rows.length*size)(hn:rows≠[])(hz:dH P e=some size)(h0:0<size)(hx:ex=true->x=true) :∃m1,HR X P A m1 (bf is H++[.list k ex e rows]) (h++[.cells .own cs])/\Fr m h m1 (h++[.cells .own cs])/\Up m m1/\VR X P (AA A m1) m1 (h++[.cells .own cs]) (.own H.length) (.aO h.length 0 rows.length rows.length size x):=by
 have hgo:=hr.bf is;have RX:=iP (h:=h) is m;have rG:(MB.dw (.aO h.length 0 rows.length rows.length size x)).own=some h.length:=by simp only[MB.own];rw[a0U (by simpa using hn)]
 have hF:Fr (cu is m) h (cu is m++[.dw (.aO h.length 0 rows.length rows.length size x)]) (h++[.cells .own cs]):=by
  refine⟨by simp,fun b hb _=>by rw[a0Q hb],fun b hb=>?_,fun b cs hc=>⟨cs,by rw[fF (a0Q (fG hc)),hc],a1p _⟩⟩;rw[jw,a3N,kU,rG]at hb;rcases hb with hb|hb
  .exact .inl hb
  .simp at hb;exact .inr (by omega)
 obtain⟨h1,h2,h3⟩:=hgo.push (pb:=.list k ex e rows) (hb:=.cells .own cs) (.inl rG)
  (LR.some (kk:=.own) hn hz h0 (by simp) (by simp) (fun _=>rfl) hx hc ((hw.mono fun b hb=>hb.gone hr).step hF (xQ _)))
 refine⟨_,h1,RX.1.trans h2,RX.2.trans h3,.own ?_ rfl⟩;rw[<-hr.len,<-nM is m];simp
theorem TU(hr:HR X P A m H h)(is){k ex e y}(hy:(MB.dw y).own=none)(ho:iM y=true)(hl:LR X P (AA A (cu is m++[.dw y])) (cu is m++[.dw y]) h k ex e [] y) :∃m1,HR X P A m1 (bf is H++[.list k ex e []]) h/\Fr m h m1 h/\Up m m1/\VR X P (AA A m1) m1 h (.own H.length) y:=by
 have RX:=iP (h:=h) is m;obtain⟨h1,h2,h3⟩:=(hr.bf is).adu (pb:=.list k ex e []) hy hl;refine⟨_,h1,RX.1.trans h2,RX.2.trans h3,.own ?_ ho⟩;rw[<-hr.len,<-nM is m];simp
theorem aaZ(hr:HR X P A m H h){is y}(hy:(MB.dw y).own=none){b}(hb:FA A m is b):AA A (cu is m++[.dw y]) b:=by have:=hb.gone hr;refine⟨this.1,fun hm=>this.2 ?_⟩;rw[jw,a3N,kU,hy]at hm;simpa using hm
theorem push_empty(hr:HR X P A m H h)(is){k ex}{e size b off:Nat}{cs}(hz:dH P e=some size)(h0:0<size)(ha:FA A m is b)(hb:aV h b=some cs)(ho:off<=cs.length) :∃m1,HR X P A m1 (bf is H++[.list k ex e []]) h/\Fr m h m1 h/\Up m m1/\VR X P (AA A m1) m1 h (.own H.length) (.aO b off 0 0 size true):=
 TU hr is rfl rfl (LR.emp (aaZ hr rfl ha) hb ho hz h0)
theorem PX(hr:HR X P A m H h)(is){k ex e} :∃m1,HR X P A m1 (bf is H++[.list k ex e []]) h/\Fr m h m1 h/\Up m m1/\VR X P (AA A m1) m1 h (.own H.length) (.nil .aO):=
 TU hr is rfl rfl .nil
theorem H6(hr:HR X P A m H h){b c}(is){mb Nk pb h1}(hb:m[b]? = some mb)(ho:mb.own=some c)(ho':Nk.own=some c)(hlen:h1.length=h.length)(hs:∀d,d≠c->h1[d]? = h[d]?)(hg:∀cs,aV h c=some cs->∃cs',aV h1 c=some cs'/\cs.length<=cs'.length)(rC:Fr m h (cu (b::is) m++[Nk]) h1->Up m (cu (b::is) m++[Nk])->BR X P (AA A (cu (b::is) m++[Nk])) (cu (b::is) m++[Nk]) h1 pb Nk) :∃m1,m1=cu (b::is) m++[Nk]/\HR X P A m1 (bf (b::is) H++[pb]) h1/\Fr m h m1 h1/\Up m m1/\m1[H.length]? = some Nk:=by
 have RX:=iP (h:=h) (b::is) m;have hgo:=hr.bf (b::is);have hnc:c∉aZ (cu (b::is) m):=fun hm=>by obtain⟨j,mbj,g1,g2,g3⟩:=Bo hm;have:=iW hr.nodup hb g2 ho g3;exact g1 (by rw[<-this];exact a3M)
 have yO:∀d,d∈aZ (cu (b::is) m++[Nk])↔d∈aZ (cu (b::is) m)\/d=c:=by intro d;rw[jw,a3N,kU,ho'];simp
 have FH:c∈aZ m:=aY hb ho;have hF:Fr m h (cu (b::is) m++[Nk]) h1:=by
  refine⟨by omega,fun d hd hn=>hs d fun e=>hn (e▸FH),fun d hd=>?_,fun d cs hc=>?_⟩
  .rcases(yO d).1 hd with hd|rfl
   .exact RX.1.new d hd
   .exact .inl FH
  .by_cases e:d=c
   .subst e;exact hg cs hc
   .exact⟨cs,by rw[fF (hs d e),hc],a1p _⟩
 have hU:Up m (cu (b::is) m++[Nk]):=RX.2.trans (xQ _);refine⟨_,rfl,?_,hF,hU,?_⟩
 .refine hr.next hF hU (by simp[nM,oJ,hr.len]) ?_ fun i pbi hi=>?_
  .rw[jw,kU,ho'];refine a9M.2 ⟨hgo.nodup,by simp,fun a ha b' yN e=>?_⟩;simp at yN;subst yN;subst e;exact hnc ha
  .rcases a5l i (bf (b::is) H).length with aQ|CS
   .rw[a0Q aQ]at hi;have a7r:i<(cu (b::is) m).length:=by rw[hgo.len];exact aQ
    rcases IU hi with⟨e1,rfl⟩|⟨e1,e2⟩
    .obtain⟨mbi,g1,g2⟩:=hgo.at_ i _ hi;cases mbi with
     |gone=>exact .inr ⟨.gone,by rw[a0Q a7r];exact g1,trivial⟩
     |_=>exact g2.elim
    .obtain⟨mbi,g1,_⟩:=hr.at_ i _ e2;left;have hm:=IG (b::is) g1;rw[show(b::is).contains i=false by simpa using e1]at hm;refine⟨mbi,e2,g1,by rw[a0Q a7r];simpa using hm,fun d hd=>hs d fun e=>?_⟩;subst e;have:=iW hr.nodup hb g1 ho hd;exact e1 (by rw[<-this];exact a3M)
   .rw[a1y CS]at hi;have:i-(bf (b::is) H).length=0:=by
     rcases abL (i-(bf (b::is) H).length)with h|h
     .exact h
     .rw[a4U (by simp;omega)]at hi;cases hi
    rw[this]at hi;simp only[a3H,a08]at hi;subst hi;exact .inr ⟨Nk,by rw[a1y (by rw[hgo.len];exact CS),hgo.len,this];rfl,rC hF hU⟩
 .have:H.length=(cu (b::is) m).length:=by rw[nM,hr.len]
  rw[this];simp
end
open Go Tw
section
variable{X:ny}{P:LI1}{A F:Nat->Prop}{m m':List MB}{h h':List HB}{H H':List (PB X.Γ)}
def XR(X:ny)(P:LI1)(A:Nat->Prop)(m:List MB)(ts:St)(r:Option (TV×St×zl))(v:PV X.Γ)(H1:List (PB X.Γ))(pi:PI):Prop:=
 ∃w h1 ti m1,r=some (w,{ ts with heap:=h1 },ti)/\HR X P A m1 H1 h1/\VR X P (AA A m1) m1 h1 v w/\Fr m ts.heap m1 h1/\Up m m1/\IR m ts.heap pi ti/\∀b,.h b∈ti.ws->b∈aZ m
theorem jY{e n k}(hb:uS P e n=true)(hk:k<=n):uS P e k=true:=by
 unfold uS at hb ⊢;split at hb
 .rename_i i hi;simp only[a2K,a1F]at hb ⊢;obtain⟨⟨⟨⟨h1,h2⟩,h3⟩,h4⟩,h5⟩:=hb;have:=a3X i.bytes hk;exact⟨⟨⟨⟨by omega,by omega⟩,h3⟩,h4⟩,h5⟩
 cases hb
theorem oM{t e n}(hs:jT P t=some (e,n)):dH P e=some n/\0<n:=by
 unfold jT at hs;split at hs
 .split at hs
  .rename_i k hk;split at hs
   .cases hs
   rename_i h0;simp only[a08,a1n]at hs;obtain⟨rfl,rfl⟩:=hs;exact⟨hk,by omega⟩
  cases hs
 cases hs
theorem uV(hr:HR X P A m H h){e sz:Nat}{x tx}(hv:VR X P (AA A m) m h x tx)(hz:dH P e=some sz){rows is}(hs:Bf X H e sz x=some (rows,is)){b}(hb:.h b∈dn tx):((∃i,.h i∈zB X x/\GZ m i b)\/b∉aZ m)/\b<h.length:=by
 have lr:∀{i:Nat} {k ex:Bool} {t:Nat} {l:List (X.Γ t)} {c off len cap s:Nat} {e':Bool},H[i]? = some (.list k ex t l)->m[i]? = some (.dw (.aO c off len cap s e'))->(GZ m i c\/c∉aZ m)/\c<h.length:=by
  intro i k ex t l c off len cap s e' hH hm;obtain⟨mb,g1,g2⟩:=hr.at_ i _ hH;rw[hm]at g1;cases g1;cases(g2:LR X P _ _ _ _ _ _ _ _)with
  |emp h0 h1=>exact⟨.inr h0.2,fG h1⟩
  |some q1 q2 q3 q4=>exact⟨.inl (iU hm (by simp only[MB.own];rw[a0U (by simpa using q1)])),(a0w.1 q4).1⟩
 cases x with
 |nil k=>
  cases hv with
  |nil=>simp[dn]at hb
  |gone hi _ _=>simp[bC]at hi
 |dw t l fu=>
  cases hv with
  |qx=>simp[dn]at hb
  |dw a ac=>simp[dn]at hb;subst hb;exact⟨.inr a.2,fG ac⟩
  |gone hi _ _=>simp[bC]at hi
 |own i=>
  simp only[Bf]at hs;split at hs
  .rename_i k ex t l hH;cases hv with
   |own e' o=>
    cases tx<;>simp[dn]at hb
    subst hb;obtain⟨h1,h2⟩:=lr hH e';rcases h1 with h1|h1
    .exact⟨.inl ⟨i,by simp[zB],h1⟩,h2⟩
    exact⟨.inr h1,h2⟩
   |gone hi e' _=>
    simp only[bC,a08]at hi;subst hi;obtain⟨mb,g1,g2⟩:=hr.at_ i _ hH;rw[g1]at e';cases e'<;>exact g2.elim
  cases hs
 |win i o n=>
  simp only[Bf]at hs;split at hs
  .rename_i k ex t l hH;cases hv with
   |win e' q q'=>
    simp[dn]at hb;subst hb;obtain⟨h1,h2⟩:=lr hH e';rcases h1 with h1|h1
    .exact⟨.inl ⟨i,by simp[zB],h1⟩,h2⟩
    exact⟨.inr h1,h2⟩
   |CX=>simp[dn]at hb
   |gone hi e' _=>
    simp only[bC,a08]at hi;subst hi;obtain⟨mb,g1,g2⟩:=hr.at_ i _ hH;rw[g1]at e';cases e'<;>exact g2.elim
  cases hs
 |aO c off len cap s ex=>
  simp only[Bf]at hs;split at hs
  .rename_i cs hH;cases hv with
   |aO e'=>
    simp[dn]at hb;subst hb;obtain⟨mb,g1,g2⟩:=hr.at_ c _ hH;rw[e']at g1;cases g1;exact⟨.inl ⟨c,by simp[zB],iU e' rfl⟩,g2.has rfl⟩
   |gone hi e' _=>
    simp only[bC,a08]at hi;subst hi;obtain⟨mb,g1,g2⟩:=hr.at_ c _ hH;rw[g1]at e';cases e'<;>exact g2.elim
  cases hs
 |_=>simp[Bf]at hs
theorem IR.reads{p ks}(hp:p.hp=true)(hk:∀b,.h b∈ks->((∃i,.h i∈p.i.ts/\GZ m i b)\/b∉aZ m)/\b<h.length)(hl:∀k,.l k∉ks):IR m h p (fO ks):=
 ⟨fun h=>(by cases h),fun k h=>absurd h (hl k),fun k h=>(by cases h),fun b h=>(by cases h),hk,fun h=>(by rw[hp]at h;cases h)⟩
theorem lY{tx k}:Key.l k∉dn tx:=by cases tx<;>simp[dn]
theorem JU(hX:bW X P){ps ts}(hR:vZ X P A m ps ts){at_ d x td tx}(hd:VR X P (AA A m) m ts.heap d td)(hx:VR X P (AA A m) m ts.heap x tx){v H1 pi qs}(hl:Vq X P at_ ps.heap d x=some (v,H1,pi,qs)) (hq:∀q∈qs,q):XR X P A m ts (jy P at_ ts td tx) v H1 ⟨pi,false,false,true⟩:=by
 have hr:=hR.heap;unfold Vq at hl;split at hl
 .rename_i st xt vH Ic;split at hl
  .cases hl
  .rename_i hint;split at hl
   .rename_i e size zu;split at hl
    .rename_i Fz;obtain⟨hz,h0⟩:=oM zu;split at hl
     .rename_i rows is hs;obtain⟨new,s1,s2,s3⟩:=VF (m':=cu is m) hX hr hx hz hs;have hk0:IR m ts.heap ⟨fO (zB X x),false,false,true⟩ (fO (dn tx)):=IR.reads rfl (fun b hb=>uV hr hx hz hs hb) fun k=>lY;have hrn:rows.length=0↔rows=[]:=a6t;split at hl
      .
       simp only[a08,a1n]at hl;obtain⟨rfl,rfl,rfl,rfl⟩:=hl;have Du:rows.length<=ah:=hq _ a3M;have:td=.nil .aO:=by
        cases hd with
        |nil=>rfl
        |gone hi _ _=>simp[bC]at hi
       subst this;by_cases hn:rows=[]
       .subst hn;obtain⟨m1,g1,g2,g3,g4⟩:=PX hr is (k:=true) (ex:=false) (e:=e);exact⟨_,ts.heap,_,m1,by unfold jy;simp only[vH,Ic,hint,a3V,zu,s1,a5V,a2r,a3F],g1,g4,g2,g3,hk0,fun b hb=>by simp[fO]at hb⟩
       .obtain⟨m1,g1,g2,g3,g4⟩:=kN hr is (k:=true) (ex:=false) (x:=false) s3 s2 hn hz h0 (by simp);refine⟨_,ts.heap++[.cells .own new],_,m1,?_,g1,g4,g2,g3,hk0,fun b hb=>by simp[fO]at hb⟩;unfold jy;simp only[vH,Ic,hint,a3V,zu,s1,a3F,hrn,hn,s2,a2r,jY Fz Du]
      .
       rename_i b;split at hl
       .rename_i k ex t' l hb;split at hl
        .cases hl
        rename_i hnb;split at hl
        .rename_i l2 IV;obtain⟨rfl,rfl⟩:=sG IV;simp only[a08,a1n]at hl;obtain⟨rfl,rfl,rfl,rfl⟩:=hl;have Du:l2.length+rows.length<=ah:=hq _ a3M;obtain⟨mb,g1,g2⟩:=hr.at_ b _ hb;have SI:∀{c:Nat},GZ m b c\/c∉aZ m->c<ts.heap.length->IR m ts.heap ⟨⟨false,.h b::zB X x,[.h b]⟩,false,false,true⟩ (fO (.h c::dn tx)):=fun{c} hc aQ=>IR.reads rfl (fun d hd=>by
          rcases a1G.1 hd with e0|e0
          .cases e0;rcases hc with hc|hc
           .exact⟨.inl ⟨b,a3M,hc⟩,aQ⟩
           .exact⟨.inr hc,aQ⟩
          .obtain⟨h0,h9⟩:=uV hr hx hz hs e0;rcases h0 with⟨i,h1,h2⟩|h1
           .exact⟨.inl ⟨i,a3J _ h1,h2⟩,h9⟩
           .exact⟨.inr h1,h9⟩) fun j hj=>by
            rcases a1G.1 hj with e0|e0
            .cases e0
            .exact lY e0
         have lK:IR m ts.heap ⟨⟨false,.h b::zB X x,[.h b]⟩,false,false,true⟩ (fO (dn tx)):=IR.reads rfl (fun d hd=>by
          obtain⟨h0,h9⟩:=uV hr hx hz hs hd;rcases h0 with⟨i,h1,h2⟩|h1
          .exact⟨.inl ⟨i,a3J _ h1,h2⟩,h9⟩
          .exact⟨.inr h1,h9⟩) fun j hj=>lY hj
         cases mb with
         |dw z=>
          cases hd with
          |gone hi e' _=>simp only[bC,a08]at hi;subst hi;rw[g1]at e';cases e'
          |own e' o=>
           rw[g1]at e';cases e';have hlr:LR X P (AA A m) m ts.heap k ex t' l2 td:=g2;have V7:eu X P (FA A m (b::is)) (cu (b::is) m) ts.heap t' rows new 0 size:=(s3.mono fun c hc=>FA.mono (fun i hi=>a3J _ hi) hc).jD hX;cases hlr with
           |nil=>
            simp only[aah];by_cases hn:rows=[]
            .subst hn;obtain⟨m1,f1,f2,f3,f4⟩:=PX hr (b::is) (k:=k&&ex) (ex:=false) (e:=t');exact⟨_,ts.heap,_,m1,by unfold jy;simp only[vH,Ic,hint,a3V,zu,s1,a5V,a2r,a3F],f1,f4,f2,f3,lK,fun c hc=>by simp[fO]at hc⟩
            .obtain⟨m1,f1,f2,f3,f4⟩:=kN hr (b::is) (k:=k&&ex) (ex:=false) (x:=false) V7 s2 hn hz h0 (by simp);refine⟨_,ts.heap++[.cells .own new],_,m1,?_,f1,f4,f2,f3,lK,fun c hc=>by simp[fO]at hc⟩;unfold jy;simp only[vH,Ic,hint,a3V,zu,s1,a3F,hrn,hn,s2,a2r,jY Fz (show rows.length<=ah by omega)]
           |emp p0 p1 p2 p3 p4=>
            rename_i c off sz cs;rw[hz]at p3;cases p3;simp only[aah];by_cases hn:rows=[]
            .subst hn;obtain⟨m1,f1,f2,f3,f4⟩:=push_empty hr (b::is) (k:=k&&ex) (ex:=false) hz h0 (.inl p0) p1 p2;exact⟨_,ts.heap,_,m1,by unfold jy;simp only[vH,Ic,hint,a3V,zu,s1,a5V,a2r,a3F],f1,f4,f2,f3,lK,fun c hc=>by simp[fO]at hc⟩
            .obtain⟨m1,f1,f2,f3,f4⟩:=kN hr (b::is) (k:=k&&ex) (ex:=false) (x:=false) V7 s2 hn hz h0 (by simp);refine⟨_,ts.heap++[.cells .own new],_,m1,?_,f1,f4,f2,f3,SI (c:=c) (.inr p0.2) (fG p1),fun c hc=>by simp[fO]at hc⟩;have lT:dZ size ts.heap (.aO c off 0 0 size true)=some (0,[]):=(by simp[dZ]);unfold jy;simp only[vH,Ic,hint,a3V,zu,s1,a3F,hrn,hn,s2,a2r,a3O,Nat.le_zero_eq,jY Fz (show rows.length<=ah by omega),lT,a1t,aah]
           |some p1 p2 p3 p4 p5 p6 p7 p8 p9=>
            rename_i c sz xx kk cs;rw[hz]at p2;cases p2;have rG:(MB.dw (TV.aO c 0 l2.length l2.length size xx)).own=some c:=by simp only[MB.own];rw[a0U (by simpa using p1)]
            by_cases hn:rows=[]
            .subst hn;simp only[a6l];obtain⟨m1,f0,f1,f2,f3,f4⟩:=H6 (pb:=.list (k&&ex) false t' l2) hr is g1 rG rG rfl (fun _ _=>rfl) (fun cs hc=>⟨cs,hc,a1p _⟩) (fun hF hU=>LR.some p1 hz p3 p4 p5 (fun hk=>p6 (by simp at hk;exact hk.1)) (by simp) p8 (p9.step hF hU));exact⟨_,ts.heap,_,m1,by unfold jy;simp only[vH,Ic,hint,a3V,zu,s1,a5V,a2r,a3F],f1,.own f4 rfl,f2,f3,lK,fun c hc=>by simp[fO]at hc⟩
            .have hle:¬l2.length+rows.length<=l2.length:=by have:rows.length≠0:=fun e0=>hn (hrn.1 e0);omega
             have iI:l2++rows≠[]:=(by simp[p1]);cases xx with
             |true=>
              have hold:dZ size ts.heap (.aO c 0 l2.length l2.length size true)=some (l2.length,cs):=by simp only[dZ,a2r];rw[a0U (fun e0=>p1 (a6t.1 e0)),xO p4 (by omega)];simp only[sub];rw[a18 (by omega),aaU,aad (by omega)];rfl
              have hw1:eu X P (FA A m (b::is)) (cu (b::is) m) ts.heap t' l2 cs 0 size:=(p9.mono fun c hc=>.inl hc).jD hX;obtain⟨m1,f1,f2,f3,f4⟩:=kN hr (b::is) (k:=k&&ex) (ex:=false) (x:=false) (hw1.app V7 p8) (by rw[a1D,a1D,a4p,p8,s2]) iI hz h0 (by simp);refine⟨_,ts.heap++[.cells .own (cs++new)],_,m1,?_,f1,f4,f2,f3,SI (c:=c) (.inl (iU g1 rG)) (a0w.1 p4).1,fun c hc=>by simp[fO]at hc⟩;unfold jy;simp only[vH,Ic,hint,a3V,zu,s1,a3F,hrn,hn,s2,a2r,hle,jY Fz Du,hold,a1t,a1D]
             |false=>
              have hex:ex=false:=by cases ex with
               |true=>exact absurd (p7 rfl) (by simp)
               |false=>rfl
              subst hex;have aQ:=(a0w.1 p4).1;obtain⟨m1,f0,f1,f2,f3,f4⟩:=H6 (pb:=.list (k&&false) false t' (l2++rows)) (h1:=ts.heap.set c (.cells kk.more (cs++new))) (Nk:=.dw (.aO c 0 (l2.length+rows.length) (l2.length+rows.length) size false)) hr is g1 rG
               (by simp only[MB.own];rw[a0U (by omega)]) (by simp) (fun d hd=>a1A (afR hd)) (fun EO LY=>⟨cs++new,by simp[aV,aQ],by
                simp only[aV,p4,a08]at LY;subst LY;simp⟩) (fun hF hU=>by
                have RX:=iP (h:=ts.heap) (b::is) m;have RJ:∀q cs',FA A m is q->aV ts.heap q=some cs'->AA A (cu (b::is) m++[.dw (.aO c 0 (l2.length+rows.length) (l2.length+rows.length) size false)]) q/\(ts.heap.set c (.cells kk.more (cs++new)))[q]? = ts.heap[q]?:=fun q cs' hq hc=>by
                 have Zt:q≠c:=fun e0=>by
                  subst e0;rcases hq with hq|⟨i,mb,e1,e2,e3⟩
                  .exact hq.2 (aY g1 rG)
                  .have:=iW hr.nodup g1 e2 rG e3;subst this;exact hnb (by simpa using e1)
                 have hg:=FA.gone hr (FA.mono (js:=b::is) (fun i hi=>a3J _ hi) hq);refine⟨⟨hg.1,fun hm=>?_⟩,a1A (afR Zt)⟩;rw[jw,a3N,kU]at hm;rcases hm with hm|hm
                 .exact hg.2 hm
                 .simp only[MB.own]at hm;rw[a0U (by omega)]at hm;simp at hm;exact Zt hm
                have:=LR.some (X:=X) (P:=P) (A:=AA A (cu (b::is) m++[.dw (.aO c 0 (l2.length+rows.length) (l2.length+rows.length) size false)])) (m:=cu (b::is) m++[.dw (.aO c 0 (l2.length+rows.length) (l2.length+rows.length) size false)]) (h:=ts.heap.set c (.cells kk.more (cs++new))) (k:=k&&false) (ex:=false) (t:=t') (l:=l2++rows) (b:=c) (sz:=size) (e:=false) (kk:=kk.more) (cs:=cs++new)
                 iI hz h0 (by simp[aQ]) (by cases kk<;>simp[BK.more]) (by simp) (by simp) (by rw[a1D,a1D,a4p,p8,s2]) ((p9.step hF hU).app (s3.move hX RJ) p8)
                rw[a1D]at this;exact this)
              refine⟨_,ts.heap.set c (.cells kk.more (cs++new)),⟨false,.h c::dn tx,[.h c]⟩,m1,?_,f1,.own f4 rfl,f2,f3,⟨fun h=>(by cases h),fun j hj=>?_,fun j hj=>(by simp at hj),fun d hd=>?_,fun d hd=>?_,fun h=>(by cases h)⟩,fun d hd=>?_⟩
              .unfold jy;simp only[vH,Ic,hint,a3V,zu,s1,a3F,hrn,hn,s2,a2r,hle,jY Fz Du,p4,ne_eq,not_true_eq_false,p5,p8,a6t,p1,or_self]
              .rcases a1G.1 hj with e0|e0
               .cases e0
               .exact absurd e0 lY
              .simp at hd;subst hd;exact .inl ⟨b,by simp,iU g1 rG⟩
              .rcases a1G.1 hd with e0|e0
               .cases e0;exact⟨.inl ⟨b,a3M,iU g1 rG⟩,aQ⟩
               .obtain⟨h0,h9⟩:=uV hr hx hz hs e0;rcases h0 with⟨i,h1,h2⟩|h1
                .exact⟨.inl ⟨i,a3J _ h1,h2⟩,h9⟩
                .exact⟨.inr h1,h9⟩
              .simp at hd;subst hd;exact aY g1 rG
         |_=>exact g2.elim
        .cases hl
       .cases hl
      .
       rename_i t' l;split at hl
       .rename_i l2 IV;obtain⟨rfl,rfl⟩:=sG IV;simp only[a08,a1n]at hl;obtain⟨rfl,rfl,rfl,rfl⟩:=hl;have Du:l2.length+rows.length<=ah:=hq _ a3M;have Gs:l2=[]\/rows≠[]:=hq _ (a3J _ a3M);cases hd with
        |gone hi _ _=>simp[bC]at hi
        |qx=>
         simp only[aah];by_cases hn:rows=[]
         .subst hn;obtain⟨m1,f1,f2,f3,f4⟩:=PX hr is (k:=true) (ex:=false) (e:=t');exact⟨_,ts.heap,_,m1,by unfold jy;simp only[vH,Ic,hint,a3V,zu,s1,a5V,a2r,a3F],f1,f4,f2,f3,hk0,fun c hc=>by simp[fO]at hc⟩
         .obtain⟨m1,f1,f2,f3,f4⟩:=kN hr is (k:=true) (ex:=false) (x:=false) s3 s2 hn hz h0 (by simp);refine⟨_,ts.heap++[.cells .own new],_,m1,?_,f1,f4,f2,f3,hk0,fun c hc=>by simp[fO]at hc⟩;unfold jy;simp only[vH,Ic,hint,a3V,zu,s1,a3F,hrn,hn,s2,a2r,jY Fz (show rows.length<=ah by omega)]
        |dw p1 p2 p2' p3 p4 p5 p6 p7 p8 p9=>
         rename_i c off cap sz xx cs;rw[hz]at p3;cases p3;obtain⟨rfl,rfl⟩:=p7 rfl;have hk3:IR m ts.heap ⟨fO (zB X x),false,false,true⟩ (fO (.h c::dn tx)):=IR.reads rfl (fun d hd=>by
          rcases a1G.1 hd with e0|e0
          .cases e0;exact⟨.inr p1.2,fG p2⟩
          .exact uV hr hx hz hs e0) fun j hj=>by
           rcases a1G.1 hj with e0|e0
           .cases e0
           .exact lY e0
         by_cases hn:rows=[]
         .have qY:l2=[]:=by rcases Gs with h1|h1;exact h1;exact absurd hn h1
          subst hn;subst qY;obtain⟨m1,f1,f2,f3,f4⟩:=push_empty hr is (k:=true) (ex:=false) hz h0 (.inl p1) p2 (by simpa using p5);exact⟨_,ts.heap,_,m1,by unfold jy;simp only[vH,Ic,hint,a3V,zu,s1,a5V,a2r,a3F],f1,f4,f2,f3,hk0,fun c hc=>by simp[fO]at hc⟩
         .have hle:¬l2.length+rows.length<=l2.length:=by have:rows.length≠0:=fun e0=>hn (hrn.1 e0);omega
          have hw1:eu X P (FA A m is) (cu is m) ts.heap t' l2 ((cs.drop off).take (l2.length*size)) 0 size:=by have hh:eu X P (AA A m) m ts.heap t' l2 cs off size:=⟨p8,p5,p9⟩;exact(hh.take.mono fun c hc=>.inl hc).jD hX
          have hlen:((cs.drop off).take (l2.length*size)).length=l2.length*size:=by rw[a4w,a4u];omega
          obtain⟨m1,f1,f2,f3,f4⟩:=kN hr is (k:=true) (ex:=false) (x:=false) (hw1.app s3 hlen) (by rw[a1D,a1D,a4p,hlen,s2]) (by simp[hn]) hz h0 (by simp);refine⟨_,ts.heap++[.cells .own ((cs.drop off).take (l2.length*size)++new)],_,m1,?_,f1,f4,f2,f3,hk3,fun c hc=>by simp[fO]at hc⟩;have lT:dZ size ts.heap (.aO c off l2.length l2.length size true)=some (l2.length,(cs.drop off).take (l2.length*size)):=by
           simp only[dZ,a2r,sub];by_cases qY:l2.length=0
           .rw[a18 qY,qY,adl,List.take_zero]
           .rw[a0U qY,p2' (fun e0=>qY (by rw[e0];rfl))];simp only;rw[a18 p5];rfl
          unfold jy;simp only[vH,Ic,hint,a3V,zu,s1,a3F,hrn,hn,s2,a2r,hle,jY Fz Du,lT,a1t,a1D]
       .cases hl
      .
       rename_i b;split at hl
       .rename_i k ex t' l hb;split at hl
        .rename_i l2 IV;obtain⟨rfl,rfl⟩:=sG IV;simp only[a08,a1n]at hl;obtain⟨rfl,rfl,rfl,rfl⟩:=hl;have Du:l2.length+rows.length<=ah:=hq _ a3M;have hn:rows≠[]:=hq _ (a3J _ a3M);obtain⟨mb,g1,g2⟩:=hr.at_ b _ hb;have lK:∀d,.h d∈dn tx->((∃i,.h i∈(⟨fO (.h b::zB X x),false,false,true⟩:PI).i.ts/\GZ m i d)\/d∉aZ m)/\d<ts.heap.length:=fun d hd=>by
          obtain⟨h0,h9⟩:=uV hr hx hz hs hd;rcases h0 with⟨i,h1,h2⟩|h1
          .exact⟨.inl ⟨i,a3J _ h1,h2⟩,h9⟩
          .exact⟨.inr h1,h9⟩
         have hk3:IR m ts.heap ⟨fO (.h b::zB X x),false,false,true⟩ (fO (dn tx)):=IR.reads rfl lK fun j hj=>lY hj;have SI:∀{c:Nat},GZ m b c\/c∉aZ m->c<ts.heap.length->IR m ts.heap ⟨fO (.h b::zB X x),false,false,true⟩ (fO (.h c::dn tx)):=fun{c} hc aQ=>IR.reads rfl (fun d hd=>by
          rcases a1G.1 hd with e0|e0
          .cases e0;rcases hc with hc|hc
           .exact⟨.inl ⟨b,a3M,hc⟩,aQ⟩
           .exact⟨.inr hc,aQ⟩
          .exact lK d e0) fun j hj=>by
           rcases a1G.1 hj with e0|e0
           .cases e0
           .exact lY e0
         cases mb with
         |dw z=>
          have hlr:LR X P (AA A m) m ts.heap k ex t' l2 z:=g2;cases hd with
          |gone hi e' _=>simp only[bC,a08]at hi;subst hi;rw[g1]at e';cases e'
          |Ku e'=>
           rw[g1]at e';cases e';cases hlr with
           |nil=>
            simp only[aah];obtain⟨m1,f1,f2,f3,f4⟩:=kN hr is (k:=true) (ex:=false) (x:=false) s3 s2 hn hz h0 (by simp);refine⟨_,ts.heap++[.cells .own new],_,m1,?_,f1,f4,f2,f3,hk3,fun c hc=>by simp[fO]at hc⟩;unfold jy;simp only[vH,Ic,hint,a3V,zu,s1,a3F,hrn,hn,s2,a2r,jY Fz (show rows.length<=ah by omega)]
          |Hz e'=>
           rw[g1]at e';cases e';cases hlr with
           |emp p0 p1 p2 p3 p4=>
            rename_i c off sz cs;rw[hz]at p3;cases p3;simp only[aah];obtain⟨m1,f1,f2,f3,f4⟩:=kN hr is (k:=true) (ex:=false) (x:=false) s3 s2 hn hz h0 (by simp);refine⟨_,ts.heap++[.cells .own new],_,m1,?_,f1,f4,f2,f3,SI (c:=c) (.inr p0.2) (fG p1),fun c hc=>by simp[fO]at hc⟩;have lT:dZ size ts.heap (.aO c off 0 0 size true)=some (0,[]):=(by simp[dZ]);unfold jy;simp only[vH,Ic,hint,a3V,zu,s1,a3F,hrn,hn,s2,a2r,a3O,Nat.le_zero_eq,jY Fz (show rows.length<=ah by omega),lT,a1t,aah]
           |some p1 p2 p3 p4 p5 p6 p7 p8 p9=>
            rename_i c sz xx kk cs;rw[hz]at p2;cases p2;have rG:(MB.dw (TV.aO c 0 l2.length l2.length size xx)).own=some c:=by simp only[MB.own];rw[a0U (by simpa using p1)]
            have hle:¬l2.length+rows.length<=l2.length:=by have:rows.length≠0:=fun e0=>hn (hrn.1 e0);omega
            have iI:l2++rows≠[]:=(by simp[p1]);have hold:dZ size ts.heap (.aO c 0 l2.length l2.length size true)=some (l2.length,cs):=by simp only[dZ,a2r];rw[a0U (fun e0=>p1 (a6t.1 e0)),xO p4 (by omega)];simp only[sub];rw[a18 (by omega),aaU,aad (by omega)];rfl
            have hw1:eu X P (FA A m is) (cu is m) ts.heap t' l2 cs 0 size:=(p9.mono fun c hc=>.inl hc).jD hX;obtain⟨m1,f1,f2,f3,f4⟩:=kN hr is (k:=true) (ex:=false) (x:=false) (hw1.app s3 p8) (by rw[a1D,a1D,a4p,p8,s2]) iI hz h0 (by simp);refine⟨_,ts.heap++[.cells .own (cs++new)],_,m1,?_,f1,f4,f2,f3,SI (c:=c) (.inl (iU g1 rG)) (a0w.1 p4).1,fun c hc=>by simp[fO]at hc⟩;unfold jy;simp only[vH,Ic,hint,a3V,zu,s1,a3F,hrn,hn,s2,a2r,hle,jY Fz Du,hold,a1t,a1D]
         |_=>exact g2.elim
        .cases hl
       .cases hl
      .cases hl
     .cases hl
    .cases hl
   .cases hl
 .cases hl
end
open Go Tw
theorem XT{α}{l rows:List α}{o k}(h:o+k<=l.length)(hk:k<=rows.length):(PD l o k rows).length=l.length:=by unfold PD;simp;omega
theorem a4r{α}{l rows:List α}{o}:PD l o 0 rows=l:=by unfold PD;simp
section
variable{X:ny}{P:LI1}{A F:Nat->Prop}{m m':List MB}{h h':List HB}{H H':List (PB X.Γ)}
theorem eu.put{t sz o k l rows cs new}(h1:eu X P F m h t l cs 0 sz)(h2:eu X P F m h t rows new 0 sz)(hc:cs.length=l.length*sz)(hn:new.length=rows.length*sz)(ho:o+k<=l.length)(hk:k<=rows.length) :eu X P F m h t (PD l o k rows) (cs.take (o*sz)++new.take (k*sz)++cs.drop (o*sz+k*sz)) 0 sz:=by
 have a1:=(h1.part (o:=0) (n:=o) (by omega)).take;have a2:=(h2.part (o:=0) (n:=k) (by omega)).take;have a3:=(h1.part (o:=o+k) (n:=l.length-(o+k)) (by omega)).take;have l1:((l.drop 0).take o).length=o:=by simp;omega
 have l2:((rows.drop 0).take k).length=k:=by simp;omega
 have l3:((l.drop (o+k)).take (l.length-(o+k))).length=l.length-(o+k):=by simp
 rw[l1]at a1;rw[l2]at a2;rw[l3]at a3;simp only[adl,adh,a3O,aaU]at a1 a2 a3;have m1:o*sz<=cs.length:=by rw[hc];exact a3X _ (by omega)
 have m2:k*sz<=new.length:=by rw[hn];exact a3X _ hk
 have r:=(a1.app a2 (by rw[a4w,a4w];rw[a7x m1,a7x (by omega)])).app a3 (by simp only[a1D,a4w];rw[a7x m1,a7x m2,a7x (by omega),a7x hk,a4p])
 have e1:l.drop (o+k)=(l.drop (o+k)).take (l.length-(o+k)):=by rw[aad (by simp)]
 have e2:cs.drop (o*sz+k*sz)=(cs.drop ((o+k)*sz)).take ((l.length-(o+k))*sz):=by rw[a4p,aad];rw[a4u,hc,Nat.sub_mul,a4p];omega
 unfold PD;rw[e1,e2];exact r
theorem EP(hX:bW X P){ps ts}(hR:vZ X P A m ps ts){at_}{st e size b o n:Nat}{k0 ex l rows x td tx}(vH:at_[0]? = some st)(zu:jT P st=some (e,size))(hx:VR X P (AA A m) m ts.heap x tx)(hs:Bf X ps.heap e size x=some (rows,[])) (hb:ps.heap[b]? = some (.list k0 ex e l)) {mb} (g1:m[b]? = some mb) (g2:BR X P (AA A m) m ts.heap (.list k0 ex e l) mb)(htd:(∃c sz' xx' xx cap,mb=.dw (.aO c 0 l.length l.length sz' xx')/\l≠[]/\td=.aO c (o*sz') n cap sz' xx/\(n=0\/o+cap=l.length))\/(n=0/\(td=.nil .aO\/∃c f cap xx,td=.aO c f 0 cap size xx))) (hon:o+n<=l.length) (OV:isStr tx=false) :XR X P A m ts (I4 P at_ ts td tx) (.int .i64 ((min rows.length n:Nat):Int)) (ps.heap.set b (.list k0 ex e (PD l o (min rows.length n) rows))) ⟨⟨false,.h b::zB X x,[.h b]⟩,false,false,true⟩:=by
 have hr:=hR.heap;obtain⟨hz,h0⟩:=oM zu;obtain⟨new,s1,s2,s3⟩:=VF (m':=m) hX hr hx hz hs;have V7:eu X P (AA A m) m ts.heap e rows new 0 size:=s3.mono fun q hq=>by
  rcases hq with hq|⟨i,_,hi,_⟩
  .exact hq
  .simp at hi
 have lK:IR m ts.heap ⟨⟨false,.h b::zB X x,[.h b]⟩,false,false,true⟩ (fO (dn tx)):=IR.reads rfl (fun d hd=>by
  obtain⟨h0,h9⟩:=uV hr hx hz hs hd;rcases h0 with⟨i,h1,h2⟩|h1
  .exact⟨.inl ⟨i,a3J _ h1,h2⟩,h9⟩
  .exact⟨.inr h1,h9⟩) fun j hj=>lY hj
 have same:ps.heap.set b (.list k0 ex e l)=ps.heap:=by
  apply aaA;intro i;by_cases e:b=i
  .subst e;rw[a2y (a0w.1 hb).1,hb]
  .rw[a1A e]
 by_cases hk:min rows.length n=0
 .rw[hk,a4r,same];refine⟨.int .i64 0,ts.heap,fO (dn tx),m,?_,hr,.int _ _,.refl,.refl,lK,fun c hc=>by simp[fO]at hc⟩;unfold I4;simp only[vH,zu,s1,s2,OV,adx,a2r];rcases htd with⟨c,sz',xx',xx,cap,rfl,iI,rfl,tZ⟩|⟨rfl,rfl|⟨c,f,cap,xx,rfl⟩⟩
  .have:sz'=size:=by cases g2 with|some _ q2 _ _ _ _ _ _ _=>rw[hz]at q2;cases q2;rfl|emp=>exact absurd rfl iI
   simp only[this,a2r,hk]
  .rfl
  .simp only[a2r,hk]
 .rcases htd with⟨c,sz',xx',xx,cap,rfl,iI,rfl,tZ⟩|⟨rfl,_⟩
  .cases g2 with
   |emp=>exact absurd rfl iI
   |some p1 p2 p3 p4 p5 p6 p7 p8 p9=>
    rename_i kk cs;rw[hz]at p2;cases p2;obtain⟨Ce,yL,afS,hko⟩:=Kv p5;have ajY:o*size+cap*size=cs.length:=by have:=tZ.resolve_left (by omega);rw[p8,<-this,a4p]
    have aQ:=(a0w.1 p4).1;have rG:(MB.dw (TV.aO c 0 l.length l.length size xx')).own=some c:=by simp only[MB.own];rw[a0U (by simpa using p1)]
    have hkn:o+min rows.length n<=l.length:=(by omega);have hkr:min rows.length n<=rows.length:=Nat.min_le_left _ _;have m1:o*size+min rows.length n*size<=cs.length:=by rw[p8,<-a4p];exact a3X _ hkn
    have m2:min rows.length n*size<=new.length:=by rw[s2];exact a3X _ hkr
    have m3:min (min rows.length n*size) (rows.length*size)=min rows.length n*size:=a7x (by rw[<-s2];exact m2);have aq2:=eu.put p9 V7 p8 s2 hkn hkr;have nV:(cs.take (o*size)++new.take (min rows.length n*size)++cs.drop (o*size+min rows.length n*size)).length=cs.length:=by simp;omega
    have hl:=XT (rows:=rows) hkn hkr;obtain⟨q1,q2⟩:=hr.set (i:=b) (c:=c) (pb:=.list k0 ex e (PD l o (min rows.length n) rows)) (hb:=.cells Ce (cs.take (o*size)++new.take (min rows.length n*size)++cs.drop (o*size+min rows.length n*size))) g1 rG
     (fun EO LY=>⟨_,by simp only[aV];rw[a2y aQ],by
      simp only[aV,p4,a08]at LY;subst LY;rw[nV];exact a1p _⟩)
     (fun hF=>by
      have aja:PD l o (min rows.length n) rows≠[]:=fun e0=>by rw[e0]at hl;simp at hl;exact p1 (a6t.1 hl.symm)
      have r:=LR.some (k:=k0) (ex:=ex) (e:=xx') aja hz p3 (by rw[a2y aQ]) afS (fun e0=>hko (p6 e0)) p7 (by rw[nV,hl,p8]) (aq2.step hF .refl);rw[hl]at r;exact r)
    refine⟨.int .i64 ((min rows.length n:Nat):Int),_,⟨false,.h c::dn tx,[.h c]⟩,m,?_,q1,.int _ _,q2,.refl,?_,fun d hd=>?_⟩
    .unfold I4;simp only[vH,zu,s1,s2,OV,adx,a2r,hk,a3V,a2i p4 yL ajY,wZ,a4w,m3,m1,a1t]
    .refine⟨fun h=>(by cases h),fun k hk=>?_,fun k hk=>(by simp at hk),fun d hd=>?_,fun d hd=>?_,fun h=>(by cases h)⟩
     .rcases a1G.1 hk with e0|e0
      .cases e0
      .exact absurd e0 lY
     .simp at hd;subst hd;exact .inl ⟨b,a3M,iU g1 rG⟩
     .rcases a1G.1 hd with e0|e0
      .cases e0;exact⟨.inl ⟨b,a3M,iU g1 rG⟩,aQ⟩
      .obtain⟨h0,h9⟩:=uV hr hx hz hs e0;rcases h0 with⟨i,h1,h2⟩|h1
       .exact⟨.inl ⟨i,a3J _ h1,h2⟩,h9⟩
       .exact⟨.inr h1,h9⟩
    .simp at hd;subst hd;exact aY g1 rG
  .simp at hk
theorem a7s(hr:HR X P A m H h){e sz x tx}(hv:VR X P (AA A m) m h x tx){rows is}(hs:Bf X H e sz x=some (rows,is)):isStr tx=false:=by
 cases hv with
 |own e' _=>
  unfold Bf at hs;simp only at hs;split at hs
  .rename_i hb;obtain⟨mb,g1,g2⟩:=hr.at_ _ _ hb;rw[e']at g1;cases g1;cases g2<;>rfl
  cases hs
 |gone hi e' _=>
  cases x<;>simp only[bC,a08]at hi<;>first|cases hi|skip
  all_goals (unfold Bf at hs;simp only at hs)
  all_goals first|(cases hs;done)|skip
  all_goals
   split at hs
   .rename_i hb;obtain⟨mb,g1,g2⟩:=hr.at_ _ _ hb;rw[g1]at e';cases e'<;>exact g2.elim
   .cases hs
 |str=>simp[Bf]at hs
 |_=>rfl
theorem eu.vrs{t sz}:∀{l} {cs:List TV},eu X P F m h t l cs 0 sz->cs.length=l.length*sz->bZ X P F m h (FD X t l) cs
 | [],cs,_,hl=>by have:cs=[]:=a6t.1 (by simpa using hl);subst this;exact .nil
 |a::r,cs,hw,hl=>by
  have h1:=hw.row (j:=0) (a:=a) rfl;have h2:=(hw.part (o:=1) (n:=r.length) (by simp;omega)).take;have e1:((a::r).drop 1).take r.length=r:=by simp
  rw[e1]at h2;have hl':cs.length=r.length*sz+sz:=by rw[hl,a4T,a4p,abm]
  have e2:(cs.drop (0+1*sz)).take (r.length*sz)=cs.drop sz:=by rw[a3O,abm,aad];rw[a4u];omega
  rw[e2]at h2;have h3:=eu.vrs h2 (by rw[a4u];omega);have h4:bZ X P F m h (X.enc t a) (cs.take sz):=by have:=h1.1;simpa using this
  have:=h4.app h3;rw[ahG]at this;exact this
theorem V8(hX:bW X P){ps ts}(hR:vZ X P A m ps ts){at_ d x td tx}(hd:VR X P (AA A m) m ts.heap d td)(hx:VR X P (AA A m) m ts.heap x tx){v H1 pi}(hl:a6Y X P at_ ps.heap d x=some (v,H1,pi)):XR X P A m ts (I4 P at_ ts td tx) v H1 ⟨pi,false,false,true⟩:=by
 have hr:=hR.heap;unfold a6Y at hl;split at hl
 .rename_i st vH;split at hl
  .rename_i e size zu;obtain⟨hz,h0⟩:=oM zu;split at hl
   .rename_i rows hs;obtain⟨new,s1,s2,s3⟩:=VF (m':=m) hX hr hx hz hs;have OV:isStr tx=false:=a7s hr hx hs;split at hl
    .simp only[a08,a1n]at hl;obtain⟨rfl,rfl,rfl⟩:=hl;have:td=.nil .aO:=by
      cases hd with
      |nil=>rfl
      |gone hi _ _=>simp[bC]at hi
     subst this;exact⟨_,ts.heap,_,m,by unfold I4;simp only[vH,zu,s1,s2,OV,adx,a2r],hr,.int _ _,.refl,.refl,IR.reads rfl (fun b hb=>uV hr hx hz hs hb) fun k=>lY,fun b hb=>by simp[fO]at hb⟩
    .rename_i b;split at hl
     .rename_i k0 ex t' l hb;split at hl
      .rename_i l2 IV;obtain⟨rfl,rfl⟩:=sG IV;simp only[a08,a1n]at hl;obtain⟨rfl,rfl,rfl⟩:=hl;obtain⟨mb,g1,g2⟩:=hr.at_ b _ hb;refine EP (o:=0) (n:=l2.length) hX hR vH zu hx hs hb g1 g2 ?_ (by omega) OV;cases hd with
       |gone hi e' _=>simp only[bC,a08]at hi;subst hi;rw[g1]at e';cases e'<;>exact g2.elim
       |own e' o=>
        rw[g1]at e';cases e';cases g2 with
        |nil=>exact .inr ⟨rfl,.inl rfl⟩
        |emp q1 q2 q3 q4 q5=>rw[hz]at q4;cases q4;exact .inr ⟨rfl,.inr ⟨_,_,_,_,rfl⟩⟩
        |some q1 q2=>rw[hz]at q2;cases q2;exact .inl ⟨_,_,_,_,_,rfl,q1,by rw[adl],.inr (a3O _)⟩
      .cases hl
     .cases hl
    .rename_i b o n;split at hl
     .rename_i k0 ex t' l hb;split at hl
      .rename_i l2 IV;obtain⟨rfl,rfl⟩:=sG IV;simp only[a08,a1n]at hl;obtain⟨rfl,rfl,rfl⟩:=hl;obtain⟨mb,g1,g2⟩:=hr.at_ b _ hb;cases hd with
       |gone hi e' _=>simp only[bC,a08]at hi;subst hi;rw[g1]at e';cases e'<;>exact g2.elim
       |win e' o1 o2 o3=>
        rw[g1]at e';cases e';cases g2 with
        |emp q1 q2 q3 q4 q5=>
         rw[hz]at q4;cases q4;have:n=0:=(by omega);subst this;exact EP hX hR vH zu hx hs hb g1 (LR.emp q1 q2 q3 hz q5) (.inr ⟨rfl,.inr ⟨_,_,_,_,rfl⟩⟩) o1 OV
        |some q1 q2 q3 q4 q5 q6 q7 q8 q9=>exact EP hX hR vH zu hx hs hb g1 (LR.some q1 q2 q3 q4 q5 q6 q7 q8 q9) (.inl ⟨_,_,_,_,_,rfl,q1,by rw[a3O],o3⟩) o1 OV
       |CX e'=>
        rw[g1]at e';cases e';exact EP hX hR vH zu hx hs hb g1 g2 (.inr ⟨rfl,.inl rfl⟩) (by omega) OV
      .cases hl
     .cases hl
    .rename_i b off len cap sz xx;split at hl
     .rename_i cs hb;split at hl
      .rename_i hc;obtain⟨hc1,LY⟩:=hc;subst hc1;simp only[a0z,a1n]at hl;obtain⟨TT,h1,rfl,rfl,rfl⟩:=hl;obtain⟨mb,g1,g2⟩:=hr.at_ b _ hb;cases mb with
       |gJ c=>
        obtain⟨cs',g3,g4⟩:=g2;cases hd with
        |gone hi e _=>simp only[bC,a08]at hi;subst hi;rw[g1]at e;cases e
        |aO e=>
         rw[g1]at e;cases e;have V7:eu X P (AA A m) m ts.heap _ rows new 0 sz:=s3.mono fun q hq=>by
          rcases hq with hq|⟨i,_,hi,_⟩
          .exact hq
          .simp at hi
         have hv:=(V7.vrs s2).take (min rows.length len*sz);obtain⟨Kz,g5,g6⟩:=IK g4 hv h1;have hlen:Kz.length=cs'.length:=by
          unfold wZ at g5;split at g5
          .cases g5;simp only[a1D,a4w,a4u]at *;omega
          .cases g5
         have aQ:=(a0w.1 g3).1;obtain⟨hr1,hF⟩:=hr.set (pb:=.cells TT) (hb:=.cells .own Kz) g1 (c:=c) rfl (fun EO XQ=>⟨Kz,by simp[aV,aQ],by
          simp only[aV,g3,a08]at XQ;subst XQ;omega⟩) fun hF=>⟨Kz,by simp[aQ],g6.step hF .refl⟩
         refine⟨.int .i64 ((min rows.length len:Nat):Int),_,⟨false,.h c::dn tx,[.h c]⟩,m,?_,hr1,.int _ _,hF,.refl,?_,fun d hd=>?_⟩
         .unfold I4;simp only[vH,zu,s1,s2,OV,adx,a2r];rw[a0U (by omega),XL g3,g5];rfl
         .refine⟨fun h=>(by cases h),fun k hk=>?_,fun k hk=>(by simp at hk),fun d hd=>?_,fun d hd=>?_,fun h=>(by cases h)⟩
          .rcases a1G.1 hk with e0|e0
           .cases e0
           .exact absurd e0 lY
          .simp at hd;subst hd;exact .inl ⟨b,a3M,iU g1 rfl⟩
          .rcases a1G.1 hd with e0|e0
           .cases e0;exact⟨.inl ⟨b,a3M,iU g1 rfl⟩,aQ⟩
           .obtain⟨h0,h9⟩:=uV hr hx hz hs e0;rcases h0 with⟨i,h1,h2⟩|h1
            .exact⟨.inl ⟨i,a3J _ h1,h2⟩,h9⟩
            .exact⟨.inr h1,h9⟩
         .simp at hd;subst hd;exact aY g1 rfl
       |_=>exact g2.elim
      .cases hl
     .cases hl
    .cases hl
   .cases hl
  .cases hl
 .cases hl
end
open Go Tw
section
variable{X:ny}{P:LI1}{A F:Nat->Prop}{m m':List MB}{h h':List HB}{H H':List (PB X.Γ)}
theorem VPs.oN{ps qs}(hp:VPs X P A m h ps qs):qs.all (fun p=>p.2.cells.all iM)=ps.all fun p=>p.2.cells.all a0g:=by
 induction ps generalizing qs with
 |nil=>
  have:=hp.1;cases qs with
  |nil=>rfl
  |cons=>simp at this
 |cons a ps ih=>
  obtain⟨x,r,rfl,h1,h2⟩:=hp.inv;simp only[aco,EL (IJ h1),ih h2]
theorem XU{pl}:∀{qs} {xs r:List TV},ug pl xs qs=some r->r.length=xs.length
 | [],xs,r,h=>by simp only[ug,a08]at h;rw[h]
 |(i,v)::qs,xs,r,h=>by
  simp only[ug]at h;split at h
  .split at h
   .split at h
    .rename_i cs' ho;rw[XU h];unfold wZ at ho;split at ho
     .cases ho;simp only[a1D,a4w,a4u];omega
     cases ho
    cases h
   cases h
  cases h
theorem pI{z}:∀n,(times z n).length=n*z.length
 | 0=>by simp[times]
 |n+1=>by simp[times,pI n,a4p];omega
theorem uU(hX:bW X P){ps:bT X.Γ}{ts:St}(hR:vZ X P A m ps ts){t:LI2}{len:Nat}{vs:List (Nat×PV X.Γ)}{xs:List (Nat×TV)}(hv:VPs X P (AA A m) m ts.heap vs xs){v:PV X.Γ}{H1:List (PB X.Γ)}{raw:Bool} (hl:yS X P t len ps.heap vs raw=some (v,H1)):XR X P A m ts ((qV P t len ts xs).map fun(v,s)=>(v,s,cO)) v H1 yF:=by
 have hr:=hR.heap;unfold yS at hl;split at hl
 .rename_i e n zu;obtain⟨hz,h0⟩:=oM zu;split at hl
  .rename_i hc;split at hl
   .rename_i z hzz;obtain⟨z',q1,q2⟩:=IL (A:=AA A m) (m:=m) (h:=ts.heap) hzz;split at hl
    .rename_i Xm;split at hl
     .rename_i cs hf;obtain⟨cs',q3,q4⟩:=NW hv (XM q2 len) hf;have hlen:cs'.length=len*n:=(by rw[XU q3,pI,<-q2.1,Xm]);have hT:∀w h1,(w,h1)=(TV.aO ts.heap.length 0 len len n true,ts.heap++[HB.cells .own cs'])->(qV P t len ts xs).map (fun(v,s)=>(v,s,cO))=some (w,{ ts with heap:=h1 },cO):=by intro w h1 e0;cases e0;simp only[qV,zu,hv.oN,hc,adx,a2r,q1,<-q2.1,Xm,q3,a1t]
      split at hl
      .rename_i rows is hd;cases hl;have hd:yR X ps.heap e n len cs=some (rows,is):=by
        split at hd
        .cases hd
        .exact hd
       obtain⟨e1,hw⟩:=Bq (m':=cu is m) hX hr q4 hd;by_cases hn:rows=[]
       .subst hn;have e2:len=0:=(by simpa using e1.symm);subst e2;have JQ:cs'=[]:=a6t.1 (by omega);subst JQ;have IW:HR X P A (cu is m++[.dw (.aO ts.heap.length 0 0 0 n true)]) (bf is ps.heap++[.list true true e []]) (ts.heap++[.cells .own []])/\_:=(hr.bf is).push (pb:=.list true true e []) (hb:=.cells .own []) (mb:=.dw (.aO ts.heap.length 0 0 0 n true)) (.inr rfl)
         (LR.emp (b:=ts.heap.length) (cs:=[]) ⟨hr.up _ (a1p _),fun hm=>by rw[jw,a3N,kU]at hm;simp[MB.own]at hm;have:=(hr.bf is).inb hm;omega⟩ (by simp[aV]) (a1p _) hz h0)
        have RX:=iP (h:=ts.heap) is m;refine⟨_,_,_,_,hT _ _ rfl,IW.1,.own ?_ rfl,RX.1.trans IW.2.1,RX.2.trans IW.2.2,.none,fun b hb=>by cases hb⟩;rw[<-hr.len,<-nM is m];simp
       .have IW:=kN hr is (k:=true) (ex:=true) (x:=true) hw (by rw[hlen,e1]) hn hz h0 (by simp);obtain⟨m1,g1,g2,g3,g4⟩:=IW;refine⟨_,_,_,m1,hT _ _ rfl,g1,?_,g2,g3,.none,fun b hb=>by cases hb⟩;rw[e1]at g4;exact g4
      .cases hl;have hp:=hr.push (pb:=.cells cs) (hb:=.cells .own cs') (mb:=.gJ ts.heap.length) (.inl rfl) ⟨cs',by simp,q4.step (by
        refine⟨by simp,fun b hb _=>by rw[a0Q hb],fun b hb=>?_,fun b cs hc=>⟨cs,by rw[fF (a0Q (fG hc)),hc],a1p _⟩⟩;rw[jw,a3N,kU]at hb;rcases hb with hb|hb
        .exact .inl hb
        .simp[MB.own]at hb;exact .inr (by omega)) (xQ _)⟩
       exact⟨_,_,_,_,hT _ _ rfl,hp.1,.aO (by rw[<-hr.len];simp),hp.2.1,hp.2.2,.none,fun b hb=>by cases hb⟩
     .cases hl
    .cases hl
   .cases hl
  .cases hl
 .cases hl
theorem KA{k n x}(hv:VR X P A m h (.int k n) x):x=.int k n:=by
 cases hv with
 |int=>rfl
 |gone hi _ _=>simp[bC]at hi
theorem XV{t sz a z}(ha:bZ X P F m h (X.enc t a) z)(hz:z.length=sz):∀n,eu X P F m h t (List.replicate n a) (times z n) 0 sz
 | 0=>⟨fun j a hj=>by simp at hj,by simp,fun j a i c v hj=>by simp at hj⟩
 |n+1=>by
  have h1:eu X P F m h t [a] z 0 sz:=by
   refine⟨fun j b hj=>?_,by simp[hz],fun j b i c v hj hi hx=>?_⟩
   .cases j with
    |zero=>simp only[a3H,a08]at hj;subst hj;rw[ha.1,hz]
    |succ j=>simp at hj
   cases j with
   |zero=>simp only[a3H,a08]at hj;subst hj;exact ha.2 i c v hi (by simpa using hx)
   |succ j=>simp at hj
  have:=h1.app (XV ha hz n) (by simp[hz]);simpa[afe,times]using this
theorem AX(hX:bW X P){ps:bT X.Γ}{ts:St}(hR:vZ X P A m ps ts){t:LI2}{l c:PV X.Γ}{tl tc:TV}(hvl:VR X P (AA A m) m ts.heap l tl)(hvc:VR X P (AA A m) m ts.heap c tc){v:PV X.Γ}{H1:List (PB X.Γ)}{qs:List Prop}(hl:GU X P t ps.heap l c=some (v,H1,qs)) (hq:∀q∈qs,q):XR X P A m ts ((um P t ts tl tc).map fun(v,s)=>(v,s,cO)) v H1 yF:=by
 have hr:=hR.heap;unfold GU at hl;split at hl
 .rename_i e n kl li kc ci zu;obtain⟨hz,h0⟩:=oM zu;rw[KA hvl,KA hvc];split at hl
  .rename_i Fz;split at hl
   .rename_i z hzz;obtain⟨z',q1,q2⟩:=IL (A:=AA A m) (m:=m) (h:=ts.heap) hzz;split at hl
    .rename_i Xm;split at hl
     .rename_i a ha;cases hl;have e1:li=ci:=hq _ (by simp);have e2:0<=li:=hq _ (by simp);have e3:li<=(ah:Nat):=hq _ (by simp);subst e1;have hm:li.toNat<=ah:=(by omega);have hm2:ah=2^20:=rfl;have hz2:z'.length=n:=by rw[<-q2.1];exact Xm
      have hT:∀w h1,(w,h1)=(TV.aO ts.heap.length 0 li.toNat li.toNat n true,ts.heap++[HB.cells .own (times z' li.toNat)])->(um P t ts (.int kl li) (.int kc li)).map (fun(v,s)=>(v,s,cO))=some (w,{ ts with heap:=h1 },cO):=by
       intro w h1 e0;cases e0;have hN:∀k,a3C (.int k li)=some li.toNat:=fun k=>by
        have h9:li<=2^40:=by have:((2^20:Nat):Int)<=2^40:=(by decide);rw[hm2]at e3;omega
        simp only[a3C];rw[a18 ⟨e2,h9⟩]
       simp only[um,zu,hN,a1p,true_and,jY Fz hm,a2r,q1,hz2,a1t]
      have vY:=XV (m:=m) (h:=ts.heap) (F:=AA A m) (hX.dec ha q2) hz2 li.toNat;have hlen:(times z' li.toNat).length=li.toNat*n:=(by rw[pI,hz2]);by_cases hn:li.toNat=0
      .rw[hn]at hT ⊢;simp only[List.replicate_zero];have IW:=hr.push (pb:=.list true true e []) (hb:=.cells .own (times z' 0)) (mb:=.dw (.aO ts.heap.length 0 0 0 n true)) (.inr rfl)
         (LR.emp (b:=ts.heap.length) (cs:=times z' 0) ⟨hr.up _ (a1p _),fun hm=>by rw[jw,a3N,kU]at hm;simp[MB.own]at hm;have:=hr.inb hm;omega⟩ (by simp[aV]) (a5S _) hz h0)
       exact⟨_,_,_,_,hT _ _ rfl,IW.1,.own (by rw[<-hr.len];simp) rfl,IW.2.1,IW.2.2,.none,fun b hb=>by cases hb⟩
      .obtain⟨m1,g1,g2,g3,g4⟩:=kN hr [] (k:=true) (ex:=true) (x:=true) (rows:=List.replicate li.toNat a) (vY.mono fun b hb=>.inl hb) (by rw[a7p];exact hlen) (by intro e0;exact hn (by simpa using congrArg List.length e0)) hz h0 (by simp);refine⟨_,_,_,m1,hT _ _ rfl,g1,?_,g2,g3,.none,fun b hb=>by cases hb⟩;rw[a7p]at g4;exact g4
     .cases hl
    .cases hl
   .cases hl
  .cases hl
 .cases hl
end
open Go Tw
section
variable{X:ny}{P:LI1}{A F:Nat->Prop}{m m':List MB}{h h':List HB}{H H':List (PB X.Γ)}
theorem Bz{o to}(ho:OR X P A m h o to){d n:Nat}{a}(he:zW X d o=some a)(h0:0<=a)(h1:a<=n):jM n d to=some a.toNat:=by
 cases o with
 |none=>
  cases to with
  |none=>simp only[zW,a08]at he;subst he;simp[jM]
  |some=>exact ho.elim
 |some v=>
  cases to with
  |none=>exact ho.elim
  |some x=>
   cases v<;>simp only[zW]at he<;>try (cases he;done)
   cases he;rw[KA ho];simp only[jM,rP];rw[a18 ⟨h0,h1⟩]
theorem PY{k n to}(ho:OR X P A m h (some (.int k n)) to):to=some (.int k n):=by
 cases to with
 |none=>exact ho.elim
 |some x=>rw[KA ho]
theorem sJ{to}(ho:OR X P A m h none to):to=none:=by
 cases to with
 |none=>rfl
 |some x=>exact ho.elim
theorem O1{v to}(ho:OR X P A m h (some v) to):∃x,to=some x:=by
 cases to with
 |none=>exact ho.elim
 |some x=>exact⟨x,rfl⟩
theorem afV{t e b off len cap sz ex}(hu:P.underlying t=some (.slice e))(hz:dH P e=some sz){lo hi RY RZ}(h1:OR X P A m h lo RY)(h2:OR X P A m h hi RZ){a z}(e1:zW X 0 lo=some a)(e2:zW X len hi=some z)(q0:0<=a) (q1:a<=z) (q2:z<=len):rQ P t (.aO b off len cap sz ex) RY RZ none=some (.aO b (off+a.toNat*sz) (z.toNat-a.toNat) (cap-a.toNat) sz ex):=by
 have g1:=Bz h1 e1 (n:=z.toNat) q0 (by omega);have g2:=Bz h2 e2 (n:=len) (by omega) q2;simp only[rQ,hu,hz,a2r,g2,g1]
theorem ab2{t e b off len cap sz ex}(hu:P.underlying t=some (.slice e))(hz:dH P e=some sz){lo hi RY RZ}(h1:OR X P A m h lo RY)(h2:OR X P A m h hi RZ){a z}(e1:zW X 0 lo=some a)(e2:zW X len hi=some z)(hs:hi.isSome)(q0:0<=a) (q1:a<=z) (q2:z<=len) (tZ:len<=cap) {k}:rQ P t (.aO b off len cap sz ex) RY RZ (some (.int k z))=some (.aO b (off+a.toNat*sz) (z.toNat-a.toNat) (z.toNat-a.toNat) sz true):=by
 have g1:=Bz h1 e1 (n:=z.toNat) q0 (by omega);obtain⟨hv,rfl⟩:=a6c.1 hs;obtain⟨x,rfl⟩:=O1 h2;have g3:rP cap (.int k z)=some z.toNat:=by simp only[rP];rw[a18 (by omega)]
 have g2:rP (min z.toNat len) x=some z.toNat:=by
  cases hv<;>simp only[zW]at e2<;>try (cases e2;done)
  cases e2;rw[KA (show VR X P A m h _ x from h2)];simp only[rP];rw[a18 (by omega)]
 simp only[rQ,hu,hz,a2r,g3,g2,g1]
theorem a0u{t e sz}(hu:P.underlying t=some (.slice e))(hz:dH P e=some sz){lo hi RY RZ}(h1:OR X P A m h lo RY)(h2:OR X P A m h hi RZ){a z}(e1:zW X 0 lo=some a)(e2:zW X 0 hi=some z)(q0:a=0)(q1:z=0) :rQ P t (.nil .aO) RY RZ none=some (.nil .aO)/\∀{k},hi.isSome->rQ P t (.nil .aO) RY RZ (some (.int k 0))=some (.nil .aO):=by
 subst q0;subst q1;have g1:=Bz h1 e1 (n:=0) (by omega) (by omega);have g2:=Bz h2 e2 (n:=0) (by omega) (by omega);have g0:jM 0 0 none=some 0:=rfl;refine⟨by simp only[rQ,hu,hz,g0,g1,g2];rfl,fun{k} hs=>?_⟩;obtain⟨hv,rfl⟩:=a6c.1 hs;obtain⟨x,rfl⟩:=O1 h2;have g3:jM 0 0 (some (.int k 0))=some 0:=rfl;simp only[rQ,hu,hz,g1,g2,g3] ;rfl
theorem OL{ps ts}(hR:vZ X P A m ps ts){t x tx}(hx:VR X P (AA A m) m ts.heap x tx){lo hi mx RY RZ tmx}(h1:OR X P (AA A m) m ts.heap lo RY)(h2:OR X P (AA A m) m ts.heap hi RZ)(h3:OR X P (AA A m) m ts.heap mx tmx){v qs}(hl:a0k X P t ps.heap x lo hi mx=some (v,qs)) (hq:∀q∈qs,q):∃w,rQ P t tx RY RZ tmx=some w/\VR X P (AA A m) m ts.heap v w:=by
 have hr:=hR.heap;unfold a0k at hl;split at hl
 .rename_i e t' l fu hu;split at hl
  .rename_i n a z hz e1 e2;split at hl
   .rename_i ht;subst ht;cases hl;have q0:0<=a:=hq _ (by simp);have q1:a<=z:=hq _ (by simp);have q2:z<=(l.length:Nat):=hq _ (by simp);rw[sJ h3,aiw];cases hx with
    |qx=>
     have ea:a=0:=by simp at q2;omega
     have ez:z=0:=by simp at q2;omega
     exact⟨_,(a0u hu hz h1 h2 e1 e2 ea ez).1,by simp only[List.drop_nil,List.take_nil];exact .qx⟩
    |dw p1 p2 p2' p3 p4 p5 p6 p7 p8 p9=>
     rw[hz]at p3;cases p3;exact⟨_,afV hu hz h1 h2 e1 e2 q0 q1 q2,(VR.dw p1 p2 p2' hz p4 p5 p6 p7 p8 p9).part (by omega) (by omega) (.inr (by omega)) (by simp)⟩
    |gone hi _ _=>simp[bC]at hi
   .cases hl
  .rename_i n a z k mv hz e1 e2;split at hl
   .rename_i ht;obtain⟨ht,Ci⟩:=ht;subst ht;split at hl
    .rename_i hfu;subst hfu;cases hl;have q0:a=0:=hq _ (by simp);have q2:z=(l.length:Nat):=hq _ (by simp);have q3:mv=z:=hq _ (by simp);subst q3;subst q0;rw[PY h3];cases hx with
     |qx=>
      have ez:mv=0:=(by simpa using q2);have:=(a0u hu hz h1 h2 e1 e2 rfl ez).2 (k:=k) Ci;exact⟨_,by rw[<-ez]at this;exact this,.qx⟩
     |dw p1 p2 p2' p3 p4 p5 p6 p7 p8 p9=>
      rw[hz]at p3;cases p3;obtain⟨p7a,p7b⟩:=p7 rfl;subst p7a;subst p7b;refine⟨_,ab2 hu hz h1 h2 e1 e2 Ci (aa7 0) (by omega) (by omega) p6,?_⟩;subst q2;have:=VR.dw (fu:=true) p1 p2 p2' hz p4 p5 (a1p _) (fun _=>⟨rfl,rfl⟩) p8 p9;simpa using this
     |gone hi _ _=>simp[bC]at hi
    cases hl;have q0:0<=a:=hq _ (by simp);have q1:a<=z:=hq _ (by simp);have q2:z<=(l.length:Nat):=hq _ (by simp);have q3:mv=z:=hq _ (by simp);have q4:a=z:=hq _ (by simp);subst q3;rw[PY h3,aiw];cases hx with
    |qx=>
     have ea:a=0:=by simp at q2;omega
     have ez:mv=0:=by simp at q2;omega
     have:=(a0u hu hz h1 h2 e1 e2 ea ez).2 (k:=k) Ci;rw[<-ez]at this;exact⟨_,this,by simp only[List.drop_nil,List.take_nil];exact .qx⟩
    |dw p1 p2 p2' p3 p4 p5 p6 p7 p8 p9=>
     rw[hz]at p3;cases p3;exact⟨_,ab2 hu hz h1 h2 e1 e2 Ci q0 q1 q2 p6,(VR.dw p1 p2 p2' hz p4 p5 p6 p7 p8 p9).part (by omega) (by omega) (.inl (by omega)) (by simp)⟩
    |gone hi _ _=>simp[bC]at hi
   .cases hl
  .cases hl
 .rename_i e i hu;split at hl
  .rename_i kk ex t' l hb;obtain⟨mb,g1,g2⟩:=hr.at_ i _ hb;cases mb with
   |dw y=>
    cases hx with
    |gone hi e' _=>simp only[bC,a08]at hi;subst hi;rw[g1]at e';cases e'
    |own e' o=>
     rw[g1]at e';cases e';have hlr:LR X P (AA A m) m ts.heap kk ex t' l tx:=g2;split at hl
     .rename_i n a z hz e1 e2;split at hl
      .rename_i ht;subst ht;cases hl;have q0:0<=a:=hq _ (by simp);have q1:a<=z:=hq _ (by simp);have q2:z<=(l.length:Nat):=hq _ (by simp);rw[sJ h3];cases hlr with
       |nil=>
        have ea:a=0:=by simp at q2;omega
        have ez:z=0:=by simp at q2;omega
        refine⟨_,(a0u hu hz h1 h2 e1 e2 ea ez).1,?_⟩;subst ea;subst ez;exact .CX g1
       |emp p0 p1 p2 p3 p4=>
        rw[hz]at p3;cases p3;exact⟨_,afV (len:=0) hu hz h1 h2 e1 e2 q0 q1 q2,.win g1 (by simp at q2;omega) (by simp at q2;omega) (.inl (by simp at q2;omega))⟩
       |some p1 p2 p3 p4 p5 p6 p7 p8 p9=>
        rw[hz]at p2;cases p2;exact⟨_,afV hu hz h1 h2 e1 e2 q0 q1 q2,.win g1 (by omega) (by omega) (.inr (by omega))⟩
      .cases hl
     .rename_i n a z k mv hz e1 e2;split at hl
      .rename_i ht;obtain⟨ht,Ci⟩:=ht;subst ht;cases hl;have q0:a=0:=hq _ (by simp);have q2:z=(l.length:Nat):=hq _ (by simp);have q3:mv=z:=hq _ (by simp);subst q3;subst q0;rw[PY h3];cases hlr with
       |nil=>
        have ez:mv=0:=(by simpa using q2);have:=(a0u hu hz h1 h2 e1 e2 rfl ez).2 (k:=k) Ci;exact⟨_,by rw[<-ez]at this;exact this,.Ku g1⟩
       |emp p0 p1 p2 p3 p4=>
        rw[hz]at p3;cases p3;have ez:mv=0:=(by simpa using q2);subst ez;refine⟨_,ab2 (len:=0) hu hz h1 h2 e1 e2 Ci (aa7 0) (by omega) (by omega) (a1p _),?_⟩;simpa using VR.Hz (X:=X) (P:=P) (A:=AA A m) (h:=ts.heap) g1
       |some p1 p2 p3 p4 p5 p6 p7 p8 p9=>
        rw[hz]at p2;cases p2;refine⟨_,ab2 hu hz h1 h2 e1 e2 Ci (aa7 0) (by omega) (by omega) (a1p _),?_⟩;subst q2;have:=VR.Hz (X:=X) (P:=P) (A:=AA A m) (h:=ts.heap) g1;simpa using this
      .cases hl
     .cases hl
   |_=>exact g2.elim
  .cases hl
 .rename_i e hu;have:tx=.nil .aO:=by
   cases hx with
   |nil=>rfl
   |gone hi _ _=>simp[bC]at hi
  subst this;split at hl
  .rename_i n a z hz e1 e2;cases hl;have q0:a=0:=hq _ (by simp);have q1:z=0:=hq _ (by simp);rw[sJ h3];exact⟨_,(a0u hu hz h1 h2 e1 e2 q0 q1).1,.nil _⟩
  .rename_i n a z k mv hz e1 e2;split at hl
   .rename_i Ci;cases hl;have q0:a=0:=hq _ (by simp);have q1:z=0:=hq _ (by simp);have q2:mv=0:=hq _ (by simp);subst q2;rw[PY h3];exact⟨_,(a0u hu hz h1 h2 e1 e2 q0 q1).2 Ci,.nil _⟩
   .cases hl
  .cases hl
 .cases hl
theorem Dv(hX:bW X P){ps ts}(hR:vZ X P A m ps ts){t x ex}(hx:JG X P (AA A m) m ts.heap x ex){lo hi mx RY RZ tmx}(h1:OR X P (AA A m) m ts.heap lo RY)(h2:OR X P (AA A m) m ts.heap hi RZ)(h3:OR X P (AA A m) m ts.heap mx tmx){v H1 qs}(hl:Kq X P t ps.heap x lo hi mx=some (v,H1,qs)) (hq:∀q∈qs,q):XR X P A m ts ((qU P t ex RY RZ tmx).map fun v=>(v,ts,cO)) v H1 yF:=by
 have hr:=hR.heap;unfold Kq at hl;split at hl
 .rename_i n e b off lim hu;split at hl
  .rename_i size hz;split at hl
   .cases hl
   .rename_i Nb;split at hl
    .cases hl
    .rw[sJ h3];obtain⟨y,rfl,hy⟩:=fZ hx;split at hl
     .split at hl
      .rename_i cs hb;cases hl;rw[sJ h1,sJ h2];obtain⟨mb,g1,g2⟩:=hr.at_ b _ hb;cases mb with
       |gJ c=>
        cases hy with
        |gone hi e' _=>simp only[bC,a08]at hi;subst hi;rw[g1]at e';cases e'
        |ptr e'=>
         rw[g1]at e';cases e';exact⟨.aO c off n n size true,ts.heap,cO,m,by simp[qU,hu,hz,Nb,jM],hr,.aO g1,.refl,.refl,.none,fun d hd=>by cases hd⟩
       |_=>exact g2.elim
      .cases hl
     .rename_i ZN wR _;split at hl
      .rename_i cs a z hb e1 e2;split at hl
       .cases hl
       rename_i afP;split at hl
       .rename_i rows is hd;cases hl;have q0:0<=a:=hq _ (by simp);have q1:a<=z:=hq _ (by simp);have q2:z<=(n:Nat):=hq _ (by simp);obtain⟨mb,g1,g2⟩:=hr.at_ b _ hb;cases mb with
        |gJ c=>
         obtain⟨cs',g3,g4⟩:=g2;cases hy with
         |gone hi e' _=>simp only[bC,a08]at hi;subst hi;rw[g1]at e';cases e'
         |ptr e'=>
          rw[g1]at e';cases e';have f1:=Bz h1 e1 (n:=z.toNat) q0 (by omega);have f2:=Bz h2 e2 (n:=n) (by omega) q2;obtain⟨w1,w2⟩:=Bq (m':=cu (b::is) m) hX hr (g4.drop off) hd;have w3:=w2.2.1;rw[a4u]at w3;have hgo:=hr.bf (b::is);have RX:=iP (h:=ts.heap) (b::is) m;have hnc:AA A (cu (b::is) m) c:=by refine FA.gone hr (.inr ⟨b,_,a3M,g1,rfl⟩)
          refine⟨.aO c (off+a.toNat*size) (z.toNat-a.toNat) (n-a.toNat) size true,ts.heap,cO,cu (b::is) m,?_,hgo,?_,RX.1,RX.2,.none,fun d hd=>by cases hd⟩
          .have f0:jM n n none=some n:=rfl;simp only[qU,hu,hz,Nb,a3V,f0,f2,f1,Option.isSome_none,Bool.false_and,a3F,a1t]
          .rw[aiw];have ajZ:VR X P (AA A (cu (b::is) m)) (cu (b::is) m) ts.heap (.dw e rows false) (.aO c off rows.length n size true):=by
            refine .dw hnc (by unfold aV;rw[g3]) (fun _=>xP g3 (by simp)) hz (by omega) ?_ (by omega) (by simp) w2.1 (fun j y i d v hj hi hx=>?_)
            .rw[w1,<-g4.1];omega
            .refine(w2.2.2 j y i d v hj hi ?_).mono fun q hq=>FA.gone hr (FA.mono (fun i hi=>a3J _ hi) hq);rw[a5z,<-hx];congr 1;omega
           exact ajZ.part (by omega) (by omega) (.inr (by omega)) (by simp)
        |_=>exact g2.elim
       .cases hl
      .cases hl
  .cases hl
 .cases hl
theorem VG{ps ts}(hR:vZ X P A m ps ts){t x ex}(hx:JG X P (AA A m) m ts.heap x ex){lo hi RY RZ tmx}(h1:OR X P (AA A m) m ts.heap lo RY)(h2:OR X P (AA A m) m ts.heap hi RZ)(h3:OR X P (AA A m) m ts.heap none tmx){v}(hl:GV X P t ps.heap x lo hi=some v):XR X P A m ts ((qU P t ex RY RZ tmx).map fun v=>(v,ts,cO)) v ps.heap yF:=by
 have hr:=hR.heap;unfold GV at hl;split at hl
 .rename_i n e b off lim hu;split at hl
  .rename_i size cs a z hz hb e1 e2;split at hl
   .cases hl
   .rename_i Nb;split at hl
    .rename_i hq;cases hl;rw[sJ h3];obtain⟨y,rfl,hy⟩:=fZ hx;obtain⟨mb,g1,g2⟩:=hr.at_ b _ hb;cases mb with
     |gJ c=>
      cases hy with
      |gone hi e' _=>simp only[bC,a08]at hi;subst hi;rw[g1]at e';cases e'
      |ptr e'=>
       rw[g1]at e';cases e';have f1:=Bz h1 e1 (n:=z.toNat) hq.1 (by omega);have f2:=Bz h2 e2 (n:=n) (by omega) hq.2.2;refine⟨.aO c (off+a.toNat*size) (z.toNat-a.toNat) (n-a.toNat) size true,ts.heap,cO,m,?_,hr,.aO g1,.refl,.refl,.none,fun d hd=>by cases hd⟩;have f0:jM n n none=some n:=rfl;simp only[qU,hu,hz,Nb,a3V,f0,f2,f1,Option.isSome_none,Bool.false_and,a3F,a1t]
     |_=>exact g2.elim
    .cases hl
  .cases hl
 .cases hl
end
open Go Tw
section
variable{X:ny}{P:LI1}{A B F:Nat->Prop}{m m':List MB}{h h':List HB}{H H':List (PB X.Γ)}
theorem wU:∀{vs} {i:Nat} {v:PV X.Γ},yE.Iy vs=false->vs[i]? = some v->yE v=false
 | [],_,_,_,h=>by simp at h
 |a::vs,i,v,hc,h=>by
  simp only[yE.Iy,aaw]at hc;cases i with
  |zero=>simp only[a3H,a08]at h;subst h;exact hc.1
  |succ i=>exact wU hc.2 (by simpa using h)
theorem uG{k}:∀{vs} {i:Nat} {v:PV X.Γ},(shift.shifts k vs)[i]? = some v->∃u,vs[i]? = some u/\v=shift k u
 | [],_,_,h=>by simp[shift.shifts]at h
 |a::vs,i,v,h=>by
  cases i with
  |zero=>simp only[shift.shifts,a3H,a08]at h;exact⟨a,rfl,h.symm⟩
  |succ i=>obtain⟨u,h1,h2⟩:=uG (vs:=vs) (i:=i) (by simpa[shift.shifts]using h);exact⟨u,by simpa using h1,h2⟩
theorem uH{k}:∀{vs:List (PV X.Γ)},(shift.shifts k vs).length=vs.length
 | []=>rfl
 |a::vs=>by simp[shift.shifts,uH (vs:=vs)]
theorem a0v{k i}{v:PV X.Γ}(h:bC v=some i):bC (shift k v)=some (i+k):=by cases v<;>simp[bC]at h<;>subst h<;>rfl
theorem VR.shift(hX:bW X P){m0 v x}(hv:VR X P A m h v x)(hq:(∀b,A b->B b)\/yE v=false):VR X P B (m0++m) h (Pv.shift m0.length v) x:=by
 have at':∀{i:Nat} {mb:MB},m[i]? = some mb->(m0++m)[i+m0.length]? = some mb:=by intro i mb hi;rw[a1y (by omega)];simpa using hi
 induction hv with
 |bool=>exact .bool _
 |lit=>exact .lit _
 |int=>exact .int _ _
 |str=>exact .str _
 |nil=>exact .nil _
 |ptr e=>exact .ptr (at' e)
 |aO e=>exact .aO (at' e)
 |own e o=>exact .own (at' e) o
 |win e q q' q2=>exact .win (at' e) q q' q2
 |CX e=>exact .CX (at' e)
 |Hz e=>exact .Hz (at' e)
 |Ku e=>exact .Ku (at' e)
 |map e=>exact .map (at' e)
 |iter e=>exact .iter (at' e)
 |fn h1 _ h3 _ i2 i4=>
  refine .fn (by rw[uH,h1]) (fun i x y hx hy=>?_) (by rw[uH,h3]) (fun i x y hx hy=>?_)
  .obtain⟨u,g1,rfl⟩:=uG hx;exact i2 i u y g1 hy (hq.imp_right fun hq=>by simp only[yE,aaw]at hq;exact wU hq.1 g1)
  obtain⟨u,g1,rfl⟩:=uG hx;exact i4 i u y g1 hy (hq.imp_right fun hq=>by simp only[yE,aaw]at hq;exact wU hq.2 g1)
 |l9 e=>exact .l9 (at' e)
 |agg h1 _ i2=>
  refine .agg (by rw[uH,h1]) (fun i x y hx hy=>?_);obtain⟨u,g1,rfl⟩:=uG hx;exact i2 i u y g1 hy (hq.imp_right fun hq=>by simp only[yE]at hq;exact wU hq g1)
 |dK h1 _ i2=>
  refine .dK (by rw[uH,h1]) (fun i x y hx hy=>?_);obtain⟨u,g1,rfl⟩:=uG hx;exact i2 i u y g1 hy (hq.imp_right fun hq=>by simp only[yE]at hq;exact wU hq g1)
 |qx=>exact .qx
 |dw a c c2 s z o k f e r _=>
  rcases hq with hq|hq
  .exact .dw (hq _ a) c c2 s z o k f e fun j y i d v h1 h2 h3=>((r j y i d v h1 h2 h3).mono hq).jD hX (fM (hX.jD _ _) h2)
  simp[yE]at hq
 |el a c l o e q r _=>
  rcases hq with hq|hq
  .exact .el (hq _ a) c l o e q fun i d v h1 h2=>((r i d v h1 h2).mono hq).jD hX (fM (hX.jD _ _) h1)
  simp[yE]at hq
 |row e j q=>exact .row (at' e) j q
 | @gone v i x hi e o=>
  have e':(m0++m)[i+m0.length]? = m[i]?:=by rw[a1y (by omega)];congr 1;omega
  exact .gone (a0v hi) (by rw[e'];exact e.as fun c=>by cases v<;>rfl) o
theorem bZ.shift(hX:bW X P){m0 v x}(hv:bZ X P A m h v x)(hq:(∀b,A b->B b)\/yE.Iy v=false):bZ X P B (m0++m) h (Pv.shift.shifts m0.length v) x:=by refine⟨by rw[uH,hv.1],fun i a b ha hb=>?_⟩;obtain⟨u,g1,rfl⟩:=uG ha;exact(hv.2 i u b g1 hb).shift hX (hq.imp_right fun hq=>wU hq g1)
theorem BR.shift(hX:bW X P){m0 b b' mb}(hb:BR X P A m h b mb)(hs:GN X m0.length b=some b')(hq:(∀c,A c->B c)\/hasB X b=false):BR X P B (m0++m) h b' mb:=by
 cases b with
 |cells cs=>
  cases mb with
  |gJ c=>
   simp only[GN,a08]at hs;subst hs;obtain⟨cs',h1,h2⟩:=hb;exact⟨cs',h1,h2.shift hX hq⟩
  |_=>exact hb.elim
 |list k ex t l=>
  cases mb with
  |dw y=>
   simp only[GN,a08]at hs;subst hs;rcases hq with hq|hq
   .cases(hb:LR X P A m h k ex t l y)with
    |nil=>exact LR.nil
    |emp p0 p1 p2 p3 p4=>exact LR.emp (hq _ p0) p1 p2 p3 p4
    |some p1 p2 p3 p4 p5 p6 p7 p8 p9=>exact LR.some p1 p2 p3 p4 p5 p6 p7 p8 ((p9.mono hq).jD hX)
   simp[hasB]at hq
  |_=>exact hb.elim
 |gone=>
  cases mb with
  |gone=>simp only[GN,a08]at hs;subst hs;trivial
  |_=>exact hb.elim
 |_=>simp[GN]at hs
theorem MF{k}:∀{bs bs'} {i:Nat} {b':PB X.Γ},su X k bs=some bs'->bs'[i]? = some b'->∃b,bs[i]? = some b/\GN X k b=some b'
 | [],bs',i,b',h,hi=>by simp only[su,a08]at h;subst h;simp at hi
 |b::bs,bs',i,b',h,hi=>by
  simp only[su]at h;split at h
  .rename_i c cs h1 h2;cases h;cases i with
   |zero=>simp only[a3H,a08]at hi;subst hi;exact⟨b,rfl,h1⟩
   |succ i=>obtain⟨d,g1,g2⟩:=MF h2 (i:=i) (by simpa using hi);exact⟨d,by simpa using g1,g2⟩
  cases h
theorem MG{k}:∀{bs bs'},su X k bs=some bs'->bs'.length=bs.length
 | [],bs',h=>by simp only[su,a08]at h;subst h;rfl
 |b::bs,bs',h=>by
  simp only[su]at h;split at h
  .rename_i c cs h1 h2;cases h;simp[MG h2]
  cases h
def nN(X:ny)(P:LI1)(call:dN)(f:FuncId)(vs:List (PV X.Γ))(v:PV X.Γ)(ext:List (PB X.Γ)):Prop:=
 ∀(A:Nat->Prop) (h:List HB) (first args cap:List TV),(∀b,h.length<=b->A b)->bZ X P A [] h vs (first++args++cap) ->
  ∃w h' m',call (.fn f first cap) args h=some (w,h',[])/\HR X P A m' ext h'/\VR X P (AA A m') m' h' v w/\Fr [] h m' h'
theorem IX(hX:bW X P){call f first xs cap vs v ext ext'}(hc:nN X P call f vs v ext)(hr:HR X P A m H h)(hv:views H (first++xs++cap)=some vs)(hs:su X H.length ext=some ext'){t1 t2 t3} (h1:bZ X P (AA A m) m h first t1) (h2:bZ X P (AA A m) m h xs t2) (h3:bZ X P (AA A m) m h cap t3) :∃w h' m1,call (.fn f t1 t3) t2 h=some (w,h',[])/\HR X P A m1 ((if yE v||ext.any (hasB X)then bf (lG.kT (first++xs++cap)) H else H)++ext') h'/\VR X P (AA A m1) m1 h' (shift H.length v) w/\Fr m h m1 h'/\Up m m1:=by
 have RH:=lX (m':=[]) hX hr ((h1.app h2).app h3) hv (is:=lG.kT (first++xs++cap)) fun i hi=>hi;generalize lG.kT (first++xs++cap)=is at RH ⊢;obtain⟨w,h',m',c1,c2,c3,c4⟩:=hc (fun b=>FA A m is b\/h.length<=b) h t1 t2 t3 (fun b hb=>.inr hb) (RH.mono fun b hb=>.inl hb);have hold:∀b,b<h.length->h'[b]? = h[b]?:=fun b hb=>c4.same b hb (by simp[aZ]);have fQ:∀b,b∈aZ m'->h.length<=b:=fun b hb=>by
  rcases c4.new b hb with h0|h0
  .simp[aZ]at h0
  .exact h0
 have key:∀(m0:List MB) (H0:List (PB X.Γ)),HR X P A m0 H0 h->Fr m h m0 h->Up m m0->m0.length=H.length->((∀b,FA A m is b->AA A m0 b)\/(yE v||ext.any (hasB X))=false) ->
   ∃m1,HR X P A m1 (H0++ext') h'/\VR X P (AA A m1) m1 h' (shift H.length v) w/\Fr m h m1 h'/\Up m m1:=by
  intro m0 H0 hr0 hF0 hU0 qY hq;have hF:Fr m0 h (m0++m') h':=by refine⟨c4.len,fun b hb _=>hold b hb,fun b hb=>?_,fun b cs hc=>⟨cs,by rw[fF (hold b (fG hc)),hc],a1p _⟩⟩;rw[jw,a3N]at hb;exact hb.imp_right fun hb=>fQ b hb
  have hA:(∀b,AA (fun b=>FA A m is b\/h.length<=b) m' b->AA A (m0++m') b)\/(yE v||ext.any (hasB X))=false:=by
   refine hq.imp_left fun hq b hb=>?_;refine⟨?_,fun hm=>?_⟩
   .rcases hb.1 with h0|h0
    .exact(hq b h0).1
    .exact hr.up b h0
   .rw[jw,a3N]at hm;rcases hm with hm|hm
    .rcases hb.1 with h0|h0
     .exact(hq b h0).2 hm
     .have:=hr0.inb hm;omega
    .exact hb.2 hm
  refine⟨m0++m',?_,?_,hF0.trans hF,hU0.trans (xQ _)⟩
  .refine hr0.next hF (xQ _) (by rw[a1D,a1D,hr0.len,MG hs,c2.len]) ?_ fun i b hi=>?_
   .rw[jw];refine a9M.2 ⟨hr0.nodup,c2.nodup,fun a ha b hb e=>?_⟩;subst e;have:=hr0.inb ha;have:=fQ a hb;omega
   .rcases a5l i H0.length with aQ|CS
    .left;rw[a0Q aQ]at hi;obtain⟨mb,g1,g2⟩:=hr0.at_ i b hi;exact⟨mb,hi,g1,by rw[a0Q (by rw[hr0.len];exact aQ)];exact g1,fun c hc=>hold c (g2.has hc)⟩
    .right;rw[a1y CS]at hi;obtain⟨b0,g1,g2⟩:=MF hs hi;obtain⟨mb,g3,g4⟩:=c2.at_ _ _ g1;refine⟨mb,by rw[a1y (by rw[hr0.len];exact CS),hr0.len];exact g3,?_⟩;rw[<-qY]at g2;refine g4.shift hX g2 (hA.imp_right fun hq=>?_);simp only[aaw,List.any_eq_false]at hq;simpa using hq.2 b0 (a5M g1)
  .rw[<-qY];exact c3.shift hX (hA.imp_right fun hq=>by simp only[aaw]at hq;exact hq.1)
 refine⟨w,h',?_⟩;by_cases hL:(yE v||ext.any (hasB X))=true
 .rw[a18 hL];obtain⟨m1,e1,e2,e3,e4⟩:=key (cu is m) (bf is H) (hr.bf is) (iP (h:=h) is m).1 (iP (h:=h) is m).2 (by rw[nM,hr.len]) (.inl fun b hb=>hb.gone hr);exact⟨m1,c1,e1,e2,e3,e4⟩
 .rw[a0U hL];obtain⟨m1,e1,e2,e3,e4⟩:=key m H hr .refl .refl hr.len (.inr (by simpa using hL));exact⟨m1,c1,e1,e2,e3,e4⟩
end
open Go Tw
section
variable{X:ny}{P:LI1}{A B F:Nat->Prop}{m m':List MB}{h h':List HB}{H H':List (PB X.Γ)}
def dI(X:ny)(P:LI1)(call:dN):a4n X.Γ:=fun fv xs H v H1=>
 ∀(A:Nat->Prop) (m:List MB) (h:List HB) (tf:TV) (rJ:List TV),HR X P A m H h->VR X P (AA A m) m h fv tf->bZ X P (AA A m) m h xs rJ ->
  ∃w h1 ws m1,call tf rJ h=some (w,h1,ws)/\HR X P A m1 H1 h1/\VR X P (AA A m1) m1 h1 v w/\Fr m h m1 h1/\Up m m1/\∀b∈ws,b∈aZ m
def jR(X:ny)(P:LI1)(call:dN)(fU:fV X.Γ):Prop:=∀f vs v ext ps,fU f vs=some (v,ext,ps)->(∀p∈ps,p)->nN X P call f vs v ext
theorem vO{ρ}{y:ρ}:∀{ps} {x},(owe ps x).Ends y->(∀p∈ps,p)/\x.Ends y
 | [],x,h=>⟨by simp,h⟩
 |p::ps,x,h=>by have:=vO h.2;exact⟨fun q hq=>by rcases a1G.1 hq with rfl|hq;exact h.1;exact this.1 q hq,this.2⟩
theorem a0x{ρ}{y:ρ}{u an k}(hk:(byB X u an k).Ends y){tu}(hu:VR X P A m h u tu):∃t IY,tu=.bool t/\(k t IY).Ends y:=by
 cases u with
 |lit b=>
  have:tu=.bool b:=by
   cases hu with
   |lit=>rfl
   |gone hi _ _=>simp[bC]at hi
  exact⟨b,an,this,hk⟩
 |bool b=>
  have hb:tu=.bool b:=by
   cases hu with
   |bool=>rfl
   |gone hi _ _=>simp[bC]at hi
  subst hb;cases an with
  |s x z=>
   rcases hk with⟨h1,h2⟩|⟨h1,h2⟩
   .subst h1;exact⟨true,x,rfl,h2⟩
   subst h1;exact⟨false,z,rfl,h2⟩
  |a x r=>
   cases x with
   |br t=>obtain⟨h1,h2⟩:=hk;subst h1;exact⟨_,r,rfl,h2⟩
   |_=>exact hk.elim
  |_=>exact hk.elim
 |_=>exact hk.elim
theorem sK:∀{es} {gQ:List (TV×TV)} {ks:List TV},es.length=gQ.length->(∀(i:Nat) x y,es[i]? = some x->gQ[i]? = some y->VR X P A m h x.1 y.1/\VR X P A m h x.2 y.2)->wC X es=some ks->gQ.map (·.1)=ks
 | [],gQ,ks,hl,_,hk=>by
  simp only[wC,a08]at hk;subst hk;cases gQ with
  |nil=>rfl
  |cons=>simp at hl
 |(k,v)::es,gQ,ks,hl,he,hk=>by
  cases gQ with
  |nil=>simp at hl
  |cons y gQ=>
   simp only[wC]at hk;split at hk
   .rename_i a b h1 h2;cases hk;have:=jX (he 0 _ _ rfl rfl).1 h1;simp only[a4W,this];rw[sK (by simpa using hl) (fun i x z hx hz=>he (i+1) x z (by simpa using hx) (by simpa using hz)) h2]
   cases hk
theorem XW:∀{ks} {vs},CQ ks=some vs->vs.length=ks.length
 | [],vs,h=>by simp only[CQ,a08]at h;subst h;rfl
 |k::ks,vs,h=>by
  simp only[CQ]at h;split at h
  .rename_i v ws _ h2;cases h;simp[XW h2]
  cases h
theorem qB{kt k gQ}:FT P kt k gQ=wE P kt k (gQ.map (·.1)):=by
 unfold FT wE;cases hv:CQ (gQ.map (·.1))with
 |none=>rfl
 |some vs=>
  have hl:=XW hv;have:gQ.isEmpty=vs.isEmpty:=by cases gQ<;>cases vs<;>simp at hl<;>rfl
  simp only[this]<;>rfl
def TW:TV->List Key
 |.map r=>[.h r]
 |_=>[]
def a4s(h:List HB):TV->Option (List (TV×TV))
 |.nil .map=>some []
 |.map r=>match h[r]? with
  |some (.map es)=>some es
  |_=>none
 |_=>none
theorem MH{t:LI2}{h:List HB}{tm tk:TV}{ok:Bool}{kt e:LI2}{kv:LI3}{es:List (TV×TV)}(hu:P.underlying t=some (.map kt e))(hk:tk.zk=some kv)(he:a4s h tm=some es) :
  iG P t h tm tk ok=match FT P kt kv es with
   |some (some i)=>match es[i]? with
    |some (_,v)=>some (if ok then .dK [v,.bool true]else v)
    |none=>none
   |some none=>match P.info? e with
    |some i=>match i.zero with
     |some z=>(TV.X4 z).map fun z=>if ok then .dK [z,.bool false]else z
     |none=>none
    |none=>none
   |none=>none:=by
 unfold iG;simp only[hu,hk];cases tm with
 |nil k=>
  cases k<;>simp only[a4s]at he<;>try (cases he;done)
  cases he;rfl
 |map r=>
  simp only[a4s]at he;split at he
  .rename_i es0 hb;cases he;simp only[hb];rfl
  .cases he
 |_=>simp[a4s]at he
theorem DT{H h}(hr:HR X P A m H h){r es}(he:Me X H r=some es):∃c gQ,(m[r]? = some (.gJ c)\/(m[r]? = some (.jI c)/\c∉aZ m))/\h[c]? = some (.map gQ)/\es.length=gQ.length /\∀(i:Nat) x y,es[i]? = some x->gQ[i]? = some y->qG x.1=some y.1/\qG x.2=some y.2:=by
 unfold Me at he;split at he
 .rename_i es0 hb;cases he;obtain⟨mb,g1,g2⟩:=hr.at_ r _ hb;cases mb with
  |gJ c=>obtain⟨gQ,g3,g4,g5⟩:=g2;exact⟨c,gQ,.inl g1,g3,g4,g5⟩
  |_=>exact g2.elim
 .rename_i es0 hb;cases he;obtain⟨mb,g1,g2⟩:=hr.at_ r _ hb;cases mb with
  |jI c=>obtain⟨g0,gQ,g3,g4,g5⟩:=g2;exact⟨c,gQ,.inr ⟨g1,g0⟩,g3,g4,g5⟩
  |_=>exact g2.elim
 .cases he
theorem a2q{B h r c tm}(hm:VR X P B m h (.map r) tm)(hc:m[r]? = some (.gJ c)\/(m[r]? = some (.jI c)/\c∉aZ m)):tm=.map c:=by
 cases hm with
 |map e=>
  rcases hc with h|⟨h,_⟩<;>rw[h]at e<;>cases e
  rfl
 |gone hi e _=>
  simp only[bC,a08]at hi;subst hi;rcases hc with h|⟨h,_⟩<;>rw[h]at e
  .cases e
  cases e with
  |r c hv=>simp only[roV,a08]at hv;exact hv.symm
theorem TY{r c ks}(hc:m[r]? = some (.gJ c)\/(m[r]? = some (.jI c)/\c∉aZ m)):(∃i,Key.h i∈Key.h r::ks/\GZ m i c)\/c∉aZ m:=by
 rcases hc with h|⟨_,h⟩
 .exact .inl ⟨r,by simp,iU h rfl⟩
 exact .inr h
theorem afW{ps ts}(hR:vZ X P A m ps ts){mv tm}(hm:VR X P (AA A m) m ts.heap mv tm){es}(he:a7f X ps.heap mv=some es) :∃gQ,a4s ts.heap tm=some gQ/\es.length=gQ.length/\(∀(i:Nat) x y,es[i]? = some x->gQ[i]? = some y->VR X P (AA A m) m ts.heap x.1 y.1/\VR X P (AA A m) m ts.heap x.2 y.2) /\IR m ts.heap ⟨fO (TK X mv),false,false,true⟩ (fO (TW tm)):=by
 cases mv with
 |nil k=>
  cases hm with
  |nil=>
   cases k<;>simp only[a7f]at he<;>try (cases he;done)
   cases he;exact⟨[],rfl,rfl,fun i x y hx=>by simp at hx,IR.reads rfl (by simp[TW]) (by simp[TW])⟩
  |gone hi _ _=>simp[bC]at hi
 |map r=>
  simp only[a7f]at he;obtain⟨c,gQ,g0,g3,g4,g5⟩:=DT hR.heap he;have htm:=a2q hm g0;subst htm;refine⟨gQ,by simp only[a4s,g3],g4,fun i x y e1 e2=>⟨oK (g5 i x y e1 e2).1,oK (g5 i x y e1 e2).2⟩,IR.reads rfl (fun b hb=>?_) (by simp[TW])⟩;simp[TW]at hb;subst hb;exact⟨TY g0,(a0w.1 g3).1⟩
 |_=>simp[a7f]at he
theorem O4{a b x y}(h1:VR X P A m h a x)(h2:VR X P A m h b y):VR X P A m h (.dK [a,b]) (.dK [x,y]):=by
 have:=(bZ.nil (X:=X) (P:=P) (A:=A) (m:=m) (h:=h)).cons h2 |>.cons h1
 exact .dK this.1 this.2
theorem XY{e z}(h:PN X P e=some z):∃i z0 z1,P.info? e=some i/\i.zero=some z0/\TV.X4 z0=some z1/\Zx z1=some z:=by
 unfold PN at h;split at h
 .rename_i i hi;split at h
  .rename_i z0 hz0;split at h
   .rename_i z1 hz1;exact⟨i,z0,z1,hi,hz0,hz1,h⟩
   cases h
  cases h
 cases h
theorem ab4{ρ}{y:ρ}{ps ts}(hR:vZ X P A m ps ts){t mv kv tm tk}(hm:VR X P (AA A m) m ts.heap mv tm)(hk:VR X P (AA A m) m ts.heap kv tk){ok an c}(hl:(a0o X P t ps mv kv ok an c).Ends y):∃v pi IY w,iG P t ts.heap tm tk ok=some w/\VR X P (AA A m) m ts.heap v w/\(c (.val v) pi IY).Ends y/\IR m ts.heap pi (fO (TW tm)):=by
 unfold a0o at hl;split at hl
 .rename_i kt e tk' es hu htk ND;have:=jX hk htk;subst this;obtain⟨gQ,f1,f2,f3,f4⟩:=afW hR hm ND;have fnd:∀{yG ks j k0 v},tk.zk=some yG->wC X es=some ks->wE P kt yG ks=some (some j)->es[j]? = some (k0,v)->∃w,iG P t ts.heap tm tk ok=some w/\VR X P (AA A m) m ts.heap (if ok then .dK [v,.bool true]else v) w:=by
   intro yG ks j k0 v CY FZ PZ hj;have uh:=sK f2 f3 FZ;have aQ:j<gQ.length:=by rw[<-f2];exact(a0w.1 hj).1
   have EC:=a0N aQ;have hv:=(f3 j _ _ hj EC).2;refine⟨(if ok then .dK [gQ[j].2,.bool true]else gQ[j].2),?_,?_⟩
   .rw[MH hu CY f1];simp only[qB,uh,PZ,EC]
   .cases ok with
    |true=>exact O4 hv (.bool _)
    |false=>exact hv
  have non:∀{yG ks z},tk.zk=some yG->wC X es=some ks->wE P kt yG ks=some none->PN X P e=some z->∃w,iG P t ts.heap tm tk ok=some w/\VR X P (AA A m) m ts.heap (if ok then .dK [z,.bool false]else z) w:=by
   intro yG ks z CY FZ PZ hz;have uh:=sK f2 f3 FZ;obtain⟨i,z0,z1,hi,hz0,hz1,hz2⟩:=XY hz;refine⟨(if ok then .dK [z1,.bool false]else z1),?_,?_⟩
   .rw[MH hu CY f1];simp only[qB,uh,PZ,hi,hz0,hz1,a1t]
   .cases ok with
    |true=>exact O4 (xR hz2) (.bool _)
    |false=>exact xR hz2
  split at hl
  .obtain⟨⟨yG,ks,j,k0,g1,g2,g3,g4⟩,hl⟩:=hl;obtain⟨w,w1,w2⟩:=fnd g1 g2 g3 g4;exact⟨_,_,_,w,w1,w2,hl,f4⟩
  .split at hl
   .rename_i z hz;obtain⟨⟨yG,ks,g1,g2,g3⟩,hl⟩:=hl;obtain⟨w,w1,w2⟩:=non g1 g2 g3 hz;exact⟨_,_,_,w,w1,w2,hl,f4⟩
   .exact hl.elim
  .split at hl
   .rename_i z hz;obtain⟨⟨yG,ks,g1,g2,g3⟩,hl⟩:=hl;obtain⟨w,w1,w2⟩:=non g1 g2 g3 hz;exact⟨_,_,_,w,w1,w2,hl,f4⟩
   .exact hl.elim
  .split at hl
   .rename_i yG ks CY FZ;split at hl
    .rename_i j r _ _;split at hl
     .rename_i k0 v hj;obtain⟨PZ,hl⟩:=hl;obtain⟨w,w1,w2⟩:=fnd CY FZ PZ hj;exact⟨_,_,_,w,w1,w2,hl,f4⟩
     .exact hl.elim
    .split at hl
     .rename_i z hz;obtain⟨PZ,hl⟩:=hl;obtain⟨w,w1,w2⟩:=non CY FZ PZ hz;exact⟨_,_,_,w,w1,w2,hl,f4⟩
     .exact hl.elim
    .exact hl.elim
   .exact hl.elim
 .exact hl.elim
theorem a4t{x}{v:PV X.Γ}(h:ofC x=some v):rZ v=some x:=by cases x<;>simp only[ofC,a08,reduceCtorEq]at h<;>subst h<;>rfl
theorem Q5:∀{x} {v:List (PV X.Γ)},Dh x=some v->iV v=some x
 | [],v,h=>by cases h;rfl
 |a::l,v,h=>by
  simp only[Dh]at h;split at h
  .rename_i b bs h1 h2;cases h;simp only[iV,a4t h1,Q5 h2]
  cases h
theorem ab5{x}{v:PV X.Γ}(h:Zx x=some v):qG v=some x:=by
 cases x
 case agg cs=>
  simp only[Zx,a0z]at h;obtain⟨w,h1,rfl⟩:=h;simp only[qG,Q5 h1,a1t]
 all_goals
  simp only[Zx,ofC,a08,reduceCtorEq]at h
  try subst h
  try rfl
theorem a0y{ps ts}(hR:vZ X P A m ps ts){r cb es0}(g1:m[r]? = some (.gJ cb))(f1:ts.heap[cb]? = some (.map es0))(en en')(h1:en.length=en'.length)(h2:∀(i:Nat) x y,en[i]? = some x->en'[i]? = some y->qG x.1=some y.1/\qG x.2=some y.2) :vZ X P A m { ps with heap:=ps.heap.set r (.map en) } { ts with heap:=ts.heap.set cb (.map en') }/\Fr m ts.heap m (ts.heap.set cb (.map en')):=by
 have aQ:=(a0w.1 f1).1;obtain⟨q1,q2⟩:=hR.heap.set (pb:=.map en) (hb:=.map en') g1 (c:=cb) rfl (fun cs hc=>by simp[aV,f1]at hc) fun hF=>⟨en',by simp[aQ],h1,h2⟩;exact⟨hR.step q1 q2 .refl,q2⟩
theorem U0{es:List (PV X.Γ×PV X.Γ)}{gQ}(f2:es.length=gQ.length)(f3:∀(i:Nat) x y,es[i]? = some x->gQ[i]? = some y->qG x.1=some y.1/\qG x.2=some y.2){k v tk tv}(h1:qG k=some tk)(h2:qG v=some tv) :∀(i:Nat) x y,(es++[(k,v)])[i]? = some x->(gQ++[(tk,tv)])[i]? = some y->qG x.1=some y.1/\qG x.2=some y.2:=fun i a b ha rC=>by
 rcases a5l i es.length with aQ|CS
 .rw[a0Q aQ]at ha;rw[a0Q (by rw[<-f2];exact aQ)]at rC;exact f3 i a b ha rC
 .rw[a1y CS]at ha;rw[a1y (by rw[<-f2];exact CS),<-f2]at rC;cases hx:i-es.length with
  |zero=>
   rw[hx]at ha rC;simp only[a3H,a08]at ha rC;subst ha;subst rC;exact⟨h1,h2⟩
  |succ n=>rw[hx]at ha;simp at ha
theorem a7w{ps ts}(hR:vZ X P A m ps ts){r es tm}(hb:ps.heap[r]? = some (.map es))(hm:VR X P (AA A m) m ts.heap (.map r) tm) :∃cb gQ,tm=.map cb/\m[r]? = some (.gJ cb)/\ts.heap[cb]? = some (.map gQ)/\es.length=gQ.length/\∀(i:Nat) x y,es[i]? = some x->gQ[i]? = some y->qG x.1=some y.1/\qG x.2=some y.2:=by
 obtain⟨mb,g1,g2⟩:=hR.heap.at_ r _ hb;cases mb with
 |gJ cb=>
  obtain⟨gQ,f1,f2,f3⟩:=g2;cases hm with
  |gone hi e' _=>simp only[bC,a08]at hi;subst hi;rw[g1]at e';cases e'
  |map e'=>rw[g1]at e';cases e';exact⟨cb,gQ,rfl,g1,f1,f2,f3⟩
 |_=>exact g2.elim
theorem ab6{ρ}{y:ρ}{ps ts}(hR:vZ X P A m ps ts){t mv kv tm tk}(hm:VR X P (AA A m) m ts.heap mv tm)(hk:VR X P (AA A m) m ts.heap kv tk){an c}(hl:(a7i X P t ps mv kv an c).Ends y):∃e e' ps1 pi IY h1 ti,Dk P t ts tm tk=some (e',{ ts with heap:=h1 },ti)/\JG X P (AA A m) m h1 e e'/\vZ X P A m ps1 { ts with heap:=h1 }/\Fr m ts.heap m h1/\(c e ps1 pi IY).Ends y/\IR m ts.heap pi ti/\∀b,.h b∈ti.ws->b∈aZ m:=by
 unfold a7i at hl;split at hl
 .rename_i kt e tk' r hu htk;have:=jX hk htk;subst this;split at hl
  .rename_i es hb;obtain⟨cb,gQ,rfl,g1,f1,f2,f3⟩:=a7w hR hb hm;have f3v:∀(i:Nat) x y,es[i]? = some x->gQ[i]? = some y->VR X P (AA A m) m ts.heap x.1 y.1/\VR X P (AA A m) m ts.heap x.2 y.2:=fun i x y e1 e2=>⟨oK (f3 i x y e1 e2).1,oK (f3 i x y e1 e2).2⟩;have aQ:=(a0w.1 f1).1;split at hl
   .rename_i v _ j rest;split at hl
    case h_2=>exact hl.elim
    rename_i va vx;obtain⟨⟨yG,ks,old,ov,CY,c1,FZ,c2,hj,hold,hov,c3⟩,hl⟩:=hl;have uh:=sK f2 f3v FZ;have EC:j<gQ.length:=by rw[<-f2];exact(a0w.1 hj).1
    have X6:=a0N EC;have hy1:(gQ[j]).1=old:=by
     have:(gQ.map (·.1))[j]? = some (gQ[j]).1:=by rw[a5F,X6];rfl
     rw[uh,hold]at this;exact(aai this).symm
    have htv:=(f3 j _ _ hj X6).2;obtain⟨w1,w2⟩:=a0y hR g1 f1 es (gQ.set j (tk,(gQ[j]).2)) (by simp[f2]) fun i a b ha rC=>by
     by_cases e:j=i
     .subst e;rw[a5E,X6]at rC;rw[hj]at ha;cases ha;cases rC;exact⟨htk,htv⟩
     .rw[a1A e]at rC;exact f3 i a b ha rC
    have Gw:ps.heap.set r (.map es)=ps.heap:=by
     refine aaA fun i=>?_;by_cases e:r=i
     .subst e;rw[a2y (a0w.1 hb).1,hb]
     .rw[a1A e]
    rw[Gw]at w1;refine⟨.ent r j (.int va vx),.ent cb j (gQ[j]).2,_,_,_,_,qm (.h cb),?_,⟨.map g1,rfl,htv⟩,w1,w2,hl,.wrH (iU g1 rfl) aQ,fun b hb=>by simp[qm]at hb;subst hb;exact aY g1 rfl⟩;have SI:gQ[j].1=tk:=by have:=(f3 j _ _ hj X6).1;rw[htk]at this;exact(aai this).symm
    have X7:gQ[j].2=.int va vx:=by have h9:some (TV.int va vx)=some (gQ[j]).2:=htv;exact(aai h9).symm
    have Xp:gQ.set j (tk,(gQ[j]).2)=gQ:=by rw[show(tk,(gQ[j]).2)=gQ[j]from abk SI.symm rfl];exact List.set_getElem_self EC
    have hl1:iG P t ts.heap (.map cb) tk false=some (.int va vx):=by unfold iG;simp only[hu,CY,f1,qB,uh,c2,X6,X7,a3F,a3V]
    have hcb:ts.heap.set cb (.map gQ)=ts.heap:=by
     refine aaA fun i=>?_;by_cases e:cb=i
     .subst e;rw[a2y aQ,f1]
     .rw[a1A e]
    have h0:AO P t ts (.map cb) tk=some (.ent cb j (gQ[j]).2,{ ts with heap:=ts.heap.set cb (.map (gQ.set j (tk,(gQ[j]).2))) },qm (.h cb)):=by unfold AO;simp only[hu,CY,f1,c1,qB,uh,c2,X6,hy1,hov,c3,a2r]
    unfold Dk;rw[h0];simp only[];rw[a18];unfold a1o;rw[Xp,hcb,hl1];simp
   .split at hl
    .rename_i va vx hz;obtain⟨⟨yG,q1,c1⟩,⟨adw,ks,q2,FZ,c2⟩,⟨auk,ks2,q3,aq7,c4⟩,hl⟩:=hl;rw[q1]at q2;cases q2;rw[q1]at q3;cases q3;obtain⟨i,z0,z1,hi,hz0,hz1,hz2⟩:=XY hz;have uh:=sK f2 f3v FZ;have hzt:=ab5 hz2;obtain⟨w1,w2⟩:=a0y hR g1 f1 (es++[(kv,.int va vx)]) (gQ++[(tk,z1)]) (by simp[f2]) (U0 f2 f3 htk hzt);refine⟨.ent r es.length (.int va vx),.ent cb gQ.length z1,_,_,_,_,qm (.h cb),?_,⟨.map g1,f2,hzt⟩,w1,w2,hl,.wrH (iU g1 rfl) aQ,fun b hb=>by simp[qm]at hb;subst hb;exact aY g1 rfl⟩;have X7:z1=.int va vx:=by have h9:some (TV.int va vx)=some z1:=hzt;exact(aai h9).symm
     have hl1:iG P t ts.heap (.map cb) tk false=some (.int va vx):=by unfold iG;simp only[hu,q1,f1,qB,uh,c2,hi,hz0,hz1,X7,a1t,a3F,a3V]
     have afX:(gQ++[(tk,z1)]).map (·.1)=ks2:=sK (P:=P) (A:=AA A m) (m:=m) (h:=ts.heap) (es:=es++[(kv,.int va vx)]) (by simp[f2]) (fun i x y e1 e2=>let ⟨a1,a2⟩:=U0 f2 f3 htk hzt i x y e1 e2;⟨oK a1,oK a2⟩) aq7;have SL:iG P t (ts.heap.set cb (.map (gQ++[(tk,z1)]))) (.map cb) tk false=some (.int va vx):=by
      have e9:(gQ++[(tk,z1)])[es.length]? = some (tk,z1):=by rw[f2];simp
      unfold iG;simp only[hu,q1,a2y aQ,qB,afX,c4,e9,a3F,a3V];rw[X7]
     have h0:AO P t ts (.map cb) tk=some (.ent cb gQ.length z1,{ ts with heap:=ts.heap.set cb (.map (gQ++[(tk,z1)])) },qm (.h cb)):=by unfold AO;simp only[hu,q1,f1,c1,qB,uh,c2,hi,hz0,hz1]
     unfold Dk;rw[h0];simp only[];rw[a18];unfold a1o;rw[hl1,SL];simp
    .exact hl.elim
   .exact hl.elim
  .exact hl.elim
 .exact hl.elim
theorem ab7{ρ}{y:ρ}{ps ts}(hR:vZ X P A m ps ts){mv v e tm tv e'}(hm:VR X P (AA A m) m ts.heap mv tm)(he:JG X P (AA A m) m ts.heap e e')(hv:VR X P (AA A m) m ts.heap v tv){c}(hl:(a7j X ps mv e v c).Ends y):∃ps1 pi h1 ti,I5 ts tm e' tv=some ({ ts with heap:=h1 },ti)/\vZ X P A m ps1 { ts with heap:=h1 }/\Fr m ts.heap m h1/\(c ps1 pi).Ends y/\IR m ts.heap pi ti/\∀b,.h b∈ti.ws->b∈aZ m:=by
 unfold a7j at hl;split at hl
 .rename_i r r' j tv' htv;have:=jX hv htv;subst this;split at hl
  .rename_i hrr;subst hrr;split at hl
   .rename_i es hb;obtain⟨hj,hl⟩:=hl;obtain⟨cb,gQ,rfl,g1,f1,f2,f3⟩:=a7w hR hb hm;obtain⟨c',rfl,hm'⟩:=NZ he;have hc:c'=cb:=by
     cases hm' with
     |gone hi e' _=>simp only[bC,a08]at hi;subst hi;rw[g1]at e';cases e'
     |map e'=>rw[g1]at e';cases e';rfl
    subst hc;have aQ:=(a0w.1 f1).1;have EC:j<gQ.length:=by rw[<-f2];exact hj
    have X6:=a0N EC;obtain⟨w1,w2⟩:=a0y hR g1 f1 (Kt es j v) (gQ.set j ((gQ[j]).1,tv)) (by unfold Kt;simp[f2]) fun i a b ha rC=>by
     unfold Kt at ha;rw[af8]at ha;by_cases e:j=i
     .subst e;rw[a5E,X6]at rC;simp only[a2r,a0N hj,Option.map_eq_map,a1t,a08]at ha;subst ha;cases rC;exact⟨(f3 j _ _ (a0N hj) X6).1,htv⟩
     .rw[a1A e]at rC;have ha:es[i]? = some a:=(by simpa[e]using ha);exact f3 i a b ha rC
    refine⟨_,_,_,qm (.h c'),?_,w1,w2,hl,.wrH (iU g1 rfl) aQ,fun b hb=>by simp[qm]at hb;subst hb;exact aY g1 rfl⟩;unfold I5;simp only[a2r,f1,X6]
   .exact hl.elim
  .exact hl.elim
 .exact hl.elim
theorem a7z{ρ}{y:ρ}{ps ts}(hR:vZ X P A m ps ts){t mv kv v tm tk tv}(hm:VR X P (AA A m) m ts.heap mv tm)(hk:VR X P (AA A m) m ts.heap kv tk)(hv:VR X P (AA A m) m ts.heap v tv){an c}(hl:(a7g X P t ps mv kv v an c).Ends y):∃ps1 pi IY h1 ti,yI P t ts tm tk tv=some ({ ts with heap:=h1 },ti)/\vZ X P A m ps1 { ts with heap:=h1 }/\Fr m ts.heap m h1/\(c ps1 pi IY).Ends y/\IR m ts.heap pi ti/\∀b,.h b∈ti.ws->b∈aZ m:=by
 unfold a7g at hl;split at hl
 .rename_i kt e tk' r tv' hu htk htv;have:=jX hk htk;subst this;have:=jX hv htv;subst this;split at hl
  .rename_i es hb;obtain⟨mb,g1,g2⟩:=hR.heap.at_ r _ hb;cases mb with
   |gJ cb=>
    obtain⟨gQ,f1,f2,f3⟩:=g2;have f3v:∀(i:Nat) x y,es[i]? = some x->gQ[i]? = some y->VR X P (AA A m) m ts.heap x.1 y.1/\VR X P (AA A m) m ts.heap x.2 y.2:=fun i x y e1 e2=>⟨oK (f3 i x y e1 e2).1,oK (f3 i x y e1 e2).2⟩;cases hm with
    |gone hi e' _=>simp only[bC,a08]at hi;subst hi;rw[g1]at e';cases e'
    |map e'=>
     rw[g1]at e';cases e';have aQ:=(a0w.1 f1).1;have wr:∀(en:List (PV X.Γ×PV X.Γ)) (en':List (TV×TV)),en.length=en'.length->(∀(i:Nat) x y,en[i]? = some x->en'[i]? = some y->qG x.1=some y.1/\qG x.2=some y.2) ->
       vZ X P A m { ps with heap:=ps.heap.set r (.map en) } { ts with heap:=ts.heap.set cb (.map en') }/\Fr m ts.heap m (ts.heap.set cb (.map en')):=by
      intro en en' h1 h2;obtain⟨q1,q2⟩:=hR.heap.set (pb:=.map en) (hb:=.map en') g1 (c:=cb) rfl (fun cs hc=>by simp[aV,f1]at hc) fun hF=>⟨en',by simp[aQ],h1,h2⟩;exact⟨hR.step q1 q2 .refl,q2⟩
     have new:∀{yG ks},tk.zk=some yG->wC X es=some ks->aC P (Instr.checkKey false 10000 kt yG)=some ()->wE P kt yG ks=some none ->
       yI P t ts (.map cb) tk tv=some ({ ts with heap:=ts.heap.set cb (.map (gQ++[(tk,tv)])) },qm (.h cb))/\vZ X P A m { ps with heap:=ps.heap.set r (.map (es++[(kv,v)])) } { ts with heap:=ts.heap.set cb (.map (gQ++[(tk,tv)])) }/\Fr m ts.heap m (ts.heap.set cb (.map (gQ++[(tk,tv)]))):=by
      intro yG ks CY FZ c1 c2;have uh:=sK f2 f3v FZ;obtain⟨w1,w2⟩:=wr (es++[(kv,v)]) (gQ++[(tk,tv)]) (by simp[f2]) fun i a b ha rC=>by
       rcases a5l i es.length with aQ|CS
       .rw[a0Q aQ]at ha;rw[a0Q (by rw[<-f2];exact aQ)]at rC;exact f3 i a b ha rC
       .rw[a1y CS]at ha;rw[a1y (by rw[<-f2];exact CS),<-f2]at rC;cases hx:i-es.length with
        |zero=>
         rw[hx]at ha rC;simp only[a3H,a08]at ha rC;subst ha;subst rC;exact⟨htk,htv⟩
        |succ n=>rw[hx]at ha;simp at ha
      refine⟨?_,w1,w2⟩;unfold yI;simp only[hu,CY,f1,c1,qB,uh,c2]
     split at hl
     .obtain⟨⟨yG,q1,c1⟩,⟨adw,ks,q2,FZ,c2⟩,hl⟩:=hl;rw[q1]at q2;cases q2;obtain⟨u1,u2,u3⟩:=new q1 FZ c1 c2;exact⟨_,_,_,_,qm (.h cb),u1,u2,u3,hl,.wrH (iU g1 rfl) aQ,fun b hb=>by simp[qm]at hb;subst hb;exact aY g1 rfl⟩
     .obtain⟨⟨yG,q1,c1⟩,⟨adw,ks,q2,FZ,c2⟩,hl⟩:=hl;rw[q1]at q2;cases q2;obtain⟨u1,u2,u3⟩:=new q1 FZ c1 c2;exact⟨_,_,_,_,qm (.h cb),u1,u2,u3,hl,.wrH (iU g1 rfl) aQ,fun b hb=>by simp[qm]at hb;subst hb;exact aY g1 rfl⟩
     .obtain⟨⟨yG,ks,j,old,ov,CY,c1,FZ,c2,hj,hold,hov,c3⟩,hl⟩:=hl;have uh:=sK f2 f3v FZ;have EC:∃y0,gQ[j]? = some y0:=by
       have:j<gQ.length:=by rw[<-f2];exact(a0w.1 hj).1
       exact⟨_,a0N this⟩
      obtain⟨y0,X6⟩:=EC;have hy1:y0.1=old:=by
       have:(gQ.map (·.1))[j]? = some y0.1:=by rw[a5F,X6];rfl
       rw[uh,hold]at this;exact(aai this).symm
      obtain⟨w1,w2⟩:=wr es (gQ.set j (tk,tv)) (by simp[f2]) fun i a b ha rC=>by
       by_cases e:j=i
       .subst e;rw[a5E]at rC;rw[hj]at ha;rw[X6]at rC;cases ha;cases rC;exact⟨htk,htv⟩
       .rw[a1A e]at rC;exact f3 i a b ha rC
      have Gw:ps.heap.set r (.map es)=ps.heap:=by
       refine aaA fun i=>?_;by_cases e:r=i
       .subst e;rw[a2y (a0w.1 hb).1,hb]
       .rw[a1A e]
      rw[Gw]at w1;refine⟨_,_,_,_,qm (.h cb),?_,w1,w2,hl,.wrH (iU g1 rfl) aQ,fun b hb=>by simp[qm]at hb;subst hb;exact aY g1 rfl⟩;unfold yI;simp only[hu,CY,f1,c1,qB,uh,c2,X6,hy1,hov,c3,a2r]
     .split at hl
      .rename_i yG ks CY FZ;have uh:=sK f2 f3v FZ;split at hl
       .rename_i j rest _ _ _;split at hl
        .rename_i x0 old hj hold;split at hl
         .rename_i ov hov;obtain⟨c1,c2,c3,hl⟩:=hl;have EC:∃y0,gQ[j]? = some y0:=by
           have:j<gQ.length:=by rw[<-f2];exact(a0w.1 hj).1
           exact⟨_,a0N this⟩
          obtain⟨y0,X6⟩:=EC;have hy1:y0.1=old:=by
           have:(gQ.map (·.1))[j]? = some y0.1:=by rw[a5F,X6];rfl
           rw[uh,hold]at this;exact(aai this).symm
          obtain⟨w1,w2⟩:=wr (es.set j (kv,v)) (gQ.set j (tk,tv)) (by simp[f2]) fun i a b ha rC=>by
           by_cases e:j=i
           .subst e;rw[a5E]at ha rC;rw[hj]at ha;rw[X6]at rC;cases ha;cases rC;exact⟨htk,htv⟩
           .rw[a1A e]at ha rC;exact f3 i a b ha rC
          refine⟨_,_,_,_,qm (.h cb),?_,w1,w2,hl,.wrH (iU g1 rfl) aQ,fun b hb=>by simp[qm]at hb;subst hb;exact aY g1 rfl⟩;unfold yI;simp only[hu,CY,f1,c1,qB,uh,c2,X6,hy1,hov,c3,a2r]
         .exact hl.elim
        .exact hl.elim
       .obtain⟨c1,c2,hl⟩:=hl;obtain⟨u1,u2,u3⟩:=new CY FZ c1 c2;exact⟨_,_,_,_,qm (.h cb),u1,u2,u3,hl,.wrH (iU g1 rfl) aQ,fun b hb=>by simp[qm]at hb;subst hb;exact aY g1 rfl⟩
       .exact hl.elim
      .exact hl.elim
   |_=>exact g2.elim
  .exact hl.elim
 .exact hl.elim
end
open Go Tw
theorem kW{m b}(h:b∈aZ m):∃i,GZ m i b:=by obtain⟨mb,h1,h2⟩:=a6q.1 h;obtain⟨i,hi⟩:=a9o h1;exact⟨i,mb,hi,h2⟩
section
variable{X:ny}{P:LI1}{A B:Nat->Prop}{m m1:List MB}{h:List HB}{g:Nat->Option Nat}
theorem jO:∀{m},(∀i j c,GZ m i c->GZ m j c->i=j)->(aZ m).Nodup
 | [],_=>by simp[aZ]
 |x::m,hu=>by
  have ih:(aZ m).Nodup:=jO fun i j c h1 h2=>by have:=hu (i+1) (j+1) c (by obtain⟨mb,a,b⟩:=h1;exact⟨mb,by simpa using a,b⟩) (by obtain⟨mb,a,b⟩:=h2;exact⟨mb,by simpa using a,b⟩);omega
  unfold aZ at ih ⊢;rw[aae];split
  .exact ih
  rename_i b hb;refine a5I.2 ⟨fun hm=>?_,ih⟩;obtain⟨i,mb,h1,h2⟩:=kW (m:=m) hm;have:=hu 0 (i+1) b ⟨x,rfl,hb⟩ ⟨mb,by simpa using h1,h2⟩;omega
theorem Q7:∀{ks} {i p},xM ks i=some p->ks[p]? = some i
 | [],i,p,h=>by cases h
 |a::ks,i,p,h=>by
  simp only[xM]at h;split at h
  .rename_i e;cases h;simp[e]
  simp only[a0z]at h;obtain⟨q,h1,rfl⟩:=h;simpa using Q7 h1
section
variable{g:Nat->Option Nat}{m1:List MB}
theorem ES(hg:∀i j,g i=some j->m1[j]? = m[i]?){B}(hA:∀b,A b->B b)(hX:bW X P){v x}(hv:VR X P A m h v x):∀{w},fH g v=some w->VR X P B m1 h w x:=by
 have lists:∀{vs:List (PV X.Γ)} {xs:List TV},vs.length=xs.length->(∀(i:Nat) a b,vs[i]? = some a->xs[i]? = some b->∀{w:PV X.Γ},fH g a=some w->VR X P B m1 h w b)->∀{ws:List (PV X.Γ)},fH.ql g vs=some ws->ws.length=xs.length/\∀(i:Nat) a b,ws[i]? = some a->xs[i]? = some b->VR X P B m1 h a b:=by
  intro vs
  induction vs with
  |nil=>
   intro xs hl _ ws hw;simp only[fH.ql,a08]at hw;subst hw;exact⟨hl,fun i a b ha=>by simp at ha⟩
  |cons v vs ih=>
   intro xs hl hh ws hw;cases xs with
   |nil=>simp at hl
   |cons x xs=>
    simp only[fH.ql]at hw;split at hw
    .rename_i w Xe h1 h2;cases hw;obtain⟨e1,e2⟩:=ih (xs:=xs) (by simpa using hl) (fun i a b ha hb=>hh (i+1) a b (by simpa using ha) (by simpa using hb)) h2;refine⟨by simp[e1],fun i a b ha hb=>?_⟩;cases i with
     |zero=>simp only[a3H,a08]at ha hb;subst ha;subst hb;exact hh 0 v x rfl rfl h1
     |succ i=>exact e2 i a b (by simpa using ha) (by simpa using hb)
    cases hw
 induction hv with
 |bool=>intro w hw;simp only[fH,a08]at hw;subst hw;exact .bool _
 |lit=>intro w hw;simp only[fH,a08]at hw;subst hw;exact .lit _
 |int=>intro w hw;simp only[fH,a08]at hw;subst hw;exact .int _ _
 |str=>intro w hw;simp only[fH,a08]at hw;subst hw;exact .str _
 |nil=>intro w hw;simp only[fH,a08]at hw;subst hw;exact .nil _
 |ptr e=>intro w hw;simp only[fH,a0z]at hw;obtain⟨j,h1,rfl⟩:=hw;exact .ptr (by rw[hg _ _ h1];exact e)
 |aO e=>intro w hw;simp only[fH,a0z]at hw;obtain⟨j,h1,rfl⟩:=hw;exact .aO (by rw[hg _ _ h1];exact e)
 |own e o=>intro w hw;simp only[fH,a0z]at hw;obtain⟨j,h1,rfl⟩:=hw;exact .own (by rw[hg _ _ h1];exact e) o
 |win e q q' q2=>intro w hw;simp only[fH,a0z]at hw;obtain⟨j,h1,rfl⟩:=hw;exact .win (by rw[hg _ _ h1];exact e) q q' q2
 |CX e=>intro w hw;simp only[fH,a0z]at hw;obtain⟨j,h1,rfl⟩:=hw;exact .CX (by rw[hg _ _ h1];exact e)
 |Hz e=>intro w hw;simp only[fH,a0z]at hw;obtain⟨j,h1,rfl⟩:=hw;exact .Hz (by rw[hg _ _ h1];exact e)
 |Ku e=>intro w hw;simp only[fH,a0z]at hw;obtain⟨j,h1,rfl⟩:=hw;exact .Ku (by rw[hg _ _ h1];exact e)
 |map e=>intro w hw;simp only[fH,a0z]at hw;obtain⟨j,h1,rfl⟩:=hw;exact .map (by rw[hg _ _ h1];exact e)
 |iter e=>intro w hw;simp only[fH,a0z]at hw;obtain⟨j,h1,rfl⟩:=hw;exact .iter (by rw[hg _ _ h1];exact e)
 |l9 e=>intro w hw;simp only[fH,a0z]at hw;obtain⟨j,h1,rfl⟩:=hw;exact .l9 (by rw[hg _ _ h1];exact e)
 |row e j q=>intro w hw;simp only[fH,a0z]at hw;obtain⟨j,h1,rfl⟩:=hw;exact .row (by rw[hg _ _ h1];exact e) (by assumption) q
 |fn h1 _ h3 _ i2 i4=>
  intro w hw;simp only[fH]at hw;split at hw
  .rename_i a c ha hc;cases hw;obtain⟨e1,e2⟩:=lists h1 i2 ha;obtain⟨e3,e4⟩:=lists h3 i4 hc;exact .fn e1 e2 e3 e4
  cases hw
 |agg h1 _ i2=>
  intro w hw;simp only[fH,a0z]at hw;obtain⟨cs,hc,rfl⟩:=hw;obtain⟨e1,e2⟩:=lists h1 i2 hc;exact .agg e1 e2
 |dK h1 _ i2=>
  intro w hw;simp only[fH,a0z]at hw;obtain⟨cs,hc,rfl⟩:=hw;obtain⟨e1,e2⟩:=lists h1 i2 hc;exact .dK e1 e2
 |qx=>intro w hw;simp only[fH,a08]at hw;subst hw;exact .qx
 |dw a c c2 s z o k f e r _=>intro w hw;simp only[fH,a08]at hw;subst hw;exact .dw (hA _ a) c c2 s z o k f e fun j y i d v h1 h2 h3=>((r j y i d v h1 h2 h3).mono hA).jD hX (fM (hX.jD _ _) h2)
 |el a c l o e q r _=>intro w hw;simp only[fH,a08]at hw;subst hw;exact .el (hA _ a) c l o e q fun i d v h1 h2=>((r i d v h1 h2).mono hA).jD hX (fM (hX.jD _ _) h1)
 |gone i e o=>
  intro w hw;rename_i v _ x;have:∃j,bC w=some j/\DN w x m1[j]?:=by cases v<;>simp[bC]at i<;>subst i<;>simp only[fH,a0z]at hw<;>obtain⟨j,h1,rfl⟩:=hw<;>exact⟨j,rfl,by rw[hg _ _ h1];exact e.as fun c=>rfl⟩
  obtain⟨j,h1,h2⟩:=this;exact .gone h1 h2 o
variable{B:Nat->Prop}
theorem zZ(hX:bW X P)(hg:∀i j,g i=some j->m1[j]? = m[i]?)(hA:∀b,A b->B b):∀{vs} {xs:List TV} {ws:List (PV X.Γ)},bZ X P A m h vs xs->fH.ql g vs=some ws->bZ X P B m1 h ws xs
 | [],xs,ws,hv,hw=>by simp only[fH.ql,a08]at hw;subst hw;rw[hv.inv0];exact .nil
 |v::vs,xs,ws,hv,hw=>by
  obtain⟨x,r,rfl,h1,h2⟩:=hv.inv;simp only[fH.ql]at hw;split at hw
  .rename_i w Xe g1 g2;cases hw;exact .cons (ES hg hA hX h1 g1) (zZ hX hg hA h2 g2)
  cases hw
theorem Q8(hX:bW X P)(hg:∀i j,g i=some j->m1[j]? = m[i]?)(hA:∀b,A b->B b){env env'}(he:kG X P A m h env env'):∀{r},qj g env=some r->kG X P B m1 h r env':=by
 induction he with
 |nil=>intro r h;simp only[qj,a08]at h;subst h;exact .nil
 |cons h1 h2 ih=>
  rename_i k v x q q';intro r hr;simp only[qj]at hr;split at hr
  rotate_left
  .cases hr
  rename_i w r' e1 e2;cases hr;refine .cons ?_ (ih e2);cases v with
  |val v=>
   obtain⟨y,rfl,h3⟩:=fZ h1;simp only[PK,a0z]at e1;obtain⟨u,e3,rfl⟩:=e1;exact oL (ES hg hA hX h3 e3)
  |loc a b=>simp only[PK,a08]at e1;subst e1;rw[EM h1];exact⟨rfl,rfl⟩
  |undef=>simp only[PK,a08]at e1;subst e1;rw[Kw h1];trivial
  |ent r j v=>
   obtain⟨c,y,rfl,h3,h4⟩:=NY h1;simp only[PK,a0z]at e1;obtain⟨u,e3,rfl⟩:=e1;exact⟨ES hg hA hX h3 (w:=.map u) (by simp only[fH,e3,a1t]),rfl,h4⟩
  |Fj r j=>
   obtain⟨c,rfl,h3⟩:=NZ h1;simp only[PK,a0z]at e1;obtain⟨u,e3,rfl⟩:=e1;exact⟨ES hg hA hX h3 (w:=.map u) (by simp only[fH,e3,a1t]),rfl⟩
theorem ET(hX:bW X P)(hg:∀i j,g i=some j->m1[j]? = m[i]?)(hA:∀b,A b->B b){b b' mb}(hn:∀c,mb=.jI c->c∉aZ m->c∉aZ m1)(hb:BR X P A m h b mb)(hr:zX g b=some b'):BR X P B m1 h b' mb:=by
 cases b with
 |cells cs=>
  cases mb with
  |gJ c=>
   simp only[zX,a0z]at hr;obtain⟨cs',h1,rfl⟩:=hr;obtain⟨xs,h2,h3⟩:=hb;exact⟨xs,h2,zZ hX hg hA h3 h1⟩
  |_=>exact hb.elim
 |aF cs=>
  cases mb with
  |jI c=>
   simp only[zX,a0z]at hr;obtain⟨cs',h1,rfl⟩:=hr;obtain⟨h0,xs,h2,h3⟩:=hb;exact⟨hn c rfl h0,xs,h2,zZ hX hg hA h3 h1⟩
  |_=>exact hb.elim
 |list k ex t l=>
  cases mb with
  |dw y=>
   simp only[zX,a08]at hr;subst hr;cases(hb:LR X P A m h k ex t l y)with
   |nil=>exact LR.nil
   |emp p0 p1 p2 p3 p4=>exact LR.emp (hA _ p0) p1 p2 p3 p4
   |some p1 p2 p3 p4 p5 p6 p7 p8 p9=>exact LR.some p1 p2 p3 p4 p5 p6 p7 p8 ((p9.mono hA).jD hX)
  |_=>exact hb.elim
 |map es=>
  cases mb with
  |gJ c=>
   simp only[zX,a08]at hr;subst hr;exact hb
  |_=>exact hb.elim
 |nT cs=>
  cases mb with
  |gJ c=>
   simp only[zX,a08]at hr;subst hr;exact hb
  |_=>exact hb.elim
 |iO es=>
  cases mb with
  |jI c=>
   simp only[zX,a08]at hr;subst hr;exact⟨hn c rfl hb.1,hb.2⟩
  |_=>exact hb.elim
 |dh r n seen=>
  cases mb with
  |gJ b=>
   simp only[zX,a0z]at hr;obtain⟨j,h1,rfl⟩:=hr;obtain⟨c,h2,h3,h4⟩:=hb;exact⟨c,h2,by rw[hg _ _ h1];exact h3,fun c' hc=>h4 c' (by rw[<-hg _ _ h1];exact hc)⟩
  |_=>exact hb.elim
 |mark=>
  cases mb with
  |gJ c=>simp only[zX,a08]at hr;subst hr;exact hb
  |_=>exact hb.elim
 |loop rd f nt env ps a c jU=>
  cases mb with
  |gJ cb=>
   simp only[zX,a0z]at hr;obtain⟨aw8,h1,rfl⟩:=hr;obtain⟨xs,h2,h3⟩:=hb;exact⟨xs,h2,Q8 hX hg hA h3 h1⟩
  |_=>exact hb.elim
 |gone=>
  cases mb with
  |gone=>simp only[zX,a08]at hr;subst hr;trivial
  |_=>exact hb.elim
theorem uI:∀{bs r:List (PB X.Γ)},oG g bs=some r->r.length=bs.length/\∀{i:Nat} {b'},r[i]? = some b'->∃b,bs[i]? = some b/\zX g b=some b'
 | [],r,h=>by simp only[oG,a08]at h;subst h;exact⟨rfl,fun{i b'} hi=>by simp at hi⟩
 |b::bs,r,h=>by
  simp only[oG]at h;split at h
  .rename_i c cs h1 h2;cases h;obtain⟨e1,e2⟩:=uI h2;refine⟨by simp[e1],fun{i b'} hi=>?_⟩;cases i with
   |zero=>simp only[a3H,a08]at hi;subst hi;exact⟨b,rfl,h1⟩
   |succ i=>obtain⟨d,q1,q2⟩:=e2 (i:=i) (by simpa using hi);exact⟨d,by simpa using q1,q2⟩
  cases h
theorem Q9:∀{bs r:List (List (PV X.Γ))},XJ g bs=some r->r.length=bs.length/\∀{i:Nat} {b'},r[i]? = some b'->∃b,bs[i]? = some b/\fH.ql g b=some b'
 | [],r,h=>by simp only[XJ,a08]at h;subst h;exact⟨rfl,fun{i b'} hi=>by simp at hi⟩
 |b::bs,r,h=>by
  simp only[XJ]at h;split at h
  .rename_i c cs h1 h2;cases h;obtain⟨e1,e2⟩:=Q9 h2;refine⟨by simp[e1],fun{i b'} hi=>?_⟩;cases i with
   |zero=>simp only[a3H,a08]at hi;subst hi;exact⟨b,rfl,h1⟩
   |succ i=>obtain⟨d,q1,q2⟩:=e2 (i:=i) (by simpa using hi);exact⟨d,by simpa using q1,q2⟩
  cases h
theorem EU:∀{ks} {H r:List (PB X.Γ)},DK H ks=some r->r.length=ks.length/\∀{i k:Nat},ks[i]? = some k->∃b,H[k]? = some b/\r[i]? = some b
 | [],H,r,h=>by simp only[DK,a08]at h;subst h;exact⟨rfl,fun{i k} hi=>by simp at hi⟩
 |k::ks,H,r,h=>by
  simp only[DK]at h;split at h
  .rename_i b rs h1 h2;cases h;obtain⟨e1,e2⟩:=EU h2;refine⟨by simp[e1],fun{i j} hi=>?_⟩;cases i with
   |zero=>simp only[a3H,a08]at hi;subst hi;exact⟨b,h1,rfl⟩
   |succ i=>obtain⟨d,q1,q2⟩:=e2 (i:=i) (k:=j) (by simpa using hi);exact⟨d,q1,by simpa using q2⟩
  cases h
end
theorem uJ{α}:∀{ks} {bs l:List α},(putAt ks bs l).length=l.length
 | [],_,_=>rfl
 |_::_,[],_=>rfl
 |k::ks,b::bs,l=>by simp only[putAt];rw[uJ,a5N]
theorem Qa{α}:∀{ks} {bs l:List α} {p i:Nat},ks.Nodup->(∀k∈ks,k<l.length)->ks.length<=bs.length->ks[p]? = some i->(putAt ks bs l)[i]? = bs[p]?
 | [],_,_,p,i,_,_,_,h=>by simp at h
 |a::ks,[],_,_,_,_,_,hl,_=>by simp at hl
 |a::ks,b::bs,l,0,i,hn,hk,hl,h=>by
  simp only[a3H,a08]at h;subst h;have hn:=a5I.1 hn;simp only[putAt];have:∀{ks:List Nat} {bs l:List α} {i:Nat},i∉ks->(putAt ks bs l)[i]? = l[i]?:=by
   intro ks
   induction ks with
   |nil=>intro bs l i _;rfl
   |cons c ks ih=>
    intro bs l i hi;simp only[a1G,adk]at hi;cases bs with
    |nil=>rfl
    |cons b bs=>simp only[putAt];rw[ih hi.2,a1A (fun e=>hi.1 e.symm)]
  rw[this hn.1,a2y (hk a (a3M ..))];rfl
 |a::ks,b::bs,l,p+1,i,hn,hk,hl,h=>by simp only[aax]at h;simp only[putAt];rw[Qa (a5I.1 hn).2 (fun k pJ=>by rw[a5N];exact hk k (a3J _ pJ)) (by simpa using hl) h];rfl
theorem KC{α}:∀{ks} {bs l:List α} {i},i∉ks->(putAt ks bs l)[i]? = l[i]?
 | [],_,_,_,_=>rfl
 |a::ks,[],_,_,_=>rfl
 |a::ks,b::bs,l,i,hi=>by simp only[a1G,adk]at hi;simp only[putAt];rw[KC hi.2,a1A (fun e=>hi.1 e.symm)]
def XZ(X:ny)(P:LI1)(call:dN)(fv:PV X.Γ)(xs:List (PV X.Γ))(H:List (PB X.Γ))(v:PV X.Γ)(H1:List (PB X.Γ))(W:Nat->Prop):Prop:=
 ∀(A:Nat->Prop) (m:List MB) (h:List HB) (tf:TV) (rJ:List TV),HR X P A m H h->VR X P (AA A m) m h fv tf->bZ X P (AA A m) m h xs rJ ->
  ∃w h1 ws m1,call tf rJ h=some (w,h1,ws)/\HR X P A m1 H1 h1/\VR X P (AA A m1) m1 h1 v w/\Fr m h m1 h1/\Up m m1/\∀b∈ws,∃k,W k/\GZ m k b
theorem dI.w{call fv v xs H H1}(h:dI X P call fv xs H v H1):XZ X P call fv xs H v H1 fun _=>True:=fun A m h0 tf rJ a b c=>by obtain⟨w,h1,ws,m1,c1,c2,c3,c4,c5,c6⟩:=h A m h0 tf rJ a b c;exact⟨w,h1,ws,m1,c1,c2,c3,c4,c5,fun b hb=>by obtain⟨i,hi⟩:=kW (c6 b hb);exact⟨i,trivial,hi⟩⟩
theorem O5:∀{H} {i:Nat} {b:PB X.Γ},Kr H=true->H[i]? = some b->Kr [b]=true
 | [],_,_,_,h=>by simp at h
 |a::H,0,b,hn,h=>by simp only[a3H,a08]at h;subst h;cases a<;>simp_all [Kr]
 |a::H,i+1,b,hn,h=>by
  have ED:Kr H=true:=by cases a<;>simp_all [Kr]
  exact O5 ED (by simpa using h)
def SwM(m m':List MB):Prop:=∀i:Nat,m'[i]? = m[i]?\/(∃c,m[i]? = some (.gJ c)/\m'[i]? = some (.jI c))\/∃c,m[i]? = some (.jI c)/\m'[i]? = some (.gJ c)
section
variable{m':List MB}
theorem VR.sw(hm:SwM m m')(hA:∀b,A b->B b){v x}(hv:VR X P A m h v x):VR X P B m' h v x:=by
 have hl:∀{i:Nat} {x:TV},m[i]? = some (.dw x)->m'[i]? = some (.dw x):=fun{i x} e=>by
  rcases hm i with g|⟨c,g,_⟩|⟨c,g,_⟩
  .rw[g,e]
  .rw[e]at g;cases g
  rw[e]at g;cases g
 have hb:∀{i c:Nat},m[i]? = some (.gJ c)->m'[i]? = some (.gJ c)\/m'[i]? = some (.jI c):=fun{i c} e=>by
  rcases hm i with g|⟨c',g,g2⟩|⟨c',g,_⟩
  .exact .inl (by rw[g,e])
  .rw[e]at g;cases g;exact .inr g2
  rw[e]at g;cases g
 induction hv with
 |bool=>exact .bool _
 |lit=>exact .lit _
 |int=>exact .int _ _
 |str=>exact .str _
 |nil=>exact .nil _
 |ptr e=>rcases hb e with e|e;exact .ptr e;exact .gone rfl (.ofR e rfl) rfl
 |aO e=>rcases hb e with e|e;exact .aO e;exact .gone rfl (.ofR e rfl) rfl
 |own e o=>exact .own (hl e) o
 |win e q q' q2=>exact .win (hl e) q q' q2
 |CX e=>exact .CX (hl e)
 |Hz e=>exact .Hz (hl e)
 |Ku e=>exact .Ku (hl e)
 |map e=>rcases hb e with e|e;exact .map e;exact .gone rfl (.ofR e rfl) rfl
 |iter e=>rcases hb e with e|e;exact .iter e;exact .gone rfl (.ofR e rfl) rfl
 |fn h1 _ h3 _ i2 i4=>exact .fn h1 i2 h3 i4
 |l9 e=>rcases hb e with e|e;exact .l9 e;exact .gone rfl (.ofR e rfl) rfl
 |agg h1 _ i2=>exact .agg h1 i2
 |dK h1 _ i2=>exact .dK h1 i2
 |qx=>exact .qx
 |dw a c c2 s z o k f e _ ih=>exact .dw (hA _ a) c c2 s z o k f e ih
 |el a c l o e q _ ih=>exact .el (hA _ a) c l o e q ih
 |row e j q=>exact .row (hl e) j q
 | @gone v i x hi e o=>
  generalize hq:m[i]? = q at e;cases e with
  |g=>
   rcases hm i with g|⟨c,g,_⟩|⟨c,g,_⟩
   .exact .gone hi (.of (by rw[g,hq])) o
   .rw[hq]at g;cases g
   rw[hq]at g;cases g
  |r c hv=>
   rcases hm i with g|⟨c',g,_⟩|⟨c',g,g2⟩
   .exact .gone hi (.ofR (by rw[g,hq]) hv) o
   .rw[hq]at g;cases g
   rw[hq]at g;cases g;cases v<;>simp only[roV,a08]at hv<;>first|cases hv;done|skip
   all_goals (subst hv;simp only[bC,a08]at hi;subst hi)
   .exact .ptr g2
   .exact .aO g2
   .exact .map g2
   .exact .l9 g2
   exact .iter g2
theorem bZ.sw(hm:SwM m m')(hA:∀b,A b->B b){v x}(hv:bZ X P A m h v x):bZ X P B m' h v x:=
 ⟨hv.1,fun i a b ha hb=>(hv.2 i a b ha hb).sw hm hA⟩
theorem kG.sw(hm:SwM m m')(hA:∀b,A b->B b){v x}(hv:kG X P A m h v x):kG X P B m' h v x:=by
 induction hv with
 |nil=>exact .nil
 |cons h1 _ ih=>
  refine .cons ?_ ih;rename_i v x _ _ _;cases v<;>cases x<;>first|exact VR.sw hm hA h1|exact h1|exact⟨VR.sw hm hA h1.1,h1.2⟩
theorem BR.sw(hm:SwM m m')(hA:∀b,A b->B b){b mb}(hn:∀c,mb=.jI c->c∉aZ m->c∉aZ m')(hb:BR X P A m h b mb):BR X P B m' h b mb:=by
 cases b with
 |cells cs=>cases mb with
  |gJ b=>obtain⟨cs',h1,h2⟩:=hb;exact⟨cs',h1,h2.sw hm hA⟩
  |_=>exact hb.elim
 |aF cs=>cases mb with
  |jI b=>obtain⟨h0,cs',h1,h2⟩:=hb;exact⟨hn b rfl h0,cs',h1,h2.sw hm hA⟩
  |_=>exact hb.elim
 |list k ex t l=>cases mb with
  |dw x=>
   cases(hb:LR X P A m h k ex t l x)with
   |nil=>exact LR.nil
   |emp h0 h1 h2 h3 h4=>exact LR.emp (hA _ h0) h1 h2 h3 h4
   |some h1 h2 h3 h4 h5 h6 h7 h8 h9=>exact LR.some h1 h2 h3 h4 h5 h6 h7 h8 ⟨h9.1,h9.2.1,fun j a i c v a1 a2 a3=>(h9.2.2 j a i c v a1 a2 a3).sw hm hA⟩
  |_=>exact hb.elim
 |map es=>cases mb with
  |gJ b=>exact hb
  |_=>exact hb.elim
 |nT cs=>cases mb with
  |gJ b=>exact hb
  |_=>exact hb.elim
 |iO es=>cases mb with
  |jI b=>exact⟨hn b rfl hb.1,hb.2⟩
  |_=>exact hb.elim
 |dh r n seen=>cases mb with
  |gJ b=>
   obtain⟨c,h1,h2,h3⟩:=hb;refine⟨c,h1,?_,fun c' hc=>?_⟩
   .rcases hm r with g|⟨c',g,g2⟩|⟨c',g,g2⟩
    .rw[g];exact h2
    .rw[g2];rfl
    .rw[g2];rfl
   .rcases hm r with g|⟨c2,g,g2⟩|⟨c2,g,g2⟩
    .exact h3 c' (by rw[<-g];exact hc)
    .rw[g2]at hc;simp at hc;subst hc;exact h3 c2 (.inl g)
    .rw[g2]at hc;simp at hc;subst hc;exact h3 c2 (.inr g)
  |_=>exact hb.elim
 |mark=>cases mb with
  |gJ b=>exact hb
  |_=>exact hb.elim
 |loop rd f nt env ps a c jU=>cases mb with
  |gJ b=>obtain⟨e',h1,h2⟩:=hb;exact⟨e',h1,h2.sw hm hA⟩
  |_=>exact hb.elim
 |gone=>cases mb with
  |gone=>trivial
  |_=>exact hb.elim
end
theorem afY{call fv v xs H H1 W r cs TT}(h0:H[r]? = some (.cells cs))(h9:H1[r]? = some (.cells TT))(hro:Kr (H1.drop H.length)=true)(hs:XZ X P call fv xs (H.set r (.aF cs)) v (H1.set r (.aF TT)) W):XZ X P call fv xs H v H1 fun k=>W k/\k≠r:=fun A m h tf rJ hr hf hx=>by
 obtain⟨mb0,q1,q2⟩:=hr.at_ r _ h0;have hrl:r<H.length:=(a0w.1 h0).1;have hrm:r<m.length:=by rw[hr.len];exact hrl
 cases mb0 with
 |gJ c=>
  obtain⟨cs',q3,q4⟩:=q2;have FH:c∈aZ m:=aY q1 rfl;have hch:=(a0w.1 q3).1;have hm:SwM m (m.set r (.jI c)):=fun i=>by
   by_cases e:i=r
   .subst e;exact .inr (.inl ⟨c,q1,by rw[a2y hrm]⟩)
   .exact .inl (by rw[a1A (fun h=>e h.symm)])
  have old:∀{i b:Nat},GZ (m.set r (.jI c)) i b->i≠r/\GZ m i b:=fun{i b} ho=>by
   obtain⟨mb,a1,a2⟩:=ho;by_cases e:i=r
   .subst e;rw[a2y hrm]at a1;cases a1;cases a2
   .rw[a1A (fun h=>e h.symm)]at a1;exact⟨e,mb,a1,a2⟩
  have lT:∀b,b∈aZ (m.set r (.jI c))->b∈aZ m/\b≠c:=fun b hb=>by obtain⟨i,hi⟩:=kW hb;obtain⟨e,mb,a1,a2⟩:=old hi;refine⟨aY a1 a2,fun e2=>?_⟩;subst e2;exact e (iW hr.nodup a1 q1 a2 rfl)
  have hA:∀b,AA A m b->AA (fun b=>A b/\b≠c) (m.set r (.jI c)) b:=fun b hb=>⟨⟨hb.1,fun e=>hb.2 (e▸FH)⟩,fun h=>hb.2 (lT b h).1⟩;have xI:HR X P (fun b=>A b/\b≠c) (m.set r (.jI c)) (H.set r (.aF cs)) h:=by
   refine⟨by simp[hr.len],fun i b hi=>?_,jO fun i j d a1 a2=>?_,fun b hb=>⟨hr.up b hb,by omega⟩,fun b hb=>⟨hr.DR b (lT b hb).1,(lT b hb).2⟩⟩
   .by_cases e:i=r
    .subst e;rw[a2y hrl]at hi;cases hi;exact⟨.jI c,by rw[a2y hrm],fun h=>(lT c h).2 rfl,cs',q3,q4.sw hm hA⟩
    .rw[a1A (fun h=>e h.symm)]at hi;obtain⟨mb,g1,g2⟩:=hr.at_ i b hi;exact⟨mb,by rw[a1A (fun h=>e h.symm)];exact g1,g2.sw hm hA fun d _ hn h=>hn (lT d h).1⟩
   .obtain⟨_,ma,u1,u2⟩:=old a1;obtain⟨_,mc,v1,v2⟩:=old a2;exact iW hr.nodup u1 v1 u2 v2
  obtain⟨w,h1,ws,m1,c1,c2,c3,c4,c5,c6⟩:=hs (fun b=>A b/\b≠c) (m.set r (.jI c)) h tf rJ xI (hf.sw hm hA) (hx.sw hm hA)
  .have afZ:r<H1.length:=(a0w.1 h9).1;obtain⟨mb1,e1,e2⟩:=c2.at_ r (.aF TT) (by rw[a2y afZ]);have e3:=c5 r (.jI c) (by rw[a2y hrm]);have e4:mb1=.jI c:=by
    rcases e3 with e3|e3<;>rw[e1]at e3<;>cases e3
    .rfl
    .exact e2.elim
   subst e4;obtain⟨p0,EO,p1,p2⟩:=e2;have KD:r<m1.length:=(a0w.1 e1).1;have hm1:SwM m1 (m1.set r (.gJ c)):=fun i=>by
    by_cases e:i=r
    .subst e;exact .inr (.inr ⟨c,e1,by rw[a2y KD]⟩)
    .exact .inl (by rw[a1A (fun h=>e h.symm)])
   have at1:∀{i:Nat} {mb:MB},i≠r->(m1.set r (.gJ c))[i]? = some mb->m1[i]? = some mb:=fun{i mb} e h=>by rw[a1A (fun h=>e h.symm)]at h;exact h
   have CU:∀b,b∈aZ (m1.set r (.gJ c))->b=c\/b∈aZ m1:=fun b hb=>by
    obtain⟨i,mb,a1,a2⟩:=kW hb;by_cases e:i=r
    .subst e;rw[a2y KD]at a1;cases a1;cases a2;exact .inl rfl
    .exact .inr (aY (at1 e a1) a2)
   have hA1:∀b,AA (fun b=>A b/\b≠c) m1 b->AA A (m1.set r (.gJ c)) b:=fun b hb=>⟨hb.1.1,fun h=>by
    rcases CU b h with e|e
    .exact hb.1.2 e
    .exact hb.2 e⟩
   refine⟨w,h1,ws,m1.set r (.gJ c),c1,⟨by rw[a5N,c2.len,a5N],fun i b hi=>?_,jO fun i j d a1 a2=>?_,fun b hb=>(c2.up b hb).1,fun b hb=>?_⟩,c3.sw hm1 hA1,⟨c4.len,fun b hb hn=>c4.same b hb fun h=>hn (lT b h).1,fun b hb=>?_,c4.grow⟩,fun i mb hi=>?_,fun b hb=>?_⟩
   .by_cases e:i=r
    .subst e;rw[h9]at hi;cases hi;exact⟨.gJ c,by rw[a2y KD],EO,p1,p2.sw hm1 hA1⟩
    .obtain⟨mb,g1,g2⟩:=c2.at_ i b (by rw[a1A (fun h=>e h.symm)];exact hi);refine⟨mb,by rw[a1A (fun h=>e h.symm)];exact g1,g2.sw hm1 hA1 fun d hd hn hd2=>?_⟩;subst hd;rcases CU d hd2 with e5|e5
     .subst e5;rcases a5l i m.length with aQ|CS
      .have LW:(m.set r (.jI d))[i]? = m[i]?:=(by rw[a1A (fun h=>e h.symm)]);have hmi:m[i]? = some (.jI d):=by
        rcases c5 i m[i] (by rw[LW];exact a0N aQ)with e6|e6<;>rw[g1]at e6<;>simp only[a08]at e6
        .rw[a0N aQ,<-e6]
        .cases e6
       have hlH:i<H.length:=by rw[<-hr.len];exact aQ
       obtain⟨mb9,e7,e8⟩:=hr.at_ i _ (a0N hlH);rw[hmi]at e7;cases e7;generalize H[i]=b9 at e8;cases b9<;>first|exact e8.elim|exact e8.1 FH
      .have e6:(H1.drop H.length)[i-H.length]? = some b:=by rw[a5z,<-hi];congr 1;rw[hr.len]at CS;omega
       have e7:=O5 hro e6;cases b<;>first|exact g2.elim|cases e7
     .exact hn e5
   .obtain⟨ma,u1,u2⟩:=a1;obtain⟨mc,v1,v2⟩:=a2;by_cases e:i=r<;>by_cases e':j=r
    .rw[e,e']
    .subst e;rw[a2y KD]at u1;cases u1;cases u2;exact absurd (aY (at1 e' v1) v2) p0
    .subst e';rw[a2y KD]at v1;cases v1;cases v2;exact absurd (aY (at1 e u1) u2) p0
    .exact iW c2.nodup (at1 e u1) (at1 e' v1) u2 v2
   .rcases CU b hb with e|e
    .subst e;exact hr.DR _ FH
    .exact(c2.DR b e).1
   .rcases CU b hb with e|e
    .subst e;exact .inl FH
    .rcases c4.new b e with g|g
     .exact .inl (lT b g).1
     .exact .inr g
   .by_cases e:i=r
    .subst e;rw[q1]at hi;cases hi;exact .inl (by rw[a2y KD])
    .rw[a1A (fun h=>e h.symm)];exact c5 i mb (by rw[a1A (fun h=>e h.symm)];exact hi)
   .obtain⟨k,k1,k2⟩:=c6 b hb;obtain⟨k3,k4⟩:=old k2;exact⟨k,⟨k1,k3⟩,k4⟩
 |_=>exact q2.elim
theorem ab9{call fv v xs H H1 W r es es1}(h0:H[r]? = some (.map es))(h9:H1[r]? = some (.map es1))(hro:Kr (H1.drop H.length)=true)(hs:XZ X P call fv xs (H.set r (.iO es)) v (H1.set r (.iO es1)) W):XZ X P call fv xs H v H1 fun k=>W k/\k≠r:=fun A m h tf rJ hr hf hx=>by
 obtain⟨mb0,q1,q2⟩:=hr.at_ r _ h0;have hrl:r<H.length:=(a0w.1 h0).1;have hrm:r<m.length:=by rw[hr.len];exact hrl
 cases mb0 with
 |gJ c=>
  obtain⟨cs',q3,q4⟩:=q2;have FH:c∈aZ m:=aY q1 rfl;have hch:=(a0w.1 q3).1;have hm:SwM m (m.set r (.jI c)):=fun i=>by
   by_cases e:i=r
   .subst e;exact .inr (.inl ⟨c,q1,by rw[a2y hrm]⟩)
   .exact .inl (by rw[a1A (fun h=>e h.symm)])
  have old:∀{i b:Nat},GZ (m.set r (.jI c)) i b->i≠r/\GZ m i b:=fun{i b} ho=>by
   obtain⟨mb,a1,a2⟩:=ho;by_cases e:i=r
   .subst e;rw[a2y hrm]at a1;cases a1;cases a2
   .rw[a1A (fun h=>e h.symm)]at a1;exact⟨e,mb,a1,a2⟩
  have lT:∀b,b∈aZ (m.set r (.jI c))->b∈aZ m/\b≠c:=fun b hb=>by obtain⟨i,hi⟩:=kW hb;obtain⟨e,mb,a1,a2⟩:=old hi;refine⟨aY a1 a2,fun e2=>?_⟩;subst e2;exact e (iW hr.nodup a1 q1 a2 rfl)
  have hA:∀b,AA A m b->AA (fun b=>A b/\b≠c) (m.set r (.jI c)) b:=fun b hb=>⟨⟨hb.1,fun e=>hb.2 (e▸FH)⟩,fun h=>hb.2 (lT b h).1⟩;have xI:HR X P (fun b=>A b/\b≠c) (m.set r (.jI c)) (H.set r (.iO es)) h:=by
   refine⟨by simp[hr.len],fun i b hi=>?_,jO fun i j d a1 a2=>?_,fun b hb=>⟨hr.up b hb,by omega⟩,fun b hb=>⟨hr.DR b (lT b hb).1,(lT b hb).2⟩⟩
   .by_cases e:i=r
    .subst e;rw[a2y hrl]at hi;cases hi;exact⟨.jI c,by rw[a2y hrm],fun h=>(lT c h).2 rfl,cs',q3,q4⟩
    .rw[a1A (fun h=>e h.symm)]at hi;obtain⟨mb,g1,g2⟩:=hr.at_ i b hi;exact⟨mb,by rw[a1A (fun h=>e h.symm)];exact g1,g2.sw hm hA fun d _ hn h=>hn (lT d h).1⟩
   .obtain⟨_,ma,u1,u2⟩:=old a1;obtain⟨_,mc,v1,v2⟩:=old a2;exact iW hr.nodup u1 v1 u2 v2
  obtain⟨w,h1,ws,m1,c1,c2,c3,c4,c5,c6⟩:=hs (fun b=>A b/\b≠c) (m.set r (.jI c)) h tf rJ xI (hf.sw hm hA) (hx.sw hm hA)
  .have afZ:r<H1.length:=(a0w.1 h9).1;obtain⟨mb1,e1,e2⟩:=c2.at_ r (.iO es1) (by rw[a2y afZ]);have e3:=c5 r (.jI c) (by rw[a2y hrm]);have e4:mb1=.jI c:=by
    rcases e3 with e3|e3<;>rw[e1]at e3<;>cases e3
    .rfl
    .exact e2.elim
   subst e4;obtain⟨p0,EO,p1,p2⟩:=e2;have KD:r<m1.length:=(a0w.1 e1).1;have hm1:SwM m1 (m1.set r (.gJ c)):=fun i=>by
    by_cases e:i=r
    .subst e;exact .inr (.inr ⟨c,e1,by rw[a2y KD]⟩)
    .exact .inl (by rw[a1A (fun h=>e h.symm)])
   have at1:∀{i:Nat} {mb:MB},i≠r->(m1.set r (.gJ c))[i]? = some mb->m1[i]? = some mb:=fun{i mb} e h=>by rw[a1A (fun h=>e h.symm)]at h;exact h
   have CU:∀b,b∈aZ (m1.set r (.gJ c))->b=c\/b∈aZ m1:=fun b hb=>by
    obtain⟨i,mb,a1,a2⟩:=kW hb;by_cases e:i=r
    .subst e;rw[a2y KD]at a1;cases a1;cases a2;exact .inl rfl
    .exact .inr (aY (at1 e a1) a2)
   have hA1:∀b,AA (fun b=>A b/\b≠c) m1 b->AA A (m1.set r (.gJ c)) b:=fun b hb=>⟨hb.1.1,fun h=>by
    rcases CU b h with e|e
    .exact hb.1.2 e
    .exact hb.2 e⟩
   refine⟨w,h1,ws,m1.set r (.gJ c),c1,⟨by rw[a5N,c2.len,a5N],fun i b hi=>?_,jO fun i j d a1 a2=>?_,fun b hb=>(c2.up b hb).1,fun b hb=>?_⟩,c3.sw hm1 hA1,⟨c4.len,fun b hb hn=>c4.same b hb fun h=>hn (lT b h).1,fun b hb=>?_,c4.grow⟩,fun i mb hi=>?_,fun b hb=>?_⟩
   .by_cases e:i=r
    .subst e;rw[h9]at hi;cases hi;exact⟨.gJ c,by rw[a2y KD],EO,p1,p2⟩
    .obtain⟨mb,g1,g2⟩:=c2.at_ i b (by rw[a1A (fun h=>e h.symm)];exact hi);refine⟨mb,by rw[a1A (fun h=>e h.symm)];exact g1,g2.sw hm1 hA1 fun d hd hn hd2=>?_⟩;subst hd;rcases CU d hd2 with e5|e5
     .subst e5;rcases a5l i m.length with aQ|CS
      .have LW:(m.set r (.jI d))[i]? = m[i]?:=(by rw[a1A (fun h=>e h.symm)]);have hmi:m[i]? = some (.jI d):=by
        rcases c5 i m[i] (by rw[LW];exact a0N aQ)with e6|e6<;>rw[g1]at e6<;>simp only[a08]at e6
        .rw[a0N aQ,<-e6]
        .cases e6
       have hlH:i<H.length:=by rw[<-hr.len];exact aQ
       obtain⟨mb9,e7,e8⟩:=hr.at_ i _ (a0N hlH);rw[hmi]at e7;cases e7;generalize H[i]=b9 at e8;cases b9<;>first|exact e8.elim|exact e8.1 FH
      .have e6:(H1.drop H.length)[i-H.length]? = some b:=by rw[a5z,<-hi];congr 1;rw[hr.len]at CS;omega
       have e7:=O5 hro e6;cases b<;>first|exact g2.elim|cases e7
     .exact hn e5
   .obtain⟨ma,u1,u2⟩:=a1;obtain⟨mc,v1,v2⟩:=a2;by_cases e:i=r<;>by_cases e':j=r
    .rw[e,e']
    .subst e;rw[a2y KD]at u1;cases u1;cases u2;exact absurd (aY (at1 e' v1) v2) p0
    .subst e';rw[a2y KD]at v1;cases v1;cases v2;exact absurd (aY (at1 e u1) u2) p0
    .exact iW c2.nodup (at1 e u1) (at1 e' v1) u2 v2
   .rcases CU b hb with e|e
    .subst e;exact hr.DR _ FH
    .exact(c2.DR b e).1
   .rcases CU b hb with e|e
    .subst e;exact .inl FH
    .rcases c4.new b e with g|g
     .exact .inl (lT b g).1
     .exact .inr g
   .by_cases e:i=r
    .subst e;rw[q1]at hi;cases hi;exact .inl (by rw[a2y KD])
    .rw[a1A (fun h=>e h.symm)];exact c5 i mb (by rw[a1A (fun h=>e h.symm)];exact hi)
   .obtain⟨k,k1,k2⟩:=c6 b hb;obtain⟨k3,k4⟩:=old k2;exact⟨k,⟨k1,k3⟩,k4⟩
 |_=>exact q2.elim
theorem a0A{call fv v xs W}:∀{rs} {H H1 Hr S9},roB rs H H1=some (Hr,S9)->Kr (H1.drop H.length)=true->XZ X P call fv xs Hr v S9 W->XZ X P call fv xs H v H1 fun k=>W k/\k∉rs
 | [],H,H1,Hr,S9,h1,hn,hs=>by simp only[roB,a08,a1n]at h1;obtain⟨rfl,rfl⟩:=h1;intro A m h tf rJ a b c;obtain⟨w,h1,ws,m1,c1,c2,c3,c4,c5,c6⟩:=hs A m h tf rJ a b c;exact⟨w,h1,ws,m1,c1,c2,c3,c4,c5,fun b hb=>by obtain⟨k,k1,k2⟩:=c6 b hb;exact⟨k,⟨k1,by simp⟩,k2⟩⟩
 |r::rs,H,H1,Hr,S9,h1,hn,hs=>by
  simp only[roB]at h1;split at h1
  .rename_i cs TT e1 e2;have aQ:r<H.length:=(a0w.1 e1).1;have:=afY e1 e2 hn (a0A h1 (by rw[a5N,List.drop_set_of_lt aQ];exact hn) hs);intro A m h tf rJ a b c;obtain⟨w,h1,ws,m1,c1,c2,c3,c4,c5,c6⟩:=this A m h tf rJ a b c;exact⟨w,h1,ws,m1,c1,c2,c3,c4,c5,fun b hb=>by obtain⟨k,⟨⟨k1,k3⟩,k4⟩,k2⟩:=c6 b hb;exact⟨k,⟨k1,by simp[k3,k4]⟩,k2⟩⟩
  .rename_i cs TT e1 e2;have aQ:r<H.length:=(a0w.1 e1).1;have:=ab9 e1 e2 hn (a0A h1 (by rw[a5N,List.drop_set_of_lt aQ];exact hn) hs);intro A m h tf rJ a b c;obtain⟨w,h1,ws,m1,c1,c2,c3,c4,c5,c6⟩:=this A m h tf rJ a b c;exact⟨w,h1,ws,m1,c1,c2,c3,c4,c5,fun b hb=>by obtain⟨k,⟨⟨k1,k3⟩,k4⟩,k2⟩:=c6 b hb;exact⟨k,⟨k1,by simp[k3,k4]⟩,k2⟩⟩
  cases h1
theorem Y0{α rs}:∀{ks:List α} {i p} {k},ks[p]? = some k->i+p∉rs->k∈a4m rs i ks
 | [],_,_,_,h,_=>by simp at h
 |a::ks,i,0,k,h,hn=>by simp only[a3H,a08]at h;subst h;simp only[a4m];rw[a0U (by simpa using hn)];exact a3M
 |a::ks,i,p+1,k,h,hn=>by
  have:=Y0 (ks:=ks) (i:=i+1) (p:=p) (k:=k) (by simpa using h) (by rwa [Nat.add_right_comm,aar] );simp only[a4m];split
  .exact this
  exact a3J _ this
theorem KE(hX:bW X P){call ks H' Hp H H1 S9 fv fv' v v' xs xs' W}(hs:XZ X P call fv xs H v H1 W)(jG:ks.Nodup) (hp:DK H' ks=some Hp) (hH:oG (xM ks) Hp=some H) (hf:fH (xM ks) fv'=some fv) (hx:fH.ql (xM ks) xs'=some xs)(hv:fH (bk ks H'.length) v=some v') (hH1:oG (bk ks H'.length) H1=some S9) (hro:Kr (H1.drop ks.length)=true) :∀(A) (m') (h) (tf) (rJ),HR X P A m' H' h->VR X P (AA A m') m' h fv' tf->bZ X P (AA A m') m' h xs' rJ ->∃w h1 ws m1,call tf rJ h=some (w,h1,ws)/\HR X P A m1 (putAt ks S9 H'++S9.drop ks.length) h1/\VR X P (AA A m1) m1 h1 v' w/\Fr m' h m1 h1/\Up m' m1/\∀b∈ws,∃p k,ks[p]? = some k/\W p/\GZ m' k b:=by
 intro A m' h tf rJ hr hf' Gu;have hpg:=EU hp;have hHg:=uI hH;have hkH:∀{p k:Nat},ks[p]? = some k->k<m'.length:=fun{p k} hk=>by obtain⟨b,q1,_⟩:=hpg.2 hk;rw[hr.len];exact(a0w.1 q1).1
 have hkm:∀k∈ks,k<m'.length:=fun k hk=>by obtain⟨i,hi⟩:=a9o hk;exact hkH hi
 let m:List MB:=ks.map fun k=>m'.getD k .gone
 have hm:∀{p k:Nat},ks[p]? = some k->m[p]? = m'[k]?:=fun{p k} hk=>by show(ks.map _)[p]? = _;rw[a5F,hk];have:=hkH hk;simp[a4h,this]
 have a7A:m.length=ks.length:=a5C ..;have U1:∀{p:Nat} {mb:MB},m[p]? = some mb->∃k,ks[p]? = some k/\m'[k]? = some mb:=fun{p mb} hpm=>by
  have:p<ks.length:=by rw[<-a7A];exact(a0w.1 hpm).1
  have hk:=a0N this;exact⟨_,hk,by rw[<-hm hk];exact hpm⟩
 have lT:∀b,b∈aZ m->b∈aZ m':=fun b hb=>by obtain⟨j,mb,q1,q2⟩:=kW hb;obtain⟨k,_,q3⟩:=U1 q1;exact aY q3 q2
 have ag0:∀{i:Nat} {mb:MB} {b:Nat},i∉ks->m'[i]? = some mb->mb.own=some b->b∉aZ m:=fun{i mb b} hi h1 h2 hb=>by obtain⟨j,mc,q1,q2⟩:=kW hb;obtain⟨k,q3,q4⟩:=U1 q1;have:=iW hr.nodup h1 q4 h2 q2;subst this;exact hi (a5M q3)
 let A2:Nat->Prop:=fun b=>A b/\(b∈aZ m'->b∈aZ m)
 have hA:∀b,AA A m' b->AA A2 m b:=fun b hb=>⟨⟨hb.1,fun h9=>absurd h9 hb.2⟩,fun h9=>hb.2 (lT b h9)⟩;have hg:∀i j,xM ks i=some j->m[j]? = m'[i]?:=fun i j AY=>hm (Q7 AY);have xI:HR X P A2 m H h:=by
  refine⟨by rw[a7A,hHg.1,hpg.1],fun j b hj=>?_,jO fun i j c q1 q2=>?_,fun b hb=>⟨hr.up b hb,fun h9=>absurd (hr.inb h9) (by omega)⟩,fun b hb=>⟨hr.DR b (lT b hb),fun _=>hb⟩⟩
  .obtain⟨b0,q1,q2⟩:=hHg.2 hj;have tX:j<ks.length:=by rw[<-hpg.1];exact(a0w.1 q1).1
   have hk:=a0N tX;obtain⟨b9,q5,q6⟩:=hpg.2 hk;rw[q1]at q6;cases q6;obtain⟨mb,q3,q4⟩:=hr.at_ _ _ q5;exact⟨mb,by rw[hm hk];exact q3,ET hX hg hA (fun c _ h9 h8=>h9 (lT c h8)) q4 q2⟩
  .obtain⟨ma,a1,a2⟩:=q1;obtain⟨mc,c1,c2⟩:=q2;obtain⟨k,a3,a4⟩:=U1 a1;obtain⟨l,c3,c4⟩:=U1 c1;have e:=iW hr.nodup a4 c4 a2 c2;subst e;exact(List.getElem?_inj (a0w.1 a3).1 jG).1 (by rw[a3,c3])
 obtain⟨w,h1,ws,m1,c1,c2,c3,c4,c5,c6⟩:=hs A2 m h tf rJ xI (ES hg hA hX hf' hf) (zZ hX hg hA Gu hx);have a7B:ks.length<=m1.length:=by
  rcases abL ks.length with e|e
  .omega
  .have aQ:ks.length-1<m.length:=(by omega);have:=c5 (ks.length-1) m[ks.length-1] (a0N aQ);rcases this with g|g<;>(have:=(a0w.1 g).1;omega)
 let m1':List MB:=putAt ks m1 m'++m1.drop ks.length
 have hn:m'.length=H'.length:=hr.len;have abb:(putAt ks m1 m').length=m'.length:=uJ;have a2s:∀{p k:Nat},ks[p]? = some k->m1'[k]? = m1[p]?:=fun{p k} hk=>by show(putAt ks m1 m'++_)[k]? = _;rw[a0Q (by rw[abb];exact hkH hk),Qa jG hkm a7B hk]
 have a0B:∀{i:Nat},i<m'.length->i∉ks->m1'[i]? = m'[i]?:=fun{i} hi hk=>by show(putAt ks m1 m'++_)[i]? = _;rw[a0Q (by rw[abb];exact hi),KC hk]
 have a0C:∀{j:Nat},ks.length<=j->m1'[m'.length+(j-ks.length)]? = m1[j]?:=fun{j} hj=>by show(putAt ks m1 m'++_)[_]? = _;rw[a1y (by rw[abb];omega),abb,Nat.add_sub_cancel_left,a5z];congr 1;omega
 have hgb:∀j i,bk ks H'.length j=some i->m1'[i]? = m1[j]?:=fun j i AY=>by
  unfold bk at AY;split at AY
  .rename_i k hk;cases AY;exact a2s hk
  .rename_i hk;cases AY;rw[<-hn];exact a0C (by rw[List.getElem?_eq_none_iff]at hk;exact hk)
 have wB:∀{i:Nat} {mb:MB},m1'[i]? = some mb->(∃p,ks[p]? = some i/\m1[p]? = some mb)\/(i<m'.length/\i∉ks/\m'[i]? = some mb)\/(∃j,ks.length<=j/\i=m'.length+(j-ks.length)/\m1[j]? = some mb):=fun{i mb} hi=>by
  rcases a5l i m'.length with aQ|CS
  .by_cases hk:i∈ks
   .obtain⟨p,hp⟩:=a9o hk;exact .inl ⟨p,hp,by rw[<-a2s hp];exact hi⟩
   .exact .inr (.inl ⟨aQ,hk,by rw[<-a0B aQ hk];exact hi⟩)
  .refine .inr (.inr ⟨i-m'.length+ks.length,by omega,by omega,?_⟩);rw[<-a0C (by omega)];rw[<-hi];congr 1;omega
 have yO:∀{b:Nat},b∈aZ m1'->b∈aZ m1\/∃i mb,i∉ks/\m'[i]? = some mb/\mb.own=some b:=fun{b} hb=>by
  obtain⟨i,mb,q1,q2⟩:=kW hb;rcases wB q1 with⟨p,_,q3⟩|⟨_,q3,q4⟩|⟨j,_,_,q3⟩
  .exact .inl (aY q3 q2)
  .exact .inr ⟨i,mb,q3,q4,q2⟩
  .exact .inl (aY q3 q2)
 have abd:∀{i b:Nat} {mb:MB},i∉ks->m'[i]? = some mb->mb.own=some b->b∉aZ m1:=fun{i b mb} h1 h2 h3 h4=>by
  rcases c4.new b h4 with g|g
  .exact ag0 h1 h2 h3 g
  .exact absurd (hr.inb (aY h2 h3)) (by omega)
 have hA3:∀b,AA A2 m1 b->AA A m1' b:=fun b hb=>⟨hb.1.1,fun h9=>by
  rcases yO h9 with g|⟨i,mb,g1,g2,g3⟩
  .exact hb.2 g
  .exact ag0 g1 g2 g3 (hb.1.2 (aY g2 g3))⟩
 have hF:Fr m' h m1' h1:=⟨c4.len,fun b hb hnb=>c4.same b hb fun h9=>hnb (lT b h9),fun b hb=>by
  rcases yO hb with g|⟨i,mb,g1,g2,g3⟩
  .rcases c4.new b g with g|g
   .exact .inl (lT b g)
   .exact .inr g
  .exact .inl (aY g2 g3),c4.grow⟩
 have hU:Up m' m1':=fun i mb hi=>by
  have aQ:=(a0w.1 hi).1;by_cases hk:i∈ks
  .obtain⟨p,hp⟩:=a9o hk;rw[a2s hp];exact c5 p mb (by rw[hm hp];exact hi)
  .exact .inl (by rw[a0B aQ hk];exact hi)
 have ag2:=uI hH1;have ak3:m1.length=H1.length:=c2.len;refine⟨w,h1,ws,m1',c1,⟨?_,fun i b hi=>?_,?_,fun b hb=>(c2.up b hb).1,fun b hb=>?_⟩,ES hgb hA3 hX c3 hv,hF,hU,fun b hb=>?_⟩
 .show(putAt ks m1 m'++_).length=_;rw[a1D,a1D,uJ,uJ,a4u,a4u,ag2.1,ak3,hn]
 .have ak4:ks.length<=S9.length:=by rw[ag2.1,<-ak3];exact a7B
  have aqd:∀k∈ks,k<H'.length:=fun k hk=>by rw[<-hn];exact hkm k hk
  have back:∀{j:Nat} {b:PB X.Γ},S9[j]? = some b->∃mb,m1[j]? = some mb/\BR X P (AA A m1') m1' h1 b mb:=fun{j b} hj=>by
   obtain⟨b0,q1,q2⟩:=ag2.2 hj;obtain⟨mb,q3,q4⟩:=c2.at_ j b0 q1;refine⟨mb,q3,ET hX hgb hA3 (fun c e h9 h8=>?_) q4 q2⟩;rcases yO h8 with g|⟨i,Nk,g1,g2,g3⟩
   .exact h9 g
   .subst e;rcases a5l j ks.length with hj1|hj1
    .have hk:=a0N hj1;have tX:j<m.length:=by rw[a7A];exact hj1
     have hmj:m[j]? = some (.jI c):=by
      rcases c5 j _ (a0N tX)with e|e<;>rw[q3]at e<;>simp only[a08]at e
      .rw[a0N tX,<-e]
      .cases e
     obtain⟨k,e1,e2⟩:=U1 hmj;obtain⟨b9,e3,_⟩:=hpg.2 e1;obtain⟨mb9,e4,e5⟩:=hr.at_ _ _ e3;rw[e2]at e4;cases e4;cases b9<;>first|exact e5.elim|exact e5.1 (aY g2 g3)
    .have e1:(H1.drop ks.length)[j-ks.length]? = some b0:=by rw[a5z,<-q1];congr 1;omega
     have e2:=O5 hro e1;cases b0<;>first|exact q4.elim|cases e2
  rcases a5l i H'.length with aQ|CS
  .rw[a0Q (by rw[uJ];exact aQ)]at hi;by_cases hk:i∈ks
   .obtain⟨p,hpk⟩:=a9o hk;rw[Qa jG aqd ak4 hpk]at hi;obtain⟨mb,q1,q2⟩:=back hi;exact⟨mb,by rw[a2s hpk];exact q1,q2⟩
   .rw[KC hk]at hi;obtain⟨mb,q1,q2⟩:=hr.at_ i b hi;refine⟨mb,by rw[a0B (by rw[hn];exact aQ) hk];exact q1,q2.step hF hU fun c hc=>?_⟩;exact c4.same c (hr.inb (aY q1 hc)) (ag0 hk q1 hc)
  .rw[a1y (by rw[uJ];exact CS),uJ,a5z]at hi;obtain⟨mb,q1,q2⟩:=back hi;refine⟨mb,?_,q2⟩;have:=a0C (j:=ks.length+(i-H'.length)) (by omega);rw[q1]at this;rw[<-this];congr 1;omega
 .refine jO fun i j c q1 q2=>?_;obtain⟨ma,a1,a2⟩:=q1;obtain⟨mc,b1,b2⟩:=q2;rcases wB a1 with⟨p,a3,a4⟩|⟨a3,a4,a5⟩|⟨p,a3,a4,a5⟩<;>rcases wB b1 with⟨q,b3,b4⟩|⟨b3,b4,b5⟩|⟨q,b3,b4,b5⟩
  .have:=iW c2.nodup a4 b4 a2 b2;subst this;rw[a3]at b3;cases b3;rfl
  .exact absurd (aY a4 a2) (abd b4 b5 b2)
  .have:=iW c2.nodup a4 b5 a2 b2;subst this;have:=(a0w.1 a3).1;omega
  .exact absurd (aY b4 b2) (abd a4 a5 a2)
  .exact iW hr.nodup a5 b5 a2 b2
  .exact absurd (aY b5 b2) (abd a4 a5 a2)
  .have:=iW c2.nodup a5 b4 a2 b2;subst this;have:=(a0w.1 b3).1;omega
  .exact absurd (aY a5 a2) (abd b4 b5 b2)
  .have:=iW c2.nodup a5 b5 a2 b2;subst this;omega
 .rcases yO hb with g|⟨i,mb,g1,g2,g3⟩
  .exact(c2.DR b g).1
  .exact hr.DR b (aY g2 g3)
 .obtain⟨j,hw,mb,q1,q2⟩:=c6 b hb;obtain⟨k,q3,q4⟩:=U1 q1;exact⟨j,k,q3,hw,mb,q4,q2⟩
end
open Go Tw
section
variable{X:ny}{P:LI1}{A B F:Nat->Prop}{m m':List MB}{h h':List HB}{H H':List (PB X.Γ)}
variable{call:dN}{fU:fV X.Γ}{site:Nat->Bool}{ρ:Type}{y:ρ}
def a7C(X:ny)(P:LI1)(A:Nat->Prop)(m:List MB)(call:dN)(site:Nat->Bool)(ts:St)(o:Oper)(k:PE X.Γ->bT X.Γ->PI->PT X.Γ->OT ρ)(y:ρ):Prop:=
 ∃pe ps1 pi IY,OpR X P A m call site ts o pe ps1 pi/\(k pe ps1 pi IY).Ends y
theorem xU{ps:bT X.Γ}{ts:St}(hR:vZ X P A m ps ts){o:Oper}{k:PE X.Γ->bT X.Γ->PI->PT X.Γ->OT ρ}{r:Option (TV×St×zl)}{v:PV X.Γ}{H1:List (PB X.Γ)}{pi:PI}{an:PT X.Γ}(hm:XR X P A m ts r v H1 pi)(ho:qo P call site ts o=r.map fun(v,s,i)=>(.val v,s,i)) (hk:(k (.val v) { ps with heap:=H1 } pi an).Ends y):a7C X P A m call site ts o k y:=by
 obtain⟨w,h1,ti,m1,rfl,e1,e2,e3,e4,e5,e6⟩:=hm;exact⟨.val v,_,_,_,⟨.val w,_,ti,m1,ho,rfl,rfl,hR.step e1 e3 e4,e2,e3,e4,e5,e6⟩,hk⟩
theorem jc{ps ts}(hR:vZ X P A m ps ts){o k v w pi an}(hv:VR X P (AA A m) m ts.heap v w)(ho:qo P call site ts o=some (.val w,ts,cO))(hk:(k (.val v) ps pi an).Ends y):a7C X P A m call site ts o k y:=
 ⟨.val v,_,_,_,vN hR ho (oL hv),hk⟩
theorem ag3{op a b v ta tb ps t x z}(ha:VR X P A m h a ta)(hb:VR X P A m h b tb)(hd:afJ op a b=some (v,ps))(hp:∀p∈ps,p) :∃w,uj P op t x z ta tb=some w/\VR X P A m h v w:=by
 unfold afJ at hd;split at hd
 .cases ha with
  |gone hi _ _=>simp[bC]at hi
  |int=>
   cases hb with
   |gone hi _ _=>simp[bC]at hi
   |int=>
    split at hd
    .split at hd
     .rename_i e;subst e;cases hd;exact⟨_,a7c (hp _ (.head _)),.int _ _⟩
     .cases hd
    .split at hd
     .rename_i e;subst e;cases hd;exact⟨_,a7d (hp _ (.head _)),.int _ _⟩
     .cases hd
    .cases hd;exact⟨_,a7a (hp _ (.head _)),.int _ _⟩
    .cases hd;exact⟨_,a7b (hp _ (.head _)),.int _ _⟩
    .cases hd
 .cases hd
theorem ag4(hX:bW X P)(hO:jR X P call fU){ps ts}(hR:vZ X P A m ps ts){o an k}(hk:(afM X P fU (dI X P call) site ps o an k).Ends y):a7C X P A m call site ts o k y:=by
 have hE:=hR.env;unfold afM at hk;split at hk
 .
  rename_i x ho;split at hk
  .rename_i v hv;obtain⟨e,h1,h2⟩:=nX hE hv;exact⟨_,_,_,_,vN hR (by simp only[qo,ho,h1,a1t]) h2,hk⟩
  exact hk.elim
 .rename_i x ho;split at hk
  .rename_i v hv;obtain⟨e,h1,h2⟩:=nX hE hv;exact⟨_,_,_,_,vN hR (by simp only[qo,ho,h1,a1t]) h2,hk⟩
  exact hk.elim
 .
  rename_i c a b ho;split at hk
  .rename_i u hu;obtain⟨tu,h1,h2⟩:=XO hE hu;obtain⟨t,IY,rfl,hk⟩:=a0x hk h2;split at hk
   .rename_i v hv;obtain⟨e,g1,g2⟩:=nX hE hv;exact⟨_,_,_,_,vN (hR.CW h1) (by simp only[qo,ho,h1,g1,a1t]) g2,hk⟩
   exact hk.elim
  exact hk.elim
 .
  rename_i e ho;split at hk
  .rename_i z hz;obtain⟨z',g1,g2⟩:=IL (A:=AA A m) (m:=m) (h:=ts.heap) hz;obtain⟨m1,e1,e2,e3,e4,e5,e6⟩:=TQ hR (site:=site (o.dst.getD 0)) g2;exact⟨_,_,_,_,⟨_,_,cO,m1,by simp only[qo,ho,g1,a1t],e1,e2,e3,e4,e5,e6,.none,fun b hb=>by cases hb⟩,hk⟩
  exact hk.elim
 .
  rename_i t x ho;split at hk
  .rename_i v hv;obtain⟨w,g1,g2⟩:=jJ hE hv;split at hk
   .rename_i vV;have hc:=IJ g2;obtain⟨m1,e1,e2,e3,e4,e5,e6⟩:=TQ hR (site:=site (o.dst.getD 0)) hc;exact⟨_,_,_,_,⟨_,_,cO,m1,by simp only[qo,ho,g1,EL hc,vV,a2r],e1,e2,e3,e4,e5,e6,.none,fun b hb=>by cases hb⟩,hk⟩
   exact hk.elim
  exact hk.elim
 .
  rename_i t qs ho;split at hk
  .rename_i vs RH;obtain⟨ws,g1,g2⟩:=a0s hE RH;split at hk
   .rename_i v hv;obtain⟨w,g3,g4⟩:=a7n g2 hv;exact jc hR g4 (by simp only[qo,ho,g1,g3,a1t]) hk
   exact hk.elim
  exact hk.elim
 .
  rename_i t len qs ho;split at hk
  .rename_i vs RH;obtain⟨ws,g1,g2⟩:=a0s hE RH;split at hk
   .split at hk
    .rename_i v H1 hv;refine xU hR (uU hX hR g2 hv) ?_ hk;simp only[qo,ho,g1,afT];rfl
    exact hk.elim
   split at hk
   .rename_i v H1 hv;refine xU hR (uU hX hR g2 hv) ?_ hk;simp only[qo,ho,g1,afT];rfl
   exact hk.elim
  exact hk.elim
 .
  rename_i t a ho;split at hk
  .rename_i pa ha;obtain⟨ea,g1,g2⟩:=nX hE ha;split at hk
   .rename_i v i hv;obtain⟨w,ti,g3,g4,g5,g6⟩:=I9 hX hR g2 hv;exact⟨.val v,_,_,_,⟨.val w,ts,ti,m,by simp only[qo,ho,g1,g3,a1t],rfl,rfl,hR,g4,.refl,.refl,g5,fun b hb=>by rw[g6]at hb;cases hb⟩,hk⟩
   exact hk.elim
  exact hk.elim
 .
  rename_i t a x ho;split at hk
  .rename_i pa v ha hv;obtain⟨ea,g1,g2⟩:=nX hE ha;obtain⟨w,g3,g4⟩:=jJ hE hv;split at hk
   .rename_i s i hs;obtain⟨iT,ti,m1,e1,e2,e3,e4,e5,e6,e7,e8⟩:=zK hX hR g2 g4 hs;exact⟨.undef,_,_,_,⟨.undef,iT,ti,m1,by simp only[qo,ho,g1,g3,e1,a1t],e2,e3,e4,trivial,e5,e6,e7,e8⟩,hk⟩
   exact hk.elim
  exact hk.elim
 .
  rename_i x ho;have go:∀{pe:PE X.Γ} {ev:EV},JD ts.env x=some ev->JG X P (AA A m) m ts.heap pe ev->(match ev with|.loc _ _=>True|.val (.ptr _ _ _)=>True|.val (.fn _ _ _)=>True|_=>False)->(k pe ps yF an).Ends y->a7C X P A m call site ts o k y:=by
   intro pe ev h1 h2 h3 h4;refine⟨_,_,_,_,vN hR ?_ h2,h4⟩;cases ev with
   |loc a b=>simp only[qo,ho,h1]
   |val v=>cases v<;>simp at h3<;>simp only[qo,ho,h1]
   |undef|ent|Fj=>simp at h3
  split at hk
  .rename_i a b ha;obtain⟨ea,g1,g2⟩:=nX hE ha;have:=EM g2;subst this;exact go g1 g2 trivial hk
  .rename_i a b c ha;obtain⟨ea,g1,g2⟩:=nX hE ha;obtain⟨w,rfl,g3⟩:=fZ g2;split at hk
   .rename_i cs hb;obtain⟨mb,f1,f2⟩:=hR.heap.at_ a _ hb;cases mb with
    |gJ cb=>
     cases g3 with
     |ptr e=>exact go g1 g2 trivial hk
     |gone hi e _=>simp only[bC,a08]at hi;subst hi;rw[f1]at e;cases e
    |_=>exact f2.elim
   .rename_i cs hb;obtain⟨mb,f1,f2⟩:=hR.heap.at_ a _ hb;cases mb with
    |jI cb=>
     cases g3 with
     |ptr e=>rw[f1]at e;cases e
     |gone hi e _=>
      simp only[bC,a08]at hi;subst hi;rw[f1]at e;cases e with
      |r _ e=>simp only[roV,a08]at e;subst e;exact go g1 g2 trivial hk
    |_=>exact f2.elim
   exact hk.elim
  .rename_i a b c ha;obtain⟨ea,g1,g2⟩:=nX hE ha;obtain⟨w,rfl,g3⟩:=fZ g2;split at hk
   .rename_i q1 q2 q3 q4 hb;obtain⟨mb,f1,f2⟩:=hR.heap.at_ a _ hb;cases mb with
    |dw cb=>
     cases g3 with
     |row e=>exact go g1 g2 trivial hk
     |gone hi e _=>simp only[bC,a08]at hi;subst hi;rw[f1]at e;cases e
    |_=>exact f2.elim
   exact hk.elim
  .rename_i a b c ha;obtain⟨ea,g1,g2⟩:=nX hE ha;obtain⟨w,rfl,g3⟩:=fZ g2;cases g3 with
   |el=>exact go g1 g2 trivial hk
   |gone hi _ _=>simp[bC]at hi
  .rename_i a b c ha;obtain⟨ea,g1,g2⟩:=nX hE ha;obtain⟨w,rfl,g3⟩:=fZ g2;cases g3 with
   |fn=>exact go g1 g2 trivial hk
   |gone hi _ _=>simp[bC]at hi
  exact hk.elim
 .
  rename_i op t x z w0 ho;split at hk
  rotate_left
  .exact hk.elim
  rename_i a b ha hb;obtain⟨ta,g1,g2⟩:=jJ hE ha;obtain⟨tb,g3,g4⟩:=jJ hE hb;split at hk
  .split at hk
   .rename_i v ps hd;obtain⟨hp,hk⟩:=vO hk;obtain⟨w,e1,e2⟩:=ag3 (P:=P) (t:=t) (x:=x) (z:=z) g2 g4 hd hp;exact jc hR e2 (by simp only[qo,ho,g1,g3,e1,a1t]) hk
   exact hk.elim
  split at hk
  .rename_i v q hv;obtain⟨w,e1,e2⟩:=a4q (x:=x) (y:=z) hR.heap g2 g4 hv hk.1;exact jc hR e2 (by simp only[qo,ho,g1,g3,e1,a1t]) hk.2
  split at hk
  .split at hk
   .rename_i w r;split at hk
    .rename_i v ua ub e1 e2 e3;obtain⟨RI,hk⟩:=hk;rw[<-jX g2 e2,<-jX g4 e3]at RI;exact jc hR (xR e1) (by simp only[qo,ho,g1,g3,RI,a1t]) hk
    exact hk.elim
   exact hk.elim
  split at hk
  .rename_i v hv;obtain⟨w,e1,e2⟩:=ZM g2 g4 hv;exact jc hR e2 (by simp only[qo,ho,g1,g3,e1,a1t]) hk
  exact hk.elim
 .
  rename_i op t x ho;split at hk
  .rename_i a ha;obtain⟨ta,g1,g2⟩:=jJ hE ha;split at hk
   .rename_i v hv;obtain⟨w,e1,e2⟩:=ji g2 hv;exact jc hR e2 (by simp only[qo,ho,g1,e1,a1t]) hk
   exact hk.elim
  exact hk.elim
 .
  rename_i s d x ho;split at hk
  .rename_i a ha;obtain⟨ta,g1,g2⟩:=jJ hE ha;split at hk
   .split at hk
    .rename_i w r;split at hk
     .rename_i v ua e1 e2;obtain⟨RI,hk⟩:=hk;rw[<-jX g2 e2]at RI;exact jc hR (xR e1) (by simp only[qo,ho,g1,RI,a1t]) hk
     exact hk.elim
    exact hk.elim
   split at hk
   .rename_i v hv;obtain⟨w,e1,e2⟩:=V4 g2 hv;exact jc hR e2 (by simp only[qo,ho,g1,e1,a1t]) hk
   exact hk.elim
  exact hk.elim
 .
  rename_i f first cap ho
  split at hk
  .rename_i a b ha hb;obtain⟨ta,g1,g2⟩:=VB hE ha;obtain⟨tb,g3,g4⟩:=VB hE hb;exact jc hR (.fn g2.1 g2.2 g4.1 g4.2) (by simp only[qo,ho,g1,g3]) hk
  exact hk.elim
 .
  rename_i t r ho;have hp:=hR.heap.push (pb:=.map []) (hb:=.map []) (mb:=.gJ ts.heap.length) (.inl rfl) ⟨[],by simp,rfl,fun i a b ha=>by simp at ha⟩;have go:qo P call site ts o=some (.val (.map ts.heap.length),{ ts with heap:=ts.heap++[.map []] },cO)->∀{an:PT X.Γ},(k (.val (.map ps.heap.length)) { ps with heap:=ps.heap++[.map []] } yF an).Ends y->a7C X P A m call site ts o k y:=fun h1 an h2=>
   ⟨.val (.map ps.heap.length),_,_,_,⟨_,_,cO,_,h1,rfl,rfl,hR.step hp.1 hp.2.1 hp.2.2,oL (.map (by rw[<-hR.heap.len];simp)),hp.2.1,hp.2.2,.none,fun b hb=>by cases hb⟩,h2⟩
  split at hk
  .rename_i h1;obtain⟨w,g1,g2⟩:=IQ hE h1;have:=sJ g2;subst this;exact go (by simp only[qo,ho,g1]) hk
  .rename_i k0 n0 kt vt h1 hu;obtain⟨w,g1,g2⟩:=IQ hE h1;have:=PY g2;subst this;exact go (by simp only[qo,ho,g1,hu]) hk
  exact hk.elim
 .
  rename_i t l c ho;split at hk
  .rename_i vl vc hl hc;obtain⟨tl,g1,g2⟩:=jJ hE hl;obtain⟨tc,g3,g4⟩:=jJ hE hc;split at hk
   .rename_i v H1 qs hv;obtain⟨hq,hk⟩:=vO hk;refine xU hR (AX hX hR g2 g4 hv hq) ?_ hk;simp only[qo,ho,g1,g3,afT];rfl
   exact hk.elim
  exact hk.elim
 .
  rename_i t x lo hi mx ho;split at hk
  rotate_left
  .exact hk.elim
  rename_i px plo yw pmx hx Ik hhi hmx;obtain⟨ex,g1,g2⟩:=nX hE hx;obtain⟨RY,g3,g4⟩:=IQ hE Ik;obtain⟨RZ,g5,g6⟩:=IQ hE hhi;obtain⟨tmx,g7,g8⟩:=IQ hE hmx;split at hk
  .rename_i n e hu;split at hk
   .split at hk
    .rename_i v hv;refine xU (H1:=ps.heap) hR (VG hR g2 g4 g6 g8 hv) ?_ hk;simp only[qo,ho,g1,g3,g5,g7,hu,afT];rfl
    exact hk.elim
   split at hk
   .rename_i v H1 qs hv;obtain⟨hq,hk⟩:=vO hk;refine xU hR (Dv hX hR g2 g4 g6 g8 hv hq) ?_ hk;simp only[qo,ho,g1,g3,g5,g7,hu,afT];rfl
   exact hk.elim
  rename_i ag5;have jr:∀{w:TV},ex=.val w->qo P call site ts o=(rQ P t w RY RZ tmx).map fun v=>(.val v,ts,cO):=by intro w e;subst e;simp only[qo,ho,g1,g3,g5,g7]
  split at hk
  .rename_i b;obtain⟨w,rfl,g9⟩:=fZ g2;have:w=.str b:=by
    cases g9 with
    |str=>rfl
    |gone hi _ _=>simp[bC]at hi
   subst this;split at hk
   rotate_left
   .exact hk.elim
   rename_i w r;split at hk
   rotate_left
   .exact hk.elim
   rename_i v tl th e1 e2 e3;split at hk
   rotate_left
   .exact hk.elim
   rename_i ak5;obtain⟨hs,hk⟩:=hk;have h7:tmx=none:=by
    cases pmx with
    |none=>exact sJ g8
    |some _=>simp at ak5
   have h5:RY=tl:=by
    cases plo with
    |none=>simp at e2;rw[sJ g4,e2]
    |some q=>
     obtain⟨tq,rfl⟩:=O1 g4;simp only[a0z]at e2;obtain⟨q1,q2,rfl⟩:=e2;rw[jX (show VR X P (AA A m) m ts.heap q tq from g4) q2]
   have h6:RZ=th:=by
    cases yw with
    |none=>simp at e3;rw[sJ g6,e3]
    |some q=>
     obtain⟨tq,rfl⟩:=O1 g6;simp only[a0z]at e3;obtain⟨q1,q2,rfl⟩:=e3;rw[jX (show VR X P (AA A m) m ts.heap q tq from g6) q2]
   subst h5;subst h6;subst h7;exact jc hR (xR e1) (by rw[jr rfl,hs];rfl) hk
  .rename_i px' hns;obtain⟨w,rfl,g9⟩:=fZ g2;split at hk
   .rename_i v qs hv;obtain⟨hq,hk⟩:=vO hk;obtain⟨w',e1,e2⟩:=OL hR g9 g4 g6 g8 hv hq;exact jc hR e2 (by rw[jr rfl,e1];rfl) hk
   exact hk.elim
  exact hk.elim
 .
  rename_i t x f ho;split at hk
  .rename_i pa n ha hn;obtain⟨ea,g1,g2⟩:=nX hE ha;split at hk
   .rename_i v hv;obtain⟨eb,g3,g4⟩:=OH hR g2 hv;exact⟨_,_,_,_,vN hR (by simp only[qo,ho,g1,hn,g3,a1t]) g4,hk⟩
   exact hk.elim
  exact hk.elim
 .
  rename_i t x f ho;split at hk
  .rename_i a ha;obtain⟨ta,g1,g2⟩:=jJ hE ha;split at hk
   .rename_i v hv;obtain⟨w,e1,e2⟩:=OI g2 hv;exact jc hR e2 (by simp only[qo,ho,g1,e1,a1t]) hk
   exact hk.elim
  exact hk.elim
 .
  rename_i t x i ho;split at hk
  .rename_i pa vi ha hi;obtain⟨ea,g1,g2⟩:=nX hE ha;obtain⟨ti,g3,g4⟩:=jJ hE hi;split at hk
   .rename_i v qs hv;obtain⟨hq,hk⟩:=vO hk;obtain⟨eb,g5,g6⟩:=AU hR g2 g4 hv hq;exact⟨_,_,_,_,vN hR (by simp only[qo,ho,g1,g3,g5,a1t]) g6,hk⟩
   exact hk.elim
  exact hk.elim
 .
  rename_i t x i ho;split at hk
  .rename_i a vi ha hi;obtain⟨ta,g1,g2⟩:=jJ hE ha;obtain⟨ti,g3,g4⟩:=jJ hE hi;split at hk
   .split at hk
    .rename_i w r;split at hk
     .rename_i v ua ui e1 e2 e3;obtain⟨RI,hk⟩:=hk;rw[<-jX g2 e2,<-jX g4 e3]at RI;exact jc hR (xR e1) (by simp only[qo,ho,g1,g3,RI,a1t]) hk
     exact hk.elim
    exact hk.elim
   split at hk
   .rename_i v hv;obtain⟨w,e1,e2⟩:=OJ g2 g4 hv;exact jc hR e2 (by simp only[qo,ho,g1,g3,e1,a1t]) hk
   exact hk.elim
  exact hk.elim
 .
  rename_i t mm i ok ho;split at hk
  .rename_i vm vi hm hi;obtain⟨tm,g1,g2⟩:=jJ hE hm;obtain⟨ti,g3,g4⟩:=jJ hE hi;obtain⟨v,pi,IY,w,e1,e2,e3,e4⟩:=ab4 hR g2 g4 hk;refine⟨.val v,_,_,_,⟨.val w,ts,_,m,?_,rfl,rfl,hR,e2,.refl,.refl,e4,fun b hb=>by cases hb⟩,e3⟩;simp only[qo,ho,g1,g3,e1,a1t];cases tm<;>rfl
  exact hk.elim
 .
  rename_i t mm i x ho;split at hk
  .rename_i vm vi vx hm hi hx;obtain⟨tm,g1,g2⟩:=jJ hE hm;obtain⟨ti,g3,g4⟩:=jJ hE hi;obtain⟨tx,g5,g6⟩:=jJ hE hx;obtain⟨ps1,pi,IY,h1,a0D,e1,e2,e3,e4,e5,e6⟩:=a7z hR g2 g4 g6 hk;exact⟨.undef,_,_,_,⟨.undef,{ ts with heap:=h1 },a0D,m,by simp only[qo,ho,g1,g3,g5,e1,a1t],rfl,rfl,e2,trivial,e3,.refl,e5,e6⟩,e4⟩
  exact hk.elim
 .
  rename_i t mm i x ho;split at hk
  .rename_i vm vi vx hm hi hx;obtain⟨tm,g1,g2⟩:=jJ hE hm;obtain⟨ti,g3,g4⟩:=jJ hE hi;obtain⟨tx,g5,g6⟩:=jJ hE hx;obtain⟨ps1,pi,IY,h1,a0D,e1,e2,e3,e4,e5,e6⟩:=a7z hR g2 g4 g6 hk;exact⟨.undef,_,_,_,⟨.undef,{ ts with heap:=h1 },a0D,m,by simp only[qo,ho,g1,g3,g5,e1,a1t],rfl,rfl,e2,trivial,e3,.refl,e5,e6⟩,e4⟩
  exact hk.elim
 .
  rename_i t mm i ho;split at hk
  .rename_i vm vi hm hi;obtain⟨tm,g1,g2⟩:=jJ hE hm;obtain⟨ti,g3,g4⟩:=jJ hE hi;obtain⟨e,e',ps1,pi,IY,h1,a0D,e1,e0,e2,e3,e4,e5,e6⟩:=ab6 hR g2 g4 hk;exact⟨e,_,_,_,⟨e',{ ts with heap:=h1 },a0D,m,by simp only[qo,ho,g1,g3,e1],rfl,rfl,e2,e0,e3,.refl,e5,e6⟩,e4⟩
  exact hk.elim
 .
  rename_i t mm i x ho;split at hk
  .rename_i vm vi vx hm hi hx;obtain⟨tm,g1,g2⟩:=jJ hE hm;obtain⟨ti,g3,g4⟩:=nX hE hi;obtain⟨tx,g5,g6⟩:=jJ hE hx;obtain⟨ps1,pi,h1,a0D,e1,e2,e3,e4,e5,e6⟩:=ab7 hR g2 g4 g6 hk;exact⟨.undef,_,_,_,⟨.undef,{ ts with heap:=h1 },a0D,m,by simp only[qo,ho,g1,g3,g5,e1,a1t],rfl,rfl,e2,trivial,e3,.refl,e5,e6⟩,e4⟩
  exact hk.elim
 .
  rename_i t i ho;split at hk
  .rename_i vs hv;obtain⟨w,g1,g2⟩:=nX hE hv;obtain⟨w,rfl,g2⟩:=fZ g2;split at hk
   .rename_i v hvi;cases g2 with
    |dK h1 h2=>
     obtain⟨x,e1,e2⟩:=bZ.get ⟨h1,h2⟩ hvi;exact jc hR e2 (by simp only[qo,ho,g1,zI,e1,a1t]) hk
    |gone hi _ _=>simp[bC]at hi
   exact hk.elim
  .rename_i r j v hv;obtain⟨w,g1,g2⟩:=nX hE hv;obtain⟨c,y0,rfl,q1,q2⟩:=NY g2;split at hk
   .exact jc hR (oK q2) (by simp only[qo,ho,g1,zI,a1t]) hk
   .exact⟨_,_,_,_,vN hR (pe:=.Fj r j) (ev:=.Fj c j) (by simp only[qo,ho,g1,zI,a1t]) ⟨q1,rfl⟩,hk⟩
   exact hk.elim
  exact hk.elim
 .
  rename_i c ho;split at hk
  rotate_left
  .exact hk.elim
  rename_i az has;obtain⟨tas,g1,g2⟩:=VB hE has;have yP:∀{b:Builtin},c.callee=.builtin b->∀{r:Option (TV×St×zl)},rU P b c.argTypes o.type ts tas=r->qo P call site ts o=r.map fun(v,s,i)=>(.val v,s,i):=by intro b hb r hr;simp only[qo,ho,Ov,hb,g1,hr]
  split at hk
  .rename_i hb;split at hk
   .rename_i x;obtain⟨tx,r,rfl,q1,q2⟩:=g2.inv;have:=q2.inv0;subst this;split at hk
    .rename_i v i hv;obtain⟨w,ti,e1,e2,e3,e4⟩:=ZP hR.heap q1 hv;exact⟨.val v,_,_,_,⟨.val w,ts,ti,m,by rw[yP hb (r:=some (w,ts,ti)) (by simp only[rU,e1,a1t])];rfl,rfl,rfl,hR,oL e2,.refl,.refl,e3,fun b hb=>by rw[e4]at hb;cases hb⟩,hk⟩
    exact hk.elim
   exact hk.elim
  .rename_i hb;split at hk
   .rename_i d x;obtain⟨td,r,rfl,q1,q2⟩:=g2.inv;obtain⟨tx,r,rfl,q3,q4⟩:=q2.inv;have:=q4.inv0;subst this;split at hk
    .rename_i v H1 i qs hv;obtain⟨hq,hk⟩:=vO hk;exact xU hR (JU hX hR q1 q3 hv hq) (yP hb rfl) hk
    exact hk.elim
   exact hk.elim
  .rename_i hb;split at hk
   .rename_i d x;obtain⟨td,r,rfl,q1,q2⟩:=g2.inv;obtain⟨tx,r,rfl,q3,q4⟩:=q2.inv;have:=q4.inv0;subst this;split at hk
    .rename_i v H1 i hv;exact xU hR (V8 hX hR q1 q3 hv) (yP hb rfl) hk
    exact hk.elim
   exact hk.elim
  .rename_i hb;split at hk
   .rename_i v hv;obtain⟨w,e1,e2⟩:=zM g2 hv;refine jc hR e2 ?_ hk;rw[yP hb (r:=some (w,ts,cO)) (by simp only[rU,e1,a1t])];rfl
   exact hk.elim
  .rename_i hb;split at hk
   .rename_i v hv;obtain⟨w,e1,e2⟩:=zM g2 hv;refine jc hR e2 ?_ hk;rw[yP hb (r:=some (w,ts,cO)) (by simp only[rU,e1,a1t])];rfl
   exact hk.elim
  .rename_i f hb;split at hk
   rotate_left
   .exact hk.elim
   rename_i fv hfv;obtain⟨tf,f1,f2⟩:=jJ hE hfv;have jr:∀{w:TV} {h1:List HB} {ws:List Nat},call tf tas ts.heap=some (w,h1,ws)->qo P call site ts o=some (.val w,{ ts with heap:=h1 },⟨true,[],ws.map .h⟩):=by intro w h1 ws hc;simp only[qo,ho,Ov,hb,g1,f1,hc]
   unfold a7k at hk;split at hk
   .rename_i v H1 r;obtain⟨hs,hk⟩:=hk;obtain⟨w,h1,ws,m1,c1,c2,c3,c4,c5,c6⟩:=hs A m ts.heap tf tas hR.heap f2 g2;refine⟨.val v,_,_,_,⟨.val w,_,_,m1,jr c1,rfl,rfl,hR.step c2 c4 c5,oL c3,c4,c5,⟨fun _=>rfl,fun k hk=>(by cases hk),fun k hk=>?_,fun b hb=>?_,fun b hb=>(by cases hb),fun h=>(by cases h)⟩,fun b hb=>?_⟩,hk⟩
    .simp at hk
    .simp at hb;exact .inr ⟨rfl,c6 b hb⟩
    simp at hb;exact c6 b hb
   .split at hk
    .rename_i Hp jG hp;split at hk
     .rename_i Hs fv1 xs1 hHs ag6 ag7;split at hk
      .rename_i v1 S9 X7 ag8;obtain⟨hs,hk⟩:=hk;simp only[a2K,a1F]at jG;obtain⟨w,h1,ws,m1,c1,c2,c3,c4,c5,c6⟩:=KE hX hs.w jG.1 hp hHs ag6 ag7 X7 ag8 jG.2 A m ts.heap tf tas hR.heap f2 g2;refine⟨.val v1,_,_,_,⟨.val w,_,_,m1,jr c1,rfl,rfl,hR.step c2 c4 c5,oL c3,c4,c5,⟨fun _=>rfl,fun k hk=>(by cases hk),fun k hk=>?_,fun b hb=>?_,fun b hb=>(by cases hb),fun h=>(by cases h)⟩,fun b hb=>?_⟩,hk⟩
       .simp at hk
       .simp at hb;obtain⟨_,k,h8,_,h9⟩:=c6 b hb;exact .inl ⟨k,a1z.2 ⟨k,a5M h8,rfl⟩,h9⟩
       simp at hb;obtain⟨_,k,_,_,mb,h8,h9⟩:=c6 b hb;exact aY h8 h9
      exact hk.elim
     exact hk.elim
    exact hk.elim
   .split at hk
    .rename_i Hp jG hp;split at hk
     .rename_i Hs fv1 xs1 hHs ag6 ag7;split at hk
      .rename_i v1 S9 Hs2 H2 X7 ag8 aqe;obtain⟨hs,hk⟩:=hk;simp only[a2K,a1F]at jG;have hsl:Hs.length=_:=(uI hHs).1.trans (EU hp).1;obtain⟨w,h1,ws,m1,c1,c2,c3,c4,c5,c6⟩:=KE hX (a0A aqe (by rw[hsl];exact jG.2) hs.w) jG.1 hp hHs ag6 ag7 X7 ag8 jG.2 A m ts.heap tf tas hR.heap f2 g2;refine⟨.val v1,_,_,_,⟨.val w,_,_,m1,jr c1,rfl,rfl,hR.step c2 c4 c5,oL c3,c4,c5,⟨fun _=>rfl,fun k hk=>(by cases hk),fun k hk=>?_,fun b hb=>?_,fun b hb=>(by cases hb),fun h=>(by cases h)⟩,fun b hb=>?_⟩,hk⟩
       .simp at hk
       .simp at hb;obtain⟨p,k,h8,h7,h9⟩:=c6 b hb;exact .inl ⟨k,a1z.2 ⟨k,Y0 h8 (by simpa using h7.2),rfl⟩,h9⟩
       simp at hb;obtain⟨_,k,_,_,mb,h8,h9⟩:=c6 b hb;exact aY h8 h9
      exact hk.elim
     exact hk.elim
    exact hk.elim
   split at hk
   .rename_i g first cap _
    cases f2 with
    |gone hi _ _=>simp[bC]at hi
    |fn p1 p2 p3 p4=>
     split at hk
     .rename_i vs RH;split at hk
      .rename_i v ext qs aqf;split at hk
       .rename_i ext' yB;obtain⟨hq,hk⟩:=vO hk;obtain⟨w,h1,m1,c1,c2,c3,c4,c5⟩:=IX hX (hO _ _ _ _ _ aqf hq) hR.heap RH yB ⟨p1,p2⟩ g2 ⟨p3,p4⟩;refine⟨.val (shift ps.heap.length v),_,_,_,⟨.val w,_,_,m1,jr c1,rfl,rfl,hR.step c2 c4 c5,oL c3,c4,c5,⟨fun _=>rfl,fun k hk=>(by cases hk),fun k hk=>(by simp at hk),fun b hb=>(by simp at hb),fun b hb=>(by cases hb),fun h=>(by cases h)⟩,fun b hb=>(by simp at hb)⟩,hk⟩
       exact hk.elim
      exact hk.elim
     exact hk.elim
   exact hk.elim
  exact hk.elim
 .
  rename_i t x ho;split at hk
  .rename_i r kt et hx hu;obtain⟨tx,g1,g2⟩:=jJ hE hx;split at hk
   .rename_i es ND;obtain⟨c,gQ,q0,q3,q4,q5⟩:=DT hR.heap ND;have htm:=a2q g2 q0;subst htm;have aQ:r<m.length:=by rcases q0 with q1|⟨q1,_⟩<;>exact(a0w.1 q1).1
    have hp:=hR.heap.push (pb:=.dh r es.length []) (hb:=.dh c es.length []) (mb:=.gJ ts.heap.length) (.inl rfl) ⟨c,by simp,by rw[a0Q aQ];rcases q0 with q1|⟨q1,_⟩<;>rw[q1]<;>rfl,fun c' hc=>by rw[a0Q aQ]at hc;rcases q0 with q1|⟨q1,_⟩<;>rw[q1]at hc<;>simp at hc<;>exact hc.symm⟩
    have go:qo P call site ts o=some (.val (.iter ts.heap.length),{ ts with heap:=ts.heap++[.dh c es.length []] },yx (.h c)):=by simp only[qo,ho,g1,hu,q3,q4]
    exact⟨.val (.iter ps.heap.length),_,_,_,⟨_,_,yx (.h c),_,go,rfl,rfl,hR.step hp.1 hp.2.1 hp.2.2,oL (.iter (by rw[<-hR.heap.len];simp)),hp.2.1,hp.2.2,IR.reads rfl (fun b hb=>by simp[yx]at hb;subst hb;exact⟨TY q0,(a0w.1 q3).1⟩) (by simp[yx]),fun b hb=>by simp[yx]at hb⟩,hk⟩
   exact hk.elim
  exact hk.elim
 .
  rename_i x ho;split at hk
  rotate_left
  .exact hk.elim
  rename_i b hx;obtain⟨tx,g1,g2⟩:=jJ hE hx;split at hk
  rotate_left
  .exact hk.elim
  rename_i r n i seen hb;split at hk
  rotate_left
  .exact hk.elim
  rename_i es ND;split at hk
  .rename_i kk vv _ rest;obtain⟨⟨hn,he⟩,hk⟩:=hk;obtain⟨e,rfl,rfl⟩:∃e:PV X.Γ×PV X.Γ,e.1=kk/\e.2=vv:=⟨(kk,vv),rfl,rfl⟩;have he:es[i]? = some e:=he;obtain⟨mb,q1,q2⟩:=hR.heap.at_ b _ hb;cases mb with
   |gJ cb=>
    obtain⟨c,q3,_,q5⟩:=q2;obtain⟨c',gQ,z1,z3,z4,z5⟩:=DT hR.heap ND;have:=q5 c' (by rcases z1 with z1|⟨z1,_⟩;exact .inl z1;exact .inr z1);subst this;cases g2 with
    |gone hi e _=>simp only[bC,a08]at hi;subst hi;rw[q1]at e;cases e
    |iter e1=>
     rw[q1]at e1;cases e1;have hl:i<gQ.length:=by rw[<-z4];exact(a0w.1 he).1
     have he':=a0N hl;have hv:=z5 i _ _ he he';refine⟨.val (.dK [e.1,e.2]),_,_,_,⟨.val (.dK [gQ[i].1,gQ[i].2]),ts,fO [.h cb,.h c'],m,?_,rfl,rfl,hR,oL (O4 (oK hv.1) (oK hv.2)),.refl,.refl,IR.reads rfl (fun b2 yN=>?_) (by simp[fO]),fun b hb=>by simp[fO]at hb⟩,hk⟩
     .simp only[qo,ho,g1,q3,z3];rw[a18 (by rw[<-z4];exact hn),he'];rfl
     simp[fO]at yN;rcases yN with rfl|rfl
     .exact⟨.inl ⟨b,by simp[fO],iU q1 rfl⟩,(a0w.1 q3).1⟩
     refine⟨?_,(a0w.1 z3).1⟩;rcases z1 with z1|⟨_,z1⟩
     .exact .inl ⟨r,by simp[fO],iU z1 rfl⟩
     exact .inr z1
   |_=>exact q2.elim
  split at hk
  case isFalse=>exact hk.elim
  rename_i hn;split at hk
  case h_2=>exact hk.elim
  rename_i e he;obtain⟨mb,q1,q2⟩:=hR.heap.at_ b _ hb;cases mb with
  |gJ cb=>
   obtain⟨c,q3,_,q5⟩:=q2;obtain⟨c',gQ,z1,z3,z4,z5⟩:=DT hR.heap ND;have:=q5 c' (by rcases z1 with z1|⟨z1,_⟩;exact .inl z1;exact .inr z1);subst this;cases g2 with
   |gone hi e _=>simp only[bC,a08]at hi;subst hi;rw[q1]at e;cases e
   |iter e1=>
    rw[q1]at e1;cases e1;have hl:i<gQ.length:=by rw[<-z4];exact(a0w.1 he).1
    have he':=a0N hl;have hv:=z5 i _ _ he he';refine⟨.val (.dK [e.1,e.2]),_,_,_,⟨.val (.dK [gQ[i].1,gQ[i].2]),ts,fO [.h cb,.h c'],m,?_,rfl,rfl,hR,oL (O4 (oK hv.1) (oK hv.2)),.refl,.refl,IR.reads rfl (fun b2 yN=>?_) (by simp[fO]),fun b hb=>by simp[fO]at hb⟩,hk⟩
    .simp only[qo,ho,g1,q3,z3];rw[a18 (by rw[<-z4];exact hn),he'];rfl
    simp[fO]at yN;rcases yN with rfl|rfl
    .exact⟨.inl ⟨b,by simp[fO],iU q1 rfl⟩,(a0w.1 q3).1⟩
    refine⟨?_,(a0w.1 z3).1⟩;rcases z1 with z1|⟨_,z1⟩
    .exact .inl ⟨r,by simp[fO],iU z1 rfl⟩
    exact .inr z1
  |_=>exact q2.elim
 exact hk.elim
end
end Pv
