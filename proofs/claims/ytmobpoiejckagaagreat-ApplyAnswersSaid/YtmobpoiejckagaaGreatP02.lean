/- Part 3 of a proof: ApplyAnswers -/
import Derived.Test.YtmobpoiejckagaaGreatP01
set_option linter.constructorNameAsVariable false
set_option linter.unusedVariables false
set_option linter.unusedSimpArgs false
set_option linter.unusedSectionVars false
noncomputable section
namespace Pv
open Go Tw
section
variable{X:mV}{P:LI1}{A:Nat->Prop}{m m':List MB}{h h':List HB}{H H':List (PB X.Γ)}
theorem bZ.nil:bZ X P A m h [] []:=⟨rfl,fun i x y hx=>by simp at hx⟩
theorem bZ.cons{v x vs xs}(h1:VR X P A m h v x)(h2:bZ X P A m h vs xs):bZ X P A m h (v::vs) (x::xs):=by
 refine⟨by simp[h2.1],fun i a b ha hb=>?_⟩;cases i with
 |zero=>simp only[a3E,a09]at ha hb;subst ha;subst hb;exact h1
 |succ i=>exact h2.2 i a b (by simpa using ha) (by simpa using hb)
theorem bZ.inv{v vs xs}(hv:bZ X P A m h (v::vs) xs):∃x r,xs=x::r/\VR X P A m h v x/\bZ X P A m h vs r:=by
 cases xs with
 |nil=>have:=hv.1;simp at this
 |cons x r=>exact⟨x,r,rfl,hv.2 0 v x rfl rfl,by have:=hv.1;simpa using this,fun i a b ha hb=>hv.2 (i+1) a b (by simpa using ha) (by simpa using hb)⟩
theorem bZ.inv0{xs}(hv:bZ X P A m h [] xs):xs=[]:=by have:=hv.1;cases xs<;>simp_all
theorem bZ.app{a b x y}(h1:bZ X P A m h a x)(h2:bZ X P A m h b y):bZ X P A m h (a++b) (x++y):=by
 refine⟨by simp[h1.1,h2.1],fun i c d hc hd=>?_⟩;rcases a4W i a.length with hl|hl
 .rw[a0U hl]at hc;rw[a0U (by rw[<-h1.1];exact hl)]at hd;exact h1.2 i c d hc hd
 rw[a1r hl]at hc;rw[a1r (by rw[<-h1.1];exact hl),<-h1.1]at hd;exact h2.2 _ c d hc hd
theorem bZ.drop{a x}(h1:bZ X P A m h a x)(n):bZ X P A m h (a.drop n) (x.drop n):=
 ⟨by simp[h1.1],fun i c d hc hd=>h1.2 (n+i) c d (by rw[<-hc,a5C]) (by rw[<-hd,a5C])⟩
theorem bZ.take{a x}(h1:bZ X P A m h a x)(n):bZ X P A m h (a.take n) (x.take n):=by
 refine⟨by simp[h1.1],fun i c d hc hd=>?_⟩;rw[a5H]at hc hd;split at hc
 .rename_i hl;rw[a1e hl]at hd;exact h1.2 i c d hc hd
 cases hc
theorem bZ.get{a x}(h1:bZ X P A m h a x){i:Nat}{c}(hc:a[i]? = some c):∃v,x[i]? = some v/\VR X P A m h c v:=by
 have hl:i<x.length:=by rw[<-h1.1];exact(a0x.1 hc).1
 exact⟨x[i],a0Q hl,h1.2 i c _ hc (a0Q hl)⟩
theorem TY{v x tv}(hv:VR X P A m h v x)(hp:rY v=some tv):x=tv:=by
 cases hv with
 |gone hi _ _=>cases v<;>simp[bf]at hi<;>simp[rY]at hp
 |_=>first|(simp only[rY,a09]at hp;exact hp)|(simp[rY]at hp;done)
theorem Hg:∀{vs} {xs tvs:List TV},bZ X P A m h vs xs->iZ vs=some tvs->xs=tvs
 | [],xs,tvs,hv,hp=>by simp only[iZ,a09]at hp;rw[hv.inv0,hp]
 |v::vs,xs,tvs,hv,hp=>by
  obtain⟨x,r,rfl,h1,h2⟩:=hv.inv;simp only[iZ]at hp;split at hp
  .rename_i a b ha hb;cases hp;rw[TY h1 ha,Hg h2 hb]
  cases hp
theorem jZ{v x tv}(hv:VR X P A m h v x)(hp:qE v=some tv):x=tv:=by
 cases v with
 |agg cs=>
  simp only[qE,a0A]at hp;obtain⟨tvs,h1,rfl⟩:=hp;cases hv with
  |agg h2 h3=>rw[Hg ⟨h2,h3⟩ h1]
  |gone hi _ _=>simp[bf]at hi
 |_=>exact TY hv hp
theorem a2j:∀{vs} {xs tvs:List TV},bZ X P A m h vs xs->Vw vs=some tvs->xs=tvs
 | [],xs,tvs,hv,hp=>by simp only[Vw,a09]at hp;rw[hv.inv0,hp]
 |v::vs,xs,tvs,hv,hp=>by
  obtain⟨x,r,rfl,h1,h2⟩:=hv.inv;simp only[Vw]at hp;split at hp
  .rename_i a b ha hb;cases hp;rw[jZ h1 ha,a2j h2 hb]
  cases hp
theorem a7p{v x}(hp:ofC x=some v):VR X P A m h v x:=by cases x<;>simp[ofC]at hp<;>subst hp<;>constructor
theorem VI:∀{xs} {vs},Dn xs=some vs->bZ X P A m h vs xs
 | [],vs,hp=>by simp only[Dn,a09]at hp;subst hp;exact .nil
 |x::xs,vs,hp=>by
  simp only[Dn]at hp;split at hp
  .rename_i a b ha hb;cases hp;exact .cons (a7p ha) (VI hb)
  cases hp
theorem xX{v x}(hp:ZA x=some v):VR X P A m h v x:=by
 cases x with
 |agg cs=>
  simp only[ZA,a0A]at hp;obtain⟨vs,h1,rfl⟩:=hp;have:=VI (X:=X) (P:=P) (A:=A) (m:=m) (h:=h) h1;exact .agg this.1 this.2
 |_=>exact a7p hp
theorem U0{v x}(hp:rY v=some x):VR X P A m h v x:=by
 cases v<;>simp only[rY,a09,reduceCtorEq]at hp<;>subst hp
 .exact .bool _
 .exact .int _ _
 .exact .str _
 exact .nil _
theorem Hl:∀{vs} {xs:List TV},iZ vs=some xs->bZ X P A m h vs xs
 | [],xs,hp=>by simp only[iZ,a09]at hp;subst hp;exact .nil
 |v::vs,xs,hp=>by
  simp only[iZ]at hp;split at hp
  .rename_i a b ha hb;cases hp;exact .cons (U0 ha) (Hl hb)
  cases hp
theorem oD{v x}(hp:qE v=some x):VR X P A m h v x:=by
 cases v with
 |agg cs=>
  simp only[qE,a0A]at hp;obtain⟨vs,h1,rfl⟩:=hp;have:=Hl (X:=X) (P:=P) (A:=A) (m:=m) (h:=h) h1;exact .agg this.1 this.2
 |_=>exact U0 hp
theorem IV{v x}(hv:VR X P A m h v x):VR X P A m h (a2b v) x:=by
 cases v with
 |lit b=>
  cases hv with
  |lit=>exact .bool _
  |gone hi _ _=>simp[bf]at hi
 |_=>exact hv
theorem a7q{v x}(hv:VR X P A m h v x):iO x=a0h v:=by
 cases hv with
 |own _ o=>exact o
 |gone hi _ o=>rw[o];cases v<;>simp[bf]at hi<;>rfl
 |_=>rfl
theorem IW{v x}(hv:VR X P A m h v x):bZ X P A m h v.cells x.cells:=by
 have hq:=a7q hv;cases v with
 |agg cs=>
  cases hv with
  |agg h1 h2=>exact⟨h1,h2⟩
  |gone hi _ _=>simp[bf]at hi
 |dM cs=>
  have hv':=hv;cases hv with
  |dM h1 h2=>exact .cons hv' .nil
  |gone hi _ _=>simp[bf]at hi
 |_=>
  have:x.cells=[x]:=by cases x<;>first|rfl|(simp[iO,a0h]at hq;done)
  rw[this];exact .cons hv .nil
theorem EY:∀{vs} {xs:List TV},bZ X P A m h vs xs->xs.all iO=vs.all a0h
 | [],xs,hv=>by rw[hv.inv0];rfl
 |v::vs,xs,hv=>by obtain⟨x,r,rfl,h1,h2⟩:=hv.inv;simp only[acp,a7q h1,EY h2]
theorem afU{cs xs}(hv:bZ X P A m h cs xs){off n r}(hs:afN cs off n=some r):∃r',sub xs off n=some r'/\bZ X P A m h r r':=by
 unfold afN at hs;split at hs
 .rename_i hl;cases hs;exact⟨_,by unfold sub;rw[a1e (by rw[<-hv.1];exact hl)],(hv.drop off).take n⟩
 cases hs
theorem IX{cs new xs ajS}(hv:bZ X P A m h cs xs)(hn:bZ X P A m h new ajS){off r}(hs:PG cs off new=some r):∃r',xk xs off ajS=some r'/\bZ X P A m h r r':=by
 unfold PG at hs;split at hs
 .rename_i hl;cases hs;refine⟨_,by unfold xk;rw[a1e (by rw[<-hv.1,<-hn.1];exact hl)],?_⟩;rw[<-hn.1];exact((hv.take off).app hn).app (hv.drop _)
 cases hs
theorem Bo{cs xs}(hv:bZ X P A m h cs xs){t off v}(hs:IG P t cs off=some v):∃x,vG P t xs off=some x/\VR X P A m h v x:=by
 unfold IG at hs;unfold vG;split at hs
 .rename_i n ha hn;simp only[a0A]at hs;obtain⟨r,h1,rfl⟩:=hs;obtain⟨r',g1,g2⟩:=afU hv h1;exact⟨.agg r',by simp only[ha,hn,g1,a1n],.agg g2.1 g2.2⟩
 .rename_i n ha hn;split at hs
  .rename_i h1;obtain⟨x,g1,g2⟩:=hv.get hs;exact⟨x,by simp only[ha,hn,h1,a2p,g1],g2⟩
  cases hs
 cases hs
theorem IY{t z}(hz:TT P t=some z):∃z',LY P t=some z'/\bZ X P A m h z z':=by
 unfold TT at hz;split at hz
 .rename_i z' h1;exact⟨z',h1,VI hz⟩
 cases hz
def VPs(X:mV)(P:LI1)(A:Nat->Prop)(m:List MB)(h:List HB)(ps:List (Nat×PV X.Γ))(qs:List (Nat×TV)):Prop:=
 ps.length=qs.length/\∀(i:Nat) a b,ps[i]? = some a->qs[i]? = some b->a.1=b.1/\VR X P A m h a.2 b.2
theorem VPs.inv{a ps qs}(hv:VPs X P A m h (a::ps) qs):∃x r,qs=(a.1,x)::r/\VR X P A m h a.2 x/\VPs X P A m h ps r:=by
 cases qs with
 |nil=>have:=hv.1;simp at this
 |cons q r=>
  obtain⟨h1,h2⟩:=hv.2 0 a q rfl rfl;refine⟨q.2,r,by rw[h1],h2,by have:=hv.1;simpa using this,fun i x y hx hy=>hv.2 (i+1) x y (by simpa using hx) (by simpa using hy)⟩
theorem O5{pl}:∀{ps} {qs:List (Nat×TV)} {cs:List (PV X.Γ)} {xs:List TV},VPs X P A m h ps qs->bZ X P A m h cs xs->∀{r},PK pl cs ps=some r->∃r',um pl xs qs=some r'/\bZ X P A m h r r'
 | [],qs,cs,xs,hp,hv,r,hs=>by
  have:qs=[]:=by have:=hp.1;cases qs<;>simp_all
  subst this;simp only[PK,a09]at hs;subst hs;exact⟨xs,rfl,hv⟩
 |(i,v)::ps,qs,cs,xs,hp,hv,r,hs=>by
  obtain⟨x,rest,rfl,h1,h2⟩:=hp.inv;have hc:=IW h1;simp only[PK]at hs;split at hs
  .rename_i off size AQ;split at hs
   .rename_i qV;split at hs
    .rename_i cs' ho;obtain⟨xs',g1,g2⟩:=IX hv hc ho;obtain⟨r',g3,g4⟩:=O5 h2 g2 hs;have afx:x.cells.length=size:=by rw[<-hc.1];exact qV
     exact⟨r',by simp only[um,AQ,afx,a2p,g1,g3],g4⟩
    cases hs
   cases hs
  cases hs
theorem a7r{t ps qs}(hp:VPs X P A m h ps qs){v}(hs:a0j P t ps=some v):∃x,Ox P t qs=some x/\VR X P A m h v x:=by
 unfold a0j at hs;unfold Ox;split at hs
 .rename_i z fs hz hu;obtain⟨z',g1,g2⟩:=IY (A:=A) (m:=m) (h:=h) hz;split at hs
  .rename_i ha;simp only[a0A]at hs;obtain⟨r,h1,rfl⟩:=hs;obtain⟨r',g3,g4⟩:=O5 hp g2 h1;exact⟨.agg r',by simp only[g1,hu,ha,a2p,g3,a1n],.agg g4.1 g4.2⟩
  cases hs
 .rename_i z n e hz hu;obtain⟨z',g1,g2⟩:=IY (A:=A) (m:=m) (h:=h) hz;split at hs
  .rename_i k hk;simp only[a0A]at hs;obtain⟨r,h1,rfl⟩:=hs;obtain⟨r',g3,g4⟩:=O5 hp g2 h1;exact⟨.agg r',by simp only[g1,hu,hk,g3,a1n],.agg g4.1 g4.2⟩
  cases hs
 cases hs
theorem XV{z z'}(hz:bZ X P A m h z z'):∀n,bZ X P A m h (a0k z n) (times z' n)
 | 0=>.nil
 |n+1=>hz.app (XV hz n)
section
variable{env:List (Nat×PE X.Γ)}{env':List (Nat×EV)}
theorem a2k(he:kJ X P A m h env env'){t}:(Gs t env=none/\dR t env'=none)\/∃v x,Gs t env=some v/\dR t env'=some x/\JK X P A m h v x:=by
 induction he with
 |nil=>exact .inl ⟨rfl,rfl⟩
 |cons h1 _ ih=>
  rename_i k v x r r' _;simp only[Gs,dR];by_cases e:k=t
  .right;exact⟨v,x,by rw[a1e e],by rw[a1e e],h1⟩
  rw[a18 e,a18 e];exact ih
theorem pq(he:kJ X P A m h env env'){t v}(hl:Gs t env=some v):∃x,dR t env'=some x/\JK X P A m h v x:=by
 rcases a2k he (t:=t)with⟨h1,_⟩|⟨w,x,h1,h2,h3⟩
 .rw[hl]at h1;cases h1
 rw[hl]at h1;cases h1;exact⟨x,h2,h3⟩
theorem nR(he:kJ X P A m h env env'){o v}(hl:H7 env o=some v):∃x,JH env' o=some x/\JK X P A m h v x:=by
 cases o with
 |tmp t=>exact pq he hl
 |const c=>
  simp only[H7]at hl;split at hl
  .rename_i b hb;cases hl;exact⟨.val (.bool b),by simp only[JH,hb,a1n],VR.lit b⟩
  .rename_i x _ hx;simp only[a0A]at hl;obtain⟨w,h1,rfl⟩:=hl;exact⟨.val x,by simp only[JH,hx,a1n],xX h1⟩
  cases hl
 |func f=>
  simp only[H7,a09]at hl;subst hl;exact⟨.val (.fn f [] []),rfl,.fn rfl (by simp) rfl (by simp)⟩
 |global g=>cases hl
theorem gJ{v x}(hp:JK X P A m h (.val v) x):∃y,x=.val y/\VR X P A m h v y:=by
 cases x with
 |val y=>exact⟨y,rfl,hp⟩
 |_=>exact hp.elim
theorem EZ{k o x}(hp:JK X P A m h (.loc k o) x):x=.loc k o:=by
 cases x with
 |loc k' o'=>obtain⟨rfl,rfl⟩:=hp;rfl
 |_=>exact hp.elim
theorem KD{x}(hp:JK X P A m h .undef x):x=.undef:=by
 cases x with
 |undef=>rfl
 |_=>exact hp.elim
theorem O6{r j v x}(hp:JK X P A m h (.ent r j v) x):∃c y,x=.ent c j y/\VR X P A m h (.map r) (.map c)/\qE v=some y:=by
 cases x with
 |ent c j' y=>obtain⟨h1,rfl,h2⟩:=hp;exact⟨c,y,rfl,h1,h2⟩
 |_=>exact hp.elim
theorem O7{r j x}(hp:JK X P A m h (.FK r j) x):∃c,x=.FK c j/\VR X P A m h (.map r) (.map c):=by
 cases x with
 |FK c j'=>obtain⟨h1,rfl⟩:=hp;exact⟨c,rfl,h1⟩
 |_=>exact hp.elim
theorem XW(he:kJ X P A m h env env'){o v}(hl:a2c env o=some v):∃x,rJ env' o=some x/\VR X P A m h v x:=by
 unfold a2c at hl;split at hl
 .rename_i w hw;cases hl;obtain⟨x,h1,h2⟩:=nR he hw;obtain⟨y,rfl,h3⟩:=gJ h2;exact⟨y,by simp only[rJ,h1],h3⟩
 cases hl
theorem jK(he:kJ X P A m h env env'){o v}(hl:Az env o=some v):∃x,rJ env' o=some x/\VR X P A m h v x:=by
 unfold Az at hl;split at hl
 .rename_i w hw;cases hl;obtain⟨x,h1,h2⟩:=nR he hw;obtain⟨y,rfl,h3⟩:=gJ h2;exact⟨y,by simp only[rJ,h1],IV h3⟩
 cases hl
theorem VJ(he:kJ X P A m h env env'):∀{os} {vs},a0i env os=some vs->∃xs,UU env' os=some xs/\bZ X P A m h vs xs
 | [],vs,hl=>by simp only[a0i,a09]at hl;subst hl;exact⟨[],rfl,.nil⟩
 |o::os,vs,hl=>by
  simp only[a0i]at hl;split at hl
  .rename_i v ws h1 h2;cases hl;obtain⟨x,g1,g2⟩:=jK he h1;obtain⟨xs,g3,g4⟩:=VJ he h2;exact⟨x::xs,by simp only[UU,g1,g3],.cons g2 g4⟩
  cases hl
theorem a0t(he:kJ X P A m h env env'):∀{os} {vs:List (Nat×PV X.Γ)},a4i env os=some vs->∃xs,Xi env' os=some xs/\VPs X P A m h vs xs
 | [],vs,hl=>by simp only[a4i,a09]at hl;subst hl;exact⟨[],rfl,rfl,fun i a b ha=>by simp at ha⟩
 |(i,o)::os,vs,hl=>by
  simp only[a4i]at hl;split at hl
  .rename_i v ws h1 h2;cases hl;obtain⟨x,g1,g2⟩:=jK he h1;obtain⟨xs,g3,g4⟩:=a0t he h2;refine⟨(i,x)::xs,by simp only[Xi,g1,g3],by simp[g4.1],fun j a b ha hb=>?_⟩;cases j with
   |zero=>simp only[a3E,a09]at ha hb;subst ha;subst hb;exact⟨rfl,g2⟩
   |succ j=>exact g4.2 j a b (by simpa using ha) (by simpa using hb)
  cases hl
def OR(X:mV)(P:LI1)(A:Nat->Prop)(m:List MB)(h:List HB):Option (PV X.Γ)->Option TV->Prop
 |none,none=>True
 |some v,some x=>VR X P A m h v x
 |_,_=>False
theorem IZ(he:kJ X P A m h env env'){o v}(hl:PD env o=some v):∃x,Xk env' o=some x/\OR X P A m h v x:=by
 cases o with
 |none=>simp only[PD,a09]at hl;subst hl;exact⟨none,rfl,trivial⟩
 |some o=>
  simp only[PD]at hl;split at hl
  .rename_i w hw;cases hl;obtain⟨x,g1,g2⟩:=jK he hw;exact⟨some x,by simp only[Xk,g1],g2⟩
  cases hl
theorem VK(he:kJ X P A m h env env'):∀live,kJ X P A m h (jF live env) (pick live env')
 | []=>.nil
 |t::r=>by
  simp only[jF,pick];rcases a2k he (t:=t)with⟨h1,h2⟩|⟨v,x,h1,h2,h3⟩
  .rw[h1,h2];exact VK he r
  rw[h1,h2];exact .cons h3 (VK he r)
theorem ab1(he:kJ X P A m h env env'){t b}(hb:dR t env'=some (.val (.bool b))):kJ X P A m h (Pv.CX t b env) env':=by
 induction he with
 |nil=>exact .nil
 |cons h1 h2 ih=>
  rename_i k v x r r';simp only[dR]at hb;simp only[Pv.CX];by_cases e:k=t
  .rw[a1e e]at hb ⊢;cases hb;exact .cons (VR.lit b) h2
  rw[a18 e]at hb ⊢;exact .cons h1 (ih hb)
theorem afV(he:kJ X P A m h env env'):VG X env=Dx env':=by
 induction he with
 |nil=>rfl
 |cons h1 _ ih=>
  rename_i k v x r r' _;cases v with
  |val v=>obtain⟨y,rfl,_⟩:=gJ h1;simpa[VG,Dx]using ih
  |loc a b=>rw[EZ h1];simp only[VG,Dx,ih]
  |undef=>rw[KD h1];simpa[VG,Dx]using ih
  |ent=>obtain⟨_,_,rfl,_⟩:=O6 h1;simpa[VG,Dx]using ih
  |FK=>obtain⟨_,rfl,_⟩:=O7 h1;simpa[VG,Dx]using ih
end
end
structure bT(X:mV)(P:LI1):Prop where
 dec:∀{t:Nat} {vs:List (PV X.Γ)} {a:X.Γ t},X.dec t vs=some a->∀{A:Nat->Prop} {m:List MB} {h:List HB} {xs:List TV},bZ X P A m h vs xs->bZ X P A m h (X.enc t a) xs
 jH:∀(t:Nat) (a:X.Γ t),jH.IJ (X.enc t a)=true
section
variable{X:mV}{P:LI1}{A B:Nat->Prop}{m m':List MB}{h h':List HB}{H H':List (PB X.Γ)}
theorem VR.mono(hAB:∀b,A b->B b){v x}(hv:VR X P A m h v x):VR X P B m h v x:=by
 induction hv with
 |bool=>exact .bool _
 |lit=>exact .lit _
 |int=>exact .int _ _
 |str=>exact .str _
 |nil=>exact .nil _
 |ptr e=>exact .ptr e
 |aO e=>exact .aO e
 |own e o=>exact .own e o
 |win e q q' q2=>exact .win e q q' q2
 |CY e=>exact .CY e
 |I9 e=>exact .I9 e
 |KA e=>exact .KA e
 |map e=>exact .map e
 |iter e=>exact .iter e
 |fn h1 _ h3 _ i2 i4=>exact .fn h1 i2 h3 i4
 |lC e=>exact .lC e
 |agg h1 _ i2=>exact .agg h1 i2
 |dM h1 _ i2=>exact .dM h1 i2
 |ql=>exact .ql
 |dD a c c2 s z o k f e _ ih=>exact .dD (hAB _ a) c c2 s z o k f e ih
 |el a c l o e q _ ih=>exact .el (hAB _ a) c l o e q ih
 |row e j q=>exact .row e j q
 |gone i e o=>exact .gone i e o
theorem bZ.mono(hAB:∀b,A b->B b){v x}(hv:bZ X P A m h v x):bZ X P B m h v x:=⟨hv.1,fun i a b ha hb=>(hv.2 i a b ha hb).mono hAB⟩
theorem fQ:∀{vs} {i:Nat} {v:PV X.Γ},jH.IJ vs=true->vs[i]? = some v->jH v=true
 | [],_,_,_,h=>by simp at h
 |a::vs,i,v,hc,h=>by
  simp only[jH.IJ,a2n]at hc;cases i with
  |zero=>simp only[a3E,a09]at h;subst h;exact hc.1
  |succ i=>exact fQ hc.2 (by simpa using h)
theorem VR.jH(hX:bT X P){v x}(hv:VR X P A m h v x)(hc:Pv.jH v=true):VR X P A m' h v x:=by
 induction hv with
 |bool=>exact .bool _
 |lit=>exact .lit _
 |int=>exact .int _ _
 |str=>exact .str _
 |nil=>exact .nil _
 |fn h1 _ h3 _ i2 i4=>
  simp only[Pv.jH,a2n]at hc;exact .fn h1 (fun i x y hx hy=>i2 i x y hx hy (fQ hc.1 hx)) h3 (fun i x y hx hy=>i4 i x y hx hy (fQ hc.2 hx))
 |agg h1 _ i2=>
  simp only[Pv.jH]at hc;exact .agg h1 (fun i x y hx hy=>i2 i x y hx hy (fQ hc hx))
 |dM h1 _ i2=>
  simp only[Pv.jH]at hc;exact .dM h1 (fun i x y hx hy=>i2 i x y hx hy (fQ hc hx))
 |ql=>exact .ql
 |dD a c c2 s z o k f e _ ih=>exact .dD a c c2 s z o k f e fun j y i d v h1 h2 h3=>ih j y i d v h1 h2 h3 (fQ (hX.jH _ _) h2)
 |el a c l o e q _ ih=>exact .el a c l o e q fun i d v h1 h2=>ih i d v h1 h2 (fQ (hX.jH _ _) h1)
 |gone i e o=>rename_i v _ _;cases v<;>simp[bf]at i<;>simp[Pv.jH]at hc
 |_=>simp[Pv.jH]at hc
theorem eG.jH(hX:bT X P){t l cs off sz}(hv:eG X P A m h t l cs off sz):eG X P A m' h t l cs off sz:=
 ⟨hv.1,hv.2.1,fun j a i c v h1 h2 h3=>(hv.2.2 j a i c v h1 h2 h3).jH hX (fQ (hX.jH _ _) h2)⟩
theorem eG.mono(hAB:∀b,A b->B b){t l cs off sz}(hv:eG X P A m h t l cs off sz):eG X P B m h t l cs off sz:=
 ⟨hv.1,hv.2.1,fun j a i c v h1 h2 h3=>(hv.2.2 j a i c v h1 h2 h3).mono hAB⟩
theorem VR.move(hX:bT X P)(hA:∀q cs,A q->aU h q=some cs->B q/\h'[q]? = h[q]?){v x}(hv:VR X P A m h v x)(hc:Pv.jH v=true):VR X P B m' h' v x:=by
 induction hv with
 |bool=>exact .bool _
 |lit=>exact .lit _
 |int=>exact .int _ _
 |str=>exact .str _
 |nil=>exact .nil _
 |fn h1 _ h3 _ i2 i4=>
  simp only[Pv.jH,a2n]at hc;exact .fn h1 (fun i x y hx hy=>i2 i x y hx hy (fQ hc.1 hx)) h3 (fun i x y hx hy=>i4 i x y hx hy (fQ hc.2 hx))
 |agg h1 _ i2=>
  simp only[Pv.jH]at hc;exact .agg h1 (fun i x y hx hy=>i2 i x y hx hy (fQ hc hx))
 |dM h1 _ i2=>
  simp only[Pv.jH]at hc;exact .dM h1 (fun i x y hx hy=>i2 i x y hx hy (fQ hc hx))
 |ql=>exact .ql
 |dD a c c2 s z o k f e _ ih=>obtain⟨a',c'⟩:=hA _ _ a c;exact .dD a' ((fE c').trans c) (fun hl=>(yU c').trans (c2 hl)) s z o k f e fun j y i d v h1 h2 h3=>ih j y i d v h1 h2 h3 (fQ (hX.jH _ _) h2)
 |el a c l o e q _ ih=>obtain⟨a',c'⟩:=hA _ _ a (Bj c);exact .el a' ((yU c').trans c) l o e q fun i d v h1 h2=>ih i d v h1 h2 (fQ (hX.jH _ _) h1)
 |gone i e o=>rename_i v _ _;cases v<;>simp[bf]at i<;>simp[Pv.jH]at hc
 |_=>simp[Pv.jH]at hc
theorem eG.move(hX:bT X P)(hA:∀q cs,A q->aU h q=some cs->B q/\h'[q]? = h[q]?){t l cs off sz}(hv:eG X P A m h t l cs off sz):eG X P B m' h' t l cs off sz:=
 ⟨hv.1,hv.2.1,fun j a i c v h1 h2 h3=>(hv.2.2 j a i c v h1 h2 h3).move hX hA (fQ (hX.jH _ _) h2)⟩
def FA(A:Nat->Prop)(m:List MB)(is:List Nat):Nat->Prop:=fun b=>AA A m b\/∃i mb,i∈is/\m[i]? = some mb/\mb.own=some b
theorem FA.mono{is js}(hs:∀i,i∈is->i∈js){b}(hb:FA A m is b):FA A m js b:=by
 rcases hb with h|⟨i,mb,h1,h2,h3⟩
 .exact .inl h
 exact .inr ⟨i,mb,hs i h1,h2,h3⟩
theorem PW:∀(is) {m} {i} {mb},(bW is m)[i]? = some mb->mb.own≠none->i∉is/\m[i]? = some mb
 | [],_,_,_,h,_=>⟨by simp,h⟩
 |j::is,m,i,mb,h,hn=>by
  obtain⟨h1,h2⟩:=PW is (m:=m.set j .gone) h hn;by_cases e:j=i
  .subst e;rw[a5G]at h2;cases hx:m[j]? with
   |none=>rw[hx]at h2;cases h2
   |some y=>rw[hx]at h2;cases h2;exact absurd rfl hn
  rw[a1y e]at h2;exact⟨by simp[h1,afJ e],h2⟩
theorem Bq{is m b}(hb:b∈aZ (bW is m)):∃i mb,i∉is/\m[i]? = some mb/\mb.own=some b:=by obtain⟨mb,hm,ho⟩:=a6u.1 hb;obtain⟨i,hi⟩:=a9f hm;obtain⟨h1,h2⟩:=PW is hi (by rw[ho];simp);exact⟨i,mb,h1,h2,ho⟩
theorem FA.gone(hr:HR X P A m H h){is b}(hb:FA A m is b):AA A (bW is m) b:=by
 rcases hb with hb|⟨i,mb,h1,h2,h3⟩
 .refine⟨hb.1,fun hm=>?_⟩;obtain⟨i,mb,_,h2,h3⟩:=Bq hm;exact hb.2 (aY h2 h3)
 refine⟨hr.DX b (aY h2 h3),fun hm=>?_⟩;obtain⟨j,Ns,g1,g2,g3⟩:=Bq hm;have:=jc hr.nodup h2 g2 h3 g3;exact g1 (this▸h1)
theorem KE(hX:bT X P)(hr:HR X P A m H h){k ex t i l x}(hl:LR X P (AA A m) m h k ex t l x)(hi:m[i]? = some (.dD x)){is}(hs:i∈is):VR X P (FA A m is) m' h (.dD t l false) x:=by
 cases hl with
 |nil=>exact .ql
 |emp h0 h1 h2 h3 h4=>exact .dD (.inl h0) h1 (fun e=>absurd rfl e) h3 h4 (by simpa using h2) (a1l _) (by simp) (fun j a hj=>by simp at hj) (fun j a i c v hj=>by simp at hj)
 |some h1 h2 h3 h4 h5 h6 h7 h8 h9=>
  refine .dD (cs:=_) (.inr ⟨i,_,hs,hi,?_⟩) (by unfold aU;rw[h4]) (fun _=>xQ h4 (by omega)) h2 h3 (by omega) (a1l _) (by simp) h9.1 ?_
  .simp only[MB.own];rw[a18 (by simpa using h1)]
  intro j a q c v e1 e2 e3;exact((h9.2.2 j a q c v e1 e2 e3).mono fun b hb=>.inl hb).jH hX (fQ (hX.jH _ _) e2)
theorem VR.part{F t l fu b off len cap sz ex}(hv:VR X P F m h (.dD t l fu) (.aO b off len cap sz ex)){o n cap' ex' fu'}(hn:o+n<=len)(hc:n<=cap')(hw:n=0\/o+cap'=cap)(hfu:fu'=true->ex'=true/\cap'=n) :VR X P F m h (.dD t ((l.drop o).take n) fu') (.aO b (off+o*sz) n cap' sz ex'):=by
 cases hv with
 |dD a c c2 s z ol k f e r=>
  have hlen:((l.drop o).take n).length=n:=by rw[a4t,a4g];omega
  have:=@VR.dD X P F m h t ((l.drop o).take n) fu' b (off+o*sz) cap' sz ex' _ a c (fun iI=>by
   have h1:n≠0:=fun e=>iI (by subst e;simp);have h2:=hw.resolve_left h1;have h3:off+o*sz+cap'*sz=off+cap*sz:=by rw[<-h2,a3W];omega
   rw[h3];exact c2 (fun e=>by subst e;simp at hlen;omega)) s z (by
   rw[hlen];have:(o+n)*sz<=l.length*sz:=a3N sz hn;rw[a3W]at this;omega) (by rw[hlen];exact hc) (by rw[hlen];exact hfu) (fun j y hy=>by
    rw[a5H]at hy;split at hy
    .rw[a5C]at hy;exact e _ _ hy
    .cases hy) (fun j y i d v hy h2 h3=>by
    rw[a5H]at hy;split at hy
    .rw[a5C]at hy;refine r _ _ i d v hy h2 ?_;rw[<-h3];congr 1;rw[a3W];omega
    .cases hy)
  rwa [hlen]at this
 |gone hi _ _=>simp[bf]at hi
mutual
theorem VL(hX:bT X P)(hr:HR X P A m H h):∀{v w:PV X.Γ} {x:TV},VR X P (AA A m) m h v x->view H v=some w->∀{is:List Nat},(∀i,i∈lN v->i∈is)->VR X P (FA A m is) m' h w x
 |.own i,w,x,hv,hw,is,hs=>by
  simp only[view]at hw;split at hw
  .rename_i k ex t l hH;cases hw;obtain⟨mb,h1,h2⟩:=hr.at_ i _ hH;cases mb with
   |dD y=>
    cases hv with
    |own e o=>rw[h1]at e;cases e;exact KE hX hr h2 h1 (hs i (by simp[lN]))
    |gone hi e o=>simp only[bf,a09]at hi;subst hi;rw[h1]at e;cases e
   |_=>exact h2.elim
  cases hw
 |.win i o n,w,x,hv,hw,is,hs=>by
  simp only[view]at hw;split at hw
  .rename_i k ex t l hH;cases hw;obtain⟨mb,h1,h2⟩:=hr.at_ i _ hH;cases mb with
   |dD y=>
    have h2':LR X P (AA A m) m h k ex t l y:=h2;have hfz:VR X P (FA A m is) m' h (.dD t l false) y:=KE hX hr h2' h1 (hs i (by simp[lN]));cases hv with
    |win e q q' q2=>
     rw[h1]at e;cases e;exact hfz.part q q' q2 (by simp)
    |CY e=>
     rw[h1]at e;cases e;cases h2' with
     |nil=>simp only[List.drop_nil,List.take_nil];exact .ql
    |gone hi e o=>simp only[bf,a09]at hi;subst hi;rw[h1]at e;cases e
   |_=>exact h2.elim
  cases hw
 |.fn f a c,w,x,hv,hw,is,hs=>by
  simp only[view]at hw;split at hw
  .rename_i a' c' h1 h2;cases hw;cases hv with
   |fn e1 e2 e3 e4=>
    have g1:=mg hX hr ⟨e1,e2⟩ h1 (is:=is) fun i hi=>hs i (by simp[lN,hi]);have g2:=mg hX hr ⟨e3,e4⟩ h2 (is:=is) fun i hi=>hs i (by simp[lN,hi]);exact .fn g1.1 g1.2 g2.1 g2.2
   |gone hi _ _=>simp[bf]at hi
  cases hw
 |.agg cs,w,x,hv,hw,is,hs=>by
  simp only[view,a0A]at hw;obtain⟨cs',h1,rfl⟩:=hw;cases hv with
  |agg e1 e2=>have g1:=mg hX hr ⟨e1,e2⟩ h1 (is:=is) fun i hi=>hs i (by simp[lN,hi]);exact .agg g1.1 g1.2
  |gone hi _ _=>simp[bf]at hi
 |.dM cs,w,x,hv,hw,is,hs=>by
  simp only[view,a0A]at hw;obtain⟨cs',h1,rfl⟩:=hw;cases hv with
  |dM e1 e2=>have g1:=mg hX hr ⟨e1,e2⟩ h1 (is:=is) fun i hi=>hs i (by simp[lN,hi]);exact .dM g1.1 g1.2
  |gone hi _ _=>simp[bf]at hi
 |.bool b,w,x,hv,hw,is,hs=>by simp only[view,a09]at hw;subst hw;exact(hv.mono fun b hb=>.inl hb).jH hX rfl
 |.lit b,w,x,hv,hw,is,hs=>by
  simp only[view,a09]at hw;subst hw;cases hv with
  |lit=>exact .bool _
  |gone hi _ _=>simp[bf]at hi
 |.int k n,w,x,hv,hw,is,hs=>by simp only[view,a09]at hw;subst hw;exact(hv.mono fun b hb=>.inl hb).jH hX rfl
 |.str b,w,x,hv,hw,is,hs=>by simp only[view,a09]at hw;subst hw;exact(hv.mono fun b hb=>.inl hb).jH hX rfl
 |.nil b,w,x,hv,hw,is,hs=>by simp only[view,a09]at hw;subst hw;exact(hv.mono fun b hb=>.inl hb).jH hX rfl
 |.dD t l f,w,x,hv,hw,is,hs=>by simp only[view,a09]at hw;subst hw;exact(hv.mono fun b hb=>.inl hb).jH hX rfl
 |.ptr _ _ _,w,x,hv,hw,is,hs=>by simp[view]at hw
 |.aO _ _ _ _ _ _,w,x,hv,hw,is,hs=>by simp[view]at hw
 |.map _,w,x,hv,hw,is,hs=>by simp[view]at hw
 |.lC _,w,x,hv,hw,is,hs=>by simp[view]at hw
 |.el _ _ _,w,x,hv,hw,is,hs=>by simp[view]at hw
 |.row _ _ _,w,x,hv,hw,is,hs=>by simp[view]at hw
 |.I9 _,w,x,hv,hw,is,hs=>by simp[view]at hw
theorem mg(hX:bT X P)(hr:HR X P A m H h):∀{vs ws:List (PV X.Γ)} {xs:List TV},bZ X P (AA A m) m h vs xs->views H vs=some ws->∀{is:List Nat},(∀i,i∈lN.kX vs->i∈is)->bZ X P (FA A m is) m' h ws xs
 | [],ws,xs,hv,hw,is,hs=>by simp only[view.views,a09]at hw;subst hw;rw[hv.inv0];exact .nil
 |v::vs,ws,xs,hv,hw,is,hs=>by
  obtain⟨x,r,rfl,h1,h2⟩:=hv.inv;simp only[view.views]at hw;split at hw
  .rename_i w Xl g1 g2;cases hw;exact .cons (VL hX hr h1 g1 fun i hi=>hs i (by simp[lN.kX,hi])) (mg hX hr h2 g2 fun i hi=>hs i (by simp[lN.kX,hi]))
  cases hw
end
end
open Go Tw
section
variable{X:mV}{P:LI1}{A B F:Nat->Prop}{m m':List MB}{h h':List HB}{H H':List (PB X.Γ)}
theorem a2l(hX:bT X P)(hr:HR X P A m H h){t cs xs}(hv:bZ X P (AA A m) m h cs xs){a is}(hd:aaU X H t cs=some (a,is)):bZ X P (FA A m is) m' h (X.enc t a) xs:=by
 unfold aaU at hd;split at hd
 .rename_i vs h1;split at hd
  .rename_i b h2;simp only[a09,a1k]at hd;obtain⟨rfl,rfl⟩:=hd;exact hX.dec h2 (mg hX hr hv h1 fun i hi=>hi)
  cases hd
 cases hd
theorem Bv(hX:bT X P)(hr:HR X P A m H h){t sz}:∀{n} {cs} {xs:List TV},bZ X P (AA A m) m h cs xs->∀{l} {is:List Nat},yR X H t sz n cs=some (l,is)->l.length=n/\eG X P (FA A m is) m' h t l xs 0 sz
 | 0,cs,xs,hv,l,is,hd=>by simp only[yR,a09,a1k]at hd;obtain⟨rfl,rfl⟩:=hd;exact⟨rfl,fun j a hj=>by simp at hj,by simp,fun j a i c v hj=>by simp at hj⟩
 |n+1,cs,xs,hv,l,is,hd=>by
  simp only[yR]at hd;split at hd
  rotate_left
  .cases hd
  rename_i qV;split at hd
  rotate_left
  .cases hd
  rename_i a js l' ks h1 h2;simp only[a09,a1k]at hd;obtain⟨rfl,rfl⟩:=hd;have g1:=(a2l (m':=m') hX hr (hv.take sz) h1).mono fun b hb=>FA.mono (js:=js++ks) (fun i hi=>a6l _ hi) hb;obtain⟨e2,g2⟩:=Bv hX hr (hv.drop sz) h2;have g2:=g2.mono fun b hb=>FA.mono (js:=js++ks) (fun i hi=>abS _ hi) hb;have hl:(X.enc t a).length=sz:=by rw[g1.1,a4t,<-hv.1];omega
  refine⟨by simp[e2],fun j b hj=>?_,?_,fun j b i c v hj hi hx=>?_⟩
  .cases j with
   |zero=>simp only[a3E,a09]at hj;subst hj;exact hl
   |succ j=>exact g2.1 j b (by simpa using hj)
  .have:=g2.2.1;rw[a4g]at this;have h3:=hv.1;simp only[a4C,a3W];omega
  cases j with
  |zero=>
   simp only[a3E,a09]at hj;subst hj;have aQ:i<sz:=by rw[<-hl];exact(a0x.1 hi).1
   refine g1.2 i c v hi ?_;rw[a5H,a1e aQ,<-hx];simp
  |succ j=>
   refine g2.2.2 j b i c v (by simpa using hj) hi ?_;rw[a5C,<-hx];congr 1;rw[a3W];omega
def SlR(X:mV)(P:LI1)(F:Nat->Prop)(m:List MB)(h:List HB)(t sz:Nat)(l:List (X.Γ t))(x:TV):Prop:=
 (x=.nil .aO/\l=[])\/∃b off cap ex cs,x=.aO b off l.length cap sz ex/\l.length<=cap/\aU h b=some cs/\(l≠[]->mZ h b (off+cap*sz)=some cs)/\eG X P F m h t l cs off sz
theorem a2m{t sz l fu x}(hv:VR X P F m h (.dD t l fu) x)(hz:dI P t=some sz):SlR X P F m h t sz l x:=by
 cases hv with
 |ql=>exact .inl ⟨rfl,rfl⟩
 |dD a c c2 s z o k f e r=>
  rw[hz]at s;cases s;exact .inr ⟨_,_,_,_,_,rfl,k,c,c2,e,o,r⟩
 |gone hi _ _=>simp[bf]at hi
theorem a7s{k ex t sz l x}(hv:LR X P F m h k ex t l x)(hz:dI P t=some sz):SlR X P F m h t sz l x:=by
 cases hv with
 |nil=>exact .inl ⟨rfl,rfl⟩
 |emp h0 h1 h2 h3 h4=>
  rw[hz]at h3;cases h3;exact .inr ⟨_,_,_,_,_,rfl,a1l _,h1,fun e=>absurd rfl e,fun j a hj=>by simp at hj,by simpa using h2,fun j a i c v hj=>by simp at hj⟩
 |some h1 h2 h3 h4 h5 h6 h7 h8 h9=>
  rw[hz]at h2;cases h2;exact .inr ⟨_,_,_,_,_,rfl,a1l _,by unfold aU;rw[h4],fun _=>xQ h4 (by omega),h9⟩
theorem eG.part{t sz l cs off o n}(hv:eG X P F m h t l cs off sz)(hn:o+n<=l.length):eG X P F m h t ((l.drop o).take n) cs (off+o*sz) sz:=by
 have hlen:((l.drop o).take n).length=n:=by rw[a4t,a4g];omega
 refine⟨fun j y hy=>?_,?_,fun j y i c v hy h2 h3=>?_⟩
 .rw[a5H]at hy;split at hy
  .rw[a5C]at hy;exact hv.1 _ _ hy
  cases hy
 .have:=hv.2.1;have h2:(o+n)*sz<=l.length*sz:=a3N sz hn;rw[hlen];rw[a3W]at h2;omega
 rw[a5H]at hy;split at hy
 .rw[a5C]at hy;refine hv.2.2 _ y i c v hy h2 ?_;rw[<-h3];congr 1;rw[a3W];omega
 cases hy
theorem eG.take{t sz l cs off}(hv:eG X P F m h t l cs off sz):eG X P F m h t l ((cs.drop off).take (l.length*sz)) 0 sz:=by
 refine⟨hv.1,?_,fun j a i c v h1 h2 h3=>?_⟩
 .have:=hv.2.1;rw[a4t,a4g];omega
 rw[a5H]at h3;split at h3
 .rw[a5C]at h3;exact hv.2.2 j a i c v h1 h2 (by rw[<-h3];congr 1;omega)
 cases h3
theorem SlR.src{t sz l x}(hv:SlR X P F m h t sz l x):∃new,eF sz h x=some (l.length,new)/\new.length=l.length*sz/\eG X P F m h t l new 0 sz:=by
 rcases hv with⟨rfl,rfl⟩|⟨b,off,cap,ex,cs,rfl,hk,hc,MG,hw⟩
 .exact⟨[],rfl,by simp,fun j a hj=>by simp at hj,by simp,fun j a i c v hj=>by simp at hj⟩
 refine⟨(cs.drop off).take (l.length*sz),?_,?_,hw.take⟩
 .have:=hw.2.1;simp only[eF,a2p,sub];by_cases h0:l.length=0
  .rw[a1e h0,h0];simp
  rw[a18 h0,MG (fun e=>h0 (by rw[e];rfl))];simp only;rw[a1e this];rfl
 have:=hw.2.1;rw[a4t,a4g];omega
theorem eG.app{t sz l r a b}(h1:eG X P F m h t l a 0 sz)(h2:eG X P F m h t r b 0 sz)(ha:a.length=l.length*sz):eG X P F m h t (l++r) (a++b) 0 sz:=by
 refine⟨fun j y hy=>?_,?_,fun j y i c v hy hi hx=>?_⟩
 .rcases a4W j l.length with hl|hl
  .rw[a0U hl]at hy;exact h1.1 j y hy
  rw[a1r hl]at hy;exact h2.1 _ y hy
 .have:=h2.2.1;simp only[a1B,a3W];omega
 rcases a4W j l.length with hl|hl
 .rw[a0U hl]at hy;have aQ:i<sz:=by rw[<-h1.1 j y hy];exact(a0x.1 hi).1
  have:(j+1)*sz<=l.length*sz:=a3N sz hl;rw[a3W]at this;rw[a0U (by omega)]at hx;exact h1.2.2 j y i c v hy hi hx
 rw[a1r hl]at hy;have:l.length*sz<=j*sz:=a3N sz hl;rw[a1r (by omega)]at hx;refine h2.2.2 _ y i c v hy hi ?_;rw[<-hx];congr 1;rw[ha,Nat.sub_mul];omega
theorem sF{Γ:Nat->Type}{t t'}{l:List (Γ t')}{r}(h:Cm t t' l=some r):∃e:t'=t,r=e▸l:=by
 unfold Cm at h;split at h
 .rename_i e;cases h;exact⟨e,rfl⟩
 cases h
theorem VN(hX:bT X P)(hr:HR X P A m H h){e sz:Nat}{x tx}(hv:VR X P (AA A m) m h x tx)(hz:dI P e=some sz){rows is}(hs:Bg X H e sz x=some (rows,is)) :∃new,eF sz h tx=some (rows.length,new)/\new.length=rows.length*sz/\eG X P (FA A m is) m' h e rows new 0 sz:=by
 have up:∀{l:List (X.Γ e)} {y:TV},SlR X P (AA A m) m h e sz l y->∃new,eF sz h y=some (l.length,new)/\new.length=l.length*sz/\eG X P (FA A m []) m' h e l new 0 sz:=by intro l y hy;obtain⟨new,h1,h2,h3⟩:=hy.src;exact⟨new,h1,h2,(h3.mono fun b hb=>.inl hb).jH hX⟩
 cases x with
 |nil k=>
  cases k<;>simp only[Bg]at hs<;>try (cases hs;done)
  simp only[a09,a1k]at hs;obtain⟨rfl,rfl⟩:=hs;cases hv with
  |nil=>exact up (.inl ⟨rfl,rfl⟩)
  |gone hi _ _=>simp[bf]at hi
 |dD t l fu=>
  simp only[Bg,a0A,a1k]at hs;obtain⟨r,h1,rfl,rfl⟩:=hs;obtain⟨rfl,rfl⟩:=sF h1;exact up (a2m hv hz)
 |own i=>
  simp only[Bg]at hs;split at hs
  .rename_i k ex t l hH;simp only[a0A,a1k]at hs;obtain⟨r,h1,rfl,rfl⟩:=hs;obtain⟨rfl,rfl⟩:=sF h1;obtain⟨mb,g1,g2⟩:=hr.at_ i _ hH;cases mb with
   |dD y=>
    cases hv with
    |own e' o=>rw[g1]at e';cases e';exact up (a7s g2 hz)
    |gone hi e' o=>simp only[bf,a09]at hi;subst hi;rw[g1]at e';cases e'
   |_=>exact g2.elim
  .cases hs
 |win i o n=>
  simp only[Bg]at hs;split at hs
  .rename_i k ex t l hH;simp only[a0A,a1k]at hs;obtain⟨r,h1,rfl,rfl⟩:=hs;obtain⟨rfl,rfl⟩:=sF h1;obtain⟨mb,g1,g2⟩:=hr.at_ i _ hH;cases mb with
   |dD y=>
    have hsl:=a7s g2 hz;cases hv with
    |win e' q q' q2=>
     rw[g1]at e';cases e';rcases hsl with⟨h,_⟩|⟨b,off,cap,ex',cs,he,hk,hc,MG,hw⟩
     .cases h
     .cases he;have hlen:n=((r.drop o).take n).length:=by rw[a4t,a4g];omega
      refine up (.inr ⟨_,_,_,_,cs,congrArg (fun k=>TV.aO _ _ k _ _ _) hlen,hlen▸q',hc,fun iI=>?_,hw.part q⟩);have h1:n≠0:=fun e=>iI (by subst e;simp);have h2:=q2.resolve_left h1;rw[<-MG (fun e=>iI (by rw[e];simp)),<-h2];congr 1;rw[a3W];omega
    |CY e'=>
     rw[g1]at e';cases e';refine up (.inl ⟨rfl,by simp⟩)
    |gone hi e' o=>simp only[bf,a09]at hi;subst hi;rw[g1]at e';cases e'
   |_=>exact g2.elim
  .cases hs
 |aO b off len cap sz' ex=>
  simp only[Bg]at hs;split at hs
  .rename_i cs hH;split at hs
   .rename_i qV;obtain⟨qV,afW⟩:=qV;subst qV;obtain⟨mb,g1,g2⟩:=hr.at_ b _ hH;cases mb with
    |gQ c=>
     obtain⟨cs',g3,g4⟩:=g2;cases hv with
     |aO e'=>
      rw[g1]at e';cases e';obtain⟨hl,hw⟩:=Bv (m':=m') hX hr (g4.drop off) hs;subst hl;rw[g4.1]at afW;refine⟨(cs'.drop off).take (rows.length*sz'),?_,by rw[a4t,a4g];omega,by simpa using hw.take⟩;simp only[eF,a2p,xR g3 (by simp),sub];split
      .rename_i h0;rw[h0,ado,List.take_zero]
      .simp only[afW,a2p,a1n]
     |gone hi e' o=>simp only[bf,a09]at hi;subst hi;rw[g1]at e';cases e'
    |_=>exact g2.elim
   .cases hs
  .cases hs
 |_=>simp[Bg]at hs
end
open Go Tw
def Ho(m:List MB)(i b:Nat):Prop:=∃mb,m[i]? = some mb/\mb.own=some b
structure IR(m:List MB)(h:List HB)(p:PI)(t:yH):Prop where
 all:t.all=true->p.i.all=true
 tl:∀k,.l k∈t.ts->.l k∈p.i.ts
 wl:∀k,.l k∈t.ws->.l k∈p.i.ws
 wh:∀b,.h b∈t.ws->(∃i,.h i∈p.i.ws/\Ho m i b)\/(p.wall=true/\b∈aZ m)
 th:∀b,.h b∈t.ts->((∃i,.h i∈p.i.ts/\Ho m i b)\/b∉aZ m)/\b<h.length
 hp:p.hp=false->t.all=false/\(∀b,.h b∉t.ts)/\∀b,.h b∉t.ws
theorem IR.none{m h p}:IR m h p dn:=⟨fun h=>(by cases h),fun _ h=>(by cases h),fun _ h=>(by cases h),fun _ h=>(by cases h),fun _ h=>(by cases h),fun _=>⟨rfl,fun _ h=>(by cases h),fun _ h=>(by cases h)⟩⟩
section
variable{X:mV}{P:LI1}{A F:Nat->Prop}{m m':List MB}{h h':List HB}{H H':List (PB X.Γ)}
structure wB(X:mV)(P:LI1)(A:Nat->Prop)(m:List MB)(ps:bV X.Γ)(ts:St):Prop where
 heap:HR X P A m ps.heap ts.heap
 llen:ps.loc.length=ts.loc.length
 loc:∀(k:Nat) cs,ps.loc[k]? = some cs->∃cs',ts.loc[k]? = some cs'/\bZ X P (AA A m) m ts.heap cs cs'
 env:kJ X P (AA A m) m ts.heap ps.env ts.env
theorem wB.step{ps ts}(hR:wB X P A m ps ts){H1 h1}(hr:HR X P A m' H1 h1)(hF:Fr m ts.heap m' h1)(hU:Up m m'):wB X P A m' { ps with heap:=H1 } { ts with heap:=h1 }:=
 ⟨hr,hR.llen,fun k cs hk=>let ⟨cs',g1,g2⟩:=hR.loc k cs hk;⟨cs',g1,g2.step hF hU⟩,hR.env.step hF hU⟩
def OpR(X:mV)(P:LI1)(A:Nat->Prop)(m:List MB)(call:dO)(site:Nat->Bool)(ts:St)(o:Oper)(pe:PE X.Γ)(ps1:bV X.Γ)(pi:PI):Prop:=
 ∃ev iV ti m1,pU P call site ts o=some (ev,iV,ti)/\iV.env=ts.env/\iV.ws=ts.ws/\wB X P A m1 ps1 iV/\JK X P (AA A m1) m1 iV.heap pe ev/\Fr m ts.heap m1 iV.heap/\Up m m1/\IR m ts.heap pi ti/\∀b,.h b∈ti.ws->b∈aZ m
theorem vT{call site ps ts o pe ev pi}(hR:wB X P A m ps ts)(h:pU P call site ts o=some (ev,ts,dn))(hp:JK X P (AA A m) m ts.heap pe ev):OpR X P A m call site ts o pe ps pi:=
 ⟨ev,ts,dn,m,h,rfl,rfl,hR,hp,.refl,.refl,.none,fun b hb=>by cases hb⟩
theorem wB.CX{ps ts}(hR:wB X P A m ps ts){x b}(hb:rJ ts.env x=some (.bool b)):wB X P A m (ps.CX x b) ts:=by
 cases x with
 |tmp t=>
  refine⟨hR.heap,hR.llen,hR.loc,ab1 hR.env ?_⟩;simp only[rJ,JH]at hb;split at hb
  .rename_i v hv;cases hb;exact hv
  cases hb
 |_=>exact hR
theorem U1{ps ts}(hR:wB X P A m ps ts){site cs cs'}(hc:bZ X P (AA A m) m ts.heap cs cs') :∃m1,(rM site ts cs').2.env=ts.env/\(rM site ts cs').2.ws=ts.ws/\wB X P A m1 (EX site ps cs).2 (rM site ts cs').2/\JK X P (AA A m1) m1 (rM site ts cs').2.heap (EX site ps cs).1 (rM site ts cs').1/\Fr m ts.heap m1 (rM site ts cs').2.heap/\Up m m1:=by
 cases site with
 |true=>
  have hp:=hR.heap.push (pb:=.cells cs) (hb:=.cells .own cs') (mb:=.gQ ts.heap.length) (.inl rfl) ?_
  .refine⟨m++[.gQ ts.heap.length],rfl,rfl,hR.step hp.1 hp.2.1 hp.2.2,?_,hp.2.1,hp.2.2⟩;show VR X P _ _ _ (.ptr ps.heap.length 0 cs.length) (.ptr ts.heap.length 0 cs'.length);rw[hc.1];exact .ptr (by rw[<-hR.heap.len];simp)
  .refine⟨cs',by simp,hc.step ?_ (xU _)⟩;refine⟨by simp,fun b hb _=>by rw[a0U hb],fun b hb=>?_,fun b cs hc=>⟨cs,by rw[fE (a0U (fH hc)),hc],a1l _⟩⟩;rw[jA,a3M,kY]at hb;rcases hb with hb|hb
   .exact .inl hb
   .simp[MB.own]at hb;exact .inr (by omega)
 |false=>
  refine⟨m,rfl,rfl,⟨hR.heap,by simp[EX,rM,hR.llen],fun k ds hk=>?_,hR.env⟩,?_,.refl,.refl⟩
  .simp only[EX,rM,a2K,a3U]at hk ⊢;rcases a4W k ps.loc.length with hl|hl
   .rw[a0U hl]at hk;obtain⟨ds',g1,g2⟩:=hR.loc k ds hk;exact⟨ds',by rw[a0U (by rw[<-hR.llen];exact hl)];exact g1,g2⟩
   .rw[a1r hl]at hk;have:k-ps.loc.length=0:=by
     rcases abp (k-ps.loc.length)with e|e
     .exact e
     .rw[a4O (by simp;omega)]at hk;cases hk
    rw[this]at hk;simp only[a3E,a09]at hk;subst hk;exact⟨cs',by rw[a1r (by rw[<-hR.llen];exact hl),<-hR.llen,this];rfl,hc⟩
  .exact⟨hR.llen,rfl⟩
theorem iY{i mb b}(h1:m[i]? = some mb)(h2:mb.own=some b):Ho m i b:=⟨mb,h1,h2⟩
theorem a0u{i b}(h:Ho m i b):b∈aZ m:=let ⟨_,h1,h2⟩:=h;aY h1 h2
theorem IR.rdH{i b}(h0:Ho m i b)(hl:b<h.length):IR m h ⟨yA (.h i),false,false,true⟩ (yA (.h b)):=
 ⟨fun h=>(by cases h),fun k hk=>(by simp[yA]at hk),fun k hk=>(by simp[yA]at hk),fun b hb=>(by simp[yA]at hb),fun c hc=>(by simp[yA]at hc;subst hc;exact⟨.inl ⟨i,by simp[yA],h0⟩,hl⟩),fun h=>(by cases h)⟩
theorem IR.wrH{i b}(h0:Ho m i b)(hl:b<h.length):IR m h ⟨qg (.h i),false,false,true⟩ (qg (.h b)):=
 ⟨fun h=>(by cases h),fun k hk=>(by simp[qg]at hk),fun k hk=>(by simp[qg]at hk),fun c hc=>(by simp[qg]at hc;subst hc;exact .inl ⟨i,by simp[qg],h0⟩),fun c hc=>(by simp[qg]at hc;subst hc;exact⟨.inl ⟨i,by simp[qg],h0⟩,hl⟩),fun h=>(by cases h)⟩
theorem IR.loc{k}:IR m h ⟨yA (.l k),false,false,false⟩ (yA (.l k)):=
 ⟨fun h=>(by cases h),fun j hj=>by simpa[yA]using hj,fun k hk=>(by simp[yA]at hk),fun b hb=>(by simp[yA]at hb),fun c hc=>(by simp[yA]at hc),fun _=>⟨rfl,fun b hb=>(by simp[yA]at hb),fun b hb=>(by simp[yA]at hb)⟩⟩
theorem IR.apX{k}:IR m h ⟨qg (.l k),false,false,false⟩ (qg (.l k)):=
 ⟨fun h=>(by cases h),fun j hj=>by simpa[qg]using hj,fun j hj=>by simpa[qg]using hj,fun c hc=>(by simp[qg]at hc),fun c hc=>(by simp[qg]at hc),fun _=>⟨rfl,fun b hb=>(by simp[qg]at hb),fun b hb=>(by simp[qg]at hb)⟩⟩
theorem XY{t cs o sz off n x}(ho:o+sz<=cs.length)(hp:vG P t ((cs.drop o).take sz) off=some x)(hn:dI P t=some n):vG P t cs (o+off)=some x/\off+n<=sz/\o+off+n<=cs.length:=by
 unfold vG at hp ⊢;split at hp
 .rename_i k ha hk;rw[hn]at hk;cases hk;simp only[a0A]at hp;obtain⟨r,h1,rfl⟩:=hp;unfold sub at h1;split at h1
  .rename_i hl;rw[a4t,a4g]at hl;refine⟨?_,by omega,by omega⟩;cases h1;simp only[ha,hn,sub];rw[a1e (by omega)];simp only[a1n,a09,TV.agg.injEq];rw[aiv,afG,afB,a7z (by omega)]
  cases h1
 .rename_i k ha hk;rw[hn]at hk;cases hk;split at hp
  .rename_i h1;subst h1;rw[a5H]at hp;split at hp
   .rename_i h2;rw[a5C]at hp;have:=(a0x.1 hp).1;refine⟨by simp only[ha,hn,a2p];exact hp,by omega,by omega⟩
   cases hp
  cases hp
 cases hp
theorem U2{t cs off x}(hp:vG P t cs off=some x):∃n,dI P t=some n:=by
 unfold vG at hp;split at hp
 .rename_i n _ hn;exact⟨n,hn⟩
 .rename_i n _ hn;exact⟨n,hn⟩
 cases hp
theorem eG.row{t sz l cs off j a}(hw:eG X P F m h t l cs off sz)(hj:l[j]? = some a):bZ X P F m h (X.enc t a) ((cs.drop (off+j*sz)).take sz)/\off+j*sz+sz<=cs.length:=by
 have hlen:=hw.1 j a hj;have aQ:j<l.length:=(a0x.1 hj).1;have h2:(j+1)*sz<=l.length*sz:=a3N sz aQ;have h3:=hw.2.1;rw[a3W]at h2;refine⟨⟨by rw[hlen,a4t,a4g];omega,fun i c v hc hv=>?_⟩,by omega⟩;rw[a5H]at hv;split at hv
 .rw[a5C]at hv;exact hw.2.2 j a i c v hj hc hv
 cases hv
theorem Bz{t}{l:List (X.Γ t)}{j}(hj:j<l.length):l[j]? = some (l.getD j (X.d0 t)):=by rw[a3k,a0Q hj];rfl
theorem Ih(hX:bT X P){ps ts}(hR:wB X P A m ps ts){t pa ea}(ha:JK X P (AA A m) m ts.heap pa ea){v pi}(hl:Bh X P t ps pa=some (v,pi)) :∃x ti,loadT P t ts ea=some (x,ti)/\VR X P (AA A m) m ts.heap v x/\IR m ts.heap ⟨pi,false,false,!VE pa⟩ ti/\ti.ws=[]:=by
 cases pa with
 |loc k off=>
  rw[EZ ha];simp only[Bh]at hl;split at hl
  .rename_i cs hk;simp only[a0A,a1k]at hl;obtain⟨w,h1,rfl,rfl⟩:=hl;obtain⟨cs',g1,g2⟩:=hR.loc k cs hk;obtain⟨x,g3,g4⟩:=Bo g2 h1;exact⟨x,yA (.l k),by simp only[loadT,g1,g3,a1n],g4,.loc,rfl⟩
  .cases hl
 |undef|ent|FK=>simp[Bh]at hl
 |val a=>
  obtain⟨y,rfl,hy⟩:=gJ ha;cases a with
  |ptr b off lim=>
   simp only[Bh]at hl;split at hl
   .rename_i cs n hb hn;split at hl
    .rename_i Nk;simp only[a0A,a1k]at hl;obtain⟨w,h1,rfl,rfl⟩:=hl;obtain⟨mb,g1,g2⟩:=hR.heap.at_ b _ hb;cases mb with
     |gQ c=>
      obtain⟨cs',g3,g4⟩:=g2;cases hy with
      |ptr e=>
       rw[g1]at e;cases e;obtain⟨x,g5,g6⟩:=Bo g4 h1;refine⟨x,yA (.h c),?_,g6,.rdH (iY g1 rfl) (a0x.1 g3).1,rfl⟩;simp only[loadT,xR g3 (show BK.own≠.last by simp),hn,Nk,a2p,g5,a1n]
      |gone hi e _=>simp only[bf,a09]at hi;subst hi;rw[g1]at e;cases e
     |_=>exact g2.elim
    .cases hl
   .rename_i cs n hb hn;split at hl
    .rename_i Nk;simp only[a0A,a1k]at hl;obtain⟨w,h1,rfl,rfl⟩:=hl;obtain⟨mb,g1,g2⟩:=hR.heap.at_ b _ hb;cases mb with
     |jJ c=>
      obtain⟨g0,cs',g3,g4⟩:=g2;cases hy with
      |ptr e=>rw[g1]at e;cases e
      |gone hi e _=>
       simp only[bf,a09]at hi;subst hi;rw[g1]at e;cases e with
       |r _ e=>
        simp only[roV,a09]at e;subst e;obtain⟨x,g5,g6⟩:=Bo g4 h1;refine⟨x,yA (.h c),?_,g6,⟨fun h=>(by cases h),fun k hk=>(by simp[yA]at hk),fun k hk=>(by simp[yA]at hk),fun b hb=>(by simp[yA]at hb),fun d hd=>?_,fun h=>(by cases h)⟩,rfl⟩
        .simp only[loadT,xR g3 (show BK.own≠.last by simp),hn,Nk,a2p,g5,a1n]
        .simp[yA]at hd;subst hd;exact⟨.inr g0,(a0x.1 g3).1⟩
     |_=>exact g2.elim
    .cases hl
   .cases hl
  |row b j off=>
   simp only[Bh]at hl;split at hl
   .rename_i k ex e l hb;simp only[a0A,a1k]at hl;obtain⟨w,h1,rfl,rfl⟩:=hl;obtain⟨mb,g1,g2⟩:=hR.heap.at_ b _ hb;cases mb with
    |dD z=>
     cases hy with
     |row e' hj hq=>
      rw[g1]at e';cases e';cases(g2:LR X P _ _ _ _ _ _ _ _)with
      |emp=>omega
      |some q1 q2 q3 q4 q5 q6 q7 q8 q9=>
       have wz:=q9.row (Bz hj);obtain⟨x,g5,g6⟩:=Bo wz.1 h1;obtain⟨n,hn⟩:=U2 g5;obtain⟨g7,g8,_⟩:=XY wz.2 g5 hn;rw[a3L]at g7;refine⟨x,yA (.h _),?_,g6,.rdH (iY g1 (by simp only[MB.own];rw[a18 (by simpa using q1)])) (a0x.1 q4).1,rfl⟩;have tY:=wz.2;simp only[loadT,xQ q4 q8.symm,hn];rw[a1e (by omega),g7];rfl
     |gone hi e' _=>simp only[bf,a09]at hi;subst hi;rw[g1]at e';cases e'
    |_=>exact g2.elim
   .cases hl
  |el e a off=>
   simp only[Bh,a0A,a1k]at hl;obtain⟨w,h1,rfl,rfl⟩:=hl;cases hy with
   |el q1 q2 q2' q3 q4 q5 q6=>
    rename_i b o sz lim cs;have wz:bZ X P (AA A m) m ts.heap (X.enc e a) ((cs.drop o).take sz):=by
     refine⟨by rw[q4,a4t,a4g];omega,fun i c v hc hv=>?_⟩;rw[a5H]at hv;split at hv
     .rw[a5C]at hv;exact q6 i c v hc hv
     .cases hv
    obtain⟨x,g5,g6⟩:=Bo wz h1;obtain⟨n,hn⟩:=U2 g5;obtain⟨g7,g8,_⟩:=XY q3 g5 hn;refine⟨x,yA (.h b),?_,g6,⟨fun h=>(by cases h),fun k hk=>(by simp[yA]at hk),fun k hk=>(by simp[yA]at hk),fun b hb=>(by simp[yA]at hb),fun c hc=>?_,fun h=>(by cases h)⟩,rfl⟩
    .simp only[loadT,q2,hn];rw[a1e (by omega),g7];rfl
    .simp[yA]at hc;subst hc;exact⟨.inr q1.2,a4n q2⟩
   |gone hi e' _=>simp[bf]at hi
  |_=>simp[Bh]at hl
end
open Go Tw
section
variable{X:mV}{P:LI1}{A F:Nat->Prop}{m m':List MB}{h h':List HB}{H H':List (PB X.Γ)}
theorem PX{cs new o sz off r}(ho:o+sz<=cs.length)(hr:xk ((cs.drop o).take sz) off new=some r):xk cs (o+off) new=some (cs.take o++r++cs.drop (o+sz))/\r.length=sz:=by
 unfold xk at hr ⊢;split at hr
 rotate_left
 .cases hr
 rename_i hl;have qW:=hl;rw[a4t,a4g]at hl;cases hr;refine⟨?_,?_⟩
 .rw[a1e (by omega)];simp only[a09];apply aaK;intro i;simp only[List.getElem?_append,a1B,a4t,a4g,a5H,a5C];rcases a4W i o with h1|h1
  .simp (disch:=omega) only [a7z,a1e]
  rcases a4W i (o+off)with h2|h2
  .rw[a1e (by omega),a1e (by omega),a1e (by omega),a1e (by omega),a18 (by omega),a1e (by omega),a1e (by omega),a1e (by omega),a1e (by omega)];congr 1;omega
  rcases a4W i (o+off+new.length)with h3|h3
  .rw[a1e (by omega),a18 (by omega),a1e (by omega),a18 (by omega),a1e (by omega),a18 (by omega)];congr 1;omega
  rcases a4W i (o+sz)with h4|h4
  .rw[a18 (by omega),a1e (by omega),a18 (by omega),a18 (by omega),a1e (by omega)];congr 1;omega
  rw[a18 (by omega),a18 (by omega)];congr 1;omega
 simp only[a1B,a4t,a4g];omega
theorem eG.set{t sz j l cs r a}(hw:eG X P F m h t l cs 0 sz)(hr:bZ X P F m h (X.enc t a) r)(hl:r.length=sz)(hj:j<l.length) :eG X P F m h t (l.set j a) (cs.take (j*sz)++r++cs.drop (j*sz+sz)) 0 sz:=by
 have h2:(j+1)*sz<=l.length*sz:=a3N sz hj;rw[a3W]at h2;have h3:=hw.2.1;refine⟨fun k y hy=>?_,?_,fun k y i c v hy hi hx=>?_⟩
 .rw[aaF]at hy;split at hy
  .cases hy;rw[hr.1,hl]
  .exact hw.1 k y hy
 .simp only[a1B,a4t,a4g,a5O];omega
 .rw[aaF]at hy;split at hy
  .rename_i e;subst e;cases hy;have aQ:i<sz:=by rw[<-hl,<-hr.1];exact(a0x.1 hi).1
   refine hr.2 i c v hi ?_;rw[a0U (by simp only[a1B,a4t];omega),a1r (by rw[a4t];omega),a4t]at hx;rw[<-hx];congr 1;omega
  .rename_i e;have hlen:=hw.1 k y hy;have aQ:i<sz:=by rw[<-hlen];exact(a0x.1 hi).1
   have hk:k<l.length:=(a0x.1 hy).1;refine hw.2.2 k y i c v hy hi ?_;rw[<-hx];rcases a4W k j with h4|h4
   .have:(k+1)*sz<=j*sz:=a3N sz h4;rw[a3W]at this;rw[a0U (by simp only[a1B,a4t];omega),a0U (by rw[a4t];omega),a5H,a1e (by omega)]
   .have h5:j+1<=k:=(by omega);have:(j+1)*sz<=k*sz:=a3N sz h5;rw[a3W]at this;rw[a1r (by simp only[a1B,a4t];omega),a5C];congr 1;simp only[a1B,a4t];omega
theorem MO{b}{pb:PB X.Γ}:∀{is} {H},is.contains b=false->aX is (H.set b pb)=(aX is H).set b pb
 | [],_,_=>rfl
 |i::is,H,hn=>by simp only[aiz,aaC,adH,ne_eq]at hn;simp only[aX,XQ];rw[List.set_comm _ _ hn.1,MO hn.2]
theorem zK(hX:bT X P){ps ps1 ts}(hR:wB X P A m ps ts){t pa ea}(ha:JK X P (AA A m) m ts.heap pa ea){v x}(hv:VR X P (AA A m) m ts.heap v x){pi}(hl:Vx X P t ps pa v=some (ps1,pi)) :∃iV ti m1,storeT P t ts ea x=some (iV,ti)/\iV.env=ts.env/\iV.ws=ts.ws/\wB X P A m1 ps1 iV/\Fr m ts.heap m1 iV.heap/\Up m m1/\IR m ts.heap ⟨pi,false,false,!VE pa⟩ ti/\∀b,.h b∈ti.ws->b∈aZ m:=by
 have hc:=IW hv;unfold Vx at hl;split at hl
 .rename_i n hn;split at hl
  .rename_i OX;have ab2:x.cells.length=n/\x.cells.all iO=true:=⟨by rw[<-hc.1];exact OX.1,by rw[EY hc];exact OX.2⟩;cases pa with
   |loc k off=>
    rw[EZ ha];simp only at hl;split at hl
    .rename_i cs hk;simp only[a0A,a1k]at hl;obtain⟨U3,h1,rfl,rfl⟩:=hl;obtain⟨cs',g1,g2⟩:=hR.loc k cs hk;obtain⟨KF,g3,g4⟩:=IX g2 hc h1;refine⟨{ ts with loc:=ts.loc.set k KF },qg (.l k),m,?_,rfl,rfl,⟨hR.heap,by simp[hR.llen],fun j ds hj=>?_,hR.env⟩,.refl,.refl,.apX,fun b hb=>by simp[qg]at hb⟩
     .simp only[storeT,hn,ab2,adw,a2p,g1,g3,a1n]
     .by_cases e:k=j
      .subst e;rw[a5G]at hj;rw[hk]at hj;cases hj;exact⟨KF,by rw[a5G,g1];rfl,g4⟩
      .rw[a1y e]at hj;obtain⟨ds',q1,q2⟩:=hR.loc j ds hj;exact⟨ds',by rw[a1y e];exact q1,q2⟩
    .cases hl
   |undef|ent|FK=>simp at hl
   |val a=>
    obtain⟨y,rfl,hy⟩:=gJ ha;cases a with
    |ptr b off lim=>
     simp only at hl;split at hl
     .rename_i Nk;split at hl
      .rename_i cs hb;simp only[a0A,a1k]at hl;obtain⟨U3,h1,rfl,rfl⟩:=hl;obtain⟨mb,g1,g2⟩:=hR.heap.at_ b _ hb;cases mb with
       |gQ c=>
        obtain⟨cs',g3,g4⟩:=g2;cases hy with
        |ptr e=>
         rw[g1]at e;cases e;obtain⟨KF,g5,g6⟩:=IX g4 hc h1;have hlen:KF.length=cs'.length:=by
          unfold xk at g5;split at g5
          .cases g5;simp only[a1B,a4t,a4g];omega
          .cases g5
         have aQ:=(a0x.1 g3).1;obtain⟨hr1,hF⟩:=hR.heap.set (pb:=.cells U3) (hb:=.cells .own KF) g1 (c:=c) rfl (fun F8 XZ=>⟨KF,by simp[aU,aQ],by
          simp only[aU,g3,a09]at XZ;subst XZ;omega⟩) fun hF=>⟨KF,by simp[aQ],g6.step hF .refl⟩
         refine⟨{ ts with heap:=ts.heap.set c (.cells .own KF) },qg (.h c),m,?_,rfl,rfl,hR.step hr1 hF .refl,hF,.refl,.wrH (iY g1 rfl) aQ,fun b hb=>?_⟩
         .simp only[storeT,hn,ab2,adw,a2p,Nk,XU g3,g5,a1n]
         .simp[qg]at hb;subst hb;exact aY g1 rfl
        |gone hi e _=>simp only[bf,a09]at hi;subst hi;rw[g1]at e;cases e
       |_=>exact g2.elim
      .cases hl
     .cases hl
    |row b j off=>
     simp only at hl;split at hl
     .rename_i k0 ex e l hb;split at hl
      .rename_i U3 h1;split at hl
       .rename_i a is hd;split at hl
        .cases hl
        .rename_i hnb;simp only[a09,a1k]at hl;obtain⟨rfl,rfl⟩:=hl;obtain⟨mb,g1,g2⟩:=hR.heap.at_ b _ hb;cases mb with
         |dD z=>
          cases hy with
          |row e' hj hq=>
           rw[g1]at e';cases e';cases(g2:LR X P _ _ _ _ _ _ _ _)with
           |emp=>omega
           |some q1 q2 q3 q4 q5 q6 q7 q8 q9=>
            rename_i c sz xx kk cs;obtain⟨Ci,yL,hkr,hko⟩:=KC q5;have ru:(MB.dD (TV.aO c 0 l.length l.length sz xx)).own=some c:=by simp only[MB.own];rw[a18 (by simpa using q1)]
            have wz:=q9.row (Bz hj);simp only[a3L]at wz;obtain⟨r,g3,g4⟩:=IX wz.1 hc h1;obtain⟨g5,g6⟩:=PX wz.2 g3;have apY:=a2l (m':=bW is m) hX hR.heap g4 hd;have hgo:=hR.heap.aX is;have Sl:=iK (h:=ts.heap) is m;have ajW:is.contains b=false:=(by simpa using hnb);have hm1:(bW is m)[b]? = some (.dD (.aO c 0 l.length l.length sz xx)):=by rw[IU is g1,ajW];rfl
            have aQ:=(a0x.1 q4).1;have Td:(cs.take (j*sz)++r++cs.drop (j*sz+sz)).length=cs.length:=by simp only[a1B,a4t,a4g];omega
            obtain⟨hr1,hF⟩:=hgo.set (pb:=.list k0 ex e (l.set j a)) (hb:=.cells Ci (cs.take (j*sz)++r++cs.drop (j*sz+sz))) hm1 ru (fun F8 XZ=>⟨cs.take (j*sz)++r++cs.drop (j*sz+sz),by simp[aU,aQ],by
             simp only[aU,q4,a09]at XZ;subst XZ;omega⟩) fun hF=>by
              have hw:=(q9.step Sl.1 Sl.2).set (apY.mono fun b hb=>hb.gone hR.heap) g6 hj;have:=LR.some (X:=X) (P:=P) (A:=AA A (bW is m)) (m:=bW is m) (h:=ts.heap.set c (.cells Ci (cs.take (j*sz)++r++cs.drop (j*sz+sz)))) (k:=k0) (ex:=ex) (t:=e) (l:=l.set j a) (b:=c) (sz:=sz) (e:=xx) (kk:=Ci) (cs:=cs.take (j*sz)++r++cs.drop (j*sz+sz))
               (by intro e0;apply q1;have:=congrArg List.length e0;rw[a5O]at this;exact a6n.1 this) q2 q3 (by simp[aQ]) hkr (fun e0=>hko (q6 e0)) q7 (by rw[Td,a5O];exact q8) (hw.step hF .refl)
              rw[a5O]at this;exact this
            rw[<-MO ajW]at hr1;have RG:=Sl.1.trans hF;refine⟨{ ts with heap:=ts.heap.set c (.cells Ci (cs.take (j*sz)++r++cs.drop (j*sz+sz))) },qg (.h c),bW is m,?_,rfl,rfl,hR.step hr1 RG Sl.2,RG,Sl.2,.wrH (iY g1 ru) aQ,fun b hb=>?_⟩
            .have h9:j*sz+off+n<=l.length*sz:=by
              have h8:=wz.2;unfold xk at g3;split at g3
              .rename_i h0;rw[a4t,a4g,ab2.1]at h0;omega
              .cases g3
             simp only[storeT,hn,ab2,adw,a2p,h9,a2g q4 yL q8.symm,g5,a1n]
            .simp[qg]at hb;subst hb;exact aY g1 ru
          |gone hi e' _=>simp only[bf,a09]at hi;subst hi;rw[g1]at e';cases e'
         |_=>exact g2.elim
       .cases hl
      .cases hl
     .cases hl
    |_=>simp at hl
  .cases hl
 .cases hl
end
open Go Tw
section
variable{X:mV}{P:LI1}{A F:Nat->Prop}{m m':List MB}{h h':List HB}{H H':List (PB X.Γ)}
theorem oG{v x}(hv:VR X P A m h v x):JK X P A m h (.val v) (.val x):=hv
theorem OL{ps ts}(hR:wB X P A m ps ts){o pa pb ea}(ha:JK X P (AA A m) m ts.heap pa ea)(hl:IK X ps o pa=some pb):∃eb,RN o ea=some eb/\JK X P (AA A m) m ts.heap pb eb:=by
 cases pa with
 |loc k off=>
  rw[EZ ha];simp only[IK,a09]at hl;subst hl;exact⟨.loc k (off+o),rfl,rfl,rfl⟩
 |undef|ent|FK=>simp[IK]at hl
 |val a=>
  obtain⟨y,rfl,hy⟩:=gJ ha;cases a with
  |ptr b off lim=>
   simp only[IK]at hl;split at hl
   .rename_i cs hb;split at hl
    .rename_i hle;cases hl;obtain⟨mb,g1,g2⟩:=hR.heap.at_ b _ hb;cases mb with
     |gQ c=>
      cases hy with
      |ptr e=>exact⟨.val (.ptr _ (off+o) lim),by simp only[RN,hle,a2p],VR.ptr e⟩
      |gone hi e q=>simp only[bf,a09]at hi;subst hi;rw[g1]at e;cases e
     |_=>exact g2.elim
    cases hl
   .rename_i cs hb;split at hl
    .rename_i hle;cases hl;obtain⟨mb,g1,g2⟩:=hR.heap.at_ b _ hb;cases mb with
     |jJ c=>
      cases hy with
      |ptr e=>rw[g1]at e;cases e
      |gone hi e q=>
       simp only[bf,a09]at hi;subst hi;rw[g1]at e;cases e with
       |r _ e=>simp only[roV,a09]at e;subst e;exact⟨.val (.ptr _ (off+o) lim),by simp only[RN,hle,a2p],VR.gone rfl (.ofR g1 rfl) rfl⟩
     |_=>exact g2.elim
    cases hl
   cases hl
  |el t a off=>
   simp only[IK]at hl;split at hl
   .rename_i hle;cases hl;cases hy with
    |el q1 q2 q2' q3 q4 q5 q6=>
     rename_i b o0 sz lim cs;rw[q4]at hle;refine⟨.val (.ptr b (o0+off+o) lim),by simp only[RN];rw[a1e (by omega)],?_⟩;rw[aaz];exact VR.el q1 q2 q2' q3 q4 hle q6
    |gone hi _ _=>simp[bf]at hi
   cases hl
  |row b j off=>
   simp only[IK,ajK]at hl;split at hl
   rotate_left
   .cases hl
   rename_i n hn;split at hn
   rotate_left
   .cases hn
   rename_i k ex e l hb;cases hn;split at hl
   .rename_i hle;cases hl;obtain⟨mb,g1,g2⟩:=hR.heap.at_ b _ hb;cases mb with
    |dD z=>
     cases hy with
     |row e' hj hq=>
      rw[g1]at e';cases e';cases(g2:LR X P _ _ _ _ _ _ _ _)with
      |emp=>omega
      |some q1 q2 q3 q4 q5 q6 q7 q8 q9=>
       rw[q9.1 j _ (Bz hj)]at hle;have wz:=(q9.row (Bz hj)).2;refine⟨.val (.ptr _ (j*_+off+o) (l.length*_)),by simp only[RN];rw[a1e (by omega)],?_⟩;rw[aaz];exact VR.row g1 hj hle
     |gone hi e' _=>simp only[bf,a09]at hi;subst hi;rw[g1]at e';cases e'
    |_=>exact g2.elim
   cases hl
  |_=>simp[IK]at hl
theorem ab4{ps ts}(hR:wB X P A m ps ts){b:Nat}{k ex e l}(hb:ps.heap[b]? = some (.list k ex e l)){y}(hy:VR X P (AA A m) m ts.heap (.own b) y)(hl:l≠[]) :∃c sz x,y=.aO c 0 l.length l.length sz x/\m[b]? = some (.dD y)/\dI P e=some sz/\0<sz:=by
 obtain⟨mb,g1,g2⟩:=hR.heap.at_ b _ hb;cases mb with
 |dD z=>
  cases hy with
  |own e' o=>
   rw[g1]at e';cases e';cases(g2:LR X P _ _ _ _ _ _ _ _)with
   |nil=>exact absurd rfl hl
   |emp=>exact absurd rfl hl
   |some q1 q2 q3=>exact⟨_,_,_,rfl,g1,q2,q3⟩
  |gone hi e' _=>simp only[bf,a09]at hi;subst hi;rw[g1]at e';cases e'
 |_=>exact g2.elim
theorem AU{ps ts}(hR:wB X P A m ps ts){t px pb ex}(hx:JK X P (AA A m) m ts.heap px ex){i ti}(hi:VR X P (AA A m) m ts.heap i ti){qs}(hl:H9 X P t ps px i=some (pb,qs))(hq:∀q∈qs,q) :∃eb,ng P t ex ti=some eb/\JK X P (AA A m) m ts.heap pb eb:=by
 have Vj:∀{k:IntKind} {iv:Int} {n:Nat},gG iv n->idx n (.int k iv)=some iv.toNat/\iv.toNat<n:=by intro k iv n hn;unfold gG at hn;refine⟨by simp only[idx];rw[a1e hn],by omega⟩
 have hpi:∀{n j:Nat},a4j X n i=some j->idx n ti=some j:=by
  intro n j hj;cases i<;>simp only[a4j]at hj<;>try (cases hj;done)
  cases hi with
  |int=>exact hj
  |gone e _ _=>simp[bf]at e
 unfold H9 at hl;split at hl
 .rename_i e hu;split at hl
  .rename_i n t' l fu k iv hn;split at hl
   .rename_i ht;subst ht;simp only[a09,a1k]at hl;obtain⟨rfl,rfl⟩:=hl;have hr:=Vj (k:=k) (hq _ a3K);have:ti=.int k iv:=by
     cases hi with
     |int=>rfl
     |gone e _ _=>simp[bf]at e
    subst this;obtain⟨y,rfl,hy⟩:=gJ hx;rcases a2m hy hn with⟨rfl,rfl⟩|⟨b,off,cap,ex',cs,rfl,hk,hc,MG,hw⟩
    .have:=hr.2;simp at this
    .have wz:=hw.row (Bz hr.2);have hA:AA A m b:=by
      cases hy with
      |dD a=>exact a
      |gone e _ _=>simp[bf]at e
     have OX:=MG (by intro e0;rw[e0]at hr;have:=hr.2;simp at this);have hle:off+iv.toNat*n+n<=off+cap*n:=by have h1:(iv.toNat+1)*n<=cap*n:=a3N n (by have:=hr.2;omega);rw[a3W,abn]at h1;omega
     refine⟨.val (.ptr b (off+iv.toNat*n) (off+cap*n)),?_,?_⟩
     .simp only[ng,hu,hn,a2p,hr.1,a1n]
     .have:=VR.el (X:=X) (P:=P) (A:=AA A m) (m:=m) (h:=ts.heap) (t:=t') (a:=l.getD iv.toNat (X.d0 t')) (off:=0) (o:=off+iv.toNat*n) hA OX hle wz.2 (hw.1 _ _ (Bz hr.2)) (a5U _) (fun i c v h1 h2=>hw.2.2 _ _ i c v (Bz hr.2) h1 h2);exact oG (by simpa using this)
   .cases hl
  .rename_i n b k iv hn;split at hl
   .rename_i w ex' t' l hb;split at hl
    .rename_i ht;subst ht;simp only[a09,a1k]at hl;obtain⟨rfl,rfl⟩:=hl;have hr:=Vj (k:=k) (hq _ a3K);have:ti=.int k iv:=by
      cases hi with
      |int=>rfl
      |gone e _ _=>simp[bf]at e
     subst this;obtain⟨y,rfl,hy⟩:=gJ hx;obtain⟨c,sz,x',rfl,g1,g2,g3⟩:=ab4 hR hb hy (by intro e0;rw[e0]at hr;have:=hr.2;simp at this);rw[hn]at g2;cases g2;refine⟨.val (.ptr c (iv.toNat*n) (l.length*n)),?_,?_⟩
     .simp only[ng,hu,hn,a2p,hr.1,a1n,a3L]
     .have:=VR.row (X:=X) (P:=P) (A:=AA A m) (m:=m) (h:=ts.heap) (off:=0) g1 hr.2 (a5U n);exact oG (by simpa using this)
    .cases hl
   .cases hl
  .rename_i n b o q k iv hn;split at hl
   .rename_i w ex' t' l hb;split at hl
    .rename_i ht;subst ht;simp only[a09,a1k]at hl;obtain⟨rfl,rfl⟩:=hl;have hr:=Vj (k:=k) (hq _ a3K);have:ti=.int k iv:=by
      cases hi with
      |int=>rfl
      |gone e _ _=>simp[bf]at e
     subst this;obtain⟨y,rfl,hy⟩:=gJ hx;obtain⟨mb,g1,g2⟩:=hR.heap.at_ b _ hb;cases mb with
     |dD z=>
      cases hy with
      |win e' w1 w2 w3=>
       rw[g1]at e';cases e';cases(g2:LR X P _ _ _ _ _ _ _ _)with
       |emp=>have:=hr.2;omega
       |some q1 q2 q3=>
        rw[hn]at q2;cases q2;have hp:=oG (VR.row (X:=X) (P:=P) (A:=AA A m) (m:=m) (h:=ts.heap) (j:=o+iv.toNat) (off:=0) g1 (by have:=hr.2;omega) (a5U n));refine⟨_,?_,hp⟩;have h3:=w3.resolve_left (by have:=hr.2;omega);simp only[ng,hu,hn,a2p,hr.1,a1n,a3L,a3W,adi,<-h3]
      |CY e'=>have:=hr.2;omega
      |gone hi e' _=>simp only[bf,a09]at hi;subst hi;rw[g1]at e';cases e'
     |_=>exact g2.elim
    .cases hl
   .cases hl
  .rename_i n b off len cap sz ex' hn;split at hl
   .rename_i cs hb;split at hl
    .rename_i qV;subst qV;simp only[a0A,a1k]at hl;obtain⟨j,h1,rfl,rfl⟩:=hl;obtain⟨y,rfl,hy⟩:=gJ hx;obtain⟨mb,g1,g2⟩:=hR.heap.at_ b _ hb;cases mb with
     |gQ c=>
      cases hy with
      |aO e=>
       have:=hpi h1;rw[g1]at e;cases e;exact⟨.val (.ptr c (off+j*n) (off+cap*n)),by simp only[ng,hu,hn,a2p,this,a1n],VR.ptr g1⟩
      |gone wS e' _=>simp only[bf,a09]at wS;subst wS;rw[g1]at e';cases e'
     |_=>exact g2.elim
    .cases hl
   .cases hl
  .cases hl
 .rename_i len e hu;split at hl
  .rename_i n hn;split at hl
   .rename_i j hj;simp only[a0A,a1k]at hl;obtain⟨pa,h1,rfl,rfl⟩:=hl;obtain⟨eb,g1,g2⟩:=OL hR hx h1;exact⟨eb,by simp only[ng,hu,hn,hpi hj,g1],g2⟩
   .cases hl
  .cases hl
 .cases hl
end
open Go Tw
section
variable{X:mV}{P:LI1}{A F:Nat->Prop}{m m':List MB}{h h':List HB}{H H':List (PB X.Γ)}
theorem ZR(hr:HR X P A m H h){at_ x tx}(hx:VR X P (AA A m) m h x tx){v pi}(hl:afO X P at_ H x=some (v,pi)) :∃w ti,ZF P at_ h tx=some (w,ti)/\VR X P (AA A m) m h v w/\IR m h ⟨pi,false,false,true⟩ ti/\ti.ws=[]:=by
 unfold afO at hl;split at hl
 .rename_i t ht;unfold ZF;simp only[ht];split at hl
  .rename_i s hu;cases hl;cases hx with
   |str=>exact⟨_,_,by first|(simp only[hu];done)|(simp only[hu];rfl),.int _ _,.none,rfl⟩
   |gone hi _ _=>simp[bf]at hi
  .rename_i n e _ hu;cases hl;exact⟨_,_,by first|(simp only[hu];done)|(simp only[hu];rfl),.int _ _,.none,rfl⟩
  .rename_i e b off len cap sz ex hu;split at hl
   .rename_i cs hb;cases hl;obtain⟨mb,g1,g2⟩:=hr.at_ b _ hb;cases mb with
    |gQ c=>
     cases hx with
     |aO e'=>exact⟨_,_,by first|(simp only[hu];done)|(simp only[hu];rfl),.int _ _,.none,rfl⟩
     |gone hi e' _=>simp only[bf,a09]at hi;subst hi;rw[g1]at e';cases e'
    |_=>exact g2.elim
   .cases hl
  .rename_i e hu;cases hl;cases hx with
   |nil=>exact⟨_,_,by first|(simp only[hu];done)|(simp only[hu];rfl),.int _ _,.none,rfl⟩
   |gone hi _ _=>simp[bf]at hi
  .rename_i e t' l fu hu;cases hl;cases hx with
   |ql=>exact⟨_,_,by first|(simp only[hu];done)|(simp only[hu];rfl),.int _ _,.none,rfl⟩
   |dD=>exact⟨_,_,by first|(simp only[hu];done)|(simp only[hu];rfl),.int _ _,.none,rfl⟩
   |gone hi _ _=>simp[bf]at hi
  .rename_i e b hu;split at hl
   .rename_i k ex t' l hb;cases hl;obtain⟨mb,g1,g2⟩:=hr.at_ b _ hb;cases mb with
    |dD z=>
     cases hx with
     |own e' _=>
      rw[g1]at e';cases e';cases(g2:LR X P _ _ _ _ _ _ _ _)with
      |nil=>exact⟨_,_,by first|(simp only[hu];done)|(simp only[hu];rfl),.int _ _,.none,rfl⟩
      |emp=>exact⟨_,_,by first|(simp only[hu];done)|(simp only[hu];rfl),.int _ _,.none,rfl⟩
      |some=>exact⟨_,_,by first|(simp only[hu];done)|(simp only[hu];rfl),.int _ _,.none,rfl⟩
     |gone hi e' _=>simp only[bf,a09]at hi;subst hi;rw[g1]at e';cases e'
    |_=>exact g2.elim
   .cases hl
  .rename_i e b o n hu;split at hl
   .rename_i k ex t' l hb;cases hl;obtain⟨mb,g1,g2⟩:=hr.at_ b _ hb;cases mb with
    |dD z=>
     cases hx with
     |win=>exact⟨_,_,by first|(simp only[hu];done)|(simp only[hu];rfl),.int _ _,.none,rfl⟩
     |CY=>exact⟨_,_,by first|(simp only[hu];done)|(simp only[hu];rfl),.int _ _,.none,rfl⟩
     |gone hi e' _=>simp only[bf,a09]at hi;subst hi;rw[g1]at e';cases e'
    |_=>exact g2.elim
   .cases hl
  .rename_i kt e hu;cases hl;cases hx with
   |nil=>exact⟨_,_,by first|(simp only[hu];done)|(simp only[hu];rfl),.int _ _,.none,rfl⟩
   |gone hi _ _=>simp[bf]at hi
  .rename_i kt e r hu;split at hl
   .rename_i es hb;cases hl;obtain⟨mb,g1,g2⟩:=hr.at_ r _ hb;cases mb with
    |gQ c=>
     obtain⟨gV,g3,g4,g5⟩:=g2;cases hx with
     |map e'=>
      rw[g1]at e';cases e';exact⟨_,_,by first|(simp only[hu,g3];done)|(simp only[hu,g3];rfl),by rw[g4];exact .int _ _,.rdH (iY g1 rfl) (a0x.1 g3).1,rfl⟩
     |gone hi e' _=>simp only[bf,a09]at hi;subst hi;rw[g1]at e';cases e'
    |_=>exact g2.elim
   .cases hl
  .cases hl
 .cases hl
def a7u:BinOp->Option TV
 |.eql=>some (.bool false)
 |.neq=>some (.bool true)
 |_=>none
theorem ZO{op t x y a b ta tb}(ha:VR X P A m h a ta)(hb:VR X P A m h b tb){v}(hl:afP X P op t x y a b=some v):∃w,uq P op t x y ta tb=some w/\VR X P A m h v w:=by
 unfold afP at hl;split at hl
 .rename_i u w h1 h2;split at hl
  .rename_i r hr;rw[jZ ha h1,jZ hb h2];exact⟨r,hr,xX hl⟩
  cases hl
 rename_i Zx;split at hl
 rotate_left
 .cases hl
 rename_i hn;have key:∃k,Mc P t=some k/\((ta=.nil k/\LZ tb=some k/\tb.zk=none)\/(tb=.nil k/\LZ ta=some k/\ta.zk=none)):=by
  unfold a2d at hn;split at hn
  rotate_left
  .cases hn
  rename_i k hk;refine⟨k,hk,?_⟩;simp only[aam,a2n,a6x]at hn;have ajX:∀{z:PV X.Γ} {tz:TV},VR X P A m h z tz->z=.nil k->tz=.nil k:=by
   intro z tz hz e;subst e;cases hz with
   |nil=>rfl
   |gone hi _ _=>simp[bf]at hi
  have ady:∀{z:PV X.Γ} {tz:TV},VR X P A m h z tz->(match z with|.fn _ _ _=>some NK.fn|.el _ _ _=>some NK.ptr|_=>none)=some k->LZ tz=some k/\tz.zk=none:=by
   intro z tz hz e;cases hz with
   |fn=>exact⟨e,rfl⟩
   |el=>exact⟨e,rfl⟩
   |gone hi _ _=>cases z<;>simp[bf]at hi<;>simp at e
   |_=>simp at e
  have ajY:∀{z:PV X.Γ},(match z with|.nil k=>some k|_=>none)=some k->z=.nil k:=by
   intro z e;cases z<;>simp at e
   rw[e]
  rcases hn with⟨h1,h2⟩|⟨h1,h2⟩
  .have:=ady hb h2;exact .inl ⟨ajX ha (ajY h1),this.1,this.2⟩
  have:=ady ha h1;exact .inr ⟨ajX hb (ajY h2),this.1,this.2⟩
 obtain⟨k,hk,hc⟩:=key;have afX:uq P op t x y ta tb=a7u op:=by
  rcases hc with⟨rfl,h2,h3⟩|⟨rfl,h2,h3⟩
  .have hnn:Du P t (.nil k) tb=true:=by unfold Du;rw[hk];simp[ZG,h2]
   unfold uq;rw[h3];cases(TV.nil k).zk<;>simp only[hnn,a2p]<;>cases op<;>rfl
  have hnn:Du P t ta (.nil k)=true:=by unfold Du;rw[hk];simp[ZG,h2]
  unfold uq;rw[h3];simp only[hnn,a2p];cases op<;>rfl
 rw[afX];cases op<;>simp only at hl ⊢<;>try (cases hl;done)
 .cases hl;exact⟨_,rfl,.bool _⟩
 cases hl;exact⟨_,rfl,.bool _⟩
theorem PY{op t x y b ta tb}(hb:VR X P A m h b tb){v q q'}(hl:O1 X P op t b q=some (v,q'))(hq:q')(h2:q->LZ ta=some .aO/\ta.zk=none):∃w,uq P op t x y ta tb=some w/\VR X P A m h v w:=by
 unfold O1 at hl;split at hl
 .rename_i hk;have h1:tb=.nil .aO:=by
   cases hb with
   |nil=>rfl
   |gone hi _ _=>simp[bf]at hi
  subst h1;have key:q->uq P op t x y ta (.nil .aO)=a7u op:=fun hq=>by
   obtain⟨h2,h3⟩:=h2 hq;have hnn:Du P t ta (.nil .aO)=true:=by unfold Du;rw[hk];simp[ZG,h2]
   unfold uq;rw[h3];simp only[hnn,a2p];cases op<;>rfl
  split at hl
  .cases hl;rw[key hq];exact⟨_,rfl,.bool _⟩
  .cases hl;rw[key hq];exact⟨_,rfl,.bool _⟩
  cases hl
 cases hl
theorem a4p(hr:HR X P A m H h){op t x y a b ta tb}(ha:VR X P (AA A m) m h a ta)(hb:VR X P (AA A m) m h b tb){v q}(hl:VA X P op t H a b=some (v,q))(hq:q):∃w,uq P op t x y ta tb=some w/\VR X P (AA A m) m h v w:=by
 unfold VA at hl;split at hl
 .rename_i l fu;refine PY hb hl hq (fun iI=>?_);cases ha with
  |ql=>exact absurd rfl iI
  |dD=>exact⟨rfl,rfl⟩
  |gone hi _ _=>simp[bf]at hi
 .rename_i i;split at hl
  .rename_i k ex t' l hi;refine PY hb hl hq (fun iI=>?_);obtain⟨mb,g1,g2⟩:=hr.at_ i _ hi;cases ha with
   |own e o=>
    rw[g1]at e;cases e;cases g2 with
    |nil=>exact absurd rfl iI
    |emp=>exact absurd rfl iI
    |some=>exact⟨rfl,rfl⟩
   |gone hi e _=>simp only[bf,a09]at hi;subst hi;rw[g1]at e;cases e<;>exact g2.elim
  cases hl
 cases hl
theorem jk{op a ta}(ha:VR X P A m h a ta){v}(hl:pun X P op a=some v):∃w,unT P op ta=some w/\VR X P A m h v w:=by
 unfold pun at hl;split at hl
 .rename_i u h1;split at hl
  .rename_i r hr;rw[jZ ha h1];exact⟨r,hr,xX hl⟩
  cases hl
 cases hl
theorem V9{s d a ta}(ha:VR X P A m h a ta){v}(hl:a7d X P s d a=some v):∃w,SS P s d ta=some w/\VR X P A m h v w:=by
 unfold a7d at hl;split at hl
 .rename_i u h1;split at hl
  .rename_i r hr;rw[jZ ha h1];exact⟨r,hr,xX hl⟩
  cases hl
 cases hl
theorem zM{mx at_ t az ts}(ha:bZ X P A m h az ts){v}(hl:O4 X P mx at_ t az=some v):∃w,EL P mx at_ t ts=some w/\VR X P A m h v w:=by
 unfold O4 at hl;split at hl
 .rename_i u h1;split at hl
  .rename_i r hr;rw[a2j ha h1];exact⟨r,hr,xX hl⟩
  cases hl
 cases hl
theorem OM{t x tx}(hx:VR X P A m h x tx){i v}(hl:a0m X P t x i=some v):∃w,Oy P t tx i=some w/\VR X P A m h v w:=by
 unfold a0m at hl;split at hl
 .rename_i fs cs hu;split at hl
  .rename_i f hf;cases hx with
   |agg h1 h2=>
    obtain⟨w,g1,g2⟩:=Bo ⟨h1,h2⟩ hl;exact⟨w,by simp only[Oy,hu,hf,g1],g2⟩
   |gone hi _ _=>simp[bf]at hi
  cases hl
 cases hl
theorem OO{t x i tx ti}(hx:VR X P A m h x tx)(hi:VR X P A m h i ti){v}(hl:a0n X P t x i=some v):∃w,JL P t tx ti=some w/\VR X P A m h v w:=by
 unfold a0n at hl;split at hl
 .rename_i len e cs hu;split at hl
  .rename_i n j hn hj;have:idx len ti=some j:=by
    cases i<;>simp only[a4j]at hj<;>try (cases hj;done)
    cases hi with
    |int=>exact hj
    |gone e _ _=>simp[bf]at e
   cases hx with
   |agg h1 h2=>
    obtain⟨w,g1,g2⟩:=Bo ⟨h1,h2⟩ hl;exact⟨w,by simp only[JL,hu,hn,this,g1],g2⟩
   |gone hi _ _=>simp[bf]at hi
  cases hl
 cases hl
end
open Go Tw
section
variable{X:mV}{P:LI1}{A F:Nat->Prop}{m m':List MB}{h h':List HB}{H H':List (PB X.Γ)}
theorem J3:∀{is} {H} {i:Nat} {pb:PB X.Γ},(aX is H)[i]? = some pb->(i∈is/\pb=.gone)\/(i∉is/\H[i]? = some pb)
 | [],_,_,_,h=>.inr ⟨by simp,h⟩
 |j::is,H,i,pb,h=>by
  rcases J3 (is:=is) (H:=XQ j H) h with⟨h1,h2⟩|⟨h1,h2⟩
  .exact .inl ⟨a3I _ h1,h2⟩
  unfold XQ at h2;by_cases e:j=i
  .subst e;rw[a5G]at h2;cases hx:H[j]? with
   |none=>rw[hx]at h2;cases h2
   |some y=>rw[hx]at h2;cases h2;exact .inl ⟨a3K,rfl⟩
  rw[a1y e]at h2;exact .inr ⟨by simp[h1,afJ e],h2⟩
theorem kP(hr:HR X P A m H h)(is){k ex x e size rows cs}(hw:eG X P (FA A m is) (bW is m) h e rows cs 0 size)(hc:cs.length=rows.length*size)(hn:rows≠[])(hz:dI P e=some size)(h0:0<size)(hx:ex=true->x=true) :∃m1,HR X P A m1 (aX is H++[.list k ex e rows]) (h++[.cells .own cs])/\Fr m h m1 (h++[.cells .own cs])/\Up m m1/\VR X P (AA A m1) m1 (h++[.cells .own cs]) (.own H.length) (.aO h.length 0 rows.length rows.length size x):=by
 have hgo:=hr.aX is;have Sl:=iK (h:=h) is m;have ru:(MB.dD (.aO h.length 0 rows.length rows.length size x)).own=some h.length:=by simp only[MB.own];rw[a18 (by simpa using hn)]
 have hF:Fr (bW is m) h (bW is m++[.dD (.aO h.length 0 rows.length rows.length size x)]) (h++[.cells .own cs]):=by
  refine⟨by simp,fun b hb _=>by rw[a0U hb],fun b hb=>?_,fun b cs hc=>⟨cs,by rw[fE (a0U (fH hc)),hc],a1l _⟩⟩;rw[jA,a3M,kY,ru]at hb;rcases hb with hb|hb
  .exact .inl hb
  .simp at hb;exact .inr (by omega)
 obtain⟨h1,h2,h3⟩:=hgo.push (pb:=.list k ex e rows) (hb:=.cells .own cs) (.inl ru)
  (LR.some (kk:=.own) hn hz h0 (by simp) (by simp) (fun _=>rfl) hx hc ((hw.mono fun b hb=>hb.gone hr).step hF (xU _)))
 refine⟨_,h1,Sl.1.trans h2,Sl.2.trans h3,.own ?_ rfl⟩;rw[<-hr.len,<-nD is m];simp
theorem U4(hr:HR X P A m H h)(is){k ex e y}(hy:(MB.dD y).own=none)(ho:iO y=true)(hl:LR X P (AA A (bW is m++[.dD y])) (bW is m++[.dD y]) h k ex e [] y) :∃m1,HR X P A m1 (aX is H++[.list k ex e []]) h/\Fr m h m1 h/\Up m m1/\VR X P (AA A m1) m1 h (.own H.length) y:=by
 have Sl:=iK (h:=h) is m;obtain⟨h1,h2,h3⟩:=(hr.aX is).adx (pb:=.list k ex e []) hy hl;refine⟨_,h1,Sl.1.trans h2,Sl.2.trans h3,.own ?_ ho⟩;rw[<-hr.len,<-nD is m];simp
theorem ab5(hr:HR X P A m H h){is y}(hy:(MB.dD y).own=none){b}(hb:FA A m is b):AA A (bW is m++[.dD y]) b:=by have:=hb.gone hr;refine⟨this.1,fun hm=>this.2 ?_⟩;rw[jA,a3M,kY,hy]at hm;simpa using hm
theorem push_empty(hr:HR X P A m H h)(is){k ex}{e size b off:Nat}{cs}(hz:dI P e=some size)(h0:0<size)(ha:FA A m is b)(hb:aU h b=some cs)(ho:off<=cs.length) :∃m1,HR X P A m1 (aX is H++[.list k ex e []]) h/\Fr m h m1 h/\Up m m1/\VR X P (AA A m1) m1 h (.own H.length) (.aO b off 0 0 size true):=
 U4 hr is rfl rfl (LR.emp (ab5 hr rfl ha) hb ho hz h0)
theorem PZ(hr:HR X P A m H h)(is){k ex e} :∃m1,HR X P A m1 (aX is H++[.list k ex e []]) h/\Fr m h m1 h/\Up m m1/\VR X P (AA A m1) m1 h (.own H.length) (.nil .aO):=
 U4 hr is rfl rfl .nil
theorem Hq(hr:HR X P A m H h){b c}(is){mb Ns pb h1}(hb:m[b]? = some mb)(ho:mb.own=some c)(ho':Ns.own=some c)(hlen:h1.length=h.length)(hs:∀d,d≠c->h1[d]? = h[d]?)(hg:∀cs,aU h c=some cs->∃cs',aU h1 c=some cs'/\cs.length<=cs'.length)(qZ:Fr m h (bW (b::is) m++[Ns]) h1->Up m (bW (b::is) m++[Ns])->BR X P (AA A (bW (b::is) m++[Ns])) (bW (b::is) m++[Ns]) h1 pb Ns) :∃m1,m1=bW (b::is) m++[Ns]/\HR X P A m1 (aX (b::is) H++[pb]) h1/\Fr m h m1 h1/\Up m m1/\m1[H.length]? = some Ns:=by
 have Sl:=iK (h:=h) (b::is) m;have hgo:=hr.aX (b::is);have hnc:c∉aZ (bW (b::is) m):=fun hm=>by obtain⟨j,mbj,g1,g2,g3⟩:=Bq hm;have:=jc hr.nodup hb g2 ho g3;exact g1 (by rw[<-this];exact a3K)
 have yO:∀d,d∈aZ (bW (b::is) m++[Ns])↔d∈aZ (bW (b::is) m)\/d=c:=by intro d;rw[jA,a3M,kY,ho'];simp
 have FV:c∈aZ m:=aY hb ho;have hF:Fr m h (bW (b::is) m++[Ns]) h1:=by
  refine⟨by omega,fun d hd hn=>hs d fun e=>hn (e▸FV),fun d hd=>?_,fun d cs hc=>?_⟩
  .rcases(yO d).1 hd with hd|rfl
   .exact Sl.1.new d hd
   .exact .inl FV
  .by_cases e:d=c
   .subst e;exact hg cs hc
   .exact⟨cs,by rw[fE (hs d e),hc],a1l _⟩
 have hU:Up m (bW (b::is) m++[Ns]):=Sl.2.trans (xU _);refine⟨_,rfl,?_,hF,hU,?_⟩
 .refine hr.next hF hU (by simp[nD,oC,hr.len]) ?_ fun i pbi hi=>?_
  .rw[jA,kY,ho'];refine a9N.2 ⟨hgo.nodup,by simp,fun a ha b' yN e=>?_⟩;simp at yN;subst yN;subst e;exact hnc ha
  .rcases a4W i (aX (b::is) H).length with aQ|CU
   .rw[a0U aQ]at hi;have a7v:i<(bW (b::is) m).length:=by rw[hgo.len];exact aQ
    rcases J3 hi with⟨e1,rfl⟩|⟨e1,e2⟩
    .obtain⟨mbi,g1,g2⟩:=hgo.at_ i _ hi;cases mbi with
     |gone=>exact .inr ⟨.gone,by rw[a0U a7v];exact g1,trivial⟩
     |_=>exact g2.elim
    .obtain⟨mbi,g1,_⟩:=hr.at_ i _ e2;left;have hm:=IU (b::is) g1;rw[show(b::is).contains i=false by simpa using e1]at hm;refine⟨mbi,e2,g1,by rw[a0U a7v];simpa using hm,fun d hd=>hs d fun e=>?_⟩;subst e;have:=jc hr.nodup hb g1 ho hd;exact e1 (by rw[<-this];exact a3K)
   .rw[a1r CU]at hi;have:i-(aX (b::is) H).length=0:=by
     rcases abp (i-(aX (b::is) H).length)with h|h
     .exact h
     .rw[a4O (by simp;omega)]at hi;cases hi
    rw[this]at hi;simp only[a3E,a09]at hi;subst hi;exact .inr ⟨Ns,by rw[a1r (by rw[hgo.len];exact CU),hgo.len,this];rfl,qZ hF hU⟩
 .have:H.length=(bW (b::is) m).length:=by rw[nD,hr.len]
  rw[this];simp
end
open Go Tw
section
variable{X:mV}{P:LI1}{A F:Nat->Prop}{m m':List MB}{h h':List HB}{H H':List (PB X.Γ)}
def Nu(X:mV)(P:LI1)(A:Nat->Prop)(m:List MB)(ts:St)(r:Option (TV×St×yH))(v:PV X.Γ)(H1:List (PB X.Γ))(pi:PI):Prop:=
 ∃w h1 ti m1,r=some (w,{ ts with heap:=h1 },ti)/\HR X P A m1 H1 h1/\VR X P (AA A m1) m1 h1 v w/\Fr m ts.heap m1 h1/\Up m m1/\IR m ts.heap pi ti/\∀b,.h b∈ti.ws->b∈aZ m
theorem ku{e n k}(hb:uY P e n=true)(hk:k<=n):uY P e k=true:=by
 unfold uY at hb ⊢;split at hb
 .rename_i i hi;simp only[a2n,a1x]at hb ⊢;obtain⟨⟨⟨⟨h1,h2⟩,h3⟩,h4⟩,h5⟩:=hb;have:=a3N i.bytes hk;exact⟨⟨⟨⟨by omega,by omega⟩,h3⟩,h4⟩,h5⟩
 cases hb
theorem oH{t e n}(hs:jU P t=some (e,n)):dI P e=some n/\0<n:=by
 unfold jU at hs;split at hs
 .split at hs
  .rename_i k hk;split at hs
   .cases hs
   rename_i h0;simp only[a09,a1k]at hs;obtain⟨rfl,rfl⟩:=hs;exact⟨hk,by omega⟩
  cases hs
 cases hs
theorem vg(hr:HR X P A m H h){e sz:Nat}{x tx}(hv:VR X P (AA A m) m h x tx)(hz:dI P e=some sz){rows is}(hs:Bg X H e sz x=some (rows,is)){b}(hb:.h b∈dF tx):((∃i,.h i∈zB X x/\Ho m i b)\/b∉aZ m)/\b<h.length:=by
 have lr:∀{i:Nat} {k ex:Bool} {t:Nat} {l:List (X.Γ t)} {c off len cap s:Nat} {e':Bool},H[i]? = some (.list k ex t l)->m[i]? = some (.dD (.aO c off len cap s e'))->(Ho m i c\/c∉aZ m)/\c<h.length:=by
  intro i k ex t l c off len cap s e' hH hm;obtain⟨mb,g1,g2⟩:=hr.at_ i _ hH;rw[hm]at g1;cases g1;cases(g2:LR X P _ _ _ _ _ _ _ _)with
  |emp h0 h1=>exact⟨.inr h0.2,fH h1⟩
  |some q1 q2 q3 q4=>exact⟨.inl (iY hm (by simp only[MB.own];rw[a18 (by simpa using q1)])),(a0x.1 q4).1⟩
 cases x with
 |nil k=>
  cases hv with
  |nil=>simp[dF]at hb
  |gone hi _ _=>simp[bf]at hi
 |dD t l fu=>
  cases hv with
  |ql=>simp[dF]at hb
  |dD a ac=>simp[dF]at hb;subst hb;exact⟨.inr a.2,fH ac⟩
  |gone hi _ _=>simp[bf]at hi
 |own i=>
  simp only[Bg]at hs;split at hs
  .rename_i k ex t l hH;cases hv with
   |own e' o=>
    cases tx<;>simp[dF]at hb
    subst hb;obtain⟨h1,h2⟩:=lr hH e';rcases h1 with h1|h1
    .exact⟨.inl ⟨i,by simp[zB],h1⟩,h2⟩
    exact⟨.inr h1,h2⟩
   |gone hi e' _=>
    simp only[bf,a09]at hi;subst hi;obtain⟨mb,g1,g2⟩:=hr.at_ i _ hH;rw[g1]at e';cases e'<;>exact g2.elim
  cases hs
 |win i o n=>
  simp only[Bg]at hs;split at hs
  .rename_i k ex t l hH;cases hv with
   |win e' q q'=>
    simp[dF]at hb;subst hb;obtain⟨h1,h2⟩:=lr hH e';rcases h1 with h1|h1
    .exact⟨.inl ⟨i,by simp[zB],h1⟩,h2⟩
    exact⟨.inr h1,h2⟩
   |CY=>simp[dF]at hb
   |gone hi e' _=>
    simp only[bf,a09]at hi;subst hi;obtain⟨mb,g1,g2⟩:=hr.at_ i _ hH;rw[g1]at e';cases e'<;>exact g2.elim
  cases hs
 |aO c off len cap s ex=>
  simp only[Bg]at hs;split at hs
  .rename_i cs hH;cases hv with
   |aO e'=>
    simp[dF]at hb;subst hb;obtain⟨mb,g1,g2⟩:=hr.at_ c _ hH;rw[e']at g1;cases g1;exact⟨.inl ⟨c,by simp[zB],iY e' rfl⟩,g2.has rfl⟩
   |gone hi e' _=>
    simp only[bf,a09]at hi;subst hi;obtain⟨mb,g1,g2⟩:=hr.at_ c _ hH;rw[g1]at e';cases e'<;>exact g2.elim
  cases hs
 |_=>simp[Bg]at hs
theorem IR.reads{p ks}(hp:p.hp=true)(hk:∀b,.h b∈ks->((∃i,.h i∈p.i.ts/\Ho m i b)\/b∉aZ m)/\b<h.length)(hl:∀k,.l k∉ks):IR m h p (fU ks):=
 ⟨fun h=>(by cases h),fun k h=>absurd h (hl k),fun k h=>(by cases h),fun b h=>(by cases h),hk,fun h=>(by rw[hp]at h;cases h)⟩
theorem mD{tx k}:Key.l k∉dF tx:=by cases tx<;>simp[dF]
theorem JY(hX:bT X P){ps ts}(hR:wB X P A m ps ts){at_ d x td tx}(hd:VR X P (AA A m) m ts.heap d td)(hx:VR X P (AA A m) m ts.heap x tx){v H1 pi qs}(hl:Vy X P at_ ps.heap d x=some (v,H1,pi,qs)) (hq:∀q∈qs,q):Nu X P A m ts (jC P at_ ts td tx) v H1 ⟨pi,false,false,true⟩:=by
 have hr:=hR.heap;unfold Vy at hl;split at hl
 .rename_i st xt vK Ik;split at hl
  .cases hl
  .rename_i hint;split at hl
   .rename_i e size zu;split at hl
    .rename_i FP;obtain⟨hz,h0⟩:=oH zu;split at hl
     .rename_i rows is hs;obtain⟨new,s1,s2,s3⟩:=VN (m':=bW is m) hX hr hx hz hs;have hk0:IR m ts.heap ⟨fU (zB X x),false,false,true⟩ (fU (dF tx)):=IR.reads rfl (fun b hb=>vg hr hx hz hs hb) fun k=>mD;have hrn:rows.length=0↔rows=[]:=a6n;split at hl
      .
       simp only[a09,a1k]at hl;obtain⟨rfl,rfl,rfl,rfl⟩:=hl;have Dz:rows.length<=ah:=hq _ a3K;have:td=.nil .aO:=by
        cases hd with
        |nil=>rfl
        |gone hi _ _=>simp[bf]at hi
       subst this;by_cases hn:rows=[]
       .subst hn;obtain⟨m1,g1,g2,g3,g4⟩:=PZ hr is (k:=true) (ex:=false) (e:=e);exact⟨_,ts.heap,_,m1,by unfold jC;simp only[vK,Ik,hint,a3U,zu,s1,a5W,a2p,a2K],g1,g4,g2,g3,hk0,fun b hb=>by simp[fU]at hb⟩
       .obtain⟨m1,g1,g2,g3,g4⟩:=kP hr is (k:=true) (ex:=false) (x:=false) s3 s2 hn hz h0 (by simp);refine⟨_,ts.heap++[.cells .own new],_,m1,?_,g1,g4,g2,g3,hk0,fun b hb=>by simp[fU]at hb⟩;unfold jC;simp only[vK,Ik,hint,a3U,zu,s1,a2K,hrn,hn,s2,a2p,ku FP Dz]
      .
       rename_i b;split at hl
       .rename_i k ex t' l hb;split at hl
        .cases hl
        rename_i hnb;split at hl
        .rename_i l2 J4;obtain⟨rfl,rfl⟩:=sF J4;simp only[a09,a1k]at hl;obtain⟨rfl,rfl,rfl,rfl⟩:=hl;have Dz:l2.length+rows.length<=ah:=hq _ a3K;obtain⟨mb,g1,g2⟩:=hr.at_ b _ hb;have SY:∀{c:Nat},Ho m b c\/c∉aZ m->c<ts.heap.length->IR m ts.heap ⟨⟨false,.h b::zB X x,[.h b]⟩,false,false,true⟩ (fU (.h c::dF tx)):=fun{c} hc aQ=>IR.reads rfl (fun d hd=>by
          rcases a1E.1 hd with e0|e0
          .cases e0;rcases hc with hc|hc
           .exact⟨.inl ⟨b,a3K,hc⟩,aQ⟩
           .exact⟨.inr hc,aQ⟩
          .obtain⟨h0,h9⟩:=vg hr hx hz hs e0;rcases h0 with⟨i,h1,h2⟩|h1
           .exact⟨.inl ⟨i,a3I _ h1,h2⟩,h9⟩
           .exact⟨.inr h1,h9⟩) fun j hj=>by
            rcases a1E.1 hj with e0|e0
            .cases e0
            .exact mD e0
         have kU:IR m ts.heap ⟨⟨false,.h b::zB X x,[.h b]⟩,false,false,true⟩ (fU (dF tx)):=IR.reads rfl (fun d hd=>by
          obtain⟨h0,h9⟩:=vg hr hx hz hs hd;rcases h0 with⟨i,h1,h2⟩|h1
          .exact⟨.inl ⟨i,a3I _ h1,h2⟩,h9⟩
          .exact⟨.inr h1,h9⟩) fun j hj=>mD hj
         cases mb with
         |dD z=>
          cases hd with
          |gone hi e' _=>simp only[bf,a09]at hi;subst hi;rw[g1]at e';cases e'
          |own e' o=>
           rw[g1]at e';cases e';have hlr:LR X P (AA A m) m ts.heap k ex t' l2 td:=g2;have Vd:eG X P (FA A m (b::is)) (bW (b::is) m) ts.heap t' rows new 0 size:=(s3.mono fun c hc=>FA.mono (fun i hi=>a3I _ hi) hc).jH hX;cases hlr with
           |nil=>
            simp only[aae];by_cases hn:rows=[]
            .subst hn;obtain⟨m1,f1,f2,f3,f4⟩:=PZ hr (b::is) (k:=k&&ex) (ex:=false) (e:=t');exact⟨_,ts.heap,_,m1,by unfold jC;simp only[vK,Ik,hint,a3U,zu,s1,a5W,a2p,a2K],f1,f4,f2,f3,kU,fun c hc=>by simp[fU]at hc⟩
            .obtain⟨m1,f1,f2,f3,f4⟩:=kP hr (b::is) (k:=k&&ex) (ex:=false) (x:=false) Vd s2 hn hz h0 (by simp);refine⟨_,ts.heap++[.cells .own new],_,m1,?_,f1,f4,f2,f3,kU,fun c hc=>by simp[fU]at hc⟩;unfold jC;simp only[vK,Ik,hint,a3U,zu,s1,a2K,hrn,hn,s2,a2p,ku FP (show rows.length<=ah by omega)]
           |emp p0 p1 p2 p3 p4=>
            rename_i c off sz cs;rw[hz]at p3;cases p3;simp only[aae];by_cases hn:rows=[]
            .subst hn;obtain⟨m1,f1,f2,f3,f4⟩:=push_empty hr (b::is) (k:=k&&ex) (ex:=false) hz h0 (.inl p0) p1 p2;exact⟨_,ts.heap,_,m1,by unfold jC;simp only[vK,Ik,hint,a3U,zu,s1,a5W,a2p,a2K],f1,f4,f2,f3,kU,fun c hc=>by simp[fU]at hc⟩
            .obtain⟨m1,f1,f2,f3,f4⟩:=kP hr (b::is) (k:=k&&ex) (ex:=false) (x:=false) Vd s2 hn hz h0 (by simp);refine⟨_,ts.heap++[.cells .own new],_,m1,?_,f1,f4,f2,f3,SY (c:=c) (.inr p0.2) (fH p1),fun c hc=>by simp[fU]at hc⟩;have lX:eF size ts.heap (.aO c off 0 0 size true)=some (0,[]):=(by simp[eF]);unfold jC;simp only[vK,Ik,hint,a3U,zu,s1,a2K,hrn,hn,s2,a2p,a3L,Nat.le_zero_eq,ku FP (show rows.length<=ah by omega),lX,a1n,aae]
           |some p1 p2 p3 p4 p5 p6 p7 p8 p9=>
            rename_i c sz xx kk cs;rw[hz]at p2;cases p2;have ru:(MB.dD (TV.aO c 0 l2.length l2.length size xx)).own=some c:=by simp only[MB.own];rw[a18 (by simpa using p1)]
            by_cases hn:rows=[]
            .subst hn;simp only[a6g];obtain⟨m1,f0,f1,f2,f3,f4⟩:=Hq (pb:=.list (k&&ex) false t' l2) hr is g1 ru ru rfl (fun _ _=>rfl) (fun cs hc=>⟨cs,hc,a1l _⟩) (fun hF hU=>LR.some p1 hz p3 p4 p5 (fun hk=>p6 (by simp at hk;exact hk.1)) (by simp) p8 (p9.step hF hU));exact⟨_,ts.heap,_,m1,by unfold jC;simp only[vK,Ik,hint,a3U,zu,s1,a5W,a2p,a2K],f1,.own f4 rfl,f2,f3,kU,fun c hc=>by simp[fU]at hc⟩
            .have hle:¬l2.length+rows.length<=l2.length:=by have:rows.length≠0:=fun e0=>hn (hrn.1 e0);omega
             have iI:l2++rows≠[]:=(by simp[p1]);cases xx with
             |true=>
              have hold:eF size ts.heap (.aO c 0 l2.length l2.length size true)=some (l2.length,cs):=by simp only[eF,a2p];rw[a18 (fun e0=>p1 (a6n.1 e0)),xQ p4 (by omega)];simp only[sub];rw[a1e (by omega),ab3,aai (by omega)];rfl
              have hw1:eG X P (FA A m (b::is)) (bW (b::is) m) ts.heap t' l2 cs 0 size:=(p9.mono fun c hc=>.inl hc).jH hX;obtain⟨m1,f1,f2,f3,f4⟩:=kP hr (b::is) (k:=k&&ex) (ex:=false) (x:=false) (hw1.app Vd p8) (by rw[a1B,a1B,a3W,p8,s2]) iI hz h0 (by simp);refine⟨_,ts.heap++[.cells .own (cs++new)],_,m1,?_,f1,f4,f2,f3,SY (c:=c) (.inl (iY g1 ru)) (a0x.1 p4).1,fun c hc=>by simp[fU]at hc⟩;unfold jC;simp only[vK,Ik,hint,a3U,zu,s1,a2K,hrn,hn,s2,a2p,hle,ku FP Dz,hold,a1n,a1B]
             |false=>
              have hex:ex=false:=by cases ex with
               |true=>exact absurd (p7 rfl) (by simp)
               |false=>rfl
              subst hex;have aQ:=(a0x.1 p4).1;obtain⟨m1,f0,f1,f2,f3,f4⟩:=Hq (pb:=.list (k&&false) false t' (l2++rows)) (h1:=ts.heap.set c (.cells kk.more (cs++new))) (Ns:=.dD (.aO c 0 (l2.length+rows.length) (l2.length+rows.length) size false)) hr is g1 ru
               (by simp only[MB.own];rw[a18 (by omega)]) (by simp) (fun d hd=>a1y (afJ hd)) (fun F8 MG=>⟨cs++new,by simp[aU,aQ],by
                simp only[aU,p4,a09]at MG;subst MG;simp⟩) (fun hF hU=>by
                have Sl:=iK (h:=ts.heap) (b::is) m;have RV:∀q cs',FA A m is q->aU ts.heap q=some cs'->AA A (bW (b::is) m++[.dD (.aO c 0 (l2.length+rows.length) (l2.length+rows.length) size false)]) q/\(ts.heap.set c (.cells kk.more (cs++new)))[q]? = ts.heap[q]?:=fun q cs' hq hc=>by
                 have Zw:q≠c:=fun e0=>by
                  subst e0;rcases hq with hq|⟨i,mb,e1,e2,e3⟩
                  .exact hq.2 (aY g1 ru)
                  .have:=jc hr.nodup g1 e2 ru e3;subst this;exact hnb (by simpa using e1)
                 have hg:=FA.gone hr (FA.mono (js:=b::is) (fun i hi=>a3I _ hi) hq);refine⟨⟨hg.1,fun hm=>?_⟩,a1y (afJ Zw)⟩;rw[jA,a3M,kY]at hm;rcases hm with hm|hm
                 .exact hg.2 hm
                 .simp only[MB.own]at hm;rw[a18 (by omega)]at hm;simp at hm;exact Zw hm
                have:=LR.some (X:=X) (P:=P) (A:=AA A (bW (b::is) m++[.dD (.aO c 0 (l2.length+rows.length) (l2.length+rows.length) size false)])) (m:=bW (b::is) m++[.dD (.aO c 0 (l2.length+rows.length) (l2.length+rows.length) size false)]) (h:=ts.heap.set c (.cells kk.more (cs++new))) (k:=k&&false) (ex:=false) (t:=t') (l:=l2++rows) (b:=c) (sz:=size) (e:=false) (kk:=kk.more) (cs:=cs++new)
                 iI hz h0 (by simp[aQ]) (by cases kk<;>simp[BK.more]) (by simp) (by simp) (by rw[a1B,a1B,a3W,p8,s2]) ((p9.step hF hU).app (s3.move hX RV) p8)
                rw[a1B]at this;exact this)
              refine⟨_,ts.heap.set c (.cells kk.more (cs++new)),⟨false,.h c::dF tx,[.h c]⟩,m1,?_,f1,.own f4 rfl,f2,f3,⟨fun h=>(by cases h),fun j hj=>?_,fun j hj=>(by simp at hj),fun d hd=>?_,fun d hd=>?_,fun h=>(by cases h)⟩,fun d hd=>?_⟩
              .unfold jC;simp only[vK,Ik,hint,a3U,zu,s1,a2K,hrn,hn,s2,a2p,hle,ku FP Dz,p4,ne_eq,not_true_eq_false,p5,p8,a6n,p1,or_self]
              .rcases a1E.1 hj with e0|e0
               .cases e0
               .exact absurd e0 mD
              .simp at hd;subst hd;exact .inl ⟨b,by simp,iY g1 ru⟩
              .rcases a1E.1 hd with e0|e0
               .cases e0;exact⟨.inl ⟨b,a3K,iY g1 ru⟩,aQ⟩
               .obtain⟨h0,h9⟩:=vg hr hx hz hs e0;rcases h0 with⟨i,h1,h2⟩|h1
                .exact⟨.inl ⟨i,a3I _ h1,h2⟩,h9⟩
                .exact⟨.inr h1,h9⟩
              .simp at hd;subst hd;exact aY g1 ru
         |_=>exact g2.elim
        .cases hl
       .cases hl
      .
       rename_i t' l;split at hl
       .rename_i l2 J4;obtain⟨rfl,rfl⟩:=sF J4;simp only[a09,a1k]at hl;obtain⟨rfl,rfl,rfl,rfl⟩:=hl;have Dz:l2.length+rows.length<=ah:=hq _ a3K;have GK:l2=[]\/rows≠[]:=hq _ (a3I _ a3K);cases hd with
        |gone hi _ _=>simp[bf]at hi
        |ql=>
         simp only[aae];by_cases hn:rows=[]
         .subst hn;obtain⟨m1,f1,f2,f3,f4⟩:=PZ hr is (k:=true) (ex:=false) (e:=t');exact⟨_,ts.heap,_,m1,by unfold jC;simp only[vK,Ik,hint,a3U,zu,s1,a5W,a2p,a2K],f1,f4,f2,f3,hk0,fun c hc=>by simp[fU]at hc⟩
         .obtain⟨m1,f1,f2,f3,f4⟩:=kP hr is (k:=true) (ex:=false) (x:=false) s3 s2 hn hz h0 (by simp);refine⟨_,ts.heap++[.cells .own new],_,m1,?_,f1,f4,f2,f3,hk0,fun c hc=>by simp[fU]at hc⟩;unfold jC;simp only[vK,Ik,hint,a3U,zu,s1,a2K,hrn,hn,s2,a2p,ku FP (show rows.length<=ah by omega)]
        |dD p1 p2 p2' p3 p4 p5 p6 p7 p8 p9=>
         rename_i c off cap sz xx cs;rw[hz]at p3;cases p3;obtain⟨rfl,rfl⟩:=p7 rfl;have hk3:IR m ts.heap ⟨fU (zB X x),false,false,true⟩ (fU (.h c::dF tx)):=IR.reads rfl (fun d hd=>by
          rcases a1E.1 hd with e0|e0
          .cases e0;exact⟨.inr p1.2,fH p2⟩
          .exact vg hr hx hz hs e0) fun j hj=>by
           rcases a1E.1 hj with e0|e0
           .cases e0
           .exact mD e0
         by_cases hn:rows=[]
         .have qW:l2=[]:=by rcases GK with h1|h1;exact h1;exact absurd hn h1
          subst hn;subst qW;obtain⟨m1,f1,f2,f3,f4⟩:=push_empty hr is (k:=true) (ex:=false) hz h0 (.inl p1) p2 (by simpa using p5);exact⟨_,ts.heap,_,m1,by unfold jC;simp only[vK,Ik,hint,a3U,zu,s1,a5W,a2p,a2K],f1,f4,f2,f3,hk0,fun c hc=>by simp[fU]at hc⟩
         .have hle:¬l2.length+rows.length<=l2.length:=by have:rows.length≠0:=fun e0=>hn (hrn.1 e0);omega
          have hw1:eG X P (FA A m is) (bW is m) ts.heap t' l2 ((cs.drop off).take (l2.length*size)) 0 size:=by have hh:eG X P (AA A m) m ts.heap t' l2 cs off size:=⟨p8,p5,p9⟩;exact(hh.take.mono fun c hc=>.inl hc).jH hX
          have hlen:((cs.drop off).take (l2.length*size)).length=l2.length*size:=by rw[a4t,a4g];omega
          obtain⟨m1,f1,f2,f3,f4⟩:=kP hr is (k:=true) (ex:=false) (x:=false) (hw1.app s3 hlen) (by rw[a1B,a1B,a3W,hlen,s2]) (by simp[hn]) hz h0 (by simp);refine⟨_,ts.heap++[.cells .own ((cs.drop off).take (l2.length*size)++new)],_,m1,?_,f1,f4,f2,f3,hk3,fun c hc=>by simp[fU]at hc⟩;have lX:eF size ts.heap (.aO c off l2.length l2.length size true)=some (l2.length,(cs.drop off).take (l2.length*size)):=by
           simp only[eF,a2p,sub];by_cases qW:l2.length=0
           .rw[a1e qW,qW,ado,List.take_zero]
           .rw[a18 qW,p2' (fun e0=>qW (by rw[e0];rfl))];simp only;rw[a1e p5];rfl
          unfold jC;simp only[vK,Ik,hint,a3U,zu,s1,a2K,hrn,hn,s2,a2p,hle,ku FP Dz,lX,a1n,a1B]
       .cases hl
      .
       rename_i b;split at hl
       .rename_i k ex t' l hb;split at hl
        .rename_i l2 J4;obtain⟨rfl,rfl⟩:=sF J4;simp only[a09,a1k]at hl;obtain⟨rfl,rfl,rfl,rfl⟩:=hl;have Dz:l2.length+rows.length<=ah:=hq _ a3K;have hn:rows≠[]:=hq _ (a3I _ a3K);obtain⟨mb,g1,g2⟩:=hr.at_ b _ hb;have kU:∀d,.h d∈dF tx->((∃i,.h i∈(⟨fU (.h b::zB X x),false,false,true⟩:PI).i.ts/\Ho m i d)\/d∉aZ m)/\d<ts.heap.length:=fun d hd=>by
          obtain⟨h0,h9⟩:=vg hr hx hz hs hd;rcases h0 with⟨i,h1,h2⟩|h1
          .exact⟨.inl ⟨i,a3I _ h1,h2⟩,h9⟩
          .exact⟨.inr h1,h9⟩
         have hk3:IR m ts.heap ⟨fU (.h b::zB X x),false,false,true⟩ (fU (dF tx)):=IR.reads rfl kU fun j hj=>mD hj;have SY:∀{c:Nat},Ho m b c\/c∉aZ m->c<ts.heap.length->IR m ts.heap ⟨fU (.h b::zB X x),false,false,true⟩ (fU (.h c::dF tx)):=fun{c} hc aQ=>IR.reads rfl (fun d hd=>by
          rcases a1E.1 hd with e0|e0
          .cases e0;rcases hc with hc|hc
           .exact⟨.inl ⟨b,a3K,hc⟩,aQ⟩
           .exact⟨.inr hc,aQ⟩
          .exact kU d e0) fun j hj=>by
           rcases a1E.1 hj with e0|e0
           .cases e0
           .exact mD e0
         cases mb with
         |dD z=>
          have hlr:LR X P (AA A m) m ts.heap k ex t' l2 z:=g2;cases hd with
          |gone hi e' _=>simp only[bf,a09]at hi;subst hi;rw[g1]at e';cases e'
          |KA e'=>
           rw[g1]at e';cases e';cases hlr with
           |nil=>
            simp only[aae];obtain⟨m1,f1,f2,f3,f4⟩:=kP hr is (k:=true) (ex:=false) (x:=false) s3 s2 hn hz h0 (by simp);refine⟨_,ts.heap++[.cells .own new],_,m1,?_,f1,f4,f2,f3,hk3,fun c hc=>by simp[fU]at hc⟩;unfold jC;simp only[vK,Ik,hint,a3U,zu,s1,a2K,hrn,hn,s2,a2p,ku FP (show rows.length<=ah by omega)]
          |I9 e'=>
           rw[g1]at e';cases e';cases hlr with
           |emp p0 p1 p2 p3 p4=>
            rename_i c off sz cs;rw[hz]at p3;cases p3;simp only[aae];obtain⟨m1,f1,f2,f3,f4⟩:=kP hr is (k:=true) (ex:=false) (x:=false) s3 s2 hn hz h0 (by simp);refine⟨_,ts.heap++[.cells .own new],_,m1,?_,f1,f4,f2,f3,SY (c:=c) (.inr p0.2) (fH p1),fun c hc=>by simp[fU]at hc⟩;have lX:eF size ts.heap (.aO c off 0 0 size true)=some (0,[]):=(by simp[eF]);unfold jC;simp only[vK,Ik,hint,a3U,zu,s1,a2K,hrn,hn,s2,a2p,a3L,Nat.le_zero_eq,ku FP (show rows.length<=ah by omega),lX,a1n,aae]
           |some p1 p2 p3 p4 p5 p6 p7 p8 p9=>
            rename_i c sz xx kk cs;rw[hz]at p2;cases p2;have ru:(MB.dD (TV.aO c 0 l2.length l2.length size xx)).own=some c:=by simp only[MB.own];rw[a18 (by simpa using p1)]
            have hle:¬l2.length+rows.length<=l2.length:=by have:rows.length≠0:=fun e0=>hn (hrn.1 e0);omega
            have iI:l2++rows≠[]:=(by simp[p1]);have hold:eF size ts.heap (.aO c 0 l2.length l2.length size true)=some (l2.length,cs):=by simp only[eF,a2p];rw[a18 (fun e0=>p1 (a6n.1 e0)),xQ p4 (by omega)];simp only[sub];rw[a1e (by omega),ab3,aai (by omega)];rfl
            have hw1:eG X P (FA A m is) (bW is m) ts.heap t' l2 cs 0 size:=(p9.mono fun c hc=>.inl hc).jH hX;obtain⟨m1,f1,f2,f3,f4⟩:=kP hr is (k:=true) (ex:=false) (x:=false) (hw1.app s3 p8) (by rw[a1B,a1B,a3W,p8,s2]) iI hz h0 (by simp);refine⟨_,ts.heap++[.cells .own (cs++new)],_,m1,?_,f1,f4,f2,f3,SY (c:=c) (.inl (iY g1 ru)) (a0x.1 p4).1,fun c hc=>by simp[fU]at hc⟩;unfold jC;simp only[vK,Ik,hint,a3U,zu,s1,a2K,hrn,hn,s2,a2p,hle,ku FP Dz,hold,a1n,a1B]
         |_=>exact g2.elim
        .cases hl
       .cases hl
      .cases hl
     .cases hl
    .cases hl
   .cases hl
 .cases hl
end
open Go Tw
theorem Y0{α}{l rows:List α}{o k}(h:o+k<=l.length)(hk:k<=rows.length):(PL l o k rows).length=l.length:=by unfold PL;simp;omega
theorem a4q{α}{l rows:List α}{o}:PL l o 0 rows=l:=by unfold PL;simp
section
variable{X:mV}{P:LI1}{A F:Nat->Prop}{m m':List MB}{h h':List HB}{H H':List (PB X.Γ)}
theorem eG.put{t sz o k l rows cs new}(h1:eG X P F m h t l cs 0 sz)(h2:eG X P F m h t rows new 0 sz)(hc:cs.length=l.length*sz)(hn:new.length=rows.length*sz)(ho:o+k<=l.length)(hk:k<=rows.length) :eG X P F m h t (PL l o k rows) (cs.take (o*sz)++new.take (k*sz)++cs.drop (o*sz+k*sz)) 0 sz:=by
 have a1:=(h1.part (o:=0) (n:=o) (by omega)).take;have a2:=(h2.part (o:=0) (n:=k) (by omega)).take;have a3:=(h1.part (o:=o+k) (n:=l.length-(o+k)) (by omega)).take;have l1:((l.drop 0).take o).length=o:=by simp;omega
 have l2:((rows.drop 0).take k).length=k:=by simp;omega
 have l3:((l.drop (o+k)).take (l.length-(o+k))).length=l.length-(o+k):=by simp
 rw[l1]at a1;rw[l2]at a2;rw[l3]at a3;simp only[ado,adi,a3L,ab3]at a1 a2 a3;have m1:o*sz<=cs.length:=by rw[hc];exact a3N _ (by omega)
 have m2:k*sz<=new.length:=by rw[hn];exact a3N _ hk
 have r:=(a1.app a2 (by rw[a4t,a4t];rw[a7z m1,a7z (by omega)])).app a3 (by simp only[a1B,a4t];rw[a7z m1,a7z m2,a7z (by omega),a7z hk,a3W])
 have e1:l.drop (o+k)=(l.drop (o+k)).take (l.length-(o+k)):=by rw[aai (by simp)]
 have e2:cs.drop (o*sz+k*sz)=(cs.drop ((o+k)*sz)).take ((l.length-(o+k))*sz):=by rw[a3W,aai];rw[a4g,hc,Nat.sub_mul,a3W];omega
 unfold PL;rw[e1,e2];exact r
theorem F9(hX:bT X P){ps ts}(hR:wB X P A m ps ts){at_}{st e size b o n:Nat}{k0 ex l rows x td tx}(vK:at_[0]? = some st)(zu:jU P st=some (e,size))(hx:VR X P (AA A m) m ts.heap x tx)(hs:Bg X ps.heap e size x=some (rows,[])) (hb:ps.heap[b]? = some (.list k0 ex e l)) {mb} (g1:m[b]? = some mb) (g2:BR X P (AA A m) m ts.heap (.list k0 ex e l) mb)(htd:(∃c sz' xx' xx cap,mb=.dD (.aO c 0 l.length l.length sz' xx')/\l≠[]/\td=.aO c (o*sz') n cap sz' xx/\(n=0\/o+cap=l.length))\/(n=0/\(td=.nil .aO\/∃c f cap xx,td=.aO c f 0 cap size xx))) (hon:o+n<=l.length) (OY:isStr tx=false) :Nu X P A m ts (Ib P at_ ts td tx) (.int .i64 ((min rows.length n:Nat):Int)) (ps.heap.set b (.list k0 ex e (PL l o (min rows.length n) rows))) ⟨⟨false,.h b::zB X x,[.h b]⟩,false,false,true⟩:=by
 have hr:=hR.heap;obtain⟨hz,h0⟩:=oH zu;obtain⟨new,s1,s2,s3⟩:=VN (m':=m) hX hr hx hz hs;have Vd:eG X P (AA A m) m ts.heap e rows new 0 size:=s3.mono fun q hq=>by
  rcases hq with hq|⟨i,_,hi,_⟩
  .exact hq
  .simp at hi
 have kU:IR m ts.heap ⟨⟨false,.h b::zB X x,[.h b]⟩,false,false,true⟩ (fU (dF tx)):=IR.reads rfl (fun d hd=>by
  obtain⟨h0,h9⟩:=vg hr hx hz hs hd;rcases h0 with⟨i,h1,h2⟩|h1
  .exact⟨.inl ⟨i,a3I _ h1,h2⟩,h9⟩
  .exact⟨.inr h1,h9⟩) fun j hj=>mD hj
 have same:ps.heap.set b (.list k0 ex e l)=ps.heap:=by
  apply aaK;intro i;by_cases e:b=i
  .subst e;rw[a2w (a0x.1 hb).1,hb]
  .rw[a1y e]
 by_cases hk:min rows.length n=0
 .rw[hk,a4q,same];refine⟨.int .i64 0,ts.heap,fU (dF tx),m,?_,hr,.int _ _,.refl,.refl,kU,fun c hc=>by simp[fU]at hc⟩;unfold Ib;simp only[vK,zu,s1,s2,OY,adw,a2p];rcases htd with⟨c,sz',xx',xx,cap,rfl,iI,rfl,uf⟩|⟨rfl,rfl|⟨c,f,cap,xx,rfl⟩⟩
  .have:sz'=size:=by cases g2 with|some _ q2 _ _ _ _ _ _ _=>rw[hz]at q2;cases q2;rfl|emp=>exact absurd rfl iI
   simp only[this,a2p,hk]
  .rfl
  .simp only[a2p,hk]
 .rcases htd with⟨c,sz',xx',xx,cap,rfl,iI,rfl,uf⟩|⟨rfl,_⟩
  .cases g2 with
   |emp=>exact absurd rfl iI
   |some p1 p2 p3 p4 p5 p6 p7 p8 p9=>
    rename_i kk cs;rw[hz]at p2;cases p2;obtain⟨Ci,yL,afZ,hko⟩:=KC p5;have ak1:o*size+cap*size=cs.length:=by have:=uf.resolve_left (by omega);rw[p8,<-this,a3W]
    have aQ:=(a0x.1 p4).1;have ru:(MB.dD (TV.aO c 0 l.length l.length size xx')).own=some c:=by simp only[MB.own];rw[a18 (by simpa using p1)]
    have hkn:o+min rows.length n<=l.length:=(by omega);have hkr:min rows.length n<=rows.length:=Nat.min_le_left _ _;have m1:o*size+min rows.length n*size<=cs.length:=by rw[p8,<-a3W];exact a3N _ hkn
    have m2:min rows.length n*size<=new.length:=by rw[s2];exact a3N _ hkr
    have m3:min (min rows.length n*size) (rows.length*size)=min rows.length n*size:=a7z (by rw[<-s2];exact m2);have aq0:=eG.put p9 Vd p8 s2 hkn hkr;have nP:(cs.take (o*size)++new.take (min rows.length n*size)++cs.drop (o*size+min rows.length n*size)).length=cs.length:=by simp;omega
    have hl:=Y0 (rows:=rows) hkn hkr;obtain⟨q1,q2⟩:=hr.set (i:=b) (c:=c) (pb:=.list k0 ex e (PL l o (min rows.length n) rows)) (hb:=.cells Ci (cs.take (o*size)++new.take (min rows.length n*size)++cs.drop (o*size+min rows.length n*size))) g1 ru
     (fun F8 MG=>⟨_,by simp only[aU];rw[a2w aQ],by
      simp only[aU,p4,a09]at MG;subst MG;rw[nP];exact a1l _⟩)
     (fun hF=>by
      have ajd:PL l o (min rows.length n) rows≠[]:=fun e0=>by rw[e0]at hl;simp at hl;exact p1 (a6n.1 hl.symm)
      have r:=LR.some (k:=k0) (ex:=ex) (e:=xx') ajd hz p3 (by rw[a2w aQ]) afZ (fun e0=>hko (p6 e0)) p7 (by rw[nP,hl,p8]) (aq0.step hF .refl);rw[hl]at r;exact r)
    refine⟨.int .i64 ((min rows.length n:Nat):Int),_,⟨false,.h c::dF tx,[.h c]⟩,m,?_,q1,.int _ _,q2,.refl,?_,fun d hd=>?_⟩
    .unfold Ib;simp only[vK,zu,s1,s2,OY,adw,a2p,hk,a3U,a2g p4 yL ak1,xk,a4t,m3,m1,a1n]
    .refine⟨fun h=>(by cases h),fun k hk=>?_,fun k hk=>(by simp at hk),fun d hd=>?_,fun d hd=>?_,fun h=>(by cases h)⟩
     .rcases a1E.1 hk with e0|e0
      .cases e0
      .exact absurd e0 mD
     .simp at hd;subst hd;exact .inl ⟨b,a3K,iY g1 ru⟩
     .rcases a1E.1 hd with e0|e0
      .cases e0;exact⟨.inl ⟨b,a3K,iY g1 ru⟩,aQ⟩
      .obtain⟨h0,h9⟩:=vg hr hx hz hs e0;rcases h0 with⟨i,h1,h2⟩|h1
       .exact⟨.inl ⟨i,a3I _ h1,h2⟩,h9⟩
       .exact⟨.inr h1,h9⟩
    .simp at hd;subst hd;exact aY g1 ru
  .simp at hk
theorem a7w(hr:HR X P A m H h){e sz x tx}(hv:VR X P (AA A m) m h x tx){rows is}(hs:Bg X H e sz x=some (rows,is)):isStr tx=false:=by
 cases hv with
 |own e' _=>
  unfold Bg at hs;simp only at hs;split at hs
  .rename_i hb;obtain⟨mb,g1,g2⟩:=hr.at_ _ _ hb;rw[e']at g1;cases g1;cases g2<;>rfl
  cases hs
 |gone hi e' _=>
  cases x<;>simp only[bf,a09]at hi<;>first|cases hi|skip
  all_goals (unfold Bg at hs;simp only at hs)
  all_goals first|(cases hs;done)|skip
  all_goals
   split at hs
   .rename_i hb;obtain⟨mb,g1,g2⟩:=hr.at_ _ _ hb;rw[g1]at e';cases e'<;>exact g2.elim
   .cases hs
 |str=>simp[Bg]at hs
 |_=>rfl
theorem eG.vrs{t sz}:∀{l} {cs:List TV},eG X P F m h t l cs 0 sz->cs.length=l.length*sz->bZ X P F m h (FU X t l) cs
 | [],cs,_,hl=>by have:cs=[]:=a6n.1 (by simpa using hl);subst this;exact .nil
 |a::r,cs,hw,hl=>by
  have h1:=hw.row (j:=0) (a:=a) rfl;have h2:=(hw.part (o:=1) (n:=r.length) (by simp;omega)).take;have e1:((a::r).drop 1).take r.length=r:=by simp
  rw[e1]at h2;have hl':cs.length=r.length*sz+sz:=by rw[hl,a4C,a3W,abn]
  have e2:(cs.drop (0+1*sz)).take (r.length*sz)=cs.drop sz:=by rw[a3L,abn,aai];rw[a4g];omega
  rw[e2]at h2;have h3:=eG.vrs h2 (by rw[a4g];omega);have h4:bZ X P F m h (X.enc t a) (cs.take sz):=by have:=h1.1;simpa using this
  have:=h4.app h3;rw[ahh]at this;exact this
theorem Ve(hX:bT X P){ps ts}(hR:wB X P A m ps ts){at_ d x td tx}(hd:VR X P (AA A m) m ts.heap d td)(hx:VR X P (AA A m) m ts.heap x tx){v H1 pi}(hl:a7c X P at_ ps.heap d x=some (v,H1,pi)):Nu X P A m ts (Ib P at_ ts td tx) v H1 ⟨pi,false,false,true⟩:=by
 have hr:=hR.heap;unfold a7c at hl;split at hl
 .rename_i st vK;split at hl
  .rename_i e size zu;obtain⟨hz,h0⟩:=oH zu;split at hl
   .rename_i rows hs;obtain⟨new,s1,s2,s3⟩:=VN (m':=m) hX hr hx hz hs;have OY:isStr tx=false:=a7w hr hx hs;split at hl
    .simp only[a09,a1k]at hl;obtain⟨rfl,rfl,rfl⟩:=hl;have:td=.nil .aO:=by
      cases hd with
      |nil=>rfl
      |gone hi _ _=>simp[bf]at hi
     subst this;exact⟨_,ts.heap,_,m,by unfold Ib;simp only[vK,zu,s1,s2,OY,adw,a2p],hr,.int _ _,.refl,.refl,IR.reads rfl (fun b hb=>vg hr hx hz hs hb) fun k=>mD,fun b hb=>by simp[fU]at hb⟩
    .rename_i b;split at hl
     .rename_i k0 ex t' l hb;split at hl
      .rename_i l2 J4;obtain⟨rfl,rfl⟩:=sF J4;simp only[a09,a1k]at hl;obtain⟨rfl,rfl,rfl⟩:=hl;obtain⟨mb,g1,g2⟩:=hr.at_ b _ hb;refine F9 (o:=0) (n:=l2.length) hX hR vK zu hx hs hb g1 g2 ?_ (by omega) OY;cases hd with
       |gone hi e' _=>simp only[bf,a09]at hi;subst hi;rw[g1]at e';cases e'<;>exact g2.elim
       |own e' o=>
        rw[g1]at e';cases e';cases g2 with
        |nil=>exact .inr ⟨rfl,.inl rfl⟩
        |emp q1 q2 q3 q4 q5=>rw[hz]at q4;cases q4;exact .inr ⟨rfl,.inr ⟨_,_,_,_,rfl⟩⟩
        |some q1 q2=>rw[hz]at q2;cases q2;exact .inl ⟨_,_,_,_,_,rfl,q1,by rw[ado],.inr (a3L _)⟩
      .cases hl
     .cases hl
    .rename_i b o n;split at hl
     .rename_i k0 ex t' l hb;split at hl
      .rename_i l2 J4;obtain⟨rfl,rfl⟩:=sF J4;simp only[a09,a1k]at hl;obtain⟨rfl,rfl,rfl⟩:=hl;obtain⟨mb,g1,g2⟩:=hr.at_ b _ hb;cases hd with
       |gone hi e' _=>simp only[bf,a09]at hi;subst hi;rw[g1]at e';cases e'<;>exact g2.elim
       |win e' o1 o2 o3=>
        rw[g1]at e';cases e';cases g2 with
        |emp q1 q2 q3 q4 q5=>
         rw[hz]at q4;cases q4;have:n=0:=(by omega);subst this;exact F9 hX hR vK zu hx hs hb g1 (LR.emp q1 q2 q3 hz q5) (.inr ⟨rfl,.inr ⟨_,_,_,_,rfl⟩⟩) o1 OY
        |some q1 q2 q3 q4 q5 q6 q7 q8 q9=>exact F9 hX hR vK zu hx hs hb g1 (LR.some q1 q2 q3 q4 q5 q6 q7 q8 q9) (.inl ⟨_,_,_,_,_,rfl,q1,by rw[a3L],o3⟩) o1 OY
       |CY e'=>
        rw[g1]at e';cases e';exact F9 hX hR vK zu hx hs hb g1 g2 (.inr ⟨rfl,.inl rfl⟩) (by omega) OY
      .cases hl
     .cases hl
    .rename_i b off len cap sz xx;split at hl
     .rename_i cs hb;split at hl
      .rename_i hc;obtain⟨hc1,MG⟩:=hc;subst hc1;simp only[a0A,a1k]at hl;obtain⟨U3,h1,rfl,rfl,rfl⟩:=hl;obtain⟨mb,g1,g2⟩:=hr.at_ b _ hb;cases mb with
       |gQ c=>
        obtain⟨cs',g3,g4⟩:=g2;cases hd with
        |gone hi e _=>simp only[bf,a09]at hi;subst hi;rw[g1]at e;cases e
        |aO e=>
         rw[g1]at e;cases e;have Vd:eG X P (AA A m) m ts.heap _ rows new 0 sz:=s3.mono fun q hq=>by
          rcases hq with hq|⟨i,_,hi,_⟩
          .exact hq
          .simp at hi
         have hv:=(Vd.vrs s2).take (min rows.length len*sz);obtain⟨KF,g5,g6⟩:=IX g4 hv h1;have hlen:KF.length=cs'.length:=by
          unfold xk at g5;split at g5
          .cases g5;simp only[a1B,a4t,a4g]at *;omega
          .cases g5
         have aQ:=(a0x.1 g3).1;obtain⟨hr1,hF⟩:=hr.set (pb:=.cells U3) (hb:=.cells .own KF) g1 (c:=c) rfl (fun F8 XZ=>⟨KF,by simp[aU,aQ],by
          simp only[aU,g3,a09]at XZ;subst XZ;omega⟩) fun hF=>⟨KF,by simp[aQ],g6.step hF .refl⟩
         refine⟨.int .i64 ((min rows.length len:Nat):Int),_,⟨false,.h c::dF tx,[.h c]⟩,m,?_,hr1,.int _ _,hF,.refl,?_,fun d hd=>?_⟩
         .unfold Ib;simp only[vK,zu,s1,s2,OY,adw,a2p];rw[a18 (by omega),XU g3,g5];rfl
         .refine⟨fun h=>(by cases h),fun k hk=>?_,fun k hk=>(by simp at hk),fun d hd=>?_,fun d hd=>?_,fun h=>(by cases h)⟩
          .rcases a1E.1 hk with e0|e0
           .cases e0
           .exact absurd e0 mD
          .simp at hd;subst hd;exact .inl ⟨b,a3K,iY g1 rfl⟩
          .rcases a1E.1 hd with e0|e0
           .cases e0;exact⟨.inl ⟨b,a3K,iY g1 rfl⟩,aQ⟩
           .obtain⟨h0,h9⟩:=vg hr hx hz hs e0;rcases h0 with⟨i,h1,h2⟩|h1
            .exact⟨.inl ⟨i,a3I _ h1,h2⟩,h9⟩
            .exact⟨.inr h1,h9⟩
         .simp at hd;subst hd;exact aY g1 rfl
       |_=>exact g2.elim
      .cases hl
     .cases hl
    .cases hl
   .cases hl
  .cases hl
 .cases hl
end
open Go Tw
section
variable{X:mV}{P:LI1}{A F:Nat->Prop}{m m':List MB}{h h':List HB}{H H':List (PB X.Γ)}
theorem VPs.mF{ps qs}(hp:VPs X P A m h ps qs):qs.all (fun p=>p.2.cells.all iO)=ps.all fun p=>p.2.cells.all a0h:=by
 induction ps generalizing qs with
 |nil=>
  have:=hp.1;cases qs with
  |nil=>rfl
  |cons=>simp at this
 |cons a ps ih=>
  obtain⟨x,r,rfl,h1,h2⟩:=hp.inv;simp only[acp,EY (IW h1),ih h2]
theorem Y1{pl}:∀{qs} {xs r:List TV},um pl xs qs=some r->r.length=xs.length
 | [],xs,r,h=>by simp only[um,a09]at h;rw[h]
 |(i,v)::qs,xs,r,h=>by
  simp only[um]at h;split at h
  .split at h
   .split at h
    .rename_i cs' ho;rw[Y1 h];unfold xk at ho;split at ho
     .cases ho;simp only[a1B,a4t,a4g];omega
     cases ho
    cases h
   cases h
  cases h
theorem oP{z}:∀n,(times z n).length=n*z.length
 | 0=>by simp[times]
 |n+1=>by simp[times,oP n,a3W];omega
theorem qx(hX:bT X P){ps:bV X.Γ}{ts:St}(hR:wB X P A m ps ts){t:LI2}{len:Nat}{vs:List (Nat×PV X.Γ)}{xs:List (Nat×TV)}(hv:VPs X P (AA A m) m ts.heap vs xs){v:PV X.Γ}{H1:List (PB X.Γ)}{raw:Bool} (hl:vS X P t len ps.heap vs raw=some (v,H1)):Nu X P A m ts ((qR P t len ts xs).map fun(v,s)=>(v,s,dn)) v H1 yw:=by
 have hr:=hR.heap;unfold vS at hl;split at hl
 .rename_i e n zu;obtain⟨hz,h0⟩:=oH zu;split at hl
  .rename_i hc;split at hl
   .rename_i z hzz;obtain⟨z',q1,q2⟩:=IY (A:=AA A m) (m:=m) (h:=ts.heap) hzz;split at hl
    .rename_i Xu;split at hl
     .rename_i cs hf;obtain⟨cs',q3,q4⟩:=O5 hv (XV q2 len) hf;have hlen:cs'.length=len*n:=(by rw[Y1 q3,oP,<-q2.1,Xu]);have hT:∀w h1,(w,h1)=(TV.aO ts.heap.length 0 len len n true,ts.heap++[HB.cells .own cs'])->(qR P t len ts xs).map (fun(v,s)=>(v,s,dn))=some (w,{ ts with heap:=h1 },dn):=by intro w h1 e0;cases e0;simp only[qR,zu,hv.mF,hc,adw,a2p,q1,<-q2.1,Xu,q3,a1n]
      split at hl
      .rename_i rows is hd;cases hl;have hd:yR X ps.heap e n len cs=some (rows,is):=by
        split at hd
        .cases hd
        .exact hd
       obtain⟨e1,hw⟩:=Bv (m':=bW is m) hX hr q4 hd;by_cases hn:rows=[]
       .subst hn;have e2:len=0:=(by simpa using e1.symm);subst e2;have JW:cs'=[]:=a6n.1 (by omega);subst JW;have J5:HR X P A (bW is m++[.dD (.aO ts.heap.length 0 0 0 n true)]) (aX is ps.heap++[.list true true e []]) (ts.heap++[.cells .own []])/\_:=(hr.aX is).push (pb:=.list true true e []) (hb:=.cells .own []) (mb:=.dD (.aO ts.heap.length 0 0 0 n true)) (.inr rfl)
         (LR.emp (b:=ts.heap.length) (cs:=[]) ⟨hr.up _ (a1l _),fun hm=>by rw[jA,a3M,kY]at hm;simp[MB.own]at hm;have:=(hr.aX is).inb hm;omega⟩ (by simp[aU]) (a1l _) hz h0)
        have Sl:=iK (h:=ts.heap) is m;refine⟨_,_,_,_,hT _ _ rfl,J5.1,.own ?_ rfl,Sl.1.trans J5.2.1,Sl.2.trans J5.2.2,.none,fun b hb=>by cases hb⟩;rw[<-hr.len,<-nD is m];simp
       .have J5:=kP hr is (k:=true) (ex:=true) (x:=true) hw (by rw[hlen,e1]) hn hz h0 (by simp);obtain⟨m1,g1,g2,g3,g4⟩:=J5;refine⟨_,_,_,m1,hT _ _ rfl,g1,?_,g2,g3,.none,fun b hb=>by cases hb⟩;rw[e1]at g4;exact g4
      .cases hl;have hp:=hr.push (pb:=.cells cs) (hb:=.cells .own cs') (mb:=.gQ ts.heap.length) (.inl rfl) ⟨cs',by simp,q4.step (by
        refine⟨by simp,fun b hb _=>by rw[a0U hb],fun b hb=>?_,fun b cs hc=>⟨cs,by rw[fE (a0U (fH hc)),hc],a1l _⟩⟩;rw[jA,a3M,kY]at hb;rcases hb with hb|hb
        .exact .inl hb
        .simp[MB.own]at hb;exact .inr (by omega)) (xU _)⟩
       exact⟨_,_,_,_,hT _ _ rfl,hp.1,.aO (by rw[<-hr.len];simp),hp.2.1,hp.2.2,.none,fun b hb=>by cases hb⟩
     .cases hl
    .cases hl
   .cases hl
  .cases hl
 .cases hl
theorem Nu.fzl(hX:bT X P){ts:St}{r:Option (TV×St×yH)}{o:Option (PV X.Γ×List (PB X.Γ))}{v:PV X.Γ}{H1:List (PB X.Γ)}{pi:PI}{i:Nat}(hm:∀u H,o=some (u,H)->Nu X P A m ts r u H pi)(hf:Vz X o i=some (v,H1)):Nu X P A m ts r v H1 pi:=by
 unfold Vz at hf;split at hf
 rotate_left
 .cases hf
 rename_i j H;split at hf
 .rename_i e;subst e;split at hf
  .rename_i k ex t l hk;cases hf;obtain⟨w,h1,ti,m1,e,hr,v0,fr,up,ir,hw⟩:=hm _ _ rfl;obtain⟨mb,g1,g2⟩:=hr.at_ i _ hk;cases mb with
   |dD y=>
    have hy:w=y:=by
     cases v0 with
     |own e _=>rw[g1]at e;cases e;rfl
     |gone hi e _=>simp only[bf,a09]at hi;subst hi;rw[g1]at e;cases e
    subst hy;have hF:=iK (h:=h1) [i] m1;exact⟨w,h1,ti,bW [i] m1,e,hr.aX [i],(KE (m':=bW [i] m1) hX hr g2 g1 (is:=[i]) (by simp)).mono fun b hb=>FA.gone hr hb,fr.trans hF.1,up.trans hF.2,ir,hw⟩
   |_=>exact g2.elim
  cases hf
 cases hf
theorem KG{k n x}(hv:VR X P A m h (.int k n) x):x=.int k n:=by
 cases hv with
 |int=>rfl
 |gone hi _ _=>simp[bf]at hi
theorem Y2{t sz a z}(ha:bZ X P F m h (X.enc t a) z)(hz:z.length=sz):∀n,eG X P F m h t (List.replicate n a) (times z n) 0 sz
 | 0=>⟨fun j a hj=>by simp at hj,by simp,fun j a i c v hj=>by simp at hj⟩
 |n+1=>by
  have h1:eG X P F m h t [a] z 0 sz:=by
   refine⟨fun j b hj=>?_,by simp[hz],fun j b i c v hj hi hx=>?_⟩
   .cases j with
    |zero=>simp only[a3E,a09]at hj;subst hj;rw[ha.1,hz]
    |succ j=>simp at hj
   cases j with
   |zero=>simp only[a3E,a09]at hj;subst hj;exact ha.2 i c v hi (by simpa using hx)
   |succ j=>simp at hj
  have:=h1.app (Y2 ha hz n) (by simp[hz]);simpa[afn,times]using this
theorem AX(hX:bT X P){ps:bV X.Γ}{ts:St}(hR:wB X P A m ps ts){t:LI2}{l c:PV X.Γ}{tl tc:TV}(hvl:VR X P (AA A m) m ts.heap l tl)(hvc:VR X P (AA A m) m ts.heap c tc){v:PV X.Γ}{H1:List (PB X.Γ)}{qs:List Prop}(hl:He X P t ps.heap l c=some (v,H1,qs)) (hq:∀q∈qs,q):Nu X P A m ts ((uw P t ts tl tc).map fun(v,s)=>(v,s,dn)) v H1 yw:=by
 have hr:=hR.heap;unfold He at hl;split at hl
 .rename_i e n kl li kc ci zu;obtain⟨hz,h0⟩:=oH zu;rw[KG hvl,KG hvc];split at hl
  .rename_i FP;split at hl
   .rename_i z hzz;obtain⟨z',q1,q2⟩:=IY (A:=AA A m) (m:=m) (h:=ts.heap) hzz;split at hl
    .rename_i Xu;split at hl
     .rename_i a ha;cases hl;have e1:li=ci:=hq _ (by simp);have e2:0<=li:=hq _ (by simp);have e3:li<=(ah:Nat):=hq _ (by simp);subst e1;have hm:li.toNat<=ah:=(by omega);have hm2:ah=2^20:=rfl;have hz2:z'.length=n:=by rw[<-q2.1];exact Xu
      have hT:∀w h1,(w,h1)=(TV.aO ts.heap.length 0 li.toNat li.toNat n true,ts.heap++[HB.cells .own (times z' li.toNat)])->(uw P t ts (.int kl li) (.int kc li)).map (fun(v,s)=>(v,s,dn))=some (w,{ ts with heap:=h1 },dn):=by
       intro w h1 e0;cases e0;have hN:∀k,a3B (.int k li)=some li.toNat:=fun k=>by
        have h9:li<=2^40:=by have:((2^20:Nat):Int)<=2^40:=(by decide);rw[hm2]at e3;omega
        simp only[a3B];rw[a1e ⟨e2,h9⟩]
       simp only[uw,zu,hN,a1l,true_and,ku FP hm,a2p,q1,hz2,a1n]
      have wz:=Y2 (m:=m) (h:=ts.heap) (F:=AA A m) (hX.dec ha q2) hz2 li.toNat;have hlen:(times z' li.toNat).length=li.toNat*n:=(by rw[oP,hz2]);by_cases hn:li.toNat=0
      .rw[hn]at hT ⊢;simp only[List.replicate_zero];have J5:=hr.push (pb:=.list true true e []) (hb:=.cells .own (times z' 0)) (mb:=.dD (.aO ts.heap.length 0 0 0 n true)) (.inr rfl)
         (LR.emp (b:=ts.heap.length) (cs:=times z' 0) ⟨hr.up _ (a1l _),fun hm=>by rw[jA,a3M,kY]at hm;simp[MB.own]at hm;have:=hr.inb hm;omega⟩ (by simp[aU]) (a5U _) hz h0)
       exact⟨_,_,_,_,hT _ _ rfl,J5.1,.own (by rw[<-hr.len];simp) rfl,J5.2.1,J5.2.2,.none,fun b hb=>by cases hb⟩
      .obtain⟨m1,g1,g2,g3,g4⟩:=kP hr [] (k:=true) (ex:=true) (x:=true) (rows:=List.replicate li.toNat a) (wz.mono fun b hb=>.inl hb) (by rw[a7t];exact hlen) (by intro e0;exact hn (by simpa using congrArg List.length e0)) hz h0 (by simp);refine⟨_,_,_,m1,hT _ _ rfl,g1,?_,g2,g3,.none,fun b hb=>by cases hb⟩;rw[a7t]at g4;exact g4
     .cases hl
    .cases hl
   .cases hl
  .cases hl
 .cases hl
end
open Go Tw
section
variable{X:mV}{P:LI1}{A F:Nat->Prop}{m m':List MB}{h h':List HB}{H H':List (PB X.Γ)}
theorem BA{o to}(ho:OR X P A m h o to){d n:Nat}{a}(he:zW X d o=some a)(h0:0<=a)(h1:a<=n):jP n d to=some a.toNat:=by
 cases o with
 |none=>
  cases to with
  |none=>simp only[zW,a09]at he;subst he;simp[jP]
  |some=>exact ho.elim
 |some v=>
  cases to with
  |none=>exact ho.elim
  |some x=>
   cases v<;>simp only[zW]at he<;>try (cases he;done)
   cases he;rw[KG ho];simp only[jP,rO];rw[a1e ⟨h0,h1⟩]
theorem Q5{k n to}(ho:OR X P A m h (some (.int k n)) to):to=some (.int k n):=by
 cases to with
 |none=>exact ho.elim
 |some x=>rw[KG ho]
theorem sG{to}(ho:OR X P A m h none to):to=none:=by
 cases to with
 |none=>rfl
 |some x=>exact ho.elim
theorem O8{v to}(ho:OR X P A m h (some v) to):∃x,to=some x:=by
 cases to with
 |none=>exact ho.elim
 |some x=>exact⟨x,rfl⟩
theorem ag3{t e b off len cap sz ex}(hu:P.underlying t=some (.slice e))(hz:dI P e=some sz){lo hi Sm Sr}(h1:OR X P A m h lo Sm)(h2:OR X P A m h hi Sr){a z}(e1:zW X 0 lo=some a)(e2:zW X len hi=some z)(q0:0<=a) (q1:a<=z) (q2:z<=len):rP P t (.aO b off len cap sz ex) Sm Sr none=some (.aO b (off+a.toNat*sz) (z.toNat-a.toNat) (cap-a.toNat) sz ex):=by
 have g1:=BA h1 e1 (n:=z.toNat) q0 (by omega);have g2:=BA h2 e2 (n:=len) (by omega) q2;simp only[rP,hu,hz,a2p,g2,g1]
theorem ab7{t e b off len cap sz ex}(hu:P.underlying t=some (.slice e))(hz:dI P e=some sz){lo hi Sm Sr}(h1:OR X P A m h lo Sm)(h2:OR X P A m h hi Sr){a z}(e1:zW X 0 lo=some a)(e2:zW X len hi=some z)(hs:hi.isSome)(q0:0<=a) (q1:a<=z) (q2:z<=len) (uf:len<=cap) {k}:rP P t (.aO b off len cap sz ex) Sm Sr (some (.int k z))=some (.aO b (off+a.toNat*sz) (z.toNat-a.toNat) (z.toNat-a.toNat) sz true):=by
 have g1:=BA h1 e1 (n:=z.toNat) q0 (by omega);obtain⟨hv,rfl⟩:=a5Z.1 hs;obtain⟨x,rfl⟩:=O8 h2;have g3:rO cap (.int k z)=some z.toNat:=by simp only[rO];rw[a1e (by omega)]
 have g2:rO (min z.toNat len) x=some z.toNat:=by
  cases hv<;>simp only[zW]at e2<;>try (cases e2;done)
  cases e2;rw[KG (show VR X P A m h _ x from h2)];simp only[rO];rw[a1e (by omega)]
 simp only[rP,hu,hz,a2p,g3,g2,g1]
theorem a0v{t e sz}(hu:P.underlying t=some (.slice e))(hz:dI P e=some sz){lo hi Sm Sr}(h1:OR X P A m h lo Sm)(h2:OR X P A m h hi Sr){a z}(e1:zW X 0 lo=some a)(e2:zW X 0 hi=some z)(q0:a=0)(q1:z=0) :rP P t (.nil .aO) Sm Sr none=some (.nil .aO)/\∀{k},hi.isSome->rP P t (.nil .aO) Sm Sr (some (.int k 0))=some (.nil .aO):=by
 subst q0;subst q1;have g1:=BA h1 e1 (n:=0) (by omega) (by omega);have g2:=BA h2 e2 (n:=0) (by omega) (by omega);have g0:jP 0 0 none=some 0:=rfl;refine⟨by simp only[rP,hu,hz,g0,g1,g2];rfl,fun{k} hs=>?_⟩;obtain⟨hv,rfl⟩:=a5Z.1 hs;obtain⟨x,rfl⟩:=O8 h2;have g3:jP 0 0 (some (.int k 0))=some 0:=rfl;simp only[rP,hu,hz,g1,g2,g3] ;rfl
theorem OQ{ps ts}(hR:wB X P A m ps ts){t x tx}(hx:VR X P (AA A m) m ts.heap x tx){lo hi mx Sm Sr tmx}(h1:OR X P (AA A m) m ts.heap lo Sm)(h2:OR X P (AA A m) m ts.heap hi Sr)(h3:OR X P (AA A m) m ts.heap mx tmx){v qs}(hl:a0l X P t ps.heap x lo hi mx=some (v,qs)) (hq:∀q∈qs,q):∃w,rP P t tx Sm Sr tmx=some w/\VR X P (AA A m) m ts.heap v w:=by
 have hr:=hR.heap;unfold a0l at hl;split at hl
 .rename_i e t' l fu hu;split at hl
  .rename_i n a z hz e1 e2;split at hl
   .rename_i ht;subst ht;cases hl;have q0:0<=a:=hq _ (by simp);have q1:a<=z:=hq _ (by simp);have q2:z<=(l.length:Nat):=hq _ (by simp);rw[sG h3,aiv];cases hx with
    |ql=>
     have ea:a=0:=by simp at q2;omega
     have ez:z=0:=by simp at q2;omega
     exact⟨_,(a0v hu hz h1 h2 e1 e2 ea ez).1,by simp only[List.drop_nil,List.take_nil];exact .ql⟩
    |dD p1 p2 p2' p3 p4 p5 p6 p7 p8 p9=>
     rw[hz]at p3;cases p3;exact⟨_,ag3 hu hz h1 h2 e1 e2 q0 q1 q2,(VR.dD p1 p2 p2' hz p4 p5 p6 p7 p8 p9).part (by omega) (by omega) (.inr (by omega)) (by simp)⟩
    |gone hi _ _=>simp[bf]at hi
   .cases hl
  .rename_i n a z k mv hz e1 e2;split at hl
   .rename_i ht;obtain⟨ht,Cj⟩:=ht;subst ht;split at hl
    .rename_i hfu;subst hfu;cases hl;have q0:a=0:=hq _ (by simp);have q2:z=(l.length:Nat):=hq _ (by simp);have q3:mv=z:=hq _ (by simp);subst q3;subst q0;rw[Q5 h3];cases hx with
     |ql=>
      have ez:mv=0:=(by simpa using q2);have:=(a0v hu hz h1 h2 e1 e2 rfl ez).2 (k:=k) Cj;exact⟨_,by rw[<-ez]at this;exact this,.ql⟩
     |dD p1 p2 p2' p3 p4 p5 p6 p7 p8 p9=>
      rw[hz]at p3;cases p3;obtain⟨p7a,p7b⟩:=p7 rfl;subst p7a;subst p7b;refine⟨_,ab7 hu hz h1 h2 e1 e2 Cj (a8Z 0) (by omega) (by omega) p6,?_⟩;subst q2;have:=VR.dD (fu:=true) p1 p2 p2' hz p4 p5 (a1l _) (fun _=>⟨rfl,rfl⟩) p8 p9;simpa using this
     |gone hi _ _=>simp[bf]at hi
    cases hl;have q0:0<=a:=hq _ (by simp);have q1:a<=z:=hq _ (by simp);have q2:z<=(l.length:Nat):=hq _ (by simp);have q3:mv=z:=hq _ (by simp);have q4:a=z:=hq _ (by simp);subst q3;rw[Q5 h3,aiv];cases hx with
    |ql=>
     have ea:a=0:=by simp at q2;omega
     have ez:mv=0:=by simp at q2;omega
     have:=(a0v hu hz h1 h2 e1 e2 ea ez).2 (k:=k) Cj;rw[<-ez]at this;exact⟨_,this,by simp only[List.drop_nil,List.take_nil];exact .ql⟩
    |dD p1 p2 p2' p3 p4 p5 p6 p7 p8 p9=>
     rw[hz]at p3;cases p3;exact⟨_,ab7 hu hz h1 h2 e1 e2 Cj q0 q1 q2 p6,(VR.dD p1 p2 p2' hz p4 p5 p6 p7 p8 p9).part (by omega) (by omega) (.inl (by omega)) (by simp)⟩
    |gone hi _ _=>simp[bf]at hi
   .cases hl
  .cases hl
 .rename_i e i hu;split at hl
  .rename_i kk ex t' l hb;obtain⟨mb,g1,g2⟩:=hr.at_ i _ hb;cases mb with
   |dD y=>
    cases hx with
    |gone hi e' _=>simp only[bf,a09]at hi;subst hi;rw[g1]at e';cases e'
    |own e' o=>
     rw[g1]at e';cases e';have hlr:LR X P (AA A m) m ts.heap kk ex t' l tx:=g2;split at hl
     .rename_i n a z hz e1 e2;split at hl
      .rename_i ht;subst ht;cases hl;have q0:0<=a:=hq _ (by simp);have q1:a<=z:=hq _ (by simp);have q2:z<=(l.length:Nat):=hq _ (by simp);rw[sG h3];cases hlr with
       |nil=>
        have ea:a=0:=by simp at q2;omega
        have ez:z=0:=by simp at q2;omega
        refine⟨_,(a0v hu hz h1 h2 e1 e2 ea ez).1,?_⟩;subst ea;subst ez;exact .CY g1
       |emp p0 p1 p2 p3 p4=>
        rw[hz]at p3;cases p3;exact⟨_,ag3 (len:=0) hu hz h1 h2 e1 e2 q0 q1 q2,.win g1 (by simp at q2;omega) (by simp at q2;omega) (.inl (by simp at q2;omega))⟩
       |some p1 p2 p3 p4 p5 p6 p7 p8 p9=>
        rw[hz]at p2;cases p2;exact⟨_,ag3 hu hz h1 h2 e1 e2 q0 q1 q2,.win g1 (by omega) (by omega) (.inr (by omega))⟩
      .cases hl
     .rename_i n a z k mv hz e1 e2;split at hl
      .rename_i ht;obtain⟨ht,Cj⟩:=ht;subst ht;cases hl;have q0:a=0:=hq _ (by simp);have q2:z=(l.length:Nat):=hq _ (by simp);have q3:mv=z:=hq _ (by simp);subst q3;subst q0;rw[Q5 h3];cases hlr with
       |nil=>
        have ez:mv=0:=(by simpa using q2);have:=(a0v hu hz h1 h2 e1 e2 rfl ez).2 (k:=k) Cj;exact⟨_,by rw[<-ez]at this;exact this,.KA g1⟩
       |emp p0 p1 p2 p3 p4=>
        rw[hz]at p3;cases p3;have ez:mv=0:=(by simpa using q2);subst ez;refine⟨_,ab7 (len:=0) hu hz h1 h2 e1 e2 Cj (a8Z 0) (by omega) (by omega) (a1l _),?_⟩;simpa using VR.I9 (X:=X) (P:=P) (A:=AA A m) (h:=ts.heap) g1
       |some p1 p2 p3 p4 p5 p6 p7 p8 p9=>
        rw[hz]at p2;cases p2;refine⟨_,ab7 hu hz h1 h2 e1 e2 Cj (a8Z 0) (by omega) (by omega) (a1l _),?_⟩;subst q2;have:=VR.I9 (X:=X) (P:=P) (A:=AA A m) (h:=ts.heap) g1;simpa using this
      .cases hl
     .cases hl
   |_=>exact g2.elim
  .cases hl
 .rename_i e hu;have:tx=.nil .aO:=by
   cases hx with
   |nil=>rfl
   |gone hi _ _=>simp[bf]at hi
  subst this;split at hl
  .rename_i n a z hz e1 e2;cases hl;have q0:a=0:=hq _ (by simp);have q1:z=0:=hq _ (by simp);rw[sG h3];exact⟨_,(a0v hu hz h1 h2 e1 e2 q0 q1).1,.nil _⟩
  .rename_i n a z k mv hz e1 e2;split at hl
   .rename_i Cj;cases hl;have q0:a=0:=hq _ (by simp);have q1:z=0:=hq _ (by simp);have q2:mv=0:=hq _ (by simp);subst q2;rw[Q5 h3];exact⟨_,(a0v hu hz h1 h2 e1 e2 q0 q1).2 Cj,.nil _⟩
   .cases hl
  .cases hl
 .cases hl
theorem DC(hX:bT X P){ps ts}(hR:wB X P A m ps ts){t x ex}(hx:JK X P (AA A m) m ts.heap x ex){lo hi mx Sm Sr tmx}(h1:OR X P (AA A m) m ts.heap lo Sm)(h2:OR X P (AA A m) m ts.heap hi Sr)(h3:OR X P (AA A m) m ts.heap mx tmx){v H1 qs}(hl:Kv X P t ps.heap x lo hi mx=some (v,H1,qs)) (hq:∀q∈qs,q):Nu X P A m ts ((qQ P t ex Sm Sr tmx).map fun v=>(v,ts,dn)) v H1 yw:=by
 have hr:=hR.heap;unfold Kv at hl;split at hl
 .rename_i n e b off lim hu;split at hl
  .rename_i size hz;split at hl
   .cases hl
   .rename_i Nk;split at hl
    .cases hl
    .rw[sG h3];obtain⟨y,rfl,hy⟩:=gJ hx;split at hl
     .split at hl
      .rename_i cs hb;cases hl;rw[sG h1,sG h2];obtain⟨mb,g1,g2⟩:=hr.at_ b _ hb;cases mb with
       |gQ c=>
        cases hy with
        |gone hi e' _=>simp only[bf,a09]at hi;subst hi;rw[g1]at e';cases e'
        |ptr e'=>
         rw[g1]at e';cases e';exact⟨.aO c off n n size true,ts.heap,dn,m,by simp[qQ,hu,hz,Nk,jP],hr,.aO g1,.refl,.refl,.none,fun d hd=>by cases hd⟩
       |_=>exact g2.elim
      .cases hl
     .rename_i ZP wS _;split at hl
      .rename_i cs a z hb e1 e2;split at hl
       .cases hl
       rename_i afW;split at hl
       .rename_i rows is hd;cases hl;have q0:0<=a:=hq _ (by simp);have q1:a<=z:=hq _ (by simp);have q2:z<=(n:Nat):=hq _ (by simp);obtain⟨mb,g1,g2⟩:=hr.at_ b _ hb;cases mb with
        |gQ c=>
         obtain⟨cs',g3,g4⟩:=g2;cases hy with
         |gone hi e' _=>simp only[bf,a09]at hi;subst hi;rw[g1]at e';cases e'
         |ptr e'=>
          rw[g1]at e';cases e';have f1:=BA h1 e1 (n:=z.toNat) q0 (by omega);have f2:=BA h2 e2 (n:=n) (by omega) q2;obtain⟨w1,w2⟩:=Bv (m':=bW (b::is) m) hX hr (g4.drop off) hd;have w3:=w2.2.1;rw[a4g]at w3;have hgo:=hr.aX (b::is);have Sl:=iK (h:=ts.heap) (b::is) m;have hnc:AA A (bW (b::is) m) c:=by refine FA.gone hr (.inr ⟨b,_,a3K,g1,rfl⟩)
          refine⟨.aO c (off+a.toNat*size) (z.toNat-a.toNat) (n-a.toNat) size true,ts.heap,dn,bW (b::is) m,?_,hgo,?_,Sl.1,Sl.2,.none,fun d hd=>by cases hd⟩
          .have f0:jP n n none=some n:=rfl;simp only[qQ,hu,hz,Nk,a3U,f0,f2,f1,Option.isSome_none,Bool.false_and,a2K,a1n]
          .rw[aiv];have ak2:VR X P (AA A (bW (b::is) m)) (bW (b::is) m) ts.heap (.dD e rows false) (.aO c off rows.length n size true):=by
            refine .dD hnc (by unfold aU;rw[g3]) (fun _=>xR g3 (by simp)) hz (by omega) ?_ (by omega) (by simp) w2.1 (fun j y i d v hj hi hx=>?_)
            .rw[w1,<-g4.1];omega
            .refine(w2.2.2 j y i d v hj hi ?_).mono fun q hq=>FA.gone hr (FA.mono (fun i hi=>a3I _ hi) hq);rw[a5C,<-hx];congr 1;omega
           exact ak2.part (by omega) (by omega) (.inr (by omega)) (by simp)
        |_=>exact g2.elim
       .cases hl
      .cases hl
  .cases hl
 .cases hl
theorem VO{ps ts}(hR:wB X P A m ps ts){t x ex}(hx:JK X P (AA A m) m ts.heap x ex){lo hi Sm Sr tmx}(h1:OR X P (AA A m) m ts.heap lo Sm)(h2:OR X P (AA A m) m ts.heap hi Sr)(h3:OR X P (AA A m) m ts.heap none tmx){v}(hl:Hf X P t ps.heap x lo hi=some v):Nu X P A m ts ((qQ P t ex Sm Sr tmx).map fun v=>(v,ts,dn)) v ps.heap yw:=by
 have hr:=hR.heap;unfold Hf at hl;split at hl
 .rename_i n e b off lim hu;split at hl
  .rename_i size cs a z hz hb e1 e2;split at hl
   .cases hl
   .rename_i Nk;split at hl
    .rename_i hq;cases hl;rw[sG h3];obtain⟨y,rfl,hy⟩:=gJ hx;obtain⟨mb,g1,g2⟩:=hr.at_ b _ hb;cases mb with
     |gQ c=>
      cases hy with
      |gone hi e' _=>simp only[bf,a09]at hi;subst hi;rw[g1]at e';cases e'
      |ptr e'=>
       rw[g1]at e';cases e';have f1:=BA h1 e1 (n:=z.toNat) hq.1 (by omega);have f2:=BA h2 e2 (n:=n) (by omega) hq.2.2;refine⟨.aO c (off+a.toNat*size) (z.toNat-a.toNat) (n-a.toNat) size true,ts.heap,dn,m,?_,hr,.aO g1,.refl,.refl,.none,fun d hd=>by cases hd⟩;have f0:jP n n none=some n:=rfl;simp only[qQ,hu,hz,Nk,a3U,f0,f2,f1,Option.isSome_none,Bool.false_and,a2K,a1n]
     |_=>exact g2.elim
    .cases hl
  .cases hl
 .cases hl
end
open Go Tw
section
variable{X:mV}{P:LI1}{A B F:Nat->Prop}{m m':List MB}{h h':List HB}{H H':List (PB X.Γ)}
theorem wV:∀{vs} {i:Nat} {v:PV X.Γ},yE.II vs=false->vs[i]? = some v->yE v=false
 | [],_,_,_,h=>by simp at h
 |a::vs,i,v,hc,h=>by
  simp only[yE.II,aaC]at hc;cases i with
  |zero=>simp only[a3E,a09]at h;subst h;exact hc.1
  |succ i=>exact wV hc.2 (by simpa using h)
theorem uJ{k}:∀{vs} {i:Nat} {v:PV X.Γ},(shift.shifts k vs)[i]? = some v->∃u,vs[i]? = some u/\v=shift k u
 | [],_,_,h=>by simp[shift.shifts]at h
 |a::vs,i,v,h=>by
  cases i with
  |zero=>simp only[shift.shifts,a3E,a09]at h;exact⟨a,rfl,h.symm⟩
  |succ i=>obtain⟨u,h1,h2⟩:=uJ (vs:=vs) (i:=i) (by simpa[shift.shifts]using h);exact⟨u,by simpa using h1,h2⟩
theorem uK{k}:∀{vs:List (PV X.Γ)},(shift.shifts k vs).length=vs.length
 | []=>rfl
 |a::vs=>by simp[shift.shifts,uK (vs:=vs)]
theorem a0w{k i}{v:PV X.Γ}(h:bf v=some i):bf (shift k v)=some (i+k):=by cases v<;>simp[bf]at h<;>subst h<;>rfl
theorem VR.shift(hX:bT X P){m0 v x}(hv:VR X P A m h v x)(hq:(∀b,A b->B b)\/yE v=false):VR X P B (m0++m) h (Pv.shift m0.length v) x:=by
 have at':∀{i:Nat} {mb:MB},m[i]? = some mb->(m0++m)[i+m0.length]? = some mb:=by intro i mb hi;rw[a1r (by omega)];simpa using hi
 induction hv with
 |bool=>exact .bool _
 |lit=>exact .lit _
 |int=>exact .int _ _
 |str=>exact .str _
 |nil=>exact .nil _
 |ptr e=>exact .ptr (at' e)
 |aO e=>exact .aO (at' e)
 |own e o=>exact .own (at' e) o
 |win e q q' q2=>exact .win (at' e) q q' q2
 |CY e=>exact .CY (at' e)
 |I9 e=>exact .I9 (at' e)
 |KA e=>exact .KA (at' e)
 |map e=>exact .map (at' e)
 |iter e=>exact .iter (at' e)
 |fn h1 _ h3 _ i2 i4=>
  refine .fn (by rw[uK,h1]) (fun i x y hx hy=>?_) (by rw[uK,h3]) (fun i x y hx hy=>?_)
  .obtain⟨u,g1,rfl⟩:=uJ hx;exact i2 i u y g1 hy (hq.imp_right fun hq=>by simp only[yE,aaC]at hq;exact wV hq.1 g1)
  obtain⟨u,g1,rfl⟩:=uJ hx;exact i4 i u y g1 hy (hq.imp_right fun hq=>by simp only[yE,aaC]at hq;exact wV hq.2 g1)
 |lC e=>exact .lC (at' e)
 |agg h1 _ i2=>
  refine .agg (by rw[uK,h1]) (fun i x y hx hy=>?_);obtain⟨u,g1,rfl⟩:=uJ hx;exact i2 i u y g1 hy (hq.imp_right fun hq=>by simp only[yE]at hq;exact wV hq g1)
 |dM h1 _ i2=>
  refine .dM (by rw[uK,h1]) (fun i x y hx hy=>?_);obtain⟨u,g1,rfl⟩:=uJ hx;exact i2 i u y g1 hy (hq.imp_right fun hq=>by simp only[yE]at hq;exact wV hq g1)
 |ql=>exact .ql
 |dD a c c2 s z o k f e r _=>
  rcases hq with hq|hq
  .exact .dD (hq _ a) c c2 s z o k f e fun j y i d v h1 h2 h3=>((r j y i d v h1 h2 h3).mono hq).jH hX (fQ (hX.jH _ _) h2)
  simp[yE]at hq
 |el a c l o e q r _=>
  rcases hq with hq|hq
  .exact .el (hq _ a) c l o e q fun i d v h1 h2=>((r i d v h1 h2).mono hq).jH hX (fQ (hX.jH _ _) h1)
  simp[yE]at hq
 |row e j q=>exact .row (at' e) j q
 | @gone v i x hi e o=>
  have e':(m0++m)[i+m0.length]? = m[i]?:=by rw[a1r (by omega)];congr 1;omega
  exact .gone (a0w hi) (by rw[e'];exact e.as fun c=>by cases v<;>rfl) o
theorem bZ.shift(hX:bT X P){m0 v x}(hv:bZ X P A m h v x)(hq:(∀b,A b->B b)\/yE.II v=false):bZ X P B (m0++m) h (Pv.shift.shifts m0.length v) x:=by refine⟨by rw[uK,hv.1],fun i a b ha hb=>?_⟩;obtain⟨u,g1,rfl⟩:=uJ ha;exact(hv.2 i u b g1 hb).shift hX (hq.imp_right fun hq=>wV hq g1)
theorem BR.shift(hX:bT X P){m0 b b' mb}(hb:BR X P A m h b mb)(hs:H8 X m0.length b=some b')(hq:(∀c,A c->B c)\/hasB X b=false):BR X P B (m0++m) h b' mb:=by
 cases b with
 |cells cs=>
  cases mb with
  |gQ c=>
   simp only[H8,a09]at hs;subst hs;obtain⟨cs',h1,h2⟩:=hb;exact⟨cs',h1,h2.shift hX hq⟩
  |_=>exact hb.elim
 |list k ex t l=>
  cases mb with
  |dD y=>
   simp only[H8,a09]at hs;subst hs;rcases hq with hq|hq
   .cases(hb:LR X P A m h k ex t l y)with
    |nil=>exact LR.nil
    |emp p0 p1 p2 p3 p4=>exact LR.emp (hq _ p0) p1 p2 p3 p4
    |some p1 p2 p3 p4 p5 p6 p7 p8 p9=>exact LR.some p1 p2 p3 p4 p5 p6 p7 p8 ((p9.mono hq).jH hX)
   simp[hasB]at hq
  |_=>exact hb.elim
 |gone=>
  cases mb with
  |gone=>simp only[H8,a09]at hs;subst hs;trivial
  |_=>exact hb.elim
 |_=>simp[H8]at hs
theorem MP{k}:∀{bs bs'} {i:Nat} {b':PB X.Γ},rZ X k bs=some bs'->bs'[i]? = some b'->∃b,bs[i]? = some b/\H8 X k b=some b'
 | [],bs',i,b',h,hi=>by simp only[rZ,a09]at h;subst h;simp at hi
 |b::bs,bs',i,b',h,hi=>by
  simp only[rZ]at h;split at h
  .rename_i c cs h1 h2;cases h;cases i with
   |zero=>simp only[a3E,a09]at hi;subst hi;exact⟨b,rfl,h1⟩
   |succ i=>obtain⟨d,g1,g2⟩:=MP h2 (i:=i) (by simpa using hi);exact⟨d,by simpa using g1,g2⟩
  cases h
theorem MQ{k}:∀{bs bs'},rZ X k bs=some bs'->bs'.length=bs.length
 | [],bs',h=>by simp only[rZ,a09]at h;subst h;rfl
 |b::bs,bs',h=>by
  simp only[rZ]at h;split at h
  .rename_i c cs h1 h2;cases h;simp[MQ h2]
  cases h
def nI(X:mV)(P:LI1)(call:dO)(f:FuncId)(vs:List (PV X.Γ))(v:PV X.Γ)(ext:List (PB X.Γ)):Prop:=
 ∀(A:Nat->Prop) (h:List HB) (first args cap:List TV),(∀b,h.length<=b->A b)->bZ X P A [] h vs (first++args++cap) ->
  ∃w h' m',call (.fn f first cap) args h=some (w,h',[])/\HR X P A m' ext h'/\VR X P (AA A m') m' h' v w/\Fr [] h m' h'
theorem J6(hX:bT X P){call f first xs cap vs v ext ext'}(hc:nI X P call f vs v ext)(hr:HR X P A m H h)(hv:views H (first++xs++cap)=some vs)(hs:rZ X H.length ext=some ext'){t1 t2 t3} (h1:bZ X P (AA A m) m h first t1) (h2:bZ X P (AA A m) m h xs t2) (h3:bZ X P (AA A m) m h cap t3) :∃w h' m1,call (.fn f t1 t3) t2 h=some (w,h',[])/\HR X P A m1 ((if yE v||ext.any (hasB X)then aX (lN.kX (first++xs++cap)) H else H)++ext') h'/\VR X P (AA A m1) m1 h' (shift H.length v) w/\Fr m h m1 h'/\Up m m1:=by
 have RS:=mg (m':=[]) hX hr ((h1.app h2).app h3) hv (is:=lN.kX (first++xs++cap)) fun i hi=>hi;generalize lN.kX (first++xs++cap)=is at RS ⊢;obtain⟨w,h',m',c1,c2,c3,c4⟩:=hc (fun b=>FA A m is b\/h.length<=b) h t1 t2 t3 (fun b hb=>.inr hb) (RS.mono fun b hb=>.inl hb);have hold:∀b,b<h.length->h'[b]? = h[b]?:=fun b hb=>c4.same b hb (by simp[aZ]);have fZ:∀b,b∈aZ m'->h.length<=b:=fun b hb=>by
  rcases c4.new b hb with h0|h0
  .simp[aZ]at h0
  .exact h0
 have key:∀(m0:List MB) (H0:List (PB X.Γ)),HR X P A m0 H0 h->Fr m h m0 h->Up m m0->m0.length=H.length->((∀b,FA A m is b->AA A m0 b)\/(yE v||ext.any (hasB X))=false) ->
   ∃m1,HR X P A m1 (H0++ext') h'/\VR X P (AA A m1) m1 h' (shift H.length v) w/\Fr m h m1 h'/\Up m m1:=by
  intro m0 H0 hr0 hF0 hU0 qW hq;have hF:Fr m0 h (m0++m') h':=by refine⟨c4.len,fun b hb _=>hold b hb,fun b hb=>?_,fun b cs hc=>⟨cs,by rw[fE (hold b (fH hc)),hc],a1l _⟩⟩;rw[jA,a3M]at hb;exact hb.imp_right fun hb=>fZ b hb
  have hA:(∀b,AA (fun b=>FA A m is b\/h.length<=b) m' b->AA A (m0++m') b)\/(yE v||ext.any (hasB X))=false:=by
   refine hq.imp_left fun hq b hb=>?_;refine⟨?_,fun hm=>?_⟩
   .rcases hb.1 with h0|h0
    .exact(hq b h0).1
    .exact hr.up b h0
   .rw[jA,a3M]at hm;rcases hm with hm|hm
    .rcases hb.1 with h0|h0
     .exact(hq b h0).2 hm
     .have:=hr0.inb hm;omega
    .exact hb.2 hm
  refine⟨m0++m',?_,?_,hF0.trans hF,hU0.trans (xU _)⟩
  .refine hr0.next hF (xU _) (by rw[a1B,a1B,hr0.len,MQ hs,c2.len]) ?_ fun i b hi=>?_
   .rw[jA];refine a9N.2 ⟨hr0.nodup,c2.nodup,fun a ha b hb e=>?_⟩;subst e;have:=hr0.inb ha;have:=fZ a hb;omega
   .rcases a4W i H0.length with aQ|CU
    .left;rw[a0U aQ]at hi;obtain⟨mb,g1,g2⟩:=hr0.at_ i b hi;exact⟨mb,hi,g1,by rw[a0U (by rw[hr0.len];exact aQ)];exact g1,fun c hc=>hold c (g2.has hc)⟩
    .right;rw[a1r CU]at hi;obtain⟨b0,g1,g2⟩:=MP hs hi;obtain⟨mb,g3,g4⟩:=c2.at_ _ _ g1;refine⟨mb,by rw[a1r (by rw[hr0.len];exact CU),hr0.len];exact g3,?_⟩;rw[<-qW]at g2;refine g4.shift hX g2 (hA.imp_right fun hq=>?_);simp only[aaC,List.any_eq_false]at hq;simpa using hq.2 b0 (a5N g1)
  .rw[<-qW];exact c3.shift hX (hA.imp_right fun hq=>by simp only[aaC]at hq;exact hq.1)
 refine⟨w,h',?_⟩;by_cases hL:(yE v||ext.any (hasB X))=true
 .rw[a1e hL];obtain⟨m1,e1,e2,e3,e4⟩:=key (bW is m) (aX is H) (hr.aX is) (iK (h:=h) is m).1 (iK (h:=h) is m).2 (by rw[nD,hr.len]) (.inl fun b hb=>hb.gone hr);exact⟨m1,c1,e1,e2,e3,e4⟩
 .rw[a18 hL];obtain⟨m1,e1,e2,e3,e4⟩:=key m H hr .refl .refl hr.len (.inr (by simpa using hL));exact⟨m1,c1,e1,e2,e3,e4⟩
end
open Go Tw
section
variable{X:mV}{P:LI1}{A B F:Nat->Prop}{m m':List MB}{h h':List HB}{H H':List (PB X.Γ)}
def dK(X:mV)(P:LI1)(call:dO):a4m X.Γ:=fun fv xs H v H1=>
 ∀(A:Nat->Prop) (m:List MB) (h:List HB) (tf:TV) (rH:List TV),HR X P A m H h->VR X P (AA A m) m h fv tf->bZ X P (AA A m) m h xs rH ->
  ∃w h1 ws m1,call tf rH h=some (w,h1,ws)/\HR X P A m1 H1 h1/\VR X P (AA A m1) m1 h1 v w/\Fr m h m1 h1/\Up m m1/\∀b∈ws,b∈aZ m
def jT(X:mV)(P:LI1)(call:dO)(gq:gZ X.Γ):Prop:=∀f vs v ext ps,gq f vs=some (v,ext,ps)->(∀p∈ps,p)->nI X P call f vs v ext
theorem vU{ρ}{y:ρ}:∀{ps} {x},(owe ps x).Ends y->(∀p∈ps,p)/\x.Ends y
 | [],x,h=>⟨by simp,h⟩
 |p::ps,x,h=>by have:=vU h.2;exact⟨fun q hq=>by rcases a1E.1 hq with rfl|hq;exact h.1;exact this.1 q hq,this.2⟩
theorem a0y{ρ}{y:ρ}{u an k}(hk:(byB X u an k).Ends y){tu}(hu:VR X P A m h u tu):∃t J7,tu=.bool t/\(k t J7).Ends y:=by
 cases u with
 |lit b=>
  have:tu=.bool b:=by
   cases hu with
   |lit=>rfl
   |gone hi _ _=>simp[bf]at hi
  exact⟨b,an,this,hk⟩
 |bool b=>
  have hb:tu=.bool b:=by
   cases hu with
   |bool=>rfl
   |gone hi _ _=>simp[bf]at hi
  subst hb;cases an with
  |s x z=>
   rcases hk with⟨h1,h2⟩|⟨h1,h2⟩
   .subst h1;exact⟨true,x,rfl,h2⟩
   subst h1;exact⟨false,z,rfl,h2⟩
  |a x r=>
   cases x with
   |br t=>obtain⟨h1,h2⟩:=hk;subst h1;exact⟨_,r,rfl,h2⟩
   |_=>exact hk.elim
  |_=>exact hk.elim
 |_=>exact hk.elim
theorem sJ:∀{es} {gV:List (TV×TV)} {ks:List TV},es.length=gV.length->(∀(i:Nat) x y,es[i]? = some x->gV[i]? = some y->VR X P A m h x.1 y.1/\VR X P A m h x.2 y.2)->wH X es=some ks->gV.map (·.1)=ks
 | [],gV,ks,hl,_,hk=>by
  simp only[wH,a09]at hk;subst hk;cases gV with
  |nil=>rfl
  |cons=>simp at hl
 |(k,v)::es,gV,ks,hl,he,hk=>by
  cases gV with
  |nil=>simp at hl
  |cons y gV=>
   simp only[wH]at hk;split at hk
   .rename_i a b h1 h2;cases hk;have:=jZ (he 0 _ _ rfl rfl).1 h1;simp only[a4U,this];rw[sJ (by simpa using hl) (fun i x z hx hz=>he (i+1) x z (by simpa using hx) (by simpa using hz)) h2]
   cases hk
theorem Y3:∀{ks} {vs},CS ks=some vs->vs.length=ks.length
 | [],vs,h=>by simp only[CS,a09]at h;subst h;rfl
 |k::ks,vs,h=>by
  simp only[CS]at h;split at h
  .rename_i v ws _ h2;cases h;simp[Y3 h2]
  cases h
theorem qy{kt k gV}:G8 P kt k gV=wI P kt k (gV.map (·.1)):=by
 unfold G8 wI;cases hv:CS (gV.map (·.1))with
 |none=>rfl
 |some vs=>
  have hl:=Y3 hv;have:gV.isEmpty=vs.isEmpty:=by cases gV<;>cases vs<;>simp at hl<;>rfl
  simp only[this]<;>rfl
def U5:TV->List Key
 |.map r=>[.h r]
 |_=>[]
def a4r(h:List HB):TV->Option (List (TV×TV))
 |.nil .map=>some []
 |.map r=>match h[r]? with
  |some (.map es)=>some es
  |_=>none
 |_=>none
theorem MR{t:LI2}{h:List HB}{tm tk:TV}{ok:Bool}{kt e:LI2}{kv:LI3}{es:List (TV×TV)}(hu:P.underlying t=some (.map kt e))(hk:tk.zk=some kv)(he:a4r h tm=some es) :
  iC P t h tm tk ok=match G8 P kt kv es with
   |some (some i)=>match es[i]? with
    |some (_,v)=>some (if ok then .dM [v,.bool true]else v)
    |none=>none
   |some none=>match P.info? e with
    |some i=>match i.zero with
     |some z=>(TV.Xb z).map fun z=>if ok then .dM [z,.bool false]else z
     |none=>none
    |none=>none
   |none=>none:=by
 unfold iC;simp only[hu,hk];cases tm with
 |nil k=>
  cases k<;>simp only[a4r]at he<;>try (cases he;done)
  cases he;rfl
 |map r=>
  simp only[a4r]at he;split at he
  .rename_i es0 hb;cases he;simp only[hb];rfl
  .cases he
 |_=>simp[a4r]at he
theorem DY{H h}(hr:HR X P A m H h){r es}(he:ML X H r=some es):∃c gV,(m[r]? = some (.gQ c)\/(m[r]? = some (.jJ c)/\c∉aZ m))/\h[c]? = some (.map gV)/\es.length=gV.length /\∀(i:Nat) x y,es[i]? = some x->gV[i]? = some y->qE x.1=some y.1/\qE x.2=some y.2:=by
 unfold ML at he;split at he
 .rename_i es0 hb;cases he;obtain⟨mb,g1,g2⟩:=hr.at_ r _ hb;cases mb with
  |gQ c=>obtain⟨gV,g3,g4,g5⟩:=g2;exact⟨c,gV,.inl g1,g3,g4,g5⟩
  |_=>exact g2.elim
 .rename_i es0 hb;cases he;obtain⟨mb,g1,g2⟩:=hr.at_ r _ hb;cases mb with
  |jJ c=>obtain⟨g0,gV,g3,g4,g5⟩:=g2;exact⟨c,gV,.inr ⟨g1,g0⟩,g3,g4,g5⟩
  |_=>exact g2.elim
 .cases he
theorem a2o{B h r c tm}(hm:VR X P B m h (.map r) tm)(hc:m[r]? = some (.gQ c)\/(m[r]? = some (.jJ c)/\c∉aZ m)):tm=.map c:=by
 cases hm with
 |map e=>
  rcases hc with h|⟨h,_⟩<;>rw[h]at e<;>cases e
  rfl
 |gone hi e _=>
  simp only[bf,a09]at hi;subst hi;rcases hc with h|⟨h,_⟩<;>rw[h]at e
  .cases e
  cases e with
  |r c hv=>simp only[roV,a09]at hv;exact hv.symm
theorem U6{r c ks}(hc:m[r]? = some (.gQ c)\/(m[r]? = some (.jJ c)/\c∉aZ m)):(∃i,Key.h i∈Key.h r::ks/\Ho m i c)\/c∉aZ m:=by
 rcases hc with h|⟨_,h⟩
 .exact .inl ⟨r,by simp,iY h rfl⟩
 exact .inr h
theorem ag4{ps ts}(hR:wB X P A m ps ts){mv tm}(hm:VR X P (AA A m) m ts.heap mv tm){es}(he:a7j X ps.heap mv=some es) :∃gV,a4r ts.heap tm=some gV/\es.length=gV.length/\(∀(i:Nat) x y,es[i]? = some x->gV[i]? = some y->VR X P (AA A m) m ts.heap x.1 y.1/\VR X P (AA A m) m ts.heap x.2 y.2) /\IR m ts.heap ⟨fU (TU X mv),false,false,true⟩ (fU (U5 tm)):=by
 cases mv with
 |nil k=>
  cases hm with
  |nil=>
   cases k<;>simp only[a7j]at he<;>try (cases he;done)
   cases he;exact⟨[],rfl,rfl,fun i x y hx=>by simp at hx,IR.reads rfl (by simp[U5]) (by simp[U5])⟩
  |gone hi _ _=>simp[bf]at hi
 |map r=>
  simp only[a7j]at he;obtain⟨c,gV,g0,g3,g4,g5⟩:=DY hR.heap he;have htm:=a2o hm g0;subst htm;refine⟨gV,by simp only[a4r,g3],g4,fun i x y e1 e2=>⟨oD (g5 i x y e1 e2).1,oD (g5 i x y e1 e2).2⟩,IR.reads rfl (fun b hb=>?_) (by simp[U5])⟩;simp[U5]at hb;subst hb;exact⟨U6 g0,(a0x.1 g3).1⟩
 |_=>simp[a7j]at he
theorem O9{a b x y}(h1:VR X P A m h a x)(h2:VR X P A m h b y):VR X P A m h (.dM [a,b]) (.dM [x,y]):=by
 have:=(bZ.nil (X:=X) (P:=P) (A:=A) (m:=m) (h:=h)).cons h2 |>.cons h1
 exact .dM this.1 this.2
theorem Y4{e z}(h:PS X P e=some z):∃i z0 z1,P.info? e=some i/\i.zero=some z0/\TV.Xb z0=some z1/\ZA z1=some z:=by
 unfold PS at h;split at h
 .rename_i i hi;split at h
  .rename_i z0 hz0;split at h
   .rename_i z1 hz1;exact⟨i,z0,z1,hi,hz0,hz1,h⟩
   cases h
  cases h
 cases h
theorem ab9{ρ}{y:ρ}{ps ts}(hR:wB X P A m ps ts){t mv kv tm tk}(hm:VR X P (AA A m) m ts.heap mv tm)(hk:VR X P (AA A m) m ts.heap kv tk){ok an c}(hl:(a0p X P t ps mv kv ok an c).Ends y):∃v pi J7 w,iC P t ts.heap tm tk ok=some w/\VR X P (AA A m) m ts.heap v w/\(c (.val v) pi J7).Ends y/\IR m ts.heap pi (fU (U5 tm)):=by
 unfold a0p at hl;split at hl
 .rename_i kt e tk' es hu htk NP;have:=jZ hk htk;subst this;obtain⟨gV,f1,f2,f3,f4⟩:=ag4 hR hm NP;have fnd:∀{yF ks j k0 v},tk.zk=some yF->wH X es=some ks->wI P kt yF ks=some (some j)->es[j]? = some (k0,v)->∃w,iC P t ts.heap tm tk ok=some w/\VR X P (AA A m) m ts.heap (if ok then .dM [v,.bool true]else v) w:=by
   intro yF ks j k0 v CZ Gj Q7 hj;have uo:=sJ f2 f3 Gj;have aQ:j<gV.length:=by rw[<-f2];exact(a0x.1 hj).1
   have EM:=a0Q aQ;have hv:=(f3 j _ _ hj EM).2;refine⟨(if ok then .dM [gV[j].2,.bool true]else gV[j].2),?_,?_⟩
   .rw[MR hu CZ f1];simp only[qy,uo,Q7,EM]
   .cases ok with
    |true=>exact O9 hv (.bool _)
    |false=>exact hv
  have non:∀{yF ks z},tk.zk=some yF->wH X es=some ks->wI P kt yF ks=some none->PS X P e=some z->∃w,iC P t ts.heap tm tk ok=some w/\VR X P (AA A m) m ts.heap (if ok then .dM [z,.bool false]else z) w:=by
   intro yF ks z CZ Gj Q7 hz;have uo:=sJ f2 f3 Gj;obtain⟨i,z0,z1,hi,hz0,hz1,hz2⟩:=Y4 hz;refine⟨(if ok then .dM [z1,.bool false]else z1),?_,?_⟩
   .rw[MR hu CZ f1];simp only[qy,uo,Q7,hi,hz0,hz1,a1n]
   .cases ok with
    |true=>exact O9 (xX hz2) (.bool _)
    |false=>exact xX hz2
  split at hl
  .obtain⟨⟨yF,ks,j,k0,g1,g2,g3,g4⟩,hl⟩:=hl;obtain⟨w,w1,w2⟩:=fnd g1 g2 g3 g4;exact⟨_,_,_,w,w1,w2,hl,f4⟩
  .split at hl
   .rename_i z hz;obtain⟨⟨yF,ks,g1,g2,g3⟩,hl⟩:=hl;obtain⟨w,w1,w2⟩:=non g1 g2 g3 hz;exact⟨_,_,_,w,w1,w2,hl,f4⟩
   .exact hl.elim
  .split at hl
   .rename_i z hz;obtain⟨⟨yF,ks,g1,g2,g3⟩,hl⟩:=hl;obtain⟨w,w1,w2⟩:=non g1 g2 g3 hz;exact⟨_,_,_,w,w1,w2,hl,f4⟩
   .exact hl.elim
  .split at hl
   .rename_i yF ks CZ Gj;split at hl
    .rename_i j r _ _;split at hl
     .rename_i k0 v hj;obtain⟨Q7,hl⟩:=hl;obtain⟨w,w1,w2⟩:=fnd CZ Gj Q7 hj;exact⟨_,_,_,w,w1,w2,hl,f4⟩
     .exact hl.elim
    .split at hl
     .rename_i z hz;obtain⟨Q7,hl⟩:=hl;obtain⟨w,w1,w2⟩:=non CZ Gj Q7 hz;exact⟨_,_,_,w,w1,w2,hl,f4⟩
     .exact hl.elim
    .exact hl.elim
   .exact hl.elim
 .exact hl.elim
theorem a4s{x}{v:PV X.Γ}(h:ofC x=some v):rY v=some x:=by cases x<;>simp only[ofC,a09,reduceCtorEq]at h<;>subst h<;>rfl
theorem Q8:∀{x} {v:List (PV X.Γ)},Dn x=some v->iZ v=some x
 | [],v,h=>by cases h;rfl
 |a::l,v,h=>by
  simp only[Dn]at h;split at h
  .rename_i b bs h1 h2;cases h;simp only[iZ,a4s h1,Q8 h2]
  cases h
theorem abb{x}{v:PV X.Γ}(h:ZA x=some v):qE v=some x:=by
 cases x
 case agg cs=>
  simp only[ZA,a0A]at h;obtain⟨w,h1,rfl⟩:=h;simp only[qE,Q8 h1,a1n]
 all_goals
  simp only[ZA,ofC,a09,reduceCtorEq]at h
  try subst h
  try rfl
theorem a0z{ps ts}(hR:wB X P A m ps ts){r cb es0}(g1:m[r]? = some (.gQ cb))(f1:ts.heap[cb]? = some (.map es0))(en en')(h1:en.length=en'.length)(h2:∀(i:Nat) x y,en[i]? = some x->en'[i]? = some y->qE x.1=some y.1/\qE x.2=some y.2) :wB X P A m { ps with heap:=ps.heap.set r (.map en) } { ts with heap:=ts.heap.set cb (.map en') }/\Fr m ts.heap m (ts.heap.set cb (.map en')):=by
 have aQ:=(a0x.1 f1).1;obtain⟨q1,q2⟩:=hR.heap.set (pb:=.map en) (hb:=.map en') g1 (c:=cb) rfl (fun cs hc=>by simp[aU,f1]at hc) fun hF=>⟨en',by simp[aQ],h1,h2⟩;exact⟨hR.step q1 q2 .refl,q2⟩
theorem U7{es:List (PV X.Γ×PV X.Γ)}{gV}(f2:es.length=gV.length)(f3:∀(i:Nat) x y,es[i]? = some x->gV[i]? = some y->qE x.1=some y.1/\qE x.2=some y.2){k v tk tv}(h1:qE k=some tk)(h2:qE v=some tv) :∀(i:Nat) x y,(es++[(k,v)])[i]? = some x->(gV++[(tk,tv)])[i]? = some y->qE x.1=some y.1/\qE x.2=some y.2:=fun i a b ha qZ=>by
 rcases a4W i es.length with aQ|CU
 .rw[a0U aQ]at ha;rw[a0U (by rw[<-f2];exact aQ)]at qZ;exact f3 i a b ha qZ
 .rw[a1r CU]at ha;rw[a1r (by rw[<-f2];exact CU),<-f2]at qZ;cases hx:i-es.length with
  |zero=>
   rw[hx]at ha qZ;simp only[a3E,a09]at ha qZ;subst ha;subst qZ;exact⟨h1,h2⟩
  |succ n=>rw[hx]at ha;simp at ha
theorem a7A{ps ts}(hR:wB X P A m ps ts){r es tm}(hb:ps.heap[r]? = some (.map es))(hm:VR X P (AA A m) m ts.heap (.map r) tm) :∃cb gV,tm=.map cb/\m[r]? = some (.gQ cb)/\ts.heap[cb]? = some (.map gV)/\es.length=gV.length/\∀(i:Nat) x y,es[i]? = some x->gV[i]? = some y->qE x.1=some y.1/\qE x.2=some y.2:=by
 obtain⟨mb,g1,g2⟩:=hR.heap.at_ r _ hb;cases mb with
 |gQ cb=>
  obtain⟨gV,f1,f2,f3⟩:=g2;cases hm with
  |gone hi e' _=>simp only[bf,a09]at hi;subst hi;rw[g1]at e';cases e'
  |map e'=>rw[g1]at e';cases e';exact⟨cb,gV,rfl,g1,f1,f2,f3⟩
 |_=>exact g2.elim
theorem abd{ρ}{y:ρ}{ps ts}(hR:wB X P A m ps ts){t mv kv tm tk}(hm:VR X P (AA A m) m ts.heap mv tm)(hk:VR X P (AA A m) m ts.heap kv tk){an c}(hl:(a7m X P t ps mv kv an c).Ends y):∃e e' ps1 pi J7 h1 ti,Dv P t ts tm tk=some (e',{ ts with heap:=h1 },ti)/\JK X P (AA A m) m h1 e e'/\wB X P A m ps1 { ts with heap:=h1 }/\Fr m ts.heap m h1/\(c e ps1 pi J7).Ends y/\IR m ts.heap pi ti/\∀b,.h b∈ti.ws->b∈aZ m:=by
 unfold a7m at hl;split at hl
 .rename_i kt e tk' r hu htk;have:=jZ hk htk;subst this;split at hl
  .rename_i es hb;obtain⟨cb,gV,rfl,g1,f1,f2,f3⟩:=a7A hR hb hm;have f3v:∀(i:Nat) x y,es[i]? = some x->gV[i]? = some y->VR X P (AA A m) m ts.heap x.1 y.1/\VR X P (AA A m) m ts.heap x.2 y.2:=fun i x y e1 e2=>⟨oD (f3 i x y e1 e2).1,oD (f3 i x y e1 e2).2⟩;have aQ:=(a0x.1 f1).1;split at hl
   .rename_i v _ j rest;split at hl
    case h_2=>exact hl.elim
    rename_i va vx;obtain⟨⟨yF,ks,old,ov,CZ,c1,Gj,c2,hj,hold,hov,c3⟩,hl⟩:=hl;have uo:=sJ f2 f3v Gj;have EM:j<gV.length:=by rw[<-f2];exact(a0x.1 hj).1
    have Xd:=a0Q EM;have hy1:(gV[j]).1=old:=by
     have:(gV.map (·.1))[j]? = some (gV[j]).1:=by rw[a4V,Xd];rfl
     rw[uo,hold]at this;exact(aan this).symm
    have htv:=(f3 j _ _ hj Xd).2;obtain⟨w1,w2⟩:=a0z hR g1 f1 es (gV.set j (tk,(gV[j]).2)) (by simp[f2]) fun i a b ha qZ=>by
     by_cases e:j=i
     .subst e;rw[a5G,Xd]at qZ;rw[hj]at ha;cases ha;cases qZ;exact⟨htk,htv⟩
     .rw[a1y e]at qZ;exact f3 i a b ha qZ
    have GU:ps.heap.set r (.map es)=ps.heap:=by
     refine aaK fun i=>?_;by_cases e:r=i
     .subst e;rw[a2w (a0x.1 hb).1,hb]
     .rw[a1y e]
    rw[GU]at w1;refine⟨.ent r j (.int va vx),.ent cb j (gV[j]).2,_,_,_,_,qg (.h cb),?_,⟨.map g1,rfl,htv⟩,w1,w2,hl,.wrH (iY g1 rfl) aQ,fun b hb=>by simp[qg]at hb;subst hb;exact aY g1 rfl⟩;have SY:gV[j].1=tk:=by have:=(f3 j _ _ hj Xd).1;rw[htk]at this;exact(aan this).symm
    have Xe:gV[j].2=.int va vx:=by have h9:some (TV.int va vx)=some (gV[j]).2:=htv;exact(aan h9).symm
    have Xx:gV.set j (tk,(gV[j]).2)=gV:=by rw[show(tk,(gV[j]).2)=gV[j]from adA SY.symm rfl];exact List.set_getElem_self EM
    have hl1:iC P t ts.heap (.map cb) tk false=some (.int va vx):=by unfold iC;simp only[hu,CZ,f1,qy,uo,c2,Xd,Xe,a2K,a3U]
    have hcb:ts.heap.set cb (.map gV)=ts.heap:=by
     refine aaK fun i=>?_;by_cases e:cb=i
     .subst e;rw[a2w aQ,f1]
     .rw[a1y e]
    have h0:AO P t ts (.map cb) tk=some (.ent cb j (gV[j]).2,{ ts with heap:=ts.heap.set cb (.map (gV.set j (tk,(gV[j]).2))) },qg (.h cb)):=by unfold AO;simp only[hu,CZ,f1,c1,qy,uo,c2,Xd,hy1,hov,c3,a2p]
    unfold Dv;rw[h0];simp only[];rw[a1e];unfold a1m;rw[Xx,hcb,hl1];simp
   .split at hl
    .rename_i va vx hz;obtain⟨⟨yF,q1,c1⟩,⟨adz,ks,q2,Gj,c2⟩,⟨auk,ks2,q3,aq5,c4⟩,hl⟩:=hl;rw[q1]at q2;cases q2;rw[q1]at q3;cases q3;obtain⟨i,z0,z1,hi,hz0,hz1,hz2⟩:=Y4 hz;have uo:=sJ f2 f3v Gj;have hzt:=abb hz2;obtain⟨w1,w2⟩:=a0z hR g1 f1 (es++[(kv,.int va vx)]) (gV++[(tk,z1)]) (by simp[f2]) (U7 f2 f3 htk hzt);refine⟨.ent r es.length (.int va vx),.ent cb gV.length z1,_,_,_,_,qg (.h cb),?_,⟨.map g1,f2,hzt⟩,w1,w2,hl,.wrH (iY g1 rfl) aQ,fun b hb=>by simp[qg]at hb;subst hb;exact aY g1 rfl⟩;have Xe:z1=.int va vx:=by have h9:some (TV.int va vx)=some z1:=hzt;exact(aan h9).symm
     have hl1:iC P t ts.heap (.map cb) tk false=some (.int va vx):=by unfold iC;simp only[hu,q1,f1,qy,uo,c2,hi,hz0,hz1,Xe,a1n,a2K,a3U]
     have ag5:(gV++[(tk,z1)]).map (·.1)=ks2:=sJ (P:=P) (A:=AA A m) (m:=m) (h:=ts.heap) (es:=es++[(kv,.int va vx)]) (by simp[f2]) (fun i x y e1 e2=>let ⟨a1,a2⟩:=U7 f2 f3 htk hzt i x y e1 e2;⟨oD a1,oD a2⟩) aq5;have Td:iC P t (ts.heap.set cb (.map (gV++[(tk,z1)]))) (.map cb) tk false=some (.int va vx):=by
      have e9:(gV++[(tk,z1)])[es.length]? = some (tk,z1):=by rw[f2];simp
      unfold iC;simp only[hu,q1,a2w aQ,qy,ag5,c4,e9,a2K,a3U];rw[Xe]
     have h0:AO P t ts (.map cb) tk=some (.ent cb gV.length z1,{ ts with heap:=ts.heap.set cb (.map (gV++[(tk,z1)])) },qg (.h cb)):=by unfold AO;simp only[hu,q1,f1,c1,qy,uo,c2,hi,hz0,hz1]
     unfold Dv;rw[h0];simp only[];rw[a1e];unfold a1m;rw[hl1,Td];simp
    .exact hl.elim
   .exact hl.elim
  .exact hl.elim
 .exact hl.elim
theorem abe{ρ}{y:ρ}{ps ts}(hR:wB X P A m ps ts){mv v e tm tv e'}(hm:VR X P (AA A m) m ts.heap mv tm)(he:JK X P (AA A m) m ts.heap e e')(hv:VR X P (AA A m) m ts.heap v tv){c}(hl:(a7n X ps mv e v c).Ends y):∃ps1 pi h1 ti,Ic ts tm e' tv=some ({ ts with heap:=h1 },ti)/\wB X P A m ps1 { ts with heap:=h1 }/\Fr m ts.heap m h1/\(c ps1 pi).Ends y/\IR m ts.heap pi ti/\∀b,.h b∈ti.ws->b∈aZ m:=by
 unfold a7n at hl;split at hl
 .rename_i r r' j tv' htv;have:=jZ hv htv;subst this;split at hl
  .rename_i hrr;subst hrr;split at hl
   .rename_i es hb;obtain⟨hj,hl⟩:=hl;obtain⟨cb,gV,rfl,g1,f1,f2,f3⟩:=a7A hR hb hm;obtain⟨c',rfl,hm'⟩:=O7 he;have hc:c'=cb:=by
     cases hm' with
     |gone hi e' _=>simp only[bf,a09]at hi;subst hi;rw[g1]at e';cases e'
     |map e'=>rw[g1]at e';cases e';rfl
    subst hc;have aQ:=(a0x.1 f1).1;have EM:j<gV.length:=by rw[<-f2];exact hj
    have Xd:=a0Q EM;obtain⟨w1,w2⟩:=a0z hR g1 f1 (Kz es j v) (gV.set j ((gV[j]).1,tv)) (by unfold Kz;simp[f2]) fun i a b ha qZ=>by
     unfold Kz at ha;rw[afk]at ha;by_cases e:j=i
     .subst e;rw[a5G,Xd]at qZ;simp only[a2p,a0Q hj,Option.map_eq_map,a1n,a09]at ha;subst ha;cases qZ;exact⟨(f3 j _ _ (a0Q hj) Xd).1,htv⟩
     .rw[a1y e]at qZ;have ha:es[i]? = some a:=(by simpa[e]using ha);exact f3 i a b ha qZ
    refine⟨_,_,_,qg (.h c'),?_,w1,w2,hl,.wrH (iY g1 rfl) aQ,fun b hb=>by simp[qg]at hb;subst hb;exact aY g1 rfl⟩;unfold Ic;simp only[a2p,f1,Xd]
   .exact hl.elim
  .exact hl.elim
 .exact hl.elim
theorem a7D{ρ}{y:ρ}{ps ts}(hR:wB X P A m ps ts){t mv kv v tm tk tv}(hm:VR X P (AA A m) m ts.heap mv tm)(hk:VR X P (AA A m) m ts.heap kv tk)(hv:VR X P (AA A m) m ts.heap v tv){an c}(hl:(a7k X P t ps mv kv v an c).Ends y):∃ps1 pi J7 h1 ti,yI P t ts tm tk tv=some ({ ts with heap:=h1 },ti)/\wB X P A m ps1 { ts with heap:=h1 }/\Fr m ts.heap m h1/\(c ps1 pi J7).Ends y/\IR m ts.heap pi ti/\∀b,.h b∈ti.ws->b∈aZ m:=by
 unfold a7k at hl;split at hl
 .rename_i kt e tk' r tv' hu htk htv;have:=jZ hk htk;subst this;have:=jZ hv htv;subst this;split at hl
  .rename_i es hb;obtain⟨mb,g1,g2⟩:=hR.heap.at_ r _ hb;cases mb with
   |gQ cb=>
    obtain⟨gV,f1,f2,f3⟩:=g2;have f3v:∀(i:Nat) x y,es[i]? = some x->gV[i]? = some y->VR X P (AA A m) m ts.heap x.1 y.1/\VR X P (AA A m) m ts.heap x.2 y.2:=fun i x y e1 e2=>⟨oD (f3 i x y e1 e2).1,oD (f3 i x y e1 e2).2⟩;cases hm with
    |gone hi e' _=>simp only[bf,a09]at hi;subst hi;rw[g1]at e';cases e'
    |map e'=>
     rw[g1]at e';cases e';have aQ:=(a0x.1 f1).1;have wr:∀(en:List (PV X.Γ×PV X.Γ)) (en':List (TV×TV)),en.length=en'.length->(∀(i:Nat) x y,en[i]? = some x->en'[i]? = some y->qE x.1=some y.1/\qE x.2=some y.2) ->
       wB X P A m { ps with heap:=ps.heap.set r (.map en) } { ts with heap:=ts.heap.set cb (.map en') }/\Fr m ts.heap m (ts.heap.set cb (.map en')):=by
      intro en en' h1 h2;obtain⟨q1,q2⟩:=hR.heap.set (pb:=.map en) (hb:=.map en') g1 (c:=cb) rfl (fun cs hc=>by simp[aU,f1]at hc) fun hF=>⟨en',by simp[aQ],h1,h2⟩;exact⟨hR.step q1 q2 .refl,q2⟩
     have new:∀{yF ks},tk.zk=some yF->wH X es=some ks->aC P (Instr.checkKey false 10000 kt yF)=some ()->wI P kt yF ks=some none ->
       yI P t ts (.map cb) tk tv=some ({ ts with heap:=ts.heap.set cb (.map (gV++[(tk,tv)])) },qg (.h cb))/\wB X P A m { ps with heap:=ps.heap.set r (.map (es++[(kv,v)])) } { ts with heap:=ts.heap.set cb (.map (gV++[(tk,tv)])) }/\Fr m ts.heap m (ts.heap.set cb (.map (gV++[(tk,tv)]))):=by
      intro yF ks CZ Gj c1 c2;have uo:=sJ f2 f3v Gj;obtain⟨w1,w2⟩:=wr (es++[(kv,v)]) (gV++[(tk,tv)]) (by simp[f2]) fun i a b ha qZ=>by
       rcases a4W i es.length with aQ|CU
       .rw[a0U aQ]at ha;rw[a0U (by rw[<-f2];exact aQ)]at qZ;exact f3 i a b ha qZ
       .rw[a1r CU]at ha;rw[a1r (by rw[<-f2];exact CU),<-f2]at qZ;cases hx:i-es.length with
        |zero=>
         rw[hx]at ha qZ;simp only[a3E,a09]at ha qZ;subst ha;subst qZ;exact⟨htk,htv⟩
        |succ n=>rw[hx]at ha;simp at ha
      refine⟨?_,w1,w2⟩;unfold yI;simp only[hu,CZ,f1,c1,qy,uo,c2]
     split at hl
     .obtain⟨⟨yF,q1,c1⟩,⟨adz,ks,q2,Gj,c2⟩,hl⟩:=hl;rw[q1]at q2;cases q2;obtain⟨u1,u2,u3⟩:=new q1 Gj c1 c2;exact⟨_,_,_,_,qg (.h cb),u1,u2,u3,hl,.wrH (iY g1 rfl) aQ,fun b hb=>by simp[qg]at hb;subst hb;exact aY g1 rfl⟩
     .obtain⟨⟨yF,q1,c1⟩,⟨adz,ks,q2,Gj,c2⟩,hl⟩:=hl;rw[q1]at q2;cases q2;obtain⟨u1,u2,u3⟩:=new q1 Gj c1 c2;exact⟨_,_,_,_,qg (.h cb),u1,u2,u3,hl,.wrH (iY g1 rfl) aQ,fun b hb=>by simp[qg]at hb;subst hb;exact aY g1 rfl⟩
     .obtain⟨⟨yF,ks,j,old,ov,CZ,c1,Gj,c2,hj,hold,hov,c3⟩,hl⟩:=hl;have uo:=sJ f2 f3v Gj;have EM:∃y0,gV[j]? = some y0:=by
       have:j<gV.length:=by rw[<-f2];exact(a0x.1 hj).1
       exact⟨_,a0Q this⟩
      obtain⟨y0,Xd⟩:=EM;have hy1:y0.1=old:=by
       have:(gV.map (·.1))[j]? = some y0.1:=by rw[a4V,Xd];rfl
       rw[uo,hold]at this;exact(aan this).symm
      obtain⟨w1,w2⟩:=wr es (gV.set j (tk,tv)) (by simp[f2]) fun i a b ha qZ=>by
       by_cases e:j=i
       .subst e;rw[a5G]at qZ;rw[hj]at ha;rw[Xd]at qZ;cases ha;cases qZ;exact⟨htk,htv⟩
       .rw[a1y e]at qZ;exact f3 i a b ha qZ
      have GU:ps.heap.set r (.map es)=ps.heap:=by
       refine aaK fun i=>?_;by_cases e:r=i
       .subst e;rw[a2w (a0x.1 hb).1,hb]
       .rw[a1y e]
      rw[GU]at w1;refine⟨_,_,_,_,qg (.h cb),?_,w1,w2,hl,.wrH (iY g1 rfl) aQ,fun b hb=>by simp[qg]at hb;subst hb;exact aY g1 rfl⟩;unfold yI;simp only[hu,CZ,f1,c1,qy,uo,c2,Xd,hy1,hov,c3,a2p]
     .split at hl
      .rename_i yF ks CZ Gj;have uo:=sJ f2 f3v Gj;split at hl
       .rename_i j rest _ _ _;split at hl
        .rename_i x0 old hj hold;split at hl
         .rename_i ov hov;obtain⟨c1,c2,c3,hl⟩:=hl;have EM:∃y0,gV[j]? = some y0:=by
           have:j<gV.length:=by rw[<-f2];exact(a0x.1 hj).1
           exact⟨_,a0Q this⟩
          obtain⟨y0,Xd⟩:=EM;have hy1:y0.1=old:=by
           have:(gV.map (·.1))[j]? = some y0.1:=by rw[a4V,Xd];rfl
           rw[uo,hold]at this;exact(aan this).symm
          obtain⟨w1,w2⟩:=wr (es.set j (kv,v)) (gV.set j (tk,tv)) (by simp[f2]) fun i a b ha qZ=>by
           by_cases e:j=i
           .subst e;rw[a5G]at ha qZ;rw[hj]at ha;rw[Xd]at qZ;cases ha;cases qZ;exact⟨htk,htv⟩
           .rw[a1y e]at ha qZ;exact f3 i a b ha qZ
          refine⟨_,_,_,_,qg (.h cb),?_,w1,w2,hl,.wrH (iY g1 rfl) aQ,fun b hb=>by simp[qg]at hb;subst hb;exact aY g1 rfl⟩;unfold yI;simp only[hu,CZ,f1,c1,qy,uo,c2,Xd,hy1,hov,c3,a2p]
         .exact hl.elim
        .exact hl.elim
       .obtain⟨c1,c2,hl⟩:=hl;obtain⟨u1,u2,u3⟩:=new CZ Gj c1 c2;exact⟨_,_,_,_,qg (.h cb),u1,u2,u3,hl,.wrH (iY g1 rfl) aQ,fun b hb=>by simp[qg]at hb;subst hb;exact aY g1 rfl⟩
       .exact hl.elim
      .exact hl.elim
   |_=>exact g2.elim
  .exact hl.elim
 .exact hl.elim
end
open Go Tw
theorem kZ{m b}(h:b∈aZ m):∃i,Ho m i b:=by obtain⟨mb,h1,h2⟩:=a6u.1 h;obtain⟨i,hi⟩:=a9f h1;exact⟨i,mb,hi,h2⟩
section
variable{X:mV}{P:LI1}{A B:Nat->Prop}{m m1:List MB}{h:List HB}{g:Nat->Option Nat}
theorem jQ:∀{m},(∀i j c,Ho m i c->Ho m j c->i=j)->(aZ m).Nodup
 | [],_=>by simp[aZ]
 |x::m,hu=>by
  have ih:(aZ m).Nodup:=jQ fun i j c h1 h2=>by have:=hu (i+1) (j+1) c (by obtain⟨mb,a,b⟩:=h1;exact⟨mb,by simpa using a,b⟩) (by obtain⟨mb,a,b⟩:=h2;exact⟨mb,by simpa using a,b⟩);omega
  unfold aZ at ih ⊢;rw[aal];split
  .exact ih
  rename_i b hb;refine a5I.2 ⟨fun hm=>?_,ih⟩;obtain⟨i,mb,h1,h2⟩:=kZ (m:=m) hm;have:=hu 0 (i+1) b ⟨x,rfl,hb⟩ ⟨mb,by simpa using h1,h2⟩;omega
theorem Q9:∀{ks} {i p},xP ks i=some p->ks[p]? = some i
 | [],i,p,h=>by cases h
 |a::ks,i,p,h=>by
  simp only[xP]at h;split at h
  .rename_i e;cases h;simp[e]
  simp only[a0A]at h;obtain⟨q,h1,rfl⟩:=h;simpa using Q9 h1
section
variable{g:Nat->Option Nat}{m1:List MB}
theorem Fa(hg:∀i j,g i=some j->m1[j]? = m[i]?){B}(hA:∀b,A b->B b)(hX:bT X P){v x}(hv:VR X P A m h v x):∀{w},fJ g v=some w->VR X P B m1 h w x:=by
 have lists:∀{vs:List (PV X.Γ)} {xs:List TV},vs.length=xs.length->(∀(i:Nat) a b,vs[i]? = some a->xs[i]? = some b->∀{w:PV X.Γ},fJ g a=some w->VR X P B m1 h w b)->∀{ws:List (PV X.Γ)},fJ.qc g vs=some ws->ws.length=xs.length/\∀(i:Nat) a b,ws[i]? = some a->xs[i]? = some b->VR X P B m1 h a b:=by
  intro vs
  induction vs with
  |nil=>
   intro xs hl _ ws hw;simp only[fJ.qc,a09]at hw;subst hw;exact⟨hl,fun i a b ha=>by simp at ha⟩
  |cons v vs ih=>
   intro xs hl hh ws hw;cases xs with
   |nil=>simp at hl
   |cons x xs=>
    simp only[fJ.qc]at hw;split at hw
    .rename_i w Xl h1 h2;cases hw;obtain⟨e1,e2⟩:=ih (xs:=xs) (by simpa using hl) (fun i a b ha hb=>hh (i+1) a b (by simpa using ha) (by simpa using hb)) h2;refine⟨by simp[e1],fun i a b ha hb=>?_⟩;cases i with
     |zero=>simp only[a3E,a09]at ha hb;subst ha;subst hb;exact hh 0 v x rfl rfl h1
     |succ i=>exact e2 i a b (by simpa using ha) (by simpa using hb)
    cases hw
 induction hv with
 |bool=>intro w hw;simp only[fJ,a09]at hw;subst hw;exact .bool _
 |lit=>intro w hw;simp only[fJ,a09]at hw;subst hw;exact .lit _
 |int=>intro w hw;simp only[fJ,a09]at hw;subst hw;exact .int _ _
 |str=>intro w hw;simp only[fJ,a09]at hw;subst hw;exact .str _
 |nil=>intro w hw;simp only[fJ,a09]at hw;subst hw;exact .nil _
 |ptr e=>intro w hw;simp only[fJ,a0A]at hw;obtain⟨j,h1,rfl⟩:=hw;exact .ptr (by rw[hg _ _ h1];exact e)
 |aO e=>intro w hw;simp only[fJ,a0A]at hw;obtain⟨j,h1,rfl⟩:=hw;exact .aO (by rw[hg _ _ h1];exact e)
 |own e o=>intro w hw;simp only[fJ,a0A]at hw;obtain⟨j,h1,rfl⟩:=hw;exact .own (by rw[hg _ _ h1];exact e) o
 |win e q q' q2=>intro w hw;simp only[fJ,a0A]at hw;obtain⟨j,h1,rfl⟩:=hw;exact .win (by rw[hg _ _ h1];exact e) q q' q2
 |CY e=>intro w hw;simp only[fJ,a0A]at hw;obtain⟨j,h1,rfl⟩:=hw;exact .CY (by rw[hg _ _ h1];exact e)
 |I9 e=>intro w hw;simp only[fJ,a0A]at hw;obtain⟨j,h1,rfl⟩:=hw;exact .I9 (by rw[hg _ _ h1];exact e)
 |KA e=>intro w hw;simp only[fJ,a0A]at hw;obtain⟨j,h1,rfl⟩:=hw;exact .KA (by rw[hg _ _ h1];exact e)
 |map e=>intro w hw;simp only[fJ,a0A]at hw;obtain⟨j,h1,rfl⟩:=hw;exact .map (by rw[hg _ _ h1];exact e)
 |iter e=>intro w hw;simp only[fJ,a0A]at hw;obtain⟨j,h1,rfl⟩:=hw;exact .iter (by rw[hg _ _ h1];exact e)
 |lC e=>intro w hw;simp only[fJ,a0A]at hw;obtain⟨j,h1,rfl⟩:=hw;exact .lC (by rw[hg _ _ h1];exact e)
 |row e j q=>intro w hw;simp only[fJ,a0A]at hw;obtain⟨j,h1,rfl⟩:=hw;exact .row (by rw[hg _ _ h1];exact e) (by assumption) q
 |fn h1 _ h3 _ i2 i4=>
  intro w hw;simp only[fJ]at hw;split at hw
  .rename_i a c ha hc;cases hw;obtain⟨e1,e2⟩:=lists h1 i2 ha;obtain⟨e3,e4⟩:=lists h3 i4 hc;exact .fn e1 e2 e3 e4
  cases hw
 |agg h1 _ i2=>
  intro w hw;simp only[fJ,a0A]at hw;obtain⟨cs,hc,rfl⟩:=hw;obtain⟨e1,e2⟩:=lists h1 i2 hc;exact .agg e1 e2
 |dM h1 _ i2=>
  intro w hw;simp only[fJ,a0A]at hw;obtain⟨cs,hc,rfl⟩:=hw;obtain⟨e1,e2⟩:=lists h1 i2 hc;exact .dM e1 e2
 |ql=>intro w hw;simp only[fJ,a09]at hw;subst hw;exact .ql
 |dD a c c2 s z o k f e r _=>intro w hw;simp only[fJ,a09]at hw;subst hw;exact .dD (hA _ a) c c2 s z o k f e fun j y i d v h1 h2 h3=>((r j y i d v h1 h2 h3).mono hA).jH hX (fQ (hX.jH _ _) h2)
 |el a c l o e q r _=>intro w hw;simp only[fJ,a09]at hw;subst hw;exact .el (hA _ a) c l o e q fun i d v h1 h2=>((r i d v h1 h2).mono hA).jH hX (fQ (hX.jH _ _) h1)
 |gone i e o=>
  intro w hw;rename_i v _ x;have:∃j,bf w=some j/\DW w x m1[j]?:=by cases v<;>simp[bf]at i<;>subst i<;>simp only[fJ,a0A]at hw<;>obtain⟨j,h1,rfl⟩:=hw<;>exact⟨j,rfl,by rw[hg _ _ h1];exact e.as fun c=>rfl⟩
  obtain⟨j,h1,h2⟩:=this;exact .gone h1 h2 o
variable{B:Nat->Prop}
theorem zZ(hX:bT X P)(hg:∀i j,g i=some j->m1[j]? = m[i]?)(hA:∀b,A b->B b):∀{vs} {xs:List TV} {ws:List (PV X.Γ)},bZ X P A m h vs xs->fJ.qc g vs=some ws->bZ X P B m1 h ws xs
 | [],xs,ws,hv,hw=>by simp only[fJ.qc,a09]at hw;subst hw;rw[hv.inv0];exact .nil
 |v::vs,xs,ws,hv,hw=>by
  obtain⟨x,r,rfl,h1,h2⟩:=hv.inv;simp only[fJ.qc]at hw;split at hw
  .rename_i w Xl g1 g2;cases hw;exact .cons (Fa hg hA hX h1 g1) (zZ hX hg hA h2 g2)
  cases hw
theorem Qa(hX:bT X P)(hg:∀i j,g i=some j->m1[j]? = m[i]?)(hA:∀b,A b->B b){env env'}(he:kJ X P A m h env env'):∀{r},pW g env=some r->kJ X P B m1 h r env':=by
 induction he with
 |nil=>intro r h;simp only[pW,a09]at h;subst h;exact .nil
 |cons h1 h2 ih=>
  rename_i k v x q q';intro r hr;simp only[pW]at hr;split at hr
  rotate_left
  .cases hr
  rename_i w r' e1 e2;cases hr;refine .cons ?_ (ih e2);cases v with
  |val v=>
   obtain⟨y,rfl,h3⟩:=gJ h1;simp only[PO,a0A]at e1;obtain⟨u,e3,rfl⟩:=e1;exact oG (Fa hg hA hX h3 e3)
  |loc a b=>simp only[PO,a09]at e1;subst e1;rw[EZ h1];exact⟨rfl,rfl⟩
  |undef=>simp only[PO,a09]at e1;subst e1;rw[KD h1];trivial
  |ent r j v=>
   obtain⟨c,y,rfl,h3,h4⟩:=O6 h1;simp only[PO,a0A]at e1;obtain⟨u,e3,rfl⟩:=e1;exact⟨Fa hg hA hX h3 (w:=.map u) (by simp only[fJ,e3,a1n]),rfl,h4⟩
  |FK r j=>
   obtain⟨c,rfl,h3⟩:=O7 h1;simp only[PO,a0A]at e1;obtain⟨u,e3,rfl⟩:=e1;exact⟨Fa hg hA hX h3 (w:=.map u) (by simp only[fJ,e3,a1n]),rfl⟩
theorem Fb(hX:bT X P)(hg:∀i j,g i=some j->m1[j]? = m[i]?)(hA:∀b,A b->B b){b b' mb}(hn:∀c,mb=.jJ c->c∉aZ m->c∉aZ m1)(hb:BR X P A m h b mb)(hr:zX g b=some b'):BR X P B m1 h b' mb:=by
 cases b with
 |cells cs=>
  cases mb with
  |gQ c=>
   simp only[zX,a0A]at hr;obtain⟨cs',h1,rfl⟩:=hr;obtain⟨xs,h2,h3⟩:=hb;exact⟨xs,h2,zZ hX hg hA h3 h1⟩
  |_=>exact hb.elim
 |aF cs=>
  cases mb with
  |jJ c=>
   simp only[zX,a0A]at hr;obtain⟨cs',h1,rfl⟩:=hr;obtain⟨h0,xs,h2,h3⟩:=hb;exact⟨hn c rfl h0,xs,h2,zZ hX hg hA h3 h1⟩
  |_=>exact hb.elim
 |list k ex t l=>
  cases mb with
  |dD y=>
   simp only[zX,a09]at hr;subst hr;cases(hb:LR X P A m h k ex t l y)with
   |nil=>exact LR.nil
   |emp p0 p1 p2 p3 p4=>exact LR.emp (hA _ p0) p1 p2 p3 p4
   |some p1 p2 p3 p4 p5 p6 p7 p8 p9=>exact LR.some p1 p2 p3 p4 p5 p6 p7 p8 ((p9.mono hA).jH hX)
  |_=>exact hb.elim
 |map es=>
  cases mb with
  |gQ c=>
   simp only[zX,a09]at hr;subst hr;exact hb
  |_=>exact hb.elim
 |nN cs=>
  cases mb with
  |gQ c=>
   simp only[zX,a09]at hr;subst hr;exact hb
  |_=>exact hb.elim
 |iP es=>
  cases mb with
  |jJ c=>
   simp only[zX,a09]at hr;subst hr;exact⟨hn c rfl hb.1,hb.2⟩
  |_=>exact hb.elim
 |dB r n seen=>
  cases mb with
  |gQ b=>
   simp only[zX,a0A]at hr;obtain⟨j,h1,rfl⟩:=hr;obtain⟨c,h2,h3,h4⟩:=hb;exact⟨c,h2,by rw[hg _ _ h1];exact h3,fun c' hc=>h4 c' (by rw[<-hg _ _ h1];exact hc)⟩
  |_=>exact hb.elim
 |mark=>
  cases mb with
  |gQ c=>simp only[zX,a09]at hr;subst hr;exact hb
  |_=>exact hb.elim
 |loop rd f nt env ps a c jW=>
  cases mb with
  |gQ cb=>
   simp only[zX,a0A]at hr;obtain⟨aw2,h1,rfl⟩:=hr;obtain⟨xs,h2,h3⟩:=hb;exact⟨xs,h2,Qa hX hg hA h3 h1⟩
  |_=>exact hb.elim
 |gone=>
  cases mb with
  |gone=>simp only[zX,a09]at hr;subst hr;trivial
  |_=>exact hb.elim
theorem uM:∀{bs r:List (PB X.Γ)},oq g bs=some r->r.length=bs.length/\∀{i:Nat} {b'},r[i]? = some b'->∃b,bs[i]? = some b/\zX g b=some b'
 | [],r,h=>by simp only[oq,a09]at h;subst h;exact⟨rfl,fun{i b'} hi=>by simp at hi⟩
 |b::bs,r,h=>by
  simp only[oq]at h;split at h
  .rename_i c cs h1 h2;cases h;obtain⟨e1,e2⟩:=uM h2;refine⟨by simp[e1],fun{i b'} hi=>?_⟩;cases i with
   |zero=>simp only[a3E,a09]at hi;subst hi;exact⟨b,rfl,h1⟩
   |succ i=>obtain⟨d,q1,q2⟩:=e2 (i:=i) (by simpa using hi);exact⟨d,by simpa using q1,q2⟩
  cases h
theorem Qb:∀{bs r:List (List (PV X.Γ))},XR g bs=some r->r.length=bs.length/\∀{i:Nat} {b'},r[i]? = some b'->∃b,bs[i]? = some b/\fJ.qc g b=some b'
 | [],r,h=>by simp only[XR,a09]at h;subst h;exact⟨rfl,fun{i b'} hi=>by simp at hi⟩
 |b::bs,r,h=>by
  simp only[XR]at h;split at h
  .rename_i c cs h1 h2;cases h;obtain⟨e1,e2⟩:=Qb h2;refine⟨by simp[e1],fun{i b'} hi=>?_⟩;cases i with
   |zero=>simp only[a3E,a09]at hi;subst hi;exact⟨b,rfl,h1⟩
   |succ i=>obtain⟨d,q1,q2⟩:=e2 (i:=i) (by simpa using hi);exact⟨d,by simpa using q1,q2⟩
  cases h
theorem Fe:∀{ks} {H r:List (PB X.Γ)},DU H ks=some r->r.length=ks.length/\∀{i k:Nat},ks[i]? = some k->∃b,H[k]? = some b/\r[i]? = some b
 | [],H,r,h=>by simp only[DU,a09]at h;subst h;exact⟨rfl,fun{i k} hi=>by simp at hi⟩
 |k::ks,H,r,h=>by
  simp only[DU]at h;split at h
  .rename_i b rs h1 h2;cases h;obtain⟨e1,e2⟩:=Fe h2;refine⟨by simp[e1],fun{i j} hi=>?_⟩;cases i with
   |zero=>simp only[a3E,a09]at hi;subst hi;exact⟨b,h1,rfl⟩
   |succ i=>obtain⟨d,q1,q2⟩:=e2 (i:=i) (k:=j) (by simpa using hi);exact⟨d,q1,by simpa using q2⟩
  cases h
end
theorem uN{α}:∀{ks} {bs l:List α},(putAt ks bs l).length=l.length
 | [],_,_=>rfl
 |_::_,[],_=>rfl
 |k::ks,b::bs,l=>by simp only[putAt];rw[uN,a5O]
theorem Qc{α}:∀{ks} {bs l:List α} {p i:Nat},ks.Nodup->(∀k∈ks,k<l.length)->ks.length<=bs.length->ks[p]? = some i->(putAt ks bs l)[i]? = bs[p]?
 | [],_,_,p,i,_,_,_,h=>by simp at h
 |a::ks,[],_,_,_,_,_,hl,_=>by simp at hl
 |a::ks,b::bs,l,0,i,hn,hk,hl,h=>by
  simp only[a3E,a09]at h;subst h;have hn:=a5I.1 hn;simp only[putAt];have:∀{ks:List Nat} {bs l:List α} {i:Nat},i∉ks->(putAt ks bs l)[i]? = l[i]?:=by
   intro ks
   induction ks with
   |nil=>intro bs l i _;rfl
   |cons c ks ih=>
    intro bs l i hi;simp only[a1E,adl]at hi;cases bs with
    |nil=>rfl
    |cons b bs=>simp only[putAt];rw[ih hi.2,a1y (fun e=>hi.1 e.symm)]
  rw[this hn.1,a2w (hk a (a3K ..))];rfl
 |a::ks,b::bs,l,p+1,i,hn,hk,hl,h=>by simp only[aaD]at h;simp only[putAt];rw[Qc (a5I.1 hn).2 (fun k oQ=>by rw[a5O];exact hk k (a3I _ oQ)) (by simpa using hl) h];rfl
theorem KH{α}:∀{ks} {bs l:List α} {i},i∉ks->(putAt ks bs l)[i]? = l[i]?
 | [],_,_,_,_=>rfl
 |a::ks,[],_,_,_=>rfl
 |a::ks,b::bs,l,i,hi=>by simp only[a1E,adl]at hi;simp only[putAt];rw[KH hi.2,a1y (fun e=>hi.1 e.symm)]
def Y5(X:mV)(P:LI1)(call:dO)(fv:PV X.Γ)(xs:List (PV X.Γ))(H:List (PB X.Γ))(v:PV X.Γ)(H1:List (PB X.Γ))(W:Nat->Prop):Prop:=
 ∀(A:Nat->Prop) (m:List MB) (h:List HB) (tf:TV) (rH:List TV),HR X P A m H h->VR X P (AA A m) m h fv tf->bZ X P (AA A m) m h xs rH ->
  ∃w h1 ws m1,call tf rH h=some (w,h1,ws)/\HR X P A m1 H1 h1/\VR X P (AA A m1) m1 h1 v w/\Fr m h m1 h1/\Up m m1/\∀b∈ws,∃k,W k/\Ho m k b
theorem dK.w{call fv v xs H H1}(h:dK X P call fv xs H v H1):Y5 X P call fv xs H v H1 fun _=>True:=fun A m h0 tf rH a b c=>by obtain⟨w,h1,ws,m1,c1,c2,c3,c4,c5,c6⟩:=h A m h0 tf rH a b c;exact⟨w,h1,ws,m1,c1,c2,c3,c4,c5,fun b hb=>by obtain⟨i,hi⟩:=kZ (c6 b hb);exact⟨i,trivial,hi⟩⟩
theorem Oa:∀{H} {i:Nat} {b:PB X.Γ},Kw H=true->H[i]? = some b->Kw [b]=true
 | [],_,_,_,h=>by simp at h
 |a::H,0,b,hn,h=>by simp only[a3E,a09]at h;subst h;cases a<;>simp_all [Kw]
 |a::H,i+1,b,hn,h=>by
  have EO:Kw H=true:=by cases a<;>simp_all [Kw]
  exact Oa EO (by simpa using h)
def SwM(m m':List MB):Prop:=∀i:Nat,m'[i]? = m[i]?\/(∃c,m[i]? = some (.gQ c)/\m'[i]? = some (.jJ c))\/∃c,m[i]? = some (.jJ c)/\m'[i]? = some (.gQ c)
section
variable{m':List MB}
theorem VR.sw(hm:SwM m m')(hA:∀b,A b->B b){v x}(hv:VR X P A m h v x):VR X P B m' h v x:=by
 have hl:∀{i:Nat} {x:TV},m[i]? = some (.dD x)->m'[i]? = some (.dD x):=fun{i x} e=>by
  rcases hm i with g|⟨c,g,_⟩|⟨c,g,_⟩
  .rw[g,e]
  .rw[e]at g;cases g
  rw[e]at g;cases g
 have hb:∀{i c:Nat},m[i]? = some (.gQ c)->m'[i]? = some (.gQ c)\/m'[i]? = some (.jJ c):=fun{i c} e=>by
  rcases hm i with g|⟨c',g,g2⟩|⟨c',g,_⟩
  .exact .inl (by rw[g,e])
  .rw[e]at g;cases g;exact .inr g2
  rw[e]at g;cases g
 induction hv with
 |bool=>exact .bool _
 |lit=>exact .lit _
 |int=>exact .int _ _
 |str=>exact .str _
 |nil=>exact .nil _
 |ptr e=>rcases hb e with e|e;exact .ptr e;exact .gone rfl (.ofR e rfl) rfl
 |aO e=>rcases hb e with e|e;exact .aO e;exact .gone rfl (.ofR e rfl) rfl
 |own e o=>exact .own (hl e) o
 |win e q q' q2=>exact .win (hl e) q q' q2
 |CY e=>exact .CY (hl e)
 |I9 e=>exact .I9 (hl e)
 |KA e=>exact .KA (hl e)
 |map e=>rcases hb e with e|e;exact .map e;exact .gone rfl (.ofR e rfl) rfl
 |iter e=>rcases hb e with e|e;exact .iter e;exact .gone rfl (.ofR e rfl) rfl
 |fn h1 _ h3 _ i2 i4=>exact .fn h1 i2 h3 i4
 |lC e=>rcases hb e with e|e;exact .lC e;exact .gone rfl (.ofR e rfl) rfl
 |agg h1 _ i2=>exact .agg h1 i2
 |dM h1 _ i2=>exact .dM h1 i2
 |ql=>exact .ql
 |dD a c c2 s z o k f e _ ih=>exact .dD (hA _ a) c c2 s z o k f e ih
 |el a c l o e q _ ih=>exact .el (hA _ a) c l o e q ih
 |row e j q=>exact .row (hl e) j q
 | @gone v i x hi e o=>
  generalize hq:m[i]? = q at e;cases e with
  |g=>
   rcases hm i with g|⟨c,g,_⟩|⟨c,g,_⟩
   .exact .gone hi (.of (by rw[g,hq])) o
   .rw[hq]at g;cases g
   rw[hq]at g;cases g
  |r c hv=>
   rcases hm i with g|⟨c',g,_⟩|⟨c',g,g2⟩
   .exact .gone hi (.ofR (by rw[g,hq]) hv) o
   .rw[hq]at g;cases g
   rw[hq]at g;cases g;cases v<;>simp only[roV,a09]at hv<;>first|cases hv;done|skip
   all_goals (subst hv;simp only[bf,a09]at hi;subst hi)
   .exact .ptr g2
   .exact .aO g2
   .exact .map g2
   .exact .lC g2
   exact .iter g2
theorem bZ.sw(hm:SwM m m')(hA:∀b,A b->B b){v x}(hv:bZ X P A m h v x):bZ X P B m' h v x:=
 ⟨hv.1,fun i a b ha hb=>(hv.2 i a b ha hb).sw hm hA⟩
theorem kJ.sw(hm:SwM m m')(hA:∀b,A b->B b){v x}(hv:kJ X P A m h v x):kJ X P B m' h v x:=by
 induction hv with
 |nil=>exact .nil
 |cons h1 _ ih=>
  refine .cons ?_ ih;rename_i v x _ _ _;cases v<;>cases x<;>first|exact VR.sw hm hA h1|exact h1|exact⟨VR.sw hm hA h1.1,h1.2⟩
theorem BR.sw(hm:SwM m m')(hA:∀b,A b->B b){b mb}(hn:∀c,mb=.jJ c->c∉aZ m->c∉aZ m')(hb:BR X P A m h b mb):BR X P B m' h b mb:=by
 cases b with
 |cells cs=>cases mb with
  |gQ b=>obtain⟨cs',h1,h2⟩:=hb;exact⟨cs',h1,h2.sw hm hA⟩
  |_=>exact hb.elim
 |aF cs=>cases mb with
  |jJ b=>obtain⟨h0,cs',h1,h2⟩:=hb;exact⟨hn b rfl h0,cs',h1,h2.sw hm hA⟩
  |_=>exact hb.elim
 |list k ex t l=>cases mb with
  |dD x=>
   cases(hb:LR X P A m h k ex t l x)with
   |nil=>exact LR.nil
   |emp h0 h1 h2 h3 h4=>exact LR.emp (hA _ h0) h1 h2 h3 h4
   |some h1 h2 h3 h4 h5 h6 h7 h8 h9=>exact LR.some h1 h2 h3 h4 h5 h6 h7 h8 ⟨h9.1,h9.2.1,fun j a i c v a1 a2 a3=>(h9.2.2 j a i c v a1 a2 a3).sw hm hA⟩
  |_=>exact hb.elim
 |map es=>cases mb with
  |gQ b=>exact hb
  |_=>exact hb.elim
 |nN cs=>cases mb with
  |gQ b=>exact hb
  |_=>exact hb.elim
 |iP es=>cases mb with
  |jJ b=>exact⟨hn b rfl hb.1,hb.2⟩
  |_=>exact hb.elim
 |dB r n seen=>cases mb with
  |gQ b=>
   obtain⟨c,h1,h2,h3⟩:=hb;refine⟨c,h1,?_,fun c' hc=>?_⟩
   .rcases hm r with g|⟨c',g,g2⟩|⟨c',g,g2⟩
    .rw[g];exact h2
    .rw[g2];rfl
    .rw[g2];rfl
   .rcases hm r with g|⟨c2,g,g2⟩|⟨c2,g,g2⟩
    .exact h3 c' (by rw[<-g];exact hc)
    .rw[g2]at hc;simp at hc;subst hc;exact h3 c2 (.inl g)
    .rw[g2]at hc;simp at hc;subst hc;exact h3 c2 (.inr g)
  |_=>exact hb.elim
 |mark=>cases mb with
  |gQ b=>exact hb
  |_=>exact hb.elim
 |loop rd f nt env ps a c jW=>cases mb with
  |gQ b=>obtain⟨e',h1,h2⟩:=hb;exact⟨e',h1,h2.sw hm hA⟩
  |_=>exact hb.elim
 |gone=>cases mb with
  |gone=>trivial
  |_=>exact hb.elim
end
theorem ag6{call fv v xs H H1 W r cs U3}(h0:H[r]? = some (.cells cs))(h9:H1[r]? = some (.cells U3))(hro:Kw (H1.drop H.length)=true)(hs:Y5 X P call fv xs (H.set r (.aF cs)) v (H1.set r (.aF U3)) W):Y5 X P call fv xs H v H1 fun k=>W k/\k≠r:=fun A m h tf rH hr hf hx=>by
 obtain⟨mb0,q1,q2⟩:=hr.at_ r _ h0;have hrl:r<H.length:=(a0x.1 h0).1;have hrm:r<m.length:=by rw[hr.len];exact hrl
 cases mb0 with
 |gQ c=>
  obtain⟨cs',q3,q4⟩:=q2;have FV:c∈aZ m:=aY q1 rfl;have hch:=(a0x.1 q3).1;have hm:SwM m (m.set r (.jJ c)):=fun i=>by
   by_cases e:i=r
   .subst e;exact .inr (.inl ⟨c,q1,by rw[a2w hrm]⟩)
   .exact .inl (by rw[a1y (fun h=>e h.symm)])
  have old:∀{i b:Nat},Ho (m.set r (.jJ c)) i b->i≠r/\Ho m i b:=fun{i b} ho=>by
   obtain⟨mb,a1,a2⟩:=ho;by_cases e:i=r
   .subst e;rw[a2w hrm]at a1;cases a1;cases a2
   .rw[a1y (fun h=>e h.symm)]at a1;exact⟨e,mb,a1,a2⟩
  have lX:∀b,b∈aZ (m.set r (.jJ c))->b∈aZ m/\b≠c:=fun b hb=>by obtain⟨i,hi⟩:=kZ hb;obtain⟨e,mb,a1,a2⟩:=old hi;refine⟨aY a1 a2,fun e2=>?_⟩;subst e2;exact e (jc hr.nodup a1 q1 a2 rfl)
  have hA:∀b,AA A m b->AA (fun b=>A b/\b≠c) (m.set r (.jJ c)) b:=fun b hb=>⟨⟨hb.1,fun e=>hb.2 (e▸FV)⟩,fun h=>hb.2 (lX b h).1⟩;have xK:HR X P (fun b=>A b/\b≠c) (m.set r (.jJ c)) (H.set r (.aF cs)) h:=by
   refine⟨by simp[hr.len],fun i b hi=>?_,jQ fun i j d a1 a2=>?_,fun b hb=>⟨hr.up b hb,by omega⟩,fun b hb=>⟨hr.DX b (lX b hb).1,(lX b hb).2⟩⟩
   .by_cases e:i=r
    .subst e;rw[a2w hrl]at hi;cases hi;exact⟨.jJ c,by rw[a2w hrm],fun h=>(lX c h).2 rfl,cs',q3,q4.sw hm hA⟩
    .rw[a1y (fun h=>e h.symm)]at hi;obtain⟨mb,g1,g2⟩:=hr.at_ i b hi;exact⟨mb,by rw[a1y (fun h=>e h.symm)];exact g1,g2.sw hm hA fun d _ hn h=>hn (lX d h).1⟩
   .obtain⟨_,ma,u1,u2⟩:=old a1;obtain⟨_,mc,v1,v2⟩:=old a2;exact jc hr.nodup u1 v1 u2 v2
  obtain⟨w,h1,ws,m1,c1,c2,c3,c4,c5,c6⟩:=hs (fun b=>A b/\b≠c) (m.set r (.jJ c)) h tf rH xK (hf.sw hm hA) (hx.sw hm hA)
  .have ag7:r<H1.length:=(a0x.1 h9).1;obtain⟨mb1,e1,e2⟩:=c2.at_ r (.aF U3) (by rw[a2w ag7]);have e3:=c5 r (.jJ c) (by rw[a2w hrm]);have e4:mb1=.jJ c:=by
    rcases e3 with e3|e3<;>rw[e1]at e3<;>cases e3
    .rfl
    .exact e2.elim
   subst e4;obtain⟨p0,F8,p1,p2⟩:=e2;have KI:r<m1.length:=(a0x.1 e1).1;have hm1:SwM m1 (m1.set r (.gQ c)):=fun i=>by
    by_cases e:i=r
    .subst e;exact .inr (.inr ⟨c,e1,by rw[a2w KI]⟩)
    .exact .inl (by rw[a1y (fun h=>e h.symm)])
   have at1:∀{i:Nat} {mb:MB},i≠r->(m1.set r (.gQ c))[i]? = some mb->m1[i]? = some mb:=fun{i mb} e h=>by rw[a1y (fun h=>e h.symm)]at h;exact h
   have CV:∀b,b∈aZ (m1.set r (.gQ c))->b=c\/b∈aZ m1:=fun b hb=>by
    obtain⟨i,mb,a1,a2⟩:=kZ hb;by_cases e:i=r
    .subst e;rw[a2w KI]at a1;cases a1;cases a2;exact .inl rfl
    .exact .inr (aY (at1 e a1) a2)
   have hA1:∀b,AA (fun b=>A b/\b≠c) m1 b->AA A (m1.set r (.gQ c)) b:=fun b hb=>⟨hb.1.1,fun h=>by
    rcases CV b h with e|e
    .exact hb.1.2 e
    .exact hb.2 e⟩
   refine⟨w,h1,ws,m1.set r (.gQ c),c1,⟨by rw[a5O,c2.len,a5O],fun i b hi=>?_,jQ fun i j d a1 a2=>?_,fun b hb=>(c2.up b hb).1,fun b hb=>?_⟩,c3.sw hm1 hA1,⟨c4.len,fun b hb hn=>c4.same b hb fun h=>hn (lX b h).1,fun b hb=>?_,c4.grow⟩,fun i mb hi=>?_,fun b hb=>?_⟩
   .by_cases e:i=r
    .subst e;rw[h9]at hi;cases hi;exact⟨.gQ c,by rw[a2w KI],F8,p1,p2.sw hm1 hA1⟩
    .obtain⟨mb,g1,g2⟩:=c2.at_ i b (by rw[a1y (fun h=>e h.symm)];exact hi);refine⟨mb,by rw[a1y (fun h=>e h.symm)];exact g1,g2.sw hm1 hA1 fun d hd hn hd2=>?_⟩;subst hd;rcases CV d hd2 with e5|e5
     .subst e5;rcases a4W i m.length with aQ|CU
      .have MC:(m.set r (.jJ d))[i]? = m[i]?:=(by rw[a1y (fun h=>e h.symm)]);have hmi:m[i]? = some (.jJ d):=by
        rcases c5 i m[i] (by rw[MC];exact a0Q aQ)with e6|e6<;>rw[g1]at e6<;>simp only[a09]at e6
        .rw[a0Q aQ,<-e6]
        .cases e6
       have hlH:i<H.length:=by rw[<-hr.len];exact aQ
       obtain⟨mb9,e7,e8⟩:=hr.at_ i _ (a0Q hlH);rw[hmi]at e7;cases e7;generalize H[i]=b9 at e8;cases b9<;>first|exact e8.elim|exact e8.1 FV
      .have e6:(H1.drop H.length)[i-H.length]? = some b:=by rw[a5C,<-hi];congr 1;rw[hr.len]at CU;omega
       have e7:=Oa hro e6;cases b<;>first|exact g2.elim|cases e7
     .exact hn e5
   .obtain⟨ma,u1,u2⟩:=a1;obtain⟨mc,v1,v2⟩:=a2;by_cases e:i=r<;>by_cases e':j=r
    .rw[e,e']
    .subst e;rw[a2w KI]at u1;cases u1;cases u2;exact absurd (aY (at1 e' v1) v2) p0
    .subst e';rw[a2w KI]at v1;cases v1;cases v2;exact absurd (aY (at1 e u1) u2) p0
    .exact jc c2.nodup (at1 e u1) (at1 e' v1) u2 v2
   .rcases CV b hb with e|e
    .subst e;exact hr.DX _ FV
    .exact(c2.DX b e).1
   .rcases CV b hb with e|e
    .subst e;exact .inl FV
    .rcases c4.new b e with g|g
     .exact .inl (lX b g).1
     .exact .inr g
   .by_cases e:i=r
    .subst e;rw[q1]at hi;cases hi;exact .inl (by rw[a2w KI])
    .rw[a1y (fun h=>e h.symm)];exact c5 i mb (by rw[a1y (fun h=>e h.symm)];exact hi)
   .obtain⟨k,k1,k2⟩:=c6 b hb;obtain⟨k3,k4⟩:=old k2;exact⟨k,⟨k1,k3⟩,k4⟩
 |_=>exact q2.elim
theorem abg{call fv v xs H H1 W r es es1}(h0:H[r]? = some (.map es))(h9:H1[r]? = some (.map es1))(hro:Kw (H1.drop H.length)=true)(hs:Y5 X P call fv xs (H.set r (.iP es)) v (H1.set r (.iP es1)) W):Y5 X P call fv xs H v H1 fun k=>W k/\k≠r:=fun A m h tf rH hr hf hx=>by
 obtain⟨mb0,q1,q2⟩:=hr.at_ r _ h0;have hrl:r<H.length:=(a0x.1 h0).1;have hrm:r<m.length:=by rw[hr.len];exact hrl
 cases mb0 with
 |gQ c=>
  obtain⟨cs',q3,q4⟩:=q2;have FV:c∈aZ m:=aY q1 rfl;have hch:=(a0x.1 q3).1;have hm:SwM m (m.set r (.jJ c)):=fun i=>by
   by_cases e:i=r
   .subst e;exact .inr (.inl ⟨c,q1,by rw[a2w hrm]⟩)
   .exact .inl (by rw[a1y (fun h=>e h.symm)])
  have old:∀{i b:Nat},Ho (m.set r (.jJ c)) i b->i≠r/\Ho m i b:=fun{i b} ho=>by
   obtain⟨mb,a1,a2⟩:=ho;by_cases e:i=r
   .subst e;rw[a2w hrm]at a1;cases a1;cases a2
   .rw[a1y (fun h=>e h.symm)]at a1;exact⟨e,mb,a1,a2⟩
  have lX:∀b,b∈aZ (m.set r (.jJ c))->b∈aZ m/\b≠c:=fun b hb=>by obtain⟨i,hi⟩:=kZ hb;obtain⟨e,mb,a1,a2⟩:=old hi;refine⟨aY a1 a2,fun e2=>?_⟩;subst e2;exact e (jc hr.nodup a1 q1 a2 rfl)
  have hA:∀b,AA A m b->AA (fun b=>A b/\b≠c) (m.set r (.jJ c)) b:=fun b hb=>⟨⟨hb.1,fun e=>hb.2 (e▸FV)⟩,fun h=>hb.2 (lX b h).1⟩;have xK:HR X P (fun b=>A b/\b≠c) (m.set r (.jJ c)) (H.set r (.iP es)) h:=by
   refine⟨by simp[hr.len],fun i b hi=>?_,jQ fun i j d a1 a2=>?_,fun b hb=>⟨hr.up b hb,by omega⟩,fun b hb=>⟨hr.DX b (lX b hb).1,(lX b hb).2⟩⟩
   .by_cases e:i=r
    .subst e;rw[a2w hrl]at hi;cases hi;exact⟨.jJ c,by rw[a2w hrm],fun h=>(lX c h).2 rfl,cs',q3,q4⟩
    .rw[a1y (fun h=>e h.symm)]at hi;obtain⟨mb,g1,g2⟩:=hr.at_ i b hi;exact⟨mb,by rw[a1y (fun h=>e h.symm)];exact g1,g2.sw hm hA fun d _ hn h=>hn (lX d h).1⟩
   .obtain⟨_,ma,u1,u2⟩:=old a1;obtain⟨_,mc,v1,v2⟩:=old a2;exact jc hr.nodup u1 v1 u2 v2
  obtain⟨w,h1,ws,m1,c1,c2,c3,c4,c5,c6⟩:=hs (fun b=>A b/\b≠c) (m.set r (.jJ c)) h tf rH xK (hf.sw hm hA) (hx.sw hm hA)
  .have ag7:r<H1.length:=(a0x.1 h9).1;obtain⟨mb1,e1,e2⟩:=c2.at_ r (.iP es1) (by rw[a2w ag7]);have e3:=c5 r (.jJ c) (by rw[a2w hrm]);have e4:mb1=.jJ c:=by
    rcases e3 with e3|e3<;>rw[e1]at e3<;>cases e3
    .rfl
    .exact e2.elim
   subst e4;obtain⟨p0,F8,p1,p2⟩:=e2;have KI:r<m1.length:=(a0x.1 e1).1;have hm1:SwM m1 (m1.set r (.gQ c)):=fun i=>by
    by_cases e:i=r
    .subst e;exact .inr (.inr ⟨c,e1,by rw[a2w KI]⟩)
    .exact .inl (by rw[a1y (fun h=>e h.symm)])
   have at1:∀{i:Nat} {mb:MB},i≠r->(m1.set r (.gQ c))[i]? = some mb->m1[i]? = some mb:=fun{i mb} e h=>by rw[a1y (fun h=>e h.symm)]at h;exact h
   have CV:∀b,b∈aZ (m1.set r (.gQ c))->b=c\/b∈aZ m1:=fun b hb=>by
    obtain⟨i,mb,a1,a2⟩:=kZ hb;by_cases e:i=r
    .subst e;rw[a2w KI]at a1;cases a1;cases a2;exact .inl rfl
    .exact .inr (aY (at1 e a1) a2)
   have hA1:∀b,AA (fun b=>A b/\b≠c) m1 b->AA A (m1.set r (.gQ c)) b:=fun b hb=>⟨hb.1.1,fun h=>by
    rcases CV b h with e|e
    .exact hb.1.2 e
    .exact hb.2 e⟩
   refine⟨w,h1,ws,m1.set r (.gQ c),c1,⟨by rw[a5O,c2.len,a5O],fun i b hi=>?_,jQ fun i j d a1 a2=>?_,fun b hb=>(c2.up b hb).1,fun b hb=>?_⟩,c3.sw hm1 hA1,⟨c4.len,fun b hb hn=>c4.same b hb fun h=>hn (lX b h).1,fun b hb=>?_,c4.grow⟩,fun i mb hi=>?_,fun b hb=>?_⟩
   .by_cases e:i=r
    .subst e;rw[h9]at hi;cases hi;exact⟨.gQ c,by rw[a2w KI],F8,p1,p2⟩
    .obtain⟨mb,g1,g2⟩:=c2.at_ i b (by rw[a1y (fun h=>e h.symm)];exact hi);refine⟨mb,by rw[a1y (fun h=>e h.symm)];exact g1,g2.sw hm1 hA1 fun d hd hn hd2=>?_⟩;subst hd;rcases CV d hd2 with e5|e5
     .subst e5;rcases a4W i m.length with aQ|CU
      .have MC:(m.set r (.jJ d))[i]? = m[i]?:=(by rw[a1y (fun h=>e h.symm)]);have hmi:m[i]? = some (.jJ d):=by
        rcases c5 i m[i] (by rw[MC];exact a0Q aQ)with e6|e6<;>rw[g1]at e6<;>simp only[a09]at e6
        .rw[a0Q aQ,<-e6]
        .cases e6
       have hlH:i<H.length:=by rw[<-hr.len];exact aQ
       obtain⟨mb9,e7,e8⟩:=hr.at_ i _ (a0Q hlH);rw[hmi]at e7;cases e7;generalize H[i]=b9 at e8;cases b9<;>first|exact e8.elim|exact e8.1 FV
      .have e6:(H1.drop H.length)[i-H.length]? = some b:=by rw[a5C,<-hi];congr 1;rw[hr.len]at CU;omega
       have e7:=Oa hro e6;cases b<;>first|exact g2.elim|cases e7
     .exact hn e5
   .obtain⟨ma,u1,u2⟩:=a1;obtain⟨mc,v1,v2⟩:=a2;by_cases e:i=r<;>by_cases e':j=r
    .rw[e,e']
    .subst e;rw[a2w KI]at u1;cases u1;cases u2;exact absurd (aY (at1 e' v1) v2) p0
    .subst e';rw[a2w KI]at v1;cases v1;cases v2;exact absurd (aY (at1 e u1) u2) p0
    .exact jc c2.nodup (at1 e u1) (at1 e' v1) u2 v2
   .rcases CV b hb with e|e
    .subst e;exact hr.DX _ FV
    .exact(c2.DX b e).1
   .rcases CV b hb with e|e
    .subst e;exact .inl FV
    .rcases c4.new b e with g|g
     .exact .inl (lX b g).1
     .exact .inr g
   .by_cases e:i=r
    .subst e;rw[q1]at hi;cases hi;exact .inl (by rw[a2w KI])
    .rw[a1y (fun h=>e h.symm)];exact c5 i mb (by rw[a1y (fun h=>e h.symm)];exact hi)
   .obtain⟨k,k1,k2⟩:=c6 b hb;obtain⟨k3,k4⟩:=old k2;exact⟨k,⟨k1,k3⟩,k4⟩
 |_=>exact q2.elim
theorem a0B{call fv v xs W}:∀{rs} {H H1 Hr Sv},roB rs H H1=some (Hr,Sv)->Kw (H1.drop H.length)=true->Y5 X P call fv xs Hr v Sv W->Y5 X P call fv xs H v H1 fun k=>W k/\k∉rs
 | [],H,H1,Hr,Sv,h1,hn,hs=>by simp only[roB,a09,a1k]at h1;obtain⟨rfl,rfl⟩:=h1;intro A m h tf rH a b c;obtain⟨w,h1,ws,m1,c1,c2,c3,c4,c5,c6⟩:=hs A m h tf rH a b c;exact⟨w,h1,ws,m1,c1,c2,c3,c4,c5,fun b hb=>by obtain⟨k,k1,k2⟩:=c6 b hb;exact⟨k,⟨k1,by simp⟩,k2⟩⟩
 |r::rs,H,H1,Hr,Sv,h1,hn,hs=>by
  simp only[roB]at h1;split at h1
  .rename_i cs U3 e1 e2;have aQ:r<H.length:=(a0x.1 e1).1;have:=ag6 e1 e2 hn (a0B h1 (by rw[a5O,List.drop_set_of_lt aQ];exact hn) hs);intro A m h tf rH a b c;obtain⟨w,h1,ws,m1,c1,c2,c3,c4,c5,c6⟩:=this A m h tf rH a b c;exact⟨w,h1,ws,m1,c1,c2,c3,c4,c5,fun b hb=>by obtain⟨k,⟨⟨k1,k3⟩,k4⟩,k2⟩:=c6 b hb;exact⟨k,⟨k1,by simp[k3,k4]⟩,k2⟩⟩
  .rename_i cs U3 e1 e2;have aQ:r<H.length:=(a0x.1 e1).1;have:=abg e1 e2 hn (a0B h1 (by rw[a5O,List.drop_set_of_lt aQ];exact hn) hs);intro A m h tf rH a b c;obtain⟨w,h1,ws,m1,c1,c2,c3,c4,c5,c6⟩:=this A m h tf rH a b c;exact⟨w,h1,ws,m1,c1,c2,c3,c4,c5,fun b hb=>by obtain⟨k,⟨⟨k1,k3⟩,k4⟩,k2⟩:=c6 b hb;exact⟨k,⟨k1,by simp[k3,k4]⟩,k2⟩⟩
  cases h1
theorem Y6{α rs}:∀{ks:List α} {i p} {k},ks[p]? = some k->i+p∉rs->k∈a4l rs i ks
 | [],_,_,_,h,_=>by simp at h
 |a::ks,i,0,k,h,hn=>by simp only[a3E,a09]at h;subst h;simp only[a4l];rw[a18 (by simpa using hn)];exact a3K
 |a::ks,i,p+1,k,h,hn=>by
  have:=Y6 (ks:=ks) (i:=i+1) (p:=p) (k:=k) (by simpa using h) (by rwa [Nat.add_right_comm,aaz] );simp only[a4l];split
  .exact this
  exact a3I _ this
theorem KJ(hX:bT X P){call ks H' Hp H H1 Sv fv fv' v v' xs xs' W}(hs:Y5 X P call fv xs H v H1 W)(jD:ks.Nodup) (hp:DU H' ks=some Hp) (hH:oq (xP ks) Hp=some H) (hf:fJ (xP ks) fv'=some fv) (hx:fJ.qc (xP ks) xs'=some xs)(hv:fJ (bk ks H'.length) v=some v') (hH1:oq (bk ks H'.length) H1=some Sv) (hro:Kw (H1.drop ks.length)=true) :∀(A) (m') (h) (tf) (rH),HR X P A m' H' h->VR X P (AA A m') m' h fv' tf->bZ X P (AA A m') m' h xs' rH ->∃w h1 ws m1,call tf rH h=some (w,h1,ws)/\HR X P A m1 (putAt ks Sv H'++Sv.drop ks.length) h1/\VR X P (AA A m1) m1 h1 v' w/\Fr m' h m1 h1/\Up m' m1/\∀b∈ws,∃p k,ks[p]? = some k/\W p/\Ho m' k b:=by
 intro A m' h tf rH hr hf' GN;have hpg:=Fe hp;have hHg:=uM hH;have hkH:∀{p k:Nat},ks[p]? = some k->k<m'.length:=fun{p k} hk=>by obtain⟨b,q1,_⟩:=hpg.2 hk;rw[hr.len];exact(a0x.1 q1).1
 have hkm:∀k∈ks,k<m'.length:=fun k hk=>by obtain⟨i,hi⟩:=a9f hk;exact hkH hi
 let m:List MB:=ks.map fun k=>m'.getD k .gone
 have hm:∀{p k:Nat},ks[p]? = some k->m[p]? = m'[k]?:=fun{p k} hk=>by show(ks.map _)[p]? = _;rw[a4V,hk];have:=hkH hk;simp[a3k,this]
 have a7E:m.length=ks.length:=a4X ..;have U8:∀{p:Nat} {mb:MB},m[p]? = some mb->∃k,ks[p]? = some k/\m'[k]? = some mb:=fun{p mb} hpm=>by
  have:p<ks.length:=by rw[<-a7E];exact(a0x.1 hpm).1
  have hk:=a0Q this;exact⟨_,hk,by rw[<-hm hk];exact hpm⟩
 have lX:∀b,b∈aZ m->b∈aZ m':=fun b hb=>by obtain⟨j,mb,q1,q2⟩:=kZ hb;obtain⟨k,_,q3⟩:=U8 q1;exact aY q3 q2
 have ag8:∀{i:Nat} {mb:MB} {b:Nat},i∉ks->m'[i]? = some mb->mb.own=some b->b∉aZ m:=fun{i mb b} hi h1 h2 hb=>by obtain⟨j,mc,q1,q2⟩:=kZ hb;obtain⟨k,q3,q4⟩:=U8 q1;have:=jc hr.nodup h1 q4 h2 q2;subst this;exact hi (a5N q3)
 let A2:Nat->Prop:=fun b=>A b/\(b∈aZ m'->b∈aZ m)
 have hA:∀b,AA A m' b->AA A2 m b:=fun b hb=>⟨⟨hb.1,fun h9=>absurd h9 hb.2⟩,fun h9=>hb.2 (lX b h9)⟩;have hg:∀i j,xP ks i=some j->m[j]? = m'[i]?:=fun i j AZ=>hm (Q9 AZ);have xK:HR X P A2 m H h:=by
  refine⟨by rw[a7E,hHg.1,hpg.1],fun j b hj=>?_,jQ fun i j c q1 q2=>?_,fun b hb=>⟨hr.up b hb,fun h9=>absurd (hr.inb h9) (by omega)⟩,fun b hb=>⟨hr.DX b (lX b hb),fun _=>hb⟩⟩
  .obtain⟨b0,q1,q2⟩:=hHg.2 hj;have tY:j<ks.length:=by rw[<-hpg.1];exact(a0x.1 q1).1
   have hk:=a0Q tY;obtain⟨b9,q5,q6⟩:=hpg.2 hk;rw[q1]at q6;cases q6;obtain⟨mb,q3,q4⟩:=hr.at_ _ _ q5;exact⟨mb,by rw[hm hk];exact q3,Fb hX hg hA (fun c _ h9 h8=>h9 (lX c h8)) q4 q2⟩
  .obtain⟨ma,a1,a2⟩:=q1;obtain⟨mc,c1,c2⟩:=q2;obtain⟨k,a3,a4⟩:=U8 a1;obtain⟨l,c3,c4⟩:=U8 c1;have e:=jc hr.nodup a4 c4 a2 c2;subst e;exact(List.getElem?_inj (a0x.1 a3).1 jD).1 (by rw[a3,c3])
 obtain⟨w,h1,ws,m1,c1,c2,c3,c4,c5,c6⟩:=hs A2 m h tf rH xK (Fa hg hA hX hf' hf) (zZ hX hg hA GN hx);have a7F:ks.length<=m1.length:=by
  rcases abp ks.length with e|e
  .omega
  .have aQ:ks.length-1<m.length:=(by omega);have:=c5 (ks.length-1) m[ks.length-1] (a0Q aQ);rcases this with g|g<;>(have:=(a0x.1 g).1;omega)
 let m1':List MB:=putAt ks m1 m'++m1.drop ks.length
 have hn:m'.length=H'.length:=hr.len;have abh:(putAt ks m1 m').length=m'.length:=uN;have a2q:∀{p k:Nat},ks[p]? = some k->m1'[k]? = m1[p]?:=fun{p k} hk=>by show(putAt ks m1 m'++_)[k]? = _;rw[a0U (by rw[abh];exact hkH hk),Qc jD hkm a7F hk]
 have a0C:∀{i:Nat},i<m'.length->i∉ks->m1'[i]? = m'[i]?:=fun{i} hi hk=>by show(putAt ks m1 m'++_)[i]? = _;rw[a0U (by rw[abh];exact hi),KH hk]
 have a0D:∀{j:Nat},ks.length<=j->m1'[m'.length+(j-ks.length)]? = m1[j]?:=fun{j} hj=>by show(putAt ks m1 m'++_)[_]? = _;rw[a1r (by rw[abh];omega),abh,Nat.add_sub_cancel_left,a5C];congr 1;omega
 have hgb:∀j i,bk ks H'.length j=some i->m1'[i]? = m1[j]?:=fun j i AZ=>by
  unfold bk at AZ;split at AZ
  .rename_i k hk;cases AZ;exact a2q hk
  .rename_i hk;cases AZ;rw[<-hn];exact a0D (by rw[List.getElem?_eq_none_iff]at hk;exact hk)
 have wF:∀{i:Nat} {mb:MB},m1'[i]? = some mb->(∃p,ks[p]? = some i/\m1[p]? = some mb)\/(i<m'.length/\i∉ks/\m'[i]? = some mb)\/(∃j,ks.length<=j/\i=m'.length+(j-ks.length)/\m1[j]? = some mb):=fun{i mb} hi=>by
  rcases a4W i m'.length with aQ|CU
  .by_cases hk:i∈ks
   .obtain⟨p,hp⟩:=a9f hk;exact .inl ⟨p,hp,by rw[<-a2q hp];exact hi⟩
   .exact .inr (.inl ⟨aQ,hk,by rw[<-a0C aQ hk];exact hi⟩)
  .refine .inr (.inr ⟨i-m'.length+ks.length,by omega,by omega,?_⟩);rw[<-a0D (by omega)];rw[<-hi];congr 1;omega
 have yO:∀{b:Nat},b∈aZ m1'->b∈aZ m1\/∃i mb,i∉ks/\m'[i]? = some mb/\mb.own=some b:=fun{b} hb=>by
  obtain⟨i,mb,q1,q2⟩:=kZ hb;rcases wF q1 with⟨p,_,q3⟩|⟨_,q3,q4⟩|⟨j,_,_,q3⟩
  .exact .inl (aY q3 q2)
  .exact .inr ⟨i,mb,q3,q4,q2⟩
  .exact .inl (aY q3 q2)
 have abj:∀{i b:Nat} {mb:MB},i∉ks->m'[i]? = some mb->mb.own=some b->b∉aZ m1:=fun{i b mb} h1 h2 h3 h4=>by
  rcases c4.new b h4 with g|g
  .exact ag8 h1 h2 h3 g
  .exact absurd (hr.inb (aY h2 h3)) (by omega)
 have hA3:∀b,AA A2 m1 b->AA A m1' b:=fun b hb=>⟨hb.1.1,fun h9=>by
  rcases yO h9 with g|⟨i,mb,g1,g2,g3⟩
  .exact hb.2 g
  .exact ag8 g1 g2 g3 (hb.1.2 (aY g2 g3))⟩
 have hF:Fr m' h m1' h1:=⟨c4.len,fun b hb hnb=>c4.same b hb fun h9=>hnb (lX b h9),fun b hb=>by
  rcases yO hb with g|⟨i,mb,g1,g2,g3⟩
  .rcases c4.new b g with g|g
   .exact .inl (lX b g)
   .exact .inr g
  .exact .inl (aY g2 g3),c4.grow⟩
 have hU:Up m' m1':=fun i mb hi=>by
  have aQ:=(a0x.1 hi).1;by_cases hk:i∈ks
  .obtain⟨p,hp⟩:=a9f hk;rw[a2q hp];exact c5 p mb (by rw[hm hp];exact hi)
  .exact .inl (by rw[a0C aQ hk];exact hi)
 have ag9:=uM hH1;have ak6:m1.length=H1.length:=c2.len;refine⟨w,h1,ws,m1',c1,⟨?_,fun i b hi=>?_,?_,fun b hb=>(c2.up b hb).1,fun b hb=>?_⟩,Fa hgb hA3 hX c3 hv,hF,hU,fun b hb=>?_⟩
 .show(putAt ks m1 m'++_).length=_;rw[a1B,a1B,uN,uN,a4g,a4g,ag9.1,ak6,hn]
 .have ak7:ks.length<=Sv.length:=by rw[ag9.1,<-ak6];exact a7F
  have aqb:∀k∈ks,k<H'.length:=fun k hk=>by rw[<-hn];exact hkm k hk
  have back:∀{j:Nat} {b:PB X.Γ},Sv[j]? = some b->∃mb,m1[j]? = some mb/\BR X P (AA A m1') m1' h1 b mb:=fun{j b} hj=>by
   obtain⟨b0,q1,q2⟩:=ag9.2 hj;obtain⟨mb,q3,q4⟩:=c2.at_ j b0 q1;refine⟨mb,q3,Fb hX hgb hA3 (fun c e h9 h8=>?_) q4 q2⟩;rcases yO h8 with g|⟨i,Ns,g1,g2,g3⟩
   .exact h9 g
   .subst e;rcases a4W j ks.length with hj1|hj1
    .have hk:=a0Q hj1;have tY:j<m.length:=by rw[a7E];exact hj1
     have hmj:m[j]? = some (.jJ c):=by
      rcases c5 j _ (a0Q tY)with e|e<;>rw[q3]at e<;>simp only[a09]at e
      .rw[a0Q tY,<-e]
      .cases e
     obtain⟨k,e1,e2⟩:=U8 hmj;obtain⟨b9,e3,_⟩:=hpg.2 e1;obtain⟨mb9,e4,e5⟩:=hr.at_ _ _ e3;rw[e2]at e4;cases e4;cases b9<;>first|exact e5.elim|exact e5.1 (aY g2 g3)
    .have e1:(H1.drop ks.length)[j-ks.length]? = some b0:=by rw[a5C,<-q1];congr 1;omega
     have e2:=Oa hro e1;cases b0<;>first|exact q4.elim|cases e2
  rcases a4W i H'.length with aQ|CU
  .rw[a0U (by rw[uN];exact aQ)]at hi;by_cases hk:i∈ks
   .obtain⟨p,hpk⟩:=a9f hk;rw[Qc jD aqb ak7 hpk]at hi;obtain⟨mb,q1,q2⟩:=back hi;exact⟨mb,by rw[a2q hpk];exact q1,q2⟩
   .rw[KH hk]at hi;obtain⟨mb,q1,q2⟩:=hr.at_ i b hi;refine⟨mb,by rw[a0C (by rw[hn];exact aQ) hk];exact q1,q2.step hF hU fun c hc=>?_⟩;exact c4.same c (hr.inb (aY q1 hc)) (ag8 hk q1 hc)
  .rw[a1r (by rw[uN];exact CU),uN,a5C]at hi;obtain⟨mb,q1,q2⟩:=back hi;refine⟨mb,?_,q2⟩;have:=a0D (j:=ks.length+(i-H'.length)) (by omega);rw[q1]at this;rw[<-this];congr 1;omega
 .refine jQ fun i j c q1 q2=>?_;obtain⟨ma,a1,a2⟩:=q1;obtain⟨mc,b1,b2⟩:=q2;rcases wF a1 with⟨p,a3,a4⟩|⟨a3,a4,a5⟩|⟨p,a3,a4,a5⟩<;>rcases wF b1 with⟨q,b3,b4⟩|⟨b3,b4,b5⟩|⟨q,b3,b4,b5⟩
  .have:=jc c2.nodup a4 b4 a2 b2;subst this;rw[a3]at b3;cases b3;rfl
  .exact absurd (aY a4 a2) (abj b4 b5 b2)
  .have:=jc c2.nodup a4 b5 a2 b2;subst this;have:=(a0x.1 a3).1;omega
  .exact absurd (aY b4 b2) (abj a4 a5 a2)
  .exact jc hr.nodup a5 b5 a2 b2
  .exact absurd (aY b5 b2) (abj a4 a5 a2)
  .have:=jc c2.nodup a5 b4 a2 b2;subst this;have:=(a0x.1 b3).1;omega
  .exact absurd (aY a5 a2) (abj b4 b5 b2)
  .have:=jc c2.nodup a5 b5 a2 b2;subst this;omega
 .rcases yO hb with g|⟨i,mb,g1,g2,g3⟩
  .exact(c2.DX b g).1
  .exact hr.DX b (aY g2 g3)
 .obtain⟨j,hw,mb,q1,q2⟩:=c6 b hb;obtain⟨k,q3,q4⟩:=U8 q1;exact⟨j,k,q3,hw,mb,q4,q2⟩
end
open Go Tw
section
variable{X:mV}{P:LI1}{A B F:Nat->Prop}{m m':List MB}{h h':List HB}{H H':List (PB X.Γ)}
variable{call:dO}{gq:gZ X.Γ}{site:Nat->Bool}{ρ:Type}{y:ρ}
def a7G(X:mV)(P:LI1)(A:Nat->Prop)(m:List MB)(call:dO)(site:Nat->Bool)(ts:St)(o:Oper)(k:PE X.Γ->bV X.Γ->PI->PT X.Γ->OT ρ)(y:ρ):Prop:=
 ∃pe ps1 pi J7,OpR X P A m call site ts o pe ps1 pi/\(k pe ps1 pi J7).Ends y
theorem vV{ps:bV X.Γ}{ts:St}(hR:wB X P A m ps ts){o:Oper}{k:PE X.Γ->bV X.Γ->PI->PT X.Γ->OT ρ}{r:Option (TV×St×yH)}{v:PV X.Γ}{H1:List (PB X.Γ)}{pi:PI}{an:PT X.Γ}(hm:Nu X P A m ts r v H1 pi)(ho:pU P call site ts o=r.map fun(v,s,i)=>(.val v,s,i)) (hk:(k (.val v) { ps with heap:=H1 } pi an).Ends y):a7G X P A m call site ts o k y:=by
 obtain⟨w,h1,ti,m1,rfl,e1,e2,e3,e4,e5,e6⟩:=hm;exact⟨.val v,_,_,_,⟨.val w,_,ti,m1,ho,rfl,rfl,hR.step e1 e3 e4,e2,e3,e4,e5,e6⟩,hk⟩
theorem jf{ps ts}(hR:wB X P A m ps ts){o k v w pi an}(hv:VR X P (AA A m) m ts.heap v w)(ho:pU P call site ts o=some (.val w,ts,dn))(hk:(k (.val v) ps pi an).Ends y):a7G X P A m call site ts o k y:=
 ⟨.val v,_,_,_,vT hR ho (oG hv),hk⟩
theorem aga{op a b v ta tb ps t x z}(ha:VR X P A m h a ta)(hb:VR X P A m h b tb)(hd:afQ op a b=some (v,ps))(hp:∀p∈ps,p) :∃w,uq P op t x z ta tb=some w/\VR X P A m h v w:=by
 unfold afQ at hd;split at hd
 .cases ha with
  |gone hi _ _=>simp[bf]at hi
  |int=>
   cases hb with
   |gone hi _ _=>simp[bf]at hi
   |int=>
    split at hd
    .split at hd
     .rename_i e;subst e;cases hd;exact⟨_,a7g (hp _ (.head _)),.int _ _⟩
     .cases hd
    .split at hd
     .rename_i e;subst e;cases hd;exact⟨_,a7h (hp _ (.head _)),.int _ _⟩
     .cases hd
    .cases hd;exact⟨_,a7e (hp _ (.head _)),.int _ _⟩
    .cases hd;exact⟨_,a7f (hp _ (.head _)),.int _ _⟩
    .cases hd
 .cases hd
theorem agb(hX:bT X P)(hO:jT X P call gq){ps ts}(hR:wB X P A m ps ts){o an k}(hk:(afT X P gq (dK X P call) site ps o an k).Ends y):a7G X P A m call site ts o k y:=by
 have hE:=hR.env;unfold afT at hk;split at hk
 .
  rename_i x ho;split at hk
  .rename_i v hv;obtain⟨e,h1,h2⟩:=nR hE hv;exact⟨_,_,_,_,vT hR (by simp only[pU,ho,h1,a1n]) h2,hk⟩
  exact hk.elim
 .rename_i x ho;split at hk
  .rename_i v hv;obtain⟨e,h1,h2⟩:=nR hE hv;exact⟨_,_,_,_,vT hR (by simp only[pU,ho,h1,a1n]) h2,hk⟩
  exact hk.elim
 .
  rename_i c a b ho;split at hk
  .rename_i u hu;obtain⟨tu,h1,h2⟩:=XW hE hu;obtain⟨t,J7,rfl,hk⟩:=a0y hk h2;split at hk
   .rename_i v hv;obtain⟨e,g1,g2⟩:=nR hE hv;exact⟨_,_,_,_,vT (hR.CX h1) (by simp only[pU,ho,h1,g1,a1n]) g2,hk⟩
   exact hk.elim
  exact hk.elim
 .
  rename_i e ho;split at hk
  .rename_i z hz;obtain⟨z',g1,g2⟩:=IY (A:=AA A m) (m:=m) (h:=ts.heap) hz;obtain⟨m1,e1,e2,e3,e4,e5,e6⟩:=U1 hR (site:=site (o.dst.getD 0)) g2;exact⟨_,_,_,_,⟨_,_,dn,m1,by simp only[pU,ho,g1,a1n],e1,e2,e3,e4,e5,e6,.none,fun b hb=>by cases hb⟩,hk⟩
  exact hk.elim
 .
  rename_i t x ho;split at hk
  .rename_i v hv;obtain⟨w,g1,g2⟩:=jK hE hv;split at hk
   .rename_i vZ;have hc:=IW g2;obtain⟨m1,e1,e2,e3,e4,e5,e6⟩:=U1 hR (site:=site (o.dst.getD 0)) hc;exact⟨_,_,_,_,⟨_,_,dn,m1,by simp only[pU,ho,g1,EY hc,vZ,a2p],e1,e2,e3,e4,e5,e6,.none,fun b hb=>by cases hb⟩,hk⟩
   exact hk.elim
  exact hk.elim
 .
  rename_i t qs ho;split at hk
  .rename_i vs RS;obtain⟨ws,g1,g2⟩:=a0t hE RS;split at hk
   .rename_i v hv;obtain⟨w,g3,g4⟩:=a7r g2 hv;exact jf hR g4 (by simp only[pU,ho,g1,g3,a1n]) hk
   exact hk.elim
  exact hk.elim
 .
  rename_i t len qs ho;split at hk
  rotate_left
  .exact hk.elim
  rename_i vs RS;obtain⟨ws,g1,g2⟩:=a0t hE RS;split at hk
  .split at hk
   .rename_i v H1 hv;refine vV hR (qx hX hR g2 hv) ?_ hk;simp only[pU,ho,g1,afe];rfl
   exact hk.elim
  .split at hk
   .rename_i v H1 hv;refine vV hR (Nu.fzl hX (fun u H e=>qx hX hR g2 e) hv) ?_ hk;simp only[pU,ho,g1,afe];rfl
   exact hk.elim
  split at hk
  .rename_i v H1 hv;refine vV hR (qx hX hR g2 hv) ?_ hk;simp only[pU,ho,g1,afe];rfl
  exact hk.elim
 .
  rename_i t a ho;split at hk
  .rename_i pa ha;obtain⟨ea,g1,g2⟩:=nR hE ha;split at hk
   .rename_i v i hv;obtain⟨w,ti,g3,g4,g5,g6⟩:=Ih hX hR g2 hv;exact⟨.val v,_,_,_,⟨.val w,ts,ti,m,by simp only[pU,ho,g1,g3,a1n],rfl,rfl,hR,g4,.refl,.refl,g5,fun b hb=>by rw[g6]at hb;cases hb⟩,hk⟩
   exact hk.elim
  exact hk.elim
 .
  rename_i t a x ho;split at hk
  .rename_i pa v ha hv;obtain⟨ea,g1,g2⟩:=nR hE ha;obtain⟨w,g3,g4⟩:=jK hE hv;split at hk
   .rename_i s i hs;obtain⟨iV,ti,m1,e1,e2,e3,e4,e5,e6,e7,e8⟩:=zK hX hR g2 g4 hs;exact⟨.undef,_,_,_,⟨.undef,iV,ti,m1,by simp only[pU,ho,g1,g3,e1,a1n],e2,e3,e4,trivial,e5,e6,e7,e8⟩,hk⟩
   exact hk.elim
  exact hk.elim
 .
  rename_i x ho;have go:∀{pe:PE X.Γ} {ev:EV},JH ts.env x=some ev->JK X P (AA A m) m ts.heap pe ev->(match ev with|.loc _ _=>True|.val (.ptr _ _ _)=>True|.val (.fn _ _ _)=>True|_=>False)->(k pe ps yw an).Ends y->a7G X P A m call site ts o k y:=by
   intro pe ev h1 h2 h3 h4;refine⟨_,_,_,_,vT hR ?_ h2,h4⟩;cases ev with
   |loc a b=>simp only[pU,ho,h1]
   |val v=>cases v<;>simp at h3<;>simp only[pU,ho,h1]
   |undef|ent|FK=>simp at h3
  split at hk
  .rename_i a b ha;obtain⟨ea,g1,g2⟩:=nR hE ha;have:=EZ g2;subst this;exact go g1 g2 trivial hk
  .rename_i a b c ha;obtain⟨ea,g1,g2⟩:=nR hE ha;obtain⟨w,rfl,g3⟩:=gJ g2;split at hk
   .rename_i cs hb;obtain⟨mb,f1,f2⟩:=hR.heap.at_ a _ hb;cases mb with
    |gQ cb=>
     cases g3 with
     |ptr e=>exact go g1 g2 trivial hk
     |gone hi e _=>simp only[bf,a09]at hi;subst hi;rw[f1]at e;cases e
    |_=>exact f2.elim
   .rename_i cs hb;obtain⟨mb,f1,f2⟩:=hR.heap.at_ a _ hb;cases mb with
    |jJ cb=>
     cases g3 with
     |ptr e=>rw[f1]at e;cases e
     |gone hi e _=>
      simp only[bf,a09]at hi;subst hi;rw[f1]at e;cases e with
      |r _ e=>simp only[roV,a09]at e;subst e;exact go g1 g2 trivial hk
    |_=>exact f2.elim
   exact hk.elim
  .rename_i a b c ha;obtain⟨ea,g1,g2⟩:=nR hE ha;obtain⟨w,rfl,g3⟩:=gJ g2;split at hk
   .rename_i q1 q2 q3 q4 hb;obtain⟨mb,f1,f2⟩:=hR.heap.at_ a _ hb;cases mb with
    |dD cb=>
     cases g3 with
     |row e=>exact go g1 g2 trivial hk
     |gone hi e _=>simp only[bf,a09]at hi;subst hi;rw[f1]at e;cases e
    |_=>exact f2.elim
   exact hk.elim
  .rename_i a b c ha;obtain⟨ea,g1,g2⟩:=nR hE ha;obtain⟨w,rfl,g3⟩:=gJ g2;cases g3 with
   |el=>exact go g1 g2 trivial hk
   |gone hi _ _=>simp[bf]at hi
  .rename_i a b c ha;obtain⟨ea,g1,g2⟩:=nR hE ha;obtain⟨w,rfl,g3⟩:=gJ g2;cases g3 with
   |fn=>exact go g1 g2 trivial hk
   |gone hi _ _=>simp[bf]at hi
  exact hk.elim
 .
  rename_i op t x z w0 ho;split at hk
  rotate_left
  .exact hk.elim
  rename_i a b ha hb;obtain⟨ta,g1,g2⟩:=jK hE ha;obtain⟨tb,g3,g4⟩:=jK hE hb;split at hk
  .split at hk
   .rename_i v ps hd;obtain⟨hp,hk⟩:=vU hk;obtain⟨w,e1,e2⟩:=aga (P:=P) (t:=t) (x:=x) (z:=z) g2 g4 hd hp;exact jf hR e2 (by simp only[pU,ho,g1,g3,e1,a1n]) hk
   exact hk.elim
  split at hk
  .rename_i v q hv;obtain⟨w,e1,e2⟩:=a4p (x:=x) (y:=z) hR.heap g2 g4 hv hk.1;exact jf hR e2 (by simp only[pU,ho,g1,g3,e1,a1n]) hk.2
  split at hk
  .split at hk
   .rename_i w r;split at hk
    .rename_i v ua ub e1 e2 e3;obtain⟨RU,hk⟩:=hk;rw[<-jZ g2 e2,<-jZ g4 e3]at RU;exact jf hR (xX e1) (by simp only[pU,ho,g1,g3,RU,a1n]) hk
    exact hk.elim
   exact hk.elim
  split at hk
  .rename_i v hv;obtain⟨w,e1,e2⟩:=ZO g2 g4 hv;exact jf hR e2 (by simp only[pU,ho,g1,g3,e1,a1n]) hk
  exact hk.elim
 .
  rename_i op t x ho;split at hk
  .rename_i a ha;obtain⟨ta,g1,g2⟩:=jK hE ha;split at hk
   .rename_i v hv;obtain⟨w,e1,e2⟩:=jk g2 hv;exact jf hR e2 (by simp only[pU,ho,g1,e1,a1n]) hk
   exact hk.elim
  exact hk.elim
 .
  rename_i s d x ho;split at hk
  .rename_i a ha;obtain⟨ta,g1,g2⟩:=jK hE ha;split at hk
   .split at hk
    .rename_i w r;split at hk
     .rename_i v ua e1 e2;obtain⟨RU,hk⟩:=hk;rw[<-jZ g2 e2]at RU;exact jf hR (xX e1) (by simp only[pU,ho,g1,RU,a1n]) hk
     exact hk.elim
    exact hk.elim
   split at hk
   .rename_i v hv;obtain⟨w,e1,e2⟩:=V9 g2 hv;exact jf hR e2 (by simp only[pU,ho,g1,e1,a1n]) hk
   exact hk.elim
  exact hk.elim
 .
  rename_i f first cap ho
  split at hk
  .rename_i a b ha hb;obtain⟨ta,g1,g2⟩:=VJ hE ha;obtain⟨tb,g3,g4⟩:=VJ hE hb;exact jf hR (.fn g2.1 g2.2 g4.1 g4.2) (by simp only[pU,ho,g1,g3]) hk
  exact hk.elim
 .
  rename_i t r ho;have hp:=hR.heap.push (pb:=.map []) (hb:=.map []) (mb:=.gQ ts.heap.length) (.inl rfl) ⟨[],by simp,rfl,fun i a b ha=>by simp at ha⟩;have go:pU P call site ts o=some (.val (.map ts.heap.length),{ ts with heap:=ts.heap++[.map []] },dn)->∀{an:PT X.Γ},(k (.val (.map ps.heap.length)) { ps with heap:=ps.heap++[.map []] } yw an).Ends y->a7G X P A m call site ts o k y:=fun h1 an h2=>
   ⟨.val (.map ps.heap.length),_,_,_,⟨_,_,dn,_,h1,rfl,rfl,hR.step hp.1 hp.2.1 hp.2.2,oG (.map (by rw[<-hR.heap.len];simp)),hp.2.1,hp.2.2,.none,fun b hb=>by cases hb⟩,h2⟩
  split at hk
  .rename_i h1;obtain⟨w,g1,g2⟩:=IZ hE h1;have:=sG g2;subst this;exact go (by simp only[pU,ho,g1]) hk
  .rename_i k0 n0 kt vt h1 hu;obtain⟨w,g1,g2⟩:=IZ hE h1;have:=Q5 g2;subst this;exact go (by simp only[pU,ho,g1,hu]) hk
  exact hk.elim
 .
  rename_i t l c ho;split at hk
  .rename_i vl vc hl hc;obtain⟨tl,g1,g2⟩:=jK hE hl;obtain⟨tc,g3,g4⟩:=jK hE hc;split at hk
   .rename_i v H1 qs hv;obtain⟨hq,hk⟩:=vU hk;refine vV hR (AX hX hR g2 g4 hv hq) ?_ hk;simp only[pU,ho,g1,g3,afe];rfl
   exact hk.elim
  exact hk.elim
 .
  rename_i t x lo hi mx ho;split at hk
  rotate_left
  .exact hk.elim
  rename_i px plo yx pmx hx Iu hhi hmx;obtain⟨ex,g1,g2⟩:=nR hE hx;obtain⟨Sm,g3,g4⟩:=IZ hE Iu;obtain⟨Sr,g5,g6⟩:=IZ hE hhi;obtain⟨tmx,g7,g8⟩:=IZ hE hmx;split at hk
  .rename_i n e hu;split at hk
   .split at hk
    .rename_i v hv;refine vV (H1:=ps.heap) hR (VO hR g2 g4 g6 g8 hv) ?_ hk;simp only[pU,ho,g1,g3,g5,g7,hu,afe];rfl
    exact hk.elim
   split at hk
   .rename_i v H1 qs hv;obtain⟨hq,hk⟩:=vU hk;refine vV hR (DC hX hR g2 g4 g6 g8 hv hq) ?_ hk;simp only[pU,ho,g1,g3,g5,g7,hu,afe];rfl
   exact hk.elim
  rename_i agc;have jy:∀{w:TV},ex=.val w->pU P call site ts o=(rP P t w Sm Sr tmx).map fun v=>(.val v,ts,dn):=by intro w e;subst e;simp only[pU,ho,g1,g3,g5,g7]
  split at hk
  .rename_i b;obtain⟨w,rfl,g9⟩:=gJ g2;have:w=.str b:=by
    cases g9 with
    |str=>rfl
    |gone hi _ _=>simp[bf]at hi
   subst this;split at hk
   rotate_left
   .exact hk.elim
   rename_i w r;split at hk
   rotate_left
   .exact hk.elim
   rename_i v tl th e1 e2 e3;split at hk
   rotate_left
   .exact hk.elim
   rename_i ak8;obtain⟨hs,hk⟩:=hk;have h7:tmx=none:=by
    cases pmx with
    |none=>exact sG g8
    |some _=>simp at ak8
   have h5:Sm=tl:=by
    cases plo with
    |none=>simp at e2;rw[sG g4,e2]
    |some q=>
     obtain⟨tq,rfl⟩:=O8 g4;simp only[a0A]at e2;obtain⟨q1,q2,rfl⟩:=e2;rw[jZ (show VR X P (AA A m) m ts.heap q tq from g4) q2]
   have h6:Sr=th:=by
    cases yx with
    |none=>simp at e3;rw[sG g6,e3]
    |some q=>
     obtain⟨tq,rfl⟩:=O8 g6;simp only[a0A]at e3;obtain⟨q1,q2,rfl⟩:=e3;rw[jZ (show VR X P (AA A m) m ts.heap q tq from g6) q2]
   subst h5;subst h6;subst h7;exact jf hR (xX e1) (by rw[jy rfl,hs];rfl) hk
  .rename_i px' hns;obtain⟨w,rfl,g9⟩:=gJ g2;split at hk
   .rename_i v qs hv;obtain⟨hq,hk⟩:=vU hk;obtain⟨w',e1,e2⟩:=OQ hR g9 g4 g6 g8 hv hq;exact jf hR e2 (by rw[jy rfl,e1];rfl) hk
   exact hk.elim
  exact hk.elim
 .
  rename_i t x f ho;split at hk
  .rename_i pa n ha hn;obtain⟨ea,g1,g2⟩:=nR hE ha;split at hk
   .rename_i v hv;obtain⟨eb,g3,g4⟩:=OL hR g2 hv;exact⟨_,_,_,_,vT hR (by simp only[pU,ho,g1,hn,g3,a1n]) g4,hk⟩
   exact hk.elim
  exact hk.elim
 .
  rename_i t x f ho;split at hk
  .rename_i a ha;obtain⟨ta,g1,g2⟩:=jK hE ha;split at hk
   .rename_i v hv;obtain⟨w,e1,e2⟩:=OM g2 hv;exact jf hR e2 (by simp only[pU,ho,g1,e1,a1n]) hk
   exact hk.elim
  exact hk.elim
 .
  rename_i t x i ho;split at hk
  .rename_i pa vi ha hi;obtain⟨ea,g1,g2⟩:=nR hE ha;obtain⟨ti,g3,g4⟩:=jK hE hi;split at hk
   .rename_i v qs hv;obtain⟨hq,hk⟩:=vU hk;obtain⟨eb,g5,g6⟩:=AU hR g2 g4 hv hq;exact⟨_,_,_,_,vT hR (by simp only[pU,ho,g1,g3,g5,a1n]) g6,hk⟩
   exact hk.elim
  exact hk.elim
 .
  rename_i t x i ho;split at hk
  .rename_i a vi ha hi;obtain⟨ta,g1,g2⟩:=jK hE ha;obtain⟨ti,g3,g4⟩:=jK hE hi;split at hk
   .split at hk
    .rename_i w r;split at hk
     .rename_i v ua ui e1 e2 e3;obtain⟨RU,hk⟩:=hk;rw[<-jZ g2 e2,<-jZ g4 e3]at RU;exact jf hR (xX e1) (by simp only[pU,ho,g1,g3,RU,a1n]) hk
     exact hk.elim
    exact hk.elim
   split at hk
   .rename_i v hv;obtain⟨w,e1,e2⟩:=OO g2 g4 hv;exact jf hR e2 (by simp only[pU,ho,g1,g3,e1,a1n]) hk
   exact hk.elim
  exact hk.elim
 .
  rename_i t mm i ok ho;split at hk
  .rename_i vm vi hm hi;obtain⟨tm,g1,g2⟩:=jK hE hm;obtain⟨ti,g3,g4⟩:=jK hE hi;obtain⟨v,pi,J7,w,e1,e2,e3,e4⟩:=ab9 hR g2 g4 hk;refine⟨.val v,_,_,_,⟨.val w,ts,_,m,?_,rfl,rfl,hR,e2,.refl,.refl,e4,fun b hb=>by cases hb⟩,e3⟩;simp only[pU,ho,g1,g3,e1,a1n];cases tm<;>rfl
  exact hk.elim
 .
  rename_i t mm i x ho;split at hk
  .rename_i vm vi vx hm hi hx;obtain⟨tm,g1,g2⟩:=jK hE hm;obtain⟨ti,g3,g4⟩:=jK hE hi;obtain⟨tx,g5,g6⟩:=jK hE hx;obtain⟨ps1,pi,J7,h1,a0E,e1,e2,e3,e4,e5,e6⟩:=a7D hR g2 g4 g6 hk;exact⟨.undef,_,_,_,⟨.undef,{ ts with heap:=h1 },a0E,m,by simp only[pU,ho,g1,g3,g5,e1,a1n],rfl,rfl,e2,trivial,e3,.refl,e5,e6⟩,e4⟩
  exact hk.elim
 .
  rename_i t mm i x ho;split at hk
  .rename_i vm vi vx hm hi hx;obtain⟨tm,g1,g2⟩:=jK hE hm;obtain⟨ti,g3,g4⟩:=jK hE hi;obtain⟨tx,g5,g6⟩:=jK hE hx;obtain⟨ps1,pi,J7,h1,a0E,e1,e2,e3,e4,e5,e6⟩:=a7D hR g2 g4 g6 hk;exact⟨.undef,_,_,_,⟨.undef,{ ts with heap:=h1 },a0E,m,by simp only[pU,ho,g1,g3,g5,e1,a1n],rfl,rfl,e2,trivial,e3,.refl,e5,e6⟩,e4⟩
  exact hk.elim
 .
  rename_i t mm i ho;split at hk
  .rename_i vm vi hm hi;obtain⟨tm,g1,g2⟩:=jK hE hm;obtain⟨ti,g3,g4⟩:=jK hE hi;obtain⟨e,e',ps1,pi,J7,h1,a0E,e1,e0,e2,e3,e4,e5,e6⟩:=abd hR g2 g4 hk;exact⟨e,_,_,_,⟨e',{ ts with heap:=h1 },a0E,m,by simp only[pU,ho,g1,g3,e1],rfl,rfl,e2,e0,e3,.refl,e5,e6⟩,e4⟩
  exact hk.elim
 .
  rename_i t mm i x ho;split at hk
  .rename_i vm vi vx hm hi hx;obtain⟨tm,g1,g2⟩:=jK hE hm;obtain⟨ti,g3,g4⟩:=nR hE hi;obtain⟨tx,g5,g6⟩:=jK hE hx;obtain⟨ps1,pi,h1,a0E,e1,e2,e3,e4,e5,e6⟩:=abe hR g2 g4 g6 hk;exact⟨.undef,_,_,_,⟨.undef,{ ts with heap:=h1 },a0E,m,by simp only[pU,ho,g1,g3,g5,e1,a1n],rfl,rfl,e2,trivial,e3,.refl,e5,e6⟩,e4⟩
  exact hk.elim
 .
  rename_i t i ho;split at hk
  .rename_i vs hv;obtain⟨w,g1,g2⟩:=nR hE hv;obtain⟨w,rfl,g2⟩:=gJ g2;split at hk
   .rename_i v hvi;cases g2 with
    |dM h1 h2=>
     obtain⟨x,e1,e2⟩:=bZ.get ⟨h1,h2⟩ hvi;exact jf hR e2 (by simp only[pU,ho,g1,zI,e1,a1n]) hk
    |gone hi _ _=>simp[bf]at hi
   exact hk.elim
  .rename_i r j v hv;obtain⟨w,g1,g2⟩:=nR hE hv;obtain⟨c,y0,rfl,q1,q2⟩:=O6 g2;split at hk
   .exact jf hR (oD q2) (by simp only[pU,ho,g1,zI,a1n]) hk
   .exact⟨_,_,_,_,vT hR (pe:=.FK r j) (ev:=.FK c j) (by simp only[pU,ho,g1,zI,a1n]) ⟨q1,rfl⟩,hk⟩
   exact hk.elim
  exact hk.elim
 .
  rename_i c ho;split at hk
  rotate_left
  .exact hk.elim
  rename_i az has;obtain⟨tas,g1,g2⟩:=VJ hE has;have yP:∀{b:Builtin},c.callee=.builtin b->∀{r:Option (TV×St×yH)},rQ P b c.argTypes o.type ts tas=r->pU P call site ts o=r.map fun(v,s,i)=>(.val v,s,i):=by intro b hb r hr;simp only[pU,ho,Oz,hb,g1,hr]
  split at hk
  .rename_i hb;split at hk
   .rename_i x;obtain⟨tx,r,rfl,q1,q2⟩:=g2.inv;have:=q2.inv0;subst this;split at hk
    .rename_i v i hv;obtain⟨w,ti,e1,e2,e3,e4⟩:=ZR hR.heap q1 hv;exact⟨.val v,_,_,_,⟨.val w,ts,ti,m,by rw[yP hb (r:=some (w,ts,ti)) (by simp only[rQ,e1,a1n])];rfl,rfl,rfl,hR,oG e2,.refl,.refl,e3,fun b hb=>by rw[e4]at hb;cases hb⟩,hk⟩
    exact hk.elim
   exact hk.elim
  .rename_i hb;split at hk
   .rename_i d x;obtain⟨td,r,rfl,q1,q2⟩:=g2.inv;obtain⟨tx,r,rfl,q3,q4⟩:=q2.inv;have:=q4.inv0;subst this;split at hk
    .rename_i v H1 i qs hv;obtain⟨hq,hk⟩:=vU hk;exact vV hR (JY hX hR q1 q3 hv hq) (yP hb rfl) hk
    exact hk.elim
   exact hk.elim
  .rename_i hb;split at hk
   .rename_i d x;obtain⟨td,r,rfl,q1,q2⟩:=g2.inv;obtain⟨tx,r,rfl,q3,q4⟩:=q2.inv;have:=q4.inv0;subst this;split at hk
    .rename_i v H1 i hv;exact vV hR (Ve hX hR q1 q3 hv) (yP hb rfl) hk
    exact hk.elim
   exact hk.elim
  .rename_i hb;split at hk
   .rename_i v hv;obtain⟨w,e1,e2⟩:=zM g2 hv;refine jf hR e2 ?_ hk;rw[yP hb (r:=some (w,ts,dn)) (by simp only[rQ,e1,a1n])];rfl
   exact hk.elim
  .rename_i hb;split at hk
   .rename_i v hv;obtain⟨w,e1,e2⟩:=zM g2 hv;refine jf hR e2 ?_ hk;rw[yP hb (r:=some (w,ts,dn)) (by simp only[rQ,e1,a1n])];rfl
   exact hk.elim
  .rename_i f hb;split at hk
   rotate_left
   .exact hk.elim
   rename_i fv hfv;obtain⟨tf,f1,f2⟩:=jK hE hfv;have jy:∀{w:TV} {h1:List HB} {ws:List Nat},call tf tas ts.heap=some (w,h1,ws)->pU P call site ts o=some (.val w,{ ts with heap:=h1 },⟨true,[],ws.map .h⟩):=by intro w h1 ws hc;simp only[pU,ho,Oz,hb,g1,f1,hc]
   unfold a7o at hk;split at hk
   .rename_i v H1 r;obtain⟨hs,hk⟩:=hk;obtain⟨w,h1,ws,m1,c1,c2,c3,c4,c5,c6⟩:=hs A m ts.heap tf tas hR.heap f2 g2;refine⟨.val v,_,_,_,⟨.val w,_,_,m1,jy c1,rfl,rfl,hR.step c2 c4 c5,oG c3,c4,c5,⟨fun _=>rfl,fun k hk=>(by cases hk),fun k hk=>?_,fun b hb=>?_,fun b hb=>(by cases hb),fun h=>(by cases h)⟩,fun b hb=>?_⟩,hk⟩
    .simp at hk
    .simp at hb;exact .inr ⟨rfl,c6 b hb⟩
    simp at hb;exact c6 b hb
   .split at hk
    .rename_i Hp jD hp;split at hk
     .rename_i Hs fv1 xs1 hHs agd agf;split at hk
      .rename_i v1 Sv Xe agh;obtain⟨hs,hk⟩:=hk;simp only[a2n,a1x]at jD;obtain⟨w,h1,ws,m1,c1,c2,c3,c4,c5,c6⟩:=KJ hX hs.w jD.1 hp hHs agd agf Xe agh jD.2 A m ts.heap tf tas hR.heap f2 g2;refine⟨.val v1,_,_,_,⟨.val w,_,_,m1,jy c1,rfl,rfl,hR.step c2 c4 c5,oG c3,c4,c5,⟨fun _=>rfl,fun k hk=>(by cases hk),fun k hk=>?_,fun b hb=>?_,fun b hb=>(by cases hb),fun h=>(by cases h)⟩,fun b hb=>?_⟩,hk⟩
       .simp at hk
       .simp at hb;obtain⟨_,k,h8,_,h9⟩:=c6 b hb;exact .inl ⟨k,a1w.2 ⟨k,a5N h8,rfl⟩,h9⟩
       simp at hb;obtain⟨_,k,_,_,mb,h8,h9⟩:=c6 b hb;exact aY h8 h9
      exact hk.elim
     exact hk.elim
    exact hk.elim
   .split at hk
    .rename_i Hp jD hp;split at hk
     .rename_i Hs fv1 xs1 hHs agd agf;split at hk
      .rename_i v1 Sv Hs2 H2 Xe agh aqc;obtain⟨hs,hk⟩:=hk;simp only[a2n,a1x]at jD;have hsl:Hs.length=_:=(uM hHs).1.trans (Fe hp).1;obtain⟨w,h1,ws,m1,c1,c2,c3,c4,c5,c6⟩:=KJ hX (a0B aqc (by rw[hsl];exact jD.2) hs.w) jD.1 hp hHs agd agf Xe agh jD.2 A m ts.heap tf tas hR.heap f2 g2;refine⟨.val v1,_,_,_,⟨.val w,_,_,m1,jy c1,rfl,rfl,hR.step c2 c4 c5,oG c3,c4,c5,⟨fun _=>rfl,fun k hk=>(by cases hk),fun k hk=>?_,fun b hb=>?_,fun b hb=>(by cases hb),fun h=>(by cases h)⟩,fun b hb=>?_⟩,hk⟩
       .simp at hk
       .simp at hb;obtain⟨p,k,h8,h7,h9⟩:=c6 b hb;exact .inl ⟨k,a1w.2 ⟨k,Y6 h8 (by simpa using h7.2),rfl⟩,h9⟩
       simp at hb;obtain⟨_,k,_,_,mb,h8,h9⟩:=c6 b hb;exact aY h8 h9
      exact hk.elim
     exact hk.elim
    exact hk.elim
   split at hk
   .rename_i g first cap _
    cases f2 with
    |gone hi _ _=>simp[bf]at hi
    |fn p1 p2 p3 p4=>
     split at hk
     .rename_i vs RS;split at hk
      .rename_i v ext qs aqd;split at hk
       .rename_i ext' yC;obtain⟨hq,hk⟩:=vU hk;obtain⟨w,h1,m1,c1,c2,c3,c4,c5⟩:=J6 hX (hO _ _ _ _ _ aqd hq) hR.heap RS yC ⟨p1,p2⟩ g2 ⟨p3,p4⟩;refine⟨.val (shift ps.heap.length v),_,_,_,⟨.val w,_,_,m1,jy c1,rfl,rfl,hR.step c2 c4 c5,oG c3,c4,c5,⟨fun _=>rfl,fun k hk=>(by cases hk),fun k hk=>(by simp at hk),fun b hb=>(by simp at hb),fun b hb=>(by cases hb),fun h=>(by cases h)⟩,fun b hb=>(by simp at hb)⟩,hk⟩
       exact hk.elim
      exact hk.elim
     exact hk.elim
   exact hk.elim
  exact hk.elim
 .
  rename_i t x ho;split at hk
  .rename_i r kt et hx hu;obtain⟨tx,g1,g2⟩:=jK hE hx;split at hk
   .rename_i es NP;obtain⟨c,gV,q0,q3,q4,q5⟩:=DY hR.heap NP;have htm:=a2o g2 q0;subst htm;have aQ:r<m.length:=by rcases q0 with q1|⟨q1,_⟩<;>exact(a0x.1 q1).1
    have hp:=hR.heap.push (pb:=.dB r es.length []) (hb:=.dB c es.length []) (mb:=.gQ ts.heap.length) (.inl rfl) ⟨c,by simp,by rw[a0U aQ];rcases q0 with q1|⟨q1,_⟩<;>rw[q1]<;>rfl,fun c' hc=>by rw[a0U aQ]at hc;rcases q0 with q1|⟨q1,_⟩<;>rw[q1]at hc<;>simp at hc<;>exact hc.symm⟩
    have go:pU P call site ts o=some (.val (.iter ts.heap.length),{ ts with heap:=ts.heap++[.dB c es.length []] },yA (.h c)):=by simp only[pU,ho,g1,hu,q3,q4]
    exact⟨.val (.iter ps.heap.length),_,_,_,⟨_,_,yA (.h c),_,go,rfl,rfl,hR.step hp.1 hp.2.1 hp.2.2,oG (.iter (by rw[<-hR.heap.len];simp)),hp.2.1,hp.2.2,IR.reads rfl (fun b hb=>by simp[yA]at hb;subst hb;exact⟨U6 q0,(a0x.1 q3).1⟩) (by simp[yA]),fun b hb=>by simp[yA]at hb⟩,hk⟩
   exact hk.elim
  exact hk.elim
 .
  rename_i x ho;split at hk
  rotate_left
  .exact hk.elim
  rename_i b hx;obtain⟨tx,g1,g2⟩:=jK hE hx;split at hk
  rotate_left
  .exact hk.elim
  rename_i r n i seen hb;split at hk
  rotate_left
  .exact hk.elim
  rename_i es NP;split at hk
  .rename_i kk vv _ rest;obtain⟨⟨hn,he⟩,hk⟩:=hk;obtain⟨e,rfl,rfl⟩:∃e:PV X.Γ×PV X.Γ,e.1=kk/\e.2=vv:=⟨(kk,vv),rfl,rfl⟩;have he:es[i]? = some e:=he;obtain⟨mb,q1,q2⟩:=hR.heap.at_ b _ hb;cases mb with
   |gQ cb=>
    obtain⟨c,q3,_,q5⟩:=q2;obtain⟨c',gV,z1,z3,z4,z5⟩:=DY hR.heap NP;have:=q5 c' (by rcases z1 with z1|⟨z1,_⟩;exact .inl z1;exact .inr z1);subst this;cases g2 with
    |gone hi e _=>simp only[bf,a09]at hi;subst hi;rw[q1]at e;cases e
    |iter e1=>
     rw[q1]at e1;cases e1;have hl:i<gV.length:=by rw[<-z4];exact(a0x.1 he).1
     have he':=a0Q hl;have hv:=z5 i _ _ he he';refine⟨.val (.dM [e.1,e.2]),_,_,_,⟨.val (.dM [gV[i].1,gV[i].2]),ts,fU [.h cb,.h c'],m,?_,rfl,rfl,hR,oG (O9 (oD hv.1) (oD hv.2)),.refl,.refl,IR.reads rfl (fun b2 yN=>?_) (by simp[fU]),fun b hb=>by simp[fU]at hb⟩,hk⟩
     .simp only[pU,ho,g1,q3,z3];rw[a1e (by rw[<-z4];exact hn),he'];rfl
     simp[fU]at yN;rcases yN with rfl|rfl
     .exact⟨.inl ⟨b,by simp[fU],iY q1 rfl⟩,(a0x.1 q3).1⟩
     refine⟨?_,(a0x.1 z3).1⟩;rcases z1 with z1|⟨_,z1⟩
     .exact .inl ⟨r,by simp[fU],iY z1 rfl⟩
     exact .inr z1
   |_=>exact q2.elim
  split at hk
  case isFalse=>exact hk.elim
  rename_i hn;split at hk
  case h_2=>exact hk.elim
  rename_i e he;obtain⟨mb,q1,q2⟩:=hR.heap.at_ b _ hb;cases mb with
  |gQ cb=>
   obtain⟨c,q3,_,q5⟩:=q2;obtain⟨c',gV,z1,z3,z4,z5⟩:=DY hR.heap NP;have:=q5 c' (by rcases z1 with z1|⟨z1,_⟩;exact .inl z1;exact .inr z1);subst this;cases g2 with
   |gone hi e _=>simp only[bf,a09]at hi;subst hi;rw[q1]at e;cases e
   |iter e1=>
    rw[q1]at e1;cases e1;have hl:i<gV.length:=by rw[<-z4];exact(a0x.1 he).1
    have he':=a0Q hl;have hv:=z5 i _ _ he he';refine⟨.val (.dM [e.1,e.2]),_,_,_,⟨.val (.dM [gV[i].1,gV[i].2]),ts,fU [.h cb,.h c'],m,?_,rfl,rfl,hR,oG (O9 (oD hv.1) (oD hv.2)),.refl,.refl,IR.reads rfl (fun b2 yN=>?_) (by simp[fU]),fun b hb=>by simp[fU]at hb⟩,hk⟩
    .simp only[pU,ho,g1,q3,z3];rw[a1e (by rw[<-z4];exact hn),he'];rfl
    simp[fU]at yN;rcases yN with rfl|rfl
    .exact⟨.inl ⟨b,by simp[fU],iY q1 rfl⟩,(a0x.1 q3).1⟩
    refine⟨?_,(a0x.1 z3).1⟩;rcases z1 with z1|⟨_,z1⟩
    .exact .inl ⟨r,by simp[fU],iY z1 rfl⟩
    exact .inr z1
  |_=>exact q2.elim
 exact hk.elim
end
end Pv
