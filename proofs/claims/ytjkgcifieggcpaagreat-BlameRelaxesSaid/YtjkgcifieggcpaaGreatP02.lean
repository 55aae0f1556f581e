/- Part 3 of a proof: closed runs of the given program, and the readings of its code that they use. -/
import Derived.Test.YtjkgcifieggcpaaGreatP01
set_option linter.constructorNameAsVariable false
set_option linter.unusedVariables false
set_option linter.unusedSimpArgs false
set_option linter.unusedSectionVars false
namespace Pv
open Go Tw
section
variable {X:iQ} {P:Program} {A:Nat->Prop} {m m':List MB} {h h':List HB} {H H':List (PB X.Γ)}
theorem aH.nil:aH X P A m h [] []:=⟨rfl,fun i x y hx=>by simp at hx⟩
theorem aH.cons {v:PV X.Γ} {x:TV} {vs:List (PV X.Γ)} {xs:List TV} (h1:VR X P A m h v x) (h2:aH X P A m h vs xs):aH X P A m h (v::vs) (x::xs):=by
 refine⟨by simp[h2.1],fun i a b ha hb=>?_⟩;cases i with
 | zero=>simp only[List.getElem?_cons_zero,Option.some.injEq] at ha hb;subst ha;subst hb;exact h1
 | succ i=>exact h2.2 i a b (by simpa using ha) (by simpa using hb)
theorem aH.inv {v:PV X.Γ} {vs:List (PV X.Γ)} {xs:List TV} (hv:aH X P A m h (v::vs) xs):∃ x r,xs=x::r∧VR X P A m h v x∧aH X P A m h vs r:=by
 cases xs with
 | nil=>have:=hv.1;simp at this
 | cons x r=>exact⟨x,r,rfl,hv.2 0 v x rfl rfl,by have:=hv.1;simpa using this,fun i a b ha hb=>hv.2 (i+1) a b (by simpa using ha) (by simpa using hb)⟩
theorem aH.inv0 {xs:List TV} (hv:aH X P A m h [] xs):xs=[]:=by have:=hv.1;cases xs<;>simp_all
theorem aH.app {a b:List (PV X.Γ)} {x y:List TV} (h1:aH X P A m h a x) (h2:aH X P A m h b y):aH X P A m h (a++b) (x++y):=by
 refine⟨by simp[h1.1,h2.1],fun i c d hc hd=>?_⟩;rcases Nat.lt_or_ge i a.length with hl | hl
 ·rw[List.getElem?_append_left hl] at hc;rw[List.getElem?_append_left (by rw[<-h1.1];exact hl)] at hd;exact h1.2 i c d hc hd
 rw[List.getElem?_append_right hl] at hc;rw[List.getElem?_append_right (by rw[<-h1.1];exact hl),<-h1.1] at hd;exact h2.2 _ c d hc hd
theorem aH.drop {a:List (PV X.Γ)} {x:List TV} (h1:aH X P A m h a x) (n:Nat):aH X P A m h (a.drop n) (x.drop n):=
 ⟨by simp[h1.1],fun i c d hc hd=>h1.2 (n+i) c d (by rw[<-hc,List.getElem?_drop]) (by rw[<-hd,List.getElem?_drop])⟩
theorem aH.take {a:List (PV X.Γ)} {x:List TV} (h1:aH X P A m h a x) (n:Nat):aH X P A m h (a.take n) (x.take n):=by
 refine⟨by simp[h1.1],fun i c d hc hd=>?_⟩;rw[List.getElem?_take] at hc hd;split at hc
 ·rename_i hl;rw[if_pos hl] at hd;exact h1.2 i c d hc hd
 cases hc
theorem aH.get {a:List (PV X.Γ)} {x:List TV} (h1:aH X P A m h a x) {i:Nat} {c:PV X.Γ} (hc:a[i]? = some c):∃ v,x[i]? = some v∧VR X P A m h c v:=by
 have hl:i<x.length:=by rw[<-h1.1];exact (List.getElem?_eq_some_iff.1 hc).1
 exact⟨x[i],List.getElem?_eq_getElem hl,h1.2 i c _ hc (List.getElem?_eq_getElem hl)⟩
theorem GZ {v:PV X.Γ} {x tv:TV} (hv:VR X P A m h v x) (hp:mY v=some tv):x=tv:=by
 cases hv with
 | gone hi _ _=>cases v<;>simp[aG] at hi<;>simp[mY] at hp
 | _=>first | (simp only[mY,Option.some.injEq] at hp;exact hp) | (simp[mY] at hp;done)
theorem Et:∀ {vs:List (PV X.Γ)} {xs Rf:List TV},aH X P A m h vs xs->jW vs=some Rf->xs=Rf
 | [],xs,Rf,hv,hp=>by simp only[jW,Option.some.injEq] at hp;rw[hv.inv0,hp]
 | v::vs,xs,Rf,hv,hp=>by
  obtain⟨x,r,rfl,h1,h2⟩:=hv.inv;simp only[jW] at hp;split at hp
  ·rename_i a b ha hb;cases hp;rw[GZ h1 ha,Et h2 hb]
  cases hp
theorem iP {v:PV X.Γ} {x tv:TV} (hv:VR X P A m h v x) (hp:tC v=some tv):x=tv:=by
 cases v with
 | agg cs=>
  simp only[tC,Option.map_eq_some_iff] at hp;obtain⟨Rf,h1,rfl⟩:=hp;cases hv with
  | agg h2 h3=>rw[Et ⟨h2,h3⟩ h1]
  | gone hi _ _=>simp[aG] at hi
 | _=>exact GZ hv hp
theorem PK:∀ {vs:List (PV X.Γ)} {xs Rf:List TV},aH X P A m h vs xs->QS vs=some Rf->xs=Rf
 | [],xs,Rf,hv,hp=>by simp only[QS,Option.some.injEq] at hp;rw[hv.inv0,hp]
 | v::vs,xs,Rf,hv,hp=>by
  obtain⟨x,r,rfl,h1,h2⟩:=hv.inv;simp only[QS] at hp;split at hp
  ·rename_i a b ha hb;cases hp;rw[iP h1 ha,PK h2 hb]
  cases hp
theorem Ux {v:PV X.Γ} {x:TV} (hp:SG x=some v):VR X P A m h v x:=by
 cases x<;>simp[SG] at hp<;>subst hp<;>constructor
theorem IY:∀ {xs:List TV} {vs:List (PV X.Γ)},wK xs=some vs->aH X P A m h vs xs
 | [],vs,hp=>by simp only[wK,Option.some.injEq] at hp;subst hp;exact .nil
 | x::xs,vs,hp=>by
  simp only[wK] at hp;split at hp
  ·rename_i a b ha hb;cases hp;exact .cons (Ux ha) (IY hb)
  cases hp
theorem nD {v:PV X.Γ} {x:TV} (hp:QU x=some v):VR X P A m h v x:=by
 cases x with
 | agg cs=>
  simp only[QU,Option.map_eq_some_iff] at hp;obtain⟨vs,h1,rfl⟩:=hp;have:=IY (X:=X) (P:=P) (A:=A) (m:=m) (h:=h) h1;exact .agg this.1 this.2
 | _=>exact Ux hp
theorem H6 {v:PV X.Γ} {x:TV} (hp:mY v=some x):VR X P A m h v x:=by
 cases v<;>simp only[mY,Option.some.injEq,reduceCtorEq] at hp<;>subst hp
 ·exact .bool _
 ·exact .int _ _
 ·exact .str _
 exact .nil _
theorem Eu:∀ {vs:List (PV X.Γ)} {xs:List TV},jW vs=some xs->aH X P A m h vs xs
 | [],xs,hp=>by simp only[jW,Option.some.injEq] at hp;subst hp;exact .nil
 | v::vs,xs,hp=>by
  simp only[jW] at hp;split at hp
  ·rename_i a b ha hb;cases hp;exact .cons (H6 ha) (Eu hb)
  cases hp
theorem pq {v:PV X.Γ} {x:TV} (hp:tC v=some x):VR X P A m h v x:=by
 cases v with
 | agg cs=>
  simp only[tC,Option.map_eq_some_iff] at hp;obtain⟨vs,h1,rfl⟩:=hp;have:=Eu (X:=X) (P:=P) (A:=A) (m:=m) (h:=h) h1;exact .agg this.1 this.2
 | _=>exact H6 hp
theorem yI {v:PV X.Γ} {x:TV} (hv:VR X P A m h v x):VR X P A m h (Pn v) x:=by
 cases v with
 | lit b=>
  cases hv with
  | lit=>exact .bool _
  | gone hi _ _=>simp[aG] at hi
 | _=>exact hv
theorem Uy {v:PV X.Γ} {x:TV} (hv:VR X P A m h v x):bV x=Nb v:=by
 cases hv with
 | own _ o=>exact o
 | gone hi _ o=>rw[o];cases v<;>simp[aG] at hi<;>rfl
 | _=>rfl
theorem yJ {v:PV X.Γ} {x:TV} (hv:VR X P A m h v x):aH X P A m h v.cells x.cells:=by
 have hq:=Uy hv;cases v with
 | agg cs=>
  cases hv with
  | agg h1 h2=>exact⟨h1,h2⟩
  | gone hi _ _=>simp[aG] at hi
 | bH cs=>
  have WJ:=hv;cases hv with
  | bH h1 h2=>exact .cons WJ .nil
  | gone hi _ _=>simp[aG] at hi
 | _=>
  have:x.cells=[x]:=by
   cases x<;>first | rfl | (simp[bV,Nb] at hq;done)
  rw[this];exact .cons hv .nil
theorem vw:∀ {vs:List (PV X.Γ)} {xs:List TV},aH X P A m h vs xs->xs.all bV=vs.all Nb
 | [],xs,hv=>by rw[hv.inv0];rfl
 | v::vs,xs,hv=>by
  obtain⟨x,r,rfl,h1,h2⟩:=hv.inv;simp only[List.all_cons,Uy h1,vw h2]
theorem a1F {cs:List (PV X.Γ)} {xs:List TV} (hv:aH X P A m h cs xs) {off n:Nat} {r:List (PV X.Γ)} (hs:a1v cs off n=some r):∃ r',sub xs off n=some r'∧aH X P A m h r r':=by
 unfold a1v at hs;split at hs
 ·rename_i hl;cases hs;exact⟨_,by unfold sub;rw[if_pos (by rw[<-hv.1];exact hl)],(hv.drop off).take n⟩
 cases hs
theorem yK {cs new:List (PV X.Γ)} {xs a5d:List TV} (hv:aH X P A m h cs xs) (hn:aH X P A m h new a5d) {off:Nat} {r:List (PV X.Γ)} (hs:Ei cs off new=some r):∃ r',lX xs off a5d=some r'∧aH X P A m h r r':=by
 unfold Ei at hs;split at hs
 ·rename_i hl;cases hs;refine⟨_,by unfold lX;rw[if_pos (by rw[<-hv.1,<-hn.1];exact hl)],?_⟩;rw[<-hn.1];exact ((hv.take off).app hn).app (hv.drop _)
 cases hs
theorem ru {cs:List (PV X.Γ)} {xs:List TV} (hv:aH X P A m h cs xs) {t:TypeId} {off:Nat} {v:PV X.Γ} (hs:yD P t cs off=some v):∃ x,l7 P t xs off=some x∧VR X P A m h v x:=by
 unfold yD at hs;unfold l7;split at hs
 ·rename_i n ha hn;simp only[Option.map_eq_some_iff] at hs;obtain⟨r,h1,rfl⟩:=hs;obtain⟨r',g1,g2⟩:=a1F hv h1;exact⟨.agg r',by simp only[ha,hn,g1,Option.map_some],.agg g2.1 g2.2⟩
 ·rename_i n ha hn;split at hs
  ·rename_i h1;obtain⟨x,g1,g2⟩:=hv.get hs;exact⟨x,by simp only[ha,hn,h1,if_true,g1],g2⟩
  cases hs
 cases hs
theorem yN {t:TypeId} {z:List (PV X.Γ)} (hz:GU P t=some z):∃ z',xI P t=some z'∧aH X P A m h z z':=by
 unfold GU at hz;split at hz
 ·rename_i z' h1;exact⟨z',h1,IY hz⟩
 cases hz
def Xy (X:iQ) (P:Program) (A:Nat->Prop) (m:List MB) (h:List HB) (ps:List (Nat×PV X.Γ)) (qs:List (Nat×TV)):Prop:=
 ps.length=qs.length∧∀ (i:Nat) a b,ps[i]? = some a->qs[i]? = some b->a.1=b.1∧VR X P A m h a.2 b.2
theorem Xy.inv {a:Nat×PV X.Γ} {ps:List (Nat×PV X.Γ)} {qs:List (Nat×TV)} (hv:Xy X P A m h (a::ps) qs):∃ x r,qs=(a.1,x)::r∧VR X P A m h a.2 x∧Xy X P A m h ps r:=by
 cases qs with
 | nil=>have:=hv.1;simp at this
 | cons q r=>
  obtain⟨h1,h2⟩:=hv.2 0 a q rfl rfl;refine⟨q.2,r,by rw[h1],h2,by have:=hv.1;simpa using this,fun i x y hx hy=>hv.2 (i+1) x y (by simpa using hx) (by simpa using hy)⟩
theorem CQ {pl:Nat->Option (Nat×Nat)}:∀ {ps:List (Nat×PV X.Γ)} {qs:List (Nat×TV)} {cs:List (PV X.Γ)} {xs:List TV},Xy X P A m h ps qs->aH X P A m h cs xs->∀ {r:List (PV X.Γ)},Ej pl cs ps=some r->∃ r',kG pl xs qs=some r'∧aH X P A m h r r'
 | [],qs,cs,xs,hp,hv,r,hs=>by
  have:qs=[]:=by have:=hp.1;cases qs<;>simp_all
  subst this;simp only[Ej,Option.some.injEq] at hs;subst hs;exact⟨xs,rfl,hv⟩
 | (i,v)::ps,qs,cs,xs,hp,hv,r,hs=>by
  obtain⟨x,rest,rfl,h1,h2⟩:=hp.inv;have hc:=yJ h1;simp only[Ej] at hs;split at hs
  ·rename_i off size qK;split at hs
   ·rename_i nP;split at hs
    ·rename_i cs' ho;obtain⟨xs',g1,g2⟩:=yK hv hc ho;obtain⟨r',g3,g4⟩:=CQ h2 g2 hs;have a1f:x.cells.length=size:=by rw[<-hc.1];exact nP
     exact⟨r',by simp only[kG,qK,a1f,if_true,g1,g3],g4⟩
    cases hs
   cases hs
  cases hs
theorem Uz {t:TypeId} {ps:List (Nat×PV X.Γ)} {qs:List (Nat×TV)} (hp:Xy X P A m h ps qs) {v:PV X.Γ} (hs:Nh P t ps=some v):∃ x,zD P t qs=some x∧VR X P A m h v x:=by
 unfold Nh at hs;unfold zD;split at hs
 ·rename_i z fs hz hu;obtain⟨z',g1,g2⟩:=yN (A:=A) (m:=m) (h:=h) hz;split at hs
  ·rename_i ha;simp only[Option.map_eq_some_iff] at hs;obtain⟨r,h1,rfl⟩:=hs;obtain⟨r',g3,g4⟩:=CQ hp g2 h1;exact⟨.agg r',by simp only[g1,hu,ha,if_true,g3,Option.map_some],.agg g4.1 g4.2⟩
  cases hs
 ·rename_i z n e hz hu;obtain⟨z',g1,g2⟩:=yN (A:=A) (m:=m) (h:=h) hz;split at hs
  ·rename_i k hk;simp only[Option.map_eq_some_iff] at hs;obtain⟨r,h1,rfl⟩:=hs;obtain⟨r',g3,g4⟩:=CQ hp g2 h1;exact⟨.agg r',by simp only[g1,hu,hk,g3,Option.map_some],.agg g4.1 g4.2⟩
  cases hs
 cases hs
theorem Kt {z:List (PV X.Γ)} {z':List TV} (hz:aH X P A m h z z'):∀ n,aH X P A m h (Nj z n) (times z' n)
 | 0=>.nil
 | n+1=>hz.app (Kt hz n)
section
variable {env:List (Nat×PE X.Γ)} {env':List (Nat×EV)}
theorem PL (he:gX X P A m h env env') {t:Nat}:(wz t env=none∧aT t env'=none)∨∃ v x,wz t env=some v∧aT t env'=some x∧CP X P A m h v x:=by
 induction he with
 | nil=>exact .inl ⟨rfl,rfl⟩
 | cons h1 _ ih=>
  rename_i k v x r r' _;simp only[wz,aT];by_cases e:k=t
  ·right;exact⟨v,x,by rw[if_pos e],by rw[if_pos e],h1⟩
  rw[if_neg e,if_neg e];exact ih
theorem iY (he:gX X P A m h env env') {t:Nat} {v:PE X.Γ} (hl:wz t env=some v):∃ x,aT t env'=some x∧CP X P A m h v x:=by
 rcases PL he (t:=t) with⟨h1,_⟩ | ⟨w,x,h1,h2,h3⟩
 ·rw[hl] at h1;cases h1
 rw[hl] at h1;cases h1;exact⟨x,h2,h3⟩
theorem jE (he:gX X P A m h env env') {o:Operand} {v:PE X.Γ} (hl:zU env o=some v):∃ x,Aw env' o=some x∧CP X P A m h v x:=by
 cases o with
 | tmp t=>exact iY he hl
 | const c=>
  simp only[zU] at hl;split at hl
  ·rename_i b hb;cases hl;exact⟨.val (.bool b),by simp only[Aw,hb,Option.map_some],VR.lit b⟩
  ·rename_i x _ hx;simp only[Option.map_eq_some_iff] at hl;obtain⟨w,h1,rfl⟩:=hl;exact⟨.val x,by simp only[Aw,hx,Option.map_some],nD h1⟩
  cases hl
 | func f=>
  simp only[zU,Option.some.injEq] at hl;subst hl;exact⟨.val (.fn f [] []),rfl,.fn rfl (by simp) rfl (by simp)⟩
 | global g=>cases hl
theorem cu {v:PV X.Γ} {x:EV} (hp:CP X P A m h (.val v) x):∃ y,x=.val y∧VR X P A m h v y:=by
 cases x with
 | val y=>exact⟨y,rfl,hp⟩
 | _=>exact hp.elim
theorem vC {k o:Nat} {x:EV} (hp:CP X P A m h (.loc k o) x):x=.loc k o:=by
 cases x with
 | loc k' o'=>obtain⟨rfl,rfl⟩:=hp;rfl
 | _=>exact hp.elim
theorem zZ {x:EV} (hp:CP X P A m h .undef x):x=.undef:=by
 cases x with
 | undef=>rfl
 | _=>exact hp.elim
theorem Ku (he:gX X P A m h env env') {o:Operand} {v:PV X.Γ} (hl:Po env o=some v):∃ x,lJ env' o=some x∧VR X P A m h v x:=by
 unfold Po at hl;split at hl
 ·rename_i w hw;cases hl;obtain⟨x,h1,h2⟩:=jE he hw;obtain⟨y,rfl,h3⟩:=cu h2;exact⟨y,by simp only[lJ,h1],h3⟩
 cases hl
theorem fK (he:gX X P A m h env env') {o:Operand} {v:PV X.Γ} (hl:wB env o=some v):∃ x,lJ env' o=some x∧VR X P A m h v x:=by
 unfold wB at hl;split at hl
 ·rename_i w hw;cases hl;obtain⟨x,h1,h2⟩:=jE he hw;obtain⟨y,rfl,h3⟩:=cu h2;exact⟨y,by simp only[lJ,h1],yI h3⟩
 cases hl
theorem IZ (he:gX X P A m h env env'):∀ {os:List Operand} {vs:List (PV X.Γ)},Nc env os=some vs->∃ xs,D9 env' os=some xs∧aH X P A m h vs xs
 | [],vs,hl=>by simp only[Nc,Option.some.injEq] at hl;subst hl;exact⟨[],rfl,.nil⟩
 | o::os,vs,hl=>by
  simp only[Nc] at hl;split at hl
  ·rename_i v ws h1 h2;cases hl;obtain⟨x,g1,g2⟩:=fK he h1;obtain⟨xs,g3,g4⟩:=IZ he h2;exact⟨x::xs,by simp only[D9,g1,g3],.cons g2 g4⟩
  cases hl
theorem NC (he:gX X P A m h env env'):∀ {os:List (Nat×Operand)} {vs:List (Nat×PV X.Γ)},QV env os=some vs->∃ xs,FM env' os=some xs∧Xy X P A m h vs xs
 | [],vs,hl=>by simp only[QV,Option.some.injEq] at hl;subst hl;exact⟨[],rfl,rfl,fun i a b ha=>by simp at ha⟩
 | (i,o)::os,vs,hl=>by
  simp only[QV] at hl;split at hl
  ·rename_i v ws h1 h2;cases hl;obtain⟨x,g1,g2⟩:=fK he h1;obtain⟨xs,g3,g4⟩:=NC he h2;refine⟨(i,x)::xs,by simp only[FM,g1,g3],by simp[g4.1],fun j a b ha hb=>?_⟩;cases j with
   | zero=>simp only[List.getElem?_cons_zero,Option.some.injEq] at ha hb;subst ha;subst hb;exact⟨rfl,g2⟩
   | succ j=>exact g4.2 j a b (by simpa using ha) (by simpa using hb)
  cases hl
def OR (X:iQ) (P:Program) (A:Nat->Prop) (m:List MB) (h:List HB):Option (PV X.Γ)->Option TV->Prop
 | none,none=>True
 | some v,some x=>VR X P A m h v x
 | _,_=>False
theorem yO (he:gX X P A m h env env') {o:Option Operand} {v:Option (PV X.Γ)} (hl:Eh env o=some v):∃ x,FN env' o=some x∧OR X P A m h v x:=by
 cases o with
 | none=>simp only[Eh,Option.some.injEq] at hl;subst hl;exact⟨none,rfl,trivial⟩
 | some o=>
  simp only[Eh] at hl;split at hl
  ·rename_i w hw;cases hl;obtain⟨x,g1,g2⟩:=fK he hw;exact⟨some x,by simp only[FN,g1],g2⟩
  cases hl
theorem J4 (he:gX X P A m h env env'):∀ live,gX X P A m h (iL live env) (pick live env')
 | []=>.nil
 | t::r=>by
  simp only[iL,pick];rcases PL he (t:=t) with⟨h1,h2⟩ | ⟨v,x,h1,h2,h3⟩
  ·rw[h1,h2];exact J4 he r
  rw[h1,h2];exact .cons h3 (J4 he r)
theorem Xz (he:gX X P A m h env env') {t:Nat} {b:Bool} (hb:aT t env'=some (.val (.bool b))):gX X P A m h (Pv.su t b env) env':=by
 induction he with
 | nil=>exact .nil
 | cons h1 h2 ih=>
  rename_i k v x r r';simp only[aT] at hb;simp only[Pv.su];by_cases e:k=t
  ·rw[if_pos e] at hb ⊢;cases hb;exact .cons (VR.lit b) h2
  rw[if_neg e] at hb ⊢;exact .cons h1 (ih hb)
theorem a1G (he:gX X P A m h env env'):Nz X env=vO env':=by
 induction he with
 | nil=>rfl
 | cons h1 _ ih=>
  rename_i k v x r r' _;cases v with
  | val v=>obtain⟨y,rfl,_⟩:=cu h1;simpa[Nz,vO] using ih
  | loc a b=>rw[vC h1];simp only[Nz,vO,ih]
  | undef=>rw[zZ h1];simpa[Nz,vO] using ih
end
end
structure aX (X:iQ) (P:Program):Prop where
 dec:∀ {t:Nat} {vs:List (PV X.Γ)} {a:X.Γ t},X.dec t vs=some a->∀ {A:Nat->Prop} {m:List MB} {h:List HB} {xs:List TV},aH X P A m h vs xs->aH X P A m h (X.enc t a) xs
 dW:∀ (t:Nat) (a:X.Γ t),dW.wE (X.enc t a)=true
section
variable {X:iQ} {P:Program} {A B:Nat->Prop} {m m':List MB} {h h':List HB} {H H':List (PB X.Γ)}
theorem VR.mono (hAB:∀ b,A b->B b) {v:PV X.Γ} {x:TV} (hv:VR X P A m h v x):VR X P B m h v x:=by
 induction hv with
 | bool=>exact .bool _
 | lit=>exact .lit _
 | int=>exact .int _ _
 | str=>exact .str _
 | nil=>exact .nil _
 | ptr e=>exact .ptr e
 | slc e=>exact .slc e
 | own e o=>exact .own e o
 | win e q q' q2=>exact .win e q q' q2
 | qg e=>exact .qg e
 | map e=>exact .map e
 | iter e=>exact .iter e
 | fn h1 _ h3 _ i2 i4=>exact .fn h1 i2 h3 i4
 | jk e=>exact .jk e
 | agg h1 _ i2=>exact .agg h1 i2
 | bH h1 _ i2=>exact .bH h1 i2
 | jZ=>exact .jZ
 | bK a c c2 s z o k f e _ ih=>exact .bK (hAB _ a) c c2 s z o k f e ih
 | el a c l o e q _ ih=>exact .el (hAB _ a) c l o e q ih
 | row e j q=>exact .row e j q
 | gone i e o=>exact .gone i e o
theorem aH.mono (hAB:∀ b,A b->B b) {v:List (PV X.Γ)} {x:List TV} (hv:aH X P A m h v x):aH X P B m h v x:=⟨hv.1,fun i a b ha hb=>(hv.2 i a b ha hb).mono hAB⟩
theorem bG:∀ {vs:List (PV X.Γ)} {i:Nat} {v:PV X.Γ},dW.wE vs=true->vs[i]? = some v->dW v=true
 | [],_,_,_,h=>by simp at h
 | a::vs,i,v,hc,h=>by
  simp only[dW.wE,Bool.and_eq_true] at hc;cases i with
  | zero=>simp only[List.getElem?_cons_zero,Option.some.injEq] at h;subst h;exact hc.1
  | succ i=>exact bG hc.2 (by simpa using h)
theorem VR.dW (hX:aX X P) {v:PV X.Γ} {x:TV} (hv:VR X P A m h v x) (hc:Pv.dW v=true):VR X P A m' h v x:=by
 induction hv with
 | bool=>exact .bool _
 | lit=>exact .lit _
 | int=>exact .int _ _
 | str=>exact .str _
 | nil=>exact .nil _
 | fn h1 _ h3 _ i2 i4=>
  simp only[Pv.dW,Bool.and_eq_true] at hc;exact .fn h1 (fun i x y hx hy=>i2 i x y hx hy (bG hc.1 hx)) h3 (fun i x y hx hy=>i4 i x y hx hy (bG hc.2 hx))
 | agg h1 _ i2=>
  simp only[Pv.dW] at hc;exact .agg h1 (fun i x y hx hy=>i2 i x y hx hy (bG hc hx))
 | bH h1 _ i2=>
  simp only[Pv.dW] at hc;exact .bH h1 (fun i x y hx hy=>i2 i x y hx hy (bG hc hx))
 | jZ=>exact .jZ
 | bK a c c2 s z o k f e _ ih=>exact .bK a c c2 s z o k f e fun j y i d v h1 h2 h3=>ih j y i d v h1 h2 h3 (bG (hX.dW _ _) h2)
 | el a c l o e q _ ih=>exact .el a c l o e q fun i d v h1 h2=>ih i d v h1 h2 (bG (hX.dW _ _) h1)
 | gone i e o=>rename_i v _ _;cases v<;>simp[aG] at i<;>simp[Pv.dW] at hc
 | _=>simp[Pv.dW] at hc
theorem aH.dW (hX:aX X P) {v:List (PV X.Γ)} {x:List TV} (hv:aH X P A m h v x) (hc:dW.wE v=true):aH X P A m' h v x:=
 ⟨hv.1,fun i a b ha hb=>(hv.2 i a b ha hb).dW hX (bG hc ha)⟩
theorem aW.dW (hX:aX X P) {t:Nat} {l:List (X.Γ t)} {cs:List TV} {off sz:Nat} (hv:aW X P A m h t l cs off sz):aW X P A m' h t l cs off sz:=
 ⟨hv.1,hv.2.1,fun j a i c v h1 h2 h3=>(hv.2.2 j a i c v h1 h2 h3).dW hX (bG (hX.dW _ _) h2)⟩
theorem aW.mono (hAB:∀ b,A b->B b) {t:Nat} {l:List (X.Γ t)} {cs:List TV} {off sz:Nat} (hv:aW X P A m h t l cs off sz):aW X P B m h t l cs off sz:=
 ⟨hv.1,hv.2.1,fun j a i c v h1 h2 h3=>(hv.2.2 j a i c v h1 h2 h3).mono hAB⟩
theorem VR.move (hX:aX X P) (hA:∀ q cs,A q->aB h q=some cs->B q∧h'[q]? = h[q]?) {v:PV X.Γ} {x:TV} (hv:VR X P A m h v x) (hc:Pv.dW v=true):VR X P B m' h' v x:=by
 induction hv with
 | bool=>exact .bool _
 | lit=>exact .lit _
 | int=>exact .int _ _
 | str=>exact .str _
 | nil=>exact .nil _
 | fn h1 _ h3 _ i2 i4=>
  simp only[Pv.dW,Bool.and_eq_true] at hc;exact .fn h1 (fun i x y hx hy=>i2 i x y hx hy (bG hc.1 hx)) h3 (fun i x y hx hy=>i4 i x y hx hy (bG hc.2 hx))
 | agg h1 _ i2=>
  simp only[Pv.dW] at hc;exact .agg h1 (fun i x y hx hy=>i2 i x y hx hy (bG hc hx))
 | bH h1 _ i2=>
  simp only[Pv.dW] at hc;exact .bH h1 (fun i x y hx hy=>i2 i x y hx hy (bG hc hx))
 | jZ=>exact .jZ
 | bK a c c2 s z o k f e _ ih=>obtain⟨a',c'⟩:=hA _ _ a c;exact .bK a' ((bZ c').trans c) (fun hl=>(oD c').trans (c2 hl)) s z o k f e fun j y i d v h1 h2 h3=>ih j y i d v h1 h2 h3 (bG (hX.dW _ _) h2)
 | el a c l o e q _ ih=>obtain⟨a',c'⟩:=hA _ _ a (qY c);exact .el a' ((oD c').trans c) l o e q fun i d v h1 h2=>ih i d v h1 h2 (bG (hX.dW _ _) h1)
 | gone i e o=>rename_i v _ _;cases v<;>simp[aG] at i<;>simp[Pv.dW] at hc
 | _=>simp[Pv.dW] at hc
theorem aW.move (hX:aX X P) (hA:∀ q cs,A q->aB h q=some cs->B q∧h'[q]? = h[q]?) {t:Nat} {l:List (X.Γ t)} {cs:List TV} {off sz:Nat} (hv:aW X P A m h t l cs off sz):aW X P B m' h' t l cs off sz:=
 ⟨hv.1,hv.2.1,fun j a i c v h1 h2 h3=>(hv.2.2 j a i c v h1 h2 h3).move hX hA (bG (hX.dW _ _) h2)⟩
def FA (A:Nat->Prop) (m:List MB) (is:List Nat):Nat->Prop:=fun b=>AA A m b∨∃ i mb,i∈is∧m[i]? = some mb∧mb.own=some b
theorem FA.mono {is js:List Nat} (hs:∀ i,i∈is->i∈js) {b:Nat} (hb:FA A m is b):FA A m js b:=by
 rcases hb with h | ⟨i,mb,h1,h2,h3⟩
 ·exact .inl h
 exact .inr ⟨i,mb,hs i h1,h2,h3⟩
theorem Ew:∀ (is:List Nat) {m:List MB} {i:Nat} {mb:MB},(aS is m)[i]? = some mb->mb.own≠none->i∉is∧m[i]? = some mb
 | [],_,_,_,h,_=>⟨by simp,h⟩
 | j::is,m,i,mb,h,hn=>by
  obtain⟨h1,h2⟩:=Ew is (m:=m.set j .gone) h hn;by_cases e:j=i
  ·subst e;rw[List.getElem?_set_self'] at h2;cases hx:m[j]? with
   | none=>rw[hx] at h2;cases h2
   | some y=>rw[hx] at h2;cases h2;exact absurd rfl hn
  rw[List.getElem?_set_ne e] at h2;exact⟨by simp[h1,Ne.symm e],h2⟩
theorem rE {is:List Nat} {m:List MB} {b:Nat} (hb:b∈aJ (aS is m)):∃ i mb,i∉is∧m[i]? = some mb∧mb.own=some b:=by
 obtain⟨mb,hm,ho⟩:=List.mem_filterMap.1 hb;obtain⟨i,hi⟩:=List.getElem?_of_mem hm;obtain⟨h1,h2⟩:=Ew is hi (by rw[ho];simp);exact⟨i,mb,h1,h2,ho⟩
theorem FA.gone (hr:HR X P A m H h) {is:List Nat} {b:Nat} (hb:FA A m is b):AA A (aS is m) b:=by
 rcases hb with hb | ⟨i,mb,h1,h2,h3⟩
 ·refine⟨hb.1,fun hm=>?_⟩;obtain⟨i,mb,_,h2,h3⟩:=rE hm;exact hb.2 (aC h2 h3)
 refine⟨hr.yH b (aC h2 h3),fun hm=>?_⟩;obtain⟨j,BM,g1,g2,g3⟩:=rE hm;have:=dI hr.nodup h2 g2 h3 g3;exact g1 (this▸h1)
theorem H7 (hX:aX X P) (hr:HR X P A m H h) {k ex:Bool} {t i:Nat} {l:List (X.Γ t)} {x:TV} (hl:LR X P (AA A m) m h k ex t l x) (hi:m[i]? = some (.bK x)) {is:List Nat} (hs:i∈is):VR X P (FA A m is) m' h (.bK t l false) x:=by
 cases hl with
 | nil=>exact .jZ
 | emp h0 h1 h2 h3 h4=>exact .bK (.inl h0) h1 (fun e=>absurd rfl e) h3 h4 (by simpa using h2) (Nat.le_refl _) (by simp) (fun j a hj=>by simp at hj) (fun j a i c v hj=>by simp at hj)
 | some h1 h2 h3 h4 h5 h6 h7 h8 h9=>
  refine .bK (cs:=_) (.inr ⟨i,_,hs,hi,?_⟩) (by unfold aB;rw[h4]) (fun _=>ny h4 (by omega)) h2 h3 (by omega) (Nat.le_refl _) (by simp) h9.1 ?_
  ·simp only[MB.own];rw[if_neg (by simpa using h1)]
  intro j a q c v e1 e2 e3;exact ((h9.2.2 j a q c v e1 e2 e3).mono fun b hb=>.inl hb).dW hX (bG (hX.dW _ _) e2)
theorem VR.part {F:Nat->Prop} {t:Nat} {l:List (X.Γ t)} {fu:Bool} {b off len cap sz:Nat} {ex:Bool} (hv:VR X P F m h (.bK t l fu) (.slc b off len cap sz ex)) {o n cap':Nat} {Sm fu':Bool} (hn:o+n<=len) (hc:n<=cap') (hw:n=0∨o+cap'=cap) (hfu:fu'=true->Sm=true∧cap'=n) :
  VR X P F m h (.bK t ((l.drop o).take n) fu') (.slc b (off+o*sz) n cap' sz Sm):=by
 cases hv with
 | bK a c c2 s z ol k f e r=>
  have hlen:((l.drop o).take n).length=n:=by rw[List.length_take,List.length_drop];omega
  have:=@VR.bK X P F m h t ((l.drop o).take n) fu' b (off+o*sz) cap' sz Sm _ a c (fun dZ=>by
   have h1:n≠0:=fun e=>dZ (by subst e;simp);have h2:=hw.resolve_left h1;have h3:off+o*sz+cap'*sz=off+cap*sz:=by rw[<-h2,Nat.add_mul];omega
   rw[h3];exact c2 (fun e=>by subst e;simp at hlen;omega)) s z (by
   rw[hlen];have:(o+n)*sz<=l.length*sz:=Nat.mul_le_mul_right sz hn;rw[Nat.add_mul] at this;omega) (by rw[hlen];exact hc) (by rw[hlen];exact hfu) (fun j y hy=>by
    rw[List.getElem?_take] at hy;split at hy
    ·rw[List.getElem?_drop] at hy;exact e _ _ hy
    ·cases hy) (fun j y i d v hy h2 h3=>by
    rw[List.getElem?_take] at hy;split at hy
    ·rw[List.getElem?_drop] at hy;refine r _ _ i d v hy h2 ?_;rw[<-h3];congr 1;rw[Nat.add_mul];omega
    ·cases hy)
  rwa [hlen] at this
 | gone hi _ _=>simp[aG] at hi
mutual
theorem XA (hX:aX X P) (hr:HR X P A m H h):∀ {v w:PV X.Γ} {x:TV},VR X P (AA A m) m h v x->view H v=some w->∀ {is:List Nat},(∀ i,i∈qV v->i∈is)->VR X P (FA A m is) m' h w x
 | .own i,w,x,hv,hw,is,hs=>by
  simp only[view] at hw;split at hw
  ·rename_i k ex t l hH;cases hw;obtain⟨mb,h1,h2⟩:=hr.at_ i _ hH;cases mb with
   | bK y=>
    cases hv with
    | own e o=>rw[h1] at e;cases e;exact H7 hX hr h2 h1 (hs i (by simp[qV]))
    | gone hi e o=>simp only[aG,Option.some.injEq] at hi;subst hi;rw[h1] at e;cases e
   | _=>exact h2.elim
  cases hw
 | .win i o n,w,x,hv,hw,is,hs=>by
  simp only[view] at hw;split at hw
  ·rename_i k ex t l hH;cases hw;obtain⟨mb,h1,h2⟩:=hr.at_ i _ hH;cases mb with
   | bK y=>
    have h2':LR X P (AA A m) m h k ex t l y:=h2;have hfz:VR X P (FA A m is) m' h (.bK t l false) y:=H7 hX hr h2' h1 (hs i (by simp[qV]));cases hv with
    | win e q q' q2=>
     rw[h1] at e;cases e;exact hfz.part q q' (.inr q2) (by simp)
    | qg e=>
     rw[h1] at e;cases e;cases h2' with
     | nil=>simp only[List.drop_nil,List.take_nil];exact .jZ
    | gone hi e o=>simp only[aG,Option.some.injEq] at hi;subst hi;rw[h1] at e;cases e
   | _=>exact h2.elim
  cases hw
 | .fn f a c,w,x,hv,hw,is,hs=>by
  simp only[view] at hw;split at hw
  ·rename_i a' c' h1 h2;cases hw;cases hv with
   | fn e1 e2 e3 e4=>
    have g1:=ku hX hr ⟨e1,e2⟩ h1 (is:=is) fun i hi=>hs i (by simp[qV,hi]);have g2:=ku hX hr ⟨e3,e4⟩ h2 (is:=is) fun i hi=>hs i (by simp[qV,hi]);exact .fn g1.1 g1.2 g2.1 g2.2
   | gone hi _ _=>simp[aG] at hi
  cases hw
 | .agg cs,w,x,hv,hw,is,hs=>by
  simp only[view,Option.map_eq_some_iff] at hw;obtain⟨cs',h1,rfl⟩:=hw;cases hv with
  | agg e1 e2=>have g1:=ku hX hr ⟨e1,e2⟩ h1 (is:=is) fun i hi=>hs i (by simp[qV,hi]);exact .agg g1.1 g1.2
  | gone hi _ _=>simp[aG] at hi
 | .bH cs,w,x,hv,hw,is,hs=>by
  simp only[view,Option.map_eq_some_iff] at hw;obtain⟨cs',h1,rfl⟩:=hw;cases hv with
  | bH e1 e2=>have g1:=ku hX hr ⟨e1,e2⟩ h1 (is:=is) fun i hi=>hs i (by simp[qV,hi]);exact .bH g1.1 g1.2
  | gone hi _ _=>simp[aG] at hi
 | .bool b,w,x,hv,hw,is,hs=>by simp only[view,Option.some.injEq] at hw;subst hw;exact (hv.mono fun b hb=>.inl hb).dW hX rfl
 | .lit b,w,x,hv,hw,is,hs=>by
  simp only[view,Option.some.injEq] at hw;subst hw;cases hv with
  | lit=>exact .bool _
  | gone hi _ _=>simp[aG] at hi
 | .int k n,w,x,hv,hw,is,hs=>by simp only[view,Option.some.injEq] at hw;subst hw;exact (hv.mono fun b hb=>.inl hb).dW hX rfl
 | .str b,w,x,hv,hw,is,hs=>by simp only[view,Option.some.injEq] at hw;subst hw;exact (hv.mono fun b hb=>.inl hb).dW hX rfl
 | .nil b,w,x,hv,hw,is,hs=>by simp only[view,Option.some.injEq] at hw;subst hw;exact (hv.mono fun b hb=>.inl hb).dW hX rfl
 | .bK t l f,w,x,hv,hw,is,hs=>by simp only[view,Option.some.injEq] at hw;subst hw;exact (hv.mono fun b hb=>.inl hb).dW hX rfl
 | .ptr _ _ _,w,x,hv,hw,is,hs=>by simp[view] at hw
 | .slc _ _ _ _ _ _,w,x,hv,hw,is,hs=>by simp[view] at hw
 | .map _,w,x,hv,hw,is,hs=>by simp[view] at hw
 | .jk _,w,x,hv,hw,is,hs=>by simp[view] at hw
 | .el _ _ _,w,x,hv,hw,is,hs=>by simp[view] at hw
 | .row _ _ _,w,x,hv,hw,is,hs=>by simp[view] at hw
theorem ku (hX:aX X P) (hr:HR X P A m H h):∀ {vs ws:List (PV X.Γ)} {xs:List TV},aH X P (AA A m) m h vs xs->views H vs=some ws->∀ {is:List Nat},(∀ i,i∈qV.mZ vs->i∈is)->aH X P (FA A m is) m' h ws xs
 | [],ws,xs,hv,hw,is,hs=>by simp only[view.views,Option.some.injEq] at hw;subst hw;rw[hv.inv0];exact .nil
 | v::vs,ws,xs,hv,hw,is,hs=>by
  obtain⟨x,r,rfl,h1,h2⟩:=hv.inv;simp only[view.views] at hw;split at hw
  ·rename_i w FD g1 g2;cases hw;exact .cons (XA hX hr h1 g1 fun i hi=>hs i (by simp[qV.mZ,hi])) (ku hX hr h2 g2 fun i hi=>hs i (by simp[qV.mZ,hi]))
  cases hw
end
end
open Go Tw
section
variable {X:iQ} {P:Program} {A B F:Nat->Prop} {m m':List MB} {h h':List HB} {H H':List (PB X.Γ)}
theorem PN (hX:aX X P) (hr:HR X P A m H h) {t:Nat} {cs:List (PV X.Γ)} {xs:List TV} (hv:aH X P (AA A m) m h cs xs) {a:X.Γ t} {is:List Nat} (hd:Xu X H t cs=some (a,is)):aH X P (FA A m is) m' h (X.enc t a) xs:=by
 unfold Xu at hd;split at hd
 ·rename_i vs h1;split at hd
  ·rename_i b h2;simp only[Option.some.injEq,Prod.mk.injEq] at hd;obtain⟨rfl,rfl⟩:=hd;exact hX.dec h2 (ku hX hr hv h1 fun i hi=>hi)
  cases hd
 cases hd
theorem rF (hX:aX X P) (hr:HR X P A m H h) {t sz:Nat}:∀ {n:Nat} {cs:List (PV X.Γ)} {xs:List TV},aH X P (AA A m) m h cs xs->∀ {l:List (X.Γ t)} {is:List Nat},qW X H t sz n cs=some (l,is)->l.length=n∧aW X P (FA A m is) m' h t l xs 0 sz
 | 0,cs,xs,hv,l,is,hd=>by
  simp only[qW,Option.some.injEq,Prod.mk.injEq] at hd;obtain⟨rfl,rfl⟩:=hd;exact⟨rfl,fun j a hj=>by simp at hj,by simp,fun j a i c v hj=>by simp at hj⟩
 | n+1,cs,xs,hv,l,is,hd=>by
  simp only[qW] at hd;split at hd
  rotate_left
  ·cases hd
  rename_i nP;split at hd
  rotate_left
  ·cases hd
  rename_i a js l' ks h1 h2;simp only[Option.some.injEq,Prod.mk.injEq] at hd;obtain⟨rfl,rfl⟩:=hd;have g1:=(PN (m':=m') hX hr (hv.take sz) h1).mono fun b hb=>FA.mono (js:=js++ks) (fun i hi=>List.mem_append_left _ hi) hb;obtain⟨e2,g2⟩:=rF hX hr (hv.drop sz) h2;have g2:=g2.mono fun b hb=>FA.mono (js:=js++ks) (fun i hi=>List.mem_append_right _ hi) hb;have hl:(X.enc t a).length=sz:=by rw[g1.1,List.length_take,<-hv.1];omega
  refine⟨by simp[e2],fun j b hj=>?_,?_,fun j b i c v hj hi hx=>?_⟩
  ·cases j with
   | zero=>simp only[List.getElem?_cons_zero,Option.some.injEq] at hj;subst hj;exact hl
   | succ j=>exact g2.1 j b (by simpa using hj)
  ·have:=g2.2.1;rw[List.length_drop] at this;have h3:=hv.1;simp only[List.length_cons,Nat.add_mul];omega
  cases j with
  | zero=>
   simp only[List.getElem?_cons_zero,Option.some.injEq] at hj;subst hj;have aN:i<sz:=by rw[<-hl];exact (List.getElem?_eq_some_iff.1 hi).1
   refine g1.2 i c v hi ?_;rw[List.getElem?_take,if_pos aN,<-hx];simp
  | succ j=>
   refine g2.2.2 j b i c v (by simpa using hj) hi ?_;rw[List.getElem?_drop,<-hx];congr 1;rw[Nat.add_mul];omega
def SlR (X:iQ) (P:Program) (F:Nat->Prop) (m:List MB) (h:List HB) (t sz:Nat) (l:List (X.Γ t)) (x:TV):Prop:=
 (x=.nil .slc∧l=[])∨∃ b off cap ex cs,x=.slc b off l.length cap sz ex∧l.length<=cap∧aB h b=some cs∧(l≠[]->iw h b (off+cap*sz)=some cs)∧aW X P F m h t l cs off sz
theorem PO {t sz:Nat} {l:List (X.Γ t)} {fu:Bool} {x:TV} (hv:VR X P F m h (.bK t l fu) x) (hz:aZ P t=some sz):SlR X P F m h t sz l x:=by
 cases hv with
 | jZ=>exact .inl ⟨rfl,rfl⟩
 | bK a c c2 s z o k f e r=>
  rw[hz] at s;cases s;exact .inr ⟨_,_,_,_,_,rfl,k,c,c2,e,o,r⟩
 | gone hi _ _=>simp[aG] at hi
theorem UA {k ex:Bool} {t sz:Nat} {l:List (X.Γ t)} {x:TV} (hv:LR X P F m h k ex t l x) (hz:aZ P t=some sz):SlR X P F m h t sz l x:=by
 cases hv with
 | nil=>exact .inl ⟨rfl,rfl⟩
 | emp h0 h1 h2 h3 h4=>
  rw[hz] at h3;cases h3;exact .inr ⟨_,_,_,_,_,rfl,Nat.le_refl _,h1,fun e=>absurd rfl e,fun j a hj=>by simp at hj,by simpa using h2,fun j a i c v hj=>by simp at hj⟩
 | some h1 h2 h3 h4 h5 h6 h7 h8 h9=>
  rw[hz] at h2;cases h2;exact .inr ⟨_,_,_,_,_,rfl,Nat.le_refl _,by unfold aB;rw[h4],fun _=>ny h4 (by omega),h9⟩
theorem aW.part {t sz:Nat} {l:List (X.Γ t)} {cs:List TV} {off o n:Nat} (hv:aW X P F m h t l cs off sz) (hn:o+n<=l.length):aW X P F m h t ((l.drop o).take n) cs (off+o*sz) sz:=by
 have hlen:((l.drop o).take n).length=n:=by rw[List.length_take,List.length_drop];omega
 refine⟨fun j y hy=>?_,?_,fun j y i c v hy h2 h3=>?_⟩
 ·rw[List.getElem?_take] at hy;split at hy
  ·rw[List.getElem?_drop] at hy;exact hv.1 _ _ hy
  cases hy
 ·have:=hv.2.1;have h2:(o+n)*sz<=l.length*sz:=Nat.mul_le_mul_right sz hn;rw[hlen];rw[Nat.add_mul] at h2;omega
 rw[List.getElem?_take] at hy;split at hy
 ·rw[List.getElem?_drop] at hy;refine hv.2.2 _ y i c v hy h2 ?_;rw[<-h3];congr 1;rw[Nat.add_mul];omega
 cases hy
theorem aW.take {t sz:Nat} {l:List (X.Γ t)} {cs:List TV} {off:Nat} (hv:aW X P F m h t l cs off sz):aW X P F m h t l ((cs.drop off).take (l.length*sz)) 0 sz:=by
 refine⟨hv.1,?_,fun j a i c v h1 h2 h3=>?_⟩
 ·have:=hv.2.1;rw[List.length_take,List.length_drop];omega
 rw[List.getElem?_take] at h3;split at h3
 ·rw[List.getElem?_drop] at h3;exact hv.2.2 j a i c v h1 h2 (by rw[<-h3];congr 1;omega)
 cases h3
theorem SlR.src {t sz:Nat} {l:List (X.Γ t)} {x:TV} (hv:SlR X P F m h t sz l x):∃ new,aQ sz h x=some (l.length,new)∧new.length=l.length*sz∧aW X P F m h t l new 0 sz:=by
 rcases hv with⟨rfl,rfl⟩ | ⟨b,off,cap,ex,cs,rfl,hk,hc,Gn,hw⟩
 ·exact⟨[],rfl,by simp,fun j a hj=>by simp at hj,by simp,fun j a i c v hj=>by simp at hj⟩
 refine⟨(cs.drop off).take (l.length*sz),?_,?_,hw.take⟩
 ·have:=hw.2.1;simp only[aQ,if_true,sub];by_cases h0:l.length=0
  ·rw[if_pos h0,h0];simp
  rw[if_neg h0,Gn (fun e=>h0 (by rw[e];rfl))];simp only;rw[if_pos this];rfl
 have:=hw.2.1;rw[List.length_take,List.length_drop];omega
theorem aW.app {t sz:Nat} {l r:List (X.Γ t)} {a b:List TV} (h1:aW X P F m h t l a 0 sz) (h2:aW X P F m h t r b 0 sz) (ha:a.length=l.length*sz):aW X P F m h t (l++r) (a++b) 0 sz:=by
 refine⟨fun j y hy=>?_,?_,fun j y i c v hy hi hx=>?_⟩
 ·rcases Nat.lt_or_ge j l.length with hl | hl
  ·rw[List.getElem?_append_left hl] at hy;exact h1.1 j y hy
  rw[List.getElem?_append_right hl] at hy;exact h2.1 _ y hy
 ·have:=h2.2.1;simp only[List.length_append,Nat.add_mul];omega
 rcases Nat.lt_or_ge j l.length with hl | hl
 ·rw[List.getElem?_append_left hl] at hy;have aN:i<sz:=by rw[<-h1.1 j y hy];exact (List.getElem?_eq_some_iff.1 hi).1
  have:(j+1)*sz<=l.length*sz:=Nat.mul_le_mul_right sz hl;rw[Nat.add_mul] at this;rw[List.getElem?_append_left (by omega)] at hx;exact h1.2.2 j y i c v hy hi hx
 rw[List.getElem?_append_right hl] at hy;have:l.length*sz<=j*sz:=Nat.mul_le_mul_right sz hl;rw[List.getElem?_append_right (by omega)] at hx;refine h2.2.2 _ y i c v hy hi ?_;rw[<-hx];congr 1;rw[ha,Nat.sub_mul];omega
theorem jm {Γ:Nat->Type} {t t':Nat} {l:List (Γ t')} {r:List (Γ t)} (h:pW t t' l=some r):∃ e:t'=t,r=e▸l:=by
 unfold pW at h;split at h
 ·rename_i e;cases h;exact⟨e,rfl⟩
 cases h
theorem yP (hX:aX X P) (hr:HR X P A m H h) {e sz:Nat} {x:PV X.Γ} {tx:TV} (hv:VR X P (AA A m) m h x tx) (hz:aZ P e=some sz) {rows:List (X.Γ e)} {is:List Nat} (hs:oV X H e sz x=some (rows,is)) :
  ∃ new,aQ sz h tx=some (rows.length,new)∧new.length=rows.length*sz∧aW X P (FA A m is) m' h e rows new 0 sz:=by
 have up:∀ {l:List (X.Γ e)} {y:TV},SlR X P (AA A m) m h e sz l y->∃ new,aQ sz h y=some (l.length,new)∧new.length=l.length*sz∧aW X P (FA A m []) m' h e l new 0 sz:=by
  intro l y hy;obtain⟨new,h1,h2,h3⟩:=hy.src;exact⟨new,h1,h2,(h3.mono fun b hb=>.inl hb).dW hX⟩
 cases x with
 | nil k=>
  cases k<;>simp only[oV] at hs<;>try (cases hs;done)
  simp only[Option.some.injEq,Prod.mk.injEq] at hs;obtain⟨rfl,rfl⟩:=hs;cases hv with
  | nil=>exact up (.inl ⟨rfl,rfl⟩)
  | gone hi _ _=>simp[aG] at hi
 | bK t l fu=>
  simp only[oV,Option.map_eq_some_iff,Prod.mk.injEq] at hs;obtain⟨r,h1,rfl,rfl⟩:=hs;obtain⟨rfl,rfl⟩:=jm h1;exact up (PO hv hz)
 | own i=>
  simp only[oV] at hs;split at hs
  ·rename_i k ex t l hH;simp only[Option.map_eq_some_iff,Prod.mk.injEq] at hs;obtain⟨r,h1,rfl,rfl⟩:=hs;obtain⟨rfl,rfl⟩:=jm h1;obtain⟨mb,g1,g2⟩:=hr.at_ i _ hH;cases mb with
   | bK y=>
    cases hv with
    | own e' o=>rw[g1] at e';cases e';exact up (UA g2 hz)
    | gone hi e' o=>simp only[aG,Option.some.injEq] at hi;subst hi;rw[g1] at e';cases e'
   | _=>exact g2.elim
  ·cases hs
 | win i o n=>
  simp only[oV] at hs;split at hs
  ·rename_i k ex t l hH;simp only[Option.map_eq_some_iff,Prod.mk.injEq] at hs;obtain⟨r,h1,rfl,rfl⟩:=hs;obtain⟨rfl,rfl⟩:=jm h1;obtain⟨mb,g1,g2⟩:=hr.at_ i _ hH;cases mb with
   | bK y=>
    have hsl:=UA g2 hz;cases hv with
    | win e' q q' q2=>
     rw[g1] at e';cases e';rcases hsl with⟨h,_⟩ | ⟨b,off,cap,Sm,cs,he,hk,hc,Gn,hw⟩
     ·cases h
     ·cases he;have hlen:n=((r.drop o).take n).length:=by rw[List.length_take,List.length_drop];omega
      refine up (.inr ⟨_,_,_,_,cs,congrArg (fun k=>TV.slc _ _ k _ _ _) hlen,hlen▸q',hc,fun dZ=>?_,hw.part q⟩);have h1:n≠0:=fun e=>dZ (by subst e;simp);have h2:=q2;rw[<-Gn (fun e=>dZ (by rw[e];simp)),<-h2];congr 1;rw[Nat.add_mul];omega
    | qg e'=>
     rw[g1] at e';cases e';refine up (.inl ⟨rfl,by simp⟩)
    | gone hi e' o=>simp only[aG,Option.some.injEq] at hi;subst hi;rw[g1] at e';cases e'
   | _=>exact g2.elim
  ·cases hs
 | slc b off len cap WS ex=>
  simp only[oV] at hs;split at hs
  ·rename_i cs hH;split at hs
   ·rename_i nP;obtain⟨nP,a1H⟩:=nP;subst nP;obtain⟨mb,g1,g2⟩:=hr.at_ b _ hH;cases mb with
    | cO c=>
     obtain⟨cs',g3,g4⟩:=g2;cases hv with
     | slc e'=>
      rw[g1] at e';cases e';obtain⟨hl,hw⟩:=rF (m':=m') hX hr (g4.drop off) hs;subst hl;rw[g4.1] at a1H;refine⟨(cs'.drop off).take (rows.length*WS),?_,by rw[List.length_take,List.length_drop];omega,by simpa using hw.take⟩;simp only[aQ,if_true,qZ g3 (by simp),sub];split
      ·rename_i h0;rw[h0,Nat.zero_mul,List.take_zero]
      ·simp only[a1H,if_true,Option.map_some]
     | gone hi e' o=>simp only[aG,Option.some.injEq] at hi;subst hi;rw[g1] at e';cases e'
    | _=>exact g2.elim
   ·cases hs
  ·cases hs
 | _=>simp[oV] at hs
end
open Go Tw
def xH (m:List MB) (i b:Nat):Prop:=∃ mb,m[i]? = some mb∧mb.own=some b
structure IR (m:List MB) (h:List HB) (p:PI) (t:gu):Prop where
 all:t.all=true->p.i.all=true
 tl:∀ k,.l k∈t.ts->.l k∈p.i.ts
 wl:∀ k,.l k∈t.ws->.l k∈p.i.ws
 wh:∀ b,.h b∈t.ws->(∃ i,.h i∈p.i.ws∧xH m i b)∨(p.wall=true∧b∈aJ m)
 th:∀ b,.h b∈t.ts->((∃ i,.h i∈p.i.ts∧xH m i b)∨b∉aJ m)∧b<h.length
 hp:p.hp=false->t.all=false∧(∀ b,.h b∉t.ts)∧∀ b,.h b∉t.ws
theorem IR.none {m:List MB} {h:List HB} {p:PI}:IR m h p aA:=⟨fun h=>(by cases h),fun _ h=>(by cases h),fun _ h=>(by cases h),fun _ h=>(by cases h),fun _ h=>(by cases h),fun _=>⟨rfl,fun _ h=>(by cases h),fun _ h=>(by cases h)⟩⟩
section
variable {X:iQ} {P:Program} {A F:Nat->Prop} {m m':List MB} {h h':List HB} {H H':List (PB X.Γ)}
structure nR (X:iQ) (P:Program) (A:Nat->Prop) (m:List MB) (ps:aV X.Γ) (ts:St):Prop where
 heap:HR X P A m ps.heap ts.heap
 llen:ps.loc.length=ts.loc.length
 loc:∀ (k:Nat) cs,ps.loc[k]? = some cs->∃ cs',ts.loc[k]? = some cs'∧aH X P (AA A m) m ts.heap cs cs'
 env:gX X P (AA A m) m ts.heap ps.env ts.env
theorem nR.step {ps:aV X.Γ} {ts:St} (hR:nR X P A m ps ts) {H1:List (PB X.Γ)} {h1:List HB} (hr:HR X P A m' H1 h1) (hF:Fr m ts.heap m' h1) (hU:Up m m'):nR X P A m' { ps with heap:=H1 } { ts with heap:=h1 }:=
 ⟨hr,hR.llen,fun k cs hk=>let ⟨cs',g1,g2⟩:=hR.loc k cs hk;⟨cs',g1,g2.step hF hU⟩,hR.env.step hF hU⟩
def OpR (X:iQ) (P:Program) (A:Nat->Prop) (m:List MB) (call:ay) (site:Nat->Bool) (ts:St) (o:Oper) (pe:PE X.Γ) (fJ:aV X.Γ) (pi:PI):Prop:=
 ∃ ev dX ti m1,jq P call site ts o=some (ev,dX,ti)∧dX.env=ts.env∧dX.ws=ts.ws∧nR X P A m1 fJ dX∧CP X P (AA A m1) m1 dX.heap pe ev∧Fr m ts.heap m1 dX.heap∧Up m m1∧IR m ts.heap pi ti∧∀ b,.h b∈ti.ws->b∈aJ m
theorem nG {call:ay} {site:Nat->Bool} {ps:aV X.Γ} {ts:St} {o:Oper} {pe:PE X.Γ} {ev:EV} {pi:PI} (hR:nR X P A m ps ts) (h:jq P call site ts o=some (ev,ts,aA)) (hp:CP X P (AA A m) m ts.heap pe ev):OpR X P A m call site ts o pe ps pi:=
 ⟨ev,ts,aA,m,h,rfl,rfl,hR,hp,.refl,.refl,.none,fun b hb=>by cases hb⟩
theorem nR.su {ps:aV X.Γ} {ts:St} (hR:nR X P A m ps ts) {x:Operand} {b:Bool} (hb:lJ ts.env x=some (.bool b)):nR X P A m (ps.su x b) ts:=by
 cases x with
 | tmp t=>
  refine⟨hR.heap,hR.llen,hR.loc,Xz hR.env ?_⟩;simp only[lJ,Aw] at hb;split at hb
  ·rename_i v hv;cases hb;exact hv
  cases hb
 | _=>exact hR
theorem H8 {ps:aV X.Γ} {ts:St} (hR:nR X P A m ps ts) {site:Bool} {cs:List (PV X.Γ)} {cs':List TV} (hc:aH X P (AA A m) m ts.heap cs cs') :
  ∃ m1,(jg site ts cs').2.env=ts.env∧(jg site ts cs').2.ws=ts.ws∧nR X P A m1 (vg site ps cs).2 (jg site ts cs').2∧CP X P (AA A m1) m1 (jg site ts cs').2.heap (vg site ps cs).1 (jg site ts cs').1∧Fr m ts.heap m1 (jg site ts cs').2.heap∧Up m m1:=by
 cases site with
 | true=>
  have hp:=hR.heap.push (pb:=.cells cs) (hb:=.cells .own cs') (mb:=.cO ts.heap.length) (.inl rfl) ?_
  ·refine⟨m++[.cO ts.heap.length],rfl,rfl,hR.step hp.1 hp.2.1 hp.2.2,?_,hp.2.1,hp.2.2⟩;show VR X P _ _ _ (.ptr ps.heap.length 0 cs.length) (.ptr ts.heap.length 0 cs'.length);rw[hc.1];exact .ptr (by rw[<-hR.heap.len];simp)
  ·refine⟨cs',by simp,hc.step ?_ (nC _)⟩;refine⟨by simp,fun b hb _=>by rw[List.getElem?_append_left hb],fun b hb=>?_,fun b cs hc=>⟨cs,by rw[bZ (List.getElem?_append_left (bU hc)),hc],Nat.le_refl _⟩⟩;rw[dK,List.mem_append,fG] at hb;rcases hb with hb | hb
   ·exact .inl hb
   ·simp[MB.own] at hb;exact .inr (by omega)
 | false=>
  refine⟨m,rfl,rfl,⟨hR.heap,by simp[vg,jg,hR.llen],fun k ds hk=>?_,hR.env⟩,?_,.refl,.refl⟩
  ·simp only[vg,jg,Bool.false_eq_true,if_false] at hk ⊢;rcases Nat.lt_or_ge k ps.loc.length with hl | hl
   ·rw[List.getElem?_append_left hl] at hk;obtain⟨ds',g1,g2⟩:=hR.loc k ds hk;exact⟨ds',by rw[List.getElem?_append_left (by rw[<-hR.llen];exact hl)];exact g1,g2⟩
   ·rw[List.getElem?_append_right hl] at hk;have:k-ps.loc.length=0:=by
     rcases Nat.eq_zero_or_pos (k-ps.loc.length) with e | e
     ·exact e
     ·rw[List.getElem?_eq_none (by simp;omega)] at hk;cases hk
    rw[this] at hk;simp only[List.getElem?_cons_zero,Option.some.injEq] at hk;subst hk;exact⟨cs',by rw[List.getElem?_append_right (by rw[<-hR.llen];exact hl),<-hR.llen,this];rfl,hc⟩
  ·exact⟨hR.llen,rfl⟩
theorem dw {i:Nat} {mb:MB} {b:Nat} (h1:m[i]? = some mb) (h2:mb.own=some b):xH m i b:=⟨mb,h1,h2⟩
theorem ND {i b:Nat} (h:xH m i b):b∈aJ m:=let ⟨_,h1,h2⟩:=h;aC h1 h2
theorem IR.rdH {i b:Nat} (h0:xH m i b) (hl:b<h.length):IR m h ⟨nS (.h i),false,false,true⟩ (nS (.h b)):=
 ⟨fun h=>(by cases h),fun k hk=>(by simp[nS] at hk),fun k hk=>(by simp[nS] at hk),fun b hb=>(by simp[nS] at hb),fun c hc=>(by simp[nS] at hc;subst hc;exact⟨.inl ⟨i,by simp[nS],h0⟩,hl⟩),fun h=>(by cases h)⟩
theorem IR.wrH {i b:Nat} (h0:xH m i b) (hl:b<h.length):IR m h ⟨lF (.h i),false,false,true⟩ (lF (.h b)):=
 ⟨fun h=>(by cases h),fun k hk=>(by simp[lF] at hk),fun k hk=>(by simp[lF] at hk),fun c hc=>(by simp[lF] at hc;subst hc;exact .inl ⟨i,by simp[lF],h0⟩),fun c hc=>(by simp[lF] at hc;subst hc;exact⟨.inl ⟨i,by simp[lF],h0⟩,hl⟩),fun h=>(by cases h)⟩
theorem IR.loc {k:Nat}:IR m h ⟨nS (.l k),false,false,false⟩ (nS (.l k)):=
 ⟨fun h=>(by cases h),fun j hj=>by simpa[nS] using hj,fun k hk=>(by simp[nS] at hk),fun b hb=>(by simp[nS] at hb),fun c hc=>(by simp[nS] at hc),fun _=>⟨rfl,fun b hb=>(by simp[nS] at hb),fun b hb=>(by simp[nS] at hb)⟩⟩
theorem IR.a9i {k:Nat}:IR m h ⟨lF (.l k),false,false,false⟩ (lF (.l k)):=
 ⟨fun h=>(by cases h),fun j hj=>by simpa[lF] using hj,fun j hj=>by simpa[lF] using hj,fun c hc=>(by simp[lF] at hc),fun c hc=>(by simp[lF] at hc),fun _=>⟨rfl,fun b hb=>(by simp[lF] at hb),fun b hb=>(by simp[lF] at hb)⟩⟩
theorem Kv {t:TypeId} {cs:List TV} {o sz off n:Nat} {x:TV} (ho:o+sz<=cs.length) (hp:l7 P t ((cs.drop o).take sz) off=some x) (hn:aZ P t=some n):l7 P t cs (o+off)=some x∧off+n<=sz∧o+off+n<=cs.length:=by
 unfold l7 at hp ⊢;split at hp
 ·rename_i k ha hk;rw[hn] at hk;cases hk;simp only[Option.map_eq_some_iff] at hp;obtain⟨r,h1,rfl⟩:=hp;unfold sub at h1;split at h1
  ·rename_i hl;rw[List.length_take,List.length_drop] at hl;refine⟨?_,by omega,by omega⟩;cases h1;simp only[ha,hn,sub];rw[if_pos (by omega)];simp only[Option.map_some,Option.some.injEq,TV.agg.injEq];rw[List.drop_take,List.drop_drop,List.take_take,Nat.min_eq_left (by omega)]
  cases h1
 ·rename_i k ha hk;rw[hn] at hk;cases hk;split at hp
  ·rename_i h1;subst h1;rw[List.getElem?_take] at hp;split at hp
   ·rename_i h2;rw[List.getElem?_drop] at hp;have:=(List.getElem?_eq_some_iff.1 hp).1;refine⟨by simp only[ha,hn,if_true];exact hp,by omega,by omega⟩
   cases hp
  cases hp
 cases hp
theorem H9 {t:TypeId} {cs:List TV} {off:Nat} {x:TV} (hp:l7 P t cs off=some x):∃ n,aZ P t=some n:=by
 unfold l7 at hp;split at hp
 ·rename_i n _ hn;exact⟨n,hn⟩
 ·rename_i n _ hn;exact⟨n,hn⟩
 cases hp
theorem aW.row {t sz:Nat} {l:List (X.Γ t)} {cs:List TV} {off j:Nat} {a:X.Γ t} (hw:aW X P F m h t l cs off sz) (hj:l[j]? = some a):aH X P F m h (X.enc t a) ((cs.drop (off+j*sz)).take sz)∧off+j*sz+sz<=cs.length:=by
 have hlen:=hw.1 j a hj;have aN:j<l.length:=(List.getElem?_eq_some_iff.1 hj).1;have h2:(j+1)*sz<=l.length*sz:=Nat.mul_le_mul_right sz aN;have h3:=hw.2.1;rw[Nat.add_mul] at h2;refine⟨⟨by rw[hlen,List.length_take,List.length_drop];omega,fun i c v hc hv=>?_⟩,by omega⟩;rw[List.getElem?_take] at hv;split at hv
 ·rw[List.getElem?_drop] at hv;exact hw.2.2 j a i c v hj hc hv
 cases hv
theorem oG {t:Nat} {l:List (X.Γ t)} {j:Nat} (hj:j<l.length):l[j]? = some (l.getD j (X.d0 t)):=by
 rw[List.getD_eq_getElem?_getD,List.getElem?_eq_getElem hj];rfl
theorem xP (hX:aX X P) {ps:aV X.Γ} {ts:St} (hR:nR X P A m ps ts) {t:TypeId} {pa:PE X.Γ} {ea:EV} (ha:CP X P (AA A m) m ts.heap pa ea) {v:PV X.Γ} {pi:gu} (hl:qX X P t ps pa=some (v,pi)) :
  ∃ x ti,loadT P t ts ea=some (x,ti)∧VR X P (AA A m) m ts.heap v x∧IR m ts.heap ⟨pi,false,false,!IQ pa⟩ ti∧ti.ws=[]:=by
 cases pa with
 | loc k off=>
  rw[vC ha];simp only[qX] at hl;split at hl
  ·rename_i cs hk;simp only[Option.map_eq_some_iff,Prod.mk.injEq] at hl;obtain⟨w,h1,rfl,rfl⟩:=hl;obtain⟨cs',g1,g2⟩:=hR.loc k cs hk;obtain⟨x,g3,g4⟩:=ru g2 h1;exact⟨x,nS (.l k),by simp only[loadT,g1,g3,Option.map_some],g4,.loc,rfl⟩
  ·cases hl
 | undef=>simp[qX] at hl
 | val a=>
  obtain⟨y,rfl,hy⟩:=cu ha;cases a with
  | ptr b off lim=>
   simp only[qX] at hl;split at hl
   ·rename_i cs n hb hn;split at hl
    ·rename_i BH;simp only[Option.map_eq_some_iff,Prod.mk.injEq] at hl;obtain⟨w,h1,rfl,rfl⟩:=hl;obtain⟨mb,g1,g2⟩:=hR.heap.at_ b _ hb;cases mb with
     | cO c=>
      obtain⟨cs',g3,g4⟩:=g2;cases hy with
      | ptr e=>
       rw[g1] at e;cases e;obtain⟨x,g5,g6⟩:=ru g4 h1;refine⟨x,nS (.h c),?_,g6,.rdH (dw g1 rfl) (List.getElem?_eq_some_iff.1 g3).1,rfl⟩;simp only[loadT,qZ g3 (show BK.own≠.last by simp),hn,BH,if_true,g5,Option.map_some]
      | gone hi e _=>simp only[aG,Option.some.injEq] at hi;subst hi;rw[g1] at e;cases e
     | _=>exact g2.elim
    ·cases hl
   ·rename_i cs n hb hn;split at hl
    ·rename_i BH;simp only[Option.map_eq_some_iff,Prod.mk.injEq] at hl;obtain⟨w,h1,rfl,rfl⟩:=hl;obtain⟨mb,g1,g2⟩:=hR.heap.at_ b _ hb;cases mb with
     | cZ c=>
      obtain⟨g0,cs',g3,g4⟩:=g2;cases hy with
      | ptr e=>rw[g1] at e;cases e
      | gone hi e _=>
       simp only[aG,Option.some.injEq] at hi;subst hi;rw[g1] at e;cases e with
       | r _ e=>
        simp only[Xx,Option.some.injEq] at e;subst e;obtain⟨x,g5,g6⟩:=ru g4 h1;refine⟨x,nS (.h c),?_,g6,⟨fun h=>(by cases h),fun k hk=>(by simp[nS] at hk),fun k hk=>(by simp[nS] at hk),fun b hb=>(by simp[nS] at hb),fun d hd=>?_,fun h=>(by cases h)⟩,rfl⟩
        ·simp only[loadT,qZ g3 (show BK.own≠.last by simp),hn,BH,if_true,g5,Option.map_some]
        ·simp[nS] at hd;subst hd;exact⟨.inr g0,(List.getElem?_eq_some_iff.1 g3).1⟩
     | _=>exact g2.elim
    ·cases hl
   ·cases hl
  | row b j off=>
   simp only[qX] at hl;split at hl
   ·rename_i k ex e l hb;simp only[Option.map_eq_some_iff,Prod.mk.injEq] at hl;obtain⟨w,h1,rfl,rfl⟩:=hl;obtain⟨mb,g1,g2⟩:=hR.heap.at_ b _ hb;cases mb with
    | bK z=>
     cases hy with
     | row e' hj hq=>
      rw[g1] at e';cases e';cases (g2:LR X P _ _ _ _ _ _ _ _) with
      | emp=>omega
      | some q1 q2 q3 q4 q5 q6 q7 q8 q9=>
       have oU:=q9.row (oG hj);obtain⟨x,g5,g6⟩:=ru oU.1 h1;obtain⟨n,hn⟩:=H9 g5;obtain⟨g7,g8,_⟩:=Kv oU.2 g5 hn;rw[Nat.zero_add] at g7;refine⟨x,nS (.h _),?_,g6,.rdH (dw g1 (by simp only[MB.own];rw[if_neg (by simpa using q1)])) (List.getElem?_eq_some_iff.1 q4).1,rfl⟩;have Ls:=oU.2;simp only[loadT,ny q4 q8.symm,hn];rw[if_pos (by omega),g7];rfl
     | gone hi e' _=>simp only[aG,Option.some.injEq] at hi;subst hi;rw[g1] at e';cases e'
    | _=>exact g2.elim
   ·cases hl
  | el e a off=>
   simp only[qX,Option.map_eq_some_iff,Prod.mk.injEq] at hl;obtain⟨w,h1,rfl,rfl⟩:=hl;cases hy with
   | el q1 q2 q2' q3 q4 q5 q6=>
    rename_i b o sz lim cs;have oU:aH X P (AA A m) m ts.heap (X.enc e a) ((cs.drop o).take sz):=by
     refine⟨by rw[q4,List.length_take,List.length_drop];omega,fun i c v hc hv=>?_⟩;rw[List.getElem?_take] at hv;split at hv
     ·rw[List.getElem?_drop] at hv;exact q6 i c v hc hv
     ·cases hv
    obtain⟨x,g5,g6⟩:=ru oU h1;obtain⟨n,hn⟩:=H9 g5;obtain⟨g7,g8,_⟩:=Kv q3 g5 hn;refine⟨x,nS (.h b),?_,g6,⟨fun h=>(by cases h),fun k hk=>(by simp[nS] at hk),fun k hk=>(by simp[nS] at hk),fun b hb=>(by simp[nS] at hb),fun c hc=>?_,fun h=>(by cases h)⟩,rfl⟩
    ·simp only[loadT,q2,hn];rw[if_pos (by omega),g7];rfl
    ·simp[nS] at hc;subst hc;exact⟨.inr q1.2,QZ q2⟩
   | gone hi e' _=>simp[aG] at hi
  | _=>simp[qX] at hl
end
open Go Tw
section
variable {X:iQ} {P:Program} {A F:Nat->Prop} {m m':List MB} {h h':List HB} {H H':List (PB X.Γ)}
theorem Ey {cs new:List TV} {o sz off:Nat} {r:List TV} (ho:o+sz<=cs.length) (hr:lX ((cs.drop o).take sz) off new=some r):lX cs (o+off) new=some (cs.take o++r++cs.drop (o+sz))∧r.length=sz:=by
 unfold lX at hr ⊢;split at hr
 rotate_left
 ·cases hr
 rename_i hl;have kF:=hl;rw[List.length_take,List.length_drop] at hl;cases hr;refine⟨?_,?_⟩
 ·rw[if_pos (by omega)];simp only[Option.some.injEq];apply List.ext_getElem?;intro i;simp only[List.getElem?_append,List.length_append,List.length_take,List.length_drop,List.getElem?_take,List.getElem?_drop];rcases Nat.lt_or_ge i o with h1 | h1
  ·simp (disch:=omega) only [Nat.min_eq_left,if_pos]
  rcases Nat.lt_or_ge i (o+off) with h2 | h2
  ·rw[if_pos (by omega),if_pos (by omega),if_pos (by omega),if_pos (by omega),if_neg (by omega),if_pos (by omega),if_pos (by omega),if_pos (by omega),if_pos (by omega)];congr 1;omega
  rcases Nat.lt_or_ge i (o+off+new.length) with h3 | h3
  ·rw[if_pos (by omega),if_neg (by omega),if_pos (by omega),if_neg (by omega),if_pos (by omega),if_neg (by omega)];congr 1;omega
  rcases Nat.lt_or_ge i (o+sz) with h4 | h4
  ·rw[if_neg (by omega),if_pos (by omega),if_neg (by omega),if_neg (by omega),if_pos (by omega)];congr 1;omega
  rw[if_neg (by omega),if_neg (by omega)];congr 1;omega
 simp only[List.length_append,List.length_take,List.length_drop];omega
theorem aW.set {t sz j:Nat} {l:List (X.Γ t)} {cs r:List TV} {a:X.Γ t} (hw:aW X P F m h t l cs 0 sz) (hr:aH X P F m h (X.enc t a) r) (hl:r.length=sz) (hj:j<l.length) :
  aW X P F m h t (l.set j a) (cs.take (j*sz)++r++cs.drop (j*sz+sz)) 0 sz:=by
 have h2:(j+1)*sz<=l.length*sz:=Nat.mul_le_mul_right sz hj;rw[Nat.add_mul] at h2;have h3:=hw.2.1;refine⟨fun k y hy=>?_,?_,fun k y i c v hy hi hx=>?_⟩
 ·rw[List.getElem?_set] at hy;split at hy
  ·cases hy;rw[hr.1,hl]
  ·exact hw.1 k y hy
 ·simp only[List.length_append,List.length_take,List.length_drop,List.length_set];omega
 ·rw[List.getElem?_set] at hy;split at hy
  ·rename_i e;subst e;cases hy;have aN:i<sz:=by rw[<-hl,<-hr.1];exact (List.getElem?_eq_some_iff.1 hi).1
   refine hr.2 i c v hi ?_;rw[List.getElem?_append_left (by simp only[List.length_append,List.length_take];omega),List.getElem?_append_right (by rw[List.length_take];omega),List.length_take] at hx;rw[<-hx];congr 1;omega
  ·rename_i e;have hlen:=hw.1 k y hy;have aN:i<sz:=by rw[<-hlen];exact (List.getElem?_eq_some_iff.1 hi).1
   have hk:k<l.length:=(List.getElem?_eq_some_iff.1 hy).1;refine hw.2.2 k y i c v hy hi ?_;rw[<-hx];rcases Nat.lt_or_ge k j with h4 | h4
   ·have:(k+1)*sz<=j*sz:=Nat.mul_le_mul_right sz h4;rw[Nat.add_mul] at this;rw[List.getElem?_append_left (by simp only[List.length_append,List.length_take];omega),List.getElem?_append_left (by rw[List.length_take];omega),List.getElem?_take,if_pos (by omega)]
   ·have h5:j+1<=k:=(by omega);have:(j+1)*sz<=k*sz:=Nat.mul_le_mul_right sz h5;rw[Nat.add_mul] at this;rw[List.getElem?_append_right (by simp only[List.length_append,List.length_take];omega),List.getElem?_drop];congr 1;simp only[List.length_append,List.length_take];omega
theorem Ba {b:Nat} {pb:PB X.Γ}:∀ {is:List Nat} {H:List (PB X.Γ)},is.contains b=false->aK is (H.set b pb)=(aK is H).set b pb
 | [],_,_=>rfl
 | i::is,H,hn=>by
  simp only[List.contains_cons,Bool.or_eq_false_iff,beq_eq_false_iff_ne,ne_eq] at hn;simp only[aK,JY];rw[List.set_comm _ _ hn.1,Ba hn.2]
theorem pO (hX:aX X P) {ps fJ:aV X.Γ} {ts:St} (hR:nR X P A m ps ts) {t:TypeId} {pa:PE X.Γ} {ea:EV} (ha:CP X P (AA A m) m ts.heap pa ea) {v:PV X.Γ} {x:TV} (hv:VR X P (AA A m) m ts.heap v x) {pi:gu} (hl:II X P t ps pa v=some (fJ,pi)) :
  ∃ dX ti m1,storeT P t ts ea x=some (dX,ti)∧dX.env=ts.env∧dX.ws=ts.ws∧nR X P A m1 fJ dX∧Fr m ts.heap m1 dX.heap∧Up m m1∧IR m ts.heap ⟨pi,false,false,!IQ pa⟩ ti∧∀ b,.h b∈ti.ws->b∈aJ m:=by
 have hc:=yJ hv;unfold II at hl;split at hl
 ·rename_i n hn;split at hl
  ·rename_i DF;have XB:x.cells.length=n∧x.cells.all bV=true:=⟨by rw[<-hc.1];exact DF.1,by rw[vw hc];exact DF.2⟩;cases pa with
   | loc k off=>
    rw[vC ha];simp only at hl;split at hl
    ·rename_i cs hk;simp only[Option.map_eq_some_iff,Prod.mk.injEq] at hl;obtain⟨Jm,h1,rfl,rfl⟩:=hl;obtain⟨cs',g1,g2⟩:=hR.loc k cs hk;obtain⟨A8,g3,g4⟩:=yK g2 hc h1;refine⟨{ ts with loc:=ts.loc.set k A8 },lF (.l k),m,?_,rfl,rfl,⟨hR.heap,by simp[hR.llen],fun j ds hj=>?_,hR.env⟩,.refl,.refl,.a9i,fun b hb=>by simp[lF] at hb⟩
     ·simp only[storeT,hn,XB,and_self,if_true,g1,g3,Option.map_some]
     ·by_cases e:k=j
      ·subst e;rw[List.getElem?_set_self'] at hj;rw[hk] at hj;cases hj;exact⟨A8,by rw[List.getElem?_set_self',g1];rfl,g4⟩
      ·rw[List.getElem?_set_ne e] at hj;obtain⟨ds',q1,q2⟩:=hR.loc j ds hj;exact⟨ds',by rw[List.getElem?_set_ne e];exact q1,q2⟩
    ·cases hl
   | undef=>simp at hl
   | val a=>
    obtain⟨y,rfl,hy⟩:=cu ha;cases a with
    | ptr b off lim=>
     simp only at hl;split at hl
     ·rename_i BH;split at hl
      ·rename_i cs hb;simp only[Option.map_eq_some_iff,Prod.mk.injEq] at hl;obtain⟨Jm,h1,rfl,rfl⟩:=hl;obtain⟨mb,g1,g2⟩:=hR.heap.at_ b _ hb;cases mb with
       | cO c=>
        obtain⟨cs',g3,g4⟩:=g2;cases hy with
        | ptr e=>
         rw[g1] at e;cases e;obtain⟨A8,g5,g6⟩:=yK g4 hc h1;have hlen:A8.length=cs'.length:=by
          unfold lX at g5;split at g5
          ·cases g5;simp only[List.length_append,List.length_take,List.length_drop];omega
          ·cases g5
         have aN:=(List.getElem?_eq_some_iff.1 g3).1;obtain⟨hr1,hF⟩:=hR.heap.set (pb:=.cells Jm) (hb:=.cells .own A8) g1 (c:=c) rfl (fun WU Kw=>⟨A8,by simp[aB,aN],by
          simp only[aB,g3,Option.some.injEq] at Kw;subst Kw;omega⟩) fun hF=>⟨A8,by simp[aN],g6.step hF .refl⟩
         refine⟨{ ts with heap:=ts.heap.set c (.cells .own A8) },lF (.h c),m,?_,rfl,rfl,hR.step hr1 hF .refl,hF,.refl,.wrH (dw g1 rfl) aN,fun b hb=>?_⟩
         ·simp only[storeT,hn,XB,and_self,if_true,BH,Kr g3,g5,Option.map_some]
         ·simp[lF] at hb;subst hb;exact aC g1 rfl
        | gone hi e _=>simp only[aG,Option.some.injEq] at hi;subst hi;rw[g1] at e;cases e
       | _=>exact g2.elim
      ·cases hl
     ·cases hl
    | row b j off=>
     simp only at hl;split at hl
     ·rename_i k0 ex e l hb;split at hl
      ·rename_i Jm h1;split at hl
       ·rename_i a is hd;split at hl
        ·cases hl
        ·rename_i Lr;simp only[Option.some.injEq,Prod.mk.injEq] at hl;obtain⟨rfl,rfl⟩:=hl;obtain⟨mb,g1,g2⟩:=hR.heap.at_ b _ hb;cases mb with
         | bK z=>
          cases hy with
          | row e' hj hq=>
           rw[g1] at e';cases e';cases (g2:LR X P _ _ _ _ _ _ _ _) with
           | emp=>omega
           | some q1 q2 q3 q4 q5 q6 q7 q8 q9=>
            rename_i c sz xx kk cs;obtain⟨oM,qJ,hkr,hko⟩:=zY q5;have iZ:(MB.bK (TV.slc c 0 l.length l.length sz xx)).own=some c:=by simp only[MB.own];rw[if_neg (by simpa using q1)]
            have oU:=q9.row (oG hj);simp only[Nat.zero_add] at oU;obtain⟨r,g3,g4⟩:=yK oU.1 hc h1;obtain⟨g5,g6⟩:=Ey oU.2 g3;have a9j:=PN (m':=aS is m) hX hR.heap g4 hd;have UC:=hR.heap.aK is;have FI:=gU (h:=ts.heap) is m;have a5i:is.contains b=false:=(by simpa using Lr);have Ij:(aS is m)[b]? = some (.bK (.slc c 0 l.length l.length sz xx)):=by rw[tY is g1,a5i];rfl
            have aN:=(List.getElem?_eq_some_iff.1 q4).1;have Sj:(cs.take (j*sz)++r++cs.drop (j*sz+sz)).length=cs.length:=by
             simp only[List.length_append,List.length_take,List.length_drop];omega
            obtain⟨hr1,hF⟩:=UC.set (pb:=.list k0 ex e (l.set j a)) (hb:=.cells oM (cs.take (j*sz)++r++cs.drop (j*sz+sz))) Ij iZ (fun WU Kw=>⟨cs.take (j*sz)++r++cs.drop (j*sz+sz),by simp[aB,aN],by
             simp only[aB,q4,Option.some.injEq] at Kw;subst Kw;omega⟩) fun hF=>by
              have hw:=(q9.step FI.1 FI.2).set (a9j.mono fun b hb=>hb.gone hR.heap) g6 hj;have:=LR.some (X:=X) (P:=P) (A:=AA A (aS is m)) (m:=aS is m) (h:=ts.heap.set c (.cells oM (cs.take (j*sz)++r++cs.drop (j*sz+sz)))) (k:=k0) (ex:=ex) (t:=e) (l:=l.set j a) (b:=c) (sz:=sz) (e:=xx) (kk:=oM) (cs:=cs.take (j*sz)++r++cs.drop (j*sz+sz))
               (by intro e0;apply q1;have:=congrArg List.length e0;rw[List.length_set] at this;exact List.length_eq_zero_iff.1 this) q2 q3 (by simp[aN]) hkr (fun e0=>hko (q6 e0)) q7 (by rw[Sj,List.length_set];exact q8) (hw.step hF .refl)
              rw[List.length_set] at this;exact this
            rw[<-Ba a5i] at hr1;have MS:=FI.1.trans hF;refine⟨{ ts with heap:=ts.heap.set c (.cells oM (cs.take (j*sz)++r++cs.drop (j*sz+sz))) },lF (.h c),aS is m,?_,rfl,rfl,hR.step hr1 MS FI.2,MS,FI.2,.wrH (dw g1 iZ) aN,fun b hb=>?_⟩
            ·have h9:j*sz+off+n<=l.length*sz:=by
              have h8:=oU.2;unfold lX at g3;split at g3
              ·rename_i h0;rw[List.length_take,List.length_drop,XB.1] at h0;omega
              ·cases g3
             simp only[storeT,hn,XB,and_self,if_true,h9,IW q4 qJ q8.symm,g5,Option.map_some]
            ·simp[lF] at hb;subst hb;exact aC g1 iZ
          | gone hi e' _=>simp only[aG,Option.some.injEq] at hi;subst hi;rw[g1] at e';cases e'
         | _=>exact g2.elim
       ·cases hl
      ·cases hl
     ·cases hl
    | _=>simp at hl
  ·cases hl
 ·cases hl
end
open Go Tw
section
variable {X:iQ} {P:Program} {A F:Nat->Prop} {m m':List MB} {h h':List HB} {H H':List (PB X.Γ)}
theorem ji {v:PV X.Γ} {x:TV} (hv:VR X P A m h v x):CP X P A m h (.val v) (.val x):=hv
theorem Dw {ps:aV X.Γ} {ts:St} (hR:nR X P A m ps ts) {o:Nat} {pa pb:PE X.Γ} {ea:EV} (ha:CP X P (AA A m) m ts.heap pa ea) (hl:yF X ps o pa=some pb):∃ eb,Dc o ea=some eb∧CP X P (AA A m) m ts.heap pb eb:=by
 cases pa with
 | loc k off=>
  rw[vC ha];simp only[yF,Option.some.injEq] at hl;subst hl;exact⟨.loc k (off+o),rfl,rfl,rfl⟩
 | undef=>simp[yF] at hl
 | val a=>
  obtain⟨y,rfl,hy⟩:=cu ha;cases a with
  | ptr b off lim=>
   simp only[yF] at hl;split at hl
   ·rename_i cs hb;split at hl
    ·rename_i hle;cases hl;obtain⟨mb,g1,g2⟩:=hR.heap.at_ b _ hb;cases mb with
     | cO c=>
      cases hy with
      | ptr e=>exact⟨.val (.ptr _ (off+o) lim),by simp only[Dc,hle,if_true],VR.ptr e⟩
      | gone hi e q=>simp only[aG,Option.some.injEq] at hi;subst hi;rw[g1] at e;cases e
     | _=>exact g2.elim
    cases hl
   ·rename_i cs hb;split at hl
    ·rename_i hle;cases hl;obtain⟨mb,g1,g2⟩:=hR.heap.at_ b _ hb;cases mb with
     | cZ c=>
      cases hy with
      | ptr e=>rw[g1] at e;cases e
      | gone hi e q=>
       simp only[aG,Option.some.injEq] at hi;subst hi;rw[g1] at e;cases e with
       | r _ e=>simp only[Xx,Option.some.injEq] at e;subst e;exact⟨.val (.ptr _ (off+o) lim),by simp only[Dc,hle,if_true],VR.gone rfl (.WT g1 rfl) rfl⟩
     | _=>exact g2.elim
    cases hl
   cases hl
  | el t a off=>
   simp only[yF] at hl;split at hl
   ·rename_i hle;cases hl;cases hy with
    | el q1 q2 q2' q3 q4 q5 q6=>
     rename_i b o0 sz lim cs;rw[q4] at hle;refine⟨.val (.ptr b (o0+off+o) lim),by simp only[Dc];rw[if_pos (by omega)],?_⟩;rw[Nat.add_assoc];exact VR.el q1 q2 q2' q3 q4 hle q6
    | gone hi _ _=>simp[aG] at hi
   cases hl
  | row b j off=>
   simp only[yF,a4P] at hl;split at hl
   rotate_left
   ·cases hl
   rename_i n hn;split at hn
   rotate_left
   ·cases hn
   rename_i k ex e l hb;cases hn;split at hl
   ·rename_i hle;cases hl;obtain⟨mb,g1,g2⟩:=hR.heap.at_ b _ hb;cases mb with
    | bK z=>
     cases hy with
     | row e' hj hq=>
      rw[g1] at e';cases e';cases (g2:LR X P _ _ _ _ _ _ _ _) with
      | emp=>omega
      | some q1 q2 q3 q4 q5 q6 q7 q8 q9=>
       rw[q9.1 j _ (oG hj)] at hle;have oU:=(q9.row (oG hj)).2;refine⟨.val (.ptr _ (j*_+off+o) (l.length*_)),by simp only[Dc];rw[if_pos (by omega)],?_⟩;rw[Nat.add_assoc];exact VR.row g1 hj hle
     | gone hi e' _=>simp only[aG,Option.some.injEq] at hi;subst hi;rw[g1] at e';cases e'
    | _=>exact g2.elim
   cases hl
  | _=>simp[yF] at hl
theorem XC {ps:aV X.Γ} {ts:St} (hR:nR X P A m ps ts) {b:Nat} {k ex:Bool} {e:Nat} {l:List (X.Γ e)} (hb:ps.heap[b]? = some (.list k ex e l)) {y:TV} (hy:VR X P (AA A m) m ts.heap (.own b) y) (hl:l≠[]) :
  ∃ c sz x,y=.slc c 0 l.length l.length sz x∧m[b]? = some (.bK y)∧aZ P e=some sz∧0<sz:=by
 obtain⟨mb,g1,g2⟩:=hR.heap.at_ b _ hb;cases mb with
 | bK z=>
  cases hy with
  | own e' o=>
   rw[g1] at e';cases e';cases (g2:LR X P _ _ _ _ _ _ _ _) with
   | nil=>exact absurd rfl hl
   | emp=>exact absurd rfl hl
   | some q1 q2 q3=>exact⟨_,_,_,rfl,g1,q2,q3⟩
  | gone hi e' _=>simp only[aG,Option.some.injEq] at hi;subst hi;rw[g1] at e';cases e'
 | _=>exact g2.elim
theorem qL {ps:aV X.Γ} {ts:St} (hR:nR X P A m ps ts) {t:TypeId} {px pb:PE X.Γ} {ex:EV} (hx:CP X P (AA A m) m ts.heap px ex) {i:PV X.Γ} {ti:TV} (hi:VR X P (AA A m) m ts.heap i ti) {qs:List Prop} (hl:xq X P t ps px i=some (pb,qs)) (hq:∀ q∈qs,q) :
  ∃ eb,eF P t ex ti=some eb∧CP X P (AA A m) m ts.heap pb eb:=by
 have Iw:∀ {k:IntKind} {iv:Int} {n:Nat},CB iv n->idx n (.int k iv)=some iv.toNat∧iv.toNat<n:=by
  intro k iv n hn;unfold CB at hn;refine⟨by simp only[idx];rw[if_pos hn],by omega⟩
 have hpi:∀ {n j:Nat},QW X n i=some j->idx n ti=some j:=by
  intro n j hj;cases i<;>simp only[QW] at hj<;>try (cases hj;done)
  cases hi with
  | int=>exact hj
  | gone e _ _=>simp[aG] at e
 unfold xq at hl;split at hl
 ·rename_i e hu;split at hl
  ·rename_i n t' l fu k iv hn;split at hl
   ·rename_i ht;subst ht;simp only[Option.some.injEq,Prod.mk.injEq] at hl;obtain⟨rfl,rfl⟩:=hl;have hr:=Iw (k:=k) (hq _ List.mem_cons_self);have:ti=.int k iv:=by
     cases hi with
     | int=>rfl
     | gone e _ _=>simp[aG] at e
    subst this;obtain⟨y,rfl,hy⟩:=cu hx;rcases PO hy hn with⟨rfl,rfl⟩ | ⟨b,off,cap,Sm,cs,rfl,hk,hc,Gn,hw⟩
    ·have:=hr.2;simp at this
    ·have oU:=hw.row (oG hr.2);have hA:AA A m b:=by
      cases hy with
      | bK a=>exact a
      | gone e _ _=>simp[aG] at e
     have DF:=Gn (by intro e0;rw[e0] at hr;have:=hr.2;simp at this);have hle:off+iv.toNat*n+n<=off+cap*n:=by
      have h1:(iv.toNat+1)*n<=cap*n:=Nat.mul_le_mul_right n (by have:=hr.2;omega);rw[Nat.add_mul,Nat.one_mul] at h1;omega
     refine⟨.val (.ptr b (off+iv.toNat*n) (off+cap*n)),?_,?_⟩
     ·simp only[eF,hu,hn,if_true,hr.1,Option.map_some]
     ·have:=VR.el (X:=X) (P:=P) (A:=AA A m) (m:=m) (h:=ts.heap) (t:=t') (a:=l.getD iv.toNat (X.d0 t')) (off:=0) (o:=off+iv.toNat*n) hA DF hle oU.2 (hw.1 _ _ (oG hr.2)) (Nat.zero_le _) (fun i c v h1 h2=>hw.2.2 _ _ i c v (oG hr.2) h1 h2);exact ji (by simpa using this)
   ·cases hl
  ·rename_i n b k iv hn;split at hl
   ·rename_i w Sm t' l hb;split at hl
    ·rename_i ht;subst ht;simp only[Option.some.injEq,Prod.mk.injEq] at hl;obtain⟨rfl,rfl⟩:=hl;have hr:=Iw (k:=k) (hq _ List.mem_cons_self);have:ti=.int k iv:=by
      cases hi with
      | int=>rfl
      | gone e _ _=>simp[aG] at e
     subst this;obtain⟨y,rfl,hy⟩:=cu hx;obtain⟨c,sz,x',rfl,g1,g2,g3⟩:=XC hR hb hy (by intro e0;rw[e0] at hr;have:=hr.2;simp at this);rw[hn] at g2;cases g2;refine⟨.val (.ptr c (iv.toNat*n) (l.length*n)),?_,?_⟩
     ·simp only[eF,hu,hn,if_true,hr.1,Option.map_some,Nat.zero_add]
     ·have:=VR.row (X:=X) (P:=P) (A:=AA A m) (m:=m) (h:=ts.heap) (off:=0) g1 hr.2 (Nat.zero_le n);exact ji (by simpa using this)
    ·cases hl
   ·cases hl
  ·rename_i n b o q k iv hn;split at hl
   ·rename_i w Sm t' l hb;split at hl
    ·rename_i ht;subst ht;simp only[Option.some.injEq,Prod.mk.injEq] at hl;obtain⟨rfl,rfl⟩:=hl;have hr:=Iw (k:=k) (hq _ List.mem_cons_self);have:ti=.int k iv:=by
      cases hi with
      | int=>rfl
      | gone e _ _=>simp[aG] at e
     subst this;obtain⟨y,rfl,hy⟩:=cu hx;obtain⟨mb,g1,g2⟩:=hR.heap.at_ b _ hb;cases mb with
     | bK z=>
      cases hy with
      | win e' w1 w2 w3=>
       rw[g1] at e';cases e';cases (g2:LR X P _ _ _ _ _ _ _ _) with
       | emp=>have:=hr.2;omega
       | some q1 q2 q3=>
        rw[hn] at q2;cases q2;have hp:=ji (VR.row (X:=X) (P:=P) (A:=AA A m) (m:=m) (h:=ts.heap) (j:=o+iv.toNat) (off:=0) g1 (by have:=hr.2;omega) (Nat.zero_le n));refine⟨_,?_,hp⟩;have h3:=w3;simp only[eF,hu,hn,if_true,hr.1,Option.map_some,Nat.zero_add,Nat.add_mul,Nat.add_zero,<-h3]
      | qg e'=>have:=hr.2;omega
      | gone hi e' _=>simp only[aG,Option.some.injEq] at hi;subst hi;rw[g1] at e';cases e'
     | _=>exact g2.elim
    ·cases hl
   ·cases hl
  ·rename_i n b off len cap sz Sm hn;split at hl
   ·rename_i cs hb;split at hl
    ·rename_i nP;subst nP;simp only[Option.map_eq_some_iff,Prod.mk.injEq] at hl;obtain⟨j,h1,rfl,rfl⟩:=hl;obtain⟨y,rfl,hy⟩:=cu hx;obtain⟨mb,g1,g2⟩:=hR.heap.at_ b _ hb;cases mb with
     | cO c=>
      cases hy with
      | slc e=>
       have:=hpi h1;rw[g1] at e;cases e;exact⟨.val (.ptr c (off+j*n) (off+cap*n)),by simp only[eF,hu,hn,if_true,this,Option.map_some],VR.ptr g1⟩
      | gone nO e' _=>simp only[aG,Option.some.injEq] at nO;subst nO;rw[g1] at e';cases e'
     | _=>exact g2.elim
    ·cases hl
   ·cases hl
  ·cases hl
 ·rename_i len e hu;split at hl
  ·rename_i n hn;split at hl
   ·rename_i j hj;simp only[Option.map_eq_some_iff,Prod.mk.injEq] at hl;obtain⟨pa,h1,rfl,rfl⟩:=hl;obtain⟨eb,g1,g2⟩:=Dw hR hx h1;exact⟨eb,by simp only[eF,hu,hn,hpi hj,g1],g2⟩
   ·cases hl
  ·cases hl
 ·cases hl
end
open Go Tw
section
variable {X:iQ} {P:Program} {A F:Nat->Prop} {m m':List MB} {h h':List HB} {H H':List (PB X.Γ)}
theorem LW (hr:HR X P A m H h) {at_:Array TypeId} {x:PV X.Γ} {tx:TV} (hx:VR X P (AA A m) m h x tx) {v:PV X.Γ} {pi:gu} (hl:a1w X P at_ H x=some (v,pi)) :
  ∃ w ti,LG P at_ h tx=some (w,ti)∧VR X P (AA A m) m h v w∧IR m h ⟨pi,false,false,true⟩ ti∧ti.ws=[]:=by
 unfold a1w at hl;split at hl
 ·rename_i t ht;unfold LG;simp only[ht];split at hl
  ·rename_i s hu;cases hl;cases hx with
   | str=>exact⟨_,_,by first | (simp only[hu];done) | (simp only[hu];rfl),.int _ _,.none,rfl⟩
   | gone hi _ _=>simp[aG] at hi
  ·rename_i n e _ hu;cases hl;exact⟨_,_,by first | (simp only[hu];done) | (simp only[hu];rfl),.int _ _,.none,rfl⟩
  ·rename_i e b off len cap sz ex hu;split at hl
   ·rename_i cs hb;cases hl;obtain⟨mb,g1,g2⟩:=hr.at_ b _ hb;cases mb with
    | cO c=>
     cases hx with
     | slc e'=>exact⟨_,_,by first | (simp only[hu];done) | (simp only[hu];rfl),.int _ _,.none,rfl⟩
     | gone hi e' _=>simp only[aG,Option.some.injEq] at hi;subst hi;rw[g1] at e';cases e'
    | _=>exact g2.elim
   ·cases hl
  ·rename_i e hu;cases hl;cases hx with
   | nil=>exact⟨_,_,by first | (simp only[hu];done) | (simp only[hu];rfl),.int _ _,.none,rfl⟩
   | gone hi _ _=>simp[aG] at hi
  ·rename_i e t' l fu hu;cases hl;cases hx with
   | jZ=>exact⟨_,_,by first | (simp only[hu];done) | (simp only[hu];rfl),.int _ _,.none,rfl⟩
   | bK=>exact⟨_,_,by first | (simp only[hu];done) | (simp only[hu];rfl),.int _ _,.none,rfl⟩
   | gone hi _ _=>simp[aG] at hi
  ·rename_i e b hu;split at hl
   ·rename_i k ex t' l hb;cases hl;obtain⟨mb,g1,g2⟩:=hr.at_ b _ hb;cases mb with
    | bK z=>
     cases hx with
     | own e' _=>
      rw[g1] at e';cases e';cases (g2:LR X P _ _ _ _ _ _ _ _) with
      | nil=>exact⟨_,_,by first | (simp only[hu];done) | (simp only[hu];rfl),.int _ _,.none,rfl⟩
      | emp=>exact⟨_,_,by first | (simp only[hu];done) | (simp only[hu];rfl),.int _ _,.none,rfl⟩
      | some=>exact⟨_,_,by first | (simp only[hu];done) | (simp only[hu];rfl),.int _ _,.none,rfl⟩
     | gone hi e' _=>simp only[aG,Option.some.injEq] at hi;subst hi;rw[g1] at e';cases e'
    | _=>exact g2.elim
   ·cases hl
  ·rename_i e b o n hu;split at hl
   ·rename_i k ex t' l hb;cases hl;obtain⟨mb,g1,g2⟩:=hr.at_ b _ hb;cases mb with
    | bK z=>
     cases hx with
     | win=>exact⟨_,_,by first | (simp only[hu];done) | (simp only[hu];rfl),.int _ _,.none,rfl⟩
     | qg=>exact⟨_,_,by first | (simp only[hu];done) | (simp only[hu];rfl),.int _ _,.none,rfl⟩
     | gone hi e' _=>simp only[aG,Option.some.injEq] at hi;subst hi;rw[g1] at e';cases e'
    | _=>exact g2.elim
   ·cases hl
  ·rename_i kt e hu;cases hl;cases hx with
   | nil=>exact⟨_,_,by first | (simp only[hu];done) | (simp only[hu];rfl),.int _ _,.none,rfl⟩
   | gone hi _ _=>simp[aG] at hi
  ·rename_i kt e r hu;split at hl
   ·rename_i es hb;cases hl;obtain⟨mb,g1,g2⟩:=hr.at_ r _ hb;cases mb with
    | cO c=>
     obtain⟨fQ,g3,g4,g5⟩:=g2;cases hx with
     | map e'=>
      rw[g1] at e';cases e';exact⟨_,_,by first | (simp only[hu,g3];done) | (simp only[hu,g3];rfl),by rw[g4];exact .int _ _,.rdH (dw g1 rfl) (List.getElem?_eq_some_iff.1 g3).1,rfl⟩
     | gone hi e' _=>simp only[aG,Option.some.injEq] at hi;subst hi;rw[g1] at e';cases e'
    | _=>exact g2.elim
   ·cases hl
  ·cases hl
 ·cases hl
def UD:BinOp->Option TV
 | .eql=>some (.bool false)
 | .neq=>some (.bool true)
 | _=>none
theorem LU {op:BinOp} {t:TypeId} {x y:Operand} {a b:PV X.Γ} {ta tb:TV} (ha:VR X P A m h a ta) (hb:VR X P A m h b tb) {v:PV X.Γ} (hl:a1y X P op t x y a b=some v):∃ w,kH P op t x y ta tb=some w∧VR X P A m h v w:=by
 unfold a1y at hl;split at hl
 ·rename_i u w h1 h2;split at hl
  ·rename_i r hr;rw[iP ha h1,iP hb h2];exact⟨r,hr,nD hl⟩
  cases hl
 rename_i hno;split at hl
 rotate_left
 ·cases hl
 rename_i hn;have key:∃ k,AB P t=some k∧((ta=.nil k∧Az tb=some k∧tb.rU=none)∨(tb=.nil k∧Az ta=some k∧ta.rU=none)):=by
  unfold Pq at hn;split at hn
  rotate_left
  ·cases hn
  rename_i k hk;refine⟨k,hk,?_⟩;simp only[Bool.or_eq_true,Bool.and_eq_true,beq_iff_eq] at hn;have a5j:∀ {z:PV X.Γ} {tz:TV},VR X P A m h z tz->z=.nil k->tz=.nil k:=by
   intro z tz hz e;subst e;cases hz with
   | nil=>rfl
   | gone hi _ _=>simp[aG] at hi
  have a0x:∀ {z:PV X.Γ} {tz:TV},VR X P A m h z tz->(match z with | .fn _ _ _=>some NK.fn | .el _ _ _=>some NK.ptr | _=>none)=some k->Az tz=some k∧tz.rU=none:=by
   intro z tz hz e;cases hz with
   | fn=>exact⟨e,rfl⟩
   | el=>exact⟨e,rfl⟩
   | gone hi _ _=>cases z<;>simp[aG] at hi<;>simp at e
   | _=>simp at e
  have a5k:∀ {z:PV X.Γ},(match z with | .nil k=>some k | _=>none)=some k->z=.nil k:=by
   intro z e;cases z<;>simp at e
   rw[e]
  rcases hn with⟨h1,h2⟩ | ⟨h1,h2⟩
  ·have:=a0x hb h2;exact .inl ⟨a5j ha (a5k h1),this.1,this.2⟩
  have:=a0x ha h1;exact .inr ⟨a5j hb (a5k h2),this.1,this.2⟩
 obtain⟨k,hk,hc⟩:=key;have a9k:kH P op t x y ta tb=UD op:=by
  rcases hc with⟨rfl,h2,h3⟩ | ⟨rfl,h2,h3⟩
  ·have hnn:sN P t (.nil k) tb=true:=by unfold sN;rw[hk];simp[LH,h2]
   unfold kH;rw[h3];cases (TV.nil k).rU<;>simp only[hnn,if_true]<;>cases op<;>rfl
  have hnn:sN P t ta (.nil k)=true:=by unfold sN;rw[hk];simp[LH,h2]
  unfold kH;rw[h3];simp only[hnn,if_true];cases op<;>rfl
 rw[a9k];cases op<;>simp only at hl ⊢<;>try (cases hl;done)
 ·cases hl;exact⟨_,rfl,.bool _⟩
 cases hl;exact⟨_,rfl,.bool _⟩
theorem Ez {op:BinOp} {t:TypeId} {x y:Operand} {b:PV X.Γ} {ta tb:TV} (hb:VR X P A m h b tb) {v:PV X.Γ} {q q':Prop} (hl:CG X P op t b q=some (v,q')) (hq:q') (h2:q->Az ta=some .slc∧ta.rU=none):∃ w,kH P op t x y ta tb=some w∧VR X P A m h v w:=by
 unfold CG at hl;split at hl
 ·rename_i hk;have h1:tb=.nil .slc:=by
   cases hb with
   | nil=>rfl
   | gone hi _ _=>simp[aG] at hi
  subst h1;have key:q->kH P op t x y ta (.nil .slc)=UD op:=fun hq=>by
   obtain⟨h2,h3⟩:=h2 hq;have hnn:sN P t ta (.nil .slc)=true:=by unfold sN;rw[hk];simp[LH,h2]
   unfold kH;rw[h3];simp only[hnn,if_true];cases op<;>rfl
  split at hl
  ·cases hl;rw[key hq];exact⟨_,rfl,.bool _⟩
  ·cases hl;rw[key hq];exact⟨_,rfl,.bool _⟩
  cases hl
 cases hl
theorem Ri (hr:HR X P A m H h) {op:BinOp} {t:TypeId} {x y:Operand} {a b:PV X.Γ} {ta tb:TV} (ha:VR X P (AA A m) m h a ta) (hb:VR X P (AA A m) m h b tb) {v:PV X.Γ} {q:Prop} (hl:IK X P op t H a b=some (v,q)) (hq:q):∃ w,kH P op t x y ta tb=some w∧VR X P (AA A m) m h v w:=by
 unfold IK at hl;split at hl
 ·rename_i l fu;refine Ez hb hl hq (fun dZ=>?_);cases ha with
  | jZ=>exact absurd rfl dZ
  | bK=>exact⟨rfl,rfl⟩
  | gone hi _ _=>simp[aG] at hi
 ·rename_i i;split at hl
  ·rename_i k ex t' l hi;refine Ez hb hl hq (fun dZ=>?_);obtain⟨mb,g1,g2⟩:=hr.at_ i _ hi;cases ha with
   | own e o=>
    rw[g1] at e;cases e;cases g2 with
    | nil=>exact absurd rfl dZ
    | emp=>exact absurd rfl dZ
    | some=>exact⟨rfl,rfl⟩
   | gone hi e _=>simp only[aG,Option.some.injEq] at hi;subst hi;rw[g1] at e;cases e<;>exact g2.elim
  cases hl
 cases hl
theorem dR {op:UnOp} {a:PV X.Γ} {ta:TV} (ha:VR X P A m h a ta) {v:PV X.Γ} (hl:pun X P op a=some v):∃ w,unT P op ta=some w∧VR X P A m h v w:=by
 unfold pun at hl;split at hl
 ·rename_i u h1;split at hl
  ·rename_i r hr;rw[iP ha h1];exact⟨r,hr,nD hl⟩
  cases hl
 cases hl
theorem Ii {s d:TypeId} {a:PV X.Γ} {ta:TV} (ha:VR X P A m h a ta) {v:PV X.Γ} (hl:Uj X P s d a=some v):∃ w,Df P s d ta=some w∧VR X P A m h v w:=by
 unfold Uj at hl;split at hl
 ·rename_i u h1;split at hl
  ·rename_i r hr;rw[iP ha h1];exact⟨r,hr,nD hl⟩
  cases hl
 cases hl
theorem pV {mx:Bool} {at_:Array TypeId} {t:TypeId} {az:List (PV X.Γ)} {ts:List TV} (ha:aH X P A m h az ts) {v:PV X.Γ} (hl:CJ X P mx at_ t az=some v):∃ w,uS P mx at_ t ts=some w∧VR X P A m h v w:=by
 unfold CJ at hl;split at hl
 ·rename_i u h1;split at hl
  ·rename_i r hr;rw[PK ha h1];exact⟨r,hr,nD hl⟩
  cases hl
 cases hl
theorem Dx {t:TypeId} {x:PV X.Γ} {tx:TV} (hx:VR X P A m h x tx) {i:Nat} {v:PV X.Γ} (hl:Nl X P t x i=some v):∃ w,zG P t tx i=some w∧VR X P A m h v w:=by
 unfold Nl at hl;split at hl
 ·rename_i fs cs hu;split at hl
  ·rename_i f hf;cases hx with
   | agg h1 h2=>
    obtain⟨w,g1,g2⟩:=ru ⟨h1,h2⟩ hl;exact⟨w,by simp only[zG,hu,hf,g1],g2⟩
   | gone hi _ _=>simp[aG] at hi
  cases hl
 cases hl
theorem Dy {t:TypeId} {x i:PV X.Γ} {tx ti:TV} (hx:VR X P A m h x tx) (hi:VR X P A m h i ti) {v:PV X.Γ} (hl:Nq X P t x i=some v):∃ w,wL P t tx ti=some w∧VR X P A m h v w:=by
 unfold Nq at hl;split at hl
 ·rename_i len e cs hu;split at hl
  ·rename_i n j hn hj;have:idx len ti=some j:=by
    cases i<;>simp only[QW] at hj<;>try (cases hj;done)
    cases hi with
    | int=>exact hj
    | gone e _ _=>simp[aG] at e
   cases hx with
   | agg h1 h2=>
    obtain⟨w,g1,g2⟩:=ru ⟨h1,h2⟩ hl;exact⟨w,by simp only[wL,hu,hn,this,g1],g2⟩
   | gone hi _ _=>simp[aG] at hi
  cases hl
 cases hl
end
open Go Tw
section
variable {X:iQ} {P:Program} {A F:Nat->Prop} {m m':List MB} {h h':List HB} {H H':List (PB X.Γ)}
theorem yQ:∀ {is:List Nat} {H:List (PB X.Γ)} {i:Nat} {pb:PB X.Γ},(aK is H)[i]? = some pb->(i∈is∧pb=.gone)∨(i∉is∧H[i]? = some pb)
 | [],_,_,_,h=>.inr ⟨by simp,h⟩
 | j::is,H,i,pb,h=>by
  rcases yQ (is:=is) (H:=JY j H) h with⟨h1,h2⟩ | ⟨h1,h2⟩
  ·exact .inl ⟨List.mem_cons_of_mem _ h1,h2⟩
  unfold JY at h2;by_cases e:j=i
  ·subst e;rw[List.getElem?_set_self'] at h2;cases hx:H[j]? with
   | none=>rw[hx] at h2;cases h2
   | some y=>rw[hx] at h2;cases h2;exact .inl ⟨List.mem_cons_self,rfl⟩
  rw[List.getElem?_set_ne e] at h2;exact .inr ⟨by simp[h1,Ne.symm e],h2⟩
theorem gV (hr:HR X P A m H h) (is:List Nat) {k ex x:Bool} {e size:Nat} {rows:List (X.Γ e)} {cs:List TV} (hw:aW X P (FA A m is) (aS is m) h e rows cs 0 size) (hc:cs.length=rows.length*size) (hn:rows≠[]) (hz:aZ P e=some size) (h0:0<size) (hx:ex=true->x=true) :
  ∃ m1,HR X P A m1 (aK is H++[.list k ex e rows]) (h++[.cells .own cs])∧Fr m h m1 (h++[.cells .own cs])∧Up m m1∧VR X P (AA A m1) m1 (h++[.cells .own cs]) (.own H.length) (.slc h.length 0 rows.length rows.length size x):=by
 have UC:=hr.aK is;have FI:=gU (h:=h) is m;have iZ:(MB.bK (.slc h.length 0 rows.length rows.length size x)).own=some h.length:=by simp only[MB.own];rw[if_neg (by simpa using hn)]
 have hF:Fr (aS is m) h (aS is m++[.bK (.slc h.length 0 rows.length rows.length size x)]) (h++[.cells .own cs]):=by
  refine⟨by simp,fun b hb _=>by rw[List.getElem?_append_left hb],fun b hb=>?_,fun b cs hc=>⟨cs,by rw[bZ (List.getElem?_append_left (bU hc)),hc],Nat.le_refl _⟩⟩;rw[dK,List.mem_append,fG,iZ] at hb;rcases hb with hb | hb
  ·exact .inl hb
  ·simp at hb;exact .inr (by omega)
 obtain⟨h1,h2,h3⟩:=UC.push (pb:=.list k ex e rows) (hb:=.cells .own cs) (.inl iZ)
  (LR.some (kk:=.own) hn hz h0 (by simp) (by simp) (fun _=>rfl) hx hc ((hw.mono fun b hb=>hb.gone hr).step hF (nC _)))
 refine⟨_,h1,FI.1.trans h2,FI.2.trans h3,.own ?_ rfl⟩;rw[<-hr.len,<-fU is m];simp
theorem He (hr:HR X P A m H h) (is:List Nat) {k ex:Bool} {e:Nat} {y:TV} (hy:(MB.bK y).own=none) (ho:bV y=true) (hl:LR X P (AA A (aS is m++[.bK y])) (aS is m++[.bK y]) h k ex e [] y) :
  ∃ m1,HR X P A m1 (aK is H++[.list k ex e []]) h∧Fr m h m1 h∧Up m m1∧VR X P (AA A m1) m1 h (.own H.length) y:=by
 have FI:=gU (h:=h) is m;obtain⟨h1,h2,h3⟩:=(hr.aK is).a0v (pb:=.list k ex e []) hy hl;refine⟨_,h1,FI.1.trans h2,FI.2.trans h3,.own ?_ ho⟩;rw[<-hr.len,<-fU is m];simp
theorem XD (hr:HR X P A m H h) {is:List Nat} {y:TV} (hy:(MB.bK y).own=none) {b:Nat} (hb:FA A m is b):AA A (aS is m++[.bK y]) b:=by
 have:=hb.gone hr;refine⟨this.1,fun hm=>this.2 ?_⟩;rw[dK,List.mem_append,fG,hy] at hm;simpa using hm
theorem push_empty (hr:HR X P A m H h) (is:List Nat) {k ex:Bool} {e size b off:Nat} {cs:List TV} (hz:aZ P e=some size) (h0:0<size) (ha:FA A m is b) (hb:aB h b=some cs) (ho:off<=cs.length) :
  ∃ m1,HR X P A m1 (aK is H++[.list k ex e []]) h∧Fr m h m1 h∧Up m m1∧VR X P (AA A m1) m1 h (.own H.length) (.slc b off 0 0 size true):=
 He hr is rfl rfl (LR.emp (XD hr rfl ha) hb ho hz h0)
theorem EC (hr:HR X P A m H h) (is:List Nat) {k ex:Bool} {e:Nat} :
  ∃ m1,HR X P A m1 (aK is H++[.list k ex e []]) h∧Fr m h m1 h∧Up m m1∧VR X P (AA A m1) m1 h (.own H.length) (.nil .slc):=
 He hr is rfl rfl .nil
theorem xE (hr:HR X P A m H h) {b c:Nat} (is:List Nat) {mb BM:MB} {pb:PB X.Γ} {h1:List HB} (hb:m[b]? = some mb) (ho:mb.own=some c) (ho':BM.own=some c) (hlen:h1.length=h.length) (hs:∀ d,d≠c->h1[d]? = h[d]?)
  (hg:∀ cs,aB h c=some cs->∃ cs',aB h1 c=some cs'∧cs.length<=cs'.length)
  (rM:Fr m h (aS (b::is) m++[BM]) h1->Up m (aS (b::is) m++[BM])->BR X P (AA A (aS (b::is) m++[BM])) (aS (b::is) m++[BM]) h1 pb BM) :
  ∃ m1,m1=aS (b::is) m++[BM]∧HR X P A m1 (aK (b::is) H++[pb]) h1∧Fr m h m1 h1∧Up m m1∧m1[H.length]? = some BM:=by
 have FI:=gU (h:=h) (b::is) m;have UC:=hr.aK (b::is);have hnc:c∉aJ (aS (b::is) m):=fun hm=>by
  obtain⟨j,mbj,g1,g2,g3⟩:=rE hm;have:=dI hr.nodup hb g2 ho g3;exact g1 (by rw[<-this];exact List.mem_cons_self)
 have mD:∀ d,d∈aJ (aS (b::is) m++[BM])↔d∈aJ (aS (b::is) m)∨d=c:=by
  intro d;rw[dK,List.mem_append,fG,ho'];simp
 have Sz:c∈aJ m:=aC hb ho;have hF:Fr m h (aS (b::is) m++[BM]) h1:=by
  refine⟨by omega,fun d hd hn=>hs d fun e=>hn (e▸Sz),fun d hd=>?_,fun d cs hc=>?_⟩
  ·rcases (mD d).1 hd with hd | rfl
   ·exact FI.1.new d hd
   ·exact .inl Sz
  ·by_cases e:d=c
   ·subst e;exact hg cs hc
   ·exact⟨cs,by rw[bZ (hs d e),hc],Nat.le_refl _⟩
 have hU:Up m (aS (b::is) m++[BM]):=FI.2.trans (nC _);refine⟨_,rfl,?_,hF,hU,?_⟩
 ·refine hr.next hF hU (by simp[fU,tX,hr.len]) ?_ fun i pbi hi=>?_
  ·rw[dK,fG,ho'];refine List.nodup_append.2 ⟨UC.nodup,by simp,fun a ha b' vX e=>?_⟩;simp at vX;subst vX;subst e;exact hnc ha
  ·rcases Nat.lt_or_ge i (aK (b::is) H).length with aN | zB
   ·rw[List.getElem?_append_left aN] at hi;have a5l:i<(aS (b::is) m).length:=by rw[UC.len];exact aN
    rcases yQ hi with⟨e1,rfl⟩ | ⟨e1,e2⟩
    ·obtain⟨mbi,g1,g2⟩:=UC.at_ i _ hi;cases mbi with
     | gone=>exact .inr ⟨.gone,by rw[List.getElem?_append_left a5l];exact g1,trivial⟩
     | _=>exact g2.elim
    ·obtain⟨mbi,g1,_⟩:=hr.at_ i _ e2;left;have hm:=tY (b::is) g1;rw[show (b::is).contains i=false by simpa using e1] at hm;refine⟨mbi,e2,g1,by rw[List.getElem?_append_left a5l];simpa using hm,fun d hd=>hs d fun e=>?_⟩;subst e;have:=dI hr.nodup hb g1 ho hd;exact e1 (by rw[<-this];exact List.mem_cons_self)
   ·rw[List.getElem?_append_right zB] at hi;have:i-(aK (b::is) H).length=0:=by
     rcases Nat.eq_zero_or_pos (i-(aK (b::is) H).length) with h | h
     ·exact h
     ·rw[List.getElem?_eq_none (by simp;omega)] at hi;cases hi
    rw[this] at hi;simp only[List.getElem?_cons_zero,Option.some.injEq] at hi;subst hi;exact .inr ⟨BM,by rw[List.getElem?_append_right (by rw[UC.len];exact zB),UC.len,this];rfl,rM hF hU⟩
 ·have:H.length=(aS (b::is) m).length:=by rw[fU,hr.len]
  rw[this];simp
end
open Go Tw
section
variable {X:iQ} {P:Program} {A F:Nat->Prop} {m m':List MB} {h h':List HB} {H H':List (PB X.Γ)}
def FX (X:iQ) (P:Program) (A:Nat->Prop) (m:List MB) (ts:St) (r:Option (TV×St×gu)) (v:PV X.Γ) (H1:List (PB X.Γ)) (pi:PI):Prop:=
 ∃ w h1 ti m1,r=some (w,{ ts with heap:=h1 },ti)∧HR X P A m1 H1 h1∧VR X P (AA A m1) m1 h1 v w∧Fr m ts.heap m1 h1∧Up m m1∧IR m ts.heap pi ti∧∀ b,.h b∈ti.ws->b∈aJ m
theorem dQ {e:TypeId} {n k:Nat} (hb:jK P e n=true) (hk:k<=n):jK P e k=true:=by
 unfold jK at hb ⊢;split at hb
 ·rename_i i hi;simp only[Bool.and_eq_true,decide_eq_true_eq] at hb ⊢;obtain⟨⟨⟨⟨h1,h2⟩,h3⟩,h4⟩,h5⟩:=hb;have:=Nat.mul_le_mul_right i.bytes hk;exact⟨⟨⟨⟨by omega,by omega⟩,h3⟩,h4⟩,h5⟩
 cases hb
theorem fH {t e:TypeId} {n:Nat} (hs:dM P t=some (e,n)):aZ P e=some n∧0<n:=by
 unfold dM at hs;split at hs
 ·split at hs
  ·rename_i k hk;split at hs
   ·cases hs
   rename_i h0;simp only[Option.some.injEq,Prod.mk.injEq] at hs;obtain⟨rfl,rfl⟩:=hs;exact⟨hk,by omega⟩
  cases hs
 cases hs
theorem jc (hr:HR X P A m H h) {e sz:Nat} {x:PV X.Γ} {tx:TV} (hv:VR X P (AA A m) m h x tx) (hz:aZ P e=some sz) {rows:List (X.Γ e)} {is:List Nat} (hs:oV X H e sz x=some (rows,is)) {b:Nat} (hb:.h b∈aF tx):((∃ i,.h i∈oW X x∧xH m i b)∨b∉aJ m)∧b<h.length:=by
 have lr:∀ {i:Nat} {k ex:Bool} {t:Nat} {l:List (X.Γ t)} {c off len cap s:Nat} {e':Bool},H[i]? = some (.list k ex t l)->m[i]? = some (.bK (.slc c off len cap s e'))->(xH m i c∨c∉aJ m)∧c<h.length:=by
  intro i k ex t l c off len cap s e' hH hm;obtain⟨mb,g1,g2⟩:=hr.at_ i _ hH;rw[hm] at g1;cases g1;cases (g2:LR X P _ _ _ _ _ _ _ _) with
  | emp h0 h1=>exact⟨.inr h0.2,bU h1⟩
  | some q1 q2 q3 q4=>exact⟨.inl (dw hm (by simp only[MB.own];rw[if_neg (by simpa using q1)])),(List.getElem?_eq_some_iff.1 q4).1⟩
 cases x with
 | nil k=>
  cases hv with
  | nil=>simp[aF] at hb
  | gone hi _ _=>simp[aG] at hi
 | bK t l fu=>
  cases hv with
  | jZ=>simp[aF] at hb
  | bK a ac=>simp[aF] at hb;subst hb;exact⟨.inr a.2,bU ac⟩
  | gone hi _ _=>simp[aG] at hi
 | own i=>
  simp only[oV] at hs;split at hs
  ·rename_i k ex t l hH;cases hv with
   | own e' o=>
    cases tx<;>simp[aF] at hb
    subst hb;obtain⟨h1,h2⟩:=lr hH e';rcases h1 with h1 | h1
    ·exact⟨.inl ⟨i,by simp[oW],h1⟩,h2⟩
    exact⟨.inr h1,h2⟩
   | gone hi e' _=>
    simp only[aG,Option.some.injEq] at hi;subst hi;obtain⟨mb,g1,g2⟩:=hr.at_ i _ hH;rw[g1] at e';cases e'<;>exact g2.elim
  cases hs
 | win i o n=>
  simp only[oV] at hs;split at hs
  ·rename_i k ex t l hH;cases hv with
   | win e' q q'=>
    simp[aF] at hb;subst hb;obtain⟨h1,h2⟩:=lr hH e';rcases h1 with h1 | h1
    ·exact⟨.inl ⟨i,by simp[oW],h1⟩,h2⟩
    exact⟨.inr h1,h2⟩
   | qg=>simp[aF] at hb
   | gone hi e' _=>
    simp only[aG,Option.some.injEq] at hi;subst hi;obtain⟨mb,g1,g2⟩:=hr.at_ i _ hH;rw[g1] at e';cases e'<;>exact g2.elim
  cases hs
 | slc c off len cap s ex=>
  simp only[oV] at hs;split at hs
  ·rename_i cs hH;cases hv with
   | slc e'=>
    simp[aF] at hb;subst hb;obtain⟨mb,g1,g2⟩:=hr.at_ c _ hH;rw[e'] at g1;cases g1;exact⟨.inl ⟨c,by simp[oW],dw e' rfl⟩,g2.has rfl⟩
   | gone hi e' _=>
    simp only[aG,Option.some.injEq] at hi;subst hi;obtain⟨mb,g1,g2⟩:=hr.at_ c _ hH;rw[g1] at e';cases e'<;>exact g2.elim
  cases hs
 | _=>simp[oV] at hs
theorem IR.reads {p:PI} {ks:List Key} (hp:p.hp=true) (hk:∀ b,.h b∈ks->((∃ i,.h i∈p.i.ts∧xH m i b)∨b∉aJ m)∧b<h.length) (hl:∀ k,.l k∉ks):IR m h p (bW ks):=
 ⟨fun h=>(by cases h),fun k h=>absurd h (hl k),fun k h=>(by cases h),fun b h=>(by cases h),hk,fun h=>(by rw[hp] at h;cases h)⟩
theorem fD {tx:TV} {k:Nat}:Key.l k∉aF tx:=by cases tx<;>simp[aF]
theorem zQ (hX:aX X P) {ps:aV X.Γ} {ts:St} (hR:nR X P A m ps ts) {at_:Array TypeId} {d x:PV X.Γ} {td tx:TV} (hd:VR X P (AA A m) m ts.heap d td) (hx:VR X P (AA A m) m ts.heap x tx) {v:PV X.Γ} {H1:List (PB X.Γ)} {pi:gu} {qs:List Prop}
  (hl:IJ X P at_ ps.heap d x=some (v,H1,pi,qs)) (hq:∀ q∈qs,q):FX X P A m ts (bQ P at_ ts td tx) v H1 ⟨pi,false,false,true⟩:=by
 have hr:=hR.heap;unfold IJ at hl;split at hl
 ·rename_i st xt jT sG;split at hl
  ·cases hl
  ·rename_i hint;split at hl
   ·rename_i e size lT;split at hl
    ·rename_i rY;obtain⟨hz,h0⟩:=fH lT;split at hl
     ·rename_i rows is hs;obtain⟨new,s1,s2,s3⟩:=yP (m':=aS is m) hX hr hx hz hs;have hk0:IR m ts.heap ⟨bW (oW X x),false,false,true⟩ (bW (aF tx)):=IR.reads rfl (fun b hb=>jc hr hx hz hs hb) fun k=>fD;have Kz:rows.length=0↔rows=[]:=List.length_eq_zero_iff;split at hl
      ·-- nil
       simp only[Option.some.injEq,Prod.mk.injEq] at hl;obtain⟨rfl,rfl,rfl,rfl⟩:=hl;have lS:rows.length<=aO:=hq _ List.mem_cons_self;have:td=.nil .slc:=by
        cases hd with
        | nil=>rfl
        | gone hi _ _=>simp[aG] at hi
       subst this;by_cases hn:rows=[]
       ·subst hn;obtain⟨m1,g1,g2,g3,g4⟩:=EC hr is (k:=true) (ex:=false) (e:=e);exact⟨_,ts.heap,_,m1,by unfold bQ;simp only[jT,sG,hint,if_false,lT,s1,List.length_nil,if_true,Bool.false_eq_true],g1,g4,g2,g3,hk0,fun b hb=>by simp[bW] at hb⟩
       ·obtain⟨m1,g1,g2,g3,g4⟩:=gV hr is (k:=true) (ex:=false) (x:=false) s3 s2 hn hz h0 (by simp);refine⟨_,ts.heap++[.cells .own new],_,m1,?_,g1,g4,g2,g3,hk0,fun b hb=>by simp[bW] at hb⟩;unfold bQ;simp only[jT,sG,hint,if_false,lT,s1,Bool.false_eq_true,Kz,hn,s2,if_true,dQ rY lS]
      ·-- an own list
       rename_i b;split at hl
       ·rename_i k ex t' l hb;split at hl
        ·cases hl
        rename_i Lr;split at hl
        ·rename_i l2 tZ;obtain⟨rfl,rfl⟩:=jm tZ;simp only[Option.some.injEq,Prod.mk.injEq] at hl;obtain⟨rfl,rfl,rfl,rfl⟩:=hl;have lS:l2.length+rows.length<=aO:=hq _ List.mem_cons_self;obtain⟨mb,g1,g2⟩:=hr.at_ b _ hb;have Lj:∀ {c:Nat},xH m b c∨c∉aJ m->c<ts.heap.length->IR m ts.heap ⟨⟨false,.h b::oW X x,[.h b]⟩,false,false,true⟩ (bW (.h c::aF tx)):=fun {c} hc aN=>IR.reads rfl (fun d hd=>by
          rcases List.mem_cons.1 hd with e0 | e0
          ·cases e0;rcases hc with hc | hc
           ·exact⟨.inl ⟨b,List.mem_cons_self,hc⟩,aN⟩
           ·exact⟨.inr hc,aN⟩
          ·obtain⟨h0,h9⟩:=jc hr hx hz hs e0;rcases h0 with⟨i,h1,h2⟩ | h1
           ·exact⟨.inl ⟨i,List.mem_cons_of_mem _ h1,h2⟩,h9⟩
           ·exact⟨.inr h1,h9⟩) fun j hj=>by
            rcases List.mem_cons.1 hj with e0 | e0
            ·cases e0
            ·exact fD e0
         have BX:IR m ts.heap ⟨⟨false,.h b::oW X x,[.h b]⟩,false,false,true⟩ (bW (aF tx)):=IR.reads rfl (fun d hd=>by
          obtain⟨h0,h9⟩:=jc hr hx hz hs hd;rcases h0 with⟨i,h1,h2⟩ | h1
          ·exact⟨.inl ⟨i,List.mem_cons_of_mem _ h1,h2⟩,h9⟩
          ·exact⟨.inr h1,h9⟩) fun j hj=>fD hj
         cases mb with
         | bK z=>
          cases hd with
          | gone hi e' _=>simp only[aG,Option.some.injEq] at hi;subst hi;rw[g1] at e';cases e'
          | own e' o=>
           rw[g1] at e';cases e';have hlr:LR X P (AA A m) m ts.heap k ex t' l2 td:=g2;have zC:aW X P (FA A m (b::is)) (aS (b::is) m) ts.heap t' rows new 0 size:=(s3.mono fun c hc=>FA.mono (fun i hi=>List.mem_cons_of_mem _ hi) hc).dW hX;cases hlr with
           | nil=>
            simp only[List.nil_append];by_cases hn:rows=[]
            ·subst hn;obtain⟨m1,f1,f2,f3,f4⟩:=EC hr (b::is) (k:=k&&ex) (ex:=false) (e:=t');exact⟨_,ts.heap,_,m1,by unfold bQ;simp only[jT,sG,hint,if_false,lT,s1,List.length_nil,if_true,Bool.false_eq_true],f1,f4,f2,f3,BX,fun c hc=>by simp[bW] at hc⟩
            ·obtain⟨m1,f1,f2,f3,f4⟩:=gV hr (b::is) (k:=k&&ex) (ex:=false) (x:=false) zC s2 hn hz h0 (by simp);refine⟨_,ts.heap++[.cells .own new],_,m1,?_,f1,f4,f2,f3,BX,fun c hc=>by simp[bW] at hc⟩;unfold bQ;simp only[jT,sG,hint,if_false,lT,s1,Bool.false_eq_true,Kz,hn,s2,if_true,dQ rY (show rows.length<=aO by omega)]
           | emp p0 p1 p2 p3 p4=>
            rename_i c off sz cs;rw[hz] at p3;cases p3;simp only[List.nil_append];by_cases hn:rows=[]
            ·subst hn;obtain⟨m1,f1,f2,f3,f4⟩:=push_empty hr (b::is) (k:=k&&ex) (ex:=false) hz h0 (.inl p0) p1 p2;exact⟨_,ts.heap,_,m1,by unfold bQ;simp only[jT,sG,hint,if_false,lT,s1,List.length_nil,if_true,Bool.false_eq_true],f1,f4,f2,f3,BX,fun c hc=>by simp[bW] at hc⟩
            ·obtain⟨m1,f1,f2,f3,f4⟩:=gV hr (b::is) (k:=k&&ex) (ex:=false) (x:=false) zC s2 hn hz h0 (by simp);refine⟨_,ts.heap++[.cells .own new],_,m1,?_,f1,f4,f2,f3,Lj (c:=c) (.inr p0.2) (bU p1),fun c hc=>by simp[bW] at hc⟩;have jh:aQ size ts.heap (.slc c off 0 0 size true)=some (0,[]):=(by simp[aQ]);unfold bQ;simp only[jT,sG,hint,if_false,lT,s1,Bool.false_eq_true,Kz,hn,s2,if_true,Nat.zero_add,Nat.le_zero_eq,dQ rY (show rows.length<=aO by omega),jh,Option.map_some,List.nil_append]
           | some p1 p2 p3 p4 p5 p6 p7 p8 p9=>
            rename_i c sz xx kk cs;rw[hz] at p2;cases p2;have iZ:(MB.bK (TV.slc c 0 l2.length l2.length size xx)).own=some c:=by simp only[MB.own];rw[if_neg (by simpa using p1)]
            by_cases hn:rows=[]
            ·subst hn;simp only[List.append_nil];obtain⟨m1,f0,f1,f2,f3,f4⟩:=xE (pb:=.list (k&&ex) false t' l2) hr is g1 iZ iZ rfl (fun _ _=>rfl) (fun cs hc=>⟨cs,hc,Nat.le_refl _⟩) (fun hF hU=>LR.some p1 hz p3 p4 p5 (fun hk=>p6 (by simp at hk;exact hk.1)) (by simp) p8 (p9.step hF hU));exact⟨_,ts.heap,_,m1,by unfold bQ;simp only[jT,sG,hint,if_false,lT,s1,List.length_nil,if_true,Bool.false_eq_true],f1,.own f4 rfl,f2,f3,BX,fun c hc=>by simp[bW] at hc⟩
            ·have hle:¬l2.length+rows.length<=l2.length:=by
              have:rows.length≠0:=fun e0=>hn (Kz.1 e0);omega
             have dZ:l2++rows≠[]:=(by simp[p1]);cases xx with
             | true=>
              have hold:aQ size ts.heap (.slc c 0 l2.length l2.length size true)=some (l2.length,cs):=by
               simp only[aQ,if_true];rw[if_neg (fun e0=>p1 (List.length_eq_zero_iff.1 e0)),ny p4 (by omega)];simp only[sub];rw[if_pos (by omega),List.drop_zero,List.take_of_length_le (by omega)];rfl
              have hw1:aW X P (FA A m (b::is)) (aS (b::is) m) ts.heap t' l2 cs 0 size:=(p9.mono fun c hc=>.inl hc).dW hX;obtain⟨m1,f1,f2,f3,f4⟩:=gV hr (b::is) (k:=k&&ex) (ex:=false) (x:=false) (hw1.app zC p8) (by rw[List.length_append,List.length_append,Nat.add_mul,p8,s2]) dZ hz h0 (by simp);refine⟨_,ts.heap++[.cells .own (cs++new)],_,m1,?_,f1,f4,f2,f3,Lj (c:=c) (.inl (dw g1 iZ)) (List.getElem?_eq_some_iff.1 p4).1,fun c hc=>by simp[bW] at hc⟩;unfold bQ;simp only[jT,sG,hint,if_false,lT,s1,Bool.false_eq_true,Kz,hn,s2,if_true,hle,dQ rY lS,hold,Option.map_some,List.length_append]
             | false=>
              have hex:ex=false:=by cases ex with
               | true=>exact absurd (p7 rfl) (by simp)
               | false=>rfl
              subst hex;have aN:=(List.getElem?_eq_some_iff.1 p4).1;obtain⟨m1,f0,f1,f2,f3,f4⟩:=xE (pb:=.list (k&&false) false t' (l2++rows)) (h1:=ts.heap.set c (.cells kk.more (cs++new))) (BM:=.bK (.slc c 0 (l2.length+rows.length) (l2.length+rows.length) size false)) hr is g1 iZ
               (by simp only[MB.own];rw[if_neg (by omega)]) (by simp) (fun d hd=>List.getElem?_set_ne (Ne.symm hd)) (fun WU Gn=>⟨cs++new,by simp[aB,aN],by
                simp only[aB,p4,Option.some.injEq] at Gn;subst Gn;simp⟩) (fun hF hU=>by
                have FI:=gU (h:=ts.heap) (b::is) m;have DC:∀ q cs',FA A m is q->aB ts.heap q=some cs'->AA A (aS (b::is) m++[.bK (.slc c 0 (l2.length+rows.length) (l2.length+rows.length) size false)]) q∧(ts.heap.set c (.cells kk.more (cs++new)))[q]? = ts.heap[q]?:=fun q cs' hq hc=>by
                 have Qq:q≠c:=fun e0=>by
                  subst e0;rcases hq with hq | ⟨i,mb,e1,e2,e3⟩
                  ·exact hq.2 (aC g1 iZ)
                  ·have:=dI hr.nodup g1 e2 iZ e3;subst this;exact Lr (by simpa using e1)
                 have hg:=FA.gone hr (FA.mono (js:=b::is) (fun i hi=>List.mem_cons_of_mem _ hi) hq);refine⟨⟨hg.1,fun hm=>?_⟩,List.getElem?_set_ne (Ne.symm Qq)⟩;rw[dK,List.mem_append,fG] at hm;rcases hm with hm | hm
                 ·exact hg.2 hm
                 ·simp only[MB.own] at hm;rw[if_neg (by omega)] at hm;simp at hm;exact Qq hm
                have:=LR.some (X:=X) (P:=P) (A:=AA A (aS (b::is) m++[.bK (.slc c 0 (l2.length+rows.length) (l2.length+rows.length) size false)])) (m:=aS (b::is) m++[.bK (.slc c 0 (l2.length+rows.length) (l2.length+rows.length) size false)]) (h:=ts.heap.set c (.cells kk.more (cs++new))) (k:=k&&false) (ex:=false) (t:=t') (l:=l2++rows) (b:=c) (sz:=size) (e:=false) (kk:=kk.more) (cs:=cs++new)
                 dZ hz h0 (by simp[aN]) (by cases kk<;>simp[BK.more]) (by simp) (by simp) (by rw[List.length_append,List.length_append,Nat.add_mul,p8,s2]) ((p9.step hF hU).app (s3.move hX DC) p8)
                rw[List.length_append] at this;exact this)
              refine⟨_,ts.heap.set c (.cells kk.more (cs++new)),⟨false,.h c::aF tx,[.h c]⟩,m1,?_,f1,.own f4 rfl,f2,f3,⟨fun h=>(by cases h),fun j hj=>?_,fun j hj=>(by simp at hj),fun d hd=>?_,fun d hd=>?_,fun h=>(by cases h)⟩,fun d hd=>?_⟩
              ·unfold bQ;simp only[jT,sG,hint,if_false,lT,s1,Bool.false_eq_true,Kz,hn,s2,if_true,hle,dQ rY lS,p4,ne_eq,not_true_eq_false,p5,p8,List.length_eq_zero_iff,p1,or_self]
              ·rcases List.mem_cons.1 hj with e0 | e0
               ·cases e0
               ·exact absurd e0 fD
              ·simp at hd;subst hd;exact .inl ⟨b,by simp,dw g1 iZ⟩
              ·rcases List.mem_cons.1 hd with e0 | e0
               ·cases e0;exact⟨.inl ⟨b,List.mem_cons_self,dw g1 iZ⟩,aN⟩
               ·obtain⟨h0,h9⟩:=jc hr hx hz hs e0;rcases h0 with⟨i,h1,h2⟩ | h1
                ·exact⟨.inl ⟨i,List.mem_cons_of_mem _ h1,h2⟩,h9⟩
                ·exact⟨.inr h1,h9⟩
              ·simp at hd;subst hd;exact aC g1 iZ
         | _=>exact g2.elim
        ·cases hl
       ·cases hl
      ·-- a full frozen list
       rename_i t' l;split at hl
       ·rename_i l2 tZ;obtain⟨rfl,rfl⟩:=jm tZ;simp only[Option.some.injEq,Prod.mk.injEq] at hl;obtain⟨rfl,rfl,rfl,rfl⟩:=hl;have lS:l2.length+rows.length<=aO:=hq _ List.mem_cons_self;have FH:l2=[]∨rows≠[]:=hq _ (List.mem_cons_of_mem _ List.mem_cons_self);cases hd with
        | gone hi _ _=>simp[aG] at hi
        | jZ=>
         simp only[List.nil_append];by_cases hn:rows=[]
         ·subst hn;obtain⟨m1,f1,f2,f3,f4⟩:=EC hr is (k:=true) (ex:=false) (e:=t');exact⟨_,ts.heap,_,m1,by unfold bQ;simp only[jT,sG,hint,if_false,lT,s1,List.length_nil,if_true,Bool.false_eq_true],f1,f4,f2,f3,hk0,fun c hc=>by simp[bW] at hc⟩
         ·obtain⟨m1,f1,f2,f3,f4⟩:=gV hr is (k:=true) (ex:=false) (x:=false) s3 s2 hn hz h0 (by simp);refine⟨_,ts.heap++[.cells .own new],_,m1,?_,f1,f4,f2,f3,hk0,fun c hc=>by simp[bW] at hc⟩;unfold bQ;simp only[jT,sG,hint,if_false,lT,s1,Bool.false_eq_true,Kz,hn,s2,if_true,dQ rY (show rows.length<=aO by omega)]
        | bK p1 p2 p2' p3 p4 p5 p6 p7 p8 p9=>
         rename_i c off cap sz xx cs;rw[hz] at p3;cases p3;obtain⟨rfl,rfl⟩:=p7 rfl;have hk3:IR m ts.heap ⟨bW (oW X x),false,false,true⟩ (bW (.h c::aF tx)):=IR.reads rfl (fun d hd=>by
          rcases List.mem_cons.1 hd with e0 | e0
          ·cases e0;exact⟨.inr p1.2,bU p2⟩
          ·exact jc hr hx hz hs e0) fun j hj=>by
           rcases List.mem_cons.1 hj with e0 | e0
           ·cases e0
           ·exact fD e0
         by_cases hn:rows=[]
         ·have kF:l2=[]:=by rcases FH with h1 | h1;exact h1;exact absurd hn h1
          subst hn;subst kF;obtain⟨m1,f1,f2,f3,f4⟩:=push_empty hr is (k:=true) (ex:=false) hz h0 (.inl p1) p2 (by simpa using p5);exact⟨_,ts.heap,_,m1,by unfold bQ;simp only[jT,sG,hint,if_false,lT,s1,List.length_nil,if_true,Bool.false_eq_true],f1,f4,f2,f3,hk0,fun c hc=>by simp[bW] at hc⟩
         ·have hle:¬l2.length+rows.length<=l2.length:=by
           have:rows.length≠0:=fun e0=>hn (Kz.1 e0);omega
          have hw1:aW X P (FA A m is) (aS is m) ts.heap t' l2 ((cs.drop off).take (l2.length*size)) 0 size:=by
           have hh:aW X P (AA A m) m ts.heap t' l2 cs off size:=⟨p8,p5,p9⟩;exact (hh.take.mono fun c hc=>.inl hc).dW hX
          have hlen:((cs.drop off).take (l2.length*size)).length=l2.length*size:=by rw[List.length_take,List.length_drop];omega
          obtain⟨m1,f1,f2,f3,f4⟩:=gV hr is (k:=true) (ex:=false) (x:=false) (hw1.app s3 hlen) (by rw[List.length_append,List.length_append,Nat.add_mul,hlen,s2]) (by simp[hn]) hz h0 (by simp);refine⟨_,ts.heap++[.cells .own ((cs.drop off).take (l2.length*size)++new)],_,m1,?_,f1,f4,f2,f3,hk3,fun c hc=>by simp[bW] at hc⟩;have jh:aQ size ts.heap (.slc c off l2.length l2.length size true)=some (l2.length,(cs.drop off).take (l2.length*size)):=by
           simp only[aQ,if_true,sub];by_cases kF:l2.length=0
           ·rw[if_pos kF,kF,Nat.zero_mul,List.take_zero]
           ·rw[if_neg kF,p2' (fun e0=>kF (by rw[e0];rfl))];simp only;rw[if_pos p5];rfl
          unfold bQ;simp only[jT,sG,hint,if_false,lT,s1,Bool.false_eq_true,Kz,hn,s2,if_true,hle,dQ rY lS,jh,Option.map_some,List.length_append]
       ·cases hl
      ·cases hl
     ·cases hl
    ·cases hl
   ·cases hl
 ·cases hl
end
open Go Tw
theorem Bc {α:Type} {l rows:List α} {o k:Nat} (h:o+k<=l.length) (hk:k<=rows.length):(yG l o k rows).length=l.length:=by
 unfold yG;simp;omega
theorem Rj {α:Type} {l rows:List α} {o:Nat}:yG l o 0 rows=l:=by unfold yG;simp
section
variable {X:iQ} {P:Program} {A F:Nat->Prop} {m m':List MB} {h h':List HB} {H H':List (PB X.Γ)}
theorem aW.put {t sz o k:Nat} {l rows:List (X.Γ t)} {cs new:List TV} (h1:aW X P F m h t l cs 0 sz) (h2:aW X P F m h t rows new 0 sz) (hc:cs.length=l.length*sz) (hn:new.length=rows.length*sz) (ho:o+k<=l.length) (hk:k<=rows.length) :
  aW X P F m h t (yG l o k rows) (cs.take (o*sz)++new.take (k*sz)++cs.drop (o*sz+k*sz)) 0 sz:=by
 have a1:=(h1.part (o:=0) (n:=o) (by omega)).take;have a2:=(h2.part (o:=0) (n:=k) (by omega)).take;have a3:=(h1.part (o:=o+k) (n:=l.length-(o+k)) (by omega)).take;have l1:((l.drop 0).take o).length=o:=by simp;omega
 have l2:((rows.drop 0).take k).length=k:=by simp;omega
 have l3:((l.drop (o+k)).take (l.length-(o+k))).length=l.length-(o+k):=by simp
 rw[l1] at a1;rw[l2] at a2;rw[l3] at a3;simp only[Nat.zero_mul,Nat.add_zero,Nat.zero_add,List.drop_zero] at a1 a2 a3;have m1:o*sz<=cs.length:=by rw[hc];exact Nat.mul_le_mul_right _ (by omega)
 have m2:k*sz<=new.length:=by rw[hn];exact Nat.mul_le_mul_right _ hk
 have r:=(a1.app a2 (by rw[List.length_take,List.length_take];rw[Nat.min_eq_left m1,Nat.min_eq_left (by omega)])).app a3 (by
  simp only[List.length_append,List.length_take];rw[Nat.min_eq_left m1,Nat.min_eq_left m2,Nat.min_eq_left (by omega),Nat.min_eq_left hk,Nat.add_mul])
 have e1:l.drop (o+k)=(l.drop (o+k)).take (l.length-(o+k)):=by rw[List.take_of_length_le (by simp)]
 have e2:cs.drop (o*sz+k*sz)=(cs.drop ((o+k)*sz)).take ((l.length-(o+k))*sz):=by
  rw[Nat.add_mul,List.take_of_length_le];rw[List.length_drop,hc,Nat.sub_mul,Nat.add_mul];omega
 unfold yG;rw[e1,e2];exact r
theorem vF (hX:aX X P) {ps:aV X.Γ} {ts:St} (hR:nR X P A m ps ts) {at_:Array TypeId} {st e size b o n:Nat} {k0 ex:Bool} {l rows:List (X.Γ e)} {x:PV X.Γ} {td tx:TV} (jT:at_[0]? = some st) (lT:dM P st=some (e,size)) (hx:VR X P (AA A m) m ts.heap x tx)
  (hs:oV X ps.heap e size x=some (rows,[])) (hb:ps.heap[b]? = some (.list k0 ex e l)) {mb:MB} (g1:m[b]? = some mb) (g2:BR X P (AA A m) m ts.heap (.list k0 ex e l) mb)
  (htd:(∃ c WS xx' xx cap,mb=.bK (.slc c 0 l.length l.length WS xx')∧l≠[]∧td=.slc c (o*WS) n cap WS xx∧(n=0∨o+cap=l.length))∨(n=0∧(td=.nil .slc∨∃ c f cap xx,td=.slc c f 0 cap size xx))) (hon:o+n<=l.length) (DI:isStr tx=false) :
  FX X P A m ts (xK P at_ ts td tx) (.int .i64 ((min rows.length n:Nat):Int)) (ps.heap.set b (.list k0 ex e (yG l o (min rows.length n) rows))) ⟨⟨false,.h b::oW X x,[.h b]⟩,false,false,true⟩:=by
 have hr:=hR.heap;obtain⟨hz,h0⟩:=fH lT;obtain⟨new,s1,s2,s3⟩:=yP (m':=m) hX hr hx hz hs;have zC:aW X P (AA A m) m ts.heap e rows new 0 size:=s3.mono fun q hq=>by
  rcases hq with hq | ⟨i,_,hi,_⟩
  ·exact hq
  ·simp at hi
 have BX:IR m ts.heap ⟨⟨false,.h b::oW X x,[.h b]⟩,false,false,true⟩ (bW (aF tx)):=IR.reads rfl (fun d hd=>by
  obtain⟨h0,h9⟩:=jc hr hx hz hs hd;rcases h0 with⟨i,h1,h2⟩ | h1
  ·exact⟨.inl ⟨i,List.mem_cons_of_mem _ h1,h2⟩,h9⟩
  ·exact⟨.inr h1,h9⟩) fun j hj=>fD hj
 have same:ps.heap.set b (.list k0 ex e l)=ps.heap:=by
  apply List.ext_getElem?;intro i;by_cases e:b=i
  ·subst e;rw[List.getElem?_set_self (List.getElem?_eq_some_iff.1 hb).1,hb]
  ·rw[List.getElem?_set_ne e]
 by_cases hk:min rows.length n=0
 ·rw[hk,Rj,same];refine⟨.int .i64 0,ts.heap,bW (aF tx),m,?_,hr,.int _ _,.refl,.refl,BX,fun c hc=>by simp[bW] at hc⟩;unfold xK;simp only[jT,lT,s1,s2,DI,and_self,if_true];rcases htd with⟨c,WS,xx',xx,cap,rfl,dZ,rfl,qM⟩ | ⟨rfl,rfl | ⟨c,f,cap,xx,rfl⟩⟩
  ·have:WS=size:=by cases g2 with | some _ q2 _ _ _ _ _ _ _=>rw[hz] at q2;cases q2;rfl | emp=>exact absurd rfl dZ
   simp only[this,if_true,hk]
  ·rfl
  ·simp only[if_true,hk]
 ·rcases htd with⟨c,WS,xx',xx,cap,rfl,dZ,rfl,qM⟩ | ⟨rfl,_⟩
  ·cases g2 with
   | emp=>exact absurd rfl dZ
   | some p1 p2 p3 p4 p5 p6 p7 p8 p9=>
    rename_i kk cs;rw[hz] at p2;cases p2;obtain⟨oM,qJ,a1J,hko⟩:=zY p5;have UE:o*size+cap*size=cs.length:=by
     have:=qM.resolve_left (by omega);rw[p8,<-this,Nat.add_mul]
    have aN:=(List.getElem?_eq_some_iff.1 p4).1;have iZ:(MB.bK (TV.slc c 0 l.length l.length size xx')).own=some c:=by simp only[MB.own];rw[if_neg (by simpa using p1)]
    have hkn:o+min rows.length n<=l.length:=(by omega);have hkr:min rows.length n<=rows.length:=Nat.min_le_left _ _;have m1:o*size+min rows.length n*size<=cs.length:=by rw[p8,<-Nat.add_mul];exact Nat.mul_le_mul_right _ hkn
    have m2:min rows.length n*size<=new.length:=by rw[s2];exact Nat.mul_le_mul_right _ hkr
    have m3:min (min rows.length n*size) (rows.length*size)=min rows.length n*size:=Nat.min_eq_left (by rw[<-s2];exact m2);have XE:=aW.put p9 zC p8 s2 hkn hkr;have pG:(cs.take (o*size)++new.take (min rows.length n*size)++cs.drop (o*size+min rows.length n*size)).length=cs.length:=by simp;omega
    have hl:=Bc (rows:=rows) hkn hkr;obtain⟨q1,q2⟩:=hr.set (i:=b) (c:=c) (pb:=.list k0 ex e (yG l o (min rows.length n) rows)) (hb:=.cells oM (cs.take (o*size)++new.take (min rows.length n*size)++cs.drop (o*size+min rows.length n*size))) g1 iZ
     (fun WU Gn=>⟨_,by simp only[aB];rw[List.getElem?_set_self aN],by
      simp only[aB,p4,Option.some.injEq] at Gn;subst Gn;rw[pG];exact Nat.le_refl _⟩)
     (fun hF=>by
      have WZ:yG l o (min rows.length n) rows≠[]:=fun e0=>by rw[e0] at hl;simp at hl;exact p1 (List.length_eq_zero_iff.1 hl.symm)
      have r:=LR.some (k:=k0) (ex:=ex) (e:=xx') WZ hz p3 (by rw[List.getElem?_set_self aN]) a1J (fun e0=>hko (p6 e0)) p7 (by rw[pG,hl,p8]) (XE.step hF .refl);rw[hl] at r;exact r)
    refine⟨.int .i64 ((min rows.length n:Nat):Int),_,⟨false,.h c::aF tx,[.h c]⟩,m,?_,q1,.int _ _,q2,.refl,?_,fun d hd=>?_⟩
    ·unfold xK;simp only[jT,lT,s1,s2,DI,and_self,if_true,hk,if_false,IW p4 qJ UE,lX,List.length_take,m3,m1,Option.map_some]
    ·refine⟨fun h=>(by cases h),fun k hk=>?_,fun k hk=>(by simp at hk),fun d hd=>?_,fun d hd=>?_,fun h=>(by cases h)⟩
     ·rcases List.mem_cons.1 hk with e0 | e0
      ·cases e0
      ·exact absurd e0 fD
     ·simp at hd;subst hd;exact .inl ⟨b,List.mem_cons_self,dw g1 iZ⟩
     ·rcases List.mem_cons.1 hd with e0 | e0
      ·cases e0;exact⟨.inl ⟨b,List.mem_cons_self,dw g1 iZ⟩,aN⟩
      ·obtain⟨h0,h9⟩:=jc hr hx hz hs e0;rcases h0 with⟨i,h1,h2⟩ | h1
       ·exact⟨.inl ⟨i,List.mem_cons_of_mem _ h1,h2⟩,h9⟩
       ·exact⟨.inr h1,h9⟩
    ·simp at hd;subst hd;exact aC g1 iZ
  ·simp at hk
theorem UF (hr:HR X P A m H h) {e sz:Nat} {x:PV X.Γ} {tx:TV} (hv:VR X P (AA A m) m h x tx) {rows:List (X.Γ e)} {is:List Nat} (hs:oV X H e sz x=some (rows,is)):isStr tx=false:=by
 cases hv with
 | own e' _=>
  unfold oV at hs;simp only at hs;split at hs
  ·rename_i hb;obtain⟨mb,g1,g2⟩:=hr.at_ _ _ hb;rw[e'] at g1;cases g1;cases g2<;>rfl
  cases hs
 | gone hi e' _=>
  cases x<;>simp only[aG,Option.some.injEq] at hi<;>first | cases hi | skip
  all_goals (unfold oV at hs;simp only at hs)
  all_goals first | (cases hs;done) | skip
  all_goals
   split at hs
   ·rename_i hb;obtain⟨mb,g1,g2⟩:=hr.at_ _ _ hb;rw[g1] at e';cases e'<;>exact g2.elim
   ·cases hs
 | str=>simp[oV] at hs
 | _=>rfl
theorem aW.vrs {t sz:Nat}:∀ {l:List (X.Γ t)} {cs:List TV},aW X P F m h t l cs 0 sz->cs.length=l.length*sz->aH X P F m h (a1x X t l) cs
 | [],cs,_,hl=>by
  have:cs=[]:=List.length_eq_zero_iff.1 (by simpa using hl);subst this;exact .nil
 | a::r,cs,hw,hl=>by
  have h1:=hw.row (j:=0) (a:=a) rfl;have h2:=(hw.part (o:=1) (n:=r.length) (by simp;omega)).take;have e1:((a::r).drop 1).take r.length=r:=by simp
  rw[e1] at h2;have hl':cs.length=r.length*sz+sz:=by rw[hl,List.length_cons,Nat.add_mul,Nat.one_mul]
  have e2:(cs.drop (0+1*sz)).take (r.length*sz)=cs.drop sz:=by
   rw[Nat.zero_add,Nat.one_mul,List.take_of_length_le];rw[List.length_drop];omega
  rw[e2] at h2;have h3:=aW.vrs h2 (by rw[List.length_drop];omega);have h4:aH X P F m h (X.enc t a) (cs.take sz):=by
   have:=h1.1;simpa using this
  have:=h4.app h3;rw[List.take_append_drop] at this;exact this
theorem Io (hX:aX X P) {ps:aV X.Γ} {ts:St} (hR:nR X P A m ps ts) {at_:Array TypeId} {d x:PV X.Γ} {td tx:TV} (hd:VR X P (AA A m) m ts.heap d td) (hx:VR X P (AA A m) m ts.heap x tx) {v:PV X.Γ} {H1:List (PB X.Γ)} {pi:gu}
  (hl:Ui X P at_ ps.heap d x=some (v,H1,pi)):FX X P A m ts (xK P at_ ts td tx) v H1 ⟨pi,false,false,true⟩:=by
 have hr:=hR.heap;unfold Ui at hl;split at hl
 ·rename_i st jT;split at hl
  ·rename_i e size lT;obtain⟨hz,h0⟩:=fH lT;split at hl
   ·rename_i rows hs;obtain⟨new,s1,s2,s3⟩:=yP (m':=m) hX hr hx hz hs;have DI:isStr tx=false:=UF hr hx hs;split at hl
    ·simp only[Option.some.injEq,Prod.mk.injEq] at hl;obtain⟨rfl,rfl,rfl⟩:=hl;have:td=.nil .slc:=by
      cases hd with
      | nil=>rfl
      | gone hi _ _=>simp[aG] at hi
     subst this;exact⟨_,ts.heap,_,m,by unfold xK;simp only[jT,lT,s1,s2,DI,and_self,if_true],hr,.int _ _,.refl,.refl,IR.reads rfl (fun b hb=>jc hr hx hz hs hb) fun k=>fD,fun b hb=>by simp[bW] at hb⟩
    ·rename_i b;split at hl
     ·rename_i k0 ex t' l hb;split at hl
      ·rename_i l2 tZ;obtain⟨rfl,rfl⟩:=jm tZ;simp only[Option.some.injEq,Prod.mk.injEq] at hl;obtain⟨rfl,rfl,rfl⟩:=hl;obtain⟨mb,g1,g2⟩:=hr.at_ b _ hb;refine vF (o:=0) (n:=l2.length) hX hR jT lT hx hs hb g1 g2 ?_ (by omega) DI;cases hd with
       | gone hi e' _=>simp only[aG,Option.some.injEq] at hi;subst hi;rw[g1] at e';cases e'<;>exact g2.elim
       | own e' o=>
        rw[g1] at e';cases e';cases g2 with
        | nil=>exact .inr ⟨rfl,.inl rfl⟩
        | emp q1 q2 q3 q4 q5=>rw[hz] at q4;cases q4;exact .inr ⟨rfl,.inr ⟨_,_,_,_,rfl⟩⟩
        | some q1 q2=>rw[hz] at q2;cases q2;exact .inl ⟨_,_,_,_,_,rfl,q1,by rw[Nat.zero_mul],.inr (Nat.zero_add _)⟩
      ·cases hl
     ·cases hl
    ·rename_i b o n;split at hl
     ·rename_i k0 ex t' l hb;split at hl
      ·rename_i l2 tZ;obtain⟨rfl,rfl⟩:=jm tZ;simp only[Option.some.injEq,Prod.mk.injEq] at hl;obtain⟨rfl,rfl,rfl⟩:=hl;obtain⟨mb,g1,g2⟩:=hr.at_ b _ hb;cases hd with
       | gone hi e' _=>simp only[aG,Option.some.injEq] at hi;subst hi;rw[g1] at e';cases e'<;>exact g2.elim
       | win e' o1 o2 o3=>
        rw[g1] at e';cases e';cases g2 with
        | emp q1 q2 q3 q4 q5=>
         rw[hz] at q4;cases q4;have:n=0:=(by omega);subst this;exact vF hX hR jT lT hx hs hb g1 (LR.emp q1 q2 q3 hz q5) (.inr ⟨rfl,.inr ⟨_,_,_,_,rfl⟩⟩) o1 DI
        | some q1 q2 q3 q4 q5 q6 q7 q8 q9=>exact vF hX hR jT lT hx hs hb g1 (LR.some q1 q2 q3 q4 q5 q6 q7 q8 q9) (.inl ⟨_,_,_,_,_,rfl,q1,by rw[Nat.zero_add],.inr o3⟩) o1 DI
       | qg e'=>
        rw[g1] at e';cases e';exact vF hX hR jT lT hx hs hb g1 g2 (.inr ⟨rfl,.inl rfl⟩) (by omega) DI
      ·cases hl
     ·cases hl
    ·rename_i b off len cap sz xx;split at hl
     ·rename_i cs hb;split at hl
      ·rename_i hc;obtain⟨RY,Gn⟩:=hc;subst RY;simp only[Option.map_eq_some_iff,Prod.mk.injEq] at hl;obtain⟨Jm,h1,rfl,rfl,rfl⟩:=hl;obtain⟨mb,g1,g2⟩:=hr.at_ b _ hb;cases mb with
       | cO c=>
        obtain⟨cs',g3,g4⟩:=g2;cases hd with
        | gone hi e _=>simp only[aG,Option.some.injEq] at hi;subst hi;rw[g1] at e;cases e
        | slc e=>
         rw[g1] at e;cases e;have zC:aW X P (AA A m) m ts.heap _ rows new 0 sz:=s3.mono fun q hq=>by
          rcases hq with hq | ⟨i,_,hi,_⟩
          ·exact hq
          ·simp at hi
         have hv:=(zC.vrs s2).take (min rows.length len*sz);obtain⟨A8,g5,g6⟩:=yK g4 hv h1;have hlen:A8.length=cs'.length:=by
          unfold lX at g5;split at g5
          ·cases g5;simp only[List.length_append,List.length_take,List.length_drop] at *;omega
          ·cases g5
         have aN:=(List.getElem?_eq_some_iff.1 g3).1;obtain⟨hr1,hF⟩:=hr.set (pb:=.cells Jm) (hb:=.cells .own A8) g1 (c:=c) rfl (fun WU Kw=>⟨A8,by simp[aB,aN],by
          simp only[aB,g3,Option.some.injEq] at Kw;subst Kw;omega⟩) fun hF=>⟨A8,by simp[aN],g6.step hF .refl⟩
         refine⟨.int .i64 ((min rows.length len:Nat):Int),_,⟨false,.h c::aF tx,[.h c]⟩,m,?_,hr1,.int _ _,hF,.refl,?_,fun d hd=>?_⟩
         ·unfold xK;simp only[jT,lT,s1,s2,DI,and_self,if_true];rw[if_neg (by omega),Kr g3,g5];rfl
         ·refine⟨fun h=>(by cases h),fun k hk=>?_,fun k hk=>(by simp at hk),fun d hd=>?_,fun d hd=>?_,fun h=>(by cases h)⟩
          ·rcases List.mem_cons.1 hk with e0 | e0
           ·cases e0
           ·exact absurd e0 fD
          ·simp at hd;subst hd;exact .inl ⟨b,List.mem_cons_self,dw g1 rfl⟩
          ·rcases List.mem_cons.1 hd with e0 | e0
           ·cases e0;exact⟨.inl ⟨b,List.mem_cons_self,dw g1 rfl⟩,aN⟩
           ·obtain⟨h0,h9⟩:=jc hr hx hz hs e0;rcases h0 with⟨i,h1,h2⟩ | h1
            ·exact⟨.inl ⟨i,List.mem_cons_of_mem _ h1,h2⟩,h9⟩
            ·exact⟨.inr h1,h9⟩
         ·simp at hd;subst hd;exact aC g1 rfl
       | _=>exact g2.elim
      ·cases hl
     ·cases hl
    ·cases hl
   ·cases hl
  ·cases hl
 ·cases hl
end
open Go Tw
section
variable {X:iQ} {P:Program} {A:Nat->Prop} {m:List MB}
theorem KA (hX:aX X P) {ps:aV X.Γ} {ts:St} (hR:nR X P A m ps ts) {at_:Array TypeId} {d x:PV X.Γ} {td tx:TV} (hd:VR X P (AA A m) m ts.heap d td) (hx:VR X P (AA A m) m ts.heap x tx) {v:PV X.Γ} {H1:List (PB X.Γ)} {pi:gu} {qs:List Prop}
  (hl:zV X P at_ ps.heap d x=some (v,H1,pi,qs)) (hq:∀ q∈qs,q):FX X P A m ts (bQ P at_ ts td tx) v H1 ⟨pi,false,false,true⟩:=by
 have hr:=hR.heap;unfold zV at hl;split at hl
 ·rename_i st xt jT sG;split at hl
  ·cases hl
  rename_i hint;split at hl
  ·rename_i e size lT;obtain⟨hz,h0⟩:=fH lT;split at hl
   ·rename_i rows hs;obtain⟨new,s1,s2,s3⟩:=yP (m':=m) hX hr hx hz hs;split at hl
    ·rename_i b n;split at hl
     ·rename_i k0 ex t' l hb;split at hl
      ·rename_i l2 tZ;obtain⟨rfl,rfl⟩:=jm tZ;simp only[Option.some.injEq,Prod.mk.injEq] at hl;obtain⟨rfl,rfl,rfl,rfl⟩:=hl;have lS:rows≠[]:=hq _ List.mem_cons_self;have FH:n+rows.length<=l2.length:=hq _ (List.mem_cons_of_mem _ List.mem_cons_self);have WO:rows.length≠0:=fun e0=>lS (List.length_eq_zero_iff.1 e0);obtain⟨mb,g1,g2⟩:=hr.at_ b _ hb;have zC:aW X P (AA A m) m ts.heap t' rows new 0 size:=s3.mono fun q hq=>by
        rcases hq with hq | ⟨i,_,hi,_⟩
        ·exact hq
        ·simp at hi
       cases hd with
       | gone hi e' _=>simp only[aG,Option.some.injEq] at hi;subst hi;rw[g1] at e';cases e'<;>exact g2.elim
       | qg e'=>
        rw[g1] at e';cases e';cases g2 with
        | nil=>(simp only[List.length_nil] at FH;omega)
       | @win _ _ _ c off len cap0 cap sz xx e' o1 o2 o3=>
        rw[g1] at e';cases e';cases g2 with
        | emp q1 q2 q3 q4 q5=>(simp only[List.length_nil] at FH;omega)
        | some p1 p2 p3 p4 p5 p6 p7 p8 p9=>
         rename_i kk cs;rw[hz] at p2;cases p2;obtain⟨oM,qJ,a1J,hko⟩:=zY p5;have UE:0+0*size+cap*size=cs.length:=by rw[p8,<-o3];simp
         have aN:=(List.getElem?_eq_some_iff.1 p4).1;have iZ:(MB.bK (TV.slc c 0 l2.length l2.length size xx)).own=some c:=by simp only[MB.own];rw[if_neg (by simpa using p1)]
         have m1:n*size+rows.length*size<=cs.length:=by rw[p8,<-Nat.add_mul];exact Nat.mul_le_mul_right _ FH
         have XE:=aW.put (k:=rows.length) p9 zC p8 s2 FH (Nat.le_refl _);rw[List.take_of_length_le (show new.length<=rows.length*size by omega)] at XE;have pG:(cs.take (n*size)++new++cs.drop (n*size+rows.length*size)).length=cs.length:=by simp;omega
         have hl:=Bc (rows:=rows) (k:=rows.length) FH (Nat.le_refl _);obtain⟨q1,q2⟩:=hr.set (i:=b) (c:=c) (pb:=.list k0 ex t' (yG l2 n rows.length rows)) (hb:=.cells oM (cs.take (n*size)++new++cs.drop (n*size+rows.length*size))) g1 iZ
          (fun WU Gn=>⟨_,by simp only[aB];rw[List.getElem?_set_self aN],by
           simp only[aB,p4,Option.some.injEq] at Gn;subst Gn;rw[pG];exact Nat.le_refl _⟩)
          (fun hF=>by
           have WZ:yG l2 n rows.length rows≠[]:=fun e0=>by rw[e0] at hl;simp at hl;exact p1 (List.length_eq_zero_iff.1 hl.symm)
           have r:=LR.some (k:=k0) (ex:=ex) (e:=xx) WZ hz p3 (by rw[List.getElem?_set_self aN]) a1J (fun e0=>hko (p6 e0)) p7 (by rw[pG,hl,p8]) (XE.step hF .refl);rw[hl] at r;exact r)
         refine⟨.slc c (0+0*size) (n+rows.length) cap size xx,_,⟨false,.h c::aF tx,[.h c]⟩,m,?_,q1,.win g1 (by omega) (by omega) o3,q2,.refl,?_,fun d hd=>?_⟩
         ·unfold bQ;simp only[jT,sG,hint,if_false,lT,s1,Bool.false_eq_true,WO,s2,if_true];rw[if_pos (by omega),IW p4 qJ UE];have e1:0+0*size+n*size=n*size:=(by simp);rw[e1];unfold lX;rw[if_pos (by omega),s2];rfl
         ·refine⟨fun h=>(by cases h),fun k hk=>?_,fun k hk=>(by simp at hk),fun d hd=>?_,fun d hd=>?_,fun h=>(by cases h)⟩
          ·rcases List.mem_cons.1 hk with e0 | e0
           ·cases e0
           ·exact absurd e0 fD
          ·simp at hd;subst hd;exact .inl ⟨b,List.mem_cons_self,dw g1 iZ⟩
          ·rcases List.mem_cons.1 hd with e0 | e0
           ·cases e0;exact⟨.inl ⟨b,List.mem_cons_self,dw g1 iZ⟩,aN⟩
           ·obtain⟨h0,h9⟩:=jc hr hx hz hs e0;rcases h0 with⟨i,h1,h2⟩ | h1
            ·exact⟨.inl ⟨i,List.mem_cons_of_mem _ h1,h2⟩,h9⟩
            ·exact⟨.inr h1,h9⟩
         ·simp at hd;subst hd;exact aC g1 iZ
      ·cases hl
     ·cases hl
    ·cases hl
   ·cases hl
  ·cases hl
 ·cases hl
theorem aW.upto {F:Nat->Prop} {h:List HB} {t sz n:Nat} {l:List (X.Γ t)} {cs:List TV} (hv:aW X P F m h t l cs 0 sz) (hn:n<=l.length):aW X P F m h t (l.take n) (cs.take (n*sz)) 0 sz:=by
 have h1:=(hv.part (o:=0) (n:=n) (by omega)).take;rw[List.drop_zero] at h1;have e1:(l.take n).length=n:=by rw[List.length_take];omega
 rw[e1,Nat.zero_mul,List.drop_zero] at h1;exact h1
theorem NG (hX:aX X P) {ps:aV X.Γ} {ts:St} (hR:nR X P A m ps ts) {at_:Array TypeId} {d x:PV X.Γ} {td tx:TV} (hd:VR X P (AA A m) m ts.heap d td) (hx:VR X P (AA A m) m ts.heap x tx) {v:PV X.Γ} {H1:List (PB X.Γ)} {pi:gu} {qs:List Prop}
  (hl:Em X P at_ ps.heap d x=some (v,H1,pi,qs)) (hq:∀ q∈qs,q):FX X P A m ts (bQ P at_ ts td tx) v H1 ⟨pi,false,false,true⟩:=by
 have hr:=hR.heap;unfold Em at hl;split at hl
 ·rename_i st xt jT sG;split at hl
  ·cases hl
  rename_i hint;split at hl
  ·rename_i e size lT;split at hl
   ·rename_i rY;obtain⟨hz,h0⟩:=fH lT;split at hl
    ·rename_i rows is hs;obtain⟨new,s1,s2,s3⟩:=yP (m':=aS is m) hX hr hx hz hs;have Kz:rows.length=0↔rows=[]:=List.length_eq_zero_iff;split at hl
     ·rename_i b n;split at hl
      ·rename_i k0 ex t' l hb;split at hl
       ·cases hl
       rename_i Lr;split at hl
       ·rename_i l2 tZ;obtain⟨rfl,rfl⟩:=jm tZ;simp only[Option.some.injEq,Prod.mk.injEq] at hl;obtain⟨rfl,rfl,rfl,rfl⟩:=hl;have lS:l2.length<n+rows.length:=hq _ List.mem_cons_self;have FH:n+rows.length<=aO:=hq _ (List.mem_cons_of_mem _ List.mem_cons_self);have hq3:n=0->l2=[]:=hq _ (List.mem_cons_of_mem _ (List.mem_cons_of_mem _ List.mem_cons_self));obtain⟨mb,g1,g2⟩:=hr.at_ b _ hb;have Lj:∀ {c:Nat},xH m b c∨c∉aJ m->c<ts.heap.length->IR m ts.heap ⟨⟨false,.h b::oW X x,[.h b]⟩,false,false,true⟩ (bW (.h c::aF tx)):=fun {c} hc aN=>IR.reads rfl (fun d hd=>by
         rcases List.mem_cons.1 hd with e0 | e0
         ·cases e0;rcases hc with hc | hc
          ·exact⟨.inl ⟨b,List.mem_cons_self,hc⟩,aN⟩
          ·exact⟨.inr hc,aN⟩
         ·obtain⟨h0,h9⟩:=jc hr hx hz hs e0;rcases h0 with⟨i,h1,h2⟩ | h1
          ·exact⟨.inl ⟨i,List.mem_cons_of_mem _ h1,h2⟩,h9⟩
          ·exact⟨.inr h1,h9⟩) fun j hj=>by
           rcases List.mem_cons.1 hj with e0 | e0
           ·cases e0
           ·exact fD e0
        have BX:IR m ts.heap ⟨⟨false,.h b::oW X x,[.h b]⟩,false,false,true⟩ (bW (aF tx)):=IR.reads rfl (fun d hd=>by
         obtain⟨h0,h9⟩:=jc hr hx hz hs hd;rcases h0 with⟨i,h1,h2⟩ | h1
         ·exact⟨.inl ⟨i,List.mem_cons_of_mem _ h1,h2⟩,h9⟩
         ·exact⟨.inr h1,h9⟩) fun j hj=>fD hj
        have zC:aW X P (FA A m (b::is)) (aS (b::is) m) ts.heap t' rows new 0 size:=(s3.mono fun c hc=>FA.mono (fun i hi=>List.mem_cons_of_mem _ hi) hc).dW hX;cases hd with
        | gone hi e' _=>simp only[aG,Option.some.injEq] at hi;subst hi;rw[g1] at e';cases e'<;>exact g2.elim
        | qg e'=>
         rw[g1] at e';cases e';cases g2 with
         | nil=>
          have hn:rows≠[]:=fun e0=>by subst e0;simp at lS
          simp only[List.take_nil,List.nil_append];obtain⟨m1,f1,f2,f3,f4⟩:=gV hr (b::is) (k:=false) (ex:=false) (x:=false) zC s2 hn hz h0 (by simp);refine⟨_,ts.heap++[.cells .own new],_,m1,?_,f1,f4,f2,f3,BX,fun c hc=>by simp[bW] at hc⟩;unfold bQ;simp only[jT,sG,hint,if_false,lT,s1,Bool.false_eq_true,Kz,hn,s2,if_true,dQ rY (show rows.length<=aO by omega)]
        | @win _ _ _ c off len cap0 cap sz xx e' o1 o2 o3=>
         rw[g1] at e';cases e';cases g2 with
         | emp p0 p1 p2 p3 p4=>
          rename_i cs;rw[hz] at p3;cases p3;have hn:rows≠[]:=fun e0=>by subst e0;simp at lS;omega
          have WO:rows.length≠0:=fun e0=>hn (Kz.1 e0);have Oz:n=0:=(by omega);subst Oz;have Xr:cap=0:=(by omega);subst Xr;simp only[List.take_nil,List.nil_append];obtain⟨m1,f1,f2,f3,f4⟩:=gV hr (b::is) (k:=false) (ex:=false) (x:=false) zC s2 hn hz h0 (by simp);refine⟨_,ts.heap++[.cells .own new],_,m1,?_,f1,f4,f2,f3,Lj (c:=c) (.inr p0.2) (bU p1),fun c hc=>by simp[bW] at hc⟩;have jh:aQ size ts.heap (.slc c (off+0*size) 0 0 size true)=some (0,[]):=(by simp[aQ]);unfold bQ;simp only[jT,sG,hint,if_false,lT,s1,Bool.false_eq_true,Kz,hn,s2,if_true,Nat.zero_add,Nat.le_zero_eq,dQ rY (show rows.length<=aO by omega),jh,Option.map_some,List.nil_append]
         | some p1 p2 p3 p4 p5 p6 p7 p8 p9=>
          rename_i kk cs;rw[hz] at p2;cases p2;have iZ:(MB.bK (TV.slc c 0 l2.length l2.length size xx)).own=some c:=by simp only[MB.own];rw[if_neg (by simpa using p1)]
          have pG:cap=l2.length:=(by omega);subst pG;have Oz:n≠0:=fun e0=>p1 (hq3 e0);have hn:rows≠[]:=fun e0=>by subst e0;simp at lS;omega
          have WO:rows.length≠0:=fun e0=>hn (Kz.1 e0);have Si:n<=l2.length:=(by omega);have hle:¬n+rows.length<=l2.length:=(by omega);have aN:=(List.getElem?_eq_some_iff.1 p4).1;have Ij:n*size<=cs.length:=by rw[p8];exact Nat.mul_le_mul_right _ Si
          have TB:(l2.take n).length=n:=by rw[List.length_take];omega
          have hcn:(cs.take (n*size)).length=n*size:=by rw[List.length_take];omega
          have dZ:l2.take n++rows≠[]:=fun e0=>hn (List.append_eq_nil_iff.1 e0).2;have p9n:=p9.upto Si;have e00:0+0*size=0:=(by simp);cases xx with
          | true=>
           have hold:aQ size ts.heap (.slc c (0+0*size) n l2.length size true)=some (n,cs.take (n*size)):=by
            simp only[aQ,if_true];rw[if_neg Oz,e00,ny p4 (by omega)];simp only[sub];rw[if_pos (by omega),List.drop_zero];rfl
           have hw1:aW X P (FA A m (b::is)) (aS (b::is) m) ts.heap t' (l2.take n) (cs.take (n*size)) 0 size:=(p9n.mono fun c hc=>.inl hc).dW hX;obtain⟨m1,f1,f2,f3,f4⟩:=gV hr (b::is) (k:=false) (ex:=false) (x:=false) (hw1.app zC (by rw[hcn,TB])) (by rw[List.length_append,List.length_append,Nat.add_mul,hcn,TB,s2]) dZ hz h0 (by simp);refine⟨_,ts.heap++[.cells .own (cs.take (n*size)++new)],_,m1,?_,f1,f4,f2,f3,Lj (c:=c) (.inl (dw g1 iZ)) aN,fun c hc=>by simp[bW] at hc⟩;unfold bQ;simp only[jT,sG,hint,if_false,lT,s1,Bool.false_eq_true,Kz,hn,s2,if_true,hle,dQ rY FH,hold,Option.map_some,List.length_append,TB]
          | false=>
           obtain⟨oM,cs',jH,Gf,hT⟩:∃ oM cs',oM≠BK.ro∧cs'=cs.take (n*size)++new∧bQ P at_ ts (.slc c (0+0*size) n l2.length size false) tx=some (.slc c 0 (n+rows.length) (n+rows.length) size false,{ ts with heap:=ts.heap.set c (.cells oM cs') },⟨false,.h c::aF tx,[.h c]⟩):=by
            by_cases hnL:n=l2.length
            ·refine⟨kk.more,_,by cases kk<;>simp[BK.more],rfl,?_⟩;rw[hnL,<-p8,List.take_length];have mQ:¬l2.length+rows.length<=l2.length:=(by omega);unfold bQ;simp only[jT,sG,hint,if_false,lT,s1,Bool.false_eq_true,Kz,hn,s2,if_true,mQ,dQ rY (show l2.length+rows.length<=aO by omega),p4,e00,ne_eq,not_true_eq_false,p5,p8,List.length_eq_zero_iff,p1,or_self]
            ·refine⟨.last,_,by simp,rfl,?_⟩;unfold bQ;simp only[jT,sG,hint,if_false,lT,s1,Bool.false_eq_true,Kz,hn,s2,if_true,hle,dQ rY FH,p4,e00];rw[if_pos (.inr (.inr (.inl hnL))),if_neg (by simp only[not_or,ne_eq,Decidable.not_not,Nat.not_le];exact⟨p5,trivial,by omega,p8,Oz⟩)]
           subst Gf;have hex:ex=false:=by cases ex with
            | true=>exact absurd (p7 rfl) (by simp)
            | false=>rfl
           subst hex;have hgr:cs.length<=(cs.take (n*size)++new).length:=by
            rw[List.length_append,hcn,s2,p8,<-Nat.add_mul];exact Nat.mul_le_mul_right _ (by omega)
           obtain⟨m1,f0,f1,f2,f3,f4⟩:=xE (pb:=.list false false t' (l2.take n++rows)) (h1:=ts.heap.set c (.cells oM (cs.take (n*size)++new))) (BM:=.bK (.slc c 0 (n+rows.length) (n+rows.length) size false)) hr is g1 iZ
            (by simp only[MB.own];rw[if_neg (by omega)]) (by simp) (fun d hd=>List.getElem?_set_ne (Ne.symm hd)) (fun WU Gn=>⟨cs.take (n*size)++new,by simp[aB,aN],by
             simp only[aB,p4,Option.some.injEq] at Gn;subst Gn;exact hgr⟩) (fun hF hU=>by
             have FI:=gU (h:=ts.heap) (b::is) m;have DC:∀ q cs',FA A m is q->aB ts.heap q=some cs'->AA A (aS (b::is) m++[.bK (.slc c 0 (n+rows.length) (n+rows.length) size false)]) q∧(ts.heap.set c (.cells oM (cs.take (n*size)++new)))[q]? = ts.heap[q]?:=fun q cs' hq hc=>by
              have Qq:q≠c:=fun e0=>by
               subst e0;rcases hq with hq | ⟨i,mb,e1,e2,e3⟩
               ·exact hq.2 (aC g1 iZ)
               ·have:=dI hr.nodup g1 e2 iZ e3;subst this;exact Lr (by simpa using e1)
              have hg:=FA.gone hr (FA.mono (js:=b::is) (fun i hi=>List.mem_cons_of_mem _ hi) hq);refine⟨⟨hg.1,fun hm=>?_⟩,List.getElem?_set_ne (Ne.symm Qq)⟩;rw[dK,List.mem_append,fG] at hm;rcases hm with hm | hm
              ·exact hg.2 hm
              ·simp only[MB.own] at hm;rw[if_neg (by omega)] at hm;simp at hm;exact Qq hm
             have:=LR.some (X:=X) (P:=P) (A:=AA A (aS (b::is) m++[.bK (.slc c 0 (n+rows.length) (n+rows.length) size false)])) (m:=aS (b::is) m++[.bK (.slc c 0 (n+rows.length) (n+rows.length) size false)]) (h:=ts.heap.set c (.cells oM (cs.take (n*size)++new))) (k:=false) (ex:=false) (t:=t') (l:=l2.take n++rows) (b:=c) (sz:=size) (e:=false) (kk:=oM) (cs:=cs.take (n*size)++new)
              dZ hz h0 (by simp[aN]) jH (by simp) (by simp) (by rw[List.length_append,List.length_append,Nat.add_mul,hcn,TB,s2]) ((p9n.step hF hU).app (s3.move hX DC) (by rw[hcn,TB]))
             rw[List.length_append,TB] at this;exact this)
           refine⟨_,ts.heap.set c (.cells oM (cs.take (n*size)++new)),⟨false,.h c::aF tx,[.h c]⟩,m1,hT,f1,.own f4 rfl,f2,f3,⟨fun h=>(by cases h),fun j hj=>?_,fun j hj=>(by simp at hj),fun d hd=>?_,fun d hd=>?_,fun h=>(by cases h)⟩,fun d hd=>?_⟩
           ·rcases List.mem_cons.1 hj with e0 | e0
            ·cases e0
            ·exact absurd e0 fD
           ·simp at hd;subst hd;exact .inl ⟨b,by simp,dw g1 iZ⟩
           ·rcases List.mem_cons.1 hd with e0 | e0
            ·cases e0;exact⟨.inl ⟨b,List.mem_cons_self,dw g1 iZ⟩,aN⟩
            ·obtain⟨h0,h9⟩:=jc hr hx hz hs e0;rcases h0 with⟨i,h1,h2⟩ | h1
             ·exact⟨.inl ⟨i,List.mem_cons_of_mem _ h1,h2⟩,h9⟩
             ·exact⟨.inr h1,h9⟩
           ·simp at hd;subst hd;exact aC g1 iZ
       ·cases hl
      ·cases hl
     ·cases hl
    ·cases hl
   ·cases hl
  ·cases hl
 ·cases hl
end
open Go Tw
section
variable {X:iQ} {P:Program} {A F:Nat->Prop} {m m':List MB} {h h':List HB} {H H':List (PB X.Γ)}
theorem Xy.a1K {ps:List (Nat×PV X.Γ)} {qs:List (Nat×TV)} (hp:Xy X P A m h ps qs):qs.all (fun p=>p.2.cells.all bV)=ps.all fun p=>p.2.cells.all Nb:=by
 induction ps generalizing qs with
 | nil=>
  have:=hp.1;cases qs with
  | nil=>rfl
  | cons=>simp at this
 | cons a ps ih=>
  obtain⟨x,r,rfl,h1,h2⟩:=hp.inv;simp only[List.all_cons,vw (yJ h1),ih h2]
theorem KC {pl:Nat->Option (Nat×Nat)}:∀ {qs:List (Nat×TV)} {xs r:List TV},kG pl xs qs=some r->r.length=xs.length
 | [],xs,r,h=>by simp only[kG,Option.some.injEq] at h;rw[h]
 | (i,v)::qs,xs,r,h=>by
  simp only[kG] at h;split at h
  ·split at h
   ·split at h
    ·rename_i cs' ho;rw[KC h];unfold lX at ho;split at ho
     ·cases ho;simp only[List.length_append,List.length_take,List.length_drop];omega
     cases ho
    cases h
   cases h
  cases h
theorem iU {z:List TV}:∀ n,(times z n).length=n*z.length
 | 0=>by simp[times]
 | n+1=>by simp[times,iU n,Nat.add_mul];omega
theorem oO (hX:aX X P) {ps:aV X.Γ} {ts:St} (hR:nR X P A m ps ts) {t:TypeId} {len:Nat} {vs:List (Nat×PV X.Γ)} {xs:List (Nat×TV)} (hv:Xy X P (AA A m) m ts.heap vs xs) {v:PV X.Γ} {H1:List (PB X.Γ)}
  (hl:tH X P t len ps.heap vs=some (v,H1)):FX X P A m ts ((iJ P t len ts xs).map fun (v,s)=>(v,s,aA)) v H1 pI:=by
 have hr:=hR.heap;unfold tH at hl;split at hl
 ·rename_i e n lT;obtain⟨hz,h0⟩:=fH lT;split at hl
  ·rename_i hc;split at hl
   ·rename_i z hzz;obtain⟨z',q1,q2⟩:=yN (A:=AA A m) (m:=m) (h:=ts.heap) hzz;split at hl
    ·rename_i OA;split at hl
     ·rename_i cs hf;obtain⟨cs',q3,q4⟩:=CQ hv (Kt q2 len) hf;have hlen:cs'.length=len*n:=(by rw[KC q3,iU,<-q2.1,OA]);have hT:∀ w h1,(w,h1)=(TV.slc ts.heap.length 0 len len n true,ts.heap++[HB.cells .own cs'])->(iJ P t len ts xs).map (fun (v,s)=>(v,s,aA))=some (w,{ ts with heap:=h1 },aA):=by
       intro w h1 e0;cases e0;simp only[iJ,lT,hv.a1K,hc,and_self,if_true,q1,<-q2.1,OA,q3,Option.map_some]
      split at hl
      ·rename_i rows is hd;cases hl;obtain⟨e1,hw⟩:=rF (m':=aS is m) hX hr q4 hd;by_cases hn:rows=[]
       ·subst hn;have e2:len=0:=(by simpa using e1.symm);subst e2;have Qu:cs'=[]:=List.length_eq_zero_iff.1 (by omega);subst Qu;have yR:HR X P A (aS is m++[.bK (.slc ts.heap.length 0 0 0 n true)]) (aK is ps.heap++[.list true true e []]) (ts.heap++[.cells .own []])∧_:=(hr.aK is).push (pb:=.list true true e []) (hb:=.cells .own []) (mb:=.bK (.slc ts.heap.length 0 0 0 n true)) (.inr rfl)
         (LR.emp (b:=ts.heap.length) (cs:=[]) ⟨hr.up _ (Nat.le_refl _),fun hm=>by
          rw[dK,List.mem_append,fG] at hm;simp[MB.own] at hm;have:=(hr.aK is).inb hm;omega⟩ (by simp[aB]) (Nat.le_refl _) hz h0)
        have FI:=gU (h:=ts.heap) is m;refine⟨_,_,_,_,hT _ _ rfl,yR.1,.own ?_ rfl,FI.1.trans yR.2.1,FI.2.trans yR.2.2,.none,fun b hb=>by cases hb⟩;rw[<-hr.len,<-fU is m];simp
       ·have yR:=gV hr is (k:=true) (ex:=true) (x:=true) hw (by rw[hlen,e1]) hn hz h0 (by simp);obtain⟨m1,g1,g2,g3,g4⟩:=yR;refine⟨_,_,_,m1,hT _ _ rfl,g1,?_,g2,g3,.none,fun b hb=>by cases hb⟩;rw[e1] at g4;exact g4
      ·cases hl;have hp:=hr.push (pb:=.cells cs) (hb:=.cells .own cs') (mb:=.cO ts.heap.length) (.inl rfl) ⟨cs',by simp,q4.step (by
        refine⟨by simp,fun b hb _=>by rw[List.getElem?_append_left hb],fun b hb=>?_,fun b cs hc=>⟨cs,by rw[bZ (List.getElem?_append_left (bU hc)),hc],Nat.le_refl _⟩⟩;rw[dK,List.mem_append,fG] at hb;rcases hb with hb | hb
        ·exact .inl hb
        ·simp[MB.own] at hb;exact .inr (by omega)) (nC _)⟩
       exact⟨_,_,_,_,hT _ _ rfl,hp.1,.slc (by rw[<-hr.len];simp),hp.2.1,hp.2.2,.none,fun b hb=>by cases hb⟩
     ·cases hl
    ·cases hl
   ·cases hl
  ·cases hl
 ·cases hl
theorem ED {k:IntKind} {n:Int} {x:TV} (hv:VR X P A m h (.int k n) x):x=.int k n:=by
 cases hv with
 | int=>rfl
 | gone hi _ _=>simp[aG] at hi
theorem KD {t sz:Nat} {a:X.Γ t} {z:List TV} (ha:aH X P F m h (X.enc t a) z) (hz:z.length=sz):∀ n,aW X P F m h t (List.replicate n a) (times z n) 0 sz
 | 0=>⟨fun j a hj=>by simp at hj,by simp,fun j a i c v hj=>by simp at hj⟩
 | n+1=>by
  have h1:aW X P F m h t [a] z 0 sz:=by
   refine⟨fun j b hj=>?_,by simp[hz],fun j b i c v hj hi hx=>?_⟩
   ·cases j with
    | zero=>simp only[List.getElem?_cons_zero,Option.some.injEq] at hj;subst hj;rw[ha.1,hz]
    | succ j=>simp at hj
   cases j with
   | zero=>simp only[List.getElem?_cons_zero,Option.some.injEq] at hj;subst hj;exact ha.2 i c v hi (by simpa using hx)
   | succ j=>simp at hj
  have:=h1.app (KD ha hz n) (by simp[hz]);simpa[List.replicate_succ,times] using this
theorem qO (hX:aX X P) {ps:aV X.Γ} {ts:St} (hR:nR X P A m ps ts) {t:TypeId} {l c:PV X.Γ} {tl tc:TV} (hvl:VR X P (AA A m) m ts.heap l tl) (hvc:VR X P (AA A m) m ts.heap c tc) {v:PV X.Γ} {H1:List (PB X.Γ)} {qs:List Prop}
  (hl:xA X P t ps.heap l c=some (v,H1,qs)) (hq:∀ q∈qs,q):FX X P A m ts ((jC P t ts tl tc).map fun (v,s)=>(v,s,aA)) v H1 pI:=by
 have hr:=hR.heap;unfold xA at hl;split at hl
 ·rename_i e n kl li kc ci lT;obtain⟨hz,h0⟩:=fH lT;rw[ED hvl,ED hvc];split at hl
  ·rename_i rY;split at hl
   ·rename_i z hzz;obtain⟨z',q1,q2⟩:=yN (A:=AA A m) (m:=m) (h:=ts.heap) hzz;split at hl
    ·rename_i OA;split at hl
     ·rename_i a ha;cases hl;have e1:li=ci:=hq _ (by simp);have e2:0<=li:=hq _ (by simp);have e3:li<=(aO:Nat):=hq _ (by simp);subst e1;have hm:li.toNat<=aO:=(by omega);have hm2:aO=2^20:=rfl;have hz2:z'.length=n:=by rw[<-q2.1];exact OA
      have hT:∀ w h1,(w,h1)=(TV.slc ts.heap.length 0 li.toNat li.toNat n true,ts.heap++[HB.cells .own (times z' li.toNat)])->(jC P t ts (.int kl li) (.int kc li)).map (fun (v,s)=>(v,s,aA))=some (w,{ ts with heap:=h1 },aA):=by
       intro w h1 e0;cases e0;have hN:∀ k,Qm (.int k li)=some li.toNat:=fun k=>by
        have h9:li<=2^40:=by
         have:((2^20:Nat):Int)<=2^40:=(by decide);rw[hm2] at e3;omega
        simp only[Qm];rw[if_pos ⟨e2,h9⟩]
       simp only[jC,lT,hN,Nat.le_refl,true_and,dQ rY hm,if_true,q1,hz2,Option.map_some]
      have oU:=KD (m:=m) (h:=ts.heap) (F:=AA A m) (hX.dec ha q2) hz2 li.toNat;have hlen:(times z' li.toNat).length=li.toNat*n:=(by rw[iU,hz2]);by_cases hn:li.toNat=0
      ·rw[hn] at hT ⊢;simp only[List.replicate_zero];have yR:=hr.push (pb:=.list true true e []) (hb:=.cells .own (times z' 0)) (mb:=.bK (.slc ts.heap.length 0 0 0 n true)) (.inr rfl)
         (LR.emp (b:=ts.heap.length) (cs:=times z' 0) ⟨hr.up _ (Nat.le_refl _),fun hm=>by
          rw[dK,List.mem_append,fG] at hm;simp[MB.own] at hm;have:=hr.inb hm;omega⟩ (by simp[aB]) (Nat.zero_le _) hz h0)
       exact⟨_,_,_,_,hT _ _ rfl,yR.1,.own (by rw[<-hr.len];simp) rfl,yR.2.1,yR.2.2,.none,fun b hb=>by cases hb⟩
      ·obtain⟨m1,g1,g2,g3,g4⟩:=gV hr [] (k:=true) (ex:=true) (x:=true) (rows:=List.replicate li.toNat a) (oU.mono fun b hb=>.inl hb) (by rw[List.length_replicate];exact hlen) (by intro e0;exact hn (by simpa using congrArg List.length e0)) hz h0 (by simp);refine⟨_,_,_,m1,hT _ _ rfl,g1,?_,g2,g3,.none,fun b hb=>by cases hb⟩;rw[List.length_replicate] at g4;exact g4
     ·cases hl
    ·cases hl
   ·cases hl
  ·cases hl
 ·cases hl
end
open Go Tw
section
variable {X:iQ} {P:Program} {A F:Nat->Prop} {m m':List MB} {h h':List HB} {H H':List (PB X.Γ)}
theorem rG {o:Option (PV X.Γ)} {to:Option TV} (ho:OR X P A m h o to) {d n:Nat} {a:Int} (he:pX X d o=some a) (h0:0<=a) (h1:a<=n):eU n d to=some a.toNat:=by
 cases o with
 | none=>
  cases to with
  | none=>simp only[pX,Option.some.injEq] at he;subst he;simp[eU]
  | some=>exact ho.elim
 | some v=>
  cases to with
  | none=>exact ho.elim
  | some x=>
   cases v<;>simp only[pX] at he<;>try (cases he;done)
   cases he;rw[ED ho];simp only[eU,jJ];rw[if_pos ⟨h0,h1⟩]
theorem NH {k:IntKind} {n:Int} {to:Option TV} (ho:OR X P A m h (some (.int k n)) to):to=some (.int k n):=by
 cases to with
 | none=>exact ho.elim
 | some x=>rw[ED ho]
theorem kC {to:Option TV} (ho:OR X P A m h none to):to=none:=by
 cases to with
 | none=>rfl
 | some x=>exact ho.elim
theorem CS {v:PV X.Γ} {to:Option TV} (ho:OR X P A m h (some v) to):∃ x,to=some x:=by
 cases to with
 | none=>exact ho.elim
 | some x=>exact⟨x,rfl⟩
theorem a1L {t e:TypeId} {b off len cap sz:Nat} {ex:Bool} (hu:P.underlying t=some (.slice e)) (hz:aZ P e=some sz) {lo hi:Option (PV X.Γ)} {FY FZ:Option TV} (h1:OR X P A m h lo FY) (h2:OR X P A m h hi FZ) {a z:Int} (e1:pX X 0 lo=some a) (e2:pX X len hi=some z)
  (q0:0<=a) (q1:a<=z) (q2:z<=len):jB P t (.slc b off len cap sz ex) FY FZ none=some (.slc b (off+a.toNat*sz) (z.toNat-a.toNat) (cap-a.toNat) sz ex):=by
 have g1:=rG h1 e1 (n:=z.toNat) q0 (by omega);have g2:=rG h2 e2 (n:=len) (by omega) q2;simp only[jB,hu,hz,if_true,g2,g1]
theorem a9q {t e:TypeId} {b off len cap sz:Nat} {ex:Bool} (hu:P.underlying t=some (.slice e)) (hz:aZ P e=some sz) {lo hi:Option (PV X.Γ)} {FY FZ:Option TV} (h1:OR X P A m h lo FY) (h2:OR X P A m h hi FZ) {a z:Int} (e1:pX X 0 lo=some a) (e2:pX X len hi=some z) (hs:hi.isSome)
  (q0:0<=a) (q1:a<=z) (q2:z<=len) (qM:len<=cap) {k:IntKind}:jB P t (.slc b off len cap sz ex) FY FZ (some (.int k z))=some (.slc b (off+a.toNat*sz) (z.toNat-a.toNat) (z.toNat-a.toNat) sz true):=by
 have g1:=rG h1 e1 (n:=z.toNat) q0 (by omega);obtain⟨hv,rfl⟩:=Option.isSome_iff_exists.1 hs;obtain⟨x,rfl⟩:=CS h2;have g3:jJ cap (.int k z)=some z.toNat:=by simp only[jJ];rw[if_pos (by omega)]
 have g2:jJ (min z.toNat len) x=some z.toNat:=by
  cases hv<;>simp only[pX] at e2<;>try (cases e2;done)
  cases e2;rw[ED (show VR X P A m h _ x from h2)];simp only[jJ];rw[if_pos (by omega)]
 simp only[jB,hu,hz,if_true,g3,g2,g1]
theorem UG {t e:TypeId} {sz:Nat} (hu:P.underlying t=some (.slice e)) (hz:aZ P e=some sz) {lo hi:Option (PV X.Γ)} {FY FZ:Option TV} (h1:OR X P A m h lo FY) (h2:OR X P A m h hi FZ) {a z:Int} (e1:pX X 0 lo=some a) (e2:pX X 0 hi=some z) (q0:a=0) (q1:z=0) :
  jB P t (.nil .slc) FY FZ none=some (.nil .slc)∧∀ {k:IntKind},hi.isSome->jB P t (.nil .slc) FY FZ (some (.int k 0))=some (.nil .slc):=by
 subst q0;subst q1;have g1:=rG h1 e1 (n:=0) (by omega) (by omega);have g2:=rG h2 e2 (n:=0) (by omega) (by omega);have g0:eU 0 0 none=some 0:=rfl;refine⟨by simp only[jB,hu,hz,g0,g1,g2];rfl,fun {k} hs=>?_⟩;obtain⟨hv,rfl⟩:=Option.isSome_iff_exists.1 hs;obtain⟨x,rfl⟩:=CS h2;have g3:eU 0 0 (some (.int k 0))=some 0:=rfl;simp only[jB,hu,hz,g1,g2,g3] ;rfl
theorem Dz {ps:aV X.Γ} {ts:St} (hR:nR X P A m ps ts) {t:TypeId} {x:PV X.Γ} {tx:TV} (hx:VR X P (AA A m) m ts.heap x tx) {lo hi mx:Option (PV X.Γ)} {FY FZ UH:Option TV} (h1:OR X P (AA A m) m ts.heap lo FY) (h2:OR X P (AA A m) m ts.heap hi FZ) (h3:OR X P (AA A m) m ts.heap mx UH) {v:PV X.Γ} {qs:List Prop}
  (hl:Nk X P t ps.heap x lo hi mx=some (v,qs)) (hq:∀ q∈qs,q):∃ w,jB P t tx FY FZ UH=some w∧VR X P (AA A m) m ts.heap v w:=by
 have hr:=hR.heap;unfold Nk at hl;split at hl
 ·rename_i e t' l fu hu;split at hl
  ·rename_i n a z hz e1 e2;split at hl
   ·rename_i ht;subst ht;cases hl;have q0:0<=a:=hq _ (by simp);have q1:a<=z:=hq _ (by simp);have q2:z<=(l.length:Nat):=hq _ (by simp);rw[kC h3,List.drop_take];cases hx with
    | jZ=>
     have ea:a=0:=by simp at q2;omega
     have ez:z=0:=by simp at q2;omega
     exact⟨_,(UG hu hz h1 h2 e1 e2 ea ez).1,by simp only[List.drop_nil,List.take_nil];exact .jZ⟩
    | bK p1 p2 p2' p3 p4 p5 p6 p7 p8 p9=>
     rw[hz] at p3;cases p3;exact⟨_,a1L hu hz h1 h2 e1 e2 q0 q1 q2,(VR.bK p1 p2 p2' hz p4 p5 p6 p7 p8 p9).part (by omega) (by omega) (.inr (by omega)) (by simp)⟩
    | gone hi _ _=>simp[aG] at hi
   ·cases hl
  ·rename_i n a z k mv hz e1 e2;split at hl
   ·rename_i ht;obtain⟨ht,Gi⟩:=ht;subst ht;cases hl;have q0:0<=a:=hq _ (by simp);have q1:a<=z:=hq _ (by simp);have q2:z<=(l.length:Nat):=hq _ (by simp);have q3:mv=z:=hq _ (by simp);have q4:a=z:=hq _ (by simp);subst q3;rw[NH h3,List.drop_take];cases hx with
    | jZ=>
     have ea:a=0:=by simp at q2;omega
     have ez:mv=0:=by simp at q2;omega
     have:=(UG hu hz h1 h2 e1 e2 ea ez).2 (k:=k) Gi;rw[<-ez] at this;exact⟨_,this,by simp only[List.drop_nil,List.take_nil];exact .jZ⟩
    | bK p1 p2 p2' p3 p4 p5 p6 p7 p8 p9=>
     rw[hz] at p3;cases p3;exact⟨_,a9q hu hz h1 h2 e1 e2 Gi q0 q1 q2 p6,(VR.bK p1 p2 p2' hz p4 p5 p6 p7 p8 p9).part (by omega) (by omega) (.inl (by omega)) (by simp)⟩
    | gone hi _ _=>simp[aG] at hi
   ·cases hl
  ·cases hl
 ·rename_i e i hu;split at hl
  ·rename_i kk ex t' l hb;obtain⟨mb,g1,g2⟩:=hr.at_ i _ hb;cases mb with
   | bK y=>
    cases hx with
    | gone hi e' _=>simp only[aG,Option.some.injEq] at hi;subst hi;rw[g1] at e';cases e'
    | own e' o=>
     rw[g1] at e';cases e';have hlr:LR X P (AA A m) m ts.heap kk ex t' l tx:=g2;split at hl
     ·rename_i n a z hz e1 e2;split at hl
      ·rename_i ht;subst ht;cases hl;have q0:0<=a:=hq _ (by simp);have q1:a<=z:=hq _ (by simp);have q2:z<=(l.length:Nat):=hq _ (by simp);rw[kC h3];cases hlr with
       | nil=>
        have ea:a=0:=by simp at q2;omega
        have ez:z=0:=by simp at q2;omega
        refine⟨_,(UG hu hz h1 h2 e1 e2 ea ez).1,?_⟩;subst ea;subst ez;exact .qg g1
       | emp p0 p1 p2 p3 p4=>
        rw[hz] at p3;cases p3;exact⟨_,a1L (len:=0) hu hz h1 h2 e1 e2 q0 q1 q2,.win g1 (by simp at q2;omega) (by simp at q2;omega) (by simp at q2;omega)⟩
       | some p1 p2 p3 p4 p5 p6 p7 p8 p9=>
        rw[hz] at p2;cases p2;exact⟨_,a1L hu hz h1 h2 e1 e2 q0 q1 q2,.win g1 (by omega) (by omega) (by omega)⟩
      ·cases hl
     ·cases hl
   | _=>exact g2.elim
  ·cases hl
 ·rename_i e hu;have:tx=.nil .slc:=by
   cases hx with
   | nil=>rfl
   | gone hi _ _=>simp[aG] at hi
  subst this;split at hl
  ·rename_i n a z hz e1 e2;cases hl;have q0:a=0:=hq _ (by simp);have q1:z=0:=hq _ (by simp);rw[kC h3];exact⟨_,(UG hu hz h1 h2 e1 e2 q0 q1).1,.nil _⟩
  ·rename_i n a z k mv hz e1 e2;split at hl
   ·rename_i Gi;cases hl;have q0:a=0:=hq _ (by simp);have q1:z=0:=hq _ (by simp);have q2:mv=0:=hq _ (by simp);subst q2;rw[NH h3];exact⟨_,(UG hu hz h1 h2 e1 e2 q0 q1).2 Gi,.nil _⟩
   ·cases hl
  ·cases hl
 ·cases hl
theorem sQ (hX:aX X P) {ps:aV X.Γ} {ts:St} (hR:nR X P A m ps ts) {t:TypeId} {x:PE X.Γ} {ex:EV} (hx:CP X P (AA A m) m ts.heap x ex) {lo hi mx:Option (PV X.Γ)} {FY FZ UH:Option TV} (h1:OR X P (AA A m) m ts.heap lo FY) (h2:OR X P (AA A m) m ts.heap hi FZ) (h3:OR X P (AA A m) m ts.heap mx UH) {v:PV X.Γ} {H1:List (PB X.Γ)} {qs:List Prop}
  (hl:zW X P t ps.heap x lo hi mx=some (v,H1,qs)) (hq:∀ q∈qs,q):FX X P A m ts ((iR P t ex FY FZ UH).map fun v=>(v,ts,aA)) v H1 pI:=by
 have hr:=hR.heap;unfold zW at hl;split at hl
 ·rename_i n e b off lim hu;split at hl
  ·rename_i size hz;split at hl
   ·cases hl
   ·rename_i BH;split at hl
    ·cases hl
    ·rw[kC h3];obtain⟨y,rfl,hy⟩:=cu hx;split at hl
     ·split at hl
      ·rename_i cs hb;cases hl;rw[kC h1,kC h2];obtain⟨mb,g1,g2⟩:=hr.at_ b _ hb;cases mb with
       | cO c=>
        cases hy with
        | gone hi e' _=>simp only[aG,Option.some.injEq] at hi;subst hi;rw[g1] at e';cases e'
        | ptr e'=>
         rw[g1] at e';cases e';exact⟨.slc c off n n size true,ts.heap,aA,m,by simp[iR,hu,hz,BH,eU],hr,.slc g1,.refl,.refl,.none,fun d hd=>by cases hd⟩
       | _=>exact g2.elim
      ·cases hl
     ·rename_i LV nO _;split at hl
      ·rename_i cs a z hb e1 e2;split at hl
       ·cases hl
       rename_i a1H;split at hl
       ·rename_i rows is hd;cases hl;have q0:0<=a:=hq _ (by simp);have q1:a<=z:=hq _ (by simp);have q2:z<=(n:Nat):=hq _ (by simp);obtain⟨mb,g1,g2⟩:=hr.at_ b _ hb;cases mb with
        | cO c=>
         obtain⟨cs',g3,g4⟩:=g2;cases hy with
         | gone hi e' _=>simp only[aG,Option.some.injEq] at hi;subst hi;rw[g1] at e';cases e'
         | ptr e'=>
          rw[g1] at e';cases e';have f1:=rG h1 e1 (n:=z.toNat) q0 (by omega);have f2:=rG h2 e2 (n:=n) (by omega) q2;obtain⟨w1,w2⟩:=rF (m':=aS (b::is) m) hX hr (g4.drop off) hd;have w3:=w2.2.1;rw[List.length_drop] at w3;have UC:=hr.aK (b::is);have FI:=gU (h:=ts.heap) (b::is) m;have hnc:AA A (aS (b::is) m) c:=by
           refine FA.gone hr (.inr ⟨b,_,List.mem_cons_self,g1,rfl⟩)
          refine⟨.slc c (off+a.toNat*size) (z.toNat-a.toNat) (n-a.toNat) size true,ts.heap,aA,aS (b::is) m,?_,UC,?_,FI.1,FI.2,.none,fun d hd=>by cases hd⟩
          ·have f0:eU n n none=some n:=rfl;simp only[iR,hu,hz,BH,if_false,f0,f2,f1,Option.isSome_none,Bool.false_and,Bool.false_eq_true,Option.map_some]
          ·rw[List.drop_take];have a5r:VR X P (AA A (aS (b::is) m)) (aS (b::is) m) ts.heap (.bK e rows false) (.slc c off rows.length n size true):=by
            refine .bK hnc (by unfold aB;rw[g3]) (fun _=>qZ g3 (by simp)) hz (by omega) ?_ (by omega) (by simp) w2.1 (fun j y i d v hj hi hx=>?_)
            ·rw[w1,<-g4.1];omega
            ·refine (w2.2.2 j y i d v hj hi ?_).mono fun q hq=>FA.gone hr (FA.mono (fun i hi=>List.mem_cons_of_mem _ hi) hq);rw[List.getElem?_drop,<-hx];congr 1;omega
           exact a5r.part (by omega) (by omega) (.inr (by omega)) (by simp)
        | _=>exact g2.elim
       ·cases hl
      ·cases hl
  ·cases hl
 ·cases hl
theorem J5 {ps:aV X.Γ} {ts:St} (hR:nR X P A m ps ts) {t:TypeId} {x:PE X.Γ} {ex:EV} (hx:CP X P (AA A m) m ts.heap x ex) {lo hi:Option (PV X.Γ)} {FY FZ UH:Option TV} (h1:OR X P (AA A m) m ts.heap lo FY) (h2:OR X P (AA A m) m ts.heap hi FZ) (h3:OR X P (AA A m) m ts.heap none UH) {v:PV X.Γ}
  (hl:xB X P t ps.heap x lo hi=some v):FX X P A m ts ((iR P t ex FY FZ UH).map fun v=>(v,ts,aA)) v ps.heap pI:=by
 have hr:=hR.heap;unfold xB at hl;split at hl
 ·rename_i n e b off lim hu;split at hl
  ·rename_i size cs a z hz hb e1 e2;split at hl
   ·cases hl
   ·rename_i BH;split at hl
    ·rename_i hq;cases hl;rw[kC h3];obtain⟨y,rfl,hy⟩:=cu hx;obtain⟨mb,g1,g2⟩:=hr.at_ b _ hb;cases mb with
     | cO c=>
      cases hy with
      | gone hi e' _=>simp only[aG,Option.some.injEq] at hi;subst hi;rw[g1] at e';cases e'
      | ptr e'=>
       rw[g1] at e';cases e';have f1:=rG h1 e1 (n:=z.toNat) hq.1 (by omega);have f2:=rG h2 e2 (n:=n) (by omega) hq.2.2;refine⟨.slc c (off+a.toNat*size) (z.toNat-a.toNat) (n-a.toNat) size true,ts.heap,aA,m,?_,hr,.slc g1,.refl,.refl,.none,fun d hd=>by cases hd⟩;have f0:eU n n none=some n:=rfl;simp only[iR,hu,hz,BH,if_false,f0,f2,f1,Option.isSome_none,Bool.false_and,Bool.false_eq_true,Option.map_some]
     | _=>exact g2.elim
    ·cases hl
  ·cases hl
 ·cases hl
end
open Go Tw
section
variable {X:iQ} {P:Program} {A B F:Nat->Prop} {m m':List MB} {h h':List HB} {H H':List (PB X.Γ)}
theorem mM:∀ {vs:List (PV X.Γ)} {i:Nat} {v:PV X.Γ},sD.yE vs=false->vs[i]? = some v->sD v=false
 | [],_,_,_,h=>by simp at h
 | a::vs,i,v,hc,h=>by
  simp only[sD.yE,Bool.or_eq_false_iff] at hc;cases i with
  | zero=>simp only[List.getElem?_cons_zero,Option.some.injEq] at h;subst h;exact hc.1
  | succ i=>exact mM hc.2 (by simpa using h)
theorem kQ {k:Nat}:∀ {vs:List (PV X.Γ)} {i:Nat} {v:PV X.Γ},(shift.shifts k vs)[i]? = some v->∃ u,vs[i]? = some u∧v=shift k u
 | [],_,_,h=>by simp[shift.shifts] at h
 | a::vs,i,v,h=>by
  cases i with
  | zero=>simp only[shift.shifts,List.getElem?_cons_zero,Option.some.injEq] at h;exact⟨a,rfl,h.symm⟩
  | succ i=>obtain⟨u,h1,h2⟩:=kQ (vs:=vs) (i:=i) (by simpa[shift.shifts] using h);exact⟨u,by simpa using h1,h2⟩
theorem kR {k:Nat}:∀ {vs:List (PV X.Γ)},(shift.shifts k vs).length=vs.length
 | []=>rfl
 | a::vs=>by simp[shift.shifts,kR (vs:=vs)]
theorem NI {k i:Nat} {v:PV X.Γ} (h:aG v=some i):aG (shift k v)=some (i+k):=by
 cases v<;>simp[aG] at h<;>subst h<;>rfl
theorem VR.shift (hX:aX X P) {m0:List MB} {v:PV X.Γ} {x:TV} (hv:VR X P A m h v x) (hq:(∀ b,A b->B b)∨sD v=false):VR X P B (m0++m) h (Pv.shift m0.length v) x:=by
 have XF:∀ {i:Nat} {mb:MB},m[i]? = some mb->(m0++m)[i+m0.length]? = some mb:=by
  intro i mb hi;rw[List.getElem?_append_right (by omega)];simpa using hi
 induction hv with
 | bool=>exact .bool _
 | lit=>exact .lit _
 | int=>exact .int _ _
 | str=>exact .str _
 | nil=>exact .nil _
 | ptr e=>exact .ptr (XF e)
 | slc e=>exact .slc (XF e)
 | own e o=>exact .own (XF e) o
 | win e q q' q2=>exact .win (XF e) q q' q2
 | qg e=>exact .qg (XF e)
 | map e=>exact .map (XF e)
 | iter e=>exact .iter (XF e)
 | fn h1 _ h3 _ i2 i4=>
  refine .fn (by rw[kR,h1]) (fun i x y hx hy=>?_) (by rw[kR,h3]) (fun i x y hx hy=>?_)
  ·obtain⟨u,g1,rfl⟩:=kQ hx;exact i2 i u y g1 hy (hq.imp_right fun hq=>by simp only[sD,Bool.or_eq_false_iff] at hq;exact mM hq.1 g1)
  obtain⟨u,g1,rfl⟩:=kQ hx;exact i4 i u y g1 hy (hq.imp_right fun hq=>by simp only[sD,Bool.or_eq_false_iff] at hq;exact mM hq.2 g1)
 | jk e=>exact .jk (XF e)
 | agg h1 _ i2=>
  refine .agg (by rw[kR,h1]) (fun i x y hx hy=>?_);obtain⟨u,g1,rfl⟩:=kQ hx;exact i2 i u y g1 hy (hq.imp_right fun hq=>by simp only[sD] at hq;exact mM hq g1)
 | bH h1 _ i2=>
  refine .bH (by rw[kR,h1]) (fun i x y hx hy=>?_);obtain⟨u,g1,rfl⟩:=kQ hx;exact i2 i u y g1 hy (hq.imp_right fun hq=>by simp only[sD] at hq;exact mM hq g1)
 | jZ=>exact .jZ
 | bK a c c2 s z o k f e r _=>
  rcases hq with hq | hq
  ·exact .bK (hq _ a) c c2 s z o k f e fun j y i d v h1 h2 h3=>((r j y i d v h1 h2 h3).mono hq).dW hX (bG (hX.dW _ _) h2)
  simp[sD] at hq
 | el a c l o e q r _=>
  rcases hq with hq | hq
  ·exact .el (hq _ a) c l o e q fun i d v h1 h2=>((r i d v h1 h2).mono hq).dW hX (bG (hX.dW _ _) h1)
  simp[sD] at hq
 | row e j q=>exact .row (XF e) j q
 | @gone v i x hi e o=>
  have e':(m0++m)[i+m0.length]? = m[i]?:=by rw[List.getElem?_append_right (by omega)];congr 1;omega
  exact .gone (NI hi) (by rw[e'];exact e.as fun c=>by cases v<;>rfl) o
theorem aH.shift (hX:aX X P) {m0:List MB} {v:List (PV X.Γ)} {x:List TV} (hv:aH X P A m h v x) (hq:(∀ b,A b->B b)∨sD.yE v=false):aH X P B (m0++m) h (Pv.shift.shifts m0.length v) x:=by
 refine⟨by rw[kR,hv.1],fun i a b ha hb=>?_⟩;obtain⟨u,g1,rfl⟩:=kQ ha;exact (hv.2 i u b g1 hb).shift hX (hq.imp_right fun hq=>mM hq g1)
theorem BR.shift (hX:aX X P) {m0:List MB} {b b':PB X.Γ} {mb:MB} (hb:BR X P A m h b mb) (hs:xk X m0.length b=some b') (hq:(∀ c,A c->B c)∨hasB X b=false):BR X P B (m0++m) h b' mb:=by
 cases b with
 | cells cs=>
  cases mb with
  | cO c=>
   simp only[xk,Option.some.injEq] at hs;subst hs;obtain⟨cs',h1,h2⟩:=hb;exact⟨cs',h1,h2.shift hX hq⟩
  | _=>exact hb.elim
 | list k ex t l=>
  cases mb with
  | bK y=>
   simp only[xk,Option.some.injEq] at hs;subst hs;rcases hq with hq | hq
   ·cases (hb:LR X P A m h k ex t l y) with
    | nil=>exact LR.nil
    | emp p0 p1 p2 p3 p4=>exact LR.emp (hq _ p0) p1 p2 p3 p4
    | some p1 p2 p3 p4 p5 p6 p7 p8 p9=>exact LR.some p1 p2 p3 p4 p5 p6 p7 p8 ((p9.mono hq).dW hX)
   simp[hasB] at hq
  | _=>exact hb.elim
 | gone=>
  cases mb with
  | gone=>simp only[xk,Option.some.injEq] at hs;subst hs;trivial
  | _=>exact hb.elim
 | _=>simp[xk] at hs
theorem Bd {k:Nat}:∀ {bs XG:List (PB X.Γ)} {i:Nat} {b':PB X.Γ},mF X k bs=some XG->XG[i]? = some b'->∃ b,bs[i]? = some b∧xk X k b=some b'
 | [],XG,i,b',h,hi=>by simp only[mF,Option.some.injEq] at h;subst h;simp at hi
 | b::bs,XG,i,b',h,hi=>by
  simp only[mF] at h;split at h
  ·rename_i c cs h1 h2;cases h;cases i with
   | zero=>simp only[List.getElem?_cons_zero,Option.some.injEq] at hi;subst hi;exact⟨b,rfl,h1⟩
   | succ i=>obtain⟨d,g1,g2⟩:=Bd h2 (i:=i) (by simpa using hi);exact⟨d,by simpa using g1,g2⟩
  cases h
theorem Bf {k:Nat}:∀ {bs XG:List (PB X.Γ)},mF X k bs=some XG->XG.length=bs.length
 | [],XG,h=>by simp only[mF,Option.some.injEq] at h;subst h;rfl
 | b::bs,XG,h=>by
  simp only[mF] at h;split at h
  ·rename_i c cs h1 h2;cases h;simp[Bf h2]
  cases h
def Con (X:iQ) (P:Program) (call:ay) (f:FuncId) (vs:List (PV X.Γ)) (v:PV X.Γ) (ext:List (PB X.Γ)):Prop:=
 ∀ (A:Nat->Prop) (h:List HB) (first args cap:List TV),(∀ b,h.length<=b->A b)->aH X P A [] h vs (first++args++cap) ->
  ∃ w h' m',call (.fn f first cap) args h=some (w,h',[])∧HR X P A m' ext h'∧VR X P (AA A m') m' h' v w∧Fr [] h m' h'
theorem XH (hX:aX X P) {call:ay} {f:FuncId} {first xs cap vs:List (PV X.Γ)} {v:PV X.Γ} {ext ext':List (PB X.Γ)} (hc:Con X P call f vs v ext) (hr:HR X P A m H h) (hv:views H (first++xs++cap)=some vs) (hs:mF X H.length ext=some ext')
  {t1 t2 t3:List TV} (h1:aH X P (AA A m) m h first t1) (h2:aH X P (AA A m) m h xs t2) (h3:aH X P (AA A m) m h cap t3) :
  ∃ w h' m1,call (.fn f t1 t3) t2 h=some (w,h',[])∧HR X P A m1 ((if sD v||ext.any (hasB X) then aK (qV.mZ (first++xs++cap)) H else H)++ext') h'∧VR X P (AA A m1) m1 h' (shift H.length v) w∧Fr m h m1 h'∧Up m m1:=by
 have Ji:=ku (m':=[]) hX hr ((h1.app h2).app h3) hv (is:=qV.mZ (first++xs++cap)) fun i hi=>hi;generalize qV.mZ (first++xs++cap)=is at Ji ⊢;obtain⟨w,h',m',c1,c2,c3,c4⟩:=hc (fun b=>FA A m is b∨h.length<=b) h t1 t2 t3 (fun b hb=>.inr hb) (Ji.mono fun b hb=>.inl hb);have hold:∀ b,b<h.length->h'[b]? = h[b]?:=fun b hb=>c4.same b hb (by simp[aJ]);have dh:∀ b,b∈aJ m'->h.length<=b:=fun b hb=>by
  rcases c4.new b hb with h0 | h0
  ·simp[aJ] at h0
  ·exact h0
 have key:∀ (m0:List MB) (H0:List (PB X.Γ)),HR X P A m0 H0 h->Fr m h m0 h->Up m m0->m0.length=H.length->((∀ b,FA A m is b->AA A m0 b)∨(sD v||ext.any (hasB X))=false) ->
   ∃ m1,HR X P A m1 (H0++ext') h'∧VR X P (AA A m1) m1 h' (shift H.length v) w∧Fr m h m1 h'∧Up m m1:=by
  intro m0 H0 XI hF0 hU0 kF hq;have hF:Fr m0 h (m0++m') h':=by
   refine⟨c4.len,fun b hb _=>hold b hb,fun b hb=>?_,fun b cs hc=>⟨cs,by rw[bZ (hold b (bU hc)),hc],Nat.le_refl _⟩⟩;rw[dK,List.mem_append] at hb;exact hb.imp_right fun hb=>dh b hb
  have hA:(∀ b,AA (fun b=>FA A m is b∨h.length<=b) m' b->AA A (m0++m') b)∨(sD v||ext.any (hasB X))=false:=by
   refine hq.imp_left fun hq b hb=>?_;refine⟨?_,fun hm=>?_⟩
   ·rcases hb.1 with h0 | h0
    ·exact (hq b h0).1
    ·exact hr.up b h0
   ·rw[dK,List.mem_append] at hm;rcases hm with hm | hm
    ·rcases hb.1 with h0 | h0
     ·exact (hq b h0).2 hm
     ·have:=XI.inb hm;omega
    ·exact hb.2 hm
  refine⟨m0++m',?_,?_,hF0.trans hF,hU0.trans (nC _)⟩
  ·refine XI.next hF (nC _) (by rw[List.length_append,List.length_append,XI.len,Bf hs,c2.len]) ?_ fun i b hi=>?_
   ·rw[dK];refine List.nodup_append.2 ⟨XI.nodup,c2.nodup,fun a ha b hb e=>?_⟩;subst e;have:=XI.inb ha;have:=dh a hb;omega
   ·rcases Nat.lt_or_ge i H0.length with aN | zB
    ·left;rw[List.getElem?_append_left aN] at hi;obtain⟨mb,g1,g2⟩:=XI.at_ i b hi;exact⟨mb,hi,g1,by rw[List.getElem?_append_left (by rw[XI.len];exact aN)];exact g1,fun c hc=>hold c (g2.has hc)⟩
    ·right;rw[List.getElem?_append_right zB] at hi;obtain⟨b0,g1,g2⟩:=Bd hs hi;obtain⟨mb,g3,g4⟩:=c2.at_ _ _ g1;refine⟨mb,by rw[List.getElem?_append_right (by rw[XI.len];exact zB),XI.len];exact g3,?_⟩;rw[<-kF] at g2;refine g4.shift hX g2 (hA.imp_right fun hq=>?_);simp only[Bool.or_eq_false_iff,List.any_eq_false] at hq;simpa using hq.2 b0 (List.mem_of_getElem? g1)
  ·rw[<-kF];exact c3.shift hX (hA.imp_right fun hq=>by simp only[Bool.or_eq_false_iff] at hq;exact hq.1)
 refine⟨w,h',?_⟩;by_cases hL:(sD v||ext.any (hasB X))=true
 ·rw[if_pos hL];obtain⟨m1,e1,e2,e3,e4⟩:=key (aS is m) (aK is H) (hr.aK is) (gU (h:=h) is m).1 (gU (h:=h) is m).2 (by rw[fU,hr.len]) (.inl fun b hb=>hb.gone hr);exact⟨m1,c1,e1,e2,e3,e4⟩
 ·rw[if_neg hL];obtain⟨m1,e1,e2,e3,e4⟩:=key m H hr .refl .refl hr.len (.inr (by simpa using hL));exact⟨m1,c1,e1,e2,e3,e4⟩
end
open Go Tw
section
variable {X:iQ} {P:Program} {A B F:Nat->Prop} {m m':List MB} {h h':List HB} {H H':List (PB X.Γ)}
def qC (X:iQ) (P:Program) (call:ay):QY X.Γ:=fun fv xs H v H1=>
 ∀ (A:Nat->Prop) (m:List MB) (h:List HB) (tf:TV) (nH:List TV),HR X P A m H h->VR X P (AA A m) m h fv tf->aH X P (AA A m) m h xs nH ->
  ∃ w h1 ws m1,call tf nH h=some (w,h1,ws)∧HR X P A m1 H1 h1∧VR X P (AA A m1) m1 h1 v w∧Fr m h m1 h1∧Up m m1∧∀ b∈ws,b∈aJ m
def lC (X:iQ) (P:Program) (call:ay) (kX:iO X.Γ):Prop:=∀ f vs v ext ps,kX f vs=some (v,ext,ps)->(∀ p∈ps,p)->Con X P call f vs v ext
theorem jo {ρ:Type} {y:ρ}:∀ {ps:List Prop} {x:OT ρ},(Ur ps x).Ends y->(∀ p∈ps,p)∧x.Ends y
 | [],x,h=>⟨by simp,h⟩
 | p::ps,x,h=>by
  have:=jo h.2;exact⟨fun q hq=>by rcases List.mem_cons.1 hq with rfl | hq;exact h.1;exact this.1 q hq,this.2⟩
theorem NJ {ρ:Type} {y:ρ} {u:PV X.Γ} {an:PT X.Γ} {k:Bool->PT X.Γ->OT ρ} (hk:(byB X u an k).Ends y) {tu:TV} (hu:VR X P A m h u tu):∃ t Bg,tu=.bool t∧(k t Bg).Ends y:=by
 cases u with
 | lit b=>
  have:tu=.bool b:=by
   cases hu with
   | lit=>rfl
   | gone hi _ _=>simp[aG] at hi
  exact⟨b,an,this,hk⟩
 | bool b=>
  have hb:tu=.bool b:=by
   cases hu with
   | bool=>rfl
   | gone hi _ _=>simp[aG] at hi
  subst hb;cases an with
  | s x z=>
   rcases hk with⟨h1,h2⟩ | ⟨h1,h2⟩
   ·subst h1;exact⟨true,x,rfl,h2⟩
   subst h1;exact⟨false,z,rfl,h2⟩
  | a x r=>
   cases x with
   | br t=>obtain⟨h1,h2⟩:=hk;subst h1;exact⟨_,r,rfl,h2⟩
   | _=>exact hk.elim
  | _=>exact hk.elim
 | _=>exact hk.elim
theorem qh:∀ {es:List (PV X.Γ×PV X.Γ)} {fQ:List (TV×TV)} {ks:List TV},es.length=fQ.length->(∀ (i:Nat) x y,es[i]? = some x->fQ[i]? = some y->VR X P A m h x.1 y.1∧VR X P A m h x.2 y.2)->oq X es=some ks->fQ.map (·.1)=ks
 | [],fQ,ks,hl,_,hk=>by
  simp only[oq,Option.some.injEq] at hk;subst hk;cases fQ with
  | nil=>rfl
  | cons=>simp at hl
 | (k,v)::es,fQ,ks,hl,he,hk=>by
  cases fQ with
  | nil=>simp at hl
  | cons y fQ=>
   simp only[oq] at hk;split at hk
   ·rename_i a b h1 h2;cases hk;have:=iP (he 0 _ _ rfl rfl).1 h1;simp only[List.map_cons,this];rw[qh (by simpa using hl) (fun i x z hx hz=>he (i+1) x z (by simpa using hx) (by simpa using hz)) h2]
   cases hk
theorem KE:∀ {ks:List TV} {vs:List Value},rV ks=some vs->vs.length=ks.length
 | [],vs,h=>by simp only[rV,Option.some.injEq] at h;subst h;rfl
 | k::ks,vs,h=>by
  simp only[rV] at h;split at h
  ·rename_i v ws _ h2;cases h;simp[KE h2]
  cases h
theorem uf {kt:TypeId} {k:Value} {fQ:List (TV×TV)}:xM P kt k fQ=oz P kt k (fQ.map (·.1)):=by
 unfold xM oz;cases hv:rV (fQ.map (·.1)) with
 | none=>rfl
 | some vs=>
  have hl:=KE hv;have:fQ.isEmpty=vs.isEmpty:=by
   cases fQ<;>cases vs<;>simp at hl<;>rfl
  simp only[this]<;>rfl
def Hf:TV->List Key
 | .map r=>[.h r]
 | _=>[]
def Rk (h:List HB):TV->Option (List (TV×TV))
 | .nil .map=>some []
 | .map r=>match h[r]? with
  | some (.map es)=>some es
  | _=>none
 | _=>none
theorem Bh {t:TypeId} {h:List HB} {tm tk:TV} {ok:Bool} {kt e:TypeId} {kv:Value} {es:List (TV×TV)} (hu:P.underlying t=some (.map kt e)) (hk:tk.rU=some kv) (he:Rk h tm=some es) :
  lY P t h tm tk ok=match xM P kt kv es with
   | some (some i)=>match es[i]? with
    | some (_,v)=>some (if ok then .bH [v,.bool true] else v)
    | none=>none
   | some none=>match P.info? e with
    | some i=>match i.zero with
     | some z=>(TV.Jh z).map fun z=>if ok then .bH [z,.bool false] else z
     | none=>none
    | none=>none
   | none=>none:=by
 unfold lY;simp only[hu,hk];cases tm with
 | nil k=>
  cases k<;>simp only[Rk] at he<;>try (cases he;done)
  cases he;rfl
 | map r=>
  simp only[Rk] at he;split at he
  ·rename_i es0 hb;cases he;simp only[hb];rfl
  ·cases he
 | _=>simp[Rk] at he
theorem ug {H:List (PB X.Γ)} {h:List HB} (hr:HR X P A m H h) {r:Nat} {es:List (PV X.Γ×PV X.Γ)} (he:En X H r=some es):∃ c fQ,(m[r]? = some (.cO c)∨(m[r]? = some (.cZ c)∧c∉aJ m))∧h[c]? = some (.map fQ)∧es.length=fQ.length ∧
  ∀ (i:Nat) x y,es[i]? = some x->fQ[i]? = some y->tC x.1=some y.1∧tC x.2=some y.2:=by
 unfold En at he;split at he
 ·rename_i es0 hb;cases he;obtain⟨mb,g1,g2⟩:=hr.at_ r _ hb;cases mb with
  | cO c=>obtain⟨fQ,g3,g4,g5⟩:=g2;exact⟨c,fQ,.inl g1,g3,g4,g5⟩
  | _=>exact g2.elim
 ·rename_i es0 hb;cases he;obtain⟨mb,g1,g2⟩:=hr.at_ r _ hb;cases mb with
  | cZ c=>obtain⟨g0,fQ,g3,g4,g5⟩:=g2;exact⟨c,fQ,.inr ⟨g1,g0⟩,g3,g4,g5⟩
  | _=>exact g2.elim
 ·cases he
theorem PS {B:Nat->Prop} {h:List HB} {r c:Nat} {tm:TV} (hm:VR X P B m h (.map r) tm) (hc:m[r]? = some (.cO c)∨(m[r]? = some (.cZ c)∧c∉aJ m)):tm=.map c:=by
 cases hm with
 | map e=>
  rcases hc with h | ⟨h,_⟩<;>rw[h] at e<;>cases e
  rfl
 | gone hi e _=>
  simp only[aG,Option.some.injEq] at hi;subst hi;rcases hc with h | ⟨h,_⟩<;>rw[h] at e
  ·cases e
  cases e with
  | r c hv=>simp only[Xx,Option.some.injEq] at hv;exact hv.symm
theorem Hl {r c:Nat} {ks:List Key} (hc:m[r]? = some (.cO c)∨(m[r]? = some (.cZ c)∧c∉aJ m)):(∃ i,Key.h i∈Key.h r::ks∧xH m i c)∨c∉aJ m:=by
 rcases hc with h | ⟨_,h⟩
 ·exact .inl ⟨r,by simp,dw h rfl⟩
 exact .inr h
theorem a1N {ps:aV X.Γ} {ts:St} (hR:nR X P A m ps ts) {mv:PV X.Γ} {tm:TV} (hm:VR X P (AA A m) m ts.heap mv tm) {es:List (PV X.Γ×PV X.Γ)} (he:Us X ps.heap mv=some es) :
  ∃ fQ,Rk ts.heap tm=some fQ∧es.length=fQ.length∧(∀ (i:Nat) x y,es[i]? = some x->fQ[i]? = some y->VR X P (AA A m) m ts.heap x.1 y.1∧VR X P (AA A m) m ts.heap x.2 y.2) ∧
   IR m ts.heap ⟨bW (GV X mv),false,false,true⟩ (bW (Hf tm)):=by
 cases mv with
 | nil k=>
  cases hm with
  | nil=>
   cases k<;>simp only[Us] at he<;>try (cases he;done)
   cases he;exact⟨[],rfl,rfl,fun i x y hx=>by simp at hx,IR.reads rfl (by simp[Hf]) (by simp[Hf])⟩
  | gone hi _ _=>simp[aG] at hi
 | map r=>
  simp only[Us] at he;obtain⟨c,fQ,g0,g3,g4,g5⟩:=ug hR.heap he;have htm:=PS hm g0;subst htm;refine⟨fQ,by simp only[Rk,g3],g4,fun i x y e1 e2=>⟨pq (g5 i x y e1 e2).1,pq (g5 i x y e1 e2).2⟩,IR.reads rfl (fun b hb=>?_) (by simp[Hf])⟩;simp[Hf] at hb;subst hb;exact⟨Hl g0,(List.getElem?_eq_some_iff.1 g3).1⟩
 | _=>simp[Us] at he
theorem CU {a b:PV X.Γ} {x y:TV} (h1:VR X P A m h a x) (h2:VR X P A m h b y):VR X P A m h (.bH [a,b]) (.bH [x,y]):=by
 have:=(aH.nil (X:=X) (P:=P) (A:=A) (m:=m) (h:=h)).cons h2 |>.cons h1
 exact .bH this.1 this.2
theorem UJ {e:TypeId} {z:PV X.Γ} (h:GX X P e=some z):∃ i z0 z1,P.info? e=some i∧i.zero=some z0∧TV.Jh z0=some z1∧QU z1=some z:=by
 unfold GX at h;split at h
 ·rename_i i hi;split at h
  ·rename_i z0 hz0;split at h
   ·rename_i z1 X6;exact⟨i,z0,z1,hi,hz0,X6,h⟩
   cases h
  cases h
 cases h
theorem XJ {ρ:Type} {y:ρ} {ps:aV X.Γ} {ts:St} (hR:nR X P A m ps ts) {t:TypeId} {mv kv:PV X.Γ} {tm tk:TV} (hm:VR X P (AA A m) m ts.heap mv tm) (hk:VR X P (AA A m) m ts.heap kv tk) {ok:Bool} {an:PT X.Γ} {c:PE X.Γ->PI->PT X.Γ->OT ρ}
  (hl:(Nv X P t ps mv kv ok an c).Ends y):∃ v pi Bg w,lY P t ts.heap tm tk ok=some w∧VR X P (AA A m) m ts.heap v w∧(c (.val v) pi Bg).Ends y∧IR m ts.heap pi (bW (Hf tm)):=by
 unfold Nv at hl;split at hl
 ·rename_i kt e tk' es hu htk Gw;have:=iP hk htk;subst this;obtain⟨fQ,f1,f2,f3,f4⟩:=a1N hR hm Gw;have fnd:∀ {qj ks j k0 v},tk.rU=some qj->oq X es=some ks->oz P kt qj ks=some (some j)->es[j]? = some (k0,v)->∃ w,lY P t ts.heap tm tk ok=some w∧VR X P (AA A m) m ts.heap (if ok then .bH [v,.bool true] else v) w:=by
   intro qj ks j k0 v NM DJ EF hj;have uh:=qh f2 f3 DJ;have aN:j<fQ.length:=by rw[<-f2];exact (List.getElem?_eq_some_iff.1 hj).1
   have BG:=List.getElem?_eq_getElem aN;have hv:=(f3 j _ _ hj BG).2;refine⟨(if ok then .bH [fQ[j].2,.bool true] else fQ[j].2),?_,?_⟩
   ·rw[Bh hu NM f1];simp only[uf,uh,EF,BG]
   ·cases ok with
    | true=>exact CU hv (.bool _)
    | false=>exact hv
  have non:∀ {qj ks z},tk.rU=some qj->oq X es=some ks->oz P kt qj ks=some none->GX X P e=some z->∃ w,lY P t ts.heap tm tk ok=some w∧VR X P (AA A m) m ts.heap (if ok then .bH [z,.bool false] else z) w:=by
   intro qj ks z NM DJ EF hz;have uh:=qh f2 f3 DJ;obtain⟨i,z0,z1,hi,hz0,X6,hz2⟩:=UJ hz;refine⟨(if ok then .bH [z1,.bool false] else z1),?_,?_⟩
   ·rw[Bh hu NM f1];simp only[uf,uh,EF,hi,hz0,X6,Option.map_some]
   ·cases ok with
    | true=>exact CU (nD hz2) (.bool _)
    | false=>exact nD hz2
  split at hl
  ·obtain⟨⟨qj,ks,j,k0,g1,g2,g3,g4⟩,hl⟩:=hl;obtain⟨w,w1,w2⟩:=fnd g1 g2 g3 g4;exact⟨_,_,_,w,w1,w2,hl,f4⟩
  ·split at hl
   ·rename_i z hz;obtain⟨⟨qj,ks,g1,g2,g3⟩,hl⟩:=hl;obtain⟨w,w1,w2⟩:=non g1 g2 g3 hz;exact⟨_,_,_,w,w1,w2,hl,f4⟩
   ·exact hl.elim
  ·split at hl
   ·rename_i z hz;obtain⟨⟨qj,ks,g1,g2,g3⟩,hl⟩:=hl;obtain⟨w,w1,w2⟩:=non g1 g2 g3 hz;exact⟨_,_,_,w,w1,w2,hl,f4⟩
   ·exact hl.elim
  ·split at hl
   ·rename_i qj ks NM DJ;split at hl
    ·rename_i j r _ _;split at hl
     ·rename_i k0 v hj;obtain⟨EF,hl⟩:=hl;obtain⟨w,w1,w2⟩:=fnd NM DJ EF hj;exact⟨_,_,_,w,w1,w2,hl,f4⟩
     ·exact hl.elim
    ·split at hl
     ·rename_i z hz;obtain⟨EF,hl⟩:=hl;obtain⟨w,w1,w2⟩:=non NM DJ EF hz;exact⟨_,_,_,w,w1,w2,hl,f4⟩
     ·exact hl.elim
    ·exact hl.elim
   ·exact hl.elim
 ·exact hl.elim
theorem UK {ρ:Type} {y:ρ} {ps:aV X.Γ} {ts:St} (hR:nR X P A m ps ts) {t:TypeId} {mv kv v:PV X.Γ} {tm tk tv:TV} (hm:VR X P (AA A m) m ts.heap mv tm) (hk:VR X P (AA A m) m ts.heap kv tk) (hv:VR X P (AA A m) m ts.heap v tv) {an:PT X.Γ} {c:aV X.Γ->PI->PT X.Γ->OT ρ}
  (hl:(Ut X P t ps mv kv v an c).Ends y):∃ fJ pi Bg h1 ti,jL P t ts tm tk tv=some ({ ts with heap:=h1 },ti)∧nR X P A m fJ { ts with heap:=h1 }∧Fr m ts.heap m h1∧(c fJ pi Bg).Ends y∧IR m ts.heap pi ti∧∀ b,.h b∈ti.ws->b∈aJ m:=by
 unfold Ut at hl;split at hl
 ·rename_i kt e tk' r tv' hu htk htv;have:=iP hk htk;subst this;have:=iP hv htv;subst this;split at hl
  ·rename_i es hb;obtain⟨mb,g1,g2⟩:=hR.heap.at_ r _ hb;cases mb with
   | cO cb=>
    obtain⟨fQ,f1,f2,f3⟩:=g2;have f3v:∀ (i:Nat) x y,es[i]? = some x->fQ[i]? = some y->VR X P (AA A m) m ts.heap x.1 y.1∧VR X P (AA A m) m ts.heap x.2 y.2:=fun i x y e1 e2=>⟨pq (f3 i x y e1 e2).1,pq (f3 i x y e1 e2).2⟩;cases hm with
    | gone hi e' _=>simp only[aG,Option.some.injEq] at hi;subst hi;rw[g1] at e';cases e'
    | map e'=>
     rw[g1] at e';cases e';have aN:=(List.getElem?_eq_some_iff.1 f1).1;have wr:∀ (en:List (PV X.Γ×PV X.Γ)) (en':List (TV×TV)),en.length=en'.length->(∀ (i:Nat) x y,en[i]? = some x->en'[i]? = some y->tC x.1=some y.1∧tC x.2=some y.2) ->
       nR X P A m { ps with heap:=ps.heap.set r (.map en) } { ts with heap:=ts.heap.set cb (.map en') }∧Fr m ts.heap m (ts.heap.set cb (.map en')):=by
      intro en en' h1 h2;obtain⟨q1,q2⟩:=hR.heap.set (pb:=.map en) (hb:=.map en') g1 (c:=cb) rfl (fun cs hc=>by simp[aB,f1] at hc) fun hF=>⟨en',by simp[aN],h1,h2⟩;exact⟨hR.step q1 q2 .refl,q2⟩
     have new:∀ {qj ks},tk.rU=some qj->oq X es=some ks->au P (Instr.checkKey false 10000 kt qj)=some ()->oz P kt qj ks=some none ->
       jL P t ts (.map cb) tk tv=some ({ ts with heap:=ts.heap.set cb (.map (fQ++[(tk,tv)])) },lF (.h cb))∧nR X P A m { ps with heap:=ps.heap.set r (.map (es++[(kv,v)])) } { ts with heap:=ts.heap.set cb (.map (fQ++[(tk,tv)])) }∧Fr m ts.heap m (ts.heap.set cb (.map (fQ++[(tk,tv)]))):=by
      intro qj ks NM DJ c1 c2;have uh:=qh f2 f3v DJ;obtain⟨w1,w2⟩:=wr (es++[(kv,v)]) (fQ++[(tk,tv)]) (by simp[f2]) fun i a b ha rM=>by
       rcases Nat.lt_or_ge i es.length with aN | zB
       ·rw[List.getElem?_append_left aN] at ha;rw[List.getElem?_append_left (by rw[<-f2];exact aN)] at rM;exact f3 i a b ha rM
       ·rw[List.getElem?_append_right zB] at ha;rw[List.getElem?_append_right (by rw[<-f2];exact zB),<-f2] at rM;cases hx:i-es.length with
        | zero=>
         rw[hx] at ha rM;simp only[List.getElem?_cons_zero,Option.some.injEq] at ha rM;subst ha;subst rM;exact⟨htk,htv⟩
        | succ n=>rw[hx] at ha;simp at ha
      refine⟨?_,w1,w2⟩;unfold jL;simp only[hu,NM,f1,c1,uf,uh,c2]
     split at hl
     ·obtain⟨⟨qj,q1,c1⟩,⟨a5s,ks,q2,DJ,c2⟩,hl⟩:=hl;rw[q1] at q2;cases q2;obtain⟨u1,u2,u3⟩:=new q1 DJ c1 c2;exact⟨_,_,_,_,lF (.h cb),u1,u2,u3,hl,.wrH (dw g1 rfl) aN,fun b hb=>by simp[lF] at hb;subst hb;exact aC g1 rfl⟩
     ·obtain⟨⟨qj,q1,c1⟩,⟨a5s,ks,q2,DJ,c2⟩,hl⟩:=hl;rw[q1] at q2;cases q2;obtain⟨u1,u2,u3⟩:=new q1 DJ c1 c2;exact⟨_,_,_,_,lF (.h cb),u1,u2,u3,hl,.wrH (dw g1 rfl) aN,fun b hb=>by simp[lF] at hb;subst hb;exact aC g1 rfl⟩
     ·obtain⟨⟨qj,ks,j,old,ov,NM,c1,DJ,c2,hj,hold,hov,c3⟩,hl⟩:=hl;have uh:=qh f2 f3v DJ;have BG:∃ y0,fQ[j]? = some y0:=by
       have:j<fQ.length:=by rw[<-f2];exact (List.getElem?_eq_some_iff.1 hj).1
       exact⟨_,List.getElem?_eq_getElem this⟩
      obtain⟨y0,WV⟩:=BG;have hy1:y0.1=old:=by
       have:(fQ.map (·.1))[j]? = some y0.1:=by rw[List.getElem?_map,WV];rfl
       rw[uh,hold] at this;exact (Option.some.inj this).symm
      obtain⟨w1,w2⟩:=wr es (fQ.set j (tk,tv)) (by simp[f2]) fun i a b ha rM=>by
       by_cases e:j=i
       ·subst e;rw[List.getElem?_set_self'] at rM;rw[hj] at ha;rw[WV] at rM;cases ha;cases rM;exact⟨htk,htv⟩
       ·rw[List.getElem?_set_ne e] at rM;exact f3 i a b ha rM
      have JC:ps.heap.set r (.map es)=ps.heap:=by
       refine List.ext_getElem? fun i=>?_;by_cases e:r=i
       ·subst e;rw[List.getElem?_set_self (List.getElem?_eq_some_iff.1 hb).1,hb]
       ·rw[List.getElem?_set_ne e]
      rw[JC] at w1;refine⟨_,_,_,_,lF (.h cb),?_,w1,w2,hl,.wrH (dw g1 rfl) aN,fun b hb=>by simp[lF] at hb;subst hb;exact aC g1 rfl⟩;unfold jL;simp only[hu,NM,f1,c1,uf,uh,c2,WV,hy1,hov,c3,if_true]
     ·split at hl
      ·rename_i qj ks NM DJ;have uh:=qh f2 f3v DJ;split at hl
       ·rename_i j rest _ _ _;split at hl
        ·rename_i x0 old hj hold;split at hl
         ·rename_i ov hov;obtain⟨c1,c2,c3,hl⟩:=hl;have BG:∃ y0,fQ[j]? = some y0:=by
           have:j<fQ.length:=by rw[<-f2];exact (List.getElem?_eq_some_iff.1 hj).1
           exact⟨_,List.getElem?_eq_getElem this⟩
          obtain⟨y0,WV⟩:=BG;have hy1:y0.1=old:=by
           have:(fQ.map (·.1))[j]? = some y0.1:=by rw[List.getElem?_map,WV];rfl
           rw[uh,hold] at this;exact (Option.some.inj this).symm
          obtain⟨w1,w2⟩:=wr (es.set j (kv,v)) (fQ.set j (tk,tv)) (by simp[f2]) fun i a b ha rM=>by
           by_cases e:j=i
           ·subst e;rw[List.getElem?_set_self'] at ha rM;rw[hj] at ha;rw[WV] at rM;cases ha;cases rM;exact⟨htk,htv⟩
           ·rw[List.getElem?_set_ne e] at ha rM;exact f3 i a b ha rM
          refine⟨_,_,_,_,lF (.h cb),?_,w1,w2,hl,.wrH (dw g1 rfl) aN,fun b hb=>by simp[lF] at hb;subst hb;exact aC g1 rfl⟩;unfold jL;simp only[hu,NM,f1,c1,uf,uh,c2,WV,hy1,hov,c3,if_true]
         ·exact hl.elim
        ·exact hl.elim
       ·obtain⟨c1,c2,hl⟩:=hl;obtain⟨u1,u2,u3⟩:=new NM DJ c1 c2;exact⟨_,_,_,_,lF (.h cb),u1,u2,u3,hl,.wrH (dw g1 rfl) aN,fun b hb=>by simp[lF] at hb;subst hb;exact aC g1 rfl⟩
       ·exact hl.elim
      ·exact hl.elim
   | _=>exact g2.elim
  ·exact hl.elim
 ·exact hl.elim
end
open Go Tw
theorem fV {m:List MB} {b:Nat} (h:b∈aJ m):∃ i,xH m i b:=by
 obtain⟨mb,h1,h2⟩:=List.mem_filterMap.1 h;obtain⟨i,hi⟩:=List.getElem?_of_mem h1;exact⟨i,mb,hi,h2⟩
section
variable {X:iQ} {P:Program} {A B:Nat->Prop} {m m1:List MB} {h:List HB} {g:Nat->Option Nat}
theorem eX:∀ {m:List MB},(∀ i j c,xH m i c->xH m j c->i=j)->(aJ m).Nodup
 | [],_=>by simp[aJ]
 | x::m,hu=>by
  have ih:(aJ m).Nodup:=eX fun i j c h1 h2=>by
   have:=hu (i+1) (j+1) c (by obtain⟨mb,a,b⟩:=h1;exact⟨mb,by simpa using a,b⟩) (by obtain⟨mb,a,b⟩:=h2;exact⟨mb,by simpa using a,b⟩);omega
  unfold aJ at ih ⊢;rw[List.filterMap_cons];split
  ·exact ih
  rename_i b hb;refine List.nodup_cons.2 ⟨fun hm=>?_,ih⟩;obtain⟨i,mb,h1,h2⟩:=fV (m:=m) hm;have:=hu 0 (i+1) b ⟨x,rfl,hb⟩ ⟨mb,by simpa using h1,h2⟩;omega
theorem EG:∀ {ks:List Nat} {i p:Nat},ni ks i=some p->ks[p]? = some i
 | [],i,p,h=>by cases h
 | a::ks,i,p,h=>by
  simp only[ni] at h;split at h
  ·rename_i e;cases h;simp[e]
  simp only[Option.map_eq_some_iff] at h;obtain⟨q,h1,rfl⟩:=h;simpa using EG h1
section
variable {g:Nat->Option Nat} {m1:List MB}
theorem CV (hg:∀ i j,g i=some j->m1[j]? = m[i]?) {B:Nat->Prop} (hA:∀ b,A b->B b) (hX:aX X P) {v:PV X.Γ} {x:TV} (hv:VR X P A m h v x):∀ {w:PV X.Γ},bT g v=some w->VR X P B m1 h w x:=by
 have lists:∀ {vs:List (PV X.Γ)} {xs:List TV},vs.length=xs.length->(∀ (i:Nat) a b,vs[i]? = some a->xs[i]? = some b->∀ {w:PV X.Γ},bT g a=some w->VR X P B m1 h w b)->∀ {ws:List (PV X.Γ)},bT.jf g vs=some ws->ws.length=xs.length∧∀ (i:Nat) a b,ws[i]? = some a->xs[i]? = some b->VR X P B m1 h a b:=by
  intro vs
  induction vs with
  | nil=>
   intro xs hl _ ws hw;simp only[bT.jf,Option.some.injEq] at hw;subst hw;exact⟨hl,fun i a b ha=>by simp at ha⟩
  | cons v vs ih=>
   intro xs hl hh ws hw;cases xs with
   | nil=>simp at hl
   | cons x xs=>
    simp only[bT.jf] at hw;split at hw
    ·rename_i w FD h1 h2;cases hw;obtain⟨e1,e2⟩:=ih (xs:=xs) (by simpa using hl) (fun i a b ha hb=>hh (i+1) a b (by simpa using ha) (by simpa using hb)) h2;refine⟨by simp[e1],fun i a b ha hb=>?_⟩;cases i with
     | zero=>simp only[List.getElem?_cons_zero,Option.some.injEq] at ha hb;subst ha;subst hb;exact hh 0 v x rfl rfl h1
     | succ i=>exact e2 i a b (by simpa using ha) (by simpa using hb)
    cases hw
 induction hv with
 | bool=>intro w hw;simp only[bT,Option.some.injEq] at hw;subst hw;exact .bool _
 | lit=>intro w hw;simp only[bT,Option.some.injEq] at hw;subst hw;exact .lit _
 | int=>intro w hw;simp only[bT,Option.some.injEq] at hw;subst hw;exact .int _ _
 | str=>intro w hw;simp only[bT,Option.some.injEq] at hw;subst hw;exact .str _
 | nil=>intro w hw;simp only[bT,Option.some.injEq] at hw;subst hw;exact .nil _
 | ptr e=>intro w hw;simp only[bT,Option.map_eq_some_iff] at hw;obtain⟨j,h1,rfl⟩:=hw;exact .ptr (by rw[hg _ _ h1];exact e)
 | slc e=>intro w hw;simp only[bT,Option.map_eq_some_iff] at hw;obtain⟨j,h1,rfl⟩:=hw;exact .slc (by rw[hg _ _ h1];exact e)
 | own e o=>intro w hw;simp only[bT,Option.map_eq_some_iff] at hw;obtain⟨j,h1,rfl⟩:=hw;exact .own (by rw[hg _ _ h1];exact e) o
 | win e q q' q2=>intro w hw;simp only[bT,Option.map_eq_some_iff] at hw;obtain⟨j,h1,rfl⟩:=hw;exact .win (by rw[hg _ _ h1];exact e) q q' q2
 | qg e=>intro w hw;simp only[bT,Option.map_eq_some_iff] at hw;obtain⟨j,h1,rfl⟩:=hw;exact .qg (by rw[hg _ _ h1];exact e)
 | map e=>intro w hw;simp only[bT,Option.map_eq_some_iff] at hw;obtain⟨j,h1,rfl⟩:=hw;exact .map (by rw[hg _ _ h1];exact e)
 | iter e=>intro w hw;simp only[bT,Option.map_eq_some_iff] at hw;obtain⟨j,h1,rfl⟩:=hw;exact .iter (by rw[hg _ _ h1];exact e)
 | jk e=>intro w hw;simp only[bT,Option.map_eq_some_iff] at hw;obtain⟨j,h1,rfl⟩:=hw;exact .jk (by rw[hg _ _ h1];exact e)
 | row e j q=>intro w hw;simp only[bT,Option.map_eq_some_iff] at hw;obtain⟨j,h1,rfl⟩:=hw;exact .row (by rw[hg _ _ h1];exact e) (by assumption) q
 | fn h1 _ h3 _ i2 i4=>
  intro w hw;simp only[bT] at hw;split at hw
  ·rename_i a c ha hc;cases hw;obtain⟨e1,e2⟩:=lists h1 i2 ha;obtain⟨e3,e4⟩:=lists h3 i4 hc;exact .fn e1 e2 e3 e4
  cases hw
 | agg h1 _ i2=>
  intro w hw;simp only[bT,Option.map_eq_some_iff] at hw;obtain⟨cs,hc,rfl⟩:=hw;obtain⟨e1,e2⟩:=lists h1 i2 hc;exact .agg e1 e2
 | bH h1 _ i2=>
  intro w hw;simp only[bT,Option.map_eq_some_iff] at hw;obtain⟨cs,hc,rfl⟩:=hw;obtain⟨e1,e2⟩:=lists h1 i2 hc;exact .bH e1 e2
 | jZ=>intro w hw;simp only[bT,Option.some.injEq] at hw;subst hw;exact .jZ
 | bK a c c2 s z o k f e r _=>intro w hw;simp only[bT,Option.some.injEq] at hw;subst hw;exact .bK (hA _ a) c c2 s z o k f e fun j y i d v h1 h2 h3=>((r j y i d v h1 h2 h3).mono hA).dW hX (bG (hX.dW _ _) h2)
 | el a c l o e q r _=>intro w hw;simp only[bT,Option.some.injEq] at hw;subst hw;exact .el (hA _ a) c l o e q fun i d v h1 h2=>((r i d v h1 h2).mono hA).dW hX (bG (hX.dW _ _) h1)
 | gone i e o=>
  intro w hw;rename_i v _ x;have:∃ j,aG w=some j∧tV w x m1[j]?:=by
   cases v<;>simp[aG] at i<;>subst i<;>simp only[bT,Option.map_eq_some_iff] at hw<;>obtain⟨j,h1,rfl⟩:=hw<;>exact⟨j,rfl,by rw[hg _ _ h1];exact e.as fun c=>rfl⟩
  obtain⟨j,h1,h2⟩:=this;exact .gone h1 h2 o
variable {B:Nat->Prop}
theorem ql (hX:aX X P) (hg:∀ i j,g i=some j->m1[j]? = m[i]?) (hA:∀ b,A b->B b):∀ {vs:List (PV X.Γ)} {xs:List TV} {ws:List (PV X.Γ)},aH X P A m h vs xs->bT.jf g vs=some ws->aH X P B m1 h ws xs
 | [],xs,ws,hv,hw=>by simp only[bT.jf,Option.some.injEq] at hw;subst hw;rw[hv.inv0];exact .nil
 | v::vs,xs,ws,hv,hw=>by
  obtain⟨x,r,rfl,h1,h2⟩:=hv.inv;simp only[bT.jf] at hw;split at hw
  ·rename_i w FD g1 g2;cases hw;exact .cons (CV hg hA hX h1 g1) (ql hX hg hA h2 g2)
  cases hw
theorem EH (hX:aX X P) (hg:∀ i j,g i=some j->m1[j]? = m[i]?) (hA:∀ b,A b->B b) {env:List (Nat×PE X.Γ)} {env':List (Nat×EV)} (he:gX X P A m h env env'):∀ {r:List (Nat×PE X.Γ)},jG g env=some r->gX X P B m1 h r env':=by
 induction he with
 | nil=>intro r h;simp only[jG,Option.some.injEq] at h;subst h;exact .nil
 | cons h1 h2 ih=>
  rename_i k v x q q';intro r hr;simp only[jG] at hr;split at hr
  ·rename_i w r' e1 e2;cases hr;refine .cons ?_ (ih e2);cases v with
   | val v=>
    obtain⟨y,rfl,h3⟩:=cu h1;simp only[Ns,Option.map_eq_some_iff] at e1;obtain⟨u,e3,rfl⟩:=e1;exact ji (CV hg hA hX h3 e3)
   | loc a b=>simp only[Ns,Option.some.injEq] at e1;subst e1;rw[vC h1];exact⟨rfl,rfl⟩
   | undef=>simp only[Ns,Option.some.injEq] at e1;subst e1;rw[zZ h1];trivial
  cases hr
theorem vG (hX:aX X P) (hg:∀ i j,g i=some j->m1[j]? = m[i]?) (hA:∀ b,A b->B b) {b b':PB X.Γ} {mb:MB} (hn:∀ c,mb=.cZ c->c∉aJ m->c∉aJ m1) (hb:BR X P A m h b mb) (hr:pY g b=some b'):BR X P B m1 h b' mb:=by
 cases b with
 | cells cs=>
  cases mb with
  | cO c=>
   simp only[pY,Option.map_eq_some_iff] at hr;obtain⟨cs',h1,rfl⟩:=hr;obtain⟨xs,h2,h3⟩:=hb;exact⟨xs,h2,ql hX hg hA h3 h1⟩
  | _=>exact hb.elim
 | fF cs=>
  cases mb with
  | cZ c=>
   simp only[pY,Option.map_eq_some_iff] at hr;obtain⟨cs',h1,rfl⟩:=hr;obtain⟨h0,xs,h2,h3⟩:=hb;exact⟨hn c rfl h0,xs,h2,ql hX hg hA h3 h1⟩
  | _=>exact hb.elim
 | list k ex t l=>
  cases mb with
  | bK y=>
   simp only[pY,Option.some.injEq] at hr;subst hr;cases (hb:LR X P A m h k ex t l y) with
   | nil=>exact LR.nil
   | emp p0 p1 p2 p3 p4=>exact LR.emp (hA _ p0) p1 p2 p3 p4
   | some p1 p2 p3 p4 p5 p6 p7 p8 p9=>exact LR.some p1 p2 p3 p4 p5 p6 p7 p8 ((p9.mono hA).dW hX)
  | _=>exact hb.elim
 | map es=>
  cases mb with
  | cO c=>
   simp only[pY,Option.some.injEq] at hr;subst hr;exact hb
  | _=>exact hb.elim
 | rQ cs=>
  cases mb with
  | cO c=>
   simp only[pY,Option.some.injEq] at hr;subst hr;exact hb
  | _=>exact hb.elim
 | vU es=>
  cases mb with
  | cZ c=>
   simp only[pY,Option.some.injEq] at hr;subst hr;exact⟨hn c rfl hb.1,hb.2⟩
  | _=>exact hb.elim
 | bn r n seen=>
  cases mb with
  | cO b=>
   simp only[pY,Option.map_eq_some_iff] at hr;obtain⟨j,h1,rfl⟩:=hr;obtain⟨c,h2,h3,h4⟩:=hb;exact⟨c,h2,by rw[hg _ _ h1];exact h3,fun c' hc=>h4 c' (by rw[<-hg _ _ h1];exact hc)⟩
  | _=>exact hb.elim
 | mark=>
  cases mb with
  | cO c=>simp only[pY,Option.some.injEq] at hr;subst hr;exact hb
  | _=>exact hb.elim
 | loop rd f nt env ps a c gG=>
  cases mb with
  | cO cb=>
   simp only[pY,Option.map_eq_some_iff] at hr;obtain⟨aer,h1,rfl⟩:=hr;obtain⟨xs,h2,h3⟩:=hb;exact⟨xs,h2,EH hX hg hA h3 h1⟩
  | _=>exact hb.elim
 | gone=>
  cases mb with
  | gone=>simp only[pY,Option.some.injEq] at hr;subst hr;trivial
  | _=>exact hb.elim
theorem kS:∀ {bs r:List (PB X.Γ)},iM g bs=some r->r.length=bs.length∧∀ {i:Nat} {b':PB X.Γ},r[i]? = some b'->∃ b,bs[i]? = some b∧pY g b=some b'
 | [],r,h=>by simp only[iM,Option.some.injEq] at h;subst h;exact⟨rfl,fun {i b'} hi=>by simp at hi⟩
 | b::bs,r,h=>by
  simp only[iM] at h;split at h
  ·rename_i c cs h1 h2;cases h;obtain⟨e1,e2⟩:=kS h2;refine⟨by simp[e1],fun {i b'} hi=>?_⟩;cases i with
   | zero=>simp only[List.getElem?_cons_zero,Option.some.injEq] at hi;subst hi;exact⟨b,rfl,h1⟩
   | succ i=>obtain⟨d,q1,q2⟩:=e2 (i:=i) (by simpa using hi);exact⟨d,by simpa using q1,q2⟩
  cases h
theorem EI:∀ {bs r:List (List (PV X.Γ))},Ko g bs=some r->r.length=bs.length∧∀ {i:Nat} {b':List (PV X.Γ)},r[i]? = some b'->∃ b,bs[i]? = some b∧bT.jf g b=some b'
 | [],r,h=>by simp only[Ko,Option.some.injEq] at h;subst h;exact⟨rfl,fun {i b'} hi=>by simp at hi⟩
 | b::bs,r,h=>by
  simp only[Ko] at h;split at h
  ·rename_i c cs h1 h2;cases h;obtain⟨e1,e2⟩:=EI h2;refine⟨by simp[e1],fun {i b'} hi=>?_⟩;cases i with
   | zero=>simp only[List.getElem?_cons_zero,Option.some.injEq] at hi;subst hi;exact⟨b,rfl,h1⟩
   | succ i=>obtain⟨d,q1,q2⟩:=e2 (i:=i) (by simpa using hi);exact⟨d,by simpa using q1,q2⟩
  cases h
theorem vH:∀ {ks:List Nat} {H r:List (PB X.Γ)},tJ H ks=some r->r.length=ks.length∧∀ {i k:Nat},ks[i]? = some k->∃ b,H[k]? = some b∧r[i]? = some b
 | [],H,r,h=>by simp only[tJ,Option.some.injEq] at h;subst h;exact⟨rfl,fun {i k} hi=>by simp at hi⟩
 | k::ks,H,r,h=>by
  simp only[tJ] at h;split at h
  ·rename_i b rs h1 h2;cases h;obtain⟨e1,e2⟩:=vH h2;refine⟨by simp[e1],fun {i j} hi=>?_⟩;cases i with
   | zero=>simp only[List.getElem?_cons_zero,Option.some.injEq] at hi;subst hi;exact⟨b,h1,rfl⟩
   | succ i=>obtain⟨d,q1,q2⟩:=e2 (i:=i) (k:=j) (by simpa using hi);exact⟨d,q1,by simpa using q2⟩
  cases h
end
theorem kT {α:Type}:∀ {ks:List Nat} {bs l:List α},(putAt ks bs l).length=l.length
 | [],_,_=>rfl
 | _::_,[],_=>rfl
 | k::ks,b::bs,l=>by simp only[putAt];rw[kT,List.length_set]
theorem EJ {α:Type}:∀ {ks:List Nat} {bs l:List α} {p i:Nat},ks.Nodup->(∀ k∈ks,k<l.length)->ks.length<=bs.length->ks[p]? = some i->(putAt ks bs l)[i]? = bs[p]?
 | [],_,_,p,i,_,_,_,h=>by simp at h
 | a::ks,[],_,_,_,_,_,hl,_=>by simp at hl
 | a::ks,b::bs,l,0,i,hn,hk,hl,h=>by
  simp only[List.getElem?_cons_zero,Option.some.injEq] at h;subst h;have hn:=List.nodup_cons.1 hn;simp only[putAt];have:∀ {ks:List Nat} {bs l:List α} {i:Nat},i∉ks->(putAt ks bs l)[i]? = l[i]?:=by
   intro ks
   induction ks with
   | nil=>intro bs l i _;rfl
   | cons c ks ih=>
    intro bs l i hi;simp only[List.mem_cons,not_or] at hi;cases bs with
    | nil=>rfl
    | cons b bs=>simp only[putAt];rw[ih hi.2,List.getElem?_set_ne (fun e=>hi.1 e.symm)]
  rw[this hn.1,List.getElem?_set_self (hk a (List.mem_cons_self ..))];rfl
 | a::ks,b::bs,l,p+1,i,hn,hk,hl,h=>by
  simp only[List.getElem?_cons_succ] at h;simp only[putAt];rw[EJ (List.nodup_cons.1 hn).2 (fun k jH=>by rw[List.length_set];exact hk k (List.mem_cons_of_mem _ jH)) (by simpa using hl) h];rfl
theorem Aa {α:Type}:∀ {ks:List Nat} {bs l:List α} {i:Nat},i∉ks->(putAt ks bs l)[i]? = l[i]?
 | [],_,_,_,_=>rfl
 | a::ks,[],_,_,_=>rfl
 | a::ks,b::bs,l,i,hi=>by
  simp only[List.mem_cons,not_or] at hi;simp only[putAt];rw[Aa hi.2,List.getElem?_set_ne (fun e=>hi.1 e.symm)]
def KF (X:iQ) (P:Program) (call:ay) (fv:PV X.Γ) (xs:List (PV X.Γ)) (H:List (PB X.Γ)) (v:PV X.Γ) (H1:List (PB X.Γ)) (W:Nat->Prop):Prop:=
 ∀ (A:Nat->Prop) (m:List MB) (h:List HB) (tf:TV) (nH:List TV),HR X P A m H h->VR X P (AA A m) m h fv tf->aH X P (AA A m) m h xs nH ->
  ∃ w h1 ws m1,call tf nH h=some (w,h1,ws)∧HR X P A m1 H1 h1∧VR X P (AA A m1) m1 h1 v w∧Fr m h m1 h1∧Up m m1∧∀ b∈ws,∃ k,W k∧xH m k b
theorem qC.w {call:ay} {fv v:PV X.Γ} {xs:List (PV X.Γ)} {H H1:List (PB X.Γ)} (h:qC X P call fv xs H v H1):KF X P call fv xs H v H1 fun _=>True:=fun A m h0 tf nH a b c=>by
 obtain⟨w,h1,ws,m1,c1,c2,c3,c4,c5,c6⟩:=h A m h0 tf nH a b c;exact⟨w,h1,ws,m1,c1,c2,c3,c4,c5,fun b hb=>by obtain⟨i,hi⟩:=fV (c6 b hb);exact⟨i,trivial,hi⟩⟩
theorem CW:∀ {H:List (PB X.Γ)} {i:Nat} {b:PB X.Γ},zX H=true->H[i]? = some b->zX [b]=true
 | [],_,_,_,h=>by simp at h
 | a::H,0,b,hn,h=>by
  simp only[List.getElem?_cons_zero,Option.some.injEq] at h;subst h;cases a<;>simp_all [zX]
 | a::H,i+1,b,hn,h=>by
  have SQ:zX H=true:=by cases a<;>simp_all [zX]
  exact CW SQ (by simpa using h)
def SwM (m m':List MB):Prop:=∀ i:Nat,m'[i]? = m[i]?∨(∃ c,m[i]? = some (.cO c)∧m'[i]? = some (.cZ c))∨∃ c,m[i]? = some (.cZ c)∧m'[i]? = some (.cO c)
section
variable {m':List MB}
theorem VR.sw (hm:SwM m m') (hA:∀ b,A b->B b) {v:PV X.Γ} {x:TV} (hv:VR X P A m h v x):VR X P B m' h v x:=by
 have hl:∀ {i:Nat} {x:TV},m[i]? = some (.bK x)->m'[i]? = some (.bK x):=fun {i x} e=>by
  rcases hm i with g | ⟨c,g,_⟩ | ⟨c,g,_⟩
  ·rw[g,e]
  ·rw[e] at g;cases g
  rw[e] at g;cases g
 have hb:∀ {i c:Nat},m[i]? = some (.cO c)->m'[i]? = some (.cO c)∨m'[i]? = some (.cZ c):=fun {i c} e=>by
  rcases hm i with g | ⟨c',g,g2⟩ | ⟨c',g,_⟩
  ·exact .inl (by rw[g,e])
  ·rw[e] at g;cases g;exact .inr g2
  rw[e] at g;cases g
 induction hv with
 | bool=>exact .bool _
 | lit=>exact .lit _
 | int=>exact .int _ _
 | str=>exact .str _
 | nil=>exact .nil _
 | ptr e=>rcases hb e with e | e;exact .ptr e;exact .gone rfl (.WT e rfl) rfl
 | slc e=>rcases hb e with e | e;exact .slc e;exact .gone rfl (.WT e rfl) rfl
 | own e o=>exact .own (hl e) o
 | win e q q' q2=>exact .win (hl e) q q' q2
 | qg e=>exact .qg (hl e)
 | map e=>rcases hb e with e | e;exact .map e;exact .gone rfl (.WT e rfl) rfl
 | iter e=>rcases hb e with e | e;exact .iter e;exact .gone rfl (.WT e rfl) rfl
 | fn h1 _ h3 _ i2 i4=>exact .fn h1 i2 h3 i4
 | jk e=>rcases hb e with e | e;exact .jk e;exact .gone rfl (.WT e rfl) rfl
 | agg h1 _ i2=>exact .agg h1 i2
 | bH h1 _ i2=>exact .bH h1 i2
 | jZ=>exact .jZ
 | bK a c c2 s z o k f e _ ih=>exact .bK (hA _ a) c c2 s z o k f e ih
 | el a c l o e q _ ih=>exact .el (hA _ a) c l o e q ih
 | row e j q=>exact .row (hl e) j q
 | @gone v i x hi e o=>
  generalize hq:m[i]? = q at e;cases e with
  | g=>
   rcases hm i with g | ⟨c,g,_⟩ | ⟨c,g,_⟩
   ·exact .gone hi (.of (by rw[g,hq])) o
   ·rw[hq] at g;cases g
   rw[hq] at g;cases g
  | r c hv=>
   rcases hm i with g | ⟨c',g,_⟩ | ⟨c',g,g2⟩
   ·exact .gone hi (.WT (by rw[g,hq]) hv) o
   ·rw[hq] at g;cases g
   rw[hq] at g;cases g;cases v<;>simp only[Xx,Option.some.injEq] at hv<;>first | cases hv;done | skip
   all_goals (subst hv;simp only[aG,Option.some.injEq] at hi;subst hi)
   ·exact .ptr g2
   ·exact .slc g2
   ·exact .map g2
   ·exact .jk g2
   exact .iter g2
theorem aH.sw (hm:SwM m m') (hA:∀ b,A b->B b) {v:List (PV X.Γ)} {x:List TV} (hv:aH X P A m h v x):aH X P B m' h v x:=
 ⟨hv.1,fun i a b ha hb=>(hv.2 i a b ha hb).sw hm hA⟩
theorem gX.sw (hm:SwM m m') (hA:∀ b,A b->B b) {v:List (Nat×PE X.Γ)} {x:List (Nat×EV)} (hv:gX X P A m h v x):gX X P B m' h v x:=by
 induction hv with
 | nil=>exact .nil
 | cons h1 _ ih=>
  refine .cons ?_ ih;rename_i v x _ _ _;cases v<;>cases x<;>first | exact VR.sw hm hA h1 | exact h1
theorem BR.sw (hm:SwM m m') (hA:∀ b,A b->B b) {b:PB X.Γ} {mb:MB} (hn:∀ c,mb=.cZ c->c∉aJ m->c∉aJ m') (hb:BR X P A m h b mb):BR X P B m' h b mb:=by
 cases b with
 | cells cs=>cases mb with
  | cO b=>obtain⟨cs',h1,h2⟩:=hb;exact⟨cs',h1,h2.sw hm hA⟩
  | _=>exact hb.elim
 | fF cs=>cases mb with
  | cZ b=>obtain⟨h0,cs',h1,h2⟩:=hb;exact⟨hn b rfl h0,cs',h1,h2.sw hm hA⟩
  | _=>exact hb.elim
 | list k ex t l=>cases mb with
  | bK x=>
   cases (hb:LR X P A m h k ex t l x) with
   | nil=>exact LR.nil
   | emp h0 h1 h2 h3 h4=>exact LR.emp (hA _ h0) h1 h2 h3 h4
   | some h1 h2 h3 h4 h5 h6 h7 h8 h9=>exact LR.some h1 h2 h3 h4 h5 h6 h7 h8 ⟨h9.1,h9.2.1,fun j a i c v a1 a2 a3=>(h9.2.2 j a i c v a1 a2 a3).sw hm hA⟩
  | _=>exact hb.elim
 | map es=>cases mb with
  | cO b=>exact hb
  | _=>exact hb.elim
 | rQ cs=>cases mb with
  | cO b=>exact hb
  | _=>exact hb.elim
 | vU es=>cases mb with
  | cZ b=>exact⟨hn b rfl hb.1,hb.2⟩
  | _=>exact hb.elim
 | bn r n seen=>cases mb with
  | cO b=>
   obtain⟨c,h1,h2,h3⟩:=hb;refine⟨c,h1,?_,fun c' hc=>?_⟩
   ·rcases hm r with g | ⟨c',g,g2⟩ | ⟨c',g,g2⟩
    ·rw[g];exact h2
    ·rw[g2];rfl
    ·rw[g2];rfl
   ·rcases hm r with g | ⟨c2,g,g2⟩ | ⟨c2,g,g2⟩
    ·exact h3 c' (by rw[<-g];exact hc)
    ·rw[g2] at hc;simp at hc;subst hc;exact h3 c2 (.inl g)
    ·rw[g2] at hc;simp at hc;subst hc;exact h3 c2 (.inr g)
  | _=>exact hb.elim
 | mark=>cases mb with
  | cO b=>exact hb
  | _=>exact hb.elim
 | loop rd f nt env ps a c gG=>cases mb with
  | cO b=>obtain⟨e',h1,h2⟩:=hb;exact⟨e',h1,h2.sw hm hA⟩
  | _=>exact hb.elim
 | gone=>cases mb with
  | gone=>trivial
  | _=>exact hb.elim
end
theorem a1P {call:ay} {fv v:PV X.Γ} {xs:List (PV X.Γ)} {H H1:List (PB X.Γ)} {W:Nat->Prop} {r:Nat} {cs Jm:List (PV X.Γ)} (h0:H[r]? = some (.cells cs)) (h9:H1[r]? = some (.cells Jm)) (Sr:zX (H1.drop H.length)=true)
  (hs:KF X P call fv xs (H.set r (.fF cs)) v (H1.set r (.fF Jm)) W):KF X P call fv xs H v H1 fun k=>W k∧k≠r:=fun A m h tf nH hr hf hx=>by
 obtain⟨mb0,q1,q2⟩:=hr.at_ r _ h0;have WO:r<H.length:=(List.getElem?_eq_some_iff.1 h0).1;have XK:r<m.length:=by rw[hr.len];exact WO
 cases mb0 with
 | cO c=>
  obtain⟨cs',q3,q4⟩:=q2;have Sz:c∈aJ m:=aC q1 rfl;have hch:=(List.getElem?_eq_some_iff.1 q3).1;have hm:SwM m (m.set r (.cZ c)):=fun i=>by
   by_cases e:i=r
   ·subst e;exact .inr (.inl ⟨c,q1,by rw[List.getElem?_set_self XK]⟩)
   ·exact .inl (by rw[List.getElem?_set_ne (fun h=>e h.symm)])
  have old:∀ {i b:Nat},xH (m.set r (.cZ c)) i b->i≠r∧xH m i b:=fun {i b} ho=>by
   obtain⟨mb,a1,a2⟩:=ho;by_cases e:i=r
   ·subst e;rw[List.getElem?_set_self XK] at a1;cases a1;cases a2
   ·rw[List.getElem?_set_ne (fun h=>e h.symm)] at a1;exact⟨e,mb,a1,a2⟩
  have jh:∀ b,b∈aJ (m.set r (.cZ c))->b∈aJ m∧b≠c:=fun b hb=>by
   obtain⟨i,hi⟩:=fV hb;obtain⟨e,mb,a1,a2⟩:=old hi;refine⟨aC a1 a2,fun e2=>?_⟩;subst e2;exact e (dI hr.nodup a1 q1 a2 rfl)
  have hA:∀ b,AA A m b->AA (fun b=>A b∧b≠c) (m.set r (.cZ c)) b:=fun b hb=>⟨⟨hb.1,fun e=>hb.2 (e▸Sz)⟩,fun h=>hb.2 (jh b h).1⟩;have hr2:HR X P (fun b=>A b∧b≠c) (m.set r (.cZ c)) (H.set r (.fF cs)) h:=by
   refine⟨by simp[hr.len],fun i b hi=>?_,eX fun i j d a1 a2=>?_,fun b hb=>⟨hr.up b hb,by omega⟩,fun b hb=>⟨hr.yH b (jh b hb).1,(jh b hb).2⟩⟩
   ·by_cases e:i=r
    ·subst e;rw[List.getElem?_set_self WO] at hi;cases hi;exact⟨.cZ c,by rw[List.getElem?_set_self XK],fun h=>(jh c h).2 rfl,cs',q3,q4.sw hm hA⟩
    ·rw[List.getElem?_set_ne (fun h=>e h.symm)] at hi;obtain⟨mb,g1,g2⟩:=hr.at_ i b hi;exact⟨mb,by rw[List.getElem?_set_ne (fun h=>e h.symm)];exact g1,g2.sw hm hA fun d _ hn h=>hn (jh d h).1⟩
   ·obtain⟨_,ma,u1,u2⟩:=old a1;obtain⟨_,mc,v1,v2⟩:=old a2;exact dI hr.nodup u1 v1 u2 v2
  obtain⟨w,h1,ws,m1,c1,c2,c3,c4,c5,c6⟩:=hs (fun b=>A b∧b≠c) (m.set r (.cZ c)) h tf nH hr2 (hf.sw hm hA) (hx.sw hm hA)
  ·have a1R:r<H1.length:=(List.getElem?_eq_some_iff.1 h9).1;obtain⟨mb1,e1,e2⟩:=c2.at_ r (.fF Jm) (by rw[List.getElem?_set_self a1R]);have e3:=c5 r (.cZ c) (by rw[List.getElem?_set_self XK]);have e4:mb1=.cZ c:=by
    rcases e3 with e3 | e3<;>rw[e1] at e3<;>cases e3
    ·rfl
    ·exact e2.elim
   subst e4;obtain⟨p0,WU,p1,p2⟩:=e2;have Ac:r<m1.length:=(List.getElem?_eq_some_iff.1 e1).1;have Ij:SwM m1 (m1.set r (.cO c)):=fun i=>by
    by_cases e:i=r
    ·subst e;exact .inr (.inr ⟨c,e1,by rw[List.getElem?_set_self Ac]⟩)
    ·exact .inl (by rw[List.getElem?_set_ne (fun h=>e h.symm)])
   have UL:∀ {i:Nat} {mb:MB},i≠r->(m1.set r (.cO c))[i]? = some mb->m1[i]? = some mb:=fun {i mb} e h=>by rw[List.getElem?_set_ne (fun h=>e h.symm)] at h;exact h
   have uT:∀ b,b∈aJ (m1.set r (.cO c))->b=c∨b∈aJ m1:=fun b hb=>by
    obtain⟨i,mb,a1,a2⟩:=fV hb;by_cases e:i=r
    ·subst e;rw[List.getElem?_set_self Ac] at a1;cases a1;cases a2;exact .inl rfl
    ·exact .inr (aC (UL e a1) a2)
   have hA1:∀ b,AA (fun b=>A b∧b≠c) m1 b->AA A (m1.set r (.cO c)) b:=fun b hb=>⟨hb.1.1,fun h=>by
    rcases uT b h with e | e
    ·exact hb.1.2 e
    ·exact hb.2 e⟩
   refine⟨w,h1,ws,m1.set r (.cO c),c1,⟨by rw[List.length_set,c2.len,List.length_set],fun i b hi=>?_,eX fun i j d a1 a2=>?_,fun b hb=>(c2.up b hb).1,fun b hb=>?_⟩,c3.sw Ij hA1,⟨c4.len,fun b hb hn=>c4.same b hb fun h=>hn (jh b h).1,fun b hb=>?_,c4.grow⟩,fun i mb hi=>?_,fun b hb=>?_⟩
   ·by_cases e:i=r
    ·subst e;rw[h9] at hi;cases hi;exact⟨.cO c,by rw[List.getElem?_set_self Ac],WU,p1,p2.sw Ij hA1⟩
    ·obtain⟨mb,g1,g2⟩:=c2.at_ i b (by rw[List.getElem?_set_ne (fun h=>e h.symm)];exact hi);refine⟨mb,by rw[List.getElem?_set_ne (fun h=>e h.symm)];exact g1,g2.sw Ij hA1 fun d hd hn hd2=>?_⟩;subst hd;rcases uT d hd2 with e5 | e5
     ·subst e5;rcases Nat.lt_or_ge i m.length with aN | zB
      ·have WH:(m.set r (.cZ d))[i]? = m[i]?:=(by rw[List.getElem?_set_ne (fun h=>e h.symm)]);have hmi:m[i]? = some (.cZ d):=by
        rcases c5 i m[i] (by rw[WH];exact List.getElem?_eq_getElem aN) with e6 | e6<;>rw[g1] at e6<;>simp only[Option.some.injEq] at e6
        ·rw[List.getElem?_eq_getElem aN,<-e6]
        ·cases e6
       have hlH:i<H.length:=by rw[<-hr.len];exact aN
       obtain⟨mb9,e7,e8⟩:=hr.at_ i _ (List.getElem?_eq_getElem hlH);rw[hmi] at e7;cases e7;generalize H[i]=b9 at e8;cases b9<;>first | exact e8.elim | exact e8.1 Sz
      ·have e6:(H1.drop H.length)[i-H.length]? = some b:=by rw[List.getElem?_drop,<-hi];congr 1;rw[hr.len] at zB;omega
       have e7:=CW Sr e6;cases b<;>first | exact g2.elim | cases e7
     ·exact hn e5
   ·obtain⟨ma,u1,u2⟩:=a1;obtain⟨mc,v1,v2⟩:=a2;by_cases e:i=r<;>by_cases e':j=r
    ·rw[e,e']
    ·subst e;rw[List.getElem?_set_self Ac] at u1;cases u1;cases u2;exact absurd (aC (UL e' v1) v2) p0
    ·subst e';rw[List.getElem?_set_self Ac] at v1;cases v1;cases v2;exact absurd (aC (UL e u1) u2) p0
    ·exact dI c2.nodup (UL e u1) (UL e' v1) u2 v2
   ·rcases uT b hb with e | e
    ·subst e;exact hr.yH _ Sz
    ·exact (c2.yH b e).1
   ·rcases uT b hb with e | e
    ·subst e;exact .inl Sz
    ·rcases c4.new b e with g | g
     ·exact .inl (jh b g).1
     ·exact .inr g
   ·by_cases e:i=r
    ·subst e;rw[q1] at hi;cases hi;exact .inl (by rw[List.getElem?_set_self Ac])
    ·rw[List.getElem?_set_ne (fun h=>e h.symm)];exact c5 i mb (by rw[List.getElem?_set_ne (fun h=>e h.symm)];exact hi)
   ·obtain⟨k,k1,k2⟩:=c6 b hb;obtain⟨k3,k4⟩:=old k2;exact⟨k,⟨k1,k3⟩,k4⟩
 | _=>exact q2.elim
theorem XL {call:ay} {fv v:PV X.Γ} {xs:List (PV X.Γ)} {H H1:List (PB X.Γ)} {W:Nat->Prop} {r:Nat} {es es1:List (PV X.Γ×PV X.Γ)} (h0:H[r]? = some (.map es)) (h9:H1[r]? = some (.map es1)) (Sr:zX (H1.drop H.length)=true)
  (hs:KF X P call fv xs (H.set r (.vU es)) v (H1.set r (.vU es1)) W):KF X P call fv xs H v H1 fun k=>W k∧k≠r:=fun A m h tf nH hr hf hx=>by
 obtain⟨mb0,q1,q2⟩:=hr.at_ r _ h0;have WO:r<H.length:=(List.getElem?_eq_some_iff.1 h0).1;have XK:r<m.length:=by rw[hr.len];exact WO
 cases mb0 with
 | cO c=>
  obtain⟨cs',q3,q4⟩:=q2;have Sz:c∈aJ m:=aC q1 rfl;have hch:=(List.getElem?_eq_some_iff.1 q3).1;have hm:SwM m (m.set r (.cZ c)):=fun i=>by
   by_cases e:i=r
   ·subst e;exact .inr (.inl ⟨c,q1,by rw[List.getElem?_set_self XK]⟩)
   ·exact .inl (by rw[List.getElem?_set_ne (fun h=>e h.symm)])
  have old:∀ {i b:Nat},xH (m.set r (.cZ c)) i b->i≠r∧xH m i b:=fun {i b} ho=>by
   obtain⟨mb,a1,a2⟩:=ho;by_cases e:i=r
   ·subst e;rw[List.getElem?_set_self XK] at a1;cases a1;cases a2
   ·rw[List.getElem?_set_ne (fun h=>e h.symm)] at a1;exact⟨e,mb,a1,a2⟩
  have jh:∀ b,b∈aJ (m.set r (.cZ c))->b∈aJ m∧b≠c:=fun b hb=>by
   obtain⟨i,hi⟩:=fV hb;obtain⟨e,mb,a1,a2⟩:=old hi;refine⟨aC a1 a2,fun e2=>?_⟩;subst e2;exact e (dI hr.nodup a1 q1 a2 rfl)
  have hA:∀ b,AA A m b->AA (fun b=>A b∧b≠c) (m.set r (.cZ c)) b:=fun b hb=>⟨⟨hb.1,fun e=>hb.2 (e▸Sz)⟩,fun h=>hb.2 (jh b h).1⟩;have hr2:HR X P (fun b=>A b∧b≠c) (m.set r (.cZ c)) (H.set r (.vU es)) h:=by
   refine⟨by simp[hr.len],fun i b hi=>?_,eX fun i j d a1 a2=>?_,fun b hb=>⟨hr.up b hb,by omega⟩,fun b hb=>⟨hr.yH b (jh b hb).1,(jh b hb).2⟩⟩
   ·by_cases e:i=r
    ·subst e;rw[List.getElem?_set_self WO] at hi;cases hi;exact⟨.cZ c,by rw[List.getElem?_set_self XK],fun h=>(jh c h).2 rfl,cs',q3,q4⟩
    ·rw[List.getElem?_set_ne (fun h=>e h.symm)] at hi;obtain⟨mb,g1,g2⟩:=hr.at_ i b hi;exact⟨mb,by rw[List.getElem?_set_ne (fun h=>e h.symm)];exact g1,g2.sw hm hA fun d _ hn h=>hn (jh d h).1⟩
   ·obtain⟨_,ma,u1,u2⟩:=old a1;obtain⟨_,mc,v1,v2⟩:=old a2;exact dI hr.nodup u1 v1 u2 v2
  obtain⟨w,h1,ws,m1,c1,c2,c3,c4,c5,c6⟩:=hs (fun b=>A b∧b≠c) (m.set r (.cZ c)) h tf nH hr2 (hf.sw hm hA) (hx.sw hm hA)
  ·have a1R:r<H1.length:=(List.getElem?_eq_some_iff.1 h9).1;obtain⟨mb1,e1,e2⟩:=c2.at_ r (.vU es1) (by rw[List.getElem?_set_self a1R]);have e3:=c5 r (.cZ c) (by rw[List.getElem?_set_self XK]);have e4:mb1=.cZ c:=by
    rcases e3 with e3 | e3<;>rw[e1] at e3<;>cases e3
    ·rfl
    ·exact e2.elim
   subst e4;obtain⟨p0,WU,p1,p2⟩:=e2;have Ac:r<m1.length:=(List.getElem?_eq_some_iff.1 e1).1;have Ij:SwM m1 (m1.set r (.cO c)):=fun i=>by
    by_cases e:i=r
    ·subst e;exact .inr (.inr ⟨c,e1,by rw[List.getElem?_set_self Ac]⟩)
    ·exact .inl (by rw[List.getElem?_set_ne (fun h=>e h.symm)])
   have UL:∀ {i:Nat} {mb:MB},i≠r->(m1.set r (.cO c))[i]? = some mb->m1[i]? = some mb:=fun {i mb} e h=>by rw[List.getElem?_set_ne (fun h=>e h.symm)] at h;exact h
   have uT:∀ b,b∈aJ (m1.set r (.cO c))->b=c∨b∈aJ m1:=fun b hb=>by
    obtain⟨i,mb,a1,a2⟩:=fV hb;by_cases e:i=r
    ·subst e;rw[List.getElem?_set_self Ac] at a1;cases a1;cases a2;exact .inl rfl
    ·exact .inr (aC (UL e a1) a2)
   have hA1:∀ b,AA (fun b=>A b∧b≠c) m1 b->AA A (m1.set r (.cO c)) b:=fun b hb=>⟨hb.1.1,fun h=>by
    rcases uT b h with e | e
    ·exact hb.1.2 e
    ·exact hb.2 e⟩
   refine⟨w,h1,ws,m1.set r (.cO c),c1,⟨by rw[List.length_set,c2.len,List.length_set],fun i b hi=>?_,eX fun i j d a1 a2=>?_,fun b hb=>(c2.up b hb).1,fun b hb=>?_⟩,c3.sw Ij hA1,⟨c4.len,fun b hb hn=>c4.same b hb fun h=>hn (jh b h).1,fun b hb=>?_,c4.grow⟩,fun i mb hi=>?_,fun b hb=>?_⟩
   ·by_cases e:i=r
    ·subst e;rw[h9] at hi;cases hi;exact⟨.cO c,by rw[List.getElem?_set_self Ac],WU,p1,p2⟩
    ·obtain⟨mb,g1,g2⟩:=c2.at_ i b (by rw[List.getElem?_set_ne (fun h=>e h.symm)];exact hi);refine⟨mb,by rw[List.getElem?_set_ne (fun h=>e h.symm)];exact g1,g2.sw Ij hA1 fun d hd hn hd2=>?_⟩;subst hd;rcases uT d hd2 with e5 | e5
     ·subst e5;rcases Nat.lt_or_ge i m.length with aN | zB
      ·have WH:(m.set r (.cZ d))[i]? = m[i]?:=(by rw[List.getElem?_set_ne (fun h=>e h.symm)]);have hmi:m[i]? = some (.cZ d):=by
        rcases c5 i m[i] (by rw[WH];exact List.getElem?_eq_getElem aN) with e6 | e6<;>rw[g1] at e6<;>simp only[Option.some.injEq] at e6
        ·rw[List.getElem?_eq_getElem aN,<-e6]
        ·cases e6
       have hlH:i<H.length:=by rw[<-hr.len];exact aN
       obtain⟨mb9,e7,e8⟩:=hr.at_ i _ (List.getElem?_eq_getElem hlH);rw[hmi] at e7;cases e7;generalize H[i]=b9 at e8;cases b9<;>first | exact e8.elim | exact e8.1 Sz
      ·have e6:(H1.drop H.length)[i-H.length]? = some b:=by rw[List.getElem?_drop,<-hi];congr 1;rw[hr.len] at zB;omega
       have e7:=CW Sr e6;cases b<;>first | exact g2.elim | cases e7
     ·exact hn e5
   ·obtain⟨ma,u1,u2⟩:=a1;obtain⟨mc,v1,v2⟩:=a2;by_cases e:i=r<;>by_cases e':j=r
    ·rw[e,e']
    ·subst e;rw[List.getElem?_set_self Ac] at u1;cases u1;cases u2;exact absurd (aC (UL e' v1) v2) p0
    ·subst e';rw[List.getElem?_set_self Ac] at v1;cases v1;cases v2;exact absurd (aC (UL e u1) u2) p0
    ·exact dI c2.nodup (UL e u1) (UL e' v1) u2 v2
   ·rcases uT b hb with e | e
    ·subst e;exact hr.yH _ Sz
    ·exact (c2.yH b e).1
   ·rcases uT b hb with e | e
    ·subst e;exact .inl Sz
    ·rcases c4.new b e with g | g
     ·exact .inl (jh b g).1
     ·exact .inr g
   ·by_cases e:i=r
    ·subst e;rw[q1] at hi;cases hi;exact .inl (by rw[List.getElem?_set_self Ac])
    ·rw[List.getElem?_set_ne (fun h=>e h.symm)];exact c5 i mb (by rw[List.getElem?_set_ne (fun h=>e h.symm)];exact hi)
   ·obtain⟨k,k1,k2⟩:=c6 b hb;obtain⟨k3,k4⟩:=old k2;exact⟨k,⟨k1,k3⟩,k4⟩
 | _=>exact q2.elim
theorem NP {call:ay} {fv v:PV X.Γ} {xs:List (PV X.Γ)} {W:Nat->Prop}:∀ {rs:List Nat} {H H1 Hr LC:List (PB X.Γ)},roB rs H H1=some (Hr,LC)->zX (H1.drop H.length)=true->KF X P call fv xs Hr v LC W->KF X P call fv xs H v H1 fun k=>W k∧k∉rs
 | [],H,H1,Hr,LC,h1,hn,hs=>by
  simp only[roB,Option.some.injEq,Prod.mk.injEq] at h1;obtain⟨rfl,rfl⟩:=h1;intro A m h tf nH a b c;obtain⟨w,h1,ws,m1,c1,c2,c3,c4,c5,c6⟩:=hs A m h tf nH a b c;exact⟨w,h1,ws,m1,c1,c2,c3,c4,c5,fun b hb=>by obtain⟨k,k1,k2⟩:=c6 b hb;exact⟨k,⟨k1,by simp⟩,k2⟩⟩
 | r::rs,H,H1,Hr,LC,h1,hn,hs=>by
  simp only[roB] at h1;split at h1
  ·rename_i cs Jm e1 e2;have aN:r<H.length:=(List.getElem?_eq_some_iff.1 e1).1;have:=a1P e1 e2 hn (NP h1 (by rw[List.length_set,List.drop_set_of_lt aN];exact hn) hs);intro A m h tf nH a b c;obtain⟨w,h1,ws,m1,c1,c2,c3,c4,c5,c6⟩:=this A m h tf nH a b c;exact⟨w,h1,ws,m1,c1,c2,c3,c4,c5,fun b hb=>by obtain⟨k,⟨⟨k1,k3⟩,k4⟩,k2⟩:=c6 b hb;exact⟨k,⟨k1,by simp[k3,k4]⟩,k2⟩⟩
  ·rename_i cs Jm e1 e2;have aN:r<H.length:=(List.getElem?_eq_some_iff.1 e1).1;have:=XL e1 e2 hn (NP h1 (by rw[List.length_set,List.drop_set_of_lt aN];exact hn) hs);intro A m h tf nH a b c;obtain⟨w,h1,ws,m1,c1,c2,c3,c4,c5,c6⟩:=this A m h tf nH a b c;exact⟨w,h1,ws,m1,c1,c2,c3,c4,c5,fun b hb=>by obtain⟨k,⟨⟨k1,k3⟩,k4⟩,k2⟩:=c6 b hb;exact⟨k,⟨k1,by simp[k3,k4]⟩,k2⟩⟩
  cases h1
theorem KG {α:Type} {rs:List Nat}:∀ {ks:List α} {i p:Nat} {k:α},ks[p]? = some k->i+p∉rs->k∈QX rs i ks
 | [],_,_,_,h,_=>by simp at h
 | a::ks,i,0,k,h,hn=>by
  simp only[List.getElem?_cons_zero,Option.some.injEq] at h;subst h;simp only[QX];rw[if_neg (by simpa using hn)];exact List.mem_cons_self
 | a::ks,i,p+1,k,h,hn=>by
  have:=KG (ks:=ks) (i:=i+1) (p:=p) (k:=k) (by simpa using h) (by rwa [Nat.add_right_comm,Nat.add_assoc] );simp only[QX];split
  ·exact this
  exact List.mem_cons_of_mem _ this
theorem Ad (hX:aX X P) {call:ay} {ks:List Nat} {H' Hp H H1 LC:List (PB X.Γ)} {fv fv' v v':PV X.Γ} {xs xs':List (PV X.Γ)} {W:Nat->Prop} (hs:KF X P call fv xs H v H1 W)
  (lH:ks.Nodup) (hp:tJ H' ks=some Hp) (hH:iM (ni ks) Hp=some H) (hf:bT (ni ks) fv'=some fv) (hx:bT.jf (ni ks) xs'=some xs)
  (hv:bT (bk ks H'.length) v=some v') (hH1:iM (bk ks H'.length) H1=some LC) (Sr:zX (H1.drop ks.length)=true) :
  ∀ (A:Nat->Prop) (m':List MB) (h:List HB) (tf:TV) (nH:List TV),HR X P A m' H' h->VR X P (AA A m') m' h fv' tf->aH X P (AA A m') m' h xs' nH ->
  ∃ w h1 ws m1,call tf nH h=some (w,h1,ws)∧HR X P A m1 (putAt ks LC H'++LC.drop ks.length) h1∧VR X P (AA A m1) m1 h1 v' w∧Fr m' h m1 h1∧Up m' m1∧∀ b∈ws,∃ p k,ks[p]? = some k∧W p∧xH m' k b:=by
 intro A m' h tf nH hr hf' FU;have hpg:=vH hp;have hHg:=kS hH;have hkH:∀ {p k:Nat},ks[p]? = some k->k<m'.length:=fun {p k} hk=>by
  obtain⟨b,q1,_⟩:=hpg.2 hk;rw[hr.len];exact (List.getElem?_eq_some_iff.1 q1).1
 have hkm:∀ k∈ks,k<m'.length:=fun k hk=>by
  obtain⟨i,hi⟩:=List.getElem?_of_mem hk;exact hkH hi
 let m:List MB:=ks.map fun k=>m'.getD k .gone
 have hm:∀ {p k:Nat},ks[p]? = some k->m[p]? = m'[k]?:=fun {p k} hk=>by
  show (ks.map _)[p]? = _;rw[List.getElem?_map,hk];have:=hkH hk;simp[List.getD_eq_getElem?_getD,this]
 have UM:m.length=ks.length:=List.length_map ..;have Ho:∀ {p:Nat} {mb:MB},m[p]? = some mb->∃ k,ks[p]? = some k∧m'[k]? = some mb:=fun {p mb} hpm=>by
  have:p<ks.length:=by rw[<-UM];exact (List.getElem?_eq_some_iff.1 hpm).1
  have hk:=List.getElem?_eq_getElem this;exact⟨_,hk,by rw[<-hm hk];exact hpm⟩
 have jh:∀ b,b∈aJ m->b∈aJ m':=fun b hb=>by
  obtain⟨j,mb,q1,q2⟩:=fV hb;obtain⟨k,_,q3⟩:=Ho q1;exact aC q3 q2
 have a1T:∀ {i:Nat} {mb:MB} {b:Nat},i∉ks->m'[i]? = some mb->mb.own=some b->b∉aJ m:=fun {i mb b} hi h1 h2 hb=>by
  obtain⟨j,mc,q1,q2⟩:=fV hb;obtain⟨k,q3,q4⟩:=Ho q1;have:=dI hr.nodup h1 q4 h2 q2;subst this;exact hi (List.mem_of_getElem? q3)
 let A2:Nat->Prop:=fun b=>A b∧(b∈aJ m'->b∈aJ m)
 have hA:∀ b,AA A m' b->AA A2 m b:=fun b hb=>⟨⟨hb.1,fun h9=>absurd h9 hb.2⟩,fun h9=>hb.2 (jh b h9)⟩;have hg:∀ i j,ni ks i=some j->m[j]? = m'[i]?:=fun i j BJ=>hm (EG BJ);have hr2:HR X P A2 m H h:=by
  refine⟨by rw[UM,hHg.1,hpg.1],fun j b hj=>?_,eX fun i j c q1 q2=>?_,fun b hb=>⟨hr.up b hb,fun h9=>absurd (hr.inb h9) (by omega)⟩,fun b hb=>⟨hr.yH b (jh b hb),fun _=>hb⟩⟩
  ·obtain⟨b0,q1,q2⟩:=hHg.2 hj;have Ls:j<ks.length:=by rw[<-hpg.1];exact (List.getElem?_eq_some_iff.1 q1).1
   have hk:=List.getElem?_eq_getElem Ls;obtain⟨b9,q5,q6⟩:=hpg.2 hk;rw[q1] at q6;cases q6;obtain⟨mb,q3,q4⟩:=hr.at_ _ _ q5;exact⟨mb,by rw[hm hk];exact q3,vG hX hg hA (fun c _ h9 h8=>h9 (jh c h8)) q4 q2⟩
  ·obtain⟨ma,a1,a2⟩:=q1;obtain⟨mc,c1,c2⟩:=q2;obtain⟨k,a3,a4⟩:=Ho a1;obtain⟨l,c3,c4⟩:=Ho c1;have e:=dI hr.nodup a4 c4 a2 c2;subst e;exact (List.getElem?_inj (List.getElem?_eq_some_iff.1 a3).1 lH).1 (by rw[a3,c3])
 obtain⟨w,h1,ws,m1,c1,c2,c3,c4,c5,c6⟩:=hs A2 m h tf nH hr2 (CV hg hA hX hf' hf) (ql hX hg hA FU hx);have UN:ks.length<=m1.length:=by
  rcases Nat.eq_zero_or_pos ks.length with e | e
  ·omega
  ·have aN:ks.length-1<m.length:=(by omega);have:=c5 (ks.length-1) m[ks.length-1] (List.getElem?_eq_getElem aN);rcases this with g | g<;>(have:=(List.getElem?_eq_some_iff.1 g).1;omega)
 let SA:List MB:=putAt ks m1 m'++m1.drop ks.length
 have hn:m'.length=H'.length:=hr.len;have XM:(putAt ks m1 m').length=m'.length:=kT;have PU:∀ {p k:Nat},ks[p]? = some k->SA[k]? = m1[p]?:=fun {p k} hk=>by
  show (putAt ks m1 m'++_)[k]? = _;rw[List.getElem?_append_left (by rw[XM];exact hkH hk),EJ lH hkm UN hk]
 have NQ:∀ {i:Nat},i<m'.length->i∉ks->SA[i]? = m'[i]?:=fun {i} hi hk=>by
  show (putAt ks m1 m'++_)[i]? = _;rw[List.getElem?_append_left (by rw[XM];exact hi),Aa hk]
 have NR:∀ {j:Nat},ks.length<=j->SA[m'.length+(j-ks.length)]? = m1[j]?:=fun {j} hj=>by
  show (putAt ks m1 m'++_)[_]? = _;rw[List.getElem?_append_right (by rw[XM];omega),XM,Nat.add_sub_cancel_left,List.getElem?_drop];congr 1;omega
 have hgb:∀ j i,bk ks H'.length j=some i->SA[i]? = m1[j]?:=fun j i BJ=>by
  unfold bk at BJ;split at BJ
  ·rename_i k hk;cases BJ;exact PU hk
  ·rename_i hk;cases BJ;rw[<-hn];exact NR (by rw[List.getElem?_eq_none_iff] at hk;exact hk)
 have yh:∀ {i:Nat} {mb:MB},SA[i]? = some mb->(∃ p,ks[p]? = some i∧m1[p]? = some mb)∨(i<m'.length∧i∉ks∧m'[i]? = some mb)∨(∃ j,ks.length<=j∧i=m'.length+(j-ks.length)∧m1[j]? = some mb):=fun {i mb} hi=>by
  rcases Nat.lt_or_ge i m'.length with aN | zB
  ·by_cases hk:i∈ks
   ·obtain⟨p,hp⟩:=List.getElem?_of_mem hk;exact .inl ⟨p,hp,by rw[<-PU hp];exact hi⟩
   ·exact .inr (.inl ⟨aN,hk,by rw[<-NQ aN hk];exact hi⟩)
  ·refine .inr (.inr ⟨i-m'.length+ks.length,by omega,by omega,?_⟩);rw[<-NR (by omega)];rw[<-hi];congr 1;omega
 have mD:∀ {b:Nat},b∈aJ SA->b∈aJ m1∨∃ i mb,i∉ks∧m'[i]? = some mb∧mb.own=some b:=fun {b} hb=>by
  obtain⟨i,mb,q1,q2⟩:=fV hb;rcases yh q1 with⟨p,_,q3⟩ | ⟨_,q3,q4⟩ | ⟨j,_,_,q3⟩
  ·exact .inl (aC q3 q2)
  ·exact .inr ⟨i,mb,q3,q4,q2⟩
  ·exact .inl (aC q3 q2)
 have XO:∀ {i b:Nat} {mb:MB},i∉ks->m'[i]? = some mb->mb.own=some b->b∉aJ m1:=fun {i b mb} h1 h2 h3 h4=>by
  rcases c4.new b h4 with g | g
  ·exact a1T h1 h2 h3 g
  ·exact absurd (hr.inb (aC h2 h3)) (by omega)
 have hA3:∀ b,AA A2 m1 b->AA A SA b:=fun b hb=>⟨hb.1.1,fun h9=>by
  rcases mD h9 with g | ⟨i,mb,g1,g2,g3⟩
  ·exact hb.2 g
  ·exact a1T g1 g2 g3 (hb.1.2 (aC g2 g3))⟩
 have hF:Fr m' h SA h1:=⟨c4.len,fun b hb Lr=>c4.same b hb fun h9=>Lr (jh b h9),fun b hb=>by
  rcases mD hb with g | ⟨i,mb,g1,g2,g3⟩
  ·rcases c4.new b g with g | g
   ·exact .inl (jh b g)
   ·exact .inr g
  ·exact .inl (aC g2 g3),c4.grow⟩
 have hU:Up m' SA:=fun i mb hi=>by
  have aN:=(List.getElem?_eq_some_iff.1 hi).1;by_cases hk:i∈ks
  ·obtain⟨p,hp⟩:=List.getElem?_of_mem hk;rw[PU hp];exact c5 p mb (by rw[hm hp];exact hi)
  ·exact .inl (by rw[NQ aN hk];exact hi)
 have a1U:=kS hH1;have a5v:m1.length=H1.length:=c2.len;refine⟨w,h1,ws,SA,c1,⟨?_,fun i b hi=>?_,?_,fun b hb=>(c2.up b hb).1,fun b hb=>?_⟩,CV hgb hA3 hX c3 hv,hF,hU,fun b hb=>?_⟩
 ·show (putAt ks m1 m'++_).length=_;rw[List.length_append,List.length_append,kT,kT,List.length_drop,List.length_drop,a1U.1,a5v,hn]
 ·have a5w:ks.length<=LC.length:=by rw[a1U.1,<-a5v];exact UN
  have a9D:∀ k∈ks,k<H'.length:=fun k hk=>by rw[<-hn];exact hkm k hk
  have back:∀ {j:Nat} {b:PB X.Γ},LC[j]? = some b->∃ mb,m1[j]? = some mb∧BR X P (AA A SA) SA h1 b mb:=fun {j b} hj=>by
   obtain⟨b0,q1,q2⟩:=a1U.2 hj;obtain⟨mb,q3,q4⟩:=c2.at_ j b0 q1;refine⟨mb,q3,vG hX hgb hA3 (fun c e h9 h8=>?_) q4 q2⟩;rcases mD h8 with g | ⟨i,BM,g1,g2,g3⟩
   ·exact h9 g
   ·subst e;rcases Nat.lt_or_ge j ks.length with hj1 | hj1
    ·have hk:=List.getElem?_eq_getElem hj1;have Ls:j<m.length:=by rw[UM];exact hj1
     have hmj:m[j]? = some (.cZ c):=by
      rcases c5 j _ (List.getElem?_eq_getElem Ls) with e | e<;>rw[q3] at e<;>simp only[Option.some.injEq] at e
      ·rw[List.getElem?_eq_getElem Ls,<-e]
      ·cases e
     obtain⟨k,e1,e2⟩:=Ho hmj;obtain⟨b9,e3,_⟩:=hpg.2 e1;obtain⟨mb9,e4,e5⟩:=hr.at_ _ _ e3;rw[e2] at e4;cases e4;cases b9<;>first | exact e5.elim | exact e5.1 (aC g2 g3)
    ·have e1:(H1.drop ks.length)[j-ks.length]? = some b0:=by rw[List.getElem?_drop,<-q1];congr 1;omega
     have e2:=CW Sr e1;cases b0<;>first | exact q4.elim | cases e2
  rcases Nat.lt_or_ge i H'.length with aN | zB
  ·rw[List.getElem?_append_left (by rw[kT];exact aN)] at hi;by_cases hk:i∈ks
   ·obtain⟨p,hpk⟩:=List.getElem?_of_mem hk;rw[EJ lH a9D a5w hpk] at hi;obtain⟨mb,q1,q2⟩:=back hi;exact⟨mb,by rw[PU hpk];exact q1,q2⟩
   ·rw[Aa hk] at hi;obtain⟨mb,q1,q2⟩:=hr.at_ i b hi;refine⟨mb,by rw[NQ (by rw[hn];exact aN) hk];exact q1,q2.step hF hU fun c hc=>?_⟩;exact c4.same c (hr.inb (aC q1 hc)) (a1T hk q1 hc)
  ·rw[List.getElem?_append_right (by rw[kT];exact zB),kT,List.getElem?_drop] at hi;obtain⟨mb,q1,q2⟩:=back hi;refine⟨mb,?_,q2⟩;have:=NR (j:=ks.length+(i-H'.length)) (by omega);rw[q1] at this;rw[<-this];congr 1;omega
 ·refine eX fun i j c q1 q2=>?_;obtain⟨ma,a1,a2⟩:=q1;obtain⟨mc,b1,b2⟩:=q2;rcases yh a1 with⟨p,a3,a4⟩ | ⟨a3,a4,a5⟩ | ⟨p,a3,a4,a5⟩<;>rcases yh b1 with⟨q,b3,b4⟩ | ⟨b3,b4,b5⟩ | ⟨q,b3,b4,b5⟩
  ·have:=dI c2.nodup a4 b4 a2 b2;subst this;rw[a3] at b3;cases b3;rfl
  ·exact absurd (aC a4 a2) (XO b4 b5 b2)
  ·have:=dI c2.nodup a4 b5 a2 b2;subst this;have:=(List.getElem?_eq_some_iff.1 a3).1;omega
  ·exact absurd (aC b4 b2) (XO a4 a5 a2)
  ·exact dI hr.nodup a5 b5 a2 b2
  ·exact absurd (aC b5 b2) (XO a4 a5 a2)
  ·have:=dI c2.nodup a5 b4 a2 b2;subst this;have:=(List.getElem?_eq_some_iff.1 b3).1;omega
  ·exact absurd (aC a5 a2) (XO b4 b5 b2)
  ·have:=dI c2.nodup a5 b5 a2 b2;subst this;omega
 ·rcases mD hb with g | ⟨i,mb,g1,g2,g3⟩
  ·exact (c2.yH b g).1
  ·exact hr.yH b (aC g2 g3)
 ·obtain⟨j,hw,mb,q1,q2⟩:=c6 b hb;obtain⟨k,q3,q4⟩:=Ho q1;exact⟨j,k,q3,hw,mb,q4,q2⟩
end
open Go Tw
section
variable {X:iQ} {P:Program} {A B F:Nat->Prop} {m m':List MB} {h h':List HB} {H H':List (PB X.Γ)}
variable {call:ay} {kX:iO X.Γ} {site:Nat->Bool} {ρ:Type} {y:ρ}
def UO (X:iQ) (P:Program) (A:Nat->Prop) (m:List MB) (call:ay) (site:Nat->Bool) (ts:St) (o:Oper) (k:PE X.Γ->aV X.Γ->PI->PT X.Γ->OT ρ) (y:ρ):Prop:=
 ∃ pe fJ pi Bg,OpR X P A m call site ts o pe fJ pi∧(k pe fJ pi Bg).Ends y
theorem lD {ps:aV X.Γ} {ts:St} (hR:nR X P A m ps ts) {o:Oper} {k:PE X.Γ->aV X.Γ->PI->PT X.Γ->OT ρ} {r:Option (TV×St×gu)} {v:PV X.Γ} {H1:List (PB X.Γ)} {pi:PI} {an:PT X.Γ} (hm:FX X P A m ts r v H1 pi)
  (ho:jq P call site ts o=r.map fun (v,s,i)=>(.val v,s,i)) (hk:(k (.val v) { ps with heap:=H1 } pi an).Ends y):UO X P A m call site ts o k y:=by
 obtain⟨w,h1,ti,m1,rfl,e1,e2,e3,e4,e5,e6⟩:=hm;exact⟨.val v,_,_,_,⟨.val w,_,ti,m1,ho,rfl,rfl,hR.step e1 e3 e4,e2,e3,e4,e5,e6⟩,hk⟩
theorem dY {ps:aV X.Γ} {ts:St} (hR:nR X P A m ps ts) {o:Oper} {k:PE X.Γ->aV X.Γ->PI->PT X.Γ->OT ρ} {v:PV X.Γ} {w:TV} {pi:PI} {an:PT X.Γ} (hv:VR X P (AA A m) m ts.heap v w) (ho:jq P call site ts o=some (.val w,ts,aA)) (hk:(k (.val v) ps pi an).Ends y):UO X P A m call site ts o k y:=
 ⟨.val v,_,_,_,nG hR ho (ji hv),hk⟩
theorem a1V {op:BinOp} {a b v:PV X.Γ} {ta tb:TV} {ps:List Prop} {t:TypeId} {x z:Operand} (ha:VR X P A m h a ta) (hb:VR X P A m h b tb) (hd:a1B op a b=some (v,ps)) (hp:∀ p∈ps,p) :
  ∃ w,kH P op t x z ta tb=some w∧VR X P A m h v w:=by
 unfold a1B at hd;split at hd
 ·cases ha with
  | gone hi _ _=>simp[aG] at hi
  | int=>
   cases hb with
   | gone hi _ _=>simp[aG] at hi
   | int=>
    split at hd
    ·split at hd
     ·rename_i e;subst e;cases hd;exact⟨_,Un (hp _ (.head _)),.int _ _⟩
     ·cases hd
    ·split at hd
     ·rename_i e;subst e;cases hd;exact⟨_,Uo (hp _ (.head _)),.int _ _⟩
     ·cases hd
    ·cases hd;exact⟨_,Ul (hp _ (.head _)),.int _ _⟩
    ·cases hd;exact⟨_,Um (hp _ (.head _)),.int _ _⟩
    ·cases hd
 ·cases hd
theorem a1W (hX:aX X P) (hO:lC X P call kX) {ps:aV X.Γ} {ts:St} (hR:nR X P A m ps ts) {o:Oper} {an:PT X.Γ} {k:PE X.Γ->aV X.Γ->PI->PT X.Γ->OT ρ} (hk:(a1E X P kX (qC X P call) site ps o an k).Ends y):UO X P A m call site ts o k y:=by
 have hE:=hR.env;unfold a1E at hk;split at hk
 ·-- move
  rename_i x ho;split at hk
  ·rename_i v hv;obtain⟨e,h1,h2⟩:=jE hE hv;exact⟨_,_,_,_,nG hR (by simp only[jq,ho,h1,Option.map_some]) h2,hk⟩
  exact hk.elim
 ·rename_i x ho;split at hk
  ·rename_i v hv;obtain⟨e,h1,h2⟩:=jE hE hv;exact⟨_,_,_,_,nG hR (by simp only[jq,ho,h1,Option.map_some]) h2,hk⟩
  exact hk.elim
 ·-- pick
  rename_i c a b ho;split at hk
  ·rename_i u hu;obtain⟨tu,h1,h2⟩:=Ku hE hu;obtain⟨t,Bg,rfl,hk⟩:=NJ hk h2;split at hk
   ·rename_i v hv;obtain⟨e,g1,g2⟩:=jE hE hv;exact⟨_,_,_,_,nG (hR.su h1) (by simp only[jq,ho,h1,g1,Option.map_some]) g2,hk⟩
   exact hk.elim
  exact hk.elim
 ·-- alloc
  rename_i e ho;split at hk
  ·rename_i z hz;obtain⟨z',g1,g2⟩:=yN (A:=AA A m) (m:=m) (h:=ts.heap) hz;obtain⟨m1,e1,e2,e3,e4,e5,e6⟩:=H8 hR (site:=site (o.dst.getD 0)) g2;exact⟨_,_,_,_,⟨_,_,aA,m1,by simp only[jq,ho,g1,Option.map_some],e1,e2,e3,e4,e5,e6,.none,fun b hb=>by cases hb⟩,hk⟩
  exact hk.elim
 ·-- box
  rename_i t x ho;split at hk
  ·rename_i v hv;obtain⟨w,g1,g2⟩:=fK hE hv;split at hk
   ·rename_i pR;have hc:=yJ g2;obtain⟨m1,e1,e2,e3,e4,e5,e6⟩:=H8 hR (site:=site (o.dst.getD 0)) hc;exact⟨_,_,_,_,⟨_,_,aA,m1,by simp only[jq,ho,g1,vw hc,pR,if_true],e1,e2,e3,e4,e5,e6,.none,fun b hb=>by cases hb⟩,hk⟩
   exact hk.elim
  exact hk.elim
 ·-- build
  rename_i t qs ho;split at hk
  ·rename_i vs Ji;obtain⟨ws,g1,g2⟩:=NC hE Ji;split at hk
   ·rename_i v hv;obtain⟨w,g3,g4⟩:=Uz g2 hv;exact dY hR g4 (by simp only[jq,ho,g1,g3,Option.map_some]) hk
   exact hk.elim
  exact hk.elim
 ·-- buildSlice
  rename_i t len qs ho;split at hk
  ·rename_i vs Ji;obtain⟨ws,g1,g2⟩:=NC hE Ji;split at hk
   ·rename_i v H1 hv;refine lD hR (oO hX hR g2 hv) ?_ hk;simp only[jq,ho,g1,Option.map_map];rfl
   exact hk.elim
  exact hk.elim
 ·-- load
  rename_i t a ho;split at hk
  ·rename_i pa ha;obtain⟨ea,g1,g2⟩:=jE hE ha;split at hk
   ·rename_i v i hv;obtain⟨w,ti,g3,g4,g5,g6⟩:=xP hX hR g2 hv;exact⟨.val v,_,_,_,⟨.val w,ts,ti,m,by simp only[jq,ho,g1,g3,Option.map_some],rfl,rfl,hR,g4,.refl,.refl,g5,fun b hb=>by rw[g6] at hb;cases hb⟩,hk⟩
   exact hk.elim
  exact hk.elim
 ·-- store
  rename_i t a x ho;split at hk
  ·rename_i pa v ha hv;obtain⟨ea,g1,g2⟩:=jE hE ha;obtain⟨w,g3,g4⟩:=fK hE hv;split at hk
   ·rename_i s i hs;obtain⟨dX,ti,m1,e1,e2,e3,e4,e5,e6,e7,e8⟩:=pO hX hR g2 g4 hs;exact⟨.undef,_,_,_,⟨.undef,dX,ti,m1,by simp only[jq,ho,g1,g3,e1,Option.map_some],e2,e3,e4,trivial,e5,e6,e7,e8⟩,hk⟩
   exact hk.elim
  exact hk.elim
 ·-- nilCheck
  rename_i x ho;have go:∀ {pe:PE X.Γ} {ev:EV},Aw ts.env x=some ev->CP X P (AA A m) m ts.heap pe ev->(match ev with | .loc _ _=>True | .val (.ptr _ _ _)=>True | .val (.fn _ _ _)=>True | _=>False)->(k pe ps pI an).Ends y->UO X P A m call site ts o k y:=by
   intro pe ev h1 h2 h3 h4;refine⟨_,_,_,_,nG hR ?_ h2,h4⟩;cases ev with
   | loc a b=>simp only[jq,ho,h1]
   | val v=>cases v<;>simp at h3<;>simp only[jq,ho,h1]
   | undef=>simp at h3
  split at hk
  ·rename_i a b ha;obtain⟨ea,g1,g2⟩:=jE hE ha;have:=vC g2;subst this;exact go g1 g2 trivial hk
  ·rename_i a b c ha;obtain⟨ea,g1,g2⟩:=jE hE ha;obtain⟨w,rfl,g3⟩:=cu g2;split at hk
   ·rename_i cs hb;obtain⟨mb,f1,f2⟩:=hR.heap.at_ a _ hb;cases mb with
    | cO cb=>
     cases g3 with
     | ptr e=>exact go g1 g2 trivial hk
     | gone hi e _=>simp only[aG,Option.some.injEq] at hi;subst hi;rw[f1] at e;cases e
    | _=>exact f2.elim
   ·rename_i cs hb;obtain⟨mb,f1,f2⟩:=hR.heap.at_ a _ hb;cases mb with
    | cZ cb=>
     cases g3 with
     | ptr e=>rw[f1] at e;cases e
     | gone hi e _=>
      simp only[aG,Option.some.injEq] at hi;subst hi;rw[f1] at e;cases e with
      | r _ e=>simp only[Xx,Option.some.injEq] at e;subst e;exact go g1 g2 trivial hk
    | _=>exact f2.elim
   exact hk.elim
  ·rename_i a b c ha;obtain⟨ea,g1,g2⟩:=jE hE ha;obtain⟨w,rfl,g3⟩:=cu g2;split at hk
   ·rename_i q1 q2 q3 q4 hb;obtain⟨mb,f1,f2⟩:=hR.heap.at_ a _ hb;cases mb with
    | bK cb=>
     cases g3 with
     | row e=>exact go g1 g2 trivial hk
     | gone hi e _=>simp only[aG,Option.some.injEq] at hi;subst hi;rw[f1] at e;cases e
    | _=>exact f2.elim
   exact hk.elim
  ·rename_i a b c ha;obtain⟨ea,g1,g2⟩:=jE hE ha;obtain⟨w,rfl,g3⟩:=cu g2;cases g3 with
   | el=>exact go g1 g2 trivial hk
   | gone hi _ _=>simp[aG] at hi
  ·rename_i a b c ha;obtain⟨ea,g1,g2⟩:=jE hE ha;obtain⟨w,rfl,g3⟩:=cu g2;cases g3 with
   | fn=>exact go g1 g2 trivial hk
   | gone hi _ _=>simp[aG] at hi
  exact hk.elim
 ·-- binOp
  rename_i op t x z w0 ho;split at hk
  rotate_left
  ·exact hk.elim
  rename_i a b ha hb;obtain⟨ta,g1,g2⟩:=fK hE ha;obtain⟨tb,g3,g4⟩:=fK hE hb;split at hk
  ·split at hk
   ·rename_i v ps hd;obtain⟨hp,hk⟩:=jo hk;obtain⟨w,e1,e2⟩:=a1V (P:=P) (t:=t) (x:=x) (z:=z) g2 g4 hd hp;exact dY hR e2 (by simp only[jq,ho,g1,g3,e1,Option.map_some]) hk
   exact hk.elim
  split at hk
  ·rename_i v q hv;obtain⟨w,e1,e2⟩:=Ri (x:=x) (y:=z) hR.heap g2 g4 hv hk.1;exact dY hR e2 (by simp only[jq,ho,g1,g3,e1,Option.map_some]) hk.2
  split at hk
  ·split at hk
   ·rename_i w r;split at hk
    ·rename_i v ua ub e1 e2 e3;obtain⟨FT,hk⟩:=hk;rw[<-iP g2 e2,<-iP g4 e3] at FT;exact dY hR (nD e1) (by simp only[jq,ho,g1,g3,FT,Option.map_some]) hk
    exact hk.elim
   exact hk.elim
  split at hk
  ·rename_i v hv;obtain⟨w,e1,e2⟩:=LU g2 g4 hv;exact dY hR e2 (by simp only[jq,ho,g1,g3,e1,Option.map_some]) hk
  exact hk.elim
 ·-- unOp
  rename_i op t x ho;split at hk
  ·rename_i a ha;obtain⟨ta,g1,g2⟩:=fK hE ha;split at hk
   ·rename_i v hv;obtain⟨w,e1,e2⟩:=dR g2 hv;exact dY hR e2 (by simp only[jq,ho,g1,e1,Option.map_some]) hk
   exact hk.elim
  exact hk.elim
 ·-- convert
  rename_i s d x ho;split at hk
  ·rename_i a ha;obtain⟨ta,g1,g2⟩:=fK hE ha;split at hk
   ·split at hk
    ·rename_i w r;split at hk
     ·rename_i v ua e1 e2;obtain⟨FT,hk⟩:=hk;rw[<-iP g2 e2] at FT;exact dY hR (nD e1) (by simp only[jq,ho,g1,FT,Option.map_some]) hk
     exact hk.elim
    exact hk.elim
   split at hk
   ·rename_i v hv;obtain⟨w,e1,e2⟩:=Ii g2 hv;exact dY hR e2 (by simp only[jq,ho,g1,e1,Option.map_some]) hk
   exact hk.elim
  exact hk.elim
 ·-- makeFunc
  rename_i f first cap ho
  split at hk
  ·rename_i a b ha hb;obtain⟨ta,g1,g2⟩:=IZ hE ha;obtain⟨tb,g3,g4⟩:=IZ hE hb;exact dY hR (.fn g2.1 g2.2 g4.1 g4.2) (by simp only[jq,ho,g1,g3]) hk
  exact hk.elim
 ·-- makeMap
  rename_i t r ho;have hp:=hR.heap.push (pb:=.map []) (hb:=.map []) (mb:=.cO ts.heap.length) (.inl rfl) ⟨[],by simp,rfl,fun i a b ha=>by simp at ha⟩;have go:jq P call site ts o=some (.val (.map ts.heap.length),{ ts with heap:=ts.heap++[.map []] },aA)->∀ {an:PT X.Γ},(k (.val (.map ps.heap.length)) { ps with heap:=ps.heap++[.map []] } pI an).Ends y->UO X P A m call site ts o k y:=fun h1 an h2=>
   ⟨.val (.map ps.heap.length),_,_,_,⟨_,_,aA,_,h1,rfl,rfl,hR.step hp.1 hp.2.1 hp.2.2,ji (.map (by rw[<-hR.heap.len];simp)),hp.2.1,hp.2.2,.none,fun b hb=>by cases hb⟩,h2⟩
  split at hk
  ·rename_i h1;obtain⟨w,g1,g2⟩:=yO hE h1;have:=kC g2;subst this;exact go (by simp only[jq,ho,g1]) hk
  ·rename_i k0 n0 kt vt h1 hu;obtain⟨w,g1,g2⟩:=yO hE h1;have:=NH g2;subst this;exact go (by simp only[jq,ho,g1,hu]) hk
  exact hk.elim
 ·-- makeSlice
  rename_i t l c ho;split at hk
  ·rename_i vl vc hl hc;obtain⟨tl,g1,g2⟩:=fK hE hl;obtain⟨tc,g3,g4⟩:=fK hE hc;split at hk
   ·rename_i v H1 qs hv;obtain⟨hq,hk⟩:=jo hk;refine lD hR (qO hX hR g2 g4 hv hq) ?_ hk;simp only[jq,ho,g1,g3,Option.map_map];rfl
   exact hk.elim
  exact hk.elim
 ·-- slice
  rename_i t x lo hi mx ho;split at hk
  rotate_left
  ·exact hk.elim
  rename_i px plo phi pmx hx JF TI hmx;obtain⟨ex,g1,g2⟩:=jE hE hx;obtain⟨FY,g3,g4⟩:=yO hE JF;obtain⟨FZ,g5,g6⟩:=yO hE TI;obtain⟨UH,g7,g8⟩:=yO hE hmx;split at hk
  ·rename_i n e hu;split at hk
   ·split at hk
    ·rename_i v hv;refine lD (H1:=ps.heap) hR (J5 hR g2 g4 g6 g8 hv) ?_ hk;simp only[jq,ho,g1,g3,g5,g7,hu,Option.map_map];rfl
    exact hk.elim
   split at hk
   ·rename_i v H1 qs hv;obtain⟨hq,hk⟩:=jo hk;refine lD hR (sQ hX hR g2 g4 g6 g8 hv hq) ?_ hk;simp only[jq,ho,g1,g3,g5,g7,hu,Option.map_map];rfl
   exact hk.elim
  rename_i aex;have AV:∀ {w:TV},ex=.val w->jq P call site ts o=(jB P t w FY FZ UH).map fun v=>(.val v,ts,aA):=by
   intro w e;subst e;simp only[jq,ho,g1,g3,g5,g7]
  split at hk
  ·rename_i b;obtain⟨w,rfl,g9⟩:=cu g2;have:w=.str b:=by
    cases g9 with
    | str=>rfl
    | gone hi _ _=>simp[aG] at hi
   subst this;split at hk
   rotate_left
   ·exact hk.elim
   rename_i w r;split at hk
   rotate_left
   ·exact hk.elim
   rename_i v tl th e1 e2 e3;split at hk
   rotate_left
   ·exact hk.elim
   rename_i a5x;obtain⟨hs,hk⟩:=hk;have h7:UH=none:=by
    cases pmx with
    | none=>exact kC g8
    | some _=>simp at a5x
   have h5:FY=tl:=by
    cases plo with
    | none=>simp at e2;rw[kC g4,e2]
    | some q=>
     obtain⟨tq,rfl⟩:=CS g4;simp only[Option.map_eq_some_iff] at e2;obtain⟨q1,q2,rfl⟩:=e2;rw[iP (show VR X P (AA A m) m ts.heap q tq from g4) q2]
   have h6:FZ=th:=by
    cases phi with
    | none=>simp at e3;rw[kC g6,e3]
    | some q=>
     obtain⟨tq,rfl⟩:=CS g6;simp only[Option.map_eq_some_iff] at e3;obtain⟨q1,q2,rfl⟩:=e3;rw[iP (show VR X P (AA A m) m ts.heap q tq from g6) q2]
   subst h5;subst h6;subst h7;exact dY hR (nD e1) (by rw[AV rfl,hs];rfl) hk
  ·rename_i px' hns;obtain⟨w,rfl,g9⟩:=cu g2;split at hk
   ·rename_i v qs hv;obtain⟨hq,hk⟩:=jo hk;obtain⟨w',e1,e2⟩:=Dz hR g9 g4 g6 g8 hv hq;exact dY hR e2 (by rw[AV rfl,e1];rfl) hk
   exact hk.elim
  exact hk.elim
 ·-- fieldAddr
  rename_i t x f ho;split at hk
  ·rename_i pa n ha hn;obtain⟨ea,g1,g2⟩:=jE hE ha;split at hk
   ·rename_i v hv;obtain⟨eb,g3,g4⟩:=Dw hR g2 hv;exact⟨_,_,_,_,nG hR (by simp only[jq,ho,g1,hn,g3,Option.map_some]) g4,hk⟩
   exact hk.elim
  exact hk.elim
 ·-- field
  rename_i t x f ho;split at hk
  ·rename_i a ha;obtain⟨ta,g1,g2⟩:=fK hE ha;split at hk
   ·rename_i v hv;obtain⟨w,e1,e2⟩:=Dx g2 hv;exact dY hR e2 (by simp only[jq,ho,g1,e1,Option.map_some]) hk
   exact hk.elim
  exact hk.elim
 ·-- indexAddr
  rename_i t x i ho;split at hk
  ·rename_i pa vi ha hi;obtain⟨ea,g1,g2⟩:=jE hE ha;obtain⟨ti,g3,g4⟩:=fK hE hi;split at hk
   ·rename_i v qs hv;obtain⟨hq,hk⟩:=jo hk;obtain⟨eb,g5,g6⟩:=qL hR g2 g4 hv hq;exact⟨_,_,_,_,nG hR (by simp only[jq,ho,g1,g3,g5,Option.map_some]) g6,hk⟩
   exact hk.elim
  exact hk.elim
 ·-- index
  rename_i t x i ho;split at hk
  ·rename_i a vi ha hi;obtain⟨ta,g1,g2⟩:=fK hE ha;obtain⟨ti,g3,g4⟩:=fK hE hi;split at hk
   ·split at hk
    ·rename_i w r;split at hk
     ·rename_i v ua ui e1 e2 e3;obtain⟨FT,hk⟩:=hk;rw[<-iP g2 e2,<-iP g4 e3] at FT;exact dY hR (nD e1) (by simp only[jq,ho,g1,g3,FT,Option.map_some]) hk
     exact hk.elim
    exact hk.elim
   split at hk
   ·rename_i v hv;obtain⟨w,e1,e2⟩:=Dy g2 g4 hv;exact dY hR e2 (by simp only[jq,ho,g1,g3,e1,Option.map_some]) hk
   exact hk.elim
  exact hk.elim
 ·-- lookup
  rename_i t mm i ok ho;split at hk
  ·rename_i vm vi hm hi;obtain⟨tm,g1,g2⟩:=fK hE hm;obtain⟨ti,g3,g4⟩:=fK hE hi;obtain⟨v,pi,Bg,w,e1,e2,e3,e4⟩:=XJ hR g2 g4 hk;refine⟨.val v,_,_,_,⟨.val w,ts,_,m,?_,rfl,rfl,hR,e2,.refl,.refl,e4,fun b hb=>by cases hb⟩,e3⟩;simp only[jq,ho,g1,g3,e1,Option.map_some];cases tm<;>rfl
  exact hk.elim
 ·-- mapUpdate
  rename_i t mm i x ho;split at hk
  ·rename_i vm vi vx hm hi hx;obtain⟨tm,g1,g2⟩:=fK hE hm;obtain⟨ti,g3,g4⟩:=fK hE hi;obtain⟨tx,g5,g6⟩:=fK hE hx;obtain⟨fJ,pi,Bg,h1,a1X,e1,e2,e3,e4,e5,e6⟩:=UK hR g2 g4 g6 hk;exact⟨.undef,_,_,_,⟨.undef,{ ts with heap:=h1 },a1X,m,by simp only[jq,ho,g1,g3,g5,e1,Option.map_some],rfl,rfl,e2,trivial,e3,.refl,e5,e6⟩,e4⟩
  exact hk.elim
 ·-- insert
  rename_i t mm i x ho;split at hk
  ·rename_i vm vi vx hm hi hx;obtain⟨tm,g1,g2⟩:=fK hE hm;obtain⟨ti,g3,g4⟩:=fK hE hi;obtain⟨tx,g5,g6⟩:=fK hE hx;obtain⟨fJ,pi,Bg,h1,a1X,e1,e2,e3,e4,e5,e6⟩:=UK hR g2 g4 g6 hk;exact⟨.undef,_,_,_,⟨.undef,{ ts with heap:=h1 },a1X,m,by simp only[jq,ho,g1,g3,g5,e1,Option.map_some],rfl,rfl,e2,trivial,e3,.refl,e5,e6⟩,e4⟩
  exact hk.elim
 ·-- extract
  rename_i t i ho;split at hk
  ·rename_i vs hv;obtain⟨w,g1,g2⟩:=fK hE hv;split at hk
   ·rename_i v hvi;cases g2 with
    | bH h1 h2=>
     obtain⟨x,e1,e2⟩:=aH.get ⟨h1,h2⟩ hvi;exact dY hR e2 (by simp only[jq,ho,g1,e1,Option.map_some]) hk
    | gone hi _ _=>simp[aG] at hi
   exact hk.elim
  exact hk.elim
 ·-- call
  rename_i c ho;split at hk
  rotate_left
  ·exact hk.elim
  rename_i az has;obtain⟨tas,g1,g2⟩:=IZ hE has;have nY:∀ {b:Builtin},c.callee=.builtin b->∀ {r:Option (TV×St×gu)},jl P b c.argTypes o.type ts tas=r->jq P call site ts o=r.map fun (v,s,i)=>(.val v,s,i):=by
   intro b hb r hr;simp only[jq,ho,AL,hb,g1,hr]
  split at hk
  ·rename_i hb;split at hk
   ·rename_i x;obtain⟨tx,r,rfl,q1,q2⟩:=g2.inv;have:=q2.inv0;subst this;split at hk
    ·rename_i v i hv;obtain⟨w,ti,e1,e2,e3,e4⟩:=LW hR.heap q1 hv;exact⟨.val v,_,_,_,⟨.val w,ts,ti,m,by rw[nY hb (r:=some (w,ts,ti)) (by simp only[jl,e1,Option.map_some])];rfl,rfl,rfl,hR,ji e2,.refl,.refl,e3,fun b hb=>by rw[e4] at hb;cases hb⟩,hk⟩
    exact hk.elim
   exact hk.elim
  ·rename_i hb;split at hk
   ·rename_i d x;obtain⟨td,r,rfl,q1,q2⟩:=g2.inv;obtain⟨tx,r,rfl,q3,q4⟩:=q2.inv;have:=q4.inv0;subst this;split at hk
    ·rename_i v H1 i qs hv;obtain⟨hq,hk⟩:=jo hk;exact lD hR (zQ hX hR q1 q3 hv hq) (nY hb rfl) hk
    split at hk
    ·split at hk
     ·rename_i v H1 i qs hv;obtain⟨hq,hk⟩:=jo hk;exact lD hR (KA hX hR q1 q3 hv hq) (nY hb rfl) hk
     exact hk.elim
    split at hk
    ·rename_i v H1 i qs hv;obtain⟨hq,hk⟩:=jo hk;exact lD hR (NG hX hR q1 q3 hv hq) (nY hb rfl) hk
    exact hk.elim
   exact hk.elim
  ·rename_i hb;split at hk
   ·rename_i d x;obtain⟨td,r,rfl,q1,q2⟩:=g2.inv;obtain⟨tx,r,rfl,q3,q4⟩:=q2.inv;have:=q4.inv0;subst this;split at hk
    ·rename_i v H1 i hv;exact lD hR (Io hX hR q1 q3 hv) (nY hb rfl) hk
    exact hk.elim
   exact hk.elim
  ·rename_i hb;split at hk
   ·rename_i v hv;obtain⟨w,e1,e2⟩:=pV g2 hv;refine dY hR e2 ?_ hk;rw[nY hb (r:=some (w,ts,aA)) (by simp only[jl,e1,Option.map_some])];rfl
   exact hk.elim
  ·rename_i hb;split at hk
   ·rename_i v hv;obtain⟨w,e1,e2⟩:=pV g2 hv;refine dY hR e2 ?_ hk;rw[nY hb (r:=some (w,ts,aA)) (by simp only[jl,e1,Option.map_some])];rfl
   exact hk.elim
  ·rename_i f hb;split at hk
   rotate_left
   ·exact hk.elim
   rename_i fv hfv;obtain⟨tf,f1,f2⟩:=fK hE hfv;have AV:∀ {w:TV} {h1:List HB} {ws:List Nat},call tf tas ts.heap=some (w,h1,ws)->jq P call site ts o=some (.val w,{ ts with heap:=h1 },⟨true,[],ws.map .h⟩):=by
    intro w h1 ws hc;simp only[jq,ho,AL,hb,g1,f1,hc]
   unfold Uu at hk;split at hk
   ·rename_i v H1 r;obtain⟨hs,hk⟩:=hk;obtain⟨w,h1,ws,m1,c1,c2,c3,c4,c5,c6⟩:=hs A m ts.heap tf tas hR.heap f2 g2;refine⟨.val v,_,_,_,⟨.val w,_,_,m1,AV c1,rfl,rfl,hR.step c2 c4 c5,ji c3,c4,c5,⟨fun _=>rfl,fun k hk=>(by cases hk),fun k hk=>?_,fun b hb=>?_,fun b hb=>(by cases hb),fun h=>(by cases h)⟩,fun b hb=>?_⟩,hk⟩
    ·simp at hk
    ·simp at hb;exact .inr ⟨rfl,c6 b hb⟩
    simp at hb;exact c6 b hb
   ·split at hk
    ·rename_i Hp lH hp;split at hk
     ·rename_i Hs fv1 xs1 hHs a1Y a1Z;split at hk
      ·rename_i v1 LC hv1 a2a;obtain⟨hs,hk⟩:=hk;simp only[Bool.and_eq_true,decide_eq_true_eq] at lH;obtain⟨w,h1,ws,m1,c1,c2,c3,c4,c5,c6⟩:=Ad hX hs.w lH.1 hp hHs a1Y a1Z hv1 a2a lH.2 A m ts.heap tf tas hR.heap f2 g2;refine⟨.val v1,_,_,_,⟨.val w,_,_,m1,AV c1,rfl,rfl,hR.step c2 c4 c5,ji c3,c4,c5,⟨fun _=>rfl,fun k hk=>(by cases hk),fun k hk=>?_,fun b hb=>?_,fun b hb=>(by cases hb),fun h=>(by cases h)⟩,fun b hb=>?_⟩,hk⟩
       ·simp at hk
       ·simp at hb;obtain⟨_,k,h8,_,h9⟩:=c6 b hb;exact .inl ⟨k,List.mem_map.2 ⟨k,List.mem_of_getElem? h8,rfl⟩,h9⟩
       simp at hb;obtain⟨_,k,_,_,mb,h8,h9⟩:=c6 b hb;exact aC h8 h9
      exact hk.elim
     exact hk.elim
    exact hk.elim
   ·split at hk
    ·rename_i Hp lH hp;split at hk
     ·rename_i Hs fv1 xs1 hHs a1Y a1Z;split at hk
      ·rename_i v1 LC Hs2 H2 hv1 a2a a9F;obtain⟨hs,hk⟩:=hk;simp only[Bool.and_eq_true,decide_eq_true_eq] at lH;have hsl:Hs.length=_:=(kS hHs).1.trans (vH hp).1;obtain⟨w,h1,ws,m1,c1,c2,c3,c4,c5,c6⟩:=Ad hX (NP a9F (by rw[hsl];exact lH.2) hs.w) lH.1 hp hHs a1Y a1Z hv1 a2a lH.2 A m ts.heap tf tas hR.heap f2 g2;refine⟨.val v1,_,_,_,⟨.val w,_,_,m1,AV c1,rfl,rfl,hR.step c2 c4 c5,ji c3,c4,c5,⟨fun _=>rfl,fun k hk=>(by cases hk),fun k hk=>?_,fun b hb=>?_,fun b hb=>(by cases hb),fun h=>(by cases h)⟩,fun b hb=>?_⟩,hk⟩
       ·simp at hk
       ·simp at hb;obtain⟨p,k,h8,h7,h9⟩:=c6 b hb;exact .inl ⟨k,List.mem_map.2 ⟨k,KG h8 (by simpa using h7.2),rfl⟩,h9⟩
       simp at hb;obtain⟨_,k,_,_,mb,h8,h9⟩:=c6 b hb;exact aC h8 h9
      exact hk.elim
     exact hk.elim
    exact hk.elim
   split at hk
   ·rename_i g first cap _
    cases f2 with
    | gone hi _ _=>simp[aG] at hi
    | fn p1 p2 p3 p4=>
     split at hk
     ·rename_i vs Ji;split at hk
      ·rename_i v ext qs a9G;split at hk
       ·rename_i ext' vS;obtain⟨hq,hk⟩:=jo hk;obtain⟨w,h1,m1,c1,c2,c3,c4,c5⟩:=XH hX (hO _ _ _ _ _ a9G hq) hR.heap Ji vS ⟨p1,p2⟩ g2 ⟨p3,p4⟩;refine⟨.val (shift ps.heap.length v),_,_,_,⟨.val w,_,_,m1,AV c1,rfl,rfl,hR.step c2 c4 c5,ji c3,c4,c5,⟨fun _=>rfl,fun k hk=>(by cases hk),fun k hk=>(by simp at hk),fun b hb=>(by simp at hb),fun b hb=>(by cases hb),fun h=>(by cases h)⟩,fun b hb=>(by simp at hb)⟩,hk⟩
       exact hk.elim
      exact hk.elim
     exact hk.elim
   exact hk.elim
  exact hk.elim
 ·-- range
  rename_i t x ho;split at hk
  ·rename_i r kt et hx hu;obtain⟨tx,g1,g2⟩:=fK hE hx;split at hk
   ·rename_i es Gw;obtain⟨c,fQ,q0,q3,q4,q5⟩:=ug hR.heap Gw;have htm:=PS g2 q0;subst htm;have aN:r<m.length:=by rcases q0 with q1 | ⟨q1,_⟩<;>exact (List.getElem?_eq_some_iff.1 q1).1
    have hp:=hR.heap.push (pb:=.bn r es.length []) (hb:=.bn c es.length []) (mb:=.cO ts.heap.length) (.inl rfl) ⟨c,by simp,by rw[List.getElem?_append_left aN];rcases q0 with q1 | ⟨q1,_⟩<;>rw[q1]<;>rfl,fun c' hc=>by
     rw[List.getElem?_append_left aN] at hc;rcases q0 with q1 | ⟨q1,_⟩<;>rw[q1] at hc<;>simp at hc<;>exact hc.symm⟩
    have go:jq P call site ts o=some (.val (.iter ts.heap.length),{ ts with heap:=ts.heap++[.bn c es.length []] },nS (.h c)):=by
     simp only[jq,ho,g1,hu,q3,q4]
    exact⟨.val (.iter ps.heap.length),_,_,_,⟨_,_,nS (.h c),_,go,rfl,rfl,hR.step hp.1 hp.2.1 hp.2.2,ji (.iter (by rw[<-hR.heap.len];simp)),hp.2.1,hp.2.2,IR.reads rfl (fun b hb=>by simp[nS] at hb;subst hb;exact⟨Hl q0,(List.getElem?_eq_some_iff.1 q3).1⟩) (by simp[nS]),fun b hb=>by simp[nS] at hb⟩,hk⟩
   exact hk.elim
  exact hk.elim
 ·-- entry
  rename_i x ho;split at hk
  rotate_left
  ·exact hk.elim
  rename_i b hx;obtain⟨tx,g1,g2⟩:=fK hE hx;split at hk
  rotate_left
  ·exact hk.elim
  rename_i r n i seen hb;split at hk
  rotate_left
  ·exact hk.elim
  rename_i es Gw;split at hk
  ·rename_i kk vv _ rest;obtain⟨⟨hn,he⟩,hk⟩:=hk;obtain⟨e,rfl,rfl⟩:∃ e:PV X.Γ×PV X.Γ,e.1=kk∧e.2=vv:=⟨(kk,vv),rfl,rfl⟩;have he:es[i]? = some e:=he;obtain⟨mb,q1,q2⟩:=hR.heap.at_ b _ hb;cases mb with
   | cO cb=>
    obtain⟨c,q3,_,q5⟩:=q2;obtain⟨c',fQ,z1,z3,z4,z5⟩:=ug hR.heap Gw;have:=q5 c' (by rcases z1 with z1 | ⟨z1,_⟩;exact .inl z1;exact .inr z1);subst this;cases g2 with
    | gone hi e _=>simp only[aG,Option.some.injEq] at hi;subst hi;rw[q1] at e;cases e
    | iter e1=>
     rw[q1] at e1;cases e1;have hl:i<fQ.length:=by rw[<-z4];exact (List.getElem?_eq_some_iff.1 he).1
     have he':=List.getElem?_eq_getElem hl;have hv:=z5 i _ _ he he';refine⟨.val (.bH [e.1,e.2]),_,_,_,⟨.val (.bH [fQ[i].1,fQ[i].2]),ts,bW [.h cb,.h c'],m,?_,rfl,rfl,hR,ji (CU (pq hv.1) (pq hv.2)),.refl,.refl,IR.reads rfl (fun b2 vX=>?_) (by simp[bW]),fun b hb=>by simp[bW] at hb⟩,hk⟩
     ·simp only[jq,ho,g1,q3,z3];rw[if_pos (by rw[<-z4];exact hn),he'];rfl
     simp[bW] at vX;rcases vX with rfl | rfl
     ·exact⟨.inl ⟨b,by simp[bW],dw q1 rfl⟩,(List.getElem?_eq_some_iff.1 q3).1⟩
     refine⟨?_,(List.getElem?_eq_some_iff.1 z3).1⟩;rcases z1 with z1 | ⟨_,z1⟩
     ·exact .inl ⟨r,by simp[bW],dw z1 rfl⟩
     exact .inr z1
   | _=>exact q2.elim
  split at hk
  case isFalse=>exact hk.elim
  rename_i hn;split at hk
  case h_2=>exact hk.elim
  rename_i e he;obtain⟨mb,q1,q2⟩:=hR.heap.at_ b _ hb;cases mb with
  | cO cb=>
   obtain⟨c,q3,_,q5⟩:=q2;obtain⟨c',fQ,z1,z3,z4,z5⟩:=ug hR.heap Gw;have:=q5 c' (by rcases z1 with z1 | ⟨z1,_⟩;exact .inl z1;exact .inr z1);subst this;cases g2 with
   | gone hi e _=>simp only[aG,Option.some.injEq] at hi;subst hi;rw[q1] at e;cases e
   | iter e1=>
    rw[q1] at e1;cases e1;have hl:i<fQ.length:=by rw[<-z4];exact (List.getElem?_eq_some_iff.1 he).1
    have he':=List.getElem?_eq_getElem hl;have hv:=z5 i _ _ he he';refine⟨.val (.bH [e.1,e.2]),_,_,_,⟨.val (.bH [fQ[i].1,fQ[i].2]),ts,bW [.h cb,.h c'],m,?_,rfl,rfl,hR,ji (CU (pq hv.1) (pq hv.2)),.refl,.refl,IR.reads rfl (fun b2 vX=>?_) (by simp[bW]),fun b hb=>by simp[bW] at hb⟩,hk⟩
    ·simp only[jq,ho,g1,q3,z3];rw[if_pos (by rw[<-z4];exact hn),he'];rfl
    simp[bW] at vX;rcases vX with rfl | rfl
    ·exact⟨.inl ⟨b,by simp[bW],dw q1 rfl⟩,(List.getElem?_eq_some_iff.1 q3).1⟩
    refine⟨?_,(List.getElem?_eq_some_iff.1 z3).1⟩;rcases z1 with z1 | ⟨_,z1⟩
    ·exact .inl ⟨r,by simp[bW],dw z1 rfl⟩
    exact .inr z1
  | _=>exact q2.elim
 exact hk.elim
end
end Pv
